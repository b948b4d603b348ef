/-
  The worked examples of the dabs' chapter give true, with any number of rounds from 200. No condition.
-/
import Derived.Test.YtlilncnoohfcdaaDbx2
import Derived.Test.YtlilncnoohfcdaaDab
namespace Go.Proofs.Ytlilncnoohfcdaa.Num
open Go.RowKit Go.Proofs.YtlilncnoohfcdaaW.PrintWords Go.Proofs.YtlilncnoohfcdaaW.PrintLast Go.Proofs.YtlilncnoohfcdaaW.PrintMore Go.Proofs.Ytlilncnoohfcdaa.Da Go.Proofs.Ytlilncnoohfcdaa.Db
theorem awake_ok:za8.f 200=some true:=by kernel_rfl
theorem awake_k (k:Nat) (h:200≤k):za8.f k=some true:=by
  obtain ⟨n,rfl⟩ : ∃ n,k=200+n:=⟨k - 200,by omega⟩
  clear h
  induction n with
  | zero=>exact awake_ok
  | succ n ih=>exact za8.mono (200+n) _ ih
end Go.Proofs.Ytlilncnoohfcdaa.Num
