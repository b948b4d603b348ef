/-
  DabChecks as a plain function gives true. Condition: the dab's angle is a number of 64 bits.
-/
import Derived.Test.YtlilncnoohfcdaaDabAwake
import Derived.Test.YtlilncnoohfcdaaDbx6
namespace Go.Proofs.Ytlilncnoohfcdaa.Num
open Go.RowKit Go.Proofs.YtlilncnoohfcdaaW.PrintWords Go.Proofs.YtlilncnoohfcdaaW.PrintLast Go.Proofs.YtlilncnoohfcdaaW.PrintMore Go.Proofs.Ytlilncnoohfcdaa.Da Go.Proofs.Ytlilncnoohfcdaa.Db
theorem dabChecks (a0 a1 a2 a3 a4 a5 a6 a7 a8 a9 a10 a11 a12 a13 : Int) (l : List S120) (e : Bool) (d0 d1 d2 d3 d4 : Int) (h : (Lit.int .i64 d4).wf = true) :
    imageeditorlaw27_DabChecks.f 200 a0 a1 a2 a3 a4 a5 a6 a7 a8 a9 a10 a11 a12 a13 l e d0 d1 d2 d3 d4 = some true := by
  have h := wfi h
  unfold imageeditorlaw27_DabChecks.f
  rw [check_f 200 (by omega), bsome, refCheck_f 200 (by omega), bsome, if_pos rfl, box_f _ _ _ _ _ h, bsome, refBox_f 200 (by omega) _ _ _ _ _ h, bsome, if_pos (by simp), awake_ok, bsome]
end Go.Proofs.Ytlilncnoohfcdaa.Num
