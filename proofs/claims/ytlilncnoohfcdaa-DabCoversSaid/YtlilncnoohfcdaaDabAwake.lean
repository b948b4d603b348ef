/-
  The worked examples of the dabs' chapter give true, with any number of rounds from 200. No condition.
-/
import Derived.Test.YtlilncnoohfcdaaDbx2
import Derived.Test.YtlilncnoohfcdaaDab
namespace Go.Proofs.Ytlilncnoohfcdaa.Num
open Go.RowKit Go.Proofs.YtlilncnoohfcdaaW.PrintWords Go.Proofs.YtlilncnoohfcdaaW.PrintLast Go.Proofs.YtlilncnoohfcdaaW.PrintMore Go.Proofs.Ytlilncnoohfcdaa.Da Go.Proofs.Ytlilncnoohfcdaa.Db
theorem awake_ok : imageeditorlaw27_awake.f 200 = some true := by kernel_rfl
end Go.Proofs.Ytlilncnoohfcdaa.Num
