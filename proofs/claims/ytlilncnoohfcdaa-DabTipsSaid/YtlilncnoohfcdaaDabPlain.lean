/-
  Plain facts on the coverage of a dab: moves, mirrors, its range, and where it is zero. No condition.
-/
import Derived.Test.YtlilncnoohfcdaaDabCov
import Derived.Test.YtlilncnoohfcdaaDax19
namespace Go.Proofs.Ytlilncnoohfcdaa.Num
open Go.RowKit Go.Proofs.YtlilncnoohfcdaaW.PrintWords Go.Proofs.YtlilncnoohfcdaaW.PrintLast Go.Proofs.YtlilncnoohfcdaaW.PrintMore Go.Proofs.Ytlilncnoohfcdaa.Da
theorem clC_id (z:Int) (h : -1048576≤z∧z≤1048576):clC z=z:=by unfold clC mn mx;(repeat' split) <;> omega
end Go.Proofs.Ytlilncnoohfcdaa.Num
