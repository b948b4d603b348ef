/-
  RandomAts: the number of any arguments, below any limit and as a unit value, is the reference's, for every seed, index and dimension. No condition.
-/
import Derived.Test.YtpjmpmgomealmaaRax1
import Derived.Test.YtpjmpmgomealmaaRan
namespace Go.Proofs.Ytpjmpmgomealmaa.Pure
open Go.RowKit Go.Proofs.Ytpjmpmgomealmaa.Ra

theorem RandomAts : imageeditorlaw25_RandomAts.Pure := Ran.ats
end Go.Proofs.Ytpjmpmgomealmaa.Pure
