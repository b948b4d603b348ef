/-
  RandomMixes: the number of any arguments is the upper half of the mixed number, and the mixing can be undone, for every seed, index and dimension. No condition.
-/
import Derived.Test.YtpjmpmgomealmaaRax1
import Derived.Test.YtpjmpmgomealmaaRan
namespace Go.Proofs.Ytpjmpmgomealmaa.Pure
open Go.RowKit Go.Proofs.Ytpjmpmgomealmaa.Ra

theorem RandomMixes : imageeditorlaw25_RandomMixes.Pure := Ran.mixes
end Go.Proofs.Ytpjmpmgomealmaa.Pure
