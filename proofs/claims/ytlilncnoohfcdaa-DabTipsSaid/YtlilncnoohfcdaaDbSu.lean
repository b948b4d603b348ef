/-
  A list of operations that is written as two lists joined is opened to its first operation. No condition.
-/
import Derived.Test.YtlilncnoohfcdaaDbSt
namespace Go.Proofs.Ytlilncnoohfcdaa.Db
open Go.RowKit
theorem zbC {P:Program} {ops:Array Oper} {Q:Exit→Act→World→Prop} {o:Oper} {rest:List Oper} {a:Act} {W:World} (h:wpList P ops Q (o :: rest) a W):wpList P ops Q (o :: rest) a W:=h
end Go.Proofs.Ytlilncnoohfcdaa.Db
