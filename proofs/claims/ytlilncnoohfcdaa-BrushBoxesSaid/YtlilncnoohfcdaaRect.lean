/-
  Plain facts on rectangles (package rect and the reference of layer 2): Valid, Empty. Conditions stand in each statement.
-/
import Derived.Test.YtlilncnoohfcdaaDax17
import Derived.Test.YtlilncnoohfcdaaDax8
import Derived.Test.YtlilncnoohfcdaaDax9
import Derived.Test.YtlilncnoohfcdaaNum
namespace Go.Proofs.Ytlilncnoohfcdaa.Num
open Go.RowKit Go.Proofs.YtlilncnoohfcdaaW.PrintWords Go.Proofs.YtlilncnoohfcdaaW.PrintLast Go.Proofs.YtlilncnoohfcdaaW.PrintMore Go.Proofs.Ytlilncnoohfcdaa.Da Go.Proofs.Ytlilncnoohfcdaa.Br
def rvalid (x y w h:Int):Bool:=decide (-1048576≤x∧x≤1048576∧-1048576≤y∧y≤1048576∧0≤w∧0≤h∧w≤1048576 - x∧h≤1048576 - y)
theorem span_f (a b:Int):zck.f a b=some (decide (-1048576≤a∧a≤1048576∧0≤b∧b≤1048576 - a)):=by
  unfold zck.f
  by_cases c1:a≥-1048576
  · rw [if_pos c1]
    by_cases c2:a≤1048576
    · rw [if_pos c2,w64 (by omega) (by omega)]
      by_cases c3:b≥0
      · rw [if_pos c3];congr 1;rw [decide_eq_decide];omega
      · rw [if_neg c3,decide_eq_false (by omega)]
    · rw [if_neg c2,decide_eq_false (by omega)]
  · rw [if_neg c1,decide_eq_false (by omega)]
theorem rectValid_f (x y w h:Int):zcv.f x y w h=some (rvalid x y w h):=by
  unfold zcv.f rvalid
  rw [span_f,zay]
  by_cases c : -1048576≤x∧x≤1048576∧0≤w∧w≤1048576 - x
  · rw [if_pos (decide_eq_true c),span_f,zay];congr 1;rw [decide_eq_decide];omega
  · rw [if_neg (by simpa using c),decide_eq_false (by omega)]
theorem refRectValid_f (x y w h:Int):za9.f x y w h=some (rvalid x y w h):=by
  unfold za9.f rvalid
  by_cases c1:x < -1048576
  · rw [if_pos c1,decide_eq_false (by omega)]
  by_cases c2:x > 1048576
  · rw [if_neg c1,if_pos c2,decide_eq_false (by omega)]
  by_cases c3:y < -1048576
  · rw [if_neg c1,if_neg c2,if_pos c3,decide_eq_false (by omega)]
  by_cases c4:y > 1048576
  · rw [if_neg c1,if_neg c2,if_neg c3,if_pos c4,decide_eq_false (by omega)]
  rw [if_neg c1,if_neg c2,if_neg c3,if_neg c4,w64 (n:=1048576 - x) (by omega) (by omega),w64 (n:=1048576 - y) (by omega) (by omega)]
  by_cases c5:w≥0
  · rw [if_pos c5]
    by_cases c6:h≥0
    · rw [if_pos c6]
      by_cases c7:w≤1048576 - x
      · rw [if_pos c7];congr 1;rw [decide_eq_decide];omega
      · rw [if_neg c7,decide_eq_false (by omega)]
    · rw [if_neg c6,decide_eq_false (by omega)]
  · rw [if_neg c5,decide_eq_false (by omega)]
theorem rectEmpty_f (x y w h:Int) (v:rvalid x y w h=true):zbG.f x y w h=some (if w=0 then true else h==0):=by
  unfold zbG.f zcA.f
  rw [rectValid_f,zay,if_pos v,zay]
  dsimp only
  split <;> rfl
theorem refRectEmpty_f (x y w h:Int) (v:rvalid x y w h=true):za1.f x y w h=some (if w=0 then true else h==0):=by
  unfold za1.f
  rw [refRectValid_f,zay,if_pos v]
  split <;> rfl
end Go.Proofs.Ytlilncnoohfcdaa.Num
