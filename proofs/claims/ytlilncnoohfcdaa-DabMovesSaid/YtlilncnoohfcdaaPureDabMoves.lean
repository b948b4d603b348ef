/-
  DabMoves as a plain function gives true. Condition: the dab's angle is a number of 64 bits.
-/
import Derived.Test.YtlilncnoohfcdaaDbx4
import Derived.Test.YtlilncnoohfcdaaDabAwake
import Derived.Test.YtlilncnoohfcdaaDabPlain
namespace Go.Proofs.Ytlilncnoohfcdaa.Num
open Go.RowKit Go.Proofs.YtlilncnoohfcdaaW.PrintWords Go.Proofs.YtlilncnoohfcdaaW.PrintLast Go.Proofs.YtlilncnoohfcdaaW.PrintMore Go.Proofs.Ytlilncnoohfcdaa.Da Go.Proofs.Ytlilncnoohfcdaa.Db
theorem dabMoves (a0 a1 a2 a3 a4 a5 a6 a7 a8 a9 a10 a11 a12 a13 : Int) (l : List S120) (e : Bool) (d0 d1 d2 d3 d4 x y i j : Int) (h : (Lit.int .i64 d4).wf = true) :
    imageeditorlaw27_DabMoves.f 200 a0 a1 a2 a3 a4 a5 a6 a7 a8 a9 a10 a11 a12 a13 l e d0 d1 d2 d3 d4 x y i j = some true := by
  have h := wfi h
  unfold imageeditorlaw27_DabMoves.f
  rw [awake_ok, bsome]
  by_cases c1 : x < -524288
  · rw [if_pos c1]
  by_cases c2 : x > 524288
  · rw [if_neg c1, if_pos c2]
  by_cases c3 : y < -524288
  · rw [if_neg c1, if_neg c2, if_pos c3]
  by_cases c4 : y > 524288
  · rw [if_neg c1, if_neg c2, if_neg c3, if_pos c4]
  rw [if_neg c1, if_neg c2, if_neg c3, if_neg c4]
  by_cases c5 : i < -524288
  · rw [if_pos c5]
  by_cases c6 : i > 524288
  · rw [if_neg c5, if_pos c6]
  by_cases c7 : j < -524288
  · rw [if_neg c5, if_neg c6, if_pos c7]
  by_cases c8 : j > 524288
  · rw [if_neg c5, if_neg c6, if_neg c7, if_pos c8]
  rw [if_neg c5, if_neg c6, if_neg c7, if_neg c8]
  by_cases g1 : d0 < -8388608
  · rw [if_pos g1]
  by_cases g2 : d0 > 8388608
  · rw [if_neg g1, if_pos g2]
  by_cases g3 : d1 < -8388608
  · rw [if_neg g1, if_neg g2, if_pos g3]
  by_cases g4 : d1 > 8388608
  · rw [if_neg g1, if_neg g2, if_neg g3, if_pos g4]
  rw [if_neg g1, if_neg g2, if_neg g3, if_neg g4]
  rw [w64 (n := 16 * i) (by omega) (by omega), w64 (n := 16 * j) (by omega) (by omega), w64 (n := d0 + 16 * i) (by omega) (by omega), w64 (n := d1 + 16 * j) (by omega) (by omega), w64 (n := x + i) (by omega) (by omega), w64 (n := y + j) (by omega) (by omega)]
  rw [cover_f 200 (by omega) _ _ _ _ _ _ _ _ _ _ _ _ _ _ _ _ _ _ _ _ _ _ _ h, bsome, cover_f 200 (by omega) _ _ _ _ _ _ _ _ _ _ _ _ _ _ _ _ _ _ _ _ _ _ _ h, bsome,
    cover_move _ _ _ _ d0 d1 _ _ _ x y i j (by omega) (by omega) (by omega) (by omega) (by omega) (by omega), if_pos rfl]
end Go.Proofs.Ytlilncnoohfcdaa.Num
