/-
  DabCovers as a plain function gives true. Condition: the dab's angle is a number of 64 bits.
-/
import Derived.Test.YtlilncnoohfcdaaDbx7
import Derived.Test.YtlilncnoohfcdaaDabAwake
import Derived.Test.YtlilncnoohfcdaaDabPlain
namespace Go.Proofs.Ytlilncnoohfcdaa.Num
open Go.RowKit Go.Proofs.YtlilncnoohfcdaaW.PrintWords Go.Proofs.YtlilncnoohfcdaaW.PrintLast Go.Proofs.YtlilncnoohfcdaaW.PrintMore Go.Proofs.Ytlilncnoohfcdaa.Da Go.Proofs.Ytlilncnoohfcdaa.Db
theorem covers_end (a1 a2 a6 ck d0 d1 d2 d3 d4 x y : Int) (wf : -9223372036854775808 ≤ d4 ∧ d4 < 9223372036854775808) (ha : ck = 0 → 0 ≤ a1 ∧ a1 ≤ 65535 ∧ 4096 ≤ a2 ∧ a2 ≤ 65535) :
    (if x < (-1048576) then (some true) else (if x ≥ 1048576 then (some true) else (if y < (-1048576) then (some true) else (if y ≥ 1048576 then (some true) else (if cover a1 a2 a6 ck d0 d1 d2 d3 d4 x y = 0 then (some true) else ((dab_Box.f d0 d1 d2 d3 d4).bind fun bt => ((rect_Has.f bt.1 bt.2.1 bt.2.2.1 bt.2.2.2 x y).bind fun t => (some t))))))))
      = some true := by
  by_cases c1 : x < -1048576
  · rw [if_pos c1]
  by_cases c2 : x ≥ 1048576
  · rw [if_neg c1, if_pos c2]
  by_cases c3 : y < -1048576
  · rw [if_neg c1, if_neg c2, if_pos c3]
  by_cases c4 : y ≥ 1048576
  · rw [if_neg c1, if_neg c2, if_neg c3, if_pos c4]
  rw [if_neg c1, if_neg c2, if_neg c3, if_neg c4]
  by_cases c5 : cover a1 a2 a6 ck d0 d1 d2 d3 d4 x y = 0
  · rw [if_pos c5]
  · rw [if_neg c5, box_f _ _ _ _ _ wf, bsome, cover_box a1 a2 a6 ck d0 d1 d2 d3 d4 x y ha (by omega) (by omega) c5, bsome]
theorem dabCovers (a0 a1 a2 a3 a4 a5 a6 a7 a8 a9 a10 a11 a12 a13 : Int) (l : List S120) (e : Bool) (d0 d1 d2 d3 d4 x y : Int) (h : (Lit.int .i64 d4).wf = true) :
    imageeditorlaw27_DabCovers.f 200 a0 a1 a2 a3 a4 a5 a6 a7 a8 a9 a10 a11 a12 a13 l e d0 d1 d2 d3 d4 x y = some true := by
  have h := wfi h
  unfold imageeditorlaw27_DabCovers.f
  rw [cover_f 200 (by omega) _ _ _ _ _ _ _ _ _ _ _ _ _ _ _ _ _ _ _ _ _ _ _ h, bsome, refCover_f 200 (by omega) _ _ _ _ _ _ _ _ _ _ _ _ _ _ _ _ _ _ _ _ _ _ _ h, bsome, if_pos rfl]
  have b := cover_bd a1 a2 a6 (bcheck a0 a1 a2 a3 a4 a5 a6 a7 a8 a9 a10 a11 a12 a13 l) d0 d1 d2 d3 d4 x y
  have tail := covers_end a1 a2 a6 (bcheck a0 a1 a2 a3 a4 a5 a6 a7 a8 a9 a10 a11 a12 a13 l) d0 d1 d2 d3 d4 x y h (fun c => by have := bcheck_rng a0 a1 a2 a3 a4 a5 a6 a7 a8 a9 a10 a11 a12 a13 l c; omega)
  rw [if_neg (by omega)]
  by_cases c : cover a1 a2 a6 (bcheck a0 a1 a2 a3 a4 a5 a6 a7 a8 a9 a10 a11 a12 a13 l) d0 d1 d2 d3 d4 x y > 0
  · rw [if_pos c, if_neg (by have := uni_low d3 (by omega); omega), awake_ok, bsome, if_pos rfl]
    exact tail
  · rw [if_neg c, awake_ok, bsome, if_pos rfl]
    exact tail
end Go.Proofs.Ytlilncnoohfcdaa.Num
