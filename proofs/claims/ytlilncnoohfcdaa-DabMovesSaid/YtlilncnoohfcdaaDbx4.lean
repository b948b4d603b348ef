-- PRINTED by print.py (a twelfth state) out of the translation. Not trusted: Lean checks it.
import Derived.Test.YtlilncnoohfcdaaDax0
import Derived.Test.YtlilncnoohfcdaaDax8
import Derived.Test.YtlilncnoohfcdaaDbx0
import Derived.Test.YtlilncnoohfcdaaDbx2
namespace Go.Proofs.Ytlilncnoohfcdaa.Db
open Go.RowKit Go.Proofs.YtlilncnoohfcdaaW.PrintWords Go.Proofs.YtlilncnoohfcdaaW.PrintLast Go.Proofs.YtlilncnoohfcdaaW.PrintMore Go.Proofs.Ytlilncnoohfcdaa.Da
attribute [local go_sem] max2_int min2_int max_two min_two max_three min_three max_four min_four   -- for this text's walks alone
set_option linter.unusedVariables false
set_option linter.unusedSimpArgs false

/-! ### imageeditorlaw27_DabMoves: function 5 -/
def imageeditorlaw27_DabMoves.f (k : Nat) (a0_0 : Int) (a0_1 : Int) (a0_2 : Int) (a0_3 : Int) (a0_4 : Int) (a0_5 : Int) (a0_6 : Int) (a0_7 : Int) (a0_8 : Int) (a0_9 : Int) (a0_10 : Int) (a0_11 : Int) (a0_12 : Int) (a0_13 : Int) (l0_14 : List (S120)) (a0_15 : Bool) (a1_0 : Int) (a1_1 : Int) (a1_2 : Int) (a1_3 : Int) (a1_4 : Int) (a2 : Int) (a3 : Int) (a4 : Int) (a5 : Int) : Option (Bool) := if a2 < (-524288) then ((imageeditorlaw27_awake.f k).bind fun t228 => (some t228)) else (if a2 > 524288 then ((imageeditorlaw27_awake.f k).bind fun t229 => (some t229)) else (if a3 < (-524288) then ((imageeditorlaw27_awake.f k).bind fun t230 => (some t230)) else (if a3 > 524288 then ((imageeditorlaw27_awake.f k).bind fun t231 => (some t231)) else (if a4 < (-524288) then ((imageeditorlaw27_awake.f k).bind fun t232 => (some t232)) else (if a4 > 524288 then ((imageeditorlaw27_awake.f k).bind fun t233 => (some t233)) else (if a5 < (-524288) then ((imageeditorlaw27_awake.f k).bind fun t234 => (some t234)) else (if a5 > 524288 then ((imageeditorlaw27_awake.f k).bind fun t235 => (some t235)) else (if a1_0 < (-8388608) then ((imageeditorlaw27_awake.f k).bind fun t236 => (some t236)) else (if a1_0 > 8388608 then ((imageeditorlaw27_awake.f k).bind fun t237 => (some t237)) else (if a1_1 < (-8388608) then ((imageeditorlaw27_awake.f k).bind fun t238 => (some t238)) else (if a1_1 > 8388608 then ((imageeditorlaw27_awake.f k).bind fun t239 => (some t239)) else ((dab_Cover.f k a0_0 a0_1 a0_2 a0_3 a0_4 a0_5 a0_6 a0_7 a0_8 a0_9 a0_10 a0_11 a0_12 a0_13 l0_14 a0_15 (wrap64 (a1_0 + (wrap64 (16 * a4)))) (wrap64 (a1_1 + (wrap64 (16 * a5)))) a1_2 a1_3 a1_4 (wrap64 (a2 + a4)) (wrap64 (a3 + a5))).bind fun t241 => ((dab_Cover.f k a0_0 a0_1 a0_2 a0_3 a0_4 a0_5 a0_6 a0_7 a0_8 a0_9 a0_10 a0_11 a0_12 a0_13 l0_14 a0_15 a1_0 a1_1 a1_2 a1_3 a1_4 a2 a3).bind fun t242 => (if t241 = t242 then ((imageeditorlaw27_awake.f k).bind fun t243 => (some t243)) else (none)))))))))))))))
def imageeditorlaw27_DabMoves.T6 : Bool × List (List Nat × List Nat) := (true, [([], []), ([0], [0]), ([], []), ([2], [2]), ([1, 3], [1, 3]), ([], []), ([5], [5]), ([], []), ([7], [7]), ([6, 8], [6, 8]), ([0, 1, 2, 3, 4], []), ([10, 4, 0, 1, 2, 3, 4], [4, 10]), ([0, 1, 2, 3, 4, 5, 6, 7, 8, 9, 10, 11], []), ([12, 9, 11, 0, 1, 2, 3, 4, 5, 6, 7, 8, 9, 10, 11], [9, 12])])
def imageeditorlaw27_DabMoves.B6 : List Nat := [0, 1, 0, 4, 15, 0, 32, 0, 128, 480, 31, 1055, 4095, 8191]
theorem imageeditorlaw27_DabMoves.tab6 : rtab .any (opsOf Try.f5 6) = imageeditorlaw27_DabMoves.T6 := by kernel_rfl
theorem imageeditorlaw27_DabMoves.bits6 : waitsOk imageeditorlaw27_DabMoves.T6.2 imageeditorlaw27_DabMoves.B6 = true := by kernel_rfl
def imageeditorlaw27_DabMoves.T7 : Bool × List (List Nat × List Nat) := (true, [([], []), ([], []), ([], []), ([], []), ([2, 3], [2, 3]), ([], []), ([], []), ([5, 6], [5, 6]), ([0, 1, 4, 7], [0, 1, 4, 7]), ([], []), ([], []), ([], []), ([], []), ([9, 10, 11, 12, 8], [9, 10, 11, 12]), ([8, 13], [8, 13]), ([14, 13], [14]), ([15, 15], [15]), ([15, 16], [15, 16]), ([17, 16, 0, 1, 2, 3, 4, 5, 6, 7, 8, 9, 10, 11, 12, 13, 14, 15, 16, 17], [17])])
def imageeditorlaw27_DabMoves.B7 : List Nat := [0, 0, 0, 0, 12, 0, 0, 96, 255, 0, 0, 0, 0, 8191, 16383, 32767, 65535, 131071, 262143]
theorem imageeditorlaw27_DabMoves.tab7 : rtab .any (opsOf Try.f5 7) = imageeditorlaw27_DabMoves.T7 := by kernel_rfl
theorem imageeditorlaw27_DabMoves.bits7 : waitsOk imageeditorlaw27_DabMoves.T7.2 imageeditorlaw27_DabMoves.B7 = true := by kernel_rfl
set_option maxHeartbeats 8000000 in
set_option maxRecDepth 100000 in
theorem imageeditorlaw27_DabMoves.calls (k : Nat) (a0_0 : Int) (a0_1 : Int) (a0_2 : Int) (a0_3 : Int) (a0_4 : Int) (a0_5 : Int) (a0_6 : Int) (a0_7 : Int) (a0_8 : Int) (a0_9 : Int) (a0_10 : Int) (a0_11 : Int) (a0_12 : Int) (a0_13 : Int) (A0_14 : Option Addr) (c0_14 : Nat) (l0_14 : List (S120)) (a0_15 : Bool) (a1_0 : Int) (a1_1 : Int) (a1_2 : Int) (a1_3 : Int) (a1_4 : Int) (a2 : Int) (a3 : Int) (a4 : Int) (a5 : Int) (r : Bool) (w : World) (hr0_14 : Kd.C k120 w A0_14 l0_14.length l0_14) (hc0_14 : l0_14.length ≤ c0_14) (h : imageeditorlaw27_DabMoves.f k a0_0 a0_1 a0_2 a0_3 a0_4 a0_5 a0_6 a0_7 a0_8 a0_9 a0_10 a0_11 a0_12 a0_13 l0_14 a0_15 a1_0 a1_1 a1_2 a1_3 a1_4 a2 a3 a4 a5 = some r) :
 Calls Try.prog 5 #[.agg #[.int .i64 a0_0, .int .i64 a0_1, .int .i64 a0_2, .int .i64 a0_3, .int .i64 a0_4, .int .i64 a0_5, .int .i64 a0_6, .int .i64 a0_7, .int .i64 a0_8, .int .i64 a0_9, .int .i64 a0_10, .int .i64 a0_11, .int .i64 a0_12, .int .i64 a0_13, .slice A0_14 l0_14.length c0_14, .bool a0_15], .agg #[.int .i64 a1_0, .int .i64 a1_1, .int .i64 a1_2, .int .i64 a1_3, .int .i64 a1_4], .int .i64 a2, .int .i64 a3, .int .i64 a4, .int .i64 a5] w fun e w' => e = .returned (.bool r) ∧ Below w.heap.size w w' := by
 have hu26 := Try.underlying26
 have hu28 := Try.underlying28
 have HR0_14 := Aside0.mk hr0_14
 have HC0_14 := Aside0.mk hc0_14
 clear hr0_14 hc0_14
 have HB := Aside0.mk (Below.refl w.heap.size w)
 have H : (if a2 < (-524288) then ((imageeditorlaw27_awake.f k).bind fun t228 => (some t228)) else (if a2 > 524288 then ((imageeditorlaw27_awake.f k).bind fun t229 => (some t229)) else (if a3 < (-524288) then ((imageeditorlaw27_awake.f k).bind fun t230 => (some t230)) else (if a3 > 524288 then ((imageeditorlaw27_awake.f k).bind fun t231 => (some t231)) else (if a4 < (-524288) then ((imageeditorlaw27_awake.f k).bind fun t232 => (some t232)) else (if a4 > 524288 then ((imageeditorlaw27_awake.f k).bind fun t233 => (some t233)) else (if a5 < (-524288) then ((imageeditorlaw27_awake.f k).bind fun t234 => (some t234)) else (if a5 > 524288 then ((imageeditorlaw27_awake.f k).bind fun t235 => (some t235)) else (if a1_0 < (-8388608) then ((imageeditorlaw27_awake.f k).bind fun t236 => (some t236)) else (if a1_0 > 8388608 then ((imageeditorlaw27_awake.f k).bind fun t237 => (some t237)) else (if a1_1 < (-8388608) then ((imageeditorlaw27_awake.f k).bind fun t238 => (some t238)) else (if a1_1 > 8388608 then ((imageeditorlaw27_awake.f k).bind fun t239 => (some t239)) else ((dab_Cover.f k a0_0 a0_1 a0_2 a0_3 a0_4 a0_5 a0_6 a0_7 a0_8 a0_9 a0_10 a0_11 a0_12 a0_13 l0_14 a0_15 (wrap64 (a1_0 + (wrap64 (16 * a4)))) (wrap64 (a1_1 + (wrap64 (16 * a5)))) a1_2 a1_3 a1_4 (wrap64 (a2 + a4)) (wrap64 (a3 + a5))).bind fun t241 => ((dab_Cover.f k a0_0 a0_1 a0_2 a0_3 a0_4 a0_5 a0_6 a0_7 a0_8 a0_9 a0_10 a0_11 a0_12 a0_13 l0_14 a0_15 a1_0 a1_1 a1_2 a1_3 a1_4 a2 a3).bind fun t242 => (if t241 = t242 then ((imageeditorlaw27_awake.f k).bind fun t243 => (some t243)) else (none)))))))))))))))) = some r := h
 clear h
 by_cases c7 : a2 < (-524288)
 ·rw [if_pos c7] at H
  have c7b0 : decide (a2 < (-524288)) = true := decide_eq_true c7
  clear c7
  replace H := Option.bind_eq_some_iff.mp H
  obtain ⟨t228, A80, H⟩ := H
  replace H : (some t228) = some r := H
  have A8 := Aside0.mk A80
  clear A80
  obtain rfl := Option.some.inj H
  go_enter Try.func5, Try.ntmps5
  go_wp2_with (first | ((with_reducible refine gate_dst (N := 6) rfl ?_); refine box_event ?hg (N := 6) ?hd (cs := #[.int .i64 a0_0, .int .i64 a0_1, .int .i64 a0_2, .int .i64 a0_3, .int .i64 a0_4, .int .i64 a0_5, .int .i64 a0_6, .int .i64 a0_7, .int .i64 a0_8, .int .i64 a0_9, .int .i64 a0_10, .int .i64 a0_11, .int .i64 a0_12, .int .i64 a0_13, .slice A0_14 l0_14.length c0_14, .bool a0_15]) (t := 26) ?hr ?_; (case hd => rfl); (case hg => rfl); (case hr => first | (go_simp; done) | (go_simp; rfl)); intro gb226 hg w9 hbox hb; have n0_ := Aside0.mk (below_step (zL HB.out) hb); have n1_ := Aside0.mk (hbox); have n2_ := Aside0.mk ((zS hg (zL HB.out) : w.heap.size ≤ gb226)); have n3_ := Aside0.mk ((zS hg (zL HB.out) : w.heap.size ≤ gb226)); clear HB; have HB := n0_; have BK226 := n1_; have GW226 := n2_; have GE226 := n3_; clear n0_ n1_ n2_ n3_; clear hb hbox hg) | ((with_reducible refine gate_dst (N := 7) rfl ?_); refine box_event ?hg (N := 7) ?hd (cs := #[.int .i64 a1_0, .int .i64 a1_1, .int .i64 a1_2, .int .i64 a1_3, .int .i64 a1_4]) (t := 28) ?hr ?_; (case hd => rfl); (case hg => rfl); (case hr => first | (go_simp; done) | (go_simp; rfl)); intro gb227 hg w10 hbox hb; have n0_ := Aside0.mk (blk_below (zB BK226.out) hb); have n1_ := Aside0.mk (below_step (zL1 HB.out GE226.out) hb); have n2_ := Aside0.mk (hbox); have n3_ := Aside0.mk ((zS hg (zL1 HB.out GE226.out) : w.heap.size ≤ gb227)); have n4_ := Aside0.mk ((zS hg (zL1 HB.out GE226.out) : w.heap.size ≤ gb227)); have n5_ := Aside0.mk ((by rw [hg]; exact Nat.ne_of_lt (blk_lt (zB BK226.out)) : gb226 ≠ gb227)); have n6_ := Aside0.mk ((by rw [hg]; exact Nat.ne_of_gt (blk_lt (zB BK226.out)) : gb227 ≠ gb226)); clear BK226; clear HB; have BK226 := n0_; have HB := n1_; have BK227 := n2_; have GW227 := n3_; have GE227 := n4_; have NB226_227 := n5_; have NB227_226 := n6_; clear n0_ n1_ n2_ n3_ n4_ n5_ n6_; clear hb hbox hg) | ((with_reducible refine gate_callee (f := 18) rfl ?_); refine goesL_ (some 86) rfl rfl Try.func18 (by kernel_rfl) rfl #[] rfl zA ?_; (with_reducible refine (imageeditorlaw27_awake.calls k  t228 _ A8.out).mono ?_); rintro e w11 ⟨rfl, hb⟩; refine ⟨_, rfl, ?_⟩; replace BK226 := Aside0.mk (blk_below (zB BK226.out) hb); replace BK227 := Aside0.mk (blk_below (zB BK227.out) hb); replace HB := Aside0.mk (below_step (zL2 HB.out GE226.out GE227.out) hb); (try clear hb); (try clear hb2); (try clear hk); (try clear hi)))
  go_ret
  exact ⟨by first | rfl | (simp [errW_none, errW_some] <;> rfl) | (simp [*, errW_none, errW_some] <;> rfl), by repeat (first | (with_reducible first | exact HB.out | apply below_alloc | apply pw_below_drewN | apply below_drew1 | refine below_set ?_ GE226.out | refine below_set ?_ GE227.out) | exact HB.out)⟩
 ·rw [if_neg c7] at H
  have c7b0 : decide (a2 < (-524288)) = false := decide_eq_false c7
  clear c7
  by_cases c12 : a2 > 524288
  ·rw [if_pos c12] at H
   have c12b0 : decide (524288 < a2) = true := decide_eq_true c12
   clear c12
   replace H := Option.bind_eq_some_iff.mp H
   obtain ⟨t229, A130, H⟩ := H
   replace H : (some t229) = some r := H
   have A13 := Aside0.mk A130
   clear A130
   obtain rfl := Option.some.inj H
   go_enter Try.func5, Try.ntmps5
   go_wp2_with (first | ((with_reducible refine gate_dst (N := 6) rfl ?_); refine box_event ?hg (N := 6) ?hd (cs := #[.int .i64 a0_0, .int .i64 a0_1, .int .i64 a0_2, .int .i64 a0_3, .int .i64 a0_4, .int .i64 a0_5, .int .i64 a0_6, .int .i64 a0_7, .int .i64 a0_8, .int .i64 a0_9, .int .i64 a0_10, .int .i64 a0_11, .int .i64 a0_12, .int .i64 a0_13, .slice A0_14 l0_14.length c0_14, .bool a0_15]) (t := 26) ?hr ?_; (case hd => rfl); (case hg => rfl); (case hr => first | (go_simp; done) | (go_simp; rfl)); intro gb226 hg w14 hbox hb; have n0_ := Aside0.mk (below_step (zL HB.out) hb); have n1_ := Aside0.mk (hbox); have n2_ := Aside0.mk ((zS hg (zL HB.out) : w.heap.size ≤ gb226)); have n3_ := Aside0.mk ((zS hg (zL HB.out) : w.heap.size ≤ gb226)); clear HB; have HB := n0_; have BK226 := n1_; have GW226 := n2_; have GE226 := n3_; clear n0_ n1_ n2_ n3_; clear hb hbox hg) | ((with_reducible refine gate_dst (N := 7) rfl ?_); refine box_event ?hg (N := 7) ?hd (cs := #[.int .i64 a1_0, .int .i64 a1_1, .int .i64 a1_2, .int .i64 a1_3, .int .i64 a1_4]) (t := 28) ?hr ?_; (case hd => rfl); (case hg => rfl); (case hr => first | (go_simp; done) | (go_simp; rfl)); intro gb227 hg w15 hbox hb; have n0_ := Aside0.mk (blk_below (zB BK226.out) hb); have n1_ := Aside0.mk (below_step (zL1 HB.out GE226.out) hb); have n2_ := Aside0.mk (hbox); have n3_ := Aside0.mk ((zS hg (zL1 HB.out GE226.out) : w.heap.size ≤ gb227)); have n4_ := Aside0.mk ((zS hg (zL1 HB.out GE226.out) : w.heap.size ≤ gb227)); have n5_ := Aside0.mk ((by rw [hg]; exact Nat.ne_of_lt (blk_lt (zB BK226.out)) : gb226 ≠ gb227)); have n6_ := Aside0.mk ((by rw [hg]; exact Nat.ne_of_gt (blk_lt (zB BK226.out)) : gb227 ≠ gb226)); clear BK226; clear HB; have BK226 := n0_; have HB := n1_; have BK227 := n2_; have GW227 := n3_; have GE227 := n4_; have NB226_227 := n5_; have NB227_226 := n6_; clear n0_ n1_ n2_ n3_ n4_ n5_ n6_; clear hb hbox hg) | ((with_reducible refine gate_callee (f := 18) rfl ?_); refine goesL_ (some 86) rfl rfl Try.func18 (by kernel_rfl) rfl #[] rfl zA ?_; (with_reducible refine (imageeditorlaw27_awake.calls k  t229 _ A13.out).mono ?_); rintro e w16 ⟨rfl, hb⟩; refine ⟨_, rfl, ?_⟩; replace BK226 := Aside0.mk (blk_below (zB BK226.out) hb); replace BK227 := Aside0.mk (blk_below (zB BK227.out) hb); replace HB := Aside0.mk (below_step (zL2 HB.out GE226.out GE227.out) hb); (try clear hb); (try clear hb2); (try clear hk); (try clear hi)))
   go_ret
   exact ⟨by first | rfl | (simp [errW_none, errW_some] <;> rfl) | (simp [*, errW_none, errW_some] <;> rfl), by repeat (first | (with_reducible first | exact HB.out | apply below_alloc | apply pw_below_drewN | apply below_drew1 | refine below_set ?_ GE226.out | refine below_set ?_ GE227.out) | exact HB.out)⟩
  ·rw [if_neg c12] at H
   have c12b0 : decide (524288 < a2) = false := decide_eq_false c12
   clear c12
   by_cases c17 : a3 < (-524288)
   ·rw [if_pos c17] at H
    have c17b0 : decide (a3 < (-524288)) = true := decide_eq_true c17
    clear c17
    replace H := Option.bind_eq_some_iff.mp H
    obtain ⟨t230, A180, H⟩ := H
    replace H : (some t230) = some r := H
    have A18 := Aside0.mk A180
    clear A180
    obtain rfl := Option.some.inj H
    go_enter Try.func5, Try.ntmps5
    go_wp2_with (first | ((with_reducible refine gate_dst (N := 6) rfl ?_); refine box_event ?hg (N := 6) ?hd (cs := #[.int .i64 a0_0, .int .i64 a0_1, .int .i64 a0_2, .int .i64 a0_3, .int .i64 a0_4, .int .i64 a0_5, .int .i64 a0_6, .int .i64 a0_7, .int .i64 a0_8, .int .i64 a0_9, .int .i64 a0_10, .int .i64 a0_11, .int .i64 a0_12, .int .i64 a0_13, .slice A0_14 l0_14.length c0_14, .bool a0_15]) (t := 26) ?hr ?_; (case hd => rfl); (case hg => rfl); (case hr => first | (go_simp; done) | (go_simp; rfl)); intro gb226 hg w19 hbox hb; have n0_ := Aside0.mk (below_step (zL HB.out) hb); have n1_ := Aside0.mk (hbox); have n2_ := Aside0.mk ((zS hg (zL HB.out) : w.heap.size ≤ gb226)); have n3_ := Aside0.mk ((zS hg (zL HB.out) : w.heap.size ≤ gb226)); clear HB; have HB := n0_; have BK226 := n1_; have GW226 := n2_; have GE226 := n3_; clear n0_ n1_ n2_ n3_; clear hb hbox hg) | ((with_reducible refine gate_dst (N := 7) rfl ?_); refine box_event ?hg (N := 7) ?hd (cs := #[.int .i64 a1_0, .int .i64 a1_1, .int .i64 a1_2, .int .i64 a1_3, .int .i64 a1_4]) (t := 28) ?hr ?_; (case hd => rfl); (case hg => rfl); (case hr => first | (go_simp; done) | (go_simp; rfl)); intro gb227 hg w20 hbox hb; have n0_ := Aside0.mk (blk_below (zB BK226.out) hb); have n1_ := Aside0.mk (below_step (zL1 HB.out GE226.out) hb); have n2_ := Aside0.mk (hbox); have n3_ := Aside0.mk ((zS hg (zL1 HB.out GE226.out) : w.heap.size ≤ gb227)); have n4_ := Aside0.mk ((zS hg (zL1 HB.out GE226.out) : w.heap.size ≤ gb227)); have n5_ := Aside0.mk ((by rw [hg]; exact Nat.ne_of_lt (blk_lt (zB BK226.out)) : gb226 ≠ gb227)); have n6_ := Aside0.mk ((by rw [hg]; exact Nat.ne_of_gt (blk_lt (zB BK226.out)) : gb227 ≠ gb226)); clear BK226; clear HB; have BK226 := n0_; have HB := n1_; have BK227 := n2_; have GW227 := n3_; have GE227 := n4_; have NB226_227 := n5_; have NB227_226 := n6_; clear n0_ n1_ n2_ n3_ n4_ n5_ n6_; clear hb hbox hg) | ((with_reducible refine gate_callee (f := 18) rfl ?_); refine goesL_ (some 86) rfl rfl Try.func18 (by kernel_rfl) rfl #[] rfl zA ?_; (with_reducible refine (imageeditorlaw27_awake.calls k  t230 _ A18.out).mono ?_); rintro e w21 ⟨rfl, hb⟩; refine ⟨_, rfl, ?_⟩; replace BK226 := Aside0.mk (blk_below (zB BK226.out) hb); replace BK227 := Aside0.mk (blk_below (zB BK227.out) hb); replace HB := Aside0.mk (below_step (zL2 HB.out GE226.out GE227.out) hb); (try clear hb); (try clear hb2); (try clear hk); (try clear hi)))
    go_ret
    exact ⟨by first | rfl | (simp [errW_none, errW_some] <;> rfl) | (simp [*, errW_none, errW_some] <;> rfl), by repeat (first | (with_reducible first | exact HB.out | apply below_alloc | apply pw_below_drewN | apply below_drew1 | refine below_set ?_ GE226.out | refine below_set ?_ GE227.out) | exact HB.out)⟩
   ·rw [if_neg c17] at H
    have c17b0 : decide (a3 < (-524288)) = false := decide_eq_false c17
    clear c17
    by_cases c22 : a3 > 524288
    ·rw [if_pos c22] at H
     have c22b0 : decide (524288 < a3) = true := decide_eq_true c22
     clear c22
     replace H := Option.bind_eq_some_iff.mp H
     obtain ⟨t231, A230, H⟩ := H
     replace H : (some t231) = some r := H
     have A23 := Aside0.mk A230
     clear A230
     obtain rfl := Option.some.inj H
     go_enter Try.func5, Try.ntmps5
     go_wp2_with (first | ((with_reducible refine gate_dst (N := 6) rfl ?_); refine box_event ?hg (N := 6) ?hd (cs := #[.int .i64 a0_0, .int .i64 a0_1, .int .i64 a0_2, .int .i64 a0_3, .int .i64 a0_4, .int .i64 a0_5, .int .i64 a0_6, .int .i64 a0_7, .int .i64 a0_8, .int .i64 a0_9, .int .i64 a0_10, .int .i64 a0_11, .int .i64 a0_12, .int .i64 a0_13, .slice A0_14 l0_14.length c0_14, .bool a0_15]) (t := 26) ?hr ?_; (case hd => rfl); (case hg => rfl); (case hr => first | (go_simp; done) | (go_simp; rfl)); intro gb226 hg w24 hbox hb; have n0_ := Aside0.mk (below_step (zL HB.out) hb); have n1_ := Aside0.mk (hbox); have n2_ := Aside0.mk ((zS hg (zL HB.out) : w.heap.size ≤ gb226)); have n3_ := Aside0.mk ((zS hg (zL HB.out) : w.heap.size ≤ gb226)); clear HB; have HB := n0_; have BK226 := n1_; have GW226 := n2_; have GE226 := n3_; clear n0_ n1_ n2_ n3_; clear hb hbox hg) | ((with_reducible refine gate_dst (N := 7) rfl ?_); refine box_event ?hg (N := 7) ?hd (cs := #[.int .i64 a1_0, .int .i64 a1_1, .int .i64 a1_2, .int .i64 a1_3, .int .i64 a1_4]) (t := 28) ?hr ?_; (case hd => rfl); (case hg => rfl); (case hr => first | (go_simp; done) | (go_simp; rfl)); intro gb227 hg w25 hbox hb; have n0_ := Aside0.mk (blk_below (zB BK226.out) hb); have n1_ := Aside0.mk (below_step (zL1 HB.out GE226.out) hb); have n2_ := Aside0.mk (hbox); have n3_ := Aside0.mk ((zS hg (zL1 HB.out GE226.out) : w.heap.size ≤ gb227)); have n4_ := Aside0.mk ((zS hg (zL1 HB.out GE226.out) : w.heap.size ≤ gb227)); have n5_ := Aside0.mk ((by rw [hg]; exact Nat.ne_of_lt (blk_lt (zB BK226.out)) : gb226 ≠ gb227)); have n6_ := Aside0.mk ((by rw [hg]; exact Nat.ne_of_gt (blk_lt (zB BK226.out)) : gb227 ≠ gb226)); clear BK226; clear HB; have BK226 := n0_; have HB := n1_; have BK227 := n2_; have GW227 := n3_; have GE227 := n4_; have NB226_227 := n5_; have NB227_226 := n6_; clear n0_ n1_ n2_ n3_ n4_ n5_ n6_; clear hb hbox hg) | ((with_reducible refine gate_callee (f := 18) rfl ?_); refine goesL_ (some 86) rfl rfl Try.func18 (by kernel_rfl) rfl #[] rfl zA ?_; (with_reducible refine (imageeditorlaw27_awake.calls k  t231 _ A23.out).mono ?_); rintro e w26 ⟨rfl, hb⟩; refine ⟨_, rfl, ?_⟩; replace BK226 := Aside0.mk (blk_below (zB BK226.out) hb); replace BK227 := Aside0.mk (blk_below (zB BK227.out) hb); replace HB := Aside0.mk (below_step (zL2 HB.out GE226.out GE227.out) hb); (try clear hb); (try clear hb2); (try clear hk); (try clear hi)))
     go_ret
     exact ⟨by first | rfl | (simp [errW_none, errW_some] <;> rfl) | (simp [*, errW_none, errW_some] <;> rfl), by repeat (first | (with_reducible first | exact HB.out | apply below_alloc | apply pw_below_drewN | apply below_drew1 | refine below_set ?_ GE226.out | refine below_set ?_ GE227.out) | exact HB.out)⟩
    ·rw [if_neg c22] at H
     have c22b0 : decide (524288 < a3) = false := decide_eq_false c22
     clear c22
     by_cases c27 : a4 < (-524288)
     ·rw [if_pos c27] at H
      have c27b0 : decide (a4 < (-524288)) = true := decide_eq_true c27
      clear c27
      replace H := Option.bind_eq_some_iff.mp H
      obtain ⟨t232, A280, H⟩ := H
      replace H : (some t232) = some r := H
      have A28 := Aside0.mk A280
      clear A280
      obtain rfl := Option.some.inj H
      go_enter Try.func5, Try.ntmps5
      go_wp2_with (first | ((with_reducible refine gate_dst (N := 6) rfl ?_); refine box_event ?hg (N := 6) ?hd (cs := #[.int .i64 a0_0, .int .i64 a0_1, .int .i64 a0_2, .int .i64 a0_3, .int .i64 a0_4, .int .i64 a0_5, .int .i64 a0_6, .int .i64 a0_7, .int .i64 a0_8, .int .i64 a0_9, .int .i64 a0_10, .int .i64 a0_11, .int .i64 a0_12, .int .i64 a0_13, .slice A0_14 l0_14.length c0_14, .bool a0_15]) (t := 26) ?hr ?_; (case hd => rfl); (case hg => rfl); (case hr => first | (go_simp; done) | (go_simp; rfl)); intro gb226 hg w29 hbox hb; have n0_ := Aside0.mk (below_step (zL HB.out) hb); have n1_ := Aside0.mk (hbox); have n2_ := Aside0.mk ((zS hg (zL HB.out) : w.heap.size ≤ gb226)); have n3_ := Aside0.mk ((zS hg (zL HB.out) : w.heap.size ≤ gb226)); clear HB; have HB := n0_; have BK226 := n1_; have GW226 := n2_; have GE226 := n3_; clear n0_ n1_ n2_ n3_; clear hb hbox hg) | ((with_reducible refine gate_dst (N := 7) rfl ?_); refine box_event ?hg (N := 7) ?hd (cs := #[.int .i64 a1_0, .int .i64 a1_1, .int .i64 a1_2, .int .i64 a1_3, .int .i64 a1_4]) (t := 28) ?hr ?_; (case hd => rfl); (case hg => rfl); (case hr => first | (go_simp; done) | (go_simp; rfl)); intro gb227 hg w30 hbox hb; have n0_ := Aside0.mk (blk_below (zB BK226.out) hb); have n1_ := Aside0.mk (below_step (zL1 HB.out GE226.out) hb); have n2_ := Aside0.mk (hbox); have n3_ := Aside0.mk ((zS hg (zL1 HB.out GE226.out) : w.heap.size ≤ gb227)); have n4_ := Aside0.mk ((zS hg (zL1 HB.out GE226.out) : w.heap.size ≤ gb227)); have n5_ := Aside0.mk ((by rw [hg]; exact Nat.ne_of_lt (blk_lt (zB BK226.out)) : gb226 ≠ gb227)); have n6_ := Aside0.mk ((by rw [hg]; exact Nat.ne_of_gt (blk_lt (zB BK226.out)) : gb227 ≠ gb226)); clear BK226; clear HB; have BK226 := n0_; have HB := n1_; have BK227 := n2_; have GW227 := n3_; have GE227 := n4_; have NB226_227 := n5_; have NB227_226 := n6_; clear n0_ n1_ n2_ n3_ n4_ n5_ n6_; clear hb hbox hg) | ((with_reducible refine gate_callee (f := 18) rfl ?_); refine goesL_ (some 86) rfl rfl Try.func18 (by kernel_rfl) rfl #[] rfl zA ?_; (with_reducible refine (imageeditorlaw27_awake.calls k  t232 _ A28.out).mono ?_); rintro e w31 ⟨rfl, hb⟩; refine ⟨_, rfl, ?_⟩; replace BK226 := Aside0.mk (blk_below (zB BK226.out) hb); replace BK227 := Aside0.mk (blk_below (zB BK227.out) hb); replace HB := Aside0.mk (below_step (zL2 HB.out GE226.out GE227.out) hb); (try clear hb); (try clear hb2); (try clear hk); (try clear hi)))
      go_ret
      exact ⟨by first | rfl | (simp [errW_none, errW_some] <;> rfl) | (simp [*, errW_none, errW_some] <;> rfl), by repeat (first | (with_reducible first | exact HB.out | apply below_alloc | apply pw_below_drewN | apply below_drew1 | refine below_set ?_ GE226.out | refine below_set ?_ GE227.out) | exact HB.out)⟩
     ·rw [if_neg c27] at H
      have c27b0 : decide (a4 < (-524288)) = false := decide_eq_false c27
      clear c27
      by_cases c32 : a4 > 524288
      ·rw [if_pos c32] at H
       have c32b0 : decide (524288 < a4) = true := decide_eq_true c32
       clear c32
       replace H := Option.bind_eq_some_iff.mp H
       obtain ⟨t233, A330, H⟩ := H
       replace H : (some t233) = some r := H
       have A33 := Aside0.mk A330
       clear A330
       obtain rfl := Option.some.inj H
       go_enter Try.func5, Try.ntmps5
       go_wp2_with (first | ((with_reducible refine gate_dst (N := 6) rfl ?_); refine box_event ?hg (N := 6) ?hd (cs := #[.int .i64 a0_0, .int .i64 a0_1, .int .i64 a0_2, .int .i64 a0_3, .int .i64 a0_4, .int .i64 a0_5, .int .i64 a0_6, .int .i64 a0_7, .int .i64 a0_8, .int .i64 a0_9, .int .i64 a0_10, .int .i64 a0_11, .int .i64 a0_12, .int .i64 a0_13, .slice A0_14 l0_14.length c0_14, .bool a0_15]) (t := 26) ?hr ?_; (case hd => rfl); (case hg => rfl); (case hr => first | (go_simp; done) | (go_simp; rfl)); intro gb226 hg w34 hbox hb; have n0_ := Aside0.mk (below_step (zL HB.out) hb); have n1_ := Aside0.mk (hbox); have n2_ := Aside0.mk ((zS hg (zL HB.out) : w.heap.size ≤ gb226)); have n3_ := Aside0.mk ((zS hg (zL HB.out) : w.heap.size ≤ gb226)); clear HB; have HB := n0_; have BK226 := n1_; have GW226 := n2_; have GE226 := n3_; clear n0_ n1_ n2_ n3_; clear hb hbox hg) | ((with_reducible refine gate_dst (N := 7) rfl ?_); refine box_event ?hg (N := 7) ?hd (cs := #[.int .i64 a1_0, .int .i64 a1_1, .int .i64 a1_2, .int .i64 a1_3, .int .i64 a1_4]) (t := 28) ?hr ?_; (case hd => rfl); (case hg => rfl); (case hr => first | (go_simp; done) | (go_simp; rfl)); intro gb227 hg w35 hbox hb; have n0_ := Aside0.mk (blk_below (zB BK226.out) hb); have n1_ := Aside0.mk (below_step (zL1 HB.out GE226.out) hb); have n2_ := Aside0.mk (hbox); have n3_ := Aside0.mk ((zS hg (zL1 HB.out GE226.out) : w.heap.size ≤ gb227)); have n4_ := Aside0.mk ((zS hg (zL1 HB.out GE226.out) : w.heap.size ≤ gb227)); have n5_ := Aside0.mk ((by rw [hg]; exact Nat.ne_of_lt (blk_lt (zB BK226.out)) : gb226 ≠ gb227)); have n6_ := Aside0.mk ((by rw [hg]; exact Nat.ne_of_gt (blk_lt (zB BK226.out)) : gb227 ≠ gb226)); clear BK226; clear HB; have BK226 := n0_; have HB := n1_; have BK227 := n2_; have GW227 := n3_; have GE227 := n4_; have NB226_227 := n5_; have NB227_226 := n6_; clear n0_ n1_ n2_ n3_ n4_ n5_ n6_; clear hb hbox hg) | ((with_reducible refine gate_callee (f := 18) rfl ?_); refine goesL_ (some 86) rfl rfl Try.func18 (by kernel_rfl) rfl #[] rfl zA ?_; (with_reducible refine (imageeditorlaw27_awake.calls k  t233 _ A33.out).mono ?_); rintro e w36 ⟨rfl, hb⟩; refine ⟨_, rfl, ?_⟩; replace BK226 := Aside0.mk (blk_below (zB BK226.out) hb); replace BK227 := Aside0.mk (blk_below (zB BK227.out) hb); replace HB := Aside0.mk (below_step (zL2 HB.out GE226.out GE227.out) hb); (try clear hb); (try clear hb2); (try clear hk); (try clear hi)))
       go_ret
       exact ⟨by first | rfl | (simp [errW_none, errW_some] <;> rfl) | (simp [*, errW_none, errW_some] <;> rfl), by repeat (first | (with_reducible first | exact HB.out | apply below_alloc | apply pw_below_drewN | apply below_drew1 | refine below_set ?_ GE226.out | refine below_set ?_ GE227.out) | exact HB.out)⟩
      ·rw [if_neg c32] at H
       have c32b0 : decide (524288 < a4) = false := decide_eq_false c32
       clear c32
       by_cases c37 : a5 < (-524288)
       ·rw [if_pos c37] at H
        have c37b0 : decide (a5 < (-524288)) = true := decide_eq_true c37
        clear c37
        replace H := Option.bind_eq_some_iff.mp H
        obtain ⟨t234, A380, H⟩ := H
        replace H : (some t234) = some r := H
        have A38 := Aside0.mk A380
        clear A380
        obtain rfl := Option.some.inj H
        go_enter Try.func5, Try.ntmps5
        go_wp2_with (first | ((with_reducible refine gate_dst (N := 6) rfl ?_); refine box_event ?hg (N := 6) ?hd (cs := #[.int .i64 a0_0, .int .i64 a0_1, .int .i64 a0_2, .int .i64 a0_3, .int .i64 a0_4, .int .i64 a0_5, .int .i64 a0_6, .int .i64 a0_7, .int .i64 a0_8, .int .i64 a0_9, .int .i64 a0_10, .int .i64 a0_11, .int .i64 a0_12, .int .i64 a0_13, .slice A0_14 l0_14.length c0_14, .bool a0_15]) (t := 26) ?hr ?_; (case hd => rfl); (case hg => rfl); (case hr => first | (go_simp; done) | (go_simp; rfl)); intro gb226 hg w39 hbox hb; have n0_ := Aside0.mk (below_step (zL HB.out) hb); have n1_ := Aside0.mk (hbox); have n2_ := Aside0.mk ((zS hg (zL HB.out) : w.heap.size ≤ gb226)); have n3_ := Aside0.mk ((zS hg (zL HB.out) : w.heap.size ≤ gb226)); clear HB; have HB := n0_; have BK226 := n1_; have GW226 := n2_; have GE226 := n3_; clear n0_ n1_ n2_ n3_; clear hb hbox hg) | ((with_reducible refine gate_dst (N := 7) rfl ?_); refine box_event ?hg (N := 7) ?hd (cs := #[.int .i64 a1_0, .int .i64 a1_1, .int .i64 a1_2, .int .i64 a1_3, .int .i64 a1_4]) (t := 28) ?hr ?_; (case hd => rfl); (case hg => rfl); (case hr => first | (go_simp; done) | (go_simp; rfl)); intro gb227 hg w40 hbox hb; have n0_ := Aside0.mk (blk_below (zB BK226.out) hb); have n1_ := Aside0.mk (below_step (zL1 HB.out GE226.out) hb); have n2_ := Aside0.mk (hbox); have n3_ := Aside0.mk ((zS hg (zL1 HB.out GE226.out) : w.heap.size ≤ gb227)); have n4_ := Aside0.mk ((zS hg (zL1 HB.out GE226.out) : w.heap.size ≤ gb227)); have n5_ := Aside0.mk ((by rw [hg]; exact Nat.ne_of_lt (blk_lt (zB BK226.out)) : gb226 ≠ gb227)); have n6_ := Aside0.mk ((by rw [hg]; exact Nat.ne_of_gt (blk_lt (zB BK226.out)) : gb227 ≠ gb226)); clear BK226; clear HB; have BK226 := n0_; have HB := n1_; have BK227 := n2_; have GW227 := n3_; have GE227 := n4_; have NB226_227 := n5_; have NB227_226 := n6_; clear n0_ n1_ n2_ n3_ n4_ n5_ n6_; clear hb hbox hg) | ((with_reducible refine gate_callee (f := 18) rfl ?_); refine goesL_ (some 86) rfl rfl Try.func18 (by kernel_rfl) rfl #[] rfl zA ?_; (with_reducible refine (imageeditorlaw27_awake.calls k  t234 _ A38.out).mono ?_); rintro e w41 ⟨rfl, hb⟩; refine ⟨_, rfl, ?_⟩; replace BK226 := Aside0.mk (blk_below (zB BK226.out) hb); replace BK227 := Aside0.mk (blk_below (zB BK227.out) hb); replace HB := Aside0.mk (below_step (zL2 HB.out GE226.out GE227.out) hb); (try clear hb); (try clear hb2); (try clear hk); (try clear hi)))
        go_ret
        exact ⟨by first | rfl | (simp [errW_none, errW_some] <;> rfl) | (simp [*, errW_none, errW_some] <;> rfl), by repeat (first | (with_reducible first | exact HB.out | apply below_alloc | apply pw_below_drewN | apply below_drew1 | refine below_set ?_ GE226.out | refine below_set ?_ GE227.out) | exact HB.out)⟩
       ·rw [if_neg c37] at H
        have c37b0 : decide (a5 < (-524288)) = false := decide_eq_false c37
        clear c37
        by_cases c42 : a5 > 524288
        ·rw [if_pos c42] at H
         have c42b0 : decide (524288 < a5) = true := decide_eq_true c42
         clear c42
         replace H := Option.bind_eq_some_iff.mp H
         obtain ⟨t235, A430, H⟩ := H
         replace H : (some t235) = some r := H
         have A43 := Aside0.mk A430
         clear A430
         obtain rfl := Option.some.inj H
         go_enter Try.func5, Try.ntmps5
         go_wp2_with (first | ((with_reducible refine gate_dst (N := 6) rfl ?_); refine box_event ?hg (N := 6) ?hd (cs := #[.int .i64 a0_0, .int .i64 a0_1, .int .i64 a0_2, .int .i64 a0_3, .int .i64 a0_4, .int .i64 a0_5, .int .i64 a0_6, .int .i64 a0_7, .int .i64 a0_8, .int .i64 a0_9, .int .i64 a0_10, .int .i64 a0_11, .int .i64 a0_12, .int .i64 a0_13, .slice A0_14 l0_14.length c0_14, .bool a0_15]) (t := 26) ?hr ?_; (case hd => rfl); (case hg => rfl); (case hr => first | (go_simp; done) | (go_simp; rfl)); intro gb226 hg w44 hbox hb; have n0_ := Aside0.mk (below_step (zL HB.out) hb); have n1_ := Aside0.mk (hbox); have n2_ := Aside0.mk ((zS hg (zL HB.out) : w.heap.size ≤ gb226)); have n3_ := Aside0.mk ((zS hg (zL HB.out) : w.heap.size ≤ gb226)); clear HB; have HB := n0_; have BK226 := n1_; have GW226 := n2_; have GE226 := n3_; clear n0_ n1_ n2_ n3_; clear hb hbox hg) | ((with_reducible refine gate_dst (N := 7) rfl ?_); refine box_event ?hg (N := 7) ?hd (cs := #[.int .i64 a1_0, .int .i64 a1_1, .int .i64 a1_2, .int .i64 a1_3, .int .i64 a1_4]) (t := 28) ?hr ?_; (case hd => rfl); (case hg => rfl); (case hr => first | (go_simp; done) | (go_simp; rfl)); intro gb227 hg w45 hbox hb; have n0_ := Aside0.mk (blk_below (zB BK226.out) hb); have n1_ := Aside0.mk (below_step (zL1 HB.out GE226.out) hb); have n2_ := Aside0.mk (hbox); have n3_ := Aside0.mk ((zS hg (zL1 HB.out GE226.out) : w.heap.size ≤ gb227)); have n4_ := Aside0.mk ((zS hg (zL1 HB.out GE226.out) : w.heap.size ≤ gb227)); have n5_ := Aside0.mk ((by rw [hg]; exact Nat.ne_of_lt (blk_lt (zB BK226.out)) : gb226 ≠ gb227)); have n6_ := Aside0.mk ((by rw [hg]; exact Nat.ne_of_gt (blk_lt (zB BK226.out)) : gb227 ≠ gb226)); clear BK226; clear HB; have BK226 := n0_; have HB := n1_; have BK227 := n2_; have GW227 := n3_; have GE227 := n4_; have NB226_227 := n5_; have NB227_226 := n6_; clear n0_ n1_ n2_ n3_ n4_ n5_ n6_; clear hb hbox hg) | ((with_reducible refine gate_callee (f := 18) rfl ?_); refine goesL_ (some 86) rfl rfl Try.func18 (by kernel_rfl) rfl #[] rfl zA ?_; (with_reducible refine (imageeditorlaw27_awake.calls k  t235 _ A43.out).mono ?_); rintro e w46 ⟨rfl, hb⟩; refine ⟨_, rfl, ?_⟩; replace BK226 := Aside0.mk (blk_below (zB BK226.out) hb); replace BK227 := Aside0.mk (blk_below (zB BK227.out) hb); replace HB := Aside0.mk (below_step (zL2 HB.out GE226.out GE227.out) hb); (try clear hb); (try clear hb2); (try clear hk); (try clear hi)))
         go_ret
         exact ⟨by first | rfl | (simp [errW_none, errW_some] <;> rfl) | (simp [*, errW_none, errW_some] <;> rfl), by repeat (first | (with_reducible first | exact HB.out | apply below_alloc | apply pw_below_drewN | apply below_drew1 | refine below_set ?_ GE226.out | refine below_set ?_ GE227.out) | exact HB.out)⟩
        ·rw [if_neg c42] at H
         have c42b0 : decide (524288 < a5) = false := decide_eq_false c42
         clear c42
         by_cases c47 : a1_0 < (-8388608)
         ·rw [if_pos c47] at H
          have c47b0 : decide (a1_0 < (-8388608)) = true := decide_eq_true c47
          clear c47
          replace H := Option.bind_eq_some_iff.mp H
          obtain ⟨t236, A480, H⟩ := H
          replace H : (some t236) = some r := H
          have A48 := Aside0.mk A480
          clear A480
          obtain rfl := Option.some.inj H
          go_enter Try.func5, Try.ntmps5
          go_wp2_with (first | ((with_reducible refine gate_dst (N := 6) rfl ?_); refine box_event ?hg (N := 6) ?hd (cs := #[.int .i64 a0_0, .int .i64 a0_1, .int .i64 a0_2, .int .i64 a0_3, .int .i64 a0_4, .int .i64 a0_5, .int .i64 a0_6, .int .i64 a0_7, .int .i64 a0_8, .int .i64 a0_9, .int .i64 a0_10, .int .i64 a0_11, .int .i64 a0_12, .int .i64 a0_13, .slice A0_14 l0_14.length c0_14, .bool a0_15]) (t := 26) ?hr ?_; (case hd => rfl); (case hg => rfl); (case hr => first | (go_simp; done) | (go_simp; rfl)); intro gb226 hg w49 hbox hb; have n0_ := Aside0.mk (below_step (zL HB.out) hb); have n1_ := Aside0.mk (hbox); have n2_ := Aside0.mk ((zS hg (zL HB.out) : w.heap.size ≤ gb226)); have n3_ := Aside0.mk ((zS hg (zL HB.out) : w.heap.size ≤ gb226)); clear HB; have HB := n0_; have BK226 := n1_; have GW226 := n2_; have GE226 := n3_; clear n0_ n1_ n2_ n3_; clear hb hbox hg) | ((with_reducible refine gate_dst (N := 7) rfl ?_); refine box_event ?hg (N := 7) ?hd (cs := #[.int .i64 a1_0, .int .i64 a1_1, .int .i64 a1_2, .int .i64 a1_3, .int .i64 a1_4]) (t := 28) ?hr ?_; (case hd => rfl); (case hg => rfl); (case hr => first | (go_simp; done) | (go_simp; rfl)); intro gb227 hg w50 hbox hb; have n0_ := Aside0.mk (blk_below (zB BK226.out) hb); have n1_ := Aside0.mk (below_step (zL1 HB.out GE226.out) hb); have n2_ := Aside0.mk (hbox); have n3_ := Aside0.mk ((zS hg (zL1 HB.out GE226.out) : w.heap.size ≤ gb227)); have n4_ := Aside0.mk ((zS hg (zL1 HB.out GE226.out) : w.heap.size ≤ gb227)); have n5_ := Aside0.mk ((by rw [hg]; exact Nat.ne_of_lt (blk_lt (zB BK226.out)) : gb226 ≠ gb227)); have n6_ := Aside0.mk ((by rw [hg]; exact Nat.ne_of_gt (blk_lt (zB BK226.out)) : gb227 ≠ gb226)); clear BK226; clear HB; have BK226 := n0_; have HB := n1_; have BK227 := n2_; have GW227 := n3_; have GE227 := n4_; have NB226_227 := n5_; have NB227_226 := n6_; clear n0_ n1_ n2_ n3_ n4_ n5_ n6_; clear hb hbox hg; have hnb51 := NB227_226.out; have hnc51 := NB226_227.out; obtain ⟨hcz52_0, hcz52_1, hcz52_2, hcz52_3, hcz52_4⟩ := zD5 BK227.out; obtain ⟨hfz52_0, hfz52_1, hfz52_2, hfz52_3, hfz52_4⟩ := zE5 BK227.out) | ((with_reducible refine gate_callee (f := 18) rfl ?_); refine goesL_ (some 86) rfl rfl Try.func18 (by kernel_rfl) rfl #[] rfl zA ?_; (with_reducible refine (imageeditorlaw27_awake.calls k  t236 _ A48.out).mono ?_); rintro e w53 ⟨rfl, hb⟩; refine ⟨_, rfl, ?_⟩; replace BK226 := Aside0.mk (blk_below (zB BK226.out) hb); replace BK227 := Aside0.mk (blk_below (zB BK227.out) hb); replace HB := Aside0.mk (below_step (zL2 HB.out GE226.out GE227.out) hb); (try clear hb); (try clear hb2); (try clear hk); (try clear hi)))
          go_ret
          exact ⟨by first | rfl | (simp [errW_none, errW_some] <;> rfl) | (simp [*, errW_none, errW_some] <;> rfl), by repeat (first | (with_reducible first | exact HB.out | apply below_alloc | apply pw_below_drewN | apply below_drew1 | refine below_set ?_ GE226.out | refine below_set ?_ GE227.out) | exact HB.out)⟩
         ·rw [if_neg c47] at H
          have c47b0 : decide (a1_0 < (-8388608)) = false := decide_eq_false c47
          clear c47
          by_cases c54 : a1_0 > 8388608
          ·rw [if_pos c54] at H
           have c54b0 : decide (8388608 < a1_0) = true := decide_eq_true c54
           clear c54
           replace H := Option.bind_eq_some_iff.mp H
           obtain ⟨t237, A550, H⟩ := H
           replace H : (some t237) = some r := H
           have A55 := Aside0.mk A550
           clear A550
           obtain rfl := Option.some.inj H
           go_enter Try.func5, Try.ntmps5
           go_wp2_with (first | ((with_reducible refine gate_dst (N := 6) rfl ?_); refine box_event ?hg (N := 6) ?hd (cs := #[.int .i64 a0_0, .int .i64 a0_1, .int .i64 a0_2, .int .i64 a0_3, .int .i64 a0_4, .int .i64 a0_5, .int .i64 a0_6, .int .i64 a0_7, .int .i64 a0_8, .int .i64 a0_9, .int .i64 a0_10, .int .i64 a0_11, .int .i64 a0_12, .int .i64 a0_13, .slice A0_14 l0_14.length c0_14, .bool a0_15]) (t := 26) ?hr ?_; (case hd => rfl); (case hg => rfl); (case hr => first | (go_simp; done) | (go_simp; rfl)); intro gb226 hg w56 hbox hb; have n0_ := Aside0.mk (below_step (zL HB.out) hb); have n1_ := Aside0.mk (hbox); have n2_ := Aside0.mk ((zS hg (zL HB.out) : w.heap.size ≤ gb226)); have n3_ := Aside0.mk ((zS hg (zL HB.out) : w.heap.size ≤ gb226)); clear HB; have HB := n0_; have BK226 := n1_; have GW226 := n2_; have GE226 := n3_; clear n0_ n1_ n2_ n3_; clear hb hbox hg) | ((with_reducible refine gate_dst (N := 7) rfl ?_); refine box_event ?hg (N := 7) ?hd (cs := #[.int .i64 a1_0, .int .i64 a1_1, .int .i64 a1_2, .int .i64 a1_3, .int .i64 a1_4]) (t := 28) ?hr ?_; (case hd => rfl); (case hg => rfl); (case hr => first | (go_simp; done) | (go_simp; rfl)); intro gb227 hg w57 hbox hb; have n0_ := Aside0.mk (blk_below (zB BK226.out) hb); have n1_ := Aside0.mk (below_step (zL1 HB.out GE226.out) hb); have n2_ := Aside0.mk (hbox); have n3_ := Aside0.mk ((zS hg (zL1 HB.out GE226.out) : w.heap.size ≤ gb227)); have n4_ := Aside0.mk ((zS hg (zL1 HB.out GE226.out) : w.heap.size ≤ gb227)); have n5_ := Aside0.mk ((by rw [hg]; exact Nat.ne_of_lt (blk_lt (zB BK226.out)) : gb226 ≠ gb227)); have n6_ := Aside0.mk ((by rw [hg]; exact Nat.ne_of_gt (blk_lt (zB BK226.out)) : gb227 ≠ gb226)); clear BK226; clear HB; have BK226 := n0_; have HB := n1_; have BK227 := n2_; have GW227 := n3_; have GE227 := n4_; have NB226_227 := n5_; have NB227_226 := n6_; clear n0_ n1_ n2_ n3_ n4_ n5_ n6_; clear hb hbox hg; have hnb58 := NB227_226.out; have hnc58 := NB226_227.out; obtain ⟨hcz59_0, hcz59_1, hcz59_2, hcz59_3, hcz59_4⟩ := zD5 BK227.out; obtain ⟨hfz59_0, hfz59_1, hfz59_2, hfz59_3, hfz59_4⟩ := zE5 BK227.out) | ((with_reducible refine gate_callee (f := 18) rfl ?_); refine goesL_ (some 86) rfl rfl Try.func18 (by kernel_rfl) rfl #[] rfl zA ?_; (with_reducible refine (imageeditorlaw27_awake.calls k  t237 _ A55.out).mono ?_); rintro e w60 ⟨rfl, hb⟩; refine ⟨_, rfl, ?_⟩; replace BK226 := Aside0.mk (blk_below (zB BK226.out) hb); replace BK227 := Aside0.mk (blk_below (zB BK227.out) hb); replace HB := Aside0.mk (below_step (zL2 HB.out GE226.out GE227.out) hb); (try clear hb); (try clear hb2); (try clear hk); (try clear hi)))
           go_ret
           exact ⟨by first | rfl | (simp [errW_none, errW_some] <;> rfl) | (simp [*, errW_none, errW_some] <;> rfl), by repeat (first | (with_reducible first | exact HB.out | apply below_alloc | apply pw_below_drewN | apply below_drew1 | refine below_set ?_ GE226.out | refine below_set ?_ GE227.out) | exact HB.out)⟩
          ·rw [if_neg c54] at H
           have c54b0 : decide (8388608 < a1_0) = false := decide_eq_false c54
           clear c54
           by_cases c61 : a1_1 < (-8388608)
           ·rw [if_pos c61] at H
            have c61b0 : decide (a1_1 < (-8388608)) = true := decide_eq_true c61
            clear c61
            replace H := Option.bind_eq_some_iff.mp H
            obtain ⟨t238, A620, H⟩ := H
            replace H : (some t238) = some r := H
            have A62 := Aside0.mk A620
            clear A620
            obtain rfl := Option.some.inj H
            go_enter Try.func5, Try.ntmps5
            go_wp2_with (first | ((with_reducible refine gate_dst (N := 6) rfl ?_); refine box_event ?hg (N := 6) ?hd (cs := #[.int .i64 a0_0, .int .i64 a0_1, .int .i64 a0_2, .int .i64 a0_3, .int .i64 a0_4, .int .i64 a0_5, .int .i64 a0_6, .int .i64 a0_7, .int .i64 a0_8, .int .i64 a0_9, .int .i64 a0_10, .int .i64 a0_11, .int .i64 a0_12, .int .i64 a0_13, .slice A0_14 l0_14.length c0_14, .bool a0_15]) (t := 26) ?hr ?_; (case hd => rfl); (case hg => rfl); (case hr => first | (go_simp; done) | (go_simp; rfl)); intro gb226 hg w63 hbox hb; have n0_ := Aside0.mk (below_step (zL HB.out) hb); have n1_ := Aside0.mk (hbox); have n2_ := Aside0.mk ((zS hg (zL HB.out) : w.heap.size ≤ gb226)); have n3_ := Aside0.mk ((zS hg (zL HB.out) : w.heap.size ≤ gb226)); clear HB; have HB := n0_; have BK226 := n1_; have GW226 := n2_; have GE226 := n3_; clear n0_ n1_ n2_ n3_; clear hb hbox hg) | ((with_reducible refine gate_dst (N := 7) rfl ?_); refine box_event ?hg (N := 7) ?hd (cs := #[.int .i64 a1_0, .int .i64 a1_1, .int .i64 a1_2, .int .i64 a1_3, .int .i64 a1_4]) (t := 28) ?hr ?_; (case hd => rfl); (case hg => rfl); (case hr => first | (go_simp; done) | (go_simp; rfl)); intro gb227 hg w64 hbox hb; have n0_ := Aside0.mk (blk_below (zB BK226.out) hb); have n1_ := Aside0.mk (below_step (zL1 HB.out GE226.out) hb); have n2_ := Aside0.mk (hbox); have n3_ := Aside0.mk ((zS hg (zL1 HB.out GE226.out) : w.heap.size ≤ gb227)); have n4_ := Aside0.mk ((zS hg (zL1 HB.out GE226.out) : w.heap.size ≤ gb227)); have n5_ := Aside0.mk ((by rw [hg]; exact Nat.ne_of_lt (blk_lt (zB BK226.out)) : gb226 ≠ gb227)); have n6_ := Aside0.mk ((by rw [hg]; exact Nat.ne_of_gt (blk_lt (zB BK226.out)) : gb227 ≠ gb226)); clear BK226; clear HB; have BK226 := n0_; have HB := n1_; have BK227 := n2_; have GW227 := n3_; have GE227 := n4_; have NB226_227 := n5_; have NB227_226 := n6_; clear n0_ n1_ n2_ n3_ n4_ n5_ n6_; clear hb hbox hg; have hnb65 := NB227_226.out; have hnc65 := NB226_227.out; obtain ⟨hcz66_0, hcz66_1, hcz66_2, hcz66_3, hcz66_4⟩ := zD5 BK227.out; obtain ⟨hfz66_0, hfz66_1, hfz66_2, hfz66_3, hfz66_4⟩ := zE5 BK227.out) | ((with_reducible refine gate_callee (f := 18) rfl ?_); refine goesL_ (some 86) rfl rfl Try.func18 (by kernel_rfl) rfl #[] rfl zA ?_; (with_reducible refine (imageeditorlaw27_awake.calls k  t238 _ A62.out).mono ?_); rintro e w67 ⟨rfl, hb⟩; refine ⟨_, rfl, ?_⟩; replace BK226 := Aside0.mk (blk_below (zB BK226.out) hb); replace BK227 := Aside0.mk (blk_below (zB BK227.out) hb); replace HB := Aside0.mk (below_step (zL2 HB.out GE226.out GE227.out) hb); (try clear hb); (try clear hb2); (try clear hk); (try clear hi)))
            go_ret
            exact ⟨by first | rfl | (simp [errW_none, errW_some] <;> rfl) | (simp [*, errW_none, errW_some] <;> rfl), by repeat (first | (with_reducible first | exact HB.out | apply below_alloc | apply pw_below_drewN | apply below_drew1 | refine below_set ?_ GE226.out | refine below_set ?_ GE227.out) | exact HB.out)⟩
           ·rw [if_neg c61] at H
            have c61b0 : decide (a1_1 < (-8388608)) = false := decide_eq_false c61
            clear c61
            by_cases c68 : a1_1 > 8388608
            ·rw [if_pos c68] at H
             have c68b0 : decide (8388608 < a1_1) = true := decide_eq_true c68
             clear c68
             replace H := Option.bind_eq_some_iff.mp H
             obtain ⟨t239, A690, H⟩ := H
             replace H : (some t239) = some r := H
             have A69 := Aside0.mk A690
             clear A690
             obtain rfl := Option.some.inj H
             go_enter Try.func5, Try.ntmps5
             go_wp2_with (first | ((with_reducible refine gate_dst (N := 6) rfl ?_); refine box_event ?hg (N := 6) ?hd (cs := #[.int .i64 a0_0, .int .i64 a0_1, .int .i64 a0_2, .int .i64 a0_3, .int .i64 a0_4, .int .i64 a0_5, .int .i64 a0_6, .int .i64 a0_7, .int .i64 a0_8, .int .i64 a0_9, .int .i64 a0_10, .int .i64 a0_11, .int .i64 a0_12, .int .i64 a0_13, .slice A0_14 l0_14.length c0_14, .bool a0_15]) (t := 26) ?hr ?_; (case hd => rfl); (case hg => rfl); (case hr => first | (go_simp; done) | (go_simp; rfl)); intro gb226 hg w70 hbox hb; have n0_ := Aside0.mk (below_step (zL HB.out) hb); have n1_ := Aside0.mk (hbox); have n2_ := Aside0.mk ((zS hg (zL HB.out) : w.heap.size ≤ gb226)); have n3_ := Aside0.mk ((zS hg (zL HB.out) : w.heap.size ≤ gb226)); clear HB; have HB := n0_; have BK226 := n1_; have GW226 := n2_; have GE226 := n3_; clear n0_ n1_ n2_ n3_; clear hb hbox hg) | ((with_reducible refine gate_dst (N := 7) rfl ?_); refine box_event ?hg (N := 7) ?hd (cs := #[.int .i64 a1_0, .int .i64 a1_1, .int .i64 a1_2, .int .i64 a1_3, .int .i64 a1_4]) (t := 28) ?hr ?_; (case hd => rfl); (case hg => rfl); (case hr => first | (go_simp; done) | (go_simp; rfl)); intro gb227 hg w71 hbox hb; have n0_ := Aside0.mk (blk_below (zB BK226.out) hb); have n1_ := Aside0.mk (below_step (zL1 HB.out GE226.out) hb); have n2_ := Aside0.mk (hbox); have n3_ := Aside0.mk ((zS hg (zL1 HB.out GE226.out) : w.heap.size ≤ gb227)); have n4_ := Aside0.mk ((zS hg (zL1 HB.out GE226.out) : w.heap.size ≤ gb227)); have n5_ := Aside0.mk ((by rw [hg]; exact Nat.ne_of_lt (blk_lt (zB BK226.out)) : gb226 ≠ gb227)); have n6_ := Aside0.mk ((by rw [hg]; exact Nat.ne_of_gt (blk_lt (zB BK226.out)) : gb227 ≠ gb226)); clear BK226; clear HB; have BK226 := n0_; have HB := n1_; have BK227 := n2_; have GW227 := n3_; have GE227 := n4_; have NB226_227 := n5_; have NB227_226 := n6_; clear n0_ n1_ n2_ n3_ n4_ n5_ n6_; clear hb hbox hg; have hnb72 := NB227_226.out; have hnc72 := NB226_227.out; obtain ⟨hcz73_0, hcz73_1, hcz73_2, hcz73_3, hcz73_4⟩ := zD5 BK227.out; obtain ⟨hfz73_0, hfz73_1, hfz73_2, hfz73_3, hfz73_4⟩ := zE5 BK227.out) | ((with_reducible refine gate_callee (f := 18) rfl ?_); refine goesL_ (some 86) rfl rfl Try.func18 (by kernel_rfl) rfl #[] rfl zA ?_; (with_reducible refine (imageeditorlaw27_awake.calls k  t239 _ A69.out).mono ?_); rintro e w74 ⟨rfl, hb⟩; refine ⟨_, rfl, ?_⟩; replace BK226 := Aside0.mk (blk_below (zB BK226.out) hb); replace BK227 := Aside0.mk (blk_below (zB BK227.out) hb); replace HB := Aside0.mk (below_step (zL2 HB.out GE226.out GE227.out) hb); (try clear hb); (try clear hb2); (try clear hk); (try clear hi)))
             go_ret
             exact ⟨by first | rfl | (simp [errW_none, errW_some] <;> rfl) | (simp [*, errW_none, errW_some] <;> rfl), by repeat (first | (with_reducible first | exact HB.out | apply below_alloc | apply pw_below_drewN | apply below_drew1 | refine below_set ?_ GE226.out | refine below_set ?_ GE227.out) | exact HB.out)⟩
            ·rw [if_neg c68] at H
             have c68b0 : decide (8388608 < a1_1) = false := decide_eq_false c68
             clear c68
             replace H := Option.bind_eq_some_iff.mp H
             obtain ⟨t241, A750, H⟩ := H
             replace H : ((dab_Cover.f k a0_0 a0_1 a0_2 a0_3 a0_4 a0_5 a0_6 a0_7 a0_8 a0_9 a0_10 a0_11 a0_12 a0_13 l0_14 a0_15 a1_0 a1_1 a1_2 a1_3 a1_4 a2 a3).bind fun t242 => (if t241 = t242 then ((imageeditorlaw27_awake.f k).bind fun t243 => (some t243)) else (none))) = some r := H
             have A75 := Aside0.mk A750
             clear A750
             replace H := Option.bind_eq_some_iff.mp H
             obtain ⟨t242, A760, H⟩ := H
             replace H : (if t241 = t242 then ((imageeditorlaw27_awake.f k).bind fun t243 => (some t243)) else (none)) = some r := H
             have A76 := Aside0.mk A760
             clear A760
             by_cases c77 : t241 = t242
             ·rw [if_pos c77] at H
              have c77b0 : (t241 == t242) = true := beq_iff_eq.mpr c77
              have c77b1 : (t241 != t242) = false := bne_eq_false_iff_eq.mpr c77
              clear c77
              replace H := Option.bind_eq_some_iff.mp H
              obtain ⟨t243, A780, H⟩ := H
              replace H : (some t243) = some r := H
              have A78 := Aside0.mk A780
              clear A780
              obtain rfl := Option.some.inj H
              go_enter Try.func5, Try.ntmps5
              try go_wp2_with (first | ((with_reducible refine gate_dst (N := 6) rfl ?_); refine box_event ?hg (N := 6) ?hd (cs := #[.int .i64 a0_0, .int .i64 a0_1, .int .i64 a0_2, .int .i64 a0_3, .int .i64 a0_4, .int .i64 a0_5, .int .i64 a0_6, .int .i64 a0_7, .int .i64 a0_8, .int .i64 a0_9, .int .i64 a0_10, .int .i64 a0_11, .int .i64 a0_12, .int .i64 a0_13, .slice A0_14 l0_14.length c0_14, .bool a0_15]) (t := 26) ?hr ?_; (case hd => rfl); (case hg => rfl); (case hr => first | (go_simp; done) | (go_simp; rfl)); intro gb226 hg w79 hbox hb; have n0_ := Aside0.mk (below_step (zL HB.out) hb); have n1_ := Aside0.mk (hbox); have n2_ := Aside0.mk ((zS hg (zL HB.out) : w.heap.size ≤ gb226)); have n3_ := Aside0.mk ((zS hg (zL HB.out) : w.heap.size ≤ gb226)); clear HB; have HB := n0_; have BK226 := n1_; have GW226 := n2_; have GE226 := n3_; clear n0_ n1_ n2_ n3_; clear hb hbox hg) | ((with_reducible refine gate_dst (N := 7) rfl ?_); refine box_event ?hg (N := 7) ?hd (cs := #[.int .i64 a1_0, .int .i64 a1_1, .int .i64 a1_2, .int .i64 a1_3, .int .i64 a1_4]) (t := 28) ?hr ?_; (case hd => rfl); (case hg => rfl); (case hr => first | (go_simp; done) | (go_simp; rfl)); intro gb227 hg w80 hbox hb; have n0_ := Aside0.mk (blk_below (zB BK226.out) hb); have n1_ := Aside0.mk (below_step (zL1 HB.out GE226.out) hb); have n2_ := Aside0.mk (hbox); have n3_ := Aside0.mk ((zS hg (zL1 HB.out GE226.out) : w.heap.size ≤ gb227)); have n4_ := Aside0.mk ((zS hg (zL1 HB.out GE226.out) : w.heap.size ≤ gb227)); have n5_ := Aside0.mk ((by rw [hg]; exact Nat.ne_of_lt (blk_lt (zB BK226.out)) : gb226 ≠ gb227)); have n6_ := Aside0.mk ((by rw [hg]; exact Nat.ne_of_gt (blk_lt (zB BK226.out)) : gb227 ≠ gb226)); clear BK226; clear HB; have BK226 := n0_; have HB := n1_; have BK227 := n2_; have GW227 := n3_; have GE227 := n4_; have NB226_227 := n5_; have NB227_226 := n6_; clear n0_ n1_ n2_ n3_ n4_ n5_ n6_; clear hb hbox hg; have hnb81 := NB227_226.out; have hnc81 := NB226_227.out; obtain ⟨hcz82_0, hcz82_1, hcz82_2, hcz82_3, hcz82_4⟩ := zD5 BK227.out; obtain ⟨hfz82_0, hfz82_1, hfz82_2, hfz82_3, hfz82_4⟩ := zE5 BK227.out) | ((with_reducible refine gate_dst (N := 15) rfl ?_); refine box_event ?hg (N := 15) ?hd (cs := #[.int .i64 0, .int .i64 0, .int .i64 0, .int .i64 0, .int .i64 0]) (t := 28) ?hr ?_; (case hd => rfl); (case hg => rfl); (case hr => first | (go_simp; done) | (go_simp; rfl)); intro gb240 hg w83 hbox hb; have n0_ := Aside0.mk (blk_below (zB BK226.out) hb); have n1_ := Aside0.mk (blk_below (zB BK227.out) hb); have n2_ := Aside0.mk (below_step (zL2 HB.out GE226.out GE227.out) hb); have n3_ := Aside0.mk (hbox); have n4_ := Aside0.mk ((zS hg (zL2 HB.out GE226.out GE227.out) : w.heap.size ≤ gb240)); have n5_ := Aside0.mk ((zS hg (zL2 HB.out GE226.out GE227.out) : w.heap.size ≤ gb240)); have n6_ := Aside0.mk ((by rw [hg]; exact Nat.ne_of_lt (blk_lt (zB BK226.out)) : gb226 ≠ gb240)); have n7_ := Aside0.mk ((by rw [hg]; exact Nat.ne_of_gt (blk_lt (zB BK226.out)) : gb240 ≠ gb226)); have n8_ := Aside0.mk ((by rw [hg]; exact Nat.ne_of_lt (blk_lt (zB BK227.out)) : gb227 ≠ gb240)); have n9_ := Aside0.mk ((by rw [hg]; exact Nat.ne_of_gt (blk_lt (zB BK227.out)) : gb240 ≠ gb227)); clear BK226; clear BK227; clear HB; have BK226 := n0_; have BK227 := n1_; have HB := n2_; have BK240 := n3_; have GW240 := n4_; have GE240 := n5_; have NB226_240 := n6_; have NB240_226 := n7_; have NB227_240 := n8_; have NB240_227 := n9_; clear n0_ n1_ n2_ n3_ n4_ n5_ n6_ n7_ n8_ n9_; clear hb hbox hg; have hnb84 := NB240_226.out; have hnc84 := NB226_240.out; have hnb85 := NB240_227.out; have hnc85 := NB227_240.out; obtain ⟨hcz86_0, hcz86_1, hcz86_2, hcz86_3, hcz86_4⟩ := zD5 BK240.out; obtain ⟨hfz86_0, hfz86_1, hfz86_2, hfz86_3, hfz86_4⟩ := zE5 BK240.out))
              have n0_ : Aside0 ((((((w83.setCell ⟨gb240, 0, none⟩ (.int .i64 a1_0)).setCell ⟨gb240, 1, none⟩ (.int .i64 a1_1)).setCell ⟨gb240, 2, none⟩ (.int .i64 a1_2)).setCell ⟨gb240, 3, none⟩ (.int .i64 a1_3)).setCell ⟨gb240, 4, none⟩ (.int .i64 a1_4)).heap[gb226]? = some (.cells #[.int .i64 a0_0, .int .i64 a0_1, .int .i64 a0_2, .int .i64 a0_3, .int .i64 a0_4, .int .i64 a0_5, .int .i64 a0_6, .int .i64 a0_7, .int .i64 a0_8, .int .i64 a0_9, .int .i64 a0_10, .int .i64 a0_11, .int .i64 a0_12, .int .i64 a0_13, .slice A0_14 l0_14.length c0_14, .bool a0_15] 26 (0, 0))) := ⟨by refine zB ?_; refine blk_far ?_ NB226_240.out _; refine zB ?_; refine blk_far ?_ NB226_240.out _; refine zB ?_; refine blk_far ?_ NB226_240.out _; refine zB ?_; refine blk_far ?_ NB226_240.out _; refine zB ?_; refine blk_far ?_ NB226_240.out _; refine zB ?_; exact BK226.out⟩
              have n1_ : Aside0 ((((((w83.setCell ⟨gb240, 0, none⟩ (.int .i64 a1_0)).setCell ⟨gb240, 1, none⟩ (.int .i64 a1_1)).setCell ⟨gb240, 2, none⟩ (.int .i64 a1_2)).setCell ⟨gb240, 3, none⟩ (.int .i64 a1_3)).setCell ⟨gb240, 4, none⟩ (.int .i64 a1_4)).heap[gb227]? = some (.cells #[.int .i64 a1_0, .int .i64 a1_1, .int .i64 a1_2, .int .i64 a1_3, .int .i64 a1_4] 28 (0, 0))) := ⟨by refine zB ?_; refine blk_far ?_ NB227_240.out _; refine zB ?_; refine blk_far ?_ NB227_240.out _; refine zB ?_; refine blk_far ?_ NB227_240.out _; refine zB ?_; refine blk_far ?_ NB227_240.out _; refine zB ?_; refine blk_far ?_ NB227_240.out _; refine zB ?_; exact BK227.out⟩
              have n2_ : Aside0 ((((((w83.setCell ⟨gb240, 0, none⟩ (.int .i64 a1_0)).setCell ⟨gb240, 1, none⟩ (.int .i64 a1_1)).setCell ⟨gb240, 2, none⟩ (.int .i64 a1_2)).setCell ⟨gb240, 3, none⟩ (.int .i64 a1_3)).setCell ⟨gb240, 4, none⟩ (.int .i64 a1_4)).heap[gb240]? = some (.cells #[.int .i64 a1_0, .int .i64 a1_1, .int .i64 a1_2, .int .i64 a1_3, .int .i64 a1_4] 28 (0, 0))) := ⟨by refine zB ?_; refine blk_put (cs := #[.int .i64 a1_0, .int .i64 a1_1, .int .i64 a1_2, .int .i64 a1_3, .int .i64 0]) ?_ 4 _ rfl; refine zB ?_; refine blk_put (cs := #[.int .i64 a1_0, .int .i64 a1_1, .int .i64 a1_2, .int .i64 0, .int .i64 0]) ?_ 3 _ rfl; refine zB ?_; refine blk_put (cs := #[.int .i64 a1_0, .int .i64 a1_1, .int .i64 0, .int .i64 0, .int .i64 0]) ?_ 2 _ rfl; refine zB ?_; refine blk_put (cs := #[.int .i64 a1_0, .int .i64 0, .int .i64 0, .int .i64 0, .int .i64 0]) ?_ 1 _ rfl; refine zB ?_; refine blk_put (cs := #[.int .i64 0, .int .i64 0, .int .i64 0, .int .i64 0, .int .i64 0]) ?_ 0 _ rfl; refine zB ?_; exact BK240.out⟩
              have n3_ : Aside0 (Below w.heap.size w (((((w83.setCell ⟨gb240, 0, none⟩ (.int .i64 a1_0)).setCell ⟨gb240, 1, none⟩ (.int .i64 a1_1)).setCell ⟨gb240, 2, none⟩ (.int .i64 a1_2)).setCell ⟨gb240, 3, none⟩ (.int .i64 a1_3)).setCell ⟨gb240, 4, none⟩ (.int .i64 a1_4))) := ⟨by repeat (first | (with_reducible first | exact HB.out | apply below_alloc | apply pw_below_drewN | apply below_drew1 | refine below_set ?_ GE226.out | refine below_set ?_ GE227.out | refine below_set ?_ GE240.out) | exact HB.out)⟩
              (try clear BK226)
              (try clear BK227)
              (try clear BK240)
              (try clear HB)
              generalize (((((w83.setCell ⟨gb240, 0, none⟩ (.int .i64 a1_0)).setCell ⟨gb240, 1, none⟩ (.int .i64 a1_1)).setCell ⟨gb240, 2, none⟩ (.int .i64 a1_2)).setCell ⟨gb240, 3, none⟩ (.int .i64 a1_3)).setCell ⟨gb240, 4, none⟩ (.int .i64 a1_4)) = w87 at n0_ n1_ n2_ n3_ ⊢
              have BK226 := n0_
              have BK227 := n1_
              have BK240 := n2_
              have HB := n3_
              clear n0_ n1_ n2_ n3_
              replace BK226 := Aside0.mk (blk_drew BK226.out)
              replace BK227 := Aside0.mk (blk_drew BK227.out)
              replace BK240 := Aside0.mk (blk_drew BK240.out)
              replace HB := Aside0.mk (below_drew1 HB.out)
              refine start_ (n := 14) (S := fun w' => w'.cell? ⟨gb227, 0, none⟩ = some (.int .i64 a1_0) ∧ w'.cell? ⟨gb227, 1, none⟩ = some (.int .i64 a1_1) ∧ w'.cell? ⟨gb227, 2, none⟩ = some (.int .i64 a1_2) ∧ w'.cell? ⟨gb227, 3, none⟩ = some (.int .i64 a1_3) ∧ w'.cell? ⟨gb227, 4, none⟩ = some (.int .i64 a1_4)) (ds := []) #[false, false, false, false, false, false, false, false, false, false, false, false, false, false] (by kernel_rfl) rfl rfl ⟨zc BK227.out 0, zc BK227.out 1, zc BK227.out 2, zc BK227.out 3, zc BK227.out 4⟩ (fun hHeld => ?_); refine with_tabW imageeditorlaw27_DabMoves.tab6 imageeditorlaw27_DabMoves.bits6 (fun HT_ HW_ => ?_)
              generalize w87.drew = w88 at BK226 BK227 BK240 HB hHeld ⊢
              refine pure_ (i := 0) (N := some 88) (v := ?_) (a' := ?_) #[true, false, false, false, false, false, false, false, false, false, false, false, false, false] rfl rfl (any_of HT_.out (by kernel_rfl)) (fun _ _ _ h => h) (Or.inl ⟨by rfl, ?_⟩) ?_ ?_
              rotate_left
              ·intro w'
               go_simp
               with_reducible rfl
              rotate_left
              ·exact zP
              refine pure_ (i := 2) (N := some 90) (v := ?_) (a' := ?_) #[true, false, true, false, false, false, false, false, false, false, false, false, false, false] rfl rfl (any_of HT_.out (by kernel_rfl)) (fun _ _ _ h => h) (Or.inl ⟨by rfl, ?_⟩) ?_ ?_
              rotate_left
              ·intro w'
               go_simp
               with_reducible rfl
              rotate_left
              ·exact zP
              refine pure_ (i := 3) (N := some 91) (v := ?_) (a' := ?_) #[true, false, true, true, false, false, false, false, false, false, false, false, false, false] rfl rfl (any_of HT_.out (by kernel_rfl)) (fun _ _ _ h => h) (Or.inl ⟨by rfl, ?_⟩) ?_ ?_
              rotate_left
              ·intro w'
               go_simp
               with_reducible rfl
              rotate_left
              ·exact zP
              refine pure_ (i := 5) (N := some 93) (v := ?_) (a' := ?_) #[true, false, true, true, false, true, false, false, false, false, false, false, false, false] rfl rfl (any_of HT_.out (by kernel_rfl)) (fun _ _ _ h => h) (Or.inl ⟨by rfl, ?_⟩) ?_ ?_
              rotate_left
              ·intro w'
               go_simp
               with_reducible rfl
              rotate_left
              ·exact zP
              refine pure_ (i := 7) (N := some 95) (v := ?_) (a' := ?_) #[true, false, true, true, false, true, false, true, false, false, false, false, false, false] rfl rfl (any_of HT_.out (by kernel_rfl)) (fun _ _ _ h => h) (Or.inl ⟨by rfl, ?_⟩) ?_ ?_
              rotate_left
              ·intro w'
               go_simp
               with_reducible rfl
              rotate_left
              ·exact zP
              refine pure_ (i := 8) (N := some 96) (v := ?_) (a' := ?_) #[true, false, true, true, false, true, false, true, true, false, false, false, false, false] rfl rfl (any_of HT_.out (by kernel_rfl)) (fun _ _ _ h => h) (Or.inl ⟨by rfl, ?_⟩) ?_ ?_
              rotate_left
              ·intro w'
               go_simp
               with_reducible rfl
              rotate_left
              ·exact zP
              refine take_ (i := 1) (N := some 89) (v := ?_) (a' := ?_) #[true, true, true, true, false, true, false, true, true, false, false, false, false, false] rfl rfl (take_ofW HT_.out HW_.out (by kernel_rfl)) (fun _ _ _ h => h) (Or.inl ⟨by rfl, ?_⟩) hHeld ?_ ?_
              rotate_left
              ·rintro w' ⟨s0, s1, s2, s3, s4⟩
               go_simp
               with_reducible rfl
              rotate_left
              ·exact zP
              refine pure_ (i := 4) (N := some 92) (v := ?_) (a' := ?_) #[true, true, true, true, true, true, false, true, true, false, false, false, false, false] rfl rfl (any_of HT_.out (by kernel_rfl)) (fun _ _ _ h => h) (Or.inl ⟨by rfl, ?_⟩) ?_ ?_
              rotate_left
              ·intro w'
               go_simp
               with_reducible rfl
              rotate_left
              ·exact zP
              refine pure_ (i := 10) (N := some 98) (v := ?_) (a' := ?_) #[true, true, true, true, true, true, false, true, true, false, true, false, false, false] rfl rfl (any_of HT_.out (by kernel_rfl)) (fun _ _ _ h => h) (Or.inl ⟨by rfl, ?_⟩) ?_ ?_
              rotate_left
              ·intro w'
               go_simp
               with_reducible rfl
              rotate_left
              ·exact zP
              refine take_ (i := 6) (N := some 94) (v := ?_) (a' := ?_) #[true, true, true, true, true, true, true, true, true, false, true, false, false, false] rfl rfl (take_ofW HT_.out HW_.out (by kernel_rfl)) (fun _ _ _ h => h) (Or.inl ⟨by rfl, ?_⟩) hHeld ?_ ?_
              rotate_left
              ·rintro w' ⟨s0, s1, s2, s3, s4⟩
               go_simp
               with_reducible rfl
              rotate_left
              ·exact zP
              refine pure_ (i := 9) (N := some 97) (v := ?_) (a' := ?_) #[true, true, true, true, true, true, true, true, true, true, true, false, false, false] rfl rfl (any_of HT_.out (by kernel_rfl)) (fun _ _ _ h => h) (Or.inl ⟨by rfl, ?_⟩) ?_ ?_
              rotate_left
              ·intro w'
               go_simp
               with_reducible rfl
              rotate_left
              ·exact zP
              refine one_ (i := 11) (N := none) #[true, true, true, true, true, true, true, true, true, true, true, true, false, false] rfl rfl (one_of HT_.out (by kernel_rfl)) (by decide) (fun K hK => ?_)
              have hs89 : w88.cell? ⟨gb240, 0, none⟩ = some (.int .i64 a1_0) := zc BK240.out 0
              have hfs89 := blk_frozen BK240.out 0
              have hns89_0 := NB226_240.out
              have hns89_1 := NB227_240.out
              have hms89_0 := NB240_226.out
              have hms89_1 := NB240_227.out
              refine skip_ (w1 := ?_) (by rfl) rfl ?_ ?_
              rotate_left
              ·go_simp
               rfl
              refine hK.out _ _ ⟨((cell_far (p := ⟨gb240, _, none⟩) NB227_240.out _).trans (hHeld.1)), ((cell_far (p := ⟨gb240, _, none⟩) NB227_240.out _).trans (hHeld.2.1)), ((cell_far (p := ⟨gb240, _, none⟩) NB227_240.out _).trans (hHeld.2.2.1)), ((cell_far (p := ⟨gb240, _, none⟩) NB227_240.out _).trans (hHeld.2.2.2.1)), ((cell_far (p := ⟨gb240, _, none⟩) NB227_240.out _).trans (hHeld.2.2.2.2))⟩ (fun hHeld => ?_)
              clear hK K
              refine pure_ (i := 12) (N := some 99) (v := ?_) (a' := ?_) #[true, true, true, true, true, true, true, true, true, true, true, true, true, false] rfl rfl (any_of HT_.out (by kernel_rfl)) (fun _ _ _ h => h) (Or.inl ⟨by rfl, ?_⟩) ?_ ?_
              rotate_left
              ·intro w'
               go_simp
               with_reducible rfl
              rotate_left
              ·exact zP
              refine one_ (i := 13) (N := none) #[true, true, true, true, true, true, true, true, true, true, true, true, true, true] rfl rfl (one_of HT_.out (by kernel_rfl)) (by decide) (fun K hK => ?_)
              have hs90 : w88.cell? ⟨gb240, 1, none⟩ = some (.int .i64 a1_1) := zc BK240.out 1
              have hfs90 := blk_frozen BK240.out 1
              have hns90_0 := NB226_240.out
              have hns90_1 := NB227_240.out
              have hms90_0 := NB240_226.out
              have hms90_1 := NB240_227.out
              refine skip_ (w1 := ?_) (by rfl) rfl ?_ ?_
              rotate_left
              ·go_simp
               rfl
              refine hK.out _ _ ⟨((cell_far (p := ⟨gb240, _, none⟩) NB227_240.out _).trans (hHeld.1)), ((cell_far (p := ⟨gb240, _, none⟩) NB227_240.out _).trans (hHeld.2.1)), ((cell_far (p := ⟨gb240, _, none⟩) NB227_240.out _).trans (hHeld.2.2.1)), ((cell_far (p := ⟨gb240, _, none⟩) NB227_240.out _).trans (hHeld.2.2.2.1)), ((cell_far (p := ⟨gb240, _, none⟩) NB227_240.out _).trans (hHeld.2.2.2.2))⟩ (fun hHeld => ?_)
              clear hK K
              refine done_ (done_of HT_.out (by kernel_rfl)) ?_
              try go_wp2
              have n0_ : Aside0 (((w88.setCell ⟨gb240, 0, none⟩ (.int .i64 (wrap64 (a1_0 + (wrap64 (16 * a4)))))).setCell ⟨gb240, 1, none⟩ (.int .i64 (wrap64 (a1_1 + (wrap64 (16 * a5)))))).heap[gb226]? = some (.cells #[.int .i64 a0_0, .int .i64 a0_1, .int .i64 a0_2, .int .i64 a0_3, .int .i64 a0_4, .int .i64 a0_5, .int .i64 a0_6, .int .i64 a0_7, .int .i64 a0_8, .int .i64 a0_9, .int .i64 a0_10, .int .i64 a0_11, .int .i64 a0_12, .int .i64 a0_13, .slice A0_14 l0_14.length c0_14, .bool a0_15] 26 (0, 0))) := ⟨by refine zB ?_; refine blk_far ?_ NB226_240.out _; refine zB ?_; refine blk_far ?_ NB226_240.out _; refine zB ?_; exact BK226.out⟩
              have n1_ : Aside0 (((w88.setCell ⟨gb240, 0, none⟩ (.int .i64 (wrap64 (a1_0 + (wrap64 (16 * a4)))))).setCell ⟨gb240, 1, none⟩ (.int .i64 (wrap64 (a1_1 + (wrap64 (16 * a5)))))).heap[gb227]? = some (.cells #[.int .i64 a1_0, .int .i64 a1_1, .int .i64 a1_2, .int .i64 a1_3, .int .i64 a1_4] 28 (0, 0))) := ⟨by refine zB ?_; refine blk_far ?_ NB227_240.out _; refine zB ?_; refine blk_far ?_ NB227_240.out _; refine zB ?_; exact BK227.out⟩
              have n2_ : Aside0 (((w88.setCell ⟨gb240, 0, none⟩ (.int .i64 (wrap64 (a1_0 + (wrap64 (16 * a4)))))).setCell ⟨gb240, 1, none⟩ (.int .i64 (wrap64 (a1_1 + (wrap64 (16 * a5)))))).heap[gb240]? = some (.cells #[.int .i64 (wrap64 (a1_0 + (wrap64 (16 * a4)))), .int .i64 (wrap64 (a1_1 + (wrap64 (16 * a5)))), .int .i64 a1_2, .int .i64 a1_3, .int .i64 a1_4] 28 (0, 0))) := ⟨by refine zB ?_; refine blk_put (cs := #[.int .i64 (wrap64 (a1_0 + (wrap64 (16 * a4)))), .int .i64 a1_1, .int .i64 a1_2, .int .i64 a1_3, .int .i64 a1_4]) ?_ 1 _ rfl; refine zB ?_; refine blk_put (cs := #[.int .i64 a1_0, .int .i64 a1_1, .int .i64 a1_2, .int .i64 a1_3, .int .i64 a1_4]) ?_ 0 _ rfl; refine zB ?_; exact BK240.out⟩
              have n3_ : Aside0 (Below w.heap.size w ((w88.setCell ⟨gb240, 0, none⟩ (.int .i64 (wrap64 (a1_0 + (wrap64 (16 * a4)))))).setCell ⟨gb240, 1, none⟩ (.int .i64 (wrap64 (a1_1 + (wrap64 (16 * a5))))))) := ⟨by repeat (first | (with_reducible first | exact HB.out | apply below_alloc | apply pw_below_drewN | apply below_drew1 | refine below_set ?_ GE226.out | refine below_set ?_ GE227.out | refine below_set ?_ GE240.out) | exact HB.out)⟩
              (try clear BK226)
              (try clear BK227)
              (try clear BK240)
              (try clear HB)
              generalize ((w88.setCell ⟨gb240, 0, none⟩ (.int .i64 (wrap64 (a1_0 + (wrap64 (16 * a4)))))).setCell ⟨gb240, 1, none⟩ (.int .i64 (wrap64 (a1_1 + (wrap64 (16 * a5)))))) = w91 at n0_ n1_ n2_ n3_ ⊢
              have BK226 := n0_
              have BK227 := n1_
              have BK240 := n2_
              have HB := n3_
              clear n0_ n1_ n2_ n3_
              replace BK226 := Aside0.mk (blk_drew BK226.out)
              replace BK227 := Aside0.mk (blk_drew BK227.out)
              replace BK240 := Aside0.mk (blk_drew BK240.out)
              replace HB := Aside0.mk (below_drew1 HB.out)
              refine start_ (n := 19) (S := fun w' => w'.cell? ⟨gb226, 0, none⟩ = some (.int .i64 a0_0) ∧ w'.cell? ⟨gb226, 1, none⟩ = some (.int .i64 a0_1) ∧ w'.cell? ⟨gb226, 2, none⟩ = some (.int .i64 a0_2) ∧ w'.cell? ⟨gb226, 3, none⟩ = some (.int .i64 a0_3) ∧ w'.cell? ⟨gb226, 4, none⟩ = some (.int .i64 a0_4) ∧ w'.cell? ⟨gb226, 5, none⟩ = some (.int .i64 a0_5) ∧ w'.cell? ⟨gb226, 6, none⟩ = some (.int .i64 a0_6) ∧ w'.cell? ⟨gb226, 7, none⟩ = some (.int .i64 a0_7) ∧ w'.cell? ⟨gb226, 8, none⟩ = some (.int .i64 a0_8) ∧ w'.cell? ⟨gb226, 9, none⟩ = some (.int .i64 a0_9) ∧ w'.cell? ⟨gb226, 10, none⟩ = some (.int .i64 a0_10) ∧ w'.cell? ⟨gb226, 11, none⟩ = some (.int .i64 a0_11) ∧ w'.cell? ⟨gb226, 12, none⟩ = some (.int .i64 a0_12) ∧ w'.cell? ⟨gb226, 13, none⟩ = some (.int .i64 a0_13) ∧ w'.cell? ⟨gb226, 14, none⟩ = some (.slice A0_14 l0_14.length c0_14) ∧ w'.cell? ⟨gb226, 15, none⟩ = some (.bool a0_15) ∧ w'.cell? ⟨gb240, 0, none⟩ = some (.int .i64 (wrap64 (a1_0 + (wrap64 (16 * a4))))) ∧ w'.cell? ⟨gb240, 1, none⟩ = some (.int .i64 (wrap64 (a1_1 + (wrap64 (16 * a5))))) ∧ w'.cell? ⟨gb240, 2, none⟩ = some (.int .i64 a1_2) ∧ w'.cell? ⟨gb240, 3, none⟩ = some (.int .i64 a1_3) ∧ w'.cell? ⟨gb240, 4, none⟩ = some (.int .i64 a1_4) ∧ w'.cell? ⟨gb227, 0, none⟩ = some (.int .i64 a1_0) ∧ w'.cell? ⟨gb227, 1, none⟩ = some (.int .i64 a1_1) ∧ w'.cell? ⟨gb227, 2, none⟩ = some (.int .i64 a1_2) ∧ w'.cell? ⟨gb227, 3, none⟩ = some (.int .i64 a1_3) ∧ w'.cell? ⟨gb227, 4, none⟩ = some (.int .i64 a1_4)) (ds := []) #[false, false, false, false, false, false, false, false, false, false, false, false, false, false, false, false, false, false, false] (by kernel_rfl) rfl rfl ⟨zc BK226.out 0, zc BK226.out 1, zc BK226.out 2, zc BK226.out 3, zc BK226.out 4, zc BK226.out 5, zc BK226.out 6, zc BK226.out 7, zc BK226.out 8, zc BK226.out 9, zc BK226.out 10, zc BK226.out 11, zc BK226.out 12, zc BK226.out 13, zc BK226.out 14, zc BK226.out 15, zc BK240.out 0, zc BK240.out 1, zc BK240.out 2, zc BK240.out 3, zc BK240.out 4, zc BK227.out 0, zc BK227.out 1, zc BK227.out 2, zc BK227.out 3, zc BK227.out 4⟩ (fun hHeld => ?_); refine with_tabW imageeditorlaw27_DabMoves.tab7 imageeditorlaw27_DabMoves.bits7 (fun HT_ HW_ => ?_)
              generalize w91.drew = w92 at BK226 BK227 BK240 HB hHeld ⊢
              refine pure_ (i := 2) (N := some 102) (v := ?_) (a' := ?_) #[false, false, true, false, false, false, false, false, false, false, false, false, false, false, false, false, false, false, false] rfl rfl (any_of HT_.out (by kernel_rfl)) (fun _ _ _ h => h) (Or.inl ⟨by rfl, ?_⟩) ?_ ?_
              rotate_left
              ·intro w'
               go_simp
               with_reducible rfl
              rotate_left
              ·exact zP
              refine pure_ (i := 3) (N := some 103) (v := ?_) (a' := ?_) #[false, false, true, true, false, false, false, false, false, false, false, false, false, false, false, false, false, false, false] rfl rfl (any_of HT_.out (by kernel_rfl)) (fun _ _ _ h => h) (Or.inl ⟨by rfl, ?_⟩) ?_ ?_
              rotate_left
              ·intro w'
               go_simp
               with_reducible rfl
              rotate_left
              ·exact zP
              refine pure_ (i := 4) (N := some 104) (v := ?_) (a' := ?_) #[false, false, true, true, true, false, false, false, false, false, false, false, false, false, false, false, false, false, false] rfl rfl (any_of HT_.out (by kernel_rfl)) (fun _ _ _ h => h) (Or.inl ⟨by rfl, ?_⟩) ?_ ?_
              rotate_left
              ·intro w'
               go_simp
               with_reducible rfl
              rotate_left
              ·exact zP
              refine pure_ (i := 5) (N := some 105) (v := ?_) (a' := ?_) #[false, false, true, true, true, true, false, false, false, false, false, false, false, false, false, false, false, false, false] rfl rfl (any_of HT_.out (by kernel_rfl)) (fun _ _ _ h => h) (Or.inl ⟨by rfl, ?_⟩) ?_ ?_
              rotate_left
              ·intro w'
               go_simp
               with_reducible rfl
              rotate_left
              ·exact zP
              refine pure_ (i := 6) (N := some 106) (v := ?_) (a' := ?_) #[false, false, true, true, true, true, true, false, false, false, false, false, false, false, false, false, false, false, false] rfl rfl (any_of HT_.out (by kernel_rfl)) (fun _ _ _ h => h) (Or.inl ⟨by rfl, ?_⟩) ?_ ?_
              rotate_left
              ·intro w'
               go_simp
               with_reducible rfl
              rotate_left
              ·exact zP
              refine pure_ (i := 7) (N := some 107) (v := ?_) (a' := ?_) #[false, false, true, true, true, true, true, true, false, false, false, false, false, false, false, false, false, false, false] rfl rfl (any_of HT_.out (by kernel_rfl)) (fun _ _ _ h => h) (Or.inl ⟨by rfl, ?_⟩) ?_ ?_
              rotate_left
              ·intro w'
               go_simp
               with_reducible rfl
              rotate_left
              ·exact zP
              refine pure_ (i := 11) (N := some 111) (v := ?_) (a' := ?_) #[false, false, true, true, true, true, true, true, false, false, false, true, false, false, false, false, false, false, false] rfl rfl (any_of HT_.out (by kernel_rfl)) (fun _ _ _ h => h) (Or.inl ⟨by rfl, ?_⟩) ?_ ?_
              rotate_left
              ·intro w'
               go_simp
               with_reducible rfl
              rotate_left
              ·exact zP
              refine pure_ (i := 12) (N := some 112) (v := ?_) (a' := ?_) #[false, false, true, true, true, true, true, true, false, false, false, true, true, false, false, false, false, false, false] rfl rfl (any_of HT_.out (by kernel_rfl)) (fun _ _ _ h => h) (Or.inl ⟨by rfl, ?_⟩) ?_ ?_
              rotate_left
              ·intro w'
               go_simp
               with_reducible rfl
              rotate_left
              ·exact zP
              refine take_ (i := 0) (N := some 100) (v := ?_) (a' := ?_) #[true, false, true, true, true, true, true, true, false, false, false, true, true, false, false, false, false, false, false] rfl rfl (take_ofW HT_.out HW_.out (by kernel_rfl)) (fun _ _ _ h => h) (Or.inl ⟨by rfl, ?_⟩) hHeld ?_ ?_
              rotate_left
              ·rintro w' ⟨s0, s1, s2, s3, s4, s5, s6, s7, s8, s9, s10, s11, s12, s13, s14, s15, s16, s17, s18, s19, s20, s21, s22, s23, s24, s25⟩
               go_simp
               with_reducible rfl
              rotate_left
              ·exact zP
              refine take_ (i := 1) (N := some 101) (v := ?_) (a' := ?_) #[true, true, true, true, true, true, true, true, false, false, false, true, true, false, false, false, false, false, false] rfl rfl (take_ofW HT_.out HW_.out (by kernel_rfl)) (fun _ _ _ h => h) (Or.inl ⟨by rfl, ?_⟩) hHeld ?_ ?_
              rotate_left
              ·rintro w' ⟨s0, s1, s2, s3, s4, s5, s6, s7, s8, s9, s10, s11, s12, s13, s14, s15, s16, s17, s18, s19, s20, s21, s22, s23, s24, s25⟩
               go_simp
               with_reducible rfl
              rotate_left
              ·exact zP
              refine take_ (i := 9) (N := some 109) (v := ?_) (a' := ?_) #[true, true, true, true, true, true, true, true, false, true, false, true, true, false, false, false, false, false, false] rfl rfl (take_ofW HT_.out HW_.out (by kernel_rfl)) (fun _ _ _ h => h) (Or.inl ⟨by rfl, ?_⟩) hHeld ?_ ?_
              rotate_left
              ·rintro w' ⟨s0, s1, s2, s3, s4, s5, s6, s7, s8, s9, s10, s11, s12, s13, s14, s15, s16, s17, s18, s19, s20, s21, s22, s23, s24, s25⟩
               go_simp
               with_reducible rfl
              rotate_left
              ·exact zP
              refine take_ (i := 10) (N := some 110) (v := ?_) (a' := ?_) #[true, true, true, true, true, true, true, true, false, true, true, true, true, false, false, false, false, false, false] rfl rfl (take_ofW HT_.out HW_.out (by kernel_rfl)) (fun _ _ _ h => h) (Or.inl ⟨by rfl, ?_⟩) hHeld ?_ ?_
              rotate_left
              ·rintro w' ⟨s0, s1, s2, s3, s4, s5, s6, s7, s8, s9, s10, s11, s12, s13, s14, s15, s16, s17, s18, s19, s20, s21, s22, s23, s24, s25⟩
               go_simp
               with_reducible rfl
              rotate_left
              ·exact zP
              refine one_ (i := 8) (N := some 108) #[true, true, true, true, true, true, true, true, true, true, true, true, true, false, false, false, false, false, false] rfl rfl (one_of HT_.out (by kernel_rfl)) (by decide) (fun K hK => ?_)
              refine goes_ Try.func21 (by kernel_rfl) rfl #[.agg #[.int .i64 a0_0, .int .i64 a0_1, .int .i64 a0_2, .int .i64 a0_3, .int .i64 a0_4, .int .i64 a0_5, .int .i64 a0_6, .int .i64 a0_7, .int .i64 a0_8, .int .i64 a0_9, .int .i64 a0_10, .int .i64 a0_11, .int .i64 a0_12, .int .i64 a0_13, .slice A0_14 l0_14.length c0_14, .bool a0_15], .agg #[.int .i64 (wrap64 (a1_0 + (wrap64 (16 * a4)))), .int .i64 (wrap64 (a1_1 + (wrap64 (16 * a5)))), .int .i64 a1_2, .int .i64 a1_3, .int .i64 a1_4], .int .i64 (wrap64 (a2 + a4)), .int .i64 (wrap64 (a3 + a5))] (by rfl) rfl rfl zA ?_
              with_reducible refine (dab_Cover.calls k a0_0 a0_1 a0_2 a0_3 a0_4 a0_5 a0_6 a0_7 a0_8 a0_9 a0_10 a0_11 a0_12 a0_13 _ _ l0_14 a0_15 (wrap64 (a1_0 + (wrap64 (16 * a4)))) (wrap64 (a1_1 + (wrap64 (16 * a5)))) a1_2 a1_3 a1_4 (wrap64 (a2 + a4)) (wrap64 (a3 + a5)) t241 _ ?side1 ?side2 A75.out).mono ?_
              (case side1 => repeat (first | exact (Kd.C_below HR0_14.out HB.out) | (with_reducible refine Kd.C_alloc ?_ _) | (with_reducible refine Kd.C_drewN ?_ _) | (with_reducible refine Kd.C_drew ?_)))
              (case side2 => exact HC0_14.out)
              rintro e w93 ⟨rfl, hb⟩
              refine ⟨_, rfl, ?_⟩
              replace BK226 := Aside0.mk (blk_below (zB BK226.out) hb)
              replace BK227 := Aside0.mk (blk_below (zB BK227.out) hb)
              replace BK240 := Aside0.mk (blk_below (zB BK240.out) hb)
              replace HB := Aside0.mk (below_step (zL3 HB.out GE226.out GE227.out GE240.out) hb)
              (try clear hb)
              (try clear hb2)
              (try clear hk)
              (try clear hi)
              refine hK.out _ _ ⟨zc BK226.out 0, zc BK226.out 1, zc BK226.out 2, zc BK226.out 3, zc BK226.out 4, zc BK226.out 5, zc BK226.out 6, zc BK226.out 7, zc BK226.out 8, zc BK226.out 9, zc BK226.out 10, zc BK226.out 11, zc BK226.out 12, zc BK226.out 13, zc BK226.out 14, zc BK226.out 15, zc BK240.out 0, zc BK240.out 1, zc BK240.out 2, zc BK240.out 3, zc BK240.out 4, zc BK227.out 0, zc BK227.out 1, zc BK227.out 2, zc BK227.out 3, zc BK227.out 4⟩ (fun hHeld => ?_)
              clear hK K
              refine norm_ (a' := ?_) ?_ ?_
              rotate_left
              ·show Act.put _ (some 108) _ = _
               exact zP
              refine one_ (i := 13) (N := some 113) #[true, true, true, true, true, true, true, true, true, true, true, true, true, true, false, false, false, false, false] rfl rfl (one_of HT_.out (by kernel_rfl)) (by decide) (fun K hK => ?_)
              refine goes_ Try.func21 (by kernel_rfl) rfl #[.agg #[.int .i64 a0_0, .int .i64 a0_1, .int .i64 a0_2, .int .i64 a0_3, .int .i64 a0_4, .int .i64 a0_5, .int .i64 a0_6, .int .i64 a0_7, .int .i64 a0_8, .int .i64 a0_9, .int .i64 a0_10, .int .i64 a0_11, .int .i64 a0_12, .int .i64 a0_13, .slice A0_14 l0_14.length c0_14, .bool a0_15], .agg #[.int .i64 a1_0, .int .i64 a1_1, .int .i64 a1_2, .int .i64 a1_3, .int .i64 a1_4], .int .i64 a2, .int .i64 a3] (by rfl) rfl rfl zA ?_
              with_reducible refine (dab_Cover.calls k a0_0 a0_1 a0_2 a0_3 a0_4 a0_5 a0_6 a0_7 a0_8 a0_9 a0_10 a0_11 a0_12 a0_13 _ _ l0_14 a0_15 a1_0 a1_1 a1_2 a1_3 a1_4 a2 a3 t242 _ ?side1 ?side2 A76.out).mono ?_
              (case side1 => repeat (first | exact (Kd.C_below HR0_14.out HB.out) | (with_reducible refine Kd.C_alloc ?_ _) | (with_reducible refine Kd.C_drewN ?_ _) | (with_reducible refine Kd.C_drew ?_)))
              (case side2 => exact HC0_14.out)
              rintro e w94 ⟨rfl, hb⟩
              refine ⟨_, rfl, ?_⟩
              replace BK226 := Aside0.mk (blk_below (zB BK226.out) hb)
              replace BK227 := Aside0.mk (blk_below (zB BK227.out) hb)
              replace BK240 := Aside0.mk (blk_below (zB BK240.out) hb)
              replace HB := Aside0.mk (below_step (zL3 HB.out GE226.out GE227.out GE240.out) hb)
              (try clear hb)
              (try clear hb2)
              (try clear hk)
              (try clear hi)
              refine hK.out _ _ ⟨zc BK226.out 0, zc BK226.out 1, zc BK226.out 2, zc BK226.out 3, zc BK226.out 4, zc BK226.out 5, zc BK226.out 6, zc BK226.out 7, zc BK226.out 8, zc BK226.out 9, zc BK226.out 10, zc BK226.out 11, zc BK226.out 12, zc BK226.out 13, zc BK226.out 14, zc BK226.out 15, zc BK240.out 0, zc BK240.out 1, zc BK240.out 2, zc BK240.out 3, zc BK240.out 4, zc BK227.out 0, zc BK227.out 1, zc BK227.out 2, zc BK227.out 3, zc BK227.out 4⟩ (fun hHeld => ?_)
              clear hK K
              refine norm_ (a' := ?_) ?_ ?_
              rotate_left
              ·show Act.put _ (some 113) _ = _
               exact zP
              refine pure_ (i := 14) (N := some 114) (v := ?_) (a' := ?_) #[true, true, true, true, true, true, true, true, true, true, true, true, true, true, true, false, false, false, false] rfl rfl (any_of HT_.out (by kernel_rfl)) (fun _ _ _ h => h) (Or.inl ⟨by rfl, ?_⟩) ?_ ?_
              rotate_left
              ·intro w'
               go_simp
               with_reducible rfl
              rotate_left
              ·exact zP
              refine pure_ (i := 15) (N := some 115) (v := ?_) (a' := ?_) #[true, true, true, true, true, true, true, true, true, true, true, true, true, true, true, true, false, false, false] rfl rfl (any_of HT_.out (by kernel_rfl)) (fun _ _ _ h => h) (Or.inl ⟨by rfl, ?_⟩) ?_ ?_
              rotate_left
              ·intro w'
               go_simp
               with_reducible rfl
              rotate_left
              ·exact zP
              refine one_ (i := 16) (N := some 116) #[true, true, true, true, true, true, true, true, true, true, true, true, true, true, true, true, true, false, false] rfl rfl (one_of HT_.out (by kernel_rfl)) (by decide) (fun K hK => ?_)
              refine goes_ Try.func18 (by kernel_rfl) rfl #[] (by rfl) rfl rfl zA ?_
              with_reducible refine (imageeditorlaw27_awake.calls k  t243 _ A78.out).mono ?_
              rintro e w95 ⟨rfl, hb⟩
              refine ⟨_, rfl, ?_⟩
              replace BK226 := Aside0.mk (blk_below (zB BK226.out) hb)
              replace BK227 := Aside0.mk (blk_below (zB BK227.out) hb)
              replace BK240 := Aside0.mk (blk_below (zB BK240.out) hb)
              replace HB := Aside0.mk (below_step (zL3 HB.out GE226.out GE227.out GE240.out) hb)
              (try clear hb)
              (try clear hb2)
              (try clear hk)
              (try clear hi)
              refine hK.out _ _ ⟨zc BK226.out 0, zc BK226.out 1, zc BK226.out 2, zc BK226.out 3, zc BK226.out 4, zc BK226.out 5, zc BK226.out 6, zc BK226.out 7, zc BK226.out 8, zc BK226.out 9, zc BK226.out 10, zc BK226.out 11, zc BK226.out 12, zc BK226.out 13, zc BK226.out 14, zc BK226.out 15, zc BK240.out 0, zc BK240.out 1, zc BK240.out 2, zc BK240.out 3, zc BK240.out 4, zc BK227.out 0, zc BK227.out 1, zc BK227.out 2, zc BK227.out 3, zc BK227.out 4⟩ (fun hHeld => ?_)
              clear hK K
              refine norm_ (a' := ?_) ?_ ?_
              rotate_left
              ·show Act.put _ (some 116) _ = _
               exact zP
              refine pure_ (i := 17) (N := some 117) (v := ?_) (a' := ?_) #[true, true, true, true, true, true, true, true, true, true, true, true, true, true, true, true, true, true, false] rfl rfl (any_of HT_.out (by kernel_rfl)) (fun _ _ _ h => h) (Or.inl ⟨by rfl, ?_⟩) ?_ ?_
              rotate_left
              ·intro w'
               go_simp
               with_reducible rfl
              rotate_left
              ·exact zP
              refine pure_ (i := 18) (N := some 12) (v := ?_) (a' := ?_) #[true, true, true, true, true, true, true, true, true, true, true, true, true, true, true, true, true, true, true] rfl rfl (any_of HT_.out (by kernel_rfl)) (fun _ _ _ h => h) (Or.inl ⟨by rfl, ?_⟩) ?_ ?_
              rotate_left
              ·intro w'
               go_simp
               with_reducible rfl
              rotate_left
              ·exact zP
              refine done_ (done_of HT_.out (by kernel_rfl)) ?_
              try go_wp2
              go_ret
              exact ⟨by first | rfl | (simp [errW_none, errW_some] <;> rfl) | (simp [*, errW_none, errW_some] <;> rfl), by repeat (first | (with_reducible first | exact HB.out | apply below_alloc | apply pw_below_drewN | apply below_drew1 | refine below_set ?_ GE226.out | refine below_set ?_ GE227.out | refine below_set ?_ GE240.out) | exact HB.out)⟩
             ·rw [if_neg c77] at H
              have c77b0 : (t241 == t242) = false := beq_eq_false_iff_ne.mpr c77
              have c77b1 : (t241 != t242) = true := bne_iff_ne.mpr c77
              exact absurd H (by simp)

end Go.Proofs.Ytlilncnoohfcdaa.Db
