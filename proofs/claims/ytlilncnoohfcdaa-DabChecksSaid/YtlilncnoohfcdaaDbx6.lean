-- PRINTED by print.py (a twelfth state) out of the translation. Not trusted: Lean checks it.
import Derived.Test.YtlilncnoohfcdaaDax0
import Derived.Test.YtlilncnoohfcdaaDax10
import Derived.Test.YtlilncnoohfcdaaDax13
import Derived.Test.YtlilncnoohfcdaaDax14
import Derived.Test.YtlilncnoohfcdaaDax19
import Derived.Test.YtlilncnoohfcdaaDax5
import Derived.Test.YtlilncnoohfcdaaDax7
import Derived.Test.YtlilncnoohfcdaaDax8
import Derived.Test.YtlilncnoohfcdaaDbx0
import Derived.Test.YtlilncnoohfcdaaDbx1
import Derived.Test.YtlilncnoohfcdaaDbx2
import Derived.Test.YtlilncnoohfcdaaDbSt
namespace Go.Proofs.Ytlilncnoohfcdaa.Db
open Go.RowKit Go.Proofs.YtlilncnoohfcdaaW.PrintWords Go.Proofs.YtlilncnoohfcdaaW.PrintLast Go.Proofs.YtlilncnoohfcdaaW.PrintMore Go.Proofs.Ytlilncnoohfcdaa.Da
attribute [local go_sem] max2_int min2_int max_two min_two max_three min_three max_four min_four   -- for this text's walks alone
set_option linter.unusedVariables false
set_option linter.unusedSimpArgs false

attribute [local go_sem high] eqA32
/-! ### imageeditorlaw27_DabChecks: function 3 -/
def imageeditorlaw27_DabChecks.f (k : Nat) (a0_0 : Int) (a0_1 : Int) (a0_2 : Int) (a0_3 : Int) (a0_4 : Int) (a0_5 : Int) (a0_6 : Int) (a0_7 : Int) (a0_8 : Int) (a0_9 : Int) (a0_10 : Int) (a0_11 : Int) (a0_12 : Int) (a0_13 : Int) (l0_14 : List (S120)) (a0_15 : Bool) (a1_0 : Int) (a1_1 : Int) (a1_2 : Int) (a1_3 : Int) (a1_4 : Int) : Option (Bool) := (dab_Check.f k a0_0 a0_1 a0_2 a0_3 a0_4 a0_5 a0_6 a0_7 a0_8 a0_9 a0_10 a0_11 a0_12 a0_13 l0_14 a0_15).bind fun t193 => ((imageeditorref27_Check.f k a0_0 a0_1 a0_2 a0_3 a0_4 a0_5 a0_6 a0_7 a0_8 a0_9 a0_10 a0_11 a0_12 a0_13 l0_14 a0_15).bind fun t194 => (if t193 = t194 then ((dab_Box.f a1_0 a1_1 a1_2 a1_3 a1_4).bind fun bt195 => ((imageeditorref27_Box.f k a1_0 a1_1 a1_2 a1_3 a1_4).bind fun bt199 => (if (bt195.1 == bt199.1 && (bt195.2.1 == bt199.2.1 && (bt195.2.2.1 == bt199.2.2.1 && (bt195.2.2.2 == bt199.2.2.2)))) = true then ((imageeditorlaw27_awake.f k).bind fun t203 => (some t203)) else (none)))) else (none)))
theorem imageeditorlaw27_DabChecks.mono : ∀ a0 a1 a2 a3 a4 a5 a6 a7 a8 a9 a10 a11 a12 a13 a14 a15 a16 a17 a18 a19 a20 k, LeO (imageeditorlaw27_DabChecks.f k a0 a1 a2 a3 a4 a5 a6 a7 a8 a9 a10 a11 a12 a13 a14 a15 a16 a17 a18 a19 a20) (imageeditorlaw27_DabChecks.f (k + 1) a0 a1 a2 a3 a4 a5 a6 a7 a8 a9 a10 a11 a12 a13 a14 a15 a16 a17 a18 a19 a20) := by
 intro a0 a1 a2 a3 a4 a5 a6 a7 a8 a9 a10 a11 a12 a13 a14 a15 a16 a17 a18 a19 a20 k
 unfold imageeditorlaw27_DabChecks.f
 repeat' first
  | (with_reducible exact dab_Check.mono _ _ _ _ _ _ _ _ _ _ _ _ _ _ _ _ _)
  | (with_reducible exact imageeditorlaw27_awake.mono _)
  | (with_reducible exact imageeditorref27_Box.mono _ _ _ _ _ _)
  | (with_reducible exact imageeditorref27_Check.mono _ _ _ _ _ _ _ _ _ _ _ _ _ _ _ _ _)
  | (with_reducible exact LeO.refl _)
  | (with_reducible exact LeO.none _)
  | (with_reducible refine LeO.ite ?_ ?_)
  | (with_reducible refine LeO.bind ?_ (fun _ => ?_))
  | exact dab_Check.mono _ _ _ _ _ _ _ _ _ _ _ _ _ _ _ _ _
  | exact imageeditorlaw27_awake.mono _
  | exact imageeditorref27_Box.mono _ _ _ _ _ _
  | exact imageeditorref27_Check.mono _ _ _ _ _ _ _ _ _ _ _ _ _ _ _ _ _
  | exact LeO.none _
  | refine LeO.ite ?_ ?_
  | refine LeO.bind ?_ (fun _ => ?_)
def imageeditorlaw27_DabChecks.T1 : Bool × List (List Nat × List Nat) := (true, [([], []), ([0], [0]), ([], []), ([2, 1], [2]), ([1, 3], [1, 3]), ([4, 3], [4]), ([5], [5]), ([6, 5, 5], [5, 6]), ([5], [5]), ([8, 7, 5], [5, 8]), ([7, 9, 5], [5, 7, 9]), ([5, 10], [5, 10]), ([11, 9], [11]), ([12, 12], [12]), ([12, 13], [12, 13]), ([14, 13, 0, 1, 2, 3, 4, 5, 6, 7, 8, 9, 10, 11, 12, 13, 14], [14])])
def imageeditorlaw27_DabChecks.B1 : List Nat := [0, 1, 0, 7, 15, 31, 63, 127, 63, 511, 1023, 2047, 4095, 8191, 16383, 32767]
theorem imageeditorlaw27_DabChecks.tab1 : rtab .any (opsOf Try.f3 1) = imageeditorlaw27_DabChecks.T1 := by kernel_rfl
theorem imageeditorlaw27_DabChecks.bits1 : waitsOk imageeditorlaw27_DabChecks.T1.2 imageeditorlaw27_DabChecks.B1 = true := by kernel_rfl
set_option maxHeartbeats 8000000 in
set_option maxRecDepth 100000 in
theorem imageeditorlaw27_DabChecks.calls (k : Nat) (a0_0 : Int) (a0_1 : Int) (a0_2 : Int) (a0_3 : Int) (a0_4 : Int) (a0_5 : Int) (a0_6 : Int) (a0_7 : Int) (a0_8 : Int) (a0_9 : Int) (a0_10 : Int) (a0_11 : Int) (a0_12 : Int) (a0_13 : Int) (A0_14 : Option Addr) (c0_14 : Nat) (l0_14 : List (S120)) (a0_15 : Bool) (a1_0 : Int) (a1_1 : Int) (a1_2 : Int) (a1_3 : Int) (a1_4 : Int) (r : Bool) (w : World) (hr0_14 : Kd.C k120 w A0_14 l0_14.length l0_14) (hc0_14 : l0_14.length ≤ c0_14) (h : imageeditorlaw27_DabChecks.f k a0_0 a0_1 a0_2 a0_3 a0_4 a0_5 a0_6 a0_7 a0_8 a0_9 a0_10 a0_11 a0_12 a0_13 l0_14 a0_15 a1_0 a1_1 a1_2 a1_3 a1_4 = some r) :
 Calls Try.prog 3 #[.agg #[.int .i64 a0_0, .int .i64 a0_1, .int .i64 a0_2, .int .i64 a0_3, .int .i64 a0_4, .int .i64 a0_5, .int .i64 a0_6, .int .i64 a0_7, .int .i64 a0_8, .int .i64 a0_9, .int .i64 a0_10, .int .i64 a0_11, .int .i64 a0_12, .int .i64 a0_13, .slice A0_14 l0_14.length c0_14, .bool a0_15], .agg #[.int .i64 a1_0, .int .i64 a1_1, .int .i64 a1_2, .int .i64 a1_3, .int .i64 a1_4]] w fun e w' => e = .returned (.bool r) ∧ Below w.heap.size w w' := by
 have hu26 := Try.underlying26
 have hu28 := Try.underlying28
 have HR0_14 := Aside0.mk hr0_14
 have HC0_14 := Aside0.mk hc0_14
 clear hr0_14 hc0_14
 have HB := Aside0.mk (Below.refl w.heap.size w)
 have H : ((dab_Check.f k a0_0 a0_1 a0_2 a0_3 a0_4 a0_5 a0_6 a0_7 a0_8 a0_9 a0_10 a0_11 a0_12 a0_13 l0_14 a0_15).bind fun t193 => ((imageeditorref27_Check.f k a0_0 a0_1 a0_2 a0_3 a0_4 a0_5 a0_6 a0_7 a0_8 a0_9 a0_10 a0_11 a0_12 a0_13 l0_14 a0_15).bind fun t194 => (if t193 = t194 then ((dab_Box.f a1_0 a1_1 a1_2 a1_3 a1_4).bind fun bt195 => ((imageeditorref27_Box.f k a1_0 a1_1 a1_2 a1_3 a1_4).bind fun bt199 => (if (bt195.1 == bt199.1 && (bt195.2.1 == bt199.2.1 && (bt195.2.2.1 == bt199.2.2.1 && (bt195.2.2.2 == bt199.2.2.2)))) = true then ((imageeditorlaw27_awake.f k).bind fun t203 => (some t203)) else (none)))) else (none)))) = some r := h
 clear h
 replace H := Option.bind_eq_some_iff.mp H
 obtain ⟨t193, A30, H⟩ := H
 replace H : ((imageeditorref27_Check.f k a0_0 a0_1 a0_2 a0_3 a0_4 a0_5 a0_6 a0_7 a0_8 a0_9 a0_10 a0_11 a0_12 a0_13 l0_14 a0_15).bind fun t194 => (if t193 = t194 then ((dab_Box.f a1_0 a1_1 a1_2 a1_3 a1_4).bind fun bt195 => ((imageeditorref27_Box.f k a1_0 a1_1 a1_2 a1_3 a1_4).bind fun bt199 => (if (bt195.1 == bt199.1 && (bt195.2.1 == bt199.2.1 && (bt195.2.2.1 == bt199.2.2.1 && (bt195.2.2.2 == bt199.2.2.2)))) = true then ((imageeditorlaw27_awake.f k).bind fun t203 => (some t203)) else (none)))) else (none))) = some r := H
 have A3 := Aside0.mk A30
 clear A30
 replace H := Option.bind_eq_some_iff.mp H
 obtain ⟨t194, A40, H⟩ := H
 replace H : (if t193 = t194 then ((dab_Box.f a1_0 a1_1 a1_2 a1_3 a1_4).bind fun bt195 => ((imageeditorref27_Box.f k a1_0 a1_1 a1_2 a1_3 a1_4).bind fun bt199 => (if (bt195.1 == bt199.1 && (bt195.2.1 == bt199.2.1 && (bt195.2.2.1 == bt199.2.2.1 && (bt195.2.2.2 == bt199.2.2.2)))) = true then ((imageeditorlaw27_awake.f k).bind fun t203 => (some t203)) else (none)))) else (none)) = some r := H
 have A4 := Aside0.mk A40
 clear A40
 by_cases c5 : t193 = t194
 ·rw [if_pos c5] at H
  have c5b0 : (t193 == t194) = true := beq_iff_eq.mpr c5
  have c5b1 : (t193 != t194) = false := bne_eq_false_iff_eq.mpr c5
  clear c5
  replace H := Option.bind_eq_some_iff.mp H
  obtain ⟨⟨t195, t196, t197, t198⟩, A60, H⟩ := H
  replace H : ((imageeditorref27_Box.f k a1_0 a1_1 a1_2 a1_3 a1_4).bind fun bt199 => (if (t195 == bt199.1 && (t196 == bt199.2.1 && (t197 == bt199.2.2.1 && (t198 == bt199.2.2.2)))) = true then ((imageeditorlaw27_awake.f k).bind fun t203 => (some t203)) else (none))) = some r := H
  have A6 := Aside0.mk A60
  clear A60
  replace H := Option.bind_eq_some_iff.mp H
  obtain ⟨⟨t199, t200, t201, t202⟩, A70, H⟩ := H
  replace H : (if (t195 == t199 && (t196 == t200 && (t197 == t201 && (t198 == t202)))) = true then ((imageeditorlaw27_awake.f k).bind fun t203 => (some t203)) else (none)) = some r := H
  have A7 := Aside0.mk A70
  clear A70
  by_cases c8 : (t195 == t199 && (t196 == t200 && (t197 == t201 && (t198 == t202)))) = true
  ·rw [if_pos c8] at H
   have c8b0 : (t195 == t199 && (t196 == t200 && (t197 == t201 && (t198 == t202)))) = true := c8
   (try (have c8b1 : decide (t195 = t199 && (t196 == t200 && (t197 == t201 && (t198 == t202)))) = true := by simpa using c8))
   (try (have c8b2 : (t195 == t199 && (t196 == t200 && (t197 == t201 && (t198 == t202)))) = true := by simpa using c8))
   clear c8
   replace H := Option.bind_eq_some_iff.mp H
   obtain ⟨t203, A90, H⟩ := H
   replace H : (some t203) = some r := H
   have A9 := Aside0.mk A90
   clear A90
   obtain rfl := Option.some.inj H
   go_enter Try.func3, Try.ntmps3
   try repeat' (first | ((with_reducible refine gate_list ?_); refine gate_st26 rfl ?_; (try (refine gate_guard (by rfl) ?_; dsimp only)); refine st_event26 rfl rfl rfl rfl rfl (by repeat (first | (with_reducible exact Aside0.out (by assumption)) | refine blk_far ?_ (by dsimp only; first | assumption | exact Ne.symm (by assumption) | exact Aside0.out (by assumption)) _)) ?_; intro SKh; have SK := Aside0.mk SKh; clear SKh) | ((with_reducible refine gate_list ?_); refine gate_ld26 rfl ?_; (try (refine gate_guard (by rfl) ?_; dsimp only)); refine ld_event26 rfl rfl rfl (by repeat (first | (with_reducible exact Aside0.out (by assumption)) | refine blk_far ?_ (by dsimp only; first | assumption | exact Ne.symm (by assumption) | exact Aside0.out (by assumption)) _)) ?_) | ((with_reducible refine gate_list ?_); refine gate_st28 rfl ?_; (try (refine gate_guard (by rfl) ?_; dsimp only)); refine st_event28 rfl rfl rfl rfl rfl (by repeat (first | (with_reducible exact Aside0.out (by assumption)) | refine blk_far ?_ (by dsimp only; first | assumption | exact Ne.symm (by assumption) | exact Aside0.out (by assumption)) _)) ?_; intro SKh; have SK := Aside0.mk SKh; clear SKh) | ((with_reducible refine gate_list ?_); refine gate_ld28 rfl ?_; (try (refine gate_guard (by rfl) ?_; dsimp only)); refine ld_event28 rfl rfl rfl (by repeat (first | (with_reducible exact Aside0.out (by assumption)) | refine blk_far ?_ (by dsimp only; first | assumption | exact Ne.symm (by assumption) | exact Aside0.out (by assumption)) _)) ?_) | ((with_reducible refine gate_list ?_); refine gate_st38 rfl ?_; (try (refine gate_guard (by rfl) ?_; dsimp only)); refine st_event38 rfl rfl rfl rfl rfl (by repeat (first | (with_reducible exact Aside0.out (by assumption)) | refine blk_far ?_ (by dsimp only; first | assumption | exact Ne.symm (by assumption) | exact Aside0.out (by assumption)) _)) ?_; intro SKh; have SK := Aside0.mk SKh; clear SKh) | ((with_reducible refine gate_list ?_); refine gate_ld38 rfl ?_; (try (refine gate_guard (by rfl) ?_; dsimp only)); refine ld_event38 rfl rfl rfl (by repeat (first | (with_reducible exact Aside0.out (by assumption)) | refine blk_far ?_ (by dsimp only; first | assumption | exact Ne.symm (by assumption) | exact Aside0.out (by assumption)) _)) ?_) | ((with_reducible refine gate_list ?_); refine gate_fl28_3 rfl ?_; (try (refine gate_guard (by rfl) ?_; dsimp only)); refine fl_event28_3 rfl rfl rfl ?_) | ((with_reducible refine gate_list ?_); refine gate_stI rfl ?_; (try (refine gate_guard (by rfl) ?_; dsimp only)); refine st_eventI rfl rfl rfl rfl rfl (by repeat (first | (with_reducible exact Aside0.out (by assumption)) | refine blk_far ?_ (by dsimp only; first | assumption | exact Ne.symm (by assumption) | exact Aside0.out (by assumption)) _)) rfl ?_) | ((with_reducible refine gate_dst (N := 2) rfl ?_); refine box_event ?hg (N := 2) ?hd (cs := #[.int .i64 a0_0, .int .i64 a0_1, .int .i64 a0_2, .int .i64 a0_3, .int .i64 a0_4, .int .i64 a0_5, .int .i64 a0_6, .int .i64 a0_7, .int .i64 a0_8, .int .i64 a0_9, .int .i64 a0_10, .int .i64 a0_11, .int .i64 a0_12, .int .i64 a0_13, .slice A0_14 l0_14.length c0_14, .bool a0_15]) (t := 26) ?hr ?_; (case hd => rfl); (case hg => rfl); (case hr => first | (go_simp; done) | (go_simp; rfl)); intro gb191 hg w10 hbox hb; have n0_ := Aside0.mk (below_step (zL HB.out) hb); have n1_ := Aside0.mk (hbox); have n2_ := Aside0.mk ((zS hg (zL HB.out) : w.heap.size ≤ gb191)); have n3_ := Aside0.mk ((zS hg (zL HB.out) : w.heap.size ≤ gb191)); clear HB; have HB := n0_; have BK191 := n1_; have GW191 := n2_; have GE191 := n3_; clear n0_ n1_ n2_ n3_; clear hb hbox hg) | ((with_reducible refine gate_dst (N := 3) rfl ?_); refine box_event ?hg (N := 3) ?hd (cs := #[.int .i64 a1_0, .int .i64 a1_1, .int .i64 a1_2, .int .i64 a1_3, .int .i64 a1_4]) (t := 28) ?hr ?_; (case hd => rfl); (case hg => rfl); (case hr => first | (go_simp; done) | (go_simp; rfl)); intro gb192 hg w11 hbox hb; have n0_ := Aside0.mk (blk_below (zB BK191.out) hb); have n1_ := Aside0.mk (below_step (zL1 HB.out GE191.out) hb); have n2_ := Aside0.mk (hbox); have n3_ := Aside0.mk ((zS hg (zL1 HB.out GE191.out) : w.heap.size ≤ gb192)); have n4_ := Aside0.mk ((zS hg (zL1 HB.out GE191.out) : w.heap.size ≤ gb192)); have n5_ := Aside0.mk ((by rw [hg]; exact Nat.ne_of_lt (blk_lt (zB BK191.out)) : gb191 ≠ gb192)); have n6_ := Aside0.mk ((by rw [hg]; exact Nat.ne_of_gt (blk_lt (zB BK191.out)) : gb192 ≠ gb191)); clear BK191; clear HB; have BK191 := n0_; have HB := n1_; have BK192 := n2_; have GW192 := n3_; have GE192 := n4_; have NB191_192 := n5_; have NB192_191 := n6_; clear n0_ n1_ n2_ n3_ n4_ n5_ n6_; clear hb hbox hg) | go_values | go_skip | go_guarded | go_step | go_upon | go_back | (simp only [Int.not_lt, Int.not_le] at *; go_simp) | (go_values <;> (try go_simp)) | (go_ite <;> go_prune <;> (try go_simp)) | (split <;> (first | (rename_i hx; exact (hx _ rfl).elim) | go_prune)))
   replace BK191 := Aside0.mk (blk_drew BK191.out)
   replace BK192 := Aside0.mk (blk_drew BK192.out)
   replace HB := Aside0.mk (below_drew1 HB.out)
   refine start_ (n := 16) (S := fun w' => w'.cell? ⟨gb191, 0, none⟩ = some (.int .i64 a0_0) ∧ w'.cell? ⟨gb191, 1, none⟩ = some (.int .i64 a0_1) ∧ w'.cell? ⟨gb191, 2, none⟩ = some (.int .i64 a0_2) ∧ w'.cell? ⟨gb191, 3, none⟩ = some (.int .i64 a0_3) ∧ w'.cell? ⟨gb191, 4, none⟩ = some (.int .i64 a0_4) ∧ w'.cell? ⟨gb191, 5, none⟩ = some (.int .i64 a0_5) ∧ w'.cell? ⟨gb191, 6, none⟩ = some (.int .i64 a0_6) ∧ w'.cell? ⟨gb191, 7, none⟩ = some (.int .i64 a0_7) ∧ w'.cell? ⟨gb191, 8, none⟩ = some (.int .i64 a0_8) ∧ w'.cell? ⟨gb191, 9, none⟩ = some (.int .i64 a0_9) ∧ w'.cell? ⟨gb191, 10, none⟩ = some (.int .i64 a0_10) ∧ w'.cell? ⟨gb191, 11, none⟩ = some (.int .i64 a0_11) ∧ w'.cell? ⟨gb191, 12, none⟩ = some (.int .i64 a0_12) ∧ w'.cell? ⟨gb191, 13, none⟩ = some (.int .i64 a0_13) ∧ w'.cell? ⟨gb191, 14, none⟩ = some (.slice A0_14 l0_14.length c0_14) ∧ w'.cell? ⟨gb191, 15, none⟩ = some (.bool a0_15) ∧ w'.cell? ⟨gb192, 0, none⟩ = some (.int .i64 a1_0) ∧ w'.cell? ⟨gb192, 1, none⟩ = some (.int .i64 a1_1) ∧ w'.cell? ⟨gb192, 2, none⟩ = some (.int .i64 a1_2) ∧ w'.cell? ⟨gb192, 3, none⟩ = some (.int .i64 a1_3) ∧ w'.cell? ⟨gb192, 4, none⟩ = some (.int .i64 a1_4)) (ds := []) #[false, false, false, false, false, false, false, false, false, false, false, false, false, false, false, false] (by kernel_rfl) rfl rfl ⟨zc BK191.out 0, zc BK191.out 1, zc BK191.out 2, zc BK191.out 3, zc BK191.out 4, zc BK191.out 5, zc BK191.out 6, zc BK191.out 7, zc BK191.out 8, zc BK191.out 9, zc BK191.out 10, zc BK191.out 11, zc BK191.out 12, zc BK191.out 13, zc BK191.out 14, zc BK191.out 15, zc BK192.out 0, zc BK192.out 1, zc BK192.out 2, zc BK192.out 3, zc BK192.out 4⟩ (fun hHeld => ?_); refine with_tabW imageeditorlaw27_DabChecks.tab1 imageeditorlaw27_DabChecks.bits1 (fun HT_ HW_ => ?_)
   generalize w11.drew = w12 at BK191 BK192 HB hHeld ⊢
   refine take_ (i := 0) (N := some 5) (v := ?_) (a' := ?_) #[true, false, false, false, false, false, false, false, false, false, false, false, false, false, false, false] rfl rfl (take_ofW HT_.out HW_.out (by kernel_rfl)) (fun _ _ _ h => h) (Or.inl ⟨by rfl, ?_⟩) hHeld ?_ ?_
   rotate_left
   ·rintro w' ⟨s0, s1, s2, s3, s4, s5, s6, s7, s8, s9, s10, s11, s12, s13, s14, s15, s16, s17, s18, s19, s20⟩
    go_simp
    with_reducible rfl
   rotate_left
   ·exact zP
   refine take_ (i := 2) (N := some 7) (v := ?_) (a' := ?_) #[true, false, true, false, false, false, false, false, false, false, false, false, false, false, false, false] rfl rfl (take_ofW HT_.out HW_.out (by kernel_rfl)) (fun _ _ _ h => h) (Or.inl ⟨by rfl, ?_⟩) hHeld ?_ ?_
   rotate_left
   ·rintro w' ⟨s0, s1, s2, s3, s4, s5, s6, s7, s8, s9, s10, s11, s12, s13, s14, s15, s16, s17, s18, s19, s20⟩
    go_simp
    with_reducible rfl
   rotate_left
   ·exact zP
   refine one_ (i := 1) (N := some 6) #[true, true, true, false, false, false, false, false, false, false, false, false, false, false, false, false] rfl rfl (one_of HT_.out (by kernel_rfl)) (by decide) (fun K hK => ?_)
   refine goes_ Try.func14 (by kernel_rfl) rfl #[.agg #[.int .i64 a0_0, .int .i64 a0_1, .int .i64 a0_2, .int .i64 a0_3, .int .i64 a0_4, .int .i64 a0_5, .int .i64 a0_6, .int .i64 a0_7, .int .i64 a0_8, .int .i64 a0_9, .int .i64 a0_10, .int .i64 a0_11, .int .i64 a0_12, .int .i64 a0_13, .slice A0_14 l0_14.length c0_14, .bool a0_15]] (by rfl) rfl rfl zA ?_
   with_reducible refine (dab_Check.calls k a0_0 a0_1 a0_2 a0_3 a0_4 a0_5 a0_6 a0_7 a0_8 a0_9 a0_10 a0_11 a0_12 a0_13 _ _ l0_14 a0_15 t193 _ ?side1 ?side2 A3.out).mono ?_
   (case side1 => repeat (first | exact (Kd.C_below HR0_14.out HB.out) | (with_reducible refine Kd.C_alloc ?_ _) | (with_reducible refine Kd.C_drewN ?_ _) | (with_reducible refine Kd.C_drew ?_)))
   (case side2 => exact HC0_14.out)
   rintro e w13 ⟨rfl, hb⟩
   refine ⟨_, rfl, ?_⟩
   replace BK191 := Aside0.mk (blk_below (zB BK191.out) hb)
   replace BK192 := Aside0.mk (blk_below (zB BK192.out) hb)
   replace HB := Aside0.mk (below_step (zL2 HB.out GE191.out GE192.out) hb)
   (try clear hb)
   (try clear hb2)
   (try clear hk)
   (try clear hi)
   refine hK.out _ _ ⟨zc BK191.out 0, zc BK191.out 1, zc BK191.out 2, zc BK191.out 3, zc BK191.out 4, zc BK191.out 5, zc BK191.out 6, zc BK191.out 7, zc BK191.out 8, zc BK191.out 9, zc BK191.out 10, zc BK191.out 11, zc BK191.out 12, zc BK191.out 13, zc BK191.out 14, zc BK191.out 15, zc BK192.out 0, zc BK192.out 1, zc BK192.out 2, zc BK192.out 3, zc BK192.out 4⟩ (fun hHeld => ?_)
   clear hK K
   refine norm_ (a' := ?_) ?_ ?_
   rotate_left
   ·show Act.put _ (some 6) _ = _
    exact zP
   refine one_ (i := 3) (N := some 8) #[true, true, true, true, false, false, false, false, false, false, false, false, false, false, false, false] rfl rfl (one_of HT_.out (by kernel_rfl)) (by decide) (fun K hK => ?_)
   refine goes_ Try.func15 (by kernel_rfl) rfl #[.agg #[.int .i64 a0_0, .int .i64 a0_1, .int .i64 a0_2, .int .i64 a0_3, .int .i64 a0_4, .int .i64 a0_5, .int .i64 a0_6, .int .i64 a0_7, .int .i64 a0_8, .int .i64 a0_9, .int .i64 a0_10, .int .i64 a0_11, .int .i64 a0_12, .int .i64 a0_13, .slice A0_14 l0_14.length c0_14, .bool a0_15]] (by rfl) rfl rfl zA ?_
   with_reducible refine (imageeditorref27_Check.calls k a0_0 a0_1 a0_2 a0_3 a0_4 a0_5 a0_6 a0_7 a0_8 a0_9 a0_10 a0_11 a0_12 a0_13 _ _ l0_14 a0_15 t194 _ ?side1 ?side2 A4.out).mono ?_
   (case side1 => repeat (first | exact (Kd.C_below HR0_14.out HB.out) | (with_reducible refine Kd.C_alloc ?_ _) | (with_reducible refine Kd.C_drewN ?_ _) | (with_reducible refine Kd.C_drew ?_)))
   (case side2 => exact HC0_14.out)
   rintro e w14 ⟨rfl, hb⟩
   refine ⟨_, rfl, ?_⟩
   replace BK191 := Aside0.mk (blk_below (zB BK191.out) hb)
   replace BK192 := Aside0.mk (blk_below (zB BK192.out) hb)
   replace HB := Aside0.mk (below_step (zL2 HB.out GE191.out GE192.out) hb)
   (try clear hb)
   (try clear hb2)
   (try clear hk)
   (try clear hi)
   refine hK.out _ _ ⟨zc BK191.out 0, zc BK191.out 1, zc BK191.out 2, zc BK191.out 3, zc BK191.out 4, zc BK191.out 5, zc BK191.out 6, zc BK191.out 7, zc BK191.out 8, zc BK191.out 9, zc BK191.out 10, zc BK191.out 11, zc BK191.out 12, zc BK191.out 13, zc BK191.out 14, zc BK191.out 15, zc BK192.out 0, zc BK192.out 1, zc BK192.out 2, zc BK192.out 3, zc BK192.out 4⟩ (fun hHeld => ?_)
   clear hK K
   refine norm_ (a' := ?_) ?_ ?_
   rotate_left
   ·show Act.put _ (some 8) _ = _
    exact zP
   refine pure_ (i := 4) (N := some 9) (v := ?_) (a' := ?_) #[true, true, true, true, true, false, false, false, false, false, false, false, false, false, false, false] rfl rfl (any_of HT_.out (by kernel_rfl)) (fun _ _ _ h => h) (Or.inl ⟨by rfl, ?_⟩) ?_ ?_
   rotate_left
   ·intro w'
    go_simp
    with_reducible rfl
   rotate_left
   ·exact zP
   refine pure_ (i := 5) (N := some 10) (v := ?_) (a' := ?_) #[true, true, true, true, true, true, false, false, false, false, false, false, false, false, false, false] rfl rfl (any_of HT_.out (by kernel_rfl)) (fun _ _ _ h => h) (Or.inl ⟨by rfl, ?_⟩) ?_ ?_
   rotate_left
   ·intro w'
    go_simp
    with_reducible rfl
   rotate_left
   ·exact zP
   refine take_ (i := 6) (N := some 11) (v := ?_) (a' := ?_) #[true, true, true, true, true, true, true, false, false, false, false, false, false, false, false, false] rfl rfl (take_ofW HT_.out HW_.out (by kernel_rfl)) (fun _ _ _ h => h) (Or.inl ⟨by rfl, ?_⟩) hHeld ?_ ?_
   rotate_left
   ·rintro w' ⟨s0, s1, s2, s3, s4, s5, s6, s7, s8, s9, s10, s11, s12, s13, s14, s15, s16, s17, s18, s19, s20⟩
    go_simp
    with_reducible rfl
   rotate_left
   ·exact zP
   refine take_ (i := 8) (N := some 13) (v := ?_) (a' := ?_) #[true, true, true, true, true, true, true, false, true, false, false, false, false, false, false, false] rfl rfl (take_ofW HT_.out HW_.out (by kernel_rfl)) (fun _ _ _ h => h) (Or.inl ⟨by rfl, ?_⟩) hHeld ?_ ?_
   rotate_left
   ·rintro w' ⟨s0, s1, s2, s3, s4, s5, s6, s7, s8, s9, s10, s11, s12, s13, s14, s15, s16, s17, s18, s19, s20⟩
    go_simp
    with_reducible rfl
   rotate_left
   ·exact zP
   refine one_ (i := 7) (N := some 12) #[true, true, true, true, true, true, true, true, true, false, false, false, false, false, false, false] rfl rfl (one_of HT_.out (by kernel_rfl)) (by decide) (fun K hK => ?_)
   refine goes_ Try.func16 (by kernel_rfl) rfl #[.agg #[.int .i64 a1_0, .int .i64 a1_1, .int .i64 a1_2, .int .i64 a1_3, .int .i64 a1_4]] (by rfl) rfl rfl zA ?_
   with_reducible refine (dab_Box.calls a1_0 a1_1 a1_2 a1_3 a1_4 t195 t196 t197 t198 _ A6.out).mono ?_
   rintro e w15 ⟨rfl, hb⟩
   refine ⟨_, rfl, ?_⟩
   replace BK191 := Aside0.mk (blk_below (zB BK191.out) hb)
   replace BK192 := Aside0.mk (blk_below (zB BK192.out) hb)
   replace HB := Aside0.mk (below_step (zL2 HB.out GE191.out GE192.out) hb)
   (try clear hb)
   (try clear hb2)
   (try clear hk)
   (try clear hi)
   refine hK.out _ _ ⟨zc BK191.out 0, zc BK191.out 1, zc BK191.out 2, zc BK191.out 3, zc BK191.out 4, zc BK191.out 5, zc BK191.out 6, zc BK191.out 7, zc BK191.out 8, zc BK191.out 9, zc BK191.out 10, zc BK191.out 11, zc BK191.out 12, zc BK191.out 13, zc BK191.out 14, zc BK191.out 15, zc BK192.out 0, zc BK192.out 1, zc BK192.out 2, zc BK192.out 3, zc BK192.out 4⟩ (fun hHeld => ?_)
   clear hK K
   refine norm_ (a' := ?_) ?_ ?_
   rotate_left
   ·show Act.put _ (some 12) _ = _
    exact zP
   refine one_ (i := 9) (N := some 14) #[true, true, true, true, true, true, true, true, true, true, false, false, false, false, false, false] rfl rfl (one_of HT_.out (by kernel_rfl)) (by decide) (fun K hK => ?_)
   refine goes_ Try.func17 (by kernel_rfl) rfl #[.agg #[.int .i64 a1_0, .int .i64 a1_1, .int .i64 a1_2, .int .i64 a1_3, .int .i64 a1_4]] (by rfl) rfl rfl zA ?_
   with_reducible refine (imageeditorref27_Box.calls k a1_0 a1_1 a1_2 a1_3 a1_4 t199 t200 t201 t202 _ A7.out).mono ?_
   rintro e w16 ⟨rfl, hb⟩
   refine ⟨_, rfl, ?_⟩
   replace BK191 := Aside0.mk (blk_below (zB BK191.out) hb)
   replace BK192 := Aside0.mk (blk_below (zB BK192.out) hb)
   replace HB := Aside0.mk (below_step (zL2 HB.out GE191.out GE192.out) hb)
   (try clear hb)
   (try clear hb2)
   (try clear hk)
   (try clear hi)
   refine hK.out _ _ ⟨zc BK191.out 0, zc BK191.out 1, zc BK191.out 2, zc BK191.out 3, zc BK191.out 4, zc BK191.out 5, zc BK191.out 6, zc BK191.out 7, zc BK191.out 8, zc BK191.out 9, zc BK191.out 10, zc BK191.out 11, zc BK191.out 12, zc BK191.out 13, zc BK191.out 14, zc BK191.out 15, zc BK192.out 0, zc BK192.out 1, zc BK192.out 2, zc BK192.out 3, zc BK192.out 4⟩ (fun hHeld => ?_)
   clear hK K
   refine norm_ (a' := ?_) ?_ ?_
   rotate_left
   ·show Act.put _ (some 14) _ = _
    exact zP
   refine pure_ (i := 10) (N := some 15) (v := ?_) (a' := ?_) #[true, true, true, true, true, true, true, true, true, true, true, false, false, false, false, false] rfl rfl (any_of HT_.out (by kernel_rfl)) (fun _ _ _ h => h) (Or.inl ⟨by rfl, ?_⟩) ?_ ?_
   rotate_left
   ·intro w'
    go_simp
    with_reducible rfl
   rotate_left
   ·exact zP
   refine pure_ (i := 11) (N := some 16) (v := ?_) (a' := ?_) #[true, true, true, true, true, true, true, true, true, true, true, true, false, false, false, false] rfl rfl (any_of HT_.out (by kernel_rfl)) (fun _ _ _ h => h) (Or.inl ⟨by rfl, ?_⟩) ?_ ?_
   rotate_left
   ·intro w'
    go_simp
    with_reducible rfl
   rotate_left
   ·exact zP
   refine pure_ (i := 12) (N := some 17) (v := ?_) (a' := ?_) #[true, true, true, true, true, true, true, true, true, true, true, true, true, false, false, false] rfl rfl (any_of HT_.out (by kernel_rfl)) (fun _ _ _ h => h) (Or.inl ⟨by rfl, ?_⟩) ?_ ?_
   rotate_left
   ·intro w'
    go_simp
    with_reducible rfl
   rotate_left
   ·exact zP
   refine one_ (i := 13) (N := some 18) #[true, true, true, true, true, true, true, true, true, true, true, true, true, true, false, false] rfl rfl (one_of HT_.out (by kernel_rfl)) (by decide) (fun K hK => ?_)
   refine goes_ Try.func18 (by kernel_rfl) rfl #[] (by rfl) rfl rfl zA ?_
   with_reducible refine (imageeditorlaw27_awake.calls k  t203 _ A9.out).mono ?_
   rintro e w17 ⟨rfl, hb⟩
   refine ⟨_, rfl, ?_⟩
   replace BK191 := Aside0.mk (blk_below (zB BK191.out) hb)
   replace BK192 := Aside0.mk (blk_below (zB BK192.out) hb)
   replace HB := Aside0.mk (below_step (zL2 HB.out GE191.out GE192.out) hb)
   (try clear hb)
   (try clear hb2)
   (try clear hk)
   (try clear hi)
   refine hK.out _ _ ⟨zc BK191.out 0, zc BK191.out 1, zc BK191.out 2, zc BK191.out 3, zc BK191.out 4, zc BK191.out 5, zc BK191.out 6, zc BK191.out 7, zc BK191.out 8, zc BK191.out 9, zc BK191.out 10, zc BK191.out 11, zc BK191.out 12, zc BK191.out 13, zc BK191.out 14, zc BK191.out 15, zc BK192.out 0, zc BK192.out 1, zc BK192.out 2, zc BK192.out 3, zc BK192.out 4⟩ (fun hHeld => ?_)
   clear hK K
   refine norm_ (a' := ?_) ?_ ?_
   rotate_left
   ·show Act.put _ (some 18) _ = _
    exact zP
   refine pure_ (i := 14) (N := some 19) (v := ?_) (a' := ?_) #[true, true, true, true, true, true, true, true, true, true, true, true, true, true, true, false] rfl rfl (any_of HT_.out (by kernel_rfl)) (fun _ _ _ h => h) (Or.inl ⟨by rfl, ?_⟩) ?_ ?_
   rotate_left
   ·intro w'
    go_simp
    with_reducible rfl
   rotate_left
   ·exact zP
   refine pure_ (i := 15) (N := some 4) (v := ?_) (a' := ?_) #[true, true, true, true, true, true, true, true, true, true, true, true, true, true, true, true] rfl rfl (any_of HT_.out (by kernel_rfl)) (fun _ _ _ h => h) (Or.inl ⟨by rfl, ?_⟩) ?_ ?_
   rotate_left
   ·intro w'
    go_simp
    with_reducible rfl
   rotate_left
   ·exact zP
   refine done_ (done_of HT_.out (by kernel_rfl)) ?_
   try go_wp2
   go_ret
   exact ⟨by first | rfl | (simp [errW_none, errW_some] <;> rfl) | (simp [*, errW_none, errW_some] <;> rfl), by repeat (first | (with_reducible first | exact HB.out | apply below_alloc | apply pw_below_drewN | apply below_drew1 | refine below_set ?_ GE191.out | refine below_set ?_ GE192.out) | exact HB.out)⟩
  ·rw [if_neg c8] at H
   have c8b0 : (t195 == t199 && (t196 == t200 && (t197 == t201 && (t198 == t202)))) = false := by simpa using c8
   (try (have c8b1 : decide (t195 = t199 && (t196 == t200 && (t197 == t201 && (t198 == t202)))) = false := by simpa using c8))
   (try (have c8b2 : (t195 == t199 && (t196 == t200 && (t197 == t201 && (t198 == t202)))) = false := by simpa using c8))
   (try (have c8b3 : ¬ (t195 = t199 && (t196 == t200 && (t197 == t201 && (t198 == t202)))) := by simpa using c8))
   clear c8
   exact absurd H (by simp)
 ·rw [if_neg c5] at H
  have c5b0 : (t193 == t194) = false := beq_eq_false_iff_ne.mpr c5
  have c5b1 : (t193 != t194) = true := bne_iff_ne.mpr c5
  exact absurd H (by simp)

-- NOT PRINTED: function 159 (imageeditorref01_table)

end Go.Proofs.Ytlilncnoohfcdaa.Db
