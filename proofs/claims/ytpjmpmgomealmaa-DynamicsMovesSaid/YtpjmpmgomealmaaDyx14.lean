-- PRINTED by print.py (a twelfth state) out of the translation. Not trusted: Lean checks it.
import Derived.Test.YtpjmpmgomealmaaDyx0
import Derived.Test.YtpjmpmgomealmaaDyVb
import Derived.Test.YtpjmpmgomealmaaDyx3
import Derived.Test.YtpjmpmgomealmaaDyx5
namespace Go.Proofs.Ytpjmpmgomealmaa.Dy
open Go.RowKit Go.Proofs.YtpjmpmgomealmaaW.PrintWords Go.Proofs.YtpjmpmgomealmaaW.PrintLast Go.Proofs.YtpjmpmgomealmaaW.PrintMore
attribute [local go_sem] max2_int min2_int max_two min_two max_three min_three max_four min_four   -- for this text's walks alone
set_option linter.unusedVariables false
set_option linter.unusedSimpArgs false

/-! ### imageeditorlaw26_DynamicsMoves: function 14 -/
def imageeditorlaw26_DynamicsMoves.f (k : Nat) (a0 : Int) (a1 : Int) (a2 : Int) (a3 : Int) (a4 : Int) (a5 : Int) (a6 : Int) (a7 : Int) (a8 : Int) : Option (Bool) := (dynamics_Speed.f k (wrap64 (a0)) (wrap64 (a1)) 0 0 (wrap64 (a6)) (wrap64 (a2)) (wrap64 (a3)) 0 0 (wrap64 ((wrap64 (a6)) + (wrap64 (a7))))).bind fun t190 => ((imageeditorlaw26_awake.f k).bind fun t193 => (if t193 = true then ((dynamics_Speed.f k (wrap64 (a2)) (wrap64 (a3)) 0 0 (wrap64 (a6)) (wrap64 (a0)) (wrap64 (a1)) 0 0 (wrap64 ((wrap64 (a6)) + (wrap64 (a7))))).bind fun t194 => (if t194 = t190 then ((dynamics_Speed.f k (wrap64 ((wrap64 (a0)) + (wrap64 (a4)))) (wrap64 ((wrap64 (a1)) + (wrap64 (a5)))) 0 0 (wrap64 ((wrap64 (a6)) + (wrap64 (a8)))) (wrap64 ((wrap64 (a2)) + (wrap64 (a4)))) (wrap64 ((wrap64 (a3)) + (wrap64 (a5)))) 0 0 (wrap64 ((wrap64 ((wrap64 (a6)) + (wrap64 (a7)))) + (wrap64 (a8))))).bind fun t195 => (some (t195 == t190))) else (some false))) else (some false)))
theorem imageeditorlaw26_DynamicsMoves.mono : ∀ a0 a1 a2 a3 a4 a5 a6 a7 a8 k, LeO (imageeditorlaw26_DynamicsMoves.f k a0 a1 a2 a3 a4 a5 a6 a7 a8) (imageeditorlaw26_DynamicsMoves.f (k + 1) a0 a1 a2 a3 a4 a5 a6 a7 a8) := by
  intro a0 a1 a2 a3 a4 a5 a6 a7 a8 k
  unfold imageeditorlaw26_DynamicsMoves.f
  repeat' first
      | (with_reducible exact dynamics_Speed.mono _ _ _ _ _ _ _ _ _ _ _)
      | (with_reducible exact imageeditorlaw26_awake.mono _)
      | (with_reducible exact LeO.refl _)
      | (with_reducible exact LeO.none _)
      | (with_reducible refine LeO.ite ?_ ?_)
      | (with_reducible refine LeO.bind ?_ (fun _ => ?_))
      | exact dynamics_Speed.mono _ _ _ _ _ _ _ _ _ _ _
      | exact imageeditorlaw26_awake.mono _
      | exact LeO.none _
      | refine LeO.ite ?_ ?_
      | refine LeO.bind ?_ (fun _ => ?_)
def imageeditorlaw26_DynamicsMoves.T5 : Bool × List (List Nat × List Nat) := (true, [([], []), ([0], [0]), ([], []), ([2], [2]), ([], []), ([4], [4]), ([], []), ([6], [6]), ([0, 1], []), ([8, 1, 0, 1], [1, 8]), ([0, 1, 2, 3, 8, 9], []), ([10, 3, 9, 0, 1, 2, 3, 8, 9], [3, 10]), ([0, 1, 2, 3, 4, 5, 8, 9, 10, 11], []), ([12, 5, 11, 0, 1, 2, 3, 4, 5, 8, 9, 10, 11], [5, 12]), ([0, 1, 2, 3, 4, 5, 6, 7, 8, 9, 10, 11, 12, 13], []), ([14, 7, 13, 0, 1, 2, 3, 4, 5, 6, 7, 8, 9, 10, 11, 12, 13], [7, 14])])
def imageeditorlaw26_DynamicsMoves.B5 : List Nat := [0, 1, 0, 4, 0, 16, 0, 64, 3, 259, 783, 1807, 3903, 7999, 16383, 32767]
theorem imageeditorlaw26_DynamicsMoves.tab5 : rtab .any (opsOf Try.f14 5) = imageeditorlaw26_DynamicsMoves.T5 := by kernel_rfl
theorem imageeditorlaw26_DynamicsMoves.bits5 : waitsOk imageeditorlaw26_DynamicsMoves.T5.2 imageeditorlaw26_DynamicsMoves.B5 = true := by kernel_rfl
def imageeditorlaw26_DynamicsMoves.T9 : Bool × List (List Nat × List Nat) := (true, [([], []), ([0], [0]), ([], []), ([2], [2]), ([1, 3], [1, 3]), ([], []), ([5], [5]), ([], []), ([7], [7]), ([6, 8], [6, 8]), ([], []), ([10], [10]), ([], []), ([12], [12]), ([11, 13], [11, 13]), ([], []), ([15], [15]), ([], []), ([17], [17]), ([16, 18], [16, 18]), ([0, 1, 2, 3, 4], []), ([20, 4, 0, 1, 2, 3, 4], [4, 20]), ([0, 1, 2, 3, 4, 5, 6, 7, 8, 9, 20, 21], []), ([22, 9, 21, 0, 1, 2, 3, 4, 5, 6, 7, 8, 9, 20, 21], [9, 22]), ([0, 1, 2, 3, 4, 5, 6, 7, 8, 9, 10, 11, 12, 13, 14, 20, 21, 22, 23], []), ([24, 14, 23, 0, 1, 2, 3, 4, 5, 6, 7, 8, 9, 10, 11, 12, 13, 14, 20, 21, 22, 23], [14, 24]), ([0, 1, 2, 3, 4, 5, 6, 7, 8, 9, 10, 11, 12, 13, 14, 15, 16, 17, 18, 19, 20, 21, 22, 23, 24, 25], []), ([26, 19, 25, 0, 1, 2, 3, 4, 5, 6, 7, 8, 9, 10, 11, 12, 13, 14, 15, 16, 17, 18, 19, 20, 21, 22, 23, 24, 25], [19, 26])])
def imageeditorlaw26_DynamicsMoves.B9 : List Nat := [0, 1, 0, 4, 15, 0, 32, 0, 128, 480, 0, 1024, 0, 4096, 15360, 0, 32768, 0, 131072, 491520, 31, 1048607, 3146751, 7341055, 15761407, 32538623, 67108863, 134217727]
theorem imageeditorlaw26_DynamicsMoves.tab9 : rtab .any (opsOf Try.f14 9) = imageeditorlaw26_DynamicsMoves.T9 := by kernel_rfl
theorem imageeditorlaw26_DynamicsMoves.bits9 : waitsOk imageeditorlaw26_DynamicsMoves.T9.2 imageeditorlaw26_DynamicsMoves.B9 = true := by kernel_rfl
def imageeditorlaw26_DynamicsMoves.T10 : Bool × List (List Nat × List Nat) := (true, [([], []), ([0], [0]), ([], []), ([2], [2]), ([1, 3], [1, 3]), ([], []), ([5], [5]), ([], []), ([7], [7]), ([6, 8], [6, 8]), ([0, 1, 2, 3, 4], []), ([10, 4, 0, 1, 2, 3, 4], [4, 10]), ([0, 1, 2, 3, 4, 5, 6, 7, 8, 9, 10, 11], []), ([12, 9, 11, 0, 1, 2, 3, 4, 5, 6, 7, 8, 9, 10, 11], [9, 12])])
def imageeditorlaw26_DynamicsMoves.B10 : List Nat := [0, 1, 0, 4, 15, 0, 32, 0, 128, 480, 31, 1055, 4095, 8191]
theorem imageeditorlaw26_DynamicsMoves.tab10 : rtab .any (opsOf Try.f14 10) = imageeditorlaw26_DynamicsMoves.T10 := by kernel_rfl
theorem imageeditorlaw26_DynamicsMoves.bits10 : waitsOk imageeditorlaw26_DynamicsMoves.T10.2 imageeditorlaw26_DynamicsMoves.B10 = true := by kernel_rfl
set_option maxHeartbeats 8000000 in
set_option maxRecDepth 100000 in
theorem imageeditorlaw26_DynamicsMoves.calls (k : Nat) (a0 : Int) (a1 : Int) (a2 : Int) (a3 : Int) (a4 : Int) (a5 : Int) (a6 : Int) (a7 : Int) (a8 : Int) (r : Bool) (w : World) (haw : imageeditorlaw26_awake.f k = some true) (hsw : ∀ x y, dynamics_Speed.f k (wrap64 a0) (wrap64 a1) 0 0 (wrap64 a6) (wrap64 a2) (wrap64 a3) 0 0 (wrap64 (wrap64 a6 + wrap64 a7)) = some x → dynamics_Speed.f k (wrap64 a2) (wrap64 a3) 0 0 (wrap64 a6) (wrap64 a0) (wrap64 a1) 0 0 (wrap64 (wrap64 a6 + wrap64 a7)) = some y → y = x) (h : imageeditorlaw26_DynamicsMoves.f k a0 a1 a2 a3 a4 a5 a6 a7 a8 = some r) :
    Calls Try.prog 14 #[.int .i16 a0, .int .i16 a1, .int .i16 a2, .int .i16 a3, .int .i16 a4, .int .i16 a5, .int .u16 a6, .int .u16 a7, .int .u16 a8] w fun e w' => e = .returned (.bool r) ∧ Below w.heap.size w w' := by
  have hu47 := Try.underlying47
  have HB := Aside0.mk (Below.refl w.heap.size w)
  have H : ((dynamics_Speed.f k (wrap64 (a0)) (wrap64 (a1)) 0 0 (wrap64 (a6)) (wrap64 (a2)) (wrap64 (a3)) 0 0 (wrap64 ((wrap64 (a6)) + (wrap64 (a7))))).bind fun t190 => ((imageeditorlaw26_awake.f k).bind fun t193 => (if t193 = true then ((dynamics_Speed.f k (wrap64 (a2)) (wrap64 (a3)) 0 0 (wrap64 (a6)) (wrap64 (a0)) (wrap64 (a1)) 0 0 (wrap64 ((wrap64 (a6)) + (wrap64 (a7))))).bind fun t194 => (if t194 = t190 then ((dynamics_Speed.f k (wrap64 ((wrap64 (a0)) + (wrap64 (a4)))) (wrap64 ((wrap64 (a1)) + (wrap64 (a5)))) 0 0 (wrap64 ((wrap64 (a6)) + (wrap64 (a8)))) (wrap64 ((wrap64 (a2)) + (wrap64 (a4)))) (wrap64 ((wrap64 (a3)) + (wrap64 (a5)))) 0 0 (wrap64 ((wrap64 ((wrap64 (a6)) + (wrap64 (a7)))) + (wrap64 (a8))))).bind fun t195 => (some (t195 == t190))) else (some false))) else (some false)))) = some r := h
  clear h
  replace H := Option.bind_eq_some_iff.mp H
  obtain ⟨t190, A100, H⟩ := H
  replace H : ((imageeditorlaw26_awake.f k).bind fun t193 => (if t193 = true then ((dynamics_Speed.f k (wrap64 (a2)) (wrap64 (a3)) 0 0 (wrap64 (a6)) (wrap64 (a0)) (wrap64 (a1)) 0 0 (wrap64 ((wrap64 (a6)) + (wrap64 (a7))))).bind fun t194 => (if t194 = t190 then ((dynamics_Speed.f k (wrap64 ((wrap64 (a0)) + (wrap64 (a4)))) (wrap64 ((wrap64 (a1)) + (wrap64 (a5)))) 0 0 (wrap64 ((wrap64 (a6)) + (wrap64 (a8)))) (wrap64 ((wrap64 (a2)) + (wrap64 (a4)))) (wrap64 ((wrap64 (a3)) + (wrap64 (a5)))) 0 0 (wrap64 ((wrap64 ((wrap64 (a6)) + (wrap64 (a7)))) + (wrap64 (a8))))).bind fun t195 => (some (t195 == t190))) else (some false))) else (some false))) = some r := H
  have A10 := Aside0.mk A100
  clear A100
  replace H := Option.bind_eq_some_iff.mp H
  obtain ⟨t193, A110, H⟩ := H
  replace H : (if t193 = true then ((dynamics_Speed.f k (wrap64 (a2)) (wrap64 (a3)) 0 0 (wrap64 (a6)) (wrap64 (a0)) (wrap64 (a1)) 0 0 (wrap64 ((wrap64 (a6)) + (wrap64 (a7))))).bind fun t194 => (if t194 = t190 then ((dynamics_Speed.f k (wrap64 ((wrap64 (a0)) + (wrap64 (a4)))) (wrap64 ((wrap64 (a1)) + (wrap64 (a5)))) 0 0 (wrap64 ((wrap64 (a6)) + (wrap64 (a8)))) (wrap64 ((wrap64 (a2)) + (wrap64 (a4)))) (wrap64 ((wrap64 (a3)) + (wrap64 (a5)))) 0 0 (wrap64 ((wrap64 ((wrap64 (a6)) + (wrap64 (a7)))) + (wrap64 (a8))))).bind fun t195 => (some (t195 == t190))) else (some false))) else (some false)) = some r := H
  have A11 := Aside0.mk A110
  clear A110
  by_cases c12 : t193 = true
  · subst c12
    have H1 : ((dynamics_Speed.f k (wrap64 (a2)) (wrap64 (a3)) 0 0 (wrap64 (a6)) (wrap64 (a0)) (wrap64 (a1)) 0 0 (wrap64 ((wrap64 (a6)) + (wrap64 (a7))))).bind fun t194 => (if t194 = t190 then ((dynamics_Speed.f k (wrap64 ((wrap64 (a0)) + (wrap64 (a4)))) (wrap64 ((wrap64 (a1)) + (wrap64 (a5)))) 0 0 (wrap64 ((wrap64 (a6)) + (wrap64 (a8)))) (wrap64 ((wrap64 (a2)) + (wrap64 (a4)))) (wrap64 ((wrap64 (a3)) + (wrap64 (a5)))) 0 0 (wrap64 ((wrap64 ((wrap64 (a6)) + (wrap64 (a7)))) + (wrap64 (a8))))).bind fun t195 => (some (t195 == t190))) else (some false))) = some r := by rw [if_pos rfl] at H; exact H
    clear H
    have H := H1
    clear H1
    replace H := Option.bind_eq_some_iff.mp H
    obtain ⟨t194, A130, H⟩ := H
    replace H : (if t194 = t190 then ((dynamics_Speed.f k (wrap64 ((wrap64 (a0)) + (wrap64 (a4)))) (wrap64 ((wrap64 (a1)) + (wrap64 (a5)))) 0 0 (wrap64 ((wrap64 (a6)) + (wrap64 (a8)))) (wrap64 ((wrap64 (a2)) + (wrap64 (a4)))) (wrap64 ((wrap64 (a3)) + (wrap64 (a5)))) 0 0 (wrap64 ((wrap64 ((wrap64 (a6)) + (wrap64 (a7)))) + (wrap64 (a8))))).bind fun t195 => (some (t195 == t190))) else (some false)) = some r := H
    have A13 := Aside0.mk A130
    clear A130
    by_cases c14 : t194 = t190
    · rw [if_pos c14] at H
      have c14b0 : (t194 == t190) = true := beq_iff_eq.mpr c14
      have c14b1 : (t194 != t190) = false := bne_eq_false_iff_eq.mpr c14
      clear c14
      replace H := Option.bind_eq_some_iff.mp H
      obtain ⟨t195, A150, H⟩ := H
      replace H : (some (t195 == t190)) = some r := H
      have A15 := Aside0.mk A150
      clear A150
      obtain rfl := Option.some.inj H
      go_enter Try.func14, Try.ntmps14
      try go_wp2_with (first | ((with_reducible refine gate_dst (N := 19) rfl ?_); refine box_event ?hg (N := 19) ?hd (cs := #[.int .i64 0, .int .i64 0, .int .i64 0, .int .i64 0, .int .i64 0]) (t := 47) ?hr ?_; (case hd => rfl); (case hg => rfl); (case hr => first | (go_simp; done) | (go_simp; rfl)); intro gb188 hg w16 hbox hb; have n0_ := Aside0.mk (below_step (by repeat (first | (with_reducible first | exact HB.out | apply below_alloc | apply pw_below_drewN | apply below_drew1) | exact HB.out)) hb); have n1_ := Aside0.mk (hbox); have n2_ := Aside0.mk ((by rw [hg]; exact (below_size (by repeat (first | (with_reducible first | exact HB.out | apply below_alloc | apply pw_below_drewN | apply below_drew1) | exact HB.out))) : w.heap.size ≤ gb188)); have n3_ := Aside0.mk ((by rw [hg]; exact (below_size (by repeat (first | (with_reducible first | exact HB.out | apply below_alloc | apply pw_below_drewN | apply below_drew1) | exact HB.out))) : w.heap.size ≤ gb188)); clear HB; have HB := n0_; have BK188 := n1_; have GW188 := n2_; have GE188 := n3_; clear n0_ n1_ n2_ n3_; clear hb hbox hg; have hcz17_0 : w16.cell? ⟨gb188, 0, none⟩ = some (.int .i64 0) := (blk_cell BK188.out 0).trans rfl; have hcz17_1 : w16.cell? ⟨gb188, 1, none⟩ = some (.int .i64 0) := (blk_cell BK188.out 1).trans rfl; have hcz17_2 : w16.cell? ⟨gb188, 2, none⟩ = some (.int .i64 0) := (blk_cell BK188.out 2).trans rfl; have hcz17_3 : w16.cell? ⟨gb188, 3, none⟩ = some (.int .i64 0) := (blk_cell BK188.out 3).trans rfl; have hcz17_4 : w16.cell? ⟨gb188, 4, none⟩ = some (.int .i64 0) := (blk_cell BK188.out 4).trans rfl; have hfz17_0 := blk_frozen BK188.out 0; have hfz17_1 := blk_frozen BK188.out 1; have hfz17_2 := blk_frozen BK188.out 2; have hfz17_3 := blk_frozen BK188.out 3; have hfz17_4 := blk_frozen BK188.out 4) | ((with_reducible refine gate_dst (N := 20) rfl ?_); refine box_event ?hg (N := 20) ?hd (cs := #[.int .i64 0, .int .i64 0, .int .i64 0, .int .i64 0, .int .i64 0]) (t := 47) ?hr ?_; (case hd => rfl); (case hg => rfl); (case hr => first | (go_simp; done) | (go_simp; rfl)); intro gb189 hg w18 hbox hb; have n0_ := Aside0.mk (blk_below (g := gb188) (o := .cells #[.int .i64 (wrap64 (a0)), .int .i64 (wrap64 (a1)), .int .i64 0, .int .i64 0, .int .i64 (wrap64 (a6))] 47 (0, 0)) (by (with_reducible repeat (first | refine blk_drewN ?_ _ | refine blk_drew ?_ | refine blk_alloc ?_ _)); refine blk_put (cs := #[.int .i64 (wrap64 (a0)), .int .i64 (wrap64 (a1)), .int .i64 0, .int .i64 0, .int .i64 0]) ?_ 4 _ rfl; (with_reducible repeat (first | refine blk_drewN ?_ _ | refine blk_drew ?_ | refine blk_alloc ?_ _)); refine blk_put (cs := #[.int .i64 (wrap64 (a0)), .int .i64 (wrap64 (a1)), .int .i64 0, .int .i64 0, .int .i64 0]) ?_ 3 _ rfl; (with_reducible repeat (first | refine blk_drewN ?_ _ | refine blk_drew ?_ | refine blk_alloc ?_ _)); refine blk_put (cs := #[.int .i64 (wrap64 (a0)), .int .i64 (wrap64 (a1)), .int .i64 0, .int .i64 0, .int .i64 0]) ?_ 2 _ rfl; (with_reducible repeat (first | refine blk_drewN ?_ _ | refine blk_drew ?_ | refine blk_alloc ?_ _)); refine blk_put (cs := #[.int .i64 (wrap64 (a0)), .int .i64 0, .int .i64 0, .int .i64 0, .int .i64 0]) ?_ 1 _ rfl; (with_reducible repeat (first | refine blk_drewN ?_ _ | refine blk_drew ?_ | refine blk_alloc ?_ _)); refine blk_put (cs := #[.int .i64 0, .int .i64 0, .int .i64 0, .int .i64 0, .int .i64 0]) ?_ 0 _ rfl; (with_reducible repeat (first | refine blk_drewN ?_ _ | refine blk_drew ?_ | refine blk_alloc ?_ _)); exact BK188.out) hb); have n1_ := Aside0.mk (below_step (by repeat (first | (with_reducible first | exact HB.out | apply below_alloc | apply pw_below_drewN | apply below_drew1 | refine below_set ?_ GE188.out) | exact HB.out)) hb); have n2_ := Aside0.mk (hbox); have n3_ := Aside0.mk ((by rw [hg]; exact (below_size (by repeat (first | (with_reducible first | exact HB.out | apply below_alloc | apply pw_below_drewN | apply below_drew1 | refine below_set ?_ GE188.out) | exact HB.out))) : w.heap.size ≤ gb189)); have n4_ := Aside0.mk ((by rw [hg]; exact (below_size (by repeat (first | (with_reducible first | exact HB.out | apply below_alloc | apply pw_below_drewN | apply below_drew1 | refine below_set ?_ GE188.out) | exact HB.out))) : w.heap.size ≤ gb189)); have n5_ := Aside0.mk ((by rw [hg]; exact Nat.ne_of_lt (blk_lt (g := gb188) (o := .cells #[.int .i64 (wrap64 (a0)), .int .i64 (wrap64 (a1)), .int .i64 0, .int .i64 0, .int .i64 (wrap64 (a6))] 47 (0, 0)) (by (with_reducible repeat (first | refine blk_drewN ?_ _ | refine blk_drew ?_ | refine blk_alloc ?_ _)); refine blk_put (cs := #[.int .i64 (wrap64 (a0)), .int .i64 (wrap64 (a1)), .int .i64 0, .int .i64 0, .int .i64 0]) ?_ 4 _ rfl; (with_reducible repeat (first | refine blk_drewN ?_ _ | refine blk_drew ?_ | refine blk_alloc ?_ _)); refine blk_put (cs := #[.int .i64 (wrap64 (a0)), .int .i64 (wrap64 (a1)), .int .i64 0, .int .i64 0, .int .i64 0]) ?_ 3 _ rfl; (with_reducible repeat (first | refine blk_drewN ?_ _ | refine blk_drew ?_ | refine blk_alloc ?_ _)); refine blk_put (cs := #[.int .i64 (wrap64 (a0)), .int .i64 (wrap64 (a1)), .int .i64 0, .int .i64 0, .int .i64 0]) ?_ 2 _ rfl; (with_reducible repeat (first | refine blk_drewN ?_ _ | refine blk_drew ?_ | refine blk_alloc ?_ _)); refine blk_put (cs := #[.int .i64 (wrap64 (a0)), .int .i64 0, .int .i64 0, .int .i64 0, .int .i64 0]) ?_ 1 _ rfl; (with_reducible repeat (first | refine blk_drewN ?_ _ | refine blk_drew ?_ | refine blk_alloc ?_ _)); refine blk_put (cs := #[.int .i64 0, .int .i64 0, .int .i64 0, .int .i64 0, .int .i64 0]) ?_ 0 _ rfl; (with_reducible repeat (first | refine blk_drewN ?_ _ | refine blk_drew ?_ | refine blk_alloc ?_ _)); exact BK188.out)) : gb188 ≠ gb189)); have n6_ := Aside0.mk ((by rw [hg]; exact Nat.ne_of_gt (blk_lt (g := gb188) (o := .cells #[.int .i64 (wrap64 (a0)), .int .i64 (wrap64 (a1)), .int .i64 0, .int .i64 0, .int .i64 (wrap64 (a6))] 47 (0, 0)) (by (with_reducible repeat (first | refine blk_drewN ?_ _ | refine blk_drew ?_ | refine blk_alloc ?_ _)); refine blk_put (cs := #[.int .i64 (wrap64 (a0)), .int .i64 (wrap64 (a1)), .int .i64 0, .int .i64 0, .int .i64 0]) ?_ 4 _ rfl; (with_reducible repeat (first | refine blk_drewN ?_ _ | refine blk_drew ?_ | refine blk_alloc ?_ _)); refine blk_put (cs := #[.int .i64 (wrap64 (a0)), .int .i64 (wrap64 (a1)), .int .i64 0, .int .i64 0, .int .i64 0]) ?_ 3 _ rfl; (with_reducible repeat (first | refine blk_drewN ?_ _ | refine blk_drew ?_ | refine blk_alloc ?_ _)); refine blk_put (cs := #[.int .i64 (wrap64 (a0)), .int .i64 (wrap64 (a1)), .int .i64 0, .int .i64 0, .int .i64 0]) ?_ 2 _ rfl; (with_reducible repeat (first | refine blk_drewN ?_ _ | refine blk_drew ?_ | refine blk_alloc ?_ _)); refine blk_put (cs := #[.int .i64 (wrap64 (a0)), .int .i64 0, .int .i64 0, .int .i64 0, .int .i64 0]) ?_ 1 _ rfl; (with_reducible repeat (first | refine blk_drewN ?_ _ | refine blk_drew ?_ | refine blk_alloc ?_ _)); refine blk_put (cs := #[.int .i64 0, .int .i64 0, .int .i64 0, .int .i64 0, .int .i64 0]) ?_ 0 _ rfl; (with_reducible repeat (first | refine blk_drewN ?_ _ | refine blk_drew ?_ | refine blk_alloc ?_ _)); exact BK188.out)) : gb189 ≠ gb188)); clear BK188; clear HB; have BK188 := n0_; have HB := n1_; have BK189 := n2_; have GW189 := n3_; have GE189 := n4_; have NB188_189 := n5_; have NB189_188 := n6_; clear n0_ n1_ n2_ n3_ n4_ n5_ n6_; clear hb hbox hg; have hnb19 := NB189_188.out; have hnc19 := NB188_189.out; have hcz20_0 : w18.cell? ⟨gb189, 0, none⟩ = some (.int .i64 0) := (blk_cell BK189.out 0).trans rfl; have hcz20_1 : w18.cell? ⟨gb189, 1, none⟩ = some (.int .i64 0) := (blk_cell BK189.out 1).trans rfl; have hcz20_2 : w18.cell? ⟨gb189, 2, none⟩ = some (.int .i64 0) := (blk_cell BK189.out 2).trans rfl; have hcz20_3 : w18.cell? ⟨gb189, 3, none⟩ = some (.int .i64 0) := (blk_cell BK189.out 3).trans rfl; have hcz20_4 : w18.cell? ⟨gb189, 4, none⟩ = some (.int .i64 0) := (blk_cell BK189.out 4).trans rfl; have hfz20_0 := blk_frozen BK189.out 0; have hfz20_1 := blk_frozen BK189.out 1; have hfz20_2 := blk_frozen BK189.out 2; have hfz20_3 := blk_frozen BK189.out 3; have hfz20_4 := blk_frozen BK189.out 4; have hcz21_0 : w18.cell? ⟨gb188, 0, none⟩ = some (.int .i64 (wrap64 (a0))) := (blk_cell BK188.out 0).trans rfl; have hcz21_1 : w18.cell? ⟨gb188, 1, none⟩ = some (.int .i64 (wrap64 (a1))) := (blk_cell BK188.out 1).trans rfl; have hcz21_2 : w18.cell? ⟨gb188, 2, none⟩ = some (.int .i64 0) := (blk_cell BK188.out 2).trans rfl; have hcz21_3 : w18.cell? ⟨gb188, 3, none⟩ = some (.int .i64 0) := (blk_cell BK188.out 3).trans rfl; have hcz21_4 : w18.cell? ⟨gb188, 4, none⟩ = some (.int .i64 (wrap64 (a6))) := (blk_cell BK188.out 4).trans rfl; have hfz21_0 := blk_frozen BK188.out 0; have hfz21_1 := blk_frozen BK188.out 1; have hfz21_2 := blk_frozen BK188.out 2; have hfz21_3 := blk_frozen BK188.out 3; have hfz21_4 := blk_frozen BK188.out 4) | ((with_reducible refine gate_callee (f := 33) rfl ?_); refine goesL_ (some 43) rfl rfl Try.func33 (by kernel_rfl) rfl #[.agg #[.int .i64 (wrap64 (a0)), .int .i64 (wrap64 (a1)), .int .i64 0, .int .i64 0, .int .i64 (wrap64 (a6))], .agg #[.int .i64 (wrap64 (a2)), .int .i64 (wrap64 (a3)), .int .i64 0, .int .i64 0, .int .i64 (wrap64 ((wrap64 (a6)) + (wrap64 (a7))))]] rfl (by (try simp only [List.map_toArray, List.map_cons, List.map_nil]); first | done | rfl | (simp only [List.length_drop, List.length_take]; rfl)) ?_; (with_reducible refine (dynamics_Speed.calls k (wrap64 (a0)) (wrap64 (a1)) 0 0 (wrap64 (a6)) (wrap64 (a2)) (wrap64 (a3)) 0 0 (wrap64 ((wrap64 (a6)) + (wrap64 (a7)))) t190 _ A10.out).mono ?_); rintro e w22 ⟨rfl, hb⟩; refine ⟨_, rfl, ?_⟩; have n0_ := Aside0.mk (blk_below (g := gb188) (o := .cells #[.int .i64 (wrap64 (a0)), .int .i64 (wrap64 (a1)), .int .i64 0, .int .i64 0, .int .i64 (wrap64 (a6))] 47 (0, 0)) (by (with_reducible repeat (first | refine blk_drewN ?_ _ | refine blk_drew ?_ | refine blk_alloc ?_ _)); refine blk_far ?_ NB188_189.out _; (with_reducible repeat (first | refine blk_drewN ?_ _ | refine blk_drew ?_ | refine blk_alloc ?_ _)); refine blk_far ?_ NB188_189.out _; (with_reducible repeat (first | refine blk_drewN ?_ _ | refine blk_drew ?_ | refine blk_alloc ?_ _)); refine blk_far ?_ NB188_189.out _; (with_reducible repeat (first | refine blk_drewN ?_ _ | refine blk_drew ?_ | refine blk_alloc ?_ _)); refine blk_far ?_ NB188_189.out _; (with_reducible repeat (first | refine blk_drewN ?_ _ | refine blk_drew ?_ | refine blk_alloc ?_ _)); refine blk_far ?_ NB188_189.out _; (with_reducible repeat (first | refine blk_drewN ?_ _ | refine blk_drew ?_ | refine blk_alloc ?_ _)); exact BK188.out) hb); have n1_ := Aside0.mk (blk_below (g := gb189) (o := .cells #[.int .i64 (wrap64 (a2)), .int .i64 (wrap64 (a3)), .int .i64 0, .int .i64 0, .int .i64 (wrap64 ((wrap64 (a6)) + (wrap64 (a7))))] 47 (0, 0)) (by (with_reducible repeat (first | refine blk_drewN ?_ _ | refine blk_drew ?_ | refine blk_alloc ?_ _)); refine blk_put (cs := #[.int .i64 (wrap64 (a2)), .int .i64 (wrap64 (a3)), .int .i64 0, .int .i64 0, .int .i64 0]) ?_ 4 _ rfl; (with_reducible repeat (first | refine blk_drewN ?_ _ | refine blk_drew ?_ | refine blk_alloc ?_ _)); refine blk_put (cs := #[.int .i64 (wrap64 (a2)), .int .i64 (wrap64 (a3)), .int .i64 0, .int .i64 0, .int .i64 0]) ?_ 3 _ rfl; (with_reducible repeat (first | refine blk_drewN ?_ _ | refine blk_drew ?_ | refine blk_alloc ?_ _)); refine blk_put (cs := #[.int .i64 (wrap64 (a2)), .int .i64 (wrap64 (a3)), .int .i64 0, .int .i64 0, .int .i64 0]) ?_ 2 _ rfl; (with_reducible repeat (first | refine blk_drewN ?_ _ | refine blk_drew ?_ | refine blk_alloc ?_ _)); refine blk_put (cs := #[.int .i64 (wrap64 (a2)), .int .i64 0, .int .i64 0, .int .i64 0, .int .i64 0]) ?_ 1 _ rfl; (with_reducible repeat (first | refine blk_drewN ?_ _ | refine blk_drew ?_ | refine blk_alloc ?_ _)); refine blk_put (cs := #[.int .i64 0, .int .i64 0, .int .i64 0, .int .i64 0, .int .i64 0]) ?_ 0 _ rfl; (with_reducible repeat (first | refine blk_drewN ?_ _ | refine blk_drew ?_ | refine blk_alloc ?_ _)); exact BK189.out) hb); have n2_ := Aside0.mk (below_step (by repeat (first | (with_reducible first | exact HB.out | apply below_alloc | apply pw_below_drewN | apply below_drew1 | refine below_set ?_ GE188.out | refine below_set ?_ GE189.out) | exact HB.out)) hb); clear BK188; clear BK189; clear HB; have BK188 := n0_; have BK189 := n1_; have HB := n2_; clear n0_ n1_ n2_; (try clear hb); (try clear hb2); (try clear hk); (try clear hi)))
      have n0_ := Aside0.mk (blk_drew BK188.out)
      have n1_ := Aside0.mk (blk_drew BK189.out)
      have n2_ := Aside0.mk (below_drew1 HB.out)
      clear BK188
      clear BK189
      clear HB
      have BK188 := n0_
      have BK189 := n1_
      have HB := n2_
      clear n0_ n1_ n2_
      refine start_ (n := 6) (S := fun w' => w'.cell? ⟨gb188, 0, none⟩ = some (.int .i64 (wrap64 (a0))) ∧ w'.cell? ⟨gb188, 1, none⟩ = some (.int .i64 (wrap64 (a1))) ∧ w'.cell? ⟨gb188, 2, none⟩ = some (.int .i64 0) ∧ w'.cell? ⟨gb188, 3, none⟩ = some (.int .i64 0) ∧ w'.cell? ⟨gb188, 4, none⟩ = some (.int .i64 (wrap64 (a6))) ∧ w'.cell? ⟨gb189, 0, none⟩ = some (.int .i64 (wrap64 (a2))) ∧ w'.cell? ⟨gb189, 1, none⟩ = some (.int .i64 (wrap64 (a3))) ∧ w'.cell? ⟨gb189, 2, none⟩ = some (.int .i64 0) ∧ w'.cell? ⟨gb189, 3, none⟩ = some (.int .i64 0) ∧ w'.cell? ⟨gb189, 4, none⟩ = some (.int .i64 (wrap64 ((wrap64 (a6)) + (wrap64 (a7)))))) (ds := []) #[false, false, false, false, false, false] (by kernel_rfl) rfl rfl ⟨(blk_cell BK188.out 0).trans rfl, (blk_cell BK188.out 1).trans rfl, (blk_cell BK188.out 2).trans rfl, (blk_cell BK188.out 3).trans rfl, (blk_cell BK188.out 4).trans rfl, (blk_cell BK189.out 0).trans rfl, (blk_cell BK189.out 1).trans rfl, (blk_cell BK189.out 2).trans rfl, (blk_cell BK189.out 3).trans rfl, (blk_cell BK189.out 4).trans rfl⟩ (fun hHeld => ?_)
      generalize w22.drew = w23 at BK188 BK189 HB hHeld ⊢
      refine take_ (i := 0) (N := some 44) (v := ?_) (a' := ?_) #[true, false, false, false, false, false] rfl rfl (by kernel_rfl) (fun _ _ _ h => h) (Or.inl ⟨by rfl, ?_⟩) hHeld ?_ ?_
      rotate_left
      · rintro w' ⟨s0, s1, s2, s3, s4, s5, s6, s7, s8, s9⟩
        go_simp
        with_reducible rfl
      rotate_left
      · simp only [Act.put, List.setIfInBounds_toArray, List.set_cons_zero, List.set_cons_succ, i64_w, i32_w]
        rfl
      refine take_ (i := 1) (N := some 45) (v := ?_) (a' := ?_) #[true, true, false, false, false, false] rfl rfl (by kernel_rfl) (fun _ _ _ h => h) (Or.inl ⟨by rfl, ?_⟩) hHeld ?_ ?_
      rotate_left
      · rintro w' ⟨s0, s1, s2, s3, s4, s5, s6, s7, s8, s9⟩
        go_simp
        with_reducible rfl
      rotate_left
      · simp only [Act.put, List.setIfInBounds_toArray, List.set_cons_zero, List.set_cons_succ, i64_w, i32_w]
        rfl
      refine join_ (σ := Nat × Nat) 2 #[true, true, true, true, false, false] (fun s_ => [(22, .pointer (some ⟨s_.1, 0, none⟩)), (23, .pointer (some ⟨s_.2, 0, none⟩))]) (fun s_ w' => (w'.cell? ⟨gb188, 0, none⟩ = some (.int .i64 (wrap64 (a0))) ∧ w'.cell? ⟨gb188, 1, none⟩ = some (.int .i64 (wrap64 (a1))) ∧ w'.cell? ⟨gb188, 2, none⟩ = some (.int .i64 0) ∧ w'.cell? ⟨gb188, 3, none⟩ = some (.int .i64 0) ∧ w'.cell? ⟨gb188, 4, none⟩ = some (.int .i64 (wrap64 (a6))) ∧ w'.cell? ⟨gb189, 0, none⟩ = some (.int .i64 (wrap64 (a2))) ∧ w'.cell? ⟨gb189, 1, none⟩ = some (.int .i64 (wrap64 (a3))) ∧ w'.cell? ⟨gb189, 2, none⟩ = some (.int .i64 0) ∧ w'.cell? ⟨gb189, 3, none⟩ = some (.int .i64 0) ∧ w'.cell? ⟨gb189, 4, none⟩ = some (.int .i64 (wrap64 ((wrap64 (a6)) + (wrap64 (a7)))))) ∧ (w'.heap[gb188]? = some (.cells #[.int .i64 (wrap64 (a0)), .int .i64 (wrap64 (a1)), .int .i64 0, .int .i64 0, .int .i64 (wrap64 (a6))] 47 (0, 0))) ∧ (w'.heap[gb189]? = some (.cells #[.int .i64 (wrap64 (a2)), .int .i64 (wrap64 (a3)), .int .i64 0, .int .i64 0, .int .i64 (wrap64 ((wrap64 (a6)) + (wrap64 (a7))))] 47 (0, 0))) ∧ (w'.heap[s_.1]? = some (.cells #[.int .i64 0, .int .i64 0, .int .i64 0, .int .i64 0, .int .i64 0] 47 (0, 0))) ∧ (w'.heap[s_.2]? = some (.cells #[.int .i64 0, .int .i64 0, .int .i64 0, .int .i64 0, .int .i64 0] 47 (0, 0))) ∧ (w.heap.size ≤ s_.1) ∧ (w.heap.size ≤ s_.1) ∧ (gb188 ≠ s_.1) ∧ (s_.1 ≠ gb188) ∧ (gb189 ≠ s_.1) ∧ (s_.1 ≠ gb189) ∧ (s_.2 ≠ s_.1) ∧ (s_.1 ≠ s_.2) ∧ (w.heap.size ≤ s_.2) ∧ (w.heap.size ≤ s_.2) ∧ (gb188 ≠ s_.2) ∧ (s_.2 ≠ gb188) ∧ (gb189 ≠ s_.2) ∧ (s_.2 ≠ gb189) ∧ (Below w.heap.size w w')) ?_ ?_
      rotate_left
      · intro hCont
        refine two_ (i := 2) (j := 3) (Ni := some 22) (Nj := some 23) #[true, true, true, false, false, false] #[true, true, false, true, false, false] rfl rfl rfl rfl (by kernel_rfl) (by decide) (by decide) (fun K hK => ?_) (fun K hK => ?_)
        · skip
          refine box_step ?hg (N := 22) ?hd (cs := #[.int .i64 0, .int .i64 0, .int .i64 0, .int .i64 0, .int .i64 0]) (t := 47) ?hr ?_; (case hd => rfl); (case hg => rfl); (case hr => first | (go_simp; done) | (go_simp; rfl))
          intro gb191 hg w24 hbox hb
          have n0_ := Aside0.mk (blk_below (g := gb188) (o := .cells #[.int .i64 (wrap64 (a0)), .int .i64 (wrap64 (a1)), .int .i64 0, .int .i64 0, .int .i64 (wrap64 (a6))] 47 (0, 0)) (by (with_reducible repeat (first | refine blk_drewN ?_ _ | refine blk_drew ?_ | refine blk_alloc ?_ _)); exact BK188.out) hb)
          have n1_ := Aside0.mk (blk_below (g := gb189) (o := .cells #[.int .i64 (wrap64 (a2)), .int .i64 (wrap64 (a3)), .int .i64 0, .int .i64 0, .int .i64 (wrap64 ((wrap64 (a6)) + (wrap64 (a7))))] 47 (0, 0)) (by (with_reducible repeat (first | refine blk_drewN ?_ _ | refine blk_drew ?_ | refine blk_alloc ?_ _)); exact BK189.out) hb)
          have n2_ := Aside0.mk (below_step (by repeat (first | (with_reducible first | exact HB.out | apply below_alloc | apply pw_below_drewN | apply below_drew1 | refine below_set ?_ GE188.out | refine below_set ?_ GE189.out) | exact HB.out)) hb)
          have n3_ := Aside0.mk (hbox)
          have n4_ := Aside0.mk ((by rw [hg]; exact (below_size (by repeat (first | (with_reducible first | exact HB.out | apply below_alloc | apply pw_below_drewN | apply below_drew1 | refine below_set ?_ GE188.out | refine below_set ?_ GE189.out) | exact HB.out))) : w.heap.size ≤ gb191))
          have n5_ := Aside0.mk ((by rw [hg]; exact (below_size (by repeat (first | (with_reducible first | exact HB.out | apply below_alloc | apply pw_below_drewN | apply below_drew1 | refine below_set ?_ GE188.out | refine below_set ?_ GE189.out) | exact HB.out))) : w.heap.size ≤ gb191))
          have n6_ := Aside0.mk ((by rw [hg]; exact Nat.ne_of_lt (blk_lt (g := gb188) (o := .cells #[.int .i64 (wrap64 (a0)), .int .i64 (wrap64 (a1)), .int .i64 0, .int .i64 0, .int .i64 (wrap64 (a6))] 47 (0, 0)) (by (with_reducible repeat (first | refine blk_drewN ?_ _ | refine blk_drew ?_ | refine blk_alloc ?_ _)); exact BK188.out)) : gb188 ≠ gb191))
          have n7_ := Aside0.mk ((by rw [hg]; exact Nat.ne_of_gt (blk_lt (g := gb188) (o := .cells #[.int .i64 (wrap64 (a0)), .int .i64 (wrap64 (a1)), .int .i64 0, .int .i64 0, .int .i64 (wrap64 (a6))] 47 (0, 0)) (by (with_reducible repeat (first | refine blk_drewN ?_ _ | refine blk_drew ?_ | refine blk_alloc ?_ _)); exact BK188.out)) : gb191 ≠ gb188))
          have n8_ := Aside0.mk ((by rw [hg]; exact Nat.ne_of_lt (blk_lt (g := gb189) (o := .cells #[.int .i64 (wrap64 (a2)), .int .i64 (wrap64 (a3)), .int .i64 0, .int .i64 0, .int .i64 (wrap64 ((wrap64 (a6)) + (wrap64 (a7))))] 47 (0, 0)) (by (with_reducible repeat (first | refine blk_drewN ?_ _ | refine blk_drew ?_ | refine blk_alloc ?_ _)); exact BK189.out)) : gb189 ≠ gb191))
          have n9_ := Aside0.mk ((by rw [hg]; exact Nat.ne_of_gt (blk_lt (g := gb189) (o := .cells #[.int .i64 (wrap64 (a2)), .int .i64 (wrap64 (a3)), .int .i64 0, .int .i64 0, .int .i64 (wrap64 ((wrap64 (a6)) + (wrap64 (a7))))] 47 (0, 0)) (by (with_reducible repeat (first | refine blk_drewN ?_ _ | refine blk_drew ?_ | refine blk_alloc ?_ _)); exact BK189.out)) : gb191 ≠ gb189))
          clear BK188
          clear BK189
          clear HB
          have BK188 := n0_
          have BK189 := n1_
          have HB := n2_
          have BK191 := n3_
          have GW191 := n4_
          have GE191 := n5_
          have NB188_191 := n6_
          have NB191_188 := n7_
          have NB189_191 := n8_
          have NB191_189 := n9_
          clear n0_ n1_ n2_ n3_ n4_ n5_ n6_ n7_ n8_ n9_
          clear hb hbox hg
          refine hK.out _ _ ⟨(blk_cell BK188.out 0).trans rfl, (blk_cell BK188.out 1).trans rfl, (blk_cell BK188.out 2).trans rfl, (blk_cell BK188.out 3).trans rfl, (blk_cell BK188.out 4).trans rfl, (blk_cell BK189.out 0).trans rfl, (blk_cell BK189.out 1).trans rfl, (blk_cell BK189.out 2).trans rfl, (blk_cell BK189.out 3).trans rfl, (blk_cell BK189.out 4).trans rfl⟩ (fun hHeld => ?_)
          clear hK K
          refine norm_ (a' := ?_) ?_ ?_
          rotate_left
          · show Act.put _ (some 22) _ = _
            simp only [Act.put, List.setIfInBounds_toArray, List.set_cons_zero, List.set_cons_succ, i64_w, i32_w]
            rfl
          refine one_ (i := 3) (N := some 23) #[true, true, true, true, false, false] rfl rfl (by kernel_rfl) (by decide) (fun K hK => ?_)
          refine box_step ?hg (N := 23) ?hd (cs := #[.int .i64 0, .int .i64 0, .int .i64 0, .int .i64 0, .int .i64 0]) (t := 47) ?hr ?_; (case hd => rfl); (case hg => rfl); (case hr => first | (go_simp; done) | (go_simp; rfl))
          intro gb192 hg w25 hbox hb
          have n0_ := Aside0.mk (blk_below (g := gb188) (o := .cells #[.int .i64 (wrap64 (a0)), .int .i64 (wrap64 (a1)), .int .i64 0, .int .i64 0, .int .i64 (wrap64 (a6))] 47 (0, 0)) (by (with_reducible repeat (first | refine blk_drewN ?_ _ | refine blk_drew ?_ | refine blk_alloc ?_ _)); exact BK188.out) hb)
          have n1_ := Aside0.mk (blk_below (g := gb189) (o := .cells #[.int .i64 (wrap64 (a2)), .int .i64 (wrap64 (a3)), .int .i64 0, .int .i64 0, .int .i64 (wrap64 ((wrap64 (a6)) + (wrap64 (a7))))] 47 (0, 0)) (by (with_reducible repeat (first | refine blk_drewN ?_ _ | refine blk_drew ?_ | refine blk_alloc ?_ _)); exact BK189.out) hb)
          have n2_ := Aside0.mk (blk_below (g := gb191) (o := .cells #[.int .i64 0, .int .i64 0, .int .i64 0, .int .i64 0, .int .i64 0] 47 (0, 0)) (by (with_reducible repeat (first | refine blk_drewN ?_ _ | refine blk_drew ?_ | refine blk_alloc ?_ _)); exact BK191.out) hb)
          have n3_ := Aside0.mk (below_step (by repeat (first | (with_reducible first | exact HB.out | apply below_alloc | apply pw_below_drewN | apply below_drew1 | refine below_set ?_ GE188.out | refine below_set ?_ GE189.out | refine below_set ?_ GE191.out) | exact HB.out)) hb)
          have n4_ := Aside0.mk (hbox)
          have n5_ := Aside0.mk ((by rw [hg]; exact (below_size (by repeat (first | (with_reducible first | exact HB.out | apply below_alloc | apply pw_below_drewN | apply below_drew1 | refine below_set ?_ GE188.out | refine below_set ?_ GE189.out | refine below_set ?_ GE191.out) | exact HB.out))) : w.heap.size ≤ gb192))
          have n6_ := Aside0.mk ((by rw [hg]; exact (below_size (by repeat (first | (with_reducible first | exact HB.out | apply below_alloc | apply pw_below_drewN | apply below_drew1 | refine below_set ?_ GE188.out | refine below_set ?_ GE189.out | refine below_set ?_ GE191.out) | exact HB.out))) : w.heap.size ≤ gb192))
          have n7_ := Aside0.mk ((by rw [hg]; exact Nat.ne_of_lt (blk_lt (g := gb188) (o := .cells #[.int .i64 (wrap64 (a0)), .int .i64 (wrap64 (a1)), .int .i64 0, .int .i64 0, .int .i64 (wrap64 (a6))] 47 (0, 0)) (by (with_reducible repeat (first | refine blk_drewN ?_ _ | refine blk_drew ?_ | refine blk_alloc ?_ _)); exact BK188.out)) : gb188 ≠ gb192))
          have n8_ := Aside0.mk ((by rw [hg]; exact Nat.ne_of_gt (blk_lt (g := gb188) (o := .cells #[.int .i64 (wrap64 (a0)), .int .i64 (wrap64 (a1)), .int .i64 0, .int .i64 0, .int .i64 (wrap64 (a6))] 47 (0, 0)) (by (with_reducible repeat (first | refine blk_drewN ?_ _ | refine blk_drew ?_ | refine blk_alloc ?_ _)); exact BK188.out)) : gb192 ≠ gb188))
          have n9_ := Aside0.mk ((by rw [hg]; exact Nat.ne_of_lt (blk_lt (g := gb189) (o := .cells #[.int .i64 (wrap64 (a2)), .int .i64 (wrap64 (a3)), .int .i64 0, .int .i64 0, .int .i64 (wrap64 ((wrap64 (a6)) + (wrap64 (a7))))] 47 (0, 0)) (by (with_reducible repeat (first | refine blk_drewN ?_ _ | refine blk_drew ?_ | refine blk_alloc ?_ _)); exact BK189.out)) : gb189 ≠ gb192))
          have n10_ := Aside0.mk ((by rw [hg]; exact Nat.ne_of_gt (blk_lt (g := gb189) (o := .cells #[.int .i64 (wrap64 (a2)), .int .i64 (wrap64 (a3)), .int .i64 0, .int .i64 0, .int .i64 (wrap64 ((wrap64 (a6)) + (wrap64 (a7))))] 47 (0, 0)) (by (with_reducible repeat (first | refine blk_drewN ?_ _ | refine blk_drew ?_ | refine blk_alloc ?_ _)); exact BK189.out)) : gb192 ≠ gb189))
          have n11_ := Aside0.mk ((by rw [hg]; exact Nat.ne_of_lt (blk_lt (g := gb191) (o := .cells #[.int .i64 0, .int .i64 0, .int .i64 0, .int .i64 0, .int .i64 0] 47 (0, 0)) (by (with_reducible repeat (first | refine blk_drewN ?_ _ | refine blk_drew ?_ | refine blk_alloc ?_ _)); exact BK191.out)) : gb191 ≠ gb192))
          have n12_ := Aside0.mk ((by rw [hg]; exact Nat.ne_of_gt (blk_lt (g := gb191) (o := .cells #[.int .i64 0, .int .i64 0, .int .i64 0, .int .i64 0, .int .i64 0] 47 (0, 0)) (by (with_reducible repeat (first | refine blk_drewN ?_ _ | refine blk_drew ?_ | refine blk_alloc ?_ _)); exact BK191.out)) : gb192 ≠ gb191))
          clear BK188
          clear BK189
          clear BK191
          clear HB
          have BK188 := n0_
          have BK189 := n1_
          have BK191 := n2_
          have HB := n3_
          have BK192 := n4_
          have GW192 := n5_
          have GE192 := n6_
          have NB188_192 := n7_
          have NB192_188 := n8_
          have NB189_192 := n9_
          have NB192_189 := n10_
          have NB191_192 := n11_
          have NB192_191 := n12_
          clear n0_ n1_ n2_ n3_ n4_ n5_ n6_ n7_ n8_ n9_ n10_ n11_ n12_
          clear hb hbox hg
          refine hK.out _ _ ⟨(blk_cell BK188.out 0).trans rfl, (blk_cell BK188.out 1).trans rfl, (blk_cell BK188.out 2).trans rfl, (blk_cell BK188.out 3).trans rfl, (blk_cell BK188.out 4).trans rfl, (blk_cell BK189.out 0).trans rfl, (blk_cell BK189.out 1).trans rfl, (blk_cell BK189.out 2).trans rfl, (blk_cell BK189.out 3).trans rfl, (blk_cell BK189.out 4).trans rfl⟩ (fun hHeld => ?_)
          clear hK K
          refine norm_ (a' := ?_) ?_ ?_
          rotate_left
          · show Act.put _ (some 23) _ = _
            simp only [Act.put, List.setIfInBounds_toArray, List.set_cons_zero, List.set_cons_succ, i64_w, i32_w]
            rfl
          exact norm_ (by simp only [putAll, Act.put, List.setIfInBounds_toArray, List.set_cons_zero, List.set_cons_succ]) (hCont (gb191, gb192) _ ⟨hHeld, (by (with_reducible repeat (first | refine blk_drewN ?_ _ | refine blk_drew ?_ | refine blk_alloc ?_ _)); exact BK188.out), (by (with_reducible repeat (first | refine blk_drewN ?_ _ | refine blk_drew ?_ | refine blk_alloc ?_ _)); exact BK189.out), (by (with_reducible repeat (first | refine blk_drewN ?_ _ | refine blk_drew ?_ | refine blk_alloc ?_ _)); exact BK191.out), (by (with_reducible repeat (first | refine blk_drewN ?_ _ | refine blk_drew ?_ | refine blk_alloc ?_ _)); exact BK192.out), GW191.out, GE191.out, NB188_191.out, NB191_188.out, NB189_191.out, NB191_189.out, NB192_191.out, NB191_192.out, GW192.out, GE192.out, NB188_192.out, NB192_188.out, NB189_192.out, NB192_189.out, (by repeat (first | (with_reducible first | exact HB.out | apply below_alloc | apply pw_below_drewN | apply below_drew1 | refine below_set ?_ GE188.out | refine below_set ?_ GE189.out | refine below_set ?_ GE191.out | refine below_set ?_ GE192.out) | exact HB.out))⟩)
        · skip
          refine box_step ?hg (N := 23) ?hd (cs := #[.int .i64 0, .int .i64 0, .int .i64 0, .int .i64 0, .int .i64 0]) (t := 47) ?hr ?_; (case hd => rfl); (case hg => rfl); (case hr => first | (go_simp; done) | (go_simp; rfl))
          intro gb192 hg w24 hbox hb
          have n0_ := Aside0.mk (blk_below (g := gb188) (o := .cells #[.int .i64 (wrap64 (a0)), .int .i64 (wrap64 (a1)), .int .i64 0, .int .i64 0, .int .i64 (wrap64 (a6))] 47 (0, 0)) (by (with_reducible repeat (first | refine blk_drewN ?_ _ | refine blk_drew ?_ | refine blk_alloc ?_ _)); exact BK188.out) hb)
          have n1_ := Aside0.mk (blk_below (g := gb189) (o := .cells #[.int .i64 (wrap64 (a2)), .int .i64 (wrap64 (a3)), .int .i64 0, .int .i64 0, .int .i64 (wrap64 ((wrap64 (a6)) + (wrap64 (a7))))] 47 (0, 0)) (by (with_reducible repeat (first | refine blk_drewN ?_ _ | refine blk_drew ?_ | refine blk_alloc ?_ _)); exact BK189.out) hb)
          have n2_ := Aside0.mk (below_step (by repeat (first | (with_reducible first | exact HB.out | apply below_alloc | apply pw_below_drewN | apply below_drew1 | refine below_set ?_ GE188.out | refine below_set ?_ GE189.out) | exact HB.out)) hb)
          have n3_ := Aside0.mk (hbox)
          have n4_ := Aside0.mk ((by rw [hg]; exact (below_size (by repeat (first | (with_reducible first | exact HB.out | apply below_alloc | apply pw_below_drewN | apply below_drew1 | refine below_set ?_ GE188.out | refine below_set ?_ GE189.out) | exact HB.out))) : w.heap.size ≤ gb192))
          have n5_ := Aside0.mk ((by rw [hg]; exact (below_size (by repeat (first | (with_reducible first | exact HB.out | apply below_alloc | apply pw_below_drewN | apply below_drew1 | refine below_set ?_ GE188.out | refine below_set ?_ GE189.out) | exact HB.out))) : w.heap.size ≤ gb192))
          have n6_ := Aside0.mk ((by rw [hg]; exact Nat.ne_of_lt (blk_lt (g := gb188) (o := .cells #[.int .i64 (wrap64 (a0)), .int .i64 (wrap64 (a1)), .int .i64 0, .int .i64 0, .int .i64 (wrap64 (a6))] 47 (0, 0)) (by (with_reducible repeat (first | refine blk_drewN ?_ _ | refine blk_drew ?_ | refine blk_alloc ?_ _)); exact BK188.out)) : gb188 ≠ gb192))
          have n7_ := Aside0.mk ((by rw [hg]; exact Nat.ne_of_gt (blk_lt (g := gb188) (o := .cells #[.int .i64 (wrap64 (a0)), .int .i64 (wrap64 (a1)), .int .i64 0, .int .i64 0, .int .i64 (wrap64 (a6))] 47 (0, 0)) (by (with_reducible repeat (first | refine blk_drewN ?_ _ | refine blk_drew ?_ | refine blk_alloc ?_ _)); exact BK188.out)) : gb192 ≠ gb188))
          have n8_ := Aside0.mk ((by rw [hg]; exact Nat.ne_of_lt (blk_lt (g := gb189) (o := .cells #[.int .i64 (wrap64 (a2)), .int .i64 (wrap64 (a3)), .int .i64 0, .int .i64 0, .int .i64 (wrap64 ((wrap64 (a6)) + (wrap64 (a7))))] 47 (0, 0)) (by (with_reducible repeat (first | refine blk_drewN ?_ _ | refine blk_drew ?_ | refine blk_alloc ?_ _)); exact BK189.out)) : gb189 ≠ gb192))
          have n9_ := Aside0.mk ((by rw [hg]; exact Nat.ne_of_gt (blk_lt (g := gb189) (o := .cells #[.int .i64 (wrap64 (a2)), .int .i64 (wrap64 (a3)), .int .i64 0, .int .i64 0, .int .i64 (wrap64 ((wrap64 (a6)) + (wrap64 (a7))))] 47 (0, 0)) (by (with_reducible repeat (first | refine blk_drewN ?_ _ | refine blk_drew ?_ | refine blk_alloc ?_ _)); exact BK189.out)) : gb192 ≠ gb189))
          clear BK188
          clear BK189
          clear HB
          have BK188 := n0_
          have BK189 := n1_
          have HB := n2_
          have BK192 := n3_
          have GW192 := n4_
          have GE192 := n5_
          have NB188_192 := n6_
          have NB192_188 := n7_
          have NB189_192 := n8_
          have NB192_189 := n9_
          clear n0_ n1_ n2_ n3_ n4_ n5_ n6_ n7_ n8_ n9_
          clear hb hbox hg
          refine hK.out _ _ ⟨(blk_cell BK188.out 0).trans rfl, (blk_cell BK188.out 1).trans rfl, (blk_cell BK188.out 2).trans rfl, (blk_cell BK188.out 3).trans rfl, (blk_cell BK188.out 4).trans rfl, (blk_cell BK189.out 0).trans rfl, (blk_cell BK189.out 1).trans rfl, (blk_cell BK189.out 2).trans rfl, (blk_cell BK189.out 3).trans rfl, (blk_cell BK189.out 4).trans rfl⟩ (fun hHeld => ?_)
          clear hK K
          refine norm_ (a' := ?_) ?_ ?_
          rotate_left
          · show Act.put _ (some 23) _ = _
            simp only [Act.put, List.setIfInBounds_toArray, List.set_cons_zero, List.set_cons_succ, i64_w, i32_w]
            rfl
          refine one_ (i := 2) (N := some 22) #[true, true, true, true, false, false] rfl rfl (by kernel_rfl) (by decide) (fun K hK => ?_)
          refine box_step ?hg (N := 22) ?hd (cs := #[.int .i64 0, .int .i64 0, .int .i64 0, .int .i64 0, .int .i64 0]) (t := 47) ?hr ?_; (case hd => rfl); (case hg => rfl); (case hr => first | (go_simp; done) | (go_simp; rfl))
          intro gb191 hg w25 hbox hb
          have n0_ := Aside0.mk (blk_below (g := gb188) (o := .cells #[.int .i64 (wrap64 (a0)), .int .i64 (wrap64 (a1)), .int .i64 0, .int .i64 0, .int .i64 (wrap64 (a6))] 47 (0, 0)) (by (with_reducible repeat (first | refine blk_drewN ?_ _ | refine blk_drew ?_ | refine blk_alloc ?_ _)); exact BK188.out) hb)
          have n1_ := Aside0.mk (blk_below (g := gb189) (o := .cells #[.int .i64 (wrap64 (a2)), .int .i64 (wrap64 (a3)), .int .i64 0, .int .i64 0, .int .i64 (wrap64 ((wrap64 (a6)) + (wrap64 (a7))))] 47 (0, 0)) (by (with_reducible repeat (first | refine blk_drewN ?_ _ | refine blk_drew ?_ | refine blk_alloc ?_ _)); exact BK189.out) hb)
          have n2_ := Aside0.mk (blk_below (g := gb192) (o := .cells #[.int .i64 0, .int .i64 0, .int .i64 0, .int .i64 0, .int .i64 0] 47 (0, 0)) (by (with_reducible repeat (first | refine blk_drewN ?_ _ | refine blk_drew ?_ | refine blk_alloc ?_ _)); exact BK192.out) hb)
          have n3_ := Aside0.mk (below_step (by repeat (first | (with_reducible first | exact HB.out | apply below_alloc | apply pw_below_drewN | apply below_drew1 | refine below_set ?_ GE188.out | refine below_set ?_ GE189.out | refine below_set ?_ GE192.out) | exact HB.out)) hb)
          have n4_ := Aside0.mk (hbox)
          have n5_ := Aside0.mk ((by rw [hg]; exact (below_size (by repeat (first | (with_reducible first | exact HB.out | apply below_alloc | apply pw_below_drewN | apply below_drew1 | refine below_set ?_ GE188.out | refine below_set ?_ GE189.out | refine below_set ?_ GE192.out) | exact HB.out))) : w.heap.size ≤ gb191))
          have n6_ := Aside0.mk ((by rw [hg]; exact (below_size (by repeat (first | (with_reducible first | exact HB.out | apply below_alloc | apply pw_below_drewN | apply below_drew1 | refine below_set ?_ GE188.out | refine below_set ?_ GE189.out | refine below_set ?_ GE192.out) | exact HB.out))) : w.heap.size ≤ gb191))
          have n7_ := Aside0.mk ((by rw [hg]; exact Nat.ne_of_lt (blk_lt (g := gb188) (o := .cells #[.int .i64 (wrap64 (a0)), .int .i64 (wrap64 (a1)), .int .i64 0, .int .i64 0, .int .i64 (wrap64 (a6))] 47 (0, 0)) (by (with_reducible repeat (first | refine blk_drewN ?_ _ | refine blk_drew ?_ | refine blk_alloc ?_ _)); exact BK188.out)) : gb188 ≠ gb191))
          have n8_ := Aside0.mk ((by rw [hg]; exact Nat.ne_of_gt (blk_lt (g := gb188) (o := .cells #[.int .i64 (wrap64 (a0)), .int .i64 (wrap64 (a1)), .int .i64 0, .int .i64 0, .int .i64 (wrap64 (a6))] 47 (0, 0)) (by (with_reducible repeat (first | refine blk_drewN ?_ _ | refine blk_drew ?_ | refine blk_alloc ?_ _)); exact BK188.out)) : gb191 ≠ gb188))
          have n9_ := Aside0.mk ((by rw [hg]; exact Nat.ne_of_lt (blk_lt (g := gb189) (o := .cells #[.int .i64 (wrap64 (a2)), .int .i64 (wrap64 (a3)), .int .i64 0, .int .i64 0, .int .i64 (wrap64 ((wrap64 (a6)) + (wrap64 (a7))))] 47 (0, 0)) (by (with_reducible repeat (first | refine blk_drewN ?_ _ | refine blk_drew ?_ | refine blk_alloc ?_ _)); exact BK189.out)) : gb189 ≠ gb191))
          have n10_ := Aside0.mk ((by rw [hg]; exact Nat.ne_of_gt (blk_lt (g := gb189) (o := .cells #[.int .i64 (wrap64 (a2)), .int .i64 (wrap64 (a3)), .int .i64 0, .int .i64 0, .int .i64 (wrap64 ((wrap64 (a6)) + (wrap64 (a7))))] 47 (0, 0)) (by (with_reducible repeat (first | refine blk_drewN ?_ _ | refine blk_drew ?_ | refine blk_alloc ?_ _)); exact BK189.out)) : gb191 ≠ gb189))
          have n11_ := Aside0.mk ((by rw [hg]; exact Nat.ne_of_lt (blk_lt (g := gb192) (o := .cells #[.int .i64 0, .int .i64 0, .int .i64 0, .int .i64 0, .int .i64 0] 47 (0, 0)) (by (with_reducible repeat (first | refine blk_drewN ?_ _ | refine blk_drew ?_ | refine blk_alloc ?_ _)); exact BK192.out)) : gb192 ≠ gb191))
          have n12_ := Aside0.mk ((by rw [hg]; exact Nat.ne_of_gt (blk_lt (g := gb192) (o := .cells #[.int .i64 0, .int .i64 0, .int .i64 0, .int .i64 0, .int .i64 0] 47 (0, 0)) (by (with_reducible repeat (first | refine blk_drewN ?_ _ | refine blk_drew ?_ | refine blk_alloc ?_ _)); exact BK192.out)) : gb191 ≠ gb192))
          clear BK188
          clear BK189
          clear BK192
          clear HB
          have BK188 := n0_
          have BK189 := n1_
          have BK192 := n2_
          have HB := n3_
          have BK191 := n4_
          have GW191 := n5_
          have GE191 := n6_
          have NB188_191 := n7_
          have NB191_188 := n8_
          have NB189_191 := n9_
          have NB191_189 := n10_
          have NB192_191 := n11_
          have NB191_192 := n12_
          clear n0_ n1_ n2_ n3_ n4_ n5_ n6_ n7_ n8_ n9_ n10_ n11_ n12_
          clear hb hbox hg
          refine hK.out _ _ ⟨(blk_cell BK188.out 0).trans rfl, (blk_cell BK188.out 1).trans rfl, (blk_cell BK188.out 2).trans rfl, (blk_cell BK188.out 3).trans rfl, (blk_cell BK188.out 4).trans rfl, (blk_cell BK189.out 0).trans rfl, (blk_cell BK189.out 1).trans rfl, (blk_cell BK189.out 2).trans rfl, (blk_cell BK189.out 3).trans rfl, (blk_cell BK189.out 4).trans rfl⟩ (fun hHeld => ?_)
          clear hK K
          refine norm_ (a' := ?_) ?_ ?_
          rotate_left
          · show Act.put _ (some 22) _ = _
            simp only [Act.put, List.setIfInBounds_toArray, List.set_cons_zero, List.set_cons_succ, i64_w, i32_w]
            rfl
          exact norm_ (by simp only [putAll, Act.put, List.setIfInBounds_toArray, List.set_cons_zero, List.set_cons_succ]) (hCont (gb191, gb192) _ ⟨hHeld, (by (with_reducible repeat (first | refine blk_drewN ?_ _ | refine blk_drew ?_ | refine blk_alloc ?_ _)); exact BK188.out), (by (with_reducible repeat (first | refine blk_drewN ?_ _ | refine blk_drew ?_ | refine blk_alloc ?_ _)); exact BK189.out), (by (with_reducible repeat (first | refine blk_drewN ?_ _ | refine blk_drew ?_ | refine blk_alloc ?_ _)); exact BK191.out), (by (with_reducible repeat (first | refine blk_drewN ?_ _ | refine blk_drew ?_ | refine blk_alloc ?_ _)); exact BK192.out), GW191.out, GE191.out, NB188_191.out, NB191_188.out, NB189_191.out, NB191_189.out, NB192_191.out, NB191_192.out, GW192.out, GE192.out, NB188_192.out, NB192_188.out, NB189_192.out, NB192_189.out, (by repeat (first | (with_reducible first | exact HB.out | apply below_alloc | apply pw_below_drewN | apply below_drew1 | refine below_set ?_ GE188.out | refine below_set ?_ GE189.out | refine below_set ?_ GE192.out | refine below_set ?_ GE191.out) | exact HB.out))⟩)
      rintro ⟨gb191, gb192⟩ w26 ⟨hS_, h0_, h1_, h2_, h3_, h4_, h5_, h6_, h7_, h8_, h9_, h10_, h11_, h12_, h13_, h14_, h15_, h16_, h17_, h18_⟩
      have n0_ : Aside0 (w26.heap[gb188]? = some (.cells #[.int .i64 (wrap64 (a0)), .int .i64 (wrap64 (a1)), .int .i64 0, .int .i64 0, .int .i64 (wrap64 (a6))] 47 (0, 0))) := ⟨h0_⟩
      have n1_ : Aside0 (w26.heap[gb189]? = some (.cells #[.int .i64 (wrap64 (a2)), .int .i64 (wrap64 (a3)), .int .i64 0, .int .i64 0, .int .i64 (wrap64 ((wrap64 (a6)) + (wrap64 (a7))))] 47 (0, 0))) := ⟨h1_⟩
      have n2_ : Aside0 (w26.heap[gb191]? = some (.cells #[.int .i64 0, .int .i64 0, .int .i64 0, .int .i64 0, .int .i64 0] 47 (0, 0))) := ⟨h2_⟩
      have n3_ : Aside0 (w26.heap[gb192]? = some (.cells #[.int .i64 0, .int .i64 0, .int .i64 0, .int .i64 0, .int .i64 0] 47 (0, 0))) := ⟨h3_⟩
      have n4_ : Aside0 (w.heap.size ≤ gb191) := ⟨h4_⟩
      have n5_ : Aside0 (w.heap.size ≤ gb191) := ⟨h5_⟩
      have n6_ : Aside0 (gb188 ≠ gb191) := ⟨h6_⟩
      have n7_ : Aside0 (gb191 ≠ gb188) := ⟨h7_⟩
      have n8_ : Aside0 (gb189 ≠ gb191) := ⟨h8_⟩
      have n9_ : Aside0 (gb191 ≠ gb189) := ⟨h9_⟩
      have n10_ : Aside0 (gb192 ≠ gb191) := ⟨h10_⟩
      have n11_ : Aside0 (gb191 ≠ gb192) := ⟨h11_⟩
      have n12_ : Aside0 (w.heap.size ≤ gb192) := ⟨h12_⟩
      have n13_ : Aside0 (w.heap.size ≤ gb192) := ⟨h13_⟩
      have n14_ : Aside0 (gb188 ≠ gb192) := ⟨h14_⟩
      have n15_ : Aside0 (gb192 ≠ gb188) := ⟨h15_⟩
      have n16_ : Aside0 (gb189 ≠ gb192) := ⟨h16_⟩
      have n17_ : Aside0 (gb192 ≠ gb189) := ⟨h17_⟩
      have n18_ : Aside0 (Below w.heap.size w w26) := ⟨h18_⟩
      clear BK188
      clear BK189
      clear HB
      clear h0_ h1_ h2_ h3_ h4_ h5_ h6_ h7_ h8_ h9_ h10_ h11_ h12_ h13_ h14_ h15_ h16_ h17_ h18_
      have BK188 := n0_
      have BK189 := n1_
      have BK191 := n2_
      have BK192 := n3_
      have GW191 := n4_
      have GE191 := n5_
      have NB188_191 := n6_
      have NB191_188 := n7_
      have NB189_191 := n8_
      have NB191_189 := n9_
      have NB192_191 := n10_
      have NB191_192 := n11_
      have GW192 := n12_
      have GE192 := n13_
      have NB188_192 := n14_
      have NB192_188 := n15_
      have NB189_192 := n16_
      have NB192_189 := n17_
      have HB := n18_
      clear n0_ n1_ n2_ n3_ n4_ n5_ n6_ n7_ n8_ n9_ n10_ n11_ n12_ n13_ n14_ n15_ n16_ n17_ n18_
      have hHeld : w26.cell? ⟨gb188, 0, none⟩ = some (.int .i64 (wrap64 (a0))) ∧ w26.cell? ⟨gb188, 1, none⟩ = some (.int .i64 (wrap64 (a1))) ∧ w26.cell? ⟨gb188, 2, none⟩ = some (.int .i64 0) ∧ w26.cell? ⟨gb188, 3, none⟩ = some (.int .i64 0) ∧ w26.cell? ⟨gb188, 4, none⟩ = some (.int .i64 (wrap64 (a6))) ∧ w26.cell? ⟨gb189, 0, none⟩ = some (.int .i64 (wrap64 (a2))) ∧ w26.cell? ⟨gb189, 1, none⟩ = some (.int .i64 (wrap64 (a3))) ∧ w26.cell? ⟨gb189, 2, none⟩ = some (.int .i64 0) ∧ w26.cell? ⟨gb189, 3, none⟩ = some (.int .i64 0) ∧ w26.cell? ⟨gb189, 4, none⟩ = some (.int .i64 (wrap64 ((wrap64 (a6)) + (wrap64 (a7))))) := hS_
      refine norm_ (a' := ?_) ?_ ?_
      rotate_left
      · simp only [putAll, Act.put, List.setIfInBounds_toArray, List.set_cons_zero, List.set_cons_succ]
        rfl
      refine one_ (i := 4) (N := none) #[true, true, true, true, true, false] rfl rfl (by kernel_rfl) (by decide) (fun K hK => ?_)
      have hs27 : w26.cell? ⟨gb191, 0, none⟩ = some (.int .i64 0) := (blk_cell BK191.out 0).trans rfl
      have hfs27 := blk_frozen BK191.out 0
      have hns27_0 := NB188_191.out
      have hns27_1 := NB189_191.out
      have hns27_3 := NB192_191.out
      have hms27_0 := NB191_188.out
      have hms27_1 := NB191_189.out
      have hms27_3 := NB191_192.out
      have hs28 : w26.cell? ⟨gb191, 1, none⟩ = some (.int .i64 0) := (blk_cell BK191.out 1).trans rfl
      have hfs28 := blk_frozen BK191.out 1
      have hns28_0 := NB188_191.out
      have hns28_1 := NB189_191.out
      have hns28_3 := NB192_191.out
      have hms28_0 := NB191_188.out
      have hms28_1 := NB191_189.out
      have hms28_3 := NB191_192.out
      have hs29 : w26.cell? ⟨gb191, 2, none⟩ = some (.int .i64 0) := (blk_cell BK191.out 2).trans rfl
      have hfs29 := blk_frozen BK191.out 2
      have hns29_0 := NB188_191.out
      have hns29_1 := NB189_191.out
      have hns29_3 := NB192_191.out
      have hms29_0 := NB191_188.out
      have hms29_1 := NB191_189.out
      have hms29_3 := NB191_192.out
      have hs30 : w26.cell? ⟨gb191, 3, none⟩ = some (.int .i64 0) := (blk_cell BK191.out 3).trans rfl
      have hfs30 := blk_frozen BK191.out 3
      have hns30_0 := NB188_191.out
      have hns30_1 := NB189_191.out
      have hns30_3 := NB192_191.out
      have hms30_0 := NB191_188.out
      have hms30_1 := NB191_189.out
      have hms30_3 := NB191_192.out
      have hs31 : w26.cell? ⟨gb191, 4, none⟩ = some (.int .i64 0) := (blk_cell BK191.out 4).trans rfl
      have hfs31 := blk_frozen BK191.out 4
      have hns31_0 := NB188_191.out
      have hns31_1 := NB189_191.out
      have hns31_3 := NB192_191.out
      have hms31_0 := NB191_188.out
      have hms31_1 := NB191_189.out
      have hms31_3 := NB191_192.out
      refine skip_ (w1 := ?_) (by rfl) rfl ?_ ?_
      rotate_left
      · go_simp
        rfl
      refine hK.out _ _ ⟨((cell_far (p := ⟨gb191, _, none⟩) NB188_191.out _).trans (((cell_far (p := ⟨gb191, _, none⟩) NB188_191.out _).trans (((cell_far (p := ⟨gb191, _, none⟩) NB188_191.out _).trans (((cell_far (p := ⟨gb191, _, none⟩) NB188_191.out _).trans (((cell_far (p := ⟨gb191, _, none⟩) NB188_191.out _).trans (hHeld.1)))))))))), ((cell_far (p := ⟨gb191, _, none⟩) NB188_191.out _).trans (((cell_far (p := ⟨gb191, _, none⟩) NB188_191.out _).trans (((cell_far (p := ⟨gb191, _, none⟩) NB188_191.out _).trans (((cell_far (p := ⟨gb191, _, none⟩) NB188_191.out _).trans (((cell_far (p := ⟨gb191, _, none⟩) NB188_191.out _).trans (hHeld.2.1)))))))))), ((cell_far (p := ⟨gb191, _, none⟩) NB188_191.out _).trans (((cell_far (p := ⟨gb191, _, none⟩) NB188_191.out _).trans (((cell_far (p := ⟨gb191, _, none⟩) NB188_191.out _).trans (((cell_far (p := ⟨gb191, _, none⟩) NB188_191.out _).trans (((cell_far (p := ⟨gb191, _, none⟩) NB188_191.out _).trans (hHeld.2.2.1)))))))))), ((cell_far (p := ⟨gb191, _, none⟩) NB188_191.out _).trans (((cell_far (p := ⟨gb191, _, none⟩) NB188_191.out _).trans (((cell_far (p := ⟨gb191, _, none⟩) NB188_191.out _).trans (((cell_far (p := ⟨gb191, _, none⟩) NB188_191.out _).trans (((cell_far (p := ⟨gb191, _, none⟩) NB188_191.out _).trans (hHeld.2.2.2.1)))))))))), ((cell_far (p := ⟨gb191, _, none⟩) NB188_191.out _).trans (((cell_far (p := ⟨gb191, _, none⟩) NB188_191.out _).trans (((cell_far (p := ⟨gb191, _, none⟩) NB188_191.out _).trans (((cell_far (p := ⟨gb191, _, none⟩) NB188_191.out _).trans (((cell_far (p := ⟨gb191, _, none⟩) NB188_191.out _).trans (hHeld.2.2.2.2.1)))))))))), ((cell_far (p := ⟨gb191, _, none⟩) NB189_191.out _).trans (((cell_far (p := ⟨gb191, _, none⟩) NB189_191.out _).trans (((cell_far (p := ⟨gb191, _, none⟩) NB189_191.out _).trans (((cell_far (p := ⟨gb191, _, none⟩) NB189_191.out _).trans (((cell_far (p := ⟨gb191, _, none⟩) NB189_191.out _).trans (hHeld.2.2.2.2.2.1)))))))))), ((cell_far (p := ⟨gb191, _, none⟩) NB189_191.out _).trans (((cell_far (p := ⟨gb191, _, none⟩) NB189_191.out _).trans (((cell_far (p := ⟨gb191, _, none⟩) NB189_191.out _).trans (((cell_far (p := ⟨gb191, _, none⟩) NB189_191.out _).trans (((cell_far (p := ⟨gb191, _, none⟩) NB189_191.out _).trans (hHeld.2.2.2.2.2.2.1)))))))))), ((cell_far (p := ⟨gb191, _, none⟩) NB189_191.out _).trans (((cell_far (p := ⟨gb191, _, none⟩) NB189_191.out _).trans (((cell_far (p := ⟨gb191, _, none⟩) NB189_191.out _).trans (((cell_far (p := ⟨gb191, _, none⟩) NB189_191.out _).trans (((cell_far (p := ⟨gb191, _, none⟩) NB189_191.out _).trans (hHeld.2.2.2.2.2.2.2.1)))))))))), ((cell_far (p := ⟨gb191, _, none⟩) NB189_191.out _).trans (((cell_far (p := ⟨gb191, _, none⟩) NB189_191.out _).trans (((cell_far (p := ⟨gb191, _, none⟩) NB189_191.out _).trans (((cell_far (p := ⟨gb191, _, none⟩) NB189_191.out _).trans (((cell_far (p := ⟨gb191, _, none⟩) NB189_191.out _).trans (hHeld.2.2.2.2.2.2.2.2.1)))))))))), ((cell_far (p := ⟨gb191, _, none⟩) NB189_191.out _).trans (((cell_far (p := ⟨gb191, _, none⟩) NB189_191.out _).trans (((cell_far (p := ⟨gb191, _, none⟩) NB189_191.out _).trans (((cell_far (p := ⟨gb191, _, none⟩) NB189_191.out _).trans (((cell_far (p := ⟨gb191, _, none⟩) NB189_191.out _).trans (hHeld.2.2.2.2.2.2.2.2.2))))))))))⟩ (fun hHeld => ?_)
      clear hK K
      refine one_ (i := 5) (N := none) #[true, true, true, true, true, true] rfl rfl (by kernel_rfl) (by decide) (fun K hK => ?_)
      have hs32 : w26.cell? ⟨gb192, 0, none⟩ = some (.int .i64 0) := (blk_cell BK192.out 0).trans rfl
      have hfs32 := blk_frozen BK192.out 0
      have hns32_0 := NB188_192.out
      have hns32_1 := NB189_192.out
      have hns32_2 := NB191_192.out
      have hms32_0 := NB192_188.out
      have hms32_1 := NB192_189.out
      have hms32_2 := NB192_191.out
      have hs33 : w26.cell? ⟨gb192, 1, none⟩ = some (.int .i64 0) := (blk_cell BK192.out 1).trans rfl
      have hfs33 := blk_frozen BK192.out 1
      have hns33_0 := NB188_192.out
      have hns33_1 := NB189_192.out
      have hns33_2 := NB191_192.out
      have hms33_0 := NB192_188.out
      have hms33_1 := NB192_189.out
      have hms33_2 := NB192_191.out
      have hs34 : w26.cell? ⟨gb192, 2, none⟩ = some (.int .i64 0) := (blk_cell BK192.out 2).trans rfl
      have hfs34 := blk_frozen BK192.out 2
      have hns34_0 := NB188_192.out
      have hns34_1 := NB189_192.out
      have hns34_2 := NB191_192.out
      have hms34_0 := NB192_188.out
      have hms34_1 := NB192_189.out
      have hms34_2 := NB192_191.out
      have hs35 : w26.cell? ⟨gb192, 3, none⟩ = some (.int .i64 0) := (blk_cell BK192.out 3).trans rfl
      have hfs35 := blk_frozen BK192.out 3
      have hns35_0 := NB188_192.out
      have hns35_1 := NB189_192.out
      have hns35_2 := NB191_192.out
      have hms35_0 := NB192_188.out
      have hms35_1 := NB192_189.out
      have hms35_2 := NB192_191.out
      have hs36 : w26.cell? ⟨gb192, 4, none⟩ = some (.int .i64 0) := (blk_cell BK192.out 4).trans rfl
      have hfs36 := blk_frozen BK192.out 4
      have hns36_0 := NB188_192.out
      have hns36_1 := NB189_192.out
      have hns36_2 := NB191_192.out
      have hms36_0 := NB192_188.out
      have hms36_1 := NB192_189.out
      have hms36_2 := NB192_191.out
      refine skip_ (w1 := ?_) (by rfl) rfl ?_ ?_
      rotate_left
      · go_simp
        rfl
      refine hK.out _ _ ⟨((cell_far (p := ⟨gb192, _, none⟩) NB188_192.out _).trans (((cell_far (p := ⟨gb192, _, none⟩) NB188_192.out _).trans (((cell_far (p := ⟨gb192, _, none⟩) NB188_192.out _).trans (((cell_far (p := ⟨gb192, _, none⟩) NB188_192.out _).trans (((cell_far (p := ⟨gb192, _, none⟩) NB188_192.out _).trans (hHeld.1)))))))))), ((cell_far (p := ⟨gb192, _, none⟩) NB188_192.out _).trans (((cell_far (p := ⟨gb192, _, none⟩) NB188_192.out _).trans (((cell_far (p := ⟨gb192, _, none⟩) NB188_192.out _).trans (((cell_far (p := ⟨gb192, _, none⟩) NB188_192.out _).trans (((cell_far (p := ⟨gb192, _, none⟩) NB188_192.out _).trans (hHeld.2.1)))))))))), ((cell_far (p := ⟨gb192, _, none⟩) NB188_192.out _).trans (((cell_far (p := ⟨gb192, _, none⟩) NB188_192.out _).trans (((cell_far (p := ⟨gb192, _, none⟩) NB188_192.out _).trans (((cell_far (p := ⟨gb192, _, none⟩) NB188_192.out _).trans (((cell_far (p := ⟨gb192, _, none⟩) NB188_192.out _).trans (hHeld.2.2.1)))))))))), ((cell_far (p := ⟨gb192, _, none⟩) NB188_192.out _).trans (((cell_far (p := ⟨gb192, _, none⟩) NB188_192.out _).trans (((cell_far (p := ⟨gb192, _, none⟩) NB188_192.out _).trans (((cell_far (p := ⟨gb192, _, none⟩) NB188_192.out _).trans (((cell_far (p := ⟨gb192, _, none⟩) NB188_192.out _).trans (hHeld.2.2.2.1)))))))))), ((cell_far (p := ⟨gb192, _, none⟩) NB188_192.out _).trans (((cell_far (p := ⟨gb192, _, none⟩) NB188_192.out _).trans (((cell_far (p := ⟨gb192, _, none⟩) NB188_192.out _).trans (((cell_far (p := ⟨gb192, _, none⟩) NB188_192.out _).trans (((cell_far (p := ⟨gb192, _, none⟩) NB188_192.out _).trans (hHeld.2.2.2.2.1)))))))))), ((cell_far (p := ⟨gb192, _, none⟩) NB189_192.out _).trans (((cell_far (p := ⟨gb192, _, none⟩) NB189_192.out _).trans (((cell_far (p := ⟨gb192, _, none⟩) NB189_192.out _).trans (((cell_far (p := ⟨gb192, _, none⟩) NB189_192.out _).trans (((cell_far (p := ⟨gb192, _, none⟩) NB189_192.out _).trans (hHeld.2.2.2.2.2.1)))))))))), ((cell_far (p := ⟨gb192, _, none⟩) NB189_192.out _).trans (((cell_far (p := ⟨gb192, _, none⟩) NB189_192.out _).trans (((cell_far (p := ⟨gb192, _, none⟩) NB189_192.out _).trans (((cell_far (p := ⟨gb192, _, none⟩) NB189_192.out _).trans (((cell_far (p := ⟨gb192, _, none⟩) NB189_192.out _).trans (hHeld.2.2.2.2.2.2.1)))))))))), ((cell_far (p := ⟨gb192, _, none⟩) NB189_192.out _).trans (((cell_far (p := ⟨gb192, _, none⟩) NB189_192.out _).trans (((cell_far (p := ⟨gb192, _, none⟩) NB189_192.out _).trans (((cell_far (p := ⟨gb192, _, none⟩) NB189_192.out _).trans (((cell_far (p := ⟨gb192, _, none⟩) NB189_192.out _).trans (hHeld.2.2.2.2.2.2.2.1)))))))))), ((cell_far (p := ⟨gb192, _, none⟩) NB189_192.out _).trans (((cell_far (p := ⟨gb192, _, none⟩) NB189_192.out _).trans (((cell_far (p := ⟨gb192, _, none⟩) NB189_192.out _).trans (((cell_far (p := ⟨gb192, _, none⟩) NB189_192.out _).trans (((cell_far (p := ⟨gb192, _, none⟩) NB189_192.out _).trans (hHeld.2.2.2.2.2.2.2.2.1)))))))))), ((cell_far (p := ⟨gb192, _, none⟩) NB189_192.out _).trans (((cell_far (p := ⟨gb192, _, none⟩) NB189_192.out _).trans (((cell_far (p := ⟨gb192, _, none⟩) NB189_192.out _).trans (((cell_far (p := ⟨gb192, _, none⟩) NB189_192.out _).trans (((cell_far (p := ⟨gb192, _, none⟩) NB189_192.out _).trans (hHeld.2.2.2.2.2.2.2.2.2))))))))))⟩ (fun hHeld => ?_)
      clear hK K
      refine done_ (by kernel_rfl) ?_
      try go_wp2
      have n0_ : Aside0 (((((((((((w26.setCell ⟨gb191, 0, none⟩ (.int .i64 (wrap64 (a0)))).setCell ⟨gb191, 1, none⟩ (.int .i64 (wrap64 (a1)))).setCell ⟨gb191, 2, none⟩ (.int .i64 0)).setCell ⟨gb191, 3, none⟩ (.int .i64 0)).setCell ⟨gb191, 4, none⟩ (.int .i64 (wrap64 (a6)))).setCell ⟨gb192, 0, none⟩ (.int .i64 (wrap64 (a2)))).setCell ⟨gb192, 1, none⟩ (.int .i64 (wrap64 (a3)))).setCell ⟨gb192, 2, none⟩ (.int .i64 0)).setCell ⟨gb192, 3, none⟩ (.int .i64 0)).setCell ⟨gb192, 4, none⟩ (.int .i64 (wrap64 ((wrap64 (a6)) + (wrap64 (a7)))))).heap[gb188]? = some (.cells #[.int .i64 (wrap64 (a0)), .int .i64 (wrap64 (a1)), .int .i64 0, .int .i64 0, .int .i64 (wrap64 (a6))] 47 (0, 0))) := ⟨by (with_reducible repeat (first | refine blk_drewN ?_ _ | refine blk_drew ?_ | refine blk_alloc ?_ _)); refine blk_far ?_ NB188_192.out _; (with_reducible repeat (first | refine blk_drewN ?_ _ | refine blk_drew ?_ | refine blk_alloc ?_ _)); refine blk_far ?_ NB188_192.out _; (with_reducible repeat (first | refine blk_drewN ?_ _ | refine blk_drew ?_ | refine blk_alloc ?_ _)); refine blk_far ?_ NB188_192.out _; (with_reducible repeat (first | refine blk_drewN ?_ _ | refine blk_drew ?_ | refine blk_alloc ?_ _)); refine blk_far ?_ NB188_192.out _; (with_reducible repeat (first | refine blk_drewN ?_ _ | refine blk_drew ?_ | refine blk_alloc ?_ _)); refine blk_far ?_ NB188_192.out _; (with_reducible repeat (first | refine blk_drewN ?_ _ | refine blk_drew ?_ | refine blk_alloc ?_ _)); refine blk_far ?_ NB188_191.out _; (with_reducible repeat (first | refine blk_drewN ?_ _ | refine blk_drew ?_ | refine blk_alloc ?_ _)); refine blk_far ?_ NB188_191.out _; (with_reducible repeat (first | refine blk_drewN ?_ _ | refine blk_drew ?_ | refine blk_alloc ?_ _)); refine blk_far ?_ NB188_191.out _; (with_reducible repeat (first | refine blk_drewN ?_ _ | refine blk_drew ?_ | refine blk_alloc ?_ _)); refine blk_far ?_ NB188_191.out _; (with_reducible repeat (first | refine blk_drewN ?_ _ | refine blk_drew ?_ | refine blk_alloc ?_ _)); refine blk_far ?_ NB188_191.out _; (with_reducible repeat (first | refine blk_drewN ?_ _ | refine blk_drew ?_ | refine blk_alloc ?_ _)); exact BK188.out⟩
      have n1_ : Aside0 (((((((((((w26.setCell ⟨gb191, 0, none⟩ (.int .i64 (wrap64 (a0)))).setCell ⟨gb191, 1, none⟩ (.int .i64 (wrap64 (a1)))).setCell ⟨gb191, 2, none⟩ (.int .i64 0)).setCell ⟨gb191, 3, none⟩ (.int .i64 0)).setCell ⟨gb191, 4, none⟩ (.int .i64 (wrap64 (a6)))).setCell ⟨gb192, 0, none⟩ (.int .i64 (wrap64 (a2)))).setCell ⟨gb192, 1, none⟩ (.int .i64 (wrap64 (a3)))).setCell ⟨gb192, 2, none⟩ (.int .i64 0)).setCell ⟨gb192, 3, none⟩ (.int .i64 0)).setCell ⟨gb192, 4, none⟩ (.int .i64 (wrap64 ((wrap64 (a6)) + (wrap64 (a7)))))).heap[gb189]? = some (.cells #[.int .i64 (wrap64 (a2)), .int .i64 (wrap64 (a3)), .int .i64 0, .int .i64 0, .int .i64 (wrap64 ((wrap64 (a6)) + (wrap64 (a7))))] 47 (0, 0))) := ⟨by (with_reducible repeat (first | refine blk_drewN ?_ _ | refine blk_drew ?_ | refine blk_alloc ?_ _)); refine blk_far ?_ NB189_192.out _; (with_reducible repeat (first | refine blk_drewN ?_ _ | refine blk_drew ?_ | refine blk_alloc ?_ _)); refine blk_far ?_ NB189_192.out _; (with_reducible repeat (first | refine blk_drewN ?_ _ | refine blk_drew ?_ | refine blk_alloc ?_ _)); refine blk_far ?_ NB189_192.out _; (with_reducible repeat (first | refine blk_drewN ?_ _ | refine blk_drew ?_ | refine blk_alloc ?_ _)); refine blk_far ?_ NB189_192.out _; (with_reducible repeat (first | refine blk_drewN ?_ _ | refine blk_drew ?_ | refine blk_alloc ?_ _)); refine blk_far ?_ NB189_192.out _; (with_reducible repeat (first | refine blk_drewN ?_ _ | refine blk_drew ?_ | refine blk_alloc ?_ _)); refine blk_far ?_ NB189_191.out _; (with_reducible repeat (first | refine blk_drewN ?_ _ | refine blk_drew ?_ | refine blk_alloc ?_ _)); refine blk_far ?_ NB189_191.out _; (with_reducible repeat (first | refine blk_drewN ?_ _ | refine blk_drew ?_ | refine blk_alloc ?_ _)); refine blk_far ?_ NB189_191.out _; (with_reducible repeat (first | refine blk_drewN ?_ _ | refine blk_drew ?_ | refine blk_alloc ?_ _)); refine blk_far ?_ NB189_191.out _; (with_reducible repeat (first | refine blk_drewN ?_ _ | refine blk_drew ?_ | refine blk_alloc ?_ _)); refine blk_far ?_ NB189_191.out _; (with_reducible repeat (first | refine blk_drewN ?_ _ | refine blk_drew ?_ | refine blk_alloc ?_ _)); exact BK189.out⟩
      have n2_ : Aside0 (((((((((((w26.setCell ⟨gb191, 0, none⟩ (.int .i64 (wrap64 (a0)))).setCell ⟨gb191, 1, none⟩ (.int .i64 (wrap64 (a1)))).setCell ⟨gb191, 2, none⟩ (.int .i64 0)).setCell ⟨gb191, 3, none⟩ (.int .i64 0)).setCell ⟨gb191, 4, none⟩ (.int .i64 (wrap64 (a6)))).setCell ⟨gb192, 0, none⟩ (.int .i64 (wrap64 (a2)))).setCell ⟨gb192, 1, none⟩ (.int .i64 (wrap64 (a3)))).setCell ⟨gb192, 2, none⟩ (.int .i64 0)).setCell ⟨gb192, 3, none⟩ (.int .i64 0)).setCell ⟨gb192, 4, none⟩ (.int .i64 (wrap64 ((wrap64 (a6)) + (wrap64 (a7)))))).heap[gb191]? = some (.cells #[.int .i64 (wrap64 (a0)), .int .i64 (wrap64 (a1)), .int .i64 0, .int .i64 0, .int .i64 (wrap64 (a6))] 47 (0, 0))) := ⟨by (with_reducible repeat (first | refine blk_drewN ?_ _ | refine blk_drew ?_ | refine blk_alloc ?_ _)); refine blk_far ?_ NB191_192.out _; (with_reducible repeat (first | refine blk_drewN ?_ _ | refine blk_drew ?_ | refine blk_alloc ?_ _)); refine blk_far ?_ NB191_192.out _; (with_reducible repeat (first | refine blk_drewN ?_ _ | refine blk_drew ?_ | refine blk_alloc ?_ _)); refine blk_far ?_ NB191_192.out _; (with_reducible repeat (first | refine blk_drewN ?_ _ | refine blk_drew ?_ | refine blk_alloc ?_ _)); refine blk_far ?_ NB191_192.out _; (with_reducible repeat (first | refine blk_drewN ?_ _ | refine blk_drew ?_ | refine blk_alloc ?_ _)); refine blk_far ?_ NB191_192.out _; (with_reducible repeat (first | refine blk_drewN ?_ _ | refine blk_drew ?_ | refine blk_alloc ?_ _)); refine blk_put (cs := #[.int .i64 (wrap64 (a0)), .int .i64 (wrap64 (a1)), .int .i64 0, .int .i64 0, .int .i64 0]) ?_ 4 _ rfl; (with_reducible repeat (first | refine blk_drewN ?_ _ | refine blk_drew ?_ | refine blk_alloc ?_ _)); refine blk_put (cs := #[.int .i64 (wrap64 (a0)), .int .i64 (wrap64 (a1)), .int .i64 0, .int .i64 0, .int .i64 0]) ?_ 3 _ rfl; (with_reducible repeat (first | refine blk_drewN ?_ _ | refine blk_drew ?_ | refine blk_alloc ?_ _)); refine blk_put (cs := #[.int .i64 (wrap64 (a0)), .int .i64 (wrap64 (a1)), .int .i64 0, .int .i64 0, .int .i64 0]) ?_ 2 _ rfl; (with_reducible repeat (first | refine blk_drewN ?_ _ | refine blk_drew ?_ | refine blk_alloc ?_ _)); refine blk_put (cs := #[.int .i64 (wrap64 (a0)), .int .i64 0, .int .i64 0, .int .i64 0, .int .i64 0]) ?_ 1 _ rfl; (with_reducible repeat (first | refine blk_drewN ?_ _ | refine blk_drew ?_ | refine blk_alloc ?_ _)); refine blk_put (cs := #[.int .i64 0, .int .i64 0, .int .i64 0, .int .i64 0, .int .i64 0]) ?_ 0 _ rfl; (with_reducible repeat (first | refine blk_drewN ?_ _ | refine blk_drew ?_ | refine blk_alloc ?_ _)); exact BK191.out⟩
      have n3_ : Aside0 (((((((((((w26.setCell ⟨gb191, 0, none⟩ (.int .i64 (wrap64 (a0)))).setCell ⟨gb191, 1, none⟩ (.int .i64 (wrap64 (a1)))).setCell ⟨gb191, 2, none⟩ (.int .i64 0)).setCell ⟨gb191, 3, none⟩ (.int .i64 0)).setCell ⟨gb191, 4, none⟩ (.int .i64 (wrap64 (a6)))).setCell ⟨gb192, 0, none⟩ (.int .i64 (wrap64 (a2)))).setCell ⟨gb192, 1, none⟩ (.int .i64 (wrap64 (a3)))).setCell ⟨gb192, 2, none⟩ (.int .i64 0)).setCell ⟨gb192, 3, none⟩ (.int .i64 0)).setCell ⟨gb192, 4, none⟩ (.int .i64 (wrap64 ((wrap64 (a6)) + (wrap64 (a7)))))).heap[gb192]? = some (.cells #[.int .i64 (wrap64 (a2)), .int .i64 (wrap64 (a3)), .int .i64 0, .int .i64 0, .int .i64 (wrap64 ((wrap64 (a6)) + (wrap64 (a7))))] 47 (0, 0))) := ⟨by (with_reducible repeat (first | refine blk_drewN ?_ _ | refine blk_drew ?_ | refine blk_alloc ?_ _)); refine blk_put (cs := #[.int .i64 (wrap64 (a2)), .int .i64 (wrap64 (a3)), .int .i64 0, .int .i64 0, .int .i64 0]) ?_ 4 _ rfl; (with_reducible repeat (first | refine blk_drewN ?_ _ | refine blk_drew ?_ | refine blk_alloc ?_ _)); refine blk_put (cs := #[.int .i64 (wrap64 (a2)), .int .i64 (wrap64 (a3)), .int .i64 0, .int .i64 0, .int .i64 0]) ?_ 3 _ rfl; (with_reducible repeat (first | refine blk_drewN ?_ _ | refine blk_drew ?_ | refine blk_alloc ?_ _)); refine blk_put (cs := #[.int .i64 (wrap64 (a2)), .int .i64 (wrap64 (a3)), .int .i64 0, .int .i64 0, .int .i64 0]) ?_ 2 _ rfl; (with_reducible repeat (first | refine blk_drewN ?_ _ | refine blk_drew ?_ | refine blk_alloc ?_ _)); refine blk_put (cs := #[.int .i64 (wrap64 (a2)), .int .i64 0, .int .i64 0, .int .i64 0, .int .i64 0]) ?_ 1 _ rfl; (with_reducible repeat (first | refine blk_drewN ?_ _ | refine blk_drew ?_ | refine blk_alloc ?_ _)); refine blk_put (cs := #[.int .i64 0, .int .i64 0, .int .i64 0, .int .i64 0, .int .i64 0]) ?_ 0 _ rfl; (with_reducible repeat (first | refine blk_drewN ?_ _ | refine blk_drew ?_ | refine blk_alloc ?_ _)); refine blk_far ?_ NB192_191.out _; (with_reducible repeat (first | refine blk_drewN ?_ _ | refine blk_drew ?_ | refine blk_alloc ?_ _)); refine blk_far ?_ NB192_191.out _; (with_reducible repeat (first | refine blk_drewN ?_ _ | refine blk_drew ?_ | refine blk_alloc ?_ _)); refine blk_far ?_ NB192_191.out _; (with_reducible repeat (first | refine blk_drewN ?_ _ | refine blk_drew ?_ | refine blk_alloc ?_ _)); refine blk_far ?_ NB192_191.out _; (with_reducible repeat (first | refine blk_drewN ?_ _ | refine blk_drew ?_ | refine blk_alloc ?_ _)); refine blk_far ?_ NB192_191.out _; (with_reducible repeat (first | refine blk_drewN ?_ _ | refine blk_drew ?_ | refine blk_alloc ?_ _)); exact BK192.out⟩
      have n4_ : Aside0 (Below w.heap.size w ((((((((((w26.setCell ⟨gb191, 0, none⟩ (.int .i64 (wrap64 (a0)))).setCell ⟨gb191, 1, none⟩ (.int .i64 (wrap64 (a1)))).setCell ⟨gb191, 2, none⟩ (.int .i64 0)).setCell ⟨gb191, 3, none⟩ (.int .i64 0)).setCell ⟨gb191, 4, none⟩ (.int .i64 (wrap64 (a6)))).setCell ⟨gb192, 0, none⟩ (.int .i64 (wrap64 (a2)))).setCell ⟨gb192, 1, none⟩ (.int .i64 (wrap64 (a3)))).setCell ⟨gb192, 2, none⟩ (.int .i64 0)).setCell ⟨gb192, 3, none⟩ (.int .i64 0)).setCell ⟨gb192, 4, none⟩ (.int .i64 (wrap64 ((wrap64 (a6)) + (wrap64 (a7))))))) := ⟨by repeat (first | (with_reducible first | exact HB.out | apply below_alloc | apply pw_below_drewN | apply below_drew1 | refine below_set ?_ GE188.out | refine below_set ?_ GE189.out | refine below_set ?_ GE191.out | refine below_set ?_ GE192.out) | exact HB.out)⟩
      (try clear BK188)
      (try clear BK189)
      (try clear BK191)
      (try clear BK192)
      (try clear HB)
      generalize ((((((((((w26.setCell ⟨gb191, 0, none⟩ (.int .i64 (wrap64 (a0)))).setCell ⟨gb191, 1, none⟩ (.int .i64 (wrap64 (a1)))).setCell ⟨gb191, 2, none⟩ (.int .i64 0)).setCell ⟨gb191, 3, none⟩ (.int .i64 0)).setCell ⟨gb191, 4, none⟩ (.int .i64 (wrap64 (a6)))).setCell ⟨gb192, 0, none⟩ (.int .i64 (wrap64 (a2)))).setCell ⟨gb192, 1, none⟩ (.int .i64 (wrap64 (a3)))).setCell ⟨gb192, 2, none⟩ (.int .i64 0)).setCell ⟨gb192, 3, none⟩ (.int .i64 0)).setCell ⟨gb192, 4, none⟩ (.int .i64 (wrap64 ((wrap64 (a6)) + (wrap64 (a7)))))) = w37 at n0_ n1_ n2_ n3_ n4_ ⊢
      have BK188 := n0_
      have BK189 := n1_
      have BK191 := n2_
      have BK192 := n3_
      have HB := n4_
      clear n0_ n1_ n2_ n3_ n4_
      have n0_ := Aside0.mk (blk_drew BK188.out)
      have n1_ := Aside0.mk (blk_drew BK189.out)
      have n2_ := Aside0.mk (blk_drew BK191.out)
      have n3_ := Aside0.mk (blk_drew BK192.out)
      have n4_ := Aside0.mk (below_drew1 HB.out)
      clear BK188
      clear BK189
      clear BK191
      clear BK192
      clear HB
      have BK188 := n0_
      have BK189 := n1_
      have BK191 := n2_
      have BK192 := n3_
      have HB := n4_
      clear n0_ n1_ n2_ n3_ n4_
      refine start_ (n := 16) (S := fun w' => w'.cell? ⟨gb189, 0, none⟩ = some (.int .i64 (wrap64 (a2))) ∧ w'.cell? ⟨gb189, 1, none⟩ = some (.int .i64 (wrap64 (a3))) ∧ w'.cell? ⟨gb189, 2, none⟩ = some (.int .i64 0) ∧ w'.cell? ⟨gb189, 3, none⟩ = some (.int .i64 0) ∧ w'.cell? ⟨gb189, 4, none⟩ = some (.int .i64 (wrap64 ((wrap64 (a6)) + (wrap64 (a7))))) ∧ w'.cell? ⟨gb188, 0, none⟩ = some (.int .i64 (wrap64 (a0))) ∧ w'.cell? ⟨gb188, 1, none⟩ = some (.int .i64 (wrap64 (a1))) ∧ w'.cell? ⟨gb188, 2, none⟩ = some (.int .i64 0) ∧ w'.cell? ⟨gb188, 3, none⟩ = some (.int .i64 0) ∧ w'.cell? ⟨gb188, 4, none⟩ = some (.int .i64 (wrap64 (a6)))) (ds := []) #[false, false, false, false, false, false, false, false, false, false, false, false, false, false, false, false] (by kernel_rfl) rfl rfl ⟨(blk_cell BK189.out 0).trans rfl, (blk_cell BK189.out 1).trans rfl, (blk_cell BK189.out 2).trans rfl, (blk_cell BK189.out 3).trans rfl, (blk_cell BK189.out 4).trans rfl, (blk_cell BK188.out 0).trans rfl, (blk_cell BK188.out 1).trans rfl, (blk_cell BK188.out 2).trans rfl, (blk_cell BK188.out 3).trans rfl, (blk_cell BK188.out 4).trans rfl⟩ (fun hHeld => ?_); refine with_tabW imageeditorlaw26_DynamicsMoves.tab5 imageeditorlaw26_DynamicsMoves.bits5 (fun HT_ HW_ => ?_)
      generalize w37.drew = w38 at BK188 BK189 BK191 BK192 HB hHeld ⊢
      refine pure_ (i := 0) (N := some 46) (v := ?_) (a' := ?_) #[true, false, false, false, false, false, false, false, false, false, false, false, false, false, false, false] rfl rfl (any_of HT_.out (by kernel_rfl)) (fun _ _ _ h => h) (Or.inl ⟨by rfl, ?_⟩) ?_ ?_
      rotate_left
      · intro w'
        go_simp
        with_reducible rfl
      rotate_left
      · simp only [Act.put, List.setIfInBounds_toArray, List.set_cons_zero, List.set_cons_succ, i64_w, i32_w]
        rfl
      refine pure_ (i := 2) (N := some 48) (v := ?_) (a' := ?_) #[true, false, true, false, false, false, false, false, false, false, false, false, false, false, false, false] rfl rfl (any_of HT_.out (by kernel_rfl)) (fun _ _ _ h => h) (Or.inl ⟨by rfl, ?_⟩) ?_ ?_
      rotate_left
      · intro w'
        go_simp
        with_reducible rfl
      rotate_left
      · simp only [Act.put, List.setIfInBounds_toArray, List.set_cons_zero, List.set_cons_succ, i64_w, i32_w]
        rfl
      refine pure_ (i := 4) (N := some 50) (v := ?_) (a' := ?_) #[true, false, true, false, true, false, false, false, false, false, false, false, false, false, false, false] rfl rfl (any_of HT_.out (by kernel_rfl)) (fun _ _ _ h => h) (Or.inl ⟨by rfl, ?_⟩) ?_ ?_
      rotate_left
      · intro w'
        go_simp
        with_reducible rfl
      rotate_left
      · simp only [Act.put, List.setIfInBounds_toArray, List.set_cons_zero, List.set_cons_succ, i64_w, i32_w]
        rfl
      refine pure_ (i := 6) (N := some 52) (v := ?_) (a' := ?_) #[true, false, true, false, true, false, true, false, false, false, false, false, false, false, false, false] rfl rfl (any_of HT_.out (by kernel_rfl)) (fun _ _ _ h => h) (Or.inl ⟨by rfl, ?_⟩) ?_ ?_
      rotate_left
      · intro w'
        go_simp
        with_reducible rfl
      rotate_left
      · simp only [Act.put, List.setIfInBounds_toArray, List.set_cons_zero, List.set_cons_succ, i64_w, i32_w]
        rfl
      refine take_ (i := 1) (N := some 47) (v := ?_) (a' := ?_) #[true, true, true, false, true, false, true, false, false, false, false, false, false, false, false, false] rfl rfl (take_ofW HT_.out HW_.out (by kernel_rfl)) (fun _ _ _ h => h) (Or.inl ⟨by rfl, ?_⟩) hHeld ?_ ?_
      rotate_left
      · rintro w' ⟨s0, s1, s2, s3, s4, s5, s6, s7, s8, s9⟩
        go_simp
        with_reducible rfl
      rotate_left
      · simp only [Act.put, List.setIfInBounds_toArray, List.set_cons_zero, List.set_cons_succ, i64_w, i32_w]
        rfl
      refine pure_ (i := 8) (N := some 54) (v := ?_) (a' := ?_) #[true, true, true, false, true, false, true, false, true, false, false, false, false, false, false, false] rfl rfl (any_of HT_.out (by kernel_rfl)) (fun _ _ _ h => h) (Or.inl ⟨by rfl, ?_⟩) ?_ ?_
      rotate_left
      · intro w'
        go_simp
        with_reducible rfl
      rotate_left
      · simp only [Act.put, List.setIfInBounds_toArray, List.set_cons_zero, List.set_cons_succ, i64_w, i32_w]
        rfl
      refine take_ (i := 3) (N := some 49) (v := ?_) (a' := ?_) #[true, true, true, true, true, false, true, false, true, false, false, false, false, false, false, false] rfl rfl (take_ofW HT_.out HW_.out (by kernel_rfl)) (fun _ _ _ h => h) (Or.inl ⟨by rfl, ?_⟩) hHeld ?_ ?_
      rotate_left
      · rintro w' ⟨s0, s1, s2, s3, s4, s5, s6, s7, s8, s9⟩
        go_simp
        with_reducible rfl
      rotate_left
      · simp only [Act.put, List.setIfInBounds_toArray, List.set_cons_zero, List.set_cons_succ, i64_w, i32_w]
        rfl
      refine take_ (i := 5) (N := some 51) (v := ?_) (a' := ?_) #[true, true, true, true, true, true, true, false, true, false, false, false, false, false, false, false] rfl rfl (take_ofW HT_.out HW_.out (by kernel_rfl)) (fun _ _ _ h => h) (Or.inl ⟨by rfl, ?_⟩) hHeld ?_ ?_
      rotate_left
      · rintro w' ⟨s0, s1, s2, s3, s4, s5, s6, s7, s8, s9⟩
        go_simp
        with_reducible rfl
      rotate_left
      · simp only [Act.put, List.setIfInBounds_toArray, List.set_cons_zero, List.set_cons_succ, i64_w, i32_w]
        rfl
      refine take_ (i := 7) (N := some 53) (v := ?_) (a' := ?_) #[true, true, true, true, true, true, true, true, true, false, false, false, false, false, false, false] rfl rfl (take_ofW HT_.out HW_.out (by kernel_rfl)) (fun _ _ _ h => h) (Or.inl ⟨by rfl, ?_⟩) hHeld ?_ ?_
      rotate_left
      · rintro w' ⟨s0, s1, s2, s3, s4, s5, s6, s7, s8, s9⟩
        go_simp
        with_reducible rfl
      rotate_left
      · simp only [Act.put, List.setIfInBounds_toArray, List.set_cons_zero, List.set_cons_succ, i64_w, i32_w]
        rfl
      refine one_ (i := 9) (N := none) #[true, true, true, true, true, true, true, true, true, true, false, false, false, false, false, false] rfl rfl (one_of HT_.out (by kernel_rfl)) (by decide) (fun K hK => ?_)
      have hs39 : w38.cell? ⟨gb191, 0, none⟩ = some (.int .i64 (wrap64 (a0))) := (blk_cell BK191.out 0).trans rfl
      have hfs39 := blk_frozen BK191.out 0
      have hns39_0 := NB188_191.out
      have hns39_1 := NB189_191.out
      have hns39_3 := NB192_191.out
      have hms39_0 := NB191_188.out
      have hms39_1 := NB191_189.out
      have hms39_3 := NB191_192.out
      refine skip_ (w1 := ?_) (by rfl) rfl ?_ ?_
      rotate_left
      · go_simp
        rfl
      refine hK.out _ _ ⟨((cell_far (p := ⟨gb191, _, none⟩) NB189_191.out _).trans (hHeld.1)), ((cell_far (p := ⟨gb191, _, none⟩) NB189_191.out _).trans (hHeld.2.1)), ((cell_far (p := ⟨gb191, _, none⟩) NB189_191.out _).trans (hHeld.2.2.1)), ((cell_far (p := ⟨gb191, _, none⟩) NB189_191.out _).trans (hHeld.2.2.2.1)), ((cell_far (p := ⟨gb191, _, none⟩) NB189_191.out _).trans (hHeld.2.2.2.2.1)), ((cell_far (p := ⟨gb191, _, none⟩) NB188_191.out _).trans (hHeld.2.2.2.2.2.1)), ((cell_far (p := ⟨gb191, _, none⟩) NB188_191.out _).trans (hHeld.2.2.2.2.2.2.1)), ((cell_far (p := ⟨gb191, _, none⟩) NB188_191.out _).trans (hHeld.2.2.2.2.2.2.2.1)), ((cell_far (p := ⟨gb191, _, none⟩) NB188_191.out _).trans (hHeld.2.2.2.2.2.2.2.2.1)), ((cell_far (p := ⟨gb191, _, none⟩) NB188_191.out _).trans (hHeld.2.2.2.2.2.2.2.2.2))⟩ (fun hHeld => ?_)
      clear hK K
      refine pure_ (i := 10) (N := some 55) (v := ?_) (a' := ?_) #[true, true, true, true, true, true, true, true, true, true, true, false, false, false, false, false] rfl rfl (any_of HT_.out (by kernel_rfl)) (fun _ _ _ h => h) (Or.inl ⟨by rfl, ?_⟩) ?_ ?_
      rotate_left
      · intro w'
        go_simp
        with_reducible rfl
      rotate_left
      · simp only [Act.put, List.setIfInBounds_toArray, List.set_cons_zero, List.set_cons_succ, i64_w, i32_w]
        rfl
      refine one_ (i := 11) (N := none) #[true, true, true, true, true, true, true, true, true, true, true, true, false, false, false, false] rfl rfl (one_of HT_.out (by kernel_rfl)) (by decide) (fun K hK => ?_)
      have hs40 : w38.cell? ⟨gb191, 1, none⟩ = some (.int .i64 (wrap64 (a1))) := (blk_cell BK191.out 1).trans rfl
      have hfs40 := blk_frozen BK191.out 1
      have hns40_0 := NB188_191.out
      have hns40_1 := NB189_191.out
      have hns40_3 := NB192_191.out
      have hms40_0 := NB191_188.out
      have hms40_1 := NB191_189.out
      have hms40_3 := NB191_192.out
      refine skip_ (w1 := ?_) (by rfl) rfl ?_ ?_
      rotate_left
      · go_simp
        rfl
      refine hK.out _ _ ⟨((cell_far (p := ⟨gb191, _, none⟩) NB189_191.out _).trans (hHeld.1)), ((cell_far (p := ⟨gb191, _, none⟩) NB189_191.out _).trans (hHeld.2.1)), ((cell_far (p := ⟨gb191, _, none⟩) NB189_191.out _).trans (hHeld.2.2.1)), ((cell_far (p := ⟨gb191, _, none⟩) NB189_191.out _).trans (hHeld.2.2.2.1)), ((cell_far (p := ⟨gb191, _, none⟩) NB189_191.out _).trans (hHeld.2.2.2.2.1)), ((cell_far (p := ⟨gb191, _, none⟩) NB188_191.out _).trans (hHeld.2.2.2.2.2.1)), ((cell_far (p := ⟨gb191, _, none⟩) NB188_191.out _).trans (hHeld.2.2.2.2.2.2.1)), ((cell_far (p := ⟨gb191, _, none⟩) NB188_191.out _).trans (hHeld.2.2.2.2.2.2.2.1)), ((cell_far (p := ⟨gb191, _, none⟩) NB188_191.out _).trans (hHeld.2.2.2.2.2.2.2.2.1)), ((cell_far (p := ⟨gb191, _, none⟩) NB188_191.out _).trans (hHeld.2.2.2.2.2.2.2.2.2))⟩ (fun hHeld => ?_)
      clear hK K
      refine pure_ (i := 12) (N := some 56) (v := ?_) (a' := ?_) #[true, true, true, true, true, true, true, true, true, true, true, true, true, false, false, false] rfl rfl (any_of HT_.out (by kernel_rfl)) (fun _ _ _ h => h) (Or.inl ⟨by rfl, ?_⟩) ?_ ?_
      rotate_left
      · intro w'
        go_simp
        with_reducible rfl
      rotate_left
      · simp only [Act.put, List.setIfInBounds_toArray, List.set_cons_zero, List.set_cons_succ, i64_w, i32_w]
        rfl
      refine one_ (i := 13) (N := none) #[true, true, true, true, true, true, true, true, true, true, true, true, true, true, false, false] rfl rfl (one_of HT_.out (by kernel_rfl)) (by decide) (fun K hK => ?_)
      have hs41 : w38.cell? ⟨gb192, 0, none⟩ = some (.int .i64 (wrap64 (a2))) := (blk_cell BK192.out 0).trans rfl
      have hfs41 := blk_frozen BK192.out 0
      have hns41_0 := NB188_192.out
      have hns41_1 := NB189_192.out
      have hns41_2 := NB191_192.out
      have hms41_0 := NB192_188.out
      have hms41_1 := NB192_189.out
      have hms41_2 := NB192_191.out
      refine skip_ (w1 := ?_) (by rfl) rfl ?_ ?_
      rotate_left
      · go_simp
        rfl
      refine hK.out _ _ ⟨((cell_far (p := ⟨gb192, _, none⟩) NB189_192.out _).trans (hHeld.1)), ((cell_far (p := ⟨gb192, _, none⟩) NB189_192.out _).trans (hHeld.2.1)), ((cell_far (p := ⟨gb192, _, none⟩) NB189_192.out _).trans (hHeld.2.2.1)), ((cell_far (p := ⟨gb192, _, none⟩) NB189_192.out _).trans (hHeld.2.2.2.1)), ((cell_far (p := ⟨gb192, _, none⟩) NB189_192.out _).trans (hHeld.2.2.2.2.1)), ((cell_far (p := ⟨gb192, _, none⟩) NB188_192.out _).trans (hHeld.2.2.2.2.2.1)), ((cell_far (p := ⟨gb192, _, none⟩) NB188_192.out _).trans (hHeld.2.2.2.2.2.2.1)), ((cell_far (p := ⟨gb192, _, none⟩) NB188_192.out _).trans (hHeld.2.2.2.2.2.2.2.1)), ((cell_far (p := ⟨gb192, _, none⟩) NB188_192.out _).trans (hHeld.2.2.2.2.2.2.2.2.1)), ((cell_far (p := ⟨gb192, _, none⟩) NB188_192.out _).trans (hHeld.2.2.2.2.2.2.2.2.2))⟩ (fun hHeld => ?_)
      clear hK K
      refine pure_ (i := 14) (N := some 57) (v := ?_) (a' := ?_) #[true, true, true, true, true, true, true, true, true, true, true, true, true, true, true, false] rfl rfl (any_of HT_.out (by kernel_rfl)) (fun _ _ _ h => h) (Or.inl ⟨by rfl, ?_⟩) ?_ ?_
      rotate_left
      · intro w'
        go_simp
        with_reducible rfl
      rotate_left
      · simp only [Act.put, List.setIfInBounds_toArray, List.set_cons_zero, List.set_cons_succ, i64_w, i32_w]
        rfl
      refine one_ (i := 15) (N := none) #[true, true, true, true, true, true, true, true, true, true, true, true, true, true, true, true] rfl rfl (one_of HT_.out (by kernel_rfl)) (by decide) (fun K hK => ?_)
      have hs42 : w38.cell? ⟨gb192, 1, none⟩ = some (.int .i64 (wrap64 (a3))) := (blk_cell BK192.out 1).trans rfl
      have hfs42 := blk_frozen BK192.out 1
      have hns42_0 := NB188_192.out
      have hns42_1 := NB189_192.out
      have hns42_2 := NB191_192.out
      have hms42_0 := NB192_188.out
      have hms42_1 := NB192_189.out
      have hms42_2 := NB192_191.out
      refine skip_ (w1 := ?_) (by rfl) rfl ?_ ?_
      rotate_left
      · go_simp
        rfl
      refine hK.out _ _ ⟨((cell_far (p := ⟨gb192, _, none⟩) NB189_192.out _).trans (hHeld.1)), ((cell_far (p := ⟨gb192, _, none⟩) NB189_192.out _).trans (hHeld.2.1)), ((cell_far (p := ⟨gb192, _, none⟩) NB189_192.out _).trans (hHeld.2.2.1)), ((cell_far (p := ⟨gb192, _, none⟩) NB189_192.out _).trans (hHeld.2.2.2.1)), ((cell_far (p := ⟨gb192, _, none⟩) NB189_192.out _).trans (hHeld.2.2.2.2.1)), ((cell_far (p := ⟨gb192, _, none⟩) NB188_192.out _).trans (hHeld.2.2.2.2.2.1)), ((cell_far (p := ⟨gb192, _, none⟩) NB188_192.out _).trans (hHeld.2.2.2.2.2.2.1)), ((cell_far (p := ⟨gb192, _, none⟩) NB188_192.out _).trans (hHeld.2.2.2.2.2.2.2.1)), ((cell_far (p := ⟨gb192, _, none⟩) NB188_192.out _).trans (hHeld.2.2.2.2.2.2.2.2.1)), ((cell_far (p := ⟨gb192, _, none⟩) NB188_192.out _).trans (hHeld.2.2.2.2.2.2.2.2.2))⟩ (fun hHeld => ?_)
      clear hK K
      refine done_ (done_of HT_.out (by kernel_rfl)) ?_
      try go_wp2_with (first | ((with_reducible refine gate_callee (f := 30) rfl ?_); refine goesL_ (some 58) rfl rfl Try.func30 (by kernel_rfl) rfl #[] rfl (by (try simp only [List.map_toArray, List.map_cons, List.map_nil]); first | done | rfl | (simp only [List.length_drop, List.length_take]; rfl)) ?_; (with_reducible refine (imageeditorlaw26_awake.calls k  true _ A11.out).mono ?_); rintro e w43 ⟨rfl, hb⟩; refine ⟨_, rfl, ?_⟩; have n0_ := Aside0.mk (blk_below (g := gb188) (o := .cells #[.int .i64 (wrap64 (a0)), .int .i64 (wrap64 (a1)), .int .i64 0, .int .i64 0, .int .i64 (wrap64 (a6))] 47 (0, 0)) (by (with_reducible repeat (first | refine blk_drewN ?_ _ | refine blk_drew ?_ | refine blk_alloc ?_ _)); refine blk_far ?_ NB188_192.out _; (with_reducible repeat (first | refine blk_drewN ?_ _ | refine blk_drew ?_ | refine blk_alloc ?_ _)); refine blk_far ?_ NB188_192.out _; (with_reducible repeat (first | refine blk_drewN ?_ _ | refine blk_drew ?_ | refine blk_alloc ?_ _)); refine blk_far ?_ NB188_191.out _; (with_reducible repeat (first | refine blk_drewN ?_ _ | refine blk_drew ?_ | refine blk_alloc ?_ _)); refine blk_far ?_ NB188_191.out _; (with_reducible repeat (first | refine blk_drewN ?_ _ | refine blk_drew ?_ | refine blk_alloc ?_ _)); exact BK188.out) hb); have n1_ := Aside0.mk (blk_below (g := gb189) (o := .cells #[.int .i64 (wrap64 (a2)), .int .i64 (wrap64 (a3)), .int .i64 0, .int .i64 0, .int .i64 (wrap64 ((wrap64 (a6)) + (wrap64 (a7))))] 47 (0, 0)) (by (with_reducible repeat (first | refine blk_drewN ?_ _ | refine blk_drew ?_ | refine blk_alloc ?_ _)); refine blk_far ?_ NB189_192.out _; (with_reducible repeat (first | refine blk_drewN ?_ _ | refine blk_drew ?_ | refine blk_alloc ?_ _)); refine blk_far ?_ NB189_192.out _; (with_reducible repeat (first | refine blk_drewN ?_ _ | refine blk_drew ?_ | refine blk_alloc ?_ _)); refine blk_far ?_ NB189_191.out _; (with_reducible repeat (first | refine blk_drewN ?_ _ | refine blk_drew ?_ | refine blk_alloc ?_ _)); refine blk_far ?_ NB189_191.out _; (with_reducible repeat (first | refine blk_drewN ?_ _ | refine blk_drew ?_ | refine blk_alloc ?_ _)); exact BK189.out) hb); have n2_ := Aside0.mk (blk_below (g := gb191) (o := .cells #[.int .i64 (wrap64 (a2)), .int .i64 (wrap64 (a3)), .int .i64 0, .int .i64 0, .int .i64 (wrap64 (a6))] 47 (0, 0)) (by (with_reducible repeat (first | refine blk_drewN ?_ _ | refine blk_drew ?_ | refine blk_alloc ?_ _)); refine blk_far ?_ NB191_192.out _; (with_reducible repeat (first | refine blk_drewN ?_ _ | refine blk_drew ?_ | refine blk_alloc ?_ _)); refine blk_far ?_ NB191_192.out _; (with_reducible repeat (first | refine blk_drewN ?_ _ | refine blk_drew ?_ | refine blk_alloc ?_ _)); refine blk_put (cs := #[.int .i64 (wrap64 (a2)), .int .i64 (wrap64 (a1)), .int .i64 0, .int .i64 0, .int .i64 (wrap64 (a6))]) ?_ 1 _ rfl; (with_reducible repeat (first | refine blk_drewN ?_ _ | refine blk_drew ?_ | refine blk_alloc ?_ _)); refine blk_put (cs := #[.int .i64 (wrap64 (a0)), .int .i64 (wrap64 (a1)), .int .i64 0, .int .i64 0, .int .i64 (wrap64 (a6))]) ?_ 0 _ rfl; (with_reducible repeat (first | refine blk_drewN ?_ _ | refine blk_drew ?_ | refine blk_alloc ?_ _)); exact BK191.out) hb); have n3_ := Aside0.mk (blk_below (g := gb192) (o := .cells #[.int .i64 (wrap64 (a0)), .int .i64 (wrap64 (a1)), .int .i64 0, .int .i64 0, .int .i64 (wrap64 ((wrap64 (a6)) + (wrap64 (a7))))] 47 (0, 0)) (by (with_reducible repeat (first | refine blk_drewN ?_ _ | refine blk_drew ?_ | refine blk_alloc ?_ _)); refine blk_put (cs := #[.int .i64 (wrap64 (a0)), .int .i64 (wrap64 (a3)), .int .i64 0, .int .i64 0, .int .i64 (wrap64 ((wrap64 (a6)) + (wrap64 (a7))))]) ?_ 1 _ rfl; (with_reducible repeat (first | refine blk_drewN ?_ _ | refine blk_drew ?_ | refine blk_alloc ?_ _)); refine blk_put (cs := #[.int .i64 (wrap64 (a2)), .int .i64 (wrap64 (a3)), .int .i64 0, .int .i64 0, .int .i64 (wrap64 ((wrap64 (a6)) + (wrap64 (a7))))]) ?_ 0 _ rfl; (with_reducible repeat (first | refine blk_drewN ?_ _ | refine blk_drew ?_ | refine blk_alloc ?_ _)); refine blk_far ?_ NB192_191.out _; (with_reducible repeat (first | refine blk_drewN ?_ _ | refine blk_drew ?_ | refine blk_alloc ?_ _)); refine blk_far ?_ NB192_191.out _; (with_reducible repeat (first | refine blk_drewN ?_ _ | refine blk_drew ?_ | refine blk_alloc ?_ _)); exact BK192.out) hb); have n4_ := Aside0.mk (below_step (by repeat (first | (with_reducible first | exact HB.out | apply below_alloc | apply pw_below_drewN | apply below_drew1 | refine below_set ?_ GE188.out | refine below_set ?_ GE189.out | refine below_set ?_ GE191.out | refine below_set ?_ GE192.out) | exact HB.out)) hb); clear BK188; clear BK189; clear BK191; clear BK192; clear HB; have BK188 := n0_; have BK189 := n1_; have BK191 := n2_; have BK192 := n3_; have HB := n4_; clear n0_ n1_ n2_ n3_ n4_; (try clear hb); (try clear hb2); (try clear hk); (try clear hi); have hnb44 := NB191_188.out; have hnc44 := NB188_191.out; have hnb45 := NB191_189.out; have hnc45 := NB189_191.out; have hnb46 := NB191_192.out; have hnc46 := NB192_191.out; have hcz47_0 : w43.cell? ⟨gb191, 0, none⟩ = some (.int .i64 (wrap64 (a2))) := (blk_cell BK191.out 0).trans rfl; have hcz47_1 : w43.cell? ⟨gb191, 1, none⟩ = some (.int .i64 (wrap64 (a3))) := (blk_cell BK191.out 1).trans rfl; have hcz47_2 : w43.cell? ⟨gb191, 2, none⟩ = some (.int .i64 0) := (blk_cell BK191.out 2).trans rfl; have hcz47_3 : w43.cell? ⟨gb191, 3, none⟩ = some (.int .i64 0) := (blk_cell BK191.out 3).trans rfl; have hcz47_4 : w43.cell? ⟨gb191, 4, none⟩ = some (.int .i64 (wrap64 (a6))) := (blk_cell BK191.out 4).trans rfl; have hfz47_0 := blk_frozen BK191.out 0; have hfz47_1 := blk_frozen BK191.out 1; have hfz47_2 := blk_frozen BK191.out 2; have hfz47_3 := blk_frozen BK191.out 3; have hfz47_4 := blk_frozen BK191.out 4; have hnb48 := NB192_188.out; have hnc48 := NB188_192.out; have hnb49 := NB192_189.out; have hnc49 := NB189_192.out; have hcz50_0 : w43.cell? ⟨gb192, 0, none⟩ = some (.int .i64 (wrap64 (a0))) := (blk_cell BK192.out 0).trans rfl; have hcz50_1 : w43.cell? ⟨gb192, 1, none⟩ = some (.int .i64 (wrap64 (a1))) := (blk_cell BK192.out 1).trans rfl; have hcz50_2 : w43.cell? ⟨gb192, 2, none⟩ = some (.int .i64 0) := (blk_cell BK192.out 2).trans rfl; have hcz50_3 : w43.cell? ⟨gb192, 3, none⟩ = some (.int .i64 0) := (blk_cell BK192.out 3).trans rfl; have hcz50_4 : w43.cell? ⟨gb192, 4, none⟩ = some (.int .i64 (wrap64 ((wrap64 (a6)) + (wrap64 (a7))))) := (blk_cell BK192.out 4).trans rfl; have hfz50_0 := blk_frozen BK192.out 0; have hfz50_1 := blk_frozen BK192.out 1; have hfz50_2 := blk_frozen BK192.out 2; have hfz50_3 := blk_frozen BK192.out 3; have hfz50_4 := blk_frozen BK192.out 4) | (go_at_call 33; (with_reducible refine (dynamics_Speed.calls k (wrap64 (a2)) (wrap64 (a3)) 0 0 (wrap64 (a6)) (wrap64 (a0)) (wrap64 (a1)) 0 0 (wrap64 ((wrap64 (a6)) + (wrap64 (a7)))) t194 _ A13.out).mono ?_); rintro e w51 ⟨rfl, hb⟩; have n0_ := Aside0.mk (blk_below (g := gb188) (o := .cells #[.int .i64 (wrap64 (a0)), .int .i64 (wrap64 (a1)), .int .i64 0, .int .i64 0, .int .i64 (wrap64 (a6))] 47 (0, 0)) (by (with_reducible repeat (first | refine blk_drewN ?_ _ | refine blk_drew ?_ | refine blk_alloc ?_ _)); exact BK188.out) hb); have n1_ := Aside0.mk (blk_below (g := gb189) (o := .cells #[.int .i64 (wrap64 (a2)), .int .i64 (wrap64 (a3)), .int .i64 0, .int .i64 0, .int .i64 (wrap64 ((wrap64 (a6)) + (wrap64 (a7))))] 47 (0, 0)) (by (with_reducible repeat (first | refine blk_drewN ?_ _ | refine blk_drew ?_ | refine blk_alloc ?_ _)); exact BK189.out) hb); have n2_ := Aside0.mk (blk_below (g := gb191) (o := .cells #[.int .i64 (wrap64 (a2)), .int .i64 (wrap64 (a3)), .int .i64 0, .int .i64 0, .int .i64 (wrap64 (a6))] 47 (0, 0)) (by (with_reducible repeat (first | refine blk_drewN ?_ _ | refine blk_drew ?_ | refine blk_alloc ?_ _)); exact BK191.out) hb); have n3_ := Aside0.mk (blk_below (g := gb192) (o := .cells #[.int .i64 (wrap64 (a0)), .int .i64 (wrap64 (a1)), .int .i64 0, .int .i64 0, .int .i64 (wrap64 ((wrap64 (a6)) + (wrap64 (a7))))] 47 (0, 0)) (by (with_reducible repeat (first | refine blk_drewN ?_ _ | refine blk_drew ?_ | refine blk_alloc ?_ _)); exact BK192.out) hb); have n4_ := Aside0.mk (below_step (by repeat (first | (with_reducible first | exact HB.out | apply below_alloc | apply pw_below_drewN | apply below_drew1 | refine below_set ?_ GE188.out | refine below_set ?_ GE189.out | refine below_set ?_ GE191.out | refine below_set ?_ GE192.out) | exact HB.out)) hb); clear BK188; clear BK189; clear BK191; clear BK192; clear HB; have BK188 := n0_; have BK189 := n1_; have BK191 := n2_; have BK192 := n3_; have HB := n4_; clear n0_ n1_ n2_ n3_ n4_; (try clear hb); (try clear hb2); (try clear hk); (try clear hi)))
      have n0_ := Aside0.mk (blk_drew BK188.out)
      have n1_ := Aside0.mk (blk_drew BK189.out)
      have n2_ := Aside0.mk (blk_drew BK191.out)
      have n3_ := Aside0.mk (blk_drew BK192.out)
      have n4_ := Aside0.mk (below_drew1 HB.out)
      clear BK188
      clear BK189
      clear BK191
      clear BK192
      clear HB
      have BK188 := n0_
      have BK189 := n1_
      have BK191 := n2_
      have BK192 := n3_
      have HB := n4_
      clear n0_ n1_ n2_ n3_ n4_
      refine start_ (n := 4) (S := fun w' => w'.cell? ⟨gb188, 0, none⟩ = some (.int .i64 (wrap64 (a0))) ∧ w'.cell? ⟨gb188, 1, none⟩ = some (.int .i64 (wrap64 (a1))) ∧ w'.cell? ⟨gb188, 2, none⟩ = some (.int .i64 0) ∧ w'.cell? ⟨gb188, 3, none⟩ = some (.int .i64 0) ∧ w'.cell? ⟨gb188, 4, none⟩ = some (.int .i64 (wrap64 (a6))) ∧ w'.cell? ⟨gb189, 0, none⟩ = some (.int .i64 (wrap64 (a2))) ∧ w'.cell? ⟨gb189, 1, none⟩ = some (.int .i64 (wrap64 (a3))) ∧ w'.cell? ⟨gb189, 2, none⟩ = some (.int .i64 0) ∧ w'.cell? ⟨gb189, 3, none⟩ = some (.int .i64 0) ∧ w'.cell? ⟨gb189, 4, none⟩ = some (.int .i64 (wrap64 ((wrap64 (a6)) + (wrap64 (a7)))))) (ds := []) #[false, false, false, false] (by kernel_rfl) rfl rfl ⟨(blk_cell BK188.out 0).trans rfl, (blk_cell BK188.out 1).trans rfl, (blk_cell BK188.out 2).trans rfl, (blk_cell BK188.out 3).trans rfl, (blk_cell BK188.out 4).trans rfl, (blk_cell BK189.out 0).trans rfl, (blk_cell BK189.out 1).trans rfl, (blk_cell BK189.out 2).trans rfl, (blk_cell BK189.out 3).trans rfl, (blk_cell BK189.out 4).trans rfl⟩ (fun hHeld => ?_)
      generalize w51.drew = w52 at BK188 BK189 BK191 BK192 HB hHeld ⊢
      refine take_ (i := 0) (N := some 67) (v := ?_) (a' := ?_) #[true, false, false, false] rfl rfl (by kernel_rfl) (fun _ _ _ h => h) (Or.inl ⟨by rfl, ?_⟩) hHeld ?_ ?_
      rotate_left
      · rintro w' ⟨s0, s1, s2, s3, s4, s5, s6, s7, s8, s9⟩
        go_simp
        with_reducible rfl
      rotate_left
      · simp only [Act.put, List.setIfInBounds_toArray, List.set_cons_zero, List.set_cons_succ, i64_w, i32_w]
        rfl
      refine take_ (i := 1) (N := some 68) (v := ?_) (a' := ?_) #[true, true, false, false] rfl rfl (by kernel_rfl) (fun _ _ _ h => h) (Or.inl ⟨by rfl, ?_⟩) hHeld ?_ ?_
      rotate_left
      · rintro w' ⟨s0, s1, s2, s3, s4, s5, s6, s7, s8, s9⟩
        go_simp
        with_reducible rfl
      rotate_left
      · simp only [Act.put, List.setIfInBounds_toArray, List.set_cons_zero, List.set_cons_succ, i64_w, i32_w]
        rfl
      refine one_ (i := 2) (N := none) #[true, true, true, false] rfl rfl (by kernel_rfl) (by decide) (fun K hK => ?_)
      have hs53 : w52.cell? ⟨gb191, 0, none⟩ = some (.int .i64 (wrap64 (a2))) := (blk_cell BK191.out 0).trans rfl
      have hfs53 := blk_frozen BK191.out 0
      have hns53_0 := NB188_191.out
      have hns53_1 := NB189_191.out
      have hns53_3 := NB192_191.out
      have hms53_0 := NB191_188.out
      have hms53_1 := NB191_189.out
      have hms53_3 := NB191_192.out
      have hs54 : w52.cell? ⟨gb191, 1, none⟩ = some (.int .i64 (wrap64 (a3))) := (blk_cell BK191.out 1).trans rfl
      have hfs54 := blk_frozen BK191.out 1
      have hns54_0 := NB188_191.out
      have hns54_1 := NB189_191.out
      have hns54_3 := NB192_191.out
      have hms54_0 := NB191_188.out
      have hms54_1 := NB191_189.out
      have hms54_3 := NB191_192.out
      have hs55 : w52.cell? ⟨gb191, 2, none⟩ = some (.int .i64 0) := (blk_cell BK191.out 2).trans rfl
      have hfs55 := blk_frozen BK191.out 2
      have hns55_0 := NB188_191.out
      have hns55_1 := NB189_191.out
      have hns55_3 := NB192_191.out
      have hms55_0 := NB191_188.out
      have hms55_1 := NB191_189.out
      have hms55_3 := NB191_192.out
      have hs56 : w52.cell? ⟨gb191, 3, none⟩ = some (.int .i64 0) := (blk_cell BK191.out 3).trans rfl
      have hfs56 := blk_frozen BK191.out 3
      have hns56_0 := NB188_191.out
      have hns56_1 := NB189_191.out
      have hns56_3 := NB192_191.out
      have hms56_0 := NB191_188.out
      have hms56_1 := NB191_189.out
      have hms56_3 := NB191_192.out
      have hs57 : w52.cell? ⟨gb191, 4, none⟩ = some (.int .i64 (wrap64 (a6))) := (blk_cell BK191.out 4).trans rfl
      have hfs57 := blk_frozen BK191.out 4
      have hns57_0 := NB188_191.out
      have hns57_1 := NB189_191.out
      have hns57_3 := NB192_191.out
      have hms57_0 := NB191_188.out
      have hms57_1 := NB191_189.out
      have hms57_3 := NB191_192.out
      refine skip_ (w1 := ?_) (by rfl) rfl ?_ ?_
      rotate_left
      · go_simp
        rfl
      refine hK.out _ _ ⟨((cell_far (p := ⟨gb191, _, none⟩) NB188_191.out _).trans (((cell_far (p := ⟨gb191, _, none⟩) NB188_191.out _).trans (((cell_far (p := ⟨gb191, _, none⟩) NB188_191.out _).trans (((cell_far (p := ⟨gb191, _, none⟩) NB188_191.out _).trans (((cell_far (p := ⟨gb191, _, none⟩) NB188_191.out _).trans (hHeld.1)))))))))), ((cell_far (p := ⟨gb191, _, none⟩) NB188_191.out _).trans (((cell_far (p := ⟨gb191, _, none⟩) NB188_191.out _).trans (((cell_far (p := ⟨gb191, _, none⟩) NB188_191.out _).trans (((cell_far (p := ⟨gb191, _, none⟩) NB188_191.out _).trans (((cell_far (p := ⟨gb191, _, none⟩) NB188_191.out _).trans (hHeld.2.1)))))))))), ((cell_far (p := ⟨gb191, _, none⟩) NB188_191.out _).trans (((cell_far (p := ⟨gb191, _, none⟩) NB188_191.out _).trans (((cell_far (p := ⟨gb191, _, none⟩) NB188_191.out _).trans (((cell_far (p := ⟨gb191, _, none⟩) NB188_191.out _).trans (((cell_far (p := ⟨gb191, _, none⟩) NB188_191.out _).trans (hHeld.2.2.1)))))))))), ((cell_far (p := ⟨gb191, _, none⟩) NB188_191.out _).trans (((cell_far (p := ⟨gb191, _, none⟩) NB188_191.out _).trans (((cell_far (p := ⟨gb191, _, none⟩) NB188_191.out _).trans (((cell_far (p := ⟨gb191, _, none⟩) NB188_191.out _).trans (((cell_far (p := ⟨gb191, _, none⟩) NB188_191.out _).trans (hHeld.2.2.2.1)))))))))), ((cell_far (p := ⟨gb191, _, none⟩) NB188_191.out _).trans (((cell_far (p := ⟨gb191, _, none⟩) NB188_191.out _).trans (((cell_far (p := ⟨gb191, _, none⟩) NB188_191.out _).trans (((cell_far (p := ⟨gb191, _, none⟩) NB188_191.out _).trans (((cell_far (p := ⟨gb191, _, none⟩) NB188_191.out _).trans (hHeld.2.2.2.2.1)))))))))), ((cell_far (p := ⟨gb191, _, none⟩) NB189_191.out _).trans (((cell_far (p := ⟨gb191, _, none⟩) NB189_191.out _).trans (((cell_far (p := ⟨gb191, _, none⟩) NB189_191.out _).trans (((cell_far (p := ⟨gb191, _, none⟩) NB189_191.out _).trans (((cell_far (p := ⟨gb191, _, none⟩) NB189_191.out _).trans (hHeld.2.2.2.2.2.1)))))))))), ((cell_far (p := ⟨gb191, _, none⟩) NB189_191.out _).trans (((cell_far (p := ⟨gb191, _, none⟩) NB189_191.out _).trans (((cell_far (p := ⟨gb191, _, none⟩) NB189_191.out _).trans (((cell_far (p := ⟨gb191, _, none⟩) NB189_191.out _).trans (((cell_far (p := ⟨gb191, _, none⟩) NB189_191.out _).trans (hHeld.2.2.2.2.2.2.1)))))))))), ((cell_far (p := ⟨gb191, _, none⟩) NB189_191.out _).trans (((cell_far (p := ⟨gb191, _, none⟩) NB189_191.out _).trans (((cell_far (p := ⟨gb191, _, none⟩) NB189_191.out _).trans (((cell_far (p := ⟨gb191, _, none⟩) NB189_191.out _).trans (((cell_far (p := ⟨gb191, _, none⟩) NB189_191.out _).trans (hHeld.2.2.2.2.2.2.2.1)))))))))), ((cell_far (p := ⟨gb191, _, none⟩) NB189_191.out _).trans (((cell_far (p := ⟨gb191, _, none⟩) NB189_191.out _).trans (((cell_far (p := ⟨gb191, _, none⟩) NB189_191.out _).trans (((cell_far (p := ⟨gb191, _, none⟩) NB189_191.out _).trans (((cell_far (p := ⟨gb191, _, none⟩) NB189_191.out _).trans (hHeld.2.2.2.2.2.2.2.2.1)))))))))), ((cell_far (p := ⟨gb191, _, none⟩) NB189_191.out _).trans (((cell_far (p := ⟨gb191, _, none⟩) NB189_191.out _).trans (((cell_far (p := ⟨gb191, _, none⟩) NB189_191.out _).trans (((cell_far (p := ⟨gb191, _, none⟩) NB189_191.out _).trans (((cell_far (p := ⟨gb191, _, none⟩) NB189_191.out _).trans (hHeld.2.2.2.2.2.2.2.2.2))))))))))⟩ (fun hHeld => ?_)
      clear hK K
      refine one_ (i := 3) (N := none) #[true, true, true, true] rfl rfl (by kernel_rfl) (by decide) (fun K hK => ?_)
      have hs58 : w52.cell? ⟨gb192, 0, none⟩ = some (.int .i64 (wrap64 (a0))) := (blk_cell BK192.out 0).trans rfl
      have hfs58 := blk_frozen BK192.out 0
      have hns58_0 := NB188_192.out
      have hns58_1 := NB189_192.out
      have hns58_2 := NB191_192.out
      have hms58_0 := NB192_188.out
      have hms58_1 := NB192_189.out
      have hms58_2 := NB192_191.out
      have hs59 : w52.cell? ⟨gb192, 1, none⟩ = some (.int .i64 (wrap64 (a1))) := (blk_cell BK192.out 1).trans rfl
      have hfs59 := blk_frozen BK192.out 1
      have hns59_0 := NB188_192.out
      have hns59_1 := NB189_192.out
      have hns59_2 := NB191_192.out
      have hms59_0 := NB192_188.out
      have hms59_1 := NB192_189.out
      have hms59_2 := NB192_191.out
      have hs60 : w52.cell? ⟨gb192, 2, none⟩ = some (.int .i64 0) := (blk_cell BK192.out 2).trans rfl
      have hfs60 := blk_frozen BK192.out 2
      have hns60_0 := NB188_192.out
      have hns60_1 := NB189_192.out
      have hns60_2 := NB191_192.out
      have hms60_0 := NB192_188.out
      have hms60_1 := NB192_189.out
      have hms60_2 := NB192_191.out
      have hs61 : w52.cell? ⟨gb192, 3, none⟩ = some (.int .i64 0) := (blk_cell BK192.out 3).trans rfl
      have hfs61 := blk_frozen BK192.out 3
      have hns61_0 := NB188_192.out
      have hns61_1 := NB189_192.out
      have hns61_2 := NB191_192.out
      have hms61_0 := NB192_188.out
      have hms61_1 := NB192_189.out
      have hms61_2 := NB192_191.out
      have hs62 : w52.cell? ⟨gb192, 4, none⟩ = some (.int .i64 (wrap64 ((wrap64 (a6)) + (wrap64 (a7))))) := (blk_cell BK192.out 4).trans rfl
      have hfs62 := blk_frozen BK192.out 4
      have hns62_0 := NB188_192.out
      have hns62_1 := NB189_192.out
      have hns62_2 := NB191_192.out
      have hms62_0 := NB192_188.out
      have hms62_1 := NB192_189.out
      have hms62_2 := NB192_191.out
      refine skip_ (w1 := ?_) (by rfl) rfl ?_ ?_
      rotate_left
      · go_simp
        rfl
      refine hK.out _ _ ⟨((cell_far (p := ⟨gb192, _, none⟩) NB188_192.out _).trans (((cell_far (p := ⟨gb192, _, none⟩) NB188_192.out _).trans (((cell_far (p := ⟨gb192, _, none⟩) NB188_192.out _).trans (((cell_far (p := ⟨gb192, _, none⟩) NB188_192.out _).trans (((cell_far (p := ⟨gb192, _, none⟩) NB188_192.out _).trans (hHeld.1)))))))))), ((cell_far (p := ⟨gb192, _, none⟩) NB188_192.out _).trans (((cell_far (p := ⟨gb192, _, none⟩) NB188_192.out _).trans (((cell_far (p := ⟨gb192, _, none⟩) NB188_192.out _).trans (((cell_far (p := ⟨gb192, _, none⟩) NB188_192.out _).trans (((cell_far (p := ⟨gb192, _, none⟩) NB188_192.out _).trans (hHeld.2.1)))))))))), ((cell_far (p := ⟨gb192, _, none⟩) NB188_192.out _).trans (((cell_far (p := ⟨gb192, _, none⟩) NB188_192.out _).trans (((cell_far (p := ⟨gb192, _, none⟩) NB188_192.out _).trans (((cell_far (p := ⟨gb192, _, none⟩) NB188_192.out _).trans (((cell_far (p := ⟨gb192, _, none⟩) NB188_192.out _).trans (hHeld.2.2.1)))))))))), ((cell_far (p := ⟨gb192, _, none⟩) NB188_192.out _).trans (((cell_far (p := ⟨gb192, _, none⟩) NB188_192.out _).trans (((cell_far (p := ⟨gb192, _, none⟩) NB188_192.out _).trans (((cell_far (p := ⟨gb192, _, none⟩) NB188_192.out _).trans (((cell_far (p := ⟨gb192, _, none⟩) NB188_192.out _).trans (hHeld.2.2.2.1)))))))))), ((cell_far (p := ⟨gb192, _, none⟩) NB188_192.out _).trans (((cell_far (p := ⟨gb192, _, none⟩) NB188_192.out _).trans (((cell_far (p := ⟨gb192, _, none⟩) NB188_192.out _).trans (((cell_far (p := ⟨gb192, _, none⟩) NB188_192.out _).trans (((cell_far (p := ⟨gb192, _, none⟩) NB188_192.out _).trans (hHeld.2.2.2.2.1)))))))))), ((cell_far (p := ⟨gb192, _, none⟩) NB189_192.out _).trans (((cell_far (p := ⟨gb192, _, none⟩) NB189_192.out _).trans (((cell_far (p := ⟨gb192, _, none⟩) NB189_192.out _).trans (((cell_far (p := ⟨gb192, _, none⟩) NB189_192.out _).trans (((cell_far (p := ⟨gb192, _, none⟩) NB189_192.out _).trans (hHeld.2.2.2.2.2.1)))))))))), ((cell_far (p := ⟨gb192, _, none⟩) NB189_192.out _).trans (((cell_far (p := ⟨gb192, _, none⟩) NB189_192.out _).trans (((cell_far (p := ⟨gb192, _, none⟩) NB189_192.out _).trans (((cell_far (p := ⟨gb192, _, none⟩) NB189_192.out _).trans (((cell_far (p := ⟨gb192, _, none⟩) NB189_192.out _).trans (hHeld.2.2.2.2.2.2.1)))))))))), ((cell_far (p := ⟨gb192, _, none⟩) NB189_192.out _).trans (((cell_far (p := ⟨gb192, _, none⟩) NB189_192.out _).trans (((cell_far (p := ⟨gb192, _, none⟩) NB189_192.out _).trans (((cell_far (p := ⟨gb192, _, none⟩) NB189_192.out _).trans (((cell_far (p := ⟨gb192, _, none⟩) NB189_192.out _).trans (hHeld.2.2.2.2.2.2.2.1)))))))))), ((cell_far (p := ⟨gb192, _, none⟩) NB189_192.out _).trans (((cell_far (p := ⟨gb192, _, none⟩) NB189_192.out _).trans (((cell_far (p := ⟨gb192, _, none⟩) NB189_192.out _).trans (((cell_far (p := ⟨gb192, _, none⟩) NB189_192.out _).trans (((cell_far (p := ⟨gb192, _, none⟩) NB189_192.out _).trans (hHeld.2.2.2.2.2.2.2.2.1)))))))))), ((cell_far (p := ⟨gb192, _, none⟩) NB189_192.out _).trans (((cell_far (p := ⟨gb192, _, none⟩) NB189_192.out _).trans (((cell_far (p := ⟨gb192, _, none⟩) NB189_192.out _).trans (((cell_far (p := ⟨gb192, _, none⟩) NB189_192.out _).trans (((cell_far (p := ⟨gb192, _, none⟩) NB189_192.out _).trans (hHeld.2.2.2.2.2.2.2.2.2))))))))))⟩ (fun hHeld => ?_)
      clear hK K
      refine done_ (by kernel_rfl) ?_
      try go_wp2
      have n0_ : Aside0 (((((((((((w52.setCell ⟨gb191, 0, none⟩ (.int .i64 (wrap64 (a0)))).setCell ⟨gb191, 1, none⟩ (.int .i64 (wrap64 (a1)))).setCell ⟨gb191, 2, none⟩ (.int .i64 0)).setCell ⟨gb191, 3, none⟩ (.int .i64 0)).setCell ⟨gb191, 4, none⟩ (.int .i64 (wrap64 (a6)))).setCell ⟨gb192, 0, none⟩ (.int .i64 (wrap64 (a2)))).setCell ⟨gb192, 1, none⟩ (.int .i64 (wrap64 (a3)))).setCell ⟨gb192, 2, none⟩ (.int .i64 0)).setCell ⟨gb192, 3, none⟩ (.int .i64 0)).setCell ⟨gb192, 4, none⟩ (.int .i64 (wrap64 ((wrap64 (a6)) + (wrap64 (a7)))))).heap[gb188]? = some (.cells #[.int .i64 (wrap64 (a0)), .int .i64 (wrap64 (a1)), .int .i64 0, .int .i64 0, .int .i64 (wrap64 (a6))] 47 (0, 0))) := ⟨by (with_reducible repeat (first | refine blk_drewN ?_ _ | refine blk_drew ?_ | refine blk_alloc ?_ _)); refine blk_far ?_ NB188_192.out _; (with_reducible repeat (first | refine blk_drewN ?_ _ | refine blk_drew ?_ | refine blk_alloc ?_ _)); refine blk_far ?_ NB188_192.out _; (with_reducible repeat (first | refine blk_drewN ?_ _ | refine blk_drew ?_ | refine blk_alloc ?_ _)); refine blk_far ?_ NB188_192.out _; (with_reducible repeat (first | refine blk_drewN ?_ _ | refine blk_drew ?_ | refine blk_alloc ?_ _)); refine blk_far ?_ NB188_192.out _; (with_reducible repeat (first | refine blk_drewN ?_ _ | refine blk_drew ?_ | refine blk_alloc ?_ _)); refine blk_far ?_ NB188_192.out _; (with_reducible repeat (first | refine blk_drewN ?_ _ | refine blk_drew ?_ | refine blk_alloc ?_ _)); refine blk_far ?_ NB188_191.out _; (with_reducible repeat (first | refine blk_drewN ?_ _ | refine blk_drew ?_ | refine blk_alloc ?_ _)); refine blk_far ?_ NB188_191.out _; (with_reducible repeat (first | refine blk_drewN ?_ _ | refine blk_drew ?_ | refine blk_alloc ?_ _)); refine blk_far ?_ NB188_191.out _; (with_reducible repeat (first | refine blk_drewN ?_ _ | refine blk_drew ?_ | refine blk_alloc ?_ _)); refine blk_far ?_ NB188_191.out _; (with_reducible repeat (first | refine blk_drewN ?_ _ | refine blk_drew ?_ | refine blk_alloc ?_ _)); refine blk_far ?_ NB188_191.out _; (with_reducible repeat (first | refine blk_drewN ?_ _ | refine blk_drew ?_ | refine blk_alloc ?_ _)); exact BK188.out⟩
      have n1_ : Aside0 (((((((((((w52.setCell ⟨gb191, 0, none⟩ (.int .i64 (wrap64 (a0)))).setCell ⟨gb191, 1, none⟩ (.int .i64 (wrap64 (a1)))).setCell ⟨gb191, 2, none⟩ (.int .i64 0)).setCell ⟨gb191, 3, none⟩ (.int .i64 0)).setCell ⟨gb191, 4, none⟩ (.int .i64 (wrap64 (a6)))).setCell ⟨gb192, 0, none⟩ (.int .i64 (wrap64 (a2)))).setCell ⟨gb192, 1, none⟩ (.int .i64 (wrap64 (a3)))).setCell ⟨gb192, 2, none⟩ (.int .i64 0)).setCell ⟨gb192, 3, none⟩ (.int .i64 0)).setCell ⟨gb192, 4, none⟩ (.int .i64 (wrap64 ((wrap64 (a6)) + (wrap64 (a7)))))).heap[gb189]? = some (.cells #[.int .i64 (wrap64 (a2)), .int .i64 (wrap64 (a3)), .int .i64 0, .int .i64 0, .int .i64 (wrap64 ((wrap64 (a6)) + (wrap64 (a7))))] 47 (0, 0))) := ⟨by (with_reducible repeat (first | refine blk_drewN ?_ _ | refine blk_drew ?_ | refine blk_alloc ?_ _)); refine blk_far ?_ NB189_192.out _; (with_reducible repeat (first | refine blk_drewN ?_ _ | refine blk_drew ?_ | refine blk_alloc ?_ _)); refine blk_far ?_ NB189_192.out _; (with_reducible repeat (first | refine blk_drewN ?_ _ | refine blk_drew ?_ | refine blk_alloc ?_ _)); refine blk_far ?_ NB189_192.out _; (with_reducible repeat (first | refine blk_drewN ?_ _ | refine blk_drew ?_ | refine blk_alloc ?_ _)); refine blk_far ?_ NB189_192.out _; (with_reducible repeat (first | refine blk_drewN ?_ _ | refine blk_drew ?_ | refine blk_alloc ?_ _)); refine blk_far ?_ NB189_192.out _; (with_reducible repeat (first | refine blk_drewN ?_ _ | refine blk_drew ?_ | refine blk_alloc ?_ _)); refine blk_far ?_ NB189_191.out _; (with_reducible repeat (first | refine blk_drewN ?_ _ | refine blk_drew ?_ | refine blk_alloc ?_ _)); refine blk_far ?_ NB189_191.out _; (with_reducible repeat (first | refine blk_drewN ?_ _ | refine blk_drew ?_ | refine blk_alloc ?_ _)); refine blk_far ?_ NB189_191.out _; (with_reducible repeat (first | refine blk_drewN ?_ _ | refine blk_drew ?_ | refine blk_alloc ?_ _)); refine blk_far ?_ NB189_191.out _; (with_reducible repeat (first | refine blk_drewN ?_ _ | refine blk_drew ?_ | refine blk_alloc ?_ _)); refine blk_far ?_ NB189_191.out _; (with_reducible repeat (first | refine blk_drewN ?_ _ | refine blk_drew ?_ | refine blk_alloc ?_ _)); exact BK189.out⟩
      have n2_ : Aside0 (((((((((((w52.setCell ⟨gb191, 0, none⟩ (.int .i64 (wrap64 (a0)))).setCell ⟨gb191, 1, none⟩ (.int .i64 (wrap64 (a1)))).setCell ⟨gb191, 2, none⟩ (.int .i64 0)).setCell ⟨gb191, 3, none⟩ (.int .i64 0)).setCell ⟨gb191, 4, none⟩ (.int .i64 (wrap64 (a6)))).setCell ⟨gb192, 0, none⟩ (.int .i64 (wrap64 (a2)))).setCell ⟨gb192, 1, none⟩ (.int .i64 (wrap64 (a3)))).setCell ⟨gb192, 2, none⟩ (.int .i64 0)).setCell ⟨gb192, 3, none⟩ (.int .i64 0)).setCell ⟨gb192, 4, none⟩ (.int .i64 (wrap64 ((wrap64 (a6)) + (wrap64 (a7)))))).heap[gb191]? = some (.cells #[.int .i64 (wrap64 (a0)), .int .i64 (wrap64 (a1)), .int .i64 0, .int .i64 0, .int .i64 (wrap64 (a6))] 47 (0, 0))) := ⟨by (with_reducible repeat (first | refine blk_drewN ?_ _ | refine blk_drew ?_ | refine blk_alloc ?_ _)); refine blk_far ?_ NB191_192.out _; (with_reducible repeat (first | refine blk_drewN ?_ _ | refine blk_drew ?_ | refine blk_alloc ?_ _)); refine blk_far ?_ NB191_192.out _; (with_reducible repeat (first | refine blk_drewN ?_ _ | refine blk_drew ?_ | refine blk_alloc ?_ _)); refine blk_far ?_ NB191_192.out _; (with_reducible repeat (first | refine blk_drewN ?_ _ | refine blk_drew ?_ | refine blk_alloc ?_ _)); refine blk_far ?_ NB191_192.out _; (with_reducible repeat (first | refine blk_drewN ?_ _ | refine blk_drew ?_ | refine blk_alloc ?_ _)); refine blk_far ?_ NB191_192.out _; (with_reducible repeat (first | refine blk_drewN ?_ _ | refine blk_drew ?_ | refine blk_alloc ?_ _)); refine blk_put (cs := #[.int .i64 (wrap64 (a0)), .int .i64 (wrap64 (a1)), .int .i64 0, .int .i64 0, .int .i64 (wrap64 (a6))]) ?_ 4 _ rfl; (with_reducible repeat (first | refine blk_drewN ?_ _ | refine blk_drew ?_ | refine blk_alloc ?_ _)); refine blk_put (cs := #[.int .i64 (wrap64 (a0)), .int .i64 (wrap64 (a1)), .int .i64 0, .int .i64 0, .int .i64 (wrap64 (a6))]) ?_ 3 _ rfl; (with_reducible repeat (first | refine blk_drewN ?_ _ | refine blk_drew ?_ | refine blk_alloc ?_ _)); refine blk_put (cs := #[.int .i64 (wrap64 (a0)), .int .i64 (wrap64 (a1)), .int .i64 0, .int .i64 0, .int .i64 (wrap64 (a6))]) ?_ 2 _ rfl; (with_reducible repeat (first | refine blk_drewN ?_ _ | refine blk_drew ?_ | refine blk_alloc ?_ _)); refine blk_put (cs := #[.int .i64 (wrap64 (a0)), .int .i64 (wrap64 (a3)), .int .i64 0, .int .i64 0, .int .i64 (wrap64 (a6))]) ?_ 1 _ rfl; (with_reducible repeat (first | refine blk_drewN ?_ _ | refine blk_drew ?_ | refine blk_alloc ?_ _)); refine blk_put (cs := #[.int .i64 (wrap64 (a2)), .int .i64 (wrap64 (a3)), .int .i64 0, .int .i64 0, .int .i64 (wrap64 (a6))]) ?_ 0 _ rfl; (with_reducible repeat (first | refine blk_drewN ?_ _ | refine blk_drew ?_ | refine blk_alloc ?_ _)); exact BK191.out⟩
      have n3_ : Aside0 (((((((((((w52.setCell ⟨gb191, 0, none⟩ (.int .i64 (wrap64 (a0)))).setCell ⟨gb191, 1, none⟩ (.int .i64 (wrap64 (a1)))).setCell ⟨gb191, 2, none⟩ (.int .i64 0)).setCell ⟨gb191, 3, none⟩ (.int .i64 0)).setCell ⟨gb191, 4, none⟩ (.int .i64 (wrap64 (a6)))).setCell ⟨gb192, 0, none⟩ (.int .i64 (wrap64 (a2)))).setCell ⟨gb192, 1, none⟩ (.int .i64 (wrap64 (a3)))).setCell ⟨gb192, 2, none⟩ (.int .i64 0)).setCell ⟨gb192, 3, none⟩ (.int .i64 0)).setCell ⟨gb192, 4, none⟩ (.int .i64 (wrap64 ((wrap64 (a6)) + (wrap64 (a7)))))).heap[gb192]? = some (.cells #[.int .i64 (wrap64 (a2)), .int .i64 (wrap64 (a3)), .int .i64 0, .int .i64 0, .int .i64 (wrap64 ((wrap64 (a6)) + (wrap64 (a7))))] 47 (0, 0))) := ⟨by (with_reducible repeat (first | refine blk_drewN ?_ _ | refine blk_drew ?_ | refine blk_alloc ?_ _)); refine blk_put (cs := #[.int .i64 (wrap64 (a2)), .int .i64 (wrap64 (a3)), .int .i64 0, .int .i64 0, .int .i64 (wrap64 ((wrap64 (a6)) + (wrap64 (a7))))]) ?_ 4 _ rfl; (with_reducible repeat (first | refine blk_drewN ?_ _ | refine blk_drew ?_ | refine blk_alloc ?_ _)); refine blk_put (cs := #[.int .i64 (wrap64 (a2)), .int .i64 (wrap64 (a3)), .int .i64 0, .int .i64 0, .int .i64 (wrap64 ((wrap64 (a6)) + (wrap64 (a7))))]) ?_ 3 _ rfl; (with_reducible repeat (first | refine blk_drewN ?_ _ | refine blk_drew ?_ | refine blk_alloc ?_ _)); refine blk_put (cs := #[.int .i64 (wrap64 (a2)), .int .i64 (wrap64 (a3)), .int .i64 0, .int .i64 0, .int .i64 (wrap64 ((wrap64 (a6)) + (wrap64 (a7))))]) ?_ 2 _ rfl; (with_reducible repeat (first | refine blk_drewN ?_ _ | refine blk_drew ?_ | refine blk_alloc ?_ _)); refine blk_put (cs := #[.int .i64 (wrap64 (a2)), .int .i64 (wrap64 (a1)), .int .i64 0, .int .i64 0, .int .i64 (wrap64 ((wrap64 (a6)) + (wrap64 (a7))))]) ?_ 1 _ rfl; (with_reducible repeat (first | refine blk_drewN ?_ _ | refine blk_drew ?_ | refine blk_alloc ?_ _)); refine blk_put (cs := #[.int .i64 (wrap64 (a0)), .int .i64 (wrap64 (a1)), .int .i64 0, .int .i64 0, .int .i64 (wrap64 ((wrap64 (a6)) + (wrap64 (a7))))]) ?_ 0 _ rfl; (with_reducible repeat (first | refine blk_drewN ?_ _ | refine blk_drew ?_ | refine blk_alloc ?_ _)); refine blk_far ?_ NB192_191.out _; (with_reducible repeat (first | refine blk_drewN ?_ _ | refine blk_drew ?_ | refine blk_alloc ?_ _)); refine blk_far ?_ NB192_191.out _; (with_reducible repeat (first | refine blk_drewN ?_ _ | refine blk_drew ?_ | refine blk_alloc ?_ _)); refine blk_far ?_ NB192_191.out _; (with_reducible repeat (first | refine blk_drewN ?_ _ | refine blk_drew ?_ | refine blk_alloc ?_ _)); refine blk_far ?_ NB192_191.out _; (with_reducible repeat (first | refine blk_drewN ?_ _ | refine blk_drew ?_ | refine blk_alloc ?_ _)); refine blk_far ?_ NB192_191.out _; (with_reducible repeat (first | refine blk_drewN ?_ _ | refine blk_drew ?_ | refine blk_alloc ?_ _)); exact BK192.out⟩
      have n4_ : Aside0 (Below w.heap.size w ((((((((((w52.setCell ⟨gb191, 0, none⟩ (.int .i64 (wrap64 (a0)))).setCell ⟨gb191, 1, none⟩ (.int .i64 (wrap64 (a1)))).setCell ⟨gb191, 2, none⟩ (.int .i64 0)).setCell ⟨gb191, 3, none⟩ (.int .i64 0)).setCell ⟨gb191, 4, none⟩ (.int .i64 (wrap64 (a6)))).setCell ⟨gb192, 0, none⟩ (.int .i64 (wrap64 (a2)))).setCell ⟨gb192, 1, none⟩ (.int .i64 (wrap64 (a3)))).setCell ⟨gb192, 2, none⟩ (.int .i64 0)).setCell ⟨gb192, 3, none⟩ (.int .i64 0)).setCell ⟨gb192, 4, none⟩ (.int .i64 (wrap64 ((wrap64 (a6)) + (wrap64 (a7))))))) := ⟨by repeat (first | (with_reducible first | exact HB.out | apply below_alloc | apply pw_below_drewN | apply below_drew1 | refine below_set ?_ GE188.out | refine below_set ?_ GE189.out | refine below_set ?_ GE191.out | refine below_set ?_ GE192.out) | exact HB.out)⟩
      (try clear BK188)
      (try clear BK189)
      (try clear BK191)
      (try clear BK192)
      (try clear HB)
      generalize ((((((((((w52.setCell ⟨gb191, 0, none⟩ (.int .i64 (wrap64 (a0)))).setCell ⟨gb191, 1, none⟩ (.int .i64 (wrap64 (a1)))).setCell ⟨gb191, 2, none⟩ (.int .i64 0)).setCell ⟨gb191, 3, none⟩ (.int .i64 0)).setCell ⟨gb191, 4, none⟩ (.int .i64 (wrap64 (a6)))).setCell ⟨gb192, 0, none⟩ (.int .i64 (wrap64 (a2)))).setCell ⟨gb192, 1, none⟩ (.int .i64 (wrap64 (a3)))).setCell ⟨gb192, 2, none⟩ (.int .i64 0)).setCell ⟨gb192, 3, none⟩ (.int .i64 0)).setCell ⟨gb192, 4, none⟩ (.int .i64 (wrap64 ((wrap64 (a6)) + (wrap64 (a7)))))) = w63 at n0_ n1_ n2_ n3_ n4_ ⊢
      have BK188 := n0_
      have BK189 := n1_
      have BK191 := n2_
      have BK192 := n3_
      have HB := n4_
      clear n0_ n1_ n2_ n3_ n4_
      have n0_ := Aside0.mk (blk_drew BK188.out)
      have n1_ := Aside0.mk (blk_drew BK189.out)
      have n2_ := Aside0.mk (blk_drew BK191.out)
      have n3_ := Aside0.mk (blk_drew BK192.out)
      have n4_ := Aside0.mk (below_drew1 HB.out)
      clear BK188
      clear BK189
      clear BK191
      clear BK192
      clear HB
      have BK188 := n0_
      have BK189 := n1_
      have BK191 := n2_
      have BK192 := n3_
      have HB := n4_
      clear n0_ n1_ n2_ n3_ n4_
      refine start_ (n := 28) (S := fun w' => w'.cell? ⟨gb188, 0, none⟩ = some (.int .i64 (wrap64 (a0))) ∧ w'.cell? ⟨gb188, 1, none⟩ = some (.int .i64 (wrap64 (a1))) ∧ w'.cell? ⟨gb188, 2, none⟩ = some (.int .i64 0) ∧ w'.cell? ⟨gb188, 3, none⟩ = some (.int .i64 0) ∧ w'.cell? ⟨gb188, 4, none⟩ = some (.int .i64 (wrap64 (a6))) ∧ w'.cell? ⟨gb189, 0, none⟩ = some (.int .i64 (wrap64 (a2))) ∧ w'.cell? ⟨gb189, 1, none⟩ = some (.int .i64 (wrap64 (a3))) ∧ w'.cell? ⟨gb189, 2, none⟩ = some (.int .i64 0) ∧ w'.cell? ⟨gb189, 3, none⟩ = some (.int .i64 0) ∧ w'.cell? ⟨gb189, 4, none⟩ = some (.int .i64 (wrap64 ((wrap64 (a6)) + (wrap64 (a7)))))) (ds := []) #[false, false, false, false, false, false, false, false, false, false, false, false, false, false, false, false, false, false, false, false, false, false, false, false, false, false, false, false] (by kernel_rfl) rfl rfl ⟨(blk_cell BK188.out 0).trans rfl, (blk_cell BK188.out 1).trans rfl, (blk_cell BK188.out 2).trans rfl, (blk_cell BK188.out 3).trans rfl, (blk_cell BK188.out 4).trans rfl, (blk_cell BK189.out 0).trans rfl, (blk_cell BK189.out 1).trans rfl, (blk_cell BK189.out 2).trans rfl, (blk_cell BK189.out 3).trans rfl, (blk_cell BK189.out 4).trans rfl⟩ (fun hHeld => ?_); refine with_tabW imageeditorlaw26_DynamicsMoves.tab9 imageeditorlaw26_DynamicsMoves.bits9 (fun HT_ HW_ => ?_)
      generalize w63.drew = w64 at BK188 BK189 BK191 BK192 HB hHeld ⊢
      refine pure_ (i := 0) (N := some 69) (v := ?_) (a' := ?_) #[true, false, false, false, false, false, false, false, false, false, false, false, false, false, false, false, false, false, false, false, false, false, false, false, false, false, false, false] rfl rfl (any_of HT_.out (by kernel_rfl)) (fun _ _ _ h => h) (Or.inl ⟨by rfl, ?_⟩) ?_ ?_
      rotate_left
      · intro w'
        go_simp
        with_reducible rfl
      rotate_left
      · simp only [Act.put, List.setIfInBounds_toArray, List.set_cons_zero, List.set_cons_succ, i64_w, i32_w]
        rfl
      refine pure_ (i := 2) (N := some 71) (v := ?_) (a' := ?_) #[true, false, true, false, false, false, false, false, false, false, false, false, false, false, false, false, false, false, false, false, false, false, false, false, false, false, false, false] rfl rfl (any_of HT_.out (by kernel_rfl)) (fun _ _ _ h => h) (Or.inl ⟨by rfl, ?_⟩) ?_ ?_
      rotate_left
      · intro w'
        go_simp
        with_reducible rfl
      rotate_left
      · simp only [Act.put, List.setIfInBounds_toArray, List.set_cons_zero, List.set_cons_succ, i64_w, i32_w]
        rfl
      refine pure_ (i := 3) (N := some 72) (v := ?_) (a' := ?_) #[true, false, true, true, false, false, false, false, false, false, false, false, false, false, false, false, false, false, false, false, false, false, false, false, false, false, false, false] rfl rfl (any_of HT_.out (by kernel_rfl)) (fun _ _ _ h => h) (Or.inl ⟨by rfl, ?_⟩) ?_ ?_
      rotate_left
      · intro w'
        go_simp
        with_reducible rfl
      rotate_left
      · simp only [Act.put, List.setIfInBounds_toArray, List.set_cons_zero, List.set_cons_succ, i64_w, i32_w]
        rfl
      refine pure_ (i := 5) (N := some 74) (v := ?_) (a' := ?_) #[true, false, true, true, false, true, false, false, false, false, false, false, false, false, false, false, false, false, false, false, false, false, false, false, false, false, false, false] rfl rfl (any_of HT_.out (by kernel_rfl)) (fun _ _ _ h => h) (Or.inl ⟨by rfl, ?_⟩) ?_ ?_
      rotate_left
      · intro w'
        go_simp
        with_reducible rfl
      rotate_left
      · simp only [Act.put, List.setIfInBounds_toArray, List.set_cons_zero, List.set_cons_succ, i64_w, i32_w]
        rfl
      refine pure_ (i := 7) (N := some 76) (v := ?_) (a' := ?_) #[true, false, true, true, false, true, false, true, false, false, false, false, false, false, false, false, false, false, false, false, false, false, false, false, false, false, false, false] rfl rfl (any_of HT_.out (by kernel_rfl)) (fun _ _ _ h => h) (Or.inl ⟨by rfl, ?_⟩) ?_ ?_
      rotate_left
      · intro w'
        go_simp
        with_reducible rfl
      rotate_left
      · simp only [Act.put, List.setIfInBounds_toArray, List.set_cons_zero, List.set_cons_succ, i64_w, i32_w]
        rfl
      refine pure_ (i := 8) (N := some 77) (v := ?_) (a' := ?_) #[true, false, true, true, false, true, false, true, true, false, false, false, false, false, false, false, false, false, false, false, false, false, false, false, false, false, false, false] rfl rfl (any_of HT_.out (by kernel_rfl)) (fun _ _ _ h => h) (Or.inl ⟨by rfl, ?_⟩) ?_ ?_
      rotate_left
      · intro w'
        go_simp
        with_reducible rfl
      rotate_left
      · simp only [Act.put, List.setIfInBounds_toArray, List.set_cons_zero, List.set_cons_succ, i64_w, i32_w]
        rfl
      refine pure_ (i := 10) (N := some 79) (v := ?_) (a' := ?_) #[true, false, true, true, false, true, false, true, true, false, true, false, false, false, false, false, false, false, false, false, false, false, false, false, false, false, false, false] rfl rfl (any_of HT_.out (by kernel_rfl)) (fun _ _ _ h => h) (Or.inl ⟨by rfl, ?_⟩) ?_ ?_
      rotate_left
      · intro w'
        go_simp
        with_reducible rfl
      rotate_left
      · simp only [Act.put, List.setIfInBounds_toArray, List.set_cons_zero, List.set_cons_succ, i64_w, i32_w]
        rfl
      refine pure_ (i := 12) (N := some 81) (v := ?_) (a' := ?_) #[true, false, true, true, false, true, false, true, true, false, true, false, true, false, false, false, false, false, false, false, false, false, false, false, false, false, false, false] rfl rfl (any_of HT_.out (by kernel_rfl)) (fun _ _ _ h => h) (Or.inl ⟨by rfl, ?_⟩) ?_ ?_
      rotate_left
      · intro w'
        go_simp
        with_reducible rfl
      rotate_left
      · simp only [Act.put, List.setIfInBounds_toArray, List.set_cons_zero, List.set_cons_succ, i64_w, i32_w]
        rfl
      refine pure_ (i := 13) (N := some 82) (v := ?_) (a' := ?_) #[true, false, true, true, false, true, false, true, true, false, true, false, true, true, false, false, false, false, false, false, false, false, false, false, false, false, false, false] rfl rfl (any_of HT_.out (by kernel_rfl)) (fun _ _ _ h => h) (Or.inl ⟨by rfl, ?_⟩) ?_ ?_
      rotate_left
      · intro w'
        go_simp
        with_reducible rfl
      rotate_left
      · simp only [Act.put, List.setIfInBounds_toArray, List.set_cons_zero, List.set_cons_succ, i64_w, i32_w]
        rfl
      refine pure_ (i := 15) (N := some 84) (v := ?_) (a' := ?_) #[true, false, true, true, false, true, false, true, true, false, true, false, true, true, false, true, false, false, false, false, false, false, false, false, false, false, false, false] rfl rfl (any_of HT_.out (by kernel_rfl)) (fun _ _ _ h => h) (Or.inl ⟨by rfl, ?_⟩) ?_ ?_
      rotate_left
      · intro w'
        go_simp
        with_reducible rfl
      rotate_left
      · simp only [Act.put, List.setIfInBounds_toArray, List.set_cons_zero, List.set_cons_succ, i64_w, i32_w]
        rfl
      refine pure_ (i := 17) (N := some 86) (v := ?_) (a' := ?_) #[true, false, true, true, false, true, false, true, true, false, true, false, true, true, false, true, false, true, false, false, false, false, false, false, false, false, false, false] rfl rfl (any_of HT_.out (by kernel_rfl)) (fun _ _ _ h => h) (Or.inl ⟨by rfl, ?_⟩) ?_ ?_
      rotate_left
      · intro w'
        go_simp
        with_reducible rfl
      rotate_left
      · simp only [Act.put, List.setIfInBounds_toArray, List.set_cons_zero, List.set_cons_succ, i64_w, i32_w]
        rfl
      refine pure_ (i := 18) (N := some 87) (v := ?_) (a' := ?_) #[true, false, true, true, false, true, false, true, true, false, true, false, true, true, false, true, false, true, true, false, false, false, false, false, false, false, false, false] rfl rfl (any_of HT_.out (by kernel_rfl)) (fun _ _ _ h => h) (Or.inl ⟨by rfl, ?_⟩) ?_ ?_
      rotate_left
      · intro w'
        go_simp
        with_reducible rfl
      rotate_left
      · simp only [Act.put, List.setIfInBounds_toArray, List.set_cons_zero, List.set_cons_succ, i64_w, i32_w]
        rfl
      refine take_ (i := 1) (N := some 70) (v := ?_) (a' := ?_) #[true, true, true, true, false, true, false, true, true, false, true, false, true, true, false, true, false, true, true, false, false, false, false, false, false, false, false, false] rfl rfl (take_ofW HT_.out HW_.out (by kernel_rfl)) (fun _ _ _ h => h) (Or.inl ⟨by rfl, ?_⟩) hHeld ?_ ?_
      rotate_left
      · rintro w' ⟨s0, s1, s2, s3, s4, s5, s6, s7, s8, s9⟩
        go_simp
        with_reducible rfl
      rotate_left
      · simp only [Act.put, List.setIfInBounds_toArray, List.set_cons_zero, List.set_cons_succ, i64_w, i32_w]
        rfl
      refine pure_ (i := 4) (N := some 73) (v := ?_) (a' := ?_) #[true, true, true, true, true, true, false, true, true, false, true, false, true, true, false, true, false, true, true, false, false, false, false, false, false, false, false, false] rfl rfl (any_of HT_.out (by kernel_rfl)) (fun _ _ _ h => h) (Or.inl ⟨by rfl, ?_⟩) ?_ ?_
      rotate_left
      · intro w'
        go_simp
        with_reducible rfl
      rotate_left
      · simp only [Act.put, List.setIfInBounds_toArray, List.set_cons_zero, List.set_cons_succ, i64_w, i32_w]
        rfl
      refine pure_ (i := 20) (N := some 89) (v := ?_) (a' := ?_) #[true, true, true, true, true, true, false, true, true, false, true, false, true, true, false, true, false, true, true, false, true, false, false, false, false, false, false, false] rfl rfl (any_of HT_.out (by kernel_rfl)) (fun _ _ _ h => h) (Or.inl ⟨by rfl, ?_⟩) ?_ ?_
      rotate_left
      · intro w'
        go_simp
        with_reducible rfl
      rotate_left
      · simp only [Act.put, List.setIfInBounds_toArray, List.set_cons_zero, List.set_cons_succ, i64_w, i32_w]
        rfl
      refine take_ (i := 6) (N := some 75) (v := ?_) (a' := ?_) #[true, true, true, true, true, true, true, true, true, false, true, false, true, true, false, true, false, true, true, false, true, false, false, false, false, false, false, false] rfl rfl (take_ofW HT_.out HW_.out (by kernel_rfl)) (fun _ _ _ h => h) (Or.inl ⟨by rfl, ?_⟩) hHeld ?_ ?_
      rotate_left
      · rintro w' ⟨s0, s1, s2, s3, s4, s5, s6, s7, s8, s9⟩
        go_simp
        with_reducible rfl
      rotate_left
      · simp only [Act.put, List.setIfInBounds_toArray, List.set_cons_zero, List.set_cons_succ, i64_w, i32_w]
        rfl
      refine pure_ (i := 9) (N := some 78) (v := ?_) (a' := ?_) #[true, true, true, true, true, true, true, true, true, true, true, false, true, true, false, true, false, true, true, false, true, false, false, false, false, false, false, false] rfl rfl (any_of HT_.out (by kernel_rfl)) (fun _ _ _ h => h) (Or.inl ⟨by rfl, ?_⟩) ?_ ?_
      rotate_left
      · intro w'
        go_simp
        with_reducible rfl
      rotate_left
      · simp only [Act.put, List.setIfInBounds_toArray, List.set_cons_zero, List.set_cons_succ, i64_w, i32_w]
        rfl
      refine take_ (i := 11) (N := some 80) (v := ?_) (a' := ?_) #[true, true, true, true, true, true, true, true, true, true, true, true, true, true, false, true, false, true, true, false, true, false, false, false, false, false, false, false] rfl rfl (take_ofW HT_.out HW_.out (by kernel_rfl)) (fun _ _ _ h => h) (Or.inl ⟨by rfl, ?_⟩) hHeld ?_ ?_
      rotate_left
      · rintro w' ⟨s0, s1, s2, s3, s4, s5, s6, s7, s8, s9⟩
        go_simp
        with_reducible rfl
      rotate_left
      · simp only [Act.put, List.setIfInBounds_toArray, List.set_cons_zero, List.set_cons_succ, i64_w, i32_w]
        rfl
      refine pure_ (i := 14) (N := some 83) (v := ?_) (a' := ?_) #[true, true, true, true, true, true, true, true, true, true, true, true, true, true, true, true, false, true, true, false, true, false, false, false, false, false, false, false] rfl rfl (any_of HT_.out (by kernel_rfl)) (fun _ _ _ h => h) (Or.inl ⟨by rfl, ?_⟩) ?_ ?_
      rotate_left
      · intro w'
        go_simp
        with_reducible rfl
      rotate_left
      · simp only [Act.put, List.setIfInBounds_toArray, List.set_cons_zero, List.set_cons_succ, i64_w, i32_w]
        rfl
      refine take_ (i := 16) (N := some 85) (v := ?_) (a' := ?_) #[true, true, true, true, true, true, true, true, true, true, true, true, true, true, true, true, true, true, true, false, true, false, false, false, false, false, false, false] rfl rfl (take_ofW HT_.out HW_.out (by kernel_rfl)) (fun _ _ _ h => h) (Or.inl ⟨by rfl, ?_⟩) hHeld ?_ ?_
      rotate_left
      · rintro w' ⟨s0, s1, s2, s3, s4, s5, s6, s7, s8, s9⟩
        go_simp
        with_reducible rfl
      rotate_left
      · simp only [Act.put, List.setIfInBounds_toArray, List.set_cons_zero, List.set_cons_succ, i64_w, i32_w]
        rfl
      refine pure_ (i := 19) (N := some 88) (v := ?_) (a' := ?_) #[true, true, true, true, true, true, true, true, true, true, true, true, true, true, true, true, true, true, true, true, true, false, false, false, false, false, false, false] rfl rfl (any_of HT_.out (by kernel_rfl)) (fun _ _ _ h => h) (Or.inl ⟨by rfl, ?_⟩) ?_ ?_
      rotate_left
      · intro w'
        go_simp
        with_reducible rfl
      rotate_left
      · simp only [Act.put, List.setIfInBounds_toArray, List.set_cons_zero, List.set_cons_succ, i64_w, i32_w]
        rfl
      refine one_ (i := 21) (N := none) #[true, true, true, true, true, true, true, true, true, true, true, true, true, true, true, true, true, true, true, true, true, true, false, false, false, false, false, false] rfl rfl (one_of HT_.out (by kernel_rfl)) (by decide) (fun K hK => ?_)
      have hs65 : w64.cell? ⟨gb191, 0, none⟩ = some (.int .i64 (wrap64 (a0))) := (blk_cell BK191.out 0).trans rfl
      have hfs65 := blk_frozen BK191.out 0
      have hns65_0 := NB188_191.out
      have hns65_1 := NB189_191.out
      have hns65_3 := NB192_191.out
      have hms65_0 := NB191_188.out
      have hms65_1 := NB191_189.out
      have hms65_3 := NB191_192.out
      refine skip_ (w1 := ?_) (by rfl) rfl ?_ ?_
      rotate_left
      · go_simp
        rfl
      refine hK.out _ _ ⟨((cell_far (p := ⟨gb191, _, none⟩) NB188_191.out _).trans (hHeld.1)), ((cell_far (p := ⟨gb191, _, none⟩) NB188_191.out _).trans (hHeld.2.1)), ((cell_far (p := ⟨gb191, _, none⟩) NB188_191.out _).trans (hHeld.2.2.1)), ((cell_far (p := ⟨gb191, _, none⟩) NB188_191.out _).trans (hHeld.2.2.2.1)), ((cell_far (p := ⟨gb191, _, none⟩) NB188_191.out _).trans (hHeld.2.2.2.2.1)), ((cell_far (p := ⟨gb191, _, none⟩) NB189_191.out _).trans (hHeld.2.2.2.2.2.1)), ((cell_far (p := ⟨gb191, _, none⟩) NB189_191.out _).trans (hHeld.2.2.2.2.2.2.1)), ((cell_far (p := ⟨gb191, _, none⟩) NB189_191.out _).trans (hHeld.2.2.2.2.2.2.2.1)), ((cell_far (p := ⟨gb191, _, none⟩) NB189_191.out _).trans (hHeld.2.2.2.2.2.2.2.2.1)), ((cell_far (p := ⟨gb191, _, none⟩) NB189_191.out _).trans (hHeld.2.2.2.2.2.2.2.2.2))⟩ (fun hHeld => ?_)
      clear hK K
      refine pure_ (i := 22) (N := some 90) (v := ?_) (a' := ?_) #[true, true, true, true, true, true, true, true, true, true, true, true, true, true, true, true, true, true, true, true, true, true, true, false, false, false, false, false] rfl rfl (any_of HT_.out (by kernel_rfl)) (fun _ _ _ h => h) (Or.inl ⟨by rfl, ?_⟩) ?_ ?_
      rotate_left
      · intro w'
        go_simp
        with_reducible rfl
      rotate_left
      · simp only [Act.put, List.setIfInBounds_toArray, List.set_cons_zero, List.set_cons_succ, i64_w, i32_w]
        rfl
      refine one_ (i := 23) (N := none) #[true, true, true, true, true, true, true, true, true, true, true, true, true, true, true, true, true, true, true, true, true, true, true, true, false, false, false, false] rfl rfl (one_of HT_.out (by kernel_rfl)) (by decide) (fun K hK => ?_)
      have hs66 : w64.cell? ⟨gb191, 1, none⟩ = some (.int .i64 (wrap64 (a1))) := (blk_cell BK191.out 1).trans rfl
      have hfs66 := blk_frozen BK191.out 1
      have hns66_0 := NB188_191.out
      have hns66_1 := NB189_191.out
      have hns66_3 := NB192_191.out
      have hms66_0 := NB191_188.out
      have hms66_1 := NB191_189.out
      have hms66_3 := NB191_192.out
      refine skip_ (w1 := ?_) (by rfl) rfl ?_ ?_
      rotate_left
      · go_simp
        rfl
      refine hK.out _ _ ⟨((cell_far (p := ⟨gb191, _, none⟩) NB188_191.out _).trans (hHeld.1)), ((cell_far (p := ⟨gb191, _, none⟩) NB188_191.out _).trans (hHeld.2.1)), ((cell_far (p := ⟨gb191, _, none⟩) NB188_191.out _).trans (hHeld.2.2.1)), ((cell_far (p := ⟨gb191, _, none⟩) NB188_191.out _).trans (hHeld.2.2.2.1)), ((cell_far (p := ⟨gb191, _, none⟩) NB188_191.out _).trans (hHeld.2.2.2.2.1)), ((cell_far (p := ⟨gb191, _, none⟩) NB189_191.out _).trans (hHeld.2.2.2.2.2.1)), ((cell_far (p := ⟨gb191, _, none⟩) NB189_191.out _).trans (hHeld.2.2.2.2.2.2.1)), ((cell_far (p := ⟨gb191, _, none⟩) NB189_191.out _).trans (hHeld.2.2.2.2.2.2.2.1)), ((cell_far (p := ⟨gb191, _, none⟩) NB189_191.out _).trans (hHeld.2.2.2.2.2.2.2.2.1)), ((cell_far (p := ⟨gb191, _, none⟩) NB189_191.out _).trans (hHeld.2.2.2.2.2.2.2.2.2))⟩ (fun hHeld => ?_)
      clear hK K
      refine pure_ (i := 24) (N := some 91) (v := ?_) (a' := ?_) #[true, true, true, true, true, true, true, true, true, true, true, true, true, true, true, true, true, true, true, true, true, true, true, true, true, false, false, false] rfl rfl (any_of HT_.out (by kernel_rfl)) (fun _ _ _ h => h) (Or.inl ⟨by rfl, ?_⟩) ?_ ?_
      rotate_left
      · intro w'
        go_simp
        with_reducible rfl
      rotate_left
      · simp only [Act.put, List.setIfInBounds_toArray, List.set_cons_zero, List.set_cons_succ, i64_w, i32_w]
        rfl
      refine one_ (i := 25) (N := none) #[true, true, true, true, true, true, true, true, true, true, true, true, true, true, true, true, true, true, true, true, true, true, true, true, true, true, false, false] rfl rfl (one_of HT_.out (by kernel_rfl)) (by decide) (fun K hK => ?_)
      have hs67 : w64.cell? ⟨gb192, 0, none⟩ = some (.int .i64 (wrap64 (a2))) := (blk_cell BK192.out 0).trans rfl
      have hfs67 := blk_frozen BK192.out 0
      have hns67_0 := NB188_192.out
      have hns67_1 := NB189_192.out
      have hns67_2 := NB191_192.out
      have hms67_0 := NB192_188.out
      have hms67_1 := NB192_189.out
      have hms67_2 := NB192_191.out
      refine skip_ (w1 := ?_) (by rfl) rfl ?_ ?_
      rotate_left
      · go_simp
        rfl
      refine hK.out _ _ ⟨((cell_far (p := ⟨gb192, _, none⟩) NB188_192.out _).trans (hHeld.1)), ((cell_far (p := ⟨gb192, _, none⟩) NB188_192.out _).trans (hHeld.2.1)), ((cell_far (p := ⟨gb192, _, none⟩) NB188_192.out _).trans (hHeld.2.2.1)), ((cell_far (p := ⟨gb192, _, none⟩) NB188_192.out _).trans (hHeld.2.2.2.1)), ((cell_far (p := ⟨gb192, _, none⟩) NB188_192.out _).trans (hHeld.2.2.2.2.1)), ((cell_far (p := ⟨gb192, _, none⟩) NB189_192.out _).trans (hHeld.2.2.2.2.2.1)), ((cell_far (p := ⟨gb192, _, none⟩) NB189_192.out _).trans (hHeld.2.2.2.2.2.2.1)), ((cell_far (p := ⟨gb192, _, none⟩) NB189_192.out _).trans (hHeld.2.2.2.2.2.2.2.1)), ((cell_far (p := ⟨gb192, _, none⟩) NB189_192.out _).trans (hHeld.2.2.2.2.2.2.2.2.1)), ((cell_far (p := ⟨gb192, _, none⟩) NB189_192.out _).trans (hHeld.2.2.2.2.2.2.2.2.2))⟩ (fun hHeld => ?_)
      clear hK K
      refine pure_ (i := 26) (N := some 92) (v := ?_) (a' := ?_) #[true, true, true, true, true, true, true, true, true, true, true, true, true, true, true, true, true, true, true, true, true, true, true, true, true, true, true, false] rfl rfl (any_of HT_.out (by kernel_rfl)) (fun _ _ _ h => h) (Or.inl ⟨by rfl, ?_⟩) ?_ ?_
      rotate_left
      · intro w'
        go_simp
        with_reducible rfl
      rotate_left
      · simp only [Act.put, List.setIfInBounds_toArray, List.set_cons_zero, List.set_cons_succ, i64_w, i32_w]
        rfl
      refine one_ (i := 27) (N := none) #[true, true, true, true, true, true, true, true, true, true, true, true, true, true, true, true, true, true, true, true, true, true, true, true, true, true, true, true] rfl rfl (one_of HT_.out (by kernel_rfl)) (by decide) (fun K hK => ?_)
      have hs68 : w64.cell? ⟨gb192, 1, none⟩ = some (.int .i64 (wrap64 (a3))) := (blk_cell BK192.out 1).trans rfl
      have hfs68 := blk_frozen BK192.out 1
      have hns68_0 := NB188_192.out
      have hns68_1 := NB189_192.out
      have hns68_2 := NB191_192.out
      have hms68_0 := NB192_188.out
      have hms68_1 := NB192_189.out
      have hms68_2 := NB192_191.out
      refine skip_ (w1 := ?_) (by rfl) rfl ?_ ?_
      rotate_left
      · go_simp
        rfl
      refine hK.out _ _ ⟨((cell_far (p := ⟨gb192, _, none⟩) NB188_192.out _).trans (hHeld.1)), ((cell_far (p := ⟨gb192, _, none⟩) NB188_192.out _).trans (hHeld.2.1)), ((cell_far (p := ⟨gb192, _, none⟩) NB188_192.out _).trans (hHeld.2.2.1)), ((cell_far (p := ⟨gb192, _, none⟩) NB188_192.out _).trans (hHeld.2.2.2.1)), ((cell_far (p := ⟨gb192, _, none⟩) NB188_192.out _).trans (hHeld.2.2.2.2.1)), ((cell_far (p := ⟨gb192, _, none⟩) NB189_192.out _).trans (hHeld.2.2.2.2.2.1)), ((cell_far (p := ⟨gb192, _, none⟩) NB189_192.out _).trans (hHeld.2.2.2.2.2.2.1)), ((cell_far (p := ⟨gb192, _, none⟩) NB189_192.out _).trans (hHeld.2.2.2.2.2.2.2.1)), ((cell_far (p := ⟨gb192, _, none⟩) NB189_192.out _).trans (hHeld.2.2.2.2.2.2.2.2.1)), ((cell_far (p := ⟨gb192, _, none⟩) NB189_192.out _).trans (hHeld.2.2.2.2.2.2.2.2.2))⟩ (fun hHeld => ?_)
      clear hK K
      refine done_ (done_of HT_.out (by kernel_rfl)) ?_
      try go_wp2
      have n0_ : Aside0 (((((w64.setCell ⟨gb191, 0, none⟩ (.int .i64 (wrap64 ((wrap64 (a0)) + (wrap64 (a4)))))).setCell ⟨gb191, 1, none⟩ (.int .i64 (wrap64 ((wrap64 (a1)) + (wrap64 (a5)))))).setCell ⟨gb192, 0, none⟩ (.int .i64 (wrap64 ((wrap64 (a2)) + (wrap64 (a4)))))).setCell ⟨gb192, 1, none⟩ (.int .i64 (wrap64 ((wrap64 (a3)) + (wrap64 (a5)))))).heap[gb188]? = some (.cells #[.int .i64 (wrap64 (a0)), .int .i64 (wrap64 (a1)), .int .i64 0, .int .i64 0, .int .i64 (wrap64 (a6))] 47 (0, 0))) := ⟨by (with_reducible repeat (first | refine blk_drewN ?_ _ | refine blk_drew ?_ | refine blk_alloc ?_ _)); refine blk_far ?_ NB188_192.out _; (with_reducible repeat (first | refine blk_drewN ?_ _ | refine blk_drew ?_ | refine blk_alloc ?_ _)); refine blk_far ?_ NB188_192.out _; (with_reducible repeat (first | refine blk_drewN ?_ _ | refine blk_drew ?_ | refine blk_alloc ?_ _)); refine blk_far ?_ NB188_191.out _; (with_reducible repeat (first | refine blk_drewN ?_ _ | refine blk_drew ?_ | refine blk_alloc ?_ _)); refine blk_far ?_ NB188_191.out _; (with_reducible repeat (first | refine blk_drewN ?_ _ | refine blk_drew ?_ | refine blk_alloc ?_ _)); exact BK188.out⟩
      have n1_ : Aside0 (((((w64.setCell ⟨gb191, 0, none⟩ (.int .i64 (wrap64 ((wrap64 (a0)) + (wrap64 (a4)))))).setCell ⟨gb191, 1, none⟩ (.int .i64 (wrap64 ((wrap64 (a1)) + (wrap64 (a5)))))).setCell ⟨gb192, 0, none⟩ (.int .i64 (wrap64 ((wrap64 (a2)) + (wrap64 (a4)))))).setCell ⟨gb192, 1, none⟩ (.int .i64 (wrap64 ((wrap64 (a3)) + (wrap64 (a5)))))).heap[gb189]? = some (.cells #[.int .i64 (wrap64 (a2)), .int .i64 (wrap64 (a3)), .int .i64 0, .int .i64 0, .int .i64 (wrap64 ((wrap64 (a6)) + (wrap64 (a7))))] 47 (0, 0))) := ⟨by (with_reducible repeat (first | refine blk_drewN ?_ _ | refine blk_drew ?_ | refine blk_alloc ?_ _)); refine blk_far ?_ NB189_192.out _; (with_reducible repeat (first | refine blk_drewN ?_ _ | refine blk_drew ?_ | refine blk_alloc ?_ _)); refine blk_far ?_ NB189_192.out _; (with_reducible repeat (first | refine blk_drewN ?_ _ | refine blk_drew ?_ | refine blk_alloc ?_ _)); refine blk_far ?_ NB189_191.out _; (with_reducible repeat (first | refine blk_drewN ?_ _ | refine blk_drew ?_ | refine blk_alloc ?_ _)); refine blk_far ?_ NB189_191.out _; (with_reducible repeat (first | refine blk_drewN ?_ _ | refine blk_drew ?_ | refine blk_alloc ?_ _)); exact BK189.out⟩
      have n2_ : Aside0 (((((w64.setCell ⟨gb191, 0, none⟩ (.int .i64 (wrap64 ((wrap64 (a0)) + (wrap64 (a4)))))).setCell ⟨gb191, 1, none⟩ (.int .i64 (wrap64 ((wrap64 (a1)) + (wrap64 (a5)))))).setCell ⟨gb192, 0, none⟩ (.int .i64 (wrap64 ((wrap64 (a2)) + (wrap64 (a4)))))).setCell ⟨gb192, 1, none⟩ (.int .i64 (wrap64 ((wrap64 (a3)) + (wrap64 (a5)))))).heap[gb191]? = some (.cells #[.int .i64 (wrap64 ((wrap64 (a0)) + (wrap64 (a4)))), .int .i64 (wrap64 ((wrap64 (a1)) + (wrap64 (a5)))), .int .i64 0, .int .i64 0, .int .i64 (wrap64 (a6))] 47 (0, 0))) := ⟨by (with_reducible repeat (first | refine blk_drewN ?_ _ | refine blk_drew ?_ | refine blk_alloc ?_ _)); refine blk_far ?_ NB191_192.out _; (with_reducible repeat (first | refine blk_drewN ?_ _ | refine blk_drew ?_ | refine blk_alloc ?_ _)); refine blk_far ?_ NB191_192.out _; (with_reducible repeat (first | refine blk_drewN ?_ _ | refine blk_drew ?_ | refine blk_alloc ?_ _)); refine blk_put (cs := #[.int .i64 (wrap64 ((wrap64 (a0)) + (wrap64 (a4)))), .int .i64 (wrap64 (a1)), .int .i64 0, .int .i64 0, .int .i64 (wrap64 (a6))]) ?_ 1 _ rfl; (with_reducible repeat (first | refine blk_drewN ?_ _ | refine blk_drew ?_ | refine blk_alloc ?_ _)); refine blk_put (cs := #[.int .i64 (wrap64 (a0)), .int .i64 (wrap64 (a1)), .int .i64 0, .int .i64 0, .int .i64 (wrap64 (a6))]) ?_ 0 _ rfl; (with_reducible repeat (first | refine blk_drewN ?_ _ | refine blk_drew ?_ | refine blk_alloc ?_ _)); exact BK191.out⟩
      have n3_ : Aside0 (((((w64.setCell ⟨gb191, 0, none⟩ (.int .i64 (wrap64 ((wrap64 (a0)) + (wrap64 (a4)))))).setCell ⟨gb191, 1, none⟩ (.int .i64 (wrap64 ((wrap64 (a1)) + (wrap64 (a5)))))).setCell ⟨gb192, 0, none⟩ (.int .i64 (wrap64 ((wrap64 (a2)) + (wrap64 (a4)))))).setCell ⟨gb192, 1, none⟩ (.int .i64 (wrap64 ((wrap64 (a3)) + (wrap64 (a5)))))).heap[gb192]? = some (.cells #[.int .i64 (wrap64 ((wrap64 (a2)) + (wrap64 (a4)))), .int .i64 (wrap64 ((wrap64 (a3)) + (wrap64 (a5)))), .int .i64 0, .int .i64 0, .int .i64 (wrap64 ((wrap64 (a6)) + (wrap64 (a7))))] 47 (0, 0))) := ⟨by (with_reducible repeat (first | refine blk_drewN ?_ _ | refine blk_drew ?_ | refine blk_alloc ?_ _)); refine blk_put (cs := #[.int .i64 (wrap64 ((wrap64 (a2)) + (wrap64 (a4)))), .int .i64 (wrap64 (a3)), .int .i64 0, .int .i64 0, .int .i64 (wrap64 ((wrap64 (a6)) + (wrap64 (a7))))]) ?_ 1 _ rfl; (with_reducible repeat (first | refine blk_drewN ?_ _ | refine blk_drew ?_ | refine blk_alloc ?_ _)); refine blk_put (cs := #[.int .i64 (wrap64 (a2)), .int .i64 (wrap64 (a3)), .int .i64 0, .int .i64 0, .int .i64 (wrap64 ((wrap64 (a6)) + (wrap64 (a7))))]) ?_ 0 _ rfl; (with_reducible repeat (first | refine blk_drewN ?_ _ | refine blk_drew ?_ | refine blk_alloc ?_ _)); refine blk_far ?_ NB192_191.out _; (with_reducible repeat (first | refine blk_drewN ?_ _ | refine blk_drew ?_ | refine blk_alloc ?_ _)); refine blk_far ?_ NB192_191.out _; (with_reducible repeat (first | refine blk_drewN ?_ _ | refine blk_drew ?_ | refine blk_alloc ?_ _)); exact BK192.out⟩
      have n4_ : Aside0 (Below w.heap.size w ((((w64.setCell ⟨gb191, 0, none⟩ (.int .i64 (wrap64 ((wrap64 (a0)) + (wrap64 (a4)))))).setCell ⟨gb191, 1, none⟩ (.int .i64 (wrap64 ((wrap64 (a1)) + (wrap64 (a5)))))).setCell ⟨gb192, 0, none⟩ (.int .i64 (wrap64 ((wrap64 (a2)) + (wrap64 (a4)))))).setCell ⟨gb192, 1, none⟩ (.int .i64 (wrap64 ((wrap64 (a3)) + (wrap64 (a5))))))) := ⟨by repeat (first | (with_reducible first | exact HB.out | apply below_alloc | apply pw_below_drewN | apply below_drew1 | refine below_set ?_ GE188.out | refine below_set ?_ GE189.out | refine below_set ?_ GE191.out | refine below_set ?_ GE192.out) | exact HB.out)⟩
      (try clear BK188)
      (try clear BK189)
      (try clear BK191)
      (try clear BK192)
      (try clear HB)
      generalize ((((w64.setCell ⟨gb191, 0, none⟩ (.int .i64 (wrap64 ((wrap64 (a0)) + (wrap64 (a4)))))).setCell ⟨gb191, 1, none⟩ (.int .i64 (wrap64 ((wrap64 (a1)) + (wrap64 (a5)))))).setCell ⟨gb192, 0, none⟩ (.int .i64 (wrap64 ((wrap64 (a2)) + (wrap64 (a4)))))).setCell ⟨gb192, 1, none⟩ (.int .i64 (wrap64 ((wrap64 (a3)) + (wrap64 (a5)))))) = w69 at n0_ n1_ n2_ n3_ n4_ ⊢
      have BK188 := n0_
      have BK189 := n1_
      have BK191 := n2_
      have BK192 := n3_
      have HB := n4_
      clear n0_ n1_ n2_ n3_ n4_
      have n0_ := Aside0.mk (blk_drew BK188.out)
      have n1_ := Aside0.mk (blk_drew BK189.out)
      have n2_ := Aside0.mk (blk_drew BK191.out)
      have n3_ := Aside0.mk (blk_drew BK192.out)
      have n4_ := Aside0.mk (below_drew1 HB.out)
      clear BK188
      clear BK189
      clear BK191
      clear BK192
      clear HB
      have BK188 := n0_
      have BK189 := n1_
      have BK191 := n2_
      have BK192 := n3_
      have HB := n4_
      clear n0_ n1_ n2_ n3_ n4_
      refine start_ (n := 14) (S := fun w' => w'.cell? ⟨gb188, 0, none⟩ = some (.int .i64 (wrap64 (a0))) ∧ w'.cell? ⟨gb188, 1, none⟩ = some (.int .i64 (wrap64 (a1))) ∧ w'.cell? ⟨gb188, 2, none⟩ = some (.int .i64 0) ∧ w'.cell? ⟨gb188, 3, none⟩ = some (.int .i64 0) ∧ w'.cell? ⟨gb188, 4, none⟩ = some (.int .i64 (wrap64 (a6))) ∧ w'.cell? ⟨gb189, 0, none⟩ = some (.int .i64 (wrap64 (a2))) ∧ w'.cell? ⟨gb189, 1, none⟩ = some (.int .i64 (wrap64 (a3))) ∧ w'.cell? ⟨gb189, 2, none⟩ = some (.int .i64 0) ∧ w'.cell? ⟨gb189, 3, none⟩ = some (.int .i64 0) ∧ w'.cell? ⟨gb189, 4, none⟩ = some (.int .i64 (wrap64 ((wrap64 (a6)) + (wrap64 (a7)))))) (ds := []) #[false, false, false, false, false, false, false, false, false, false, false, false, false, false] (by kernel_rfl) rfl rfl ⟨(blk_cell BK188.out 0).trans rfl, (blk_cell BK188.out 1).trans rfl, (blk_cell BK188.out 2).trans rfl, (blk_cell BK188.out 3).trans rfl, (blk_cell BK188.out 4).trans rfl, (blk_cell BK189.out 0).trans rfl, (blk_cell BK189.out 1).trans rfl, (blk_cell BK189.out 2).trans rfl, (blk_cell BK189.out 3).trans rfl, (blk_cell BK189.out 4).trans rfl⟩ (fun hHeld => ?_); refine with_tabW imageeditorlaw26_DynamicsMoves.tab10 imageeditorlaw26_DynamicsMoves.bits10 (fun HT_ HW_ => ?_)
      generalize w69.drew = w70 at BK188 BK189 BK191 BK192 HB hHeld ⊢
      refine pure_ (i := 0) (N := some 93) (v := ?_) (a' := ?_) #[true, false, false, false, false, false, false, false, false, false, false, false, false, false] rfl rfl (any_of HT_.out (by kernel_rfl)) (fun _ _ _ h => h) (Or.inl ⟨by rfl, ?_⟩) ?_ ?_
      rotate_left
      · intro w'
        go_simp
        with_reducible rfl
      rotate_left
      · simp only [Act.put, List.setIfInBounds_toArray, List.set_cons_zero, List.set_cons_succ, i64_w, i32_w]
        rfl
      refine pure_ (i := 2) (N := some 95) (v := ?_) (a' := ?_) #[true, false, true, false, false, false, false, false, false, false, false, false, false, false] rfl rfl (any_of HT_.out (by kernel_rfl)) (fun _ _ _ h => h) (Or.inl ⟨by rfl, ?_⟩) ?_ ?_
      rotate_left
      · intro w'
        go_simp
        with_reducible rfl
      rotate_left
      · simp only [Act.put, List.setIfInBounds_toArray, List.set_cons_zero, List.set_cons_succ, i64_w, i32_w]
        rfl
      refine pure_ (i := 3) (N := some 96) (v := ?_) (a' := ?_) #[true, false, true, true, false, false, false, false, false, false, false, false, false, false] rfl rfl (any_of HT_.out (by kernel_rfl)) (fun _ _ _ h => h) (Or.inl ⟨by rfl, ?_⟩) ?_ ?_
      rotate_left
      · intro w'
        go_simp
        with_reducible rfl
      rotate_left
      · simp only [Act.put, List.setIfInBounds_toArray, List.set_cons_zero, List.set_cons_succ, i64_w, i32_w]
        rfl
      refine pure_ (i := 5) (N := some 98) (v := ?_) (a' := ?_) #[true, false, true, true, false, true, false, false, false, false, false, false, false, false] rfl rfl (any_of HT_.out (by kernel_rfl)) (fun _ _ _ h => h) (Or.inl ⟨by rfl, ?_⟩) ?_ ?_
      rotate_left
      · intro w'
        go_simp
        with_reducible rfl
      rotate_left
      · simp only [Act.put, List.setIfInBounds_toArray, List.set_cons_zero, List.set_cons_succ, i64_w, i32_w]
        rfl
      refine pure_ (i := 7) (N := some 100) (v := ?_) (a' := ?_) #[true, false, true, true, false, true, false, true, false, false, false, false, false, false] rfl rfl (any_of HT_.out (by kernel_rfl)) (fun _ _ _ h => h) (Or.inl ⟨by rfl, ?_⟩) ?_ ?_
      rotate_left
      · intro w'
        go_simp
        with_reducible rfl
      rotate_left
      · simp only [Act.put, List.setIfInBounds_toArray, List.set_cons_zero, List.set_cons_succ, i64_w, i32_w]
        rfl
      refine pure_ (i := 8) (N := some 101) (v := ?_) (a' := ?_) #[true, false, true, true, false, true, false, true, true, false, false, false, false, false] rfl rfl (any_of HT_.out (by kernel_rfl)) (fun _ _ _ h => h) (Or.inl ⟨by rfl, ?_⟩) ?_ ?_
      rotate_left
      · intro w'
        go_simp
        with_reducible rfl
      rotate_left
      · simp only [Act.put, List.setIfInBounds_toArray, List.set_cons_zero, List.set_cons_succ, i64_w, i32_w]
        rfl
      refine take_ (i := 1) (N := some 94) (v := ?_) (a' := ?_) #[true, true, true, true, false, true, false, true, true, false, false, false, false, false] rfl rfl (take_ofW HT_.out HW_.out (by kernel_rfl)) (fun _ _ _ h => h) (Or.inl ⟨by rfl, ?_⟩) hHeld ?_ ?_
      rotate_left
      · rintro w' ⟨s0, s1, s2, s3, s4, s5, s6, s7, s8, s9⟩
        go_simp
        with_reducible rfl
      rotate_left
      · simp only [Act.put, List.setIfInBounds_toArray, List.set_cons_zero, List.set_cons_succ, i64_w, i32_w]
        rfl
      refine pure_ (i := 4) (N := some 97) (v := ?_) (a' := ?_) #[true, true, true, true, true, true, false, true, true, false, false, false, false, false] rfl rfl (any_of HT_.out (by kernel_rfl)) (fun _ _ _ h => h) (Or.inl ⟨by rfl, ?_⟩) ?_ ?_
      rotate_left
      · intro w'
        go_simp
        with_reducible rfl
      rotate_left
      · simp only [Act.put, List.setIfInBounds_toArray, List.set_cons_zero, List.set_cons_succ, i64_w, i32_w]
        rfl
      refine pure_ (i := 10) (N := some 103) (v := ?_) (a' := ?_) #[true, true, true, true, true, true, false, true, true, false, true, false, false, false] rfl rfl (any_of HT_.out (by kernel_rfl)) (fun _ _ _ h => h) (Or.inl ⟨by rfl, ?_⟩) ?_ ?_
      rotate_left
      · intro w'
        go_simp
        with_reducible rfl
      rotate_left
      · simp only [Act.put, List.setIfInBounds_toArray, List.set_cons_zero, List.set_cons_succ, i64_w, i32_w]
        rfl
      refine take_ (i := 6) (N := some 99) (v := ?_) (a' := ?_) #[true, true, true, true, true, true, true, true, true, false, true, false, false, false] rfl rfl (take_ofW HT_.out HW_.out (by kernel_rfl)) (fun _ _ _ h => h) (Or.inl ⟨by rfl, ?_⟩) hHeld ?_ ?_
      rotate_left
      · rintro w' ⟨s0, s1, s2, s3, s4, s5, s6, s7, s8, s9⟩
        go_simp
        with_reducible rfl
      rotate_left
      · simp only [Act.put, List.setIfInBounds_toArray, List.set_cons_zero, List.set_cons_succ, i64_w, i32_w]
        rfl
      refine pure_ (i := 9) (N := some 102) (v := ?_) (a' := ?_) #[true, true, true, true, true, true, true, true, true, true, true, false, false, false] rfl rfl (any_of HT_.out (by kernel_rfl)) (fun _ _ _ h => h) (Or.inl ⟨by rfl, ?_⟩) ?_ ?_
      rotate_left
      · intro w'
        go_simp
        with_reducible rfl
      rotate_left
      · simp only [Act.put, List.setIfInBounds_toArray, List.set_cons_zero, List.set_cons_succ, i64_w, i32_w]
        rfl
      refine one_ (i := 11) (N := none) #[true, true, true, true, true, true, true, true, true, true, true, true, false, false] rfl rfl (one_of HT_.out (by kernel_rfl)) (by decide) (fun K hK => ?_)
      have hs71 : w70.cell? ⟨gb191, 4, none⟩ = some (.int .i64 (wrap64 (a6))) := (blk_cell BK191.out 4).trans rfl
      have hfs71 := blk_frozen BK191.out 4
      have hns71_0 := NB188_191.out
      have hns71_1 := NB189_191.out
      have hns71_3 := NB192_191.out
      have hms71_0 := NB191_188.out
      have hms71_1 := NB191_189.out
      have hms71_3 := NB191_192.out
      refine skip_ (w1 := ?_) (by rfl) rfl ?_ ?_
      rotate_left
      · go_simp
        rfl
      refine hK.out _ _ ⟨((cell_far (p := ⟨gb191, _, none⟩) NB188_191.out _).trans (hHeld.1)), ((cell_far (p := ⟨gb191, _, none⟩) NB188_191.out _).trans (hHeld.2.1)), ((cell_far (p := ⟨gb191, _, none⟩) NB188_191.out _).trans (hHeld.2.2.1)), ((cell_far (p := ⟨gb191, _, none⟩) NB188_191.out _).trans (hHeld.2.2.2.1)), ((cell_far (p := ⟨gb191, _, none⟩) NB188_191.out _).trans (hHeld.2.2.2.2.1)), ((cell_far (p := ⟨gb191, _, none⟩) NB189_191.out _).trans (hHeld.2.2.2.2.2.1)), ((cell_far (p := ⟨gb191, _, none⟩) NB189_191.out _).trans (hHeld.2.2.2.2.2.2.1)), ((cell_far (p := ⟨gb191, _, none⟩) NB189_191.out _).trans (hHeld.2.2.2.2.2.2.2.1)), ((cell_far (p := ⟨gb191, _, none⟩) NB189_191.out _).trans (hHeld.2.2.2.2.2.2.2.2.1)), ((cell_far (p := ⟨gb191, _, none⟩) NB189_191.out _).trans (hHeld.2.2.2.2.2.2.2.2.2))⟩ (fun hHeld => ?_)
      clear hK K
      refine pure_ (i := 12) (N := some 104) (v := ?_) (a' := ?_) #[true, true, true, true, true, true, true, true, true, true, true, true, true, false] rfl rfl (any_of HT_.out (by kernel_rfl)) (fun _ _ _ h => h) (Or.inl ⟨by rfl, ?_⟩) ?_ ?_
      rotate_left
      · intro w'
        go_simp
        with_reducible rfl
      rotate_left
      · simp only [Act.put, List.setIfInBounds_toArray, List.set_cons_zero, List.set_cons_succ, i64_w, i32_w]
        rfl
      refine one_ (i := 13) (N := none) #[true, true, true, true, true, true, true, true, true, true, true, true, true, true] rfl rfl (one_of HT_.out (by kernel_rfl)) (by decide) (fun K hK => ?_)
      have hs72 : w70.cell? ⟨gb192, 4, none⟩ = some (.int .i64 (wrap64 ((wrap64 (a6)) + (wrap64 (a7))))) := (blk_cell BK192.out 4).trans rfl
      have hfs72 := blk_frozen BK192.out 4
      have hns72_0 := NB188_192.out
      have hns72_1 := NB189_192.out
      have hns72_2 := NB191_192.out
      have hms72_0 := NB192_188.out
      have hms72_1 := NB192_189.out
      have hms72_2 := NB192_191.out
      refine skip_ (w1 := ?_) (by rfl) rfl ?_ ?_
      rotate_left
      · go_simp
        rfl
      refine hK.out _ _ ⟨((cell_far (p := ⟨gb192, _, none⟩) NB188_192.out _).trans (hHeld.1)), ((cell_far (p := ⟨gb192, _, none⟩) NB188_192.out _).trans (hHeld.2.1)), ((cell_far (p := ⟨gb192, _, none⟩) NB188_192.out _).trans (hHeld.2.2.1)), ((cell_far (p := ⟨gb192, _, none⟩) NB188_192.out _).trans (hHeld.2.2.2.1)), ((cell_far (p := ⟨gb192, _, none⟩) NB188_192.out _).trans (hHeld.2.2.2.2.1)), ((cell_far (p := ⟨gb192, _, none⟩) NB189_192.out _).trans (hHeld.2.2.2.2.2.1)), ((cell_far (p := ⟨gb192, _, none⟩) NB189_192.out _).trans (hHeld.2.2.2.2.2.2.1)), ((cell_far (p := ⟨gb192, _, none⟩) NB189_192.out _).trans (hHeld.2.2.2.2.2.2.2.1)), ((cell_far (p := ⟨gb192, _, none⟩) NB189_192.out _).trans (hHeld.2.2.2.2.2.2.2.2.1)), ((cell_far (p := ⟨gb192, _, none⟩) NB189_192.out _).trans (hHeld.2.2.2.2.2.2.2.2.2))⟩ (fun hHeld => ?_)
      clear hK K
      refine done_ (done_of HT_.out (by kernel_rfl)) ?_
      have hcz73_0 : w70.cell? ⟨gb191, 0, none⟩ = some (.int .i64 (wrap64 ((wrap64 (a0)) + (wrap64 (a4))))) := (blk_cell BK191.out 0).trans rfl
      have hcz73_1 : w70.cell? ⟨gb191, 1, none⟩ = some (.int .i64 (wrap64 ((wrap64 (a1)) + (wrap64 (a5))))) := (blk_cell BK191.out 1).trans rfl
      have hcz73_2 : w70.cell? ⟨gb191, 2, none⟩ = some (.int .i64 0) := (blk_cell BK191.out 2).trans rfl
      have hcz73_3 : w70.cell? ⟨gb191, 3, none⟩ = some (.int .i64 0) := (blk_cell BK191.out 3).trans rfl
      have hcz73_4 : w70.cell? ⟨gb191, 4, none⟩ = some (.int .i64 (wrap64 (a6))) := (blk_cell BK191.out 4).trans rfl
      have hfz73_0 := blk_frozen BK191.out 0
      have hfz73_1 := blk_frozen BK191.out 1
      have hfz73_2 := blk_frozen BK191.out 2
      have hfz73_3 := blk_frozen BK191.out 3
      have hfz73_4 := blk_frozen BK191.out 4
      have hcz74_0 : w70.cell? ⟨gb192, 0, none⟩ = some (.int .i64 (wrap64 ((wrap64 (a2)) + (wrap64 (a4))))) := (blk_cell BK192.out 0).trans rfl
      have hcz74_1 : w70.cell? ⟨gb192, 1, none⟩ = some (.int .i64 (wrap64 ((wrap64 (a3)) + (wrap64 (a5))))) := (blk_cell BK192.out 1).trans rfl
      have hcz74_2 : w70.cell? ⟨gb192, 2, none⟩ = some (.int .i64 0) := (blk_cell BK192.out 2).trans rfl
      have hcz74_3 : w70.cell? ⟨gb192, 3, none⟩ = some (.int .i64 0) := (blk_cell BK192.out 3).trans rfl
      have hcz74_4 : w70.cell? ⟨gb192, 4, none⟩ = some (.int .i64 (wrap64 ((wrap64 (a6)) + (wrap64 (a7))))) := (blk_cell BK192.out 4).trans rfl
      have hfz74_0 := blk_frozen BK192.out 0
      have hfz74_1 := blk_frozen BK192.out 1
      have hfz74_2 := blk_frozen BK192.out 2
      have hfz74_3 := blk_frozen BK192.out 3
      have hfz74_4 := blk_frozen BK192.out 4
      try go_wp2_with (first | ((with_reducible refine gate_callee (f := 33) rfl ?_); refine goesL_ (some 107) rfl rfl Try.func33 (by kernel_rfl) rfl #[.agg #[.int .i64 (wrap64 ((wrap64 (a0)) + (wrap64 (a4)))), .int .i64 (wrap64 ((wrap64 (a1)) + (wrap64 (a5)))), .int .i64 0, .int .i64 0, .int .i64 (wrap64 ((wrap64 (a6)) + (wrap64 (a8))))], .agg #[.int .i64 (wrap64 ((wrap64 (a2)) + (wrap64 (a4)))), .int .i64 (wrap64 ((wrap64 (a3)) + (wrap64 (a5)))), .int .i64 0, .int .i64 0, .int .i64 (wrap64 ((wrap64 ((wrap64 (a6)) + (wrap64 (a7)))) + (wrap64 (a8))))]] rfl (by (try simp only [List.map_toArray, List.map_cons, List.map_nil]); first | done | rfl | (simp only [List.length_drop, List.length_take]; rfl)) ?_; (with_reducible refine (dynamics_Speed.calls k (wrap64 ((wrap64 (a0)) + (wrap64 (a4)))) (wrap64 ((wrap64 (a1)) + (wrap64 (a5)))) 0 0 (wrap64 ((wrap64 (a6)) + (wrap64 (a8)))) (wrap64 ((wrap64 (a2)) + (wrap64 (a4)))) (wrap64 ((wrap64 (a3)) + (wrap64 (a5)))) 0 0 (wrap64 ((wrap64 ((wrap64 (a6)) + (wrap64 (a7)))) + (wrap64 (a8)))) t195 _ A15.out).mono ?_); rintro e w75 ⟨rfl, hb⟩; refine ⟨_, rfl, ?_⟩; have n0_ := Aside0.mk (blk_below (g := gb188) (o := .cells #[.int .i64 (wrap64 (a0)), .int .i64 (wrap64 (a1)), .int .i64 0, .int .i64 0, .int .i64 (wrap64 (a6))] 47 (0, 0)) (by (with_reducible repeat (first | refine blk_drewN ?_ _ | refine blk_drew ?_ | refine blk_alloc ?_ _)); refine blk_far ?_ NB188_192.out _; (with_reducible repeat (first | refine blk_drewN ?_ _ | refine blk_drew ?_ | refine blk_alloc ?_ _)); refine blk_far ?_ NB188_191.out _; (with_reducible repeat (first | refine blk_drewN ?_ _ | refine blk_drew ?_ | refine blk_alloc ?_ _)); exact BK188.out) hb); have n1_ := Aside0.mk (blk_below (g := gb189) (o := .cells #[.int .i64 (wrap64 (a2)), .int .i64 (wrap64 (a3)), .int .i64 0, .int .i64 0, .int .i64 (wrap64 ((wrap64 (a6)) + (wrap64 (a7))))] 47 (0, 0)) (by (with_reducible repeat (first | refine blk_drewN ?_ _ | refine blk_drew ?_ | refine blk_alloc ?_ _)); refine blk_far ?_ NB189_192.out _; (with_reducible repeat (first | refine blk_drewN ?_ _ | refine blk_drew ?_ | refine blk_alloc ?_ _)); refine blk_far ?_ NB189_191.out _; (with_reducible repeat (first | refine blk_drewN ?_ _ | refine blk_drew ?_ | refine blk_alloc ?_ _)); exact BK189.out) hb); have n2_ := Aside0.mk (blk_below (g := gb191) (o := .cells #[.int .i64 (wrap64 ((wrap64 (a0)) + (wrap64 (a4)))), .int .i64 (wrap64 ((wrap64 (a1)) + (wrap64 (a5)))), .int .i64 0, .int .i64 0, .int .i64 (wrap64 ((wrap64 (a6)) + (wrap64 (a8))))] 47 (0, 0)) (by (with_reducible repeat (first | refine blk_drewN ?_ _ | refine blk_drew ?_ | refine blk_alloc ?_ _)); refine blk_far ?_ NB191_192.out _; (with_reducible repeat (first | refine blk_drewN ?_ _ | refine blk_drew ?_ | refine blk_alloc ?_ _)); refine blk_put (cs := #[.int .i64 (wrap64 ((wrap64 (a0)) + (wrap64 (a4)))), .int .i64 (wrap64 ((wrap64 (a1)) + (wrap64 (a5)))), .int .i64 0, .int .i64 0, .int .i64 (wrap64 (a6))]) ?_ 4 _ rfl; (with_reducible repeat (first | refine blk_drewN ?_ _ | refine blk_drew ?_ | refine blk_alloc ?_ _)); exact BK191.out) hb); have n3_ := Aside0.mk (blk_below (g := gb192) (o := .cells #[.int .i64 (wrap64 ((wrap64 (a2)) + (wrap64 (a4)))), .int .i64 (wrap64 ((wrap64 (a3)) + (wrap64 (a5)))), .int .i64 0, .int .i64 0, .int .i64 (wrap64 ((wrap64 ((wrap64 (a6)) + (wrap64 (a7)))) + (wrap64 (a8))))] 47 (0, 0)) (by (with_reducible repeat (first | refine blk_drewN ?_ _ | refine blk_drew ?_ | refine blk_alloc ?_ _)); refine blk_put (cs := #[.int .i64 (wrap64 ((wrap64 (a2)) + (wrap64 (a4)))), .int .i64 (wrap64 ((wrap64 (a3)) + (wrap64 (a5)))), .int .i64 0, .int .i64 0, .int .i64 (wrap64 ((wrap64 (a6)) + (wrap64 (a7))))]) ?_ 4 _ rfl; (with_reducible repeat (first | refine blk_drewN ?_ _ | refine blk_drew ?_ | refine blk_alloc ?_ _)); refine blk_far ?_ NB192_191.out _; (with_reducible repeat (first | refine blk_drewN ?_ _ | refine blk_drew ?_ | refine blk_alloc ?_ _)); exact BK192.out) hb); have n4_ := Aside0.mk (below_step (by repeat (first | (with_reducible first | exact HB.out | apply below_alloc | apply pw_below_drewN | apply below_drew1 | refine below_set ?_ GE188.out | refine below_set ?_ GE189.out | refine below_set ?_ GE191.out | refine below_set ?_ GE192.out) | exact HB.out)) hb); clear BK188; clear BK189; clear BK191; clear BK192; clear HB; have BK188 := n0_; have BK189 := n1_; have BK191 := n2_; have BK192 := n3_; have HB := n4_; clear n0_ n1_ n2_ n3_ n4_; (try clear hb); (try clear hb2); (try clear hk); (try clear hi)))
      go_ret
      exact ⟨by first | rfl | (simp [errW_none, errW_some] <;> rfl) | (simp [*, errW_none, errW_some] <;> rfl), by repeat (first | (with_reducible first | exact HB.out | apply below_alloc | apply pw_below_drewN | apply below_drew1 | refine below_set ?_ GE188.out | refine below_set ?_ GE189.out | refine below_set ?_ GE191.out | refine below_set ?_ GE192.out) | exact HB.out)⟩
    · exact absurd (hsw _ _ A10.out A13.out) c14
  · exact absurd (Option.some.inj (A11.out.symm.trans haw)) c12
/-- THE ONE PURE STATEMENT of imageeditorlaw26_DynamicsMoves: yours. -/
def imageeditorlaw26_DynamicsMoves.Pure : Prop := ∀ (a0 : Int) (a1 : Int) (a2 : Int) (a3 : Int) (a4 : Int) (a5 : Int) (a6 : Int) (a7 : Int) (a8 : Int), (Lit.int .i16 a0).wf = true → (Lit.int .i16 a1).wf = true → (Lit.int .i16 a2).wf = true → (Lit.int .i16 a3).wf = true → (Lit.int .i16 a4).wf = true → (Lit.int .i16 a5).wf = true → (Lit.int .u16 a6).wf = true → (Lit.int .u16 a7).wf = true → (Lit.int .u16 a8).wf = true → ∃ k, imageeditorlaw26_DynamicsMoves.f k a0 a1 a2 a3 a4 a5 a6 a7 a8 = some true
end Go.Proofs.Ytpjmpmgomealmaa.Dy
