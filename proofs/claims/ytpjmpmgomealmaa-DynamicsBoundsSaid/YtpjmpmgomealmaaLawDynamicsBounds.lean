/-
  DynamicsBounds: for every input the law returns true, and its arguments read as they did. No condition.
-/
import Derived.Test.YtpjmpmgomealmaaRows
import Derived.Test.YtpjmpmgomealmaaPureDyn
import Derived.Test.YtpjmpmgomealmaaKinds
import Derived.WalkKit
import Derived.ProofKit
import Derived.OpenShut
import Derived.ShutString
import Derived.ChangeOld
import Derived.Below
import Derived.SizedLaws
import Derived.Carry
namespace Go.Proofs.Ytpjmpmgomealmaa.dynamicsBounds
open Go.ChangeShapes Go.WideShapes Go.ChangeAt Go.RowKit
set_option linter.unusedVariables false
theorem own : ownKnob Try.prog.godebug = none := by kernel_rfl
set_option maxRecDepth 100000 in
theorem lifted (os : Os) (started : os.Started) (H : Type) (enc : TypeId × Value → H) :
    ReturnsInHanded {} Try.checked os 13 .any (Rows.dynamicsBoundsSpec.pre6 enc Try.prog Try.f13 Rows.dynamicsBoundsRow.domain false) (Rows.dynamicsBoundsSpec.post enc Try.prog Try.f13 false true false false) := by
  refine returnsInHanded_of_change_sized (C := Try.checked) own started (by kernel_rfl) Try.func13
    (ChangeSpec.witness6 (enc := enc) (C := Try.checked) false ⟨#[], #[.slice none 0 0, .int .i64 0, .int .i64 0, .agg #[.int .i64 0, .int .i64 0, .int .i64 0, .int .i64 0, .int .i64 0], .agg #[.int .i64 0, .int .i64 0, .int .i64 0, .int .i64 0, .int .i64 0], .int .i64 0, .int .i64 0, .int .i64 0], []⟩ 8 (by kernel_rfl) (by kernel_rfl) (by kernel_rfl) (by kernel_rfl)) ?_
  intro W base args ds gs before hval0 hW hcnd hsz0 _
  have hval : ∀ (j : Nat) t v, Try.f13.params[j]? = some t → args[j]? = some v → Value.okWide Try.prog W .any base t v := hval0
  have hW' := hW
  obtain ⟨p, q, hA0, hV, rfl, hfz, hnd⟩ := hW
  have hA : DataW.TrodAll enc Try.prog W 0 (fun _ => true) true Try.f13.params.toList args.toList ds p := hA0
  rw [Try.params13] at hA hval
  obtain ⟨v0, vs0, d0, ds0, p0, q0, hargs, rfl, rfl, h0, r0⟩ := trodAll_cons hA
  obtain ⟨v1, vs1, d1, ds1, p1, q1, rfl, rfl, rfl, h1, r1⟩ := trodAll_cons r0
  obtain ⟨v2, vs2, d2, ds2, p2, q2, rfl, rfl, rfl, h2, r2⟩ := trodAll_cons r1
  obtain ⟨v3, vs3, d3, ds3, p3, q3, rfl, rfl, rfl, h3, r3⟩ := trodAll_cons r2
  obtain ⟨v4, vs4, d4, ds4, p4, q4, rfl, rfl, rfl, h4, r4⟩ := trodAll_cons r3
  obtain ⟨v5, vs5, d5, ds5, p5, q5, rfl, rfl, rfl, h5, r5⟩ := trodAll_cons r4
  obtain ⟨v6, vs6, d6, ds6, p6, q6, rfl, rfl, rfl, h6, r6⟩ := trodAll_cons r5
  obtain ⟨v7, vs7, d7, ds7, p7, q7, rfl, rfl, rfl, h7, r7⟩ := trodAll_cons r6
  obtain ⟨rfl, rfl, rfl⟩ := trodAll_nil r7
  obtain rfl : args = #[v0, v1, v2, v3, v4, v5, v6, v7] := by cases args; simp_all
  obtain ⟨rfl, rfl⟩ := trodVars_none hV
  have hlt : ∀ x : MemPlace, x ∈ _ → x.block < W.heap.size := hW'.lt
  have k0 := h0
  have k1 := h1
  have k2 := h2
  have k3 := h3
  have k4 := h4
  have k5 := h5
  have k6 := h6
  have k7 := h7
  obtain ⟨s0, m0, c0, rfl⟩ := okWide_slice Try.underlying42 (hval 0 42 v0 rfl rfl)
  have ⟨fu0, hf0⟩ := h0
  obtain ⟨l0, ⟨A0, c0', he0, hc0, hr0⟩, q0⟩ := Opn.op_dyns.out enc W _ fu0 _ _ hf0
  obtain ⟨rfl, rfl, rfl⟩ := Opn.slice_of he0
  obtain ⟨a1, rfl, e1, f1, w1⟩ := open_int Try.underlying3 (hval 1 3 v1 rfl rfl) h1
  clear e1 f1
  obtain ⟨a2, rfl, e2, f2, w2⟩ := open_int Try.underlying3 (hval 2 3 v2 rfl rfl) h2
  clear e2 f2
  have ⟨fu3, hf3⟩ := h3
  obtain ⟨x3, hk3, q3⟩ := Opn.op_sample.out enc W _ fu3 _ _ hf3
  obtain ⟨a3_0, a3_1, a3_2, a3_3, a3_4⟩ := x3
  have he3 := Opn.op_sample_K hk3
  obtain rfl := Opn.agg_of he3
  have ⟨fu4, hf4⟩ := h4
  obtain ⟨x4, hk4, q4⟩ := Opn.op_sample.out enc W _ fu4 _ _ hf4
  obtain ⟨a4_0, a4_1, a4_2, a4_3, a4_4⟩ := x4
  have he4 := Opn.op_sample_K hk4
  obtain rfl := Opn.agg_of he4
  obtain ⟨a5, rfl, e5, f5, w5⟩ := open_int Try.underlying3 (hval 5 3 v5 rfl rfl) h5
  clear e5 f5
  obtain ⟨a6, rfl, e6, f6, w6⟩ := open_int Try.underlying3 (hval 6 3 v6 rfl rfl) h6
  clear e6 f6
  obtain ⟨a7, rfl, e7, f7, w7⟩ := open_int Try.underlying3 (hval 7 3 v7 rfl rfl) h7
  clear e7 f7
  clear hA0 hval0 hsz0 hval
  have pure : Dy.imageeditorlaw26_DynamicsBounds.f 300 l0 a1 a2 a3_0 a3_1 a3_2 a3_3 a3_4 a4_0 a4_1 a4_2 a4_3 a4_4 a5 a6 a7 = some true := Num.bounds l0 a1 a2 a3_0 a3_1 a3_2 a3_3 a3_4 a4_0 a4_1 a4_2 a4_3 a4_4 a5 a6 a7 w6
  refine (Dy.imageeditorlaw26_DynamicsBounds.calls 300 s0 c0 l0 a1 a2 a3_0 a3_1 a3_2 a3_3 a3_4 a4_0 a4_1 a4_2 a4_3 a4_4 a5 a6 a7 true W hr0 hc0 pure).mono fun e W' ⟨he, bel⟩ => ?_
  subst he
  exact ⟨_, rfl, _, _, _, [], _, [], hW', trodAll_mk1 (shut_bool Try.underlying4 _), (trodAll_cons_mk (Below.trod Opn.laidOut (by kernel_rfl) (of_decide_eq_true (by kernel_rfl)) k0 bel (fun x hx => hlt x (by simp [hx]))) (trodAll_cons_mk (Below.trod Opn.laidOut (by kernel_rfl) (of_decide_eq_true (by kernel_rfl)) k1 bel (fun x hx => hlt x (by simp [hx]))) (trodAll_cons_mk (Below.trod Opn.laidOut (by kernel_rfl) (of_decide_eq_true (by kernel_rfl)) k2 bel (fun x hx => hlt x (by simp [hx]))) (trodAll_cons_mk (Below.trod Opn.laidOut (by kernel_rfl) (of_decide_eq_true (by kernel_rfl)) k3 bel (fun x hx => hlt x (by simp [hx]))) (trodAll_cons_mk (Below.trod Opn.laidOut (by kernel_rfl) (of_decide_eq_true (by kernel_rfl)) k4 bel (fun x hx => hlt x (by simp [hx]))) (trodAll_cons_mk (Below.trod Opn.laidOut (by kernel_rfl) (of_decide_eq_true (by kernel_rfl)) k5 bel (fun x hx => hlt x (by simp [hx]))) (trodAll_cons_mk (Below.trod Opn.laidOut (by kernel_rfl) (of_decide_eq_true (by kernel_rfl)) k6 bel (fun x hx => hlt x (by simp [hx]))) (trodAll_cons_mk (Below.trod Opn.laidOut (by kernel_rfl) (of_decide_eq_true (by kernel_rfl)) k7 bel (fun x hx => hlt x (by simp [hx]))) trodAll_mk0)))))))), rfl, bel.frame _, fun h => by cases h⟩
theorem over : Rows.dynamicsBoundsRow.holds Try.pinned (OpenSpec.ofChange Rows.dynamicsBoundsSpec) :=
  OpenClaim.holds_of_wide 13 Try.f13 rfl rfl rfl rfl rfl rfl rfl ⟨rfl, rfl, rfl, rfl, rfl⟩ rfl rfl rfl rfl rfl (by kernel_rfl) Try.func13 (by kernel_rfl)
    (of_decide_eq_true (by kernel_rfl)) (by unfold Func.isWrapper; first | (rw [if_pos (by decide +kernel)]; kernel_rfl) | (rw [if_neg (by decide +kernel)]; exact ⟨rfl, rfl⟩))
    (fun os started H enc _ => lifted os started H enc)
theorem proved : Rows.DynamicsBoundsSaid := over
#print axioms proved
end Go.Proofs.Ytpjmpmgomealmaa.dynamicsBounds
namespace Go.Proofs.Ytpjmpmgomealmaa
/-- The row, under a short name, for the claim. -/
theorem dynamicsBounds_holds : Rows.DynamicsBoundsSaid := dynamicsBounds.proved
end Go.Proofs.Ytpjmpmgomealmaa
