/-
  DynamicsMore: for every input the law returns true, and its arguments read as they did. No condition.
-/
import Derived.Test.YtpjmpmgomealmaaRows
import Derived.Test.YtpjmpmgomealmaaPureMore
import Derived.Test.YtpjmpmgomealmaaSize
import Derived.WalkKit
import Derived.ProofKit
import Derived.OpenShut
import Derived.ShutString
import Derived.ChangeOld
import Derived.Below
import Derived.SizedLaws
import Derived.Carry
namespace Go.Proofs.Ytpjmpmgomealmaa.dynamicsMore
open Go.ChangeShapes Go.WideShapes Go.ChangeAt Go.RowKit
set_option linter.unusedVariables false
theorem own : ownKnob Try.prog.godebug = none := by kernel_rfl
set_option maxRecDepth 100000 in
theorem lifted (os : Os) (started : os.Started) (H : Type) (enc : TypeId × Value → H) :
    ReturnsInHanded {} Try.checked os 12 .any (Rows.dynamicsMoreSpec.pre6 enc Try.prog Try.f12 Rows.dynamicsMoreRow.domain false) (Rows.dynamicsMoreSpec.post enc Try.prog Try.f12 false true false false) := by
  refine returnsInHanded_of_change_sized (C := Try.checked) own started (by kernel_rfl) Try.func12
    (ChangeSpec.witness6 (enc := enc) (C := Try.checked) false ⟨#[], #[.slice none 0 0, .agg #[.int .i64 0, .int .i64 0, .slice none 0 0], .int .i64 0, .agg #[.int .i64 0, .int .i64 0, .int .i64 0, .int .i64 0, .int .i64 0], .int .i64 0, .int .i64 0], []⟩ 8 (by kernel_rfl) (by kernel_rfl) (by kernel_rfl) (by kernel_rfl)) ?_
  intro W base args ds gs before hval0 hW hcnd hsz0 _
  have hsz : (DataW.weightsEach Try.prog (Try.f12.params.toList ++ Rows.dynamicsMoreSpec.plain.varTypes Try.prog) (ds ++ gs)).all (· ≤ reachBytes) = true := hsz0
  have hval : ∀ (j : Nat) t v, Try.f12.params[j]? = some t → args[j]? = some v → Value.okWide Try.prog W .any base t v := hval0
  have hW' := hW
  obtain ⟨p, q, hA0, hV, rfl, hfz, hnd⟩ := hW
  have hA : DataW.TrodAll enc Try.prog W 0 (fun _ => true) true Try.f12.params.toList args.toList ds p := hA0
  rw [Try.params12] at hA hval hsz
  obtain ⟨v0, vs0, d0, ds0, p0, q0, hargs, rfl, rfl, h0, r0⟩ := trodAll_cons hA
  obtain ⟨v1, vs1, d1, ds1, p1, q1, rfl, rfl, rfl, h1, r1⟩ := trodAll_cons r0
  obtain ⟨v2, vs2, d2, ds2, p2, q2, rfl, rfl, rfl, h2, r2⟩ := trodAll_cons r1
  obtain ⟨v3, vs3, d3, ds3, p3, q3, rfl, rfl, rfl, h3, r3⟩ := trodAll_cons r2
  obtain ⟨v4, vs4, d4, ds4, p4, q4, rfl, rfl, rfl, h4, r4⟩ := trodAll_cons r3
  obtain ⟨v5, vs5, d5, ds5, p5, q5, rfl, rfl, rfl, h5, r5⟩ := trodAll_cons r4
  obtain ⟨rfl, rfl, rfl⟩ := trodAll_nil r5
  obtain rfl : args = #[v0, v1, v2, v3, v4, v5] := by cases args; simp_all
  obtain ⟨rfl, rfl⟩ := trodVars_none hV
  have k0 := h0
  have k1 := h1
  have k2 := h2
  have k3 := h3
  have k4 := h4
  have k5 := h5
  obtain ⟨s0, m0, c0, rfl⟩ := okWide_slice Try.underlying42 (hval 0 42 v0 rfl rfl)
  have ⟨fu0, hf0⟩ := h0
  obtain ⟨l0, ⟨A0, c0', he0, hc0, hr0⟩, q0⟩ := Opn.op_dyns.out enc W _ fu0 _ _ hf0
  obtain ⟨rfl, rfl, rfl⟩ := Opn.slice_of he0
  have z0 := Opn.sized_any hsz (j := 0) (t := 42) rfl rfl Try.underlying42 (B := 40) (by kernel_rfl) h0
  have ⟨fu1, hf1⟩ := h1
  obtain ⟨x1, hk1, q1⟩ := Opn.op_dyn.out enc W _ fu1 _ _ hf1
  obtain ⟨a1_0, a1_1, a1_2⟩ := x1
  have he1 := Opn.op_dyn_K hk1
  obtain ⟨s1_2, c1_2, he1, hc1_2, hr1_2⟩ := he1
  obtain rfl := Opn.agg_of he1
  obtain ⟨a2, rfl, rfl, rfl, w2⟩ := open_int Try.underlying3 (hval 2 3 v2 rfl rfl) h2
  have ⟨fu3, hf3⟩ := h3
  obtain ⟨x3, hk3, q3⟩ := Opn.op_sample.out enc W _ fu3 _ _ hf3
  obtain ⟨a3_0, a3_1, a3_2, a3_3, a3_4⟩ := x3
  have he3 := Opn.op_sample_K hk3
  obtain rfl := Opn.agg_of he3
  obtain ⟨a4, rfl, rfl, rfl, w4⟩ := open_int Try.underlying3 (hval 4 3 v4 rfl rfl) h4
  obtain ⟨a5, rfl, rfl, rfl, w5⟩ := open_int Try.underlying3 (hval 5 3 v5 rfl rfl) h5
  clear hA0 hval0 hsz0 hval hsz
  refine (Dy.imageeditorlaw26_DynamicsMore.calls 300 (fun k => k < W.heap.size) s0 c0 l0 a1_0 a1_1 (fun k => k < W.heap.size) s1_2 c1_2 a1_2 a2 a3_0 a3_1 a3_2 a3_3 a3_4 a4 a5 true W (Opn.share Opn.heap_dyn hc0 hr0) (Opn.share Opn.heap_knot hc1_2 hr1_2) (Num.more l0 a1_0 a1_1 a1_2 a2 a3_0 a3_1 a3_2 a3_3 a3_4 a4 a5 (by omega))).mono fun e W' ⟨he, bel⟩ => ?_
  subst he
  exact ⟨_, rfl, _, _, _, [], _, [], hW', trodAll_mk1 (shut_bool Try.underlying4 _), (trodAll_cons_mk (Below.trod Opn.laidOut (by kernel_rfl) (of_decide_eq_true (by kernel_rfl)) k0 bel (by obtain ⟨m, hm⟩ := k0; exact DataW.trod_lt m _ _ _ hm)) (trodAll_cons_mk (Below.trod Opn.laidOut (by kernel_rfl) (of_decide_eq_true (by kernel_rfl)) k1 bel (by obtain ⟨m, hm⟩ := k1; exact DataW.trod_lt m _ _ _ hm)) (trodAll_cons_mk (Below.trod Opn.laidOut (by kernel_rfl) (of_decide_eq_true (by kernel_rfl)) k2 bel (by obtain ⟨m, hm⟩ := k2; exact DataW.trod_lt m _ _ _ hm)) (trodAll_cons_mk (Below.trod Opn.laidOut (by kernel_rfl) (of_decide_eq_true (by kernel_rfl)) k3 bel (by obtain ⟨m, hm⟩ := k3; exact DataW.trod_lt m _ _ _ hm)) (trodAll_cons_mk (Below.trod Opn.laidOut (by kernel_rfl) (of_decide_eq_true (by kernel_rfl)) k4 bel (by obtain ⟨m, hm⟩ := k4; exact DataW.trod_lt m _ _ _ hm)) (trodAll_cons_mk (Below.trod Opn.laidOut (by kernel_rfl) (of_decide_eq_true (by kernel_rfl)) k5 bel (by obtain ⟨m, hm⟩ := k5; exact DataW.trod_lt m _ _ _ hm)) trodAll_mk0)))))), rfl, bel.frame _, fun h => by cases h⟩
theorem over : Rows.dynamicsMoreRow.holds Try.pinned (OpenSpec.ofChange Rows.dynamicsMoreSpec) :=
  OpenClaim.holds_of_wide 12 Try.f12 rfl rfl rfl rfl rfl rfl rfl ⟨rfl, rfl, rfl, rfl, rfl⟩ rfl rfl rfl rfl rfl (by kernel_rfl) Try.func12 (by kernel_rfl)
    (of_decide_eq_true (by kernel_rfl)) (by unfold Func.isWrapper; first | (rw [if_pos (by decide +kernel)]; kernel_rfl) | (rw [if_neg (by decide +kernel)]; exact ⟨rfl, rfl⟩))
    (fun os started H enc _ => lifted os started H enc)
theorem proved : Rows.DynamicsMoreSaid := over
#print axioms proved
end Go.Proofs.Ytpjmpmgomealmaa.dynamicsMore
namespace Go.Proofs.Ytpjmpmgomealmaa
/-- The row, under a short name, for the claim. -/
theorem dynamicsMore_holds : Rows.DynamicsMoreSaid := dynamicsMore.proved
end Go.Proofs.Ytpjmpmgomealmaa
