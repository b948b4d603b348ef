/-
  DynamicsSources: for every input the law returns true, and its arguments read as they did. No condition.
-/
import Derived.Test.YtpjmpmgomealmaaRows
import Derived.Test.YtpjmpmgomealmaaPureDyn
import Derived.Test.YtpjmpmgomealmaaKinds
import Derived.WalkKit
import Derived.ProofKit
import Derived.OpenShut
import Derived.ShutString
import Derived.ChangeOld
import Derived.Below
import Derived.SizedLaws
import Derived.Carry
namespace Go.Proofs.Ytpjmpmgomealmaa.dynamicsSources
open Go.ChangeShapes Go.WideShapes Go.ChangeAt Go.RowKit
set_option linter.unusedVariables false
theorem own : ownKnob Try.prog.godebug = none := by kernel_rfl
set_option maxRecDepth 100000 in
theorem lifted (os : Os) (started : os.Started) (H : Type) (enc : TypeId × Value → H) :
    ReturnsInHanded {} Try.checked os 10 .any (Rows.dynamicsSourcesSpec.pre6 enc Try.prog Try.f10 Rows.dynamicsSourcesRow.domain false) (Rows.dynamicsSourcesSpec.post enc Try.prog Try.f10 false true false false) := by
  refine returnsInHanded_of_change_sized (C := Try.checked) own started (by kernel_rfl) Try.func10
    (ChangeSpec.witness6 (enc := enc) (C := Try.checked) false ⟨#[], #[.int .i64 0, .agg #[.int .i64 0, .int .i64 0, .int .i64 0, .int .i64 0, .int .i64 0], .int .i64 0, .int .i64 0, .int .i64 0], []⟩ 8 (by kernel_rfl) (by kernel_rfl) (by kernel_rfl) (by kernel_rfl)) ?_
  intro W base args ds gs before hval0 hW hcnd hsz0 _
  have hval : ∀ (j : Nat) t v, Try.f10.params[j]? = some t → args[j]? = some v → Value.okWide Try.prog W .any base t v := hval0
  have hW' := hW
  obtain ⟨p, q, hA0, hV, rfl, hfz, hnd⟩ := hW
  have hA : DataW.TrodAll enc Try.prog W 0 (fun _ => true) true Try.f10.params.toList args.toList ds p := hA0
  rw [Try.params10] at hA hval
  obtain ⟨v0, vs0, d0, ds0, p0, q0, hargs, rfl, rfl, h0, r0⟩ := trodAll_cons hA
  obtain ⟨v1, vs1, d1, ds1, p1, q1, rfl, rfl, rfl, h1, r1⟩ := trodAll_cons r0
  obtain ⟨v2, vs2, d2, ds2, p2, q2, rfl, rfl, rfl, h2, r2⟩ := trodAll_cons r1
  obtain ⟨v3, vs3, d3, ds3, p3, q3, rfl, rfl, rfl, h3, r3⟩ := trodAll_cons r2
  obtain ⟨v4, vs4, d4, ds4, p4, q4, rfl, rfl, rfl, h4, r4⟩ := trodAll_cons r3
  obtain ⟨rfl, rfl, rfl⟩ := trodAll_nil r4
  obtain rfl : args = #[v0, v1, v2, v3, v4] := by cases args; simp_all
  obtain ⟨rfl, rfl⟩ := trodVars_none hV
  have hlt : ∀ x : MemPlace, x ∈ _ → x.block < W.heap.size := hW'.lt
  have k0 := h0
  have k1 := h1
  have k2 := h2
  have k3 := h3
  have k4 := h4
  obtain ⟨a0, rfl, e0, f0, w0⟩ := open_int Try.underlying3 (hval 0 3 v0 rfl rfl) h0
  clear e0 f0
  have ⟨fu1, hf1⟩ := h1
  obtain ⟨x1, hk1, q1⟩ := Opn.op_sample.out enc W _ fu1 _ _ hf1
  obtain ⟨a1_0, a1_1, a1_2, a1_3, a1_4⟩ := x1
  have he1 := Opn.op_sample_K hk1
  obtain rfl := Opn.agg_of he1
  obtain ⟨a2, rfl, e2, f2, w2⟩ := open_int Try.underlying3 (hval 2 3 v2 rfl rfl) h2
  clear e2 f2
  obtain ⟨a3, rfl, e3, f3, w3⟩ := open_int Try.underlying3 (hval 3 3 v3 rfl rfl) h3
  clear e3 f3
  obtain ⟨a4, rfl, e4, f4, w4⟩ := open_int Try.underlying3 (hval 4 3 v4 rfl rfl) h4
  clear e4 f4
  clear hA0 hval0 hsz0 hval
  have pure : Dy.imageeditorlaw26_DynamicsSources.f 300 a0 a1_0 a1_1 a1_2 a1_3 a1_4 a2 a3 a4 = some true := Num.sources a0 a1_0 a1_1 a1_2 a1_3 a1_4 a2 a3 a4
  refine (Dy.imageeditorlaw26_DynamicsSources.calls 300 a0 a1_0 a1_1 a1_2 a1_3 a1_4 a2 a3 a4 true W  pure).mono fun e W' ⟨he, bel⟩ => ?_
  subst he
  exact ⟨_, rfl, _, _, _, [], _, [], hW', trodAll_mk1 (shut_bool Try.underlying4 _), (trodAll_cons_mk (Below.trod Opn.laidOut (by kernel_rfl) (of_decide_eq_true (by kernel_rfl)) k0 bel (fun x hx => hlt x (by simp [hx]))) (trodAll_cons_mk (Below.trod Opn.laidOut (by kernel_rfl) (of_decide_eq_true (by kernel_rfl)) k1 bel (fun x hx => hlt x (by simp [hx]))) (trodAll_cons_mk (Below.trod Opn.laidOut (by kernel_rfl) (of_decide_eq_true (by kernel_rfl)) k2 bel (fun x hx => hlt x (by simp [hx]))) (trodAll_cons_mk (Below.trod Opn.laidOut (by kernel_rfl) (of_decide_eq_true (by kernel_rfl)) k3 bel (fun x hx => hlt x (by simp [hx]))) (trodAll_cons_mk (Below.trod Opn.laidOut (by kernel_rfl) (of_decide_eq_true (by kernel_rfl)) k4 bel (fun x hx => hlt x (by simp [hx]))) trodAll_mk0))))), rfl, bel.frame _, fun h => by cases h⟩
theorem over : Rows.dynamicsSourcesRow.holds Try.pinned (OpenSpec.ofChange Rows.dynamicsSourcesSpec) :=
  OpenClaim.holds_of_wide 10 Try.f10 rfl rfl rfl rfl rfl rfl rfl ⟨rfl, rfl, rfl, rfl, rfl⟩ rfl rfl rfl rfl rfl (by kernel_rfl) Try.func10 (by kernel_rfl)
    (of_decide_eq_true (by kernel_rfl)) (by unfold Func.isWrapper; first | (rw [if_pos (by decide +kernel)]; kernel_rfl) | (rw [if_neg (by decide +kernel)]; exact ⟨rfl, rfl⟩))
    (fun os started H enc _ => lifted os started H enc)
theorem proved : Rows.DynamicsSourcesSaid := over
#print axioms proved
end Go.Proofs.Ytpjmpmgomealmaa.dynamicsSources
namespace Go.Proofs.Ytpjmpmgomealmaa
/-- The row, under a short name, for the claim. -/
theorem dynamicsSources_holds : Rows.DynamicsSourcesSaid := dynamicsSources.proved
end Go.Proofs.Ytpjmpmgomealmaa
