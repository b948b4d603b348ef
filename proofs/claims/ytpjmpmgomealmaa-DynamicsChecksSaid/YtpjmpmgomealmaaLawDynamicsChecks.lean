/-
  DynamicsChecks: for every input the law returns true, and its arguments read as they did. No condition.
-/
import Derived.Test.YtpjmpmgomealmaaRows
import Derived.Test.YtpjmpmgomealmaaPureDyn
import Derived.Test.YtpjmpmgomealmaaKinds
import Derived.WalkKit
import Derived.ProofKit
import Derived.OpenShut
import Derived.ShutString
import Derived.ChangeOld
import Derived.Below
import Derived.SizedLaws
import Derived.Carry
namespace Go.Proofs.Ytpjmpmgomealmaa.dynamicsChecks
open Go.ChangeShapes Go.WideShapes Go.ChangeAt Go.RowKit
set_option linter.unusedVariables false
theorem own : ownKnob Try.prog.godebug = none := by kernel_rfl
set_option maxRecDepth 100000 in
theorem lifted (os : Os) (started : os.Started) (H : Type) (enc : TypeId × Value → H) :
    ReturnsInHanded {} Try.checked os 8 .any (Rows.dynamicsChecksSpec.pre6 enc Try.prog Try.f8 Rows.dynamicsChecksRow.domain false) (Rows.dynamicsChecksSpec.post enc Try.prog Try.f8 false true false false) := by
  refine returnsInHanded_of_change_sized (C := Try.checked) own started (by kernel_rfl) Try.func8
    (ChangeSpec.witness6 (enc := enc) (C := Try.checked) false ⟨#[], #[.slice none 0 0], []⟩ 8 (by kernel_rfl) (by kernel_rfl) (by kernel_rfl) (by kernel_rfl)) ?_
  intro W base args ds gs before hval0 hW hcnd hsz0 _
  have hval : ∀ (j : Nat) t v, Try.f8.params[j]? = some t → args[j]? = some v → Value.okWide Try.prog W .any base t v := hval0
  have hW' := hW
  obtain ⟨p, q, hA0, hV, rfl, hfz, hnd⟩ := hW
  have hA : DataW.TrodAll enc Try.prog W 0 (fun _ => true) true Try.f8.params.toList args.toList ds p := hA0
  rw [Try.params8] at hA hval
  obtain ⟨v0, vs0, d0, ds0, p0, q0, hargs, rfl, rfl, h0, r0⟩ := trodAll_cons hA
  obtain ⟨rfl, rfl, rfl⟩ := trodAll_nil r0
  obtain rfl : args = #[v0] := by cases args; simp_all
  obtain ⟨rfl, rfl⟩ := trodVars_none hV
  have hlt : ∀ x : MemPlace, x ∈ _ → x.block < W.heap.size := hW'.lt
  have k0 := h0
  obtain ⟨s0, m0, c0, rfl⟩ := okWide_slice Try.underlying42 (hval 0 42 v0 rfl rfl)
  have ⟨fu0, hf0⟩ := h0
  obtain ⟨l0, ⟨A0, c0', he0, hc0, hr0⟩, q0⟩ := Opn.op_dyns.out enc W _ fu0 _ _ hf0
  obtain ⟨rfl, rfl, rfl⟩ := Opn.slice_of he0
  clear hA0 hval0 hsz0 hval
  have pure : Dy.imageeditorlaw26_DynamicsChecks.f 300 l0 = some true := Num.checks l0
  refine (Dy.imageeditorlaw26_DynamicsChecks.calls 300 s0 c0 l0 true W hr0 hc0 pure).mono fun e W' ⟨he, bel⟩ => ?_
  subst he
  exact ⟨_, rfl, _, _, _, [], _, [], hW', trodAll_mk1 (shut_bool Try.underlying4 _), (trodAll_cons_mk (Below.trod Opn.laidOut (by kernel_rfl) (of_decide_eq_true (by kernel_rfl)) k0 bel (fun x hx => hlt x (by simp [hx]))) trodAll_mk0), rfl, bel.frame _, fun h => by cases h⟩
theorem over : Rows.dynamicsChecksRow.holds Try.pinned (OpenSpec.ofChange Rows.dynamicsChecksSpec) :=
  OpenClaim.holds_of_wide 8 Try.f8 rfl rfl rfl rfl rfl rfl rfl ⟨rfl, rfl, rfl, rfl, rfl⟩ rfl rfl rfl rfl rfl (by kernel_rfl) Try.func8 (by kernel_rfl)
    (of_decide_eq_true (by kernel_rfl)) (by unfold Func.isWrapper; first | (rw [if_pos (by decide +kernel)]; kernel_rfl) | (rw [if_neg (by decide +kernel)]; exact ⟨rfl, rfl⟩))
    (fun os started H enc _ => lifted os started H enc)
theorem proved : Rows.DynamicsChecksSaid := over
#print axioms proved
end Go.Proofs.Ytpjmpmgomealmaa.dynamicsChecks
namespace Go.Proofs.Ytpjmpmgomealmaa
/-- The row, under a short name, for the claim. -/
theorem dynamicsChecks_holds : Rows.DynamicsChecksSaid := dynamicsChecks.proved
end Go.Proofs.Ytpjmpmgomealmaa
