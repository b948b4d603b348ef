/-
  The laws of layer 26 over numbers and lists: Check, Speed, Source and Value are the reference's at any arguments; their values are unit values; fading falls; chance depends on index and seed alone. No condition.
-/
import Derived.Test.YtpjmpmgomealmaaDyx11
import Derived.Test.YtpjmpmgomealmaaDyx12
import Derived.Test.YtpjmpmgomealmaaDyx5
import Derived.Test.YtpjmpmgomealmaaDyx6
import Derived.Test.YtpjmpmgomealmaaDyx8
import Derived.Test.YtpjmpmgomealmaaDyx9
import Derived.Test.YtpjmpmgomealmaaDynRef
import Derived.KernelRfl
namespace Go.Proofs.Ytpjmpmgomealmaa.Num
open Go.RowKit Go.Proofs.YtpjmpmgomealmaaW.PrintWords Go.Proofs.YtpjmpmgomealmaaW.PrintLast Go.Proofs.YtpjmpmgomealmaaW.PrintMore Go.Proofs.Ytpjmpmgomealmaa.Dy

theorem awake26 (k : Nat) (hk : 200 ≤ k) : imageeditorlaw26_awake.f k = some true := by
  obtain ⟨k, rfl⟩ : ∃ m, k = m + 2 := ⟨k - 2, by omega⟩
  have e1 : spd 0 0 0 48 64 10 = 8192 := by kernel_rfl
  have e2 : spd 48 64 10 0 0 0 = 0 := by kernel_rfl
  have e3 : src 5 32768 0 0 3 0 = 62463 := by kernel_rfl
  have e4 : src 5 32768 0 0 64 0 = 0 := by kernel_rfl
  have e5 : src 9 32768 0 5 5 5 = 0 := by kernel_rfl
  have e6 : val [⟨1, 1, [⟨0, 0⟩, ⟨65535, 65535⟩]⟩] 1 32768 0 0 0 0 = 32768 := by kernel_rfl
  have e7 : val [⟨1, 1, [⟨0, 0⟩, ⟨65535, 65535⟩]⟩, ⟨1, 1, [⟨0, 0⟩, ⟨65535, 65535⟩]⟩] 1 32768 0 0 0 0 = 16384 := by kernel_rfl
  have e8 : val [⟨1, 1, [⟨0, 0⟩, ⟨65535, 65535⟩]⟩] 2 32768 0 0 0 0 = 65535 := by kernel_rfl
  have e9 : dcheck [⟨1, 1, [⟨0, 0⟩, ⟨65535, 65535⟩]⟩] = 0 := by kernel_rfl
  have e10 : dcheck [⟨5, 0, []⟩] = 8 := by kernel_rfl
  have e11 : dcheck (List.replicate 9 z56) = 3 := by kernel_rfl
  unfold imageeditorlaw26_awake.f
  rw [spd_f _ (by omega), e1]
  simp only [bsome, if_true]
  rw [spd_f _ (by omega), e2]
  simp only [bsome, if_true]
  rw [src_f, e3]
  simp only [bsome, if_true]
  rw [src_f, e4]
  simp only [bsome, if_true]
  rw [src_f, e5]
  simp only [bsome, imageeditorlaw26_awake.j0]
  rw [if_neg (by simp), val_f _ (by omega), e6]
  simp only [bsome, if_true]
  rw [if_pos (by simp)]
  have r0 : (rd_T56 [⟨1, 1, [⟨0, 0⟩, ⟨65535, 65535⟩]⟩] 0) = ⟨1, 1, [⟨0, 0⟩, ⟨65535, 65535⟩]⟩ := rfl
  rw [r0, val_f _ (by omega), e7]
  simp only [bsome, if_true]
  rw [val_f _ (by omega), e8]
  simp only [bsome, imageeditorlaw26_awake.j1]
  rw [if_neg (by simp), dcheck_f _ (by omega), e9]
  simp only [bsome, if_true]
  rw [dcheck_f _ (by omega), e10]
  simp only [bsome, if_true]
  rw [if_pos (by decide), dcheck_f _ (by omega), e11]
  simp only [bsome]
  rfl
theorem checks (l : List S56) : imageeditorlaw26_DynamicsChecks.f 300 l = some true := by
  unfold imageeditorlaw26_DynamicsChecks.f
  rw [awake26 _ (by omega)]
  simp only [bsome, if_true]
  rw [dcheck_f _ (by omega), refDcheck_f _ (by omega)]
  simp only [bsome]
  rw [beq_self_eq_true]
theorem speeds (ax ay ap ati at' bx by' bp bti bt : Int) : imageeditorlaw26_DynamicsSpeeds.f 300 ax ay ap ati at' bx by' bp bti bt = some true := by
  unfold imageeditorlaw26_DynamicsSpeeds.f
  rw [awake26 _ (by omega)]
  simp only [bsome, if_true]
  rw [spd_f _ (by omega), refSpd_f _ (by omega)]
  simp only [bsome]
  rw [beq_self_eq_true]
theorem sources (kind x y p ti t sp ix sd : Int) : imageeditorlaw26_DynamicsSources.f 300 kind x y p ti t sp ix sd = some true := by
  unfold imageeditorlaw26_DynamicsSources.f
  rw [awake26 _ (by omega)]
  simp only [bsome, if_true]
  rw [src_f, refSrc_f]
  simp only [bsome]
  rw [beq_self_eq_true]
theorem values (l : List S56) (target x y p ti t sp ix sd : Int) : imageeditorlaw26_DynamicsValues.f 300 l target x y p ti t sp ix sd = some true := by
  unfold imageeditorlaw26_DynamicsValues.f
  rw [awake26 _ (by omega)]
  simp only [bsome, if_true]
  rw [val_f _ (by omega), refVal_f _ (by omega)]
  simp only [bsome]
  rw [beq_self_eq_true]
theorem fade_falls (p ti sp q tj sq ix sd sd' : Int) : src 5 p ti sp (ix + 1) sd ≤ src 5 q tj sq ix sd' := by
  unfold src
  rw [if_neg (by omega), if_neg (by omega), if_neg (by omega), if_neg (by omega), if_pos rfl, if_neg (by omega), if_neg (by omega), if_neg (by omega), if_neg (by omega), if_pos rfl]
  have e : mn 64 (mx ix 0) ≤ mn 64 (mx (ix + 1) 0) := by unfold mn mx; (repeat' split) <;> omega
  have f : ∀ a b : Int, a ≤ b → mn 65535 a ≤ mn 65535 b := fun a b h => by unfold mn; split <;> split <;> omega
  have := f (1024 * mn 64 (mx ix 0)) (1024 * mn 64 (mx (ix + 1) 0)) (by omega)
  omega
theorem bounds (l : List S56) (kind target sx sy sp si st tx ty tp ti tt speed ix sd : Int) (hi : (Lit.int .i64 ix).wf = true) :
    imageeditorlaw26_DynamicsBounds.f 300 l kind target sx sy sp si st tx ty tp ti tt speed ix sd = some true := by
  have wi := wfi hi
  have b1 := spd_bd sx sy st tx ty tt
  have b2 := src_bd kind sp si speed ix sd
  have b3 := val_bd l target sp si speed ix sd
  have b4 := fade_falls sp si 0 tp ti 0 ix 0 0
  have b5 : src 4 sp si speed ix sd = src 4 tp ti 0 ix sd := Eq.trans rfl rfl
  have b6 : ∀ k : Nat, imageeditorlaw26_DynamicsBounds.j1 (k + 1) speed ix sd false sx sy sp si st tx ty tp ti tt = some true := fun k => by
    simp only [imageeditorlaw26_DynamicsBounds.j1]
    rw [if_neg (by simp), src_f, src_f]
    simp only [bsome]
    rw [b5, beq_self_eq_true]
  unfold imageeditorlaw26_DynamicsBounds.f
  rw [spd_f _ (by omega), src_f, val_f _ (by omega), awake26 _ (by omega)]
  simp only [bsome, if_true]
  rw [if_neg (by omega), if_neg (by omega), if_neg (by omega), if_neg (by omega), if_neg (by omega), decide_eq_false (by omega)]
  obtain ⟨K, hK⟩ : ∃ K, 298 + 1 = K := ⟨_, rfl⟩
  rw [show 300 = K + 1 from by omega]
  simp only [imageeditorlaw26_DynamicsBounds.j0]
  rw [if_neg (by simp), ← hK]
  by_cases c : ix < 9223372036854775807
  · rw [if_pos c, src_f, src_f]
    simp only [bsome]
    rw [w64 (n := ix + 1) (by omega) (by omega), decide_eq_false (by omega), b6]
  · rw [if_neg c, b6]
end Go.Proofs.Ytpjmpmgomealmaa.Num
