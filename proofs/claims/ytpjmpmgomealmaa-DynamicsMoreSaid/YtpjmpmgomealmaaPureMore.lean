/-
  DynamicsMore over lists: one more element at the end changes Value only if it has the target, and then by what it contributes; an element whose curve is Unit everywhere changes nothing. Condition: the list is no longer than memory allows.
-/
import Derived.Test.YtpjmpmgomealmaaPureDyn
import Derived.Test.YtpjmpmgomealmaaDyx15
namespace Go.Proofs.Ytpjmpmgomealmaa.Num
open Go.RowKit Go.Proofs.YtpjmpmgomealmaaW.PrintWords Go.Proofs.YtpjmpmgomealmaaW.PrintLast Go.Proofs.YtpjmpmgomealmaaW.PrintMore Go.Proofs.Ytpjmpmgomealmaa.Dy

abbrev DY : Type := S56
theorem el_app (l : List DY) (x : DY) (i : Int) (h0 : 0 ≤ i) (h : i < l.length) : el (l ++ [x]) i = el l i := by
  unfold el rd_T56
  rw [List.getD_eq_getElem?_getD, List.getD_eq_getElem?_getD, List.getElem?_append_left (by omega)]
theorem el_last (l : List DY) (x : DY) : el (l ++ [x]) l.length = x := by
  unfold el rd_T56
  rw [List.getD_eq_getElem?_getD, List.getElem?_append_right (by omega)]
  simp
theorem dc_app (l : List DY) (x : DY) (d : Nat) : ∀ i : Int, 0 ≤ i → i + d = l.length → dc (l ++ [x]) (d + 1) i = if dc l d i = 0 then dc [x] 1 0 else dc l d i := by
  induction d with
  | zero =>
    intro i h0 h
    have e : i = l.length := by omega
    subst e
    have e0 : el [x] 0 = x := rfl
    simp only [dc]
    rw [el_last, e0, if_pos trivial]
  | succ d ih =>
    intro i h0 h
    have e := ih (i + 1) (by omega) (by omega)
    rw [show dc (l ++ [x]) (d + 1 + 1) i = if dbad (el (l ++ [x]) i) then 8 else if ccheck (el (l ++ [x]) i).f2 = 0 then dc (l ++ [x]) (d + 1) (i + 1) else ccheck (el (l ++ [x]) i).f2 from Eq.trans rfl rfl, show dc l (d + 1) i = if dbad (el l i) then 8 else if ccheck (el l i).f2 = 0 then dc l d (i + 1) else ccheck (el l i).f2 from Eq.trans rfl rfl, el_app l x i h0 (by omega), e]
    by_cases c1 : dbad (el l i)
    · rw [if_pos c1, if_pos c1, if_neg (by omega)]
    · rw [if_neg c1, if_neg c1]
      by_cases c2 : ccheck (el l i).f2 = 0
      · rw [if_pos c2, if_pos c2]
      · rw [if_neg c2, if_neg c2, if_neg c2]
theorem dcheck_app (l : List DY) (x : DY) : dcheck (l ++ [x]) = 0 ↔ l.length ≤ 7 ∧ dcheck l = 0 ∧ dc [x] 1 0 = 0 := by
  have e := dc_app l x l.length 0 (by omega) (by omega)
  have hl : (l ++ [x]).length = l.length + 1 := by simp
  unfold dcheck
  rw [hl]
  by_cases c : 8 < (l.length : Int) + 1
  · rw [if_pos (by omega)]
    constructor
    · intro h; omega
    · intro h; omega
  · rw [if_neg (by omega), if_neg (by omega), e]
    by_cases c2 : dc l l.length 0 = 0
    · rw [if_pos c2]
      exact ⟨fun h => ⟨by omega, c2, h⟩, fun h => h.2.2⟩
    · rw [if_neg c2]
      exact ⟨fun h => absurd h c2, fun h => absurd h.2.1 c2⟩
theorem dv_app (l : List DY) (x : DY) (target p ti sp ix sd : Int) (d : Nat) : ∀ i v : Int, 0 ≤ i → i + d = l.length →
    dv (l ++ [x]) target p ti sp ix sd (d + 1) i v = if x.f0 = target then mulU (dv l target p ti sp ix sd d i v) (cat x.f2 (src x.f1 p ti sp ix sd)) else dv l target p ti sp ix sd d i v := by
  induction d with
  | zero =>
    intro i v h0 h
    have e : i = l.length := by omega
    subst e
    simp only [dv]
    rw [el_last]
  | succ d ih =>
    intro i v h0 h
    rw [show dv (l ++ [x]) target p ti sp ix sd (d + 1 + 1) i v = dv (l ++ [x]) target p ti sp ix sd (d + 1) (i + 1) (if (el (l ++ [x]) i).f0 = target then mulU v (cat (el (l ++ [x]) i).f2 (src (el (l ++ [x]) i).f1 p ti sp ix sd)) else v) from Eq.trans rfl rfl, el_app l x i h0 (by omega), ih (i + 1) _ (by omega) (by omega)]
    rfl
theorem val_app (l : List DY) (x : DY) (target p ti sp ix sd : Int) (h : dcheck (l ++ [x]) = 0) :
    val (l ++ [x]) target p ti sp ix sd = if x.f0 = target then mulU (val l target p ti sp ix sd) (cat x.f2 (src x.f1 p ti sp ix sd)) else val l target p ti sp ix sd := by
  obtain ⟨_, h2, _⟩ := (dcheck_app l x).mp h
  have hl : (l ++ [x]).length = l.length + 1 := by simp
  unfold val
  rw [if_pos h, if_pos h2, hl, dv_app l x target p ti sp ix sd l.length 0 65535 (by omega) (by omega)]
/-- The curve that is Unit everywhere. -/
def flat : List S60 := [⟨0, 65535⟩, ⟨1, 65535⟩]
theorem cat_flat (x : Int) (h0 : 0 ≤ x) (h1 : x ≤ 65535) : cat flat x = 65535 := by
  have hc : ccheck flat = 0 := by kernel_rfl
  have k0 : kn flat 0 = ⟨0, 65535⟩ := rfl
  have k1 : kn flat 1 = ⟨1, 65535⟩ := rfl
  unfold cat
  rw [if_pos hc, uni_same x h0 h1]
  have hl : flat.length = 1 + 1 := rfl
  rw [hl]
  simp only [fi, Int.zero_add]
  rw [k0, k1, if_pos h0]
  by_cases c : 1 ≤ x
  · rw [if_pos c]
    unfold seg
    rw [if_neg (by omega), if_pos (by rw [hl]; omega), show (1 : Int) + 1 - 1 = 1 by omega, k1]
  · rw [if_neg c]
    have hx : x = 0 := by omega
    subst hx
    unfold seg
    rw [if_neg (by omega), if_neg (by rw [hl]; omega), show (1 : Int) - 1 = 0 by omega, k0, k1]
    have e : rdiv ((65535 - 65535) * (0 - 0)) (1 - 0) = 0 := by kernel_rfl
    show (65535 : Int) + rdiv ((65535 - 65535) * (0 - 0)) (1 - 0) = 65535
    rw [e]
    rfl
theorem mulU_unit (v : Int) (h0 : 0 ≤ v) (h1 : v ≤ 65535) : mulU v 65535 = v := by
  unfold mulU rdiv
  rw [uni_same v h0 h1, uni_same 65535 (by omega) (by omega)]
  omega
theorem more (l : List DY) (t s : Int) (c : List S60) (target x y p ti tm ix sd : Int) (hl : l.length < 3518437208882) :
    imageeditorlaw26_DynamicsMore.f 300 l t s c target x y p ti tm ix sd = some true := by
  have hlen : (l ++ [(⟨t, s, c⟩ : DY)]).length = l.length + 1 := by simp
  have j0 : ∀ b : Bool, b = (dcheck (l ++ [(⟨t, s, c⟩ : DY)]) != 0) → imageeditorlaw26_DynamicsMore.j0 300 l target ix sd (l ++ [(⟨t, s, c⟩ : DY)]) b t s c x y p ti tm = some true := fun b hb => by
    obtain ⟨K, hK⟩ : ∃ K, 298 + 1 = K := ⟨_, rfl⟩
    rw [show 300 = K + 1 from by omega]
    simp only [imageeditorlaw26_DynamicsMore.j0]
    by_cases hd : dcheck (l ++ [(⟨t, s, c⟩ : DY)]) = 0
    · have hbf : b = false := by rw [hb, hd]; rfl
      obtain ⟨h7, hdl, hx1⟩ := (dcheck_app l ⟨t, s, c⟩).mp hd
      have hv := val_bd l target p ti 0 ix sd
      have hs := src_bd s p ti 0 ix sd
      rw [hbf, if_neg (by simp), val_f K (by omega)]
      simp only [bsome]
      rw [val_f K (by omega)]
      simp only [bsome]
      rw [val_app l ⟨t, s, c⟩ target p ti 0 ix sd hd]
      by_cases ht : t = target
      · rw [if_pos ht, if_pos ht, src_f]
        simp only [bsome]
        rw [cat_f K (by omega)]
        simp only [bsome]
        rw [mul_f]
        simp only [bsome, if_true]
        rw [hlen, w64 (n := ((l.length + 1 : Nat) : Int) - 1) (by omega) (by omega), if_pos (by omega), if_pos (by omega)]
        have hi : (((l.length + 1 : Nat) : Int) - 1) = (l.length : Int) := by omega
        rw [hi]
        have hel : rd_T56 (l ++ [(⟨t, s, c⟩ : DY)]) (l.length : Int) = ⟨t, s, c⟩ := el_last l _
        rw [hel]
        have hset : (l ++ [(⟨t, s, c⟩ : DY)]).set ((l.length : Int)).toNat ⟨t, s, flat⟩ = l ++ [⟨t, s, flat⟩] := by simp
        change ((dynamics_Value.f K ((l ++ [(⟨t, s, c⟩ : DY)]).set ((l.length : Int)).toNat ⟨t, s, flat⟩) target x y p ti tm 0 ix sd).bind _) = _
        rw [hset, val_f K (by omega)]
        simp only [bsome]
        have hd2 : dcheck (l ++ [(⟨t, s, flat⟩ : DY)]) = 0 := by
          refine (dcheck_app l ⟨t, s, flat⟩).mpr ⟨h7, hdl, ?_⟩
          have e0 : el [(⟨t, s, flat⟩ : DY)] 0 = ⟨t, s, flat⟩ := rfl
          have e1 : el [(⟨t, s, c⟩ : DY)] 0 = ⟨t, s, c⟩ := rfl
          simp only [dc] at hx1 ⊢
          rw [e0]
          rw [e1] at hx1
          by_cases hb2 : dbad (⟨t, s, c⟩ : DY)
          · rw [if_pos hb2] at hx1
            omega
          · have hb3 : ¬ dbad (⟨t, s, flat⟩ : DY) := hb2
            have hc : ccheck flat = 0 := by kernel_rfl
            rw [if_neg hb3, if_pos hc]
        rw [val_app l ⟨t, s, flat⟩ target p ti 0 ix sd hd2, if_pos ht, cat_flat _ hs.1 hs.2, mulU_unit _ hv.1 hv.2, beq_self_eq_true]
      · rw [if_neg ht, if_neg ht, beq_self_eq_true]
    · have hbt : b = true := by rw [hb]; exact bne_iff_ne.mpr hd
      rw [hbt, if_pos rfl, awake26 K (by omega)]
      exact bsome _ _
  unfold imageeditorlaw26_DynamicsMore.f
  rw [if_pos (by simp; omega)]
  simp only [bsome]
  rw [if_pos (by simp; omega), List.nil_append, awake26 300 (by omega)]
  simp only [bsome, if_true]
  rw [dcheck_f 300 (by omega)]
  simp only [bsome]
  exact j0 _ rfl
end Go.Proofs.Ytpjmpmgomealmaa.Num
