/-
  RandomSources walked: any calls of two sources with one seed, and of others, answer what the reference's source answers. No condition.
-/
import Derived.Test.YtpjmpmgomealmaaRns
import Derived.Outline
namespace Go.Proofs.Ytpjmpmgomealmaa.Rns
open Go.RowKit Go.Proofs.YtpjmpmgomealmaaW.PrintWords Go.Proofs.YtpjmpmgomealmaaW.PrintLast Go.Proofs.YtpjmpmgomealmaaW.PrintMore Go.Proofs.Ytpjmpmgomealmaa.Ra Go.Proofs.Ytpjmpmgomealmaa.Ran
/-- A source of the program at block g (it came into being behind w), its index i. -/
def Src (w W : World) (g : Nat) (s i : Int) : Prop := IsS40 w W g s i true
/-- A source of the reference. -/
def Ref (w W : World) (g : Nat) (s i : Int) : Prop := IsS68 w W g s i true
theorem keep_lt {W W' : World} {g g' : Nat} {cs : Array Value} {t : TypeId} {fr : Nat × Nat} (h : W.heap[g']? = some (.cells cs t fr)) (hk : KeepBut W W' g none) (hne : g' ≠ g) : W'.heap[g']? = some (.cells cs t fr) :=
  (hk.2 g' (Array.getElem?_eq_some_iff.1 h).1 hne (by simp)).trans h
theorem Src.keep {w W W' : World} {g g' : Nat} {s i : Int} (h : Src w W g' s i) (hk : KeepBut W W' g none) (hne : g' ≠ g) : Src w W' g' s i := ⟨keep_lt h.1 hk hne, h.2⟩
theorem Ref.keep {w W W' : World} {g g' : Nat} {s i : Int} (h : Ref w W g' s i) (hk : KeepBut W W' g none) (hne : g' ≠ g) : Ref w W' g' s i := ⟨keep_lt h.1 hk hne, h.2⟩
theorem Src.ne_ref {w W : World} {g g' : Nat} {s i s' i' : Int} (h : Src w W g s i) (k : Ref w W g' s' i') : g ≠ g' := by
  intro e
  subst e
  have := h.1.symm.trans k.1
  simp at this
/-- What a call of a source's Next with the index i tells. -/
def nx (s i : Int) : Int := num s (wrap64 (wrap64 (i + 1) - 1)) 0
theorem next_f (s i : Int) : random_Source_Next.f s i true = some (nx s i, s, wrap64 (i + 1), true) := by
  unfold random_Source_Next.f
  rw [if_pos rfl, at_f]
  exact bsome _ _
theorem refNext_f (s i : Int) : imageeditorref25_Source_Next.f s i true = some (nx s i, s, wrap64 (i + 1), true) := by
  unfold imageeditorref25_Source_Next.f
  rw [if_pos rfl, refAt_f]
  exact bsome _ _
theorem srcBelow_f (s i n : Int) : srcBelow s i true n = some (under (nx s i) n, s, wrap64 (i + 1), true) := by
  unfold srcBelow
  rw [if_pos rfl, below_f]
  exact bsome _ _
theorem refSrcBelow_f (s i n : Int) : refSrcBelow s i true n = some (under (nx s i) n, s, wrap64 (i + 1), true) := by
  unfold refSrcBelow
  rw [if_pos rfl, refBelow_f]
  exact bsome _ _
theorem c_next (g : Nat) (s i : Int) (w W : World) (h : Src w W g s i) (hB : Below w.heap.size w W) :
    Calls Try.prog 26 #[.pointer (some ⟨g, 0, none⟩)] W fun e w' => e = .returned (.int .u32 (nx s i)) ∧ Src w w' g s (wrap64 (i + 1)) ∧ Below w.heap.size w w' ∧ KeepBut W w' g none :=
  random_Source_Next.calls g s i true _ _ _ _ w W h hB (next_f s i)
theorem c_refNext (g : Nat) (s i : Int) (w W : World) (h : Ref w W g s i) (hB : Below w.heap.size w W) :
    Calls Try.prog 27 #[.pointer (some ⟨g, 0, none⟩)] W fun e w' => e = .returned (.int .u32 (nx s i)) ∧ Ref w w' g s (wrap64 (i + 1)) ∧ Below w.heap.size w w' ∧ KeepBut W w' g none :=
  imageeditorref25_Source_Next.calls g s i true _ _ _ _ w W h hB (refNext_f s i)
theorem c_below (g : Nat) (s i n : Int) (w W : World) (h : Src w W g s i) (hB : Below w.heap.size w W) :
    Calls Try.prog 29 #[.pointer (some ⟨g, 0, none⟩), .int .i64 n] W fun e w' => e = .returned (.int .i64 (under (nx s i) n)) ∧ Src w w' g s (wrap64 (i + 1)) ∧ Below w.heap.size w w' ∧ KeepBut W w' g none :=
  source_below g s i true n _ _ _ _ w W h hB (srcBelow_f s i n)
theorem c_refBelow (g : Nat) (s i n : Int) (w W : World) (h : Ref w W g s i) (hB : Below w.heap.size w W) :
    Calls Try.prog 28 #[.pointer (some ⟨g, 0, none⟩), .int .i64 n] W fun e w' => e = .returned (.int .i64 (under (nx s i) n)) ∧ Ref w w' g s (wrap64 (i + 1)) ∧ Below w.heap.size w w' ∧ KeepBut W w' g none :=
  refSource_below g s i true n _ _ _ _ w W h hB (refSrcBelow_f s i n)
theorem c_new (s : Int) (w W : World) (hB : Below w.heap.size w W) :
    Calls Try.prog 24 #[.int .i64 s] W fun e w' => ∃ g, e = .returned (.pointer (some ⟨g, 0, none⟩)) ∧ W.heap.size ≤ g ∧ Src w w' g s 0 ∧ Below w.heap.size w w' ∧ Below W.heap.size W w' :=
  (random_New.calls s s 0 true W W (Below.refl _ _) rfl).mono fun _ _ ⟨g, e, h, _, b⟩ => ⟨g, e, h.2, ⟨h.1, Nat.le_trans hB.size h.2⟩, hB.trans (b.mono hB.size), b⟩
theorem c_refNew (s : Int) (w W : World) (hB : Below w.heap.size w W) :
    Calls Try.prog 25 #[.int .i64 s] W fun e w' => ∃ g, e = .returned (.pointer (some ⟨g, 0, none⟩)) ∧ W.heap.size ≤ g ∧ Ref w w' g s 0 ∧ Below w.heap.size w w' ∧ Below W.heap.size W w' :=
  (imageeditorref25_New.calls s s 0 true W W (Below.refl _ _) rfl).mono fun _ _ ⟨g, e, h, _, b⟩ => ⟨g, e, h.2, ⟨h.1, Nat.le_trans hB.size h.2⟩, hB.trans (b.mono hB.size), b⟩
theorem Src.below {w W W' : World} {g : Nat} {s i : Int} (h : Src w W g s i) (hb : Below W.heap.size W W') : Src w W' g s i := h.keep (g := W.heap.size) (KeepBut.of_below hb _ _) (Nat.ne_of_lt (Array.getElem?_eq_some_iff.1 h.1).1)
theorem Src.lt {w W : World} {g : Nat} {s i : Int} (h : Src w W g s i) : g < W.heap.size := (Array.getElem?_eq_some_iff.1 h.1).1
/-- The four sources at a round's head. -/
structure Four (w W : World) (ga gb gc gx : Nat) (seed other i : Int) : Prop where
  a : Src w W ga seed i
  b : Src w W gb seed i
  c : Src w W gc other i
  x : Ref w W gx seed i
  B : Below w.heap.size w W

theorem sources_calls (seed other : Int) (A : Option Addr) (c : Nat) (l : List Int) (w : World) (hr : ReadsInt w .i64 A l.length l) :
    Calls Try.prog 6 #[.int .i64 seed, .slice A l.length c, .int .i64 other] w fun e w' => e = .returned (.bool true) ∧ Below w.heap.size w w' := by
  have HR := Aside0.mk hr
  have HX := Aside0.mk example_f
  clear hr
  go_enter Try.func6, Try.ntmps6
  go_wp2_with fail
  refine (c_new seed w w (Below.refl _ _)).mono ?_
  rintro e w1 ⟨ga, rfl, _, sa, hB, hb⟩
  have SA := Aside0.mk sa
  have HB := Aside0.mk hB
  clear sa hB hb
  go_wp2_with fail
  refine (c_new seed w w1 HB.out).mono ?_
  rintro e w2 ⟨gb, rfl, hgb, sb, hB, hb⟩
  have hab : ga ≠ gb := Nat.ne_of_lt (Nat.lt_of_lt_of_le SA.out.lt hgb)
  have SA2 := Aside0.mk (SA.out.below hb)
  have SB := Aside0.mk sb
  have HB2 := Aside0.mk hB
  clear sb hB hb hgb SA HB
  have NAB := Aside0.mk hab
  clear hab
  go_wp2_with fail
  refine (c_new other w w2 HB2.out).mono ?_
  rintro e w3 ⟨gc, rfl, hgc, sc, hB, hb⟩
  have NAC := Aside0.mk (Nat.ne_of_lt (Nat.lt_of_lt_of_le SA2.out.lt hgc))
  have NBC := Aside0.mk (Nat.ne_of_lt (Nat.lt_of_lt_of_le SB.out.lt hgc))
  have SA3 := Aside0.mk (SA2.out.below hb)
  have SB3 := Aside0.mk (SB.out.below hb)
  have SC := Aside0.mk sc
  have HB3 := Aside0.mk hB
  clear sc hB hb hgc SA2 SB HB2
  go_wp2_with fail
  refine (c_refNew seed w w3 HB3.out).mono ?_
  rintro e w4 ⟨gx, rfl, hgx, sx, hB, hb⟩
  have F := Aside0.mk (Four.mk (SA3.out.below hb) (SB3.out.below hb) (SC.out.below hb) sx hB : Four w w4 ga gb gc gx seed other 0)
  clear sx hB hb hgx SA3 SB3 SC HB3
  go_wp2_with fail
  go_loopw [11] (fun i W => ∃ k : Nat, k ≤ l.length ∧ i = .int .i64 k ∧ Aside0 (Four w W ga gb gc gx seed other k)) (fun i _ => l.length - (intOf i).toNat)
  case atStart => exact ⟨0, Nat.zero_le _, rfl, F⟩
  case round =>
    obtain ⟨W, rfl⟩ : ∃ W : World, W = wr := ⟨_, rfl⟩
    obtain ⟨k, hk, rfl, F1⟩ := hrel
    clear F
    have hlen := HR.out.2.1
    have NAX := Aside0.mk (F1.out.a.ne_ref F1.out.x)
    have NBX := Aside0.mk (F1.out.b.ne_ref F1.out.x)
    have NCX := Aside0.mk (F1.out.c.ne_ref F1.out.x)
    by_cases hlt : k < l.length
    · obtain ⟨ad, eA, hc⟩ := HR.out.at_ k (by omega) (by omega)
      subst eA
      rw [Int.toNat_natCast] at hc
      have HC := Aside0.mk hc
      have HCL := Aside0.mk (World.block_lt_of_cell? w _ hc)
      clear hc
      have hk1 : wrap64 ((k : Int) + 1) = (k : Int) + 1 := by unfold wrap64; omega
      have HK1 := Aside0.mk hk1
      clear hk1
      go_wp2_with fail
      refine (c_next gc other k w W F1.out.c F1.out.B).mono ?_
      rintro e W1 ⟨rfl, sc, hB, hK⟩
      rw [HK1.out] at sc
      have SA := Aside0.mk (F1.out.a.keep hK NAC.out)
      have SB := Aside0.mk (F1.out.b.keep hK NBC.out)
      have SX := Aside0.mk (F1.out.x.keep hK (Ne.symm NCX.out))
      have SC := Aside0.mk sc
      have HB := Aside0.mk hB
      clear sc hB hK F1
      have hc1 := (HB.out.cell HCL.out).trans HC.out
      by_cases hz : rd l k = 0
      · have hzb : (rd l k == 0) = true := beq_iff_eq.mpr hz
        clear hz
        go_wp2_with fail
        clear hc1
        refine (c_refNext gx seed k w W1 SX.out HB.out).mono ?_
        rintro e W2 ⟨rfl, sx, hB, hK⟩
        rw [HK1.out] at sx
        have SA2 := Aside0.mk (SA.out.keep hK NAX.out)
        have SB2 := Aside0.mk (SB.out.keep hK NBX.out)
        have SC2 := Aside0.mk (SC.out.keep hK NCX.out)
        have SX2 := Aside0.mk sx
        have HB2 := Aside0.mk hB
        clear sx hB hK SA SB SC SX HB
        have hne : (nx seed k != nx seed k) = false := by simp
        go_wp2_with fail
        refine (c_next ga seed k w W2 SA2.out HB2.out).mono ?_
        rintro e W3 ⟨rfl, sa, hB, hK⟩
        rw [HK1.out] at sa
        have SB3 := Aside0.mk (SB2.out.keep hK (Ne.symm NAB.out))
        have SC3 := Aside0.mk (SC2.out.keep hK (Ne.symm NAC.out))
        have SX3 := Aside0.mk (SX2.out.keep hK (Ne.symm NAX.out))
        have SA3 := Aside0.mk sa
        have HB3 := Aside0.mk hB
        clear sa hB hK SA2 SB2 SC2 SX2 HB2
        go_wp2_with fail
        refine (c_next gb seed k w W3 SB3.out HB3.out).mono ?_
        rintro e W4 ⟨rfl, sb, hB, hK⟩
        rw [HK1.out] at sb
        have F2 := Aside0.mk (Four.mk (SA3.out.keep hK NAB.out) sb (SC3.out.keep hK (Ne.symm NBC.out)) (SX3.out.keep hK (Ne.symm NBX.out)) hB : Four w W4 ga gb gc gx seed other (k + 1))
        clear sb hB hK SA3 SB3 SC3 SX3 HB3
        go_wp2_with fail
        go_roundw
        case rel => exact ⟨k + 1, by omega, by go_num, F2⟩
        case measure => simp [intOf]; omega
      · have hzb : (rd l k == 0) = false := beq_eq_false_iff_ne.mpr hz
        clear hz
        go_wp2_with fail
        refine (c_refBelow gx seed k (rd l k) w W1 SX.out HB.out).mono ?_
        rintro e W2 ⟨rfl, sx, hB, hK⟩
        clear hc1
        rw [HK1.out] at sx
        have SA2 := Aside0.mk (SA.out.keep hK NAX.out)
        have SB2 := Aside0.mk (SB.out.keep hK NBX.out)
        have SC2 := Aside0.mk (SC.out.keep hK NCX.out)
        have SX2 := Aside0.mk sx
        have HB2 := Aside0.mk hB
        clear sx hB hK SA SB SC SX HB
        have hc2 := (HB2.out.cell HCL.out).trans HC.out
        have hne : (under (nx seed k) (rd l k) != under (nx seed k) (rd l k)) = false := by simp
        go_wp2_with fail
        refine (c_below ga seed k (rd l k) w W2 SA2.out HB2.out).mono ?_
        rintro e W3 ⟨rfl, sa, hB, hK⟩
        clear hc2
        rw [HK1.out] at sa
        have SB3 := Aside0.mk (SB2.out.keep hK (Ne.symm NAB.out))
        have SC3 := Aside0.mk (SC2.out.keep hK (Ne.symm NAC.out))
        have SX3 := Aside0.mk (SX2.out.keep hK (Ne.symm NAX.out))
        have SA3 := Aside0.mk sa
        have HB3 := Aside0.mk hB
        clear sa hB hK SA2 SB2 SC2 SX2 HB2
        have hc3 := (HB3.out.cell HCL.out).trans HC.out
        go_wp2_with fail
        refine (c_below gb seed k (rd l k) w W3 SB3.out HB3.out).mono ?_
        rintro e W4 ⟨rfl, sb, hB, hK⟩
        clear hc3
        rw [HK1.out] at sb
        have F2 := Aside0.mk (Four.mk (SA3.out.keep hK NAB.out) sb (SC3.out.keep hK (Ne.symm NBC.out)) (SX3.out.keep hK (Ne.symm NBX.out)) hB : Four w W4 ga gb gc gx seed other (k + 1))
        clear sb hB hK SA3 SB3 SC3 SX3 HB3
        go_wp2_with fail
        go_roundw
        case rel => exact ⟨k + 1, by omega, by go_num, F2⟩
        case measure => simp [intOf]; omega
    · have hke : k = l.length := by omega
      have HE := Aside0.mk hke
      clear hke
      go_wp2_with fail
      refine (c_next ga seed k w W F1.out.a F1.out.B).mono ?_
      rintro e W1 ⟨rfl, _, hB, hK⟩
      have SX := Aside0.mk (F1.out.x.keep hK (Ne.symm NAX.out))
      have HB := Aside0.mk hB
      clear hB hK
      have heq : (nx seed k == nx seed k) = true := by simp
      go_wp2_with fail
      refine (c_refNext gx seed k w W1 SX.out HB.out).mono ?_
      rintro e W2 ⟨rfl, _, hB, _⟩
      have HB2 := Aside0.mk hB
      clear hB
      go_wp2_with fail
      refine (imageeditorlaw25_example.calls 10 true _ HX.out).mono ?_
      rintro e W3 ⟨rfl, hb⟩
      have HB3 := Aside0.mk (HB2.out.trans (hb.mono HB2.out.size))
      clear hb
      go_wp2_with fail
      go_ret
      exact ⟨rfl, HB3.out⟩
end Go.Proofs.Ytpjmpmgomealmaa.Rns
