/-
  A row's slice is no longer than its weight allows; what came in is a footprint below the heap's end. No condition.
-/
import Derived.Test.YtpjmpmgomealmaaKinds
import Derived.Test.YtpjmpmgomealmaaDyVc
import Derived.SizedLaws
import Derived.ChangeSlices
namespace Go.Proofs.Ytpjmpmgomealmaa.Opn
open Go.RowKit Go.ChangeShapes Go.WideShapes Go.Proofs.YtpjmpmgomealmaaW.PrintWords Go.Proofs.Ytpjmpmgomealmaa.Dy
theorem sized_any {H : Type} {enc : TypeId × Value → H} {P : Program} {W : World} {base : Nat} {spare : Nat → Bool} {held : Bool} {t e : TypeId} {a : Option Addr} {len cap : Nat} {d : DataW H} {ps : List MemPlace} {ts : List TypeId} {ds : List (DataW H)} {j : Nat}
    (hsz : (DataW.weightsEach P ts ds).all (· ≤ reachBytes) = true) (ht : ts[j]? = some t) (hd : ds[j]? = some d) (hu : P.underlying t = some (.slice e)) {B : Nat} (hB : P.bytesOf e = B)
    (h : DataW.Trod enc P W base spare held t (.slice a len cap) d ps) : len * B ≤ 140737488351232 := by
  obtain ⟨fuel, hf⟩ := h
  rcases DataW.trod_slice hu hf with ⟨hcs, _⟩ | ⟨x, l, c, elems, rest, n, _, hcs, hx, _, hl, _, hlen, _⟩
  · simp [Value.cells] at hcs
    obtain ⟨_, rfl, _⟩ := hcs
    simp
  · simp [Value.cells] at hcs
    obtain ⟨_, rfl, _⟩ := hcs
    obtain ⟨hx, _⟩ := Prod.mk.inj hx
    subst hx
    have z := sized_slice hsz ht hd hu
    rw [hB, List.length_map, List.length_map, hlen] at z
    exact Nat.le_trans (Nat.mul_le_mul_right _ (Nat.le_add_right _ _)) z
theorem heap_knot : Kd.Heap k60 := Kd.heap_iso _ (Kd.heap_pair (Kd.heap_int _) (Kd.heap_int _))
theorem heap_dyn : Kd.Heap k56 := Kd.heap_iso _ (Kd.heap_pair (Kd.heap_int _) (Kd.heap_pair (Kd.heap_int _) (Kd.heap_slice _ heap_knot)))
theorem share {α : Type} {d : Kd α} {e : Nat} {w : World} {base : Nat} {A : Option Addr} {c : Nat} {l : List α} (hd : Kd.Heap d) (hc : l.length ≤ c) (hr : Kd.C d w A l.length l) : Kd.V d e w base (fun k => k < w.heap.size) (.slice A l.length c) l :=
  Kd.V_mk hc (Kd.C_F hd hr)
theorem op_dyn_K {w : World} {x : S56} {cs : List Value} (h : k56.K w x cs) : ∃ s c, cs = [.int .i64 x.f0, .int .i64 x.f1, .slice s x.f2.length c] ∧ x.f2.length ≤ c ∧ Kd.C k60 w s x.f2.length x.f2 := by
  obtain ⟨_, _, rfl, rfl, _, _, rfl, rfl, s, c, rfl, hc, hr⟩ := h
  exact ⟨s, c, rfl, hc, hr⟩
end Go.Proofs.Ytpjmpmgomealmaa.Opn
