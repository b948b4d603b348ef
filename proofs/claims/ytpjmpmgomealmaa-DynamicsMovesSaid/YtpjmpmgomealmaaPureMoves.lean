/-
  DynamicsMoves over numbers: Speed does not change if both points are exchanged, if both are moved by the same vector, or if both times grow by the same number (small numbers). Conditions: the numbers are of their kinds.
-/
import Derived.Test.YtpjmpmgomealmaaPureDyn
import Derived.Test.YtpjmpmgomealmaaDyx14
namespace Go.Proofs.Ytpjmpmgomealmaa.Num
open Go.RowKit Go.Proofs.YtpjmpmgomealmaaW.PrintWords Go.Proofs.YtpjmpmgomealmaaW.PrintLast Go.Proofs.YtpjmpmgomealmaaW.PrintMore Go.Proofs.Ytpjmpmgomealmaa.Dy

theorem wf16 {n : Int} (h : (Lit.int .i16 n).wf = true) : -32768 ≤ n ∧ n < 32768 := by
  simp [Lit.wf, IntKind.min, IntKind.max, IntKind.signed, IntKind.bits] at h
  omega
theorem wfu16 {n : Int} (h : (Lit.int .u16 n).wf = true) : 0 ≤ n ∧ n < 65536 := by
  simp [Lit.wf, IntKind.min, IntKind.max, IntKind.signed, IntKind.bits] at h
  omega
theorem clP_same (x : Int) (h0 : -16777216 ≤ x) (h1 : x ≤ 16777216) : clP x = x := by unfold clP mn mx; (repeat' split) <;> omega
theorem clT_same (x : Int) (h0 : 0 ≤ x) (h1 : x ≤ 1073741824) : clT x = x := by unfold clT mn mx; (repeat' split) <;> omega
theorem hyp_neg (x y u v : Int) (hx : u = -x) (hy : v = -y) : hyp x y = hyp u v := by
  subst hx
  subst hy
  unfold hyp
  rw [Int.neg_mul_neg, Int.neg_mul_neg]
/-- Of small numbers. -/
theorem spd_small (ax ay at' bx by' bt : Int) (h1 : -1000000 ≤ ax ∧ ax ≤ 1000000) (h2 : -1000000 ≤ ay ∧ ay ≤ 1000000) (h3 : 0 ≤ at' ∧ at' ≤ 1000000) (h4 : -1000000 ≤ bx ∧ bx ≤ 1000000) (h5 : -1000000 ≤ by' ∧ by' ≤ 1000000) (h6 : 0 ≤ bt ∧ bt ≤ 1000000) :
    spd ax ay at' bx by' bt = if bt - at' ≤ 0 then 0 else uni (rdiv (hyp (bx - ax) (by' - ay) * 65535) (64 * (bt - at'))) := by
  unfold spd
  rw [clT_same bt (by omega) (by omega), clT_same at' (by omega) (by omega), clP_same bx (by omega) (by omega), clP_same ax (by omega) (by omega), clP_same by' (by omega) (by omega), clP_same ay (by omega) (by omega)]
theorem swapped (ax ay bx by' f g : Int) (h1 : -100000 ≤ ax ∧ ax ≤ 100000) (h2 : -100000 ≤ ay ∧ ay ≤ 100000) (h4 : -100000 ≤ bx ∧ bx ≤ 100000) (h5 : -100000 ≤ by' ∧ by' ≤ 100000) (h3 : 0 ≤ f ∧ f ≤ 100000) (h6 : 0 ≤ g ∧ g ≤ 100000) :
    spd bx by' f ax ay (f + g) = spd ax ay f bx by' (f + g) := by
  rw [spd_small _ _ _ _ _ _ (by omega) (by omega) (by omega) (by omega) (by omega) (by omega), spd_small _ _ _ _ _ _ (by omega) (by omega) (by omega) (by omega) (by omega) (by omega), hyp_neg (ax - bx) (ay - by') (bx - ax) (by' - ay) (by omega) (by omega)]
theorem shifted (ax ay bx by' f g dx dy l : Int) (h1 : -100000 ≤ ax ∧ ax ≤ 100000) (h2 : -100000 ≤ ay ∧ ay ≤ 100000) (h4 : -100000 ≤ bx ∧ bx ≤ 100000) (h5 : -100000 ≤ by' ∧ by' ≤ 100000) (h3 : 0 ≤ f ∧ f ≤ 100000) (h6 : 0 ≤ g ∧ g ≤ 100000) (h7 : -100000 ≤ dx ∧ dx ≤ 100000) (h8 : -100000 ≤ dy ∧ dy ≤ 100000) (h9 : 0 ≤ l ∧ l ≤ 100000) :
    spd (ax + dx) (ay + dy) (f + l) (bx + dx) (by' + dy) (f + g + l) = spd ax ay f bx by' (f + g) := by
  rw [spd_small _ _ _ _ _ _ (by omega) (by omega) (by omega) (by omega) (by omega) (by omega), spd_small _ _ _ _ _ _ (by omega) (by omega) (by omega) (by omega) (by omega) (by omega), show bx + dx - (ax + dx) = bx - ax by omega, show by' + dy - (ay + dy) = by' - ay by omega, show f + g + l - (f + l) = f + g - f by omega]
theorem moves (a0 a1 a2 a3 a4 a5 a6 a7 a8 : Int) (h0 : (Lit.int .i16 a0).wf = true) (h1 : (Lit.int .i16 a1).wf = true) (h2 : (Lit.int .i16 a2).wf = true) (h3 : (Lit.int .i16 a3).wf = true) (h4 : (Lit.int .i16 a4).wf = true) (h5 : (Lit.int .i16 a5).wf = true) (h6 : (Lit.int .u16 a6).wf = true) (h7 : (Lit.int .u16 a7).wf = true) (h8 : (Lit.int .u16 a8).wf = true) (w : World) :
    Calls Try.prog 14 #[.int .i16 a0, .int .i16 a1, .int .i16 a2, .int .i16 a3, .int .i16 a4, .int .i16 a5, .int .u16 a6, .int .u16 a7, .int .u16 a8] w fun e w' => e = .returned (.bool true) ∧ Below w.heap.size w w' := by
  have b0 := wf16 h0
  have b1 := wf16 h1
  have b2 := wf16 h2
  have b3 := wf16 h3
  have b4 := wf16 h4
  have b5 := wf16 h5
  have b6 := wfu16 h6
  have b7 := wfu16 h7
  have b8 := wfu16 h8
  have e1 := swapped a0 a1 a2 a3 a6 a7 (by omega) (by omega) (by omega) (by omega) (by omega) (by omega)
  have e2 := shifted a0 a1 a2 a3 a6 a7 a4 a5 a8 (by omega) (by omega) (by omega) (by omega) (by omega) (by omega) (by omega) (by omega) (by omega)
  refine imageeditorlaw26_DynamicsMoves.calls 300 a0 a1 a2 a3 a4 a5 a6 a7 a8 true w (awake26 300 (by omega)) ?_ ?_
  · intro x y hx hy
    rw [w64 (n := a0) (by omega) (by omega), w64 (n := a1) (by omega) (by omega), w64 (n := a2) (by omega) (by omega), w64 (n := a3) (by omega) (by omega), w64 (n := a6) (by omega) (by omega), w64 (n := a7) (by omega) (by omega), w64 (n := a6 + a7) (by omega) (by omega), spd_f _ (by omega)] at hx hy
    rw [e1] at hy
    exact Option.some.inj (hy.symm.trans hx)
  · unfold imageeditorlaw26_DynamicsMoves.f
    rw [w64 (n := a0) (by omega) (by omega), w64 (n := a1) (by omega) (by omega), w64 (n := a2) (by omega) (by omega), w64 (n := a3) (by omega) (by omega), w64 (n := a4) (by omega) (by omega), w64 (n := a5) (by omega) (by omega), w64 (n := a6) (by omega) (by omega), w64 (n := a7) (by omega) (by omega), w64 (n := a8) (by omega) (by omega), w64 (n := a6 + a7) (by omega) (by omega), w64 (n := a0 + a4) (by omega) (by omega), w64 (n := a1 + a5) (by omega) (by omega), w64 (n := a2 + a4) (by omega) (by omega), w64 (n := a3 + a5) (by omega) (by omega), w64 (n := a6 + a8) (by omega) (by omega), w64 (n := a6 + a7 + a8) (by omega) (by omega)]
    rw [spd_f _ (by omega), awake26 _ (by omega)]
    simp only [bsome, if_true]
    rw [spd_f _ (by omega), e1]
    simp only [bsome, if_true]
    rw [spd_f _ (by omega), e2]
    simp only [bsome]
    rw [beq_self_eq_true]
end Go.Proofs.Ytpjmpmgomealmaa.Num
