/-
  Plain facts on the coverage of a dab: moves, mirrors, its range, and where it is zero. No condition.
-/
import Derived.Test.YtlilncnoohfcdaaDabCov
import Derived.Test.YtlilncnoohfcdaaDax19
namespace Go.Proofs.Ytlilncnoohfcdaa.Num
open Go.RowKit Go.Proofs.YtlilncnoohfcdaaW.PrintWords Go.Proofs.YtlilncnoohfcdaaW.PrintLast Go.Proofs.YtlilncnoohfcdaaW.PrintMore Go.Proofs.Ytlilncnoohfcdaa.Da
theorem clC_id (z : Int) (h : -1048576 ≤ z ∧ z ≤ 1048576) : clC z = z := by unfold clC mn mx; (repeat' split) <;> omega
theorem clP_id (z : Int) (h : -16777216 ≤ z ∧ z ≤ 16777216) : clP z = z := by unfold clP mn mx; (repeat' split) <;> omega
theorem rdiv_le (a b c : Int) (hc : 0 < c) (h : a ≤ b) : rdiv a c ≤ rdiv b c := Int.ediv_le_ediv (by omega) (by omega)
theorem rdiv_whole (a b : Int) (hb : 0 < b) : rdiv (a * b) b = a := by
  unfold rdiv
  rw [show 2 * (a * b) + b = b + (2 * b) * a by rw [Int.mul_assoc, Int.mul_comm b a]; omega, Int.add_mul_ediv_left _ _ (by omega), Int.ediv_eq_zero_of_lt (by omega) (by omega)]
  omega
theorem covf_in (f h t : Int) (hf : 0 ≤ f) (h1 : ¬ t ≤ h) (h2 : ¬ t ≥ 65535) : 0 ≤ rdiv (f * (65535 - t)) (65535 - h) ∧ rdiv (f * (65535 - t)) (65535 - h) ≤ f := by
  have a : 0 ≤ f * (65535 - t) := Int.mul_nonneg hf (by omega)
  have b : f * (65535 - t) ≤ f * (65535 - h) := Int.mul_le_mul_of_nonneg_left (by omega) hf
  refine ⟨?_, ?_⟩
  · unfold rdiv
    exact Int.ediv_nonneg (by omega) (by omega)
  · have := rdiv_le _ _ (65535 - h) (by omega) b
    rw [rdiv_whole f (65535 - h) (by omega)] at this
    exact this
theorem covf_bd (f h t : Int) (hf : 0 ≤ f) : 0 ≤ covf f h t ∧ covf f h t ≤ f := by
  unfold covf
  by_cases c1 : t ≤ h
  · rw [if_pos c1]; omega
  · rw [if_neg c1]
    by_cases c2 : t ≥ 65535
    · rw [if_pos c2]; omega
    · rw [if_neg c2]; exact covf_in f h t hf c1 c2
theorem covf_anti (f h t u : Int) (hf : 0 ≤ f) (htu : t ≤ u) : covf f h u ≤ covf f h t := by
  have bu := covf_bd f h u hf
  by_cases c1 : t ≤ h
  · have e : covf f h t = f := if_pos c1
    omega
  · by_cases c2 : u ≥ 65535
    · have e : covf f h u = 0 := by unfold covf; rw [if_neg (by omega), if_pos c2]
      have := covf_bd f h t hf
      omega
    · unfold covf
      rw [if_neg (by omega), if_neg (by omega), if_neg (by omega), if_neg (by omega)]
      exact rdiv_le _ _ _ (by omega) (Int.mul_le_mul_of_nonneg_left (by omega) hf)
theorem covf_hard (f t : Int) : covf f 65535 t = 0 ∨ covf f 65535 t = f := by
  unfold covf
  by_cases c1 : t ≤ 65535
  · rw [if_pos c1]; exact .inr rfl
  · rw [if_neg c1, if_pos (by omega)]; exact .inl rfl
theorem hyp_negl (x y : Int) : hyp (-x) y = hyp x y := by unfold hyp; rw [Int.neg_mul_neg]
theorem hyp_swap (x y : Int) : hyp x y = hyp y x := by unfold hyp; rw [Int.add_comm]
theorem hyp_up (x x' y : Int) (h0 : 0 ≤ x) (hx : x ≤ x') (hx1 : x' ≤ 68719476736) (hy : -68719476736 ≤ y ∧ y ≤ 68719476736) : hyp x y ≤ hyp x' y := by
  obtain ⟨a0, _, a1, a2⟩ := hyp_is x y (by omega) (by omega) (by omega) (by omega)
  obtain ⟨b0, _, b1, b2⟩ := hyp_is x' y (by omega) (by omega) (by omega) (by omega)
  have s := sq_mono x x' h0 hx
  apply Int.le_of_not_gt
  intro c
  have := sq_mono (hyp x' y + 1) (hyp x y) (by omega) (by omega)
  omega
/-- The coverage at (u, v) without an angle. -/
def flat (a1 a2 ck s f u v : Int) : Int :=
  if ck = 0 then (if clS s = 0 then 0 else covf (uni f) a1 (rdiv (65535 * hyp u (rdiv (65535 * (if v < 0 then -v else v)) a2)) (8 * clS s))) else 0
theorem sn_zero : sn ((0 + 0 % 65536) % 65536) = 0 := by kernel_rfl
theorem cs_zero : cs ((0 + 0 % 65536) % 65536) = 65536 := by kernel_rfl
theorem rdiv_unit (v : Int) : rdiv (65536 * v) 65536 = v := by unfold rdiv; omega
theorem covr_flat (s r u v : Int) : covr s r 0 65536 u v = rdiv (65535 * hyp u (rdiv (65535 * (if v < 0 then -v else v)) r)) (8 * s) := by
  unfold covr
  dsimp only
  rw [Int.zero_mul, Int.zero_mul, Int.add_zero, Int.sub_zero, rdiv_unit, rdiv_unit]
theorem cover_flat (a1 a2 ck cx cy s f i j : Int) (hx : -524288 ≤ cx ∧ cx ≤ 524288) (hy : -524288 ≤ cy ∧ cy ≤ 524288) (hi : -262145 ≤ i ∧ i ≤ 262145) (hj : -262145 ≤ j ∧ j ≤ 262145) :
    cover a1 a2 0 ck (16 * cx + 8) (16 * cy + 8) s f 0 (cx + i) (cy + j) = flat a1 a2 ck s f (256 * i) (256 * j) := by
  unfold cover flat
  rw [sn_zero, cs_zero, covr_flat, clC_id (cx + i) (by omega), clC_id (cy + j) (by omega), clP_id (16 * cx + 8) (by omega), clP_id (16 * cy + 8) (by omega),
    show 16 * (16 * (cx + i) + 8 - (16 * cx + 8)) = 256 * i by omega, show 16 * (16 * (cy + j) + 8 - (16 * cy + 8)) = 256 * j by omega]
theorem flat_negu (a1 a2 ck s f u v : Int) : flat a1 a2 ck s f (-u) v = flat a1 a2 ck s f u v := by unfold flat; rw [hyp_negl]
theorem flat_negv (a1 a2 ck s f u v : Int) : flat a1 a2 ck s f u (-v) = flat a1 a2 ck s f u v := by
  unfold flat
  rw [show (if -v < 0 then - -v else -v) = (if v < 0 then -v else v) by (repeat' split) <;> omega]
theorem flat_swap (a1 ck s f u v : Int) (hu : 0 ≤ u) (hv : 0 ≤ v) : flat a1 65535 ck s f v u = flat a1 65535 ck s f u v := by
  unfold flat
  have w (z : Int) (hz : 0 ≤ z) : rdiv (65535 * (if z < 0 then -z else z)) 65535 = z := by
    rw [if_neg (by omega), Int.mul_comm, rdiv_whole z 65535 (by omega)]
  rw [w u hu, w v hv, hyp_swap v u]
theorem flat_up (a1 a2 ck s f u u' v : Int) (h0 : 0 ≤ u) (hu : u ≤ u') (hu1 : u' ≤ 68719476736) (hv : -2147483648 ≤ v ∧ v ≤ 2147483648) (ha : ck = 0 → 4096 ≤ a2) : flat a1 a2 ck s f u' v ≤ flat a1 a2 ck s f u v := by
  unfold flat
  by_cases c : ck = 0
  · rw [if_pos c, if_pos c]
    have hs := clS_bd s
    by_cases c0 : clS s = 0
    · rw [if_pos c0, if_pos c0]; omega
    · rw [if_neg c0, if_neg c0]
      have hz := z_bd (if v < 0 then -v else v) a2 (by split <;> omega) (ha c)
      apply covf_anti _ _ _ _ (uni_bd f).1
      apply rdiv_le _ _ _ (by omega)
      have := hyp_up u u' (rdiv (65535 * (if v < 0 then -v else v)) a2) h0 hu hu1 (by omega)
      omega
  · rw [if_neg c, if_neg c]; omega
theorem flat_hard (a2 ck s f u v : Int) : flat 65535 a2 ck s f u v = 0 ∨ flat 65535 a2 ck s f u v = uni f := by
  unfold flat
  (repeat' split) <;> first | exact .inl rfl | exact covf_hard _ _
theorem cover_bd (a1 a2 a6 ck x y s f a px py : Int) : 0 ≤ cover a1 a2 a6 ck x y s f a px py ∧ cover a1 a2 a6 ck x y s f a px py ≤ uni f := by
  have := uni_bd f
  unfold cover
  (repeat' split) <;> first | omega | exact covf_bd _ _ _ this.1
theorem uni_low (f : Int) (h : 0 < uni f) : uni f ≤ f := by
  unfold uni mn mx at *
  (repeat' split at *) <;> omega
theorem cover_move (a1 a2 a6 ck x y s f a px py i j : Int) (hx : -8388608 ≤ x ∧ x ≤ 8388608) (hy : -8388608 ≤ y ∧ y ≤ 8388608) (hi : -524288 ≤ i ∧ i ≤ 524288) (hj : -524288 ≤ j ∧ j ≤ 524288) (hp : -524288 ≤ px ∧ px ≤ 524288) (hq : -524288 ≤ py ∧ py ≤ 524288) :
    cover a1 a2 a6 ck (x + 16 * i) (y + 16 * j) s f a (px + i) (py + j) = cover a1 a2 a6 ck x y s f a px py := by
  unfold cover
  rw [clC_id (px + i) (by omega), clC_id (py + j) (by omega), clC_id px (by omega), clC_id py (by omega), clP_id (x + 16 * i) (by omega), clP_id (y + 16 * j) (by omega), clP_id x (by omega), clP_id y (by omega),
    show 16 * (16 * (px + i) + 8 - (x + 16 * i)) = 16 * (16 * px + 8 - x) by omega, show 16 * (16 * (py + j) + 8 - (y + 16 * j)) = 16 * (16 * py + 8 - y) by omega]

/-! ### sine and cosine -/
theorem tab_len : ((List.range 64).all fun n => decide (4184100000 ≤ sineTab (n : Int) * sineTab (n : Int) + sineTab (63 - (n : Int)) * sineTab (63 - (n : Int)))) = true := by kernel_rfl
theorem quart_lo (b j : Int) (h0 : 0 ≤ j) (h1 : j < 64) (h2 : 256 * j ≤ b) (h3 : b ≤ 256 * j + 256) : sineTab j ≤ quart b := by
  have t := tab_seg j h0 h1
  unfold quart
  by_cases c : b = 16384
  · rw [if_pos c]; omega
  · rw [if_neg c]
    have r0 (d r : Int) (hd : 0 ≤ d) (hr : 0 ≤ r) : 0 ≤ rdiv (d * r) 256 := by
      have := Int.mul_nonneg hd hr
      unfold rdiv
      omega
    by_cases c1 : b = 256 * j + 256
    · have t1 := tab_seg (j + 1) (by omega) (by omega)
      rw [show b / 256 = j + 1 by omega]
      have := r0 (sineTab (j + 1 + 1) - sineTab (j + 1)) (b % 256) (by omega) (by omega)
      omega
    · rw [show b / 256 = j by omega]
      have := r0 (sineTab (j + 1) - sineTab j) (b % 256) (by omega) (by omega)
      omega
theorem quart_len (a : Int) (h0 : 0 ≤ a) (h1 : a ≤ 16384) : 4184100000 ≤ quart a * quart a + quart (16384 - a) * quart (16384 - a) := by
  have key (i : Int) (i0 : 0 ≤ i) (i1 : i < 64) (h2 : 256 * i ≤ a) (h3 : a ≤ 256 * i + 256) : 4184100000 ≤ quart a * quart a + quart (16384 - a) * quart (16384 - a) := by
    have p := quart_lo a i i0 i1 h2 h3
    have q := quart_lo (16384 - a) (63 - i) (by omega) (by omega) (by omega) (by omega)
    have p0 := (tab_seg i i0 i1).1
    have q0 := (tab_seg (63 - i) (by omega) (by omega)).1
    have m := sq_mono _ _ p0 p
    have n := sq_mono _ _ q0 q
    have l : 4184100000 ≤ sineTab i * sineTab i + sineTab (63 - i) * sineTab (63 - i) := by
      clear p q p0 q0 m n h2 h3
      obtain ⟨n, rfl⟩ := Int.eq_ofNat_of_zero_le i0
      have := List.all_eq_true.1 tab_len n (List.mem_range.2 (by omega))
      exact of_decide_eq_true this
    omega
  by_cases c : a = 16384
  · exact key 63 (by omega) (by omega) (by omega) (by omega)
  · exact key (a / 256) (by omega) (by omega) (by omega) (by omega)
theorem turn_len (a : Int) (h : 0 ≤ a ∧ a < 65536) : 4184100000 ≤ sn a * sn a + cs a * cs a := by
  unfold cs
  by_cases c0 : a / 16384 = 0
  · have e1 : sn a = quart a := if_pos c0
    have e2 : sn ((a + 16384) % 65536) = quart (16384 - a) := by
      unfold sn
      rw [if_neg (by omega), if_pos (by omega), show 32768 - (a + 16384) % 65536 = 16384 - a by omega]
    rw [e1, e2]; exact quart_len a (by omega) (by omega)
  by_cases c1 : a / 16384 = 1
  · have e1 : sn a = quart (32768 - a) := by unfold sn; rw [if_neg c0, if_pos c1]
    have e2 : sn ((a + 16384) % 65536) = -quart (16384 - (32768 - a)) := by
      unfold sn
      rw [if_neg (by omega), if_neg (by omega), if_pos (by omega), show (a + 16384) % 65536 - 32768 = 16384 - (32768 - a) by omega]
    rw [e1, e2, Int.neg_mul_neg]; exact quart_len (32768 - a) (by omega) (by omega)
  by_cases c2 : a / 16384 = 2
  · have e1 : sn a = -quart (a - 32768) := by unfold sn; rw [if_neg c0, if_neg c1, if_pos c2]
    have e2 : sn ((a + 16384) % 65536) = -quart (16384 - (a - 32768)) := by
      unfold sn
      rw [if_neg (by omega), if_neg (by omega), if_neg (by omega), show 65536 - (a + 16384) % 65536 = 16384 - (a - 32768) by omega]
    rw [e1, e2, Int.neg_mul_neg, Int.neg_mul_neg]; exact quart_len (a - 32768) (by omega) (by omega)
  · have e1 : sn a = -quart (65536 - a) := by unfold sn; rw [if_neg c0, if_neg c1, if_neg c2]
    have e2 : sn ((a + 16384) % 65536) = quart (16384 - (65536 - a)) := by
      unfold sn
      rw [if_pos (by omega), show (a + 16384) % 65536 = 16384 - (65536 - a) by omega]
    rw [e1, e2, Int.neg_mul_neg]; exact quart_len (65536 - a) (by omega) (by omega)

/-! ### where a dab can cover -/
theorem lens (c s u v : Int) : (c * u + s * v) * (c * u + s * v) + (c * v - s * u) * (c * v - s * u) = (s * s + c * c) * (u * u + v * v) := by grind
theorem sq_bound (a m : Int) (hm : 0 ≤ m) (h : a * a ≤ m * m) : -m ≤ a ∧ a ≤ m := by
  constructor
  · apply Int.le_of_not_gt
    intro c
    have := Int.mul_le_mul (show m + 1 ≤ -a by omega) (show m + 1 ≤ -a by omega) (by omega) (by omega)
    rw [Int.neg_mul_neg] at this
    have e : (m + 1) * (m + 1) = m * m + m + m + 1 := by grind
    omega
  · apply Int.le_of_not_gt
    intro c
    have := Int.mul_le_mul (show m + 1 ≤ a by omega) (show m + 1 ≤ a by omega) (by omega) (by omega)
    have e : (m + 1) * (m + 1) = m * m + m + m + 1 := by grind
    omega
theorem sq_lo (a P M : Int) (hM : 0 ≤ M) (hP : P * P ≤ M * M) (h0 : 65536 * P - 32768 ≤ a) (h1 : a ≤ 65536 * P + 32768) : a * a ≤ 4294967296 * (P * P) + 4294967296 * M + 1073741824 := by
  have b := sq_bound P M hM hP
  have k (z : Int) (hz : -32768 ≤ z ∧ z ≤ 32768) : (65536 * P + z) * (65536 * P + z) ≤ 4294967296 * (P * P) + 4294967296 * M + 1073741824 := by
    have e : (65536 * P + z) * (65536 * P + z) = 4294967296 * (P * P) + 131072 * (P * z) + z * z := by grind
    have m1 := mul_lim P z M 32768 hM b hz
    have m2 := mul_lim z z 32768 32768 (by omega) hz hz
    omega
  have := k (a - 65536 * P) (by omega)
  rw [show 65536 * P + (a - 65536 * P) = a by omega] at this
  exact this
theorem covr_near (s r sin cos u v : Int) (hs : 1 ≤ s ∧ s ≤ 1024) (B : CovB r sin cos u v) (hC : 4184100000 ≤ sin * sin + cos * cos) (ht : covr s r sin cos u v ≤ 65535) :
    (-(8 * s + 120) ≤ u ∧ u ≤ 8 * s + 120) ∧ (-(8 * s + 120) ≤ v ∧ v ≤ 8 * s + 120) := by
  obtain ⟨b1, b2, b3, b4, b5, b6⟩ := cov_steps B
  unfold covr at ht
  dsimp only at ht
  have ha : 65536 * rdiv (cos * u + sin * v) 65536 - 32768 ≤ cos * u + sin * v ∧ cos * u + sin * v ≤ 65536 * rdiv (cos * u + sin * v) 65536 + 32768 := by unfold rdiv; omega
  have hb : 65536 * rdiv (cos * v - sin * u) 65536 - 32768 ≤ cos * v - sin * u ∧ cos * v - sin * u ≤ 65536 * rdiv (cos * v - sin * u) 65536 + 32768 := by unfold rdiv; omega
  have L := lens cos sin u v
  generalize cos * u + sin * v = a at *
  generalize cos * v - sin * u = b at *
  generalize rdiv a 65536 = p at *
  generalize rdiv b 65536 = w at *
  have hq : 0 ≤ (if w < 0 then -w else w) ∧ (if w < 0 then -w else w) ≤ 2147483648 ∧ (if w < 0 then -w else w) * (if w < 0 then -w else w) = w * w := by
    split
    · exact ⟨by omega, by omega, Int.neg_mul_neg w w⟩
    · exact ⟨by omega, by omega, rfl⟩
  generalize (if w < 0 then -w else w) = q at *
  obtain ⟨q0, q1, q2⟩ := hq
  have hz := z_bd q r ⟨q0, q1⟩ B.r0
  have zq : q ≤ rdiv (65535 * q) r := by
    unfold rdiv
    rw [Int.le_ediv_iff_mul_le (by have := B.r0; omega)]
    have := Int.mul_le_mul_of_nonneg_left B.r1 q0
    have e : q * (2 * r) = 2 * (q * r) := by grind
    have := B.r0
    omega
  generalize rdiv (65535 * q) r = z at *
  obtain ⟨g0, _, g1, g2⟩ := hyp_is p z (by omega) (by omega) (by omega) (by omega)
  generalize hyp p z = g at *
  have gs : g ≤ 8 * s := by
    unfold rdiv at ht
    have := (Int.ediv_lt_iff_lt_mul (show 0 < 2 * (8 * s) by omega)).1 (show (2 * (65535 * g) + 8 * s) / (2 * (8 * s)) < 65536 by omega)
    omega
  have m1 := sq_mono q z q0 zq
  have m2 := sq_mono (g + 1) (8 * s + 1) (by omega) (by omega)
  generalize hM : 8 * s + 1 = M at *
  have pp : 0 ≤ p * p := by have := sq_bd p (by omega) (by omega); omega
  have ww : 0 ≤ w * w := by have := sq_bd w (by omega) (by omega); omega
  have A := sq_lo a p M (by omega) (by omega) ha.1 ha.2
  have Bq := sq_lo b w M (by omega) (by omega) hb.1 hb.2
  have e : (M + 1) * (M + 1) = M * M + M + M + 1 := by grind
  have T : (sin * sin + cos * cos) * (u * u + v * v) ≤ 4294967296 * ((M + 1) * (M + 1)) := by omega
  have uu : 0 ≤ u * u := by have := sq_bd u (by have := B.u0; omega) (by have := B.u0; omega); omega
  have vv : 0 ≤ v * v := by have := sq_bd v (by have := B.v0; omega) (by have := B.v0; omega); omega
  have fin (t tt : Int) (e1 : t * t = tt) (h0 : 0 ≤ tt) (h1 : tt ≤ u * u + v * v) : -(8 * s + 120) ≤ t ∧ t ≤ 8 * s + 120 := by
    have c1 : 4184100000 * tt ≤ (sin * sin + cos * cos) * (u * u + v * v) := Int.mul_le_mul hC h1 h0 (by omega)
    have e2 : (987 * t) * (987 * t) = 974169 * (t * t) := by grind
    have e3 : (1000 * (M + 1)) * (1000 * (M + 1)) = 1000000 * ((M + 1) * (M + 1)) := by grind
    have := sq_bound (987 * t) (1000 * (M + 1)) (by omega) (by omega)
    omega
  exact ⟨fin u (u * u) rfl uu (by omega), fin v (v * v) rfl vv (by omega)⟩
theorem near_box (X h x : Int) (s : Int) (hh : h = (s + 1) / 2) (hx : -1048576 ≤ x ∧ x < 1048576) (n : -(8 * s + 120) ≤ 16 * (16 * x + 8 - X) ∧ 16 * (16 * x + 8 - X) ≤ 8 * s + 120) :
    clC ((X - h) / 16) ≤ x ∧ x < clC ((X + h) / 16 + 1) := by
  have e1 : (X - h) / 16 ≤ x := by omega
  have e2 : x ≤ (X + h) / 16 := by omega
  unfold clC mn mx
  (repeat' split) <;> omega
theorem has_f (x y w h px py : Int) (v : -1048576 ≤ x ∧ x ≤ 1048576 ∧ -1048576 ≤ y ∧ y ≤ 1048576 ∧ 0 ≤ w ∧ 0 ≤ h ∧ x + w ≤ 1048576 ∧ y + h ≤ 1048576) (hx : x ≤ px ∧ px < x + w) (hy : y ≤ py ∧ py < y + h) : rect_Has.f x y w h px py = some true := by
  have sp (a b : Int) (h : -1048576 ≤ a ∧ a ≤ 1048576 ∧ 0 ≤ b ∧ a + b ≤ 1048576) : rect_span.f a b = some true := by
    unfold rect_span.f
    rw [if_pos (by omega), if_pos (by omega), if_pos (by omega), w64 (by omega) (by omega), decide_eq_true (by omega)]
  unfold rect_Has.f rect_known.f rect_Valid.f
  rw [sp x w (by omega), bsome, if_pos rfl, sp y h (by omega), bsome, bsome, if_pos rfl, bsome]
  dsimp only
  rw [if_pos (by omega), w64 (n := x + w) (by omega) (by omega), if_pos (by omega), if_pos (by omega), w64 (n := y + h) (by omega) (by omega), decide_eq_true (by omega)]
theorem cover_box (a1 a2 a6 ck x y s f a px py : Int) (ha : ck = 0 → 0 ≤ a1 ∧ a1 ≤ 65535 ∧ 4096 ≤ a2 ∧ a2 ≤ 65535) (hp : -1048576 ≤ px ∧ px < 1048576) (hq : -1048576 ≤ py ∧ py < 1048576) (h : cover a1 a2 a6 ck x y s f a px py ≠ 0) :
    rect_Has.f (bbox x y s).1 (bbox x y s).2.1 (bbox x y s).2.2.1 (bbox x y s).2.2.2 px py = some true := by
  unfold cover at h
  by_cases c : ck = 0
  · rw [if_pos c] at h
    have ra := ha c
    by_cases c0 : clS s = 0
    · rw [if_pos c0] at h; exact absurd rfl h
    · rw [if_neg c0, clC_id px (by omega), clC_id py (by omega)] at h
      have hs := clS_bd s
      have hx := clP_bd x
      have hy := clP_bd y
      have B : CovB a2 (sn ((a6 + a % 65536) % 65536)) (cs ((a6 + a % 65536) % 65536)) (16 * (16 * px + 8 - clP x)) (16 * (16 * py + 8 - clP y)) := ⟨ra.2.2.1, ra.2.2.2, sn_bd _ (by omega), cs_bd _, by omega, by omega⟩
      have near := covr_near (clS s) a2 _ _ _ _ (by omega) B (turn_len _ (by omega)) (by
        apply Int.le_of_not_gt
        intro g
        exact h (by unfold covf; rw [if_neg (by omega), if_pos (by omega)]))
      have n1 := near_box (clP x) _ px (clS s) rfl hp near.1
      have n2 := near_box (clP y) _ py (clS s) rfl hq near.2
      unfold bbox
      dsimp only
      have b0 := clC_bd ((clP x - (clS s + 1) / 2) / 16)
      have b1 := clC_bd ((clP y - (clS s + 1) / 2) / 16)
      have b2 := clC_bd ((clP x + (clS s + 1) / 2) / 16 + 1)
      have b3 := clC_bd ((clP y + (clS s + 1) / 2) / 16 + 1)
      rw [if_neg (by omega), if_neg (by omega)]
      dsimp only
      exact has_f _ _ _ _ px py (by omega) (by omega) (by omega)
  · rw [if_neg c] at h; exact absurd rfl h
end Go.Proofs.Ytlilncnoohfcdaa.Num
