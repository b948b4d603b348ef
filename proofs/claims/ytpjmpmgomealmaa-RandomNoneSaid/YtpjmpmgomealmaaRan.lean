/-
  Plain facts on the numbers of package random (layer 25): words of 64 bits, the mixing and its inverse, numbers below a limit. No condition.
-/
import Derived.Test.YtpjmpmgomealmaaRax1
import Derived.KernelRfl
namespace Go.Proofs.Ytpjmpmgomealmaa.Ran
open Go.RowKit Go.Proofs.YtpjmpmgomealmaaW.PrintWords Go.Proofs.YtpjmpmgomealmaaW.PrintLast Go.Proofs.YtpjmpmgomealmaaW.PrintMore Go.Proofs.Ytpjmpmgomealmaa.Ra

/-- A number of 64 bits as an integer. -/
def U (b : BitVec 64) : Int := (b.toNat : Int)
theorem U_lt (b : BitVec 64) : 0 ≤ U b ∧ U b < 18446744073709551616 := by
  have := b.isLt
  unfold U
  omega
theorem wrap_eq (x : Int) : IntKind.u64.wrap x = x % 18446744073709551616 := by
  simp [IntKind.wrap, IntKind.signed, IntKind.bits]
theorem wrap_u (x : Int) : IntKind.u64.wrap x = U (BitVec.ofInt 64 x) := by
  rw [wrap_eq]
  unfold U
  rw [BitVec.toNat_ofInt]
  omega
theorem ofInt_U (b : BitVec 64) : BitVec.ofInt 64 (U b) = b := by
  unfold U
  simp
theorem xor_u (a b : BitVec 64) : Go.bits .xor .u64 (U a) (U b) = U (a ^^^ b) := by
  unfold Go.bits
  have e1 := ofInt_U a
  have e2 := ofInt_U b
  simp only [IntKind.bits] at *
  rw [e1, e2]
  show IntKind.u64.wrap (U (a ^^^ b)) = _
  rw [wrap_u, ofInt_U]
theorem mul_u (a b : BitVec 64) : IntKind.u64.wrap (U a * U b) = U (a * b) := by
  rw [wrap_u, BitVec.ofInt_mul, ofInt_U, ofInt_U]
theorem div_u (a : BitVec 64) (n : Nat) : U a / (2 ^ n : Int) = U (a >>> n) := by
  unfold U
  rw [BitVec.toNat_ushiftRight, Nat.shiftRight_eq_div_pow]
  norm_cast

theorem div30 (a : BitVec 64) : U a / (1073741824 : Int) = U (a >>> 30) := div_u a 30
theorem div27 (a : BitVec 64) : U a / (134217728 : Int) = U (a >>> 27) := div_u a 27
theorem div31 (a : BitVec 64) : U a / (2147483648 : Int) = U (a >>> 31) := div_u a 31
theorem div32 (a : BitVec 64) : U a / (4294967296 : Int) = U (a >>> 32) := div_u a 32
theorem shr_u (a : BitVec 64) (n : Int) (h : n.toNat ≤ 64) : shr .u64 (U a) n = U (a >>> n.toNat) := by
  unfold shr
  rw [show min n.toNat IntKind.u64.bits = n.toNat from by simp [IntKind.bits]; omega]
  exact div_u a _
/-- The mixing, on words. -/
def mixB (x : BitVec 64) : BitVec 64 :=
  let y := (x ^^^ x >>> 30) * 13787848793156543929#64
  let z := (y ^^^ y >>> 27) * 10723151780598845931#64
  z ^^^ z >>> 31
/-- The number before the mixing. -/
def seedB (s i d : Int) : BitVec 64 := BitVec.ofInt 64 s ^^^ BitVec.ofInt 64 i * 11400714819323198485#64 ^^^ BitVec.ofInt 64 d * 14029467366897019727#64
/-- 'x ^ x>>n' is undone by three steps, if 4 n is at least 64. -/
theorem undo (y : BitVec 64) (n : Nat) (h : 64 ≤ 4 * n) (z : BitVec 64) (hz : z = y ^^^ y >>> n) :
    z ^^^ (z ^^^ (z ^^^ z >>> n) >>> n) >>> n = y := by
  subst hz
  have e4 : y >>> n >>> n >>> n >>> n = 0#64 := by
    rw [← BitVec.shiftRight_add, ← BitVec.shiftRight_add, ← BitVec.shiftRight_add]
    exact BitVec.ushiftRight_eq_zero (by omega)
  simp only [BitVec.ushiftRight_xor_distrib, e4]
  generalize y >>> n >>> n >>> n = c
  generalize y >>> n >>> n = b
  generalize y >>> n = a
  apply BitVec.eq_of_getLsbD_eq
  intro i hi
  simp only [BitVec.getLsbD_xor, BitVec.getLsbD_zero]
  cases y.getLsbD i <;> cases a.getLsbD i <;> cases b.getLsbD i <;> cases c.getLsbD i <;> rfl


/-- No equation by computation: the kernel is not to compare the two sides. -/
theorem bsome {α β : Type} (a : α) (f : α → Option β) : (some a).bind f = f a := Eq.trans rfl rfl
theorem mix_f (x : BitVec 64) : imageeditorref25_Mix.f (U x) = some (U (mixB x)) := by
  have c1 : (13787848793156543929 : Int) = U 13787848793156543929#64 := rfl
  have c2 : (10723151780598845931 : Int) = U 10723151780598845931#64 := rfl
  unfold imageeditorref25_Mix.f mixB
  rw [c1, c2]
  simp only [div30, div27, div31, xor_u, mul_u]
theorem seed_f (s i d : Int) : Go.bits .xor .u64 (Go.bits .xor .u64 (IntKind.u64.wrap s) (IntKind.u64.wrap ((IntKind.u64.wrap i) * 11400714819323198485))) (IntKind.u64.wrap ((IntKind.u64.wrap d) * 14029467366897019727)) = U (seedB s i d) := by
  have c1 : (11400714819323198485 : Int) = U 11400714819323198485#64 := rfl
  have c2 : (14029467366897019727 : Int) = U 14029467366897019727#64 := rfl
  unfold seedB
  rw [c1, c2, wrap_u s, wrap_u i, wrap_u d, mul_u, mul_u, xor_u, xor_u]
/-- The number, as an integer. -/
def num (s i d : Int) : Int := U (mixB (seedB s i d)) / 4294967296
theorem num_lt (s i d : Int) : 0 ≤ num s i d ∧ num s i d < 4294967296 := by
  have := U_lt (mixB (seedB s i d))
  unfold num
  omega
theorem at_f (s i d : Int) : random_At.f s i d = some (num s i d) := by
  have c1 : (13787848793156543929 : Int) = U 13787848793156543929#64 := rfl
  have c2 : (10723151780598845931 : Int) = U 10723151780598845931#64 := rfl
  have h := num_lt s i d
  have e : (num s i d) % 4294967296 = num s i d := by omega
  unfold random_At.f
  rw [seed_f, c1, c2]
  simp only [div30, div27, div31, xor_u, mul_u]
  refine congrArg some (Eq.trans ?_ e)
  rfl
theorem refAt_f (s i d : Int) : imageeditorref25_At.f s i d = some (num s i d) := by
  have h := num_lt s i d
  have e : (num s i d) % 4294967296 = num s i d := by omega
  unfold imageeditorref25_At.f
  rw [seed_f, mix_f]
  exact congrArg some e
theorem unshift_f (z : BitVec 64) (n : Int) (h0 : 27 ≤ n) (h1 : n ≤ 31) :
    imageeditorref25_unshift.f 10 (U z) n = some (U (z ^^^ (z ^^^ (z ^^^ z >>> n.toNat) >>> n.toNat) >>> n.toNat)) := by
  have w1 : wrap64 (0 + n) = n := by unfold wrap64; omega
  have w2 : wrap64 (n + n) = 2 * n := by unfold wrap64; omega
  have w3 : wrap64 (2 * n + n) = 3 * n := by unfold wrap64; omega
  unfold imageeditorref25_unshift.f
  simp only [imageeditorref25_unshift.l0]
  rw [if_pos (by omega), if_pos (by omega), w1, if_pos (by omega), if_pos (by omega), w2, if_pos (by omega), if_pos (by omega), w3, if_neg (by omega)]
  rw [shr_u _ _ (by omega), xor_u, shr_u _ _ (by omega), xor_u, shr_u _ _ (by omega), xor_u]
theorem inv1 : imageeditorref25_inverse.f 10 10723151780598845931 = some 3573116690164977347 := by kernel_rfl
theorem inv2 : imageeditorref25_inverse.f 10 13787848793156543929 = some 10871156337175269513 := by kernel_rfl
theorem back (a c d : BitVec 64) (h : c * d = 1#64) : a * c * d = a := by
  rw [BitVec.mul_assoc, h, BitVec.mul_one]
theorem unmix_f (x : BitVec 64) : imageeditorref25_Unmix.f 10 (U (mixB x)) = some (U x) := by
  have c1 : (3573116690164977347 : Int) = U 3573116690164977347#64 := rfl
  have c2 : (10871156337175269513 : Int) = U 10871156337175269513#64 := rfl
  obtain ⟨y, hy⟩ : ∃ y, (x ^^^ x >>> 30) * 13787848793156543929#64 = y := ⟨_, rfl⟩
  obtain ⟨z, hz⟩ : ∃ z, (y ^^^ y >>> 27) * 10723151780598845931#64 = z := ⟨_, rfl⟩
  have e : mixB x = z ^^^ z >>> 31 := by
    unfold mixB
    simp only [hy, hz]
  unfold imageeditorref25_Unmix.f
  rw [e, unshift_f _ _ (by omega) (by omega), show Int.toNat 31 = 31 from rfl, undo z 31 (by omega) _ rfl, inv1]
  simp only [bsome]
  rw [c1, mul_u, ← hz, back _ _ _ (by decide), unshift_f _ _ (by omega) (by omega), show Int.toNat 27 = 27 from rfl, undo y 27 (by omega) _ rfl, inv2]
  simp only [bsome]
  rw [c2, mul_u, ← hy, back _ _ _ (by decide), unshift_f _ _ (by omega) (by omega), show Int.toNat 30 = 30 from rfl, undo x 30 (by omega) _ rfl]
  simp only [bsome]
/-- A number below a limit. -/
def under (t n : Int) : Int := if n < 1 then 0 else if n < 2147483648 then t * n / 4294967296 else t * 2147483648 / 4294967296
theorem prod_bd (t n : Int) (h0 : 0 ≤ t) (h1 : t < 4294967296) (h2 : 0 ≤ n) (h3 : n ≤ 2147483648) : 0 ≤ t * n ∧ t * n ≤ 4294967295 * 2147483648 :=
  ⟨Int.mul_nonneg h0 h2, Int.mul_le_mul (by omega) h3 h2 (by omega)⟩
theorem below_f (s i d n : Int) : random_Below.f s i d n = some (under (num s i d) n) := by
  have hn := num_lt s i d
  unfold random_Below.f
  rw [at_f]
  simp only [bsome]
  obtain ⟨m, hm⟩ : ∃ m, mn (mx n 0) 2147483648 = m := ⟨_, rfl⟩
  rw [hm]
  have hm0 : 0 ≤ m ∧ m ≤ 2147483648 := by unfold mn mx at hm; split at hm <;> split at hm <;> omega
  have hp := prod_bd (num s i d) m hn.1 hn.2 hm0.1 hm0.2
  rw [wrap_eq (num s i d), show num s i d % 18446744073709551616 = num s i d by omega, wrap_eq]
  have e : num s i d * m % 18446744073709551616 = num s i d * m := by omega
  rw [e]
  have e2 : wrap64 (num s i d * m / 4294967296) = num s i d * m / 4294967296 := by unfold wrap64; omega
  rw [e2]
  refine congrArg some ?_
  unfold under
  unfold mn mx at hm
  by_cases h1 : n < 1
  · rw [if_pos h1]
    have : m = 0 := by split at hm <;> split at hm <;> omega
    rw [this]; omega
  · rw [if_neg h1]
    by_cases h2 : n < 2147483648
    · rw [if_pos h2]
      have : m = n := by split at hm <;> split at hm <;> omega
      rw [this]
    · rw [if_neg h2]
      have : m = 2147483648 := by split at hm <;> split at hm <;> omega
      rw [this]
theorem refBelow_f (s i d n : Int) : imageeditorref25_Below.f s i d n = some (under (num s i d) n) := by
  have hn := num_lt s i d
  unfold imageeditorref25_Below.f under
  by_cases h1 : n < 1
  · rw [if_pos h1, if_pos h1]
  · rw [if_neg h1, if_neg h1, refAt_f]
    simp only [bsome]
    obtain ⟨m, hm⟩ : ∃ m, mn n 2147483648 = m := ⟨_, rfl⟩
    rw [hm]
    unfold mn at hm
    have hm0 : 0 ≤ m ∧ m ≤ 2147483648 := by split at hm <;> omega
    have hp := prod_bd (num s i d) m hn.1 hn.2 hm0.1 hm0.2
    rw [wrap_eq (num s i d), show num s i d % 18446744073709551616 = num s i d by omega, wrap_eq m, show m % 18446744073709551616 = m by omega, wrap_eq]
    have e : num s i d * m % 18446744073709551616 = num s i d * m := by omega
    rw [e]
    have e2 : wrap64 (num s i d * m / 4294967296) = num s i d * m / 4294967296 := by unfold wrap64; omega
    rw [e2]
    refine congrArg some ?_
    by_cases h2 : n < 2147483648
    · rw [if_pos h2]
      have : m = n := by split at hm <;> omega
      rw [this]
    · rw [if_neg h2]
      have : m = 2147483648 := by split at hm <;> omega
      rw [this]
theorem unit_f (s i d : Int) : random_Unit.f s i d = some (num s i d / 65537) := by
  have hn := num_lt s i d
  unfold random_Unit.f
  rw [at_f]
  simp only [bsome]
  rw [Int.tdiv_eq_ediv_of_nonneg hn.1]
  refine congrArg some ?_
  omega
theorem refUnit_f (s i d : Int) : imageeditorref25_Unit.f s i d = some (num s i d / 65537) := by
  have hn := num_lt s i d
  unfold imageeditorref25_Unit.f
  rw [refAt_f]
  simp only [bsome]
  rw [Int.tdiv_eq_ediv_of_nonneg hn.1]
  refine congrArg some ?_
  omega
theorem num000 : num 0 0 0 = 0 := by
  have e : mixB (seedB 0 0 0) = 0#64 := by decide
  unfold num
  rw [e]
  rfl
theorem example_f : imageeditorlaw25_example.f 10 = some true := by
  unfold imageeditorlaw25_example.f random_New.f
  simp only [bsome]
  unfold random_Source_Next.f
  simp only [if_true]
  rw [show wrap64 (wrap64 (0 + 1) - 1) = 0 from by kernel_rfl, at_f, num000]
  simp only [bsome, if_true]
  rw [show wrap64 (wrap64 (wrap64 (0 + 1) + 1) - 1) = 1 from by kernel_rfl, at_f]
  simp only [bsome]
  have hb1 : under (num 7 8 9) 1 = 0 := by
    have h := num_lt 7 8 9
    unfold under
    rw [if_neg (by omega), if_pos (by omega)]
    omega
  have hb2 : under (num 7 8 9) (-5) = 0 := by
    unfold under
    rw [if_pos (by omega)]
  have hx : (num 0 1 0 != num 0 1 0) = false := by simp
  rw [hx]
  simp only [imageeditorlaw25_example.j0]
  rw [if_neg (by simp), at_f, num000]
  simp only [bsome, if_true]
  rw [below_f, hb1]
  simp only [bsome, if_true]
  rw [below_f, hb2]
  simp only [bsome]
  rfl
theorem mixes : imageeditorlaw25_RandomMixes.Pure := by
  intro s i d _ _ _
  refine ⟨10, ?_⟩
  have hn := num_lt s i d
  have e : num s i d = U (mixB (seedB s i d)) / 4294967296 % 4294967296 := by
    have : num s i d = num s i d % 4294967296 := by omega
    exact this
  unfold imageeditorlaw25_RandomMixes.f
  rw [seed_f, mix_f]
  simp only [bsome]
  rw [at_f]
  simp only [bsome]
  rw [if_pos e, unmix_f]
  simp only [bsome, if_true]
  rw [example_f]
  simp only [bsome]
theorem ats : imageeditorlaw25_RandomAts.Pure := by
  intro s i d _ _ _
  refine ⟨10, ?_⟩
  unfold imageeditorlaw25_RandomAts.f
  rw [at_f, refAt_f]
  simp only [bsome, if_true]
  rw [unit_f, refUnit_f]
  simp only [bsome, if_true]
  rw [below_f, refBelow_f]
  simp only [bsome, if_true]
  rw [example_f]
  simp only [bsome]
end Go.Proofs.Ytpjmpmgomealmaa.Ran
