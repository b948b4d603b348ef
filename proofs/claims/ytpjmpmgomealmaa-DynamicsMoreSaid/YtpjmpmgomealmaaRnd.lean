/-
  Plain facts on the numbers of package random (layer 25) and of its reference: At, Unit. No condition.
-/
import Derived.Test.YtpjmpmgomealmaaDyx3
import Derived.Test.YtpjmpmgomealmaaDyx8
import Derived.KernelRfl
namespace Go.Proofs.Ytpjmpmgomealmaa.Rnd
open Go.RowKit Go.Proofs.YtpjmpmgomealmaaW.PrintWords Go.Proofs.YtpjmpmgomealmaaW.PrintLast Go.Proofs.YtpjmpmgomealmaaW.PrintMore Go.Proofs.Ytpjmpmgomealmaa.Dy

/-- A number of 64 bits as an integer. -/
def U (b : BitVec 64) : Int := (b.toNat : Int)
theorem U_lt (b : BitVec 64) : 0 ≤ U b ∧ U b < 18446744073709551616 := by
  have := b.isLt
  unfold U
  omega
theorem wrap_eq (x : Int) : IntKind.u64.wrap x = x % 18446744073709551616 := by
  simp [IntKind.wrap, IntKind.signed, IntKind.bits]
theorem wrap_u (x : Int) : IntKind.u64.wrap x = U (BitVec.ofInt 64 x) := by
  rw [wrap_eq]
  unfold U
  rw [BitVec.toNat_ofInt]
  omega
theorem ofInt_U (b : BitVec 64) : BitVec.ofInt 64 (U b) = b := by
  unfold U
  simp
theorem xor_u (a b : BitVec 64) : Go.bits .xor .u64 (U a) (U b) = U (a ^^^ b) := by
  unfold Go.bits
  have e1 := ofInt_U a
  have e2 := ofInt_U b
  simp only [IntKind.bits] at *
  rw [e1, e2]
  show IntKind.u64.wrap (U (a ^^^ b)) = _
  rw [wrap_u, ofInt_U]
theorem mul_u (a b : BitVec 64) : IntKind.u64.wrap (U a * U b) = U (a * b) := by
  rw [wrap_u, BitVec.ofInt_mul, ofInt_U, ofInt_U]
theorem div_u (a : BitVec 64) (n : Nat) : U a / (2 ^ n : Int) = U (a >>> n) := by
  unfold U
  rw [BitVec.toNat_ushiftRight, Nat.shiftRight_eq_div_pow]
  norm_cast

theorem div30 (a : BitVec 64) : U a / (1073741824 : Int) = U (a >>> 30) := div_u a 30
theorem div27 (a : BitVec 64) : U a / (134217728 : Int) = U (a >>> 27) := div_u a 27
theorem div31 (a : BitVec 64) : U a / (2147483648 : Int) = U (a >>> 31) := div_u a 31
theorem div32 (a : BitVec 64) : U a / (4294967296 : Int) = U (a >>> 32) := div_u a 32
/-- The mixing, on words. -/
def mixB (x : BitVec 64) : BitVec 64 :=
  let y := (x ^^^ x >>> 30) * 13787848793156543929#64
  let z := (y ^^^ y >>> 27) * 10723151780598845931#64
  z ^^^ z >>> 31
/-- The number before the mixing. -/
def seedB (s i d : Int) : BitVec 64 := BitVec.ofInt 64 s ^^^ BitVec.ofInt 64 i * 11400714819323198485#64 ^^^ BitVec.ofInt 64 d * 14029467366897019727#64
/-- No equation by computation: the kernel is not to compare the two sides. -/
theorem bsome {α β : Type} (a : α) (f : α → Option β) : (some a).bind f = f a := Eq.trans rfl rfl
theorem mix_f (x : BitVec 64) : imageeditorref25_Mix.f (U x) = some (U (mixB x)) := by
  have c1 : (13787848793156543929 : Int) = U 13787848793156543929#64 := rfl
  have c2 : (10723151780598845931 : Int) = U 10723151780598845931#64 := rfl
  unfold imageeditorref25_Mix.f mixB
  rw [c1, c2]
  simp only [div30, div27, div31, xor_u, mul_u]
theorem seed_f (s i d : Int) : Go.bits .xor .u64 (Go.bits .xor .u64 (IntKind.u64.wrap s) (IntKind.u64.wrap ((IntKind.u64.wrap i) * 11400714819323198485))) (IntKind.u64.wrap ((IntKind.u64.wrap d) * 14029467366897019727)) = U (seedB s i d) := by
  have c1 : (11400714819323198485 : Int) = U 11400714819323198485#64 := rfl
  have c2 : (14029467366897019727 : Int) = U 14029467366897019727#64 := rfl
  unfold seedB
  rw [c1, c2, wrap_u s, wrap_u i, wrap_u d, mul_u, mul_u, xor_u, xor_u]
/-- The number, as an integer. -/
def num (s i d : Int) : Int := U (mixB (seedB s i d)) / 4294967296
theorem num_lt (s i d : Int) : 0 ≤ num s i d ∧ num s i d < 4294967296 := by
  have := U_lt (mixB (seedB s i d))
  unfold num
  omega
theorem at_f (s i d : Int) : random_At.f s i d = some (num s i d) := by
  have c1 : (13787848793156543929 : Int) = U 13787848793156543929#64 := rfl
  have c2 : (10723151780598845931 : Int) = U 10723151780598845931#64 := rfl
  have h := num_lt s i d
  have e : (num s i d) % 4294967296 = num s i d := by omega
  unfold random_At.f
  rw [seed_f, c1, c2]
  simp only [div30, div27, div31, xor_u, mul_u]
  refine congrArg some (Eq.trans ?_ e)
  rfl
theorem refAt_f (s i d : Int) : imageeditorref25_At.f s i d = some (num s i d) := by
  have h := num_lt s i d
  have e : (num s i d) % 4294967296 = num s i d := by omega
  unfold imageeditorref25_At.f
  rw [seed_f, mix_f]
  exact congrArg some e
theorem unit_f (s i d : Int) : random_Unit.f s i d = some (num s i d / 65537) := by
  have hn := num_lt s i d
  unfold random_Unit.f
  rw [at_f]
  simp only [bsome]
  rw [Int.tdiv_eq_ediv_of_nonneg hn.1]
  refine congrArg some ?_
  omega
theorem refUnit_f (s i d : Int) : imageeditorref25_Unit.f s i d = some (num s i d / 65537) := by
  have hn := num_lt s i d
  unfold imageeditorref25_Unit.f
  rw [refAt_f]
  simp only [bsome]
  rw [Int.tdiv_eq_ediv_of_nonneg hn.1]
  refine congrArg some ?_
  omega
end Go.Proofs.Ytpjmpmgomealmaa.Rnd
