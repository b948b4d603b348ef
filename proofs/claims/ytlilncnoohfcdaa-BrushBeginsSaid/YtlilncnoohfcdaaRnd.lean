/-
  Plain facts on the numbers of package random (layer 25) and of its reference: At, Unit. No condition.
-/
import Derived.Test.YtlilncnoohfcdaaBrx13
import Derived.Test.YtlilncnoohfcdaaBrx3
import Derived.KernelRfl
import Derived.Test.YtlilncnoohfcdaaBrx14
import Derived.Test.YtlilncnoohfcdaaBrx4
namespace Go.Proofs.Ytlilncnoohfcdaa.Rnd
open Go.RowKit Go.Proofs.YtlilncnoohfcdaaW.PrintWords Go.Proofs.YtlilncnoohfcdaaW.PrintLast Go.Proofs.YtlilncnoohfcdaaW.PrintMore Go.Proofs.Ytlilncnoohfcdaa.Da Go.Proofs.Ytlilncnoohfcdaa.Br
def U (b:BitVec 64):Int:=(b.toNat:Int)
theorem U_lt (b:BitVec 64):0≤U b∧U b<18446744073709551616:=by
  have:=b.isLt
  unfold U
  omega
theorem wrap_eq (x:Int):IntKind.u64.wrap x=x % 18446744073709551616:=by
  simp [IntKind.wrap,IntKind.signed,IntKind.bits]
theorem wrap_u (x:Int):IntKind.u64.wrap x=U (BitVec.ofInt 64 x):=by
  rw [wrap_eq]
  unfold U
  rw [BitVec.toNat_ofInt]
  omega
theorem ofInt_U (b:BitVec 64):BitVec.ofInt 64 (U b)=b:=by
  unfold U
  simp
theorem xor_u (a b:BitVec 64):Go.bits .xor .u64 (U a) (U b)=U (a ^^^ b):=by
  unfold Go.bits
  have e1:=ofInt_U a
  have e2:=ofInt_U b
  simp only [IntKind.bits] at *
  rw [e1,e2]
  show IntKind.u64.wrap (U (a ^^^ b))=_
  rw [wrap_u,ofInt_U]
theorem mul_u (a b:BitVec 64):IntKind.u64.wrap (U a*U b)=U (a*b):=by
  rw [wrap_u,BitVec.ofInt_mul,ofInt_U,ofInt_U]
theorem div_u (a:BitVec 64) (n:Nat):U a / (2 ^ n:Int)=U (a >>> n):=by
  unfold U
  rw [BitVec.toNat_ushiftRight,Nat.shiftRight_eq_div_pow]
  norm_cast
theorem div30 (a:BitVec 64):U a / (1073741824:Int)=U (a >>> 30):=div_u a 30
theorem div27 (a:BitVec 64):U a / (134217728:Int)=U (a >>> 27):=div_u a 27
theorem div31 (a:BitVec 64):U a / (2147483648:Int)=U (a >>> 31):=div_u a 31
def mixB (x:BitVec 64):BitVec 64:=
  let y:=(x ^^^ x >>> 30)*13787848793156543929#64
  let z:=(y ^^^ y >>> 27)*10723151780598845931#64
  z ^^^ z >>> 31
def seedB (s i d:Int):BitVec 64:=BitVec.ofInt 64 s ^^^ BitVec.ofInt 64 i*11400714819323198485#64 ^^^ BitVec.ofInt 64 d*14029467366897019727#64
theorem zay {α β:Type} (a:α) (f:α→Option β):(some a).bind f=f a:=Eq.trans rfl rfl
theorem mix_f (x:BitVec 64):zb8.f (U x)=some (U (mixB x)):=by
  have c1:(13787848793156543929:Int)=U 13787848793156543929#64:=rfl
  have c2:(10723151780598845931:Int)=U 10723151780598845931#64:=rfl
  unfold zb8.f mixB
  rw [c1,c2]
  simp only [div30,div27,div31,xor_u,mul_u]
theorem seed_f (s i d:Int):Go.bits .xor .u64 (Go.bits .xor .u64 (IntKind.u64.wrap s) (IntKind.u64.wrap ((IntKind.u64.wrap i)*11400714819323198485))) (IntKind.u64.wrap ((IntKind.u64.wrap d)*14029467366897019727))=U (seedB s i d):=by
  have c1:(11400714819323198485:Int)=U 11400714819323198485#64:=rfl
  have c2:(14029467366897019727:Int)=U 14029467366897019727#64:=rfl
  unfold seedB
  rw [c1,c2,wrap_u s,wrap_u i,wrap_u d,mul_u,mul_u,xor_u,xor_u]
def num (s i d:Int):Int:=U (mixB (seedB s i d)) / 4294967296
theorem num_lt (s i d:Int):0≤num s i d∧num s i d<4294967296:=by
  have:=U_lt (mixB (seedB s i d))
  unfold num
  omega
theorem at_f (s i d:Int):zcn.f s i d=some (num s i d):=by
  have c1:(13787848793156543929:Int)=U 13787848793156543929#64:=rfl
  have c2:(10723151780598845931:Int)=U 10723151780598845931#64:=rfl
  have h:=num_lt s i d
  have e:(num s i d) % 4294967296=num s i d:=by omega
  unfold zcn.f
  rw [seed_f,c1,c2]
  simp only [div30,div27,div31,xor_u,mul_u]
  refine congrArg some (Eq.trans ?_ e)
  rfl
theorem refAt_f (s i d:Int):zbU.f s i d=some (num s i d):=by
  have h:=num_lt s i d
  have e:(num s i d) % 4294967296=num s i d:=by omega
  unfold zbU.f
  rw [seed_f,mix_f]
  exact congrArg some e
theorem unit_f (s i d:Int):zcw.f s i d=some (num s i d / 65537):=by
  have hn:=num_lt s i d
  unfold zcw.f
  rw [at_f]
  simp only [zay]
  rw [Int.tdiv_eq_ediv_of_nonneg hn.1]
  refine congrArg some ?_
  omega
theorem refUnit_f (s i d:Int):zb4.f s i d=some (num s i d / 65537):=by
  have hn:=num_lt s i d
  unfold zb4.f
  rw [refAt_f]
  simp only [zay]
  rw [Int.tdiv_eq_ediv_of_nonneg hn.1]
  refine congrArg some ?_
  omega
end Go.Proofs.Ytlilncnoohfcdaa.Rnd
namespace Go.Proofs.Ytlilncnoohfcdaa.Rnd
open Go.RowKit Go.Proofs.YtlilncnoohfcdaaW.PrintWords Go.Proofs.YtlilncnoohfcdaaW.PrintLast Go.Proofs.YtlilncnoohfcdaaW.PrintMore Go.Proofs.Ytlilncnoohfcdaa.Da Go.Proofs.Ytlilncnoohfcdaa.Br
def under (t n:Int):Int:=if n<1 then 0 else if n<2147483648 then t*n / 4294967296 else t*2147483648 / 4294967296
theorem prod_bd (t n:Int) (h0:0≤t) (h1:t<4294967296) (h2:0≤n) (h3:n≤2147483648):0≤t*n∧t*n≤4294967295*2147483648:=
  ⟨Int.mul_nonneg h0 h2,Int.mul_le_mul (by omega) h3 h2 (by omega)⟩
theorem below_f (s i d n:Int):zcr.f s i d n=some (under (num s i d) n):=by
  have hn:=num_lt s i d
  unfold zcr.f
  rw [at_f]
  simp only [zay]
  obtain ⟨m,hm⟩ : ∃ m,mn (mx n 0) 2147483648=m:=⟨_,rfl⟩
  rw [hm]
  have hm0:0≤m∧m≤2147483648:=by unfold mn mx at hm;split at hm <;> split at hm <;> omega
  have hp:=prod_bd (num s i d) m hn.1 hn.2 hm0.1 hm0.2
  rw [wrap_eq (num s i d),show num s i d % 18446744073709551616=num s i d by omega,wrap_eq]
  have e:num s i d*m % 18446744073709551616=num s i d*m:=by omega
  rw [e]
  have e2:wrap64 (num s i d*m / 4294967296)=num s i d*m / 4294967296:=by unfold wrap64;omega
  rw [e2]
  refine congrArg some ?_
  unfold under
  unfold mn mx at hm
  by_cases h1:n<1
  · rw [if_pos h1]
    have:m=0:=by split at hm <;> split at hm <;> omega
    rw [this];omega
  · rw [if_neg h1]
    by_cases h2:n<2147483648
    · rw [if_pos h2]
      have:m=n:=by split at hm <;> split at hm <;> omega
      rw [this]
    · rw [if_neg h2]
      have:m=2147483648:=by split at hm <;> split at hm <;> omega
      rw [this]
theorem refBelow_f (s i d n:Int):zaT.f s i d n=some (under (num s i d) n):=by
  have hn:=num_lt s i d
  unfold zaT.f under
  by_cases h1:n<1
  · rw [if_pos h1,if_pos h1]
  · rw [if_neg h1,if_neg h1,refAt_f]
    simp only [zay]
    obtain ⟨m,hm⟩ : ∃ m,mn n 2147483648=m:=⟨_,rfl⟩
    rw [hm]
    unfold mn at hm
    have hm0:0≤m∧m≤2147483648:=by split at hm <;> omega
    have hp:=prod_bd (num s i d) m hn.1 hn.2 hm0.1 hm0.2
    rw [wrap_eq (num s i d),show num s i d % 18446744073709551616=num s i d by omega,wrap_eq m,show m % 18446744073709551616=m by omega,wrap_eq]
    have e:num s i d*m % 18446744073709551616=num s i d*m:=by omega
    rw [e]
    have e2:wrap64 (num s i d*m / 4294967296)=num s i d*m / 4294967296:=by unfold wrap64;omega
    rw [e2]
    refine congrArg some ?_
    by_cases h2:n<2147483648
    · rw [if_pos h2]
      have:m=n:=by split at hm <;> omega
      rw [this]
    · rw [if_neg h2]
      have:m=2147483648:=by split at hm <;> omega
      rw [this]
end Go.Proofs.Ytlilncnoohfcdaa.Rnd
