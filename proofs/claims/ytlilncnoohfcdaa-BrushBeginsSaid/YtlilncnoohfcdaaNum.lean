/-
  Plain facts on the integer arithmetic of layer 1 (package num and its reference): quotients, limits, products of unit values. Conditions stand in each statement: numbers of at most 2^61 in magnitude.
-/
import Derived.Test.YtlilncnoohfcdaaBrx12
import Derived.Test.YtlilncnoohfcdaaBrx3
import Derived.Test.YtlilncnoohfcdaaDax11
import Derived.Test.YtlilncnoohfcdaaDax14
import Derived.Test.YtlilncnoohfcdaaDax3
import Derived.Test.YtlilncnoohfcdaaDax6
import Derived.Test.YtlilncnoohfcdaaDax8
import Derived.KernelRfl
namespace Go.Proofs.Ytlilncnoohfcdaa.Num
open Go.RowKit Go.Proofs.YtlilncnoohfcdaaW.PrintWords Go.Proofs.YtlilncnoohfcdaaW.PrintLast Go.Proofs.YtlilncnoohfcdaaW.PrintMore Go.Proofs.Ytlilncnoohfcdaa.Da Go.Proofs.Ytlilncnoohfcdaa.Br
theorem zay {α β:Type} (a:α) (f:α→Option β):(some a).bind f=f a:=Eq.trans rfl rfl
theorem w64 {n:Int} (h0 : -9223372036854775808≤n) (h1:n<9223372036854775808):wrap64 n=n:=by unfold wrap64;omega
theorem wu64 (x:Int):IntKind.u64.wrap x=x % 18446744073709551616:=by
  simp [IntKind.wrap,IntKind.signed,IntKind.bits]
theorem wfi {n:Int} (h:(Lit.int .i64 n).wf=true) : -9223372036854775808≤n∧n<9223372036854775808:=by
  simp [Lit.wf,IntKind.min,IntKind.max,IntKind.signed,IntKind.bits] at h
  omega
theorem tdiv_pos (a b:Int) (_hb:0<b) (ha:0≤a):Int.tdiv a b=a / b∧Int.tmod a b=a % b:=
  ⟨Int.tdiv_eq_ediv_of_nonneg ha,Int.tmod_eq_emod_of_nonneg ha⟩
theorem q_bd (a b:Int) (hb:0<b) (h0 : -4611686018427387904≤a) (h1:a≤4611686018427387904) : -4611686018427387904≤a / b∧a / b≤4611686018427387904:=by
  have hm:=Int.emod_add_mul_ediv a b
  have hr0:=Int.emod_nonneg a (by omega:b≠0)
  have hr1:=Int.emod_lt_of_pos a hb
  constructor
  · exact (Int.le_ediv_iff_mul_le hb).mpr (by
      have : -4611686018427387904*b≤-4611686018427387904*1:=Int.mul_le_mul_of_nonpos_left (by omega) (by omega)
      omega)
  · refine Int.le_of_lt_add_one ((Int.ediv_lt_iff_lt_mul hb).mpr ?_)
    have:(4611686018427387904+1)*1≤(4611686018427387904+1)*b:=Int.mul_le_mul_of_nonneg_left (by omega) (by omega)
    omega
theorem tdiv_neg (a b:Int) (hb:0<b) (ha:a<0):(a % b=0→Int.tdiv a b=a / b∧Int.tmod a b=0)∧(a % b≠0→Int.tdiv a b=a / b+1∧Int.tmod a b=a % b - b):=by
  have hm:=Int.emod_add_mul_ediv a b
  constructor
  · intro h
    have hd:b ∣ a:=Int.dvd_of_emod_eq_zero h
    have e:=Int.tdiv_eq_ediv_of_dvd hd
    have hx:=Int.tmod_add_mul_tdiv a b
    rw [e] at hx
    exact ⟨e,by omega⟩
  · intro h
    have hd : ¬ b ∣ a:=fun hc=>h (Int.emod_eq_zero_of_dvd hc)
    have e:Int.tdiv a b=a / b+1:=by
      rw [Int.tdiv_eq_ediv,if_neg (by intro hc;rcases hc with hc|hc;exact absurd hc (by omega);exact hd hc),Int.sign_eq_one_of_pos hb]
    have hx:=Int.tmod_add_mul_tdiv a b
    rw [e,Int.mul_add,Int.mul_one] at hx
    exact ⟨e,by omega⟩
theorem floor_f (a b:Int) (hb:0<b) (h0 : -4611686018427387904≤a) (h1:a≤4611686018427387904):zbR.f a b=some (a / b):=by
  have hq:=q_bd a b hb h0 h1
  have hr0:=Int.emod_nonneg a (by omega:b≠0)
  have hr1:=Int.emod_lt_of_pos a hb
  unfold zbR.f
  rw [if_neg (by omega),if_neg (by omega)]
  by_cases ha:0≤a
  · obtain ⟨e1,e2⟩:=tdiv_pos a b hb ha
    rw [e1,e2,w64 (by omega) (by omega)]
    by_cases hz:a % b=0
    · rw [if_pos hz]
    · rw [if_neg hz,if_neg (by simp [decide_eq_false (show ¬ a<0 by omega),decide_eq_false (show ¬ b<0 by omega)])]
  · obtain ⟨e1,e2⟩:=tdiv_neg a b hb (by omega)
    by_cases hz:a % b=0
    · obtain ⟨e3,e4⟩:=e1 hz
      rw [e3,e4,if_pos rfl,w64 (by omega) (by omega)]
    · obtain ⟨e3,e4⟩:=e2 hz
      rw [e3,e4,if_neg (by omega),if_pos (by simp [decide_eq_true (show a<0 by omega),decide_eq_false (show ¬ b<0 by omega)]),w64 (n:=a / b+1) (by omega) (by omega),w64 (by omega) (by omega)]
      refine congrArg some ?_
      omega
theorem refFloor_f (k:Nat) (a b:Int) (hb:0<b) (h0 : -4611686018427387904≤a) (h1:a≤4611686018427387904):zak.f (k+1) a b=some (a / b):=by
  have hq:=q_bd a b hb h0 h1
  have hr0:=Int.emod_nonneg a (by omega:b≠0)
  have hr1:=Int.emod_lt_of_pos a hb
  unfold zak.f
  rw [if_neg (by omega),if_neg (by omega)]
  simp only [zak.j0]
  rw [if_neg (by simp),if_neg (by omega)]
  by_cases ha:0≤a
  · obtain ⟨e1,e2⟩:=tdiv_pos a b hb ha
    rw [e1,e2,w64 (by omega) (by omega)]
    by_cases hz:a % b=0
    · rw [if_pos hz]
    · rw [if_neg hz,if_neg (by simp [decide_eq_false (show ¬ a % b<0 by omega),decide_eq_false (show ¬ b<0 by omega)])]
  · obtain ⟨e1,e2⟩:=tdiv_neg a b hb (by omega)
    by_cases hz:a % b=0
    · obtain ⟨e3,e4⟩:=e1 hz
      rw [e3,e4,if_pos rfl,w64 (by omega) (by omega)]
    · obtain ⟨e3,e4⟩:=e2 hz
      rw [e3,e4,if_neg (by omega),if_pos (by simp [decide_eq_true (show a % b - b<0 by omega),decide_eq_false (show ¬ b<0 by omega)]),w64 (n:=a / b+1) (by omega) (by omega),w64 (by omega) (by omega)]
      refine congrArg some ?_
      omega
def rdiv (a b:Int):Int:=(2*a+b) / (2*b)
theorem rdiv_up (a b:Int) (hb:0<b) (h:b≤2*(a % b)):rdiv a b=a / b+1:=by
  have hm:=Int.emod_add_mul_ediv a b
  have hr1:=Int.emod_lt_of_pos a hb
  unfold rdiv
  have e:2*a+b=(2*(a % b)+b - 2*b)+(2*b)*(a / b+1):=by
    have:(2*b)*(a / b+1)=2*(b*(a / b))+2*b:=by rw [Int.mul_add,Int.mul_one,Int.mul_assoc]
    omega
  rw [e,Int.add_mul_ediv_left _ _ (by omega),Int.ediv_eq_zero_of_lt (by omega) (by omega)]
  omega
theorem rdiv_down (a b:Int) (hb:0<b) (h:2*(a % b)<b):rdiv a b=a / b:=by
  have hm:=Int.emod_add_mul_ediv a b
  have hr0:=Int.emod_nonneg a (by omega:b≠0)
  unfold rdiv
  have e:2*a+b=(2*(a % b)+b)+(2*b)*(a / b):=by
    have:(2*b)*(a / b)=2*(b*(a / b)):=by rw [Int.mul_assoc]
    omega
  rw [e,Int.add_mul_ediv_left _ _ (by omega),Int.ediv_eq_zero_of_lt (by omega) (by omega)]
  omega
theorem div_f (k:Nat) (a b:Int) (hb:0<b) (hb1:b≤2305843009213693952) (h0 : -2305843009213693952≤a) (h1:a≤2305843009213693952):zbl.f (k+1) a b=some (rdiv a b):=by
  have hq:=q_bd a b hb (by omega) (by omega)
  have hm:=Int.emod_add_mul_ediv a b
  have hr0:=Int.emod_nonneg a (by omega:b≠0)
  have hr1:=Int.emod_lt_of_pos a hb
  unfold zbl.f
  rw [floor_f a b hb (by omega) (by omega)]
  simp only [zay]
  rw [if_neg (by omega)]
  have hb2:(b==(-1))=false:=beq_eq_false_iff_ne.mpr (by omega)
  rw [hb2]
  simp only [zbl.j0]
  rw [if_neg (by simp),if_pos (by omega)]
  have e1:a / b*b=a - a % b:=by rw [Int.mul_comm];omega
  rw [e1,w64 (n:=a - a % b) (by omega) (by omega),show a - (a - a % b)=a % b by omega,w64 (n:=a % b) (by omega) (by omega),w64 (n:=b - a % b) (by omega) (by omega)]
  by_cases hc:a % b≥b - a % b
  · rw [if_pos hc,rdiv_up a b hb (by omega),w64 (by omega) (by omega)]
  · rw [if_neg hc,if_neg (by omega),rdiv_down a b hb (by omega)]
theorem abs_f (a:Int) (h0 : -9223372036854775808≤a) (h1:a<9223372036854775808):zaQ.f a=some (if a<0 then -a else a):=by
  unfold zaQ.f
  by_cases h:a<0
  · rw [if_pos h,if_pos h,wu64,wu64]
    refine congrArg some ?_
    omega
  · rw [if_neg h,if_neg h,wu64]
    refine congrArg some ?_
    omega
theorem size_f (a:Int) (h0 : -9223372036854775808≤a) (h1:a<9223372036854775808):zbI.f a=some (if a<0 then -a else a):=by
  unfold zbI.f
  by_cases h:a<0
  · rw [if_pos h,if_pos h,wu64,wu64]
    refine congrArg some ?_
    omega
  · rw [if_neg h,if_neg h,wu64]
    refine congrArg some ?_
    omega
theorem refDiv_f (k:Nat) (a b:Int) (hb:0<b) (hb1:b≤2305843009213693952) (h0 : -2305843009213693952≤a) (h1:a≤2305843009213693952):zas.f (k+1) a b=some (rdiv a b):=by
  have hq:=q_bd a b hb (by omega) (by omega)
  have hm:=Int.emod_add_mul_ediv a b
  have hr0:=Int.emod_nonneg a (by omega:b≠0)
  have hr1:=Int.emod_lt_of_pos a hb
  unfold zas.f
  rw [if_neg (by omega),refFloor_f k a b hb (by omega) (by omega)]
  simp only [zay]
  rw [if_neg (by omega)]
  simp only [zas.j0]
  rw [if_neg (by simp)]
  have e1:b*(a / b)=a - a % b:=by omega
  rw [e1,w64 (n:=a - a % b) (by omega) (by omega),show a - (a - a % b)=a % b by omega,w64 (n:=a % b) (by omega) (by omega),abs_f (a % b) (by omega) (by omega),abs_f b (by omega) (by omega),if_neg (by omega),if_neg (by omega)]
  simp only [zay]
  rw [wu64,show (b - a % b) % 18446744073709551616=b - a % b by omega]
  by_cases hc:a % b≥b - a % b
  · rw [if_pos hc,rdiv_up a b hb (by omega),w64 (by omega) (by omega)]
  · rw [if_neg hc,rdiv_down a b hb (by omega)]
def uni (x:Int):Int:=mn 65535 (mx x 0)
theorem uni_bd (x:Int):0≤uni x∧uni x≤65535:=by unfold uni mn mx;split <;> split <;> omega
theorem uni_same (x:Int) (h0:0≤x) (h1:x≤65535):uni x=x:=by unfold uni mn mx;split <;> split <;> omega
theorem uni_other (x:Int):mn (mx x 0) 65535=uni x:=by unfold uni mn mx;split <;> split <;> split <;> omega
theorem clamp_f (x lo hi:Int):zaR.f x lo hi=some (mn hi (mx x lo)):=Eq.trans rfl rfl
theorem clampU_f (x:Int):zaR.f x 0 65535=some (uni x):=Eq.trans rfl rfl
theorem unit_f (x:Int):zcy.f x=some (uni x):=Eq.trans rfl rfl
theorem zcm (x lo hi:Int):zaf.f x lo hi=some (mn hi (mx x lo)):=Eq.trans rfl rfl
theorem refUnit_f (x:Int):zbm.f x=some (uni x):=by
  unfold zbm.f
  rw [zcm]
  exact zay _ _
theorem prod_bd (a b:Int) (ha:0≤a∧a≤65535) (hb:0≤b∧b≤65535):0≤a*b∧a*b≤4294836225:=
  ⟨Int.mul_nonneg ha.1 hb.1,Int.mul_le_mul ha.2 hb.2 hb.1 (by omega)⟩
def mulU (a b:Int):Int:=rdiv (uni a*uni b) 65535
theorem mul_f (a b:Int):num_Mul.f a b=some (mulU a b):=by
  have ha:=uni_bd a
  have hb:=uni_bd b
  have hp:=prod_bd _ _ ha hb
  unfold num_Mul.f
  rw [unit_f,unit_f]
  simp only [zay]
  have e:2*uni a*uni b=2*(uni a*uni b):=Int.mul_assoc _ _ _
  rw [w64 (n:=2*uni a) (by omega) (by omega),e,w64 (n:=2*(uni a*uni b)) (by omega) (by omega),w64 (n:=2*(uni a*uni b)+65535) (by omega) (by omega),Int.tdiv_eq_ediv_of_nonneg (by omega),w64 (by omega) (by omega)]
  rfl
theorem refMul_f (k:Nat) (a b:Int):zb0.f (k+1) a b=some (mulU a b):=by
  have ha:=uni_bd a
  have hb:=uni_bd b
  have hp:=prod_bd _ _ ha hb
  unfold zb0.f
  rw [refUnit_f,refUnit_f]
  simp only [zay]
  rw [w64 (n:=uni a*uni b) (by omega) (by omega),refDiv_f k _ _ (by omega) (by omega) (by omega) (by omega)]
  exact zay _ _
theorem mulU_bd (a b:Int):0≤mulU a b∧mulU a b≤65535:=by
  have hp:=prod_bd _ _ (uni_bd a) (uni_bd b)
  unfold mulU rdiv
  omega
end Go.Proofs.Ytlilncnoohfcdaa.Num
