/-
  Plain facts on the references of layers 7 and 26: they compute what the program computes. Conditions stand in each statement (enough rounds; the value of a curve at a unit value).
-/
import Derived.Test.YtlilncnoohfcdaaDax11
import Derived.Test.YtlilncnoohfcdaaDax12
import Derived.Test.YtlilncnoohfcdaaDyn
namespace Go.Proofs.Ytlilncnoohfcdaa.Num
open Go.RowKit Go.Proofs.YtlilncnoohfcdaaW.PrintWords Go.Proofs.YtlilncnoohfcdaaW.PrintLast Go.Proofs.YtlilncnoohfcdaaW.PrintMore Go.Proofs.Ytlilncnoohfcdaa.Da
theorem isUnit_f (x:Int):zaS.f x=some (decide (0≤x∧x≤65535)):=by
  unfold zaS.f
  by_cases h:x≥0
  · rw [if_pos h]
    refine congrArg some ?_
    rw [decide_eq_decide]
    omega
  · rw [if_neg h]
    refine congrArg some (Eq.symm (decide_eq_false ?_))
    omega
theorem refCcheck_l0 (l:List S135) (hl:l.length<100) (d:Nat) : ∀ (k:Nat) (i:Int),0≤i→i+d=l.length→2*d+1≤k→zay.l0 k l i=some (cc l d i):=by
  induction d with
  | zero=>
    intro k i h0 hd hk
    obtain ⟨k,rfl⟩ : ∃ m,k=m+1:=⟨k - 1,by omega⟩
    simp only [zay.l0,cc]
    rw [if_neg (by omega)]
  | succ d ih=>
    intro k i h0 hd hk
    obtain ⟨k,rfl⟩ : ∃ m,k=m+1:=⟨k - 1,by omega⟩
    obtain ⟨k,rfl⟩ : ∃ m,k=m+1:=⟨k - 1,by omega⟩
    have e:=ih k (i+1) (by omega) (by omega) (by omega)
    obtain ⟨K,hK⟩ : ∃ K,k+1=K:=⟨_,rfl⟩
    have hj : ∀ b:Bool,b=decide (kbad (kn l i))→zay.j1 K l i b=some (cc l (d+1) i):=fun b hb=>by
      subst hK
      subst hb
      simp only [zay.j1,cc]
      by_cases c1:kbad (kn l i)
      · rw [if_pos (decide_eq_true c1),if_pos c1]
      · rw [if_neg (by simp [c1]),if_neg c1]
        by_cases c2:i > 0
        · rw [if_pos c2,if_pos h0,if_pos (by omega),w64 (n:=i - 1) (by omega) (by omega),if_pos (by omega),if_pos (by omega),w64 (n:=i+1) (by omega) (by omega),e,show zaH l (i - 1)=kn l (i - 1) from rfl,show zaH l i=kn l i from rfl]
          by_cases c3:(kn l i).f0≤(kn l (i - 1)).f0
          · rw [if_pos c3,if_pos ⟨c2,c3⟩]
          · rw [if_neg c3,if_neg (fun h=>c3 h.2)]
        · rw [if_neg c2,w64 (n:=i+1) (by omega) (by omega),e,if_neg (fun h=>c2 h.1)]
    rw [hK]
    simp only [zay.l0]
    rw [if_pos (by omega),if_pos h0,show zaH l i=kn l i from rfl,isUnit_f]
    simp only [bsome]
    by_cases c1:0≤(kn l i).f0∧(kn l i).f0≤65535
    · rw [if_pos (decide_eq_true c1),isUnit_f]
      simp only [bsome]
      refine hj _ ?_
      rw [← decide_not,decide_eq_decide]
      unfold kbad
      omega
    · rw [if_neg (by simp [c1])]
      refine hj true (Eq.symm (decide_eq_true ?_))
      unfold kbad
      omega
theorem refCcheck_f (k:Nat) (hk:40≤k) (l:List S135):zay.f k l=some (ccheck l):=by
  unfold zay.f ccheck
  by_cases h1:(l.length:Int)<2
  · rw [if_pos h1,if_pos h1]
  · rw [if_neg h1,if_neg h1]
    by_cases h2:(l.length:Int) > 16
    · rw [if_pos h2,if_pos h2]
    · rw [if_neg h2,if_neg h2,refCcheck_l0 l (by omega) l.length k 0 (by omega) (by omega) (by omega)]
theorem refDcheck_l0 (l:List S120) (hl:l.length<100) (d:Nat) : ∀ (k:Nat) (i:Int),0≤i→i+d=l.length→2*d+42≤k→zaz.l0 k l i=some (dc l d i):=by
  induction d with
  | zero=>
    intro k i h0 hd hk
    obtain ⟨k,rfl⟩ : ∃ m,k=m+1:=⟨k - 1,by omega⟩
    simp only [zaz.l0,dc]
    rw [if_neg (by omega)]
  | succ d ih=>
    intro k i h0 hd hk
    obtain ⟨k,rfl⟩ : ∃ m,k=m+1:=⟨k - 1,by omega⟩
    obtain ⟨k,rfl⟩ : ∃ m,k=m+1:=⟨k - 1,by omega⟩
    have e:=ih k (i+1) (by omega) (by omega) (by omega)
    obtain ⟨K,hK⟩ : ∃ K,k+1=K:=⟨_,rfl⟩
    have hj : ∀ b:Bool,b=decide (dbad (el l i))→zaz.j1 K l i b=some (dc l (d+1) i):=fun b hb=>by
      subst hK
      subst hb
      simp only [zaz.j1,dc]
      by_cases c1:dbad (el l i)
      · rw [if_pos (decide_eq_true c1),if_pos c1]
      · rw [if_neg (by simp [c1]),if_neg c1,if_pos h0,if_pos (by omega),refCcheck_f k (by omega)]
        simp only [bsome]
        rw [w64 (n:=i+1) (by omega) (by omega),e,show zaF l i=el l i from rfl]
        by_cases c2:ccheck (el l i).f2=0
        · rw [if_pos c2,if_pos c2]
        · rw [if_neg c2,if_neg c2]
    rw [hK]
    simp only [zaz.l0]
    rw [if_pos (by omega),if_pos h0,show zaF l i=el l i from rfl]
    by_cases c1:(el l i).f0<1
    · rw [if_pos c1]
      exact hj true (Eq.symm (decide_eq_true (by unfold dbad;omega)))
    · rw [if_neg c1]
      by_cases c2:(el l i).f0 > 4
      · rw [if_pos c2]
        exact hj true (Eq.symm (decide_eq_true (by unfold dbad;omega)))
      · rw [if_neg c2]
        by_cases c3:(el l i).f1<1
        · rw [if_pos c3]
          exact hj true (Eq.symm (decide_eq_true (by unfold dbad;omega)))
        · rw [if_neg c3]
          refine hj _ ?_
          rw [decide_eq_decide]
          unfold dbad
          omega
theorem refDcheck_f (k:Nat) (hk:80≤k) (l:List S120):zaz.f k l=some (dcheck l):=by
  unfold zaz.f dcheck
  by_cases h2:(l.length:Int) > 8
  · rw [if_pos h2,if_pos h2]
  · rw [if_neg h2,if_neg h2,refDcheck_l0 l (by omega) l.length k 0 (by omega) (by omega) (by omega)]
end Go.Proofs.Ytlilncnoohfcdaa.Num
