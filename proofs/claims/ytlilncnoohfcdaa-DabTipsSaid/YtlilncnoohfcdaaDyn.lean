/-
  Plain facts on layers 7 and 26 (curves, brush dynamics): what Check, Speed, Source and Value compute, of the program and of the reference alike. Conditions stand in each statement (enough rounds; lengths below 2^63).
-/
import Derived.Test.YtlilncnoohfcdaaDax3
import Derived.Test.YtlilncnoohfcdaaDax4
import Derived.Test.YtlilncnoohfcdaaNum
import Derived.Test.YtlilncnoohfcdaaHyp
namespace Go.Proofs.Ytlilncnoohfcdaa.Num
open Go.RowKit Go.Proofs.YtlilncnoohfcdaaW.PrintWords Go.Proofs.YtlilncnoohfcdaaW.PrintLast Go.Proofs.YtlilncnoohfcdaaW.PrintMore Go.Proofs.Ytlilncnoohfcdaa.Da
def kbad (p:S135):Prop:=p.f0<0∨65535<p.f0∨p.f1<0∨65535<p.f1
instance (p:S135):Decidable (kbad p):=by unfold kbad;exact inferInstance
def kn (l:List S135) (i:Int):S135:=zaH l i
def cc (l:List S135):Nat→Int→Int
  | 0,_=>0
  | d+1,i=>if kbad (kn l i) then 2 else if 0<i∧(kn l i).f0≤(kn l (i - 1)).f0 then 24 else cc l d (i+1)
def ccheck (l:List S135):Int:=if (l.length:Int)<2 then 1 else if 16<(l.length:Int) then 3 else cc l l.length 0
theorem ccheck_l0 (l:List S135) (hl:l.length<100) (d:Nat) : ∀ (k:Nat) (i:Int),0≤i→i+d=l.length→2*d+1≤k→zaE.l0 k l l (l.length:Int) i=some (cc l d i):=by
  induction d with
  | zero=>
    intro k i h0 hd hk
    obtain ⟨k,rfl⟩ : ∃ m,k=m+1:=⟨k - 1,by omega⟩
    simp only [zaE.l0,cc]
    rw [if_neg (by omega)]
  | succ d ih=>
    intro k i h0 hd hk
    obtain ⟨k,rfl⟩ : ∃ m,k=m+1:=⟨k - 1,by omega⟩
    obtain ⟨k,rfl⟩ : ∃ m,k=m+1:=⟨k - 1,by omega⟩
    have e:=ih k (i+1) (by omega) (by omega) (by omega)
    obtain ⟨K,hK⟩ : ∃ K,k+1=K:=⟨_,rfl⟩
    have hj : ∀ b:Bool,b=decide (kbad (kn l i))→zaE.j1 K l i l (l.length:Int) i b (kn l i).f0 (kn l i).f1=some (cc l (d+1) i):=fun b hb=>by
      subst hK
      subst hb
      simp only [zaE.j1,cc]
      by_cases c1:kbad (kn l i)
      · rw [if_pos (decide_eq_true c1),if_pos c1]
      · rw [if_neg (by simp [c1]),if_neg c1]
        by_cases c2:i > 0
        · rw [if_pos c2,w64 (n:=i - 1) (by omega) (by omega),if_pos (by omega),if_pos (by omega),w64 (n:=i+1) (by omega) (by omega),e,show zaH l (i - 1)=kn l (i - 1) from rfl]
          by_cases c3:(kn l i).f0≤(kn l (i - 1)).f0
          · rw [if_pos c3,if_pos ⟨c2,c3⟩]
          · rw [if_neg c3,if_neg (fun h=>c3 h.2)]
        · rw [if_neg c2,w64 (n:=i+1) (by omega) (by omega),e,if_neg (fun h=>c2 h.1)]
    rw [hK]
    simp only [zaE.l0]
    rw [if_pos (by omega),if_pos h0,if_pos (by omega)]
    change (if mn (kn l i).f0 (kn l i).f1<0 then zaE.j1 K l i l (l.length:Int) i true (kn l i).f0 (kn l i).f1 else zaE.j1 K l i l (l.length:Int) i (decide (mx (kn l i).f0 (kn l i).f1 > 65535)) (kn l i).f0 (kn l i).f1)=_
    by_cases c1:mn (kn l i).f0 (kn l i).f1<0
    · rw [if_pos c1]
      refine hj true (Eq.symm (decide_eq_true ?_))
      unfold kbad
      unfold mn at c1
      split at c1 <;> omega
    · rw [if_neg c1]
      refine hj _ ?_
      rw [decide_eq_decide]
      unfold kbad mx
      unfold mn at c1
      constructor
      · intro h
        split at h <;> omega
      · intro h
        split at c1 <;> split <;> omega
theorem ccheck_f (k:Nat) (hk:40≤k) (l:List S135):zaE.f k l=some (ccheck l):=by
  unfold zaE.f ccheck
  by_cases h1:(l.length:Int)<2
  · rw [if_pos h1,if_pos h1]
  · rw [if_neg h1,if_neg h1]
    by_cases h2:(l.length:Int) > 16
    · rw [if_pos h2,if_pos h2]
    · rw [if_neg h2,if_neg h2,ccheck_l0 l (by omega) l.length k 0 (by omega) (by omega) (by omega)]
theorem rdiv_lim (a b:Int) (hb:0<b) (m:Int) (h0 : -(m*b)≤a) (h1:a≤m*b) : -m≤rdiv a b∧rdiv a b≤m:=by
  unfold rdiv
  constructor
  · refine (Int.le_ediv_iff_mul_le (by omega)).mpr ?_
    have : -m*(2*b) = -(2*(m*b)):=by rw [Int.neg_mul,Int.mul_left_comm]
    omega
  · refine Int.le_of_lt_add_one ((Int.ediv_lt_iff_lt_mul (by omega)).mpr ?_)
    have:(m+1)*(2*b)=2*(m*b)+2*b:=by rw [Int.add_mul,Int.mul_left_comm,Int.one_mul]
    omega
def el (l:List S120) (i:Int):S120:=zaF l i
def dbad (p:S120):Prop:=p.f0<1∨4<p.f0∨p.f1<1∨5<p.f1
instance (p:S120):Decidable (dbad p):=by unfold dbad;exact inferInstance
def dc (l:List S120):Nat→Int→Int
  | 0,_=>0
  | d+1,i=>if dbad (el l i) then 8 else if ccheck (el l i).f2=0 then dc l d (i+1) else ccheck (el l i).f2
def dcheck (l:List S120):Int:=if 8<(l.length:Int) then 3 else dc l l.length 0
theorem dcheck_l0 (l:List S120) (hl:l.length<100) (d:Nat) : ∀ (k:Nat) (i:Int),0≤i→i+d=l.length→2*d+42≤k→zaw.l0 k l (l.length:Int) i=some (dc l d i):=by
  induction d with
  | zero=>
    intro k i h0 hd hk
    obtain ⟨k,rfl⟩ : ∃ m,k=m+1:=⟨k - 1,by omega⟩
    simp only [zaw.l0,dc]
    rw [if_neg (by omega)]
  | succ d ih=>
    intro k i h0 hd hk
    obtain ⟨k,rfl⟩ : ∃ m,k=m+1:=⟨k - 1,by omega⟩
    obtain ⟨k,rfl⟩ : ∃ m,k=m+1:=⟨k - 1,by omega⟩
    have e:=ih k (i+1) (by omega) (by omega) (by omega)
    obtain ⟨K,hK⟩ : ∃ K,k+1=K:=⟨_,rfl⟩
    have hj : ∀ b:Bool,b=decide (dbad (el l i))→zaw.j1 K l (l.length:Int) i b (el l i).f0 (el l i).f1 (el l i).f2=some (dc l (d+1) i):=fun b hb=>by
      subst hK
      subst hb
      simp only [zaw.j1,dc]
      by_cases c1:dbad (el l i)
      · rw [if_pos (decide_eq_true c1),if_pos c1]
      · rw [if_neg (by simp [c1]),if_neg c1,ccheck_f k (by omega)]
        simp only [bsome]
        rw [w64 (n:=i+1) (by omega) (by omega),e]
        by_cases c2:ccheck (el l i).f2=0
        · rw [if_pos c2,if_pos c2]
        · rw [if_neg c2,if_neg c2]
    rw [hK]
    simp only [zaw.l0]
    rw [if_pos (by omega),if_pos h0,if_pos (by omega)]
    change (if (el l i).f0<1 then zaw.j1 K l (l.length:Int) i true (el l i).f0 (el l i).f1 (el l i).f2 else if (el l i).f0 > 4 then zaw.j1 K l (l.length:Int) i true (el l i).f0 (el l i).f1 (el l i).f2 else
      if (el l i).f1<1 then zaw.j1 K l (l.length:Int) i true (el l i).f0 (el l i).f1 (el l i).f2 else zaw.j1 K l (l.length:Int) i (decide ((el l i).f1 > 5)) (el l i).f0 (el l i).f1 (el l i).f2)=_
    by_cases c1:(el l i).f0<1
    · rw [if_pos c1]
      exact hj true (Eq.symm (decide_eq_true (by unfold dbad;omega)))
    · rw [if_neg c1]
      by_cases c2:(el l i).f0 > 4
      · rw [if_pos c2]
        exact hj true (Eq.symm (decide_eq_true (by unfold dbad;omega)))
      · rw [if_neg c2]
        by_cases c3:(el l i).f1<1
        · rw [if_pos c3]
          exact hj true (Eq.symm (decide_eq_true (by unfold dbad;omega)))
        · rw [if_neg c3]
          refine hj _ ?_
          rw [decide_eq_decide]
          unfold dbad
          omega
theorem dcheck_f (k:Nat) (hk:80≤k) (l:List S120):zaw.f k l=some (dcheck l):=by
  unfold zaw.f dcheck
  by_cases h2:(l.length:Int) > 8
  · rw [if_pos h2,if_pos h2]
  · rw [if_neg h2,if_neg h2,dcheck_l0 l (by omega) l.length k 0 (by omega) (by omega) (by omega)]
def clP (x:Int):Int:=mn 16777216 (mx x (-16777216))
theorem clP_bd (x:Int) : -16777216≤clP x∧clP x≤16777216:=by unfold clP mn mx;split <;> split <;> omega
end Go.Proofs.Ytlilncnoohfcdaa.Num
