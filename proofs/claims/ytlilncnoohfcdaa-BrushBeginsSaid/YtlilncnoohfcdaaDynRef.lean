/-
  Plain facts on the references of layers 7 and 26: they compute what the program computes. Conditions stand in each statement (enough rounds; the value of a curve at a unit value).
-/
import Derived.Test.YtlilncnoohfcdaaBrx13
import Derived.Test.YtlilncnoohfcdaaBrx14
import Derived.Test.YtlilncnoohfcdaaBrx16
import Derived.Test.YtlilncnoohfcdaaDax11
import Derived.Test.YtlilncnoohfcdaaDax12
import Derived.Test.YtlilncnoohfcdaaDyn
namespace Go.Proofs.Ytlilncnoohfcdaa.Num
open Go.RowKit Go.Proofs.YtlilncnoohfcdaaW.PrintWords Go.Proofs.YtlilncnoohfcdaaW.PrintLast Go.Proofs.YtlilncnoohfcdaaW.PrintMore Go.Proofs.Ytlilncnoohfcdaa.Da Go.Proofs.Ytlilncnoohfcdaa.Br
theorem isUnit_f (x:Int):zbe.f x=some (decide (0≤x∧x≤65535)):=by
  unfold zbe.f
  by_cases h:x≥0
  · rw [if_pos h]
    refine congrArg some ?_
    rw [decide_eq_decide]
    omega
  · rw [if_neg h]
    refine congrArg some (Eq.symm (decide_eq_false ?_))
    omega
theorem refCcheck_l0 (l:List S135) (hl:l.length<100) (d:Nat) : ∀ (k:Nat) (i:Int),0≤i→i+d=l.length→2*d+1≤k→zaH.l0 k l i=some (cc l d i):=by
  induction d with
  | zero=>
    intro k i h0 hd hk
    obtain ⟨k,rfl⟩ : ∃ m,k=m+1:=⟨k - 1,by omega⟩
    simp only [zaH.l0,cc]
    rw [if_neg (by omega)]
  | succ d ih=>
    intro k i h0 hd hk
    obtain ⟨k,rfl⟩ : ∃ m,k=m+1:=⟨k - 1,by omega⟩
    obtain ⟨k,rfl⟩ : ∃ m,k=m+1:=⟨k - 1,by omega⟩
    have e:=ih k (i+1) (by omega) (by omega) (by omega)
    obtain ⟨K,hK⟩ : ∃ K,k+1=K:=⟨_,rfl⟩
    have hj : ∀ b:Bool,b=decide (kbad (kn l i))→zaH.j1 K l i b=some (cc l (d+1) i):=fun b hb=>by
      subst hK
      subst hb
      simp only [zaH.j1,cc]
      by_cases c1:kbad (kn l i)
      · rw [if_pos (decide_eq_true c1),if_pos c1]
      · rw [if_neg (by simp [c1]),if_neg c1]
        by_cases c2:i > 0
        · rw [if_pos c2,if_pos h0,if_pos (by omega),w64 (n:=i - 1) (by omega) (by omega),if_pos (by omega),if_pos (by omega),w64 (n:=i+1) (by omega) (by omega),e,show zat l (i - 1)=kn l (i - 1) from rfl,show zat l i=kn l i from rfl]
          by_cases c3:(kn l i).f0≤(kn l (i - 1)).f0
          · rw [if_pos c3,if_pos ⟨c2,c3⟩]
          · rw [if_neg c3,if_neg (fun h=>c3 h.2)]
        · rw [if_neg c2,w64 (n:=i+1) (by omega) (by omega),e,if_neg (fun h=>c2 h.1)]
    rw [hK]
    simp only [zaH.l0]
    rw [if_pos (by omega),if_pos h0,show zat l i=kn l i from rfl,isUnit_f]
    simp only [zay]
    by_cases c1:0≤(kn l i).f0∧(kn l i).f0≤65535
    · rw [if_pos (decide_eq_true c1),isUnit_f]
      simp only [zay]
      refine hj _ ?_
      rw [← decide_not,decide_eq_decide]
      unfold kbad
      omega
    · rw [if_neg (by simp [c1])]
      refine hj true (Eq.symm (decide_eq_true ?_))
      unfold kbad
      omega
theorem refCcheck_f (k:Nat) (hk:40≤k) (l:List S135):zaH.f k l=some (ccheck l):=by
  unfold zaH.f ccheck
  by_cases h1:(l.length:Int)<2
  · rw [if_pos h1,if_pos h1]
  · rw [if_neg h1,if_neg h1]
    by_cases h2:(l.length:Int) > 16
    · rw [if_pos h2,if_pos h2]
    · rw [if_neg h2,if_neg h2,refCcheck_l0 l (by omega) l.length k 0 (by omega) (by omega) (by omega)]
theorem rdiv_zero (b:Int) (hb:0<b):rdiv 0 b=0:=by
  unfold rdiv
  exact Int.ediv_eq_zero_of_lt (by omega) (by omega)
theorem refAt_l0 (l:List S135) (x:Int) (hx:0≤x∧x≤65535) (hc:ccheck l=0) (d:Nat) : ∀ (k:Nat) (i:Int),1≤i→i+d=l.length→d+4≤k→
    za2.l0 k l x i=some (seg l x (fi l x d i)):=by
  obtain ⟨hl0,hl1,ok⟩:=ccheck_ok l hc
  induction d with
  | zero=>
    intro k i h0 hd hk
    obtain ⟨k,rfl⟩ : ∃ m,k=m+1:=⟨k - 1,by omega⟩
    simp only [za2.l0,fi]
    rw [if_neg (by omega),w64 (n:=(l.length:Int) - 1) (by omega) (by omega),if_pos (by omega),if_pos (by omega)]
    unfold seg
    rw [if_neg (by omega),if_pos (by omega),show (l.length:Int) - 1=i - 1 by omega]
    rfl
  | succ d ih=>
    intro k i h0 hd hk
    obtain ⟨k,rfl⟩ : ∃ m,k=m+1:=⟨k - 1,by omega⟩
    obtain ⟨k,rfl⟩ : ∃ m,k=m+1:=⟨k - 1,by omega⟩
    have e:=ih (k+1) (i+1) (by omega) (by omega) (by omega)
    obtain ⟨K,hK⟩ : ∃ K,k+1=K:=⟨_,rfl⟩
    rw [hK] at e ⊢
    simp only [za2.l0,fi]
    rw [if_pos (by omega),if_pos (by omega),w64 (n:=i+1) (by omega) (by omega),e,w64 (n:=i - 1) (by omega) (by omega),show zat l i=kn l i from rfl,show zat l (i - 1)=kn l (i - 1) from rfl]
    by_cases c:(kn l i).f0≤x
    · rw [if_neg (by omega),if_pos c]
    · rw [if_pos (by omega),if_neg c,if_pos (by omega),if_pos (by omega)]
      have o1:=ok i (by omega) (by omega)
      have o0:=ok (i - 1) (by omega) (by omega)
      have r:=o1.2 (by omega)
      have u1:=o1.1
      have u0:=o0.1
      unfold kbad at u1 u0
      have lb:=lin_bd (kn l (i - 1)).f1 (kn l i).f1 x (kn l (i - 1)).f0 (by omega) (by omega) (by omega)
      rw [w64 (n:=(kn l i).f1 - (kn l (i - 1)).f1) (by omega) (by omega),w64 (n:=x - (kn l (i - 1)).f0) (by omega) (by omega),w64 (n:=_*_) (by omega) (by omega),w64 (n:=(kn l i).f0 - (kn l (i - 1)).f0) (by omega) (by omega),← hK,refDiv_f k _ _ (by omega) (by omega) (by omega) (by omega)]
      simp only [zay]
      have rb:=rdiv_one (((kn l i).f1 - (kn l (i - 1)).f1)*(x - (kn l (i - 1)).f0)) ((kn l i).f0 - (kn l (i - 1)).f0) (by omega) lb.1 lb.2
      rw [w64 (by omega) (by omega)]
      unfold seg
      rw [if_neg (by omega),if_neg (by omega)]
theorem refCat_f (k:Nat) (hk:40≤k) (l:List S135) (x:Int) (hx:0≤x∧x≤65535):za2.f k l x=some (cat l x):=by
  unfold za2.f cat
  rw [refCcheck_f k hk,refUnit_f,uni_same x hx.1 hx.2]
  simp only [zay]
  by_cases h:ccheck l=0
  · obtain ⟨h2,h16,ok⟩:=ccheck_ok l h
    obtain ⟨n,hn⟩ : ∃ n,l.length=n+1:=⟨l.length - 1,by omega⟩
    have r1:=(ok 1 (by omega) (by omega)).2 (by omega)
    rw [if_pos h,if_pos h,if_pos (by omega),show zat l 0=kn l 0 from rfl]
    have hr1:(kn l (1 - 1)).f0=(kn l 0).f0:=rfl
    by_cases c:x≤(kn l 0).f0
    · rw [if_pos c]
      obtain ⟨m,hm⟩ : ∃ m,n=m+1:=⟨n - 1,by omega⟩
      rw [hn,hm]
      by_cases c2:x=(kn l 0).f0
      · have e:fi l x (m+1+1) 0=1:=by
          simp only [fi]
          rw [if_pos (by omega),if_neg (by simp only [Int.zero_add];omega)]
          rfl
        rw [e]
        unfold seg
        rw [if_neg (by omega),if_neg (by omega)]
        have z:x - (kn l (1 - 1)).f0=0:=by rw [hr1];omega
        rw [z,Int.mul_zero,rdiv_zero _ (by omega)]
        refine congrArg some ?_
        show _=(kn l 0).f1+0
        omega
      · have e:fi l x (m+1+1) 0=0:=by
          simp only [fi]
          rw [if_neg (by omega)]
        rw [e]
        unfold seg
        rw [if_pos rfl]
    · rw [if_neg c]
      rw [refAt_l0 l x hx h n k 1 (by omega) (by omega) (by omega),hn]
      simp only [fi]
      rw [if_pos (by omega)]
      rfl
  · rw [if_neg h,if_neg h]
theorem refDcheck_l0 (l:List S120) (hl:l.length<100) (d:Nat) : ∀ (k:Nat) (i:Int),0≤i→i+d=l.length→2*d+42≤k→zaI.l0 k l i=some (dc l d i):=by
  induction d with
  | zero=>
    intro k i h0 hd hk
    obtain ⟨k,rfl⟩ : ∃ m,k=m+1:=⟨k - 1,by omega⟩
    simp only [zaI.l0,dc]
    rw [if_neg (by omega)]
  | succ d ih=>
    intro k i h0 hd hk
    obtain ⟨k,rfl⟩ : ∃ m,k=m+1:=⟨k - 1,by omega⟩
    obtain ⟨k,rfl⟩ : ∃ m,k=m+1:=⟨k - 1,by omega⟩
    have e:=ih k (i+1) (by omega) (by omega) (by omega)
    obtain ⟨K,hK⟩ : ∃ K,k+1=K:=⟨_,rfl⟩
    have hj : ∀ b:Bool,b=decide (dbad (el l i))→zaI.j1 K l i b=some (dc l (d+1) i):=fun b hb=>by
      subst hK
      subst hb
      simp only [zaI.j1,dc]
      by_cases c1:dbad (el l i)
      · rw [if_pos (decide_eq_true c1),if_pos c1]
      · rw [if_neg (by simp [c1]),if_neg c1,if_pos h0,if_pos (by omega),refCcheck_f k (by omega)]
        simp only [zay]
        rw [w64 (n:=i+1) (by omega) (by omega),e,show zaE l i=el l i from rfl]
        by_cases c2:ccheck (el l i).f2=0
        · rw [if_pos c2,if_pos c2]
        · rw [if_neg c2,if_neg c2]
    rw [hK]
    simp only [zaI.l0]
    rw [if_pos (by omega),if_pos h0,show zaE l i=el l i from rfl]
    by_cases c1:(el l i).f0<1
    · rw [if_pos c1]
      exact hj true (Eq.symm (decide_eq_true (by unfold dbad;omega)))
    · rw [if_neg c1]
      by_cases c2:(el l i).f0 > 4
      · rw [if_pos c2]
        exact hj true (Eq.symm (decide_eq_true (by unfold dbad;omega)))
      · rw [if_neg c2]
        by_cases c3:(el l i).f1<1
        · rw [if_pos c3]
          exact hj true (Eq.symm (decide_eq_true (by unfold dbad;omega)))
        · rw [if_neg c3]
          refine hj _ ?_
          rw [decide_eq_decide]
          unfold dbad
          omega
theorem refDcheck_f (k:Nat) (hk:80≤k) (l:List S120):zaI.f k l=some (dcheck l):=by
  unfold zaI.f dcheck
  by_cases h2:(l.length:Int) > 8
  · rw [if_pos h2,if_pos h2]
  · rw [if_neg h2,if_neg h2,refDcheck_l0 l (by omega) l.length k 0 (by omega) (by omega) (by omega)]
theorem mn_mx (x lo hi:Int) (h:lo≤hi):mn (mx x lo) hi=mn hi (mx x lo):=by unfold mn mx;split <;> split <;> split <;> omega
theorem refUni_f (x:Int):zaY.f x=some (uni x):=by
  unfold zaY.f
  rw [uni_other]
theorem refPlace_f (x:Int):zaJ.f x=some (clP x):=by
  unfold zaJ.f clP
  rw [mn_mx x (-16777216) 16777216 (by omega)]
theorem clT_other (x:Int):mn (mx x 0) 1073741824=clT x:=by
  unfold clT
  rw [mn_mx x 0 1073741824 (by omega)]
theorem refSpd_f (k:Nat) (hk:70≤k) (ax ay ap ati at' bx by' bp bti bt:Int):zbf.f k ax ay ap ati at' bx by' bp bti bt=some (spd ax ay at' bx by' bt):=by
  obtain ⟨k,rfl⟩ : ∃ m,k=m+66:=⟨k - 66,by omega⟩
  have t1:=clT_bd bt
  have t0:=clT_bd at'
  have q1:=clP_bd bx
  have q2:=clP_bd ax
  have q3:=clP_bd by'
  have q4:=clP_bd ay
  have hs:=hyp_small (clP bx - clP ax) (clP by' - clP ay) (by omega) (by omega)
  unfold zbf.f spd
  rw [clT_other,clT_other]
  by_cases c:clT bt - clT at'≤0
  · rw [if_pos c,if_pos c]
  · rw [if_neg c,if_neg c,refPlace_f,refPlace_f,refPlace_f,refPlace_f]
    simp only [zay]
    rw [w64 (n:=clP bx - clP ax) (by omega) (by omega),w64 (n:=clP by' - clP ay) (by omega) (by omega),refHypot_f k _ _ (by omega) (by omega) (by omega) (by omega)]
    simp only [zay]
    rw [w64 (n:=_*65535) (by omega) (by omega),show k+66=(k+65)+1 by omega,refDiv_f _ _ _ (by omega) (by omega) (by omega) (by omega)]
    simp only [zay]
    rw [refUni_f]
    simp only [zay]
theorem refSrc_f (kind x y p ti t sp ix sd:Int):zb7.f kind x y p ti t sp ix sd=some (src kind p ti sp ix sd):=by
  unfold zb7.f src
  by_cases c1:kind=1
  · rw [if_pos c1,if_pos c1,refUni_f]
    exact zay _ _
  · rw [if_neg c1,if_neg c1]
    by_cases c2:kind=2
    · rw [if_pos c2,if_pos c2,refUni_f]
      exact zay _ _
    · rw [if_neg c2,if_neg c2]
      by_cases c3:kind=3
      · rw [if_pos c3,if_pos c3,refUni_f]
        exact zay _ _
      · rw [if_neg c3,if_neg c3]
        by_cases c4:kind=4
        · rw [if_pos c4,if_pos c4,Rnd.refUnit_f]
          exact zay _ _
        · rw [if_neg c4,if_neg c4]
          by_cases c5:kind=5
          · rw [if_pos c5,if_pos c5]
            have e:mn (mx 0 ix) 64=mn 64 (mx ix 0):=by unfold mn mx;split <;> split <;> split <;> split <;> omega
            rw [e]
          · rw [if_neg c5,if_neg c5]
theorem refVal_l0 (l:List S120) (hl:l.length<100) (target x y p ti t sp ix sd:Int) (d:Nat) : ∀ (k:Nat) (i v:Int),0≤i→i+d=l.length→d+50≤k→
    zav.l0 k l target sp ix sd v i x y p ti t=some (dv l target p ti sp ix sd d i v):=by
  induction d with
  | zero=>
    intro k i v h0 hd hk
    obtain ⟨k,rfl⟩ : ∃ m,k=m+1:=⟨k - 1,by omega⟩
    simp only [zav.l0,dv]
    rw [if_neg (by omega)]
  | succ d ih=>
    intro k i v h0 hd hk
    obtain ⟨k,rfl⟩ : ∃ m,k=m+1:=⟨k - 1,by omega⟩
    obtain ⟨m,hm⟩ : ∃ m,k=m+1:=⟨k - 1,by omega⟩
    simp only [zav.l0,dv]
    rw [if_pos (by omega),if_pos h0,w64 (n:=i+1) (by omega) (by omega),refSrc_f]
    simp only [zay]
    rw [refCat_f k (by omega) _ _ (src_bd _ _ _ _ _ _)]
    simp only [zay]
    rw [hm,refMul_f,← hm]
    simp only [zay]
    rw [ih k (i+1) _ (by omega) (by omega) (by omega),ih k (i+1) _ (by omega) (by omega) (by omega)]
    change (if (el l i).f0=target then _ else _)=_
    by_cases c:(el l i).f0=target
    · rw [if_pos c,if_pos c]
      rfl
    · rw [if_neg c,if_neg c]
theorem refVal_f (k:Nat) (hk:80≤k) (l:List S120) (target x y p ti t sp ix sd:Int):zav.f k l target x y p ti t sp ix sd=some (val l target p ti sp ix sd):=by
  unfold zav.f val
  rw [refDcheck_f k hk]
  simp only [zay]
  by_cases h:dcheck l=0
  · obtain ⟨h8,_⟩:=dcheck_ok l h
    rw [if_pos h,if_pos h,refVal_l0 l (by omega) target x y p ti t sp ix sd l.length k 0 65535 (by omega) (by omega) (by omega)]
  · rw [if_neg h,if_neg h]
end Go.Proofs.Ytlilncnoohfcdaa.Num
