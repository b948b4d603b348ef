/-
  Plain facts on layers 7 and 26 (curves, brush dynamics): what Check, Speed, Source and Value compute, of the program and of the reference alike. Conditions stand in each statement (enough rounds; lengths below 2^63).
-/
import Derived.Test.YtlilncnoohfcdaaBrx3
import Derived.Test.YtlilncnoohfcdaaBrx4
import Derived.Test.YtlilncnoohfcdaaBrx6
import Derived.Test.YtlilncnoohfcdaaDax3
import Derived.Test.YtlilncnoohfcdaaDax4
import Derived.Test.YtlilncnoohfcdaaNum
import Derived.Test.YtlilncnoohfcdaaHyp
import Derived.Test.YtlilncnoohfcdaaRnd
namespace Go.Proofs.Ytlilncnoohfcdaa.Num
open Go.RowKit Go.Proofs.YtlilncnoohfcdaaW.PrintWords Go.Proofs.YtlilncnoohfcdaaW.PrintLast Go.Proofs.YtlilncnoohfcdaaW.PrintMore Go.Proofs.Ytlilncnoohfcdaa.Da Go.Proofs.Ytlilncnoohfcdaa.Br
def kbad (p:S135):Prop:=p.f0<0∨65535<p.f0∨p.f1<0∨65535<p.f1
instance (p:S135):Decidable (kbad p):=by unfold kbad;exact inferInstance
def kn (l:List S135) (i:Int):S135:=zat l i
def cc (l:List S135):Nat→Int→Int
  | 0,_=>0
  | d+1,i=>if kbad (kn l i) then 2 else if 0<i∧(kn l i).f0≤(kn l (i - 1)).f0 then 24 else cc l d (i+1)
def ccheck (l:List S135):Int:=if (l.length:Int)<2 then 1 else if 16<(l.length:Int) then 3 else cc l l.length 0
theorem ccheck_l0 (l:List S135) (hl:l.length<100) (d:Nat) : ∀ (k:Nat) (i:Int),0≤i→i+d=l.length→2*d+1≤k→zbb.l0 k l l (l.length:Int) i=some (cc l d i):=by
  induction d with
  | zero=>
    intro k i h0 hd hk
    obtain ⟨k,rfl⟩ : ∃ m,k=m+1:=⟨k - 1,by omega⟩
    simp only [zbb.l0,cc]
    rw [if_neg (by omega)]
  | succ d ih=>
    intro k i h0 hd hk
    obtain ⟨k,rfl⟩ : ∃ m,k=m+1:=⟨k - 1,by omega⟩
    obtain ⟨k,rfl⟩ : ∃ m,k=m+1:=⟨k - 1,by omega⟩
    have e:=ih k (i+1) (by omega) (by omega) (by omega)
    obtain ⟨K,hK⟩ : ∃ K,k+1=K:=⟨_,rfl⟩
    have hj : ∀ b:Bool,b=decide (kbad (kn l i))→zbb.j1 K l i l (l.length:Int) i b (kn l i).f0 (kn l i).f1=some (cc l (d+1) i):=fun b hb=>by
      subst hK
      subst hb
      simp only [zbb.j1,cc]
      by_cases c1:kbad (kn l i)
      · rw [if_pos (decide_eq_true c1),if_pos c1]
      · rw [if_neg (by simp [c1]),if_neg c1]
        by_cases c2:i > 0
        · rw [if_pos c2,w64 (n:=i - 1) (by omega) (by omega),if_pos (by omega),if_pos (by omega),w64 (n:=i+1) (by omega) (by omega),e,show zat l (i - 1)=kn l (i - 1) from rfl]
          by_cases c3:(kn l i).f0≤(kn l (i - 1)).f0
          · rw [if_pos c3,if_pos ⟨c2,c3⟩]
          · rw [if_neg c3,if_neg (fun h=>c3 h.2)]
        · rw [if_neg c2,w64 (n:=i+1) (by omega) (by omega),e,if_neg (fun h=>c2 h.1)]
    rw [hK]
    simp only [zbb.l0]
    rw [if_pos (by omega),if_pos h0,if_pos (by omega)]
    change (if mn (kn l i).f0 (kn l i).f1<0 then zbb.j1 K l i l (l.length:Int) i true (kn l i).f0 (kn l i).f1 else zbb.j1 K l i l (l.length:Int) i (decide (mx (kn l i).f0 (kn l i).f1 > 65535)) (kn l i).f0 (kn l i).f1)=_
    by_cases c1:mn (kn l i).f0 (kn l i).f1<0
    · rw [if_pos c1]
      refine hj true (Eq.symm (decide_eq_true ?_))
      unfold kbad
      unfold mn at c1
      split at c1 <;> omega
    · rw [if_neg c1]
      refine hj _ ?_
      rw [decide_eq_decide]
      unfold kbad mx
      unfold mn at c1
      constructor
      · intro h
        split at h <;> omega
      · intro h
        split at c1 <;> split <;> omega
theorem ccheck_f (k:Nat) (hk:40≤k) (l:List S135):zbb.f k l=some (ccheck l):=by
  unfold zbb.f ccheck
  by_cases h1:(l.length:Int)<2
  · rw [if_pos h1,if_pos h1]
  · rw [if_neg h1,if_neg h1]
    by_cases h2:(l.length:Int) > 16
    · rw [if_pos h2,if_pos h2]
    · rw [if_neg h2,if_neg h2,ccheck_l0 l (by omega) l.length k 0 (by omega) (by omega) (by omega)]
theorem cc_ok (l:List S135) (d:Nat) : ∀ i:Int,cc l d i=0→∀ j,i≤j→j<i+d→¬ kbad (kn l j)∧(0<j→(kn l (j - 1)).f0<(kn l j).f0):=by
  induction d with
  | zero=>intro i _ j h1 h2;omega
  | succ d ih=>
    intro i h j h1 h2
    simp only [cc] at h
    by_cases c1:kbad (kn l i)
    · rw [if_pos c1] at h
      omega
    · rw [if_neg c1] at h
      by_cases c2:0<i∧(kn l i).f0≤(kn l (i - 1)).f0
      · rw [if_pos c2] at h
        omega
      · rw [if_neg c2] at h
        by_cases e:j=i
        · subst e
          exact ⟨c1,fun hp=>by omega⟩
        · exact ih (i+1) h j (by omega) (by omega)
theorem ccheck_ok (l:List S135) (h:ccheck l=0):2≤l.length∧l.length≤16∧∀ j:Int,0≤j→j<l.length→¬ kbad (kn l j)∧(0<j→(kn l (j - 1)).f0<(kn l j).f0):=by
  unfold ccheck at h
  by_cases h1:(l.length:Int)<2
  · rw [if_pos h1] at h
    omega
  · rw [if_neg h1] at h
    by_cases h2:16<(l.length:Int)
    · rw [if_pos h2] at h
      omega
    · rw [if_neg h2] at h
      exact ⟨by omega,by omega,fun j a b=>cc_ok l l.length 0 h j a (by omega)⟩
def fi (l:List S135) (x:Int):Nat→Int→Int
  | 0,i=>i
  | d+1,i=>if (kn l i).f0≤x then fi l x d (i+1) else i
def seg (l:List S135) (x i:Int):Int:=
  if i=0 then (kn l 0).f1 else if i=l.length then (kn l (i - 1)).f1
  else (kn l (i - 1)).f1+rdiv (((kn l i).f1 - (kn l (i - 1)).f1)*(x - (kn l (i - 1)).f0)) ((kn l i).f0 - (kn l (i - 1)).f0)
def cat (l:List S135) (x:Int):Int:=if ccheck l=0 then seg l (uni x) (fi l (uni x) l.length 0) else uni x
theorem lin_bd (y0 y1 x x0:Int) (a:0≤y0∧y0≤65535) (b:0≤y1∧y1≤65535) (c : -131070≤x - x0∧x - x0≤131070) : -8589934592≤(y1 - y0)*(x - x0)∧(y1 - y0)*(x - x0)≤8589934592:=by
  have k1:(y1 - y0)*(x - x0)≤65535*131070:=by
    by_cases s:0≤y1 - y0
    · by_cases t:0≤x - x0
      · exact Int.mul_le_mul (by omega) c.2 t (by omega)
      · have:=Int.mul_nonpos_of_nonneg_of_nonpos s (show x - x0≤0 by omega)
        omega
    · by_cases t:0≤x - x0
      · have:=Int.mul_nonpos_of_nonpos_of_nonneg (show y1 - y0≤0 by omega) t
        omega
      · have e:(y1 - y0)*(x - x0)=(-(y1 - y0))*(-(x - x0)):=(Int.neg_mul_neg _ _).symm
        rw [e]
        exact Int.mul_le_mul (by omega) (by omega) (by omega) (by omega)
  have k2 : -((y1 - y0)*(x - x0))≤65535*131070:=by
    rw [← Int.neg_mul]
    by_cases s:0≤-(y1 - y0)
    · by_cases t:0≤x - x0
      · exact Int.mul_le_mul (by omega) c.2 t (by omega)
      · have:=Int.mul_nonpos_of_nonneg_of_nonpos s (show x - x0≤0 by omega)
        omega
    · by_cases t:0≤x - x0
      · have:=Int.mul_nonpos_of_nonpos_of_nonneg (show -(y1 - y0)≤0 by omega) t
        omega
      · have e:(-(y1 - y0))*(x - x0)=(y1 - y0)*(-(x - x0)):=by rw [Int.neg_mul,Int.mul_neg]
        rw [e]
        exact Int.mul_le_mul (by omega) (by omega) (by omega) (by omega)
  omega
theorem rdiv_lim (a b:Int) (hb:0<b) (m:Int) (h0 : -(m*b)≤a) (h1:a≤m*b) : -m≤rdiv a b∧rdiv a b≤m:=by
  unfold rdiv
  constructor
  · refine (Int.le_ediv_iff_mul_le (by omega)).mpr ?_
    have : -m*(2*b) = -(2*(m*b)):=by rw [Int.neg_mul,Int.mul_left_comm]
    omega
  · refine Int.le_of_lt_add_one ((Int.ediv_lt_iff_lt_mul (by omega)).mpr ?_)
    have:(m+1)*(2*b)=2*(m*b)+2*b:=by rw [Int.add_mul,Int.mul_left_comm,Int.one_mul]
    omega
theorem rdiv_one (a b:Int) (hb:1≤b) (h0 : -8589934592≤a) (h1:a≤8589934592) : -8589934592≤rdiv a b∧rdiv a b≤8589934592:=by
  have:=Int.mul_le_mul_of_nonneg_left (show (1:Int)≤b from hb) (show (0:Int)≤8589934592 by omega)
  exact rdiv_lim a b (by omega) 8589934592 (by omega) (by omega)
theorem between_l0 (l:List S135) (x:Int) (hx:0≤x∧x≤65535) (hc:ccheck l=0) (d:Nat) : ∀ (k:Nat) (i:Int),0≤i→i+d=l.length→d+4≤k→
    zbk.l0 k l x i=some (seg l x (fi l x d i)):=by
  obtain ⟨hl0,hl1,ok⟩:=ccheck_ok l hc
  have fin : ∀ (k:Nat) (i:Int),0≤i→i≤l.length→zbk.j1 (k+2) l x i=some (seg l x i):=fun k i h0 h1=>by
    simp only [zbk.j1]
    unfold seg
    by_cases c0:i=0
    · rw [if_pos c0,if_pos c0,if_pos (by omega)]
      rfl
    · rw [if_neg c0,if_neg c0,w64 (n:=i - 1) (by omega) (by omega),if_pos (by omega),if_pos (by omega)]
      by_cases c1:i=l.length
      · rw [if_pos c1,if_pos c1]
        rfl
      · rw [if_neg c1,if_neg c1,if_pos (by omega),if_pos (by omega)]
        have o1:=ok i (by omega) (by omega)
        have o0:=ok (i - 1) (by omega) (by omega)
        have r:=o1.2 (by omega)
        have u1:=o1.1
        have u0:=o0.1
        unfold kbad at u1 u0
        change ((zbl.f (k+1) (wrap64 (wrap64 ((kn l i).f1 - (kn l (i - 1)).f1)*wrap64 (x - (kn l (i - 1)).f0))) (wrap64 ((kn l i).f0 - (kn l (i - 1)).f0))).bind fun t=>some (wrap64 ((kn l (i - 1)).f1+t)))=_
        have lb:=lin_bd (kn l (i - 1)).f1 (kn l i).f1 x (kn l (i - 1)).f0 (by omega) (by omega) (by omega)
        rw [w64 (n:=(kn l i).f1 - (kn l (i - 1)).f1) (by omega) (by omega),w64 (n:=x - (kn l (i - 1)).f0) (by omega) (by omega),w64 (n:=_*_) (by omega) (by omega),w64 (n:=(kn l i).f0 - (kn l (i - 1)).f0) (by omega) (by omega),div_f k _ _ (by omega) (by omega) (by omega) (by omega)]
        simp only [zay]
        have rb:=rdiv_one (((kn l i).f1 - (kn l (i - 1)).f1)*(x - (kn l (i - 1)).f0)) ((kn l i).f0 - (kn l (i - 1)).f0) (by omega) lb.1 lb.2
        rw [w64 (by omega) (by omega)]
  induction d with
  | zero=>
    intro k i h0 hd hk
    obtain ⟨k,rfl⟩ : ∃ m,k=m+1:=⟨k - 1,by omega⟩
    obtain ⟨m,rfl⟩ : ∃ m,k=m+2:=⟨k - 2,by omega⟩
    obtain ⟨K,hK⟩ : ∃ K,m+2=K:=⟨_,rfl⟩
    have f:=fin m i h0 (by omega)
    rw [hK] at f ⊢
    simp only [zbk.l0,fi]
    rw [if_neg (by omega),f]
  | succ d ih=>
    intro k i h0 hd hk
    obtain ⟨k,rfl⟩ : ∃ m,k=m+1:=⟨k - 1,by omega⟩
    obtain ⟨m,rfl⟩ : ∃ m,k=m+2:=⟨k - 2,by omega⟩
    have e:=ih (m+2) (i+1) (by omega) (by omega) (by omega)
    have f:=fin m i h0 (by omega)
    obtain ⟨K,hK⟩ : ∃ K,m+2=K:=⟨_,rfl⟩
    rw [hK] at e f ⊢
    simp only [zbk.l0,fi]
    rw [if_pos (by omega),if_pos h0,w64 (n:=i+1) (by omega) (by omega),e,f]
    change (if (kn l i).f0≤x then _ else _)=_
    by_cases c:(kn l i).f0≤x
    · rw [if_pos c,if_pos c]
    · rw [if_neg c,if_neg c]
theorem cat_f (k:Nat) (hk:40≤k) (l:List S135) (x:Int):curve_At.f k l x=some (cat l x):=by
  unfold curve_At.f cat
  rw [clampU_f,ccheck_f k hk]
  simp only [zay]
  by_cases h:ccheck l=0
  · obtain ⟨_,h16,_⟩:=ccheck_ok l h
    rw [if_pos h,if_pos h]
    unfold zbk.f
    rw [between_l0 l (uni x) (uni_bd x) h l.length k 0 (by omega) (by omega) (by omega)]
    exact zay _ _
  · rw [if_neg h,if_neg h]
def el (l:List S120) (i:Int):S120:=zaE l i
def dbad (p:S120):Prop:=p.f0<1∨4<p.f0∨p.f1<1∨5<p.f1
instance (p:S120):Decidable (dbad p):=by unfold dbad;exact inferInstance
def dc (l:List S120):Nat→Int→Int
  | 0,_=>0
  | d+1,i=>if dbad (el l i) then 8 else if ccheck (el l i).f2=0 then dc l d (i+1) else ccheck (el l i).f2
def dcheck (l:List S120):Int:=if 8<(l.length:Int) then 3 else dc l l.length 0
theorem dcheck_l0 (l:List S120) (hl:l.length<100) (d:Nat) : ∀ (k:Nat) (i:Int),0≤i→i+d=l.length→2*d+42≤k→zaW.l0 k l (l.length:Int) i=some (dc l d i):=by
  induction d with
  | zero=>
    intro k i h0 hd hk
    obtain ⟨k,rfl⟩ : ∃ m,k=m+1:=⟨k - 1,by omega⟩
    simp only [zaW.l0,dc]
    rw [if_neg (by omega)]
  | succ d ih=>
    intro k i h0 hd hk
    obtain ⟨k,rfl⟩ : ∃ m,k=m+1:=⟨k - 1,by omega⟩
    obtain ⟨k,rfl⟩ : ∃ m,k=m+1:=⟨k - 1,by omega⟩
    have e:=ih k (i+1) (by omega) (by omega) (by omega)
    obtain ⟨K,hK⟩ : ∃ K,k+1=K:=⟨_,rfl⟩
    have hj : ∀ b:Bool,b=decide (dbad (el l i))→zaW.j1 K l (l.length:Int) i b (el l i).f0 (el l i).f1 (el l i).f2=some (dc l (d+1) i):=fun b hb=>by
      subst hK
      subst hb
      simp only [zaW.j1,dc]
      by_cases c1:dbad (el l i)
      · rw [if_pos (decide_eq_true c1),if_pos c1]
      · rw [if_neg (by simp [c1]),if_neg c1,ccheck_f k (by omega)]
        simp only [zay]
        rw [w64 (n:=i+1) (by omega) (by omega),e]
        by_cases c2:ccheck (el l i).f2=0
        · rw [if_pos c2,if_pos c2]
        · rw [if_neg c2,if_neg c2]
    rw [hK]
    simp only [zaW.l0]
    rw [if_pos (by omega),if_pos h0,if_pos (by omega)]
    change (if (el l i).f0<1 then zaW.j1 K l (l.length:Int) i true (el l i).f0 (el l i).f1 (el l i).f2 else if (el l i).f0 > 4 then zaW.j1 K l (l.length:Int) i true (el l i).f0 (el l i).f1 (el l i).f2 else
      if (el l i).f1<1 then zaW.j1 K l (l.length:Int) i true (el l i).f0 (el l i).f1 (el l i).f2 else zaW.j1 K l (l.length:Int) i (decide ((el l i).f1 > 5)) (el l i).f0 (el l i).f1 (el l i).f2)=_
    by_cases c1:(el l i).f0<1
    · rw [if_pos c1]
      exact hj true (Eq.symm (decide_eq_true (by unfold dbad;omega)))
    · rw [if_neg c1]
      by_cases c2:(el l i).f0 > 4
      · rw [if_pos c2]
        exact hj true (Eq.symm (decide_eq_true (by unfold dbad;omega)))
      · rw [if_neg c2]
        by_cases c3:(el l i).f1<1
        · rw [if_pos c3]
          exact hj true (Eq.symm (decide_eq_true (by unfold dbad;omega)))
        · rw [if_neg c3]
          refine hj _ ?_
          rw [decide_eq_decide]
          unfold dbad
          omega
theorem dcheck_f (k:Nat) (hk:80≤k) (l:List S120):zaW.f k l=some (dcheck l):=by
  unfold zaW.f dcheck
  by_cases h2:(l.length:Int) > 8
  · rw [if_pos h2,if_pos h2]
  · rw [if_neg h2,if_neg h2,dcheck_l0 l (by omega) l.length k 0 (by omega) (by omega) (by omega)]
theorem dc_ok (l:List S120) (d:Nat) : ∀ i:Int,dc l d i=0→∀ j,i≤j→j<i+d→¬ dbad (el l j)∧ccheck (el l j).f2=0:=by
  induction d with
  | zero=>intro i _ j h1 h2;omega
  | succ d ih=>
    intro i h j h1 h2
    simp only [dc] at h
    by_cases c1:dbad (el l i)
    · rw [if_pos c1] at h
      omega
    · rw [if_neg c1] at h
      by_cases c2:ccheck (el l i).f2=0
      · rw [if_pos c2] at h
        by_cases e:j=i
        · subst e
          exact ⟨c1,c2⟩
        · exact ih (i+1) h j (by omega) (by omega)
      · rw [if_neg c2] at h
        exact absurd h c2
theorem dcheck_ok (l:List S120) (h:dcheck l=0):l.length≤8∧∀ j:Int,0≤j→j<l.length→¬ dbad (el l j)∧ccheck (el l j).f2=0:=by
  unfold dcheck at h
  by_cases h2:8<(l.length:Int)
  · rw [if_pos h2] at h
    omega
  · rw [if_neg h2] at h
    exact ⟨by omega,fun j a b=>dc_ok l l.length 0 h j a (by omega)⟩
def clT (x:Int):Int:=mn 1073741824 (mx x 0)
def clP (x:Int):Int:=mn 16777216 (mx x (-16777216))
theorem clT_f (x:Int):zaR.f x 0 1073741824=some (clT x):=Eq.trans rfl rfl
theorem clP_f (x:Int):zaR.f x (-16777216) 16777216=some (clP x):=Eq.trans rfl rfl
theorem mn_unit (z:Int) (h:0≤z):0≤mn 65535 z∧mn 65535 z≤65535:=by unfold mn;split <;> omega
theorem clT_bd (x:Int):0≤clT x∧clT x≤1073741824:=by unfold clT mn mx;split <;> split <;> omega
theorem clP_bd (x:Int) : -16777216≤clP x∧clP x≤16777216:=by unfold clP mn mx;split <;> split <;> omega
def spd (ax ay at' bx by' bt:Int):Int:=if clT bt - clT at'≤0 then 0 else uni (rdiv (hyp (clP bx - clP ax) (clP by' - clP ay)*65535) (64*(clT bt - clT at')))
theorem hyp_small (x y:Int) (hx : -33554432≤x∧x≤33554432) (hy : -33554432≤y∧y≤33554432):0≤hyp x y∧hyp x y≤67108864:=by
  obtain ⟨h0,_,h1,_⟩:=hyp_is x y (by omega) (by omega) (by omega) (by omega)
  have sq : ∀ z:Int,-33554432≤z→z≤33554432→z*z≤33554432*33554432:=fun z a b=>by
    by_cases s:0≤z
    · exact Int.mul_le_mul b b s (by omega)
    · have e:z*z=(-z)*(-z):=(Int.neg_mul_neg z z).symm
      rw [e]
      exact Int.mul_le_mul (by omega) (by omega) (by omega) (by omega)
  have a:=sq x hx.1 hx.2
  have b:=sq y hy.1 hy.2
  refine ⟨h0,?_⟩
  apply Int.le_of_not_gt
  intro hc
  have:=Int.mul_le_mul (show (67108864:Int)≤hyp x y by omega) (show (67108864:Int)≤hyp x y by omega) (by omega) (by omega)
  omega
theorem spd_f (k:Nat) (hk:70≤k) (ax ay ap ati at' bx by' bp bti bt:Int):za3.f k ax ay ap ati at' bx by' bp bti bt=some (spd ax ay at' bx by' bt):=by
  obtain ⟨k,rfl⟩ : ∃ m,k=m+1+64:=⟨k - 65,by omega⟩
  have t1:=clT_bd bt
  have t0:=clT_bd at'
  have q1:=clP_bd bx
  have q2:=clP_bd ax
  have q3:=clP_bd by'
  have q4:=clP_bd ay
  have hs:=hyp_small (clP bx - clP ax) (clP by' - clP ay) (by omega) (by omega)
  unfold za3.f spd
  rw [clT_f,clT_f]
  simp only [zay]
  rw [w64 (n:=clT bt - clT at') (by omega) (by omega)]
  by_cases c:clT bt - clT at'≤0
  · rw [if_pos c,if_pos c]
  · rw [if_neg c,if_neg c,clP_f,clP_f,clP_f,clP_f]
    simp only [zay]
    rw [w64 (n:=clP bx - clP ax) (by omega) (by omega),w64 (n:=clP by' - clP ay) (by omega) (by omega),hypot_f (k+1) _ _ (by omega) (by omega) (by omega) (by omega)]
    simp only [zay]
    rw [w64 (n:=_*65535) (by omega) (by omega),w64 (n:=64*_) (by omega) (by omega),div_f _ _ _ (by omega) (by omega) (by omega) (by omega)]
    simp only [zay]
    unfold zbj.f
    rw [clampU_f]
    simp only [zay]
def src (kind p ti sp ix sd:Int):Int:=
  if kind=1 then uni p else if kind=2 then uni ti else if kind=3 then uni sp else if kind=4 then Rnd.num sd ix 1 / 65537 else if kind=5 then 65535 - mn 65535 (1024*mn 64 (mx ix 0)) else 0
theorem src_f (kind x y p ti t sp ix sd:Int):zco.f kind x y p ti t sp ix sd=some (src kind p ti sp ix sd):=by
  unfold zco.f src
  by_cases c1:kind=1
  · rw [if_pos c1,if_pos c1]
    unfold zbj.f
    rw [clampU_f]
    simp only [zay]
  · rw [if_neg c1,if_neg c1]
    by_cases c2:kind=2
    · rw [if_pos c2,if_pos c2]
      unfold zbj.f
      rw [clampU_f]
      simp only [zay]
    · rw [if_neg c2,if_neg c2]
      by_cases c3:kind=3
      · rw [if_pos c3,if_pos c3]
        unfold zbj.f
        rw [clampU_f]
        simp only [zay]
      · rw [if_neg c3,if_neg c3]
        by_cases c4:kind=4
        · rw [if_pos c4,if_pos c4,Rnd.unit_f]
          exact zay _ _
        · rw [if_neg c4,if_neg c4]
          by_cases c5:kind=5
          · rw [if_pos c5,if_pos c5,clamp_f]
            simp only [zay]
            have hm:0≤mn 64 (mx ix 0)∧mn 64 (mx ix 0)≤64:=by unfold mn mx;split <;> split <;> omega
            rw [w64 (n:=1024*_) (by omega) (by omega)]
            have:=mn_unit (1024*mn 64 (mx ix 0)) (by omega)
            rw [w64 (by omega) (by omega)]
          · rw [if_neg c5,if_neg c5]
theorem src_bd (kind p ti sp ix sd:Int):0≤src kind p ti sp ix sd∧src kind p ti sp ix sd≤65535:=by
  have h1:=uni_bd p
  have h2:=uni_bd ti
  have h3:=uni_bd sp
  have h4:=Rnd.num_lt sd ix 1
  have hm:0≤mn 64 (mx ix 0)∧mn 64 (mx ix 0)≤64:=by unfold mn mx;split <;> split <;> omega
  have h5:=mn_unit (1024*mn 64 (mx ix 0)) (by omega)
  unfold src
  split
  · exact h1
  · split
    · exact h2
    · split
      · exact h3
      · split
        · omega
        · split <;> omega
def dv (l:List S120) (target p ti sp ix sd:Int):Nat→Int→Int→Int
  | 0,_,v=>v
  | d+1,i,v=>dv l target p ti sp ix sd d (i+1) (if (el l i).f0=target then mulU v (cat (el l i).f2 (src (el l i).f1 p ti sp ix sd)) else v)
def val (l:List S120) (target p ti sp ix sd:Int):Int:=if dcheck l=0 then dv l target p ti sp ix sd l.length 0 65535 else 65535
theorem val_l0 (l:List S120) (hl:l.length<100) (target x y p ti t sp ix sd:Int) (d:Nat) : ∀ (k:Nat) (i v:Int),0≤i→i+d=l.length→d+50≤k→
    za7.l0 k target sp ix sd v l (l.length:Int) i x y p ti t=some (dv l target p ti sp ix sd d i v):=by
  induction d with
  | zero=>
    intro k i v h0 hd hk
    obtain ⟨k,rfl⟩ : ∃ m,k=m+1:=⟨k - 1,by omega⟩
    simp only [za7.l0,dv]
    rw [if_neg (by omega)]
  | succ d ih=>
    intro k i v h0 hd hk
    obtain ⟨k,rfl⟩ : ∃ m,k=m+1:=⟨k - 1,by omega⟩
    simp only [za7.l0,dv]
    rw [if_pos (by omega),if_pos h0,if_pos (by omega),w64 (n:=i+1) (by omega) (by omega),src_f]
    simp only [zay]
    rw [cat_f k (by omega)]
    simp only [zay]
    rw [mul_f]
    simp only [zay]
    rw [ih k (i+1) _ (by omega) (by omega) (by omega),ih k (i+1) _ (by omega) (by omega) (by omega)]
    change (if (el l i).f0=target then _ else _)=_
    by_cases c:(el l i).f0=target
    · rw [if_pos c,if_pos c]
      rfl
    · rw [if_neg c,if_neg c]
theorem val_f (k:Nat) (hk:80≤k) (l:List S120) (target x y p ti t sp ix sd:Int):za7.f k l target x y p ti t sp ix sd=some (val l target p ti sp ix sd):=by
  unfold za7.f val
  rw [dcheck_f k hk]
  simp only [zay]
  by_cases h:dcheck l=0
  · obtain ⟨h8,_⟩:=dcheck_ok l h
    rw [if_pos h,if_pos h,val_l0 l (by omega) target x y p ti t sp ix sd l.length k 0 65535 (by omega) (by omega) (by omega)]
  · rw [if_neg h,if_neg h]
theorem dv_bd (l:List S120) (target p ti sp ix sd:Int) (d:Nat) : ∀ i v:Int,0≤v∧v≤65535→0≤dv l target p ti sp ix sd d i v∧dv l target p ti sp ix sd d i v≤65535:=by
  induction d with
  | zero=>intro i v h;exact h
  | succ d ih=>
    intro i v h
    simp only [dv]
    refine ih (i+1) _ ?_
    split
    · exact mulU_bd _ _
    · exact h
theorem val_bd (l:List S120) (target p ti sp ix sd:Int):0≤val l target p ti sp ix sd∧val l target p ti sp ix sd≤65535:=by
  unfold val
  split
  · exact dv_bd l target p ti sp ix sd _ 0 65535 (by omega)
  · omega
end Go.Proofs.Ytlilncnoohfcdaa.Num
