/-
  The length of a vector, rounded down (Hypot of package num and of its reference): both are the greatest integer whose square is at most x x + y y. Condition: x and y of at most 2^61 in magnitude.
-/
import Derived.Test.YtlilncnoohfcdaaDax15
import Derived.Test.YtlilncnoohfcdaaDax8
import Derived.Test.YtlilncnoohfcdaaNum
import Derived.Laws.BitsLemmas
namespace Go.Proofs.Ytlilncnoohfcdaa.Num
open Go.RowKit Go.Proofs.YtlilncnoohfcdaaW.PrintWords Go.Proofs.YtlilncnoohfcdaaW.PrintLast Go.Proofs.YtlilncnoohfcdaaW.PrintMore Go.Proofs.Ytlilncnoohfcdaa.Da Go.Proofs.Ytlilncnoohfcdaa.Br
theorem zbZ (n:Int) (h0:0≤n) (h1:n<2 ^ 64):IntKind.u64.wrap n=n:=by
  rw [wu64]
  omega
theorem and_low (x:Int) (h0:0≤x) (h1:x<18446744073709551616):Go.bits .and .u64 x 4294967295=x % 4294967296:=
  bits_mask .u64 64 (by decide) zbZ 32 (by decide) x h0 h1
theorem or_join (x y:Int) (i:Nat) (hi:i≤64) (h0:0≤x) (hx:x % 2 ^ i=0) (h1:x<18446744073709551616) (hy0:0≤y) (hy:y<2 ^ i):Go.bits .or .u64 x y=x+y:=
  bits_join .u64 64 (by decide) zbZ i x y h0 hx h1 hy0 hy (Int.lt_of_lt_of_le hy (by
    have:(2:Nat) ^ i≤2 ^ 64:=Nat.pow_le_pow_right (by decide) hi
    exact_mod_cast this))
theorem words (ah al bh bl:Int) (h1:0≤ah) (h2:ah<4294967296) (h3:0≤al) (h4:al<4294967296) (h5:0≤bh) (h6:bh<4294967296) (h7:0≤bl) (h8:bl<4294967296) :
    (0≤ah*bh∧ah*bh≤18446744065119617025)∧(0≤ah*bl∧ah*bl≤18446744065119617025)∧(0≤al*bh∧al*bh≤18446744065119617025)∧(0≤al*bl∧al*bl≤18446744065119617025)∧
    (ah*4294967296+al)*(bh*4294967296+bl)=(ah*bh)*18446744073709551616+(ah*bl)*4294967296+(al*bh)*4294967296+al*bl:=by
  have m : ∀ x y:Int,0≤x→x<4294967296→0≤y→y<4294967296→0≤x*y∧x*y≤18446744065119617025:=fun x y a b c d=>
    ⟨Int.mul_nonneg a c,Int.mul_le_mul (show x≤4294967295 by omega) (show y≤4294967295 by omega) c (by omega)⟩
  refine ⟨m _ _ h1 h2 h5 h6,m _ _ h1 h2 h7 h8,m _ _ h3 h4 h5 h6,m _ _ h3 h4 h7 h8,?_⟩
  rw [Int.mul_add,Int.add_mul,Int.add_mul]
  have e1:ah*4294967296*(bh*4294967296)=(ah*bh)*18446744073709551616:=by
    rw [Int.mul_assoc,Int.mul_left_comm 4294967296 bh,← Int.mul_assoc]
    rfl
  have e2:al*(bh*4294967296)=(al*bh)*4294967296:=(Int.mul_assoc _ _ _).symm
  have e3:ah*4294967296*bl=(ah*bl)*4294967296:=by rw [Int.mul_assoc,Int.mul_comm 4294967296 bl,← Int.mul_assoc]
  omega
theorem times_f (a b:Int) (ha:0≤a) (ha1:a<18446744073709551616) (hb:0≤b) (hb1:b<18446744073709551616) :
    zbQ.f a b=some (a*b / 18446744073709551616,a*b % 18446744073709551616):=by
  obtain ⟨ah,hah⟩ : ∃ x,a / 4294967296=x:=⟨_,rfl⟩
  obtain ⟨al,hal⟩ : ∃ x,a % 4294967296=x:=⟨_,rfl⟩
  obtain ⟨bh,hbh⟩ : ∃ x,b / 4294967296=x:=⟨_,rfl⟩
  obtain ⟨bl,hbl⟩ : ∃ x,b % 4294967296=x:=⟨_,rfl⟩
  obtain ⟨⟨p0,p1⟩,⟨q0,q1⟩,⟨r0,r1⟩,⟨s0,s1⟩,e⟩:=words ah al bh bl (by omega) (by omega) (by omega) (by omega) (by omega) (by omega) (by omega) (by omega)
  have ea:ah*4294967296+al=a:=by omega
  have eb:bh*4294967296+bl=b:=by omega
  rw [ea,eb] at e
  unfold zbQ.f
  rw [and_low a ha ha1,and_low b hb hb1,hah,hal,hbh,hbl]
  obtain ⟨p,hp⟩ : ∃ x,ah*bh=x:=⟨_,rfl⟩
  obtain ⟨q,hq⟩ : ∃ x,ah*bl=x:=⟨_,rfl⟩
  obtain ⟨r,hr⟩ : ∃ x,al*bh=x:=⟨_,rfl⟩
  obtain ⟨s,hs⟩ : ∃ x,al*bl=x:=⟨_,rfl⟩
  rw [hp] at p0 p1 e
  rw [hq] at q0 q1 e
  rw [hr] at r0 r1 e
  rw [hs] at s0 s1 e
  rw [hp,hq,hr,hs]
  obtain ⟨ab,hab⟩ : ∃ x,a*b=x:=⟨_,rfl⟩
  rw [hab] at e
  rw [hab]
  clear hab hp hq hr hs ea eb hah hal hbh hbl
  rw [zbZ p p0 (by omega),zbZ q q0 (by omega),zbZ r r0 (by omega),zbZ s s0 (by omega)]
  obtain ⟨y,hy⟩ : ∃ x,q+s / 4294967296=x:=⟨_,rfl⟩
  rw [hy,zbZ y (by omega) (by omega),and_low y (by omega) (by omega),and_low s (by omega) (by omega)]
  obtain ⟨z,hz⟩ : ∃ x,r+y % 4294967296=x:=⟨_,rfl⟩
  rw [hz,zbZ z (by omega) (by omega),zbZ (p+y / 4294967296) (by omega) (by omega),zbZ (p+y / 4294967296+z / 4294967296) (by omega) (by omega),wu64 (z*4294967296)]
  rw [or_join _ _ 32 (by decide) (by omega) (by omega) (by omega) (by omega) (by omega)]
  refine congrArg some (Prod.ext ?_ ?_)
  · show _=ab / 18446744073709551616
    omega
  · show _=ab % 18446744073709551616
    omega
theorem product_f (a b:Int) (ha:0≤a) (ha1:a<18446744073709551616) (hb:0≤b) (hb1:b<18446744073709551616) :
    zaZ.f a b=some (a*b / 18446744073709551616,a*b % 18446744073709551616):=by
  obtain ⟨ah,hah⟩ : ∃ x,a / 4294967296=x:=⟨_,rfl⟩
  obtain ⟨al,hal⟩ : ∃ x,a % 4294967296=x:=⟨_,rfl⟩
  obtain ⟨bh,hbh⟩ : ∃ x,b / 4294967296=x:=⟨_,rfl⟩
  obtain ⟨bl,hbl⟩ : ∃ x,b % 4294967296=x:=⟨_,rfl⟩
  obtain ⟨⟨p0,p1⟩,⟨q0,q1⟩,⟨r0,r1⟩,⟨s0,s1⟩,e⟩:=words ah al bh bl (by omega) (by omega) (by omega) (by omega) (by omega) (by omega) (by omega) (by omega)
  have ea:ah*4294967296+al=a:=by omega
  have eb:bh*4294967296+bl=b:=by omega
  rw [ea,eb] at e
  unfold zaZ.f
  rw [and_low a ha ha1,and_low b hb hb1,hah,hal,hbh,hbl]
  obtain ⟨p,hp⟩ : ∃ x,ah*bh=x:=⟨_,rfl⟩
  obtain ⟨q,hq⟩ : ∃ x,ah*bl=x:=⟨_,rfl⟩
  obtain ⟨r,hr⟩ : ∃ x,al*bh=x:=⟨_,rfl⟩
  obtain ⟨s,hs⟩ : ∃ x,al*bl=x:=⟨_,rfl⟩
  rw [hp] at p0 p1 e
  rw [hq] at q0 q1 e
  rw [hr] at r0 r1 e
  rw [hs] at s0 s1 e
  rw [hp,hq,hr,hs]
  obtain ⟨ab,hab⟩ : ∃ x,a*b=x:=⟨_,rfl⟩
  rw [hab] at e
  rw [hab]
  clear hab hp hq hr hs ea eb hah hal hbh hbl
  rw [zbZ p p0 (by omega),zbZ q q0 (by omega),zbZ r r0 (by omega),zbZ s s0 (by omega)]
  obtain ⟨y,hy⟩ : ∃ x,q+s / 4294967296=x:=⟨_,rfl⟩
  rw [hy,zbZ y (by omega) (by omega),and_low y (by omega) (by omega)]
  obtain ⟨z,hz⟩ : ∃ x,r+y % 4294967296=x:=⟨_,rfl⟩
  rw [hz,zbZ z (by omega) (by omega),zbZ (p+y / 4294967296) (by omega) (by omega),zbZ (p+y / 4294967296+z / 4294967296) (by omega) (by omega),wu64 ab]
  refine congrArg some (Prod.ext ?_ ?_)
  · show _=ab / 18446744073709551616
    omega
  · rfl
def rootN (N:Int):Nat→Int→Int
  | 0,r=>r
  | j+1,r=>if (r+2 ^ j)*(r+2 ^ j)≤N then rootN N j (r+2 ^ j) else rootN N j r
theorem pow_pos' (j:Nat):(0:Int)<2 ^ j:=by
  have:0<(2:Nat) ^ j:=Nat.two_pow_pos j
  exact_mod_cast this
theorem pow_succ' (j:Nat):(2:Int) ^ (j+1)=2 ^ j+2 ^ j:=by rw [Int.pow_succ];omega
theorem root_is (N:Int) (j:Nat) : ∀ r:Int,0≤r→r*r≤N→N<(r+2 ^ j)*(r+2 ^ j)→
    0≤rootN N j r∧r≤rootN N j r∧rootN N j r<r+2 ^ j∧rootN N j r*rootN N j r≤N∧N<(rootN N j r+1)*(rootN N j r+1):=by
  induction j with
  | zero=>intro r h0 h1 h2;simp only [rootN];simp only [Int.pow_zero] at h2;exact ⟨h0,by omega,by simp;omega,h1,h2⟩
  | succ j ih=>
    intro r h0 h1 h2
    have hp:=pow_pos' j
    rw [pow_succ'] at h2 ⊢
    simp only [rootN]
    by_cases h:(r+2 ^ j)*(r+2 ^ j)≤N
    · rw [if_pos h]
      obtain ⟨a,b,c,d,e⟩:=ih (r+2 ^ j) (by omega) h (by rw [Int.add_assoc];exact h2)
      exact ⟨a,by omega,by omega,d,e⟩
    · rw [if_neg h]
      obtain ⟨a,b,c,d,e⟩:=ih r h0 h1 (by omega)
      exact ⟨a,b,by omega,d,e⟩
theorem mod_next (r:Int) (j:Nat) (h:r % 2 ^ (j+1)=0):r % 2 ^ j=0∧(r+2 ^ j) % 2 ^ j=0:=by
  have hd:(2:Int) ^ j ∣ r:=Int.dvd_trans ⟨2,by rw [Int.pow_succ]⟩ (Int.dvd_of_emod_eq_zero h)
  exact ⟨Int.emod_eq_zero_of_dvd hd,Int.emod_eq_zero_of_dvd (Int.dvd_add hd (Int.dvd_refl _))⟩
theorem half_pow (j:Nat):(2:Int) ^ (j+1) / 2=2 ^ j:=by rw [pow_succ'];omega
theorem pow_lt (j m:Nat) (h:j<m):(2:Int) ^ j<2 ^ m:=by
  have:(2:Nat) ^ j<2 ^ m:=Nat.pow_lt_pow_right (by decide) h
  exact_mod_cast this
theorem root_l0 (hi lo:Int) (h1:0≤lo) (h2:lo<18446744073709551616) (j:Nat) : ∀ (k:Nat) (r:Int),j≤62→j+2≤k→0≤r→r % 2 ^ (j+1)=0→r+2 ^ (j+1)≤9223372036854775808→
    zbo.l0 k hi lo r (2 ^ j)=some (rootN (hi*18446744073709551616+lo) (j+1) r):=by
  induction j with
  | zero=>
    intro k r hj hk h0 hm hb
    obtain ⟨k,rfl⟩ : ∃ m,k=m+1:=⟨k - 1,by omega⟩
    simp only [Int.pow_zero,Nat.reduceAdd] at *
    have hb':r+2≤9223372036854775808:=by simpa using hb
    have hor:Go.bits .or .u64 r 1=r+1:=or_join r 1 1 (by omega) h0 (by simpa using hm) (by omega) (by omega) (by decide)
    have hw : ∀ s:Int,0≤s→s<9223372036854775808→zbo.l0 k hi lo s (1 / 2)=some s:=fun s a b=>by
      obtain ⟨m,rfl⟩ : ∃ m,k=m+1:=⟨k - 1,by omega⟩
      simp only [zbo.l0]
      rw [if_neg (by omega),w64 (by omega) (by omega)]
    have hsq:0≤(r+1)*(r+1):=Int.mul_nonneg (by omega) (by omega)
    simp only [zbo.l0,rootN,Int.pow_zero]
    rw [if_pos (by omega),hor,times_f _ _ (by omega) (by omega) (by omega) (by omega)]
    simp only [zay]
    obtain ⟨P,hP⟩ : ∃ x,(r+1)*(r+1)=x:=⟨_,rfl⟩
    rw [hP] at hsq ⊢
    by_cases hc:P≤hi*18446744073709551616+lo
    · rw [if_pos hc]
      by_cases hd:P / 18446744073709551616<hi
      · rw [if_pos hd,hw _ (by omega) (by omega)]
      · rw [if_neg hd,if_pos (by omega),if_pos (by omega),hw _ (by omega) (by omega)]
    · rw [if_neg hc,if_neg (by omega)]
      by_cases hd:P / 18446744073709551616=hi
      · rw [if_pos hd,if_neg (by omega),hw _ (by omega) (by omega)]
      · rw [if_neg hd,hw _ (by omega) (by omega)]
  | succ j ih=>
    intro k r hj hk h0 hm hb
    obtain ⟨k,rfl⟩ : ∃ m,k=m+1:=⟨k - 1,by omega⟩
    have hp:=pow_pos' j
    have hp1:=pow_succ' j
    have hp2:=pow_succ' (j+1)
    obtain ⟨m1,m2⟩:=mod_next r (j+1) hm
    have hlt:(2:Int) ^ (j+1)<2 ^ (j+1+1):=pow_lt _ _ (by omega)
    have hor:Go.bits .or .u64 r (2 ^ (j+1))=r+2 ^ (j+1):=or_join r _ (j+1+1) (by omega) h0 hm (by omega) (by omega) hlt
    have hsq:0≤(r+2 ^ (j+1))*(r+2 ^ (j+1)):=Int.mul_nonneg (by omega) (by omega)
    have y1:=ih k (r+2 ^ (j+1)) (by omega) (by omega) (by omega) m2 (by omega)
    have y0:=ih k r (by omega) (by omega) h0 m1 (by omega)
    rw [show rootN (hi*18446744073709551616+lo) (j+1+1) r=if (r+2 ^ (j+1))*(r+2 ^ (j+1))≤hi*18446744073709551616+lo then rootN (hi*18446744073709551616+lo) (j+1) (r+2 ^ (j+1)) else rootN (hi*18446744073709551616+lo) (j+1) r from Eq.trans rfl rfl]
    simp only [zbo.l0]
    rw [if_pos (by omega),hor,times_f _ _ (by omega) (by omega) (by omega) (by omega),half_pow]
    simp only [zay]
    obtain ⟨P,hP⟩ : ∃ x,(r+2 ^ (j+1))*(r+2 ^ (j+1))=x:=⟨_,rfl⟩
    rw [hP] at hsq ⊢
    rw [y1,y0]
    by_cases hc:P≤hi*18446744073709551616+lo
    · rw [if_pos hc]
      by_cases hd:P / 18446744073709551616<hi
      · rw [if_pos hd]
      · rw [if_neg hd,if_pos (by omega),if_pos (by omega)]
    · rw [if_neg hc,if_neg (by omega)]
      by_cases hd:P / 18446744073709551616=hi
      · rw [if_pos hd,if_neg (by omega)]
      · rw [if_neg hd]
def hyp (x y:Int):Int:=rootN (x*x+y*y) 63 0
theorem sq_bd (x:Int) (h0 : -2305843009213693952≤x) (h1:x≤2305843009213693952):0≤x*x∧x*x≤5316911983139663491615228241121378304:=by
  by_cases h:0≤x
  · exact ⟨Int.mul_nonneg h h,Int.mul_le_mul h1 h1 h (by omega)⟩
  · have e:x*x=(-x)*(-x):=(Int.neg_mul_neg x x).symm
    rw [e]
    exact ⟨Int.mul_nonneg (by omega) (by omega),Int.mul_le_mul (show -x≤2305843009213693952 by omega) (show -x≤2305843009213693952 by omega) (by omega) (by omega)⟩
theorem hyp_is (x y:Int) (hx0 : -2305843009213693952≤x) (hx1:x≤2305843009213693952) (hy0 : -2305843009213693952≤y) (hy1:y≤2305843009213693952) :
    0≤hyp x y∧hyp x y<9223372036854775808∧hyp x y*hyp x y≤x*x+y*y∧x*x+y*y<(hyp x y+1)*(hyp x y+1):=by
  have a:=sq_bd x hx0 hx1
  have b:=sq_bd y hy0 hy1
  obtain ⟨h0,_,h1,h2,h3⟩:=root_is (x*x+y*y) 63 0 (by omega) (by omega) (by simp only [Int.zero_add];show _<(85070591730234615865843651857942052864:Int);omega)
  have h4:rootN (x*x+y*y) 63 0<9223372036854775808:=by simpa using h1
  exact ⟨h0,h4,h2,h3⟩
theorem hypot_f (k:Nat) (x y:Int) (hx0 : -2305843009213693952≤x) (hx1:x≤2305843009213693952) (hy0 : -2305843009213693952≤y) (hy1:y≤2305843009213693952) :
    zce.f (k+64) x y=some (hyp x y):=by
  have a:=sq_bd x hx0 hx1
  have b:=sq_bd y hy0 hy1
  have sx : ∃ u,zbI.f x=some u∧0≤u∧u<18446744073709551616∧u*u=x*x:=by
    refine ⟨_,size_f x (by omega) (by omega),?_⟩
    split
    · exact ⟨by omega,by omega,Int.neg_mul_neg x x⟩
    · exact ⟨by omega,by omega,rfl⟩
  have sy : ∃ u,zbI.f y=some u∧0≤u∧u<18446744073709551616∧u*u=y*y:=by
    refine ⟨_,size_f y (by omega) (by omega),?_⟩
    split
    · exact ⟨by omega,by omega,Int.neg_mul_neg y y⟩
    · exact ⟨by omega,by omega,rfl⟩
  obtain ⟨u,eu,u0,u1,u2⟩:=sx
  obtain ⟨v,ev,v0,v1,v2⟩:=sy
  unfold zce.f
  rw [eu,ev]
  simp only [zay]
  rw [times_f u u u0 u1 u0 u1,times_f v v v0 v1 v0 v1,u2,v2]
  simp only [zay]
  unfold hyp
  obtain ⟨P,hP⟩ : ∃ z,x*x=z:=⟨_,rfl⟩
  obtain ⟨Q,hQ⟩ : ∃ z,y*y=z:=⟨_,rfl⟩
  rw [hP] at a ⊢
  rw [hQ] at b ⊢
  clear hP hQ eu ev u2 v2
  rw [wu64 (P % 18446744073709551616+Q % 18446744073709551616),zbZ (P / 18446744073709551616+Q / 18446744073709551616) (by omega) (by omega)]
  have go : ∀ hi lo:Int,0≤lo→lo<18446744073709551616→hi*18446744073709551616+lo=P+Q→zbo.f (k+64) hi lo=some (rootN (P+Q) 63 0):=fun hi lo h1 h2 e=>by
    unfold zbo.f
    rw [← e]
    exact root_l0 hi lo h1 h2 62 (k+64) 0 (by omega) (by omega) (by omega) (by simp) (by decide)
  by_cases hc:(P % 18446744073709551616+Q % 18446744073709551616) % 18446744073709551616<P % 18446744073709551616
  · rw [if_pos hc,zbZ (P / 18446744073709551616+Q / 18446744073709551616+1) (by omega) (by omega),go _ _ (by omega) (by omega) (by omega)]
    exact zay _ _
  · rw [if_neg hc,go _ _ (by omega) (by omega) (by omega)]
    exact zay _ _
theorem refRoot_l0 (hi lo:Int) (h1:0≤lo) (h2:lo<18446744073709551616) (j:Nat) : ∀ (k:Nat) (r:Int),j≤62→j+2≤k→0≤r→r % 2 ^ (j+1)=0→r+2 ^ (j+1)≤9223372036854775808→
    zaq.l0 k lo hi r (2 ^ j)=some (rootN (hi*18446744073709551616+lo) (j+1) r):=by
  induction j with
  | zero=>
    intro k r hj hk h0 hm hb
    obtain ⟨k,rfl⟩ : ∃ m,k=m+1:=⟨k - 1,by omega⟩
    simp only [Int.pow_zero,Nat.reduceAdd] at *
    have hb':r+2≤9223372036854775808:=by simpa using hb
    have hor:Go.bits .or .u64 r 1=r+1:=or_join r 1 1 (by omega) h0 (by simpa using hm) (by omega) (by omega) (by decide)
    have hw : ∀ s:Int,0≤s→s<9223372036854775808→zaq.l0 k lo hi s (1 / 2)=some s:=fun s a b=>by
      obtain ⟨m,rfl⟩ : ∃ m,k=m+1:=⟨k - 1,by omega⟩
      simp only [zaq.l0]
      rw [if_neg (by omega)]
      unfold zbh.f
      rw [if_neg (by simp),if_neg (by omega),if_neg (by omega),w64 (by omega) (by omega)]
      exact zay _ _
    have hsq:0≤(r+1)*(r+1):=Int.mul_nonneg (by omega) (by omega)
    simp only [zaq.l0,rootN,Int.pow_zero]
    rw [if_pos (by omega),hor,product_f _ _ (by omega) (by omega) (by omega) (by omega)]
    simp only [zay]
    obtain ⟨P,hP⟩ : ∃ x,(r+1)*(r+1)=x:=⟨_,rfl⟩
    rw [hP] at hsq ⊢
    by_cases hc:P≤hi*18446744073709551616+lo
    · rw [if_pos hc]
      by_cases hd:P / 18446744073709551616<hi
      · rw [if_pos hd,hw _ (by omega) (by omega)]
      · rw [if_neg hd,if_pos (by omega),if_pos (by omega),hw _ (by omega) (by omega)]
    · rw [if_neg hc,if_neg (by omega)]
      by_cases hd:P / 18446744073709551616=hi
      · rw [if_pos hd,if_neg (by omega),hw _ (by omega) (by omega)]
      · rw [if_neg hd,hw _ (by omega) (by omega)]
  | succ j ih=>
    intro k r hj hk h0 hm hb
    obtain ⟨k,rfl⟩ : ∃ m,k=m+1:=⟨k - 1,by omega⟩
    have hp:=pow_pos' j
    have hp1:=pow_succ' j
    have hp2:=pow_succ' (j+1)
    obtain ⟨m1,m2⟩:=mod_next r (j+1) hm
    have hlt:(2:Int) ^ (j+1)<2 ^ (j+1+1):=pow_lt _ _ (by omega)
    have hor:Go.bits .or .u64 r (2 ^ (j+1))=r+2 ^ (j+1):=or_join r _ (j+1+1) (by omega) h0 hm (by omega) (by omega) hlt
    have hsq:0≤(r+2 ^ (j+1))*(r+2 ^ (j+1)):=Int.mul_nonneg (by omega) (by omega)
    have y1:=ih k (r+2 ^ (j+1)) (by omega) (by omega) (by omega) m2 (by omega)
    have y0:=ih k r (by omega) (by omega) h0 m1 (by omega)
    rw [show rootN (hi*18446744073709551616+lo) (j+1+1) r=if (r+2 ^ (j+1))*(r+2 ^ (j+1))≤hi*18446744073709551616+lo then rootN (hi*18446744073709551616+lo) (j+1) (r+2 ^ (j+1)) else rootN (hi*18446744073709551616+lo) (j+1) r from Eq.trans rfl rfl]
    simp only [zaq.l0]
    rw [if_pos (by omega),hor,product_f _ _ (by omega) (by omega) (by omega) (by omega),half_pow]
    simp only [zay]
    obtain ⟨P,hP⟩ : ∃ x,(r+2 ^ (j+1))*(r+2 ^ (j+1))=x:=⟨_,rfl⟩
    rw [hP] at hsq ⊢
    rw [y1,y0]
    by_cases hc:P≤hi*18446744073709551616+lo
    · rw [if_pos hc]
      by_cases hd:P / 18446744073709551616<hi
      · rw [if_pos hd]
      · rw [if_neg hd,if_pos (by omega),if_pos (by omega)]
    · rw [if_neg hc,if_neg (by omega)]
      by_cases hd:P / 18446744073709551616=hi
      · rw [if_pos hd,if_neg (by omega)]
      · rw [if_neg hd]
theorem refHypot_f (k:Nat) (x y:Int) (hx0 : -2305843009213693952≤x) (hx1:x≤2305843009213693952) (hy0 : -2305843009213693952≤y) (hy1:y≤2305843009213693952) :
    zaq.f (k+66) x y=some (hyp x y):=by
  have a:=sq_bd x hx0 hx1
  have b:=sq_bd y hy0 hy1
  have sx : ∃ u,zaQ.f x=some u∧0≤u∧u<18446744073709551616∧u*u=x*x:=by
    refine ⟨_,abs_f x (by omega) (by omega),?_⟩
    split
    · exact ⟨by omega,by omega,Int.neg_mul_neg x x⟩
    · exact ⟨by omega,by omega,rfl⟩
  have sy : ∃ u,zaQ.f y=some u∧0≤u∧u<18446744073709551616∧u*u=y*y:=by
    refine ⟨_,abs_f y (by omega) (by omega),?_⟩
    split
    · exact ⟨by omega,by omega,Int.neg_mul_neg y y⟩
    · exact ⟨by omega,by omega,rfl⟩
  obtain ⟨u,eu,u0,u1,u2⟩:=sx
  obtain ⟨v,ev,v0,v1,v2⟩:=sy
  unfold zaq.f
  rw [eu,ev]
  simp only [zay]
  rw [product_f u u u0 u1 u0 u1,product_f v v v0 v1 v0 v1,u2,v2]
  simp only [zay]
  unfold hyp
  obtain ⟨P,hP⟩ : ∃ z,x*x=z:=⟨_,rfl⟩
  obtain ⟨Q,hQ⟩ : ∃ z,y*y=z:=⟨_,rfl⟩
  rw [hP] at a ⊢
  rw [hQ] at b ⊢
  clear hP hQ eu ev u2 v2
  rw [wu64 (P % 18446744073709551616+Q % 18446744073709551616),zbZ (P / 18446744073709551616+Q / 18446744073709551616) (by omega) (by omega)]
  have go : ∀ hi lo:Int,0≤lo→lo<18446744073709551616→hi*18446744073709551616+lo=P+Q→zaq.j0 (k+66) lo hi=some (rootN (P+Q) 63 0):=fun hi lo h1 h2 e=>by
    have hor:Go.bits .or .u64 0 9223372036854775808=9223372036854775808:=or_join 0 9223372036854775808 64 (by omega) (by omega) (by decide) (by omega) (by omega) (by decide)
    obtain ⟨K,hK⟩ : ∃ K,k+64=K:=⟨_,rfl⟩
    rw [show k+66=K+1+1 by omega]
    simp only [zaq.j0,zaq.l0]
    rw [if_pos (by omega),hor,product_f _ _ (by omega) (by omega) (by omega) (by omega)]
    simp only [zay]
    rw [if_neg (by omega),if_neg (by omega),← e]
    exact refRoot_l0 hi lo h1 h2 62 K 0 (by omega) (by omega) (by omega) (by simp) (by decide)
  by_cases hc:(P % 18446744073709551616+Q % 18446744073709551616) % 18446744073709551616<P % 18446744073709551616
  · rw [if_pos hc,zbZ (P / 18446744073709551616+Q / 18446744073709551616+1) (by omega) (by omega),go _ _ (by omega) (by omega) (by omega)]
  · rw [if_neg hc,go _ _ (by omega) (by omega) (by omega)]
end Go.Proofs.Ytlilncnoohfcdaa.Num
