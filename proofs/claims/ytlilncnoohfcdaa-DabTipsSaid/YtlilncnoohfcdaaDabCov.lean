import Derived.Test.YtlilncnoohfcdaaDab
import Derived.Test.YtlilncnoohfcdaaDabTurn
import Derived.Test.YtlilncnoohfcdaaDax16
namespace Go.Proofs.Ytlilncnoohfcdaa.Num
open Go.RowKit Go.Proofs.YtlilncnoohfcdaaW.PrintWords Go.Proofs.YtlilncnoohfcdaaW.PrintLast Go.Proofs.YtlilncnoohfcdaaW.PrintMore Go.Proofs.Ytlilncnoohfcdaa.Da
theorem sq_lim (z B:Int) (hB:0≤B) (a : -B≤z) (b:z≤B):z*z≤B*B:=by
  by_cases s:0≤z
  · exact Int.mul_le_mul b b s hB
  · have e:z*z=(-z)*(-z):=(Int.neg_mul_neg z z).symm
    rw [e]
    exact Int.mul_le_mul (by omega) (by omega) (by omega) hB
theorem hyp_lim (x y:Int) (hx : -68719476736≤x∧x≤68719476736) (hy : -68719476736≤y∧y≤68719476736):0≤hyp x y∧hyp x y≤137438953472:=by
  obtain ⟨h0,_,h1,_⟩:=hyp_is x y (by omega) (by omega) (by omega) (by omega)
  have a:=sq_lim x 68719476736 (by omega) hx.1 hx.2
  have b:=sq_lim y 68719476736 (by omega) hy.1 hy.2
  refine ⟨h0,?_⟩
  apply Int.le_of_not_gt
  intro hc
  have:=Int.mul_le_mul (show (137438953472:Int)≤hyp x y by omega) (show (137438953472:Int)≤hyp x y by omega) (by omega) (by omega)
  omega
def covr (s r sin cos u v:Int):Int:=
  let q:=rdiv (cos*v - sin*u) 65536
  rdiv (65535*hyp (rdiv (cos*u+sin*v) 65536) (rdiv (65535*(if q<0 then -q else q)) r)) (8*s)
def covf (f h t:Int):Int:=if t≤h then f else if t≥65535 then 0 else rdiv (f*(65535 - t)) (65535 - h)
theorem mul_lim (a b A B:Int) (hA:0≤A) (ha : -A≤a∧a≤A) (hb : -B≤b∧b≤B) : -(A*B)≤a*b∧a*b≤A*B:=by
  have key : ∀ a b:Int,-A≤a→a≤A→-B≤b→b≤B→a*b≤A*B:=fun a b a0 a1 b0 b1=>by
    by_cases s:0≤b
    · calc a*b≤A*b:=Int.mul_le_mul_of_nonneg_right a1 s
        _≤A*B:=Int.mul_le_mul_of_nonneg_left b1 hA
    · calc a*b=(-a)*(-b):=(Int.neg_mul_neg a b).symm
        _≤A*(-b):=Int.mul_le_mul_of_nonneg_right (by omega) (by omega)
        _≤A*B:=Int.mul_le_mul_of_nonneg_left (by omega) hA
  refine ⟨?_,key a b ha.1 ha.2 hb.1 hb.2⟩
  have:=key (-a) b (by omega) (by omega) hb.1 hb.2
  rw [Int.neg_mul] at this
  omega
structure CovB (r sin cos u v:Int):Prop where
  r0:4096≤r
  r1:r≤65535
  s0 : -65536≤sin∧sin≤65536
  c0 : -65536≤cos∧cos≤65536
  u0 : -1073741824≤u∧u≤1073741824
  v0 : -1073741824≤v∧v≤1073741824
theorem cov_steps {r sin cos u v:Int} (h:CovB r sin cos u v) :
    (-70368744177664≤cos*u∧cos*u≤70368744177664)∧(-70368744177664≤sin*v∧sin*v≤70368744177664)∧(-70368744177664≤cos*v∧cos*v≤70368744177664)∧(-70368744177664≤sin*u∧sin*u≤70368744177664)∧
    (-2147483648≤rdiv (cos*u+sin*v) 65536∧rdiv (cos*u+sin*v) 65536≤2147483648)∧(-2147483648≤rdiv (cos*v - sin*u) 65536∧rdiv (cos*v - sin*u) 65536≤2147483648):=by
  have a:=mul_lim cos u 65536 1073741824 (by omega) h.c0 h.u0
  have b:=mul_lim sin v 65536 1073741824 (by omega) h.s0 h.v0
  have c:=mul_lim cos v 65536 1073741824 (by omega) h.c0 h.v0
  have d:=mul_lim sin u 65536 1073741824 (by omega) h.s0 h.u0
  refine ⟨by omega,by omega,by omega,by omega,?_,?_⟩
  · exact rdiv_lim _ 65536 (by omega) 2147483648 (by omega) (by omega)
  · exact rdiv_lim _ 65536 (by omega) 2147483648 (by omega) (by omega)
theorem z_bd (q r:Int) (hq:0≤q∧q≤2147483648) (hr:4096≤r) : -34359738368≤rdiv (65535*q) r∧rdiv (65535*q) r≤34359738368:=by
  have:=Int.mul_le_mul_of_nonneg_left hr (show (0:Int)≤34359738368 by omega)
  exact rdiv_lim _ r (by omega) 34359738368 (by omega) (by omega)
theorem tipCover_f (k:Nat) (hk:70≤k) (X Y S F A H R sin cos x y:Int) (hS:0≤S∧S≤1024) (hF:0≤F∧F≤65535) (hH:0≤H∧H≤65535) (hX : -16777216≤X∧X≤16777216) (hY : -16777216≤Y∧Y≤16777216)
    (hx : -1048576≤x∧x≤1048576) (hy : -1048576≤y∧y≤1048576) (hR:4096≤R∧R≤65535) (hs : -65536≤sin∧sin≤65536) (hc : -65536≤cos∧cos≤65536) :
    zaQ.f k X Y S F A H R sin cos x y=some (if S=0 then 0 else covf F H (covr S R sin cos (16*(16*x+8 - X)) (16*(16*y+8 - Y)))):=by
  obtain ⟨k,rfl⟩ : ∃ m,k=m+64:=⟨k - 64,by omega⟩
  unfold zaQ.f
  by_cases c:S=0
  · rw [if_pos c,if_pos c]
  rw [if_neg c,if_neg c]
  rw [w64 (n:=16*x) (by omega) (by omega),w64 (n:=16*x+8) (by omega) (by omega),w64 (n:=16*x+8 - X) (by omega) (by omega),w64 (n:=16*(16*x+8 - X)) (by omega) (by omega)]
  rw [w64 (n:=16*y) (by omega) (by omega),w64 (n:=16*y+8) (by omega) (by omega),w64 (n:=16*y+8 - Y) (by omega) (by omega),w64 (n:=16*(16*y+8 - Y)) (by omega) (by omega)]
  have B:CovB R sin cos (16*(16*x+8 - X)) (16*(16*y+8 - Y)):=⟨hR.1,hR.2,hs,hc,by omega,by omega⟩
  generalize 16*(16*x+8 - X)=u at *
  generalize 16*(16*y+8 - Y)=v at *
  obtain ⟨b1,b2,b3,b4,b5,b6⟩:=cov_steps B
  rw [w64 (n:=cos*u) (by omega) (by omega),w64 (n:=sin*v) (by omega) (by omega),w64 (n:=cos*v) (by omega) (by omega),w64 (n:=sin*u) (by omega) (by omega),w64 (n:=cos*u+sin*v) (by omega) (by omega),w64 (n:=cos*v - sin*u) (by omega) (by omega)]
  rw [div_f (k+63) _ 65536 (by omega) (by omega) (by omega) (by omega),bsome,div_f (k+63) _ 65536 (by omega) (by omega) (by omega) (by omega),bsome]
  unfold covr
  dsimp only
  generalize rdiv (cos*u+sin*v) 65536=p at *
  generalize rdiv (cos*v - sin*u) 65536=q at *
  rw [w64 (n:=-q) (by omega) (by omega),show mx q (-q)=(if q<0 then -q else q) by unfold mx;(repeat' split) <;> omega]
  have hq:0≤(if q<0 then -q else q)∧(if q<0 then -q else q)≤2147483648:=by split <;> omega
  generalize (if q<0 then -q else q)=q' at *
  have hz:=z_bd q' R hq hR.1
  rw [w64 (n:=65535*q') (by omega) (by omega),div_f (k+63) _ R (by omega) (by omega) (by omega) (by omega),bsome]
  generalize rdiv (65535*q') R=z at *
  have hh:=hyp_lim p z (by omega) (by omega)
  rw [hypot_f k p z (by omega) (by omega) (by omega) (by omega),bsome]
  generalize hyp p z=g at *
  rw [w64 (n:=65535*g) (by omega) (by omega),w64 (n:=8*S) (by omega) (by omega),div_f (k+63) _ (8*S) (by omega) (by omega) (by omega) (by omega),bsome]
  have ht:0≤rdiv (65535*g) (8*S):=by
    unfold rdiv
    exact Int.ediv_nonneg (by omega) (by omega)
  generalize rdiv (65535*g) (8*S)=t at *
  unfold covf
  by_cases c1:t≤H
  · rw [if_pos c1,if_pos c1]
  rw [if_neg c1,if_neg c1]
  by_cases c2:t≥65535
  · rw [if_pos c2,if_pos c2]
  rw [if_neg c2,if_neg c2]
  have hm:=mul_lim F (65535 - t) 65535 65535 (by omega) (by omega) (by omega)
  rw [w64 (n:=65535 - t) (by omega) (by omega),w64 (n:=F*(65535 - t)) (by omega) (by omega),w64 (n:=65535 - H) (by omega) (by omega),div_f (k+63) _ (65535 - H) (by omega) (by omega) (by omega) (by omega),bsome]
theorem refCover_j1 (k:Nat) (hk:70≤k) (p q R S H F:Int) (a0 a3 a4 a5 a6 a7 a8 a9 a10 a11 a12 a13:Int) (l:List (S120)) (e:Bool) (X Y A:Int) (hS:1≤S∧S≤1024) (hF:0≤F∧F≤65535) (hH:0≤H∧H≤65535) (hR:4096≤R∧R≤65535)
    (hp : -2147483648≤p∧p≤2147483648) (hq:0≤q∧q≤2147483648) :
    zam.j1 k p q a0 H R a3 a4 a5 a6 a7 a8 a9 a10 a11 a12 a13 l e X Y S F A=some (covf F H (rdiv (65535*hyp p (rdiv (65535*q) R)) (8*S))):=by
  obtain ⟨k,rfl⟩ : ∃ m,k=m+67:=⟨k - 67,by omega⟩
  rw [show k+67=(k+66)+1 from rfl,zam.j1.eq_2]
  have hz:=z_bd q R hq hR.1
  rw [w64 (n:=65535*q) (by omega) (by omega),refDiv_f (k+65) _ R (by omega) (by omega) (by omega) (by omega),bsome]
  generalize rdiv (65535*q) R=z at *
  have hh:=hyp_lim p z (by omega) (by omega)
  rw [refHypot_f k p z (by omega) (by omega) (by omega) (by omega),bsome]
  generalize hyp p z=g at *
  rw [w64 (n:=65535*g) (by omega) (by omega),w64 (n:=8*S) (by omega) (by omega),refDiv_f (k+65) _ (8*S) (by omega) (by omega) (by omega) (by omega),bsome]
  have ht:0≤rdiv (65535*g) (8*S):=by
    unfold rdiv
    exact Int.ediv_nonneg (by omega) (by omega)
  generalize rdiv (65535*g) (8*S)=t at *
  unfold covf
  by_cases c1:t≤H
  · rw [if_pos c1,if_pos c1]
  rw [if_neg c1,if_neg c1]
  by_cases c2:t≥65535
  · rw [if_pos c2,if_pos c2]
  rw [if_neg c2,if_neg c2]
  have hm:=mul_lim F (65535 - t) 65535 65535 (by omega) (by omega) (by omega)
  rw [w64 (n:=65535 - t) (by omega) (by omega),w64 (n:=F*(65535 - t)) (by omega) (by omega),w64 (n:=65535 - H) (by omega) (by omega),refDiv_f (k+65) _ (65535 - H) (by omega) (by omega) (by omega) (by omega),bsome]
def cover (a1 a2 a6 ck x y s f a px py:Int):Int:=
  if ck=0 then (if clS s=0 then 0 else covf (uni f) a1 (covr (clS s) a2 (sn ((a6+a % 65536) % 65536)) (cs ((a6+a % 65536) % 65536)) (16*(16*clC px+8 - clP x)) (16*(16*clC py+8 - clP y)))) else 0
theorem bcheck_rng (a0 a1 a2 a3 a4 a5 a6 a7 a8 a9 a10 a11 a12 a13:Int) (l:List S120) (h:bcheck a0 a1 a2 a3 a4 a5 a6 a7 a8 a9 a10 a11 a12 a13 l=0):0≤a1∧a1≤65535∧4096≤a2∧a2≤65535∧0≤a6∧a6≤65535:=by
  unfold bcheck at h
  by_cases c:branges a0 a1 a2 a3 a4 a5 a6 a7
  · obtain ⟨_,b1,_,_,b2,_,b6,_⟩:=c
    omega
  · rw [if_neg c] at h
    omega
theorem cs_bd (a:Int) : -65536≤cs a∧cs a≤65536:=sn_bd _ (by omega)
theorem cover_f (k:Nat) (hk:91≤k) (a0 a1 a2 a3 a4 a5 a6 a7 a8 a9 a10 a11 a12 a13:Int) (l:List S120) (e:Bool) (x y s f a px py:Int) (h : -9223372036854775808≤a∧a<9223372036854775808) :
    zaq.f k a0 a1 a2 a3 a4 a5 a6 a7 a8 a9 a10 a11 a12 a13 l e x y s f a px py=some (cover a1 a2 a6 (bcheck a0 a1 a2 a3 a4 a5 a6 a7 a8 a9 a10 a11 a12 a13 l) x y s f a px py):=by
  obtain ⟨k,rfl⟩ : ∃ m,k=m+1:=⟨k - 1,by omega⟩
  unfold zaq.f cover
  rw [check_f (k+1) (by omega),bsome]
  by_cases c:bcheck a0 a1 a2 a3 a4 a5 a6 a7 a8 a9 a10 a11 a12 a13 l=0
  · obtain ⟨r1,r2,r3,r4,r5,r6⟩:=bcheck_rng a0 a1 a2 a3 a4 a5 a6 a7 a8 a9 a10 a11 a12 a13 l c
    rw [if_pos c,if_pos c]
    unfold za4.f
    have hx:=clP_bd x
    have hy:=clP_bd y
    rw [limited_f x y s f a h,bsome]
    dsimp only
    rw [w64 (n:=a6+a % 65536) (by omega) (by omega),turn_f k _ (by omega),bsome,bsome]
    dsimp only
    rw [clamp_f,bsome,clamp_f,bsome]
    have cx:=clC_bd px
    have cy:=clC_bd py
    have fold (z:Int):mn 1048576 (mx z (-1048576))=clC z:=rfl
    rw [fold,fold,tipCover_f (k+1) (by omega) _ _ _ _ _ _ _ _ _ _ _ (clS_bd s) (uni_bd f) ⟨r1,r2⟩ hx hy cx cy ⟨r3,r4⟩ (sn_bd _ (by omega)) (cs_bd _),bsome]
  · rw [if_neg c,if_neg c]
theorem refCover_f (k:Nat) (hk:91≤k) (a0 a1 a2 a3 a4 a5 a6 a7 a8 a9 a10 a11 a12 a13:Int) (l:List S120) (e:Bool) (x y s f a px py:Int) (h : -9223372036854775808≤a∧a<9223372036854775808) :
    zam.f k a0 a1 a2 a3 a4 a5 a6 a7 a8 a9 a10 a11 a12 a13 l e x y s f a px py=some (cover a1 a2 a6 (bcheck a0 a1 a2 a3 a4 a5 a6 a7 a8 a9 a10 a11 a12 a13 l) x y s f a px py):=by
  obtain ⟨k,rfl⟩ : ∃ m,k=m+2:=⟨k - 2,by omega⟩
  unfold zam.f cover
  rw [refDabLimit_f x y s f a h,bsome,refCheck_f (k+2) (by omega),bsome]
  dsimp only
  by_cases c:bcheck a0 a1 a2 a3 a4 a5 a6 a7 a8 a9 a10 a11 a12 a13 l=0
  · obtain ⟨r1,r2,r3,r4,r5,r6⟩:=bcheck_rng a0 a1 a2 a3 a4 a5 a6 a7 a8 a9 a10 a11 a12 a13 l c
    rw [if_pos c,if_pos c,show k+2=(k+1)+1 from rfl,zam.j0.eq_2]
    have hs:=clS_bd s
    by_cases c0:clS s=0
    · rw [if_pos (by simpa using c0),if_pos c0]
    rw [if_neg (by simpa using c0),if_neg c0]
    have hx:=clP_bd x
    have hy:=clP_bd y
    have cx:=clC_bd px
    have cy:=clC_bd py
    rw [refClamp_f,bsome,refClamp_f,bsome,w64 (n:=a6+a % 65536) (by omega) (by omega),refTurn_f k _ (by omega),bsome]
    dsimp only
    have fold (z:Int):mn 1048576 (mx z (-1048576))=clC z:=rfl
    rw [fold,fold]
    have sb:=sn_bd ((a6+a % 65536) % 65536) (by omega)
    have cb:=cs_bd ((a6+a % 65536) % 65536)
    generalize sn ((a6+a % 65536) % 65536)=sin at *
    generalize cs ((a6+a % 65536) % 65536)=cos at *
    generalize clP x=X at *
    generalize clP y=Y at *
    generalize clC px=p at *
    generalize clC py=q at *
    rw [w64 (n:=16*p) (by omega) (by omega),w64 (n:=16*p+8) (by omega) (by omega),w64 (n:=16*p+8 - X) (by omega) (by omega),w64 (n:=16*(16*p+8 - X)) (by omega) (by omega)]
    rw [w64 (n:=16*q) (by omega) (by omega),w64 (n:=16*q+8) (by omega) (by omega),w64 (n:=16*q+8 - Y) (by omega) (by omega),w64 (n:=16*(16*q+8 - Y)) (by omega) (by omega)]
    have B:CovB a2 sin cos (16*(16*p+8 - X)) (16*(16*q+8 - Y)):=⟨r3,r4,sb,cb,by omega,by omega⟩
    generalize 16*(16*p+8 - X)=u at *
    generalize 16*(16*q+8 - Y)=v at *
    obtain ⟨b1,b2,b3,b4,b5,b6⟩:=cov_steps B
    rw [w64 (n:=cos*u) (by omega) (by omega),w64 (n:=sin*v) (by omega) (by omega),w64 (n:=cos*v) (by omega) (by omega),w64 (n:=sin*u) (by omega) (by omega),w64 (n:=cos*u+sin*v) (by omega) (by omega),w64 (n:=cos*v - sin*u) (by omega) (by omega)]
    rw [refDiv_f k _ 65536 (by omega) (by omega) (by omega) (by omega),bsome,refDiv_f k _ 65536 (by omega) (by omega) (by omega) (by omega),bsome]
    unfold covr
    dsimp only
    generalize rdiv (cos*u+sin*v) 65536=g at *
    generalize rdiv (cos*v - sin*u) 65536=w at *
    have fb:=uni_bd f
    by_cases cw:w<0
    · rw [if_pos cw,if_pos cw,w64 (n:=-w) (by omega) (by omega),refCover_j1 (k+1) (by omega) g (-w) _ _ _ _ _ _ _ _ _ _ _ _ _ _ _ _ _ _ _ _ _ (by omega) fb ⟨r1,r2⟩ ⟨r3,r4⟩ b5 (by omega)]
    · rw [if_neg cw,if_neg cw,refCover_j1 (k+1) (by omega) g w _ _ _ _ _ _ _ _ _ _ _ _ _ _ _ _ _ _ _ _ _ (by omega) fb ⟨r1,r2⟩ ⟨r3,r4⟩ b5 (by omega)]
  · rw [if_neg c,if_neg c,show k+2=(k+1)+1 from rfl,zam.j0.eq_2,if_pos rfl]
end Go.Proofs.Ytlilncnoohfcdaa.Num
