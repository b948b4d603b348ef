/-
  Plain facts on dab.Tip: the program's and the reference's loops give the same list of coverages. Condition: enough rounds.
-/
import Derived.Test.YtlilncnoohfcdaaDabPlain
import Derived.Test.YtlilncnoohfcdaaDax10
import Derived.Test.YtlilncnoohfcdaaDax17
import Derived.Test.YtlilncnoohfcdaaDax18
namespace Go.Proofs.Ytlilncnoohfcdaa.Num
open Go.RowKit Go.Proofs.YtlilncnoohfcdaaW.PrintWords Go.Proofs.YtlilncnoohfcdaaW.PrintLast Go.Proofs.YtlilncnoohfcdaaW.PrintMore Go.Proofs.Ytlilncnoohfcdaa.Da
def gridl (c:Int→Int→Int) (X Y W:Int) (n:Nat):List Int:=(List.range n).map fun (i:Nat)=>c (X+(i:Int) % W) (Y+(i:Int) / W)
theorem gridl_len (c:Int→Int→Int) (X Y W:Int) (n:Nat):(gridl c X Y W n).length=n:=by unfold gridl;rw [List.length_map,List.length_range]
theorem gridl_at (c:Int→Int→Int) (X Y W:Int) (n i:Nat) (h:i<n):(gridl c X Y W n).getD i 0=c (X+(i:Int) % W) (Y+(i:Int) / W):=by
  unfold gridl
  rw [List.getD_eq_getElem?_getD,List.getElem?_map,List.getElem?_range h]
  rfl
theorem gridl_next (c:Int→Int→Int) (X Y W x y:Int) (n:Nat) (h0:0≤x - X) (h1:x - X<W) (hn:(n:Int)=(x - X)+W*(y - Y)):gridl c X Y W n ++ [c x y]=gridl c X Y W (n+1):=by
  unfold gridl
  rw [List.range_succ,List.map_append,List.map_singleton,hn,Int.add_mul_emod_self_left,Int.add_mul_ediv_left _ _ (by omega),Int.emod_eq_of_lt h0 h1,Int.ediv_eq_zero_of_lt h0 h1,
    show X+(x - X)=x by omega,show Y+(0+(y - Y))=y by omega]
theorem tip_row (X Y W H m0 m1 t0 t1 t2 t3 t4 t5 t6 t7 t8:Int) (c:Int→Int→Int) (hX : -1048576≤X∧X≤1048576) (hY : -1048576≤Y∧Y≤1048576) (hW:0≤W∧X+W≤1048576) (hH:0≤H∧Y+H≤1048576)
    (hc : ∀ k x y,91≤k→X≤x→x<X+W→Y≤y→y<Y+H→zaQ.f k t0 t1 t2 t3 t4 t5 t6 t7 t8 x y=some (c x y)) :
    ∀ (d k:Nat) (x y:Int) (n:Nat),91≤k→X≤x→x+d=X+W→Y≤y→y<Y+H→(n:Int)=(x - X)+W*(y - Y)→n+d≤100000→
    zax.l1 (k+d+1) y x X Y W H m0 m1 (gridl c X Y W n) t0 t1 t2 t3 t4 t5 t6 t7 t8=zax.l0 k (y+1) X Y W H m0 m1 (gridl c X Y W (n+d)) t0 t1 t2 t3 t4 t5 t6 t7 t8:=by
  intro d
  induction d with
  | zero=>
    intro k x y n hk h0 h1 h2 h3 h4 h5
    rw [zax.l1.eq_2,w64 (n:=X+W) (by omega) (by omega),if_neg (by omega),w64 (by omega) (by omega)]
    rfl
  | succ d ih=>
    intro k x y n hk h0 h1 h2 h3 h4 h5
    rw [show k+(d+1)+1=(k+d+1)+1 by omega,zax.l1.eq_2,w64 (n:=X+W) (by omega) (by omega),if_pos (by omega),hc _ x y (by omega) h0 (by omega) h2 h3,bsome,gridl_len,if_pos (by omega),w64 (by omega) (by omega),
      gridl_next c X Y W x y n (by omega) (by omega) h4,ih k (x+1) y (n+1) hk (by omega) (by omega) h2 h3 (by omega) (by omega),show n+1+d=n+(d+1) by omega]
theorem tip_rows (X Y H m0 m1 t0 t1 t2 t3 t4 t5 t6 t7 t8:Int) (w:Nat) (c:Int→Int→Int) (hX : -1048576≤X∧X≤1048576) (hY : -1048576≤Y∧Y≤1048576) (hW:X+w≤1048576) (hH:0≤H∧Y+H≤1048576)
    (hc : ∀ k x y,91≤k→X≤x→x<X+w→Y≤y→y<Y+H→zaQ.f k t0 t1 t2 t3 t4 t5 t6 t7 t8 x y=some (c x y)) :
    ∀ (r k:Nat) (y:Int) (n:Nat),91≤k→Y≤y→y+r=Y+H→(n:Int)=(w:Int)*(y - Y)→n+r*w≤100000→
    zax.l0 (k+r*(w+2)+1) y X Y w H m0 m1 (gridl c X Y w n) t0 t1 t2 t3 t4 t5 t6 t7 t8=some (m0,m1,gridl c X Y w (n+r*w),0):=by
  intro r
  induction r with
  | zero=>
    intro k y n hk h0 h1 h2 h3
    rw [Nat.zero_mul,Nat.zero_mul,zax.l0.eq_2,w64 (n:=Y+H) (by omega) (by omega),if_neg (by omega)]
    rfl
  | succ r ih=>
    intro k y n hk h0 h1 h2 h3
    rw [Nat.add_mul,Nat.one_mul] at h3
    have e:(w:Int)*(y+1 - Y)=(w:Int)*(y - Y)+w:=by grind
    rw [show k+(r+1)*(w+2)+1=((k+r*(w+2)+1)+w+1)+1 by rw [Nat.add_mul,Nat.one_mul];omega,zax.l0.eq_2,w64 (n:=Y+H) (by omega) (by omega),if_pos (by omega),
      tip_row X Y w H m0 m1 t0 t1 t2 t3 t4 t5 t6 t7 t8 c hX hY (by omega) hH hc w _ X y n (by omega) (by omega) (by omega) h0 (by omega) (by omega) (by omega),ih k (y+1) (n+w) hk (by omega) (by omega) (by omega) (by omega),
      show n+w+r*w=n+(r+1)*w by rw [Nat.add_mul,Nat.one_mul];omega]
theorem refTip_row (X Y W H m0 m1 a0 a1 a2 a3 a4 a5 a6 a7 a8 a9 a10 a11 a12 a13 d0 d1 d2 d3 d4:Int) (l:List S120) (e:Bool) (c:Int→Int→Int) (hX : -1048576≤X∧X≤1048576) (hY : -1048576≤Y∧Y≤1048576) (hW:0≤W∧X+W≤1048576) (hH:0≤H∧Y+H≤1048576)
    (hc : ∀ k x y,91≤k→X≤x→x<X+W→Y≤y→y<Y+H→zam.f k a0 a1 a2 a3 a4 a5 a6 a7 a8 a9 a10 a11 a12 a13 l e d0 d1 d2 d3 d4 x y=some (c x y)) :
    ∀ (d k:Nat) (x y:Int) (n:Nat),91≤k→X≤x→x+d=X+W→Y≤y→y<Y+H→(n:Int)=(x - X)+W*(y - Y)→n+d≤100000→
    zaj.l1 (k+d+1) y x a0 a1 a2 a3 a4 a5 a6 a7 a8 a9 a10 a11 a12 a13 l e d0 d1 d2 d3 d4 X Y W H m0 m1 (gridl c X Y W n)=zaj.l0 k (y+1) a0 a1 a2 a3 a4 a5 a6 a7 a8 a9 a10 a11 a12 a13 l e d0 d1 d2 d3 d4 X Y W H m0 m1 (gridl c X Y W (n+d)):=by
  intro d
  induction d with
  | zero=>
    intro k x y n hk h0 h1 h2 h3 h4 h5
    rw [zaj.l1.eq_2,w64 (n:=X+W) (by omega) (by omega),if_neg (by omega),w64 (by omega) (by omega)]
    rfl
  | succ d ih=>
    intro k x y n hk h0 h1 h2 h3 h4 h5
    rw [show k+(d+1)+1=(k+d+1)+1 by omega,zaj.l1.eq_2,w64 (n:=X+W) (by omega) (by omega),if_pos (by omega),hc _ x y (by omega) h0 (by omega) h2 h3,bsome,gridl_len,if_pos (by omega),w64 (by omega) (by omega),
      gridl_next c X Y W x y n (by omega) (by omega) h4,ih k (x+1) y (n+1) hk (by omega) (by omega) h2 h3 (by omega) (by omega),show n+1+d=n+(d+1) by omega]
theorem refTip_rows (X Y H m0 m1 a0 a1 a2 a3 a4 a5 a6 a7 a8 a9 a10 a11 a12 a13 d0 d1 d2 d3 d4:Int) (l:List S120) (e:Bool) (w:Nat) (c:Int→Int→Int) (hX : -1048576≤X∧X≤1048576) (hY : -1048576≤Y∧Y≤1048576) (hW:X+w≤1048576) (hH:0≤H∧Y+H≤1048576)
    (hc : ∀ k x y,91≤k→X≤x→x<X+w→Y≤y→y<Y+H→zam.f k a0 a1 a2 a3 a4 a5 a6 a7 a8 a9 a10 a11 a12 a13 l e d0 d1 d2 d3 d4 x y=some (c x y)) :
    ∀ (r k:Nat) (y:Int) (n:Nat),91≤k→Y≤y→y+r=Y+H→(n:Int)=(w:Int)*(y - Y)→n+r*w≤100000→
    zaj.l0 (k+r*(w+2)+1) y a0 a1 a2 a3 a4 a5 a6 a7 a8 a9 a10 a11 a12 a13 l e d0 d1 d2 d3 d4 X Y w H m0 m1 (gridl c X Y w n)=some (m0,m1,gridl c X Y w (n+r*w),0):=by
  intro r
  induction r with
  | zero=>
    intro k y n hk h0 h1 h2 h3
    rw [Nat.zero_mul,Nat.zero_mul,zaj.l0.eq_2,w64 (n:=Y+H) (by omega) (by omega),if_neg (by omega)]
    rfl
  | succ r ih=>
    intro k y n hk h0 h1 h2 h3
    rw [Nat.add_mul,Nat.one_mul] at h3
    have e':(w:Int)*(y+1 - Y)=(w:Int)*(y - Y)+w:=by grind
    rw [show k+(r+1)*(w+2)+1=((k+r*(w+2)+1)+w+1)+1 by rw [Nat.add_mul,Nat.one_mul];omega,zaj.l0.eq_2,w64 (n:=Y+H) (by omega) (by omega),if_pos (by omega),
      refTip_row X Y w H m0 m1 a0 a1 a2 a3 a4 a5 a6 a7 a8 a9 a10 a11 a12 a13 d0 d1 d2 d3 d4 l e c hX hY (by omega) hH hc w _ X y n (by omega) (by omega) (by omega) h0 (by omega) (by omega) (by omega),ih k (y+1) (n+w) hk (by omega) (by omega) (by omega) (by omega),
      show n+w+r*w=n+(r+1)*w by rw [Nat.add_mul,Nat.one_mul];omega]
def rvalid (x y w h:Int):Bool:=decide (-1048576≤x∧x≤1048576∧-1048576≤y∧y≤1048576∧0≤w∧0≤h∧w≤1048576 - x∧h≤1048576 - y)
theorem span_f (a b:Int):zbz.f a b=some (decide (-1048576≤a∧a≤1048576∧0≤b∧b≤1048576 - a)):=by
  unfold zbz.f
  by_cases c1:a≥-1048576
  · rw [if_pos c1]
    by_cases c2:a≤1048576
    · rw [if_pos c2,w64 (by omega) (by omega)]
      by_cases c3:b≥0
      · rw [if_pos c3];congr 1;rw [decide_eq_decide];omega
      · rw [if_neg c3,decide_eq_false (by omega)]
    · rw [if_neg c2,decide_eq_false (by omega)]
  · rw [if_neg c1,decide_eq_false (by omega)]
theorem rectValid_f (x y w h:Int):zbu.f x y w h=some (rvalid x y w h):=by
  unfold zbu.f rvalid
  rw [span_f,bsome]
  by_cases c : -1048576≤x∧x≤1048576∧0≤w∧w≤1048576 - x
  · rw [if_pos (decide_eq_true c),span_f,bsome];congr 1;rw [decide_eq_decide];omega
  · rw [if_neg (by simpa using c),decide_eq_false (by omega)]
theorem refRectValid_f (x y w h:Int):zaY.f x y w h=some (rvalid x y w h):=by
  unfold zaY.f rvalid
  by_cases c1:x < -1048576
  · rw [if_pos c1,decide_eq_false (by omega)]
  by_cases c2:x > 1048576
  · rw [if_neg c1,if_pos c2,decide_eq_false (by omega)]
  by_cases c3:y < -1048576
  · rw [if_neg c1,if_neg c2,if_pos c3,decide_eq_false (by omega)]
  by_cases c4:y > 1048576
  · rw [if_neg c1,if_neg c2,if_neg c3,if_pos c4,decide_eq_false (by omega)]
  rw [if_neg c1,if_neg c2,if_neg c3,if_neg c4,w64 (n:=1048576 - x) (by omega) (by omega),w64 (n:=1048576 - y) (by omega) (by omega)]
  by_cases c5:w≥0
  · rw [if_pos c5]
    by_cases c6:h≥0
    · rw [if_pos c6]
      by_cases c7:w≤1048576 - x
      · rw [if_pos c7];congr 1;rw [decide_eq_decide];omega
      · rw [if_neg c7,decide_eq_false (by omega)]
    · rw [if_neg c6,decide_eq_false (by omega)]
  · rw [if_neg c5,decide_eq_false (by omega)]
theorem rectEmpty_f (x y w h:Int) (v:rvalid x y w h=true):zbI.f x y w h=some (if w=0 then true else h==0):=by
  unfold zbI.f zbJ.f
  rw [rectValid_f,bsome,if_pos v,bsome]
  dsimp only
  split <;> rfl
theorem refRectEmpty_f (x y w h:Int) (v:rvalid x y w h=true):zbg.f x y w h=some (if w=0 then true else h==0):=by
  unfold zbg.f
  rw [refRectValid_f,bsome,if_pos v]
  split <;> rfl
def lim (x y s f a:Int):Bool:=decide (x=clP x∧y=clP y∧s=clS s∧f=uni f∧a=a % 65536)
def tipv (ck:Int) (c:Int→Int→Int) (d0 d1 d2 d3 d4 x y w h:Int):Int×Int×List Int×Int:=
  if ck=0 then (if lim d0 d1 d2 d3 d4=true then (if rvalid x y w h=true then (if w > 256 then (0,0,[],15) else if h > 256 then (0,0,[],15) else if w=0 then (0,0,[],0) else if h=0 then (0,0,[],0) else (w,h,gridl c x y w (w*h).toNat,0)) else (0,0,[],2)) else (0,0,[],2)) else (0,0,[],ck)
theorem lim_off (x y s f a:Int):(!(x==clP x)||(!(y==clP y)||(!(s==clS s)||(!(f==uni f)||(!(a==a % 65536)))))) = !lim x y s f a:=by
  unfold lim
  rw [Bool.eq_iff_iff]
  simp only [Bool.or_eq_true,Bool.not_eq_true',beq_eq_false_iff_ne,decide_eq_false_iff_not]
  omega
theorem lim_off' (x y s f a:Int):(!(clP x==x)||(!(clP y==y)||(!(clS s==s)||(!(uni f==f)||(!(a % 65536==a)))))) = !lim x y s f a:=by
  rw [← lim_off,beq_comm' (clP x),beq_comm' (clP y),beq_comm' (clS s),beq_comm' (uni f),beq_comm' (a % 65536)]
theorem area (w h:Int) (hw:0≤w∧w≤256) (hh:0≤h∧h≤256) : ∃ u v:Nat,w=u∧h=v∧(w*h).toNat=v*u∧v*u≤65536:=by
  obtain ⟨u,rfl⟩:=Int.eq_ofNat_of_zero_le hw.1
  obtain ⟨v,rfl⟩:=Int.eq_ofNat_of_zero_le hh.1
  refine ⟨u,v,rfl,rfl,?_,Nat.mul_le_mul (show v≤256 by omega) (show u≤256 by omega)⟩
  rw [show (u:Int)*(v:Int)=((v*u:Nat):Int) by rw [Nat.mul_comm];rfl]
  rfl
theorem tip_f (k:Nat) (hk:70000≤k) (a0 a1 a2 a3 a4 a5 a6 a7 a8 a9 a10 a11 a12 a13:Int) (l:List S120) (e:Bool) (d0 d1 d2 d3 d4 x y w h:Int) (wf : -9223372036854775808≤d4∧d4<9223372036854775808) :
    zax.f k a0 a1 a2 a3 a4 a5 a6 a7 a8 a9 a10 a11 a12 a13 l e d0 d1 d2 d3 d4 x y w h=some (tipv (bcheck a0 a1 a2 a3 a4 a5 a6 a7 a8 a9 a10 a11 a12 a13 l) (cover a1 a2 a6 0 d0 d1 d2 d3 d4) d0 d1 d2 d3 d4 x y w h):=by
  obtain ⟨k,rfl⟩ : ∃ m,k=m+2:=⟨k - 2,by omega⟩
  unfold zax.f tipv
  rw [check_f (k+2) (by omega),bsome]
  by_cases c:bcheck a0 a1 a2 a3 a4 a5 a6 a7 a8 a9 a10 a11 a12 a13 l=0
  · obtain ⟨r1,r2,r3,r4,r5,r6⟩:=bcheck_rng a0 a1 a2 a3 a4 a5 a6 a7 a8 a9 a10 a11 a12 a13 l c
    rw [if_pos c,if_pos c,limited_f d0 d1 d2 d3 d4 wf,bsome]
    dsimp only
    rw [lim_off]
    by_cases cl:lim d0 d1 d2 d3 d4=true
    · rw [cl,if_neg (by decide),if_pos rfl,rectValid_f,bsome,show k+2=(k+1)+1 from rfl,zax.j0.eq_2]
      by_cases cv:rvalid x y w h=true
      · have V:=of_decide_eq_true cv
        rw [cv,if_neg (by decide),if_pos rfl]
        by_cases c1:w > 256
        · rw [if_pos c1,if_pos c1,zax.j1.eq_2,if_pos rfl]
        · rw [if_neg c1,if_neg c1,zax.j1.eq_2]
          by_cases c2:h > 256
          · rw [if_pos (decide_eq_true c2),if_pos c2]
          · rw [if_neg (by simpa using c2),if_neg c2,rectEmpty_f x y w h cv,bsome]
            by_cases c3:w=0
            · rw [if_pos c3,if_pos rfl,if_pos c3]
            · rw [if_neg c3,if_neg c3]
              by_cases c4:h=0
              · rw [if_pos (by simp [c4]),if_pos c4]
              · rw [if_neg (by simpa using c4),if_neg c4]
                unfold za4.f
                have hx:=clP_bd d0
                have hy:=clP_bd d1
                rw [limited_f d0 d1 d2 d3 d4 wf,bsome]
                dsimp only
                rw [w64 (n:=a6+d4 % 65536) (by omega) (by omega),show k=(k - 1)+1 by omega,turn_f (k - 1) _ (by omega),bsome,bsome]
                dsimp only
                obtain ⟨u,v,rfl,rfl,eA,bA⟩:=area w h (by omega) (by omega)
                have q:v*(u+2)≤256*258:=Nat.mul_le_mul (by omega) (by omega)
                have R:=tip_rows x y v u v (clP d0) (clP d1) (clS d2) (uni d3) (d4 % 65536) a1 a2 (sn ((a6+d4 % 65536) % 65536)) (cs ((a6+d4 % 65536) % 65536)) u (cover a1 a2 a6 0 d0 d1 d2 d3 d4) (by omega) (by omega) (by omega) (by omega) (by
                  intro k' px py hk' g0 g1 g2 g3
                  rw [tipCover_f k' (by omega) _ _ _ _ _ _ _ _ _ _ _ (clS_bd d2) (uni_bd d3) ⟨r1,r2⟩ hx hy (by omega) (by omega) ⟨r3,r4⟩ (sn_bd _ (by omega)) (cs_bd _)]
                  unfold cover
                  rw [if_pos rfl,clC_id px (by omega),clC_id py (by omega)]) v ((k - 1) - v*(u+2)) y 0 (by omega) (by omega) (by omega) (by omega) (by omega)
                rw [show (k - 1) - v*(u+2)+v*(u+2)+1=(k - 1)+1 by omega,Nat.zero_add] at R
                rw [eA]
                exact R
      · rw [Bool.eq_false_iff.2 cv,if_pos (show (!false)=true from rfl),if_neg (by decide)]
    · rw [Bool.eq_false_iff.2 cl,if_pos (show (!false)=true from rfl),show k+2=(k+1)+1 from rfl,zax.j0.eq_2,if_pos rfl,if_neg (by decide)]
  · rw [if_neg c,if_neg c]
theorem refTip_f (k:Nat) (hk:70000≤k) (a0 a1 a2 a3 a4 a5 a6 a7 a8 a9 a10 a11 a12 a13:Int) (l:List S120) (e:Bool) (d0 d1 d2 d3 d4 x y w h:Int) (wf : -9223372036854775808≤d4∧d4<9223372036854775808) :
    zaj.f k a0 a1 a2 a3 a4 a5 a6 a7 a8 a9 a10 a11 a12 a13 l e d0 d1 d2 d3 d4 x y w h=some (tipv (bcheck a0 a1 a2 a3 a4 a5 a6 a7 a8 a9 a10 a11 a12 a13 l) (cover a1 a2 a6 0 d0 d1 d2 d3 d4) d0 d1 d2 d3 d4 x y w h):=by
  obtain ⟨k,rfl⟩ : ∃ m,k=m+2:=⟨k - 2,by omega⟩
  unfold zaj.f tipv
  rw [refCheck_f (k+2) (by omega),bsome]
  by_cases c:bcheck a0 a1 a2 a3 a4 a5 a6 a7 a8 a9 a10 a11 a12 a13 l=0
  · rw [if_pos c,if_pos c,refDabLimit_f d0 d1 d2 d3 d4 wf,bsome]
    dsimp only
    rw [lim_off']
    by_cases cl:lim d0 d1 d2 d3 d4=true
    · rw [cl,if_neg (by decide),if_pos rfl,refRectValid_f,bsome,show k+2=(k+1)+1 from rfl,zaj.j0.eq_2]
      by_cases cv:rvalid x y w h=true
      · have V:=of_decide_eq_true cv
        rw [cv,if_neg (by decide),if_pos rfl]
        by_cases c1:w > 256
        · rw [if_pos c1,if_pos c1,zaj.j1.eq_2,if_pos rfl]
        · rw [if_neg c1,if_neg c1,zaj.j1.eq_2]
          by_cases c2:h > 256
          · rw [if_pos (decide_eq_true c2),if_pos c2]
          · rw [if_neg (by simpa using c2),if_neg c2,refRectEmpty_f x y w h cv,bsome]
            by_cases c3:w=0
            · rw [if_pos c3,if_pos rfl,if_pos c3]
            · rw [if_neg c3,if_neg c3]
              by_cases c4:h=0
              · rw [if_pos (by simp [c4]),if_pos c4]
              · rw [if_neg (by simpa using c4),if_neg c4]
                obtain ⟨u,v,rfl,rfl,eA,bA⟩:=area w h (by omega) (by omega)
                have q:v*(u+2)≤256*258:=Nat.mul_le_mul (by omega) (by omega)
                have R:=refTip_rows x y v u v a0 a1 a2 a3 a4 a5 a6 a7 a8 a9 a10 a11 a12 a13 d0 d1 d2 d3 d4 l e u (cover a1 a2 a6 0 d0 d1 d2 d3 d4) (by omega) (by omega) (by omega) (by omega) (by
                  intro k' px py hk' g0 g1 g2 g3
                  rw [refCover_f k' (by omega) _ _ _ _ _ _ _ _ _ _ _ _ _ _ _ _ _ _ _ _ _ _ _ wf,c]) v ((k - 1) - v*(u+2)) y 0 (by omega) (by omega) (by omega) (by omega) (by omega)
                rw [show (k - 1) - v*(u+2)+v*(u+2)+1=k by omega,Nat.zero_add] at R
                rw [eA]
                exact R
      · rw [Bool.eq_false_iff.2 cv,if_pos (show (!false)=true from rfl),if_neg (by decide)]
    · rw [Bool.eq_false_iff.2 cl,if_pos (show (!false)=true from rfl),show k+2=(k+1)+1 from rfl,zaj.j0.eq_2,if_pos rfl,if_neg (by decide)]
  · rw [if_neg c,if_neg c]
end Go.Proofs.Ytlilncnoohfcdaa.Num
