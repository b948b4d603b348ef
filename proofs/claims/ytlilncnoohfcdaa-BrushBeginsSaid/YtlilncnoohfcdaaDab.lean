/-
  Plain facts on layer 27 (dabs): what Check and Box compute, of the program and of the reference alike. Condition: enough rounds.
-/
import Derived.Test.YtlilncnoohfcdaaDax13
import Derived.Test.YtlilncnoohfcdaaDax14
import Derived.Test.YtlilncnoohfcdaaDax5
import Derived.Test.YtlilncnoohfcdaaDax7
import Derived.Test.YtlilncnoohfcdaaDynRef
namespace Go.Proofs.Ytlilncnoohfcdaa.Num
open Go.RowKit Go.Proofs.YtlilncnoohfcdaaW.PrintWords Go.Proofs.YtlilncnoohfcdaaW.PrintLast Go.Proofs.YtlilncnoohfcdaaW.PrintMore Go.Proofs.Ytlilncnoohfcdaa.Da Go.Proofs.Ytlilncnoohfcdaa.Br
theorem within_f (a lo hi:Int):zaF.f a lo hi=some (decide (lo≤a∧a≤hi)):=by
  unfold zaF.f
  by_cases c:lo≤a
  · rw [if_pos c];by_cases c2:a≤hi <;> simp [c,c2]
  · rw [if_neg c];simp [c]
theorem dabUnit_f (a:Int):zbc.f a=some (decide (0≤a∧a≤65535)):=by
  unfold zbc.f
  rw [within_f,zay]
theorem refIn_f (a lo hi:Int):zam.f a lo hi=some (decide (lo≤a∧a≤hi)):=by
  unfold zam.f
  by_cases c:a≥lo
  · rw [if_pos c];by_cases c2:a≤hi <;> simp [c,c2]
  · rw [if_neg c];simp [show ¬ lo≤a from c]
def pvalid (p q r s:Int):Bool:=decide (0≤p∧p≤65535∧0≤q∧q≤65535∧0≤r∧r≤65535∧0≤s∧s≤65535)
theorem uni_eq (x:Int):uni x=x↔0≤x∧x≤65535:=⟨fun h=>by have:=uni_bd x;omega,fun h=>uni_same x h.1 h.2⟩
theorem pixelUnit_f (x:Int):zbN.f x=some (uni x):=by
  unfold zbN.f
  rw [clampU_f,zay]
theorem ref06U_f (x:Int):za4.f x=some (uni x):=by
  unfold za4.f
  rw [zcm,zay]
  rfl
theorem pvalid_eq (p q r s:Int):(uni p==p&&(uni q==q&&(uni r==r&&(uni s==s))))=pvalid p q r s:=by
  unfold pvalid
  rw [Bool.eq_iff_iff]
  simp only [Bool.and_eq_true,beq_iff_eq,uni_eq,decide_eq_true_eq]
  omega
theorem pixelLimit_f (p q r s:Int):zb1.f p q r s=some (uni p,uni q,uni r,uni s):=by
  unfold zb1.f
  rw [pixelUnit_f,zay,pixelUnit_f,zay,pixelUnit_f,zay,pixelUnit_f,zay]
theorem refLimit_f (p q r s:Int):zbg.f p q r s=some (uni p,uni q,uni r,uni s):=by
  unfold zbg.f
  rw [ref06U_f,zay,ref06U_f,zay,ref06U_f,zay,ref06U_f,zay]
theorem beq_comm' (a b:Int):(a==b)=(b==a):=by rw [Bool.eq_iff_iff];simp only [beq_iff_eq];exact eq_comm
theorem pixelValid_f (p q r s:Int):zci.f p q r s=some (pvalid p q r s):=by
  unfold zci.f
  rw [pixelLimit_f,zay,← pvalid_eq]
  rw [beq_comm' p,beq_comm' q,beq_comm' r,beq_comm' s]
theorem refValid_f (p q r s:Int):zby.f p q r s=some (pvalid p q r s):=by
  unfold zby.f
  rw [refLimit_f,zay,← pvalid_eq]
def branges (a0 a1 a2 a3 a4 a5 a6 a7:Int):Prop:=(1≤a0∧a0≤1024)∧(0≤a1∧a1≤65535)∧(0≤a3∧a3≤65535)∧(0≤a4∧a4≤65535)∧(4096≤a2∧a2≤65535)∧(1≤a5∧a5≤1000)∧(0≤a6∧a6≤65535)∧(0≤a7∧a7≤1000)
instance (a0 a1 a2 a3 a4 a5 a6 a7:Int):Decidable (branges a0 a1 a2 a3 a4 a5 a6 a7):=by unfold branges;infer_instance
def brest (a8 a9 a10 a11 a12 a13:Int) (l:List S120):Int:=
  if 0≤a8∧a8≤17 then (if pvalid a9 a10 a11 a12=true then (if 0≤a13∧a13≤1073741824 then dcheck l else 2) else 2) else 8
def bcheck (a0 a1 a2 a3 a4 a5 a6 a7 a8 a9 a10 a11 a12 a13:Int) (l:List S120):Int:=
  if branges a0 a1 a2 a3 a4 a5 a6 a7 then brest a8 a9 a10 a11 a12 a13 l else 2
theorem check_j0 (k:Nat) (hk:90≤k) (b:Bool) (a0 a1 a2 a3 a4 a5 a6 a7 a8 a9 a10 a11 a12 a13:Int) (l:List S120) (e:Bool) :
    zaG.j0 k b a0 a1 a2 a3 a4 a5 a6 a7 a8 a9 a10 a11 a12 a13 l e=some (if b=true then brest a8 a9 a10 a11 a12 a13 l else 2):=by
  obtain ⟨k,rfl⟩ : ∃ m,k=m+1:=⟨k - 1,by omega⟩
  rw [zaG.j0.eq_2]
  cases b with
  | false=>rw [if_neg (by decide),if_neg (by decide)]
  | true=>
    rw [if_pos rfl,if_pos rfl,within_f,zay]
    unfold brest
    by_cases c1:0≤a8∧a8≤17
    · rw [if_pos (decide_eq_true c1),if_pos c1,pixelValid_f,zay]
      by_cases c2:pvalid a9 a10 a11 a12=true
      · rw [if_pos c2,if_pos c2,within_f,zay]
        by_cases c3:0≤a13∧a13≤1073741824
        · rw [if_pos (decide_eq_true c3),if_pos c3,dcheck_f k (by omega),zay]
        · rw [if_neg (by simpa using c3),if_neg c3]
      · rw [if_neg c2,if_neg c2]
    · rw [if_neg (by simpa using c1),if_neg c1]
theorem check_f (k:Nat) (hk:90≤k) (a0 a1 a2 a3 a4 a5 a6 a7 a8 a9 a10 a11 a12 a13:Int) (l:List S120) (e:Bool) :
    zaG.f k a0 a1 a2 a3 a4 a5 a6 a7 a8 a9 a10 a11 a12 a13 l e=some (bcheck a0 a1 a2 a3 a4 a5 a6 a7 a8 a9 a10 a11 a12 a13 l):=by
  unfold zaG.f bcheck
  have bad (h : ¬ branges a0 a1 a2 a3 a4 a5 a6 a7):zaG.j0 k false a0 a1 a2 a3 a4 a5 a6 a7 a8 a9 a10 a11 a12 a13 l e=some (if branges a0 a1 a2 a3 a4 a5 a6 a7 then brest a8 a9 a10 a11 a12 a13 l else 2):=by
    rw [check_j0 k hk,if_neg h];exact congrArg some (if_neg (by decide))
  rw [within_f,zay]
  by_cases c0:1≤a0∧a0≤1024
  · rw [if_pos (decide_eq_true c0),dabUnit_f,zay]
    by_cases c1:0≤a1∧a1≤65535
    · rw [if_pos (decide_eq_true c1),dabUnit_f,zay]
      by_cases c3:0≤a3∧a3≤65535
      · rw [if_pos (decide_eq_true c3),dabUnit_f,zay]
        by_cases c4:0≤a4∧a4≤65535
        · rw [if_pos (decide_eq_true c4),within_f,zay]
          by_cases c2:4096≤a2∧a2≤65535
          · rw [if_pos (decide_eq_true c2),within_f,zay]
            by_cases c5:1≤a5∧a5≤1000
            · rw [if_pos (decide_eq_true c5),within_f,zay]
              by_cases c6:0≤a6∧a6≤65535
              · rw [if_pos (decide_eq_true c6),within_f,zay,check_j0 k hk]
                by_cases c7:0≤a7∧a7≤1000
                · rw [if_pos (decide_eq_true c7),if_pos (show branges a0 a1 a2 a3 a4 a5 a6 a7 from ⟨c0,c1,c3,c4,c2,c5,c6,c7⟩)]
                · rw [if_neg (by simpa using c7),if_neg (fun h=>c7 h.2.2.2.2.2.2.2)]
              · rw [if_neg (by simpa using c6)];exact bad (fun h=>c6 h.2.2.2.2.2.2.1)
            · rw [if_neg (by simpa using c5)];exact bad (fun h=>c5 h.2.2.2.2.2.1)
          · rw [if_neg (by simpa using c2)];exact bad (fun h=>c2 h.2.2.2.2.1)
        · rw [if_neg (by simpa using c4)];exact bad (fun h=>c4 h.2.2.2.1)
      · rw [if_neg (by simpa using c3)];exact bad (fun h=>c3 h.2.2.1)
    · rw [if_neg (by simpa using c1)];exact bad (fun h=>c1 h.2.1)
  · rw [if_neg (by simpa using c0)];exact bad (fun h=>c0 h.1)
theorem refCheck_j1 (k:Nat) (hk:90≤k) (b:Bool) (a0 a1 a2 a3 a4 a5 a6 a7 a8 a9 a10 a11 a12 a13:Int) (l:List S120) (e:Bool) :
    zal.j1 k b a0 a1 a2 a3 a4 a5 a6 a7 a8 a9 a10 a11 a12 a13 l e=some (if b=true then 2 else brest a8 a9 a10 a11 a12 a13 l):=by
  obtain ⟨k,rfl⟩ : ∃ m,k=m+1:=⟨k - 1,by omega⟩
  rw [zal.j1.eq_2]
  cases b with
  | true=>rw [if_pos rfl,if_pos rfl]
  | false=>
    rw [if_neg (by decide),if_neg (by decide),refIn_f,zay]
    unfold brest
    by_cases c1:0≤a8∧a8≤17
    · rw [if_pos (decide_eq_true c1),if_pos c1,refValid_f,zay]
      by_cases c2:pvalid a9 a10 a11 a12=true
      · rw [if_pos c2,if_pos c2,refIn_f,zay]
        by_cases c3:0≤a13∧a13≤1073741824
        · rw [if_pos (decide_eq_true c3),if_pos c3,refDcheck_f k (by omega),zay]
        · rw [if_neg (by simpa using c3),if_neg c3]
      · rw [if_neg c2,if_neg c2]
    · rw [if_neg (by simpa using c1),if_neg c1]
theorem refCheck_j0 (k:Nat) (hk:91≤k) (b:Bool) (a0 a1 a2 a3 a4 a5 a6 a7 a8 a9 a10 a11 a12 a13:Int) (l:List S120) (e:Bool) :
    zal.j0 k b a0 a1 a2 a3 a4 a5 a6 a7 a8 a9 a10 a11 a12 a13 l e=some (if b=true then 2 else if (1≤a5∧a5≤1000)∧(0≤a6∧a6≤65535)∧(0≤a7∧a7≤1000) then brest a8 a9 a10 a11 a12 a13 l else 2):=by
  obtain ⟨k,rfl⟩ : ∃ m,k=m+1:=⟨k - 1,by omega⟩
  rw [zal.j0.eq_2]
  cases b with
  | true=>rw [if_pos rfl,if_pos rfl]
  | false=>
    rw [if_neg (by decide),if_neg (by decide),refIn_f,zay]
    by_cases c5:1≤a5∧a5≤1000
    · rw [if_pos (decide_eq_true c5),refIn_f,zay]
      by_cases c6:0≤a6∧a6≤65535
      · rw [if_pos (decide_eq_true c6),refIn_f,zay,refCheck_j1 k (by omega)]
        by_cases c7:0≤a7∧a7≤1000
        · rw [decide_eq_true c7,if_neg (by decide),if_pos ⟨c5,c6,c7⟩]
        · rw [decide_eq_false c7,if_pos (by decide),if_neg (fun h=>c7 h.2.2)]
      · rw [if_neg (by simpa using c6),refCheck_j1 k (by omega),if_pos rfl,if_neg (fun h=>c6 h.2.1)]
    · rw [if_neg (by simpa using c5),refCheck_j1 k (by omega),if_pos rfl,if_neg (fun h=>c5 h.1)]
theorem refCheck_f (k:Nat) (hk:91≤k) (a0 a1 a2 a3 a4 a5 a6 a7 a8 a9 a10 a11 a12 a13:Int) (l:List S120) (e:Bool) :
    zal.f k a0 a1 a2 a3 a4 a5 a6 a7 a8 a9 a10 a11 a12 a13 l e=some (bcheck a0 a1 a2 a3 a4 a5 a6 a7 a8 a9 a10 a11 a12 a13 l):=by
  unfold zal.f bcheck
  have bad (h : ¬ branges a0 a1 a2 a3 a4 a5 a6 a7):zal.j0 k true a0 a1 a2 a3 a4 a5 a6 a7 a8 a9 a10 a11 a12 a13 l e=some (if branges a0 a1 a2 a3 a4 a5 a6 a7 then brest a8 a9 a10 a11 a12 a13 l else 2):=by
    rw [refCheck_j0 k hk,if_neg h];exact congrArg some (if_pos rfl)
  rw [refIn_f,zay]
  by_cases c0:1≤a0∧a0≤1024
  · rw [if_pos (decide_eq_true c0),refIn_f,zay]
    by_cases c1:0≤a1∧a1≤65535
    · rw [if_pos (decide_eq_true c1),refIn_f,zay]
      by_cases c3:0≤a3∧a3≤65535
      · rw [if_pos (decide_eq_true c3),refIn_f,zay]
        by_cases c4:0≤a4∧a4≤65535
        · rw [if_pos (decide_eq_true c4),refIn_f,zay,refCheck_j0 k hk]
          by_cases c2:4096≤a2∧a2≤65535
          · rw [decide_eq_true c2,if_neg (by decide)]
            by_cases c:(1≤a5∧a5≤1000)∧(0≤a6∧a6≤65535)∧(0≤a7∧a7≤1000)
            · rw [if_pos c,if_pos (show branges a0 a1 a2 a3 a4 a5 a6 a7 from ⟨c0,c1,c3,c4,c2,c.1,c.2.1,c.2.2⟩)]
            · rw [if_neg c,if_neg (fun h=>c h.2.2.2.2.2)]
          · rw [decide_eq_false c2,if_pos (by decide),if_neg (fun h=>c2 h.2.2.2.2.1)]
        · rw [if_neg (by simpa using c4)];exact bad (fun h=>c4 h.2.2.2.1)
      · rw [if_neg (by simpa using c3)];exact bad (fun h=>c3 h.2.2.1)
    · rw [if_neg (by simpa using c1)];exact bad (fun h=>c1 h.2.1)
  · rw [if_neg (by simpa using c0)];exact bad (fun h=>c0 h.1)
def clC (x:Int):Int:=mn 1048576 (mx x (-1048576))
def clS (x:Int):Int:=mn 1024 (mx x 0)
theorem clC_bd (x:Int) : -1048576≤clC x∧clC x≤1048576:=by unfold clC mn mx;(repeat' split) <;> omega
theorem clS_bd (x:Int):0≤clS x∧clS x≤1024:=by unfold clS mn mx;(repeat' split) <;> omega
theorem turned_f (a:Int) (h : -9223372036854775808≤a∧a<9223372036854775808):zbs.f a=some (a % 65536):=by
  unfold zbs.f
  by_cases ha:0≤a
  · obtain ⟨_,e⟩:=tdiv_pos a 65536 (by omega) ha
    rw [e,if_neg (by omega)]
  · obtain ⟨e1,e2⟩:=tdiv_neg a 65536 (by omega) (by omega)
    by_cases hz:a % 65536=0
    · rw [(e1 hz).2,if_neg (by omega),hz]
    · rw [(e2 hz).2,if_pos (by omega),w64 (by omega) (by omega)]
      congr 1
      omega
theorem floor16_f (a:Int) (h : -9223372036854775808≤a∧a<9223372036854775808):zbR.f a 65536=some (a / 65536):=by
  unfold zbR.f
  rw [if_neg (by omega),if_neg (by omega)]
  by_cases ha:0≤a
  · obtain ⟨e1,e2⟩:=tdiv_pos a 65536 (by omega) ha
    rw [e1,e2,w64 (by omega) (by omega)]
    by_cases hz:a % 65536=0
    · rw [if_pos hz]
    · rw [if_neg hz,if_neg (by simp [decide_eq_false (show ¬ a<0 by omega)])]
  · obtain ⟨e1,e2⟩:=tdiv_neg a 65536 (by omega) (by omega)
    by_cases hz:a % 65536=0
    · rw [(e1 hz).2,(e1 hz).1,if_pos rfl,w64 (by omega) (by omega)]
    · rw [(e2 hz).2,(e2 hz).1,if_neg (by omega),if_pos (by simp [decide_eq_true (show a<0 by omega)]),w64 (n:=a / 65536+1) (by omega) (by omega),w64 (by omega) (by omega)]
      congr 1
      omega
theorem limited_f (x y s f a:Int) (h : -9223372036854775808≤a∧a<9223372036854775808):zbW.f x y s f a=some (clP x,clP y,clS s,uni f,a % 65536):=by
  unfold zbW.f
  rw [clamp_f,zay,clamp_f,zay,clamp_f,zay,clamp_f,zay,floor16_f a h,zay,w64 (n:=a / 65536*65536) (by omega) (by omega),w64 (by omega) (by omega),show a - a / 65536*65536=a % 65536 by omega]
  rfl
theorem refDabLimit_f (x y s f a:Int) (h : -9223372036854775808≤a∧a<9223372036854775808):za0.f x y s f a=some (clP x,clP y,clS s,uni f,a % 65536):=by
  unfold za0.f
  rw [zcm,zay,zcm,zay,zcm,zay,ref06U_f,zay,turned_f a h,zay]
  rfl
def bbox (x y s:Int):Int×Int×Int×Int:=
  let h:=(clS s+1) / 2
  let x0:=clC ((clP x - h) / 16)
  let y0:=clC ((clP y - h) / 16)
  let x1:=clC ((clP x+h) / 16+1)
  let y1:=clC ((clP y+h) / 16+1)
  if x1≤x0 then (0,0,0,0) else if y1≤y0 then (0,0,0,0) else (x0,y0,x1 - x0,y1 - y0)
theorem box1_f (a:Int) (h : -100000000≤a∧a≤100000000):zca.f a=some (clC (a / 16)):=by
  unfold zca.f
  rw [floor_f a 16 (by omega) (by omega) (by omega),zay,clamp_f,zay]
  rfl
theorem box2_f (a:Int) (h : -16777728≤a∧a≤16777728):zbw.f a=some (mn (a / 16+1) 1048576):=by
  unfold zbw.f
  rw [floor_f a 16 (by omega) (by omega) (by omega),zay,w64 (by omega) (by omega)]
theorem half_f (s:Int):wrap64 (Int.tdiv (wrap64 (clS s+1)) 2)=(clS s+1) / 2:=by
  have:=clS_bd s
  rw [w64 (n:=clS s+1) (by omega) (by omega),(tdiv_pos (clS s+1) 2 (by omega) (by omega)).1,w64 (by omega) (by omega)]
theorem box_f (x y s f a:Int) (h : -9223372036854775808≤a∧a<9223372036854775808):zbO.f x y s f a=some (bbox x y s):=by
  have hs:=clS_bd s
  have hx:=clP_bd x
  have hy:=clP_bd y
  unfold zbO.f
  rw [limited_f x y s f a h,zay]
  dsimp only
  rw [half_f,w64 (n:=clP x - _) (by omega) (by omega),w64 (n:=clP y - _) (by omega) (by omega),w64 (n:=clP x+_) (by omega) (by omega),w64 (n:=clP y+_) (by omega) (by omega)]
  rw [box1_f _ (by omega),zay,box1_f _ (by omega),zay,box2_f _ (by omega),zay,box2_f _ (by omega),zay]
  unfold bbox
  dsimp only
  have mc (z:Int) (hz : -1048577≤z):mn (z+1) 1048576=clC (z+1):=by unfold clC mn mx;(repeat' split) <;> omega
  rw [mc _ (by omega),mc _ (by omega)]
  have b0:=clC_bd ((clP x - (clS s+1) / 2) / 16)
  have b1:=clC_bd ((clP y - (clS s+1) / 2) / 16)
  have b2:=clC_bd ((clP x+(clS s+1) / 2) / 16+1)
  have b3:=clC_bd ((clP y+(clS s+1) / 2) / 16+1)
  generalize clC ((clP x - (clS s+1) / 2) / 16)=x0 at *
  generalize clC ((clP y - (clS s+1) / 2) / 16)=y0 at *
  generalize clC ((clP x+(clS s+1) / 2) / 16+1)=x1 at *
  generalize clC ((clP y+(clS s+1) / 2) / 16+1)=y1 at *
  rw [w64 (n:=x1 - x0) (by omega) (by omega),w64 (n:=y1 - y0) (by omega) (by omega)]
  by_cases c1:x1≤x0
  · rw [if_pos (by omega),if_pos c1]
  · rw [if_neg (by omega),if_neg c1]
    by_cases c2:y1≤y0
    · rw [if_pos (by omega),if_pos c2]
    · rw [if_neg (by omega),if_neg c2]
theorem refBox_f (k:Nat) (hk:1≤k) (x y s f a:Int) (h : -9223372036854775808≤a∧a<9223372036854775808):zcf.f k x y s f a=some (bbox x y s):=by
  obtain ⟨k,rfl⟩ : ∃ m,k=m+1:=⟨k - 1,by omega⟩
  have hs:=clS_bd s
  have hx:=clP_bd x
  have hy:=clP_bd y
  unfold zcf.f
  rw [refDabLimit_f x y s f a h,zay]
  dsimp only
  rw [half_f,w64 (n:=clP x - _) (by omega) (by omega),w64 (n:=clP y - _) (by omega) (by omega),w64 (n:=clP x+_) (by omega) (by omega),w64 (n:=clP y+_) (by omega) (by omega)]
  rw [refFloor_f k _ 16 (by omega) (by omega) (by omega),zay,refFloor_f k _ 16 (by omega) (by omega) (by omega),zay,refFloor_f k _ 16 (by omega) (by omega) (by omega),zay,refFloor_f k _ 16 (by omega) (by omega) (by omega),zay]
  rw [zcm,zay,zcm,zay,zcm,zay,zcm,zay]
  rw [w64 (n:=(clP x+_) / 16+1) (by omega) (by omega),w64 (n:=(clP y+_) / 16+1) (by omega) (by omega)]
  unfold bbox
  dsimp only
  have fold (z:Int):mn 1048576 (mx z (-1048576))=clC z:=rfl
  rw [fold,fold,fold,fold]
  have b0:=clC_bd ((clP x - (clS s+1) / 2) / 16)
  have b1:=clC_bd ((clP y - (clS s+1) / 2) / 16)
  have b2:=clC_bd ((clP x+(clS s+1) / 2) / 16+1)
  have b3:=clC_bd ((clP y+(clS s+1) / 2) / 16+1)
  generalize clC ((clP x - (clS s+1) / 2) / 16)=x0 at *
  generalize clC ((clP y - (clS s+1) / 2) / 16)=y0 at *
  generalize clC ((clP x+(clS s+1) / 2) / 16+1)=x1 at *
  generalize clC ((clP y+(clS s+1) / 2) / 16+1)=y1 at *
  rw [w64 (n:=x1 - x0) (by omega) (by omega),w64 (n:=y1 - y0) (by omega) (by omega)]
  by_cases c1:x1≤x0
  · rw [if_pos c1,if_pos c1]
  · rw [if_neg c1,if_neg c1]
    by_cases c2:y1≤y0
    · rw [if_pos c2,if_pos c2]
    · rw [if_neg c2,if_neg c2]
end Go.Proofs.Ytlilncnoohfcdaa.Num
