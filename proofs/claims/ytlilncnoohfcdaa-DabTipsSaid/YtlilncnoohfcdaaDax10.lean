
import Derived.Test.YtlilncnoohfcdaaDax0
import Derived.Test.YtlilncnoohfcdaaDax2
import Derived.Test.YtlilncnoohfcdaaDax5
import Derived.Test.YtlilncnoohfcdaaDax6
import Derived.Test.YtlilncnoohfcdaaDax8
import Derived.Test.YtlilncnoohfcdaaDax9
namespace Go.Proofs.Ytlilncnoohfcdaa.Da
open Go.RowKit Go.Proofs.YtlilncnoohfcdaaW.PrintWords Go.Proofs.YtlilncnoohfcdaaW.PrintLast Go.Proofs.YtlilncnoohfcdaaW.PrintMore
attribute [local go_sem] max2_int min2_int zbo zbp zbc zbd zbj zbk   
set_option linter.unusedVariables false
set_option linter.unusedSimpArgs false
attribute [local go_sem high] eqA28
/-! ### dab_Tip: function 19 -/
mutual
def zax.j0:Nat→Bool→Int→Int→Int→Int→Int→Int→Int→Int→Int→Int→Int→Int→Int→Int→List (S120)→Bool→Int→Int→Int→Int→Int→Int→Int→Int→Int→Option (Int×Int×List Int×Int)
 | 0,_,_,_,_,_,_,_,_,_,_,_,_,_,_,_,_,_,_,_,_,_,_,_,_,_,_=>none
 | k+1,x27,x0g,x0h,x0i,x0j,x0k,x0l,x0m,x0n,x0o,x0p,x0q,x0r,x0s,x0t,x0u,x0v,x0w,x0x,x0y,x0z,x16,x02,x03,x00,x01=>if x27=true then (some (0,0,([]:List Int),2)) else (if x00 > 256 then (zax.j1 k true x0g x0h x0i x0j x0k x0l x0m x0n x0o x0p x0q x0r x0s x0t x0u x0v x0w x0x x0y x0z x16 x02 x03 x00 x01) else (zax.j1 k (decide (x01 > 256)) x0g x0h x0i x0j x0k x0l x0m x0n x0o x0p x0q x0r x0s x0t x0u x0v x0w x0x x0y x0z x16 x02 x03 x00 x01))
def zax.j1:Nat→Bool→Int→Int→Int→Int→Int→Int→Int→Int→Int→Int→Int→Int→Int→Int→List (S120)→Bool→Int→Int→Int→Int→Int→Int→Int→Int→Int→Option (Int×Int×List Int×Int)
 | 0,_,_,_,_,_,_,_,_,_,_,_,_,_,_,_,_,_,_,_,_,_,_,_,_,_,_=>none
 | k+1,x36,x0g,x0h,x0i,x0j,x0k,x0l,x0m,x0n,x0o,x0p,x0q,x0r,x0s,x0t,x0u,x0v,x0w,x0x,x0y,x0z,x16,x02,x03,x00,x01=>if x36=true then (some (0,0,([]:List Int),15)) else ((zbI.f x02 x03 x00 x01).bind fun t228=>(if t228=true then (some (0,0,([]:List Int),0)) else ((za4.f k x0g x0h x0i x0j x0k x0l x0m x0n x0o x0p x0q x0r x0s x0t x0u x0v x0w x0x x0y x0z x16).bind fun bt230=>(zax.l0 k x03 x02 x03 x00 x01 x00 x01 ([]:List Int) bt230.1 bt230.2.1 bt230.2.2.1 bt230.2.2.2.1 bt230.2.2.2.2.1 bt230.2.2.2.2.2.1 bt230.2.2.2.2.2.2.1 bt230.2.2.2.2.2.2.2.1 bt230.2.2.2.2.2.2.2.2))))
def zax.l0:Nat→Int→Int→Int→Int→Int→Int→Int→List Int→Int→Int→Int→Int→Int→Int→Int→Int→Int→Option (Int×Int×List Int×Int)
 | 0,_,_,_,_,_,_,_,_,_,_,_,_,_,_,_,_,_=>none
 | k+1,x11,x02,x03,x00,x01,x05,x06,x04,x07,x08,x09,x0a,x0b,x0c,x0d,x0e,x0f=>if x11<(wrap64 (x03+x01)) then (zax.l1 k x11 x02 x02 x03 x00 x01 x05 x06 x04 x07 x08 x09 x0a x0b x0c x0d x0e x0f) else (some (x05,x06,x04,0))
def zax.l1:Nat→Int→Int→Int→Int→Int→Int→Int→Int→List Int→Int→Int→Int→Int→Int→Int→Int→Int→Int→Option (Int×Int×List Int×Int)
 | 0,_,_,_,_,_,_,_,_,_,_,_,_,_,_,_,_,_,_=>none
 | k+1,x11,x12,x02,x03,x00,x01,x05,x06,x04,x07,x08,x09,x0a,x0b,x0c,x0d,x0e,x0f=>if x12<(wrap64 (x02+x00)) then ((zaQ.f k x07 x08 x09 x0a x0b x0c x0d x0e x0f x12 x11).bind fun t240=>(if x04.length<17592186044416 then (zax.l1 k x11 (wrap64 (x12+1)) x02 x03 x00 x01 x05 x06 (x04 ++ [t240]) x07 x08 x09 x0a x0b x0c x0d x0e x0f) else (none))) else (zax.l0 k (wrap64 (x11+1)) x02 x03 x00 x01 x05 x06 x04 x07 x08 x09 x0a x0b x0c x0d x0e x0f)
end
def zax.f (k:Nat) (a0_0:Int) (a0_1:Int) (a0_2:Int) (a0_3:Int) (a0_4:Int) (a0_5:Int) (a0_6:Int) (a0_7:Int) (a0_8:Int) (a0_9:Int) (a0_10:Int) (a0_11:Int) (a0_12:Int) (a0_13:Int) (l0_14:List (S120)) (a0_15:Bool) (a1_0:Int) (a1_1:Int) (a1_2:Int) (a1_3:Int) (a1_4:Int) (a2_0:Int) (a2_1:Int) (a2_2:Int) (a2_3:Int):Option (Int×Int×List Int×Int):=(zan.f k a0_0 a0_1 a0_2 a0_3 a0_4 a0_5 a0_6 a0_7 a0_8 a0_9 a0_10 a0_11 a0_12 a0_13 l0_14 a0_15).bind fun t221=>(if t221=0 then ((za3.f a1_0 a1_1 a1_2 a1_3 a1_4).bind fun bt222=>(if (!(a1_0==bt222.1)||(!(a1_1==bt222.2.1)||(!(a1_2==bt222.2.2.1)||(!(a1_3==bt222.2.2.2.1)||(!(a1_4==bt222.2.2.2.2))))))=true then (zax.j0 k true a0_0 a0_1 a0_2 a0_3 a0_4 a0_5 a0_6 a0_7 a0_8 a0_9 a0_10 a0_11 a0_12 a0_13 l0_14 a0_15 a1_0 a1_1 a1_2 a1_3 a1_4 a2_0 a2_1 a2_2 a2_3) else ((zbu.f a2_0 a2_1 a2_2 a2_3).bind fun t227=>(zax.j0 k (!t227) a0_0 a0_1 a0_2 a0_3 a0_4 a0_5 a0_6 a0_7 a0_8 a0_9 a0_10 a0_11 a0_12 a0_13 l0_14 a0_15 a1_0 a1_1 a1_2 a1_3 a1_4 a2_0 a2_1 a2_2 a2_3)))) else (some (0,0,([]:List Int),t221)))
theorem zax.mono_l : ∀ k,(∀ y0 y1 y2 y3 y4 y5 y6 y7 y8 y9 y10 y11 y12 y13 y14 y15 y16 y17 y18 y19 y20 y21 y22 y23 y24 y25,LeO (zax.j0 k y0 y1 y2 y3 y4 y5 y6 y7 y8 y9 y10 y11 y12 y13 y14 y15 y16 y17 y18 y19 y20 y21 y22 y23 y24 y25) (zax.j0 (k+1) y0 y1 y2 y3 y4 y5 y6 y7 y8 y9 y10 y11 y12 y13 y14 y15 y16 y17 y18 y19 y20 y21 y22 y23 y24 y25))∧(∀ y0 y1 y2 y3 y4 y5 y6 y7 y8 y9 y10 y11 y12 y13 y14 y15 y16 y17 y18 y19 y20 y21 y22 y23 y24 y25,LeO (zax.j1 k y0 y1 y2 y3 y4 y5 y6 y7 y8 y9 y10 y11 y12 y13 y14 y15 y16 y17 y18 y19 y20 y21 y22 y23 y24 y25) (zax.j1 (k+1) y0 y1 y2 y3 y4 y5 y6 y7 y8 y9 y10 y11 y12 y13 y14 y15 y16 y17 y18 y19 y20 y21 y22 y23 y24 y25))∧(∀ y0 y1 y2 y3 y4 y5 y6 y7 y8 y9 y10 y11 y12 y13 y14 y15 y16,LeO (zax.l0 k y0 y1 y2 y3 y4 y5 y6 y7 y8 y9 y10 y11 y12 y13 y14 y15 y16) (zax.l0 (k+1) y0 y1 y2 y3 y4 y5 y6 y7 y8 y9 y10 y11 y12 y13 y14 y15 y16))∧(∀ y0 y1 y2 y3 y4 y5 y6 y7 y8 y9 y10 y11 y12 y13 y14 y15 y16 y17,LeO (zax.l1 k y0 y1 y2 y3 y4 y5 y6 y7 y8 y9 y10 y11 y12 y13 y14 y15 y16 y17) (zax.l1 (k+1) y0 y1 y2 y3 y4 y5 y6 y7 y8 y9 y10 y11 y12 y13 y14 y15 y16 y17))
 | 0=>⟨fun _ _ _ _ _ _ _ _ _ _ _ _ _ _ _ _ _ _ _ _ _ _ _ _ _ _ r h=>by simp [zax.j0] at h,fun _ _ _ _ _ _ _ _ _ _ _ _ _ _ _ _ _ _ _ _ _ _ _ _ _ _ r h=>by simp [zax.j1] at h,fun _ _ _ _ _ _ _ _ _ _ _ _ _ _ _ _ _ r h=>by simp [zax.l0] at h,fun _ _ _ _ _ _ _ _ _ _ _ _ _ _ _ _ _ _ r h=>by simp [zax.l1] at h⟩
 | k+1=>by
  obtain ⟨ih0,ih1,ih2,ih3⟩:=zax.mono_l k
  refine ⟨?_,?_,?_,?_⟩
  ·intro y0 y1 y2 y3 y4 y5 y6 y7 y8 y9 y10 y11 y12 y13 y14 y15 y16 y17 y18 y19 y20 y21 y22 y23 y24 y25
   unfold zax.j0
   repeat' first
   | (with_reducible exact ih0 _ _ _ _ _ _ _ _ _ _ _ _ _ _ _ _ _ _ _ _ _ _ _ _ _ _)
   | (with_reducible exact ih1 _ _ _ _ _ _ _ _ _ _ _ _ _ _ _ _ _ _ _ _ _ _ _ _ _ _)
   | (with_reducible exact ih2 _ _ _ _ _ _ _ _ _ _ _ _ _ _ _ _ _)
   | (with_reducible exact ih3 _ _ _ _ _ _ _ _ _ _ _ _ _ _ _ _ _ _)
   | (with_reducible exact zan.mono _ _ _ _ _ _ _ _ _ _ _ _ _ _ _ _ _)
   | (with_reducible exact za4.mono _ _ _ _ _ _ _ _ _ _ _ _ _ _ _ _ _ _ _ _ _ _)
   | (with_reducible exact zaQ.mono _ _ _ _ _ _ _ _ _ _ _ _)
   | (with_reducible exact LeO.refl _)
   | (with_reducible exact LeO.none _)
   | (with_reducible refine LeO.ite ?_ ?_)
   | (with_reducible refine LeO.bind ?_ (fun _=>?_))
   | exact ih0 _ _ _ _ _ _ _ _ _ _ _ _ _ _ _ _ _ _ _ _ _ _ _ _ _ _
   | exact ih1 _ _ _ _ _ _ _ _ _ _ _ _ _ _ _ _ _ _ _ _ _ _ _ _ _ _
   | exact ih2 _ _ _ _ _ _ _ _ _ _ _ _ _ _ _ _ _
   | exact ih3 _ _ _ _ _ _ _ _ _ _ _ _ _ _ _ _ _ _
   | exact zan.mono _ _ _ _ _ _ _ _ _ _ _ _ _ _ _ _ _
   | exact za4.mono _ _ _ _ _ _ _ _ _ _ _ _ _ _ _ _ _ _ _ _ _ _
   | exact zaQ.mono _ _ _ _ _ _ _ _ _ _ _ _
   | exact LeO.none _
   | refine LeO.ite ?_ ?_
   | refine LeO.bind ?_ (fun _=>?_)
  ·intro y0 y1 y2 y3 y4 y5 y6 y7 y8 y9 y10 y11 y12 y13 y14 y15 y16 y17 y18 y19 y20 y21 y22 y23 y24 y25
   unfold zax.j1
   repeat' first
   | (with_reducible exact ih0 _ _ _ _ _ _ _ _ _ _ _ _ _ _ _ _ _ _ _ _ _ _ _ _ _ _)
   | (with_reducible exact ih1 _ _ _ _ _ _ _ _ _ _ _ _ _ _ _ _ _ _ _ _ _ _ _ _ _ _)
   | (with_reducible exact ih2 _ _ _ _ _ _ _ _ _ _ _ _ _ _ _ _ _)
   | (with_reducible exact ih3 _ _ _ _ _ _ _ _ _ _ _ _ _ _ _ _ _ _)
   | (with_reducible exact zan.mono _ _ _ _ _ _ _ _ _ _ _ _ _ _ _ _ _)
   | (with_reducible exact za4.mono _ _ _ _ _ _ _ _ _ _ _ _ _ _ _ _ _ _ _ _ _ _)
   | (with_reducible exact zaQ.mono _ _ _ _ _ _ _ _ _ _ _ _)
   | (with_reducible exact LeO.refl _)
   | (with_reducible exact LeO.none _)
   | (with_reducible refine LeO.ite ?_ ?_)
   | (with_reducible refine LeO.bind ?_ (fun _=>?_))
   | exact ih0 _ _ _ _ _ _ _ _ _ _ _ _ _ _ _ _ _ _ _ _ _ _ _ _ _ _
   | exact ih1 _ _ _ _ _ _ _ _ _ _ _ _ _ _ _ _ _ _ _ _ _ _ _ _ _ _
   | exact ih2 _ _ _ _ _ _ _ _ _ _ _ _ _ _ _ _ _
   | exact ih3 _ _ _ _ _ _ _ _ _ _ _ _ _ _ _ _ _ _
   | exact zan.mono _ _ _ _ _ _ _ _ _ _ _ _ _ _ _ _ _
   | exact za4.mono _ _ _ _ _ _ _ _ _ _ _ _ _ _ _ _ _ _ _ _ _ _
   | exact zaQ.mono _ _ _ _ _ _ _ _ _ _ _ _
   | exact LeO.none _
   | refine LeO.ite ?_ ?_
   | refine LeO.bind ?_ (fun _=>?_)
  ·intro y0 y1 y2 y3 y4 y5 y6 y7 y8 y9 y10 y11 y12 y13 y14 y15 y16
   unfold zax.l0
   repeat' first
   | (with_reducible exact ih0 _ _ _ _ _ _ _ _ _ _ _ _ _ _ _ _ _ _ _ _ _ _ _ _ _ _)
   | (with_reducible exact ih1 _ _ _ _ _ _ _ _ _ _ _ _ _ _ _ _ _ _ _ _ _ _ _ _ _ _)
   | (with_reducible exact ih2 _ _ _ _ _ _ _ _ _ _ _ _ _ _ _ _ _)
   | (with_reducible exact ih3 _ _ _ _ _ _ _ _ _ _ _ _ _ _ _ _ _ _)
   | (with_reducible exact zan.mono _ _ _ _ _ _ _ _ _ _ _ _ _ _ _ _ _)
   | (with_reducible exact za4.mono _ _ _ _ _ _ _ _ _ _ _ _ _ _ _ _ _ _ _ _ _ _)
   | (with_reducible exact zaQ.mono _ _ _ _ _ _ _ _ _ _ _ _)
   | (with_reducible exact LeO.refl _)
   | (with_reducible exact LeO.none _)
   | (with_reducible refine LeO.ite ?_ ?_)
   | (with_reducible refine LeO.bind ?_ (fun _=>?_))
   | exact ih0 _ _ _ _ _ _ _ _ _ _ _ _ _ _ _ _ _ _ _ _ _ _ _ _ _ _
   | exact ih1 _ _ _ _ _ _ _ _ _ _ _ _ _ _ _ _ _ _ _ _ _ _ _ _ _ _
   | exact ih2 _ _ _ _ _ _ _ _ _ _ _ _ _ _ _ _ _
   | exact ih3 _ _ _ _ _ _ _ _ _ _ _ _ _ _ _ _ _ _
   | exact zan.mono _ _ _ _ _ _ _ _ _ _ _ _ _ _ _ _ _
   | exact za4.mono _ _ _ _ _ _ _ _ _ _ _ _ _ _ _ _ _ _ _ _ _ _
   | exact zaQ.mono _ _ _ _ _ _ _ _ _ _ _ _
   | exact LeO.none _
   | refine LeO.ite ?_ ?_
   | refine LeO.bind ?_ (fun _=>?_)
  ·intro y0 y1 y2 y3 y4 y5 y6 y7 y8 y9 y10 y11 y12 y13 y14 y15 y16 y17
   unfold zax.l1
   repeat' first
   | (with_reducible exact ih0 _ _ _ _ _ _ _ _ _ _ _ _ _ _ _ _ _ _ _ _ _ _ _ _ _ _)
   | (with_reducible exact ih1 _ _ _ _ _ _ _ _ _ _ _ _ _ _ _ _ _ _ _ _ _ _ _ _ _ _)
   | (with_reducible exact ih2 _ _ _ _ _ _ _ _ _ _ _ _ _ _ _ _ _)
   | (with_reducible exact ih3 _ _ _ _ _ _ _ _ _ _ _ _ _ _ _ _ _ _)
   | (with_reducible exact zan.mono _ _ _ _ _ _ _ _ _ _ _ _ _ _ _ _ _)
   | (with_reducible exact za4.mono _ _ _ _ _ _ _ _ _ _ _ _ _ _ _ _ _ _ _ _ _ _)
   | (with_reducible exact zaQ.mono _ _ _ _ _ _ _ _ _ _ _ _)
   | (with_reducible exact LeO.refl _)
   | (with_reducible exact LeO.none _)
   | (with_reducible refine LeO.ite ?_ ?_)
   | (with_reducible refine LeO.bind ?_ (fun _=>?_))
   | exact ih0 _ _ _ _ _ _ _ _ _ _ _ _ _ _ _ _ _ _ _ _ _ _ _ _ _ _
   | exact ih1 _ _ _ _ _ _ _ _ _ _ _ _ _ _ _ _ _ _ _ _ _ _ _ _ _ _
   | exact ih2 _ _ _ _ _ _ _ _ _ _ _ _ _ _ _ _ _
   | exact ih3 _ _ _ _ _ _ _ _ _ _ _ _ _ _ _ _ _ _
   | exact zan.mono _ _ _ _ _ _ _ _ _ _ _ _ _ _ _ _ _
   | exact za4.mono _ _ _ _ _ _ _ _ _ _ _ _ _ _ _ _ _ _ _ _ _ _
   | exact zaQ.mono _ _ _ _ _ _ _ _ _ _ _ _
   | exact LeO.none _
   | refine LeO.ite ?_ ?_
   | refine LeO.bind ?_ (fun _=>?_)
theorem zax.mono : ∀ a0 a1 a2 a3 a4 a5 a6 a7 a8 a9 a10 a11 a12 a13 a14 a15 a16 a17 a18 a19 a20 a21 a22 a23 a24 k,LeO (zax.f k a0 a1 a2 a3 a4 a5 a6 a7 a8 a9 a10 a11 a12 a13 a14 a15 a16 a17 a18 a19 a20 a21 a22 a23 a24) (zax.f (k+1) a0 a1 a2 a3 a4 a5 a6 a7 a8 a9 a10 a11 a12 a13 a14 a15 a16 a17 a18 a19 a20 a21 a22 a23 a24):=by
 intro a0 a1 a2 a3 a4 a5 a6 a7 a8 a9 a10 a11 a12 a13 a14 a15 a16 a17 a18 a19 a20 a21 a22 a23 a24 k
 obtain ⟨ih0,ih1,ih2,ih3⟩:=zax.mono_l k
 unfold zax.f
 repeat' first
  | (with_reducible exact ih0 _ _ _ _ _ _ _ _ _ _ _ _ _ _ _ _ _ _ _ _ _ _ _ _ _ _)
  | (with_reducible exact ih1 _ _ _ _ _ _ _ _ _ _ _ _ _ _ _ _ _ _ _ _ _ _ _ _ _ _)
  | (with_reducible exact ih2 _ _ _ _ _ _ _ _ _ _ _ _ _ _ _ _ _)
  | (with_reducible exact ih3 _ _ _ _ _ _ _ _ _ _ _ _ _ _ _ _ _ _)
  | (with_reducible exact zan.mono _ _ _ _ _ _ _ _ _ _ _ _ _ _ _ _ _)
  | (with_reducible exact za4.mono _ _ _ _ _ _ _ _ _ _ _ _ _ _ _ _ _ _ _ _ _ _)
  | (with_reducible exact zaQ.mono _ _ _ _ _ _ _ _ _ _ _ _)
  | (with_reducible exact LeO.refl _)
  | (with_reducible exact LeO.none _)
  | (with_reducible refine LeO.ite ?_ ?_)
  | (with_reducible refine LeO.bind ?_ (fun _=>?_))
  | exact ih0 _ _ _ _ _ _ _ _ _ _ _ _ _ _ _ _ _ _ _ _ _ _ _ _ _ _
  | exact ih1 _ _ _ _ _ _ _ _ _ _ _ _ _ _ _ _ _ _ _ _ _ _ _ _ _ _
  | exact ih2 _ _ _ _ _ _ _ _ _ _ _ _ _ _ _ _ _
  | exact ih3 _ _ _ _ _ _ _ _ _ _ _ _ _ _ _ _ _ _
  | exact zan.mono _ _ _ _ _ _ _ _ _ _ _ _ _ _ _ _ _
  | exact za4.mono _ _ _ _ _ _ _ _ _ _ _ _ _ _ _ _ _ _ _ _ _ _
  | exact zaQ.mono _ _ _ _ _ _ _ _ _ _ _ _
  | exact LeO.none _
  | refine LeO.ite ?_ ?_
  | refine LeO.bind ?_ (fun _=>?_)
def zax.T4:Bool×List (List Nat×List Nat):=(true,[([],[]),([],[]),([1],[1]),([0,2],[0,2]),([3,2],[3]),([4],[4]),([5,4,4],[4,5]),([6,4],[4,6]),([4,7],[4,7])])
def zax.B4:List Nat:=[0,0,2,7,15,31,63,127,255]
theorem zax.tab4:rtab .any (opsOf Try.f19 4)=zax.T4:=by kernel_rfl
theorem zax.bits4:waitsOk zax.T4.2 zax.B4=true:=by kernel_rfl
def zax.T18:Bool×List (List Nat×List Nat):=(true,[([],[]),([0],[0]),([],[]),([],[]),([],[]),([2,3,4],[2,3,4]),([5],[5]),([1,6,5],[1,6]),([0,1,2,3,4,5,6,7],[]),([8,7,7,0,1,2,3,4,5,6,7],[7,8])])
def zax.B18:List Nat:=[0,1,0,0,0,28,60,127,255,511]
theorem zax.tab18:rtab .any (opsOf Try.f19 18)=zax.T18:=by kernel_rfl
theorem zax.bits18:waitsOk zax.T18.2 zax.B18=true:=by kernel_rfl
set_option maxHeartbeats 8000000 in
set_option maxRecDepth 100000 in
theorem zax.calls (k:Nat) (a0_0:Int) (a0_1:Int) (a0_2:Int) (a0_3:Int) (a0_4:Int) (a0_5:Int) (a0_6:Int) (a0_7:Int) (a0_8:Int) (a0_9:Int) (a0_10:Int) (a0_11:Int) (a0_12:Int) (a0_13:Int) (A0_14:Option Addr) (c0_14:Nat) (l0_14:List (S120)) (a0_15:Bool) (a1_0:Int) (a1_1:Int) (a1_2:Int) (a1_3:Int) (a1_4:Int) (a2_0:Int) (a2_1:Int) (a2_2:Int) (a2_3:Int) (r1:Int) (r2:Int) (r3:List Int) (r4:Int) (w:World) (hr0_14:Kd.C k120 w A0_14 l0_14.length l0_14) (hc0_14:l0_14.length≤c0_14) (h:zax.f k a0_0 a0_1 a0_2 a0_3 a0_4 a0_5 a0_6 a0_7 a0_8 a0_9 a0_10 a0_11 a0_12 a0_13 l0_14 a0_15 a1_0 a1_1 a1_2 a1_3 a1_4 a2_0 a2_1 a2_2 a2_3=some (r1,r2,r3,r4)) :
 Calls Try.prog 19 #[.agg #[.int .i64 a0_0,.int .i64 a0_1,.int .i64 a0_2,.int .i64 a0_3,.int .i64 a0_4,.int .i64 a0_5,.int .i64 a0_6,.int .i64 a0_7,.int .i64 a0_8,.int .i64 a0_9,.int .i64 a0_10,.int .i64 a0_11,.int .i64 a0_12,.int .i64 a0_13,.slice A0_14 l0_14.length c0_14,.bool a0_15],.agg #[.int .i64 a1_0,.int .i64 a1_1,.int .i64 a1_2,.int .i64 a1_3,.int .i64 a1_4],.agg #[.int .i64 a2_0,.int .i64 a2_1,.int .i64 a2_2,.int .i64 a2_3]] w fun e w'=>∃ v2_:Value,e = .returned (.tuple #[.agg #[.int .i64 r1,.int .i64 r2,v2_],.int .i64 r4])∧Kd.R (Kd.int .i64) 3 w' w.heap.size (fun _=>True) v2_ r3∧Below w.heap.size w w':=by
 have hu26:=Try.underlying26
 have hu28:=Try.underlying28
 have hu32:=Try.underlying32
 have hu38:=Try.underlying38
 have hu88:=Try.underlying88
 have HR0_14:=Aside0.mk hr0_14
 have HC0_14:=Aside0.mk hc0_14
 clear hr0_14 hc0_14
 have HB:=Aside0.mk (Below.refl w.heap.size w)
 have H:((zan.f k a0_0 a0_1 a0_2 a0_3 a0_4 a0_5 a0_6 a0_7 a0_8 a0_9 a0_10 a0_11 a0_12 a0_13 l0_14 a0_15).bind fun t221=>(if t221=0 then ((za3.f a1_0 a1_1 a1_2 a1_3 a1_4).bind fun bt222=>(if (!(a1_0==bt222.1)||(!(a1_1==bt222.2.1)||(!(a1_2==bt222.2.2.1)||(!(a1_3==bt222.2.2.2.1)||(!(a1_4==bt222.2.2.2.2))))))=true then (zax.j0 k true a0_0 a0_1 a0_2 a0_3 a0_4 a0_5 a0_6 a0_7 a0_8 a0_9 a0_10 a0_11 a0_12 a0_13 l0_14 a0_15 a1_0 a1_1 a1_2 a1_3 a1_4 a2_0 a2_1 a2_2 a2_3) else ((zbu.f a2_0 a2_1 a2_2 a2_3).bind fun t227=>(zax.j0 k (!t227) a0_0 a0_1 a0_2 a0_3 a0_4 a0_5 a0_6 a0_7 a0_8 a0_9 a0_10 a0_11 a0_12 a0_13 l0_14 a0_15 a1_0 a1_1 a1_2 a1_3 a1_4 a2_0 a2_1 a2_2 a2_3)))) else (some (0,0,([]:List Int),t221))))=some (r1,r2,r3,r4):=h
 clear h
 replace H:=Option.bind_eq_some_iff.mp H
 obtain ⟨t221,A40,H⟩:=H
 replace H:(if t221=0 then ((za3.f a1_0 a1_1 a1_2 a1_3 a1_4).bind fun bt222=>(if (!(a1_0==bt222.1)||(!(a1_1==bt222.2.1)||(!(a1_2==bt222.2.2.1)||(!(a1_3==bt222.2.2.2.1)||(!(a1_4==bt222.2.2.2.2))))))=true then (zax.j0 k true a0_0 a0_1 a0_2 a0_3 a0_4 a0_5 a0_6 a0_7 a0_8 a0_9 a0_10 a0_11 a0_12 a0_13 l0_14 a0_15 a1_0 a1_1 a1_2 a1_3 a1_4 a2_0 a2_1 a2_2 a2_3) else ((zbu.f a2_0 a2_1 a2_2 a2_3).bind fun t227=>(zax.j0 k (!t227) a0_0 a0_1 a0_2 a0_3 a0_4 a0_5 a0_6 a0_7 a0_8 a0_9 a0_10 a0_11 a0_12 a0_13 l0_14 a0_15 a1_0 a1_1 a1_2 a1_3 a1_4 a2_0 a2_1 a2_2 a2_3)))) else (some (0,0,([]:List Int),t221)))=some (r1,r2,r3,r4):=H
 have A4:=Aside0.mk A40
 clear A40
 by_cases c5:t221=0
 ·rw [if_pos c5] at H
  have c5b0:(t221==0)=true:=beq_iff_eq.mpr c5
  have c5b1:(t221 != 0)=false:=bne_eq_false_iff_eq.mpr c5
  clear c5
  have HC6:=Aside0.mk H
  clear H
  go_enter Try.func19,Try.ntmps19
  go_upto_region 4 with (first|((with_reducible refine zaA (N:=3) rfl ?_);refine zav ?hg (N:=3) ?hd (cs:=#[.int .i64 a0_0,.int .i64 a0_1,.int .i64 a0_2,.int .i64 a0_3,.int .i64 a0_4,.int .i64 a0_5,.int .i64 a0_6,.int .i64 a0_7,.int .i64 a0_8,.int .i64 a0_9,.int .i64 a0_10,.int .i64 a0_11,.int .i64 a0_12,.int .i64 a0_13,.slice A0_14 l0_14.length c0_14,.bool a0_15]) (t:=26) ?hr ?_;(case hd=>rfl);(case hg=>rfl);(case hr=>first|(go_simp;done)|(go_simp;rfl));intro gb217 hg w7 hbox hb;have n0_:=Aside0.mk (zad (zL HB.out) hb);have n1_:=Aside0.mk (hbox);have n2_:=Aside0.mk ((zS hg (zL HB.out):w.heap.size≤gb217));have n3_:=Aside0.mk ((zS hg (zL HB.out):w.heap.size≤gb217));clear HB;have HB:=n0_;have BK217:=n1_;have GW217:=n2_;have GE217:=n3_;clear n0_ n1_ n2_ n3_;clear hb hbox hg)|((with_reducible refine zaA (N:=4) rfl ?_);refine zav ?hg (N:=4) ?hd (cs:=#[.int .i64 a1_0,.int .i64 a1_1,.int .i64 a1_2,.int .i64 a1_3,.int .i64 a1_4]) (t:=28) ?hr ?_;(case hd=>rfl);(case hg=>rfl);(case hr=>first|(go_simp;done)|(go_simp;rfl));intro gb218 hg w8 hbox hb;have n0_:=Aside0.mk (zaa (zB BK217.out) hb);have n1_:=Aside0.mk (zad (zL1 HB.out GE217.out) hb);have n2_:=Aside0.mk (hbox);have n3_:=Aside0.mk ((zS hg (zL1 HB.out GE217.out):w.heap.size≤gb218));have n4_:=Aside0.mk ((zS hg (zL1 HB.out GE217.out):w.heap.size≤gb218));have n5_:=Aside0.mk ((by rw [hg];exact Nat.ne_of_lt (zao (zB BK217.out)):gb217≠gb218));have n6_:=Aside0.mk ((by rw [hg];exact Nat.ne_of_gt (zao (zB BK217.out)):gb218≠gb217));clear BK217;clear HB;have BK217:=n0_;have HB:=n1_;have BK218:=n2_;have GW218:=n3_;have GE218:=n4_;have NB217_218:=n5_;have NB218_217:=n6_;clear n0_ n1_ n2_ n3_ n4_ n5_ n6_;clear hb hbox hg)|((with_reducible refine zaA (N:=5) rfl ?_);refine zav ?hg (N:=5) ?hd (cs:=#[.int .i64 a2_0,.int .i64 a2_1,.int .i64 a2_2,.int .i64 a2_3]) (t:=32) ?hr ?_;(case hd=>rfl);(case hg=>rfl);(case hr=>first|(go_simp;done)|(go_simp;rfl));intro gb219 hg w9 hbox hb;have n0_:=Aside0.mk (zaa (zB BK217.out) hb);have n1_:=Aside0.mk (zaa (zB BK218.out) hb);have n2_:=Aside0.mk (zad (zL2 HB.out GE217.out GE218.out) hb);have n3_:=Aside0.mk (hbox);have n4_:=Aside0.mk ((zS hg (zL2 HB.out GE217.out GE218.out):w.heap.size≤gb219));have n5_:=Aside0.mk ((zS hg (zL2 HB.out GE217.out GE218.out):w.heap.size≤gb219));have n6_:=Aside0.mk ((by rw [hg];exact Nat.ne_of_lt (zao (zB BK217.out)):gb217≠gb219));have n7_:=Aside0.mk ((by rw [hg];exact Nat.ne_of_gt (zao (zB BK217.out)):gb219≠gb217));have n8_:=Aside0.mk ((by rw [hg];exact Nat.ne_of_lt (zao (zB BK218.out)):gb218≠gb219));have n9_:=Aside0.mk ((by rw [hg];exact Nat.ne_of_gt (zao (zB BK218.out)):gb219≠gb218));clear BK217;clear BK218;clear HB;have BK217:=n0_;have BK218:=n1_;have HB:=n2_;have BK219:=n3_;have GW219:=n4_;have GE219:=n5_;have NB217_219:=n6_;have NB219_217:=n7_;have NB218_219:=n8_;have NB219_218:=n9_;clear n0_ n1_ n2_ n3_ n4_ n5_ n6_ n7_ n8_ n9_;clear hb hbox hg)|((with_reducible refine zaA (N:=6) rfl ?_);refine zav ?hg (N:=6) ?hd (cs:=#[.int .i64 0,.int .i64 0,.slice none 0 0]) (t:=38) ?hr ?_;(case hd=>rfl);(case hg=>rfl);(case hr=>first|(go_simp;done)|(go_simp;rfl));intro gb220 hg w10 hbox hb;have n0_:=Aside0.mk (zaa (zB BK217.out) hb);have n1_:=Aside0.mk (zaa (zB BK218.out) hb);have n2_:=Aside0.mk (zaa (zB BK219.out) hb);have n3_:=Aside0.mk (zad (zL3 HB.out GE217.out GE218.out GE219.out) hb);have n4_:=Aside0.mk (hbox);have n5_:=Aside0.mk ((zS hg (zL3 HB.out GE217.out GE218.out GE219.out):w.heap.size≤gb220));have n6_:=Aside0.mk ((zS hg (zL3 HB.out GE217.out GE218.out GE219.out):w.heap.size≤gb220));have n7_:=Aside0.mk ((by rw [hg];exact Nat.ne_of_lt (zao (zB BK217.out)):gb217≠gb220));have n8_:=Aside0.mk ((by rw [hg];exact Nat.ne_of_gt (zao (zB BK217.out)):gb220≠gb217));have n9_:=Aside0.mk ((by rw [hg];exact Nat.ne_of_lt (zao (zB BK218.out)):gb218≠gb220));have n10_:=Aside0.mk ((by rw [hg];exact Nat.ne_of_gt (zao (zB BK218.out)):gb220≠gb218));have n11_:=Aside0.mk ((by rw [hg];exact Nat.ne_of_lt (zao (zB BK219.out)):gb219≠gb220));have n12_:=Aside0.mk ((by rw [hg];exact Nat.ne_of_gt (zao (zB BK219.out)):gb220≠gb219));clear BK217;clear BK218;clear BK219;clear HB;have BK217:=n0_;have BK218:=n1_;have BK219:=n2_;have HB:=n3_;have BK220:=n4_;have GW220:=n5_;have GE220:=n6_;have NB217_220:=n7_;have NB220_217:=n8_;have NB218_220:=n9_;have NB220_218:=n10_;have NB219_220:=n11_;have NB220_219:=n12_;clear n0_ n1_ n2_ n3_ n4_ n5_ n6_ n7_ n8_ n9_ n10_ n11_ n12_;clear hb hbox hg;have hnb11:=NB217_218.out;have hnc11:=NB218_217.out;have hnb12:=NB217_219.out;have hnc12:=NB219_217.out;have hnb13:=NB217_220.out;have hnc13:=NB220_217.out;obtain ⟨hcz14_0,hcz14_1,hcz14_2,hcz14_3,hcz14_4,hcz14_5,hcz14_6,hcz14_7,hcz14_8,hcz14_9,hcz14_10,hcz14_11,hcz14_12,hcz14_13,hcz14_14,hcz14_15⟩:=zD16 BK217.out;obtain ⟨hfz14_0,hfz14_1,hfz14_2,hfz14_3,hfz14_4,hfz14_5,hfz14_6,hfz14_7,hfz14_8,hfz14_9,hfz14_10,hfz14_11,hfz14_12,hfz14_13,hfz14_14,hfz14_15⟩:=zE16 BK217.out)|((with_reducible refine zal (f:=14) rfl ?_);refine goesL_ (some 14) rfl rfl Try.func14 (by kernel_rfl) rfl #[.agg #[.int .i64 a0_0,.int .i64 a0_1,.int .i64 a0_2,.int .i64 a0_3,.int .i64 a0_4,.int .i64 a0_5,.int .i64 a0_6,.int .i64 a0_7,.int .i64 a0_8,.int .i64 a0_9,.int .i64 a0_10,.int .i64 a0_11,.int .i64 a0_12,.int .i64 a0_13,.slice A0_14 l0_14.length c0_14,.bool a0_15]] rfl zA ?_;(with_reducible refine (zan.calls k a0_0 a0_1 a0_2 a0_3 a0_4 a0_5 a0_6 a0_7 a0_8 a0_9 a0_10 a0_11 a0_12 a0_13 _ _ l0_14 a0_15 t221 _ ?side1 ?side2 A4.out).mono ?_);(case side1=>repeat (first|exact (Kd.C_below HR0_14.out HB.out)|(with_reducible refine Kd.C_alloc ?_ _)|(with_reducible refine Kd.C_drewN ?_ _)|(with_reducible refine Kd.C_drew ?_)));(case side2=>exact HC0_14.out);rintro e w15 ⟨rfl,hb⟩;refine ⟨_,rfl,?_⟩;replace BK217:=Aside0.mk (zaa (zB BK217.out) hb);replace BK218:=Aside0.mk (zaa (zB BK218.out) hb);replace BK219:=Aside0.mk (zaa (zB BK219.out) hb);replace BK220:=Aside0.mk (zaa (zB BK220.out) hb);replace HB:=Aside0.mk (zad (zL4 HB.out GE217.out GE218.out GE219.out GE220.out) hb);(try clear hb);(try clear hb2);(try clear hk);(try clear hi)))
  (try simp only [Act.put,List.setIfInBounds_toArray,List.set_cons_zero,List.set_cons_succ])
  go_cut [27] (fun v27 wc=>∃ (kq:Nat) (x27_5:Bool),v27 = .bool x27_5∧Aside0 (zax.j0 kq x27_5 a0_0 a0_1 a0_2 a0_3 a0_4 a0_5 a0_6 a0_7 a0_8 a0_9 a0_10 a0_11 a0_12 a0_13 l0_14 a0_15 a1_0 a1_1 a1_2 a1_3 a1_4 a2_0 a2_1 a2_2 a2_3=some (r1,r2,r3,r4))∧Aside0 (kq≤k)∧Aside0 (wc.heap[gb217]? = some (.cells #[.int .i64 a0_0,.int .i64 a0_1,.int .i64 a0_2,.int .i64 a0_3,.int .i64 a0_4,.int .i64 a0_5,.int .i64 a0_6,.int .i64 a0_7,.int .i64 a0_8,.int .i64 a0_9,.int .i64 a0_10,.int .i64 a0_11,.int .i64 a0_12,.int .i64 a0_13,(.slice A0_14 l0_14.length c0_14),.bool a0_15] 26 (0,0)))∧Aside0 (wc.heap[gb218]? = some (.cells #[.int .i64 a1_0,.int .i64 a1_1,.int .i64 a1_2,.int .i64 a1_3,.int .i64 a1_4] 28 (0,0)))∧Aside0 (wc.heap[gb219]? = some (.cells #[.int .i64 a2_0,.int .i64 a2_1,.int .i64 a2_2,.int .i64 a2_3] 32 (0,0)))∧Aside0 (wc.heap[gb220]? = some (.cells #[.int .i64 0,.int .i64 0,(.slice none 0 0)] 38 (0,0)))∧Aside0 (Below w.heap.size w wc))
  case first=>
   have H:=HC6.out
   clear HC6
   replace H:=Option.bind_eq_some_iff.mp H
   obtain ⟨⟨t222,t223,t224,t225,t226⟩,A160,H⟩:=H
   replace H:(if (!(a1_0==t222)||(!(a1_1==t223)||(!(a1_2==t224)||(!(a1_3==t225)||(!(a1_4==t226))))))=true then (zax.j0 k true a0_0 a0_1 a0_2 a0_3 a0_4 a0_5 a0_6 a0_7 a0_8 a0_9 a0_10 a0_11 a0_12 a0_13 l0_14 a0_15 a1_0 a1_1 a1_2 a1_3 a1_4 a2_0 a2_1 a2_2 a2_3) else ((zbu.f a2_0 a2_1 a2_2 a2_3).bind fun t227=>(zax.j0 k (!t227) a0_0 a0_1 a0_2 a0_3 a0_4 a0_5 a0_6 a0_7 a0_8 a0_9 a0_10 a0_11 a0_12 a0_13 l0_14 a0_15 a1_0 a1_1 a1_2 a1_3 a1_4 a2_0 a2_1 a2_2 a2_3)))=some (r1,r2,r3,r4):=H
   have A16:=Aside0.mk A160
   clear A160
   by_cases c17:(!(a1_0==t222)||(!(a1_1==t223)||(!(a1_2==t224)||(!(a1_3==t225)||(!(a1_4==t226))))))=true
   ·rw [if_pos c17] at H
    have c17b0:(!(a1_0==t222)||(!(a1_1==t223)||(!(a1_2==t224)||(!(a1_3==t225)||(!(a1_4==t226))))))=true:=c17
    clear c17
    (first|rw [c17b0]|(simp only [i64_w,i32_w];rw [c17b0])|skip)
    have H':=Aside0.mk H
    clear H
    try go_wp2
    replace BK217:=Aside0.mk (zaK BK217.out)
    replace BK218:=Aside0.mk (zaK BK218.out)
    replace BK219:=Aside0.mk (zaK BK219.out)
    replace BK220:=Aside0.mk (zaK BK220.out)
    replace HB:=Aside0.mk (zag HB.out)
    refine start_ (n:=9) (S:=fun w'=>w'.cell? ⟨gb218,0,none⟩=some (.int .i64 a1_0)∧w'.cell? ⟨gb218,1,none⟩=some (.int .i64 a1_1)∧w'.cell? ⟨gb218,2,none⟩=some (.int .i64 a1_2)∧w'.cell? ⟨gb218,3,none⟩=some (.int .i64 a1_3)∧w'.cell? ⟨gb218,4,none⟩=some (.int .i64 a1_4)) (ds:=[]) #[false,false,false,false,false,false,false,false,false] (by kernel_rfl) rfl rfl ⟨zc BK218.out 0,zc BK218.out 1,zc BK218.out 2,zc BK218.out 3,zc BK218.out 4⟩ (fun hHeld=>?_);refine zbi zax.tab4 zax.bits4 (fun HT_ HW_=>?_)
    generalize w15.drew=w18 at BK217 BK218 BK219 BK220 HB hHeld ⊢
    refine take_ (i:=0) (N:=some 19) (v:=?_) (a':=?_) #[true,false,false,false,false,false,false,false,false] rfl rfl (zaL HT_.out HW_.out (by kernel_rfl)) (fun _ _ _ h=>h) (Or.inl ⟨by rfl,?_⟩) hHeld ?_ ?_
    rotate_left
    ·rintro w' ⟨s0,s1,s2,s3,s4⟩
     go_simp
     with_reducible rfl
    rotate_left
    ·exact zP
    refine take_ (i:=1) (N:=some 20) (v:=?_) (a':=?_) #[true,true,false,false,false,false,false,false,false] rfl rfl (zaL HT_.out HW_.out (by kernel_rfl)) (fun _ _ _ h=>h) (Or.inl ⟨by rfl,?_⟩) hHeld ?_ ?_
    rotate_left
    ·rintro w' ⟨s0,s1,s2,s3,s4⟩
     go_simp
     with_reducible rfl
    rotate_left
    ·exact zP
    refine one_ (i:=2) (N:=some 21) #[true,true,true,false,false,false,false,false,false] rfl rfl (zaR HT_.out (by kernel_rfl)) (by decide) (fun K hK=>?_)
    refine goes_ Try.func52 (by kernel_rfl) rfl #[.agg #[.int .i64 a1_0,.int .i64 a1_1,.int .i64 a1_2,.int .i64 a1_3,.int .i64 a1_4]] (by rfl) rfl rfl zA ?_
    with_reducible refine (za3.calls a1_0 a1_1 a1_2 a1_3 a1_4 t222 t223 t224 t225 t226 _ A16.out).mono ?_
    rintro e w19 ⟨rfl,hb⟩
    refine ⟨_,rfl,?_⟩
    replace BK217:=Aside0.mk (zaa (zB BK217.out) hb)
    replace BK218:=Aside0.mk (zaa (zB BK218.out) hb)
    replace BK219:=Aside0.mk (zaa (zB BK219.out) hb)
    replace BK220:=Aside0.mk (zaa (zB BK220.out) hb)
    replace HB:=Aside0.mk (zad (zL4 HB.out GE217.out GE218.out GE219.out GE220.out) hb)
    (try clear hb)
    (try clear hb2)
    (try clear hk)
    (try clear hi)
    refine hK.out _ _ ⟨zc BK218.out 0,zc BK218.out 1,zc BK218.out 2,zc BK218.out 3,zc BK218.out 4⟩ (fun hHeld=>?_)
    clear hK K
    refine norm_ (a':=?_) ?_ ?_
    rotate_left
    ·show Act.put _ (some 21) _=_
     exact zP
    refine pure_ (i:=3) (N:=some 22) (v:=?_) (a':=?_) #[true,true,true,true,false,false,false,false,false] rfl rfl (zap HT_.out (by kernel_rfl)) (fun _ _ _ h=>h) (Or.inl ⟨by rfl,?_⟩) ?_ ?_
    rotate_left
    ·intro w'
     go_simp
     with_reducible rfl
    rotate_left
    ·exact zP
    refine pure_ (i:=4) (N:=some 23) (v:=?_) (a':=?_) #[true,true,true,true,true,false,false,false,false] rfl rfl (zap HT_.out (by kernel_rfl)) (fun _ _ _ h=>h) (Or.inl ⟨by rfl,?_⟩) ?_ ?_
    rotate_left
    ·intro w'
     go_simp
     with_reducible rfl
    rotate_left
    ·exact zP
    refine pure_ (i:=5) (N:=some 24) (v:=undef) (a':=?_) #[true,true,true,true,true,true,false,false,false] rfl rfl (zap HT_.out (by kernel_rfl)) (fun _ _ _ h=>h) (Or.inr ⟨by rfl,rfl⟩) ?_ ?_
    rotate_left
    ·exact zP
    refine pure_ (i:=6) (N:=some 25) (v:=undef) (a':=?_) #[true,true,true,true,true,true,true,false,false] rfl rfl (zap HT_.out (by kernel_rfl)) (fun _ _ _ h=>h) (Or.inr ⟨by rfl,rfl⟩) ?_ ?_
    rotate_left
    ·exact zP
    refine pure_ (i:=7) (N:=some 26) (v:=undef) (a':=?_) #[true,true,true,true,true,true,true,true,false] rfl rfl (zap HT_.out (by kernel_rfl)) (fun _ _ _ h=>h) (Or.inr ⟨by rfl,rfl⟩) ?_ ?_
    rotate_left
    ·exact zP
    refine pure_ (i:=8) (N:=some 27) (v:=?_) (a':=?_) #[true,true,true,true,true,true,true,true,true] rfl rfl (zap HT_.out (by kernel_rfl)) (fun _ _ _ h=>h) (Or.inl ⟨by rfl,?_⟩) ?_ ?_
    rotate_left
    ·intro w'
     go_simp
     with_reducible rfl
    rotate_left
    ·exact zP
    refine done_ (zbr HT_.out (by kernel_rfl)) ?_
    try go_wp2
    go_meet
    case rel=>exact ⟨_,(true),zF,H',⟨by first|omega|exact Nat.le_refl _⟩,⟨by refine zB ?_;exact BK217.out⟩,⟨by refine zB ?_;exact BK218.out⟩,⟨by refine zB ?_;exact BK219.out⟩,⟨by refine zB ?_;exact BK220.out⟩,⟨by repeat (first|(with_reducible first|exact HB.out|apply zai|apply zaf|apply zag|refine zac ?_ GE217.out|refine zac ?_ GE218.out|refine zac ?_ GE219.out|refine zac ?_ GE220.out)|exact HB.out)⟩⟩
   ·rw [if_neg c17] at H
    have c17b0:(!(a1_0==t222)||(!(a1_1==t223)||(!(a1_2==t224)||(!(a1_3==t225)||(!(a1_4==t226))))))=false:=by simpa using c17
    clear c17
    (first|rw [c17b0]|(simp only [i64_w,i32_w];rw [c17b0])|skip)
    replace H:=Option.bind_eq_some_iff.mp H
    obtain ⟨t227,A200,H⟩:=H
    replace H:(zax.j0 k (!t227) a0_0 a0_1 a0_2 a0_3 a0_4 a0_5 a0_6 a0_7 a0_8 a0_9 a0_10 a0_11 a0_12 a0_13 l0_14 a0_15 a1_0 a1_1 a1_2 a1_3 a1_4 a2_0 a2_1 a2_2 a2_3)=some (r1,r2,r3,r4):=H
    have A20:=Aside0.mk A200
    clear A200
    have H':=Aside0.mk H
    clear H
    try go_wp2
    replace BK217:=Aside0.mk (zaK BK217.out)
    replace BK218:=Aside0.mk (zaK BK218.out)
    replace BK219:=Aside0.mk (zaK BK219.out)
    replace BK220:=Aside0.mk (zaK BK220.out)
    replace HB:=Aside0.mk (zag HB.out)
    refine start_ (n:=9) (S:=fun w'=>w'.cell? ⟨gb218,0,none⟩=some (.int .i64 a1_0)∧w'.cell? ⟨gb218,1,none⟩=some (.int .i64 a1_1)∧w'.cell? ⟨gb218,2,none⟩=some (.int .i64 a1_2)∧w'.cell? ⟨gb218,3,none⟩=some (.int .i64 a1_3)∧w'.cell? ⟨gb218,4,none⟩=some (.int .i64 a1_4)∧w'.cell? ⟨gb219,0,none⟩=some (.int .i64 a2_0)∧w'.cell? ⟨gb219,1,none⟩=some (.int .i64 a2_1)∧w'.cell? ⟨gb219,2,none⟩=some (.int .i64 a2_2)∧w'.cell? ⟨gb219,3,none⟩=some (.int .i64 a2_3)) (ds:=[]) #[false,false,false,false,false,false,false,false,false] (by kernel_rfl) rfl rfl ⟨zc BK218.out 0,zc BK218.out 1,zc BK218.out 2,zc BK218.out 3,zc BK218.out 4,zc BK219.out 0,zc BK219.out 1,zc BK219.out 2,zc BK219.out 3⟩ (fun hHeld=>?_);refine zbi zax.tab4 zax.bits4 (fun HT_ HW_=>?_)
    generalize w15.drew=w21 at BK217 BK218 BK219 BK220 HB hHeld ⊢
    refine take_ (i:=0) (N:=some 19) (v:=?_) (a':=?_) #[true,false,false,false,false,false,false,false,false] rfl rfl (zaL HT_.out HW_.out (by kernel_rfl)) (fun _ _ _ h=>h) (Or.inl ⟨by rfl,?_⟩) hHeld ?_ ?_
    rotate_left
    ·rintro w' ⟨s0,s1,s2,s3,s4,s5,s6,s7,s8⟩
     go_simp
     with_reducible rfl
    rotate_left
    ·exact zP
    refine take_ (i:=1) (N:=some 20) (v:=?_) (a':=?_) #[true,true,false,false,false,false,false,false,false] rfl rfl (zaL HT_.out HW_.out (by kernel_rfl)) (fun _ _ _ h=>h) (Or.inl ⟨by rfl,?_⟩) hHeld ?_ ?_
    rotate_left
    ·rintro w' ⟨s0,s1,s2,s3,s4,s5,s6,s7,s8⟩
     go_simp
     with_reducible rfl
    rotate_left
    ·exact zP
    refine one_ (i:=2) (N:=some 21) #[true,true,true,false,false,false,false,false,false] rfl rfl (zaR HT_.out (by kernel_rfl)) (by decide) (fun K hK=>?_)
    refine goes_ Try.func52 (by kernel_rfl) rfl #[.agg #[.int .i64 a1_0,.int .i64 a1_1,.int .i64 a1_2,.int .i64 a1_3,.int .i64 a1_4]] (by rfl) rfl rfl zA ?_
    with_reducible refine (za3.calls a1_0 a1_1 a1_2 a1_3 a1_4 t222 t223 t224 t225 t226 _ A16.out).mono ?_
    rintro e w22 ⟨rfl,hb⟩
    refine ⟨_,rfl,?_⟩
    replace BK217:=Aside0.mk (zaa (zB BK217.out) hb)
    replace BK218:=Aside0.mk (zaa (zB BK218.out) hb)
    replace BK219:=Aside0.mk (zaa (zB BK219.out) hb)
    replace BK220:=Aside0.mk (zaa (zB BK220.out) hb)
    replace HB:=Aside0.mk (zad (zL4 HB.out GE217.out GE218.out GE219.out GE220.out) hb)
    (try clear hb)
    (try clear hb2)
    (try clear hk)
    (try clear hi)
    refine hK.out _ _ ⟨zc BK218.out 0,zc BK218.out 1,zc BK218.out 2,zc BK218.out 3,zc BK218.out 4,zc BK219.out 0,zc BK219.out 1,zc BK219.out 2,zc BK219.out 3⟩ (fun hHeld=>?_)
    clear hK K
    refine norm_ (a':=?_) ?_ ?_
    rotate_left
    ·show Act.put _ (some 21) _=_
     exact zP
    refine pure_ (i:=3) (N:=some 22) (v:=?_) (a':=?_) #[true,true,true,true,false,false,false,false,false] rfl rfl (zap HT_.out (by kernel_rfl)) (fun _ _ _ h=>h) (Or.inl ⟨by rfl,?_⟩) ?_ ?_
    rotate_left
    ·intro w'
     go_simp
     with_reducible rfl
    rotate_left
    ·exact zP
    refine pure_ (i:=4) (N:=some 23) (v:=?_) (a':=?_) #[true,true,true,true,true,false,false,false,false] rfl rfl (zap HT_.out (by kernel_rfl)) (fun _ _ _ h=>h) (Or.inl ⟨by rfl,?_⟩) ?_ ?_
    rotate_left
    ·intro w'
     go_simp
     with_reducible rfl
    rotate_left
    ·exact zP
    refine take_ (i:=5) (N:=some 24) (v:=?_) (a':=?_) #[true,true,true,true,true,true,false,false,false] rfl rfl (zaL HT_.out HW_.out (by kernel_rfl)) (fun _ _ _ h=>h) (Or.inl ⟨by rfl,?_⟩) hHeld ?_ ?_
    rotate_left
    ·rintro w' ⟨s0,s1,s2,s3,s4,s5,s6,s7,s8⟩
     go_simp
     with_reducible rfl
    rotate_left
    ·exact zP
    refine one_ (i:=6) (N:=some 25) #[true,true,true,true,true,true,true,false,false] rfl rfl (zaR HT_.out (by kernel_rfl)) (by decide) (fun K hK=>?_)
    refine goes_ Try.func59 (by kernel_rfl) rfl #[.agg #[.int .i64 a2_0,.int .i64 a2_1,.int .i64 a2_2,.int .i64 a2_3]] (by rfl) rfl rfl zA ?_
    with_reducible refine (zbu.calls a2_0 a2_1 a2_2 a2_3 t227 _ A20.out).mono ?_
    rintro e w23 ⟨rfl,hb⟩
    refine ⟨_,rfl,?_⟩
    replace BK217:=Aside0.mk (zaa (zB BK217.out) hb)
    replace BK218:=Aside0.mk (zaa (zB BK218.out) hb)
    replace BK219:=Aside0.mk (zaa (zB BK219.out) hb)
    replace BK220:=Aside0.mk (zaa (zB BK220.out) hb)
    replace HB:=Aside0.mk (zad (zL4 HB.out GE217.out GE218.out GE219.out GE220.out) hb)
    (try clear hb)
    (try clear hb2)
    (try clear hk)
    (try clear hi)
    refine hK.out _ _ ⟨zc BK218.out 0,zc BK218.out 1,zc BK218.out 2,zc BK218.out 3,zc BK218.out 4,zc BK219.out 0,zc BK219.out 1,zc BK219.out 2,zc BK219.out 3⟩ (fun hHeld=>?_)
    clear hK K
    refine norm_ (a':=?_) ?_ ?_
    rotate_left
    ·show Act.put _ (some 25) _=_
     exact zP
    refine pure_ (i:=7) (N:=some 26) (v:=?_) (a':=?_) #[true,true,true,true,true,true,true,true,false] rfl rfl (zap HT_.out (by kernel_rfl)) (fun _ _ _ h=>h) (Or.inl ⟨by rfl,?_⟩) ?_ ?_
    rotate_left
    ·intro w'
     go_simp
     with_reducible rfl
    rotate_left
    ·exact zP
    refine pure_ (i:=8) (N:=some 27) (v:=?_) (a':=?_) #[true,true,true,true,true,true,true,true,true] rfl rfl (zap HT_.out (by kernel_rfl)) (fun _ _ _ h=>h) (Or.inl ⟨by rfl,?_⟩) ?_ ?_
    rotate_left
    ·intro w'
     go_simp
     with_reducible rfl
    rotate_left
    ·exact zP
    refine done_ (zbr HT_.out (by kernel_rfl)) ?_
    try go_wp2
    go_meet
    case rel=>exact ⟨_,(!t227),zF,H',⟨by first|omega|exact Nat.le_refl _⟩,⟨by refine zB ?_;exact BK217.out⟩,⟨by refine zB ?_;exact BK218.out⟩,⟨by refine zB ?_;exact BK219.out⟩,⟨by refine zB ?_;exact BK220.out⟩,⟨by repeat (first|(with_reducible first|exact HB.out|apply zai|apply zaf|apply zag|refine zac ?_ GE217.out|refine zac ?_ GE218.out|refine zac ?_ GE219.out|refine zac ?_ GE220.out)|exact HB.out)⟩⟩
  case rest=>
   clear HC6
   try clear c1
   try clear p2
   try clear c5
   try clear c5b0
   try clear c5b1
   try clear c11
   try clear c12
   try clear c13
   try clear c14
   try clear c17
   try clear c17b0
   try clear c19
   try clear hcz14_0 hcz14_1 hcz14_10 hcz14_11 hcz14_12 hcz14_13 hcz14_14 hcz14_15 hcz14_2 hcz14_3 hcz14_4 hcz14_5 hcz14_6 hcz14_7 hcz14_8 hcz14_9 hfz14_0 hfz14_1 hfz14_10 hfz14_11 hfz14_12 hfz14_13 hfz14_14 hfz14_15 hfz14_2 hfz14_3 hfz14_4 hfz14_5 hfz14_6 hfz14_7 hfz14_8 hfz14_9
   obtain ⟨kq,x27_5,rfl,HA,HJ5,BK217,BK218,BK219,BK220,HB⟩:=hcut
   cases kq with
   | zero=>exact absurd HA.out (by simp [zax.j0])
   | succ kj5=>
    have H:=HA.out
    clear HA
    simp only [zax.j0] at H
    by_cases c24:x27_5=true
    ·subst c24
     have H1:(some (0,0,([]:List Int),2))=some (r1,r2,r3,r4):=by rw [if_pos rfl] at H;exact H
     clear H
     have H:=H1
     clear H1
     simp only [Option.some.injEq,Prod.mk.injEq] at H
     obtain ⟨rfl,rfl,rfl,rfl⟩:=H
     have hnb25:=NB220_217.out
     have hnc25:=NB217_220.out
     have hnb26:=NB220_218.out
     have hnc26:=NB218_220.out
     have hnb27:=NB220_219.out
     have hnc27:=NB219_220.out
     obtain ⟨hcz28_0,hcz28_1,hcz28_2⟩:=zD3 BK220.out
     obtain ⟨hfz28_0,hfz28_1,hfz28_2⟩:=zE3 BK220.out
     go_wp2
     refine bodyPost_ret (zbG rfl _ _ gb220 38 #[.int .i64 0,.int .i64 0,.slice none 0 0] (0,0) _ rfl (by refine zB ?_;refine zae (cs:=#[.int .i64 0,.int .i64 0,.slice none 0 0]) ?_ 2 _ rfl;refine zB ?_;refine zae (cs:=#[.int .i64 0,.int .i64 0,.slice none 0 0]) ?_ 1 _ rfl;refine zB ?_;refine zae (cs:=#[.int .i64 0,.int .i64 0,.slice none 0 0]) ?_ 0 _ rfl;refine zB ?_;exact BK220.out) Try.underlying38 rfl (by kernel_rfl)) rfl ?_
     exact ⟨_,by first|rfl|(simp [errW_none,errW_some] <;> rfl)|(simp [*,errW_none,errW_some] <;> rfl),by first|exact Kd.R_nil _ _ _ _ _|exact Kd.N_nil _ _ _ _ _|exact Kd.V_nil _ _ _ _ _|exact Kd.Q_nil _ _ _ _ _|exact Kd.S_nil _ _ _ _ _,by repeat (first|(with_reducible first|exact HB.out|apply zai|apply zaf|apply zag|refine zac ?_ GE217.out|refine zac ?_ GE218.out|refine zac ?_ GE219.out|refine zac ?_ GE220.out)|exact HB.out)⟩
    ·replace c24:=Bool.eq_false_iff.mpr c24
     subst c24
     have H1:(if a2_2 > 256 then (zax.j1 kj5 true a0_0 a0_1 a0_2 a0_3 a0_4 a0_5 a0_6 a0_7 a0_8 a0_9 a0_10 a0_11 a0_12 a0_13 l0_14 a0_15 a1_0 a1_1 a1_2 a1_3 a1_4 a2_0 a2_1 a2_2 a2_3) else (zax.j1 kj5 (decide (a2_3 > 256)) a0_0 a0_1 a0_2 a0_3 a0_4 a0_5 a0_6 a0_7 a0_8 a0_9 a0_10 a0_11 a0_12 a0_13 l0_14 a0_15 a1_0 a1_1 a1_2 a1_3 a1_4 a2_0 a2_1 a2_2 a2_3))=some (r1,r2,r3,r4):=by rw [if_neg (show ¬ (false=true) by decide)] at H;exact H
     clear H
     have H:=H1
     clear H1
     have HC29:=Aside0.mk H
     clear H
     go_upto_region 6 with (fail)
     go_cut [36] (fun v36 wc=>∃ (kq:Nat) (x36_28:Bool),v36 = .bool x36_28∧Aside0 (zax.j1 kq x36_28 a0_0 a0_1 a0_2 a0_3 a0_4 a0_5 a0_6 a0_7 a0_8 a0_9 a0_10 a0_11 a0_12 a0_13 l0_14 a0_15 a1_0 a1_1 a1_2 a1_3 a1_4 a2_0 a2_1 a2_2 a2_3=some (r1,r2,r3,r4))∧Aside0 (kq≤kj5)∧Aside0 (wc.heap[gb217]? = some (.cells #[.int .i64 a0_0,.int .i64 a0_1,.int .i64 a0_2,.int .i64 a0_3,.int .i64 a0_4,.int .i64 a0_5,.int .i64 a0_6,.int .i64 a0_7,.int .i64 a0_8,.int .i64 a0_9,.int .i64 a0_10,.int .i64 a0_11,.int .i64 a0_12,.int .i64 a0_13,(.slice A0_14 l0_14.length c0_14),.bool a0_15] 26 (0,0)))∧Aside0 (wc.heap[gb218]? = some (.cells #[.int .i64 a1_0,.int .i64 a1_1,.int .i64 a1_2,.int .i64 a1_3,.int .i64 a1_4] 28 (0,0)))∧Aside0 (wc.heap[gb219]? = some (.cells #[.int .i64 a2_0,.int .i64 a2_1,.int .i64 a2_2,.int .i64 a2_3] 32 (0,0)))∧Aside0 (wc.heap[gb220]? = some (.cells #[.int .i64 0,.int .i64 0,(.slice none 0 0)] 38 (0,0)))∧Aside0 (Below w.heap.size w wc))
     case first=>
      have H:=HC29.out
      clear HC29
      by_cases c30:a2_2 > 256
      ·rw [if_pos c30] at H
       have c30b0:decide (256<a2_2)=true:=decide_eq_true c30
       clear c30
       (first|rw [c30b0]|(simp only [i64_w,i32_w];rw [c30b0])|skip)
       have H':=Aside0.mk H
       clear H
       have hnb31:=NB219_217.out
       have hnc31:=NB217_219.out
       have hnb32:=NB219_218.out
       have hnc32:=NB218_219.out
       have hnb33:=NB219_220.out
       have hnc33:=NB220_219.out
       obtain ⟨hcz34_0,hcz34_1,hcz34_2,hcz34_3⟩:=zD4 BK219.out
       obtain ⟨hfz34_0,hfz34_1,hfz34_2,hfz34_3⟩:=zE4 BK219.out
       go_wp2
       go_meet
       case rel=>exact ⟨_,(true),zF,H',⟨by have:=HJ5.out;first|omega|exact Nat.le_refl _⟩,⟨by refine zB ?_;exact BK217.out⟩,⟨by refine zB ?_;exact BK218.out⟩,⟨by refine zB ?_;exact BK219.out⟩,⟨by refine zB ?_;exact BK220.out⟩,⟨by repeat (first|(with_reducible first|exact HB.out|apply zai|apply zaf|apply zag|refine zac ?_ GE217.out|refine zac ?_ GE218.out|refine zac ?_ GE219.out|refine zac ?_ GE220.out)|exact HB.out)⟩⟩
      ·rw [if_neg c30] at H
       have c30b0:decide (256<a2_2)=false:=decide_eq_false c30
       clear c30
       (first|rw [c30b0]|(simp only [i64_w,i32_w];rw [c30b0])|skip)
       have H':=Aside0.mk H
       clear H
       have hnb35:=NB219_217.out
       have hnc35:=NB217_219.out
       have hnb36:=NB219_218.out
       have hnc36:=NB218_219.out
       have hnb37:=NB219_220.out
       have hnc37:=NB220_219.out
       obtain ⟨hcz38_0,hcz38_1,hcz38_2,hcz38_3⟩:=zD4 BK219.out
       obtain ⟨hfz38_0,hfz38_1,hfz38_2,hfz38_3⟩:=zE4 BK219.out
       go_wp2
       go_meet
       case rel=>exact ⟨_,(decide (a2_3 > 256)),zF,H',⟨by have:=HJ5.out;first|omega|exact Nat.le_refl _⟩,⟨by refine zB ?_;exact BK217.out⟩,⟨by refine zB ?_;exact BK218.out⟩,⟨by refine zB ?_;exact BK219.out⟩,⟨by refine zB ?_;exact BK220.out⟩,⟨by repeat (first|(with_reducible first|exact HB.out|apply zai|apply zaf|apply zag|refine zac ?_ GE217.out|refine zac ?_ GE218.out|refine zac ?_ GE219.out|refine zac ?_ GE220.out)|exact HB.out)⟩⟩
     case rest=>
      clear HC29
      try clear c1
      try clear c2
      try clear p2
      try clear c3
      try clear c5
      try clear c5b0
      try clear c5b1
      try clear c11
      try clear c12
      try clear c13
      try clear c14
      try clear c17
      try clear c17b0
      try clear c19
      try clear c24
      try clear c25
      try clear c26
      try clear c27
      try clear c30
      try clear c30b0
      try clear c31
      try clear c32
      try clear c33
      try clear c35
      try clear c36
      try clear c37
      try clear hcz14_0 hcz14_1 hcz14_10 hcz14_11 hcz14_12 hcz14_13 hcz14_14 hcz14_15 hcz14_2 hcz14_3 hcz14_4 hcz14_5 hcz14_6 hcz14_7 hcz14_8 hcz14_9 hcz28_0 hcz28_1 hcz28_2 hcz34_0 hcz34_1 hcz34_2 hcz34_3 hcz38_0 hcz38_1 hcz38_2 hcz38_3 hfz14_0 hfz14_1 hfz14_10 hfz14_11 hfz14_12 hfz14_13 hfz14_14 hfz14_15 hfz14_2 hfz14_3 hfz14_4 hfz14_5 hfz14_6 hfz14_7 hfz14_8 hfz14_9 hfz28_0 hfz28_1 hfz28_2 hfz34_0 hfz34_1 hfz34_2 hfz34_3 hfz38_0 hfz38_1 hfz38_2 hfz38_3
      try clear p2
      obtain ⟨kq,x36_28,rfl,HA,HJ28,BK217,BK218,BK219,BK220,HB⟩:=hcut
      cases kq with
      | zero=>exact absurd HA.out (by simp [zax.j1])
      | succ kj28=>
       have H:=HA.out
       clear HA
       simp only [zax.j1] at H
       by_cases c39:x36_28=true
       ·subst c39
        have H1:(some (0,0,([]:List Int),15))=some (r1,r2,r3,r4):=by rw [if_pos rfl] at H;exact H
        clear H
        have H:=H1
        clear H1
        simp only [Option.some.injEq,Prod.mk.injEq] at H
        obtain ⟨rfl,rfl,rfl,rfl⟩:=H
        have hnb40:=NB220_217.out
        have hnc40:=NB217_220.out
        have hnb41:=NB220_218.out
        have hnc41:=NB218_220.out
        have hnb42:=NB220_219.out
        have hnc42:=NB219_220.out
        obtain ⟨hcz43_0,hcz43_1,hcz43_2⟩:=zD3 BK220.out
        obtain ⟨hfz43_0,hfz43_1,hfz43_2⟩:=zE3 BK220.out
        go_wp2
        refine bodyPost_ret (zbG rfl _ _ gb220 38 #[.int .i64 0,.int .i64 0,.slice none 0 0] (0,0) _ rfl (by refine zB ?_;refine zae (cs:=#[.int .i64 0,.int .i64 0,.slice none 0 0]) ?_ 2 _ rfl;refine zB ?_;refine zae (cs:=#[.int .i64 0,.int .i64 0,.slice none 0 0]) ?_ 1 _ rfl;refine zB ?_;refine zae (cs:=#[.int .i64 0,.int .i64 0,.slice none 0 0]) ?_ 0 _ rfl;refine zB ?_;exact BK220.out) Try.underlying38 rfl (by kernel_rfl)) rfl ?_
        exact ⟨_,by first|rfl|(simp [errW_none,errW_some] <;> rfl)|(simp [*,errW_none,errW_some] <;> rfl),by first|exact Kd.R_nil _ _ _ _ _|exact Kd.N_nil _ _ _ _ _|exact Kd.V_nil _ _ _ _ _|exact Kd.Q_nil _ _ _ _ _|exact Kd.S_nil _ _ _ _ _,by repeat (first|(with_reducible first|exact HB.out|apply zai|apply zaf|apply zag|refine zac ?_ GE217.out|refine zac ?_ GE218.out|refine zac ?_ GE219.out|refine zac ?_ GE220.out)|exact HB.out)⟩
       ·replace c39:=Bool.eq_false_iff.mpr c39
        subst c39
        have H1:((zbI.f a2_0 a2_1 a2_2 a2_3).bind fun t228=>(if t228=true then (some (0,0,([]:List Int),0)) else ((za4.f kj28 a0_0 a0_1 a0_2 a0_3 a0_4 a0_5 a0_6 a0_7 a0_8 a0_9 a0_10 a0_11 a0_12 a0_13 l0_14 a0_15 a1_0 a1_1 a1_2 a1_3 a1_4).bind fun bt230=>(zax.l0 kj28 a2_1 a2_0 a2_1 a2_2 a2_3 a2_2 a2_3 ([]:List Int) bt230.1 bt230.2.1 bt230.2.2.1 bt230.2.2.2.1 bt230.2.2.2.2.1 bt230.2.2.2.2.2.1 bt230.2.2.2.2.2.2.1 bt230.2.2.2.2.2.2.2.1 bt230.2.2.2.2.2.2.2.2))))=some (r1,r2,r3,r4):=by rw [if_neg (show ¬ (false=true) by decide)] at H;exact H
        clear H
        have H:=H1
        clear H1
        replace H:=Option.bind_eq_some_iff.mp H
        obtain ⟨t228,A440,H⟩:=H
        replace H:(if t228=true then (some (0,0,([]:List Int),0)) else ((za4.f kj28 a0_0 a0_1 a0_2 a0_3 a0_4 a0_5 a0_6 a0_7 a0_8 a0_9 a0_10 a0_11 a0_12 a0_13 l0_14 a0_15 a1_0 a1_1 a1_2 a1_3 a1_4).bind fun bt230=>(zax.l0 kj28 a2_1 a2_0 a2_1 a2_2 a2_3 a2_2 a2_3 ([]:List Int) bt230.1 bt230.2.1 bt230.2.2.1 bt230.2.2.2.1 bt230.2.2.2.2.1 bt230.2.2.2.2.2.1 bt230.2.2.2.2.2.2.1 bt230.2.2.2.2.2.2.2.1 bt230.2.2.2.2.2.2.2.2)))=some (r1,r2,r3,r4):=H
        have A44:=Aside0.mk A440
        clear A440
        by_cases c45:t228=true
        ·subst c45
         have H1:(some (0,0,([]:List Int),0))=some (r1,r2,r3,r4):=by rw [if_pos rfl] at H;exact H
         clear H
         have H:=H1
         clear H1
         simp only [Option.some.injEq,Prod.mk.injEq] at H
         obtain ⟨rfl,rfl,rfl,rfl⟩:=H
         have hnb46:=NB219_217.out
         have hnc46:=NB217_219.out
         have hnb47:=NB219_218.out
         have hnc47:=NB218_219.out
         have hnb48:=NB219_220.out
         have hnc48:=NB220_219.out
         obtain ⟨hcz49_0,hcz49_1,hcz49_2,hcz49_3⟩:=zD4 BK219.out
         obtain ⟨hfz49_0,hfz49_1,hfz49_2,hfz49_3⟩:=zE4 BK219.out
         go_wp2_with (first|((with_reducible refine zal (f:=60) rfl ?_);refine goesL_ (some 39) rfl rfl Try.func60 (by kernel_rfl) rfl #[.agg #[.int .i64 a2_0,.int .i64 a2_1,.int .i64 a2_2,.int .i64 a2_3]] rfl zA ?_;(with_reducible refine (zbI.calls a2_0 a2_1 a2_2 a2_3 true _ A44.out).mono ?_);rintro e w50 ⟨rfl,hb⟩;refine ⟨_,rfl,?_⟩;replace BK217:=Aside0.mk (zaa (zB BK217.out) hb);replace BK218:=Aside0.mk (zaa (zB BK218.out) hb);replace BK219:=Aside0.mk (zaa (zB BK219.out) hb);replace BK220:=Aside0.mk (zaa (zB BK220.out) hb);replace HB:=Aside0.mk (zad (zL4 HB.out GE217.out GE218.out GE219.out GE220.out) hb);(try clear hb);(try clear hb2);(try clear hk);(try clear hi);have hnb51:=NB220_217.out;have hnc51:=NB217_220.out;have hnb52:=NB220_218.out;have hnc52:=NB218_220.out;obtain ⟨hcz53_0,hcz53_1,hcz53_2⟩:=zD3 BK220.out;obtain ⟨hfz53_0,hfz53_1,hfz53_2⟩:=zE3 BK220.out))
         refine bodyPost_ret (zbG rfl _ _ gb220 38 #[.int .i64 0,.int .i64 0,.slice none 0 0] (0,0) _ rfl (by refine zB ?_;refine zae (cs:=#[.int .i64 0,.int .i64 0,.slice none 0 0]) ?_ 2 _ rfl;refine zB ?_;refine zae (cs:=#[.int .i64 0,.int .i64 0,.slice none 0 0]) ?_ 1 _ rfl;refine zB ?_;refine zae (cs:=#[.int .i64 0,.int .i64 0,.slice none 0 0]) ?_ 0 _ rfl;refine zB ?_;exact BK220.out) Try.underlying38 rfl (by kernel_rfl)) rfl ?_
         exact ⟨_,by first|rfl|(simp [errW_none,errW_some] <;> rfl)|(simp [*,errW_none,errW_some] <;> rfl),by first|exact Kd.R_nil _ _ _ _ _|exact Kd.N_nil _ _ _ _ _|exact Kd.V_nil _ _ _ _ _|exact Kd.Q_nil _ _ _ _ _|exact Kd.S_nil _ _ _ _ _,by repeat (first|(with_reducible first|exact HB.out|apply zai|apply zaf|apply zag|refine zac ?_ GE217.out|refine zac ?_ GE218.out|refine zac ?_ GE219.out|refine zac ?_ GE220.out)|exact HB.out)⟩
        ·replace c45:=Bool.eq_false_iff.mpr c45
         subst c45
         have H1:((za4.f kj28 a0_0 a0_1 a0_2 a0_3 a0_4 a0_5 a0_6 a0_7 a0_8 a0_9 a0_10 a0_11 a0_12 a0_13 l0_14 a0_15 a1_0 a1_1 a1_2 a1_3 a1_4).bind fun bt230=>(zax.l0 kj28 a2_1 a2_0 a2_1 a2_2 a2_3 a2_2 a2_3 ([]:List Int) bt230.1 bt230.2.1 bt230.2.2.1 bt230.2.2.2.1 bt230.2.2.2.2.1 bt230.2.2.2.2.2.1 bt230.2.2.2.2.2.2.1 bt230.2.2.2.2.2.2.2.1 bt230.2.2.2.2.2.2.2.2))=some (r1,r2,r3,r4):=by rw [if_neg (show ¬ (false=true) by decide)] at H;exact H
         clear H
         have H:=H1
         clear H1
         replace H:=Option.bind_eq_some_iff.mp H
         obtain ⟨⟨t230,t231,t232,t233,t234,t235,t236,t237,t238⟩,A540,H⟩:=H
         replace H:(zax.l0 kj28 a2_1 a2_0 a2_1 a2_2 a2_3 a2_2 a2_3 ([]:List Int) t230 t231 t232 t233 t234 t235 t236 t237 t238)=some (r1,r2,r3,r4):=H
         have A54:=Aside0.mk A540
         clear A540
         have H':=Aside0.mk H
         clear H
         have hnb55:=NB219_217.out
         have hnc55:=NB217_219.out
         have hnb56:=NB219_218.out
         have hnc56:=NB218_219.out
         have hnb57:=NB219_220.out
         have hnc57:=NB220_219.out
         obtain ⟨hcz58_0,hcz58_1,hcz58_2,hcz58_3⟩:=zD4 BK219.out
         obtain ⟨hfz58_0,hfz58_1,hfz58_2,hfz58_3⟩:=zE4 BK219.out
         go_wp2_with (first|((with_reducible refine zal (f:=60) rfl ?_);refine goesL_ (some 39) rfl rfl Try.func60 (by kernel_rfl) rfl #[.agg #[.int .i64 a2_0,.int .i64 a2_1,.int .i64 a2_2,.int .i64 a2_3]] rfl zA ?_;(with_reducible refine (zbI.calls a2_0 a2_1 a2_2 a2_3 false _ A44.out).mono ?_);rintro e w59 ⟨rfl,hb⟩;refine ⟨_,rfl,?_⟩;replace BK217:=Aside0.mk (zaa (zB BK217.out) hb);replace BK218:=Aside0.mk (zaa (zB BK218.out) hb);replace BK219:=Aside0.mk (zaa (zB BK219.out) hb);replace BK220:=Aside0.mk (zaa (zB BK220.out) hb);replace HB:=Aside0.mk (zad (zL4 HB.out GE217.out GE218.out GE219.out GE220.out) hb);(try clear hb);(try clear hb2);(try clear hk);(try clear hi);obtain ⟨hcz60_0,hcz60_1,hcz60_2,hcz60_3⟩:=zD4 BK219.out;obtain ⟨hfz60_0,hfz60_1,hfz60_2,hfz60_3⟩:=zE4 BK219.out)|((with_reducible refine zaA (N:=9) rfl ?_);refine zav ?hg (N:=9) ?hd (cs:=#[.int .i64 0,.int .i64 0,.slice none 0 0]) (t:=38) ?hr ?_;(case hd=>rfl);(case hg=>rfl);(case hr=>first|(go_simp;done)|(go_simp;rfl));intro gb229 hg w61 hbox hb;have n0_:=Aside0.mk (zaa (zB BK217.out) hb);have n1_:=Aside0.mk (zaa (zB BK218.out) hb);have n2_:=Aside0.mk (zaa (zB BK219.out) hb);have n3_:=Aside0.mk (zaa (zB BK220.out) hb);have n4_:=Aside0.mk (zad (zL4 HB.out GE217.out GE218.out GE219.out GE220.out) hb);have n5_:=Aside0.mk (hbox);have n6_:=Aside0.mk ((zS hg (zL4 HB.out GE217.out GE218.out GE219.out GE220.out):w.heap.size≤gb229));have n7_:=Aside0.mk ((zS hg (zL4 HB.out GE217.out GE218.out GE219.out GE220.out):w.heap.size≤gb229));have n8_:=Aside0.mk ((by rw [hg];exact Nat.ne_of_lt (zao (zB BK217.out)):gb217≠gb229));have n9_:=Aside0.mk ((by rw [hg];exact Nat.ne_of_gt (zao (zB BK217.out)):gb229≠gb217));have n10_:=Aside0.mk ((by rw [hg];exact Nat.ne_of_lt (zao (zB BK218.out)):gb218≠gb229));have n11_:=Aside0.mk ((by rw [hg];exact Nat.ne_of_gt (zao (zB BK218.out)):gb229≠gb218));have n12_:=Aside0.mk ((by rw [hg];exact Nat.ne_of_lt (zao (zB BK219.out)):gb219≠gb229));have n13_:=Aside0.mk ((by rw [hg];exact Nat.ne_of_gt (zao (zB BK219.out)):gb229≠gb219));have n14_:=Aside0.mk ((by rw [hg];exact Nat.ne_of_lt (zao (zB BK220.out)):gb220≠gb229));have n15_:=Aside0.mk ((by rw [hg];exact Nat.ne_of_gt (zao (zB BK220.out)):gb229≠gb220));clear BK217;clear BK218;clear BK219;clear BK220;clear HB;have BK217:=n0_;have BK218:=n1_;have BK219:=n2_;have BK220:=n3_;have HB:=n4_;have BK229:=n5_;have GW229:=n6_;have GE229:=n7_;have NB217_229:=n8_;have NB229_217:=n9_;have NB218_229:=n10_;have NB229_218:=n11_;have NB219_229:=n12_;have NB229_219:=n13_;have NB220_229:=n14_;have NB229_220:=n15_;clear n0_ n1_ n2_ n3_ n4_ n5_ n6_ n7_ n8_ n9_ n10_ n11_ n12_ n13_ n14_ n15_;clear hb hbox hg;have hnb62:=NB229_217.out;have hnc62:=NB217_229.out;have hnb63:=NB229_218.out;have hnc63:=NB218_229.out;have hnb64:=NB229_219.out;have hnc64:=NB219_229.out;have hnb65:=NB229_220.out;have hnc65:=NB220_229.out;obtain ⟨hcz66_0,hcz66_1,hcz66_2⟩:=zD3 BK229.out;obtain ⟨hfz66_0,hfz66_1,hfz66_2⟩:=zE3 BK229.out;have hnb67:=NB217_218.out;have hnc67:=NB218_217.out;have hnb68:=NB217_220.out;have hnc68:=NB220_217.out;obtain ⟨hcz69_0,hcz69_1,hcz69_2,hcz69_3,hcz69_4,hcz69_5,hcz69_6,hcz69_7,hcz69_8,hcz69_9,hcz69_10,hcz69_11,hcz69_12,hcz69_13,hcz69_14,hcz69_15⟩:=zD16 BK217.out;obtain ⟨hfz69_0,hfz69_1,hfz69_2,hfz69_3,hfz69_4,hfz69_5,hfz69_6,hfz69_7,hfz69_8,hfz69_9,hfz69_10,hfz69_11,hfz69_12,hfz69_13,hfz69_14,hfz69_15⟩:=zE16 BK217.out;have hnb70:=NB218_220.out;have hnc70:=NB220_218.out;obtain ⟨hcz71_0,hcz71_1,hcz71_2,hcz71_3,hcz71_4⟩:=zD5 BK218.out;obtain ⟨hfz71_0,hfz71_1,hfz71_2,hfz71_3,hfz71_4⟩:=zE5 BK218.out)|((with_reducible refine zal (f:=61) rfl ?_);refine goesL_ (some 48) rfl rfl Try.func61 (by kernel_rfl) rfl #[.agg #[.int .i64 a0_0,.int .i64 a0_1,.int .i64 a0_2,.int .i64 a0_3,.int .i64 a0_4,.int .i64 a0_5,.int .i64 a0_6,.int .i64 a0_7,.int .i64 a0_8,.int .i64 a0_9,.int .i64 a0_10,.int .i64 a0_11,.int .i64 a0_12,.int .i64 a0_13,.slice A0_14 l0_14.length c0_14,.bool a0_15],.agg #[.int .i64 a1_0,.int .i64 a1_1,.int .i64 a1_2,.int .i64 a1_3,.int .i64 a1_4]] rfl zA ?_;(with_reducible refine (za4.calls kj28 a0_0 a0_1 a0_2 a0_3 a0_4 a0_5 a0_6 a0_7 a0_8 a0_9 a0_10 a0_11 a0_12 a0_13 _ _ l0_14 a0_15 a1_0 a1_1 a1_2 a1_3 a1_4 t230 t231 t232 t233 t234 t235 t236 t237 t238 _ ?side1 ?side2 A54.out).mono ?_);(case side1=>exact Kd.C_below HR0_14.out (zL5 HB.out GE217.out GE218.out GE219.out GE220.out GE229.out));(case side2=>exact HC0_14.out);rintro e w72 ⟨rfl,hb⟩;refine ⟨_,rfl,?_⟩;have n0_:=Aside0.mk (zaa (g:=gb217) (o:=.cells #[.int .i64 a0_0,.int .i64 a0_1,.int .i64 a0_2,.int .i64 a0_3,.int .i64 a0_4,.int .i64 a0_5,.int .i64 a0_6,.int .i64 a0_7,.int .i64 a0_8,.int .i64 a0_9,.int .i64 a0_10,.int .i64 a0_11,.int .i64 a0_12,.int .i64 a0_13,.slice A0_14 l0_14.length c0_14,.bool a0_15] 26 (0,0)) (by refine zB ?_;refine zab ?_ NB217_229.out _;refine zB ?_;refine zab ?_ NB217_229.out _;refine zB ?_;refine zab ?_ NB217_229.out _;refine zB ?_;exact BK217.out) hb);have n1_:=Aside0.mk (zaa (g:=gb218) (o:=.cells #[.int .i64 a1_0,.int .i64 a1_1,.int .i64 a1_2,.int .i64 a1_3,.int .i64 a1_4] 28 (0,0)) (by refine zB ?_;refine zab ?_ NB218_229.out _;refine zB ?_;refine zab ?_ NB218_229.out _;refine zB ?_;refine zab ?_ NB218_229.out _;refine zB ?_;exact BK218.out) hb);have n2_:=Aside0.mk (zaa (g:=gb219) (o:=.cells #[.int .i64 a2_0,.int .i64 a2_1,.int .i64 a2_2,.int .i64 a2_3] 32 (0,0)) (by refine zB ?_;refine zab ?_ NB219_229.out _;refine zB ?_;refine zab ?_ NB219_229.out _;refine zB ?_;refine zab ?_ NB219_229.out _;refine zB ?_;exact BK219.out) hb);have n3_:=Aside0.mk (zaa (g:=gb220) (o:=.cells #[.int .i64 0,.int .i64 0,.slice none 0 0] 38 (0,0)) (by refine zB ?_;refine zab ?_ NB220_229.out _;refine zB ?_;refine zab ?_ NB220_229.out _;refine zB ?_;refine zab ?_ NB220_229.out _;refine zB ?_;exact BK220.out) hb);have n4_:=Aside0.mk (zaa (g:=gb229) (o:=.cells #[.int .i64 a2_2,.int .i64 a2_3,.slice none 0 0] 38 (0,0)) (by refine zB ?_;refine zae (cs:=#[.int .i64 a2_2,.int .i64 a2_3,.slice none 0 0]) ?_ 2 _ rfl;refine zB ?_;refine zae (cs:=#[.int .i64 a2_2,.int .i64 0,.slice none 0 0]) ?_ 1 _ rfl;refine zB ?_;refine zae (cs:=#[.int .i64 0,.int .i64 0,.slice none 0 0]) ?_ 0 _ rfl;refine zB ?_;exact BK229.out) hb);have n5_:=Aside0.mk (zad (zL5 HB.out GE217.out GE218.out GE219.out GE220.out GE229.out) hb);clear BK217;clear BK218;clear BK219;clear BK220;clear BK229;clear HB;have BK217:=n0_;have BK218:=n1_;have BK219:=n2_;have BK220:=n3_;have BK229:=n4_;have HB:=n5_;clear n0_ n1_ n2_ n3_ n4_ n5_;(try clear hb);(try clear hb2);(try clear hk);(try clear hi))|((with_reducible refine zaA (N:=10) rfl ?_);refine zav ?hg (N:=10) ?hd (cs:=#[.int .i64 0,.int .i64 0,.int .i64 0,.int .i64 0,.int .i64 0,.int .i64 0,.int .i64 0,.int .i64 0,.int .i64 0]) (t:=88) ?hr ?_;(case hd=>rfl);(case hg=>rfl);(case hr=>first|(go_simp;done)|(go_simp;rfl));intro gb239 hg w73 hbox hb;have n0_:=Aside0.mk (zaa (zB BK217.out) hb);have n1_:=Aside0.mk (zaa (zB BK218.out) hb);have n2_:=Aside0.mk (zaa (zB BK219.out) hb);have n3_:=Aside0.mk (zaa (zB BK220.out) hb);have n4_:=Aside0.mk (zaa (zB BK229.out) hb);have n5_:=Aside0.mk (zad (zL5 HB.out GE217.out GE218.out GE219.out GE220.out GE229.out) hb);have n6_:=Aside0.mk (hbox);have n7_:=Aside0.mk ((zS hg (zL5 HB.out GE217.out GE218.out GE219.out GE220.out GE229.out):w.heap.size≤gb239));have n8_:=Aside0.mk ((zS hg (zL5 HB.out GE217.out GE218.out GE219.out GE220.out GE229.out):w.heap.size≤gb239));have n9_:=Aside0.mk ((by rw [hg];exact Nat.ne_of_lt (zao (zB BK217.out)):gb217≠gb239));have n10_:=Aside0.mk ((by rw [hg];exact Nat.ne_of_gt (zao (zB BK217.out)):gb239≠gb217));have n11_:=Aside0.mk ((by rw [hg];exact Nat.ne_of_lt (zao (zB BK218.out)):gb218≠gb239));have n12_:=Aside0.mk ((by rw [hg];exact Nat.ne_of_gt (zao (zB BK218.out)):gb239≠gb218));have n13_:=Aside0.mk ((by rw [hg];exact Nat.ne_of_lt (zao (zB BK219.out)):gb219≠gb239));have n14_:=Aside0.mk ((by rw [hg];exact Nat.ne_of_gt (zao (zB BK219.out)):gb239≠gb219));have n15_:=Aside0.mk ((by rw [hg];exact Nat.ne_of_lt (zao (zB BK220.out)):gb220≠gb239));have n16_:=Aside0.mk ((by rw [hg];exact Nat.ne_of_gt (zao (zB BK220.out)):gb239≠gb220));have n17_:=Aside0.mk ((by rw [hg];exact Nat.ne_of_lt (zao (zB BK229.out)):gb229≠gb239));have n18_:=Aside0.mk ((by rw [hg];exact Nat.ne_of_gt (zao (zB BK229.out)):gb239≠gb229));clear BK217;clear BK218;clear BK219;clear BK220;clear BK229;clear HB;have BK217:=n0_;have BK218:=n1_;have BK219:=n2_;have BK220:=n3_;have BK229:=n4_;have HB:=n5_;have BK239:=n6_;have GW239:=n7_;have GE239:=n8_;have NB217_239:=n9_;have NB239_217:=n10_;have NB218_239:=n11_;have NB239_218:=n12_;have NB219_239:=n13_;have NB239_219:=n14_;have NB220_239:=n15_;have NB239_220:=n16_;have NB229_239:=n17_;have NB239_229:=n18_;clear n0_ n1_ n2_ n3_ n4_ n5_ n6_ n7_ n8_ n9_ n10_ n11_ n12_ n13_ n14_ n15_ n16_ n17_ n18_;clear hb hbox hg;have hnb74:=NB239_217.out;have hnc74:=NB217_239.out;have hnb75:=NB239_218.out;have hnc75:=NB218_239.out;have hnb76:=NB239_219.out;have hnc76:=NB219_239.out;have hnb77:=NB239_220.out;have hnc77:=NB220_239.out;have hnb78:=NB239_229.out;have hnc78:=NB229_239.out;obtain ⟨hcz79_0,hcz79_1,hcz79_2,hcz79_3,hcz79_4,hcz79_5,hcz79_6,hcz79_7,hcz79_8⟩:=zD9 BK239.out;obtain ⟨hfz79_0,hfz79_1,hfz79_2,hfz79_3,hfz79_4,hfz79_5,hfz79_6,hfz79_7,hfz79_8⟩:=zE9 BK239.out;obtain ⟨hcz80_0,hcz80_1,hcz80_2,hcz80_3⟩:=zD4 BK219.out;obtain ⟨hfz80_0,hfz80_1,hfz80_2,hfz80_3⟩:=zE4 BK219.out))
         go_loopg [11] kj28 (fun kq v11 w'=>∃ (x11_3:Int) (x230002_3:List Int) (u230002:Value),v11 = .int .i64 x11_3∧Aside0 (zax.l0 kq x11_3 a2_0 a2_1 a2_2 a2_3 a2_2 a2_3 x230002_3 t230 t231 t232 t233 t234 t235 t236 t237 t238=some (r1,r2,r3,r4))∧Aside0 (kq≤kj28)∧Aside0 (Kd.R (Kd.int .i64) 3 w' w.heap.size (fun _=>True) u230002 x230002_3)∧Aside0 (w'.heap[gb217]? = some (.cells #[.int .i64 a0_0,.int .i64 a0_1,.int .i64 a0_2,.int .i64 a0_3,.int .i64 a0_4,.int .i64 a0_5,.int .i64 a0_6,.int .i64 a0_7,.int .i64 a0_8,.int .i64 a0_9,.int .i64 a0_10,.int .i64 a0_11,.int .i64 a0_12,.int .i64 a0_13,(.slice A0_14 l0_14.length c0_14),.bool a0_15] 26 (0,0)))∧Aside0 (w'.heap[gb218]? = some (.cells #[.int .i64 a1_0,.int .i64 a1_1,.int .i64 a1_2,.int .i64 a1_3,.int .i64 a1_4] 28 (0,0)))∧Aside0 (w'.heap[gb219]? = some (.cells #[.int .i64 a2_0,.int .i64 a2_1,.int .i64 a2_2,.int .i64 a2_3] 32 (0,0)))∧Aside0 (w'.heap[gb220]? = some (.cells #[.int .i64 0,.int .i64 0,(.slice none 0 0)] 38 (0,0)))∧Aside0 (w'.heap[gb229]? = some (.cells #[.int .i64 a2_2,.int .i64 a2_3,u230002] 38 (0,0)))∧Aside0 (w'.heap[gb239]? = some (.cells #[.int .i64 t230,.int .i64 t231,.int .i64 t232,.int .i64 t233,.int .i64 t234,.int .i64 t235,.int .i64 t236,.int .i64 t237,.int .i64 t238] 88 (0,0)))∧Aside0 (Below w.heap.size w w'))
         case atStart=>exact ⟨(a2_1),(([]:List Int)),(.slice none 0 0),zF,H',⟨Nat.le_refl _⟩,⟨by first|exact Kd.R_nil _ _ _ _ _|exact Kd.N_nil _ _ _ _ _|exact Kd.V_nil _ _ _ _ _|exact Kd.Q_nil _ _ _ _ _|exact Kd.S_nil _ _ _ _ _⟩,⟨by refine zB ?_;refine zab ?_ NB217_239.out _;refine zB ?_;refine zab ?_ NB217_239.out _;refine zB ?_;refine zab ?_ NB217_239.out _;refine zB ?_;refine zab ?_ NB217_239.out _;refine zB ?_;refine zab ?_ NB217_239.out _;refine zB ?_;refine zab ?_ NB217_239.out _;refine zB ?_;refine zab ?_ NB217_239.out _;refine zB ?_;refine zab ?_ NB217_239.out _;refine zB ?_;refine zab ?_ NB217_239.out _;refine zB ?_;exact BK217.out⟩,⟨by refine zB ?_;refine zab ?_ NB218_239.out _;refine zB ?_;refine zab ?_ NB218_239.out _;refine zB ?_;refine zab ?_ NB218_239.out _;refine zB ?_;refine zab ?_ NB218_239.out _;refine zB ?_;refine zab ?_ NB218_239.out _;refine zB ?_;refine zab ?_ NB218_239.out _;refine zB ?_;refine zab ?_ NB218_239.out _;refine zB ?_;refine zab ?_ NB218_239.out _;refine zB ?_;refine zab ?_ NB218_239.out _;refine zB ?_;exact BK218.out⟩,⟨by refine zB ?_;refine zab ?_ NB219_239.out _;refine zB ?_;refine zab ?_ NB219_239.out _;refine zB ?_;refine zab ?_ NB219_239.out _;refine zB ?_;refine zab ?_ NB219_239.out _;refine zB ?_;refine zab ?_ NB219_239.out _;refine zB ?_;refine zab ?_ NB219_239.out _;refine zB ?_;refine zab ?_ NB219_239.out _;refine zB ?_;refine zab ?_ NB219_239.out _;refine zB ?_;refine zab ?_ NB219_239.out _;refine zB ?_;exact BK219.out⟩,⟨by refine zB ?_;refine zab ?_ NB220_239.out _;refine zB ?_;refine zab ?_ NB220_239.out _;refine zB ?_;refine zab ?_ NB220_239.out _;refine zB ?_;refine zab ?_ NB220_239.out _;refine zB ?_;refine zab ?_ NB220_239.out _;refine zB ?_;refine zab ?_ NB220_239.out _;refine zB ?_;refine zab ?_ NB220_239.out _;refine zB ?_;refine zab ?_ NB220_239.out _;refine zB ?_;refine zab ?_ NB220_239.out _;refine zB ?_;exact BK220.out⟩,⟨by refine zB ?_;refine zab ?_ NB229_239.out _;refine zB ?_;refine zab ?_ NB229_239.out _;refine zB ?_;refine zab ?_ NB229_239.out _;refine zB ?_;refine zab ?_ NB229_239.out _;refine zB ?_;refine zab ?_ NB229_239.out _;refine zB ?_;refine zab ?_ NB229_239.out _;refine zB ?_;refine zab ?_ NB229_239.out _;refine zB ?_;refine zab ?_ NB229_239.out _;refine zB ?_;refine zab ?_ NB229_239.out _;refine zB ?_;exact BK229.out⟩,⟨by refine zB ?_;refine zae (cs:=#[.int .i64 t230,.int .i64 t231,.int .i64 t232,.int .i64 t233,.int .i64 t234,.int .i64 t235,.int .i64 t236,.int .i64 t237,.int .i64 0]) ?_ 8 _ rfl;refine zB ?_;refine zae (cs:=#[.int .i64 t230,.int .i64 t231,.int .i64 t232,.int .i64 t233,.int .i64 t234,.int .i64 t235,.int .i64 t236,.int .i64 0,.int .i64 0]) ?_ 7 _ rfl;refine zB ?_;refine zae (cs:=#[.int .i64 t230,.int .i64 t231,.int .i64 t232,.int .i64 t233,.int .i64 t234,.int .i64 t235,.int .i64 0,.int .i64 0,.int .i64 0]) ?_ 6 _ rfl;refine zB ?_;refine zae (cs:=#[.int .i64 t230,.int .i64 t231,.int .i64 t232,.int .i64 t233,.int .i64 t234,.int .i64 0,.int .i64 0,.int .i64 0,.int .i64 0]) ?_ 5 _ rfl;refine zB ?_;refine zae (cs:=#[.int .i64 t230,.int .i64 t231,.int .i64 t232,.int .i64 t233,.int .i64 0,.int .i64 0,.int .i64 0,.int .i64 0,.int .i64 0]) ?_ 4 _ rfl;refine zB ?_;refine zae (cs:=#[.int .i64 t230,.int .i64 t231,.int .i64 t232,.int .i64 0,.int .i64 0,.int .i64 0,.int .i64 0,.int .i64 0,.int .i64 0]) ?_ 3 _ rfl;refine zB ?_;refine zae (cs:=#[.int .i64 t230,.int .i64 t231,.int .i64 0,.int .i64 0,.int .i64 0,.int .i64 0,.int .i64 0,.int .i64 0,.int .i64 0]) ?_ 2 _ rfl;refine zB ?_;refine zae (cs:=#[.int .i64 t230,.int .i64 0,.int .i64 0,.int .i64 0,.int .i64 0,.int .i64 0,.int .i64 0,.int .i64 0,.int .i64 0]) ?_ 1 _ rfl;refine zB ?_;refine zae (cs:=#[.int .i64 0,.int .i64 0,.int .i64 0,.int .i64 0,.int .i64 0,.int .i64 0,.int .i64 0,.int .i64 0,.int .i64 0]) ?_ 0 _ rfl;refine zB ?_;exact BK239.out⟩,⟨by repeat (first|(with_reducible first|exact HB.out|apply zai|apply zaf|apply zag|refine zac ?_ GE217.out|refine zac ?_ GE218.out|refine zac ?_ GE219.out|refine zac ?_ GE220.out|refine zac ?_ GE229.out|refine zac ?_ GE239.out)|exact HB.out)⟩⟩
         case round=>
          clear H'
          try clear c1
          try clear c2
          try clear p2
          try clear c3
          try clear c4
          try clear c5
          try clear c5b0
          try clear c5b1
          try clear c6
          try clear c7
          try clear c11
          try clear c12
          try clear c13
          try clear c14
          try clear c17
          try clear c17b0
          try clear c19
          try clear c24
          try clear c25
          try clear c26
          try clear c27
          try clear c30
          try clear c30b0
          try clear c31
          try clear c32
          try clear c33
          try clear c35
          try clear c36
          try clear c37
          try clear c39
          try clear c40
          try clear c41
          try clear c42
          try clear c45
          try clear c46
          try clear c47
          try clear c48
          try clear c51
          try clear c52
          try clear c55
          try clear c56
          try clear c57
          try clear c59
          try clear c60
          try clear c61
          try clear c62
          try clear c63
          try clear c64
          try clear c65
          try clear c67
          try clear c68
          try clear c70
          try clear c74
          try clear c75
          try clear c76
          try clear c77
          try clear c78
          try clear hcz14_0 hcz14_1 hcz14_10 hcz14_11 hcz14_12 hcz14_13 hcz14_14 hcz14_15 hcz14_2 hcz14_3 hcz14_4 hcz14_5 hcz14_6 hcz14_7 hcz14_8 hcz14_9 hcz28_0 hcz28_1 hcz28_2 hcz34_0 hcz34_1 hcz34_2 hcz34_3 hcz38_0 hcz38_1 hcz38_2 hcz38_3 hcz43_0 hcz43_1 hcz43_2 hcz49_0 hcz49_1 hcz49_2 hcz49_3 hcz53_0 hcz53_1 hcz53_2 hcz58_0 hcz58_1 hcz58_2 hcz58_3 hcz60_0 hcz60_1 hcz60_2 hcz60_3 hcz66_0 hcz66_1 hcz66_2 hcz69_0 hcz69_1 hcz69_10 hcz69_11 hcz69_12 hcz69_13 hcz69_14 hcz69_15 hcz69_2 hcz69_3 hcz69_4 hcz69_5 hcz69_6 hcz69_7 hcz69_8 hcz69_9 hcz71_0 hcz71_1 hcz71_2 hcz71_3 hcz71_4 hcz79_0 hcz79_1 hcz79_2 hcz79_3 hcz79_4 hcz79_5 hcz79_6 hcz79_7 hcz79_8 hcz80_0 hcz80_1 hcz80_2 hcz80_3 hfz14_0 hfz14_1 hfz14_10 hfz14_11 hfz14_12 hfz14_13 hfz14_14 hfz14_15 hfz14_2 hfz14_3 hfz14_4 hfz14_5 hfz14_6 hfz14_7 hfz14_8 hfz14_9 hfz28_0 hfz28_1 hfz28_2 hfz34_0 hfz34_1 hfz34_2 hfz34_3 hfz38_0 hfz38_1 hfz38_2 hfz38_3 hfz43_0 hfz43_1 hfz43_2 hfz49_0 hfz49_1 hfz49_2 hfz49_3 hfz53_0 hfz53_1 hfz53_2 hfz58_0 hfz58_1 hfz58_2 hfz58_3 hfz60_0 hfz60_1 hfz60_2 hfz60_3 hfz66_0 hfz66_1 hfz66_2 hfz69_0 hfz69_1 hfz69_10 hfz69_11 hfz69_12 hfz69_13 hfz69_14 hfz69_15 hfz69_2 hfz69_3 hfz69_4 hfz69_5 hfz69_6 hfz69_7 hfz69_8 hfz69_9 hfz71_0 hfz71_1 hfz71_2 hfz71_3 hfz71_4 hfz79_0 hfz79_1 hfz79_2 hfz79_3 hfz79_4 hfz79_5 hfz79_6 hfz79_7 hfz79_8 hfz80_0 hfz80_1 hfz80_2 hfz80_3
          try clear p2
          obtain ⟨x11_3,x230002_3,u230002,rfl,HA,HK3,HO_230002,BK217,BK218,BK219,BK220,BK229,BK239,HB⟩:=hrel
          cases gk with
          | zero=>exact absurd HA.out (by simp [zax.l0])
          | succ k3=>
           have H:=HA.out
           clear HA
           simp only [zax.l0] at H
           by_cases c81:x11_3<(wrap64 (a2_1+a2_3))
           ·rw [if_pos c81] at H
            have c81b0:decide (x11_3<(wrap64 (a2_1+a2_3)))=true:=decide_eq_true c81
            clear c81
            have H':=Aside0.mk H
            clear H
            have hnb82:=NB219_217.out
            have hnc82:=NB217_219.out
            have hnb83:=NB219_218.out
            have hnc83:=NB218_219.out
            have hnb84:=NB219_220.out
            have hnc84:=NB220_219.out
            have hnb85:=NB219_229.out
            have hnc85:=NB229_219.out
            have hnb86:=NB219_239.out
            have hnc86:=NB239_219.out
            obtain ⟨hcz87_0,hcz87_1,hcz87_2,hcz87_3⟩:=zD4 BK219.out
            obtain ⟨hfz87_0,hfz87_1,hfz87_2,hfz87_3⟩:=zE4 BK219.out
            go_wp2
            go_loopg [12] k3 (fun kq v12 w'=>∃ (x12_4:Int) (x230002_4:List Int) (u230002:Value),v12 = .int .i64 x12_4∧Aside0 (zax.l1 kq x11_3 x12_4 a2_0 a2_1 a2_2 a2_3 a2_2 a2_3 x230002_4 t230 t231 t232 t233 t234 t235 t236 t237 t238=some (r1,r2,r3,r4))∧Aside0 (kq≤k3)∧Aside0 (Kd.R (Kd.int .i64) 3 w' w.heap.size (fun _=>True) u230002 x230002_4)∧Aside0 (w'.heap[gb217]? = some (.cells #[.int .i64 a0_0,.int .i64 a0_1,.int .i64 a0_2,.int .i64 a0_3,.int .i64 a0_4,.int .i64 a0_5,.int .i64 a0_6,.int .i64 a0_7,.int .i64 a0_8,.int .i64 a0_9,.int .i64 a0_10,.int .i64 a0_11,.int .i64 a0_12,.int .i64 a0_13,(.slice A0_14 l0_14.length c0_14),.bool a0_15] 26 (0,0)))∧Aside0 (w'.heap[gb218]? = some (.cells #[.int .i64 a1_0,.int .i64 a1_1,.int .i64 a1_2,.int .i64 a1_3,.int .i64 a1_4] 28 (0,0)))∧Aside0 (w'.heap[gb219]? = some (.cells #[.int .i64 a2_0,.int .i64 a2_1,.int .i64 a2_2,.int .i64 a2_3] 32 (0,0)))∧Aside0 (w'.heap[gb220]? = some (.cells #[.int .i64 0,.int .i64 0,(.slice none 0 0)] 38 (0,0)))∧Aside0 (w'.heap[gb229]? = some (.cells #[.int .i64 a2_2,.int .i64 a2_3,u230002] 38 (0,0)))∧Aside0 (w'.heap[gb239]? = some (.cells #[.int .i64 t230,.int .i64 t231,.int .i64 t232,.int .i64 t233,.int .i64 t234,.int .i64 t235,.int .i64 t236,.int .i64 t237,.int .i64 t238] 88 (0,0)))∧Aside0 (Below w.heap.size w w'))
            case atStart=>exact ⟨(a2_0),(x230002_3),(u230002),zF,H',⟨Nat.le_refl _⟩,⟨by (with_reducible repeat (first|apply Kd.R_alloc|apply Kd.R_drewN|apply Kd.R_drew));exact HO_230002.out⟩,⟨by refine zB ?_;exact BK217.out⟩,⟨by refine zB ?_;exact BK218.out⟩,⟨by refine zB ?_;exact BK219.out⟩,⟨by refine zB ?_;exact BK220.out⟩,⟨by refine zB ?_;exact BK229.out⟩,⟨by refine zB ?_;exact BK239.out⟩,⟨by repeat (first|(with_reducible first|exact HB.out|apply zai|apply zaf|apply zag|refine zac ?_ GE217.out|refine zac ?_ GE218.out|refine zac ?_ GE219.out|refine zac ?_ GE220.out|refine zac ?_ GE229.out|refine zac ?_ GE239.out)|exact HB.out)⟩⟩
            case round=>
             clear H'
             try clear c1
             try clear c2
             try clear p2
             try clear c3
             try clear c4
             try clear c5
             try clear c5b0
             try clear c5b1
             try clear c6
             try clear p6
             try clear c7
             try clear c8
             try clear c11
             try clear c12
             try clear c13
             try clear c14
             try clear c17
             try clear c17b0
             try clear c19
             try clear c24
             try clear c25
             try clear c26
             try clear c27
             try clear c30
             try clear c30b0
             try clear c31
             try clear c32
             try clear c33
             try clear c35
             try clear c36
             try clear c37
             try clear c39
             try clear c40
             try clear c41
             try clear c42
             try clear c45
             try clear c46
             try clear c47
             try clear c48
             try clear c51
             try clear c52
             try clear c55
             try clear c56
             try clear c57
             try clear c59
             try clear c60
             try clear c61
             try clear c62
             try clear c63
             try clear c64
             try clear p64
             try clear c65
             try clear c67
             try clear c68
             try clear c70
             try clear c74
             try clear c75
             try clear c76
             try clear c77
             try clear c78
             try clear c81
             try clear c81b0
             try clear c82
             try clear c83
             try clear c84
             try clear c85
             try clear c86
             try clear hcz14_0 hcz14_1 hcz14_10 hcz14_11 hcz14_12 hcz14_13 hcz14_14 hcz14_15 hcz14_2 hcz14_3 hcz14_4 hcz14_5 hcz14_6 hcz14_7 hcz14_8 hcz14_9 hcz28_0 hcz28_1 hcz28_2 hcz34_0 hcz34_1 hcz34_2 hcz34_3 hcz38_0 hcz38_1 hcz38_2 hcz38_3 hcz43_0 hcz43_1 hcz43_2 hcz49_0 hcz49_1 hcz49_2 hcz49_3 hcz53_0 hcz53_1 hcz53_2 hcz58_0 hcz58_1 hcz58_2 hcz58_3 hcz60_0 hcz60_1 hcz60_2 hcz60_3 hcz66_0 hcz66_1 hcz66_2 hcz69_0 hcz69_1 hcz69_10 hcz69_11 hcz69_12 hcz69_13 hcz69_14 hcz69_15 hcz69_2 hcz69_3 hcz69_4 hcz69_5 hcz69_6 hcz69_7 hcz69_8 hcz69_9 hcz71_0 hcz71_1 hcz71_2 hcz71_3 hcz71_4 hcz79_0 hcz79_1 hcz79_2 hcz79_3 hcz79_4 hcz79_5 hcz79_6 hcz79_7 hcz79_8 hcz80_0 hcz80_1 hcz80_2 hcz80_3 hcz87_0 hcz87_1 hcz87_2 hcz87_3 hfz14_0 hfz14_1 hfz14_10 hfz14_11 hfz14_12 hfz14_13 hfz14_14 hfz14_15 hfz14_2 hfz14_3 hfz14_4 hfz14_5 hfz14_6 hfz14_7 hfz14_8 hfz14_9 hfz28_0 hfz28_1 hfz28_2 hfz34_0 hfz34_1 hfz34_2 hfz34_3 hfz38_0 hfz38_1 hfz38_2 hfz38_3 hfz43_0 hfz43_1 hfz43_2 hfz49_0 hfz49_1 hfz49_2 hfz49_3 hfz53_0 hfz53_1 hfz53_2 hfz58_0 hfz58_1 hfz58_2 hfz58_3 hfz60_0 hfz60_1 hfz60_2 hfz60_3 hfz66_0 hfz66_1 hfz66_2 hfz69_0 hfz69_1 hfz69_10 hfz69_11 hfz69_12 hfz69_13 hfz69_14 hfz69_15 hfz69_2 hfz69_3 hfz69_4 hfz69_5 hfz69_6 hfz69_7 hfz69_8 hfz69_9 hfz71_0 hfz71_1 hfz71_2 hfz71_3 hfz71_4 hfz79_0 hfz79_1 hfz79_2 hfz79_3 hfz79_4 hfz79_5 hfz79_6 hfz79_7 hfz79_8 hfz80_0 hfz80_1 hfz80_2 hfz80_3 hfz87_0 hfz87_1 hfz87_2 hfz87_3
             try clear p2
             obtain ⟨x12_4,x230002_4,u230002,rfl,HA,HK4,HO_230002,BK217,BK218,BK219,BK220,BK229,BK239,HB⟩:=hrel
             cases gk with
             | zero=>exact absurd HA.out (by simp [zax.l1])
             | succ k4=>
              have H:=HA.out
              clear HA
              simp only [zax.l1] at H
              by_cases c88:x12_4<(wrap64 (a2_0+a2_2))
              ·rw [if_pos c88] at H
               have c88b0:decide (x12_4<(wrap64 (a2_0+a2_2)))=true:=decide_eq_true c88
               clear c88
               replace H:=Option.bind_eq_some_iff.mp H
               obtain ⟨t240,A890,H⟩:=H
               replace H:(if x230002_4.length<17592186044416 then (zax.l1 k4 x11_3 (wrap64 (x12_4+1)) a2_0 a2_1 a2_2 a2_3 a2_2 a2_3 (x230002_4 ++ [t240]) t230 t231 t232 t233 t234 t235 t236 t237 t238) else (none))=some (r1,r2,r3,r4):=H
               have A89:=Aside0.mk A890
               clear A890
               by_cases c90:x230002_4.length<17592186044416
               ·rw [if_pos c90] at H
                have LMc90:=Aside0.mk c90
                clear c90
                obtain ⟨y241,hy241⟩ : ∃ y_:List Int,y_=(x230002_4 ++ [t240]):=⟨_,rfl⟩
                replace H:(zax.l1 k4 x11_3 (wrap64 (x12_4+1)) a2_0 a2_1 a2_2 a2_3 a2_2 a2_3 y241 t230 t231 t232 t233 t234 t235 t236 t237 t238)=some (r1,r2,r3,r4):=by first|(rw [hy241];with_reducible exact H)|(have H2_:=(Option.bind_some _ _).symm.trans H;rw [hy241];with_reducible exact H2_)|(have H2_:=(Option.bind_some _ _).symm.trans H;with_reducible exact H2_)|with_reducible exact H|(rw [hy241];exact H)|exact H
                have Ny241:=Aside0.mk hy241
                clear hy241
                have H':=Aside0.mk H
                clear H
                have hnb91:=NB219_217.out
                have hnc91:=NB217_219.out
                have hnb92:=NB219_218.out
                have hnc92:=NB218_219.out
                have hnb93:=NB219_220.out
                have hnc93:=NB220_219.out
                have hnb94:=NB219_229.out
                have hnc94:=NB229_219.out
                have hnb95:=NB219_239.out
                have hnc95:=NB239_219.out
                obtain ⟨hcz96_0,hcz96_1,hcz96_2,hcz96_3⟩:=zD4 BK219.out
                obtain ⟨hfz96_0,hfz96_1,hfz96_2,hfz96_3⟩:=zE4 BK219.out
                try go_wp2
                replace HO_230002:=Aside0.mk (Kd.R_drew HO_230002.out)
                replace BK217:=Aside0.mk (zaK BK217.out)
                replace BK218:=Aside0.mk (zaK BK218.out)
                replace BK219:=Aside0.mk (zaK BK219.out)
                replace BK220:=Aside0.mk (zaK BK220.out)
                replace BK229:=Aside0.mk (zaK BK229.out)
                replace BK239:=Aside0.mk (zaK BK239.out)
                replace HB:=Aside0.mk (zag HB.out)
                refine start_ (n:=10) (S:=fun w'=>w'.cell? ⟨gb229,0,none⟩=some (.int .i64 a2_2)∧w'.cell? ⟨gb229,1,none⟩=some (.int .i64 a2_3)∧w'.cell? ⟨gb229,2,none⟩=some (u230002)∧w'.cell? ⟨gb239,0,none⟩=some (.int .i64 t230)∧w'.cell? ⟨gb239,1,none⟩=some (.int .i64 t231)∧w'.cell? ⟨gb239,2,none⟩=some (.int .i64 t232)∧w'.cell? ⟨gb239,3,none⟩=some (.int .i64 t233)∧w'.cell? ⟨gb239,4,none⟩=some (.int .i64 t234)∧w'.cell? ⟨gb239,5,none⟩=some (.int .i64 t235)∧w'.cell? ⟨gb239,6,none⟩=some (.int .i64 t236)∧w'.cell? ⟨gb239,7,none⟩=some (.int .i64 t237)∧w'.cell? ⟨gb239,8,none⟩=some (.int .i64 t238)) (ds:=[9]) #[false,false,false,false,false,false,false,false,false,false] (by kernel_rfl) rfl rfl ⟨zc BK229.out 0,zc BK229.out 1,zc BK229.out 2,zc BK239.out 0,zc BK239.out 1,zc BK239.out 2,zc BK239.out 3,zc BK239.out 4,zc BK239.out 5,zc BK239.out 6,zc BK239.out 7,zc BK239.out 8⟩ (fun hHeld=>?_);refine zbi zax.tab18 zax.bits18 (fun HT_ HW_=>?_)
                generalize wr.drew=w97 at HO_230002 BK217 BK218 BK219 BK220 BK229 BK239 HB hHeld ⊢
                refine pure_ (i:=0) (N:=some 71) (v:=?_) (a':=?_) #[true,false,false,false,false,false,false,false,false,false] rfl rfl (zap HT_.out (by kernel_rfl)) (fun _ _ _ h=>h) (Or.inl ⟨by rfl,?_⟩) ?_ ?_
                rotate_left
                ·intro w'
                 go_simp
                 with_reducible rfl
                rotate_left
                ·exact zP
                refine pure_ (i:=3) (N:=some 74) (v:=?_) (a':=?_) #[true,false,false,true,false,false,false,false,false,false] rfl rfl (zap HT_.out (by kernel_rfl)) (fun _ _ _ h=>h) (Or.inl ⟨by rfl,?_⟩) ?_ ?_
                rotate_left
                ·intro w'
                 go_simp
                 with_reducible rfl
                rotate_left
                ·exact zP
                refine pure_ (i:=4) (N:=some 75) (v:=?_) (a':=?_) #[true,false,false,true,true,false,false,false,false,false] rfl rfl (zap HT_.out (by kernel_rfl)) (fun _ _ _ h=>h) (Or.inl ⟨by rfl,?_⟩) ?_ ?_
                rotate_left
                ·intro w'
                 go_simp
                 with_reducible rfl
                rotate_left
                ·exact zP
                refine take_ (i:=1) (N:=some 72) (v:=?_) (a':=?_) #[true,true,false,true,true,false,false,false,false,false] rfl rfl (zaL HT_.out HW_.out (by kernel_rfl)) (fun _ _ _ h=>h) (Or.inl ⟨by rfl,?_⟩) hHeld ?_ ?_
                rotate_left
                ·rintro w' ⟨s0,s1,s2,s3,s4,s5,s6,s7,s8,s9,s10,s11⟩
                 go_simp
                 with_reducible rfl
                rotate_left
                ·exact zP
                refine take_ (i:=2) (N:=some 73) (v:=?_) (a':=?_) #[true,true,true,true,true,false,false,false,false,false] rfl rfl (zaL HT_.out HW_.out (by kernel_rfl)) (fun _ _ _ h=>h) (Or.inl ⟨by rfl,?_⟩) hHeld ?_ ?_
                rotate_left
                ·rintro w' ⟨s0,s1,s2,s3,s4,s5,s6,s7,s8,s9,s10,s11⟩
                 go_simp
                 with_reducible rfl
                rotate_left
                ·exact zP
                refine one_ (i:=5) (N:=some 76) #[true,true,true,true,true,true,false,false,false,false] rfl rfl (zaR HT_.out (by kernel_rfl)) (by decide) (fun K hK=>?_)
                refine goes_ Try.func62 (by kernel_rfl) rfl #[.agg #[.int .i64 t230,.int .i64 t231,.int .i64 t232,.int .i64 t233,.int .i64 t234,.int .i64 t235,.int .i64 t236,.int .i64 t237,.int .i64 t238],.int .i64 x12_4,.int .i64 x11_3] (by rfl) rfl rfl zA ?_
                with_reducible refine (zaQ.calls k4 t230 t231 t232 t233 t234 t235 t236 t237 t238 x12_4 x11_3 t240 _ A89.out).mono ?_
                rintro e w98 ⟨rfl,hb⟩
                refine ⟨_,rfl,?_⟩
                have n0_:=Aside0.mk (Kd.R_below (by (with_reducible repeat (first|apply Kd.R_alloc|apply Kd.R_drewN|apply Kd.R_drew));exact HO_230002.out) hb)
                have n1_:=Aside0.mk (zaa (zB BK217.out) hb)
                have n2_:=Aside0.mk (zaa (zB BK218.out) hb)
                have n3_:=Aside0.mk (zaa (zB BK219.out) hb)
                have n4_:=Aside0.mk (zaa (zB BK220.out) hb)
                have n5_:=Aside0.mk (zaa (zB BK229.out) hb)
                have n6_:=Aside0.mk (zaa (zB BK239.out) hb)
                have n7_:=Aside0.mk (zad (zL6 HB.out GE217.out GE218.out GE219.out GE220.out GE229.out GE239.out) hb)
                clear HO_230002
                clear BK217
                clear BK218
                clear BK219
                clear BK220
                clear BK229
                clear BK239
                clear HB
                have HO_230002:=n0_
                have BK217:=n1_
                have BK218:=n2_
                have BK219:=n3_
                have BK220:=n4_
                have BK229:=n5_
                have BK239:=n6_
                have HB:=n7_
                clear n0_ n1_ n2_ n3_ n4_ n5_ n6_ n7_
                (try clear hb)
                (try clear hb2)
                (try clear hk)
                (try clear hi)
                refine hK.out _ _ ⟨zc BK229.out 0,zc BK229.out 1,zc BK229.out 2,zc BK239.out 0,zc BK239.out 1,zc BK239.out 2,zc BK239.out 3,zc BK239.out 4,zc BK239.out 5,zc BK239.out 6,zc BK239.out 7,zc BK239.out 8⟩ (fun hHeld=>?_)
                clear hK K
                refine norm_ (a':=?_) ?_ ?_
                rotate_left
                ·show Act.put _ (some 76) _=_
                 exact zP
                refine one_ (i:=6) (N:=some 77) #[true,true,true,true,true,true,true,false,false,false] rfl rfl (zaR HT_.out (by kernel_rfl)) (by decide) (fun K hK=>?_)
                refine value_ (w1:=?_) (v:=?_) (by rfl) rfl ?_ ?_
                rotate_left 2
                ·go_simp
                 constructor
                 ·rfl
                 ·rfl
                refine hK.out _ _ ⟨(za2 (zaZ BK229.out _) 0).trans rfl,(za2 (zaZ BK229.out _) 1).trans rfl,(za2 (zaZ BK229.out _) 2).trans rfl,(za2 (zaZ BK239.out _) 0).trans rfl,(za2 (zaZ BK239.out _) 1).trans rfl,(za2 (zaZ BK239.out _) 2).trans rfl,(za2 (zaZ BK239.out _) 3).trans rfl,(za2 (zaZ BK239.out _) 4).trans rfl,(za2 (zaZ BK239.out _) 5).trans rfl,(za2 (zaZ BK239.out _) 6).trans rfl,(za2 (zaZ BK239.out _) 7).trans rfl,(za2 (zaZ BK239.out _) 8).trans rfl⟩ (fun hHeld=>?_)
                clear hK K
                refine norm_ (a':=?_) ?_ ?_
                rotate_left
                ·show Act.put _ (some 77) _=_
                 exact zP
                refine one_ (i:=7) (N:=some 78) #[true,true,true,true,true,true,true,true,false,false] rfl rfl (zaR HT_.out (by kernel_rfl)) (by decide) (fun K hK=>?_)
                refine Kd.R_append_step (Kd.int .i64) (w0:=w) w.heap.size (by rfl) (.tmp 72) (.tmp 77) 36 3 (.int .i64 0) 8 rfl Try.underlying36 info3 rfl (by decide) (by omega) u230002 x230002_4 t240 [.int .i64 t240] (fun _=>True) (fun _=>False) rfl rfl ?aP (fun _ hk=>hk.elim) ?aF ?aO ?aB ?aS ?aL ?_
                (case aP=>exact rfl)
                (case aB=>exact (zL6 HB.out GE217.out GE218.out GE219.out GE220.out GE229.out GE239.out))
                (case aF=>exact (fun _ _=>trivial))
                (case aO=>exact (by (with_reducible repeat (first|apply Kd.R_alloc|apply Kd.R_drewN|apply Kd.R_drew));exact HO_230002.out))
                (case aS=>exact (zbF (zL6 HB.out GE217.out GE218.out GE219.out GE220.out GE229.out GE239.out)))
                (case aL=>have:=LMc90.out;omega)
                intro v242 w99 ho hb hg hat
                rw [← Ny241.out] at ho
                have n0_:=Aside0.mk (zbH (g:=gb217) (o:=.cells #[.int .i64 a0_0,.int .i64 a0_1,.int .i64 a0_2,.int .i64 a0_3,.int .i64 a0_4,.int .i64 a0_5,.int .i64 a0_6,.int .i64 a0_7,.int .i64 a0_8,.int .i64 a0_9,.int .i64 a0_10,.int .i64 a0_11,.int .i64 a0_12,.int .i64 a0_13,.slice A0_14 l0_14.length c0_14,.bool a0_15] 26 (0,0)) (zB BK217.out) hg (Kd.R_ne HO_230002.out BK217.out (by decide)))
                have n1_:=Aside0.mk (zbH (g:=gb218) (o:=.cells #[.int .i64 a1_0,.int .i64 a1_1,.int .i64 a1_2,.int .i64 a1_3,.int .i64 a1_4] 28 (0,0)) (zB BK218.out) hg (Kd.R_ne HO_230002.out BK218.out (by decide)))
                have n2_:=Aside0.mk (zbH (g:=gb219) (o:=.cells #[.int .i64 a2_0,.int .i64 a2_1,.int .i64 a2_2,.int .i64 a2_3] 32 (0,0)) (zB BK219.out) hg (Kd.R_ne HO_230002.out BK219.out (by decide)))
                have n3_:=Aside0.mk (zbH (g:=gb220) (o:=.cells #[.int .i64 0,.int .i64 0,.slice none 0 0] 38 (0,0)) (zB BK220.out) hg (Kd.R_ne HO_230002.out BK220.out (by decide)))
                have n4_:=Aside0.mk (zbH (g:=gb229) (o:=.cells #[.int .i64 a2_2,.int .i64 a2_3,u230002] 38 (0,0)) (zB BK229.out) hg (Kd.R_ne HO_230002.out BK229.out (by decide)))
                have n5_:=Aside0.mk (zbH (g:=gb239) (o:=.cells #[.int .i64 t230,.int .i64 t231,.int .i64 t232,.int .i64 t233,.int .i64 t234,.int .i64 t235,.int .i64 t236,.int .i64 t237,.int .i64 t238] 88 (0,0)) (zB BK239.out) hg (Kd.R_ne HO_230002.out BK239.out (by decide)))
                have n6_:=Aside0.mk (hb)
                have n7_:=Aside0.mk (ho)
                clear BK217
                clear BK218
                clear BK219
                clear BK220
                clear BK229
                clear BK239
                clear HB
                clear HO_230002
                have BK217:=n0_
                have BK218:=n1_
                have BK219:=n2_
                have BK220:=n3_
                have BK229:=n4_
                have BK239:=n5_
                have HB:=n6_
                have HO243:=n7_
                clear n0_ n1_ n2_ n3_ n4_ n5_ n6_ n7_
                clear ho hb hg hat
                obtain ⟨Ao100,co100,eo100⟩:=Kd.R_slice HO243.out
                (first|subst eo100|(injection eo100 with f1_ f2_ f3_;have f4_:=f1_.symm;have f5_:=f3_.symm;clear f1_ f2_ f3_;subst f4_;subst f5_))
                refine hK.out _ _ ⟨zc BK229.out 0,zc BK229.out 1,zc BK229.out 2,zc BK239.out 0,zc BK239.out 1,zc BK239.out 2,zc BK239.out 3,zc BK239.out 4,zc BK239.out 5,zc BK239.out 6,zc BK239.out 7,zc BK239.out 8⟩ (fun hHeld=>?_)
                clear hK K
                refine norm_ (a':=?_) ?_ ?_
                rotate_left
                ·show Act.put _ (some 78) _=_
                 exact zP
                refine pure_ (i:=8) (N:=some 79) (v:=?_) (a':=?_) #[true,true,true,true,true,true,true,true,true,false] rfl rfl (zap HT_.out (by kernel_rfl)) (fun _ _ _ h=>h) (Or.inl ⟨by rfl,?_⟩) ?_ ?_
                rotate_left
                ·intro w'
                 go_simp
                 with_reducible rfl
                rotate_left
                ·exact zP
                refine last_ (i:=9) (N:=none) #[true,true,true,true,true,true,true,true,true,true] rfl rfl (zaR HT_.out (by kernel_rfl)) (by decide) (fun K hK=>?_)
                have hs101:w99.cell? ⟨gb229,2,none⟩=some (u230002):=zc BK229.out 2
                have hfs101:=zaB BK229.out 2
                have hns101_0:=NB217_229.out
                have hns101_1:=NB218_229.out
                have hns101_2:=NB219_229.out
                have hns101_3:=NB220_229.out
                have hns101_5:=NB239_229.out
                have hms101_0:=NB229_217.out
                have hms101_1:=NB229_218.out
                have hms101_2:=NB229_219.out
                have hms101_3:=NB229_220.out
                have hms101_5:=NB229_239.out
                refine skip_ (w1:=?_) (by rfl) rfl ?_ ?_
                rotate_left
                ·go_simp
                 rfl
                refine hK.out _ _ ?_
                clear hK K
                refine done_ (zbr HT_.out (by kernel_rfl)) ?_
                try go_wp2
                go_roundg k4
                case measure=>have:=HJ5.out;have:=HJ28.out;have:=HK3.out;have:=HK4.out;omega
                case rel=>exact ⟨(wrap64 (x12_4+1)),(y241),(.slice Ao100 y241.length co100),zF,H',⟨by have:=HJ5.out;have:=HJ28.out;have:=HK3.out;have:=HK4.out;omega⟩,⟨by (with_reducible repeat (first|apply Kd.R_alloc|apply Kd.R_drewN|apply Kd.R_drew));exact Kd.R_mono (Kd.R_far (p:=⟨gb229,2,none⟩) (Kd.R_types HO243.out BK229.out (by decide)) (fun _ hk=>hk.2) (.slice Ao100 y241.length co100)) (fun _ hk=>trivial)⟩,⟨by refine zB ?_;refine zab ?_ NB217_229.out _;refine zB ?_;exact BK217.out⟩,⟨by refine zB ?_;refine zab ?_ NB218_229.out _;refine zB ?_;exact BK218.out⟩,⟨by refine zB ?_;refine zab ?_ NB219_229.out _;refine zB ?_;exact BK219.out⟩,⟨by refine zB ?_;refine zab ?_ NB220_229.out _;refine zB ?_;exact BK220.out⟩,⟨by refine zB ?_;refine zae (cs:=#[.int .i64 a2_2,.int .i64 a2_3,u230002]) ?_ 2 _ rfl;refine zB ?_;exact BK229.out⟩,⟨by refine zB ?_;refine zab ?_ NB239_229.out _;refine zB ?_;exact BK239.out⟩,⟨by repeat (first|(with_reducible first|exact HB.out|apply zai|apply zaf|apply zag|refine zac ?_ GE217.out|refine zac ?_ GE218.out|refine zac ?_ GE219.out|refine zac ?_ GE220.out|refine zac ?_ GE229.out|refine zac ?_ GE239.out)|exact HB.out)⟩⟩
               ·rw [if_neg c90] at H
                exact absurd H (by simp)
              ·rw [if_neg c88] at H
               have c88b0:decide (x12_4<(wrap64 (a2_0+a2_2)))=false:=decide_eq_false c88
               clear c88
               have H':=Aside0.mk H
               clear H
               have hnb102:=NB219_217.out
               have hnc102:=NB217_219.out
               have hnb103:=NB219_218.out
               have hnc103:=NB218_219.out
               have hnb104:=NB219_220.out
               have hnc104:=NB220_219.out
               have hnb105:=NB219_229.out
               have hnc105:=NB229_219.out
               have hnb106:=NB219_239.out
               have hnc106:=NB239_219.out
               obtain ⟨hcz107_0,hcz107_1,hcz107_2,hcz107_3⟩:=zD4 BK219.out
               obtain ⟨hfz107_0,hfz107_1,hfz107_2,hfz107_3⟩:=zE4 BK219.out
               go_wp2
               go_roundg k4
               case measure=>have:=HJ5.out;have:=HJ28.out;have:=HK3.out;have:=HK4.out;omega
               case rel=>exact ⟨(wrap64 (x11_3+1)),(x230002_4),(u230002),zF,H',⟨by have:=HJ5.out;have:=HJ28.out;have:=HK3.out;have:=HK4.out;omega⟩,⟨by (with_reducible repeat (first|apply Kd.R_alloc|apply Kd.R_drewN|apply Kd.R_drew));exact HO_230002.out⟩,⟨by refine zB ?_;exact BK217.out⟩,⟨by refine zB ?_;exact BK218.out⟩,⟨by refine zB ?_;exact BK219.out⟩,⟨by refine zB ?_;exact BK220.out⟩,⟨by refine zB ?_;exact BK229.out⟩,⟨by refine zB ?_;exact BK239.out⟩,⟨by repeat (first|(with_reducible first|exact HB.out|apply zai|apply zaf|apply zag|refine zac ?_ GE217.out|refine zac ?_ GE218.out|refine zac ?_ GE219.out|refine zac ?_ GE220.out|refine zac ?_ GE229.out|refine zac ?_ GE239.out)|exact HB.out)⟩⟩
           ·rw [if_neg c81] at H
            have c81b0:decide (x11_3<(wrap64 (a2_1+a2_3)))=false:=decide_eq_false c81
            clear c81
            simp only [Option.some.injEq,Prod.mk.injEq] at H
            obtain ⟨rfl,rfl,rfl,rfl⟩:=H
            have hnb108:=NB219_217.out
            have hnc108:=NB217_219.out
            have hnb109:=NB219_218.out
            have hnc109:=NB218_219.out
            have hnb110:=NB219_220.out
            have hnc110:=NB220_219.out
            have hnb111:=NB219_229.out
            have hnc111:=NB229_219.out
            have hnb112:=NB219_239.out
            have hnc112:=NB239_219.out
            obtain ⟨hcz113_0,hcz113_1,hcz113_2,hcz113_3⟩:=zD4 BK219.out
            obtain ⟨hfz113_0,hfz113_1,hfz113_2,hfz113_3⟩:=zE4 BK219.out
            have hnb114:=NB229_217.out
            have hnc114:=NB217_229.out
            have hnb115:=NB229_218.out
            have hnc115:=NB218_229.out
            have hnb116:=NB229_220.out
            have hnc116:=NB220_229.out
            have hnb117:=NB229_239.out
            have hnc117:=NB239_229.out
            obtain ⟨hcz118_0,hcz118_1,hcz118_2⟩:=zD3 BK229.out
            obtain ⟨hfz118_0,hfz118_1,hfz118_2⟩:=zE3 BK229.out
            have hnb119:=NB220_217.out
            have hnc119:=NB217_220.out
            have hnb120:=NB220_218.out
            have hnc120:=NB218_220.out
            have hnb121:=NB220_239.out
            have hnc121:=NB239_220.out
            obtain ⟨hcz122_0,hcz122_1,hcz122_2⟩:=zD3 BK220.out
            obtain ⟨hfz122_0,hfz122_1,hfz122_2⟩:=zE3 BK220.out
            obtain ⟨Ao123,co123,eo123⟩:=Kd.R_slice HO_230002.out
            subst eo123
            go_wp2
            refine bodyPost_ret (zbG rfl _ _ gb220 38 #[.int .i64 a2_2,.int .i64 a2_3,.slice Ao123 x230002_3.length co123] (0,0) _ rfl (by refine zB ?_;refine zae (cs:=#[.int .i64 a2_2,.int .i64 a2_3,.slice none 0 0]) ?_ 2 _ rfl;refine zB ?_;refine zae (cs:=#[.int .i64 a2_2,.int .i64 0,.slice none 0 0]) ?_ 1 _ rfl;refine zB ?_;refine zae (cs:=#[.int .i64 0,.int .i64 0,.slice none 0 0]) ?_ 0 _ rfl;refine zB ?_;exact BK220.out) Try.underlying38 rfl (by kernel_rfl)) rfl ?_
            exact ⟨_,by first|rfl|(simp [errW_none,errW_some] <;> rfl)|(simp [*,errW_none,errW_some] <;> rfl),by (with_reducible repeat (first|apply Kd.R_alloc|apply Kd.R_drewN|apply Kd.R_drew));exact Kd.R_mono (Kd.R_far (p:=⟨gb220,2,none⟩) (Kd.R_far (p:=⟨gb220,1,none⟩) (Kd.R_far (p:=⟨gb220,0,none⟩) (Kd.R_types HO_230002.out BK220.out (by decide)) (fun _ hk=>hk.2) (.int .i64 a2_2)) (fun _ hk=>hk.2) (.int .i64 a2_3)) (fun _ hk=>hk.2) (.slice Ao123 x230002_3.length co123)) (fun _ hk=>trivial),by repeat (first|(with_reducible first|exact HB.out|apply zai|apply zaf|apply zag|refine zac ?_ GE217.out|refine zac ?_ GE218.out|refine zac ?_ GE219.out|refine zac ?_ GE220.out|refine zac ?_ GE229.out|refine zac ?_ GE239.out)|exact HB.out)⟩
 ·rw [if_neg c5] at H
  have c5b0:(t221==0)=false:=beq_eq_false_iff_ne.mpr c5
  have c5b1:(t221 != 0)=true:=bne_iff_ne.mpr c5
  simp only [Option.some.injEq,Prod.mk.injEq] at H
  obtain ⟨rfl,rfl,rfl,rfl⟩:=H
  go_enter Try.func19,Try.ntmps19
  go_wp2_with (first|((with_reducible refine zaA (N:=3) rfl ?_);refine zav ?hg (N:=3) ?hd (cs:=#[.int .i64 a0_0,.int .i64 a0_1,.int .i64 a0_2,.int .i64 a0_3,.int .i64 a0_4,.int .i64 a0_5,.int .i64 a0_6,.int .i64 a0_7,.int .i64 a0_8,.int .i64 a0_9,.int .i64 a0_10,.int .i64 a0_11,.int .i64 a0_12,.int .i64 a0_13,.slice A0_14 l0_14.length c0_14,.bool a0_15]) (t:=26) ?hr ?_;(case hd=>rfl);(case hg=>rfl);(case hr=>first|(go_simp;done)|(go_simp;rfl));intro gb217 hg w124 hbox hb;have n0_:=Aside0.mk (zad (zL HB.out) hb);have n1_:=Aside0.mk (hbox);have n2_:=Aside0.mk ((zS hg (zL HB.out):w.heap.size≤gb217));have n3_:=Aside0.mk ((zS hg (zL HB.out):w.heap.size≤gb217));clear HB;have HB:=n0_;have BK217:=n1_;have GW217:=n2_;have GE217:=n3_;clear n0_ n1_ n2_ n3_;clear hb hbox hg)|((with_reducible refine zaA (N:=4) rfl ?_);refine zav ?hg (N:=4) ?hd (cs:=#[.int .i64 a1_0,.int .i64 a1_1,.int .i64 a1_2,.int .i64 a1_3,.int .i64 a1_4]) (t:=28) ?hr ?_;(case hd=>rfl);(case hg=>rfl);(case hr=>first|(go_simp;done)|(go_simp;rfl));intro gb218 hg w125 hbox hb;have n0_:=Aside0.mk (zaa (zB BK217.out) hb);have n1_:=Aside0.mk (zad (zL1 HB.out GE217.out) hb);have n2_:=Aside0.mk (hbox);have n3_:=Aside0.mk ((zS hg (zL1 HB.out GE217.out):w.heap.size≤gb218));have n4_:=Aside0.mk ((zS hg (zL1 HB.out GE217.out):w.heap.size≤gb218));have n5_:=Aside0.mk ((by rw [hg];exact Nat.ne_of_lt (zao (zB BK217.out)):gb217≠gb218));have n6_:=Aside0.mk ((by rw [hg];exact Nat.ne_of_gt (zao (zB BK217.out)):gb218≠gb217));clear BK217;clear HB;have BK217:=n0_;have HB:=n1_;have BK218:=n2_;have GW218:=n3_;have GE218:=n4_;have NB217_218:=n5_;have NB218_217:=n6_;clear n0_ n1_ n2_ n3_ n4_ n5_ n6_;clear hb hbox hg)|((with_reducible refine zaA (N:=5) rfl ?_);refine zav ?hg (N:=5) ?hd (cs:=#[.int .i64 a2_0,.int .i64 a2_1,.int .i64 a2_2,.int .i64 a2_3]) (t:=32) ?hr ?_;(case hd=>rfl);(case hg=>rfl);(case hr=>first|(go_simp;done)|(go_simp;rfl));intro gb219 hg w126 hbox hb;have n0_:=Aside0.mk (zaa (zB BK217.out) hb);have n1_:=Aside0.mk (zaa (zB BK218.out) hb);have n2_:=Aside0.mk (zad (zL2 HB.out GE217.out GE218.out) hb);have n3_:=Aside0.mk (hbox);have n4_:=Aside0.mk ((zS hg (zL2 HB.out GE217.out GE218.out):w.heap.size≤gb219));have n5_:=Aside0.mk ((zS hg (zL2 HB.out GE217.out GE218.out):w.heap.size≤gb219));have n6_:=Aside0.mk ((by rw [hg];exact Nat.ne_of_lt (zao (zB BK217.out)):gb217≠gb219));have n7_:=Aside0.mk ((by rw [hg];exact Nat.ne_of_gt (zao (zB BK217.out)):gb219≠gb217));have n8_:=Aside0.mk ((by rw [hg];exact Nat.ne_of_lt (zao (zB BK218.out)):gb218≠gb219));have n9_:=Aside0.mk ((by rw [hg];exact Nat.ne_of_gt (zao (zB BK218.out)):gb219≠gb218));clear BK217;clear BK218;clear HB;have BK217:=n0_;have BK218:=n1_;have HB:=n2_;have BK219:=n3_;have GW219:=n4_;have GE219:=n5_;have NB217_219:=n6_;have NB219_217:=n7_;have NB218_219:=n8_;have NB219_218:=n9_;clear n0_ n1_ n2_ n3_ n4_ n5_ n6_ n7_ n8_ n9_;clear hb hbox hg)|((with_reducible refine zaA (N:=6) rfl ?_);refine zav ?hg (N:=6) ?hd (cs:=#[.int .i64 0,.int .i64 0,.slice none 0 0]) (t:=38) ?hr ?_;(case hd=>rfl);(case hg=>rfl);(case hr=>first|(go_simp;done)|(go_simp;rfl));intro gb220 hg w127 hbox hb;have n0_:=Aside0.mk (zaa (zB BK217.out) hb);have n1_:=Aside0.mk (zaa (zB BK218.out) hb);have n2_:=Aside0.mk (zaa (zB BK219.out) hb);have n3_:=Aside0.mk (zad (zL3 HB.out GE217.out GE218.out GE219.out) hb);have n4_:=Aside0.mk (hbox);have n5_:=Aside0.mk ((zS hg (zL3 HB.out GE217.out GE218.out GE219.out):w.heap.size≤gb220));have n6_:=Aside0.mk ((zS hg (zL3 HB.out GE217.out GE218.out GE219.out):w.heap.size≤gb220));have n7_:=Aside0.mk ((by rw [hg];exact Nat.ne_of_lt (zao (zB BK217.out)):gb217≠gb220));have n8_:=Aside0.mk ((by rw [hg];exact Nat.ne_of_gt (zao (zB BK217.out)):gb220≠gb217));have n9_:=Aside0.mk ((by rw [hg];exact Nat.ne_of_lt (zao (zB BK218.out)):gb218≠gb220));have n10_:=Aside0.mk ((by rw [hg];exact Nat.ne_of_gt (zao (zB BK218.out)):gb220≠gb218));have n11_:=Aside0.mk ((by rw [hg];exact Nat.ne_of_lt (zao (zB BK219.out)):gb219≠gb220));have n12_:=Aside0.mk ((by rw [hg];exact Nat.ne_of_gt (zao (zB BK219.out)):gb220≠gb219));clear BK217;clear BK218;clear BK219;clear HB;have BK217:=n0_;have BK218:=n1_;have BK219:=n2_;have HB:=n3_;have BK220:=n4_;have GW220:=n5_;have GE220:=n6_;have NB217_220:=n7_;have NB220_217:=n8_;have NB218_220:=n9_;have NB220_218:=n10_;have NB219_220:=n11_;have NB220_219:=n12_;clear n0_ n1_ n2_ n3_ n4_ n5_ n6_ n7_ n8_ n9_ n10_ n11_ n12_;clear hb hbox hg;have hnb128:=NB217_218.out;have hnc128:=NB218_217.out;have hnb129:=NB217_219.out;have hnc129:=NB219_217.out;have hnb130:=NB217_220.out;have hnc130:=NB220_217.out;obtain ⟨hcz131_0,hcz131_1,hcz131_2,hcz131_3,hcz131_4,hcz131_5,hcz131_6,hcz131_7,hcz131_8,hcz131_9,hcz131_10,hcz131_11,hcz131_12,hcz131_13,hcz131_14,hcz131_15⟩:=zD16 BK217.out;obtain ⟨hfz131_0,hfz131_1,hfz131_2,hfz131_3,hfz131_4,hfz131_5,hfz131_6,hfz131_7,hfz131_8,hfz131_9,hfz131_10,hfz131_11,hfz131_12,hfz131_13,hfz131_14,hfz131_15⟩:=zE16 BK217.out)|((with_reducible refine zal (f:=14) rfl ?_);refine goesL_ (some 14) rfl rfl Try.func14 (by kernel_rfl) rfl #[.agg #[.int .i64 a0_0,.int .i64 a0_1,.int .i64 a0_2,.int .i64 a0_3,.int .i64 a0_4,.int .i64 a0_5,.int .i64 a0_6,.int .i64 a0_7,.int .i64 a0_8,.int .i64 a0_9,.int .i64 a0_10,.int .i64 a0_11,.int .i64 a0_12,.int .i64 a0_13,.slice A0_14 l0_14.length c0_14,.bool a0_15]] rfl zA ?_;(with_reducible refine (zan.calls k a0_0 a0_1 a0_2 a0_3 a0_4 a0_5 a0_6 a0_7 a0_8 a0_9 a0_10 a0_11 a0_12 a0_13 _ _ l0_14 a0_15 t221 _ ?side1 ?side2 A4.out).mono ?_);(case side1=>repeat (first|exact (Kd.C_below HR0_14.out HB.out)|(with_reducible refine Kd.C_alloc ?_ _)|(with_reducible refine Kd.C_drewN ?_ _)|(with_reducible refine Kd.C_drew ?_)));(case side2=>exact HC0_14.out);rintro e w132 ⟨rfl,hb⟩;refine ⟨_,rfl,?_⟩;replace BK217:=Aside0.mk (zaa (zB BK217.out) hb);replace BK218:=Aside0.mk (zaa (zB BK218.out) hb);replace BK219:=Aside0.mk (zaa (zB BK219.out) hb);replace BK220:=Aside0.mk (zaa (zB BK220.out) hb);replace HB:=Aside0.mk (zad (zL4 HB.out GE217.out GE218.out GE219.out GE220.out) hb);(try clear hb);(try clear hb2);(try clear hk);(try clear hi);have hnb133:=NB220_218.out;have hnc133:=NB218_220.out;have hnb134:=NB220_219.out;have hnc134:=NB219_220.out;obtain ⟨hcz135_0,hcz135_1,hcz135_2⟩:=zD3 BK220.out;obtain ⟨hfz135_0,hfz135_1,hfz135_2⟩:=zE3 BK220.out))
  refine bodyPost_ret (zbG rfl _ _ gb220 38 #[.int .i64 0,.int .i64 0,.slice none 0 0] (0,0) _ rfl (by refine zB ?_;refine zae (cs:=#[.int .i64 0,.int .i64 0,.slice none 0 0]) ?_ 2 _ rfl;refine zB ?_;refine zae (cs:=#[.int .i64 0,.int .i64 0,.slice none 0 0]) ?_ 1 _ rfl;refine zB ?_;refine zae (cs:=#[.int .i64 0,.int .i64 0,.slice none 0 0]) ?_ 0 _ rfl;refine zB ?_;exact BK220.out) Try.underlying38 rfl (by kernel_rfl)) rfl ?_
  exact ⟨_,by first|rfl|(simp [errW_none,errW_some] <;> rfl)|(simp [*,errW_none,errW_some] <;> rfl),by first|exact Kd.R_nil _ _ _ _ _|exact Kd.N_nil _ _ _ _ _|exact Kd.V_nil _ _ _ _ _|exact Kd.Q_nil _ _ _ _ _|exact Kd.S_nil _ _ _ _ _,by repeat (first|(with_reducible first|exact HB.out|apply zai|apply zaf|apply zag|refine zac ?_ GE217.out|refine zac ?_ GE218.out|refine zac ?_ GE219.out|refine zac ?_ GE220.out)|exact HB.out)⟩
end Go.Proofs.Ytlilncnoohfcdaa.Da
