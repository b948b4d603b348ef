
import Derived.Test.YtlilncnoohfcdaaDax0
import Derived.Test.YtlilncnoohfcdaaDax2
import Derived.Test.YtlilncnoohfcdaaDax13
import Derived.Test.YtlilncnoohfcdaaDax14
import Derived.Test.YtlilncnoohfcdaaDax16
import Derived.Test.YtlilncnoohfcdaaDax17
namespace Go.Proofs.Ytlilncnoohfcdaa.Da
open Go.RowKit Go.Proofs.YtlilncnoohfcdaaW.PrintWords Go.Proofs.YtlilncnoohfcdaaW.PrintLast Go.Proofs.YtlilncnoohfcdaaW.PrintMore
attribute [local go_sem] max2_int min2_int zbo zbp zbc zbd zbj zbk   
set_option linter.unusedVariables false
set_option linter.unusedSimpArgs false
attribute [local go_sem high] eqA28
/-! ### imageeditorref27_Tip: function 20 -/
mutual
def zaj.j0:Nat→Bool→Int→Int→Int→Int→Int→Int→Int→Int→Int→Int→Int→Int→Int→Int→List (S120)→Bool→Int→Int→Int→Int→Int→Int→Int→Int→Int→Option (Int×Int×List Int×Int)
 | 0,_,_,_,_,_,_,_,_,_,_,_,_,_,_,_,_,_,_,_,_,_,_,_,_,_,_=>none
 | k+1,x26,x04,x05,x06,x07,x08,x09,x0a,x0b,x0c,x0d,x0e,x0f,x0g,x0h,x0i,x0j,x0k,x0l,x0m,x0n,x0o,x02,x03,x00,x01=>if x26=true then (some (0,0,([]:List Int),2)) else (if x00 > 256 then (zaj.j1 k true x04 x05 x06 x07 x08 x09 x0a x0b x0c x0d x0e x0f x0g x0h x0i x0j x0k x0l x0m x0n x0o x02 x03 x00 x01) else (zaj.j1 k (decide (x01 > 256)) x04 x05 x06 x07 x08 x09 x0a x0b x0c x0d x0e x0f x0g x0h x0i x0j x0k x0l x0m x0n x0o x02 x03 x00 x01))
def zaj.j1:Nat→Bool→Int→Int→Int→Int→Int→Int→Int→Int→Int→Int→Int→Int→Int→Int→List (S120)→Bool→Int→Int→Int→Int→Int→Int→Int→Int→Int→Option (Int×Int×List Int×Int)
 | 0,_,_,_,_,_,_,_,_,_,_,_,_,_,_,_,_,_,_,_,_,_,_,_,_,_,_=>none
 | k+1,x35,x04,x05,x06,x07,x08,x09,x0a,x0b,x0c,x0d,x0e,x0f,x0g,x0h,x0i,x0j,x0k,x0l,x0m,x0n,x0o,x02,x03,x00,x01=>if x35=true then (some (0,0,([]:List Int),15)) else ((zbg.f x02 x03 x00 x01).bind fun t357=>(if t357=true then (some (0,0,([]:List Int),0)) else (zaj.l0 k x03 x04 x05 x06 x07 x08 x09 x0a x0b x0c x0d x0e x0f x0g x0h x0i x0j x0k x0l x0m x0n x0o x02 x03 x00 x01 x00 x01 ([]:List Int))))
def zaj.l0:Nat→Int→Int→Int→Int→Int→Int→Int→Int→Int→Int→Int→Int→Int→Int→Int→List (S120)→Bool→Int→Int→Int→Int→Int→Int→Int→Int→Int→Int→Int→List Int→Option (Int×Int×List Int×Int)
 | 0,_,_,_,_,_,_,_,_,_,_,_,_,_,_,_,_,_,_,_,_,_,_,_,_,_,_,_,_,_=>none
 | k+1,x10,x04,x05,x06,x07,x08,x09,x0a,x0b,x0c,x0d,x0e,x0f,x0g,x0h,x0i,x0j,x0k,x0l,x0m,x0n,x0o,x02,x03,x00,x01,x0q,x0r,x0p=>if x10<(wrap64 (x03+x01)) then (zaj.l1 k x10 x02 x04 x05 x06 x07 x08 x09 x0a x0b x0c x0d x0e x0f x0g x0h x0i x0j x0k x0l x0m x0n x0o x02 x03 x00 x01 x0q x0r x0p) else (some (x0q,x0r,x0p,0))
def zaj.l1:Nat→Int→Int→Int→Int→Int→Int→Int→Int→Int→Int→Int→Int→Int→Int→Int→Int→List (S120)→Bool→Int→Int→Int→Int→Int→Int→Int→Int→Int→Int→Int→List Int→Option (Int×Int×List Int×Int)
 | 0,_,_,_,_,_,_,_,_,_,_,_,_,_,_,_,_,_,_,_,_,_,_,_,_,_,_,_,_,_,_=>none
 | k+1,x10,x11,x04,x05,x06,x07,x08,x09,x0a,x0b,x0c,x0d,x0e,x0f,x0g,x0h,x0i,x0j,x0k,x0l,x0m,x0n,x0o,x02,x03,x00,x01,x0q,x0r,x0p=>if x11<(wrap64 (x02+x00)) then ((zam.f k x04 x05 x06 x07 x08 x09 x0a x0b x0c x0d x0e x0f x0g x0h x0i x0j x0k x0l x0m x0n x0o x11 x10).bind fun t359=>(if x0p.length<17592186044416 then (zaj.l1 k x10 (wrap64 (x11+1)) x04 x05 x06 x07 x08 x09 x0a x0b x0c x0d x0e x0f x0g x0h x0i x0j x0k x0l x0m x0n x0o x02 x03 x00 x01 x0q x0r (x0p ++ [t359])) else (none))) else (zaj.l0 k (wrap64 (x10+1)) x04 x05 x06 x07 x08 x09 x0a x0b x0c x0d x0e x0f x0g x0h x0i x0j x0k x0l x0m x0n x0o x02 x03 x00 x01 x0q x0r x0p)
end
def zaj.f (k:Nat) (a0_0:Int) (a0_1:Int) (a0_2:Int) (a0_3:Int) (a0_4:Int) (a0_5:Int) (a0_6:Int) (a0_7:Int) (a0_8:Int) (a0_9:Int) (a0_10:Int) (a0_11:Int) (a0_12:Int) (a0_13:Int) (l0_14:List (S120)) (a0_15:Bool) (a1_0:Int) (a1_1:Int) (a1_2:Int) (a1_3:Int) (a1_4:Int) (a2_0:Int) (a2_1:Int) (a2_2:Int) (a2_3:Int):Option (Int×Int×List Int×Int):=(zah.f k a0_0 a0_1 a0_2 a0_3 a0_4 a0_5 a0_6 a0_7 a0_8 a0_9 a0_10 a0_11 a0_12 a0_13 l0_14 a0_15).bind fun t350=>(if t350=0 then ((zaM.f a1_0 a1_1 a1_2 a1_3 a1_4).bind fun bt351=>(if (!(bt351.1==a1_0)||(!(bt351.2.1==a1_1)||(!(bt351.2.2.1==a1_2)||(!(bt351.2.2.2.1==a1_3)||(!(bt351.2.2.2.2==a1_4))))))=true then (zaj.j0 k true a0_0 a0_1 a0_2 a0_3 a0_4 a0_5 a0_6 a0_7 a0_8 a0_9 a0_10 a0_11 a0_12 a0_13 l0_14 a0_15 a1_0 a1_1 a1_2 a1_3 a1_4 a2_0 a2_1 a2_2 a2_3) else ((zaY.f a2_0 a2_1 a2_2 a2_3).bind fun t356=>(zaj.j0 k (!t356) a0_0 a0_1 a0_2 a0_3 a0_4 a0_5 a0_6 a0_7 a0_8 a0_9 a0_10 a0_11 a0_12 a0_13 l0_14 a0_15 a1_0 a1_1 a1_2 a1_3 a1_4 a2_0 a2_1 a2_2 a2_3)))) else (some (0,0,([]:List Int),t350)))
def zaj.T4:Bool×List (List Nat×List Nat):=(true,[([],[]),([0],[0]),([],[]),([1,2],[1,2]),([3,1],[3]),([4],[4]),([5,4,4],[4,5]),([6,4],[4,6]),([4,7],[4,7])])
def zaj.B4:List Nat:=[0,1,0,7,15,31,63,127,255]
theorem zaj.tab4:rtab .any (opsOf Try.f20 4)=zaj.T4:=by kernel_rfl
theorem zaj.bits4:waitsOk zaj.T4.2 zaj.B4=true:=by kernel_rfl
def zaj.T17:Bool×List (List Nat×List Nat):=(true,[([],[]),([0],[0]),([],[]),([],[]),([],[]),([],[]),([2,3,4,5],[2,3,4,5]),([6],[6]),([1,7,6],[1,7]),([0,1,2,3,4,5,6,7,8],[]),([9,8,8,0,1,2,3,4,5,6,7,8],[8,9])])
def zaj.B17:List Nat:=[0,1,0,0,0,0,60,124,255,511,1023]
theorem zaj.tab17:rtab .any (opsOf Try.f20 17)=zaj.T17:=by kernel_rfl
theorem zaj.bits17:waitsOk zaj.T17.2 zaj.B17=true:=by kernel_rfl
set_option maxHeartbeats 8000000 in
set_option maxRecDepth 100000 in
theorem zaj.calls (k:Nat) (a0_0:Int) (a0_1:Int) (a0_2:Int) (a0_3:Int) (a0_4:Int) (a0_5:Int) (a0_6:Int) (a0_7:Int) (a0_8:Int) (a0_9:Int) (a0_10:Int) (a0_11:Int) (a0_12:Int) (a0_13:Int) (A0_14:Option Addr) (c0_14:Nat) (l0_14:List (S120)) (a0_15:Bool) (a1_0:Int) (a1_1:Int) (a1_2:Int) (a1_3:Int) (a1_4:Int) (a2_0:Int) (a2_1:Int) (a2_2:Int) (a2_3:Int) (r1:Int) (r2:Int) (r3:List Int) (r4:Int) (w:World) (hr0_14:Kd.C k120 w A0_14 l0_14.length l0_14) (hc0_14:l0_14.length≤c0_14) (h:zaj.f k a0_0 a0_1 a0_2 a0_3 a0_4 a0_5 a0_6 a0_7 a0_8 a0_9 a0_10 a0_11 a0_12 a0_13 l0_14 a0_15 a1_0 a1_1 a1_2 a1_3 a1_4 a2_0 a2_1 a2_2 a2_3=some (r1,r2,r3,r4)) :
 Calls Try.prog 20 #[.agg #[.int .i64 a0_0,.int .i64 a0_1,.int .i64 a0_2,.int .i64 a0_3,.int .i64 a0_4,.int .i64 a0_5,.int .i64 a0_6,.int .i64 a0_7,.int .i64 a0_8,.int .i64 a0_9,.int .i64 a0_10,.int .i64 a0_11,.int .i64 a0_12,.int .i64 a0_13,.slice A0_14 l0_14.length c0_14,.bool a0_15],.agg #[.int .i64 a1_0,.int .i64 a1_1,.int .i64 a1_2,.int .i64 a1_3,.int .i64 a1_4],.agg #[.int .i64 a2_0,.int .i64 a2_1,.int .i64 a2_2,.int .i64 a2_3]] w fun e w'=>∃ v2_:Value,e = .returned (.tuple #[.agg #[.int .i64 r1,.int .i64 r2,v2_],.int .i64 r4])∧Kd.R (Kd.int .i64) 3 w' w.heap.size (fun _=>True) v2_ r3∧Below w.heap.size w w':=by
 have hu26:=Try.underlying26
 have hu28:=Try.underlying28
 have hu32:=Try.underlying32
 have hu38:=Try.underlying38
 have HR0_14:=Aside0.mk hr0_14
 have HC0_14:=Aside0.mk hc0_14
 clear hr0_14 hc0_14
 have HB:=Aside0.mk (Below.refl w.heap.size w)
 have H:((zah.f k a0_0 a0_1 a0_2 a0_3 a0_4 a0_5 a0_6 a0_7 a0_8 a0_9 a0_10 a0_11 a0_12 a0_13 l0_14 a0_15).bind fun t350=>(if t350=0 then ((zaM.f a1_0 a1_1 a1_2 a1_3 a1_4).bind fun bt351=>(if (!(bt351.1==a1_0)||(!(bt351.2.1==a1_1)||(!(bt351.2.2.1==a1_2)||(!(bt351.2.2.2.1==a1_3)||(!(bt351.2.2.2.2==a1_4))))))=true then (zaj.j0 k true a0_0 a0_1 a0_2 a0_3 a0_4 a0_5 a0_6 a0_7 a0_8 a0_9 a0_10 a0_11 a0_12 a0_13 l0_14 a0_15 a1_0 a1_1 a1_2 a1_3 a1_4 a2_0 a2_1 a2_2 a2_3) else ((zaY.f a2_0 a2_1 a2_2 a2_3).bind fun t356=>(zaj.j0 k (!t356) a0_0 a0_1 a0_2 a0_3 a0_4 a0_5 a0_6 a0_7 a0_8 a0_9 a0_10 a0_11 a0_12 a0_13 l0_14 a0_15 a1_0 a1_1 a1_2 a1_3 a1_4 a2_0 a2_1 a2_2 a2_3)))) else (some (0,0,([]:List Int),t350))))=some (r1,r2,r3,r4):=h
 clear h
 replace H:=Option.bind_eq_some_iff.mp H
 obtain ⟨t350,A40,H⟩:=H
 replace H:(if t350=0 then ((zaM.f a1_0 a1_1 a1_2 a1_3 a1_4).bind fun bt351=>(if (!(bt351.1==a1_0)||(!(bt351.2.1==a1_1)||(!(bt351.2.2.1==a1_2)||(!(bt351.2.2.2.1==a1_3)||(!(bt351.2.2.2.2==a1_4))))))=true then (zaj.j0 k true a0_0 a0_1 a0_2 a0_3 a0_4 a0_5 a0_6 a0_7 a0_8 a0_9 a0_10 a0_11 a0_12 a0_13 l0_14 a0_15 a1_0 a1_1 a1_2 a1_3 a1_4 a2_0 a2_1 a2_2 a2_3) else ((zaY.f a2_0 a2_1 a2_2 a2_3).bind fun t356=>(zaj.j0 k (!t356) a0_0 a0_1 a0_2 a0_3 a0_4 a0_5 a0_6 a0_7 a0_8 a0_9 a0_10 a0_11 a0_12 a0_13 l0_14 a0_15 a1_0 a1_1 a1_2 a1_3 a1_4 a2_0 a2_1 a2_2 a2_3)))) else (some (0,0,([]:List Int),t350)))=some (r1,r2,r3,r4):=H
 have A4:=Aside0.mk A40
 clear A40
 by_cases c5:t350=0
 ·rw [if_pos c5] at H
  have c5b0:(t350==0)=true:=beq_iff_eq.mpr c5
  have c5b1:(t350 != 0)=false:=bne_eq_false_iff_eq.mpr c5
  clear c5
  have HC6:=Aside0.mk H
  clear H
  go_enter Try.func20,Try.ntmps20
  go_upto_region 4 with (first|((with_reducible refine zaA (N:=3) rfl ?_);refine zav ?hg (N:=3) ?hd (cs:=#[.int .i64 a0_0,.int .i64 a0_1,.int .i64 a0_2,.int .i64 a0_3,.int .i64 a0_4,.int .i64 a0_5,.int .i64 a0_6,.int .i64 a0_7,.int .i64 a0_8,.int .i64 a0_9,.int .i64 a0_10,.int .i64 a0_11,.int .i64 a0_12,.int .i64 a0_13,.slice A0_14 l0_14.length c0_14,.bool a0_15]) (t:=26) ?hr ?_;(case hd=>rfl);(case hg=>rfl);(case hr=>first|(go_simp;done)|(go_simp;rfl));intro gb346 hg w7 hbox hb;have n0_:=Aside0.mk (zad (zL HB.out) hb);have n1_:=Aside0.mk (hbox);have n2_:=Aside0.mk ((zS hg (zL HB.out):w.heap.size≤gb346));have n3_:=Aside0.mk ((zS hg (zL HB.out):w.heap.size≤gb346));clear HB;have HB:=n0_;have BK346:=n1_;have GW346:=n2_;have GE346:=n3_;clear n0_ n1_ n2_ n3_;clear hb hbox hg)|((with_reducible refine zaA (N:=4) rfl ?_);refine zav ?hg (N:=4) ?hd (cs:=#[.int .i64 a1_0,.int .i64 a1_1,.int .i64 a1_2,.int .i64 a1_3,.int .i64 a1_4]) (t:=28) ?hr ?_;(case hd=>rfl);(case hg=>rfl);(case hr=>first|(go_simp;done)|(go_simp;rfl));intro gb347 hg w8 hbox hb;have n0_:=Aside0.mk (zaa (zB BK346.out) hb);have n1_:=Aside0.mk (zad (zL1 HB.out GE346.out) hb);have n2_:=Aside0.mk (hbox);have n3_:=Aside0.mk ((zS hg (zL1 HB.out GE346.out):w.heap.size≤gb347));have n4_:=Aside0.mk ((zS hg (zL1 HB.out GE346.out):w.heap.size≤gb347));have n5_:=Aside0.mk ((by rw [hg];exact Nat.ne_of_lt (zao (zB BK346.out)):gb346≠gb347));have n6_:=Aside0.mk ((by rw [hg];exact Nat.ne_of_gt (zao (zB BK346.out)):gb347≠gb346));clear BK346;clear HB;have BK346:=n0_;have HB:=n1_;have BK347:=n2_;have GW347:=n3_;have GE347:=n4_;have NB346_347:=n5_;have NB347_346:=n6_;clear n0_ n1_ n2_ n3_ n4_ n5_ n6_;clear hb hbox hg)|((with_reducible refine zaA (N:=5) rfl ?_);refine zav ?hg (N:=5) ?hd (cs:=#[.int .i64 a2_0,.int .i64 a2_1,.int .i64 a2_2,.int .i64 a2_3]) (t:=32) ?hr ?_;(case hd=>rfl);(case hg=>rfl);(case hr=>first|(go_simp;done)|(go_simp;rfl));intro gb348 hg w9 hbox hb;have n0_:=Aside0.mk (zaa (zB BK346.out) hb);have n1_:=Aside0.mk (zaa (zB BK347.out) hb);have n2_:=Aside0.mk (zad (zL2 HB.out GE346.out GE347.out) hb);have n3_:=Aside0.mk (hbox);have n4_:=Aside0.mk ((zS hg (zL2 HB.out GE346.out GE347.out):w.heap.size≤gb348));have n5_:=Aside0.mk ((zS hg (zL2 HB.out GE346.out GE347.out):w.heap.size≤gb348));have n6_:=Aside0.mk ((by rw [hg];exact Nat.ne_of_lt (zao (zB BK346.out)):gb346≠gb348));have n7_:=Aside0.mk ((by rw [hg];exact Nat.ne_of_gt (zao (zB BK346.out)):gb348≠gb346));have n8_:=Aside0.mk ((by rw [hg];exact Nat.ne_of_lt (zao (zB BK347.out)):gb347≠gb348));have n9_:=Aside0.mk ((by rw [hg];exact Nat.ne_of_gt (zao (zB BK347.out)):gb348≠gb347));clear BK346;clear BK347;clear HB;have BK346:=n0_;have BK347:=n1_;have HB:=n2_;have BK348:=n3_;have GW348:=n4_;have GE348:=n5_;have NB346_348:=n6_;have NB348_346:=n7_;have NB347_348:=n8_;have NB348_347:=n9_;clear n0_ n1_ n2_ n3_ n4_ n5_ n6_ n7_ n8_ n9_;clear hb hbox hg)|((with_reducible refine zaA (N:=6) rfl ?_);refine zav ?hg (N:=6) ?hd (cs:=#[.int .i64 0,.int .i64 0,.slice none 0 0]) (t:=38) ?hr ?_;(case hd=>rfl);(case hg=>rfl);(case hr=>first|(go_simp;done)|(go_simp;rfl));intro gb349 hg w10 hbox hb;have n0_:=Aside0.mk (zaa (zB BK346.out) hb);have n1_:=Aside0.mk (zaa (zB BK347.out) hb);have n2_:=Aside0.mk (zaa (zB BK348.out) hb);have n3_:=Aside0.mk (zad (zL3 HB.out GE346.out GE347.out GE348.out) hb);have n4_:=Aside0.mk (hbox);have n5_:=Aside0.mk ((zS hg (zL3 HB.out GE346.out GE347.out GE348.out):w.heap.size≤gb349));have n6_:=Aside0.mk ((zS hg (zL3 HB.out GE346.out GE347.out GE348.out):w.heap.size≤gb349));have n7_:=Aside0.mk ((by rw [hg];exact Nat.ne_of_lt (zao (zB BK346.out)):gb346≠gb349));have n8_:=Aside0.mk ((by rw [hg];exact Nat.ne_of_gt (zao (zB BK346.out)):gb349≠gb346));have n9_:=Aside0.mk ((by rw [hg];exact Nat.ne_of_lt (zao (zB BK347.out)):gb347≠gb349));have n10_:=Aside0.mk ((by rw [hg];exact Nat.ne_of_gt (zao (zB BK347.out)):gb349≠gb347));have n11_:=Aside0.mk ((by rw [hg];exact Nat.ne_of_lt (zao (zB BK348.out)):gb348≠gb349));have n12_:=Aside0.mk ((by rw [hg];exact Nat.ne_of_gt (zao (zB BK348.out)):gb349≠gb348));clear BK346;clear BK347;clear BK348;clear HB;have BK346:=n0_;have BK347:=n1_;have BK348:=n2_;have HB:=n3_;have BK349:=n4_;have GW349:=n5_;have GE349:=n6_;have NB346_349:=n7_;have NB349_346:=n8_;have NB347_349:=n9_;have NB349_347:=n10_;have NB348_349:=n11_;have NB349_348:=n12_;clear n0_ n1_ n2_ n3_ n4_ n5_ n6_ n7_ n8_ n9_ n10_ n11_ n12_;clear hb hbox hg;have hnb11:=NB346_347.out;have hnc11:=NB347_346.out;have hnb12:=NB346_348.out;have hnc12:=NB348_346.out;have hnb13:=NB346_349.out;have hnc13:=NB349_346.out;obtain ⟨hcz14_0,hcz14_1,hcz14_2,hcz14_3,hcz14_4,hcz14_5,hcz14_6,hcz14_7,hcz14_8,hcz14_9,hcz14_10,hcz14_11,hcz14_12,hcz14_13,hcz14_14,hcz14_15⟩:=zD16 BK346.out;obtain ⟨hfz14_0,hfz14_1,hfz14_2,hfz14_3,hfz14_4,hfz14_5,hfz14_6,hfz14_7,hfz14_8,hfz14_9,hfz14_10,hfz14_11,hfz14_12,hfz14_13,hfz14_14,hfz14_15⟩:=zE16 BK346.out)|((with_reducible refine zal (f:=15) rfl ?_);refine goesL_ (some 13) rfl rfl Try.func15 (by kernel_rfl) rfl #[.agg #[.int .i64 a0_0,.int .i64 a0_1,.int .i64 a0_2,.int .i64 a0_3,.int .i64 a0_4,.int .i64 a0_5,.int .i64 a0_6,.int .i64 a0_7,.int .i64 a0_8,.int .i64 a0_9,.int .i64 a0_10,.int .i64 a0_11,.int .i64 a0_12,.int .i64 a0_13,.slice A0_14 l0_14.length c0_14,.bool a0_15]] rfl zA ?_;(with_reducible refine (zah.calls k a0_0 a0_1 a0_2 a0_3 a0_4 a0_5 a0_6 a0_7 a0_8 a0_9 a0_10 a0_11 a0_12 a0_13 _ _ l0_14 a0_15 t350 _ ?side1 ?side2 A4.out).mono ?_);(case side1=>repeat (first|exact (Kd.C_below HR0_14.out HB.out)|(with_reducible refine Kd.C_alloc ?_ _)|(with_reducible refine Kd.C_drewN ?_ _)|(with_reducible refine Kd.C_drew ?_)));(case side2=>exact HC0_14.out);rintro e w15 ⟨rfl,hb⟩;refine ⟨_,rfl,?_⟩;replace BK346:=Aside0.mk (zaa (zB BK346.out) hb);replace BK347:=Aside0.mk (zaa (zB BK347.out) hb);replace BK348:=Aside0.mk (zaa (zB BK348.out) hb);replace BK349:=Aside0.mk (zaa (zB BK349.out) hb);replace HB:=Aside0.mk (zad (zL4 HB.out GE346.out GE347.out GE348.out GE349.out) hb);(try clear hb);(try clear hb2);(try clear hk);(try clear hi)))
  (try simp only [Act.put,List.setIfInBounds_toArray,List.set_cons_zero,List.set_cons_succ])
  go_cut [26] (fun v26 wc=>∃ (kq:Nat) (x26_5:Bool),v26 = .bool x26_5∧Aside0 (zaj.j0 kq x26_5 a0_0 a0_1 a0_2 a0_3 a0_4 a0_5 a0_6 a0_7 a0_8 a0_9 a0_10 a0_11 a0_12 a0_13 l0_14 a0_15 a1_0 a1_1 a1_2 a1_3 a1_4 a2_0 a2_1 a2_2 a2_3=some (r1,r2,r3,r4))∧Aside0 (kq≤k)∧Aside0 (wc.heap[gb346]? = some (.cells #[.int .i64 a0_0,.int .i64 a0_1,.int .i64 a0_2,.int .i64 a0_3,.int .i64 a0_4,.int .i64 a0_5,.int .i64 a0_6,.int .i64 a0_7,.int .i64 a0_8,.int .i64 a0_9,.int .i64 a0_10,.int .i64 a0_11,.int .i64 a0_12,.int .i64 a0_13,(.slice A0_14 l0_14.length c0_14),.bool a0_15] 26 (0,0)))∧Aside0 (wc.heap[gb347]? = some (.cells #[.int .i64 a1_0,.int .i64 a1_1,.int .i64 a1_2,.int .i64 a1_3,.int .i64 a1_4] 28 (0,0)))∧Aside0 (wc.heap[gb348]? = some (.cells #[.int .i64 a2_0,.int .i64 a2_1,.int .i64 a2_2,.int .i64 a2_3] 32 (0,0)))∧Aside0 (wc.heap[gb349]? = some (.cells #[.int .i64 0,.int .i64 0,(.slice none 0 0)] 38 (0,0)))∧Aside0 (Below w.heap.size w wc))
  case first=>
   have H:=HC6.out
   clear HC6
   replace H:=Option.bind_eq_some_iff.mp H
   obtain ⟨⟨t351,t352,t353,t354,t355⟩,A160,H⟩:=H
   replace H:(if (!(t351==a1_0)||(!(t352==a1_1)||(!(t353==a1_2)||(!(t354==a1_3)||(!(t355==a1_4))))))=true then (zaj.j0 k true a0_0 a0_1 a0_2 a0_3 a0_4 a0_5 a0_6 a0_7 a0_8 a0_9 a0_10 a0_11 a0_12 a0_13 l0_14 a0_15 a1_0 a1_1 a1_2 a1_3 a1_4 a2_0 a2_1 a2_2 a2_3) else ((zaY.f a2_0 a2_1 a2_2 a2_3).bind fun t356=>(zaj.j0 k (!t356) a0_0 a0_1 a0_2 a0_3 a0_4 a0_5 a0_6 a0_7 a0_8 a0_9 a0_10 a0_11 a0_12 a0_13 l0_14 a0_15 a1_0 a1_1 a1_2 a1_3 a1_4 a2_0 a2_1 a2_2 a2_3)))=some (r1,r2,r3,r4):=H
   have A16:=Aside0.mk A160
   clear A160
   by_cases c17:(!(t351==a1_0)||(!(t352==a1_1)||(!(t353==a1_2)||(!(t354==a1_3)||(!(t355==a1_4))))))=true
   ·rw [if_pos c17] at H
    have c17b0:(!(t351==a1_0)||(!(t352==a1_1)||(!(t353==a1_2)||(!(t354==a1_3)||(!(t355==a1_4))))))=true:=c17
    clear c17
    (first|rw [c17b0]|(simp only [i64_w,i32_w];rw [c17b0])|skip)
    have H':=Aside0.mk H
    clear H
    try go_wp2
    replace BK346:=Aside0.mk (zaK BK346.out)
    replace BK347:=Aside0.mk (zaK BK347.out)
    replace BK348:=Aside0.mk (zaK BK348.out)
    replace BK349:=Aside0.mk (zaK BK349.out)
    replace HB:=Aside0.mk (zag HB.out)
    refine start_ (n:=9) (S:=fun w'=>w'.cell? ⟨gb347,0,none⟩=some (.int .i64 a1_0)∧w'.cell? ⟨gb347,1,none⟩=some (.int .i64 a1_1)∧w'.cell? ⟨gb347,2,none⟩=some (.int .i64 a1_2)∧w'.cell? ⟨gb347,3,none⟩=some (.int .i64 a1_3)∧w'.cell? ⟨gb347,4,none⟩=some (.int .i64 a1_4)) (ds:=[]) #[false,false,false,false,false,false,false,false,false] (by kernel_rfl) rfl rfl ⟨zc BK347.out 0,zc BK347.out 1,zc BK347.out 2,zc BK347.out 3,zc BK347.out 4⟩ (fun hHeld=>?_);refine zbi zaj.tab4 zaj.bits4 (fun HT_ HW_=>?_)
    generalize w15.drew=w18 at BK346 BK347 BK348 BK349 HB hHeld ⊢
    refine take_ (i:=0) (N:=some 18) (v:=?_) (a':=?_) #[true,false,false,false,false,false,false,false,false] rfl rfl (zaL HT_.out HW_.out (by kernel_rfl)) (fun _ _ _ h=>h) (Or.inl ⟨by rfl,?_⟩) hHeld ?_ ?_
    rotate_left
    ·rintro w' ⟨s0,s1,s2,s3,s4⟩
     go_simp
     with_reducible rfl
    rotate_left
    ·exact zP
    refine take_ (i:=2) (N:=some 20) (v:=?_) (a':=?_) #[true,false,true,false,false,false,false,false,false] rfl rfl (zaL HT_.out HW_.out (by kernel_rfl)) (fun _ _ _ h=>h) (Or.inl ⟨by rfl,?_⟩) hHeld ?_ ?_
    rotate_left
    ·rintro w' ⟨s0,s1,s2,s3,s4⟩
     go_simp
     with_reducible rfl
    rotate_left
    ·exact zP
    refine one_ (i:=1) (N:=some 19) #[true,true,true,false,false,false,false,false,false] rfl rfl (zaR HT_.out (by kernel_rfl)) (by decide) (fun K hK=>?_)
    refine goes_ Try.func22 (by kernel_rfl) rfl #[.agg #[.int .i64 a1_0,.int .i64 a1_1,.int .i64 a1_2,.int .i64 a1_3,.int .i64 a1_4]] (by rfl) rfl rfl zA ?_
    with_reducible refine (zaM.calls a1_0 a1_1 a1_2 a1_3 a1_4 t351 t352 t353 t354 t355 _ A16.out).mono ?_
    rintro e w19 ⟨rfl,hb⟩
    refine ⟨_,rfl,?_⟩
    replace BK346:=Aside0.mk (zaa (zB BK346.out) hb)
    replace BK347:=Aside0.mk (zaa (zB BK347.out) hb)
    replace BK348:=Aside0.mk (zaa (zB BK348.out) hb)
    replace BK349:=Aside0.mk (zaa (zB BK349.out) hb)
    replace HB:=Aside0.mk (zad (zL4 HB.out GE346.out GE347.out GE348.out GE349.out) hb)
    (try clear hb)
    (try clear hb2)
    (try clear hk)
    (try clear hi)
    refine hK.out _ _ ⟨zc BK347.out 0,zc BK347.out 1,zc BK347.out 2,zc BK347.out 3,zc BK347.out 4⟩ (fun hHeld=>?_)
    clear hK K
    refine norm_ (a':=?_) ?_ ?_
    rotate_left
    ·show Act.put _ (some 19) _=_
     exact zP
    refine pure_ (i:=3) (N:=some 21) (v:=?_) (a':=?_) #[true,true,true,true,false,false,false,false,false] rfl rfl (zap HT_.out (by kernel_rfl)) (fun _ _ _ h=>h) (Or.inl ⟨by rfl,?_⟩) ?_ ?_
    rotate_left
    ·intro w'
     go_simp
     with_reducible rfl
    rotate_left
    ·exact zP
    refine pure_ (i:=4) (N:=some 22) (v:=?_) (a':=?_) #[true,true,true,true,true,false,false,false,false] rfl rfl (zap HT_.out (by kernel_rfl)) (fun _ _ _ h=>h) (Or.inl ⟨by rfl,?_⟩) ?_ ?_
    rotate_left
    ·intro w'
     go_simp
     with_reducible rfl
    rotate_left
    ·exact zP
    refine pure_ (i:=5) (N:=some 23) (v:=undef) (a':=?_) #[true,true,true,true,true,true,false,false,false] rfl rfl (zap HT_.out (by kernel_rfl)) (fun _ _ _ h=>h) (Or.inr ⟨by rfl,rfl⟩) ?_ ?_
    rotate_left
    ·exact zP
    refine pure_ (i:=6) (N:=some 24) (v:=undef) (a':=?_) #[true,true,true,true,true,true,true,false,false] rfl rfl (zap HT_.out (by kernel_rfl)) (fun _ _ _ h=>h) (Or.inr ⟨by rfl,rfl⟩) ?_ ?_
    rotate_left
    ·exact zP
    refine pure_ (i:=7) (N:=some 25) (v:=undef) (a':=?_) #[true,true,true,true,true,true,true,true,false] rfl rfl (zap HT_.out (by kernel_rfl)) (fun _ _ _ h=>h) (Or.inr ⟨by rfl,rfl⟩) ?_ ?_
    rotate_left
    ·exact zP
    refine pure_ (i:=8) (N:=some 26) (v:=?_) (a':=?_) #[true,true,true,true,true,true,true,true,true] rfl rfl (zap HT_.out (by kernel_rfl)) (fun _ _ _ h=>h) (Or.inl ⟨by rfl,?_⟩) ?_ ?_
    rotate_left
    ·intro w'
     go_simp
     with_reducible rfl
    rotate_left
    ·exact zP
    refine done_ (zbr HT_.out (by kernel_rfl)) ?_
    try go_wp2
    go_meet
    case rel=>exact ⟨_,(true),zF,H',⟨by first|omega|exact Nat.le_refl _⟩,⟨by refine zB ?_;exact BK346.out⟩,⟨by refine zB ?_;exact BK347.out⟩,⟨by refine zB ?_;exact BK348.out⟩,⟨by refine zB ?_;exact BK349.out⟩,⟨by repeat (first|(with_reducible first|exact HB.out|apply zai|apply zaf|apply zag|refine zac ?_ GE346.out|refine zac ?_ GE347.out|refine zac ?_ GE348.out|refine zac ?_ GE349.out)|exact HB.out)⟩⟩
   ·rw [if_neg c17] at H
    have c17b0:(!(t351==a1_0)||(!(t352==a1_1)||(!(t353==a1_2)||(!(t354==a1_3)||(!(t355==a1_4))))))=false:=by simpa using c17
    clear c17
    (first|rw [c17b0]|(simp only [i64_w,i32_w];rw [c17b0])|skip)
    replace H:=Option.bind_eq_some_iff.mp H
    obtain ⟨t356,A200,H⟩:=H
    replace H:(zaj.j0 k (!t356) a0_0 a0_1 a0_2 a0_3 a0_4 a0_5 a0_6 a0_7 a0_8 a0_9 a0_10 a0_11 a0_12 a0_13 l0_14 a0_15 a1_0 a1_1 a1_2 a1_3 a1_4 a2_0 a2_1 a2_2 a2_3)=some (r1,r2,r3,r4):=H
    have A20:=Aside0.mk A200
    clear A200
    have H':=Aside0.mk H
    clear H
    try go_wp2
    replace BK346:=Aside0.mk (zaK BK346.out)
    replace BK347:=Aside0.mk (zaK BK347.out)
    replace BK348:=Aside0.mk (zaK BK348.out)
    replace BK349:=Aside0.mk (zaK BK349.out)
    replace HB:=Aside0.mk (zag HB.out)
    refine start_ (n:=9) (S:=fun w'=>w'.cell? ⟨gb347,0,none⟩=some (.int .i64 a1_0)∧w'.cell? ⟨gb347,1,none⟩=some (.int .i64 a1_1)∧w'.cell? ⟨gb347,2,none⟩=some (.int .i64 a1_2)∧w'.cell? ⟨gb347,3,none⟩=some (.int .i64 a1_3)∧w'.cell? ⟨gb347,4,none⟩=some (.int .i64 a1_4)∧w'.cell? ⟨gb348,0,none⟩=some (.int .i64 a2_0)∧w'.cell? ⟨gb348,1,none⟩=some (.int .i64 a2_1)∧w'.cell? ⟨gb348,2,none⟩=some (.int .i64 a2_2)∧w'.cell? ⟨gb348,3,none⟩=some (.int .i64 a2_3)) (ds:=[]) #[false,false,false,false,false,false,false,false,false] (by kernel_rfl) rfl rfl ⟨zc BK347.out 0,zc BK347.out 1,zc BK347.out 2,zc BK347.out 3,zc BK347.out 4,zc BK348.out 0,zc BK348.out 1,zc BK348.out 2,zc BK348.out 3⟩ (fun hHeld=>?_);refine zbi zaj.tab4 zaj.bits4 (fun HT_ HW_=>?_)
    generalize w15.drew=w21 at BK346 BK347 BK348 BK349 HB hHeld ⊢
    refine take_ (i:=0) (N:=some 18) (v:=?_) (a':=?_) #[true,false,false,false,false,false,false,false,false] rfl rfl (zaL HT_.out HW_.out (by kernel_rfl)) (fun _ _ _ h=>h) (Or.inl ⟨by rfl,?_⟩) hHeld ?_ ?_
    rotate_left
    ·rintro w' ⟨s0,s1,s2,s3,s4,s5,s6,s7,s8⟩
     go_simp
     with_reducible rfl
    rotate_left
    ·exact zP
    refine take_ (i:=2) (N:=some 20) (v:=?_) (a':=?_) #[true,false,true,false,false,false,false,false,false] rfl rfl (zaL HT_.out HW_.out (by kernel_rfl)) (fun _ _ _ h=>h) (Or.inl ⟨by rfl,?_⟩) hHeld ?_ ?_
    rotate_left
    ·rintro w' ⟨s0,s1,s2,s3,s4,s5,s6,s7,s8⟩
     go_simp
     with_reducible rfl
    rotate_left
    ·exact zP
    refine one_ (i:=1) (N:=some 19) #[true,true,true,false,false,false,false,false,false] rfl rfl (zaR HT_.out (by kernel_rfl)) (by decide) (fun K hK=>?_)
    refine goes_ Try.func22 (by kernel_rfl) rfl #[.agg #[.int .i64 a1_0,.int .i64 a1_1,.int .i64 a1_2,.int .i64 a1_3,.int .i64 a1_4]] (by rfl) rfl rfl zA ?_
    with_reducible refine (zaM.calls a1_0 a1_1 a1_2 a1_3 a1_4 t351 t352 t353 t354 t355 _ A16.out).mono ?_
    rintro e w22 ⟨rfl,hb⟩
    refine ⟨_,rfl,?_⟩
    replace BK346:=Aside0.mk (zaa (zB BK346.out) hb)
    replace BK347:=Aside0.mk (zaa (zB BK347.out) hb)
    replace BK348:=Aside0.mk (zaa (zB BK348.out) hb)
    replace BK349:=Aside0.mk (zaa (zB BK349.out) hb)
    replace HB:=Aside0.mk (zad (zL4 HB.out GE346.out GE347.out GE348.out GE349.out) hb)
    (try clear hb)
    (try clear hb2)
    (try clear hk)
    (try clear hi)
    refine hK.out _ _ ⟨zc BK347.out 0,zc BK347.out 1,zc BK347.out 2,zc BK347.out 3,zc BK347.out 4,zc BK348.out 0,zc BK348.out 1,zc BK348.out 2,zc BK348.out 3⟩ (fun hHeld=>?_)
    clear hK K
    refine norm_ (a':=?_) ?_ ?_
    rotate_left
    ·show Act.put _ (some 19) _=_
     exact zP
    refine pure_ (i:=3) (N:=some 21) (v:=?_) (a':=?_) #[true,true,true,true,false,false,false,false,false] rfl rfl (zap HT_.out (by kernel_rfl)) (fun _ _ _ h=>h) (Or.inl ⟨by rfl,?_⟩) ?_ ?_
    rotate_left
    ·intro w'
     go_simp
     with_reducible rfl
    rotate_left
    ·exact zP
    refine pure_ (i:=4) (N:=some 22) (v:=?_) (a':=?_) #[true,true,true,true,true,false,false,false,false] rfl rfl (zap HT_.out (by kernel_rfl)) (fun _ _ _ h=>h) (Or.inl ⟨by rfl,?_⟩) ?_ ?_
    rotate_left
    ·intro w'
     go_simp
     with_reducible rfl
    rotate_left
    ·exact zP
    refine take_ (i:=5) (N:=some 23) (v:=?_) (a':=?_) #[true,true,true,true,true,true,false,false,false] rfl rfl (zaL HT_.out HW_.out (by kernel_rfl)) (fun _ _ _ h=>h) (Or.inl ⟨by rfl,?_⟩) hHeld ?_ ?_
    rotate_left
    ·rintro w' ⟨s0,s1,s2,s3,s4,s5,s6,s7,s8⟩
     go_simp
     with_reducible rfl
    rotate_left
    ·exact zP
    refine one_ (i:=6) (N:=some 24) #[true,true,true,true,true,true,true,false,false] rfl rfl (zaR HT_.out (by kernel_rfl)) (by decide) (fun K hK=>?_)
    refine goes_ Try.func63 (by kernel_rfl) rfl #[.agg #[.int .i64 a2_0,.int .i64 a2_1,.int .i64 a2_2,.int .i64 a2_3]] (by rfl) rfl rfl zA ?_
    with_reducible refine (zaY.calls a2_0 a2_1 a2_2 a2_3 t356 _ A20.out).mono ?_
    rintro e w23 ⟨rfl,hb⟩
    refine ⟨_,rfl,?_⟩
    replace BK346:=Aside0.mk (zaa (zB BK346.out) hb)
    replace BK347:=Aside0.mk (zaa (zB BK347.out) hb)
    replace BK348:=Aside0.mk (zaa (zB BK348.out) hb)
    replace BK349:=Aside0.mk (zaa (zB BK349.out) hb)
    replace HB:=Aside0.mk (zad (zL4 HB.out GE346.out GE347.out GE348.out GE349.out) hb)
    (try clear hb)
    (try clear hb2)
    (try clear hk)
    (try clear hi)
    refine hK.out _ _ ⟨zc BK347.out 0,zc BK347.out 1,zc BK347.out 2,zc BK347.out 3,zc BK347.out 4,zc BK348.out 0,zc BK348.out 1,zc BK348.out 2,zc BK348.out 3⟩ (fun hHeld=>?_)
    clear hK K
    refine norm_ (a':=?_) ?_ ?_
    rotate_left
    ·show Act.put _ (some 24) _=_
     exact zP
    refine pure_ (i:=7) (N:=some 25) (v:=?_) (a':=?_) #[true,true,true,true,true,true,true,true,false] rfl rfl (zap HT_.out (by kernel_rfl)) (fun _ _ _ h=>h) (Or.inl ⟨by rfl,?_⟩) ?_ ?_
    rotate_left
    ·intro w'
     go_simp
     with_reducible rfl
    rotate_left
    ·exact zP
    refine pure_ (i:=8) (N:=some 26) (v:=?_) (a':=?_) #[true,true,true,true,true,true,true,true,true] rfl rfl (zap HT_.out (by kernel_rfl)) (fun _ _ _ h=>h) (Or.inl ⟨by rfl,?_⟩) ?_ ?_
    rotate_left
    ·intro w'
     go_simp
     with_reducible rfl
    rotate_left
    ·exact zP
    refine done_ (zbr HT_.out (by kernel_rfl)) ?_
    try go_wp2
    go_meet
    case rel=>exact ⟨_,(!t356),zF,H',⟨by first|omega|exact Nat.le_refl _⟩,⟨by refine zB ?_;exact BK346.out⟩,⟨by refine zB ?_;exact BK347.out⟩,⟨by refine zB ?_;exact BK348.out⟩,⟨by refine zB ?_;exact BK349.out⟩,⟨by repeat (first|(with_reducible first|exact HB.out|apply zai|apply zaf|apply zag|refine zac ?_ GE346.out|refine zac ?_ GE347.out|refine zac ?_ GE348.out|refine zac ?_ GE349.out)|exact HB.out)⟩⟩
  case rest=>
   clear HC6
   try clear c1
   try clear c2
   try clear p2
   try clear c5
   try clear c5b0
   try clear c5b1
   try clear c6
   try clear c11
   try clear c12
   try clear c13
   try clear c15
   try clear c17
   try clear c17b0
   try clear c20
   try clear c22
   try clear hcz14_0 hcz14_1 hcz14_10 hcz14_11 hcz14_12 hcz14_13 hcz14_14 hcz14_15 hcz14_2 hcz14_3 hcz14_4 hcz14_5 hcz14_6 hcz14_7 hcz14_8 hcz14_9 hfz14_0 hfz14_1 hfz14_10 hfz14_11 hfz14_12 hfz14_13 hfz14_14 hfz14_15 hfz14_2 hfz14_3 hfz14_4 hfz14_5 hfz14_6 hfz14_7 hfz14_8 hfz14_9
   obtain ⟨kq,x26_5,rfl,HA,HJ5,BK346,BK347,BK348,BK349,HB⟩:=hcut
   cases kq with
   | zero=>exact absurd HA.out (by simp [zaj.j0])
   | succ kj5=>
    have H:=HA.out
    clear HA
    simp only [zaj.j0] at H
    by_cases c24:x26_5=true
    ·subst c24
     have H1:(some (0,0,([]:List Int),2))=some (r1,r2,r3,r4):=by rw [if_pos rfl] at H;exact H
     clear H
     have H:=H1
     clear H1
     simp only [Option.some.injEq,Prod.mk.injEq] at H
     obtain ⟨rfl,rfl,rfl,rfl⟩:=H
     have hnb25:=NB349_346.out
     have hnc25:=NB346_349.out
     have hnb26:=NB349_347.out
     have hnc26:=NB347_349.out
     have hnb27:=NB349_348.out
     have hnc27:=NB348_349.out
     obtain ⟨hcz28_0,hcz28_1,hcz28_2⟩:=zD3 BK349.out
     obtain ⟨hfz28_0,hfz28_1,hfz28_2⟩:=zE3 BK349.out
     go_wp2
     refine bodyPost_ret (zbG rfl _ _ gb349 38 #[.int .i64 0,.int .i64 0,.slice none 0 0] (0,0) _ rfl (by refine zB ?_;refine zae (cs:=#[.int .i64 0,.int .i64 0,.slice none 0 0]) ?_ 2 _ rfl;refine zB ?_;refine zae (cs:=#[.int .i64 0,.int .i64 0,.slice none 0 0]) ?_ 1 _ rfl;refine zB ?_;refine zae (cs:=#[.int .i64 0,.int .i64 0,.slice none 0 0]) ?_ 0 _ rfl;refine zB ?_;exact BK349.out) Try.underlying38 rfl (by kernel_rfl)) rfl ?_
     exact ⟨_,by first|rfl|(simp [errW_none,errW_some] <;> rfl)|(simp [*,errW_none,errW_some] <;> rfl),by first|exact Kd.R_nil _ _ _ _ _|exact Kd.N_nil _ _ _ _ _|exact Kd.V_nil _ _ _ _ _|exact Kd.Q_nil _ _ _ _ _|exact Kd.S_nil _ _ _ _ _,by repeat (first|(with_reducible first|exact HB.out|apply zai|apply zaf|apply zag|refine zac ?_ GE346.out|refine zac ?_ GE347.out|refine zac ?_ GE348.out|refine zac ?_ GE349.out)|exact HB.out)⟩
    ·replace c24:=Bool.eq_false_iff.mpr c24
     subst c24
     have H1:(if a2_2 > 256 then (zaj.j1 kj5 true a0_0 a0_1 a0_2 a0_3 a0_4 a0_5 a0_6 a0_7 a0_8 a0_9 a0_10 a0_11 a0_12 a0_13 l0_14 a0_15 a1_0 a1_1 a1_2 a1_3 a1_4 a2_0 a2_1 a2_2 a2_3) else (zaj.j1 kj5 (decide (a2_3 > 256)) a0_0 a0_1 a0_2 a0_3 a0_4 a0_5 a0_6 a0_7 a0_8 a0_9 a0_10 a0_11 a0_12 a0_13 l0_14 a0_15 a1_0 a1_1 a1_2 a1_3 a1_4 a2_0 a2_1 a2_2 a2_3))=some (r1,r2,r3,r4):=by rw [if_neg (show ¬ (false=true) by decide)] at H;exact H
     clear H
     have H:=H1
     clear H1
     have HC29:=Aside0.mk H
     clear H
     go_upto_region 6 with (fail)
     go_cut [35] (fun v35 wc=>∃ (kq:Nat) (x35_28:Bool),v35 = .bool x35_28∧Aside0 (zaj.j1 kq x35_28 a0_0 a0_1 a0_2 a0_3 a0_4 a0_5 a0_6 a0_7 a0_8 a0_9 a0_10 a0_11 a0_12 a0_13 l0_14 a0_15 a1_0 a1_1 a1_2 a1_3 a1_4 a2_0 a2_1 a2_2 a2_3=some (r1,r2,r3,r4))∧Aside0 (kq≤kj5)∧Aside0 (wc.heap[gb346]? = some (.cells #[.int .i64 a0_0,.int .i64 a0_1,.int .i64 a0_2,.int .i64 a0_3,.int .i64 a0_4,.int .i64 a0_5,.int .i64 a0_6,.int .i64 a0_7,.int .i64 a0_8,.int .i64 a0_9,.int .i64 a0_10,.int .i64 a0_11,.int .i64 a0_12,.int .i64 a0_13,(.slice A0_14 l0_14.length c0_14),.bool a0_15] 26 (0,0)))∧Aside0 (wc.heap[gb347]? = some (.cells #[.int .i64 a1_0,.int .i64 a1_1,.int .i64 a1_2,.int .i64 a1_3,.int .i64 a1_4] 28 (0,0)))∧Aside0 (wc.heap[gb348]? = some (.cells #[.int .i64 a2_0,.int .i64 a2_1,.int .i64 a2_2,.int .i64 a2_3] 32 (0,0)))∧Aside0 (wc.heap[gb349]? = some (.cells #[.int .i64 0,.int .i64 0,(.slice none 0 0)] 38 (0,0)))∧Aside0 (Below w.heap.size w wc))
     case first=>
      have H:=HC29.out
      clear HC29
      by_cases c30:a2_2 > 256
      ·rw [if_pos c30] at H
       have c30b0:decide (256<a2_2)=true:=decide_eq_true c30
       clear c30
       (first|rw [c30b0]|(simp only [i64_w,i32_w];rw [c30b0])|skip)
       have H':=Aside0.mk H
       clear H
       have hnb31:=NB348_346.out
       have hnc31:=NB346_348.out
       have hnb32:=NB348_347.out
       have hnc32:=NB347_348.out
       have hnb33:=NB348_349.out
       have hnc33:=NB349_348.out
       obtain ⟨hcz34_0,hcz34_1,hcz34_2,hcz34_3⟩:=zD4 BK348.out
       obtain ⟨hfz34_0,hfz34_1,hfz34_2,hfz34_3⟩:=zE4 BK348.out
       go_wp2
       go_meet
       case rel=>exact ⟨_,(true),zF,H',⟨by have:=HJ5.out;first|omega|exact Nat.le_refl _⟩,⟨by refine zB ?_;exact BK346.out⟩,⟨by refine zB ?_;exact BK347.out⟩,⟨by refine zB ?_;exact BK348.out⟩,⟨by refine zB ?_;exact BK349.out⟩,⟨by repeat (first|(with_reducible first|exact HB.out|apply zai|apply zaf|apply zag|refine zac ?_ GE346.out|refine zac ?_ GE347.out|refine zac ?_ GE348.out|refine zac ?_ GE349.out)|exact HB.out)⟩⟩
      ·rw [if_neg c30] at H
       have c30b0:decide (256<a2_2)=false:=decide_eq_false c30
       clear c30
       (first|rw [c30b0]|(simp only [i64_w,i32_w];rw [c30b0])|skip)
       have H':=Aside0.mk H
       clear H
       have hnb35:=NB348_346.out
       have hnc35:=NB346_348.out
       have hnb36:=NB348_347.out
       have hnc36:=NB347_348.out
       have hnb37:=NB348_349.out
       have hnc37:=NB349_348.out
       obtain ⟨hcz38_0,hcz38_1,hcz38_2,hcz38_3⟩:=zD4 BK348.out
       obtain ⟨hfz38_0,hfz38_1,hfz38_2,hfz38_3⟩:=zE4 BK348.out
       go_wp2
       go_meet
       case rel=>exact ⟨_,(decide (a2_3 > 256)),zF,H',⟨by have:=HJ5.out;first|omega|exact Nat.le_refl _⟩,⟨by refine zB ?_;exact BK346.out⟩,⟨by refine zB ?_;exact BK347.out⟩,⟨by refine zB ?_;exact BK348.out⟩,⟨by refine zB ?_;exact BK349.out⟩,⟨by repeat (first|(with_reducible first|exact HB.out|apply zai|apply zaf|apply zag|refine zac ?_ GE346.out|refine zac ?_ GE347.out|refine zac ?_ GE348.out|refine zac ?_ GE349.out)|exact HB.out)⟩⟩
     case rest=>
      clear HC29
      try clear c1
      try clear c2
      try clear p2
      try clear c3
      try clear c5
      try clear c5b0
      try clear c5b1
      try clear c6
      try clear c11
      try clear c12
      try clear c13
      try clear c15
      try clear c17
      try clear c17b0
      try clear c20
      try clear c22
      try clear c24
      try clear c25
      try clear c26
      try clear c27
      try clear c30
      try clear c30b0
      try clear c31
      try clear c32
      try clear c33
      try clear c35
      try clear c36
      try clear c37
      try clear hcz14_0 hcz14_1 hcz14_10 hcz14_11 hcz14_12 hcz14_13 hcz14_14 hcz14_15 hcz14_2 hcz14_3 hcz14_4 hcz14_5 hcz14_6 hcz14_7 hcz14_8 hcz14_9 hcz28_0 hcz28_1 hcz28_2 hcz34_0 hcz34_1 hcz34_2 hcz34_3 hcz38_0 hcz38_1 hcz38_2 hcz38_3 hfz14_0 hfz14_1 hfz14_10 hfz14_11 hfz14_12 hfz14_13 hfz14_14 hfz14_15 hfz14_2 hfz14_3 hfz14_4 hfz14_5 hfz14_6 hfz14_7 hfz14_8 hfz14_9 hfz28_0 hfz28_1 hfz28_2 hfz34_0 hfz34_1 hfz34_2 hfz34_3 hfz38_0 hfz38_1 hfz38_2 hfz38_3
      try clear p2
      obtain ⟨kq,x35_28,rfl,HA,HJ28,BK346,BK347,BK348,BK349,HB⟩:=hcut
      cases kq with
      | zero=>exact absurd HA.out (by simp [zaj.j1])
      | succ kj28=>
       have H:=HA.out
       clear HA
       simp only [zaj.j1] at H
       by_cases c39:x35_28=true
       ·subst c39
        have H1:(some (0,0,([]:List Int),15))=some (r1,r2,r3,r4):=by rw [if_pos rfl] at H;exact H
        clear H
        have H:=H1
        clear H1
        simp only [Option.some.injEq,Prod.mk.injEq] at H
        obtain ⟨rfl,rfl,rfl,rfl⟩:=H
        have hnb40:=NB349_346.out
        have hnc40:=NB346_349.out
        have hnb41:=NB349_347.out
        have hnc41:=NB347_349.out
        have hnb42:=NB349_348.out
        have hnc42:=NB348_349.out
        obtain ⟨hcz43_0,hcz43_1,hcz43_2⟩:=zD3 BK349.out
        obtain ⟨hfz43_0,hfz43_1,hfz43_2⟩:=zE3 BK349.out
        go_wp2
        refine bodyPost_ret (zbG rfl _ _ gb349 38 #[.int .i64 0,.int .i64 0,.slice none 0 0] (0,0) _ rfl (by refine zB ?_;refine zae (cs:=#[.int .i64 0,.int .i64 0,.slice none 0 0]) ?_ 2 _ rfl;refine zB ?_;refine zae (cs:=#[.int .i64 0,.int .i64 0,.slice none 0 0]) ?_ 1 _ rfl;refine zB ?_;refine zae (cs:=#[.int .i64 0,.int .i64 0,.slice none 0 0]) ?_ 0 _ rfl;refine zB ?_;exact BK349.out) Try.underlying38 rfl (by kernel_rfl)) rfl ?_
        exact ⟨_,by first|rfl|(simp [errW_none,errW_some] <;> rfl)|(simp [*,errW_none,errW_some] <;> rfl),by first|exact Kd.R_nil _ _ _ _ _|exact Kd.N_nil _ _ _ _ _|exact Kd.V_nil _ _ _ _ _|exact Kd.Q_nil _ _ _ _ _|exact Kd.S_nil _ _ _ _ _,by repeat (first|(with_reducible first|exact HB.out|apply zai|apply zaf|apply zag|refine zac ?_ GE346.out|refine zac ?_ GE347.out|refine zac ?_ GE348.out|refine zac ?_ GE349.out)|exact HB.out)⟩
       ·replace c39:=Bool.eq_false_iff.mpr c39
        subst c39
        have H1:((zbg.f a2_0 a2_1 a2_2 a2_3).bind fun t357=>(if t357=true then (some (0,0,([]:List Int),0)) else (zaj.l0 kj28 a2_1 a0_0 a0_1 a0_2 a0_3 a0_4 a0_5 a0_6 a0_7 a0_8 a0_9 a0_10 a0_11 a0_12 a0_13 l0_14 a0_15 a1_0 a1_1 a1_2 a1_3 a1_4 a2_0 a2_1 a2_2 a2_3 a2_2 a2_3 ([]:List Int))))=some (r1,r2,r3,r4):=by rw [if_neg (show ¬ (false=true) by decide)] at H;exact H
        clear H
        have H:=H1
        clear H1
        replace H:=Option.bind_eq_some_iff.mp H
        obtain ⟨t357,A440,H⟩:=H
        replace H:(if t357=true then (some (0,0,([]:List Int),0)) else (zaj.l0 kj28 a2_1 a0_0 a0_1 a0_2 a0_3 a0_4 a0_5 a0_6 a0_7 a0_8 a0_9 a0_10 a0_11 a0_12 a0_13 l0_14 a0_15 a1_0 a1_1 a1_2 a1_3 a1_4 a2_0 a2_1 a2_2 a2_3 a2_2 a2_3 ([]:List Int)))=some (r1,r2,r3,r4):=H
        have A44:=Aside0.mk A440
        clear A440
        by_cases c45:t357=true
        ·subst c45
         have H1:(some (0,0,([]:List Int),0))=some (r1,r2,r3,r4):=by rw [if_pos rfl] at H;exact H
         clear H
         have H:=H1
         clear H1
         simp only [Option.some.injEq,Prod.mk.injEq] at H
         obtain ⟨rfl,rfl,rfl,rfl⟩:=H
         have hnb46:=NB348_346.out
         have hnc46:=NB346_348.out
         have hnb47:=NB348_347.out
         have hnc47:=NB347_348.out
         have hnb48:=NB348_349.out
         have hnc48:=NB349_348.out
         obtain ⟨hcz49_0,hcz49_1,hcz49_2,hcz49_3⟩:=zD4 BK348.out
         obtain ⟨hfz49_0,hfz49_1,hfz49_2,hfz49_3⟩:=zE4 BK348.out
         go_wp2_with (first|((with_reducible refine zal (f:=64) rfl ?_);refine goesL_ (some 38) rfl rfl Try.func64 (by kernel_rfl) rfl #[.agg #[.int .i64 a2_0,.int .i64 a2_1,.int .i64 a2_2,.int .i64 a2_3]] rfl zA ?_;(with_reducible refine (zbg.calls a2_0 a2_1 a2_2 a2_3 true _ A44.out).mono ?_);rintro e w50 ⟨rfl,hb⟩;refine ⟨_,rfl,?_⟩;replace BK346:=Aside0.mk (zaa (zB BK346.out) hb);replace BK347:=Aside0.mk (zaa (zB BK347.out) hb);replace BK348:=Aside0.mk (zaa (zB BK348.out) hb);replace BK349:=Aside0.mk (zaa (zB BK349.out) hb);replace HB:=Aside0.mk (zad (zL4 HB.out GE346.out GE347.out GE348.out GE349.out) hb);(try clear hb);(try clear hb2);(try clear hk);(try clear hi);have hnb51:=NB349_346.out;have hnc51:=NB346_349.out;have hnb52:=NB349_347.out;have hnc52:=NB347_349.out;obtain ⟨hcz53_0,hcz53_1,hcz53_2⟩:=zD3 BK349.out;obtain ⟨hfz53_0,hfz53_1,hfz53_2⟩:=zE3 BK349.out))
         refine bodyPost_ret (zbG rfl _ _ gb349 38 #[.int .i64 0,.int .i64 0,.slice none 0 0] (0,0) _ rfl (by refine zB ?_;refine zae (cs:=#[.int .i64 0,.int .i64 0,.slice none 0 0]) ?_ 2 _ rfl;refine zB ?_;refine zae (cs:=#[.int .i64 0,.int .i64 0,.slice none 0 0]) ?_ 1 _ rfl;refine zB ?_;refine zae (cs:=#[.int .i64 0,.int .i64 0,.slice none 0 0]) ?_ 0 _ rfl;refine zB ?_;exact BK349.out) Try.underlying38 rfl (by kernel_rfl)) rfl ?_
         exact ⟨_,by first|rfl|(simp [errW_none,errW_some] <;> rfl)|(simp [*,errW_none,errW_some] <;> rfl),by first|exact Kd.R_nil _ _ _ _ _|exact Kd.N_nil _ _ _ _ _|exact Kd.V_nil _ _ _ _ _|exact Kd.Q_nil _ _ _ _ _|exact Kd.S_nil _ _ _ _ _,by repeat (first|(with_reducible first|exact HB.out|apply zai|apply zaf|apply zag|refine zac ?_ GE346.out|refine zac ?_ GE347.out|refine zac ?_ GE348.out|refine zac ?_ GE349.out)|exact HB.out)⟩
        ·replace c45:=Bool.eq_false_iff.mpr c45
         subst c45
         have H1:(zaj.l0 kj28 a2_1 a0_0 a0_1 a0_2 a0_3 a0_4 a0_5 a0_6 a0_7 a0_8 a0_9 a0_10 a0_11 a0_12 a0_13 l0_14 a0_15 a1_0 a1_1 a1_2 a1_3 a1_4 a2_0 a2_1 a2_2 a2_3 a2_2 a2_3 ([]:List Int))=some (r1,r2,r3,r4):=by rw [if_neg (show ¬ (false=true) by decide)] at H;exact H
         clear H
         have H:=H1
         clear H1
         have H':=Aside0.mk H
         clear H
         have hnb54:=NB348_346.out
         have hnc54:=NB346_348.out
         have hnb55:=NB348_347.out
         have hnc55:=NB347_348.out
         have hnb56:=NB348_349.out
         have hnc56:=NB349_348.out
         obtain ⟨hcz57_0,hcz57_1,hcz57_2,hcz57_3⟩:=zD4 BK348.out
         obtain ⟨hfz57_0,hfz57_1,hfz57_2,hfz57_3⟩:=zE4 BK348.out
         go_wp2_with (first|((with_reducible refine zal (f:=64) rfl ?_);refine goesL_ (some 38) rfl rfl Try.func64 (by kernel_rfl) rfl #[.agg #[.int .i64 a2_0,.int .i64 a2_1,.int .i64 a2_2,.int .i64 a2_3]] rfl zA ?_;(with_reducible refine (zbg.calls a2_0 a2_1 a2_2 a2_3 false _ A44.out).mono ?_);rintro e w58 ⟨rfl,hb⟩;refine ⟨_,rfl,?_⟩;replace BK346:=Aside0.mk (zaa (zB BK346.out) hb);replace BK347:=Aside0.mk (zaa (zB BK347.out) hb);replace BK348:=Aside0.mk (zaa (zB BK348.out) hb);replace BK349:=Aside0.mk (zaa (zB BK349.out) hb);replace HB:=Aside0.mk (zad (zL4 HB.out GE346.out GE347.out GE348.out GE349.out) hb);(try clear hb);(try clear hb2);(try clear hk);(try clear hi);obtain ⟨hcz59_0,hcz59_1,hcz59_2,hcz59_3⟩:=zD4 BK348.out;obtain ⟨hfz59_0,hfz59_1,hfz59_2,hfz59_3⟩:=zE4 BK348.out)|((with_reducible refine zaA (N:=9) rfl ?_);refine zav ?hg (N:=9) ?hd (cs:=#[.int .i64 0,.int .i64 0,.slice none 0 0]) (t:=38) ?hr ?_;(case hd=>rfl);(case hg=>rfl);(case hr=>first|(go_simp;done)|(go_simp;rfl));intro gb358 hg w60 hbox hb;have n0_:=Aside0.mk (zaa (zB BK346.out) hb);have n1_:=Aside0.mk (zaa (zB BK347.out) hb);have n2_:=Aside0.mk (zaa (zB BK348.out) hb);have n3_:=Aside0.mk (zaa (zB BK349.out) hb);have n4_:=Aside0.mk (zad (zL4 HB.out GE346.out GE347.out GE348.out GE349.out) hb);have n5_:=Aside0.mk (hbox);have n6_:=Aside0.mk ((zS hg (zL4 HB.out GE346.out GE347.out GE348.out GE349.out):w.heap.size≤gb358));have n7_:=Aside0.mk ((zS hg (zL4 HB.out GE346.out GE347.out GE348.out GE349.out):w.heap.size≤gb358));have n8_:=Aside0.mk ((by rw [hg];exact Nat.ne_of_lt (zao (zB BK346.out)):gb346≠gb358));have n9_:=Aside0.mk ((by rw [hg];exact Nat.ne_of_gt (zao (zB BK346.out)):gb358≠gb346));have n10_:=Aside0.mk ((by rw [hg];exact Nat.ne_of_lt (zao (zB BK347.out)):gb347≠gb358));have n11_:=Aside0.mk ((by rw [hg];exact Nat.ne_of_gt (zao (zB BK347.out)):gb358≠gb347));have n12_:=Aside0.mk ((by rw [hg];exact Nat.ne_of_lt (zao (zB BK348.out)):gb348≠gb358));have n13_:=Aside0.mk ((by rw [hg];exact Nat.ne_of_gt (zao (zB BK348.out)):gb358≠gb348));have n14_:=Aside0.mk ((by rw [hg];exact Nat.ne_of_lt (zao (zB BK349.out)):gb349≠gb358));have n15_:=Aside0.mk ((by rw [hg];exact Nat.ne_of_gt (zao (zB BK349.out)):gb358≠gb349));clear BK346;clear BK347;clear BK348;clear BK349;clear HB;have BK346:=n0_;have BK347:=n1_;have BK348:=n2_;have BK349:=n3_;have HB:=n4_;have BK358:=n5_;have GW358:=n6_;have GE358:=n7_;have NB346_358:=n8_;have NB358_346:=n9_;have NB347_358:=n10_;have NB358_347:=n11_;have NB348_358:=n12_;have NB358_348:=n13_;have NB349_358:=n14_;have NB358_349:=n15_;clear n0_ n1_ n2_ n3_ n4_ n5_ n6_ n7_ n8_ n9_ n10_ n11_ n12_ n13_ n14_ n15_;clear hb hbox hg;have hnb61:=NB358_346.out;have hnc61:=NB346_358.out;have hnb62:=NB358_347.out;have hnc62:=NB347_358.out;have hnb63:=NB358_348.out;have hnc63:=NB348_358.out;have hnb64:=NB358_349.out;have hnc64:=NB349_358.out;obtain ⟨hcz65_0,hcz65_1,hcz65_2⟩:=zD3 BK358.out;obtain ⟨hfz65_0,hfz65_1,hfz65_2⟩:=zE3 BK358.out;obtain ⟨hcz66_0,hcz66_1,hcz66_2,hcz66_3⟩:=zD4 BK348.out;obtain ⟨hfz66_0,hfz66_1,hfz66_2,hfz66_3⟩:=zE4 BK348.out))
         go_loopg [10] kj28 (fun kq v10 w'=>∃ (x10_3:Int) (x359002_3:List Int) (u359002:Value),v10 = .int .i64 x10_3∧Aside0 (zaj.l0 kq x10_3 a0_0 a0_1 a0_2 a0_3 a0_4 a0_5 a0_6 a0_7 a0_8 a0_9 a0_10 a0_11 a0_12 a0_13 l0_14 a0_15 a1_0 a1_1 a1_2 a1_3 a1_4 a2_0 a2_1 a2_2 a2_3 a2_2 a2_3 x359002_3=some (r1,r2,r3,r4))∧Aside0 (kq≤kj28)∧Aside0 (Kd.R (Kd.int .i64) 3 w' w.heap.size (fun _=>True) u359002 x359002_3)∧Aside0 (w'.heap[gb346]? = some (.cells #[.int .i64 a0_0,.int .i64 a0_1,.int .i64 a0_2,.int .i64 a0_3,.int .i64 a0_4,.int .i64 a0_5,.int .i64 a0_6,.int .i64 a0_7,.int .i64 a0_8,.int .i64 a0_9,.int .i64 a0_10,.int .i64 a0_11,.int .i64 a0_12,.int .i64 a0_13,(.slice A0_14 l0_14.length c0_14),.bool a0_15] 26 (0,0)))∧Aside0 (w'.heap[gb347]? = some (.cells #[.int .i64 a1_0,.int .i64 a1_1,.int .i64 a1_2,.int .i64 a1_3,.int .i64 a1_4] 28 (0,0)))∧Aside0 (w'.heap[gb348]? = some (.cells #[.int .i64 a2_0,.int .i64 a2_1,.int .i64 a2_2,.int .i64 a2_3] 32 (0,0)))∧Aside0 (w'.heap[gb349]? = some (.cells #[.int .i64 0,.int .i64 0,(.slice none 0 0)] 38 (0,0)))∧Aside0 (w'.heap[gb358]? = some (.cells #[.int .i64 a2_2,.int .i64 a2_3,u359002] 38 (0,0)))∧Aside0 (Below w.heap.size w w'))
         case atStart=>exact ⟨(a2_1),(([]:List Int)),(.slice none 0 0),zF,H',⟨Nat.le_refl _⟩,⟨by first|exact Kd.R_nil _ _ _ _ _|exact Kd.N_nil _ _ _ _ _|exact Kd.V_nil _ _ _ _ _|exact Kd.Q_nil _ _ _ _ _|exact Kd.S_nil _ _ _ _ _⟩,⟨by refine zB ?_;refine zab ?_ NB346_358.out _;refine zB ?_;refine zab ?_ NB346_358.out _;refine zB ?_;refine zab ?_ NB346_358.out _;refine zB ?_;exact BK346.out⟩,⟨by refine zB ?_;refine zab ?_ NB347_358.out _;refine zB ?_;refine zab ?_ NB347_358.out _;refine zB ?_;refine zab ?_ NB347_358.out _;refine zB ?_;exact BK347.out⟩,⟨by refine zB ?_;refine zab ?_ NB348_358.out _;refine zB ?_;refine zab ?_ NB348_358.out _;refine zB ?_;refine zab ?_ NB348_358.out _;refine zB ?_;exact BK348.out⟩,⟨by refine zB ?_;refine zab ?_ NB349_358.out _;refine zB ?_;refine zab ?_ NB349_358.out _;refine zB ?_;refine zab ?_ NB349_358.out _;refine zB ?_;exact BK349.out⟩,⟨by refine zB ?_;refine zae (cs:=#[.int .i64 a2_2,.int .i64 a2_3,.slice none 0 0]) ?_ 2 _ rfl;refine zB ?_;refine zae (cs:=#[.int .i64 a2_2,.int .i64 0,.slice none 0 0]) ?_ 1 _ rfl;refine zB ?_;refine zae (cs:=#[.int .i64 0,.int .i64 0,.slice none 0 0]) ?_ 0 _ rfl;refine zB ?_;exact BK358.out⟩,⟨by repeat (first|(with_reducible first|exact HB.out|apply zai|apply zaf|apply zag|refine zac ?_ GE346.out|refine zac ?_ GE347.out|refine zac ?_ GE348.out|refine zac ?_ GE349.out|refine zac ?_ GE358.out)|exact HB.out)⟩⟩
         case round=>
          clear H'
          try clear c1
          try clear c2
          try clear p2
          try clear c3
          try clear c4
          try clear c5
          try clear c5b0
          try clear c5b1
          try clear c6
          try clear c11
          try clear c12
          try clear c13
          try clear c15
          try clear c17
          try clear c17b0
          try clear c20
          try clear c22
          try clear c24
          try clear c25
          try clear c26
          try clear c27
          try clear c30
          try clear c30b0
          try clear c31
          try clear c32
          try clear c33
          try clear c35
          try clear c36
          try clear c37
          try clear c39
          try clear c40
          try clear c41
          try clear c42
          try clear c45
          try clear c46
          try clear c47
          try clear c48
          try clear c51
          try clear c52
          try clear c54
          try clear c55
          try clear c56
          try clear c61
          try clear c62
          try clear c63
          try clear c64
          try clear hcz14_0 hcz14_1 hcz14_10 hcz14_11 hcz14_12 hcz14_13 hcz14_14 hcz14_15 hcz14_2 hcz14_3 hcz14_4 hcz14_5 hcz14_6 hcz14_7 hcz14_8 hcz14_9 hcz28_0 hcz28_1 hcz28_2 hcz34_0 hcz34_1 hcz34_2 hcz34_3 hcz38_0 hcz38_1 hcz38_2 hcz38_3 hcz43_0 hcz43_1 hcz43_2 hcz49_0 hcz49_1 hcz49_2 hcz49_3 hcz53_0 hcz53_1 hcz53_2 hcz57_0 hcz57_1 hcz57_2 hcz57_3 hcz59_0 hcz59_1 hcz59_2 hcz59_3 hcz65_0 hcz65_1 hcz65_2 hcz66_0 hcz66_1 hcz66_2 hcz66_3 hfz14_0 hfz14_1 hfz14_10 hfz14_11 hfz14_12 hfz14_13 hfz14_14 hfz14_15 hfz14_2 hfz14_3 hfz14_4 hfz14_5 hfz14_6 hfz14_7 hfz14_8 hfz14_9 hfz28_0 hfz28_1 hfz28_2 hfz34_0 hfz34_1 hfz34_2 hfz34_3 hfz38_0 hfz38_1 hfz38_2 hfz38_3 hfz43_0 hfz43_1 hfz43_2 hfz49_0 hfz49_1 hfz49_2 hfz49_3 hfz53_0 hfz53_1 hfz53_2 hfz57_0 hfz57_1 hfz57_2 hfz57_3 hfz59_0 hfz59_1 hfz59_2 hfz59_3 hfz65_0 hfz65_1 hfz65_2 hfz66_0 hfz66_1 hfz66_2 hfz66_3
          try clear p2
          obtain ⟨x10_3,x359002_3,u359002,rfl,HA,HK3,HO_359002,BK346,BK347,BK348,BK349,BK358,HB⟩:=hrel
          cases gk with
          | zero=>exact absurd HA.out (by simp [zaj.l0])
          | succ k3=>
           have H:=HA.out
           clear HA
           simp only [zaj.l0] at H
           by_cases c67:x10_3<(wrap64 (a2_1+a2_3))
           ·rw [if_pos c67] at H
            have c67b0:decide (x10_3<(wrap64 (a2_1+a2_3)))=true:=decide_eq_true c67
            clear c67
            have H':=Aside0.mk H
            clear H
            have hnb68:=NB348_346.out
            have hnc68:=NB346_348.out
            have hnb69:=NB348_347.out
            have hnc69:=NB347_348.out
            have hnb70:=NB348_349.out
            have hnc70:=NB349_348.out
            have hnb71:=NB348_358.out
            have hnc71:=NB358_348.out
            obtain ⟨hcz72_0,hcz72_1,hcz72_2,hcz72_3⟩:=zD4 BK348.out
            obtain ⟨hfz72_0,hfz72_1,hfz72_2,hfz72_3⟩:=zE4 BK348.out
            go_wp2
            go_loopg [11] k3 (fun kq v11 w'=>∃ (x11_4:Int) (x359002_4:List Int) (u359002:Value),v11 = .int .i64 x11_4∧Aside0 (zaj.l1 kq x10_3 x11_4 a0_0 a0_1 a0_2 a0_3 a0_4 a0_5 a0_6 a0_7 a0_8 a0_9 a0_10 a0_11 a0_12 a0_13 l0_14 a0_15 a1_0 a1_1 a1_2 a1_3 a1_4 a2_0 a2_1 a2_2 a2_3 a2_2 a2_3 x359002_4=some (r1,r2,r3,r4))∧Aside0 (kq≤k3)∧Aside0 (Kd.R (Kd.int .i64) 3 w' w.heap.size (fun _=>True) u359002 x359002_4)∧Aside0 (w'.heap[gb346]? = some (.cells #[.int .i64 a0_0,.int .i64 a0_1,.int .i64 a0_2,.int .i64 a0_3,.int .i64 a0_4,.int .i64 a0_5,.int .i64 a0_6,.int .i64 a0_7,.int .i64 a0_8,.int .i64 a0_9,.int .i64 a0_10,.int .i64 a0_11,.int .i64 a0_12,.int .i64 a0_13,(.slice A0_14 l0_14.length c0_14),.bool a0_15] 26 (0,0)))∧Aside0 (w'.heap[gb347]? = some (.cells #[.int .i64 a1_0,.int .i64 a1_1,.int .i64 a1_2,.int .i64 a1_3,.int .i64 a1_4] 28 (0,0)))∧Aside0 (w'.heap[gb348]? = some (.cells #[.int .i64 a2_0,.int .i64 a2_1,.int .i64 a2_2,.int .i64 a2_3] 32 (0,0)))∧Aside0 (w'.heap[gb349]? = some (.cells #[.int .i64 0,.int .i64 0,(.slice none 0 0)] 38 (0,0)))∧Aside0 (w'.heap[gb358]? = some (.cells #[.int .i64 a2_2,.int .i64 a2_3,u359002] 38 (0,0)))∧Aside0 (Below w.heap.size w w'))
            case atStart=>exact ⟨(a2_0),(x359002_3),(u359002),zF,H',⟨Nat.le_refl _⟩,⟨by (with_reducible repeat (first|apply Kd.R_alloc|apply Kd.R_drewN|apply Kd.R_drew));exact HO_359002.out⟩,⟨by refine zB ?_;exact BK346.out⟩,⟨by refine zB ?_;exact BK347.out⟩,⟨by refine zB ?_;exact BK348.out⟩,⟨by refine zB ?_;exact BK349.out⟩,⟨by refine zB ?_;exact BK358.out⟩,⟨by repeat (first|(with_reducible first|exact HB.out|apply zai|apply zaf|apply zag|refine zac ?_ GE346.out|refine zac ?_ GE347.out|refine zac ?_ GE348.out|refine zac ?_ GE349.out|refine zac ?_ GE358.out)|exact HB.out)⟩⟩
            case round=>
             clear H'
             try clear c1
             try clear c2
             try clear p2
             try clear c3
             try clear c4
             try clear c5
             try clear c5b0
             try clear c5b1
             try clear c6
             try clear p6
             try clear c7
             try clear c11
             try clear c12
             try clear c13
             try clear c15
             try clear c17
             try clear c17b0
             try clear c20
             try clear c22
             try clear c24
             try clear c25
             try clear c26
             try clear c27
             try clear c30
             try clear c30b0
             try clear c31
             try clear c32
             try clear c33
             try clear c35
             try clear c36
             try clear c37
             try clear c39
             try clear c40
             try clear c41
             try clear c42
             try clear c45
             try clear c46
             try clear c47
             try clear c48
             try clear c51
             try clear c52
             try clear c54
             try clear c55
             try clear c56
             try clear c61
             try clear c62
             try clear c63
             try clear c64
             try clear p64
             try clear c67
             try clear c67b0
             try clear c68
             try clear c69
             try clear c70
             try clear c71
             try clear hcz14_0 hcz14_1 hcz14_10 hcz14_11 hcz14_12 hcz14_13 hcz14_14 hcz14_15 hcz14_2 hcz14_3 hcz14_4 hcz14_5 hcz14_6 hcz14_7 hcz14_8 hcz14_9 hcz28_0 hcz28_1 hcz28_2 hcz34_0 hcz34_1 hcz34_2 hcz34_3 hcz38_0 hcz38_1 hcz38_2 hcz38_3 hcz43_0 hcz43_1 hcz43_2 hcz49_0 hcz49_1 hcz49_2 hcz49_3 hcz53_0 hcz53_1 hcz53_2 hcz57_0 hcz57_1 hcz57_2 hcz57_3 hcz59_0 hcz59_1 hcz59_2 hcz59_3 hcz65_0 hcz65_1 hcz65_2 hcz66_0 hcz66_1 hcz66_2 hcz66_3 hcz72_0 hcz72_1 hcz72_2 hcz72_3 hfz14_0 hfz14_1 hfz14_10 hfz14_11 hfz14_12 hfz14_13 hfz14_14 hfz14_15 hfz14_2 hfz14_3 hfz14_4 hfz14_5 hfz14_6 hfz14_7 hfz14_8 hfz14_9 hfz28_0 hfz28_1 hfz28_2 hfz34_0 hfz34_1 hfz34_2 hfz34_3 hfz38_0 hfz38_1 hfz38_2 hfz38_3 hfz43_0 hfz43_1 hfz43_2 hfz49_0 hfz49_1 hfz49_2 hfz49_3 hfz53_0 hfz53_1 hfz53_2 hfz57_0 hfz57_1 hfz57_2 hfz57_3 hfz59_0 hfz59_1 hfz59_2 hfz59_3 hfz65_0 hfz65_1 hfz65_2 hfz66_0 hfz66_1 hfz66_2 hfz66_3 hfz72_0 hfz72_1 hfz72_2 hfz72_3
             try clear p2
             obtain ⟨x11_4,x359002_4,u359002,rfl,HA,HK4,HO_359002,BK346,BK347,BK348,BK349,BK358,HB⟩:=hrel
             cases gk with
             | zero=>exact absurd HA.out (by simp [zaj.l1])
             | succ k4=>
              have H:=HA.out
              clear HA
              simp only [zaj.l1] at H
              by_cases c73:x11_4<(wrap64 (a2_0+a2_2))
              ·rw [if_pos c73] at H
               have c73b0:decide (x11_4<(wrap64 (a2_0+a2_2)))=true:=decide_eq_true c73
               clear c73
               replace H:=Option.bind_eq_some_iff.mp H
               obtain ⟨t359,A740,H⟩:=H
               replace H:(if x359002_4.length<17592186044416 then (zaj.l1 k4 x10_3 (wrap64 (x11_4+1)) a0_0 a0_1 a0_2 a0_3 a0_4 a0_5 a0_6 a0_7 a0_8 a0_9 a0_10 a0_11 a0_12 a0_13 l0_14 a0_15 a1_0 a1_1 a1_2 a1_3 a1_4 a2_0 a2_1 a2_2 a2_3 a2_2 a2_3 (x359002_4 ++ [t359])) else (none))=some (r1,r2,r3,r4):=H
               have A74:=Aside0.mk A740
               clear A740
               by_cases c75:x359002_4.length<17592186044416
               ·rw [if_pos c75] at H
                have LMc75:=Aside0.mk c75
                clear c75
                obtain ⟨y360,hy360⟩ : ∃ y_:List Int,y_=(x359002_4 ++ [t359]):=⟨_,rfl⟩
                replace H:(zaj.l1 k4 x10_3 (wrap64 (x11_4+1)) a0_0 a0_1 a0_2 a0_3 a0_4 a0_5 a0_6 a0_7 a0_8 a0_9 a0_10 a0_11 a0_12 a0_13 l0_14 a0_15 a1_0 a1_1 a1_2 a1_3 a1_4 a2_0 a2_1 a2_2 a2_3 a2_2 a2_3 y360)=some (r1,r2,r3,r4):=by first|(rw [hy360];with_reducible exact H)|(have H2_:=(Option.bind_some _ _).symm.trans H;rw [hy360];with_reducible exact H2_)|(have H2_:=(Option.bind_some _ _).symm.trans H;with_reducible exact H2_)|with_reducible exact H|(rw [hy360];exact H)|exact H
                have Ny360:=Aside0.mk hy360
                clear hy360
                have H':=Aside0.mk H
                clear H
                have hnb76:=NB348_346.out
                have hnc76:=NB346_348.out
                have hnb77:=NB348_347.out
                have hnc77:=NB347_348.out
                have hnb78:=NB348_349.out
                have hnc78:=NB349_348.out
                have hnb79:=NB348_358.out
                have hnc79:=NB358_348.out
                obtain ⟨hcz80_0,hcz80_1,hcz80_2,hcz80_3⟩:=zD4 BK348.out
                obtain ⟨hfz80_0,hfz80_1,hfz80_2,hfz80_3⟩:=zE4 BK348.out
                try go_wp2
                replace HO_359002:=Aside0.mk (Kd.R_drew HO_359002.out)
                replace BK346:=Aside0.mk (zaK BK346.out)
                replace BK347:=Aside0.mk (zaK BK347.out)
                replace BK348:=Aside0.mk (zaK BK348.out)
                replace BK349:=Aside0.mk (zaK BK349.out)
                replace BK358:=Aside0.mk (zaK BK358.out)
                replace HB:=Aside0.mk (zag HB.out)
                refine start_ (n:=11) (S:=fun w'=>w'.cell? ⟨gb358,0,none⟩=some (.int .i64 a2_2)∧w'.cell? ⟨gb358,1,none⟩=some (.int .i64 a2_3)∧w'.cell? ⟨gb358,2,none⟩=some (u359002)∧w'.cell? ⟨gb346,0,none⟩=some (.int .i64 a0_0)∧w'.cell? ⟨gb346,1,none⟩=some (.int .i64 a0_1)∧w'.cell? ⟨gb346,2,none⟩=some (.int .i64 a0_2)∧w'.cell? ⟨gb346,3,none⟩=some (.int .i64 a0_3)∧w'.cell? ⟨gb346,4,none⟩=some (.int .i64 a0_4)∧w'.cell? ⟨gb346,5,none⟩=some (.int .i64 a0_5)∧w'.cell? ⟨gb346,6,none⟩=some (.int .i64 a0_6)∧w'.cell? ⟨gb346,7,none⟩=some (.int .i64 a0_7)∧w'.cell? ⟨gb346,8,none⟩=some (.int .i64 a0_8)∧w'.cell? ⟨gb346,9,none⟩=some (.int .i64 a0_9)∧w'.cell? ⟨gb346,10,none⟩=some (.int .i64 a0_10)∧w'.cell? ⟨gb346,11,none⟩=some (.int .i64 a0_11)∧w'.cell? ⟨gb346,12,none⟩=some (.int .i64 a0_12)∧w'.cell? ⟨gb346,13,none⟩=some (.int .i64 a0_13)∧w'.cell? ⟨gb346,14,none⟩=some (.slice A0_14 l0_14.length c0_14)∧w'.cell? ⟨gb346,15,none⟩=some (.bool a0_15)∧w'.cell? ⟨gb347,0,none⟩=some (.int .i64 a1_0)∧w'.cell? ⟨gb347,1,none⟩=some (.int .i64 a1_1)∧w'.cell? ⟨gb347,2,none⟩=some (.int .i64 a1_2)∧w'.cell? ⟨gb347,3,none⟩=some (.int .i64 a1_3)∧w'.cell? ⟨gb347,4,none⟩=some (.int .i64 a1_4)) (ds:=[10]) #[false,false,false,false,false,false,false,false,false,false,false] (by kernel_rfl) rfl rfl ⟨zc BK358.out 0,zc BK358.out 1,zc BK358.out 2,zc BK346.out 0,zc BK346.out 1,zc BK346.out 2,zc BK346.out 3,zc BK346.out 4,zc BK346.out 5,zc BK346.out 6,zc BK346.out 7,zc BK346.out 8,zc BK346.out 9,zc BK346.out 10,zc BK346.out 11,zc BK346.out 12,zc BK346.out 13,zc BK346.out 14,zc BK346.out 15,zc BK347.out 0,zc BK347.out 1,zc BK347.out 2,zc BK347.out 3,zc BK347.out 4⟩ (fun hHeld=>?_);refine zbi zaj.tab17 zaj.bits17 (fun HT_ HW_=>?_)
                generalize wr.drew=w81 at HO_359002 BK346 BK347 BK348 BK349 BK358 HB hHeld ⊢
                refine pure_ (i:=0) (N:=some 67) (v:=?_) (a':=?_) #[true,false,false,false,false,false,false,false,false,false,false] rfl rfl (zap HT_.out (by kernel_rfl)) (fun _ _ _ h=>h) (Or.inl ⟨by rfl,?_⟩) ?_ ?_
                rotate_left
                ·intro w'
                 go_simp
                 with_reducible rfl
                rotate_left
                ·exact zP
                refine pure_ (i:=4) (N:=some 71) (v:=?_) (a':=?_) #[true,false,false,false,true,false,false,false,false,false,false] rfl rfl (zap HT_.out (by kernel_rfl)) (fun _ _ _ h=>h) (Or.inl ⟨by rfl,?_⟩) ?_ ?_
                rotate_left
                ·intro w'
                 go_simp
                 with_reducible rfl
                rotate_left
                ·exact zP
                refine pure_ (i:=5) (N:=some 72) (v:=?_) (a':=?_) #[true,false,false,false,true,true,false,false,false,false,false] rfl rfl (zap HT_.out (by kernel_rfl)) (fun _ _ _ h=>h) (Or.inl ⟨by rfl,?_⟩) ?_ ?_
                rotate_left
                ·intro w'
                 go_simp
                 with_reducible rfl
                rotate_left
                ·exact zP
                refine take_ (i:=1) (N:=some 68) (v:=?_) (a':=?_) #[true,true,false,false,true,true,false,false,false,false,false] rfl rfl (zaL HT_.out HW_.out (by kernel_rfl)) (fun _ _ _ h=>h) (Or.inl ⟨by rfl,?_⟩) hHeld ?_ ?_
                rotate_left
                ·rintro w' ⟨s0,s1,s2,s3,s4,s5,s6,s7,s8,s9,s10,s11,s12,s13,s14,s15,s16,s17,s18,s19,s20,s21,s22,s23⟩
                 go_simp
                 with_reducible rfl
                rotate_left
                ·exact zP
                refine take_ (i:=2) (N:=some 69) (v:=?_) (a':=?_) #[true,true,true,false,true,true,false,false,false,false,false] rfl rfl (zaL HT_.out HW_.out (by kernel_rfl)) (fun _ _ _ h=>h) (Or.inl ⟨by rfl,?_⟩) hHeld ?_ ?_
                rotate_left
                ·rintro w' ⟨s0,s1,s2,s3,s4,s5,s6,s7,s8,s9,s10,s11,s12,s13,s14,s15,s16,s17,s18,s19,s20,s21,s22,s23⟩
                 go_simp
                 with_reducible rfl
                rotate_left
                ·exact zP
                refine take_ (i:=3) (N:=some 70) (v:=?_) (a':=?_) #[true,true,true,true,true,true,false,false,false,false,false] rfl rfl (zaL HT_.out HW_.out (by kernel_rfl)) (fun _ _ _ h=>h) (Or.inl ⟨by rfl,?_⟩) hHeld ?_ ?_
                rotate_left
                ·rintro w' ⟨s0,s1,s2,s3,s4,s5,s6,s7,s8,s9,s10,s11,s12,s13,s14,s15,s16,s17,s18,s19,s20,s21,s22,s23⟩
                 go_simp
                 with_reducible rfl
                rotate_left
                ·exact zP
                refine one_ (i:=6) (N:=some 73) #[true,true,true,true,true,true,true,false,false,false,false] rfl rfl (zaR HT_.out (by kernel_rfl)) (by decide) (fun K hK=>?_)
                refine goes_ Try.func23 (by kernel_rfl) rfl #[.agg #[.int .i64 a0_0,.int .i64 a0_1,.int .i64 a0_2,.int .i64 a0_3,.int .i64 a0_4,.int .i64 a0_5,.int .i64 a0_6,.int .i64 a0_7,.int .i64 a0_8,.int .i64 a0_9,.int .i64 a0_10,.int .i64 a0_11,.int .i64 a0_12,.int .i64 a0_13,.slice A0_14 l0_14.length c0_14,.bool a0_15],.agg #[.int .i64 a1_0,.int .i64 a1_1,.int .i64 a1_2,.int .i64 a1_3,.int .i64 a1_4],.int .i64 x11_4,.int .i64 x10_3] (by rfl) rfl rfl zA ?_
                with_reducible refine (zam.calls k4 a0_0 a0_1 a0_2 a0_3 a0_4 a0_5 a0_6 a0_7 a0_8 a0_9 a0_10 a0_11 a0_12 a0_13 _ _ l0_14 a0_15 a1_0 a1_1 a1_2 a1_3 a1_4 x11_4 x10_3 t359 _ ?side1 ?side2 A74.out).mono ?_
                (case side1=>repeat (first|exact (Kd.C_below HR0_14.out HB.out)|(with_reducible refine Kd.C_alloc ?_ _)|(with_reducible refine Kd.C_drewN ?_ _)|(with_reducible refine Kd.C_drew ?_)))
                (case side2=>exact HC0_14.out)
                rintro e w82 ⟨rfl,hb⟩
                refine ⟨_,rfl,?_⟩
                have n0_:=Aside0.mk (Kd.R_below (by (with_reducible repeat (first|apply Kd.R_alloc|apply Kd.R_drewN|apply Kd.R_drew));exact HO_359002.out) hb)
                have n1_:=Aside0.mk (zaa (zB BK346.out) hb)
                have n2_:=Aside0.mk (zaa (zB BK347.out) hb)
                have n3_:=Aside0.mk (zaa (zB BK348.out) hb)
                have n4_:=Aside0.mk (zaa (zB BK349.out) hb)
                have n5_:=Aside0.mk (zaa (zB BK358.out) hb)
                have n6_:=Aside0.mk (zad (zL5 HB.out GE346.out GE347.out GE348.out GE349.out GE358.out) hb)
                clear HO_359002
                clear BK346
                clear BK347
                clear BK348
                clear BK349
                clear BK358
                clear HB
                have HO_359002:=n0_
                have BK346:=n1_
                have BK347:=n2_
                have BK348:=n3_
                have BK349:=n4_
                have BK358:=n5_
                have HB:=n6_
                clear n0_ n1_ n2_ n3_ n4_ n5_ n6_
                (try clear hb)
                (try clear hb2)
                (try clear hk)
                (try clear hi)
                refine hK.out _ _ ⟨zc BK358.out 0,zc BK358.out 1,zc BK358.out 2,zc BK346.out 0,zc BK346.out 1,zc BK346.out 2,zc BK346.out 3,zc BK346.out 4,zc BK346.out 5,zc BK346.out 6,zc BK346.out 7,zc BK346.out 8,zc BK346.out 9,zc BK346.out 10,zc BK346.out 11,zc BK346.out 12,zc BK346.out 13,zc BK346.out 14,zc BK346.out 15,zc BK347.out 0,zc BK347.out 1,zc BK347.out 2,zc BK347.out 3,zc BK347.out 4⟩ (fun hHeld=>?_)
                clear hK K
                refine norm_ (a':=?_) ?_ ?_
                rotate_left
                ·show Act.put _ (some 73) _=_
                 exact zP
                refine one_ (i:=7) (N:=some 74) #[true,true,true,true,true,true,true,true,false,false,false] rfl rfl (zaR HT_.out (by kernel_rfl)) (by decide) (fun K hK=>?_)
                refine value_ (w1:=?_) (v:=?_) (by rfl) rfl ?_ ?_
                rotate_left 2
                ·go_simp
                 constructor
                 ·rfl
                 ·rfl
                refine hK.out _ _ ⟨(za2 (zaZ BK358.out _) 0).trans rfl,(za2 (zaZ BK358.out _) 1).trans rfl,(za2 (zaZ BK358.out _) 2).trans rfl,(za2 (zaZ BK346.out _) 0).trans rfl,(za2 (zaZ BK346.out _) 1).trans rfl,(za2 (zaZ BK346.out _) 2).trans rfl,(za2 (zaZ BK346.out _) 3).trans rfl,(za2 (zaZ BK346.out _) 4).trans rfl,(za2 (zaZ BK346.out _) 5).trans rfl,(za2 (zaZ BK346.out _) 6).trans rfl,(za2 (zaZ BK346.out _) 7).trans rfl,(za2 (zaZ BK346.out _) 8).trans rfl,(za2 (zaZ BK346.out _) 9).trans rfl,(za2 (zaZ BK346.out _) 10).trans rfl,(za2 (zaZ BK346.out _) 11).trans rfl,(za2 (zaZ BK346.out _) 12).trans rfl,(za2 (zaZ BK346.out _) 13).trans rfl,(za2 (zaZ BK346.out _) 14).trans rfl,(za2 (zaZ BK346.out _) 15).trans rfl,(za2 (zaZ BK347.out _) 0).trans rfl,(za2 (zaZ BK347.out _) 1).trans rfl,(za2 (zaZ BK347.out _) 2).trans rfl,(za2 (zaZ BK347.out _) 3).trans rfl,(za2 (zaZ BK347.out _) 4).trans rfl⟩ (fun hHeld=>?_)
                clear hK K
                refine norm_ (a':=?_) ?_ ?_
                rotate_left
                ·show Act.put _ (some 74) _=_
                 exact zP
                refine one_ (i:=8) (N:=some 75) #[true,true,true,true,true,true,true,true,true,false,false] rfl rfl (zaR HT_.out (by kernel_rfl)) (by decide) (fun K hK=>?_)
                refine Kd.R_append_step (Kd.int .i64) (w0:=w) w.heap.size (by rfl) (.tmp 68) (.tmp 74) 36 3 (.int .i64 0) 8 rfl Try.underlying36 info3 rfl (by decide) (by omega) u359002 x359002_4 t359 [.int .i64 t359] (fun _=>True) (fun _=>False) rfl rfl ?aP (fun _ hk=>hk.elim) ?aF ?aO ?aB ?aS ?aL ?_
                (case aP=>exact rfl)
                (case aB=>exact (zL5 HB.out GE346.out GE347.out GE348.out GE349.out GE358.out))
                (case aF=>exact (fun _ _=>trivial))
                (case aO=>exact (by (with_reducible repeat (first|apply Kd.R_alloc|apply Kd.R_drewN|apply Kd.R_drew));exact HO_359002.out))
                (case aS=>exact (zbF (zL5 HB.out GE346.out GE347.out GE348.out GE349.out GE358.out)))
                (case aL=>have:=LMc75.out;omega)
                intro v361 w83 ho hb hg hat
                rw [← Ny360.out] at ho
                have n0_:=Aside0.mk (zbH (g:=gb346) (o:=.cells #[.int .i64 a0_0,.int .i64 a0_1,.int .i64 a0_2,.int .i64 a0_3,.int .i64 a0_4,.int .i64 a0_5,.int .i64 a0_6,.int .i64 a0_7,.int .i64 a0_8,.int .i64 a0_9,.int .i64 a0_10,.int .i64 a0_11,.int .i64 a0_12,.int .i64 a0_13,.slice A0_14 l0_14.length c0_14,.bool a0_15] 26 (0,0)) (zB BK346.out) hg (Kd.R_ne HO_359002.out BK346.out (by decide)))
                have n1_:=Aside0.mk (zbH (g:=gb347) (o:=.cells #[.int .i64 a1_0,.int .i64 a1_1,.int .i64 a1_2,.int .i64 a1_3,.int .i64 a1_4] 28 (0,0)) (zB BK347.out) hg (Kd.R_ne HO_359002.out BK347.out (by decide)))
                have n2_:=Aside0.mk (zbH (g:=gb348) (o:=.cells #[.int .i64 a2_0,.int .i64 a2_1,.int .i64 a2_2,.int .i64 a2_3] 32 (0,0)) (zB BK348.out) hg (Kd.R_ne HO_359002.out BK348.out (by decide)))
                have n3_:=Aside0.mk (zbH (g:=gb349) (o:=.cells #[.int .i64 0,.int .i64 0,.slice none 0 0] 38 (0,0)) (zB BK349.out) hg (Kd.R_ne HO_359002.out BK349.out (by decide)))
                have n4_:=Aside0.mk (zbH (g:=gb358) (o:=.cells #[.int .i64 a2_2,.int .i64 a2_3,u359002] 38 (0,0)) (zB BK358.out) hg (Kd.R_ne HO_359002.out BK358.out (by decide)))
                have n5_:=Aside0.mk (hb)
                have n6_:=Aside0.mk (ho)
                clear BK346
                clear BK347
                clear BK348
                clear BK349
                clear BK358
                clear HB
                clear HO_359002
                have BK346:=n0_
                have BK347:=n1_
                have BK348:=n2_
                have BK349:=n3_
                have BK358:=n4_
                have HB:=n5_
                have HO362:=n6_
                clear n0_ n1_ n2_ n3_ n4_ n5_ n6_
                clear ho hb hg hat
                obtain ⟨Ao84,co84,eo84⟩:=Kd.R_slice HO362.out
                (first|subst eo84|(injection eo84 with f1_ f2_ f3_;have f4_:=f1_.symm;have f5_:=f3_.symm;clear f1_ f2_ f3_;subst f4_;subst f5_))
                refine hK.out _ _ ⟨zc BK358.out 0,zc BK358.out 1,zc BK358.out 2,zc BK346.out 0,zc BK346.out 1,zc BK346.out 2,zc BK346.out 3,zc BK346.out 4,zc BK346.out 5,zc BK346.out 6,zc BK346.out 7,zc BK346.out 8,zc BK346.out 9,zc BK346.out 10,zc BK346.out 11,zc BK346.out 12,zc BK346.out 13,zc BK346.out 14,zc BK346.out 15,zc BK347.out 0,zc BK347.out 1,zc BK347.out 2,zc BK347.out 3,zc BK347.out 4⟩ (fun hHeld=>?_)
                clear hK K
                refine norm_ (a':=?_) ?_ ?_
                rotate_left
                ·show Act.put _ (some 75) _=_
                 exact zP
                refine pure_ (i:=9) (N:=some 76) (v:=?_) (a':=?_) #[true,true,true,true,true,true,true,true,true,true,false] rfl rfl (zap HT_.out (by kernel_rfl)) (fun _ _ _ h=>h) (Or.inl ⟨by rfl,?_⟩) ?_ ?_
                rotate_left
                ·intro w'
                 go_simp
                 with_reducible rfl
                rotate_left
                ·exact zP
                refine last_ (i:=10) (N:=none) #[true,true,true,true,true,true,true,true,true,true,true] rfl rfl (zaR HT_.out (by kernel_rfl)) (by decide) (fun K hK=>?_)
                have hs85:w83.cell? ⟨gb358,2,none⟩=some (u359002):=zc BK358.out 2
                have hfs85:=zaB BK358.out 2
                have hns85_0:=NB346_358.out
                have hns85_1:=NB347_358.out
                have hns85_2:=NB348_358.out
                have hns85_3:=NB349_358.out
                have hms85_0:=NB358_346.out
                have hms85_1:=NB358_347.out
                have hms85_2:=NB358_348.out
                have hms85_3:=NB358_349.out
                refine skip_ (w1:=?_) (by rfl) rfl ?_ ?_
                rotate_left
                ·go_simp
                 rfl
                refine hK.out _ _ ?_
                clear hK K
                refine done_ (zbr HT_.out (by kernel_rfl)) ?_
                try go_wp2
                go_roundg k4
                case measure=>have:=HJ5.out;have:=HJ28.out;have:=HK3.out;have:=HK4.out;omega
                case rel=>exact ⟨(wrap64 (x11_4+1)),(y360),(.slice Ao84 y360.length co84),zF,H',⟨by have:=HJ5.out;have:=HJ28.out;have:=HK3.out;have:=HK4.out;omega⟩,⟨by (with_reducible repeat (first|apply Kd.R_alloc|apply Kd.R_drewN|apply Kd.R_drew));exact Kd.R_mono (Kd.R_far (p:=⟨gb358,2,none⟩) (Kd.R_types HO362.out BK358.out (by decide)) (fun _ hk=>hk.2) (.slice Ao84 y360.length co84)) (fun _ hk=>trivial)⟩,⟨by refine zB ?_;refine zab ?_ NB346_358.out _;refine zB ?_;exact BK346.out⟩,⟨by refine zB ?_;refine zab ?_ NB347_358.out _;refine zB ?_;exact BK347.out⟩,⟨by refine zB ?_;refine zab ?_ NB348_358.out _;refine zB ?_;exact BK348.out⟩,⟨by refine zB ?_;refine zab ?_ NB349_358.out _;refine zB ?_;exact BK349.out⟩,⟨by refine zB ?_;refine zae (cs:=#[.int .i64 a2_2,.int .i64 a2_3,u359002]) ?_ 2 _ rfl;refine zB ?_;exact BK358.out⟩,⟨by repeat (first|(with_reducible first|exact HB.out|apply zai|apply zaf|apply zag|refine zac ?_ GE346.out|refine zac ?_ GE347.out|refine zac ?_ GE348.out|refine zac ?_ GE349.out|refine zac ?_ GE358.out)|exact HB.out)⟩⟩
               ·rw [if_neg c75] at H
                exact absurd H (by simp)
              ·rw [if_neg c73] at H
               have c73b0:decide (x11_4<(wrap64 (a2_0+a2_2)))=false:=decide_eq_false c73
               clear c73
               have H':=Aside0.mk H
               clear H
               have hnb86:=NB348_346.out
               have hnc86:=NB346_348.out
               have hnb87:=NB348_347.out
               have hnc87:=NB347_348.out
               have hnb88:=NB348_349.out
               have hnc88:=NB349_348.out
               have hnb89:=NB348_358.out
               have hnc89:=NB358_348.out
               obtain ⟨hcz90_0,hcz90_1,hcz90_2,hcz90_3⟩:=zD4 BK348.out
               obtain ⟨hfz90_0,hfz90_1,hfz90_2,hfz90_3⟩:=zE4 BK348.out
               go_wp2
               go_roundg k4
               case measure=>have:=HJ5.out;have:=HJ28.out;have:=HK3.out;have:=HK4.out;omega
               case rel=>exact ⟨(wrap64 (x10_3+1)),(x359002_4),(u359002),zF,H',⟨by have:=HJ5.out;have:=HJ28.out;have:=HK3.out;have:=HK4.out;omega⟩,⟨by (with_reducible repeat (first|apply Kd.R_alloc|apply Kd.R_drewN|apply Kd.R_drew));exact HO_359002.out⟩,⟨by refine zB ?_;exact BK346.out⟩,⟨by refine zB ?_;exact BK347.out⟩,⟨by refine zB ?_;exact BK348.out⟩,⟨by refine zB ?_;exact BK349.out⟩,⟨by refine zB ?_;exact BK358.out⟩,⟨by repeat (first|(with_reducible first|exact HB.out|apply zai|apply zaf|apply zag|refine zac ?_ GE346.out|refine zac ?_ GE347.out|refine zac ?_ GE348.out|refine zac ?_ GE349.out|refine zac ?_ GE358.out)|exact HB.out)⟩⟩
           ·rw [if_neg c67] at H
            have c67b0:decide (x10_3<(wrap64 (a2_1+a2_3)))=false:=decide_eq_false c67
            clear c67
            simp only [Option.some.injEq,Prod.mk.injEq] at H
            obtain ⟨rfl,rfl,rfl,rfl⟩:=H
            have hnb91:=NB348_346.out
            have hnc91:=NB346_348.out
            have hnb92:=NB348_347.out
            have hnc92:=NB347_348.out
            have hnb93:=NB348_349.out
            have hnc93:=NB349_348.out
            have hnb94:=NB348_358.out
            have hnc94:=NB358_348.out
            obtain ⟨hcz95_0,hcz95_1,hcz95_2,hcz95_3⟩:=zD4 BK348.out
            obtain ⟨hfz95_0,hfz95_1,hfz95_2,hfz95_3⟩:=zE4 BK348.out
            have hnb96:=NB358_346.out
            have hnc96:=NB346_358.out
            have hnb97:=NB358_347.out
            have hnc97:=NB347_358.out
            have hnb98:=NB358_349.out
            have hnc98:=NB349_358.out
            obtain ⟨hcz99_0,hcz99_1,hcz99_2⟩:=zD3 BK358.out
            obtain ⟨hfz99_0,hfz99_1,hfz99_2⟩:=zE3 BK358.out
            have hnb100:=NB349_346.out
            have hnc100:=NB346_349.out
            have hnb101:=NB349_347.out
            have hnc101:=NB347_349.out
            obtain ⟨hcz102_0,hcz102_1,hcz102_2⟩:=zD3 BK349.out
            obtain ⟨hfz102_0,hfz102_1,hfz102_2⟩:=zE3 BK349.out
            obtain ⟨Ao103,co103,eo103⟩:=Kd.R_slice HO_359002.out
            subst eo103
            go_wp2
            refine bodyPost_ret (zbG rfl _ _ gb349 38 #[.int .i64 a2_2,.int .i64 a2_3,.slice Ao103 x359002_3.length co103] (0,0) _ rfl (by refine zB ?_;refine zae (cs:=#[.int .i64 a2_2,.int .i64 a2_3,.slice none 0 0]) ?_ 2 _ rfl;refine zB ?_;refine zae (cs:=#[.int .i64 a2_2,.int .i64 0,.slice none 0 0]) ?_ 1 _ rfl;refine zB ?_;refine zae (cs:=#[.int .i64 0,.int .i64 0,.slice none 0 0]) ?_ 0 _ rfl;refine zB ?_;exact BK349.out) Try.underlying38 rfl (by kernel_rfl)) rfl ?_
            exact ⟨_,by first|rfl|(simp [errW_none,errW_some] <;> rfl)|(simp [*,errW_none,errW_some] <;> rfl),by (with_reducible repeat (first|apply Kd.R_alloc|apply Kd.R_drewN|apply Kd.R_drew));exact Kd.R_mono (Kd.R_far (p:=⟨gb349,2,none⟩) (Kd.R_far (p:=⟨gb349,1,none⟩) (Kd.R_far (p:=⟨gb349,0,none⟩) (Kd.R_types HO_359002.out BK349.out (by decide)) (fun _ hk=>hk.2) (.int .i64 a2_2)) (fun _ hk=>hk.2) (.int .i64 a2_3)) (fun _ hk=>hk.2) (.slice Ao103 x359002_3.length co103)) (fun _ hk=>trivial),by repeat (first|(with_reducible first|exact HB.out|apply zai|apply zaf|apply zag|refine zac ?_ GE346.out|refine zac ?_ GE347.out|refine zac ?_ GE348.out|refine zac ?_ GE349.out|refine zac ?_ GE358.out)|exact HB.out)⟩
 ·rw [if_neg c5] at H
  have c5b0:(t350==0)=false:=beq_eq_false_iff_ne.mpr c5
  have c5b1:(t350 != 0)=true:=bne_iff_ne.mpr c5
  simp only [Option.some.injEq,Prod.mk.injEq] at H
  obtain ⟨rfl,rfl,rfl,rfl⟩:=H
  go_enter Try.func20,Try.ntmps20
  go_wp2_with (first|((with_reducible refine zaA (N:=3) rfl ?_);refine zav ?hg (N:=3) ?hd (cs:=#[.int .i64 a0_0,.int .i64 a0_1,.int .i64 a0_2,.int .i64 a0_3,.int .i64 a0_4,.int .i64 a0_5,.int .i64 a0_6,.int .i64 a0_7,.int .i64 a0_8,.int .i64 a0_9,.int .i64 a0_10,.int .i64 a0_11,.int .i64 a0_12,.int .i64 a0_13,.slice A0_14 l0_14.length c0_14,.bool a0_15]) (t:=26) ?hr ?_;(case hd=>rfl);(case hg=>rfl);(case hr=>first|(go_simp;done)|(go_simp;rfl));intro gb346 hg w104 hbox hb;have n0_:=Aside0.mk (zad (zL HB.out) hb);have n1_:=Aside0.mk (hbox);have n2_:=Aside0.mk ((zS hg (zL HB.out):w.heap.size≤gb346));have n3_:=Aside0.mk ((zS hg (zL HB.out):w.heap.size≤gb346));clear HB;have HB:=n0_;have BK346:=n1_;have GW346:=n2_;have GE346:=n3_;clear n0_ n1_ n2_ n3_;clear hb hbox hg)|((with_reducible refine zaA (N:=4) rfl ?_);refine zav ?hg (N:=4) ?hd (cs:=#[.int .i64 a1_0,.int .i64 a1_1,.int .i64 a1_2,.int .i64 a1_3,.int .i64 a1_4]) (t:=28) ?hr ?_;(case hd=>rfl);(case hg=>rfl);(case hr=>first|(go_simp;done)|(go_simp;rfl));intro gb347 hg w105 hbox hb;have n0_:=Aside0.mk (zaa (zB BK346.out) hb);have n1_:=Aside0.mk (zad (zL1 HB.out GE346.out) hb);have n2_:=Aside0.mk (hbox);have n3_:=Aside0.mk ((zS hg (zL1 HB.out GE346.out):w.heap.size≤gb347));have n4_:=Aside0.mk ((zS hg (zL1 HB.out GE346.out):w.heap.size≤gb347));have n5_:=Aside0.mk ((by rw [hg];exact Nat.ne_of_lt (zao (zB BK346.out)):gb346≠gb347));have n6_:=Aside0.mk ((by rw [hg];exact Nat.ne_of_gt (zao (zB BK346.out)):gb347≠gb346));clear BK346;clear HB;have BK346:=n0_;have HB:=n1_;have BK347:=n2_;have GW347:=n3_;have GE347:=n4_;have NB346_347:=n5_;have NB347_346:=n6_;clear n0_ n1_ n2_ n3_ n4_ n5_ n6_;clear hb hbox hg)|((with_reducible refine zaA (N:=5) rfl ?_);refine zav ?hg (N:=5) ?hd (cs:=#[.int .i64 a2_0,.int .i64 a2_1,.int .i64 a2_2,.int .i64 a2_3]) (t:=32) ?hr ?_;(case hd=>rfl);(case hg=>rfl);(case hr=>first|(go_simp;done)|(go_simp;rfl));intro gb348 hg w106 hbox hb;have n0_:=Aside0.mk (zaa (zB BK346.out) hb);have n1_:=Aside0.mk (zaa (zB BK347.out) hb);have n2_:=Aside0.mk (zad (zL2 HB.out GE346.out GE347.out) hb);have n3_:=Aside0.mk (hbox);have n4_:=Aside0.mk ((zS hg (zL2 HB.out GE346.out GE347.out):w.heap.size≤gb348));have n5_:=Aside0.mk ((zS hg (zL2 HB.out GE346.out GE347.out):w.heap.size≤gb348));have n6_:=Aside0.mk ((by rw [hg];exact Nat.ne_of_lt (zao (zB BK346.out)):gb346≠gb348));have n7_:=Aside0.mk ((by rw [hg];exact Nat.ne_of_gt (zao (zB BK346.out)):gb348≠gb346));have n8_:=Aside0.mk ((by rw [hg];exact Nat.ne_of_lt (zao (zB BK347.out)):gb347≠gb348));have n9_:=Aside0.mk ((by rw [hg];exact Nat.ne_of_gt (zao (zB BK347.out)):gb348≠gb347));clear BK346;clear BK347;clear HB;have BK346:=n0_;have BK347:=n1_;have HB:=n2_;have BK348:=n3_;have GW348:=n4_;have GE348:=n5_;have NB346_348:=n6_;have NB348_346:=n7_;have NB347_348:=n8_;have NB348_347:=n9_;clear n0_ n1_ n2_ n3_ n4_ n5_ n6_ n7_ n8_ n9_;clear hb hbox hg)|((with_reducible refine zaA (N:=6) rfl ?_);refine zav ?hg (N:=6) ?hd (cs:=#[.int .i64 0,.int .i64 0,.slice none 0 0]) (t:=38) ?hr ?_;(case hd=>rfl);(case hg=>rfl);(case hr=>first|(go_simp;done)|(go_simp;rfl));intro gb349 hg w107 hbox hb;have n0_:=Aside0.mk (zaa (zB BK346.out) hb);have n1_:=Aside0.mk (zaa (zB BK347.out) hb);have n2_:=Aside0.mk (zaa (zB BK348.out) hb);have n3_:=Aside0.mk (zad (zL3 HB.out GE346.out GE347.out GE348.out) hb);have n4_:=Aside0.mk (hbox);have n5_:=Aside0.mk ((zS hg (zL3 HB.out GE346.out GE347.out GE348.out):w.heap.size≤gb349));have n6_:=Aside0.mk ((zS hg (zL3 HB.out GE346.out GE347.out GE348.out):w.heap.size≤gb349));have n7_:=Aside0.mk ((by rw [hg];exact Nat.ne_of_lt (zao (zB BK346.out)):gb346≠gb349));have n8_:=Aside0.mk ((by rw [hg];exact Nat.ne_of_gt (zao (zB BK346.out)):gb349≠gb346));have n9_:=Aside0.mk ((by rw [hg];exact Nat.ne_of_lt (zao (zB BK347.out)):gb347≠gb349));have n10_:=Aside0.mk ((by rw [hg];exact Nat.ne_of_gt (zao (zB BK347.out)):gb349≠gb347));have n11_:=Aside0.mk ((by rw [hg];exact Nat.ne_of_lt (zao (zB BK348.out)):gb348≠gb349));have n12_:=Aside0.mk ((by rw [hg];exact Nat.ne_of_gt (zao (zB BK348.out)):gb349≠gb348));clear BK346;clear BK347;clear BK348;clear HB;have BK346:=n0_;have BK347:=n1_;have BK348:=n2_;have HB:=n3_;have BK349:=n4_;have GW349:=n5_;have GE349:=n6_;have NB346_349:=n7_;have NB349_346:=n8_;have NB347_349:=n9_;have NB349_347:=n10_;have NB348_349:=n11_;have NB349_348:=n12_;clear n0_ n1_ n2_ n3_ n4_ n5_ n6_ n7_ n8_ n9_ n10_ n11_ n12_;clear hb hbox hg;have hnb108:=NB346_347.out;have hnc108:=NB347_346.out;have hnb109:=NB346_348.out;have hnc109:=NB348_346.out;have hnb110:=NB346_349.out;have hnc110:=NB349_346.out;obtain ⟨hcz111_0,hcz111_1,hcz111_2,hcz111_3,hcz111_4,hcz111_5,hcz111_6,hcz111_7,hcz111_8,hcz111_9,hcz111_10,hcz111_11,hcz111_12,hcz111_13,hcz111_14,hcz111_15⟩:=zD16 BK346.out;obtain ⟨hfz111_0,hfz111_1,hfz111_2,hfz111_3,hfz111_4,hfz111_5,hfz111_6,hfz111_7,hfz111_8,hfz111_9,hfz111_10,hfz111_11,hfz111_12,hfz111_13,hfz111_14,hfz111_15⟩:=zE16 BK346.out)|((with_reducible refine zal (f:=15) rfl ?_);refine goesL_ (some 13) rfl rfl Try.func15 (by kernel_rfl) rfl #[.agg #[.int .i64 a0_0,.int .i64 a0_1,.int .i64 a0_2,.int .i64 a0_3,.int .i64 a0_4,.int .i64 a0_5,.int .i64 a0_6,.int .i64 a0_7,.int .i64 a0_8,.int .i64 a0_9,.int .i64 a0_10,.int .i64 a0_11,.int .i64 a0_12,.int .i64 a0_13,.slice A0_14 l0_14.length c0_14,.bool a0_15]] rfl zA ?_;(with_reducible refine (zah.calls k a0_0 a0_1 a0_2 a0_3 a0_4 a0_5 a0_6 a0_7 a0_8 a0_9 a0_10 a0_11 a0_12 a0_13 _ _ l0_14 a0_15 t350 _ ?side1 ?side2 A4.out).mono ?_);(case side1=>repeat (first|exact (Kd.C_below HR0_14.out HB.out)|(with_reducible refine Kd.C_alloc ?_ _)|(with_reducible refine Kd.C_drewN ?_ _)|(with_reducible refine Kd.C_drew ?_)));(case side2=>exact HC0_14.out);rintro e w112 ⟨rfl,hb⟩;refine ⟨_,rfl,?_⟩;replace BK346:=Aside0.mk (zaa (zB BK346.out) hb);replace BK347:=Aside0.mk (zaa (zB BK347.out) hb);replace BK348:=Aside0.mk (zaa (zB BK348.out) hb);replace BK349:=Aside0.mk (zaa (zB BK349.out) hb);replace HB:=Aside0.mk (zad (zL4 HB.out GE346.out GE347.out GE348.out GE349.out) hb);(try clear hb);(try clear hb2);(try clear hk);(try clear hi);have hnb113:=NB349_347.out;have hnc113:=NB347_349.out;have hnb114:=NB349_348.out;have hnc114:=NB348_349.out;obtain ⟨hcz115_0,hcz115_1,hcz115_2⟩:=zD3 BK349.out;obtain ⟨hfz115_0,hfz115_1,hfz115_2⟩:=zE3 BK349.out))
  refine bodyPost_ret (zbG rfl _ _ gb349 38 #[.int .i64 0,.int .i64 0,.slice none 0 0] (0,0) _ rfl (by refine zB ?_;refine zae (cs:=#[.int .i64 0,.int .i64 0,.slice none 0 0]) ?_ 2 _ rfl;refine zB ?_;refine zae (cs:=#[.int .i64 0,.int .i64 0,.slice none 0 0]) ?_ 1 _ rfl;refine zB ?_;refine zae (cs:=#[.int .i64 0,.int .i64 0,.slice none 0 0]) ?_ 0 _ rfl;refine zB ?_;exact BK349.out) Try.underlying38 rfl (by kernel_rfl)) rfl ?_
  exact ⟨_,by first|rfl|(simp [errW_none,errW_some] <;> rfl)|(simp [*,errW_none,errW_some] <;> rfl),by first|exact Kd.R_nil _ _ _ _ _|exact Kd.N_nil _ _ _ _ _|exact Kd.V_nil _ _ _ _ _|exact Kd.Q_nil _ _ _ _ _|exact Kd.S_nil _ _ _ _ _,by repeat (first|(with_reducible first|exact HB.out|apply zai|apply zaf|apply zag|refine zac ?_ GE346.out|refine zac ?_ GE347.out|refine zac ?_ GE348.out|refine zac ?_ GE349.out)|exact HB.out)⟩
end Go.Proofs.Ytlilncnoohfcdaa.Da
