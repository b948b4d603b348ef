
import Derived.Test.YtlilncnoohfcdaaDax0
import Derived.Test.YtlilncnoohfcdaaDax3
import Derived.Test.YtlilncnoohfcdaaDax8
import Derived.Test.YtlilncnoohfcdaaBrx0
import Derived.Test.YtlilncnoohfcdaaBrx3
namespace Go.Proofs.Ytlilncnoohfcdaa.Br
open Go.RowKit Go.Proofs.YtlilncnoohfcdaaW.PrintWords Go.Proofs.YtlilncnoohfcdaaW.PrintLast Go.Proofs.YtlilncnoohfcdaaW.PrintMore Go.Proofs.Ytlilncnoohfcdaa.Da
attribute [local go_sem] zbr zbu zbD zbH zbq zbp zbv zbt   
set_option linter.unusedVariables false
set_option linter.unusedSimpArgs false
/-! ### dynamics_Speed: function 74 -/
def za3.f (k:Nat) (f6:Int) (e6:Int) (i7:Int) (i8:Int) (f7:Int) (i3:Int) (e9:Int) (i9:Int) (j2:Int) (i4:Int):Option (Int):=(zaR.f i4 0 1073741824).bind fun d8=>((zaR.f f7 0 1073741824).bind fun d7=>(if (wrap64 (d8 - d7))≤0 then (some 0) else ((zaR.f i3 (-16777216) 16777216).bind fun i5=>((zaR.f f6 (-16777216) 16777216).bind fun g9=>((zaR.f e9 (-16777216) 16777216).bind fun f5=>((zaR.f e6 (-16777216) 16777216).bind fun e7=>((zce.f k (wrap64 (i5 - g9)) (wrap64 (f5 - e7))).bind fun e5=>((zbl.f k (wrap64 (e5*65535)) (wrap64 (64*(wrap64 (d8 - d7))))).bind fun d9=>((zbj.f d9).bind fun e0=>(some e0))))))))))
def za3.T1:Bool×List (List Nat×List Nat):=(true,[([],[]),([0],[0]),([1],[1]),([],[]),([3],[3]),([4,2],[4]),([2,5],[2,5]),([6,5,0,1,2,3,4,5,6],[6])])
def za3.B1:List Nat:=[0,1,3,0,8,31,63,127]
theorem za3.tab1:rtab .any (opsOf Try.f74 1)=za3.T1:=by kernel_rfl
theorem za3.bits1:zbE za3.T1.2 za3.B1=true:=by kernel_rfl
def za3.T4:Bool×List (List Nat×List Nat):=(true,[([],[]),([0],[0]),([1],[1]),([],[]),([3],[3]),([4,2],[4]),([2,5],[2,5]),([6,5,0,1,2,3,4,5,6],[6])])
def za3.B4:List Nat:=[0,1,3,0,8,31,63,127]
theorem za3.tab4:rtab .any (opsOf Try.f74 4)=za3.T4:=by kernel_rfl
theorem za3.bits4:zbE za3.T4.2 za3.B4=true:=by kernel_rfl
def za3.T5:Bool×List (List Nat×List Nat):=(true,[([],[]),([0],[0]),([1],[1]),([],[]),([3],[3]),([4,2],[4]),([2,5],[2,5]),([6,5,0,1,2,3,4,5,6],[6])])
def za3.B5:List Nat:=[0,1,3,0,8,31,63,127]
theorem za3.tab5:rtab .any (opsOf Try.f74 5)=za3.T5:=by kernel_rfl
theorem za3.bits5:zbE za3.T5.2 za3.B5=true:=by kernel_rfl
set_option maxHeartbeats 8000000 in
set_option maxRecDepth 100000 in
theorem za3.calls (k:Nat) (f6:Int) (e6:Int) (i7:Int) (i8:Int) (f7:Int) (i3:Int) (e9:Int) (i9:Int) (j2:Int) (i4:Int) (r:Int) (w:World) (h:za3.f k f6 e6 i7 i8 f7 i3 e9 i9 j2 i4=some r) :
 Calls Try.prog 74 #[.agg #[.int .i64 f6,.int .i64 e6,.int .i64 i7,.int .i64 i8,.int .i64 f7],.agg #[.int .i64 i3,.int .i64 e9,.int .i64 i9,.int .i64 j2,.int .i64 i4]] w fun e w'=>e = .returned (.int .i64 r)∧Below w.heap.size w w':=by
 have hu57:=Try.underlying57
 have HB:=zaa.mk (Below.refl w.heap.size w)
 have H:((zaR.f i4 0 1073741824).bind fun d8=>((zaR.f f7 0 1073741824).bind fun d7=>(if (wrap64 (d8 - d7))≤0 then (some 0) else ((zaR.f i3 (-16777216) 16777216).bind fun i5=>((zaR.f f6 (-16777216) 16777216).bind fun g9=>((zaR.f e9 (-16777216) 16777216).bind fun f5=>((zaR.f e6 (-16777216) 16777216).bind fun e7=>((zce.f k (wrap64 (i5 - g9)) (wrap64 (f5 - e7))).bind fun e5=>((zbl.f k (wrap64 (e5*65535)) (wrap64 (64*(wrap64 (d8 - d7))))).bind fun d9=>((zbj.f d9).bind fun e0=>(some e0)))))))))))=some r:=h
 clear h
 obtain ⟨d8,A3,H⟩:=zob H
 replace H:((zaR.f f7 0 1073741824).bind fun d7=>(if (wrap64 (d8 - d7))≤0 then (some 0) else ((zaR.f i3 (-16777216) 16777216).bind fun i5=>((zaR.f f6 (-16777216) 16777216).bind fun g9=>((zaR.f e9 (-16777216) 16777216).bind fun f5=>((zaR.f e6 (-16777216) 16777216).bind fun e7=>((zce.f k (wrap64 (i5 - g9)) (wrap64 (f5 - e7))).bind fun e5=>((zbl.f k (wrap64 (e5*65535)) (wrap64 (64*(wrap64 (d8 - d7))))).bind fun d9=>((zbj.f d9).bind fun e0=>(some e0))))))))))=some r:=H
 obtain ⟨d7,A4,H⟩:=zob H
 replace H:(if (wrap64 (d8 - d7))≤0 then (some 0) else ((zaR.f i3 (-16777216) 16777216).bind fun i5=>((zaR.f f6 (-16777216) 16777216).bind fun g9=>((zaR.f e9 (-16777216) 16777216).bind fun f5=>((zaR.f e6 (-16777216) 16777216).bind fun e7=>((zce.f k (wrap64 (i5 - g9)) (wrap64 (f5 - e7))).bind fun e5=>((zbl.f k (wrap64 (e5*65535)) (wrap64 (64*(wrap64 (d8 - d7))))).bind fun d9=>((zbj.f d9).bind fun e0=>(some e0)))))))))=some r:=H
 by_cases c5:(wrap64 (d8 - d7))≤0
 ·rw [if_pos c5] at H
  have c5b0:decide ((wrap64 (d8 - d7))≤0)=true:=decide_eq_true c5
  clear c5
  obtain rfl:=Option.some.inj H
  go_enter Try.func74,Try.ntmps74
  try go_wp2_with (first|((with_reducible refine zaC (N:=2) rfl ?_);refine zbx (N:=2) #[.int .i64 f6,.int .i64 e6,.int .i64 i7,.int .i64 i8,.int .i64 f7] 57 ?_;intro d5 hg w6 hbox hb;have n0_:=zaa.mk (zae (zL HB.out) hb);have n1_:=zaa.mk (hbox);have n2_:=zaa.mk ((zS hg (zL HB.out):w.heap.size≤d5));have n3_:=n2_;clear HB;have HB:=n0_;have b9:=n1_;have j5:=n2_;have e8:=n3_;clear n0_ n1_ n2_ n3_;clear hb hbox hg)|((with_reducible refine zaC (N:=3) rfl ?_);refine zbx (N:=3) #[.int .i64 i3,.int .i64 e9,.int .i64 i9,.int .i64 j2,.int .i64 i4] 57 ?_;intro d6 hg w7 hbox hb;have n0_:=zaa.mk (zac (zB b9.out) hb);have n1_:=zaa.mk (zae (zL1 HB.out e8.out) hb);have n2_:=zaa.mk (hbox);have n3_:=zaa.mk ((zS hg (zL1 HB.out e8.out):w.heap.size≤d6));have n4_:=n3_;have n5_:=zaa.mk (zne hg (zB b9.out));have n6_:=zaa.mk (zen hg (zB b9.out));clear b9;clear HB;have b9:=n0_;have HB:=n1_;have b8:=n2_;have j6:=n3_;have i6:=n4_;have j3:=n5_;have j4:=n6_;clear n0_ n1_ n2_ n3_ n4_ n5_ n6_;clear hb hbox hg))
  replace b9:=zaa.mk (zaM b9.out)
  replace b8:=zaa.mk (zaM b8.out)
  replace HB:=zaa.mk (zai HB.out)
  refine zbA (n:=8) (S:=fun w'=>w'.cell? ⟨d6,0,none⟩=some (.int .i64 i3)∧w'.cell? ⟨d6,1,none⟩=some (.int .i64 e9)∧w'.cell? ⟨d6,2,none⟩=some (.int .i64 i9)∧w'.cell? ⟨d6,3,none⟩=some (.int .i64 j2)∧w'.cell? ⟨d6,4,none⟩=some (.int .i64 i4)∧w'.cell? ⟨d5,0,none⟩=some (.int .i64 f6)∧w'.cell? ⟨d5,1,none⟩=some (.int .i64 e6)∧w'.cell? ⟨d5,2,none⟩=some (.int .i64 i7)∧w'.cell? ⟨d5,3,none⟩=some (.int .i64 i8)∧w'.cell? ⟨d5,4,none⟩=some (.int .i64 f7)) (ds:=[]) #[false,false,false,false,false,false,false,false] (by kernel_rfl) rfl rfl ⟨zc b8.out 0,zc b8.out 1,zc b8.out 2,zc b8.out 3,zc b8.out 4,zD5 b9.out⟩ (fun hHeld=>?_);refine zbn za3.tab1 za3.bits1 (fun HT_ HW_=>?_)
  generalize w7.drew=w8 at b9 b8 HB hHeld ⊢
  refine zpu 0 8 HT_.out ?_
  refine zpu 3 11 HT_.out ?_
  refine ztk 1 9 HT_.out HW_.out hHeld ?_
  refine ztk 4 12 HT_.out HW_.out hHeld ?_
  refine zon 2 (some 10) HT_.out (fun K hK=>?_)
  refine zgo Try.func54 #[.int .i64 i4,.int .i64 0,.int .i64 1073741824] ?_
  with_reducible refine (zaR.calls i4 0 1073741824 d8 _ A3.out).mono ?_
  rintro e w9 ⟨rfl,hb⟩
  refine ⟨_,rfl,?_⟩
  replace b9:=zaa.mk (zac (zB b9.out) hb)
  replace b8:=zaa.mk (zac (zB b8.out) hb)
  replace HB:=zaa.mk (zae (zL2 HB.out e8.out i6.out) hb)
  (try clear hb)
  refine hK.out _ _ ⟨zc b8.out 0,zc b8.out 1,zc b8.out 2,zc b8.out 3,zc b8.out 4,zD5 b9.out⟩ (fun hHeld=>?_)
  clear hK K
  refine znm ?_
  refine zon 5 (some 13) HT_.out (fun K hK=>?_)
  refine zgo Try.func54 #[.int .i64 f7,.int .i64 0,.int .i64 1073741824] ?_
  with_reducible refine (zaR.calls f7 0 1073741824 d7 _ A4.out).mono ?_
  rintro e w10 ⟨rfl,hb⟩
  refine ⟨_,rfl,?_⟩
  replace b9:=zaa.mk (zac (zB b9.out) hb)
  replace b8:=zaa.mk (zac (zB b8.out) hb)
  replace HB:=zaa.mk (zae (zL2 HB.out e8.out i6.out) hb)
  (try clear hb)
  refine hK.out _ _ ⟨zc b8.out 0,zc b8.out 1,zc b8.out 2,zc b8.out 3,zc b8.out 4,zD5 b9.out⟩ (fun hHeld=>?_)
  clear hK K
  refine znm ?_
  refine zpu 6 14 HT_.out ?_
  refine zpu 7 5 HT_.out ?_
  refine zbT (zbB HT_.out (by kernel_rfl)) ?_
  try go_wp2
  go_ret
  exact zG
 ·rw [if_neg c5] at H
  have c5b0:decide ((wrap64 (d8 - d7))≤0)=false:=decide_eq_false c5
  clear c5
  obtain ⟨i5,A11,H⟩:=zob H
  replace H:((zaR.f f6 (-16777216) 16777216).bind fun g9=>((zaR.f e9 (-16777216) 16777216).bind fun f5=>((zaR.f e6 (-16777216) 16777216).bind fun e7=>((zce.f k (wrap64 (i5 - g9)) (wrap64 (f5 - e7))).bind fun e5=>((zbl.f k (wrap64 (e5*65535)) (wrap64 (64*(wrap64 (d8 - d7))))).bind fun d9=>((zbj.f d9).bind fun e0=>(some e0)))))))=some r:=H
  obtain ⟨g9,A12,H⟩:=zob H
  replace H:((zaR.f e9 (-16777216) 16777216).bind fun f5=>((zaR.f e6 (-16777216) 16777216).bind fun e7=>((zce.f k (wrap64 (i5 - g9)) (wrap64 (f5 - e7))).bind fun e5=>((zbl.f k (wrap64 (e5*65535)) (wrap64 (64*(wrap64 (d8 - d7))))).bind fun d9=>((zbj.f d9).bind fun e0=>(some e0))))))=some r:=H
  obtain ⟨f5,A13,H⟩:=zob H
  replace H:((zaR.f e6 (-16777216) 16777216).bind fun e7=>((zce.f k (wrap64 (i5 - g9)) (wrap64 (f5 - e7))).bind fun e5=>((zbl.f k (wrap64 (e5*65535)) (wrap64 (64*(wrap64 (d8 - d7))))).bind fun d9=>((zbj.f d9).bind fun e0=>(some e0)))))=some r:=H
  obtain ⟨e7,A14,H⟩:=zob H
  replace H:((zce.f k (wrap64 (i5 - g9)) (wrap64 (f5 - e7))).bind fun e5=>((zbl.f k (wrap64 (e5*65535)) (wrap64 (64*(wrap64 (d8 - d7))))).bind fun d9=>((zbj.f d9).bind fun e0=>(some e0))))=some r:=H
  obtain ⟨e5,A15,H⟩:=zob H
  replace H:((zbl.f k (wrap64 (e5*65535)) (wrap64 (64*(wrap64 (d8 - d7))))).bind fun d9=>((zbj.f d9).bind fun e0=>(some e0)))=some r:=H
  obtain ⟨d9,A16,H⟩:=zob H
  replace H:((zbj.f d9).bind fun e0=>(some e0))=some r:=H
  obtain ⟨e0,A17,H⟩:=zob H
  replace H:(some e0)=some r:=H
  obtain rfl:=Option.some.inj H
  go_enter Try.func74,Try.ntmps74
  try go_wp2_with (first|((with_reducible refine zaC (N:=2) rfl ?_);refine zbx (N:=2) #[.int .i64 f6,.int .i64 e6,.int .i64 i7,.int .i64 i8,.int .i64 f7] 57 ?_;intro d5 hg w18 hbox hb;have n0_:=zaa.mk (zae (zL HB.out) hb);have n1_:=zaa.mk (hbox);have n2_:=zaa.mk ((zS hg (zL HB.out):w.heap.size≤d5));have n3_:=n2_;clear HB;have HB:=n0_;have b9:=n1_;have j5:=n2_;have e8:=n3_;clear n0_ n1_ n2_ n3_;clear hb hbox hg)|((with_reducible refine zaC (N:=3) rfl ?_);refine zbx (N:=3) #[.int .i64 i3,.int .i64 e9,.int .i64 i9,.int .i64 j2,.int .i64 i4] 57 ?_;intro d6 hg w19 hbox hb;have n0_:=zaa.mk (zac (zB b9.out) hb);have n1_:=zaa.mk (zae (zL1 HB.out e8.out) hb);have n2_:=zaa.mk (hbox);have n3_:=zaa.mk ((zS hg (zL1 HB.out e8.out):w.heap.size≤d6));have n4_:=n3_;have n5_:=zaa.mk (zne hg (zB b9.out));have n6_:=zaa.mk (zen hg (zB b9.out));clear b9;clear HB;have b9:=n0_;have HB:=n1_;have b8:=n2_;have j6:=n3_;have i6:=n4_;have j3:=n5_;have j4:=n6_;clear n0_ n1_ n2_ n3_ n4_ n5_ n6_;clear hb hbox hg))
  replace b9:=zaa.mk (zaM b9.out)
  replace b8:=zaa.mk (zaM b8.out)
  replace HB:=zaa.mk (zai HB.out)
  refine zbA (n:=8) (S:=fun w'=>w'.cell? ⟨d6,0,none⟩=some (.int .i64 i3)∧w'.cell? ⟨d6,1,none⟩=some (.int .i64 e9)∧w'.cell? ⟨d6,2,none⟩=some (.int .i64 i9)∧w'.cell? ⟨d6,3,none⟩=some (.int .i64 j2)∧w'.cell? ⟨d6,4,none⟩=some (.int .i64 i4)∧w'.cell? ⟨d5,0,none⟩=some (.int .i64 f6)∧w'.cell? ⟨d5,1,none⟩=some (.int .i64 e6)∧w'.cell? ⟨d5,2,none⟩=some (.int .i64 i7)∧w'.cell? ⟨d5,3,none⟩=some (.int .i64 i8)∧w'.cell? ⟨d5,4,none⟩=some (.int .i64 f7)) (ds:=[]) #[false,false,false,false,false,false,false,false] (by kernel_rfl) rfl rfl ⟨zc b8.out 0,zc b8.out 1,zc b8.out 2,zc b8.out 3,zc b8.out 4,zD5 b9.out⟩ (fun hHeld=>?_);refine zbn za3.tab1 za3.bits1 (fun HT_ HW_=>?_)
  generalize w19.drew=w20 at b9 b8 HB hHeld ⊢
  refine zpu 0 8 HT_.out ?_
  refine zpu 3 11 HT_.out ?_
  refine ztk 1 9 HT_.out HW_.out hHeld ?_
  refine ztk 4 12 HT_.out HW_.out hHeld ?_
  refine zon 2 (some 10) HT_.out (fun K hK=>?_)
  refine zgo Try.func54 #[.int .i64 i4,.int .i64 0,.int .i64 1073741824] ?_
  with_reducible refine (zaR.calls i4 0 1073741824 d8 _ A3.out).mono ?_
  rintro e w21 ⟨rfl,hb⟩
  refine ⟨_,rfl,?_⟩
  replace b9:=zaa.mk (zac (zB b9.out) hb)
  replace b8:=zaa.mk (zac (zB b8.out) hb)
  replace HB:=zaa.mk (zae (zL2 HB.out e8.out i6.out) hb)
  (try clear hb)
  refine hK.out _ _ ⟨zc b8.out 0,zc b8.out 1,zc b8.out 2,zc b8.out 3,zc b8.out 4,zD5 b9.out⟩ (fun hHeld=>?_)
  clear hK K
  refine znm ?_
  refine zon 5 (some 13) HT_.out (fun K hK=>?_)
  refine zgo Try.func54 #[.int .i64 f7,.int .i64 0,.int .i64 1073741824] ?_
  with_reducible refine (zaR.calls f7 0 1073741824 d7 _ A4.out).mono ?_
  rintro e w22 ⟨rfl,hb⟩
  refine ⟨_,rfl,?_⟩
  replace b9:=zaa.mk (zac (zB b9.out) hb)
  replace b8:=zaa.mk (zac (zB b8.out) hb)
  replace HB:=zaa.mk (zae (zL2 HB.out e8.out i6.out) hb)
  (try clear hb)
  refine hK.out _ _ ⟨zc b8.out 0,zc b8.out 1,zc b8.out 2,zc b8.out 3,zc b8.out 4,zD5 b9.out⟩ (fun hHeld=>?_)
  clear hK K
  refine znm ?_
  refine zpu 6 14 HT_.out ?_
  refine zpu 7 5 HT_.out ?_
  refine zbT (zbB HT_.out (by kernel_rfl)) ?_
  try go_wp2
  replace b9:=zaa.mk (zaM b9.out)
  replace b8:=zaa.mk (zaM b8.out)
  replace HB:=zaa.mk (zai HB.out)
  refine zbA (n:=8) (S:=fun w'=>w'.cell? ⟨d6,0,none⟩=some (.int .i64 i3)∧w'.cell? ⟨d6,1,none⟩=some (.int .i64 e9)∧w'.cell? ⟨d6,2,none⟩=some (.int .i64 i9)∧w'.cell? ⟨d6,3,none⟩=some (.int .i64 j2)∧w'.cell? ⟨d6,4,none⟩=some (.int .i64 i4)∧w'.cell? ⟨d5,0,none⟩=some (.int .i64 f6)∧w'.cell? ⟨d5,1,none⟩=some (.int .i64 e6)∧w'.cell? ⟨d5,2,none⟩=some (.int .i64 i7)∧w'.cell? ⟨d5,3,none⟩=some (.int .i64 i8)∧w'.cell? ⟨d5,4,none⟩=some (.int .i64 f7)) (ds:=[]) #[false,false,false,false,false,false,false,false] (by kernel_rfl) rfl rfl ⟨zc b8.out 0,zc b8.out 1,zc b8.out 2,zc b8.out 3,zc b8.out 4,zD5 b9.out⟩ (fun hHeld=>?_);refine zbn za3.tab4 za3.bits4 (fun HT_ HW_=>?_)
  generalize w22.drew=w23 at b9 b8 HB hHeld ⊢
  refine zpu 0 17 HT_.out ?_
  refine zpu 3 20 HT_.out ?_
  refine ztk 1 18 HT_.out HW_.out hHeld ?_
  refine ztk 4 21 HT_.out HW_.out hHeld ?_
  refine zon 2 (some 19) HT_.out (fun K hK=>?_)
  refine zgo Try.func54 #[.int .i64 i3,.int .i64 (-16777216),.int .i64 16777216] ?_
  with_reducible refine (zaR.calls i3 (-16777216) 16777216 i5 _ A11.out).mono ?_
  rintro e w24 ⟨rfl,hb⟩
  refine ⟨_,rfl,?_⟩
  replace b9:=zaa.mk (zac (zB b9.out) hb)
  replace b8:=zaa.mk (zac (zB b8.out) hb)
  replace HB:=zaa.mk (zae (zL2 HB.out e8.out i6.out) hb)
  (try clear hb)
  refine hK.out _ _ ⟨zc b8.out 0,zc b8.out 1,zc b8.out 2,zc b8.out 3,zc b8.out 4,zD5 b9.out⟩ (fun hHeld=>?_)
  clear hK K
  refine znm ?_
  refine zon 5 (some 22) HT_.out (fun K hK=>?_)
  refine zgo Try.func54 #[.int .i64 f6,.int .i64 (-16777216),.int .i64 16777216] ?_
  with_reducible refine (zaR.calls f6 (-16777216) 16777216 g9 _ A12.out).mono ?_
  rintro e w25 ⟨rfl,hb⟩
  refine ⟨_,rfl,?_⟩
  replace b9:=zaa.mk (zac (zB b9.out) hb)
  replace b8:=zaa.mk (zac (zB b8.out) hb)
  replace HB:=zaa.mk (zae (zL2 HB.out e8.out i6.out) hb)
  (try clear hb)
  refine hK.out _ _ ⟨zc b8.out 0,zc b8.out 1,zc b8.out 2,zc b8.out 3,zc b8.out 4,zD5 b9.out⟩ (fun hHeld=>?_)
  clear hK K
  refine znm ?_
  refine zpu 6 23 HT_.out ?_
  refine zpu 7 6 HT_.out ?_
  refine zbT (zbB HT_.out (by kernel_rfl)) ?_
  try go_wp2
  replace b9:=zaa.mk (zaM b9.out)
  replace b8:=zaa.mk (zaM b8.out)
  replace HB:=zaa.mk (zai HB.out)
  refine zbA (n:=8) (S:=fun w'=>w'.cell? ⟨d6,0,none⟩=some (.int .i64 i3)∧w'.cell? ⟨d6,1,none⟩=some (.int .i64 e9)∧w'.cell? ⟨d6,2,none⟩=some (.int .i64 i9)∧w'.cell? ⟨d6,3,none⟩=some (.int .i64 j2)∧w'.cell? ⟨d6,4,none⟩=some (.int .i64 i4)∧w'.cell? ⟨d5,0,none⟩=some (.int .i64 f6)∧w'.cell? ⟨d5,1,none⟩=some (.int .i64 e6)∧w'.cell? ⟨d5,2,none⟩=some (.int .i64 i7)∧w'.cell? ⟨d5,3,none⟩=some (.int .i64 i8)∧w'.cell? ⟨d5,4,none⟩=some (.int .i64 f7)) (ds:=[]) #[false,false,false,false,false,false,false,false] (by kernel_rfl) rfl rfl ⟨zc b8.out 0,zc b8.out 1,zc b8.out 2,zc b8.out 3,zc b8.out 4,zD5 b9.out⟩ (fun hHeld=>?_);refine zbn za3.tab5 za3.bits5 (fun HT_ HW_=>?_)
  generalize w25.drew=w26 at b9 b8 HB hHeld ⊢
  refine zpu 0 24 HT_.out ?_
  refine zpu 3 27 HT_.out ?_
  refine ztk 1 25 HT_.out HW_.out hHeld ?_
  refine ztk 4 28 HT_.out HW_.out hHeld ?_
  refine zon 2 (some 26) HT_.out (fun K hK=>?_)
  refine zgo Try.func54 #[.int .i64 e9,.int .i64 (-16777216),.int .i64 16777216] ?_
  with_reducible refine (zaR.calls e9 (-16777216) 16777216 f5 _ A13.out).mono ?_
  rintro e w27 ⟨rfl,hb⟩
  refine ⟨_,rfl,?_⟩
  replace b9:=zaa.mk (zac (zB b9.out) hb)
  replace b8:=zaa.mk (zac (zB b8.out) hb)
  replace HB:=zaa.mk (zae (zL2 HB.out e8.out i6.out) hb)
  (try clear hb)
  refine hK.out _ _ ⟨zc b8.out 0,zc b8.out 1,zc b8.out 2,zc b8.out 3,zc b8.out 4,zD5 b9.out⟩ (fun hHeld=>?_)
  clear hK K
  refine znm ?_
  refine zon 5 (some 29) HT_.out (fun K hK=>?_)
  refine zgo Try.func54 #[.int .i64 e6,.int .i64 (-16777216),.int .i64 16777216] ?_
  with_reducible refine (zaR.calls e6 (-16777216) 16777216 e7 _ A14.out).mono ?_
  rintro e w28 ⟨rfl,hb⟩
  refine ⟨_,rfl,?_⟩
  replace b9:=zaa.mk (zac (zB b9.out) hb)
  replace b8:=zaa.mk (zac (zB b8.out) hb)
  replace HB:=zaa.mk (zae (zL2 HB.out e8.out i6.out) hb)
  (try clear hb)
  refine hK.out _ _ ⟨zc b8.out 0,zc b8.out 1,zc b8.out 2,zc b8.out 3,zc b8.out 4,zD5 b9.out⟩ (fun hHeld=>?_)
  clear hK K
  refine znm ?_
  refine zpu 6 30 HT_.out ?_
  refine zpu 7 7 HT_.out ?_
  refine zbT (zbB HT_.out (by kernel_rfl)) ?_
  try go_wp2_with (first|((with_reducible refine zah (f:=111) rfl ?_);refine zgl 33 Try.func111 #[.int .i64 (wrap64 (i5 - g9)),.int .i64 (wrap64 (f5 - e7))] ?_;(with_reducible refine (zce.calls k (wrap64 (i5 - g9)) (wrap64 (f5 - e7)) e5 _ A15.out).mono ?_);rintro e w' ⟨rfl,⟨nd,rfl⟩⟩;refine ⟨_,rfl,?_⟩)|((with_reducible refine zah (f:=110) rfl ?_);refine zgl 37 Try.func110 #[.int .i64 (wrap64 (e5*65535)),.int .i64 (wrap64 (64*(wrap64 (d8 - d7))))] ?_;(with_reducible refine (zbl.calls k (wrap64 (e5*65535)) (wrap64 (64*(wrap64 (d8 - d7)))) d9 _ A16.out).mono ?_);rintro e w' ⟨rfl,⟨nd,rfl⟩⟩;refine ⟨_,rfl,?_⟩)|((with_reducible refine zah (f:=120) rfl ?_);refine zgl 38 Try.func120 #[.int .i64 d9] ?_;(with_reducible refine (zbj.calls d9 e0 _ A17.out).mono ?_);rintro e w29 ⟨rfl,hb⟩;refine ⟨_,rfl,?_⟩;replace b9:=zaa.mk (zac (zB b9.out) hb);replace b8:=zaa.mk (zac (zB b8.out) hb);replace HB:=zaa.mk (zae (zL2 HB.out e8.out i6.out) hb);(try clear hb)))
  go_ret
  exact zG
end Go.Proofs.Ytlilncnoohfcdaa.Br
