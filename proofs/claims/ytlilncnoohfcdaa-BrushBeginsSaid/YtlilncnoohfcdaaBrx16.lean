
import Derived.Test.YtlilncnoohfcdaaDax0
import Derived.Test.YtlilncnoohfcdaaDax14
import Derived.Test.YtlilncnoohfcdaaDax15
import Derived.Test.YtlilncnoohfcdaaBrx0
import Derived.Test.YtlilncnoohfcdaaBrx13
import Derived.Test.YtlilncnoohfcdaaBrx15
namespace Go.Proofs.Ytlilncnoohfcdaa.Br
open Go.RowKit Go.Proofs.YtlilncnoohfcdaaW.PrintWords Go.Proofs.YtlilncnoohfcdaaW.PrintLast Go.Proofs.YtlilncnoohfcdaaW.PrintMore Go.Proofs.Ytlilncnoohfcdaa.Da
attribute [local go_sem] zbr zbu zbD zbH zbq zbp zbv zbt   
set_option linter.unusedVariables false
set_option linter.unusedSimpArgs false
/-! ### imageeditorref28_between: function 79 -/
def zbd.f (k:Nat) (e6:Int) (d7:Int) (i6:Int) (i3:Int) (d6:Int) (e7:Int) (d8:Int) (i7:Int) (i4:Int) (d9:Int) (a2:Int) (a3:Int):Option (Int×Int×Int×Int×Int):=(zaU.f k e6 e7 a2 a3).bind fun k3=>((zaU.f k d7 d8 a2 a3).bind fun j9=>((zaU.f k i6 i7 a2 a3).bind fun j5=>((zaU.f k i3 i4 a2 a3).bind fun j4=>((zaU.f k d6 d9 a2 a3).bind fun j3=>(some (k3,j9,j5,j4,j3))))))
def zbd.T1:Bool×List (List Nat×List Nat):=(true,[([],[]),([0],[0]),([],[]),([2],[2]),([],[]),([],[]),([1,3,4,5],[1,3,4,5]),([],[]),([7],[7]),([],[]),([9],[9]),([],[]),([],[]),([8,10,11,12,6],[8,10,11,12]),([],[]),([14],[14]),([],[]),([16],[16]),([],[]),([],[]),([15,17,18,19,13],[15,17,18,19]),([],[]),([21],[21]),([],[]),([23],[23]),([],[]),([],[]),([22,24,25,26,20],[22,24,25,26]),([],[]),([28],[28]),([],[]),([30],[30]),([],[]),([],[]),([29,31,32,33,27],[29,31,32,33]),([6,13,20,27,34],[6,13,20,27,34]),([35,34,0,1,2,3,4,5,6,7,8,9,10,11,12,13,14,15,16,17,18,19,20,21,22,23,24,25,26,27,28,29,30,31,32,33,34,35],[35])])
def zbd.B1:List Nat:=[0,1,0,4,0,0,63,0,128,0,512,0,0,8191,0,16384,0,65536,0,0,1048575,0,2097152,0,8388608,0,0,134217727,0,268435456,0,1073741824,0,0,17179869183,34359738367,68719476735]
theorem zbd.tab1:rtab .any (opsOf Try.f79 1)=zbd.T1:=by kernel_rfl
theorem zbd.bits1:zbE zbd.T1.2 zbd.B1=true:=by kernel_rfl
set_option maxHeartbeats 8000000 in
set_option maxRecDepth 100000 in
theorem zbd.calls (k:Nat) (e6:Int) (d7:Int) (i6:Int) (i3:Int) (d6:Int) (e7:Int) (d8:Int) (i7:Int) (i4:Int) (d9:Int) (a2:Int) (a3:Int) (r1:Int) (r2:Int) (r3:Int) (r4:Int) (r5:Int) (w:World) (h:zbd.f k e6 d7 i6 i3 d6 e7 d8 i7 i4 d9 a2 a3=some (r1,r2,r3,r4,r5)) :
 Calls Try.prog 79 #[.agg #[.int .i64 e6,.int .i64 d7,.int .i64 i6,.int .i64 i3,.int .i64 d6],.agg #[.int .i64 e7,.int .i64 d8,.int .i64 i7,.int .i64 i4,.int .i64 d9],.int .i64 a2,.int .i64 a3] w fun e w'=>e = .returned (.agg #[.int .i64 r1,.int .i64 r2,.int .i64 r3,.int .i64 r4,.int .i64 r5])∧Below w.heap.size w w':=by
 have hu57:=Try.underlying57
 have HB:=zaa.mk (Below.refl w.heap.size w)
 have H:((zaU.f k e6 e7 a2 a3).bind fun k3=>((zaU.f k d7 d8 a2 a3).bind fun j9=>((zaU.f k i6 i7 a2 a3).bind fun j5=>((zaU.f k i3 i4 a2 a3).bind fun j4=>((zaU.f k d6 d9 a2 a3).bind fun j3=>(some (k3,j9,j5,j4,j3)))))))=some (r1,r2,r3,r4,r5):=h
 clear h
 obtain ⟨k3,A5,H⟩:=zob H
 replace H:((zaU.f k d7 d8 a2 a3).bind fun j9=>((zaU.f k i6 i7 a2 a3).bind fun j5=>((zaU.f k i3 i4 a2 a3).bind fun j4=>((zaU.f k d6 d9 a2 a3).bind fun j3=>(some (k3,j9,j5,j4,j3))))))=some (r1,r2,r3,r4,r5):=H
 obtain ⟨j9,A6,H⟩:=zob H
 replace H:((zaU.f k i6 i7 a2 a3).bind fun j5=>((zaU.f k i3 i4 a2 a3).bind fun j4=>((zaU.f k d6 d9 a2 a3).bind fun j3=>(some (k3,j9,j5,j4,j3)))))=some (r1,r2,r3,r4,r5):=H
 obtain ⟨j5,A7,H⟩:=zob H
 replace H:((zaU.f k i3 i4 a2 a3).bind fun j4=>((zaU.f k d6 d9 a2 a3).bind fun j3=>(some (k3,j9,j5,j4,j3))))=some (r1,r2,r3,r4,r5):=H
 obtain ⟨j4,A8,H⟩:=zob H
 replace H:((zaU.f k d6 d9 a2 a3).bind fun j3=>(some (k3,j9,j5,j4,j3)))=some (r1,r2,r3,r4,r5):=H
 obtain ⟨j3,A9,H⟩:=zob H
 replace H:(some (k3,j9,j5,j4,j3))=some (r1,r2,r3,r4,r5):=H
 simp only [Option.some.injEq,Prod.mk.injEq] at H
 obtain ⟨rfl,rfl,rfl,rfl,rfl⟩:=H
 go_enter Try.func79,Try.ntmps79
 try go_wp2_with (first|((with_reducible refine zaC (N:=4) rfl ?_);refine zbx (N:=4) #[.int .i64 e6,.int .i64 d7,.int .i64 i6,.int .i64 i3,.int .i64 d6] 57 ?_;intro l5 hg w10 hbox hb;have n0_:=zaa.mk (zae (zL HB.out) hb);have n1_:=zaa.mk (hbox);have n2_:=zaa.mk ((zS hg (zL HB.out):w.heap.size≤l5));have n3_:=n2_;clear HB;have HB:=n0_;have b9:=n1_;have z2:=n2_;have l8:=n3_;clear n0_ n1_ n2_ n3_;clear hb hbox hg)|((with_reducible refine zaC (N:=5) rfl ?_);refine zbx (N:=5) #[.int .i64 e7,.int .i64 d8,.int .i64 i7,.int .i64 i4,.int .i64 d9] 57 ?_;intro l6 hg w11 hbox hb;have n0_:=zaa.mk (zac (zB b9.out) hb);have n1_:=zaa.mk (zae (zL1 HB.out l8.out) hb);have n2_:=zaa.mk (hbox);have n3_:=zaa.mk ((zS hg (zL1 HB.out l8.out):w.heap.size≤l6));have n4_:=n3_;have n5_:=zaa.mk (zne hg (zB b9.out));have n6_:=zaa.mk (zen hg (zB b9.out));clear b9;clear HB;have b9:=n0_;have HB:=n1_;have i8:=n2_;have z3:=n3_;have m5:=n4_;have m8:=n5_;have m9:=n6_;clear n0_ n1_ n2_ n3_ n4_ n5_ n6_;clear hb hbox hg)|((with_reducible refine zaC (N:=8) rfl ?_);refine zbx (N:=8) #[.int .i64 0,.int .i64 0,.int .i64 0,.int .i64 0,.int .i64 0] 57 ?_;intro k8 hg w12 hbox hb;have n0_:=zaa.mk (zac (zB b9.out) hb);have n1_:=zaa.mk (zac (zB i8.out) hb);have n2_:=zaa.mk (zae (zL2 HB.out l8.out m5.out) hb);have n3_:=zaa.mk (hbox);have n4_:=zaa.mk ((zS hg (zL2 HB.out l8.out m5.out):w.heap.size≤k8));have n5_:=n4_;have n6_:=zaa.mk (zne hg (zB b9.out));have n7_:=zaa.mk (zen hg (zB b9.out));have n8_:=zaa.mk (zne hg (zB i8.out));have n9_:=zaa.mk (zen hg (zB i8.out));clear b9;clear i8;clear HB;have b9:=n0_;have i8:=n1_;have HB:=n2_;have i9:=n3_;have z4:=n4_;have z5:=n5_;have e9:=n6_;have j6:=n7_;have f5:=n8_;have j7:=n9_;clear n0_ n1_ n2_ n3_ n4_ n5_ n6_ n7_ n8_ n9_;clear hb hbox hg))
 replace b9:=zaa.mk (zaM b9.out)
 replace i8:=zaa.mk (zaM i8.out)
 replace i9:=zaa.mk (zaM i9.out)
 replace HB:=zaa.mk (zai HB.out)
 refine zbA (n:=37) (S:=fun w'=>w'.cell? ⟨l5,0,none⟩=some (.int .i64 e6)∧w'.cell? ⟨l5,1,none⟩=some (.int .i64 d7)∧w'.cell? ⟨l5,2,none⟩=some (.int .i64 i6)∧w'.cell? ⟨l5,3,none⟩=some (.int .i64 i3)∧w'.cell? ⟨l5,4,none⟩=some (.int .i64 d6)∧w'.cell? ⟨l6,0,none⟩=some (.int .i64 e7)∧w'.cell? ⟨l6,1,none⟩=some (.int .i64 d8)∧w'.cell? ⟨l6,2,none⟩=some (.int .i64 i7)∧w'.cell? ⟨l6,3,none⟩=some (.int .i64 i4)∧w'.cell? ⟨l6,4,none⟩=some (.int .i64 d9)) (ds:=[]) #[false,false,false,false,false,false,false,false,false,false,false,false,false,false,false,false,false,false,false,false,false,false,false,false,false,false,false,false,false,false,false,false,false,false,false,false,false] (by kernel_rfl) rfl rfl ⟨zc b9.out 0,zc b9.out 1,zc b9.out 2,zc b9.out 3,zc b9.out 4,zD5 i8.out⟩ (fun hHeld=>?_);refine zbn zbd.tab1 zbd.bits1 (fun HT_ HW_=>?_)
 generalize w12.drew=w13 at b9 i8 i9 HB hHeld ⊢
 refine zpu 0 9 HT_.out ?_
 refine zpu 2 11 HT_.out ?_
 refine zpu 4 13 HT_.out ?_
 refine zpu 5 14 HT_.out ?_
 refine zpu 7 16 HT_.out ?_
 refine zpu 9 18 HT_.out ?_
 refine zpu 11 20 HT_.out ?_
 refine zpu 12 21 HT_.out ?_
 refine zpu 14 23 HT_.out ?_
 refine zpu 16 25 HT_.out ?_
 refine zpu 18 27 HT_.out ?_
 refine zpu 19 28 HT_.out ?_
 refine zpu 21 30 HT_.out ?_
 refine zpu 23 32 HT_.out ?_
 refine zpu 25 34 HT_.out ?_
 refine zpu 26 35 HT_.out ?_
 refine zpu 28 37 HT_.out ?_
 refine zpu 30 39 HT_.out ?_
 refine zpu 32 41 HT_.out ?_
 refine zpu 33 42 HT_.out ?_
 refine ztk 1 10 HT_.out HW_.out hHeld ?_
 refine ztk 3 12 HT_.out HW_.out hHeld ?_
 refine ztk 8 17 HT_.out HW_.out hHeld ?_
 refine ztk 10 19 HT_.out HW_.out hHeld ?_
 refine ztk 15 24 HT_.out HW_.out hHeld ?_
 refine ztk 17 26 HT_.out HW_.out hHeld ?_
 refine ztk 22 31 HT_.out HW_.out hHeld ?_
 refine ztk 24 33 HT_.out HW_.out hHeld ?_
 refine ztk 29 38 HT_.out HW_.out hHeld ?_
 refine ztk 31 40 HT_.out HW_.out hHeld ?_
 refine zon 6 (some 15) HT_.out (fun K hK=>?_)
 refine zgo Try.func124 #[.int .i64 e6,.int .i64 e7,.int .i64 a2,.int .i64 a3] ?_
 with_reducible refine (zaU.calls k e6 e7 a2 a3 k3 _ A5.out).mono ?_
 rintro e w' ⟨rfl,⟨nd,rfl⟩⟩
 refine ⟨_,rfl,?_⟩
 refine hK.out _ _ ⟨zc b9.out 0,zc b9.out 1,zc b9.out 2,zc b9.out 3,zc b9.out 4,zD5 i8.out⟩ (fun hHeld=>?_)
 clear hK K
 refine znm ?_
 refine zon 13 (some 22) HT_.out (fun K hK=>?_)
 refine zgo Try.func124 #[.int .i64 d7,.int .i64 d8,.int .i64 a2,.int .i64 a3] ?_
 with_reducible refine (zaU.calls k d7 d8 a2 a3 j9 _ A6.out).mono ?_
 rintro e w' ⟨rfl,⟨nd,rfl⟩⟩
 refine ⟨_,rfl,?_⟩
 refine hK.out _ _ ⟨zc b9.out 0,zc b9.out 1,zc b9.out 2,zc b9.out 3,zc b9.out 4,zD5 i8.out⟩ (fun hHeld=>?_)
 clear hK K
 refine znm ?_
 refine zon 20 (some 29) HT_.out (fun K hK=>?_)
 refine zgo Try.func124 #[.int .i64 i6,.int .i64 i7,.int .i64 a2,.int .i64 a3] ?_
 with_reducible refine (zaU.calls k i6 i7 a2 a3 j5 _ A7.out).mono ?_
 rintro e w' ⟨rfl,⟨nd,rfl⟩⟩
 refine ⟨_,rfl,?_⟩
 refine hK.out _ _ ⟨zc b9.out 0,zc b9.out 1,zc b9.out 2,zc b9.out 3,zc b9.out 4,zD5 i8.out⟩ (fun hHeld=>?_)
 clear hK K
 refine znm ?_
 refine zon 27 (some 36) HT_.out (fun K hK=>?_)
 refine zgo Try.func124 #[.int .i64 i3,.int .i64 i4,.int .i64 a2,.int .i64 a3] ?_
 with_reducible refine (zaU.calls k i3 i4 a2 a3 j4 _ A8.out).mono ?_
 rintro e w' ⟨rfl,⟨nd,rfl⟩⟩
 refine ⟨_,rfl,?_⟩
 refine hK.out _ _ ⟨zc b9.out 0,zc b9.out 1,zc b9.out 2,zc b9.out 3,zc b9.out 4,zD5 i8.out⟩ (fun hHeld=>?_)
 clear hK K
 refine znm ?_
 refine zon 34 (some 43) HT_.out (fun K hK=>?_)
 refine zgo Try.func124 #[.int .i64 d6,.int .i64 d9,.int .i64 a2,.int .i64 a3] ?_
 with_reducible refine (zaU.calls k d6 d9 a2 a3 j3 _ A9.out).mono ?_
 rintro e w' ⟨rfl,⟨nd,rfl⟩⟩
 refine ⟨_,rfl,?_⟩
 refine hK.out _ _ ⟨zc b9.out 0,zc b9.out 1,zc b9.out 2,zc b9.out 3,zc b9.out 4,zD5 i8.out⟩ (fun hHeld=>?_)
 clear hK K
 refine znm ?_
 refine zpu 35 44 HT_.out ?_
 refine zon 36 none HT_.out (fun K hK=>?_)
 have hs14:w13.cell? ⟨k8,0,none⟩=some (.int .i64 0):=zc i9.out 0
 have hfs14:=zaB i9.out 0
 have hns14_0:=e9.out
 have hns14_1:=f5.out
 have hms14_0:=j6.out
 have hms14_1:=j7.out
 have hs15:w13.cell? ⟨k8,1,none⟩=some (.int .i64 0):=zc i9.out 1
 have hfs15:=zaB i9.out 1
 have hns15_0:=e9.out
 have hns15_1:=f5.out
 have hms15_0:=j6.out
 have hms15_1:=j7.out
 have hs16:w13.cell? ⟨k8,2,none⟩=some (.int .i64 0):=zc i9.out 2
 have hfs16:=zaB i9.out 2
 have hns16_0:=e9.out
 have hns16_1:=f5.out
 have hms16_0:=j6.out
 have hms16_1:=j7.out
 have hs17:w13.cell? ⟨k8,3,none⟩=some (.int .i64 0):=zc i9.out 3
 have hfs17:=zaB i9.out 3
 have hns17_0:=e9.out
 have hns17_1:=f5.out
 have hms17_0:=j6.out
 have hms17_1:=j7.out
 have hs18:w13.cell? ⟨k8,4,none⟩=some (.int .i64 0):=zc i9.out 4
 have hfs18:=zaB i9.out 4
 have hns18_0:=e9.out
 have hns18_1:=f5.out
 have hms18_0:=j6.out
 have hms18_1:=j7.out
 refine skip_ (w1:=?_) (by rfl) rfl ?_ ?_
 rotate_left
 ·go_simp
  rfl
 refine hK.out _ _ ⟨(zs5 e9.out (hHeld.1)),(zs5 e9.out (hHeld.2.1)),(zs5 e9.out (hHeld.2.2.1)),(zs5 e9.out (hHeld.2.2.2.1)),(zs5 e9.out (hHeld.2.2.2.2.1)),(zs5 f5.out (hHeld.2.2.2.2.2.1)),(zs5 f5.out (hHeld.2.2.2.2.2.2.1)),(zs5 f5.out (hHeld.2.2.2.2.2.2.2.1)),(zs5 f5.out (hHeld.2.2.2.2.2.2.2.2.1)),(zs5 f5.out (hHeld.2.2.2.2.2.2.2.2.2))⟩ (fun hHeld=>?_)
 clear hK K
 refine zbT (zbB HT_.out (by kernel_rfl)) ?_
 try go_wp2
 refine bodyPost_ret (results_cell_row rfl _ _ k8 57 #[.int .i64 k3,.int .i64 j9,.int .i64 j5,.int .i64 j4,.int .i64 j3] (0,0) _ rfl (by exact zB (zp5 (zB i9.out) _ _ _ _ _)) Try.underlying57 rfl (by kernel_rfl)) rfl ?_
 exact zG
def zaJ.f (a0:Int):Option (Int):=some (mn (mx a0 (-16777216)) 16777216)
set_option maxHeartbeats 8000000 in
set_option maxRecDepth 100000 in
theorem zaJ.calls (a0:Int) (r:Int) (w:World) (h:zaJ.f a0=some r) :
 Calls Try.prog 125 #[.int .i64 a0] w fun e w'=>e = .returned (.int .i64 r)∧Below w.heap.size w w':=by
 have HB:=zaa.mk (Below.refl w.heap.size w)
 have H:(some (mn (mx a0 (-16777216)) 16777216))=some r:=h
 clear h
 obtain ⟨l9,hji2⟩ : ∃ j_:Int,(mx a0 (-16777216))=j_:=⟨_,rfl⟩
 replace H:(some (mn (l9) 16777216))=some r:=by first|(rw [hji2] at H;exact H)|(simp only [hji2] at H ⊢;exact H)
 have hji2_:(if a0<(-16777216) then (-16777216) else a0)=l9:=hji2
 obtain ⟨k9,hji3⟩ : ∃ j_:Int,(mn (l9) 16777216)=j_:=⟨_,rfl⟩
 replace H:(some k9)=some r:=by first|(rw [hji3] at H;exact H)|(simp only [hji3] at H ⊢;exact H)
 have hji3_:(if 16777216<(l9) then 16777216 else (l9))=k9:=hji3
 obtain rfl:=Option.some.inj H
 go_enter Try.func125,Try.ntmps125
 go_wp2
 go_ret
 exact ⟨by first|rfl|(simp [zaK,zaL] <;> rfl)|(simp only [← hji2,← hji3];first|rfl|(simp [zaK,zaL] <;> rfl))|(simp [*,zaK,zaL] <;> rfl),by repeat (first|(with_reducible first|exact HB.out|apply zan|apply zaj|apply zai)|exact HB.out)⟩
def zbf.f (k:Nat) (e6:Int) (d7:Int) (i6:Int) (i3:Int) (d6:Int) (e7:Int) (d8:Int) (i7:Int) (i4:Int) (d9:Int):Option (Int):=if ((mn (mx d9 0) 1073741824) - (mn (mx d6 0) 1073741824))≤0 then (some 0) else ((zaJ.f e7).bind fun i5=>((zaJ.f e6).bind fun g9=>((zaJ.f d8).bind fun f7=>((zaJ.f d7).bind fun f6=>((zaq.f k (wrap64 (i5 - g9)) (wrap64 (f7 - f6))).bind fun e8=>((zas.f k (wrap64 (e8*65535)) (64*((mn (mx d9 0) 1073741824) - (mn (mx d6 0) 1073741824)))).bind fun e0=>((zaY.f e0).bind fun e5=>(some e5))))))))
def zbf.T4:Bool×List (List Nat×List Nat):=(true,[([],[]),([0],[0]),([1],[1]),([],[]),([3],[3]),([4,2],[4]),([2,5],[2,5]),([],[]),([7],[7]),([8,5],[8]),([],[]),([10],[10]),([11,9],[11]),([9,12],[9,12]),([6,13,12],[6,13]),([14,14,0,1,2,3,4,5,6,7,8,9,10,11,12,13,14],[14])])
def zbf.B4:List Nat:=[0,1,3,0,8,31,63,0,128,447,0,1024,4031,8127,16383,32767]
theorem zbf.tab4:rtab .any (opsOf Try.f80 4)=zbf.T4:=by kernel_rfl
theorem zbf.bits4:zbE zbf.T4.2 zbf.B4=true:=by kernel_rfl
set_option maxHeartbeats 8000000 in
set_option maxRecDepth 100000 in
theorem zbf.calls (k:Nat) (e6:Int) (d7:Int) (i6:Int) (i3:Int) (d6:Int) (e7:Int) (d8:Int) (i7:Int) (i4:Int) (d9:Int) (r:Int) (w:World) (h:zbf.f k e6 d7 i6 i3 d6 e7 d8 i7 i4 d9=some r) :
 Calls Try.prog 80 #[.agg #[.int .i64 e6,.int .i64 d7,.int .i64 i6,.int .i64 i3,.int .i64 d6],.agg #[.int .i64 e7,.int .i64 d8,.int .i64 i7,.int .i64 i4,.int .i64 d9]] w fun e w'=>e = .returned (.int .i64 r)∧Below w.heap.size w w':=by
 have hu57:=Try.underlying57
 have HB:=zaa.mk (Below.refl w.heap.size w)
 have H:(if ((mn (mx d9 0) 1073741824) - (mn (mx d6 0) 1073741824))≤0 then (some 0) else ((zaJ.f e7).bind fun i5=>((zaJ.f e6).bind fun g9=>((zaJ.f d8).bind fun f7=>((zaJ.f d7).bind fun f6=>((zaq.f k (wrap64 (i5 - g9)) (wrap64 (f7 - f6))).bind fun e8=>((zas.f k (wrap64 (e8*65535)) (64*((mn (mx d9 0) 1073741824) - (mn (mx d6 0) 1073741824)))).bind fun e0=>((zaY.f e0).bind fun e5=>(some e5)))))))))=some r:=h
 clear h
 obtain ⟨k9,hji3⟩ : ∃ j_:Int,(mx d9 0)=j_:=⟨_,rfl⟩
 replace H:(if ((mn (k9) 1073741824) - (mn (mx d6 0) 1073741824))≤0 then (some 0) else ((zaJ.f e7).bind fun i5=>((zaJ.f e6).bind fun g9=>((zaJ.f d8).bind fun f7=>((zaJ.f d7).bind fun f6=>((zaq.f k (wrap64 (i5 - g9)) (wrap64 (f7 - f6))).bind fun e8=>((zas.f k (wrap64 (e8*65535)) (64*((mn (k9) 1073741824) - (mn (mx d6 0) 1073741824)))).bind fun e0=>((zaY.f e0).bind fun e5=>(some e5)))))))))=some r:=by first|(rw [hji3] at H;exact H)|(simp only [hji3] at H ⊢;exact H)
 (try (have hji3l:0≤k9:=by (rw [← hji3];unfold mx;(repeat' split) <;> omega)))
 (try (have hji3m:0≤k9:=by omega))
 have hji3_:(if d9<0 then 0 else d9)=k9:=hji3
 obtain ⟨j8,hji4⟩ : ∃ j_:Int,(mn (k9) 1073741824)=j_:=⟨_,rfl⟩
 replace H:(if ((j8) - (mn (mx d6 0) 1073741824))≤0 then (some 0) else ((zaJ.f e7).bind fun i5=>((zaJ.f e6).bind fun g9=>((zaJ.f d8).bind fun f7=>((zaJ.f d7).bind fun f6=>((zaq.f k (wrap64 (i5 - g9)) (wrap64 (f7 - f6))).bind fun e8=>((zas.f k (wrap64 (e8*65535)) (64*((j8) - (mn (mx d6 0) 1073741824)))).bind fun e0=>((zaY.f e0).bind fun e5=>(some e5)))))))))=some r:=by first|(rw [hji4] at H;exact H)|(simp only [hji4] at H ⊢;exact H)
 have hji4_:(if 1073741824<(k9) then 1073741824 else (k9))=j8:=hji4
 obtain ⟨l7,hji5⟩ : ∃ j_:Int,(mx d6 0)=j_:=⟨_,rfl⟩
 replace H:(if ((j8) - (mn (l7) 1073741824))≤0 then (some 0) else ((zaJ.f e7).bind fun i5=>((zaJ.f e6).bind fun g9=>((zaJ.f d8).bind fun f7=>((zaJ.f d7).bind fun f6=>((zaq.f k (wrap64 (i5 - g9)) (wrap64 (f7 - f6))).bind fun e8=>((zas.f k (wrap64 (e8*65535)) (64*((j8) - (mn (l7) 1073741824)))).bind fun e0=>((zaY.f e0).bind fun e5=>(some e5)))))))))=some r:=by first|(rw [hji5] at H;exact H)|(simp only [hji5] at H ⊢;exact H)
 (try (have hji5l:0≤l7:=by (rw [← hji5];unfold mx;(repeat' split) <;> omega)))
 (try (have hji5m:0≤l7:=by omega))
 have hji5_:(if d6<0 then 0 else d6)=l7:=hji5
 obtain ⟨k7,hji6⟩ : ∃ j_:Int,(mn (l7) 1073741824)=j_:=⟨_,rfl⟩
 replace H:(if ((j8) - (k7))≤0 then (some 0) else ((zaJ.f e7).bind fun i5=>((zaJ.f e6).bind fun g9=>((zaJ.f d8).bind fun f7=>((zaJ.f d7).bind fun f6=>((zaq.f k (wrap64 (i5 - g9)) (wrap64 (f7 - f6))).bind fun e8=>((zas.f k (wrap64 (e8*65535)) (64*((j8) - (k7)))).bind fun e0=>((zaY.f e0).bind fun e5=>(some e5)))))))))=some r:=by first|(rw [hji6] at H;exact H)|(simp only [hji6] at H ⊢;exact H)
 have hji6_:(if 1073741824<(l7) then 1073741824 else (l7))=k7:=hji6
 by_cases c7:((j8) - (k7))≤0
 ·rw [if_pos c7] at H
  have c7b0:decide (((j8) - (k7))≤0)=true:=decide_eq_true c7
  clear c7
  obtain rfl:=Option.some.inj H
  go_enter Try.func80,Try.ntmps80
  go_wp2_with (first|((with_reducible refine zaC (N:=2) rfl ?_);refine zbx (N:=2) #[.int .i64 e6,.int .i64 d7,.int .i64 i6,.int .i64 i3,.int .i64 d6] 57 ?_;intro k4 hg w8 hbox hb;have n0_:=zaa.mk (zae (zL HB.out) hb);have n1_:=zaa.mk (hbox);have n2_:=zaa.mk ((zS hg (zL HB.out):w.heap.size≤k4));have n3_:=n2_;clear HB;have HB:=n0_;have d5:=n1_;have m6:=n2_;have j2:=n3_;clear n0_ n1_ n2_ n3_;clear hb hbox hg)|((with_reducible refine zaC (N:=3) rfl ?_);refine zbx (N:=3) #[.int .i64 e7,.int .i64 d8,.int .i64 i7,.int .i64 i4,.int .i64 d9] 57 ?_;intro k5 hg w9 hbox hb;have n0_:=zaa.mk (zac (zB d5.out) hb);have n1_:=zaa.mk (zae (zL1 HB.out j2.out) hb);have n2_:=zaa.mk (hbox);have n3_:=zaa.mk ((zS hg (zL1 HB.out j2.out):w.heap.size≤k5));have n4_:=n3_;have n5_:=zaa.mk (zne hg (zB d5.out));have n6_:=zaa.mk (zen hg (zB d5.out));clear d5;clear HB;have d5:=n0_;have HB:=n1_;have b8:=n2_;have m7:=n3_;have k6:=n4_;have l3:=n5_;have l4:=n6_;clear n0_ n1_ n2_ n3_ n4_ n5_ n6_;clear hb hbox hg;have hnb10:=l4.out;have hnc10:=l3.out;obtain ⟨n0,n3,n4,n5,n6⟩:=zD5 b8.out;obtain ⟨n7,n8,n9,o2,o3⟩:=zE5 b8.out;obtain ⟨o4,o5,o6,o7,o8⟩:=zD5 d5.out;obtain ⟨o9,p7,p8,p9,s5⟩:=zE5 d5.out))
  go_ret
  exact ⟨by first|rfl|(simp [zaK,zaL] <;> rfl)|(simp only [← hji3,← hji4,← hji5,← hji6];first|rfl|(simp [zaK,zaL] <;> rfl))|(simp [*,zaK,zaL] <;> rfl),by repeat (first|(with_reducible first|exact HB.out|apply zan|apply zaj|apply zai|refine zao ?_ j2.out|refine zao ?_ k6.out)|exact HB.out)⟩
 ·rw [if_neg c7] at H
  have c7b0:decide (((j8) - (k7))≤0)=false:=decide_eq_false c7
  clear c7
  obtain ⟨i5,A13,H⟩:=zob H
  replace H:((zaJ.f e6).bind fun g9=>((zaJ.f d8).bind fun f7=>((zaJ.f d7).bind fun f6=>((zaq.f k (wrap64 (i5 - g9)) (wrap64 (f7 - f6))).bind fun e8=>((zas.f k (wrap64 (e8*65535)) (64*((j8) - (k7)))).bind fun e0=>((zaY.f e0).bind fun e5=>(some e5)))))))=some r:=H
  obtain ⟨g9,A14,H⟩:=zob H
  replace H:((zaJ.f d8).bind fun f7=>((zaJ.f d7).bind fun f6=>((zaq.f k (wrap64 (i5 - g9)) (wrap64 (f7 - f6))).bind fun e8=>((zas.f k (wrap64 (e8*65535)) (64*((j8) - (k7)))).bind fun e0=>((zaY.f e0).bind fun e5=>(some e5))))))=some r:=H
  obtain ⟨f7,A15,H⟩:=zob H
  replace H:((zaJ.f d7).bind fun f6=>((zaq.f k (wrap64 (i5 - g9)) (wrap64 (f7 - f6))).bind fun e8=>((zas.f k (wrap64 (e8*65535)) (64*((j8) - (k7)))).bind fun e0=>((zaY.f e0).bind fun e5=>(some e5)))))=some r:=H
  obtain ⟨f6,A16,H⟩:=zob H
  replace H:((zaq.f k (wrap64 (i5 - g9)) (wrap64 (f7 - f6))).bind fun e8=>((zas.f k (wrap64 (e8*65535)) (64*((j8) - (k7)))).bind fun e0=>((zaY.f e0).bind fun e5=>(some e5))))=some r:=H
  obtain ⟨e8,A17,H⟩:=zob H
  replace H:((zas.f k (wrap64 (e8*65535)) (64*((j8) - (k7)))).bind fun e0=>((zaY.f e0).bind fun e5=>(some e5)))=some r:=H
  obtain ⟨e0,A18,H⟩:=zob H
  replace H:((zaY.f e0).bind fun e5=>(some e5))=some r:=H
  obtain ⟨e5,A19,H⟩:=zob H
  replace H:(some e5)=some r:=H
  obtain rfl:=Option.some.inj H
  go_enter Try.func80,Try.ntmps80
  try go_wp2_with (first|((with_reducible refine zaC (N:=2) rfl ?_);refine zbx (N:=2) #[.int .i64 e6,.int .i64 d7,.int .i64 i6,.int .i64 i3,.int .i64 d6] 57 ?_;intro k4 hg w20 hbox hb;have n0_:=zaa.mk (zae (zL HB.out) hb);have n1_:=zaa.mk (hbox);have n2_:=zaa.mk ((zS hg (zL HB.out):w.heap.size≤k4));have n3_:=n2_;clear HB;have HB:=n0_;have d5:=n1_;have m6:=n2_;have j2:=n3_;clear n0_ n1_ n2_ n3_;clear hb hbox hg)|((with_reducible refine zaC (N:=3) rfl ?_);refine zbx (N:=3) #[.int .i64 e7,.int .i64 d8,.int .i64 i7,.int .i64 i4,.int .i64 d9] 57 ?_;intro k5 hg w21 hbox hb;have n0_:=zaa.mk (zac (zB d5.out) hb);have n1_:=zaa.mk (zae (zL1 HB.out j2.out) hb);have n2_:=zaa.mk (hbox);have n3_:=zaa.mk ((zS hg (zL1 HB.out j2.out):w.heap.size≤k5));have n4_:=n3_;have n5_:=zaa.mk (zne hg (zB d5.out));have n6_:=zaa.mk (zen hg (zB d5.out));clear d5;clear HB;have d5:=n0_;have HB:=n1_;have b8:=n2_;have m7:=n3_;have k6:=n4_;have l3:=n5_;have l4:=n6_;clear n0_ n1_ n2_ n3_ n4_ n5_ n6_;clear hb hbox hg;have hnb22:=l4.out;have hnc22:=l3.out;obtain ⟨s6,s7,s8,s9,t6⟩:=zD5 b8.out;obtain ⟨t7,t8,t9,u3,u4⟩:=zE5 b8.out;obtain ⟨u5,u6,u7,u9,y5⟩:=zD5 d5.out;obtain ⟨y6,y7,y8,y9,z1⟩:=zE5 d5.out))
  replace d5:=zaa.mk (zaM d5.out)
  replace b8:=zaa.mk (zaM b8.out)
  replace HB:=zaa.mk (zai HB.out)
  refine zbA (n:=16) (S:=fun w'=>w'.cell? ⟨k5,0,none⟩=some (.int .i64 e7)∧w'.cell? ⟨k5,1,none⟩=some (.int .i64 d8)∧w'.cell? ⟨k5,2,none⟩=some (.int .i64 i7)∧w'.cell? ⟨k5,3,none⟩=some (.int .i64 i4)∧w'.cell? ⟨k5,4,none⟩=some (.int .i64 d9)∧w'.cell? ⟨k4,0,none⟩=some (.int .i64 e6)∧w'.cell? ⟨k4,1,none⟩=some (.int .i64 d7)∧w'.cell? ⟨k4,2,none⟩=some (.int .i64 i6)∧w'.cell? ⟨k4,3,none⟩=some (.int .i64 i3)∧w'.cell? ⟨k4,4,none⟩=some (.int .i64 d6)) (ds:=[]) #[false,false,false,false,false,false,false,false,false,false,false,false,false,false,false,false] (by kernel_rfl) rfl rfl ⟨zc b8.out 0,zc b8.out 1,zc b8.out 2,zc b8.out 3,zc b8.out 4,zD5 d5.out⟩ (fun hHeld=>?_);refine zbn zbf.tab4 zbf.bits4 (fun HT_ HW_=>?_)
  generalize w21.drew=w25 at d5 b8 HB hHeld ⊢
  refine zpu 0 18 HT_.out ?_
  refine zpu 3 21 HT_.out ?_
  refine zpu 7 25 HT_.out ?_
  refine zpu 10 28 HT_.out ?_
  refine ztk 1 19 HT_.out HW_.out hHeld ?_
  refine ztk 4 22 HT_.out HW_.out hHeld ?_
  refine ztk 8 26 HT_.out HW_.out hHeld ?_
  refine ztk 11 29 HT_.out HW_.out hHeld ?_
  refine zon 2 (some 20) HT_.out (fun K hK=>?_)
  refine zgo Try.func125 #[.int .i64 e7] ?_
  with_reducible refine (zaJ.calls e7 i5 _ A13.out).mono ?_
  rintro e w26 ⟨rfl,hb⟩
  refine ⟨_,rfl,?_⟩
  replace d5:=zaa.mk (zac (zB d5.out) hb)
  replace b8:=zaa.mk (zac (zB b8.out) hb)
  replace HB:=zaa.mk (zae (zL2 HB.out j2.out k6.out) hb)
  (try clear hb)
  refine hK.out _ _ ⟨zc b8.out 0,zc b8.out 1,zc b8.out 2,zc b8.out 3,zc b8.out 4,zD5 d5.out⟩ (fun hHeld=>?_)
  clear hK K
  refine znm ?_
  refine zon 5 (some 23) HT_.out (fun K hK=>?_)
  refine zgo Try.func125 #[.int .i64 e6] ?_
  with_reducible refine (zaJ.calls e6 g9 _ A14.out).mono ?_
  rintro e w27 ⟨rfl,hb⟩
  refine ⟨_,rfl,?_⟩
  replace d5:=zaa.mk (zac (zB d5.out) hb)
  replace b8:=zaa.mk (zac (zB b8.out) hb)
  replace HB:=zaa.mk (zae (zL2 HB.out j2.out k6.out) hb)
  (try clear hb)
  refine hK.out _ _ ⟨zc b8.out 0,zc b8.out 1,zc b8.out 2,zc b8.out 3,zc b8.out 4,zD5 d5.out⟩ (fun hHeld=>?_)
  clear hK K
  refine znm ?_
  refine zpu 6 24 HT_.out ?_
  refine zon 9 (some 27) HT_.out (fun K hK=>?_)
  refine zgo Try.func125 #[.int .i64 d8] ?_
  with_reducible refine (zaJ.calls d8 f7 _ A15.out).mono ?_
  rintro e w28 ⟨rfl,hb⟩
  refine ⟨_,rfl,?_⟩
  replace d5:=zaa.mk (zac (zB d5.out) hb)
  replace b8:=zaa.mk (zac (zB b8.out) hb)
  replace HB:=zaa.mk (zae (zL2 HB.out j2.out k6.out) hb)
  (try clear hb)
  refine hK.out _ _ ⟨zc b8.out 0,zc b8.out 1,zc b8.out 2,zc b8.out 3,zc b8.out 4,zD5 d5.out⟩ (fun hHeld=>?_)
  clear hK K
  refine znm ?_
  refine zon 12 (some 30) HT_.out (fun K hK=>?_)
  refine zgo Try.func125 #[.int .i64 d7] ?_
  with_reducible refine (zaJ.calls d7 f6 _ A16.out).mono ?_
  rintro e w29 ⟨rfl,hb⟩
  refine ⟨_,rfl,?_⟩
  replace d5:=zaa.mk (zac (zB d5.out) hb)
  replace b8:=zaa.mk (zac (zB b8.out) hb)
  replace HB:=zaa.mk (zae (zL2 HB.out j2.out k6.out) hb)
  (try clear hb)
  refine hK.out _ _ ⟨zc b8.out 0,zc b8.out 1,zc b8.out 2,zc b8.out 3,zc b8.out 4,zD5 d5.out⟩ (fun hHeld=>?_)
  clear hK K
  refine znm ?_
  refine zpu 13 31 HT_.out ?_
  refine zon 14 (some 32) HT_.out (fun K hK=>?_)
  refine zgo Try.func69 #[.int .i64 (wrap64 (i5 - g9)),.int .i64 (wrap64 (f7 - f6))] ?_
  with_reducible refine (zaq.calls k (wrap64 (i5 - g9)) (wrap64 (f7 - f6)) e8 _ A17.out).mono ?_
  rintro e w' ⟨rfl,⟨nd,rfl⟩⟩
  refine ⟨_,rfl,?_⟩
  refine hK.out _ _ ⟨zc b8.out 0,zc b8.out 1,zc b8.out 2,zc b8.out 3,zc b8.out 4,zD5 d5.out⟩ (fun hHeld=>?_)
  clear hK K
  refine znm ?_
  refine zpu 15 6 HT_.out ?_
  refine zbT (zbB HT_.out (by kernel_rfl)) ?_
  try go_wp2_with (first|((with_reducible refine zah (f:=68) rfl ?_);refine goesL_ (some 37) rfl rfl Try.func68 (by kernel_rfl) rfl #[.int .i64 (wrap64 (e8*65535)),.int .i64 (64*((j8) - (k7)))] rfl (by (try simp only [List.map_toArray,List.map_cons,List.map_nil]);first|done|(simp only [hji4,hji6];rfl)|rfl|(simp only [List.length_drop,List.length_take];rfl)) ?_;(with_reducible refine (zas.calls k (wrap64 (e8*65535)) (64*((j8) - (k7))) e0 _ A18.out).mono ?_);rintro e w' ⟨rfl,⟨nd,rfl⟩⟩;refine ⟨_,rfl,?_⟩)|((with_reducible refine zah (f:=126) rfl ?_);refine zgl 38 Try.func126 #[.int .i64 e0] ?_;(with_reducible refine (zaY.calls e0 e5 _ A19.out).mono ?_);rintro e w30 ⟨rfl,hb⟩;refine ⟨_,rfl,?_⟩;replace d5:=zaa.mk (zac (zB d5.out) hb);replace b8:=zaa.mk (zac (zB b8.out) hb);replace HB:=zaa.mk (zae (zL2 HB.out j2.out k6.out) hb);(try clear hb)))
  go_ret
  exact ⟨by first|rfl|(simp [zaK,zaL] <;> rfl)|(simp only [← hji3,← hji4,← hji5,← hji6];first|rfl|(simp [zaK,zaL] <;> rfl))|(simp [*,zaK,zaL] <;> rfl),by repeat (first|(with_reducible first|exact HB.out|apply zan|apply zaj|apply zai|refine zao ?_ j2.out|refine zao ?_ k6.out)|exact HB.out)⟩
end Go.Proofs.Ytlilncnoohfcdaa.Br
