
import Derived.Test.YtlilncnoohfcdaaDax0
import Derived.Test.YtlilncnoohfcdaaDax11
import Derived.Test.YtlilncnoohfcdaaDax14
import Derived.Test.YtlilncnoohfcdaaBrx0
import Derived.Test.YtlilncnoohfcdaaBrx14
namespace Go.Proofs.Ytlilncnoohfcdaa.Br
open Go.RowKit Go.Proofs.YtlilncnoohfcdaaW.PrintWords Go.Proofs.YtlilncnoohfcdaaW.PrintLast Go.Proofs.YtlilncnoohfcdaaW.PrintMore Go.Proofs.Ytlilncnoohfcdaa.Da
attribute [local go_sem] zbr zbu zbD zbH zbq zbp zbv zbt   
set_option linter.unusedVariables false
set_option linter.unusedSimpArgs false
/-! ### imageeditorref28_dab: function 77 -/
def zaD.f (k:Nat) (j3:Int) (k6:Int) (k7:Int) (k8:Int) (k9:Int) (j4:Int) (l3:Int) (i3:Int) (l4:Int) (l5:Int) (j5:Int) (j6:Int) (j7:Int) (b9:Int) (d8:List (S120)) (j8:Bool) (e0:Int) (d9:Int) (e5:Int) (e7:Int) (e8:Int) (a2:Int) (a3:Int):Option (Int×Int×Int×Int×Int):=(zav.f k d8 1 e0 d9 e5 e7 e8 a2 a3 b9).bind fun l9=>((zas.f k (wrap64 (j3*l9)) 65535).bind fun l6=>((zav.f k d8 2 e0 d9 e5 e7 e8 a2 a3 b9).bind fun i5=>((zav.f k d8 3 e0 d9 e5 e7 e8 a2 a3 b9).bind fun k4=>((zak.f k (wrap64 (k4*65536)) 65535).bind fun i4=>((zas.f k (wrap64 ((mx 1 l6)*i3)) 100).bind fun j2=>((zav.f k d8 4 e0 d9 e5 e7 e8 a2 a3 b9).bind fun i6=>((zas.f k (wrap64 (j2*i6)) 65535).bind fun d7=>((zaT.f b9 a3 2 (wrap64 ((wrap64 (2*d7))+1))).bind fun g9=>((zaT.f b9 a3 3 (wrap64 ((wrap64 (2*d7))+1))).bind fun f6=>((zaf.f (wrap64 ((wrap64 (e0+g9)) - d7)) (-16777216) 16777216).bind fun f5=>((zaf.f (wrap64 ((wrap64 (d9+f6)) - d7)) (-16777216) 16777216).bind fun e9=>(some (f5,e9,mx 1 l6,i5,Int.tmod i4 65536)))))))))))))
def zaD.T1:Bool×List (List Nat×List Nat):=(true,[([],[]),([0],[0]),([],[]),([2],[2]),([],[]),([],[]),([],[]),([],[]),([7],[7]),([3,4,5,6,8],[3,4,5,6,8]),([1,9],[1,9]),([10,9],[10]),([11],[11]),([12,11,0,1,2,3,4,5,6,7,8,9,10,11,12],[12])])
def zaD.B1:List Nat:=[0,1,0,4,0,0,0,0,128,508,1023,2047,4095,8191]
theorem zaD.tab1:rtab .any (opsOf Try.f77 1)=zaD.T1:=by kernel_rfl
theorem zaD.bits1:zbE zaD.T1.2 zaD.B1=true:=by kernel_rfl
def zaD.T4:Bool×List (List Nat×List Nat):=(true,[([],[]),([],[]),([1],[1]),([0,2],[0,2]),([3],[3]),([],[]),([5],[5]),([],[]),([],[]),([],[]),([],[]),([10],[10]),([6,7,8,9,11,4],[6,7,8,9,11]),([4,12],[4,12]),([13,12],[13]),([14,14,0,1,2,3,4,5,6,7,8,9,10,11,12,13,14],[14])])
def zaD.B4:List Nat:=[0,0,2,7,15,0,32,0,0,0,0,1024,4095,8191,16383,32767]
theorem zaD.tab4:rtab .any (opsOf Try.f77 4)=zaD.T4:=by kernel_rfl
theorem zaD.bits4:zbE zaD.T4.2 zaD.B4=true:=by kernel_rfl
def zaD.T5:Bool×List (List Nat×List Nat):=(true,[([],[]),([0],[0]),([],[]),([2],[2]),([],[]),([],[]),([5],[5]),([6],[6]),([3,4,7],[3,4,7]),([1,8],[1,8]),([],[]),([9,10],[9,10]),([11,8,0,1,2,3,4,5,6,7,8,9,10,11],[11])])
def zaD.B5:List Nat:=[0,1,0,4,0,0,32,96,252,511,0,2047,4095]
theorem zaD.tab5:rtab .any (opsOf Try.f77 5)=zaD.T5:=by kernel_rfl
theorem zaD.bits5:zbE zaD.T5.2 zaD.B5=true:=by kernel_rfl
def zaD.T6:Bool×List (List Nat×List Nat):=(true,[([],[]),([0],[0]),([],[]),([2],[2]),([],[]),([],[]),([5],[5]),([6],[6]),([3,4,7],[3,4,7]),([1,8],[1,8]),([],[]),([9,10],[9,10]),([11,8,0,1,2,3,4,5,6,7,8,9,10,11],[11])])
def zaD.B6:List Nat:=[0,1,0,4,0,0,32,96,252,511,0,2047,4095]
theorem zaD.tab6:rtab .any (opsOf Try.f77 6)=zaD.T6:=by kernel_rfl
theorem zaD.bits6:zbE zaD.T6.2 zaD.B6=true:=by kernel_rfl
set_option maxHeartbeats 8000000 in
set_option maxRecDepth 100000 in
theorem zaD.calls (k:Nat) (j3:Int) (k6:Int) (k7:Int) (k8:Int) (k9:Int) (j4:Int) (l3:Int) (i3:Int) (l4:Int) (l5:Int) (j5:Int) (j6:Int) (j7:Int) (b9:Int) (i7:Option Addr) (i8:Nat) (d8:List (S120)) (j8:Bool) (e0:Int) (d9:Int) (e5:Int) (e7:Int) (e8:Int) (a2:Int) (a3:Int) (r1:Int) (r2:Int) (r3:Int) (r4:Int) (r5:Int) (w:World) (m5:Kd.C k120 w i7 d8.length d8) (m6:d8.length≤i8) (h:zaD.f k j3 k6 k7 k8 k9 j4 l3 i3 l4 l5 j5 j6 j7 b9 d8 j8 e0 d9 e5 e7 e8 a2 a3=some (r1,r2,r3,r4,r5)) :
 Calls Try.prog 77 #[.agg #[.int .i64 j3,.int .i64 k6,.int .i64 k7,.int .i64 k8,.int .i64 k9,.int .i64 j4,.int .i64 l3,.int .i64 i3,.int .i64 l4,.int .i64 l5,.int .i64 j5,.int .i64 j6,.int .i64 j7,.int .i64 b9,.slice i7 d8.length i8,.bool j8],.agg #[.int .i64 e0,.int .i64 d9,.int .i64 e5,.int .i64 e7,.int .i64 e8],.int .i64 a2,.int .i64 a3] w fun e w'=>e = .returned (.agg #[.int .i64 r1,.int .i64 r2,.int .i64 r3,.int .i64 r4,.int .i64 r5])∧Below w.heap.size w w':=by
 have hu26:=Try.underlying26
 have hu57:=Try.underlying57
 have hu28:=Try.underlying28
 have m7:=zaa.mk m5
 have m8:=zaa.mk m6
 clear m5 m6
 have HB:=zaa.mk (Below.refl w.heap.size w)
 have H:((zav.f k d8 1 e0 d9 e5 e7 e8 a2 a3 b9).bind fun l9=>((zas.f k (wrap64 (j3*l9)) 65535).bind fun l6=>((zav.f k d8 2 e0 d9 e5 e7 e8 a2 a3 b9).bind fun i5=>((zav.f k d8 3 e0 d9 e5 e7 e8 a2 a3 b9).bind fun k4=>((zak.f k (wrap64 (k4*65536)) 65535).bind fun i4=>((zas.f k (wrap64 ((mx 1 l6)*i3)) 100).bind fun j2=>((zav.f k d8 4 e0 d9 e5 e7 e8 a2 a3 b9).bind fun i6=>((zas.f k (wrap64 (j2*i6)) 65535).bind fun d7=>((zaT.f b9 a3 2 (wrap64 ((wrap64 (2*d7))+1))).bind fun g9=>((zaT.f b9 a3 3 (wrap64 ((wrap64 (2*d7))+1))).bind fun f6=>((zaf.f (wrap64 ((wrap64 (e0+g9)) - d7)) (-16777216) 16777216).bind fun f5=>((zaf.f (wrap64 ((wrap64 (d9+f6)) - d7)) (-16777216) 16777216).bind fun e9=>(some (f5,e9,mx 1 l6,i5,Int.tmod i4 65536))))))))))))))=some (r1,r2,r3,r4,r5):=h
 clear h
 obtain ⟨l9,A5,H⟩:=zob H
 replace H:((zas.f k (wrap64 (j3*l9)) 65535).bind fun l6=>((zav.f k d8 2 e0 d9 e5 e7 e8 a2 a3 b9).bind fun i5=>((zav.f k d8 3 e0 d9 e5 e7 e8 a2 a3 b9).bind fun k4=>((zak.f k (wrap64 (k4*65536)) 65535).bind fun i4=>((zas.f k (wrap64 ((mx 1 l6)*i3)) 100).bind fun j2=>((zav.f k d8 4 e0 d9 e5 e7 e8 a2 a3 b9).bind fun i6=>((zas.f k (wrap64 (j2*i6)) 65535).bind fun d7=>((zaT.f b9 a3 2 (wrap64 ((wrap64 (2*d7))+1))).bind fun g9=>((zaT.f b9 a3 3 (wrap64 ((wrap64 (2*d7))+1))).bind fun f6=>((zaf.f (wrap64 ((wrap64 (e0+g9)) - d7)) (-16777216) 16777216).bind fun f5=>((zaf.f (wrap64 ((wrap64 (d9+f6)) - d7)) (-16777216) 16777216).bind fun e9=>(some (f5,e9,mx 1 l6,i5,Int.tmod i4 65536)))))))))))))=some (r1,r2,r3,r4,r5):=H
 obtain ⟨l6,A6,H⟩:=zob H
 replace H:((zav.f k d8 2 e0 d9 e5 e7 e8 a2 a3 b9).bind fun i5=>((zav.f k d8 3 e0 d9 e5 e7 e8 a2 a3 b9).bind fun k4=>((zak.f k (wrap64 (k4*65536)) 65535).bind fun i4=>((zas.f k (wrap64 ((mx 1 l6)*i3)) 100).bind fun j2=>((zav.f k d8 4 e0 d9 e5 e7 e8 a2 a3 b9).bind fun i6=>((zas.f k (wrap64 (j2*i6)) 65535).bind fun d7=>((zaT.f b9 a3 2 (wrap64 ((wrap64 (2*d7))+1))).bind fun g9=>((zaT.f b9 a3 3 (wrap64 ((wrap64 (2*d7))+1))).bind fun f6=>((zaf.f (wrap64 ((wrap64 (e0+g9)) - d7)) (-16777216) 16777216).bind fun f5=>((zaf.f (wrap64 ((wrap64 (d9+f6)) - d7)) (-16777216) 16777216).bind fun e9=>(some (f5,e9,mx 1 l6,i5,Int.tmod i4 65536))))))))))))=some (r1,r2,r3,r4,r5):=H
 obtain ⟨k5,hji7⟩ : ∃ j_:Int,(mx 1 l6)=j_:=⟨_,rfl⟩
 replace H:((zav.f k d8 2 e0 d9 e5 e7 e8 a2 a3 b9).bind fun i5=>((zav.f k d8 3 e0 d9 e5 e7 e8 a2 a3 b9).bind fun k4=>((zak.f k (wrap64 (k4*65536)) 65535).bind fun i4=>((zas.f k (wrap64 ((k5)*i3)) 100).bind fun j2=>((zav.f k d8 4 e0 d9 e5 e7 e8 a2 a3 b9).bind fun i6=>((zas.f k (wrap64 (j2*i6)) 65535).bind fun d7=>((zaT.f b9 a3 2 (wrap64 ((wrap64 (2*d7))+1))).bind fun g9=>((zaT.f b9 a3 3 (wrap64 ((wrap64 (2*d7))+1))).bind fun f6=>((zaf.f (wrap64 ((wrap64 (e0+g9)) - d7)) (-16777216) 16777216).bind fun f5=>((zaf.f (wrap64 ((wrap64 (d9+f6)) - d7)) (-16777216) 16777216).bind fun e9=>(some (f5,e9,k5,i5,Int.tmod i4 65536))))))))))))=some (r1,r2,r3,r4,r5):=by first|(rw [hji7] at H;exact H)|(simp only [hji7] at H ⊢;exact H)
 (try rw [hji7] at A5)
 (try rw [hji7] at A6)
 (try (have hji7l:1≤k5:=by (rw [← hji7];unfold mx;(repeat' split) <;> omega)))
 (try (have hji7m:0≤k5:=by omega))
 have hji7_:(if 1<l6 then l6 else 1)=k5:=hji7
 obtain ⟨i5,A8,H⟩:=zob H
 replace H:((zav.f k d8 3 e0 d9 e5 e7 e8 a2 a3 b9).bind fun k4=>((zak.f k (wrap64 (k4*65536)) 65535).bind fun i4=>((zas.f k (wrap64 ((k5)*i3)) 100).bind fun j2=>((zav.f k d8 4 e0 d9 e5 e7 e8 a2 a3 b9).bind fun i6=>((zas.f k (wrap64 (j2*i6)) 65535).bind fun d7=>((zaT.f b9 a3 2 (wrap64 ((wrap64 (2*d7))+1))).bind fun g9=>((zaT.f b9 a3 3 (wrap64 ((wrap64 (2*d7))+1))).bind fun f6=>((zaf.f (wrap64 ((wrap64 (e0+g9)) - d7)) (-16777216) 16777216).bind fun f5=>((zaf.f (wrap64 ((wrap64 (d9+f6)) - d7)) (-16777216) 16777216).bind fun e9=>(some (f5,e9,k5,i5,Int.tmod i4 65536)))))))))))=some (r1,r2,r3,r4,r5):=H
 obtain ⟨k4,A9,H⟩:=zob H
 replace H:((zak.f k (wrap64 (k4*65536)) 65535).bind fun i4=>((zas.f k (wrap64 ((k5)*i3)) 100).bind fun j2=>((zav.f k d8 4 e0 d9 e5 e7 e8 a2 a3 b9).bind fun i6=>((zas.f k (wrap64 (j2*i6)) 65535).bind fun d7=>((zaT.f b9 a3 2 (wrap64 ((wrap64 (2*d7))+1))).bind fun g9=>((zaT.f b9 a3 3 (wrap64 ((wrap64 (2*d7))+1))).bind fun f6=>((zaf.f (wrap64 ((wrap64 (e0+g9)) - d7)) (-16777216) 16777216).bind fun f5=>((zaf.f (wrap64 ((wrap64 (d9+f6)) - d7)) (-16777216) 16777216).bind fun e9=>(some (f5,e9,k5,i5,Int.tmod i4 65536))))))))))=some (r1,r2,r3,r4,r5):=H
 obtain ⟨i4,A10,H⟩:=zob H
 replace H:((zas.f k (wrap64 ((k5)*i3)) 100).bind fun j2=>((zav.f k d8 4 e0 d9 e5 e7 e8 a2 a3 b9).bind fun i6=>((zas.f k (wrap64 (j2*i6)) 65535).bind fun d7=>((zaT.f b9 a3 2 (wrap64 ((wrap64 (2*d7))+1))).bind fun g9=>((zaT.f b9 a3 3 (wrap64 ((wrap64 (2*d7))+1))).bind fun f6=>((zaf.f (wrap64 ((wrap64 (e0+g9)) - d7)) (-16777216) 16777216).bind fun f5=>((zaf.f (wrap64 ((wrap64 (d9+f6)) - d7)) (-16777216) 16777216).bind fun e9=>(some (f5,e9,k5,i5,Int.tmod i4 65536)))))))))=some (r1,r2,r3,r4,r5):=H
 obtain ⟨j2,A11,H⟩:=zob H
 replace H:((zav.f k d8 4 e0 d9 e5 e7 e8 a2 a3 b9).bind fun i6=>((zas.f k (wrap64 (j2*i6)) 65535).bind fun d7=>((zaT.f b9 a3 2 (wrap64 ((wrap64 (2*d7))+1))).bind fun g9=>((zaT.f b9 a3 3 (wrap64 ((wrap64 (2*d7))+1))).bind fun f6=>((zaf.f (wrap64 ((wrap64 (e0+g9)) - d7)) (-16777216) 16777216).bind fun f5=>((zaf.f (wrap64 ((wrap64 (d9+f6)) - d7)) (-16777216) 16777216).bind fun e9=>(some (f5,e9,k5,i5,Int.tmod i4 65536))))))))=some (r1,r2,r3,r4,r5):=H
 obtain ⟨i6,A12,H⟩:=zob H
 replace H:((zas.f k (wrap64 (j2*i6)) 65535).bind fun d7=>((zaT.f b9 a3 2 (wrap64 ((wrap64 (2*d7))+1))).bind fun g9=>((zaT.f b9 a3 3 (wrap64 ((wrap64 (2*d7))+1))).bind fun f6=>((zaf.f (wrap64 ((wrap64 (e0+g9)) - d7)) (-16777216) 16777216).bind fun f5=>((zaf.f (wrap64 ((wrap64 (d9+f6)) - d7)) (-16777216) 16777216).bind fun e9=>(some (f5,e9,k5,i5,Int.tmod i4 65536)))))))=some (r1,r2,r3,r4,r5):=H
 obtain ⟨d7,A13,H⟩:=zob H
 replace H:((zaT.f b9 a3 2 (wrap64 ((wrap64 (2*d7))+1))).bind fun g9=>((zaT.f b9 a3 3 (wrap64 ((wrap64 (2*d7))+1))).bind fun f6=>((zaf.f (wrap64 ((wrap64 (e0+g9)) - d7)) (-16777216) 16777216).bind fun f5=>((zaf.f (wrap64 ((wrap64 (d9+f6)) - d7)) (-16777216) 16777216).bind fun e9=>(some (f5,e9,k5,i5,Int.tmod i4 65536))))))=some (r1,r2,r3,r4,r5):=H
 obtain ⟨g9,A14,H⟩:=zob H
 replace H:((zaT.f b9 a3 3 (wrap64 ((wrap64 (2*d7))+1))).bind fun f6=>((zaf.f (wrap64 ((wrap64 (e0+g9)) - d7)) (-16777216) 16777216).bind fun f5=>((zaf.f (wrap64 ((wrap64 (d9+f6)) - d7)) (-16777216) 16777216).bind fun e9=>(some (f5,e9,k5,i5,Int.tmod i4 65536)))))=some (r1,r2,r3,r4,r5):=H
 obtain ⟨f6,A15,H⟩:=zob H
 replace H:((zaf.f (wrap64 ((wrap64 (e0+g9)) - d7)) (-16777216) 16777216).bind fun f5=>((zaf.f (wrap64 ((wrap64 (d9+f6)) - d7)) (-16777216) 16777216).bind fun e9=>(some (f5,e9,k5,i5,Int.tmod i4 65536))))=some (r1,r2,r3,r4,r5):=H
 obtain ⟨f5,A16,H⟩:=zob H
 replace H:((zaf.f (wrap64 ((wrap64 (d9+f6)) - d7)) (-16777216) 16777216).bind fun e9=>(some (f5,e9,k5,i5,Int.tmod i4 65536)))=some (r1,r2,r3,r4,r5):=H
 obtain ⟨e9,A17,H⟩:=zob H
 replace H:(some (f5,e9,k5,i5,Int.tmod i4 65536))=some (r1,r2,r3,r4,r5):=H
 simp only [Option.some.injEq,Prod.mk.injEq] at H
 obtain ⟨rfl,rfl,rfl,rfl,rfl⟩:=H
 go_enter Try.func77,Try.ntmps77
 try go_wp2_with (first|((with_reducible refine zaC (N:=4) rfl ?_);refine zbx (N:=4) #[.int .i64 j3,.int .i64 k6,.int .i64 k7,.int .i64 k8,.int .i64 k9,.int .i64 j4,.int .i64 l3,.int .i64 i3,.int .i64 l4,.int .i64 l5,.int .i64 j5,.int .i64 j6,.int .i64 j7,.int .i64 b9,.slice i7 d8.length i8,.bool j8] 26 ?_;intro d6 hg w18 hbox hb;have n0_:=zaa.mk (zae (zL HB.out) hb);have n1_:=zaa.mk (hbox);have n2_:=zaa.mk ((zS hg (zL HB.out):w.heap.size≤d6));have n3_:=n2_;clear HB;have HB:=n0_;have b8:=n1_;have M5:=n2_;have i9:=n3_;clear n0_ n1_ n2_ n3_;clear hb hbox hg)|((with_reducible refine zaC (N:=5) rfl ?_);refine zbx (N:=5) #[.int .i64 e0,.int .i64 d9,.int .i64 e5,.int .i64 e7,.int .i64 e8] 57 ?_;intro f7 hg w19 hbox hb;have n0_:=zaa.mk (zac (zB b8.out) hb);have n1_:=zaa.mk (zae (zL1 HB.out i9.out) hb);have n2_:=zaa.mk (hbox);have n3_:=zaa.mk ((zS hg (zL1 HB.out i9.out):w.heap.size≤f7));have n4_:=n3_;have n5_:=zaa.mk (zne hg (zB b8.out));have n6_:=zaa.mk (zen hg (zB b8.out));clear b8;clear HB;have b8:=n0_;have HB:=n1_;have d5:=n2_;have M6:=n3_;have j9:=n4_;have n4:=n5_;have n5:=n6_;clear n0_ n1_ n2_ n3_ n4_ n5_ n6_;clear hb hbox hg)|((with_reducible refine zaC (N:=8) rfl ?_);refine zbx (N:=8) #[.int .i64 0,.int .i64 0,.int .i64 0,.int .i64 0,.int .i64 0] 28 ?_;intro n0 hg w20 hbox hb;have n0_:=zaa.mk (zac (zB b8.out) hb);have n1_:=zaa.mk (zac (zB d5.out) hb);have n2_:=zaa.mk (zae (zL2 HB.out i9.out j9.out) hb);have n3_:=zaa.mk (hbox);have n4_:=zaa.mk ((zS hg (zL2 HB.out i9.out j9.out):w.heap.size≤n0));have n5_:=n4_;have n6_:=zaa.mk (zne hg (zB b8.out));have n7_:=zaa.mk (zen hg (zB b8.out));have n8_:=zaa.mk (zne hg (zB d5.out));have n9_:=zaa.mk (zen hg (zB d5.out));clear b8;clear d5;clear HB;have b8:=n0_;have d5:=n1_;have HB:=n2_;have e6:=n3_;have M7:=n4_;have k3:=n5_;have n6:=n6_;have n7:=n7_;have n8:=n8_;have n9:=n9_;clear n0_ n1_ n2_ n3_ n4_ n5_ n6_ n7_ n8_ n9_;clear hb hbox hg))
 replace b8:=zaa.mk (zaM b8.out)
 replace d5:=zaa.mk (zaM d5.out)
 replace e6:=zaa.mk (zaM e6.out)
 replace HB:=zaa.mk (zai HB.out)
 refine zbA (n:=14) (S:=fun w'=>w'.cell? ⟨d6,0,none⟩=some (.int .i64 j3)∧w'.cell? ⟨d6,1,none⟩=some (.int .i64 k6)∧w'.cell? ⟨d6,2,none⟩=some (.int .i64 k7)∧w'.cell? ⟨d6,3,none⟩=some (.int .i64 k8)∧w'.cell? ⟨d6,4,none⟩=some (.int .i64 k9)∧w'.cell? ⟨d6,5,none⟩=some (.int .i64 j4)∧w'.cell? ⟨d6,6,none⟩=some (.int .i64 l3)∧w'.cell? ⟨d6,7,none⟩=some (.int .i64 i3)∧w'.cell? ⟨d6,8,none⟩=some (.int .i64 l4)∧w'.cell? ⟨d6,9,none⟩=some (.int .i64 l5)∧w'.cell? ⟨d6,10,none⟩=some (.int .i64 j5)∧w'.cell? ⟨d6,11,none⟩=some (.int .i64 j6)∧w'.cell? ⟨d6,12,none⟩=some (.int .i64 j7)∧w'.cell? ⟨d6,13,none⟩=some (.int .i64 b9)∧w'.cell? ⟨d6,14,none⟩=some (.slice i7 d8.length i8)∧w'.cell? ⟨d6,15,none⟩=some (.bool j8)∧w'.cell? ⟨f7,0,none⟩=some (.int .i64 e0)∧w'.cell? ⟨f7,1,none⟩=some (.int .i64 d9)∧w'.cell? ⟨f7,2,none⟩=some (.int .i64 e5)∧w'.cell? ⟨f7,3,none⟩=some (.int .i64 e7)∧w'.cell? ⟨f7,4,none⟩=some (.int .i64 e8)) (ds:=[]) #[false,false,false,false,false,false,false,false,false,false,false,false,false,false] (by kernel_rfl) rfl rfl ⟨zc b8.out 0,zc b8.out 1,zc b8.out 2,zc b8.out 3,zc b8.out 4,zc b8.out 5,zc b8.out 6,zc b8.out 7,zc b8.out 8,zc b8.out 9,zc b8.out 10,zc b8.out 11,zc b8.out 12,zc b8.out 13,zc b8.out 14,zc b8.out 15,zD5 d5.out⟩ (fun hHeld=>?_);refine zbn zaD.tab1 zaD.bits1 (fun HT_ HW_=>?_)
 generalize w20.drew=w21 at b8 d5 e6 HB hHeld ⊢
 refine zpu 0 15 HT_.out ?_
 refine zpu 2 17 HT_.out ?_
 refine zpu 5 20 HT_.out ?_
 refine zpu 6 21 HT_.out ?_
 refine zpu 7 22 HT_.out ?_
 refine ztk 1 16 HT_.out HW_.out hHeld ?_
 refine ztk 3 18 HT_.out HW_.out hHeld ?_
 refine ztk 4 19 HT_.out HW_.out hHeld ?_
 refine ztk 8 23 HT_.out HW_.out hHeld ?_
 refine zon 9 (some 24) HT_.out (fun K hK=>?_)
 refine zgo Try.func122 #[.slice i7 d8.length i8,.int .i64 1,.agg #[.int .i64 e0,.int .i64 d9,.int .i64 e5,.int .i64 e7,.int .i64 e8],.int .i64 a2,.int .i64 a3,.int .i64 b9] ?_
 with_reducible refine (zav.calls k _ _ d8 1 e0 d9 e5 e7 e8 a2 a3 b9 l9 _ ?side1 ?side2 A5.out).mono ?_
 (case side1=>repeat (first|exact (Kd.C_below m7.out HB.out)|(with_reducible refine Kd.C_alloc ?_ _)|(with_reducible refine Kd.C_drewN ?_ _)|(with_reducible refine Kd.C_drew ?_)))
 (case side2=>exact m8.out)
 rintro e w22 ⟨rfl,hb⟩
 refine ⟨_,rfl,?_⟩
 replace b8:=zaa.mk (zac (zB b8.out) hb)
 replace d5:=zaa.mk (zac (zB d5.out) hb)
 replace e6:=zaa.mk (zac (zB e6.out) hb)
 replace HB:=zaa.mk (zae (zL3 HB.out i9.out j9.out k3.out) hb)
 (try clear hb)
 refine hK.out _ _ ⟨zc b8.out 0,zc b8.out 1,zc b8.out 2,zc b8.out 3,zc b8.out 4,zc b8.out 5,zc b8.out 6,zc b8.out 7,zc b8.out 8,zc b8.out 9,zc b8.out 10,zc b8.out 11,zc b8.out 12,zc b8.out 13,zc b8.out 14,zc b8.out 15,zD5 d5.out⟩ (fun hHeld=>?_)
 clear hK K
 refine znm ?_
 refine zpu 10 25 HT_.out ?_
 refine zon 11 (some 26) HT_.out (fun K hK=>?_)
 refine zgo Try.func68 #[.int .i64 (wrap64 (j3*l9)),.int .i64 65535] ?_
 with_reducible refine (zas.calls k (wrap64 (j3*l9)) 65535 l6 _ A6.out).mono ?_
 rintro e w' ⟨rfl,⟨nd,rfl⟩⟩
 refine ⟨_,rfl,?_⟩
 refine hK.out _ _ ⟨zc b8.out 0,zc b8.out 1,zc b8.out 2,zc b8.out 3,zc b8.out 4,zc b8.out 5,zc b8.out 6,zc b8.out 7,zc b8.out 8,zc b8.out 9,zc b8.out 10,zc b8.out 11,zc b8.out 12,zc b8.out 13,zc b8.out 14,zc b8.out 15,zD5 d5.out⟩ (fun hHeld=>?_)
 clear hK K
 refine znm ?_
 refine zpu 12 27 HT_.out ?_
 refine zpu 13 9 HT_.out ?_
 refine zbT (zbB HT_.out (by kernel_rfl)) ?_
 have hnb23:=n4.out
 have hnc23:=n5.out
 have hnb24:=n6.out
 have hnc24:=n7.out
 obtain ⟨z1,z2,z3,z4,z5,z6,z7,z8,z9,B0,o9,p7,p8,p9,s5,s6⟩:=zD16 b8.out
 obtain ⟨B3,B7,C0,C1,C2,C3,C4,C5,C6,C7,s7,s8,s9,t6,t7,t8⟩:=zE16 b8.out
 have hnb26:=n8.out
 have hnc26:=n9.out
 obtain ⟨C8,C9,D0,D1,D2⟩:=zD5 d5.out
 obtain ⟨D3,D4,D5,D6,D7⟩:=zE5 d5.out
 try go_wp2_with (first|((with_reducible refine zah (f:=122) rfl ?_);refine zgl 35 Try.func122 #[.slice i7 d8.length i8,.int .i64 2,.agg #[.int .i64 e0,.int .i64 d9,.int .i64 e5,.int .i64 e7,.int .i64 e8],.int .i64 a2,.int .i64 a3,.int .i64 b9] ?_;(with_reducible refine (zav.calls k _ _ d8 2 e0 d9 e5 e7 e8 a2 a3 b9 i5 _ ?side1 ?side2 A8.out).mono ?_);(case side1=>repeat (first|exact (Kd.C_below m7.out (zL3 HB.out i9.out j9.out k3.out))|(with_reducible refine Kd.C_alloc ?_ _)|(with_reducible refine Kd.C_drewN ?_ _)|(with_reducible refine Kd.C_drew ?_)));(case side2=>exact m8.out);rintro e w28 ⟨rfl,hb⟩;refine ⟨_,rfl,?_⟩;replace b8:=zaa.mk (zac (zB b8.out) hb);replace d5:=zaa.mk (zac (zB d5.out) hb);replace e6:=zaa.mk (zac (zB e6.out) hb);replace HB:=zaa.mk (zae (zL3 HB.out i9.out j9.out k3.out) hb);(try clear hb);obtain ⟨D8,D9,E0,E1,E2,E3,E4,E5,E6,E7,t9,u3,u4,u5,u6,u7⟩:=zD16 b8.out;obtain ⟨E8,E9,F0,F1,F2,F3,F4,F5,F6,F7,u9,y5,y6,y7,y8,y9⟩:=zE16 b8.out;obtain ⟨F8,F9,G4,G5,G6⟩:=zD5 d5.out;obtain ⟨G7,G8,G9,H0,H2⟩:=zE5 d5.out)|((with_reducible refine zah (f:=122) rfl ?_);refine zgl 43 Try.func122 #[.slice i7 d8.length i8,.int .i64 3,.agg #[.int .i64 e0,.int .i64 d9,.int .i64 e5,.int .i64 e7,.int .i64 e8],.int .i64 a2,.int .i64 a3,.int .i64 b9] ?_;(with_reducible refine (zav.calls k _ _ d8 3 e0 d9 e5 e7 e8 a2 a3 b9 k4 _ ?side1 ?side2 A9.out).mono ?_);(case side1=>repeat (first|exact (Kd.C_below m7.out HB.out)|(with_reducible refine Kd.C_alloc ?_ _)|(with_reducible refine Kd.C_drewN ?_ _)|(with_reducible refine Kd.C_drew ?_)));(case side2=>exact m8.out);rintro e w31 ⟨rfl,hb⟩;refine ⟨_,rfl,?_⟩;replace b8:=zaa.mk (zac (zB b8.out) hb);replace d5:=zaa.mk (zac (zB d5.out) hb);replace e6:=zaa.mk (zac (zB e6.out) hb);replace HB:=zaa.mk (zae (zL3 HB.out i9.out j9.out k3.out) hb);(try clear hb))|((with_reducible refine zah (f:=57) rfl ?_);refine zgl 45 Try.func57 #[.int .i64 (wrap64 (k4*65536)),.int .i64 65535] ?_;(with_reducible refine (zak.calls k (wrap64 (k4*65536)) 65535 i4 _ A10.out).mono ?_);rintro e w' ⟨rfl,⟨nd,rfl⟩⟩;refine ⟨_,rfl,?_⟩;(try (rw [drewN_self w31];generalize hq_:World.drewN w31 _=w31;have n0_:zaa (w31.heap[d6]? = some (.cells #[.int .i64 j3,.int .i64 k6,.int .i64 k7,.int .i64 k8,.int .i64 k9,.int .i64 j4,.int .i64 l3,.int .i64 i3,.int .i64 l4,.int .i64 l5,.int .i64 j5,.int .i64 j6,.int .i64 j7,.int .i64 b9,.slice i7 d8.length i8,.bool j8] 26 (0,0))):=⟨by rw [← hq_];exact (zB b8.out)⟩;have n1_:zaa (w31.heap[f7]? = some (.cells #[.int .i64 e0,.int .i64 d9,.int .i64 e5,.int .i64 e7,.int .i64 e8] 57 (0,0))):=⟨by rw [← hq_];exact (zB d5.out)⟩;have n2_:zaa (w31.heap[n0]? = some (.cells #[.int .i64 0,.int .i64 0,.int .i64 0,.int .i64 0,.int .i64 0] 28 (0,0))):=⟨by rw [← hq_];exact (zB e6.out)⟩;have n3_:zaa (Below w.heap.size w w31):=⟨by rw [← hq_];exact (zL3 HB.out i9.out j9.out k3.out)⟩;clear b8 d5 e6 HB hq_;have b8:=n0_;have d5:=n1_;have e6:=n2_;have HB:=n3_;clear n0_ n1_ n2_ n3_))))
 replace b8:=zaa.mk (zaM b8.out)
 replace d5:=zaa.mk (zaM d5.out)
 replace e6:=zaa.mk (zaM e6.out)
 replace HB:=zaa.mk (zai HB.out)
 refine zbA (n:=16) (S:=fun w'=>w'.cell? ⟨d6,0,none⟩=some (.int .i64 j3)∧w'.cell? ⟨d6,1,none⟩=some (.int .i64 k6)∧w'.cell? ⟨d6,2,none⟩=some (.int .i64 k7)∧w'.cell? ⟨d6,3,none⟩=some (.int .i64 k8)∧w'.cell? ⟨d6,4,none⟩=some (.int .i64 k9)∧w'.cell? ⟨d6,5,none⟩=some (.int .i64 j4)∧w'.cell? ⟨d6,6,none⟩=some (.int .i64 l3)∧w'.cell? ⟨d6,7,none⟩=some (.int .i64 i3)∧w'.cell? ⟨d6,8,none⟩=some (.int .i64 l4)∧w'.cell? ⟨d6,9,none⟩=some (.int .i64 l5)∧w'.cell? ⟨d6,10,none⟩=some (.int .i64 j5)∧w'.cell? ⟨d6,11,none⟩=some (.int .i64 j6)∧w'.cell? ⟨d6,12,none⟩=some (.int .i64 j7)∧w'.cell? ⟨d6,13,none⟩=some (.int .i64 b9)∧w'.cell? ⟨d6,14,none⟩=some (.slice i7 d8.length i8)∧w'.cell? ⟨d6,15,none⟩=some (.bool j8)∧w'.cell? ⟨f7,0,none⟩=some (.int .i64 e0)∧w'.cell? ⟨f7,1,none⟩=some (.int .i64 d9)∧w'.cell? ⟨f7,2,none⟩=some (.int .i64 e5)∧w'.cell? ⟨f7,3,none⟩=some (.int .i64 e7)∧w'.cell? ⟨f7,4,none⟩=some (.int .i64 e8)) (ds:=[]) #[false,false,false,false,false,false,false,false,false,false,false,false,false,false,false,false] (by kernel_rfl) rfl rfl ⟨zc b8.out 0,zc b8.out 1,zc b8.out 2,zc b8.out 3,zc b8.out 4,zc b8.out 5,zc b8.out 6,zc b8.out 7,zc b8.out 8,zc b8.out 9,zc b8.out 10,zc b8.out 11,zc b8.out 12,zc b8.out 13,zc b8.out 14,zc b8.out 15,zD5 d5.out⟩ (fun hHeld=>?_);refine zbn zaD.tab4 zaD.bits4 (fun HT_ HW_=>?_)
 generalize w31.drew=w32 at b8 d5 e6 HB hHeld ⊢
 refine zpu 0 47 HT_.out ?_
 refine zpu 1 48 HT_.out ?_
 refine zpu 5 52 HT_.out ?_
 refine zpu 8 55 HT_.out ?_
 refine zpu 9 56 HT_.out ?_
 refine zpu 10 57 HT_.out ?_
 refine ztk 2 49 HT_.out HW_.out hHeld ?_
 refine zpu 3 50 HT_.out ?_
 refine ztk 6 53 HT_.out HW_.out hHeld ?_
 refine ztk 7 54 HT_.out HW_.out hHeld ?_
 refine ztk 11 58 HT_.out HW_.out hHeld ?_
 refine zon 4 (some 51) HT_.out (fun K hK=>?_)
 refine goes_ Try.func68 (by kernel_rfl) rfl #[.int .i64 (wrap64 ((k5)*i3)),.int .i64 100] (by rfl) rfl rfl (by (try simp only [List.map_toArray,List.map_cons,List.map_nil]);first|done|(simp only [hji7];rfl)|rfl|(simp only [List.length_drop,List.length_take];rfl)) ?_
 with_reducible refine (zas.calls k (wrap64 ((k5)*i3)) 100 j2 _ A11.out).mono ?_
 rintro e w' ⟨rfl,⟨nd,rfl⟩⟩
 refine ⟨_,rfl,?_⟩
 refine hK.out _ _ ⟨zc b8.out 0,zc b8.out 1,zc b8.out 2,zc b8.out 3,zc b8.out 4,zc b8.out 5,zc b8.out 6,zc b8.out 7,zc b8.out 8,zc b8.out 9,zc b8.out 10,zc b8.out 11,zc b8.out 12,zc b8.out 13,zc b8.out 14,zc b8.out 15,zD5 d5.out⟩ (fun hHeld=>?_)
 clear hK K
 refine znm ?_
 refine zon 12 (some 59) HT_.out (fun K hK=>?_)
 refine zgo Try.func122 #[.slice i7 d8.length i8,.int .i64 4,.agg #[.int .i64 e0,.int .i64 d9,.int .i64 e5,.int .i64 e7,.int .i64 e8],.int .i64 a2,.int .i64 a3,.int .i64 b9] ?_
 with_reducible refine (zav.calls k _ _ d8 4 e0 d9 e5 e7 e8 a2 a3 b9 i6 _ ?side1 ?side2 A12.out).mono ?_
 (case side1=>repeat (first|exact (Kd.C_below m7.out (zL3 HB.out i9.out j9.out k3.out))|(with_reducible refine Kd.C_alloc ?_ _)|(with_reducible refine Kd.C_drewN ?_ _)|(with_reducible refine Kd.C_drew ?_)))
 (case side2=>exact m8.out)
 rintro e w33 ⟨rfl,hb⟩
 refine ⟨_,rfl,?_⟩
 replace b8:=zaa.mk (zac (zB b8.out) hb)
 replace d5:=zaa.mk (zac (zB d5.out) hb)
 replace e6:=zaa.mk (zac (zB e6.out) hb)
 replace HB:=zaa.mk (zae (zL3 HB.out i9.out j9.out k3.out) hb)
 (try clear hb)
 refine hK.out _ _ ⟨zc b8.out 0,zc b8.out 1,zc b8.out 2,zc b8.out 3,zc b8.out 4,zc b8.out 5,zc b8.out 6,zc b8.out 7,zc b8.out 8,zc b8.out 9,zc b8.out 10,zc b8.out 11,zc b8.out 12,zc b8.out 13,zc b8.out 14,zc b8.out 15,zD5 d5.out⟩ (fun hHeld=>?_)
 clear hK K
 refine znm ?_
 refine zpu 13 60 HT_.out ?_
 refine zon 14 (some 61) HT_.out (fun K hK=>?_)
 refine zgo Try.func68 #[.int .i64 (wrap64 (j2*i6)),.int .i64 65535] ?_
 with_reducible refine (zas.calls k (wrap64 (j2*i6)) 65535 d7 _ A13.out).mono ?_
 rintro e w' ⟨rfl,⟨nd,rfl⟩⟩
 refine ⟨_,rfl,?_⟩
 refine hK.out _ _ ⟨zc b8.out 0,zc b8.out 1,zc b8.out 2,zc b8.out 3,zc b8.out 4,zc b8.out 5,zc b8.out 6,zc b8.out 7,zc b8.out 8,zc b8.out 9,zc b8.out 10,zc b8.out 11,zc b8.out 12,zc b8.out 13,zc b8.out 14,zc b8.out 15,zD5 d5.out⟩ (fun hHeld=>?_)
 clear hK K
 refine znm ?_
 refine zpu 15 12 HT_.out ?_
 refine zbT (zbB HT_.out (by kernel_rfl)) ?_
 try go_wp2
 (try (rw [drewN_self w33];generalize hq_:World.drewN w33 _=w33;have n0_:zaa (w33.heap[d6]? = some (.cells #[.int .i64 j3,.int .i64 k6,.int .i64 k7,.int .i64 k8,.int .i64 k9,.int .i64 j4,.int .i64 l3,.int .i64 i3,.int .i64 l4,.int .i64 l5,.int .i64 j5,.int .i64 j6,.int .i64 j7,.int .i64 b9,.slice i7 d8.length i8,.bool j8] 26 (0,0))):=⟨by rw [← hq_];exact (zB b8.out)⟩;have n1_:zaa (w33.heap[f7]? = some (.cells #[.int .i64 e0,.int .i64 d9,.int .i64 e5,.int .i64 e7,.int .i64 e8] 57 (0,0))):=⟨by rw [← hq_];exact (zB d5.out)⟩;have n2_:zaa (w33.heap[n0]? = some (.cells #[.int .i64 0,.int .i64 0,.int .i64 0,.int .i64 0,.int .i64 0] 28 (0,0))):=⟨by rw [← hq_];exact (zB e6.out)⟩;have n3_:zaa (Below w.heap.size w w33):=⟨by rw [← hq_];exact (zL3 HB.out i9.out j9.out k3.out)⟩;clear b8 d5 e6 HB hq_;have b8:=n0_;have d5:=n1_;have e6:=n2_;have HB:=n3_;clear n0_ n1_ n2_ n3_))
 replace b8:=zaa.mk (zaM b8.out)
 replace d5:=zaa.mk (zaM d5.out)
 replace e6:=zaa.mk (zaM e6.out)
 replace HB:=zaa.mk (zai HB.out)
 refine zbA (n:=13) (S:=fun w'=>w'.cell? ⟨f7,0,none⟩=some (.int .i64 e0)∧w'.cell? ⟨f7,1,none⟩=some (.int .i64 d9)∧w'.cell? ⟨f7,2,none⟩=some (.int .i64 e5)∧w'.cell? ⟨f7,3,none⟩=some (.int .i64 e7)∧w'.cell? ⟨f7,4,none⟩=some (.int .i64 e8)∧w'.cell? ⟨d6,0,none⟩=some (.int .i64 j3)∧w'.cell? ⟨d6,1,none⟩=some (.int .i64 k6)∧w'.cell? ⟨d6,2,none⟩=some (.int .i64 k7)∧w'.cell? ⟨d6,3,none⟩=some (.int .i64 k8)∧w'.cell? ⟨d6,4,none⟩=some (.int .i64 k9)∧w'.cell? ⟨d6,5,none⟩=some (.int .i64 j4)∧w'.cell? ⟨d6,6,none⟩=some (.int .i64 l3)∧w'.cell? ⟨d6,7,none⟩=some (.int .i64 i3)∧w'.cell? ⟨d6,8,none⟩=some (.int .i64 l4)∧w'.cell? ⟨d6,9,none⟩=some (.int .i64 l5)∧w'.cell? ⟨d6,10,none⟩=some (.int .i64 j5)∧w'.cell? ⟨d6,11,none⟩=some (.int .i64 j6)∧w'.cell? ⟨d6,12,none⟩=some (.int .i64 j7)∧w'.cell? ⟨d6,13,none⟩=some (.int .i64 b9)∧w'.cell? ⟨d6,14,none⟩=some (.slice i7 d8.length i8)∧w'.cell? ⟨d6,15,none⟩=some (.bool j8)) (ds:=[]) #[false,false,false,false,false,false,false,false,false,false,false,false,false] (by kernel_rfl) rfl rfl ⟨zc d5.out 0,zc d5.out 1,zc d5.out 2,zc d5.out 3,zc d5.out 4,zD16 b8.out⟩ (fun hHeld=>?_);refine zbn zaD.tab5 zaD.bits5 (fun HT_ HW_=>?_)
 generalize w33.drew=w34 at b8 d5 e6 HB hHeld ⊢
 refine zpu 0 62 HT_.out ?_
 refine zpu 2 64 HT_.out ?_
 refine zpu 4 66 HT_.out ?_
 refine zpu 5 67 HT_.out ?_
 refine zpu 6 68 HT_.out ?_
 refine zpu 7 69 HT_.out ?_
 refine zpu 10 72 HT_.out ?_
 refine ztk 1 63 HT_.out HW_.out hHeld ?_
 refine ztk 3 65 HT_.out HW_.out hHeld ?_
 refine zon 8 (some 70) HT_.out (fun K hK=>?_)
 refine zgo Try.func123 #[.int .i64 b9,.int .i64 a3,.int .i64 2,.int .i64 (wrap64 ((wrap64 (2*d7))+1))] ?_
 with_reducible refine (zaT.calls b9 a3 2 (wrap64 ((wrap64 (2*d7))+1)) g9 _ A14.out).mono ?_
 rintro e w35 ⟨rfl,hb⟩
 refine ⟨_,rfl,?_⟩
 replace b8:=zaa.mk (zac (zB b8.out) hb)
 replace d5:=zaa.mk (zac (zB d5.out) hb)
 replace e6:=zaa.mk (zac (zB e6.out) hb)
 replace HB:=zaa.mk (zae (zL3 HB.out i9.out j9.out k3.out) hb)
 (try clear hb)
 refine hK.out _ _ ⟨zc d5.out 0,zc d5.out 1,zc d5.out 2,zc d5.out 3,zc d5.out 4,zD16 b8.out⟩ (fun hHeld=>?_)
 clear hK K
 refine znm ?_
 refine zpu 9 71 HT_.out ?_
 refine zpu 11 73 HT_.out ?_
 refine zpu 12 13 HT_.out ?_
 refine zbT (zbB HT_.out (by kernel_rfl)) ?_
 try go_wp2
 replace b8:=zaa.mk (zaM b8.out)
 replace d5:=zaa.mk (zaM d5.out)
 replace e6:=zaa.mk (zaM e6.out)
 replace HB:=zaa.mk (zai HB.out)
 refine zbA (n:=13) (S:=fun w'=>w'.cell? ⟨f7,0,none⟩=some (.int .i64 e0)∧w'.cell? ⟨f7,1,none⟩=some (.int .i64 d9)∧w'.cell? ⟨f7,2,none⟩=some (.int .i64 e5)∧w'.cell? ⟨f7,3,none⟩=some (.int .i64 e7)∧w'.cell? ⟨f7,4,none⟩=some (.int .i64 e8)∧w'.cell? ⟨d6,0,none⟩=some (.int .i64 j3)∧w'.cell? ⟨d6,1,none⟩=some (.int .i64 k6)∧w'.cell? ⟨d6,2,none⟩=some (.int .i64 k7)∧w'.cell? ⟨d6,3,none⟩=some (.int .i64 k8)∧w'.cell? ⟨d6,4,none⟩=some (.int .i64 k9)∧w'.cell? ⟨d6,5,none⟩=some (.int .i64 j4)∧w'.cell? ⟨d6,6,none⟩=some (.int .i64 l3)∧w'.cell? ⟨d6,7,none⟩=some (.int .i64 i3)∧w'.cell? ⟨d6,8,none⟩=some (.int .i64 l4)∧w'.cell? ⟨d6,9,none⟩=some (.int .i64 l5)∧w'.cell? ⟨d6,10,none⟩=some (.int .i64 j5)∧w'.cell? ⟨d6,11,none⟩=some (.int .i64 j6)∧w'.cell? ⟨d6,12,none⟩=some (.int .i64 j7)∧w'.cell? ⟨d6,13,none⟩=some (.int .i64 b9)∧w'.cell? ⟨d6,14,none⟩=some (.slice i7 d8.length i8)∧w'.cell? ⟨d6,15,none⟩=some (.bool j8)) (ds:=[]) #[false,false,false,false,false,false,false,false,false,false,false,false,false] (by kernel_rfl) rfl rfl ⟨zc d5.out 0,zc d5.out 1,zc d5.out 2,zc d5.out 3,zc d5.out 4,zD16 b8.out⟩ (fun hHeld=>?_);refine zbn zaD.tab6 zaD.bits6 (fun HT_ HW_=>?_)
 generalize w35.drew=w36 at b8 d5 e6 HB hHeld ⊢
 refine zpu 0 74 HT_.out ?_
 refine zpu 2 76 HT_.out ?_
 refine zpu 4 78 HT_.out ?_
 refine zpu 5 79 HT_.out ?_
 refine zpu 6 80 HT_.out ?_
 refine zpu 7 81 HT_.out ?_
 refine zpu 10 84 HT_.out ?_
 refine ztk 1 75 HT_.out HW_.out hHeld ?_
 refine ztk 3 77 HT_.out HW_.out hHeld ?_
 refine zon 8 (some 82) HT_.out (fun K hK=>?_)
 refine zgo Try.func123 #[.int .i64 b9,.int .i64 a3,.int .i64 3,.int .i64 (wrap64 ((wrap64 (2*d7))+1))] ?_
 with_reducible refine (zaT.calls b9 a3 3 (wrap64 ((wrap64 (2*d7))+1)) f6 _ A15.out).mono ?_
 rintro e w37 ⟨rfl,hb⟩
 refine ⟨_,rfl,?_⟩
 replace b8:=zaa.mk (zac (zB b8.out) hb)
 replace d5:=zaa.mk (zac (zB d5.out) hb)
 replace e6:=zaa.mk (zac (zB e6.out) hb)
 replace HB:=zaa.mk (zae (zL3 HB.out i9.out j9.out k3.out) hb)
 (try clear hb)
 refine hK.out _ _ ⟨zc d5.out 0,zc d5.out 1,zc d5.out 2,zc d5.out 3,zc d5.out 4,zD16 b8.out⟩ (fun hHeld=>?_)
 clear hK K
 refine znm ?_
 refine zpu 9 83 HT_.out ?_
 refine zpu 11 85 HT_.out ?_
 refine zpu 12 14 HT_.out ?_
 refine zbT (zbB HT_.out (by kernel_rfl)) ?_
 try go_wp2_with (first|((with_reducible refine zah (f:=27) rfl ?_);refine zgl 87 Try.func27 #[.int .i64 (wrap64 ((wrap64 (e0+g9)) - d7)),.int .i64 (-16777216),.int .i64 16777216] ?_;(with_reducible refine (zaf.calls (wrap64 ((wrap64 (e0+g9)) - d7)) (-16777216) 16777216 f5 _ A16.out).mono ?_);rintro e w38 ⟨rfl,hb⟩;refine ⟨_,rfl,?_⟩;replace b8:=zaa.mk (zac (zB b8.out) hb);replace d5:=zaa.mk (zac (zB d5.out) hb);replace e6:=zaa.mk (zac (zB e6.out) hb);replace HB:=zaa.mk (zae (zL3 HB.out i9.out j9.out k3.out) hb);(try clear hb))|((with_reducible refine zah (f:=27) rfl ?_);refine zgl 89 Try.func27 #[.int .i64 (wrap64 ((wrap64 (d9+f6)) - d7)),.int .i64 (-16777216),.int .i64 16777216] ?_;(with_reducible refine (zaf.calls (wrap64 ((wrap64 (d9+f6)) - d7)) (-16777216) 16777216 e9 _ A17.out).mono ?_);rintro e w39 ⟨rfl,hb⟩;refine ⟨_,rfl,?_⟩;replace b8:=zaa.mk (zac (zB b8.out) hb);replace d5:=zaa.mk (zac (zB d5.out) hb);replace e6:=zaa.mk (zac (zB e6.out) hb);replace HB:=zaa.mk (zae (zL3 HB.out i9.out j9.out k3.out) hb);(try clear hb);obtain ⟨H3,H4,H5,H6,H7⟩:=zD5 e6.out;obtain ⟨H8,H9,I0,I1,I2⟩:=zE5 e6.out))
 refine bodyPost_ret (results_cell_row rfl _ _ n0 28 #[.int .i64 f5,.int .i64 e9,.int .i64 k5,.int .i64 i5,.int .i64 (Int.tmod i4 65536)] (0,0) _ rfl (by exact zB (zp5 (zB e6.out) _ _ _ _ _)) Try.underlying28 rfl (by kernel_rfl)) rfl ?_
 exact ⟨by first|rfl|(simp [zaK,zaL] <;> rfl)|(simp only [← hji7];first|rfl|(simp [zaK,zaL] <;> rfl))|(simp [*,zaK,zaL] <;> rfl),by repeat (first|(with_reducible first|exact HB.out|apply zan|apply zaj|apply zai|refine zao ?_ i9.out|refine zao ?_ j9.out|refine zao ?_ k3.out)|exact HB.out)⟩
def zba.f (k:Nat) (j3:Int) (k6:Int) (k7:Int) (k8:Int) (k9:Int) (j4:Int) (l3:Int) (i3:Int) (l4:Int) (l5:Int) (j5:Int) (j6:Int) (j7:Int) (b9:Int) (d8:List (S120)) (j8:Bool) (e0:Int) (d9:Int) (e5:Int) (e7:Int) (e8:Int):Option (Int):=(zas.f k (wrap64 (e5*j4)) 100).bind fun l7=>(some (wrap64 (16*(mx 1 l7))))
set_option maxHeartbeats 8000000 in
set_option maxRecDepth 100000 in
theorem zba.calls (k:Nat) (j3:Int) (k6:Int) (k7:Int) (k8:Int) (k9:Int) (j4:Int) (l3:Int) (i3:Int) (l4:Int) (l5:Int) (j5:Int) (j6:Int) (j7:Int) (b9:Int) (i7:Option Addr) (i8:Nat) (d8:List (S120)) (j8:Bool) (e0:Int) (d9:Int) (e5:Int) (e7:Int) (e8:Int) (r:Int) (w:World) (m5:Kd.C k120 w i7 d8.length d8) (m6:d8.length≤i8) (h:zba.f k j3 k6 k7 k8 k9 j4 l3 i3 l4 l5 j5 j6 j7 b9 d8 j8 e0 d9 e5 e7 e8=some r) :
 Calls Try.prog 78 #[.agg #[.int .i64 j3,.int .i64 k6,.int .i64 k7,.int .i64 k8,.int .i64 k9,.int .i64 j4,.int .i64 l3,.int .i64 i3,.int .i64 l4,.int .i64 l5,.int .i64 j5,.int .i64 j6,.int .i64 j7,.int .i64 b9,.slice i7 d8.length i8,.bool j8],.agg #[.int .i64 e0,.int .i64 d9,.int .i64 e5,.int .i64 e7,.int .i64 e8]] w fun e w'=>e = .returned (.int .i64 r)∧Below w.heap.size w w':=by
 have hu26:=Try.underlying26
 have hu28:=Try.underlying28
 have m7:=zaa.mk m5
 have m8:=zaa.mk m6
 clear m5 m6
 have HB:=zaa.mk (Below.refl w.heap.size w)
 have H:((zas.f k (wrap64 (e5*j4)) 100).bind fun l7=>(some (wrap64 (16*(mx 1 l7)))))=some r:=h
 clear h
 obtain ⟨l7,A3,H⟩:=zob H
 replace H:(some (wrap64 (16*(mx 1 l7))))=some r:=H
 obtain ⟨o4,hji4⟩ : ∃ j_:Int,(mx 1 l7)=j_:=⟨_,rfl⟩
 replace H:(some (wrap64 (16*(o4))))=some r:=by first|(rw [hji4] at H;exact H)|(simp only [hji4] at H ⊢;exact H)
 (try rw [hji4] at A3)
 (try (have hji4l:1≤o4:=by (rw [← hji4];unfold mx;(repeat' split) <;> omega)))
 (try (have hji4m:0≤o4:=by omega))
 have hji4_:(if 1<l7 then l7 else 1)=o4:=hji4
 obtain rfl:=Option.some.inj H
 go_enter Try.func78,Try.ntmps78
 go_wp2_with (first|((with_reducible refine zaC (N:=2) rfl ?_);refine zbx (N:=2) #[.int .i64 j3,.int .i64 k6,.int .i64 k7,.int .i64 k8,.int .i64 k9,.int .i64 j4,.int .i64 l3,.int .i64 i3,.int .i64 l4,.int .i64 l5,.int .i64 j5,.int .i64 j6,.int .i64 j7,.int .i64 b9,.slice i7 d8.length i8,.bool j8] 26 ?_;intro o6 hg w5 hbox hb;have n0_:=zaa.mk (zae (zL HB.out) hb);have n1_:=zaa.mk (hbox);have n2_:=zaa.mk ((zS hg (zL HB.out):w.heap.size≤o6));have n3_:=n2_;clear HB;have HB:=n0_;have l8:=n1_;have M8:=n2_;have n3:=n3_;clear n0_ n1_ n2_ n3_;clear hb hbox hg)|((with_reducible refine zaC (N:=3) rfl ?_);refine zbx (N:=3) #[.int .i64 e0,.int .i64 d9,.int .i64 e5,.int .i64 e7,.int .i64 e8] 28 ?_;intro o7 hg w6 hbox hb;have n0_:=zaa.mk (zac (zB l8.out) hb);have n1_:=zaa.mk (zae (zL1 HB.out n3.out) hb);have n2_:=zaa.mk (hbox);have n3_:=zaa.mk ((zS hg (zL1 HB.out n3.out):w.heap.size≤o7));have n4_:=n3_;have n5_:=zaa.mk (zne hg (zB l8.out));have n6_:=zaa.mk (zen hg (zB l8.out));clear l8;clear HB;have l8:=n0_;have HB:=n1_;have o5:=n2_;have M9:=n3_;have o8:=n4_;have o2:=n5_;have o3:=n6_;clear n0_ n1_ n2_ n3_ n4_ n5_ n6_;clear hb hbox hg;have hnb7:=o3.out;have hnc7:=o2.out;obtain ⟨J5,J6,J7,J8,J9⟩:=zD5 o5.out;obtain ⟨K0,K1,K2,K3,K4⟩:=zE5 o5.out;obtain ⟨K5,K6,K7,K8,K9,L0,L1,L2,L3,L4,I3,I4,I5,I6,I7,I8⟩:=zD16 l8.out;obtain ⟨L5,L6,L7,L8,L9,M0,M1,M2,M3,M4,I9,J0,J1,J2,J3,J4⟩:=zE16 l8.out)|((with_reducible refine zah (f:=68) rfl ?_);refine zgl 10 Try.func68 #[.int .i64 (wrap64 (e5*j4)),.int .i64 100] ?_;(with_reducible refine (zas.calls k (wrap64 (e5*j4)) 100 l7 _ A3.out).mono ?_);rintro e w' ⟨rfl,⟨nd,rfl⟩⟩;refine ⟨_,rfl,?_⟩))
 go_ret
 exact ⟨by first|rfl|(simp [zaK,zaL] <;> rfl)|(simp only [← hji4];first|rfl|(simp [zaK,zaL] <;> rfl))|(simp [*,zaK,zaL] <;> rfl),by repeat (first|(with_reducible first|exact HB.out|apply zan|apply zaj|apply zai|refine zao ?_ n3.out|refine zao ?_ o8.out)|exact HB.out)⟩
def zaU.f (k:Nat) (a0:Int) (a1:Int) (a2:Int) (a3:Int):Option (Int):=(zas.f k (wrap64 ((wrap64 (a1 - a0))*a2)) a3).bind fun m9=>(some (wrap64 (a0+m9)))
set_option maxHeartbeats 8000000 in
set_option maxRecDepth 100000 in
theorem zaU.calls (k:Nat) (a0:Int) (a1:Int) (a2:Int) (a3:Int) (r:Int) (w:World) (h:zaU.f k a0 a1 a2 a3=some r) :
 Calls Try.prog 124 #[.int .i64 a0,.int .i64 a1,.int .i64 a2,.int .i64 a3] w fun e w'=>e = .returned (.int .i64 r)∧zaS w w':=by
 have H:((zas.f k (wrap64 ((wrap64 (a1 - a0))*a2)) a3).bind fun m9=>(some (wrap64 (a0+m9))))=some r:=h
 clear h
 obtain ⟨m9,A5,H⟩:=zob H
 replace H:(some (wrap64 (a0+m9)))=some r:=H
 obtain rfl:=Option.some.inj H
 go_enter Try.func124,Try.ntmps124
 go_wp2_with (first|((with_reducible refine zah (f:=68) rfl ?_);refine zgl 16 Try.func68 #[.int .i64 (wrap64 ((wrap64 (a1 - a0))*a2)),.int .i64 a3] ?_;(with_reducible refine (zas.calls k (wrap64 ((wrap64 (a1 - a0))*a2)) a3 m9 _ A5.out).mono ?_);rintro e w' ⟨rfl,⟨nd,rfl⟩⟩;refine ⟨_,rfl,?_⟩))
 go_ret
 exact zH
end Go.Proofs.Ytlilncnoohfcdaa.Br
