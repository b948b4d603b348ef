
import Derived.Test.YtlilncnoohfcdaaDax0
import Derived.Test.YtlilncnoohfcdaaDax5
import Derived.Test.YtlilncnoohfcdaaBrx0
import Derived.Test.YtlilncnoohfcdaaBrx4
import Derived.Test.YtlilncnoohfcdaaBrx5
import Derived.Test.YtlilncnoohfcdaaBrx6
import Derived.Test.YtlilncnoohfcdaaBrx7
import Derived.Test.YtlilncnoohfcdaaBrSt
namespace Go.Proofs.Ytlilncnoohfcdaa.Br
open Go.RowKit Go.Proofs.YtlilncnoohfcdaaW.PrintWords Go.Proofs.YtlilncnoohfcdaaW.PrintLast Go.Proofs.YtlilncnoohfcdaaW.PrintMore Go.Proofs.Ytlilncnoohfcdaa.Da
attribute [local go_sem] zbr zbu zbD zbH zbq zbp zbv zbt   
set_option linter.unusedVariables false
set_option linter.unusedSimpArgs false
/-! ### brush_Dabs: function 25 -/
mutual
def zaz.l0:Nat→List (S57)→List (S28)→Int→Int→Int→Int→Int→Int→Int→Int→Int→Int→Int→Int→Int→Int→Int→Int→List (S120)→Bool→Option ((List (S28))×Int)
 | 0,_,_,_,_,_,_,_,_,_,_,_,_,_,_,_,_,_,_,_,_=>none
 | k+1,x1,x8,x9,x10,x00,x01,x02,x03,x04,x05,x06,x07,x08,x09,x0a,x0b,x0c,x0d,x0e,x0f=>if x10<(x1.length:Int) then (if 0≤(wrap64 (x10 - 1)) then (if (wrap64 (x10 - 1))<(x1.length:Int) then (if 0≤x10 then ((zcu.f k ((zab x1 (wrap64 (x10 - 1))).f0) ((zab x1 (wrap64 (x10 - 1))).f1) ((zab x1 (wrap64 (x10 - 1))).f2) ((zab x1 (wrap64 (x10 - 1))).f3) ((zab x1 (wrap64 (x10 - 1))).f4) ((zab x1 x10).f0) ((zab x1 x10).f1) ((zab x1 x10).f2) ((zab x1 x10).f3) ((zab x1 x10).f4)).bind fun o3=>((za3.f k ((zab x1 (wrap64 (x10 - 1))).f0) ((zab x1 (wrap64 (x10 - 1))).f1) ((zab x1 (wrap64 (x10 - 1))).f2) ((zab x1 (wrap64 (x10 - 1))).f3) ((zab x1 (wrap64 (x10 - 1))).f4) ((zab x1 x10).f0) ((zab x1 x10).f1) ((zab x1 x10).f2) ((zab x1 x10).f3) ((zab x1 x10).f4)).bind fun o4=>(zaz.l1 k x1 x8 x9 x10 o3 o4 0 x00 x01 x02 x03 x04 x05 x06 x07 x08 x09 x0a x0b x0c x0d x0e x0f ((zab x1 (wrap64 (x10 - 1))).f0) ((zab x1 (wrap64 (x10 - 1))).f1) ((zab x1 (wrap64 (x10 - 1))).f2) ((zab x1 (wrap64 (x10 - 1))).f3) ((zab x1 (wrap64 (x10 - 1))).f4) ((zab x1 x10).f0) ((zab x1 x10).f1) ((zab x1 x10).f2) ((zab x1 x10).f3) ((zab x1 x10).f4)))) else (none)) else (none)) else (none)) else (some (x8,0))
def zaz.l1:Nat→List (S57)→List (S28)→Int→Int→Int→Int→Int→Int→Int→Int→Int→Int→Int→Int→Int→Int→Int→Int→Int→Int→Int→List (S120)→Bool→Int→Int→Int→Int→Int→Int→Int→Int→Int→Int→Option ((List (S28))×Int)
 | 0,_,_,_,_,_,_,_,_,_,_,_,_,_,_,_,_,_,_,_,_,_,_,_,_,_,_,_,_,_,_,_,_,_=>none
 | k+1,x1,x8,x9,x10,x13,x14,x15,x00,x01,x02,x03,x04,x05,x06,x07,x08,x09,x0a,x0b,x0c,x0d,x0e,x0f,x0g,x0h,x0i,x0j,x0k,x0l,x0m,x0n,x0o,x0p=>if x9≤(wrap64 (x13 - x15)) then (if (x8.length:Int)=1024 then (some (([]:List (S28)),3)) else ((zbC.f k x0g x0h x0i x0j x0k x0l x0m x0n x0o x0p (wrap64 (x15+x9)) x13).bind fun C7=>((zb5.f k x00 x01 x02 x03 x04 x05 x06 x07 x08 x09 x0a x0b x0c x0d x0e x0f C7.1 C7.2.1 C7.2.2.1 C7.2.2.2.1 C7.2.2.2.2 x14 (x8.length:Int)).bind fun n5=>(if x8.length<3518437208883 then ((zbP.f k x00 x01 x02 x03 x04 x05 x06 x07 x08 x09 x0a x0b x0c x0d x0e x0f n5.1 n5.2.1 n5.2.2.1 n5.2.2.2.1 n5.2.2.2.2).bind fun z8=>(zaz.l1 k x1 (x8 ++ [(⟨n5.1,n5.2.1,n5.2.2.1,n5.2.2.2.1,n5.2.2.2.2⟩:S28)]) z8 x10 x13 x14 (wrap64 (x15+x9)) x00 x01 x02 x03 x04 x05 x06 x07 x08 x09 x0a x0b x0c x0d x0e x0f x0g x0h x0i x0j x0k x0l x0m x0n x0o x0p)) else (none))))) else (zaz.l0 k x1 x8 (wrap64 (x9 - (wrap64 (x13 - x15)))) (wrap64 (x10+1)) x00 x01 x02 x03 x04 x05 x06 x07 x08 x09 x0a x0b x0c x0d x0e x0f)
end
def zaz.f (k:Nat) (i5:Int) (i6:Int) (i7:Int) (i8:Int) (i9:Int) (j2:Int) (j3:Int) (j4:Int) (j5:Int) (j6:Int) (e9:Int) (f5:Int) (f6:Int) (f7:Int) (e8:List (S120)) (g9:Bool) (l1:List (S57)):Option ((List (S28))×Int):=(zaG.f k i5 i6 i7 i8 i9 j2 j3 j4 j5 j6 e9 f5 f6 f7 e8 g9).bind fun t6=>(if t6=0 then ((zaP.f k l1).bind fun p8=>(if p8=0 then (if 0<(l1.length:Int) then ((zb5.f k i5 i6 i7 i8 i9 j2 j3 j4 j5 j6 e9 f5 f6 f7 e8 g9 ((zab l1 0).f0) ((zab l1 0).f1) ((zab l1 0).f2) ((zab l1 0).f3) ((zab l1 0).f4) 0 0).bind fun m9=>((some (([(⟨m9.1,m9.2.1,m9.2.2.1,m9.2.2.2.1,m9.2.2.2.2⟩:S28)]:List (S28)):List (S28))).bind fun y158=>(if 0<(y158.length:Int) then ((zbP.f k i5 i6 i7 i8 i9 j2 j3 j4 j5 j6 e9 f5 f6 f7 e8 g9 ((zag y158 0).f0) ((zag y158 0).f1) ((zag y158 0).f2) ((zag y158 0).f3) ((zag y158 0).f4)).bind fun t8=>(zaz.l0 k l1 y158 t8 1 i5 i6 i7 i8 i9 j2 j3 j4 j5 j6 e9 f5 f6 f7 e8 g9)) else (none)))) else (none)) else (some (([]:List (S28)),p8)))) else (some (([]:List (S28)),t6)))
def zaz.T12:Bool×List (List Nat×List Nat):=(true,[([],[]),([],[]),([1],[1]),([0,2],[0,2]),([3],[3]),([],[]),([],[]),([5,6],[5,6]),([7],[7]),([],[]),([],[]),([9,4,0,1,2,3,4,9,10],[4,9]),([10,8,11,0,1,2,3,4,5,6,7,8,9,10,11],[8,10])])
def zaz.B12:List Nat:=[0,0,2,7,15,0,0,96,224,0,0,1567,4095]
theorem zaz.tab12:rtab .any (opsOf Try.f25 12)=zaz.T12:=by kernel_rfl
theorem zaz.bits12:zbE zaz.T12.2 zaz.B12=true:=by kernel_rfl
def zaz.T13:Bool×List (List Nat×List Nat):=(true,[([],[]),([],[]),([0,1],[0,1]),([],[]),([],[]),([3,4,2],[3,4]),([2,5,0,1,2],[2]),([5,6,0,1,2,3,4,5,6],[5])])
def zaz.B13:List Nat:=[0,0,3,0,0,31,63,127]
theorem zaz.tab13:rtab .any (opsOf Try.f25 13)=zaz.T13:=by kernel_rfl
theorem zaz.bits13:zbE zaz.T13.2 zaz.B13=true:=by kernel_rfl
def zaz.T19:Bool×List (List Nat×List Nat):=(true,[([],[]),([],[]),([],[]),([],[]),([],[]),([1,2,3,4],[1,2,3,4]),([],[]),([],[]),([7],[7]),([0,5,6,8,5],[0,5,6,8]),([],[]),([10,9,9,0,1,2,3,4,5,6,7,8,9,10],[9,10])])
def zaz.B19:List Nat:=[0,0,0,0,0,30,0,0,128,511,0,2047]
theorem zaz.tab19:rtab .any (opsOf Try.f25 19)=zaz.T19:=by kernel_rfl
theorem zaz.bits19:zbE zaz.T19.2 zaz.B19=true:=by kernel_rfl
set_option maxHeartbeats 8000000 in
set_option maxRecDepth 100000 in
theorem zaz.calls (k:Nat) (i5:Int) (i6:Int) (i7:Int) (i8:Int) (i9:Int) (j2:Int) (j3:Int) (j4:Int) (j5:Int) (j6:Int) (e9:Int) (f5:Int) (f6:Int) (f7:Int) (m7:Option Addr) (m8:Nat) (e8:List (S120)) (g9:Bool) (A1:Option Addr) (c1:Nat) (l1:List (S57)) (r1:List (S28)) (r2:Int) (w:World) (E6:Kd.C k120 w m7 e8.length e8) (E7:e8.length≤m8) (hr1:Kd.C k57 w A1 l1.length l1) (hc1:l1.length≤c1) (h:zaz.f k i5 i6 i7 i8 i9 j2 j3 j4 j5 j6 e9 f5 f6 f7 e8 g9 l1=some (r1,r2)) :
 Calls Try.prog 25 #[.agg #[.int .i64 i5,.int .i64 i6,.int .i64 i7,.int .i64 i8,.int .i64 i9,.int .i64 j2,.int .i64 j3,.int .i64 j4,.int .i64 j5,.int .i64 j6,.int .i64 e9,.int .i64 f5,.int .i64 f6,.int .i64 f7,.slice m7 e8.length m8,.bool g9],.slice A1 l1.length c1] w fun e w'=>∃ v0_:Value,e = .returned (.tuple #[v0_,.int .i64 r2])∧Kd.R k28 28 w' w.heap.size (fun _=>True) v0_ r1∧Below w.heap.size w w':=by
 have hu26:=Try.underlying26
 have hu57:=Try.underlying57
 have hu28:=Try.underlying28
 have t9:=zaa.mk E6
 have u3:=zaa.mk E7
 clear E6 E7
 have HR1:=zaa.mk hr1
 have HC1:=zaa.mk hc1
 clear hr1 hc1
 have HB:=zaa.mk (Below.refl w.heap.size w)
 have H:((zaG.f k i5 i6 i7 i8 i9 j2 j3 j4 j5 j6 e9 f5 f6 f7 e8 g9).bind fun t6=>(if t6=0 then ((zaP.f k l1).bind fun p8=>(if p8=0 then (if 0<(l1.length:Int) then ((zb5.f k i5 i6 i7 i8 i9 j2 j3 j4 j5 j6 e9 f5 f6 f7 e8 g9 ((zab l1 0).f0) ((zab l1 0).f1) ((zab l1 0).f2) ((zab l1 0).f3) ((zab l1 0).f4) 0 0).bind fun m9=>((some (([(⟨m9.1,m9.2.1,m9.2.2.1,m9.2.2.2.1,m9.2.2.2.2⟩:S28)]:List (S28)):List (S28))).bind fun y158=>(if 0<(y158.length:Int) then ((zbP.f k i5 i6 i7 i8 i9 j2 j3 j4 j5 j6 e9 f5 f6 f7 e8 g9 ((zag y158 0).f0) ((zag y158 0).f1) ((zag y158 0).f2) ((zag y158 0).f3) ((zag y158 0).f4)).bind fun t8=>(zaz.l0 k l1 y158 t8 1 i5 i6 i7 i8 i9 j2 j3 j4 j5 j6 e9 f5 f6 f7 e8 g9)) else (none)))) else (none)) else (some (([]:List (S28)),p8)))) else (some (([]:List (S28)),t6))))=some (r1,r2):=h
 clear h
 replace H:=Option.bind_eq_some_iff.mp H
 obtain ⟨t6,A30,H⟩:=H
 replace H:(if t6=0 then ((zaP.f k l1).bind fun p8=>(if p8=0 then (if 0<(l1.length:Int) then ((zb5.f k i5 i6 i7 i8 i9 j2 j3 j4 j5 j6 e9 f5 f6 f7 e8 g9 ((zab l1 0).f0) ((zab l1 0).f1) ((zab l1 0).f2) ((zab l1 0).f3) ((zab l1 0).f4) 0 0).bind fun m9=>((some (([(⟨m9.1,m9.2.1,m9.2.2.1,m9.2.2.2.1,m9.2.2.2.2⟩:S28)]:List (S28)):List (S28))).bind fun y158=>(if 0<(y158.length:Int) then ((zbP.f k i5 i6 i7 i8 i9 j2 j3 j4 j5 j6 e9 f5 f6 f7 e8 g9 ((zag y158 0).f0) ((zag y158 0).f1) ((zag y158 0).f2) ((zag y158 0).f3) ((zag y158 0).f4)).bind fun t8=>(zaz.l0 k l1 y158 t8 1 i5 i6 i7 i8 i9 j2 j3 j4 j5 j6 e9 f5 f6 f7 e8 g9)) else (none)))) else (none)) else (some (([]:List (S28)),p8)))) else (some (([]:List (S28)),t6)))=some (r1,r2):=H
 have A3:=zaa.mk A30
 clear A30
 by_cases c4:t6=0
 ·rw [if_pos c4] at H
  have c4b0:(t6==0)=true:=beq_iff_eq.mpr c4
  have c4b1:(t6 != 0)=false:=bne_eq_false_iff_eq.mpr c4
  clear c4
  replace H:=Option.bind_eq_some_iff.mp H
  obtain ⟨p8,A50,H⟩:=H
  replace H:(if p8=0 then (if 0<(l1.length:Int) then ((zb5.f k i5 i6 i7 i8 i9 j2 j3 j4 j5 j6 e9 f5 f6 f7 e8 g9 ((zab l1 0).f0) ((zab l1 0).f1) ((zab l1 0).f2) ((zab l1 0).f3) ((zab l1 0).f4) 0 0).bind fun m9=>((some (([(⟨m9.1,m9.2.1,m9.2.2.1,m9.2.2.2.1,m9.2.2.2.2⟩:S28)]:List (S28)):List (S28))).bind fun y158=>(if 0<(y158.length:Int) then ((zbP.f k i5 i6 i7 i8 i9 j2 j3 j4 j5 j6 e9 f5 f6 f7 e8 g9 ((zag y158 0).f0) ((zag y158 0).f1) ((zag y158 0).f2) ((zag y158 0).f3) ((zag y158 0).f4)).bind fun t8=>(zaz.l0 k l1 y158 t8 1 i5 i6 i7 i8 i9 j2 j3 j4 j5 j6 e9 f5 f6 f7 e8 g9)) else (none)))) else (none)) else (some (([]:List (S28)),p8)))=some (r1,r2):=H
  have A5:=zaa.mk A50
  clear A50
  by_cases c6:p8=0
  ·rw [if_pos c6] at H
   have c6b0:(p8==0)=true:=beq_iff_eq.mpr c6
   have c6b1:(p8 != 0)=false:=bne_eq_false_iff_eq.mpr c6
   clear c6
   by_cases c7:0<(l1.length:Int)
   ·rw [if_pos c7] at H
    have c7b0:decide (0<(l1.length:Int))=true:=decide_eq_true c7
    have c7b1:decide (0<l1.length)=true:=decide_eq_true (by omega)
    clear c7
    replace H:=Option.bind_eq_some_iff.mp H
    obtain ⟨⟨C1,C2,C3,C4,C5⟩,A80,H⟩:=H
    replace H:((some (([(⟨C1,C2,C3,C4,C5⟩:S28)]:List (S28)):List (S28))).bind fun y158=>(if 0<(y158.length:Int) then ((zbP.f k i5 i6 i7 i8 i9 j2 j3 j4 j5 j6 e9 f5 f6 f7 e8 g9 ((zag y158 0).f0) ((zag y158 0).f1) ((zag y158 0).f2) ((zag y158 0).f3) ((zag y158 0).f4)).bind fun t8=>(zaz.l0 k l1 y158 t8 1 i5 i6 i7 i8 i9 j2 j3 j4 j5 j6 e9 f5 f6 f7 e8 g9)) else (none)))=some (r1,r2):=H
    have A8:=zaa.mk A80
    clear A80
    obtain ⟨y158,hy158⟩ : ∃ y_:List (S28),y_=(([(⟨C1,C2,C3,C4,C5⟩:S28)]:List (S28))):=⟨_,rfl⟩
    replace H:(if 0<(y158.length:Int) then ((zbP.f k i5 i6 i7 i8 i9 j2 j3 j4 j5 j6 e9 f5 f6 f7 e8 g9 ((zag y158 0).f0) ((zag y158 0).f1) ((zag y158 0).f2) ((zag y158 0).f3) ((zag y158 0).f4)).bind fun t8=>(zaz.l0 k l1 y158 t8 1 i5 i6 i7 i8 i9 j2 j3 j4 j5 j6 e9 f5 f6 f7 e8 g9)) else (none))=some (r1,r2):=by first|(rw [hy158];with_reducible exact H)|(have H2_:=(Option.bind_some _ _).symm.trans H;rw [hy158];with_reducible exact H2_)|(have H2_:=(Option.bind_some _ _).symm.trans H;with_reducible exact H2_)|with_reducible exact H|(rw [hy158];exact H)|exact H
    have Ny158:=zaa.mk hy158
    clear hy158
    by_cases c9:0<(y158.length:Int)
    ·rw [if_pos c9] at H
     have c9b0:decide (0<(y158.length:Int))=true:=decide_eq_true c9
     have c9b1:decide (0<y158.length)=true:=decide_eq_true (by omega)
     clear c9
     replace H:=Option.bind_eq_some_iff.mp H
     obtain ⟨t8,A100,H⟩:=H
     replace H:(zaz.l0 k l1 y158 t8 1 i5 i6 i7 i8 i9 j2 j3 j4 j5 j6 e9 f5 f6 f7 e8 g9)=some (r1,r2):=H
     have A10:=zaa.mk A100
     clear A100
     have H':=zaa.mk H
     clear H
     go_enter Try.func25,Try.ntmps25
     try go_wp2_with (first|((with_reducible refine zbK rfl ?_);refine zle26 ?_)|((with_reducible refine zbL rfl ?_);refine zle28 ?_)|((with_reducible refine zbM rfl ?_);refine zle57 ?_)|((with_reducible refine zaC (N:=2) rfl ?_);refine zbx (N:=2) #[.int .i64 i5,.int .i64 i6,.int .i64 i7,.int .i64 i8,.int .i64 i9,.int .i64 j2,.int .i64 j3,.int .i64 j4,.int .i64 j5,.int .i64 j6,.int .i64 e9,.int .i64 f5,.int .i64 f6,.int .i64 f7,.slice m7 e8.length m8,.bool g9] 26 ?_;intro e5 hg w11 hbox hb;have n0_:=zaa.mk (zae (zL HB.out) hb);have n1_:=zaa.mk (hbox);have n2_:=zaa.mk ((zS hg (zL HB.out):w.heap.size≤e5));have n3_:=n2_;clear HB;have HB:=n0_;have b8:=n1_;have F4:=n2_;have i4:=n3_;clear n0_ n1_ n2_ n3_;clear hb hbox hg;obtain ⟨F7,F8,F9,G4,G5,G6,G7,G8,G9,D5,E8,E9,F0,F1,F2,F3⟩:=zD16 b8.out;obtain ⟨D6,D7,D8,D9,E0,E1,E2,E3,E4,E5,C9,D0,D1,D2,D3,D4⟩:=zE16 b8.out)|((with_reducible refine zah (f:=14) rfl ?_);refine zgl 18 Try.func14 #[.agg #[.int .i64 i5,.int .i64 i6,.int .i64 i7,.int .i64 i8,.int .i64 i9,.int .i64 j2,.int .i64 j3,.int .i64 j4,.int .i64 j5,.int .i64 j6,.int .i64 e9,.int .i64 f5,.int .i64 f6,.int .i64 f7,.slice m7 e8.length m8,.bool g9]] ?_;(with_reducible refine (zaG.calls k i5 i6 i7 i8 i9 j2 j3 j4 j5 j6 e9 f5 f6 f7 _ _ e8 g9 t6 _ ?side1 ?side2 A3.out).mono ?_);(case side1=>repeat (first|exact (Kd.C_below t9.out HB.out)|(with_reducible refine Kd.C_alloc ?_ _)|(with_reducible refine Kd.C_drewN ?_ _)|(with_reducible refine Kd.C_drew ?_)));(case side2=>exact u3.out);rintro e w13 ⟨rfl,hb⟩;refine ⟨_,rfl,?_⟩;replace b8:=zaa.mk (zac (zB b8.out) hb);replace HB:=zaa.mk (zae (zL1 HB.out i4.out) hb);(try clear hb);(try clear hb2);(try clear hk);(try clear hi))|((with_reducible refine zah (f:=30) rfl ?_);refine zgl 23 Try.func30 #[.slice A1 l1.length c1] ?_;(with_reducible refine (zaP.calls k _ _ l1 p8 _ ?side1 ?side2 A5.out).mono ?_);(case side1=>repeat (first|exact (Kd.C_below HR1.out HB.out)|(with_reducible refine Kd.C_alloc ?_ _)|(with_reducible refine Kd.C_drewN ?_ _)|(with_reducible refine Kd.C_drew ?_)));(case side2=>exact HC1.out);rintro e w14 ⟨rfl,hb⟩;refine ⟨_,rfl,?_⟩;replace b8:=zaa.mk (zac (zB b8.out) hb);replace HB:=zaa.mk (zae (zL1 HB.out i4.out) hb);(try clear hb);(try clear hb2);(try clear hk);(try clear hi)))
     replace b8:=zaa.mk (zaM b8.out)
     replace HB:=zaa.mk (zai HB.out)
     have p152:0≤(0:Int):=(by omega)
     have q152:0<(l1.length:Int):=of_decide_eq_true (by first|(with_reducible assumption)|assumption)
     obtain ⟨i3,e152,o6,o7,o8,o9,p7⟩:=at_T57 HR1.out 0 p152 q152
     have s5:=p7
     (try rw [show ((0:Int)).toNat=0 from rfl] at s5)
     (try rw [show 0*5=0 from rfl] at s5)
     (try rw [Addr.add_zero'] at s5)
     have s6:=o9
     (try rw [show ((0:Int)).toNat=0 from rfl] at s6)
     (try rw [show 0*5=0 from rfl] at s6)
     (try rw [Addr.add_zero'] at s6)
     have s7:=o8
     (try rw [show ((0:Int)).toNat=0 from rfl] at s7)
     (try rw [show 0*5=0 from rfl] at s7)
     (try rw [Addr.add_zero'] at s7)
     have s8:=o7
     (try rw [show ((0:Int)).toNat=0 from rfl] at s8)
     (try rw [show 0*5=0 from rfl] at s8)
     (try rw [Addr.add_zero'] at s8)
     have s9:=o6
     (try rw [show ((0:Int)).toNat=0 from rfl] at s9)
     (try rw [show 0*5=0 from rfl] at s9)
     (try rw [Addr.add_zero'] at s9)
     cases e152
     have qi152:(0<l1.length)=True:=eq_true (by omega)
     (try rw [show ((0:Int)).toNat=0 from rfl] at o6)
     (try rw [show 0*5=0 from rfl] at o6)
     (try rw [Addr.add_zero'] at o6)
     (try rw [show ((0:Int)).toNat=0 from rfl] at o7)
     (try rw [show 0*5=0 from rfl] at o7)
     (try rw [Addr.add_zero'] at o7)
     (try rw [show ((0:Int)).toNat=0 from rfl] at o8)
     (try rw [show 0*5=0 from rfl] at o8)
     (try rw [Addr.add_zero'] at o8)
     (try rw [show ((0:Int)).toNat=0 from rfl] at o9)
     (try rw [show 0*5=0 from rfl] at o9)
     (try rw [Addr.add_zero'] at o9)
     (try rw [show ((0:Int)).toNat=0 from rfl] at p7)
     (try rw [show 0*5=0 from rfl] at p7)
     (try rw [Addr.add_zero'] at p7)
     replace o6:=(HB.out.cell (World.block_lt_of_cell? w _ o6)).trans o6
     replace o7:=(HB.out.cell (World.block_lt_of_cell? w _ o7)).trans o7
     replace o8:=(HB.out.cell (World.block_lt_of_cell? w _ o8)).trans o8
     replace o9:=(HB.out.cell (World.block_lt_of_cell? w _ o9)).trans o9
     replace p7:=(HB.out.cell (World.block_lt_of_cell? w _ p7)).trans p7
     replace p152:=eq_true p152
     replace q152:=eq_true q152
     refine zbA (n:=7) (S:=fun w'=>w'.cell? ⟨e5,0,none⟩=some (.int .i64 i5)∧w'.cell? ⟨e5,1,none⟩=some (.int .i64 i6)∧w'.cell? ⟨e5,2,none⟩=some (.int .i64 i7)∧w'.cell? ⟨e5,3,none⟩=some (.int .i64 i8)∧w'.cell? ⟨e5,4,none⟩=some (.int .i64 i9)∧w'.cell? ⟨e5,5,none⟩=some (.int .i64 j2)∧w'.cell? ⟨e5,6,none⟩=some (.int .i64 j3)∧w'.cell? ⟨e5,7,none⟩=some (.int .i64 j4)∧w'.cell? ⟨e5,8,none⟩=some (.int .i64 j5)∧w'.cell? ⟨e5,9,none⟩=some (.int .i64 j6)∧w'.cell? ⟨e5,10,none⟩=some (.int .i64 e9)∧w'.cell? ⟨e5,11,none⟩=some (.int .i64 f5)∧w'.cell? ⟨e5,12,none⟩=some (.int .i64 f6)∧w'.cell? ⟨e5,13,none⟩=some (.int .i64 f7)∧w'.cell? ⟨e5,14,none⟩=some (.slice m7 e8.length m8)∧w'.cell? ⟨e5,15,none⟩=some (.bool g9)∧w'.cell? i3=some (.int .i64 ((zab l1 0).f0))∧w'.cell? ⟨i3.block,i3.off+1,none⟩=some (.int .i64 ((zab l1 0).f1))∧w'.cell? ⟨i3.block,i3.off+2,none⟩=some (.int .i64 ((zab l1 0).f2))∧w'.cell? ⟨i3.block,i3.off+3,none⟩=some (.int .i64 ((zab l1 0).f3))∧w'.cell? ⟨i3.block,i3.off+4,none⟩=some (.int .i64 ((zab l1 0).f4))) (ds:=[]) #[false,false,false,false,false,false,false] (by kernel_rfl) rfl rfl ⟨zc b8.out 0,zc b8.out 1,zc b8.out 2,zc b8.out 3,zc b8.out 4,zc b8.out 5,zc b8.out 6,zc b8.out 7,zc b8.out 8,zc b8.out 9,zc b8.out 10,zc b8.out 11,zc b8.out 12,zc b8.out 13,zc b8.out 14,zc b8.out 15,((HB.out.cell (World.block_lt_of_cell? w _ s9)).trans s9),((HB.out.cell (World.block_lt_of_cell? w _ s8)).trans s8),((HB.out.cell (World.block_lt_of_cell? w _ s7)).trans s7),((HB.out.cell (World.block_lt_of_cell? w _ s6)).trans s6),((HB.out.cell (World.block_lt_of_cell? w _ s5)).trans s5)⟩ (fun hHeld=>?_)
     generalize w14.drew=w15 at b8 HB o6 o7 o8 o9 p7 hHeld ⊢
     refine zpm 1 28 ?_
     refine zpm 2 29 ?_
     refine ztm 0 27 hHeld ?_
     refine ztm 3 30 hHeld ?_
     refine one_ (i:=4) (N:=some 31) #[true,true,true,true,true,false,false] rfl rfl (by kernel_rfl) (by decide) (fun K hK=>?_)
     refine zgo Try.func71 #[.agg #[.int .i64 i5,.int .i64 i6,.int .i64 i7,.int .i64 i8,.int .i64 i9,.int .i64 j2,.int .i64 j3,.int .i64 j4,.int .i64 j5,.int .i64 j6,.int .i64 e9,.int .i64 f5,.int .i64 f6,.int .i64 f7,.slice m7 e8.length m8,.bool g9],.agg #[.int .i64 ((zab l1 0).f0),.int .i64 ((zab l1 0).f1),.int .i64 ((zab l1 0).f2),.int .i64 ((zab l1 0).f3),.int .i64 ((zab l1 0).f4)],.int .i64 0,.int .i64 0] ?_
     with_reducible refine (zb5.calls k i5 i6 i7 i8 i9 j2 j3 j4 j5 j6 e9 f5 f6 f7 _ _ e8 g9 ((zab l1 0).f0) ((zab l1 0).f1) ((zab l1 0).f2) ((zab l1 0).f3) ((zab l1 0).f4) 0 0 C1 C2 C3 C4 C5 _ ?side1 ?side2 A8.out).mono ?_
     (case side1=>repeat (first|exact (Kd.C_below t9.out HB.out)|(with_reducible refine Kd.C_alloc ?_ _)|(with_reducible refine Kd.C_drewN ?_ _)|(with_reducible refine Kd.C_drew ?_)))
     (case side2=>exact u3.out)
     rintro e w16 ⟨rfl,hb⟩
     refine ⟨_,rfl,?_⟩
     replace b8:=zaa.mk (zac (zB b8.out) hb)
     replace HB:=zaa.mk (zae (zL1 HB.out i4.out) hb)
     (try clear hb);(try clear hb2);(try clear hk);(try clear hi)
     refine hK.out _ _ ⟨zc b8.out 0,zc b8.out 1,zc b8.out 2,zc b8.out 3,zc b8.out 4,zc b8.out 5,zc b8.out 6,zc b8.out 7,zc b8.out 8,zc b8.out 9,zc b8.out 10,zc b8.out 11,zc b8.out 12,zc b8.out 13,zc b8.out 14,zc b8.out 15,((HB.out.cell (World.block_lt_of_cell? w _ s9)).trans s9),((HB.out.cell (World.block_lt_of_cell? w _ s8)).trans s8),((HB.out.cell (World.block_lt_of_cell? w _ s7)).trans s7),((HB.out.cell (World.block_lt_of_cell? w _ s6)).trans s6),((HB.out.cell (World.block_lt_of_cell? w _ s5)).trans s5)⟩ (fun hHeld=>?_)
     clear hK K
     refine znm ?_
     refine one_ (i:=5) (N:=some 32) #[true,true,true,true,true,true,false] rfl rfl (by kernel_rfl) (by decide) (fun K hK=>?_)
     refine Kd.R_lit_step k28 _ 28 ?hg (N:=32) ?hd (xs:=([(⟨C1,C2,C3,C4,C5⟩:S28)]:List (S28))) (inner:=[.int .i64 C1,.int .i64 C2,.int .i64 C3,.int .i64 C4,.int .i64 C5]) (ok:=fun _=>True) (okp:=fun _=>True) ?hr ?hp (fun _ hk=>hk) trivial (Below.refl _ _) (Nat.le_refl _) (by simp) ?_;(case hd=>rfl);(case hg=>rfl);(case hr=>first|(go_simp;done)|(go_simp;rfl));(case hp=>exact (Reps.c5 (show Kd.M k28 _ _ _ (⟨C1,C2,C3,C4,C5⟩:S28) [.int .i64 C1,.int .i64 C2,.int .i64 C3,.int .i64 C4,.int .i64 C5] from (k28_mkM _ _ _ (⟨C1,C2,C3,C4,C5⟩:S28))) (Reps.none _ _)))
     intro v159 w17 ho18 hb hg_ hnew_
     clear hg_ hnew_
     (first|rw [← Ny158.out] at ho18|(simp only [Int.reduceToNat] at ho18;rw [← Ny158.out] at ho18))
     have y5:=zaa.mk (Kd.R_lower ho18 (zbJ (zL1 HB.out i4.out)))
     replace b8:=zaa.mk (zac (zB b8.out) hb)
     replace HB:=zaa.mk (zae (zL1 HB.out i4.out) hb)
     clear hb ho18
     refine hK.out _ _ ⟨zc b8.out 0,zc b8.out 1,zc b8.out 2,zc b8.out 3,zc b8.out 4,zc b8.out 5,zc b8.out 6,zc b8.out 7,zc b8.out 8,zc b8.out 9,zc b8.out 10,zc b8.out 11,zc b8.out 12,zc b8.out 13,zc b8.out 14,zc b8.out 15,((HB.out.cell (World.block_lt_of_cell? w _ s9)).trans s9),((HB.out.cell (World.block_lt_of_cell? w _ s8)).trans s8),((HB.out.cell (World.block_lt_of_cell? w _ s7)).trans s7),((HB.out.cell (World.block_lt_of_cell? w _ s6)).trans s6),((HB.out.cell (World.block_lt_of_cell? w _ s5)).trans s5)⟩ (fun hHeld=>?_)
     clear hK K
     refine znm ?_
     refine zpm 6 8 ?_
     refine zbT (by kernel_rfl) ?_
     try go_wp2
     replace y5:=zaa.mk (Kd.R_drew y5.out)
     replace b8:=zaa.mk (zaM b8.out)
     replace HB:=zaa.mk (zai HB.out)
     obtain ⟨Ao20,co20,eo20⟩:=Kd.R_slice y5.out
     (first|subst eo20|(injection eo20 with f1_ f2_ f3_;have f4_:=f1_.symm;have f5_:=f3_.symm;clear f1_ f2_ f3_;subst f4_;subst f5_))
     have p161:0≤(0:Int):=(by omega)
     have q161:0<(y158.length:Int):=of_decide_eq_true (by first|(with_reducible assumption)|assumption)
     obtain ⟨y6,e161,u4,u5,u6,u7,u9⟩:=at_T28 (Kd.R_reads' y5.out).2.2 0 p161 q161
     cases e161
     have qi161:(0<y158.length)=True:=eq_true (by omega)
     (try rw [show ((0:Int)).toNat=0 from rfl] at u4)
     (try rw [show 0*5=0 from rfl] at u4)
     (try rw [Addr.add_zero'] at u4)
     (try rw [show ((0:Int)).toNat=0 from rfl] at u5)
     (try rw [show 0*5=0 from rfl] at u5)
     (try rw [Addr.add_zero'] at u5)
     (try rw [show ((0:Int)).toNat=0 from rfl] at u6)
     (try rw [show 0*5=0 from rfl] at u6)
     (try rw [Addr.add_zero'] at u6)
     (try rw [show ((0:Int)).toNat=0 from rfl] at u7)
     (try rw [show 0*5=0 from rfl] at u7)
     (try rw [Addr.add_zero'] at u7)
     (try rw [show ((0:Int)).toNat=0 from rfl] at u9)
     (try rw [show 0*5=0 from rfl] at u9)
     (try rw [Addr.add_zero'] at u9)
     replace p161:=eq_true p161
     replace q161:=eq_true q161
     refine zbA (n:=6) (S:=fun w'=>w'.cell? ⟨e5,0,none⟩=some (.int .i64 i5)∧w'.cell? ⟨e5,1,none⟩=some (.int .i64 i6)∧w'.cell? ⟨e5,2,none⟩=some (.int .i64 i7)∧w'.cell? ⟨e5,3,none⟩=some (.int .i64 i8)∧w'.cell? ⟨e5,4,none⟩=some (.int .i64 i9)∧w'.cell? ⟨e5,5,none⟩=some (.int .i64 j2)∧w'.cell? ⟨e5,6,none⟩=some (.int .i64 j3)∧w'.cell? ⟨e5,7,none⟩=some (.int .i64 j4)∧w'.cell? ⟨e5,8,none⟩=some (.int .i64 j5)∧w'.cell? ⟨e5,9,none⟩=some (.int .i64 j6)∧w'.cell? ⟨e5,10,none⟩=some (.int .i64 e9)∧w'.cell? ⟨e5,11,none⟩=some (.int .i64 f5)∧w'.cell? ⟨e5,12,none⟩=some (.int .i64 f6)∧w'.cell? ⟨e5,13,none⟩=some (.int .i64 f7)∧w'.cell? ⟨e5,14,none⟩=some (.slice m7 e8.length m8)∧w'.cell? ⟨e5,15,none⟩=some (.bool g9)∧w'.cell? y6=some (.int .i64 ((zag y158 0).f0))∧w'.cell? ⟨y6.block,y6.off+1,none⟩=some (.int .i64 ((zag y158 0).f1))∧w'.cell? ⟨y6.block,y6.off+2,none⟩=some (.int .i64 ((zag y158 0).f2))∧w'.cell? ⟨y6.block,y6.off+3,none⟩=some (.int .i64 ((zag y158 0).f3))∧w'.cell? ⟨y6.block,y6.off+4,none⟩=some (.int .i64 ((zag y158 0).f4))) (ds:=[]) #[false,false,false,false,false,false] (by kernel_rfl) rfl rfl ⟨zc b8.out 0,zc b8.out 1,zc b8.out 2,zc b8.out 3,zc b8.out 4,zc b8.out 5,zc b8.out 6,zc b8.out 7,zc b8.out 8,zc b8.out 9,zc b8.out 10,zc b8.out 11,zc b8.out 12,zc b8.out 13,zc b8.out 14,zc b8.out 15,u4,u5,u6,u7,u9⟩ (fun hHeld=>?_)
     generalize w17.drew=w19 at y5 b8 HB u4 u5 u6 u7 u9 hHeld ⊢
     refine zpm 1 34 ?_
     refine zpm 2 35 ?_
     refine ztm 0 33 hHeld ?_
     refine ztm 3 36 hHeld ?_
     refine one_ (i:=4) (N:=some 37) #[true,true,true,true,true,false] rfl rfl (by kernel_rfl) (by decide) (fun K hK=>?_)
     refine zgo Try.func72 #[.agg #[.int .i64 i5,.int .i64 i6,.int .i64 i7,.int .i64 i8,.int .i64 i9,.int .i64 j2,.int .i64 j3,.int .i64 j4,.int .i64 j5,.int .i64 j6,.int .i64 e9,.int .i64 f5,.int .i64 f6,.int .i64 f7,.slice m7 e8.length m8,.bool g9],.agg #[.int .i64 ((zag y158 0).f0),.int .i64 ((zag y158 0).f1),.int .i64 ((zag y158 0).f2),.int .i64 ((zag y158 0).f3),.int .i64 ((zag y158 0).f4)]] ?_
     with_reducible refine (zbP.calls k i5 i6 i7 i8 i9 j2 j3 j4 j5 j6 e9 f5 f6 f7 _ _ e8 g9 ((zag y158 0).f0) ((zag y158 0).f1) ((zag y158 0).f2) ((zag y158 0).f3) ((zag y158 0).f4) t8 _ ?side1 ?side2 A10.out).mono ?_
     (case side1=>repeat (first|exact (Kd.C_below t9.out HB.out)|(with_reducible refine Kd.C_alloc ?_ _)|(with_reducible refine Kd.C_drewN ?_ _)|(with_reducible refine Kd.C_drew ?_)))
     (case side2=>exact u3.out)
     rintro e w21 ⟨rfl,hb⟩
     have HS16_:=(hb.cell (World.block_lt_of_cell? _ _ (hHeld.2.2.2.2.2.2.2.2.2.2.2.2.2.2.2.2.1))).trans (hHeld.2.2.2.2.2.2.2.2.2.2.2.2.2.2.2.2.1)
     have HS17_:=(hb.cell (World.block_lt_of_cell? _ _ (hHeld.2.2.2.2.2.2.2.2.2.2.2.2.2.2.2.2.2.1))).trans (hHeld.2.2.2.2.2.2.2.2.2.2.2.2.2.2.2.2.2.1)
     have HS18_:=(hb.cell (World.block_lt_of_cell? _ _ (hHeld.2.2.2.2.2.2.2.2.2.2.2.2.2.2.2.2.2.2.1))).trans (hHeld.2.2.2.2.2.2.2.2.2.2.2.2.2.2.2.2.2.2.1)
     have HS19_:=(hb.cell (World.block_lt_of_cell? _ _ (hHeld.2.2.2.2.2.2.2.2.2.2.2.2.2.2.2.2.2.2.2.1))).trans (hHeld.2.2.2.2.2.2.2.2.2.2.2.2.2.2.2.2.2.2.2.1)
     have HS20_:=(hb.cell (World.block_lt_of_cell? _ _ (hHeld.2.2.2.2.2.2.2.2.2.2.2.2.2.2.2.2.2.2.2.2))).trans (hHeld.2.2.2.2.2.2.2.2.2.2.2.2.2.2.2.2.2.2.2.2)
     refine ⟨_,rfl,?_⟩
     have n0_:=zaa.mk (Kd.R_below (by (with_reducible repeat (first|apply Kd.R_alloc|apply Kd.R_drewN|apply Kd.R_drew));exact y5.out) hb)
     have n1_:=zaa.mk (zac (zB b8.out) hb)
     have n2_:=zaa.mk (zae (zL1 HB.out i4.out) hb)
     clear y5
     clear b8
     clear HB
     have y5:=n0_
     have b8:=n1_
     have HB:=n2_
     clear n0_ n1_ n2_
     (try clear hb);(try clear hb2);(try clear hk);(try clear hi)
     refine hK.out _ _ ⟨zc b8.out 0,zc b8.out 1,zc b8.out 2,zc b8.out 3,zc b8.out 4,zc b8.out 5,zc b8.out 6,zc b8.out 7,zc b8.out 8,zc b8.out 9,zc b8.out 10,zc b8.out 11,zc b8.out 12,zc b8.out 13,zc b8.out 14,zc b8.out 15,HS16_,HS17_,HS18_,HS19_,HS20_⟩ (fun hHeld=>?_)
     clear hK K
     refine znm ?_
     refine zpm 5 9 ?_
     refine zbT (by kernel_rfl) ?_
     try go_wp2
     go_loopg [8,9,10] k (fun kq v8 v9 v10 w'=>∃ (x8_1:List (S28)) (x9_1:Int) (x10_1:Int),v9 = .int .i64 x9_1∧v10 = .int .i64 x10_1∧zaa (zaz.l0 kq l1 x8_1 x9_1 x10_1 i5 i6 i7 i8 i9 j2 j3 j4 j5 j6 e9 f5 f6 f7 e8 g9=some (r1,r2))∧zaa (kq≤k)∧zaa (Kd.R k28 28 w' w.heap.size (fun _=>True) v8 x8_1)∧zaa (w'.heap[e5]? = some (.cells #[.int .i64 i5,.int .i64 i6,.int .i64 i7,.int .i64 i8,.int .i64 i9,.int .i64 j2,.int .i64 j3,.int .i64 j4,.int .i64 j5,.int .i64 j6,.int .i64 e9,.int .i64 f5,.int .i64 f6,.int .i64 f7,(.slice m7 e8.length m8),.bool g9] 26 (0,0)))∧zaa (Below w.heap.size w w'))
     case atStart=>exact ⟨(y158),(t8),(1),zF,zF,H',⟨Nat.le_refl _⟩,⟨by (with_reducible repeat (first|apply Kd.R_alloc|apply Kd.R_drewN|apply Kd.R_drew));exact y5.out⟩,⟨by refine zB ?_;exact b8.out⟩,⟨by repeat (first|(with_reducible first|exact HB.out|apply zan|apply zaj|apply zai|refine zao ?_ i4.out)|exact HB.out)⟩⟩
     case round=>
      clear H'
      try clear c1
      try clear p1
      try clear q1
      try clear hx1
      try clear qi1
      try clear c2
      try clear p2
      try clear c3
      try clear c4
      try clear c4b0
      try clear c4b1
      try clear c5
      try clear c6
      try clear c6b0
      try clear c6b1
      try clear c7
      try clear c7b0
      try clear c7b1
      try clear c9
      try clear c9b0
      try clear c9b1
      try clear c14
      try clear p15
      try clear q15
      try clear hx15
      try clear qi15
      try clear p16
      try clear q16
      try clear hx16
      try clear qi16
      try clear F7 F8 E8 E9 F0 F1 F2 F3 F9 G4 G5 G6 G7 G8 G9 D5 D6 D7 C9 D0 D1 D2 D3 D4 D8 D9 E0 E1 E2 E3 E4 E5
      try clear o6
      try clear o7
      try clear o8
      try clear o9
      try clear p7
      try clear u4
      try clear u5
      try clear u6
      try clear u7
      try clear u9
      try clear p152
      try clear p161
      try clear q152
      try clear q161
      obtain ⟨x8_1,x9_1,x10_1,rfl,rfl,HA,F5,HO_8,b8,HB⟩:=hrel
      cases gk with
      | zero=>exact absurd HA.out (by simp [zaz.l0])
      | succ k1=>
       have H:=HA.out
       clear HA
       simp only [zaz.l0] at H
       by_cases c22:x10_1<(l1.length:Int)
       ·rw [if_pos c22] at H
        have c22b0:decide (x10_1<(l1.length:Int))=true:=decide_eq_true c22
        clear c22
        obtain ⟨b9,hji23⟩ : ∃ j_:Int,(wrap64 (x10_1 - 1))=j_:=⟨_,rfl⟩
        replace H:(if 0≤(b9) then (if (b9)<(l1.length:Int) then (if 0≤x10_1 then ((zcu.f k1 ((zab l1 (b9)).f0) ((zab l1 (b9)).f1) ((zab l1 (b9)).f2) ((zab l1 (b9)).f3) ((zab l1 (b9)).f4) ((zab l1 x10_1).f0) ((zab l1 x10_1).f1) ((zab l1 x10_1).f2) ((zab l1 x10_1).f3) ((zab l1 x10_1).f4)).bind fun o3=>((za3.f k1 ((zab l1 (b9)).f0) ((zab l1 (b9)).f1) ((zab l1 (b9)).f2) ((zab l1 (b9)).f3) ((zab l1 (b9)).f4) ((zab l1 x10_1).f0) ((zab l1 x10_1).f1) ((zab l1 x10_1).f2) ((zab l1 x10_1).f3) ((zab l1 x10_1).f4)).bind fun o4=>(zaz.l1 k1 l1 x8_1 x9_1 x10_1 o3 o4 0 i5 i6 i7 i8 i9 j2 j3 j4 j5 j6 e9 f5 f6 f7 e8 g9 ((zab l1 (b9)).f0) ((zab l1 (b9)).f1) ((zab l1 (b9)).f2) ((zab l1 (b9)).f3) ((zab l1 (b9)).f4) ((zab l1 x10_1).f0) ((zab l1 x10_1).f1) ((zab l1 x10_1).f2) ((zab l1 x10_1).f3) ((zab l1 x10_1).f4)))) else (none)) else (none)) else (none))=some (r1,r2):=by first|(rw [hji23] at H;exact H)|(simp only [hji23] at H ⊢;exact H)
        have hji23w:(IntKind.i64.wrap (x10_1 - 1))=b9:=(zbY _).trans hji23
        by_cases c24:0≤(b9)
        ·rw [if_pos c24] at H
         have c24b0:decide (0≤(b9))=true:=decide_eq_true c24
         clear c24
         by_cases c25:(b9)<(l1.length:Int)
         ·rw [if_pos c25] at H
          have c25b0:decide ((b9)<(l1.length:Int))=true:=decide_eq_true c25
          clear c25
          by_cases c26:0≤x10_1
          ·rw [if_pos c26] at H
           have c26b0:decide (0≤x10_1)=true:=decide_eq_true c26
           clear c26
           replace H:=Option.bind_eq_some_iff.mp H
           obtain ⟨o3,A270,H⟩:=H
           replace H:((za3.f k1 ((zab l1 (b9)).f0) ((zab l1 (b9)).f1) ((zab l1 (b9)).f2) ((zab l1 (b9)).f3) ((zab l1 (b9)).f4) ((zab l1 x10_1).f0) ((zab l1 x10_1).f1) ((zab l1 x10_1).f2) ((zab l1 x10_1).f3) ((zab l1 x10_1).f4)).bind fun o4=>(zaz.l1 k1 l1 x8_1 x9_1 x10_1 o3 o4 0 i5 i6 i7 i8 i9 j2 j3 j4 j5 j6 e9 f5 f6 f7 e8 g9 ((zab l1 (b9)).f0) ((zab l1 (b9)).f1) ((zab l1 (b9)).f2) ((zab l1 (b9)).f3) ((zab l1 (b9)).f4) ((zab l1 x10_1).f0) ((zab l1 x10_1).f1) ((zab l1 x10_1).f2) ((zab l1 x10_1).f3) ((zab l1 x10_1).f4)))=some (r1,r2):=H
           have A27:=zaa.mk A270
           clear A270
           replace H:=Option.bind_eq_some_iff.mp H
           obtain ⟨o4,A280,H⟩:=H
           replace H:(zaz.l1 k1 l1 x8_1 x9_1 x10_1 o3 o4 0 i5 i6 i7 i8 i9 j2 j3 j4 j5 j6 e9 f5 f6 f7 e8 g9 ((zab l1 (b9)).f0) ((zab l1 (b9)).f1) ((zab l1 (b9)).f2) ((zab l1 (b9)).f3) ((zab l1 (b9)).f4) ((zab l1 x10_1).f0) ((zab l1 x10_1).f1) ((zab l1 x10_1).f2) ((zab l1 x10_1).f3) ((zab l1 x10_1).f4))=some (r1,r2):=H
           have A28:=zaa.mk A280
           clear A280
           have H':=zaa.mk H
           clear H
           try go_wp2
           replace HO_8:=zaa.mk (Kd.R_drew HO_8.out)
           replace b8:=zaa.mk (zaM b8.out)
           replace HB:=zaa.mk (zai HB.out)
           have p163:0≤((b9):Int):=of_decide_eq_true (by first|(with_reducible assumption)|assumption)
           have q163:(b9)<(l1.length:Int):=of_decide_eq_true (by first|(with_reducible assumption)|assumption)
           obtain ⟨H0,e163,y7,y8,y9,z1,z2⟩:=at_T57 HR1.out (b9) p163 q163
           have k7:=z2
           have k8:=z1
           have k9:=y9
           have l3:=y8
           have l4:=y7
           obtain rfl:i3=H0:=(by injection e163)
           replace y7:=(HB.out.cell (World.block_lt_of_cell? w _ y7)).trans y7
           replace y8:=(HB.out.cell (World.block_lt_of_cell? w _ y8)).trans y8
           replace y9:=(HB.out.cell (World.block_lt_of_cell? w _ y9)).trans y9
           replace z1:=(HB.out.cell (World.block_lt_of_cell? w _ z1)).trans z1
           replace z2:=(HB.out.cell (World.block_lt_of_cell? w _ z2)).trans z2
           replace p163:=eq_true p163
           replace q163:=eq_true q163
           have p164:0≤(x10_1:Int):=of_decide_eq_true (by first|(with_reducible assumption)|assumption)
           have q164:x10_1<(l1.length:Int):=of_decide_eq_true (by first|(with_reducible assumption)|assumption)
           obtain ⟨H2,e164,z3,z4,z5,z6,z7⟩:=at_T57 HR1.out x10_1 p164 q164
           have l5:=z7
           have l6:=z6
           have l7:=z5
           have l8:=z4
           have l9:=z3
           obtain rfl:i3=H2:=(by injection e164)
           replace z3:=(HB.out.cell (World.block_lt_of_cell? w _ z3)).trans z3
           replace z4:=(HB.out.cell (World.block_lt_of_cell? w _ z4)).trans z4
           replace z5:=(HB.out.cell (World.block_lt_of_cell? w _ z5)).trans z5
           replace z6:=(HB.out.cell (World.block_lt_of_cell? w _ z6)).trans z6
           replace z7:=(HB.out.cell (World.block_lt_of_cell? w _ z7)).trans z7
           replace p164:=eq_true p164
           replace q164:=eq_true q164
           refine zbA (n:=13) (S:=fun w'=>w'.cell? (i3.add (((b9)).toNat*5))=some (.int .i64 ((zab l1 (b9)).f0))∧w'.cell? ⟨(i3.add (((b9)).toNat*5)).block,(i3.add (((b9)).toNat*5)).off+1,none⟩=some (.int .i64 ((zab l1 (b9)).f1))∧w'.cell? ⟨(i3.add (((b9)).toNat*5)).block,(i3.add (((b9)).toNat*5)).off+2,none⟩=some (.int .i64 ((zab l1 (b9)).f2))∧w'.cell? ⟨(i3.add (((b9)).toNat*5)).block,(i3.add (((b9)).toNat*5)).off+3,none⟩=some (.int .i64 ((zab l1 (b9)).f3))∧w'.cell? ⟨(i3.add (((b9)).toNat*5)).block,(i3.add (((b9)).toNat*5)).off+4,none⟩=some (.int .i64 ((zab l1 (b9)).f4))∧w'.cell? (i3.add ((x10_1).toNat*5))=some (.int .i64 ((zab l1 x10_1).f0))∧w'.cell? ⟨(i3.add ((x10_1).toNat*5)).block,(i3.add ((x10_1).toNat*5)).off+1,none⟩=some (.int .i64 ((zab l1 x10_1).f1))∧w'.cell? ⟨(i3.add ((x10_1).toNat*5)).block,(i3.add ((x10_1).toNat*5)).off+2,none⟩=some (.int .i64 ((zab l1 x10_1).f2))∧w'.cell? ⟨(i3.add ((x10_1).toNat*5)).block,(i3.add ((x10_1).toNat*5)).off+3,none⟩=some (.int .i64 ((zab l1 x10_1).f3))∧w'.cell? ⟨(i3.add ((x10_1).toNat*5)).block,(i3.add ((x10_1).toNat*5)).off+4,none⟩=some (.int .i64 ((zab l1 x10_1).f4))) (ds:=[]) #[false,false,false,false,false,false,false,false,false,false,false,false,false] (by kernel_rfl) rfl rfl ⟨((HB.out.cell (World.block_lt_of_cell? w _ l4)).trans l4),((HB.out.cell (World.block_lt_of_cell? w _ l3)).trans l3),((HB.out.cell (World.block_lt_of_cell? w _ k9)).trans k9),((HB.out.cell (World.block_lt_of_cell? w _ k8)).trans k8),((HB.out.cell (World.block_lt_of_cell? w _ k7)).trans k7),((HB.out.cell (World.block_lt_of_cell? w _ l9)).trans l9),((HB.out.cell (World.block_lt_of_cell? w _ l8)).trans l8),((HB.out.cell (World.block_lt_of_cell? w _ l7)).trans l7),((HB.out.cell (World.block_lt_of_cell? w _ l6)).trans l6),((HB.out.cell (World.block_lt_of_cell? w _ l5)).trans l5)⟩ (fun hHeld=>?_);refine zbn zaz.tab12 zaz.bits12 (fun HT_ HW_=>?_)
           generalize wr.drew=w29 at HO_8 b8 HB y7 y8 y9 z1 z2 z3 z4 z5 z6 z7 hHeld ⊢
           refine zpu 0 44 HT_.out ?_
           refine zpu 1 45 HT_.out ?_
           refine zpu 2 46 HT_.out ?_
           refine zpu 3 47 HT_.out ?_
           refine zpu 5 49 HT_.out ?_
           refine zpu 6 50 HT_.out ?_
           refine zpu 7 51 HT_.out ?_
           refine ztl 4 48 HT_.out HW_.out hHeld ?_
           refine ztl 8 52 HT_.out HW_.out hHeld ?_
           refine join_ (σ:=Nat×Nat) 2 #[true,true,true,true,true,true,true,true,true,true,true,false,false] (fun s_=>[(11,.pointer (some ⟨s_.1,0,none⟩)),(12,.pointer (some ⟨s_.2,0,none⟩))]) (fun s_ w'=>(w'.cell? (i3.add (((b9)).toNat*5))=some (.int .i64 ((zab l1 (b9)).f0))∧w'.cell? ⟨(i3.add (((b9)).toNat*5)).block,(i3.add (((b9)).toNat*5)).off+1,none⟩=some (.int .i64 ((zab l1 (b9)).f1))∧w'.cell? ⟨(i3.add (((b9)).toNat*5)).block,(i3.add (((b9)).toNat*5)).off+2,none⟩=some (.int .i64 ((zab l1 (b9)).f2))∧w'.cell? ⟨(i3.add (((b9)).toNat*5)).block,(i3.add (((b9)).toNat*5)).off+3,none⟩=some (.int .i64 ((zab l1 (b9)).f3))∧w'.cell? ⟨(i3.add (((b9)).toNat*5)).block,(i3.add (((b9)).toNat*5)).off+4,none⟩=some (.int .i64 ((zab l1 (b9)).f4))∧w'.cell? (i3.add ((x10_1).toNat*5))=some (.int .i64 ((zab l1 x10_1).f0))∧w'.cell? ⟨(i3.add ((x10_1).toNat*5)).block,(i3.add ((x10_1).toNat*5)).off+1,none⟩=some (.int .i64 ((zab l1 x10_1).f1))∧w'.cell? ⟨(i3.add ((x10_1).toNat*5)).block,(i3.add ((x10_1).toNat*5)).off+2,none⟩=some (.int .i64 ((zab l1 x10_1).f2))∧w'.cell? ⟨(i3.add ((x10_1).toNat*5)).block,(i3.add ((x10_1).toNat*5)).off+3,none⟩=some (.int .i64 ((zab l1 x10_1).f3))∧w'.cell? ⟨(i3.add ((x10_1).toNat*5)).block,(i3.add ((x10_1).toNat*5)).off+4,none⟩=some (.int .i64 ((zab l1 x10_1).f4)))∧(Kd.R k28 28 w' w.heap.size (fun _=>True) u8 x8_1)∧(w'.heap[e5]? = some (.cells #[.int .i64 i5,.int .i64 i6,.int .i64 i7,.int .i64 i8,.int .i64 i9,.int .i64 j2,.int .i64 j3,.int .i64 j4,.int .i64 j5,.int .i64 j6,.int .i64 e9,.int .i64 f5,.int .i64 f6,.int .i64 f7,.slice m7 e8.length m8,.bool g9] 26 (0,0)))∧(w'.heap[s_.1]? = some (.cells #[.int .i64 0,.int .i64 0,.int .i64 0,.int .i64 0,.int .i64 0] 57 (0,0)))∧(w'.heap[s_.2]? = some (.cells #[.int .i64 0,.int .i64 0,.int .i64 0,.int .i64 0,.int .i64 0] 57 (0,0)))∧(w.heap.size≤s_.1)∧(w.heap.size≤s_.1)∧(e5≠s_.1)∧(s_.1≠e5)∧(s_.2≠s_.1)∧(s_.1≠s_.2)∧(w.heap.size≤s_.2)∧(w.heap.size≤s_.2)∧(e5≠s_.2)∧(s_.2≠e5)∧(Below w.heap.size w w')) ?_ ?_
           rotate_left
           ·intro hCont
            refine two_ (i:=9) (j:=10) (Ni:=some 11) (Nj:=some 12) #[true,true,true,true,true,true,true,true,true,true,false,false,false] #[true,true,true,true,true,true,true,true,true,false,true,false,false] rfl rfl rfl rfl (two_of HT_.out (by kernel_rfl)) (by decide) (by decide) (fun K hK=>?_) (fun K hK=>?_)
            ·skip
             refine zcb ?hg (N:=11) ?hd (cs:=#[.int .i64 0,.int .i64 0,.int .i64 0,.int .i64 0,.int .i64 0]) (t:=57) ?hr ?_;(case hd=>rfl);(case hg=>rfl);(case hr=>first|(go_simp;done)|(go_simp;rfl))
             intro d7 hg w30 hbox hb
             have n0_:=zaa.mk (Kd.R_below (by (with_reducible repeat (first|apply Kd.R_alloc|apply Kd.R_drewN|apply Kd.R_drew));exact HO_8.out) hb)
             have n1_:=zaa.mk (zac (zB b8.out) hb)
             have n2_:=zaa.mk (zae (zL1 HB.out i4.out) hb)
             have n3_:=zaa.mk (hbox)
             have n4_:=zaa.mk ((zS hg (zL1 HB.out i4.out):w.heap.size≤d7))
             have n5_:=zaa.mk ((zS hg (zL1 HB.out i4.out):w.heap.size≤d7))
             have n6_:=zaa.mk ((by rw [hg];exact Nat.ne_of_lt (zb6 (zB b8.out)):e5≠d7))
             have n7_:=zaa.mk ((by rw [hg];exact Nat.ne_of_gt (zb6 (zB b8.out)):d7≠e5))
             clear HO_8
             clear b8
             clear HB
             have HO_8:=n0_
             have b8:=n1_
             have HB:=n2_
             have d9:=n3_
             have j7:=n4_
             have j9:=n5_
             have m5:=n6_
             have n7:=n7_
             clear n0_ n1_ n2_ n3_ n4_ n5_ n6_ n7_
             clear hb hbox hg
             refine hK.out _ _ ⟨((HB.out.cell (World.block_lt_of_cell? w _ l4)).trans l4),((HB.out.cell (World.block_lt_of_cell? w _ l3)).trans l3),((HB.out.cell (World.block_lt_of_cell? w _ k9)).trans k9),((HB.out.cell (World.block_lt_of_cell? w _ k8)).trans k8),((HB.out.cell (World.block_lt_of_cell? w _ k7)).trans k7),((HB.out.cell (World.block_lt_of_cell? w _ l9)).trans l9),((HB.out.cell (World.block_lt_of_cell? w _ l8)).trans l8),((HB.out.cell (World.block_lt_of_cell? w _ l7)).trans l7),((HB.out.cell (World.block_lt_of_cell? w _ l6)).trans l6),((HB.out.cell (World.block_lt_of_cell? w _ l5)).trans l5)⟩ (fun hHeld=>?_)
             clear hK K
             refine znm ?_
             refine zon 10 (some 12) HT_.out (fun K hK=>?_)
             refine zcb ?hg (N:=12) ?hd (cs:=#[.int .i64 0,.int .i64 0,.int .i64 0,.int .i64 0,.int .i64 0]) (t:=57) ?hr ?_;(case hd=>rfl);(case hg=>rfl);(case hr=>first|(go_simp;done)|(go_simp;rfl))
             intro d8 hg w31 hbox hb
             have n0_:=zaa.mk (Kd.R_below (by (with_reducible repeat (first|apply Kd.R_alloc|apply Kd.R_drewN|apply Kd.R_drew));exact HO_8.out) hb)
             have n1_:=zaa.mk (zac (zB b8.out) hb)
             have n2_:=zaa.mk (zac (zB d9.out) hb)
             have n3_:=zaa.mk (zae (zL2 HB.out i4.out j9.out) hb)
             have n4_:=zaa.mk (hbox)
             have n5_:=zaa.mk ((zS hg (zL2 HB.out i4.out j9.out):w.heap.size≤d8))
             have n6_:=zaa.mk ((zS hg (zL2 HB.out i4.out j9.out):w.heap.size≤d8))
             have n7_:=zaa.mk ((by rw [hg];exact Nat.ne_of_lt (zb6 (zB b8.out)):e5≠d8))
             have n8_:=zaa.mk ((by rw [hg];exact Nat.ne_of_gt (zb6 (zB b8.out)):d8≠e5))
             have n9_:=zaa.mk ((by rw [hg];exact Nat.ne_of_lt (zb6 (zB d9.out)):d7≠d8))
             have n10_:=zaa.mk ((by rw [hg];exact Nat.ne_of_gt (zb6 (zB d9.out)):d8≠d7))
             clear HO_8
             clear b8
             clear d9
             clear HB
             have HO_8:=n0_
             have b8:=n1_
             have d9:=n2_
             have HB:=n3_
             have e0:=n4_
             have j8:=n5_
             have k3:=n6_
             have m6:=n7_
             have n8:=n8_
             have k5:=n9_
             have k6:=n10_
             clear n0_ n1_ n2_ n3_ n4_ n5_ n6_ n7_ n8_ n9_ n10_
             clear hb hbox hg
             refine hK.out _ _ ⟨((HB.out.cell (World.block_lt_of_cell? w _ l4)).trans l4),((HB.out.cell (World.block_lt_of_cell? w _ l3)).trans l3),((HB.out.cell (World.block_lt_of_cell? w _ k9)).trans k9),((HB.out.cell (World.block_lt_of_cell? w _ k8)).trans k8),((HB.out.cell (World.block_lt_of_cell? w _ k7)).trans k7),((HB.out.cell (World.block_lt_of_cell? w _ l9)).trans l9),((HB.out.cell (World.block_lt_of_cell? w _ l8)).trans l8),((HB.out.cell (World.block_lt_of_cell? w _ l7)).trans l7),((HB.out.cell (World.block_lt_of_cell? w _ l6)).trans l6),((HB.out.cell (World.block_lt_of_cell? w _ l5)).trans l5)⟩ (fun hHeld=>?_)
             clear hK K
             refine znm ?_
             exact norm_ (by simp only [zcg,Act.put,List.setIfInBounds_toArray,List.set_cons_zero,List.set_cons_succ]) (hCont (d7,d8) _ ⟨hHeld,(by (with_reducible repeat (first|apply Kd.R_alloc|apply Kd.R_drewN|apply Kd.R_drew));exact HO_8.out),(zB b8.out),(zB d9.out),(zB e0.out),j7.out,j9.out,m5.out,n7.out,k6.out,k5.out,j8.out,k3.out,m6.out,n8.out,(zL3 HB.out i4.out j9.out k3.out)⟩)
            ·skip
             refine zcb ?hg (N:=12) ?hd (cs:=#[.int .i64 0,.int .i64 0,.int .i64 0,.int .i64 0,.int .i64 0]) (t:=57) ?hr ?_;(case hd=>rfl);(case hg=>rfl);(case hr=>first|(go_simp;done)|(go_simp;rfl))
             intro d8 hg w30 hbox hb
             have n0_:=zaa.mk (Kd.R_below (by (with_reducible repeat (first|apply Kd.R_alloc|apply Kd.R_drewN|apply Kd.R_drew));exact HO_8.out) hb)
             have n1_:=zaa.mk (zac (zB b8.out) hb)
             have n2_:=zaa.mk (zae (zL1 HB.out i4.out) hb)
             have n3_:=zaa.mk (hbox)
             have n4_:=zaa.mk ((zS hg (zL1 HB.out i4.out):w.heap.size≤d8))
             have n5_:=zaa.mk ((zS hg (zL1 HB.out i4.out):w.heap.size≤d8))
             have n6_:=zaa.mk ((by rw [hg];exact Nat.ne_of_lt (zb6 (zB b8.out)):e5≠d8))
             have n7_:=zaa.mk ((by rw [hg];exact Nat.ne_of_gt (zb6 (zB b8.out)):d8≠e5))
             clear HO_8
             clear b8
             clear HB
             have HO_8:=n0_
             have b8:=n1_
             have HB:=n2_
             have e0:=n3_
             have j8:=n4_
             have k3:=n5_
             have m6:=n6_
             have n8:=n7_
             clear n0_ n1_ n2_ n3_ n4_ n5_ n6_ n7_
             clear hb hbox hg
             refine hK.out _ _ ⟨((HB.out.cell (World.block_lt_of_cell? w _ l4)).trans l4),((HB.out.cell (World.block_lt_of_cell? w _ l3)).trans l3),((HB.out.cell (World.block_lt_of_cell? w _ k9)).trans k9),((HB.out.cell (World.block_lt_of_cell? w _ k8)).trans k8),((HB.out.cell (World.block_lt_of_cell? w _ k7)).trans k7),((HB.out.cell (World.block_lt_of_cell? w _ l9)).trans l9),((HB.out.cell (World.block_lt_of_cell? w _ l8)).trans l8),((HB.out.cell (World.block_lt_of_cell? w _ l7)).trans l7),((HB.out.cell (World.block_lt_of_cell? w _ l6)).trans l6),((HB.out.cell (World.block_lt_of_cell? w _ l5)).trans l5)⟩ (fun hHeld=>?_)
             clear hK K
             refine znm ?_
             refine zon 9 (some 11) HT_.out (fun K hK=>?_)
             refine zcb ?hg (N:=11) ?hd (cs:=#[.int .i64 0,.int .i64 0,.int .i64 0,.int .i64 0,.int .i64 0]) (t:=57) ?hr ?_;(case hd=>rfl);(case hg=>rfl);(case hr=>first|(go_simp;done)|(go_simp;rfl))
             intro d7 hg w31 hbox hb
             have n0_:=zaa.mk (Kd.R_below (by (with_reducible repeat (first|apply Kd.R_alloc|apply Kd.R_drewN|apply Kd.R_drew));exact HO_8.out) hb)
             have n1_:=zaa.mk (zac (zB b8.out) hb)
             have n2_:=zaa.mk (zac (zB e0.out) hb)
             have n3_:=zaa.mk (zae (zL2 HB.out i4.out k3.out) hb)
             have n4_:=zaa.mk (hbox)
             have n5_:=zaa.mk ((zS hg (zL2 HB.out i4.out k3.out):w.heap.size≤d7))
             have n6_:=zaa.mk ((zS hg (zL2 HB.out i4.out k3.out):w.heap.size≤d7))
             have n7_:=zaa.mk ((by rw [hg];exact Nat.ne_of_lt (zb6 (zB b8.out)):e5≠d7))
             have n8_:=zaa.mk ((by rw [hg];exact Nat.ne_of_gt (zb6 (zB b8.out)):d7≠e5))
             have n9_:=zaa.mk ((by rw [hg];exact Nat.ne_of_lt (zb6 (zB e0.out)):d8≠d7))
             have n10_:=zaa.mk ((by rw [hg];exact Nat.ne_of_gt (zb6 (zB e0.out)):d7≠d8))
             clear HO_8
             clear b8
             clear e0
             clear HB
             have HO_8:=n0_
             have b8:=n1_
             have e0:=n2_
             have HB:=n3_
             have d9:=n4_
             have j7:=n5_
             have j9:=n6_
             have m5:=n7_
             have n7:=n8_
             have k6:=n9_
             have k5:=n10_
             clear n0_ n1_ n2_ n3_ n4_ n5_ n6_ n7_ n8_ n9_ n10_
             clear hb hbox hg
             refine hK.out _ _ ⟨((HB.out.cell (World.block_lt_of_cell? w _ l4)).trans l4),((HB.out.cell (World.block_lt_of_cell? w _ l3)).trans l3),((HB.out.cell (World.block_lt_of_cell? w _ k9)).trans k9),((HB.out.cell (World.block_lt_of_cell? w _ k8)).trans k8),((HB.out.cell (World.block_lt_of_cell? w _ k7)).trans k7),((HB.out.cell (World.block_lt_of_cell? w _ l9)).trans l9),((HB.out.cell (World.block_lt_of_cell? w _ l8)).trans l8),((HB.out.cell (World.block_lt_of_cell? w _ l7)).trans l7),((HB.out.cell (World.block_lt_of_cell? w _ l6)).trans l6),((HB.out.cell (World.block_lt_of_cell? w _ l5)).trans l5)⟩ (fun hHeld=>?_)
             clear hK K
             refine znm ?_
             exact norm_ (by simp only [zcg,Act.put,List.setIfInBounds_toArray,List.set_cons_zero,List.set_cons_succ]) (hCont (d7,d8) _ ⟨hHeld,(by (with_reducible repeat (first|apply Kd.R_alloc|apply Kd.R_drewN|apply Kd.R_drew));exact HO_8.out),(zB b8.out),(zB d9.out),(zB e0.out),j7.out,j9.out,m5.out,n7.out,k6.out,k5.out,j8.out,k3.out,m6.out,n8.out,(zL3 HB.out i4.out k3.out j9.out)⟩)
           rintro ⟨d7,d8⟩ w32 ⟨hS_,h0_,h1_,h2_,h3_,h4_,h5_,h6_,h7_,h8_,h9_,h10_,h11_,h12_,h13_,h14_⟩
           have n0_:zaa (Kd.R k28 28 w32 w.heap.size (fun _=>True) u8 x8_1):=⟨h0_⟩
           have n1_:zaa (w32.heap[e5]? = some (.cells #[.int .i64 i5,.int .i64 i6,.int .i64 i7,.int .i64 i8,.int .i64 i9,.int .i64 j2,.int .i64 j3,.int .i64 j4,.int .i64 j5,.int .i64 j6,.int .i64 e9,.int .i64 f5,.int .i64 f6,.int .i64 f7,.slice m7 e8.length m8,.bool g9] 26 (0,0))):=⟨h1_⟩
           have n2_:zaa (w32.heap[d7]? = some (.cells #[.int .i64 0,.int .i64 0,.int .i64 0,.int .i64 0,.int .i64 0] 57 (0,0))):=⟨h2_⟩
           have n3_:zaa (w32.heap[d8]? = some (.cells #[.int .i64 0,.int .i64 0,.int .i64 0,.int .i64 0,.int .i64 0] 57 (0,0))):=⟨h3_⟩
           have n4_:zaa (w.heap.size≤d7):=⟨h4_⟩
           have n5_:zaa (w.heap.size≤d7):=⟨h5_⟩
           have n6_:zaa (e5≠d7):=⟨h6_⟩
           have n7_:zaa (d7≠e5):=⟨h7_⟩
           have n8_:zaa (d8≠d7):=⟨h8_⟩
           have n9_:zaa (d7≠d8):=⟨h9_⟩
           have n10_:zaa (w.heap.size≤d8):=⟨h10_⟩
           have n11_:zaa (w.heap.size≤d8):=⟨h11_⟩
           have n12_:zaa (e5≠d8):=⟨h12_⟩
           have n13_:zaa (d8≠e5):=⟨h13_⟩
           have n14_:zaa (Below w.heap.size w w32):=⟨h14_⟩
           clear HO_8
           clear b8
           clear HB
           clear h0_ h1_ h2_ h3_ h4_ h5_ h6_ h7_ h8_ h9_ h10_ h11_ h12_ h13_ h14_
           have HO_8:=n0_
           have b8:=n1_
           have d9:=n2_
           have e0:=n3_
           have j7:=n4_
           have j9:=n5_
           have m5:=n6_
           have n7:=n7_
           have k6:=n8_
           have k5:=n9_
           have j8:=n10_
           have k3:=n11_
           have m6:=n12_
           have n8:=n13_
           have HB:=n14_
           clear n0_ n1_ n2_ n3_ n4_ n5_ n6_ n7_ n8_ n9_ n10_ n11_ n12_ n13_ n14_
           have hHeld:w32.cell? (i3.add (((b9)).toNat*5))=some (.int .i64 ((zab l1 (b9)).f0))∧w32.cell? ⟨(i3.add (((b9)).toNat*5)).block,(i3.add (((b9)).toNat*5)).off+1,none⟩=some (.int .i64 ((zab l1 (b9)).f1))∧w32.cell? ⟨(i3.add (((b9)).toNat*5)).block,(i3.add (((b9)).toNat*5)).off+2,none⟩=some (.int .i64 ((zab l1 (b9)).f2))∧w32.cell? ⟨(i3.add (((b9)).toNat*5)).block,(i3.add (((b9)).toNat*5)).off+3,none⟩=some (.int .i64 ((zab l1 (b9)).f3))∧w32.cell? ⟨(i3.add (((b9)).toNat*5)).block,(i3.add (((b9)).toNat*5)).off+4,none⟩=some (.int .i64 ((zab l1 (b9)).f4))∧w32.cell? (i3.add ((x10_1).toNat*5))=some (.int .i64 ((zab l1 x10_1).f0))∧w32.cell? ⟨(i3.add ((x10_1).toNat*5)).block,(i3.add ((x10_1).toNat*5)).off+1,none⟩=some (.int .i64 ((zab l1 x10_1).f1))∧w32.cell? ⟨(i3.add ((x10_1).toNat*5)).block,(i3.add ((x10_1).toNat*5)).off+2,none⟩=some (.int .i64 ((zab l1 x10_1).f2))∧w32.cell? ⟨(i3.add ((x10_1).toNat*5)).block,(i3.add ((x10_1).toNat*5)).off+3,none⟩=some (.int .i64 ((zab l1 x10_1).f3))∧w32.cell? ⟨(i3.add ((x10_1).toNat*5)).block,(i3.add ((x10_1).toNat*5)).off+4,none⟩=some (.int .i64 ((zab l1 x10_1).f4)):=hS_
           refine norm_ (a':=?_) ?_ ?_
           rotate_left
           ·simp only [zcg,Act.put,List.setIfInBounds_toArray,List.set_cons_zero,List.set_cons_succ]
            rfl
           refine zon 11 none HT_.out (fun K hK=>?_)
           have hs33:w32.cell? ⟨d7,0,none⟩=some (.int .i64 0):=zc d9.out 0
           have hfs33:=zaB d9.out 0
           have hns33_0:=m5.out
           have hns33_2:=k6.out
           have hms33_0:=n7.out
           have hms33_2:=k5.out
           have hs34:w32.cell? ⟨d7,1,none⟩=some (.int .i64 0):=zc d9.out 1
           have hfs34:=zaB d9.out 1
           have hns34_0:=m5.out
           have hns34_2:=k6.out
           have hms34_0:=n7.out
           have hms34_2:=k5.out
           have hs35:w32.cell? ⟨d7,2,none⟩=some (.int .i64 0):=zc d9.out 2
           have hfs35:=zaB d9.out 2
           have hns35_0:=m5.out
           have hns35_2:=k6.out
           have hms35_0:=n7.out
           have hms35_2:=k5.out
           have hs36:w32.cell? ⟨d7,3,none⟩=some (.int .i64 0):=zc d9.out 3
           have hfs36:=zaB d9.out 3
           have hns36_0:=m5.out
           have hns36_2:=k6.out
           have hms36_0:=n7.out
           have hms36_2:=k5.out
           have hs37:w32.cell? ⟨d7,4,none⟩=some (.int .i64 0):=zc d9.out 4
           have hfs37:=zaB d9.out 4
           have hns37_0:=m5.out
           have hns37_2:=k6.out
           have hms37_0:=n7.out
           have hms37_2:=k5.out
           refine skip_ (w1:=?_) (by rfl) rfl ?_ ?_
           rotate_left
           ·go_simp
            rfl
           refine hK.out _ _ ⟨((zaX (p:=⟨d7,_,none⟩) (zfar l4 j7.out) _).trans (((zaX (p:=⟨d7,_,none⟩) (zfar l4 j7.out) _).trans (((zaX (p:=⟨d7,_,none⟩) (zfar l4 j7.out) _).trans (((zaX (p:=⟨d7,_,none⟩) (zfar l4 j7.out) _).trans (((zaX (p:=⟨d7,_,none⟩) (zfar l4 j7.out) _).trans (hHeld.1)))))))))),((zaX (p:=⟨d7,_,none⟩) (zfar l3 j7.out) _).trans (((zaX (p:=⟨d7,_,none⟩) (zfar l3 j7.out) _).trans (((zaX (p:=⟨d7,_,none⟩) (zfar l3 j7.out) _).trans (((zaX (p:=⟨d7,_,none⟩) (zfar l3 j7.out) _).trans (((zaX (p:=⟨d7,_,none⟩) (zfar l3 j7.out) _).trans (hHeld.2.1)))))))))),((zaX (p:=⟨d7,_,none⟩) (zfar k9 j7.out) _).trans (((zaX (p:=⟨d7,_,none⟩) (zfar k9 j7.out) _).trans (((zaX (p:=⟨d7,_,none⟩) (zfar k9 j7.out) _).trans (((zaX (p:=⟨d7,_,none⟩) (zfar k9 j7.out) _).trans (((zaX (p:=⟨d7,_,none⟩) (zfar k9 j7.out) _).trans (hHeld.2.2.1)))))))))),((zaX (p:=⟨d7,_,none⟩) (zfar k8 j7.out) _).trans (((zaX (p:=⟨d7,_,none⟩) (zfar k8 j7.out) _).trans (((zaX (p:=⟨d7,_,none⟩) (zfar k8 j7.out) _).trans (((zaX (p:=⟨d7,_,none⟩) (zfar k8 j7.out) _).trans (((zaX (p:=⟨d7,_,none⟩) (zfar k8 j7.out) _).trans (hHeld.2.2.2.1)))))))))),((zaX (p:=⟨d7,_,none⟩) (zfar k7 j7.out) _).trans (((zaX (p:=⟨d7,_,none⟩) (zfar k7 j7.out) _).trans (((zaX (p:=⟨d7,_,none⟩) (zfar k7 j7.out) _).trans (((zaX (p:=⟨d7,_,none⟩) (zfar k7 j7.out) _).trans (((zaX (p:=⟨d7,_,none⟩) (zfar k7 j7.out) _).trans (hHeld.2.2.2.2.1)))))))))),((zaX (p:=⟨d7,_,none⟩) (zfar l9 j7.out) _).trans (((zaX (p:=⟨d7,_,none⟩) (zfar l9 j7.out) _).trans (((zaX (p:=⟨d7,_,none⟩) (zfar l9 j7.out) _).trans (((zaX (p:=⟨d7,_,none⟩) (zfar l9 j7.out) _).trans (((zaX (p:=⟨d7,_,none⟩) (zfar l9 j7.out) _).trans (hHeld.2.2.2.2.2.1)))))))))),((zaX (p:=⟨d7,_,none⟩) (zfar l8 j7.out) _).trans (((zaX (p:=⟨d7,_,none⟩) (zfar l8 j7.out) _).trans (((zaX (p:=⟨d7,_,none⟩) (zfar l8 j7.out) _).trans (((zaX (p:=⟨d7,_,none⟩) (zfar l8 j7.out) _).trans (((zaX (p:=⟨d7,_,none⟩) (zfar l8 j7.out) _).trans (hHeld.2.2.2.2.2.2.1)))))))))),((zaX (p:=⟨d7,_,none⟩) (zfar l7 j7.out) _).trans (((zaX (p:=⟨d7,_,none⟩) (zfar l7 j7.out) _).trans (((zaX (p:=⟨d7,_,none⟩) (zfar l7 j7.out) _).trans (((zaX (p:=⟨d7,_,none⟩) (zfar l7 j7.out) _).trans (((zaX (p:=⟨d7,_,none⟩) (zfar l7 j7.out) _).trans (hHeld.2.2.2.2.2.2.2.1)))))))))),((zaX (p:=⟨d7,_,none⟩) (zfar l6 j7.out) _).trans (((zaX (p:=⟨d7,_,none⟩) (zfar l6 j7.out) _).trans (((zaX (p:=⟨d7,_,none⟩) (zfar l6 j7.out) _).trans (((zaX (p:=⟨d7,_,none⟩) (zfar l6 j7.out) _).trans (((zaX (p:=⟨d7,_,none⟩) (zfar l6 j7.out) _).trans (hHeld.2.2.2.2.2.2.2.2.1)))))))))),((zaX (p:=⟨d7,_,none⟩) (zfar l5 j7.out) _).trans (((zaX (p:=⟨d7,_,none⟩) (zfar l5 j7.out) _).trans (((zaX (p:=⟨d7,_,none⟩) (zfar l5 j7.out) _).trans (((zaX (p:=⟨d7,_,none⟩) (zfar l5 j7.out) _).trans (((zaX (p:=⟨d7,_,none⟩) (zfar l5 j7.out) _).trans (hHeld.2.2.2.2.2.2.2.2.2))))))))))⟩ (fun hHeld=>?_)
           clear hK K
           refine zon 12 none HT_.out (fun K hK=>?_)
           have hs38:w32.cell? ⟨d8,0,none⟩=some (.int .i64 0):=zc e0.out 0
           have hfs38:=zaB e0.out 0
           have hns38_0:=m6.out
           have hns38_1:=k5.out
           have hms38_0:=n8.out
           have hms38_1:=k6.out
           have hs39:w32.cell? ⟨d8,1,none⟩=some (.int .i64 0):=zc e0.out 1
           have hfs39:=zaB e0.out 1
           have hns39_0:=m6.out
           have hns39_1:=k5.out
           have hms39_0:=n8.out
           have hms39_1:=k6.out
           have hs40:w32.cell? ⟨d8,2,none⟩=some (.int .i64 0):=zc e0.out 2
           have hfs40:=zaB e0.out 2
           have hns40_0:=m6.out
           have hns40_1:=k5.out
           have hms40_0:=n8.out
           have hms40_1:=k6.out
           have hs41:w32.cell? ⟨d8,3,none⟩=some (.int .i64 0):=zc e0.out 3
           have hfs41:=zaB e0.out 3
           have hns41_0:=m6.out
           have hns41_1:=k5.out
           have hms41_0:=n8.out
           have hms41_1:=k6.out
           have hs42:w32.cell? ⟨d8,4,none⟩=some (.int .i64 0):=zc e0.out 4
           have hfs42:=zaB e0.out 4
           have hns42_0:=m6.out
           have hns42_1:=k5.out
           have hms42_0:=n8.out
           have hms42_1:=k6.out
           refine skip_ (w1:=?_) (by rfl) rfl ?_ ?_
           rotate_left
           ·go_simp
            rfl
           refine hK.out _ _ ⟨((zaX (p:=⟨d8,_,none⟩) (zfar l4 j8.out) _).trans (((zaX (p:=⟨d8,_,none⟩) (zfar l4 j8.out) _).trans (((zaX (p:=⟨d8,_,none⟩) (zfar l4 j8.out) _).trans (((zaX (p:=⟨d8,_,none⟩) (zfar l4 j8.out) _).trans (((zaX (p:=⟨d8,_,none⟩) (zfar l4 j8.out) _).trans (hHeld.1)))))))))),((zaX (p:=⟨d8,_,none⟩) (zfar l3 j8.out) _).trans (((zaX (p:=⟨d8,_,none⟩) (zfar l3 j8.out) _).trans (((zaX (p:=⟨d8,_,none⟩) (zfar l3 j8.out) _).trans (((zaX (p:=⟨d8,_,none⟩) (zfar l3 j8.out) _).trans (((zaX (p:=⟨d8,_,none⟩) (zfar l3 j8.out) _).trans (hHeld.2.1)))))))))),((zaX (p:=⟨d8,_,none⟩) (zfar k9 j8.out) _).trans (((zaX (p:=⟨d8,_,none⟩) (zfar k9 j8.out) _).trans (((zaX (p:=⟨d8,_,none⟩) (zfar k9 j8.out) _).trans (((zaX (p:=⟨d8,_,none⟩) (zfar k9 j8.out) _).trans (((zaX (p:=⟨d8,_,none⟩) (zfar k9 j8.out) _).trans (hHeld.2.2.1)))))))))),((zaX (p:=⟨d8,_,none⟩) (zfar k8 j8.out) _).trans (((zaX (p:=⟨d8,_,none⟩) (zfar k8 j8.out) _).trans (((zaX (p:=⟨d8,_,none⟩) (zfar k8 j8.out) _).trans (((zaX (p:=⟨d8,_,none⟩) (zfar k8 j8.out) _).trans (((zaX (p:=⟨d8,_,none⟩) (zfar k8 j8.out) _).trans (hHeld.2.2.2.1)))))))))),((zaX (p:=⟨d8,_,none⟩) (zfar k7 j8.out) _).trans (((zaX (p:=⟨d8,_,none⟩) (zfar k7 j8.out) _).trans (((zaX (p:=⟨d8,_,none⟩) (zfar k7 j8.out) _).trans (((zaX (p:=⟨d8,_,none⟩) (zfar k7 j8.out) _).trans (((zaX (p:=⟨d8,_,none⟩) (zfar k7 j8.out) _).trans (hHeld.2.2.2.2.1)))))))))),((zaX (p:=⟨d8,_,none⟩) (zfar l9 j8.out) _).trans (((zaX (p:=⟨d8,_,none⟩) (zfar l9 j8.out) _).trans (((zaX (p:=⟨d8,_,none⟩) (zfar l9 j8.out) _).trans (((zaX (p:=⟨d8,_,none⟩) (zfar l9 j8.out) _).trans (((zaX (p:=⟨d8,_,none⟩) (zfar l9 j8.out) _).trans (hHeld.2.2.2.2.2.1)))))))))),((zaX (p:=⟨d8,_,none⟩) (zfar l8 j8.out) _).trans (((zaX (p:=⟨d8,_,none⟩) (zfar l8 j8.out) _).trans (((zaX (p:=⟨d8,_,none⟩) (zfar l8 j8.out) _).trans (((zaX (p:=⟨d8,_,none⟩) (zfar l8 j8.out) _).trans (((zaX (p:=⟨d8,_,none⟩) (zfar l8 j8.out) _).trans (hHeld.2.2.2.2.2.2.1)))))))))),((zaX (p:=⟨d8,_,none⟩) (zfar l7 j8.out) _).trans (((zaX (p:=⟨d8,_,none⟩) (zfar l7 j8.out) _).trans (((zaX (p:=⟨d8,_,none⟩) (zfar l7 j8.out) _).trans (((zaX (p:=⟨d8,_,none⟩) (zfar l7 j8.out) _).trans (((zaX (p:=⟨d8,_,none⟩) (zfar l7 j8.out) _).trans (hHeld.2.2.2.2.2.2.2.1)))))))))),((zaX (p:=⟨d8,_,none⟩) (zfar l6 j8.out) _).trans (((zaX (p:=⟨d8,_,none⟩) (zfar l6 j8.out) _).trans (((zaX (p:=⟨d8,_,none⟩) (zfar l6 j8.out) _).trans (((zaX (p:=⟨d8,_,none⟩) (zfar l6 j8.out) _).trans (((zaX (p:=⟨d8,_,none⟩) (zfar l6 j8.out) _).trans (hHeld.2.2.2.2.2.2.2.2.1)))))))))),((zaX (p:=⟨d8,_,none⟩) (zfar l5 j8.out) _).trans (((zaX (p:=⟨d8,_,none⟩) (zfar l5 j8.out) _).trans (((zaX (p:=⟨d8,_,none⟩) (zfar l5 j8.out) _).trans (((zaX (p:=⟨d8,_,none⟩) (zfar l5 j8.out) _).trans (((zaX (p:=⟨d8,_,none⟩) (zfar l5 j8.out) _).trans (hHeld.2.2.2.2.2.2.2.2.2))))))))))⟩ (fun hHeld=>?_)
           clear hK K
           refine zbT (zbB HT_.out (by kernel_rfl)) ?_
           try go_wp2
           have n0_:zaa (Kd.R k28 28 ((((((((((w32.setCell ⟨d7,0,none⟩ (.int .i64 ((zab l1 (b9)).f0))).setCell ⟨d7,1,none⟩ (.int .i64 ((zab l1 (b9)).f1))).setCell ⟨d7,2,none⟩ (.int .i64 ((zab l1 (b9)).f2))).setCell ⟨d7,3,none⟩ (.int .i64 ((zab l1 (b9)).f3))).setCell ⟨d7,4,none⟩ (.int .i64 ((zab l1 (b9)).f4))).setCell ⟨d8,0,none⟩ (.int .i64 ((zab l1 x10_1).f0))).setCell ⟨d8,1,none⟩ (.int .i64 ((zab l1 x10_1).f1))).setCell ⟨d8,2,none⟩ (.int .i64 ((zab l1 x10_1).f2))).setCell ⟨d8,3,none⟩ (.int .i64 ((zab l1 x10_1).f3))).setCell ⟨d8,4,none⟩ (.int .i64 ((zab l1 x10_1).f4))) w.heap.size (fun _=>True) u8 x8_1):=⟨by (with_reducible repeat (first|apply Kd.R_alloc|apply Kd.R_drewN|apply Kd.R_drew));exact Kd.R_mono (Kd.R_far (p:=⟨d8,4,none⟩) (Kd.R_far (p:=⟨d8,3,none⟩) (Kd.R_far (p:=⟨d8,2,none⟩) (Kd.R_far (p:=⟨d8,1,none⟩) (Kd.R_far (p:=⟨d8,0,none⟩) (Kd.R_far (p:=⟨d7,4,none⟩) (Kd.R_far (p:=⟨d7,3,none⟩) (Kd.R_far (p:=⟨d7,2,none⟩) (Kd.R_far (p:=⟨d7,1,none⟩) (Kd.R_far (p:=⟨d7,0,none⟩) (Kd.R_types (Kd.R_types HO_8.out d9.out (by decide)) e0.out (by decide)) (fun _ hk=>hk.1.2) (.int .i64 ((zab l1 (b9)).f0))) (fun _ hk=>hk.1.2) (.int .i64 ((zab l1 (b9)).f1))) (fun _ hk=>hk.1.2) (.int .i64 ((zab l1 (b9)).f2))) (fun _ hk=>hk.1.2) (.int .i64 ((zab l1 (b9)).f3))) (fun _ hk=>hk.1.2) (.int .i64 ((zab l1 (b9)).f4))) (fun _ hk=>hk.2) (.int .i64 ((zab l1 x10_1).f0))) (fun _ hk=>hk.2) (.int .i64 ((zab l1 x10_1).f1))) (fun _ hk=>hk.2) (.int .i64 ((zab l1 x10_1).f2))) (fun _ hk=>hk.2) (.int .i64 ((zab l1 x10_1).f3))) (fun _ hk=>hk.2) (.int .i64 ((zab l1 x10_1).f4))) (fun _ hk=>trivial)⟩
           have n1_:zaa (((((((((((w32.setCell ⟨d7,0,none⟩ (.int .i64 ((zab l1 (b9)).f0))).setCell ⟨d7,1,none⟩ (.int .i64 ((zab l1 (b9)).f1))).setCell ⟨d7,2,none⟩ (.int .i64 ((zab l1 (b9)).f2))).setCell ⟨d7,3,none⟩ (.int .i64 ((zab l1 (b9)).f3))).setCell ⟨d7,4,none⟩ (.int .i64 ((zab l1 (b9)).f4))).setCell ⟨d8,0,none⟩ (.int .i64 ((zab l1 x10_1).f0))).setCell ⟨d8,1,none⟩ (.int .i64 ((zab l1 x10_1).f1))).setCell ⟨d8,2,none⟩ (.int .i64 ((zab l1 x10_1).f2))).setCell ⟨d8,3,none⟩ (.int .i64 ((zab l1 x10_1).f3))).setCell ⟨d8,4,none⟩ (.int .i64 ((zab l1 x10_1).f4))).heap[e5]? = some (.cells #[.int .i64 i5,.int .i64 i6,.int .i64 i7,.int .i64 i8,.int .i64 i9,.int .i64 j2,.int .i64 j3,.int .i64 j4,.int .i64 j5,.int .i64 j6,.int .i64 e9,.int .i64 f5,.int .i64 f6,.int .i64 f7,.slice m7 e8.length m8,.bool g9] 26 (0,0))):=⟨by refine zB ?_;refine zaA ?_ m6.out _;refine zB ?_;refine zaA ?_ m6.out _;refine zB ?_;refine zaA ?_ m6.out _;refine zB ?_;refine zaA ?_ m6.out _;refine zB ?_;refine zaA ?_ m6.out _;refine zB ?_;refine zaA ?_ m5.out _;refine zB ?_;refine zaA ?_ m5.out _;refine zB ?_;refine zaA ?_ m5.out _;refine zB ?_;refine zaA ?_ m5.out _;refine zB ?_;refine zaA ?_ m5.out _;refine zB ?_;exact b8.out⟩
           have n2_:zaa (((((((((((w32.setCell ⟨d7,0,none⟩ (.int .i64 ((zab l1 (b9)).f0))).setCell ⟨d7,1,none⟩ (.int .i64 ((zab l1 (b9)).f1))).setCell ⟨d7,2,none⟩ (.int .i64 ((zab l1 (b9)).f2))).setCell ⟨d7,3,none⟩ (.int .i64 ((zab l1 (b9)).f3))).setCell ⟨d7,4,none⟩ (.int .i64 ((zab l1 (b9)).f4))).setCell ⟨d8,0,none⟩ (.int .i64 ((zab l1 x10_1).f0))).setCell ⟨d8,1,none⟩ (.int .i64 ((zab l1 x10_1).f1))).setCell ⟨d8,2,none⟩ (.int .i64 ((zab l1 x10_1).f2))).setCell ⟨d8,3,none⟩ (.int .i64 ((zab l1 x10_1).f3))).setCell ⟨d8,4,none⟩ (.int .i64 ((zab l1 x10_1).f4))).heap[d7]? = some (.cells #[.int .i64 ((zab l1 (b9)).f0),.int .i64 ((zab l1 (b9)).f1),.int .i64 ((zab l1 (b9)).f2),.int .i64 ((zab l1 (b9)).f3),.int .i64 ((zab l1 (b9)).f4)] 57 (0,0))):=⟨by refine zB ?_;refine zaA ?_ k5.out _;refine zB ?_;refine zaA ?_ k5.out _;refine zB ?_;refine zaA ?_ k5.out _;refine zB ?_;refine zaA ?_ k5.out _;refine zB ?_;refine zaA ?_ k5.out _;refine zB ?_;refine zar (cs:=#[.int .i64 ((zab l1 (b9)).f0),.int .i64 ((zab l1 (b9)).f1),.int .i64 ((zab l1 (b9)).f2),.int .i64 ((zab l1 (b9)).f3),.int .i64 0]) ?_ 4 _ rfl;refine zB ?_;refine zar (cs:=#[.int .i64 ((zab l1 (b9)).f0),.int .i64 ((zab l1 (b9)).f1),.int .i64 ((zab l1 (b9)).f2),.int .i64 0,.int .i64 0]) ?_ 3 _ rfl;refine zB ?_;refine zar (cs:=#[.int .i64 ((zab l1 (b9)).f0),.int .i64 ((zab l1 (b9)).f1),.int .i64 0,.int .i64 0,.int .i64 0]) ?_ 2 _ rfl;refine zB ?_;refine zar (cs:=#[.int .i64 ((zab l1 (b9)).f0),.int .i64 0,.int .i64 0,.int .i64 0,.int .i64 0]) ?_ 1 _ rfl;refine zB ?_;refine zar (cs:=#[.int .i64 0,.int .i64 0,.int .i64 0,.int .i64 0,.int .i64 0]) ?_ 0 _ rfl;refine zB ?_;exact d9.out⟩
           have n3_:zaa (((((((((((w32.setCell ⟨d7,0,none⟩ (.int .i64 ((zab l1 (b9)).f0))).setCell ⟨d7,1,none⟩ (.int .i64 ((zab l1 (b9)).f1))).setCell ⟨d7,2,none⟩ (.int .i64 ((zab l1 (b9)).f2))).setCell ⟨d7,3,none⟩ (.int .i64 ((zab l1 (b9)).f3))).setCell ⟨d7,4,none⟩ (.int .i64 ((zab l1 (b9)).f4))).setCell ⟨d8,0,none⟩ (.int .i64 ((zab l1 x10_1).f0))).setCell ⟨d8,1,none⟩ (.int .i64 ((zab l1 x10_1).f1))).setCell ⟨d8,2,none⟩ (.int .i64 ((zab l1 x10_1).f2))).setCell ⟨d8,3,none⟩ (.int .i64 ((zab l1 x10_1).f3))).setCell ⟨d8,4,none⟩ (.int .i64 ((zab l1 x10_1).f4))).heap[d8]? = some (.cells #[.int .i64 ((zab l1 x10_1).f0),.int .i64 ((zab l1 x10_1).f1),.int .i64 ((zab l1 x10_1).f2),.int .i64 ((zab l1 x10_1).f3),.int .i64 ((zab l1 x10_1).f4)] 57 (0,0))):=⟨by refine zB ?_;refine zar (cs:=#[.int .i64 ((zab l1 x10_1).f0),.int .i64 ((zab l1 x10_1).f1),.int .i64 ((zab l1 x10_1).f2),.int .i64 ((zab l1 x10_1).f3),.int .i64 0]) ?_ 4 _ rfl;refine zB ?_;refine zar (cs:=#[.int .i64 ((zab l1 x10_1).f0),.int .i64 ((zab l1 x10_1).f1),.int .i64 ((zab l1 x10_1).f2),.int .i64 0,.int .i64 0]) ?_ 3 _ rfl;refine zB ?_;refine zar (cs:=#[.int .i64 ((zab l1 x10_1).f0),.int .i64 ((zab l1 x10_1).f1),.int .i64 0,.int .i64 0,.int .i64 0]) ?_ 2 _ rfl;refine zB ?_;refine zar (cs:=#[.int .i64 ((zab l1 x10_1).f0),.int .i64 0,.int .i64 0,.int .i64 0,.int .i64 0]) ?_ 1 _ rfl;refine zB ?_;refine zar (cs:=#[.int .i64 0,.int .i64 0,.int .i64 0,.int .i64 0,.int .i64 0]) ?_ 0 _ rfl;refine zB ?_;refine zaA ?_ k6.out _;refine zB ?_;refine zaA ?_ k6.out _;refine zB ?_;refine zaA ?_ k6.out _;refine zB ?_;refine zaA ?_ k6.out _;refine zB ?_;refine zaA ?_ k6.out _;refine zB ?_;exact e0.out⟩
           have n4_:zaa (Below w.heap.size w ((((((((((w32.setCell ⟨d7,0,none⟩ (.int .i64 ((zab l1 (b9)).f0))).setCell ⟨d7,1,none⟩ (.int .i64 ((zab l1 (b9)).f1))).setCell ⟨d7,2,none⟩ (.int .i64 ((zab l1 (b9)).f2))).setCell ⟨d7,3,none⟩ (.int .i64 ((zab l1 (b9)).f3))).setCell ⟨d7,4,none⟩ (.int .i64 ((zab l1 (b9)).f4))).setCell ⟨d8,0,none⟩ (.int .i64 ((zab l1 x10_1).f0))).setCell ⟨d8,1,none⟩ (.int .i64 ((zab l1 x10_1).f1))).setCell ⟨d8,2,none⟩ (.int .i64 ((zab l1 x10_1).f2))).setCell ⟨d8,3,none⟩ (.int .i64 ((zab l1 x10_1).f3))).setCell ⟨d8,4,none⟩ (.int .i64 ((zab l1 x10_1).f4)))):=⟨by repeat (first|(with_reducible first|exact HB.out|apply zan|apply zaj|apply zai|refine zao ?_ i4.out|refine zao ?_ j9.out|refine zao ?_ k3.out)|exact HB.out)⟩
           (try clear HO_8)
           (try clear b8)
           (try clear d9)
           (try clear e0)
           (try clear HB)
           generalize ((((((((((w32.setCell ⟨d7,0,none⟩ (.int .i64 ((zab l1 (b9)).f0))).setCell ⟨d7,1,none⟩ (.int .i64 ((zab l1 (b9)).f1))).setCell ⟨d7,2,none⟩ (.int .i64 ((zab l1 (b9)).f2))).setCell ⟨d7,3,none⟩ (.int .i64 ((zab l1 (b9)).f3))).setCell ⟨d7,4,none⟩ (.int .i64 ((zab l1 (b9)).f4))).setCell ⟨d8,0,none⟩ (.int .i64 ((zab l1 x10_1).f0))).setCell ⟨d8,1,none⟩ (.int .i64 ((zab l1 x10_1).f1))).setCell ⟨d8,2,none⟩ (.int .i64 ((zab l1 x10_1).f2))).setCell ⟨d8,3,none⟩ (.int .i64 ((zab l1 x10_1).f3))).setCell ⟨d8,4,none⟩ (.int .i64 ((zab l1 x10_1).f4)))=w43 at n0_ n1_ n2_ n3_ n4_ ⊢
           have HO_8:=n0_
           have b8:=n1_
           have d9:=n2_
           have e0:=n3_
           have HB:=n4_
           clear n0_ n1_ n2_ n3_ n4_
           replace HO_8:=zaa.mk (Kd.R_drew HO_8.out)
           replace b8:=zaa.mk (zaM b8.out)
           replace d9:=zaa.mk (zaM d9.out)
           replace e0:=zaa.mk (zaM e0.out)
           replace HB:=zaa.mk (zai HB.out)
           refine zbA (n:=8) (S:=fun w'=>w'.cell? ⟨d7,0,none⟩=some (.int .i64 ((zab l1 (b9)).f0))∧w'.cell? ⟨d7,1,none⟩=some (.int .i64 ((zab l1 (b9)).f1))∧w'.cell? ⟨d7,2,none⟩=some (.int .i64 ((zab l1 (b9)).f2))∧w'.cell? ⟨d7,3,none⟩=some (.int .i64 ((zab l1 (b9)).f3))∧w'.cell? ⟨d7,4,none⟩=some (.int .i64 ((zab l1 (b9)).f4))∧w'.cell? ⟨d8,0,none⟩=some (.int .i64 ((zab l1 x10_1).f0))∧w'.cell? ⟨d8,1,none⟩=some (.int .i64 ((zab l1 x10_1).f1))∧w'.cell? ⟨d8,2,none⟩=some (.int .i64 ((zab l1 x10_1).f2))∧w'.cell? ⟨d8,3,none⟩=some (.int .i64 ((zab l1 x10_1).f3))∧w'.cell? ⟨d8,4,none⟩=some (.int .i64 ((zab l1 x10_1).f4))) (ds:=[]) #[false,false,false,false,false,false,false,false] (by kernel_rfl) rfl rfl ⟨zc d9.out 0,zc d9.out 1,zc d9.out 2,zc d9.out 3,zc d9.out 4,zc e0.out 0,zc e0.out 1,zc e0.out 2,zc e0.out 3,zc e0.out 4⟩ (fun hHeld=>?_);refine zbn zaz.tab13 zaz.bits13 (fun HT_ HW_=>?_)
           generalize w43.drew=w44 at HO_8 b8 d9 e0 HB hHeld ⊢
           refine ztl 0 53 HT_.out HW_.out hHeld ?_
           refine ztl 1 54 HT_.out HW_.out hHeld ?_
           refine ztl 3 56 HT_.out HW_.out hHeld ?_
           refine ztl 4 57 HT_.out HW_.out hHeld ?_
           refine zon 2 (some 55) HT_.out (fun K hK=>?_)
           refine goes_ Try.func73 (by kernel_rfl) rfl #[.agg #[.int .i64 ((zab l1 (b9)).f0),.int .i64 ((zab l1 (b9)).f1),.int .i64 ((zab l1 (b9)).f2),.int .i64 ((zab l1 (b9)).f3),.int .i64 ((zab l1 (b9)).f4)],.agg #[.int .i64 ((zab l1 x10_1).f0),.int .i64 ((zab l1 x10_1).f1),.int .i64 ((zab l1 x10_1).f2),.int .i64 ((zab l1 x10_1).f3),.int .i64 ((zab l1 x10_1).f4)]] (by rfl) rfl rfl (by (try simp only [List.map_toArray,List.map_cons,List.map_nil]);first|done|(simp only [hji23];rfl)|rfl|(simp only [List.length_drop,List.length_take];rfl)) ?_
           with_reducible refine (zcu.calls k1 ((zab l1 (b9)).f0) ((zab l1 (b9)).f1) ((zab l1 (b9)).f2) ((zab l1 (b9)).f3) ((zab l1 (b9)).f4) ((zab l1 x10_1).f0) ((zab l1 x10_1).f1) ((zab l1 x10_1).f2) ((zab l1 x10_1).f3) ((zab l1 x10_1).f4) o3 _ A27.out).mono ?_
           rintro e w45 ⟨rfl,hb⟩
           refine ⟨_,rfl,?_⟩
           have n0_:=zaa.mk (Kd.R_below (by (with_reducible repeat (first|apply Kd.R_alloc|apply Kd.R_drewN|apply Kd.R_drew));exact HO_8.out) hb)
           have n1_:=zaa.mk (zac (zB b8.out) hb)
           have n2_:=zaa.mk (zac (zB d9.out) hb)
           have n3_:=zaa.mk (zac (zB e0.out) hb)
           have n4_:=zaa.mk (zae (zL3 HB.out i4.out j9.out k3.out) hb)
           clear HO_8
           clear b8
           clear d9
           clear e0
           clear HB
           have HO_8:=n0_
           have b8:=n1_
           have d9:=n2_
           have e0:=n3_
           have HB:=n4_
           clear n0_ n1_ n2_ n3_ n4_
           (try clear hb);(try clear hb2);(try clear hk);(try clear hi)
           refine hK.out _ _ ⟨zc d9.out 0,zc d9.out 1,zc d9.out 2,zc d9.out 3,zc d9.out 4,zc e0.out 0,zc e0.out 1,zc e0.out 2,zc e0.out 3,zc e0.out 4⟩ (fun hHeld=>?_)
           clear hK K
           refine znm ?_
           refine zon 5 (some 58) HT_.out (fun K hK=>?_)
           refine goes_ Try.func74 (by kernel_rfl) rfl #[.agg #[.int .i64 ((zab l1 (b9)).f0),.int .i64 ((zab l1 (b9)).f1),.int .i64 ((zab l1 (b9)).f2),.int .i64 ((zab l1 (b9)).f3),.int .i64 ((zab l1 (b9)).f4)],.agg #[.int .i64 ((zab l1 x10_1).f0),.int .i64 ((zab l1 x10_1).f1),.int .i64 ((zab l1 x10_1).f2),.int .i64 ((zab l1 x10_1).f3),.int .i64 ((zab l1 x10_1).f4)]] (by rfl) rfl rfl (by (try simp only [List.map_toArray,List.map_cons,List.map_nil]);first|done|(simp only [hji23];rfl)|rfl|(simp only [List.length_drop,List.length_take];rfl)) ?_
           with_reducible refine (za3.calls k1 ((zab l1 (b9)).f0) ((zab l1 (b9)).f1) ((zab l1 (b9)).f2) ((zab l1 (b9)).f3) ((zab l1 (b9)).f4) ((zab l1 x10_1).f0) ((zab l1 x10_1).f1) ((zab l1 x10_1).f2) ((zab l1 x10_1).f3) ((zab l1 x10_1).f4) o4 _ A28.out).mono ?_
           rintro e w46 ⟨rfl,hb⟩
           refine ⟨_,rfl,?_⟩
           have n0_:=zaa.mk (Kd.R_below (by (with_reducible repeat (first|apply Kd.R_alloc|apply Kd.R_drewN|apply Kd.R_drew));exact HO_8.out) hb)
           have n1_:=zaa.mk (zac (zB b8.out) hb)
           have n2_:=zaa.mk (zac (zB d9.out) hb)
           have n3_:=zaa.mk (zac (zB e0.out) hb)
           have n4_:=zaa.mk (zae (zL3 HB.out i4.out j9.out k3.out) hb)
           clear HO_8
           clear b8
           clear d9
           clear e0
           clear HB
           have HO_8:=n0_
           have b8:=n1_
           have d9:=n2_
           have e0:=n3_
           have HB:=n4_
           clear n0_ n1_ n2_ n3_ n4_
           (try clear hb);(try clear hb2);(try clear hk);(try clear hi)
           refine hK.out _ _ ⟨zc d9.out 0,zc d9.out 1,zc d9.out 2,zc d9.out 3,zc d9.out 4,zc e0.out 0,zc e0.out 1,zc e0.out 2,zc e0.out 3,zc e0.out 4⟩ (fun hHeld=>?_)
           clear hK K
           refine znm ?_
           refine zpu 6 13 HT_.out ?_
           refine zpu 7 14 HT_.out ?_
           refine zbT (zbB HT_.out (by kernel_rfl)) ?_
           try go_wp2
           go_loopg [8,9,15] k1 (fun kq v8 v9 v15 w'=>∃ (x8_2:List (S28)) (x9_2:Int) (x15_2:Int),v9 = .int .i64 x9_2∧v15 = .int .i64 x15_2∧zaa (zaz.l1 kq l1 x8_2 x9_2 x10_1 o3 o4 x15_2 i5 i6 i7 i8 i9 j2 j3 j4 j5 j6 e9 f5 f6 f7 e8 g9 ((zab l1 (b9)).f0) ((zab l1 (b9)).f1) ((zab l1 (b9)).f2) ((zab l1 (b9)).f3) ((zab l1 (b9)).f4) ((zab l1 x10_1).f0) ((zab l1 x10_1).f1) ((zab l1 x10_1).f2) ((zab l1 x10_1).f3) ((zab l1 x10_1).f4)=some (r1,r2))∧zaa (kq≤k1)∧zaa (Kd.R k28 28 w' w.heap.size (fun _=>True) v8 x8_2)∧zaa (w'.heap[e5]? = some (.cells #[.int .i64 i5,.int .i64 i6,.int .i64 i7,.int .i64 i8,.int .i64 i9,.int .i64 j2,.int .i64 j3,.int .i64 j4,.int .i64 j5,.int .i64 j6,.int .i64 e9,.int .i64 f5,.int .i64 f6,.int .i64 f7,(.slice m7 e8.length m8),.bool g9] 26 (0,0)))∧zaa (w'.heap[d7]? = some (.cells #[.int .i64 ((zab l1 (b9)).f0),.int .i64 ((zab l1 (b9)).f1),.int .i64 ((zab l1 (b9)).f2),.int .i64 ((zab l1 (b9)).f3),.int .i64 ((zab l1 (b9)).f4)] 57 (0,0)))∧zaa (w'.heap[d8]? = some (.cells #[.int .i64 ((zab l1 x10_1).f0),.int .i64 ((zab l1 x10_1).f1),.int .i64 ((zab l1 x10_1).f2),.int .i64 ((zab l1 x10_1).f3),.int .i64 ((zab l1 x10_1).f4)] 57 (0,0)))∧zaa (Below w.heap.size w w'))
           case atStart=>exact ⟨(x8_1),(x9_1),(0),zF,zF,H',⟨Nat.le_refl _⟩,⟨by (with_reducible repeat (first|apply Kd.R_alloc|apply Kd.R_drewN|apply Kd.R_drew));exact HO_8.out⟩,⟨by refine zB ?_;exact b8.out⟩,⟨by refine zB ?_;exact d9.out⟩,⟨by refine zB ?_;exact e0.out⟩,⟨by repeat (first|(with_reducible first|exact HB.out|apply zan|apply zaj|apply zai|refine zao ?_ i4.out|refine zao ?_ j9.out|refine zao ?_ k3.out)|exact HB.out)⟩⟩
           case round=>
            clear H'
            try clear p1
            try clear q1
            try clear hx1
            try clear c2
            try clear p2
            try clear p6
            try clear c7
            try clear p15
            try clear q15
            try clear hx15
            try clear p16
            try clear q16
            try clear hx16
            try clear c22
            try clear c22b0
            try clear c24
            try clear c24b0
            try clear c25
            try clear c25b0
            try clear c26
            try clear c26b0
            try clear D5 D6 D7 C9 D0 D1 D2 D3 D4 D8 D9 E0 E1 E2 E3 E4 E5
            try clear o6
            try clear o7
            try clear o8
            try clear o9
            try clear p7
            try clear u4
            try clear u5
            try clear u6
            try clear u7
            try clear u9
            try clear y7
            try clear y8
            try clear y9
            try clear z1
            try clear z2
            try clear z3
            try clear z4
            try clear z5
            try clear z6
            try clear z7
            try clear p152
            try clear p161
            try clear p163
            try clear p164
            try clear q152
            try clear q161
            try clear q163
            try clear q164
            obtain ⟨x8_2,x9_2,x15_2,rfl,rfl,HA,F6,HO_8,b8,d9,e0,HB⟩:=hrel
            cases gk with
            | zero=>exact absurd HA.out (by simp [zaz.l1])
            | succ k2=>
             have H:=HA.out
             clear HA
             simp only [zaz.l1] at H
             by_cases c47:x9_2≤(wrap64 (o3 - x15_2))
             ·rw [if_pos c47] at H
              have c47b0:decide (x9_2≤(wrap64 (o3 - x15_2)))=true:=decide_eq_true c47
              clear c47
              by_cases c48:(x8_2.length:Int)=1024
              ·rw [if_pos c48] at H
               have c48b0:((x8_2.length:Int)==1024)=true:=beq_iff_eq.mpr c48
               have c48b1:((x8_2.length:Int) != 1024)=false:=bne_eq_false_iff_eq.mpr c48
               clear c48
               simp only [Option.some.injEq,Prod.mk.injEq] at H
               obtain ⟨rfl,rfl⟩:=H
               obtain ⟨Ao49,co49,eo49⟩:=Kd.R_slice HO_8.out
               subst eo49
               go_wp2
               go_ret2
               exact ⟨_,by first|rfl|(simp [zaK,zaL] <;> rfl)|(simp only [← hji23];first|rfl|(simp [zaK,zaL] <;> rfl))|(simp [*,zaK,zaL] <;> rfl),by first|exact Kd.R_nil _ _ _ _ _|exact Kd.N_nil _ _ _ _ _|exact Kd.V_nil _ _ _ _ _|exact Kd.Q_nil _ _ _ _ _|exact Kd.S_nil _ _ _ _ _,by repeat (first|(with_reducible first|exact HB.out|apply zan|apply zaj|apply zai|refine zao ?_ i4.out|refine zao ?_ j9.out|refine zao ?_ k3.out)|exact HB.out)⟩
              ·rw [if_neg c48] at H
               have c48b0:((x8_2.length:Int)==1024)=false:=beq_eq_false_iff_ne.mpr c48
               have c48b1:((x8_2.length:Int) != 1024)=true:=bne_iff_ne.mpr c48
               replace H:=Option.bind_eq_some_iff.mp H
               obtain ⟨⟨z9,B0,B3,B7,C0⟩,A500,H⟩:=H
               replace H:((zb5.f k2 i5 i6 i7 i8 i9 j2 j3 j4 j5 j6 e9 f5 f6 f7 e8 g9 z9 B0 B3 B7 C0 o4 (x8_2.length:Int)).bind fun n5=>(if x8_2.length<3518437208883 then ((zbP.f k2 i5 i6 i7 i8 i9 j2 j3 j4 j5 j6 e9 f5 f6 f7 e8 g9 n5.1 n5.2.1 n5.2.2.1 n5.2.2.2.1 n5.2.2.2.2).bind fun z8=>(zaz.l1 k2 l1 (x8_2 ++ [(⟨n5.1,n5.2.1,n5.2.2.1,n5.2.2.2.1,n5.2.2.2.2⟩:S28)]) z8 x10_1 o3 o4 (wrap64 (x15_2+x9_2)) i5 i6 i7 i8 i9 j2 j3 j4 j5 j6 e9 f5 f6 f7 e8 g9 ((zab l1 (b9)).f0) ((zab l1 (b9)).f1) ((zab l1 (b9)).f2) ((zab l1 (b9)).f3) ((zab l1 (b9)).f4) ((zab l1 x10_1).f0) ((zab l1 x10_1).f1) ((zab l1 x10_1).f2) ((zab l1 x10_1).f3) ((zab l1 x10_1).f4))) else (none)))=some (r1,r2):=H
               have A50:=zaa.mk A500
               clear A500
               replace H:=Option.bind_eq_some_iff.mp H
               obtain ⟨⟨n6,n9,o5,p9,t7⟩,A510,H⟩:=H
               replace H:(if x8_2.length<3518437208883 then ((zbP.f k2 i5 i6 i7 i8 i9 j2 j3 j4 j5 j6 e9 f5 f6 f7 e8 g9 n6 n9 o5 p9 t7).bind fun z8=>(zaz.l1 k2 l1 (x8_2 ++ [(⟨n6,n9,o5,p9,t7⟩:S28)]) z8 x10_1 o3 o4 (wrap64 (x15_2+x9_2)) i5 i6 i7 i8 i9 j2 j3 j4 j5 j6 e9 f5 f6 f7 e8 g9 ((zab l1 (b9)).f0) ((zab l1 (b9)).f1) ((zab l1 (b9)).f2) ((zab l1 (b9)).f3) ((zab l1 (b9)).f4) ((zab l1 x10_1).f0) ((zab l1 x10_1).f1) ((zab l1 x10_1).f2) ((zab l1 x10_1).f3) ((zab l1 x10_1).f4))) else (none))=some (r1,r2):=H
               have A51:=zaa.mk A510
               clear A510
               by_cases c52:x8_2.length<3518437208883
               ·rw [if_pos c52] at H
                have LMc52:=zaa.mk c52
                clear c52
                obtain ⟨y180,hy180⟩ : ∃ y_:List (S28),y_=(x8_2 ++ [(⟨n6,n9,o5,p9,t7⟩:S28)]):=⟨_,rfl⟩
                replace H:((zbP.f k2 i5 i6 i7 i8 i9 j2 j3 j4 j5 j6 e9 f5 f6 f7 e8 g9 n6 n9 o5 p9 t7).bind fun z8=>(zaz.l1 k2 l1 y180 z8 x10_1 o3 o4 (wrap64 (x15_2+x9_2)) i5 i6 i7 i8 i9 j2 j3 j4 j5 j6 e9 f5 f6 f7 e8 g9 ((zab l1 (b9)).f0) ((zab l1 (b9)).f1) ((zab l1 (b9)).f2) ((zab l1 (b9)).f3) ((zab l1 (b9)).f4) ((zab l1 x10_1).f0) ((zab l1 x10_1).f1) ((zab l1 x10_1).f2) ((zab l1 x10_1).f3) ((zab l1 x10_1).f4)))=some (r1,r2):=by first|(rw [hy180];with_reducible exact H)|(have H2_:=(Option.bind_some _ _).symm.trans H;rw [hy180];with_reducible exact H2_)|(have H2_:=(Option.bind_some _ _).symm.trans H;with_reducible exact H2_)|with_reducible exact H|(rw [hy180];exact H)|exact H
                have Ny180:=zaa.mk hy180
                clear hy180
                replace H:=Option.bind_eq_some_iff.mp H
                obtain ⟨z8,A530,H⟩:=H
                replace H:(zaz.l1 k2 l1 y180 z8 x10_1 o3 o4 (wrap64 (x15_2+x9_2)) i5 i6 i7 i8 i9 j2 j3 j4 j5 j6 e9 f5 f6 f7 e8 g9 ((zab l1 (b9)).f0) ((zab l1 (b9)).f1) ((zab l1 (b9)).f2) ((zab l1 (b9)).f3) ((zab l1 (b9)).f4) ((zab l1 x10_1).f0) ((zab l1 x10_1).f1) ((zab l1 x10_1).f2) ((zab l1 x10_1).f3) ((zab l1 x10_1).f4))=some (r1,r2):=H
                have A53:=zaa.mk A530
                clear A530
                have H':=zaa.mk H
                clear H
                obtain ⟨Ao54,co54,eo54⟩:=Kd.R_slice HO_8.out
                subst eo54
                try go_wp2
                replace HO_8:=zaa.mk (Kd.R_drew HO_8.out)
                replace b8:=zaa.mk (zaM b8.out)
                replace d9:=zaa.mk (zaM d9.out)
                replace e0:=zaa.mk (zaM e0.out)
                replace HB:=zaa.mk (zai HB.out)
                refine zbA (n:=12) (S:=fun w'=>w'.cell? ⟨e5,0,none⟩=some (.int .i64 i5)∧w'.cell? ⟨e5,1,none⟩=some (.int .i64 i6)∧w'.cell? ⟨e5,2,none⟩=some (.int .i64 i7)∧w'.cell? ⟨e5,3,none⟩=some (.int .i64 i8)∧w'.cell? ⟨e5,4,none⟩=some (.int .i64 i9)∧w'.cell? ⟨e5,5,none⟩=some (.int .i64 j2)∧w'.cell? ⟨e5,6,none⟩=some (.int .i64 j3)∧w'.cell? ⟨e5,7,none⟩=some (.int .i64 j4)∧w'.cell? ⟨e5,8,none⟩=some (.int .i64 j5)∧w'.cell? ⟨e5,9,none⟩=some (.int .i64 j6)∧w'.cell? ⟨e5,10,none⟩=some (.int .i64 e9)∧w'.cell? ⟨e5,11,none⟩=some (.int .i64 f5)∧w'.cell? ⟨e5,12,none⟩=some (.int .i64 f6)∧w'.cell? ⟨e5,13,none⟩=some (.int .i64 f7)∧w'.cell? ⟨e5,14,none⟩=some (.slice m7 e8.length m8)∧w'.cell? ⟨e5,15,none⟩=some (.bool g9)∧w'.cell? ⟨d7,0,none⟩=some (.int .i64 ((zab l1 (b9)).f0))∧w'.cell? ⟨d7,1,none⟩=some (.int .i64 ((zab l1 (b9)).f1))∧w'.cell? ⟨d7,2,none⟩=some (.int .i64 ((zab l1 (b9)).f2))∧w'.cell? ⟨d7,3,none⟩=some (.int .i64 ((zab l1 (b9)).f3))∧w'.cell? ⟨d7,4,none⟩=some (.int .i64 ((zab l1 (b9)).f4))∧w'.cell? ⟨d8,0,none⟩=some (.int .i64 ((zab l1 x10_1).f0))∧w'.cell? ⟨d8,1,none⟩=some (.int .i64 ((zab l1 x10_1).f1))∧w'.cell? ⟨d8,2,none⟩=some (.int .i64 ((zab l1 x10_1).f2))∧w'.cell? ⟨d8,3,none⟩=some (.int .i64 ((zab l1 x10_1).f3))∧w'.cell? ⟨d8,4,none⟩=some (.int .i64 ((zab l1 x10_1).f4))) (ds:=[]) #[false,false,false,false,false,false,false,false,false,false,false,false] (by kernel_rfl) rfl rfl ⟨zc b8.out 0,zc b8.out 1,zc b8.out 2,zc b8.out 3,zc b8.out 4,zc b8.out 5,zc b8.out 6,zc b8.out 7,zc b8.out 8,zc b8.out 9,zc b8.out 10,zc b8.out 11,zc b8.out 12,zc b8.out 13,zc b8.out 14,zc b8.out 15,zc d9.out 0,zc d9.out 1,zc d9.out 2,zc d9.out 3,zc d9.out 4,zc e0.out 0,zc e0.out 1,zc e0.out 2,zc e0.out 3,zc e0.out 4⟩ (fun hHeld=>?_);refine zbn zaz.tab19 zaz.bits19 (fun HT_ HW_=>?_)
                generalize wr.drew=w55 at HO_8 b8 d9 e0 HB hHeld ⊢
                refine zpu 3 73 HT_.out ?_
                refine zpu 4 74 HT_.out ?_
                refine zpu 6 76 HT_.out ?_
                refine zpu 7 77 HT_.out ?_
                refine zpu 8 78 HT_.out ?_
                refine ztl 0 70 HT_.out HW_.out hHeld ?_
                refine ztl 1 71 HT_.out HW_.out hHeld ?_
                refine ztl 2 72 HT_.out HW_.out hHeld ?_
                refine join_ (σ:=Nat) 1 #[true,true,true,true,true,true,true,true,true,true,true,false] (fun s_=>[(75,.agg #[.int .i64 z9,.int .i64 B0,.int .i64 B3,.int .i64 B7,.int .i64 C0]),(79,.agg #[.int .i64 n6,.int .i64 n9,.int .i64 o5,.int .i64 p9,.int .i64 t7]),(16,.pointer (some ⟨s_,0,none⟩))]) (fun s_ w'=>(w'.cell? ⟨e5,0,none⟩=some (.int .i64 i5)∧w'.cell? ⟨e5,1,none⟩=some (.int .i64 i6)∧w'.cell? ⟨e5,2,none⟩=some (.int .i64 i7)∧w'.cell? ⟨e5,3,none⟩=some (.int .i64 i8)∧w'.cell? ⟨e5,4,none⟩=some (.int .i64 i9)∧w'.cell? ⟨e5,5,none⟩=some (.int .i64 j2)∧w'.cell? ⟨e5,6,none⟩=some (.int .i64 j3)∧w'.cell? ⟨e5,7,none⟩=some (.int .i64 j4)∧w'.cell? ⟨e5,8,none⟩=some (.int .i64 j5)∧w'.cell? ⟨e5,9,none⟩=some (.int .i64 j6)∧w'.cell? ⟨e5,10,none⟩=some (.int .i64 e9)∧w'.cell? ⟨e5,11,none⟩=some (.int .i64 f5)∧w'.cell? ⟨e5,12,none⟩=some (.int .i64 f6)∧w'.cell? ⟨e5,13,none⟩=some (.int .i64 f7)∧w'.cell? ⟨e5,14,none⟩=some (.slice m7 e8.length m8)∧w'.cell? ⟨e5,15,none⟩=some (.bool g9)∧w'.cell? ⟨d7,0,none⟩=some (.int .i64 ((zab l1 (b9)).f0))∧w'.cell? ⟨d7,1,none⟩=some (.int .i64 ((zab l1 (b9)).f1))∧w'.cell? ⟨d7,2,none⟩=some (.int .i64 ((zab l1 (b9)).f2))∧w'.cell? ⟨d7,3,none⟩=some (.int .i64 ((zab l1 (b9)).f3))∧w'.cell? ⟨d7,4,none⟩=some (.int .i64 ((zab l1 (b9)).f4))∧w'.cell? ⟨d8,0,none⟩=some (.int .i64 ((zab l1 x10_1).f0))∧w'.cell? ⟨d8,1,none⟩=some (.int .i64 ((zab l1 x10_1).f1))∧w'.cell? ⟨d8,2,none⟩=some (.int .i64 ((zab l1 x10_1).f2))∧w'.cell? ⟨d8,3,none⟩=some (.int .i64 ((zab l1 x10_1).f3))∧w'.cell? ⟨d8,4,none⟩=some (.int .i64 ((zab l1 x10_1).f4)))∧(Kd.R k28 28 w' w.heap.size (fun k_=>k_≠s_) (.slice Ao54 x8_2.length co54) x8_2)∧(w'.heap[e5]? = some (.cells #[.int .i64 i5,.int .i64 i6,.int .i64 i7,.int .i64 i8,.int .i64 i9,.int .i64 j2,.int .i64 j3,.int .i64 j4,.int .i64 j5,.int .i64 j6,.int .i64 e9,.int .i64 f5,.int .i64 f6,.int .i64 f7,.slice m7 e8.length m8,.bool g9] 26 (0,0)))∧(w'.heap[d7]? = some (.cells #[.int .i64 ((zab l1 (b9)).f0),.int .i64 ((zab l1 (b9)).f1),.int .i64 ((zab l1 (b9)).f2),.int .i64 ((zab l1 (b9)).f3),.int .i64 ((zab l1 (b9)).f4)] 57 (0,0)))∧(w'.heap[d8]? = some (.cells #[.int .i64 ((zab l1 x10_1).f0),.int .i64 ((zab l1 x10_1).f1),.int .i64 ((zab l1 x10_1).f2),.int .i64 ((zab l1 x10_1).f3),.int .i64 ((zab l1 x10_1).f4)] 57 (0,0)))∧(w'.heap[s_]? = some (.cells #[.int .i64 0,.int .i64 0,.int .i64 0,.int .i64 0,.int .i64 0] 28 (0,0)))∧(w.heap.size≤s_)∧(w.heap.size≤s_)∧(e5≠s_)∧(s_≠e5)∧(d7≠s_)∧(s_≠d7)∧(d8≠s_)∧(s_≠d8)∧(Below w.heap.size w w')) ?_ ?_
                rotate_left
                ·intro hCont
                 refine two_ (i:=5) (j:=10) (Ni:=some 75) (Nj:=some 16) #[true,true,true,true,true,true,true,true,true,false,false,false] #[true,true,true,true,true,false,true,true,true,false,true,false] rfl rfl rfl rfl (two_of HT_.out (by kernel_rfl)) (by decide) (by decide) (fun K hK=>?_) (fun K hK=>?_)
                 ·skip
                  refine goes_ Try.func75 (by kernel_rfl) rfl #[.agg #[.int .i64 ((zab l1 (b9)).f0),.int .i64 ((zab l1 (b9)).f1),.int .i64 ((zab l1 (b9)).f2),.int .i64 ((zab l1 (b9)).f3),.int .i64 ((zab l1 (b9)).f4)],.agg #[.int .i64 ((zab l1 x10_1).f0),.int .i64 ((zab l1 x10_1).f1),.int .i64 ((zab l1 x10_1).f2),.int .i64 ((zab l1 x10_1).f3),.int .i64 ((zab l1 x10_1).f4)],.int .i64 (wrap64 (x15_2+x9_2)),.int .i64 o3] (by rfl) rfl rfl (by (try simp only [List.map_toArray,List.map_cons,List.map_nil]);first|done|(simp only [hji23];rfl)|rfl|(simp only [List.length_drop,List.length_take];rfl)) ?_
                  with_reducible refine (zbC.calls k2 ((zab l1 (b9)).f0) ((zab l1 (b9)).f1) ((zab l1 (b9)).f2) ((zab l1 (b9)).f3) ((zab l1 (b9)).f4) ((zab l1 x10_1).f0) ((zab l1 x10_1).f1) ((zab l1 x10_1).f2) ((zab l1 x10_1).f3) ((zab l1 x10_1).f4) (wrap64 (x15_2+x9_2)) o3 z9 B0 B3 B7 C0 _ A50.out).mono ?_
                  rintro e w56 ⟨rfl,hb⟩
                  refine ⟨_,rfl,?_⟩
                  have n0_:=zaa.mk (Kd.R_below (by (with_reducible repeat (first|apply Kd.R_alloc|apply Kd.R_drewN|apply Kd.R_drew));exact HO_8.out) hb)
                  have n1_:=zaa.mk (zac (zB b8.out) hb)
                  have n2_:=zaa.mk (zac (zB d9.out) hb)
                  have n3_:=zaa.mk (zac (zB e0.out) hb)
                  have n4_:=zaa.mk (zae (zL3 HB.out i4.out j9.out k3.out) hb)
                  clear HO_8
                  clear b8
                  clear d9
                  clear e0
                  clear HB
                  have HO_8:=n0_
                  have b8:=n1_
                  have d9:=n2_
                  have e0:=n3_
                  have HB:=n4_
                  clear n0_ n1_ n2_ n3_ n4_
                  (try clear hb);(try clear hb2);(try clear hk);(try clear hi)
                  refine hK.out _ _ ⟨zc b8.out 0,zc b8.out 1,zc b8.out 2,zc b8.out 3,zc b8.out 4,zc b8.out 5,zc b8.out 6,zc b8.out 7,zc b8.out 8,zc b8.out 9,zc b8.out 10,zc b8.out 11,zc b8.out 12,zc b8.out 13,zc b8.out 14,zc b8.out 15,zc d9.out 0,zc d9.out 1,zc d9.out 2,zc d9.out 3,zc d9.out 4,zc e0.out 0,zc e0.out 1,zc e0.out 2,zc e0.out 3,zc e0.out 4⟩ (fun hHeld=>?_)
                  clear hK K
                  refine znm ?_
                  refine two_ (i:=9) (j:=10) (Ni:=some 79) (Nj:=some 16) #[true,true,true,true,true,true,true,true,true,true,false,false] #[true,true,true,true,true,true,true,true,true,false,true,false] rfl rfl rfl rfl (two_of HT_.out (by kernel_rfl)) (by decide) (by decide) (fun K hK=>?_) (fun K hK=>?_)
                  ·skip
                   refine zgo Try.func71 #[.agg #[.int .i64 i5,.int .i64 i6,.int .i64 i7,.int .i64 i8,.int .i64 i9,.int .i64 j2,.int .i64 j3,.int .i64 j4,.int .i64 j5,.int .i64 j6,.int .i64 e9,.int .i64 f5,.int .i64 f6,.int .i64 f7,.slice m7 e8.length m8,.bool g9],.agg #[.int .i64 z9,.int .i64 B0,.int .i64 B3,.int .i64 B7,.int .i64 C0],.int .i64 o4,.int .i64 (x8_2.length:Int)] ?_
                   with_reducible refine (zb5.calls k2 i5 i6 i7 i8 i9 j2 j3 j4 j5 j6 e9 f5 f6 f7 _ _ e8 g9 z9 B0 B3 B7 C0 o4 (x8_2.length:Int) n6 n9 o5 p9 t7 _ ?side1 ?side2 A51.out).mono ?_
                   (case side1=>repeat (first|exact (Kd.C_below t9.out HB.out)|(with_reducible refine Kd.C_alloc ?_ _)|(with_reducible refine Kd.C_drewN ?_ _)|(with_reducible refine Kd.C_drew ?_)))
                   (case side2=>exact u3.out)
                   rintro e w57 ⟨rfl,hb⟩
                   refine ⟨_,rfl,?_⟩
                   have n0_:=zaa.mk (Kd.R_below (by (with_reducible repeat (first|apply Kd.R_alloc|apply Kd.R_drewN|apply Kd.R_drew));exact HO_8.out) hb)
                   have n1_:=zaa.mk (zac (zB b8.out) hb)
                   have n2_:=zaa.mk (zac (zB d9.out) hb)
                   have n3_:=zaa.mk (zac (zB e0.out) hb)
                   have n4_:=zaa.mk (zae (zL3 HB.out i4.out j9.out k3.out) hb)
                   clear HO_8
                   clear b8
                   clear d9
                   clear e0
                   clear HB
                   have HO_8:=n0_
                   have b8:=n1_
                   have d9:=n2_
                   have e0:=n3_
                   have HB:=n4_
                   clear n0_ n1_ n2_ n3_ n4_
                   (try clear hb);(try clear hb2);(try clear hk);(try clear hi)
                   refine hK.out _ _ ⟨zc b8.out 0,zc b8.out 1,zc b8.out 2,zc b8.out 3,zc b8.out 4,zc b8.out 5,zc b8.out 6,zc b8.out 7,zc b8.out 8,zc b8.out 9,zc b8.out 10,zc b8.out 11,zc b8.out 12,zc b8.out 13,zc b8.out 14,zc b8.out 15,zc d9.out 0,zc d9.out 1,zc d9.out 2,zc d9.out 3,zc d9.out 4,zc e0.out 0,zc e0.out 1,zc e0.out 2,zc e0.out 3,zc e0.out 4⟩ (fun hHeld=>?_)
                   clear hK K
                   refine znm ?_
                   refine zon 10 (some 16) HT_.out (fun K hK=>?_)
                   refine zcb ?hg (N:=16) ?hd (cs:=#[.int .i64 0,.int .i64 0,.int .i64 0,.int .i64 0,.int .i64 0]) (t:=28) ?hr ?_;(case hd=>rfl);(case hg=>rfl);(case hr=>first|(go_simp;done)|(go_simp;rfl))
                   intro d5 hg w58 hbox hb
                   have n0_:=zaa.mk (Kd.R_below (Kd.R_elderB (by (with_reducible repeat (first|apply Kd.R_alloc|apply Kd.R_drewN|apply Kd.R_drew));exact HO_8.out) d5 (Nat.le_of_eq hg.symm)) hb)
                   have n1_:=zaa.mk (zac (zB b8.out) hb)
                   have n2_:=zaa.mk (zac (zB d9.out) hb)
                   have n3_:=zaa.mk (zac (zB e0.out) hb)
                   have n4_:=zaa.mk (zae (zL3 HB.out i4.out j9.out k3.out) hb)
                   have n5_:=zaa.mk (hbox)
                   have n6_:=zaa.mk ((zS hg (zL3 HB.out i4.out j9.out k3.out):w.heap.size≤d5))
                   have n7_:=zaa.mk ((zS hg (zL3 HB.out i4.out j9.out k3.out):w.heap.size≤d5))
                   have n8_:=zaa.mk ((by rw [hg];exact Nat.ne_of_lt (zb6 (zB b8.out)):e5≠d5))
                   have n9_:=zaa.mk ((by rw [hg];exact Nat.ne_of_gt (zb6 (zB b8.out)):d5≠e5))
                   have n10_:=zaa.mk ((by rw [hg];exact Nat.ne_of_lt (zb6 (zB d9.out)):d7≠d5))
                   have n11_:=zaa.mk ((by rw [hg];exact Nat.ne_of_gt (zb6 (zB d9.out)):d5≠d7))
                   have n12_:=zaa.mk ((by rw [hg];exact Nat.ne_of_lt (zb6 (zB e0.out)):d8≠d5))
                   have n13_:=zaa.mk ((by rw [hg];exact Nat.ne_of_gt (zb6 (zB e0.out)):d5≠d8))
                   clear HO_8
                   clear b8
                   clear d9
                   clear e0
                   clear HB
                   have HO_8:=n0_
                   have b8:=n1_
                   have d9:=n2_
                   have e0:=n3_
                   have HB:=n4_
                   have k4:=n5_
                   have C6:=n6_
                   have o2:=n7_
                   have d6:=n8_
                   have n0:=n9_
                   have e6:=n10_
                   have n3:=n11_
                   have e7:=n12_
                   have n4:=n13_
                   clear n0_ n1_ n2_ n3_ n4_ n5_ n6_ n7_ n8_ n9_ n10_ n11_ n12_ n13_
                   clear hb hbox hg
                   refine hK.out _ _ ⟨zc b8.out 0,zc b8.out 1,zc b8.out 2,zc b8.out 3,zc b8.out 4,zc b8.out 5,zc b8.out 6,zc b8.out 7,zc b8.out 8,zc b8.out 9,zc b8.out 10,zc b8.out 11,zc b8.out 12,zc b8.out 13,zc b8.out 14,zc b8.out 15,zc d9.out 0,zc d9.out 1,zc d9.out 2,zc d9.out 3,zc d9.out 4,zc e0.out 0,zc e0.out 1,zc e0.out 2,zc e0.out 3,zc e0.out 4⟩ (fun hHeld=>?_)
                   clear hK K
                   refine znm ?_
                   exact norm_ (by simp only [zcg,Act.put,List.setIfInBounds_toArray,List.set_cons_zero,List.set_cons_succ]) (hCont (d5) _ ⟨hHeld,(by (with_reducible repeat (first|apply Kd.R_alloc|apply Kd.R_drewN|apply Kd.R_drew));exact Kd.R_mono HO_8.out (fun _ hk=>hk.2)),(zB b8.out),(zB d9.out),(zB e0.out),(zB k4.out),C6.out,o2.out,d6.out,n0.out,e6.out,n3.out,e7.out,n4.out,(zL4 HB.out i4.out j9.out k3.out o2.out)⟩)
                  ·skip
                   refine zcb ?hg (N:=16) ?hd (cs:=#[.int .i64 0,.int .i64 0,.int .i64 0,.int .i64 0,.int .i64 0]) (t:=28) ?hr ?_;(case hd=>rfl);(case hg=>rfl);(case hr=>first|(go_simp;done)|(go_simp;rfl))
                   intro d5 hg w57 hbox hb
                   have n0_:=zaa.mk (Kd.R_below (Kd.R_elderB (by (with_reducible repeat (first|apply Kd.R_alloc|apply Kd.R_drewN|apply Kd.R_drew));exact HO_8.out) d5 (Nat.le_of_eq hg.symm)) hb)
                   have n1_:=zaa.mk (zac (zB b8.out) hb)
                   have n2_:=zaa.mk (zac (zB d9.out) hb)
                   have n3_:=zaa.mk (zac (zB e0.out) hb)
                   have n4_:=zaa.mk (zae (zL3 HB.out i4.out j9.out k3.out) hb)
                   have n5_:=zaa.mk (hbox)
                   have n6_:=zaa.mk ((zS hg (zL3 HB.out i4.out j9.out k3.out):w.heap.size≤d5))
                   have n7_:=zaa.mk ((zS hg (zL3 HB.out i4.out j9.out k3.out):w.heap.size≤d5))
                   have n8_:=zaa.mk ((by rw [hg];exact Nat.ne_of_lt (zb6 (zB b8.out)):e5≠d5))
                   have n9_:=zaa.mk ((by rw [hg];exact Nat.ne_of_gt (zb6 (zB b8.out)):d5≠e5))
                   have n10_:=zaa.mk ((by rw [hg];exact Nat.ne_of_lt (zb6 (zB d9.out)):d7≠d5))
                   have n11_:=zaa.mk ((by rw [hg];exact Nat.ne_of_gt (zb6 (zB d9.out)):d5≠d7))
                   have n12_:=zaa.mk ((by rw [hg];exact Nat.ne_of_lt (zb6 (zB e0.out)):d8≠d5))
                   have n13_:=zaa.mk ((by rw [hg];exact Nat.ne_of_gt (zb6 (zB e0.out)):d5≠d8))
                   clear HO_8
                   clear b8
                   clear d9
                   clear e0
                   clear HB
                   have HO_8:=n0_
                   have b8:=n1_
                   have d9:=n2_
                   have e0:=n3_
                   have HB:=n4_
                   have k4:=n5_
                   have C6:=n6_
                   have o2:=n7_
                   have d6:=n8_
                   have n0:=n9_
                   have e6:=n10_
                   have n3:=n11_
                   have e7:=n12_
                   have n4:=n13_
                   clear n0_ n1_ n2_ n3_ n4_ n5_ n6_ n7_ n8_ n9_ n10_ n11_ n12_ n13_
                   clear hb hbox hg
                   refine hK.out _ _ ⟨zc b8.out 0,zc b8.out 1,zc b8.out 2,zc b8.out 3,zc b8.out 4,zc b8.out 5,zc b8.out 6,zc b8.out 7,zc b8.out 8,zc b8.out 9,zc b8.out 10,zc b8.out 11,zc b8.out 12,zc b8.out 13,zc b8.out 14,zc b8.out 15,zc d9.out 0,zc d9.out 1,zc d9.out 2,zc d9.out 3,zc d9.out 4,zc e0.out 0,zc e0.out 1,zc e0.out 2,zc e0.out 3,zc e0.out 4⟩ (fun hHeld=>?_)
                   clear hK K
                   refine znm ?_
                   refine zon 9 (some 79) HT_.out (fun K hK=>?_)
                   refine zgo Try.func71 #[.agg #[.int .i64 i5,.int .i64 i6,.int .i64 i7,.int .i64 i8,.int .i64 i9,.int .i64 j2,.int .i64 j3,.int .i64 j4,.int .i64 j5,.int .i64 j6,.int .i64 e9,.int .i64 f5,.int .i64 f6,.int .i64 f7,.slice m7 e8.length m8,.bool g9],.agg #[.int .i64 z9,.int .i64 B0,.int .i64 B3,.int .i64 B7,.int .i64 C0],.int .i64 o4,.int .i64 (x8_2.length:Int)] ?_
                   with_reducible refine (zb5.calls k2 i5 i6 i7 i8 i9 j2 j3 j4 j5 j6 e9 f5 f6 f7 _ _ e8 g9 z9 B0 B3 B7 C0 o4 (x8_2.length:Int) n6 n9 o5 p9 t7 _ ?side1 ?side2 A51.out).mono ?_
                   (case side1=>repeat (first|exact (Kd.C_below t9.out HB.out)|(with_reducible refine Kd.C_alloc ?_ _)|(with_reducible refine Kd.C_drewN ?_ _)|(with_reducible refine Kd.C_drew ?_)))
                   (case side2=>exact u3.out)
                   rintro e w58 ⟨rfl,hb⟩
                   refine ⟨_,rfl,?_⟩
                   have n0_:=zaa.mk (Kd.R_below (by (with_reducible repeat (first|apply Kd.R_alloc|apply Kd.R_drewN|apply Kd.R_drew));exact HO_8.out) hb)
                   have n1_:=zaa.mk (zac (zB b8.out) hb)
                   have n2_:=zaa.mk (zac (zB d9.out) hb)
                   have n3_:=zaa.mk (zac (zB e0.out) hb)
                   have n4_:=zaa.mk (zac (zB k4.out) hb)
                   have n5_:=zaa.mk (zae (zL4 HB.out i4.out j9.out k3.out o2.out) hb)
                   clear HO_8
                   clear b8
                   clear d9
                   clear e0
                   clear k4
                   clear HB
                   have HO_8:=n0_
                   have b8:=n1_
                   have d9:=n2_
                   have e0:=n3_
                   have k4:=n4_
                   have HB:=n5_
                   clear n0_ n1_ n2_ n3_ n4_ n5_
                   (try clear hb);(try clear hb2);(try clear hk);(try clear hi)
                   refine hK.out _ _ ⟨zc b8.out 0,zc b8.out 1,zc b8.out 2,zc b8.out 3,zc b8.out 4,zc b8.out 5,zc b8.out 6,zc b8.out 7,zc b8.out 8,zc b8.out 9,zc b8.out 10,zc b8.out 11,zc b8.out 12,zc b8.out 13,zc b8.out 14,zc b8.out 15,zc d9.out 0,zc d9.out 1,zc d9.out 2,zc d9.out 3,zc d9.out 4,zc e0.out 0,zc e0.out 1,zc e0.out 2,zc e0.out 3,zc e0.out 4⟩ (fun hHeld=>?_)
                   clear hK K
                   refine znm ?_
                   exact norm_ (by simp only [zcg,Act.put,List.setIfInBounds_toArray,List.set_cons_zero,List.set_cons_succ]) (hCont (d5) _ ⟨hHeld,(by (with_reducible repeat (first|apply Kd.R_alloc|apply Kd.R_drewN|apply Kd.R_drew));exact Kd.R_mono HO_8.out (fun _ hk=>hk.2)),(zB b8.out),(zB d9.out),(zB e0.out),(zB k4.out),C6.out,o2.out,d6.out,n0.out,e6.out,n3.out,e7.out,n4.out,(zL4 HB.out i4.out j9.out k3.out o2.out)⟩)
                 ·skip
                  refine zcb ?hg (N:=16) ?hd (cs:=#[.int .i64 0,.int .i64 0,.int .i64 0,.int .i64 0,.int .i64 0]) (t:=28) ?hr ?_;(case hd=>rfl);(case hg=>rfl);(case hr=>first|(go_simp;done)|(go_simp;rfl))
                  intro d5 hg w56 hbox hb
                  have n0_:=zaa.mk (Kd.R_below (Kd.R_elderB (by (with_reducible repeat (first|apply Kd.R_alloc|apply Kd.R_drewN|apply Kd.R_drew));exact HO_8.out) d5 (Nat.le_of_eq hg.symm)) hb)
                  have n1_:=zaa.mk (zac (zB b8.out) hb)
                  have n2_:=zaa.mk (zac (zB d9.out) hb)
                  have n3_:=zaa.mk (zac (zB e0.out) hb)
                  have n4_:=zaa.mk (zae (zL3 HB.out i4.out j9.out k3.out) hb)
                  have n5_:=zaa.mk (hbox)
                  have n6_:=zaa.mk ((zS hg (zL3 HB.out i4.out j9.out k3.out):w.heap.size≤d5))
                  have n7_:=zaa.mk ((zS hg (zL3 HB.out i4.out j9.out k3.out):w.heap.size≤d5))
                  have n8_:=zaa.mk ((by rw [hg];exact Nat.ne_of_lt (zb6 (zB b8.out)):e5≠d5))
                  have n9_:=zaa.mk ((by rw [hg];exact Nat.ne_of_gt (zb6 (zB b8.out)):d5≠e5))
                  have n10_:=zaa.mk ((by rw [hg];exact Nat.ne_of_lt (zb6 (zB d9.out)):d7≠d5))
                  have n11_:=zaa.mk ((by rw [hg];exact Nat.ne_of_gt (zb6 (zB d9.out)):d5≠d7))
                  have n12_:=zaa.mk ((by rw [hg];exact Nat.ne_of_lt (zb6 (zB e0.out)):d8≠d5))
                  have n13_:=zaa.mk ((by rw [hg];exact Nat.ne_of_gt (zb6 (zB e0.out)):d5≠d8))
                  clear HO_8
                  clear b8
                  clear d9
                  clear e0
                  clear HB
                  have HO_8:=n0_
                  have b8:=n1_
                  have d9:=n2_
                  have e0:=n3_
                  have HB:=n4_
                  have k4:=n5_
                  have C6:=n6_
                  have o2:=n7_
                  have d6:=n8_
                  have n0:=n9_
                  have e6:=n10_
                  have n3:=n11_
                  have e7:=n12_
                  have n4:=n13_
                  clear n0_ n1_ n2_ n3_ n4_ n5_ n6_ n7_ n8_ n9_ n10_ n11_ n12_ n13_
                  clear hb hbox hg
                  refine hK.out _ _ ⟨zc b8.out 0,zc b8.out 1,zc b8.out 2,zc b8.out 3,zc b8.out 4,zc b8.out 5,zc b8.out 6,zc b8.out 7,zc b8.out 8,zc b8.out 9,zc b8.out 10,zc b8.out 11,zc b8.out 12,zc b8.out 13,zc b8.out 14,zc b8.out 15,zc d9.out 0,zc d9.out 1,zc d9.out 2,zc d9.out 3,zc d9.out 4,zc e0.out 0,zc e0.out 1,zc e0.out 2,zc e0.out 3,zc e0.out 4⟩ (fun hHeld=>?_)
                  clear hK K
                  refine znm ?_
                  refine zon 5 (some 75) HT_.out (fun K hK=>?_)
                  refine goes_ Try.func75 (by kernel_rfl) rfl #[.agg #[.int .i64 ((zab l1 (b9)).f0),.int .i64 ((zab l1 (b9)).f1),.int .i64 ((zab l1 (b9)).f2),.int .i64 ((zab l1 (b9)).f3),.int .i64 ((zab l1 (b9)).f4)],.agg #[.int .i64 ((zab l1 x10_1).f0),.int .i64 ((zab l1 x10_1).f1),.int .i64 ((zab l1 x10_1).f2),.int .i64 ((zab l1 x10_1).f3),.int .i64 ((zab l1 x10_1).f4)],.int .i64 (wrap64 (x15_2+x9_2)),.int .i64 o3] (by rfl) rfl rfl (by (try simp only [List.map_toArray,List.map_cons,List.map_nil]);first|done|(simp only [hji23];rfl)|rfl|(simp only [List.length_drop,List.length_take];rfl)) ?_
                  with_reducible refine (zbC.calls k2 ((zab l1 (b9)).f0) ((zab l1 (b9)).f1) ((zab l1 (b9)).f2) ((zab l1 (b9)).f3) ((zab l1 (b9)).f4) ((zab l1 x10_1).f0) ((zab l1 x10_1).f1) ((zab l1 x10_1).f2) ((zab l1 x10_1).f3) ((zab l1 x10_1).f4) (wrap64 (x15_2+x9_2)) o3 z9 B0 B3 B7 C0 _ A50.out).mono ?_
                  rintro e w57 ⟨rfl,hb⟩
                  refine ⟨_,rfl,?_⟩
                  have n0_:=zaa.mk (Kd.R_below (by (with_reducible repeat (first|apply Kd.R_alloc|apply Kd.R_drewN|apply Kd.R_drew));exact HO_8.out) hb)
                  have n1_:=zaa.mk (zac (zB b8.out) hb)
                  have n2_:=zaa.mk (zac (zB d9.out) hb)
                  have n3_:=zaa.mk (zac (zB e0.out) hb)
                  have n4_:=zaa.mk (zac (zB k4.out) hb)
                  have n5_:=zaa.mk (zae (zL4 HB.out i4.out j9.out k3.out o2.out) hb)
                  clear HO_8
                  clear b8
                  clear d9
                  clear e0
                  clear k4
                  clear HB
                  have HO_8:=n0_
                  have b8:=n1_
                  have d9:=n2_
                  have e0:=n3_
                  have k4:=n4_
                  have HB:=n5_
                  clear n0_ n1_ n2_ n3_ n4_ n5_
                  (try clear hb);(try clear hb2);(try clear hk);(try clear hi)
                  refine hK.out _ _ ⟨zc b8.out 0,zc b8.out 1,zc b8.out 2,zc b8.out 3,zc b8.out 4,zc b8.out 5,zc b8.out 6,zc b8.out 7,zc b8.out 8,zc b8.out 9,zc b8.out 10,zc b8.out 11,zc b8.out 12,zc b8.out 13,zc b8.out 14,zc b8.out 15,zc d9.out 0,zc d9.out 1,zc d9.out 2,zc d9.out 3,zc d9.out 4,zc e0.out 0,zc e0.out 1,zc e0.out 2,zc e0.out 3,zc e0.out 4⟩ (fun hHeld=>?_)
                  clear hK K
                  refine znm ?_
                  refine zon 9 (some 79) HT_.out (fun K hK=>?_)
                  refine zgo Try.func71 #[.agg #[.int .i64 i5,.int .i64 i6,.int .i64 i7,.int .i64 i8,.int .i64 i9,.int .i64 j2,.int .i64 j3,.int .i64 j4,.int .i64 j5,.int .i64 j6,.int .i64 e9,.int .i64 f5,.int .i64 f6,.int .i64 f7,.slice m7 e8.length m8,.bool g9],.agg #[.int .i64 z9,.int .i64 B0,.int .i64 B3,.int .i64 B7,.int .i64 C0],.int .i64 o4,.int .i64 (x8_2.length:Int)] ?_
                  with_reducible refine (zb5.calls k2 i5 i6 i7 i8 i9 j2 j3 j4 j5 j6 e9 f5 f6 f7 _ _ e8 g9 z9 B0 B3 B7 C0 o4 (x8_2.length:Int) n6 n9 o5 p9 t7 _ ?side1 ?side2 A51.out).mono ?_
                  (case side1=>repeat (first|exact (Kd.C_below t9.out HB.out)|(with_reducible refine Kd.C_alloc ?_ _)|(with_reducible refine Kd.C_drewN ?_ _)|(with_reducible refine Kd.C_drew ?_)))
                  (case side2=>exact u3.out)
                  rintro e w58 ⟨rfl,hb⟩
                  refine ⟨_,rfl,?_⟩
                  have n0_:=zaa.mk (Kd.R_below (by (with_reducible repeat (first|apply Kd.R_alloc|apply Kd.R_drewN|apply Kd.R_drew));exact HO_8.out) hb)
                  have n1_:=zaa.mk (zac (zB b8.out) hb)
                  have n2_:=zaa.mk (zac (zB d9.out) hb)
                  have n3_:=zaa.mk (zac (zB e0.out) hb)
                  have n4_:=zaa.mk (zac (zB k4.out) hb)
                  have n5_:=zaa.mk (zae (zL4 HB.out i4.out j9.out k3.out o2.out) hb)
                  clear HO_8
                  clear b8
                  clear d9
                  clear e0
                  clear k4
                  clear HB
                  have HO_8:=n0_
                  have b8:=n1_
                  have d9:=n2_
                  have e0:=n3_
                  have k4:=n4_
                  have HB:=n5_
                  clear n0_ n1_ n2_ n3_ n4_ n5_
                  (try clear hb);(try clear hb2);(try clear hk);(try clear hi)
                  refine hK.out _ _ ⟨zc b8.out 0,zc b8.out 1,zc b8.out 2,zc b8.out 3,zc b8.out 4,zc b8.out 5,zc b8.out 6,zc b8.out 7,zc b8.out 8,zc b8.out 9,zc b8.out 10,zc b8.out 11,zc b8.out 12,zc b8.out 13,zc b8.out 14,zc b8.out 15,zc d9.out 0,zc d9.out 1,zc d9.out 2,zc d9.out 3,zc d9.out 4,zc e0.out 0,zc e0.out 1,zc e0.out 2,zc e0.out 3,zc e0.out 4⟩ (fun hHeld=>?_)
                  clear hK K
                  refine znm ?_
                  exact norm_ (by simp only [zcg,Act.put,List.setIfInBounds_toArray,List.set_cons_zero,List.set_cons_succ]) (hCont (d5) _ ⟨hHeld,(by (with_reducible repeat (first|apply Kd.R_alloc|apply Kd.R_drewN|apply Kd.R_drew));exact Kd.R_mono HO_8.out (fun _ hk=>hk.2)),(zB b8.out),(zB d9.out),(zB e0.out),(zB k4.out),C6.out,o2.out,d6.out,n0.out,e6.out,n3.out,e7.out,n4.out,(zL4 HB.out i4.out j9.out k3.out o2.out)⟩)
                rintro d5 w59 ⟨hS_,h0_,h1_,h2_,h3_,h4_,h5_,h6_,h7_,h8_,h9_,h10_,h11_,h12_,h13_⟩
                have n0_:zaa (Kd.R k28 28 w59 w.heap.size (fun k_=>k_≠d5) (.slice Ao54 x8_2.length co54) x8_2):=⟨h0_⟩
                have n1_:zaa (w59.heap[e5]? = some (.cells #[.int .i64 i5,.int .i64 i6,.int .i64 i7,.int .i64 i8,.int .i64 i9,.int .i64 j2,.int .i64 j3,.int .i64 j4,.int .i64 j5,.int .i64 j6,.int .i64 e9,.int .i64 f5,.int .i64 f6,.int .i64 f7,.slice m7 e8.length m8,.bool g9] 26 (0,0))):=⟨h1_⟩
                have n2_:zaa (w59.heap[d7]? = some (.cells #[.int .i64 ((zab l1 (b9)).f0),.int .i64 ((zab l1 (b9)).f1),.int .i64 ((zab l1 (b9)).f2),.int .i64 ((zab l1 (b9)).f3),.int .i64 ((zab l1 (b9)).f4)] 57 (0,0))):=⟨h2_⟩
                have n3_:zaa (w59.heap[d8]? = some (.cells #[.int .i64 ((zab l1 x10_1).f0),.int .i64 ((zab l1 x10_1).f1),.int .i64 ((zab l1 x10_1).f2),.int .i64 ((zab l1 x10_1).f3),.int .i64 ((zab l1 x10_1).f4)] 57 (0,0))):=⟨h3_⟩
                have n4_:zaa (w59.heap[d5]? = some (.cells #[.int .i64 0,.int .i64 0,.int .i64 0,.int .i64 0,.int .i64 0] 28 (0,0))):=⟨h4_⟩
                have n5_:zaa (w.heap.size≤d5):=⟨h5_⟩
                have n6_:zaa (w.heap.size≤d5):=⟨h6_⟩
                have n7_:zaa (e5≠d5):=⟨h7_⟩
                have n8_:zaa (d5≠e5):=⟨h8_⟩
                have n9_:zaa (d7≠d5):=⟨h9_⟩
                have n10_:zaa (d5≠d7):=⟨h10_⟩
                have n11_:zaa (d8≠d5):=⟨h11_⟩
                have n12_:zaa (d5≠d8):=⟨h12_⟩
                have n13_:zaa (Below w.heap.size w w59):=⟨h13_⟩
                clear HO_8
                clear b8
                clear d9
                clear e0
                clear HB
                clear h0_ h1_ h2_ h3_ h4_ h5_ h6_ h7_ h8_ h9_ h10_ h11_ h12_ h13_
                have HO_8:=n0_
                have b8:=n1_
                have d9:=n2_
                have e0:=n3_
                have k4:=n4_
                have C6:=n5_
                have o2:=n6_
                have d6:=n7_
                have n0:=n8_
                have e6:=n9_
                have n3:=n10_
                have e7:=n11_
                have n4:=n12_
                have HB:=n13_
                clear n0_ n1_ n2_ n3_ n4_ n5_ n6_ n7_ n8_ n9_ n10_ n11_ n12_ n13_
                have hHeld:w59.cell? ⟨e5,0,none⟩=some (.int .i64 i5)∧w59.cell? ⟨e5,1,none⟩=some (.int .i64 i6)∧w59.cell? ⟨e5,2,none⟩=some (.int .i64 i7)∧w59.cell? ⟨e5,3,none⟩=some (.int .i64 i8)∧w59.cell? ⟨e5,4,none⟩=some (.int .i64 i9)∧w59.cell? ⟨e5,5,none⟩=some (.int .i64 j2)∧w59.cell? ⟨e5,6,none⟩=some (.int .i64 j3)∧w59.cell? ⟨e5,7,none⟩=some (.int .i64 j4)∧w59.cell? ⟨e5,8,none⟩=some (.int .i64 j5)∧w59.cell? ⟨e5,9,none⟩=some (.int .i64 j6)∧w59.cell? ⟨e5,10,none⟩=some (.int .i64 e9)∧w59.cell? ⟨e5,11,none⟩=some (.int .i64 f5)∧w59.cell? ⟨e5,12,none⟩=some (.int .i64 f6)∧w59.cell? ⟨e5,13,none⟩=some (.int .i64 f7)∧w59.cell? ⟨e5,14,none⟩=some (.slice m7 e8.length m8)∧w59.cell? ⟨e5,15,none⟩=some (.bool g9)∧w59.cell? ⟨d7,0,none⟩=some (.int .i64 ((zab l1 (b9)).f0))∧w59.cell? ⟨d7,1,none⟩=some (.int .i64 ((zab l1 (b9)).f1))∧w59.cell? ⟨d7,2,none⟩=some (.int .i64 ((zab l1 (b9)).f2))∧w59.cell? ⟨d7,3,none⟩=some (.int .i64 ((zab l1 (b9)).f3))∧w59.cell? ⟨d7,4,none⟩=some (.int .i64 ((zab l1 (b9)).f4))∧w59.cell? ⟨d8,0,none⟩=some (.int .i64 ((zab l1 x10_1).f0))∧w59.cell? ⟨d8,1,none⟩=some (.int .i64 ((zab l1 x10_1).f1))∧w59.cell? ⟨d8,2,none⟩=some (.int .i64 ((zab l1 x10_1).f2))∧w59.cell? ⟨d8,3,none⟩=some (.int .i64 ((zab l1 x10_1).f3))∧w59.cell? ⟨d8,4,none⟩=some (.int .i64 ((zab l1 x10_1).f4)):=hS_
                refine norm_ (a':=?_) ?_ ?_
                rotate_left
                ·simp only [zcg,Act.put,List.setIfInBounds_toArray,List.set_cons_zero,List.set_cons_succ]
                 rfl
                refine zon 11 none HT_.out (fun K hK=>?_)
                have hs60:w59.cell? ⟨d5,0,none⟩=some (.int .i64 0):=zc k4.out 0
                have hfs60:=zaB k4.out 0
                have hns60_0:=d6.out
                have hns60_1:=e6.out
                have hns60_2:=e7.out
                have hms60_0:=n0.out
                have hms60_1:=n3.out
                have hms60_2:=n4.out
                have hs61:w59.cell? ⟨d5,1,none⟩=some (.int .i64 0):=zc k4.out 1
                have hfs61:=zaB k4.out 1
                have hns61_0:=d6.out
                have hns61_1:=e6.out
                have hns61_2:=e7.out
                have hms61_0:=n0.out
                have hms61_1:=n3.out
                have hms61_2:=n4.out
                have hs62:w59.cell? ⟨d5,2,none⟩=some (.int .i64 0):=zc k4.out 2
                have hfs62:=zaB k4.out 2
                have hns62_0:=d6.out
                have hns62_1:=e6.out
                have hns62_2:=e7.out
                have hms62_0:=n0.out
                have hms62_1:=n3.out
                have hms62_2:=n4.out
                have hs63:w59.cell? ⟨d5,3,none⟩=some (.int .i64 0):=zc k4.out 3
                have hfs63:=zaB k4.out 3
                have hns63_0:=d6.out
                have hns63_1:=e6.out
                have hns63_2:=e7.out
                have hms63_0:=n0.out
                have hms63_1:=n3.out
                have hms63_2:=n4.out
                have hs64:w59.cell? ⟨d5,4,none⟩=some (.int .i64 0):=zc k4.out 4
                have hfs64:=zaB k4.out 4
                have hns64_0:=d6.out
                have hns64_1:=e6.out
                have hns64_2:=e7.out
                have hms64_0:=n0.out
                have hms64_1:=n3.out
                have hms64_2:=n4.out
                refine skip_ (w1:=?_) (by rfl) rfl ?_ ?_
                rotate_left
                ·go_simp
                 rfl
                refine hK.out _ _ ⟨((zaX (p:=⟨d5,_,none⟩) d6.out _).trans (((zaX (p:=⟨d5,_,none⟩) d6.out _).trans (((zaX (p:=⟨d5,_,none⟩) d6.out _).trans (((zaX (p:=⟨d5,_,none⟩) d6.out _).trans (((zaX (p:=⟨d5,_,none⟩) d6.out _).trans (hHeld.1)))))))))),((zaX (p:=⟨d5,_,none⟩) d6.out _).trans (((zaX (p:=⟨d5,_,none⟩) d6.out _).trans (((zaX (p:=⟨d5,_,none⟩) d6.out _).trans (((zaX (p:=⟨d5,_,none⟩) d6.out _).trans (((zaX (p:=⟨d5,_,none⟩) d6.out _).trans (hHeld.2.1)))))))))),((zaX (p:=⟨d5,_,none⟩) d6.out _).trans (((zaX (p:=⟨d5,_,none⟩) d6.out _).trans (((zaX (p:=⟨d5,_,none⟩) d6.out _).trans (((zaX (p:=⟨d5,_,none⟩) d6.out _).trans (((zaX (p:=⟨d5,_,none⟩) d6.out _).trans (hHeld.2.2.1)))))))))),((zaX (p:=⟨d5,_,none⟩) d6.out _).trans (((zaX (p:=⟨d5,_,none⟩) d6.out _).trans (((zaX (p:=⟨d5,_,none⟩) d6.out _).trans (((zaX (p:=⟨d5,_,none⟩) d6.out _).trans (((zaX (p:=⟨d5,_,none⟩) d6.out _).trans (hHeld.2.2.2.1)))))))))),((zaX (p:=⟨d5,_,none⟩) d6.out _).trans (((zaX (p:=⟨d5,_,none⟩) d6.out _).trans (((zaX (p:=⟨d5,_,none⟩) d6.out _).trans (((zaX (p:=⟨d5,_,none⟩) d6.out _).trans (((zaX (p:=⟨d5,_,none⟩) d6.out _).trans (hHeld.2.2.2.2.1)))))))))),((zaX (p:=⟨d5,_,none⟩) d6.out _).trans (((zaX (p:=⟨d5,_,none⟩) d6.out _).trans (((zaX (p:=⟨d5,_,none⟩) d6.out _).trans (((zaX (p:=⟨d5,_,none⟩) d6.out _).trans (((zaX (p:=⟨d5,_,none⟩) d6.out _).trans (hHeld.2.2.2.2.2.1)))))))))),((zaX (p:=⟨d5,_,none⟩) d6.out _).trans (((zaX (p:=⟨d5,_,none⟩) d6.out _).trans (((zaX (p:=⟨d5,_,none⟩) d6.out _).trans (((zaX (p:=⟨d5,_,none⟩) d6.out _).trans (((zaX (p:=⟨d5,_,none⟩) d6.out _).trans (hHeld.2.2.2.2.2.2.1)))))))))),((zaX (p:=⟨d5,_,none⟩) d6.out _).trans (((zaX (p:=⟨d5,_,none⟩) d6.out _).trans (((zaX (p:=⟨d5,_,none⟩) d6.out _).trans (((zaX (p:=⟨d5,_,none⟩) d6.out _).trans (((zaX (p:=⟨d5,_,none⟩) d6.out _).trans (hHeld.2.2.2.2.2.2.2.1)))))))))),((zaX (p:=⟨d5,_,none⟩) d6.out _).trans (((zaX (p:=⟨d5,_,none⟩) d6.out _).trans (((zaX (p:=⟨d5,_,none⟩) d6.out _).trans (((zaX (p:=⟨d5,_,none⟩) d6.out _).trans (((zaX (p:=⟨d5,_,none⟩) d6.out _).trans (hHeld.2.2.2.2.2.2.2.2.1)))))))))),((zaX (p:=⟨d5,_,none⟩) d6.out _).trans (((zaX (p:=⟨d5,_,none⟩) d6.out _).trans (((zaX (p:=⟨d5,_,none⟩) d6.out _).trans (((zaX (p:=⟨d5,_,none⟩) d6.out _).trans (((zaX (p:=⟨d5,_,none⟩) d6.out _).trans (hHeld.2.2.2.2.2.2.2.2.2.1)))))))))),((zaX (p:=⟨d5,_,none⟩) d6.out _).trans (((zaX (p:=⟨d5,_,none⟩) d6.out _).trans (((zaX (p:=⟨d5,_,none⟩) d6.out _).trans (((zaX (p:=⟨d5,_,none⟩) d6.out _).trans (((zaX (p:=⟨d5,_,none⟩) d6.out _).trans (hHeld.2.2.2.2.2.2.2.2.2.2.1)))))))))),((zaX (p:=⟨d5,_,none⟩) d6.out _).trans (((zaX (p:=⟨d5,_,none⟩) d6.out _).trans (((zaX (p:=⟨d5,_,none⟩) d6.out _).trans (((zaX (p:=⟨d5,_,none⟩) d6.out _).trans (((zaX (p:=⟨d5,_,none⟩) d6.out _).trans (hHeld.2.2.2.2.2.2.2.2.2.2.2.1)))))))))),((zaX (p:=⟨d5,_,none⟩) d6.out _).trans (((zaX (p:=⟨d5,_,none⟩) d6.out _).trans (((zaX (p:=⟨d5,_,none⟩) d6.out _).trans (((zaX (p:=⟨d5,_,none⟩) d6.out _).trans (((zaX (p:=⟨d5,_,none⟩) d6.out _).trans (hHeld.2.2.2.2.2.2.2.2.2.2.2.2.1)))))))))),((zaX (p:=⟨d5,_,none⟩) d6.out _).trans (((zaX (p:=⟨d5,_,none⟩) d6.out _).trans (((zaX (p:=⟨d5,_,none⟩) d6.out _).trans (((zaX (p:=⟨d5,_,none⟩) d6.out _).trans (((zaX (p:=⟨d5,_,none⟩) d6.out _).trans (hHeld.2.2.2.2.2.2.2.2.2.2.2.2.2.1)))))))))),((zaX (p:=⟨d5,_,none⟩) d6.out _).trans (((zaX (p:=⟨d5,_,none⟩) d6.out _).trans (((zaX (p:=⟨d5,_,none⟩) d6.out _).trans (((zaX (p:=⟨d5,_,none⟩) d6.out _).trans (((zaX (p:=⟨d5,_,none⟩) d6.out _).trans (hHeld.2.2.2.2.2.2.2.2.2.2.2.2.2.2.1)))))))))),((zaX (p:=⟨d5,_,none⟩) d6.out _).trans (((zaX (p:=⟨d5,_,none⟩) d6.out _).trans (((zaX (p:=⟨d5,_,none⟩) d6.out _).trans (((zaX (p:=⟨d5,_,none⟩) d6.out _).trans (((zaX (p:=⟨d5,_,none⟩) d6.out _).trans (hHeld.2.2.2.2.2.2.2.2.2.2.2.2.2.2.2.1)))))))))),((zaX (p:=⟨d5,_,none⟩) e6.out _).trans (((zaX (p:=⟨d5,_,none⟩) e6.out _).trans (((zaX (p:=⟨d5,_,none⟩) e6.out _).trans (((zaX (p:=⟨d5,_,none⟩) e6.out _).trans (((zaX (p:=⟨d5,_,none⟩) e6.out _).trans (hHeld.2.2.2.2.2.2.2.2.2.2.2.2.2.2.2.2.1)))))))))),((zaX (p:=⟨d5,_,none⟩) e6.out _).trans (((zaX (p:=⟨d5,_,none⟩) e6.out _).trans (((zaX (p:=⟨d5,_,none⟩) e6.out _).trans (((zaX (p:=⟨d5,_,none⟩) e6.out _).trans (((zaX (p:=⟨d5,_,none⟩) e6.out _).trans (hHeld.2.2.2.2.2.2.2.2.2.2.2.2.2.2.2.2.2.1)))))))))),((zaX (p:=⟨d5,_,none⟩) e6.out _).trans (((zaX (p:=⟨d5,_,none⟩) e6.out _).trans (((zaX (p:=⟨d5,_,none⟩) e6.out _).trans (((zaX (p:=⟨d5,_,none⟩) e6.out _).trans (((zaX (p:=⟨d5,_,none⟩) e6.out _).trans (hHeld.2.2.2.2.2.2.2.2.2.2.2.2.2.2.2.2.2.2.1)))))))))),((zaX (p:=⟨d5,_,none⟩) e6.out _).trans (((zaX (p:=⟨d5,_,none⟩) e6.out _).trans (((zaX (p:=⟨d5,_,none⟩) e6.out _).trans (((zaX (p:=⟨d5,_,none⟩) e6.out _).trans (((zaX (p:=⟨d5,_,none⟩) e6.out _).trans (hHeld.2.2.2.2.2.2.2.2.2.2.2.2.2.2.2.2.2.2.2.1)))))))))),((zaX (p:=⟨d5,_,none⟩) e6.out _).trans (((zaX (p:=⟨d5,_,none⟩) e6.out _).trans (((zaX (p:=⟨d5,_,none⟩) e6.out _).trans (((zaX (p:=⟨d5,_,none⟩) e6.out _).trans (((zaX (p:=⟨d5,_,none⟩) e6.out _).trans (hHeld.2.2.2.2.2.2.2.2.2.2.2.2.2.2.2.2.2.2.2.2.1)))))))))),((zaX (p:=⟨d5,_,none⟩) e7.out _).trans (((zaX (p:=⟨d5,_,none⟩) e7.out _).trans (((zaX (p:=⟨d5,_,none⟩) e7.out _).trans (((zaX (p:=⟨d5,_,none⟩) e7.out _).trans (((zaX (p:=⟨d5,_,none⟩) e7.out _).trans (hHeld.2.2.2.2.2.2.2.2.2.2.2.2.2.2.2.2.2.2.2.2.2.1)))))))))),((zaX (p:=⟨d5,_,none⟩) e7.out _).trans (((zaX (p:=⟨d5,_,none⟩) e7.out _).trans (((zaX (p:=⟨d5,_,none⟩) e7.out _).trans (((zaX (p:=⟨d5,_,none⟩) e7.out _).trans (((zaX (p:=⟨d5,_,none⟩) e7.out _).trans (hHeld.2.2.2.2.2.2.2.2.2.2.2.2.2.2.2.2.2.2.2.2.2.2.1)))))))))),((zaX (p:=⟨d5,_,none⟩) e7.out _).trans (((zaX (p:=⟨d5,_,none⟩) e7.out _).trans (((zaX (p:=⟨d5,_,none⟩) e7.out _).trans (((zaX (p:=⟨d5,_,none⟩) e7.out _).trans (((zaX (p:=⟨d5,_,none⟩) e7.out _).trans (hHeld.2.2.2.2.2.2.2.2.2.2.2.2.2.2.2.2.2.2.2.2.2.2.2.1)))))))))),((zaX (p:=⟨d5,_,none⟩) e7.out _).trans (((zaX (p:=⟨d5,_,none⟩) e7.out _).trans (((zaX (p:=⟨d5,_,none⟩) e7.out _).trans (((zaX (p:=⟨d5,_,none⟩) e7.out _).trans (((zaX (p:=⟨d5,_,none⟩) e7.out _).trans (hHeld.2.2.2.2.2.2.2.2.2.2.2.2.2.2.2.2.2.2.2.2.2.2.2.2.1)))))))))),((zaX (p:=⟨d5,_,none⟩) e7.out _).trans (((zaX (p:=⟨d5,_,none⟩) e7.out _).trans (((zaX (p:=⟨d5,_,none⟩) e7.out _).trans (((zaX (p:=⟨d5,_,none⟩) e7.out _).trans (((zaX (p:=⟨d5,_,none⟩) e7.out _).trans (hHeld.2.2.2.2.2.2.2.2.2.2.2.2.2.2.2.2.2.2.2.2.2.2.2.2.2))))))))))⟩ (fun hHeld=>?_)
                clear hK K
                refine zbT (zbB HT_.out (by kernel_rfl)) ?_
                have hnb65:=n0.out
                have hnc65:=d6.out
                have hnb66:=n3.out
                have hnc66:=e6.out
                have hnb67:=n4.out
                have hnc67:=e7.out
                obtain ⟨K9,L0,L1,L2,L3⟩:=zD5 k4.out
                obtain ⟨L4,L5,L6,L7,L8⟩:=zE5 k4.out
                try go_wp2_with (first|((with_reducible refine zbK rfl ?_);refine zle26 ?_)|((with_reducible refine zbL rfl ?_);refine zle28 ?_)|((with_reducible refine zbM rfl ?_);refine zle57 ?_)|((with_reducible refine gate_builtin (b:=.append) (xs:=#[.tmp 80,.tmp 82]) rfl ?_);at_builtin;refine Kd.R_append k28 (w0:=w) w.heap.size rfl (.tmp 80) (.tmp 82) 51 28 (.agg #[(.int .i64 0),(.int .i64 0),(.int .i64 0),(.int .i64 0),(.int .i64 0)]) 40 rfl Try.underlying51 info28 rfl (by decide) (by omega) (.slice Ao54 x8_2.length co54) x8_2 (⟨n6,n9,o5,p9,t7⟩:S28) [.int .i64 n6,.int .i64 n9,.int .i64 o5,.int .i64 p9,.int .i64 t7] (fun k_=>k_≠d5) (fun _=>False) rfl (by first|(go_simp;done)|(go_simp;rfl)) ?aP (fun _ hk=>hk.elim) ?aF ?aO ?aB ?aS ?aL ?_;(case aP=>exact k28_mkM _ _ _ (⟨n6,n9,o5,p9,t7⟩:S28));(case aB=>exact (zL4 HB.out i4.out j9.out k3.out o2.out));(case aF=>exact (fun k_ hk=>Kd.freshB (g:=d5) (o:=.cells #[.int .i64 n6,.int .i64 n9,.int .i64 o5,.int .i64 p9,.int .i64 t7] 28 (0,0)) (by refine zB ?_;refine zar (cs:=#[.int .i64 n6,.int .i64 n9,.int .i64 o5,.int .i64 p9,.int .i64 0]) ?_ 4 _ rfl;refine zB ?_;refine zar (cs:=#[.int .i64 n6,.int .i64 n9,.int .i64 o5,.int .i64 0,.int .i64 0]) ?_ 3 _ rfl;refine zB ?_;refine zar (cs:=#[.int .i64 n6,.int .i64 n9,.int .i64 0,.int .i64 0,.int .i64 0]) ?_ 2 _ rfl;refine zB ?_;refine zar (cs:=#[.int .i64 n6,.int .i64 0,.int .i64 0,.int .i64 0,.int .i64 0]) ?_ 1 _ rfl;refine zB ?_;refine zar (cs:=#[.int .i64 0,.int .i64 0,.int .i64 0,.int .i64 0,.int .i64 0]) ?_ 0 _ rfl;refine zB ?_;exact k4.out) k_ hk));(case aO=>exact (by (with_reducible repeat (first|apply Kd.R_alloc|apply Kd.R_drewN|apply Kd.R_drew));exact Kd.R_mono (Kd.R_far (p:=⟨d5,4,none⟩) (Kd.R_far (p:=⟨d5,3,none⟩) (Kd.R_far (p:=⟨d5,2,none⟩) (Kd.R_far (p:=⟨d5,1,none⟩) (Kd.R_far (p:=⟨d5,0,none⟩) (Kd.R_mono HO_8.out (fun k_ hk=>(⟨hk,hk⟩:_∧k_≠d5))) (fun _ hk=>hk.2) (.int .i64 n6)) (fun _ hk=>hk.2) (.int .i64 n9)) (fun _ hk=>hk.2) (.int .i64 o5)) (fun _ hk=>hk.2) (.int .i64 p9)) (fun _ hk=>hk.2) (.int .i64 t7)) (fun _ hk=>hk.1)));(case aS=>exact (zbJ (zL4 HB.out i4.out j9.out k3.out o2.out)));(case aL=>have:=LMc52.out;omega);intro v181 w69 ho hb hg hat;rw [← Ny180.out] at ho;have n0_:=zaa.mk (blk_grown (g:=e5) (o:=.cells #[.int .i64 i5,.int .i64 i6,.int .i64 i7,.int .i64 i8,.int .i64 i9,.int .i64 j2,.int .i64 j3,.int .i64 j4,.int .i64 j5,.int .i64 j6,.int .i64 e9,.int .i64 f5,.int .i64 f6,.int .i64 f7,.slice m7 e8.length m8,.bool g9] 26 (0,0)) (by refine zB ?_;refine zaA ?_ d6.out _;refine zB ?_;refine zaA ?_ d6.out _;refine zB ?_;refine zaA ?_ d6.out _;refine zB ?_;refine zaA ?_ d6.out _;refine zB ?_;refine zaA ?_ d6.out _;refine zB ?_;exact b8.out) hg (Kd.R_ne HO_8.out b8.out (by decide)));have n1_:=zaa.mk (blk_grown (g:=d7) (o:=.cells #[.int .i64 ((zab l1 (b9)).f0),.int .i64 ((zab l1 (b9)).f1),.int .i64 ((zab l1 (b9)).f2),.int .i64 ((zab l1 (b9)).f3),.int .i64 ((zab l1 (b9)).f4)] 57 (0,0)) (by refine zB ?_;refine zaA ?_ e6.out _;refine zB ?_;refine zaA ?_ e6.out _;refine zB ?_;refine zaA ?_ e6.out _;refine zB ?_;refine zaA ?_ e6.out _;refine zB ?_;refine zaA ?_ e6.out _;refine zB ?_;exact d9.out) hg (Kd.R_ne HO_8.out d9.out (by decide)));have n2_:=zaa.mk (blk_grown (g:=d8) (o:=.cells #[.int .i64 ((zab l1 x10_1).f0),.int .i64 ((zab l1 x10_1).f1),.int .i64 ((zab l1 x10_1).f2),.int .i64 ((zab l1 x10_1).f3),.int .i64 ((zab l1 x10_1).f4)] 57 (0,0)) (by refine zB ?_;refine zaA ?_ e7.out _;refine zB ?_;refine zaA ?_ e7.out _;refine zB ?_;refine zaA ?_ e7.out _;refine zB ?_;refine zaA ?_ e7.out _;refine zB ?_;refine zaA ?_ e7.out _;refine zB ?_;exact e0.out) hg (Kd.R_ne HO_8.out e0.out (by decide)));have n3_:=zaa.mk (blk_grown (g:=d5) (o:=.cells #[.int .i64 n6,.int .i64 n9,.int .i64 o5,.int .i64 p9,.int .i64 t7] 28 (0,0)) (by refine zB ?_;refine zar (cs:=#[.int .i64 n6,.int .i64 n9,.int .i64 o5,.int .i64 p9,.int .i64 0]) ?_ 4 _ rfl;refine zB ?_;refine zar (cs:=#[.int .i64 n6,.int .i64 n9,.int .i64 o5,.int .i64 0,.int .i64 0]) ?_ 3 _ rfl;refine zB ?_;refine zar (cs:=#[.int .i64 n6,.int .i64 n9,.int .i64 0,.int .i64 0,.int .i64 0]) ?_ 2 _ rfl;refine zB ?_;refine zar (cs:=#[.int .i64 n6,.int .i64 0,.int .i64 0,.int .i64 0,.int .i64 0]) ?_ 1 _ rfl;refine zB ?_;refine zar (cs:=#[.int .i64 0,.int .i64 0,.int .i64 0,.int .i64 0,.int .i64 0]) ?_ 0 _ rfl;refine zB ?_;exact k4.out) hg (Kd.R_away HO_8.out (fun _ hk=>hk)));have n4_:=zaa.mk (hb);have n5_:=zaa.mk (ho);clear b8;clear d9;clear e0;clear k4;clear HB;clear HO_8;have b8:=n0_;have d9:=n1_;have e0:=n2_;have k4:=n3_;have HB:=n4_;have C8:=n5_;clear n0_ n1_ n2_ n3_ n4_ n5_;clear ho hb hg hat;have hnb70:=m5.out;have hnc70:=n7.out;have hnb71:=m6.out;have hnc71:=n8.out;obtain ⟨L9,M0,M1,M2,M3,M4,M5,M6,M7,M8,H3,H4,H5,H6,H7,H8⟩:=zD16 b8.out;obtain ⟨M9,N0,N1,N2,N3,N4,N5,N6,N7,N8,H9,I0,I1,I2,I3,I4⟩:=zE16 b8.out;obtain ⟨N9,O0,O1,O2,O3⟩:=zD5 k4.out;obtain ⟨O4,O5,O6,O7,O8⟩:=zE5 k4.out)|((with_reducible refine zah (f:=72) rfl ?_);refine zgl 86 Try.func72 #[.agg #[.int .i64 i5,.int .i64 i6,.int .i64 i7,.int .i64 i8,.int .i64 i9,.int .i64 j2,.int .i64 j3,.int .i64 j4,.int .i64 j5,.int .i64 j6,.int .i64 e9,.int .i64 f5,.int .i64 f6,.int .i64 f7,.slice m7 e8.length m8,.bool g9],.agg #[.int .i64 n6,.int .i64 n9,.int .i64 o5,.int .i64 p9,.int .i64 t7]] ?_;(with_reducible refine (zbP.calls k2 i5 i6 i7 i8 i9 j2 j3 j4 j5 j6 e9 f5 f6 f7 _ _ e8 g9 n6 n9 o5 p9 t7 z8 _ ?side1 ?side2 A53.out).mono ?_);(case side1=>repeat (first|exact (Kd.C_below t9.out HB.out)|(with_reducible refine Kd.C_alloc ?_ _)|(with_reducible refine Kd.C_drewN ?_ _)|(with_reducible refine Kd.C_drew ?_)));(case side2=>exact u3.out);rintro e w74 ⟨rfl,hb⟩;refine ⟨_,rfl,?_⟩;have n0_:=zaa.mk (Kd.R_below (by (with_reducible repeat (first|apply Kd.R_alloc|apply Kd.R_drewN|apply Kd.R_drew));exact C8.out) hb);have n1_:=zaa.mk (zac (zB b8.out) hb);have n2_:=zaa.mk (zac (zB d9.out) hb);have n3_:=zaa.mk (zac (zB e0.out) hb);have n4_:=zaa.mk (zac (zB k4.out) hb);have n5_:=zaa.mk (zae (zL4 HB.out i4.out j9.out k3.out o2.out) hb);clear C8;clear b8;clear d9;clear e0;clear k4;clear HB;have C8:=n0_;have b8:=n1_;have d9:=n2_;have e0:=n3_;have k4:=n4_;have HB:=n5_;clear n0_ n1_ n2_ n3_ n4_ n5_;(try clear hb);(try clear hb2);(try clear hk);(try clear hi)))
                go_roundg k2
                case measure=>have:=F5.out;have:=F6.out;omega
                case rel=>exact ⟨(y180),(z8),(wrap64 (x15_2+x9_2)),zF,zF,H',⟨by have:=F5.out;have:=F6.out;omega⟩,⟨by (with_reducible repeat (first|apply Kd.R_alloc|apply Kd.R_drewN|apply Kd.R_drew));exact Kd.R_mono C8.out (fun _ hk=>trivial)⟩,⟨by refine zB ?_;exact b8.out⟩,⟨by refine zB ?_;exact d9.out⟩,⟨by refine zB ?_;exact e0.out⟩,⟨by repeat (first|(with_reducible first|exact HB.out|apply zan|apply zaj|apply zai|refine zao ?_ i4.out|refine zao ?_ j9.out|refine zao ?_ k3.out|refine zao ?_ o2.out)|exact HB.out)⟩⟩
               ·rw [if_neg c52] at H
                exact absurd H (by simp)
             ·rw [if_neg c47] at H
              have c47b0:decide (x9_2≤(wrap64 (o3 - x15_2)))=false:=decide_eq_false c47
              clear c47
              have H':=zaa.mk H
              clear H
              go_wp2
              go_roundg k2
              case measure=>have:=F5.out;have:=F6.out;omega
              case rel=>exact ⟨(x8_2),(wrap64 (x9_2 - (wrap64 (o3 - x15_2)))),(wrap64 (x10_1+1)),zF,zF,H',⟨by have:=F5.out;have:=F6.out;omega⟩,⟨by (with_reducible repeat (first|apply Kd.R_alloc|apply Kd.R_drewN|apply Kd.R_drew));exact HO_8.out⟩,⟨by refine zB ?_;exact b8.out⟩,⟨by repeat (first|(with_reducible first|exact HB.out|apply zan|apply zaj|apply zai|refine zao ?_ i4.out|refine zao ?_ j9.out|refine zao ?_ k3.out)|exact HB.out)⟩⟩
          ·rw [if_neg c26] at H
           exact absurd H (by simp)
         ·rw [if_neg c25] at H
          exact absurd H (by simp)
        ·rw [if_neg c24] at H
         exact absurd H (by simp)
       ·rw [if_neg c22] at H
        have c22b0:decide (x10_1<(l1.length:Int))=false:=decide_eq_false c22
        clear c22
        simp only [Option.some.injEq,Prod.mk.injEq] at H
        obtain ⟨rfl,rfl⟩:=H
        go_wp2
        go_ret2
        exact ⟨_,by first|rfl|(simp [zaK,zaL] <;> rfl)|(simp [*,zaK,zaL] <;> rfl),by (with_reducible repeat (first|apply Kd.R_alloc|apply Kd.R_drewN|apply Kd.R_drew));exact HO_8.out,by repeat (first|(with_reducible first|exact HB.out|apply zan|apply zaj|apply zai|refine zao ?_ i4.out)|exact HB.out)⟩
    ·rw [if_neg c9] at H
     exact absurd H (by simp)
   ·rw [if_neg c7] at H
    exact absurd H (by simp)
  ·rw [if_neg c6] at H
   have c6b0:(p8==0)=false:=beq_eq_false_iff_ne.mpr c6
   have c6b1:(p8 != 0)=true:=bne_iff_ne.mpr c6
   simp only [Option.some.injEq,Prod.mk.injEq] at H
   obtain ⟨rfl,rfl⟩:=H
   go_enter Try.func25,Try.ntmps25
   go_wp2_with (first|((with_reducible refine zbK rfl ?_);refine zle26 ?_)|((with_reducible refine zbL rfl ?_);refine zle28 ?_)|((with_reducible refine zbM rfl ?_);refine zle57 ?_)|((with_reducible refine zaC (N:=2) rfl ?_);refine zbx (N:=2) #[.int .i64 i5,.int .i64 i6,.int .i64 i7,.int .i64 i8,.int .i64 i9,.int .i64 j2,.int .i64 j3,.int .i64 j4,.int .i64 j5,.int .i64 j6,.int .i64 e9,.int .i64 f5,.int .i64 f6,.int .i64 f7,.slice m7 e8.length m8,.bool g9] 26 ?_;intro e5 hg w75 hbox hb;have n0_:=zaa.mk (zae (zL HB.out) hb);have n1_:=zaa.mk (hbox);have n2_:=zaa.mk ((zS hg (zL HB.out):w.heap.size≤e5));have n3_:=n2_;clear HB;have HB:=n0_;have b8:=n1_;have F4:=n2_;have i4:=n3_;clear n0_ n1_ n2_ n3_;clear hb hbox hg;obtain ⟨O9,P0,P1,P2,P3,P4,P5,P6,P7,P8,I5,I6,I7,I8,I9,J0⟩:=zD16 b8.out;obtain ⟨P9,Q0,Q1,Q2,Q3,Q4,Q5,Q6,Q7,Q8,J1,J2,J3,J4,J5,J6⟩:=zE16 b8.out)|((with_reducible refine zah (f:=14) rfl ?_);refine zgl 18 Try.func14 #[.agg #[.int .i64 i5,.int .i64 i6,.int .i64 i7,.int .i64 i8,.int .i64 i9,.int .i64 j2,.int .i64 j3,.int .i64 j4,.int .i64 j5,.int .i64 j6,.int .i64 e9,.int .i64 f5,.int .i64 f6,.int .i64 f7,.slice m7 e8.length m8,.bool g9]] ?_;(with_reducible refine (zaG.calls k i5 i6 i7 i8 i9 j2 j3 j4 j5 j6 e9 f5 f6 f7 _ _ e8 g9 t6 _ ?side1 ?side2 A3.out).mono ?_);(case side1=>repeat (first|exact (Kd.C_below t9.out HB.out)|(with_reducible refine Kd.C_alloc ?_ _)|(with_reducible refine Kd.C_drewN ?_ _)|(with_reducible refine Kd.C_drew ?_)));(case side2=>exact u3.out);rintro e w77 ⟨rfl,hb⟩;refine ⟨_,rfl,?_⟩;replace b8:=zaa.mk (zac (zB b8.out) hb);replace HB:=zaa.mk (zae (zL1 HB.out i4.out) hb);(try clear hb);(try clear hb2);(try clear hk);(try clear hi))|((with_reducible refine zah (f:=30) rfl ?_);refine zgl 23 Try.func30 #[.slice A1 l1.length c1] ?_;(with_reducible refine (zaP.calls k _ _ l1 p8 _ ?side1 ?side2 A5.out).mono ?_);(case side1=>repeat (first|exact (Kd.C_below HR1.out HB.out)|(with_reducible refine Kd.C_alloc ?_ _)|(with_reducible refine Kd.C_drewN ?_ _)|(with_reducible refine Kd.C_drew ?_)));(case side2=>exact HC1.out);rintro e w78 ⟨rfl,hb⟩;refine ⟨_,rfl,?_⟩;replace b8:=zaa.mk (zac (zB b8.out) hb);replace HB:=zaa.mk (zae (zL1 HB.out i4.out) hb);(try clear hb);(try clear hb2);(try clear hk);(try clear hi)))
   go_ret2
   exact ⟨_,by first|rfl|(simp [zaK,zaL] <;> rfl)|(simp [*,zaK,zaL] <;> rfl),by first|exact Kd.R_nil _ _ _ _ _|exact Kd.N_nil _ _ _ _ _|exact Kd.V_nil _ _ _ _ _|exact Kd.Q_nil _ _ _ _ _|exact Kd.S_nil _ _ _ _ _,by repeat (first|(with_reducible first|exact HB.out|apply zan|apply zaj|apply zai|refine zao ?_ i4.out)|exact HB.out)⟩
 ·rw [if_neg c4] at H
  have c4b0:(t6==0)=false:=beq_eq_false_iff_ne.mpr c4
  have c4b1:(t6 != 0)=true:=bne_iff_ne.mpr c4
  simp only [Option.some.injEq,Prod.mk.injEq] at H
  obtain ⟨rfl,rfl⟩:=H
  go_enter Try.func25,Try.ntmps25
  go_wp2_with (first|((with_reducible refine zbK rfl ?_);refine zle26 ?_)|((with_reducible refine zbL rfl ?_);refine zle28 ?_)|((with_reducible refine zbM rfl ?_);refine zle57 ?_)|((with_reducible refine zaC (N:=2) rfl ?_);refine zbx (N:=2) #[.int .i64 i5,.int .i64 i6,.int .i64 i7,.int .i64 i8,.int .i64 i9,.int .i64 j2,.int .i64 j3,.int .i64 j4,.int .i64 j5,.int .i64 j6,.int .i64 e9,.int .i64 f5,.int .i64 f6,.int .i64 f7,.slice m7 e8.length m8,.bool g9] 26 ?_;intro e5 hg w79 hbox hb;have n0_:=zaa.mk (zae (zL HB.out) hb);have n1_:=zaa.mk (hbox);have n2_:=zaa.mk ((zS hg (zL HB.out):w.heap.size≤e5));have n3_:=n2_;clear HB;have HB:=n0_;have b8:=n1_;have F4:=n2_;have i4:=n3_;clear n0_ n1_ n2_ n3_;clear hb hbox hg;obtain ⟨Q9,R0,R1,R2,R3,R4,R5,R6,R7,R8,J7,J8,J9,K0,K1,K2⟩:=zD16 b8.out;obtain ⟨R9,S0,S1,S3,S4,S5,S6,S7,S8,S9,K3,K4,K5,K6,K7,K8⟩:=zE16 b8.out)|((with_reducible refine zah (f:=14) rfl ?_);refine zgl 18 Try.func14 #[.agg #[.int .i64 i5,.int .i64 i6,.int .i64 i7,.int .i64 i8,.int .i64 i9,.int .i64 j2,.int .i64 j3,.int .i64 j4,.int .i64 j5,.int .i64 j6,.int .i64 e9,.int .i64 f5,.int .i64 f6,.int .i64 f7,.slice m7 e8.length m8,.bool g9]] ?_;(with_reducible refine (zaG.calls k i5 i6 i7 i8 i9 j2 j3 j4 j5 j6 e9 f5 f6 f7 _ _ e8 g9 t6 _ ?side1 ?side2 A3.out).mono ?_);(case side1=>repeat (first|exact (Kd.C_below t9.out HB.out)|(with_reducible refine Kd.C_alloc ?_ _)|(with_reducible refine Kd.C_drewN ?_ _)|(with_reducible refine Kd.C_drew ?_)));(case side2=>exact u3.out);rintro e w81 ⟨rfl,hb⟩;refine ⟨_,rfl,?_⟩;replace b8:=zaa.mk (zac (zB b8.out) hb);replace HB:=zaa.mk (zae (zL1 HB.out i4.out) hb);(try clear hb);(try clear hb2);(try clear hk);(try clear hi)))
  go_ret2
  exact ⟨_,by first|rfl|(simp [zaK,zaL] <;> rfl)|(simp [*,zaK,zaL] <;> rfl),by first|exact Kd.R_nil _ _ _ _ _|exact Kd.N_nil _ _ _ _ _|exact Kd.V_nil _ _ _ _ _|exact Kd.Q_nil _ _ _ _ _|exact Kd.S_nil _ _ _ _ _,by repeat (first|(with_reducible first|exact HB.out|apply zan|apply zaj|apply zai|refine zao ?_ i4.out)|exact HB.out)⟩
end Go.Proofs.Ytlilncnoohfcdaa.Br
