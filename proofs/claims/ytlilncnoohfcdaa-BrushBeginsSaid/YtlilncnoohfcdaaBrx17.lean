
import Derived.Test.YtlilncnoohfcdaaDax0
import Derived.Test.YtlilncnoohfcdaaDax13
import Derived.Test.YtlilncnoohfcdaaDax15
import Derived.Test.YtlilncnoohfcdaaBrx0
import Derived.Test.YtlilncnoohfcdaaBrx12
import Derived.Test.YtlilncnoohfcdaaBrx15
import Derived.Test.YtlilncnoohfcdaaBrx16
import Derived.Test.YtlilncnoohfcdaaBrSt
namespace Go.Proofs.Ytlilncnoohfcdaa.Br
open Go.RowKit Go.Proofs.YtlilncnoohfcdaaW.PrintWords Go.Proofs.YtlilncnoohfcdaaW.PrintLast Go.Proofs.YtlilncnoohfcdaaW.PrintMore Go.Proofs.Ytlilncnoohfcdaa.Da
attribute [local go_sem] zbr zbu zbD zbH zbq zbp zbv zbt   
set_option linter.unusedVariables false
set_option linter.unusedSimpArgs false
/-! ### imageeditorref28_Dabs: function 29 -/
mutual
def zap.l0:Nat→List (S57)→List (S28)→Int→Int→Int→Int→Int→Int→Int→Int→Int→Int→Int→Int→Int→Int→Int→Int→List (S120)→Bool→Option ((List (S28))×Int)
 | 0,_,_,_,_,_,_,_,_,_,_,_,_,_,_,_,_,_,_,_,_=>none
 | k+1,x1,x8,x9,x10,x00,x01,x02,x03,x04,x05,x06,x07,x08,x09,x0a,x0b,x0c,x0d,x0e,x0f=>if x10<(x1.length:Int) then (if 0≤(wrap64 (x10 - 1)) then (if (wrap64 (x10 - 1))<(x1.length:Int) then (if 0≤x10 then ((zaq.f k (wrap64 (16*(wrap64 (((zab x1 x10).f0) - ((zab x1 (wrap64 (x10 - 1))).f0))))) (wrap64 (16*(wrap64 (((zab x1 x10).f1) - ((zab x1 (wrap64 (x10 - 1))).f1)))))).bind fun k9=>(zap.l1 k x1 x8 x9 x10 k9 0 x00 x01 x02 x03 x04 x05 x06 x07 x08 x09 x0a x0b x0c x0d x0e x0f ((zab x1 (wrap64 (x10 - 1))).f0) ((zab x1 (wrap64 (x10 - 1))).f1) ((zab x1 (wrap64 (x10 - 1))).f2) ((zab x1 (wrap64 (x10 - 1))).f3) ((zab x1 (wrap64 (x10 - 1))).f4) ((zab x1 x10).f0) ((zab x1 x10).f1) ((zab x1 x10).f2) ((zab x1 x10).f3) ((zab x1 x10).f4))) else (none)) else (none)) else (none)) else (some (x8,0))
def zap.l1:Nat→List (S57)→List (S28)→Int→Int→Int→Int→Int→Int→Int→Int→Int→Int→Int→Int→Int→Int→Int→Int→Int→Int→List (S120)→Bool→Int→Int→Int→Int→Int→Int→Int→Int→Int→Int→Option ((List (S28))×Int)
 | 0,_,_,_,_,_,_,_,_,_,_,_,_,_,_,_,_,_,_,_,_,_,_,_,_,_,_,_,_,_,_,_,_=>none
 | k+1,x1,x8,x9,x10,x13,x14,x00,x01,x02,x03,x04,x05,x06,x07,x08,x09,x0a,x0b,x0c,x0d,x0e,x0f,x0g,x0h,x0i,x0j,x0k,x0l,x0m,x0n,x0o,x0p=>if x9≤(wrap64 (x13 - x14)) then (if (x8.length:Int)=1024 then (some (([]:List (S28)),3)) else ((zbd.f k x0g x0h x0i x0j x0k x0l x0m x0n x0o x0p (wrap64 (x14+x9)) x13).bind fun z3=>((zbf.f k x0g x0h x0i x0j x0k x0l x0m x0n x0o x0p).bind fun y6=>((zaD.f k x00 x01 x02 x03 x04 x05 x06 x07 x08 x09 x0a x0b x0c x0d x0e x0f z3.1 z3.2.1 z3.2.2.1 z3.2.2.2.1 z3.2.2.2.2 y6 (x8.length:Int)).bind fun k8=>(if x8.length<3518437208883 then ((some (x8 ++ [(⟨k8.1,k8.2.1,k8.2.2.1,k8.2.2.2.1,k8.2.2.2.2⟩:S28)]:List (S28))).bind fun y430=>(if 0≤(wrap64 ((y430.length:Int) - 1)) then (if (wrap64 ((y430.length:Int) - 1))<(y430.length:Int) then ((zba.f k x00 x01 x02 x03 x04 x05 x06 x07 x08 x09 x0a x0b x0c x0d x0e x0f ((zag y430 (wrap64 ((y430.length:Int) - 1))).f0) ((zag y430 (wrap64 ((y430.length:Int) - 1))).f1) ((zag y430 (wrap64 ((y430.length:Int) - 1))).f2) ((zag y430 (wrap64 ((y430.length:Int) - 1))).f3) ((zag y430 (wrap64 ((y430.length:Int) - 1))).f4)).bind fun m7=>(zap.l1 k x1 y430 m7 x10 x13 (wrap64 (x14+x9)) x00 x01 x02 x03 x04 x05 x06 x07 x08 x09 x0a x0b x0c x0d x0e x0f x0g x0h x0i x0j x0k x0l x0m x0n x0o x0p)) else (none)) else (none))) else (none)))))) else (zap.l0 k x1 x8 (wrap64 (x9 - (wrap64 (x13 - x14)))) (wrap64 (x10+1)) x00 x01 x02 x03 x04 x05 x06 x07 x08 x09 x0a x0b x0c x0d x0e x0f)
end
def zap.f (k:Nat) (e9:Int) (f5:Int) (f6:Int) (f7:Int) (g9:Int) (i3:Int) (i4:Int) (i5:Int) (i6:Int) (i7:Int) (d9:Int) (e0:Int) (e5:Int) (e6:Int) (d8:List (S120)) (e7:Bool) (l1:List (S57)):Option ((List (S28))×Int):=(zal.f k e9 f5 f6 f7 g9 i3 i4 i5 i6 i7 d9 e0 e5 e6 d8 e7).bind fun m6=>(if m6=0 then ((zau.f k l1).bind fun l3=>(if l3=0 then (if 0<(l1.length:Int) then ((zaD.f k e9 f5 f6 f7 g9 i3 i4 i5 i6 i7 d9 e0 e5 e6 d8 e7 ((zab l1 0).f0) ((zab l1 0).f1) ((zab l1 0).f2) ((zab l1 0).f3) ((zab l1 0).f4) 0 0).bind fun j8=>((some (([(⟨j8.1,j8.2.1,j8.2.2.1,j8.2.2.2.1,j8.2.2.2.2⟩:S28)]:List (S28)):List (S28))).bind fun y409=>(if 0<(y409.length:Int) then ((zba.f k e9 f5 f6 f7 g9 i3 i4 i5 i6 i7 d9 e0 e5 e6 d8 e7 ((zag y409 0).f0) ((zag y409 0).f1) ((zag y409 0).f2) ((zag y409 0).f3) ((zag y409 0).f4)).bind fun m8=>(zap.l0 k l1 y409 m8 1 e9 f5 f6 f7 g9 i3 i4 i5 i6 i7 d9 e0 e5 e6 d8 e7)) else (none)))) else (none)) else (some (([]:List (S28)),l3)))) else (some (([]:List (S28)),m6)))
def zap.T12:Bool×List (List Nat×List Nat):=(true,[([],[]),([],[]),([1],[1]),([0,2],[0,2]),([3],[3]),([],[]),([],[]),([5,6],[5,6]),([7],[7]),([],[]),([],[]),([9,4,0,1,2,3,4,9,10],[4,9]),([10,8,11,0,1,2,3,4,5,6,7,8,9,10,11],[8,10])])
def zap.B12:List Nat:=[0,0,2,7,15,0,0,96,224,0,0,1567,4095]
theorem zap.tab12:rtab .any (opsOf Try.f29 12)=zap.T12:=by kernel_rfl
theorem zap.bits12:zbE zap.T12.2 zap.B12=true:=by kernel_rfl
def zap.T19:Bool×List (List Nat×List Nat):=(true,[([],[]),([],[]),([],[]),([],[]),([],[]),([],[]),([2,3,4,5],[2,3,4,5]),([],[]),([],[]),([7,8,6],[7,8]),([],[]),([10],[10]),([1,6,9,11,9],[1,6,9,11]),([12],[12]),([0,13,12],[0,13]),([14,14,0,1,2,3,4,5,6,7,8,9,10,11,12,13,14],[0,10,14])])
def zap.B19:List Nat:=[0,0,0,0,0,0,60,0,0,508,0,1024,4094,8190,16383,32767]
theorem zap.tab19:rtab .any (opsOf Try.f29 19)=zap.T19:=by kernel_rfl
theorem zap.bits19:zbE zap.T19.2 zap.B19=true:=by kernel_rfl
def zap.T20:Bool×List (List Nat×List Nat):=(true,[([],[]),([],[]),([],[]),([2],[2]),([3],[3]),([1,4],[1,4]),([5],[5]),([0,6],[0,6]),([7,7,0,1,2,3,4,5,6,7],[7])])
def zap.B20:List Nat:=[0,0,0,4,12,30,62,127,255]
theorem zap.tab20:rtab .any (opsOf Try.f29 20)=zap.T20:=by kernel_rfl
theorem zap.bits20:zbE zap.T20.2 zap.B20=true:=by kernel_rfl
set_option maxHeartbeats 8000000 in
set_option maxRecDepth 100000 in
theorem zap.calls (k:Nat) (e9:Int) (f5:Int) (f6:Int) (f7:Int) (g9:Int) (i3:Int) (i4:Int) (i5:Int) (i6:Int) (i7:Int) (d9:Int) (e0:Int) (e5:Int) (e6:Int) (j9:Option Addr) (k3:Nat) (d8:List (S120)) (e7:Bool) (A1:Option Addr) (c1:Nat) (l1:List (S57)) (r1:List (S28)) (r2:Int) (w:World) (F8:Kd.C k120 w j9 d8.length d8) (F9:d8.length≤k3) (hr1:Kd.C k57 w A1 l1.length l1) (hc1:l1.length≤c1) (h:zap.f k e9 f5 f6 f7 g9 i3 i4 i5 i6 i7 d9 e0 e5 e6 d8 e7 l1=some (r1,r2)) :
 Calls Try.prog 29 #[.agg #[.int .i64 e9,.int .i64 f5,.int .i64 f6,.int .i64 f7,.int .i64 g9,.int .i64 i3,.int .i64 i4,.int .i64 i5,.int .i64 i6,.int .i64 i7,.int .i64 d9,.int .i64 e0,.int .i64 e5,.int .i64 e6,.slice j9 d8.length k3,.bool e7],.slice A1 l1.length c1] w fun e w'=>∃ v0_:Value,e = .returned (.tuple #[v0_,.int .i64 r2])∧Kd.R k28 28 w' w.heap.size (fun _=>True) v0_ r1∧Below w.heap.size w w':=by
 have hu26:=Try.underlying26
 have hu57:=Try.underlying57
 have hu28:=Try.underlying28
 have s9:=zaa.mk F8
 have t6:=zaa.mk F9
 clear F8 F9
 have HR1:=zaa.mk hr1
 have HC1:=zaa.mk hc1
 clear hr1 hc1
 have HB:=zaa.mk (Below.refl w.heap.size w)
 have H:((zal.f k e9 f5 f6 f7 g9 i3 i4 i5 i6 i7 d9 e0 e5 e6 d8 e7).bind fun m6=>(if m6=0 then ((zau.f k l1).bind fun l3=>(if l3=0 then (if 0<(l1.length:Int) then ((zaD.f k e9 f5 f6 f7 g9 i3 i4 i5 i6 i7 d9 e0 e5 e6 d8 e7 ((zab l1 0).f0) ((zab l1 0).f1) ((zab l1 0).f2) ((zab l1 0).f3) ((zab l1 0).f4) 0 0).bind fun j8=>((some (([(⟨j8.1,j8.2.1,j8.2.2.1,j8.2.2.2.1,j8.2.2.2.2⟩:S28)]:List (S28)):List (S28))).bind fun y409=>(if 0<(y409.length:Int) then ((zba.f k e9 f5 f6 f7 g9 i3 i4 i5 i6 i7 d9 e0 e5 e6 d8 e7 ((zag y409 0).f0) ((zag y409 0).f1) ((zag y409 0).f2) ((zag y409 0).f3) ((zag y409 0).f4)).bind fun m8=>(zap.l0 k l1 y409 m8 1 e9 f5 f6 f7 g9 i3 i4 i5 i6 i7 d9 e0 e5 e6 d8 e7)) else (none)))) else (none)) else (some (([]:List (S28)),l3)))) else (some (([]:List (S28)),m6))))=some (r1,r2):=h
 clear h
 obtain ⟨m6,A3,H⟩:=zob H
 replace H:(if m6=0 then ((zau.f k l1).bind fun l3=>(if l3=0 then (if 0<(l1.length:Int) then ((zaD.f k e9 f5 f6 f7 g9 i3 i4 i5 i6 i7 d9 e0 e5 e6 d8 e7 ((zab l1 0).f0) ((zab l1 0).f1) ((zab l1 0).f2) ((zab l1 0).f3) ((zab l1 0).f4) 0 0).bind fun j8=>((some (([(⟨j8.1,j8.2.1,j8.2.2.1,j8.2.2.2.1,j8.2.2.2.2⟩:S28)]:List (S28)):List (S28))).bind fun y409=>(if 0<(y409.length:Int) then ((zba.f k e9 f5 f6 f7 g9 i3 i4 i5 i6 i7 d9 e0 e5 e6 d8 e7 ((zag y409 0).f0) ((zag y409 0).f1) ((zag y409 0).f2) ((zag y409 0).f3) ((zag y409 0).f4)).bind fun m8=>(zap.l0 k l1 y409 m8 1 e9 f5 f6 f7 g9 i3 i4 i5 i6 i7 d9 e0 e5 e6 d8 e7)) else (none)))) else (none)) else (some (([]:List (S28)),l3)))) else (some (([]:List (S28)),m6)))=some (r1,r2):=H
 by_cases c4:m6=0
 ·rw [if_pos c4] at H
  have c4b0:(m6==0)=true:=beq_iff_eq.mpr c4
  have c4b1:(m6 != 0)=false:=bne_eq_false_iff_eq.mpr c4
  clear c4
  obtain ⟨l3,A5,H⟩:=zob H
  replace H:(if l3=0 then (if 0<(l1.length:Int) then ((zaD.f k e9 f5 f6 f7 g9 i3 i4 i5 i6 i7 d9 e0 e5 e6 d8 e7 ((zab l1 0).f0) ((zab l1 0).f1) ((zab l1 0).f2) ((zab l1 0).f3) ((zab l1 0).f4) 0 0).bind fun j8=>((some (([(⟨j8.1,j8.2.1,j8.2.2.1,j8.2.2.2.1,j8.2.2.2.2⟩:S28)]:List (S28)):List (S28))).bind fun y409=>(if 0<(y409.length:Int) then ((zba.f k e9 f5 f6 f7 g9 i3 i4 i5 i6 i7 d9 e0 e5 e6 d8 e7 ((zag y409 0).f0) ((zag y409 0).f1) ((zag y409 0).f2) ((zag y409 0).f3) ((zag y409 0).f4)).bind fun m8=>(zap.l0 k l1 y409 m8 1 e9 f5 f6 f7 g9 i3 i4 i5 i6 i7 d9 e0 e5 e6 d8 e7)) else (none)))) else (none)) else (some (([]:List (S28)),l3)))=some (r1,r2):=H
  by_cases c6:l3=0
  ·rw [if_pos c6] at H
   have c6b0:(l3==0)=true:=beq_iff_eq.mpr c6
   have c6b1:(l3 != 0)=false:=bne_eq_false_iff_eq.mpr c6
   clear c6
   by_cases c7:0<(l1.length:Int)
   ·rw [if_pos c7] at H
    have c7b0:decide (0<(l1.length:Int))=true:=decide_eq_true c7
    have c7b1:decide (0<l1.length)=true:=decide_eq_true (by omega)
    clear c7
    obtain ⟨⟨y7,y8,y9,z1,z2⟩,A8,H⟩:=zob H
    replace H:((some (([(⟨y7,y8,y9,z1,z2⟩:S28)]:List (S28)):List (S28))).bind fun y409=>(if 0<(y409.length:Int) then ((zba.f k e9 f5 f6 f7 g9 i3 i4 i5 i6 i7 d9 e0 e5 e6 d8 e7 ((zag y409 0).f0) ((zag y409 0).f1) ((zag y409 0).f2) ((zag y409 0).f3) ((zag y409 0).f4)).bind fun m8=>(zap.l0 k l1 y409 m8 1 e9 f5 f6 f7 g9 i3 i4 i5 i6 i7 d9 e0 e5 e6 d8 e7)) else (none)))=some (r1,r2):=H
    obtain ⟨y409,hy409⟩ : ∃ y_:List (S28),y_=(([(⟨y7,y8,y9,z1,z2⟩:S28)]:List (S28))):=⟨_,rfl⟩
    replace H:(if 0<(y409.length:Int) then ((zba.f k e9 f5 f6 f7 g9 i3 i4 i5 i6 i7 d9 e0 e5 e6 d8 e7 ((zag y409 0).f0) ((zag y409 0).f1) ((zag y409 0).f2) ((zag y409 0).f3) ((zag y409 0).f4)).bind fun m8=>(zap.l0 k l1 y409 m8 1 e9 f5 f6 f7 g9 i3 i4 i5 i6 i7 d9 e0 e5 e6 d8 e7)) else (none))=some (r1,r2):=by first|(rw [hy409];with_reducible exact H)|(have H2_:=(Option.bind_some _ _).symm.trans H;rw [hy409];with_reducible exact H2_)|(have H2_:=(Option.bind_some _ _).symm.trans H;with_reducible exact H2_)|with_reducible exact H|(rw [hy409];exact H)|exact H
    have Ny409:=zaa.mk hy409
    clear hy409
    by_cases c9:0<(y409.length:Int)
    ·rw [if_pos c9] at H
     have c9b0:decide (0<(y409.length:Int))=true:=decide_eq_true c9
     have c9b1:decide (0<y409.length)=true:=decide_eq_true (by omega)
     clear c9
     obtain ⟨m8,A10,H⟩:=zob H
     replace H:(zap.l0 k l1 y409 m8 1 e9 f5 f6 f7 g9 i3 i4 i5 i6 i7 d9 e0 e5 e6 d8 e7)=some (r1,r2):=H
     have H':=zaa.mk H
     clear H
     go_enter Try.func29,Try.ntmps29
     try go_wp2_with (first|((with_reducible refine zbK rfl ?_);refine zle26 ?_)|((with_reducible refine zbL rfl ?_);refine zle28 ?_)|((with_reducible refine zbM rfl ?_);refine zle57 ?_)|((with_reducible refine zaC (N:=2) rfl ?_);refine zbx (N:=2) #[.int .i64 e9,.int .i64 f5,.int .i64 f6,.int .i64 f7,.int .i64 g9,.int .i64 i3,.int .i64 i4,.int .i64 i5,.int .i64 i6,.int .i64 i7,.int .i64 d9,.int .i64 e0,.int .i64 e5,.int .i64 e6,.slice j9 d8.length k3,.bool e7] 26 ?_;intro d5 hg w11 hbox hb;have n0_:=zaa.mk (zae (zL HB.out) hb);have n1_:=zaa.mk (hbox);have n2_:=zaa.mk ((zS hg (zL HB.out):w.heap.size≤d5));have n3_:=n2_;clear HB;have HB:=n0_;have b8:=n1_;have G4:=n2_;have i8:=n3_;clear n0_ n1_ n2_ n3_;clear hb hbox hg;obtain ⟨D3,D4,D5,D6,D7,D8,D9,E0,E1,E2,z9,B0,B3,B7,C0,C1⟩:=zD16 b8.out;obtain ⟨E3,E4,E5,E6,E7,E8,E9,F0,F1,F2,C2,C3,C4,C5,C6,C7⟩:=zE16 b8.out)|((with_reducible refine zah (f:=15) rfl ?_);refine zgl 16 Try.func15 #[.agg #[.int .i64 e9,.int .i64 f5,.int .i64 f6,.int .i64 f7,.int .i64 g9,.int .i64 i3,.int .i64 i4,.int .i64 i5,.int .i64 i6,.int .i64 i7,.int .i64 d9,.int .i64 e0,.int .i64 e5,.int .i64 e6,.slice j9 d8.length k3,.bool e7]] ?_;(with_reducible refine (zal.calls k e9 f5 f6 f7 g9 i3 i4 i5 i6 i7 d9 e0 e5 e6 _ _ d8 e7 m6 _ ?side1 ?side2 A3.out).mono ?_);(case side1=>repeat (first|exact (Kd.C_below s9.out HB.out)|(with_reducible refine Kd.C_alloc ?_ _)|(with_reducible refine Kd.C_drewN ?_ _)|(with_reducible refine Kd.C_drew ?_)));(case side2=>exact t6.out);rintro e w13 ⟨rfl,hb⟩;refine ⟨_,rfl,?_⟩;replace b8:=zaa.mk (zac (zB b8.out) hb);replace HB:=zaa.mk (zae (zL1 HB.out i8.out) hb);(try clear hb))|((with_reducible refine zah (f:=31) rfl ?_);refine zgl 21 Try.func31 #[.slice A1 l1.length c1] ?_;(with_reducible refine (zau.calls k _ _ l1 l3 _ ?side1 ?side2 A5.out).mono ?_);(case side1=>repeat (first|exact (Kd.C_below HR1.out HB.out)|(with_reducible refine Kd.C_alloc ?_ _)|(with_reducible refine Kd.C_drewN ?_ _)|(with_reducible refine Kd.C_drew ?_)));(case side2=>exact HC1.out);rintro e w14 ⟨rfl,hb⟩;refine ⟨_,rfl,?_⟩;replace b8:=zaa.mk (zac (zB b8.out) hb);replace HB:=zaa.mk (zae (zL1 HB.out i8.out) hb);(try clear hb)))
     replace b8:=zaa.mk (zaM b8.out)
     replace HB:=zaa.mk (zai HB.out)
     have p403:0≤(0:Int):=(by omega)
     have q403:0<(l1.length:Int):=of_decide_eq_true (by first|(with_reducible assumption)|assumption)
     obtain ⟨e8,e403,l6,l7,l8,l9,m5⟩:=at_T57 HR1.out 0 p403 q403
     have p9:=m5
     (try rw [show ((0:Int)).toNat=0 from rfl] at p9)
     (try rw [show 0*5=0 from rfl] at p9)
     (try rw [Addr.add_zero'] at p9)
     have s5:=l9
     (try rw [show ((0:Int)).toNat=0 from rfl] at s5)
     (try rw [show 0*5=0 from rfl] at s5)
     (try rw [Addr.add_zero'] at s5)
     have s6:=l8
     (try rw [show ((0:Int)).toNat=0 from rfl] at s6)
     (try rw [show 0*5=0 from rfl] at s6)
     (try rw [Addr.add_zero'] at s6)
     have s7:=l7
     (try rw [show ((0:Int)).toNat=0 from rfl] at s7)
     (try rw [show 0*5=0 from rfl] at s7)
     (try rw [Addr.add_zero'] at s7)
     have s8:=l6
     (try rw [show ((0:Int)).toNat=0 from rfl] at s8)
     (try rw [show 0*5=0 from rfl] at s8)
     (try rw [Addr.add_zero'] at s8)
     cases e403
     have qi403:(0<l1.length)=True:=eq_true (by omega)
     (try rw [show ((0:Int)).toNat=0 from rfl] at l6)
     (try rw [show 0*5=0 from rfl] at l6)
     (try rw [Addr.add_zero'] at l6)
     (try rw [show ((0:Int)).toNat=0 from rfl] at l7)
     (try rw [show 0*5=0 from rfl] at l7)
     (try rw [Addr.add_zero'] at l7)
     (try rw [show ((0:Int)).toNat=0 from rfl] at l8)
     (try rw [show 0*5=0 from rfl] at l8)
     (try rw [Addr.add_zero'] at l8)
     (try rw [show ((0:Int)).toNat=0 from rfl] at l9)
     (try rw [show 0*5=0 from rfl] at l9)
     (try rw [Addr.add_zero'] at l9)
     (try rw [show ((0:Int)).toNat=0 from rfl] at m5)
     (try rw [show 0*5=0 from rfl] at m5)
     (try rw [Addr.add_zero'] at m5)
     replace l6:=zad HB.out l6
     replace l7:=zad HB.out l7
     replace l8:=zad HB.out l8
     replace l9:=zad HB.out l9
     replace m5:=zad HB.out m5
     replace p403:=eq_true p403
     replace q403:=eq_true q403
     refine zbA (n:=7) (S:=fun w'=>w'.cell? ⟨d5,0,none⟩=some (.int .i64 e9)∧w'.cell? ⟨d5,1,none⟩=some (.int .i64 f5)∧w'.cell? ⟨d5,2,none⟩=some (.int .i64 f6)∧w'.cell? ⟨d5,3,none⟩=some (.int .i64 f7)∧w'.cell? ⟨d5,4,none⟩=some (.int .i64 g9)∧w'.cell? ⟨d5,5,none⟩=some (.int .i64 i3)∧w'.cell? ⟨d5,6,none⟩=some (.int .i64 i4)∧w'.cell? ⟨d5,7,none⟩=some (.int .i64 i5)∧w'.cell? ⟨d5,8,none⟩=some (.int .i64 i6)∧w'.cell? ⟨d5,9,none⟩=some (.int .i64 i7)∧w'.cell? ⟨d5,10,none⟩=some (.int .i64 d9)∧w'.cell? ⟨d5,11,none⟩=some (.int .i64 e0)∧w'.cell? ⟨d5,12,none⟩=some (.int .i64 e5)∧w'.cell? ⟨d5,13,none⟩=some (.int .i64 e6)∧w'.cell? ⟨d5,14,none⟩=some (.slice j9 d8.length k3)∧w'.cell? ⟨d5,15,none⟩=some (.bool e7)∧w'.cell? e8=some (.int .i64 ((zab l1 0).f0))∧w'.cell? ⟨e8.block,e8.off+1,none⟩=some (.int .i64 ((zab l1 0).f1))∧w'.cell? ⟨e8.block,e8.off+2,none⟩=some (.int .i64 ((zab l1 0).f2))∧w'.cell? ⟨e8.block,e8.off+3,none⟩=some (.int .i64 ((zab l1 0).f3))∧w'.cell? ⟨e8.block,e8.off+4,none⟩=some (.int .i64 ((zab l1 0).f4))) (ds:=[]) #[false,false,false,false,false,false,false] (by kernel_rfl) rfl rfl ⟨zc b8.out 0,zc b8.out 1,zc b8.out 2,zc b8.out 3,zc b8.out 4,zc b8.out 5,zc b8.out 6,zc b8.out 7,zc b8.out 8,zc b8.out 9,zc b8.out 10,zc b8.out 11,zc b8.out 12,zc b8.out 13,zc b8.out 14,zc b8.out 15,(zad HB.out s8),(zad HB.out s7),(zad HB.out s6),(zad HB.out s5),(zad HB.out p9)⟩ (fun hHeld=>?_)
     generalize w14.drew=w15 at b8 HB l6 l7 l8 l9 m5 hHeld ⊢
     refine zpm 1 26 ?_
     refine zpm 2 27 ?_
     refine ztm 0 25 hHeld ?_
     refine ztm 3 28 hHeld ?_
     refine one_ (i:=4) (N:=some 29) #[true,true,true,true,true,false,false] rfl rfl (by kernel_rfl) (by decide) (fun K hK=>?_)
     refine zgo Try.func77 #[.agg #[.int .i64 e9,.int .i64 f5,.int .i64 f6,.int .i64 f7,.int .i64 g9,.int .i64 i3,.int .i64 i4,.int .i64 i5,.int .i64 i6,.int .i64 i7,.int .i64 d9,.int .i64 e0,.int .i64 e5,.int .i64 e6,.slice j9 d8.length k3,.bool e7],.agg #[.int .i64 ((zab l1 0).f0),.int .i64 ((zab l1 0).f1),.int .i64 ((zab l1 0).f2),.int .i64 ((zab l1 0).f3),.int .i64 ((zab l1 0).f4)],.int .i64 0,.int .i64 0] ?_
     with_reducible refine (zaD.calls k e9 f5 f6 f7 g9 i3 i4 i5 i6 i7 d9 e0 e5 e6 _ _ d8 e7 ((zab l1 0).f0) ((zab l1 0).f1) ((zab l1 0).f2) ((zab l1 0).f3) ((zab l1 0).f4) 0 0 y7 y8 y9 z1 z2 _ ?side1 ?side2 A8.out).mono ?_
     (case side1=>repeat (first|exact (Kd.C_below s9.out HB.out)|(with_reducible refine Kd.C_alloc ?_ _)|(with_reducible refine Kd.C_drewN ?_ _)|(with_reducible refine Kd.C_drew ?_)))
     (case side2=>exact t6.out)
     rintro e w16 ⟨rfl,hb⟩
     refine ⟨_,rfl,?_⟩
     replace b8:=zaa.mk (zac (zB b8.out) hb)
     replace HB:=zaa.mk (zae (zL1 HB.out i8.out) hb)
     (try clear hb)
     refine hK.out _ _ ⟨zc b8.out 0,zc b8.out 1,zc b8.out 2,zc b8.out 3,zc b8.out 4,zc b8.out 5,zc b8.out 6,zc b8.out 7,zc b8.out 8,zc b8.out 9,zc b8.out 10,zc b8.out 11,zc b8.out 12,zc b8.out 13,zc b8.out 14,zc b8.out 15,(zad HB.out s8),(zad HB.out s7),(zad HB.out s6),(zad HB.out s5),(zad HB.out p9)⟩ (fun hHeld=>?_)
     clear hK K
     refine znm ?_
     refine one_ (i:=5) (N:=some 30) #[true,true,true,true,true,true,false] rfl rfl (by kernel_rfl) (by decide) (fun K hK=>?_)
     refine Kd.R_lit_step k28 _ 28 ?hg (N:=30) ?hd (xs:=([(⟨y7,y8,y9,z1,z2⟩:S28)]:List (S28))) (inner:=[.int .i64 y7,.int .i64 y8,.int .i64 y9,.int .i64 z1,.int .i64 z2]) (ok:=fun _=>True) (okp:=fun _=>True) ?hr ?hp (fun _ hk=>hk) trivial (Below.refl _ _) (Nat.le_refl _) (by simp) ?_;(case hd=>rfl);(case hg=>rfl);(case hr=>first|(go_simp;done)|(go_simp;rfl));(case hp=>exact (Reps.c5 (show Kd.M k28 _ _ _ (⟨y7,y8,y9,z1,z2⟩:S28) [.int .i64 y7,.int .i64 y8,.int .i64 y9,.int .i64 z1,.int .i64 z2] from (k28_mkM _ _ _ (⟨y7,y8,y9,z1,z2⟩:S28))) (Reps.none _ _)))
     intro v410 w17 ho18 hb hg_ hnew_
     clear hg_ hnew_
     (first|rw [← Ny409.out] at ho18|(simp only [Int.reduceToNat] at ho18;rw [← Ny409.out] at ho18))
     have o8:=zaa.mk (Kd.R_lower ho18 (zbJ (zL1 HB.out i8.out)))
     replace b8:=zaa.mk (zac (zB b8.out) hb)
     replace HB:=zaa.mk (zae (zL1 HB.out i8.out) hb)
     clear hb ho18
     refine hK.out _ _ ⟨zc b8.out 0,zc b8.out 1,zc b8.out 2,zc b8.out 3,zc b8.out 4,zc b8.out 5,zc b8.out 6,zc b8.out 7,zc b8.out 8,zc b8.out 9,zc b8.out 10,zc b8.out 11,zc b8.out 12,zc b8.out 13,zc b8.out 14,zc b8.out 15,(zad HB.out s8),(zad HB.out s7),(zad HB.out s6),(zad HB.out s5),(zad HB.out p9)⟩ (fun hHeld=>?_)
     clear hK K
     refine znm ?_
     refine zpm 6 8 ?_
     refine zbT (by kernel_rfl) ?_
     try go_wp2
     replace o8:=zaa.mk (Kd.R_drew o8.out)
     replace b8:=zaa.mk (zaM b8.out)
     replace HB:=zaa.mk (zai HB.out)
     obtain ⟨Ao20,co20,eo20⟩:=Kd.R_slice o8.out
     (first|subst eo20|(injection eo20 with f1_ f2_ f3_;have f4_:=f1_.symm;have f5_:=f3_.symm;clear f1_ f2_ f3_;subst f4_;subst f5_))
     have p412:0≤(0:Int):=(by omega)
     have q412:0<(y409.length:Int):=of_decide_eq_true (by first|(with_reducible assumption)|assumption)
     obtain ⟨o9,e412,m9,n0,n3,n4,n5⟩:=at_T28 (Kd.R_reads' o8.out).2.2 0 p412 q412
     cases e412
     have qi412:(0<y409.length)=True:=eq_true (by omega)
     (try rw [show ((0:Int)).toNat=0 from rfl] at m9)
     (try rw [show 0*5=0 from rfl] at m9)
     (try rw [Addr.add_zero'] at m9)
     (try rw [show ((0:Int)).toNat=0 from rfl] at n0)
     (try rw [show 0*5=0 from rfl] at n0)
     (try rw [Addr.add_zero'] at n0)
     (try rw [show ((0:Int)).toNat=0 from rfl] at n3)
     (try rw [show 0*5=0 from rfl] at n3)
     (try rw [Addr.add_zero'] at n3)
     (try rw [show ((0:Int)).toNat=0 from rfl] at n4)
     (try rw [show 0*5=0 from rfl] at n4)
     (try rw [Addr.add_zero'] at n4)
     (try rw [show ((0:Int)).toNat=0 from rfl] at n5)
     (try rw [show 0*5=0 from rfl] at n5)
     (try rw [Addr.add_zero'] at n5)
     replace p412:=eq_true p412
     replace q412:=eq_true q412
     refine zbA (n:=6) (S:=fun w'=>w'.cell? ⟨d5,0,none⟩=some (.int .i64 e9)∧w'.cell? ⟨d5,1,none⟩=some (.int .i64 f5)∧w'.cell? ⟨d5,2,none⟩=some (.int .i64 f6)∧w'.cell? ⟨d5,3,none⟩=some (.int .i64 f7)∧w'.cell? ⟨d5,4,none⟩=some (.int .i64 g9)∧w'.cell? ⟨d5,5,none⟩=some (.int .i64 i3)∧w'.cell? ⟨d5,6,none⟩=some (.int .i64 i4)∧w'.cell? ⟨d5,7,none⟩=some (.int .i64 i5)∧w'.cell? ⟨d5,8,none⟩=some (.int .i64 i6)∧w'.cell? ⟨d5,9,none⟩=some (.int .i64 i7)∧w'.cell? ⟨d5,10,none⟩=some (.int .i64 d9)∧w'.cell? ⟨d5,11,none⟩=some (.int .i64 e0)∧w'.cell? ⟨d5,12,none⟩=some (.int .i64 e5)∧w'.cell? ⟨d5,13,none⟩=some (.int .i64 e6)∧w'.cell? ⟨d5,14,none⟩=some (.slice j9 d8.length k3)∧w'.cell? ⟨d5,15,none⟩=some (.bool e7)∧w'.cell? o9=some (.int .i64 ((zag y409 0).f0))∧w'.cell? ⟨o9.block,o9.off+1,none⟩=some (.int .i64 ((zag y409 0).f1))∧w'.cell? ⟨o9.block,o9.off+2,none⟩=some (.int .i64 ((zag y409 0).f2))∧w'.cell? ⟨o9.block,o9.off+3,none⟩=some (.int .i64 ((zag y409 0).f3))∧w'.cell? ⟨o9.block,o9.off+4,none⟩=some (.int .i64 ((zag y409 0).f4))) (ds:=[]) #[false,false,false,false,false,false] (by kernel_rfl) rfl rfl ⟨zc b8.out 0,zc b8.out 1,zc b8.out 2,zc b8.out 3,zc b8.out 4,zc b8.out 5,zc b8.out 6,zc b8.out 7,zc b8.out 8,zc b8.out 9,zc b8.out 10,zc b8.out 11,zc b8.out 12,zc b8.out 13,zc b8.out 14,zc b8.out 15,m9,n0,n3,n4,n5⟩ (fun hHeld=>?_)
     generalize w17.drew=w19 at o8 b8 HB m9 n0 n3 n4 n5 hHeld ⊢
     refine zpm 1 32 ?_
     refine zpm 2 33 ?_
     refine ztm 0 31 hHeld ?_
     refine ztm 3 34 hHeld ?_
     refine one_ (i:=4) (N:=some 35) #[true,true,true,true,true,false] rfl rfl (by kernel_rfl) (by decide) (fun K hK=>?_)
     refine zgo Try.func78 #[.agg #[.int .i64 e9,.int .i64 f5,.int .i64 f6,.int .i64 f7,.int .i64 g9,.int .i64 i3,.int .i64 i4,.int .i64 i5,.int .i64 i6,.int .i64 i7,.int .i64 d9,.int .i64 e0,.int .i64 e5,.int .i64 e6,.slice j9 d8.length k3,.bool e7],.agg #[.int .i64 ((zag y409 0).f0),.int .i64 ((zag y409 0).f1),.int .i64 ((zag y409 0).f2),.int .i64 ((zag y409 0).f3),.int .i64 ((zag y409 0).f4)]] ?_
     with_reducible refine (zba.calls k e9 f5 f6 f7 g9 i3 i4 i5 i6 i7 d9 e0 e5 e6 _ _ d8 e7 ((zag y409 0).f0) ((zag y409 0).f1) ((zag y409 0).f2) ((zag y409 0).f3) ((zag y409 0).f4) m8 _ ?side1 ?side2 A10.out).mono ?_
     (case side1=>repeat (first|exact (Kd.C_below s9.out HB.out)|(with_reducible refine Kd.C_alloc ?_ _)|(with_reducible refine Kd.C_drewN ?_ _)|(with_reducible refine Kd.C_drew ?_)))
     (case side2=>exact t6.out)
     rintro e w21 ⟨rfl,hb⟩
     have HS16_:=(hb.cell (World.block_lt_of_cell? _ _ (hHeld.2.2.2.2.2.2.2.2.2.2.2.2.2.2.2.2.1))).trans (hHeld.2.2.2.2.2.2.2.2.2.2.2.2.2.2.2.2.1)
     have HS17_:=(hb.cell (World.block_lt_of_cell? _ _ (hHeld.2.2.2.2.2.2.2.2.2.2.2.2.2.2.2.2.2.1))).trans (hHeld.2.2.2.2.2.2.2.2.2.2.2.2.2.2.2.2.2.1)
     have HS18_:=(hb.cell (World.block_lt_of_cell? _ _ (hHeld.2.2.2.2.2.2.2.2.2.2.2.2.2.2.2.2.2.2.1))).trans (hHeld.2.2.2.2.2.2.2.2.2.2.2.2.2.2.2.2.2.2.1)
     have HS19_:=(hb.cell (World.block_lt_of_cell? _ _ (hHeld.2.2.2.2.2.2.2.2.2.2.2.2.2.2.2.2.2.2.2.1))).trans (hHeld.2.2.2.2.2.2.2.2.2.2.2.2.2.2.2.2.2.2.2.1)
     have HS20_:=(hb.cell (World.block_lt_of_cell? _ _ (hHeld.2.2.2.2.2.2.2.2.2.2.2.2.2.2.2.2.2.2.2.2))).trans (hHeld.2.2.2.2.2.2.2.2.2.2.2.2.2.2.2.2.2.2.2.2)
     refine ⟨_,rfl,?_⟩
     have n0_:=zaa.mk (Kd.R_below (by (with_reducible repeat (first|apply Kd.R_alloc|apply Kd.R_drewN|apply Kd.R_drew));exact o8.out) hb)
     have n1_:=zaa.mk (zac (zB b8.out) hb)
     have n2_:=zaa.mk (zae (zL1 HB.out i8.out) hb)
     clear o8
     clear b8
     clear HB
     have o8:=n0_
     have b8:=n1_
     have HB:=n2_
     clear n0_ n1_ n2_
     (try clear hb)
     refine hK.out _ _ ⟨zc b8.out 0,zc b8.out 1,zc b8.out 2,zc b8.out 3,zc b8.out 4,zc b8.out 5,zc b8.out 6,zc b8.out 7,zc b8.out 8,zc b8.out 9,zc b8.out 10,zc b8.out 11,zc b8.out 12,zc b8.out 13,zc b8.out 14,zc b8.out 15,HS16_,HS17_,HS18_,HS19_,HS20_⟩ (fun hHeld=>?_)
     clear hK K
     refine znm ?_
     refine zpm 5 9 ?_
     refine zbT (by kernel_rfl) ?_
     try go_wp2
     go_loopg [8,9,10] k (fun kq v8 v9 v10 w'=>∃ (x8_1:List (S28)) (x9_1:Int) (x10_1:Int),v9 = .int .i64 x9_1∧v10 = .int .i64 x10_1∧zaa (zap.l0 kq l1 x8_1 x9_1 x10_1 e9 f5 f6 f7 g9 i3 i4 i5 i6 i7 d9 e0 e5 e6 d8 e7=some (r1,r2))∧zaa (kq≤k)∧zaa (Kd.R k28 28 w' w.heap.size (fun _=>True) v8 x8_1)∧zaa (w'.heap[d5]? = some (.cells #[.int .i64 e9,.int .i64 f5,.int .i64 f6,.int .i64 f7,.int .i64 g9,.int .i64 i3,.int .i64 i4,.int .i64 i5,.int .i64 i6,.int .i64 i7,.int .i64 d9,.int .i64 e0,.int .i64 e5,.int .i64 e6,(.slice j9 d8.length k3),.bool e7] 26 (0,0)))∧zaa (Below w.heap.size w w'))
     case atStart=>exact ⟨(y409),(m8),(1),zF,zF,H',⟨Nat.le_refl _⟩,⟨by (with_reducible repeat (first|apply Kd.R_alloc|apply Kd.R_drewN|apply Kd.R_drew));exact o8.out⟩,⟨by refine zB ?_;exact b8.out⟩,⟨by repeat (first|(with_reducible first|exact HB.out|apply zan|apply zaj|apply zai|refine zao ?_ i8.out)|exact HB.out)⟩⟩
     case round=>
      clear H'
      try clear c1
      try clear c2
      try clear p2
      try clear c3
      try clear c4
      try clear c4b0
      try clear c4b1
      try clear p4
      try clear q4
      try clear hx4
      try clear qi4
      try clear c5
      try clear c6
      try clear c6b0
      try clear c6b1
      try clear c7
      try clear c7b0
      try clear c7b1
      try clear c9
      try clear c9b0
      try clear c9b1
      try clear c15
      try clear D3 D4 z9 B0 B3 B7 C0 C1 D5 D6 D7 D8 D9 E0 E1 E2 E3 E4 C2 C3 C4 C5 C6 C7 E5 E6 E7 E8 E9 F0 F1 F2
      try clear l6
      try clear l7
      try clear l8
      try clear l9
      try clear m5
      try clear m9
      try clear n0
      try clear n3
      try clear n4
      try clear n5
      try clear p403
      try clear p412
      try clear q403
      try clear q412
      obtain ⟨x8_1,x9_1,x10_1,rfl,rfl,HA,G5,HO_8,b8,HB⟩:=hrel
      cases gk with
      | zero=>exact absurd HA.out (by simp [zap.l0])
      | succ k1=>
       have H:=HA.out
       clear HA
       simp only [zap.l0] at H
       by_cases c22:x10_1<(l1.length:Int)
       ·rw [if_pos c22] at H
        have c22b0:decide (x10_1<(l1.length:Int))=true:=decide_eq_true c22
        clear c22
        obtain ⟨b9,hji23⟩ : ∃ j_:Int,(wrap64 (x10_1 - 1))=j_:=⟨_,rfl⟩
        replace H:(if 0≤(b9) then (if (b9)<(l1.length:Int) then (if 0≤x10_1 then ((zaq.f k1 (wrap64 (16*(wrap64 (((zab l1 x10_1).f0) - ((zab l1 (b9)).f0))))) (wrap64 (16*(wrap64 (((zab l1 x10_1).f1) - ((zab l1 (b9)).f1)))))).bind fun k9=>(zap.l1 k1 l1 x8_1 x9_1 x10_1 k9 0 e9 f5 f6 f7 g9 i3 i4 i5 i6 i7 d9 e0 e5 e6 d8 e7 ((zab l1 (b9)).f0) ((zab l1 (b9)).f1) ((zab l1 (b9)).f2) ((zab l1 (b9)).f3) ((zab l1 (b9)).f4) ((zab l1 x10_1).f0) ((zab l1 x10_1).f1) ((zab l1 x10_1).f2) ((zab l1 x10_1).f3) ((zab l1 x10_1).f4))) else (none)) else (none)) else (none))=some (r1,r2):=by first|(rw [hji23] at H;exact H)|(simp only [hji23] at H ⊢;exact H)
        have hji23w:(IntKind.i64.wrap (x10_1 - 1))=b9:=(zbY _).trans hji23
        by_cases c24:0≤(b9)
        ·rw [if_pos c24] at H
         have c24b0:decide (0≤(b9))=true:=decide_eq_true c24
         clear c24
         by_cases c25:(b9)<(l1.length:Int)
         ·rw [if_pos c25] at H
          have c25b0:decide ((b9)<(l1.length:Int))=true:=decide_eq_true c25
          clear c25
          by_cases c26:0≤x10_1
          ·rw [if_pos c26] at H
           have c26b0:decide (0≤x10_1)=true:=decide_eq_true c26
           clear c26
           obtain ⟨k9,A27,H⟩:=zob H
           replace H:(zap.l1 k1 l1 x8_1 x9_1 x10_1 k9 0 e9 f5 f6 f7 g9 i3 i4 i5 i6 i7 d9 e0 e5 e6 d8 e7 ((zab l1 (b9)).f0) ((zab l1 (b9)).f1) ((zab l1 (b9)).f2) ((zab l1 (b9)).f3) ((zab l1 (b9)).f4) ((zab l1 x10_1).f0) ((zab l1 x10_1).f1) ((zab l1 x10_1).f2) ((zab l1 x10_1).f3) ((zab l1 x10_1).f4))=some (r1,r2):=H
           have H':=zaa.mk H
           clear H
           try go_wp2
           replace HO_8:=zaa.mk (Kd.R_drew HO_8.out)
           replace b8:=zaa.mk (zaM b8.out)
           replace HB:=zaa.mk (zai HB.out)
           have p414:0≤((b9):Int):=of_decide_eq_true (by first|(with_reducible assumption)|assumption)
           have q414:(b9)<(l1.length:Int):=of_decide_eq_true (by first|(with_reducible assumption)|assumption)
           obtain ⟨I8,e414,t7,t8,t9,u3,u4⟩:=at_T57 HR1.out (b9) p414 q414
           have n6:=u4
           have n7:=u3
           have n8:=t9
           have n9:=t8
           have o2:=t7
           obtain rfl:e8=I8:=(by injection e414)
           replace t7:=zad HB.out t7
           replace t8:=zad HB.out t8
           replace t9:=zad HB.out t9
           replace u3:=zad HB.out u3
           replace u4:=zad HB.out u4
           replace p414:=eq_true p414
           replace q414:=eq_true q414
           have p415:0≤(x10_1:Int):=of_decide_eq_true (by first|(with_reducible assumption)|assumption)
           have q415:x10_1<(l1.length:Int):=of_decide_eq_true (by first|(with_reducible assumption)|assumption)
           obtain ⟨I9,e415,u5,u6,u7,u9,y5⟩:=at_T57 HR1.out x10_1 p415 q415
           have o3:=y5
           have o4:=u9
           have o5:=u7
           have o6:=u6
           have o7:=u5
           obtain rfl:e8=I9:=(by injection e415)
           replace u5:=zad HB.out u5
           replace u6:=zad HB.out u6
           replace u7:=zad HB.out u7
           replace u9:=zad HB.out u9
           replace y5:=zad HB.out y5
           replace p415:=eq_true p415
           replace q415:=eq_true q415
           refine zbA (n:=13) (S:=fun w'=>w'.cell? (e8.add (((b9)).toNat*5))=some (.int .i64 ((zab l1 (b9)).f0))∧w'.cell? ⟨(e8.add (((b9)).toNat*5)).block,(e8.add (((b9)).toNat*5)).off+1,none⟩=some (.int .i64 ((zab l1 (b9)).f1))∧w'.cell? ⟨(e8.add (((b9)).toNat*5)).block,(e8.add (((b9)).toNat*5)).off+2,none⟩=some (.int .i64 ((zab l1 (b9)).f2))∧w'.cell? ⟨(e8.add (((b9)).toNat*5)).block,(e8.add (((b9)).toNat*5)).off+3,none⟩=some (.int .i64 ((zab l1 (b9)).f3))∧w'.cell? ⟨(e8.add (((b9)).toNat*5)).block,(e8.add (((b9)).toNat*5)).off+4,none⟩=some (.int .i64 ((zab l1 (b9)).f4))∧w'.cell? (e8.add ((x10_1).toNat*5))=some (.int .i64 ((zab l1 x10_1).f0))∧w'.cell? ⟨(e8.add ((x10_1).toNat*5)).block,(e8.add ((x10_1).toNat*5)).off+1,none⟩=some (.int .i64 ((zab l1 x10_1).f1))∧w'.cell? ⟨(e8.add ((x10_1).toNat*5)).block,(e8.add ((x10_1).toNat*5)).off+2,none⟩=some (.int .i64 ((zab l1 x10_1).f2))∧w'.cell? ⟨(e8.add ((x10_1).toNat*5)).block,(e8.add ((x10_1).toNat*5)).off+3,none⟩=some (.int .i64 ((zab l1 x10_1).f3))∧w'.cell? ⟨(e8.add ((x10_1).toNat*5)).block,(e8.add ((x10_1).toNat*5)).off+4,none⟩=some (.int .i64 ((zab l1 x10_1).f4))) (ds:=[]) #[false,false,false,false,false,false,false,false,false,false,false,false,false] (by kernel_rfl) rfl rfl ⟨(zad HB.out o2),(zad HB.out n9),(zad HB.out n8),(zad HB.out n7),(zad HB.out n6),(zad HB.out o7),(zad HB.out o6),(zad HB.out o5),(zad HB.out o4),(zad HB.out o3)⟩ (fun hHeld=>?_);refine zbn zap.tab12 zap.bits12 (fun HT_ HW_=>?_)
           generalize wr.drew=w28 at HO_8 b8 HB t7 t8 t9 u3 u4 u5 u6 u7 u9 y5 hHeld ⊢
           refine zpu 0 42 HT_.out ?_
           refine zpu 1 43 HT_.out ?_
           refine zpu 2 44 HT_.out ?_
           refine zpu 3 45 HT_.out ?_
           refine zpu 5 47 HT_.out ?_
           refine zpu 6 48 HT_.out ?_
           refine zpu 7 49 HT_.out ?_
           refine ztl 4 46 HT_.out HW_.out hHeld ?_
           refine ztl 8 50 HT_.out HW_.out hHeld ?_
           refine join_ (σ:=Nat×Nat) 2 #[true,true,true,true,true,true,true,true,true,true,true,false,false] (fun s_=>[(11,.pointer (some ⟨s_.1,0,none⟩)),(12,.pointer (some ⟨s_.2,0,none⟩))]) (fun s_ w'=>(w'.cell? (e8.add (((b9)).toNat*5))=some (.int .i64 ((zab l1 (b9)).f0))∧w'.cell? ⟨(e8.add (((b9)).toNat*5)).block,(e8.add (((b9)).toNat*5)).off+1,none⟩=some (.int .i64 ((zab l1 (b9)).f1))∧w'.cell? ⟨(e8.add (((b9)).toNat*5)).block,(e8.add (((b9)).toNat*5)).off+2,none⟩=some (.int .i64 ((zab l1 (b9)).f2))∧w'.cell? ⟨(e8.add (((b9)).toNat*5)).block,(e8.add (((b9)).toNat*5)).off+3,none⟩=some (.int .i64 ((zab l1 (b9)).f3))∧w'.cell? ⟨(e8.add (((b9)).toNat*5)).block,(e8.add (((b9)).toNat*5)).off+4,none⟩=some (.int .i64 ((zab l1 (b9)).f4))∧w'.cell? (e8.add ((x10_1).toNat*5))=some (.int .i64 ((zab l1 x10_1).f0))∧w'.cell? ⟨(e8.add ((x10_1).toNat*5)).block,(e8.add ((x10_1).toNat*5)).off+1,none⟩=some (.int .i64 ((zab l1 x10_1).f1))∧w'.cell? ⟨(e8.add ((x10_1).toNat*5)).block,(e8.add ((x10_1).toNat*5)).off+2,none⟩=some (.int .i64 ((zab l1 x10_1).f2))∧w'.cell? ⟨(e8.add ((x10_1).toNat*5)).block,(e8.add ((x10_1).toNat*5)).off+3,none⟩=some (.int .i64 ((zab l1 x10_1).f3))∧w'.cell? ⟨(e8.add ((x10_1).toNat*5)).block,(e8.add ((x10_1).toNat*5)).off+4,none⟩=some (.int .i64 ((zab l1 x10_1).f4)))∧(Kd.R k28 28 w' w.heap.size (fun _=>True) u8 x8_1)∧(w'.heap[d5]? = some (.cells #[.int .i64 e9,.int .i64 f5,.int .i64 f6,.int .i64 f7,.int .i64 g9,.int .i64 i3,.int .i64 i4,.int .i64 i5,.int .i64 i6,.int .i64 i7,.int .i64 d9,.int .i64 e0,.int .i64 e5,.int .i64 e6,.slice j9 d8.length k3,.bool e7] 26 (0,0)))∧(w'.heap[s_.1]? = some (.cells #[.int .i64 0,.int .i64 0,.int .i64 0,.int .i64 0,.int .i64 0] 57 (0,0)))∧(w'.heap[s_.2]? = some (.cells #[.int .i64 0,.int .i64 0,.int .i64 0,.int .i64 0,.int .i64 0] 57 (0,0)))∧(w.heap.size≤s_.1)∧(w.heap.size≤s_.1)∧(d5≠s_.1)∧(s_.1≠d5)∧(s_.2≠s_.1)∧(s_.1≠s_.2)∧(w.heap.size≤s_.2)∧(w.heap.size≤s_.2)∧(d5≠s_.2)∧(s_.2≠d5)∧(Below w.heap.size w w')) ?_ ?_
           rotate_left
           ·intro hCont
            refine two_ (i:=9) (j:=10) (Ni:=some 11) (Nj:=some 12) #[true,true,true,true,true,true,true,true,true,true,false,false,false] #[true,true,true,true,true,true,true,true,true,false,true,false,false] rfl rfl rfl rfl (two_of HT_.out (by kernel_rfl)) (by decide) (by decide) (fun K hK=>?_) (fun K hK=>?_)
            ·skip
             refine zcb ?hg (N:=11) ?hd (cs:=#[.int .i64 0,.int .i64 0,.int .i64 0,.int .i64 0,.int .i64 0]) (t:=57) ?hr ?_;(case hd=>rfl);(case hg=>rfl);(case hr=>first|(go_simp;done)|(go_simp;rfl))
             intro j3 hg w29 hbox hb
             have n0_:=zaa.mk (Kd.R_below (by (with_reducible repeat (first|apply Kd.R_alloc|apply Kd.R_drewN|apply Kd.R_drew));exact HO_8.out) hb)
             have n1_:=zaa.mk (zac (zB b8.out) hb)
             have n2_:=zaa.mk (zae (zL1 HB.out i8.out) hb)
             have n3_:=zaa.mk (hbox)
             have n4_:=zaa.mk ((zS hg (zL1 HB.out i8.out):w.heap.size≤j3))
             have n5_:=zaa.mk ((zS hg (zL1 HB.out i8.out):w.heap.size≤j3))
             have n6_:=zaa.mk (zne hg (zB b8.out))
             have n7_:=zaa.mk (zen hg (zB b8.out))
             clear HO_8
             clear b8
             clear HB
             have HO_8:=n0_
             have b8:=n1_
             have HB:=n2_
             have d6:=n3_
             have l4:=n4_
             have k4:=n5_
             have j6:=n6_
             have k6:=n7_
             clear n0_ n1_ n2_ n3_ n4_ n5_ n6_ n7_
             clear hb hbox hg
             refine hK.out _ _ ⟨(zad HB.out o2),(zad HB.out n9),(zad HB.out n8),(zad HB.out n7),(zad HB.out n6),(zad HB.out o7),(zad HB.out o6),(zad HB.out o5),(zad HB.out o4),(zad HB.out o3)⟩ (fun hHeld=>?_)
             clear hK K
             refine znm ?_
             refine zon 10 (some 12) HT_.out (fun K hK=>?_)
             refine zcb ?hg (N:=12) ?hd (cs:=#[.int .i64 0,.int .i64 0,.int .i64 0,.int .i64 0,.int .i64 0]) (t:=57) ?hr ?_;(case hd=>rfl);(case hg=>rfl);(case hr=>first|(go_simp;done)|(go_simp;rfl))
             intro j4 hg w30 hbox hb
             have n0_:=zaa.mk (Kd.R_below (by (with_reducible repeat (first|apply Kd.R_alloc|apply Kd.R_drewN|apply Kd.R_drew));exact HO_8.out) hb)
             have n1_:=zaa.mk (zac (zB b8.out) hb)
             have n2_:=zaa.mk (zac (zB d6.out) hb)
             have n3_:=zaa.mk (zae (zL2 HB.out i8.out k4.out) hb)
             have n4_:=zaa.mk (hbox)
             have n5_:=zaa.mk ((zS hg (zL2 HB.out i8.out k4.out):w.heap.size≤j4))
             have n6_:=zaa.mk ((zS hg (zL2 HB.out i8.out k4.out):w.heap.size≤j4))
             have n7_:=zaa.mk (zne hg (zB b8.out))
             have n8_:=zaa.mk (zen hg (zB b8.out))
             have n9_:=zaa.mk (zne hg (zB d6.out))
             have n10_:=zaa.mk (zen hg (zB d6.out))
             clear HO_8
             clear b8
             clear d6
             clear HB
             have HO_8:=n0_
             have b8:=n1_
             have d6:=n2_
             have HB:=n3_
             have d7:=n4_
             have l5:=n5_
             have k5:=n6_
             have j7:=n7_
             have k7:=n8_
             have i9:=n9_
             have j2:=n10_
             clear n0_ n1_ n2_ n3_ n4_ n5_ n6_ n7_ n8_ n9_ n10_
             clear hb hbox hg
             refine hK.out _ _ ⟨(zad HB.out o2),(zad HB.out n9),(zad HB.out n8),(zad HB.out n7),(zad HB.out n6),(zad HB.out o7),(zad HB.out o6),(zad HB.out o5),(zad HB.out o4),(zad HB.out o3)⟩ (fun hHeld=>?_)
             clear hK K
             refine znm ?_
             exact norm_ (by simp only [zcg,Act.put,List.setIfInBounds_toArray,List.set_cons_zero,List.set_cons_succ]) (hCont (j3,j4) _ ⟨hHeld,(by (with_reducible repeat (first|apply Kd.R_alloc|apply Kd.R_drewN|apply Kd.R_drew));exact HO_8.out),(zB b8.out),(zB d6.out),(zB d7.out),l4.out,k4.out,j6.out,k6.out,j2.out,i9.out,l5.out,k5.out,j7.out,k7.out,(zL3 HB.out i8.out k4.out k5.out)⟩)
            ·skip
             refine zcb ?hg (N:=12) ?hd (cs:=#[.int .i64 0,.int .i64 0,.int .i64 0,.int .i64 0,.int .i64 0]) (t:=57) ?hr ?_;(case hd=>rfl);(case hg=>rfl);(case hr=>first|(go_simp;done)|(go_simp;rfl))
             intro j4 hg w29 hbox hb
             have n0_:=zaa.mk (Kd.R_below (by (with_reducible repeat (first|apply Kd.R_alloc|apply Kd.R_drewN|apply Kd.R_drew));exact HO_8.out) hb)
             have n1_:=zaa.mk (zac (zB b8.out) hb)
             have n2_:=zaa.mk (zae (zL1 HB.out i8.out) hb)
             have n3_:=zaa.mk (hbox)
             have n4_:=zaa.mk ((zS hg (zL1 HB.out i8.out):w.heap.size≤j4))
             have n5_:=zaa.mk ((zS hg (zL1 HB.out i8.out):w.heap.size≤j4))
             have n6_:=zaa.mk (zne hg (zB b8.out))
             have n7_:=zaa.mk (zen hg (zB b8.out))
             clear HO_8
             clear b8
             clear HB
             have HO_8:=n0_
             have b8:=n1_
             have HB:=n2_
             have d7:=n3_
             have l5:=n4_
             have k5:=n5_
             have j7:=n6_
             have k7:=n7_
             clear n0_ n1_ n2_ n3_ n4_ n5_ n6_ n7_
             clear hb hbox hg
             refine hK.out _ _ ⟨(zad HB.out o2),(zad HB.out n9),(zad HB.out n8),(zad HB.out n7),(zad HB.out n6),(zad HB.out o7),(zad HB.out o6),(zad HB.out o5),(zad HB.out o4),(zad HB.out o3)⟩ (fun hHeld=>?_)
             clear hK K
             refine znm ?_
             refine zon 9 (some 11) HT_.out (fun K hK=>?_)
             refine zcb ?hg (N:=11) ?hd (cs:=#[.int .i64 0,.int .i64 0,.int .i64 0,.int .i64 0,.int .i64 0]) (t:=57) ?hr ?_;(case hd=>rfl);(case hg=>rfl);(case hr=>first|(go_simp;done)|(go_simp;rfl))
             intro j3 hg w30 hbox hb
             have n0_:=zaa.mk (Kd.R_below (by (with_reducible repeat (first|apply Kd.R_alloc|apply Kd.R_drewN|apply Kd.R_drew));exact HO_8.out) hb)
             have n1_:=zaa.mk (zac (zB b8.out) hb)
             have n2_:=zaa.mk (zac (zB d7.out) hb)
             have n3_:=zaa.mk (zae (zL2 HB.out i8.out k5.out) hb)
             have n4_:=zaa.mk (hbox)
             have n5_:=zaa.mk ((zS hg (zL2 HB.out i8.out k5.out):w.heap.size≤j3))
             have n6_:=zaa.mk ((zS hg (zL2 HB.out i8.out k5.out):w.heap.size≤j3))
             have n7_:=zaa.mk (zne hg (zB b8.out))
             have n8_:=zaa.mk (zen hg (zB b8.out))
             have n9_:=zaa.mk (zne hg (zB d7.out))
             have n10_:=zaa.mk (zen hg (zB d7.out))
             clear HO_8
             clear b8
             clear d7
             clear HB
             have HO_8:=n0_
             have b8:=n1_
             have d7:=n2_
             have HB:=n3_
             have d6:=n4_
             have l4:=n5_
             have k4:=n6_
             have j6:=n7_
             have k6:=n8_
             have j2:=n9_
             have i9:=n10_
             clear n0_ n1_ n2_ n3_ n4_ n5_ n6_ n7_ n8_ n9_ n10_
             clear hb hbox hg
             refine hK.out _ _ ⟨(zad HB.out o2),(zad HB.out n9),(zad HB.out n8),(zad HB.out n7),(zad HB.out n6),(zad HB.out o7),(zad HB.out o6),(zad HB.out o5),(zad HB.out o4),(zad HB.out o3)⟩ (fun hHeld=>?_)
             clear hK K
             refine znm ?_
             exact norm_ (by simp only [zcg,Act.put,List.setIfInBounds_toArray,List.set_cons_zero,List.set_cons_succ]) (hCont (j3,j4) _ ⟨hHeld,(by (with_reducible repeat (first|apply Kd.R_alloc|apply Kd.R_drewN|apply Kd.R_drew));exact HO_8.out),(zB b8.out),(zB d6.out),(zB d7.out),l4.out,k4.out,j6.out,k6.out,j2.out,i9.out,l5.out,k5.out,j7.out,k7.out,(zL3 HB.out i8.out k5.out k4.out)⟩)
           rintro ⟨j3,j4⟩ w31 ⟨hS_,h0_,h1_,h2_,h3_,h4_,h5_,h6_,h7_,h8_,h9_,h10_,h11_,h12_,h13_,h14_⟩
           have n0_:zaa (Kd.R k28 28 w31 w.heap.size (fun _=>True) u8 x8_1):=⟨h0_⟩
           have n1_:zaa (w31.heap[d5]? = some (.cells #[.int .i64 e9,.int .i64 f5,.int .i64 f6,.int .i64 f7,.int .i64 g9,.int .i64 i3,.int .i64 i4,.int .i64 i5,.int .i64 i6,.int .i64 i7,.int .i64 d9,.int .i64 e0,.int .i64 e5,.int .i64 e6,.slice j9 d8.length k3,.bool e7] 26 (0,0))):=⟨h1_⟩
           have n2_:zaa (w31.heap[j3]? = some (.cells #[.int .i64 0,.int .i64 0,.int .i64 0,.int .i64 0,.int .i64 0] 57 (0,0))):=⟨h2_⟩
           have n3_:zaa (w31.heap[j4]? = some (.cells #[.int .i64 0,.int .i64 0,.int .i64 0,.int .i64 0,.int .i64 0] 57 (0,0))):=⟨h3_⟩
           have n4_:zaa (w.heap.size≤j3):=⟨h4_⟩
           have n5_:zaa (w.heap.size≤j3):=⟨h5_⟩
           have n6_:zaa (d5≠j3):=⟨h6_⟩
           have n7_:zaa (j3≠d5):=⟨h7_⟩
           have n8_:zaa (j4≠j3):=⟨h8_⟩
           have n9_:zaa (j3≠j4):=⟨h9_⟩
           have n10_:zaa (w.heap.size≤j4):=⟨h10_⟩
           have n11_:zaa (w.heap.size≤j4):=⟨h11_⟩
           have n12_:zaa (d5≠j4):=⟨h12_⟩
           have n13_:zaa (j4≠d5):=⟨h13_⟩
           have n14_:zaa (Below w.heap.size w w31):=⟨h14_⟩
           clear HO_8
           clear b8
           clear HB
           clear h0_ h1_ h2_ h3_ h4_ h5_ h6_ h7_ h8_ h9_ h10_ h11_ h12_ h13_ h14_
           have HO_8:=n0_
           have b8:=n1_
           have d6:=n2_
           have d7:=n3_
           have l4:=n4_
           have k4:=n5_
           have j6:=n6_
           have k6:=n7_
           have j2:=n8_
           have i9:=n9_
           have l5:=n10_
           have k5:=n11_
           have j7:=n12_
           have k7:=n13_
           have HB:=n14_
           clear n0_ n1_ n2_ n3_ n4_ n5_ n6_ n7_ n8_ n9_ n10_ n11_ n12_ n13_ n14_
           have hHeld:w31.cell? (e8.add (((b9)).toNat*5))=some (.int .i64 ((zab l1 (b9)).f0))∧w31.cell? ⟨(e8.add (((b9)).toNat*5)).block,(e8.add (((b9)).toNat*5)).off+1,none⟩=some (.int .i64 ((zab l1 (b9)).f1))∧w31.cell? ⟨(e8.add (((b9)).toNat*5)).block,(e8.add (((b9)).toNat*5)).off+2,none⟩=some (.int .i64 ((zab l1 (b9)).f2))∧w31.cell? ⟨(e8.add (((b9)).toNat*5)).block,(e8.add (((b9)).toNat*5)).off+3,none⟩=some (.int .i64 ((zab l1 (b9)).f3))∧w31.cell? ⟨(e8.add (((b9)).toNat*5)).block,(e8.add (((b9)).toNat*5)).off+4,none⟩=some (.int .i64 ((zab l1 (b9)).f4))∧w31.cell? (e8.add ((x10_1).toNat*5))=some (.int .i64 ((zab l1 x10_1).f0))∧w31.cell? ⟨(e8.add ((x10_1).toNat*5)).block,(e8.add ((x10_1).toNat*5)).off+1,none⟩=some (.int .i64 ((zab l1 x10_1).f1))∧w31.cell? ⟨(e8.add ((x10_1).toNat*5)).block,(e8.add ((x10_1).toNat*5)).off+2,none⟩=some (.int .i64 ((zab l1 x10_1).f2))∧w31.cell? ⟨(e8.add ((x10_1).toNat*5)).block,(e8.add ((x10_1).toNat*5)).off+3,none⟩=some (.int .i64 ((zab l1 x10_1).f3))∧w31.cell? ⟨(e8.add ((x10_1).toNat*5)).block,(e8.add ((x10_1).toNat*5)).off+4,none⟩=some (.int .i64 ((zab l1 x10_1).f4)):=hS_
           refine norm_ (a':=?_) ?_ ?_
           rotate_left
           ·simp only [zcg,Act.put,List.setIfInBounds_toArray,List.set_cons_zero,List.set_cons_succ]
            rfl
           refine zon 11 none HT_.out (fun K hK=>?_)
           have hs32:w31.cell? ⟨j3,0,none⟩=some (.int .i64 0):=zc d6.out 0
           have hfs32:=zaB d6.out 0
           have hns32_0:=j6.out
           have hns32_2:=j2.out
           have hms32_0:=k6.out
           have hms32_2:=i9.out
           have hs33:w31.cell? ⟨j3,1,none⟩=some (.int .i64 0):=zc d6.out 1
           have hfs33:=zaB d6.out 1
           have hns33_0:=j6.out
           have hns33_2:=j2.out
           have hms33_0:=k6.out
           have hms33_2:=i9.out
           have hs34:w31.cell? ⟨j3,2,none⟩=some (.int .i64 0):=zc d6.out 2
           have hfs34:=zaB d6.out 2
           have hns34_0:=j6.out
           have hns34_2:=j2.out
           have hms34_0:=k6.out
           have hms34_2:=i9.out
           have hs35:w31.cell? ⟨j3,3,none⟩=some (.int .i64 0):=zc d6.out 3
           have hfs35:=zaB d6.out 3
           have hns35_0:=j6.out
           have hns35_2:=j2.out
           have hms35_0:=k6.out
           have hms35_2:=i9.out
           have hs36:w31.cell? ⟨j3,4,none⟩=some (.int .i64 0):=zc d6.out 4
           have hfs36:=zaB d6.out 4
           have hns36_0:=j6.out
           have hns36_2:=j2.out
           have hms36_0:=k6.out
           have hms36_2:=i9.out
           refine skip_ (w1:=?_) (by rfl) rfl ?_ ?_
           rotate_left
           ·go_simp
            rfl
           refine hK.out _ _ ⟨(zs5 (zfar o2 l4.out) (hHeld.1)),(zs5 (zfar n9 l4.out) (hHeld.2.1)),(zs5 (zfar n8 l4.out) (hHeld.2.2.1)),(zs5 (zfar n7 l4.out) (hHeld.2.2.2.1)),(zs5 (zfar n6 l4.out) (hHeld.2.2.2.2.1)),(zs5 (zfar o7 l4.out) (hHeld.2.2.2.2.2.1)),(zs5 (zfar o6 l4.out) (hHeld.2.2.2.2.2.2.1)),(zs5 (zfar o5 l4.out) (hHeld.2.2.2.2.2.2.2.1)),(zs5 (zfar o4 l4.out) (hHeld.2.2.2.2.2.2.2.2.1)),(zs5 (zfar o3 l4.out) (hHeld.2.2.2.2.2.2.2.2.2))⟩ (fun hHeld=>?_)
           clear hK K
           refine zon 12 none HT_.out (fun K hK=>?_)
           have hs37:w31.cell? ⟨j4,0,none⟩=some (.int .i64 0):=zc d7.out 0
           have hfs37:=zaB d7.out 0
           have hns37_0:=j7.out
           have hns37_1:=i9.out
           have hms37_0:=k7.out
           have hms37_1:=j2.out
           have hs38:w31.cell? ⟨j4,1,none⟩=some (.int .i64 0):=zc d7.out 1
           have hfs38:=zaB d7.out 1
           have hns38_0:=j7.out
           have hns38_1:=i9.out
           have hms38_0:=k7.out
           have hms38_1:=j2.out
           have hs39:w31.cell? ⟨j4,2,none⟩=some (.int .i64 0):=zc d7.out 2
           have hfs39:=zaB d7.out 2
           have hns39_0:=j7.out
           have hns39_1:=i9.out
           have hms39_0:=k7.out
           have hms39_1:=j2.out
           have hs40:w31.cell? ⟨j4,3,none⟩=some (.int .i64 0):=zc d7.out 3
           have hfs40:=zaB d7.out 3
           have hns40_0:=j7.out
           have hns40_1:=i9.out
           have hms40_0:=k7.out
           have hms40_1:=j2.out
           have hs41:w31.cell? ⟨j4,4,none⟩=some (.int .i64 0):=zc d7.out 4
           have hfs41:=zaB d7.out 4
           have hns41_0:=j7.out
           have hns41_1:=i9.out
           have hms41_0:=k7.out
           have hms41_1:=j2.out
           refine skip_ (w1:=?_) (by rfl) rfl ?_ ?_
           rotate_left
           ·go_simp
            rfl
           refine hK.out _ _ ⟨(zs5 (zfar o2 l5.out) (hHeld.1)),(zs5 (zfar n9 l5.out) (hHeld.2.1)),(zs5 (zfar n8 l5.out) (hHeld.2.2.1)),(zs5 (zfar n7 l5.out) (hHeld.2.2.2.1)),(zs5 (zfar n6 l5.out) (hHeld.2.2.2.2.1)),(zs5 (zfar o7 l5.out) (hHeld.2.2.2.2.2.1)),(zs5 (zfar o6 l5.out) (hHeld.2.2.2.2.2.2.1)),(zs5 (zfar o5 l5.out) (hHeld.2.2.2.2.2.2.2.1)),(zs5 (zfar o4 l5.out) (hHeld.2.2.2.2.2.2.2.2.1)),(zs5 (zfar o3 l5.out) (hHeld.2.2.2.2.2.2.2.2.2))⟩ (fun hHeld=>?_)
           clear hK K
           refine zbT (zbB HT_.out (by kernel_rfl)) ?_
           have hnb42:=k7.out
           have hnc42:=j7.out
           have hnb43:=j2.out
           have hnc43:=i9.out
           obtain ⟨G7,G8,G9,H0,H2⟩:=zD5 d7.out
           obtain ⟨H3,H4,H5,H6,H7⟩:=zE5 d7.out
           have hnb45:=k6.out
           have hnc45:=j6.out
           obtain ⟨H8,H9,I0,I1,I2⟩:=zD5 d6.out
           obtain ⟨I3,I4,I5,I6,I7⟩:=zE5 d6.out
           try go_wp2_with (first|((with_reducible refine zbK rfl ?_);refine zle26 ?_)|((with_reducible refine zbL rfl ?_);refine zle28 ?_)|((with_reducible refine zbM rfl ?_);refine zle57 ?_)|((with_reducible refine zah (f:=69) rfl ?_);refine goesL_ (some 63) rfl rfl Try.func69 (by kernel_rfl) rfl #[.int .i64 (wrap64 (16*(wrap64 (((zab l1 x10_1).f0) - ((zab l1 (b9)).f0))))),.int .i64 (wrap64 (16*(wrap64 (((zab l1 x10_1).f1) - ((zab l1 (b9)).f1)))))] rfl (by (try simp only [List.map_toArray,List.map_cons,List.map_nil]);first|done|(simp only [hji23];rfl)|rfl|(simp only [List.length_drop,List.length_take];rfl)) ?_;(with_reducible refine (zaq.calls k1 (wrap64 (16*(wrap64 (((zab l1 x10_1).f0) - ((zab l1 (b9)).f0))))) (wrap64 (16*(wrap64 (((zab l1 x10_1).f1) - ((zab l1 (b9)).f1))))) k9 _ A27.out).mono ?_);rintro e w' ⟨rfl,⟨nd,rfl⟩⟩;refine ⟨_,rfl,?_⟩))
           go_loopg [8,9,14] k1 (fun kq v8 v9 v14 w'=>∃ (x8_2:List (S28)) (x9_2:Int) (x14_2:Int),v9 = .int .i64 x9_2∧v14 = .int .i64 x14_2∧zaa (zap.l1 kq l1 x8_2 x9_2 x10_1 k9 x14_2 e9 f5 f6 f7 g9 i3 i4 i5 i6 i7 d9 e0 e5 e6 d8 e7 ((zab l1 (b9)).f0) ((zab l1 (b9)).f1) ((zab l1 (b9)).f2) ((zab l1 (b9)).f3) ((zab l1 (b9)).f4) ((zab l1 x10_1).f0) ((zab l1 x10_1).f1) ((zab l1 x10_1).f2) ((zab l1 x10_1).f3) ((zab l1 x10_1).f4)=some (r1,r2))∧zaa (kq≤k1)∧zaa (Kd.R k28 28 w' w.heap.size (fun _=>True) v8 x8_2)∧zaa (w'.heap[d5]? = some (.cells #[.int .i64 e9,.int .i64 f5,.int .i64 f6,.int .i64 f7,.int .i64 g9,.int .i64 i3,.int .i64 i4,.int .i64 i5,.int .i64 i6,.int .i64 i7,.int .i64 d9,.int .i64 e0,.int .i64 e5,.int .i64 e6,(.slice j9 d8.length k3),.bool e7] 26 (0,0)))∧zaa (w'.heap[j3]? = some (.cells #[.int .i64 ((zab l1 (b9)).f0),.int .i64 ((zab l1 (b9)).f1),.int .i64 ((zab l1 (b9)).f2),.int .i64 ((zab l1 (b9)).f3),.int .i64 ((zab l1 (b9)).f4)] 57 (0,0)))∧zaa (w'.heap[j4]? = some (.cells #[.int .i64 ((zab l1 x10_1).f0),.int .i64 ((zab l1 x10_1).f1),.int .i64 ((zab l1 x10_1).f2),.int .i64 ((zab l1 x10_1).f3),.int .i64 ((zab l1 x10_1).f4)] 57 (0,0)))∧zaa (Below w.heap.size w w'))
           case atStart=>exact ⟨(x8_1),(x9_1),(0),zF,zF,H',⟨Nat.le_refl _⟩,⟨by (with_reducible repeat (first|apply Kd.R_alloc|apply Kd.R_drewN|apply Kd.R_drew));exact Kd.R_mono (Kd.R_far (p:=⟨j4,4,none⟩) (Kd.R_far (p:=⟨j4,3,none⟩) (Kd.R_far (p:=⟨j4,2,none⟩) (Kd.R_far (p:=⟨j4,1,none⟩) (Kd.R_far (p:=⟨j4,0,none⟩) (Kd.R_far (p:=⟨j3,4,none⟩) (Kd.R_far (p:=⟨j3,3,none⟩) (Kd.R_far (p:=⟨j3,2,none⟩) (Kd.R_far (p:=⟨j3,1,none⟩) (Kd.R_far (p:=⟨j3,0,none⟩) (Kd.R_types (Kd.R_types HO_8.out d6.out (by decide)) d7.out (by decide)) (fun _ hk=>hk.1.2) (.int .i64 ((zab l1 (b9)).f0))) (fun _ hk=>hk.1.2) (.int .i64 ((zab l1 (b9)).f1))) (fun _ hk=>hk.1.2) (.int .i64 ((zab l1 (b9)).f2))) (fun _ hk=>hk.1.2) (.int .i64 ((zab l1 (b9)).f3))) (fun _ hk=>hk.1.2) (.int .i64 ((zab l1 (b9)).f4))) (fun _ hk=>hk.2) (.int .i64 ((zab l1 x10_1).f0))) (fun _ hk=>hk.2) (.int .i64 ((zab l1 x10_1).f1))) (fun _ hk=>hk.2) (.int .i64 ((zab l1 x10_1).f2))) (fun _ hk=>hk.2) (.int .i64 ((zab l1 x10_1).f3))) (fun _ hk=>hk.2) (.int .i64 ((zab l1 x10_1).f4))) (fun _ hk=>trivial)⟩,⟨by refine zB ?_;refine zaA ?_ j7.out _;refine zB ?_;refine zaA ?_ j7.out _;refine zB ?_;refine zaA ?_ j7.out _;refine zB ?_;refine zaA ?_ j7.out _;refine zB ?_;refine zaA ?_ j7.out _;refine zB ?_;refine zaA ?_ j6.out _;refine zB ?_;refine zaA ?_ j6.out _;refine zB ?_;refine zaA ?_ j6.out _;refine zB ?_;refine zaA ?_ j6.out _;refine zB ?_;refine zaA ?_ j6.out _;refine zB ?_;exact b8.out⟩,⟨by refine zB ?_;refine zaA ?_ i9.out _;refine zB ?_;refine zaA ?_ i9.out _;refine zB ?_;refine zaA ?_ i9.out _;refine zB ?_;refine zaA ?_ i9.out _;refine zB ?_;refine zaA ?_ i9.out _;refine zB ?_;refine zar (cs:=#[.int .i64 ((zab l1 (b9)).f0),.int .i64 ((zab l1 (b9)).f1),.int .i64 ((zab l1 (b9)).f2),.int .i64 ((zab l1 (b9)).f3),.int .i64 0]) ?_ 4 _ rfl;refine zB ?_;refine zar (cs:=#[.int .i64 ((zab l1 (b9)).f0),.int .i64 ((zab l1 (b9)).f1),.int .i64 ((zab l1 (b9)).f2),.int .i64 0,.int .i64 0]) ?_ 3 _ rfl;refine zB ?_;refine zar (cs:=#[.int .i64 ((zab l1 (b9)).f0),.int .i64 ((zab l1 (b9)).f1),.int .i64 0,.int .i64 0,.int .i64 0]) ?_ 2 _ rfl;refine zB ?_;refine zar (cs:=#[.int .i64 ((zab l1 (b9)).f0),.int .i64 0,.int .i64 0,.int .i64 0,.int .i64 0]) ?_ 1 _ rfl;refine zB ?_;refine zar (cs:=#[.int .i64 0,.int .i64 0,.int .i64 0,.int .i64 0,.int .i64 0]) ?_ 0 _ rfl;refine zB ?_;exact d6.out⟩,⟨by refine zB ?_;refine zar (cs:=#[.int .i64 ((zab l1 x10_1).f0),.int .i64 ((zab l1 x10_1).f1),.int .i64 ((zab l1 x10_1).f2),.int .i64 ((zab l1 x10_1).f3),.int .i64 0]) ?_ 4 _ rfl;refine zB ?_;refine zar (cs:=#[.int .i64 ((zab l1 x10_1).f0),.int .i64 ((zab l1 x10_1).f1),.int .i64 ((zab l1 x10_1).f2),.int .i64 0,.int .i64 0]) ?_ 3 _ rfl;refine zB ?_;refine zar (cs:=#[.int .i64 ((zab l1 x10_1).f0),.int .i64 ((zab l1 x10_1).f1),.int .i64 0,.int .i64 0,.int .i64 0]) ?_ 2 _ rfl;refine zB ?_;refine zar (cs:=#[.int .i64 ((zab l1 x10_1).f0),.int .i64 0,.int .i64 0,.int .i64 0,.int .i64 0]) ?_ 1 _ rfl;refine zB ?_;refine zar (cs:=#[.int .i64 0,.int .i64 0,.int .i64 0,.int .i64 0,.int .i64 0]) ?_ 0 _ rfl;refine zB ?_;refine zaA ?_ j2.out _;refine zB ?_;refine zaA ?_ j2.out _;refine zB ?_;refine zaA ?_ j2.out _;refine zB ?_;refine zaA ?_ j2.out _;refine zB ?_;refine zaA ?_ j2.out _;refine zB ?_;exact d7.out⟩,⟨by repeat (first|(with_reducible first|exact HB.out|apply zan|apply zaj|apply zai|refine zao ?_ i8.out|refine zao ?_ k4.out|refine zao ?_ k5.out)|exact HB.out)⟩⟩
           case round=>
            clear H'
            try clear c1
            try clear c2
            try clear p2
            try clear c3
            try clear c4
            try clear c4b0
            try clear c4b1
            try clear p4
            try clear q4
            try clear hx4
            try clear qi4
            try clear c5
            try clear c6
            try clear c6b0
            try clear c6b1
            try clear p6
            try clear c7
            try clear c7b0
            try clear c7b1
            try clear c9
            try clear c9b0
            try clear c9b1
            try clear c15
            try clear c22
            try clear c22b0
            try clear c24
            try clear c24b0
            try clear c25
            try clear c25b0
            try clear c26
            try clear c26b0
            try clear p40
            try clear q40
            try clear hx40
            try clear p41
            try clear q41
            try clear hx41
            try clear c42
            try clear c43
            try clear c45
            try clear D3 D4 z9 B0 B3 B7 C0 C1 D5 D6 D7 D8 D9 E0 E1 E2 G7 G8 G9 H0 H2 H8 H9 I0 I1 I2 E3 E4 C2 C3 C4 C5 C6 C7 E5 E6 E7 E8 E9 F0 F1 F2 H3 H4 H5 H6 H7 I3 I4 I5 I6 I7
            try clear l6
            try clear l7
            try clear l8
            try clear l9
            try clear m5
            try clear m9
            try clear n0
            try clear n3
            try clear n4
            try clear n5
            try clear t7
            try clear t8
            try clear t9
            try clear u3
            try clear u4
            try clear u5
            try clear u6
            try clear u7
            try clear u9
            try clear y5
            try clear p2
            try clear p4
            try clear p403
            try clear p412
            try clear p414
            try clear p415
            try clear q4
            try clear q403
            try clear q412
            try clear q414
            try clear q415
            obtain ⟨x8_2,x9_2,x14_2,rfl,rfl,HA,G6,HO_8,b8,d6,d7,HB⟩:=hrel
            cases gk with
            | zero=>exact absurd HA.out (by simp [zap.l1])
            | succ k2=>
             have H:=HA.out
             clear HA
             simp only [zap.l1] at H
             by_cases c47:x9_2≤(wrap64 (k9 - x14_2))
             ·rw [if_pos c47] at H
              have c47b0:decide (x9_2≤(wrap64 (k9 - x14_2)))=true:=decide_eq_true c47
              clear c47
              by_cases c48:(x8_2.length:Int)=1024
              ·rw [if_pos c48] at H
               have c48b0:((x8_2.length:Int)==1024)=true:=beq_iff_eq.mpr c48
               have c48b1:((x8_2.length:Int) != 1024)=false:=bne_eq_false_iff_eq.mpr c48
               clear c48
               simp only [Option.some.injEq,Prod.mk.injEq] at H
               obtain ⟨rfl,rfl⟩:=H
               obtain ⟨Ao49,co49,eo49⟩:=Kd.R_slice HO_8.out
               subst eo49
               go_wp2
               go_ret2
               exact ⟨_,by first|rfl|(simp [zaK,zaL] <;> rfl)|(simp only [← hji23];first|rfl|(simp [zaK,zaL] <;> rfl))|(simp [*,zaK,zaL] <;> rfl),by first|exact Kd.R_nil _ _ _ _ _|exact Kd.N_nil _ _ _ _ _|exact Kd.V_nil _ _ _ _ _|exact Kd.Q_nil _ _ _ _ _|exact Kd.S_nil _ _ _ _ _,by repeat (first|(with_reducible first|exact HB.out|apply zan|apply zaj|apply zai|refine zao ?_ i8.out|refine zao ?_ k4.out|refine zao ?_ k5.out)|exact HB.out)⟩
              ·rw [if_neg c48] at H
               have c48b0:((x8_2.length:Int)==1024)=false:=beq_eq_false_iff_ne.mpr c48
               have c48b1:((x8_2.length:Int) != 1024)=true:=bne_iff_ne.mpr c48
               obtain ⟨⟨C8,C9,D0,D1,D2⟩,A50,H⟩:=zob H
               replace H:((zbf.f k2 ((zab l1 (b9)).f0) ((zab l1 (b9)).f1) ((zab l1 (b9)).f2) ((zab l1 (b9)).f3) ((zab l1 (b9)).f4) ((zab l1 x10_1).f0) ((zab l1 x10_1).f1) ((zab l1 x10_1).f2) ((zab l1 x10_1).f3) ((zab l1 x10_1).f4)).bind fun y6=>((zaD.f k2 e9 f5 f6 f7 g9 i3 i4 i5 i6 i7 d9 e0 e5 e6 d8 e7 C8 C9 D0 D1 D2 y6 (x8_2.length:Int)).bind fun k8=>(if x8_2.length<3518437208883 then ((some (x8_2 ++ [(⟨k8.1,k8.2.1,k8.2.2.1,k8.2.2.2.1,k8.2.2.2.2⟩:S28)]:List (S28))).bind fun y430=>(if 0≤(wrap64 ((y430.length:Int) - 1)) then (if (wrap64 ((y430.length:Int) - 1))<(y430.length:Int) then ((zba.f k2 e9 f5 f6 f7 g9 i3 i4 i5 i6 i7 d9 e0 e5 e6 d8 e7 ((zag y430 (wrap64 ((y430.length:Int) - 1))).f0) ((zag y430 (wrap64 ((y430.length:Int) - 1))).f1) ((zag y430 (wrap64 ((y430.length:Int) - 1))).f2) ((zag y430 (wrap64 ((y430.length:Int) - 1))).f3) ((zag y430 (wrap64 ((y430.length:Int) - 1))).f4)).bind fun m7=>(zap.l1 k2 l1 y430 m7 x10_1 k9 (wrap64 (x14_2+x9_2)) e9 f5 f6 f7 g9 i3 i4 i5 i6 i7 d9 e0 e5 e6 d8 e7 ((zab l1 (b9)).f0) ((zab l1 (b9)).f1) ((zab l1 (b9)).f2) ((zab l1 (b9)).f3) ((zab l1 (b9)).f4) ((zab l1 x10_1).f0) ((zab l1 x10_1).f1) ((zab l1 x10_1).f2) ((zab l1 x10_1).f3) ((zab l1 x10_1).f4))) else (none)) else (none))) else (none))))=some (r1,r2):=H
               obtain ⟨y6,A51,H⟩:=zob H
               replace H:((zaD.f k2 e9 f5 f6 f7 g9 i3 i4 i5 i6 i7 d9 e0 e5 e6 d8 e7 C8 C9 D0 D1 D2 y6 (x8_2.length:Int)).bind fun k8=>(if x8_2.length<3518437208883 then ((some (x8_2 ++ [(⟨k8.1,k8.2.1,k8.2.2.1,k8.2.2.2.1,k8.2.2.2.2⟩:S28)]:List (S28))).bind fun y430=>(if 0≤(wrap64 ((y430.length:Int) - 1)) then (if (wrap64 ((y430.length:Int) - 1))<(y430.length:Int) then ((zba.f k2 e9 f5 f6 f7 g9 i3 i4 i5 i6 i7 d9 e0 e5 e6 d8 e7 ((zag y430 (wrap64 ((y430.length:Int) - 1))).f0) ((zag y430 (wrap64 ((y430.length:Int) - 1))).f1) ((zag y430 (wrap64 ((y430.length:Int) - 1))).f2) ((zag y430 (wrap64 ((y430.length:Int) - 1))).f3) ((zag y430 (wrap64 ((y430.length:Int) - 1))).f4)).bind fun m7=>(zap.l1 k2 l1 y430 m7 x10_1 k9 (wrap64 (x14_2+x9_2)) e9 f5 f6 f7 g9 i3 i4 i5 i6 i7 d9 e0 e5 e6 d8 e7 ((zab l1 (b9)).f0) ((zab l1 (b9)).f1) ((zab l1 (b9)).f2) ((zab l1 (b9)).f3) ((zab l1 (b9)).f4) ((zab l1 x10_1).f0) ((zab l1 x10_1).f1) ((zab l1 x10_1).f2) ((zab l1 x10_1).f3) ((zab l1 x10_1).f4))) else (none)) else (none))) else (none)))=some (r1,r2):=H
               obtain ⟨⟨z4,z5,z6,z7,z8⟩,A52,H⟩:=zob H
               replace H:(if x8_2.length<3518437208883 then ((some (x8_2 ++ [(⟨z4,z5,z6,z7,z8⟩:S28)]:List (S28))).bind fun y430=>(if 0≤(wrap64 ((y430.length:Int) - 1)) then (if (wrap64 ((y430.length:Int) - 1))<(y430.length:Int) then ((zba.f k2 e9 f5 f6 f7 g9 i3 i4 i5 i6 i7 d9 e0 e5 e6 d8 e7 ((zag y430 (wrap64 ((y430.length:Int) - 1))).f0) ((zag y430 (wrap64 ((y430.length:Int) - 1))).f1) ((zag y430 (wrap64 ((y430.length:Int) - 1))).f2) ((zag y430 (wrap64 ((y430.length:Int) - 1))).f3) ((zag y430 (wrap64 ((y430.length:Int) - 1))).f4)).bind fun m7=>(zap.l1 k2 l1 y430 m7 x10_1 k9 (wrap64 (x14_2+x9_2)) e9 f5 f6 f7 g9 i3 i4 i5 i6 i7 d9 e0 e5 e6 d8 e7 ((zab l1 (b9)).f0) ((zab l1 (b9)).f1) ((zab l1 (b9)).f2) ((zab l1 (b9)).f3) ((zab l1 (b9)).f4) ((zab l1 x10_1).f0) ((zab l1 x10_1).f1) ((zab l1 x10_1).f2) ((zab l1 x10_1).f3) ((zab l1 x10_1).f4))) else (none)) else (none))) else (none))=some (r1,r2):=H
               by_cases c53:x8_2.length<3518437208883
               ·rw [if_pos c53] at H
                have LMc53:=zaa.mk c53
                clear c53
                obtain ⟨y430,hy430⟩ : ∃ y_:List (S28),y_=(x8_2 ++ [(⟨z4,z5,z6,z7,z8⟩:S28)]):=⟨_,rfl⟩
                replace H:(if 0≤(wrap64 ((y430.length:Int) - 1)) then (if (wrap64 ((y430.length:Int) - 1))<(y430.length:Int) then ((zba.f k2 e9 f5 f6 f7 g9 i3 i4 i5 i6 i7 d9 e0 e5 e6 d8 e7 ((zag y430 (wrap64 ((y430.length:Int) - 1))).f0) ((zag y430 (wrap64 ((y430.length:Int) - 1))).f1) ((zag y430 (wrap64 ((y430.length:Int) - 1))).f2) ((zag y430 (wrap64 ((y430.length:Int) - 1))).f3) ((zag y430 (wrap64 ((y430.length:Int) - 1))).f4)).bind fun m7=>(zap.l1 k2 l1 y430 m7 x10_1 k9 (wrap64 (x14_2+x9_2)) e9 f5 f6 f7 g9 i3 i4 i5 i6 i7 d9 e0 e5 e6 d8 e7 ((zab l1 (b9)).f0) ((zab l1 (b9)).f1) ((zab l1 (b9)).f2) ((zab l1 (b9)).f3) ((zab l1 (b9)).f4) ((zab l1 x10_1).f0) ((zab l1 x10_1).f1) ((zab l1 x10_1).f2) ((zab l1 x10_1).f3) ((zab l1 x10_1).f4))) else (none)) else (none))=some (r1,r2):=by first|(rw [hy430];with_reducible exact H)|(have H2_:=(Option.bind_some _ _).symm.trans H;rw [hy430];with_reducible exact H2_)|(have H2_:=(Option.bind_some _ _).symm.trans H;with_reducible exact H2_)|with_reducible exact H|(rw [hy430];exact H)|exact H
                have Ny430:=zaa.mk hy430
                clear hy430
                obtain ⟨j5,hji54⟩ : ∃ j_:Int,(wrap64 ((y430.length:Int) - 1))=j_:=⟨_,rfl⟩
                replace H:(if 0≤(j5) then (if (j5)<(y430.length:Int) then ((zba.f k2 e9 f5 f6 f7 g9 i3 i4 i5 i6 i7 d9 e0 e5 e6 d8 e7 ((zag y430 (j5)).f0) ((zag y430 (j5)).f1) ((zag y430 (j5)).f2) ((zag y430 (j5)).f3) ((zag y430 (j5)).f4)).bind fun m7=>(zap.l1 k2 l1 y430 m7 x10_1 k9 (wrap64 (x14_2+x9_2)) e9 f5 f6 f7 g9 i3 i4 i5 i6 i7 d9 e0 e5 e6 d8 e7 ((zab l1 (b9)).f0) ((zab l1 (b9)).f1) ((zab l1 (b9)).f2) ((zab l1 (b9)).f3) ((zab l1 (b9)).f4) ((zab l1 x10_1).f0) ((zab l1 x10_1).f1) ((zab l1 x10_1).f2) ((zab l1 x10_1).f3) ((zab l1 x10_1).f4))) else (none)) else (none))=some (r1,r2):=by first|(rw [hji54] at H;exact H)|(simp only [hji54] at H ⊢;exact H)
                (try rw [hji54] at A50)
                (try rw [hji54] at A51)
                (try rw [hji54] at A52)
                have hji54w:(IntKind.i64.wrap ((y430.length:Int) - 1))=j5:=(zbY _).trans hji54
                by_cases c55:0≤(j5)
                ·rw [if_pos c55] at H
                 have c55b0:decide (0≤(j5))=true:=decide_eq_true c55
                 clear c55
                 by_cases c56:(j5)<(y430.length:Int)
                 ·rw [if_pos c56] at H
                  have c56b0:decide ((j5)<(y430.length:Int))=true:=decide_eq_true c56
                  clear c56
                  obtain ⟨m7,A57,H⟩:=zob H
                  replace H:(zap.l1 k2 l1 y430 m7 x10_1 k9 (wrap64 (x14_2+x9_2)) e9 f5 f6 f7 g9 i3 i4 i5 i6 i7 d9 e0 e5 e6 d8 e7 ((zab l1 (b9)).f0) ((zab l1 (b9)).f1) ((zab l1 (b9)).f2) ((zab l1 (b9)).f3) ((zab l1 (b9)).f4) ((zab l1 x10_1).f0) ((zab l1 x10_1).f1) ((zab l1 x10_1).f2) ((zab l1 x10_1).f3) ((zab l1 x10_1).f4))=some (r1,r2):=H
                  have H':=zaa.mk H
                  clear H
                  obtain ⟨Ao58,co58,eo58⟩:=Kd.R_slice HO_8.out
                  subst eo58
                  try go_wp2
                  replace HO_8:=zaa.mk (Kd.R_drew HO_8.out)
                  replace b8:=zaa.mk (zaM b8.out)
                  replace d6:=zaa.mk (zaM d6.out)
                  replace d7:=zaa.mk (zaM d7.out)
                  replace HB:=zaa.mk (zai HB.out)
                  refine zbA (n:=16) (S:=fun w'=>w'.cell? ⟨d5,0,none⟩=some (.int .i64 e9)∧w'.cell? ⟨d5,1,none⟩=some (.int .i64 f5)∧w'.cell? ⟨d5,2,none⟩=some (.int .i64 f6)∧w'.cell? ⟨d5,3,none⟩=some (.int .i64 f7)∧w'.cell? ⟨d5,4,none⟩=some (.int .i64 g9)∧w'.cell? ⟨d5,5,none⟩=some (.int .i64 i3)∧w'.cell? ⟨d5,6,none⟩=some (.int .i64 i4)∧w'.cell? ⟨d5,7,none⟩=some (.int .i64 i5)∧w'.cell? ⟨d5,8,none⟩=some (.int .i64 i6)∧w'.cell? ⟨d5,9,none⟩=some (.int .i64 i7)∧w'.cell? ⟨d5,10,none⟩=some (.int .i64 d9)∧w'.cell? ⟨d5,11,none⟩=some (.int .i64 e0)∧w'.cell? ⟨d5,12,none⟩=some (.int .i64 e5)∧w'.cell? ⟨d5,13,none⟩=some (.int .i64 e6)∧w'.cell? ⟨d5,14,none⟩=some (.slice j9 d8.length k3)∧w'.cell? ⟨d5,15,none⟩=some (.bool e7)∧w'.cell? ⟨j3,0,none⟩=some (.int .i64 ((zab l1 (b9)).f0))∧w'.cell? ⟨j3,1,none⟩=some (.int .i64 ((zab l1 (b9)).f1))∧w'.cell? ⟨j3,2,none⟩=some (.int .i64 ((zab l1 (b9)).f2))∧w'.cell? ⟨j3,3,none⟩=some (.int .i64 ((zab l1 (b9)).f3))∧w'.cell? ⟨j3,4,none⟩=some (.int .i64 ((zab l1 (b9)).f4))∧w'.cell? ⟨j4,0,none⟩=some (.int .i64 ((zab l1 x10_1).f0))∧w'.cell? ⟨j4,1,none⟩=some (.int .i64 ((zab l1 x10_1).f1))∧w'.cell? ⟨j4,2,none⟩=some (.int .i64 ((zab l1 x10_1).f2))∧w'.cell? ⟨j4,3,none⟩=some (.int .i64 ((zab l1 x10_1).f3))∧w'.cell? ⟨j4,4,none⟩=some (.int .i64 ((zab l1 x10_1).f4))) (ds:=[]) #[false,false,false,false,false,false,false,false,false,false,false,false,false,false,false,false] (by kernel_rfl) rfl rfl ⟨zc b8.out 0,zc b8.out 1,zc b8.out 2,zc b8.out 3,zc b8.out 4,zc b8.out 5,zc b8.out 6,zc b8.out 7,zc b8.out 8,zc b8.out 9,zc b8.out 10,zc b8.out 11,zc b8.out 12,zc b8.out 13,zc b8.out 14,zc b8.out 15,zc d6.out 0,zc d6.out 1,zc d6.out 2,zc d6.out 3,zc d6.out 4,zc d7.out 0,zc d7.out 1,zc d7.out 2,zc d7.out 3,zc d7.out 4⟩ (fun hHeld=>?_);refine zbn zap.tab19 zap.bits19 (fun HT_ HW_=>?_)
                  generalize wr.drew=w59 at HO_8 b8 d6 d7 HB hHeld ⊢
                  refine zpu 0 75 HT_.out ?_
                  refine zpu 4 79 HT_.out ?_
                  refine zpu 5 80 HT_.out ?_
                  refine zpu 10 85 HT_.out ?_
                  refine zpu 11 86 HT_.out ?_
                  refine ztl 1 76 HT_.out HW_.out hHeld ?_
                  refine ztl 2 77 HT_.out HW_.out hHeld ?_
                  refine ztl 3 78 HT_.out HW_.out hHeld ?_
                  refine ztl 7 82 HT_.out HW_.out hHeld ?_
                  refine ztl 8 83 HT_.out HW_.out hHeld ?_
                  refine zon 6 (some 81) HT_.out (fun K hK=>?_)
                  refine goes_ Try.func79 (by kernel_rfl) rfl #[.agg #[.int .i64 ((zab l1 (b9)).f0),.int .i64 ((zab l1 (b9)).f1),.int .i64 ((zab l1 (b9)).f2),.int .i64 ((zab l1 (b9)).f3),.int .i64 ((zab l1 (b9)).f4)],.agg #[.int .i64 ((zab l1 x10_1).f0),.int .i64 ((zab l1 x10_1).f1),.int .i64 ((zab l1 x10_1).f2),.int .i64 ((zab l1 x10_1).f3),.int .i64 ((zab l1 x10_1).f4)],.int .i64 (wrap64 (x14_2+x9_2)),.int .i64 k9] (by rfl) rfl rfl (by (try simp only [List.map_toArray,List.map_cons,List.map_nil]);first|done|(simp only [hji23];rfl)|rfl|(simp only [List.length_drop,List.length_take];rfl)) ?_
                  with_reducible refine (zbd.calls k2 ((zab l1 (b9)).f0) ((zab l1 (b9)).f1) ((zab l1 (b9)).f2) ((zab l1 (b9)).f3) ((zab l1 (b9)).f4) ((zab l1 x10_1).f0) ((zab l1 x10_1).f1) ((zab l1 x10_1).f2) ((zab l1 x10_1).f3) ((zab l1 x10_1).f4) (wrap64 (x14_2+x9_2)) k9 C8 C9 D0 D1 D2 _ A50.out).mono ?_
                  rintro e w60 ⟨rfl,hb⟩
                  refine ⟨_,rfl,?_⟩
                  have n0_:=zaa.mk (Kd.R_below (by (with_reducible repeat (first|apply Kd.R_alloc|apply Kd.R_drewN|apply Kd.R_drew));exact HO_8.out) hb)
                  have n1_:=zaa.mk (zac (zB b8.out) hb)
                  have n2_:=zaa.mk (zac (zB d6.out) hb)
                  have n3_:=zaa.mk (zac (zB d7.out) hb)
                  have n4_:=zaa.mk (zae (zL3 HB.out i8.out k4.out k5.out) hb)
                  clear HO_8
                  clear b8
                  clear d6
                  clear d7
                  clear HB
                  have HO_8:=n0_
                  have b8:=n1_
                  have d6:=n2_
                  have d7:=n3_
                  have HB:=n4_
                  clear n0_ n1_ n2_ n3_ n4_
                  (try clear hb)
                  refine hK.out _ _ ⟨zc b8.out 0,zc b8.out 1,zc b8.out 2,zc b8.out 3,zc b8.out 4,zc b8.out 5,zc b8.out 6,zc b8.out 7,zc b8.out 8,zc b8.out 9,zc b8.out 10,zc b8.out 11,zc b8.out 12,zc b8.out 13,zc b8.out 14,zc b8.out 15,zc d6.out 0,zc d6.out 1,zc d6.out 2,zc d6.out 3,zc d6.out 4,zc d7.out 0,zc d7.out 1,zc d7.out 2,zc d7.out 3,zc d7.out 4⟩ (fun hHeld=>?_)
                  clear hK K
                  refine znm ?_
                  refine zon 9 (some 84) HT_.out (fun K hK=>?_)
                  refine goes_ Try.func80 (by kernel_rfl) rfl #[.agg #[.int .i64 ((zab l1 (b9)).f0),.int .i64 ((zab l1 (b9)).f1),.int .i64 ((zab l1 (b9)).f2),.int .i64 ((zab l1 (b9)).f3),.int .i64 ((zab l1 (b9)).f4)],.agg #[.int .i64 ((zab l1 x10_1).f0),.int .i64 ((zab l1 x10_1).f1),.int .i64 ((zab l1 x10_1).f2),.int .i64 ((zab l1 x10_1).f3),.int .i64 ((zab l1 x10_1).f4)]] (by rfl) rfl rfl (by (try simp only [List.map_toArray,List.map_cons,List.map_nil]);first|done|(simp only [hji23];rfl)|rfl|(simp only [List.length_drop,List.length_take];rfl)) ?_
                  with_reducible refine (zbf.calls k2 ((zab l1 (b9)).f0) ((zab l1 (b9)).f1) ((zab l1 (b9)).f2) ((zab l1 (b9)).f3) ((zab l1 (b9)).f4) ((zab l1 x10_1).f0) ((zab l1 x10_1).f1) ((zab l1 x10_1).f2) ((zab l1 x10_1).f3) ((zab l1 x10_1).f4) y6 _ A51.out).mono ?_
                  rintro e w61 ⟨rfl,hb⟩
                  refine ⟨_,rfl,?_⟩
                  have n0_:=zaa.mk (Kd.R_below (by (with_reducible repeat (first|apply Kd.R_alloc|apply Kd.R_drewN|apply Kd.R_drew));exact HO_8.out) hb)
                  have n1_:=zaa.mk (zac (zB b8.out) hb)
                  have n2_:=zaa.mk (zac (zB d6.out) hb)
                  have n3_:=zaa.mk (zac (zB d7.out) hb)
                  have n4_:=zaa.mk (zae (zL3 HB.out i8.out k4.out k5.out) hb)
                  clear HO_8
                  clear b8
                  clear d6
                  clear d7
                  clear HB
                  have HO_8:=n0_
                  have b8:=n1_
                  have d6:=n2_
                  have d7:=n3_
                  have HB:=n4_
                  clear n0_ n1_ n2_ n3_ n4_
                  (try clear hb)
                  refine hK.out _ _ ⟨zc b8.out 0,zc b8.out 1,zc b8.out 2,zc b8.out 3,zc b8.out 4,zc b8.out 5,zc b8.out 6,zc b8.out 7,zc b8.out 8,zc b8.out 9,zc b8.out 10,zc b8.out 11,zc b8.out 12,zc b8.out 13,zc b8.out 14,zc b8.out 15,zc d6.out 0,zc d6.out 1,zc d6.out 2,zc d6.out 3,zc d6.out 4,zc d7.out 0,zc d7.out 1,zc d7.out 2,zc d7.out 3,zc d7.out 4⟩ (fun hHeld=>?_)
                  clear hK K
                  refine znm ?_
                  refine zon 12 (some 87) HT_.out (fun K hK=>?_)
                  refine zgo Try.func77 #[.agg #[.int .i64 e9,.int .i64 f5,.int .i64 f6,.int .i64 f7,.int .i64 g9,.int .i64 i3,.int .i64 i4,.int .i64 i5,.int .i64 i6,.int .i64 i7,.int .i64 d9,.int .i64 e0,.int .i64 e5,.int .i64 e6,.slice j9 d8.length k3,.bool e7],.agg #[.int .i64 C8,.int .i64 C9,.int .i64 D0,.int .i64 D1,.int .i64 D2],.int .i64 y6,.int .i64 (x8_2.length:Int)] ?_
                  with_reducible refine (zaD.calls k2 e9 f5 f6 f7 g9 i3 i4 i5 i6 i7 d9 e0 e5 e6 _ _ d8 e7 C8 C9 D0 D1 D2 y6 (x8_2.length:Int) z4 z5 z6 z7 z8 _ ?side1 ?side2 A52.out).mono ?_
                  (case side1=>repeat (first|exact (Kd.C_below s9.out HB.out)|(with_reducible refine Kd.C_alloc ?_ _)|(with_reducible refine Kd.C_drewN ?_ _)|(with_reducible refine Kd.C_drew ?_)))
                  (case side2=>exact t6.out)
                  rintro e w62 ⟨rfl,hb⟩
                  refine ⟨_,rfl,?_⟩
                  have n0_:=zaa.mk (Kd.R_below (by (with_reducible repeat (first|apply Kd.R_alloc|apply Kd.R_drewN|apply Kd.R_drew));exact HO_8.out) hb)
                  have n1_:=zaa.mk (zac (zB b8.out) hb)
                  have n2_:=zaa.mk (zac (zB d6.out) hb)
                  have n3_:=zaa.mk (zac (zB d7.out) hb)
                  have n4_:=zaa.mk (zae (zL3 HB.out i8.out k4.out k5.out) hb)
                  clear HO_8
                  clear b8
                  clear d6
                  clear d7
                  clear HB
                  have HO_8:=n0_
                  have b8:=n1_
                  have d6:=n2_
                  have d7:=n3_
                  have HB:=n4_
                  clear n0_ n1_ n2_ n3_ n4_
                  (try clear hb)
                  refine hK.out _ _ ⟨zc b8.out 0,zc b8.out 1,zc b8.out 2,zc b8.out 3,zc b8.out 4,zc b8.out 5,zc b8.out 6,zc b8.out 7,zc b8.out 8,zc b8.out 9,zc b8.out 10,zc b8.out 11,zc b8.out 12,zc b8.out 13,zc b8.out 14,zc b8.out 15,zc d6.out 0,zc d6.out 1,zc d6.out 2,zc d6.out 3,zc d6.out 4,zc d7.out 0,zc d7.out 1,zc d7.out 2,zc d7.out 3,zc d7.out 4⟩ (fun hHeld=>?_)
                  clear hK K
                  refine znm ?_
                  refine zon 13 (some 88) HT_.out (fun K hK=>?_)
                  refine value_ (w1:=?_) (v:=?_) (by rfl) rfl ?_ ?_
                  rotate_left 2
                  ·go_simp
                   constructor
                   ·rfl
                   ·rfl
                  refine hK.out _ _ ⟨(zbS (zbz b8.out _) 0).trans rfl,(zbS (zbz b8.out _) 1).trans rfl,(zbS (zbz b8.out _) 2).trans rfl,(zbS (zbz b8.out _) 3).trans rfl,(zbS (zbz b8.out _) 4).trans rfl,(zbS (zbz b8.out _) 5).trans rfl,(zbS (zbz b8.out _) 6).trans rfl,(zbS (zbz b8.out _) 7).trans rfl,(zbS (zbz b8.out _) 8).trans rfl,(zbS (zbz b8.out _) 9).trans rfl,(zbS (zbz b8.out _) 10).trans rfl,(zbS (zbz b8.out _) 11).trans rfl,(zbS (zbz b8.out _) 12).trans rfl,(zbS (zbz b8.out _) 13).trans rfl,(zbS (zbz b8.out _) 14).trans rfl,(zbS (zbz b8.out _) 15).trans rfl,(zbS (zbz d6.out _) 0).trans rfl,(zbS (zbz d6.out _) 1).trans rfl,(zbS (zbz d6.out _) 2).trans rfl,(zbS (zbz d6.out _) 3).trans rfl,(zbS (zbz d6.out _) 4).trans rfl,(zbS (zbz d7.out _) 0).trans rfl,(zbS (zbz d7.out _) 1).trans rfl,(zbS (zbz d7.out _) 2).trans rfl,(zbS (zbz d7.out _) 3).trans rfl,(zbS (zbz d7.out _) 4).trans rfl⟩ (fun hHeld=>?_)
                  clear hK K
                  refine znm ?_
                  refine zon 14 (some 89) HT_.out (fun K hK=>?_)
                  refine Kd.R_append_step k28 (w0:=w) w.heap.size (by rfl) (.tmp 75) (.tmp 88) 51 28 (.agg #[(.int .i64 0),(.int .i64 0),(.int .i64 0),(.int .i64 0),(.int .i64 0)]) 40 rfl Try.underlying51 info28 rfl (by decide) (by omega) (.slice Ao58 x8_2.length co58) x8_2 (⟨z4,z5,z6,z7,z8⟩:S28) [.int .i64 z4,.int .i64 z5,.int .i64 z6,.int .i64 z7,.int .i64 z8] (fun _=>True) (fun _=>False) rfl rfl ?aP (fun _ hk=>hk.elim) ?aF ?aO ?aB ?aS ?aL ?_
                  (case aP=>exact k28_mkM _ _ _ (⟨z4,z5,z6,z7,z8⟩:S28))
                  (case aB=>exact (zL3 HB.out i8.out k4.out k5.out))
                  (case aF=>exact (fun _ _=>trivial))
                  (case aO=>exact (by (with_reducible repeat (first|apply Kd.R_alloc|apply Kd.R_drewN|apply Kd.R_drew));exact HO_8.out))
                  (case aS=>exact (zbJ (zL3 HB.out i8.out k4.out k5.out)))
                  (case aL=>have:=LMc53.out;omega)
                  intro v431 w63 ho hb hg hat
                  rw [← Ny430.out] at ho
                  have n0_:=zaa.mk (blk_grown (g:=d5) (o:=.cells #[.int .i64 e9,.int .i64 f5,.int .i64 f6,.int .i64 f7,.int .i64 g9,.int .i64 i3,.int .i64 i4,.int .i64 i5,.int .i64 i6,.int .i64 i7,.int .i64 d9,.int .i64 e0,.int .i64 e5,.int .i64 e6,.slice j9 d8.length k3,.bool e7] 26 (0,0)) (zB b8.out) hg (Kd.R_ne HO_8.out b8.out (by decide)))
                  have n1_:=zaa.mk (blk_grown (g:=j3) (o:=.cells #[.int .i64 ((zab l1 (b9)).f0),.int .i64 ((zab l1 (b9)).f1),.int .i64 ((zab l1 (b9)).f2),.int .i64 ((zab l1 (b9)).f3),.int .i64 ((zab l1 (b9)).f4)] 57 (0,0)) (zB d6.out) hg (Kd.R_ne HO_8.out d6.out (by decide)))
                  have n2_:=zaa.mk (blk_grown (g:=j4) (o:=.cells #[.int .i64 ((zab l1 x10_1).f0),.int .i64 ((zab l1 x10_1).f1),.int .i64 ((zab l1 x10_1).f2),.int .i64 ((zab l1 x10_1).f3),.int .i64 ((zab l1 x10_1).f4)] 57 (0,0)) (zB d7.out) hg (Kd.R_ne HO_8.out d7.out (by decide)))
                  have n3_:=zaa.mk (hb)
                  have n4_:=zaa.mk (ho)
                  clear b8
                  clear d6
                  clear d7
                  clear HB
                  clear HO_8
                  have b8:=n0_
                  have d6:=n1_
                  have d7:=n2_
                  have HB:=n3_
                  have p7:=n4_
                  clear n0_ n1_ n2_ n3_ n4_
                  clear ho hb hg hat
                  refine hK.out _ _ ⟨zc b8.out 0,zc b8.out 1,zc b8.out 2,zc b8.out 3,zc b8.out 4,zc b8.out 5,zc b8.out 6,zc b8.out 7,zc b8.out 8,zc b8.out 9,zc b8.out 10,zc b8.out 11,zc b8.out 12,zc b8.out 13,zc b8.out 14,zc b8.out 15,zc d6.out 0,zc d6.out 1,zc d6.out 2,zc d6.out 3,zc d6.out 4,zc d7.out 0,zc d7.out 1,zc d7.out 2,zc d7.out 3,zc d7.out 4⟩ (fun hHeld=>?_)
                  clear hK K
                  refine znm ?_
                  refine zpu 15 8 HT_.out ?_
                  refine zbT (zbB HT_.out (by kernel_rfl)) ?_
                  try go_wp2
                  replace p7:=zaa.mk (Kd.R_drew p7.out)
                  replace b8:=zaa.mk (zaM b8.out)
                  replace d6:=zaa.mk (zaM d6.out)
                  replace d7:=zaa.mk (zaM d7.out)
                  replace HB:=zaa.mk (zai HB.out)
                  obtain ⟨Ao65,co65,eo65⟩:=Kd.R_slice p7.out
                  (first|subst eo65|(injection eo65 with f1_ f2_ f3_;have f4_:=f1_.symm;have f5_:=f3_.symm;clear f1_ f2_ f3_;subst f4_;subst f5_))
                  have p433:0≤((j5):Int):=of_decide_eq_true (by first|(with_reducible assumption)|assumption)
                  have q433:(j5)<(y430.length:Int):=of_decide_eq_true (by first|(with_reducible assumption)|assumption)
                  obtain ⟨p8,e433,F3,F4,F5,F6,F7⟩:=at_T28 (Kd.R_reads' p7.out).2.2 (j5) p433 q433
                  cases e433
                  replace p433:=eq_true p433
                  replace q433:=eq_true q433
                  refine zbA (n:=9) (S:=fun w'=>w'.cell? ⟨d5,0,none⟩=some (.int .i64 e9)∧w'.cell? ⟨d5,1,none⟩=some (.int .i64 f5)∧w'.cell? ⟨d5,2,none⟩=some (.int .i64 f6)∧w'.cell? ⟨d5,3,none⟩=some (.int .i64 f7)∧w'.cell? ⟨d5,4,none⟩=some (.int .i64 g9)∧w'.cell? ⟨d5,5,none⟩=some (.int .i64 i3)∧w'.cell? ⟨d5,6,none⟩=some (.int .i64 i4)∧w'.cell? ⟨d5,7,none⟩=some (.int .i64 i5)∧w'.cell? ⟨d5,8,none⟩=some (.int .i64 i6)∧w'.cell? ⟨d5,9,none⟩=some (.int .i64 i7)∧w'.cell? ⟨d5,10,none⟩=some (.int .i64 d9)∧w'.cell? ⟨d5,11,none⟩=some (.int .i64 e0)∧w'.cell? ⟨d5,12,none⟩=some (.int .i64 e5)∧w'.cell? ⟨d5,13,none⟩=some (.int .i64 e6)∧w'.cell? ⟨d5,14,none⟩=some (.slice j9 d8.length k3)∧w'.cell? ⟨d5,15,none⟩=some (.bool e7)∧w'.cell? (p8.add (((j5)).toNat*5))=some (.int .i64 ((zag y430 (j5)).f0))∧w'.cell? ⟨(p8.add (((j5)).toNat*5)).block,(p8.add (((j5)).toNat*5)).off+1,none⟩=some (.int .i64 ((zag y430 (j5)).f1))∧w'.cell? ⟨(p8.add (((j5)).toNat*5)).block,(p8.add (((j5)).toNat*5)).off+2,none⟩=some (.int .i64 ((zag y430 (j5)).f2))∧w'.cell? ⟨(p8.add (((j5)).toNat*5)).block,(p8.add (((j5)).toNat*5)).off+3,none⟩=some (.int .i64 ((zag y430 (j5)).f3))∧w'.cell? ⟨(p8.add (((j5)).toNat*5)).block,(p8.add (((j5)).toNat*5)).off+4,none⟩=some (.int .i64 ((zag y430 (j5)).f4))) (ds:=[]) #[false,false,false,false,false,false,false,false,false] (by kernel_rfl) rfl rfl ⟨zc b8.out 0,zc b8.out 1,zc b8.out 2,zc b8.out 3,zc b8.out 4,zc b8.out 5,zc b8.out 6,zc b8.out 7,zc b8.out 8,zc b8.out 9,zc b8.out 10,zc b8.out 11,zc b8.out 12,zc b8.out 13,zc b8.out 14,zc b8.out 15,F3,F4,F5,F6,F7⟩ (fun hHeld=>?_);refine zbn zap.tab20 zap.bits20 (fun HT_ HW_=>?_)
                  generalize w63.drew=w64 at p7 b8 d6 d7 HB F3 F4 F5 F6 F7 hHeld ⊢
                  refine zpu 1 91 HT_.out ?_
                  refine zpu 2 92 HT_.out ?_
                  refine zpu 3 93 HT_.out ?_
                  refine zpu 4 94 HT_.out ?_
                  refine zpu 5 95 HT_.out ?_
                  refine ztl 0 90 HT_.out HW_.out hHeld ?_
                  refine ztl 6 96 HT_.out HW_.out hHeld ?_
                  refine zon 7 (some 97) HT_.out (fun K hK=>?_)
                  refine goes_ Try.func78 (by kernel_rfl) rfl #[.agg #[.int .i64 e9,.int .i64 f5,.int .i64 f6,.int .i64 f7,.int .i64 g9,.int .i64 i3,.int .i64 i4,.int .i64 i5,.int .i64 i6,.int .i64 i7,.int .i64 d9,.int .i64 e0,.int .i64 e5,.int .i64 e6,.slice j9 d8.length k3,.bool e7],.agg #[.int .i64 ((zag y430 (j5)).f0),.int .i64 ((zag y430 (j5)).f1),.int .i64 ((zag y430 (j5)).f2),.int .i64 ((zag y430 (j5)).f3),.int .i64 ((zag y430 (j5)).f4)]] (by rfl) rfl rfl (by (try simp only [List.map_toArray,List.map_cons,List.map_nil]);first|done|(simp only [hji54];rfl)|rfl|(simp only [List.length_drop,List.length_take];rfl)) ?_
                  with_reducible refine (zba.calls k2 e9 f5 f6 f7 g9 i3 i4 i5 i6 i7 d9 e0 e5 e6 _ _ d8 e7 ((zag y430 (j5)).f0) ((zag y430 (j5)).f1) ((zag y430 (j5)).f2) ((zag y430 (j5)).f3) ((zag y430 (j5)).f4) m7 _ ?side1 ?side2 A57.out).mono ?_
                  (case side1=>repeat (first|exact (Kd.C_below s9.out HB.out)|(with_reducible refine Kd.C_alloc ?_ _)|(with_reducible refine Kd.C_drewN ?_ _)|(with_reducible refine Kd.C_drew ?_)))
                  (case side2=>exact t6.out)
                  rintro e w66 ⟨rfl,hb⟩
                  have HS16_:=(hb.cell (World.block_lt_of_cell? _ _ (hHeld.2.2.2.2.2.2.2.2.2.2.2.2.2.2.2.2.1))).trans (hHeld.2.2.2.2.2.2.2.2.2.2.2.2.2.2.2.2.1)
                  have HS17_:=(hb.cell (World.block_lt_of_cell? _ _ (hHeld.2.2.2.2.2.2.2.2.2.2.2.2.2.2.2.2.2.1))).trans (hHeld.2.2.2.2.2.2.2.2.2.2.2.2.2.2.2.2.2.1)
                  have HS18_:=(hb.cell (World.block_lt_of_cell? _ _ (hHeld.2.2.2.2.2.2.2.2.2.2.2.2.2.2.2.2.2.2.1))).trans (hHeld.2.2.2.2.2.2.2.2.2.2.2.2.2.2.2.2.2.2.1)
                  have HS19_:=(hb.cell (World.block_lt_of_cell? _ _ (hHeld.2.2.2.2.2.2.2.2.2.2.2.2.2.2.2.2.2.2.2.1))).trans (hHeld.2.2.2.2.2.2.2.2.2.2.2.2.2.2.2.2.2.2.2.1)
                  have HS20_:=(hb.cell (World.block_lt_of_cell? _ _ (hHeld.2.2.2.2.2.2.2.2.2.2.2.2.2.2.2.2.2.2.2.2))).trans (hHeld.2.2.2.2.2.2.2.2.2.2.2.2.2.2.2.2.2.2.2.2)
                  refine ⟨_,rfl,?_⟩
                  have n0_:=zaa.mk (Kd.R_below (by (with_reducible repeat (first|apply Kd.R_alloc|apply Kd.R_drewN|apply Kd.R_drew));exact p7.out) hb)
                  have n1_:=zaa.mk (zac (zB b8.out) hb)
                  have n2_:=zaa.mk (zac (zB d6.out) hb)
                  have n3_:=zaa.mk (zac (zB d7.out) hb)
                  have n4_:=zaa.mk (zae (zL3 HB.out i8.out k4.out k5.out) hb)
                  clear p7
                  clear b8
                  clear d6
                  clear d7
                  clear HB
                  have p7:=n0_
                  have b8:=n1_
                  have d6:=n2_
                  have d7:=n3_
                  have HB:=n4_
                  clear n0_ n1_ n2_ n3_ n4_
                  (try clear hb)
                  refine hK.out _ _ ⟨zc b8.out 0,zc b8.out 1,zc b8.out 2,zc b8.out 3,zc b8.out 4,zc b8.out 5,zc b8.out 6,zc b8.out 7,zc b8.out 8,zc b8.out 9,zc b8.out 10,zc b8.out 11,zc b8.out 12,zc b8.out 13,zc b8.out 14,zc b8.out 15,HS16_,HS17_,HS18_,HS19_,HS20_⟩ (fun hHeld=>?_)
                  clear hK K
                  refine znm ?_
                  refine zpu 8 9 HT_.out ?_
                  refine zbT (zbB HT_.out (by kernel_rfl)) ?_
                  try go_wp2
                  go_roundg k2
                  case measure=>have:=G5.out;have:=G6.out;omega
                  case rel=>exact ⟨(y430),(m7),(wrap64 (x14_2+x9_2)),zF,zF,H',⟨by have:=G5.out;have:=G6.out;omega⟩,⟨by (with_reducible repeat (first|apply Kd.R_alloc|apply Kd.R_drewN|apply Kd.R_drew));exact p7.out⟩,⟨by refine zB ?_;exact b8.out⟩,⟨by refine zB ?_;exact d6.out⟩,⟨by refine zB ?_;exact d7.out⟩,⟨by repeat (first|(with_reducible first|exact HB.out|apply zan|apply zaj|apply zai|refine zao ?_ i8.out|refine zao ?_ k4.out|refine zao ?_ k5.out)|exact HB.out)⟩⟩
                 ·rw [if_neg c56] at H
                  exact absurd H (by simp)
                ·rw [if_neg c55] at H
                 exact absurd H (by simp)
               ·rw [if_neg c53] at H
                exact absurd H (by simp)
             ·rw [if_neg c47] at H
              have c47b0:decide (x9_2≤(wrap64 (k9 - x14_2)))=false:=decide_eq_false c47
              clear c47
              have H':=zaa.mk H
              clear H
              go_wp2
              go_roundg k2
              case measure=>have:=G5.out;have:=G6.out;omega
              case rel=>exact ⟨(x8_2),(wrap64 (x9_2 - (wrap64 (k9 - x14_2)))),(wrap64 (x10_1+1)),zF,zF,H',⟨by have:=G5.out;have:=G6.out;omega⟩,⟨by (with_reducible repeat (first|apply Kd.R_alloc|apply Kd.R_drewN|apply Kd.R_drew));exact HO_8.out⟩,⟨by refine zB ?_;exact b8.out⟩,⟨by repeat (first|(with_reducible first|exact HB.out|apply zan|apply zaj|apply zai|refine zao ?_ i8.out|refine zao ?_ k4.out|refine zao ?_ k5.out)|exact HB.out)⟩⟩
          ·rw [if_neg c26] at H
           exact absurd H (by simp)
         ·rw [if_neg c25] at H
          exact absurd H (by simp)
        ·rw [if_neg c24] at H
         exact absurd H (by simp)
       ·rw [if_neg c22] at H
        have c22b0:decide (x10_1<(l1.length:Int))=false:=decide_eq_false c22
        clear c22
        simp only [Option.some.injEq,Prod.mk.injEq] at H
        obtain ⟨rfl,rfl⟩:=H
        go_wp2
        go_ret2
        exact ⟨_,by first|rfl|(simp [zaK,zaL] <;> rfl)|(simp [*,zaK,zaL] <;> rfl),by (with_reducible repeat (first|apply Kd.R_alloc|apply Kd.R_drewN|apply Kd.R_drew));exact HO_8.out,by repeat (first|(with_reducible first|exact HB.out|apply zan|apply zaj|apply zai|refine zao ?_ i8.out)|exact HB.out)⟩
    ·rw [if_neg c9] at H
     exact absurd H (by simp)
   ·rw [if_neg c7] at H
    exact absurd H (by simp)
  ·rw [if_neg c6] at H
   have c6b0:(l3==0)=false:=beq_eq_false_iff_ne.mpr c6
   have c6b1:(l3 != 0)=true:=bne_iff_ne.mpr c6
   simp only [Option.some.injEq,Prod.mk.injEq] at H
   obtain ⟨rfl,rfl⟩:=H
   go_enter Try.func29,Try.ntmps29
   go_wp2_with (first|((with_reducible refine zbK rfl ?_);refine zle26 ?_)|((with_reducible refine zbL rfl ?_);refine zle28 ?_)|((with_reducible refine zbM rfl ?_);refine zle57 ?_)|((with_reducible refine zaC (N:=2) rfl ?_);refine zbx (N:=2) #[.int .i64 e9,.int .i64 f5,.int .i64 f6,.int .i64 f7,.int .i64 g9,.int .i64 i3,.int .i64 i4,.int .i64 i5,.int .i64 i6,.int .i64 i7,.int .i64 d9,.int .i64 e0,.int .i64 e5,.int .i64 e6,.slice j9 d8.length k3,.bool e7] 26 ?_;intro d5 hg w67 hbox hb;have n0_:=zaa.mk (zae (zL HB.out) hb);have n1_:=zaa.mk (hbox);have n2_:=zaa.mk ((zS hg (zL HB.out):w.heap.size≤d5));have n3_:=n2_;clear HB;have HB:=n0_;have b8:=n1_;have G4:=n2_;have i8:=n3_;clear n0_ n1_ n2_ n3_;clear hb hbox hg;obtain ⟨L4,L5,L6,L7,L8,L9,M0,M1,M2,M3,J0,J1,J2,J3,J4,J5⟩:=zD16 b8.out;obtain ⟨M4,M5,M6,M7,M8,M9,N0,N1,N2,N3,J6,J7,J8,J9,K0,K1⟩:=zE16 b8.out)|((with_reducible refine zah (f:=15) rfl ?_);refine zgl 16 Try.func15 #[.agg #[.int .i64 e9,.int .i64 f5,.int .i64 f6,.int .i64 f7,.int .i64 g9,.int .i64 i3,.int .i64 i4,.int .i64 i5,.int .i64 i6,.int .i64 i7,.int .i64 d9,.int .i64 e0,.int .i64 e5,.int .i64 e6,.slice j9 d8.length k3,.bool e7]] ?_;(with_reducible refine (zal.calls k e9 f5 f6 f7 g9 i3 i4 i5 i6 i7 d9 e0 e5 e6 _ _ d8 e7 m6 _ ?side1 ?side2 A3.out).mono ?_);(case side1=>repeat (first|exact (Kd.C_below s9.out HB.out)|(with_reducible refine Kd.C_alloc ?_ _)|(with_reducible refine Kd.C_drewN ?_ _)|(with_reducible refine Kd.C_drew ?_)));(case side2=>exact t6.out);rintro e w69 ⟨rfl,hb⟩;refine ⟨_,rfl,?_⟩;replace b8:=zaa.mk (zac (zB b8.out) hb);replace HB:=zaa.mk (zae (zL1 HB.out i8.out) hb);(try clear hb))|((with_reducible refine zah (f:=31) rfl ?_);refine zgl 21 Try.func31 #[.slice A1 l1.length c1] ?_;(with_reducible refine (zau.calls k _ _ l1 l3 _ ?side1 ?side2 A5.out).mono ?_);(case side1=>repeat (first|exact (Kd.C_below HR1.out HB.out)|(with_reducible refine Kd.C_alloc ?_ _)|(with_reducible refine Kd.C_drewN ?_ _)|(with_reducible refine Kd.C_drew ?_)));(case side2=>exact HC1.out);rintro e w70 ⟨rfl,hb⟩;refine ⟨_,rfl,?_⟩;replace b8:=zaa.mk (zac (zB b8.out) hb);replace HB:=zaa.mk (zae (zL1 HB.out i8.out) hb);(try clear hb)))
   go_ret2
   exact ⟨_,by first|rfl|(simp [zaK,zaL] <;> rfl)|(simp [*,zaK,zaL] <;> rfl),by first|exact Kd.R_nil _ _ _ _ _|exact Kd.N_nil _ _ _ _ _|exact Kd.V_nil _ _ _ _ _|exact Kd.Q_nil _ _ _ _ _|exact Kd.S_nil _ _ _ _ _,by repeat (first|(with_reducible first|exact HB.out|apply zan|apply zaj|apply zai|refine zao ?_ i8.out)|exact HB.out)⟩
 ·rw [if_neg c4] at H
  have c4b0:(m6==0)=false:=beq_eq_false_iff_ne.mpr c4
  have c4b1:(m6 != 0)=true:=bne_iff_ne.mpr c4
  simp only [Option.some.injEq,Prod.mk.injEq] at H
  obtain ⟨rfl,rfl⟩:=H
  go_enter Try.func29,Try.ntmps29
  go_wp2_with (first|((with_reducible refine zbK rfl ?_);refine zle26 ?_)|((with_reducible refine zbL rfl ?_);refine zle28 ?_)|((with_reducible refine zbM rfl ?_);refine zle57 ?_)|((with_reducible refine zaC (N:=2) rfl ?_);refine zbx (N:=2) #[.int .i64 e9,.int .i64 f5,.int .i64 f6,.int .i64 f7,.int .i64 g9,.int .i64 i3,.int .i64 i4,.int .i64 i5,.int .i64 i6,.int .i64 i7,.int .i64 d9,.int .i64 e0,.int .i64 e5,.int .i64 e6,.slice j9 d8.length k3,.bool e7] 26 ?_;intro d5 hg w71 hbox hb;have n0_:=zaa.mk (zae (zL HB.out) hb);have n1_:=zaa.mk (hbox);have n2_:=zaa.mk ((zS hg (zL HB.out):w.heap.size≤d5));have n3_:=n2_;clear HB;have HB:=n0_;have b8:=n1_;have G4:=n2_;have i8:=n3_;clear n0_ n1_ n2_ n3_;clear hb hbox hg;obtain ⟨N4,N5,N6,N7,N8,N9,O0,O1,O2,O3,K2,K3,K4,K5,K6,K7⟩:=zD16 b8.out;obtain ⟨O4,O5,O6,O7,O8,O9,P0,P1,P2,P3,K8,K9,L0,L1,L2,L3⟩:=zE16 b8.out)|((with_reducible refine zah (f:=15) rfl ?_);refine zgl 16 Try.func15 #[.agg #[.int .i64 e9,.int .i64 f5,.int .i64 f6,.int .i64 f7,.int .i64 g9,.int .i64 i3,.int .i64 i4,.int .i64 i5,.int .i64 i6,.int .i64 i7,.int .i64 d9,.int .i64 e0,.int .i64 e5,.int .i64 e6,.slice j9 d8.length k3,.bool e7]] ?_;(with_reducible refine (zal.calls k e9 f5 f6 f7 g9 i3 i4 i5 i6 i7 d9 e0 e5 e6 _ _ d8 e7 m6 _ ?side1 ?side2 A3.out).mono ?_);(case side1=>repeat (first|exact (Kd.C_below s9.out HB.out)|(with_reducible refine Kd.C_alloc ?_ _)|(with_reducible refine Kd.C_drewN ?_ _)|(with_reducible refine Kd.C_drew ?_)));(case side2=>exact t6.out);rintro e w73 ⟨rfl,hb⟩;refine ⟨_,rfl,?_⟩;replace b8:=zaa.mk (zac (zB b8.out) hb);replace HB:=zaa.mk (zae (zL1 HB.out i8.out) hb);(try clear hb)))
  go_ret2
  exact ⟨_,by first|rfl|(simp [zaK,zaL] <;> rfl)|(simp [*,zaK,zaL] <;> rfl),by first|exact Kd.R_nil _ _ _ _ _|exact Kd.N_nil _ _ _ _ _|exact Kd.V_nil _ _ _ _ _|exact Kd.Q_nil _ _ _ _ _|exact Kd.S_nil _ _ _ _ _,by repeat (first|(with_reducible first|exact HB.out|apply zan|apply zaj|apply zai|refine zao ?_ i8.out)|exact HB.out)⟩
end Go.Proofs.Ytlilncnoohfcdaa.Br
