
import Derived.Test.YtlilncnoohfcdaaDax0
import Derived.Test.YtlilncnoohfcdaaBrx0
import Derived.Test.YtlilncnoohfcdaaBrx1
import Derived.Test.YtlilncnoohfcdaaBrx4
import Derived.Test.YtlilncnoohfcdaaBrx8
import Derived.Test.YtlilncnoohfcdaaBrx9
import Derived.Test.YtlilncnoohfcdaaBrx10
import Derived.Test.YtlilncnoohfcdaaBrx12
import Derived.Test.YtlilncnoohfcdaaBrx17
import Derived.Test.YtlilncnoohfcdaaBrx18
namespace Go.Proofs.Ytlilncnoohfcdaa.Br
open Go.RowKit Go.Proofs.YtlilncnoohfcdaaW.PrintWords Go.Proofs.YtlilncnoohfcdaaW.PrintLast Go.Proofs.YtlilncnoohfcdaaW.PrintMore Go.Proofs.Ytlilncnoohfcdaa.Da
attribute [local go_sem] zbr zbu zbD zbH zbq zbp zbv zbt   
set_option linter.unusedVariables false
set_option linter.unusedSimpArgs false
attribute [local go_sem high] eqA32
/-! ### imageeditorlaw28_BrushDabs: function 9 -/
def imageeditorlaw28_BrushDabs.f (k:Nat) (i4:Int) (i5:Int) (i6:Int) (i7:Int) (i8:Int) (i9:Int) (j2:Int) (j3:Int) (j4:Int) (j5:Int) (e7:Int) (e8:Int) (e9:Int) (f5:Int) (d9:List (S120)) (f6:Bool) (l1:List (S57)):Option (Bool):=(zaz.f k i4 i5 i6 i7 i8 i9 j2 j3 j4 j5 e7 e8 e9 f5 d9 f6 l1).bind fun l5=>((zap.f k i4 i5 i6 i7 i8 i9 j2 j3 j4 j5 e7 e8 e9 f5 d9 f6 l1).bind fun e5=>((zaP.f k l1).bind fun g9=>((zau.f k l1).bind fun f7=>(if g9=f7 then (if l5.2=e5.2 then ((zaO.f k l5.1 e5.1).bind fun i3=>(if i3=true then ((zbF.f k e5.1).bind fun b9=>((zaN.f k e5.1).bind fun b8=>(if (b9.1==b8.1&&(b9.2.1==b8.2.1&&(b9.2.2.1==b8.2.2.1&&(b9.2.2.2==b8.2.2.2))))=true then ((zaw.f k).bind fun d8=>(some d8)) else (none)))) else (none))) else (none)) else (none)))))
set_option maxHeartbeats 8000000 in
set_option maxRecDepth 100000 in
theorem imageeditorlaw28_BrushDabs.calls (k:Nat) (i4:Int) (i5:Int) (i6:Int) (i7:Int) (i8:Int) (i9:Int) (j2:Int) (j3:Int) (j4:Int) (j5:Int) (e7:Int) (e8:Int) (e9:Int) (f5:Int) (l6:Option Addr) (l7:Nat) (d9:List (S120)) (f6:Bool) (A1:Option Addr) (c1:Nat) (l1:List (S57)) (r:Bool) (w:World) (n4:Kd.C k120 w l6 d9.length d9) (n5:d9.length≤l7) (hr1:Kd.C k57 w A1 l1.length l1) (hc1:l1.length≤c1) (h:imageeditorlaw28_BrushDabs.f k i4 i5 i6 i7 i8 i9 j2 j3 j4 j5 e7 e8 e9 f5 d9 f6 l1=some r) :
 Calls Try.prog 9 #[.agg #[.int .i64 i4,.int .i64 i5,.int .i64 i6,.int .i64 i7,.int .i64 i8,.int .i64 i9,.int .i64 j2,.int .i64 j3,.int .i64 j4,.int .i64 j5,.int .i64 e7,.int .i64 e8,.int .i64 e9,.int .i64 f5,.slice l6 d9.length l7,.bool f6],.slice A1 l1.length c1] w fun e w'=>e = .returned (.bool r)∧Below w.heap.size w w':=by
 have hu26:=Try.underlying26
 have n6:=zaa.mk n4
 have n7:=zaa.mk n5
 clear n4 n5
 have HR1:=zaa.mk hr1
 have HC1:=zaa.mk hc1
 clear hr1 hc1
 have HB:=zaa.mk (Below.refl w.heap.size w)
 have H:((zaz.f k i4 i5 i6 i7 i8 i9 j2 j3 j4 j5 e7 e8 e9 f5 d9 f6 l1).bind fun l5=>((zap.f k i4 i5 i6 i7 i8 i9 j2 j3 j4 j5 e7 e8 e9 f5 d9 f6 l1).bind fun e5=>((zaP.f k l1).bind fun g9=>((zau.f k l1).bind fun f7=>(if g9=f7 then (if l5.2=e5.2 then ((zaO.f k l5.1 e5.1).bind fun i3=>(if i3=true then ((zbF.f k e5.1).bind fun b9=>((zaN.f k e5.1).bind fun b8=>(if (b9.1==b8.1&&(b9.2.1==b8.2.1&&(b9.2.2.1==b8.2.2.1&&(b9.2.2.2==b8.2.2.2))))=true then ((zaw.f k).bind fun d8=>(some d8)) else (none)))) else (none))) else (none)) else (none))))))=some r:=h
 clear h
 obtain ⟨⟨l8,j9⟩,A3,H⟩:=zob H
 replace H:((zap.f k i4 i5 i6 i7 i8 i9 j2 j3 j4 j5 e7 e8 e9 f5 d9 f6 l1).bind fun e5=>((zaP.f k l1).bind fun g9=>((zau.f k l1).bind fun f7=>(if g9=f7 then (if j9=e5.2 then ((zaO.f k l8 e5.1).bind fun i3=>(if i3=true then ((zbF.f k e5.1).bind fun b9=>((zaN.f k e5.1).bind fun b8=>(if (b9.1==b8.1&&(b9.2.1==b8.2.1&&(b9.2.2.1==b8.2.2.1&&(b9.2.2.2==b8.2.2.2))))=true then ((zaw.f k).bind fun d8=>(some d8)) else (none)))) else (none))) else (none)) else (none)))))=some r:=H
 obtain ⟨⟨e0,k3⟩,A4,H⟩:=zob H
 replace H:((zaP.f k l1).bind fun g9=>((zau.f k l1).bind fun f7=>(if g9=f7 then (if j9=k3 then ((zaO.f k l8 e0).bind fun i3=>(if i3=true then ((zbF.f k e0).bind fun b9=>((zaN.f k e0).bind fun b8=>(if (b9.1==b8.1&&(b9.2.1==b8.2.1&&(b9.2.2.1==b8.2.2.1&&(b9.2.2.2==b8.2.2.2))))=true then ((zaw.f k).bind fun d8=>(some d8)) else (none)))) else (none))) else (none)) else (none))))=some r:=H
 obtain ⟨g9,A5,H⟩:=zob H
 replace H:((zau.f k l1).bind fun f7=>(if g9=f7 then (if j9=k3 then ((zaO.f k l8 e0).bind fun i3=>(if i3=true then ((zbF.f k e0).bind fun b9=>((zaN.f k e0).bind fun b8=>(if (b9.1==b8.1&&(b9.2.1==b8.2.1&&(b9.2.2.1==b8.2.2.1&&(b9.2.2.2==b8.2.2.2))))=true then ((zaw.f k).bind fun d8=>(some d8)) else (none)))) else (none))) else (none)) else (none)))=some r:=H
 obtain ⟨f7,A6,H⟩:=zob H
 replace H:(if g9=f7 then (if j9=k3 then ((zaO.f k l8 e0).bind fun i3=>(if i3=true then ((zbF.f k e0).bind fun b9=>((zaN.f k e0).bind fun b8=>(if (b9.1==b8.1&&(b9.2.1==b8.2.1&&(b9.2.2.1==b8.2.2.1&&(b9.2.2.2==b8.2.2.2))))=true then ((zaw.f k).bind fun d8=>(some d8)) else (none)))) else (none))) else (none)) else (none))=some r:=H
 by_cases c7:g9=f7
 ·rw [if_pos c7] at H
  have c7b0:(g9==f7)=true:=beq_iff_eq.mpr c7
  have c7b1:(g9 != f7)=false:=bne_eq_false_iff_eq.mpr c7
  clear c7
  by_cases c8:j9=k3
  ·rw [if_pos c8] at H
   have c8b0:(j9==k3)=true:=beq_iff_eq.mpr c8
   have c8b1:(j9 != k3)=false:=bne_eq_false_iff_eq.mpr c8
   clear c8
   obtain ⟨i3,A9,H⟩:=zob H
   replace H:(if i3=true then ((zbF.f k e0).bind fun b9=>((zaN.f k e0).bind fun b8=>(if (b9.1==b8.1&&(b9.2.1==b8.2.1&&(b9.2.2.1==b8.2.2.1&&(b9.2.2.2==b8.2.2.2))))=true then ((zaw.f k).bind fun d8=>(some d8)) else (none)))) else (none))=some r:=H
   by_cases c10:i3=true
   ·subst c10
    have H1:((zbF.f k e0).bind fun b9=>((zaN.f k e0).bind fun b8=>(if (b9.1==b8.1&&(b9.2.1==b8.2.1&&(b9.2.2.1==b8.2.2.1&&(b9.2.2.2==b8.2.2.2))))=true then ((zaw.f k).bind fun d8=>(some d8)) else (none))))=some r:=by rw [if_pos rfl] at H;exact H
    clear H
    have H:=H1
    clear H1
    obtain ⟨⟨k4,k5,k6,k7⟩,A11,H⟩:=zob H
    replace H:((zaN.f k e0).bind fun b8=>(if (k4==b8.1&&(k5==b8.2.1&&(k6==b8.2.2.1&&(k7==b8.2.2.2))))=true then ((zaw.f k).bind fun d8=>(some d8)) else (none)))=some r:=H
    obtain ⟨⟨l9,m5,m6,m7⟩,A12,H⟩:=zob H
    replace H:(if (k4==l9&&(k5==m5&&(k6==m6&&(k7==m7))))=true then ((zaw.f k).bind fun d8=>(some d8)) else (none))=some r:=H
    by_cases c13:(k4==l9&&(k5==m5&&(k6==m6&&(k7==m7))))=true
    ·rw [if_pos c13] at H
     have c13b0:(k4==l9&&(k5==m5&&(k6==m6&&(k7==m7))))=true:=c13
     (try (have c13b1:decide (k4=l9&&(k5==m5&&(k6==m6&&(k7==m7))))=true:=by simpa using c13))
     (try (have c13b2:(k4==l9&&(k5==m5&&(k6==m6&&(k7==m7))))=true:=by simpa using c13))
     clear c13
     obtain ⟨d8,A14,H⟩:=zob H
     replace H:(some d8)=some r:=H
     obtain rfl:=Option.some.inj H
     go_enter Try.func9,Try.ntmps9
     go_wp2_with (first|((with_reducible refine zaC (N:=2) rfl ?_);refine zbx (N:=2) #[.int .i64 i4,.int .i64 i5,.int .i64 i6,.int .i64 i7,.int .i64 i8,.int .i64 i9,.int .i64 j2,.int .i64 j3,.int .i64 j4,.int .i64 j5,.int .i64 e7,.int .i64 e8,.int .i64 e9,.int .i64 f5,.slice l6 d9.length l7,.bool f6] 26 ?_;intro n8 hg w15 hbox hb;have n0_:=zaa.mk (zae (zL HB.out) hb);have n1_:=zaa.mk (hbox);have n2_:=zaa.mk ((zS hg (zL HB.out):w.heap.size≤n8));have n3_:=n2_;clear HB;have HB:=n0_;have d5:=n1_;have E0:=n2_;have j6:=n3_;clear n0_ n1_ n2_ n3_;clear hb hbox hg;obtain ⟨u6,u7,u9,y5,y6,y7,y8,y9,z1,z2,n9,o2,o3,o4,o5,o6⟩:=zD16 d5.out;obtain ⟨z3,z4,z5,z6,z7,z8,z9,B0,B3,B7,o7,o8,o9,p7,p8,p9⟩:=zE16 d5.out)|((with_reducible refine zah (f:=25) rfl ?_);refine zgl 12 Try.func25 #[.agg #[.int .i64 i4,.int .i64 i5,.int .i64 i6,.int .i64 i7,.int .i64 i8,.int .i64 i9,.int .i64 j2,.int .i64 j3,.int .i64 j4,.int .i64 j5,.int .i64 e7,.int .i64 e8,.int .i64 e9,.int .i64 f5,.slice l6 d9.length l7,.bool f6],.slice A1 l1.length c1] ?_;(with_reducible refine (zaz.calls k i4 i5 i6 i7 i8 i9 j2 j3 j4 j5 e7 e8 e9 f5 _ _ d9 f6 _ _ l1 l8 j9 _ ?side1 ?side2 ?side3 ?side4 A3.out).mono ?_);(case side1=>repeat (first|exact (Kd.C_below n6.out HB.out)|(with_reducible refine Kd.C_alloc ?_ _)|(with_reducible refine Kd.C_drewN ?_ _)|(with_reducible refine Kd.C_drew ?_)));(case side2=>exact n7.out);(case side3=>repeat (first|exact (Kd.C_below HR1.out HB.out)|(with_reducible refine Kd.C_alloc ?_ _)|(with_reducible refine Kd.C_drewN ?_ _)|(with_reducible refine Kd.C_drew ?_)));(case side4=>exact HC1.out);rintro e w17 ⟨v470,rfl,ho0,hb⟩;refine ⟨_,rfl,?_⟩;have d6:=zaa.mk (Kd.R_lower ho0 (zbJ (zL1 HB.out j6.out)));replace d5:=zaa.mk (zac (zB d5.out) hb);replace HB:=zaa.mk (zae (zL1 HB.out j6.out) hb);(try clear hb);(try clear hb2);(try clear hk);(try clear hi);(try clear ho0);obtain ⟨C0,C1,C2,C3,C4,C5,C6,C7,C8,C9,s5,s6,s7,s8,s9,t6⟩:=zD16 d5.out;obtain ⟨D0,D1,D2,D3,D4,D5,D6,D7,D8,D9,t7,t8,t9,u3,u4,u5⟩:=zE16 d5.out)|((with_reducible refine zah (f:=29) rfl ?_);refine zgl 18 Try.func29 #[.agg #[.int .i64 i4,.int .i64 i5,.int .i64 i6,.int .i64 i7,.int .i64 i8,.int .i64 i9,.int .i64 j2,.int .i64 j3,.int .i64 j4,.int .i64 j5,.int .i64 e7,.int .i64 e8,.int .i64 e9,.int .i64 f5,.slice l6 d9.length l7,.bool f6],.slice A1 l1.length c1] ?_;(with_reducible refine (zap.calls k i4 i5 i6 i7 i8 i9 j2 j3 j4 j5 e7 e8 e9 f5 _ _ d9 f6 _ _ l1 e0 k3 _ ?side1 ?side2 ?side3 ?side4 A4.out).mono ?_);(case side1=>repeat (first|exact (Kd.C_below n6.out HB.out)|(with_reducible refine Kd.C_alloc ?_ _)|(with_reducible refine Kd.C_drewN ?_ _)|(with_reducible refine Kd.C_drew ?_)));(case side2=>exact n7.out);(case side3=>repeat (first|exact (Kd.C_below HR1.out HB.out)|(with_reducible refine Kd.C_alloc ?_ _)|(with_reducible refine Kd.C_drewN ?_ _)|(with_reducible refine Kd.C_drew ?_)));(case side4=>exact HC1.out);rintro e w19 ⟨v474,rfl,ho0,hb⟩;refine ⟨_,rfl,?_⟩;have n0_:=zaa.mk (Kd.R_elder' (by (with_reducible repeat (first|apply Kd.R_alloc|apply Kd.R_drewN|apply Kd.R_drew));exact d6.out) (Kd.R_base ho0) hb);have n1_:=zaa.mk (Kd.R_lower (Kd.R_new' ho0 (Kd.R_lt (by (with_reducible repeat (first|apply Kd.R_alloc|apply Kd.R_drewN|apply Kd.R_drew));exact d6.out))) (zbJ (zL1 HB.out j6.out)));have n2_:=zaa.mk (zac (zB d5.out) hb);have n3_:=zaa.mk (zae (zL1 HB.out j6.out) hb);clear d6;clear d5;clear HB;have d6:=n0_;have d7:=n1_;have d5:=n2_;have HB:=n3_;clear n0_ n1_ n2_ n3_;(try clear hb);(try clear hb2);(try clear hk);(try clear hi);(try clear ho0))|((with_reducible refine zah (f:=30) rfl ?_);refine zgl 22 Try.func30 #[.slice A1 l1.length c1] ?_;(with_reducible refine (zaP.calls k _ _ l1 g9 _ ?side1 ?side2 A5.out).mono ?_);(case side1=>repeat (first|exact (Kd.C_below HR1.out HB.out)|(with_reducible refine Kd.C_alloc ?_ _)|(with_reducible refine Kd.C_drewN ?_ _)|(with_reducible refine Kd.C_drew ?_)));(case side2=>exact HC1.out);rintro e w20 ⟨rfl,hb⟩;refine ⟨_,rfl,?_⟩;have n0_:=zaa.mk (Kd.R_below (by (with_reducible repeat (first|apply Kd.R_alloc|apply Kd.R_drewN|apply Kd.R_drew));exact d6.out) hb);have n1_:=zaa.mk (Kd.R_below (by (with_reducible repeat (first|apply Kd.R_alloc|apply Kd.R_drewN|apply Kd.R_drew));exact d7.out) hb);have n2_:=zaa.mk (zac (zB d5.out) hb);have n3_:=zaa.mk (zae (zL1 HB.out j6.out) hb);clear d6;clear d7;clear d5;clear HB;have d6:=n0_;have d7:=n1_;have d5:=n2_;have HB:=n3_;clear n0_ n1_ n2_ n3_;(try clear hb))|((with_reducible refine zah (f:=31) rfl ?_);refine zgl 24 Try.func31 #[.slice A1 l1.length c1] ?_;(with_reducible refine (zau.calls k _ _ l1 f7 _ ?side1 ?side2 A6.out).mono ?_);(case side1=>repeat (first|exact (Kd.C_below HR1.out HB.out)|(with_reducible refine Kd.C_alloc ?_ _)|(with_reducible refine Kd.C_drewN ?_ _)|(with_reducible refine Kd.C_drew ?_)));(case side2=>exact HC1.out);rintro e w21 ⟨rfl,hb⟩;refine ⟨_,rfl,?_⟩;have n0_:=zaa.mk (Kd.R_below (by (with_reducible repeat (first|apply Kd.R_alloc|apply Kd.R_drewN|apply Kd.R_drew));exact d6.out) hb);have n1_:=zaa.mk (Kd.R_below (by (with_reducible repeat (first|apply Kd.R_alloc|apply Kd.R_drewN|apply Kd.R_drew));exact d7.out) hb);have n2_:=zaa.mk (zac (zB d5.out) hb);have n3_:=zaa.mk (zae (zL1 HB.out j6.out) hb);clear d6;clear d7;clear d5;clear HB;have d6:=n0_;have d7:=n1_;have d5:=n2_;have HB:=n3_;clear n0_ n1_ n2_ n3_;(try clear hb);obtain ⟨Ao22,co22,eo22⟩:=Kd.R_slice d6.out;subst eo22;obtain ⟨Ao23,co23,eo23⟩:=Kd.R_slice d7.out;subst eo23)|(go_at_call 28;(with_reducible refine (zaO.calls k _ _ l8 _ _ e0 true _ ?side1 ?side2 ?side3 ?side4 A9.out).mono ?_);(case side1=>repeat (first|exact (Kd.R_reads' d6.out).2.2|(with_reducible refine Kd.C_alloc ?_ _)|(with_reducible refine Kd.C_drewN ?_ _)|(with_reducible refine Kd.C_drew ?_)));(case side2=>exact (Kd.R_reads' d6.out).2.1);(case side3=>repeat (first|exact (Kd.R_reads' d7.out).2.2|(with_reducible refine Kd.C_alloc ?_ _)|(with_reducible refine Kd.C_drewN ?_ _)|(with_reducible refine Kd.C_drew ?_)));(case side4=>exact (Kd.R_reads' d7.out).2.1);rintro e w' ⟨rfl,⟨nd,rfl⟩⟩)|(go_at_call 32;(with_reducible refine (zbF.calls k _ _ e0 k4 k5 k6 k7 _ ?side1 ?side2 A11.out).mono ?_);(case side1=>repeat (first|exact (Kd.R_reads' d7.out).2.2|(with_reducible refine Kd.C_alloc ?_ _)|(with_reducible refine Kd.C_drewN ?_ _)|(with_reducible refine Kd.C_drew ?_)));(case side2=>exact (Kd.R_reads' d7.out).2.1);rintro e w24 ⟨rfl,hb⟩;have n0_:=zaa.mk (Kd.R_below (by (with_reducible repeat (first|apply Kd.R_alloc|apply Kd.R_drewN|apply Kd.R_drew));exact d6.out) hb);have n1_:=zaa.mk (Kd.R_below (by (with_reducible repeat (first|apply Kd.R_alloc|apply Kd.R_drewN|apply Kd.R_drew));exact d7.out) hb);have n2_:=zaa.mk (zac (zB d5.out) hb);have n3_:=zaa.mk (zae (zL1 HB.out j6.out) hb);clear d6;clear d7;clear d5;clear HB;have d6:=n0_;have d7:=n1_;have d5:=n2_;have HB:=n3_;clear n0_ n1_ n2_ n3_;(try clear hb))|(go_at_call 33;(with_reducible refine (zaN.calls k _ _ e0 l9 m5 m6 m7 _ ?side1 ?side2 A12.out).mono ?_);(case side1=>repeat (first|exact (Kd.R_reads' d7.out).2.2|(with_reducible refine Kd.C_alloc ?_ _)|(with_reducible refine Kd.C_drewN ?_ _)|(with_reducible refine Kd.C_drew ?_)));(case side2=>exact (Kd.R_reads' d7.out).2.1);rintro e w25 ⟨rfl,hb⟩;have n0_:=zaa.mk (Kd.R_below (by (with_reducible repeat (first|apply Kd.R_alloc|apply Kd.R_drewN|apply Kd.R_drew));exact d6.out) hb);have n1_:=zaa.mk (Kd.R_below (by (with_reducible repeat (first|apply Kd.R_alloc|apply Kd.R_drewN|apply Kd.R_drew));exact d7.out) hb);have n2_:=zaa.mk (zac (zB d5.out) hb);have n3_:=zaa.mk (zae (zL1 HB.out j6.out) hb);clear d6;clear d7;clear d5;clear HB;have d6:=n0_;have d7:=n1_;have d5:=n2_;have HB:=n3_;clear n0_ n1_ n2_ n3_;(try clear hb))|(go_at_call 26;(with_reducible refine (zaw.calls k  d8 _ A14.out).mono ?_);rintro e w26 ⟨rfl,hb⟩;have n0_:=zaa.mk (Kd.R_below (by (with_reducible repeat (first|apply Kd.R_alloc|apply Kd.R_drewN|apply Kd.R_drew));exact d6.out) hb);have n1_:=zaa.mk (Kd.R_below (by (with_reducible repeat (first|apply Kd.R_alloc|apply Kd.R_drewN|apply Kd.R_drew));exact d7.out) hb);have n2_:=zaa.mk (zac (zB d5.out) hb);have n3_:=zaa.mk (zae (zL1 HB.out j6.out) hb);clear d6;clear d7;clear d5;clear HB;have d6:=n0_;have d7:=n1_;have d5:=n2_;have HB:=n3_;clear n0_ n1_ n2_ n3_;(try clear hb)))
     go_ret
     exact zG
    ·rw [if_neg c13] at H
     exact absurd H (by simp)
   ·replace c10:=Bool.eq_false_iff.mpr c10
    subst c10
    have H1:(none)=some r:=by rw [if_neg (show ¬ (false=true) by decide)] at H;exact H
    clear H
    have H:=H1
    clear H1
    exact absurd H (by simp)
  ·rw [if_neg c8] at H
   exact absurd H (by simp)
 ·rw [if_neg c7] at H
  exact absurd H (by simp)
def imageeditorlaw28_BrushBoxes.f (k:Nat) (l0:List (S28)):Option (Bool):=(zbF.f k l0).bind fun j7=>((zaN.f k l0).bind fun e6=>(if (j7.1==e6.1&&(j7.2.1==e6.2.1&&(j7.2.2.1==e6.2.2.1&&(j7.2.2.2==e6.2.2.2))))=true then ((zaw.f k).bind fun j8=>(some j8)) else (none)))
set_option maxHeartbeats 8000000 in
set_option maxRecDepth 100000 in
theorem imageeditorlaw28_BrushBoxes.calls (k:Nat) (A0:Option Addr) (c0:Nat) (l0:List (S28)) (r:Bool) (w:World) (hr0:Kd.C k28 w A0 l0.length l0) (hc0:l0.length≤c0) (h:imageeditorlaw28_BrushBoxes.f k l0=some r) :
 Calls Try.prog 10 #[.slice A0 l0.length c0] w fun e w'=>e = .returned (.bool r)∧Below w.heap.size w w':=by
 have HR0:=zaa.mk hr0
 have HC0:=zaa.mk hc0
 clear hr0 hc0
 have HB:=zaa.mk (Below.refl w.heap.size w)
 have H:((zbF.f k l0).bind fun j7=>((zaN.f k l0).bind fun e6=>(if (j7.1==e6.1&&(j7.2.1==e6.2.1&&(j7.2.2.1==e6.2.2.1&&(j7.2.2.2==e6.2.2.2))))=true then ((zaw.f k).bind fun j8=>(some j8)) else (none))))=some r:=h
 clear h
 obtain ⟨⟨k8,k9,l3,l4⟩,A2,H⟩:=zob H
 replace H:((zaN.f k l0).bind fun e6=>(if (k8==e6.1&&(k9==e6.2.1&&(l3==e6.2.2.1&&(l4==e6.2.2.2))))=true then ((zaw.f k).bind fun j8=>(some j8)) else (none)))=some r:=H
 obtain ⟨⟨m8,m9,n0,n3⟩,A3,H⟩:=zob H
 replace H:(if (k8==m8&&(k9==m9&&(l3==n0&&(l4==n3))))=true then ((zaw.f k).bind fun j8=>(some j8)) else (none))=some r:=H
 by_cases c4:(k8==m8&&(k9==m9&&(l3==n0&&(l4==n3))))=true
 ·rw [if_pos c4] at H
  have c4b0:(k8==m8&&(k9==m9&&(l3==n0&&(l4==n3))))=true:=c4
  (try (have c4b1:decide (k8=m8&&(k9==m9&&(l3==n0&&(l4==n3))))=true:=by simpa using c4))
  (try (have c4b2:(k8==m8&&(k9==m9&&(l3==n0&&(l4==n3))))=true:=by simpa using c4))
  clear c4
  obtain ⟨j8,A5,H⟩:=zob H
  replace H:(some j8)=some r:=H
  obtain rfl:=Option.some.inj H
  go_enter Try.func10,Try.ntmps10
  go_wp2_with (first|((with_reducible refine zah (f:=32) rfl ?_);refine zgl 4 Try.func32 #[.slice A0 l0.length c0] ?_;(with_reducible refine (zbF.calls k _ _ l0 k8 k9 l3 l4 _ ?side1 ?side2 A2.out).mono ?_);(case side1=>repeat (first|exact HR0.out|(with_reducible refine Kd.C_alloc ?_ _)|(with_reducible refine Kd.C_drewN ?_ _)|(with_reducible refine Kd.C_drew ?_)));(case side2=>exact HC0.out);rintro e w6 ⟨rfl,hb⟩;refine ⟨_,rfl,?_⟩;replace HB:=zaa.mk (zae (zL HB.out) hb);(try clear hb))|((with_reducible refine zah (f:=33) rfl ?_);refine zgl 6 Try.func33 #[.slice A0 l0.length c0] ?_;(with_reducible refine (zaN.calls k _ _ l0 m8 m9 n0 n3 _ ?side1 ?side2 A3.out).mono ?_);(case side1=>repeat (first|exact (Kd.C_below HR0.out HB.out)|(with_reducible refine Kd.C_alloc ?_ _)|(with_reducible refine Kd.C_drewN ?_ _)|(with_reducible refine Kd.C_drew ?_)));(case side2=>exact HC0.out);rintro e w7 ⟨rfl,hb⟩;refine ⟨_,rfl,?_⟩;replace HB:=zaa.mk (zae (zL HB.out) hb);(try clear hb))|(go_at_call 26;(with_reducible refine (zaw.calls k  j8 _ A5.out).mono ?_);rintro e w8 ⟨rfl,hb⟩;replace HB:=zaa.mk (zae (zL HB.out) hb);(try clear hb)))
  go_ret
  exact zG
 ·rw [if_neg c4] at H
  exact absurd H (by simp)
end Go.Proofs.Ytlilncnoohfcdaa.Br
