
import Derived.Test.YtlilncnoohfcdaaDax0
import Derived.Test.YtlilncnoohfcdaaDax11
import Derived.Test.YtlilncnoohfcdaaBrx0
import Derived.Test.YtlilncnoohfcdaaBrx8
import Derived.Test.YtlilncnoohfcdaaBrx9
import Derived.Test.YtlilncnoohfcdaaBrx10
import Derived.Test.YtlilncnoohfcdaaBrSt
namespace Go.Proofs.Ytlilncnoohfcdaa.Br
open Go.RowKit Go.Proofs.YtlilncnoohfcdaaW.PrintWords Go.Proofs.YtlilncnoohfcdaaW.PrintLast Go.Proofs.YtlilncnoohfcdaaW.PrintMore Go.Proofs.Ytlilncnoohfcdaa.Da
attribute [local go_sem] zbr zbu zbD zbH zbq zbp zbv zbt   
set_option linter.unusedVariables false
set_option linter.unusedSimpArgs false
/-! ### imageeditorlaw28_BrushBegins: function 8 -/
def imageeditorlaw28_BrushBegins.f (k:Nat) (f5:Int) (f6:Int) (f7:Int) (g9:Int) (i3:Int) (i4:Int) (i5:Int) (d8:Int) (i6:Int) (i7:Int) (e0:Int) (e5:Int) (e6:Int) (e7:Int) (d9:List (S120)) (e8:Bool) (l1:List (S57)) (a2:Int):Option (Bool):=(zaz.f k f5 f6 f7 g9 i3 i4 i5 d8 i6 i7 e0 e5 e6 e7 d9 e8 l1).bind fun j9=>(if j9.2=0 then (if (l1.length:Int)=0 then ((zaw.f k).bind fun o9=>(some o9)) else ((zaf.f a2 1 (l1.length:Int)).bind fun i9=>(if 0≤i9 then (if i9≤(l1.length:Int) then ((zaz.f k f5 f6 f7 g9 i3 i4 i5 d8 i6 i7 e0 e5 e6 e7 d9 e8 (l1.take (i9:Int).toNat)).bind fun d7=>(if d7.2=0 then (if (d7.1.length:Int)=0 then (none) else (if (d7.1.length:Int) > (j9.1.length:Int) then (none) else (if 0≤(d7.1.length:Int) then (if (d7.1.length:Int)≤(j9.1.length:Int) then ((zaO.f k d7.1 (j9.1.take ((d7.1.length:Int):Int).toNat)).bind fun k3=>(if k3=true then (if d8=0 then (if 0<(j9.1.length:Int) then (if 0<(l1.length:Int) then (if ((zag j9.1 0).f0)=((zab l1 0).f0) then (if ((zag j9.1 0).f1)=((zab l1 0).f1) then ((zaw.f k).bind fun j7=>(some j7)) else (none)) else (none)) else (none)) else (none)) else ((zaw.f k).bind fun j8=>(some j8))) else (none))) else (none)) else (none)))) else (none))) else (none)) else (none)))) else ((zaw.f k).bind fun p7=>(some p7)))
def imageeditorlaw28_BrushBegins.T5:Bool×List (List Nat×List Nat):=(true,[([],[]),([],[]),([],[]),([1,2],[1,2]),([0,3],[0,3]),([4],[4]),([5],[5]),([5],[5]),([6,4,0,1,2,3,4,5,6],[6]),([7,8,0,1,2,3,4,5,6,7,8],[7])])
def imageeditorlaw28_BrushBegins.B5:List Nat:=[0,0,0,6,15,31,63,63,127,511]
theorem imageeditorlaw28_BrushBegins.tab5:rtab .any (opsOf Try.f8 5)=imageeditorlaw28_BrushBegins.T5:=by kernel_rfl
theorem imageeditorlaw28_BrushBegins.bits5:zbE imageeditorlaw28_BrushBegins.T5.2 imageeditorlaw28_BrushBegins.B5=true:=by kernel_rfl
def imageeditorlaw28_BrushBegins.T8:Bool×List (List Nat×List Nat):=(true,[([],[]),([0],[0]),([1],[1]),([2],[2]),([3],[3]),([4,3],[3,4]),([5,3],[3,5]),([6,3],[3,6]),([3],[3]),([8,3],[3,8]),([9,3],[3,9]),([10,3],[3,10]),([7,11,3],[3,7,11]),([12,3,3],[3,12]),([13],[13]),([14,13],[13,14]),([15,13],[13,15]),([16,13],[13,16]),([13],[13]),([18,13],[13,18]),([19,13],[13,19]),([20,13],[13,20]),([17,21,13],[13,17,21]),([13,22,3],[3,13,22]),([3,23],[3,23]),([24,13],[24]),([25,25],[25]),([25,26],[25,26]),([27,26,0,1,2,3,4,5,6,7,8,9,10,11,12,13,14,15,16,17,18,19,20,21,22,23,24,25,26,27],[27])])
def imageeditorlaw28_BrushBegins.B8:List Nat:=[0,1,3,7,15,31,63,127,15,271,783,1807,4095,8191,16383,32767,65535,131071,16383,278527,802815,1851391,4194303,8388607,16777215,33554431,67108863,134217727,268435455]
theorem imageeditorlaw28_BrushBegins.tab8:rtab .any (opsOf Try.f8 8)=imageeditorlaw28_BrushBegins.T8:=by kernel_rfl
theorem imageeditorlaw28_BrushBegins.bits8:zbE imageeditorlaw28_BrushBegins.T8.2 imageeditorlaw28_BrushBegins.B8=true:=by kernel_rfl
set_option maxHeartbeats 8000000 in
set_option maxRecDepth 100000 in
theorem imageeditorlaw28_BrushBegins.calls (k:Nat) (f5:Int) (f6:Int) (f7:Int) (g9:Int) (i3:Int) (i4:Int) (i5:Int) (d8:Int) (i6:Int) (i7:Int) (e0:Int) (e5:Int) (e6:Int) (e7:Int) (j5:Option Addr) (j6:Nat) (d9:List (S120)) (e8:Bool) (A1:Option Addr) (c1:Nat) (l1:List (S57)) (a2:Int) (r:Bool) (w:World) (s5:Kd.C k120 w j5 d9.length d9) (s6:d9.length≤j6) (hr1:Kd.C k57 w A1 l1.length l1) (hc1:l1.length≤c1) (h:imageeditorlaw28_BrushBegins.f k f5 f6 f7 g9 i3 i4 i5 d8 i6 i7 e0 e5 e6 e7 d9 e8 l1 a2=some r) :
 Calls Try.prog 8 #[.agg #[.int .i64 f5,.int .i64 f6,.int .i64 f7,.int .i64 g9,.int .i64 i3,.int .i64 i4,.int .i64 i5,.int .i64 d8,.int .i64 i6,.int .i64 i7,.int .i64 e0,.int .i64 e5,.int .i64 e6,.int .i64 e7,.slice j5 d9.length j6,.bool e8],.slice A1 l1.length c1,.int .i64 a2] w fun e w'=>e = .returned (.bool r)∧Below w.heap.size w w':=by
 have hu26:=Try.underlying26
 have l8:=zaa.mk s5
 have l9:=zaa.mk s6
 clear s5 s6
 have HR1:=zaa.mk hr1
 have HC1:=zaa.mk hc1
 clear hr1 hc1
 have HB:=zaa.mk (Below.refl w.heap.size w)
 have H:((zaz.f k f5 f6 f7 g9 i3 i4 i5 d8 i6 i7 e0 e5 e6 e7 d9 e8 l1).bind fun j9=>(if j9.2=0 then (if (l1.length:Int)=0 then ((zaw.f k).bind fun o9=>(some o9)) else ((zaf.f a2 1 (l1.length:Int)).bind fun i9=>(if 0≤i9 then (if i9≤(l1.length:Int) then ((zaz.f k f5 f6 f7 g9 i3 i4 i5 d8 i6 i7 e0 e5 e6 e7 d9 e8 (l1.take (i9:Int).toNat)).bind fun d7=>(if d7.2=0 then (if (d7.1.length:Int)=0 then (none) else (if (d7.1.length:Int) > (j9.1.length:Int) then (none) else (if 0≤(d7.1.length:Int) then (if (d7.1.length:Int)≤(j9.1.length:Int) then ((zaO.f k d7.1 (j9.1.take ((d7.1.length:Int):Int).toNat)).bind fun k3=>(if k3=true then (if d8=0 then (if 0<(j9.1.length:Int) then (if 0<(l1.length:Int) then (if ((zag j9.1 0).f0)=((zab l1 0).f0) then (if ((zag j9.1 0).f1)=((zab l1 0).f1) then ((zaw.f k).bind fun j7=>(some j7)) else (none)) else (none)) else (none)) else (none)) else ((zaw.f k).bind fun j8=>(some j8))) else (none))) else (none)) else (none)))) else (none))) else (none)) else (none)))) else ((zaw.f k).bind fun p7=>(some p7))))=some r:=h
 clear h
 obtain ⟨⟨d5,l7⟩,A4,H⟩:=zob H
 replace H:(if l7=0 then (if (l1.length:Int)=0 then ((zaw.f k).bind fun o9=>(some o9)) else ((zaf.f a2 1 (l1.length:Int)).bind fun i9=>(if 0≤i9 then (if i9≤(l1.length:Int) then ((zaz.f k f5 f6 f7 g9 i3 i4 i5 d8 i6 i7 e0 e5 e6 e7 d9 e8 (l1.take (i9:Int).toNat)).bind fun d7=>(if d7.2=0 then (if (d7.1.length:Int)=0 then (none) else (if (d7.1.length:Int) > (d5.length:Int) then (none) else (if 0≤(d7.1.length:Int) then (if (d7.1.length:Int)≤(d5.length:Int) then ((zaO.f k d7.1 (d5.take ((d7.1.length:Int):Int).toNat)).bind fun k3=>(if k3=true then (if d8=0 then (if 0<(d5.length:Int) then (if 0<(l1.length:Int) then (if ((zag d5 0).f0)=((zab l1 0).f0) then (if ((zag d5 0).f1)=((zab l1 0).f1) then ((zaw.f k).bind fun j7=>(some j7)) else (none)) else (none)) else (none)) else (none)) else ((zaw.f k).bind fun j8=>(some j8))) else (none))) else (none)) else (none)))) else (none))) else (none)) else (none)))) else ((zaw.f k).bind fun p7=>(some p7)))=some r:=H
 by_cases c5:l7=0
 ·rw [if_pos c5] at H
  have c5b0:(l7==0)=true:=beq_iff_eq.mpr c5
  have c5b1:(l7 != 0)=false:=bne_eq_false_iff_eq.mpr c5
  clear c5
  by_cases c6:(l1.length:Int)=0
  ·rw [if_pos c6] at H
   have c6b0:((l1.length:Int)==0)=true:=beq_iff_eq.mpr c6
   have c6b1:((l1.length:Int) != 0)=false:=bne_eq_false_iff_eq.mpr c6
   clear c6
   obtain ⟨o9,A7,H⟩:=zob H
   replace H:(some o9)=some r:=H
   obtain rfl:=Option.some.inj H
   go_enter Try.func8,Try.ntmps8
   go_wp2_with (first|((with_reducible refine zbK rfl ?_);refine zle26 ?_)|((with_reducible refine zbL rfl ?_);refine zle28 ?_)|((with_reducible refine zbM rfl ?_);refine zle57 ?_)|((with_reducible refine zaC (N:=3) rfl ?_);(try (refine zcq (by rfl) ?_;dsimp only));refine zbx (N:=3) #[.int .i64 f5,.int .i64 f6,.int .i64 f7,.int .i64 g9,.int .i64 i3,.int .i64 i4,.int .i64 i5,.int .i64 d8,.int .i64 i6,.int .i64 i7,.int .i64 e0,.int .i64 e5,.int .i64 e6,.int .i64 e7,.slice j5 d9.length j6,.bool e8] 26 ?_;intro b9 hg w8 hbox hb;have n0_:=zaa.mk (zae (zL HB.out) hb);have n1_:=zaa.mk (hbox);have n2_:=zaa.mk ((zS hg (zL HB.out):w.heap.size≤b9));have n3_:=n2_;clear HB;have HB:=n0_;have b8:=n1_;have p9:=n2_;have j2:=n3_;clear n0_ n1_ n2_ n3_;clear hb hbox hg;obtain ⟨K5,K6,K7,K8,K9,L0,L1,L2,L3,L4,C8,C9,D0,D1,D2,D3⟩:=zD16 b8.out;obtain ⟨L5,L6,L7,L8,L9,M0,M1,M2,M3,M4,D4,D5,D6,D7,D8,D9⟩:=zE16 b8.out)|((with_reducible refine zah (f:=25) rfl ?_);refine zgl 14 Try.func25 #[.agg #[.int .i64 f5,.int .i64 f6,.int .i64 f7,.int .i64 g9,.int .i64 i3,.int .i64 i4,.int .i64 i5,.int .i64 d8,.int .i64 i6,.int .i64 i7,.int .i64 e0,.int .i64 e5,.int .i64 e6,.int .i64 e7,.slice j5 d9.length j6,.bool e8],.slice A1 l1.length c1] ?_;(with_reducible refine (zaz.calls k f5 f6 f7 g9 i3 i4 i5 d8 i6 i7 e0 e5 e6 e7 _ _ d9 e8 _ _ l1 d5 l7 _ ?side1 ?side2 ?side3 ?side4 A4.out).mono ?_);(case side1=>repeat (first|exact (Kd.C_below l8.out HB.out)|(with_reducible refine Kd.C_alloc ?_ _)|(with_reducible refine Kd.C_drewN ?_ _)|(with_reducible refine Kd.C_drew ?_)));(case side2=>exact l9.out);(case side3=>repeat (first|exact (Kd.C_below HR1.out HB.out)|(with_reducible refine Kd.C_alloc ?_ _)|(with_reducible refine Kd.C_drewN ?_ _)|(with_reducible refine Kd.C_drew ?_)));(case side4=>exact HC1.out);rintro e w10 ⟨v301,rfl,ho0,hb⟩;refine ⟨_,rfl,?_⟩;have d6:=zaa.mk (Kd.R_lower ho0 (zbJ (zL1 HB.out j2.out)));replace b8:=zaa.mk (zac (zB b8.out) hb);replace HB:=zaa.mk (zae (zL1 HB.out j2.out) hb);(try clear hb);(try clear hb2);(try clear hk);(try clear hi);(try clear ho0))|((with_reducible refine zah (f:=26) rfl ?_);refine zgl 24 Try.func26 #[] ?_;(with_reducible refine (zaw.calls k  o9 _ A7.out).mono ?_);rintro e w11 ⟨rfl,hb⟩;refine ⟨_,rfl,?_⟩;have n0_:=zaa.mk (Kd.R_below (by (with_reducible repeat (first|apply Kd.R_alloc|apply Kd.R_drewN|apply Kd.R_drew));exact d6.out) hb);have n1_:=zaa.mk (zac (zB b8.out) hb);have n2_:=zaa.mk (zae (zL1 HB.out j2.out) hb);clear d6;clear b8;clear HB;have d6:=n0_;have b8:=n1_;have HB:=n2_;clear n0_ n1_ n2_;(try clear hb)))
   go_ret
   exact zG
  ·rw [if_neg c6] at H
   have c6b0:((l1.length:Int)==0)=false:=beq_eq_false_iff_ne.mpr c6
   have c6b1:((l1.length:Int) != 0)=true:=bne_iff_ne.mpr c6
   have c6b2 : ¬ (l1=[]):=fun h_=>c6 (by rw [h_];rfl)
   obtain ⟨i9,A12,H⟩:=zob H
   replace H:(if 0≤i9 then (if i9≤(l1.length:Int) then ((zaz.f k f5 f6 f7 g9 i3 i4 i5 d8 i6 i7 e0 e5 e6 e7 d9 e8 (l1.take (i9:Int).toNat)).bind fun d7=>(if d7.2=0 then (if (d7.1.length:Int)=0 then (none) else (if (d7.1.length:Int) > (d5.length:Int) then (none) else (if 0≤(d7.1.length:Int) then (if (d7.1.length:Int)≤(d5.length:Int) then ((zaO.f k d7.1 (d5.take ((d7.1.length:Int):Int).toNat)).bind fun k3=>(if k3=true then (if d8=0 then (if 0<(d5.length:Int) then (if 0<(l1.length:Int) then (if ((zag d5 0).f0)=((zab l1 0).f0) then (if ((zag d5 0).f1)=((zab l1 0).f1) then ((zaw.f k).bind fun j7=>(some j7)) else (none)) else (none)) else (none)) else (none)) else ((zaw.f k).bind fun j8=>(some j8))) else (none))) else (none)) else (none)))) else (none))) else (none)) else (none))=some r:=H
   by_cases c13:0≤i9
   ·rw [if_pos c13] at H
    have c13b0:=eq_true c13
    have c13b1:decide (0≤i9)=true:=decide_eq_true c13
    clear c13
    by_cases c14:i9≤(l1.length:Int)
    ·rw [if_pos c14] at H
     have c14b0:=eq_true c14
     have c14b1:decide (i9≤(l1.length:Int))=true:=decide_eq_true c14
     clear c14
     obtain ⟨y306,hy306⟩ : ∃ y_:List (S57),y_=(l1.take (i9:Int).toNat):=⟨_,rfl⟩
     replace H:((zaz.f k f5 f6 f7 g9 i3 i4 i5 d8 i6 i7 e0 e5 e6 e7 d9 e8 y306).bind fun d7=>(if d7.2=0 then (if (d7.1.length:Int)=0 then (none) else (if (d7.1.length:Int) > (d5.length:Int) then (none) else (if 0≤(d7.1.length:Int) then (if (d7.1.length:Int)≤(d5.length:Int) then ((zaO.f k d7.1 (d5.take ((d7.1.length:Int):Int).toNat)).bind fun k3=>(if k3=true then (if d8=0 then (if 0<(d5.length:Int) then (if 0<(l1.length:Int) then (if ((zag d5 0).f0)=((zab l1 0).f0) then (if ((zag d5 0).f1)=((zab l1 0).f1) then ((zaw.f k).bind fun j7=>(some j7)) else (none)) else (none)) else (none)) else (none)) else ((zaw.f k).bind fun j8=>(some j8))) else (none))) else (none)) else (none)))) else (none)))=some r:=by first|(rw [hy306];with_reducible exact H)|(have H2_:=(Option.bind_some _ _).symm.trans H;rw [hy306];with_reducible exact H2_)|(have H2_:=(Option.bind_some _ _).symm.trans H;with_reducible exact H2_)|with_reducible exact H|(rw [hy306];exact H)|exact H
     have Ny306:=zaa.mk hy306
     clear hy306
     obtain ⟨⟨e9,p8⟩,A15,H⟩:=zob H
     replace H:(if p8=0 then (if (e9.length:Int)=0 then (none) else (if (e9.length:Int) > (d5.length:Int) then (none) else (if 0≤(e9.length:Int) then (if (e9.length:Int)≤(d5.length:Int) then ((zaO.f k e9 (d5.take ((e9.length:Int):Int).toNat)).bind fun k3=>(if k3=true then (if d8=0 then (if 0<(d5.length:Int) then (if 0<(l1.length:Int) then (if ((zag d5 0).f0)=((zab l1 0).f0) then (if ((zag d5 0).f1)=((zab l1 0).f1) then ((zaw.f k).bind fun j7=>(some j7)) else (none)) else (none)) else (none)) else (none)) else ((zaw.f k).bind fun j8=>(some j8))) else (none))) else (none)) else (none)))) else (none))=some r:=H
     by_cases c16:p8=0
     ·rw [if_pos c16] at H
      have c16b0:(p8==0)=true:=beq_iff_eq.mpr c16
      have c16b1:(p8 != 0)=false:=bne_eq_false_iff_eq.mpr c16
      clear c16
      by_cases c17:(e9.length:Int)=0
      ·rw [if_pos c17] at H
       exact absurd H (by simp)
      ·rw [if_neg c17] at H
       have c17b0:((e9.length:Int)==0)=false:=beq_eq_false_iff_ne.mpr c17
       have c17b1:((e9.length:Int) != 0)=true:=bne_iff_ne.mpr c17
       have c17b2 : ¬ (e9=[]):=fun h_=>c17 (by rw [h_];rfl)
       by_cases c18:(e9.length:Int) > (d5.length:Int)
       ·rw [if_pos c18] at H
        exact absurd H (by simp)
       ·rw [if_neg c18] at H
        have c18b0:decide ((d5.length:Int)<(e9.length:Int))=false:=decide_eq_false c18
        have c18b1:decide (d5.length<e9.length)=false:=decide_eq_false (fun h=>c18 (Int.ofNat_lt.mpr h))
        clear c18
        by_cases c19:0≤(e9.length:Int)
        ·rw [if_pos c19] at H
         have c19b0:=eq_true c19
         have c19b1:decide (0≤(e9.length:Int))=true:=decide_eq_true c19
         clear c19
         by_cases c20:(e9.length:Int)≤(d5.length:Int)
         ·rw [if_pos c20] at H
          have c20b0:=eq_true c20
          have c20b1:decide ((e9.length:Int)≤(d5.length:Int))=true:=decide_eq_true c20
          clear c20
          obtain ⟨y314,hy314⟩ : ∃ y_:List (S28),y_=(d5.take ((e9.length:Int):Int).toNat):=⟨_,rfl⟩
          replace H:((zaO.f k e9 y314).bind fun k3=>(if k3=true then (if d8=0 then (if 0<(d5.length:Int) then (if 0<(l1.length:Int) then (if ((zag d5 0).f0)=((zab l1 0).f0) then (if ((zag d5 0).f1)=((zab l1 0).f1) then ((zaw.f k).bind fun j7=>(some j7)) else (none)) else (none)) else (none)) else (none)) else ((zaw.f k).bind fun j8=>(some j8))) else (none)))=some r:=by first|(rw [hy314];with_reducible exact H)|(have H2_:=(Option.bind_some _ _).symm.trans H;rw [hy314];with_reducible exact H2_)|(have H2_:=(Option.bind_some _ _).symm.trans H;with_reducible exact H2_)|with_reducible exact H|(rw [hy314];exact H)|exact H
          have Ny314:=zaa.mk hy314
          clear hy314
          obtain ⟨k3,A21,H⟩:=zob H
          replace H:(if k3=true then (if d8=0 then (if 0<(d5.length:Int) then (if 0<(l1.length:Int) then (if ((zag d5 0).f0)=((zab l1 0).f0) then (if ((zag d5 0).f1)=((zab l1 0).f1) then ((zaw.f k).bind fun j7=>(some j7)) else (none)) else (none)) else (none)) else (none)) else ((zaw.f k).bind fun j8=>(some j8))) else (none))=some r:=H
          by_cases c22:k3=true
          ·subst c22
           have H1:(if d8=0 then (if 0<(d5.length:Int) then (if 0<(l1.length:Int) then (if ((zag d5 0).f0)=((zab l1 0).f0) then (if ((zag d5 0).f1)=((zab l1 0).f1) then ((zaw.f k).bind fun j7=>(some j7)) else (none)) else (none)) else (none)) else (none)) else ((zaw.f k).bind fun j8=>(some j8)))=some r:=by rw [if_pos rfl] at H;exact H
           clear H
           have H:=H1
           clear H1
           by_cases c23:d8=0
           ·rw [if_pos c23] at H
            have c23b0:(d8==0)=true:=beq_iff_eq.mpr c23
            have c23b1:(d8 != 0)=false:=bne_eq_false_iff_eq.mpr c23
            clear c23
            by_cases c24:0<(d5.length:Int)
            ·rw [if_pos c24] at H
             have c24b0:decide (0<(d5.length:Int))=true:=decide_eq_true c24
             have c24b1:decide (0<d5.length)=true:=decide_eq_true (by omega)
             clear c24
             by_cases c25:0<(l1.length:Int)
             ·rw [if_pos c25] at H
              have c25b0:decide (0<(l1.length:Int))=true:=decide_eq_true c25
              have c25b1:decide (0<l1.length)=true:=decide_eq_true (by omega)
              clear c25
              by_cases c26:((zag d5 0).f0)=((zab l1 0).f0)
              ·rw [if_pos c26] at H
               have c26b0:(((zag d5 0).f0)==((zab l1 0).f0))=true:=beq_iff_eq.mpr c26
               have c26b1:(((zag d5 0).f0) != ((zab l1 0).f0))=false:=bne_eq_false_iff_eq.mpr c26
               clear c26
               by_cases c27:((zag d5 0).f1)=((zab l1 0).f1)
               ·rw [if_pos c27] at H
                have c27b0:(((zag d5 0).f1)==((zab l1 0).f1))=true:=beq_iff_eq.mpr c27
                have c27b1:(((zag d5 0).f1) != ((zab l1 0).f1))=false:=bne_eq_false_iff_eq.mpr c27
                clear c27
                obtain ⟨j7,A28,H⟩:=zob H
                replace H:(some j7)=some r:=H
                obtain rfl:=Option.some.inj H
                go_enter Try.func8,Try.ntmps8
                try go_wp2_with (first|((with_reducible refine zbK rfl ?_);refine zle26 ?_)|((with_reducible refine zbL rfl ?_);refine zle28 ?_)|((with_reducible refine zbM rfl ?_);refine zle57 ?_)|((with_reducible refine zaC (N:=3) rfl ?_);(try (refine zcq (by rfl) ?_;dsimp only));refine zbx (N:=3) #[.int .i64 f5,.int .i64 f6,.int .i64 f7,.int .i64 g9,.int .i64 i3,.int .i64 i4,.int .i64 i5,.int .i64 d8,.int .i64 i6,.int .i64 i7,.int .i64 e0,.int .i64 e5,.int .i64 e6,.int .i64 e7,.slice j5 d9.length j6,.bool e8] 26 ?_;intro b9 hg w29 hbox hb;have n0_:=zaa.mk (zae (zL HB.out) hb);have n1_:=zaa.mk (hbox);have n2_:=zaa.mk ((zS hg (zL HB.out):w.heap.size≤b9));have n3_:=n2_;clear HB;have HB:=n0_;have b8:=n1_;have p9:=n2_;have j2:=n3_;clear n0_ n1_ n2_ n3_;clear hb hbox hg;obtain ⟨E0,E1,E2,E3,E4,E5,E6,E7,E8,E9,s9,t6,t7,t8,t9,u3⟩:=zD16 b8.out;obtain ⟨F0,F1,F2,F3,F4,F5,F6,F7,F8,F9,u4,u5,u6,u7,u9,y5⟩:=zE16 b8.out)|((with_reducible refine zah (f:=25) rfl ?_);refine zgl 14 Try.func25 #[.agg #[.int .i64 f5,.int .i64 f6,.int .i64 f7,.int .i64 g9,.int .i64 i3,.int .i64 i4,.int .i64 i5,.int .i64 d8,.int .i64 i6,.int .i64 i7,.int .i64 e0,.int .i64 e5,.int .i64 e6,.int .i64 e7,.slice j5 d9.length j6,.bool e8],.slice A1 l1.length c1] ?_;(with_reducible refine (zaz.calls k f5 f6 f7 g9 i3 i4 i5 d8 i6 i7 e0 e5 e6 e7 _ _ d9 e8 _ _ l1 d5 l7 _ ?side1 ?side2 ?side3 ?side4 A4.out).mono ?_);(case side1=>repeat (first|exact (Kd.C_below l8.out HB.out)|(with_reducible refine Kd.C_alloc ?_ _)|(with_reducible refine Kd.C_drewN ?_ _)|(with_reducible refine Kd.C_drew ?_)));(case side2=>exact l9.out);(case side3=>repeat (first|exact (Kd.C_below HR1.out HB.out)|(with_reducible refine Kd.C_alloc ?_ _)|(with_reducible refine Kd.C_drewN ?_ _)|(with_reducible refine Kd.C_drew ?_)));(case side4=>exact HC1.out);rintro e w31 ⟨v301,rfl,ho0,hb⟩;refine ⟨_,rfl,?_⟩;have d6:=zaa.mk (Kd.R_lower ho0 (zbJ (zL1 HB.out j2.out)));replace b8:=zaa.mk (zac (zB b8.out) hb);replace HB:=zaa.mk (zae (zL1 HB.out j2.out) hb);(try clear hb);(try clear hb2);(try clear hk);(try clear hi);(try clear ho0))|((with_reducible refine zah (f:=27) rfl ?_);refine zgl 28 Try.func27 #[.int .i64 a2,.int .i64 1,.int .i64 (l1.length:Int)] ?_;(with_reducible refine (zaf.calls a2 1 (l1.length:Int) i9 _ A12.out).mono ?_);rintro e w32 ⟨rfl,hb⟩;refine ⟨_,rfl,?_⟩;have n0_:=zaa.mk (Kd.R_below (by (with_reducible repeat (first|apply Kd.R_alloc|apply Kd.R_drewN|apply Kd.R_drew));exact d6.out) hb);have n1_:=zaa.mk (zac (zB b8.out) hb);have n2_:=zaa.mk (zae (zL1 HB.out j2.out) hb);clear d6;clear b8;clear HB;have d6:=n0_;have b8:=n1_;have HB:=n2_;clear n0_ n1_ n2_;(try clear hb)))
                replace d6:=zaa.mk (Kd.R_drew d6.out)
                replace b8:=zaa.mk (zaM b8.out)
                replace HB:=zaa.mk (zai HB.out)
                have q34:(i9:Int)≤((l1.length:Int):Int):=of_decide_eq_true (by first|(with_reducible assumption)|assumption)
                obtain ⟨i034,hi034,_,hsz34,_⟩:=info_parts info57
                have hroom34:l1.length≤c1:=HC1.out
                have hC34:Kd.C k57 _ A1 l1.length l1:=HR1.out
                have hcut34:=cut_to (P:=Try.prog) 50 57 .i64 Try.underlying50 hi034 A1 l1.length c1 i9 (of_decide_eq_true (by first|(with_reducible assumption)|assumption)) q34 hroom34
                have hr34:=Kd.C_take (m:=(i9:Int).toNat) hC34 (by omega)
                have hy34:y306.length=(i9:Int).toNat:=(by rw [Ny306.out,List.length_take];omega)
                rw [← Ny306.out] at hr34
                rw [← hy34] at hcut34
                have HR309:=zaa.mk hr34
                have HC309:=zaa.mk (show y306.length≤c1 from by omega)
                clear hr34 hC34 hroom34 hi034 hsz34
                have KY34:=zaa.mk hy34
                clear hy34
                replace q34:=eq_true q34
                refine zbA (n:=10) (S:=fun w'=>w'.cell? ⟨b9,0,none⟩=some (.int .i64 f5)∧w'.cell? ⟨b9,1,none⟩=some (.int .i64 f6)∧w'.cell? ⟨b9,2,none⟩=some (.int .i64 f7)∧w'.cell? ⟨b9,3,none⟩=some (.int .i64 g9)∧w'.cell? ⟨b9,4,none⟩=some (.int .i64 i3)∧w'.cell? ⟨b9,5,none⟩=some (.int .i64 i4)∧w'.cell? ⟨b9,6,none⟩=some (.int .i64 i5)∧w'.cell? ⟨b9,7,none⟩=some (.int .i64 d8)∧w'.cell? ⟨b9,8,none⟩=some (.int .i64 i6)∧w'.cell? ⟨b9,9,none⟩=some (.int .i64 i7)∧w'.cell? ⟨b9,10,none⟩=some (.int .i64 e0)∧w'.cell? ⟨b9,11,none⟩=some (.int .i64 e5)∧w'.cell? ⟨b9,12,none⟩=some (.int .i64 e6)∧w'.cell? ⟨b9,13,none⟩=some (.int .i64 e7)∧w'.cell? ⟨b9,14,none⟩=some (.slice j5 d9.length j6)∧w'.cell? ⟨b9,15,none⟩=some (.bool e8)) (ds:=[]) #[false,false,false,false,false,false,false,false,false,false] (by kernel_rfl) rfl rfl (zD16 b8.out) (fun hHeld=>?_);refine zbn imageeditorlaw28_BrushBegins.tab5 imageeditorlaw28_BrushBegins.bits5 (fun HT_ HW_=>?_)
                generalize w32.drew=w33 at d6 b8 HB HR309 hHeld ⊢
                refine zpu 1 31 HT_.out ?_
                refine zpu 2 32 HT_.out ?_
                refine zpu 3 33 HT_.out ?_
                refine ztl 0 30 HT_.out HW_.out hHeld ?_
                refine zon 4 (some 34) HT_.out (fun K hK=>?_)
                refine zgo Try.func25 #[.agg #[.int .i64 f5,.int .i64 f6,.int .i64 f7,.int .i64 g9,.int .i64 i3,.int .i64 i4,.int .i64 i5,.int .i64 d8,.int .i64 i6,.int .i64 i7,.int .i64 e0,.int .i64 e5,.int .i64 e6,.int .i64 e7,.slice j5 d9.length j6,.bool e8],.slice A1 y306.length c1] ?_
                with_reducible refine (zaz.calls k f5 f6 f7 g9 i3 i4 i5 d8 i6 i7 e0 e5 e6 e7 _ _ d9 e8 _ _ y306 e9 p8 _ ?side1 ?side2 ?side3 ?side4 A15.out).mono ?_
                (case side1=>repeat (first|exact (Kd.C_below l8.out HB.out)|(with_reducible refine Kd.C_alloc ?_ _)|(with_reducible refine Kd.C_drewN ?_ _)|(with_reducible refine Kd.C_drew ?_)))
                (case side2=>exact l9.out)
                (case side3=>repeat (first|exact (Kd.C_below HR309.out HB.out)|(with_reducible refine Kd.C_alloc ?_ _)|(with_reducible refine Kd.C_drewN ?_ _)|(with_reducible refine Kd.C_drew ?_)))
                (case side4=>exact HC309.out)
                rintro e w35 ⟨v311,rfl,ho0,hb⟩
                refine ⟨_,rfl,?_⟩
                have n0_:=zaa.mk (Kd.R_elder' (by (with_reducible repeat (first|apply Kd.R_alloc|apply Kd.R_drewN|apply Kd.R_drew));exact d6.out) (Kd.R_base ho0) hb)
                have n1_:=zaa.mk (Kd.R_lower (Kd.R_new' ho0 (Kd.R_lt (by (with_reducible repeat (first|apply Kd.R_alloc|apply Kd.R_drewN|apply Kd.R_drew));exact d6.out))) (zbJ (zL1 HB.out j2.out)))
                have n2_:=zaa.mk (zac (zB b8.out) hb)
                have n3_:=zaa.mk (zae (zL1 HB.out j2.out) hb)
                clear d6
                clear b8
                clear HB
                have d6:=n0_
                have i8:=n1_
                have b8:=n2_
                have HB:=n3_
                clear n0_ n1_ n2_ n3_
                (try clear hb);(try clear hb2);(try clear hk);(try clear hi)
                (try clear ho0)
                refine hK.out _ _ (zD16 b8.out) (fun hHeld=>?_)
                clear hK K
                refine znm ?_
                refine zpu 5 29 HT_.out ?_
                refine zpu 6 35 HT_.out ?_
                refine zpu 7 36 HT_.out ?_
                refine zpu 8 9 HT_.out ?_
                refine zpu 9 10 HT_.out ?_
                refine zbT (zbB HT_.out (by kernel_rfl)) ?_
                obtain ⟨Ao36,co36,eo36⟩:=Kd.R_slice i8.out
                subst eo36
                obtain ⟨Ao37,co37,eo37⟩:=Kd.R_slice d6.out
                subst eo37
                have q38:((e9.length:Int):Int)≤((d5.length:Int):Int):=of_decide_eq_true (by first|(with_reducible assumption)|assumption)
                obtain ⟨i038,hi038,_,hsz38,_⟩:=info_parts info28
                have hroom38:d5.length≤co37:=(Kd.R_reads' d6.out).2.1
                have hC38:Kd.C k28 _ Ao37 d5.length d5:=(Kd.R_reads' d6.out).2.2
                have hcut38:=cut_to (P:=Try.prog) 51 28 .i64 Try.underlying51 hi038 Ao37 d5.length co37 (e9.length:Int) (of_decide_eq_true (by first|(with_reducible assumption)|assumption)) q38 hroom38
                have hr38:=Kd.C_take (m:=((e9.length:Int):Int).toNat) hC38 (by omega)
                have hy38:y314.length=((e9.length:Int):Int).toNat:=(by rw [Ny314.out,List.length_take];omega)
                rw [← Ny314.out] at hr38
                rw [← hy38] at hcut38
                have HR317:=zaa.mk hr38
                have HC317:=zaa.mk (show y314.length≤co37 from by omega)
                clear hr38 hC38 hroom38 hi038 hsz38
                have KY38:=zaa.mk hy38
                clear hy38
                have KL38:=zaa.mk (show ((e9.length:Int):Int).toNat≤d5.length from by omega)
                replace q38:=eq_true q38
                try go_wp2_with (first|((with_reducible refine zbK rfl ?_);refine zle26 ?_)|((with_reducible refine zbL rfl ?_);refine zle28 ?_)|((with_reducible refine zbM rfl ?_);refine zle57 ?_)|(go_at_call 28;(with_reducible refine (zaO.calls k _ _ e9 _ _ y314 true _ ?side1 ?side2 ?side3 ?side4 A21.out).mono ?_);(case side1=>repeat (first|exact (Kd.R_reads' i8.out).2.2|(with_reducible refine Kd.C_alloc ?_ _)|(with_reducible refine Kd.C_drewN ?_ _)|(with_reducible refine Kd.C_drew ?_)));(case side2=>exact (Kd.R_reads' i8.out).2.1);(case side3=>repeat (first|exact (by repeat (first|(with_reducible exact HR317.out)|(with_reducible refine Kd.C_alloc ?_ _)|(with_reducible refine Kd.C_drewN ?_ _)|(with_reducible refine Kd.C_drew ?_)|exact HR317.out))|(with_reducible refine Kd.C_alloc ?_ _)|(with_reducible refine Kd.C_drewN ?_ _)|(with_reducible refine Kd.C_drew ?_)));(case side4=>exact HC317.out);rintro e w' ⟨rfl,⟨nd,rfl⟩⟩))
                (try (rw [drewN_self w35];generalize hq_:World.drewN w35 _=w35;have n0_:zaa (Kd.R k28 28 w35 w.heap.size (fun k_=>some k_≠(.slice Ao36 e9.length co36:Value).ownBlock) (.slice Ao37 d5.length co37) d5):=⟨by rw [← hq_];exact (by (with_reducible repeat (first|apply Kd.R_alloc|apply Kd.R_drewN|apply Kd.R_drew));exact Kd.R_mono d6.out (fun _ hk=>hk.2))⟩;have n1_:zaa (Kd.R k28 28 w35 w.heap.size (fun k_=>some k_≠(.slice Ao37 d5.length co37:Value).ownBlock) (.slice Ao36 e9.length co36) e9):=⟨by rw [← hq_];exact (by (with_reducible repeat (first|apply Kd.R_alloc|apply Kd.R_drewN|apply Kd.R_drew));exact Kd.R_mono i8.out (fun _ hk=>hk.2))⟩;have n2_:zaa (w35.heap[b9]? = some (.cells #[.int .i64 f5,.int .i64 f6,.int .i64 f7,.int .i64 g9,.int .i64 i3,.int .i64 i4,.int .i64 i5,.int .i64 d8,.int .i64 i6,.int .i64 i7,.int .i64 e0,.int .i64 e5,.int .i64 e6,.int .i64 e7,.slice j5 d9.length j6,.bool e8] 26 (0,0))):=⟨by rw [← hq_];exact (zB b8.out)⟩;have n3_:zaa (Below w.heap.size w w35):=⟨by rw [← hq_];exact (zL1 HB.out j2.out)⟩;have n4_:zaa (Kd.C k28 w35 Ao37 y314.length y314):=⟨by rw [← hq_];exact (by repeat (first|(with_reducible exact HR317.out)|(with_reducible refine Kd.C_alloc ?_ _)|(with_reducible refine Kd.C_drewN ?_ _)|(with_reducible refine Kd.C_drew ?_)|exact HR317.out))⟩;clear d6 i8 b8 HB HR317 hq_;have d6:=n0_;have i8:=n1_;have b8:=n2_;have HB:=n3_;have HR317:=n4_;clear n0_ n1_ n2_ n3_ n4_))
                replace d6:=zaa.mk (Kd.R_drew d6.out)
                replace i8:=zaa.mk (Kd.R_drew i8.out)
                replace b8:=zaa.mk (zaM b8.out)
                replace HR317:=zaa.mk (Kd.C_drew HR317.out)
                replace HB:=zaa.mk (zai HB.out)
                have p319:0≤(0:Int):=(by omega)
                have q319:0<(d5.length:Int):=of_decide_eq_true (by first|(with_reducible assumption)|assumption)
                obtain ⟨j3,e319,m5,m6,m7,m8,m9⟩:=at_T28 (Kd.R_reads' d6.out).2.2 0 p319 q319
                cases e319
                have qi319:(0<d5.length)=True:=eq_true (by omega)
                (try rw [show ((0:Int)).toNat=0 from rfl] at m5)
                (try rw [show 0*5=0 from rfl] at m5)
                (try rw [Addr.add_zero'] at m5)
                (try rw [show ((0:Int)).toNat=0 from rfl] at m6)
                (try rw [show 0*5=0 from rfl] at m6)
                (try rw [Addr.add_zero'] at m6)
                (try rw [show ((0:Int)).toNat=0 from rfl] at m7)
                (try rw [show 0*5=0 from rfl] at m7)
                (try rw [Addr.add_zero'] at m7)
                (try rw [show ((0:Int)).toNat=0 from rfl] at m8)
                (try rw [show 0*5=0 from rfl] at m8)
                (try rw [Addr.add_zero'] at m8)
                (try rw [show ((0:Int)).toNat=0 from rfl] at m9)
                (try rw [show 0*5=0 from rfl] at m9)
                (try rw [Addr.add_zero'] at m9)
                replace p319:=eq_true p319
                replace q319:=eq_true q319
                have p320:0≤(0:Int):=(by omega)
                have q320:0<(l1.length:Int):=of_decide_eq_true (by first|(with_reducible assumption)|assumption)
                obtain ⟨j4,e320,k4,k5,k6,k7,k8⟩:=at_T57 HR1.out 0 p320 q320
                have n0:=k8
                (try rw [show ((0:Int)).toNat=0 from rfl] at n0)
                (try rw [show 0*5=0 from rfl] at n0)
                (try rw [Addr.add_zero'] at n0)
                have n3:=k7
                (try rw [show ((0:Int)).toNat=0 from rfl] at n3)
                (try rw [show 0*5=0 from rfl] at n3)
                (try rw [Addr.add_zero'] at n3)
                have n4:=k6
                (try rw [show ((0:Int)).toNat=0 from rfl] at n4)
                (try rw [show 0*5=0 from rfl] at n4)
                (try rw [Addr.add_zero'] at n4)
                have n5:=k5
                (try rw [show ((0:Int)).toNat=0 from rfl] at n5)
                (try rw [show 0*5=0 from rfl] at n5)
                (try rw [Addr.add_zero'] at n5)
                have n6:=k4
                (try rw [show ((0:Int)).toNat=0 from rfl] at n6)
                (try rw [show 0*5=0 from rfl] at n6)
                (try rw [Addr.add_zero'] at n6)
                cases e320
                have qi320:(0<l1.length)=True:=eq_true (by omega)
                (try rw [show ((0:Int)).toNat=0 from rfl] at k4)
                (try rw [show 0*5=0 from rfl] at k4)
                (try rw [Addr.add_zero'] at k4)
                (try rw [show ((0:Int)).toNat=0 from rfl] at k5)
                (try rw [show 0*5=0 from rfl] at k5)
                (try rw [Addr.add_zero'] at k5)
                (try rw [show ((0:Int)).toNat=0 from rfl] at k6)
                (try rw [show 0*5=0 from rfl] at k6)
                (try rw [Addr.add_zero'] at k6)
                (try rw [show ((0:Int)).toNat=0 from rfl] at k7)
                (try rw [show 0*5=0 from rfl] at k7)
                (try rw [Addr.add_zero'] at k7)
                (try rw [show ((0:Int)).toNat=0 from rfl] at k8)
                (try rw [show 0*5=0 from rfl] at k8)
                (try rw [Addr.add_zero'] at k8)
                replace k4:=zad HB.out k4
                replace k5:=zad HB.out k5
                replace k6:=zad HB.out k6
                replace k7:=zad HB.out k7
                replace k8:=zad HB.out k8
                replace p320:=eq_true p320
                replace q320:=eq_true q320
                have p321:0≤(0:Int):=(by omega)
                have q321:0<(d5.length:Int):=of_decide_eq_true (by first|(with_reducible assumption)|assumption)
                obtain ⟨s7,e321,n7,n8,n9,o2,o3⟩:=at_T28 (Kd.R_reads' d6.out).2.2 0 p321 q321
                obtain rfl:j3=s7:=(by injection e321)
                have qi321:(0<d5.length)=True:=eq_true (by omega)
                (try rw [show ((0:Int)).toNat=0 from rfl] at n7)
                (try rw [show 0*5=0 from rfl] at n7)
                (try rw [Addr.add_zero'] at n7)
                (try rw [show ((0:Int)).toNat=0 from rfl] at n8)
                (try rw [show 0*5=0 from rfl] at n8)
                (try rw [Addr.add_zero'] at n8)
                (try rw [show ((0:Int)).toNat=0 from rfl] at n9)
                (try rw [show 0*5=0 from rfl] at n9)
                (try rw [Addr.add_zero'] at n9)
                (try rw [show ((0:Int)).toNat=0 from rfl] at o2)
                (try rw [show 0*5=0 from rfl] at o2)
                (try rw [Addr.add_zero'] at o2)
                (try rw [show ((0:Int)).toNat=0 from rfl] at o3)
                (try rw [show 0*5=0 from rfl] at o3)
                (try rw [Addr.add_zero'] at o3)
                replace p321:=eq_true p321
                replace q321:=eq_true q321
                have p322:0≤(0:Int):=(by omega)
                have q322:0<(l1.length:Int):=of_decide_eq_true (by first|(with_reducible assumption)|assumption)
                obtain ⟨s8,e322,k9,l3,l4,l5,l6⟩:=at_T57 HR1.out 0 p322 q322
                have o4:=l6
                (try rw [show ((0:Int)).toNat=0 from rfl] at o4)
                (try rw [show 0*5=0 from rfl] at o4)
                (try rw [Addr.add_zero'] at o4)
                have o5:=l5
                (try rw [show ((0:Int)).toNat=0 from rfl] at o5)
                (try rw [show 0*5=0 from rfl] at o5)
                (try rw [Addr.add_zero'] at o5)
                have o6:=l4
                (try rw [show ((0:Int)).toNat=0 from rfl] at o6)
                (try rw [show 0*5=0 from rfl] at o6)
                (try rw [Addr.add_zero'] at o6)
                have o7:=l3
                (try rw [show ((0:Int)).toNat=0 from rfl] at o7)
                (try rw [show 0*5=0 from rfl] at o7)
                (try rw [Addr.add_zero'] at o7)
                have o8:=k9
                (try rw [show ((0:Int)).toNat=0 from rfl] at o8)
                (try rw [show 0*5=0 from rfl] at o8)
                (try rw [Addr.add_zero'] at o8)
                obtain rfl:j4=s8:=(by injection e322)
                have qi322:(0<l1.length)=True:=eq_true (by omega)
                (try rw [show ((0:Int)).toNat=0 from rfl] at k9)
                (try rw [show 0*5=0 from rfl] at k9)
                (try rw [Addr.add_zero'] at k9)
                (try rw [show ((0:Int)).toNat=0 from rfl] at l3)
                (try rw [show 0*5=0 from rfl] at l3)
                (try rw [Addr.add_zero'] at l3)
                (try rw [show ((0:Int)).toNat=0 from rfl] at l4)
                (try rw [show 0*5=0 from rfl] at l4)
                (try rw [Addr.add_zero'] at l4)
                (try rw [show ((0:Int)).toNat=0 from rfl] at l5)
                (try rw [show 0*5=0 from rfl] at l5)
                (try rw [Addr.add_zero'] at l5)
                (try rw [show ((0:Int)).toNat=0 from rfl] at l6)
                (try rw [show 0*5=0 from rfl] at l6)
                (try rw [Addr.add_zero'] at l6)
                replace k9:=zad HB.out k9
                replace l3:=zad HB.out l3
                replace l4:=zad HB.out l4
                replace l5:=zad HB.out l5
                replace l6:=zad HB.out l6
                replace p322:=eq_true p322
                replace q322:=eq_true q322
                refine zbA (n:=29) (S:=fun w'=>w'.cell? ⟨b9,0,none⟩=some (.int .i64 f5)∧w'.cell? ⟨b9,1,none⟩=some (.int .i64 f6)∧w'.cell? ⟨b9,2,none⟩=some (.int .i64 f7)∧w'.cell? ⟨b9,3,none⟩=some (.int .i64 g9)∧w'.cell? ⟨b9,4,none⟩=some (.int .i64 i3)∧w'.cell? ⟨b9,5,none⟩=some (.int .i64 i4)∧w'.cell? ⟨b9,6,none⟩=some (.int .i64 i5)∧w'.cell? ⟨b9,7,none⟩=some (.int .i64 d8)∧w'.cell? ⟨b9,8,none⟩=some (.int .i64 i6)∧w'.cell? ⟨b9,9,none⟩=some (.int .i64 i7)∧w'.cell? ⟨b9,10,none⟩=some (.int .i64 e0)∧w'.cell? ⟨b9,11,none⟩=some (.int .i64 e5)∧w'.cell? ⟨b9,12,none⟩=some (.int .i64 e6)∧w'.cell? ⟨b9,13,none⟩=some (.int .i64 e7)∧w'.cell? ⟨b9,14,none⟩=some (.slice j5 d9.length j6)∧w'.cell? ⟨b9,15,none⟩=some (.bool e8)∧w'.cell? j3=some (.int .i64 ((zag d5 0).f0))∧w'.cell? ⟨j3.block,j3.off+1,none⟩=some (.int .i64 ((zag d5 0).f1))∧w'.cell? ⟨j3.block,j3.off+2,none⟩=some (.int .i64 ((zag d5 0).f2))∧w'.cell? ⟨j3.block,j3.off+3,none⟩=some (.int .i64 ((zag d5 0).f3))∧w'.cell? ⟨j3.block,j3.off+4,none⟩=some (.int .i64 ((zag d5 0).f4))∧w'.cell? j4=some (.int .i64 ((zab l1 0).f0))∧w'.cell? ⟨j4.block,j4.off+1,none⟩=some (.int .i64 ((zab l1 0).f1))∧w'.cell? ⟨j4.block,j4.off+2,none⟩=some (.int .i64 ((zab l1 0).f2))∧w'.cell? ⟨j4.block,j4.off+3,none⟩=some (.int .i64 ((zab l1 0).f3))∧w'.cell? ⟨j4.block,j4.off+4,none⟩=some (.int .i64 ((zab l1 0).f4))∧w'.cell? j3=some (.int .i64 ((zag d5 0).f0))∧w'.cell? ⟨j3.block,j3.off+1,none⟩=some (.int .i64 ((zag d5 0).f1))∧w'.cell? ⟨j3.block,j3.off+2,none⟩=some (.int .i64 ((zag d5 0).f2))∧w'.cell? ⟨j3.block,j3.off+3,none⟩=some (.int .i64 ((zag d5 0).f3))∧w'.cell? ⟨j3.block,j3.off+4,none⟩=some (.int .i64 ((zag d5 0).f4))∧w'.cell? j4=some (.int .i64 ((zab l1 0).f0))∧w'.cell? ⟨j4.block,j4.off+1,none⟩=some (.int .i64 ((zab l1 0).f1))∧w'.cell? ⟨j4.block,j4.off+2,none⟩=some (.int .i64 ((zab l1 0).f2))∧w'.cell? ⟨j4.block,j4.off+3,none⟩=some (.int .i64 ((zab l1 0).f3))∧w'.cell? ⟨j4.block,j4.off+4,none⟩=some (.int .i64 ((zab l1 0).f4))) (ds:=[]) #[false,false,false,false,false,false,false,false,false,false,false,false,false,false,false,false,false,false,false,false,false,false,false,false,false,false,false,false,false] (by kernel_rfl) rfl rfl ⟨zc b8.out 0,zc b8.out 1,zc b8.out 2,zc b8.out 3,zc b8.out 4,zc b8.out 5,zc b8.out 6,zc b8.out 7,zc b8.out 8,zc b8.out 9,zc b8.out 10,zc b8.out 11,zc b8.out 12,zc b8.out 13,zc b8.out 14,zc b8.out 15,m5,m6,m7,m8,m9,(zad HB.out n6),(zad HB.out n5),(zad HB.out n4),(zad HB.out n3),(zad HB.out n0),n7,n8,n9,o2,o3,(zad HB.out o8),(zad HB.out o7),(zad HB.out o6),(zad HB.out o5),(zad HB.out o4)⟩ (fun hHeld=>?_);refine zbn imageeditorlaw28_BrushBegins.tab8 imageeditorlaw28_BrushBegins.bits8 (fun HT_ HW_=>?_)
                generalize w35.drew=w39 at d6 i8 b8 HR317 HB m5 m6 m7 m8 m9 k4 k5 k6 k7 k8 n7 n8 n9 o2 o3 k9 l3 l4 l5 l6 hHeld ⊢
                refine zpu 0 60 HT_.out ?_
                refine ztl 1 61 HT_.out HW_.out hHeld ?_
                refine zpu 2 62 HT_.out ?_
                refine zpu 3 63 HT_.out ?_
                refine zpu 4 64 HT_.out ?_
                refine zpu 5 65 HT_.out ?_
                refine zpu 6 66 HT_.out ?_
                refine zpu 8 68 HT_.out ?_
                refine zpu 9 69 HT_.out ?_
                refine zpu 10 70 HT_.out ?_
                refine ztl 7 67 HT_.out HW_.out hHeld ?_
                refine ztl 11 71 HT_.out HW_.out hHeld ?_
                refine zpu 12 72 HT_.out ?_
                refine zpu 13 73 HT_.out ?_
                refine zpu 14 74 HT_.out ?_
                refine zpu 15 75 HT_.out ?_
                refine zpu 16 76 HT_.out ?_
                refine zpu 18 78 HT_.out ?_
                refine zpu 19 79 HT_.out ?_
                refine zpu 20 80 HT_.out ?_
                refine ztl 17 77 HT_.out HW_.out hHeld ?_
                refine ztl 21 81 HT_.out HW_.out hHeld ?_
                refine zpu 22 82 HT_.out ?_
                refine zpu 23 83 HT_.out ?_
                refine zpu 24 84 HT_.out ?_
                refine zpu 25 85 HT_.out ?_
                refine zon 26 (some 86) HT_.out (fun K hK=>?_)
                refine zgo Try.func26 #[] ?_
                with_reducible refine (zaw.calls k  j7 _ A28.out).mono ?_
                rintro e w40 ⟨rfl,hb⟩
                have HS16_:=(hb.cell (World.block_lt_of_cell? _ _ (hHeld.2.2.2.2.2.2.2.2.2.2.2.2.2.2.2.2.1))).trans (hHeld.2.2.2.2.2.2.2.2.2.2.2.2.2.2.2.2.1)
                have HS17_:=(hb.cell (World.block_lt_of_cell? _ _ (hHeld.2.2.2.2.2.2.2.2.2.2.2.2.2.2.2.2.2.1))).trans (hHeld.2.2.2.2.2.2.2.2.2.2.2.2.2.2.2.2.2.1)
                have HS18_:=(hb.cell (World.block_lt_of_cell? _ _ (hHeld.2.2.2.2.2.2.2.2.2.2.2.2.2.2.2.2.2.2.1))).trans (hHeld.2.2.2.2.2.2.2.2.2.2.2.2.2.2.2.2.2.2.1)
                have HS19_:=(hb.cell (World.block_lt_of_cell? _ _ (hHeld.2.2.2.2.2.2.2.2.2.2.2.2.2.2.2.2.2.2.2.1))).trans (hHeld.2.2.2.2.2.2.2.2.2.2.2.2.2.2.2.2.2.2.2.1)
                have HS20_:=(hb.cell (World.block_lt_of_cell? _ _ (hHeld.2.2.2.2.2.2.2.2.2.2.2.2.2.2.2.2.2.2.2.2.1))).trans (hHeld.2.2.2.2.2.2.2.2.2.2.2.2.2.2.2.2.2.2.2.2.1)
                have HS26_:=(hb.cell (World.block_lt_of_cell? _ _ (hHeld.2.2.2.2.2.2.2.2.2.2.2.2.2.2.2.2.2.2.2.2.2.2.2.2.2.2.1))).trans (hHeld.2.2.2.2.2.2.2.2.2.2.2.2.2.2.2.2.2.2.2.2.2.2.2.2.2.2.1)
                have HS27_:=(hb.cell (World.block_lt_of_cell? _ _ (hHeld.2.2.2.2.2.2.2.2.2.2.2.2.2.2.2.2.2.2.2.2.2.2.2.2.2.2.2.1))).trans (hHeld.2.2.2.2.2.2.2.2.2.2.2.2.2.2.2.2.2.2.2.2.2.2.2.2.2.2.2.1)
                have HS28_:=(hb.cell (World.block_lt_of_cell? _ _ (hHeld.2.2.2.2.2.2.2.2.2.2.2.2.2.2.2.2.2.2.2.2.2.2.2.2.2.2.2.2.1))).trans (hHeld.2.2.2.2.2.2.2.2.2.2.2.2.2.2.2.2.2.2.2.2.2.2.2.2.2.2.2.2.1)
                have HS29_:=(hb.cell (World.block_lt_of_cell? _ _ (hHeld.2.2.2.2.2.2.2.2.2.2.2.2.2.2.2.2.2.2.2.2.2.2.2.2.2.2.2.2.2.1))).trans (hHeld.2.2.2.2.2.2.2.2.2.2.2.2.2.2.2.2.2.2.2.2.2.2.2.2.2.2.2.2.2.1)
                have HS30_:=(hb.cell (World.block_lt_of_cell? _ _ (hHeld.2.2.2.2.2.2.2.2.2.2.2.2.2.2.2.2.2.2.2.2.2.2.2.2.2.2.2.2.2.2.1))).trans (hHeld.2.2.2.2.2.2.2.2.2.2.2.2.2.2.2.2.2.2.2.2.2.2.2.2.2.2.2.2.2.2.1)
                refine ⟨_,rfl,?_⟩
                have n0_:=zaa.mk (Kd.R_below (by (with_reducible repeat (first|apply Kd.R_alloc|apply Kd.R_drewN|apply Kd.R_drew));exact d6.out) hb)
                have n1_:=zaa.mk (Kd.R_below (by (with_reducible repeat (first|apply Kd.R_alloc|apply Kd.R_drewN|apply Kd.R_drew));exact i8.out) hb)
                have n2_:=zaa.mk (zac (zB b8.out) hb)
                have n3_:=zaa.mk (Kd.C_below (by repeat (first|(with_reducible exact HR317.out)|(with_reducible refine Kd.C_alloc ?_ _)|(with_reducible refine Kd.C_drewN ?_ _)|(with_reducible refine Kd.C_drew ?_)|exact HR317.out)) hb)
                have n4_:=zaa.mk (zae (zL1 HB.out j2.out) hb)
                clear d6
                clear i8
                clear b8
                clear HR317
                clear HB
                have d6:=n0_
                have i8:=n1_
                have b8:=n2_
                have HR317:=n3_
                have HB:=n4_
                clear n0_ n1_ n2_ n3_ n4_
                (try clear hb)
                refine hK.out _ _ ⟨zc b8.out 0,zc b8.out 1,zc b8.out 2,zc b8.out 3,zc b8.out 4,zc b8.out 5,zc b8.out 6,zc b8.out 7,zc b8.out 8,zc b8.out 9,zc b8.out 10,zc b8.out 11,zc b8.out 12,zc b8.out 13,zc b8.out 14,zc b8.out 15,HS16_,HS17_,HS18_,HS19_,HS20_,(zad HB.out n6),(zad HB.out n5),(zad HB.out n4),(zad HB.out n3),(zad HB.out n0),HS26_,HS27_,HS28_,HS29_,HS30_,(zad HB.out o8),(zad HB.out o7),(zad HB.out o6),(zad HB.out o5),(zad HB.out o4)⟩ (fun hHeld=>?_)
                clear hK K
                refine znm ?_
                refine zpu 27 87 HT_.out ?_
                refine zpu 28 6 HT_.out ?_
                refine zbT (zbB HT_.out (by kernel_rfl)) ?_
                try go_wp2
                go_ret
                exact zG
               ·rw [if_neg c27] at H
                have c27b0:(((zag d5 0).f1)==((zab l1 0).f1))=false:=beq_eq_false_iff_ne.mpr c27
                have c27b1:(((zag d5 0).f1) != ((zab l1 0).f1))=true:=bne_iff_ne.mpr c27
                exact absurd H (by simp)
              ·rw [if_neg c26] at H
               have c26b0:(((zag d5 0).f0)==((zab l1 0).f0))=false:=beq_eq_false_iff_ne.mpr c26
               have c26b1:(((zag d5 0).f0) != ((zab l1 0).f0))=true:=bne_iff_ne.mpr c26
               exact absurd H (by simp)
             ·rw [if_neg c25] at H
              exact absurd H (by simp)
            ·rw [if_neg c24] at H
             exact absurd H (by simp)
           ·rw [if_neg c23] at H
            have c23b0:(d8==0)=false:=beq_eq_false_iff_ne.mpr c23
            have c23b1:(d8 != 0)=true:=bne_iff_ne.mpr c23
            obtain ⟨j8,A41,H⟩:=zob H
            replace H:(some j8)=some r:=H
            obtain rfl:=Option.some.inj H
            go_enter Try.func8,Try.ntmps8
            try go_wp2_with (first|((with_reducible refine zbK rfl ?_);refine zle26 ?_)|((with_reducible refine zbL rfl ?_);refine zle28 ?_)|((with_reducible refine zbM rfl ?_);refine zle57 ?_)|((with_reducible refine zaC (N:=3) rfl ?_);(try (refine zcq (by rfl) ?_;dsimp only));refine zbx (N:=3) #[.int .i64 f5,.int .i64 f6,.int .i64 f7,.int .i64 g9,.int .i64 i3,.int .i64 i4,.int .i64 i5,.int .i64 d8,.int .i64 i6,.int .i64 i7,.int .i64 e0,.int .i64 e5,.int .i64 e6,.int .i64 e7,.slice j5 d9.length j6,.bool e8] 26 ?_;intro b9 hg w42 hbox hb;have n0_:=zaa.mk (zae (zL HB.out) hb);have n1_:=zaa.mk (hbox);have n2_:=zaa.mk ((zS hg (zL HB.out):w.heap.size≤b9));have n3_:=n2_;clear HB;have HB:=n0_;have b8:=n1_;have p9:=n2_;have j2:=n3_;clear n0_ n1_ n2_ n3_;clear hb hbox hg;obtain ⟨G4,G5,G6,G7,G8,G9,H0,H2,H3,H4,y6,y7,y8,y9,z1,z2⟩:=zD16 b8.out;obtain ⟨H5,H6,H7,H8,H9,I0,I1,I2,I3,I4,z3,z4,z5,z6,z7,z8⟩:=zE16 b8.out)|((with_reducible refine zah (f:=25) rfl ?_);refine zgl 14 Try.func25 #[.agg #[.int .i64 f5,.int .i64 f6,.int .i64 f7,.int .i64 g9,.int .i64 i3,.int .i64 i4,.int .i64 i5,.int .i64 d8,.int .i64 i6,.int .i64 i7,.int .i64 e0,.int .i64 e5,.int .i64 e6,.int .i64 e7,.slice j5 d9.length j6,.bool e8],.slice A1 l1.length c1] ?_;(with_reducible refine (zaz.calls k f5 f6 f7 g9 i3 i4 i5 d8 i6 i7 e0 e5 e6 e7 _ _ d9 e8 _ _ l1 d5 l7 _ ?side1 ?side2 ?side3 ?side4 A4.out).mono ?_);(case side1=>repeat (first|exact (Kd.C_below l8.out HB.out)|(with_reducible refine Kd.C_alloc ?_ _)|(with_reducible refine Kd.C_drewN ?_ _)|(with_reducible refine Kd.C_drew ?_)));(case side2=>exact l9.out);(case side3=>repeat (first|exact (Kd.C_below HR1.out HB.out)|(with_reducible refine Kd.C_alloc ?_ _)|(with_reducible refine Kd.C_drewN ?_ _)|(with_reducible refine Kd.C_drew ?_)));(case side4=>exact HC1.out);rintro e w44 ⟨v301,rfl,ho0,hb⟩;refine ⟨_,rfl,?_⟩;have d6:=zaa.mk (Kd.R_lower ho0 (zbJ (zL1 HB.out j2.out)));replace b8:=zaa.mk (zac (zB b8.out) hb);replace HB:=zaa.mk (zae (zL1 HB.out j2.out) hb);(try clear hb);(try clear hb2);(try clear hk);(try clear hi);(try clear ho0))|((with_reducible refine zah (f:=27) rfl ?_);refine zgl 28 Try.func27 #[.int .i64 a2,.int .i64 1,.int .i64 (l1.length:Int)] ?_;(with_reducible refine (zaf.calls a2 1 (l1.length:Int) i9 _ A12.out).mono ?_);rintro e w45 ⟨rfl,hb⟩;refine ⟨_,rfl,?_⟩;have n0_:=zaa.mk (Kd.R_below (by (with_reducible repeat (first|apply Kd.R_alloc|apply Kd.R_drewN|apply Kd.R_drew));exact d6.out) hb);have n1_:=zaa.mk (zac (zB b8.out) hb);have n2_:=zaa.mk (zae (zL1 HB.out j2.out) hb);clear d6;clear b8;clear HB;have d6:=n0_;have b8:=n1_;have HB:=n2_;clear n0_ n1_ n2_;(try clear hb)))
            replace d6:=zaa.mk (Kd.R_drew d6.out)
            replace b8:=zaa.mk (zaM b8.out)
            replace HB:=zaa.mk (zai HB.out)
            have q47:(i9:Int)≤((l1.length:Int):Int):=of_decide_eq_true (by first|(with_reducible assumption)|assumption)
            obtain ⟨i047,hi047,_,hsz47,_⟩:=info_parts info57
            have hroom47:l1.length≤c1:=HC1.out
            have hC47:Kd.C k57 _ A1 l1.length l1:=HR1.out
            have hcut47:=cut_to (P:=Try.prog) 50 57 .i64 Try.underlying50 hi047 A1 l1.length c1 i9 (of_decide_eq_true (by first|(with_reducible assumption)|assumption)) q47 hroom47
            have hr47:=Kd.C_take (m:=(i9:Int).toNat) hC47 (by omega)
            have hy47:y306.length=(i9:Int).toNat:=(by rw [Ny306.out,List.length_take];omega)
            rw [← Ny306.out] at hr47
            rw [← hy47] at hcut47
            have HR309:=zaa.mk hr47
            have HC309:=zaa.mk (show y306.length≤c1 from by omega)
            clear hr47 hC47 hroom47 hi047 hsz47
            have KY47:=zaa.mk hy47
            clear hy47
            replace q47:=eq_true q47
            refine zbA (n:=10) (S:=fun w'=>w'.cell? ⟨b9,0,none⟩=some (.int .i64 f5)∧w'.cell? ⟨b9,1,none⟩=some (.int .i64 f6)∧w'.cell? ⟨b9,2,none⟩=some (.int .i64 f7)∧w'.cell? ⟨b9,3,none⟩=some (.int .i64 g9)∧w'.cell? ⟨b9,4,none⟩=some (.int .i64 i3)∧w'.cell? ⟨b9,5,none⟩=some (.int .i64 i4)∧w'.cell? ⟨b9,6,none⟩=some (.int .i64 i5)∧w'.cell? ⟨b9,7,none⟩=some (.int .i64 d8)∧w'.cell? ⟨b9,8,none⟩=some (.int .i64 i6)∧w'.cell? ⟨b9,9,none⟩=some (.int .i64 i7)∧w'.cell? ⟨b9,10,none⟩=some (.int .i64 e0)∧w'.cell? ⟨b9,11,none⟩=some (.int .i64 e5)∧w'.cell? ⟨b9,12,none⟩=some (.int .i64 e6)∧w'.cell? ⟨b9,13,none⟩=some (.int .i64 e7)∧w'.cell? ⟨b9,14,none⟩=some (.slice j5 d9.length j6)∧w'.cell? ⟨b9,15,none⟩=some (.bool e8)) (ds:=[]) #[false,false,false,false,false,false,false,false,false,false] (by kernel_rfl) rfl rfl (zD16 b8.out) (fun hHeld=>?_);refine zbn imageeditorlaw28_BrushBegins.tab5 imageeditorlaw28_BrushBegins.bits5 (fun HT_ HW_=>?_)
            generalize w45.drew=w46 at d6 b8 HB HR309 hHeld ⊢
            refine zpu 1 31 HT_.out ?_
            refine zpu 2 32 HT_.out ?_
            refine zpu 3 33 HT_.out ?_
            refine ztl 0 30 HT_.out HW_.out hHeld ?_
            refine zon 4 (some 34) HT_.out (fun K hK=>?_)
            refine zgo Try.func25 #[.agg #[.int .i64 f5,.int .i64 f6,.int .i64 f7,.int .i64 g9,.int .i64 i3,.int .i64 i4,.int .i64 i5,.int .i64 d8,.int .i64 i6,.int .i64 i7,.int .i64 e0,.int .i64 e5,.int .i64 e6,.int .i64 e7,.slice j5 d9.length j6,.bool e8],.slice A1 y306.length c1] ?_
            with_reducible refine (zaz.calls k f5 f6 f7 g9 i3 i4 i5 d8 i6 i7 e0 e5 e6 e7 _ _ d9 e8 _ _ y306 e9 p8 _ ?side1 ?side2 ?side3 ?side4 A15.out).mono ?_
            (case side1=>repeat (first|exact (Kd.C_below l8.out HB.out)|(with_reducible refine Kd.C_alloc ?_ _)|(with_reducible refine Kd.C_drewN ?_ _)|(with_reducible refine Kd.C_drew ?_)))
            (case side2=>exact l9.out)
            (case side3=>repeat (first|exact (Kd.C_below HR309.out HB.out)|(with_reducible refine Kd.C_alloc ?_ _)|(with_reducible refine Kd.C_drewN ?_ _)|(with_reducible refine Kd.C_drew ?_)))
            (case side4=>exact HC309.out)
            rintro e w48 ⟨v311,rfl,ho0,hb⟩
            refine ⟨_,rfl,?_⟩
            have n0_:=zaa.mk (Kd.R_elder' (by (with_reducible repeat (first|apply Kd.R_alloc|apply Kd.R_drewN|apply Kd.R_drew));exact d6.out) (Kd.R_base ho0) hb)
            have n1_:=zaa.mk (Kd.R_lower (Kd.R_new' ho0 (Kd.R_lt (by (with_reducible repeat (first|apply Kd.R_alloc|apply Kd.R_drewN|apply Kd.R_drew));exact d6.out))) (zbJ (zL1 HB.out j2.out)))
            have n2_:=zaa.mk (zac (zB b8.out) hb)
            have n3_:=zaa.mk (zae (zL1 HB.out j2.out) hb)
            clear d6
            clear b8
            clear HB
            have d6:=n0_
            have i8:=n1_
            have b8:=n2_
            have HB:=n3_
            clear n0_ n1_ n2_ n3_
            (try clear hb);(try clear hb2);(try clear hk);(try clear hi)
            (try clear ho0)
            refine hK.out _ _ (zD16 b8.out) (fun hHeld=>?_)
            clear hK K
            refine znm ?_
            refine zpu 5 29 HT_.out ?_
            refine zpu 6 35 HT_.out ?_
            refine zpu 7 36 HT_.out ?_
            refine zpu 8 9 HT_.out ?_
            refine zpu 9 10 HT_.out ?_
            refine zbT (zbB HT_.out (by kernel_rfl)) ?_
            obtain ⟨Ao49,co49,eo49⟩:=Kd.R_slice i8.out
            subst eo49
            obtain ⟨Ao50,co50,eo50⟩:=Kd.R_slice d6.out
            subst eo50
            have q51:((e9.length:Int):Int)≤((d5.length:Int):Int):=of_decide_eq_true (by first|(with_reducible assumption)|assumption)
            obtain ⟨i051,hi051,_,hsz51,_⟩:=info_parts info28
            have hroom51:d5.length≤co50:=(Kd.R_reads' d6.out).2.1
            have hC51:Kd.C k28 _ Ao50 d5.length d5:=(Kd.R_reads' d6.out).2.2
            have hcut51:=cut_to (P:=Try.prog) 51 28 .i64 Try.underlying51 hi051 Ao50 d5.length co50 (e9.length:Int) (of_decide_eq_true (by first|(with_reducible assumption)|assumption)) q51 hroom51
            have hr51:=Kd.C_take (m:=((e9.length:Int):Int).toNat) hC51 (by omega)
            have hy51:y314.length=((e9.length:Int):Int).toNat:=(by rw [Ny314.out,List.length_take];omega)
            rw [← Ny314.out] at hr51
            rw [← hy51] at hcut51
            have HR317:=zaa.mk hr51
            have HC317:=zaa.mk (show y314.length≤co50 from by omega)
            clear hr51 hC51 hroom51 hi051 hsz51
            have KY51:=zaa.mk hy51
            clear hy51
            have KL51:=zaa.mk (show ((e9.length:Int):Int).toNat≤d5.length from by omega)
            replace q51:=eq_true q51
            try go_wp2_with (first|((with_reducible refine zbK rfl ?_);refine zle26 ?_)|((with_reducible refine zbL rfl ?_);refine zle28 ?_)|((with_reducible refine zbM rfl ?_);refine zle57 ?_)|(go_at_call 28;(with_reducible refine (zaO.calls k _ _ e9 _ _ y314 true _ ?side1 ?side2 ?side3 ?side4 A21.out).mono ?_);(case side1=>repeat (first|exact (Kd.R_reads' i8.out).2.2|(with_reducible refine Kd.C_alloc ?_ _)|(with_reducible refine Kd.C_drewN ?_ _)|(with_reducible refine Kd.C_drew ?_)));(case side2=>exact (Kd.R_reads' i8.out).2.1);(case side3=>repeat (first|exact (by repeat (first|(with_reducible exact HR317.out)|(with_reducible refine Kd.C_alloc ?_ _)|(with_reducible refine Kd.C_drewN ?_ _)|(with_reducible refine Kd.C_drew ?_)|exact HR317.out))|(with_reducible refine Kd.C_alloc ?_ _)|(with_reducible refine Kd.C_drewN ?_ _)|(with_reducible refine Kd.C_drew ?_)));(case side4=>exact HC317.out);rintro e w' ⟨rfl,⟨nd,rfl⟩⟩))
            (try (rw [drewN_self w48];generalize hq_:World.drewN w48 _=w48;have n0_:zaa (Kd.R k28 28 w48 w.heap.size (fun k_=>some k_≠(.slice Ao49 e9.length co49:Value).ownBlock) (.slice Ao50 d5.length co50) d5):=⟨by rw [← hq_];exact (by (with_reducible repeat (first|apply Kd.R_alloc|apply Kd.R_drewN|apply Kd.R_drew));exact Kd.R_mono d6.out (fun _ hk=>hk.2))⟩;have n1_:zaa (Kd.R k28 28 w48 w.heap.size (fun k_=>some k_≠(.slice Ao50 d5.length co50:Value).ownBlock) (.slice Ao49 e9.length co49) e9):=⟨by rw [← hq_];exact (by (with_reducible repeat (first|apply Kd.R_alloc|apply Kd.R_drewN|apply Kd.R_drew));exact Kd.R_mono i8.out (fun _ hk=>hk.2))⟩;have n2_:zaa (w48.heap[b9]? = some (.cells #[.int .i64 f5,.int .i64 f6,.int .i64 f7,.int .i64 g9,.int .i64 i3,.int .i64 i4,.int .i64 i5,.int .i64 d8,.int .i64 i6,.int .i64 i7,.int .i64 e0,.int .i64 e5,.int .i64 e6,.int .i64 e7,.slice j5 d9.length j6,.bool e8] 26 (0,0))):=⟨by rw [← hq_];exact (zB b8.out)⟩;have n3_:zaa (Below w.heap.size w w48):=⟨by rw [← hq_];exact (zL1 HB.out j2.out)⟩;have n4_:zaa (Kd.C k28 w48 Ao50 y314.length y314):=⟨by rw [← hq_];exact (by repeat (first|(with_reducible exact HR317.out)|(with_reducible refine Kd.C_alloc ?_ _)|(with_reducible refine Kd.C_drewN ?_ _)|(with_reducible refine Kd.C_drew ?_)|exact HR317.out))⟩;clear d6 i8 b8 HB HR317 hq_;have d6:=n0_;have i8:=n1_;have b8:=n2_;have HB:=n3_;have HR317:=n4_;clear n0_ n1_ n2_ n3_ n4_))
            replace d6:=zaa.mk (Kd.R_drew d6.out)
            replace i8:=zaa.mk (Kd.R_drew i8.out)
            replace b8:=zaa.mk (zaM b8.out)
            replace HR317:=zaa.mk (Kd.C_drew HR317.out)
            replace HB:=zaa.mk (zai HB.out)
            refine zbA (n:=29) (S:=fun w'=>w'.cell? ⟨b9,0,none⟩=some (.int .i64 f5)∧w'.cell? ⟨b9,1,none⟩=some (.int .i64 f6)∧w'.cell? ⟨b9,2,none⟩=some (.int .i64 f7)∧w'.cell? ⟨b9,3,none⟩=some (.int .i64 g9)∧w'.cell? ⟨b9,4,none⟩=some (.int .i64 i3)∧w'.cell? ⟨b9,5,none⟩=some (.int .i64 i4)∧w'.cell? ⟨b9,6,none⟩=some (.int .i64 i5)∧w'.cell? ⟨b9,7,none⟩=some (.int .i64 d8)∧w'.cell? ⟨b9,8,none⟩=some (.int .i64 i6)∧w'.cell? ⟨b9,9,none⟩=some (.int .i64 i7)∧w'.cell? ⟨b9,10,none⟩=some (.int .i64 e0)∧w'.cell? ⟨b9,11,none⟩=some (.int .i64 e5)∧w'.cell? ⟨b9,12,none⟩=some (.int .i64 e6)∧w'.cell? ⟨b9,13,none⟩=some (.int .i64 e7)∧w'.cell? ⟨b9,14,none⟩=some (.slice j5 d9.length j6)∧w'.cell? ⟨b9,15,none⟩=some (.bool e8)) (ds:=[]) #[false,false,false,false,false,false,false,false,false,false,false,false,false,false,false,false,false,false,false,false,false,false,false,false,false,false,false,false,false] (by kernel_rfl) rfl rfl (zD16 b8.out) (fun hHeld=>?_);refine zbn imageeditorlaw28_BrushBegins.tab8 imageeditorlaw28_BrushBegins.bits8 (fun HT_ HW_=>?_)
            generalize w48.drew=w52 at d6 i8 b8 HR317 HB hHeld ⊢
            refine zpu 0 60 HT_.out ?_
            refine ztl 1 61 HT_.out HW_.out hHeld ?_
            refine zpu 2 62 HT_.out ?_
            refine zpu 3 63 HT_.out ?_
            refine zpn 4 64 HT_.out ?_
            refine zpn 5 65 HT_.out ?_
            refine zpn 6 66 HT_.out ?_
            refine zpn 7 67 HT_.out ?_
            refine zpn 8 68 HT_.out ?_
            refine zpn 9 69 HT_.out ?_
            refine zpn 10 70 HT_.out ?_
            refine zpn 11 71 HT_.out ?_
            refine zpn 12 72 HT_.out ?_
            refine zpn 13 73 HT_.out ?_
            refine zpn 14 74 HT_.out ?_
            refine zpn 15 75 HT_.out ?_
            refine zpn 16 76 HT_.out ?_
            refine zpn 17 77 HT_.out ?_
            refine zpn 18 78 HT_.out ?_
            refine zpn 19 79 HT_.out ?_
            refine zpn 20 80 HT_.out ?_
            refine zpn 21 81 HT_.out ?_
            refine zpn 22 82 HT_.out ?_
            refine zpn 23 83 HT_.out ?_
            refine zpu 24 84 HT_.out ?_
            refine zpu 25 85 HT_.out ?_
            refine zon 26 (some 86) HT_.out (fun K hK=>?_)
            refine zgo Try.func26 #[] ?_
            with_reducible refine (zaw.calls k  j8 _ A41.out).mono ?_
            rintro e w53 ⟨rfl,hb⟩
            refine ⟨_,rfl,?_⟩
            have n0_:=zaa.mk (Kd.R_below (by (with_reducible repeat (first|apply Kd.R_alloc|apply Kd.R_drewN|apply Kd.R_drew));exact d6.out) hb)
            have n1_:=zaa.mk (Kd.R_below (by (with_reducible repeat (first|apply Kd.R_alloc|apply Kd.R_drewN|apply Kd.R_drew));exact i8.out) hb)
            have n2_:=zaa.mk (zac (zB b8.out) hb)
            have n3_:=zaa.mk (Kd.C_below (by repeat (first|(with_reducible exact HR317.out)|(with_reducible refine Kd.C_alloc ?_ _)|(with_reducible refine Kd.C_drewN ?_ _)|(with_reducible refine Kd.C_drew ?_)|exact HR317.out)) hb)
            have n4_:=zaa.mk (zae (zL1 HB.out j2.out) hb)
            clear d6
            clear i8
            clear b8
            clear HR317
            clear HB
            have d6:=n0_
            have i8:=n1_
            have b8:=n2_
            have HR317:=n3_
            have HB:=n4_
            clear n0_ n1_ n2_ n3_ n4_
            (try clear hb)
            refine hK.out _ _ (zD16 b8.out) (fun hHeld=>?_)
            clear hK K
            refine znm ?_
            refine zpu 27 87 HT_.out ?_
            refine zpu 28 6 HT_.out ?_
            refine zbT (zbB HT_.out (by kernel_rfl)) ?_
            try go_wp2
            go_ret
            exact zG
          ·replace c22:=Bool.eq_false_iff.mpr c22
           subst c22
           have H1:(none)=some r:=by rw [if_neg (show ¬ (false=true) by decide)] at H;exact H
           clear H
           have H:=H1
           clear H1
           exact absurd H (by simp)
         ·rw [if_neg c20] at H
          exact absurd H (by simp)
        ·rw [if_neg c19] at H
         exact absurd H (by simp)
     ·rw [if_neg c16] at H
      exact absurd H (by simp)
    ·rw [if_neg c14] at H
     exact absurd H (by simp)
   ·rw [if_neg c13] at H
    exact absurd H (by simp)
 ·rw [if_neg c5] at H
  have c5b0:(l7==0)=false:=beq_eq_false_iff_ne.mpr c5
  have c5b1:(l7 != 0)=true:=bne_iff_ne.mpr c5
  obtain ⟨p7,A54,H⟩:=zob H
  replace H:(some p7)=some r:=H
  obtain rfl:=Option.some.inj H
  go_enter Try.func8,Try.ntmps8
  go_wp2_with (first|((with_reducible refine zbK rfl ?_);refine zle26 ?_)|((with_reducible refine zbL rfl ?_);refine zle28 ?_)|((with_reducible refine zbM rfl ?_);refine zle57 ?_)|((with_reducible refine zaC (N:=3) rfl ?_);(try (refine zcq (by rfl) ?_;dsimp only));refine zbx (N:=3) #[.int .i64 f5,.int .i64 f6,.int .i64 f7,.int .i64 g9,.int .i64 i3,.int .i64 i4,.int .i64 i5,.int .i64 d8,.int .i64 i6,.int .i64 i7,.int .i64 e0,.int .i64 e5,.int .i64 e6,.int .i64 e7,.slice j5 d9.length j6,.bool e8] 26 ?_;intro b9 hg w55 hbox hb;have n0_:=zaa.mk (zae (zL HB.out) hb);have n1_:=zaa.mk (hbox);have n2_:=zaa.mk ((zS hg (zL HB.out):w.heap.size≤b9));have n3_:=n2_;clear HB;have HB:=n0_;have b8:=n1_;have p9:=n2_;have j2:=n3_;clear n0_ n1_ n2_ n3_;clear hb hbox hg;obtain ⟨I5,I6,I7,I8,I9,J0,J1,J2,J3,J4,z9,B0,B3,B7,C0,C1⟩:=zD16 b8.out;obtain ⟨J5,J6,J7,J8,J9,K0,K1,K2,K3,K4,C2,C3,C4,C5,C6,C7⟩:=zE16 b8.out)|((with_reducible refine zah (f:=25) rfl ?_);refine zgl 14 Try.func25 #[.agg #[.int .i64 f5,.int .i64 f6,.int .i64 f7,.int .i64 g9,.int .i64 i3,.int .i64 i4,.int .i64 i5,.int .i64 d8,.int .i64 i6,.int .i64 i7,.int .i64 e0,.int .i64 e5,.int .i64 e6,.int .i64 e7,.slice j5 d9.length j6,.bool e8],.slice A1 l1.length c1] ?_;(with_reducible refine (zaz.calls k f5 f6 f7 g9 i3 i4 i5 d8 i6 i7 e0 e5 e6 e7 _ _ d9 e8 _ _ l1 d5 l7 _ ?side1 ?side2 ?side3 ?side4 A4.out).mono ?_);(case side1=>repeat (first|exact (Kd.C_below l8.out HB.out)|(with_reducible refine Kd.C_alloc ?_ _)|(with_reducible refine Kd.C_drewN ?_ _)|(with_reducible refine Kd.C_drew ?_)));(case side2=>exact l9.out);(case side3=>repeat (first|exact (Kd.C_below HR1.out HB.out)|(with_reducible refine Kd.C_alloc ?_ _)|(with_reducible refine Kd.C_drewN ?_ _)|(with_reducible refine Kd.C_drew ?_)));(case side4=>exact HC1.out);rintro e w57 ⟨v301,rfl,ho0,hb⟩;refine ⟨_,rfl,?_⟩;have d6:=zaa.mk (Kd.R_lower ho0 (zbJ (zL1 HB.out j2.out)));replace b8:=zaa.mk (zac (zB b8.out) hb);replace HB:=zaa.mk (zae (zL1 HB.out j2.out) hb);(try clear hb);(try clear hb2);(try clear hk);(try clear hi);(try clear ho0))|((with_reducible refine zah (f:=26) rfl ?_);refine zgl 24 Try.func26 #[] ?_;(with_reducible refine (zaw.calls k  p7 _ A54.out).mono ?_);rintro e w58 ⟨rfl,hb⟩;refine ⟨_,rfl,?_⟩;have n0_:=zaa.mk (Kd.R_below (by (with_reducible repeat (first|apply Kd.R_alloc|apply Kd.R_drewN|apply Kd.R_drew));exact d6.out) hb);have n1_:=zaa.mk (zac (zB b8.out) hb);have n2_:=zaa.mk (zae (zL1 HB.out j2.out) hb);clear d6;clear b8;clear HB;have d6:=n0_;have b8:=n1_;have HB:=n2_;clear n0_ n1_ n2_;(try clear hb)))
  go_ret
  exact zG
end Go.Proofs.Ytlilncnoohfcdaa.Br
