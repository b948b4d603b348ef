
import Derived.Test.YtlilncnoohfcdaaDax0
namespace Go.Proofs.Ytlilncnoohfcdaa.Da
open Go.RowKit Go.Proofs.YtlilncnoohfcdaaW.PrintWords Go.Proofs.YtlilncnoohfcdaaW.PrintLast Go.Proofs.YtlilncnoohfcdaaW.PrintMore
attribute [local go_sem] zbr zbu zbD zbH zbq zbp zbv zbt   
set_option linter.unusedVariables false
set_option linter.unusedSimpArgs false
/-! ### imageeditorref02_Valid: function 63 -/
def za9.f (b9:Int) (d5:Int) (b8:Int) (d6:Int):Option (Bool):=if b9<(-1048576) then (some false) else (if b9 > 1048576 then (some false) else (if d5<(-1048576) then (some false) else (if d5 > 1048576 then (some false) else (if b8≥0 then (if d6≥0 then (if b8≤(wrap64 (1048576 - b9)) then (some (decide (d6≤(wrap64 (1048576 - d5))))) else (some false)) else (some false)) else (some false)))))
set_option maxHeartbeats 8000000 in
set_option maxRecDepth 100000 in
theorem za9.calls (b9:Int) (d5:Int) (b8:Int) (d6:Int) (r:Bool) (w:World) (h:za9.f b9 d5 b8 d6=some r) :
 Calls Try.prog 63 #[.agg #[.int .i64 b9,.int .i64 d5,.int .i64 b8,.int .i64 d6]] w fun e w'=>e = .returned (.bool r)∧Below w.heap.size w w':=by
 have hu32:=Try.underlying32
 have HB:=zaa.mk (Below.refl w.heap.size w)
 have H:(if b9<(-1048576) then (some false) else (if b9 > 1048576 then (some false) else (if d5<(-1048576) then (some false) else (if d5 > 1048576 then (some false) else (if b8≥0 then (if d6≥0 then (if b8≤(wrap64 (1048576 - b9)) then (some (decide (d6≤(wrap64 (1048576 - d5))))) else (some false)) else (some false)) else (some false))))))=some r:=h
 clear h
 by_cases c2:b9<(-1048576)
 ·rw [if_pos c2] at H
  have c2b0:decide (b9<(-1048576))=true:=decide_eq_true c2
  clear c2
  obtain rfl:=Option.some.inj H
  go_enter Try.func63,Try.ntmps63
  go_wp2_with (first|((with_reducible refine zaC (N:=1) rfl ?_);refine zbx (N:=1) #[.int .i64 b9,.int .i64 d5,.int .i64 b8,.int .i64 d6] 32 ?_;intro d9 hg w3 hbox hb;have n0_:=zaa.mk (zae (zL HB.out) hb);have n1_:=zaa.mk (hbox);have n2_:=zaa.mk ((zS hg (zL HB.out):w.heap.size≤d9));have n3_:=n2_;clear HB;have HB:=n0_;have d7:=n1_;have e0:=n2_;have e5:=n3_;clear n0_ n1_ n2_ n3_;clear hb hbox hg;obtain ⟨t8,t9,u3,u4⟩:=zD4 d7.out;obtain ⟨u5,u6,u7,u9⟩:=zE4 d7.out))
  go_ret
  exact zG
 ·rw [if_neg c2] at H
  have c2b0:decide (b9<(-1048576))=false:=decide_eq_false c2
  clear c2
  by_cases c5:b9 > 1048576
  ·rw [if_pos c5] at H
   have c5b0:decide (1048576<b9)=true:=decide_eq_true c5
   clear c5
   obtain rfl:=Option.some.inj H
   go_enter Try.func63,Try.ntmps63
   go_wp2_with (first|((with_reducible refine zaC (N:=1) rfl ?_);refine zbx (N:=1) #[.int .i64 b9,.int .i64 d5,.int .i64 b8,.int .i64 d6] 32 ?_;intro d9 hg w6 hbox hb;have n0_:=zaa.mk (zae (zL HB.out) hb);have n1_:=zaa.mk (hbox);have n2_:=zaa.mk ((zS hg (zL HB.out):w.heap.size≤d9));have n3_:=n2_;clear HB;have HB:=n0_;have d7:=n1_;have e0:=n2_;have e5:=n3_;clear n0_ n1_ n2_ n3_;clear hb hbox hg;obtain ⟨y5,y6,y7,y8⟩:=zD4 d7.out;obtain ⟨y9,z1,z2,z3⟩:=zE4 d7.out))
   go_ret
   exact zG
  ·rw [if_neg c5] at H
   have c5b0:decide (1048576<b9)=false:=decide_eq_false c5
   clear c5
   by_cases c8:d5<(-1048576)
   ·rw [if_pos c8] at H
    have c8b0:decide (d5<(-1048576))=true:=decide_eq_true c8
    clear c8
    obtain rfl:=Option.some.inj H
    go_enter Try.func63,Try.ntmps63
    go_wp2_with (first|((with_reducible refine zaC (N:=1) rfl ?_);refine zbx (N:=1) #[.int .i64 b9,.int .i64 d5,.int .i64 b8,.int .i64 d6] 32 ?_;intro d9 hg w9 hbox hb;have n0_:=zaa.mk (zae (zL HB.out) hb);have n1_:=zaa.mk (hbox);have n2_:=zaa.mk ((zS hg (zL HB.out):w.heap.size≤d9));have n3_:=n2_;clear HB;have HB:=n0_;have d7:=n1_;have e0:=n2_;have e5:=n3_;clear n0_ n1_ n2_ n3_;clear hb hbox hg;obtain ⟨f5,f6,f7,g9⟩:=zD4 d7.out;obtain ⟨i3,i4,i5,i6⟩:=zE4 d7.out))
    go_ret
    exact zG
   ·rw [if_neg c8] at H
    have c8b0:decide (d5<(-1048576))=false:=decide_eq_false c8
    clear c8
    by_cases c11:d5 > 1048576
    ·rw [if_pos c11] at H
     have c11b0:decide (1048576<d5)=true:=decide_eq_true c11
     clear c11
     obtain rfl:=Option.some.inj H
     go_enter Try.func63,Try.ntmps63
     go_wp2_with (first|((with_reducible refine zaC (N:=1) rfl ?_);refine zbx (N:=1) #[.int .i64 b9,.int .i64 d5,.int .i64 b8,.int .i64 d6] 32 ?_;intro d9 hg w12 hbox hb;have n0_:=zaa.mk (zae (zL HB.out) hb);have n1_:=zaa.mk (hbox);have n2_:=zaa.mk ((zS hg (zL HB.out):w.heap.size≤d9));have n3_:=n2_;clear HB;have HB:=n0_;have d7:=n1_;have e0:=n2_;have e5:=n3_;clear n0_ n1_ n2_ n3_;clear hb hbox hg;obtain ⟨i7,i8,i9,j2⟩:=zD4 d7.out;obtain ⟨j3,j4,j5,j6⟩:=zE4 d7.out))
     go_ret
     exact zG
    ·rw [if_neg c11] at H
     have c11b0:decide (1048576<d5)=false:=decide_eq_false c11
     clear c11
     by_cases c14:b8≥0
     ·rw [if_pos c14] at H
      have c14b0:decide (0≤b8)=true:=decide_eq_true c14
      clear c14
      by_cases c15:d6≥0
      ·rw [if_pos c15] at H
       have c15b0:decide (0≤d6)=true:=decide_eq_true c15
       clear c15
       by_cases c16:b8≤(wrap64 (1048576 - b9))
       ·rw [if_pos c16] at H
        have c16b0:decide (b8≤(wrap64 (1048576 - b9)))=true:=decide_eq_true c16
        clear c16
        obtain rfl:=Option.some.inj H
        go_enter Try.func63,Try.ntmps63
        go_wp2_with (first|((with_reducible refine zaC (N:=1) rfl ?_);refine zbx (N:=1) #[.int .i64 b9,.int .i64 d5,.int .i64 b8,.int .i64 d6] 32 ?_;intro d9 hg w17 hbox hb;have n0_:=zaa.mk (zae (zL HB.out) hb);have n1_:=zaa.mk (hbox);have n2_:=zaa.mk ((zS hg (zL HB.out):w.heap.size≤d9));have n3_:=n2_;clear HB;have HB:=n0_;have d7:=n1_;have e0:=n2_;have e5:=n3_;clear n0_ n1_ n2_ n3_;clear hb hbox hg;obtain ⟨j7,j8,j9,k3⟩:=zD4 d7.out;obtain ⟨k4,k5,k6,k7⟩:=zE4 d7.out))
        go_ret
        exact zG
       ·rw [if_neg c16] at H
        have c16b0:decide (b8≤(wrap64 (1048576 - b9)))=false:=decide_eq_false c16
        clear c16
        obtain rfl:=Option.some.inj H
        go_enter Try.func63,Try.ntmps63
        go_wp2_with (first|((with_reducible refine zaC (N:=1) rfl ?_);refine zbx (N:=1) #[.int .i64 b9,.int .i64 d5,.int .i64 b8,.int .i64 d6] 32 ?_;intro d9 hg w19 hbox hb;have n0_:=zaa.mk (zae (zL HB.out) hb);have n1_:=zaa.mk (hbox);have n2_:=zaa.mk ((zS hg (zL HB.out):w.heap.size≤d9));have n3_:=n2_;clear HB;have HB:=n0_;have d7:=n1_;have e0:=n2_;have e5:=n3_;clear n0_ n1_ n2_ n3_;clear hb hbox hg;obtain ⟨k8,k9,l3,l4⟩:=zD4 d7.out;obtain ⟨l5,l6,l7,l8⟩:=zE4 d7.out))
        go_ret
        exact zG
      ·rw [if_neg c15] at H
       have c15b0:decide (0≤d6)=false:=decide_eq_false c15
       clear c15
       obtain rfl:=Option.some.inj H
       go_enter Try.func63,Try.ntmps63
       go_wp2_with (first|((with_reducible refine zaC (N:=1) rfl ?_);refine zbx (N:=1) #[.int .i64 b9,.int .i64 d5,.int .i64 b8,.int .i64 d6] 32 ?_;intro d9 hg w21 hbox hb;have n0_:=zaa.mk (zae (zL HB.out) hb);have n1_:=zaa.mk (hbox);have n2_:=zaa.mk ((zS hg (zL HB.out):w.heap.size≤d9));have n3_:=n2_;clear HB;have HB:=n0_;have d7:=n1_;have e0:=n2_;have e5:=n3_;clear n0_ n1_ n2_ n3_;clear hb hbox hg;obtain ⟨l9,m5,m6,m7⟩:=zD4 d7.out;obtain ⟨m8,m9,n0,n3⟩:=zE4 d7.out))
       go_ret
       exact zG
     ·rw [if_neg c14] at H
      have c14b0:decide (0≤b8)=false:=decide_eq_false c14
      clear c14
      obtain rfl:=Option.some.inj H
      go_enter Try.func63,Try.ntmps63
      go_wp2_with (first|((with_reducible refine zaC (N:=1) rfl ?_);refine zbx (N:=1) #[.int .i64 b9,.int .i64 d5,.int .i64 b8,.int .i64 d6] 32 ?_;intro d9 hg w23 hbox hb;have n0_:=zaa.mk (zae (zL HB.out) hb);have n1_:=zaa.mk (hbox);have n2_:=zaa.mk ((zS hg (zL HB.out):w.heap.size≤d9));have n3_:=n2_;clear HB;have HB:=n0_;have d7:=n1_;have e0:=n2_;have e5:=n3_;clear n0_ n1_ n2_ n3_;clear hb hbox hg;obtain ⟨n4,n5,n6,n7⟩:=zD4 d7.out;obtain ⟨n8,n9,o2,o3⟩:=zE4 d7.out))
      go_ret
      exact zG
def za1.f (b9:Int) (d5:Int) (b8:Int) (d6:Int):Option (Bool):=(za9.f b9 d5 b8 d6).bind fun e8=>(if e8=true then (if b8=0 then (some true) else (some (d6==0))) else (some true))
set_option maxHeartbeats 8000000 in
set_option maxRecDepth 100000 in
theorem za1.calls (b9:Int) (d5:Int) (b8:Int) (d6:Int) (r:Bool) (w:World) (h:za1.f b9 d5 b8 d6=some r) :
 Calls Try.prog 64 #[.agg #[.int .i64 b9,.int .i64 d5,.int .i64 b8,.int .i64 d6]] w fun e w'=>e = .returned (.bool r)∧Below w.heap.size w w':=by
 have hu32:=Try.underlying32
 have HB:=zaa.mk (Below.refl w.heap.size w)
 have H:((za9.f b9 d5 b8 d6).bind fun e8=>(if e8=true then (if b8=0 then (some true) else (some (d6==0))) else (some true)))=some r:=h
 clear h
 obtain ⟨e8,A2,H⟩:=zob H
 replace H:(if e8=true then (if b8=0 then (some true) else (some (d6==0))) else (some true))=some r:=H
 by_cases c3:e8=true
 ·subst c3
  have H1:(if b8=0 then (some true) else (some (d6==0)))=some r:=by rw [if_pos rfl] at H;exact H
  clear H
  have H:=H1
  clear H1
  by_cases c4:b8=0
  ·rw [if_pos c4] at H
   have c4b0:(b8==0)=true:=beq_iff_eq.mpr c4
   have c4b1:(b8 != 0)=false:=bne_eq_false_iff_eq.mpr c4
   clear c4
   obtain rfl:=Option.some.inj H
   go_enter Try.func64,Try.ntmps64
   go_wp2_with (first|((with_reducible refine zaC (N:=1) rfl ?_);refine zbx (N:=1) #[.int .i64 b9,.int .i64 d5,.int .i64 b8,.int .i64 d6] 32 ?_;intro e6 hg w5 hbox hb;have n0_:=zaa.mk (zae (zL HB.out) hb);have n1_:=zaa.mk (hbox);have n2_:=zaa.mk ((zS hg (zL HB.out):w.heap.size≤e6));have n3_:=n2_;clear HB;have HB:=n0_;have d8:=n1_;have e9:=n2_;have e7:=n3_;clear n0_ n1_ n2_ n3_;clear hb hbox hg;obtain ⟨z4,z5,z6,z7⟩:=zD4 d8.out;obtain ⟨z8,z9,B0,B3⟩:=zE4 d8.out)|((with_reducible refine zah (f:=63) rfl ?_);refine zgl 4 Try.func63 #[.agg #[.int .i64 b9,.int .i64 d5,.int .i64 b8,.int .i64 d6]] ?_;(with_reducible refine (za9.calls b9 d5 b8 d6 true _ A2.out).mono ?_);rintro e w7 ⟨rfl,hb⟩;refine ⟨_,rfl,?_⟩;replace d8:=zaa.mk (zac (zB d8.out) hb);replace HB:=zaa.mk (zae (zL1 HB.out e7.out) hb);(try clear hb);obtain ⟨B7,C0,C1,C2⟩:=zD4 d8.out;obtain ⟨C3,C4,C5,C6⟩:=zE4 d8.out))
   go_ret
   exact zG
  ·rw [if_neg c4] at H
   have c4b0:(b8==0)=false:=beq_eq_false_iff_ne.mpr c4
   have c4b1:(b8 != 0)=true:=bne_iff_ne.mpr c4
   obtain rfl:=Option.some.inj H
   go_enter Try.func64,Try.ntmps64
   go_wp2_with (first|((with_reducible refine zaC (N:=1) rfl ?_);refine zbx (N:=1) #[.int .i64 b9,.int .i64 d5,.int .i64 b8,.int .i64 d6] 32 ?_;intro e6 hg w9 hbox hb;have n0_:=zaa.mk (zae (zL HB.out) hb);have n1_:=zaa.mk (hbox);have n2_:=zaa.mk ((zS hg (zL HB.out):w.heap.size≤e6));have n3_:=n2_;clear HB;have HB:=n0_;have d8:=n1_;have e9:=n2_;have e7:=n3_;clear n0_ n1_ n2_ n3_;clear hb hbox hg;obtain ⟨f5,f6,f7,g9⟩:=zD4 d8.out;obtain ⟨i3,i4,i5,i6⟩:=zE4 d8.out)|((with_reducible refine zah (f:=63) rfl ?_);refine zgl 4 Try.func63 #[.agg #[.int .i64 b9,.int .i64 d5,.int .i64 b8,.int .i64 d6]] ?_;(with_reducible refine (za9.calls b9 d5 b8 d6 true _ A2.out).mono ?_);rintro e w11 ⟨rfl,hb⟩;refine ⟨_,rfl,?_⟩;replace d8:=zaa.mk (zac (zB d8.out) hb);replace HB:=zaa.mk (zae (zL1 HB.out e7.out) hb);(try clear hb);obtain ⟨o4,o5,o6,o7⟩:=zD4 d8.out;obtain ⟨o8,o9,p7,p8⟩:=zE4 d8.out))
   go_ret
   exact zG
 ·replace c3:=Bool.eq_false_iff.mpr c3
  subst c3
  have H1:(some true)=some r:=by rw [if_neg (show ¬ (false=true) by decide)] at H;exact H
  clear H
  have H:=H1
  clear H1
  obtain rfl:=Option.some.inj H
  go_enter Try.func64,Try.ntmps64
  go_wp2_with (first|((with_reducible refine zaC (N:=1) rfl ?_);refine zbx (N:=1) #[.int .i64 b9,.int .i64 d5,.int .i64 b8,.int .i64 d6] 32 ?_;intro e6 hg w13 hbox hb;have n0_:=zaa.mk (zae (zL HB.out) hb);have n1_:=zaa.mk (hbox);have n2_:=zaa.mk ((zS hg (zL HB.out):w.heap.size≤e6));have n3_:=n2_;clear HB;have HB:=n0_;have d8:=n1_;have e9:=n2_;have e7:=n3_;clear n0_ n1_ n2_ n3_;clear hb hbox hg;obtain ⟨p9,s5,s6,s7⟩:=zD4 d8.out;obtain ⟨s8,s9,t6,t7⟩:=zE4 d8.out)|((with_reducible refine zah (f:=63) rfl ?_);refine zgl 4 Try.func63 #[.agg #[.int .i64 b9,.int .i64 d5,.int .i64 b8,.int .i64 d6]] ?_;(with_reducible refine (za9.calls b9 d5 b8 d6 false _ A2.out).mono ?_);rintro e w15 ⟨rfl,hb⟩;refine ⟨_,rfl,?_⟩;replace d8:=zaa.mk (zac (zB d8.out) hb);replace HB:=zaa.mk (zae (zL1 HB.out e7.out) hb);(try clear hb)))
  go_ret
  exact zG
end Go.Proofs.Ytlilncnoohfcdaa.Da
