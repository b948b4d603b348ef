
import Derived.Test.YtlilncnoohfcdaaDax0
import Derived.Test.YtlilncnoohfcdaaDax8
namespace Go.Proofs.Ytlilncnoohfcdaa.Da
open Go.RowKit Go.Proofs.YtlilncnoohfcdaaW.PrintWords Go.Proofs.YtlilncnoohfcdaaW.PrintLast Go.Proofs.YtlilncnoohfcdaaW.PrintMore
attribute [local go_sem] zbr zbu zbD zbH zbq zbp zbv zbt   
set_option linter.unusedVariables false
set_option linter.unusedSimpArgs false
/-! ### rect_known: function 70 -/
def zcA.f (b8:Int) (b9:Int) (d5:Int) (d6:Int):Option (Int×Int×Int×Int):=(zcv.f b8 b9 d5 d6).bind fun f5=>(if f5=true then (some (b8,b9,d5,d6)) else (some (0,0,0,0)))
set_option maxHeartbeats 8000000 in
set_option maxRecDepth 100000 in
theorem zcA.calls (b8:Int) (b9:Int) (d5:Int) (d6:Int) (r1:Int) (r2:Int) (r3:Int) (r4:Int) (w:World) (h:zcA.f b8 b9 d5 d6=some (r1,r2,r3,r4)) :
 Calls Try.prog 70 #[.agg #[.int .i64 b8,.int .i64 b9,.int .i64 d5,.int .i64 d6]] w fun e w'=>e = .returned (.agg #[.int .i64 r1,.int .i64 r2,.int .i64 r3,.int .i64 r4])∧Below w.heap.size w w':=by
 have hu32:=Try.underlying32
 have HB:=zaa.mk (Below.refl w.heap.size w)
 have H:((zcv.f b8 b9 d5 d6).bind fun f5=>(if f5=true then (some (b8,b9,d5,d6)) else (some (0,0,0,0))))=some (r1,r2,r3,r4):=h
 clear h
 obtain ⟨f5,A2,H⟩:=zob H
 replace H:(if f5=true then (some (b8,b9,d5,d6)) else (some (0,0,0,0)))=some (r1,r2,r3,r4):=H
 by_cases c3:f5=true
 ·subst c3
  have H1:(some (b8,b9,d5,d6))=some (r1,r2,r3,r4):=by rw [if_pos rfl] at H;exact H
  clear H
  have H:=H1
  clear H1
  simp only [Option.some.injEq,Prod.mk.injEq] at H
  obtain ⟨rfl,rfl,rfl,rfl⟩:=H
  go_enter Try.func70,Try.ntmps70
  go_wp2_with (first|((with_reducible refine zaC (N:=1) rfl ?_);refine zbx (N:=1) #[.int .i64 b8,.int .i64 b9,.int .i64 d5,.int .i64 d6] 32 ?_;intro f6 hg w4 hbox hb;have n0_:=zaa.mk (zae (zL HB.out) hb);have n1_:=zaa.mk (hbox);have n2_:=zaa.mk ((zS hg (zL HB.out):w.heap.size≤f6));have n3_:=n2_;clear HB;have HB:=n0_;have d7:=n1_;have k8:=n2_;have e0:=n3_;clear n0_ n1_ n2_ n3_;clear hb hbox hg)|((with_reducible refine zaC (N:=2) rfl ?_);refine zbx (N:=2) #[.int .i64 0,.int .i64 0,.int .i64 0,.int .i64 0] 32 ?_;intro e8 hg w5 hbox hb;have n0_:=zaa.mk (zac (zB d7.out) hb);have n1_:=zaa.mk (zae (zL1 HB.out e0.out) hb);have n2_:=zaa.mk (hbox);have n3_:=zaa.mk ((zS hg (zL1 HB.out e0.out):w.heap.size≤e8));have n4_:=n3_;have n5_:=zaa.mk (zne hg (zB d7.out));have n6_:=zaa.mk (zen hg (zB d7.out));clear d7;clear HB;have d7:=n0_;have HB:=n1_;have d9:=n2_;have k9:=n3_;have f7:=n4_;have e5:=n5_;have e6:=n6_;clear n0_ n1_ n2_ n3_ n4_ n5_ n6_;clear hb hbox hg;have hnb6:=e5.out;have hnc6:=e6.out;obtain ⟨i5,i6,i7,i8⟩:=zD4 d7.out;obtain ⟨i9,j2,j3,j4⟩:=zE4 d7.out)|((with_reducible refine zah (f:=59) rfl ?_);refine zgl 4 Try.func59 #[.agg #[.int .i64 b8,.int .i64 b9,.int .i64 d5,.int .i64 d6]] ?_;(with_reducible refine (zcv.calls b8 b9 d5 d6 true _ A2.out).mono ?_);rintro e w8 ⟨rfl,hb⟩;refine ⟨_,rfl,?_⟩;replace d7:=zaa.mk (zac (zB d7.out) hb);replace d9:=zaa.mk (zac (zB d9.out) hb);replace HB:=zaa.mk (zae (zL2 HB.out e0.out f7.out) hb);(try clear hb);obtain ⟨j5,j6,j7,j8⟩:=zD4 d7.out;obtain ⟨j9,k3,k4,k5⟩:=zE4 d7.out;obtain ⟨l4,l5,l6,l7⟩:=zD4 d9.out;obtain ⟨l8,l9,m5,m6⟩:=zE4 d9.out))
  refine bodyPost_ret (results_cell_row rfl _ _ e8 32 #[.int .i64 b8,.int .i64 b9,.int .i64 d5,.int .i64 d6] (0,0) _ rfl (by exact zB (zp4 (zB d9.out) _ _ _ _)) Try.underlying32 rfl (by kernel_rfl)) rfl ?_
  exact zG
 ·replace c3:=Bool.eq_false_iff.mpr c3
  subst c3
  have H1:(some (0,0,0,0))=some (r1,r2,r3,r4):=by rw [if_neg (show ¬ (false=true) by decide)] at H;exact H
  clear H
  have H:=H1
  clear H1
  simp only [Option.some.injEq,Prod.mk.injEq] at H
  obtain ⟨rfl,rfl,rfl,rfl⟩:=H
  go_enter Try.func70,Try.ntmps70
  go_wp2_with (first|((with_reducible refine zaC (N:=1) rfl ?_);refine zbx (N:=1) #[.int .i64 b8,.int .i64 b9,.int .i64 d5,.int .i64 d6] 32 ?_;intro f6 hg w11 hbox hb;have n0_:=zaa.mk (zae (zL HB.out) hb);have n1_:=zaa.mk (hbox);have n2_:=zaa.mk ((zS hg (zL HB.out):w.heap.size≤f6));have n3_:=n2_;clear HB;have HB:=n0_;have d7:=n1_;have k8:=n2_;have e0:=n3_;clear n0_ n1_ n2_ n3_;clear hb hbox hg)|((with_reducible refine zaC (N:=2) rfl ?_);refine zbx (N:=2) #[.int .i64 0,.int .i64 0,.int .i64 0,.int .i64 0] 32 ?_;intro e8 hg w12 hbox hb;have n0_:=zaa.mk (zac (zB d7.out) hb);have n1_:=zaa.mk (zae (zL1 HB.out e0.out) hb);have n2_:=zaa.mk (hbox);have n3_:=zaa.mk ((zS hg (zL1 HB.out e0.out):w.heap.size≤e8));have n4_:=n3_;have n5_:=zaa.mk (zne hg (zB d7.out));have n6_:=zaa.mk (zen hg (zB d7.out));clear d7;clear HB;have d7:=n0_;have HB:=n1_;have d9:=n2_;have k9:=n3_;have f7:=n4_;have e5:=n5_;have e6:=n6_;clear n0_ n1_ n2_ n3_ n4_ n5_ n6_;clear hb hbox hg;have hnb13:=e5.out;have hnc13:=e6.out;obtain ⟨m7,m8,m9,n0⟩:=zD4 d7.out;obtain ⟨n3,n4,n5,n6⟩:=zE4 d7.out)|((with_reducible refine zah (f:=59) rfl ?_);refine zgl 4 Try.func59 #[.agg #[.int .i64 b8,.int .i64 b9,.int .i64 d5,.int .i64 d6]] ?_;(with_reducible refine (zcv.calls b8 b9 d5 d6 false _ A2.out).mono ?_);rintro e w15 ⟨rfl,hb⟩;refine ⟨_,rfl,?_⟩;replace d7:=zaa.mk (zac (zB d7.out) hb);replace d9:=zaa.mk (zac (zB d9.out) hb);replace HB:=zaa.mk (zae (zL2 HB.out e0.out f7.out) hb);(try clear hb);obtain ⟨n7,n8,n9,o2⟩:=zD4 d9.out;obtain ⟨o3,o4,o5,o6⟩:=zE4 d9.out))
  refine bodyPost_ret (results_cell_row rfl _ _ e8 32 #[.int .i64 0,.int .i64 0,.int .i64 0,.int .i64 0] (0,0) _ rfl (by exact zB (zp4 (zB d9.out) _ _ _ _)) Try.underlying32 rfl (by kernel_rfl)) rfl ?_
  exact zG
def zbG.f (b8:Int) (b9:Int) (d5:Int) (d6:Int):Option (Bool):=(zcA.f b8 b9 d5 d6).bind fun e9=>(if e9.2.2.1=0 then (some true) else (some (e9.2.2.2==0)))
set_option maxHeartbeats 8000000 in
set_option maxRecDepth 100000 in
theorem zbG.calls (b8:Int) (b9:Int) (d5:Int) (d6:Int) (r:Bool) (w:World) (h:zbG.f b8 b9 d5 d6=some r) :
 Calls Try.prog 60 #[.agg #[.int .i64 b8,.int .i64 b9,.int .i64 d5,.int .i64 d6]] w fun e w'=>e = .returned (.bool r)∧Below w.heap.size w w':=by
 have hu32:=Try.underlying32
 have HB:=zaa.mk (Below.refl w.heap.size w)
 have H:((zcA.f b8 b9 d5 d6).bind fun e9=>(if e9.2.2.1=0 then (some true) else (some (e9.2.2.2==0))))=some r:=h
 clear h
 obtain ⟨⟨k6,k7,e7,i4⟩,A2,H⟩:=zob H
 replace H:(if e7=0 then (some true) else (some (i4==0)))=some r:=H
 by_cases c3:e7=0
 ·rw [if_pos c3] at H
  have c3b0:(e7==0)=true:=beq_iff_eq.mpr c3
  have c3b1:(e7 != 0)=false:=bne_eq_false_iff_eq.mpr c3
  clear c3
  obtain rfl:=Option.some.inj H
  go_enter Try.func60,Try.ntmps60
  go_wp2_with (first|((with_reducible refine zaC (N:=1) rfl ?_);refine zbx (N:=1) #[.int .i64 b8,.int .i64 b9,.int .i64 d5,.int .i64 d6] 32 ?_;intro g9 hg w4 hbox hb;have n0_:=zaa.mk (zae (zL HB.out) hb);have n1_:=zaa.mk (hbox);have n2_:=zaa.mk ((zS hg (zL HB.out):w.heap.size≤g9));have n3_:=n2_;clear HB;have HB:=n0_;have d8:=n1_;have l3:=n2_;have i3:=n3_;clear n0_ n1_ n2_ n3_;clear hb hbox hg;obtain ⟨s7,s8,s9,t6⟩:=zD4 d8.out;obtain ⟨t7,t8,t9,u3⟩:=zE4 d8.out)|((with_reducible refine zah (f:=70) rfl ?_);refine zgl 4 Try.func70 #[.agg #[.int .i64 b8,.int .i64 b9,.int .i64 d5,.int .i64 d6]] ?_;(with_reducible refine (zcA.calls b8 b9 d5 d6 k6 k7 e7 i4 _ A2.out).mono ?_);rintro e w6 ⟨rfl,hb⟩;refine ⟨_,rfl,?_⟩;replace d8:=zaa.mk (zac (zB d8.out) hb);replace HB:=zaa.mk (zae (zL1 HB.out i3.out) hb);(try clear hb);obtain ⟨i5,i6,i7,i8⟩:=zD4 d8.out;obtain ⟨i9,j2,j3,j4⟩:=zE4 d8.out))
  go_ret
  exact zG
 ·rw [if_neg c3] at H
  have c3b0:(e7==0)=false:=beq_eq_false_iff_ne.mpr c3
  have c3b1:(e7 != 0)=true:=bne_iff_ne.mpr c3
  obtain rfl:=Option.some.inj H
  go_enter Try.func60,Try.ntmps60
  go_wp2_with (first|((with_reducible refine zaC (N:=1) rfl ?_);refine zbx (N:=1) #[.int .i64 b8,.int .i64 b9,.int .i64 d5,.int .i64 d6] 32 ?_;intro g9 hg w8 hbox hb;have n0_:=zaa.mk (zae (zL HB.out) hb);have n1_:=zaa.mk (hbox);have n2_:=zaa.mk ((zS hg (zL HB.out):w.heap.size≤g9));have n3_:=n2_;clear HB;have HB:=n0_;have d8:=n1_;have l3:=n2_;have i3:=n3_;clear n0_ n1_ n2_ n3_;clear hb hbox hg;obtain ⟨j5,j6,j7,j8⟩:=zD4 d8.out;obtain ⟨j9,k3,k4,k5⟩:=zE4 d8.out)|((with_reducible refine zah (f:=70) rfl ?_);refine zgl 4 Try.func70 #[.agg #[.int .i64 b8,.int .i64 b9,.int .i64 d5,.int .i64 d6]] ?_;(with_reducible refine (zcA.calls b8 b9 d5 d6 k6 k7 e7 i4 _ A2.out).mono ?_);rintro e w10 ⟨rfl,hb⟩;refine ⟨_,rfl,?_⟩;replace d8:=zaa.mk (zac (zB d8.out) hb);replace HB:=zaa.mk (zae (zL1 HB.out i3.out) hb);(try clear hb);obtain ⟨o7,o8,o9,p7⟩:=zD4 d8.out;obtain ⟨p8,p9,s5,s6⟩:=zE4 d8.out))
  go_ret
  exact zG
end Go.Proofs.Ytlilncnoohfcdaa.Da
