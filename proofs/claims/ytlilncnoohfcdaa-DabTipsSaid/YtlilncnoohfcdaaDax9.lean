
import Derived.Test.YtlilncnoohfcdaaDax0
import Derived.Test.YtlilncnoohfcdaaDax8
namespace Go.Proofs.Ytlilncnoohfcdaa.Da
open Go.RowKit Go.Proofs.YtlilncnoohfcdaaW.PrintWords Go.Proofs.YtlilncnoohfcdaaW.PrintLast Go.Proofs.YtlilncnoohfcdaaW.PrintMore
attribute [local go_sem] max2_int min2_int zbo zbp zbc zbd zbj zbk   
set_option linter.unusedVariables false
set_option linter.unusedSimpArgs false
/-! ### rect_known: function 70 -/
def zbJ.f (a0_0:Int) (a0_1:Int) (a0_2:Int) (a0_3:Int):Option (Int×Int×Int×Int):=(zbu.f a0_0 a0_1 a0_2 a0_3).bind fun t211=>(if t211=true then (some (a0_0,a0_1,a0_2,a0_3)) else (some (0,0,0,0)))
set_option maxHeartbeats 8000000 in
set_option maxRecDepth 100000 in
theorem zbJ.calls (a0_0:Int) (a0_1:Int) (a0_2:Int) (a0_3:Int) (r1:Int) (r2:Int) (r3:Int) (r4:Int) (w:World) (h:zbJ.f a0_0 a0_1 a0_2 a0_3=some (r1,r2,r3,r4)) :
 Calls Try.prog 70 #[.agg #[.int .i64 a0_0,.int .i64 a0_1,.int .i64 a0_2,.int .i64 a0_3]] w fun e w'=>e = .returned (.agg #[.int .i64 r1,.int .i64 r2,.int .i64 r3,.int .i64 r4])∧Below w.heap.size w w':=by
 have hu32:=Try.underlying32
 have HB:=Aside0.mk (Below.refl w.heap.size w)
 have H:((zbu.f a0_0 a0_1 a0_2 a0_3).bind fun t211=>(if t211=true then (some (a0_0,a0_1,a0_2,a0_3)) else (some (0,0,0,0))))=some (r1,r2,r3,r4):=h
 clear h
 replace H:=Option.bind_eq_some_iff.mp H
 obtain ⟨t211,A20,H⟩:=H
 replace H:(if t211=true then (some (a0_0,a0_1,a0_2,a0_3)) else (some (0,0,0,0)))=some (r1,r2,r3,r4):=H
 have A2:=Aside0.mk A20
 clear A20
 by_cases c3:t211=true
 ·subst c3
  have H1:(some (a0_0,a0_1,a0_2,a0_3))=some (r1,r2,r3,r4):=by rw [if_pos rfl] at H;exact H
  clear H
  have H:=H1
  clear H1
  simp only [Option.some.injEq,Prod.mk.injEq] at H
  obtain ⟨rfl,rfl,rfl,rfl⟩:=H
  go_enter Try.func70,Try.ntmps70
  go_wp2_with (first|((with_reducible refine zaA (N:=1) rfl ?_);refine zav ?hg (N:=1) ?hd (cs:=#[.int .i64 a0_0,.int .i64 a0_1,.int .i64 a0_2,.int .i64 a0_3]) (t:=32) ?hr ?_;(case hd=>rfl);(case hg=>rfl);(case hr=>first|(go_simp;done)|(go_simp;rfl));intro gb209 hg w4 hbox hb;have n0_:=Aside0.mk (zad (zL HB.out) hb);have n1_:=Aside0.mk (hbox);have n2_:=Aside0.mk ((zS hg (zL HB.out):w.heap.size≤gb209));have n3_:=Aside0.mk ((zS hg (zL HB.out):w.heap.size≤gb209));clear HB;have HB:=n0_;have BK209:=n1_;have GW209:=n2_;have GE209:=n3_;clear n0_ n1_ n2_ n3_;clear hb hbox hg)|((with_reducible refine zaA (N:=2) rfl ?_);refine zav ?hg (N:=2) ?hd (cs:=#[.int .i64 0,.int .i64 0,.int .i64 0,.int .i64 0]) (t:=32) ?hr ?_;(case hd=>rfl);(case hg=>rfl);(case hr=>first|(go_simp;done)|(go_simp;rfl));intro gb210 hg w5 hbox hb;have n0_:=Aside0.mk (zaa (zB BK209.out) hb);have n1_:=Aside0.mk (zad (zL1 HB.out GE209.out) hb);have n2_:=Aside0.mk (hbox);have n3_:=Aside0.mk ((zS hg (zL1 HB.out GE209.out):w.heap.size≤gb210));have n4_:=Aside0.mk ((zS hg (zL1 HB.out GE209.out):w.heap.size≤gb210));have n5_:=Aside0.mk ((by rw [hg];exact Nat.ne_of_lt (zao (zB BK209.out)):gb209≠gb210));have n6_:=Aside0.mk ((by rw [hg];exact Nat.ne_of_gt (zao (zB BK209.out)):gb210≠gb209));clear BK209;clear HB;have BK209:=n0_;have HB:=n1_;have BK210:=n2_;have GW210:=n3_;have GE210:=n4_;have NB209_210:=n5_;have NB210_209:=n6_;clear n0_ n1_ n2_ n3_ n4_ n5_ n6_;clear hb hbox hg;have hnb6:=NB209_210.out;have hnc6:=NB210_209.out;obtain ⟨hcz7_0,hcz7_1,hcz7_2,hcz7_3⟩:=zD4 BK209.out;obtain ⟨hfz7_0,hfz7_1,hfz7_2,hfz7_3⟩:=zE4 BK209.out)|((with_reducible refine zal (f:=59) rfl ?_);refine goesL_ (some 4) rfl rfl Try.func59 (by kernel_rfl) rfl #[.agg #[.int .i64 a0_0,.int .i64 a0_1,.int .i64 a0_2,.int .i64 a0_3]] rfl zA ?_;(with_reducible refine (zbu.calls a0_0 a0_1 a0_2 a0_3 true _ A2.out).mono ?_);rintro e w8 ⟨rfl,hb⟩;refine ⟨_,rfl,?_⟩;replace BK209:=Aside0.mk (zaa (zB BK209.out) hb);replace BK210:=Aside0.mk (zaa (zB BK210.out) hb);replace HB:=Aside0.mk (zad (zL2 HB.out GE209.out GE210.out) hb);(try clear hb);(try clear hb2);(try clear hk);(try clear hi);obtain ⟨hcz9_0,hcz9_1,hcz9_2,hcz9_3⟩:=zD4 BK209.out;obtain ⟨hfz9_0,hfz9_1,hfz9_2,hfz9_3⟩:=zE4 BK209.out;obtain ⟨hcz10_0,hcz10_1,hcz10_2,hcz10_3⟩:=zD4 BK210.out;obtain ⟨hfz10_0,hfz10_1,hfz10_2,hfz10_3⟩:=zE4 BK210.out))
  refine bodyPost_ret (results_cell_row rfl _ _ gb210 32 #[.int .i64 a0_0,.int .i64 a0_1,.int .i64 a0_2,.int .i64 a0_3] (0,0) _ rfl (by refine zB ?_;refine zae (cs:=#[.int .i64 a0_0,.int .i64 a0_1,.int .i64 a0_2,.int .i64 0]) ?_ 3 _ rfl;refine zB ?_;refine zae (cs:=#[.int .i64 a0_0,.int .i64 a0_1,.int .i64 0,.int .i64 0]) ?_ 2 _ rfl;refine zB ?_;refine zae (cs:=#[.int .i64 a0_0,.int .i64 0,.int .i64 0,.int .i64 0]) ?_ 1 _ rfl;refine zB ?_;refine zae (cs:=#[.int .i64 0,.int .i64 0,.int .i64 0,.int .i64 0]) ?_ 0 _ rfl;refine zB ?_;exact BK210.out) Try.underlying32 rfl (by kernel_rfl)) rfl ?_
  exact ⟨by first|rfl|(simp [errW_none,errW_some] <;> rfl)|(simp [*,errW_none,errW_some] <;> rfl),by repeat (first|(with_reducible first|exact HB.out|apply zai|apply zaf|apply zag|refine zac ?_ GE209.out|refine zac ?_ GE210.out)|exact HB.out)⟩
 ·replace c3:=Bool.eq_false_iff.mpr c3
  subst c3
  have H1:(some (0,0,0,0))=some (r1,r2,r3,r4):=by rw [if_neg (show ¬ (false=true) by decide)] at H;exact H
  clear H
  have H:=H1
  clear H1
  simp only [Option.some.injEq,Prod.mk.injEq] at H
  obtain ⟨rfl,rfl,rfl,rfl⟩:=H
  go_enter Try.func70,Try.ntmps70
  go_wp2_with (first|((with_reducible refine zaA (N:=1) rfl ?_);refine zav ?hg (N:=1) ?hd (cs:=#[.int .i64 a0_0,.int .i64 a0_1,.int .i64 a0_2,.int .i64 a0_3]) (t:=32) ?hr ?_;(case hd=>rfl);(case hg=>rfl);(case hr=>first|(go_simp;done)|(go_simp;rfl));intro gb209 hg w11 hbox hb;have n0_:=Aside0.mk (zad (zL HB.out) hb);have n1_:=Aside0.mk (hbox);have n2_:=Aside0.mk ((zS hg (zL HB.out):w.heap.size≤gb209));have n3_:=Aside0.mk ((zS hg (zL HB.out):w.heap.size≤gb209));clear HB;have HB:=n0_;have BK209:=n1_;have GW209:=n2_;have GE209:=n3_;clear n0_ n1_ n2_ n3_;clear hb hbox hg)|((with_reducible refine zaA (N:=2) rfl ?_);refine zav ?hg (N:=2) ?hd (cs:=#[.int .i64 0,.int .i64 0,.int .i64 0,.int .i64 0]) (t:=32) ?hr ?_;(case hd=>rfl);(case hg=>rfl);(case hr=>first|(go_simp;done)|(go_simp;rfl));intro gb210 hg w12 hbox hb;have n0_:=Aside0.mk (zaa (zB BK209.out) hb);have n1_:=Aside0.mk (zad (zL1 HB.out GE209.out) hb);have n2_:=Aside0.mk (hbox);have n3_:=Aside0.mk ((zS hg (zL1 HB.out GE209.out):w.heap.size≤gb210));have n4_:=Aside0.mk ((zS hg (zL1 HB.out GE209.out):w.heap.size≤gb210));have n5_:=Aside0.mk ((by rw [hg];exact Nat.ne_of_lt (zao (zB BK209.out)):gb209≠gb210));have n6_:=Aside0.mk ((by rw [hg];exact Nat.ne_of_gt (zao (zB BK209.out)):gb210≠gb209));clear BK209;clear HB;have BK209:=n0_;have HB:=n1_;have BK210:=n2_;have GW210:=n3_;have GE210:=n4_;have NB209_210:=n5_;have NB210_209:=n6_;clear n0_ n1_ n2_ n3_ n4_ n5_ n6_;clear hb hbox hg;have hnb13:=NB209_210.out;have hnc13:=NB210_209.out;obtain ⟨hcz14_0,hcz14_1,hcz14_2,hcz14_3⟩:=zD4 BK209.out;obtain ⟨hfz14_0,hfz14_1,hfz14_2,hfz14_3⟩:=zE4 BK209.out)|((with_reducible refine zal (f:=59) rfl ?_);refine goesL_ (some 4) rfl rfl Try.func59 (by kernel_rfl) rfl #[.agg #[.int .i64 a0_0,.int .i64 a0_1,.int .i64 a0_2,.int .i64 a0_3]] rfl zA ?_;(with_reducible refine (zbu.calls a0_0 a0_1 a0_2 a0_3 false _ A2.out).mono ?_);rintro e w15 ⟨rfl,hb⟩;refine ⟨_,rfl,?_⟩;replace BK209:=Aside0.mk (zaa (zB BK209.out) hb);replace BK210:=Aside0.mk (zaa (zB BK210.out) hb);replace HB:=Aside0.mk (zad (zL2 HB.out GE209.out GE210.out) hb);(try clear hb);(try clear hb2);(try clear hk);(try clear hi);obtain ⟨hcz16_0,hcz16_1,hcz16_2,hcz16_3⟩:=zD4 BK210.out;obtain ⟨hfz16_0,hfz16_1,hfz16_2,hfz16_3⟩:=zE4 BK210.out))
  refine bodyPost_ret (results_cell_row rfl _ _ gb210 32 #[.int .i64 0,.int .i64 0,.int .i64 0,.int .i64 0] (0,0) _ rfl (by refine zB ?_;refine zae (cs:=#[.int .i64 0,.int .i64 0,.int .i64 0,.int .i64 0]) ?_ 3 _ rfl;refine zB ?_;refine zae (cs:=#[.int .i64 0,.int .i64 0,.int .i64 0,.int .i64 0]) ?_ 2 _ rfl;refine zB ?_;refine zae (cs:=#[.int .i64 0,.int .i64 0,.int .i64 0,.int .i64 0]) ?_ 1 _ rfl;refine zB ?_;refine zae (cs:=#[.int .i64 0,.int .i64 0,.int .i64 0,.int .i64 0]) ?_ 0 _ rfl;refine zB ?_;exact BK210.out) Try.underlying32 rfl (by kernel_rfl)) rfl ?_
  exact ⟨by first|rfl|(simp [errW_none,errW_some] <;> rfl)|(simp [*,errW_none,errW_some] <;> rfl),by repeat (first|(with_reducible first|exact HB.out|apply zai|apply zaf|apply zag|refine zac ?_ GE209.out|refine zac ?_ GE210.out)|exact HB.out)⟩
def zbI.f (a0_0:Int) (a0_1:Int) (a0_2:Int) (a0_3:Int):Option (Bool):=(zbJ.f a0_0 a0_1 a0_2 a0_3).bind fun bt213=>(if bt213.2.2.1=0 then (some true) else (some (bt213.2.2.2==0)))
set_option maxHeartbeats 8000000 in
set_option maxRecDepth 100000 in
theorem zbI.calls (a0_0:Int) (a0_1:Int) (a0_2:Int) (a0_3:Int) (r:Bool) (w:World) (h:zbI.f a0_0 a0_1 a0_2 a0_3=some r) :
 Calls Try.prog 60 #[.agg #[.int .i64 a0_0,.int .i64 a0_1,.int .i64 a0_2,.int .i64 a0_3]] w fun e w'=>e = .returned (.bool r)∧Below w.heap.size w w':=by
 have hu32:=Try.underlying32
 have HB:=Aside0.mk (Below.refl w.heap.size w)
 have H:((zbJ.f a0_0 a0_1 a0_2 a0_3).bind fun bt213=>(if bt213.2.2.1=0 then (some true) else (some (bt213.2.2.2==0))))=some r:=h
 clear h
 replace H:=Option.bind_eq_some_iff.mp H
 obtain ⟨⟨t213,t214,t215,t216⟩,A20,H⟩:=H
 replace H:(if t215=0 then (some true) else (some (t216==0)))=some r:=H
 have A2:=Aside0.mk A20
 clear A20
 by_cases c3:t215=0
 ·rw [if_pos c3] at H
  have c3b0:(t215==0)=true:=beq_iff_eq.mpr c3
  have c3b1:(t215 != 0)=false:=bne_eq_false_iff_eq.mpr c3
  clear c3
  obtain rfl:=Option.some.inj H
  go_enter Try.func60,Try.ntmps60
  go_wp2_with (first|((with_reducible refine zaA (N:=1) rfl ?_);refine zav ?hg (N:=1) ?hd (cs:=#[.int .i64 a0_0,.int .i64 a0_1,.int .i64 a0_2,.int .i64 a0_3]) (t:=32) ?hr ?_;(case hd=>rfl);(case hg=>rfl);(case hr=>first|(go_simp;done)|(go_simp;rfl));intro gb212 hg w4 hbox hb;have n0_:=Aside0.mk (zad (zL HB.out) hb);have n1_:=Aside0.mk (hbox);have n2_:=Aside0.mk ((zS hg (zL HB.out):w.heap.size≤gb212));have n3_:=Aside0.mk ((zS hg (zL HB.out):w.heap.size≤gb212));clear HB;have HB:=n0_;have BK212:=n1_;have GW212:=n2_;have GE212:=n3_;clear n0_ n1_ n2_ n3_;clear hb hbox hg;obtain ⟨hcz5_0,hcz5_1,hcz5_2,hcz5_3⟩:=zD4 BK212.out;obtain ⟨hfz5_0,hfz5_1,hfz5_2,hfz5_3⟩:=zE4 BK212.out)|((with_reducible refine zal (f:=70) rfl ?_);refine goesL_ (some 4) rfl rfl Try.func70 (by kernel_rfl) rfl #[.agg #[.int .i64 a0_0,.int .i64 a0_1,.int .i64 a0_2,.int .i64 a0_3]] rfl zA ?_;(with_reducible refine (zbJ.calls a0_0 a0_1 a0_2 a0_3 t213 t214 t215 t216 _ A2.out).mono ?_);rintro e w6 ⟨rfl,hb⟩;refine ⟨_,rfl,?_⟩;replace BK212:=Aside0.mk (zaa (zB BK212.out) hb);replace HB:=Aside0.mk (zad (zL1 HB.out GE212.out) hb);(try clear hb);(try clear hb2);(try clear hk);(try clear hi);obtain ⟨hcz7_0,hcz7_1,hcz7_2,hcz7_3⟩:=zD4 BK212.out;obtain ⟨hfz7_0,hfz7_1,hfz7_2,hfz7_3⟩:=zE4 BK212.out))
  go_ret
  exact ⟨by first|rfl|(simp [errW_none,errW_some] <;> rfl)|(simp [*,errW_none,errW_some] <;> rfl),by repeat (first|(with_reducible first|exact HB.out|apply zai|apply zaf|apply zag|refine zac ?_ GE212.out)|exact HB.out)⟩
 ·rw [if_neg c3] at H
  have c3b0:(t215==0)=false:=beq_eq_false_iff_ne.mpr c3
  have c3b1:(t215 != 0)=true:=bne_iff_ne.mpr c3
  obtain rfl:=Option.some.inj H
  go_enter Try.func60,Try.ntmps60
  go_wp2_with (first|((with_reducible refine zaA (N:=1) rfl ?_);refine zav ?hg (N:=1) ?hd (cs:=#[.int .i64 a0_0,.int .i64 a0_1,.int .i64 a0_2,.int .i64 a0_3]) (t:=32) ?hr ?_;(case hd=>rfl);(case hg=>rfl);(case hr=>first|(go_simp;done)|(go_simp;rfl));intro gb212 hg w8 hbox hb;have n0_:=Aside0.mk (zad (zL HB.out) hb);have n1_:=Aside0.mk (hbox);have n2_:=Aside0.mk ((zS hg (zL HB.out):w.heap.size≤gb212));have n3_:=Aside0.mk ((zS hg (zL HB.out):w.heap.size≤gb212));clear HB;have HB:=n0_;have BK212:=n1_;have GW212:=n2_;have GE212:=n3_;clear n0_ n1_ n2_ n3_;clear hb hbox hg;obtain ⟨hcz9_0,hcz9_1,hcz9_2,hcz9_3⟩:=zD4 BK212.out;obtain ⟨hfz9_0,hfz9_1,hfz9_2,hfz9_3⟩:=zE4 BK212.out)|((with_reducible refine zal (f:=70) rfl ?_);refine goesL_ (some 4) rfl rfl Try.func70 (by kernel_rfl) rfl #[.agg #[.int .i64 a0_0,.int .i64 a0_1,.int .i64 a0_2,.int .i64 a0_3]] rfl zA ?_;(with_reducible refine (zbJ.calls a0_0 a0_1 a0_2 a0_3 t213 t214 t215 t216 _ A2.out).mono ?_);rintro e w10 ⟨rfl,hb⟩;refine ⟨_,rfl,?_⟩;replace BK212:=Aside0.mk (zaa (zB BK212.out) hb);replace HB:=Aside0.mk (zad (zL1 HB.out GE212.out) hb);(try clear hb);(try clear hb2);(try clear hk);(try clear hi);obtain ⟨hcz11_0,hcz11_1,hcz11_2,hcz11_3⟩:=zD4 BK212.out;obtain ⟨hfz11_0,hfz11_1,hfz11_2,hfz11_3⟩:=zE4 BK212.out))
  go_ret
  exact ⟨by first|rfl|(simp [errW_none,errW_some] <;> rfl)|(simp [*,errW_none,errW_some] <;> rfl),by repeat (first|(with_reducible first|exact HB.out|apply zai|apply zaf|apply zag|refine zac ?_ GE212.out)|exact HB.out)⟩
end Go.Proofs.Ytlilncnoohfcdaa.Da
