
import Derived.Test.YtlilncnoohfcdaaDax0
namespace Go.Proofs.Ytlilncnoohfcdaa.Da
open Go.RowKit Go.Proofs.YtlilncnoohfcdaaW.PrintWords Go.Proofs.YtlilncnoohfcdaaW.PrintLast Go.Proofs.YtlilncnoohfcdaaW.PrintMore
attribute [local go_sem] max2_int min2_int zbo zbp zbc zbd zbj zbk   
set_option linter.unusedVariables false
set_option linter.unusedSimpArgs false
/-! ### imageeditorref02_Valid: function 63 -/
def zaY.f (a0_0:Int) (a0_1:Int) (a0_2:Int) (a0_3:Int):Option (Bool):=if a0_0<(-1048576) then (some false) else (if a0_0 > 1048576 then (some false) else (if a0_1<(-1048576) then (some false) else (if a0_1 > 1048576 then (some false) else (if a0_2≥0 then (if a0_3≥0 then (if a0_2≤(wrap64 (1048576 - a0_0)) then (some (decide (a0_3≤(wrap64 (1048576 - a0_1))))) else (some false)) else (some false)) else (some false)))))
set_option maxHeartbeats 8000000 in
set_option maxRecDepth 100000 in
theorem zaY.calls (a0_0:Int) (a0_1:Int) (a0_2:Int) (a0_3:Int) (r:Bool) (w:World) (h:zaY.f a0_0 a0_1 a0_2 a0_3=some r) :
 Calls Try.prog 63 #[.agg #[.int .i64 a0_0,.int .i64 a0_1,.int .i64 a0_2,.int .i64 a0_3]] w fun e w'=>e = .returned (.bool r)∧Below w.heap.size w w':=by
 have hu32:=Try.underlying32
 have HB:=Aside0.mk (Below.refl w.heap.size w)
 have H:(if a0_0<(-1048576) then (some false) else (if a0_0 > 1048576 then (some false) else (if a0_1<(-1048576) then (some false) else (if a0_1 > 1048576 then (some false) else (if a0_2≥0 then (if a0_3≥0 then (if a0_2≤(wrap64 (1048576 - a0_0)) then (some (decide (a0_3≤(wrap64 (1048576 - a0_1))))) else (some false)) else (some false)) else (some false))))))=some r:=h
 clear h
 by_cases c2:a0_0<(-1048576)
 ·rw [if_pos c2] at H
  have c2b0:decide (a0_0<(-1048576))=true:=decide_eq_true c2
  clear c2
  obtain rfl:=Option.some.inj H
  go_enter Try.func63,Try.ntmps63
  go_wp2_with (first|((with_reducible refine zaA (N:=1) rfl ?_);refine zav ?hg (N:=1) ?hd (cs:=#[.int .i64 a0_0,.int .i64 a0_1,.int .i64 a0_2,.int .i64 a0_3]) (t:=32) ?hr ?_;(case hd=>rfl);(case hg=>rfl);(case hr=>first|(go_simp;done)|(go_simp;rfl));intro gb343 hg w3 hbox hb;have n0_:=Aside0.mk (zad (zL HB.out) hb);have n1_:=Aside0.mk (hbox);have n2_:=Aside0.mk ((zS hg (zL HB.out):w.heap.size≤gb343));have n3_:=Aside0.mk ((zS hg (zL HB.out):w.heap.size≤gb343));clear HB;have HB:=n0_;have BK343:=n1_;have GW343:=n2_;have GE343:=n3_;clear n0_ n1_ n2_ n3_;clear hb hbox hg;obtain ⟨hcz4_0,hcz4_1,hcz4_2,hcz4_3⟩:=zD4 BK343.out;obtain ⟨hfz4_0,hfz4_1,hfz4_2,hfz4_3⟩:=zE4 BK343.out))
  go_ret
  exact ⟨by first|rfl|(simp [errW_none,errW_some] <;> rfl)|(simp [*,errW_none,errW_some] <;> rfl),by repeat (first|(with_reducible first|exact HB.out|apply zai|apply zaf|apply zag|refine zac ?_ GE343.out)|exact HB.out)⟩
 ·rw [if_neg c2] at H
  have c2b0:decide (a0_0<(-1048576))=false:=decide_eq_false c2
  clear c2
  by_cases c5:a0_0 > 1048576
  ·rw [if_pos c5] at H
   have c5b0:decide (1048576<a0_0)=true:=decide_eq_true c5
   clear c5
   obtain rfl:=Option.some.inj H
   go_enter Try.func63,Try.ntmps63
   go_wp2_with (first|((with_reducible refine zaA (N:=1) rfl ?_);refine zav ?hg (N:=1) ?hd (cs:=#[.int .i64 a0_0,.int .i64 a0_1,.int .i64 a0_2,.int .i64 a0_3]) (t:=32) ?hr ?_;(case hd=>rfl);(case hg=>rfl);(case hr=>first|(go_simp;done)|(go_simp;rfl));intro gb343 hg w6 hbox hb;have n0_:=Aside0.mk (zad (zL HB.out) hb);have n1_:=Aside0.mk (hbox);have n2_:=Aside0.mk ((zS hg (zL HB.out):w.heap.size≤gb343));have n3_:=Aside0.mk ((zS hg (zL HB.out):w.heap.size≤gb343));clear HB;have HB:=n0_;have BK343:=n1_;have GW343:=n2_;have GE343:=n3_;clear n0_ n1_ n2_ n3_;clear hb hbox hg;obtain ⟨hcz7_0,hcz7_1,hcz7_2,hcz7_3⟩:=zD4 BK343.out;obtain ⟨hfz7_0,hfz7_1,hfz7_2,hfz7_3⟩:=zE4 BK343.out))
   go_ret
   exact ⟨by first|rfl|(simp [errW_none,errW_some] <;> rfl)|(simp [*,errW_none,errW_some] <;> rfl),by repeat (first|(with_reducible first|exact HB.out|apply zai|apply zaf|apply zag|refine zac ?_ GE343.out)|exact HB.out)⟩
  ·rw [if_neg c5] at H
   have c5b0:decide (1048576<a0_0)=false:=decide_eq_false c5
   clear c5
   by_cases c8:a0_1<(-1048576)
   ·rw [if_pos c8] at H
    have c8b0:decide (a0_1<(-1048576))=true:=decide_eq_true c8
    clear c8
    obtain rfl:=Option.some.inj H
    go_enter Try.func63,Try.ntmps63
    go_wp2_with (first|((with_reducible refine zaA (N:=1) rfl ?_);refine zav ?hg (N:=1) ?hd (cs:=#[.int .i64 a0_0,.int .i64 a0_1,.int .i64 a0_2,.int .i64 a0_3]) (t:=32) ?hr ?_;(case hd=>rfl);(case hg=>rfl);(case hr=>first|(go_simp;done)|(go_simp;rfl));intro gb343 hg w9 hbox hb;have n0_:=Aside0.mk (zad (zL HB.out) hb);have n1_:=Aside0.mk (hbox);have n2_:=Aside0.mk ((zS hg (zL HB.out):w.heap.size≤gb343));have n3_:=Aside0.mk ((zS hg (zL HB.out):w.heap.size≤gb343));clear HB;have HB:=n0_;have BK343:=n1_;have GW343:=n2_;have GE343:=n3_;clear n0_ n1_ n2_ n3_;clear hb hbox hg;obtain ⟨hcz10_0,hcz10_1,hcz10_2,hcz10_3⟩:=zD4 BK343.out;obtain ⟨hfz10_0,hfz10_1,hfz10_2,hfz10_3⟩:=zE4 BK343.out))
    go_ret
    exact ⟨by first|rfl|(simp [errW_none,errW_some] <;> rfl)|(simp [*,errW_none,errW_some] <;> rfl),by repeat (first|(with_reducible first|exact HB.out|apply zai|apply zaf|apply zag|refine zac ?_ GE343.out)|exact HB.out)⟩
   ·rw [if_neg c8] at H
    have c8b0:decide (a0_1<(-1048576))=false:=decide_eq_false c8
    clear c8
    by_cases c11:a0_1 > 1048576
    ·rw [if_pos c11] at H
     have c11b0:decide (1048576<a0_1)=true:=decide_eq_true c11
     clear c11
     obtain rfl:=Option.some.inj H
     go_enter Try.func63,Try.ntmps63
     go_wp2_with (first|((with_reducible refine zaA (N:=1) rfl ?_);refine zav ?hg (N:=1) ?hd (cs:=#[.int .i64 a0_0,.int .i64 a0_1,.int .i64 a0_2,.int .i64 a0_3]) (t:=32) ?hr ?_;(case hd=>rfl);(case hg=>rfl);(case hr=>first|(go_simp;done)|(go_simp;rfl));intro gb343 hg w12 hbox hb;have n0_:=Aside0.mk (zad (zL HB.out) hb);have n1_:=Aside0.mk (hbox);have n2_:=Aside0.mk ((zS hg (zL HB.out):w.heap.size≤gb343));have n3_:=Aside0.mk ((zS hg (zL HB.out):w.heap.size≤gb343));clear HB;have HB:=n0_;have BK343:=n1_;have GW343:=n2_;have GE343:=n3_;clear n0_ n1_ n2_ n3_;clear hb hbox hg;obtain ⟨hcz13_0,hcz13_1,hcz13_2,hcz13_3⟩:=zD4 BK343.out;obtain ⟨hfz13_0,hfz13_1,hfz13_2,hfz13_3⟩:=zE4 BK343.out))
     go_ret
     exact ⟨by first|rfl|(simp [errW_none,errW_some] <;> rfl)|(simp [*,errW_none,errW_some] <;> rfl),by repeat (first|(with_reducible first|exact HB.out|apply zai|apply zaf|apply zag|refine zac ?_ GE343.out)|exact HB.out)⟩
    ·rw [if_neg c11] at H
     have c11b0:decide (1048576<a0_1)=false:=decide_eq_false c11
     clear c11
     by_cases c14:a0_2≥0
     ·rw [if_pos c14] at H
      have c14b0:decide (0≤a0_2)=true:=decide_eq_true c14
      clear c14
      by_cases c15:a0_3≥0
      ·rw [if_pos c15] at H
       have c15b0:decide (0≤a0_3)=true:=decide_eq_true c15
       clear c15
       by_cases c16:a0_2≤(wrap64 (1048576 - a0_0))
       ·rw [if_pos c16] at H
        have c16b0:decide (a0_2≤(wrap64 (1048576 - a0_0)))=true:=decide_eq_true c16
        clear c16
        obtain rfl:=Option.some.inj H
        go_enter Try.func63,Try.ntmps63
        go_wp2_with (first|((with_reducible refine zaA (N:=1) rfl ?_);refine zav ?hg (N:=1) ?hd (cs:=#[.int .i64 a0_0,.int .i64 a0_1,.int .i64 a0_2,.int .i64 a0_3]) (t:=32) ?hr ?_;(case hd=>rfl);(case hg=>rfl);(case hr=>first|(go_simp;done)|(go_simp;rfl));intro gb343 hg w17 hbox hb;have n0_:=Aside0.mk (zad (zL HB.out) hb);have n1_:=Aside0.mk (hbox);have n2_:=Aside0.mk ((zS hg (zL HB.out):w.heap.size≤gb343));have n3_:=Aside0.mk ((zS hg (zL HB.out):w.heap.size≤gb343));clear HB;have HB:=n0_;have BK343:=n1_;have GW343:=n2_;have GE343:=n3_;clear n0_ n1_ n2_ n3_;clear hb hbox hg;obtain ⟨hcz18_0,hcz18_1,hcz18_2,hcz18_3⟩:=zD4 BK343.out;obtain ⟨hfz18_0,hfz18_1,hfz18_2,hfz18_3⟩:=zE4 BK343.out))
        go_ret
        exact ⟨by first|rfl|(simp [errW_none,errW_some] <;> rfl)|(simp [*,errW_none,errW_some] <;> rfl),by repeat (first|(with_reducible first|exact HB.out|apply zai|apply zaf|apply zag|refine zac ?_ GE343.out)|exact HB.out)⟩
       ·rw [if_neg c16] at H
        have c16b0:decide (a0_2≤(wrap64 (1048576 - a0_0)))=false:=decide_eq_false c16
        clear c16
        obtain rfl:=Option.some.inj H
        go_enter Try.func63,Try.ntmps63
        go_wp2_with (first|((with_reducible refine zaA (N:=1) rfl ?_);refine zav ?hg (N:=1) ?hd (cs:=#[.int .i64 a0_0,.int .i64 a0_1,.int .i64 a0_2,.int .i64 a0_3]) (t:=32) ?hr ?_;(case hd=>rfl);(case hg=>rfl);(case hr=>first|(go_simp;done)|(go_simp;rfl));intro gb343 hg w19 hbox hb;have n0_:=Aside0.mk (zad (zL HB.out) hb);have n1_:=Aside0.mk (hbox);have n2_:=Aside0.mk ((zS hg (zL HB.out):w.heap.size≤gb343));have n3_:=Aside0.mk ((zS hg (zL HB.out):w.heap.size≤gb343));clear HB;have HB:=n0_;have BK343:=n1_;have GW343:=n2_;have GE343:=n3_;clear n0_ n1_ n2_ n3_;clear hb hbox hg;obtain ⟨hcz20_0,hcz20_1,hcz20_2,hcz20_3⟩:=zD4 BK343.out;obtain ⟨hfz20_0,hfz20_1,hfz20_2,hfz20_3⟩:=zE4 BK343.out))
        go_ret
        exact ⟨by first|rfl|(simp [errW_none,errW_some] <;> rfl)|(simp [*,errW_none,errW_some] <;> rfl),by repeat (first|(with_reducible first|exact HB.out|apply zai|apply zaf|apply zag|refine zac ?_ GE343.out)|exact HB.out)⟩
      ·rw [if_neg c15] at H
       have c15b0:decide (0≤a0_3)=false:=decide_eq_false c15
       clear c15
       obtain rfl:=Option.some.inj H
       go_enter Try.func63,Try.ntmps63
       go_wp2_with (first|((with_reducible refine zaA (N:=1) rfl ?_);refine zav ?hg (N:=1) ?hd (cs:=#[.int .i64 a0_0,.int .i64 a0_1,.int .i64 a0_2,.int .i64 a0_3]) (t:=32) ?hr ?_;(case hd=>rfl);(case hg=>rfl);(case hr=>first|(go_simp;done)|(go_simp;rfl));intro gb343 hg w21 hbox hb;have n0_:=Aside0.mk (zad (zL HB.out) hb);have n1_:=Aside0.mk (hbox);have n2_:=Aside0.mk ((zS hg (zL HB.out):w.heap.size≤gb343));have n3_:=Aside0.mk ((zS hg (zL HB.out):w.heap.size≤gb343));clear HB;have HB:=n0_;have BK343:=n1_;have GW343:=n2_;have GE343:=n3_;clear n0_ n1_ n2_ n3_;clear hb hbox hg;obtain ⟨hcz22_0,hcz22_1,hcz22_2,hcz22_3⟩:=zD4 BK343.out;obtain ⟨hfz22_0,hfz22_1,hfz22_2,hfz22_3⟩:=zE4 BK343.out))
       go_ret
       exact ⟨by first|rfl|(simp [errW_none,errW_some] <;> rfl)|(simp [*,errW_none,errW_some] <;> rfl),by repeat (first|(with_reducible first|exact HB.out|apply zai|apply zaf|apply zag|refine zac ?_ GE343.out)|exact HB.out)⟩
     ·rw [if_neg c14] at H
      have c14b0:decide (0≤a0_2)=false:=decide_eq_false c14
      clear c14
      obtain rfl:=Option.some.inj H
      go_enter Try.func63,Try.ntmps63
      go_wp2_with (first|((with_reducible refine zaA (N:=1) rfl ?_);refine zav ?hg (N:=1) ?hd (cs:=#[.int .i64 a0_0,.int .i64 a0_1,.int .i64 a0_2,.int .i64 a0_3]) (t:=32) ?hr ?_;(case hd=>rfl);(case hg=>rfl);(case hr=>first|(go_simp;done)|(go_simp;rfl));intro gb343 hg w23 hbox hb;have n0_:=Aside0.mk (zad (zL HB.out) hb);have n1_:=Aside0.mk (hbox);have n2_:=Aside0.mk ((zS hg (zL HB.out):w.heap.size≤gb343));have n3_:=Aside0.mk ((zS hg (zL HB.out):w.heap.size≤gb343));clear HB;have HB:=n0_;have BK343:=n1_;have GW343:=n2_;have GE343:=n3_;clear n0_ n1_ n2_ n3_;clear hb hbox hg;obtain ⟨hcz24_0,hcz24_1,hcz24_2,hcz24_3⟩:=zD4 BK343.out;obtain ⟨hfz24_0,hfz24_1,hfz24_2,hfz24_3⟩:=zE4 BK343.out))
      go_ret
      exact ⟨by first|rfl|(simp [errW_none,errW_some] <;> rfl)|(simp [*,errW_none,errW_some] <;> rfl),by repeat (first|(with_reducible first|exact HB.out|apply zai|apply zaf|apply zag|refine zac ?_ GE343.out)|exact HB.out)⟩
def zbg.f (a0_0:Int) (a0_1:Int) (a0_2:Int) (a0_3:Int):Option (Bool):=(zaY.f a0_0 a0_1 a0_2 a0_3).bind fun t345=>(if t345=true then (if a0_2=0 then (some true) else (some (a0_3==0))) else (some true))
set_option maxHeartbeats 8000000 in
set_option maxRecDepth 100000 in
theorem zbg.calls (a0_0:Int) (a0_1:Int) (a0_2:Int) (a0_3:Int) (r:Bool) (w:World) (h:zbg.f a0_0 a0_1 a0_2 a0_3=some r) :
 Calls Try.prog 64 #[.agg #[.int .i64 a0_0,.int .i64 a0_1,.int .i64 a0_2,.int .i64 a0_3]] w fun e w'=>e = .returned (.bool r)∧Below w.heap.size w w':=by
 have hu32:=Try.underlying32
 have HB:=Aside0.mk (Below.refl w.heap.size w)
 have H:((zaY.f a0_0 a0_1 a0_2 a0_3).bind fun t345=>(if t345=true then (if a0_2=0 then (some true) else (some (a0_3==0))) else (some true)))=some r:=h
 clear h
 replace H:=Option.bind_eq_some_iff.mp H
 obtain ⟨t345,A20,H⟩:=H
 replace H:(if t345=true then (if a0_2=0 then (some true) else (some (a0_3==0))) else (some true))=some r:=H
 have A2:=Aside0.mk A20
 clear A20
 by_cases c3:t345=true
 ·subst c3
  have H1:(if a0_2=0 then (some true) else (some (a0_3==0)))=some r:=by rw [if_pos rfl] at H;exact H
  clear H
  have H:=H1
  clear H1
  by_cases c4:a0_2=0
  ·rw [if_pos c4] at H
   have c4b0:(a0_2==0)=true:=beq_iff_eq.mpr c4
   have c4b1:(a0_2 != 0)=false:=bne_eq_false_iff_eq.mpr c4
   clear c4
   obtain rfl:=Option.some.inj H
   go_enter Try.func64,Try.ntmps64
   go_wp2_with (first|((with_reducible refine zaA (N:=1) rfl ?_);refine zav ?hg (N:=1) ?hd (cs:=#[.int .i64 a0_0,.int .i64 a0_1,.int .i64 a0_2,.int .i64 a0_3]) (t:=32) ?hr ?_;(case hd=>rfl);(case hg=>rfl);(case hr=>first|(go_simp;done)|(go_simp;rfl));intro gb344 hg w5 hbox hb;have n0_:=Aside0.mk (zad (zL HB.out) hb);have n1_:=Aside0.mk (hbox);have n2_:=Aside0.mk ((zS hg (zL HB.out):w.heap.size≤gb344));have n3_:=Aside0.mk ((zS hg (zL HB.out):w.heap.size≤gb344));clear HB;have HB:=n0_;have BK344:=n1_;have GW344:=n2_;have GE344:=n3_;clear n0_ n1_ n2_ n3_;clear hb hbox hg;obtain ⟨hcz6_0,hcz6_1,hcz6_2,hcz6_3⟩:=zD4 BK344.out;obtain ⟨hfz6_0,hfz6_1,hfz6_2,hfz6_3⟩:=zE4 BK344.out)|((with_reducible refine zal (f:=63) rfl ?_);refine goesL_ (some 4) rfl rfl Try.func63 (by kernel_rfl) rfl #[.agg #[.int .i64 a0_0,.int .i64 a0_1,.int .i64 a0_2,.int .i64 a0_3]] rfl zA ?_;(with_reducible refine (zaY.calls a0_0 a0_1 a0_2 a0_3 true _ A2.out).mono ?_);rintro e w7 ⟨rfl,hb⟩;refine ⟨_,rfl,?_⟩;replace BK344:=Aside0.mk (zaa (zB BK344.out) hb);replace HB:=Aside0.mk (zad (zL1 HB.out GE344.out) hb);(try clear hb);(try clear hb2);(try clear hk);(try clear hi);obtain ⟨hcz8_0,hcz8_1,hcz8_2,hcz8_3⟩:=zD4 BK344.out;obtain ⟨hfz8_0,hfz8_1,hfz8_2,hfz8_3⟩:=zE4 BK344.out))
   go_ret
   exact ⟨by first|rfl|(simp [errW_none,errW_some] <;> rfl)|(simp [*,errW_none,errW_some] <;> rfl),by repeat (first|(with_reducible first|exact HB.out|apply zai|apply zaf|apply zag|refine zac ?_ GE344.out)|exact HB.out)⟩
  ·rw [if_neg c4] at H
   have c4b0:(a0_2==0)=false:=beq_eq_false_iff_ne.mpr c4
   have c4b1:(a0_2 != 0)=true:=bne_iff_ne.mpr c4
   obtain rfl:=Option.some.inj H
   go_enter Try.func64,Try.ntmps64
   go_wp2_with (first|((with_reducible refine zaA (N:=1) rfl ?_);refine zav ?hg (N:=1) ?hd (cs:=#[.int .i64 a0_0,.int .i64 a0_1,.int .i64 a0_2,.int .i64 a0_3]) (t:=32) ?hr ?_;(case hd=>rfl);(case hg=>rfl);(case hr=>first|(go_simp;done)|(go_simp;rfl));intro gb344 hg w9 hbox hb;have n0_:=Aside0.mk (zad (zL HB.out) hb);have n1_:=Aside0.mk (hbox);have n2_:=Aside0.mk ((zS hg (zL HB.out):w.heap.size≤gb344));have n3_:=Aside0.mk ((zS hg (zL HB.out):w.heap.size≤gb344));clear HB;have HB:=n0_;have BK344:=n1_;have GW344:=n2_;have GE344:=n3_;clear n0_ n1_ n2_ n3_;clear hb hbox hg;obtain ⟨hcz10_0,hcz10_1,hcz10_2,hcz10_3⟩:=zD4 BK344.out;obtain ⟨hfz10_0,hfz10_1,hfz10_2,hfz10_3⟩:=zE4 BK344.out)|((with_reducible refine zal (f:=63) rfl ?_);refine goesL_ (some 4) rfl rfl Try.func63 (by kernel_rfl) rfl #[.agg #[.int .i64 a0_0,.int .i64 a0_1,.int .i64 a0_2,.int .i64 a0_3]] rfl zA ?_;(with_reducible refine (zaY.calls a0_0 a0_1 a0_2 a0_3 true _ A2.out).mono ?_);rintro e w11 ⟨rfl,hb⟩;refine ⟨_,rfl,?_⟩;replace BK344:=Aside0.mk (zaa (zB BK344.out) hb);replace HB:=Aside0.mk (zad (zL1 HB.out GE344.out) hb);(try clear hb);(try clear hb2);(try clear hk);(try clear hi);obtain ⟨hcz12_0,hcz12_1,hcz12_2,hcz12_3⟩:=zD4 BK344.out;obtain ⟨hfz12_0,hfz12_1,hfz12_2,hfz12_3⟩:=zE4 BK344.out))
   go_ret
   exact ⟨by first|rfl|(simp [errW_none,errW_some] <;> rfl)|(simp [*,errW_none,errW_some] <;> rfl),by repeat (first|(with_reducible first|exact HB.out|apply zai|apply zaf|apply zag|refine zac ?_ GE344.out)|exact HB.out)⟩
 ·replace c3:=Bool.eq_false_iff.mpr c3
  subst c3
  have H1:(some true)=some r:=by rw [if_neg (show ¬ (false=true) by decide)] at H;exact H
  clear H
  have H:=H1
  clear H1
  obtain rfl:=Option.some.inj H
  go_enter Try.func64,Try.ntmps64
  go_wp2_with (first|((with_reducible refine zaA (N:=1) rfl ?_);refine zav ?hg (N:=1) ?hd (cs:=#[.int .i64 a0_0,.int .i64 a0_1,.int .i64 a0_2,.int .i64 a0_3]) (t:=32) ?hr ?_;(case hd=>rfl);(case hg=>rfl);(case hr=>first|(go_simp;done)|(go_simp;rfl));intro gb344 hg w13 hbox hb;have n0_:=Aside0.mk (zad (zL HB.out) hb);have n1_:=Aside0.mk (hbox);have n2_:=Aside0.mk ((zS hg (zL HB.out):w.heap.size≤gb344));have n3_:=Aside0.mk ((zS hg (zL HB.out):w.heap.size≤gb344));clear HB;have HB:=n0_;have BK344:=n1_;have GW344:=n2_;have GE344:=n3_;clear n0_ n1_ n2_ n3_;clear hb hbox hg;obtain ⟨hcz14_0,hcz14_1,hcz14_2,hcz14_3⟩:=zD4 BK344.out;obtain ⟨hfz14_0,hfz14_1,hfz14_2,hfz14_3⟩:=zE4 BK344.out)|((with_reducible refine zal (f:=63) rfl ?_);refine goesL_ (some 4) rfl rfl Try.func63 (by kernel_rfl) rfl #[.agg #[.int .i64 a0_0,.int .i64 a0_1,.int .i64 a0_2,.int .i64 a0_3]] rfl zA ?_;(with_reducible refine (zaY.calls a0_0 a0_1 a0_2 a0_3 false _ A2.out).mono ?_);rintro e w15 ⟨rfl,hb⟩;refine ⟨_,rfl,?_⟩;replace BK344:=Aside0.mk (zaa (zB BK344.out) hb);replace HB:=Aside0.mk (zad (zL1 HB.out GE344.out) hb);(try clear hb);(try clear hb2);(try clear hk);(try clear hi)))
  go_ret
  exact ⟨by first|rfl|(simp [errW_none,errW_some] <;> rfl)|(simp [*,errW_none,errW_some] <;> rfl),by repeat (first|(with_reducible first|exact HB.out|apply zai|apply zaf|apply zag|refine zac ?_ GE344.out)|exact HB.out)⟩
end Go.Proofs.Ytlilncnoohfcdaa.Da
