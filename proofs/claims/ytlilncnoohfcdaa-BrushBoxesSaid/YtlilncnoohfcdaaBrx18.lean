
import Derived.Test.YtlilncnoohfcdaaDax0
import Derived.Test.YtlilncnoohfcdaaDax14
import Derived.Test.YtlilncnoohfcdaaDax17
import Derived.Test.YtlilncnoohfcdaaBrx0
namespace Go.Proofs.Ytlilncnoohfcdaa.Br
open Go.RowKit Go.Proofs.YtlilncnoohfcdaaW.PrintWords Go.Proofs.YtlilncnoohfcdaaW.PrintLast Go.Proofs.YtlilncnoohfcdaaW.PrintMore Go.Proofs.Ytlilncnoohfcdaa.Da
attribute [local go_sem] zbr zbu zbD zbH zbq zbp zbv zbt   
set_option linter.unusedVariables false
set_option linter.unusedSimpArgs false
/-! ### imageeditorref02_span: function 128 -/
def zax.j0:Nat→Int→Bool→Int→Int→Int→Int→Option (Int×Int)
 | 0,_,_,_,_,_,_=>none
 | k+1,x1,x18,x08,x09,x0e,x0f=>if x18=true then (some (0,(-1))) else (if x1=0 then (some (x08,wrap64 ((wrap64 (x08+x0e)) - 1))) else (some (x09,wrap64 ((wrap64 (x09+x0f)) - 1))))
def zax.f (k:Nat) (d6:Int) (d7:Int) (b8:Int) (d5:Int) (a1:Int):Option (Int×Int):=(za9.f d6 d7 b8 d5).bind fun o4=>(if o4=true then (if b8=0 then (zax.j0 k a1 true d6 d7 b8 d5) else (zax.j0 k a1 (d5==0) d6 d7 b8 d5)) else (zax.j0 k a1 true d6 d7 b8 d5))
set_option maxHeartbeats 8000000 in
set_option maxRecDepth 100000 in
theorem zax.calls (k:Nat) (d6:Int) (d7:Int) (b8:Int) (d5:Int) (a1:Int) (r1:Int) (r2:Int) (w:World) (h:zax.f k d6 d7 b8 d5 a1=some (r1,r2)) :
 Calls Try.prog 128 #[.agg #[.int .i64 d6,.int .i64 d7,.int .i64 b8,.int .i64 d5],.int .i64 a1] w fun e w'=>e = .returned (.tuple #[.int .i64 r1,.int .i64 r2])∧Below w.heap.size w w':=by
 have hu32:=Try.underlying32
 have HB:=zaa.mk (Below.refl w.heap.size w)
 have H:((za9.f d6 d7 b8 d5).bind fun o4=>(if o4=true then (if b8=0 then (zax.j0 k a1 true d6 d7 b8 d5) else (zax.j0 k a1 (d5==0) d6 d7 b8 d5)) else (zax.j0 k a1 true d6 d7 b8 d5)))=some (r1,r2):=h
 clear h
 have HC3:=zaa.mk H
 clear H
 go_enter Try.func128,Try.ntmps128
 go_upto_region 1 with (first|((with_reducible refine zaC (N:=2) rfl ?_);refine zbx (N:=2) #[.int .i64 d6,.int .i64 d7,.int .i64 b8,.int .i64 d5] 32 ?_;intro D0 hg w4 hbox hb;have n0_:=zaa.mk (zae (zL HB.out) hb);have n1_:=zaa.mk (hbox);have n2_:=zaa.mk ((zS hg (zL HB.out):w.heap.size≤D0));have n3_:=n2_;clear HB;have HB:=n0_;have e0:=n1_;have W7:=n2_;have i9:=n3_;clear n0_ n1_ n2_ n3_;clear hb hbox hg))
 repeat (go_quiet (first|fail))
 (try simp only [Act.put,List.setIfInBounds_toArray,List.set_cons_zero,List.set_cons_succ])
 go_cut [18] (fun v18 wc=>∃ (kq:Nat) (x18_2:Bool),v18 = .bool x18_2∧zaa (zax.j0 kq a1 x18_2 d6 d7 b8 d5=some (r1,r2))∧zaa (kq≤k)∧zaa (wc.heap[D0]? = some (.cells #[.int .i64 d6,.int .i64 d7,.int .i64 b8,.int .i64 d5] 32 (0,0)))∧zaa (Below w.heap.size w wc))
 case first=>
  have H:=HC3.out
  clear HC3
  obtain ⟨o4,A5,H⟩:=zob H
  replace H:(if o4=true then (if b8=0 then (zax.j0 k a1 true d6 d7 b8 d5) else (zax.j0 k a1 (d5==0) d6 d7 b8 d5)) else (zax.j0 k a1 true d6 d7 b8 d5))=some (r1,r2):=H
  by_cases c6:o4=true
  ·subst c6
   have H1:(if b8=0 then (zax.j0 k a1 true d6 d7 b8 d5) else (zax.j0 k a1 (d5==0) d6 d7 b8 d5))=some (r1,r2):=by rw [if_pos rfl] at H;exact H
   clear H
   have H:=H1
   clear H1
   by_cases c7:b8=0
   ·rw [if_pos c7] at H
    have c7b0:(b8==0)=true:=beq_iff_eq.mpr c7
    have c7b1:(b8 != 0)=false:=bne_eq_false_iff_eq.mpr c7
    clear c7
    (first|rw [c7b0]|(simp only [zbY,zcc];rw [c7b0])|skip)
    have H':=zaa.mk H
    clear H
    obtain ⟨H2,H3,H4,H5⟩:=zD4 e0.out
    obtain ⟨H6,H7,H8,H9⟩:=zE4 e0.out
    go_wp2_with (first|(go_at_call 63;(with_reducible refine (za9.calls d6 d7 b8 d5 true _ A5.out).mono ?_);rintro e w9 ⟨rfl,hb⟩;replace e0:=zaa.mk (zac (zB e0.out) hb);replace HB:=zaa.mk (zae (zL1 HB.out i9.out) hb);(try clear hb);obtain ⟨l7,l8,l9,m5⟩:=zD4 e0.out;obtain ⟨m6,m7,m8,m9⟩:=zE4 e0.out))
    repeat (go_quiet (first|(go_at_call 63;(with_reducible refine (za9.calls d6 d7 b8 d5 true _ A5.out).mono ?_);rintro e w9 ⟨rfl,hb⟩;replace e0:=zaa.mk (zac (zB e0.out) hb);replace HB:=zaa.mk (zae (zL1 HB.out i9.out) hb);(try clear hb);obtain ⟨l7,l8,l9,m5⟩:=zD4 e0.out;obtain ⟨m6,m7,m8,m9⟩:=zE4 e0.out));try go_wp2_with (first|(go_at_call 63;(with_reducible refine (za9.calls d6 d7 b8 d5 true _ A5.out).mono ?_);rintro e w9 ⟨rfl,hb⟩;replace e0:=zaa.mk (zac (zB e0.out) hb);replace HB:=zaa.mk (zae (zL1 HB.out i9.out) hb);(try clear hb);obtain ⟨l7,l8,l9,m5⟩:=zD4 e0.out;obtain ⟨m6,m7,m8,m9⟩:=zE4 e0.out)))
    go_meet
    case rel=>exact ⟨_,(true),zF,H',⟨by first|omega|exact Nat.le_refl _⟩,⟨by refine zB ?_;exact e0.out⟩,⟨by repeat (first|(with_reducible first|exact HB.out|apply zan|apply zaj|apply zai|refine zao ?_ i9.out)|exact HB.out)⟩⟩
   ·rw [if_neg c7] at H
    have c7b0:(b8==0)=false:=beq_eq_false_iff_ne.mpr c7
    have c7b1:(b8 != 0)=true:=bne_iff_ne.mpr c7
    (first|rw [c7b0]|(simp only [zbY,zcc];rw [c7b0])|skip)
    have H':=zaa.mk H
    clear H
    obtain ⟨D5,D6,D7,D8⟩:=zD4 e0.out
    obtain ⟨D9,E0,E1,E2⟩:=zE4 e0.out
    go_wp2_with (first|(go_at_call 63;(with_reducible refine (za9.calls d6 d7 b8 d5 true _ A5.out).mono ?_);rintro e w12 ⟨rfl,hb⟩;replace e0:=zaa.mk (zac (zB e0.out) hb);replace HB:=zaa.mk (zae (zL1 HB.out i9.out) hb);(try clear hb);obtain ⟨o5,o6,o7,o8⟩:=zD4 e0.out;obtain ⟨o9,p7,p8,p9⟩:=zE4 e0.out))
    repeat (go_quiet (first|(go_at_call 63;(with_reducible refine (za9.calls d6 d7 b8 d5 true _ A5.out).mono ?_);rintro e w12 ⟨rfl,hb⟩;replace e0:=zaa.mk (zac (zB e0.out) hb);replace HB:=zaa.mk (zae (zL1 HB.out i9.out) hb);(try clear hb);obtain ⟨o5,o6,o7,o8⟩:=zD4 e0.out;obtain ⟨o9,p7,p8,p9⟩:=zE4 e0.out));try go_wp2_with (first|(go_at_call 63;(with_reducible refine (za9.calls d6 d7 b8 d5 true _ A5.out).mono ?_);rintro e w12 ⟨rfl,hb⟩;replace e0:=zaa.mk (zac (zB e0.out) hb);replace HB:=zaa.mk (zae (zL1 HB.out i9.out) hb);(try clear hb);obtain ⟨o5,o6,o7,o8⟩:=zD4 e0.out;obtain ⟨o9,p7,p8,p9⟩:=zE4 e0.out)))
    go_meet
    case rel=>exact ⟨_,((d5==0)),zF,H',⟨by first|omega|exact Nat.le_refl _⟩,⟨by refine zB ?_;exact e0.out⟩,⟨by repeat (first|(with_reducible first|exact HB.out|apply zan|apply zaj|apply zai|refine zao ?_ i9.out)|exact HB.out)⟩⟩
  ·replace c6:=Bool.eq_false_iff.mpr c6
   subst c6
   have H1:(zax.j0 k a1 true d6 d7 b8 d5)=some (r1,r2):=by rw [if_neg (show ¬ (false=true) by decide)] at H;exact H
   clear H
   have H:=H1
   clear H1
   have H':=zaa.mk H
   clear H
   obtain ⟨E3,E4,E5,E6⟩:=zD4 e0.out
   obtain ⟨E7,E8,E9,F0⟩:=zE4 e0.out
   go_wp2_with (first|(go_at_call 63;(with_reducible refine (za9.calls d6 d7 b8 d5 false _ A5.out).mono ?_);rintro e w15 ⟨rfl,hb⟩;replace e0:=zaa.mk (zac (zB e0.out) hb);replace HB:=zaa.mk (zae (zL1 HB.out i9.out) hb);(try clear hb)))
   repeat (go_quiet (first|(go_at_call 63;(with_reducible refine (za9.calls d6 d7 b8 d5 false _ A5.out).mono ?_);rintro e w15 ⟨rfl,hb⟩;replace e0:=zaa.mk (zac (zB e0.out) hb);replace HB:=zaa.mk (zae (zL1 HB.out i9.out) hb);(try clear hb)));try go_wp2_with (first|(go_at_call 63;(with_reducible refine (za9.calls d6 d7 b8 d5 false _ A5.out).mono ?_);rintro e w15 ⟨rfl,hb⟩;replace e0:=zaa.mk (zac (zB e0.out) hb);replace HB:=zaa.mk (zae (zL1 HB.out i9.out) hb);(try clear hb))))
   go_meet
   case rel=>exact ⟨_,(true),zF,H',⟨by first|omega|exact Nat.le_refl _⟩,⟨by refine zB ?_;exact e0.out⟩,⟨by repeat (first|(with_reducible first|exact HB.out|apply zan|apply zaj|apply zai|refine zao ?_ i9.out)|exact HB.out)⟩⟩
 case rest=>
  clear HC3
  try clear c1
  try clear p2
  try clear c6
  try clear c7
  try clear c7b0
  try clear c7b1
  try clear c12
  try clear l7 l8 l9 m5 D5 D6 D7 D8 o5 o6 o7 o8 E3 E4 E5 E6 H2 H3 H4 H5 m6 m7 m8 m9 D9 E0 E1 E2 o9 p7 p8 p9 E7 E8 E9 F0 H6 H7 H8 H9
  obtain ⟨kq,x18_2,rfl,HA,HJ2,e0,HB⟩:=hcut
  cases kq with
  | zero=>exact absurd HA.out (by simp [zax.j0])
  | succ kj2=>
   have H:=HA.out
   clear HA
   simp only [zax.j0] at H
   by_cases c16:x18_2=true
   ·subst c16
    have H1:(some (0,(-1)))=some (r1,r2):=by rw [if_pos rfl] at H;exact H
    clear H
    have H:=H1
    clear H1
    simp only [Option.some.injEq,Prod.mk.injEq] at H
    obtain ⟨rfl,rfl⟩:=H
    go_wp2
    repeat (go_quiet (fail);try go_wp2)
    go_ret2
    exact zG
   ·replace c16:=Bool.eq_false_iff.mpr c16
    subst c16
    have H1:(if a1=0 then (some (d6,wrap64 ((wrap64 (d6+b8)) - 1))) else (some (d7,wrap64 ((wrap64 (d7+d5)) - 1))))=some (r1,r2):=by rw [if_neg (show ¬ (false=true) by decide)] at H;exact H
    clear H
    have H:=H1
    clear H1
    by_cases c17:a1=0
    ·rw [if_pos c17] at H
     have c17b0:(a1==0)=true:=beq_iff_eq.mpr c17
     have c17b1:(a1 != 0)=false:=bne_eq_false_iff_eq.mpr c17
     clear c17
     simp only [Option.some.injEq,Prod.mk.injEq] at H
     obtain ⟨rfl,rfl⟩:=H
     obtain ⟨F1,F2,F3,F4⟩:=zD4 e0.out
     obtain ⟨F5,F6,F7,F8⟩:=zE4 e0.out
     go_wp2
     repeat (go_quiet (fail);try go_wp2)
     go_ret2
     exact zG
    ·rw [if_neg c17] at H
     have c17b0:(a1==0)=false:=beq_eq_false_iff_ne.mpr c17
     have c17b1:(a1 != 0)=true:=bne_iff_ne.mpr c17
     simp only [Option.some.injEq,Prod.mk.injEq] at H
     obtain ⟨rfl,rfl⟩:=H
     obtain ⟨s5,s6,s7,s8⟩:=zD4 e0.out
     obtain ⟨s9,t6,t7,t8⟩:=zE4 e0.out
     go_wp2
     repeat (go_quiet (fail);try go_wp2)
     go_ret2
     exact zG
def zbi.f (a0:Int) (a1:Int) (a2:Int) (a3:Int):Option (Int×Int×Int×Int):=if a1<a0 then (some (0,0,0,0)) else (if a3<a2 then (some (0,0,0,0)) else (some (a0,a2,wrap64 ((wrap64 (a1 - a0))+1),wrap64 ((wrap64 (a3 - a2))+1))))
set_option maxHeartbeats 8000000 in
set_option maxRecDepth 100000 in
theorem zbi.calls (a0:Int) (a1:Int) (a2:Int) (a3:Int) (r1:Int) (r2:Int) (r3:Int) (r4:Int) (w:World) (h:zbi.f a0 a1 a2 a3=some (r1,r2,r3,r4)) :
 Calls Try.prog 129 #[.int .i64 a0,.int .i64 a1,.int .i64 a2,.int .i64 a3] w fun e w'=>e = .returned (.agg #[.int .i64 r1,.int .i64 r2,.int .i64 r3,.int .i64 r4])∧Below w.heap.size w w':=by
 have hu32:=Try.underlying32
 have HB:=zaa.mk (Below.refl w.heap.size w)
 have H:(if a1<a0 then (some (0,0,0,0)) else (if a3<a2 then (some (0,0,0,0)) else (some (a0,a2,wrap64 ((wrap64 (a1 - a0))+1),wrap64 ((wrap64 (a3 - a2))+1)))))=some (r1,r2,r3,r4):=h
 clear h
 by_cases c5:a1<a0
 ·rw [if_pos c5] at H
  have c5b0:decide (a1<a0)=true:=decide_eq_true c5
  clear c5
  simp only [Option.some.injEq,Prod.mk.injEq] at H
  obtain ⟨rfl,rfl,rfl,rfl⟩:=H
  go_enter Try.func129,Try.ntmps129
  go_wp2_with (first|((with_reducible refine zaC (N:=8) rfl ?_);refine zbx (N:=8) #[.int .i64 0,.int .i64 0,.int .i64 0,.int .i64 0] 32 ?_;intro k7 hg w6 hbox hb;have n0_:=zaa.mk (zae (zL HB.out) hb);have n1_:=zaa.mk (hbox);have n2_:=zaa.mk ((zS hg (zL HB.out):w.heap.size≤k7));have n3_:=n2_;clear HB;have HB:=n0_;have j5:=n1_;have D1:=n2_;have D2:=n3_;clear n0_ n1_ n2_ n3_;clear hb hbox hg;obtain ⟨V7,V8,V9,W0⟩:=zD4 j5.out;obtain ⟨W3,W4,W5,W6⟩:=zE4 j5.out))
  refine bodyPost_ret (results_cell_row rfl _ _ k7 32 #[.int .i64 0,.int .i64 0,.int .i64 0,.int .i64 0] (0,0) _ rfl (by exact zB (zp4 (zB j5.out) _ _ _ _)) Try.underlying32 rfl (by kernel_rfl)) rfl ?_
  exact zG
 ·rw [if_neg c5] at H
  have c5b0:decide (a1<a0)=false:=decide_eq_false c5
  clear c5
  by_cases c8:a3<a2
  ·rw [if_pos c8] at H
   have c8b0:decide (a3<a2)=true:=decide_eq_true c8
   clear c8
   simp only [Option.some.injEq,Prod.mk.injEq] at H
   obtain ⟨rfl,rfl,rfl,rfl⟩:=H
   go_enter Try.func129,Try.ntmps129
   go_wp2_with (first|((with_reducible refine zaC (N:=8) rfl ?_);refine zbx (N:=8) #[.int .i64 0,.int .i64 0,.int .i64 0,.int .i64 0] 32 ?_;intro k7 hg w9 hbox hb;have n0_:=zaa.mk (zae (zL HB.out) hb);have n1_:=zaa.mk (hbox);have n2_:=zaa.mk ((zS hg (zL HB.out):w.heap.size≤k7));have n3_:=n2_;clear HB;have HB:=n0_;have j5:=n1_;have D1:=n2_;have D2:=n3_;clear n0_ n1_ n2_ n3_;clear hb hbox hg;obtain ⟨l7,l8,l9,m5⟩:=zD4 j5.out;obtain ⟨m6,m7,m8,m9⟩:=zE4 j5.out))
   refine bodyPost_ret (results_cell_row rfl _ _ k7 32 #[.int .i64 0,.int .i64 0,.int .i64 0,.int .i64 0] (0,0) _ rfl (by exact zB (zp4 (zB j5.out) _ _ _ _)) Try.underlying32 rfl (by kernel_rfl)) rfl ?_
   exact zG
  ·rw [if_neg c8] at H
   have c8b0:decide (a3<a2)=false:=decide_eq_false c8
   clear c8
   simp only [Option.some.injEq,Prod.mk.injEq] at H
   obtain ⟨rfl,rfl,rfl,rfl⟩:=H
   go_enter Try.func129,Try.ntmps129
   go_wp2_with (first|((with_reducible refine zaC (N:=8) rfl ?_);refine zbx (N:=8) #[.int .i64 0,.int .i64 0,.int .i64 0,.int .i64 0] 32 ?_;intro k7 hg w11 hbox hb;have n0_:=zaa.mk (zae (zL HB.out) hb);have n1_:=zaa.mk (hbox);have n2_:=zaa.mk ((zS hg (zL HB.out):w.heap.size≤k7));have n3_:=n2_;clear HB;have HB:=n0_;have j5:=n1_;have D1:=n2_;have D2:=n3_;clear n0_ n1_ n2_ n3_;clear hb hbox hg;obtain ⟨z3,z4,z5,z6⟩:=zD4 j5.out;obtain ⟨z7,z8,z9,B0⟩:=zE4 j5.out))
   refine bodyPost_ret (results_cell_row rfl _ _ k7 32 #[.int .i64 a0,.int .i64 a2,.int .i64 (wrap64 ((wrap64 (a1 - a0))+1)),.int .i64 (wrap64 ((wrap64 (a3 - a2))+1))] (0,0) _ rfl (by exact zB (zp4 (zB j5.out) _ _ _ _)) Try.underlying32 rfl (by kernel_rfl)) rfl ?_
   exact zG
def za6.j0:Nat→Bool→Int→Int→Int→Int→Int→Int→Int→Int→Option (Int×Int×Int×Int)
 | 0,_,_,_,_,_,_,_,_,_=>none
 | k+1,x18,x00,x01,x02,x03,x04,x05,x06,x07=>if x18=true then (some (0,0,0,0)) else ((za1.f x00 x01 x02 x03).bind fun t9=>(if t9=true then (some (x04,x05,x06,x07)) else ((za1.f x04 x05 x06 x07).bind fun k8=>(if k8=true then (some (x00,x01,x02,x03)) else ((zax.f k x00 x01 x02 x03 0).bind fun i7=>((zax.f k x00 x01 x02 x03 1).bind fun i3=>((zax.f k x04 x05 x06 x07 0).bind fun g9=>((zax.f k x04 x05 x06 x07 1).bind fun f6=>((zbi.f (mn i7.1 g9.1) (mx i7.2 g9.2) (mn i3.1 f6.1) (mx i3.2 f6.2)).bind fun b9=>(some (b9.1,b9.2.1,b9.2.2.1,b9.2.2.2)))))))))))
def za6.f (k:Nat) (d6:Int) (d7:Int) (b8:Int) (d5:Int) (e6:Int) (e7:Int) (e8:Int) (e9:Int):Option (Int×Int×Int×Int):=(za1.f d6 d7 b8 d5).bind fun u3=>(if u3=true then ((za1.f e6 e7 e8 e9).bind fun k6=>(za6.j0 k k6 d6 d7 b8 d5 e6 e7 e8 e9)) else (za6.j0 k false d6 d7 b8 d5 e6 e7 e8 e9))
set_option maxHeartbeats 8000000 in
set_option maxRecDepth 100000 in
theorem za6.calls (k:Nat) (d6:Int) (d7:Int) (b8:Int) (d5:Int) (e6:Int) (e7:Int) (e8:Int) (e9:Int) (r1:Int) (r2:Int) (r3:Int) (r4:Int) (w:World) (h:za6.f k d6 d7 b8 d5 e6 e7 e8 e9=some (r1,r2,r3,r4)) :
 Calls Try.prog 83 #[.agg #[.int .i64 d6,.int .i64 d7,.int .i64 b8,.int .i64 d5],.agg #[.int .i64 e6,.int .i64 e7,.int .i64 e8,.int .i64 e9]] w fun e w'=>e = .returned (.agg #[.int .i64 r1,.int .i64 r2,.int .i64 r3,.int .i64 r4])∧Below w.heap.size w w':=by
 have hu32:=Try.underlying32
 have HB:=zaa.mk (Below.refl w.heap.size w)
 have H:((za1.f d6 d7 b8 d5).bind fun u3=>(if u3=true then ((za1.f e6 e7 e8 e9).bind fun k6=>(za6.j0 k k6 d6 d7 b8 d5 e6 e7 e8 e9)) else (za6.j0 k false d6 d7 b8 d5 e6 e7 e8 e9)))=some (r1,r2,r3,r4):=h
 clear h
 have HC3:=zaa.mk H
 clear H
 go_enter Try.func83,Try.ntmps83
 go_upto_region 1 with (first|((with_reducible refine zaC (N:=2) rfl ?_);refine zbx (N:=2) #[.int .i64 d6,.int .i64 d7,.int .i64 b8,.int .i64 d5] 32 ?_;intro D3 hg w4 hbox hb;have n0_:=zaa.mk (zae (zL HB.out) hb);have n1_:=zaa.mk (hbox);have n2_:=zaa.mk ((zS hg (zL HB.out):w.heap.size≤D3));have n3_:=n2_;clear HB;have HB:=n0_;have d8:=n1_;have W8:=n2_;have i4:=n3_;clear n0_ n1_ n2_ n3_;clear hb hbox hg)|((with_reducible refine zaC (N:=3) rfl ?_);refine zbx (N:=3) #[.int .i64 e6,.int .i64 e7,.int .i64 e8,.int .i64 e9] 32 ?_;intro D4 hg w5 hbox hb;have n0_:=zaa.mk (zac (zB d8.out) hb);have n1_:=zaa.mk (zae (zL1 HB.out i4.out) hb);have n2_:=zaa.mk (hbox);have n3_:=zaa.mk ((zS hg (zL1 HB.out i4.out):w.heap.size≤D4));have n4_:=n3_;have n5_:=zaa.mk (zne hg (zB d8.out));have n6_:=zaa.mk (zen hg (zB d8.out));clear d8;clear HB;have d8:=n0_;have HB:=n1_;have d9:=n2_;have W9:=n3_;have i5:=n4_;have j7:=n5_;have j8:=n6_;clear n0_ n1_ n2_ n3_ n4_ n5_ n6_;clear hb hbox hg)|((with_reducible refine zaC (N:=4) rfl ?_);refine zbx (N:=4) #[.int .i64 0,.int .i64 0,.int .i64 0,.int .i64 0] 32 ?_;intro n0 hg w6 hbox hb;have n0_:=zaa.mk (zac (zB d8.out) hb);have n1_:=zaa.mk (zac (zB d9.out) hb);have n2_:=zaa.mk (zae (zL2 HB.out i4.out i5.out) hb);have n3_:=zaa.mk (hbox);have n4_:=zaa.mk ((zS hg (zL2 HB.out i4.out i5.out):w.heap.size≤n0));have n5_:=n4_;have n6_:=zaa.mk (zne hg (zB d8.out));have n7_:=zaa.mk (zen hg (zB d8.out));have n8_:=zaa.mk (zne hg (zB d9.out));have n9_:=zaa.mk (zen hg (zB d9.out));clear d8;clear d9;clear HB;have d8:=n0_;have d9:=n1_;have HB:=n2_;have e5:=n3_;have X0:=n4_;have i8:=n5_;have j2:=n6_;have j3:=n7_;have j9:=n8_;have k3:=n9_;clear n0_ n1_ n2_ n3_ n4_ n5_ n6_ n7_ n8_ n9_;clear hb hbox hg))
 (try simp only [Act.put,List.setIfInBounds_toArray,List.set_cons_zero,List.set_cons_succ])
 go_cut [18] (fun v18 wc=>∃ (kq:Nat) (x18_2:Bool),v18 = .bool x18_2∧zaa (za6.j0 kq x18_2 d6 d7 b8 d5 e6 e7 e8 e9=some (r1,r2,r3,r4))∧zaa (kq≤k)∧zaa (wc.heap[D3]? = some (.cells #[.int .i64 d6,.int .i64 d7,.int .i64 b8,.int .i64 d5] 32 (0,0)))∧zaa (wc.heap[D4]? = some (.cells #[.int .i64 e6,.int .i64 e7,.int .i64 e8,.int .i64 e9] 32 (0,0)))∧zaa (wc.heap[n0]? = some (.cells #[.int .i64 0,.int .i64 0,.int .i64 0,.int .i64 0] 32 (0,0)))∧zaa (Below w.heap.size w wc))
 case first=>
  have H:=HC3.out
  clear HC3
  obtain ⟨u3,A7,H⟩:=zob H
  replace H:(if u3=true then ((za1.f e6 e7 e8 e9).bind fun k6=>(za6.j0 k k6 d6 d7 b8 d5 e6 e7 e8 e9)) else (za6.j0 k false d6 d7 b8 d5 e6 e7 e8 e9))=some (r1,r2,r3,r4):=H
  by_cases c8:u3=true
  ·subst c8
   have H1:((za1.f e6 e7 e8 e9).bind fun k6=>(za6.j0 k k6 d6 d7 b8 d5 e6 e7 e8 e9))=some (r1,r2,r3,r4):=by rw [if_pos rfl] at H;exact H
   clear H
   have H:=H1
   clear H1
   obtain ⟨k6,A9,H⟩:=zob H
   replace H:(za6.j0 k k6 d6 d7 b8 d5 e6 e7 e8 e9)=some (r1,r2,r3,r4):=H
   have H':=zaa.mk H
   clear H
   have hnb10:=j7.out
   have hnc10:=j8.out
   have hnb11:=j2.out
   have hnc11:=j3.out
   obtain ⟨z3,z4,z5,z6⟩:=zD4 d8.out
   obtain ⟨z7,z8,z9,B0⟩:=zE4 d8.out
   go_wp2_with (first|((with_reducible refine zah (f:=64) rfl ?_);refine zgl 14 Try.func64 #[.agg #[.int .i64 d6,.int .i64 d7,.int .i64 b8,.int .i64 d5]] ?_;(with_reducible refine (za1.calls d6 d7 b8 d5 true _ A7.out).mono ?_);rintro e w13 ⟨rfl,hb⟩;refine ⟨_,rfl,?_⟩;replace d8:=zaa.mk (zac (zB d8.out) hb);replace d9:=zaa.mk (zac (zB d9.out) hb);replace e5:=zaa.mk (zac (zB e5.out) hb);replace HB:=zaa.mk (zae (zL3 HB.out i4.out i5.out i8.out) hb);(try clear hb);have hnb14:=j9.out;have hnc14:=k3.out;obtain ⟨F9,G4,G5,G6⟩:=zD4 d9.out;obtain ⟨G7,G8,G9,H0⟩:=zE4 d9.out)|(go_at_call 64;(with_reducible refine (za1.calls e6 e7 e8 e9 k6 _ A9.out).mono ?_);rintro e w16 ⟨rfl,hb⟩;replace d8:=zaa.mk (zac (zB d8.out) hb);replace d9:=zaa.mk (zac (zB d9.out) hb);replace e5:=zaa.mk (zac (zB e5.out) hb);replace HB:=zaa.mk (zae (zL3 HB.out i4.out i5.out i8.out) hb);(try clear hb)))
   go_meet
   case rel=>exact ⟨_,(k6),zF,H',⟨by first|omega|exact Nat.le_refl _⟩,⟨by refine zB ?_;exact d8.out⟩,⟨by refine zB ?_;exact d9.out⟩,⟨by refine zB ?_;exact e5.out⟩,⟨by repeat (first|(with_reducible first|exact HB.out|apply zan|apply zaj|apply zai|refine zao ?_ i4.out|refine zao ?_ i5.out|refine zao ?_ i8.out)|exact HB.out)⟩⟩
  ·replace c8:=Bool.eq_false_iff.mpr c8
   subst c8
   have H1:(za6.j0 k false d6 d7 b8 d5 e6 e7 e8 e9)=some (r1,r2,r3,r4):=by rw [if_neg (show ¬ (false=true) by decide)] at H;exact H
   clear H
   have H:=H1
   clear H1
   have H':=zaa.mk H
   clear H
   have hnb17:=j7.out
   have hnc17:=j8.out
   have hnb18:=j2.out
   have hnc18:=j3.out
   obtain ⟨s5,s6,s7,s8⟩:=zD4 d8.out
   obtain ⟨s9,t6,t7,t8⟩:=zE4 d8.out
   go_wp2_with (first|((with_reducible refine zah (f:=64) rfl ?_);refine zgl 14 Try.func64 #[.agg #[.int .i64 d6,.int .i64 d7,.int .i64 b8,.int .i64 d5]] ?_;(with_reducible refine (za1.calls d6 d7 b8 d5 false _ A7.out).mono ?_);rintro e w20 ⟨rfl,hb⟩;refine ⟨_,rfl,?_⟩;replace d8:=zaa.mk (zac (zB d8.out) hb);replace d9:=zaa.mk (zac (zB d9.out) hb);replace e5:=zaa.mk (zac (zB e5.out) hb);replace HB:=zaa.mk (zae (zL3 HB.out i4.out i5.out i8.out) hb);(try clear hb)))
   go_meet
   case rel=>exact ⟨_,(false),zF,H',⟨by first|omega|exact Nat.le_refl _⟩,⟨by refine zB ?_;exact d8.out⟩,⟨by refine zB ?_;exact d9.out⟩,⟨by refine zB ?_;exact e5.out⟩,⟨by repeat (first|(with_reducible first|exact HB.out|apply zan|apply zaj|apply zai|refine zao ?_ i4.out|refine zao ?_ i5.out|refine zao ?_ i8.out)|exact HB.out)⟩⟩
 case rest=>
  clear HC3
  try clear c1
  try clear p2
  try clear c6
  try clear c8
  try clear c10
  try clear c11
  try clear c14
  try clear c17
  try clear c18
  try clear z3 z4 z5 z6 F9 G4 G5 G6 s5 s6 s7 s8 z7 z8 z9 B0 G7 G8 G9 H0 s9 t6 t7 t8
  obtain ⟨kq,x18_2,rfl,HA,HJ2,d8,d9,e5,HB⟩:=hcut
  cases kq with
  | zero=>exact absurd HA.out (by simp [za6.j0])
  | succ kj2=>
   have H:=HA.out
   clear HA
   simp only [za6.j0] at H
   by_cases c21:x18_2=true
   ·subst c21
    have H1:(some (0,0,0,0))=some (r1,r2,r3,r4):=by rw [if_pos rfl] at H;exact H
    clear H
    have H:=H1
    clear H1
    simp only [Option.some.injEq,Prod.mk.injEq] at H
    obtain ⟨rfl,rfl,rfl,rfl⟩:=H
    have hnb22:=j3.out
    have hnc22:=j2.out
    have hnb23:=k3.out
    have hnc23:=j9.out
    obtain ⟨I9,J0,J1,J2⟩:=zD4 e5.out
    obtain ⟨J3,J4,J5,J6⟩:=zE4 e5.out
    go_wp2
    refine bodyPost_ret (results_cell_row rfl _ _ n0 32 #[.int .i64 0,.int .i64 0,.int .i64 0,.int .i64 0] (0,0) _ rfl (by exact zB (zp4 (zB e5.out) _ _ _ _)) Try.underlying32 rfl (by kernel_rfl)) rfl ?_
    exact zG
   ·replace c21:=Bool.eq_false_iff.mpr c21
    subst c21
    have H1:((za1.f d6 d7 b8 d5).bind fun t9=>(if t9=true then (some (e6,e7,e8,e9)) else ((za1.f e6 e7 e8 e9).bind fun k8=>(if k8=true then (some (d6,d7,b8,d5)) else ((zax.f kj2 d6 d7 b8 d5 0).bind fun i7=>((zax.f kj2 d6 d7 b8 d5 1).bind fun i3=>((zax.f kj2 e6 e7 e8 e9 0).bind fun g9=>((zax.f kj2 e6 e7 e8 e9 1).bind fun f6=>((zbi.f (mn i7.1 g9.1) (mx i7.2 g9.2) (mn i3.1 f6.1) (mx i3.2 f6.2)).bind fun b9=>(some (b9.1,b9.2.1,b9.2.2.1,b9.2.2.2)))))))))))=some (r1,r2,r3,r4):=by rw [if_neg (show ¬ (false=true) by decide)] at H;exact H
    clear H
    have H:=H1
    clear H1
    obtain ⟨t9,A25,H⟩:=zob H
    replace H:(if t9=true then (some (e6,e7,e8,e9)) else ((za1.f e6 e7 e8 e9).bind fun k8=>(if k8=true then (some (d6,d7,b8,d5)) else ((zax.f kj2 d6 d7 b8 d5 0).bind fun i7=>((zax.f kj2 d6 d7 b8 d5 1).bind fun i3=>((zax.f kj2 e6 e7 e8 e9 0).bind fun g9=>((zax.f kj2 e6 e7 e8 e9 1).bind fun f6=>((zbi.f (mn i7.1 g9.1) (mx i7.2 g9.2) (mn i3.1 f6.1) (mx i3.2 f6.2)).bind fun b9=>(some (b9.1,b9.2.1,b9.2.2.1,b9.2.2.2))))))))))=some (r1,r2,r3,r4):=H
    by_cases c26:t9=true
    ·subst c26
     have H1:(some (e6,e7,e8,e9))=some (r1,r2,r3,r4):=by rw [if_pos rfl] at H;exact H
     clear H
     have H:=H1
     clear H1
     simp only [Option.some.injEq,Prod.mk.injEq] at H
     obtain ⟨rfl,rfl,rfl,rfl⟩:=H
     have hnb27:=j7.out
     have hnc27:=j8.out
     have hnb28:=j2.out
     have hnc28:=j3.out
     obtain ⟨J7,J8,J9,K0⟩:=zD4 d8.out
     obtain ⟨K1,K2,K3,K4⟩:=zE4 d8.out
     go_wp2_with (first|((with_reducible refine zah (f:=64) rfl ?_);refine zgl 21 Try.func64 #[.agg #[.int .i64 d6,.int .i64 d7,.int .i64 b8,.int .i64 d5]] ?_;(with_reducible refine (za1.calls d6 d7 b8 d5 true _ A25.out).mono ?_);rintro e w30 ⟨rfl,hb⟩;refine ⟨_,rfl,?_⟩;replace d8:=zaa.mk (zac (zB d8.out) hb);replace d9:=zaa.mk (zac (zB d9.out) hb);replace e5:=zaa.mk (zac (zB e5.out) hb);replace HB:=zaa.mk (zae (zL3 HB.out i4.out i5.out i8.out) hb);(try clear hb);have hnb31:=j9.out;have hnc31:=k3.out;obtain ⟨K5,K6,K7,K8⟩:=zD4 d9.out;obtain ⟨K9,L0,L1,L2⟩:=zE4 d9.out;obtain ⟨L3,L4,L5,L6⟩:=zD4 e5.out;obtain ⟨L7,L8,L9,M0⟩:=zE4 e5.out))
     refine bodyPost_ret (results_cell_row rfl _ _ n0 32 #[.int .i64 e6,.int .i64 e7,.int .i64 e8,.int .i64 e9] (0,0) _ rfl (by exact zB (zp4 (zB e5.out) _ _ _ _)) Try.underlying32 rfl (by kernel_rfl)) rfl ?_
     exact zG
    ·replace c26:=Bool.eq_false_iff.mpr c26
     subst c26
     have H1:((za1.f e6 e7 e8 e9).bind fun k8=>(if k8=true then (some (d6,d7,b8,d5)) else ((zax.f kj2 d6 d7 b8 d5 0).bind fun i7=>((zax.f kj2 d6 d7 b8 d5 1).bind fun i3=>((zax.f kj2 e6 e7 e8 e9 0).bind fun g9=>((zax.f kj2 e6 e7 e8 e9 1).bind fun f6=>((zbi.f (mn i7.1 g9.1) (mx i7.2 g9.2) (mn i3.1 f6.1) (mx i3.2 f6.2)).bind fun b9=>(some (b9.1,b9.2.1,b9.2.2.1,b9.2.2.2)))))))))=some (r1,r2,r3,r4):=by rw [if_neg (show ¬ (false=true) by decide)] at H;exact H
     clear H
     have H:=H1
     clear H1
     obtain ⟨k8,A34,H⟩:=zob H
     replace H:(if k8=true then (some (d6,d7,b8,d5)) else ((zax.f kj2 d6 d7 b8 d5 0).bind fun i7=>((zax.f kj2 d6 d7 b8 d5 1).bind fun i3=>((zax.f kj2 e6 e7 e8 e9 0).bind fun g9=>((zax.f kj2 e6 e7 e8 e9 1).bind fun f6=>((zbi.f (mn i7.1 g9.1) (mx i7.2 g9.2) (mn i3.1 f6.1) (mx i3.2 f6.2)).bind fun b9=>(some (b9.1,b9.2.1,b9.2.2.1,b9.2.2.2))))))))=some (r1,r2,r3,r4):=H
     by_cases c35:k8=true
     ·subst c35
      have H1:(some (d6,d7,b8,d5))=some (r1,r2,r3,r4):=by rw [if_pos rfl] at H;exact H
      clear H
      have H:=H1
      clear H1
      simp only [Option.some.injEq,Prod.mk.injEq] at H
      obtain ⟨rfl,rfl,rfl,rfl⟩:=H
      have hnb36:=j7.out
      have hnc36:=j8.out
      have hnb37:=j2.out
      have hnc37:=j3.out
      obtain ⟨M1,M2,M3,M4⟩:=zD4 d8.out
      obtain ⟨M5,M6,M7,M8⟩:=zE4 d8.out
      go_wp2_with (first|((with_reducible refine zah (f:=64) rfl ?_);refine zgl 21 Try.func64 #[.agg #[.int .i64 d6,.int .i64 d7,.int .i64 b8,.int .i64 d5]] ?_;(with_reducible refine (za1.calls d6 d7 b8 d5 false _ A25.out).mono ?_);rintro e w39 ⟨rfl,hb⟩;refine ⟨_,rfl,?_⟩;replace d8:=zaa.mk (zac (zB d8.out) hb);replace d9:=zaa.mk (zac (zB d9.out) hb);replace e5:=zaa.mk (zac (zB e5.out) hb);replace HB:=zaa.mk (zae (zL3 HB.out i4.out i5.out i8.out) hb);(try clear hb);have hnb40:=j9.out;have hnc40:=k3.out;obtain ⟨M9,N0,N1,N2⟩:=zD4 d9.out;obtain ⟨N3,N4,N5,N6⟩:=zE4 d9.out)|((with_reducible refine zah (f:=64) rfl ?_);refine zgl 24 Try.func64 #[.agg #[.int .i64 e6,.int .i64 e7,.int .i64 e8,.int .i64 e9]] ?_;(with_reducible refine (za1.calls e6 e7 e8 e9 true _ A34.out).mono ?_);rintro e w42 ⟨rfl,hb⟩;refine ⟨_,rfl,?_⟩;replace d8:=zaa.mk (zac (zB d8.out) hb);replace d9:=zaa.mk (zac (zB d9.out) hb);replace e5:=zaa.mk (zac (zB e5.out) hb);replace HB:=zaa.mk (zae (zL3 HB.out i4.out i5.out i8.out) hb);(try clear hb);obtain ⟨N7,N8,N9,O0⟩:=zD4 d8.out;obtain ⟨O1,O2,O3,O4⟩:=zE4 d8.out;obtain ⟨O5,O6,O7,O8⟩:=zD4 e5.out;obtain ⟨O9,P0,P1,P2⟩:=zE4 e5.out))
      refine bodyPost_ret (results_cell_row rfl _ _ n0 32 #[.int .i64 d6,.int .i64 d7,.int .i64 b8,.int .i64 d5] (0,0) _ rfl (by exact zB (zp4 (zB e5.out) _ _ _ _)) Try.underlying32 rfl (by kernel_rfl)) rfl ?_
      exact zG
     ·replace c35:=Bool.eq_false_iff.mpr c35
      subst c35
      have H1:((zax.f kj2 d6 d7 b8 d5 0).bind fun i7=>((zax.f kj2 d6 d7 b8 d5 1).bind fun i3=>((zax.f kj2 e6 e7 e8 e9 0).bind fun g9=>((zax.f kj2 e6 e7 e8 e9 1).bind fun f6=>((zbi.f (mn i7.1 g9.1) (mx i7.2 g9.2) (mn i3.1 f6.1) (mx i3.2 f6.2)).bind fun b9=>(some (b9.1,b9.2.1,b9.2.2.1,b9.2.2.2)))))))=some (r1,r2,r3,r4):=by rw [if_neg (show ¬ (false=true) by decide)] at H;exact H
      clear H
      have H:=H1
      clear H1
      obtain ⟨⟨l5,l3⟩,A45,H⟩:=zob H
      replace H:((zax.f kj2 d6 d7 b8 d5 1).bind fun i3=>((zax.f kj2 e6 e7 e8 e9 0).bind fun g9=>((zax.f kj2 e6 e7 e8 e9 1).bind fun f6=>((zbi.f (mn l5 g9.1) (mx l3 g9.2) (mn i3.1 f6.1) (mx i3.2 f6.2)).bind fun b9=>(some (b9.1,b9.2.1,b9.2.2.1,b9.2.2.2))))))=some (r1,r2,r3,r4):=H
      obtain ⟨⟨l4,k9⟩,A46,H⟩:=zob H
      replace H:((zax.f kj2 e6 e7 e8 e9 0).bind fun g9=>((zax.f kj2 e6 e7 e8 e9 1).bind fun f6=>((zbi.f (mn l5 g9.1) (mx l3 g9.2) (mn l4 f6.1) (mx k9 f6.2)).bind fun b9=>(some (b9.1,b9.2.1,b9.2.2.1,b9.2.2.2)))))=some (r1,r2,r3,r4):=H
      obtain ⟨⟨u4,n9⟩,A47,H⟩:=zob H
      replace H:((zax.f kj2 e6 e7 e8 e9 1).bind fun f6=>((zbi.f (mn l5 u4) (mx l3 n9) (mn l4 f6.1) (mx k9 f6.2)).bind fun b9=>(some (b9.1,b9.2.1,b9.2.2.1,b9.2.2.2))))=some (r1,r2,r3,r4):=H
      obtain ⟨⟨o2,l6⟩,A48,H⟩:=zob H
      replace H:((zbi.f (mn l5 u4) (mx l3 n9) (mn l4 o2) (mx k9 l6)).bind fun b9=>(some (b9.1,b9.2.1,b9.2.2.1,b9.2.2.2)))=some (r1,r2,r3,r4):=H
      obtain ⟨o3,hji49⟩ : ∃ j_:Int,(mn l5 u4)=j_:=⟨_,rfl⟩
      replace H:((zbi.f (o3) (mx l3 n9) (mn l4 o2) (mx k9 l6)).bind fun b9=>(some (b9.1,b9.2.1,b9.2.2.1,b9.2.2.2)))=some (r1,r2,r3,r4):=by first|(rw [hji49] at H;exact H)|(simp only [hji49] at H ⊢;exact H)
      (try rw [hji49] at A25)
      (try rw [hji49] at A34)
      (try rw [hji49] at A45)
      (try rw [hji49] at A46)
      (try rw [hji49] at A47)
      (try rw [hji49] at A48)
      have hji49_:(if u4<l5 then u4 else l5)=o3:=hji49
      obtain ⟨u5,hji50⟩ : ∃ j_:Int,(mx l3 n9)=j_:=⟨_,rfl⟩
      replace H:((zbi.f (o3) (u5) (mn l4 o2) (mx k9 l6)).bind fun b9=>(some (b9.1,b9.2.1,b9.2.2.1,b9.2.2.2)))=some (r1,r2,r3,r4):=by first|(rw [hji50] at H;exact H)|(simp only [hji50] at H ⊢;exact H)
      (try rw [hji50] at A25)
      (try rw [hji50] at A34)
      (try rw [hji50] at A45)
      (try rw [hji50] at A46)
      (try rw [hji50] at A47)
      (try rw [hji50] at A48)
      have hji50_:(if l3<n9 then n9 else l3)=u5:=hji50
      obtain ⟨z1,hji51⟩ : ∃ j_:Int,(mn l4 o2)=j_:=⟨_,rfl⟩
      replace H:((zbi.f (o3) (u5) (z1) (mx k9 l6)).bind fun b9=>(some (b9.1,b9.2.1,b9.2.2.1,b9.2.2.2)))=some (r1,r2,r3,r4):=by first|(rw [hji51] at H;exact H)|(simp only [hji51] at H ⊢;exact H)
      (try rw [hji51] at A25)
      (try rw [hji51] at A34)
      (try rw [hji51] at A45)
      (try rw [hji51] at A46)
      (try rw [hji51] at A47)
      (try rw [hji51] at A48)
      have hji51_:(if o2<l4 then o2 else l4)=z1:=hji51
      obtain ⟨B3,hji52⟩ : ∃ j_:Int,(mx k9 l6)=j_:=⟨_,rfl⟩
      replace H:((zbi.f (o3) (u5) (z1) (B3)).bind fun b9=>(some (b9.1,b9.2.1,b9.2.2.1,b9.2.2.2)))=some (r1,r2,r3,r4):=by first|(rw [hji52] at H;exact H)|(simp only [hji52] at H ⊢;exact H)
      (try rw [hji52] at A25)
      (try rw [hji52] at A34)
      (try rw [hji52] at A45)
      (try rw [hji52] at A46)
      (try rw [hji52] at A47)
      (try rw [hji52] at A48)
      have hji52_:(if k9<l6 then l6 else k9)=B3:=hji52
      obtain ⟨⟨C5,C6,C7,C8⟩,A53,H⟩:=zob H
      replace H:(some (C5,C6,C7,C8))=some (r1,r2,r3,r4):=H
      simp only [Option.some.injEq,Prod.mk.injEq] at H
      obtain ⟨rfl,rfl,rfl,rfl⟩:=H
      have hnb54:=j7.out
      have hnc54:=j8.out
      have hnb55:=j2.out
      have hnc55:=j3.out
      obtain ⟨P3,P4,P5,P6⟩:=zD4 d8.out
      obtain ⟨P7,P8,P9,Q0⟩:=zE4 d8.out
      go_wp2_with (first|((with_reducible refine zah (f:=64) rfl ?_);refine zgl 21 Try.func64 #[.agg #[.int .i64 d6,.int .i64 d7,.int .i64 b8,.int .i64 d5]] ?_;(with_reducible refine (za1.calls d6 d7 b8 d5 false _ A25.out).mono ?_);rintro e w57 ⟨rfl,hb⟩;refine ⟨_,rfl,?_⟩;replace d8:=zaa.mk (zac (zB d8.out) hb);replace d9:=zaa.mk (zac (zB d9.out) hb);replace e5:=zaa.mk (zac (zB e5.out) hb);replace HB:=zaa.mk (zae (zL3 HB.out i4.out i5.out i8.out) hb);(try clear hb);have hnb58:=j9.out;have hnc58:=k3.out;obtain ⟨Q1,Q2,Q3,Q4⟩:=zD4 d9.out;obtain ⟨Q5,Q6,Q7,Q8⟩:=zE4 d9.out)|((with_reducible refine zah (f:=64) rfl ?_);refine zgl 24 Try.func64 #[.agg #[.int .i64 e6,.int .i64 e7,.int .i64 e8,.int .i64 e9]] ?_;(with_reducible refine (za1.calls e6 e7 e8 e9 false _ A34.out).mono ?_);rintro e w60 ⟨rfl,hb⟩;refine ⟨_,rfl,?_⟩;replace d8:=zaa.mk (zac (zB d8.out) hb);replace d9:=zaa.mk (zac (zB d9.out) hb);replace e5:=zaa.mk (zac (zB e5.out) hb);replace HB:=zaa.mk (zae (zL3 HB.out i4.out i5.out i8.out) hb);(try clear hb);obtain ⟨Q9,R0,R1,R2⟩:=zD4 d8.out;obtain ⟨R3,R4,R5,R6⟩:=zE4 d8.out)|((with_reducible refine zah (f:=128) rfl ?_);refine zgl 28 Try.func128 #[.agg #[.int .i64 d6,.int .i64 d7,.int .i64 b8,.int .i64 d5],.int .i64 0] ?_;(with_reducible refine (zax.calls kj2 d6 d7 b8 d5 0 l5 l3 _ A45.out).mono ?_);rintro e w62 ⟨rfl,hb⟩;refine ⟨_,rfl,?_⟩;replace d8:=zaa.mk (zac (zB d8.out) hb);replace d9:=zaa.mk (zac (zB d9.out) hb);replace e5:=zaa.mk (zac (zB e5.out) hb);replace HB:=zaa.mk (zae (zL3 HB.out i4.out i5.out i8.out) hb);(try clear hb);obtain ⟨R7,R8,R9,S0⟩:=zD4 d8.out;obtain ⟨S1,S3,S4,S5⟩:=zE4 d8.out)|((with_reducible refine zah (f:=128) rfl ?_);refine zgl 33 Try.func128 #[.agg #[.int .i64 d6,.int .i64 d7,.int .i64 b8,.int .i64 d5],.int .i64 1] ?_;(with_reducible refine (zax.calls kj2 d6 d7 b8 d5 1 l4 k9 _ A46.out).mono ?_);rintro e w64 ⟨rfl,hb⟩;refine ⟨_,rfl,?_⟩;replace d8:=zaa.mk (zac (zB d8.out) hb);replace d9:=zaa.mk (zac (zB d9.out) hb);replace e5:=zaa.mk (zac (zB e5.out) hb);replace HB:=zaa.mk (zae (zL3 HB.out i4.out i5.out i8.out) hb);(try clear hb);obtain ⟨S6,S7,S8,S9⟩:=zD4 d9.out;obtain ⟨T0,T3,T7,U0⟩:=zE4 d9.out)|((with_reducible refine zah (f:=128) rfl ?_);refine zgl 38 Try.func128 #[.agg #[.int .i64 e6,.int .i64 e7,.int .i64 e8,.int .i64 e9],.int .i64 0] ?_;(with_reducible refine (zax.calls kj2 e6 e7 e8 e9 0 u4 n9 _ A47.out).mono ?_);rintro e w66 ⟨rfl,hb⟩;refine ⟨_,rfl,?_⟩;replace d8:=zaa.mk (zac (zB d8.out) hb);replace d9:=zaa.mk (zac (zB d9.out) hb);replace e5:=zaa.mk (zac (zB e5.out) hb);replace HB:=zaa.mk (zae (zL3 HB.out i4.out i5.out i8.out) hb);(try clear hb);obtain ⟨U1,U2,U3,U4⟩:=zD4 d9.out;obtain ⟨U5,U6,U7,U8⟩:=zE4 d9.out)|((with_reducible refine zah (f:=128) rfl ?_);refine zgl 43 Try.func128 #[.agg #[.int .i64 e6,.int .i64 e7,.int .i64 e8,.int .i64 e9],.int .i64 1] ?_;(with_reducible refine (zax.calls kj2 e6 e7 e8 e9 1 o2 l6 _ A48.out).mono ?_);rintro e w68 ⟨rfl,hb⟩;refine ⟨_,rfl,?_⟩;replace d8:=zaa.mk (zac (zB d8.out) hb);replace d9:=zaa.mk (zac (zB d9.out) hb);replace e5:=zaa.mk (zac (zB e5.out) hb);replace HB:=zaa.mk (zae (zL3 HB.out i4.out i5.out i8.out) hb);(try clear hb))|((with_reducible refine zah (f:=129) rfl ?_);refine goesL_ (some 58) rfl rfl Try.func129 (by kernel_rfl) rfl #[.int .i64 o3,.int .i64 u5,.int .i64 z1,.int .i64 B3] rfl (by (try simp only [List.map_toArray,List.map_cons,List.map_nil]);first|done|(simp only [hji49,hji50,hji51,hji52];rfl)|rfl|(simp only [List.length_drop,List.length_take];rfl)) ?_;(with_reducible refine (zbi.calls o3 u5 z1 B3 C5 C6 C7 C8 _ A53.out).mono ?_);rintro e w69 ⟨rfl,hb⟩;refine ⟨_,rfl,?_⟩;replace d8:=zaa.mk (zac (zB d8.out) hb);replace d9:=zaa.mk (zac (zB d9.out) hb);replace e5:=zaa.mk (zac (zB e5.out) hb);replace HB:=zaa.mk (zae (zL3 HB.out i4.out i5.out i8.out) hb);(try clear hb);obtain ⟨U9,V0,V1,V2⟩:=zD4 e5.out;obtain ⟨V3,V4,V5,V6⟩:=zE4 e5.out))
      refine bodyPost_ret (results_cell_row rfl _ _ n0 32 #[.int .i64 C5,.int .i64 C6,.int .i64 C7,.int .i64 C8] (0,0) _ rfl (by exact zB (zp4 (zB e5.out) _ _ _ _)) Try.underlying32 rfl (by kernel_rfl)) rfl ?_
      exact ⟨by first|rfl|(simp [zaK,zaL] <;> rfl)|(simp only [← hji49,← hji50,← hji51,← hji52];first|rfl|(simp [zaK,zaL] <;> rfl))|(simp [*,zaK,zaL] <;> rfl),by repeat (first|(with_reducible first|exact HB.out|apply zan|apply zaj|apply zai|refine zao ?_ i4.out|refine zao ?_ i5.out|refine zao ?_ i8.out)|exact HB.out)⟩
def zaN.l0:Nat→List (S28)→Int→Int→Int→Int→Int→Option (Int×Int×Int×Int)
 | 0,_,_,_,_,_,_=>none
 | k+1,x0,x4,x0a,x0b,x0c,x0d=>if x4<(x0.length:Int) then (if 0≤x4 then ((zcf.f k ((zag x0 x4).f0) ((zag x0 x4).f1) ((zag x0 x4).f2) ((zag x0 x4).f3) ((zag x0 x4).f4)).bind fun y8=>((za6.f k x0a x0b x0c x0d y8.1 y8.2.1 y8.2.2.1 y8.2.2.2).bind fun k4=>(zaN.l0 k x0 (wrap64 (x4+1)) k4.1 k4.2.1 k4.2.2.1 k4.2.2.2))) else (none)) else (some (x0a,x0b,x0c,x0d))
def zaN.f (k:Nat) (l0:List (S28)):Option (Int×Int×Int×Int):=zaN.l0 k l0 0 0 0 0 0
def zaN.T5:Bool×List (List Nat×List Nat):=(true,[([],[]),([],[]),([],[]),([1,2],[1,2]),([3],[3]),([4],[4]),([0,5,5],[0,5]),([6,6,0,1,2,3,4,5,6],[6])])
def zaN.B5:List Nat:=[0,0,0,6,14,30,63,127]
theorem zaN.tab5:rtab .any (opsOf Try.f33 5)=zaN.T5:=by kernel_rfl
theorem zaN.bits5:zbE zaN.T5.2 zaN.B5=true:=by kernel_rfl
set_option maxHeartbeats 8000000 in
set_option maxRecDepth 100000 in
theorem zaN.calls (k:Nat) (A0:Option Addr) (c0:Nat) (l0:List (S28)) (r1:Int) (r2:Int) (r3:Int) (r4:Int) (w:World) (hr0:Kd.C k28 w A0 l0.length l0) (hc0:l0.length≤c0) (h:zaN.f k l0=some (r1,r2,r3,r4)) :
 Calls Try.prog 33 #[.slice A0 l0.length c0] w fun e w'=>e = .returned (.agg #[.int .i64 r1,.int .i64 r2,.int .i64 r3,.int .i64 r4])∧Below w.heap.size w w':=by
 have hu32:=Try.underlying32
 have hu28:=Try.underlying28
 have HR0:=zaa.mk hr0
 have HC0:=zaa.mk hc0
 clear hr0 hc0
 have HB:=zaa.mk (Below.refl w.heap.size w)
 have H:(zaN.l0 k l0 0 0 0 0 0)=some (r1,r2,r3,r4):=h
 clear h
 have H':=zaa.mk H
 clear H
 go_enter Try.func33,Try.ntmps33
 go_wp2_with (first|((with_reducible refine zaC (N:=2) rfl ?_);refine zbx (N:=2) #[.int .i64 0,.int .i64 0,.int .i64 0,.int .i64 0] 32 ?_;intro B7 hg w2 hbox hb;have n0_:=zaa.mk (zae (zL HB.out) hb);have n1_:=zaa.mk (hbox);have n2_:=zaa.mk ((zS hg (zL HB.out):w.heap.size≤B7));have n3_:=n2_;clear HB;have HB:=n0_;have i6:=n1_;have X1:=n2_;have n3:=n3_;clear n0_ n1_ n2_ n3_;clear hb hbox hg)|((with_reducible refine zaC (N:=3) rfl ?_);refine zbx (N:=3) #[.int .i64 0,.int .i64 0,.int .i64 0,.int .i64 0] 32 ?_;intro j6 hg w3 hbox hb;have n0_:=zaa.mk (zac (zB i6.out) hb);have n1_:=zaa.mk (zae (zL1 HB.out n3.out) hb);have n2_:=zaa.mk (hbox);have n3_:=zaa.mk ((zS hg (zL1 HB.out n3.out):w.heap.size≤j6));have n4_:=n3_;have n5_:=zaa.mk (zne hg (zB i6.out));have n6_:=zaa.mk (zen hg (zB i6.out));clear i6;clear HB;have i6:=n0_;have HB:=n1_;have f5:=n2_;have X2:=n3_;have y9:=n4_;have f7:=n5_;have j4:=n6_;clear n0_ n1_ n2_ n3_ n4_ n5_ n6_;clear hb hbox hg;have hnb4:=j4.out;have hnc4:=f7.out;obtain ⟨I0,I1,I2,I3⟩:=zD4 f5.out;obtain ⟨I4,I5,I6,I7⟩:=zE4 f5.out))
 go_loopg [4] k (fun kq v4 w'=>∃ (x4_1:Int) (x459000_1:Int) (x459001_1:Int) (x459002_1:Int) (x459003_1:Int),v4 = .int .i64 x4_1∧zaa (zaN.l0 kq l0 x4_1 x459000_1 x459001_1 x459002_1 x459003_1=some (r1,r2,r3,r4))∧zaa (kq≤k)∧zaa (w'.heap[B7]? = some (.cells #[.int .i64 0,.int .i64 0,.int .i64 0,.int .i64 0] 32 (0,0)))∧zaa (w'.heap[j6]? = some (.cells #[.int .i64 x459000_1,.int .i64 x459001_1,.int .i64 x459002_1,.int .i64 x459003_1] 32 (0,0)))∧zaa (Below w.heap.size w w'))
 case atStart=>exact ⟨(0),(0),(0),(0),(0),zF,H',⟨Nat.le_refl _⟩,⟨by refine zB ?_;refine zaA ?_ f7.out _;refine zB ?_;refine zaA ?_ f7.out _;refine zB ?_;refine zaA ?_ f7.out _;refine zB ?_;refine zaA ?_ f7.out _;refine zB ?_;exact i6.out⟩,⟨by refine zB ?_;refine zar (cs:=#[.int .i64 0,.int .i64 0,.int .i64 0,.int .i64 0]) ?_ 3 _ rfl;refine zB ?_;refine zar (cs:=#[.int .i64 0,.int .i64 0,.int .i64 0,.int .i64 0]) ?_ 2 _ rfl;refine zB ?_;refine zar (cs:=#[.int .i64 0,.int .i64 0,.int .i64 0,.int .i64 0]) ?_ 1 _ rfl;refine zB ?_;refine zar (cs:=#[.int .i64 0,.int .i64 0,.int .i64 0,.int .i64 0]) ?_ 0 _ rfl;refine zB ?_;exact f5.out⟩,⟨by repeat (first|(with_reducible first|exact HB.out|apply zan|apply zaj|apply zai|refine zao ?_ n3.out|refine zao ?_ y9.out)|exact HB.out)⟩⟩
 case round=>
  clear H'
  try clear p2
  try clear c3
  try clear c4
  try clear I0 I1 I2 I3 I4 I5 I6 I7
  obtain ⟨x4_1,x459000_1,x459001_1,x459002_1,x459003_1,rfl,HA,I8,i6,f5,HB⟩:=hrel
  cases gk with
  | zero=>exact absurd HA.out (by simp [zaN.l0])
  | succ k1=>
   have H:=HA.out
   clear HA
   simp only [zaN.l0] at H
   by_cases c6:x4_1<(l0.length:Int)
   ·rw [if_pos c6] at H
    have c6b0:decide (x4_1<(l0.length:Int))=true:=decide_eq_true c6
    clear c6
    by_cases c7:0≤x4_1
    ·rw [if_pos c7] at H
     have c7b0:decide (0≤x4_1)=true:=decide_eq_true c7
     clear c7
     obtain ⟨⟨C0,C1,C2,C3⟩,A8,H⟩:=zob H
     replace H:((za6.f k1 x459000_1 x459001_1 x459002_1 x459003_1 C0 C1 C2 C3).bind fun k4=>(zaN.l0 k1 l0 (wrap64 (x4_1+1)) k4.1 k4.2.1 k4.2.2.1 k4.2.2.2))=some (r1,r2,r3,r4):=H
     obtain ⟨⟨u6,z2,C4,C9⟩,A9,H⟩:=zob H
     replace H:(zaN.l0 k1 l0 (wrap64 (x4_1+1)) u6 z2 C4 C9)=some (r1,r2,r3,r4):=H
     have H':=zaa.mk H
     clear H
     try go_wp2
     replace i6:=zaa.mk (zaM i6.out)
     replace f5:=zaa.mk (zaM f5.out)
     replace HB:=zaa.mk (zai HB.out)
     have p459:0≤(x4_1:Int):=of_decide_eq_true (by first|(with_reducible assumption)|assumption)
     have q459:x4_1<(l0.length:Int):=of_decide_eq_true (by first|(with_reducible assumption)|assumption)
     obtain ⟨k5,e459,n4,n5,n6,n7,n8⟩:=at_T28 HR0.out x4_1 p459 q459
     have u7:=n8
     have u9:=n7
     have y5:=n6
     have y6:=n5
     have y7:=n4
     cases e459
     replace n4:=zad HB.out n4
     replace n5:=zad HB.out n5
     replace n6:=zad HB.out n6
     replace n7:=zad HB.out n7
     replace n8:=zad HB.out n8
     replace p459:=eq_true p459
     replace q459:=eq_true q459
     refine zbA (n:=8) (S:=fun w'=>w'.cell? ⟨j6,0,none⟩=some (.int .i64 x459000_1)∧w'.cell? ⟨j6,1,none⟩=some (.int .i64 x459001_1)∧w'.cell? ⟨j6,2,none⟩=some (.int .i64 x459002_1)∧w'.cell? ⟨j6,3,none⟩=some (.int .i64 x459003_1)∧w'.cell? (k5.add ((x4_1).toNat*5))=some (.int .i64 ((zag l0 x4_1).f0))∧w'.cell? ⟨(k5.add ((x4_1).toNat*5)).block,(k5.add ((x4_1).toNat*5)).off+1,none⟩=some (.int .i64 ((zag l0 x4_1).f1))∧w'.cell? ⟨(k5.add ((x4_1).toNat*5)).block,(k5.add ((x4_1).toNat*5)).off+2,none⟩=some (.int .i64 ((zag l0 x4_1).f2))∧w'.cell? ⟨(k5.add ((x4_1).toNat*5)).block,(k5.add ((x4_1).toNat*5)).off+3,none⟩=some (.int .i64 ((zag l0 x4_1).f3))∧w'.cell? ⟨(k5.add ((x4_1).toNat*5)).block,(k5.add ((x4_1).toNat*5)).off+4,none⟩=some (.int .i64 ((zag l0 x4_1).f4))) (ds:=[7]) #[false,false,false,false,false,false,false,false] (by kernel_rfl) rfl rfl ⟨zc f5.out 0,zc f5.out 1,zc f5.out 2,zc f5.out 3,(zad HB.out y7),(zad HB.out y6),(zad HB.out y5),(zad HB.out u9),(zad HB.out u7)⟩ (fun hHeld=>?_);refine zbn zaN.tab5 zaN.bits5 (fun HT_ HW_=>?_)
     generalize wr.drew=w10 at i6 f5 HB n4 n5 n6 n7 n8 hHeld ⊢
     refine zpu 1 13 HT_.out ?_
     refine zpu 2 14 HT_.out ?_
     refine zpu 3 15 HT_.out ?_
     refine ztk 0 12 HT_.out HW_.out hHeld ?_
     refine ztk 4 16 HT_.out HW_.out hHeld ?_
     refine zon 5 (some 17) HT_.out (fun K hK=>?_)
     refine zgo Try.func17 #[.agg #[.int .i64 ((zag l0 x4_1).f0),.int .i64 ((zag l0 x4_1).f1),.int .i64 ((zag l0 x4_1).f2),.int .i64 ((zag l0 x4_1).f3),.int .i64 ((zag l0 x4_1).f4)]] ?_
     with_reducible refine (zcf.calls k1 ((zag l0 x4_1).f0) ((zag l0 x4_1).f1) ((zag l0 x4_1).f2) ((zag l0 x4_1).f3) ((zag l0 x4_1).f4) C0 C1 C2 C3 _ A8.out).mono ?_
     rintro e w11 ⟨rfl,hb⟩
     refine ⟨_,rfl,?_⟩
     replace i6:=zaa.mk (zac (zB i6.out) hb)
     replace f5:=zaa.mk (zac (zB f5.out) hb)
     replace HB:=zaa.mk (zae (zL2 HB.out n3.out y9.out) hb)
     (try clear hb)
     refine hK.out _ _ ⟨zc f5.out 0,zc f5.out 1,zc f5.out 2,zc f5.out 3,(zad HB.out y7),(zad HB.out y6),(zad HB.out y5),(zad HB.out u9),(zad HB.out u7)⟩ (fun hHeld=>?_)
     clear hK K
     refine znm ?_
     refine zon 6 (some 18) HT_.out (fun K hK=>?_)
     refine zgo Try.func83 #[.agg #[.int .i64 x459000_1,.int .i64 x459001_1,.int .i64 x459002_1,.int .i64 x459003_1],.agg #[.int .i64 C0,.int .i64 C1,.int .i64 C2,.int .i64 C3]] ?_
     with_reducible refine (za6.calls k1 x459000_1 x459001_1 x459002_1 x459003_1 C0 C1 C2 C3 u6 z2 C4 C9 _ A9.out).mono ?_
     rintro e w12 ⟨rfl,hb⟩
     refine ⟨_,rfl,?_⟩
     replace i6:=zaa.mk (zac (zB i6.out) hb)
     replace f5:=zaa.mk (zac (zB f5.out) hb)
     replace HB:=zaa.mk (zae (zL2 HB.out n3.out y9.out) hb)
     (try clear hb)
     refine hK.out _ _ ⟨zc f5.out 0,zc f5.out 1,zc f5.out 2,zc f5.out 3,(zad HB.out y7),(zad HB.out y6),(zad HB.out y5),(zad HB.out u9),(zad HB.out u7)⟩ (fun hHeld=>?_)
     clear hK K
     refine znm ?_
     refine last_ (i:=7) (N:=none) #[true,true,true,true,true,true,true,true] rfl rfl (one_of HT_.out (by kernel_rfl)) (by decide) (fun K hK=>?_)
     have hs13:w12.cell? ⟨j6,0,none⟩=some (.int .i64 x459000_1):=zc f5.out 0
     have hfs13:=zaB f5.out 0
     have hns13_0:=f7.out
     have hms13_0:=j4.out
     have hs14:w12.cell? ⟨j6,1,none⟩=some (.int .i64 x459001_1):=zc f5.out 1
     have hfs14:=zaB f5.out 1
     have hns14_0:=f7.out
     have hms14_0:=j4.out
     have hs15:w12.cell? ⟨j6,2,none⟩=some (.int .i64 x459002_1):=zc f5.out 2
     have hfs15:=zaB f5.out 2
     have hns15_0:=f7.out
     have hms15_0:=j4.out
     have hs16:w12.cell? ⟨j6,3,none⟩=some (.int .i64 x459003_1):=zc f5.out 3
     have hfs16:=zaB f5.out 3
     have hns16_0:=f7.out
     have hms16_0:=j4.out
     refine skip_ (w1:=?_) (by rfl) rfl ?_ ?_
     rotate_left
     ·go_simp
      rfl
     refine hK.out _ _ ?_
     clear hK K
     refine zbT (zbB HT_.out (by kernel_rfl)) ?_
     try go_wp2
     go_roundg k1
     case measure=>have:=I8.out;omega
     case rel=>exact ⟨(wrap64 (x4_1+1)),(u6),(z2),(C4),(C9),zF,H',⟨by have:=I8.out;omega⟩,⟨by refine zB ?_;refine zaA ?_ f7.out _;refine zB ?_;refine zaA ?_ f7.out _;refine zB ?_;refine zaA ?_ f7.out _;refine zB ?_;refine zaA ?_ f7.out _;refine zB ?_;exact i6.out⟩,⟨by refine zB ?_;refine zar (cs:=#[.int .i64 u6,.int .i64 z2,.int .i64 C4,.int .i64 x459003_1]) ?_ 3 _ rfl;refine zB ?_;refine zar (cs:=#[.int .i64 u6,.int .i64 z2,.int .i64 x459002_1,.int .i64 x459003_1]) ?_ 2 _ rfl;refine zB ?_;refine zar (cs:=#[.int .i64 u6,.int .i64 x459001_1,.int .i64 x459002_1,.int .i64 x459003_1]) ?_ 1 _ rfl;refine zB ?_;refine zar (cs:=#[.int .i64 x459000_1,.int .i64 x459001_1,.int .i64 x459002_1,.int .i64 x459003_1]) ?_ 0 _ rfl;refine zB ?_;exact f5.out⟩,⟨by repeat (first|(with_reducible first|exact HB.out|apply zan|apply zaj|apply zai|refine zao ?_ n3.out|refine zao ?_ y9.out)|exact HB.out)⟩⟩
    ·rw [if_neg c7] at H
     exact absurd H (by simp)
   ·rw [if_neg c6] at H
    have c6b0:decide (x4_1<(l0.length:Int))=false:=decide_eq_false c6
    clear c6
    simp only [Option.some.injEq,Prod.mk.injEq] at H
    obtain ⟨rfl,rfl,rfl,rfl⟩:=H
    have hnb17:=j4.out
    have hnc17:=f7.out
    obtain ⟨F1,F2,F3,F4⟩:=zD4 f5.out
    obtain ⟨F5,F6,F7,F8⟩:=zE4 f5.out
    obtain ⟨s5,s6,s7,s8⟩:=zD4 i6.out
    obtain ⟨s9,t6,t7,t8⟩:=zE4 i6.out
    go_wp2
    refine bodyPost_ret (results_cell_row rfl _ _ B7 32 #[.int .i64 x459000_1,.int .i64 x459001_1,.int .i64 x459002_1,.int .i64 x459003_1] (0,0) _ rfl (by exact zB (zp4 (zB i6.out) _ _ _ _)) Try.underlying32 rfl (by kernel_rfl)) rfl ?_
    exact zG
end Go.Proofs.Ytlilncnoohfcdaa.Br
