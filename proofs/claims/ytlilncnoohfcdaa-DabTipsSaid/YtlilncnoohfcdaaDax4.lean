
import Derived.Test.YtlilncnoohfcdaaDax0
import Derived.Test.YtlilncnoohfcdaaDax3
namespace Go.Proofs.Ytlilncnoohfcdaa.Da
open Go.RowKit Go.Proofs.YtlilncnoohfcdaaW.PrintWords Go.Proofs.YtlilncnoohfcdaaW.PrintLast Go.Proofs.YtlilncnoohfcdaaW.PrintMore
attribute [local go_sem] max2_int min2_int zbo zbp zbc zbd zbj zbk   
set_option linter.unusedVariables false
set_option linter.unusedSimpArgs false
/-! ### dynamics_Check: function 48 -/
mutual
def zaw.l0:Nat→List (S120)→Int→Int→Option (Int)
 | 0,_,_,_=>none
 | k+1,x9,x10,x11=>if x11<x10 then (if 0≤x11 then (if x11<(x9.length:Int) then (if ((zaF x9 x11).f0)<1 then (zaw.j1 k x9 x10 x11 true ((zaF x9 x11).f0) ((zaF x9 x11).f1) ((zaF x9 x11).f2)) else (if ((zaF x9 x11).f0) > 4 then (zaw.j1 k x9 x10 x11 true ((zaF x9 x11).f0) ((zaF x9 x11).f1) ((zaF x9 x11).f2)) else (if ((zaF x9 x11).f1)<1 then (zaw.j1 k x9 x10 x11 true ((zaF x9 x11).f0) ((zaF x9 x11).f1) ((zaF x9 x11).f2)) else (zaw.j1 k x9 x10 x11 (decide (((zaF x9 x11).f1) > 5)) ((zaF x9 x11).f0) ((zaF x9 x11).f1) ((zaF x9 x11).f2))))) else (none)) else (none)) else (some 0)
def zaw.j1:Nat→List (S120)→Int→Int→Bool→Int→Int→List (S135)→Option (Int)
 | 0,_,_,_,_,_,_,_=>none
 | k+1,x9,x10,x11,x32,x01,x02,x00=>if x32=true then (some 8) else ((zaE.f k x00).bind fun t119=>(if t119=0 then (zaw.l0 k x9 x10 (wrap64 (x11+1))) else (some t119)))
end
def zaw.f (k:Nat) (l0:List (S120)):Option (Int):=if (l0.length:Int) > 8 then (some 3) else (zaw.l0 k l0 (l0.length:Int) 0)
theorem zaw.mono_l : ∀ k,(∀ y0 y1 y2,LeO (zaw.l0 k y0 y1 y2) (zaw.l0 (k+1) y0 y1 y2))∧(∀ y0 y1 y2 y3 y4 y5 y6,LeO (zaw.j1 k y0 y1 y2 y3 y4 y5 y6) (zaw.j1 (k+1) y0 y1 y2 y3 y4 y5 y6))
 | 0=>⟨fun _ _ _ r h=>by simp [zaw.l0] at h,fun _ _ _ _ _ _ _ r h=>by simp [zaw.j1] at h⟩
 | k+1=>by
  obtain ⟨ih0,ih1⟩:=zaw.mono_l k
  refine ⟨?_,?_⟩
  ·intro y0 y1 y2
   unfold zaw.l0
   repeat' first
   | (with_reducible exact ih0 _ _ _)
   | (with_reducible exact ih1 _ _ _ _ _ _ _)
   | (with_reducible exact zaE.mono _ _)
   | (with_reducible exact LeO.refl _)
   | (with_reducible exact LeO.none _)
   | (with_reducible refine LeO.ite ?_ ?_)
   | (with_reducible refine LeO.bind ?_ (fun _=>?_))
   | exact ih0 _ _ _
   | exact ih1 _ _ _ _ _ _ _
   | exact zaE.mono _ _
   | exact LeO.none _
   | refine LeO.ite ?_ ?_
   | refine LeO.bind ?_ (fun _=>?_)
  ·intro y0 y1 y2 y3 y4 y5 y6
   unfold zaw.j1
   repeat' first
   | (with_reducible exact ih0 _ _ _)
   | (with_reducible exact ih1 _ _ _ _ _ _ _)
   | (with_reducible exact zaE.mono _ _)
   | (with_reducible exact LeO.refl _)
   | (with_reducible exact LeO.none _)
   | (with_reducible refine LeO.ite ?_ ?_)
   | (with_reducible refine LeO.bind ?_ (fun _=>?_))
   | exact ih0 _ _ _
   | exact ih1 _ _ _ _ _ _ _
   | exact zaE.mono _ _
   | exact LeO.none _
   | refine LeO.ite ?_ ?_
   | refine LeO.bind ?_ (fun _=>?_)
theorem zaw.mono : ∀ a0 k,LeO (zaw.f k a0) (zaw.f (k+1) a0):=by
 intro a0 k
 obtain ⟨ih0,ih1⟩:=zaw.mono_l k
 unfold zaw.f
 repeat' first
  | (with_reducible exact ih0 _ _ _)
  | (with_reducible exact ih1 _ _ _ _ _ _ _)
  | (with_reducible exact zaE.mono _ _)
  | (with_reducible exact LeO.refl _)
  | (with_reducible exact LeO.none _)
  | (with_reducible refine LeO.ite ?_ ?_)
  | (with_reducible refine LeO.bind ?_ (fun _=>?_))
  | exact ih0 _ _ _
  | exact ih1 _ _ _ _ _ _ _
  | exact zaE.mono _ _
  | exact LeO.none _
  | refine LeO.ite ?_ ?_
  | refine LeO.bind ?_ (fun _=>?_)
set_option maxHeartbeats 8000000 in
set_option maxRecDepth 100000 in
theorem zaw.calls (k:Nat) (A0:Option Addr) (c0:Nat) (l0:List (S120)) (r:Int) (w:World) (hr0:Kd.C k120 w A0 l0.length l0) (hc0:l0.length≤c0) (h:zaw.f k l0=some r) :
 Calls Try.prog 48 #[.slice A0 l0.length c0] w fun e w'=>e = .returned (.int .i64 r)∧Below w.heap.size w w':=by
 have hu120:=Try.underlying120
 have HR0:=Aside0.mk hr0
 have HC0:=Aside0.mk hc0
 clear hr0 hc0
 have HB:=Aside0.mk (Below.refl w.heap.size w)
 have H:(if (l0.length:Int) > 8 then (some 3) else (zaw.l0 k l0 (l0.length:Int) 0))=some r:=h
 clear h
 by_cases c2:(l0.length:Int) > 8
 ·rw [if_pos c2] at H
  have c2b0:decide (8<(l0.length:Int))=true:=decide_eq_true c2
  have c2b1:decide (8<l0.length)=true:=decide_eq_true (by omega)
  clear c2
  obtain rfl:=Option.some.inj H
  go_enter Try.func48,Try.ntmps48
  go_wp2
  go_ret
  exact ⟨by first|rfl|(simp [errW_none,errW_some] <;> rfl)|(simp [*,errW_none,errW_some] <;> rfl),by repeat (first|(with_reducible first|exact HB.out|apply zai|apply zaf|apply zag)|exact HB.out)⟩
 ·rw [if_neg c2] at H
  have c2b0:decide (8<(l0.length:Int))=false:=decide_eq_false c2
  have c2b1:decide (8<l0.length)=false:=decide_eq_false (by omega)
  clear c2
  have H':=Aside0.mk H
  clear H
  go_enter Try.func48,Try.ntmps48
  go_wp2
  go_loopg [11] k (fun kq v11 w'=>∃ (x11_1:Int),v11 = .int .i64 x11_1∧Aside0 (zaw.l0 kq l0 (l0.length:Int) x11_1=some r)∧Aside0 (kq≤k)∧Aside0 (Below w.heap.size w w'))
  case atStart=>exact ⟨(0),zF,H',⟨Nat.le_refl _⟩,⟨by repeat (first|(with_reducible first|exact HB.out|apply zai|apply zaf|apply zag)|exact HB.out)⟩⟩
  case round=>
   clear H'
   try clear c2
   try clear c2b0
   try clear c2b1
   try clear p2
   obtain ⟨x11_1,rfl,HA,HK1,HB⟩:=hrel
   cases gk with
   | zero=>exact absurd HA.out (by simp [zaw.l0])
   | succ k1=>
    have H:=HA.out
    clear HA
    simp only [zaw.l0] at H
    by_cases c3:x11_1<(l0.length:Int)
    ·rw [if_pos c3] at H
     have c3b0:decide (x11_1<(l0.length:Int))=true:=decide_eq_true c3
     clear c3
     by_cases c4:0≤x11_1
     ·rw [if_pos c4] at H
      have c4b0:decide (0≤x11_1)=true:=decide_eq_true c4
      clear c4
      by_cases c5:x11_1<(l0.length:Int)
      ·rw [if_pos c5] at H
       have c5b0:decide (x11_1<(l0.length:Int))=true:=decide_eq_true c5
       clear c5
       have HC6:=Aside0.mk H
       clear H
       have p117:0≤(x11_1:Int):=of_decide_eq_true (by first|(with_reducible assumption)|assumption)
       have q117:x11_1<(l0.length:Int):=of_decide_eq_true (by first|(with_reducible assumption)|assumption)
       obtain ⟨ad117,A117_2,c117_2,e117,hx117_0,hx117_1,hx117_2,hl117_2,hi117_2⟩:=at_T120 HR0.out x11_1 p117 q117
       cases e117
       replace hx117_0:=(HB.out.cell (World.block_lt_of_cell? w _ hx117_0)).trans hx117_0
       replace hx117_1:=(HB.out.cell (World.block_lt_of_cell? w _ hx117_1)).trans hx117_1
       replace hx117_2:=(HB.out.cell (World.block_lt_of_cell? w _ hx117_2)).trans hx117_2
       have HR117_2:=Aside0.mk hi117_2
       have HC117_2:=Aside0.mk hl117_2
       clear hi117_2 hl117_2
       replace p117:=eq_true p117
       replace q117:=eq_true q117
       go_upto_region 6 with (first|((with_reducible refine zaA (N:=4) rfl ?_);refine zav ?hg (N:=4) ?hd (cs:=#[.int .i64 0,.int .i64 0,.slice none 0 0]) (t:=120) ?hr ?_;(case hd=>rfl);(case hg=>rfl);(case hr=>first|(go_simp;done)|(go_simp;rfl));intro gb118 hg w7 hbox hb;have n0_:=Aside0.mk (zad (zL HB.out) hb);have n1_:=Aside0.mk (hbox);have n2_:=Aside0.mk ((zS hg (zL HB.out):w.heap.size≤gb118));have n3_:=Aside0.mk ((zS hg (zL HB.out):w.heap.size≤gb118));clear HB;have HB:=n0_;have BK118:=n1_;have GW118:=n2_;have GE118:=n3_;clear n0_ n1_ n2_ n3_;clear hb hbox hg;obtain ⟨hcz8_0,hcz8_1,hcz8_2⟩:=zD3 BK118.out;obtain ⟨hfz8_0,hfz8_1,hfz8_2⟩:=zE3 BK118.out))
       (try simp only [Act.put,List.setIfInBounds_toArray,List.set_cons_zero,List.set_cons_succ])
       go_cut [32] (fun v32 wc=>∃ (kq:Nat) (x32_5:Bool),v32 = .bool x32_5∧Aside0 (zaw.j1 kq l0 (l0.length:Int) x11_1 x32_5 ((zaF l0 x11_1).f0) ((zaF l0 x11_1).f1) ((zaF l0 x11_1).f2)=some r)∧Aside0 (kq≤k1)∧Aside0 (wc.heap[gb118]? = some (.cells #[.int .i64 ((zaF l0 x11_1).f0),.int .i64 ((zaF l0 x11_1).f1),(.slice A117_2 ((zaF l0 x11_1).f2).length c117_2)] 120 (0,0)))∧Aside0 (Below w.heap.size w wc))
       case first=>
        have H:=HC6.out
        clear HC6
        by_cases c9:((zaF l0 x11_1).f0)<1
        ·rw [if_pos c9] at H
         have c9b0:decide (((zaF l0 x11_1).f0)<1)=true:=decide_eq_true c9
         clear c9
         (first|rw [c9b0]|(simp only [i64_w,i32_w];rw [c9b0])|skip)
         have H':=Aside0.mk H
         clear H
         obtain ⟨hcz10_0,hcz10_1,hcz10_2⟩:=zD3 BK118.out
         obtain ⟨hfz10_0,hfz10_1,hfz10_2⟩:=zE3 BK118.out
         go_wp2
         go_meet
         case rel=>exact ⟨_,(true),zF,H',⟨by have:=HK1.out;first|omega|exact Nat.le_refl _⟩,⟨by refine zB ?_;refine zae (cs:=#[.int .i64 ((zaF l0 x11_1).f0),.int .i64 ((zaF l0 x11_1).f1),.slice none 0 0]) ?_ 2 _ rfl;refine zB ?_;refine zae (cs:=#[.int .i64 ((zaF l0 x11_1).f0),.int .i64 0,.slice none 0 0]) ?_ 1 _ rfl;refine zB ?_;refine zae (cs:=#[.int .i64 0,.int .i64 0,.slice none 0 0]) ?_ 0 _ rfl;refine zB ?_;exact BK118.out⟩,⟨by repeat (first|(with_reducible first|exact HB.out|apply zai|apply zaf|apply zag|refine zac ?_ GE118.out)|exact HB.out)⟩⟩
        ·rw [if_neg c9] at H
         have c9b0:decide (((zaF l0 x11_1).f0)<1)=false:=decide_eq_false c9
         clear c9
         (first|rw [c9b0]|(simp only [i64_w,i32_w];rw [c9b0])|skip)
         by_cases c11:((zaF l0 x11_1).f0) > 4
         ·rw [if_pos c11] at H
          have c11b0:decide (4<((zaF l0 x11_1).f0))=true:=decide_eq_true c11
          clear c11
          have H':=Aside0.mk H
          clear H
          obtain ⟨hcz12_0,hcz12_1,hcz12_2⟩:=zD3 BK118.out
          obtain ⟨hfz12_0,hfz12_1,hfz12_2⟩:=zE3 BK118.out
          go_wp2
          go_meet
          case rel=>exact ⟨_,(true),zF,H',⟨by have:=HK1.out;first|omega|exact Nat.le_refl _⟩,⟨by refine zB ?_;refine zae (cs:=#[.int .i64 ((zaF l0 x11_1).f0),.int .i64 ((zaF l0 x11_1).f1),.slice none 0 0]) ?_ 2 _ rfl;refine zB ?_;refine zae (cs:=#[.int .i64 ((zaF l0 x11_1).f0),.int .i64 0,.slice none 0 0]) ?_ 1 _ rfl;refine zB ?_;refine zae (cs:=#[.int .i64 0,.int .i64 0,.slice none 0 0]) ?_ 0 _ rfl;refine zB ?_;exact BK118.out⟩,⟨by repeat (first|(with_reducible first|exact HB.out|apply zai|apply zaf|apply zag|refine zac ?_ GE118.out)|exact HB.out)⟩⟩
         ·rw [if_neg c11] at H
          have c11b0:decide (4<((zaF l0 x11_1).f0))=false:=decide_eq_false c11
          clear c11
          by_cases c13:((zaF l0 x11_1).f1)<1
          ·rw [if_pos c13] at H
           have c13b0:decide (((zaF l0 x11_1).f1)<1)=true:=decide_eq_true c13
           clear c13
           have H':=Aside0.mk H
           clear H
           obtain ⟨hcz14_0,hcz14_1,hcz14_2⟩:=zD3 BK118.out
           obtain ⟨hfz14_0,hfz14_1,hfz14_2⟩:=zE3 BK118.out
           go_wp2
           go_meet
           case rel=>exact ⟨_,(true),zF,H',⟨by have:=HK1.out;first|omega|exact Nat.le_refl _⟩,⟨by refine zB ?_;refine zae (cs:=#[.int .i64 ((zaF l0 x11_1).f0),.int .i64 ((zaF l0 x11_1).f1),.slice none 0 0]) ?_ 2 _ rfl;refine zB ?_;refine zae (cs:=#[.int .i64 ((zaF l0 x11_1).f0),.int .i64 0,.slice none 0 0]) ?_ 1 _ rfl;refine zB ?_;refine zae (cs:=#[.int .i64 0,.int .i64 0,.slice none 0 0]) ?_ 0 _ rfl;refine zB ?_;exact BK118.out⟩,⟨by repeat (first|(with_reducible first|exact HB.out|apply zai|apply zaf|apply zag|refine zac ?_ GE118.out)|exact HB.out)⟩⟩
          ·rw [if_neg c13] at H
           have c13b0:decide (((zaF l0 x11_1).f1)<1)=false:=decide_eq_false c13
           clear c13
           have H':=Aside0.mk H
           clear H
           obtain ⟨hcz15_0,hcz15_1,hcz15_2⟩:=zD3 BK118.out
           obtain ⟨hfz15_0,hfz15_1,hfz15_2⟩:=zE3 BK118.out
           go_wp2
           go_meet
           case rel=>exact ⟨_,(decide (((zaF l0 x11_1).f1) > 5)),zF,H',⟨by have:=HK1.out;first|omega|exact Nat.le_refl _⟩,⟨by refine zB ?_;refine zae (cs:=#[.int .i64 ((zaF l0 x11_1).f0),.int .i64 ((zaF l0 x11_1).f1),.slice none 0 0]) ?_ 2 _ rfl;refine zB ?_;refine zae (cs:=#[.int .i64 ((zaF l0 x11_1).f0),.int .i64 0,.slice none 0 0]) ?_ 1 _ rfl;refine zB ?_;refine zae (cs:=#[.int .i64 0,.int .i64 0,.slice none 0 0]) ?_ 0 _ rfl;refine zB ?_;exact BK118.out⟩,⟨by repeat (first|(with_reducible first|exact HB.out|apply zai|apply zaf|apply zag|refine zac ?_ GE118.out)|exact HB.out)⟩⟩
       case rest=>
        clear HC6
        try clear c1
        try clear p1
        try clear q1
        try clear hx1
        try clear c2
        try clear c2b0
        try clear c2b1
        try clear p2
        try clear c3
        try clear c3b0
        try clear c4
        try clear c4b0
        try clear c5
        try clear c5b0
        try clear c9
        try clear c9b0
        try clear c11
        try clear c11b0
        try clear p11
        try clear q11
        try clear hx11
        try clear c13
        try clear c13b0
        try clear hcz10_0 hcz10_1 hcz10_2 hcz12_0 hcz12_1 hcz12_2 hcz14_0 hcz14_1 hcz14_2 hcz15_0 hcz15_1 hcz15_2 hcz8_0 hcz8_1 hcz8_2 hfz10_0 hfz10_1 hfz10_2 hfz12_0 hfz12_1 hfz12_2 hfz14_0 hfz14_1 hfz14_2 hfz15_0 hfz15_1 hfz15_2 hfz8_0 hfz8_1 hfz8_2
        try clear hx117_0
        try clear hx117_1
        try clear hx117_2
        try clear p117
        try clear p2
        try clear q117
        obtain ⟨kq,x32_5,rfl,HA,HJ5,BK118,HB⟩:=hcut
        cases kq with
        | zero=>exact absurd HA.out (by simp [zaw.j1])
        | succ kj5=>
         have H:=HA.out
         clear HA
         simp only [zaw.j1] at H
         by_cases c16:x32_5=true
         ·subst c16
          have H1:(some 8)=some r:=by rw [if_pos rfl] at H;exact H
          clear H
          have H:=H1
          clear H1
          obtain rfl:=Option.some.inj H
          go_wp2
          go_ret
          exact ⟨by first|rfl|(simp [errW_none,errW_some] <;> rfl)|(simp [*,errW_none,errW_some] <;> rfl),by repeat (first|(with_reducible first|exact HB.out|apply zai|apply zaf|apply zag|refine zac ?_ GE118.out)|exact HB.out)⟩
         ·replace c16:=Bool.eq_false_iff.mpr c16
          subst c16
          have H1:((zaE.f kj5 ((zaF l0 x11_1).f2)).bind fun t119=>(if t119=0 then (zaw.l0 kj5 l0 (l0.length:Int) (wrap64 (x11_1+1))) else (some t119)))=some r:=by rw [if_neg (show ¬ (false=true) by decide)] at H;exact H
          clear H
          have H:=H1
          clear H1
          replace H:=Option.bind_eq_some_iff.mp H
          obtain ⟨t119,A170,H⟩:=H
          replace H:(if t119=0 then (zaw.l0 kj5 l0 (l0.length:Int) (wrap64 (x11_1+1))) else (some t119))=some r:=H
          have A17:=Aside0.mk A170
          clear A170
          by_cases c18:t119=0
          ·rw [if_pos c18] at H
           have c18b0:(t119==0)=true:=beq_iff_eq.mpr c18
           have c18b1:(t119 != 0)=false:=bne_eq_false_iff_eq.mpr c18
           clear c18
           have H':=Aside0.mk H
           clear H
           have hcz19_0:wc.cell? ⟨gb118,0,none⟩=some (.int .i64 ((zaF l0 x11_1).f0)):=zc BK118.out 0
           have hcz19_1:wc.cell? ⟨gb118,1,none⟩=some (.int .i64 ((zaF l0 x11_1).f1)):=zc BK118.out 1
           have hcz19_2:wc.cell? ⟨gb118,2,none⟩=some (.slice A117_2 ((zaF l0 x11_1).f2).length c117_2):=zc BK118.out 2
           obtain ⟨hfz19_0,hfz19_1,hfz19_2⟩:=zE3 BK118.out
           go_wp2_with (first|((with_reducible refine zal (f:=105) rfl ?_);refine goesL_ (some 35) rfl rfl Try.func105 (by kernel_rfl) rfl #[.slice A117_2 ((zaF l0 x11_1).f2).length c117_2] rfl zA ?_;(with_reducible refine (zaE.calls kj5 _ _ ((zaF l0 x11_1).f2) t119 _ ?side1 ?side2 A17.out).mono ?_);(case side1=>repeat (first|exact (Kd.C_below HR117_2.out HB.out)|(with_reducible refine Kd.C_alloc ?_ _)|(with_reducible refine Kd.C_drewN ?_ _)|(with_reducible refine Kd.C_drew ?_)));(case side2=>exact HC117_2.out);rintro e w20 ⟨rfl,hb⟩;refine ⟨_,rfl,?_⟩;replace BK118:=Aside0.mk (zaa (zB BK118.out) hb);replace HB:=Aside0.mk (zad (zL1 HB.out GE118.out) hb);(try clear hb);(try clear hb2);(try clear hk);(try clear hi)))
           go_roundg kj5
           case measure=>have:=HK1.out;have:=HJ5.out;omega
           case rel=>exact ⟨(wrap64 (x11_1+1)),zF,H',⟨by have:=HK1.out;have:=HJ5.out;omega⟩,⟨by repeat (first|(with_reducible first|exact HB.out|apply zai|apply zaf|apply zag|refine zac ?_ GE118.out)|exact HB.out)⟩⟩
          ·rw [if_neg c18] at H
           have c18b0:(t119==0)=false:=beq_eq_false_iff_ne.mpr c18
           have c18b1:(t119 != 0)=true:=bne_iff_ne.mpr c18
           obtain rfl:=Option.some.inj H
           have hcz21_0:wc.cell? ⟨gb118,0,none⟩=some (.int .i64 ((zaF l0 x11_1).f0)):=zc BK118.out 0
           have hcz21_1:wc.cell? ⟨gb118,1,none⟩=some (.int .i64 ((zaF l0 x11_1).f1)):=zc BK118.out 1
           have hcz21_2:wc.cell? ⟨gb118,2,none⟩=some (.slice A117_2 ((zaF l0 x11_1).f2).length c117_2):=zc BK118.out 2
           obtain ⟨hfz21_0,hfz21_1,hfz21_2⟩:=zE3 BK118.out
           go_wp2_with (first|((with_reducible refine zal (f:=105) rfl ?_);refine goesL_ (some 35) rfl rfl Try.func105 (by kernel_rfl) rfl #[.slice A117_2 ((zaF l0 x11_1).f2).length c117_2] rfl zA ?_;(with_reducible refine (zaE.calls kj5 _ _ ((zaF l0 x11_1).f2) t119 _ ?side1 ?side2 A17.out).mono ?_);(case side1=>repeat (first|exact (Kd.C_below HR117_2.out HB.out)|(with_reducible refine Kd.C_alloc ?_ _)|(with_reducible refine Kd.C_drewN ?_ _)|(with_reducible refine Kd.C_drew ?_)));(case side2=>exact HC117_2.out);rintro e w22 ⟨rfl,hb⟩;refine ⟨_,rfl,?_⟩;replace BK118:=Aside0.mk (zaa (zB BK118.out) hb);replace HB:=Aside0.mk (zad (zL1 HB.out GE118.out) hb);(try clear hb);(try clear hb2);(try clear hk);(try clear hi)))
           go_ret
           exact ⟨by first|rfl|(simp [errW_none,errW_some] <;> rfl)|(simp [*,errW_none,errW_some] <;> rfl),by repeat (first|(with_reducible first|exact HB.out|apply zai|apply zaf|apply zag|refine zac ?_ GE118.out)|exact HB.out)⟩
      ·rw [if_neg c5] at H
       exact absurd H (by simp)
     ·rw [if_neg c4] at H
      exact absurd H (by simp)
    ·rw [if_neg c3] at H
     have c3b0:decide (x11_1<(l0.length:Int))=false:=decide_eq_false c3
     clear c3
     obtain rfl:=Option.some.inj H
     go_wp2
     go_ret
     exact ⟨by first|rfl|(simp [errW_none,errW_some] <;> rfl)|(simp [*,errW_none,errW_some] <;> rfl),by repeat (first|(with_reducible first|exact HB.out|apply zai|apply zaf|apply zag)|exact HB.out)⟩
end Go.Proofs.Ytlilncnoohfcdaa.Da
