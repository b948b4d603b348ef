
import Derived.Test.YtlilncnoohfcdaaDax0
import Derived.Test.YtlilncnoohfcdaaDax3
namespace Go.Proofs.Ytlilncnoohfcdaa.Da
open Go.RowKit Go.Proofs.YtlilncnoohfcdaaW.PrintWords Go.Proofs.YtlilncnoohfcdaaW.PrintLast Go.Proofs.YtlilncnoohfcdaaW.PrintMore
attribute [local go_sem] zbr zbu zbD zbH zbq zbp zbv zbt   
set_option linter.unusedVariables false
set_option linter.unusedSimpArgs false
/-! ### dynamics_Check: function 48 -/
mutual
def zaW.l0:Nat→List (S120)→Int→Int→Option (Int)
 | 0,_,_,_=>none
 | k+1,x9,x10,x11=>if x11<x10 then (if 0≤x11 then (if x11<(x9.length:Int) then (if ((zaE x9 x11).f0)<1 then (zaW.j1 k x9 x10 x11 true ((zaE x9 x11).f0) ((zaE x9 x11).f1) ((zaE x9 x11).f2)) else (if ((zaE x9 x11).f0) > 4 then (zaW.j1 k x9 x10 x11 true ((zaE x9 x11).f0) ((zaE x9 x11).f1) ((zaE x9 x11).f2)) else (if ((zaE x9 x11).f1)<1 then (zaW.j1 k x9 x10 x11 true ((zaE x9 x11).f0) ((zaE x9 x11).f1) ((zaE x9 x11).f2)) else (zaW.j1 k x9 x10 x11 (decide (((zaE x9 x11).f1) > 5)) ((zaE x9 x11).f0) ((zaE x9 x11).f1) ((zaE x9 x11).f2))))) else (none)) else (none)) else (some 0)
def zaW.j1:Nat→List (S120)→Int→Int→Bool→Int→Int→List (S135)→Option (Int)
 | 0,_,_,_,_,_,_,_=>none
 | k+1,x9,x10,x11,x32,x01,x02,x00=>if x32=true then (some 8) else ((zbb.f k x00).bind fun b9=>(if b9=0 then (zaW.l0 k x9 x10 (wrap64 (x11+1))) else (some b9)))
end
def zaW.f (k:Nat) (l0:List (S120)):Option (Int):=if (l0.length:Int) > 8 then (some 3) else (zaW.l0 k l0 (l0.length:Int) 0)
set_option maxHeartbeats 8000000 in
set_option maxRecDepth 100000 in
theorem zaW.calls (k:Nat) (A0:Option Addr) (c0:Nat) (l0:List (S120)) (r:Int) (w:World) (hr0:Kd.C k120 w A0 l0.length l0) (hc0:l0.length≤c0) (h:zaW.f k l0=some r) :
 Calls Try.prog 48 #[.slice A0 l0.length c0] w fun e w'=>e = .returned (.int .i64 r)∧Below w.heap.size w w':=by
 have hu120:=Try.underlying120
 have HR0:=zaa.mk hr0
 have HC0:=zaa.mk hc0
 clear hr0 hc0
 have HB:=zaa.mk (Below.refl w.heap.size w)
 have H:(if (l0.length:Int) > 8 then (some 3) else (zaW.l0 k l0 (l0.length:Int) 0))=some r:=h
 clear h
 by_cases c2:(l0.length:Int) > 8
 ·rw [if_pos c2] at H
  have c2b0:decide (8<(l0.length:Int))=true:=decide_eq_true c2
  have c2b1:decide (8<l0.length)=true:=decide_eq_true (by omega)
  clear c2
  obtain rfl:=Option.some.inj H
  go_enter Try.func48,Try.ntmps48
  go_wp2
  go_ret
  exact zG
 ·rw [if_neg c2] at H
  have c2b0:decide (8<(l0.length:Int))=false:=decide_eq_false c2
  have c2b1:decide (8<l0.length)=false:=decide_eq_false (by omega)
  clear c2
  have H':=zaa.mk H
  clear H
  go_enter Try.func48,Try.ntmps48
  go_wp2
  go_loopg [11] k (fun kq v11 w'=>∃ (x11_1:Int),v11 = .int .i64 x11_1∧zaa (zaW.l0 kq l0 (l0.length:Int) x11_1=some r)∧zaa (kq≤k)∧zaa (Below w.heap.size w w'))
  case atStart=>exact ⟨(0),zF,H',⟨Nat.le_refl _⟩,⟨by repeat (first|(with_reducible first|exact HB.out|apply zan|apply zaj|apply zai)|exact HB.out)⟩⟩
  case round=>
   clear H'
   try clear c2
   try clear c2b0
   try clear c2b1
   try clear p2
   obtain ⟨x11_1,rfl,HA,e6,HB⟩:=hrel
   cases gk with
   | zero=>exact absurd HA.out (by simp [zaW.l0])
   | succ k1=>
    have H:=HA.out
    clear HA
    simp only [zaW.l0] at H
    by_cases c3:x11_1<(l0.length:Int)
    ·rw [if_pos c3] at H
     have c3b0:decide (x11_1<(l0.length:Int))=true:=decide_eq_true c3
     clear c3
     by_cases c4:0≤x11_1
     ·rw [if_pos c4] at H
      have c4b0:decide (0≤x11_1)=true:=decide_eq_true c4
      clear c4
      by_cases c5:x11_1<(l0.length:Int)
      ·rw [if_pos c5] at H
       have c5b0:decide (x11_1<(l0.length:Int))=true:=decide_eq_true c5
       clear c5
       have HC6:=zaa.mk H
       clear H
       have p117:0≤(x11_1:Int):=of_decide_eq_true (by first|(with_reducible assumption)|assumption)
       have q117:x11_1<(l0.length:Int):=of_decide_eq_true (by first|(with_reducible assumption)|assumption)
       obtain ⟨n5,d7,d8,e117,d9,e0,e5,hl117_2,hi117_2⟩:=zcj HR0.out x11_1 p117 q117
       cases e117
       replace d9:=zad HB.out d9
       replace e0:=zad HB.out e0
       replace e5:=zad HB.out e5
       have e7:=zaa.mk hi117_2
       have e8:=zaa.mk hl117_2
       clear hi117_2 hl117_2
       replace p117:=eq_true p117
       replace q117:=eq_true q117
       go_upto_region 6 with (first|((with_reducible refine zaC (N:=4) rfl ?_);refine zbx (N:=4) #[.int .i64 0,.int .i64 0,.slice none 0 0] 120 ?_;intro d5 hg w7 hbox hb;have n0_:=zaa.mk (zae (zL HB.out) hb);have n1_:=zaa.mk (hbox);have n2_:=zaa.mk ((zS hg (zL HB.out):w.heap.size≤d5));have n3_:=n2_;clear HB;have HB:=n0_;have b8:=n1_;have n6:=n2_;have d6:=n3_;clear n0_ n1_ n2_ n3_;clear hb hbox hg;obtain ⟨k7,k8,k9⟩:=zD3 b8.out;obtain ⟨l3,l4,l5⟩:=zE3 b8.out))
       (try simp only [Act.put,List.setIfInBounds_toArray,List.set_cons_zero,List.set_cons_succ])
       go_cut [32] (fun v32 wc=>∃ (kq:Nat) (x32_5:Bool),v32 = .bool x32_5∧zaa (zaW.j1 kq l0 (l0.length:Int) x11_1 x32_5 ((zaE l0 x11_1).f0) ((zaE l0 x11_1).f1) ((zaE l0 x11_1).f2)=some r)∧zaa (kq≤k1)∧zaa (wc.heap[d5]? = some (.cells #[.int .i64 ((zaE l0 x11_1).f0),.int .i64 ((zaE l0 x11_1).f1),(.slice d7 ((zaE l0 x11_1).f2).length d8)] 120 (0,0)))∧zaa (Below w.heap.size w wc))
       case first=>
        have H:=HC6.out
        clear HC6
        by_cases c9:((zaE l0 x11_1).f0)<1
        ·rw [if_pos c9] at H
         have c9b0:decide (((zaE l0 x11_1).f0)<1)=true:=decide_eq_true c9
         clear c9
         (first|rw [c9b0]|(simp only [zbY,zcc];rw [c9b0])|skip)
         have H':=zaa.mk H
         clear H
         obtain ⟨e9,f5,f6⟩:=zD3 b8.out
         obtain ⟨f7,g9,i3⟩:=zE3 b8.out
         go_wp2
         go_meet
         case rel=>exact ⟨_,(true),zF,H',⟨by have:=e6.out;first|omega|exact Nat.le_refl _⟩,⟨by refine zB ?_;refine zar (cs:=#[.int .i64 ((zaE l0 x11_1).f0),.int .i64 ((zaE l0 x11_1).f1),.slice none 0 0]) ?_ 2 _ rfl;refine zB ?_;refine zar (cs:=#[.int .i64 ((zaE l0 x11_1).f0),.int .i64 0,.slice none 0 0]) ?_ 1 _ rfl;refine zB ?_;refine zar (cs:=#[.int .i64 0,.int .i64 0,.slice none 0 0]) ?_ 0 _ rfl;refine zB ?_;exact b8.out⟩,⟨by repeat (first|(with_reducible first|exact HB.out|apply zan|apply zaj|apply zai|refine zao ?_ d6.out)|exact HB.out)⟩⟩
        ·rw [if_neg c9] at H
         have c9b0:decide (((zaE l0 x11_1).f0)<1)=false:=decide_eq_false c9
         clear c9
         (first|rw [c9b0]|(simp only [zbY,zcc];rw [c9b0])|skip)
         by_cases c11:((zaE l0 x11_1).f0) > 4
         ·rw [if_pos c11] at H
          have c11b0:decide (4<((zaE l0 x11_1).f0))=true:=decide_eq_true c11
          clear c11
          have H':=zaa.mk H
          clear H
          obtain ⟨i4,i5,i6⟩:=zD3 b8.out
          obtain ⟨i7,i8,i9⟩:=zE3 b8.out
          go_wp2
          go_meet
          case rel=>exact ⟨_,(true),zF,H',⟨by have:=e6.out;first|omega|exact Nat.le_refl _⟩,⟨by refine zB ?_;refine zar (cs:=#[.int .i64 ((zaE l0 x11_1).f0),.int .i64 ((zaE l0 x11_1).f1),.slice none 0 0]) ?_ 2 _ rfl;refine zB ?_;refine zar (cs:=#[.int .i64 ((zaE l0 x11_1).f0),.int .i64 0,.slice none 0 0]) ?_ 1 _ rfl;refine zB ?_;refine zar (cs:=#[.int .i64 0,.int .i64 0,.slice none 0 0]) ?_ 0 _ rfl;refine zB ?_;exact b8.out⟩,⟨by repeat (first|(with_reducible first|exact HB.out|apply zan|apply zaj|apply zai|refine zao ?_ d6.out)|exact HB.out)⟩⟩
         ·rw [if_neg c11] at H
          have c11b0:decide (4<((zaE l0 x11_1).f0))=false:=decide_eq_false c11
          clear c11
          by_cases c13:((zaE l0 x11_1).f1)<1
          ·rw [if_pos c13] at H
           have c13b0:decide (((zaE l0 x11_1).f1)<1)=true:=decide_eq_true c13
           clear c13
           have H':=zaa.mk H
           clear H
           obtain ⟨j2,j3,j4⟩:=zD3 b8.out
           obtain ⟨j5,j6,j7⟩:=zE3 b8.out
           go_wp2
           go_meet
           case rel=>exact ⟨_,(true),zF,H',⟨by have:=e6.out;first|omega|exact Nat.le_refl _⟩,⟨by refine zB ?_;refine zar (cs:=#[.int .i64 ((zaE l0 x11_1).f0),.int .i64 ((zaE l0 x11_1).f1),.slice none 0 0]) ?_ 2 _ rfl;refine zB ?_;refine zar (cs:=#[.int .i64 ((zaE l0 x11_1).f0),.int .i64 0,.slice none 0 0]) ?_ 1 _ rfl;refine zB ?_;refine zar (cs:=#[.int .i64 0,.int .i64 0,.slice none 0 0]) ?_ 0 _ rfl;refine zB ?_;exact b8.out⟩,⟨by repeat (first|(with_reducible first|exact HB.out|apply zan|apply zaj|apply zai|refine zao ?_ d6.out)|exact HB.out)⟩⟩
          ·rw [if_neg c13] at H
           have c13b0:decide (((zaE l0 x11_1).f1)<1)=false:=decide_eq_false c13
           clear c13
           have H':=zaa.mk H
           clear H
           obtain ⟨j8,j9,k3⟩:=zD3 b8.out
           obtain ⟨k4,k5,k6⟩:=zE3 b8.out
           go_wp2
           go_meet
           case rel=>exact ⟨_,(decide (((zaE l0 x11_1).f1) > 5)),zF,H',⟨by have:=e6.out;first|omega|exact Nat.le_refl _⟩,⟨by refine zB ?_;refine zar (cs:=#[.int .i64 ((zaE l0 x11_1).f0),.int .i64 ((zaE l0 x11_1).f1),.slice none 0 0]) ?_ 2 _ rfl;refine zB ?_;refine zar (cs:=#[.int .i64 ((zaE l0 x11_1).f0),.int .i64 0,.slice none 0 0]) ?_ 1 _ rfl;refine zB ?_;refine zar (cs:=#[.int .i64 0,.int .i64 0,.slice none 0 0]) ?_ 0 _ rfl;refine zB ?_;exact b8.out⟩,⟨by repeat (first|(with_reducible first|exact HB.out|apply zan|apply zaj|apply zai|refine zao ?_ d6.out)|exact HB.out)⟩⟩
       case rest=>
        clear HC6
        try clear c1
        try clear p1
        try clear q1
        try clear hx1
        try clear c2
        try clear c2b0
        try clear c2b1
        try clear p2
        try clear c3
        try clear c3b0
        try clear c4
        try clear c4b0
        try clear c5
        try clear c5b0
        try clear c9
        try clear c9b0
        try clear c11
        try clear c11b0
        try clear p11
        try clear q11
        try clear hx11
        try clear c13
        try clear c13b0
        try clear e9 f5 f6 i4 i5 i6 j2 j3 j4 j8 j9 k3 k7 k8 k9 f7 g9 i3 i7 i8 i9 j5 j6 j7 k4 k5 k6 l3 l4 l5
        try clear d9
        try clear e0
        try clear e5
        try clear p117
        try clear p2
        try clear q117
        obtain ⟨kq,x32_5,rfl,HA,HJ5,b8,HB⟩:=hcut
        cases kq with
        | zero=>exact absurd HA.out (by simp [zaW.j1])
        | succ kj5=>
         have H:=HA.out
         clear HA
         simp only [zaW.j1] at H
         by_cases c16:x32_5=true
         ·subst c16
          have H1:(some 8)=some r:=by rw [if_pos rfl] at H;exact H
          clear H
          have H:=H1
          clear H1
          obtain rfl:=Option.some.inj H
          go_wp2
          go_ret
          exact zG
         ·replace c16:=Bool.eq_false_iff.mpr c16
          subst c16
          have H1:((zbb.f kj5 ((zaE l0 x11_1).f2)).bind fun b9=>(if b9=0 then (zaW.l0 kj5 l0 (l0.length:Int) (wrap64 (x11_1+1))) else (some b9)))=some r:=by rw [if_neg (show ¬ (false=true) by decide)] at H;exact H
          clear H
          have H:=H1
          clear H1
          obtain ⟨b9,A17,H⟩:=zob H
          replace H:(if b9=0 then (zaW.l0 kj5 l0 (l0.length:Int) (wrap64 (x11_1+1))) else (some b9))=some r:=H
          by_cases c18:b9=0
          ·rw [if_pos c18] at H
           have c18b0:(b9==0)=true:=beq_iff_eq.mpr c18
           have c18b1:(b9 != 0)=false:=bne_eq_false_iff_eq.mpr c18
           clear c18
           have H':=zaa.mk H
           clear H
           have l6:wc.cell? ⟨d5,0,none⟩=some (.int .i64 ((zaE l0 x11_1).f0)):=zc b8.out 0
           have l7:wc.cell? ⟨d5,1,none⟩=some (.int .i64 ((zaE l0 x11_1).f1)):=zc b8.out 1
           have l8:wc.cell? ⟨d5,2,none⟩=some (.slice d7 ((zaE l0 x11_1).f2).length d8):=zc b8.out 2
           obtain ⟨l9,m5,m6⟩:=zE3 b8.out
           go_wp2_with (first|((with_reducible refine zah (f:=105) rfl ?_);refine zgl 35 Try.func105 #[.slice d7 ((zaE l0 x11_1).f2).length d8] ?_;(with_reducible refine (zbb.calls kj5 _ _ ((zaE l0 x11_1).f2) b9 _ ?side1 ?side2 A17.out).mono ?_);(case side1=>repeat (first|exact (Kd.C_below e7.out HB.out)|(with_reducible refine Kd.C_alloc ?_ _)|(with_reducible refine Kd.C_drewN ?_ _)|(with_reducible refine Kd.C_drew ?_)));(case side2=>exact e8.out);rintro e w20 ⟨rfl,hb⟩;refine ⟨_,rfl,?_⟩;replace b8:=zaa.mk (zac (zB b8.out) hb);replace HB:=zaa.mk (zae (zL1 HB.out d6.out) hb);(try clear hb)))
           go_roundg kj5
           case measure=>have:=e6.out;have:=HJ5.out;omega
           case rel=>exact ⟨(wrap64 (x11_1+1)),zF,H',⟨by have:=e6.out;have:=HJ5.out;omega⟩,⟨by repeat (first|(with_reducible first|exact HB.out|apply zan|apply zaj|apply zai|refine zao ?_ d6.out)|exact HB.out)⟩⟩
          ·rw [if_neg c18] at H
           have c18b0:(b9==0)=false:=beq_eq_false_iff_ne.mpr c18
           have c18b1:(b9 != 0)=true:=bne_iff_ne.mpr c18
           obtain rfl:=Option.some.inj H
           have m7:wc.cell? ⟨d5,0,none⟩=some (.int .i64 ((zaE l0 x11_1).f0)):=zc b8.out 0
           have m8:wc.cell? ⟨d5,1,none⟩=some (.int .i64 ((zaE l0 x11_1).f1)):=zc b8.out 1
           have m9:wc.cell? ⟨d5,2,none⟩=some (.slice d7 ((zaE l0 x11_1).f2).length d8):=zc b8.out 2
           obtain ⟨n0,n3,n4⟩:=zE3 b8.out
           go_wp2_with (first|((with_reducible refine zah (f:=105) rfl ?_);refine zgl 35 Try.func105 #[.slice d7 ((zaE l0 x11_1).f2).length d8] ?_;(with_reducible refine (zbb.calls kj5 _ _ ((zaE l0 x11_1).f2) b9 _ ?side1 ?side2 A17.out).mono ?_);(case side1=>repeat (first|exact (Kd.C_below e7.out HB.out)|(with_reducible refine Kd.C_alloc ?_ _)|(with_reducible refine Kd.C_drewN ?_ _)|(with_reducible refine Kd.C_drew ?_)));(case side2=>exact e8.out);rintro e w22 ⟨rfl,hb⟩;refine ⟨_,rfl,?_⟩;replace b8:=zaa.mk (zac (zB b8.out) hb);replace HB:=zaa.mk (zae (zL1 HB.out d6.out) hb);(try clear hb)))
           go_ret
           exact zG
      ·rw [if_neg c5] at H
       exact absurd H (by simp)
     ·rw [if_neg c4] at H
      exact absurd H (by simp)
    ·rw [if_neg c3] at H
     have c3b0:decide (x11_1<(l0.length:Int))=false:=decide_eq_false c3
     clear c3
     obtain rfl:=Option.some.inj H
     go_wp2
     go_ret
     exact zG
end Go.Proofs.Ytlilncnoohfcdaa.Da
