
import Derived.Test.YtlilncnoohfcdaaDax0
import Derived.Test.YtlilncnoohfcdaaDax11
namespace Go.Proofs.Ytlilncnoohfcdaa.Da
open Go.RowKit Go.Proofs.YtlilncnoohfcdaaW.PrintWords Go.Proofs.YtlilncnoohfcdaaW.PrintLast Go.Proofs.YtlilncnoohfcdaaW.PrintMore
attribute [local go_sem] zbr zbu zbD zbH zbq zbp zbv zbt   
set_option linter.unusedVariables false
set_option linter.unusedSimpArgs false
/-! ### imageeditorref26_Check: function 51 -/
mutual
def zaI.l0:Nat→List (S120)→Int→Option (Int)
 | 0,_,_=>none
 | k+1,x0,x3=>if x3<(x0.length:Int) then (if 0≤x3 then (if ((zaE x0 x3).f0)<1 then (zaI.j1 k x0 x3 true) else (if ((zaE x0 x3).f0) > 4 then (zaI.j1 k x0 x3 true) else (if ((zaE x0 x3).f1)<1 then (zaI.j1 k x0 x3 true) else (zaI.j1 k x0 x3 (decide (((zaE x0 x3).f1) > 5)))))) else (none)) else (some 0)
def zaI.j1:Nat→List (S120)→Int→Bool→Option (Int)
 | 0,_,_,_=>none
 | k+1,x0,x3,x43=>if x43=true then (some 8) else (if 0≤x3 then (if x3<(x0.length:Int) then ((zaH.f k ((zaE x0 x3).f2)).bind fun b9=>(if b9=0 then (zaI.l0 k x0 (wrap64 (x3+1))) else (some b9))) else (none)) else (none))
end
def zaI.f (k:Nat) (l0:List (S120)):Option (Int):=if (l0.length:Int) > 8 then (some 3) else (zaI.l0 k l0 0)
set_option maxHeartbeats 8000000 in
set_option maxRecDepth 100000 in
theorem zaI.calls (k:Nat) (A0:Option Addr) (c0:Nat) (l0:List (S120)) (r:Int) (w:World) (hr0:Kd.C k120 w A0 l0.length l0) (hc0:l0.length≤c0) (h:zaI.f k l0=some r) :
 Calls Try.prog 51 #[.slice A0 l0.length c0] w fun e w'=>e = .returned (.int .i64 r)∧zaS w w':=by
 have HR0:=zaa.mk hr0
 have HC0:=zaa.mk hc0
 clear hr0 hc0
 have H:(if (l0.length:Int) > 8 then (some 3) else (zaI.l0 k l0 0))=some r:=h
 clear h
 by_cases c2:(l0.length:Int) > 8
 ·rw [if_pos c2] at H
  have c2b0:decide (8<(l0.length:Int))=true:=decide_eq_true c2
  have c2b1:decide (8<l0.length)=true:=decide_eq_true (by omega)
  clear c2
  obtain rfl:=Option.some.inj H
  go_enter Try.func51,Try.ntmps51
  go_wp2
  go_ret
  exact zH
 ·rw [if_neg c2] at H
  have c2b0:decide (8<(l0.length:Int))=false:=decide_eq_false c2
  have c2b1:decide (8<l0.length)=false:=decide_eq_false (by omega)
  clear c2
  have H':=zaa.mk H
  clear H
  go_enter Try.func51,Try.ntmps51
  go_wp2
  go_loopg [3] k (fun kq v3 w'=>∃ (x3_1:Int),v3 = .int .i64 x3_1∧zaa (zaI.l0 kq l0 x3_1=some r)∧zaa (kq≤k)∧zaS w w')
  case atStart=>exact ⟨(0),zF,H',⟨Nat.le_refl _⟩,by repeat (first|exact zaS.refl _|apply zaS.step)⟩
  case round=>
   clear H'
   try clear c2
   try clear c2b0
   try clear c2b1
   try clear p2
   obtain ⟨x3_1,rfl,HA,i4,⟨m1,rfl⟩⟩:=hrel
   cases gk with
   | zero=>exact absurd HA.out (by simp [zaI.l0])
   | succ k1=>
    have H:=HA.out
    clear HA
    simp only [zaI.l0] at H
    by_cases c3:x3_1<(l0.length:Int)
    ·rw [if_pos c3] at H
     have c3b0:decide (x3_1<(l0.length:Int))=true:=decide_eq_true c3
     clear c3
     have HC4:=zaa.mk H
     clear H
     go_upto_region 6 with (fail)
     go_cut [43] (fun v43 wc=>∃ (kq:Nat) (x43_3:Bool),v43 = .bool x43_3∧zaa (zaI.j1 kq l0 x3_1 x43_3=some r)∧zaa (kq≤k1)∧zaS w wc)
     case first=>
      have H:=HC4.out
      clear HC4
      by_cases c5:0≤x3_1
      ·rw [if_pos c5] at H
       have c5b0:decide (0≤x3_1)=true:=decide_eq_true c5
       clear c5
       (first|rw [c5b0]|(simp only [zbY,zcc];rw [c5b0])|skip)
       by_cases c6:((zaE l0 x3_1).f0)<1
       ·rw [if_pos c6] at H
        have c6b0:decide (((zaE l0 x3_1).f0)<1)=true:=decide_eq_true c6
        clear c6
        have H':=zaa.mk H
        clear H
        have p262:0≤(x3_1:Int):=of_decide_eq_true (by first|(with_reducible assumption)|assumption)
        have q262:x3_1<(l0.length:Int):=of_decide_eq_true (by first|(with_reducible assumption)|assumption)
        obtain ⟨d5,f6,f7,e262,d7,d8,b8,hl262_2,hi262_2⟩:=zcj HR0.out x3_1 p262 q262
        cases e262
        have e5:=zaa.mk hi262_2
        have e6:=zaa.mk hl262_2
        clear hi262_2 hl262_2
        replace p262:=eq_true p262
        replace q262:=eq_true q262
        go_wp2
        go_meet
        case rel=>exact ⟨_,(true),zF,H',⟨by have:=i4.out;first|omega|exact Nat.le_refl _⟩,by repeat (first|exact zaS.refl _|apply zaS.step)⟩
       ·rw [if_neg c6] at H
        have c6b0:decide (((zaE l0 x3_1).f0)<1)=false:=decide_eq_false c6
        clear c6
        by_cases c7:((zaE l0 x3_1).f0) > 4
        ·rw [if_pos c7] at H
         have c7b0:decide (4<((zaE l0 x3_1).f0))=true:=decide_eq_true c7
         clear c7
         have H':=zaa.mk H
         clear H
         have p262:0≤(x3_1:Int):=of_decide_eq_true (by first|(with_reducible assumption)|assumption)
         have q262:x3_1<(l0.length:Int):=of_decide_eq_true (by first|(with_reducible assumption)|assumption)
         obtain ⟨d5,f6,f7,e262,d7,d8,b8,hl262_2,hi262_2⟩:=zcj HR0.out x3_1 p262 q262
         cases e262
         have e5:=zaa.mk hi262_2
         have e6:=zaa.mk hl262_2
         clear hi262_2 hl262_2
         replace p262:=eq_true p262
         replace q262:=eq_true q262
         have p263:0≤(x3_1:Int):=of_decide_eq_true (by first|(with_reducible assumption)|assumption)
         have q263:x3_1<(l0.length:Int):=of_decide_eq_true (by first|(with_reducible assumption)|assumption)
         obtain ⟨e0,j3,j4,e263,e7,e8,d6,hl263_2,hi263_2⟩:=zcj HR0.out x3_1 p263 q263
         obtain rfl:d5=e0:=(by injection e263)
         have i5:=zaa.mk hi263_2
         have i6:=zaa.mk hl263_2
         clear hi263_2 hl263_2
         replace p263:=eq_true p263
         replace q263:=eq_true q263
         have ea_:=Option.some.inj (b8.symm.trans d6)
         injection ea_ with ea_ en_ ec_
         subst ea_
         subst ec_
         clear en_
         go_wp2
         go_meet
         case rel=>exact ⟨_,(true),zF,H',⟨by have:=i4.out;first|omega|exact Nat.le_refl _⟩,by repeat (first|exact zaS.refl _|apply zaS.step)⟩
        ·rw [if_neg c7] at H
         have c7b0:decide (4<((zaE l0 x3_1).f0))=false:=decide_eq_false c7
         clear c7
         by_cases c8:((zaE l0 x3_1).f1)<1
         ·rw [if_pos c8] at H
          have c8b0:decide (((zaE l0 x3_1).f1)<1)=true:=decide_eq_true c8
          clear c8
          have H':=zaa.mk H
          clear H
          have p262:0≤(x3_1:Int):=of_decide_eq_true (by first|(with_reducible assumption)|assumption)
          have q262:x3_1<(l0.length:Int):=of_decide_eq_true (by first|(with_reducible assumption)|assumption)
          obtain ⟨d5,f6,f7,e262,d7,d8,b8,hl262_2,hi262_2⟩:=zcj HR0.out x3_1 p262 q262
          cases e262
          have e5:=zaa.mk hi262_2
          have e6:=zaa.mk hl262_2
          clear hi262_2 hl262_2
          replace p262:=eq_true p262
          replace q262:=eq_true q262
          have p263:0≤(x3_1:Int):=of_decide_eq_true (by first|(with_reducible assumption)|assumption)
          have q263:x3_1<(l0.length:Int):=of_decide_eq_true (by first|(with_reducible assumption)|assumption)
          obtain ⟨e0,j3,j4,e263,e7,e8,d6,hl263_2,hi263_2⟩:=zcj HR0.out x3_1 p263 q263
          obtain rfl:d5=e0:=(by injection e263)
          have i5:=zaa.mk hi263_2
          have i6:=zaa.mk hl263_2
          clear hi263_2 hl263_2
          replace p263:=eq_true p263
          replace q263:=eq_true q263
          have ea_:=Option.some.inj (b8.symm.trans d6)
          injection ea_ with ea_ en_ ec_
          subst ea_
          subst ec_
          clear en_
          have p264:0≤(x3_1:Int):=of_decide_eq_true (by first|(with_reducible assumption)|assumption)
          have q264:x3_1<(l0.length:Int):=of_decide_eq_true (by first|(with_reducible assumption)|assumption)
          obtain ⟨j2,k5,k6,e264,i7,i8,d9,hl264_2,hi264_2⟩:=zcj HR0.out x3_1 p264 q264
          obtain rfl:d5=j2:=(by injection e264)
          have j5:=zaa.mk hi264_2
          have j6:=zaa.mk hl264_2
          clear hi264_2 hl264_2
          replace p264:=eq_true p264
          replace q264:=eq_true q264
          have ea_:=Option.some.inj (b8.symm.trans d9)
          injection ea_ with ea_ en_ ec_
          subst ea_
          subst ec_
          clear en_
          go_wp2
          go_meet
          case rel=>exact ⟨_,(true),zF,H',⟨by have:=i4.out;first|omega|exact Nat.le_refl _⟩,by repeat (first|exact zaS.refl _|apply zaS.step)⟩
         ·rw [if_neg c8] at H
          have c8b0:decide (((zaE l0 x3_1).f1)<1)=false:=decide_eq_false c8
          clear c8
          have H':=zaa.mk H
          clear H
          have p262:0≤(x3_1:Int):=of_decide_eq_true (by first|(with_reducible assumption)|assumption)
          have q262:x3_1<(l0.length:Int):=of_decide_eq_true (by first|(with_reducible assumption)|assumption)
          obtain ⟨d5,f6,f7,e262,d7,d8,b8,hl262_2,hi262_2⟩:=zcj HR0.out x3_1 p262 q262
          cases e262
          have e5:=zaa.mk hi262_2
          have e6:=zaa.mk hl262_2
          clear hi262_2 hl262_2
          replace p262:=eq_true p262
          replace q262:=eq_true q262
          have p263:0≤(x3_1:Int):=of_decide_eq_true (by first|(with_reducible assumption)|assumption)
          have q263:x3_1<(l0.length:Int):=of_decide_eq_true (by first|(with_reducible assumption)|assumption)
          obtain ⟨e0,j3,j4,e263,e7,e8,d6,hl263_2,hi263_2⟩:=zcj HR0.out x3_1 p263 q263
          obtain rfl:d5=e0:=(by injection e263)
          have i5:=zaa.mk hi263_2
          have i6:=zaa.mk hl263_2
          clear hi263_2 hl263_2
          replace p263:=eq_true p263
          replace q263:=eq_true q263
          have ea_:=Option.some.inj (b8.symm.trans d6)
          injection ea_ with ea_ en_ ec_
          subst ea_
          subst ec_
          clear en_
          have p264:0≤(x3_1:Int):=of_decide_eq_true (by first|(with_reducible assumption)|assumption)
          have q264:x3_1<(l0.length:Int):=of_decide_eq_true (by first|(with_reducible assumption)|assumption)
          obtain ⟨j2,k5,k6,e264,i7,i8,d9,hl264_2,hi264_2⟩:=zcj HR0.out x3_1 p264 q264
          obtain rfl:d5=j2:=(by injection e264)
          have j5:=zaa.mk hi264_2
          have j6:=zaa.mk hl264_2
          clear hi264_2 hl264_2
          replace p264:=eq_true p264
          replace q264:=eq_true q264
          have ea_:=Option.some.inj (b8.symm.trans d9)
          injection ea_ with ea_ en_ ec_
          subst ea_
          subst ec_
          clear en_
          have p265:0≤(x3_1:Int):=of_decide_eq_true (by first|(with_reducible assumption)|assumption)
          have q265:x3_1<(l0.length:Int):=of_decide_eq_true (by first|(with_reducible assumption)|assumption)
          obtain ⟨k7,l4,l5,e265,j7,j8,i9,hl265_2,hi265_2⟩:=zcj HR0.out x3_1 p265 q265
          obtain rfl:d5=k7:=(by injection e265)
          have k9:=zaa.mk hi265_2
          have l3:=zaa.mk hl265_2
          clear hi265_2 hl265_2
          replace p265:=eq_true p265
          replace q265:=eq_true q265
          have ea_:=Option.some.inj (b8.symm.trans i9)
          injection ea_ with ea_ en_ ec_
          subst ea_
          subst ec_
          clear en_
          go_wp2
          go_meet
          case rel=>exact ⟨_,(decide (((zaE l0 x3_1).f1) > 5)),zF,H',⟨by have:=i4.out;first|omega|exact Nat.le_refl _⟩,by repeat (first|exact zaS.refl _|apply zaS.step)⟩
      ·rw [if_neg c5] at H
       exact absurd H (by simp)
     case rest=>
      clear HC4
      try clear c2
      try clear c2b0
      try clear c2b1
      try clear p2
      try clear q2
      try clear hx2
      try clear c3
      try clear c3b0
      try clear c5
      try clear c5b0
      try clear c6
      try clear c6b0
      try clear c7
      try clear c7b0
      try clear c8
      try clear c8b0
      try clear d7
      try clear d8
      try clear b8
      try clear e7
      try clear e8
      try clear d6
      try clear i7
      try clear i8
      try clear d9
      try clear j7
      try clear j8
      try clear i9
      try clear p2
      try clear p262
      try clear p263
      try clear p264
      try clear p265
      try clear q262
      try clear q263
      try clear q264
      try clear q265
      obtain ⟨kq,x43_3,rfl,HA,HJ3,⟨mc3,rfl⟩⟩:=hcut
      cases kq with
      | zero=>exact absurd HA.out (by simp [zaI.j1])
      | succ kj3=>
       have H:=HA.out
       clear HA
       simp only [zaI.j1] at H
       by_cases c9:x43_3=true
       ·subst c9
        have H1:(some 8)=some r:=by rw [if_pos rfl] at H;exact H
        clear H
        have H:=H1
        clear H1
        obtain rfl:=Option.some.inj H
        go_wp2
        go_ret
        exact zH
       ·replace c9:=Bool.eq_false_iff.mpr c9
        subst c9
        have H1:(if 0≤x3_1 then (if x3_1<(l0.length:Int) then ((zaH.f kj3 ((zaE l0 x3_1).f2)).bind fun b9=>(if b9=0 then (zaI.l0 kj3 l0 (wrap64 (x3_1+1))) else (some b9))) else (none)) else (none))=some r:=by rw [if_neg (show ¬ (false=true) by decide)] at H;exact H
        clear H
        have H:=H1
        clear H1
        by_cases c10:0≤x3_1
        ·rw [if_pos c10] at H
         have c10b0:decide (0≤x3_1)=true:=decide_eq_true c10
         clear c10
         by_cases c11:x3_1<(l0.length:Int)
         ·rw [if_pos c11] at H
          have c11b0:decide (x3_1<(l0.length:Int))=true:=decide_eq_true c11
          clear c11
          obtain ⟨b9,A12,H⟩:=zob H
          replace H:(if b9=0 then (zaI.l0 kj3 l0 (wrap64 (x3_1+1))) else (some b9))=some r:=H
          by_cases c13:b9=0
          ·rw [if_pos c13] at H
           have c13b0:(b9==0)=true:=beq_iff_eq.mpr c13
           have c13b1:(b9 != 0)=false:=bne_eq_false_iff_eq.mpr c13
           clear c13
           have H':=zaa.mk H
           clear H
           have p266:0≤(x3_1:Int):=of_decide_eq_true (by first|(with_reducible assumption)|assumption)
           have q266:x3_1<(l0.length:Int):=of_decide_eq_true (by first|(with_reducible assumption)|assumption)
           obtain ⟨k8,g9,i3,e266,j9,k3,k4,hl266_2,hi266_2⟩:=zcj HR0.out x3_1 p266 q266
           cases e266
           have e9:=zaa.mk hi266_2
           have f5:=zaa.mk hl266_2
           clear hi266_2 hl266_2
           replace p266:=eq_true p266
           replace q266:=eq_true q266
           go_wp2_with (first|((with_reducible refine zah (f:=107) rfl ?_);refine zgl 49 Try.func107 #[.slice g9 ((zaE l0 x3_1).f2).length i3] ?_;(with_reducible refine (zaH.calls kj3 _ _ ((zaE l0 x3_1).f2) b9 _ ?side1 ?side2 A12.out).mono ?_);(case side1=>repeat (first|exact e9.out|(with_reducible refine Kd.C_alloc ?_ _)|(with_reducible refine Kd.C_drewN ?_ _)|(with_reducible refine Kd.C_drew ?_)));(case side2=>exact f5.out);rintro e w' ⟨rfl,⟨nd,rfl⟩⟩;refine ⟨_,rfl,?_⟩))
           go_roundg kj3
           case measure=>have:=i4.out;have:=HJ3.out;omega
           case rel=>exact ⟨(wrap64 (x3_1+1)),zF,H',⟨by have:=i4.out;have:=HJ3.out;omega⟩,by repeat (first|exact zaS.refl _|apply zaS.step)⟩
          ·rw [if_neg c13] at H
           have c13b0:(b9==0)=false:=beq_eq_false_iff_ne.mpr c13
           have c13b1:(b9 != 0)=true:=bne_iff_ne.mpr c13
           obtain rfl:=Option.some.inj H
           have p266:0≤(x3_1:Int):=of_decide_eq_true (by first|(with_reducible assumption)|assumption)
           have q266:x3_1<(l0.length:Int):=of_decide_eq_true (by first|(with_reducible assumption)|assumption)
           obtain ⟨k8,g9,i3,e266,j9,k3,k4,hl266_2,hi266_2⟩:=zcj HR0.out x3_1 p266 q266
           cases e266
           have e9:=zaa.mk hi266_2
           have f5:=zaa.mk hl266_2
           clear hi266_2 hl266_2
           replace p266:=eq_true p266
           replace q266:=eq_true q266
           go_wp2_with (first|((with_reducible refine zah (f:=107) rfl ?_);refine zgl 49 Try.func107 #[.slice g9 ((zaE l0 x3_1).f2).length i3] ?_;(with_reducible refine (zaH.calls kj3 _ _ ((zaE l0 x3_1).f2) b9 _ ?side1 ?side2 A12.out).mono ?_);(case side1=>repeat (first|exact e9.out|(with_reducible refine Kd.C_alloc ?_ _)|(with_reducible refine Kd.C_drewN ?_ _)|(with_reducible refine Kd.C_drew ?_)));(case side2=>exact f5.out);rintro e w' ⟨rfl,⟨nd,rfl⟩⟩;refine ⟨_,rfl,?_⟩))
           go_ret
           exact zH
         ·rw [if_neg c11] at H
          exact absurd H (by simp)
        ·rw [if_neg c10] at H
         exact absurd H (by simp)
    ·rw [if_neg c3] at H
     have c3b0:decide (x3_1<(l0.length:Int))=false:=decide_eq_false c3
     clear c3
     obtain rfl:=Option.some.inj H
     go_wp2
     go_ret
     exact zH
end Go.Proofs.Ytlilncnoohfcdaa.Da
