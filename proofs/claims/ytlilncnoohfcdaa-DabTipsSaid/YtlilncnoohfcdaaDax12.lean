
import Derived.Test.YtlilncnoohfcdaaDax0
import Derived.Test.YtlilncnoohfcdaaDax11
namespace Go.Proofs.Ytlilncnoohfcdaa.Da
open Go.RowKit Go.Proofs.YtlilncnoohfcdaaW.PrintWords Go.Proofs.YtlilncnoohfcdaaW.PrintLast Go.Proofs.YtlilncnoohfcdaaW.PrintMore
attribute [local go_sem] max2_int min2_int zbo zbp zbc zbd zbj zbk   
set_option linter.unusedVariables false
set_option linter.unusedSimpArgs false
/-! ### imageeditorref26_Check: function 51 -/
mutual
def zaz.l0:Nat→List (S120)→Int→Option (Int)
 | 0,_,_=>none
 | k+1,x0,x3=>if x3<(x0.length:Int) then (if 0≤x3 then (if ((zaF x0 x3).f0)<1 then (zaz.j1 k x0 x3 true) else (if ((zaF x0 x3).f0) > 4 then (zaz.j1 k x0 x3 true) else (if ((zaF x0 x3).f1)<1 then (zaz.j1 k x0 x3 true) else (zaz.j1 k x0 x3 (decide (((zaF x0 x3).f1) > 5)))))) else (none)) else (some 0)
def zaz.j1:Nat→List (S120)→Int→Bool→Option (Int)
 | 0,_,_,_=>none
 | k+1,x0,x3,x43=>if x43=true then (some 8) else (if 0≤x3 then (if x3<(x0.length:Int) then ((zay.f k ((zaF x0 x3).f2)).bind fun t267=>(if t267=0 then (zaz.l0 k x0 (wrap64 (x3+1))) else (some t267))) else (none)) else (none))
end
def zaz.f (k:Nat) (l0:List (S120)):Option (Int):=if (l0.length:Int) > 8 then (some 3) else (zaz.l0 k l0 0)
set_option maxHeartbeats 8000000 in
set_option maxRecDepth 100000 in
theorem zaz.calls (k:Nat) (A0:Option Addr) (c0:Nat) (l0:List (S120)) (r:Int) (w:World) (hr0:Kd.C k120 w A0 l0.length l0) (hc0:l0.length≤c0) (h:zaz.f k l0=some r) :
 Calls Try.prog 51 #[.slice A0 l0.length c0] w fun e w'=>e = .returned (.int .i64 r)∧Drawn0 w w':=by
 have HR0:=Aside0.mk hr0
 have HC0:=Aside0.mk hc0
 clear hr0 hc0
 have H:(if (l0.length:Int) > 8 then (some 3) else (zaz.l0 k l0 0))=some r:=h
 clear h
 by_cases c2:(l0.length:Int) > 8
 ·rw [if_pos c2] at H
  have c2b0:decide (8<(l0.length:Int))=true:=decide_eq_true c2
  have c2b1:decide (8<l0.length)=true:=decide_eq_true (by omega)
  clear c2
  obtain rfl:=Option.some.inj H
  go_enter Try.func51,Try.ntmps51
  go_wp2
  go_ret
  exact ⟨by first|rfl|(simp;done)|(simp [*];done),by repeat (first|exact Drawn0.refl _|apply Drawn0.step)⟩
 ·rw [if_neg c2] at H
  have c2b0:decide (8<(l0.length:Int))=false:=decide_eq_false c2
  have c2b1:decide (8<l0.length)=false:=decide_eq_false (by omega)
  clear c2
  have H':=Aside0.mk H
  clear H
  go_enter Try.func51,Try.ntmps51
  go_wp2
  go_loopg [3] k (fun kq v3 w'=>∃ (x3_1:Int),v3 = .int .i64 x3_1∧Aside0 (zaz.l0 kq l0 x3_1=some r)∧Aside0 (kq≤k)∧Drawn0 w w')
  case atStart=>exact ⟨(0),zF,H',⟨Nat.le_refl _⟩,by repeat (first|exact Drawn0.refl _|apply Drawn0.step)⟩
  case round=>
   clear H'
   try clear c2
   try clear c2b0
   try clear c2b1
   try clear p2
   obtain ⟨x3_1,rfl,HA,HK1,⟨m1,rfl⟩⟩:=hrel
   cases gk with
   | zero=>exact absurd HA.out (by simp [zaz.l0])
   | succ k1=>
    have H:=HA.out
    clear HA
    simp only [zaz.l0] at H
    by_cases c3:x3_1<(l0.length:Int)
    ·rw [if_pos c3] at H
     have c3b0:decide (x3_1<(l0.length:Int))=true:=decide_eq_true c3
     clear c3
     have HC4:=Aside0.mk H
     clear H
     go_upto_region 6 with (fail)
     go_cut [43] (fun v43 wc=>∃ (kq:Nat) (x43_3:Bool),v43 = .bool x43_3∧Aside0 (zaz.j1 kq l0 x3_1 x43_3=some r)∧Aside0 (kq≤k1)∧Drawn0 w wc)
     case first=>
      have H:=HC4.out
      clear HC4
      by_cases c5:0≤x3_1
      ·rw [if_pos c5] at H
       have c5b0:decide (0≤x3_1)=true:=decide_eq_true c5
       clear c5
       (first|rw [c5b0]|(simp only [i64_w,i32_w];rw [c5b0])|skip)
       by_cases c6:((zaF l0 x3_1).f0)<1
       ·rw [if_pos c6] at H
        have c6b0:decide (((zaF l0 x3_1).f0)<1)=true:=decide_eq_true c6
        clear c6
        have H':=Aside0.mk H
        clear H
        have p262:0≤(x3_1:Int):=of_decide_eq_true (by first|(with_reducible assumption)|assumption)
        have q262:x3_1<(l0.length:Int):=of_decide_eq_true (by first|(with_reducible assumption)|assumption)
        obtain ⟨ad262,A262_2,c262_2,e262,hx262_0,hx262_1,hx262_2,hl262_2,hi262_2⟩:=at_T120 HR0.out x3_1 p262 q262
        cases e262
        have HR262_2:=Aside0.mk hi262_2
        have HC262_2:=Aside0.mk hl262_2
        clear hi262_2 hl262_2
        replace p262:=eq_true p262
        replace q262:=eq_true q262
        go_wp2
        go_meet
        case rel=>exact ⟨_,(true),zF,H',⟨by have:=HK1.out;first|omega|exact Nat.le_refl _⟩,by repeat (first|exact Drawn0.refl _|apply Drawn0.step)⟩
       ·rw [if_neg c6] at H
        have c6b0:decide (((zaF l0 x3_1).f0)<1)=false:=decide_eq_false c6
        clear c6
        by_cases c7:((zaF l0 x3_1).f0) > 4
        ·rw [if_pos c7] at H
         have c7b0:decide (4<((zaF l0 x3_1).f0))=true:=decide_eq_true c7
         clear c7
         have H':=Aside0.mk H
         clear H
         have p262:0≤(x3_1:Int):=of_decide_eq_true (by first|(with_reducible assumption)|assumption)
         have q262:x3_1<(l0.length:Int):=of_decide_eq_true (by first|(with_reducible assumption)|assumption)
         obtain ⟨ad262,A262_2,c262_2,e262,hx262_0,hx262_1,hx262_2,hl262_2,hi262_2⟩:=at_T120 HR0.out x3_1 p262 q262
         cases e262
         have HR262_2:=Aside0.mk hi262_2
         have HC262_2:=Aside0.mk hl262_2
         clear hi262_2 hl262_2
         replace p262:=eq_true p262
         replace q262:=eq_true q262
         have p263:0≤(x3_1:Int):=of_decide_eq_true (by first|(with_reducible assumption)|assumption)
         have q263:x3_1<(l0.length:Int):=of_decide_eq_true (by first|(with_reducible assumption)|assumption)
         obtain ⟨ad263,A263_2,c263_2,e263,hx263_0,hx263_1,hx263_2,hl263_2,hi263_2⟩:=at_T120 HR0.out x3_1 p263 q263
         obtain rfl:ad262=ad263:=(by injection e263)
         have HR263_2:=Aside0.mk hi263_2
         have HC263_2:=Aside0.mk hl263_2
         clear hi263_2 hl263_2
         replace p263:=eq_true p263
         replace q263:=eq_true q263
         have ea_:=Option.some.inj (hx262_2.symm.trans hx263_2)
         injection ea_ with ea_ en_ ec_
         subst ea_
         subst ec_
         clear en_
         go_wp2
         go_meet
         case rel=>exact ⟨_,(true),zF,H',⟨by have:=HK1.out;first|omega|exact Nat.le_refl _⟩,by repeat (first|exact Drawn0.refl _|apply Drawn0.step)⟩
        ·rw [if_neg c7] at H
         have c7b0:decide (4<((zaF l0 x3_1).f0))=false:=decide_eq_false c7
         clear c7
         by_cases c8:((zaF l0 x3_1).f1)<1
         ·rw [if_pos c8] at H
          have c8b0:decide (((zaF l0 x3_1).f1)<1)=true:=decide_eq_true c8
          clear c8
          have H':=Aside0.mk H
          clear H
          have p262:0≤(x3_1:Int):=of_decide_eq_true (by first|(with_reducible assumption)|assumption)
          have q262:x3_1<(l0.length:Int):=of_decide_eq_true (by first|(with_reducible assumption)|assumption)
          obtain ⟨ad262,A262_2,c262_2,e262,hx262_0,hx262_1,hx262_2,hl262_2,hi262_2⟩:=at_T120 HR0.out x3_1 p262 q262
          cases e262
          have HR262_2:=Aside0.mk hi262_2
          have HC262_2:=Aside0.mk hl262_2
          clear hi262_2 hl262_2
          replace p262:=eq_true p262
          replace q262:=eq_true q262
          have p263:0≤(x3_1:Int):=of_decide_eq_true (by first|(with_reducible assumption)|assumption)
          have q263:x3_1<(l0.length:Int):=of_decide_eq_true (by first|(with_reducible assumption)|assumption)
          obtain ⟨ad263,A263_2,c263_2,e263,hx263_0,hx263_1,hx263_2,hl263_2,hi263_2⟩:=at_T120 HR0.out x3_1 p263 q263
          obtain rfl:ad262=ad263:=(by injection e263)
          have HR263_2:=Aside0.mk hi263_2
          have HC263_2:=Aside0.mk hl263_2
          clear hi263_2 hl263_2
          replace p263:=eq_true p263
          replace q263:=eq_true q263
          have ea_:=Option.some.inj (hx262_2.symm.trans hx263_2)
          injection ea_ with ea_ en_ ec_
          subst ea_
          subst ec_
          clear en_
          have p264:0≤(x3_1:Int):=of_decide_eq_true (by first|(with_reducible assumption)|assumption)
          have q264:x3_1<(l0.length:Int):=of_decide_eq_true (by first|(with_reducible assumption)|assumption)
          obtain ⟨ad264,A264_2,c264_2,e264,hx264_0,hx264_1,hx264_2,hl264_2,hi264_2⟩:=at_T120 HR0.out x3_1 p264 q264
          obtain rfl:ad262=ad264:=(by injection e264)
          have HR264_2:=Aside0.mk hi264_2
          have HC264_2:=Aside0.mk hl264_2
          clear hi264_2 hl264_2
          replace p264:=eq_true p264
          replace q264:=eq_true q264
          have ea_:=Option.some.inj (hx262_2.symm.trans hx264_2)
          injection ea_ with ea_ en_ ec_
          subst ea_
          subst ec_
          clear en_
          go_wp2
          go_meet
          case rel=>exact ⟨_,(true),zF,H',⟨by have:=HK1.out;first|omega|exact Nat.le_refl _⟩,by repeat (first|exact Drawn0.refl _|apply Drawn0.step)⟩
         ·rw [if_neg c8] at H
          have c8b0:decide (((zaF l0 x3_1).f1)<1)=false:=decide_eq_false c8
          clear c8
          have H':=Aside0.mk H
          clear H
          have p262:0≤(x3_1:Int):=of_decide_eq_true (by first|(with_reducible assumption)|assumption)
          have q262:x3_1<(l0.length:Int):=of_decide_eq_true (by first|(with_reducible assumption)|assumption)
          obtain ⟨ad262,A262_2,c262_2,e262,hx262_0,hx262_1,hx262_2,hl262_2,hi262_2⟩:=at_T120 HR0.out x3_1 p262 q262
          cases e262
          have HR262_2:=Aside0.mk hi262_2
          have HC262_2:=Aside0.mk hl262_2
          clear hi262_2 hl262_2
          replace p262:=eq_true p262
          replace q262:=eq_true q262
          have p263:0≤(x3_1:Int):=of_decide_eq_true (by first|(with_reducible assumption)|assumption)
          have q263:x3_1<(l0.length:Int):=of_decide_eq_true (by first|(with_reducible assumption)|assumption)
          obtain ⟨ad263,A263_2,c263_2,e263,hx263_0,hx263_1,hx263_2,hl263_2,hi263_2⟩:=at_T120 HR0.out x3_1 p263 q263
          obtain rfl:ad262=ad263:=(by injection e263)
          have HR263_2:=Aside0.mk hi263_2
          have HC263_2:=Aside0.mk hl263_2
          clear hi263_2 hl263_2
          replace p263:=eq_true p263
          replace q263:=eq_true q263
          have ea_:=Option.some.inj (hx262_2.symm.trans hx263_2)
          injection ea_ with ea_ en_ ec_
          subst ea_
          subst ec_
          clear en_
          have p264:0≤(x3_1:Int):=of_decide_eq_true (by first|(with_reducible assumption)|assumption)
          have q264:x3_1<(l0.length:Int):=of_decide_eq_true (by first|(with_reducible assumption)|assumption)
          obtain ⟨ad264,A264_2,c264_2,e264,hx264_0,hx264_1,hx264_2,hl264_2,hi264_2⟩:=at_T120 HR0.out x3_1 p264 q264
          obtain rfl:ad262=ad264:=(by injection e264)
          have HR264_2:=Aside0.mk hi264_2
          have HC264_2:=Aside0.mk hl264_2
          clear hi264_2 hl264_2
          replace p264:=eq_true p264
          replace q264:=eq_true q264
          have ea_:=Option.some.inj (hx262_2.symm.trans hx264_2)
          injection ea_ with ea_ en_ ec_
          subst ea_
          subst ec_
          clear en_
          have p265:0≤(x3_1:Int):=of_decide_eq_true (by first|(with_reducible assumption)|assumption)
          have q265:x3_1<(l0.length:Int):=of_decide_eq_true (by first|(with_reducible assumption)|assumption)
          obtain ⟨ad265,A265_2,c265_2,e265,hx265_0,hx265_1,hx265_2,hl265_2,hi265_2⟩:=at_T120 HR0.out x3_1 p265 q265
          obtain rfl:ad262=ad265:=(by injection e265)
          have HR265_2:=Aside0.mk hi265_2
          have HC265_2:=Aside0.mk hl265_2
          clear hi265_2 hl265_2
          replace p265:=eq_true p265
          replace q265:=eq_true q265
          have ea_:=Option.some.inj (hx262_2.symm.trans hx265_2)
          injection ea_ with ea_ en_ ec_
          subst ea_
          subst ec_
          clear en_
          go_wp2
          go_meet
          case rel=>exact ⟨_,(decide (((zaF l0 x3_1).f1) > 5)),zF,H',⟨by have:=HK1.out;first|omega|exact Nat.le_refl _⟩,by repeat (first|exact Drawn0.refl _|apply Drawn0.step)⟩
      ·rw [if_neg c5] at H
       exact absurd H (by simp)
     case rest=>
      clear HC4
      try clear c2
      try clear c2b0
      try clear c2b1
      try clear p2
      try clear q2
      try clear hx2
      try clear c3
      try clear c3b0
      try clear c5
      try clear c5b0
      try clear c6
      try clear c6b0
      try clear c7
      try clear c7b0
      try clear c8
      try clear c8b0
      try clear hx262_0
      try clear hx262_1
      try clear hx262_2
      try clear hx263_0
      try clear hx263_1
      try clear hx263_2
      try clear hx264_0
      try clear hx264_1
      try clear hx264_2
      try clear hx265_0
      try clear hx265_1
      try clear hx265_2
      try clear p2
      try clear p262
      try clear p263
      try clear p264
      try clear p265
      try clear q262
      try clear q263
      try clear q264
      try clear q265
      obtain ⟨kq,x43_3,rfl,HA,HJ3,⟨mc3,rfl⟩⟩:=hcut
      cases kq with
      | zero=>exact absurd HA.out (by simp [zaz.j1])
      | succ kj3=>
       have H:=HA.out
       clear HA
       simp only [zaz.j1] at H
       by_cases c9:x43_3=true
       ·subst c9
        have H1:(some 8)=some r:=by rw [if_pos rfl] at H;exact H
        clear H
        have H:=H1
        clear H1
        obtain rfl:=Option.some.inj H
        go_wp2
        go_ret
        exact ⟨by first|rfl|(simp;done)|(simp [*];done),by repeat (first|exact Drawn0.refl _|apply Drawn0.step)⟩
       ·replace c9:=Bool.eq_false_iff.mpr c9
        subst c9
        have H1:(if 0≤x3_1 then (if x3_1<(l0.length:Int) then ((zay.f kj3 ((zaF l0 x3_1).f2)).bind fun t267=>(if t267=0 then (zaz.l0 kj3 l0 (wrap64 (x3_1+1))) else (some t267))) else (none)) else (none))=some r:=by rw [if_neg (show ¬ (false=true) by decide)] at H;exact H
        clear H
        have H:=H1
        clear H1
        by_cases c10:0≤x3_1
        ·rw [if_pos c10] at H
         have c10b0:decide (0≤x3_1)=true:=decide_eq_true c10
         clear c10
         by_cases c11:x3_1<(l0.length:Int)
         ·rw [if_pos c11] at H
          have c11b0:decide (x3_1<(l0.length:Int))=true:=decide_eq_true c11
          clear c11
          replace H:=Option.bind_eq_some_iff.mp H
          obtain ⟨t267,A120,H⟩:=H
          replace H:(if t267=0 then (zaz.l0 kj3 l0 (wrap64 (x3_1+1))) else (some t267))=some r:=H
          have A12:=Aside0.mk A120
          clear A120
          by_cases c13:t267=0
          ·rw [if_pos c13] at H
           have c13b0:(t267==0)=true:=beq_iff_eq.mpr c13
           have c13b1:(t267 != 0)=false:=bne_eq_false_iff_eq.mpr c13
           clear c13
           have H':=Aside0.mk H
           clear H
           have p266:0≤(x3_1:Int):=of_decide_eq_true (by first|(with_reducible assumption)|assumption)
           have q266:x3_1<(l0.length:Int):=of_decide_eq_true (by first|(with_reducible assumption)|assumption)
           obtain ⟨ad266,A266_2,c266_2,e266,hx266_0,hx266_1,hx266_2,hl266_2,hi266_2⟩:=at_T120 HR0.out x3_1 p266 q266
           cases e266
           have HR266_2:=Aside0.mk hi266_2
           have HC266_2:=Aside0.mk hl266_2
           clear hi266_2 hl266_2
           replace p266:=eq_true p266
           replace q266:=eq_true q266
           go_wp2_with (first|((with_reducible refine zal (f:=107) rfl ?_);refine goesL_ (some 49) rfl rfl Try.func107 (by kernel_rfl) rfl #[.slice A266_2 ((zaF l0 x3_1).f2).length c266_2] rfl zA ?_;(with_reducible refine (zay.calls kj3 _ _ ((zaF l0 x3_1).f2) t267 _ ?side1 ?side2 A12.out).mono ?_);(case side1=>repeat (first|exact HR266_2.out|(with_reducible refine Kd.C_alloc ?_ _)|(with_reducible refine Kd.C_drewN ?_ _)|(with_reducible refine Kd.C_drew ?_)));(case side2=>exact HC266_2.out);rintro e w' ⟨rfl,⟨nd,rfl⟩⟩;refine ⟨_,rfl,?_⟩))
           go_roundg kj3
           case measure=>have:=HK1.out;have:=HJ3.out;omega
           case rel=>exact ⟨(wrap64 (x3_1+1)),zF,H',⟨by have:=HK1.out;have:=HJ3.out;omega⟩,by repeat (first|exact Drawn0.refl _|apply Drawn0.step)⟩
          ·rw [if_neg c13] at H
           have c13b0:(t267==0)=false:=beq_eq_false_iff_ne.mpr c13
           have c13b1:(t267 != 0)=true:=bne_iff_ne.mpr c13
           obtain rfl:=Option.some.inj H
           have p266:0≤(x3_1:Int):=of_decide_eq_true (by first|(with_reducible assumption)|assumption)
           have q266:x3_1<(l0.length:Int):=of_decide_eq_true (by first|(with_reducible assumption)|assumption)
           obtain ⟨ad266,A266_2,c266_2,e266,hx266_0,hx266_1,hx266_2,hl266_2,hi266_2⟩:=at_T120 HR0.out x3_1 p266 q266
           cases e266
           have HR266_2:=Aside0.mk hi266_2
           have HC266_2:=Aside0.mk hl266_2
           clear hi266_2 hl266_2
           replace p266:=eq_true p266
           replace q266:=eq_true q266
           go_wp2_with (first|((with_reducible refine zal (f:=107) rfl ?_);refine goesL_ (some 49) rfl rfl Try.func107 (by kernel_rfl) rfl #[.slice A266_2 ((zaF l0 x3_1).f2).length c266_2] rfl zA ?_;(with_reducible refine (zay.calls kj3 _ _ ((zaF l0 x3_1).f2) t267 _ ?side1 ?side2 A12.out).mono ?_);(case side1=>repeat (first|exact HR266_2.out|(with_reducible refine Kd.C_alloc ?_ _)|(with_reducible refine Kd.C_drewN ?_ _)|(with_reducible refine Kd.C_drew ?_)));(case side2=>exact HC266_2.out);rintro e w' ⟨rfl,⟨nd,rfl⟩⟩;refine ⟨_,rfl,?_⟩))
           go_ret
           exact ⟨by first|rfl|(simp;done)|(simp [*];done),by repeat (first|exact Drawn0.refl _|apply Drawn0.step)⟩
         ·rw [if_neg c11] at H
          exact absurd H (by simp)
        ·rw [if_neg c10] at H
         exact absurd H (by simp)
    ·rw [if_neg c3] at H
     have c3b0:decide (x3_1<(l0.length:Int))=false:=decide_eq_false c3
     clear c3
     obtain rfl:=Option.some.inj H
     go_wp2
     go_ret
     exact ⟨by first|rfl|(simp;done)|(simp [*];done),by repeat (first|exact Drawn0.refl _|apply Drawn0.step)⟩
end Go.Proofs.Ytlilncnoohfcdaa.Da
