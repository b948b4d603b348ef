
import Derived.Test.YtlilncnoohfcdaaDax0
import Derived.Test.YtlilncnoohfcdaaDax11
import Derived.Test.YtlilncnoohfcdaaDax14
import Derived.Test.YtlilncnoohfcdaaBrx0
namespace Go.Proofs.Ytlilncnoohfcdaa.Br
open Go.RowKit Go.Proofs.YtlilncnoohfcdaaW.PrintWords Go.Proofs.YtlilncnoohfcdaaW.PrintLast Go.Proofs.YtlilncnoohfcdaaW.PrintMore Go.Proofs.Ytlilncnoohfcdaa.Da
attribute [local go_sem] zbr zbu zbD zbH zbq zbp zbv zbt   
set_option linter.unusedVariables false
set_option linter.unusedSimpArgs false
/-! ### imageeditorref28_unit: function 81 -/
def zaV.f (a0:Int):Option (Bool):=if a0≥0 then (some (decide (a0≤65535))) else (some false)
set_option maxHeartbeats 8000000 in
set_option maxRecDepth 100000 in
theorem zaV.calls (a0:Int) (r:Bool) (w:World) (h:zaV.f a0=some r) :
 Calls Try.prog 81 #[.int .i64 a0] w fun e w'=>e = .returned (.bool r)∧zaS w w':=by
 have H:(if a0≥0 then (some (decide (a0≤65535))) else (some false))=some r:=h
 clear h
 by_cases c2:a0≥0
 ·rw [if_pos c2] at H
  have c2b0:decide (0≤a0)=true:=decide_eq_true c2
  clear c2
  obtain rfl:=Option.some.inj H
  go_enter Try.func81,Try.ntmps81
  go_wp2
  go_ret
  exact zH
 ·rw [if_neg c2] at H
  have c2b0:decide (0≤a0)=false:=decide_eq_false c2
  clear c2
  obtain rfl:=Option.some.inj H
  go_enter Try.func81,Try.ntmps81
  go_wp2
  go_ret
  exact zH
mutual
def zau.l0:Nat→List (S57)→Int→Option (Int)
 | 0,_,_=>none
 | k+1,x0,x3=>if x3<(x0.length:Int) then (if 0≤x3 then (if ((zab x0 x3).f0)<(-16777216) then (zau.j1 k x0 x3 true ((zab x0 x3).f0) ((zab x0 x3).f1) ((zab x0 x3).f2) ((zab x0 x3).f3) ((zab x0 x3).f4)) else (if ((zab x0 x3).f0) > 16777216 then (zau.j1 k x0 x3 true ((zab x0 x3).f0) ((zab x0 x3).f1) ((zab x0 x3).f2) ((zab x0 x3).f3) ((zab x0 x3).f4)) else (if ((zab x0 x3).f1)<(-16777216) then (zau.j1 k x0 x3 true ((zab x0 x3).f0) ((zab x0 x3).f1) ((zab x0 x3).f2) ((zab x0 x3).f3) ((zab x0 x3).f4)) else (if ((zab x0 x3).f1) > 16777216 then (zau.j1 k x0 x3 true ((zab x0 x3).f0) ((zab x0 x3).f1) ((zab x0 x3).f2) ((zab x0 x3).f3) ((zab x0 x3).f4)) else ((zaV.f ((zab x0 x3).f2)).bind fun i6=>(if i6=true then ((zaV.f ((zab x0 x3).f3)).bind fun f5=>(if f5=true then (if ((zab x0 x3).f4)<0 then (zau.j1 k x0 x3 true ((zab x0 x3).f0) ((zab x0 x3).f1) ((zab x0 x3).f2) ((zab x0 x3).f3) ((zab x0 x3).f4)) else (zau.j1 k x0 x3 (decide (((zab x0 x3).f4) > 1073741824)) ((zab x0 x3).f0) ((zab x0 x3).f1) ((zab x0 x3).f2) ((zab x0 x3).f3) ((zab x0 x3).f4))) else (zau.j1 k x0 x3 true ((zab x0 x3).f0) ((zab x0 x3).f1) ((zab x0 x3).f2) ((zab x0 x3).f3) ((zab x0 x3).f4)))) else (zau.j1 k x0 x3 true ((zab x0 x3).f0) ((zab x0 x3).f1) ((zab x0 x3).f2) ((zab x0 x3).f3) ((zab x0 x3).f4)))))))) else (none)) else (some 0)
def zau.j1:Nat→List (S57)→Int→Bool→Int→Int→Int→Int→Int→Option (Int)
 | 0,_,_,_,_,_,_,_,_=>none
 | k+1,x0,x3,x60,x01,x02,x03,x04,x00=>if x60=true then (some 2) else (if x3 > 0 then (if 0≤(wrap64 (x3 - 1)) then (if (wrap64 (x3 - 1))<(x0.length:Int) then (if x00<((zab x0 (wrap64 (x3 - 1))).f4) then (some 24) else (zau.l0 k x0 (wrap64 (x3+1)))) else (none)) else (none)) else (zau.l0 k x0 (wrap64 (x3+1))))
end
def zau.f (k:Nat) (l0:List (S57)):Option (Int):=if (l0.length:Int)=0 then (some 1) else (if (l0.length:Int) > 128 then (some 3) else (zau.l0 k l0 0))
set_option maxHeartbeats 8000000 in
set_option maxRecDepth 100000 in
theorem zau.calls (k:Nat) (A0:Option Addr) (c0:Nat) (l0:List (S57)) (r:Int) (w:World) (hr0:Kd.C k57 w A0 l0.length l0) (hc0:l0.length≤c0) (h:zau.f k l0=some r) :
 Calls Try.prog 31 #[.slice A0 l0.length c0] w fun e w'=>e = .returned (.int .i64 r)∧Below w.heap.size w w':=by
 have hu57:=Try.underlying57
 have HR0:=zaa.mk hr0
 have HC0:=zaa.mk hc0
 clear hr0 hc0
 have HB:=zaa.mk (Below.refl w.heap.size w)
 have H:(if (l0.length:Int)=0 then (some 1) else (if (l0.length:Int) > 128 then (some 3) else (zau.l0 k l0 0)))=some r:=h
 clear h
 by_cases c2:(l0.length:Int)=0
 ·rw [if_pos c2] at H
  have c2b0:((l0.length:Int)==0)=true:=beq_iff_eq.mpr c2
  have c2b1:((l0.length:Int) != 0)=false:=bne_eq_false_iff_eq.mpr c2
  clear c2
  obtain rfl:=Option.some.inj H
  go_enter Try.func31,Try.ntmps31
  go_wp2
  repeat (go_quiet (fail);try go_wp2)
  go_ret
  exact zG
 ·rw [if_neg c2] at H
  have c2b0:((l0.length:Int)==0)=false:=beq_eq_false_iff_ne.mpr c2
  have c2b1:((l0.length:Int) != 0)=true:=bne_iff_ne.mpr c2
  have c2b2 : ¬ (l0=[]):=fun h_=>c2 (by rw [h_];rfl)
  by_cases c3:(l0.length:Int) > 128
  ·rw [if_pos c3] at H
   have c3b0:decide (128<(l0.length:Int))=true:=decide_eq_true c3
   have c3b1:decide (128<l0.length)=true:=decide_eq_true (by omega)
   clear c3
   obtain rfl:=Option.some.inj H
   go_enter Try.func31,Try.ntmps31
   go_wp2
   repeat (go_quiet (fail);try go_wp2)
   go_ret
   exact zG
  ·rw [if_neg c3] at H
   have c3b0:decide (128<(l0.length:Int))=false:=decide_eq_false c3
   have c3b1:decide (128<l0.length)=false:=decide_eq_false (by omega)
   clear c3
   have H':=zaa.mk H
   clear H
   go_enter Try.func31,Try.ntmps31
   go_wp2
   repeat (go_quiet (fail);try go_wp2)
   go_loopg [3] k (fun kq v3 w'=>∃ (x3_1:Int),v3 = .int .i64 x3_1∧zaa (zau.l0 kq l0 x3_1=some r)∧zaa (kq≤k)∧zaa (Below w.heap.size w w'))
   case atStart=>exact ⟨(0),zF,H',⟨Nat.le_refl _⟩,⟨by repeat (first|(with_reducible first|exact HB.out|apply zan|apply zaj|apply zai)|exact HB.out)⟩⟩
   case round=>
    clear H'
    try clear c2
    try clear c2b0
    try clear c2b1
    try clear c2b2
    try clear p2
    try clear c3
    try clear c3b0
    try clear c3b1
    obtain ⟨x3_1,rfl,HA,e9,HB⟩:=hrel
    cases gk with
    | zero=>exact absurd HA.out (by simp [zau.l0])
    | succ k1=>
     have H:=HA.out
     clear HA
     simp only [zau.l0] at H
     by_cases c4:x3_1<(l0.length:Int)
     ·rw [if_pos c4] at H
      have c4b0:decide (x3_1<(l0.length:Int))=true:=decide_eq_true c4
      clear c4
      by_cases c5:0≤x3_1
      ·rw [if_pos c5] at H
       have c5b0:decide (0≤x3_1)=true:=decide_eq_true c5
       clear c5
       have HC6:=zaa.mk H
       clear H
       have p326:0≤(x3_1:Int):=of_decide_eq_true (by first|(with_reducible assumption)|assumption)
       have q326:x3_1<(l0.length:Int):=of_decide_eq_true (by first|(with_reducible assumption)|assumption)
       obtain ⟨i8,e326,f6,f7,g9,i3,i4⟩:=at_T57 HR0.out x3_1 p326 q326
       cases e326
       replace f6:=zad HB.out f6
       replace f7:=zad HB.out f7
       replace g9:=zad HB.out g9
       replace i3:=zad HB.out i3
       replace i4:=zad HB.out i4
       replace p326:=eq_true p326
       replace q326:=eq_true q326
       go_upto_region 9 with (first|((with_reducible refine zaC (N:=4) rfl ?_);refine zbx (N:=4) #[.int .i64 0,.int .i64 0,.int .i64 0,.int .i64 0,.int .i64 0] 57 ?_;intro d5 hg w7 hbox hb;have n0_:=zaa.mk (zae (zL HB.out) hb);have n1_:=zaa.mk (hbox);have n2_:=zaa.mk ((zS hg (zL HB.out):w.heap.size≤d5));have n3_:=n2_;clear HB;have HB:=n0_;have b8:=n1_;have F1:=n2_;have d6:=n3_;clear n0_ n1_ n2_ n3_;clear hb hbox hg;obtain ⟨C1,C2,C3,C4,C5⟩:=zD5 b8.out;obtain ⟨C6,C7,C8,C9,D0⟩:=zE5 b8.out))
       repeat (go_quiet (first|fail))
       (try simp only [Act.put,List.setIfInBounds_toArray,List.set_cons_zero,List.set_cons_succ])
       go_cut [60] (fun v60 wc=>∃ (kq:Nat) (x60_5:Bool),v60 = .bool x60_5∧zaa (zau.j1 kq l0 x3_1 x60_5 ((zab l0 x3_1).f0) ((zab l0 x3_1).f1) ((zab l0 x3_1).f2) ((zab l0 x3_1).f3) ((zab l0 x3_1).f4)=some r)∧zaa (kq≤k1)∧zaa (wc.heap[d5]? = some (.cells #[.int .i64 ((zab l0 x3_1).f0),.int .i64 ((zab l0 x3_1).f1),.int .i64 ((zab l0 x3_1).f2),.int .i64 ((zab l0 x3_1).f3),.int .i64 ((zab l0 x3_1).f4)] 57 (0,0)))∧zaa (Below w.heap.size w wc))
       case first=>
        have H:=HC6.out
        clear HC6
        by_cases c9:((zab l0 x3_1).f0)<(-16777216)
        ·rw [if_pos c9] at H
         have c9b0:decide (((zab l0 x3_1).f0)<(-16777216))=true:=decide_eq_true c9
         clear c9
         (first|rw [c9b0]|(simp only [zbY,zcc];rw [c9b0])|skip)
         have H':=zaa.mk H
         clear H
         obtain ⟨i9,j2,j3,j4,j5⟩:=zD5 b8.out
         obtain ⟨j6,j7,j8,j9,k3⟩:=zE5 b8.out
         go_wp2
         repeat (go_quiet (fail);try go_wp2)
         go_meet
         case rel=>exact ⟨_,(true),zF,H',⟨by have:=e9.out;first|omega|exact Nat.le_refl _⟩,⟨by refine zB ?_;refine zar (cs:=#[.int .i64 ((zab l0 x3_1).f0),.int .i64 ((zab l0 x3_1).f1),.int .i64 ((zab l0 x3_1).f2),.int .i64 ((zab l0 x3_1).f3),.int .i64 0]) ?_ 4 _ rfl;refine zB ?_;refine zar (cs:=#[.int .i64 ((zab l0 x3_1).f0),.int .i64 ((zab l0 x3_1).f1),.int .i64 ((zab l0 x3_1).f2),.int .i64 0,.int .i64 0]) ?_ 3 _ rfl;refine zB ?_;refine zar (cs:=#[.int .i64 ((zab l0 x3_1).f0),.int .i64 ((zab l0 x3_1).f1),.int .i64 0,.int .i64 0,.int .i64 0]) ?_ 2 _ rfl;refine zB ?_;refine zar (cs:=#[.int .i64 ((zab l0 x3_1).f0),.int .i64 0,.int .i64 0,.int .i64 0,.int .i64 0]) ?_ 1 _ rfl;refine zB ?_;refine zar (cs:=#[.int .i64 0,.int .i64 0,.int .i64 0,.int .i64 0,.int .i64 0]) ?_ 0 _ rfl;refine zB ?_;exact b8.out⟩,⟨by repeat (first|(with_reducible first|exact HB.out|apply zan|apply zaj|apply zai|refine zao ?_ d6.out)|exact HB.out)⟩⟩
        ·rw [if_neg c9] at H
         have c9b0:decide (((zab l0 x3_1).f0)<(-16777216))=false:=decide_eq_false c9
         clear c9
         (first|rw [c9b0]|(simp only [zbY,zcc];rw [c9b0])|skip)
         by_cases c11:((zab l0 x3_1).f0) > 16777216
         ·rw [if_pos c11] at H
          have c11b0:decide (16777216<((zab l0 x3_1).f0))=true:=decide_eq_true c11
          clear c11
          have H':=zaa.mk H
          clear H
          obtain ⟨k4,k5,k6,k7,k8⟩:=zD5 b8.out
          obtain ⟨k9,l3,l4,l5,l6⟩:=zE5 b8.out
          go_wp2
          repeat (go_quiet (fail);try go_wp2)
          go_meet
          case rel=>exact ⟨_,(true),zF,H',⟨by have:=e9.out;first|omega|exact Nat.le_refl _⟩,⟨by refine zB ?_;refine zar (cs:=#[.int .i64 ((zab l0 x3_1).f0),.int .i64 ((zab l0 x3_1).f1),.int .i64 ((zab l0 x3_1).f2),.int .i64 ((zab l0 x3_1).f3),.int .i64 0]) ?_ 4 _ rfl;refine zB ?_;refine zar (cs:=#[.int .i64 ((zab l0 x3_1).f0),.int .i64 ((zab l0 x3_1).f1),.int .i64 ((zab l0 x3_1).f2),.int .i64 0,.int .i64 0]) ?_ 3 _ rfl;refine zB ?_;refine zar (cs:=#[.int .i64 ((zab l0 x3_1).f0),.int .i64 ((zab l0 x3_1).f1),.int .i64 0,.int .i64 0,.int .i64 0]) ?_ 2 _ rfl;refine zB ?_;refine zar (cs:=#[.int .i64 ((zab l0 x3_1).f0),.int .i64 0,.int .i64 0,.int .i64 0,.int .i64 0]) ?_ 1 _ rfl;refine zB ?_;refine zar (cs:=#[.int .i64 0,.int .i64 0,.int .i64 0,.int .i64 0,.int .i64 0]) ?_ 0 _ rfl;refine zB ?_;exact b8.out⟩,⟨by repeat (first|(with_reducible first|exact HB.out|apply zan|apply zaj|apply zai|refine zao ?_ d6.out)|exact HB.out)⟩⟩
         ·rw [if_neg c11] at H
          have c11b0:decide (16777216<((zab l0 x3_1).f0))=false:=decide_eq_false c11
          clear c11
          by_cases c13:((zab l0 x3_1).f1)<(-16777216)
          ·rw [if_pos c13] at H
           have c13b0:decide (((zab l0 x3_1).f1)<(-16777216))=true:=decide_eq_true c13
           clear c13
           have H':=zaa.mk H
           clear H
           obtain ⟨l7,l8,l9,m5,m6⟩:=zD5 b8.out
           obtain ⟨m7,m8,m9,n0,n3⟩:=zE5 b8.out
           go_wp2
           repeat (go_quiet (fail);try go_wp2)
           go_meet
           case rel=>exact ⟨_,(true),zF,H',⟨by have:=e9.out;first|omega|exact Nat.le_refl _⟩,⟨by refine zB ?_;refine zar (cs:=#[.int .i64 ((zab l0 x3_1).f0),.int .i64 ((zab l0 x3_1).f1),.int .i64 ((zab l0 x3_1).f2),.int .i64 ((zab l0 x3_1).f3),.int .i64 0]) ?_ 4 _ rfl;refine zB ?_;refine zar (cs:=#[.int .i64 ((zab l0 x3_1).f0),.int .i64 ((zab l0 x3_1).f1),.int .i64 ((zab l0 x3_1).f2),.int .i64 0,.int .i64 0]) ?_ 3 _ rfl;refine zB ?_;refine zar (cs:=#[.int .i64 ((zab l0 x3_1).f0),.int .i64 ((zab l0 x3_1).f1),.int .i64 0,.int .i64 0,.int .i64 0]) ?_ 2 _ rfl;refine zB ?_;refine zar (cs:=#[.int .i64 ((zab l0 x3_1).f0),.int .i64 0,.int .i64 0,.int .i64 0,.int .i64 0]) ?_ 1 _ rfl;refine zB ?_;refine zar (cs:=#[.int .i64 0,.int .i64 0,.int .i64 0,.int .i64 0,.int .i64 0]) ?_ 0 _ rfl;refine zB ?_;exact b8.out⟩,⟨by repeat (first|(with_reducible first|exact HB.out|apply zan|apply zaj|apply zai|refine zao ?_ d6.out)|exact HB.out)⟩⟩
          ·rw [if_neg c13] at H
           have c13b0:decide (((zab l0 x3_1).f1)<(-16777216))=false:=decide_eq_false c13
           clear c13
           by_cases c15:((zab l0 x3_1).f1) > 16777216
           ·rw [if_pos c15] at H
            have c15b0:decide (16777216<((zab l0 x3_1).f1))=true:=decide_eq_true c15
            clear c15
            have H':=zaa.mk H
            clear H
            obtain ⟨n4,n5,n6,n7,n8⟩:=zD5 b8.out
            obtain ⟨n9,o2,o3,o4,o5⟩:=zE5 b8.out
            go_wp2
            repeat (go_quiet (fail);try go_wp2)
            go_meet
            case rel=>exact ⟨_,(true),zF,H',⟨by have:=e9.out;first|omega|exact Nat.le_refl _⟩,⟨by refine zB ?_;refine zar (cs:=#[.int .i64 ((zab l0 x3_1).f0),.int .i64 ((zab l0 x3_1).f1),.int .i64 ((zab l0 x3_1).f2),.int .i64 ((zab l0 x3_1).f3),.int .i64 0]) ?_ 4 _ rfl;refine zB ?_;refine zar (cs:=#[.int .i64 ((zab l0 x3_1).f0),.int .i64 ((zab l0 x3_1).f1),.int .i64 ((zab l0 x3_1).f2),.int .i64 0,.int .i64 0]) ?_ 3 _ rfl;refine zB ?_;refine zar (cs:=#[.int .i64 ((zab l0 x3_1).f0),.int .i64 ((zab l0 x3_1).f1),.int .i64 0,.int .i64 0,.int .i64 0]) ?_ 2 _ rfl;refine zB ?_;refine zar (cs:=#[.int .i64 ((zab l0 x3_1).f0),.int .i64 0,.int .i64 0,.int .i64 0,.int .i64 0]) ?_ 1 _ rfl;refine zB ?_;refine zar (cs:=#[.int .i64 0,.int .i64 0,.int .i64 0,.int .i64 0,.int .i64 0]) ?_ 0 _ rfl;refine zB ?_;exact b8.out⟩,⟨by repeat (first|(with_reducible first|exact HB.out|apply zan|apply zaj|apply zai|refine zao ?_ d6.out)|exact HB.out)⟩⟩
           ·rw [if_neg c15] at H
            have c15b0:decide (16777216<((zab l0 x3_1).f1))=false:=decide_eq_false c15
            clear c15
            obtain ⟨i6,A17,H⟩:=zob H
            replace H:(if i6=true then ((zaV.f ((zab l0 x3_1).f3)).bind fun f5=>(if f5=true then (if ((zab l0 x3_1).f4)<0 then (zau.j1 k1 l0 x3_1 true ((zab l0 x3_1).f0) ((zab l0 x3_1).f1) ((zab l0 x3_1).f2) ((zab l0 x3_1).f3) ((zab l0 x3_1).f4)) else (zau.j1 k1 l0 x3_1 (decide (((zab l0 x3_1).f4) > 1073741824)) ((zab l0 x3_1).f0) ((zab l0 x3_1).f1) ((zab l0 x3_1).f2) ((zab l0 x3_1).f3) ((zab l0 x3_1).f4))) else (zau.j1 k1 l0 x3_1 true ((zab l0 x3_1).f0) ((zab l0 x3_1).f1) ((zab l0 x3_1).f2) ((zab l0 x3_1).f3) ((zab l0 x3_1).f4)))) else (zau.j1 k1 l0 x3_1 true ((zab l0 x3_1).f0) ((zab l0 x3_1).f1) ((zab l0 x3_1).f2) ((zab l0 x3_1).f3) ((zab l0 x3_1).f4)))=some r:=H
            by_cases c18:i6=true
            ·subst c18
             have H1:((zaV.f ((zab l0 x3_1).f3)).bind fun f5=>(if f5=true then (if ((zab l0 x3_1).f4)<0 then (zau.j1 k1 l0 x3_1 true ((zab l0 x3_1).f0) ((zab l0 x3_1).f1) ((zab l0 x3_1).f2) ((zab l0 x3_1).f3) ((zab l0 x3_1).f4)) else (zau.j1 k1 l0 x3_1 (decide (((zab l0 x3_1).f4) > 1073741824)) ((zab l0 x3_1).f0) ((zab l0 x3_1).f1) ((zab l0 x3_1).f2) ((zab l0 x3_1).f3) ((zab l0 x3_1).f4))) else (zau.j1 k1 l0 x3_1 true ((zab l0 x3_1).f0) ((zab l0 x3_1).f1) ((zab l0 x3_1).f2) ((zab l0 x3_1).f3) ((zab l0 x3_1).f4))))=some r:=by rw [if_pos rfl] at H;exact H
             clear H
             have H:=H1
             clear H1
             obtain ⟨f5,A19,H⟩:=zob H
             replace H:(if f5=true then (if ((zab l0 x3_1).f4)<0 then (zau.j1 k1 l0 x3_1 true ((zab l0 x3_1).f0) ((zab l0 x3_1).f1) ((zab l0 x3_1).f2) ((zab l0 x3_1).f3) ((zab l0 x3_1).f4)) else (zau.j1 k1 l0 x3_1 (decide (((zab l0 x3_1).f4) > 1073741824)) ((zab l0 x3_1).f0) ((zab l0 x3_1).f1) ((zab l0 x3_1).f2) ((zab l0 x3_1).f3) ((zab l0 x3_1).f4))) else (zau.j1 k1 l0 x3_1 true ((zab l0 x3_1).f0) ((zab l0 x3_1).f1) ((zab l0 x3_1).f2) ((zab l0 x3_1).f3) ((zab l0 x3_1).f4)))=some r:=H
             by_cases c20:f5=true
             ·subst c20
              have H1:(if ((zab l0 x3_1).f4)<0 then (zau.j1 k1 l0 x3_1 true ((zab l0 x3_1).f0) ((zab l0 x3_1).f1) ((zab l0 x3_1).f2) ((zab l0 x3_1).f3) ((zab l0 x3_1).f4)) else (zau.j1 k1 l0 x3_1 (decide (((zab l0 x3_1).f4) > 1073741824)) ((zab l0 x3_1).f0) ((zab l0 x3_1).f1) ((zab l0 x3_1).f2) ((zab l0 x3_1).f3) ((zab l0 x3_1).f4)))=some r:=by rw [if_pos rfl] at H;exact H
              clear H
              have H:=H1
              clear H1
              by_cases c21:((zab l0 x3_1).f4)<0
              ·rw [if_pos c21] at H
               have c21b0:decide (((zab l0 x3_1).f4)<0)=true:=decide_eq_true c21
               clear c21
               have H':=zaa.mk H
               clear H
               obtain ⟨o6,o7,o8,o9,p7⟩:=zD5 b8.out
               obtain ⟨p8,p9,s5,s6,s7⟩:=zE5 b8.out
               go_wp2_with (first|(go_at_call 81;(with_reducible refine (zaV.calls ((zab l0 x3_1).f2) true _ A17.out).mono ?_);rintro e w' ⟨rfl,⟨nd,rfl⟩⟩;(try first|exact ⟨rfl,_,World.drewN_drewN _ _ _⟩|exact ⟨rfl,_,Eq.trans (World.drewN_drewN _ _ _) (congrArg (World.drewN _) (Nat.add_assoc _ _ _))⟩))|(go_at_call 81;(with_reducible refine (zaV.calls ((zab l0 x3_1).f3) true _ A19.out).mono ?_);rintro e w' ⟨rfl,⟨nd,rfl⟩⟩;(try first|exact ⟨rfl,_,World.drewN_drewN _ _ _⟩|exact ⟨rfl,_,Eq.trans (World.drewN_drewN _ _ _) (congrArg (World.drewN _) (Nat.add_assoc _ _ _))⟩)))
               repeat (go_quiet (first|(go_at_call 81;(with_reducible refine (zaV.calls ((zab l0 x3_1).f2) true _ A17.out).mono ?_);rintro e w' ⟨rfl,⟨nd,rfl⟩⟩;(try first|exact ⟨rfl,_,World.drewN_drewN _ _ _⟩|exact ⟨rfl,_,Eq.trans (World.drewN_drewN _ _ _) (congrArg (World.drewN _) (Nat.add_assoc _ _ _))⟩))|(go_at_call 81;(with_reducible refine (zaV.calls ((zab l0 x3_1).f3) true _ A19.out).mono ?_);rintro e w' ⟨rfl,⟨nd,rfl⟩⟩;(try first|exact ⟨rfl,_,World.drewN_drewN _ _ _⟩|exact ⟨rfl,_,Eq.trans (World.drewN_drewN _ _ _) (congrArg (World.drewN _) (Nat.add_assoc _ _ _))⟩)));try go_wp2_with (first|(go_at_call 81;(with_reducible refine (zaV.calls ((zab l0 x3_1).f2) true _ A17.out).mono ?_);rintro e w' ⟨rfl,⟨nd,rfl⟩⟩;(try first|exact ⟨rfl,_,World.drewN_drewN _ _ _⟩|exact ⟨rfl,_,Eq.trans (World.drewN_drewN _ _ _) (congrArg (World.drewN _) (Nat.add_assoc _ _ _))⟩))|(go_at_call 81;(with_reducible refine (zaV.calls ((zab l0 x3_1).f3) true _ A19.out).mono ?_);rintro e w' ⟨rfl,⟨nd,rfl⟩⟩;(try first|exact ⟨rfl,_,World.drewN_drewN _ _ _⟩|exact ⟨rfl,_,Eq.trans (World.drewN_drewN _ _ _) (congrArg (World.drewN _) (Nat.add_assoc _ _ _))⟩))))
               go_meet
               case rel=>exact ⟨_,(true),zF,H',⟨by have:=e9.out;first|omega|exact Nat.le_refl _⟩,⟨by refine zB ?_;refine zar (cs:=#[.int .i64 ((zab l0 x3_1).f0),.int .i64 ((zab l0 x3_1).f1),.int .i64 ((zab l0 x3_1).f2),.int .i64 ((zab l0 x3_1).f3),.int .i64 0]) ?_ 4 _ rfl;refine zB ?_;refine zar (cs:=#[.int .i64 ((zab l0 x3_1).f0),.int .i64 ((zab l0 x3_1).f1),.int .i64 ((zab l0 x3_1).f2),.int .i64 0,.int .i64 0]) ?_ 3 _ rfl;refine zB ?_;refine zar (cs:=#[.int .i64 ((zab l0 x3_1).f0),.int .i64 ((zab l0 x3_1).f1),.int .i64 0,.int .i64 0,.int .i64 0]) ?_ 2 _ rfl;refine zB ?_;refine zar (cs:=#[.int .i64 ((zab l0 x3_1).f0),.int .i64 0,.int .i64 0,.int .i64 0,.int .i64 0]) ?_ 1 _ rfl;refine zB ?_;refine zar (cs:=#[.int .i64 0,.int .i64 0,.int .i64 0,.int .i64 0,.int .i64 0]) ?_ 0 _ rfl;refine zB ?_;exact b8.out⟩,⟨by repeat (first|(with_reducible first|exact HB.out|apply zan|apply zaj|apply zai|refine zao ?_ d6.out)|exact HB.out)⟩⟩
              ·rw [if_neg c21] at H
               have c21b0:decide (((zab l0 x3_1).f4)<0)=false:=decide_eq_false c21
               clear c21
               have H':=zaa.mk H
               clear H
               obtain ⟨s8,s9,t6,t7,t8⟩:=zD5 b8.out
               obtain ⟨t9,u3,u4,u5,u6⟩:=zE5 b8.out
               go_wp2_with (first|(go_at_call 81;(with_reducible refine (zaV.calls ((zab l0 x3_1).f2) true _ A17.out).mono ?_);rintro e w' ⟨rfl,⟨nd,rfl⟩⟩;(try first|exact ⟨rfl,_,World.drewN_drewN _ _ _⟩|exact ⟨rfl,_,Eq.trans (World.drewN_drewN _ _ _) (congrArg (World.drewN _) (Nat.add_assoc _ _ _))⟩))|(go_at_call 81;(with_reducible refine (zaV.calls ((zab l0 x3_1).f3) true _ A19.out).mono ?_);rintro e w' ⟨rfl,⟨nd,rfl⟩⟩;(try first|exact ⟨rfl,_,World.drewN_drewN _ _ _⟩|exact ⟨rfl,_,Eq.trans (World.drewN_drewN _ _ _) (congrArg (World.drewN _) (Nat.add_assoc _ _ _))⟩)))
               repeat (go_quiet (first|(go_at_call 81;(with_reducible refine (zaV.calls ((zab l0 x3_1).f2) true _ A17.out).mono ?_);rintro e w' ⟨rfl,⟨nd,rfl⟩⟩;(try first|exact ⟨rfl,_,World.drewN_drewN _ _ _⟩|exact ⟨rfl,_,Eq.trans (World.drewN_drewN _ _ _) (congrArg (World.drewN _) (Nat.add_assoc _ _ _))⟩))|(go_at_call 81;(with_reducible refine (zaV.calls ((zab l0 x3_1).f3) true _ A19.out).mono ?_);rintro e w' ⟨rfl,⟨nd,rfl⟩⟩;(try first|exact ⟨rfl,_,World.drewN_drewN _ _ _⟩|exact ⟨rfl,_,Eq.trans (World.drewN_drewN _ _ _) (congrArg (World.drewN _) (Nat.add_assoc _ _ _))⟩)));try go_wp2_with (first|(go_at_call 81;(with_reducible refine (zaV.calls ((zab l0 x3_1).f2) true _ A17.out).mono ?_);rintro e w' ⟨rfl,⟨nd,rfl⟩⟩;(try first|exact ⟨rfl,_,World.drewN_drewN _ _ _⟩|exact ⟨rfl,_,Eq.trans (World.drewN_drewN _ _ _) (congrArg (World.drewN _) (Nat.add_assoc _ _ _))⟩))|(go_at_call 81;(with_reducible refine (zaV.calls ((zab l0 x3_1).f3) true _ A19.out).mono ?_);rintro e w' ⟨rfl,⟨nd,rfl⟩⟩;(try first|exact ⟨rfl,_,World.drewN_drewN _ _ _⟩|exact ⟨rfl,_,Eq.trans (World.drewN_drewN _ _ _) (congrArg (World.drewN _) (Nat.add_assoc _ _ _))⟩))))
               go_meet
               case rel=>exact ⟨_,(decide (((zab l0 x3_1).f4) > 1073741824)),zF,H',⟨by have:=e9.out;first|omega|exact Nat.le_refl _⟩,⟨by refine zB ?_;refine zar (cs:=#[.int .i64 ((zab l0 x3_1).f0),.int .i64 ((zab l0 x3_1).f1),.int .i64 ((zab l0 x3_1).f2),.int .i64 ((zab l0 x3_1).f3),.int .i64 0]) ?_ 4 _ rfl;refine zB ?_;refine zar (cs:=#[.int .i64 ((zab l0 x3_1).f0),.int .i64 ((zab l0 x3_1).f1),.int .i64 ((zab l0 x3_1).f2),.int .i64 0,.int .i64 0]) ?_ 3 _ rfl;refine zB ?_;refine zar (cs:=#[.int .i64 ((zab l0 x3_1).f0),.int .i64 ((zab l0 x3_1).f1),.int .i64 0,.int .i64 0,.int .i64 0]) ?_ 2 _ rfl;refine zB ?_;refine zar (cs:=#[.int .i64 ((zab l0 x3_1).f0),.int .i64 0,.int .i64 0,.int .i64 0,.int .i64 0]) ?_ 1 _ rfl;refine zB ?_;refine zar (cs:=#[.int .i64 0,.int .i64 0,.int .i64 0,.int .i64 0,.int .i64 0]) ?_ 0 _ rfl;refine zB ?_;exact b8.out⟩,⟨by repeat (first|(with_reducible first|exact HB.out|apply zan|apply zaj|apply zai|refine zao ?_ d6.out)|exact HB.out)⟩⟩
             ·replace c20:=Bool.eq_false_iff.mpr c20
              subst c20
              have H1:(zau.j1 k1 l0 x3_1 true ((zab l0 x3_1).f0) ((zab l0 x3_1).f1) ((zab l0 x3_1).f2) ((zab l0 x3_1).f3) ((zab l0 x3_1).f4))=some r:=by rw [if_neg (show ¬ (false=true) by decide)] at H;exact H
              clear H
              have H:=H1
              clear H1
              have H':=zaa.mk H
              clear H
              obtain ⟨u7,u9,y5,y6,y7⟩:=zD5 b8.out
              obtain ⟨y8,y9,z1,z2,z3⟩:=zE5 b8.out
              go_wp2_with (first|(go_at_call 81;(with_reducible refine (zaV.calls ((zab l0 x3_1).f2) true _ A17.out).mono ?_);rintro e w' ⟨rfl,⟨nd,rfl⟩⟩;(try first|exact ⟨rfl,_,World.drewN_drewN _ _ _⟩|exact ⟨rfl,_,Eq.trans (World.drewN_drewN _ _ _) (congrArg (World.drewN _) (Nat.add_assoc _ _ _))⟩))|(go_at_call 81;(with_reducible refine (zaV.calls ((zab l0 x3_1).f3) false _ A19.out).mono ?_);rintro e w' ⟨rfl,⟨nd,rfl⟩⟩;(try first|exact ⟨rfl,_,World.drewN_drewN _ _ _⟩|exact ⟨rfl,_,Eq.trans (World.drewN_drewN _ _ _) (congrArg (World.drewN _) (Nat.add_assoc _ _ _))⟩)))
              repeat (go_quiet (first|(go_at_call 81;(with_reducible refine (zaV.calls ((zab l0 x3_1).f2) true _ A17.out).mono ?_);rintro e w' ⟨rfl,⟨nd,rfl⟩⟩;(try first|exact ⟨rfl,_,World.drewN_drewN _ _ _⟩|exact ⟨rfl,_,Eq.trans (World.drewN_drewN _ _ _) (congrArg (World.drewN _) (Nat.add_assoc _ _ _))⟩))|(go_at_call 81;(with_reducible refine (zaV.calls ((zab l0 x3_1).f3) false _ A19.out).mono ?_);rintro e w' ⟨rfl,⟨nd,rfl⟩⟩;(try first|exact ⟨rfl,_,World.drewN_drewN _ _ _⟩|exact ⟨rfl,_,Eq.trans (World.drewN_drewN _ _ _) (congrArg (World.drewN _) (Nat.add_assoc _ _ _))⟩)));try go_wp2_with (first|(go_at_call 81;(with_reducible refine (zaV.calls ((zab l0 x3_1).f2) true _ A17.out).mono ?_);rintro e w' ⟨rfl,⟨nd,rfl⟩⟩;(try first|exact ⟨rfl,_,World.drewN_drewN _ _ _⟩|exact ⟨rfl,_,Eq.trans (World.drewN_drewN _ _ _) (congrArg (World.drewN _) (Nat.add_assoc _ _ _))⟩))|(go_at_call 81;(with_reducible refine (zaV.calls ((zab l0 x3_1).f3) false _ A19.out).mono ?_);rintro e w' ⟨rfl,⟨nd,rfl⟩⟩;(try first|exact ⟨rfl,_,World.drewN_drewN _ _ _⟩|exact ⟨rfl,_,Eq.trans (World.drewN_drewN _ _ _) (congrArg (World.drewN _) (Nat.add_assoc _ _ _))⟩))))
              go_meet
              case rel=>exact ⟨_,(true),zF,H',⟨by have:=e9.out;first|omega|exact Nat.le_refl _⟩,⟨by refine zB ?_;refine zar (cs:=#[.int .i64 ((zab l0 x3_1).f0),.int .i64 ((zab l0 x3_1).f1),.int .i64 ((zab l0 x3_1).f2),.int .i64 ((zab l0 x3_1).f3),.int .i64 0]) ?_ 4 _ rfl;refine zB ?_;refine zar (cs:=#[.int .i64 ((zab l0 x3_1).f0),.int .i64 ((zab l0 x3_1).f1),.int .i64 ((zab l0 x3_1).f2),.int .i64 0,.int .i64 0]) ?_ 3 _ rfl;refine zB ?_;refine zar (cs:=#[.int .i64 ((zab l0 x3_1).f0),.int .i64 ((zab l0 x3_1).f1),.int .i64 0,.int .i64 0,.int .i64 0]) ?_ 2 _ rfl;refine zB ?_;refine zar (cs:=#[.int .i64 ((zab l0 x3_1).f0),.int .i64 0,.int .i64 0,.int .i64 0,.int .i64 0]) ?_ 1 _ rfl;refine zB ?_;refine zar (cs:=#[.int .i64 0,.int .i64 0,.int .i64 0,.int .i64 0,.int .i64 0]) ?_ 0 _ rfl;refine zB ?_;exact b8.out⟩,⟨by repeat (first|(with_reducible first|exact HB.out|apply zan|apply zaj|apply zai|refine zao ?_ d6.out)|exact HB.out)⟩⟩
            ·replace c18:=Bool.eq_false_iff.mpr c18
             subst c18
             have H1:(zau.j1 k1 l0 x3_1 true ((zab l0 x3_1).f0) ((zab l0 x3_1).f1) ((zab l0 x3_1).f2) ((zab l0 x3_1).f3) ((zab l0 x3_1).f4))=some r:=by rw [if_neg (show ¬ (false=true) by decide)] at H;exact H
             clear H
             have H:=H1
             clear H1
             have H':=zaa.mk H
             clear H
             obtain ⟨z4,z5,z6,z7,z8⟩:=zD5 b8.out
             obtain ⟨z9,B0,B3,B7,C0⟩:=zE5 b8.out
             go_wp2_with (first|(go_at_call 81;(with_reducible refine (zaV.calls ((zab l0 x3_1).f2) false _ A17.out).mono ?_);rintro e w' ⟨rfl,⟨nd,rfl⟩⟩;(try first|exact ⟨rfl,_,World.drewN_drewN _ _ _⟩|exact ⟨rfl,_,Eq.trans (World.drewN_drewN _ _ _) (congrArg (World.drewN _) (Nat.add_assoc _ _ _))⟩)))
             repeat (go_quiet (first|(go_at_call 81;(with_reducible refine (zaV.calls ((zab l0 x3_1).f2) false _ A17.out).mono ?_);rintro e w' ⟨rfl,⟨nd,rfl⟩⟩;(try first|exact ⟨rfl,_,World.drewN_drewN _ _ _⟩|exact ⟨rfl,_,Eq.trans (World.drewN_drewN _ _ _) (congrArg (World.drewN _) (Nat.add_assoc _ _ _))⟩)));try go_wp2_with (first|(go_at_call 81;(with_reducible refine (zaV.calls ((zab l0 x3_1).f2) false _ A17.out).mono ?_);rintro e w' ⟨rfl,⟨nd,rfl⟩⟩;(try first|exact ⟨rfl,_,World.drewN_drewN _ _ _⟩|exact ⟨rfl,_,Eq.trans (World.drewN_drewN _ _ _) (congrArg (World.drewN _) (Nat.add_assoc _ _ _))⟩))))
             go_meet
             case rel=>exact ⟨_,(true),zF,H',⟨by have:=e9.out;first|omega|exact Nat.le_refl _⟩,⟨by refine zB ?_;refine zar (cs:=#[.int .i64 ((zab l0 x3_1).f0),.int .i64 ((zab l0 x3_1).f1),.int .i64 ((zab l0 x3_1).f2),.int .i64 ((zab l0 x3_1).f3),.int .i64 0]) ?_ 4 _ rfl;refine zB ?_;refine zar (cs:=#[.int .i64 ((zab l0 x3_1).f0),.int .i64 ((zab l0 x3_1).f1),.int .i64 ((zab l0 x3_1).f2),.int .i64 0,.int .i64 0]) ?_ 3 _ rfl;refine zB ?_;refine zar (cs:=#[.int .i64 ((zab l0 x3_1).f0),.int .i64 ((zab l0 x3_1).f1),.int .i64 0,.int .i64 0,.int .i64 0]) ?_ 2 _ rfl;refine zB ?_;refine zar (cs:=#[.int .i64 ((zab l0 x3_1).f0),.int .i64 0,.int .i64 0,.int .i64 0,.int .i64 0]) ?_ 1 _ rfl;refine zB ?_;refine zar (cs:=#[.int .i64 0,.int .i64 0,.int .i64 0,.int .i64 0,.int .i64 0]) ?_ 0 _ rfl;refine zB ?_;exact b8.out⟩,⟨by repeat (first|(with_reducible first|exact HB.out|apply zan|apply zaj|apply zai|refine zao ?_ d6.out)|exact HB.out)⟩⟩
       case rest=>
        clear HC6
        try clear c1
        try clear c2
        try clear c2b0
        try clear c2b1
        try clear c2b2
        try clear p2
        try clear c3
        try clear c3b0
        try clear c3b1
        try clear p3
        try clear q3
        try clear hx3
        try clear c4
        try clear c4b0
        try clear c5
        try clear c5b0
        try clear c9
        try clear c9b0
        try clear c11
        try clear c11b0
        try clear c13
        try clear c13b0
        try clear c15
        try clear c15b0
        try clear c18
        try clear c20
        try clear c21
        try clear c21b0
        try clear i9 j2 j3 j4 j5 k4 k5 k6 k7 k8 l7 l8 l9 m5 m6 n4 n5 n6 n7 n8 o6 o7 o8 o9 p7 s8 s9 t6 t7 t8 u7 u9 y5 y6 y7 z4 z5 z6 z7 z8 C1 C2 C3 C4 C5 j6 j7 j8 j9 k3 k9 l3 l4 l5 l6 m7 m8 m9 n0 n3 n9 o2 o3 o4 o5 p8 p9 s5 s6 s7 t9 u3 u4 u5 u6 y8 y9 z1 z2 z3 z9 B0 B3 B7 C0 C6 C7 C8 C9 D0
        try clear f6
        try clear f7
        try clear g9
        try clear i3
        try clear i4
        try clear p2
        try clear p326
        try clear q326
        obtain ⟨kq,x60_5,rfl,HA,HJ5,b8,HB⟩:=hcut
        cases kq with
        | zero=>exact absurd HA.out (by simp [zau.j1])
        | succ kj5=>
         have H:=HA.out
         clear HA
         simp only [zau.j1] at H
         by_cases c26:x60_5=true
         ·subst c26
          have H1:(some 2)=some r:=by rw [if_pos rfl] at H;exact H
          clear H
          have H:=H1
          clear H1
          obtain rfl:=Option.some.inj H
          go_wp2
          repeat (go_quiet (fail);try go_wp2)
          go_ret
          exact zG
         ·replace c26:=Bool.eq_false_iff.mpr c26
          subst c26
          have H1:(if x3_1 > 0 then (if 0≤(wrap64 (x3_1 - 1)) then (if (wrap64 (x3_1 - 1))<(l0.length:Int) then (if ((zab l0 x3_1).f4)<((zab l0 (wrap64 (x3_1 - 1))).f4) then (some 24) else (zau.l0 kj5 l0 (wrap64 (x3_1+1)))) else (none)) else (none)) else (zau.l0 kj5 l0 (wrap64 (x3_1+1))))=some r:=by rw [if_neg (show ¬ (false=true) by decide)] at H;exact H
          clear H
          have H:=H1
          clear H1
          by_cases c27:x3_1 > 0
          ·rw [if_pos c27] at H
           have c27b0:decide (0<x3_1)=true:=decide_eq_true c27
           clear c27
           obtain ⟨b9,hji28⟩ : ∃ j_:Int,(wrap64 (x3_1 - 1))=j_:=⟨_,rfl⟩
           replace H:(if 0≤(b9) then (if (b9)<(l0.length:Int) then (if ((zab l0 x3_1).f4)<((zab l0 (b9)).f4) then (some 24) else (zau.l0 kj5 l0 (wrap64 (x3_1+1)))) else (none)) else (none))=some r:=by first|(rw [hji28] at H;exact H)|(simp only [hji28] at H ⊢;exact H)
           have hji28w:(IntKind.i64.wrap (x3_1 - 1))=b9:=(zbY _).trans hji28
           by_cases c29:0≤(b9)
           ·rw [if_pos c29] at H
            have c29b0:decide (0≤(b9))=true:=decide_eq_true c29
            clear c29
            by_cases c30:(b9)<(l0.length:Int)
            ·rw [if_pos c30] at H
             have c30b0:decide ((b9)<(l0.length:Int))=true:=decide_eq_true c30
             clear c30
             by_cases c31:((zab l0 x3_1).f4)<((zab l0 (b9)).f4)
             ·rw [if_pos c31] at H
              have c31b0:decide (((zab l0 x3_1).f4)<((zab l0 (b9)).f4))=true:=decide_eq_true c31
              clear c31
              obtain rfl:=Option.some.inj H
              have D1:wc.cell? ⟨d5,0,none⟩=some (.int .i64 ((zab l0 x3_1).f0)):=zc b8.out 0
              have D2:wc.cell? ⟨d5,1,none⟩=some (.int .i64 ((zab l0 x3_1).f1)):=zc b8.out 1
              have D3:wc.cell? ⟨d5,2,none⟩=some (.int .i64 ((zab l0 x3_1).f2)):=zc b8.out 2
              have D4:wc.cell? ⟨d5,3,none⟩=some (.int .i64 ((zab l0 x3_1).f3)):=zc b8.out 3
              have D5:wc.cell? ⟨d5,4,none⟩=some (.int .i64 ((zab l0 x3_1).f4)):=zc b8.out 4
              obtain ⟨D6,D7,D8,D9,E0⟩:=zE5 b8.out
              have p330:0≤((b9):Int):=of_decide_eq_true (by first|(with_reducible assumption)|assumption)
              have q330:(b9)<(l0.length:Int):=of_decide_eq_true (by first|(with_reducible assumption)|assumption)
              obtain ⟨i7,e330,d9,e0,e5,e6,e7⟩:=at_T57 HR0.out (b9) p330 q330
              obtain rfl:i8=i7:=(by injection e330)
              replace d9:=zad HB.out d9
              replace e0:=zad HB.out e0
              replace e5:=zad HB.out e5
              replace e6:=zad HB.out e6
              replace e7:=zad HB.out e7
              replace p330:=eq_true p330
              replace q330:=eq_true q330
              go_wp2
              repeat (go_quiet (fail);try go_wp2)
              go_ret
              exact ⟨by first|rfl|(simp [zaK,zaL] <;> rfl)|(simp only [← hji28];first|rfl|(simp [zaK,zaL] <;> rfl))|(simp [*,zaK,zaL] <;> rfl),by repeat (first|(with_reducible first|exact HB.out|apply zan|apply zaj|apply zai|refine zao ?_ d6.out)|exact HB.out)⟩
             ·rw [if_neg c31] at H
              have c31b0:decide (((zab l0 x3_1).f4)<((zab l0 (b9)).f4))=false:=decide_eq_false c31
              clear c31
              have H':=zaa.mk H
              clear H
              have E1:wc.cell? ⟨d5,0,none⟩=some (.int .i64 ((zab l0 x3_1).f0)):=zc b8.out 0
              have E2:wc.cell? ⟨d5,1,none⟩=some (.int .i64 ((zab l0 x3_1).f1)):=zc b8.out 1
              have E3:wc.cell? ⟨d5,2,none⟩=some (.int .i64 ((zab l0 x3_1).f2)):=zc b8.out 2
              have E4:wc.cell? ⟨d5,3,none⟩=some (.int .i64 ((zab l0 x3_1).f3)):=zc b8.out 3
              have E5:wc.cell? ⟨d5,4,none⟩=some (.int .i64 ((zab l0 x3_1).f4)):=zc b8.out 4
              obtain ⟨E6,E7,E8,E9,F0⟩:=zE5 b8.out
              have p330:0≤((b9):Int):=of_decide_eq_true (by first|(with_reducible assumption)|assumption)
              have q330:(b9)<(l0.length:Int):=of_decide_eq_true (by first|(with_reducible assumption)|assumption)
              obtain ⟨i7,e330,d9,e0,e5,e6,e7⟩:=at_T57 HR0.out (b9) p330 q330
              obtain rfl:i8=i7:=(by injection e330)
              replace d9:=zad HB.out d9
              replace e0:=zad HB.out e0
              replace e5:=zad HB.out e5
              replace e6:=zad HB.out e6
              replace e7:=zad HB.out e7
              replace p330:=eq_true p330
              replace q330:=eq_true q330
              go_wp2
              repeat (go_quiet (fail);try go_wp2)
              go_roundg kj5
              case measure=>have:=e9.out;have:=HJ5.out;omega
              case rel=>exact ⟨(wrap64 (x3_1+1)),zF,H',⟨by have:=e9.out;have:=HJ5.out;omega⟩,⟨by repeat (first|(with_reducible first|exact HB.out|apply zan|apply zaj|apply zai|refine zao ?_ d6.out)|exact HB.out)⟩⟩
            ·rw [if_neg c30] at H
             exact absurd H (by simp)
           ·rw [if_neg c29] at H
            exact absurd H (by simp)
          ·rw [if_neg c27] at H
           have c27b0:decide (0<x3_1)=false:=decide_eq_false c27
           clear c27
           have H':=zaa.mk H
           clear H
           go_wp2
           repeat (go_quiet (fail);try go_wp2)
           go_roundg kj5
           case measure=>have:=e9.out;have:=HJ5.out;omega
           case rel=>exact ⟨(wrap64 (x3_1+1)),zF,H',⟨by have:=e9.out;have:=HJ5.out;omega⟩,⟨by repeat (first|(with_reducible first|exact HB.out|apply zan|apply zaj|apply zai|refine zao ?_ d6.out)|exact HB.out)⟩⟩
      ·rw [if_neg c5] at H
       exact absurd H (by simp)
     ·rw [if_neg c4] at H
      have c4b0:decide (x3_1<(l0.length:Int))=false:=decide_eq_false c4
      clear c4
      obtain rfl:=Option.some.inj H
      go_wp2
      repeat (go_quiet (fail);try go_wp2)
      go_ret
      exact zG
def zbm.f (a0:Int):Option (Int):=(zaf.f a0 0 65535).bind fun i5=>(some i5)
set_option maxHeartbeats 8000000 in
set_option maxRecDepth 100000 in
theorem zbm.calls (a0:Int) (r:Int) (w:World) (h:zbm.f a0=some r) :
 Calls Try.prog 85 #[.int .i64 a0] w fun e w'=>e = .returned (.int .i64 r)∧Below w.heap.size w w':=by
 have HB:=zaa.mk (Below.refl w.heap.size w)
 have H:((zaf.f a0 0 65535).bind fun i5=>(some i5))=some r:=h
 clear h
 obtain ⟨i5,A2,H⟩:=zob H
 replace H:(some i5)=some r:=H
 obtain rfl:=Option.some.inj H
 go_enter Try.func85,Try.ntmps85
 go_wp2_with (first|((with_reducible refine zah (f:=27) rfl ?_);refine zgl 4 Try.func27 #[.int .i64 a0,.int .i64 0,.int .i64 65535] ?_;(with_reducible refine (zaf.calls a0 0 65535 i5 _ A2.out).mono ?_);rintro e w3 ⟨rfl,hb⟩;refine ⟨_,rfl,?_⟩;replace HB:=zaa.mk (zae (zL HB.out) hb);(try clear hb)))
 go_ret
 exact zG
def zb0.f (k:Nat) (a0:Int) (a1:Int):Option (Int):=(zbm.f a0).bind fun e8=>((zbm.f a1).bind fun d7=>((zas.f k (wrap64 (e8*d7)) 65535).bind fun d8=>(some d8)))
set_option maxHeartbeats 8000000 in
set_option maxRecDepth 100000 in
theorem zb0.calls (k:Nat) (a0:Int) (a1:Int) (r:Int) (w:World) (h:zb0.f k a0 a1=some r) :
 Calls Try.prog 39 #[.int .i64 a0,.int .i64 a1] w fun e w'=>e = .returned (.int .i64 r)∧Below w.heap.size w w':=by
 have HB:=zaa.mk (Below.refl w.heap.size w)
 have H:((zbm.f a0).bind fun e8=>((zbm.f a1).bind fun d7=>((zas.f k (wrap64 (e8*d7)) 65535).bind fun d8=>(some d8))))=some r:=h
 clear h
 obtain ⟨e8,A3,H⟩:=zob H
 replace H:((zbm.f a1).bind fun d7=>((zas.f k (wrap64 (e8*d7)) 65535).bind fun d8=>(some d8)))=some r:=H
 obtain ⟨d7,A4,H⟩:=zob H
 replace H:((zas.f k (wrap64 (e8*d7)) 65535).bind fun d8=>(some d8))=some r:=H
 obtain ⟨d8,A5,H⟩:=zob H
 replace H:(some d8)=some r:=H
 obtain rfl:=Option.some.inj H
 go_enter Try.func39,Try.ntmps39
 go_wp2_with (first|((with_reducible refine zah (f:=85) rfl ?_);refine zgl 6 Try.func85 #[.int .i64 a0] ?_;(with_reducible refine (zbm.calls a0 e8 _ A3.out).mono ?_);rintro e w6 ⟨rfl,hb⟩;refine ⟨_,rfl,?_⟩;replace HB:=zaa.mk (zae (zL HB.out) hb);(try clear hb))|((with_reducible refine zah (f:=85) rfl ?_);refine zgl 8 Try.func85 #[.int .i64 a1] ?_;(with_reducible refine (zbm.calls a1 d7 _ A4.out).mono ?_);rintro e w7 ⟨rfl,hb⟩;refine ⟨_,rfl,?_⟩;replace HB:=zaa.mk (zae (zL HB.out) hb);(try clear hb))|((with_reducible refine zah (f:=68) rfl ?_);refine zgl 10 Try.func68 #[.int .i64 (wrap64 (e8*d7)),.int .i64 65535] ?_;(with_reducible refine (zas.calls k (wrap64 (e8*d7)) 65535 d8 _ A5.out).mono ?_);rintro e w' ⟨rfl,⟨nd,rfl⟩⟩;refine ⟨_,rfl,?_⟩))
 go_ret
 exact zG
end Go.Proofs.Ytlilncnoohfcdaa.Br
