
import Derived.Test.YtlilncnoohfcdaaDax0
import Derived.Test.YtlilncnoohfcdaaDax3
import Derived.Test.YtlilncnoohfcdaaDax8
import Derived.Test.YtlilncnoohfcdaaBrx0
namespace Go.Proofs.Ytlilncnoohfcdaa.Br
open Go.RowKit Go.Proofs.YtlilncnoohfcdaaW.PrintWords Go.Proofs.YtlilncnoohfcdaaW.PrintLast Go.Proofs.YtlilncnoohfcdaaW.PrintMore Go.Proofs.Ytlilncnoohfcdaa.Da
attribute [local go_sem] zbr zbu zbD zbH zbq zbp zbv zbt   
set_option linter.unusedVariables false
set_option linter.unusedSimpArgs false
/-! ### num_unit: function 131 -/
def zcy.f (a0:Int):Option (Int):=some (mn 65535 (mx a0 0))
set_option maxHeartbeats 8000000 in
set_option maxRecDepth 100000 in
theorem zcy.calls (a0:Int) (r:Int) (w:World) (h:zcy.f a0=some r) :
 Calls Try.prog 131 #[.int .i64 a0] w fun e w'=>e = .returned (.int .i64 r)∧Below w.heap.size w w':=by
 have HB:=zaa.mk (Below.refl w.heap.size w)
 have H:(some (mn 65535 (mx a0 0)))=some r:=h
 clear h
 obtain ⟨k8,hji2⟩ : ∃ j_:Int,(mx a0 0)=j_:=⟨_,rfl⟩
 replace H:(some (mn 65535 (k8)))=some r:=by first|(rw [hji2] at H;exact H)|(simp only [hji2] at H ⊢;exact H)
 (try (have hji2l:0≤k8:=by (rw [← hji2];unfold mx;(repeat' split) <;> omega)))
 (try (have hji2m:0≤k8:=by omega))
 have hji2_:(if a0<0 then 0 else a0)=k8:=hji2
 obtain ⟨m7,hji3⟩ : ∃ j_:Int,(mn 65535 (k8))=j_:=⟨_,rfl⟩
 replace H:(some m7)=some r:=by first|(rw [hji3] at H;exact H)|(simp only [hji3] at H ⊢;exact H)
 have hji3_:(if (k8)<65535 then (k8) else 65535)=m7:=hji3
 obtain rfl:=Option.some.inj H
 go_enter Try.func131,Try.ntmps131
 go_wp2
 go_ret
 exact ⟨by first|rfl|(simp [zaK,zaL] <;> rfl)|(simp only [← hji2,← hji3];first|rfl|(simp [zaK,zaL] <;> rfl))|(simp [*,zaK,zaL] <;> rfl),by repeat (first|(with_reducible first|exact HB.out|apply zan|apply zaj|apply zai)|exact HB.out)⟩
def num_Mul.f (a0:Int) (a1:Int):Option (Int):=(zcy.f a0).bind fun j5=>((zcy.f a1).bind fun j3=>(some (wrap64 (Int.tdiv (wrap64 ((wrap64 ((wrap64 (2*j5))*j3))+65535)) 131070))))
set_option maxHeartbeats 8000000 in
set_option maxRecDepth 100000 in
theorem num_Mul.calls (a0:Int) (a1:Int) (r:Int) (w:World) (h:num_Mul.f a0 a1=some r) :
 Calls Try.prog 90 #[.int .i64 a0,.int .i64 a1] w fun e w'=>e = .returned (.int .i64 r)∧Below w.heap.size w w':=by
 have HB:=zaa.mk (Below.refl w.heap.size w)
 have H:((zcy.f a0).bind fun j5=>((zcy.f a1).bind fun j3=>(some (wrap64 (Int.tdiv (wrap64 ((wrap64 ((wrap64 (2*j5))*j3))+65535)) 131070)))))=some r:=h
 clear h
 obtain ⟨j5,A3,H⟩:=zob H
 replace H:((zcy.f a1).bind fun j3=>(some (wrap64 (Int.tdiv (wrap64 ((wrap64 ((wrap64 (2*j5))*j3))+65535)) 131070))))=some r:=H
 obtain ⟨j3,A4,H⟩:=zob H
 replace H:(some (wrap64 (Int.tdiv (wrap64 ((wrap64 ((wrap64 (2*j5))*j3))+65535)) 131070)))=some r:=H
 obtain rfl:=Option.some.inj H
 go_enter Try.func90,Try.ntmps90
 go_wp2_with (first|((with_reducible refine zah (f:=131) rfl ?_);refine zgl 6 Try.func131 #[.int .i64 a0] ?_;(with_reducible refine (zcy.calls a0 j5 _ A3.out).mono ?_);rintro e w5 ⟨rfl,hb⟩;refine ⟨_,rfl,?_⟩;replace HB:=zaa.mk (zae (zL HB.out) hb);(try clear hb))|((with_reducible refine zah (f:=131) rfl ?_);refine zgl 9 Try.func131 #[.int .i64 a1] ?_;(with_reducible refine (zcy.calls a1 j3 _ A4.out).mono ?_);rintro e w6 ⟨rfl,hb⟩;refine ⟨_,rfl,?_⟩;replace HB:=zaa.mk (zae (zL HB.out) hb);(try clear hb)))
 go_ret
 exact zG
mutual
def zbk.j1:Nat→List (S135)→Int→Int→Option (Int)
 | 0,_,_,_=>none
 | k+1,x0,x1,x5=>if x5=0 then (if 0<(x0.length:Int) then (some ((zat x0 0).f1)) else (none)) else (if 0≤(wrap64 (x5 - 1)) then (if (wrap64 (x5 - 1))<(x0.length:Int) then (if x5=(x0.length:Int) then (some ((zat x0 (wrap64 (x5 - 1))).f1)) else (if 0≤x5 then (if x5<(x0.length:Int) then ((zbl.f k (wrap64 ((wrap64 (((zat x0 x5).f1) - ((zat x0 (wrap64 (x5 - 1))).f1)))*(wrap64 (x1 - ((zat x0 (wrap64 (x5 - 1))).f0))))) (wrap64 (((zat x0 x5).f0) - ((zat x0 (wrap64 (x5 - 1))).f0)))).bind fun j4=>(some (wrap64 (((zat x0 (wrap64 (x5 - 1))).f1)+j4)))) else (none)) else (none))) else (none)) else (none))
def zbk.l0:Nat→List (S135)→Int→Int→Option (Int)
 | 0,_,_,_=>none
 | k+1,x0,x1,x5=>if x5<(x0.length:Int) then (if 0≤x5 then (if ((zat x0 x5).f0)≤x1 then (zbk.l0 k x0 x1 (wrap64 (x5+1))) else (zbk.j1 k x0 x1 x5)) else (none)) else (zbk.j1 k x0 x1 x5)
end
def zbk.f (k:Nat) (l0:List (S135)) (a1:Int):Option (Int):=zbk.l0 k l0 a1 0
set_option maxHeartbeats 8000000 in
set_option maxRecDepth 100000 in
theorem zbk.calls (k:Nat) (A0:Option Addr) (c0:Nat) (l0:List (S135)) (a1:Int) (r:Int) (w:World) (hr0:Kd.C k135 w A0 l0.length l0) (hc0:l0.length≤c0) (h:zbk.f k l0 a1=some r) :
 Calls Try.prog 160 #[.slice A0 l0.length c0,.int .i64 a1] w fun e w'=>e = .returned (.int .i64 r)∧Below w.heap.size w w':=by
 have hu135:=Try.underlying135
 have HR0:=zaa.mk hr0
 have HC0:=zaa.mk hc0
 clear hr0 hc0
 have HB:=zaa.mk (Below.refl w.heap.size w)
 have H:(zbk.l0 k l0 a1 0)=some r:=h
 clear h
 have HC3:=zaa.mk H
 clear H
 go_enter Try.func160,Try.ntmps160
 go_upto_block 0 with (fail)
 repeat (go_quiet (fail);go_upto_block 0 with (fail))
 go_cut [5] (fun v5 wc=>∃ (kq:Nat) (x5_2:Int),v5 = .int .i64 x5_2∧zaa (zbk.j1 kq l0 a1 x5_2=some r)∧zaa (kq≤k)∧zaa (Below w.heap.size w wc))
 case first=>
  have H:=HC3.out
  clear HC3
  have H':=zaa.mk H
  clear H
  go_wp2
  repeat (go_quiet (fail);try go_wp2)
  go_loopg [5] k (fun kq v5 w'=>∃ (x5_1:Int),v5 = .int .i64 x5_1∧zaa (zbk.l0 kq l0 a1 x5_1=some r)∧zaa (kq≤k)∧zaa (Below w.heap.size w w'))
  case atStart=>exact ⟨(0),zF,H',⟨Nat.le_refl _⟩,⟨by repeat (first|(with_reducible first|exact HB.out|apply zan|apply zaj|apply zai)|exact HB.out)⟩⟩
  case round=>
   clear H'
   try clear c1
   try clear p2
   obtain ⟨x5_1,rfl,HA,l4,HB⟩:=hrel
   cases gk with
   | zero=>exact absurd HA.out (by simp [zbk.l0])
   | succ k1=>
    have H:=HA.out
    clear HA
    simp only [zbk.l0] at H
    by_cases c4:x5_1<(l0.length:Int)
    ·rw [if_pos c4] at H
     have c4b0:decide (x5_1<(l0.length:Int))=true:=decide_eq_true c4
     clear c4
     (first|rw [c4b0]|(simp only [zbY,zcc];rw [c4b0])|skip)
     by_cases c5:0≤x5_1
     ·rw [if_pos c5] at H
      have c5b0:decide (0≤x5_1)=true:=decide_eq_true c5
      clear c5
      by_cases c6:((zat l0 x5_1).f0)≤a1
      ·rw [if_pos c6] at H
       have c6b0:decide (((zat l0 x5_1).f0)≤a1)=true:=decide_eq_true c6
       clear c6
       have H':=zaa.mk H
       clear H
       have p103:0≤(x5_1:Int):=of_decide_eq_true (by first|(with_reducible assumption)|assumption)
       have q103:x5_1<(l0.length:Int):=of_decide_eq_true (by first|(with_reducible assumption)|assumption)
       obtain ⟨l9,e103,f5,f6⟩:=zbV HR0.out x5_1 p103 q103
       cases e103
       replace f5:=zad HB.out f5
       replace f6:=zad HB.out f6
       replace p103:=eq_true p103
       replace q103:=eq_true q103
       go_wp2
       repeat (go_quiet (fail);try go_wp2)
       go_roundg k1
       case measure=>have:=l4.out;omega
       case rel=>exact ⟨(wrap64 (x5_1+1)),zF,H',⟨by have:=l4.out;omega⟩,⟨by repeat (first|(with_reducible first|exact HB.out|apply zan|apply zaj|apply zai)|exact HB.out)⟩⟩
      ·rw [if_neg c6] at H
       have c6b0:decide (((zat l0 x5_1).f0)≤a1)=false:=decide_eq_false c6
       clear c6
       have H':=zaa.mk H
       clear H
       have p103:0≤(x5_1:Int):=of_decide_eq_true (by first|(with_reducible assumption)|assumption)
       have q103:x5_1<(l0.length:Int):=of_decide_eq_true (by first|(with_reducible assumption)|assumption)
       obtain ⟨l9,e103,f5,f6⟩:=zbV HR0.out x5_1 p103 q103
       cases e103
       replace f5:=zad HB.out f5
       replace f6:=zad HB.out f6
       replace p103:=eq_true p103
       replace q103:=eq_true q103
       go_wp2
       repeat (go_quiet (fail);try go_wp2)
       go_meet
       case rel=>exact ⟨_,(x5_1),zF,H',⟨by have:=l4.out;first|omega|exact Nat.le_refl _⟩,⟨by repeat (first|(with_reducible first|exact HB.out|apply zan|apply zaj|apply zai)|exact HB.out)⟩⟩
     ·rw [if_neg c5] at H
      exact absurd H (by simp)
    ·rw [if_neg c4] at H
     have c4b0:decide (x5_1<(l0.length:Int))=false:=decide_eq_false c4
     clear c4
     (first|rw [c4b0]|(simp only [zbY,zcc];rw [c4b0])|skip)
     have H':=zaa.mk H
     clear H
     go_wp2
     repeat (go_quiet (fail);try go_wp2)
     go_meet
     case rel=>exact ⟨_,(x5_1),zF,H',⟨by have:=l4.out;first|omega|exact Nat.le_refl _⟩,⟨by repeat (first|(with_reducible first|exact HB.out|apply zan|apply zaj|apply zai)|exact HB.out)⟩⟩
 case rest=>
  clear HC3
  try clear c1
  try clear p1
  try clear q1
  try clear hx1
  try clear p2
  try clear c4
  try clear c4b0
  try clear c5
  try clear c5b0
  try clear c6
  try clear c6b0
  try clear p6
  try clear f5
  try clear f6
  try clear p103
  try clear p2
  try clear q103
  obtain ⟨kq,x5_2,rfl,HA,HJ2,HB⟩:=hcut
  cases kq with
  | zero=>exact absurd HA.out (by simp [zbk.j1])
  | succ kj2=>
   have H:=HA.out
   clear HA
   simp only [zbk.j1] at H
   by_cases c7:x5_2=0
   ·rw [if_pos c7] at H
    have c7b0:(x5_2==0)=true:=beq_iff_eq.mpr c7
    have c7b1:(x5_2 != 0)=false:=bne_eq_false_iff_eq.mpr c7
    clear c7
    by_cases c8:0<(l0.length:Int)
    ·rw [if_pos c8] at H
     have c8b0:decide (0<(l0.length:Int))=true:=decide_eq_true c8
     have c8b1:decide (0<l0.length)=true:=decide_eq_true (by omega)
     clear c8
     obtain rfl:=Option.some.inj H
     have p104:0≤(0:Int):=(by omega)
     have q104:0<(l0.length:Int):=of_decide_eq_true (by first|(with_reducible assumption)|assumption)
     obtain ⟨p9,e104,g9,i3⟩:=zbV HR0.out 0 p104 q104
     cases e104
     have qi104:(0<l0.length)=True:=eq_true (by omega)
     (try rw [show ((0:Int)).toNat=0 from rfl] at g9)
     (try rw [show 0*2=0 from rfl] at g9)
     (try rw [Addr.add_zero'] at g9)
     (try rw [show ((0:Int)).toNat=0 from rfl] at i3)
     (try rw [show 0*2=0 from rfl] at i3)
     (try rw [Addr.add_zero'] at i3)
     replace g9:=zad HB.out g9
     replace i3:=zad HB.out i3
     replace p104:=eq_true p104
     replace q104:=eq_true q104
     go_wp2
     repeat (go_quiet (fail);try go_wp2)
     go_ret
     exact zG
    ·rw [if_neg c8] at H
     exact absurd H (by simp)
   ·rw [if_neg c7] at H
    have c7b0:(x5_2==0)=false:=beq_eq_false_iff_ne.mpr c7
    have c7b1:(x5_2 != 0)=true:=bne_iff_ne.mpr c7
    obtain ⟨b8,hji9⟩ : ∃ j_:Int,(wrap64 (x5_2 - 1))=j_:=⟨_,rfl⟩
    replace H:(if 0≤(b8) then (if (b8)<(l0.length:Int) then (if x5_2=(l0.length:Int) then (some ((zat l0 (b8)).f1)) else (if 0≤x5_2 then (if x5_2<(l0.length:Int) then ((zbl.f kj2 (wrap64 ((wrap64 (((zat l0 x5_2).f1) - ((zat l0 (b8)).f1)))*(wrap64 (a1 - ((zat l0 (b8)).f0))))) (wrap64 (((zat l0 x5_2).f0) - ((zat l0 (b8)).f0)))).bind fun j4=>(some (wrap64 (((zat l0 (b8)).f1)+j4)))) else (none)) else (none))) else (none)) else (none))=some r:=by first|(rw [hji9] at H;exact H)|(simp only [hji9] at H ⊢;exact H)
    have hji9w:(IntKind.i64.wrap (x5_2 - 1))=b8:=(zbY _).trans hji9
    by_cases c10:0≤(b8)
    ·rw [if_pos c10] at H
     have c10b0:decide (0≤(b8))=true:=decide_eq_true c10
     clear c10
     by_cases c11:(b8)<(l0.length:Int)
     ·rw [if_pos c11] at H
      have c11b0:decide ((b8)<(l0.length:Int))=true:=decide_eq_true c11
      clear c11
      by_cases c12:x5_2=(l0.length:Int)
      ·rw [if_pos c12] at H
       have c12b0:(x5_2==(l0.length:Int))=true:=beq_iff_eq.mpr c12
       have c12b1:(x5_2 != (l0.length:Int))=false:=bne_eq_false_iff_eq.mpr c12
       clear c12
       obtain rfl:=Option.some.inj H
       have p105:0≤((b8):Int):=of_decide_eq_true (by first|(with_reducible assumption)|assumption)
       have q105:(b8)<(l0.length:Int):=of_decide_eq_true (by first|(with_reducible assumption)|assumption)
       obtain ⟨i6,e105,i4,i5⟩:=zbV HR0.out (b8) p105 q105
       cases e105
       replace i4:=zad HB.out i4
       replace i5:=zad HB.out i5
       replace p105:=eq_true p105
       replace q105:=eq_true q105
       go_wp2_with (first|((with_reducible refine zaC (N:=6) rfl ?_);refine zbx (N:=6) #[.int .i64 0,.int .i64 0] 135 ?_;intro b9 hg w13 hbox hb;have n0_:=zaa.mk (zae (zL HB.out) hb);have n1_:=zaa.mk (hbox);have n2_:=zaa.mk ((zS hg (zL HB.out):w.heap.size≤b9));have n3_:=n2_;clear HB;have HB:=n0_;have j6:=n1_;have j7:=n2_;have k9:=n3_;clear n0_ n1_ n2_ n3_;clear hb hbox hg;obtain ⟨l5,l6⟩:=zD2 j6.out;obtain ⟨l7,l8⟩:=zE2 j6.out))
       repeat (go_quiet (first|fail))
       go_ret
       exact ⟨by first|rfl|(simp [zaK,zaL] <;> rfl)|(simp only [← hji9];first|rfl|(simp [zaK,zaL] <;> rfl))|(simp [*,zaK,zaL] <;> rfl),by repeat (first|(with_reducible first|exact HB.out|apply zan|apply zaj|apply zai|refine zao ?_ k9.out)|exact HB.out)⟩
      ·rw [if_neg c12] at H
       have c12b0:(x5_2==(l0.length:Int))=false:=beq_eq_false_iff_ne.mpr c12
       have c12b1:(x5_2 != (l0.length:Int))=true:=bne_iff_ne.mpr c12
       by_cases c15:0≤x5_2
       ·rw [if_pos c15] at H
        have c15b0:decide (0≤x5_2)=true:=decide_eq_true c15
        clear c15
        by_cases c16:x5_2<(l0.length:Int)
        ·rw [if_pos c16] at H
         have c16b0:decide (x5_2<(l0.length:Int))=true:=decide_eq_true c16
         clear c16
         obtain ⟨j4,A17,H⟩:=zob H
         replace H:(some (wrap64 (((zat l0 (b8)).f1)+j4)))=some r:=H
         obtain rfl:=Option.some.inj H
         have p105:0≤((b8):Int):=of_decide_eq_true (by first|(with_reducible assumption)|assumption)
         have q105:(b8)<(l0.length:Int):=of_decide_eq_true (by first|(with_reducible assumption)|assumption)
         obtain ⟨i6,e105,i4,i5⟩:=zbV HR0.out (b8) p105 q105
         cases e105
         replace i4:=zad HB.out i4
         replace i5:=zad HB.out i5
         replace p105:=eq_true p105
         replace q105:=eq_true q105
         go_wp2_with (first|((with_reducible refine zaC (N:=6) rfl ?_);refine zbx (N:=6) #[.int .i64 0,.int .i64 0] 135 ?_;intro b9 hg w18 hbox hb;have n0_:=zaa.mk (zae (zL HB.out) hb);have n1_:=zaa.mk (hbox);have n2_:=zaa.mk ((zS hg (zL HB.out):w.heap.size≤b9));have n3_:=n2_;clear HB;have HB:=n0_;have j6:=n1_;have j7:=n2_;have k9:=n3_;clear n0_ n1_ n2_ n3_;clear hb hbox hg;obtain ⟨m8,m9⟩:=zD2 j6.out;obtain ⟨n0,n3⟩:=zE2 j6.out;have p107:0≤(x5_2:Int):=of_decide_eq_true (by first|(with_reducible assumption)|assumption);have q107:x5_2<(l0.length:Int):=of_decide_eq_true (by first|(with_reducible assumption)|assumption);obtain ⟨m5,e107,d6,e5⟩:=zbV HR0.out x5_2 p107 q107;obtain rfl:i6=m5:=(by injection e107);have hn107_0:i6.block≠b9:=Nat.ne_of_lt (Nat.lt_of_lt_of_le (by have:=World.block_lt_of_cell? _ _ d6;first|rwa [zb3] at this|exact this) j7.out);have hn107_1:i6.block≠b9:=Nat.ne_of_lt (Nat.lt_of_lt_of_le (by have:=World.block_lt_of_cell? _ _ d6;first|rwa [zb3] at this|exact this) j7.out);replace d6:=zad HB.out d6;replace e5:=zad HB.out e5;replace d6:=(zaX (p:=⟨b9,0,none⟩) (by first|(rw [zb3];exact hn107_0)|(show (Addr.add _ _).block≠_;rw [zb3];exact hn107_0)|exact hn107_0) (.int .i64 ((zat l0 (b8)).f0))).trans d6;replace e5:=(zaX (p:=⟨b9,0,none⟩) (by first|(rw [zb3];exact hn107_0)|(show (Addr.add _ _).block≠_;rw [zb3];exact hn107_0)|exact hn107_0) (.int .i64 ((zat l0 (b8)).f0))).trans e5;replace d6:=(zaX (p:=⟨b9,1,none⟩) (by first|(rw [zb3];exact hn107_1)|(show (Addr.add _ _).block≠_;rw [zb3];exact hn107_1)|exact hn107_1) (.int .i64 ((zat l0 (b8)).f1))).trans d6;replace e5:=(zaX (p:=⟨b9,1,none⟩) (by first|(rw [zb3];exact hn107_1)|(show (Addr.add _ _).block≠_;rw [zb3];exact hn107_1)|exact hn107_1) (.int .i64 ((zat l0 (b8)).f1))).trans e5;(try have hy107_0:=fun (n_:Nat)=>(show ((((w18.drewN n_).setCell ⟨b9,0,none⟩ (.int .i64 ((zat l0 (b8)).f0))).setCell ⟨b9,1,none⟩ (.int .i64 ((zat l0 (b8)).f1)))).cell? _=some _ from d6));(try have hy107_1:=fun (n_:Nat)=>(show ((((w18.drewN n_).setCell ⟨b9,0,none⟩ (.int .i64 ((zat l0 (b8)).f0))).setCell ⟨b9,1,none⟩ (.int .i64 ((zat l0 (b8)).f1)))).cell? _=some _ from e5));clear hn107_0;clear hn107_1;replace p107:=eq_true p107;replace q107:=eq_true q107;have p108:0≤(x5_2:Int):=of_decide_eq_true (by first|(with_reducible assumption)|assumption);have q108:x5_2<(l0.length:Int):=of_decide_eq_true (by first|(with_reducible assumption)|assumption);obtain ⟨m6,e108,d7,e6⟩:=zbV HR0.out x5_2 p108 q108;obtain rfl:i6=m6:=(by injection e108);have hn108_0:i6.block≠b9:=Nat.ne_of_lt (Nat.lt_of_lt_of_le (by have:=World.block_lt_of_cell? _ _ d7;first|rwa [zb3] at this|exact this) j7.out);have hn108_1:i6.block≠b9:=Nat.ne_of_lt (Nat.lt_of_lt_of_le (by have:=World.block_lt_of_cell? _ _ d7;first|rwa [zb3] at this|exact this) j7.out);replace d7:=zad HB.out d7;replace e6:=zad HB.out e6;replace d7:=(zaX (p:=⟨b9,0,none⟩) (by first|(rw [zb3];exact hn108_0)|(show (Addr.add _ _).block≠_;rw [zb3];exact hn108_0)|exact hn108_0) (.int .i64 ((zat l0 (b8)).f0))).trans d7;replace e6:=(zaX (p:=⟨b9,0,none⟩) (by first|(rw [zb3];exact hn108_0)|(show (Addr.add _ _).block≠_;rw [zb3];exact hn108_0)|exact hn108_0) (.int .i64 ((zat l0 (b8)).f0))).trans e6;replace d7:=(zaX (p:=⟨b9,1,none⟩) (by first|(rw [zb3];exact hn108_1)|(show (Addr.add _ _).block≠_;rw [zb3];exact hn108_1)|exact hn108_1) (.int .i64 ((zat l0 (b8)).f1))).trans d7;replace e6:=(zaX (p:=⟨b9,1,none⟩) (by first|(rw [zb3];exact hn108_1)|(show (Addr.add _ _).block≠_;rw [zb3];exact hn108_1)|exact hn108_1) (.int .i64 ((zat l0 (b8)).f1))).trans e6;(try have hy108_0:=fun (n_:Nat)=>(show ((((w18.drewN n_).setCell ⟨b9,0,none⟩ (.int .i64 ((zat l0 (b8)).f0))).setCell ⟨b9,1,none⟩ (.int .i64 ((zat l0 (b8)).f1)))).cell? _=some _ from d7));(try have hy108_1:=fun (n_:Nat)=>(show ((((w18.drewN n_).setCell ⟨b9,0,none⟩ (.int .i64 ((zat l0 (b8)).f0))).setCell ⟨b9,1,none⟩ (.int .i64 ((zat l0 (b8)).f1)))).cell? _=some _ from e6));clear hn108_0;clear hn108_1;replace p108:=eq_true p108;replace q108:=eq_true q108)|(go_at_call 110;(with_reducible refine (zbl.calls kj2 (wrap64 ((wrap64 (((zat l0 x5_2).f1) - ((zat l0 (b8)).f1)))*(wrap64 (a1 - ((zat l0 (b8)).f0))))) (wrap64 (((zat l0 x5_2).f0) - ((zat l0 (b8)).f0))) j4 _ A17.out).mono ?_);rintro e w' ⟨rfl,⟨nd,rfl⟩⟩;(try first|exact ⟨rfl,_,World.drewN_drewN _ _ _⟩|exact ⟨rfl,_,Eq.trans (World.drewN_drewN _ _ _) (congrArg (World.drewN _) (Nat.add_assoc _ _ _))⟩)))
         repeat (go_quiet (first|(go_at_call 110;(with_reducible refine (zbl.calls kj2 (wrap64 ((wrap64 (((zat l0 x5_2).f1) - ((zat l0 (b8)).f1)))*(wrap64 (a1 - ((zat l0 (b8)).f0))))) (wrap64 (((zat l0 x5_2).f0) - ((zat l0 (b8)).f0))) j4 _ A17.out).mono ?_);rintro e w' ⟨rfl,⟨nd,rfl⟩⟩;(try first|exact ⟨rfl,_,World.drewN_drewN _ _ _⟩|exact ⟨rfl,_,Eq.trans (World.drewN_drewN _ _ _) (congrArg (World.drewN _) (Nat.add_assoc _ _ _))⟩)));try go_wp2_with (first|(go_at_call 110;(with_reducible refine (zbl.calls kj2 (wrap64 ((wrap64 (((zat l0 x5_2).f1) - ((zat l0 (b8)).f1)))*(wrap64 (a1 - ((zat l0 (b8)).f0))))) (wrap64 (((zat l0 x5_2).f0) - ((zat l0 (b8)).f0))) j4 _ A17.out).mono ?_);rintro e w' ⟨rfl,⟨nd,rfl⟩⟩;(try first|exact ⟨rfl,_,World.drewN_drewN _ _ _⟩|exact ⟨rfl,_,Eq.trans (World.drewN_drewN _ _ _) (congrArg (World.drewN _) (Nat.add_assoc _ _ _))⟩))))
         go_ret
         exact ⟨by first|rfl|(simp [zaK,zaL] <;> rfl)|(simp only [← hji9];first|rfl|(simp [zaK,zaL] <;> rfl))|(simp [*,zaK,zaL] <;> rfl),by repeat (first|(with_reducible first|exact HB.out|apply zan|apply zaj|apply zai|refine zao ?_ k9.out)|exact HB.out)⟩
        ·rw [if_neg c16] at H
         exact absurd H (by simp)
       ·rw [if_neg c15] at H
        exact absurd H (by simp)
     ·rw [if_neg c11] at H
      exact absurd H (by simp)
    ·rw [if_neg c10] at H
     exact absurd H (by simp)
def curve_At.f (k:Nat) (l0:List (S135)) (a1:Int):Option (Int):=(zaR.f a1 0 65535).bind fun d8=>((zbb.f k l0).bind fun d9=>(if d9=0 then ((zbk.f k l0 d8).bind fun f7=>(some f7)) else (some d8)))
set_option maxHeartbeats 8000000 in
set_option maxRecDepth 100000 in
theorem curve_At.calls (k:Nat) (A0:Option Addr) (c0:Nat) (l0:List (S135)) (a1:Int) (r:Int) (w:World) (hr0:Kd.C k135 w A0 l0.length l0) (hc0:l0.length≤c0) (h:curve_At.f k l0 a1=some r) :
 Calls Try.prog 145 #[.slice A0 l0.length c0,.int .i64 a1] w fun e w'=>e = .returned (.int .i64 r)∧Below w.heap.size w w':=by
 have HR0:=zaa.mk hr0
 have HC0:=zaa.mk hc0
 clear hr0 hc0
 have HB:=zaa.mk (Below.refl w.heap.size w)
 have H:((zaR.f a1 0 65535).bind fun d8=>((zbb.f k l0).bind fun d9=>(if d9=0 then ((zbk.f k l0 d8).bind fun f7=>(some f7)) else (some d8))))=some r:=h
 clear h
 obtain ⟨d8,A3,H⟩:=zob H
 replace H:((zbb.f k l0).bind fun d9=>(if d9=0 then ((zbk.f k l0 d8).bind fun f7=>(some f7)) else (some d8)))=some r:=H
 obtain ⟨d9,A4,H⟩:=zob H
 replace H:(if d9=0 then ((zbk.f k l0 d8).bind fun f7=>(some f7)) else (some d8))=some r:=H
 by_cases c5:d9=0
 ·rw [if_pos c5] at H
  have c5b0:(d9==0)=true:=beq_iff_eq.mpr c5
  have c5b1:(d9 != 0)=false:=bne_eq_false_iff_eq.mpr c5
  clear c5
  obtain ⟨f7,A6,H⟩:=zob H
  replace H:(some f7)=some r:=H
  obtain rfl:=Option.some.inj H
  go_enter Try.func145,Try.ntmps145
  go_wp2_with (first|((with_reducible refine zah (f:=54) rfl ?_);refine zgl 6 Try.func54 #[.int .i64 a1,.int .i64 0,.int .i64 65535] ?_;(with_reducible refine (zaR.calls a1 0 65535 d8 _ A3.out).mono ?_);rintro e w7 ⟨rfl,hb⟩;refine ⟨_,rfl,?_⟩;replace HB:=zaa.mk (zae (zL HB.out) hb);(try clear hb))|((with_reducible refine zah (f:=105) rfl ?_);refine zgl 8 Try.func105 #[.slice A0 l0.length c0] ?_;(with_reducible refine (zbb.calls k _ _ l0 d9 _ ?side1 ?side2 A4.out).mono ?_);(case side1=>repeat (first|exact (Kd.C_below HR0.out HB.out)|(with_reducible refine Kd.C_alloc ?_ _)|(with_reducible refine Kd.C_drewN ?_ _)|(with_reducible refine Kd.C_drew ?_)));(case side2=>exact HC0.out);rintro e w8 ⟨rfl,hb⟩;refine ⟨_,rfl,?_⟩;replace HB:=zaa.mk (zae (zL HB.out) hb);(try clear hb))|((with_reducible refine zah (f:=160) rfl ?_);refine zgl 13 Try.func160 #[.slice A0 l0.length c0,.int .i64 d8] ?_;(with_reducible refine (zbk.calls k _ _ l0 d8 f7 _ ?side1 ?side2 A6.out).mono ?_);(case side1=>repeat (first|exact (Kd.C_below HR0.out HB.out)|(with_reducible refine Kd.C_alloc ?_ _)|(with_reducible refine Kd.C_drewN ?_ _)|(with_reducible refine Kd.C_drew ?_)));(case side2=>exact HC0.out);rintro e w9 ⟨rfl,hb⟩;refine ⟨_,rfl,?_⟩;replace HB:=zaa.mk (zae (zL HB.out) hb);(try clear hb)))
  go_ret
  exact zG
 ·rw [if_neg c5] at H
  have c5b0:(d9==0)=false:=beq_eq_false_iff_ne.mpr c5
  have c5b1:(d9 != 0)=true:=bne_iff_ne.mpr c5
  obtain rfl:=Option.some.inj H
  go_enter Try.func145,Try.ntmps145
  go_wp2_with (first|((with_reducible refine zah (f:=54) rfl ?_);refine zgl 6 Try.func54 #[.int .i64 a1,.int .i64 0,.int .i64 65535] ?_;(with_reducible refine (zaR.calls a1 0 65535 d8 _ A3.out).mono ?_);rintro e w10 ⟨rfl,hb⟩;refine ⟨_,rfl,?_⟩;replace HB:=zaa.mk (zae (zL HB.out) hb);(try clear hb))|((with_reducible refine zah (f:=105) rfl ?_);refine zgl 8 Try.func105 #[.slice A0 l0.length c0] ?_;(with_reducible refine (zbb.calls k _ _ l0 d9 _ ?side1 ?side2 A4.out).mono ?_);(case side1=>repeat (first|exact (Kd.C_below HR0.out HB.out)|(with_reducible refine Kd.C_alloc ?_ _)|(with_reducible refine Kd.C_drewN ?_ _)|(with_reducible refine Kd.C_drew ?_)));(case side2=>exact HC0.out);rintro e w11 ⟨rfl,hb⟩;refine ⟨_,rfl,?_⟩;replace HB:=zaa.mk (zae (zL HB.out) hb);(try clear hb)))
  go_ret
  exact zG
def zbj.f (a0:Int):Option (Int):=(zaR.f a0 0 65535).bind fun j9=>(some j9)
set_option maxHeartbeats 8000000 in
set_option maxRecDepth 100000 in
theorem zbj.calls (a0:Int) (r:Int) (w:World) (h:zbj.f a0=some r) :
 Calls Try.prog 120 #[.int .i64 a0] w fun e w'=>e = .returned (.int .i64 r)∧Below w.heap.size w w':=by
 have HB:=zaa.mk (Below.refl w.heap.size w)
 have H:((zaR.f a0 0 65535).bind fun j9=>(some j9))=some r:=h
 clear h
 obtain ⟨j9,A2,H⟩:=zob H
 replace H:(some j9)=some r:=H
 obtain rfl:=Option.some.inj H
 go_enter Try.func120,Try.ntmps120
 go_wp2_with (first|((with_reducible refine zah (f:=54) rfl ?_);refine zgl 4 Try.func54 #[.int .i64 a0,.int .i64 0,.int .i64 65535] ?_;(with_reducible refine (zaR.calls a0 0 65535 j9 _ A2.out).mono ?_);rintro e w3 ⟨rfl,hb⟩;refine ⟨_,rfl,?_⟩;replace HB:=zaa.mk (zae (zL HB.out) hb);(try clear hb)))
 go_ret
 exact zG
def zcn.f (a0:Int) (a1:Int) (a2:Int):Option (Int):=some (((Go.bits .xor .u64 (IntKind.u64.wrap ((Go.bits .xor .u64 (IntKind.u64.wrap ((Go.bits .xor .u64 (Go.bits .xor .u64 (Go.bits .xor .u64 (IntKind.u64.wrap (a0)) (IntKind.u64.wrap ((IntKind.u64.wrap (a1))*11400714819323198485))) (IntKind.u64.wrap ((IntKind.u64.wrap (a2))*14029467366897019727))) ((Go.bits .xor .u64 (Go.bits .xor .u64 (IntKind.u64.wrap (a0)) (IntKind.u64.wrap ((IntKind.u64.wrap (a1))*11400714819323198485))) (IntKind.u64.wrap ((IntKind.u64.wrap (a2))*14029467366897019727))) / 1073741824))*13787848793156543929)) ((IntKind.u64.wrap ((Go.bits .xor .u64 (Go.bits .xor .u64 (Go.bits .xor .u64 (IntKind.u64.wrap (a0)) (IntKind.u64.wrap ((IntKind.u64.wrap (a1))*11400714819323198485))) (IntKind.u64.wrap ((IntKind.u64.wrap (a2))*14029467366897019727))) ((Go.bits .xor .u64 (Go.bits .xor .u64 (IntKind.u64.wrap (a0)) (IntKind.u64.wrap ((IntKind.u64.wrap (a1))*11400714819323198485))) (IntKind.u64.wrap ((IntKind.u64.wrap (a2))*14029467366897019727))) / 1073741824))*13787848793156543929)) / 134217728))*10723151780598845931)) ((IntKind.u64.wrap ((Go.bits .xor .u64 (IntKind.u64.wrap ((Go.bits .xor .u64 (Go.bits .xor .u64 (Go.bits .xor .u64 (IntKind.u64.wrap (a0)) (IntKind.u64.wrap ((IntKind.u64.wrap (a1))*11400714819323198485))) (IntKind.u64.wrap ((IntKind.u64.wrap (a2))*14029467366897019727))) ((Go.bits .xor .u64 (Go.bits .xor .u64 (IntKind.u64.wrap (a0)) (IntKind.u64.wrap ((IntKind.u64.wrap (a1))*11400714819323198485))) (IntKind.u64.wrap ((IntKind.u64.wrap (a2))*14029467366897019727))) / 1073741824))*13787848793156543929)) ((IntKind.u64.wrap ((Go.bits .xor .u64 (Go.bits .xor .u64 (Go.bits .xor .u64 (IntKind.u64.wrap (a0)) (IntKind.u64.wrap ((IntKind.u64.wrap (a1))*11400714819323198485))) (IntKind.u64.wrap ((IntKind.u64.wrap (a2))*14029467366897019727))) ((Go.bits .xor .u64 (Go.bits .xor .u64 (IntKind.u64.wrap (a0)) (IntKind.u64.wrap ((IntKind.u64.wrap (a1))*11400714819323198485))) (IntKind.u64.wrap ((IntKind.u64.wrap (a2))*14029467366897019727))) / 1073741824))*13787848793156543929)) / 134217728))*10723151780598845931)) / 2147483648)) / 4294967296) % 4294967296)
set_option maxHeartbeats 8000000 in
set_option maxRecDepth 100000 in
theorem zcn.calls (a0:Int) (a1:Int) (a2:Int) (r:Int) (w:World) (h:zcn.f a0 a1 a2=some r) :
 Calls Try.prog 147 #[.int .i64 a0,.int .i64 a1,.int .i64 a2] w fun e w'=>e = .returned (.int .u32 r)∧zaS w w':=by
 have H:(some (((Go.bits .xor .u64 (IntKind.u64.wrap ((Go.bits .xor .u64 (IntKind.u64.wrap ((Go.bits .xor .u64 (Go.bits .xor .u64 (Go.bits .xor .u64 (IntKind.u64.wrap (a0)) (IntKind.u64.wrap ((IntKind.u64.wrap (a1))*11400714819323198485))) (IntKind.u64.wrap ((IntKind.u64.wrap (a2))*14029467366897019727))) ((Go.bits .xor .u64 (Go.bits .xor .u64 (IntKind.u64.wrap (a0)) (IntKind.u64.wrap ((IntKind.u64.wrap (a1))*11400714819323198485))) (IntKind.u64.wrap ((IntKind.u64.wrap (a2))*14029467366897019727))) / 1073741824))*13787848793156543929)) ((IntKind.u64.wrap ((Go.bits .xor .u64 (Go.bits .xor .u64 (Go.bits .xor .u64 (IntKind.u64.wrap (a0)) (IntKind.u64.wrap ((IntKind.u64.wrap (a1))*11400714819323198485))) (IntKind.u64.wrap ((IntKind.u64.wrap (a2))*14029467366897019727))) ((Go.bits .xor .u64 (Go.bits .xor .u64 (IntKind.u64.wrap (a0)) (IntKind.u64.wrap ((IntKind.u64.wrap (a1))*11400714819323198485))) (IntKind.u64.wrap ((IntKind.u64.wrap (a2))*14029467366897019727))) / 1073741824))*13787848793156543929)) / 134217728))*10723151780598845931)) ((IntKind.u64.wrap ((Go.bits .xor .u64 (IntKind.u64.wrap ((Go.bits .xor .u64 (Go.bits .xor .u64 (Go.bits .xor .u64 (IntKind.u64.wrap (a0)) (IntKind.u64.wrap ((IntKind.u64.wrap (a1))*11400714819323198485))) (IntKind.u64.wrap ((IntKind.u64.wrap (a2))*14029467366897019727))) ((Go.bits .xor .u64 (Go.bits .xor .u64 (IntKind.u64.wrap (a0)) (IntKind.u64.wrap ((IntKind.u64.wrap (a1))*11400714819323198485))) (IntKind.u64.wrap ((IntKind.u64.wrap (a2))*14029467366897019727))) / 1073741824))*13787848793156543929)) ((IntKind.u64.wrap ((Go.bits .xor .u64 (Go.bits .xor .u64 (Go.bits .xor .u64 (IntKind.u64.wrap (a0)) (IntKind.u64.wrap ((IntKind.u64.wrap (a1))*11400714819323198485))) (IntKind.u64.wrap ((IntKind.u64.wrap (a2))*14029467366897019727))) ((Go.bits .xor .u64 (Go.bits .xor .u64 (IntKind.u64.wrap (a0)) (IntKind.u64.wrap ((IntKind.u64.wrap (a1))*11400714819323198485))) (IntKind.u64.wrap ((IntKind.u64.wrap (a2))*14029467366897019727))) / 1073741824))*13787848793156543929)) / 134217728))*10723151780598845931)) / 2147483648)) / 4294967296) % 4294967296))=some r:=h
 clear h
 obtain rfl:=Option.some.inj H
 go_enter Try.func147,Try.ntmps147
 go_wp2
 go_ret
 exact zH
def zcw.f (a0:Int) (a1:Int) (a2:Int):Option (Int):=(zcn.f a0 a1 a2).bind fun k3=>(some ((Int.tdiv k3 65537) % 4294967296))
set_option maxHeartbeats 8000000 in
set_option maxRecDepth 100000 in
theorem zcw.calls (a0:Int) (a1:Int) (a2:Int) (r:Int) (w:World) (h:zcw.f a0 a1 a2=some r) :
 Calls Try.prog 161 #[.int .i64 a0,.int .i64 a1,.int .i64 a2] w fun e w'=>e = .returned (.int .i64 r)∧zaS w w':=by
 have H:((zcn.f a0 a1 a2).bind fun k3=>(some ((Int.tdiv k3 65537) % 4294967296)))=some r:=h
 clear h
 obtain ⟨k3,A4,H⟩:=zob H
 replace H:(some ((Int.tdiv k3 65537) % 4294967296))=some r:=H
 obtain rfl:=Option.some.inj H
 go_enter Try.func161,Try.ntmps161
 go_wp2_with (first|((with_reducible refine zah (f:=147) rfl ?_);refine zgl 10 Try.func147 #[.int .i64 a0,.int .i64 a1,.int .i64 a2] ?_;(with_reducible refine (zcn.calls a0 a1 a2 k3 _ A4.out).mono ?_);rintro e w' ⟨rfl,⟨nd,rfl⟩⟩;refine ⟨_,rfl,?_⟩))
 go_ret
 exact zH
def zco.f (a0:Int) (i7:Int) (i8:Int) (e7:Int) (e8:Int) (i9:Int) (a2:Int) (a3:Int) (a4:Int):Option (Int):=if a0=1 then ((zbj.f e7).bind fun k4=>(some k4)) else (if a0=2 then ((zbj.f e8).bind fun k5=>(some k5)) else (if a0=3 then ((zbj.f a2).bind fun k6=>(some k6)) else (if a0=4 then ((zcw.f a4 a3 1).bind fun k7=>(some k7)) else (if a0=5 then ((zaR.f a3 0 64).bind fun j2=>(some (wrap64 (65535 - (mn 65535 (wrap64 (1024*j2))))))) else (some 0)))))
set_option maxHeartbeats 8000000 in
set_option maxRecDepth 100000 in
theorem zco.calls (a0:Int) (i7:Int) (i8:Int) (e7:Int) (e8:Int) (i9:Int) (a2:Int) (a3:Int) (a4:Int) (r:Int) (w:World) (h:zco.f a0 i7 i8 e7 e8 i9 a2 a3 a4=some r) :
 Calls Try.prog 146 #[.int .i64 a0,.agg #[.int .i64 i7,.int .i64 i8,.int .i64 e7,.int .i64 e8,.int .i64 i9],.int .i64 a2,.int .i64 a3,.int .i64 a4] w fun e w'=>e = .returned (.int .i64 r)∧Below w.heap.size w w':=by
 have hu57:=Try.underlying57
 have HB:=zaa.mk (Below.refl w.heap.size w)
 have H:(if a0=1 then ((zbj.f e7).bind fun k4=>(some k4)) else (if a0=2 then ((zbj.f e8).bind fun k5=>(some k5)) else (if a0=3 then ((zbj.f a2).bind fun k6=>(some k6)) else (if a0=4 then ((zcw.f a4 a3 1).bind fun k7=>(some k7)) else (if a0=5 then ((zaR.f a3 0 64).bind fun j2=>(some (wrap64 (65535 - (mn 65535 (wrap64 (1024*j2))))))) else (some 0))))))=some r:=h
 clear h
 by_cases c6:a0=1
 ·rw [if_pos c6] at H
  have c6b0:(a0==1)=true:=beq_iff_eq.mpr c6
  have c6b1:(a0 != 1)=false:=bne_eq_false_iff_eq.mpr c6
  clear c6
  obtain ⟨k4,A7,H⟩:=zob H
  replace H:(some k4)=some r:=H
  obtain rfl:=Option.some.inj H
  go_enter Try.func146,Try.ntmps146
  go_wp2_with (first|((with_reducible refine zaC (N:=6) rfl ?_);refine zbx (N:=6) #[.int .i64 i7,.int .i64 i8,.int .i64 e7,.int .i64 e8,.int .i64 i9] 57 ?_;intro e0 hg w8 hbox hb;have n0_:=zaa.mk (zae (zL HB.out) hb);have n1_:=zaa.mk (hbox);have n2_:=zaa.mk ((zS hg (zL HB.out):w.heap.size≤e0));have n3_:=n2_;clear HB;have HB:=n0_;have d5:=n1_;have j8:=n2_;have e9:=n3_;clear n0_ n1_ n2_ n3_;clear hb hbox hg;obtain ⟨o2,o3,o4,o5,o6⟩:=zD5 d5.out;obtain ⟨o7,o8,o9,p7,p8⟩:=zE5 d5.out)|((with_reducible refine zah (f:=120) rfl ?_);refine zgl 16 Try.func120 #[.int .i64 e7] ?_;(with_reducible refine (zbj.calls e7 k4 _ A7.out).mono ?_);rintro e w10 ⟨rfl,hb⟩;refine ⟨_,rfl,?_⟩;replace d5:=zaa.mk (zac (zB d5.out) hb);replace HB:=zaa.mk (zae (zL1 HB.out e9.out) hb);(try clear hb)))
  go_ret
  exact zG
 ·rw [if_neg c6] at H
  have c6b0:(a0==1)=false:=beq_eq_false_iff_ne.mpr c6
  have c6b1:(a0 != 1)=true:=bne_iff_ne.mpr c6
  by_cases c11:a0=2
  ·rw [if_pos c11] at H
   have c11b0:(a0==2)=true:=beq_iff_eq.mpr c11
   have c11b1:(a0 != 2)=false:=bne_eq_false_iff_eq.mpr c11
   clear c11
   obtain ⟨k5,A12,H⟩:=zob H
   replace H:(some k5)=some r:=H
   obtain rfl:=Option.some.inj H
   go_enter Try.func146,Try.ntmps146
   go_wp2_with (first|((with_reducible refine zaC (N:=6) rfl ?_);refine zbx (N:=6) #[.int .i64 i7,.int .i64 i8,.int .i64 e7,.int .i64 e8,.int .i64 i9] 57 ?_;intro e0 hg w13 hbox hb;have n0_:=zaa.mk (zae (zL HB.out) hb);have n1_:=zaa.mk (hbox);have n2_:=zaa.mk ((zS hg (zL HB.out):w.heap.size≤e0));have n3_:=n2_;clear HB;have HB:=n0_;have d5:=n1_;have j8:=n2_;have e9:=n3_;clear n0_ n1_ n2_ n3_;clear hb hbox hg;obtain ⟨l5,l6,n4,n5,n6⟩:=zD5 d5.out;obtain ⟨l7,l8,n7,n8,n9⟩:=zE5 d5.out)|((with_reducible refine zah (f:=120) rfl ?_);refine zgl 21 Try.func120 #[.int .i64 e8] ?_;(with_reducible refine (zbj.calls e8 k5 _ A12.out).mono ?_);rintro e w15 ⟨rfl,hb⟩;refine ⟨_,rfl,?_⟩;replace d5:=zaa.mk (zac (zB d5.out) hb);replace HB:=zaa.mk (zae (zL1 HB.out e9.out) hb);(try clear hb)))
   go_ret
   exact zG
  ·rw [if_neg c11] at H
   have c11b0:(a0==2)=false:=beq_eq_false_iff_ne.mpr c11
   have c11b1:(a0 != 2)=true:=bne_iff_ne.mpr c11
   by_cases c16:a0=3
   ·rw [if_pos c16] at H
    have c16b0:(a0==3)=true:=beq_iff_eq.mpr c16
    have c16b1:(a0 != 3)=false:=bne_eq_false_iff_eq.mpr c16
    clear c16
    obtain ⟨k6,A17,H⟩:=zob H
    replace H:(some k6)=some r:=H
    obtain rfl:=Option.some.inj H
    go_enter Try.func146,Try.ntmps146
    go_wp2_with (first|((with_reducible refine zaC (N:=6) rfl ?_);refine zbx (N:=6) #[.int .i64 i7,.int .i64 i8,.int .i64 e7,.int .i64 e8,.int .i64 i9] 57 ?_;intro e0 hg w18 hbox hb;have n0_:=zaa.mk (zae (zL HB.out) hb);have n1_:=zaa.mk (hbox);have n2_:=zaa.mk ((zS hg (zL HB.out):w.heap.size≤e0));have n3_:=n2_;clear HB;have HB:=n0_;have d5:=n1_;have j8:=n2_;have e9:=n3_;clear n0_ n1_ n2_ n3_;clear hb hbox hg)|((with_reducible refine zah (f:=120) rfl ?_);refine zgl 25 Try.func120 #[.int .i64 a2] ?_;(with_reducible refine (zbj.calls a2 k6 _ A17.out).mono ?_);rintro e w19 ⟨rfl,hb⟩;refine ⟨_,rfl,?_⟩;replace d5:=zaa.mk (zac (zB d5.out) hb);replace HB:=zaa.mk (zae (zL1 HB.out e9.out) hb);(try clear hb)))
    go_ret
    exact zG
   ·rw [if_neg c16] at H
    have c16b0:(a0==3)=false:=beq_eq_false_iff_ne.mpr c16
    have c16b1:(a0 != 3)=true:=bne_iff_ne.mpr c16
    by_cases c20:a0=4
    ·rw [if_pos c20] at H
     have c20b0:(a0==4)=true:=beq_iff_eq.mpr c20
     have c20b1:(a0 != 4)=false:=bne_eq_false_iff_eq.mpr c20
     clear c20
     obtain ⟨k7,A21,H⟩:=zob H
     replace H:(some k7)=some r:=H
     obtain rfl:=Option.some.inj H
     go_enter Try.func146,Try.ntmps146
     go_wp2_with (first|((with_reducible refine zaC (N:=6) rfl ?_);refine zbx (N:=6) #[.int .i64 i7,.int .i64 i8,.int .i64 e7,.int .i64 e8,.int .i64 i9] 57 ?_;intro e0 hg w22 hbox hb;have n0_:=zaa.mk (zae (zL HB.out) hb);have n1_:=zaa.mk (hbox);have n2_:=zaa.mk ((zS hg (zL HB.out):w.heap.size≤e0));have n3_:=n2_;clear HB;have HB:=n0_;have d5:=n1_;have j8:=n2_;have e9:=n3_;clear n0_ n1_ n2_ n3_;clear hb hbox hg)|((with_reducible refine zah (f:=161) rfl ?_);refine zgl 30 Try.func161 #[.int .i64 a4,.int .i64 a3,.int .i64 1] ?_;(with_reducible refine (zcw.calls a4 a3 1 k7 _ A21.out).mono ?_);rintro e w' ⟨rfl,⟨nd,rfl⟩⟩;refine ⟨_,rfl,?_⟩))
     go_ret
     exact zG
    ·rw [if_neg c20] at H
     have c20b0:(a0==4)=false:=beq_eq_false_iff_ne.mpr c20
     have c20b1:(a0 != 4)=true:=bne_iff_ne.mpr c20
     by_cases c23:a0=5
     ·rw [if_pos c23] at H
      have c23b0:(a0==5)=true:=beq_iff_eq.mpr c23
      have c23b1:(a0 != 5)=false:=bne_eq_false_iff_eq.mpr c23
      clear c23
      obtain ⟨j2,A24,H⟩:=zob H
      replace H:(some (wrap64 (65535 - (mn 65535 (wrap64 (1024*j2))))))=some r:=H
      obtain ⟨l3,hji25⟩ : ∃ j_:Int,(mn 65535 (wrap64 (1024*j2)))=j_:=⟨_,rfl⟩
      replace H:(some (wrap64 (65535 - (l3))))=some r:=by first|(rw [hji25] at H;exact H)|(simp only [hji25] at H ⊢;exact H)
      (try rw [hji25] at A24)
      (try (have hji25h:l3≤65535:=by (rw [← hji25];unfold mn;(repeat' split) <;> omega)))
      (try (have hji25g:l3≤64:=by omega))
      have hji25_:(if (wrap64 (1024*j2))<65535 then (wrap64 (1024*j2)) else 65535)=l3:=hji25
      obtain rfl:=Option.some.inj H
      go_enter Try.func146,Try.ntmps146
      go_wp2_with (first|((with_reducible refine zaC (N:=6) rfl ?_);refine zbx (N:=6) #[.int .i64 i7,.int .i64 i8,.int .i64 e7,.int .i64 e8,.int .i64 i9] 57 ?_;intro e0 hg w26 hbox hb;have n0_:=zaa.mk (zae (zL HB.out) hb);have n1_:=zaa.mk (hbox);have n2_:=zaa.mk ((zS hg (zL HB.out):w.heap.size≤e0));have n3_:=n2_;clear HB;have HB:=n0_;have d5:=n1_;have j8:=n2_;have e9:=n3_;clear n0_ n1_ n2_ n3_;clear hb hbox hg)|((with_reducible refine zah (f:=54) rfl ?_);refine zgl 34 Try.func54 #[.int .i64 a3,.int .i64 0,.int .i64 64] ?_;(with_reducible refine (zaR.calls a3 0 64 j2 _ A24.out).mono ?_);rintro e w27 ⟨rfl,hb⟩;refine ⟨_,rfl,?_⟩;replace d5:=zaa.mk (zac (zB d5.out) hb);replace HB:=zaa.mk (zae (zL1 HB.out e9.out) hb);(try clear hb)))
      go_ret
      exact ⟨by first|rfl|(simp [zaK,zaL] <;> rfl)|(simp only [← hji25];first|rfl|(simp [zaK,zaL] <;> rfl))|(simp [*,zaK,zaL] <;> rfl),by repeat (first|(with_reducible first|exact HB.out|apply zan|apply zaj|apply zai|refine zao ?_ e9.out)|exact HB.out)⟩
     ·rw [if_neg c23] at H
      have c23b0:(a0==5)=false:=beq_eq_false_iff_ne.mpr c23
      have c23b1:(a0 != 5)=true:=bne_iff_ne.mpr c23
      obtain rfl:=Option.some.inj H
      go_enter Try.func146,Try.ntmps146
      go_wp2_with (first|((with_reducible refine zaC (N:=6) rfl ?_);refine zbx (N:=6) #[.int .i64 i7,.int .i64 i8,.int .i64 e7,.int .i64 e8,.int .i64 i9] 57 ?_;intro e0 hg w28 hbox hb;have n0_:=zaa.mk (zae (zL HB.out) hb);have n1_:=zaa.mk (hbox);have n2_:=zaa.mk ((zS hg (zL HB.out):w.heap.size≤e0));have n3_:=n2_;clear HB;have HB:=n0_;have d5:=n1_;have j8:=n2_;have e9:=n3_;clear n0_ n1_ n2_ n3_;clear hb hbox hg))
      go_ret
      exact zG
end Go.Proofs.Ytlilncnoohfcdaa.Br
