
import Derived.Test.YtlilncnoohfcdaaDax0
import Derived.Test.YtlilncnoohfcdaaDax4
import Derived.Test.YtlilncnoohfcdaaBrx0
import Derived.Test.YtlilncnoohfcdaaBrx3
namespace Go.Proofs.Ytlilncnoohfcdaa.Br
open Go.RowKit Go.Proofs.YtlilncnoohfcdaaW.PrintWords Go.Proofs.YtlilncnoohfcdaaW.PrintLast Go.Proofs.YtlilncnoohfcdaaW.PrintMore Go.Proofs.Ytlilncnoohfcdaa.Da
attribute [local go_sem] zbr zbu zbD zbH zbq zbp zbv zbt   
set_option linter.unusedVariables false
set_option linter.unusedSimpArgs false
/-! ### dynamics_Value: function 117 -/
def za7.l0:Nat→Int→Int→Int→Int→Int→List (S120)→Int→Int→Int→Int→Int→Int→Int→Option (Int)
 | 0,_,_,_,_,_,_,_,_,_,_,_,_,_=>none
 | k+1,x1,x3,x4,x5,x13,x20,x21,x22,x00,x01,x02,x03,x04=>if x22<x21 then (if 0≤x22 then (if x22<(x20.length:Int) then (if ((zaE x20 x22).f0)=x1 then ((zco.f ((zaE x20 x22).f1) x00 x01 x02 x03 x04 x3 x4 x5).bind fun k3=>((curve_At.f k ((zaE x20 x22).f2) k3).bind fun j8=>((num_Mul.f x13 j8).bind fun j6=>(za7.l0 k x1 x3 x4 x5 j6 x20 x21 (wrap64 (x22+1)) x00 x01 x02 x03 x04)))) else (za7.l0 k x1 x3 x4 x5 x13 x20 x21 (wrap64 (x22+1)) x00 x01 x02 x03 x04)) else (none)) else (none)) else (some x13)
def za7.f (k:Nat) (l0:List (S120)) (a1:Int) (d9:Int) (e0:Int) (e5:Int) (e6:Int) (e7:Int) (a3:Int) (a4:Int) (a5:Int):Option (Int):=(zaW.f k l0).bind fun g9=>(if g9=0 then (za7.l0 k a1 a3 a4 a5 65535 l0 (l0.length:Int) 0 d9 e0 e5 e6 e7) else (some 65535))
def za7.T8:Bool×List (List Nat×List Nat):=(true,[([],[]),([],[]),([1],[1]),([],[]),([3],[3]),([],[]),([],[]),([],[]),([],[]),([4,5,6,7,8],[4,5,6,7,8]),([2,9,9],[2,9]),([0,10,10],[0,10]),([11,11,0,1,2,3,4,5,6,7,8,9,10,11],[0,11])])
def za7.B8:List Nat:=[0,0,2,0,8,0,0,0,0,504,1022,2047,4095]
theorem za7.tab8:rtab .any (opsOf Try.f117 8)=za7.T8:=by kernel_rfl
theorem za7.bits8:zbE za7.T8.2 za7.B8=true:=by kernel_rfl
set_option maxHeartbeats 8000000 in
set_option maxRecDepth 100000 in
theorem za7.calls (k:Nat) (A0:Option Addr) (c0:Nat) (l0:List (S120)) (a1:Int) (d9:Int) (e0:Int) (e5:Int) (e6:Int) (e7:Int) (a3:Int) (a4:Int) (a5:Int) (r:Int) (w:World) (hr0:Kd.C k120 w A0 l0.length l0) (hc0:l0.length≤c0) (h:za7.f k l0 a1 d9 e0 e5 e6 e7 a3 a4 a5=some r) :
 Calls Try.prog 117 #[.slice A0 l0.length c0,.int .i64 a1,.agg #[.int .i64 d9,.int .i64 e0,.int .i64 e5,.int .i64 e6,.int .i64 e7],.int .i64 a3,.int .i64 a4,.int .i64 a5] w fun e w'=>e = .returned (.int .i64 r)∧Below w.heap.size w w':=by
 have hu57:=Try.underlying57
 have hu120:=Try.underlying120
 have HR0:=zaa.mk hr0
 have HC0:=zaa.mk hc0
 clear hr0 hc0
 have HB:=zaa.mk (Below.refl w.heap.size w)
 have H:((zaW.f k l0).bind fun g9=>(if g9=0 then (za7.l0 k a1 a3 a4 a5 65535 l0 (l0.length:Int) 0 d9 e0 e5 e6 e7) else (some 65535)))=some r:=h
 clear h
 obtain ⟨g9,A7,H⟩:=zob H
 replace H:(if g9=0 then (za7.l0 k a1 a3 a4 a5 65535 l0 (l0.length:Int) 0 d9 e0 e5 e6 e7) else (some 65535))=some r:=H
 by_cases c8:g9=0
 ·rw [if_pos c8] at H
  have c8b0:(g9==0)=true:=beq_iff_eq.mpr c8
  have c8b1:(g9 != 0)=false:=bne_eq_false_iff_eq.mpr c8
  clear c8
  have H':=zaa.mk H
  clear H
  go_enter Try.func117,Try.ntmps117
  go_wp2_with (first|((with_reducible refine zaC (N:=8) rfl ?_);refine zbx (N:=8) #[.int .i64 d9,.int .i64 e0,.int .i64 e5,.int .i64 e6,.int .i64 e7] 57 ?_;intro f5 hg w9 hbox hb;have n0_:=zaa.mk (zae (zL HB.out) hb);have n1_:=zaa.mk (hbox);have n2_:=zaa.mk ((zS hg (zL HB.out):w.heap.size≤f5));have n3_:=n2_;clear HB;have HB:=n0_;have b8:=n1_;have C7:=n2_;have d8:=n3_;clear n0_ n1_ n2_ n3_;clear hb hbox hg)|((with_reducible refine zah (f:=48) rfl ?_);refine zgl 17 Try.func48 #[.slice A0 l0.length c0] ?_;(with_reducible refine (zaW.calls k _ _ l0 g9 _ ?side1 ?side2 A7.out).mono ?_);(case side1=>repeat (first|exact (Kd.C_below HR0.out HB.out)|(with_reducible refine Kd.C_alloc ?_ _)|(with_reducible refine Kd.C_drewN ?_ _)|(with_reducible refine Kd.C_drew ?_)));(case side2=>exact HC0.out);rintro e w10 ⟨rfl,hb⟩;refine ⟨_,rfl,?_⟩;replace b8:=zaa.mk (zac (zB b8.out) hb);replace HB:=zaa.mk (zae (zL1 HB.out d8.out) hb);(try clear hb)))
  go_loopg [13,22] k (fun kq v13 v22 w'=>∃ (x13_1:Int) (x22_1:Int),v13 = .int .i64 x13_1∧v22 = .int .i64 x22_1∧zaa (za7.l0 kq a1 a3 a4 a5 x13_1 l0 (l0.length:Int) x22_1 d9 e0 e5 e6 e7=some r)∧zaa (kq≤k)∧zaa (w'.heap[f5]? = some (.cells #[.int .i64 d9,.int .i64 e0,.int .i64 e5,.int .i64 e6,.int .i64 e7] 57 (0,0)))∧zaa (Below w.heap.size w w'))
  case atStart=>exact ⟨(65535),(0),zF,zF,H',⟨Nat.le_refl _⟩,⟨by refine zB ?_;exact b8.out⟩,⟨by repeat (first|(with_reducible first|exact HB.out|apply zan|apply zaj|apply zai|refine zao ?_ d8.out)|exact HB.out)⟩⟩
  case round=>
   clear H'
   try clear c1
   try clear p2
   try clear c4
   try clear c8
   try clear c8b0
   try clear c8b1
   obtain ⟨x13_1,x22_1,rfl,rfl,HA,i3,b8,HB⟩:=hrel
   cases gk with
   | zero=>exact absurd HA.out (by simp [za7.l0])
   | succ k1=>
    have H:=HA.out
    clear HA
    simp only [za7.l0] at H
    by_cases c11:x22_1<(l0.length:Int)
    ·rw [if_pos c11] at H
     have c11b0:decide (x22_1<(l0.length:Int))=true:=decide_eq_true c11
     clear c11
     by_cases c12:0≤x22_1
     ·rw [if_pos c12] at H
      have c12b0:decide (0≤x22_1)=true:=decide_eq_true c12
      clear c12
      by_cases c13:x22_1<(l0.length:Int)
      ·rw [if_pos c13] at H
       have c13b0:decide (x22_1<(l0.length:Int))=true:=decide_eq_true c13
       clear c13
       by_cases c14:((zaE l0 x22_1).f0)=a1
       ·rw [if_pos c14] at H
        have c14b0:(((zaE l0 x22_1).f0)==a1)=true:=beq_iff_eq.mpr c14
        have c14b1:(((zaE l0 x22_1).f0) != a1)=false:=bne_eq_false_iff_eq.mpr c14
        clear c14
        obtain ⟨k3,A15,H⟩:=zob H
        replace H:((curve_At.f k1 ((zaE l0 x22_1).f2) k3).bind fun j8=>((num_Mul.f x13_1 j8).bind fun j6=>(za7.l0 k1 a1 a3 a4 a5 j6 l0 (l0.length:Int) (wrap64 (x22_1+1)) d9 e0 e5 e6 e7)))=some r:=H
        obtain ⟨j8,A16,H⟩:=zob H
        replace H:((num_Mul.f x13_1 j8).bind fun j6=>(za7.l0 k1 a1 a3 a4 a5 j6 l0 (l0.length:Int) (wrap64 (x22_1+1)) d9 e0 e5 e6 e7))=some r:=H
        obtain ⟨j6,A17,H⟩:=zob H
        replace H:(za7.l0 k1 a1 a3 a4 a5 j6 l0 (l0.length:Int) (wrap64 (x22_1+1)) d9 e0 e5 e6 e7)=some r:=H
        have H':=zaa.mk H
        clear H
        have p123:0≤(x22_1:Int):=of_decide_eq_true (by first|(with_reducible assumption)|assumption)
        have q123:x22_1<(l0.length:Int):=of_decide_eq_true (by first|(with_reducible assumption)|assumption)
        obtain ⟨C8,f6,f7,e123,i6,i7,i8,hl123_2,hi123_2⟩:=zcj HR0.out x22_1 p123 q123
        cases e123
        replace i6:=zad HB.out i6
        replace i7:=zad HB.out i7
        replace i8:=zad HB.out i8
        have l8:=zaa.mk hi123_2
        have l9:=zaa.mk hl123_2
        clear hi123_2 hl123_2
        replace p123:=eq_true p123
        replace q123:=eq_true q123
        try go_wp2_with (first|((with_reducible refine zaC (N:=15) rfl ?_);refine zbx (N:=15) #[.int .i64 0,.int .i64 0,.slice none 0 0] 120 ?_;intro d6 hg w18 hbox hb;have n0_:=zaa.mk (zac (zB b8.out) hb);have n1_:=zaa.mk (zae (zL1 HB.out d8.out) hb);have n2_:=zaa.mk (hbox);have n3_:=zaa.mk ((zS hg (zL1 HB.out d8.out):w.heap.size≤d6));have n4_:=n3_;have n5_:=zaa.mk (zne hg (zB b8.out));have n6_:=zaa.mk (zen hg (zB b8.out));clear b8;clear HB;have b8:=n0_;have HB:=n1_;have d5:=n2_;have C9:=n3_;have j7:=n4_;have d7:=n5_;have j9:=n6_;clear n0_ n1_ n2_ n3_ n4_ n5_ n6_;clear hb hbox hg;have hnb19:=j9.out;have hnc19:=d7.out;obtain ⟨D0,D1,D2⟩:=zD3 d5.out;obtain ⟨D3,D4,D5⟩:=zE3 d5.out))
        have n0_:zaa ((((w18.setCell ⟨d6,0,none⟩ (.int .i64 ((zaE l0 x22_1).f0))).setCell ⟨d6,1,none⟩ (.int .i64 ((zaE l0 x22_1).f1))).setCell ⟨d6,2,none⟩ (.slice f6 ((zaE l0 x22_1).f2).length f7)).heap[f5]? = some (.cells #[.int .i64 d9,.int .i64 e0,.int .i64 e5,.int .i64 e6,.int .i64 e7] 57 (0,0))):=⟨by refine zB ?_;refine zaA ?_ d7.out _;refine zB ?_;refine zaA ?_ d7.out _;refine zB ?_;refine zaA ?_ d7.out _;refine zB ?_;exact b8.out⟩
        have n1_:zaa ((((w18.setCell ⟨d6,0,none⟩ (.int .i64 ((zaE l0 x22_1).f0))).setCell ⟨d6,1,none⟩ (.int .i64 ((zaE l0 x22_1).f1))).setCell ⟨d6,2,none⟩ (.slice f6 ((zaE l0 x22_1).f2).length f7)).heap[d6]? = some (.cells #[.int .i64 ((zaE l0 x22_1).f0),.int .i64 ((zaE l0 x22_1).f1),.slice f6 ((zaE l0 x22_1).f2).length f7] 120 (0,0))):=⟨by refine zB ?_;refine zar (cs:=#[.int .i64 ((zaE l0 x22_1).f0),.int .i64 ((zaE l0 x22_1).f1),.slice none 0 0]) ?_ 2 _ rfl;refine zB ?_;refine zar (cs:=#[.int .i64 ((zaE l0 x22_1).f0),.int .i64 0,.slice none 0 0]) ?_ 1 _ rfl;refine zB ?_;refine zar (cs:=#[.int .i64 0,.int .i64 0,.slice none 0 0]) ?_ 0 _ rfl;refine zB ?_;exact d5.out⟩
        have n2_:zaa (Below w.heap.size w (((w18.setCell ⟨d6,0,none⟩ (.int .i64 ((zaE l0 x22_1).f0))).setCell ⟨d6,1,none⟩ (.int .i64 ((zaE l0 x22_1).f1))).setCell ⟨d6,2,none⟩ (.slice f6 ((zaE l0 x22_1).f2).length f7))):=⟨by repeat (first|(with_reducible first|exact HB.out|apply zan|apply zaj|apply zai|refine zao ?_ d8.out|refine zao ?_ j7.out)|exact HB.out)⟩
        (try clear b8)
        (try clear d5)
        (try clear HB)
        generalize (((w18.setCell ⟨d6,0,none⟩ (.int .i64 ((zaE l0 x22_1).f0))).setCell ⟨d6,1,none⟩ (.int .i64 ((zaE l0 x22_1).f1))).setCell ⟨d6,2,none⟩ (.slice f6 ((zaE l0 x22_1).f2).length f7))=w21 at n0_ n1_ n2_ ⊢
        have b8:=n0_
        have d5:=n1_
        have HB:=n2_
        clear n0_ n1_ n2_
        replace b8:=zaa.mk (zaM b8.out)
        replace d5:=zaa.mk (zaM d5.out)
        replace HB:=zaa.mk (zai HB.out)
        refine zbA (n:=13) (S:=fun w'=>w'.cell? ⟨d6,0,none⟩=some (.int .i64 ((zaE l0 x22_1).f0))∧w'.cell? ⟨d6,1,none⟩=some (.int .i64 ((zaE l0 x22_1).f1))∧w'.cell? ⟨d6,2,none⟩=some (.slice f6 ((zaE l0 x22_1).f2).length f7)∧w'.cell? ⟨f5,0,none⟩=some (.int .i64 d9)∧w'.cell? ⟨f5,1,none⟩=some (.int .i64 e0)∧w'.cell? ⟨f5,2,none⟩=some (.int .i64 e5)∧w'.cell? ⟨f5,3,none⟩=some (.int .i64 e6)∧w'.cell? ⟨f5,4,none⟩=some (.int .i64 e7)) (ds:=[]) #[false,false,false,false,false,false,false,false,false,false,false,false,false] (by kernel_rfl) rfl rfl ⟨zc d5.out 0,zc d5.out 1,zc d5.out 2,zD5 b8.out⟩ (fun hHeld=>?_);refine zbn za7.tab8 za7.bits8 (fun HT_ HW_=>?_)
        generalize w21.drew=w22 at b8 d5 HB hHeld ⊢
        refine zpu 0 30 HT_.out ?_
        refine zpu 1 31 HT_.out ?_
        refine zpu 3 33 HT_.out ?_
        refine zpu 6 36 HT_.out ?_
        refine zpu 7 37 HT_.out ?_
        refine zpu 8 38 HT_.out ?_
        refine ztk 2 32 HT_.out HW_.out hHeld ?_
        refine ztk 4 34 HT_.out HW_.out hHeld ?_
        refine ztk 5 35 HT_.out HW_.out hHeld ?_
        refine zon 9 (some 39) HT_.out (fun K hK=>?_)
        refine zgo Try.func146 #[.int .i64 ((zaE l0 x22_1).f1),.agg #[.int .i64 d9,.int .i64 e0,.int .i64 e5,.int .i64 e6,.int .i64 e7],.int .i64 a3,.int .i64 a4,.int .i64 a5] ?_
        with_reducible refine (zco.calls ((zaE l0 x22_1).f1) d9 e0 e5 e6 e7 a3 a4 a5 k3 _ A15.out).mono ?_
        rintro e w23 ⟨rfl,hb⟩
        refine ⟨_,rfl,?_⟩
        replace b8:=zaa.mk (zac (zB b8.out) hb)
        replace d5:=zaa.mk (zac (zB d5.out) hb)
        replace HB:=zaa.mk (zae (zL2 HB.out d8.out j7.out) hb)
        (try clear hb)
        refine hK.out _ _ ⟨zc d5.out 0,zc d5.out 1,zc d5.out 2,zD5 b8.out⟩ (fun hHeld=>?_)
        clear hK K
        refine znm ?_
        refine zon 10 (some 40) HT_.out (fun K hK=>?_)
        refine zgo Try.func145 #[.slice f6 ((zaE l0 x22_1).f2).length f7,.int .i64 k3] ?_
        with_reducible refine (curve_At.calls k1 _ _ ((zaE l0 x22_1).f2) k3 j8 _ ?side1 ?side2 A16.out).mono ?_
        (case side1=>repeat (first|exact (Kd.C_below l8.out HB.out)|(with_reducible refine Kd.C_alloc ?_ _)|(with_reducible refine Kd.C_drewN ?_ _)|(with_reducible refine Kd.C_drew ?_)))
        (case side2=>exact l9.out)
        rintro e w24 ⟨rfl,hb⟩
        refine ⟨_,rfl,?_⟩
        replace b8:=zaa.mk (zac (zB b8.out) hb)
        replace d5:=zaa.mk (zac (zB d5.out) hb)
        replace HB:=zaa.mk (zae (zL2 HB.out d8.out j7.out) hb)
        (try clear hb)
        refine hK.out _ _ ⟨zc d5.out 0,zc d5.out 1,zc d5.out 2,zD5 b8.out⟩ (fun hHeld=>?_)
        clear hK K
        refine znm ?_
        refine zon 11 (some 41) HT_.out (fun K hK=>?_)
        refine zgo Try.func90 #[.int .i64 x13_1,.int .i64 j8] ?_
        with_reducible refine (num_Mul.calls x13_1 j8 j6 _ A17.out).mono ?_
        rintro e w25 ⟨rfl,hb⟩
        refine ⟨_,rfl,?_⟩
        replace b8:=zaa.mk (zac (zB b8.out) hb)
        replace d5:=zaa.mk (zac (zB d5.out) hb)
        replace HB:=zaa.mk (zae (zL2 HB.out d8.out j7.out) hb)
        (try clear hb)
        refine hK.out _ _ ⟨zc d5.out 0,zc d5.out 1,zc d5.out 2,zD5 b8.out⟩ (fun hHeld=>?_)
        clear hK K
        refine znm ?_
        refine zpu 12 13 HT_.out ?_
        refine zbT (zbB HT_.out (by kernel_rfl)) ?_
        try go_wp2
        go_roundg k1
        case measure=>have:=i3.out;omega
        case rel=>exact ⟨(j6),(wrap64 (x22_1+1)),zF,zF,H',⟨by have:=i3.out;omega⟩,⟨by refine zB ?_;exact b8.out⟩,⟨by repeat (first|(with_reducible first|exact HB.out|apply zan|apply zaj|apply zai|refine zao ?_ d8.out|refine zao ?_ j7.out)|exact HB.out)⟩⟩
       ·rw [if_neg c14] at H
        have c14b0:(((zaE l0 x22_1).f0)==a1)=false:=beq_eq_false_iff_ne.mpr c14
        have c14b1:(((zaE l0 x22_1).f0) != a1)=true:=bne_iff_ne.mpr c14
        have H':=zaa.mk H
        clear H
        have p123:0≤(x22_1:Int):=of_decide_eq_true (by first|(with_reducible assumption)|assumption)
        have q123:x22_1<(l0.length:Int):=of_decide_eq_true (by first|(with_reducible assumption)|assumption)
        obtain ⟨C8,f6,f7,e123,i6,i7,i8,hl123_2,hi123_2⟩:=zcj HR0.out x22_1 p123 q123
        cases e123
        replace i6:=zad HB.out i6
        replace i7:=zad HB.out i7
        replace i8:=zad HB.out i8
        have l8:=zaa.mk hi123_2
        have l9:=zaa.mk hl123_2
        clear hi123_2 hl123_2
        replace p123:=eq_true p123
        replace q123:=eq_true q123
        go_wp2_with (first|((with_reducible refine zaC (N:=15) rfl ?_);refine zbx (N:=15) #[.int .i64 0,.int .i64 0,.slice none 0 0] 120 ?_;intro d6 hg w26 hbox hb;have n0_:=zaa.mk (zac (zB b8.out) hb);have n1_:=zaa.mk (zae (zL1 HB.out d8.out) hb);have n2_:=zaa.mk (hbox);have n3_:=zaa.mk ((zS hg (zL1 HB.out d8.out):w.heap.size≤d6));have n4_:=n3_;have n5_:=zaa.mk (zne hg (zB b8.out));have n6_:=zaa.mk (zen hg (zB b8.out));clear b8;clear HB;have b8:=n0_;have HB:=n1_;have d5:=n2_;have C9:=n3_;have j7:=n4_;have d7:=n5_;have j9:=n6_;clear n0_ n1_ n2_ n3_ n4_ n5_ n6_;clear hb hbox hg;have hnb27:=j9.out;have hnc27:=d7.out;obtain ⟨D6,D7,D8⟩:=zD3 d5.out;obtain ⟨D9,E0,E1⟩:=zE3 d5.out))
        go_roundg k1
        case measure=>have:=i3.out;omega
        case rel=>exact ⟨(x13_1),(wrap64 (x22_1+1)),zF,zF,H',⟨by have:=i3.out;omega⟩,⟨by refine zB ?_;refine zaA ?_ d7.out _;refine zB ?_;refine zaA ?_ d7.out _;refine zB ?_;refine zaA ?_ d7.out _;refine zB ?_;exact b8.out⟩,⟨by repeat (first|(with_reducible first|exact HB.out|apply zan|apply zaj|apply zai|refine zao ?_ d8.out|refine zao ?_ j7.out)|exact HB.out)⟩⟩
      ·rw [if_neg c13] at H
       exact absurd H (by simp)
     ·rw [if_neg c12] at H
      exact absurd H (by simp)
    ·rw [if_neg c11] at H
     have c11b0:decide (x22_1<(l0.length:Int))=false:=decide_eq_false c11
     clear c11
     obtain rfl:=Option.some.inj H
     go_wp2
     go_ret
     exact zG
 ·rw [if_neg c8] at H
  have c8b0:(g9==0)=false:=beq_eq_false_iff_ne.mpr c8
  have c8b1:(g9 != 0)=true:=bne_iff_ne.mpr c8
  obtain rfl:=Option.some.inj H
  go_enter Try.func117,Try.ntmps117
  go_wp2_with (first|((with_reducible refine zaC (N:=8) rfl ?_);refine zbx (N:=8) #[.int .i64 d9,.int .i64 e0,.int .i64 e5,.int .i64 e6,.int .i64 e7] 57 ?_;intro f5 hg w29 hbox hb;have n0_:=zaa.mk (zae (zL HB.out) hb);have n1_:=zaa.mk (hbox);have n2_:=zaa.mk ((zS hg (zL HB.out):w.heap.size≤f5));have n3_:=n2_;clear HB;have HB:=n0_;have b8:=n1_;have C7:=n2_;have d8:=n3_;clear n0_ n1_ n2_ n3_;clear hb hbox hg)|((with_reducible refine zah (f:=48) rfl ?_);refine zgl 17 Try.func48 #[.slice A0 l0.length c0] ?_;(with_reducible refine (zaW.calls k _ _ l0 g9 _ ?side1 ?side2 A7.out).mono ?_);(case side1=>repeat (first|exact (Kd.C_below HR0.out HB.out)|(with_reducible refine Kd.C_alloc ?_ _)|(with_reducible refine Kd.C_drewN ?_ _)|(with_reducible refine Kd.C_drew ?_)));(case side2=>exact HC0.out);rintro e w30 ⟨rfl,hb⟩;refine ⟨_,rfl,?_⟩;replace b8:=zaa.mk (zac (zB b8.out) hb);replace HB:=zaa.mk (zae (zL1 HB.out d8.out) hb);(try clear hb)))
  go_ret
  exact zG
def zcr.f (a0:Int) (a1:Int) (a2:Int) (a3:Int):Option (Int):=(zcn.f a0 a1 a2).bind fun i5=>(some (wrap64 ((IntKind.u64.wrap ((IntKind.u64.wrap (i5))*(mn (mx a3 0) 2147483648))) / 4294967296)))
set_option maxHeartbeats 8000000 in
set_option maxRecDepth 100000 in
theorem zcr.calls (a0:Int) (a1:Int) (a2:Int) (a3:Int) (r:Int) (w:World) (h:zcr.f a0 a1 a2 a3=some r) :
 Calls Try.prog 119 #[.int .i64 a0,.int .i64 a1,.int .i64 a2,.int .i64 a3] w fun e w'=>e = .returned (.int .i64 r)∧Below w.heap.size w w':=by
 have HB:=zaa.mk (Below.refl w.heap.size w)
 have H:((zcn.f a0 a1 a2).bind fun i5=>(some (wrap64 ((IntKind.u64.wrap ((IntKind.u64.wrap (i5))*(mn (mx a3 0) 2147483648))) / 4294967296))))=some r:=h
 clear h
 obtain ⟨k9,hji5⟩ : ∃ j_:Int,(mx a3 0)=j_:=⟨_,rfl⟩
 replace H:((zcn.f a0 a1 a2).bind fun i5=>(some (wrap64 ((IntKind.u64.wrap ((IntKind.u64.wrap (i5))*(mn (k9) 2147483648))) / 4294967296))))=some r:=by first|(rw [hji5] at H;exact H)|(simp only [hji5] at H ⊢;exact H)
 (try (have hji5l:0≤k9:=by (rw [← hji5];unfold mx;(repeat' split) <;> omega)))
 (try (have hji5m:0≤k9:=by omega))
 have hji5_:(if a3<0 then 0 else a3)=k9:=hji5
 obtain ⟨z9,hji6⟩ : ∃ j_:Int,(mn (k9) 2147483648)=j_:=⟨_,rfl⟩
 replace H:((zcn.f a0 a1 a2).bind fun i5=>(some (wrap64 ((IntKind.u64.wrap ((IntKind.u64.wrap (i5))*(z9))) / 4294967296))))=some r:=by first|(rw [hji6] at H;exact H)|(simp only [hji6] at H ⊢;exact H)
 have hji6_:(if 2147483648<(k9) then 2147483648 else (k9))=z9:=hji6
 obtain ⟨i5,A7,H⟩:=zob H
 replace H:(some (wrap64 ((IntKind.u64.wrap ((IntKind.u64.wrap (i5))*(z9))) / 4294967296)))=some r:=H
 obtain rfl:=Option.some.inj H
 go_enter Try.func119,Try.ntmps119
 go_wp2_with (first|((with_reducible refine zah (f:=147) rfl ?_);refine zgl 15 Try.func147 #[.int .i64 a0,.int .i64 a1,.int .i64 a2] ?_;(with_reducible refine (zcn.calls a0 a1 a2 i5 _ A7.out).mono ?_);rintro e w' ⟨rfl,⟨nd,rfl⟩⟩;refine ⟨_,rfl,?_⟩))
 go_ret
 exact ⟨by first|rfl|(simp [zaK,zaL] <;> rfl)|(simp only [← hji5,← hji6];first|rfl|(simp [zaK,zaL] <;> rfl))|(simp [*,zaK,zaL] <;> rfl),by repeat (first|(with_reducible first|exact HB.out|apply zan|apply zaj|apply zai)|exact HB.out)⟩
mutual
def zaP.l0:Nat→List (S57)→List (S57)→Int→Int→Option (Int)
 | 0,_,_,_,_=>none
 | k+1,x0,x11,x12,x13=>if x13<x12 then (if 0≤x13 then (if x13<(x11.length:Int) then (if (mn ((zab x11 x13).f0) ((zab x11 x13).f1))<(-16777216) then (zaP.j1 k x0 x13 x11 x12 x13 true ((zab x11 x13).f0) ((zab x11 x13).f1) ((zab x11 x13).f2) ((zab x11 x13).f3) ((zab x11 x13).f4)) else (if (mx ((zab x11 x13).f0) ((zab x11 x13).f1)) > 16777216 then (zaP.j1 k x0 x13 x11 x12 x13 true ((zab x11 x13).f0) ((zab x11 x13).f1) ((zab x11 x13).f2) ((zab x11 x13).f3) ((zab x11 x13).f4)) else (if (mn (mn ((zab x11 x13).f2) ((zab x11 x13).f3)) ((zab x11 x13).f4))<0 then (zaP.j1 k x0 x13 x11 x12 x13 true ((zab x11 x13).f0) ((zab x11 x13).f1) ((zab x11 x13).f2) ((zab x11 x13).f3) ((zab x11 x13).f4)) else (if (mx ((zab x11 x13).f2) ((zab x11 x13).f3)) > 65535 then (zaP.j1 k x0 x13 x11 x12 x13 true ((zab x11 x13).f0) ((zab x11 x13).f1) ((zab x11 x13).f2) ((zab x11 x13).f3) ((zab x11 x13).f4)) else (zaP.j1 k x0 x13 x11 x12 x13 (decide (((zab x11 x13).f4) > 1073741824)) ((zab x11 x13).f0) ((zab x11 x13).f1) ((zab x11 x13).f2) ((zab x11 x13).f3) ((zab x11 x13).f4)))))) else (none)) else (none)) else (some 0)
def zaP.j1:Nat→List (S57)→Int→List (S57)→Int→Int→Bool→Int→Int→Int→Int→Int→Option (Int)
 | 0,_,_,_,_,_,_,_,_,_,_,_=>none
 | k+1,x0,x3,x11,x12,x13,x54,x06,x07,x08,x09,x05=>if x54=true then (some 2) else (if x3 > 0 then (if 0≤(wrap64 (x3 - 1)) then (if (wrap64 (x3 - 1))<(x0.length:Int) then (if x05<((zab x0 (wrap64 (x3 - 1))).f4) then (some 24) else (zaP.l0 k x0 x11 x12 (wrap64 (x13+1)))) else (none)) else (none)) else (zaP.l0 k x0 x11 x12 (wrap64 (x13+1))))
end
def zaP.f (k:Nat) (l0:List (S57)):Option (Int):=if (l0.length:Int)=0 then (some 1) else (if (l0.length:Int) > 128 then (some 3) else (zaP.l0 k l0 l0 (l0.length:Int) 0))
set_option maxHeartbeats 8000000 in
set_option maxRecDepth 100000 in
theorem zaP.calls (k:Nat) (A0:Option Addr) (c0:Nat) (l0:List (S57)) (r:Int) (w:World) (hr0:Kd.C k57 w A0 l0.length l0) (hc0:l0.length≤c0) (h:zaP.f k l0=some r) :
 Calls Try.prog 30 #[.slice A0 l0.length c0] w fun e w'=>e = .returned (.int .i64 r)∧Below w.heap.size w w':=by
 have hu57:=Try.underlying57
 have HR0:=zaa.mk hr0
 have HC0:=zaa.mk hc0
 clear hr0 hc0
 have HB:=zaa.mk (Below.refl w.heap.size w)
 have H:(if (l0.length:Int)=0 then (some 1) else (if (l0.length:Int) > 128 then (some 3) else (zaP.l0 k l0 l0 (l0.length:Int) 0)))=some r:=h
 clear h
 by_cases c2:(l0.length:Int)=0
 ·rw [if_pos c2] at H
  have c2b0:((l0.length:Int)==0)=true:=beq_iff_eq.mpr c2
  have c2b1:((l0.length:Int) != 0)=false:=bne_eq_false_iff_eq.mpr c2
  clear c2
  obtain rfl:=Option.some.inj H
  go_enter Try.func30,Try.ntmps30
  go_wp2
  repeat (go_quiet (fail);try go_wp2)
  go_ret
  exact zG
 ·rw [if_neg c2] at H
  have c2b0:((l0.length:Int)==0)=false:=beq_eq_false_iff_ne.mpr c2
  have c2b1:((l0.length:Int) != 0)=true:=bne_iff_ne.mpr c2
  have c2b2 : ¬ (l0=[]):=fun h_=>c2 (by rw [h_];rfl)
  by_cases c3:(l0.length:Int) > 128
  ·rw [if_pos c3] at H
   have c3b0:decide (128<(l0.length:Int))=true:=decide_eq_true c3
   have c3b1:decide (128<l0.length)=true:=decide_eq_true (by omega)
   clear c3
   obtain rfl:=Option.some.inj H
   go_enter Try.func30,Try.ntmps30
   go_wp2
   repeat (go_quiet (fail);try go_wp2)
   go_ret
   exact zG
  ·rw [if_neg c3] at H
   have c3b0:decide (128<(l0.length:Int))=false:=decide_eq_false c3
   have c3b1:decide (128<l0.length)=false:=decide_eq_false (by omega)
   clear c3
   have H':=zaa.mk H
   clear H
   go_enter Try.func30,Try.ntmps30
   go_wp2
   repeat (go_quiet (fail);try go_wp2)
   go_loopg [13] k (fun kq v13 w'=>∃ (x13_1:Int),v13 = .int .i64 x13_1∧zaa (zaP.l0 kq l0 l0 (l0.length:Int) x13_1=some r)∧zaa (kq≤k)∧zaa (Below w.heap.size w w'))
   case atStart=>exact ⟨(0),zF,H',⟨Nat.le_refl _⟩,⟨by repeat (first|(with_reducible first|exact HB.out|apply zan|apply zaj|apply zai)|exact HB.out)⟩⟩
   case round=>
    clear H'
    try clear c2
    try clear c2b0
    try clear c2b1
    try clear c2b2
    try clear p2
    try clear c3
    try clear c3b0
    try clear c3b1
    obtain ⟨x13_1,rfl,HA,i3,HB⟩:=hrel
    cases gk with
    | zero=>exact absurd HA.out (by simp [zaP.l0])
    | succ k1=>
     have H:=HA.out
     clear HA
     simp only [zaP.l0] at H
     by_cases c4:x13_1<(l0.length:Int)
     ·rw [if_pos c4] at H
      have c4b0:decide (x13_1<(l0.length:Int))=true:=decide_eq_true c4
      clear c4
      by_cases c5:0≤x13_1
      ·rw [if_pos c5] at H
       have c5b0:decide (0≤x13_1)=true:=decide_eq_true c5
       clear c5
       by_cases c6:x13_1<(l0.length:Int)
       ·rw [if_pos c6] at H
        have c6b0:decide (x13_1<(l0.length:Int))=true:=decide_eq_true c6
        clear c6
        have HC7:=zaa.mk H
        clear H
        have p129:0≤(x13_1:Int):=of_decide_eq_true (by first|(with_reducible assumption)|assumption)
        have q129:x13_1<(l0.length:Int):=of_decide_eq_true (by first|(with_reducible assumption)|assumption)
        obtain ⟨m6,e129,k4,k5,k6,k7,k8⟩:=at_T57 HR0.out x13_1 p129 q129
        cases e129
        replace k4:=zad HB.out k4
        replace k5:=zad HB.out k5
        replace k6:=zad HB.out k6
        replace k7:=zad HB.out k7
        replace k8:=zad HB.out k8
        replace p129:=eq_true p129
        replace q129:=eq_true q129
        go_upto_region 8 with (first|((with_reducible refine zaC (N:=4) rfl ?_);(try (refine zcq (by rfl) ?_;dsimp only));refine zbx (N:=4) #[.int .i64 0,.int .i64 0,.int .i64 0,.int .i64 0,.int .i64 0] 57 ?_;intro e9 hg w8 hbox hb;have n0_:=zaa.mk (zae (zL HB.out) hb);have n1_:=zaa.mk (hbox);have n2_:=zaa.mk ((zS hg (zL HB.out):w.heap.size≤e9));have n3_:=n2_;clear HB;have HB:=n0_;have b9:=n1_;have G6:=n2_;have i4:=n3_;clear n0_ n1_ n2_ n3_;clear hb hbox hg;obtain ⟨B0,B3,B7,C0,C1⟩:=zD5 b9.out;obtain ⟨C2,C3,C4,C5,C6⟩:=zE5 b9.out))
        repeat (go_quiet (first|fail))
        (try simp only [Act.put,List.setIfInBounds_toArray,List.set_cons_zero,List.set_cons_succ])
        go_cut [54] (fun v54 wc=>∃ (kq:Nat) (x54_6:Bool),v54 = .bool x54_6∧zaa (zaP.j1 kq l0 x13_1 l0 (l0.length:Int) x13_1 x54_6 ((zab l0 x13_1).f0) ((zab l0 x13_1).f1) ((zab l0 x13_1).f2) ((zab l0 x13_1).f3) ((zab l0 x13_1).f4)=some r)∧zaa (kq≤k1)∧zaa (wc.heap[e9]? = some (.cells #[.int .i64 ((zab l0 x13_1).f0),.int .i64 ((zab l0 x13_1).f1),.int .i64 ((zab l0 x13_1).f2),.int .i64 ((zab l0 x13_1).f3),.int .i64 ((zab l0 x13_1).f4)] 57 (0,0)))∧zaa (Below w.heap.size w wc))
        case first=>
         have H:=HC7.out
         clear HC7
         obtain ⟨l3,hji10⟩ : ∃ j_:Int,(mn ((zab l0 x13_1).f0) ((zab l0 x13_1).f1))=j_:=⟨_,rfl⟩
         replace H:(if (l3)<(-16777216) then (zaP.j1 k1 l0 x13_1 l0 (l0.length:Int) x13_1 true ((zab l0 x13_1).f0) ((zab l0 x13_1).f1) ((zab l0 x13_1).f2) ((zab l0 x13_1).f3) ((zab l0 x13_1).f4)) else (if (mx ((zab l0 x13_1).f0) ((zab l0 x13_1).f1)) > 16777216 then (zaP.j1 k1 l0 x13_1 l0 (l0.length:Int) x13_1 true ((zab l0 x13_1).f0) ((zab l0 x13_1).f1) ((zab l0 x13_1).f2) ((zab l0 x13_1).f3) ((zab l0 x13_1).f4)) else (if (mn (mn ((zab l0 x13_1).f2) ((zab l0 x13_1).f3)) ((zab l0 x13_1).f4))<0 then (zaP.j1 k1 l0 x13_1 l0 (l0.length:Int) x13_1 true ((zab l0 x13_1).f0) ((zab l0 x13_1).f1) ((zab l0 x13_1).f2) ((zab l0 x13_1).f3) ((zab l0 x13_1).f4)) else (if (mx ((zab l0 x13_1).f2) ((zab l0 x13_1).f3)) > 65535 then (zaP.j1 k1 l0 x13_1 l0 (l0.length:Int) x13_1 true ((zab l0 x13_1).f0) ((zab l0 x13_1).f1) ((zab l0 x13_1).f2) ((zab l0 x13_1).f3) ((zab l0 x13_1).f4)) else (zaP.j1 k1 l0 x13_1 l0 (l0.length:Int) x13_1 (decide (((zab l0 x13_1).f4) > 1073741824)) ((zab l0 x13_1).f0) ((zab l0 x13_1).f1) ((zab l0 x13_1).f2) ((zab l0 x13_1).f3) ((zab l0 x13_1).f4))))))=some r:=by first|(rw [hji10] at H;exact H)|(simp only [hji10] at H ⊢;exact H)
         have hji10_:(if ((zab l0 x13_1).f1)<((zab l0 x13_1).f0) then ((zab l0 x13_1).f1) else ((zab l0 x13_1).f0))=l3:=hji10
         by_cases c11:(l3)<(-16777216)
         ·rw [if_pos c11] at H
          have c11b0:decide ((l3)<(-16777216))=true:=decide_eq_true c11
          clear c11
          (first|rw [c11b0]|(simp only [zbY,zcc];rw [c11b0])|skip)
          have H':=zaa.mk H
          clear H
          obtain ⟨m7,m8,m9,n0,n3⟩:=zD5 b9.out
          obtain ⟨n4,n5,n6,n7,n8⟩:=zE5 b9.out
          go_wp2
          repeat (go_quiet (fail);try go_wp2)
          go_meet
          case rel=>exact ⟨_,(true),zF,H',⟨by have:=i3.out;first|omega|exact Nat.le_refl _⟩,⟨by refine zB ?_;refine zar (cs:=#[.int .i64 ((zab l0 x13_1).f0),.int .i64 ((zab l0 x13_1).f1),.int .i64 ((zab l0 x13_1).f2),.int .i64 ((zab l0 x13_1).f3),.int .i64 0]) ?_ 4 _ rfl;refine zB ?_;refine zar (cs:=#[.int .i64 ((zab l0 x13_1).f0),.int .i64 ((zab l0 x13_1).f1),.int .i64 ((zab l0 x13_1).f2),.int .i64 0,.int .i64 0]) ?_ 3 _ rfl;refine zB ?_;refine zar (cs:=#[.int .i64 ((zab l0 x13_1).f0),.int .i64 ((zab l0 x13_1).f1),.int .i64 0,.int .i64 0,.int .i64 0]) ?_ 2 _ rfl;refine zB ?_;refine zar (cs:=#[.int .i64 ((zab l0 x13_1).f0),.int .i64 0,.int .i64 0,.int .i64 0,.int .i64 0]) ?_ 1 _ rfl;refine zB ?_;refine zar (cs:=#[.int .i64 0,.int .i64 0,.int .i64 0,.int .i64 0,.int .i64 0]) ?_ 0 _ rfl;refine zB ?_;exact b9.out⟩,⟨by repeat (first|(with_reducible first|exact HB.out|apply zan|apply zaj|apply zai|refine zao ?_ i4.out)|exact HB.out)⟩⟩
         ·rw [if_neg c11] at H
          have c11b0:decide ((l3)<(-16777216))=false:=decide_eq_false c11
          clear c11
          (first|rw [c11b0]|(simp only [zbY,zcc];rw [c11b0])|skip)
          obtain ⟨l4,hji13⟩ : ∃ j_:Int,(mx ((zab l0 x13_1).f0) ((zab l0 x13_1).f1))=j_:=⟨_,rfl⟩
          replace H:(if (l4) > 16777216 then (zaP.j1 k1 l0 x13_1 l0 (l0.length:Int) x13_1 true ((zab l0 x13_1).f0) ((zab l0 x13_1).f1) ((zab l0 x13_1).f2) ((zab l0 x13_1).f3) ((zab l0 x13_1).f4)) else (if (mn (mn ((zab l0 x13_1).f2) ((zab l0 x13_1).f3)) ((zab l0 x13_1).f4))<0 then (zaP.j1 k1 l0 x13_1 l0 (l0.length:Int) x13_1 true ((zab l0 x13_1).f0) ((zab l0 x13_1).f1) ((zab l0 x13_1).f2) ((zab l0 x13_1).f3) ((zab l0 x13_1).f4)) else (if (mx ((zab l0 x13_1).f2) ((zab l0 x13_1).f3)) > 65535 then (zaP.j1 k1 l0 x13_1 l0 (l0.length:Int) x13_1 true ((zab l0 x13_1).f0) ((zab l0 x13_1).f1) ((zab l0 x13_1).f2) ((zab l0 x13_1).f3) ((zab l0 x13_1).f4)) else (zaP.j1 k1 l0 x13_1 l0 (l0.length:Int) x13_1 (decide (((zab l0 x13_1).f4) > 1073741824)) ((zab l0 x13_1).f0) ((zab l0 x13_1).f1) ((zab l0 x13_1).f2) ((zab l0 x13_1).f3) ((zab l0 x13_1).f4)))))=some r:=by first|(rw [hji13] at H;exact H)|(simp only [hji13] at H ⊢;exact H)
          have hji13_:(if ((zab l0 x13_1).f0)<((zab l0 x13_1).f1) then ((zab l0 x13_1).f1) else ((zab l0 x13_1).f0))=l4:=hji13
          by_cases c14:(l4) > 16777216
          ·rw [if_pos c14] at H
           have c14b0:decide (16777216<(l4))=true:=decide_eq_true c14
           clear c14
           have H':=zaa.mk H
           clear H
           obtain ⟨n9,o2,o3,o4,o5⟩:=zD5 b9.out
           obtain ⟨o6,o7,o8,o9,p7⟩:=zE5 b9.out
           go_wp2
           repeat (go_quiet (fail);try go_wp2)
           go_meet
           case rel=>exact ⟨_,(true),zF,H',⟨by have:=i3.out;first|omega|exact Nat.le_refl _⟩,⟨by refine zB ?_;refine zar (cs:=#[.int .i64 ((zab l0 x13_1).f0),.int .i64 ((zab l0 x13_1).f1),.int .i64 ((zab l0 x13_1).f2),.int .i64 ((zab l0 x13_1).f3),.int .i64 0]) ?_ 4 _ rfl;refine zB ?_;refine zar (cs:=#[.int .i64 ((zab l0 x13_1).f0),.int .i64 ((zab l0 x13_1).f1),.int .i64 ((zab l0 x13_1).f2),.int .i64 0,.int .i64 0]) ?_ 3 _ rfl;refine zB ?_;refine zar (cs:=#[.int .i64 ((zab l0 x13_1).f0),.int .i64 ((zab l0 x13_1).f1),.int .i64 0,.int .i64 0,.int .i64 0]) ?_ 2 _ rfl;refine zB ?_;refine zar (cs:=#[.int .i64 ((zab l0 x13_1).f0),.int .i64 0,.int .i64 0,.int .i64 0,.int .i64 0]) ?_ 1 _ rfl;refine zB ?_;refine zar (cs:=#[.int .i64 0,.int .i64 0,.int .i64 0,.int .i64 0,.int .i64 0]) ?_ 0 _ rfl;refine zB ?_;exact b9.out⟩,⟨by repeat (first|(with_reducible first|exact HB.out|apply zan|apply zaj|apply zai|refine zao ?_ i4.out)|exact HB.out)⟩⟩
          ·rw [if_neg c14] at H
           have c14b0:decide (16777216<(l4))=false:=decide_eq_false c14
           clear c14
           obtain ⟨l5,hji16⟩ : ∃ j_:Int,(mn ((zab l0 x13_1).f2) ((zab l0 x13_1).f3))=j_:=⟨_,rfl⟩
           replace H:(if (mn (l5) ((zab l0 x13_1).f4))<0 then (zaP.j1 k1 l0 x13_1 l0 (l0.length:Int) x13_1 true ((zab l0 x13_1).f0) ((zab l0 x13_1).f1) ((zab l0 x13_1).f2) ((zab l0 x13_1).f3) ((zab l0 x13_1).f4)) else (if (mx ((zab l0 x13_1).f2) ((zab l0 x13_1).f3)) > 65535 then (zaP.j1 k1 l0 x13_1 l0 (l0.length:Int) x13_1 true ((zab l0 x13_1).f0) ((zab l0 x13_1).f1) ((zab l0 x13_1).f2) ((zab l0 x13_1).f3) ((zab l0 x13_1).f4)) else (zaP.j1 k1 l0 x13_1 l0 (l0.length:Int) x13_1 (decide (((zab l0 x13_1).f4) > 1073741824)) ((zab l0 x13_1).f0) ((zab l0 x13_1).f1) ((zab l0 x13_1).f2) ((zab l0 x13_1).f3) ((zab l0 x13_1).f4))))=some r:=by first|(rw [hji16] at H;exact H)|(simp only [hji16] at H ⊢;exact H)
           have hji16_:(if ((zab l0 x13_1).f3)<((zab l0 x13_1).f2) then ((zab l0 x13_1).f3) else ((zab l0 x13_1).f2))=l5:=hji16
           obtain ⟨l6,hji17⟩ : ∃ j_:Int,(mn (l5) ((zab l0 x13_1).f4))=j_:=⟨_,rfl⟩
           replace H:(if (l6)<0 then (zaP.j1 k1 l0 x13_1 l0 (l0.length:Int) x13_1 true ((zab l0 x13_1).f0) ((zab l0 x13_1).f1) ((zab l0 x13_1).f2) ((zab l0 x13_1).f3) ((zab l0 x13_1).f4)) else (if (mx ((zab l0 x13_1).f2) ((zab l0 x13_1).f3)) > 65535 then (zaP.j1 k1 l0 x13_1 l0 (l0.length:Int) x13_1 true ((zab l0 x13_1).f0) ((zab l0 x13_1).f1) ((zab l0 x13_1).f2) ((zab l0 x13_1).f3) ((zab l0 x13_1).f4)) else (zaP.j1 k1 l0 x13_1 l0 (l0.length:Int) x13_1 (decide (((zab l0 x13_1).f4) > 1073741824)) ((zab l0 x13_1).f0) ((zab l0 x13_1).f1) ((zab l0 x13_1).f2) ((zab l0 x13_1).f3) ((zab l0 x13_1).f4))))=some r:=by first|(rw [hji17] at H;exact H)|(simp only [hji17] at H ⊢;exact H)
           have hji17_:(if ((zab l0 x13_1).f4)<(l5) then ((zab l0 x13_1).f4) else (l5))=l6:=hji17
           by_cases c18:(l6)<0
           ·rw [if_pos c18] at H
            have c18b0:decide ((l6)<0)=true:=decide_eq_true c18
            clear c18
            have H':=zaa.mk H
            clear H
            obtain ⟨p8,p9,s5,s6,s7⟩:=zD5 b9.out
            obtain ⟨s8,s9,t6,t7,t8⟩:=zE5 b9.out
            go_wp2
            repeat (go_quiet (fail);try go_wp2)
            go_meet
            case rel=>exact ⟨_,(true),zF,H',⟨by have:=i3.out;first|omega|exact Nat.le_refl _⟩,⟨by refine zB ?_;refine zar (cs:=#[.int .i64 ((zab l0 x13_1).f0),.int .i64 ((zab l0 x13_1).f1),.int .i64 ((zab l0 x13_1).f2),.int .i64 ((zab l0 x13_1).f3),.int .i64 0]) ?_ 4 _ rfl;refine zB ?_;refine zar (cs:=#[.int .i64 ((zab l0 x13_1).f0),.int .i64 ((zab l0 x13_1).f1),.int .i64 ((zab l0 x13_1).f2),.int .i64 0,.int .i64 0]) ?_ 3 _ rfl;refine zB ?_;refine zar (cs:=#[.int .i64 ((zab l0 x13_1).f0),.int .i64 ((zab l0 x13_1).f1),.int .i64 0,.int .i64 0,.int .i64 0]) ?_ 2 _ rfl;refine zB ?_;refine zar (cs:=#[.int .i64 ((zab l0 x13_1).f0),.int .i64 0,.int .i64 0,.int .i64 0,.int .i64 0]) ?_ 1 _ rfl;refine zB ?_;refine zar (cs:=#[.int .i64 0,.int .i64 0,.int .i64 0,.int .i64 0,.int .i64 0]) ?_ 0 _ rfl;refine zB ?_;exact b9.out⟩,⟨by repeat (first|(with_reducible first|exact HB.out|apply zan|apply zaj|apply zai|refine zao ?_ i4.out)|exact HB.out)⟩⟩
           ·rw [if_neg c18] at H
            have c18b0:decide ((l6)<0)=false:=decide_eq_false c18
            clear c18
            obtain ⟨l7,hji20⟩ : ∃ j_:Int,(mx ((zab l0 x13_1).f2) ((zab l0 x13_1).f3))=j_:=⟨_,rfl⟩
            replace H:(if (l7) > 65535 then (zaP.j1 k1 l0 x13_1 l0 (l0.length:Int) x13_1 true ((zab l0 x13_1).f0) ((zab l0 x13_1).f1) ((zab l0 x13_1).f2) ((zab l0 x13_1).f3) ((zab l0 x13_1).f4)) else (zaP.j1 k1 l0 x13_1 l0 (l0.length:Int) x13_1 (decide (((zab l0 x13_1).f4) > 1073741824)) ((zab l0 x13_1).f0) ((zab l0 x13_1).f1) ((zab l0 x13_1).f2) ((zab l0 x13_1).f3) ((zab l0 x13_1).f4)))=some r:=by first|(rw [hji20] at H;exact H)|(simp only [hji20] at H ⊢;exact H)
            have hji20_:(if ((zab l0 x13_1).f2)<((zab l0 x13_1).f3) then ((zab l0 x13_1).f3) else ((zab l0 x13_1).f2))=l7:=hji20
            by_cases c21:(l7) > 65535
            ·rw [if_pos c21] at H
             have c21b0:decide (65535<(l7))=true:=decide_eq_true c21
             clear c21
             have H':=zaa.mk H
             clear H
             obtain ⟨t9,u3,u4,u5,u6⟩:=zD5 b9.out
             obtain ⟨u7,u9,y5,y6,y7⟩:=zE5 b9.out
             go_wp2
             repeat (go_quiet (fail);try go_wp2)
             go_meet
             case rel=>exact ⟨_,(true),zF,H',⟨by have:=i3.out;first|omega|exact Nat.le_refl _⟩,⟨by refine zB ?_;refine zar (cs:=#[.int .i64 ((zab l0 x13_1).f0),.int .i64 ((zab l0 x13_1).f1),.int .i64 ((zab l0 x13_1).f2),.int .i64 ((zab l0 x13_1).f3),.int .i64 0]) ?_ 4 _ rfl;refine zB ?_;refine zar (cs:=#[.int .i64 ((zab l0 x13_1).f0),.int .i64 ((zab l0 x13_1).f1),.int .i64 ((zab l0 x13_1).f2),.int .i64 0,.int .i64 0]) ?_ 3 _ rfl;refine zB ?_;refine zar (cs:=#[.int .i64 ((zab l0 x13_1).f0),.int .i64 ((zab l0 x13_1).f1),.int .i64 0,.int .i64 0,.int .i64 0]) ?_ 2 _ rfl;refine zB ?_;refine zar (cs:=#[.int .i64 ((zab l0 x13_1).f0),.int .i64 0,.int .i64 0,.int .i64 0,.int .i64 0]) ?_ 1 _ rfl;refine zB ?_;refine zar (cs:=#[.int .i64 0,.int .i64 0,.int .i64 0,.int .i64 0,.int .i64 0]) ?_ 0 _ rfl;refine zB ?_;exact b9.out⟩,⟨by repeat (first|(with_reducible first|exact HB.out|apply zan|apply zaj|apply zai|refine zao ?_ i4.out)|exact HB.out)⟩⟩
            ·rw [if_neg c21] at H
             have c21b0:decide (65535<(l7))=false:=decide_eq_false c21
             clear c21
             have H':=zaa.mk H
             clear H
             obtain ⟨y8,y9,z1,z2,z3⟩:=zD5 b9.out
             obtain ⟨z4,z5,z6,z7,z8⟩:=zE5 b9.out
             go_wp2
             repeat (go_quiet (fail);try go_wp2)
             go_meet
             case rel=>exact ⟨_,(decide (((zab l0 x13_1).f4) > 1073741824)),zF,H',⟨by have:=i3.out;first|omega|exact Nat.le_refl _⟩,⟨by refine zB ?_;refine zar (cs:=#[.int .i64 ((zab l0 x13_1).f0),.int .i64 ((zab l0 x13_1).f1),.int .i64 ((zab l0 x13_1).f2),.int .i64 ((zab l0 x13_1).f3),.int .i64 0]) ?_ 4 _ rfl;refine zB ?_;refine zar (cs:=#[.int .i64 ((zab l0 x13_1).f0),.int .i64 ((zab l0 x13_1).f1),.int .i64 ((zab l0 x13_1).f2),.int .i64 0,.int .i64 0]) ?_ 3 _ rfl;refine zB ?_;refine zar (cs:=#[.int .i64 ((zab l0 x13_1).f0),.int .i64 ((zab l0 x13_1).f1),.int .i64 0,.int .i64 0,.int .i64 0]) ?_ 2 _ rfl;refine zB ?_;refine zar (cs:=#[.int .i64 ((zab l0 x13_1).f0),.int .i64 0,.int .i64 0,.int .i64 0,.int .i64 0]) ?_ 1 _ rfl;refine zB ?_;refine zar (cs:=#[.int .i64 0,.int .i64 0,.int .i64 0,.int .i64 0,.int .i64 0]) ?_ 0 _ rfl;refine zB ?_;exact b9.out⟩,⟨by repeat (first|(with_reducible first|exact HB.out|apply zan|apply zaj|apply zai|refine zao ?_ i4.out)|exact HB.out)⟩⟩
        case rest=>
         clear HC7
         try clear c1
         try clear p1
         try clear q1
         try clear hx1
         try clear c2
         try clear c2b0
         try clear c2b1
         try clear c2b2
         try clear p2
         try clear c3
         try clear c3b0
         try clear c3b1
         try clear c4
         try clear c4b0
         try clear c5
         try clear c5b0
         try clear c6
         try clear c6b0
         try clear c11
         try clear c11b0
         try clear p12
         try clear q12
         try clear hx12
         try clear c14
         try clear c14b0
         try clear c18
         try clear c18b0
         try clear c21
         try clear c21b0
         try clear m7 m8 m9 n0 n3 n9 o2 o3 o4 o5 p8 p9 s5 s6 s7 t9 u3 u4 u5 u6 y8 y9 z1 z2 z3 B0 B3 B7 C0 C1 n4 n5 n6 n7 n8 o6 o7 o8 o9 p7 s8 s9 t6 t7 t8 u7 u9 y5 y6 y7 z4 z5 z6 z7 z8 C2 C3 C4 C5 C6
         try clear k4
         try clear k5
         try clear k6
         try clear k7
         try clear k8
         try clear p129
         try clear p2
         try clear q129
         obtain ⟨kq,x54_6,rfl,HA,HJ6,b9,HB⟩:=hcut
         cases kq with
         | zero=>exact absurd HA.out (by simp [zaP.j1])
         | succ kj6=>
          have H:=HA.out
          clear HA
          simp only [zaP.j1] at H
          by_cases c24:x54_6=true
          ·subst c24
           have H1:(some 2)=some r:=by rw [if_pos rfl] at H;exact H
           clear H
           have H:=H1
           clear H1
           obtain rfl:=Option.some.inj H
           go_wp2
           repeat (go_quiet (fail);try go_wp2)
           go_ret
           exact zG
          ·replace c24:=Bool.eq_false_iff.mpr c24
           subst c24
           have H1:(if x13_1 > 0 then (if 0≤(wrap64 (x13_1 - 1)) then (if (wrap64 (x13_1 - 1))<(l0.length:Int) then (if ((zab l0 x13_1).f4)<((zab l0 (wrap64 (x13_1 - 1))).f4) then (some 24) else (zaP.l0 kj6 l0 l0 (l0.length:Int) (wrap64 (x13_1+1)))) else (none)) else (none)) else (zaP.l0 kj6 l0 l0 (l0.length:Int) (wrap64 (x13_1+1))))=some r:=by rw [if_neg (show ¬ (false=true) by decide)] at H;exact H
           clear H
           have H:=H1
           clear H1
           by_cases c25:x13_1 > 0
           ·rw [if_pos c25] at H
            have c25b0:decide (0<x13_1)=true:=decide_eq_true c25
            clear c25
            obtain ⟨e8,hji26⟩ : ∃ j_:Int,(wrap64 (x13_1 - 1))=j_:=⟨_,rfl⟩
            replace H:(if 0≤(e8) then (if (e8)<(l0.length:Int) then (if ((zab l0 x13_1).f4)<((zab l0 (e8)).f4) then (some 24) else (zaP.l0 kj6 l0 l0 (l0.length:Int) (wrap64 (x13_1+1)))) else (none)) else (none))=some r:=by first|(rw [hji26] at H;exact H)|(simp only [hji26] at H ⊢;exact H)
            have hji26w:(IntKind.i64.wrap (x13_1 - 1))=e8:=(zbY _).trans hji26
            by_cases c27:0≤(e8)
            ·rw [if_pos c27] at H
             have c27b0:decide (0≤(e8))=true:=decide_eq_true c27
             clear c27
             by_cases c28:(e8)<(l0.length:Int)
             ·rw [if_pos c28] at H
              have c28b0:decide ((e8)<(l0.length:Int))=true:=decide_eq_true c28
              clear c28
              by_cases c29:((zab l0 x13_1).f4)<((zab l0 (e8)).f4)
              ·rw [if_pos c29] at H
               have c29b0:decide (((zab l0 x13_1).f4)<((zab l0 (e8)).f4))=true:=decide_eq_true c29
               clear c29
               obtain rfl:=Option.some.inj H
               have E2:wc.cell? ⟨e9,0,none⟩=some (.int .i64 ((zab l0 x13_1).f0)):=zc b9.out 0
               have E3:wc.cell? ⟨e9,1,none⟩=some (.int .i64 ((zab l0 x13_1).f1)):=zc b9.out 1
               have E4:wc.cell? ⟨e9,2,none⟩=some (.int .i64 ((zab l0 x13_1).f2)):=zc b9.out 2
               have E5:wc.cell? ⟨e9,3,none⟩=some (.int .i64 ((zab l0 x13_1).f3)):=zc b9.out 3
               have E6:wc.cell? ⟨e9,4,none⟩=some (.int .i64 ((zab l0 x13_1).f4)):=zc b9.out 4
               obtain ⟨E7,E8,E9,F0,F1⟩:=zE5 b9.out
               have p131:0≤((e8):Int):=of_decide_eq_true (by first|(with_reducible assumption)|assumption)
               have q131:(e8)<(l0.length:Int):=of_decide_eq_true (by first|(with_reducible assumption)|assumption)
               obtain ⟨m5,e131,i9,j2,j3,j4,j5⟩:=at_T57 HR0.out (e8) p131 q131
               obtain rfl:m6=m5:=(by injection e131)
               replace i9:=zad HB.out i9
               replace j2:=zad HB.out j2
               replace j3:=zad HB.out j3
               replace j4:=zad HB.out j4
               replace j5:=zad HB.out j5
               replace p131:=eq_true p131
               replace q131:=eq_true q131
               go_wp2
               repeat (go_quiet (fail);try go_wp2)
               go_ret
               exact ⟨by first|rfl|(simp [zaK,zaL] <;> rfl)|(simp only [← hji26];first|rfl|(simp [zaK,zaL] <;> rfl))|(simp [*,zaK,zaL] <;> rfl),by repeat (first|(with_reducible first|exact HB.out|apply zan|apply zaj|apply zai|refine zao ?_ i4.out)|exact HB.out)⟩
              ·rw [if_neg c29] at H
               have c29b0:decide (((zab l0 x13_1).f4)<((zab l0 (e8)).f4))=false:=decide_eq_false c29
               clear c29
               have H':=zaa.mk H
               clear H
               have F2:wc.cell? ⟨e9,0,none⟩=some (.int .i64 ((zab l0 x13_1).f0)):=zc b9.out 0
               have F3:wc.cell? ⟨e9,1,none⟩=some (.int .i64 ((zab l0 x13_1).f1)):=zc b9.out 1
               have F4:wc.cell? ⟨e9,2,none⟩=some (.int .i64 ((zab l0 x13_1).f2)):=zc b9.out 2
               have F5:wc.cell? ⟨e9,3,none⟩=some (.int .i64 ((zab l0 x13_1).f3)):=zc b9.out 3
               have F6:wc.cell? ⟨e9,4,none⟩=some (.int .i64 ((zab l0 x13_1).f4)):=zc b9.out 4
               obtain ⟨F7,F8,F9,G4,G5⟩:=zE5 b9.out
               have p131:0≤((e8):Int):=of_decide_eq_true (by first|(with_reducible assumption)|assumption)
               have q131:(e8)<(l0.length:Int):=of_decide_eq_true (by first|(with_reducible assumption)|assumption)
               obtain ⟨m5,e131,i9,j2,j3,j4,j5⟩:=at_T57 HR0.out (e8) p131 q131
               obtain rfl:m6=m5:=(by injection e131)
               replace i9:=zad HB.out i9
               replace j2:=zad HB.out j2
               replace j3:=zad HB.out j3
               replace j4:=zad HB.out j4
               replace j5:=zad HB.out j5
               replace p131:=eq_true p131
               replace q131:=eq_true q131
               go_wp2
               repeat (go_quiet (fail);try go_wp2)
               go_roundg kj6
               case measure=>have:=i3.out;have:=HJ6.out;omega
               case rel=>exact ⟨(wrap64 (x13_1+1)),zF,H',⟨by have:=i3.out;have:=HJ6.out;omega⟩,⟨by repeat (first|(with_reducible first|exact HB.out|apply zan|apply zaj|apply zai|refine zao ?_ i4.out)|exact HB.out)⟩⟩
             ·rw [if_neg c28] at H
              exact absurd H (by simp)
            ·rw [if_neg c27] at H
             exact absurd H (by simp)
           ·rw [if_neg c25] at H
            have c25b0:decide (0<x13_1)=false:=decide_eq_false c25
            clear c25
            have H':=zaa.mk H
            clear H
            go_wp2
            repeat (go_quiet (fail);try go_wp2)
            go_roundg kj6
            case measure=>have:=i3.out;have:=HJ6.out;omega
            case rel=>exact ⟨(wrap64 (x13_1+1)),zF,H',⟨by have:=i3.out;have:=HJ6.out;omega⟩,⟨by repeat (first|(with_reducible first|exact HB.out|apply zan|apply zaj|apply zai|refine zao ?_ i4.out)|exact HB.out)⟩⟩
       ·rw [if_neg c6] at H
        exact absurd H (by simp)
      ·rw [if_neg c5] at H
       exact absurd H (by simp)
     ·rw [if_neg c4] at H
      have c4b0:decide (x13_1<(l0.length:Int))=false:=decide_eq_false c4
      clear c4
      obtain rfl:=Option.some.inj H
      go_wp2
      repeat (go_quiet (fail);try go_wp2)
      go_ret
      exact zG
end Go.Proofs.Ytlilncnoohfcdaa.Br
