
import Derived.Test.YtlilncnoohfcdaaDax0
import Derived.Test.YtlilncnoohfcdaaDax10
import Derived.Test.YtlilncnoohfcdaaDax18
import Derived.Test.YtlilncnoohfcdaaDax8
import Derived.Test.YtlilncnoohfcdaaDbx0
import Derived.Test.YtlilncnoohfcdaaDbx2
namespace Go.Proofs.Ytlilncnoohfcdaa.Db
open Go.RowKit Go.Proofs.YtlilncnoohfcdaaW.PrintWords Go.Proofs.YtlilncnoohfcdaaW.PrintLast Go.Proofs.YtlilncnoohfcdaaW.PrintMore Go.Proofs.Ytlilncnoohfcdaa.Da
attribute [local go_sem] max2_int min2_int zbo zbp zbc zbd zbj zbk   
set_option linter.unusedVariables false
set_option linter.unusedSimpArgs false
/-! ### imageeditorlaw27_DabTips: function 4 -/
def imageeditorlaw27_DabTips.l0:Nat→Int→Int→Int→Int→Int→Int→Int→Int→Int→Int→Int→Int→Int→Int→Int→Int→List (S120)→Bool→Int→Int→Int→Int→Int→Int→Int→Int→Int→Int→Int→List Int→Int→Int→List Int→Option (Bool)
 | 0,_,_,_,_,_,_,_,_,_,_,_,_,_,_,_,_,_,_,_,_,_,_,_,_,_,_,_,_,_,_,_,_,_=>none
 | k+1,x54,x55,x03,x04,x05,x06,x07,x08,x09,x0a,x0b,x0c,x0d,x0e,x0f,x0g,x0h,x0i,x0j,x0k,x0l,x0m,x0n,x0o,x0p,x00,x0q,x0r,x0s,x01,x0t,x0u,x02=>if x55<x54 then (if 0≤x55 then (if x55<(x01.length:Int) then (if x55<(x02.length:Int) then (if (rd x01 x55)=(rd x02 x55) then (if x00=0 then (none) else ((zaq.f k x03 x04 x05 x06 x07 x08 x09 x0a x0b x0c x0d x0e x0f x0g x0h x0i x0j x0k x0l x0m x0n (wrap64 (x0o+(Int.tmod x55 x00))) (wrap64 (x0p+(wrap64 (Int.tdiv x55 x00))))).bind fun t224=>(if (rd x01 x55)=t224 then (imageeditorlaw27_DabTips.l0 k x54 (wrap64 (x55+1)) x03 x04 x05 x06 x07 x08 x09 x0a x0b x0c x0d x0e x0f x0g x0h x0i x0j x0k x0l x0m x0n x0o x0p x00 x0q x0r x0s x01 x0t x0u x02) else (none)))) else (none)) else (none)) else (none)) else (none)) else ((za8.f k).bind fun t225=>(some t225))
def imageeditorlaw27_DabTips.f (k:Nat) (a0_0:Int) (a0_1:Int) (a0_2:Int) (a0_3:Int) (a0_4:Int) (a0_5:Int) (a0_6:Int) (a0_7:Int) (a0_8:Int) (a0_9:Int) (a0_10:Int) (a0_11:Int) (a0_12:Int) (a0_13:Int) (l0_14:List (S120)) (a0_15:Bool) (a1_0:Int) (a1_1:Int) (a1_2:Int) (a1_3:Int) (a1_4:Int) (a2_0:Int) (a2_1:Int) (a2_2:Int) (a2_3:Int):Option (Bool):=(zax.f k a0_0 a0_1 a0_2 a0_3 a0_4 a0_5 a0_6 a0_7 a0_8 a0_9 a0_10 a0_11 a0_12 a0_13 l0_14 a0_15 a1_0 a1_1 a1_2 a1_3 a1_4 a2_0 a2_1 a2_2 a2_3).bind fun bt207=>((zaj.f k a0_0 a0_1 a0_2 a0_3 a0_4 a0_5 a0_6 a0_7 a0_8 a0_9 a0_10 a0_11 a0_12 a0_13 l0_14 a0_15 a1_0 a1_1 a1_2 a1_3 a1_4 a2_0 a2_1 a2_2 a2_3).bind fun bt214=>(if bt207.2.2.2=bt214.2.2.2 then (if bt207.1=bt214.1 then (if bt207.2.1=bt214.2.1 then (if (bt207.2.2.1.length:Int)=(bt214.2.2.1.length:Int) then (imageeditorlaw27_DabTips.l0 k (bt207.2.2.1.length:Int) 0 a0_0 a0_1 a0_2 a0_3 a0_4 a0_5 a0_6 a0_7 a0_8 a0_9 a0_10 a0_11 a0_12 a0_13 l0_14 a0_15 a1_0 a1_1 a1_2 a1_3 a1_4 a2_0 a2_1 a2_2 a2_3 bt207.1 bt207.2.1 bt207.2.2.1 bt214.1 bt214.2.1 bt214.2.2.1) else (none)) else (none)) else (none)) else (none)))
def imageeditorlaw27_DabTips.T8:Bool×List (List Nat×List Nat):=(true,[([],[]),([0],[0]),([],[]),([1,2],[1,2]),([3],[3]),([],[]),([5],[5]),([],[]),([6,7],[6,7]),([8],[8]),([4,9],[4,9]),([10],[10]),([11],[11]),([12,11],[11,12]),([11],[11]),([13,14,11],[11,13,14]),([15,11],[11,15]),([11],[11]),([11],[11]),([11],[11]),([19,11],[11,19]),([11],[11]),([11],[11]),([22,11],[11,22]),([21,23,11],[11,21,23]),([20,24,11],[11,20,24]),([11],[11]),([26,11],[11,26]),([11],[11]),([11],[11]),([29,11],[11,29]),([28,30,11],[11,28,30]),([27,31,11],[11,27,31]),([17,18,25,32,11,11],[11,17,18,25,32]),([16,33,11],[11,16,33]),([11,34],[11,34])])
def imageeditorlaw27_DabTips.B8:List Nat:=[0,1,0,7,15,0,32,0,224,480,1023,2047,4095,8191,4095,32767,65535,4095,4095,4095,528383,4095,4095,4198399,14684159,33034239,4095,67112959,4095,4095,536875007,1879052287,4227862527,8589807615,17179869183,34359738367]
theorem imageeditorlaw27_DabTips.tab8:rtab .any (opsOf Try.f4 8)=imageeditorlaw27_DabTips.T8:=by kernel_rfl
theorem imageeditorlaw27_DabTips.bits8:waitsOk imageeditorlaw27_DabTips.T8.2 imageeditorlaw27_DabTips.B8=true:=by kernel_rfl
set_option maxHeartbeats 8000000 in
set_option maxRecDepth 100000 in
theorem imageeditorlaw27_DabTips.calls (k:Nat) (a0_0:Int) (a0_1:Int) (a0_2:Int) (a0_3:Int) (a0_4:Int) (a0_5:Int) (a0_6:Int) (a0_7:Int) (a0_8:Int) (a0_9:Int) (a0_10:Int) (a0_11:Int) (a0_12:Int) (a0_13:Int) (A0_14:Option Addr) (c0_14:Nat) (l0_14:List (S120)) (a0_15:Bool) (a1_0:Int) (a1_1:Int) (a1_2:Int) (a1_3:Int) (a1_4:Int) (a2_0:Int) (a2_1:Int) (a2_2:Int) (a2_3:Int) (r:Bool) (w:World) (hr0_14:Kd.C k120 w A0_14 l0_14.length l0_14) (hc0_14:l0_14.length≤c0_14) (h:imageeditorlaw27_DabTips.f k a0_0 a0_1 a0_2 a0_3 a0_4 a0_5 a0_6 a0_7 a0_8 a0_9 a0_10 a0_11 a0_12 a0_13 l0_14 a0_15 a1_0 a1_1 a1_2 a1_3 a1_4 a2_0 a2_1 a2_2 a2_3=some r) :
 Calls Try.prog 4 #[.agg #[.int .i64 a0_0,.int .i64 a0_1,.int .i64 a0_2,.int .i64 a0_3,.int .i64 a0_4,.int .i64 a0_5,.int .i64 a0_6,.int .i64 a0_7,.int .i64 a0_8,.int .i64 a0_9,.int .i64 a0_10,.int .i64 a0_11,.int .i64 a0_12,.int .i64 a0_13,.slice A0_14 l0_14.length c0_14,.bool a0_15],.agg #[.int .i64 a1_0,.int .i64 a1_1,.int .i64 a1_2,.int .i64 a1_3,.int .i64 a1_4],.agg #[.int .i64 a2_0,.int .i64 a2_1,.int .i64 a2_2,.int .i64 a2_3]] w fun e w'=>e = .returned (.bool r)∧Below w.heap.size w w':=by
 have hu26:=Try.underlying26
 have hu28:=Try.underlying28
 have hu32:=Try.underlying32
 have hu38:=Try.underlying38
 have HR0_14:=Aside0.mk hr0_14
 have HC0_14:=Aside0.mk hc0_14
 clear hr0_14 hc0_14
 have HB:=Aside0.mk (Below.refl w.heap.size w)
 have H:((zax.f k a0_0 a0_1 a0_2 a0_3 a0_4 a0_5 a0_6 a0_7 a0_8 a0_9 a0_10 a0_11 a0_12 a0_13 l0_14 a0_15 a1_0 a1_1 a1_2 a1_3 a1_4 a2_0 a2_1 a2_2 a2_3).bind fun bt207=>((zaj.f k a0_0 a0_1 a0_2 a0_3 a0_4 a0_5 a0_6 a0_7 a0_8 a0_9 a0_10 a0_11 a0_12 a0_13 l0_14 a0_15 a1_0 a1_1 a1_2 a1_3 a1_4 a2_0 a2_1 a2_2 a2_3).bind fun bt214=>(if bt207.2.2.2=bt214.2.2.2 then (if bt207.1=bt214.1 then (if bt207.2.1=bt214.2.1 then (if (bt207.2.2.1.length:Int)=(bt214.2.2.1.length:Int) then (imageeditorlaw27_DabTips.l0 k (bt207.2.2.1.length:Int) 0 a0_0 a0_1 a0_2 a0_3 a0_4 a0_5 a0_6 a0_7 a0_8 a0_9 a0_10 a0_11 a0_12 a0_13 l0_14 a0_15 a1_0 a1_1 a1_2 a1_3 a1_4 a2_0 a2_1 a2_2 a2_3 bt207.1 bt207.2.1 bt207.2.2.1 bt214.1 bt214.2.1 bt214.2.2.1) else (none)) else (none)) else (none)) else (none))))=some r:=h
 clear h
 replace H:=Option.bind_eq_some_iff.mp H
 obtain ⟨⟨t207,t208,t209,t212⟩,A40,H⟩:=H
 replace H:((zaj.f k a0_0 a0_1 a0_2 a0_3 a0_4 a0_5 a0_6 a0_7 a0_8 a0_9 a0_10 a0_11 a0_12 a0_13 l0_14 a0_15 a1_0 a1_1 a1_2 a1_3 a1_4 a2_0 a2_1 a2_2 a2_3).bind fun bt214=>(if t212=bt214.2.2.2 then (if t207=bt214.1 then (if t208=bt214.2.1 then (if (t209.length:Int)=(bt214.2.2.1.length:Int) then (imageeditorlaw27_DabTips.l0 k (t209.length:Int) 0 a0_0 a0_1 a0_2 a0_3 a0_4 a0_5 a0_6 a0_7 a0_8 a0_9 a0_10 a0_11 a0_12 a0_13 l0_14 a0_15 a1_0 a1_1 a1_2 a1_3 a1_4 a2_0 a2_1 a2_2 a2_3 t207 t208 t209 bt214.1 bt214.2.1 bt214.2.2.1) else (none)) else (none)) else (none)) else (none)))=some r:=H
 have A4:=Aside0.mk A40
 clear A40
 replace H:=Option.bind_eq_some_iff.mp H
 obtain ⟨⟨t214,t215,t216,t219⟩,A50,H⟩:=H
 replace H:(if t212=t219 then (if t207=t214 then (if t208=t215 then (if (t209.length:Int)=(t216.length:Int) then (imageeditorlaw27_DabTips.l0 k (t209.length:Int) 0 a0_0 a0_1 a0_2 a0_3 a0_4 a0_5 a0_6 a0_7 a0_8 a0_9 a0_10 a0_11 a0_12 a0_13 l0_14 a0_15 a1_0 a1_1 a1_2 a1_3 a1_4 a2_0 a2_1 a2_2 a2_3 t207 t208 t209 t214 t215 t216) else (none)) else (none)) else (none)) else (none))=some r:=H
 have A5:=Aside0.mk A50
 clear A50
 by_cases c6:t212=t219
 ·rw [if_pos c6] at H
  have c6b0:(t212==t219)=true:=beq_iff_eq.mpr c6
  have c6b1:(t212 != t219)=false:=bne_eq_false_iff_eq.mpr c6
  clear c6
  by_cases c7:t207=t214
  ·rw [if_pos c7] at H
   have c7b0:(t207==t214)=true:=beq_iff_eq.mpr c7
   have c7b1:(t207 != t214)=false:=bne_eq_false_iff_eq.mpr c7
   clear c7
   by_cases c8:t208=t215
   ·rw [if_pos c8] at H
    have c8b0:(t208==t215)=true:=beq_iff_eq.mpr c8
    have c8b1:(t208 != t215)=false:=bne_eq_false_iff_eq.mpr c8
    clear c8
    by_cases c9:(t209.length:Int)=(t216.length:Int)
    ·rw [if_pos c9] at H
     have c9b0:((t209.length:Int)==(t216.length:Int))=true:=beq_iff_eq.mpr c9
     have c9b1:((t209.length:Int) != (t216.length:Int))=false:=bne_eq_false_iff_eq.mpr c9
     have c9b2:(t209.length==t216.length)=true:=by first|simpa using c9|(simp at c9 ⊢;omega)
     clear c9
     have H':=Aside0.mk H
     clear H
     go_enter Try.func4,Try.ntmps4
     go_wp2_with (first|((with_reducible refine zaA (N:=3) rfl ?_);(try (refine zaN (by rfl) ?_;dsimp only));refine zav ?hg (N:=3) ?hd (cs:=#[.int .i64 a0_0,.int .i64 a0_1,.int .i64 a0_2,.int .i64 a0_3,.int .i64 a0_4,.int .i64 a0_5,.int .i64 a0_6,.int .i64 a0_7,.int .i64 a0_8,.int .i64 a0_9,.int .i64 a0_10,.int .i64 a0_11,.int .i64 a0_12,.int .i64 a0_13,.slice A0_14 l0_14.length c0_14,.bool a0_15]) (t:=26) ?hr ?_;(case hd=>rfl);(case hg=>rfl);(case hr=>first|(go_simp;done)|(go_simp;rfl));intro gb204 hg w10 hbox hb;have n0_:=Aside0.mk (zad (zL HB.out) hb);have n1_:=Aside0.mk (hbox);have n2_:=Aside0.mk ((zS hg (zL HB.out):w.heap.size≤gb204));have n3_:=Aside0.mk ((zS hg (zL HB.out):w.heap.size≤gb204));clear HB;have HB:=n0_;have BK204:=n1_;have GW204:=n2_;have GE204:=n3_;clear n0_ n1_ n2_ n3_;clear hb hbox hg)|((with_reducible refine zaA (N:=4) rfl ?_);(try (refine zaN (by rfl) ?_;dsimp only));refine zav ?hg (N:=4) ?hd (cs:=#[.int .i64 a1_0,.int .i64 a1_1,.int .i64 a1_2,.int .i64 a1_3,.int .i64 a1_4]) (t:=28) ?hr ?_;(case hd=>rfl);(case hg=>rfl);(case hr=>first|(go_simp;done)|(go_simp;rfl));intro gb205 hg w11 hbox hb;have n0_:=Aside0.mk (zaa (zB BK204.out) hb);have n1_:=Aside0.mk (zad (zL1 HB.out GE204.out) hb);have n2_:=Aside0.mk (hbox);have n3_:=Aside0.mk ((zS hg (zL1 HB.out GE204.out):w.heap.size≤gb205));have n4_:=Aside0.mk ((zS hg (zL1 HB.out GE204.out):w.heap.size≤gb205));have n5_:=Aside0.mk ((by rw [hg];exact Nat.ne_of_lt (zao (zB BK204.out)):gb204≠gb205));have n6_:=Aside0.mk ((by rw [hg];exact Nat.ne_of_gt (zao (zB BK204.out)):gb205≠gb204));clear BK204;clear HB;have BK204:=n0_;have HB:=n1_;have BK205:=n2_;have GW205:=n3_;have GE205:=n4_;have NB204_205:=n5_;have NB205_204:=n6_;clear n0_ n1_ n2_ n3_ n4_ n5_ n6_;clear hb hbox hg)|((with_reducible refine zaA (N:=5) rfl ?_);(try (refine zaN (by rfl) ?_;dsimp only));refine zav ?hg (N:=5) ?hd (cs:=#[.int .i64 a2_0,.int .i64 a2_1,.int .i64 a2_2,.int .i64 a2_3]) (t:=32) ?hr ?_;(case hd=>rfl);(case hg=>rfl);(case hr=>first|(go_simp;done)|(go_simp;rfl));intro gb206 hg w12 hbox hb;have n0_:=Aside0.mk (zaa (zB BK204.out) hb);have n1_:=Aside0.mk (zaa (zB BK205.out) hb);have n2_:=Aside0.mk (zad (zL2 HB.out GE204.out GE205.out) hb);have n3_:=Aside0.mk (hbox);have n4_:=Aside0.mk ((zS hg (zL2 HB.out GE204.out GE205.out):w.heap.size≤gb206));have n5_:=Aside0.mk ((zS hg (zL2 HB.out GE204.out GE205.out):w.heap.size≤gb206));have n6_:=Aside0.mk ((by rw [hg];exact Nat.ne_of_lt (zao (zB BK204.out)):gb204≠gb206));have n7_:=Aside0.mk ((by rw [hg];exact Nat.ne_of_gt (zao (zB BK204.out)):gb206≠gb204));have n8_:=Aside0.mk ((by rw [hg];exact Nat.ne_of_lt (zao (zB BK205.out)):gb205≠gb206));have n9_:=Aside0.mk ((by rw [hg];exact Nat.ne_of_gt (zao (zB BK205.out)):gb206≠gb205));clear BK204;clear BK205;clear HB;have BK204:=n0_;have BK205:=n1_;have HB:=n2_;have BK206:=n3_;have GW206:=n4_;have GE206:=n5_;have NB204_206:=n6_;have NB206_204:=n7_;have NB205_206:=n8_;have NB206_205:=n9_;clear n0_ n1_ n2_ n3_ n4_ n5_ n6_ n7_ n8_ n9_;clear hb hbox hg;have hnb13:=NB204_205.out;have hnc13:=NB205_204.out;have hnb14:=NB204_206.out;have hnc14:=NB206_204.out;obtain ⟨hcz15_0,hcz15_1,hcz15_2,hcz15_3,hcz15_4,hcz15_5,hcz15_6,hcz15_7,hcz15_8,hcz15_9,hcz15_10,hcz15_11,hcz15_12,hcz15_13,hcz15_14,hcz15_15⟩:=zD16 BK204.out;obtain ⟨hfz15_0,hfz15_1,hfz15_2,hfz15_3,hfz15_4,hfz15_5,hfz15_6,hfz15_7,hfz15_8,hfz15_9,hfz15_10,hfz15_11,hfz15_12,hfz15_13,hfz15_14,hfz15_15⟩:=zE16 BK204.out;have hnb16:=NB205_206.out;have hnc16:=NB206_205.out;obtain ⟨hcz17_0,hcz17_1,hcz17_2,hcz17_3,hcz17_4⟩:=zD5 BK205.out;obtain ⟨hfz17_0,hfz17_1,hfz17_2,hfz17_3,hfz17_4⟩:=zE5 BK205.out;obtain ⟨hcz18_0,hcz18_1,hcz18_2,hcz18_3⟩:=zD4 BK206.out;obtain ⟨hfz18_0,hfz18_1,hfz18_2,hfz18_3⟩:=zE4 BK206.out)|((with_reducible refine zal (f:=19) rfl ?_);refine goesL_ (some 16) rfl rfl Try.func19 (by kernel_rfl) rfl #[.agg #[.int .i64 a0_0,.int .i64 a0_1,.int .i64 a0_2,.int .i64 a0_3,.int .i64 a0_4,.int .i64 a0_5,.int .i64 a0_6,.int .i64 a0_7,.int .i64 a0_8,.int .i64 a0_9,.int .i64 a0_10,.int .i64 a0_11,.int .i64 a0_12,.int .i64 a0_13,.slice A0_14 l0_14.length c0_14,.bool a0_15],.agg #[.int .i64 a1_0,.int .i64 a1_1,.int .i64 a1_2,.int .i64 a1_3,.int .i64 a1_4],.agg #[.int .i64 a2_0,.int .i64 a2_1,.int .i64 a2_2,.int .i64 a2_3]] rfl zA ?_;(with_reducible refine (zax.calls k a0_0 a0_1 a0_2 a0_3 a0_4 a0_5 a0_6 a0_7 a0_8 a0_9 a0_10 a0_11 a0_12 a0_13 _ _ l0_14 a0_15 a1_0 a1_1 a1_2 a1_3 a1_4 a2_0 a2_1 a2_2 a2_3 t207 t208 t209 t212 _ ?side1 ?side2 A4.out).mono ?_);(case side1=>repeat (first|exact (Kd.C_below HR0_14.out HB.out)|(with_reducible refine Kd.C_alloc ?_ _)|(with_reducible refine Kd.C_drewN ?_ _)|(with_reducible refine Kd.C_drew ?_)));(case side2=>exact HC0_14.out);rintro e w19 ⟨v210,rfl,ho0,hb⟩;refine ⟨_,rfl,?_⟩;have HO211:=Aside0.mk (Kd.R_lower ho0 (zbF (zL3 HB.out GE204.out GE205.out GE206.out)));replace BK204:=Aside0.mk (zaa (zB BK204.out) hb);replace BK205:=Aside0.mk (zaa (zB BK205.out) hb);replace BK206:=Aside0.mk (zaa (zB BK206.out) hb);replace HB:=Aside0.mk (zad (zL3 HB.out GE204.out GE205.out GE206.out) hb);(try clear hb);(try clear hb2);(try clear hk);(try clear hi);(try clear ho0))|((with_reducible refine zaA (N:=7) rfl ?_);(try (refine zaN (by rfl) ?_;dsimp only));refine zav ?hg (N:=7) ?hd (cs:=#[.int .i64 0,.int .i64 0,.slice none 0 0]) (t:=38) ?hr ?_;(case hd=>rfl);(case hg=>rfl);(case hr=>first|(go_simp;done)|(go_simp;rfl));intro gb213 hg w20 hbox hb;have n0_:=Aside0.mk (Kd.R_below (by (with_reducible repeat (first|apply Kd.R_alloc|apply Kd.R_drewN|apply Kd.R_drew));exact HO211.out) hb);have n1_:=Aside0.mk (zaa (zB BK204.out) hb);have n2_:=Aside0.mk (zaa (zB BK205.out) hb);have n3_:=Aside0.mk (zaa (zB BK206.out) hb);have n4_:=Aside0.mk (zad (zL3 HB.out GE204.out GE205.out GE206.out) hb);have n5_:=Aside0.mk (hbox);have n6_:=Aside0.mk ((zS hg (zL3 HB.out GE204.out GE205.out GE206.out):w.heap.size≤gb213));have n7_:=Aside0.mk ((zS hg (zL3 HB.out GE204.out GE205.out GE206.out):w.heap.size≤gb213));have n8_:=Aside0.mk ((by rw [hg];exact Nat.ne_of_lt (zao (zB BK204.out)):gb204≠gb213));have n9_:=Aside0.mk ((by rw [hg];exact Nat.ne_of_gt (zao (zB BK204.out)):gb213≠gb204));have n10_:=Aside0.mk ((by rw [hg];exact Nat.ne_of_lt (zao (zB BK205.out)):gb205≠gb213));have n11_:=Aside0.mk ((by rw [hg];exact Nat.ne_of_gt (zao (zB BK205.out)):gb213≠gb205));have n12_:=Aside0.mk ((by rw [hg];exact Nat.ne_of_lt (zao (zB BK206.out)):gb206≠gb213));have n13_:=Aside0.mk ((by rw [hg];exact Nat.ne_of_gt (zao (zB BK206.out)):gb213≠gb206));clear HO211;clear BK204;clear BK205;clear BK206;clear HB;have HO211:=n0_;have BK204:=n1_;have BK205:=n2_;have BK206:=n3_;have HB:=n4_;have BK213:=n5_;have GW213:=n6_;have GE213:=n7_;have NB204_213:=n8_;have NB213_204:=n9_;have NB205_213:=n10_;have NB213_205:=n11_;have NB206_213:=n12_;have NB213_206:=n13_;clear n0_ n1_ n2_ n3_ n4_ n5_ n6_ n7_ n8_ n9_ n10_ n11_ n12_ n13_;clear hb hbox hg;have hnb21:=NB213_204.out;have hnc21:=NB204_213.out;have hnb22:=NB213_205.out;have hnc22:=NB205_213.out;have hnb23:=NB213_206.out;have hnc23:=NB206_213.out;obtain ⟨hcz24_0,hcz24_1,hcz24_2⟩:=zD3 BK213.out;obtain ⟨hfz24_0,hfz24_1,hfz24_2⟩:=zE3 BK213.out;obtain ⟨Ao25,co25,eo25⟩:=Kd.R_slice HO211.out;subst eo25;obtain ⟨hcz26_0,hcz26_1,hcz26_2,hcz26_3,hcz26_4,hcz26_5,hcz26_6,hcz26_7,hcz26_8,hcz26_9,hcz26_10,hcz26_11,hcz26_12,hcz26_13,hcz26_14,hcz26_15⟩:=zD16 BK204.out;obtain ⟨hfz26_0,hfz26_1,hfz26_2,hfz26_3,hfz26_4,hfz26_5,hfz26_6,hfz26_7,hfz26_8,hfz26_9,hfz26_10,hfz26_11,hfz26_12,hfz26_13,hfz26_14,hfz26_15⟩:=zE16 BK204.out;obtain ⟨hcz27_0,hcz27_1,hcz27_2,hcz27_3,hcz27_4⟩:=zD5 BK205.out;obtain ⟨hfz27_0,hfz27_1,hfz27_2,hfz27_3,hfz27_4⟩:=zE5 BK205.out;obtain ⟨hcz28_0,hcz28_1,hcz28_2,hcz28_3⟩:=zD4 BK206.out;obtain ⟨hfz28_0,hfz28_1,hfz28_2,hfz28_3⟩:=zE4 BK206.out)|((with_reducible refine zal (f:=20) rfl ?_);refine goesL_ (some 23) rfl rfl Try.func20 (by kernel_rfl) rfl #[.agg #[.int .i64 a0_0,.int .i64 a0_1,.int .i64 a0_2,.int .i64 a0_3,.int .i64 a0_4,.int .i64 a0_5,.int .i64 a0_6,.int .i64 a0_7,.int .i64 a0_8,.int .i64 a0_9,.int .i64 a0_10,.int .i64 a0_11,.int .i64 a0_12,.int .i64 a0_13,.slice A0_14 l0_14.length c0_14,.bool a0_15],.agg #[.int .i64 a1_0,.int .i64 a1_1,.int .i64 a1_2,.int .i64 a1_3,.int .i64 a1_4],.agg #[.int .i64 a2_0,.int .i64 a2_1,.int .i64 a2_2,.int .i64 a2_3]] rfl zA ?_;(with_reducible refine (zaj.calls k a0_0 a0_1 a0_2 a0_3 a0_4 a0_5 a0_6 a0_7 a0_8 a0_9 a0_10 a0_11 a0_12 a0_13 _ _ l0_14 a0_15 a1_0 a1_1 a1_2 a1_3 a1_4 a2_0 a2_1 a2_2 a2_3 t214 t215 t216 t219 _ ?side1 ?side2 A5.out).mono ?_);(case side1=>exact Kd.C_below HR0_14.out (zL4 HB.out GE204.out GE205.out GE206.out GE213.out));(case side2=>exact HC0_14.out);rintro e w29 ⟨v217,rfl,ho0,hb⟩;refine ⟨_,rfl,?_⟩;have n0_:=Aside0.mk (Kd.R_elder' (by (with_reducible repeat (first|apply Kd.R_alloc|apply Kd.R_drewN|apply Kd.R_drew));exact (Kd.R_mono (Kd.R_far (p:=⟨gb213,2,none⟩) (Kd.R_far (p:=⟨gb213,1,none⟩) (Kd.R_far (p:=⟨gb213,0,none⟩) (Kd.R_types HO211.out BK213.out (by decide)) (fun _ hk=>hk.2) (.int .i64 t207)) (fun _ hk=>hk.2) (.int .i64 t208)) (fun _ hk=>hk.2) (.slice Ao25 t209.length co25)) (fun _ h_=>h_.1))) (Kd.R_base ho0) hb);have n1_:=Aside0.mk (Kd.R_lower (Kd.R_new' ho0 (Kd.R_lt (by (with_reducible repeat (first|apply Kd.R_alloc|apply Kd.R_drewN|apply Kd.R_drew));exact (Kd.R_mono (Kd.R_far (p:=⟨gb213,2,none⟩) (Kd.R_far (p:=⟨gb213,1,none⟩) (Kd.R_far (p:=⟨gb213,0,none⟩) (Kd.R_types HO211.out BK213.out (by decide)) (fun _ hk=>hk.2) (.int .i64 t207)) (fun _ hk=>hk.2) (.int .i64 t208)) (fun _ hk=>hk.2) (.slice Ao25 t209.length co25)) (fun _ h_=>h_.1))))) (zbF (zL4 HB.out GE204.out GE205.out GE206.out GE213.out)));have n2_:=Aside0.mk (zaa (g:=gb204) (o:=.cells #[.int .i64 a0_0,.int .i64 a0_1,.int .i64 a0_2,.int .i64 a0_3,.int .i64 a0_4,.int .i64 a0_5,.int .i64 a0_6,.int .i64 a0_7,.int .i64 a0_8,.int .i64 a0_9,.int .i64 a0_10,.int .i64 a0_11,.int .i64 a0_12,.int .i64 a0_13,.slice A0_14 l0_14.length c0_14,.bool a0_15] 26 (0,0)) (by refine zB ?_;refine zab ?_ NB204_213.out _;refine zB ?_;refine zab ?_ NB204_213.out _;refine zB ?_;refine zab ?_ NB204_213.out _;refine zB ?_;exact BK204.out) hb);have n3_:=Aside0.mk (zaa (g:=gb205) (o:=.cells #[.int .i64 a1_0,.int .i64 a1_1,.int .i64 a1_2,.int .i64 a1_3,.int .i64 a1_4] 28 (0,0)) (by refine zB ?_;refine zab ?_ NB205_213.out _;refine zB ?_;refine zab ?_ NB205_213.out _;refine zB ?_;refine zab ?_ NB205_213.out _;refine zB ?_;exact BK205.out) hb);have n4_:=Aside0.mk (zaa (g:=gb206) (o:=.cells #[.int .i64 a2_0,.int .i64 a2_1,.int .i64 a2_2,.int .i64 a2_3] 32 (0,0)) (by refine zB ?_;refine zab ?_ NB206_213.out _;refine zB ?_;refine zab ?_ NB206_213.out _;refine zB ?_;refine zab ?_ NB206_213.out _;refine zB ?_;exact BK206.out) hb);have n5_:=Aside0.mk (zaa (g:=gb213) (o:=.cells #[.int .i64 t207,.int .i64 t208,.slice Ao25 t209.length co25] 38 (0,0)) (by refine zB ?_;refine zae (cs:=#[.int .i64 t207,.int .i64 t208,.slice none 0 0]) ?_ 2 _ rfl;refine zB ?_;refine zae (cs:=#[.int .i64 t207,.int .i64 0,.slice none 0 0]) ?_ 1 _ rfl;refine zB ?_;refine zae (cs:=#[.int .i64 0,.int .i64 0,.slice none 0 0]) ?_ 0 _ rfl;refine zB ?_;exact BK213.out) hb);have n6_:=Aside0.mk (zad (zL4 HB.out GE204.out GE205.out GE206.out GE213.out) hb);clear HO211;clear BK204;clear BK205;clear BK206;clear BK213;clear HB;have HO211:=n0_;have HO218:=n1_;have BK204:=n2_;have BK205:=n3_;have BK206:=n4_;have BK213:=n5_;have HB:=n6_;clear n0_ n1_ n2_ n3_ n4_ n5_ n6_;(try clear hb);(try clear hb2);(try clear hk);(try clear hi);(try clear ho0))|((with_reducible refine zaA (N:=9) rfl ?_);(try (refine zaN (by rfl) ?_;dsimp only));refine zav ?hg (N:=9) ?hd (cs:=#[.int .i64 0,.int .i64 0,.slice none 0 0]) (t:=38) ?hr ?_;(case hd=>rfl);(case hg=>rfl);(case hr=>first|(go_simp;done)|(go_simp;rfl));intro gb220 hg w30 hbox hb;have n0_:=Aside0.mk (Kd.R_below (by (with_reducible repeat (first|apply Kd.R_alloc|apply Kd.R_drewN|apply Kd.R_drew));exact HO211.out) hb);have n1_:=Aside0.mk (Kd.R_below (by (with_reducible repeat (first|apply Kd.R_alloc|apply Kd.R_drewN|apply Kd.R_drew));exact HO218.out) hb);have n2_:=Aside0.mk (zaa (zB BK204.out) hb);have n3_:=Aside0.mk (zaa (zB BK205.out) hb);have n4_:=Aside0.mk (zaa (zB BK206.out) hb);have n5_:=Aside0.mk (zaa (zB BK213.out) hb);have n6_:=Aside0.mk (zad (zL4 HB.out GE204.out GE205.out GE206.out GE213.out) hb);have n7_:=Aside0.mk (hbox);have n8_:=Aside0.mk ((zS hg (zL4 HB.out GE204.out GE205.out GE206.out GE213.out):w.heap.size≤gb220));have n9_:=Aside0.mk ((zS hg (zL4 HB.out GE204.out GE205.out GE206.out GE213.out):w.heap.size≤gb220));have n10_:=Aside0.mk ((by rw [hg];exact Nat.ne_of_lt (zao (zB BK204.out)):gb204≠gb220));have n11_:=Aside0.mk ((by rw [hg];exact Nat.ne_of_gt (zao (zB BK204.out)):gb220≠gb204));have n12_:=Aside0.mk ((by rw [hg];exact Nat.ne_of_lt (zao (zB BK205.out)):gb205≠gb220));have n13_:=Aside0.mk ((by rw [hg];exact Nat.ne_of_gt (zao (zB BK205.out)):gb220≠gb205));have n14_:=Aside0.mk ((by rw [hg];exact Nat.ne_of_lt (zao (zB BK206.out)):gb206≠gb220));have n15_:=Aside0.mk ((by rw [hg];exact Nat.ne_of_gt (zao (zB BK206.out)):gb220≠gb206));have n16_:=Aside0.mk ((by rw [hg];exact Nat.ne_of_lt (zao (zB BK213.out)):gb213≠gb220));have n17_:=Aside0.mk ((by rw [hg];exact Nat.ne_of_gt (zao (zB BK213.out)):gb220≠gb213));clear HO211;clear HO218;clear BK204;clear BK205;clear BK206;clear BK213;clear HB;have HO211:=n0_;have HO218:=n1_;have BK204:=n2_;have BK205:=n3_;have BK206:=n4_;have BK213:=n5_;have HB:=n6_;have BK220:=n7_;have GW220:=n8_;have GE220:=n9_;have NB204_220:=n10_;have NB220_204:=n11_;have NB205_220:=n12_;have NB220_205:=n13_;have NB206_220:=n14_;have NB220_206:=n15_;have NB213_220:=n16_;have NB220_213:=n17_;clear n0_ n1_ n2_ n3_ n4_ n5_ n6_ n7_ n8_ n9_ n10_ n11_ n12_ n13_ n14_ n15_ n16_ n17_;clear hb hbox hg;have hnb31:=NB220_204.out;have hnc31:=NB204_220.out;have hnb32:=NB220_205.out;have hnc32:=NB205_220.out;have hnb33:=NB220_206.out;have hnc33:=NB206_220.out;have hnb34:=NB220_213.out;have hnc34:=NB213_220.out;obtain ⟨hcz35_0,hcz35_1,hcz35_2⟩:=zD3 BK220.out;obtain ⟨hfz35_0,hfz35_1,hfz35_2⟩:=zE3 BK220.out;obtain ⟨Ao36,co36,eo36⟩:=Kd.R_slice HO218.out;subst eo36;obtain ⟨hcz37_0,hcz37_1,hcz37_2⟩:=zD3 BK213.out;obtain ⟨hfz37_0,hfz37_1,hfz37_2⟩:=zE3 BK213.out))
     go_loopg [55] k (fun kq v55 w'=>∃ (x55_1:Int),v55 = .int .i64 x55_1∧Aside0 (imageeditorlaw27_DabTips.l0 kq (t209.length:Int) x55_1 a0_0 a0_1 a0_2 a0_3 a0_4 a0_5 a0_6 a0_7 a0_8 a0_9 a0_10 a0_11 a0_12 a0_13 l0_14 a0_15 a1_0 a1_1 a1_2 a1_3 a1_4 a2_0 a2_1 a2_2 a2_3 t207 t208 t209 t214 t215 t216=some r)∧Aside0 (kq≤k)∧Aside0 (Kd.R (Kd.int .i64) 3 w' w.heap.size (fun k_=>some k_≠((.slice Ao36 t216.length co36):Value).ownBlock) (.slice Ao25 t209.length co25) t209)∧Aside0 (Kd.R (Kd.int .i64) 3 w' w.heap.size (fun k_=>some k_≠((.slice Ao25 t209.length co25):Value).ownBlock) (.slice Ao36 t216.length co36) t216)∧Aside0 (w'.heap[gb204]? = some (.cells #[.int .i64 a0_0,.int .i64 a0_1,.int .i64 a0_2,.int .i64 a0_3,.int .i64 a0_4,.int .i64 a0_5,.int .i64 a0_6,.int .i64 a0_7,.int .i64 a0_8,.int .i64 a0_9,.int .i64 a0_10,.int .i64 a0_11,.int .i64 a0_12,.int .i64 a0_13,(.slice A0_14 l0_14.length c0_14),.bool a0_15] 26 (0,0)))∧Aside0 (w'.heap[gb205]? = some (.cells #[.int .i64 a1_0,.int .i64 a1_1,.int .i64 a1_2,.int .i64 a1_3,.int .i64 a1_4] 28 (0,0)))∧Aside0 (w'.heap[gb206]? = some (.cells #[.int .i64 a2_0,.int .i64 a2_1,.int .i64 a2_2,.int .i64 a2_3] 32 (0,0)))∧Aside0 (w'.heap[gb213]? = some (.cells #[.int .i64 t207,.int .i64 t208,(.slice Ao25 t209.length co25)] 38 (0,0)))∧Aside0 (w'.heap[gb220]? = some (.cells #[.int .i64 t214,.int .i64 t215,(.slice Ao36 t216.length co36)] 38 (0,0)))∧Aside0 (Below w.heap.size w w'))
     case atStart=>exact ⟨(0),zF,H',⟨Nat.le_refl _⟩,⟨by (with_reducible repeat (first|apply Kd.R_alloc|apply Kd.R_drewN|apply Kd.R_drew));exact Kd.R_mono (Kd.R_far (p:=⟨gb220,2,none⟩) (Kd.R_far (p:=⟨gb220,1,none⟩) (Kd.R_far (p:=⟨gb220,0,none⟩) (Kd.R_types HO211.out BK220.out (by decide)) (fun _ hk=>hk.2) (.int .i64 t214)) (fun _ hk=>hk.2) (.int .i64 t215)) (fun _ hk=>hk.2) (.slice Ao36 t216.length co36)) (fun _ hk=>hk.1.2)⟩,⟨by (with_reducible repeat (first|apply Kd.R_alloc|apply Kd.R_drewN|apply Kd.R_drew));exact Kd.R_mono (Kd.R_far (p:=⟨gb220,2,none⟩) (Kd.R_far (p:=⟨gb220,1,none⟩) (Kd.R_far (p:=⟨gb220,0,none⟩) (Kd.R_types HO218.out BK220.out (by decide)) (fun _ hk=>hk.2) (.int .i64 t214)) (fun _ hk=>hk.2) (.int .i64 t215)) (fun _ hk=>hk.2) (.slice Ao36 t216.length co36)) (fun _ hk=>hk.1.2)⟩,⟨by refine zB ?_;refine zab ?_ NB204_220.out _;refine zB ?_;refine zab ?_ NB204_220.out _;refine zB ?_;refine zab ?_ NB204_220.out _;refine zB ?_;exact BK204.out⟩,⟨by refine zB ?_;refine zab ?_ NB205_220.out _;refine zB ?_;refine zab ?_ NB205_220.out _;refine zB ?_;refine zab ?_ NB205_220.out _;refine zB ?_;exact BK205.out⟩,⟨by refine zB ?_;refine zab ?_ NB206_220.out _;refine zB ?_;refine zab ?_ NB206_220.out _;refine zB ?_;refine zab ?_ NB206_220.out _;refine zB ?_;exact BK206.out⟩,⟨by refine zB ?_;refine zab ?_ NB213_220.out _;refine zB ?_;refine zab ?_ NB213_220.out _;refine zB ?_;refine zab ?_ NB213_220.out _;refine zB ?_;exact BK213.out⟩,⟨by refine zB ?_;refine zae (cs:=#[.int .i64 t214,.int .i64 t215,.slice none 0 0]) ?_ 2 _ rfl;refine zB ?_;refine zae (cs:=#[.int .i64 t214,.int .i64 0,.slice none 0 0]) ?_ 1 _ rfl;refine zB ?_;refine zae (cs:=#[.int .i64 0,.int .i64 0,.slice none 0 0]) ?_ 0 _ rfl;refine zB ?_;exact BK220.out⟩,⟨by repeat (first|(with_reducible first|exact HB.out|apply zai|apply zaf|apply zag|refine zac ?_ GE204.out|refine zac ?_ GE205.out|refine zac ?_ GE206.out|refine zac ?_ GE213.out|refine zac ?_ GE220.out)|exact HB.out)⟩⟩
     case round=>
      clear H'
      try clear c1
      try clear c2
      try clear p2
      try clear c3
      try clear c4
      try clear c6
      try clear c6b0
      try clear c6b1
      try clear c7
      try clear c7b0
      try clear c7b1
      try clear c8
      try clear c8b0
      try clear c8b1
      try clear c9
      try clear c9b0
      try clear c9b1
      try clear c9b2
      try clear c13
      try clear c14
      try clear c16
      try clear c19
      try clear c20
      try clear c21
      try clear c22
      try clear c23
      try clear c31
      try clear c32
      try clear c33
      try clear c34
      try clear hcz15_0 hcz15_1 hcz15_10 hcz15_11 hcz15_12 hcz15_13 hcz15_14 hcz15_15 hcz15_2 hcz15_3 hcz15_4 hcz15_5 hcz15_6 hcz15_7 hcz15_8 hcz15_9 hcz17_0 hcz17_1 hcz17_2 hcz17_3 hcz17_4 hcz18_0 hcz18_1 hcz18_2 hcz18_3 hcz24_0 hcz24_1 hcz24_2 hcz26_0 hcz26_1 hcz26_10 hcz26_11 hcz26_12 hcz26_13 hcz26_14 hcz26_15 hcz26_2 hcz26_3 hcz26_4 hcz26_5 hcz26_6 hcz26_7 hcz26_8 hcz26_9 hcz27_0 hcz27_1 hcz27_2 hcz27_3 hcz27_4 hcz28_0 hcz28_1 hcz28_2 hcz28_3 hcz35_0 hcz35_1 hcz35_2 hcz37_0 hcz37_1 hcz37_2 hfz15_0 hfz15_1 hfz15_10 hfz15_11 hfz15_12 hfz15_13 hfz15_14 hfz15_15 hfz15_2 hfz15_3 hfz15_4 hfz15_5 hfz15_6 hfz15_7 hfz15_8 hfz15_9 hfz17_0 hfz17_1 hfz17_2 hfz17_3 hfz17_4 hfz18_0 hfz18_1 hfz18_2 hfz18_3 hfz24_0 hfz24_1 hfz24_2 hfz26_0 hfz26_1 hfz26_10 hfz26_11 hfz26_12 hfz26_13 hfz26_14 hfz26_15 hfz26_2 hfz26_3 hfz26_4 hfz26_5 hfz26_6 hfz26_7 hfz26_8 hfz26_9 hfz27_0 hfz27_1 hfz27_2 hfz27_3 hfz27_4 hfz28_0 hfz28_1 hfz28_2 hfz28_3 hfz35_0 hfz35_1 hfz35_2 hfz37_0 hfz37_1 hfz37_2
      obtain ⟨x55_1,rfl,HA,HK1,HO_214002,HO_221002,BK204,BK205,BK206,BK213,BK220,HB⟩:=hrel
      cases gk with
      | zero=>exact absurd HA.out (by simp [imageeditorlaw27_DabTips.l0])
      | succ k1=>
       have H:=HA.out
       clear HA
       simp only [imageeditorlaw27_DabTips.l0] at H
       by_cases c38:x55_1<(t209.length:Int)
       ·rw [if_pos c38] at H
        have c38b0:decide (x55_1<(t209.length:Int))=true:=decide_eq_true c38
        clear c38
        by_cases c39:0≤x55_1
        ·rw [if_pos c39] at H
         have c39b0:decide (0≤x55_1)=true:=decide_eq_true c39
         clear c39
         by_cases c40:x55_1<(t209.length:Int)
         ·rw [if_pos c40] at H
          have c40b0:decide (x55_1<(t209.length:Int))=true:=decide_eq_true c40
          clear c40
          by_cases c41:x55_1<(t216.length:Int)
          ·rw [if_pos c41] at H
           have c41b0:decide (x55_1<(t216.length:Int))=true:=decide_eq_true c41
           clear c41
           by_cases c42:(rd t209 x55_1)=(rd t216 x55_1)
           ·rw [if_pos c42] at H
            have c42b0:((rd t209 x55_1)==(rd t216 x55_1))=true:=beq_iff_eq.mpr c42
            have c42b1:((rd t209 x55_1) != (rd t216 x55_1))=false:=bne_eq_false_iff_eq.mpr c42
            clear c42
            by_cases c43:a2_2=0
            ·rw [if_pos c43] at H
             exact absurd H (by simp)
            ·rw [if_neg c43] at H
             have c43b0:(a2_2==0)=false:=beq_eq_false_iff_ne.mpr c43
             have c43b1:(a2_2 != 0)=true:=bne_iff_ne.mpr c43
             replace H:=Option.bind_eq_some_iff.mp H
             obtain ⟨t224,A440,H⟩:=H
             replace H:(if (rd t209 x55_1)=t224 then (imageeditorlaw27_DabTips.l0 k1 (t209.length:Int) (wrap64 (x55_1+1)) a0_0 a0_1 a0_2 a0_3 a0_4 a0_5 a0_6 a0_7 a0_8 a0_9 a0_10 a0_11 a0_12 a0_13 l0_14 a0_15 a1_0 a1_1 a1_2 a1_3 a1_4 a2_0 a2_1 a2_2 a2_3 t207 t208 t209 t214 t215 t216) else (none))=some r:=H
             have A44:=Aside0.mk A440
             clear A440
             by_cases c45:(rd t209 x55_1)=t224
             ·rw [if_pos c45] at H
              have c45b0:((rd t209 x55_1)==t224)=true:=beq_iff_eq.mpr c45
              have c45b1:((rd t209 x55_1) != t224)=false:=bne_eq_false_iff_eq.mpr c45
              clear c45
              have H':=Aside0.mk H
              clear H
              try go_wp2
              replace HO_214002:=Aside0.mk (Kd.R_drew HO_214002.out)
              replace HO_221002:=Aside0.mk (Kd.R_drew HO_221002.out)
              replace BK204:=Aside0.mk (zaK BK204.out)
              replace BK205:=Aside0.mk (zaK BK205.out)
              replace BK206:=Aside0.mk (zaK BK206.out)
              replace BK213:=Aside0.mk (zaK BK213.out)
              replace BK220:=Aside0.mk (zaK BK220.out)
              replace HB:=Aside0.mk (zag HB.out)
              have p221:0≤(x55_1:Int):=of_decide_eq_true (by first|(with_reducible assumption)|assumption)
              have q221:x55_1<(t209.length:Int):=of_decide_eq_true (by first|(with_reducible assumption)|assumption)
              obtain ⟨ad221,e221,hx221_0⟩:=Kd.at_int (Kd.R_reads' HO_214002.out).2.2 x55_1 p221 q221
              cases e221
              replace p221:=eq_true p221
              replace q221:=eq_true q221
              have p222:0≤(x55_1:Int):=of_decide_eq_true (by first|(with_reducible assumption)|assumption)
              have q222:x55_1<(t216.length:Int):=of_decide_eq_true (by first|(with_reducible assumption)|assumption)
              obtain ⟨ad222,e222,hx222_0⟩:=Kd.at_int (Kd.R_reads' HO_221002.out).2.2 x55_1 p222 q222
              cases e222
              replace p222:=eq_true p222
              replace q222:=eq_true q222
              have p223:0≤(x55_1:Int):=of_decide_eq_true (by first|(with_reducible assumption)|assumption)
              have q223:x55_1<(t209.length:Int):=of_decide_eq_true (by first|(with_reducible assumption)|assumption)
              obtain ⟨ad223,e223,hx223_0⟩:=Kd.at_int (Kd.R_reads' HO_214002.out).2.2 x55_1 p223 q223
              obtain rfl:ad221=ad223:=(by injection e223)
              replace p223:=eq_true p223
              replace q223:=eq_true q223
              refine start_ (n:=36) (S:=fun w'=>w'.cell? ⟨gb213,0,none⟩=some (.int .i64 t207)∧w'.cell? ⟨gb213,1,none⟩=some (.int .i64 t208)∧w'.cell? ⟨gb213,2,none⟩=some (.slice (some ad221) t209.length co25)∧w'.cell? ⟨gb220,0,none⟩=some (.int .i64 t214)∧w'.cell? ⟨gb220,1,none⟩=some (.int .i64 t215)∧w'.cell? ⟨gb220,2,none⟩=some (.slice (some ad222) t216.length co36)∧w'.cell? ⟨gb204,0,none⟩=some (.int .i64 a0_0)∧w'.cell? ⟨gb204,1,none⟩=some (.int .i64 a0_1)∧w'.cell? ⟨gb204,2,none⟩=some (.int .i64 a0_2)∧w'.cell? ⟨gb204,3,none⟩=some (.int .i64 a0_3)∧w'.cell? ⟨gb204,4,none⟩=some (.int .i64 a0_4)∧w'.cell? ⟨gb204,5,none⟩=some (.int .i64 a0_5)∧w'.cell? ⟨gb204,6,none⟩=some (.int .i64 a0_6)∧w'.cell? ⟨gb204,7,none⟩=some (.int .i64 a0_7)∧w'.cell? ⟨gb204,8,none⟩=some (.int .i64 a0_8)∧w'.cell? ⟨gb204,9,none⟩=some (.int .i64 a0_9)∧w'.cell? ⟨gb204,10,none⟩=some (.int .i64 a0_10)∧w'.cell? ⟨gb204,11,none⟩=some (.int .i64 a0_11)∧w'.cell? ⟨gb204,12,none⟩=some (.int .i64 a0_12)∧w'.cell? ⟨gb204,13,none⟩=some (.int .i64 a0_13)∧w'.cell? ⟨gb204,14,none⟩=some (.slice A0_14 l0_14.length c0_14)∧w'.cell? ⟨gb204,15,none⟩=some (.bool a0_15)∧w'.cell? ⟨gb205,0,none⟩=some (.int .i64 a1_0)∧w'.cell? ⟨gb205,1,none⟩=some (.int .i64 a1_1)∧w'.cell? ⟨gb205,2,none⟩=some (.int .i64 a1_2)∧w'.cell? ⟨gb205,3,none⟩=some (.int .i64 a1_3)∧w'.cell? ⟨gb205,4,none⟩=some (.int .i64 a1_4)∧w'.cell? ⟨gb206,0,none⟩=some (.int .i64 a2_0)∧w'.cell? ⟨gb206,1,none⟩=some (.int .i64 a2_1)∧w'.cell? ⟨gb206,2,none⟩=some (.int .i64 a2_2)∧w'.cell? ⟨gb206,3,none⟩=some (.int .i64 a2_3)∧w'.cell? (ad221.add (x55_1).toNat)=some (.int .i64 (rd t209 x55_1))∧w'.cell? (ad222.add (x55_1).toNat)=some (.int .i64 (rd t216 x55_1))∧w'.cell? (ad221.add (x55_1).toNat)=some (.int .i64 (rd t209 x55_1))) (ds:=[]) #[false,false,false,false,false,false,false,false,false,false,false,false,false,false,false,false,false,false,false,false,false,false,false,false,false,false,false,false,false,false,false,false,false,false,false,false] (by kernel_rfl) rfl rfl ⟨zc BK213.out 0,zc BK213.out 1,zc BK213.out 2,zc BK220.out 0,zc BK220.out 1,zc BK220.out 2,zc BK204.out 0,zc BK204.out 1,zc BK204.out 2,zc BK204.out 3,zc BK204.out 4,zc BK204.out 5,zc BK204.out 6,zc BK204.out 7,zc BK204.out 8,zc BK204.out 9,zc BK204.out 10,zc BK204.out 11,zc BK204.out 12,zc BK204.out 13,zc BK204.out 14,zc BK204.out 15,zc BK205.out 0,zc BK205.out 1,zc BK205.out 2,zc BK205.out 3,zc BK205.out 4,zc BK206.out 0,zc BK206.out 1,zc BK206.out 2,zc BK206.out 3,hx221_0,hx222_0,hx223_0⟩ (fun hHeld=>?_);refine zbi imageeditorlaw27_DabTips.tab8 imageeditorlaw27_DabTips.bits8 (fun HT_ HW_=>?_)
              generalize wr.drew=w46 at HO_214002 HO_221002 BK204 BK205 BK206 BK213 BK220 HB hx221_0 hx222_0 hx223_0 hHeld ⊢
              refine pure_ (i:=0) (N:=some 58) (v:=?_) (a':=?_) #[true,false,false,false,false,false,false,false,false,false,false,false,false,false,false,false,false,false,false,false,false,false,false,false,false,false,false,false,false,false,false,false,false,false,false,false] rfl rfl (zap HT_.out (by kernel_rfl)) (fun _ _ _ h=>h) (Or.inl ⟨by rfl,?_⟩) ?_ ?_
              rotate_left
              ·intro w'
               go_simp
               with_reducible rfl
              rotate_left
              ·exact zP
              refine pure_ (i:=2) (N:=some 60) (v:=?_) (a':=?_) #[true,false,true,false,false,false,false,false,false,false,false,false,false,false,false,false,false,false,false,false,false,false,false,false,false,false,false,false,false,false,false,false,false,false,false,false] rfl rfl (zap HT_.out (by kernel_rfl)) (fun _ _ _ h=>h) (Or.inl ⟨by rfl,?_⟩) ?_ ?_
              rotate_left
              ·intro w'
               go_simp
               with_reducible rfl
              rotate_left
              ·exact zP
              refine pure_ (i:=5) (N:=some 63) (v:=?_) (a':=?_) #[true,false,true,false,false,true,false,false,false,false,false,false,false,false,false,false,false,false,false,false,false,false,false,false,false,false,false,false,false,false,false,false,false,false,false,false] rfl rfl (zap HT_.out (by kernel_rfl)) (fun _ _ _ h=>h) (Or.inl ⟨by rfl,?_⟩) ?_ ?_
              rotate_left
              ·intro w'
               go_simp
               with_reducible rfl
              rotate_left
              ·exact zP
              refine pure_ (i:=7) (N:=some 65) (v:=?_) (a':=?_) #[true,false,true,false,false,true,false,true,false,false,false,false,false,false,false,false,false,false,false,false,false,false,false,false,false,false,false,false,false,false,false,false,false,false,false,false] rfl rfl (zap HT_.out (by kernel_rfl)) (fun _ _ _ h=>h) (Or.inl ⟨by rfl,?_⟩) ?_ ?_
              rotate_left
              ·intro w'
               go_simp
               with_reducible rfl
              rotate_left
              ·exact zP
              refine take_ (i:=1) (N:=some 59) (v:=?_) (a':=?_) #[true,true,true,false,false,true,false,true,false,false,false,false,false,false,false,false,false,false,false,false,false,false,false,false,false,false,false,false,false,false,false,false,false,false,false,false] rfl rfl (zaL HT_.out HW_.out (by kernel_rfl)) (fun _ _ _ h=>h) (Or.inl ⟨by rfl,?_⟩) hHeld ?_ ?_
              rotate_left
              ·rintro w' ⟨s0,s1,s2,s3,s4,s5,s6,s7,s8,s9,s10,s11,s12,s13,s14,s15,s16,s17,s18,s19,s20,s21,s22,s23,s24,s25,s26,s27,s28,s29,s30,s31,s32,s33⟩
               go_simp
               with_reducible rfl
              rotate_left
              ·exact zP
              refine pure_ (i:=3) (N:=some 61) (v:=?_) (a':=?_) #[true,true,true,true,false,true,false,true,false,false,false,false,false,false,false,false,false,false,false,false,false,false,false,false,false,false,false,false,false,false,false,false,false,false,false,false] rfl rfl (zap HT_.out (by kernel_rfl)) (fun _ _ _ h=>h) (Or.inl ⟨by rfl,?_⟩) ?_ ?_
              rotate_left
              ·intro w'
               go_simp
               with_reducible rfl
              rotate_left
              ·exact zP
              refine take_ (i:=4) (N:=some 62) (v:=?_) (a':=?_) #[true,true,true,true,true,true,false,true,false,false,false,false,false,false,false,false,false,false,false,false,false,false,false,false,false,false,false,false,false,false,false,false,false,false,false,false] rfl rfl (zaL HT_.out HW_.out (by kernel_rfl)) (fun _ _ _ h=>h) (Or.inl ⟨by rfl,?_⟩) hHeld ?_ ?_
              rotate_left
              ·rintro w' ⟨s0,s1,s2,s3,s4,s5,s6,s7,s8,s9,s10,s11,s12,s13,s14,s15,s16,s17,s18,s19,s20,s21,s22,s23,s24,s25,s26,s27,s28,s29,s30,s31,s32,s33⟩
               go_simp
               with_reducible rfl
              rotate_left
              ·exact zP
              refine take_ (i:=6) (N:=some 64) (v:=?_) (a':=?_) #[true,true,true,true,true,true,true,true,false,false,false,false,false,false,false,false,false,false,false,false,false,false,false,false,false,false,false,false,false,false,false,false,false,false,false,false] rfl rfl (zaL HT_.out HW_.out (by kernel_rfl)) (fun _ _ _ h=>h) (Or.inl ⟨by rfl,?_⟩) hHeld ?_ ?_
              rotate_left
              ·rintro w' ⟨s0,s1,s2,s3,s4,s5,s6,s7,s8,s9,s10,s11,s12,s13,s14,s15,s16,s17,s18,s19,s20,s21,s22,s23,s24,s25,s26,s27,s28,s29,s30,s31,s32,s33⟩
               go_simp
               with_reducible rfl
              rotate_left
              ·exact zP
              refine pure_ (i:=8) (N:=some 66) (v:=?_) (a':=?_) #[true,true,true,true,true,true,true,true,true,false,false,false,false,false,false,false,false,false,false,false,false,false,false,false,false,false,false,false,false,false,false,false,false,false,false,false] rfl rfl (zap HT_.out (by kernel_rfl)) (fun _ _ _ h=>h) (Or.inl ⟨by rfl,?_⟩) ?_ ?_
              rotate_left
              ·intro w'
               go_simp
               with_reducible rfl
              rotate_left
              ·exact zP
              refine take_ (i:=9) (N:=some 67) (v:=?_) (a':=?_) #[true,true,true,true,true,true,true,true,true,true,false,false,false,false,false,false,false,false,false,false,false,false,false,false,false,false,false,false,false,false,false,false,false,false,false,false] rfl rfl (zaL HT_.out HW_.out (by kernel_rfl)) (fun _ _ _ h=>h) (Or.inl ⟨by rfl,?_⟩) hHeld ?_ ?_
              rotate_left
              ·rintro w' ⟨s0,s1,s2,s3,s4,s5,s6,s7,s8,s9,s10,s11,s12,s13,s14,s15,s16,s17,s18,s19,s20,s21,s22,s23,s24,s25,s26,s27,s28,s29,s30,s31,s32,s33⟩
               go_simp
               with_reducible rfl
              rotate_left
              ·exact zP
              refine pure_ (i:=10) (N:=some 68) (v:=?_) (a':=?_) #[true,true,true,true,true,true,true,true,true,true,true,false,false,false,false,false,false,false,false,false,false,false,false,false,false,false,false,false,false,false,false,false,false,false,false,false] rfl rfl (zap HT_.out (by kernel_rfl)) (fun _ _ _ h=>h) (Or.inl ⟨by rfl,?_⟩) ?_ ?_
              rotate_left
              ·intro w'
               go_simp
               with_reducible rfl
              rotate_left
              ·exact zP
              refine pure_ (i:=11) (N:=some 69) (v:=?_) (a':=?_) #[true,true,true,true,true,true,true,true,true,true,true,true,false,false,false,false,false,false,false,false,false,false,false,false,false,false,false,false,false,false,false,false,false,false,false,false] rfl rfl (zap HT_.out (by kernel_rfl)) (fun _ _ _ h=>h) (Or.inl ⟨by rfl,?_⟩) ?_ ?_
              rotate_left
              ·intro w'
               go_simp
               with_reducible rfl
              rotate_left
              ·exact zP
              refine pure_ (i:=12) (N:=some 70) (v:=?_) (a':=?_) #[true,true,true,true,true,true,true,true,true,true,true,true,true,false,false,false,false,false,false,false,false,false,false,false,false,false,false,false,false,false,false,false,false,false,false,false] rfl rfl (zap HT_.out (by kernel_rfl)) (fun _ _ _ h=>h) (Or.inl ⟨by rfl,?_⟩) ?_ ?_
              rotate_left
              ·intro w'
               go_simp
               with_reducible rfl
              rotate_left
              ·exact zP
              refine pure_ (i:=14) (N:=some 72) (v:=?_) (a':=?_) #[true,true,true,true,true,true,true,true,true,true,true,true,true,false,true,false,false,false,false,false,false,false,false,false,false,false,false,false,false,false,false,false,false,false,false,false] rfl rfl (zap HT_.out (by kernel_rfl)) (fun _ _ _ h=>h) (Or.inl ⟨by rfl,?_⟩) ?_ ?_
              rotate_left
              ·intro w'
               go_simp
               with_reducible rfl
              rotate_left
              ·exact zP
              refine pure_ (i:=19) (N:=some 77) (v:=?_) (a':=?_) #[true,true,true,true,true,true,true,true,true,true,true,true,true,false,true,false,false,false,false,true,false,false,false,false,false,false,false,false,false,false,false,false,false,false,false,false] rfl rfl (zap HT_.out (by kernel_rfl)) (fun _ _ _ h=>h) (Or.inl ⟨by rfl,?_⟩) ?_ ?_
              rotate_left
              ·intro w'
               go_simp
               with_reducible rfl
              rotate_left
              ·exact zP
              refine pure_ (i:=21) (N:=some 79) (v:=?_) (a':=?_) #[true,true,true,true,true,true,true,true,true,true,true,true,true,false,true,false,false,false,false,true,false,true,false,false,false,false,false,false,false,false,false,false,false,false,false,false] rfl rfl (zap HT_.out (by kernel_rfl)) (fun _ _ _ h=>h) (Or.inl ⟨by rfl,?_⟩) ?_ ?_
              rotate_left
              ·intro w'
               go_simp
               with_reducible rfl
              rotate_left
              ·exact zP
              refine pure_ (i:=22) (N:=some 80) (v:=?_) (a':=?_) #[true,true,true,true,true,true,true,true,true,true,true,true,true,false,true,false,false,false,false,true,false,true,true,false,false,false,false,false,false,false,false,false,false,false,false,false] rfl rfl (zap HT_.out (by kernel_rfl)) (fun _ _ _ h=>h) (Or.inl ⟨by rfl,?_⟩) ?_ ?_
              rotate_left
              ·intro w'
               go_simp
               with_reducible rfl
              rotate_left
              ·exact zP
              refine pure_ (i:=26) (N:=some 84) (v:=?_) (a':=?_) #[true,true,true,true,true,true,true,true,true,true,true,true,true,false,true,false,false,false,false,true,false,true,true,false,false,false,true,false,false,false,false,false,false,false,false,false] rfl rfl (zap HT_.out (by kernel_rfl)) (fun _ _ _ h=>h) (Or.inl ⟨by rfl,?_⟩) ?_ ?_
              rotate_left
              ·intro w'
               go_simp
               with_reducible rfl
              rotate_left
              ·exact zP
              refine pure_ (i:=28) (N:=some 86) (v:=?_) (a':=?_) #[true,true,true,true,true,true,true,true,true,true,true,true,true,false,true,false,false,false,false,true,false,true,true,false,false,false,true,false,true,false,false,false,false,false,false,false] rfl rfl (zap HT_.out (by kernel_rfl)) (fun _ _ _ h=>h) (Or.inl ⟨by rfl,?_⟩) ?_ ?_
              rotate_left
              ·intro w'
               go_simp
               with_reducible rfl
              rotate_left
              ·exact zP
              refine pure_ (i:=29) (N:=some 87) (v:=?_) (a':=?_) #[true,true,true,true,true,true,true,true,true,true,true,true,true,false,true,false,false,false,false,true,false,true,true,false,false,false,true,false,true,true,false,false,false,false,false,false] rfl rfl (zap HT_.out (by kernel_rfl)) (fun _ _ _ h=>h) (Or.inl ⟨by rfl,?_⟩) ?_ ?_
              rotate_left
              ·intro w'
               go_simp
               with_reducible rfl
              rotate_left
              ·exact zP
              refine take_ (i:=13) (N:=some 71) (v:=?_) (a':=?_) #[true,true,true,true,true,true,true,true,true,true,true,true,true,true,true,false,false,false,false,true,false,true,true,false,false,false,true,false,true,true,false,false,false,false,false,false] rfl rfl (zaL HT_.out HW_.out (by kernel_rfl)) (fun _ _ _ h=>h) (Or.inl ⟨by rfl,?_⟩) hHeld ?_ ?_
              rotate_left
              ·rintro w' ⟨s0,s1,s2,s3,s4,s5,s6,s7,s8,s9,s10,s11,s12,s13,s14,s15,s16,s17,s18,s19,s20,s21,s22,s23,s24,s25,s26,s27,s28,s29,s30,s31,s32,s33⟩
               go_simp
               with_reducible rfl
              rotate_left
              ·exact zP
              refine pure_ (i:=15) (N:=some 73) (v:=?_) (a':=?_) #[true,true,true,true,true,true,true,true,true,true,true,true,true,true,true,true,false,false,false,true,false,true,true,false,false,false,true,false,true,true,false,false,false,false,false,false] rfl rfl (zap HT_.out (by kernel_rfl)) (fun _ _ _ h=>h) (Or.inl ⟨by rfl,?_⟩) ?_ ?_
              rotate_left
              ·intro w'
               go_simp
               with_reducible rfl
              rotate_left
              ·exact zP
              refine take_ (i:=16) (N:=some 74) (v:=?_) (a':=?_) #[true,true,true,true,true,true,true,true,true,true,true,true,true,true,true,true,true,false,false,true,false,true,true,false,false,false,true,false,true,true,false,false,false,false,false,false] rfl rfl (zaL HT_.out HW_.out (by kernel_rfl)) (fun _ _ _ h=>h) (Or.inl ⟨by rfl,?_⟩) hHeld ?_ ?_
              rotate_left
              ·rintro w' ⟨s0,s1,s2,s3,s4,s5,s6,s7,s8,s9,s10,s11,s12,s13,s14,s15,s16,s17,s18,s19,s20,s21,s22,s23,s24,s25,s26,s27,s28,s29,s30,s31,s32,s33⟩
               go_simp
               with_reducible rfl
              rotate_left
              ·exact zP
              refine take_ (i:=17) (N:=some 75) (v:=?_) (a':=?_) #[true,true,true,true,true,true,true,true,true,true,true,true,true,true,true,true,true,true,false,true,false,true,true,false,false,false,true,false,true,true,false,false,false,false,false,false] rfl rfl (zaL HT_.out HW_.out (by kernel_rfl)) (fun _ _ _ h=>h) (Or.inl ⟨by rfl,?_⟩) hHeld ?_ ?_
              rotate_left
              ·rintro w' ⟨s0,s1,s2,s3,s4,s5,s6,s7,s8,s9,s10,s11,s12,s13,s14,s15,s16,s17,s18,s19,s20,s21,s22,s23,s24,s25,s26,s27,s28,s29,s30,s31,s32,s33⟩
               go_simp
               with_reducible rfl
              rotate_left
              ·exact zP
              refine take_ (i:=18) (N:=some 76) (v:=?_) (a':=?_) #[true,true,true,true,true,true,true,true,true,true,true,true,true,true,true,true,true,true,true,true,false,true,true,false,false,false,true,false,true,true,false,false,false,false,false,false] rfl rfl (zaL HT_.out HW_.out (by kernel_rfl)) (fun _ _ _ h=>h) (Or.inl ⟨by rfl,?_⟩) hHeld ?_ ?_
              rotate_left
              ·rintro w' ⟨s0,s1,s2,s3,s4,s5,s6,s7,s8,s9,s10,s11,s12,s13,s14,s15,s16,s17,s18,s19,s20,s21,s22,s23,s24,s25,s26,s27,s28,s29,s30,s31,s32,s33⟩
               go_simp
               with_reducible rfl
              rotate_left
              ·exact zP
              refine take_ (i:=20) (N:=some 78) (v:=?_) (a':=?_) #[true,true,true,true,true,true,true,true,true,true,true,true,true,true,true,true,true,true,true,true,true,true,true,false,false,false,true,false,true,true,false,false,false,false,false,false] rfl rfl (zaL HT_.out HW_.out (by kernel_rfl)) (fun _ _ _ h=>h) (Or.inl ⟨by rfl,?_⟩) hHeld ?_ ?_
              rotate_left
              ·rintro w' ⟨s0,s1,s2,s3,s4,s5,s6,s7,s8,s9,s10,s11,s12,s13,s14,s15,s16,s17,s18,s19,s20,s21,s22,s23,s24,s25,s26,s27,s28,s29,s30,s31,s32,s33⟩
               go_simp
               with_reducible rfl
              rotate_left
              ·exact zP
              refine take_ (i:=23) (N:=some 81) (v:=?_) (a':=?_) #[true,true,true,true,true,true,true,true,true,true,true,true,true,true,true,true,true,true,true,true,true,true,true,true,false,false,true,false,true,true,false,false,false,false,false,false] rfl rfl (zaL HT_.out HW_.out (by kernel_rfl)) (fun _ _ _ h=>h) (Or.inl ⟨by rfl,?_⟩) hHeld ?_ ?_
              rotate_left
              ·rintro w' ⟨s0,s1,s2,s3,s4,s5,s6,s7,s8,s9,s10,s11,s12,s13,s14,s15,s16,s17,s18,s19,s20,s21,s22,s23,s24,s25,s26,s27,s28,s29,s30,s31,s32,s33⟩
               go_simp
               with_reducible rfl
              rotate_left
              ·exact zP
              refine pure_ (i:=24) (N:=some 82) (v:=?_) (a':=?_) #[true,true,true,true,true,true,true,true,true,true,true,true,true,true,true,true,true,true,true,true,true,true,true,true,true,false,true,false,true,true,false,false,false,false,false,false] rfl rfl (zap HT_.out (by kernel_rfl)) (fun _ _ _ h=>h) (Or.inl ⟨by rfl,?_⟩) ?_ ?_
              rotate_left
              ·intro w'
               go_simp
               with_reducible rfl
              rotate_left
              ·exact zP
              refine pure_ (i:=25) (N:=some 83) (v:=?_) (a':=?_) #[true,true,true,true,true,true,true,true,true,true,true,true,true,true,true,true,true,true,true,true,true,true,true,true,true,true,true,false,true,true,false,false,false,false,false,false] rfl rfl (zap HT_.out (by kernel_rfl)) (fun _ _ _ h=>h) (Or.inl ⟨by rfl,?_⟩) ?_ ?_
              rotate_left
              ·intro w'
               go_simp
               with_reducible rfl
              rotate_left
              ·exact zP
              refine take_ (i:=27) (N:=some 85) (v:=?_) (a':=?_) #[true,true,true,true,true,true,true,true,true,true,true,true,true,true,true,true,true,true,true,true,true,true,true,true,true,true,true,true,true,true,false,false,false,false,false,false] rfl rfl (zaL HT_.out HW_.out (by kernel_rfl)) (fun _ _ _ h=>h) (Or.inl ⟨by rfl,?_⟩) hHeld ?_ ?_
              rotate_left
              ·rintro w' ⟨s0,s1,s2,s3,s4,s5,s6,s7,s8,s9,s10,s11,s12,s13,s14,s15,s16,s17,s18,s19,s20,s21,s22,s23,s24,s25,s26,s27,s28,s29,s30,s31,s32,s33⟩
               go_simp
               with_reducible rfl
              rotate_left
              ·exact zP
              refine take_ (i:=30) (N:=some 88) (v:=?_) (a':=?_) #[true,true,true,true,true,true,true,true,true,true,true,true,true,true,true,true,true,true,true,true,true,true,true,true,true,true,true,true,true,true,true,false,false,false,false,false] rfl rfl (zaL HT_.out HW_.out (by kernel_rfl)) (fun _ _ _ h=>h) (Or.inl ⟨by rfl,?_⟩) hHeld ?_ ?_
              rotate_left
              ·rintro w' ⟨s0,s1,s2,s3,s4,s5,s6,s7,s8,s9,s10,s11,s12,s13,s14,s15,s16,s17,s18,s19,s20,s21,s22,s23,s24,s25,s26,s27,s28,s29,s30,s31,s32,s33⟩
               go_simp
               with_reducible rfl
              rotate_left
              ·exact zP
              refine pure_ (i:=31) (N:=some 89) (v:=?_) (a':=?_) #[true,true,true,true,true,true,true,true,true,true,true,true,true,true,true,true,true,true,true,true,true,true,true,true,true,true,true,true,true,true,true,true,false,false,false,false] rfl rfl (zap HT_.out (by kernel_rfl)) (fun _ _ _ h=>h) (Or.inl ⟨by rfl,?_⟩) ?_ ?_
              rotate_left
              ·intro w'
               go_simp
               with_reducible rfl
              rotate_left
              ·exact zP
              refine pure_ (i:=32) (N:=some 90) (v:=?_) (a':=?_) #[true,true,true,true,true,true,true,true,true,true,true,true,true,true,true,true,true,true,true,true,true,true,true,true,true,true,true,true,true,true,true,true,true,false,false,false] rfl rfl (zap HT_.out (by kernel_rfl)) (fun _ _ _ h=>h) (Or.inl ⟨by rfl,?_⟩) ?_ ?_
              rotate_left
              ·intro w'
               go_simp
               with_reducible rfl
              rotate_left
              ·exact zP
              refine one_ (i:=33) (N:=some 91) #[true,true,true,true,true,true,true,true,true,true,true,true,true,true,true,true,true,true,true,true,true,true,true,true,true,true,true,true,true,true,true,true,true,true,false,false] rfl rfl (zaR HT_.out (by kernel_rfl)) (by decide) (fun K hK=>?_)
              refine goes_ Try.func21 (by kernel_rfl) rfl #[.agg #[.int .i64 a0_0,.int .i64 a0_1,.int .i64 a0_2,.int .i64 a0_3,.int .i64 a0_4,.int .i64 a0_5,.int .i64 a0_6,.int .i64 a0_7,.int .i64 a0_8,.int .i64 a0_9,.int .i64 a0_10,.int .i64 a0_11,.int .i64 a0_12,.int .i64 a0_13,.slice A0_14 l0_14.length c0_14,.bool a0_15],.agg #[.int .i64 a1_0,.int .i64 a1_1,.int .i64 a1_2,.int .i64 a1_3,.int .i64 a1_4],.int .i64 (wrap64 (a2_0+(Int.tmod x55_1 a2_2))),.int .i64 (wrap64 (a2_1+(wrap64 (Int.tdiv x55_1 a2_2))))] (by rfl) rfl rfl zA ?_
              with_reducible refine (zaq.calls k1 a0_0 a0_1 a0_2 a0_3 a0_4 a0_5 a0_6 a0_7 a0_8 a0_9 a0_10 a0_11 a0_12 a0_13 _ _ l0_14 a0_15 a1_0 a1_1 a1_2 a1_3 a1_4 (wrap64 (a2_0+(Int.tmod x55_1 a2_2))) (wrap64 (a2_1+(wrap64 (Int.tdiv x55_1 a2_2)))) t224 _ ?side1 ?side2 A44.out).mono ?_
              (case side1=>repeat (first|exact (Kd.C_below HR0_14.out HB.out)|(with_reducible refine Kd.C_alloc ?_ _)|(with_reducible refine Kd.C_drewN ?_ _)|(with_reducible refine Kd.C_drew ?_)))
              (case side2=>exact HC0_14.out)
              rintro e w47 ⟨rfl,hb⟩
              have HS31_:=(hb.cell (World.block_lt_of_cell? _ _ (hHeld.2.2.2.2.2.2.2.2.2.2.2.2.2.2.2.2.2.2.2.2.2.2.2.2.2.2.2.2.2.2.2.1))).trans (hHeld.2.2.2.2.2.2.2.2.2.2.2.2.2.2.2.2.2.2.2.2.2.2.2.2.2.2.2.2.2.2.2.1)
              have HS32_:=(hb.cell (World.block_lt_of_cell? _ _ (hHeld.2.2.2.2.2.2.2.2.2.2.2.2.2.2.2.2.2.2.2.2.2.2.2.2.2.2.2.2.2.2.2.2.1))).trans (hHeld.2.2.2.2.2.2.2.2.2.2.2.2.2.2.2.2.2.2.2.2.2.2.2.2.2.2.2.2.2.2.2.2.1)
              have HS33_:=(hb.cell (World.block_lt_of_cell? _ _ (hHeld.2.2.2.2.2.2.2.2.2.2.2.2.2.2.2.2.2.2.2.2.2.2.2.2.2.2.2.2.2.2.2.2.2))).trans (hHeld.2.2.2.2.2.2.2.2.2.2.2.2.2.2.2.2.2.2.2.2.2.2.2.2.2.2.2.2.2.2.2.2.2)
              refine ⟨_,rfl,?_⟩
              have n0_:=Aside0.mk (Kd.R_below (by (with_reducible repeat (first|apply Kd.R_alloc|apply Kd.R_drewN|apply Kd.R_drew));exact HO_214002.out) hb)
              have n1_:=Aside0.mk (Kd.R_below (by (with_reducible repeat (first|apply Kd.R_alloc|apply Kd.R_drewN|apply Kd.R_drew));exact HO_221002.out) hb)
              have n2_:=Aside0.mk (zaa (zB BK204.out) hb)
              have n3_:=Aside0.mk (zaa (zB BK205.out) hb)
              have n4_:=Aside0.mk (zaa (zB BK206.out) hb)
              have n5_:=Aside0.mk (zaa (zB BK213.out) hb)
              have n6_:=Aside0.mk (zaa (zB BK220.out) hb)
              have n7_:=Aside0.mk (zad (zL5 HB.out GE204.out GE205.out GE206.out GE213.out GE220.out) hb)
              clear HO_214002
              clear HO_221002
              clear BK204
              clear BK205
              clear BK206
              clear BK213
              clear BK220
              clear HB
              have HO_214002:=n0_
              have HO_221002:=n1_
              have BK204:=n2_
              have BK205:=n3_
              have BK206:=n4_
              have BK213:=n5_
              have BK220:=n6_
              have HB:=n7_
              clear n0_ n1_ n2_ n3_ n4_ n5_ n6_ n7_
              (try clear hb)
              (try clear hb2)
              (try clear hk)
              (try clear hi)
              refine hK.out _ _ ⟨zc BK213.out 0,zc BK213.out 1,zc BK213.out 2,zc BK220.out 0,zc BK220.out 1,zc BK220.out 2,zc BK204.out 0,zc BK204.out 1,zc BK204.out 2,zc BK204.out 3,zc BK204.out 4,zc BK204.out 5,zc BK204.out 6,zc BK204.out 7,zc BK204.out 8,zc BK204.out 9,zc BK204.out 10,zc BK204.out 11,zc BK204.out 12,zc BK204.out 13,zc BK204.out 14,zc BK204.out 15,zc BK205.out 0,zc BK205.out 1,zc BK205.out 2,zc BK205.out 3,zc BK205.out 4,zc BK206.out 0,zc BK206.out 1,zc BK206.out 2,zc BK206.out 3,HS31_,HS32_,HS33_⟩ (fun hHeld=>?_)
              clear hK K
              refine norm_ (a':=?_) ?_ ?_
              rotate_left
              ·show Act.put _ (some 91) _=_
               exact zP
              refine pure_ (i:=34) (N:=some 92) (v:=?_) (a':=?_) #[true,true,true,true,true,true,true,true,true,true,true,true,true,true,true,true,true,true,true,true,true,true,true,true,true,true,true,true,true,true,true,true,true,true,true,false] rfl rfl (zap HT_.out (by kernel_rfl)) (fun _ _ _ h=>h) (Or.inl ⟨by rfl,?_⟩) ?_ ?_
              rotate_left
              ·intro w'
               go_simp
               with_reducible rfl
              rotate_left
              ·exact zP
              refine pure_ (i:=35) (N:=some 93) (v:=?_) (a':=?_) #[true,true,true,true,true,true,true,true,true,true,true,true,true,true,true,true,true,true,true,true,true,true,true,true,true,true,true,true,true,true,true,true,true,true,true,true] rfl rfl (zap HT_.out (by kernel_rfl)) (fun _ _ _ h=>h) (Or.inl ⟨by rfl,?_⟩) ?_ ?_
              rotate_left
              ·intro w'
               go_simp
               with_reducible rfl
              rotate_left
              ·exact zP
              refine done_ (zbr HT_.out (by kernel_rfl)) ?_
              try go_wp2
              go_roundg k1
              case measure=>have:=HK1.out;omega
              case rel=>exact ⟨(wrap64 (x55_1+1)),zF,H',⟨by have:=HK1.out;omega⟩,⟨by (with_reducible repeat (first|apply Kd.R_alloc|apply Kd.R_drewN|apply Kd.R_drew));exact HO_214002.out⟩,⟨by (with_reducible repeat (first|apply Kd.R_alloc|apply Kd.R_drewN|apply Kd.R_drew));exact HO_221002.out⟩,⟨by refine zB ?_;exact BK204.out⟩,⟨by refine zB ?_;exact BK205.out⟩,⟨by refine zB ?_;exact BK206.out⟩,⟨by refine zB ?_;exact BK213.out⟩,⟨by refine zB ?_;exact BK220.out⟩,⟨by repeat (first|(with_reducible first|exact HB.out|apply zai|apply zaf|apply zag|refine zac ?_ GE204.out|refine zac ?_ GE205.out|refine zac ?_ GE206.out|refine zac ?_ GE213.out|refine zac ?_ GE220.out)|exact HB.out)⟩⟩
             ·rw [if_neg c45] at H
              exact absurd H (by simp)
           ·rw [if_neg c42] at H
            have c42b0:((rd t209 x55_1)==(rd t216 x55_1))=false:=beq_eq_false_iff_ne.mpr c42
            have c42b1:((rd t209 x55_1) != (rd t216 x55_1))=true:=bne_iff_ne.mpr c42
            exact absurd H (by simp)
          ·rw [if_neg c41] at H
           exact absurd H (by simp)
         ·rw [if_neg c40] at H
          exact absurd H (by simp)
        ·rw [if_neg c39] at H
         exact absurd H (by simp)
       ·rw [if_neg c38] at H
        have c38b0:decide (x55_1<(t209.length:Int))=false:=decide_eq_false c38
        clear c38
        replace H:=Option.bind_eq_some_iff.mp H
        obtain ⟨t225,A480,H⟩:=H
        replace H:(some t225)=some r:=H
        have A48:=Aside0.mk A480
        clear A480
        obtain rfl:=Option.some.inj H
        go_wp2_with (first|((with_reducible refine zal (f:=18) rfl ?_);refine goesL_ (some 95) rfl rfl Try.func18 (by kernel_rfl) rfl #[] rfl zA ?_;(with_reducible refine (za8.calls k1  t225 _ A48.out).mono ?_);rintro e w49 ⟨rfl,hb⟩;refine ⟨_,rfl,?_⟩;have n0_:=Aside0.mk (Kd.R_below (by (with_reducible repeat (first|apply Kd.R_alloc|apply Kd.R_drewN|apply Kd.R_drew));exact HO_214002.out) hb);have n1_:=Aside0.mk (Kd.R_below (by (with_reducible repeat (first|apply Kd.R_alloc|apply Kd.R_drewN|apply Kd.R_drew));exact HO_221002.out) hb);have n2_:=Aside0.mk (zaa (zB BK204.out) hb);have n3_:=Aside0.mk (zaa (zB BK205.out) hb);have n4_:=Aside0.mk (zaa (zB BK206.out) hb);have n5_:=Aside0.mk (zaa (zB BK213.out) hb);have n6_:=Aside0.mk (zaa (zB BK220.out) hb);have n7_:=Aside0.mk (zad (zL5 HB.out GE204.out GE205.out GE206.out GE213.out GE220.out) hb);clear HO_214002;clear HO_221002;clear BK204;clear BK205;clear BK206;clear BK213;clear BK220;clear HB;have HO_214002:=n0_;have HO_221002:=n1_;have BK204:=n2_;have BK205:=n3_;have BK206:=n4_;have BK213:=n5_;have BK220:=n6_;have HB:=n7_;clear n0_ n1_ n2_ n3_ n4_ n5_ n6_ n7_;(try clear hb);(try clear hb2);(try clear hk);(try clear hi)))
        go_ret
        exact ⟨by first|rfl|(simp [errW_none,errW_some] <;> rfl)|(simp [*,errW_none,errW_some] <;> rfl),by repeat (first|(with_reducible first|exact HB.out|apply zai|apply zaf|apply zag|refine zac ?_ GE204.out|refine zac ?_ GE205.out|refine zac ?_ GE206.out|refine zac ?_ GE213.out|refine zac ?_ GE220.out)|exact HB.out)⟩
    ·rw [if_neg c9] at H
     exact absurd H (by simp)
   ·rw [if_neg c8] at H
    exact absurd H (by simp)
  ·rw [if_neg c7] at H
   exact absurd H (by simp)
 ·rw [if_neg c6] at H
  exact absurd H (by simp)
end Go.Proofs.Ytlilncnoohfcdaa.Db
