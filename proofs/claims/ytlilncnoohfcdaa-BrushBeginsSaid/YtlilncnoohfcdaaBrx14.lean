
import Derived.Test.YtlilncnoohfcdaaDax0
import Derived.Test.YtlilncnoohfcdaaDax12
import Derived.Test.YtlilncnoohfcdaaBrx0
import Derived.Test.YtlilncnoohfcdaaBrx12
import Derived.Test.YtlilncnoohfcdaaBrx13
namespace Go.Proofs.Ytlilncnoohfcdaa.Br
open Go.RowKit Go.Proofs.YtlilncnoohfcdaaW.PrintWords Go.Proofs.YtlilncnoohfcdaaW.PrintLast Go.Proofs.YtlilncnoohfcdaaW.PrintMore Go.Proofs.Ytlilncnoohfcdaa.Da
attribute [local go_sem] zbr zbu zbD zbH zbq zbp zbv zbt   
set_option linter.unusedVariables false
set_option linter.unusedSimpArgs false
/-! ### imageeditorref26_Value: function 122 -/
def zav.l0:Nat→List (S120)→Int→Int→Int→Int→Int→Int→Int→Int→Int→Int→Int→Option (Int)
 | 0,_,_,_,_,_,_,_,_,_,_,_,_=>none
 | k+1,x0,x1,x3,x4,x5,x13,x14,x00,x01,x02,x03,x04=>if x14<(x0.length:Int) then (if 0≤x14 then (if ((zaE x0 x14).f0)=x1 then ((zb7.f ((zaE x0 x14).f1) x00 x01 x02 x03 x04 x3 x4 x5).bind fun j6=>((za2.f k ((zaE x0 x14).f2) j6).bind fun g9=>((zb0.f k x13 g9).bind fun f6=>(zav.l0 k x0 x1 x3 x4 x5 f6 (wrap64 (x14+1)) x00 x01 x02 x03 x04)))) else (zav.l0 k x0 x1 x3 x4 x5 x13 (wrap64 (x14+1)) x00 x01 x02 x03 x04)) else (none)) else (some x13)
def zav.f (k:Nat) (l0:List (S120)) (a1:Int) (d5:Int) (d6:Int) (d7:Int) (d8:Int) (d9:Int) (a3:Int) (a4:Int) (a5:Int):Option (Int):=(zaI.f k l0).bind fun e0=>(if e0=0 then (zav.l0 k l0 a1 a3 a4 a5 65535 0 d5 d6 d7 d8 d9) else (some 65535))
def zav.T8:Bool×List (List Nat×List Nat):=(true,[([],[]),([],[]),([],[]),([1,2],[1,2]),([3],[3]),([4],[4]),([],[]),([],[]),([6,7],[6,7]),([8],[8]),([9],[9]),([],[]),([],[]),([],[]),([],[]),([10,11,12,13,14],[10,11,12,13,14]),([5,15,15],[5,15]),([0,16,16],[0,16]),([17,17,0,1,2,3,4,5,6,7,8,9,10,11,12,13,14,15,16,17],[0,17])])
def zav.B8:List Nat:=[0,0,0,6,14,30,0,0,192,448,960,0,0,0,0,32704,65534,131071,262143]
theorem zav.tab8:rtab .any (opsOf Try.f122 8)=zav.T8:=by kernel_rfl
theorem zav.bits8:zbE zav.T8.2 zav.B8=true:=by kernel_rfl
set_option maxHeartbeats 8000000 in
set_option maxRecDepth 100000 in
theorem zav.calls (k:Nat) (A0:Option Addr) (c0:Nat) (l0:List (S120)) (a1:Int) (d5:Int) (d6:Int) (d7:Int) (d8:Int) (d9:Int) (a3:Int) (a4:Int) (a5:Int) (r:Int) (w:World) (hr0:Kd.C k120 w A0 l0.length l0) (hc0:l0.length≤c0) (h:zav.f k l0 a1 d5 d6 d7 d8 d9 a3 a4 a5=some r) :
 Calls Try.prog 122 #[.slice A0 l0.length c0,.int .i64 a1,.agg #[.int .i64 d5,.int .i64 d6,.int .i64 d7,.int .i64 d8,.int .i64 d9],.int .i64 a3,.int .i64 a4,.int .i64 a5] w fun e w'=>e = .returned (.int .i64 r)∧Below w.heap.size w w':=by
 have hu57:=Try.underlying57
 have HR0:=zaa.mk hr0
 have HC0:=zaa.mk hc0
 clear hr0 hc0
 have HB:=zaa.mk (Below.refl w.heap.size w)
 have H:((zaI.f k l0).bind fun e0=>(if e0=0 then (zav.l0 k l0 a1 a3 a4 a5 65535 0 d5 d6 d7 d8 d9) else (some 65535)))=some r:=h
 clear h
 obtain ⟨e0,A7,H⟩:=zob H
 replace H:(if e0=0 then (zav.l0 k l0 a1 a3 a4 a5 65535 0 d5 d6 d7 d8 d9) else (some 65535))=some r:=H
 by_cases c8:e0=0
 ·rw [if_pos c8] at H
  have c8b0:(e0==0)=true:=beq_iff_eq.mpr c8
  have c8b1:(e0 != 0)=false:=bne_eq_false_iff_eq.mpr c8
  clear c8
  have H':=zaa.mk H
  clear H
  go_enter Try.func122,Try.ntmps122
  go_wp2_with (first|((with_reducible refine zaC (N:=8) rfl ?_);refine zbx (N:=8) #[.int .i64 d5,.int .i64 d6,.int .i64 d7,.int .i64 d8,.int .i64 d9] 57 ?_;intro e5 hg w9 hbox hb;have n0_:=zaa.mk (zae (zL HB.out) hb);have n1_:=zaa.mk (hbox);have n2_:=zaa.mk ((zS hg (zL HB.out):w.heap.size≤e5));have n3_:=n2_;clear HB;have HB:=n0_;have b8:=n1_;have l4:=n2_;have f7:=n3_;clear n0_ n1_ n2_ n3_;clear hb hbox hg)|((with_reducible refine zah (f:=51) rfl ?_);refine zgl 16 Try.func51 #[.slice A0 l0.length c0] ?_;(with_reducible refine (zaI.calls k _ _ l0 e0 _ ?side1 ?side2 A7.out).mono ?_);(case side1=>repeat (first|exact (Kd.C_below HR0.out HB.out)|(with_reducible refine Kd.C_alloc ?_ _)|(with_reducible refine Kd.C_drewN ?_ _)|(with_reducible refine Kd.C_drew ?_)));(case side2=>exact HC0.out);rintro e w' ⟨rfl,⟨nd,rfl⟩⟩;refine ⟨_,rfl,?_⟩))
  go_loopg [13,14] k (fun kq v13 v14 w'=>∃ (x13_1:Int) (x14_1:Int),v13 = .int .i64 x13_1∧v14 = .int .i64 x14_1∧zaa (zav.l0 kq l0 a1 a3 a4 a5 x13_1 x14_1 d5 d6 d7 d8 d9=some r)∧zaa (kq≤k)∧zaa (w'.heap[e5]? = some (.cells #[.int .i64 d5,.int .i64 d6,.int .i64 d7,.int .i64 d8,.int .i64 d9] 57 (0,0)))∧zaa (Below w.heap.size w w'))
  case atStart=>exact ⟨(65535),(0),zF,zF,H',⟨Nat.le_refl _⟩,⟨by refine zB ?_;exact b8.out⟩,⟨by repeat (first|(with_reducible first|exact HB.out|apply zan|apply zaj|apply zai|refine zao ?_ f7.out)|exact HB.out)⟩⟩
  case round=>
   clear H'
   try clear c1
   try clear p2
   try clear c5
   try clear c8
   try clear c8b0
   try clear c8b1
   obtain ⟨x13_1,x14_1,rfl,rfl,HA,k3,b8,HB⟩:=hrel
   cases gk with
   | zero=>exact absurd HA.out (by simp [zav.l0])
   | succ k1=>
    have H:=HA.out
    clear HA
    simp only [zav.l0] at H
    by_cases c10:x14_1<(l0.length:Int)
    ·rw [if_pos c10] at H
     have c10b0:decide (x14_1<(l0.length:Int))=true:=decide_eq_true c10
     clear c10
     by_cases c11:0≤x14_1
     ·rw [if_pos c11] at H
      have c11b0:decide (0≤x14_1)=true:=decide_eq_true c11
      clear c11
      by_cases c12:((zaE l0 x14_1).f0)=a1
      ·rw [if_pos c12] at H
       have c12b0:(((zaE l0 x14_1).f0)==a1)=true:=beq_iff_eq.mpr c12
       have c12b1:(((zaE l0 x14_1).f0) != a1)=false:=bne_eq_false_iff_eq.mpr c12
       clear c12
       obtain ⟨j6,A13,H⟩:=zob H
       replace H:((za2.f k1 ((zaE l0 x14_1).f2) j6).bind fun g9=>((zb0.f k1 x13_1 g9).bind fun f6=>(zav.l0 k1 l0 a1 a3 a4 a5 f6 (wrap64 (x14_1+1)) d5 d6 d7 d8 d9)))=some r:=H
       obtain ⟨g9,A14,H⟩:=zob H
       replace H:((zb0.f k1 x13_1 g9).bind fun f6=>(zav.l0 k1 l0 a1 a3 a4 a5 f6 (wrap64 (x14_1+1)) d5 d6 d7 d8 d9))=some r:=H
       obtain ⟨f6,A15,H⟩:=zob H
       replace H:(zav.l0 k1 l0 a1 a3 a4 a5 f6 (wrap64 (x14_1+1)) d5 d6 d7 d8 d9)=some r:=H
       have H':=zaa.mk H
       clear H
       have p357:0≤(x14_1:Int):=of_decide_eq_true (by first|(with_reducible assumption)|assumption)
       have q357:x14_1<(l0.length:Int):=of_decide_eq_true (by first|(with_reducible assumption)|assumption)
       obtain ⟨b9,k9,l3,e357,e6,e7,e8,hl357_2,hi357_2⟩:=zcj HR0.out x14_1 p357 q357
       cases e357
       replace e6:=zad HB.out e6
       replace e7:=zad HB.out e7
       replace e8:=zad HB.out e8
       have k5:=zaa.mk hi357_2
       have k6:=zaa.mk hl357_2
       clear hi357_2 hl357_2
       replace p357:=eq_true p357
       replace q357:=eq_true q357
       try go_wp2
       replace b8:=zaa.mk (zaM b8.out)
       replace HB:=zaa.mk (zai HB.out)
       have p358:0≤(x14_1:Int):=of_decide_eq_true (by first|(with_reducible assumption)|assumption)
       have q358:x14_1<(l0.length:Int):=of_decide_eq_true (by first|(with_reducible assumption)|assumption)
       obtain ⟨l5,j7,j8,e358,i3,i4,e9,hl358_2,hi358_2⟩:=zcj HR0.out x14_1 p358 q358
       have i5:=e9
       have i6:=i4
       have i7:=i3
       obtain rfl:b9=l5:=(by injection e358)
       replace i3:=zad HB.out i3
       replace i4:=zad HB.out i4
       replace e9:=zad HB.out e9
       have j9:=zaa.mk hi358_2
       have k7:=zaa.mk hl358_2
       clear hi358_2 hl358_2
       replace p358:=eq_true p358
       replace q358:=eq_true q358
       have p359:0≤(x14_1:Int):=of_decide_eq_true (by first|(with_reducible assumption)|assumption)
       have q359:x14_1<(l0.length:Int):=of_decide_eq_true (by first|(with_reducible assumption)|assumption)
       obtain ⟨l6,l8,l9,e359,i8,i9,f5,hl359_2,hi359_2⟩:=zcj HR0.out x14_1 p359 q359
       have j2:=f5
       have j3:=i9
       have j4:=i8
       obtain rfl:b9=l6:=(by injection e359)
       replace i8:=zad HB.out i8
       replace i9:=zad HB.out i9
       replace f5:=zad HB.out f5
       have k8:=zaa.mk hi359_2
       have l7:=zaa.mk hl359_2
       clear hi359_2 hl359_2
       replace p359:=eq_true p359
       replace q359:=eq_true q359
       have ea_:=Option.some.inj (e9.symm.trans f5)
       injection ea_ with ea_ en_ ec_
       subst ea_
       subst ec_
       clear en_
       refine zbA (n:=19) (S:=fun w'=>w'.cell? ⟨e5,0,none⟩=some (.int .i64 d5)∧w'.cell? ⟨e5,1,none⟩=some (.int .i64 d6)∧w'.cell? ⟨e5,2,none⟩=some (.int .i64 d7)∧w'.cell? ⟨e5,3,none⟩=some (.int .i64 d8)∧w'.cell? ⟨e5,4,none⟩=some (.int .i64 d9)∧w'.cell? (b9.add ((x14_1).toNat*3))=some (.int .i64 ((zaE l0 x14_1).f0))∧w'.cell? ⟨(b9.add ((x14_1).toNat*3)).block,(b9.add ((x14_1).toNat*3)).off+1,none⟩=some (.int .i64 ((zaE l0 x14_1).f1))∧w'.cell? ⟨(b9.add ((x14_1).toNat*3)).block,(b9.add ((x14_1).toNat*3)).off+2,none⟩=some (.slice j7 ((zaE l0 x14_1).f2).length j8)∧w'.cell? (b9.add ((x14_1).toNat*3))=some (.int .i64 ((zaE l0 x14_1).f0))∧w'.cell? ⟨(b9.add ((x14_1).toNat*3)).block,(b9.add ((x14_1).toNat*3)).off+1,none⟩=some (.int .i64 ((zaE l0 x14_1).f1))∧w'.cell? ⟨(b9.add ((x14_1).toNat*3)).block,(b9.add ((x14_1).toNat*3)).off+2,none⟩=some (.slice j7 ((zaE l0 x14_1).f2).length j8)) (ds:=[]) #[false,false,false,false,false,false,false,false,false,false,false,false,false,false,false,false,false,false,false] (by kernel_rfl) rfl rfl ⟨zc b8.out 0,zc b8.out 1,zc b8.out 2,zc b8.out 3,zc b8.out 4,(zad HB.out i7),(zad HB.out i6),(zad HB.out i5),(zad HB.out j4),(zad HB.out j3),(zad HB.out j2)⟩ (fun hHeld=>?_);refine zbn zav.tab8 zav.bits8 (fun HT_ HW_=>?_)
       generalize wr.drew=w16 at b8 HB j9 k8 i3 i4 e9 i8 i9 f5 hHeld ⊢
       refine zpu 0 32 HT_.out ?_
       refine zpu 1 33 HT_.out ?_
       refine zpu 2 34 HT_.out ?_
       refine zpu 3 35 HT_.out ?_
       refine zpu 4 36 HT_.out ?_
       refine zpu 6 38 HT_.out ?_
       refine zpu 7 39 HT_.out ?_
       refine zpu 8 40 HT_.out ?_
       refine zpu 9 41 HT_.out ?_
       refine zpu 12 44 HT_.out ?_
       refine zpu 13 45 HT_.out ?_
       refine zpu 14 46 HT_.out ?_
       refine ztk 5 37 HT_.out HW_.out hHeld ?_
       refine ztk 10 42 HT_.out HW_.out hHeld ?_
       refine ztk 11 43 HT_.out HW_.out hHeld ?_
       refine zon 15 (some 47) HT_.out (fun K hK=>?_)
       refine zgo Try.func149 #[.int .i64 ((zaE l0 x14_1).f1),.agg #[.int .i64 d5,.int .i64 d6,.int .i64 d7,.int .i64 d8,.int .i64 d9],.int .i64 a3,.int .i64 a4,.int .i64 a5] ?_
       with_reducible refine (zb7.calls ((zaE l0 x14_1).f1) d5 d6 d7 d8 d9 a3 a4 a5 j6 _ A13.out).mono ?_
       rintro e w17 ⟨rfl,hb⟩
       refine ⟨_,rfl,?_⟩
       replace b8:=zaa.mk (zac (zB b8.out) hb)
       replace HB:=zaa.mk (zae (zL1 HB.out f7.out) hb)
       (try clear hb)
       refine hK.out _ _ ⟨zc b8.out 0,zc b8.out 1,zc b8.out 2,zc b8.out 3,zc b8.out 4,(zad HB.out i7),(zad HB.out i6),(zad HB.out i5),(zad HB.out j4),(zad HB.out j3),(zad HB.out j2)⟩ (fun hHeld=>?_)
       clear hK K
       refine znm ?_
       refine zon 16 (some 48) HT_.out (fun K hK=>?_)
       refine zgo Try.func148 #[.slice j7 ((zaE l0 x14_1).f2).length j8,.int .i64 j6] ?_
       with_reducible refine (za2.calls k1 _ _ ((zaE l0 x14_1).f2) j6 g9 _ ?side1 ?side2 A14.out).mono ?_
       (case side1=>repeat (first|exact (Kd.C_below j9.out HB.out)|(with_reducible refine Kd.C_alloc ?_ _)|(with_reducible refine Kd.C_drewN ?_ _)|(with_reducible refine Kd.C_drew ?_)))
       (case side2=>exact k7.out)
       rintro e w18 ⟨rfl,hb⟩
       refine ⟨_,rfl,?_⟩
       replace b8:=zaa.mk (zac (zB b8.out) hb)
       replace HB:=zaa.mk (zae (zL1 HB.out f7.out) hb)
       (try clear hb)
       refine hK.out _ _ ⟨zc b8.out 0,zc b8.out 1,zc b8.out 2,zc b8.out 3,zc b8.out 4,(zad HB.out i7),(zad HB.out i6),(zad HB.out i5),(zad HB.out j4),(zad HB.out j3),(zad HB.out j2)⟩ (fun hHeld=>?_)
       clear hK K
       refine znm ?_
       refine zon 17 (some 49) HT_.out (fun K hK=>?_)
       refine zgo Try.func39 #[.int .i64 x13_1,.int .i64 g9] ?_
       with_reducible refine (zb0.calls k1 x13_1 g9 f6 _ A15.out).mono ?_
       rintro e w19 ⟨rfl,hb⟩
       refine ⟨_,rfl,?_⟩
       replace b8:=zaa.mk (zac (zB b8.out) hb)
       replace HB:=zaa.mk (zae (zL1 HB.out f7.out) hb)
       (try clear hb)
       refine hK.out _ _ ⟨zc b8.out 0,zc b8.out 1,zc b8.out 2,zc b8.out 3,zc b8.out 4,(zad HB.out i7),(zad HB.out i6),(zad HB.out i5),(zad HB.out j4),(zad HB.out j3),(zad HB.out j2)⟩ (fun hHeld=>?_)
       clear hK K
       refine znm ?_
       refine zpu 18 13 HT_.out ?_
       refine zbT (zbB HT_.out (by kernel_rfl)) ?_
       try go_wp2
       go_roundg k1
       case measure=>have:=k3.out;omega
       case rel=>exact ⟨(f6),(wrap64 (x14_1+1)),zF,zF,H',⟨by have:=k3.out;omega⟩,⟨by refine zB ?_;exact b8.out⟩,⟨by repeat (first|(with_reducible first|exact HB.out|apply zan|apply zaj|apply zai|refine zao ?_ f7.out)|exact HB.out)⟩⟩
      ·rw [if_neg c12] at H
       have c12b0:(((zaE l0 x14_1).f0)==a1)=false:=beq_eq_false_iff_ne.mpr c12
       have c12b1:(((zaE l0 x14_1).f0) != a1)=true:=bne_iff_ne.mpr c12
       have H':=zaa.mk H
       clear H
       have p357:0≤(x14_1:Int):=of_decide_eq_true (by first|(with_reducible assumption)|assumption)
       have q357:x14_1<(l0.length:Int):=of_decide_eq_true (by first|(with_reducible assumption)|assumption)
       obtain ⟨b9,k9,l3,e357,e6,e7,e8,hl357_2,hi357_2⟩:=zcj HR0.out x14_1 p357 q357
       cases e357
       replace e6:=zad HB.out e6
       replace e7:=zad HB.out e7
       replace e8:=zad HB.out e8
       have k5:=zaa.mk hi357_2
       have k6:=zaa.mk hl357_2
       clear hi357_2 hl357_2
       replace p357:=eq_true p357
       replace q357:=eq_true q357
       go_wp2
       go_roundg k1
       case measure=>have:=k3.out;omega
       case rel=>exact ⟨(x13_1),(wrap64 (x14_1+1)),zF,zF,H',⟨by have:=k3.out;omega⟩,⟨by refine zB ?_;exact b8.out⟩,⟨by repeat (first|(with_reducible first|exact HB.out|apply zan|apply zaj|apply zai|refine zao ?_ f7.out)|exact HB.out)⟩⟩
     ·rw [if_neg c11] at H
      exact absurd H (by simp)
    ·rw [if_neg c10] at H
     have c10b0:decide (x14_1<(l0.length:Int))=false:=decide_eq_false c10
     clear c10
     obtain rfl:=Option.some.inj H
     go_wp2
     go_ret
     exact zG
 ·rw [if_neg c8] at H
  have c8b0:(e0==0)=false:=beq_eq_false_iff_ne.mpr c8
  have c8b1:(e0 != 0)=true:=bne_iff_ne.mpr c8
  obtain rfl:=Option.some.inj H
  go_enter Try.func122,Try.ntmps122
  go_wp2_with (first|((with_reducible refine zaC (N:=8) rfl ?_);refine zbx (N:=8) #[.int .i64 d5,.int .i64 d6,.int .i64 d7,.int .i64 d8,.int .i64 d9] 57 ?_;intro e5 hg w20 hbox hb;have n0_:=zaa.mk (zae (zL HB.out) hb);have n1_:=zaa.mk (hbox);have n2_:=zaa.mk ((zS hg (zL HB.out):w.heap.size≤e5));have n3_:=n2_;clear HB;have HB:=n0_;have b8:=n1_;have l4:=n2_;have f7:=n3_;clear n0_ n1_ n2_ n3_;clear hb hbox hg)|((with_reducible refine zah (f:=51) rfl ?_);refine zgl 16 Try.func51 #[.slice A0 l0.length c0] ?_;(with_reducible refine (zaI.calls k _ _ l0 e0 _ ?side1 ?side2 A7.out).mono ?_);(case side1=>repeat (first|exact (Kd.C_below HR0.out HB.out)|(with_reducible refine Kd.C_alloc ?_ _)|(with_reducible refine Kd.C_drewN ?_ _)|(with_reducible refine Kd.C_drew ?_)));(case side2=>exact HC0.out);rintro e w' ⟨rfl,⟨nd,rfl⟩⟩;refine ⟨_,rfl,?_⟩))
  go_ret
  exact zG
def zaT.f (a0:Int) (a1:Int) (a2:Int) (a3:Int):Option (Int):=if a3<1 then (some 0) else ((zbU.f a0 a1 a2).bind fun j5=>(some (wrap64 ((IntKind.u64.wrap ((IntKind.u64.wrap (j5))*(IntKind.u64.wrap (mn a3 2147483648)))) / 4294967296))))
set_option maxHeartbeats 8000000 in
set_option maxRecDepth 100000 in
theorem zaT.calls (a0:Int) (a1:Int) (a2:Int) (a3:Int) (r:Int) (w:World) (h:zaT.f a0 a1 a2 a3=some r) :
 Calls Try.prog 123 #[.int .i64 a0,.int .i64 a1,.int .i64 a2,.int .i64 a3] w fun e w'=>e = .returned (.int .i64 r)∧Below w.heap.size w w':=by
 have HB:=zaa.mk (Below.refl w.heap.size w)
 have H:(if a3<1 then (some 0) else ((zbU.f a0 a1 a2).bind fun j5=>(some (wrap64 ((IntKind.u64.wrap ((IntKind.u64.wrap (j5))*(IntKind.u64.wrap (mn a3 2147483648)))) / 4294967296)))))=some r:=h
 clear h
 by_cases c5:a3<1
 ·rw [if_pos c5] at H
  have c5b0:decide (a3<1)=true:=decide_eq_true c5
  clear c5
  obtain rfl:=Option.some.inj H
  go_enter Try.func123,Try.ntmps123
  go_wp2
  go_ret
  exact zG
 ·rw [if_neg c5] at H
  have c5b0:decide (a3<1)=false:=decide_eq_false c5
  clear c5
  obtain ⟨j5,A6,H⟩:=zob H
  replace H:(some (wrap64 ((IntKind.u64.wrap ((IntKind.u64.wrap (j5))*(IntKind.u64.wrap (mn a3 2147483648)))) / 4294967296)))=some r:=H
  obtain ⟨k4,hji7⟩ : ∃ j_:Int,(mn a3 2147483648)=j_:=⟨_,rfl⟩
  replace H:(some (wrap64 ((IntKind.u64.wrap ((IntKind.u64.wrap (j5))*(IntKind.u64.wrap (k4)))) / 4294967296)))=some r:=by first|(rw [hji7] at H;exact H)|(simp only [hji7] at H ⊢;exact H)
  (try rw [hji7] at A6)
  (try (have hji7h:k4≤2147483648:=by (rw [← hji7];unfold mn;(repeat' split) <;> omega)))
  (try (have hji7g:k4≤64:=by omega))
  have hji7_:(if 2147483648<a3 then 2147483648 else a3)=k4:=hji7
  obtain rfl:=Option.some.inj H
  go_enter Try.func123,Try.ntmps123
  go_wp2_with (first|((with_reducible refine zah (f:=150) rfl ?_);refine zgl 14 Try.func150 #[.int .i64 a0,.int .i64 a1,.int .i64 a2] ?_;(with_reducible refine (zbU.calls a0 a1 a2 j5 _ A6.out).mono ?_);rintro e w' ⟨rfl,⟨nd,rfl⟩⟩;refine ⟨_,rfl,?_⟩))
  go_ret
  exact ⟨by first|rfl|(simp [zaK,zaL] <;> rfl)|(simp only [← hji7];first|rfl|(simp [zaK,zaL] <;> rfl))|(simp [*,zaK,zaL] <;> rfl),by repeat (first|(with_reducible first|exact HB.out|apply zan|apply zaj|apply zai)|exact HB.out)⟩
end Go.Proofs.Ytlilncnoohfcdaa.Br
