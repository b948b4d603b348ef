
import Derived.Test.YtlilncnoohfcdaaDax0
import Derived.Test.YtlilncnoohfcdaaDax11
namespace Go.Proofs.Ytlilncnoohfcdaa.Da
open Go.RowKit Go.Proofs.YtlilncnoohfcdaaW.PrintWords Go.Proofs.YtlilncnoohfcdaaW.PrintLast Go.Proofs.YtlilncnoohfcdaaW.PrintMore
attribute [local go_sem] zbr zbu zbD zbH zbq zbp zbv zbt   
set_option linter.unusedVariables false
set_option linter.unusedSimpArgs false
/-! ### imageeditorref27_turned: function 66 -/
def zbs.f (a0:Int):Option (Int):=if (Int.tmod a0 65536)<0 then (some (wrap64 ((Int.tmod a0 65536)+65536))) else (some (Int.tmod a0 65536))
set_option maxHeartbeats 8000000 in
set_option maxRecDepth 100000 in
theorem zbs.calls (a0:Int) (r:Int) (w:World) (h:zbs.f a0=some r) :
 Calls Try.prog 66 #[.int .i64 a0] w fun e w'=>e = .returned (.int .i64 r)∧zaS w w':=by
 have H:(if (Int.tmod a0 65536)<0 then (some (wrap64 ((Int.tmod a0 65536)+65536))) else (some (Int.tmod a0 65536)))=some r:=h
 clear h
 by_cases c2:(Int.tmod a0 65536)<0
 ·rw [if_pos c2] at H
  have c2b0:decide ((Int.tmod a0 65536)<0)=true:=decide_eq_true c2
  clear c2
  obtain rfl:=Option.some.inj H
  go_enter Try.func66,Try.ntmps66
  go_wp2
  go_ret
  exact zH
 ·rw [if_neg c2] at H
  have c2b0:decide ((Int.tmod a0 65536)<0)=false:=decide_eq_false c2
  clear c2
  obtain rfl:=Option.some.inj H
  go_enter Try.func66,Try.ntmps66
  go_wp2
  go_ret
  exact zH
def za0.f (i8:Int) (i4:Int) (i3:Int) (f7:Int) (f6:Int):Option (Int×Int×Int×Int×Int):=(zaf.f i8 (-16777216) 16777216).bind fun k9=>((zaf.f i4 (-16777216) 16777216).bind fun k7=>((zaf.f i3 0 1024).bind fun k4=>((za4.f f7).bind fun k3=>((zbs.f f6).bind fun j9=>(some (k9,k7,k4,k3,j9))))))
def za0.T1:Bool×List (List Nat×List Nat):=(true,[([],[]),([0],[0]),([1],[1]),([],[]),([3],[3]),([4,2],[4]),([],[]),([6],[6]),([7,5],[7]),([],[]),([9],[9]),([10,8],[10]),([],[]),([12],[12]),([13,11],[13]),([2,5,8,11,14],[2,5,8,11,14]),([15,14,0,1,2,3,4,5,6,7,8,9,10,11,12,13,14,15],[15])])
def za0.B1:List Nat:=[0,1,3,0,8,31,0,64,255,0,512,2047,0,4096,16383,32767,65535]
theorem za0.tab1:rtab .any (opsOf Try.f22 1)=za0.T1:=by kernel_rfl
theorem za0.bits1:zbE za0.T1.2 za0.B1=true:=by kernel_rfl
set_option maxHeartbeats 8000000 in
set_option maxRecDepth 100000 in
theorem za0.calls (i8:Int) (i4:Int) (i3:Int) (f7:Int) (f6:Int) (r1:Int) (r2:Int) (r3:Int) (r4:Int) (r5:Int) (w:World) (h:za0.f i8 i4 i3 f7 f6=some (r1,r2,r3,r4,r5)) :
 Calls Try.prog 22 #[.agg #[.int .i64 i8,.int .i64 i4,.int .i64 i3,.int .i64 f7,.int .i64 f6]] w fun e w'=>e = .returned (.agg #[.int .i64 r1,.int .i64 r2,.int .i64 r3,.int .i64 r4,.int .i64 r5])∧Below w.heap.size w w':=by
 have hu28:=Try.underlying28
 have HB:=zaa.mk (Below.refl w.heap.size w)
 have H:((zaf.f i8 (-16777216) 16777216).bind fun k9=>((zaf.f i4 (-16777216) 16777216).bind fun k7=>((zaf.f i3 0 1024).bind fun k4=>((za4.f f7).bind fun k3=>((zbs.f f6).bind fun j9=>(some (k9,k7,k4,k3,j9)))))))=some (r1,r2,r3,r4,r5):=h
 clear h
 obtain ⟨k9,A2,H⟩:=zob H
 replace H:((zaf.f i4 (-16777216) 16777216).bind fun k7=>((zaf.f i3 0 1024).bind fun k4=>((za4.f f7).bind fun k3=>((zbs.f f6).bind fun j9=>(some (k9,k7,k4,k3,j9))))))=some (r1,r2,r3,r4,r5):=H
 obtain ⟨k7,A3,H⟩:=zob H
 replace H:((zaf.f i3 0 1024).bind fun k4=>((za4.f f7).bind fun k3=>((zbs.f f6).bind fun j9=>(some (k9,k7,k4,k3,j9)))))=some (r1,r2,r3,r4,r5):=H
 obtain ⟨k4,A4,H⟩:=zob H
 replace H:((za4.f f7).bind fun k3=>((zbs.f f6).bind fun j9=>(some (k9,k7,k4,k3,j9))))=some (r1,r2,r3,r4,r5):=H
 obtain ⟨k3,A5,H⟩:=zob H
 replace H:((zbs.f f6).bind fun j9=>(some (k9,k7,k4,k3,j9)))=some (r1,r2,r3,r4,r5):=H
 obtain ⟨j9,A6,H⟩:=zob H
 replace H:(some (k9,k7,k4,k3,j9))=some (r1,r2,r3,r4,r5):=H
 simp only [Option.some.injEq,Prod.mk.injEq] at H
 obtain ⟨rfl,rfl,rfl,rfl,rfl⟩:=H
 go_enter Try.func22,Try.ntmps22
 try go_wp2_with (first|((with_reducible refine zaC (N:=1) rfl ?_);refine zbx (N:=1) #[.int .i64 i8,.int .i64 i4,.int .i64 i3,.int .i64 f7,.int .i64 f6] 28 ?_;intro l4 hg w7 hbox hb;have n0_:=zaa.mk (zae (zL HB.out) hb);have n1_:=zaa.mk (hbox);have n2_:=zaa.mk ((zS hg (zL HB.out):w.heap.size≤l4));have n3_:=n2_;clear HB;have HB:=n0_;have i6:=n1_;have E7:=n2_;have l5:=n3_;clear n0_ n1_ n2_ n3_;clear hb hbox hg)|((with_reducible refine zaC (N:=2) rfl ?_);refine zbx (N:=2) #[.int .i64 0,.int .i64 0,.int .i64 0,.int .i64 0,.int .i64 0] 28 ?_;intro l3 hg w8 hbox hb;have n0_:=zaa.mk (zac (zB i6.out) hb);have n1_:=zaa.mk (zae (zL1 HB.out l5.out) hb);have n2_:=zaa.mk (hbox);have n3_:=zaa.mk ((zS hg (zL1 HB.out l5.out):w.heap.size≤l3));have n4_:=n3_;have n5_:=zaa.mk (zne hg (zB i6.out));have n6_:=zaa.mk (zen hg (zB i6.out));clear i6;clear HB;have i6:=n0_;have HB:=n1_;have i7:=n2_;have E8:=n3_;have l6:=n4_;have i9:=n5_;have k5:=n6_;clear n0_ n1_ n2_ n3_ n4_ n5_ n6_;clear hb hbox hg))
 replace i6:=zaa.mk (zaM i6.out)
 replace i7:=zaa.mk (zaM i7.out)
 replace HB:=zaa.mk (zai HB.out)
 refine zbA (n:=17) (S:=fun w'=>w'.cell? ⟨l4,0,none⟩=some (.int .i64 i8)∧w'.cell? ⟨l4,1,none⟩=some (.int .i64 i4)∧w'.cell? ⟨l4,2,none⟩=some (.int .i64 i3)∧w'.cell? ⟨l4,3,none⟩=some (.int .i64 f7)∧w'.cell? ⟨l4,4,none⟩=some (.int .i64 f6)) (ds:=[]) #[false,false,false,false,false,false,false,false,false,false,false,false,false,false,false,false,false] (by kernel_rfl) rfl rfl (zD5 i6.out) (fun hHeld=>?_);refine zbn za0.tab1 za0.bits1 (fun HT_ HW_=>?_)
 generalize w8.drew=w9 at i6 i7 HB hHeld ⊢
 refine zpu 0 3 HT_.out ?_
 refine zpu 3 6 HT_.out ?_
 refine zpu 6 9 HT_.out ?_
 refine zpu 9 12 HT_.out ?_
 refine zpu 12 15 HT_.out ?_
 refine ztk 1 4 HT_.out HW_.out hHeld ?_
 refine ztk 4 7 HT_.out HW_.out hHeld ?_
 refine ztk 7 10 HT_.out HW_.out hHeld ?_
 refine ztk 10 13 HT_.out HW_.out hHeld ?_
 refine ztk 13 16 HT_.out HW_.out hHeld ?_
 refine zon 2 (some 5) HT_.out (fun K hK=>?_)
 refine zgo Try.func27 #[.int .i64 i8,.int .i64 (-16777216),.int .i64 16777216] ?_
 with_reducible refine (zaf.calls i8 (-16777216) 16777216 k9 _ A2.out).mono ?_
 rintro e w10 ⟨rfl,hb⟩
 refine ⟨_,rfl,?_⟩
 replace i6:=zaa.mk (zac (zB i6.out) hb)
 replace i7:=zaa.mk (zac (zB i7.out) hb)
 replace HB:=zaa.mk (zae (zL2 HB.out l5.out l6.out) hb)
 (try clear hb)
 refine hK.out _ _ (zD5 i6.out) (fun hHeld=>?_)
 clear hK K
 refine znm ?_
 refine zon 5 (some 8) HT_.out (fun K hK=>?_)
 refine zgo Try.func27 #[.int .i64 i4,.int .i64 (-16777216),.int .i64 16777216] ?_
 with_reducible refine (zaf.calls i4 (-16777216) 16777216 k7 _ A3.out).mono ?_
 rintro e w11 ⟨rfl,hb⟩
 refine ⟨_,rfl,?_⟩
 replace i6:=zaa.mk (zac (zB i6.out) hb)
 replace i7:=zaa.mk (zac (zB i7.out) hb)
 replace HB:=zaa.mk (zae (zL2 HB.out l5.out l6.out) hb)
 (try clear hb)
 refine hK.out _ _ (zD5 i6.out) (fun hHeld=>?_)
 clear hK K
 refine znm ?_
 refine zon 8 (some 11) HT_.out (fun K hK=>?_)
 refine zgo Try.func27 #[.int .i64 i3,.int .i64 0,.int .i64 1024] ?_
 with_reducible refine (zaf.calls i3 0 1024 k4 _ A4.out).mono ?_
 rintro e w12 ⟨rfl,hb⟩
 refine ⟨_,rfl,?_⟩
 replace i6:=zaa.mk (zac (zB i6.out) hb)
 replace i7:=zaa.mk (zac (zB i7.out) hb)
 replace HB:=zaa.mk (zae (zL2 HB.out l5.out l6.out) hb)
 (try clear hb)
 refine hK.out _ _ (zD5 i6.out) (fun hHeld=>?_)
 clear hK K
 refine znm ?_
 refine zon 11 (some 14) HT_.out (fun K hK=>?_)
 refine zgo Try.func65 #[.int .i64 f7] ?_
 with_reducible refine (za4.calls f7 k3 _ A5.out).mono ?_
 rintro e w13 ⟨rfl,hb⟩
 refine ⟨_,rfl,?_⟩
 replace i6:=zaa.mk (zac (zB i6.out) hb)
 replace i7:=zaa.mk (zac (zB i7.out) hb)
 replace HB:=zaa.mk (zae (zL2 HB.out l5.out l6.out) hb)
 (try clear hb)
 refine hK.out _ _ (zD5 i6.out) (fun hHeld=>?_)
 clear hK K
 refine znm ?_
 refine zon 14 (some 17) HT_.out (fun K hK=>?_)
 refine zgo Try.func66 #[.int .i64 f6] ?_
 with_reducible refine (zbs.calls f6 j9 _ A6.out).mono ?_
 rintro e w' ⟨rfl,⟨nd,rfl⟩⟩
 refine ⟨_,rfl,?_⟩
 refine hK.out _ _ (zD5 i6.out) (fun hHeld=>?_)
 clear hK K
 refine znm ?_
 refine zpu 15 18 HT_.out ?_
 refine zon 16 none HT_.out (fun K hK=>?_)
 have hs14:w13.cell? ⟨l3,0,none⟩=some (.int .i64 0):=zc i7.out 0
 have hfs14:=zaB i7.out 0
 have hns14_0:=i9.out
 have hms14_0:=k5.out
 have hs15:w13.cell? ⟨l3,1,none⟩=some (.int .i64 0):=zc i7.out 1
 have hfs15:=zaB i7.out 1
 have hns15_0:=i9.out
 have hms15_0:=k5.out
 have hs16:w13.cell? ⟨l3,2,none⟩=some (.int .i64 0):=zc i7.out 2
 have hfs16:=zaB i7.out 2
 have hns16_0:=i9.out
 have hms16_0:=k5.out
 have hs17:w13.cell? ⟨l3,3,none⟩=some (.int .i64 0):=zc i7.out 3
 have hfs17:=zaB i7.out 3
 have hns17_0:=i9.out
 have hms17_0:=k5.out
 have hs18:w13.cell? ⟨l3,4,none⟩=some (.int .i64 0):=zc i7.out 4
 have hfs18:=zaB i7.out 4
 have hns18_0:=i9.out
 have hms18_0:=k5.out
 refine skip_ (w1:=?_) (by rfl) rfl ?_ ?_
 rotate_left
 ·go_simp
  rfl
 refine hK.out _ _ ⟨(zs5 i9.out (hHeld.1)),(zs5 i9.out (hHeld.2.1)),(zs5 i9.out (hHeld.2.2.1)),(zs5 i9.out (hHeld.2.2.2.1)),(zs5 i9.out (hHeld.2.2.2.2))⟩ (fun hHeld=>?_)
 clear hK K
 refine zbT (zbB HT_.out (by kernel_rfl)) ?_
 try go_wp2
 refine bodyPost_ret (results_cell_row rfl _ _ l3 28 #[.int .i64 k9,.int .i64 k7,.int .i64 k4,.int .i64 k3,.int .i64 j9] (0,0) _ rfl (by exact zB (zp5 (zB i7.out) _ _ _ _ _)) Try.underlying28 rfl (by kernel_rfl)) rfl ?_
 exact zG
def zak.j0:Nat→Int→Int→Bool→Option (Int)
 | 0,_,_,_=>none
 | k+1,x0,x1,x14=>if x14=true then (some 9223372036854775807) else (if x1=0 then (none) else (if (Int.tmod x0 x1)=0 then (some (wrap64 (Int.tdiv x0 x1))) else (if ((decide ((Int.tmod x0 x1)<0)) != (decide (x1<0)))=true then (some (wrap64 ((wrap64 (Int.tdiv x0 x1)) - 1))) else (some (wrap64 (Int.tdiv x0 x1))))))
def zak.f (k:Nat) (a0:Int) (a1:Int):Option (Int):=if a1=0 then (some 0) else (if a0=(-9223372036854775808) then (zak.j0 k a0 a1 (a1==(-1))) else (zak.j0 k a0 a1 false))
set_option maxHeartbeats 8000000 in
set_option maxRecDepth 100000 in
theorem zak.calls (k:Nat) (a0:Int) (a1:Int) (r:Int) (w:World) (h:zak.f k a0 a1=some r) :
 Calls Try.prog 57 #[.int .i64 a0,.int .i64 a1] w fun e w'=>e = .returned (.int .i64 r)∧zaS w w':=by
 have H:(if a1=0 then (some 0) else (if a0=(-9223372036854775808) then (zak.j0 k a0 a1 (a1==(-1))) else (zak.j0 k a0 a1 false)))=some r:=h
 clear h
 by_cases c3:a1=0
 ·rw [if_pos c3] at H
  have c3b0:(a1==0)=true:=beq_iff_eq.mpr c3
  have c3b1:(a1 != 0)=false:=bne_eq_false_iff_eq.mpr c3
  clear c3
  obtain rfl:=Option.some.inj H
  go_enter Try.func57,Try.ntmps57
  go_wp2
  repeat (go_quiet (fail);try go_wp2)
  go_ret
  exact zH
 ·rw [if_neg c3] at H
  have c3b0:(a1==0)=false:=beq_eq_false_iff_ne.mpr c3
  have c3b1:(a1 != 0)=true:=bne_iff_ne.mpr c3
  have HC4:=zaa.mk H
  clear H
  go_enter Try.func57,Try.ntmps57
  go_upto_region 3 with (fail)
  repeat (go_quiet (fail);go_upto_region 3 with (fail))
  go_cut [14] (fun v14 wc=>∃ (kq:Nat) (x14_3:Bool),v14 = .bool x14_3∧zaa (zak.j0 kq a0 a1 x14_3=some r)∧zaa (kq≤k)∧zaS w wc)
  case first=>
   have H:=HC4.out
   clear HC4
   by_cases c5:a0=(-9223372036854775808)
   ·rw [if_pos c5] at H
    have c5b0:(a0==(-9223372036854775808))=true:=beq_iff_eq.mpr c5
    have c5b1:(a0 != (-9223372036854775808))=false:=bne_eq_false_iff_eq.mpr c5
    clear c5
    (first|rw [c5b0]|(simp only [zbY,zcc];rw [c5b0])|skip)
    have H':=zaa.mk H
    clear H
    go_wp2
    repeat (go_quiet (fail);try go_wp2)
    go_meet
    case rel=>exact ⟨_,((a1==(-1))),zF,H',⟨by first|omega|exact Nat.le_refl _⟩,by repeat (first|exact zaS.refl _|apply zaS.step)⟩
   ·rw [if_neg c5] at H
    have c5b0:(a0==(-9223372036854775808))=false:=beq_eq_false_iff_ne.mpr c5
    have c5b1:(a0 != (-9223372036854775808))=true:=bne_iff_ne.mpr c5
    (first|rw [c5b0]|(simp only [zbY,zcc];rw [c5b0])|skip)
    have H':=zaa.mk H
    clear H
    go_wp2
    repeat (go_quiet (fail);try go_wp2)
    go_meet
    case rel=>exact ⟨_,(false),zF,H',⟨by first|omega|exact Nat.le_refl _⟩,by repeat (first|exact zaS.refl _|apply zaS.step)⟩
  case rest=>
   clear HC4
   try clear p2
   try clear c3
   try clear c3b0
   try clear c3b1
   try clear c5
   try clear c5b0
   try clear c5b1
   obtain ⟨kq,x14_3,rfl,HA,HJ3,⟨mc3,rfl⟩⟩:=hcut
   cases kq with
   | zero=>exact absurd HA.out (by simp [zak.j0])
   | succ kj3=>
    have H:=HA.out
    clear HA
    simp only [zak.j0] at H
    by_cases c6:x14_3=true
    ·subst c6
     have H1:(some 9223372036854775807)=some r:=by rw [if_pos rfl] at H;exact H
     clear H
     have H:=H1
     clear H1
     obtain rfl:=Option.some.inj H
     go_wp2
     repeat (go_quiet (fail);try go_wp2)
     go_ret
     exact zH
    ·replace c6:=Bool.eq_false_iff.mpr c6
     subst c6
     have H1:(if a1=0 then (none) else (if (Int.tmod a0 a1)=0 then (some (wrap64 (Int.tdiv a0 a1))) else (if ((decide ((Int.tmod a0 a1)<0)) != (decide (a1<0)))=true then (some (wrap64 ((wrap64 (Int.tdiv a0 a1)) - 1))) else (some (wrap64 (Int.tdiv a0 a1))))))=some r:=by rw [if_neg (show ¬ (false=true) by decide)] at H;exact H
     clear H
     have H:=H1
     clear H1
     by_cases c7:a1=0
     ·rw [if_pos c7] at H
      exact absurd H (by simp)
     ·rw [if_neg c7] at H
      have c7b0:(a1==0)=false:=beq_eq_false_iff_ne.mpr c7
      have c7b1:(a1 != 0)=true:=bne_iff_ne.mpr c7
      by_cases c8:(Int.tmod a0 a1)=0
      ·rw [if_pos c8] at H
       have c8b0:((Int.tmod a0 a1)==0)=true:=beq_iff_eq.mpr c8
       have c8b1:((Int.tmod a0 a1) != 0)=false:=bne_eq_false_iff_eq.mpr c8
       clear c8
       obtain rfl:=Option.some.inj H
       go_wp2
       repeat (go_quiet (fail);try go_wp2)
       go_ret
       exact zH
      ·rw [if_neg c8] at H
       have c8b0:((Int.tmod a0 a1)==0)=false:=beq_eq_false_iff_ne.mpr c8
       have c8b1:((Int.tmod a0 a1) != 0)=true:=bne_iff_ne.mpr c8
       by_cases c9:((decide ((Int.tmod a0 a1)<0)) != (decide (a1<0)))=true
       ·rw [if_pos c9] at H
        have c9b0:((decide ((Int.tmod a0 a1)<0)) != (decide (a1<0)))=true:=c9
        (try (have c9b1:decide ((decide ((Int.tmod a0 a1)<0))=(decide (a1<0)))=false:=by simpa using c9))
        (try (have c9b2:((decide ((Int.tmod a0 a1)<0))==(decide (a1<0)))=false:=by simpa using c9))
        (try (have c9b3 : ¬ ((decide ((Int.tmod a0 a1)<0))=(decide (a1<0))):=by simpa using c9))
        clear c9
        obtain rfl:=Option.some.inj H
        go_wp2
        repeat (go_quiet (fail);try go_wp2)
        go_ret
        exact zH
       ·rw [if_neg c9] at H
        have c9b0:((decide ((Int.tmod a0 a1)<0)) != (decide (a1<0)))=false:=by simpa using c9
        (try (have c9b1:decide ((decide ((Int.tmod a0 a1)<0))=(decide (a1<0)))=true:=by simpa using c9))
        (try (have c9b2:((decide ((Int.tmod a0 a1)<0))==(decide (a1<0)))=true:=by simpa using c9))
        clear c9
        obtain rfl:=Option.some.inj H
        go_wp2
        repeat (go_quiet (fail);try go_wp2)
        go_ret
        exact zH
def zcf.f (k:Nat) (i8:Int) (i4:Int) (i3:Int) (f7:Int) (f6:Int):Option (Int×Int×Int×Int):=(za0.f i8 i4 i3 f7 f6).bind fun j3=>((zak.f k (wrap64 (j3.1 - (wrap64 (Int.tdiv (wrap64 (j3.2.2.1+1)) 2)))) 16).bind fun i5=>((zak.f k (wrap64 (j3.2.1 - (wrap64 (Int.tdiv (wrap64 (j3.2.2.1+1)) 2)))) 16).bind fun g9=>((zak.f k (wrap64 (j3.1+(wrap64 (Int.tdiv (wrap64 (j3.2.2.1+1)) 2)))) 16).bind fun f5=>((zak.f k (wrap64 (j3.2.1+(wrap64 (Int.tdiv (wrap64 (j3.2.2.1+1)) 2)))) 16).bind fun e9=>((zaf.f i5 (-1048576) 1048576).bind fun e0=>((zaf.f g9 (-1048576) 1048576).bind fun d9=>((zaf.f (wrap64 (f5+1)) (-1048576) 1048576).bind fun e6=>((zaf.f (wrap64 (e9+1)) (-1048576) 1048576).bind fun e5=>(if e6≤e0 then (some (0,0,0,0)) else (if e5≤d9 then (some (0,0,0,0)) else (some (e0,d9,wrap64 (e6 - e0),wrap64 (e5 - d9)))))))))))))
set_option maxHeartbeats 8000000 in
set_option maxRecDepth 100000 in
theorem zcf.calls (k:Nat) (i8:Int) (i4:Int) (i3:Int) (f7:Int) (f6:Int) (r1:Int) (r2:Int) (r3:Int) (r4:Int) (w:World) (h:zcf.f k i8 i4 i3 f7 f6=some (r1,r2,r3,r4)) :
 Calls Try.prog 17 #[.agg #[.int .i64 i8,.int .i64 i4,.int .i64 i3,.int .i64 f7,.int .i64 f6]] w fun e w'=>e = .returned (.agg #[.int .i64 r1,.int .i64 r2,.int .i64 r3,.int .i64 r4])∧Below w.heap.size w w':=by
 have hu28:=Try.underlying28
 have hu32:=Try.underlying32
 have HB:=zaa.mk (Below.refl w.heap.size w)
 have H:((za0.f i8 i4 i3 f7 f6).bind fun j3=>((zak.f k (wrap64 (j3.1 - (wrap64 (Int.tdiv (wrap64 (j3.2.2.1+1)) 2)))) 16).bind fun i5=>((zak.f k (wrap64 (j3.2.1 - (wrap64 (Int.tdiv (wrap64 (j3.2.2.1+1)) 2)))) 16).bind fun g9=>((zak.f k (wrap64 (j3.1+(wrap64 (Int.tdiv (wrap64 (j3.2.2.1+1)) 2)))) 16).bind fun f5=>((zak.f k (wrap64 (j3.2.1+(wrap64 (Int.tdiv (wrap64 (j3.2.2.1+1)) 2)))) 16).bind fun e9=>((zaf.f i5 (-1048576) 1048576).bind fun e0=>((zaf.f g9 (-1048576) 1048576).bind fun d9=>((zaf.f (wrap64 (f5+1)) (-1048576) 1048576).bind fun e6=>((zaf.f (wrap64 (e9+1)) (-1048576) 1048576).bind fun e5=>(if e6≤e0 then (some (0,0,0,0)) else (if e5≤d9 then (some (0,0,0,0)) else (some (e0,d9,wrap64 (e6 - e0),wrap64 (e5 - d9))))))))))))))=some (r1,r2,r3,r4):=h
 clear h
 obtain ⟨⟨e8,e7,d7,j5,j6⟩,A2,H⟩:=zob H
 replace H:((zak.f k (wrap64 (e8 - (wrap64 (Int.tdiv (wrap64 (d7+1)) 2)))) 16).bind fun i5=>((zak.f k (wrap64 (e7 - (wrap64 (Int.tdiv (wrap64 (d7+1)) 2)))) 16).bind fun g9=>((zak.f k (wrap64 (e8+(wrap64 (Int.tdiv (wrap64 (d7+1)) 2)))) 16).bind fun f5=>((zak.f k (wrap64 (e7+(wrap64 (Int.tdiv (wrap64 (d7+1)) 2)))) 16).bind fun e9=>((zaf.f i5 (-1048576) 1048576).bind fun e0=>((zaf.f g9 (-1048576) 1048576).bind fun d9=>((zaf.f (wrap64 (f5+1)) (-1048576) 1048576).bind fun e6=>((zaf.f (wrap64 (e9+1)) (-1048576) 1048576).bind fun e5=>(if e6≤e0 then (some (0,0,0,0)) else (if e5≤d9 then (some (0,0,0,0)) else (some (e0,d9,wrap64 (e6 - e0),wrap64 (e5 - d9)))))))))))))=some (r1,r2,r3,r4):=H
 obtain ⟨i5,A3,H⟩:=zob H
 replace H:((zak.f k (wrap64 (e7 - (wrap64 (Int.tdiv (wrap64 (d7+1)) 2)))) 16).bind fun g9=>((zak.f k (wrap64 (e8+(wrap64 (Int.tdiv (wrap64 (d7+1)) 2)))) 16).bind fun f5=>((zak.f k (wrap64 (e7+(wrap64 (Int.tdiv (wrap64 (d7+1)) 2)))) 16).bind fun e9=>((zaf.f i5 (-1048576) 1048576).bind fun e0=>((zaf.f g9 (-1048576) 1048576).bind fun d9=>((zaf.f (wrap64 (f5+1)) (-1048576) 1048576).bind fun e6=>((zaf.f (wrap64 (e9+1)) (-1048576) 1048576).bind fun e5=>(if e6≤e0 then (some (0,0,0,0)) else (if e5≤d9 then (some (0,0,0,0)) else (some (e0,d9,wrap64 (e6 - e0),wrap64 (e5 - d9))))))))))))=some (r1,r2,r3,r4):=H
 obtain ⟨g9,A4,H⟩:=zob H
 replace H:((zak.f k (wrap64 (e8+(wrap64 (Int.tdiv (wrap64 (d7+1)) 2)))) 16).bind fun f5=>((zak.f k (wrap64 (e7+(wrap64 (Int.tdiv (wrap64 (d7+1)) 2)))) 16).bind fun e9=>((zaf.f i5 (-1048576) 1048576).bind fun e0=>((zaf.f g9 (-1048576) 1048576).bind fun d9=>((zaf.f (wrap64 (f5+1)) (-1048576) 1048576).bind fun e6=>((zaf.f (wrap64 (e9+1)) (-1048576) 1048576).bind fun e5=>(if e6≤e0 then (some (0,0,0,0)) else (if e5≤d9 then (some (0,0,0,0)) else (some (e0,d9,wrap64 (e6 - e0),wrap64 (e5 - d9)))))))))))=some (r1,r2,r3,r4):=H
 obtain ⟨f5,A5,H⟩:=zob H
 replace H:((zak.f k (wrap64 (e7+(wrap64 (Int.tdiv (wrap64 (d7+1)) 2)))) 16).bind fun e9=>((zaf.f i5 (-1048576) 1048576).bind fun e0=>((zaf.f g9 (-1048576) 1048576).bind fun d9=>((zaf.f (wrap64 (f5+1)) (-1048576) 1048576).bind fun e6=>((zaf.f (wrap64 (e9+1)) (-1048576) 1048576).bind fun e5=>(if e6≤e0 then (some (0,0,0,0)) else (if e5≤d9 then (some (0,0,0,0)) else (some (e0,d9,wrap64 (e6 - e0),wrap64 (e5 - d9))))))))))=some (r1,r2,r3,r4):=H
 obtain ⟨e9,A6,H⟩:=zob H
 replace H:((zaf.f i5 (-1048576) 1048576).bind fun e0=>((zaf.f g9 (-1048576) 1048576).bind fun d9=>((zaf.f (wrap64 (f5+1)) (-1048576) 1048576).bind fun e6=>((zaf.f (wrap64 (e9+1)) (-1048576) 1048576).bind fun e5=>(if e6≤e0 then (some (0,0,0,0)) else (if e5≤d9 then (some (0,0,0,0)) else (some (e0,d9,wrap64 (e6 - e0),wrap64 (e5 - d9)))))))))=some (r1,r2,r3,r4):=H
 obtain ⟨e0,A7,H⟩:=zob H
 replace H:((zaf.f g9 (-1048576) 1048576).bind fun d9=>((zaf.f (wrap64 (f5+1)) (-1048576) 1048576).bind fun e6=>((zaf.f (wrap64 (e9+1)) (-1048576) 1048576).bind fun e5=>(if e6≤e0 then (some (0,0,0,0)) else (if e5≤d9 then (some (0,0,0,0)) else (some (e0,d9,wrap64 (e6 - e0),wrap64 (e5 - d9))))))))=some (r1,r2,r3,r4):=H
 obtain ⟨d9,A8,H⟩:=zob H
 replace H:((zaf.f (wrap64 (f5+1)) (-1048576) 1048576).bind fun e6=>((zaf.f (wrap64 (e9+1)) (-1048576) 1048576).bind fun e5=>(if e6≤e0 then (some (0,0,0,0)) else (if e5≤d9 then (some (0,0,0,0)) else (some (e0,d9,wrap64 (e6 - e0),wrap64 (e5 - d9)))))))=some (r1,r2,r3,r4):=H
 obtain ⟨e6,A9,H⟩:=zob H
 replace H:((zaf.f (wrap64 (e9+1)) (-1048576) 1048576).bind fun e5=>(if e6≤e0 then (some (0,0,0,0)) else (if e5≤d9 then (some (0,0,0,0)) else (some (e0,d9,wrap64 (e6 - e0),wrap64 (e5 - d9))))))=some (r1,r2,r3,r4):=H
 obtain ⟨e5,A10,H⟩:=zob H
 replace H:(if e6≤e0 then (some (0,0,0,0)) else (if e5≤d9 then (some (0,0,0,0)) else (some (e0,d9,wrap64 (e6 - e0),wrap64 (e5 - d9)))))=some (r1,r2,r3,r4):=H
 by_cases c11:e6≤e0
 ·rw [if_pos c11] at H
  have c11b0:decide (e6≤e0)=true:=decide_eq_true c11
  clear c11
  simp only [Option.some.injEq,Prod.mk.injEq] at H
  obtain ⟨rfl,rfl,rfl,rfl⟩:=H
  go_enter Try.func17,Try.ntmps17
  go_wp2_with (first|((with_reducible refine zaC (N:=1) rfl ?_);refine zbx (N:=1) #[.int .i64 i8,.int .i64 i4,.int .i64 i3,.int .i64 f7,.int .i64 f6] 28 ?_;intro j8 hg w12 hbox hb;have n0_:=zaa.mk (zae (zL HB.out) hb);have n1_:=zaa.mk (hbox);have n2_:=zaa.mk ((zS hg (zL HB.out):w.heap.size≤j8));have n3_:=n2_;clear HB;have HB:=n0_;have b8:=n1_;have z8:=n2_;have d6:=n3_;clear n0_ n1_ n2_ n3_;clear hb hbox hg)|((with_reducible refine zaC (N:=2) rfl ?_);refine zbx (N:=2) #[.int .i64 0,.int .i64 0,.int .i64 0,.int .i64 0] 32 ?_;intro j4 hg w13 hbox hb;have n0_:=zaa.mk (zac (zB b8.out) hb);have n1_:=zaa.mk (zae (zL1 HB.out d6.out) hb);have n2_:=zaa.mk (hbox);have n3_:=zaa.mk ((zS hg (zL1 HB.out d6.out):w.heap.size≤j4));have n4_:=n3_;have n5_:=zaa.mk (zne hg (zB b8.out));have n6_:=zaa.mk (zen hg (zB b8.out));clear b8;clear HB;have b8:=n0_;have HB:=n1_;have b9:=n2_;have z9:=n3_;have d8:=n4_;have k6:=n5_;have d5:=n6_;clear n0_ n1_ n2_ n3_ n4_ n5_ n6_;clear hb hbox hg;have hnb14:=k6.out;have hnc14:=d5.out;obtain ⟨B0,B3,B7,C0,C1⟩:=zD5 b8.out;obtain ⟨C2,C3,C4,C5,C6⟩:=zE5 b8.out)|(go_at_call 22;(with_reducible refine (za0.calls i8 i4 i3 f7 f6 e8 e7 d7 j5 j6 _ A2.out).mono ?_);rintro e w16 ⟨rfl,hb⟩;replace b8:=zaa.mk (zac (zB b8.out) hb);replace b9:=zaa.mk (zac (zB b9.out) hb);replace HB:=zaa.mk (zae (zL2 HB.out d6.out d8.out) hb);(try clear hb);obtain ⟨l7,l8,l9,m5,m6⟩:=zD5 b8.out;obtain ⟨m7,m8,m9,n0,n3⟩:=zE5 b8.out)|(go_at_call 57;(with_reducible refine (zak.calls k (wrap64 (e8 - (wrap64 (Int.tdiv (wrap64 (d7+1)) 2)))) 16 i5 _ A3.out).mono ?_);rintro e w' ⟨rfl,⟨nd,rfl⟩⟩;(try first|exact ⟨rfl,_,World.drewN_drewN _ _ _⟩|exact ⟨rfl,_,Eq.trans (World.drewN_drewN _ _ _) (congrArg (World.drewN _) (Nat.add_assoc _ _ _))⟩))|(go_at_call 57;(with_reducible refine (zak.calls k (wrap64 (e7 - (wrap64 (Int.tdiv (wrap64 (d7+1)) 2)))) 16 g9 _ A4.out).mono ?_);rintro e w' ⟨rfl,⟨nd,rfl⟩⟩;(try first|exact ⟨rfl,_,World.drewN_drewN _ _ _⟩|exact ⟨rfl,_,Eq.trans (World.drewN_drewN _ _ _) (congrArg (World.drewN _) (Nat.add_assoc _ _ _))⟩))|(go_at_call 57;(with_reducible refine (zak.calls k (wrap64 (e8+(wrap64 (Int.tdiv (wrap64 (d7+1)) 2)))) 16 f5 _ A5.out).mono ?_);rintro e w' ⟨rfl,⟨nd,rfl⟩⟩;(try first|exact ⟨rfl,_,World.drewN_drewN _ _ _⟩|exact ⟨rfl,_,Eq.trans (World.drewN_drewN _ _ _) (congrArg (World.drewN _) (Nat.add_assoc _ _ _))⟩))|(go_at_call 57;(with_reducible refine (zak.calls k (wrap64 (e7+(wrap64 (Int.tdiv (wrap64 (d7+1)) 2)))) 16 e9 _ A6.out).mono ?_);rintro e w' ⟨rfl,⟨nd,rfl⟩⟩;(try first|exact ⟨rfl,_,World.drewN_drewN _ _ _⟩|exact ⟨rfl,_,Eq.trans (World.drewN_drewN _ _ _) (congrArg (World.drewN _) (Nat.add_assoc _ _ _))⟩))|(go_at_call 27;(with_reducible refine (zaf.calls i5 (-1048576) 1048576 e0 _ A7.out).mono ?_);rintro e w18 ⟨rfl,hb⟩;have n0_:=zaa.mk (zac (g:=j8) (o:=.cells #[.int .i64 e8,.int .i64 e7,.int .i64 d7,.int .i64 j5,.int .i64 j6] 28 (0,0)) (by exact zB (zp5 (zB b8.out) _ _ _ _ _)) hb);have n1_:=zaa.mk (zac (g:=j4) (o:=.cells #[.int .i64 0,.int .i64 0,.int .i64 0,.int .i64 0] 32 (0,0)) (by refine zB ?_;refine zaA ?_ d5.out _;refine zB ?_;refine zaA ?_ d5.out _;refine zB ?_;refine zaA ?_ d5.out _;refine zB ?_;refine zaA ?_ d5.out _;refine zB ?_;refine zaA ?_ d5.out _;refine zB ?_;exact b9.out) hb);have n2_:=zaa.mk (zae (zL2 HB.out d6.out d8.out) hb);clear b8;clear b9;clear HB;have b8:=n0_;have b9:=n1_;have HB:=n2_;clear n0_ n1_ n2_;(try clear hb))|(go_at_call 27;(with_reducible refine (zaf.calls g9 (-1048576) 1048576 d9 _ A8.out).mono ?_);rintro e w19 ⟨rfl,hb⟩;replace b8:=zaa.mk (zac (zB b8.out) hb);replace b9:=zaa.mk (zac (zB b9.out) hb);replace HB:=zaa.mk (zae (zL2 HB.out d6.out d8.out) hb);(try clear hb))|(go_at_call 27;(with_reducible refine (zaf.calls (wrap64 (f5+1)) (-1048576) 1048576 e6 _ A9.out).mono ?_);rintro e w20 ⟨rfl,hb⟩;replace b8:=zaa.mk (zac (zB b8.out) hb);replace b9:=zaa.mk (zac (zB b9.out) hb);replace HB:=zaa.mk (zae (zL2 HB.out d6.out d8.out) hb);(try clear hb))|(go_at_call 27;(with_reducible refine (zaf.calls (wrap64 (e9+1)) (-1048576) 1048576 e5 _ A10.out).mono ?_);rintro e w21 ⟨rfl,hb⟩;replace b8:=zaa.mk (zac (zB b8.out) hb);replace b9:=zaa.mk (zac (zB b9.out) hb);replace HB:=zaa.mk (zae (zL2 HB.out d6.out d8.out) hb);(try clear hb);obtain ⟨n4,n5,n6,n7⟩:=zD4 b9.out;obtain ⟨n8,n9,o2,o3⟩:=zE4 b9.out))
  repeat (go_quiet (first|(go_at_call 22;(with_reducible refine (za0.calls i8 i4 i3 f7 f6 e8 e7 d7 j5 j6 _ A2.out).mono ?_);rintro e w16 ⟨rfl,hb⟩;replace b8:=zaa.mk (zac (zB b8.out) hb);replace b9:=zaa.mk (zac (zB b9.out) hb);replace HB:=zaa.mk (zae (zL2 HB.out d6.out d8.out) hb);(try clear hb);obtain ⟨l7,l8,l9,m5,m6⟩:=zD5 b8.out;obtain ⟨m7,m8,m9,n0,n3⟩:=zE5 b8.out)|(go_at_call 57;(with_reducible refine (zak.calls k (wrap64 (e8 - (wrap64 (Int.tdiv (wrap64 (d7+1)) 2)))) 16 i5 _ A3.out).mono ?_);rintro e w' ⟨rfl,⟨nd,rfl⟩⟩;(try first|exact ⟨rfl,_,World.drewN_drewN _ _ _⟩|exact ⟨rfl,_,Eq.trans (World.drewN_drewN _ _ _) (congrArg (World.drewN _) (Nat.add_assoc _ _ _))⟩))|(go_at_call 57;(with_reducible refine (zak.calls k (wrap64 (e7 - (wrap64 (Int.tdiv (wrap64 (d7+1)) 2)))) 16 g9 _ A4.out).mono ?_);rintro e w' ⟨rfl,⟨nd,rfl⟩⟩;(try first|exact ⟨rfl,_,World.drewN_drewN _ _ _⟩|exact ⟨rfl,_,Eq.trans (World.drewN_drewN _ _ _) (congrArg (World.drewN _) (Nat.add_assoc _ _ _))⟩))|(go_at_call 57;(with_reducible refine (zak.calls k (wrap64 (e8+(wrap64 (Int.tdiv (wrap64 (d7+1)) 2)))) 16 f5 _ A5.out).mono ?_);rintro e w' ⟨rfl,⟨nd,rfl⟩⟩;(try first|exact ⟨rfl,_,World.drewN_drewN _ _ _⟩|exact ⟨rfl,_,Eq.trans (World.drewN_drewN _ _ _) (congrArg (World.drewN _) (Nat.add_assoc _ _ _))⟩))|(go_at_call 57;(with_reducible refine (zak.calls k (wrap64 (e7+(wrap64 (Int.tdiv (wrap64 (d7+1)) 2)))) 16 e9 _ A6.out).mono ?_);rintro e w' ⟨rfl,⟨nd,rfl⟩⟩;(try first|exact ⟨rfl,_,World.drewN_drewN _ _ _⟩|exact ⟨rfl,_,Eq.trans (World.drewN_drewN _ _ _) (congrArg (World.drewN _) (Nat.add_assoc _ _ _))⟩))|(go_at_call 27;(with_reducible refine (zaf.calls i5 (-1048576) 1048576 e0 _ A7.out).mono ?_);rintro e w18 ⟨rfl,hb⟩;have n0_:=zaa.mk (zac (g:=j8) (o:=.cells #[.int .i64 e8,.int .i64 e7,.int .i64 d7,.int .i64 j5,.int .i64 j6] 28 (0,0)) (by exact zB (zp5 (zB b8.out) _ _ _ _ _)) hb);have n1_:=zaa.mk (zac (g:=j4) (o:=.cells #[.int .i64 0,.int .i64 0,.int .i64 0,.int .i64 0] 32 (0,0)) (by refine zB ?_;refine zaA ?_ d5.out _;refine zB ?_;refine zaA ?_ d5.out _;refine zB ?_;refine zaA ?_ d5.out _;refine zB ?_;refine zaA ?_ d5.out _;refine zB ?_;refine zaA ?_ d5.out _;refine zB ?_;exact b9.out) hb);have n2_:=zaa.mk (zae (zL2 HB.out d6.out d8.out) hb);clear b8;clear b9;clear HB;have b8:=n0_;have b9:=n1_;have HB:=n2_;clear n0_ n1_ n2_;(try clear hb))|(go_at_call 27;(with_reducible refine (zaf.calls g9 (-1048576) 1048576 d9 _ A8.out).mono ?_);rintro e w19 ⟨rfl,hb⟩;replace b8:=zaa.mk (zac (zB b8.out) hb);replace b9:=zaa.mk (zac (zB b9.out) hb);replace HB:=zaa.mk (zae (zL2 HB.out d6.out d8.out) hb);(try clear hb))|(go_at_call 27;(with_reducible refine (zaf.calls (wrap64 (f5+1)) (-1048576) 1048576 e6 _ A9.out).mono ?_);rintro e w20 ⟨rfl,hb⟩;replace b8:=zaa.mk (zac (zB b8.out) hb);replace b9:=zaa.mk (zac (zB b9.out) hb);replace HB:=zaa.mk (zae (zL2 HB.out d6.out d8.out) hb);(try clear hb))|(go_at_call 27;(with_reducible refine (zaf.calls (wrap64 (e9+1)) (-1048576) 1048576 e5 _ A10.out).mono ?_);rintro e w21 ⟨rfl,hb⟩;replace b8:=zaa.mk (zac (zB b8.out) hb);replace b9:=zaa.mk (zac (zB b9.out) hb);replace HB:=zaa.mk (zae (zL2 HB.out d6.out d8.out) hb);(try clear hb);obtain ⟨n4,n5,n6,n7⟩:=zD4 b9.out;obtain ⟨n8,n9,o2,o3⟩:=zE4 b9.out));try go_wp2_with (first|(go_at_call 22;(with_reducible refine (za0.calls i8 i4 i3 f7 f6 e8 e7 d7 j5 j6 _ A2.out).mono ?_);rintro e w16 ⟨rfl,hb⟩;replace b8:=zaa.mk (zac (zB b8.out) hb);replace b9:=zaa.mk (zac (zB b9.out) hb);replace HB:=zaa.mk (zae (zL2 HB.out d6.out d8.out) hb);(try clear hb);obtain ⟨l7,l8,l9,m5,m6⟩:=zD5 b8.out;obtain ⟨m7,m8,m9,n0,n3⟩:=zE5 b8.out)|(go_at_call 57;(with_reducible refine (zak.calls k (wrap64 (e8 - (wrap64 (Int.tdiv (wrap64 (d7+1)) 2)))) 16 i5 _ A3.out).mono ?_);rintro e w' ⟨rfl,⟨nd,rfl⟩⟩;(try first|exact ⟨rfl,_,World.drewN_drewN _ _ _⟩|exact ⟨rfl,_,Eq.trans (World.drewN_drewN _ _ _) (congrArg (World.drewN _) (Nat.add_assoc _ _ _))⟩))|(go_at_call 57;(with_reducible refine (zak.calls k (wrap64 (e7 - (wrap64 (Int.tdiv (wrap64 (d7+1)) 2)))) 16 g9 _ A4.out).mono ?_);rintro e w' ⟨rfl,⟨nd,rfl⟩⟩;(try first|exact ⟨rfl,_,World.drewN_drewN _ _ _⟩|exact ⟨rfl,_,Eq.trans (World.drewN_drewN _ _ _) (congrArg (World.drewN _) (Nat.add_assoc _ _ _))⟩))|(go_at_call 57;(with_reducible refine (zak.calls k (wrap64 (e8+(wrap64 (Int.tdiv (wrap64 (d7+1)) 2)))) 16 f5 _ A5.out).mono ?_);rintro e w' ⟨rfl,⟨nd,rfl⟩⟩;(try first|exact ⟨rfl,_,World.drewN_drewN _ _ _⟩|exact ⟨rfl,_,Eq.trans (World.drewN_drewN _ _ _) (congrArg (World.drewN _) (Nat.add_assoc _ _ _))⟩))|(go_at_call 57;(with_reducible refine (zak.calls k (wrap64 (e7+(wrap64 (Int.tdiv (wrap64 (d7+1)) 2)))) 16 e9 _ A6.out).mono ?_);rintro e w' ⟨rfl,⟨nd,rfl⟩⟩;(try first|exact ⟨rfl,_,World.drewN_drewN _ _ _⟩|exact ⟨rfl,_,Eq.trans (World.drewN_drewN _ _ _) (congrArg (World.drewN _) (Nat.add_assoc _ _ _))⟩))|(go_at_call 27;(with_reducible refine (zaf.calls i5 (-1048576) 1048576 e0 _ A7.out).mono ?_);rintro e w18 ⟨rfl,hb⟩;have n0_:=zaa.mk (zac (g:=j8) (o:=.cells #[.int .i64 e8,.int .i64 e7,.int .i64 d7,.int .i64 j5,.int .i64 j6] 28 (0,0)) (by exact zB (zp5 (zB b8.out) _ _ _ _ _)) hb);have n1_:=zaa.mk (zac (g:=j4) (o:=.cells #[.int .i64 0,.int .i64 0,.int .i64 0,.int .i64 0] 32 (0,0)) (by refine zB ?_;refine zaA ?_ d5.out _;refine zB ?_;refine zaA ?_ d5.out _;refine zB ?_;refine zaA ?_ d5.out _;refine zB ?_;refine zaA ?_ d5.out _;refine zB ?_;refine zaA ?_ d5.out _;refine zB ?_;exact b9.out) hb);have n2_:=zaa.mk (zae (zL2 HB.out d6.out d8.out) hb);clear b8;clear b9;clear HB;have b8:=n0_;have b9:=n1_;have HB:=n2_;clear n0_ n1_ n2_;(try clear hb))|(go_at_call 27;(with_reducible refine (zaf.calls g9 (-1048576) 1048576 d9 _ A8.out).mono ?_);rintro e w19 ⟨rfl,hb⟩;replace b8:=zaa.mk (zac (zB b8.out) hb);replace b9:=zaa.mk (zac (zB b9.out) hb);replace HB:=zaa.mk (zae (zL2 HB.out d6.out d8.out) hb);(try clear hb))|(go_at_call 27;(with_reducible refine (zaf.calls (wrap64 (f5+1)) (-1048576) 1048576 e6 _ A9.out).mono ?_);rintro e w20 ⟨rfl,hb⟩;replace b8:=zaa.mk (zac (zB b8.out) hb);replace b9:=zaa.mk (zac (zB b9.out) hb);replace HB:=zaa.mk (zae (zL2 HB.out d6.out d8.out) hb);(try clear hb))|(go_at_call 27;(with_reducible refine (zaf.calls (wrap64 (e9+1)) (-1048576) 1048576 e5 _ A10.out).mono ?_);rintro e w21 ⟨rfl,hb⟩;replace b8:=zaa.mk (zac (zB b8.out) hb);replace b9:=zaa.mk (zac (zB b9.out) hb);replace HB:=zaa.mk (zae (zL2 HB.out d6.out d8.out) hb);(try clear hb);obtain ⟨n4,n5,n6,n7⟩:=zD4 b9.out;obtain ⟨n8,n9,o2,o3⟩:=zE4 b9.out)))
  refine bodyPost_ret (results_cell_row rfl _ _ j4 32 #[.int .i64 0,.int .i64 0,.int .i64 0,.int .i64 0] (0,0) _ rfl (by exact zB (zp4 (zB b9.out) _ _ _ _)) Try.underlying32 rfl (by kernel_rfl)) rfl ?_
  exact zG
 ·rw [if_neg c11] at H
  have c11b0:decide (e6≤e0)=false:=decide_eq_false c11
  clear c11
  by_cases c23:e5≤d9
  ·rw [if_pos c23] at H
   have c23b0:decide (e5≤d9)=true:=decide_eq_true c23
   clear c23
   simp only [Option.some.injEq,Prod.mk.injEq] at H
   obtain ⟨rfl,rfl,rfl,rfl⟩:=H
   go_enter Try.func17,Try.ntmps17
   go_wp2_with (first|((with_reducible refine zaC (N:=1) rfl ?_);refine zbx (N:=1) #[.int .i64 i8,.int .i64 i4,.int .i64 i3,.int .i64 f7,.int .i64 f6] 28 ?_;intro j8 hg w24 hbox hb;have n0_:=zaa.mk (zae (zL HB.out) hb);have n1_:=zaa.mk (hbox);have n2_:=zaa.mk ((zS hg (zL HB.out):w.heap.size≤j8));have n3_:=n2_;clear HB;have HB:=n0_;have b8:=n1_;have z8:=n2_;have d6:=n3_;clear n0_ n1_ n2_ n3_;clear hb hbox hg)|((with_reducible refine zaC (N:=2) rfl ?_);refine zbx (N:=2) #[.int .i64 0,.int .i64 0,.int .i64 0,.int .i64 0] 32 ?_;intro j4 hg w25 hbox hb;have n0_:=zaa.mk (zac (zB b8.out) hb);have n1_:=zaa.mk (zae (zL1 HB.out d6.out) hb);have n2_:=zaa.mk (hbox);have n3_:=zaa.mk ((zS hg (zL1 HB.out d6.out):w.heap.size≤j4));have n4_:=n3_;have n5_:=zaa.mk (zne hg (zB b8.out));have n6_:=zaa.mk (zen hg (zB b8.out));clear b8;clear HB;have b8:=n0_;have HB:=n1_;have b9:=n2_;have z9:=n3_;have d8:=n4_;have k6:=n5_;have d5:=n6_;clear n0_ n1_ n2_ n3_ n4_ n5_ n6_;clear hb hbox hg;have hnb26:=k6.out;have hnc26:=d5.out;obtain ⟨C7,C8,C9,D0,D1⟩:=zD5 b8.out;obtain ⟨D2,D3,D4,D5,D6⟩:=zE5 b8.out)|(go_at_call 22;(with_reducible refine (za0.calls i8 i4 i3 f7 f6 e8 e7 d7 j5 j6 _ A2.out).mono ?_);rintro e w28 ⟨rfl,hb⟩;replace b8:=zaa.mk (zac (zB b8.out) hb);replace b9:=zaa.mk (zac (zB b9.out) hb);replace HB:=zaa.mk (zae (zL2 HB.out d6.out d8.out) hb);(try clear hb);obtain ⟨o4,o5,o6,o7,o8⟩:=zD5 b8.out;obtain ⟨o9,p7,p8,p9,s5⟩:=zE5 b8.out)|(go_at_call 57;(with_reducible refine (zak.calls k (wrap64 (e8 - (wrap64 (Int.tdiv (wrap64 (d7+1)) 2)))) 16 i5 _ A3.out).mono ?_);rintro e w' ⟨rfl,⟨nd,rfl⟩⟩;(try first|exact ⟨rfl,_,World.drewN_drewN _ _ _⟩|exact ⟨rfl,_,Eq.trans (World.drewN_drewN _ _ _) (congrArg (World.drewN _) (Nat.add_assoc _ _ _))⟩))|(go_at_call 57;(with_reducible refine (zak.calls k (wrap64 (e7 - (wrap64 (Int.tdiv (wrap64 (d7+1)) 2)))) 16 g9 _ A4.out).mono ?_);rintro e w' ⟨rfl,⟨nd,rfl⟩⟩;(try first|exact ⟨rfl,_,World.drewN_drewN _ _ _⟩|exact ⟨rfl,_,Eq.trans (World.drewN_drewN _ _ _) (congrArg (World.drewN _) (Nat.add_assoc _ _ _))⟩))|(go_at_call 57;(with_reducible refine (zak.calls k (wrap64 (e8+(wrap64 (Int.tdiv (wrap64 (d7+1)) 2)))) 16 f5 _ A5.out).mono ?_);rintro e w' ⟨rfl,⟨nd,rfl⟩⟩;(try first|exact ⟨rfl,_,World.drewN_drewN _ _ _⟩|exact ⟨rfl,_,Eq.trans (World.drewN_drewN _ _ _) (congrArg (World.drewN _) (Nat.add_assoc _ _ _))⟩))|(go_at_call 57;(with_reducible refine (zak.calls k (wrap64 (e7+(wrap64 (Int.tdiv (wrap64 (d7+1)) 2)))) 16 e9 _ A6.out).mono ?_);rintro e w' ⟨rfl,⟨nd,rfl⟩⟩;(try first|exact ⟨rfl,_,World.drewN_drewN _ _ _⟩|exact ⟨rfl,_,Eq.trans (World.drewN_drewN _ _ _) (congrArg (World.drewN _) (Nat.add_assoc _ _ _))⟩))|(go_at_call 27;(with_reducible refine (zaf.calls i5 (-1048576) 1048576 e0 _ A7.out).mono ?_);rintro e w30 ⟨rfl,hb⟩;have n0_:=zaa.mk (zac (g:=j8) (o:=.cells #[.int .i64 e8,.int .i64 e7,.int .i64 d7,.int .i64 j5,.int .i64 j6] 28 (0,0)) (by exact zB (zp5 (zB b8.out) _ _ _ _ _)) hb);have n1_:=zaa.mk (zac (g:=j4) (o:=.cells #[.int .i64 0,.int .i64 0,.int .i64 0,.int .i64 0] 32 (0,0)) (by refine zB ?_;refine zaA ?_ d5.out _;refine zB ?_;refine zaA ?_ d5.out _;refine zB ?_;refine zaA ?_ d5.out _;refine zB ?_;refine zaA ?_ d5.out _;refine zB ?_;refine zaA ?_ d5.out _;refine zB ?_;exact b9.out) hb);have n2_:=zaa.mk (zae (zL2 HB.out d6.out d8.out) hb);clear b8;clear b9;clear HB;have b8:=n0_;have b9:=n1_;have HB:=n2_;clear n0_ n1_ n2_;(try clear hb))|(go_at_call 27;(with_reducible refine (zaf.calls g9 (-1048576) 1048576 d9 _ A8.out).mono ?_);rintro e w31 ⟨rfl,hb⟩;replace b8:=zaa.mk (zac (zB b8.out) hb);replace b9:=zaa.mk (zac (zB b9.out) hb);replace HB:=zaa.mk (zae (zL2 HB.out d6.out d8.out) hb);(try clear hb))|(go_at_call 27;(with_reducible refine (zaf.calls (wrap64 (f5+1)) (-1048576) 1048576 e6 _ A9.out).mono ?_);rintro e w32 ⟨rfl,hb⟩;replace b8:=zaa.mk (zac (zB b8.out) hb);replace b9:=zaa.mk (zac (zB b9.out) hb);replace HB:=zaa.mk (zae (zL2 HB.out d6.out d8.out) hb);(try clear hb))|(go_at_call 27;(with_reducible refine (zaf.calls (wrap64 (e9+1)) (-1048576) 1048576 e5 _ A10.out).mono ?_);rintro e w33 ⟨rfl,hb⟩;replace b8:=zaa.mk (zac (zB b8.out) hb);replace b9:=zaa.mk (zac (zB b9.out) hb);replace HB:=zaa.mk (zae (zL2 HB.out d6.out d8.out) hb);(try clear hb);obtain ⟨s6,s7,s8,s9⟩:=zD4 b9.out;obtain ⟨t6,t7,t8,t9⟩:=zE4 b9.out))
   repeat (go_quiet (first|(go_at_call 22;(with_reducible refine (za0.calls i8 i4 i3 f7 f6 e8 e7 d7 j5 j6 _ A2.out).mono ?_);rintro e w28 ⟨rfl,hb⟩;replace b8:=zaa.mk (zac (zB b8.out) hb);replace b9:=zaa.mk (zac (zB b9.out) hb);replace HB:=zaa.mk (zae (zL2 HB.out d6.out d8.out) hb);(try clear hb);obtain ⟨o4,o5,o6,o7,o8⟩:=zD5 b8.out;obtain ⟨o9,p7,p8,p9,s5⟩:=zE5 b8.out)|(go_at_call 57;(with_reducible refine (zak.calls k (wrap64 (e8 - (wrap64 (Int.tdiv (wrap64 (d7+1)) 2)))) 16 i5 _ A3.out).mono ?_);rintro e w' ⟨rfl,⟨nd,rfl⟩⟩;(try first|exact ⟨rfl,_,World.drewN_drewN _ _ _⟩|exact ⟨rfl,_,Eq.trans (World.drewN_drewN _ _ _) (congrArg (World.drewN _) (Nat.add_assoc _ _ _))⟩))|(go_at_call 57;(with_reducible refine (zak.calls k (wrap64 (e7 - (wrap64 (Int.tdiv (wrap64 (d7+1)) 2)))) 16 g9 _ A4.out).mono ?_);rintro e w' ⟨rfl,⟨nd,rfl⟩⟩;(try first|exact ⟨rfl,_,World.drewN_drewN _ _ _⟩|exact ⟨rfl,_,Eq.trans (World.drewN_drewN _ _ _) (congrArg (World.drewN _) (Nat.add_assoc _ _ _))⟩))|(go_at_call 57;(with_reducible refine (zak.calls k (wrap64 (e8+(wrap64 (Int.tdiv (wrap64 (d7+1)) 2)))) 16 f5 _ A5.out).mono ?_);rintro e w' ⟨rfl,⟨nd,rfl⟩⟩;(try first|exact ⟨rfl,_,World.drewN_drewN _ _ _⟩|exact ⟨rfl,_,Eq.trans (World.drewN_drewN _ _ _) (congrArg (World.drewN _) (Nat.add_assoc _ _ _))⟩))|(go_at_call 57;(with_reducible refine (zak.calls k (wrap64 (e7+(wrap64 (Int.tdiv (wrap64 (d7+1)) 2)))) 16 e9 _ A6.out).mono ?_);rintro e w' ⟨rfl,⟨nd,rfl⟩⟩;(try first|exact ⟨rfl,_,World.drewN_drewN _ _ _⟩|exact ⟨rfl,_,Eq.trans (World.drewN_drewN _ _ _) (congrArg (World.drewN _) (Nat.add_assoc _ _ _))⟩))|(go_at_call 27;(with_reducible refine (zaf.calls i5 (-1048576) 1048576 e0 _ A7.out).mono ?_);rintro e w30 ⟨rfl,hb⟩;have n0_:=zaa.mk (zac (g:=j8) (o:=.cells #[.int .i64 e8,.int .i64 e7,.int .i64 d7,.int .i64 j5,.int .i64 j6] 28 (0,0)) (by exact zB (zp5 (zB b8.out) _ _ _ _ _)) hb);have n1_:=zaa.mk (zac (g:=j4) (o:=.cells #[.int .i64 0,.int .i64 0,.int .i64 0,.int .i64 0] 32 (0,0)) (by refine zB ?_;refine zaA ?_ d5.out _;refine zB ?_;refine zaA ?_ d5.out _;refine zB ?_;refine zaA ?_ d5.out _;refine zB ?_;refine zaA ?_ d5.out _;refine zB ?_;refine zaA ?_ d5.out _;refine zB ?_;exact b9.out) hb);have n2_:=zaa.mk (zae (zL2 HB.out d6.out d8.out) hb);clear b8;clear b9;clear HB;have b8:=n0_;have b9:=n1_;have HB:=n2_;clear n0_ n1_ n2_;(try clear hb))|(go_at_call 27;(with_reducible refine (zaf.calls g9 (-1048576) 1048576 d9 _ A8.out).mono ?_);rintro e w31 ⟨rfl,hb⟩;replace b8:=zaa.mk (zac (zB b8.out) hb);replace b9:=zaa.mk (zac (zB b9.out) hb);replace HB:=zaa.mk (zae (zL2 HB.out d6.out d8.out) hb);(try clear hb))|(go_at_call 27;(with_reducible refine (zaf.calls (wrap64 (f5+1)) (-1048576) 1048576 e6 _ A9.out).mono ?_);rintro e w32 ⟨rfl,hb⟩;replace b8:=zaa.mk (zac (zB b8.out) hb);replace b9:=zaa.mk (zac (zB b9.out) hb);replace HB:=zaa.mk (zae (zL2 HB.out d6.out d8.out) hb);(try clear hb))|(go_at_call 27;(with_reducible refine (zaf.calls (wrap64 (e9+1)) (-1048576) 1048576 e5 _ A10.out).mono ?_);rintro e w33 ⟨rfl,hb⟩;replace b8:=zaa.mk (zac (zB b8.out) hb);replace b9:=zaa.mk (zac (zB b9.out) hb);replace HB:=zaa.mk (zae (zL2 HB.out d6.out d8.out) hb);(try clear hb);obtain ⟨s6,s7,s8,s9⟩:=zD4 b9.out;obtain ⟨t6,t7,t8,t9⟩:=zE4 b9.out));try go_wp2_with (first|(go_at_call 22;(with_reducible refine (za0.calls i8 i4 i3 f7 f6 e8 e7 d7 j5 j6 _ A2.out).mono ?_);rintro e w28 ⟨rfl,hb⟩;replace b8:=zaa.mk (zac (zB b8.out) hb);replace b9:=zaa.mk (zac (zB b9.out) hb);replace HB:=zaa.mk (zae (zL2 HB.out d6.out d8.out) hb);(try clear hb);obtain ⟨o4,o5,o6,o7,o8⟩:=zD5 b8.out;obtain ⟨o9,p7,p8,p9,s5⟩:=zE5 b8.out)|(go_at_call 57;(with_reducible refine (zak.calls k (wrap64 (e8 - (wrap64 (Int.tdiv (wrap64 (d7+1)) 2)))) 16 i5 _ A3.out).mono ?_);rintro e w' ⟨rfl,⟨nd,rfl⟩⟩;(try first|exact ⟨rfl,_,World.drewN_drewN _ _ _⟩|exact ⟨rfl,_,Eq.trans (World.drewN_drewN _ _ _) (congrArg (World.drewN _) (Nat.add_assoc _ _ _))⟩))|(go_at_call 57;(with_reducible refine (zak.calls k (wrap64 (e7 - (wrap64 (Int.tdiv (wrap64 (d7+1)) 2)))) 16 g9 _ A4.out).mono ?_);rintro e w' ⟨rfl,⟨nd,rfl⟩⟩;(try first|exact ⟨rfl,_,World.drewN_drewN _ _ _⟩|exact ⟨rfl,_,Eq.trans (World.drewN_drewN _ _ _) (congrArg (World.drewN _) (Nat.add_assoc _ _ _))⟩))|(go_at_call 57;(with_reducible refine (zak.calls k (wrap64 (e8+(wrap64 (Int.tdiv (wrap64 (d7+1)) 2)))) 16 f5 _ A5.out).mono ?_);rintro e w' ⟨rfl,⟨nd,rfl⟩⟩;(try first|exact ⟨rfl,_,World.drewN_drewN _ _ _⟩|exact ⟨rfl,_,Eq.trans (World.drewN_drewN _ _ _) (congrArg (World.drewN _) (Nat.add_assoc _ _ _))⟩))|(go_at_call 57;(with_reducible refine (zak.calls k (wrap64 (e7+(wrap64 (Int.tdiv (wrap64 (d7+1)) 2)))) 16 e9 _ A6.out).mono ?_);rintro e w' ⟨rfl,⟨nd,rfl⟩⟩;(try first|exact ⟨rfl,_,World.drewN_drewN _ _ _⟩|exact ⟨rfl,_,Eq.trans (World.drewN_drewN _ _ _) (congrArg (World.drewN _) (Nat.add_assoc _ _ _))⟩))|(go_at_call 27;(with_reducible refine (zaf.calls i5 (-1048576) 1048576 e0 _ A7.out).mono ?_);rintro e w30 ⟨rfl,hb⟩;have n0_:=zaa.mk (zac (g:=j8) (o:=.cells #[.int .i64 e8,.int .i64 e7,.int .i64 d7,.int .i64 j5,.int .i64 j6] 28 (0,0)) (by exact zB (zp5 (zB b8.out) _ _ _ _ _)) hb);have n1_:=zaa.mk (zac (g:=j4) (o:=.cells #[.int .i64 0,.int .i64 0,.int .i64 0,.int .i64 0] 32 (0,0)) (by refine zB ?_;refine zaA ?_ d5.out _;refine zB ?_;refine zaA ?_ d5.out _;refine zB ?_;refine zaA ?_ d5.out _;refine zB ?_;refine zaA ?_ d5.out _;refine zB ?_;refine zaA ?_ d5.out _;refine zB ?_;exact b9.out) hb);have n2_:=zaa.mk (zae (zL2 HB.out d6.out d8.out) hb);clear b8;clear b9;clear HB;have b8:=n0_;have b9:=n1_;have HB:=n2_;clear n0_ n1_ n2_;(try clear hb))|(go_at_call 27;(with_reducible refine (zaf.calls g9 (-1048576) 1048576 d9 _ A8.out).mono ?_);rintro e w31 ⟨rfl,hb⟩;replace b8:=zaa.mk (zac (zB b8.out) hb);replace b9:=zaa.mk (zac (zB b9.out) hb);replace HB:=zaa.mk (zae (zL2 HB.out d6.out d8.out) hb);(try clear hb))|(go_at_call 27;(with_reducible refine (zaf.calls (wrap64 (f5+1)) (-1048576) 1048576 e6 _ A9.out).mono ?_);rintro e w32 ⟨rfl,hb⟩;replace b8:=zaa.mk (zac (zB b8.out) hb);replace b9:=zaa.mk (zac (zB b9.out) hb);replace HB:=zaa.mk (zae (zL2 HB.out d6.out d8.out) hb);(try clear hb))|(go_at_call 27;(with_reducible refine (zaf.calls (wrap64 (e9+1)) (-1048576) 1048576 e5 _ A10.out).mono ?_);rintro e w33 ⟨rfl,hb⟩;replace b8:=zaa.mk (zac (zB b8.out) hb);replace b9:=zaa.mk (zac (zB b9.out) hb);replace HB:=zaa.mk (zae (zL2 HB.out d6.out d8.out) hb);(try clear hb);obtain ⟨s6,s7,s8,s9⟩:=zD4 b9.out;obtain ⟨t6,t7,t8,t9⟩:=zE4 b9.out)))
   refine bodyPost_ret (results_cell_row rfl _ _ j4 32 #[.int .i64 0,.int .i64 0,.int .i64 0,.int .i64 0] (0,0) _ rfl (by exact zB (zp4 (zB b9.out) _ _ _ _)) Try.underlying32 rfl (by kernel_rfl)) rfl ?_
   exact zG
  ·rw [if_neg c23] at H
   have c23b0:decide (e5≤d9)=false:=decide_eq_false c23
   clear c23
   simp only [Option.some.injEq,Prod.mk.injEq] at H
   obtain ⟨rfl,rfl,rfl,rfl⟩:=H
   go_enter Try.func17,Try.ntmps17
   go_wp2_with (first|((with_reducible refine zaC (N:=1) rfl ?_);refine zbx (N:=1) #[.int .i64 i8,.int .i64 i4,.int .i64 i3,.int .i64 f7,.int .i64 f6] 28 ?_;intro j8 hg w35 hbox hb;have n0_:=zaa.mk (zae (zL HB.out) hb);have n1_:=zaa.mk (hbox);have n2_:=zaa.mk ((zS hg (zL HB.out):w.heap.size≤j8));have n3_:=n2_;clear HB;have HB:=n0_;have b8:=n1_;have z8:=n2_;have d6:=n3_;clear n0_ n1_ n2_ n3_;clear hb hbox hg)|((with_reducible refine zaC (N:=2) rfl ?_);refine zbx (N:=2) #[.int .i64 0,.int .i64 0,.int .i64 0,.int .i64 0] 32 ?_;intro j4 hg w36 hbox hb;have n0_:=zaa.mk (zac (zB b8.out) hb);have n1_:=zaa.mk (zae (zL1 HB.out d6.out) hb);have n2_:=zaa.mk (hbox);have n3_:=zaa.mk ((zS hg (zL1 HB.out d6.out):w.heap.size≤j4));have n4_:=n3_;have n5_:=zaa.mk (zne hg (zB b8.out));have n6_:=zaa.mk (zen hg (zB b8.out));clear b8;clear HB;have b8:=n0_;have HB:=n1_;have b9:=n2_;have z9:=n3_;have d8:=n4_;have k6:=n5_;have d5:=n6_;clear n0_ n1_ n2_ n3_ n4_ n5_ n6_;clear hb hbox hg;have hnb37:=k6.out;have hnc37:=d5.out;obtain ⟨D7,D8,D9,E0,E1⟩:=zD5 b8.out;obtain ⟨E2,E3,E4,E5,E6⟩:=zE5 b8.out)|(go_at_call 22;(with_reducible refine (za0.calls i8 i4 i3 f7 f6 e8 e7 d7 j5 j6 _ A2.out).mono ?_);rintro e w39 ⟨rfl,hb⟩;replace b8:=zaa.mk (zac (zB b8.out) hb);replace b9:=zaa.mk (zac (zB b9.out) hb);replace HB:=zaa.mk (zae (zL2 HB.out d6.out d8.out) hb);(try clear hb);obtain ⟨u3,u4,u5,u6,u7⟩:=zD5 b8.out;obtain ⟨u9,y5,y6,y7,y8⟩:=zE5 b8.out)|(go_at_call 57;(with_reducible refine (zak.calls k (wrap64 (e8 - (wrap64 (Int.tdiv (wrap64 (d7+1)) 2)))) 16 i5 _ A3.out).mono ?_);rintro e w' ⟨rfl,⟨nd,rfl⟩⟩;(try first|exact ⟨rfl,_,World.drewN_drewN _ _ _⟩|exact ⟨rfl,_,Eq.trans (World.drewN_drewN _ _ _) (congrArg (World.drewN _) (Nat.add_assoc _ _ _))⟩))|(go_at_call 57;(with_reducible refine (zak.calls k (wrap64 (e7 - (wrap64 (Int.tdiv (wrap64 (d7+1)) 2)))) 16 g9 _ A4.out).mono ?_);rintro e w' ⟨rfl,⟨nd,rfl⟩⟩;(try first|exact ⟨rfl,_,World.drewN_drewN _ _ _⟩|exact ⟨rfl,_,Eq.trans (World.drewN_drewN _ _ _) (congrArg (World.drewN _) (Nat.add_assoc _ _ _))⟩))|(go_at_call 57;(with_reducible refine (zak.calls k (wrap64 (e8+(wrap64 (Int.tdiv (wrap64 (d7+1)) 2)))) 16 f5 _ A5.out).mono ?_);rintro e w' ⟨rfl,⟨nd,rfl⟩⟩;(try first|exact ⟨rfl,_,World.drewN_drewN _ _ _⟩|exact ⟨rfl,_,Eq.trans (World.drewN_drewN _ _ _) (congrArg (World.drewN _) (Nat.add_assoc _ _ _))⟩))|(go_at_call 57;(with_reducible refine (zak.calls k (wrap64 (e7+(wrap64 (Int.tdiv (wrap64 (d7+1)) 2)))) 16 e9 _ A6.out).mono ?_);rintro e w' ⟨rfl,⟨nd,rfl⟩⟩;(try first|exact ⟨rfl,_,World.drewN_drewN _ _ _⟩|exact ⟨rfl,_,Eq.trans (World.drewN_drewN _ _ _) (congrArg (World.drewN _) (Nat.add_assoc _ _ _))⟩))|(go_at_call 27;(with_reducible refine (zaf.calls i5 (-1048576) 1048576 e0 _ A7.out).mono ?_);rintro e w41 ⟨rfl,hb⟩;have n0_:=zaa.mk (zac (g:=j8) (o:=.cells #[.int .i64 e8,.int .i64 e7,.int .i64 d7,.int .i64 j5,.int .i64 j6] 28 (0,0)) (by exact zB (zp5 (zB b8.out) _ _ _ _ _)) hb);have n1_:=zaa.mk (zac (g:=j4) (o:=.cells #[.int .i64 0,.int .i64 0,.int .i64 0,.int .i64 0] 32 (0,0)) (by refine zB ?_;refine zaA ?_ d5.out _;refine zB ?_;refine zaA ?_ d5.out _;refine zB ?_;refine zaA ?_ d5.out _;refine zB ?_;refine zaA ?_ d5.out _;refine zB ?_;refine zaA ?_ d5.out _;refine zB ?_;exact b9.out) hb);have n2_:=zaa.mk (zae (zL2 HB.out d6.out d8.out) hb);clear b8;clear b9;clear HB;have b8:=n0_;have b9:=n1_;have HB:=n2_;clear n0_ n1_ n2_;(try clear hb))|(go_at_call 27;(with_reducible refine (zaf.calls g9 (-1048576) 1048576 d9 _ A8.out).mono ?_);rintro e w42 ⟨rfl,hb⟩;replace b8:=zaa.mk (zac (zB b8.out) hb);replace b9:=zaa.mk (zac (zB b9.out) hb);replace HB:=zaa.mk (zae (zL2 HB.out d6.out d8.out) hb);(try clear hb))|(go_at_call 27;(with_reducible refine (zaf.calls (wrap64 (f5+1)) (-1048576) 1048576 e6 _ A9.out).mono ?_);rintro e w43 ⟨rfl,hb⟩;replace b8:=zaa.mk (zac (zB b8.out) hb);replace b9:=zaa.mk (zac (zB b9.out) hb);replace HB:=zaa.mk (zae (zL2 HB.out d6.out d8.out) hb);(try clear hb))|(go_at_call 27;(with_reducible refine (zaf.calls (wrap64 (e9+1)) (-1048576) 1048576 e5 _ A10.out).mono ?_);rintro e w44 ⟨rfl,hb⟩;replace b8:=zaa.mk (zac (zB b8.out) hb);replace b9:=zaa.mk (zac (zB b9.out) hb);replace HB:=zaa.mk (zae (zL2 HB.out d6.out d8.out) hb);(try clear hb);obtain ⟨y9,z1,z2,z3⟩:=zD4 b9.out;obtain ⟨z4,z5,z6,z7⟩:=zE4 b9.out))
   repeat (go_quiet (first|(go_at_call 22;(with_reducible refine (za0.calls i8 i4 i3 f7 f6 e8 e7 d7 j5 j6 _ A2.out).mono ?_);rintro e w39 ⟨rfl,hb⟩;replace b8:=zaa.mk (zac (zB b8.out) hb);replace b9:=zaa.mk (zac (zB b9.out) hb);replace HB:=zaa.mk (zae (zL2 HB.out d6.out d8.out) hb);(try clear hb);obtain ⟨u3,u4,u5,u6,u7⟩:=zD5 b8.out;obtain ⟨u9,y5,y6,y7,y8⟩:=zE5 b8.out)|(go_at_call 57;(with_reducible refine (zak.calls k (wrap64 (e8 - (wrap64 (Int.tdiv (wrap64 (d7+1)) 2)))) 16 i5 _ A3.out).mono ?_);rintro e w' ⟨rfl,⟨nd,rfl⟩⟩;(try first|exact ⟨rfl,_,World.drewN_drewN _ _ _⟩|exact ⟨rfl,_,Eq.trans (World.drewN_drewN _ _ _) (congrArg (World.drewN _) (Nat.add_assoc _ _ _))⟩))|(go_at_call 57;(with_reducible refine (zak.calls k (wrap64 (e7 - (wrap64 (Int.tdiv (wrap64 (d7+1)) 2)))) 16 g9 _ A4.out).mono ?_);rintro e w' ⟨rfl,⟨nd,rfl⟩⟩;(try first|exact ⟨rfl,_,World.drewN_drewN _ _ _⟩|exact ⟨rfl,_,Eq.trans (World.drewN_drewN _ _ _) (congrArg (World.drewN _) (Nat.add_assoc _ _ _))⟩))|(go_at_call 57;(with_reducible refine (zak.calls k (wrap64 (e8+(wrap64 (Int.tdiv (wrap64 (d7+1)) 2)))) 16 f5 _ A5.out).mono ?_);rintro e w' ⟨rfl,⟨nd,rfl⟩⟩;(try first|exact ⟨rfl,_,World.drewN_drewN _ _ _⟩|exact ⟨rfl,_,Eq.trans (World.drewN_drewN _ _ _) (congrArg (World.drewN _) (Nat.add_assoc _ _ _))⟩))|(go_at_call 57;(with_reducible refine (zak.calls k (wrap64 (e7+(wrap64 (Int.tdiv (wrap64 (d7+1)) 2)))) 16 e9 _ A6.out).mono ?_);rintro e w' ⟨rfl,⟨nd,rfl⟩⟩;(try first|exact ⟨rfl,_,World.drewN_drewN _ _ _⟩|exact ⟨rfl,_,Eq.trans (World.drewN_drewN _ _ _) (congrArg (World.drewN _) (Nat.add_assoc _ _ _))⟩))|(go_at_call 27;(with_reducible refine (zaf.calls i5 (-1048576) 1048576 e0 _ A7.out).mono ?_);rintro e w41 ⟨rfl,hb⟩;have n0_:=zaa.mk (zac (g:=j8) (o:=.cells #[.int .i64 e8,.int .i64 e7,.int .i64 d7,.int .i64 j5,.int .i64 j6] 28 (0,0)) (by exact zB (zp5 (zB b8.out) _ _ _ _ _)) hb);have n1_:=zaa.mk (zac (g:=j4) (o:=.cells #[.int .i64 0,.int .i64 0,.int .i64 0,.int .i64 0] 32 (0,0)) (by refine zB ?_;refine zaA ?_ d5.out _;refine zB ?_;refine zaA ?_ d5.out _;refine zB ?_;refine zaA ?_ d5.out _;refine zB ?_;refine zaA ?_ d5.out _;refine zB ?_;refine zaA ?_ d5.out _;refine zB ?_;exact b9.out) hb);have n2_:=zaa.mk (zae (zL2 HB.out d6.out d8.out) hb);clear b8;clear b9;clear HB;have b8:=n0_;have b9:=n1_;have HB:=n2_;clear n0_ n1_ n2_;(try clear hb))|(go_at_call 27;(with_reducible refine (zaf.calls g9 (-1048576) 1048576 d9 _ A8.out).mono ?_);rintro e w42 ⟨rfl,hb⟩;replace b8:=zaa.mk (zac (zB b8.out) hb);replace b9:=zaa.mk (zac (zB b9.out) hb);replace HB:=zaa.mk (zae (zL2 HB.out d6.out d8.out) hb);(try clear hb))|(go_at_call 27;(with_reducible refine (zaf.calls (wrap64 (f5+1)) (-1048576) 1048576 e6 _ A9.out).mono ?_);rintro e w43 ⟨rfl,hb⟩;replace b8:=zaa.mk (zac (zB b8.out) hb);replace b9:=zaa.mk (zac (zB b9.out) hb);replace HB:=zaa.mk (zae (zL2 HB.out d6.out d8.out) hb);(try clear hb))|(go_at_call 27;(with_reducible refine (zaf.calls (wrap64 (e9+1)) (-1048576) 1048576 e5 _ A10.out).mono ?_);rintro e w44 ⟨rfl,hb⟩;replace b8:=zaa.mk (zac (zB b8.out) hb);replace b9:=zaa.mk (zac (zB b9.out) hb);replace HB:=zaa.mk (zae (zL2 HB.out d6.out d8.out) hb);(try clear hb);obtain ⟨y9,z1,z2,z3⟩:=zD4 b9.out;obtain ⟨z4,z5,z6,z7⟩:=zE4 b9.out));try go_wp2_with (first|(go_at_call 22;(with_reducible refine (za0.calls i8 i4 i3 f7 f6 e8 e7 d7 j5 j6 _ A2.out).mono ?_);rintro e w39 ⟨rfl,hb⟩;replace b8:=zaa.mk (zac (zB b8.out) hb);replace b9:=zaa.mk (zac (zB b9.out) hb);replace HB:=zaa.mk (zae (zL2 HB.out d6.out d8.out) hb);(try clear hb);obtain ⟨u3,u4,u5,u6,u7⟩:=zD5 b8.out;obtain ⟨u9,y5,y6,y7,y8⟩:=zE5 b8.out)|(go_at_call 57;(with_reducible refine (zak.calls k (wrap64 (e8 - (wrap64 (Int.tdiv (wrap64 (d7+1)) 2)))) 16 i5 _ A3.out).mono ?_);rintro e w' ⟨rfl,⟨nd,rfl⟩⟩;(try first|exact ⟨rfl,_,World.drewN_drewN _ _ _⟩|exact ⟨rfl,_,Eq.trans (World.drewN_drewN _ _ _) (congrArg (World.drewN _) (Nat.add_assoc _ _ _))⟩))|(go_at_call 57;(with_reducible refine (zak.calls k (wrap64 (e7 - (wrap64 (Int.tdiv (wrap64 (d7+1)) 2)))) 16 g9 _ A4.out).mono ?_);rintro e w' ⟨rfl,⟨nd,rfl⟩⟩;(try first|exact ⟨rfl,_,World.drewN_drewN _ _ _⟩|exact ⟨rfl,_,Eq.trans (World.drewN_drewN _ _ _) (congrArg (World.drewN _) (Nat.add_assoc _ _ _))⟩))|(go_at_call 57;(with_reducible refine (zak.calls k (wrap64 (e8+(wrap64 (Int.tdiv (wrap64 (d7+1)) 2)))) 16 f5 _ A5.out).mono ?_);rintro e w' ⟨rfl,⟨nd,rfl⟩⟩;(try first|exact ⟨rfl,_,World.drewN_drewN _ _ _⟩|exact ⟨rfl,_,Eq.trans (World.drewN_drewN _ _ _) (congrArg (World.drewN _) (Nat.add_assoc _ _ _))⟩))|(go_at_call 57;(with_reducible refine (zak.calls k (wrap64 (e7+(wrap64 (Int.tdiv (wrap64 (d7+1)) 2)))) 16 e9 _ A6.out).mono ?_);rintro e w' ⟨rfl,⟨nd,rfl⟩⟩;(try first|exact ⟨rfl,_,World.drewN_drewN _ _ _⟩|exact ⟨rfl,_,Eq.trans (World.drewN_drewN _ _ _) (congrArg (World.drewN _) (Nat.add_assoc _ _ _))⟩))|(go_at_call 27;(with_reducible refine (zaf.calls i5 (-1048576) 1048576 e0 _ A7.out).mono ?_);rintro e w41 ⟨rfl,hb⟩;have n0_:=zaa.mk (zac (g:=j8) (o:=.cells #[.int .i64 e8,.int .i64 e7,.int .i64 d7,.int .i64 j5,.int .i64 j6] 28 (0,0)) (by exact zB (zp5 (zB b8.out) _ _ _ _ _)) hb);have n1_:=zaa.mk (zac (g:=j4) (o:=.cells #[.int .i64 0,.int .i64 0,.int .i64 0,.int .i64 0] 32 (0,0)) (by refine zB ?_;refine zaA ?_ d5.out _;refine zB ?_;refine zaA ?_ d5.out _;refine zB ?_;refine zaA ?_ d5.out _;refine zB ?_;refine zaA ?_ d5.out _;refine zB ?_;refine zaA ?_ d5.out _;refine zB ?_;exact b9.out) hb);have n2_:=zaa.mk (zae (zL2 HB.out d6.out d8.out) hb);clear b8;clear b9;clear HB;have b8:=n0_;have b9:=n1_;have HB:=n2_;clear n0_ n1_ n2_;(try clear hb))|(go_at_call 27;(with_reducible refine (zaf.calls g9 (-1048576) 1048576 d9 _ A8.out).mono ?_);rintro e w42 ⟨rfl,hb⟩;replace b8:=zaa.mk (zac (zB b8.out) hb);replace b9:=zaa.mk (zac (zB b9.out) hb);replace HB:=zaa.mk (zae (zL2 HB.out d6.out d8.out) hb);(try clear hb))|(go_at_call 27;(with_reducible refine (zaf.calls (wrap64 (f5+1)) (-1048576) 1048576 e6 _ A9.out).mono ?_);rintro e w43 ⟨rfl,hb⟩;replace b8:=zaa.mk (zac (zB b8.out) hb);replace b9:=zaa.mk (zac (zB b9.out) hb);replace HB:=zaa.mk (zae (zL2 HB.out d6.out d8.out) hb);(try clear hb))|(go_at_call 27;(with_reducible refine (zaf.calls (wrap64 (e9+1)) (-1048576) 1048576 e5 _ A10.out).mono ?_);rintro e w44 ⟨rfl,hb⟩;replace b8:=zaa.mk (zac (zB b8.out) hb);replace b9:=zaa.mk (zac (zB b9.out) hb);replace HB:=zaa.mk (zae (zL2 HB.out d6.out d8.out) hb);(try clear hb);obtain ⟨y9,z1,z2,z3⟩:=zD4 b9.out;obtain ⟨z4,z5,z6,z7⟩:=zE4 b9.out)))
   refine bodyPost_ret (results_cell_row rfl _ _ j4 32 #[.int .i64 e0,.int .i64 d9,.int .i64 (wrap64 (e6 - e0)),.int .i64 (wrap64 (e5 - d9))] (0,0) _ rfl (by exact zB (zp4 (zB b9.out) _ _ _ _)) Try.underlying32 rfl (by kernel_rfl)) rfl ?_
   exact zG
def zaQ.f (a0:Int):Option (Int):=if a0<0 then (some (IntKind.u64.wrap (-(IntKind.u64.wrap (a0))))) else (some (IntKind.u64.wrap (a0)))
set_option maxHeartbeats 8000000 in
set_option maxRecDepth 100000 in
theorem zaQ.calls (a0:Int) (r:Int) (w:World) (h:zaQ.f a0=some r) :
 Calls Try.prog 113 #[.int .i64 a0] w fun e w'=>e = .returned (.int .u64 r)∧zaS w w':=by
 have H:(if a0<0 then (some (IntKind.u64.wrap (-(IntKind.u64.wrap (a0))))) else (some (IntKind.u64.wrap (a0))))=some r:=h
 clear h
 by_cases c2:a0<0
 ·rw [if_pos c2] at H
  have c2b0:decide (a0<0)=true:=decide_eq_true c2
  clear c2
  obtain rfl:=Option.some.inj H
  go_enter Try.func113,Try.ntmps113
  go_wp2
  go_ret
  exact zH
 ·rw [if_neg c2] at H
  have c2b0:decide (a0<0)=false:=decide_eq_false c2
  clear c2
  obtain rfl:=Option.some.inj H
  go_enter Try.func113,Try.ntmps113
  go_wp2
  go_ret
  exact zH
def zas.j0:Nat→Int→Int→Int→Bool→Option (Int)
 | 0,_,_,_,_=>none
 | k+1,x0,x1,x5,x17=>if x17=true then (some x5) else ((zaQ.f (wrap64 (x0 - (wrap64 (x1*x5))))).bind fun j7=>((zaQ.f x1).bind fun k8=>(if j7≥(IntKind.u64.wrap (k8 - j7)) then (some (wrap64 (x5+1))) else (some x5))))
def zas.f (k:Nat) (a0:Int) (a1:Int):Option (Int):=if a1=0 then (some 0) else ((zak.f k a0 a1).bind fun j2=>(if a0=(-9223372036854775808) then (zas.j0 k a0 a1 j2 (a1==(-1))) else (zas.j0 k a0 a1 j2 false)))
set_option maxHeartbeats 8000000 in
set_option maxRecDepth 100000 in
theorem zas.calls (k:Nat) (a0:Int) (a1:Int) (r:Int) (w:World) (h:zas.f k a0 a1=some r) :
 Calls Try.prog 68 #[.int .i64 a0,.int .i64 a1] w fun e w'=>e = .returned (.int .i64 r)∧zaS w w':=by
 have H:(if a1=0 then (some 0) else ((zak.f k a0 a1).bind fun j2=>(if a0=(-9223372036854775808) then (zas.j0 k a0 a1 j2 (a1==(-1))) else (zas.j0 k a0 a1 j2 false))))=some r:=h
 clear h
 by_cases c3:a1=0
 ·rw [if_pos c3] at H
  have c3b0:(a1==0)=true:=beq_iff_eq.mpr c3
  have c3b1:(a1 != 0)=false:=bne_eq_false_iff_eq.mpr c3
  clear c3
  obtain rfl:=Option.some.inj H
  go_enter Try.func68,Try.ntmps68
  go_wp2
  go_ret
  exact zH
 ·rw [if_neg c3] at H
  have c3b0:(a1==0)=false:=beq_eq_false_iff_ne.mpr c3
  have c3b1:(a1 != 0)=true:=bne_iff_ne.mpr c3
  obtain ⟨j2,A4,H⟩:=zob H
  replace H:(if a0=(-9223372036854775808) then (zas.j0 k a0 a1 j2 (a1==(-1))) else (zas.j0 k a0 a1 j2 false))=some r:=H
  have HC5:=zaa.mk H
  clear H
  go_enter Try.func68,Try.ntmps68
  go_upto_region 4 with (first|((with_reducible refine zah (f:=57) rfl ?_);refine zgl 11 Try.func57 #[.int .i64 a0,.int .i64 a1] ?_;(with_reducible refine (zak.calls k a0 a1 j2 _ A4.out).mono ?_);rintro e w' ⟨rfl,⟨nd,rfl⟩⟩;refine ⟨_,rfl,?_⟩))
  (try simp only [Act.put,List.setIfInBounds_toArray,List.set_cons_zero,List.set_cons_succ])
  go_cut [17] (fun v17 wc=>∃ (kq:Nat) (x17_4:Bool),v17 = .bool x17_4∧zaa (zas.j0 kq a0 a1 j2 x17_4=some r)∧zaa (kq≤k)∧zaS w wc)
  case first=>
   have H:=HC5.out
   clear HC5
   by_cases c6:a0=(-9223372036854775808)
   ·rw [if_pos c6] at H
    have c6b0:(a0==(-9223372036854775808))=true:=beq_iff_eq.mpr c6
    have c6b1:(a0 != (-9223372036854775808))=false:=bne_eq_false_iff_eq.mpr c6
    clear c6
    (first|rw [c6b0]|(simp only [zbY,zcc];rw [c6b0])|skip)
    have H':=zaa.mk H
    clear H
    go_wp2
    go_meet
    case rel=>exact ⟨_,((a1==(-1))),zF,H',⟨by first|omega|exact Nat.le_refl _⟩,by repeat (first|exact zaS.refl _|apply zaS.step)⟩
   ·rw [if_neg c6] at H
    have c6b0:(a0==(-9223372036854775808))=false:=beq_eq_false_iff_ne.mpr c6
    have c6b1:(a0 != (-9223372036854775808))=true:=bne_iff_ne.mpr c6
    (first|rw [c6b0]|(simp only [zbY,zcc];rw [c6b0])|skip)
    have H':=zaa.mk H
    clear H
    go_wp2
    go_meet
    case rel=>exact ⟨_,(false),zF,H',⟨by first|omega|exact Nat.le_refl _⟩,by repeat (first|exact zaS.refl _|apply zaS.step)⟩
  case rest=>
   clear HC5
   try clear p2
   try clear c3
   try clear c3b0
   try clear c3b1
   try clear c5
   try clear c6
   try clear c6b0
   try clear c6b1
   obtain ⟨kq,x17_4,rfl,HA,HJ4,⟨mc4,rfl⟩⟩:=hcut
   cases kq with
   | zero=>exact absurd HA.out (by simp [zas.j0])
   | succ kj4=>
    have H:=HA.out
    clear HA
    simp only [zas.j0] at H
    by_cases c7:x17_4=true
    ·subst c7
     have H1:(some j2)=some r:=by rw [if_pos rfl] at H;exact H
     clear H
     have H:=H1
     clear H1
     obtain rfl:=Option.some.inj H
     go_wp2
     go_ret
     exact zH
    ·replace c7:=Bool.eq_false_iff.mpr c7
     subst c7
     have H1:((zaQ.f (wrap64 (a0 - (wrap64 (a1*j2))))).bind fun j7=>((zaQ.f a1).bind fun k8=>(if j7≥(IntKind.u64.wrap (k8 - j7)) then (some (wrap64 (j2+1))) else (some j2))))=some r:=by rw [if_neg (show ¬ (false=true) by decide)] at H;exact H
     clear H
     have H:=H1
     clear H1
     obtain ⟨j7,A8,H⟩:=zob H
     replace H:((zaQ.f a1).bind fun k8=>(if j7≥(IntKind.u64.wrap (k8 - j7)) then (some (wrap64 (j2+1))) else (some j2)))=some r:=H
     obtain ⟨k8,A9,H⟩:=zob H
     replace H:(if j7≥(IntKind.u64.wrap (k8 - j7)) then (some (wrap64 (j2+1))) else (some j2))=some r:=H
     by_cases c10:j7≥(IntKind.u64.wrap (k8 - j7))
     ·rw [if_pos c10] at H
      have c10b0:decide ((IntKind.u64.wrap (k8 - j7))≤j7)=true:=decide_eq_true c10
      clear c10
      obtain rfl:=Option.some.inj H
      go_wp2_with (first|((with_reducible refine zah (f:=113) rfl ?_);refine zgl 24 Try.func113 #[.int .i64 (wrap64 (a0 - (wrap64 (a1*j2))))] ?_;(with_reducible refine (zaQ.calls (wrap64 (a0 - (wrap64 (a1*j2)))) j7 _ A8.out).mono ?_);rintro e w' ⟨rfl,⟨nd,rfl⟩⟩;refine ⟨_,rfl,?_⟩)|((with_reducible refine zah (f:=113) rfl ?_);refine zgl 27 Try.func113 #[.int .i64 a1] ?_;(with_reducible refine (zaQ.calls a1 k8 _ A9.out).mono ?_);rintro e w' ⟨rfl,⟨nd,rfl⟩⟩;refine ⟨_,rfl,?_⟩))
      go_ret
      exact zH
     ·rw [if_neg c10] at H
      have c10b0:decide ((IntKind.u64.wrap (k8 - j7))≤j7)=false:=decide_eq_false c10
      clear c10
      obtain rfl:=Option.some.inj H
      go_wp2_with (first|((with_reducible refine zah (f:=113) rfl ?_);refine zgl 24 Try.func113 #[.int .i64 (wrap64 (a0 - (wrap64 (a1*j2))))] ?_;(with_reducible refine (zaQ.calls (wrap64 (a0 - (wrap64 (a1*j2)))) j7 _ A8.out).mono ?_);rintro e w' ⟨rfl,⟨nd,rfl⟩⟩;refine ⟨_,rfl,?_⟩)|((with_reducible refine zah (f:=113) rfl ?_);refine zgl 27 Try.func113 #[.int .i64 a1] ?_;(with_reducible refine (zaQ.calls a1 k8 _ A9.out).mono ?_);rintro e w' ⟨rfl,⟨nd,rfl⟩⟩;refine ⟨_,rfl,?_⟩))
      go_ret
      exact zH
end Go.Proofs.Ytlilncnoohfcdaa.Da
