
import Derived.Test.YtlilncnoohfcdaaDax0
import Derived.Test.YtlilncnoohfcdaaDax3
namespace Go.Proofs.Ytlilncnoohfcdaa.Da
open Go.RowKit Go.Proofs.YtlilncnoohfcdaaW.PrintWords Go.Proofs.YtlilncnoohfcdaaW.PrintLast Go.Proofs.YtlilncnoohfcdaaW.PrintMore
attribute [local go_sem] zbr zbu zbD zbH zbq zbp zbv zbt   
set_option linter.unusedVariables false
set_option linter.unusedSimpArgs false
/-! ### num_Floor: function 55 -/
def zbR.f (a0:Int) (a1:Int):Option (Int):=if a1=0 then (some 0) else (if a1=(-1) then (if a0=(-9223372036854775808) then (some 9223372036854775807) else (some (wrap64 (-a0)))) else (if (Int.tmod a0 a1)=0 then (some (wrap64 (Int.tdiv a0 a1))) else (if ((decide (a0<0)) != (decide (a1<0)))=true then (some (wrap64 ((wrap64 (Int.tdiv a0 a1)) - 1))) else (some (wrap64 (Int.tdiv a0 a1))))))
set_option maxHeartbeats 8000000 in
set_option maxRecDepth 100000 in
theorem zbR.calls (a0:Int) (a1:Int) (r:Int) (w:World) (h:zbR.f a0 a1=some r) :
 Calls Try.prog 55 #[.int .i64 a0,.int .i64 a1] w fun e w'=>e = .returned (.int .i64 r)∧zaS w w':=by
 have H:(if a1=0 then (some 0) else (if a1=(-1) then (if a0=(-9223372036854775808) then (some 9223372036854775807) else (some (wrap64 (-a0)))) else (if (Int.tmod a0 a1)=0 then (some (wrap64 (Int.tdiv a0 a1))) else (if ((decide (a0<0)) != (decide (a1<0)))=true then (some (wrap64 ((wrap64 (Int.tdiv a0 a1)) - 1))) else (some (wrap64 (Int.tdiv a0 a1)))))))=some r:=h
 clear h
 by_cases c3:a1=0
 ·rw [if_pos c3] at H
  have c3b0:(a1==0)=true:=beq_iff_eq.mpr c3
  have c3b1:(a1 != 0)=false:=bne_eq_false_iff_eq.mpr c3
  clear c3
  obtain rfl:=Option.some.inj H
  go_enter Try.func55,Try.ntmps55
  go_wp2
  go_ret
  exact zH
 ·rw [if_neg c3] at H
  have c3b0:(a1==0)=false:=beq_eq_false_iff_ne.mpr c3
  have c3b1:(a1 != 0)=true:=bne_iff_ne.mpr c3
  by_cases c4:a1=(-1)
  ·rw [if_pos c4] at H
   have c4b0:(a1==(-1))=true:=beq_iff_eq.mpr c4
   have c4b1:(a1 != (-1))=false:=bne_eq_false_iff_eq.mpr c4
   clear c4
   by_cases c5:a0=(-9223372036854775808)
   ·rw [if_pos c5] at H
    have c5b0:(a0==(-9223372036854775808))=true:=beq_iff_eq.mpr c5
    have c5b1:(a0 != (-9223372036854775808))=false:=bne_eq_false_iff_eq.mpr c5
    clear c5
    obtain rfl:=Option.some.inj H
    go_enter Try.func55,Try.ntmps55
    go_wp2
    go_ret
    exact zH
   ·rw [if_neg c5] at H
    have c5b0:(a0==(-9223372036854775808))=false:=beq_eq_false_iff_ne.mpr c5
    have c5b1:(a0 != (-9223372036854775808))=true:=bne_iff_ne.mpr c5
    obtain rfl:=Option.some.inj H
    go_enter Try.func55,Try.ntmps55
    go_wp2
    go_ret
    exact zH
  ·rw [if_neg c4] at H
   have c4b0:(a1==(-1))=false:=beq_eq_false_iff_ne.mpr c4
   have c4b1:(a1 != (-1))=true:=bne_iff_ne.mpr c4
   by_cases c6:(Int.tmod a0 a1)=0
   ·rw [if_pos c6] at H
    have c6b0:((Int.tmod a0 a1)==0)=true:=beq_iff_eq.mpr c6
    have c6b1:((Int.tmod a0 a1) != 0)=false:=bne_eq_false_iff_eq.mpr c6
    clear c6
    obtain rfl:=Option.some.inj H
    go_enter Try.func55,Try.ntmps55
    go_wp2
    go_ret
    exact zH
   ·rw [if_neg c6] at H
    have c6b0:((Int.tmod a0 a1)==0)=false:=beq_eq_false_iff_ne.mpr c6
    have c6b1:((Int.tmod a0 a1) != 0)=true:=bne_iff_ne.mpr c6
    by_cases c7:((decide (a0<0)) != (decide (a1<0)))=true
    ·rw [if_pos c7] at H
     have c7b0:((decide (a0<0)) != (decide (a1<0)))=true:=c7
     (try (have c7b1:decide ((decide (a0<0))=(decide (a1<0)))=false:=by simpa using c7))
     (try (have c7b2:((decide (a0<0))==(decide (a1<0)))=false:=by simpa using c7))
     (try (have c7b3 : ¬ ((decide (a0<0))=(decide (a1<0))):=by simpa using c7))
     clear c7
     obtain rfl:=Option.some.inj H
     go_enter Try.func55,Try.ntmps55
     go_wp2
     go_ret
     exact zH
    ·rw [if_neg c7] at H
     have c7b0:((decide (a0<0)) != (decide (a1<0)))=false:=by simpa using c7
     (try (have c7b1:decide ((decide (a0<0))=(decide (a1<0)))=true:=by simpa using c7))
     (try (have c7b2:((decide (a0<0))==(decide (a1<0)))=true:=by simpa using c7))
     clear c7
     obtain rfl:=Option.some.inj H
     go_enter Try.func55,Try.ntmps55
     go_wp2
     go_ret
     exact zH
def zbW.f (f5:Int) (e9:Int) (e7:Int) (e5:Int) (d6:Int):Option (Int×Int×Int×Int×Int):=(zaR.f f5 (-16777216) 16777216).bind fun e8=>((zaR.f e9 (-16777216) 16777216).bind fun e6=>((zaR.f e7 0 1024).bind fun d9=>((zaR.f e5 0 65535).bind fun d8=>((zbR.f d6 65536).bind fun d7=>(some (e8,e6,d9,d8,wrap64 (d6 - (wrap64 (d7*65536)))))))))
def zbW.T1:Bool×List (List Nat×List Nat):=(true,[([],[]),([0],[0]),([1],[1]),([],[]),([3],[3]),([4,2],[4]),([],[]),([6],[6]),([7,5],[7]),([],[]),([9],[9]),([10,8],[10]),([],[]),([12],[12]),([],[]),([14],[14]),([15,11],[15]),([16],[16]),([13,17],[13,17]),([2,5,8,11,18],[2,5,8,11,18]),([19,16,0,1,2,3,4,5,6,7,8,9,10,11,12,13,14,15,16,17,18,19],[19])])
def zbW.B1:List Nat:=[0,1,3,0,8,31,0,64,255,0,512,2047,0,4096,0,16384,53247,118783,262143,524287,1048575]
theorem zbW.tab1:rtab .any (opsOf Try.f52 1)=zbW.T1:=by kernel_rfl
theorem zbW.bits1:zbE zbW.T1.2 zbW.B1=true:=by kernel_rfl
set_option maxHeartbeats 8000000 in
set_option maxRecDepth 100000 in
theorem zbW.calls (f5:Int) (e9:Int) (e7:Int) (e5:Int) (d6:Int) (r1:Int) (r2:Int) (r3:Int) (r4:Int) (r5:Int) (w:World) (h:zbW.f f5 e9 e7 e5 d6=some (r1,r2,r3,r4,r5)) :
 Calls Try.prog 52 #[.agg #[.int .i64 f5,.int .i64 e9,.int .i64 e7,.int .i64 e5,.int .i64 d6]] w fun e w'=>e = .returned (.agg #[.int .i64 r1,.int .i64 r2,.int .i64 r3,.int .i64 r4,.int .i64 r5])∧Below w.heap.size w w':=by
 have hu28:=Try.underlying28
 have HB:=zaa.mk (Below.refl w.heap.size w)
 have H:((zaR.f f5 (-16777216) 16777216).bind fun e8=>((zaR.f e9 (-16777216) 16777216).bind fun e6=>((zaR.f e7 0 1024).bind fun d9=>((zaR.f e5 0 65535).bind fun d8=>((zbR.f d6 65536).bind fun d7=>(some (e8,e6,d9,d8,wrap64 (d6 - (wrap64 (d7*65536))))))))))=some (r1,r2,r3,r4,r5):=h
 clear h
 obtain ⟨e8,A2,H⟩:=zob H
 replace H:((zaR.f e9 (-16777216) 16777216).bind fun e6=>((zaR.f e7 0 1024).bind fun d9=>((zaR.f e5 0 65535).bind fun d8=>((zbR.f d6 65536).bind fun d7=>(some (e8,e6,d9,d8,wrap64 (d6 - (wrap64 (d7*65536)))))))))=some (r1,r2,r3,r4,r5):=H
 obtain ⟨e6,A3,H⟩:=zob H
 replace H:((zaR.f e7 0 1024).bind fun d9=>((zaR.f e5 0 65535).bind fun d8=>((zbR.f d6 65536).bind fun d7=>(some (e8,e6,d9,d8,wrap64 (d6 - (wrap64 (d7*65536))))))))=some (r1,r2,r3,r4,r5):=H
 obtain ⟨d9,A4,H⟩:=zob H
 replace H:((zaR.f e5 0 65535).bind fun d8=>((zbR.f d6 65536).bind fun d7=>(some (e8,e6,d9,d8,wrap64 (d6 - (wrap64 (d7*65536)))))))=some (r1,r2,r3,r4,r5):=H
 obtain ⟨d8,A5,H⟩:=zob H
 replace H:((zbR.f d6 65536).bind fun d7=>(some (e8,e6,d9,d8,wrap64 (d6 - (wrap64 (d7*65536))))))=some (r1,r2,r3,r4,r5):=H
 obtain ⟨d7,A6,H⟩:=zob H
 replace H:(some (e8,e6,d9,d8,wrap64 (d6 - (wrap64 (d7*65536)))))=some (r1,r2,r3,r4,r5):=H
 simp only [Option.some.injEq,Prod.mk.injEq] at H
 obtain ⟨rfl,rfl,rfl,rfl,rfl⟩:=H
 go_enter Try.func52,Try.ntmps52
 try go_wp2_with (first|((with_reducible refine zaC (N:=1) rfl ?_);refine zbx (N:=1) #[.int .i64 f5,.int .i64 e9,.int .i64 e7,.int .i64 e5,.int .i64 d6] 28 ?_;intro i4 hg w7 hbox hb;have n0_:=zaa.mk (zae (zL HB.out) hb);have n1_:=zaa.mk (hbox);have n2_:=zaa.mk ((zS hg (zL HB.out):w.heap.size≤i4));have n3_:=n2_;clear HB;have HB:=n0_;have b8:=n1_;have i8:=n2_;have i5:=n3_;clear n0_ n1_ n2_ n3_;clear hb hbox hg)|((with_reducible refine zaC (N:=2) rfl ?_);refine zbx (N:=2) #[.int .i64 0,.int .i64 0,.int .i64 0,.int .i64 0,.int .i64 0] 28 ?_;intro f6 hg w8 hbox hb;have n0_:=zaa.mk (zac (zB b8.out) hb);have n1_:=zaa.mk (zae (zL1 HB.out i5.out) hb);have n2_:=zaa.mk (hbox);have n3_:=zaa.mk ((zS hg (zL1 HB.out i5.out):w.heap.size≤f6));have n4_:=n3_;have n5_:=zaa.mk (zne hg (zB b8.out));have n6_:=zaa.mk (zen hg (zB b8.out));clear b8;clear HB;have b8:=n0_;have HB:=n1_;have b9:=n2_;have i9:=n3_;have i6:=n4_;have d5:=n5_;have e0:=n6_;clear n0_ n1_ n2_ n3_ n4_ n5_ n6_;clear hb hbox hg))
 replace b8:=zaa.mk (zaM b8.out)
 replace b9:=zaa.mk (zaM b9.out)
 replace HB:=zaa.mk (zai HB.out)
 refine zbA (n:=21) (S:=fun w'=>w'.cell? ⟨i4,0,none⟩=some (.int .i64 f5)∧w'.cell? ⟨i4,1,none⟩=some (.int .i64 e9)∧w'.cell? ⟨i4,2,none⟩=some (.int .i64 e7)∧w'.cell? ⟨i4,3,none⟩=some (.int .i64 e5)∧w'.cell? ⟨i4,4,none⟩=some (.int .i64 d6)) (ds:=[]) #[false,false,false,false,false,false,false,false,false,false,false,false,false,false,false,false,false,false,false,false,false] (by kernel_rfl) rfl rfl (zD5 b8.out) (fun hHeld=>?_);refine zbn zbW.tab1 zbW.bits1 (fun HT_ HW_=>?_)
 generalize w8.drew=w9 at b8 b9 HB hHeld ⊢
 refine zpu 0 3 HT_.out ?_
 refine zpu 3 6 HT_.out ?_
 refine zpu 6 9 HT_.out ?_
 refine zpu 9 12 HT_.out ?_
 refine zpu 12 15 HT_.out ?_
 refine zpu 14 17 HT_.out ?_
 refine ztk 1 4 HT_.out HW_.out hHeld ?_
 refine ztk 4 7 HT_.out HW_.out hHeld ?_
 refine ztk 7 10 HT_.out HW_.out hHeld ?_
 refine ztk 10 13 HT_.out HW_.out hHeld ?_
 refine ztk 13 16 HT_.out HW_.out hHeld ?_
 refine ztk 15 18 HT_.out HW_.out hHeld ?_
 refine zon 2 (some 5) HT_.out (fun K hK=>?_)
 refine zgo Try.func54 #[.int .i64 f5,.int .i64 (-16777216),.int .i64 16777216] ?_
 with_reducible refine (zaR.calls f5 (-16777216) 16777216 e8 _ A2.out).mono ?_
 rintro e w10 ⟨rfl,hb⟩
 refine ⟨_,rfl,?_⟩
 replace b8:=zaa.mk (zac (zB b8.out) hb)
 replace b9:=zaa.mk (zac (zB b9.out) hb)
 replace HB:=zaa.mk (zae (zL2 HB.out i5.out i6.out) hb)
 (try clear hb)
 refine hK.out _ _ (zD5 b8.out) (fun hHeld=>?_)
 clear hK K
 refine znm ?_
 refine zon 5 (some 8) HT_.out (fun K hK=>?_)
 refine zgo Try.func54 #[.int .i64 e9,.int .i64 (-16777216),.int .i64 16777216] ?_
 with_reducible refine (zaR.calls e9 (-16777216) 16777216 e6 _ A3.out).mono ?_
 rintro e w11 ⟨rfl,hb⟩
 refine ⟨_,rfl,?_⟩
 replace b8:=zaa.mk (zac (zB b8.out) hb)
 replace b9:=zaa.mk (zac (zB b9.out) hb)
 replace HB:=zaa.mk (zae (zL2 HB.out i5.out i6.out) hb)
 (try clear hb)
 refine hK.out _ _ (zD5 b8.out) (fun hHeld=>?_)
 clear hK K
 refine znm ?_
 refine zon 8 (some 11) HT_.out (fun K hK=>?_)
 refine zgo Try.func54 #[.int .i64 e7,.int .i64 0,.int .i64 1024] ?_
 with_reducible refine (zaR.calls e7 0 1024 d9 _ A4.out).mono ?_
 rintro e w12 ⟨rfl,hb⟩
 refine ⟨_,rfl,?_⟩
 replace b8:=zaa.mk (zac (zB b8.out) hb)
 replace b9:=zaa.mk (zac (zB b9.out) hb)
 replace HB:=zaa.mk (zae (zL2 HB.out i5.out i6.out) hb)
 (try clear hb)
 refine hK.out _ _ (zD5 b8.out) (fun hHeld=>?_)
 clear hK K
 refine znm ?_
 refine zon 11 (some 14) HT_.out (fun K hK=>?_)
 refine zgo Try.func54 #[.int .i64 e5,.int .i64 0,.int .i64 65535] ?_
 with_reducible refine (zaR.calls e5 0 65535 d8 _ A5.out).mono ?_
 rintro e w13 ⟨rfl,hb⟩
 refine ⟨_,rfl,?_⟩
 replace b8:=zaa.mk (zac (zB b8.out) hb)
 replace b9:=zaa.mk (zac (zB b9.out) hb)
 replace HB:=zaa.mk (zae (zL2 HB.out i5.out i6.out) hb)
 (try clear hb)
 refine hK.out _ _ (zD5 b8.out) (fun hHeld=>?_)
 clear hK K
 refine znm ?_
 refine zon 16 (some 19) HT_.out (fun K hK=>?_)
 refine zgo Try.func55 #[.int .i64 d6,.int .i64 65536] ?_
 with_reducible refine (zbR.calls d6 65536 d7 _ A6.out).mono ?_
 rintro e w' ⟨rfl,⟨nd,rfl⟩⟩
 refine ⟨_,rfl,?_⟩
 refine hK.out _ _ (zD5 b8.out) (fun hHeld=>?_)
 clear hK K
 refine znm ?_
 refine zpu 17 20 HT_.out ?_
 refine zpu 18 21 HT_.out ?_
 refine zpu 19 22 HT_.out ?_
 refine zon 20 none HT_.out (fun K hK=>?_)
 have hs14:w13.cell? ⟨f6,0,none⟩=some (.int .i64 0):=zc b9.out 0
 have hfs14:=zaB b9.out 0
 have hns14_0:=d5.out
 have hms14_0:=e0.out
 have hs15:w13.cell? ⟨f6,1,none⟩=some (.int .i64 0):=zc b9.out 1
 have hfs15:=zaB b9.out 1
 have hns15_0:=d5.out
 have hms15_0:=e0.out
 have hs16:w13.cell? ⟨f6,2,none⟩=some (.int .i64 0):=zc b9.out 2
 have hfs16:=zaB b9.out 2
 have hns16_0:=d5.out
 have hms16_0:=e0.out
 have hs17:w13.cell? ⟨f6,3,none⟩=some (.int .i64 0):=zc b9.out 3
 have hfs17:=zaB b9.out 3
 have hns17_0:=d5.out
 have hms17_0:=e0.out
 have hs18:w13.cell? ⟨f6,4,none⟩=some (.int .i64 0):=zc b9.out 4
 have hfs18:=zaB b9.out 4
 have hns18_0:=d5.out
 have hms18_0:=e0.out
 refine skip_ (w1:=?_) (by rfl) rfl ?_ ?_
 rotate_left
 ·go_simp
  rfl
 refine hK.out _ _ ⟨(zs5 d5.out (hHeld.1)),(zs5 d5.out (hHeld.2.1)),(zs5 d5.out (hHeld.2.2.1)),(zs5 d5.out (hHeld.2.2.2.1)),(zs5 d5.out (hHeld.2.2.2.2))⟩ (fun hHeld=>?_)
 clear hK K
 refine zbT (zbB HT_.out (by kernel_rfl)) ?_
 try go_wp2
 refine bodyPost_ret (results_cell_row rfl _ _ f6 28 #[.int .i64 e8,.int .i64 e6,.int .i64 d9,.int .i64 d8,.int .i64 (wrap64 (d6 - (wrap64 (d7*65536))))] (0,0) _ rfl (by exact zB (zp5 (zB b9.out) _ _ _ _ _)) Try.underlying28 rfl (by kernel_rfl)) rfl ?_
 exact zG
def zca.f (a0:Int):Option (Int):=(zbR.f a0 16).bind fun g9=>((zaR.f g9 (-1048576) 1048576).bind fun i3=>(some i3))
set_option maxHeartbeats 8000000 in
set_option maxRecDepth 100000 in
theorem zca.calls (a0:Int) (r:Int) (w:World) (h:zca.f a0=some r) :
 Calls Try.prog 53 #[.int .i64 a0] w fun e w'=>e = .returned (.int .i64 r)∧Below w.heap.size w w':=by
 have HB:=zaa.mk (Below.refl w.heap.size w)
 have H:((zbR.f a0 16).bind fun g9=>((zaR.f g9 (-1048576) 1048576).bind fun i3=>(some i3)))=some r:=h
 clear h
 obtain ⟨g9,A2,H⟩:=zob H
 replace H:((zaR.f g9 (-1048576) 1048576).bind fun i3=>(some i3))=some r:=H
 obtain ⟨i3,A3,H⟩:=zob H
 replace H:(some i3)=some r:=H
 obtain rfl:=Option.some.inj H
 go_enter Try.func53,Try.ntmps53
 go_wp2_with (first|((with_reducible refine zah (f:=55) rfl ?_);refine zgl 4 Try.func55 #[.int .i64 a0,.int .i64 16] ?_;(with_reducible refine (zbR.calls a0 16 g9 _ A2.out).mono ?_);rintro e w' ⟨rfl,⟨nd,rfl⟩⟩;refine ⟨_,rfl,?_⟩)|((with_reducible refine zah (f:=54) rfl ?_);refine zgl 5 Try.func54 #[.int .i64 g9,.int .i64 (-1048576),.int .i64 1048576] ?_;(with_reducible refine (zaR.calls g9 (-1048576) 1048576 i3 _ A3.out).mono ?_);rintro e w4 ⟨rfl,hb⟩;refine ⟨_,rfl,?_⟩;replace HB:=zaa.mk (zae (zL HB.out) hb);(try clear hb)))
 go_ret
 exact zG
def zbw.f (a0:Int):Option (Int):=(zbR.f a0 16).bind fun f7=>(some (mn (wrap64 (f7+1)) 1048576))
set_option maxHeartbeats 8000000 in
set_option maxRecDepth 100000 in
theorem zbw.calls (a0:Int) (r:Int) (w:World) (h:zbw.f a0=some r) :
 Calls Try.prog 56 #[.int .i64 a0] w fun e w'=>e = .returned (.int .i64 r)∧Below w.heap.size w w':=by
 have HB:=zaa.mk (Below.refl w.heap.size w)
 have H:((zbR.f a0 16).bind fun f7=>(some (mn (wrap64 (f7+1)) 1048576)))=some r:=h
 clear h
 obtain ⟨f7,A2,H⟩:=zob H
 replace H:(some (mn (wrap64 (f7+1)) 1048576))=some r:=H
 obtain ⟨i7,hji3⟩ : ∃ j_:Int,(mn (wrap64 (f7+1)) 1048576)=j_:=⟨_,rfl⟩
 replace H:(some i7)=some r:=by first|(rw [hji3] at H;exact H)|(simp only [hji3] at H ⊢;exact H)
 (try rw [hji3] at A2)
 (try (have hji3h:i7≤1048576:=by (rw [← hji3];unfold mn;(repeat' split) <;> omega)))
 (try (have hji3g:i7≤64:=by omega))
 have hji3_:(if 1048576<(wrap64 (f7+1)) then 1048576 else (wrap64 (f7+1)))=i7:=hji3
 obtain rfl:=Option.some.inj H
 go_enter Try.func56,Try.ntmps56
 go_wp2_with (first|((with_reducible refine zah (f:=55) rfl ?_);refine zgl 4 Try.func55 #[.int .i64 a0,.int .i64 16] ?_;(with_reducible refine (zbR.calls a0 16 f7 _ A2.out).mono ?_);rintro e w' ⟨rfl,⟨nd,rfl⟩⟩;refine ⟨_,rfl,?_⟩))
 go_ret
 exact ⟨by first|rfl|(simp [zaK,zaL] <;> rfl)|(simp only [← hji3];first|rfl|(simp [zaK,zaL] <;> rfl))|(simp [*,zaK,zaL] <;> rfl),by repeat (first|(with_reducible first|exact HB.out|apply zan|apply zaj|apply zai)|exact HB.out)⟩
end Go.Proofs.Ytlilncnoohfcdaa.Da
