
import Derived.Test.YtlilncnoohfcdaaDax0
import Derived.Test.YtlilncnoohfcdaaDax1
namespace Go.Proofs.Ytlilncnoohfcdaa.Da
open Go.RowKit Go.Proofs.YtlilncnoohfcdaaW.PrintWords Go.Proofs.YtlilncnoohfcdaaW.PrintLast Go.Proofs.YtlilncnoohfcdaaW.PrintMore
attribute [local go_sem] zbr zbu zbD zbH zbq zbp zbv zbt   
set_option linter.unusedVariables false
set_option linter.unusedSimpArgs false
attribute [local go_sem high] eqA23
/-! ### dab_within: function 45 -/
def zaF.f (a0:Int) (a1:Int) (a2:Int):Option (Bool):=if a1≤a0 then (some (decide (a0≤a2))) else (some false)
set_option maxHeartbeats 8000000 in
set_option maxRecDepth 100000 in
theorem zaF.calls (a0:Int) (a1:Int) (a2:Int) (r:Bool) (w:World) (h:zaF.f a0 a1 a2=some r) :
 Calls Try.prog 45 #[.int .i64 a0,.int .i64 a1,.int .i64 a2] w fun e w'=>e = .returned (.bool r)∧zaS w w':=by
 have H:(if a1≤a0 then (some (decide (a0≤a2))) else (some false))=some r:=h
 clear h
 by_cases c4:a1≤a0
 ·rw [if_pos c4] at H
  have c4b0:decide (a1≤a0)=true:=decide_eq_true c4
  clear c4
  obtain rfl:=Option.some.inj H
  go_enter Try.func45,Try.ntmps45
  go_wp2
  go_ret
  exact zH
 ·rw [if_neg c4] at H
  have c4b0:decide (a1≤a0)=false:=decide_eq_false c4
  clear c4
  obtain rfl:=Option.some.inj H
  go_enter Try.func45,Try.ntmps45
  go_wp2
  go_ret
  exact zH
def zbc.f (a0:Int):Option (Bool):=(zaF.f a0 0 65535).bind fun j2=>(some j2)
set_option maxHeartbeats 8000000 in
set_option maxRecDepth 100000 in
theorem zbc.calls (a0:Int) (r:Bool) (w:World) (h:zbc.f a0=some r) :
 Calls Try.prog 46 #[.int .i64 a0] w fun e w'=>e = .returned (.bool r)∧zaS w w':=by
 have H:((zaF.f a0 0 65535).bind fun j2=>(some j2))=some r:=h
 clear h
 obtain ⟨j2,A2,H⟩:=zob H
 replace H:(some j2)=some r:=H
 obtain rfl:=Option.some.inj H
 go_enter Try.func46,Try.ntmps46
 go_wp2_with (first|((with_reducible refine zah (f:=45) rfl ?_);refine zgl 4 Try.func45 #[.int .i64 a0,.int .i64 0,.int .i64 65535] ?_;(with_reducible refine (zaF.calls a0 0 65535 j2 _ A2.out).mono ?_);rintro e w' ⟨rfl,⟨nd,rfl⟩⟩;refine ⟨_,rfl,?_⟩))
 go_ret
 exact zH
def zaR.f (a0:Int) (a1:Int) (a2:Int):Option (Int):=some (mn a2 (mx a0 a1))
set_option maxHeartbeats 8000000 in
set_option maxRecDepth 100000 in
theorem zaR.calls (a0:Int) (a1:Int) (a2:Int) (r:Int) (w:World) (h:zaR.f a0 a1 a2=some r) :
 Calls Try.prog 54 #[.int .i64 a0,.int .i64 a1,.int .i64 a2] w fun e w'=>e = .returned (.int .i64 r)∧Below w.heap.size w w':=by
 have HB:=zaa.mk (Below.refl w.heap.size w)
 have H:(some (mn a2 (mx a0 a1)))=some r:=h
 clear h
 obtain ⟨k3,hji4⟩ : ∃ j_:Int,(mx a0 a1)=j_:=⟨_,rfl⟩
 replace H:(some (mn a2 (k3)))=some r:=by first|(rw [hji4] at H;exact H)|(simp only [hji4] at H ⊢;exact H)
 have hji4_:(if a0<a1 then a1 else a0)=k3:=hji4
 obtain ⟨n3,hji5⟩ : ∃ j_:Int,(mn a2 (k3))=j_:=⟨_,rfl⟩
 replace H:(some n3)=some r:=by first|(rw [hji5] at H;exact H)|(simp only [hji5] at H ⊢;exact H)
 have hji5_:(if (k3)<a2 then (k3) else a2)=n3:=hji5
 obtain rfl:=Option.some.inj H
 go_enter Try.func54,Try.ntmps54
 go_wp2
 go_ret
 exact ⟨by first|rfl|(simp [zaK,zaL] <;> rfl)|(simp only [← hji4,← hji5];first|rfl|(simp [zaK,zaL] <;> rfl))|(simp [*,zaK,zaL] <;> rfl),by repeat (first|(with_reducible first|exact HB.out|apply zan|apply zaj|apply zai)|exact HB.out)⟩
def zbN.f (a0:Int):Option (Int):=(zaR.f a0 0 65535).bind fun j3=>(some j3)
set_option maxHeartbeats 8000000 in
set_option maxRecDepth 100000 in
theorem zbN.calls (a0:Int) (r:Int) (w:World) (h:zbN.f a0=some r) :
 Calls Try.prog 137 #[.int .i64 a0] w fun e w'=>e = .returned (.int .i64 r)∧Below w.heap.size w w':=by
 have HB:=zaa.mk (Below.refl w.heap.size w)
 have H:((zaR.f a0 0 65535).bind fun j3=>(some j3))=some r:=h
 clear h
 obtain ⟨j3,A2,H⟩:=zob H
 replace H:(some j3)=some r:=H
 obtain rfl:=Option.some.inj H
 go_enter Try.func137,Try.ntmps137
 go_wp2_with (first|((with_reducible refine zah (f:=54) rfl ?_);refine zgl 4 Try.func54 #[.int .i64 a0,.int .i64 0,.int .i64 65535] ?_;(with_reducible refine (zaR.calls a0 0 65535 j3 _ A2.out).mono ?_);rintro e w3 ⟨rfl,hb⟩;refine ⟨_,rfl,?_⟩;replace HB:=zaa.mk (zae (zL HB.out) hb);(try clear hb)))
 go_ret
 exact zG
def zb1.f (d8:Int) (d7:Int) (d6:Int) (d5:Int):Option (Int×Int×Int×Int):=(zbN.f d8).bind fun f6=>((zbN.f d7).bind fun e9=>((zbN.f d6).bind fun e7=>((zbN.f d5).bind fun e6=>(some (f6,e9,e7,e6)))))
def zb1.T1:Bool×List (List Nat×List Nat):=(true,[([],[]),([0],[0]),([1],[1]),([],[]),([3],[3]),([4,2],[4]),([],[]),([6],[6]),([7,5],[7]),([],[]),([9],[9]),([10,8],[10]),([2,5,8,11],[2,5,8,11]),([12,11,0,1,2,3,4,5,6,7,8,9,10,11,12],[12])])
def zb1.B1:List Nat:=[0,1,3,0,8,31,0,64,255,0,512,2047,4095,8191]
theorem zb1.tab1:rtab .any (opsOf Try.f104 1)=zb1.T1:=by kernel_rfl
theorem zb1.bits1:zbE zb1.T1.2 zb1.B1=true:=by kernel_rfl
set_option maxHeartbeats 8000000 in
set_option maxRecDepth 100000 in
theorem zb1.calls (d8:Int) (d7:Int) (d6:Int) (d5:Int) (r1:Int) (r2:Int) (r3:Int) (r4:Int) (w:World) (h:zb1.f d8 d7 d6 d5=some (r1,r2,r3,r4)) :
 Calls Try.prog 104 #[.agg #[.int .i64 d8,.int .i64 d7,.int .i64 d6,.int .i64 d5]] w fun e w'=>e = .returned (.agg #[.int .i64 r1,.int .i64 r2,.int .i64 r3,.int .i64 r4])∧Below w.heap.size w w':=by
 have hu23:=Try.underlying23
 have HB:=zaa.mk (Below.refl w.heap.size w)
 have H:((zbN.f d8).bind fun f6=>((zbN.f d7).bind fun e9=>((zbN.f d6).bind fun e7=>((zbN.f d5).bind fun e6=>(some (f6,e9,e7,e6))))))=some (r1,r2,r3,r4):=h
 clear h
 obtain ⟨f6,A2,H⟩:=zob H
 replace H:((zbN.f d7).bind fun e9=>((zbN.f d6).bind fun e7=>((zbN.f d5).bind fun e6=>(some (f6,e9,e7,e6)))))=some (r1,r2,r3,r4):=H
 obtain ⟨e9,A3,H⟩:=zob H
 replace H:((zbN.f d6).bind fun e7=>((zbN.f d5).bind fun e6=>(some (f6,e9,e7,e6))))=some (r1,r2,r3,r4):=H
 obtain ⟨e7,A4,H⟩:=zob H
 replace H:((zbN.f d5).bind fun e6=>(some (f6,e9,e7,e6)))=some (r1,r2,r3,r4):=H
 obtain ⟨e6,A5,H⟩:=zob H
 replace H:(some (f6,e9,e7,e6))=some (r1,r2,r3,r4):=H
 simp only [Option.some.injEq,Prod.mk.injEq] at H
 obtain ⟨rfl,rfl,rfl,rfl⟩:=H
 go_enter Try.func104,Try.ntmps104
 try go_wp2_with (first|((with_reducible refine zaC (N:=1) rfl ?_);refine zbx (N:=1) #[.int .i64 d8,.int .i64 d7,.int .i64 d6,.int .i64 d5] 23 ?_;intro i7 hg w6 hbox hb;have n0_:=zaa.mk (zae (zL HB.out) hb);have n1_:=zaa.mk (hbox);have n2_:=zaa.mk ((zS hg (zL HB.out):w.heap.size≤i7));have n3_:=n2_;clear HB;have HB:=n0_;have b8:=n1_;have o4:=n2_;have i4:=n3_;clear n0_ n1_ n2_ n3_;clear hb hbox hg)|((with_reducible refine zaC (N:=2) rfl ?_);refine zbx (N:=2) #[.int .i64 0,.int .i64 0,.int .i64 0,.int .i64 0] 23 ?_;intro i5 hg w7 hbox hb;have n0_:=zaa.mk (zac (zB b8.out) hb);have n1_:=zaa.mk (zae (zL1 HB.out i4.out) hb);have n2_:=zaa.mk (hbox);have n3_:=zaa.mk ((zS hg (zL1 HB.out i4.out):w.heap.size≤i5));have n4_:=n3_;have n5_:=zaa.mk (zne hg (zB b8.out));have n6_:=zaa.mk (zen hg (zB b8.out));clear b8;clear HB;have b8:=n0_;have HB:=n1_;have b9:=n2_;have o5:=n3_;have j6:=n4_;have d9:=n5_;have f5:=n6_;clear n0_ n1_ n2_ n3_ n4_ n5_ n6_;clear hb hbox hg))
 replace b8:=zaa.mk (zaM b8.out)
 replace b9:=zaa.mk (zaM b9.out)
 replace HB:=zaa.mk (zai HB.out)
 refine zbA (n:=14) (S:=fun w'=>w'.cell? ⟨i7,0,none⟩=some (.int .i64 d8)∧w'.cell? ⟨i7,1,none⟩=some (.int .i64 d7)∧w'.cell? ⟨i7,2,none⟩=some (.int .i64 d6)∧w'.cell? ⟨i7,3,none⟩=some (.int .i64 d5)) (ds:=[]) #[false,false,false,false,false,false,false,false,false,false,false,false,false,false] (by kernel_rfl) rfl rfl (zD4 b8.out) (fun hHeld=>?_);refine zbn zb1.tab1 zb1.bits1 (fun HT_ HW_=>?_)
 generalize w7.drew=w8 at b8 b9 HB hHeld ⊢
 refine zpu 0 3 HT_.out ?_
 refine zpu 3 6 HT_.out ?_
 refine zpu 6 9 HT_.out ?_
 refine zpu 9 12 HT_.out ?_
 refine ztk 1 4 HT_.out HW_.out hHeld ?_
 refine ztk 4 7 HT_.out HW_.out hHeld ?_
 refine ztk 7 10 HT_.out HW_.out hHeld ?_
 refine ztk 10 13 HT_.out HW_.out hHeld ?_
 refine zon 2 (some 5) HT_.out (fun K hK=>?_)
 refine zgo Try.func137 #[.int .i64 d8] ?_
 with_reducible refine (zbN.calls d8 f6 _ A2.out).mono ?_
 rintro e w9 ⟨rfl,hb⟩
 refine ⟨_,rfl,?_⟩
 replace b8:=zaa.mk (zac (zB b8.out) hb)
 replace b9:=zaa.mk (zac (zB b9.out) hb)
 replace HB:=zaa.mk (zae (zL2 HB.out i4.out j6.out) hb)
 (try clear hb)
 refine hK.out _ _ (zD4 b8.out) (fun hHeld=>?_)
 clear hK K
 refine znm ?_
 refine zon 5 (some 8) HT_.out (fun K hK=>?_)
 refine zgo Try.func137 #[.int .i64 d7] ?_
 with_reducible refine (zbN.calls d7 e9 _ A3.out).mono ?_
 rintro e w10 ⟨rfl,hb⟩
 refine ⟨_,rfl,?_⟩
 replace b8:=zaa.mk (zac (zB b8.out) hb)
 replace b9:=zaa.mk (zac (zB b9.out) hb)
 replace HB:=zaa.mk (zae (zL2 HB.out i4.out j6.out) hb)
 (try clear hb)
 refine hK.out _ _ (zD4 b8.out) (fun hHeld=>?_)
 clear hK K
 refine znm ?_
 refine zon 8 (some 11) HT_.out (fun K hK=>?_)
 refine zgo Try.func137 #[.int .i64 d6] ?_
 with_reducible refine (zbN.calls d6 e7 _ A4.out).mono ?_
 rintro e w11 ⟨rfl,hb⟩
 refine ⟨_,rfl,?_⟩
 replace b8:=zaa.mk (zac (zB b8.out) hb)
 replace b9:=zaa.mk (zac (zB b9.out) hb)
 replace HB:=zaa.mk (zae (zL2 HB.out i4.out j6.out) hb)
 (try clear hb)
 refine hK.out _ _ (zD4 b8.out) (fun hHeld=>?_)
 clear hK K
 refine znm ?_
 refine zon 11 (some 14) HT_.out (fun K hK=>?_)
 refine zgo Try.func137 #[.int .i64 d5] ?_
 with_reducible refine (zbN.calls d5 e6 _ A5.out).mono ?_
 rintro e w12 ⟨rfl,hb⟩
 refine ⟨_,rfl,?_⟩
 replace b8:=zaa.mk (zac (zB b8.out) hb)
 replace b9:=zaa.mk (zac (zB b9.out) hb)
 replace HB:=zaa.mk (zae (zL2 HB.out i4.out j6.out) hb)
 (try clear hb)
 refine hK.out _ _ (zD4 b8.out) (fun hHeld=>?_)
 clear hK K
 refine znm ?_
 refine zpu 12 15 HT_.out ?_
 refine zon 13 none HT_.out (fun K hK=>?_)
 have hs13:w12.cell? ⟨i5,0,none⟩=some (.int .i64 0):=zc b9.out 0
 have hfs13:=zaB b9.out 0
 have hns13_0:=d9.out
 have hms13_0:=f5.out
 have hs14:w12.cell? ⟨i5,1,none⟩=some (.int .i64 0):=zc b9.out 1
 have hfs14:=zaB b9.out 1
 have hns14_0:=d9.out
 have hms14_0:=f5.out
 have hs15:w12.cell? ⟨i5,2,none⟩=some (.int .i64 0):=zc b9.out 2
 have hfs15:=zaB b9.out 2
 have hns15_0:=d9.out
 have hms15_0:=f5.out
 have hs16:w12.cell? ⟨i5,3,none⟩=some (.int .i64 0):=zc b9.out 3
 have hfs16:=zaB b9.out 3
 have hns16_0:=d9.out
 have hms16_0:=f5.out
 refine skip_ (w1:=?_) (by rfl) rfl ?_ ?_
 rotate_left
 ·go_simp
  rfl
 refine hK.out _ _ ⟨(zs4 d9.out (hHeld.1)),(zs4 d9.out (hHeld.2.1)),(zs4 d9.out (hHeld.2.2.1)),(zs4 d9.out (hHeld.2.2.2))⟩ (fun hHeld=>?_)
 clear hK K
 refine zbT (zbB HT_.out (by kernel_rfl)) ?_
 try go_wp2
 refine bodyPost_ret (results_cell_row rfl _ _ i5 23 #[.int .i64 f6,.int .i64 e9,.int .i64 e7,.int .i64 e6] (0,0) _ rfl (by exact zB (zp4 (zB b9.out) _ _ _ _)) Try.underlying23 rfl (by kernel_rfl)) rfl ?_
 exact zG
def zci.f (d8:Int) (d7:Int) (d6:Int) (d5:Int):Option (Bool):=(zb1.f d8 d7 d6 d5).bind fun e8=>(some (d8==e8.1&&(d7==e8.2.1&&(d6==e8.2.2.1&&(d5==e8.2.2.2)))))
set_option maxHeartbeats 8000000 in
set_option maxRecDepth 100000 in
theorem zci.calls (d8:Int) (d7:Int) (d6:Int) (d5:Int) (r:Bool) (w:World) (h:zci.f d8 d7 d6 d5=some r) :
 Calls Try.prog 47 #[.agg #[.int .i64 d8,.int .i64 d7,.int .i64 d6,.int .i64 d5]] w fun e w'=>e = .returned (.bool r)∧Below w.heap.size w w':=by
 have hu23:=Try.underlying23
 have HB:=zaa.mk (Below.refl w.heap.size w)
 have H:((zb1.f d8 d7 d6 d5).bind fun e8=>(some (d8==e8.1&&(d7==e8.2.1&&(d6==e8.2.2.1&&(d5==e8.2.2.2))))))=some r:=h
 clear h
 obtain ⟨⟨l7,l8,l9,m5⟩,A2,H⟩:=zob H
 replace H:(some (d8==l7&&(d7==l8&&(d6==l9&&(d5==m5)))))=some r:=H
 obtain rfl:=Option.some.inj H
 go_enter Try.func47,Try.ntmps47
 try go_wp2_with (first|((with_reducible refine zaC (N:=1) rfl ?_);refine zbx (N:=1) #[.int .i64 d8,.int .i64 d7,.int .i64 d6,.int .i64 d5] 23 ?_;intro i8 hg w3 hbox hb;have n0_:=zaa.mk (zae (zL HB.out) hb);have n1_:=zaa.mk (hbox);have n2_:=zaa.mk ((zS hg (zL HB.out):w.heap.size≤i8));have n3_:=n2_;clear HB;have HB:=n0_;have i3:=n1_;have o6:=n2_;have n0:=n3_;clear n0_ n1_ n2_ n3_;clear hb hbox hg))
 replace i3:=zaa.mk (zaM i3.out)
 replace HB:=zaa.mk (zai HB.out)
 refine zbA (n:=5) (S:=fun w'=>w'.cell? ⟨i8,0,none⟩=some (.int .i64 d8)∧w'.cell? ⟨i8,1,none⟩=some (.int .i64 d7)∧w'.cell? ⟨i8,2,none⟩=some (.int .i64 d6)∧w'.cell? ⟨i8,3,none⟩=some (.int .i64 d5)) (ds:=[]) #[false,false,false,false,false] (by kernel_rfl) rfl rfl (zD4 i3.out) (fun hHeld=>?_)
 generalize w3.drew=w4 at i3 HB hHeld ⊢
 refine take_ (i:=0) (N:=some 3) (v:=?_) (a':=?_) #[true,false,false,false,false] rfl rfl (by kernel_rfl) (fun _ _ _ h=>h) (Or.inl ⟨by rfl,?_⟩) hHeld ?_ ?_
 rotate_left
 ·rintro w' ⟨s0,s1,s2,s3⟩
  go_simp
  with_reducible rfl
 rotate_left
 ·exact zP
 refine take_ (i:=1) (N:=some 4) (v:=?_) (a':=?_) #[true,true,false,false,false] rfl rfl (by kernel_rfl) (fun _ _ _ h=>h) (Or.inl ⟨by rfl,?_⟩) hHeld ?_ ?_
 rotate_left
 ·rintro w' ⟨s0,s1,s2,s3⟩
  go_simp
  with_reducible rfl
 rotate_left
 ·exact zP
 refine one_ (i:=2) (N:=some 5) #[true,true,true,false,false] rfl rfl (by kernel_rfl) (by decide) (fun K hK=>?_)
 refine zgo Try.func104 #[.agg #[.int .i64 d8,.int .i64 d7,.int .i64 d6,.int .i64 d5]] ?_
 with_reducible refine (zb1.calls d8 d7 d6 d5 l7 l8 l9 m5 _ A2.out).mono ?_
 rintro e w5 ⟨rfl,hb⟩
 refine ⟨_,rfl,?_⟩
 replace i3:=zaa.mk (zac (zB i3.out) hb)
 replace HB:=zaa.mk (zae (zL1 HB.out n0.out) hb)
 (try clear hb)
 refine hK.out _ _ (zD4 i3.out) (fun hHeld=>?_)
 clear hK K
 refine znm ?_
 refine pure_ (i:=3) (N:=some 6) (v:=?_) (a':=?_) #[true,true,true,true,false] rfl rfl (by kernel_rfl) (fun _ _ _ h=>h) (Or.inl ⟨by rfl,?_⟩) ?_ ?_
 rotate_left
 ·intro w'
  go_simp
  with_reducible rfl
 rotate_left
 ·exact zP
 refine pure_ (i:=4) (N:=some 2) (v:=?_) (a':=?_) #[true,true,true,true,true] rfl rfl (by kernel_rfl) (fun _ _ _ h=>h) (Or.inl ⟨by rfl,?_⟩) ?_ ?_
 rotate_left
 ·intro w'
  go_simp
  with_reducible rfl
 rotate_left
 ·exact zP
 refine zbT (by kernel_rfl) ?_
 try go_wp2
 go_ret
 exact zG
mutual
def zbb.l0:Nat→List (S135)→List (S135)→Int→Int→Option (Int)
 | 0,_,_,_,_=>none
 | k+1,x0,x11,x12,x13=>if x13<x12 then (if 0≤x13 then (if x13<(x11.length:Int) then (if (mn ((zat x11 x13).f0) ((zat x11 x13).f1))<0 then (zbb.j1 k x0 x13 x11 x12 x13 true ((zat x11 x13).f0) ((zat x11 x13).f1)) else (zbb.j1 k x0 x13 x11 x12 x13 (decide ((mx ((zat x11 x13).f0) ((zat x11 x13).f1)) > 65535)) ((zat x11 x13).f0) ((zat x11 x13).f1))) else (none)) else (none)) else (some 0)
def zbb.j1:Nat→List (S135)→Int→List (S135)→Int→Int→Bool→Int→Int→Option (Int)
 | 0,_,_,_,_,_,_,_,_=>none
 | k+1,x0,x3,x11,x12,x13,x31,x00,x01=>if x31=true then (some 2) else (if x3 > 0 then (if 0≤(wrap64 (x3 - 1)) then (if (wrap64 (x3 - 1))<(x0.length:Int) then (if x00≤((zat x0 (wrap64 (x3 - 1))).f0) then (some 24) else (zbb.l0 k x0 x11 x12 (wrap64 (x13+1)))) else (none)) else (none)) else (zbb.l0 k x0 x11 x12 (wrap64 (x13+1))))
end
def zbb.f (k:Nat) (l0:List (S135)):Option (Int):=if (l0.length:Int)<2 then (some 1) else (if (l0.length:Int) > 16 then (some 3) else (zbb.l0 k l0 l0 (l0.length:Int) 0))
set_option maxHeartbeats 8000000 in
set_option maxRecDepth 100000 in
theorem zbb.calls (k:Nat) (A0:Option Addr) (c0:Nat) (l0:List (S135)) (r:Int) (w:World) (hr0:Kd.C k135 w A0 l0.length l0) (hc0:l0.length≤c0) (h:zbb.f k l0=some r) :
 Calls Try.prog 105 #[.slice A0 l0.length c0] w fun e w'=>e = .returned (.int .i64 r)∧Below w.heap.size w w':=by
 have hu135:=Try.underlying135
 have HR0:=zaa.mk hr0
 have HC0:=zaa.mk hc0
 clear hr0 hc0
 have HB:=zaa.mk (Below.refl w.heap.size w)
 have H:(if (l0.length:Int)<2 then (some 1) else (if (l0.length:Int) > 16 then (some 3) else (zbb.l0 k l0 l0 (l0.length:Int) 0)))=some r:=h
 clear h
 by_cases c2:(l0.length:Int)<2
 ·rw [if_pos c2] at H
  have c2b0:decide ((l0.length:Int)<2)=true:=decide_eq_true c2
  have c2b1:decide (l0.length<2)=true:=decide_eq_true (by omega)
  clear c2
  obtain rfl:=Option.some.inj H
  go_enter Try.func105,Try.ntmps105
  go_wp2
  repeat (go_quiet (fail);try go_wp2)
  go_ret
  exact zG
 ·rw [if_neg c2] at H
  have c2b0:decide ((l0.length:Int)<2)=false:=decide_eq_false c2
  have c2b1:decide (l0.length<2)=false:=decide_eq_false (by omega)
  clear c2
  by_cases c3:(l0.length:Int) > 16
  ·rw [if_pos c3] at H
   have c3b0:decide (16<(l0.length:Int))=true:=decide_eq_true c3
   have c3b1:decide (16<l0.length)=true:=decide_eq_true (by omega)
   clear c3
   obtain rfl:=Option.some.inj H
   go_enter Try.func105,Try.ntmps105
   go_wp2
   repeat (go_quiet (fail);try go_wp2)
   go_ret
   exact zG
  ·rw [if_neg c3] at H
   have c3b0:decide (16<(l0.length:Int))=false:=decide_eq_false c3
   have c3b1:decide (16<l0.length)=false:=decide_eq_false (by omega)
   clear c3
   have H':=zaa.mk H
   clear H
   go_enter Try.func105,Try.ntmps105
   go_wp2
   repeat (go_quiet (fail);try go_wp2)
   go_loopg [13] k (fun kq v13 w'=>∃ (x13_1:Int),v13 = .int .i64 x13_1∧zaa (zbb.l0 kq l0 l0 (l0.length:Int) x13_1=some r)∧zaa (kq≤k)∧zaa (Below w.heap.size w w'))
   case atStart=>exact ⟨(0),zF,H',⟨Nat.le_refl _⟩,⟨by repeat (first|(with_reducible first|exact HB.out|apply zan|apply zaj|apply zai)|exact HB.out)⟩⟩
   case round=>
    clear H'
    try clear c1
    try clear c2
    try clear c2b0
    try clear c2b1
    try clear p2
    try clear c3
    try clear c3b0
    try clear c3b1
    obtain ⟨x13_1,rfl,HA,j8,HB⟩:=hrel
    cases gk with
    | zero=>exact absurd HA.out (by simp [zbb.l0])
    | succ k1=>
     have H:=HA.out
     clear HA
     simp only [zbb.l0] at H
     by_cases c4:x13_1<(l0.length:Int)
     ·rw [if_pos c4] at H
      have c4b0:decide (x13_1<(l0.length:Int))=true:=decide_eq_true c4
      clear c4
      by_cases c5:0≤x13_1
      ·rw [if_pos c5] at H
       have c5b0:decide (0≤x13_1)=true:=decide_eq_true c5
       clear c5
       by_cases c6:x13_1<(l0.length:Int)
       ·rw [if_pos c6] at H
        have c6b0:decide (x13_1<(l0.length:Int))=true:=decide_eq_true c6
        clear c6
        have HC7:=zaa.mk H
        clear H
        have p114:0≤(x13_1:Int):=of_decide_eq_true (by first|(with_reducible assumption)|assumption)
        have q114:x13_1<(l0.length:Int):=of_decide_eq_true (by first|(with_reducible assumption)|assumption)
        obtain ⟨k5,e114,j4,j5⟩:=zbV HR0.out x13_1 p114 q114
        cases e114
        replace j4:=zad HB.out j4
        replace j5:=zad HB.out j5
        replace p114:=eq_true p114
        replace q114:=eq_true q114
        go_upto_region 8 with (first|((with_reducible refine zaC (N:=4) rfl ?_);(try (refine zcq (by rfl) ?_;dsimp only));refine zbx (N:=4) #[.int .i64 0,.int .i64 0] 135 ?_;intro i6 hg w8 hbox hb;have n0_:=zaa.mk (zae (zL HB.out) hb);have n1_:=zaa.mk (hbox);have n2_:=zaa.mk ((zS hg (zL HB.out):w.heap.size≤i6));have n3_:=n2_;clear HB;have HB:=n0_;have e0:=n1_;have o7:=n2_;have i9:=n3_;clear n0_ n1_ n2_ n3_;clear hb hbox hg;obtain ⟨m6,m7⟩:=zD2 e0.out;obtain ⟨m8,m9⟩:=zE2 e0.out))
        repeat (go_quiet (first|fail))
        (try simp only [Act.put,List.setIfInBounds_toArray,List.set_cons_zero,List.set_cons_succ])
        go_cut [31] (fun v31 wc=>∃ (kq:Nat) (x31_6:Bool),v31 = .bool x31_6∧zaa (zbb.j1 kq l0 x13_1 l0 (l0.length:Int) x13_1 x31_6 ((zat l0 x13_1).f0) ((zat l0 x13_1).f1)=some r)∧zaa (kq≤k1)∧zaa (wc.heap[i6]? = some (.cells #[.int .i64 ((zat l0 x13_1).f0),.int .i64 ((zat l0 x13_1).f1)] 135 (0,0)))∧zaa (Below w.heap.size w wc))
        case first=>
         have H:=HC7.out
         clear HC7
         obtain ⟨j7,hji10⟩ : ∃ j_:Int,(mn ((zat l0 x13_1).f0) ((zat l0 x13_1).f1))=j_:=⟨_,rfl⟩
         replace H:(if (j7)<0 then (zbb.j1 k1 l0 x13_1 l0 (l0.length:Int) x13_1 true ((zat l0 x13_1).f0) ((zat l0 x13_1).f1)) else (zbb.j1 k1 l0 x13_1 l0 (l0.length:Int) x13_1 (decide ((mx ((zat l0 x13_1).f0) ((zat l0 x13_1).f1)) > 65535)) ((zat l0 x13_1).f0) ((zat l0 x13_1).f1)))=some r:=by first|(rw [hji10] at H;exact H)|(simp only [hji10] at H ⊢;exact H)
         have hji10_:(if ((zat l0 x13_1).f1)<((zat l0 x13_1).f0) then ((zat l0 x13_1).f1) else ((zat l0 x13_1).f0))=j7:=hji10
         by_cases c11:(j7)<0
         ·rw [if_pos c11] at H
          have c11b0:decide ((j7)<0)=true:=decide_eq_true c11
          clear c11
          (first|rw [c11b0]|(simp only [zbY,zcc];rw [c11b0])|skip)
          have H':=zaa.mk H
          clear H
          obtain ⟨k6,k7⟩:=zD2 e0.out
          obtain ⟨k8,k9⟩:=zE2 e0.out
          go_wp2
          repeat (go_quiet (fail);try go_wp2)
          go_meet
          case rel=>exact ⟨_,(true),zF,H',⟨by have:=j8.out;first|omega|exact Nat.le_refl _⟩,⟨by refine zB ?_;refine zar (cs:=#[.int .i64 ((zat l0 x13_1).f0),.int .i64 0]) ?_ 1 _ rfl;refine zB ?_;refine zar (cs:=#[.int .i64 0,.int .i64 0]) ?_ 0 _ rfl;refine zB ?_;exact e0.out⟩,⟨by repeat (first|(with_reducible first|exact HB.out|apply zan|apply zaj|apply zai|refine zao ?_ i9.out)|exact HB.out)⟩⟩
         ·rw [if_neg c11] at H
          have c11b0:decide ((j7)<0)=false:=decide_eq_false c11
          clear c11
          (first|rw [c11b0]|(simp only [zbY,zcc];rw [c11b0])|skip)
          obtain ⟨k4,hji13⟩ : ∃ j_:Int,(mx ((zat l0 x13_1).f0) ((zat l0 x13_1).f1))=j_:=⟨_,rfl⟩
          replace H:(zbb.j1 k1 l0 x13_1 l0 (l0.length:Int) x13_1 (decide ((k4) > 65535)) ((zat l0 x13_1).f0) ((zat l0 x13_1).f1))=some r:=by first|(rw [hji13] at H;exact H)|(simp only [hji13] at H ⊢;exact H)
          have hji13_:(if ((zat l0 x13_1).f0)<((zat l0 x13_1).f1) then ((zat l0 x13_1).f1) else ((zat l0 x13_1).f0))=k4:=hji13
          have H':=zaa.mk H
          clear H
          obtain ⟨l3,l4⟩:=zD2 e0.out
          obtain ⟨l5,l6⟩:=zE2 e0.out
          go_wp2
          repeat (go_quiet (fail);try go_wp2)
          go_meet
          case rel=>exact ⟨_,(decide ((k4) > 65535)),(by first|rfl|(simp;done)|(simp only [← hji13] <;> (first|rfl|simp))|(simp [*];done)),H',⟨by have:=j8.out;first|omega|exact Nat.le_refl _⟩,⟨by refine zB ?_;refine zar (cs:=#[.int .i64 ((zat l0 x13_1).f0),.int .i64 0]) ?_ 1 _ rfl;refine zB ?_;refine zar (cs:=#[.int .i64 0,.int .i64 0]) ?_ 0 _ rfl;refine zB ?_;exact e0.out⟩,⟨by repeat (first|(with_reducible first|exact HB.out|apply zan|apply zaj|apply zai|refine zao ?_ i9.out)|exact HB.out)⟩⟩
        case rest=>
         clear HC7
         try clear c1
         try clear p1
         try clear q1
         try clear hx1
         try clear c2
         try clear c2b0
         try clear c2b1
         try clear p2
         try clear c3
         try clear c3b0
         try clear c3b1
         try clear c4
         try clear c4b0
         try clear c5
         try clear c5b0
         try clear c6
         try clear c6b0
         try clear c10
         try clear c11
         try clear c11b0
         try clear p11
         try clear q11
         try clear hx11
         try clear k6 k7 l3 l4 m6 m7 k8 k9 l5 l6 m8 m9
         try clear j4
         try clear j5
         try clear p114
         try clear p2
         try clear q114
         obtain ⟨kq,x31_6,rfl,HA,HJ6,e0,HB⟩:=hcut
         cases kq with
         | zero=>exact absurd HA.out (by simp [zbb.j1])
         | succ kj6=>
          have H:=HA.out
          clear HA
          simp only [zbb.j1] at H
          by_cases c15:x31_6=true
          ·subst c15
           have H1:(some 2)=some r:=by rw [if_pos rfl] at H;exact H
           clear H
           have H:=H1
           clear H1
           obtain rfl:=Option.some.inj H
           go_wp2
           repeat (go_quiet (fail);try go_wp2)
           go_ret
           exact zG
          ·replace c15:=Bool.eq_false_iff.mpr c15
           subst c15
           have H1:(if x13_1 > 0 then (if 0≤(wrap64 (x13_1 - 1)) then (if (wrap64 (x13_1 - 1))<(l0.length:Int) then (if ((zat l0 x13_1).f0)≤((zat l0 (wrap64 (x13_1 - 1))).f0) then (some 24) else (zbb.l0 kj6 l0 l0 (l0.length:Int) (wrap64 (x13_1+1)))) else (none)) else (none)) else (zbb.l0 kj6 l0 l0 (l0.length:Int) (wrap64 (x13_1+1))))=some r:=by rw [if_neg (show ¬ (false=true) by decide)] at H;exact H
           clear H
           have H:=H1
           clear H1
           by_cases c16:x13_1 > 0
           ·rw [if_pos c16] at H
            have c16b0:decide (0<x13_1)=true:=decide_eq_true c16
            clear c16
            obtain ⟨e5,hji17⟩ : ∃ j_:Int,(wrap64 (x13_1 - 1))=j_:=⟨_,rfl⟩
            replace H:(if 0≤(e5) then (if (e5)<(l0.length:Int) then (if ((zat l0 x13_1).f0)≤((zat l0 (e5)).f0) then (some 24) else (zbb.l0 kj6 l0 l0 (l0.length:Int) (wrap64 (x13_1+1)))) else (none)) else (none))=some r:=by first|(rw [hji17] at H;exact H)|(simp only [hji17] at H ⊢;exact H)
            have hji17w:(IntKind.i64.wrap (x13_1 - 1))=e5:=(zbY _).trans hji17
            by_cases c18:0≤(e5)
            ·rw [if_pos c18] at H
             have c18b0:decide (0≤(e5))=true:=decide_eq_true c18
             clear c18
             by_cases c19:(e5)<(l0.length:Int)
             ·rw [if_pos c19] at H
              have c19b0:decide ((e5)<(l0.length:Int))=true:=decide_eq_true c19
              clear c19
              by_cases c20:((zat l0 x13_1).f0)≤((zat l0 (e5)).f0)
              ·rw [if_pos c20] at H
               have c20b0:decide (((zat l0 x13_1).f0)≤((zat l0 (e5)).f0))=true:=decide_eq_true c20
               clear c20
               obtain rfl:=Option.some.inj H
               have n4:wc.cell? ⟨i6,0,none⟩=some (.int .i64 ((zat l0 x13_1).f0)):=zc e0.out 0
               have n5:wc.cell? ⟨i6,1,none⟩=some (.int .i64 ((zat l0 x13_1).f1)):=zc e0.out 1
               obtain ⟨n6,n7⟩:=zE2 e0.out
               have p116:0≤((e5):Int):=of_decide_eq_true (by first|(with_reducible assumption)|assumption)
               have q116:(e5)<(l0.length:Int):=of_decide_eq_true (by first|(with_reducible assumption)|assumption)
               obtain ⟨j9,e116,f7,g9⟩:=zbV HR0.out (e5) p116 q116
               obtain rfl:k5=j9:=(by injection e116)
               replace f7:=zad HB.out f7
               replace g9:=zad HB.out g9
               replace p116:=eq_true p116
               replace q116:=eq_true q116
               go_wp2
               repeat (go_quiet (fail);try go_wp2)
               go_ret
               exact ⟨by first|rfl|(simp [zaK,zaL] <;> rfl)|(simp only [← hji17];first|rfl|(simp [zaK,zaL] <;> rfl))|(simp [*,zaK,zaL] <;> rfl),by repeat (first|(with_reducible first|exact HB.out|apply zan|apply zaj|apply zai|refine zao ?_ i9.out)|exact HB.out)⟩
              ·rw [if_neg c20] at H
               have c20b0:decide (((zat l0 x13_1).f0)≤((zat l0 (e5)).f0))=false:=decide_eq_false c20
               clear c20
               have H':=zaa.mk H
               clear H
               have n8:wc.cell? ⟨i6,0,none⟩=some (.int .i64 ((zat l0 x13_1).f0)):=zc e0.out 0
               have n9:wc.cell? ⟨i6,1,none⟩=some (.int .i64 ((zat l0 x13_1).f1)):=zc e0.out 1
               obtain ⟨o2,o3⟩:=zE2 e0.out
               have p116:0≤((e5):Int):=of_decide_eq_true (by first|(with_reducible assumption)|assumption)
               have q116:(e5)<(l0.length:Int):=of_decide_eq_true (by first|(with_reducible assumption)|assumption)
               obtain ⟨j9,e116,f7,g9⟩:=zbV HR0.out (e5) p116 q116
               obtain rfl:k5=j9:=(by injection e116)
               replace f7:=zad HB.out f7
               replace g9:=zad HB.out g9
               replace p116:=eq_true p116
               replace q116:=eq_true q116
               go_wp2
               repeat (go_quiet (fail);try go_wp2)
               go_roundg kj6
               case measure=>have:=j8.out;have:=HJ6.out;omega
               case rel=>exact ⟨(wrap64 (x13_1+1)),zF,H',⟨by have:=j8.out;have:=HJ6.out;omega⟩,⟨by repeat (first|(with_reducible first|exact HB.out|apply zan|apply zaj|apply zai|refine zao ?_ i9.out)|exact HB.out)⟩⟩
             ·rw [if_neg c19] at H
              exact absurd H (by simp)
            ·rw [if_neg c18] at H
             exact absurd H (by simp)
           ·rw [if_neg c16] at H
            have c16b0:decide (0<x13_1)=false:=decide_eq_false c16
            clear c16
            have H':=zaa.mk H
            clear H
            go_wp2
            repeat (go_quiet (fail);try go_wp2)
            go_roundg kj6
            case measure=>have:=j8.out;have:=HJ6.out;omega
            case rel=>exact ⟨(wrap64 (x13_1+1)),zF,H',⟨by have:=j8.out;have:=HJ6.out;omega⟩,⟨by repeat (first|(with_reducible first|exact HB.out|apply zan|apply zaj|apply zai|refine zao ?_ i9.out)|exact HB.out)⟩⟩
       ·rw [if_neg c6] at H
        exact absurd H (by simp)
      ·rw [if_neg c5] at H
       exact absurd H (by simp)
     ·rw [if_neg c4] at H
      have c4b0:decide (x13_1<(l0.length:Int))=false:=decide_eq_false c4
      clear c4
      obtain rfl:=Option.some.inj H
      go_wp2
      repeat (go_quiet (fail);try go_wp2)
      go_ret
      exact zG
end Go.Proofs.Ytlilncnoohfcdaa.Da
