
import Derived.Test.YtlilncnoohfcdaaDax0
import Derived.Test.YtlilncnoohfcdaaDax1
namespace Go.Proofs.Ytlilncnoohfcdaa.Da
open Go.RowKit Go.Proofs.YtlilncnoohfcdaaW.PrintWords Go.Proofs.YtlilncnoohfcdaaW.PrintLast Go.Proofs.YtlilncnoohfcdaaW.PrintMore
attribute [local go_sem] zbr zbu zbD zbH zbq zbp zbv zbt   
set_option linter.unusedVariables false
set_option linter.unusedSimpArgs false
attribute [local go_sem high] eqA23
/-! ### imageeditorref27_in: function 49 -/
def zam.f (a0:Int) (a1:Int) (a2:Int):Option (Bool):=if a0≥a1 then (some (decide (a0≤a2))) else (some false)
set_option maxHeartbeats 8000000 in
set_option maxRecDepth 100000 in
theorem zam.calls (a0:Int) (a1:Int) (a2:Int) (r:Bool) (w:World) (h:zam.f a0 a1 a2=some r) :
 Calls Try.prog 49 #[.int .i64 a0,.int .i64 a1,.int .i64 a2] w fun e w'=>e = .returned (.bool r)∧zaS w w':=by
 have H:(if a0≥a1 then (some (decide (a0≤a2))) else (some false))=some r:=h
 clear h
 by_cases c4:a0≥a1
 ·rw [if_pos c4] at H
  have c4b0:decide (a1≤a0)=true:=decide_eq_true c4
  clear c4
  obtain rfl:=Option.some.inj H
  go_enter Try.func49,Try.ntmps49
  go_wp2
  go_ret
  exact zH
 ·rw [if_neg c4] at H
  have c4b0:decide (a1≤a0)=false:=decide_eq_false c4
  clear c4
  obtain rfl:=Option.some.inj H
  go_enter Try.func49,Try.ntmps49
  go_wp2
  go_ret
  exact zH
def zaf.f (a0:Int) (a1:Int) (a2:Int):Option (Int):=some (mn a2 (mx a0 a1))
set_option maxHeartbeats 8000000 in
set_option maxRecDepth 100000 in
theorem zaf.calls (a0:Int) (a1:Int) (a2:Int) (r:Int) (w:World) (h:zaf.f a0 a1 a2=some r) :
 Calls Try.prog 27 #[.int .i64 a0,.int .i64 a1,.int .i64 a2] w fun e w'=>e = .returned (.int .i64 r)∧Below w.heap.size w w':=by
 have HB:=zaa.mk (Below.refl w.heap.size w)
 have H:(some (mn a2 (mx a0 a1)))=some r:=h
 clear h
 obtain ⟨k3,hji4⟩ : ∃ j_:Int,(mx a0 a1)=j_:=⟨_,rfl⟩
 replace H:(some (mn a2 (k3)))=some r:=by first|(rw [hji4] at H;exact H)|(simp only [hji4] at H ⊢;exact H)
 have hji4_:(if a0<a1 then a1 else a0)=k3:=hji4
 obtain ⟨l6,hji5⟩ : ∃ j_:Int,(mn a2 (k3))=j_:=⟨_,rfl⟩
 replace H:(some l6)=some r:=by first|(rw [hji5] at H;exact H)|(simp only [hji5] at H ⊢;exact H)
 have hji5_:(if (k3)<a2 then (k3) else a2)=l6:=hji5
 obtain rfl:=Option.some.inj H
 go_enter Try.func27,Try.ntmps27
 go_wp2
 go_ret
 exact ⟨by first|rfl|(simp [zaK,zaL] <;> rfl)|(simp only [← hji4,← hji5];first|rfl|(simp [zaK,zaL] <;> rfl))|(simp [*,zaK,zaL] <;> rfl),by repeat (first|(with_reducible first|exact HB.out|apply zan|apply zaj|apply zai)|exact HB.out)⟩
def za4.f (a0:Int):Option (Int):=(zaf.f a0 0 65535).bind fun i7=>(some i7)
set_option maxHeartbeats 8000000 in
set_option maxRecDepth 100000 in
theorem za4.calls (a0:Int) (r:Int) (w:World) (h:za4.f a0=some r) :
 Calls Try.prog 65 #[.int .i64 a0] w fun e w'=>e = .returned (.int .i64 r)∧Below w.heap.size w w':=by
 have HB:=zaa.mk (Below.refl w.heap.size w)
 have H:((zaf.f a0 0 65535).bind fun i7=>(some i7))=some r:=h
 clear h
 obtain ⟨i7,A2,H⟩:=zob H
 replace H:(some i7)=some r:=H
 obtain rfl:=Option.some.inj H
 go_enter Try.func65,Try.ntmps65
 go_wp2_with (first|((with_reducible refine zah (f:=27) rfl ?_);refine zgl 4 Try.func27 #[.int .i64 a0,.int .i64 0,.int .i64 65535] ?_;(with_reducible refine (zaf.calls a0 0 65535 i7 _ A2.out).mono ?_);rintro e w3 ⟨rfl,hb⟩;refine ⟨_,rfl,?_⟩;replace HB:=zaa.mk (zae (zL HB.out) hb);(try clear hb)))
 go_ret
 exact zG
def zbg.f (d8:Int) (d7:Int) (d6:Int) (d5:Int):Option (Int×Int×Int×Int):=(za4.f d8).bind fun f6=>((za4.f d7).bind fun e8=>((za4.f d6).bind fun e6=>((za4.f d5).bind fun e5=>(some (f6,e8,e6,e5)))))
def zbg.T1:Bool×List (List Nat×List Nat):=(true,[([],[]),([0],[0]),([1],[1]),([],[]),([3],[3]),([4,2],[4]),([],[]),([6],[6]),([7,5],[7]),([],[]),([9],[9]),([10,8],[10]),([2,5,8,11],[2,5,8,11]),([12,11,0,1,2,3,4,5,6,7,8,9,10,11,12],[12])])
def zbg.B1:List Nat:=[0,1,3,0,8,31,0,64,255,0,512,2047,4095,8191]
theorem zbg.tab1:rtab .any (opsOf Try.f106 1)=zbg.T1:=by kernel_rfl
theorem zbg.bits1:zbE zbg.T1.2 zbg.B1=true:=by kernel_rfl
set_option maxHeartbeats 8000000 in
set_option maxRecDepth 100000 in
theorem zbg.calls (d8:Int) (d7:Int) (d6:Int) (d5:Int) (r1:Int) (r2:Int) (r3:Int) (r4:Int) (w:World) (h:zbg.f d8 d7 d6 d5=some (r1,r2,r3,r4)) :
 Calls Try.prog 106 #[.agg #[.int .i64 d8,.int .i64 d7,.int .i64 d6,.int .i64 d5]] w fun e w'=>e = .returned (.agg #[.int .i64 r1,.int .i64 r2,.int .i64 r3,.int .i64 r4])∧Below w.heap.size w w':=by
 have hu23:=Try.underlying23
 have HB:=zaa.mk (Below.refl w.heap.size w)
 have H:((za4.f d8).bind fun f6=>((za4.f d7).bind fun e8=>((za4.f d6).bind fun e6=>((za4.f d5).bind fun e5=>(some (f6,e8,e6,e5))))))=some (r1,r2,r3,r4):=h
 clear h
 obtain ⟨f6,A2,H⟩:=zob H
 replace H:((za4.f d7).bind fun e8=>((za4.f d6).bind fun e6=>((za4.f d5).bind fun e5=>(some (f6,e8,e6,e5)))))=some (r1,r2,r3,r4):=H
 obtain ⟨e8,A3,H⟩:=zob H
 replace H:((za4.f d6).bind fun e6=>((za4.f d5).bind fun e5=>(some (f6,e8,e6,e5))))=some (r1,r2,r3,r4):=H
 obtain ⟨e6,A4,H⟩:=zob H
 replace H:((za4.f d5).bind fun e5=>(some (f6,e8,e6,e5)))=some (r1,r2,r3,r4):=H
 obtain ⟨e5,A5,H⟩:=zob H
 replace H:(some (f6,e8,e6,e5))=some (r1,r2,r3,r4):=H
 simp only [Option.some.injEq,Prod.mk.injEq] at H
 obtain ⟨rfl,rfl,rfl,rfl⟩:=H
 go_enter Try.func106,Try.ntmps106
 try go_wp2_with (first|((with_reducible refine zaC (N:=1) rfl ?_);refine zbx (N:=1) #[.int .i64 d8,.int .i64 d7,.int .i64 d6,.int .i64 d5] 23 ?_;intro i4 hg w6 hbox hb;have n0_:=zaa.mk (zae (zL HB.out) hb);have n1_:=zaa.mk (hbox);have n2_:=zaa.mk ((zS hg (zL HB.out):w.heap.size≤i4));have n3_:=n2_;clear HB;have HB:=n0_;have b8:=n1_;have l7:=n2_;have g9:=n3_;clear n0_ n1_ n2_ n3_;clear hb hbox hg)|((with_reducible refine zaC (N:=2) rfl ?_);refine zbx (N:=2) #[.int .i64 0,.int .i64 0,.int .i64 0,.int .i64 0] 23 ?_;intro i3 hg w7 hbox hb;have n0_:=zaa.mk (zac (zB b8.out) hb);have n1_:=zaa.mk (zae (zL1 HB.out g9.out) hb);have n2_:=zaa.mk (hbox);have n3_:=zaa.mk ((zS hg (zL1 HB.out g9.out):w.heap.size≤i3));have n4_:=n3_;have n5_:=zaa.mk (zne hg (zB b8.out));have n6_:=zaa.mk (zen hg (zB b8.out));clear b8;clear HB;have b8:=n0_;have HB:=n1_;have b9:=n2_;have l8:=n3_;have j2:=n4_;have d9:=n5_;have f5:=n6_;clear n0_ n1_ n2_ n3_ n4_ n5_ n6_;clear hb hbox hg))
 replace b8:=zaa.mk (zaM b8.out)
 replace b9:=zaa.mk (zaM b9.out)
 replace HB:=zaa.mk (zai HB.out)
 refine zbA (n:=14) (S:=fun w'=>w'.cell? ⟨i4,0,none⟩=some (.int .i64 d8)∧w'.cell? ⟨i4,1,none⟩=some (.int .i64 d7)∧w'.cell? ⟨i4,2,none⟩=some (.int .i64 d6)∧w'.cell? ⟨i4,3,none⟩=some (.int .i64 d5)) (ds:=[]) #[false,false,false,false,false,false,false,false,false,false,false,false,false,false] (by kernel_rfl) rfl rfl (zD4 b8.out) (fun hHeld=>?_);refine zbn zbg.tab1 zbg.bits1 (fun HT_ HW_=>?_)
 generalize w7.drew=w8 at b8 b9 HB hHeld ⊢
 refine zpu 0 3 HT_.out ?_
 refine zpu 3 6 HT_.out ?_
 refine zpu 6 9 HT_.out ?_
 refine zpu 9 12 HT_.out ?_
 refine ztk 1 4 HT_.out HW_.out hHeld ?_
 refine ztk 4 7 HT_.out HW_.out hHeld ?_
 refine ztk 7 10 HT_.out HW_.out hHeld ?_
 refine ztk 10 13 HT_.out HW_.out hHeld ?_
 refine zon 2 (some 5) HT_.out (fun K hK=>?_)
 refine zgo Try.func65 #[.int .i64 d8] ?_
 with_reducible refine (za4.calls d8 f6 _ A2.out).mono ?_
 rintro e w9 ⟨rfl,hb⟩
 refine ⟨_,rfl,?_⟩
 replace b8:=zaa.mk (zac (zB b8.out) hb)
 replace b9:=zaa.mk (zac (zB b9.out) hb)
 replace HB:=zaa.mk (zae (zL2 HB.out g9.out j2.out) hb)
 (try clear hb)
 refine hK.out _ _ (zD4 b8.out) (fun hHeld=>?_)
 clear hK K
 refine znm ?_
 refine zon 5 (some 8) HT_.out (fun K hK=>?_)
 refine zgo Try.func65 #[.int .i64 d7] ?_
 with_reducible refine (za4.calls d7 e8 _ A3.out).mono ?_
 rintro e w10 ⟨rfl,hb⟩
 refine ⟨_,rfl,?_⟩
 replace b8:=zaa.mk (zac (zB b8.out) hb)
 replace b9:=zaa.mk (zac (zB b9.out) hb)
 replace HB:=zaa.mk (zae (zL2 HB.out g9.out j2.out) hb)
 (try clear hb)
 refine hK.out _ _ (zD4 b8.out) (fun hHeld=>?_)
 clear hK K
 refine znm ?_
 refine zon 8 (some 11) HT_.out (fun K hK=>?_)
 refine zgo Try.func65 #[.int .i64 d6] ?_
 with_reducible refine (za4.calls d6 e6 _ A4.out).mono ?_
 rintro e w11 ⟨rfl,hb⟩
 refine ⟨_,rfl,?_⟩
 replace b8:=zaa.mk (zac (zB b8.out) hb)
 replace b9:=zaa.mk (zac (zB b9.out) hb)
 replace HB:=zaa.mk (zae (zL2 HB.out g9.out j2.out) hb)
 (try clear hb)
 refine hK.out _ _ (zD4 b8.out) (fun hHeld=>?_)
 clear hK K
 refine znm ?_
 refine zon 11 (some 14) HT_.out (fun K hK=>?_)
 refine zgo Try.func65 #[.int .i64 d5] ?_
 with_reducible refine (za4.calls d5 e5 _ A5.out).mono ?_
 rintro e w12 ⟨rfl,hb⟩
 refine ⟨_,rfl,?_⟩
 replace b8:=zaa.mk (zac (zB b8.out) hb)
 replace b9:=zaa.mk (zac (zB b9.out) hb)
 replace HB:=zaa.mk (zae (zL2 HB.out g9.out j2.out) hb)
 (try clear hb)
 refine hK.out _ _ (zD4 b8.out) (fun hHeld=>?_)
 clear hK K
 refine znm ?_
 refine zpu 12 15 HT_.out ?_
 refine zon 13 none HT_.out (fun K hK=>?_)
 have hs13:w12.cell? ⟨i3,0,none⟩=some (.int .i64 0):=zc b9.out 0
 have hfs13:=zaB b9.out 0
 have hns13_0:=d9.out
 have hms13_0:=f5.out
 have hs14:w12.cell? ⟨i3,1,none⟩=some (.int .i64 0):=zc b9.out 1
 have hfs14:=zaB b9.out 1
 have hns14_0:=d9.out
 have hms14_0:=f5.out
 have hs15:w12.cell? ⟨i3,2,none⟩=some (.int .i64 0):=zc b9.out 2
 have hfs15:=zaB b9.out 2
 have hns15_0:=d9.out
 have hms15_0:=f5.out
 have hs16:w12.cell? ⟨i3,3,none⟩=some (.int .i64 0):=zc b9.out 3
 have hfs16:=zaB b9.out 3
 have hns16_0:=d9.out
 have hms16_0:=f5.out
 refine skip_ (w1:=?_) (by rfl) rfl ?_ ?_
 rotate_left
 ·go_simp
  rfl
 refine hK.out _ _ ⟨(zs4 d9.out (hHeld.1)),(zs4 d9.out (hHeld.2.1)),(zs4 d9.out (hHeld.2.2.1)),(zs4 d9.out (hHeld.2.2.2))⟩ (fun hHeld=>?_)
 clear hK K
 refine zbT (zbB HT_.out (by kernel_rfl)) ?_
 try go_wp2
 refine bodyPost_ret (results_cell_row rfl _ _ i3 23 #[.int .i64 f6,.int .i64 e8,.int .i64 e6,.int .i64 e5] (0,0) _ rfl (by exact zB (zp4 (zB b9.out) _ _ _ _)) Try.underlying23 rfl (by kernel_rfl)) rfl ?_
 exact zG
def zby.f (d8:Int) (d7:Int) (d6:Int) (d5:Int):Option (Bool):=(zbg.f d8 d7 d6 d5).bind fun e7=>(some (e7.1==d8&&(e7.2.1==d7&&(e7.2.2.1==d6&&(e7.2.2.2==d5)))))
set_option maxHeartbeats 8000000 in
set_option maxRecDepth 100000 in
theorem zby.calls (d8:Int) (d7:Int) (d6:Int) (d5:Int) (r:Bool) (w:World) (h:zby.f d8 d7 d6 d5=some r) :
 Calls Try.prog 50 #[.agg #[.int .i64 d8,.int .i64 d7,.int .i64 d6,.int .i64 d5]] w fun e w'=>e = .returned (.bool r)∧Below w.heap.size w w':=by
 have hu23:=Try.underlying23
 have HB:=zaa.mk (Below.refl w.heap.size w)
 have H:((zbg.f d8 d7 d6 d5).bind fun e7=>(some (e7.1==d8&&(e7.2.1==d7&&(e7.2.2.1==d6&&(e7.2.2.2==d5))))))=some r:=h
 clear h
 obtain ⟨⟨k8,k9,l3,l4⟩,A2,H⟩:=zob H
 replace H:(some (k8==d8&&(k9==d7&&(l3==d6&&(l4==d5)))))=some r:=H
 obtain rfl:=Option.some.inj H
 go_enter Try.func50,Try.ntmps50
 try go_wp2_with (first|((with_reducible refine zaC (N:=1) rfl ?_);refine zbx (N:=1) #[.int .i64 d8,.int .i64 d7,.int .i64 d6,.int .i64 d5] 23 ?_;intro i5 hg w3 hbox hb;have n0_:=zaa.mk (zae (zL HB.out) hb);have n1_:=zaa.mk (hbox);have n2_:=zaa.mk ((zS hg (zL HB.out):w.heap.size≤i5));have n3_:=n2_;clear HB;have HB:=n0_;have f7:=n1_;have l9:=n2_;have l5:=n3_;clear n0_ n1_ n2_ n3_;clear hb hbox hg))
 replace f7:=zaa.mk (zaM f7.out)
 replace HB:=zaa.mk (zai HB.out)
 refine zbA (n:=5) (S:=fun w'=>w'.cell? ⟨i5,0,none⟩=some (.int .i64 d8)∧w'.cell? ⟨i5,1,none⟩=some (.int .i64 d7)∧w'.cell? ⟨i5,2,none⟩=some (.int .i64 d6)∧w'.cell? ⟨i5,3,none⟩=some (.int .i64 d5)) (ds:=[]) #[false,false,false,false,false] (by kernel_rfl) rfl rfl (zD4 f7.out) (fun hHeld=>?_)
 generalize w3.drew=w4 at f7 HB hHeld ⊢
 refine take_ (i:=0) (N:=some 3) (v:=?_) (a':=?_) #[true,false,false,false,false] rfl rfl (by kernel_rfl) (fun _ _ _ h=>h) (Or.inl ⟨by rfl,?_⟩) hHeld ?_ ?_
 rotate_left
 ·rintro w' ⟨s0,s1,s2,s3⟩
  go_simp
  with_reducible rfl
 rotate_left
 ·exact zP
 refine take_ (i:=2) (N:=some 5) (v:=?_) (a':=?_) #[true,false,true,false,false] rfl rfl (by kernel_rfl) (fun _ _ _ h=>h) (Or.inl ⟨by rfl,?_⟩) hHeld ?_ ?_
 rotate_left
 ·rintro w' ⟨s0,s1,s2,s3⟩
  go_simp
  with_reducible rfl
 rotate_left
 ·exact zP
 refine one_ (i:=1) (N:=some 4) #[true,true,true,false,false] rfl rfl (by kernel_rfl) (by decide) (fun K hK=>?_)
 refine zgo Try.func106 #[.agg #[.int .i64 d8,.int .i64 d7,.int .i64 d6,.int .i64 d5]] ?_
 with_reducible refine (zbg.calls d8 d7 d6 d5 k8 k9 l3 l4 _ A2.out).mono ?_
 rintro e w5 ⟨rfl,hb⟩
 refine ⟨_,rfl,?_⟩
 replace f7:=zaa.mk (zac (zB f7.out) hb)
 replace HB:=zaa.mk (zae (zL1 HB.out l5.out) hb)
 (try clear hb)
 refine hK.out _ _ (zD4 f7.out) (fun hHeld=>?_)
 clear hK K
 refine znm ?_
 refine pure_ (i:=3) (N:=some 6) (v:=?_) (a':=?_) #[true,true,true,true,false] rfl rfl (by kernel_rfl) (fun _ _ _ h=>h) (Or.inl ⟨by rfl,?_⟩) ?_ ?_
 rotate_left
 ·intro w'
  go_simp
  with_reducible rfl
 rotate_left
 ·exact zP
 refine pure_ (i:=4) (N:=some 2) (v:=?_) (a':=?_) #[true,true,true,true,true] rfl rfl (by kernel_rfl) (fun _ _ _ h=>h) (Or.inl ⟨by rfl,?_⟩) ?_ ?_
 rotate_left
 ·intro w'
  go_simp
  with_reducible rfl
 rotate_left
 ·exact zP
 refine zbT (by kernel_rfl) ?_
 try go_wp2
 go_ret
 exact zG
def zbe.f (a0:Int):Option (Bool):=if a0≥0 then (some (decide (a0≤65535))) else (some false)
set_option maxHeartbeats 8000000 in
set_option maxRecDepth 100000 in
theorem zbe.calls (a0:Int) (r:Bool) (w:World) (h:zbe.f a0=some r) :
 Calls Try.prog 139 #[.int .i64 a0] w fun e w'=>e = .returned (.bool r)∧zaS w w':=by
 have H:(if a0≥0 then (some (decide (a0≤65535))) else (some false))=some r:=h
 clear h
 by_cases c2:a0≥0
 ·rw [if_pos c2] at H
  have c2b0:decide (0≤a0)=true:=decide_eq_true c2
  clear c2
  obtain rfl:=Option.some.inj H
  go_enter Try.func139,Try.ntmps139
  go_wp2
  go_ret
  exact zH
 ·rw [if_neg c2] at H
  have c2b0:decide (0≤a0)=false:=decide_eq_false c2
  clear c2
  obtain rfl:=Option.some.inj H
  go_enter Try.func139,Try.ntmps139
  go_wp2
  go_ret
  exact zH
mutual
def zaH.l0:Nat→List (S135)→Int→Option (Int)
 | 0,_,_=>none
 | k+1,x0,x3=>if x3<(x0.length:Int) then (if 0≤x3 then ((zbe.f ((zat x0 x3).f0)).bind fun j7=>(if j7=true then ((zbe.f ((zat x0 x3).f1)).bind fun e9=>(zaH.j1 k x0 x3 (!e9))) else (zaH.j1 k x0 x3 true))) else (none)) else (some 0)
def zaH.j1:Nat→List (S135)→Int→Bool→Option (Int)
 | 0,_,_,_=>none
 | k+1,x0,x3,x31=>if x31=true then (some 2) else (if x3 > 0 then (if 0≤x3 then (if x3<(x0.length:Int) then (if 0≤(wrap64 (x3 - 1)) then (if (wrap64 (x3 - 1))<(x0.length:Int) then (if ((zat x0 x3).f0)≤((zat x0 (wrap64 (x3 - 1))).f0) then (some 24) else (zaH.l0 k x0 (wrap64 (x3+1)))) else (none)) else (none)) else (none)) else (none)) else (zaH.l0 k x0 (wrap64 (x3+1))))
end
def zaH.f (k:Nat) (l0:List (S135)):Option (Int):=if (l0.length:Int)<2 then (some 1) else (if (l0.length:Int) > 16 then (some 3) else (zaH.l0 k l0 0))
set_option maxHeartbeats 8000000 in
set_option maxRecDepth 100000 in
theorem zaH.calls (k:Nat) (A0:Option Addr) (c0:Nat) (l0:List (S135)) (r:Int) (w:World) (hr0:Kd.C k135 w A0 l0.length l0) (hc0:l0.length≤c0) (h:zaH.f k l0=some r) :
 Calls Try.prog 107 #[.slice A0 l0.length c0] w fun e w'=>e = .returned (.int .i64 r)∧zaS w w':=by
 have HR0:=zaa.mk hr0
 have HC0:=zaa.mk hc0
 clear hr0 hc0
 have H:(if (l0.length:Int)<2 then (some 1) else (if (l0.length:Int) > 16 then (some 3) else (zaH.l0 k l0 0)))=some r:=h
 clear h
 by_cases c2:(l0.length:Int)<2
 ·rw [if_pos c2] at H
  have c2b0:decide ((l0.length:Int)<2)=true:=decide_eq_true c2
  have c2b1:decide (l0.length<2)=true:=decide_eq_true (by omega)
  clear c2
  obtain rfl:=Option.some.inj H
  go_enter Try.func107,Try.ntmps107
  go_wp2
  repeat (go_quiet (fail);try go_wp2)
  go_ret
  exact zH
 ·rw [if_neg c2] at H
  have c2b0:decide ((l0.length:Int)<2)=false:=decide_eq_false c2
  have c2b1:decide (l0.length<2)=false:=decide_eq_false (by omega)
  clear c2
  by_cases c3:(l0.length:Int) > 16
  ·rw [if_pos c3] at H
   have c3b0:decide (16<(l0.length:Int))=true:=decide_eq_true c3
   have c3b1:decide (16<l0.length)=true:=decide_eq_true (by omega)
   clear c3
   obtain rfl:=Option.some.inj H
   go_enter Try.func107,Try.ntmps107
   go_wp2
   repeat (go_quiet (fail);try go_wp2)
   go_ret
   exact zH
  ·rw [if_neg c3] at H
   have c3b0:decide (16<(l0.length:Int))=false:=decide_eq_false c3
   have c3b1:decide (16<l0.length)=false:=decide_eq_false (by omega)
   clear c3
   have H':=zaa.mk H
   clear H
   go_enter Try.func107,Try.ntmps107
   go_wp2
   repeat (go_quiet (fail);try go_wp2)
   go_loopg [3] k (fun kq v3 w'=>∃ (x3_1:Int),v3 = .int .i64 x3_1∧zaa (zaH.l0 kq l0 x3_1=some r)∧zaa (kq≤k)∧zaS w w')
   case atStart=>exact ⟨(0),zF,H',⟨Nat.le_refl _⟩,by repeat (first|exact zaS.refl _|apply zaS.step)⟩
   case round=>
    clear H'
    try clear c1
    try clear c2
    try clear c2b0
    try clear c2b1
    try clear p2
    try clear c3
    try clear c3b0
    try clear c3b1
    obtain ⟨x3_1,rfl,HA,j4,⟨m1,rfl⟩⟩:=hrel
    cases gk with
    | zero=>exact absurd HA.out (by simp [zaH.l0])
    | succ k1=>
     have H:=HA.out
     clear HA
     simp only [zaH.l0] at H
     by_cases c4:x3_1<(l0.length:Int)
     ·rw [if_pos c4] at H
      have c4b0:decide (x3_1<(l0.length:Int))=true:=decide_eq_true c4
      clear c4
      have HC5:=zaa.mk H
      clear H
      go_upto_region 8 with (fail)
      repeat (go_quiet (fail);go_upto_region 8 with (fail))
      go_cut [31] (fun v31 wc=>∃ (kq:Nat) (x31_4:Bool),v31 = .bool x31_4∧zaa (zaH.j1 kq l0 x3_1 x31_4=some r)∧zaa (kq≤k1)∧zaS w wc)
      case first=>
       have H:=HC5.out
       clear HC5
       by_cases c6:0≤x3_1
       ·rw [if_pos c6] at H
        have c6b0:decide (0≤x3_1)=true:=decide_eq_true c6
        clear c6
        (first|rw [c6b0]|(simp only [zbY,zcc];rw [c6b0])|skip)
        obtain ⟨j7,A7,H⟩:=zob H
        replace H:(if j7=true then ((zbe.f ((zat l0 x3_1).f1)).bind fun e9=>(zaH.j1 k1 l0 x3_1 (!e9))) else (zaH.j1 k1 l0 x3_1 true))=some r:=H
        by_cases c8:j7=true
        ·subst c8
         have H1:((zbe.f ((zat l0 x3_1).f1)).bind fun e9=>(zaH.j1 k1 l0 x3_1 (!e9)))=some r:=by rw [if_pos rfl] at H;exact H
         clear H
         have H:=H1
         clear H1
         obtain ⟨e9,A9,H⟩:=zob H
         replace H:(zaH.j1 k1 l0 x3_1 (!e9))=some r:=H
         have H':=zaa.mk H
         clear H
         have p256:0≤(x3_1:Int):=of_decide_eq_true (by first|(with_reducible assumption)|assumption)
         have q256:x3_1<(l0.length:Int):=of_decide_eq_true (by first|(with_reducible assumption)|assumption)
         obtain ⟨j3,e256,j5,j6⟩:=zbV HR0.out x3_1 p256 q256
         cases e256
         replace p256:=eq_true p256
         replace q256:=eq_true q256
         go_wp2_with (first|(go_at_call 139;(with_reducible refine (zbe.calls ((zat l0 x3_1).f0) true _ A7.out).mono ?_);rintro e w' ⟨rfl,⟨nd,rfl⟩⟩;(try first|exact ⟨rfl,_,World.drewN_drewN _ _ _⟩|exact ⟨rfl,_,Eq.trans (World.drewN_drewN _ _ _) (congrArg (World.drewN _) (Nat.add_assoc _ _ _))⟩);have p258:0≤(x3_1:Int):=of_decide_eq_true (by first|(with_reducible assumption)|assumption);have q258:x3_1<(l0.length:Int):=of_decide_eq_true (by first|(with_reducible assumption)|assumption);obtain ⟨i6,e258,i8,i9⟩:=zbV HR0.out x3_1 p258 q258;obtain rfl:j3=i6:=(by injection e258);replace p258:=eq_true p258;replace q258:=eq_true q258)|(go_at_call 139;(with_reducible refine (zbe.calls ((zat l0 x3_1).f1) e9 _ A9.out).mono ?_);rintro e w' ⟨rfl,⟨nd,rfl⟩⟩;(try first|exact ⟨rfl,_,World.drewN_drewN _ _ _⟩|exact ⟨rfl,_,Eq.trans (World.drewN_drewN _ _ _) (congrArg (World.drewN _) (Nat.add_assoc _ _ _))⟩)))
         repeat (go_quiet (first|(go_at_call 139;(with_reducible refine (zbe.calls ((zat l0 x3_1).f0) true _ A7.out).mono ?_);rintro e w' ⟨rfl,⟨nd,rfl⟩⟩;(try first|exact ⟨rfl,_,World.drewN_drewN _ _ _⟩|exact ⟨rfl,_,Eq.trans (World.drewN_drewN _ _ _) (congrArg (World.drewN _) (Nat.add_assoc _ _ _))⟩);have p258:0≤(x3_1:Int):=of_decide_eq_true (by first|(with_reducible assumption)|assumption);have q258:x3_1<(l0.length:Int):=of_decide_eq_true (by first|(with_reducible assumption)|assumption);obtain ⟨i6,e258,i8,i9⟩:=zbV HR0.out x3_1 p258 q258;obtain rfl:j3=i6:=(by injection e258);replace p258:=eq_true p258;replace q258:=eq_true q258)|(go_at_call 139;(with_reducible refine (zbe.calls ((zat l0 x3_1).f1) e9 _ A9.out).mono ?_);rintro e w' ⟨rfl,⟨nd,rfl⟩⟩;(try first|exact ⟨rfl,_,World.drewN_drewN _ _ _⟩|exact ⟨rfl,_,Eq.trans (World.drewN_drewN _ _ _) (congrArg (World.drewN _) (Nat.add_assoc _ _ _))⟩)));try go_wp2_with (first|(go_at_call 139;(with_reducible refine (zbe.calls ((zat l0 x3_1).f0) true _ A7.out).mono ?_);rintro e w' ⟨rfl,⟨nd,rfl⟩⟩;(try first|exact ⟨rfl,_,World.drewN_drewN _ _ _⟩|exact ⟨rfl,_,Eq.trans (World.drewN_drewN _ _ _) (congrArg (World.drewN _) (Nat.add_assoc _ _ _))⟩);have p258:0≤(x3_1:Int):=of_decide_eq_true (by first|(with_reducible assumption)|assumption);have q258:x3_1<(l0.length:Int):=of_decide_eq_true (by first|(with_reducible assumption)|assumption);obtain ⟨i6,e258,i8,i9⟩:=zbV HR0.out x3_1 p258 q258;obtain rfl:j3=i6:=(by injection e258);replace p258:=eq_true p258;replace q258:=eq_true q258)|(go_at_call 139;(with_reducible refine (zbe.calls ((zat l0 x3_1).f1) e9 _ A9.out).mono ?_);rintro e w' ⟨rfl,⟨nd,rfl⟩⟩;(try first|exact ⟨rfl,_,World.drewN_drewN _ _ _⟩|exact ⟨rfl,_,Eq.trans (World.drewN_drewN _ _ _) (congrArg (World.drewN _) (Nat.add_assoc _ _ _))⟩))))
         go_meet
         case rel=>exact ⟨_,(!e9),zF,H',⟨by have:=j4.out;first|omega|exact Nat.le_refl _⟩,by repeat (first|exact zaS.refl _|apply zaS.step)⟩
        ·replace c8:=Bool.eq_false_iff.mpr c8
         subst c8
         have H1:(zaH.j1 k1 l0 x3_1 true)=some r:=by rw [if_neg (show ¬ (false=true) by decide)] at H;exact H
         clear H
         have H:=H1
         clear H1
         have H':=zaa.mk H
         clear H
         have p256:0≤(x3_1:Int):=of_decide_eq_true (by first|(with_reducible assumption)|assumption)
         have q256:x3_1<(l0.length:Int):=of_decide_eq_true (by first|(with_reducible assumption)|assumption)
         obtain ⟨j3,e256,j5,j6⟩:=zbV HR0.out x3_1 p256 q256
         cases e256
         replace p256:=eq_true p256
         replace q256:=eq_true q256
         go_wp2_with (first|(go_at_call 139;(with_reducible refine (zbe.calls ((zat l0 x3_1).f0) false _ A7.out).mono ?_);rintro e w' ⟨rfl,⟨nd,rfl⟩⟩;(try first|exact ⟨rfl,_,World.drewN_drewN _ _ _⟩|exact ⟨rfl,_,Eq.trans (World.drewN_drewN _ _ _) (congrArg (World.drewN _) (Nat.add_assoc _ _ _))⟩)))
         repeat (go_quiet (first|(go_at_call 139;(with_reducible refine (zbe.calls ((zat l0 x3_1).f0) false _ A7.out).mono ?_);rintro e w' ⟨rfl,⟨nd,rfl⟩⟩;(try first|exact ⟨rfl,_,World.drewN_drewN _ _ _⟩|exact ⟨rfl,_,Eq.trans (World.drewN_drewN _ _ _) (congrArg (World.drewN _) (Nat.add_assoc _ _ _))⟩)));try go_wp2_with (first|(go_at_call 139;(with_reducible refine (zbe.calls ((zat l0 x3_1).f0) false _ A7.out).mono ?_);rintro e w' ⟨rfl,⟨nd,rfl⟩⟩;(try first|exact ⟨rfl,_,World.drewN_drewN _ _ _⟩|exact ⟨rfl,_,Eq.trans (World.drewN_drewN _ _ _) (congrArg (World.drewN _) (Nat.add_assoc _ _ _))⟩))))
         go_meet
         case rel=>exact ⟨_,(true),zF,H',⟨by have:=j4.out;first|omega|exact Nat.le_refl _⟩,by repeat (first|exact zaS.refl _|apply zaS.step)⟩
       ·rw [if_neg c6] at H
        exact absurd H (by simp)
      case rest=>
       clear HC5
       try clear c1
       try clear c2
       try clear c2b0
       try clear c2b1
       try clear p2
       try clear q2
       try clear hx2
       try clear c3
       try clear c3b0
       try clear c3b1
       try clear c4
       try clear c4b0
       try clear c6
       try clear c6b0
       try clear c8
       try clear j5
       try clear j6
       try clear i8
       try clear i9
       try clear p2
       try clear p256
       try clear p258
       try clear q256
       try clear q258
       obtain ⟨kq,x31_4,rfl,HA,HJ4,⟨mc4,rfl⟩⟩:=hcut
       cases kq with
       | zero=>exact absurd HA.out (by simp [zaH.j1])
       | succ kj4=>
        have H:=HA.out
        clear HA
        simp only [zaH.j1] at H
        by_cases c10:x31_4=true
        ·subst c10
         have H1:(some 2)=some r:=by rw [if_pos rfl] at H;exact H
         clear H
         have H:=H1
         clear H1
         obtain rfl:=Option.some.inj H
         go_wp2
         repeat (go_quiet (fail);try go_wp2)
         go_ret
         exact zH
        ·replace c10:=Bool.eq_false_iff.mpr c10
         subst c10
         have H1:(if x3_1 > 0 then (if 0≤x3_1 then (if x3_1<(l0.length:Int) then (if 0≤(wrap64 (x3_1 - 1)) then (if (wrap64 (x3_1 - 1))<(l0.length:Int) then (if ((zat l0 x3_1).f0)≤((zat l0 (wrap64 (x3_1 - 1))).f0) then (some 24) else (zaH.l0 kj4 l0 (wrap64 (x3_1+1)))) else (none)) else (none)) else (none)) else (none)) else (zaH.l0 kj4 l0 (wrap64 (x3_1+1))))=some r:=by rw [if_neg (show ¬ (false=true) by decide)] at H;exact H
         clear H
         have H:=H1
         clear H1
         by_cases c11:x3_1 > 0
         ·rw [if_pos c11] at H
          have c11b0:decide (0<x3_1)=true:=decide_eq_true c11
          clear c11
          by_cases c12:0≤x3_1
          ·rw [if_pos c12] at H
           have c12b0:decide (0≤x3_1)=true:=decide_eq_true c12
           clear c12
           by_cases c13:x3_1<(l0.length:Int)
           ·rw [if_pos c13] at H
            have c13b0:decide (x3_1<(l0.length:Int))=true:=decide_eq_true c13
            clear c13
            obtain ⟨e0,hji14⟩ : ∃ j_:Int,(wrap64 (x3_1 - 1))=j_:=⟨_,rfl⟩
            replace H:(if 0≤(e0) then (if (e0)<(l0.length:Int) then (if ((zat l0 x3_1).f0)≤((zat l0 (e0)).f0) then (some 24) else (zaH.l0 kj4 l0 (wrap64 (x3_1+1)))) else (none)) else (none))=some r:=by first|(rw [hji14] at H;exact H)|(simp only [hji14] at H ⊢;exact H)
            have hji14w:(IntKind.i64.wrap (x3_1 - 1))=e0:=(zbY _).trans hji14
            by_cases c15:0≤(e0)
            ·rw [if_pos c15] at H
             have c15b0:decide (0≤(e0))=true:=decide_eq_true c15
             clear c15
             by_cases c16:(e0)<(l0.length:Int)
             ·rw [if_pos c16] at H
              have c16b0:decide ((e0)<(l0.length:Int))=true:=decide_eq_true c16
              clear c16
              by_cases c17:((zat l0 x3_1).f0)≤((zat l0 (e0)).f0)
              ·rw [if_pos c17] at H
               have c17b0:decide (((zat l0 x3_1).f0)≤((zat l0 (e0)).f0))=true:=decide_eq_true c17
               clear c17
               obtain rfl:=Option.some.inj H
               have p260:0≤(x3_1:Int):=of_decide_eq_true (by first|(with_reducible assumption)|assumption)
               have q260:x3_1<(l0.length:Int):=of_decide_eq_true (by first|(with_reducible assumption)|assumption)
               obtain ⟨j8,e260,k4,k5⟩:=zbV HR0.out x3_1 p260 q260
               cases e260
               replace p260:=eq_true p260
               replace q260:=eq_true q260
               have p261:0≤((e0):Int):=of_decide_eq_true (by first|(with_reducible assumption)|assumption)
               have q261:(e0)<(l0.length:Int):=of_decide_eq_true (by first|(with_reducible assumption)|assumption)
               obtain ⟨j9,e261,k6,k7⟩:=zbV HR0.out (e0) p261 q261
               obtain rfl:j8=j9:=(by injection e261)
               replace p261:=eq_true p261
               replace q261:=eq_true q261
               go_wp2
               repeat (go_quiet (fail);try go_wp2)
               go_ret
               exact ⟨by first|rfl|(simp;done)|(simp only [← hji14] <;> (first|rfl|simp))|(simp [*];done),by repeat (first|exact zaS.refl _|apply zaS.step)⟩
              ·rw [if_neg c17] at H
               have c17b0:decide (((zat l0 x3_1).f0)≤((zat l0 (e0)).f0))=false:=decide_eq_false c17
               clear c17
               have H':=zaa.mk H
               clear H
               have p260:0≤(x3_1:Int):=of_decide_eq_true (by first|(with_reducible assumption)|assumption)
               have q260:x3_1<(l0.length:Int):=of_decide_eq_true (by first|(with_reducible assumption)|assumption)
               obtain ⟨j8,e260,k4,k5⟩:=zbV HR0.out x3_1 p260 q260
               cases e260
               replace p260:=eq_true p260
               replace q260:=eq_true q260
               have p261:0≤((e0):Int):=of_decide_eq_true (by first|(with_reducible assumption)|assumption)
               have q261:(e0)<(l0.length:Int):=of_decide_eq_true (by first|(with_reducible assumption)|assumption)
               obtain ⟨j9,e261,k6,k7⟩:=zbV HR0.out (e0) p261 q261
               obtain rfl:j8=j9:=(by injection e261)
               replace p261:=eq_true p261
               replace q261:=eq_true q261
               go_wp2
               repeat (go_quiet (fail);try go_wp2)
               go_roundg kj4
               case measure=>have:=j4.out;have:=HJ4.out;omega
               case rel=>exact ⟨(wrap64 (x3_1+1)),zF,H',⟨by have:=j4.out;have:=HJ4.out;omega⟩,by repeat (first|exact zaS.refl _|apply zaS.step)⟩
             ·rw [if_neg c16] at H
              exact absurd H (by simp)
            ·rw [if_neg c15] at H
             exact absurd H (by simp)
           ·rw [if_neg c13] at H
            exact absurd H (by simp)
          ·rw [if_neg c12] at H
           exact absurd H (by simp)
         ·rw [if_neg c11] at H
          have c11b0:decide (0<x3_1)=false:=decide_eq_false c11
          clear c11
          have H':=zaa.mk H
          clear H
          go_wp2
          repeat (go_quiet (fail);try go_wp2)
          go_roundg kj4
          case measure=>have:=j4.out;have:=HJ4.out;omega
          case rel=>exact ⟨(wrap64 (x3_1+1)),zF,H',⟨by have:=j4.out;have:=HJ4.out;omega⟩,by repeat (first|exact zaS.refl _|apply zaS.step)⟩
     ·rw [if_neg c4] at H
      have c4b0:decide (x3_1<(l0.length:Int))=false:=decide_eq_false c4
      clear c4
      obtain rfl:=Option.some.inj H
      go_wp2
      repeat (go_quiet (fail);try go_wp2)
      go_ret
      exact zH
end Go.Proofs.Ytlilncnoohfcdaa.Da
