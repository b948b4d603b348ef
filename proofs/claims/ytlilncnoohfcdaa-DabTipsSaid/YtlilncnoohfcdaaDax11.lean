
import Derived.Test.YtlilncnoohfcdaaDax0
import Derived.Test.YtlilncnoohfcdaaDax1
namespace Go.Proofs.Ytlilncnoohfcdaa.Da
open Go.RowKit Go.Proofs.YtlilncnoohfcdaaW.PrintWords Go.Proofs.YtlilncnoohfcdaaW.PrintLast Go.Proofs.YtlilncnoohfcdaaW.PrintMore
attribute [local go_sem] max2_int min2_int zbo zbp zbc zbd zbj zbk   
set_option linter.unusedVariables false
set_option linter.unusedSimpArgs false
attribute [local go_sem high] eqA23
/-! ### imageeditorref27_in: function 49 -/
def zak.f (a0:Int) (a1:Int) (a2:Int):Option (Bool):=if a0≥a1 then (some (decide (a0≤a2))) else (some false)
set_option maxHeartbeats 8000000 in
set_option maxRecDepth 100000 in
theorem zak.calls (a0:Int) (a1:Int) (a2:Int) (r:Bool) (w:World) (h:zak.f a0 a1 a2=some r) :
 Calls Try.prog 49 #[.int .i64 a0,.int .i64 a1,.int .i64 a2] w fun e w'=>e = .returned (.bool r)∧Drawn0 w w':=by
 have H:(if a0≥a1 then (some (decide (a0≤a2))) else (some false))=some r:=h
 clear h
 by_cases c4:a0≥a1
 ·rw [if_pos c4] at H
  have c4b0:decide (a1≤a0)=true:=decide_eq_true c4
  clear c4
  obtain rfl:=Option.some.inj H
  go_enter Try.func49,Try.ntmps49
  go_wp2
  go_ret
  exact ⟨by first|rfl|(simp;done)|(simp [*];done),by repeat (first|exact Drawn0.refl _|apply Drawn0.step)⟩
 ·rw [if_neg c4] at H
  have c4b0:decide (a1≤a0)=false:=decide_eq_false c4
  clear c4
  obtain rfl:=Option.some.inj H
  go_enter Try.func49,Try.ntmps49
  go_wp2
  go_ret
  exact ⟨by first|rfl|(simp;done)|(simp [*];done),by repeat (first|exact Drawn0.refl _|apply Drawn0.step)⟩
def zaG.f (a0:Int) (a1:Int) (a2:Int):Option (Int):=some (mn a2 (mx a0 a1))
set_option maxHeartbeats 8000000 in
set_option maxRecDepth 100000 in
theorem zaG.calls (a0:Int) (a1:Int) (a2:Int) (r:Int) (w:World) (h:zaG.f a0 a1 a2=some r) :
 Calls Try.prog 27 #[.int .i64 a0,.int .i64 a1,.int .i64 a2] w fun e w'=>e = .returned (.int .i64 r)∧Below w.heap.size w w':=by
 have HB:=Aside0.mk (Below.refl w.heap.size w)
 have H:(some (mn a2 (mx a0 a1)))=some r:=h
 clear h
 obtain ⟨ji4,hji4⟩ : ∃ j_:Int,(mx a0 a1)=j_:=⟨_,rfl⟩
 replace H:(some (mn a2 (ji4)))=some r:=by first|(rw [hji4] at H;exact H)|(simp only [hji4] at H ⊢;exact H)
 have hji4_:(if a0<a1 then a1 else a0)=ji4:=hji4
 obtain ⟨ji5,hji5⟩ : ∃ j_:Int,(mn a2 (ji4))=j_:=⟨_,rfl⟩
 replace H:(some ji5)=some r:=by first|(rw [hji5] at H;exact H)|(simp only [hji5] at H ⊢;exact H)
 have hji5_:(if (ji4)<a2 then (ji4) else a2)=ji5:=hji5
 obtain rfl:=Option.some.inj H
 go_enter Try.func27,Try.ntmps27
 go_wp2
 go_ret
 exact ⟨by first|rfl|(simp [errW_none,errW_some] <;> rfl)|(simp only [← hji4,← hji5];first|rfl|(simp [errW_none,errW_some] <;> rfl))|(simp [*,errW_none,errW_some] <;> rfl),by repeat (first|(with_reducible first|exact HB.out|apply zai|apply zaf|apply zag)|exact HB.out)⟩
def zaI.f (a0:Int):Option (Int):=(zaG.f a0 0 65535).bind fun t244=>(some t244)
set_option maxHeartbeats 8000000 in
set_option maxRecDepth 100000 in
theorem zaI.calls (a0:Int) (r:Int) (w:World) (h:zaI.f a0=some r) :
 Calls Try.prog 65 #[.int .i64 a0] w fun e w'=>e = .returned (.int .i64 r)∧Below w.heap.size w w':=by
 have HB:=Aside0.mk (Below.refl w.heap.size w)
 have H:((zaG.f a0 0 65535).bind fun t244=>(some t244))=some r:=h
 clear h
 replace H:=Option.bind_eq_some_iff.mp H
 obtain ⟨t244,A20,H⟩:=H
 replace H:(some t244)=some r:=H
 have A2:=Aside0.mk A20
 clear A20
 obtain rfl:=Option.some.inj H
 go_enter Try.func65,Try.ntmps65
 go_wp2_with (first|((with_reducible refine zal (f:=27) rfl ?_);refine goesL_ (some 4) rfl rfl Try.func27 (by kernel_rfl) rfl #[.int .i64 a0,.int .i64 0,.int .i64 65535] rfl zA ?_;(with_reducible refine (zaG.calls a0 0 65535 t244 _ A2.out).mono ?_);rintro e w3 ⟨rfl,hb⟩;refine ⟨_,rfl,?_⟩;replace HB:=Aside0.mk (zad (zL HB.out) hb);(try clear hb);(try clear hb2);(try clear hk);(try clear hi)))
 go_ret
 exact ⟨by first|rfl|(simp [errW_none,errW_some] <;> rfl)|(simp [*,errW_none,errW_some] <;> rfl),by repeat (first|(with_reducible first|exact HB.out|apply zai|apply zaf|apply zag)|exact HB.out)⟩
def zaT.f (a0_0:Int) (a0_1:Int) (a0_2:Int) (a0_3:Int):Option (Int×Int×Int×Int):=(zaI.f a0_0).bind fun t247=>((zaI.f a0_1).bind fun t248=>((zaI.f a0_2).bind fun t249=>((zaI.f a0_3).bind fun t250=>(some (t247,t248,t249,t250)))))
def zaT.T1:Bool×List (List Nat×List Nat):=(true,[([],[]),([0],[0]),([1],[1]),([],[]),([3],[3]),([4,2],[4]),([],[]),([6],[6]),([7,5],[7]),([],[]),([9],[9]),([10,8],[10]),([2,5,8,11],[2,5,8,11]),([12,11,0,1,2,3,4,5,6,7,8,9,10,11,12],[12])])
def zaT.B1:List Nat:=[0,1,3,0,8,31,0,64,255,0,512,2047,4095,8191]
theorem zaT.tab1:rtab .any (opsOf Try.f106 1)=zaT.T1:=by kernel_rfl
theorem zaT.bits1:waitsOk zaT.T1.2 zaT.B1=true:=by kernel_rfl
set_option maxHeartbeats 8000000 in
set_option maxRecDepth 100000 in
theorem zaT.calls (a0_0:Int) (a0_1:Int) (a0_2:Int) (a0_3:Int) (r1:Int) (r2:Int) (r3:Int) (r4:Int) (w:World) (h:zaT.f a0_0 a0_1 a0_2 a0_3=some (r1,r2,r3,r4)) :
 Calls Try.prog 106 #[.agg #[.int .i64 a0_0,.int .i64 a0_1,.int .i64 a0_2,.int .i64 a0_3]] w fun e w'=>e = .returned (.agg #[.int .i64 r1,.int .i64 r2,.int .i64 r3,.int .i64 r4])∧Below w.heap.size w w':=by
 have hu23:=Try.underlying23
 have HB:=Aside0.mk (Below.refl w.heap.size w)
 have H:((zaI.f a0_0).bind fun t247=>((zaI.f a0_1).bind fun t248=>((zaI.f a0_2).bind fun t249=>((zaI.f a0_3).bind fun t250=>(some (t247,t248,t249,t250))))))=some (r1,r2,r3,r4):=h
 clear h
 replace H:=Option.bind_eq_some_iff.mp H
 obtain ⟨t247,A20,H⟩:=H
 replace H:((zaI.f a0_1).bind fun t248=>((zaI.f a0_2).bind fun t249=>((zaI.f a0_3).bind fun t250=>(some (t247,t248,t249,t250)))))=some (r1,r2,r3,r4):=H
 have A2:=Aside0.mk A20
 clear A20
 replace H:=Option.bind_eq_some_iff.mp H
 obtain ⟨t248,A30,H⟩:=H
 replace H:((zaI.f a0_2).bind fun t249=>((zaI.f a0_3).bind fun t250=>(some (t247,t248,t249,t250))))=some (r1,r2,r3,r4):=H
 have A3:=Aside0.mk A30
 clear A30
 replace H:=Option.bind_eq_some_iff.mp H
 obtain ⟨t249,A40,H⟩:=H
 replace H:((zaI.f a0_3).bind fun t250=>(some (t247,t248,t249,t250)))=some (r1,r2,r3,r4):=H
 have A4:=Aside0.mk A40
 clear A40
 replace H:=Option.bind_eq_some_iff.mp H
 obtain ⟨t250,A50,H⟩:=H
 replace H:(some (t247,t248,t249,t250))=some (r1,r2,r3,r4):=H
 have A5:=Aside0.mk A50
 clear A50
 simp only [Option.some.injEq,Prod.mk.injEq] at H
 obtain ⟨rfl,rfl,rfl,rfl⟩:=H
 go_enter Try.func106,Try.ntmps106
 try go_wp2_with (first|((with_reducible refine zaA (N:=1) rfl ?_);refine zav ?hg (N:=1) ?hd (cs:=#[.int .i64 a0_0,.int .i64 a0_1,.int .i64 a0_2,.int .i64 a0_3]) (t:=23) ?hr ?_;(case hd=>rfl);(case hg=>rfl);(case hr=>first|(go_simp;done)|(go_simp;rfl));intro gb245 hg w6 hbox hb;have n0_:=Aside0.mk (zad (zL HB.out) hb);have n1_:=Aside0.mk (hbox);have n2_:=Aside0.mk ((zS hg (zL HB.out):w.heap.size≤gb245));have n3_:=Aside0.mk ((zS hg (zL HB.out):w.heap.size≤gb245));clear HB;have HB:=n0_;have BK245:=n1_;have GW245:=n2_;have GE245:=n3_;clear n0_ n1_ n2_ n3_;clear hb hbox hg)|((with_reducible refine zaA (N:=2) rfl ?_);refine zav ?hg (N:=2) ?hd (cs:=#[.int .i64 0,.int .i64 0,.int .i64 0,.int .i64 0]) (t:=23) ?hr ?_;(case hd=>rfl);(case hg=>rfl);(case hr=>first|(go_simp;done)|(go_simp;rfl));intro gb246 hg w7 hbox hb;have n0_:=Aside0.mk (zaa (zB BK245.out) hb);have n1_:=Aside0.mk (zad (zL1 HB.out GE245.out) hb);have n2_:=Aside0.mk (hbox);have n3_:=Aside0.mk ((zS hg (zL1 HB.out GE245.out):w.heap.size≤gb246));have n4_:=Aside0.mk ((zS hg (zL1 HB.out GE245.out):w.heap.size≤gb246));have n5_:=Aside0.mk ((by rw [hg];exact Nat.ne_of_lt (zao (zB BK245.out)):gb245≠gb246));have n6_:=Aside0.mk ((by rw [hg];exact Nat.ne_of_gt (zao (zB BK245.out)):gb246≠gb245));clear BK245;clear HB;have BK245:=n0_;have HB:=n1_;have BK246:=n2_;have GW246:=n3_;have GE246:=n4_;have NB245_246:=n5_;have NB246_245:=n6_;clear n0_ n1_ n2_ n3_ n4_ n5_ n6_;clear hb hbox hg))
 replace BK245:=Aside0.mk (zaK BK245.out)
 replace BK246:=Aside0.mk (zaK BK246.out)
 replace HB:=Aside0.mk (zag HB.out)
 refine start_ (n:=14) (S:=fun w'=>w'.cell? ⟨gb245,0,none⟩=some (.int .i64 a0_0)∧w'.cell? ⟨gb245,1,none⟩=some (.int .i64 a0_1)∧w'.cell? ⟨gb245,2,none⟩=some (.int .i64 a0_2)∧w'.cell? ⟨gb245,3,none⟩=some (.int .i64 a0_3)) (ds:=[]) #[false,false,false,false,false,false,false,false,false,false,false,false,false,false] (by kernel_rfl) rfl rfl ⟨zc BK245.out 0,zc BK245.out 1,zc BK245.out 2,zc BK245.out 3⟩ (fun hHeld=>?_);refine zbi zaT.tab1 zaT.bits1 (fun HT_ HW_=>?_)
 generalize w7.drew=w8 at BK245 BK246 HB hHeld ⊢
 refine pure_ (i:=0) (N:=some 3) (v:=?_) (a':=?_) #[true,false,false,false,false,false,false,false,false,false,false,false,false,false] rfl rfl (zap HT_.out (by kernel_rfl)) (fun _ _ _ h=>h) (Or.inl ⟨by rfl,?_⟩) ?_ ?_
 rotate_left
 ·intro w'
  go_simp
  with_reducible rfl
 rotate_left
 ·exact zP
 refine pure_ (i:=3) (N:=some 6) (v:=?_) (a':=?_) #[true,false,false,true,false,false,false,false,false,false,false,false,false,false] rfl rfl (zap HT_.out (by kernel_rfl)) (fun _ _ _ h=>h) (Or.inl ⟨by rfl,?_⟩) ?_ ?_
 rotate_left
 ·intro w'
  go_simp
  with_reducible rfl
 rotate_left
 ·exact zP
 refine pure_ (i:=6) (N:=some 9) (v:=?_) (a':=?_) #[true,false,false,true,false,false,true,false,false,false,false,false,false,false] rfl rfl (zap HT_.out (by kernel_rfl)) (fun _ _ _ h=>h) (Or.inl ⟨by rfl,?_⟩) ?_ ?_
 rotate_left
 ·intro w'
  go_simp
  with_reducible rfl
 rotate_left
 ·exact zP
 refine pure_ (i:=9) (N:=some 12) (v:=?_) (a':=?_) #[true,false,false,true,false,false,true,false,false,true,false,false,false,false] rfl rfl (zap HT_.out (by kernel_rfl)) (fun _ _ _ h=>h) (Or.inl ⟨by rfl,?_⟩) ?_ ?_
 rotate_left
 ·intro w'
  go_simp
  with_reducible rfl
 rotate_left
 ·exact zP
 refine take_ (i:=1) (N:=some 4) (v:=?_) (a':=?_) #[true,true,false,true,false,false,true,false,false,true,false,false,false,false] rfl rfl (zaL HT_.out HW_.out (by kernel_rfl)) (fun _ _ _ h=>h) (Or.inl ⟨by rfl,?_⟩) hHeld ?_ ?_
 rotate_left
 ·rintro w' ⟨s0,s1,s2,s3⟩
  go_simp
  with_reducible rfl
 rotate_left
 ·exact zP
 refine take_ (i:=4) (N:=some 7) (v:=?_) (a':=?_) #[true,true,false,true,true,false,true,false,false,true,false,false,false,false] rfl rfl (zaL HT_.out HW_.out (by kernel_rfl)) (fun _ _ _ h=>h) (Or.inl ⟨by rfl,?_⟩) hHeld ?_ ?_
 rotate_left
 ·rintro w' ⟨s0,s1,s2,s3⟩
  go_simp
  with_reducible rfl
 rotate_left
 ·exact zP
 refine take_ (i:=7) (N:=some 10) (v:=?_) (a':=?_) #[true,true,false,true,true,false,true,true,false,true,false,false,false,false] rfl rfl (zaL HT_.out HW_.out (by kernel_rfl)) (fun _ _ _ h=>h) (Or.inl ⟨by rfl,?_⟩) hHeld ?_ ?_
 rotate_left
 ·rintro w' ⟨s0,s1,s2,s3⟩
  go_simp
  with_reducible rfl
 rotate_left
 ·exact zP
 refine take_ (i:=10) (N:=some 13) (v:=?_) (a':=?_) #[true,true,false,true,true,false,true,true,false,true,true,false,false,false] rfl rfl (zaL HT_.out HW_.out (by kernel_rfl)) (fun _ _ _ h=>h) (Or.inl ⟨by rfl,?_⟩) hHeld ?_ ?_
 rotate_left
 ·rintro w' ⟨s0,s1,s2,s3⟩
  go_simp
  with_reducible rfl
 rotate_left
 ·exact zP
 refine one_ (i:=2) (N:=some 5) #[true,true,true,true,true,false,true,true,false,true,true,false,false,false] rfl rfl (zaR HT_.out (by kernel_rfl)) (by decide) (fun K hK=>?_)
 refine goes_ Try.func65 (by kernel_rfl) rfl #[.int .i64 a0_0] (by rfl) rfl rfl zA ?_
 with_reducible refine (zaI.calls a0_0 t247 _ A2.out).mono ?_
 rintro e w9 ⟨rfl,hb⟩
 refine ⟨_,rfl,?_⟩
 replace BK245:=Aside0.mk (zaa (zB BK245.out) hb)
 replace BK246:=Aside0.mk (zaa (zB BK246.out) hb)
 replace HB:=Aside0.mk (zad (zL2 HB.out GE245.out GE246.out) hb)
 (try clear hb)
 (try clear hb2)
 (try clear hk)
 (try clear hi)
 refine hK.out _ _ ⟨zc BK245.out 0,zc BK245.out 1,zc BK245.out 2,zc BK245.out 3⟩ (fun hHeld=>?_)
 clear hK K
 refine norm_ (a':=?_) ?_ ?_
 rotate_left
 ·show Act.put _ (some 5) _=_
  exact zP
 refine one_ (i:=5) (N:=some 8) #[true,true,true,true,true,true,true,true,false,true,true,false,false,false] rfl rfl (zaR HT_.out (by kernel_rfl)) (by decide) (fun K hK=>?_)
 refine goes_ Try.func65 (by kernel_rfl) rfl #[.int .i64 a0_1] (by rfl) rfl rfl zA ?_
 with_reducible refine (zaI.calls a0_1 t248 _ A3.out).mono ?_
 rintro e w10 ⟨rfl,hb⟩
 refine ⟨_,rfl,?_⟩
 replace BK245:=Aside0.mk (zaa (zB BK245.out) hb)
 replace BK246:=Aside0.mk (zaa (zB BK246.out) hb)
 replace HB:=Aside0.mk (zad (zL2 HB.out GE245.out GE246.out) hb)
 (try clear hb)
 (try clear hb2)
 (try clear hk)
 (try clear hi)
 refine hK.out _ _ ⟨zc BK245.out 0,zc BK245.out 1,zc BK245.out 2,zc BK245.out 3⟩ (fun hHeld=>?_)
 clear hK K
 refine norm_ (a':=?_) ?_ ?_
 rotate_left
 ·show Act.put _ (some 8) _=_
  exact zP
 refine one_ (i:=8) (N:=some 11) #[true,true,true,true,true,true,true,true,true,true,true,false,false,false] rfl rfl (zaR HT_.out (by kernel_rfl)) (by decide) (fun K hK=>?_)
 refine goes_ Try.func65 (by kernel_rfl) rfl #[.int .i64 a0_2] (by rfl) rfl rfl zA ?_
 with_reducible refine (zaI.calls a0_2 t249 _ A4.out).mono ?_
 rintro e w11 ⟨rfl,hb⟩
 refine ⟨_,rfl,?_⟩
 replace BK245:=Aside0.mk (zaa (zB BK245.out) hb)
 replace BK246:=Aside0.mk (zaa (zB BK246.out) hb)
 replace HB:=Aside0.mk (zad (zL2 HB.out GE245.out GE246.out) hb)
 (try clear hb)
 (try clear hb2)
 (try clear hk)
 (try clear hi)
 refine hK.out _ _ ⟨zc BK245.out 0,zc BK245.out 1,zc BK245.out 2,zc BK245.out 3⟩ (fun hHeld=>?_)
 clear hK K
 refine norm_ (a':=?_) ?_ ?_
 rotate_left
 ·show Act.put _ (some 11) _=_
  exact zP
 refine one_ (i:=11) (N:=some 14) #[true,true,true,true,true,true,true,true,true,true,true,true,false,false] rfl rfl (zaR HT_.out (by kernel_rfl)) (by decide) (fun K hK=>?_)
 refine goes_ Try.func65 (by kernel_rfl) rfl #[.int .i64 a0_3] (by rfl) rfl rfl zA ?_
 with_reducible refine (zaI.calls a0_3 t250 _ A5.out).mono ?_
 rintro e w12 ⟨rfl,hb⟩
 refine ⟨_,rfl,?_⟩
 replace BK245:=Aside0.mk (zaa (zB BK245.out) hb)
 replace BK246:=Aside0.mk (zaa (zB BK246.out) hb)
 replace HB:=Aside0.mk (zad (zL2 HB.out GE245.out GE246.out) hb)
 (try clear hb)
 (try clear hb2)
 (try clear hk)
 (try clear hi)
 refine hK.out _ _ ⟨zc BK245.out 0,zc BK245.out 1,zc BK245.out 2,zc BK245.out 3⟩ (fun hHeld=>?_)
 clear hK K
 refine norm_ (a':=?_) ?_ ?_
 rotate_left
 ·show Act.put _ (some 14) _=_
  exact zP
 refine pure_ (i:=12) (N:=some 15) (v:=?_) (a':=?_) #[true,true,true,true,true,true,true,true,true,true,true,true,true,false] rfl rfl (zap HT_.out (by kernel_rfl)) (fun _ _ _ h=>h) (Or.inl ⟨by rfl,?_⟩) ?_ ?_
 rotate_left
 ·intro w'
  go_simp
  with_reducible rfl
 rotate_left
 ·exact zP
 refine one_ (i:=13) (N:=none) #[true,true,true,true,true,true,true,true,true,true,true,true,true,true] rfl rfl (zaR HT_.out (by kernel_rfl)) (by decide) (fun K hK=>?_)
 have hs13:w12.cell? ⟨gb246,0,none⟩=some (.int .i64 0):=zc BK246.out 0
 have hfs13:=zaB BK246.out 0
 have hns13_0:=NB245_246.out
 have hms13_0:=NB246_245.out
 have hs14:w12.cell? ⟨gb246,1,none⟩=some (.int .i64 0):=zc BK246.out 1
 have hfs14:=zaB BK246.out 1
 have hns14_0:=NB245_246.out
 have hms14_0:=NB246_245.out
 have hs15:w12.cell? ⟨gb246,2,none⟩=some (.int .i64 0):=zc BK246.out 2
 have hfs15:=zaB BK246.out 2
 have hns15_0:=NB245_246.out
 have hms15_0:=NB246_245.out
 have hs16:w12.cell? ⟨gb246,3,none⟩=some (.int .i64 0):=zc BK246.out 3
 have hfs16:=zaB BK246.out 3
 have hns16_0:=NB245_246.out
 have hms16_0:=NB246_245.out
 refine skip_ (w1:=?_) (by rfl) rfl ?_ ?_
 rotate_left
 ·go_simp
  rfl
 refine hK.out _ _ ⟨((zar (p:=⟨gb246,_,none⟩) NB245_246.out _).trans (((zar (p:=⟨gb246,_,none⟩) NB245_246.out _).trans (((zar (p:=⟨gb246,_,none⟩) NB245_246.out _).trans (((zar (p:=⟨gb246,_,none⟩) NB245_246.out _).trans (hHeld.1)))))))),((zar (p:=⟨gb246,_,none⟩) NB245_246.out _).trans (((zar (p:=⟨gb246,_,none⟩) NB245_246.out _).trans (((zar (p:=⟨gb246,_,none⟩) NB245_246.out _).trans (((zar (p:=⟨gb246,_,none⟩) NB245_246.out _).trans (hHeld.2.1)))))))),((zar (p:=⟨gb246,_,none⟩) NB245_246.out _).trans (((zar (p:=⟨gb246,_,none⟩) NB245_246.out _).trans (((zar (p:=⟨gb246,_,none⟩) NB245_246.out _).trans (((zar (p:=⟨gb246,_,none⟩) NB245_246.out _).trans (hHeld.2.2.1)))))))),((zar (p:=⟨gb246,_,none⟩) NB245_246.out _).trans (((zar (p:=⟨gb246,_,none⟩) NB245_246.out _).trans (((zar (p:=⟨gb246,_,none⟩) NB245_246.out _).trans (((zar (p:=⟨gb246,_,none⟩) NB245_246.out _).trans (hHeld.2.2.2))))))))⟩ (fun hHeld=>?_)
 clear hK K
 refine done_ (zbr HT_.out (by kernel_rfl)) ?_
 try go_wp2
 refine bodyPost_ret (results_cell_row rfl _ _ gb246 23 #[.int .i64 t247,.int .i64 t248,.int .i64 t249,.int .i64 t250] (0,0) _ rfl (by refine zB ?_;refine zae (cs:=#[.int .i64 t247,.int .i64 t248,.int .i64 t249,.int .i64 0]) ?_ 3 _ rfl;refine zB ?_;refine zae (cs:=#[.int .i64 t247,.int .i64 t248,.int .i64 0,.int .i64 0]) ?_ 2 _ rfl;refine zB ?_;refine zae (cs:=#[.int .i64 t247,.int .i64 0,.int .i64 0,.int .i64 0]) ?_ 1 _ rfl;refine zB ?_;refine zae (cs:=#[.int .i64 0,.int .i64 0,.int .i64 0,.int .i64 0]) ?_ 0 _ rfl;refine zB ?_;exact BK246.out) Try.underlying23 rfl (by kernel_rfl)) rfl ?_
 exact ⟨by first|rfl|(simp [errW_none,errW_some] <;> rfl)|(simp [*,errW_none,errW_some] <;> rfl),by repeat (first|(with_reducible first|exact HB.out|apply zai|apply zaf|apply zag|refine zac ?_ GE245.out|refine zac ?_ GE246.out)|exact HB.out)⟩
def za7.f (a0_0:Int) (a0_1:Int) (a0_2:Int) (a0_3:Int):Option (Bool):=(zaT.f a0_0 a0_1 a0_2 a0_3).bind fun bt252=>(some (bt252.1==a0_0&&(bt252.2.1==a0_1&&(bt252.2.2.1==a0_2&&(bt252.2.2.2==a0_3)))))
set_option maxHeartbeats 8000000 in
set_option maxRecDepth 100000 in
theorem za7.calls (a0_0:Int) (a0_1:Int) (a0_2:Int) (a0_3:Int) (r:Bool) (w:World) (h:za7.f a0_0 a0_1 a0_2 a0_3=some r) :
 Calls Try.prog 50 #[.agg #[.int .i64 a0_0,.int .i64 a0_1,.int .i64 a0_2,.int .i64 a0_3]] w fun e w'=>e = .returned (.bool r)∧Below w.heap.size w w':=by
 have hu23:=Try.underlying23
 have HB:=Aside0.mk (Below.refl w.heap.size w)
 have H:((zaT.f a0_0 a0_1 a0_2 a0_3).bind fun bt252=>(some (bt252.1==a0_0&&(bt252.2.1==a0_1&&(bt252.2.2.1==a0_2&&(bt252.2.2.2==a0_3))))))=some r:=h
 clear h
 replace H:=Option.bind_eq_some_iff.mp H
 obtain ⟨⟨t252,t253,t254,t255⟩,A20,H⟩:=H
 replace H:(some (t252==a0_0&&(t253==a0_1&&(t254==a0_2&&(t255==a0_3)))))=some r:=H
 have A2:=Aside0.mk A20
 clear A20
 obtain rfl:=Option.some.inj H
 go_enter Try.func50,Try.ntmps50
 try go_wp2_with (first|((with_reducible refine zaA (N:=1) rfl ?_);refine zav ?hg (N:=1) ?hd (cs:=#[.int .i64 a0_0,.int .i64 a0_1,.int .i64 a0_2,.int .i64 a0_3]) (t:=23) ?hr ?_;(case hd=>rfl);(case hg=>rfl);(case hr=>first|(go_simp;done)|(go_simp;rfl));intro gb251 hg w3 hbox hb;have n0_:=Aside0.mk (zad (zL HB.out) hb);have n1_:=Aside0.mk (hbox);have n2_:=Aside0.mk ((zS hg (zL HB.out):w.heap.size≤gb251));have n3_:=Aside0.mk ((zS hg (zL HB.out):w.heap.size≤gb251));clear HB;have HB:=n0_;have BK251:=n1_;have GW251:=n2_;have GE251:=n3_;clear n0_ n1_ n2_ n3_;clear hb hbox hg))
 replace BK251:=Aside0.mk (zaK BK251.out)
 replace HB:=Aside0.mk (zag HB.out)
 refine start_ (n:=5) (S:=fun w'=>w'.cell? ⟨gb251,0,none⟩=some (.int .i64 a0_0)∧w'.cell? ⟨gb251,1,none⟩=some (.int .i64 a0_1)∧w'.cell? ⟨gb251,2,none⟩=some (.int .i64 a0_2)∧w'.cell? ⟨gb251,3,none⟩=some (.int .i64 a0_3)) (ds:=[]) #[false,false,false,false,false] (by kernel_rfl) rfl rfl ⟨zc BK251.out 0,zc BK251.out 1,zc BK251.out 2,zc BK251.out 3⟩ (fun hHeld=>?_)
 generalize w3.drew=w4 at BK251 HB hHeld ⊢
 refine take_ (i:=0) (N:=some 3) (v:=?_) (a':=?_) #[true,false,false,false,false] rfl rfl (by kernel_rfl) (fun _ _ _ h=>h) (Or.inl ⟨by rfl,?_⟩) hHeld ?_ ?_
 rotate_left
 ·rintro w' ⟨s0,s1,s2,s3⟩
  go_simp
  with_reducible rfl
 rotate_left
 ·exact zP
 refine take_ (i:=2) (N:=some 5) (v:=?_) (a':=?_) #[true,false,true,false,false] rfl rfl (by kernel_rfl) (fun _ _ _ h=>h) (Or.inl ⟨by rfl,?_⟩) hHeld ?_ ?_
 rotate_left
 ·rintro w' ⟨s0,s1,s2,s3⟩
  go_simp
  with_reducible rfl
 rotate_left
 ·exact zP
 refine one_ (i:=1) (N:=some 4) #[true,true,true,false,false] rfl rfl (by kernel_rfl) (by decide) (fun K hK=>?_)
 refine goes_ Try.func106 (by kernel_rfl) rfl #[.agg #[.int .i64 a0_0,.int .i64 a0_1,.int .i64 a0_2,.int .i64 a0_3]] (by rfl) rfl rfl zA ?_
 with_reducible refine (zaT.calls a0_0 a0_1 a0_2 a0_3 t252 t253 t254 t255 _ A2.out).mono ?_
 rintro e w5 ⟨rfl,hb⟩
 refine ⟨_,rfl,?_⟩
 replace BK251:=Aside0.mk (zaa (zB BK251.out) hb)
 replace HB:=Aside0.mk (zad (zL1 HB.out GE251.out) hb)
 (try clear hb)
 (try clear hb2)
 (try clear hk)
 (try clear hi)
 refine hK.out _ _ ⟨zc BK251.out 0,zc BK251.out 1,zc BK251.out 2,zc BK251.out 3⟩ (fun hHeld=>?_)
 clear hK K
 refine norm_ (a':=?_) ?_ ?_
 rotate_left
 ·show Act.put _ (some 4) _=_
  exact zP
 refine pure_ (i:=3) (N:=some 6) (v:=?_) (a':=?_) #[true,true,true,true,false] rfl rfl (by kernel_rfl) (fun _ _ _ h=>h) (Or.inl ⟨by rfl,?_⟩) ?_ ?_
 rotate_left
 ·intro w'
  go_simp
  with_reducible rfl
 rotate_left
 ·exact zP
 refine pure_ (i:=4) (N:=some 2) (v:=?_) (a':=?_) #[true,true,true,true,true] rfl rfl (by kernel_rfl) (fun _ _ _ h=>h) (Or.inl ⟨by rfl,?_⟩) ?_ ?_
 rotate_left
 ·intro w'
  go_simp
  with_reducible rfl
 rotate_left
 ·exact zP
 refine done_ (by kernel_rfl) ?_
 try go_wp2
 go_ret
 exact ⟨by first|rfl|(simp [errW_none,errW_some] <;> rfl)|(simp [*,errW_none,errW_some] <;> rfl),by repeat (first|(with_reducible first|exact HB.out|apply zai|apply zaf|apply zag|refine zac ?_ GE251.out)|exact HB.out)⟩
def zaS.f (a0:Int):Option (Bool):=if a0≥0 then (some (decide (a0≤65535))) else (some false)
set_option maxHeartbeats 8000000 in
set_option maxRecDepth 100000 in
theorem zaS.calls (a0:Int) (r:Bool) (w:World) (h:zaS.f a0=some r) :
 Calls Try.prog 139 #[.int .i64 a0] w fun e w'=>e = .returned (.bool r)∧Drawn0 w w':=by
 have H:(if a0≥0 then (some (decide (a0≤65535))) else (some false))=some r:=h
 clear h
 by_cases c2:a0≥0
 ·rw [if_pos c2] at H
  have c2b0:decide (0≤a0)=true:=decide_eq_true c2
  clear c2
  obtain rfl:=Option.some.inj H
  go_enter Try.func139,Try.ntmps139
  go_wp2
  go_ret
  exact ⟨by first|rfl|(simp;done)|(simp [*];done),by repeat (first|exact Drawn0.refl _|apply Drawn0.step)⟩
 ·rw [if_neg c2] at H
  have c2b0:decide (0≤a0)=false:=decide_eq_false c2
  clear c2
  obtain rfl:=Option.some.inj H
  go_enter Try.func139,Try.ntmps139
  go_wp2
  go_ret
  exact ⟨by first|rfl|(simp;done)|(simp [*];done),by repeat (first|exact Drawn0.refl _|apply Drawn0.step)⟩
mutual
def zay.l0:Nat→List (S135)→Int→Option (Int)
 | 0,_,_=>none
 | k+1,x0,x3=>if x3<(x0.length:Int) then (if 0≤x3 then ((zaS.f ((zaH x0 x3).f0)).bind fun t257=>(if t257=true then ((zaS.f ((zaH x0 x3).f1)).bind fun t259=>(zay.j1 k x0 x3 (!t259))) else (zay.j1 k x0 x3 true))) else (none)) else (some 0)
def zay.j1:Nat→List (S135)→Int→Bool→Option (Int)
 | 0,_,_,_=>none
 | k+1,x0,x3,x31=>if x31=true then (some 2) else (if x3 > 0 then (if 0≤x3 then (if x3<(x0.length:Int) then (if 0≤(wrap64 (x3 - 1)) then (if (wrap64 (x3 - 1))<(x0.length:Int) then (if ((zaH x0 x3).f0)≤((zaH x0 (wrap64 (x3 - 1))).f0) then (some 24) else (zay.l0 k x0 (wrap64 (x3+1)))) else (none)) else (none)) else (none)) else (none)) else (zay.l0 k x0 (wrap64 (x3+1))))
end
def zay.f (k:Nat) (l0:List (S135)):Option (Int):=if (l0.length:Int)<2 then (some 1) else (if (l0.length:Int) > 16 then (some 3) else (zay.l0 k l0 0))
set_option maxHeartbeats 8000000 in
set_option maxRecDepth 100000 in
theorem zay.calls (k:Nat) (A0:Option Addr) (c0:Nat) (l0:List (S135)) (r:Int) (w:World) (hr0:Kd.C k135 w A0 l0.length l0) (hc0:l0.length≤c0) (h:zay.f k l0=some r) :
 Calls Try.prog 107 #[.slice A0 l0.length c0] w fun e w'=>e = .returned (.int .i64 r)∧Drawn0 w w':=by
 have HR0:=Aside0.mk hr0
 have HC0:=Aside0.mk hc0
 clear hr0 hc0
 have H:(if (l0.length:Int)<2 then (some 1) else (if (l0.length:Int) > 16 then (some 3) else (zay.l0 k l0 0)))=some r:=h
 clear h
 by_cases c2:(l0.length:Int)<2
 ·rw [if_pos c2] at H
  have c2b0:decide ((l0.length:Int)<2)=true:=decide_eq_true c2
  have c2b1:decide (l0.length<2)=true:=decide_eq_true (by omega)
  clear c2
  obtain rfl:=Option.some.inj H
  go_enter Try.func107,Try.ntmps107
  go_wp2
  repeat (go_quiet (fail);try go_wp2)
  go_ret
  exact ⟨by first|rfl|(simp;done)|(simp [*];done),by repeat (first|exact Drawn0.refl _|apply Drawn0.step)⟩
 ·rw [if_neg c2] at H
  have c2b0:decide ((l0.length:Int)<2)=false:=decide_eq_false c2
  have c2b1:decide (l0.length<2)=false:=decide_eq_false (by omega)
  clear c2
  by_cases c3:(l0.length:Int) > 16
  ·rw [if_pos c3] at H
   have c3b0:decide (16<(l0.length:Int))=true:=decide_eq_true c3
   have c3b1:decide (16<l0.length)=true:=decide_eq_true (by omega)
   clear c3
   obtain rfl:=Option.some.inj H
   go_enter Try.func107,Try.ntmps107
   go_wp2
   repeat (go_quiet (fail);try go_wp2)
   go_ret
   exact ⟨by first|rfl|(simp;done)|(simp [*];done),by repeat (first|exact Drawn0.refl _|apply Drawn0.step)⟩
  ·rw [if_neg c3] at H
   have c3b0:decide (16<(l0.length:Int))=false:=decide_eq_false c3
   have c3b1:decide (16<l0.length)=false:=decide_eq_false (by omega)
   clear c3
   have H':=Aside0.mk H
   clear H
   go_enter Try.func107,Try.ntmps107
   go_wp2
   repeat (go_quiet (fail);try go_wp2)
   go_loopg [3] k (fun kq v3 w'=>∃ (x3_1:Int),v3 = .int .i64 x3_1∧Aside0 (zay.l0 kq l0 x3_1=some r)∧Aside0 (kq≤k)∧Drawn0 w w')
   case atStart=>exact ⟨(0),zF,H',⟨Nat.le_refl _⟩,by repeat (first|exact Drawn0.refl _|apply Drawn0.step)⟩
   case round=>
    clear H'
    try clear c1
    try clear c2
    try clear c2b0
    try clear c2b1
    try clear p2
    try clear c3
    try clear c3b0
    try clear c3b1
    obtain ⟨x3_1,rfl,HA,HK1,⟨m1,rfl⟩⟩:=hrel
    cases gk with
    | zero=>exact absurd HA.out (by simp [zay.l0])
    | succ k1=>
     have H:=HA.out
     clear HA
     simp only [zay.l0] at H
     by_cases c4:x3_1<(l0.length:Int)
     ·rw [if_pos c4] at H
      have c4b0:decide (x3_1<(l0.length:Int))=true:=decide_eq_true c4
      clear c4
      have HC5:=Aside0.mk H
      clear H
      go_upto_region 8 with (fail)
      repeat (go_quiet (fail);go_upto_region 8 with (fail))
      go_cut [31] (fun v31 wc=>∃ (kq:Nat) (x31_4:Bool),v31 = .bool x31_4∧Aside0 (zay.j1 kq l0 x3_1 x31_4=some r)∧Aside0 (kq≤k1)∧Drawn0 w wc)
      case first=>
       have H:=HC5.out
       clear HC5
       by_cases c6:0≤x3_1
       ·rw [if_pos c6] at H
        have c6b0:decide (0≤x3_1)=true:=decide_eq_true c6
        clear c6
        (first|rw [c6b0]|(simp only [i64_w,i32_w];rw [c6b0])|skip)
        replace H:=Option.bind_eq_some_iff.mp H
        obtain ⟨t257,A70,H⟩:=H
        replace H:(if t257=true then ((zaS.f ((zaH l0 x3_1).f1)).bind fun t259=>(zay.j1 k1 l0 x3_1 (!t259))) else (zay.j1 k1 l0 x3_1 true))=some r:=H
        have A7:=Aside0.mk A70
        clear A70
        by_cases c8:t257=true
        ·subst c8
         have H1:((zaS.f ((zaH l0 x3_1).f1)).bind fun t259=>(zay.j1 k1 l0 x3_1 (!t259)))=some r:=by rw [if_pos rfl] at H;exact H
         clear H
         have H:=H1
         clear H1
         replace H:=Option.bind_eq_some_iff.mp H
         obtain ⟨t259,A90,H⟩:=H
         replace H:(zay.j1 k1 l0 x3_1 (!t259))=some r:=H
         have A9:=Aside0.mk A90
         clear A90
         have H':=Aside0.mk H
         clear H
         have p256:0≤(x3_1:Int):=of_decide_eq_true (by first|(with_reducible assumption)|assumption)
         have q256:x3_1<(l0.length:Int):=of_decide_eq_true (by first|(with_reducible assumption)|assumption)
         obtain ⟨ad256,e256,hx256_0,hx256_1⟩:=at_T135 HR0.out x3_1 p256 q256
         cases e256
         replace p256:=eq_true p256
         replace q256:=eq_true q256
         go_wp2_with (first|(go_at_call 139;(with_reducible refine (zaS.calls ((zaH l0 x3_1).f0) true _ A7.out).mono ?_);rintro e w' ⟨rfl,⟨nd,rfl⟩⟩;(try first|exact ⟨rfl,_,World.drewN_drewN _ _ _⟩|exact ⟨rfl,_,Eq.trans (World.drewN_drewN _ _ _) (congrArg (World.drewN _) (Nat.add_assoc _ _ _))⟩);have p258:0≤(x3_1:Int):=of_decide_eq_true (by first|(with_reducible assumption)|assumption);have q258:x3_1<(l0.length:Int):=of_decide_eq_true (by first|(with_reducible assumption)|assumption);obtain ⟨ad258,e258,hx258_0,hx258_1⟩:=at_T135 HR0.out x3_1 p258 q258;obtain rfl:ad256=ad258:=(by injection e258);replace p258:=eq_true p258;replace q258:=eq_true q258)|(go_at_call 139;(with_reducible refine (zaS.calls ((zaH l0 x3_1).f1) t259 _ A9.out).mono ?_);rintro e w' ⟨rfl,⟨nd,rfl⟩⟩;(try first|exact ⟨rfl,_,World.drewN_drewN _ _ _⟩|exact ⟨rfl,_,Eq.trans (World.drewN_drewN _ _ _) (congrArg (World.drewN _) (Nat.add_assoc _ _ _))⟩)))
         repeat (go_quiet (first|(go_at_call 139;(with_reducible refine (zaS.calls ((zaH l0 x3_1).f0) true _ A7.out).mono ?_);rintro e w' ⟨rfl,⟨nd,rfl⟩⟩;(try first|exact ⟨rfl,_,World.drewN_drewN _ _ _⟩|exact ⟨rfl,_,Eq.trans (World.drewN_drewN _ _ _) (congrArg (World.drewN _) (Nat.add_assoc _ _ _))⟩);have p258:0≤(x3_1:Int):=of_decide_eq_true (by first|(with_reducible assumption)|assumption);have q258:x3_1<(l0.length:Int):=of_decide_eq_true (by first|(with_reducible assumption)|assumption);obtain ⟨ad258,e258,hx258_0,hx258_1⟩:=at_T135 HR0.out x3_1 p258 q258;obtain rfl:ad256=ad258:=(by injection e258);replace p258:=eq_true p258;replace q258:=eq_true q258)|(go_at_call 139;(with_reducible refine (zaS.calls ((zaH l0 x3_1).f1) t259 _ A9.out).mono ?_);rintro e w' ⟨rfl,⟨nd,rfl⟩⟩;(try first|exact ⟨rfl,_,World.drewN_drewN _ _ _⟩|exact ⟨rfl,_,Eq.trans (World.drewN_drewN _ _ _) (congrArg (World.drewN _) (Nat.add_assoc _ _ _))⟩)));try go_wp2_with (first|(go_at_call 139;(with_reducible refine (zaS.calls ((zaH l0 x3_1).f0) true _ A7.out).mono ?_);rintro e w' ⟨rfl,⟨nd,rfl⟩⟩;(try first|exact ⟨rfl,_,World.drewN_drewN _ _ _⟩|exact ⟨rfl,_,Eq.trans (World.drewN_drewN _ _ _) (congrArg (World.drewN _) (Nat.add_assoc _ _ _))⟩);have p258:0≤(x3_1:Int):=of_decide_eq_true (by first|(with_reducible assumption)|assumption);have q258:x3_1<(l0.length:Int):=of_decide_eq_true (by first|(with_reducible assumption)|assumption);obtain ⟨ad258,e258,hx258_0,hx258_1⟩:=at_T135 HR0.out x3_1 p258 q258;obtain rfl:ad256=ad258:=(by injection e258);replace p258:=eq_true p258;replace q258:=eq_true q258)|(go_at_call 139;(with_reducible refine (zaS.calls ((zaH l0 x3_1).f1) t259 _ A9.out).mono ?_);rintro e w' ⟨rfl,⟨nd,rfl⟩⟩;(try first|exact ⟨rfl,_,World.drewN_drewN _ _ _⟩|exact ⟨rfl,_,Eq.trans (World.drewN_drewN _ _ _) (congrArg (World.drewN _) (Nat.add_assoc _ _ _))⟩))))
         go_meet
         case rel=>exact ⟨_,(!t259),zF,H',⟨by have:=HK1.out;first|omega|exact Nat.le_refl _⟩,by repeat (first|exact Drawn0.refl _|apply Drawn0.step)⟩
        ·replace c8:=Bool.eq_false_iff.mpr c8
         subst c8
         have H1:(zay.j1 k1 l0 x3_1 true)=some r:=by rw [if_neg (show ¬ (false=true) by decide)] at H;exact H
         clear H
         have H:=H1
         clear H1
         have H':=Aside0.mk H
         clear H
         have p256:0≤(x3_1:Int):=of_decide_eq_true (by first|(with_reducible assumption)|assumption)
         have q256:x3_1<(l0.length:Int):=of_decide_eq_true (by first|(with_reducible assumption)|assumption)
         obtain ⟨ad256,e256,hx256_0,hx256_1⟩:=at_T135 HR0.out x3_1 p256 q256
         cases e256
         replace p256:=eq_true p256
         replace q256:=eq_true q256
         go_wp2_with (first|(go_at_call 139;(with_reducible refine (zaS.calls ((zaH l0 x3_1).f0) false _ A7.out).mono ?_);rintro e w' ⟨rfl,⟨nd,rfl⟩⟩;(try first|exact ⟨rfl,_,World.drewN_drewN _ _ _⟩|exact ⟨rfl,_,Eq.trans (World.drewN_drewN _ _ _) (congrArg (World.drewN _) (Nat.add_assoc _ _ _))⟩)))
         repeat (go_quiet (first|(go_at_call 139;(with_reducible refine (zaS.calls ((zaH l0 x3_1).f0) false _ A7.out).mono ?_);rintro e w' ⟨rfl,⟨nd,rfl⟩⟩;(try first|exact ⟨rfl,_,World.drewN_drewN _ _ _⟩|exact ⟨rfl,_,Eq.trans (World.drewN_drewN _ _ _) (congrArg (World.drewN _) (Nat.add_assoc _ _ _))⟩)));try go_wp2_with (first|(go_at_call 139;(with_reducible refine (zaS.calls ((zaH l0 x3_1).f0) false _ A7.out).mono ?_);rintro e w' ⟨rfl,⟨nd,rfl⟩⟩;(try first|exact ⟨rfl,_,World.drewN_drewN _ _ _⟩|exact ⟨rfl,_,Eq.trans (World.drewN_drewN _ _ _) (congrArg (World.drewN _) (Nat.add_assoc _ _ _))⟩))))
         go_meet
         case rel=>exact ⟨_,(true),zF,H',⟨by have:=HK1.out;first|omega|exact Nat.le_refl _⟩,by repeat (first|exact Drawn0.refl _|apply Drawn0.step)⟩
       ·rw [if_neg c6] at H
        exact absurd H (by simp)
      case rest=>
       clear HC5
       try clear c1
       try clear c2
       try clear c2b0
       try clear c2b1
       try clear p2
       try clear q2
       try clear hx2
       try clear c3
       try clear c3b0
       try clear c3b1
       try clear c4
       try clear c4b0
       try clear c6
       try clear c6b0
       try clear c8
       try clear hx256_0
       try clear hx256_1
       try clear hx258_0
       try clear hx258_1
       try clear p2
       try clear p256
       try clear p258
       try clear q256
       try clear q258
       obtain ⟨kq,x31_4,rfl,HA,HJ4,⟨mc4,rfl⟩⟩:=hcut
       cases kq with
       | zero=>exact absurd HA.out (by simp [zay.j1])
       | succ kj4=>
        have H:=HA.out
        clear HA
        simp only [zay.j1] at H
        by_cases c10:x31_4=true
        ·subst c10
         have H1:(some 2)=some r:=by rw [if_pos rfl] at H;exact H
         clear H
         have H:=H1
         clear H1
         obtain rfl:=Option.some.inj H
         go_wp2
         repeat (go_quiet (fail);try go_wp2)
         go_ret
         exact ⟨by first|rfl|(simp;done)|(simp [*];done),by repeat (first|exact Drawn0.refl _|apply Drawn0.step)⟩
        ·replace c10:=Bool.eq_false_iff.mpr c10
         subst c10
         have H1:(if x3_1 > 0 then (if 0≤x3_1 then (if x3_1<(l0.length:Int) then (if 0≤(wrap64 (x3_1 - 1)) then (if (wrap64 (x3_1 - 1))<(l0.length:Int) then (if ((zaH l0 x3_1).f0)≤((zaH l0 (wrap64 (x3_1 - 1))).f0) then (some 24) else (zay.l0 kj4 l0 (wrap64 (x3_1+1)))) else (none)) else (none)) else (none)) else (none)) else (zay.l0 kj4 l0 (wrap64 (x3_1+1))))=some r:=by rw [if_neg (show ¬ (false=true) by decide)] at H;exact H
         clear H
         have H:=H1
         clear H1
         by_cases c11:x3_1 > 0
         ·rw [if_pos c11] at H
          have c11b0:decide (0<x3_1)=true:=decide_eq_true c11
          clear c11
          by_cases c12:0≤x3_1
          ·rw [if_pos c12] at H
           have c12b0:decide (0≤x3_1)=true:=decide_eq_true c12
           clear c12
           by_cases c13:x3_1<(l0.length:Int)
           ·rw [if_pos c13] at H
            have c13b0:decide (x3_1<(l0.length:Int))=true:=decide_eq_true c13
            clear c13
            obtain ⟨ji14,hji14⟩ : ∃ j_:Int,(wrap64 (x3_1 - 1))=j_:=⟨_,rfl⟩
            replace H:(if 0≤(ji14) then (if (ji14)<(l0.length:Int) then (if ((zaH l0 x3_1).f0)≤((zaH l0 (ji14)).f0) then (some 24) else (zay.l0 kj4 l0 (wrap64 (x3_1+1)))) else (none)) else (none))=some r:=by first|(rw [hji14] at H;exact H)|(simp only [hji14] at H ⊢;exact H)
            have hji14w:(IntKind.i64.wrap (x3_1 - 1))=ji14:=(i64_w _).trans hji14
            by_cases c15:0≤(ji14)
            ·rw [if_pos c15] at H
             have c15b0:decide (0≤(ji14))=true:=decide_eq_true c15
             clear c15
             by_cases c16:(ji14)<(l0.length:Int)
             ·rw [if_pos c16] at H
              have c16b0:decide ((ji14)<(l0.length:Int))=true:=decide_eq_true c16
              clear c16
              by_cases c17:((zaH l0 x3_1).f0)≤((zaH l0 (ji14)).f0)
              ·rw [if_pos c17] at H
               have c17b0:decide (((zaH l0 x3_1).f0)≤((zaH l0 (ji14)).f0))=true:=decide_eq_true c17
               clear c17
               obtain rfl:=Option.some.inj H
               have p260:0≤(x3_1:Int):=of_decide_eq_true (by first|(with_reducible assumption)|assumption)
               have q260:x3_1<(l0.length:Int):=of_decide_eq_true (by first|(with_reducible assumption)|assumption)
               obtain ⟨ad260,e260,hx260_0,hx260_1⟩:=at_T135 HR0.out x3_1 p260 q260
               cases e260
               replace p260:=eq_true p260
               replace q260:=eq_true q260
               have p261:0≤((ji14):Int):=of_decide_eq_true (by first|(with_reducible assumption)|assumption)
               have q261:(ji14)<(l0.length:Int):=of_decide_eq_true (by first|(with_reducible assumption)|assumption)
               obtain ⟨ad261,e261,hx261_0,hx261_1⟩:=at_T135 HR0.out (ji14) p261 q261
               obtain rfl:ad260=ad261:=(by injection e261)
               replace p261:=eq_true p261
               replace q261:=eq_true q261
               go_wp2
               repeat (go_quiet (fail);try go_wp2)
               go_ret
               exact ⟨by first|rfl|(simp;done)|(simp only [← hji14] <;> (first|rfl|simp))|(simp [*];done),by repeat (first|exact Drawn0.refl _|apply Drawn0.step)⟩
              ·rw [if_neg c17] at H
               have c17b0:decide (((zaH l0 x3_1).f0)≤((zaH l0 (ji14)).f0))=false:=decide_eq_false c17
               clear c17
               have H':=Aside0.mk H
               clear H
               have p260:0≤(x3_1:Int):=of_decide_eq_true (by first|(with_reducible assumption)|assumption)
               have q260:x3_1<(l0.length:Int):=of_decide_eq_true (by first|(with_reducible assumption)|assumption)
               obtain ⟨ad260,e260,hx260_0,hx260_1⟩:=at_T135 HR0.out x3_1 p260 q260
               cases e260
               replace p260:=eq_true p260
               replace q260:=eq_true q260
               have p261:0≤((ji14):Int):=of_decide_eq_true (by first|(with_reducible assumption)|assumption)
               have q261:(ji14)<(l0.length:Int):=of_decide_eq_true (by first|(with_reducible assumption)|assumption)
               obtain ⟨ad261,e261,hx261_0,hx261_1⟩:=at_T135 HR0.out (ji14) p261 q261
               obtain rfl:ad260=ad261:=(by injection e261)
               replace p261:=eq_true p261
               replace q261:=eq_true q261
               go_wp2
               repeat (go_quiet (fail);try go_wp2)
               go_roundg kj4
               case measure=>have:=HK1.out;have:=HJ4.out;omega
               case rel=>exact ⟨(wrap64 (x3_1+1)),zF,H',⟨by have:=HK1.out;have:=HJ4.out;omega⟩,by repeat (first|exact Drawn0.refl _|apply Drawn0.step)⟩
             ·rw [if_neg c16] at H
              exact absurd H (by simp)
            ·rw [if_neg c15] at H
             exact absurd H (by simp)
           ·rw [if_neg c13] at H
            exact absurd H (by simp)
          ·rw [if_neg c12] at H
           exact absurd H (by simp)
         ·rw [if_neg c11] at H
          have c11b0:decide (0<x3_1)=false:=decide_eq_false c11
          clear c11
          have H':=Aside0.mk H
          clear H
          go_wp2
          repeat (go_quiet (fail);try go_wp2)
          go_roundg kj4
          case measure=>have:=HK1.out;have:=HJ4.out;omega
          case rel=>exact ⟨(wrap64 (x3_1+1)),zF,H',⟨by have:=HK1.out;have:=HJ4.out;omega⟩,by repeat (first|exact Drawn0.refl _|apply Drawn0.step)⟩
     ·rw [if_neg c4] at H
      have c4b0:decide (x3_1<(l0.length:Int))=false:=decide_eq_false c4
      clear c4
      obtain rfl:=Option.some.inj H
      go_wp2
      repeat (go_quiet (fail);try go_wp2)
      go_ret
      exact ⟨by first|rfl|(simp;done)|(simp [*];done),by repeat (first|exact Drawn0.refl _|apply Drawn0.step)⟩
end Go.Proofs.Ytlilncnoohfcdaa.Da
