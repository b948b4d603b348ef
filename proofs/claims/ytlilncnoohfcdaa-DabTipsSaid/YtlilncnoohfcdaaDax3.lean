
import Derived.Test.YtlilncnoohfcdaaDax0
import Derived.Test.YtlilncnoohfcdaaDax1
namespace Go.Proofs.Ytlilncnoohfcdaa.Da
open Go.RowKit Go.Proofs.YtlilncnoohfcdaaW.PrintWords Go.Proofs.YtlilncnoohfcdaaW.PrintLast Go.Proofs.YtlilncnoohfcdaaW.PrintMore
attribute [local go_sem] max2_int min2_int zbo zbp zbc zbd zbj zbk   
set_option linter.unusedVariables false
set_option linter.unusedSimpArgs false
attribute [local go_sem high] eqA23
/-! ### dab_within: function 45 -/
def zas.f (a0:Int) (a1:Int) (a2:Int):Option (Bool):=if a1≤a0 then (some (decide (a0≤a2))) else (some false)
set_option maxHeartbeats 8000000 in
set_option maxRecDepth 100000 in
theorem zas.calls (a0:Int) (a1:Int) (a2:Int) (r:Bool) (w:World) (h:zas.f a0 a1 a2=some r) :
 Calls Try.prog 45 #[.int .i64 a0,.int .i64 a1,.int .i64 a2] w fun e w'=>e = .returned (.bool r)∧Drawn0 w w':=by
 have H:(if a1≤a0 then (some (decide (a0≤a2))) else (some false))=some r:=h
 clear h
 by_cases c4:a1≤a0
 ·rw [if_pos c4] at H
  have c4b0:decide (a1≤a0)=true:=decide_eq_true c4
  clear c4
  obtain rfl:=Option.some.inj H
  go_enter Try.func45,Try.ntmps45
  go_wp2
  go_ret
  exact ⟨by first|rfl|(simp;done)|(simp [*];done),by repeat (first|exact Drawn0.refl _|apply Drawn0.step)⟩
 ·rw [if_neg c4] at H
  have c4b0:decide (a1≤a0)=false:=decide_eq_false c4
  clear c4
  obtain rfl:=Option.some.inj H
  go_enter Try.func45,Try.ntmps45
  go_wp2
  go_ret
  exact ⟨by first|rfl|(simp;done)|(simp [*];done),by repeat (first|exact Drawn0.refl _|apply Drawn0.step)⟩
def zaO.f (a0:Int):Option (Bool):=(zas.f a0 0 65535).bind fun t101=>(some t101)
set_option maxHeartbeats 8000000 in
set_option maxRecDepth 100000 in
theorem zaO.calls (a0:Int) (r:Bool) (w:World) (h:zaO.f a0=some r) :
 Calls Try.prog 46 #[.int .i64 a0] w fun e w'=>e = .returned (.bool r)∧Drawn0 w w':=by
 have H:((zas.f a0 0 65535).bind fun t101=>(some t101))=some r:=h
 clear h
 replace H:=Option.bind_eq_some_iff.mp H
 obtain ⟨t101,A20,H⟩:=H
 replace H:(some t101)=some r:=H
 have A2:=Aside0.mk A20
 clear A20
 obtain rfl:=Option.some.inj H
 go_enter Try.func46,Try.ntmps46
 go_wp2_with (first|((with_reducible refine zal (f:=45) rfl ?_);refine goesL_ (some 4) rfl rfl Try.func45 (by kernel_rfl) rfl #[.int .i64 a0,.int .i64 0,.int .i64 65535] rfl zA ?_;(with_reducible refine (zas.calls a0 0 65535 t101 _ A2.out).mono ?_);rintro e w' ⟨rfl,⟨nd,rfl⟩⟩;refine ⟨_,rfl,?_⟩))
 go_ret
 exact ⟨by first|rfl|(simp;done)|(simp [*];done),by repeat (first|exact Drawn0.refl _|apply Drawn0.step)⟩
def zaW.f (a0:Int) (a1:Int) (a2:Int):Option (Int):=some (mn a2 (mx a0 a1))
set_option maxHeartbeats 8000000 in
set_option maxRecDepth 100000 in
theorem zaW.calls (a0:Int) (a1:Int) (a2:Int) (r:Int) (w:World) (h:zaW.f a0 a1 a2=some r) :
 Calls Try.prog 54 #[.int .i64 a0,.int .i64 a1,.int .i64 a2] w fun e w'=>e = .returned (.int .i64 r)∧Below w.heap.size w w':=by
 have HB:=Aside0.mk (Below.refl w.heap.size w)
 have H:(some (mn a2 (mx a0 a1)))=some r:=h
 clear h
 obtain ⟨ji4,hji4⟩ : ∃ j_:Int,(mx a0 a1)=j_:=⟨_,rfl⟩
 replace H:(some (mn a2 (ji4)))=some r:=by first|(rw [hji4] at H;exact H)|(simp only [hji4] at H ⊢;exact H)
 have hji4_:(if a0<a1 then a1 else a0)=ji4:=hji4
 obtain ⟨ji5,hji5⟩ : ∃ j_:Int,(mn a2 (ji4))=j_:=⟨_,rfl⟩
 replace H:(some ji5)=some r:=by first|(rw [hji5] at H;exact H)|(simp only [hji5] at H ⊢;exact H)
 have hji5_:(if (ji4)<a2 then (ji4) else a2)=ji5:=hji5
 obtain rfl:=Option.some.inj H
 go_enter Try.func54,Try.ntmps54
 go_wp2
 go_ret
 exact ⟨by first|rfl|(simp [errW_none,errW_some] <;> rfl)|(simp only [← hji4,← hji5];first|rfl|(simp [errW_none,errW_some] <;> rfl))|(simp [*,errW_none,errW_some] <;> rfl),by repeat (first|(with_reducible first|exact HB.out|apply zai|apply zaf|apply zag)|exact HB.out)⟩
def zbb.f (a0:Int):Option (Int):=(zaW.f a0 0 65535).bind fun t102=>(some t102)
set_option maxHeartbeats 8000000 in
set_option maxRecDepth 100000 in
theorem zbb.calls (a0:Int) (r:Int) (w:World) (h:zbb.f a0=some r) :
 Calls Try.prog 137 #[.int .i64 a0] w fun e w'=>e = .returned (.int .i64 r)∧Below w.heap.size w w':=by
 have HB:=Aside0.mk (Below.refl w.heap.size w)
 have H:((zaW.f a0 0 65535).bind fun t102=>(some t102))=some r:=h
 clear h
 replace H:=Option.bind_eq_some_iff.mp H
 obtain ⟨t102,A20,H⟩:=H
 replace H:(some t102)=some r:=H
 have A2:=Aside0.mk A20
 clear A20
 obtain rfl:=Option.some.inj H
 go_enter Try.func137,Try.ntmps137
 go_wp2_with (first|((with_reducible refine zal (f:=54) rfl ?_);refine goesL_ (some 4) rfl rfl Try.func54 (by kernel_rfl) rfl #[.int .i64 a0,.int .i64 0,.int .i64 65535] rfl zA ?_;(with_reducible refine (zaW.calls a0 0 65535 t102 _ A2.out).mono ?_);rintro e w3 ⟨rfl,hb⟩;refine ⟨_,rfl,?_⟩;replace HB:=Aside0.mk (zad (zL HB.out) hb);(try clear hb);(try clear hb2);(try clear hk);(try clear hi)))
 go_ret
 exact ⟨by first|rfl|(simp [errW_none,errW_some] <;> rfl)|(simp [*,errW_none,errW_some] <;> rfl),by repeat (first|(with_reducible first|exact HB.out|apply zai|apply zaf|apply zag)|exact HB.out)⟩
def zbm.f (a0_0:Int) (a0_1:Int) (a0_2:Int) (a0_3:Int):Option (Int×Int×Int×Int):=(zbb.f a0_0).bind fun t105=>((zbb.f a0_1).bind fun t106=>((zbb.f a0_2).bind fun t107=>((zbb.f a0_3).bind fun t108=>(some (t105,t106,t107,t108)))))
def zbm.T1:Bool×List (List Nat×List Nat):=(true,[([],[]),([0],[0]),([1],[1]),([],[]),([3],[3]),([4,2],[4]),([],[]),([6],[6]),([7,5],[7]),([],[]),([9],[9]),([10,8],[10]),([2,5,8,11],[2,5,8,11]),([12,11,0,1,2,3,4,5,6,7,8,9,10,11,12],[12])])
def zbm.B1:List Nat:=[0,1,3,0,8,31,0,64,255,0,512,2047,4095,8191]
theorem zbm.tab1:rtab .any (opsOf Try.f104 1)=zbm.T1:=by kernel_rfl
theorem zbm.bits1:waitsOk zbm.T1.2 zbm.B1=true:=by kernel_rfl
set_option maxHeartbeats 8000000 in
set_option maxRecDepth 100000 in
theorem zbm.calls (a0_0:Int) (a0_1:Int) (a0_2:Int) (a0_3:Int) (r1:Int) (r2:Int) (r3:Int) (r4:Int) (w:World) (h:zbm.f a0_0 a0_1 a0_2 a0_3=some (r1,r2,r3,r4)) :
 Calls Try.prog 104 #[.agg #[.int .i64 a0_0,.int .i64 a0_1,.int .i64 a0_2,.int .i64 a0_3]] w fun e w'=>e = .returned (.agg #[.int .i64 r1,.int .i64 r2,.int .i64 r3,.int .i64 r4])∧Below w.heap.size w w':=by
 have hu23:=Try.underlying23
 have HB:=Aside0.mk (Below.refl w.heap.size w)
 have H:((zbb.f a0_0).bind fun t105=>((zbb.f a0_1).bind fun t106=>((zbb.f a0_2).bind fun t107=>((zbb.f a0_3).bind fun t108=>(some (t105,t106,t107,t108))))))=some (r1,r2,r3,r4):=h
 clear h
 replace H:=Option.bind_eq_some_iff.mp H
 obtain ⟨t105,A20,H⟩:=H
 replace H:((zbb.f a0_1).bind fun t106=>((zbb.f a0_2).bind fun t107=>((zbb.f a0_3).bind fun t108=>(some (t105,t106,t107,t108)))))=some (r1,r2,r3,r4):=H
 have A2:=Aside0.mk A20
 clear A20
 replace H:=Option.bind_eq_some_iff.mp H
 obtain ⟨t106,A30,H⟩:=H
 replace H:((zbb.f a0_2).bind fun t107=>((zbb.f a0_3).bind fun t108=>(some (t105,t106,t107,t108))))=some (r1,r2,r3,r4):=H
 have A3:=Aside0.mk A30
 clear A30
 replace H:=Option.bind_eq_some_iff.mp H
 obtain ⟨t107,A40,H⟩:=H
 replace H:((zbb.f a0_3).bind fun t108=>(some (t105,t106,t107,t108)))=some (r1,r2,r3,r4):=H
 have A4:=Aside0.mk A40
 clear A40
 replace H:=Option.bind_eq_some_iff.mp H
 obtain ⟨t108,A50,H⟩:=H
 replace H:(some (t105,t106,t107,t108))=some (r1,r2,r3,r4):=H
 have A5:=Aside0.mk A50
 clear A50
 simp only [Option.some.injEq,Prod.mk.injEq] at H
 obtain ⟨rfl,rfl,rfl,rfl⟩:=H
 go_enter Try.func104,Try.ntmps104
 try go_wp2_with (first|((with_reducible refine zaA (N:=1) rfl ?_);refine zav ?hg (N:=1) ?hd (cs:=#[.int .i64 a0_0,.int .i64 a0_1,.int .i64 a0_2,.int .i64 a0_3]) (t:=23) ?hr ?_;(case hd=>rfl);(case hg=>rfl);(case hr=>first|(go_simp;done)|(go_simp;rfl));intro gb103 hg w6 hbox hb;have n0_:=Aside0.mk (zad (zL HB.out) hb);have n1_:=Aside0.mk (hbox);have n2_:=Aside0.mk ((zS hg (zL HB.out):w.heap.size≤gb103));have n3_:=Aside0.mk ((zS hg (zL HB.out):w.heap.size≤gb103));clear HB;have HB:=n0_;have BK103:=n1_;have GW103:=n2_;have GE103:=n3_;clear n0_ n1_ n2_ n3_;clear hb hbox hg)|((with_reducible refine zaA (N:=2) rfl ?_);refine zav ?hg (N:=2) ?hd (cs:=#[.int .i64 0,.int .i64 0,.int .i64 0,.int .i64 0]) (t:=23) ?hr ?_;(case hd=>rfl);(case hg=>rfl);(case hr=>first|(go_simp;done)|(go_simp;rfl));intro gb104 hg w7 hbox hb;have n0_:=Aside0.mk (zaa (zB BK103.out) hb);have n1_:=Aside0.mk (zad (zL1 HB.out GE103.out) hb);have n2_:=Aside0.mk (hbox);have n3_:=Aside0.mk ((zS hg (zL1 HB.out GE103.out):w.heap.size≤gb104));have n4_:=Aside0.mk ((zS hg (zL1 HB.out GE103.out):w.heap.size≤gb104));have n5_:=Aside0.mk ((by rw [hg];exact Nat.ne_of_lt (zao (zB BK103.out)):gb103≠gb104));have n6_:=Aside0.mk ((by rw [hg];exact Nat.ne_of_gt (zao (zB BK103.out)):gb104≠gb103));clear BK103;clear HB;have BK103:=n0_;have HB:=n1_;have BK104:=n2_;have GW104:=n3_;have GE104:=n4_;have NB103_104:=n5_;have NB104_103:=n6_;clear n0_ n1_ n2_ n3_ n4_ n5_ n6_;clear hb hbox hg))
 replace BK103:=Aside0.mk (zaK BK103.out)
 replace BK104:=Aside0.mk (zaK BK104.out)
 replace HB:=Aside0.mk (zag HB.out)
 refine start_ (n:=14) (S:=fun w'=>w'.cell? ⟨gb103,0,none⟩=some (.int .i64 a0_0)∧w'.cell? ⟨gb103,1,none⟩=some (.int .i64 a0_1)∧w'.cell? ⟨gb103,2,none⟩=some (.int .i64 a0_2)∧w'.cell? ⟨gb103,3,none⟩=some (.int .i64 a0_3)) (ds:=[]) #[false,false,false,false,false,false,false,false,false,false,false,false,false,false] (by kernel_rfl) rfl rfl ⟨zc BK103.out 0,zc BK103.out 1,zc BK103.out 2,zc BK103.out 3⟩ (fun hHeld=>?_);refine zbi zbm.tab1 zbm.bits1 (fun HT_ HW_=>?_)
 generalize w7.drew=w8 at BK103 BK104 HB hHeld ⊢
 refine pure_ (i:=0) (N:=some 3) (v:=?_) (a':=?_) #[true,false,false,false,false,false,false,false,false,false,false,false,false,false] rfl rfl (zap HT_.out (by kernel_rfl)) (fun _ _ _ h=>h) (Or.inl ⟨by rfl,?_⟩) ?_ ?_
 rotate_left
 ·intro w'
  go_simp
  with_reducible rfl
 rotate_left
 ·exact zP
 refine pure_ (i:=3) (N:=some 6) (v:=?_) (a':=?_) #[true,false,false,true,false,false,false,false,false,false,false,false,false,false] rfl rfl (zap HT_.out (by kernel_rfl)) (fun _ _ _ h=>h) (Or.inl ⟨by rfl,?_⟩) ?_ ?_
 rotate_left
 ·intro w'
  go_simp
  with_reducible rfl
 rotate_left
 ·exact zP
 refine pure_ (i:=6) (N:=some 9) (v:=?_) (a':=?_) #[true,false,false,true,false,false,true,false,false,false,false,false,false,false] rfl rfl (zap HT_.out (by kernel_rfl)) (fun _ _ _ h=>h) (Or.inl ⟨by rfl,?_⟩) ?_ ?_
 rotate_left
 ·intro w'
  go_simp
  with_reducible rfl
 rotate_left
 ·exact zP
 refine pure_ (i:=9) (N:=some 12) (v:=?_) (a':=?_) #[true,false,false,true,false,false,true,false,false,true,false,false,false,false] rfl rfl (zap HT_.out (by kernel_rfl)) (fun _ _ _ h=>h) (Or.inl ⟨by rfl,?_⟩) ?_ ?_
 rotate_left
 ·intro w'
  go_simp
  with_reducible rfl
 rotate_left
 ·exact zP
 refine take_ (i:=1) (N:=some 4) (v:=?_) (a':=?_) #[true,true,false,true,false,false,true,false,false,true,false,false,false,false] rfl rfl (zaL HT_.out HW_.out (by kernel_rfl)) (fun _ _ _ h=>h) (Or.inl ⟨by rfl,?_⟩) hHeld ?_ ?_
 rotate_left
 ·rintro w' ⟨s0,s1,s2,s3⟩
  go_simp
  with_reducible rfl
 rotate_left
 ·exact zP
 refine take_ (i:=4) (N:=some 7) (v:=?_) (a':=?_) #[true,true,false,true,true,false,true,false,false,true,false,false,false,false] rfl rfl (zaL HT_.out HW_.out (by kernel_rfl)) (fun _ _ _ h=>h) (Or.inl ⟨by rfl,?_⟩) hHeld ?_ ?_
 rotate_left
 ·rintro w' ⟨s0,s1,s2,s3⟩
  go_simp
  with_reducible rfl
 rotate_left
 ·exact zP
 refine take_ (i:=7) (N:=some 10) (v:=?_) (a':=?_) #[true,true,false,true,true,false,true,true,false,true,false,false,false,false] rfl rfl (zaL HT_.out HW_.out (by kernel_rfl)) (fun _ _ _ h=>h) (Or.inl ⟨by rfl,?_⟩) hHeld ?_ ?_
 rotate_left
 ·rintro w' ⟨s0,s1,s2,s3⟩
  go_simp
  with_reducible rfl
 rotate_left
 ·exact zP
 refine take_ (i:=10) (N:=some 13) (v:=?_) (a':=?_) #[true,true,false,true,true,false,true,true,false,true,true,false,false,false] rfl rfl (zaL HT_.out HW_.out (by kernel_rfl)) (fun _ _ _ h=>h) (Or.inl ⟨by rfl,?_⟩) hHeld ?_ ?_
 rotate_left
 ·rintro w' ⟨s0,s1,s2,s3⟩
  go_simp
  with_reducible rfl
 rotate_left
 ·exact zP
 refine one_ (i:=2) (N:=some 5) #[true,true,true,true,true,false,true,true,false,true,true,false,false,false] rfl rfl (zaR HT_.out (by kernel_rfl)) (by decide) (fun K hK=>?_)
 refine goes_ Try.func137 (by kernel_rfl) rfl #[.int .i64 a0_0] (by rfl) rfl rfl zA ?_
 with_reducible refine (zbb.calls a0_0 t105 _ A2.out).mono ?_
 rintro e w9 ⟨rfl,hb⟩
 refine ⟨_,rfl,?_⟩
 replace BK103:=Aside0.mk (zaa (zB BK103.out) hb)
 replace BK104:=Aside0.mk (zaa (zB BK104.out) hb)
 replace HB:=Aside0.mk (zad (zL2 HB.out GE103.out GE104.out) hb)
 (try clear hb)
 (try clear hb2)
 (try clear hk)
 (try clear hi)
 refine hK.out _ _ ⟨zc BK103.out 0,zc BK103.out 1,zc BK103.out 2,zc BK103.out 3⟩ (fun hHeld=>?_)
 clear hK K
 refine norm_ (a':=?_) ?_ ?_
 rotate_left
 ·show Act.put _ (some 5) _=_
  exact zP
 refine one_ (i:=5) (N:=some 8) #[true,true,true,true,true,true,true,true,false,true,true,false,false,false] rfl rfl (zaR HT_.out (by kernel_rfl)) (by decide) (fun K hK=>?_)
 refine goes_ Try.func137 (by kernel_rfl) rfl #[.int .i64 a0_1] (by rfl) rfl rfl zA ?_
 with_reducible refine (zbb.calls a0_1 t106 _ A3.out).mono ?_
 rintro e w10 ⟨rfl,hb⟩
 refine ⟨_,rfl,?_⟩
 replace BK103:=Aside0.mk (zaa (zB BK103.out) hb)
 replace BK104:=Aside0.mk (zaa (zB BK104.out) hb)
 replace HB:=Aside0.mk (zad (zL2 HB.out GE103.out GE104.out) hb)
 (try clear hb)
 (try clear hb2)
 (try clear hk)
 (try clear hi)
 refine hK.out _ _ ⟨zc BK103.out 0,zc BK103.out 1,zc BK103.out 2,zc BK103.out 3⟩ (fun hHeld=>?_)
 clear hK K
 refine norm_ (a':=?_) ?_ ?_
 rotate_left
 ·show Act.put _ (some 8) _=_
  exact zP
 refine one_ (i:=8) (N:=some 11) #[true,true,true,true,true,true,true,true,true,true,true,false,false,false] rfl rfl (zaR HT_.out (by kernel_rfl)) (by decide) (fun K hK=>?_)
 refine goes_ Try.func137 (by kernel_rfl) rfl #[.int .i64 a0_2] (by rfl) rfl rfl zA ?_
 with_reducible refine (zbb.calls a0_2 t107 _ A4.out).mono ?_
 rintro e w11 ⟨rfl,hb⟩
 refine ⟨_,rfl,?_⟩
 replace BK103:=Aside0.mk (zaa (zB BK103.out) hb)
 replace BK104:=Aside0.mk (zaa (zB BK104.out) hb)
 replace HB:=Aside0.mk (zad (zL2 HB.out GE103.out GE104.out) hb)
 (try clear hb)
 (try clear hb2)
 (try clear hk)
 (try clear hi)
 refine hK.out _ _ ⟨zc BK103.out 0,zc BK103.out 1,zc BK103.out 2,zc BK103.out 3⟩ (fun hHeld=>?_)
 clear hK K
 refine norm_ (a':=?_) ?_ ?_
 rotate_left
 ·show Act.put _ (some 11) _=_
  exact zP
 refine one_ (i:=11) (N:=some 14) #[true,true,true,true,true,true,true,true,true,true,true,true,false,false] rfl rfl (zaR HT_.out (by kernel_rfl)) (by decide) (fun K hK=>?_)
 refine goes_ Try.func137 (by kernel_rfl) rfl #[.int .i64 a0_3] (by rfl) rfl rfl zA ?_
 with_reducible refine (zbb.calls a0_3 t108 _ A5.out).mono ?_
 rintro e w12 ⟨rfl,hb⟩
 refine ⟨_,rfl,?_⟩
 replace BK103:=Aside0.mk (zaa (zB BK103.out) hb)
 replace BK104:=Aside0.mk (zaa (zB BK104.out) hb)
 replace HB:=Aside0.mk (zad (zL2 HB.out GE103.out GE104.out) hb)
 (try clear hb)
 (try clear hb2)
 (try clear hk)
 (try clear hi)
 refine hK.out _ _ ⟨zc BK103.out 0,zc BK103.out 1,zc BK103.out 2,zc BK103.out 3⟩ (fun hHeld=>?_)
 clear hK K
 refine norm_ (a':=?_) ?_ ?_
 rotate_left
 ·show Act.put _ (some 14) _=_
  exact zP
 refine pure_ (i:=12) (N:=some 15) (v:=?_) (a':=?_) #[true,true,true,true,true,true,true,true,true,true,true,true,true,false] rfl rfl (zap HT_.out (by kernel_rfl)) (fun _ _ _ h=>h) (Or.inl ⟨by rfl,?_⟩) ?_ ?_
 rotate_left
 ·intro w'
  go_simp
  with_reducible rfl
 rotate_left
 ·exact zP
 refine one_ (i:=13) (N:=none) #[true,true,true,true,true,true,true,true,true,true,true,true,true,true] rfl rfl (zaR HT_.out (by kernel_rfl)) (by decide) (fun K hK=>?_)
 have hs13:w12.cell? ⟨gb104,0,none⟩=some (.int .i64 0):=zc BK104.out 0
 have hfs13:=zaB BK104.out 0
 have hns13_0:=NB103_104.out
 have hms13_0:=NB104_103.out
 have hs14:w12.cell? ⟨gb104,1,none⟩=some (.int .i64 0):=zc BK104.out 1
 have hfs14:=zaB BK104.out 1
 have hns14_0:=NB103_104.out
 have hms14_0:=NB104_103.out
 have hs15:w12.cell? ⟨gb104,2,none⟩=some (.int .i64 0):=zc BK104.out 2
 have hfs15:=zaB BK104.out 2
 have hns15_0:=NB103_104.out
 have hms15_0:=NB104_103.out
 have hs16:w12.cell? ⟨gb104,3,none⟩=some (.int .i64 0):=zc BK104.out 3
 have hfs16:=zaB BK104.out 3
 have hns16_0:=NB103_104.out
 have hms16_0:=NB104_103.out
 refine skip_ (w1:=?_) (by rfl) rfl ?_ ?_
 rotate_left
 ·go_simp
  rfl
 refine hK.out _ _ ⟨((zar (p:=⟨gb104,_,none⟩) NB103_104.out _).trans (((zar (p:=⟨gb104,_,none⟩) NB103_104.out _).trans (((zar (p:=⟨gb104,_,none⟩) NB103_104.out _).trans (((zar (p:=⟨gb104,_,none⟩) NB103_104.out _).trans (hHeld.1)))))))),((zar (p:=⟨gb104,_,none⟩) NB103_104.out _).trans (((zar (p:=⟨gb104,_,none⟩) NB103_104.out _).trans (((zar (p:=⟨gb104,_,none⟩) NB103_104.out _).trans (((zar (p:=⟨gb104,_,none⟩) NB103_104.out _).trans (hHeld.2.1)))))))),((zar (p:=⟨gb104,_,none⟩) NB103_104.out _).trans (((zar (p:=⟨gb104,_,none⟩) NB103_104.out _).trans (((zar (p:=⟨gb104,_,none⟩) NB103_104.out _).trans (((zar (p:=⟨gb104,_,none⟩) NB103_104.out _).trans (hHeld.2.2.1)))))))),((zar (p:=⟨gb104,_,none⟩) NB103_104.out _).trans (((zar (p:=⟨gb104,_,none⟩) NB103_104.out _).trans (((zar (p:=⟨gb104,_,none⟩) NB103_104.out _).trans (((zar (p:=⟨gb104,_,none⟩) NB103_104.out _).trans (hHeld.2.2.2))))))))⟩ (fun hHeld=>?_)
 clear hK K
 refine done_ (zbr HT_.out (by kernel_rfl)) ?_
 try go_wp2
 refine bodyPost_ret (results_cell_row rfl _ _ gb104 23 #[.int .i64 t105,.int .i64 t106,.int .i64 t107,.int .i64 t108] (0,0) _ rfl (by refine zB ?_;refine zae (cs:=#[.int .i64 t105,.int .i64 t106,.int .i64 t107,.int .i64 0]) ?_ 3 _ rfl;refine zB ?_;refine zae (cs:=#[.int .i64 t105,.int .i64 t106,.int .i64 0,.int .i64 0]) ?_ 2 _ rfl;refine zB ?_;refine zae (cs:=#[.int .i64 t105,.int .i64 0,.int .i64 0,.int .i64 0]) ?_ 1 _ rfl;refine zB ?_;refine zae (cs:=#[.int .i64 0,.int .i64 0,.int .i64 0,.int .i64 0]) ?_ 0 _ rfl;refine zB ?_;exact BK104.out) Try.underlying23 rfl (by kernel_rfl)) rfl ?_
 exact ⟨by first|rfl|(simp [errW_none,errW_some] <;> rfl)|(simp [*,errW_none,errW_some] <;> rfl),by repeat (first|(with_reducible first|exact HB.out|apply zai|apply zaf|apply zag|refine zac ?_ GE103.out|refine zac ?_ GE104.out)|exact HB.out)⟩
def zbv.f (a0_0:Int) (a0_1:Int) (a0_2:Int) (a0_3:Int):Option (Bool):=(zbm.f a0_0 a0_1 a0_2 a0_3).bind fun bt110=>(some (a0_0==bt110.1&&(a0_1==bt110.2.1&&(a0_2==bt110.2.2.1&&(a0_3==bt110.2.2.2)))))
set_option maxHeartbeats 8000000 in
set_option maxRecDepth 100000 in
theorem zbv.calls (a0_0:Int) (a0_1:Int) (a0_2:Int) (a0_3:Int) (r:Bool) (w:World) (h:zbv.f a0_0 a0_1 a0_2 a0_3=some r) :
 Calls Try.prog 47 #[.agg #[.int .i64 a0_0,.int .i64 a0_1,.int .i64 a0_2,.int .i64 a0_3]] w fun e w'=>e = .returned (.bool r)∧Below w.heap.size w w':=by
 have hu23:=Try.underlying23
 have HB:=Aside0.mk (Below.refl w.heap.size w)
 have H:((zbm.f a0_0 a0_1 a0_2 a0_3).bind fun bt110=>(some (a0_0==bt110.1&&(a0_1==bt110.2.1&&(a0_2==bt110.2.2.1&&(a0_3==bt110.2.2.2))))))=some r:=h
 clear h
 replace H:=Option.bind_eq_some_iff.mp H
 obtain ⟨⟨t110,t111,t112,t113⟩,A20,H⟩:=H
 replace H:(some (a0_0==t110&&(a0_1==t111&&(a0_2==t112&&(a0_3==t113)))))=some r:=H
 have A2:=Aside0.mk A20
 clear A20
 obtain rfl:=Option.some.inj H
 go_enter Try.func47,Try.ntmps47
 try go_wp2_with (first|((with_reducible refine zaA (N:=1) rfl ?_);refine zav ?hg (N:=1) ?hd (cs:=#[.int .i64 a0_0,.int .i64 a0_1,.int .i64 a0_2,.int .i64 a0_3]) (t:=23) ?hr ?_;(case hd=>rfl);(case hg=>rfl);(case hr=>first|(go_simp;done)|(go_simp;rfl));intro gb109 hg w3 hbox hb;have n0_:=Aside0.mk (zad (zL HB.out) hb);have n1_:=Aside0.mk (hbox);have n2_:=Aside0.mk ((zS hg (zL HB.out):w.heap.size≤gb109));have n3_:=Aside0.mk ((zS hg (zL HB.out):w.heap.size≤gb109));clear HB;have HB:=n0_;have BK109:=n1_;have GW109:=n2_;have GE109:=n3_;clear n0_ n1_ n2_ n3_;clear hb hbox hg))
 replace BK109:=Aside0.mk (zaK BK109.out)
 replace HB:=Aside0.mk (zag HB.out)
 refine start_ (n:=5) (S:=fun w'=>w'.cell? ⟨gb109,0,none⟩=some (.int .i64 a0_0)∧w'.cell? ⟨gb109,1,none⟩=some (.int .i64 a0_1)∧w'.cell? ⟨gb109,2,none⟩=some (.int .i64 a0_2)∧w'.cell? ⟨gb109,3,none⟩=some (.int .i64 a0_3)) (ds:=[]) #[false,false,false,false,false] (by kernel_rfl) rfl rfl ⟨zc BK109.out 0,zc BK109.out 1,zc BK109.out 2,zc BK109.out 3⟩ (fun hHeld=>?_)
 generalize w3.drew=w4 at BK109 HB hHeld ⊢
 refine take_ (i:=0) (N:=some 3) (v:=?_) (a':=?_) #[true,false,false,false,false] rfl rfl (by kernel_rfl) (fun _ _ _ h=>h) (Or.inl ⟨by rfl,?_⟩) hHeld ?_ ?_
 rotate_left
 ·rintro w' ⟨s0,s1,s2,s3⟩
  go_simp
  with_reducible rfl
 rotate_left
 ·exact zP
 refine take_ (i:=1) (N:=some 4) (v:=?_) (a':=?_) #[true,true,false,false,false] rfl rfl (by kernel_rfl) (fun _ _ _ h=>h) (Or.inl ⟨by rfl,?_⟩) hHeld ?_ ?_
 rotate_left
 ·rintro w' ⟨s0,s1,s2,s3⟩
  go_simp
  with_reducible rfl
 rotate_left
 ·exact zP
 refine one_ (i:=2) (N:=some 5) #[true,true,true,false,false] rfl rfl (by kernel_rfl) (by decide) (fun K hK=>?_)
 refine goes_ Try.func104 (by kernel_rfl) rfl #[.agg #[.int .i64 a0_0,.int .i64 a0_1,.int .i64 a0_2,.int .i64 a0_3]] (by rfl) rfl rfl zA ?_
 with_reducible refine (zbm.calls a0_0 a0_1 a0_2 a0_3 t110 t111 t112 t113 _ A2.out).mono ?_
 rintro e w5 ⟨rfl,hb⟩
 refine ⟨_,rfl,?_⟩
 replace BK109:=Aside0.mk (zaa (zB BK109.out) hb)
 replace HB:=Aside0.mk (zad (zL1 HB.out GE109.out) hb)
 (try clear hb)
 (try clear hb2)
 (try clear hk)
 (try clear hi)
 refine hK.out _ _ ⟨zc BK109.out 0,zc BK109.out 1,zc BK109.out 2,zc BK109.out 3⟩ (fun hHeld=>?_)
 clear hK K
 refine norm_ (a':=?_) ?_ ?_
 rotate_left
 ·show Act.put _ (some 5) _=_
  exact zP
 refine pure_ (i:=3) (N:=some 6) (v:=?_) (a':=?_) #[true,true,true,true,false] rfl rfl (by kernel_rfl) (fun _ _ _ h=>h) (Or.inl ⟨by rfl,?_⟩) ?_ ?_
 rotate_left
 ·intro w'
  go_simp
  with_reducible rfl
 rotate_left
 ·exact zP
 refine pure_ (i:=4) (N:=some 2) (v:=?_) (a':=?_) #[true,true,true,true,true] rfl rfl (by kernel_rfl) (fun _ _ _ h=>h) (Or.inl ⟨by rfl,?_⟩) ?_ ?_
 rotate_left
 ·intro w'
  go_simp
  with_reducible rfl
 rotate_left
 ·exact zP
 refine done_ (by kernel_rfl) ?_
 try go_wp2
 go_ret
 exact ⟨by first|rfl|(simp [errW_none,errW_some] <;> rfl)|(simp [*,errW_none,errW_some] <;> rfl),by repeat (first|(with_reducible first|exact HB.out|apply zai|apply zaf|apply zag|refine zac ?_ GE109.out)|exact HB.out)⟩
mutual
def zaE.l0:Nat→List (S135)→List (S135)→Int→Int→Option (Int)
 | 0,_,_,_,_=>none
 | k+1,x0,x11,x12,x13=>if x13<x12 then (if 0≤x13 then (if x13<(x11.length:Int) then (if (mn ((zaH x11 x13).f0) ((zaH x11 x13).f1))<0 then (zaE.j1 k x0 x13 x11 x12 x13 true ((zaH x11 x13).f0) ((zaH x11 x13).f1)) else (zaE.j1 k x0 x13 x11 x12 x13 (decide ((mx ((zaH x11 x13).f0) ((zaH x11 x13).f1)) > 65535)) ((zaH x11 x13).f0) ((zaH x11 x13).f1))) else (none)) else (none)) else (some 0)
def zaE.j1:Nat→List (S135)→Int→List (S135)→Int→Int→Bool→Int→Int→Option (Int)
 | 0,_,_,_,_,_,_,_,_=>none
 | k+1,x0,x3,x11,x12,x13,x31,x00,x01=>if x31=true then (some 2) else (if x3 > 0 then (if 0≤(wrap64 (x3 - 1)) then (if (wrap64 (x3 - 1))<(x0.length:Int) then (if x00≤((zaH x0 (wrap64 (x3 - 1))).f0) then (some 24) else (zaE.l0 k x0 x11 x12 (wrap64 (x13+1)))) else (none)) else (none)) else (zaE.l0 k x0 x11 x12 (wrap64 (x13+1))))
end
def zaE.f (k:Nat) (l0:List (S135)):Option (Int):=if (l0.length:Int)<2 then (some 1) else (if (l0.length:Int) > 16 then (some 3) else (zaE.l0 k l0 l0 (l0.length:Int) 0))
theorem zaE.mono_l : ∀ k,(∀ y0 y1 y2 y3,LeO (zaE.l0 k y0 y1 y2 y3) (zaE.l0 (k+1) y0 y1 y2 y3))∧(∀ y0 y1 y2 y3 y4 y5 y6 y7,LeO (zaE.j1 k y0 y1 y2 y3 y4 y5 y6 y7) (zaE.j1 (k+1) y0 y1 y2 y3 y4 y5 y6 y7))
 | 0=>⟨fun _ _ _ _ r h=>by simp [zaE.l0] at h,fun _ _ _ _ _ _ _ _ r h=>by simp [zaE.j1] at h⟩
 | k+1=>by
  obtain ⟨ih0,ih1⟩:=zaE.mono_l k
  refine ⟨?_,?_⟩
  ·intro y0 y1 y2 y3
   unfold zaE.l0
   repeat' first
   | (with_reducible exact ih0 _ _ _ _)
   | (with_reducible exact ih1 _ _ _ _ _ _ _ _)
   | (with_reducible exact LeO.refl _)
   | (with_reducible exact LeO.none _)
   | (with_reducible refine LeO.ite ?_ ?_)
   | (with_reducible refine LeO.bind ?_ (fun _=>?_))
   | exact ih0 _ _ _ _
   | exact ih1 _ _ _ _ _ _ _ _
   | exact LeO.none _
   | refine LeO.ite ?_ ?_
   | refine LeO.bind ?_ (fun _=>?_)
  ·intro y0 y1 y2 y3 y4 y5 y6 y7
   unfold zaE.j1
   repeat' first
   | (with_reducible exact ih0 _ _ _ _)
   | (with_reducible exact ih1 _ _ _ _ _ _ _ _)
   | (with_reducible exact LeO.refl _)
   | (with_reducible exact LeO.none _)
   | (with_reducible refine LeO.ite ?_ ?_)
   | (with_reducible refine LeO.bind ?_ (fun _=>?_))
   | exact ih0 _ _ _ _
   | exact ih1 _ _ _ _ _ _ _ _
   | exact LeO.none _
   | refine LeO.ite ?_ ?_
   | refine LeO.bind ?_ (fun _=>?_)
theorem zaE.mono : ∀ a0 k,LeO (zaE.f k a0) (zaE.f (k+1) a0):=by
 intro a0 k
 obtain ⟨ih0,ih1⟩:=zaE.mono_l k
 unfold zaE.f
 repeat' first
  | (with_reducible exact ih0 _ _ _ _)
  | (with_reducible exact ih1 _ _ _ _ _ _ _ _)
  | (with_reducible exact LeO.refl _)
  | (with_reducible exact LeO.none _)
  | (with_reducible refine LeO.ite ?_ ?_)
  | (with_reducible refine LeO.bind ?_ (fun _=>?_))
  | exact ih0 _ _ _ _
  | exact ih1 _ _ _ _ _ _ _ _
  | exact LeO.none _
  | refine LeO.ite ?_ ?_
  | refine LeO.bind ?_ (fun _=>?_)
set_option maxHeartbeats 8000000 in
set_option maxRecDepth 100000 in
theorem zaE.calls (k:Nat) (A0:Option Addr) (c0:Nat) (l0:List (S135)) (r:Int) (w:World) (hr0:Kd.C k135 w A0 l0.length l0) (hc0:l0.length≤c0) (h:zaE.f k l0=some r) :
 Calls Try.prog 105 #[.slice A0 l0.length c0] w fun e w'=>e = .returned (.int .i64 r)∧Below w.heap.size w w':=by
 have hu135:=Try.underlying135
 have HR0:=Aside0.mk hr0
 have HC0:=Aside0.mk hc0
 clear hr0 hc0
 have HB:=Aside0.mk (Below.refl w.heap.size w)
 have H:(if (l0.length:Int)<2 then (some 1) else (if (l0.length:Int) > 16 then (some 3) else (zaE.l0 k l0 l0 (l0.length:Int) 0)))=some r:=h
 clear h
 by_cases c2:(l0.length:Int)<2
 ·rw [if_pos c2] at H
  have c2b0:decide ((l0.length:Int)<2)=true:=decide_eq_true c2
  have c2b1:decide (l0.length<2)=true:=decide_eq_true (by omega)
  clear c2
  obtain rfl:=Option.some.inj H
  go_enter Try.func105,Try.ntmps105
  go_wp2
  repeat (go_quiet (fail);try go_wp2)
  go_ret
  exact ⟨by first|rfl|(simp [errW_none,errW_some] <;> rfl)|(simp [*,errW_none,errW_some] <;> rfl),by repeat (first|(with_reducible first|exact HB.out|apply zai|apply zaf|apply zag)|exact HB.out)⟩
 ·rw [if_neg c2] at H
  have c2b0:decide ((l0.length:Int)<2)=false:=decide_eq_false c2
  have c2b1:decide (l0.length<2)=false:=decide_eq_false (by omega)
  clear c2
  by_cases c3:(l0.length:Int) > 16
  ·rw [if_pos c3] at H
   have c3b0:decide (16<(l0.length:Int))=true:=decide_eq_true c3
   have c3b1:decide (16<l0.length)=true:=decide_eq_true (by omega)
   clear c3
   obtain rfl:=Option.some.inj H
   go_enter Try.func105,Try.ntmps105
   go_wp2
   repeat (go_quiet (fail);try go_wp2)
   go_ret
   exact ⟨by first|rfl|(simp [errW_none,errW_some] <;> rfl)|(simp [*,errW_none,errW_some] <;> rfl),by repeat (first|(with_reducible first|exact HB.out|apply zai|apply zaf|apply zag)|exact HB.out)⟩
  ·rw [if_neg c3] at H
   have c3b0:decide (16<(l0.length:Int))=false:=decide_eq_false c3
   have c3b1:decide (16<l0.length)=false:=decide_eq_false (by omega)
   clear c3
   have H':=Aside0.mk H
   clear H
   go_enter Try.func105,Try.ntmps105
   go_wp2
   repeat (go_quiet (fail);try go_wp2)
   go_loopg [13] k (fun kq v13 w'=>∃ (x13_1:Int),v13 = .int .i64 x13_1∧Aside0 (zaE.l0 kq l0 l0 (l0.length:Int) x13_1=some r)∧Aside0 (kq≤k)∧Aside0 (Below w.heap.size w w'))
   case atStart=>exact ⟨(0),zF,H',⟨Nat.le_refl _⟩,⟨by repeat (first|(with_reducible first|exact HB.out|apply zai|apply zaf|apply zag)|exact HB.out)⟩⟩
   case round=>
    clear H'
    try clear c1
    try clear c2
    try clear c2b0
    try clear c2b1
    try clear p2
    try clear c3
    try clear c3b0
    try clear c3b1
    obtain ⟨x13_1,rfl,HA,HK1,HB⟩:=hrel
    cases gk with
    | zero=>exact absurd HA.out (by simp [zaE.l0])
    | succ k1=>
     have H:=HA.out
     clear HA
     simp only [zaE.l0] at H
     by_cases c4:x13_1<(l0.length:Int)
     ·rw [if_pos c4] at H
      have c4b0:decide (x13_1<(l0.length:Int))=true:=decide_eq_true c4
      clear c4
      by_cases c5:0≤x13_1
      ·rw [if_pos c5] at H
       have c5b0:decide (0≤x13_1)=true:=decide_eq_true c5
       clear c5
       by_cases c6:x13_1<(l0.length:Int)
       ·rw [if_pos c6] at H
        have c6b0:decide (x13_1<(l0.length:Int))=true:=decide_eq_true c6
        clear c6
        have HC7:=Aside0.mk H
        clear H
        have p114:0≤(x13_1:Int):=of_decide_eq_true (by first|(with_reducible assumption)|assumption)
        have q114:x13_1<(l0.length:Int):=of_decide_eq_true (by first|(with_reducible assumption)|assumption)
        obtain ⟨ad114,e114,hx114_0,hx114_1⟩:=at_T135 HR0.out x13_1 p114 q114
        cases e114
        replace hx114_0:=(HB.out.cell (World.block_lt_of_cell? w _ hx114_0)).trans hx114_0
        replace hx114_1:=(HB.out.cell (World.block_lt_of_cell? w _ hx114_1)).trans hx114_1
        replace p114:=eq_true p114
        replace q114:=eq_true q114
        go_upto_region 8 with (first|((with_reducible refine zaA (N:=4) rfl ?_);(try (refine zaN (by rfl) ?_;dsimp only));refine zav ?hg (N:=4) ?hd (cs:=#[.int .i64 0,.int .i64 0]) (t:=135) ?hr ?_;(case hd=>rfl);(case hg=>rfl);(case hr=>first|(go_simp;done)|(go_simp;rfl));intro gb115 hg w8 hbox hb;have n0_:=Aside0.mk (zad (zL HB.out) hb);have n1_:=Aside0.mk (hbox);have n2_:=Aside0.mk ((zS hg (zL HB.out):w.heap.size≤gb115));have n3_:=Aside0.mk ((zS hg (zL HB.out):w.heap.size≤gb115));clear HB;have HB:=n0_;have BK115:=n1_;have GW115:=n2_;have GE115:=n3_;clear n0_ n1_ n2_ n3_;clear hb hbox hg;obtain ⟨hcz9_0,hcz9_1⟩:=zD2 BK115.out;obtain ⟨hfz9_0,hfz9_1⟩:=zE2 BK115.out))
        repeat (go_quiet (first|((with_reducible refine zaA (N:=4) rfl ?_);(try (refine zaN (by rfl) ?_;dsimp only));refine zav ?hg (N:=4) ?hd (cs:=#[.int .i64 0,.int .i64 0]) (t:=135) ?hr ?_;(case hd=>rfl);(case hg=>rfl);(case hr=>first|(go_simp;done)|(go_simp;rfl));intro gb115 hg w8 hbox hb;have n0_:=Aside0.mk (zad (zL HB.out) hb);have n1_:=Aside0.mk (hbox);have n2_:=Aside0.mk ((zS hg (zL HB.out):w.heap.size≤gb115));have n3_:=Aside0.mk ((zS hg (zL HB.out):w.heap.size≤gb115));clear HB;have HB:=n0_;have BK115:=n1_;have GW115:=n2_;have GE115:=n3_;clear n0_ n1_ n2_ n3_;clear hb hbox hg;obtain ⟨hcz9_0,hcz9_1⟩:=zD2 BK115.out;obtain ⟨hfz9_0,hfz9_1⟩:=zE2 BK115.out));go_upto_region 8 with (first|((with_reducible refine zaA (N:=4) rfl ?_);(try (refine zaN (by rfl) ?_;dsimp only));refine zav ?hg (N:=4) ?hd (cs:=#[.int .i64 0,.int .i64 0]) (t:=135) ?hr ?_;(case hd=>rfl);(case hg=>rfl);(case hr=>first|(go_simp;done)|(go_simp;rfl));intro gb115 hg w8 hbox hb;have n0_:=Aside0.mk (zad (zL HB.out) hb);have n1_:=Aside0.mk (hbox);have n2_:=Aside0.mk ((zS hg (zL HB.out):w.heap.size≤gb115));have n3_:=Aside0.mk ((zS hg (zL HB.out):w.heap.size≤gb115));clear HB;have HB:=n0_;have BK115:=n1_;have GW115:=n2_;have GE115:=n3_;clear n0_ n1_ n2_ n3_;clear hb hbox hg;obtain ⟨hcz9_0,hcz9_1⟩:=zD2 BK115.out;obtain ⟨hfz9_0,hfz9_1⟩:=zE2 BK115.out)))
        (try simp only [Act.put,List.setIfInBounds_toArray,List.set_cons_zero,List.set_cons_succ])
        go_cut [31] (fun v31 wc=>∃ (kq:Nat) (x31_6:Bool),v31 = .bool x31_6∧Aside0 (zaE.j1 kq l0 x13_1 l0 (l0.length:Int) x13_1 x31_6 ((zaH l0 x13_1).f0) ((zaH l0 x13_1).f1)=some r)∧Aside0 (kq≤k1)∧Aside0 (wc.heap[gb115]? = some (.cells #[.int .i64 ((zaH l0 x13_1).f0),.int .i64 ((zaH l0 x13_1).f1)] 135 (0,0)))∧Aside0 (Below w.heap.size w wc))
        case first=>
         have H:=HC7.out
         clear HC7
         obtain ⟨ji10,hji10⟩ : ∃ j_:Int,(mn ((zaH l0 x13_1).f0) ((zaH l0 x13_1).f1))=j_:=⟨_,rfl⟩
         replace H:(if (ji10)<0 then (zaE.j1 k1 l0 x13_1 l0 (l0.length:Int) x13_1 true ((zaH l0 x13_1).f0) ((zaH l0 x13_1).f1)) else (zaE.j1 k1 l0 x13_1 l0 (l0.length:Int) x13_1 (decide ((mx ((zaH l0 x13_1).f0) ((zaH l0 x13_1).f1)) > 65535)) ((zaH l0 x13_1).f0) ((zaH l0 x13_1).f1)))=some r:=by first|(rw [hji10] at H;exact H)|(simp only [hji10] at H ⊢;exact H)
         have hji10_:(if ((zaH l0 x13_1).f1)<((zaH l0 x13_1).f0) then ((zaH l0 x13_1).f1) else ((zaH l0 x13_1).f0))=ji10:=hji10
         by_cases c11:(ji10)<0
         ·rw [if_pos c11] at H
          have c11b0:decide ((ji10)<0)=true:=decide_eq_true c11
          clear c11
          (first|rw [c11b0]|(simp only [i64_w,i32_w];rw [c11b0])|skip)
          have H':=Aside0.mk H
          clear H
          obtain ⟨hcz12_0,hcz12_1⟩:=zD2 BK115.out
          obtain ⟨hfz12_0,hfz12_1⟩:=zE2 BK115.out
          go_wp2
          repeat (go_quiet (fail);try go_wp2)
          go_meet
          case rel=>exact ⟨_,(true),zF,H',⟨by have:=HK1.out;first|omega|exact Nat.le_refl _⟩,⟨by refine zB ?_;refine zae (cs:=#[.int .i64 ((zaH l0 x13_1).f0),.int .i64 0]) ?_ 1 _ rfl;refine zB ?_;refine zae (cs:=#[.int .i64 0,.int .i64 0]) ?_ 0 _ rfl;refine zB ?_;exact BK115.out⟩,⟨by repeat (first|(with_reducible first|exact HB.out|apply zai|apply zaf|apply zag|refine zac ?_ GE115.out)|exact HB.out)⟩⟩
         ·rw [if_neg c11] at H
          have c11b0:decide ((ji10)<0)=false:=decide_eq_false c11
          clear c11
          (first|rw [c11b0]|(simp only [i64_w,i32_w];rw [c11b0])|skip)
          obtain ⟨ji13,hji13⟩ : ∃ j_:Int,(mx ((zaH l0 x13_1).f0) ((zaH l0 x13_1).f1))=j_:=⟨_,rfl⟩
          replace H:(zaE.j1 k1 l0 x13_1 l0 (l0.length:Int) x13_1 (decide ((ji13) > 65535)) ((zaH l0 x13_1).f0) ((zaH l0 x13_1).f1))=some r:=by first|(rw [hji13] at H;exact H)|(simp only [hji13] at H ⊢;exact H)
          have hji13_:(if ((zaH l0 x13_1).f0)<((zaH l0 x13_1).f1) then ((zaH l0 x13_1).f1) else ((zaH l0 x13_1).f0))=ji13:=hji13
          have H':=Aside0.mk H
          clear H
          obtain ⟨hcz14_0,hcz14_1⟩:=zD2 BK115.out
          obtain ⟨hfz14_0,hfz14_1⟩:=zE2 BK115.out
          go_wp2
          repeat (go_quiet (fail);try go_wp2)
          go_meet
          case rel=>exact ⟨_,(decide ((ji13) > 65535)),(by first|rfl|(simp;done)|(simp only [← hji13] <;> (first|rfl|simp))|(simp [*];done)),H',⟨by have:=HK1.out;first|omega|exact Nat.le_refl _⟩,⟨by refine zB ?_;refine zae (cs:=#[.int .i64 ((zaH l0 x13_1).f0),.int .i64 0]) ?_ 1 _ rfl;refine zB ?_;refine zae (cs:=#[.int .i64 0,.int .i64 0]) ?_ 0 _ rfl;refine zB ?_;exact BK115.out⟩,⟨by repeat (first|(with_reducible first|exact HB.out|apply zai|apply zaf|apply zag|refine zac ?_ GE115.out)|exact HB.out)⟩⟩
        case rest=>
         clear HC7
         try clear c1
         try clear p1
         try clear q1
         try clear hx1
         try clear c2
         try clear c2b0
         try clear c2b1
         try clear p2
         try clear c3
         try clear c3b0
         try clear c3b1
         try clear c4
         try clear c4b0
         try clear c5
         try clear c5b0
         try clear c6
         try clear c6b0
         try clear c10
         try clear c11
         try clear c11b0
         try clear p11
         try clear q11
         try clear hx11
         try clear hcz12_0 hcz12_1 hcz14_0 hcz14_1 hcz9_0 hcz9_1 hfz12_0 hfz12_1 hfz14_0 hfz14_1 hfz9_0 hfz9_1
         try clear hx114_0
         try clear hx114_1
         try clear p114
         try clear p2
         try clear q114
         obtain ⟨kq,x31_6,rfl,HA,HJ6,BK115,HB⟩:=hcut
         cases kq with
         | zero=>exact absurd HA.out (by simp [zaE.j1])
         | succ kj6=>
          have H:=HA.out
          clear HA
          simp only [zaE.j1] at H
          by_cases c15:x31_6=true
          ·subst c15
           have H1:(some 2)=some r:=by rw [if_pos rfl] at H;exact H
           clear H
           have H:=H1
           clear H1
           obtain rfl:=Option.some.inj H
           go_wp2
           repeat (go_quiet (fail);try go_wp2)
           go_ret
           exact ⟨by first|rfl|(simp [errW_none,errW_some] <;> rfl)|(simp [*,errW_none,errW_some] <;> rfl),by repeat (first|(with_reducible first|exact HB.out|apply zai|apply zaf|apply zag|refine zac ?_ GE115.out)|exact HB.out)⟩
          ·replace c15:=Bool.eq_false_iff.mpr c15
           subst c15
           have H1:(if x13_1 > 0 then (if 0≤(wrap64 (x13_1 - 1)) then (if (wrap64 (x13_1 - 1))<(l0.length:Int) then (if ((zaH l0 x13_1).f0)≤((zaH l0 (wrap64 (x13_1 - 1))).f0) then (some 24) else (zaE.l0 kj6 l0 l0 (l0.length:Int) (wrap64 (x13_1+1)))) else (none)) else (none)) else (zaE.l0 kj6 l0 l0 (l0.length:Int) (wrap64 (x13_1+1))))=some r:=by rw [if_neg (show ¬ (false=true) by decide)] at H;exact H
           clear H
           have H:=H1
           clear H1
           by_cases c16:x13_1 > 0
           ·rw [if_pos c16] at H
            have c16b0:decide (0<x13_1)=true:=decide_eq_true c16
            clear c16
            obtain ⟨ji17,hji17⟩ : ∃ j_:Int,(wrap64 (x13_1 - 1))=j_:=⟨_,rfl⟩
            replace H:(if 0≤(ji17) then (if (ji17)<(l0.length:Int) then (if ((zaH l0 x13_1).f0)≤((zaH l0 (ji17)).f0) then (some 24) else (zaE.l0 kj6 l0 l0 (l0.length:Int) (wrap64 (x13_1+1)))) else (none)) else (none))=some r:=by first|(rw [hji17] at H;exact H)|(simp only [hji17] at H ⊢;exact H)
            have hji17w:(IntKind.i64.wrap (x13_1 - 1))=ji17:=(i64_w _).trans hji17
            by_cases c18:0≤(ji17)
            ·rw [if_pos c18] at H
             have c18b0:decide (0≤(ji17))=true:=decide_eq_true c18
             clear c18
             by_cases c19:(ji17)<(l0.length:Int)
             ·rw [if_pos c19] at H
              have c19b0:decide ((ji17)<(l0.length:Int))=true:=decide_eq_true c19
              clear c19
              by_cases c20:((zaH l0 x13_1).f0)≤((zaH l0 (ji17)).f0)
              ·rw [if_pos c20] at H
               have c20b0:decide (((zaH l0 x13_1).f0)≤((zaH l0 (ji17)).f0))=true:=decide_eq_true c20
               clear c20
               obtain rfl:=Option.some.inj H
               have hcz21_0:wc.cell? ⟨gb115,0,none⟩=some (.int .i64 ((zaH l0 x13_1).f0)):=zc BK115.out 0
               have hcz21_1:wc.cell? ⟨gb115,1,none⟩=some (.int .i64 ((zaH l0 x13_1).f1)):=zc BK115.out 1
               obtain ⟨hfz21_0,hfz21_1⟩:=zE2 BK115.out
               have p116:0≤((ji17):Int):=of_decide_eq_true (by first|(with_reducible assumption)|assumption)
               have q116:(ji17)<(l0.length:Int):=of_decide_eq_true (by first|(with_reducible assumption)|assumption)
               obtain ⟨ad116,e116,hx116_0,hx116_1⟩:=at_T135 HR0.out (ji17) p116 q116
               obtain rfl:ad114=ad116:=(by injection e116)
               replace hx116_0:=(HB.out.cell (World.block_lt_of_cell? w _ hx116_0)).trans hx116_0
               replace hx116_1:=(HB.out.cell (World.block_lt_of_cell? w _ hx116_1)).trans hx116_1
               replace p116:=eq_true p116
               replace q116:=eq_true q116
               go_wp2
               repeat (go_quiet (fail);try go_wp2)
               go_ret
               exact ⟨by first|rfl|(simp [errW_none,errW_some] <;> rfl)|(simp only [← hji17];first|rfl|(simp [errW_none,errW_some] <;> rfl))|(simp [*,errW_none,errW_some] <;> rfl),by repeat (first|(with_reducible first|exact HB.out|apply zai|apply zaf|apply zag|refine zac ?_ GE115.out)|exact HB.out)⟩
              ·rw [if_neg c20] at H
               have c20b0:decide (((zaH l0 x13_1).f0)≤((zaH l0 (ji17)).f0))=false:=decide_eq_false c20
               clear c20
               have H':=Aside0.mk H
               clear H
               have hcz22_0:wc.cell? ⟨gb115,0,none⟩=some (.int .i64 ((zaH l0 x13_1).f0)):=zc BK115.out 0
               have hcz22_1:wc.cell? ⟨gb115,1,none⟩=some (.int .i64 ((zaH l0 x13_1).f1)):=zc BK115.out 1
               obtain ⟨hfz22_0,hfz22_1⟩:=zE2 BK115.out
               have p116:0≤((ji17):Int):=of_decide_eq_true (by first|(with_reducible assumption)|assumption)
               have q116:(ji17)<(l0.length:Int):=of_decide_eq_true (by first|(with_reducible assumption)|assumption)
               obtain ⟨ad116,e116,hx116_0,hx116_1⟩:=at_T135 HR0.out (ji17) p116 q116
               obtain rfl:ad114=ad116:=(by injection e116)
               replace hx116_0:=(HB.out.cell (World.block_lt_of_cell? w _ hx116_0)).trans hx116_0
               replace hx116_1:=(HB.out.cell (World.block_lt_of_cell? w _ hx116_1)).trans hx116_1
               replace p116:=eq_true p116
               replace q116:=eq_true q116
               go_wp2
               repeat (go_quiet (fail);try go_wp2)
               go_roundg kj6
               case measure=>have:=HK1.out;have:=HJ6.out;omega
               case rel=>exact ⟨(wrap64 (x13_1+1)),zF,H',⟨by have:=HK1.out;have:=HJ6.out;omega⟩,⟨by repeat (first|(with_reducible first|exact HB.out|apply zai|apply zaf|apply zag|refine zac ?_ GE115.out)|exact HB.out)⟩⟩
             ·rw [if_neg c19] at H
              exact absurd H (by simp)
            ·rw [if_neg c18] at H
             exact absurd H (by simp)
           ·rw [if_neg c16] at H
            have c16b0:decide (0<x13_1)=false:=decide_eq_false c16
            clear c16
            have H':=Aside0.mk H
            clear H
            go_wp2
            repeat (go_quiet (fail);try go_wp2)
            go_roundg kj6
            case measure=>have:=HK1.out;have:=HJ6.out;omega
            case rel=>exact ⟨(wrap64 (x13_1+1)),zF,H',⟨by have:=HK1.out;have:=HJ6.out;omega⟩,⟨by repeat (first|(with_reducible first|exact HB.out|apply zai|apply zaf|apply zag|refine zac ?_ GE115.out)|exact HB.out)⟩⟩
       ·rw [if_neg c6] at H
        exact absurd H (by simp)
      ·rw [if_neg c5] at H
       exact absurd H (by simp)
     ·rw [if_neg c4] at H
      have c4b0:decide (x13_1<(l0.length:Int))=false:=decide_eq_false c4
      clear c4
      obtain rfl:=Option.some.inj H
      go_wp2
      repeat (go_quiet (fail);try go_wp2)
      go_ret
      exact ⟨by first|rfl|(simp [errW_none,errW_some] <;> rfl)|(simp [*,errW_none,errW_some] <;> rfl),by repeat (first|(with_reducible first|exact HB.out|apply zai|apply zaf|apply zag)|exact HB.out)⟩
end Go.Proofs.Ytlilncnoohfcdaa.Da
