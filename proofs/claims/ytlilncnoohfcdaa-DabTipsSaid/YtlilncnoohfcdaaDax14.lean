
import Derived.Test.YtlilncnoohfcdaaDax0
import Derived.Test.YtlilncnoohfcdaaDax11
namespace Go.Proofs.Ytlilncnoohfcdaa.Da
open Go.RowKit Go.Proofs.YtlilncnoohfcdaaW.PrintWords Go.Proofs.YtlilncnoohfcdaaW.PrintLast Go.Proofs.YtlilncnoohfcdaaW.PrintMore
attribute [local go_sem] max2_int min2_int zbo zbp zbc zbd zbj zbk   
set_option linter.unusedVariables false
set_option linter.unusedSimpArgs false
/-! ### imageeditorref27_turned: function 66 -/
def za5.f (a0:Int):Option (Int):=if (Int.tmod a0 65536)<0 then (some (wrap64 ((Int.tmod a0 65536)+65536))) else (some (Int.tmod a0 65536))
set_option maxHeartbeats 8000000 in
set_option maxRecDepth 100000 in
theorem za5.calls (a0:Int) (r:Int) (w:World) (h:za5.f a0=some r) :
 Calls Try.prog 66 #[.int .i64 a0] w fun e w'=>e = .returned (.int .i64 r)∧Drawn0 w w':=by
 have H:(if (Int.tmod a0 65536)<0 then (some (wrap64 ((Int.tmod a0 65536)+65536))) else (some (Int.tmod a0 65536)))=some r:=h
 clear h
 by_cases c2:(Int.tmod a0 65536)<0
 ·rw [if_pos c2] at H
  have c2b0:decide ((Int.tmod a0 65536)<0)=true:=decide_eq_true c2
  clear c2
  obtain rfl:=Option.some.inj H
  go_enter Try.func66,Try.ntmps66
  go_wp2
  go_ret
  exact ⟨by first|rfl|(simp;done)|(simp [*];done),by repeat (first|exact Drawn0.refl _|apply Drawn0.step)⟩
 ·rw [if_neg c2] at H
  have c2b0:decide ((Int.tmod a0 65536)<0)=false:=decide_eq_false c2
  clear c2
  obtain rfl:=Option.some.inj H
  go_enter Try.func66,Try.ntmps66
  go_wp2
  go_ret
  exact ⟨by first|rfl|(simp;done)|(simp [*];done),by repeat (first|exact Drawn0.refl _|apply Drawn0.step)⟩
def zaM.f (a0_0:Int) (a0_1:Int) (a0_2:Int) (a0_3:Int) (a0_4:Int):Option (Int×Int×Int×Int×Int):=(zaG.f a0_0 (-16777216) 16777216).bind fun t283=>((zaG.f a0_1 (-16777216) 16777216).bind fun t284=>((zaG.f a0_2 0 1024).bind fun t285=>((zaI.f a0_3).bind fun t286=>((za5.f a0_4).bind fun t287=>(some (t283,t284,t285,t286,t287))))))
def zaM.T1:Bool×List (List Nat×List Nat):=(true,[([],[]),([0],[0]),([1],[1]),([],[]),([3],[3]),([4,2],[4]),([],[]),([6],[6]),([7,5],[7]),([],[]),([9],[9]),([10,8],[10]),([],[]),([12],[12]),([13,11],[13]),([2,5,8,11,14],[2,5,8,11,14]),([15,14,0,1,2,3,4,5,6,7,8,9,10,11,12,13,14,15],[15])])
def zaM.B1:List Nat:=[0,1,3,0,8,31,0,64,255,0,512,2047,0,4096,16383,32767,65535]
theorem zaM.tab1:rtab .any (opsOf Try.f22 1)=zaM.T1:=by kernel_rfl
theorem zaM.bits1:waitsOk zaM.T1.2 zaM.B1=true:=by kernel_rfl
set_option maxHeartbeats 8000000 in
set_option maxRecDepth 100000 in
theorem zaM.calls (a0_0:Int) (a0_1:Int) (a0_2:Int) (a0_3:Int) (a0_4:Int) (r1:Int) (r2:Int) (r3:Int) (r4:Int) (r5:Int) (w:World) (h:zaM.f a0_0 a0_1 a0_2 a0_3 a0_4=some (r1,r2,r3,r4,r5)) :
 Calls Try.prog 22 #[.agg #[.int .i64 a0_0,.int .i64 a0_1,.int .i64 a0_2,.int .i64 a0_3,.int .i64 a0_4]] w fun e w'=>e = .returned (.agg #[.int .i64 r1,.int .i64 r2,.int .i64 r3,.int .i64 r4,.int .i64 r5])∧Below w.heap.size w w':=by
 have hu28:=Try.underlying28
 have HB:=Aside0.mk (Below.refl w.heap.size w)
 have H:((zaG.f a0_0 (-16777216) 16777216).bind fun t283=>((zaG.f a0_1 (-16777216) 16777216).bind fun t284=>((zaG.f a0_2 0 1024).bind fun t285=>((zaI.f a0_3).bind fun t286=>((za5.f a0_4).bind fun t287=>(some (t283,t284,t285,t286,t287)))))))=some (r1,r2,r3,r4,r5):=h
 clear h
 replace H:=Option.bind_eq_some_iff.mp H
 obtain ⟨t283,A20,H⟩:=H
 replace H:((zaG.f a0_1 (-16777216) 16777216).bind fun t284=>((zaG.f a0_2 0 1024).bind fun t285=>((zaI.f a0_3).bind fun t286=>((za5.f a0_4).bind fun t287=>(some (t283,t284,t285,t286,t287))))))=some (r1,r2,r3,r4,r5):=H
 have A2:=Aside0.mk A20
 clear A20
 replace H:=Option.bind_eq_some_iff.mp H
 obtain ⟨t284,A30,H⟩:=H
 replace H:((zaG.f a0_2 0 1024).bind fun t285=>((zaI.f a0_3).bind fun t286=>((za5.f a0_4).bind fun t287=>(some (t283,t284,t285,t286,t287)))))=some (r1,r2,r3,r4,r5):=H
 have A3:=Aside0.mk A30
 clear A30
 replace H:=Option.bind_eq_some_iff.mp H
 obtain ⟨t285,A40,H⟩:=H
 replace H:((zaI.f a0_3).bind fun t286=>((za5.f a0_4).bind fun t287=>(some (t283,t284,t285,t286,t287))))=some (r1,r2,r3,r4,r5):=H
 have A4:=Aside0.mk A40
 clear A40
 replace H:=Option.bind_eq_some_iff.mp H
 obtain ⟨t286,A50,H⟩:=H
 replace H:((za5.f a0_4).bind fun t287=>(some (t283,t284,t285,t286,t287)))=some (r1,r2,r3,r4,r5):=H
 have A5:=Aside0.mk A50
 clear A50
 replace H:=Option.bind_eq_some_iff.mp H
 obtain ⟨t287,A60,H⟩:=H
 replace H:(some (t283,t284,t285,t286,t287))=some (r1,r2,r3,r4,r5):=H
 have A6:=Aside0.mk A60
 clear A60
 simp only [Option.some.injEq,Prod.mk.injEq] at H
 obtain ⟨rfl,rfl,rfl,rfl,rfl⟩:=H
 go_enter Try.func22,Try.ntmps22
 try go_wp2_with (first|((with_reducible refine zaA (N:=1) rfl ?_);refine zav ?hg (N:=1) ?hd (cs:=#[.int .i64 a0_0,.int .i64 a0_1,.int .i64 a0_2,.int .i64 a0_3,.int .i64 a0_4]) (t:=28) ?hr ?_;(case hd=>rfl);(case hg=>rfl);(case hr=>first|(go_simp;done)|(go_simp;rfl));intro gb281 hg w7 hbox hb;have n0_:=Aside0.mk (zad (zL HB.out) hb);have n1_:=Aside0.mk (hbox);have n2_:=Aside0.mk ((zS hg (zL HB.out):w.heap.size≤gb281));have n3_:=Aside0.mk ((zS hg (zL HB.out):w.heap.size≤gb281));clear HB;have HB:=n0_;have BK281:=n1_;have GW281:=n2_;have GE281:=n3_;clear n0_ n1_ n2_ n3_;clear hb hbox hg)|((with_reducible refine zaA (N:=2) rfl ?_);refine zav ?hg (N:=2) ?hd (cs:=#[.int .i64 0,.int .i64 0,.int .i64 0,.int .i64 0,.int .i64 0]) (t:=28) ?hr ?_;(case hd=>rfl);(case hg=>rfl);(case hr=>first|(go_simp;done)|(go_simp;rfl));intro gb282 hg w8 hbox hb;have n0_:=Aside0.mk (zaa (zB BK281.out) hb);have n1_:=Aside0.mk (zad (zL1 HB.out GE281.out) hb);have n2_:=Aside0.mk (hbox);have n3_:=Aside0.mk ((zS hg (zL1 HB.out GE281.out):w.heap.size≤gb282));have n4_:=Aside0.mk ((zS hg (zL1 HB.out GE281.out):w.heap.size≤gb282));have n5_:=Aside0.mk ((by rw [hg];exact Nat.ne_of_lt (zao (zB BK281.out)):gb281≠gb282));have n6_:=Aside0.mk ((by rw [hg];exact Nat.ne_of_gt (zao (zB BK281.out)):gb282≠gb281));clear BK281;clear HB;have BK281:=n0_;have HB:=n1_;have BK282:=n2_;have GW282:=n3_;have GE282:=n4_;have NB281_282:=n5_;have NB282_281:=n6_;clear n0_ n1_ n2_ n3_ n4_ n5_ n6_;clear hb hbox hg))
 replace BK281:=Aside0.mk (zaK BK281.out)
 replace BK282:=Aside0.mk (zaK BK282.out)
 replace HB:=Aside0.mk (zag HB.out)
 refine start_ (n:=17) (S:=fun w'=>w'.cell? ⟨gb281,0,none⟩=some (.int .i64 a0_0)∧w'.cell? ⟨gb281,1,none⟩=some (.int .i64 a0_1)∧w'.cell? ⟨gb281,2,none⟩=some (.int .i64 a0_2)∧w'.cell? ⟨gb281,3,none⟩=some (.int .i64 a0_3)∧w'.cell? ⟨gb281,4,none⟩=some (.int .i64 a0_4)) (ds:=[]) #[false,false,false,false,false,false,false,false,false,false,false,false,false,false,false,false,false] (by kernel_rfl) rfl rfl ⟨zc BK281.out 0,zc BK281.out 1,zc BK281.out 2,zc BK281.out 3,zc BK281.out 4⟩ (fun hHeld=>?_);refine zbi zaM.tab1 zaM.bits1 (fun HT_ HW_=>?_)
 generalize w8.drew=w9 at BK281 BK282 HB hHeld ⊢
 refine pure_ (i:=0) (N:=some 3) (v:=?_) (a':=?_) #[true,false,false,false,false,false,false,false,false,false,false,false,false,false,false,false,false] rfl rfl (zap HT_.out (by kernel_rfl)) (fun _ _ _ h=>h) (Or.inl ⟨by rfl,?_⟩) ?_ ?_
 rotate_left
 ·intro w'
  go_simp
  with_reducible rfl
 rotate_left
 ·exact zP
 refine pure_ (i:=3) (N:=some 6) (v:=?_) (a':=?_) #[true,false,false,true,false,false,false,false,false,false,false,false,false,false,false,false,false] rfl rfl (zap HT_.out (by kernel_rfl)) (fun _ _ _ h=>h) (Or.inl ⟨by rfl,?_⟩) ?_ ?_
 rotate_left
 ·intro w'
  go_simp
  with_reducible rfl
 rotate_left
 ·exact zP
 refine pure_ (i:=6) (N:=some 9) (v:=?_) (a':=?_) #[true,false,false,true,false,false,true,false,false,false,false,false,false,false,false,false,false] rfl rfl (zap HT_.out (by kernel_rfl)) (fun _ _ _ h=>h) (Or.inl ⟨by rfl,?_⟩) ?_ ?_
 rotate_left
 ·intro w'
  go_simp
  with_reducible rfl
 rotate_left
 ·exact zP
 refine pure_ (i:=9) (N:=some 12) (v:=?_) (a':=?_) #[true,false,false,true,false,false,true,false,false,true,false,false,false,false,false,false,false] rfl rfl (zap HT_.out (by kernel_rfl)) (fun _ _ _ h=>h) (Or.inl ⟨by rfl,?_⟩) ?_ ?_
 rotate_left
 ·intro w'
  go_simp
  with_reducible rfl
 rotate_left
 ·exact zP
 refine pure_ (i:=12) (N:=some 15) (v:=?_) (a':=?_) #[true,false,false,true,false,false,true,false,false,true,false,false,true,false,false,false,false] rfl rfl (zap HT_.out (by kernel_rfl)) (fun _ _ _ h=>h) (Or.inl ⟨by rfl,?_⟩) ?_ ?_
 rotate_left
 ·intro w'
  go_simp
  with_reducible rfl
 rotate_left
 ·exact zP
 refine take_ (i:=1) (N:=some 4) (v:=?_) (a':=?_) #[true,true,false,true,false,false,true,false,false,true,false,false,true,false,false,false,false] rfl rfl (zaL HT_.out HW_.out (by kernel_rfl)) (fun _ _ _ h=>h) (Or.inl ⟨by rfl,?_⟩) hHeld ?_ ?_
 rotate_left
 ·rintro w' ⟨s0,s1,s2,s3,s4⟩
  go_simp
  with_reducible rfl
 rotate_left
 ·exact zP
 refine take_ (i:=4) (N:=some 7) (v:=?_) (a':=?_) #[true,true,false,true,true,false,true,false,false,true,false,false,true,false,false,false,false] rfl rfl (zaL HT_.out HW_.out (by kernel_rfl)) (fun _ _ _ h=>h) (Or.inl ⟨by rfl,?_⟩) hHeld ?_ ?_
 rotate_left
 ·rintro w' ⟨s0,s1,s2,s3,s4⟩
  go_simp
  with_reducible rfl
 rotate_left
 ·exact zP
 refine take_ (i:=7) (N:=some 10) (v:=?_) (a':=?_) #[true,true,false,true,true,false,true,true,false,true,false,false,true,false,false,false,false] rfl rfl (zaL HT_.out HW_.out (by kernel_rfl)) (fun _ _ _ h=>h) (Or.inl ⟨by rfl,?_⟩) hHeld ?_ ?_
 rotate_left
 ·rintro w' ⟨s0,s1,s2,s3,s4⟩
  go_simp
  with_reducible rfl
 rotate_left
 ·exact zP
 refine take_ (i:=10) (N:=some 13) (v:=?_) (a':=?_) #[true,true,false,true,true,false,true,true,false,true,true,false,true,false,false,false,false] rfl rfl (zaL HT_.out HW_.out (by kernel_rfl)) (fun _ _ _ h=>h) (Or.inl ⟨by rfl,?_⟩) hHeld ?_ ?_
 rotate_left
 ·rintro w' ⟨s0,s1,s2,s3,s4⟩
  go_simp
  with_reducible rfl
 rotate_left
 ·exact zP
 refine take_ (i:=13) (N:=some 16) (v:=?_) (a':=?_) #[true,true,false,true,true,false,true,true,false,true,true,false,true,true,false,false,false] rfl rfl (zaL HT_.out HW_.out (by kernel_rfl)) (fun _ _ _ h=>h) (Or.inl ⟨by rfl,?_⟩) hHeld ?_ ?_
 rotate_left
 ·rintro w' ⟨s0,s1,s2,s3,s4⟩
  go_simp
  with_reducible rfl
 rotate_left
 ·exact zP
 refine one_ (i:=2) (N:=some 5) #[true,true,true,true,true,false,true,true,false,true,true,false,true,true,false,false,false] rfl rfl (zaR HT_.out (by kernel_rfl)) (by decide) (fun K hK=>?_)
 refine goes_ Try.func27 (by kernel_rfl) rfl #[.int .i64 a0_0,.int .i64 (-16777216),.int .i64 16777216] (by rfl) rfl rfl zA ?_
 with_reducible refine (zaG.calls a0_0 (-16777216) 16777216 t283 _ A2.out).mono ?_
 rintro e w10 ⟨rfl,hb⟩
 refine ⟨_,rfl,?_⟩
 replace BK281:=Aside0.mk (zaa (zB BK281.out) hb)
 replace BK282:=Aside0.mk (zaa (zB BK282.out) hb)
 replace HB:=Aside0.mk (zad (zL2 HB.out GE281.out GE282.out) hb)
 (try clear hb)
 (try clear hb2)
 (try clear hk)
 (try clear hi)
 refine hK.out _ _ ⟨zc BK281.out 0,zc BK281.out 1,zc BK281.out 2,zc BK281.out 3,zc BK281.out 4⟩ (fun hHeld=>?_)
 clear hK K
 refine norm_ (a':=?_) ?_ ?_
 rotate_left
 ·show Act.put _ (some 5) _=_
  exact zP
 refine one_ (i:=5) (N:=some 8) #[true,true,true,true,true,true,true,true,false,true,true,false,true,true,false,false,false] rfl rfl (zaR HT_.out (by kernel_rfl)) (by decide) (fun K hK=>?_)
 refine goes_ Try.func27 (by kernel_rfl) rfl #[.int .i64 a0_1,.int .i64 (-16777216),.int .i64 16777216] (by rfl) rfl rfl zA ?_
 with_reducible refine (zaG.calls a0_1 (-16777216) 16777216 t284 _ A3.out).mono ?_
 rintro e w11 ⟨rfl,hb⟩
 refine ⟨_,rfl,?_⟩
 replace BK281:=Aside0.mk (zaa (zB BK281.out) hb)
 replace BK282:=Aside0.mk (zaa (zB BK282.out) hb)
 replace HB:=Aside0.mk (zad (zL2 HB.out GE281.out GE282.out) hb)
 (try clear hb)
 (try clear hb2)
 (try clear hk)
 (try clear hi)
 refine hK.out _ _ ⟨zc BK281.out 0,zc BK281.out 1,zc BK281.out 2,zc BK281.out 3,zc BK281.out 4⟩ (fun hHeld=>?_)
 clear hK K
 refine norm_ (a':=?_) ?_ ?_
 rotate_left
 ·show Act.put _ (some 8) _=_
  exact zP
 refine one_ (i:=8) (N:=some 11) #[true,true,true,true,true,true,true,true,true,true,true,false,true,true,false,false,false] rfl rfl (zaR HT_.out (by kernel_rfl)) (by decide) (fun K hK=>?_)
 refine goes_ Try.func27 (by kernel_rfl) rfl #[.int .i64 a0_2,.int .i64 0,.int .i64 1024] (by rfl) rfl rfl zA ?_
 with_reducible refine (zaG.calls a0_2 0 1024 t285 _ A4.out).mono ?_
 rintro e w12 ⟨rfl,hb⟩
 refine ⟨_,rfl,?_⟩
 replace BK281:=Aside0.mk (zaa (zB BK281.out) hb)
 replace BK282:=Aside0.mk (zaa (zB BK282.out) hb)
 replace HB:=Aside0.mk (zad (zL2 HB.out GE281.out GE282.out) hb)
 (try clear hb)
 (try clear hb2)
 (try clear hk)
 (try clear hi)
 refine hK.out _ _ ⟨zc BK281.out 0,zc BK281.out 1,zc BK281.out 2,zc BK281.out 3,zc BK281.out 4⟩ (fun hHeld=>?_)
 clear hK K
 refine norm_ (a':=?_) ?_ ?_
 rotate_left
 ·show Act.put _ (some 11) _=_
  exact zP
 refine one_ (i:=11) (N:=some 14) #[true,true,true,true,true,true,true,true,true,true,true,true,true,true,false,false,false] rfl rfl (zaR HT_.out (by kernel_rfl)) (by decide) (fun K hK=>?_)
 refine goes_ Try.func65 (by kernel_rfl) rfl #[.int .i64 a0_3] (by rfl) rfl rfl zA ?_
 with_reducible refine (zaI.calls a0_3 t286 _ A5.out).mono ?_
 rintro e w13 ⟨rfl,hb⟩
 refine ⟨_,rfl,?_⟩
 replace BK281:=Aside0.mk (zaa (zB BK281.out) hb)
 replace BK282:=Aside0.mk (zaa (zB BK282.out) hb)
 replace HB:=Aside0.mk (zad (zL2 HB.out GE281.out GE282.out) hb)
 (try clear hb)
 (try clear hb2)
 (try clear hk)
 (try clear hi)
 refine hK.out _ _ ⟨zc BK281.out 0,zc BK281.out 1,zc BK281.out 2,zc BK281.out 3,zc BK281.out 4⟩ (fun hHeld=>?_)
 clear hK K
 refine norm_ (a':=?_) ?_ ?_
 rotate_left
 ·show Act.put _ (some 14) _=_
  exact zP
 refine one_ (i:=14) (N:=some 17) #[true,true,true,true,true,true,true,true,true,true,true,true,true,true,true,false,false] rfl rfl (zaR HT_.out (by kernel_rfl)) (by decide) (fun K hK=>?_)
 refine goes_ Try.func66 (by kernel_rfl) rfl #[.int .i64 a0_4] (by rfl) rfl rfl zA ?_
 with_reducible refine (za5.calls a0_4 t287 _ A6.out).mono ?_
 rintro e w' ⟨rfl,⟨nd,rfl⟩⟩
 refine ⟨_,rfl,?_⟩
 refine hK.out _ _ ⟨zc BK281.out 0,zc BK281.out 1,zc BK281.out 2,zc BK281.out 3,zc BK281.out 4⟩ (fun hHeld=>?_)
 clear hK K
 refine norm_ (a':=?_) ?_ ?_
 rotate_left
 ·show Act.put _ (some 17) _=_
  exact zP
 refine pure_ (i:=15) (N:=some 18) (v:=?_) (a':=?_) #[true,true,true,true,true,true,true,true,true,true,true,true,true,true,true,true,false] rfl rfl (zap HT_.out (by kernel_rfl)) (fun _ _ _ h=>h) (Or.inl ⟨by rfl,?_⟩) ?_ ?_
 rotate_left
 ·intro w'
  go_simp
  with_reducible rfl
 rotate_left
 ·exact zP
 refine one_ (i:=16) (N:=none) #[true,true,true,true,true,true,true,true,true,true,true,true,true,true,true,true,true] rfl rfl (zaR HT_.out (by kernel_rfl)) (by decide) (fun K hK=>?_)
 have hs14:w13.cell? ⟨gb282,0,none⟩=some (.int .i64 0):=zc BK282.out 0
 have hfs14:=zaB BK282.out 0
 have hns14_0:=NB281_282.out
 have hms14_0:=NB282_281.out
 have hs15:w13.cell? ⟨gb282,1,none⟩=some (.int .i64 0):=zc BK282.out 1
 have hfs15:=zaB BK282.out 1
 have hns15_0:=NB281_282.out
 have hms15_0:=NB282_281.out
 have hs16:w13.cell? ⟨gb282,2,none⟩=some (.int .i64 0):=zc BK282.out 2
 have hfs16:=zaB BK282.out 2
 have hns16_0:=NB281_282.out
 have hms16_0:=NB282_281.out
 have hs17:w13.cell? ⟨gb282,3,none⟩=some (.int .i64 0):=zc BK282.out 3
 have hfs17:=zaB BK282.out 3
 have hns17_0:=NB281_282.out
 have hms17_0:=NB282_281.out
 have hs18:w13.cell? ⟨gb282,4,none⟩=some (.int .i64 0):=zc BK282.out 4
 have hfs18:=zaB BK282.out 4
 have hns18_0:=NB281_282.out
 have hms18_0:=NB282_281.out
 refine skip_ (w1:=?_) (by rfl) rfl ?_ ?_
 rotate_left
 ·go_simp
  rfl
 refine hK.out _ _ ⟨((zar (p:=⟨gb282,_,none⟩) NB281_282.out _).trans (((zar (p:=⟨gb282,_,none⟩) NB281_282.out _).trans (((zar (p:=⟨gb282,_,none⟩) NB281_282.out _).trans (((zar (p:=⟨gb282,_,none⟩) NB281_282.out _).trans (((zar (p:=⟨gb282,_,none⟩) NB281_282.out _).trans (hHeld.1)))))))))),((zar (p:=⟨gb282,_,none⟩) NB281_282.out _).trans (((zar (p:=⟨gb282,_,none⟩) NB281_282.out _).trans (((zar (p:=⟨gb282,_,none⟩) NB281_282.out _).trans (((zar (p:=⟨gb282,_,none⟩) NB281_282.out _).trans (((zar (p:=⟨gb282,_,none⟩) NB281_282.out _).trans (hHeld.2.1)))))))))),((zar (p:=⟨gb282,_,none⟩) NB281_282.out _).trans (((zar (p:=⟨gb282,_,none⟩) NB281_282.out _).trans (((zar (p:=⟨gb282,_,none⟩) NB281_282.out _).trans (((zar (p:=⟨gb282,_,none⟩) NB281_282.out _).trans (((zar (p:=⟨gb282,_,none⟩) NB281_282.out _).trans (hHeld.2.2.1)))))))))),((zar (p:=⟨gb282,_,none⟩) NB281_282.out _).trans (((zar (p:=⟨gb282,_,none⟩) NB281_282.out _).trans (((zar (p:=⟨gb282,_,none⟩) NB281_282.out _).trans (((zar (p:=⟨gb282,_,none⟩) NB281_282.out _).trans (((zar (p:=⟨gb282,_,none⟩) NB281_282.out _).trans (hHeld.2.2.2.1)))))))))),((zar (p:=⟨gb282,_,none⟩) NB281_282.out _).trans (((zar (p:=⟨gb282,_,none⟩) NB281_282.out _).trans (((zar (p:=⟨gb282,_,none⟩) NB281_282.out _).trans (((zar (p:=⟨gb282,_,none⟩) NB281_282.out _).trans (((zar (p:=⟨gb282,_,none⟩) NB281_282.out _).trans (hHeld.2.2.2.2))))))))))⟩ (fun hHeld=>?_)
 clear hK K
 refine done_ (zbr HT_.out (by kernel_rfl)) ?_
 try go_wp2
 refine bodyPost_ret (results_cell_row rfl _ _ gb282 28 #[.int .i64 t283,.int .i64 t284,.int .i64 t285,.int .i64 t286,.int .i64 t287] (0,0) _ rfl (by refine zB ?_;refine zae (cs:=#[.int .i64 t283,.int .i64 t284,.int .i64 t285,.int .i64 t286,.int .i64 0]) ?_ 4 _ rfl;refine zB ?_;refine zae (cs:=#[.int .i64 t283,.int .i64 t284,.int .i64 t285,.int .i64 0,.int .i64 0]) ?_ 3 _ rfl;refine zB ?_;refine zae (cs:=#[.int .i64 t283,.int .i64 t284,.int .i64 0,.int .i64 0,.int .i64 0]) ?_ 2 _ rfl;refine zB ?_;refine zae (cs:=#[.int .i64 t283,.int .i64 0,.int .i64 0,.int .i64 0,.int .i64 0]) ?_ 1 _ rfl;refine zB ?_;refine zae (cs:=#[.int .i64 0,.int .i64 0,.int .i64 0,.int .i64 0,.int .i64 0]) ?_ 0 _ rfl;refine zB ?_;exact BK282.out) Try.underlying28 rfl (by kernel_rfl)) rfl ?_
 exact ⟨by first|rfl|(simp [errW_none,errW_some] <;> rfl)|(simp [*,errW_none,errW_some] <;> rfl),by repeat (first|(with_reducible first|exact HB.out|apply zai|apply zaf|apply zag|refine zac ?_ GE281.out|refine zac ?_ GE282.out)|exact HB.out)⟩
def za0.j0:Nat→Int→Int→Bool→Option (Int)
 | 0,_,_,_=>none
 | k+1,x0,x1,x14=>if x14=true then (some 9223372036854775807) else (if x1=0 then (none) else (if (Int.tmod x0 x1)=0 then (some (wrap64 (Int.tdiv x0 x1))) else (if ((decide ((Int.tmod x0 x1)<0)) != (decide (x1<0)))=true then (some (wrap64 ((wrap64 (Int.tdiv x0 x1)) - 1))) else (some (wrap64 (Int.tdiv x0 x1))))))
def za0.f (k:Nat) (a0:Int) (a1:Int):Option (Int):=if a1=0 then (some 0) else (if a0=(-9223372036854775808) then (za0.j0 k a0 a1 (a1==(-1))) else (za0.j0 k a0 a1 false))
set_option maxHeartbeats 8000000 in
set_option maxRecDepth 100000 in
theorem za0.calls (k:Nat) (a0:Int) (a1:Int) (r:Int) (w:World) (h:za0.f k a0 a1=some r) :
 Calls Try.prog 57 #[.int .i64 a0,.int .i64 a1] w fun e w'=>e = .returned (.int .i64 r)∧Drawn0 w w':=by
 have H:(if a1=0 then (some 0) else (if a0=(-9223372036854775808) then (za0.j0 k a0 a1 (a1==(-1))) else (za0.j0 k a0 a1 false)))=some r:=h
 clear h
 by_cases c3:a1=0
 ·rw [if_pos c3] at H
  have c3b0:(a1==0)=true:=beq_iff_eq.mpr c3
  have c3b1:(a1 != 0)=false:=bne_eq_false_iff_eq.mpr c3
  clear c3
  obtain rfl:=Option.some.inj H
  go_enter Try.func57,Try.ntmps57
  go_wp2
  repeat (go_quiet (fail);try go_wp2)
  go_ret
  exact ⟨by first|rfl|(simp;done)|(simp [*];done),by repeat (first|exact Drawn0.refl _|apply Drawn0.step)⟩
 ·rw [if_neg c3] at H
  have c3b0:(a1==0)=false:=beq_eq_false_iff_ne.mpr c3
  have c3b1:(a1 != 0)=true:=bne_iff_ne.mpr c3
  have HC4:=Aside0.mk H
  clear H
  go_enter Try.func57,Try.ntmps57
  go_upto_region 3 with (fail)
  repeat (go_quiet (fail);go_upto_region 3 with (fail))
  go_cut [14] (fun v14 wc=>∃ (kq:Nat) (x14_3:Bool),v14 = .bool x14_3∧Aside0 (za0.j0 kq a0 a1 x14_3=some r)∧Aside0 (kq≤k)∧Drawn0 w wc)
  case first=>
   have H:=HC4.out
   clear HC4
   by_cases c5:a0=(-9223372036854775808)
   ·rw [if_pos c5] at H
    have c5b0:(a0==(-9223372036854775808))=true:=beq_iff_eq.mpr c5
    have c5b1:(a0 != (-9223372036854775808))=false:=bne_eq_false_iff_eq.mpr c5
    clear c5
    (first|rw [c5b0]|(simp only [i64_w,i32_w];rw [c5b0])|skip)
    have H':=Aside0.mk H
    clear H
    go_wp2
    repeat (go_quiet (fail);try go_wp2)
    go_meet
    case rel=>exact ⟨_,((a1==(-1))),zF,H',⟨by first|omega|exact Nat.le_refl _⟩,by repeat (first|exact Drawn0.refl _|apply Drawn0.step)⟩
   ·rw [if_neg c5] at H
    have c5b0:(a0==(-9223372036854775808))=false:=beq_eq_false_iff_ne.mpr c5
    have c5b1:(a0 != (-9223372036854775808))=true:=bne_iff_ne.mpr c5
    (first|rw [c5b0]|(simp only [i64_w,i32_w];rw [c5b0])|skip)
    have H':=Aside0.mk H
    clear H
    go_wp2
    repeat (go_quiet (fail);try go_wp2)
    go_meet
    case rel=>exact ⟨_,(false),zF,H',⟨by first|omega|exact Nat.le_refl _⟩,by repeat (first|exact Drawn0.refl _|apply Drawn0.step)⟩
  case rest=>
   clear HC4
   try clear p2
   try clear c3
   try clear c3b0
   try clear c3b1
   try clear c5
   try clear c5b0
   try clear c5b1
   obtain ⟨kq,x14_3,rfl,HA,HJ3,⟨mc3,rfl⟩⟩:=hcut
   cases kq with
   | zero=>exact absurd HA.out (by simp [za0.j0])
   | succ kj3=>
    have H:=HA.out
    clear HA
    simp only [za0.j0] at H
    by_cases c6:x14_3=true
    ·subst c6
     have H1:(some 9223372036854775807)=some r:=by rw [if_pos rfl] at H;exact H
     clear H
     have H:=H1
     clear H1
     obtain rfl:=Option.some.inj H
     go_wp2
     repeat (go_quiet (fail);try go_wp2)
     go_ret
     exact ⟨by first|rfl|(simp;done)|(simp [*];done),by repeat (first|exact Drawn0.refl _|apply Drawn0.step)⟩
    ·replace c6:=Bool.eq_false_iff.mpr c6
     subst c6
     have H1:(if a1=0 then (none) else (if (Int.tmod a0 a1)=0 then (some (wrap64 (Int.tdiv a0 a1))) else (if ((decide ((Int.tmod a0 a1)<0)) != (decide (a1<0)))=true then (some (wrap64 ((wrap64 (Int.tdiv a0 a1)) - 1))) else (some (wrap64 (Int.tdiv a0 a1))))))=some r:=by rw [if_neg (show ¬ (false=true) by decide)] at H;exact H
     clear H
     have H:=H1
     clear H1
     by_cases c7:a1=0
     ·rw [if_pos c7] at H
      exact absurd H (by simp)
     ·rw [if_neg c7] at H
      have c7b0:(a1==0)=false:=beq_eq_false_iff_ne.mpr c7
      have c7b1:(a1 != 0)=true:=bne_iff_ne.mpr c7
      by_cases c8:(Int.tmod a0 a1)=0
      ·rw [if_pos c8] at H
       have c8b0:((Int.tmod a0 a1)==0)=true:=beq_iff_eq.mpr c8
       have c8b1:((Int.tmod a0 a1) != 0)=false:=bne_eq_false_iff_eq.mpr c8
       clear c8
       obtain rfl:=Option.some.inj H
       go_wp2
       repeat (go_quiet (fail);try go_wp2)
       go_ret
       exact ⟨by first|rfl|(simp;done)|(simp [*];done),by repeat (first|exact Drawn0.refl _|apply Drawn0.step)⟩
      ·rw [if_neg c8] at H
       have c8b0:((Int.tmod a0 a1)==0)=false:=beq_eq_false_iff_ne.mpr c8
       have c8b1:((Int.tmod a0 a1) != 0)=true:=bne_iff_ne.mpr c8
       by_cases c9:((decide ((Int.tmod a0 a1)<0)) != (decide (a1<0)))=true
       ·rw [if_pos c9] at H
        have c9b0:((decide ((Int.tmod a0 a1)<0)) != (decide (a1<0)))=true:=c9
        (try (have c9b1:decide ((decide ((Int.tmod a0 a1)<0))=(decide (a1<0)))=false:=by simpa using c9))
        (try (have c9b2:((decide ((Int.tmod a0 a1)<0))==(decide (a1<0)))=false:=by simpa using c9))
        (try (have c9b3 : ¬ ((decide ((Int.tmod a0 a1)<0))=(decide (a1<0))):=by simpa using c9))
        clear c9
        obtain rfl:=Option.some.inj H
        go_wp2
        repeat (go_quiet (fail);try go_wp2)
        go_ret
        exact ⟨by first|rfl|(simp;done)|(simp [*];done),by repeat (first|exact Drawn0.refl _|apply Drawn0.step)⟩
       ·rw [if_neg c9] at H
        have c9b0:((decide ((Int.tmod a0 a1)<0)) != (decide (a1<0)))=false:=by simpa using c9
        (try (have c9b1:decide ((decide ((Int.tmod a0 a1)<0))=(decide (a1<0)))=true:=by simpa using c9))
        (try (have c9b2:((decide ((Int.tmod a0 a1)<0))==(decide (a1<0)))=true:=by simpa using c9))
        clear c9
        obtain rfl:=Option.some.inj H
        go_wp2
        repeat (go_quiet (fail);try go_wp2)
        go_ret
        exact ⟨by first|rfl|(simp;done)|(simp [*];done),by repeat (first|exact Drawn0.refl _|apply Drawn0.step)⟩
def zaC.f (a0:Int):Option (Int):=if a0<0 then (some (IntKind.u64.wrap (-(IntKind.u64.wrap (a0))))) else (some (IntKind.u64.wrap (a0)))
set_option maxHeartbeats 8000000 in
set_option maxRecDepth 100000 in
theorem zaC.calls (a0:Int) (r:Int) (w:World) (h:zaC.f a0=some r) :
 Calls Try.prog 113 #[.int .i64 a0] w fun e w'=>e = .returned (.int .u64 r)∧Drawn0 w w':=by
 have H:(if a0<0 then (some (IntKind.u64.wrap (-(IntKind.u64.wrap (a0))))) else (some (IntKind.u64.wrap (a0))))=some r:=h
 clear h
 by_cases c2:a0<0
 ·rw [if_pos c2] at H
  have c2b0:decide (a0<0)=true:=decide_eq_true c2
  clear c2
  obtain rfl:=Option.some.inj H
  go_enter Try.func113,Try.ntmps113
  go_wp2
  go_ret
  exact ⟨by first|rfl|(simp;done)|(simp [*];done),by repeat (first|exact Drawn0.refl _|apply Drawn0.step)⟩
 ·rw [if_neg c2] at H
  have c2b0:decide (a0<0)=false:=decide_eq_false c2
  clear c2
  obtain rfl:=Option.some.inj H
  go_enter Try.func113,Try.ntmps113
  go_wp2
  go_ret
  exact ⟨by first|rfl|(simp;done)|(simp [*];done),by repeat (first|exact Drawn0.refl _|apply Drawn0.step)⟩
def zau.j0:Nat→Int→Int→Int→Bool→Option (Int)
 | 0,_,_,_,_=>none
 | k+1,x0,x1,x5,x17=>if x17=true then (some x5) else ((zaC.f (wrap64 (x0 - (wrap64 (x1*x5))))).bind fun t304=>((zaC.f x1).bind fun t305=>(if t304≥(IntKind.u64.wrap (t305 - t304)) then (some (wrap64 (x5+1))) else (some x5))))
def zau.f (k:Nat) (a0:Int) (a1:Int):Option (Int):=if a1=0 then (some 0) else ((za0.f k a0 a1).bind fun t303=>(if a0=(-9223372036854775808) then (zau.j0 k a0 a1 t303 (a1==(-1))) else (zau.j0 k a0 a1 t303 false)))
set_option maxHeartbeats 8000000 in
set_option maxRecDepth 100000 in
theorem zau.calls (k:Nat) (a0:Int) (a1:Int) (r:Int) (w:World) (h:zau.f k a0 a1=some r) :
 Calls Try.prog 68 #[.int .i64 a0,.int .i64 a1] w fun e w'=>e = .returned (.int .i64 r)∧Drawn0 w w':=by
 have H:(if a1=0 then (some 0) else ((za0.f k a0 a1).bind fun t303=>(if a0=(-9223372036854775808) then (zau.j0 k a0 a1 t303 (a1==(-1))) else (zau.j0 k a0 a1 t303 false))))=some r:=h
 clear h
 by_cases c3:a1=0
 ·rw [if_pos c3] at H
  have c3b0:(a1==0)=true:=beq_iff_eq.mpr c3
  have c3b1:(a1 != 0)=false:=bne_eq_false_iff_eq.mpr c3
  clear c3
  obtain rfl:=Option.some.inj H
  go_enter Try.func68,Try.ntmps68
  go_wp2
  go_ret
  exact ⟨by first|rfl|(simp;done)|(simp [*];done),by repeat (first|exact Drawn0.refl _|apply Drawn0.step)⟩
 ·rw [if_neg c3] at H
  have c3b0:(a1==0)=false:=beq_eq_false_iff_ne.mpr c3
  have c3b1:(a1 != 0)=true:=bne_iff_ne.mpr c3
  replace H:=Option.bind_eq_some_iff.mp H
  obtain ⟨t303,A40,H⟩:=H
  replace H:(if a0=(-9223372036854775808) then (zau.j0 k a0 a1 t303 (a1==(-1))) else (zau.j0 k a0 a1 t303 false))=some r:=H
  have A4:=Aside0.mk A40
  clear A40
  have HC5:=Aside0.mk H
  clear H
  go_enter Try.func68,Try.ntmps68
  go_upto_region 4 with (first|((with_reducible refine zal (f:=57) rfl ?_);refine goesL_ (some 11) rfl rfl Try.func57 (by kernel_rfl) rfl #[.int .i64 a0,.int .i64 a1] rfl zA ?_;(with_reducible refine (za0.calls k a0 a1 t303 _ A4.out).mono ?_);rintro e w' ⟨rfl,⟨nd,rfl⟩⟩;refine ⟨_,rfl,?_⟩))
  (try simp only [Act.put,List.setIfInBounds_toArray,List.set_cons_zero,List.set_cons_succ])
  go_cut [17] (fun v17 wc=>∃ (kq:Nat) (x17_4:Bool),v17 = .bool x17_4∧Aside0 (zau.j0 kq a0 a1 t303 x17_4=some r)∧Aside0 (kq≤k)∧Drawn0 w wc)
  case first=>
   have H:=HC5.out
   clear HC5
   by_cases c6:a0=(-9223372036854775808)
   ·rw [if_pos c6] at H
    have c6b0:(a0==(-9223372036854775808))=true:=beq_iff_eq.mpr c6
    have c6b1:(a0 != (-9223372036854775808))=false:=bne_eq_false_iff_eq.mpr c6
    clear c6
    (first|rw [c6b0]|(simp only [i64_w,i32_w];rw [c6b0])|skip)
    have H':=Aside0.mk H
    clear H
    go_wp2
    go_meet
    case rel=>exact ⟨_,((a1==(-1))),zF,H',⟨by first|omega|exact Nat.le_refl _⟩,by repeat (first|exact Drawn0.refl _|apply Drawn0.step)⟩
   ·rw [if_neg c6] at H
    have c6b0:(a0==(-9223372036854775808))=false:=beq_eq_false_iff_ne.mpr c6
    have c6b1:(a0 != (-9223372036854775808))=true:=bne_iff_ne.mpr c6
    (first|rw [c6b0]|(simp only [i64_w,i32_w];rw [c6b0])|skip)
    have H':=Aside0.mk H
    clear H
    go_wp2
    go_meet
    case rel=>exact ⟨_,(false),zF,H',⟨by first|omega|exact Nat.le_refl _⟩,by repeat (first|exact Drawn0.refl _|apply Drawn0.step)⟩
  case rest=>
   clear HC5
   try clear p2
   try clear c3
   try clear c3b0
   try clear c3b1
   try clear c5
   try clear c6
   try clear c6b0
   try clear c6b1
   obtain ⟨kq,x17_4,rfl,HA,HJ4,⟨mc4,rfl⟩⟩:=hcut
   cases kq with
   | zero=>exact absurd HA.out (by simp [zau.j0])
   | succ kj4=>
    have H:=HA.out
    clear HA
    simp only [zau.j0] at H
    by_cases c7:x17_4=true
    ·subst c7
     have H1:(some t303)=some r:=by rw [if_pos rfl] at H;exact H
     clear H
     have H:=H1
     clear H1
     obtain rfl:=Option.some.inj H
     go_wp2
     go_ret
     exact ⟨by first|rfl|(simp;done)|(simp [*];done),by repeat (first|exact Drawn0.refl _|apply Drawn0.step)⟩
    ·replace c7:=Bool.eq_false_iff.mpr c7
     subst c7
     have H1:((zaC.f (wrap64 (a0 - (wrap64 (a1*t303))))).bind fun t304=>((zaC.f a1).bind fun t305=>(if t304≥(IntKind.u64.wrap (t305 - t304)) then (some (wrap64 (t303+1))) else (some t303))))=some r:=by rw [if_neg (show ¬ (false=true) by decide)] at H;exact H
     clear H
     have H:=H1
     clear H1
     replace H:=Option.bind_eq_some_iff.mp H
     obtain ⟨t304,A80,H⟩:=H
     replace H:((zaC.f a1).bind fun t305=>(if t304≥(IntKind.u64.wrap (t305 - t304)) then (some (wrap64 (t303+1))) else (some t303)))=some r:=H
     have A8:=Aside0.mk A80
     clear A80
     replace H:=Option.bind_eq_some_iff.mp H
     obtain ⟨t305,A90,H⟩:=H
     replace H:(if t304≥(IntKind.u64.wrap (t305 - t304)) then (some (wrap64 (t303+1))) else (some t303))=some r:=H
     have A9:=Aside0.mk A90
     clear A90
     by_cases c10:t304≥(IntKind.u64.wrap (t305 - t304))
     ·rw [if_pos c10] at H
      have c10b0:decide ((IntKind.u64.wrap (t305 - t304))≤t304)=true:=decide_eq_true c10
      clear c10
      obtain rfl:=Option.some.inj H
      go_wp2_with (first|((with_reducible refine zal (f:=113) rfl ?_);refine goesL_ (some 24) rfl rfl Try.func113 (by kernel_rfl) rfl #[.int .i64 (wrap64 (a0 - (wrap64 (a1*t303))))] rfl zA ?_;(with_reducible refine (zaC.calls (wrap64 (a0 - (wrap64 (a1*t303)))) t304 _ A8.out).mono ?_);rintro e w' ⟨rfl,⟨nd,rfl⟩⟩;refine ⟨_,rfl,?_⟩)|((with_reducible refine zal (f:=113) rfl ?_);refine goesL_ (some 27) rfl rfl Try.func113 (by kernel_rfl) rfl #[.int .i64 a1] rfl zA ?_;(with_reducible refine (zaC.calls a1 t305 _ A9.out).mono ?_);rintro e w' ⟨rfl,⟨nd,rfl⟩⟩;refine ⟨_,rfl,?_⟩))
      go_ret
      exact ⟨by first|rfl|(simp;done)|(simp [*];done),by repeat (first|exact Drawn0.refl _|apply Drawn0.step)⟩
     ·rw [if_neg c10] at H
      have c10b0:decide ((IntKind.u64.wrap (t305 - t304))≤t304)=false:=decide_eq_false c10
      clear c10
      obtain rfl:=Option.some.inj H
      go_wp2_with (first|((with_reducible refine zal (f:=113) rfl ?_);refine goesL_ (some 24) rfl rfl Try.func113 (by kernel_rfl) rfl #[.int .i64 (wrap64 (a0 - (wrap64 (a1*t303))))] rfl zA ?_;(with_reducible refine (zaC.calls (wrap64 (a0 - (wrap64 (a1*t303)))) t304 _ A8.out).mono ?_);rintro e w' ⟨rfl,⟨nd,rfl⟩⟩;refine ⟨_,rfl,?_⟩)|((with_reducible refine zal (f:=113) rfl ?_);refine goesL_ (some 27) rfl rfl Try.func113 (by kernel_rfl) rfl #[.int .i64 a1] rfl zA ?_;(with_reducible refine (zaC.calls a1 t305 _ A9.out).mono ?_);rintro e w' ⟨rfl,⟨nd,rfl⟩⟩;refine ⟨_,rfl,?_⟩))
      go_ret
      exact ⟨by first|rfl|(simp;done)|(simp [*];done),by repeat (first|exact Drawn0.refl _|apply Drawn0.step)⟩
set_option maxHeartbeats 8000000 in
set_option maxRecDepth 100000 in
theorem table_calls (w:World):Calls Try.prog 159 #[] w fun e w'=>e = .returned (.agg tabArr)∧Below w.heap.size w w':=by
 go_enter Try.func159,Try.ntmps159
 go_wp2_with (first|((with_reducible refine zaA (N:=1) rfl ?_);refine wpList_build_to rfl 146 _ rfl tabArr (by kernel_rfl) ?_)|((with_reducible refine gate_st (t:=146) (p:=0) rfl ?_);refine wpList_store_row rfl 146 (.tmp 0) (.tmp 1) rfl w.heap.size tabArr rfl rfl 146 Try.zeroCells146 (heap_alloc_new _ _) tab_size zero_size tab_one ?_;generalize hW:World.setRow _ w.heap.size tabArr=W1;have HG:=Aside0.mk (show W1.heap[w.heap.size]? = some (.cells tabArr 146 (0,0)) by rw [← hW];exact setRow_heap _ _ _ _ _ _ (heap_alloc_new _ _));have HB:=Aside0.mk (show Below w.heap.size w W1 by rw [← hW];exact below_setRow ((Below.refl _ _).alloc (Nat.le_refl _) _) (Nat.le_refl _) _);clear hW))
 refine bodyPost_ret (results_cell_row (p:=0) (ty:=146) rfl _ _ w.heap.size 146 tabArr (0,0) _ rfl HG.out Try.underlying146 rfl tab_size) rfl ⟨rfl,HB.out⟩
def zaP.f (k:Nat) (a0:Int):Option (Int):=if 0≤a0 then (if a0≤16384 then (if a0=16384 then (some (sineTab 64)) else ((zau.f k (wrap64 ((wrap64 (sineTab (a0 / 256+1) - sineTab (a0 / 256)))*(wrap64 (a0 - wrap64 (256*(a0 / 256)))))) 256).bind fun t=>(some (wrap64 (sineTab (a0 / 256)+t))))) else (none)) else (none)
set_option maxHeartbeats 8000000 in
set_option maxRecDepth 100000 in
theorem zaP.calls (k:Nat) (a0:Int) (r:Int) (w:World) (h:zaP.f k a0=some r) :
 Calls Try.prog 144 #[.int .i64 a0] w fun e w'=>e = .returned (.int .i64 r)∧Below w.heap.size w w':=by
 unfold zaP.f at h
 by_cases c0:0≤a0
 ·rw [if_pos c0] at h
  by_cases c1:a0≤16384
  ·rw [if_pos c1] at h
   by_cases c2:a0=16384
   ·rw [if_pos c2] at h
    obtain rfl:=Option.some.inj h
    have hb2:(a0==16384)=true:=beq_iff_eq.mpr c2
    clear h c2
    go_enter Try.func144,Try.ntmps144
    go_wp2_with (first|(go_at_call 159;refine (table_calls _).mono ?_;rintro e w0 ⟨rfl,hb⟩;have HB0:=Aside0.mk hb;clear hb)|((with_reducible refine gate_st (t:=146) (p:=3) rfl ?_);refine wpList_store_row rfl 146 (.tmp 3) (.tmp 5) rfl w0.heap.size tabArr rfl rfl 146 Try.zeroCells146 (heap_alloc_new _ _) tab_size zero_size tab_one ?_;generalize hW:World.setRow _ w0.heap.size tabArr=W1;have HT:=Aside0.mk (isTab_of W1 w0.heap.size _ _ (by rw [← hW];exact setRow_heap _ _ _ _ _ _ (heap_alloc_new _ _)));have HB:=Aside0.mk (show Below w.heap.size w W1 by rw [← hW];exact below_setRow (HB0.out.alloc HB0.out.size _) HB0.out.size _);clear hW;have h64:W1.cell? ⟨w0.heap.size,64,none⟩=some (.int .i64 (sineTab 64)):=HT.out 64 (by omega) (by omega)))
    go_ret
    exact ⟨rfl,HB.out⟩
   ·rw [if_neg c2] at h
    obtain ⟨t,hd,hr⟩:=Option.bind_eq_some_iff.mp h
    obtain rfl:=Option.some.inj hr
    have HD:=Aside0.mk hd
    have hb2:(a0==16384)=false:=beq_eq_false_iff_ne.mpr c2
    have hlt:a0<16384:=by omega
    clear h hd hr c2
    go_enter Try.func144,Try.ntmps144
    go_wp2_with (first|(go_at_call 159;refine (table_calls _).mono ?_;rintro e w0 ⟨rfl,hb⟩;have HB0:=Aside0.mk hb;clear hb)|((with_reducible refine gate_st (t:=146) (p:=3) rfl ?_);refine wpList_store_row rfl 146 (.tmp 3) (.tmp 5) rfl w0.heap.size tabArr rfl rfl 146 Try.zeroCells146 (heap_alloc_new _ _) tab_size zero_size tab_one ?_;generalize hW:World.setRow _ w0.heap.size tabArr=W1;have HT:=Aside0.mk (isTab_of W1 w0.heap.size _ _ (by rw [← hW];exact setRow_heap _ _ _ _ _ _ (heap_alloc_new _ _)));have HB:=Aside0.mk (show Below w.heap.size w W1 by rw [← hW];exact below_setRow (HB0.out.alloc HB0.out.size _) HB0.out.size _);clear hW;have hA:W1.cell? ⟨w0.heap.size,(a0 / 256).toNat,none⟩=some (.int .i64 (sineTab (a0 / 256))):=HT.out _ (by omega) (by omega);have hA1:W1.cell? ⟨w0.heap.size,(a0 / 256+1).toNat,none⟩=some (.int .i64 (sineTab (a0 / 256+1))):=HT.out _ (by omega) (by omega)))
    have d0:0≤a0 / 256:=by omega
    have d1:a0 / 256<64:=by omega
    have dd0:decide (0≤a0 / 256)=true:=decide_eq_true d0
    have e1:wrap64 (256*(a0 / 256))=256*(a0 / 256):=by unfold wrap64;omega
    have e2:wrap64 (a0 - 256*(a0 / 256))=a0 - 256*(a0 / 256):=by unfold wrap64;omega
    rw [e1,e2] at HD
    clear e1 e2
    go_quiet (first|(go_at_call 68;(with_reducible refine (zau.calls k _ _ t _ HD.out).mono ?_);rintro e w' ⟨rfl,⟨nd,rfl⟩⟩;(first|exact ⟨rfl,_,World.drewN_drewN _ _ _⟩|exact ⟨rfl,_,Eq.trans (World.drewN_drewN _ _ _) (congrArg (World.drewN _) (Nat.add_assoc _ _ _))⟩)))
    go_wp2
    go_ret
    exact ⟨rfl,zaf HB.out _⟩
  ·rw [if_neg c1] at h
   exact absurd h (by simp)
 ·rw [if_neg c0] at h
  exact absurd h (by simp)
def zaV.f (k:Nat) (a0:Int):Option (Int):=if (wrap64 (Int.tdiv a0 16384))=0 then ((zaP.f k (wrap64 (a0 - (wrap64 (16384*(wrap64 (Int.tdiv a0 16384))))))).bind fun t306=>(some t306)) else (if (wrap64 (Int.tdiv a0 16384))=1 then ((zaP.f k (wrap64 (16384 - (wrap64 (a0 - (wrap64 (16384*(wrap64 (Int.tdiv a0 16384))))))))).bind fun t307=>(some t307)) else (if (wrap64 (Int.tdiv a0 16384))=2 then ((zaP.f k (wrap64 (a0 - (wrap64 (16384*(wrap64 (Int.tdiv a0 16384))))))).bind fun t308=>(some (wrap64 (-t308)))) else ((zaP.f k (wrap64 (16384 - (wrap64 (a0 - (wrap64 (16384*(wrap64 (Int.tdiv a0 16384))))))))).bind fun t309=>(some (wrap64 (-t309))))))
set_option maxHeartbeats 8000000 in
set_option maxRecDepth 100000 in
theorem zaV.calls (k:Nat) (a0:Int) (r:Int) (w:World) (h:zaV.f k a0=some r) :
 Calls Try.prog 112 #[.int .i64 a0] w fun e w'=>e = .returned (.int .i64 r)∧Below w.heap.size w w':=by
 have HB:=Aside0.mk (Below.refl w.heap.size w)
 have H:(if (wrap64 (Int.tdiv a0 16384))=0 then ((zaP.f k (wrap64 (a0 - (wrap64 (16384*(wrap64 (Int.tdiv a0 16384))))))).bind fun t306=>(some t306)) else (if (wrap64 (Int.tdiv a0 16384))=1 then ((zaP.f k (wrap64 (16384 - (wrap64 (a0 - (wrap64 (16384*(wrap64 (Int.tdiv a0 16384))))))))).bind fun t307=>(some t307)) else (if (wrap64 (Int.tdiv a0 16384))=2 then ((zaP.f k (wrap64 (a0 - (wrap64 (16384*(wrap64 (Int.tdiv a0 16384))))))).bind fun t308=>(some (wrap64 (-t308)))) else ((zaP.f k (wrap64 (16384 - (wrap64 (a0 - (wrap64 (16384*(wrap64 (Int.tdiv a0 16384))))))))).bind fun t309=>(some (wrap64 (-t309)))))))=some r:=h
 clear h
 by_cases c2:(wrap64 (Int.tdiv a0 16384))=0
 ·rw [if_pos c2] at H
  have c2b0:((wrap64 (Int.tdiv a0 16384))==0)=true:=beq_iff_eq.mpr c2
  have c2b1:((wrap64 (Int.tdiv a0 16384)) != 0)=false:=bne_eq_false_iff_eq.mpr c2
  clear c2
  replace H:=Option.bind_eq_some_iff.mp H
  obtain ⟨t306,A30,H⟩:=H
  replace H:(some t306)=some r:=H
  have A3:=Aside0.mk A30
  clear A30
  obtain rfl:=Option.some.inj H
  go_enter Try.func112,Try.ntmps112
  go_wp2_with (first|((with_reducible refine zal (f:=144) rfl ?_);refine goesL_ (some 14) rfl rfl Try.func144 (by kernel_rfl) rfl #[.int .i64 (wrap64 (a0 - (wrap64 (16384*(wrap64 (Int.tdiv a0 16384))))))] rfl zA ?_;(with_reducible refine (zaP.calls k (wrap64 (a0 - (wrap64 (16384*(wrap64 (Int.tdiv a0 16384)))))) t306 _ A3.out).mono ?_);rintro e w4 ⟨rfl,hb⟩;refine ⟨_,rfl,?_⟩;replace HB:=Aside0.mk (zad (zL HB.out) hb);(try clear hb);(try clear hb2);(try clear hk);(try clear hi)))
  go_ret
  exact ⟨by first|rfl|(simp [errW_none,errW_some] <;> rfl)|(simp [*,errW_none,errW_some] <;> rfl),by repeat (first|(with_reducible first|exact HB.out|apply zai|apply zaf|apply zag)|exact HB.out)⟩
 ·rw [if_neg c2] at H
  have c2b0:((wrap64 (Int.tdiv a0 16384))==0)=false:=beq_eq_false_iff_ne.mpr c2
  have c2b1:((wrap64 (Int.tdiv a0 16384)) != 0)=true:=bne_iff_ne.mpr c2
  by_cases c5:(wrap64 (Int.tdiv a0 16384))=1
  ·rw [if_pos c5] at H
   have c5b0:((wrap64 (Int.tdiv a0 16384))==1)=true:=beq_iff_eq.mpr c5
   have c5b1:((wrap64 (Int.tdiv a0 16384)) != 1)=false:=bne_eq_false_iff_eq.mpr c5
   clear c5
   replace H:=Option.bind_eq_some_iff.mp H
   obtain ⟨t307,A60,H⟩:=H
   replace H:(some t307)=some r:=H
   have A6:=Aside0.mk A60
   clear A60
   obtain rfl:=Option.some.inj H
   go_enter Try.func112,Try.ntmps112
   go_wp2_with (first|((with_reducible refine zal (f:=144) rfl ?_);refine goesL_ (some 19) rfl rfl Try.func144 (by kernel_rfl) rfl #[.int .i64 (wrap64 (16384 - (wrap64 (a0 - (wrap64 (16384*(wrap64 (Int.tdiv a0 16384))))))))] rfl zA ?_;(with_reducible refine (zaP.calls k (wrap64 (16384 - (wrap64 (a0 - (wrap64 (16384*(wrap64 (Int.tdiv a0 16384)))))))) t307 _ A6.out).mono ?_);rintro e w7 ⟨rfl,hb⟩;refine ⟨_,rfl,?_⟩;replace HB:=Aside0.mk (zad (zL HB.out) hb);(try clear hb);(try clear hb2);(try clear hk);(try clear hi)))
   go_ret
   exact ⟨by first|rfl|(simp [errW_none,errW_some] <;> rfl)|(simp [*,errW_none,errW_some] <;> rfl),by repeat (first|(with_reducible first|exact HB.out|apply zai|apply zaf|apply zag)|exact HB.out)⟩
  ·rw [if_neg c5] at H
   have c5b0:((wrap64 (Int.tdiv a0 16384))==1)=false:=beq_eq_false_iff_ne.mpr c5
   have c5b1:((wrap64 (Int.tdiv a0 16384)) != 1)=true:=bne_iff_ne.mpr c5
   by_cases c8:(wrap64 (Int.tdiv a0 16384))=2
   ·rw [if_pos c8] at H
    have c8b0:((wrap64 (Int.tdiv a0 16384))==2)=true:=beq_iff_eq.mpr c8
    have c8b1:((wrap64 (Int.tdiv a0 16384)) != 2)=false:=bne_eq_false_iff_eq.mpr c8
    clear c8
    replace H:=Option.bind_eq_some_iff.mp H
    obtain ⟨t308,A90,H⟩:=H
    replace H:(some (wrap64 (-t308)))=some r:=H
    have A9:=Aside0.mk A90
    clear A90
    obtain rfl:=Option.some.inj H
    go_enter Try.func112,Try.ntmps112
    go_wp2_with (first|((with_reducible refine zal (f:=144) rfl ?_);refine goesL_ (some 23) rfl rfl Try.func144 (by kernel_rfl) rfl #[.int .i64 (wrap64 (a0 - (wrap64 (16384*(wrap64 (Int.tdiv a0 16384))))))] rfl zA ?_;(with_reducible refine (zaP.calls k (wrap64 (a0 - (wrap64 (16384*(wrap64 (Int.tdiv a0 16384)))))) t308 _ A9.out).mono ?_);rintro e w10 ⟨rfl,hb⟩;refine ⟨_,rfl,?_⟩;replace HB:=Aside0.mk (zad (zL HB.out) hb);(try clear hb);(try clear hb2);(try clear hk);(try clear hi)))
    go_ret
    exact ⟨by first|rfl|(simp [errW_none,errW_some] <;> rfl)|(simp [*,errW_none,errW_some] <;> rfl),by repeat (first|(with_reducible first|exact HB.out|apply zai|apply zaf|apply zag)|exact HB.out)⟩
   ·rw [if_neg c8] at H
    have c8b0:((wrap64 (Int.tdiv a0 16384))==2)=false:=beq_eq_false_iff_ne.mpr c8
    have c8b1:((wrap64 (Int.tdiv a0 16384)) != 2)=true:=bne_iff_ne.mpr c8
    replace H:=Option.bind_eq_some_iff.mp H
    obtain ⟨t309,A110,H⟩:=H
    replace H:(some (wrap64 (-t309)))=some r:=H
    have A11:=Aside0.mk A110
    clear A110
    obtain rfl:=Option.some.inj H
    go_enter Try.func112,Try.ntmps112
    go_wp2_with (first|((with_reducible refine zal (f:=144) rfl ?_);refine goesL_ (some 27) rfl rfl Try.func144 (by kernel_rfl) rfl #[.int .i64 (wrap64 (16384 - (wrap64 (a0 - (wrap64 (16384*(wrap64 (Int.tdiv a0 16384))))))))] rfl zA ?_;(with_reducible refine (zaP.calls k (wrap64 (16384 - (wrap64 (a0 - (wrap64 (16384*(wrap64 (Int.tdiv a0 16384)))))))) t309 _ A11.out).mono ?_);rintro e w12 ⟨rfl,hb⟩;refine ⟨_,rfl,?_⟩;replace HB:=Aside0.mk (zad (zL HB.out) hb);(try clear hb);(try clear hb2);(try clear hk);(try clear hi)))
    go_ret
    exact ⟨by first|rfl|(simp [errW_none,errW_some] <;> rfl)|(simp [*,errW_none,errW_some] <;> rfl),by repeat (first|(with_reducible first|exact HB.out|apply zai|apply zaf|apply zag)|exact HB.out)⟩
end Go.Proofs.Ytlilncnoohfcdaa.Da
