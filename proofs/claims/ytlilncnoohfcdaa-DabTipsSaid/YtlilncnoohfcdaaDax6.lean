
import Derived.Test.YtlilncnoohfcdaaDax0
import Derived.Test.YtlilncnoohfcdaaDax3
namespace Go.Proofs.Ytlilncnoohfcdaa.Da
open Go.RowKit Go.Proofs.YtlilncnoohfcdaaW.PrintWords Go.Proofs.YtlilncnoohfcdaaW.PrintLast Go.Proofs.YtlilncnoohfcdaaW.PrintMore
attribute [local go_sem] max2_int min2_int zbo zbp zbc zbd zbj zbk   
set_option linter.unusedVariables false
set_option linter.unusedSimpArgs false
/-! ### num_Floor: function 55 -/
def zbl.f (a0:Int) (a1:Int):Option (Int):=if a1=0 then (some 0) else (if a1=(-1) then (if a0=(-9223372036854775808) then (some 9223372036854775807) else (some (wrap64 (-a0)))) else (if (Int.tmod a0 a1)=0 then (some (wrap64 (Int.tdiv a0 a1))) else (if ((decide (a0<0)) != (decide (a1<0)))=true then (some (wrap64 ((wrap64 (Int.tdiv a0 a1)) - 1))) else (some (wrap64 (Int.tdiv a0 a1))))))
set_option maxHeartbeats 8000000 in
set_option maxRecDepth 100000 in
theorem zbl.calls (a0:Int) (a1:Int) (r:Int) (w:World) (h:zbl.f a0 a1=some r) :
 Calls Try.prog 55 #[.int .i64 a0,.int .i64 a1] w fun e w'=>e = .returned (.int .i64 r)∧Drawn0 w w':=by
 have H:(if a1=0 then (some 0) else (if a1=(-1) then (if a0=(-9223372036854775808) then (some 9223372036854775807) else (some (wrap64 (-a0)))) else (if (Int.tmod a0 a1)=0 then (some (wrap64 (Int.tdiv a0 a1))) else (if ((decide (a0<0)) != (decide (a1<0)))=true then (some (wrap64 ((wrap64 (Int.tdiv a0 a1)) - 1))) else (some (wrap64 (Int.tdiv a0 a1)))))))=some r:=h
 clear h
 by_cases c3:a1=0
 ·rw [if_pos c3] at H
  have c3b0:(a1==0)=true:=beq_iff_eq.mpr c3
  have c3b1:(a1 != 0)=false:=bne_eq_false_iff_eq.mpr c3
  clear c3
  obtain rfl:=Option.some.inj H
  go_enter Try.func55,Try.ntmps55
  go_wp2
  go_ret
  exact ⟨by first|rfl|(simp;done)|(simp [*];done),by repeat (first|exact Drawn0.refl _|apply Drawn0.step)⟩
 ·rw [if_neg c3] at H
  have c3b0:(a1==0)=false:=beq_eq_false_iff_ne.mpr c3
  have c3b1:(a1 != 0)=true:=bne_iff_ne.mpr c3
  by_cases c4:a1=(-1)
  ·rw [if_pos c4] at H
   have c4b0:(a1==(-1))=true:=beq_iff_eq.mpr c4
   have c4b1:(a1 != (-1))=false:=bne_eq_false_iff_eq.mpr c4
   clear c4
   by_cases c5:a0=(-9223372036854775808)
   ·rw [if_pos c5] at H
    have c5b0:(a0==(-9223372036854775808))=true:=beq_iff_eq.mpr c5
    have c5b1:(a0 != (-9223372036854775808))=false:=bne_eq_false_iff_eq.mpr c5
    clear c5
    obtain rfl:=Option.some.inj H
    go_enter Try.func55,Try.ntmps55
    go_wp2
    go_ret
    exact ⟨by first|rfl|(simp;done)|(simp [*];done),by repeat (first|exact Drawn0.refl _|apply Drawn0.step)⟩
   ·rw [if_neg c5] at H
    have c5b0:(a0==(-9223372036854775808))=false:=beq_eq_false_iff_ne.mpr c5
    have c5b1:(a0 != (-9223372036854775808))=true:=bne_iff_ne.mpr c5
    obtain rfl:=Option.some.inj H
    go_enter Try.func55,Try.ntmps55
    go_wp2
    go_ret
    exact ⟨by first|rfl|(simp;done)|(simp [*];done),by repeat (first|exact Drawn0.refl _|apply Drawn0.step)⟩
  ·rw [if_neg c4] at H
   have c4b0:(a1==(-1))=false:=beq_eq_false_iff_ne.mpr c4
   have c4b1:(a1 != (-1))=true:=bne_iff_ne.mpr c4
   by_cases c6:(Int.tmod a0 a1)=0
   ·rw [if_pos c6] at H
    have c6b0:((Int.tmod a0 a1)==0)=true:=beq_iff_eq.mpr c6
    have c6b1:((Int.tmod a0 a1) != 0)=false:=bne_eq_false_iff_eq.mpr c6
    clear c6
    obtain rfl:=Option.some.inj H
    go_enter Try.func55,Try.ntmps55
    go_wp2
    go_ret
    exact ⟨by first|rfl|(simp;done)|(simp [*];done),by repeat (first|exact Drawn0.refl _|apply Drawn0.step)⟩
   ·rw [if_neg c6] at H
    have c6b0:((Int.tmod a0 a1)==0)=false:=beq_eq_false_iff_ne.mpr c6
    have c6b1:((Int.tmod a0 a1) != 0)=true:=bne_iff_ne.mpr c6
    by_cases c7:((decide (a0<0)) != (decide (a1<0)))=true
    ·rw [if_pos c7] at H
     have c7b0:((decide (a0<0)) != (decide (a1<0)))=true:=c7
     (try (have c7b1:decide ((decide (a0<0))=(decide (a1<0)))=false:=by simpa using c7))
     (try (have c7b2:((decide (a0<0))==(decide (a1<0)))=false:=by simpa using c7))
     (try (have c7b3 : ¬ ((decide (a0<0))=(decide (a1<0))):=by simpa using c7))
     clear c7
     obtain rfl:=Option.some.inj H
     go_enter Try.func55,Try.ntmps55
     go_wp2
     go_ret
     exact ⟨by first|rfl|(simp;done)|(simp [*];done),by repeat (first|exact Drawn0.refl _|apply Drawn0.step)⟩
    ·rw [if_neg c7] at H
     have c7b0:((decide (a0<0)) != (decide (a1<0)))=false:=by simpa using c7
     (try (have c7b1:decide ((decide (a0<0))=(decide (a1<0)))=true:=by simpa using c7))
     (try (have c7b2:((decide (a0<0))==(decide (a1<0)))=true:=by simpa using c7))
     clear c7
     obtain rfl:=Option.some.inj H
     go_enter Try.func55,Try.ntmps55
     go_wp2
     go_ret
     exact ⟨by first|rfl|(simp;done)|(simp [*];done),by repeat (first|exact Drawn0.refl _|apply Drawn0.step)⟩
def za3.f (a0_0:Int) (a0_1:Int) (a0_2:Int) (a0_3:Int) (a0_4:Int):Option (Int×Int×Int×Int×Int):=(zaW.f a0_0 (-16777216) 16777216).bind fun t135=>((zaW.f a0_1 (-16777216) 16777216).bind fun t136=>((zaW.f a0_2 0 1024).bind fun t137=>((zaW.f a0_3 0 65535).bind fun t138=>((zbl.f a0_4 65536).bind fun t139=>(some (t135,t136,t137,t138,wrap64 (a0_4 - (wrap64 (t139*65536)))))))))
def za3.T1:Bool×List (List Nat×List Nat):=(true,[([],[]),([0],[0]),([1],[1]),([],[]),([3],[3]),([4,2],[4]),([],[]),([6],[6]),([7,5],[7]),([],[]),([9],[9]),([10,8],[10]),([],[]),([12],[12]),([],[]),([14],[14]),([15,11],[15]),([16],[16]),([13,17],[13,17]),([2,5,8,11,18],[2,5,8,11,18]),([19,16,0,1,2,3,4,5,6,7,8,9,10,11,12,13,14,15,16,17,18,19],[19])])
def za3.B1:List Nat:=[0,1,3,0,8,31,0,64,255,0,512,2047,0,4096,0,16384,53247,118783,262143,524287,1048575]
theorem za3.tab1:rtab .any (opsOf Try.f52 1)=za3.T1:=by kernel_rfl
theorem za3.bits1:waitsOk za3.T1.2 za3.B1=true:=by kernel_rfl
set_option maxHeartbeats 8000000 in
set_option maxRecDepth 100000 in
theorem za3.calls (a0_0:Int) (a0_1:Int) (a0_2:Int) (a0_3:Int) (a0_4:Int) (r1:Int) (r2:Int) (r3:Int) (r4:Int) (r5:Int) (w:World) (h:za3.f a0_0 a0_1 a0_2 a0_3 a0_4=some (r1,r2,r3,r4,r5)) :
 Calls Try.prog 52 #[.agg #[.int .i64 a0_0,.int .i64 a0_1,.int .i64 a0_2,.int .i64 a0_3,.int .i64 a0_4]] w fun e w'=>e = .returned (.agg #[.int .i64 r1,.int .i64 r2,.int .i64 r3,.int .i64 r4,.int .i64 r5])∧Below w.heap.size w w':=by
 have hu28:=Try.underlying28
 have HB:=Aside0.mk (Below.refl w.heap.size w)
 have H:((zaW.f a0_0 (-16777216) 16777216).bind fun t135=>((zaW.f a0_1 (-16777216) 16777216).bind fun t136=>((zaW.f a0_2 0 1024).bind fun t137=>((zaW.f a0_3 0 65535).bind fun t138=>((zbl.f a0_4 65536).bind fun t139=>(some (t135,t136,t137,t138,wrap64 (a0_4 - (wrap64 (t139*65536))))))))))=some (r1,r2,r3,r4,r5):=h
 clear h
 replace H:=Option.bind_eq_some_iff.mp H
 obtain ⟨t135,A20,H⟩:=H
 replace H:((zaW.f a0_1 (-16777216) 16777216).bind fun t136=>((zaW.f a0_2 0 1024).bind fun t137=>((zaW.f a0_3 0 65535).bind fun t138=>((zbl.f a0_4 65536).bind fun t139=>(some (t135,t136,t137,t138,wrap64 (a0_4 - (wrap64 (t139*65536)))))))))=some (r1,r2,r3,r4,r5):=H
 have A2:=Aside0.mk A20
 clear A20
 replace H:=Option.bind_eq_some_iff.mp H
 obtain ⟨t136,A30,H⟩:=H
 replace H:((zaW.f a0_2 0 1024).bind fun t137=>((zaW.f a0_3 0 65535).bind fun t138=>((zbl.f a0_4 65536).bind fun t139=>(some (t135,t136,t137,t138,wrap64 (a0_4 - (wrap64 (t139*65536))))))))=some (r1,r2,r3,r4,r5):=H
 have A3:=Aside0.mk A30
 clear A30
 replace H:=Option.bind_eq_some_iff.mp H
 obtain ⟨t137,A40,H⟩:=H
 replace H:((zaW.f a0_3 0 65535).bind fun t138=>((zbl.f a0_4 65536).bind fun t139=>(some (t135,t136,t137,t138,wrap64 (a0_4 - (wrap64 (t139*65536)))))))=some (r1,r2,r3,r4,r5):=H
 have A4:=Aside0.mk A40
 clear A40
 replace H:=Option.bind_eq_some_iff.mp H
 obtain ⟨t138,A50,H⟩:=H
 replace H:((zbl.f a0_4 65536).bind fun t139=>(some (t135,t136,t137,t138,wrap64 (a0_4 - (wrap64 (t139*65536))))))=some (r1,r2,r3,r4,r5):=H
 have A5:=Aside0.mk A50
 clear A50
 replace H:=Option.bind_eq_some_iff.mp H
 obtain ⟨t139,A60,H⟩:=H
 replace H:(some (t135,t136,t137,t138,wrap64 (a0_4 - (wrap64 (t139*65536)))))=some (r1,r2,r3,r4,r5):=H
 have A6:=Aside0.mk A60
 clear A60
 simp only [Option.some.injEq,Prod.mk.injEq] at H
 obtain ⟨rfl,rfl,rfl,rfl,rfl⟩:=H
 go_enter Try.func52,Try.ntmps52
 try go_wp2_with (first|((with_reducible refine zaA (N:=1) rfl ?_);refine zav ?hg (N:=1) ?hd (cs:=#[.int .i64 a0_0,.int .i64 a0_1,.int .i64 a0_2,.int .i64 a0_3,.int .i64 a0_4]) (t:=28) ?hr ?_;(case hd=>rfl);(case hg=>rfl);(case hr=>first|(go_simp;done)|(go_simp;rfl));intro gb133 hg w7 hbox hb;have n0_:=Aside0.mk (zad (zL HB.out) hb);have n1_:=Aside0.mk (hbox);have n2_:=Aside0.mk ((zS hg (zL HB.out):w.heap.size≤gb133));have n3_:=Aside0.mk ((zS hg (zL HB.out):w.heap.size≤gb133));clear HB;have HB:=n0_;have BK133:=n1_;have GW133:=n2_;have GE133:=n3_;clear n0_ n1_ n2_ n3_;clear hb hbox hg)|((with_reducible refine zaA (N:=2) rfl ?_);refine zav ?hg (N:=2) ?hd (cs:=#[.int .i64 0,.int .i64 0,.int .i64 0,.int .i64 0,.int .i64 0]) (t:=28) ?hr ?_;(case hd=>rfl);(case hg=>rfl);(case hr=>first|(go_simp;done)|(go_simp;rfl));intro gb134 hg w8 hbox hb;have n0_:=Aside0.mk (zaa (zB BK133.out) hb);have n1_:=Aside0.mk (zad (zL1 HB.out GE133.out) hb);have n2_:=Aside0.mk (hbox);have n3_:=Aside0.mk ((zS hg (zL1 HB.out GE133.out):w.heap.size≤gb134));have n4_:=Aside0.mk ((zS hg (zL1 HB.out GE133.out):w.heap.size≤gb134));have n5_:=Aside0.mk ((by rw [hg];exact Nat.ne_of_lt (zao (zB BK133.out)):gb133≠gb134));have n6_:=Aside0.mk ((by rw [hg];exact Nat.ne_of_gt (zao (zB BK133.out)):gb134≠gb133));clear BK133;clear HB;have BK133:=n0_;have HB:=n1_;have BK134:=n2_;have GW134:=n3_;have GE134:=n4_;have NB133_134:=n5_;have NB134_133:=n6_;clear n0_ n1_ n2_ n3_ n4_ n5_ n6_;clear hb hbox hg))
 replace BK133:=Aside0.mk (zaK BK133.out)
 replace BK134:=Aside0.mk (zaK BK134.out)
 replace HB:=Aside0.mk (zag HB.out)
 refine start_ (n:=21) (S:=fun w'=>w'.cell? ⟨gb133,0,none⟩=some (.int .i64 a0_0)∧w'.cell? ⟨gb133,1,none⟩=some (.int .i64 a0_1)∧w'.cell? ⟨gb133,2,none⟩=some (.int .i64 a0_2)∧w'.cell? ⟨gb133,3,none⟩=some (.int .i64 a0_3)∧w'.cell? ⟨gb133,4,none⟩=some (.int .i64 a0_4)) (ds:=[]) #[false,false,false,false,false,false,false,false,false,false,false,false,false,false,false,false,false,false,false,false,false] (by kernel_rfl) rfl rfl ⟨zc BK133.out 0,zc BK133.out 1,zc BK133.out 2,zc BK133.out 3,zc BK133.out 4⟩ (fun hHeld=>?_);refine zbi za3.tab1 za3.bits1 (fun HT_ HW_=>?_)
 generalize w8.drew=w9 at BK133 BK134 HB hHeld ⊢
 refine pure_ (i:=0) (N:=some 3) (v:=?_) (a':=?_) #[true,false,false,false,false,false,false,false,false,false,false,false,false,false,false,false,false,false,false,false,false] rfl rfl (zap HT_.out (by kernel_rfl)) (fun _ _ _ h=>h) (Or.inl ⟨by rfl,?_⟩) ?_ ?_
 rotate_left
 ·intro w'
  go_simp
  with_reducible rfl
 rotate_left
 ·exact zP
 refine pure_ (i:=3) (N:=some 6) (v:=?_) (a':=?_) #[true,false,false,true,false,false,false,false,false,false,false,false,false,false,false,false,false,false,false,false,false] rfl rfl (zap HT_.out (by kernel_rfl)) (fun _ _ _ h=>h) (Or.inl ⟨by rfl,?_⟩) ?_ ?_
 rotate_left
 ·intro w'
  go_simp
  with_reducible rfl
 rotate_left
 ·exact zP
 refine pure_ (i:=6) (N:=some 9) (v:=?_) (a':=?_) #[true,false,false,true,false,false,true,false,false,false,false,false,false,false,false,false,false,false,false,false,false] rfl rfl (zap HT_.out (by kernel_rfl)) (fun _ _ _ h=>h) (Or.inl ⟨by rfl,?_⟩) ?_ ?_
 rotate_left
 ·intro w'
  go_simp
  with_reducible rfl
 rotate_left
 ·exact zP
 refine pure_ (i:=9) (N:=some 12) (v:=?_) (a':=?_) #[true,false,false,true,false,false,true,false,false,true,false,false,false,false,false,false,false,false,false,false,false] rfl rfl (zap HT_.out (by kernel_rfl)) (fun _ _ _ h=>h) (Or.inl ⟨by rfl,?_⟩) ?_ ?_
 rotate_left
 ·intro w'
  go_simp
  with_reducible rfl
 rotate_left
 ·exact zP
 refine pure_ (i:=12) (N:=some 15) (v:=?_) (a':=?_) #[true,false,false,true,false,false,true,false,false,true,false,false,true,false,false,false,false,false,false,false,false] rfl rfl (zap HT_.out (by kernel_rfl)) (fun _ _ _ h=>h) (Or.inl ⟨by rfl,?_⟩) ?_ ?_
 rotate_left
 ·intro w'
  go_simp
  with_reducible rfl
 rotate_left
 ·exact zP
 refine pure_ (i:=14) (N:=some 17) (v:=?_) (a':=?_) #[true,false,false,true,false,false,true,false,false,true,false,false,true,false,true,false,false,false,false,false,false] rfl rfl (zap HT_.out (by kernel_rfl)) (fun _ _ _ h=>h) (Or.inl ⟨by rfl,?_⟩) ?_ ?_
 rotate_left
 ·intro w'
  go_simp
  with_reducible rfl
 rotate_left
 ·exact zP
 refine take_ (i:=1) (N:=some 4) (v:=?_) (a':=?_) #[true,true,false,true,false,false,true,false,false,true,false,false,true,false,true,false,false,false,false,false,false] rfl rfl (zaL HT_.out HW_.out (by kernel_rfl)) (fun _ _ _ h=>h) (Or.inl ⟨by rfl,?_⟩) hHeld ?_ ?_
 rotate_left
 ·rintro w' ⟨s0,s1,s2,s3,s4⟩
  go_simp
  with_reducible rfl
 rotate_left
 ·exact zP
 refine take_ (i:=4) (N:=some 7) (v:=?_) (a':=?_) #[true,true,false,true,true,false,true,false,false,true,false,false,true,false,true,false,false,false,false,false,false] rfl rfl (zaL HT_.out HW_.out (by kernel_rfl)) (fun _ _ _ h=>h) (Or.inl ⟨by rfl,?_⟩) hHeld ?_ ?_
 rotate_left
 ·rintro w' ⟨s0,s1,s2,s3,s4⟩
  go_simp
  with_reducible rfl
 rotate_left
 ·exact zP
 refine take_ (i:=7) (N:=some 10) (v:=?_) (a':=?_) #[true,true,false,true,true,false,true,true,false,true,false,false,true,false,true,false,false,false,false,false,false] rfl rfl (zaL HT_.out HW_.out (by kernel_rfl)) (fun _ _ _ h=>h) (Or.inl ⟨by rfl,?_⟩) hHeld ?_ ?_
 rotate_left
 ·rintro w' ⟨s0,s1,s2,s3,s4⟩
  go_simp
  with_reducible rfl
 rotate_left
 ·exact zP
 refine take_ (i:=10) (N:=some 13) (v:=?_) (a':=?_) #[true,true,false,true,true,false,true,true,false,true,true,false,true,false,true,false,false,false,false,false,false] rfl rfl (zaL HT_.out HW_.out (by kernel_rfl)) (fun _ _ _ h=>h) (Or.inl ⟨by rfl,?_⟩) hHeld ?_ ?_
 rotate_left
 ·rintro w' ⟨s0,s1,s2,s3,s4⟩
  go_simp
  with_reducible rfl
 rotate_left
 ·exact zP
 refine take_ (i:=13) (N:=some 16) (v:=?_) (a':=?_) #[true,true,false,true,true,false,true,true,false,true,true,false,true,true,true,false,false,false,false,false,false] rfl rfl (zaL HT_.out HW_.out (by kernel_rfl)) (fun _ _ _ h=>h) (Or.inl ⟨by rfl,?_⟩) hHeld ?_ ?_
 rotate_left
 ·rintro w' ⟨s0,s1,s2,s3,s4⟩
  go_simp
  with_reducible rfl
 rotate_left
 ·exact zP
 refine take_ (i:=15) (N:=some 18) (v:=?_) (a':=?_) #[true,true,false,true,true,false,true,true,false,true,true,false,true,true,true,true,false,false,false,false,false] rfl rfl (zaL HT_.out HW_.out (by kernel_rfl)) (fun _ _ _ h=>h) (Or.inl ⟨by rfl,?_⟩) hHeld ?_ ?_
 rotate_left
 ·rintro w' ⟨s0,s1,s2,s3,s4⟩
  go_simp
  with_reducible rfl
 rotate_left
 ·exact zP
 refine one_ (i:=2) (N:=some 5) #[true,true,true,true,true,false,true,true,false,true,true,false,true,true,true,true,false,false,false,false,false] rfl rfl (zaR HT_.out (by kernel_rfl)) (by decide) (fun K hK=>?_)
 refine goes_ Try.func54 (by kernel_rfl) rfl #[.int .i64 a0_0,.int .i64 (-16777216),.int .i64 16777216] (by rfl) rfl rfl zA ?_
 with_reducible refine (zaW.calls a0_0 (-16777216) 16777216 t135 _ A2.out).mono ?_
 rintro e w10 ⟨rfl,hb⟩
 refine ⟨_,rfl,?_⟩
 replace BK133:=Aside0.mk (zaa (zB BK133.out) hb)
 replace BK134:=Aside0.mk (zaa (zB BK134.out) hb)
 replace HB:=Aside0.mk (zad (zL2 HB.out GE133.out GE134.out) hb)
 (try clear hb)
 (try clear hb2)
 (try clear hk)
 (try clear hi)
 refine hK.out _ _ ⟨zc BK133.out 0,zc BK133.out 1,zc BK133.out 2,zc BK133.out 3,zc BK133.out 4⟩ (fun hHeld=>?_)
 clear hK K
 refine norm_ (a':=?_) ?_ ?_
 rotate_left
 ·show Act.put _ (some 5) _=_
  exact zP
 refine one_ (i:=5) (N:=some 8) #[true,true,true,true,true,true,true,true,false,true,true,false,true,true,true,true,false,false,false,false,false] rfl rfl (zaR HT_.out (by kernel_rfl)) (by decide) (fun K hK=>?_)
 refine goes_ Try.func54 (by kernel_rfl) rfl #[.int .i64 a0_1,.int .i64 (-16777216),.int .i64 16777216] (by rfl) rfl rfl zA ?_
 with_reducible refine (zaW.calls a0_1 (-16777216) 16777216 t136 _ A3.out).mono ?_
 rintro e w11 ⟨rfl,hb⟩
 refine ⟨_,rfl,?_⟩
 replace BK133:=Aside0.mk (zaa (zB BK133.out) hb)
 replace BK134:=Aside0.mk (zaa (zB BK134.out) hb)
 replace HB:=Aside0.mk (zad (zL2 HB.out GE133.out GE134.out) hb)
 (try clear hb)
 (try clear hb2)
 (try clear hk)
 (try clear hi)
 refine hK.out _ _ ⟨zc BK133.out 0,zc BK133.out 1,zc BK133.out 2,zc BK133.out 3,zc BK133.out 4⟩ (fun hHeld=>?_)
 clear hK K
 refine norm_ (a':=?_) ?_ ?_
 rotate_left
 ·show Act.put _ (some 8) _=_
  exact zP
 refine one_ (i:=8) (N:=some 11) #[true,true,true,true,true,true,true,true,true,true,true,false,true,true,true,true,false,false,false,false,false] rfl rfl (zaR HT_.out (by kernel_rfl)) (by decide) (fun K hK=>?_)
 refine goes_ Try.func54 (by kernel_rfl) rfl #[.int .i64 a0_2,.int .i64 0,.int .i64 1024] (by rfl) rfl rfl zA ?_
 with_reducible refine (zaW.calls a0_2 0 1024 t137 _ A4.out).mono ?_
 rintro e w12 ⟨rfl,hb⟩
 refine ⟨_,rfl,?_⟩
 replace BK133:=Aside0.mk (zaa (zB BK133.out) hb)
 replace BK134:=Aside0.mk (zaa (zB BK134.out) hb)
 replace HB:=Aside0.mk (zad (zL2 HB.out GE133.out GE134.out) hb)
 (try clear hb)
 (try clear hb2)
 (try clear hk)
 (try clear hi)
 refine hK.out _ _ ⟨zc BK133.out 0,zc BK133.out 1,zc BK133.out 2,zc BK133.out 3,zc BK133.out 4⟩ (fun hHeld=>?_)
 clear hK K
 refine norm_ (a':=?_) ?_ ?_
 rotate_left
 ·show Act.put _ (some 11) _=_
  exact zP
 refine one_ (i:=11) (N:=some 14) #[true,true,true,true,true,true,true,true,true,true,true,true,true,true,true,true,false,false,false,false,false] rfl rfl (zaR HT_.out (by kernel_rfl)) (by decide) (fun K hK=>?_)
 refine goes_ Try.func54 (by kernel_rfl) rfl #[.int .i64 a0_3,.int .i64 0,.int .i64 65535] (by rfl) rfl rfl zA ?_
 with_reducible refine (zaW.calls a0_3 0 65535 t138 _ A5.out).mono ?_
 rintro e w13 ⟨rfl,hb⟩
 refine ⟨_,rfl,?_⟩
 replace BK133:=Aside0.mk (zaa (zB BK133.out) hb)
 replace BK134:=Aside0.mk (zaa (zB BK134.out) hb)
 replace HB:=Aside0.mk (zad (zL2 HB.out GE133.out GE134.out) hb)
 (try clear hb)
 (try clear hb2)
 (try clear hk)
 (try clear hi)
 refine hK.out _ _ ⟨zc BK133.out 0,zc BK133.out 1,zc BK133.out 2,zc BK133.out 3,zc BK133.out 4⟩ (fun hHeld=>?_)
 clear hK K
 refine norm_ (a':=?_) ?_ ?_
 rotate_left
 ·show Act.put _ (some 14) _=_
  exact zP
 refine one_ (i:=16) (N:=some 19) #[true,true,true,true,true,true,true,true,true,true,true,true,true,true,true,true,true,false,false,false,false] rfl rfl (zaR HT_.out (by kernel_rfl)) (by decide) (fun K hK=>?_)
 refine goes_ Try.func55 (by kernel_rfl) rfl #[.int .i64 a0_4,.int .i64 65536] (by rfl) rfl rfl zA ?_
 with_reducible refine (zbl.calls a0_4 65536 t139 _ A6.out).mono ?_
 rintro e w' ⟨rfl,⟨nd,rfl⟩⟩
 refine ⟨_,rfl,?_⟩
 refine hK.out _ _ ⟨zc BK133.out 0,zc BK133.out 1,zc BK133.out 2,zc BK133.out 3,zc BK133.out 4⟩ (fun hHeld=>?_)
 clear hK K
 refine norm_ (a':=?_) ?_ ?_
 rotate_left
 ·show Act.put _ (some 19) _=_
  exact zP
 refine pure_ (i:=17) (N:=some 20) (v:=?_) (a':=?_) #[true,true,true,true,true,true,true,true,true,true,true,true,true,true,true,true,true,true,false,false,false] rfl rfl (zap HT_.out (by kernel_rfl)) (fun _ _ _ h=>h) (Or.inl ⟨by rfl,?_⟩) ?_ ?_
 rotate_left
 ·intro w'
  go_simp
  with_reducible rfl
 rotate_left
 ·exact zP
 refine pure_ (i:=18) (N:=some 21) (v:=?_) (a':=?_) #[true,true,true,true,true,true,true,true,true,true,true,true,true,true,true,true,true,true,true,false,false] rfl rfl (zap HT_.out (by kernel_rfl)) (fun _ _ _ h=>h) (Or.inl ⟨by rfl,?_⟩) ?_ ?_
 rotate_left
 ·intro w'
  go_simp
  with_reducible rfl
 rotate_left
 ·exact zP
 refine pure_ (i:=19) (N:=some 22) (v:=?_) (a':=?_) #[true,true,true,true,true,true,true,true,true,true,true,true,true,true,true,true,true,true,true,true,false] rfl rfl (zap HT_.out (by kernel_rfl)) (fun _ _ _ h=>h) (Or.inl ⟨by rfl,?_⟩) ?_ ?_
 rotate_left
 ·intro w'
  go_simp
  with_reducible rfl
 rotate_left
 ·exact zP
 refine one_ (i:=20) (N:=none) #[true,true,true,true,true,true,true,true,true,true,true,true,true,true,true,true,true,true,true,true,true] rfl rfl (zaR HT_.out (by kernel_rfl)) (by decide) (fun K hK=>?_)
 have hs14:w13.cell? ⟨gb134,0,none⟩=some (.int .i64 0):=zc BK134.out 0
 have hfs14:=zaB BK134.out 0
 have hns14_0:=NB133_134.out
 have hms14_0:=NB134_133.out
 have hs15:w13.cell? ⟨gb134,1,none⟩=some (.int .i64 0):=zc BK134.out 1
 have hfs15:=zaB BK134.out 1
 have hns15_0:=NB133_134.out
 have hms15_0:=NB134_133.out
 have hs16:w13.cell? ⟨gb134,2,none⟩=some (.int .i64 0):=zc BK134.out 2
 have hfs16:=zaB BK134.out 2
 have hns16_0:=NB133_134.out
 have hms16_0:=NB134_133.out
 have hs17:w13.cell? ⟨gb134,3,none⟩=some (.int .i64 0):=zc BK134.out 3
 have hfs17:=zaB BK134.out 3
 have hns17_0:=NB133_134.out
 have hms17_0:=NB134_133.out
 have hs18:w13.cell? ⟨gb134,4,none⟩=some (.int .i64 0):=zc BK134.out 4
 have hfs18:=zaB BK134.out 4
 have hns18_0:=NB133_134.out
 have hms18_0:=NB134_133.out
 refine skip_ (w1:=?_) (by rfl) rfl ?_ ?_
 rotate_left
 ·go_simp
  rfl
 refine hK.out _ _ ⟨((zar (p:=⟨gb134,_,none⟩) NB133_134.out _).trans (((zar (p:=⟨gb134,_,none⟩) NB133_134.out _).trans (((zar (p:=⟨gb134,_,none⟩) NB133_134.out _).trans (((zar (p:=⟨gb134,_,none⟩) NB133_134.out _).trans (((zar (p:=⟨gb134,_,none⟩) NB133_134.out _).trans (hHeld.1)))))))))),((zar (p:=⟨gb134,_,none⟩) NB133_134.out _).trans (((zar (p:=⟨gb134,_,none⟩) NB133_134.out _).trans (((zar (p:=⟨gb134,_,none⟩) NB133_134.out _).trans (((zar (p:=⟨gb134,_,none⟩) NB133_134.out _).trans (((zar (p:=⟨gb134,_,none⟩) NB133_134.out _).trans (hHeld.2.1)))))))))),((zar (p:=⟨gb134,_,none⟩) NB133_134.out _).trans (((zar (p:=⟨gb134,_,none⟩) NB133_134.out _).trans (((zar (p:=⟨gb134,_,none⟩) NB133_134.out _).trans (((zar (p:=⟨gb134,_,none⟩) NB133_134.out _).trans (((zar (p:=⟨gb134,_,none⟩) NB133_134.out _).trans (hHeld.2.2.1)))))))))),((zar (p:=⟨gb134,_,none⟩) NB133_134.out _).trans (((zar (p:=⟨gb134,_,none⟩) NB133_134.out _).trans (((zar (p:=⟨gb134,_,none⟩) NB133_134.out _).trans (((zar (p:=⟨gb134,_,none⟩) NB133_134.out _).trans (((zar (p:=⟨gb134,_,none⟩) NB133_134.out _).trans (hHeld.2.2.2.1)))))))))),((zar (p:=⟨gb134,_,none⟩) NB133_134.out _).trans (((zar (p:=⟨gb134,_,none⟩) NB133_134.out _).trans (((zar (p:=⟨gb134,_,none⟩) NB133_134.out _).trans (((zar (p:=⟨gb134,_,none⟩) NB133_134.out _).trans (((zar (p:=⟨gb134,_,none⟩) NB133_134.out _).trans (hHeld.2.2.2.2))))))))))⟩ (fun hHeld=>?_)
 clear hK K
 refine done_ (zbr HT_.out (by kernel_rfl)) ?_
 try go_wp2
 refine bodyPost_ret (results_cell_row rfl _ _ gb134 28 #[.int .i64 t135,.int .i64 t136,.int .i64 t137,.int .i64 t138,.int .i64 (wrap64 (a0_4 - (wrap64 (t139*65536))))] (0,0) _ rfl (by refine zB ?_;refine zae (cs:=#[.int .i64 t135,.int .i64 t136,.int .i64 t137,.int .i64 t138,.int .i64 0]) ?_ 4 _ rfl;refine zB ?_;refine zae (cs:=#[.int .i64 t135,.int .i64 t136,.int .i64 t137,.int .i64 0,.int .i64 0]) ?_ 3 _ rfl;refine zB ?_;refine zae (cs:=#[.int .i64 t135,.int .i64 t136,.int .i64 0,.int .i64 0,.int .i64 0]) ?_ 2 _ rfl;refine zB ?_;refine zae (cs:=#[.int .i64 t135,.int .i64 0,.int .i64 0,.int .i64 0,.int .i64 0]) ?_ 1 _ rfl;refine zB ?_;refine zae (cs:=#[.int .i64 0,.int .i64 0,.int .i64 0,.int .i64 0,.int .i64 0]) ?_ 0 _ rfl;refine zB ?_;exact BK134.out) Try.underlying28 rfl (by kernel_rfl)) rfl ?_
 exact ⟨by first|rfl|(simp [errW_none,errW_some] <;> rfl)|(simp [*,errW_none,errW_some] <;> rfl),by repeat (first|(with_reducible first|exact HB.out|apply zai|apply zaf|apply zag|refine zac ?_ GE133.out|refine zac ?_ GE134.out)|exact HB.out)⟩
def zbt.f (a0:Int):Option (Int):=(zbl.f a0 16).bind fun t140=>((zaW.f t140 (-1048576) 1048576).bind fun t141=>(some t141))
set_option maxHeartbeats 8000000 in
set_option maxRecDepth 100000 in
theorem zbt.calls (a0:Int) (r:Int) (w:World) (h:zbt.f a0=some r) :
 Calls Try.prog 53 #[.int .i64 a0] w fun e w'=>e = .returned (.int .i64 r)∧Below w.heap.size w w':=by
 have HB:=Aside0.mk (Below.refl w.heap.size w)
 have H:((zbl.f a0 16).bind fun t140=>((zaW.f t140 (-1048576) 1048576).bind fun t141=>(some t141)))=some r:=h
 clear h
 replace H:=Option.bind_eq_some_iff.mp H
 obtain ⟨t140,A20,H⟩:=H
 replace H:((zaW.f t140 (-1048576) 1048576).bind fun t141=>(some t141))=some r:=H
 have A2:=Aside0.mk A20
 clear A20
 replace H:=Option.bind_eq_some_iff.mp H
 obtain ⟨t141,A30,H⟩:=H
 replace H:(some t141)=some r:=H
 have A3:=Aside0.mk A30
 clear A30
 obtain rfl:=Option.some.inj H
 go_enter Try.func53,Try.ntmps53
 go_wp2_with (first|((with_reducible refine zal (f:=55) rfl ?_);refine goesL_ (some 4) rfl rfl Try.func55 (by kernel_rfl) rfl #[.int .i64 a0,.int .i64 16] rfl zA ?_;(with_reducible refine (zbl.calls a0 16 t140 _ A2.out).mono ?_);rintro e w' ⟨rfl,⟨nd,rfl⟩⟩;refine ⟨_,rfl,?_⟩)|((with_reducible refine zal (f:=54) rfl ?_);refine goesL_ (some 5) rfl rfl Try.func54 (by kernel_rfl) rfl #[.int .i64 t140,.int .i64 (-1048576),.int .i64 1048576] rfl zA ?_;(with_reducible refine (zaW.calls t140 (-1048576) 1048576 t141 _ A3.out).mono ?_);rintro e w4 ⟨rfl,hb⟩;refine ⟨_,rfl,?_⟩;replace HB:=Aside0.mk (zad (zL HB.out) hb);(try clear hb);(try clear hb2);(try clear hk);(try clear hi)))
 go_ret
 exact ⟨by first|rfl|(simp [errW_none,errW_some] <;> rfl)|(simp [*,errW_none,errW_some] <;> rfl),by repeat (first|(with_reducible first|exact HB.out|apply zai|apply zaf|apply zag)|exact HB.out)⟩
def za9.f (a0:Int):Option (Int):=(zbl.f a0 16).bind fun t142=>(some (mn (wrap64 (t142+1)) 1048576))
set_option maxHeartbeats 8000000 in
set_option maxRecDepth 100000 in
theorem za9.calls (a0:Int) (r:Int) (w:World) (h:za9.f a0=some r) :
 Calls Try.prog 56 #[.int .i64 a0] w fun e w'=>e = .returned (.int .i64 r)∧Below w.heap.size w w':=by
 have HB:=Aside0.mk (Below.refl w.heap.size w)
 have H:((zbl.f a0 16).bind fun t142=>(some (mn (wrap64 (t142+1)) 1048576)))=some r:=h
 clear h
 replace H:=Option.bind_eq_some_iff.mp H
 obtain ⟨t142,A20,H⟩:=H
 replace H:(some (mn (wrap64 (t142+1)) 1048576))=some r:=H
 have A2:=Aside0.mk A20
 clear A20
 obtain ⟨ji3,hji3⟩ : ∃ j_:Int,(mn (wrap64 (t142+1)) 1048576)=j_:=⟨_,rfl⟩
 replace H:(some ji3)=some r:=by first|(rw [hji3] at H;exact H)|(simp only [hji3] at H ⊢;exact H)
 (try rw [hji3] at A2)
 (try (have hji3h:ji3≤1048576:=by (rw [← hji3];unfold mn;(repeat' split) <;> omega)))
 (try (have hji3g:ji3≤64:=by omega))
 have hji3_:(if 1048576<(wrap64 (t142+1)) then 1048576 else (wrap64 (t142+1)))=ji3:=hji3
 obtain rfl:=Option.some.inj H
 go_enter Try.func56,Try.ntmps56
 go_wp2_with (first|((with_reducible refine zal (f:=55) rfl ?_);refine goesL_ (some 4) rfl rfl Try.func55 (by kernel_rfl) rfl #[.int .i64 a0,.int .i64 16] rfl zA ?_;(with_reducible refine (zbl.calls a0 16 t142 _ A2.out).mono ?_);rintro e w' ⟨rfl,⟨nd,rfl⟩⟩;refine ⟨_,rfl,?_⟩))
 go_ret
 exact ⟨by first|rfl|(simp [errW_none,errW_some] <;> rfl)|(simp only [← hji3];first|rfl|(simp [errW_none,errW_some] <;> rfl))|(simp [*,errW_none,errW_some] <;> rfl),by repeat (first|(with_reducible first|exact HB.out|apply zai|apply zaf|apply zag)|exact HB.out)⟩
end Go.Proofs.Ytlilncnoohfcdaa.Da
