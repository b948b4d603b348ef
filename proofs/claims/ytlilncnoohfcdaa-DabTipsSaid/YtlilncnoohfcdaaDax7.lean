
import Derived.Test.YtlilncnoohfcdaaDax0
import Derived.Test.YtlilncnoohfcdaaDax6
namespace Go.Proofs.Ytlilncnoohfcdaa.Da
open Go.RowKit Go.Proofs.YtlilncnoohfcdaaW.PrintWords Go.Proofs.YtlilncnoohfcdaaW.PrintLast Go.Proofs.YtlilncnoohfcdaaW.PrintMore
attribute [local go_sem] max2_int min2_int zbo zbp zbc zbd zbj zbk   
set_option linter.unusedVariables false
set_option linter.unusedSimpArgs false
/-! ### dab_Box: function 16 -/
def za6.f (a0_0:Int) (a0_1:Int) (a0_2:Int) (a0_3:Int) (a0_4:Int):Option (Int×Int×Int×Int):=(za3.f a0_0 a0_1 a0_2 a0_3 a0_4).bind fun bt145=>((zbt.f (wrap64 (bt145.1 - (wrap64 (Int.tdiv (wrap64 (bt145.2.2.1+1)) 2))))).bind fun t150=>((zbt.f (wrap64 (bt145.2.1 - (wrap64 (Int.tdiv (wrap64 (bt145.2.2.1+1)) 2))))).bind fun t151=>((za9.f (wrap64 (bt145.1+(wrap64 (Int.tdiv (wrap64 (bt145.2.2.1+1)) 2))))).bind fun t152=>((za9.f (wrap64 (bt145.2.1+(wrap64 (Int.tdiv (wrap64 (bt145.2.2.1+1)) 2))))).bind fun t153=>(if (wrap64 (t152 - t150))≤0 then (some (0,0,0,0)) else (if (wrap64 (t153 - t151))≤0 then (some (0,0,0,0)) else (some (t150,t151,wrap64 (t152 - t150),wrap64 (t153 - t151)))))))))
def za6.T5:Bool×List (List Nat×List Nat):=(true,[([],[]),([],[]),([1],[1]),([],[]),([2,3],[2,3]),([0,4],[0,4]),([],[]),([],[]),([7],[7]),([],[]),([8,9],[8,9]),([6,10,5],[6,10]),([5,11,0,1,2,3,4,5],[5]),([11,12,0,1,2,3,4,5,6,7,8,9,10,11,12],[11])])
def za6.B5:List Nat:=[0,0,2,0,14,31,0,0,128,0,896,2047,4095,8191]
theorem za6.tab5:rtab .any (opsOf Try.f16 5)=za6.T5:=by kernel_rfl
theorem za6.bits5:waitsOk za6.T5.2 za6.B5=true:=by kernel_rfl
def za6.T6:Bool×List (List Nat×List Nat):=(true,[([],[]),([],[]),([],[]),([],[]),([3],[3]),([],[]),([4,5],[4,5]),([2,6],[2,6]),([],[]),([7,8],[7,8]),([],[]),([],[]),([11],[11]),([],[]),([12,13],[12,13]),([10,14,7],[10,14]),([],[]),([15,16],[15,16]),([0,1,9,17],[0,1,9,17]),([],[]),([19,18,15,0,1,2,3,4,5,6,7,8,9,10,11,12,13,14,15,16,17,18,19],[18,19])])
def za6.B6:List Nat:=[0,0,0,0,8,0,56,124,0,508,0,0,2048,0,14336,31996,0,130300,262143,0,1048575]
theorem za6.tab6:rtab .any (opsOf Try.f16 6)=za6.T6:=by kernel_rfl
theorem za6.bits6:waitsOk za6.T6.2 za6.B6=true:=by kernel_rfl
set_option maxHeartbeats 8000000 in
set_option maxRecDepth 100000 in
theorem za6.calls (a0_0:Int) (a0_1:Int) (a0_2:Int) (a0_3:Int) (a0_4:Int) (r1:Int) (r2:Int) (r3:Int) (r4:Int) (w:World) (h:za6.f a0_0 a0_1 a0_2 a0_3 a0_4=some (r1,r2,r3,r4)) :
 Calls Try.prog 16 #[.agg #[.int .i64 a0_0,.int .i64 a0_1,.int .i64 a0_2,.int .i64 a0_3,.int .i64 a0_4]] w fun e w'=>e = .returned (.agg #[.int .i64 r1,.int .i64 r2,.int .i64 r3,.int .i64 r4])∧Below w.heap.size w w':=by
 have hu28:=Try.underlying28
 have hu32:=Try.underlying32
 have HB:=Aside0.mk (Below.refl w.heap.size w)
 have H:((za3.f a0_0 a0_1 a0_2 a0_3 a0_4).bind fun bt145=>((zbt.f (wrap64 (bt145.1 - (wrap64 (Int.tdiv (wrap64 (bt145.2.2.1+1)) 2))))).bind fun t150=>((zbt.f (wrap64 (bt145.2.1 - (wrap64 (Int.tdiv (wrap64 (bt145.2.2.1+1)) 2))))).bind fun t151=>((za9.f (wrap64 (bt145.1+(wrap64 (Int.tdiv (wrap64 (bt145.2.2.1+1)) 2))))).bind fun t152=>((za9.f (wrap64 (bt145.2.1+(wrap64 (Int.tdiv (wrap64 (bt145.2.2.1+1)) 2))))).bind fun t153=>(if (wrap64 (t152 - t150))≤0 then (some (0,0,0,0)) else (if (wrap64 (t153 - t151))≤0 then (some (0,0,0,0)) else (some (t150,t151,wrap64 (t152 - t150),wrap64 (t153 - t151))))))))))=some (r1,r2,r3,r4):=h
 clear h
 replace H:=Option.bind_eq_some_iff.mp H
 obtain ⟨⟨t145,t146,t147,t148,t149⟩,A20,H⟩:=H
 replace H:((zbt.f (wrap64 (t145 - (wrap64 (Int.tdiv (wrap64 (t147+1)) 2))))).bind fun t150=>((zbt.f (wrap64 (t146 - (wrap64 (Int.tdiv (wrap64 (t147+1)) 2))))).bind fun t151=>((za9.f (wrap64 (t145+(wrap64 (Int.tdiv (wrap64 (t147+1)) 2))))).bind fun t152=>((za9.f (wrap64 (t146+(wrap64 (Int.tdiv (wrap64 (t147+1)) 2))))).bind fun t153=>(if (wrap64 (t152 - t150))≤0 then (some (0,0,0,0)) else (if (wrap64 (t153 - t151))≤0 then (some (0,0,0,0)) else (some (t150,t151,wrap64 (t152 - t150),wrap64 (t153 - t151)))))))))=some (r1,r2,r3,r4):=H
 have A2:=Aside0.mk A20
 clear A20
 replace H:=Option.bind_eq_some_iff.mp H
 obtain ⟨t150,A30,H⟩:=H
 replace H:((zbt.f (wrap64 (t146 - (wrap64 (Int.tdiv (wrap64 (t147+1)) 2))))).bind fun t151=>((za9.f (wrap64 (t145+(wrap64 (Int.tdiv (wrap64 (t147+1)) 2))))).bind fun t152=>((za9.f (wrap64 (t146+(wrap64 (Int.tdiv (wrap64 (t147+1)) 2))))).bind fun t153=>(if (wrap64 (t152 - t150))≤0 then (some (0,0,0,0)) else (if (wrap64 (t153 - t151))≤0 then (some (0,0,0,0)) else (some (t150,t151,wrap64 (t152 - t150),wrap64 (t153 - t151))))))))=some (r1,r2,r3,r4):=H
 have A3:=Aside0.mk A30
 clear A30
 replace H:=Option.bind_eq_some_iff.mp H
 obtain ⟨t151,A40,H⟩:=H
 replace H:((za9.f (wrap64 (t145+(wrap64 (Int.tdiv (wrap64 (t147+1)) 2))))).bind fun t152=>((za9.f (wrap64 (t146+(wrap64 (Int.tdiv (wrap64 (t147+1)) 2))))).bind fun t153=>(if (wrap64 (t152 - t150))≤0 then (some (0,0,0,0)) else (if (wrap64 (t153 - t151))≤0 then (some (0,0,0,0)) else (some (t150,t151,wrap64 (t152 - t150),wrap64 (t153 - t151)))))))=some (r1,r2,r3,r4):=H
 have A4:=Aside0.mk A40
 clear A40
 replace H:=Option.bind_eq_some_iff.mp H
 obtain ⟨t152,A50,H⟩:=H
 replace H:((za9.f (wrap64 (t146+(wrap64 (Int.tdiv (wrap64 (t147+1)) 2))))).bind fun t153=>(if (wrap64 (t152 - t150))≤0 then (some (0,0,0,0)) else (if (wrap64 (t153 - t151))≤0 then (some (0,0,0,0)) else (some (t150,t151,wrap64 (t152 - t150),wrap64 (t153 - t151))))))=some (r1,r2,r3,r4):=H
 have A5:=Aside0.mk A50
 clear A50
 replace H:=Option.bind_eq_some_iff.mp H
 obtain ⟨t153,A60,H⟩:=H
 replace H:(if (wrap64 (t152 - t150))≤0 then (some (0,0,0,0)) else (if (wrap64 (t153 - t151))≤0 then (some (0,0,0,0)) else (some (t150,t151,wrap64 (t152 - t150),wrap64 (t153 - t151)))))=some (r1,r2,r3,r4):=H
 have A6:=Aside0.mk A60
 clear A60
 by_cases c7:(wrap64 (t152 - t150))≤0
 ·rw [if_pos c7] at H
  have c7b0:decide ((wrap64 (t152 - t150))≤0)=true:=decide_eq_true c7
  clear c7
  simp only [Option.some.injEq,Prod.mk.injEq] at H
  obtain ⟨rfl,rfl,rfl,rfl⟩:=H
  go_enter Try.func16,Try.ntmps16
  try go_wp2_with (first|((with_reducible refine zaA (N:=1) rfl ?_);refine zav ?hg (N:=1) ?hd (cs:=#[.int .i64 a0_0,.int .i64 a0_1,.int .i64 a0_2,.int .i64 a0_3,.int .i64 a0_4]) (t:=28) ?hr ?_;(case hd=>rfl);(case hg=>rfl);(case hr=>first|(go_simp;done)|(go_simp;rfl));intro gb143 hg w8 hbox hb;have n0_:=Aside0.mk (zad (zL HB.out) hb);have n1_:=Aside0.mk (hbox);have n2_:=Aside0.mk ((zS hg (zL HB.out):w.heap.size≤gb143));have n3_:=Aside0.mk ((zS hg (zL HB.out):w.heap.size≤gb143));clear HB;have HB:=n0_;have BK143:=n1_;have GW143:=n2_;have GE143:=n3_;clear n0_ n1_ n2_ n3_;clear hb hbox hg)|((with_reducible refine zaA (N:=2) rfl ?_);refine zav ?hg (N:=2) ?hd (cs:=#[.int .i64 0,.int .i64 0,.int .i64 0,.int .i64 0]) (t:=32) ?hr ?_;(case hd=>rfl);(case hg=>rfl);(case hr=>first|(go_simp;done)|(go_simp;rfl));intro gb144 hg w9 hbox hb;have n0_:=Aside0.mk (zaa (zB BK143.out) hb);have n1_:=Aside0.mk (zad (zL1 HB.out GE143.out) hb);have n2_:=Aside0.mk (hbox);have n3_:=Aside0.mk ((zS hg (zL1 HB.out GE143.out):w.heap.size≤gb144));have n4_:=Aside0.mk ((zS hg (zL1 HB.out GE143.out):w.heap.size≤gb144));have n5_:=Aside0.mk ((by rw [hg];exact Nat.ne_of_lt (zao (zB BK143.out)):gb143≠gb144));have n6_:=Aside0.mk ((by rw [hg];exact Nat.ne_of_gt (zao (zB BK143.out)):gb144≠gb143));clear BK143;clear HB;have BK143:=n0_;have HB:=n1_;have BK144:=n2_;have GW144:=n3_;have GE144:=n4_;have NB143_144:=n5_;have NB144_143:=n6_;clear n0_ n1_ n2_ n3_ n4_ n5_ n6_;clear hb hbox hg;have hnb10:=NB143_144.out;have hnc10:=NB144_143.out;obtain ⟨hcz11_0,hcz11_1,hcz11_2,hcz11_3,hcz11_4⟩:=zD5 BK143.out;obtain ⟨hfz11_0,hfz11_1,hfz11_2,hfz11_3,hfz11_4⟩:=zE5 BK143.out)|((with_reducible refine zal (f:=52) rfl ?_);refine goesL_ (some 10) rfl rfl Try.func52 (by kernel_rfl) rfl #[.agg #[.int .i64 a0_0,.int .i64 a0_1,.int .i64 a0_2,.int .i64 a0_3,.int .i64 a0_4]] rfl zA ?_;(with_reducible refine (za3.calls a0_0 a0_1 a0_2 a0_3 a0_4 t145 t146 t147 t148 t149 _ A2.out).mono ?_);rintro e w12 ⟨rfl,hb⟩;refine ⟨_,rfl,?_⟩;replace BK143:=Aside0.mk (zaa (zB BK143.out) hb);replace BK144:=Aside0.mk (zaa (zB BK144.out) hb);replace HB:=Aside0.mk (zad (zL2 HB.out GE143.out GE144.out) hb);(try clear hb);(try clear hb2);(try clear hk);(try clear hi);obtain ⟨hcz13_0,hcz13_1,hcz13_2,hcz13_3,hcz13_4⟩:=zD5 BK143.out;obtain ⟨hfz13_0,hfz13_1,hfz13_2,hfz13_3,hfz13_4⟩:=zE5 BK143.out))
  have n0_:Aside0 ((((((w12.setCell ⟨gb143,0,none⟩ (.int .i64 t145)).setCell ⟨gb143,1,none⟩ (.int .i64 t146)).setCell ⟨gb143,2,none⟩ (.int .i64 t147)).setCell ⟨gb143,3,none⟩ (.int .i64 t148)).setCell ⟨gb143,4,none⟩ (.int .i64 t149)).heap[gb143]? = some (.cells #[.int .i64 t145,.int .i64 t146,.int .i64 t147,.int .i64 t148,.int .i64 t149] 28 (0,0))):=⟨by refine zB ?_;refine zae (cs:=#[.int .i64 t145,.int .i64 t146,.int .i64 t147,.int .i64 t148,.int .i64 a0_4]) ?_ 4 _ rfl;refine zB ?_;refine zae (cs:=#[.int .i64 t145,.int .i64 t146,.int .i64 t147,.int .i64 a0_3,.int .i64 a0_4]) ?_ 3 _ rfl;refine zB ?_;refine zae (cs:=#[.int .i64 t145,.int .i64 t146,.int .i64 a0_2,.int .i64 a0_3,.int .i64 a0_4]) ?_ 2 _ rfl;refine zB ?_;refine zae (cs:=#[.int .i64 t145,.int .i64 a0_1,.int .i64 a0_2,.int .i64 a0_3,.int .i64 a0_4]) ?_ 1 _ rfl;refine zB ?_;refine zae (cs:=#[.int .i64 a0_0,.int .i64 a0_1,.int .i64 a0_2,.int .i64 a0_3,.int .i64 a0_4]) ?_ 0 _ rfl;refine zB ?_;exact BK143.out⟩
  have n1_:Aside0 ((((((w12.setCell ⟨gb143,0,none⟩ (.int .i64 t145)).setCell ⟨gb143,1,none⟩ (.int .i64 t146)).setCell ⟨gb143,2,none⟩ (.int .i64 t147)).setCell ⟨gb143,3,none⟩ (.int .i64 t148)).setCell ⟨gb143,4,none⟩ (.int .i64 t149)).heap[gb144]? = some (.cells #[.int .i64 0,.int .i64 0,.int .i64 0,.int .i64 0] 32 (0,0))):=⟨by refine zB ?_;refine zab ?_ NB144_143.out _;refine zB ?_;refine zab ?_ NB144_143.out _;refine zB ?_;refine zab ?_ NB144_143.out _;refine zB ?_;refine zab ?_ NB144_143.out _;refine zB ?_;refine zab ?_ NB144_143.out _;refine zB ?_;exact BK144.out⟩
  have n2_:Aside0 (Below w.heap.size w (((((w12.setCell ⟨gb143,0,none⟩ (.int .i64 t145)).setCell ⟨gb143,1,none⟩ (.int .i64 t146)).setCell ⟨gb143,2,none⟩ (.int .i64 t147)).setCell ⟨gb143,3,none⟩ (.int .i64 t148)).setCell ⟨gb143,4,none⟩ (.int .i64 t149))):=⟨by repeat (first|(with_reducible first|exact HB.out|apply zai|apply zaf|apply zag|refine zac ?_ GE143.out|refine zac ?_ GE144.out)|exact HB.out)⟩
  (try clear BK143)
  (try clear BK144)
  (try clear HB)
  generalize (((((w12.setCell ⟨gb143,0,none⟩ (.int .i64 t145)).setCell ⟨gb143,1,none⟩ (.int .i64 t146)).setCell ⟨gb143,2,none⟩ (.int .i64 t147)).setCell ⟨gb143,3,none⟩ (.int .i64 t148)).setCell ⟨gb143,4,none⟩ (.int .i64 t149))=w14 at n0_ n1_ n2_ ⊢
  have BK143:=n0_
  have BK144:=n1_
  have HB:=n2_
  clear n0_ n1_ n2_
  replace BK143:=Aside0.mk (zaK BK143.out)
  replace BK144:=Aside0.mk (zaK BK144.out)
  replace HB:=Aside0.mk (zag HB.out)
  refine start_ (n:=14) (S:=fun w'=>w'.cell? ⟨gb143,0,none⟩=some (.int .i64 t145)∧w'.cell? ⟨gb143,1,none⟩=some (.int .i64 t146)∧w'.cell? ⟨gb143,2,none⟩=some (.int .i64 t147)∧w'.cell? ⟨gb143,3,none⟩=some (.int .i64 t148)∧w'.cell? ⟨gb143,4,none⟩=some (.int .i64 t149)) (ds:=[]) #[false,false,false,false,false,false,false,false,false,false,false,false,false,false] (by kernel_rfl) rfl rfl ⟨zc BK143.out 0,zc BK143.out 1,zc BK143.out 2,zc BK143.out 3,zc BK143.out 4⟩ (fun hHeld=>?_);refine zbi za6.tab5 za6.bits5 (fun HT_ HW_=>?_)
  generalize w14.drew=w15 at BK143 BK144 HB hHeld ⊢
  refine pure_ (i:=0) (N:=some 15) (v:=?_) (a':=?_) #[true,false,false,false,false,false,false,false,false,false,false,false,false,false] rfl rfl (zap HT_.out (by kernel_rfl)) (fun _ _ _ h=>h) (Or.inl ⟨by rfl,?_⟩) ?_ ?_
  rotate_left
  ·intro w'
   go_simp
   with_reducible rfl
  rotate_left
  ·exact zP
  refine pure_ (i:=1) (N:=some 16) (v:=?_) (a':=?_) #[true,true,false,false,false,false,false,false,false,false,false,false,false,false] rfl rfl (zap HT_.out (by kernel_rfl)) (fun _ _ _ h=>h) (Or.inl ⟨by rfl,?_⟩) ?_ ?_
  rotate_left
  ·intro w'
   go_simp
   with_reducible rfl
  rotate_left
  ·exact zP
  refine pure_ (i:=3) (N:=some 18) (v:=?_) (a':=?_) #[true,true,false,true,false,false,false,false,false,false,false,false,false,false] rfl rfl (zap HT_.out (by kernel_rfl)) (fun _ _ _ h=>h) (Or.inl ⟨by rfl,?_⟩) ?_ ?_
  rotate_left
  ·intro w'
   go_simp
   with_reducible rfl
  rotate_left
  ·exact zP
  refine pure_ (i:=6) (N:=some 21) (v:=?_) (a':=?_) #[true,true,false,true,false,false,true,false,false,false,false,false,false,false] rfl rfl (zap HT_.out (by kernel_rfl)) (fun _ _ _ h=>h) (Or.inl ⟨by rfl,?_⟩) ?_ ?_
  rotate_left
  ·intro w'
   go_simp
   with_reducible rfl
  rotate_left
  ·exact zP
  refine pure_ (i:=7) (N:=some 22) (v:=?_) (a':=?_) #[true,true,false,true,false,false,true,true,false,false,false,false,false,false] rfl rfl (zap HT_.out (by kernel_rfl)) (fun _ _ _ h=>h) (Or.inl ⟨by rfl,?_⟩) ?_ ?_
  rotate_left
  ·intro w'
   go_simp
   with_reducible rfl
  rotate_left
  ·exact zP
  refine pure_ (i:=9) (N:=some 24) (v:=?_) (a':=?_) #[true,true,false,true,false,false,true,true,false,true,false,false,false,false] rfl rfl (zap HT_.out (by kernel_rfl)) (fun _ _ _ h=>h) (Or.inl ⟨by rfl,?_⟩) ?_ ?_
  rotate_left
  ·intro w'
   go_simp
   with_reducible rfl
  rotate_left
  ·exact zP
  refine take_ (i:=2) (N:=some 17) (v:=?_) (a':=?_) #[true,true,true,true,false,false,true,true,false,true,false,false,false,false] rfl rfl (zaL HT_.out HW_.out (by kernel_rfl)) (fun _ _ _ h=>h) (Or.inl ⟨by rfl,?_⟩) hHeld ?_ ?_
  rotate_left
  ·rintro w' ⟨s0,s1,s2,s3,s4⟩
   go_simp
   with_reducible rfl
  rotate_left
  ·exact zP
  refine pure_ (i:=4) (N:=some 19) (v:=?_) (a':=?_) #[true,true,true,true,true,false,true,true,false,true,false,false,false,false] rfl rfl (zap HT_.out (by kernel_rfl)) (fun _ _ _ h=>h) (Or.inl ⟨by rfl,?_⟩) ?_ ?_
  rotate_left
  ·intro w'
   go_simp
   with_reducible rfl
  rotate_left
  ·exact zP
  refine take_ (i:=8) (N:=some 23) (v:=?_) (a':=?_) #[true,true,true,true,true,false,true,true,true,true,false,false,false,false] rfl rfl (zaL HT_.out HW_.out (by kernel_rfl)) (fun _ _ _ h=>h) (Or.inl ⟨by rfl,?_⟩) hHeld ?_ ?_
  rotate_left
  ·rintro w' ⟨s0,s1,s2,s3,s4⟩
   go_simp
   with_reducible rfl
  rotate_left
  ·exact zP
  refine pure_ (i:=10) (N:=some 25) (v:=?_) (a':=?_) #[true,true,true,true,true,false,true,true,true,true,true,false,false,false] rfl rfl (zap HT_.out (by kernel_rfl)) (fun _ _ _ h=>h) (Or.inl ⟨by rfl,?_⟩) ?_ ?_
  rotate_left
  ·intro w'
   go_simp
   with_reducible rfl
  rotate_left
  ·exact zP
  refine one_ (i:=5) (N:=some 20) #[true,true,true,true,true,true,true,true,true,true,true,false,false,false] rfl rfl (zaR HT_.out (by kernel_rfl)) (by decide) (fun K hK=>?_)
  refine goesV_ Try.func53 (by kernel_rfl) rfl #[.int .i64 (wrap64 (t145 - (wrap64 (Int.tdiv (wrap64 (t147+1)) 2))))] (by rfl) rfl rfl rfl zA ?_
  with_reducible refine (zbt.calls (wrap64 (t145 - (wrap64 (Int.tdiv (wrap64 (t147+1)) 2)))) t150 _ A3.out).mono ?_
  rintro e w16 ⟨rfl,hb⟩
  refine ⟨_,rfl,?_⟩
  replace BK143:=Aside0.mk (zaa (zB BK143.out) hb)
  replace BK144:=Aside0.mk (zaa (zB BK144.out) hb)
  replace HB:=Aside0.mk (zad (zL2 HB.out GE143.out GE144.out) hb)
  (try clear hb)
  (try clear hb2)
  (try clear hk)
  (try clear hi)
  refine hK.out _ _ ⟨zc BK143.out 0,zc BK143.out 1,zc BK143.out 2,zc BK143.out 3,zc BK143.out 4⟩ (fun hHeld=>?_)
  clear hK K
  refine norm_ (a':=?_) ?_ ?_
  rotate_left
  ·show Act.put _ (some 20) _=_
   exact zP
  refine one_ (i:=11) (N:=some 26) #[true,true,true,true,true,true,true,true,true,true,true,true,false,false] rfl rfl (zaR HT_.out (by kernel_rfl)) (by decide) (fun K hK=>?_)
  refine goesV_ Try.func53 (by kernel_rfl) rfl #[.int .i64 (wrap64 (t146 - (wrap64 (Int.tdiv (wrap64 (t147+1)) 2))))] (by rfl) rfl rfl rfl zA ?_
  with_reducible refine (zbt.calls (wrap64 (t146 - (wrap64 (Int.tdiv (wrap64 (t147+1)) 2)))) t151 _ A4.out).mono ?_
  rintro e w17 ⟨rfl,hb⟩
  refine ⟨_,rfl,?_⟩
  replace BK143:=Aside0.mk (zaa (zB BK143.out) hb)
  replace BK144:=Aside0.mk (zaa (zB BK144.out) hb)
  replace HB:=Aside0.mk (zad (zL2 HB.out GE143.out GE144.out) hb)
  (try clear hb)
  (try clear hb2)
  (try clear hk)
  (try clear hi)
  refine hK.out _ _ ⟨zc BK143.out 0,zc BK143.out 1,zc BK143.out 2,zc BK143.out 3,zc BK143.out 4⟩ (fun hHeld=>?_)
  clear hK K
  refine norm_ (a':=?_) ?_ ?_
  rotate_left
  ·show Act.put _ (some 26) _=_
   exact zP
  refine pure_ (i:=12) (N:=some 6) (v:=?_) (a':=?_) #[true,true,true,true,true,true,true,true,true,true,true,true,true,false] rfl rfl (zap HT_.out (by kernel_rfl)) (fun _ _ _ h=>h) (Or.inl ⟨by rfl,?_⟩) ?_ ?_
  rotate_left
  ·intro w'
   go_simp
   with_reducible rfl
  rotate_left
  ·exact zP
  refine pure_ (i:=13) (N:=some 7) (v:=?_) (a':=?_) #[true,true,true,true,true,true,true,true,true,true,true,true,true,true] rfl rfl (zap HT_.out (by kernel_rfl)) (fun _ _ _ h=>h) (Or.inl ⟨by rfl,?_⟩) ?_ ?_
  rotate_left
  ·intro w'
   go_simp
   with_reducible rfl
  rotate_left
  ·exact zP
  refine done_ (zbr HT_.out (by kernel_rfl)) ?_
  try go_wp2
  replace BK143:=Aside0.mk (zaK BK143.out)
  replace BK144:=Aside0.mk (zaK BK144.out)
  replace HB:=Aside0.mk (zag HB.out)
  refine start_ (n:=21) (S:=fun w'=>w'.cell? ⟨gb143,0,none⟩=some (.int .i64 t145)∧w'.cell? ⟨gb143,1,none⟩=some (.int .i64 t146)∧w'.cell? ⟨gb143,2,none⟩=some (.int .i64 t147)∧w'.cell? ⟨gb143,3,none⟩=some (.int .i64 t148)∧w'.cell? ⟨gb143,4,none⟩=some (.int .i64 t149)) (ds:=[]) #[false,false,false,false,false,false,false,false,false,false,false,false,false,false,false,false,false,false,false,false,false] (by kernel_rfl) rfl rfl ⟨zc BK143.out 0,zc BK143.out 1,zc BK143.out 2,zc BK143.out 3,zc BK143.out 4⟩ (fun hHeld=>?_);refine zbi za6.tab6 za6.bits6 (fun HT_ HW_=>?_)
  generalize w17.drew=w18 at BK143 BK144 HB hHeld ⊢
  refine pure_ (i:=0) (N:=some 27) (v:=?_) (a':=?_) #[true,false,false,false,false,false,false,false,false,false,false,false,false,false,false,false,false,false,false,false,false] rfl rfl (zap HT_.out (by kernel_rfl)) (fun _ _ _ h=>h) (Or.inl ⟨by rfl,?_⟩) ?_ ?_
  rotate_left
  ·intro w'
   go_simp
   with_reducible rfl
  rotate_left
  ·exact zP
  refine pure_ (i:=1) (N:=some 28) (v:=?_) (a':=?_) #[true,true,false,false,false,false,false,false,false,false,false,false,false,false,false,false,false,false,false,false,false] rfl rfl (zap HT_.out (by kernel_rfl)) (fun _ _ _ h=>h) (Or.inl ⟨by rfl,?_⟩) ?_ ?_
  rotate_left
  ·intro w'
   go_simp
   with_reducible rfl
  rotate_left
  ·exact zP
  refine pure_ (i:=2) (N:=some 29) (v:=?_) (a':=?_) #[true,true,true,false,false,false,false,false,false,false,false,false,false,false,false,false,false,false,false,false,false] rfl rfl (zap HT_.out (by kernel_rfl)) (fun _ _ _ h=>h) (Or.inl ⟨by rfl,?_⟩) ?_ ?_
  rotate_left
  ·intro w'
   go_simp
   with_reducible rfl
  rotate_left
  ·exact zP
  refine pure_ (i:=3) (N:=some 30) (v:=?_) (a':=?_) #[true,true,true,true,false,false,false,false,false,false,false,false,false,false,false,false,false,false,false,false,false] rfl rfl (zap HT_.out (by kernel_rfl)) (fun _ _ _ h=>h) (Or.inl ⟨by rfl,?_⟩) ?_ ?_
  rotate_left
  ·intro w'
   go_simp
   with_reducible rfl
  rotate_left
  ·exact zP
  refine pure_ (i:=5) (N:=some 32) (v:=?_) (a':=?_) #[true,true,true,true,false,true,false,false,false,false,false,false,false,false,false,false,false,false,false,false,false] rfl rfl (zap HT_.out (by kernel_rfl)) (fun _ _ _ h=>h) (Or.inl ⟨by rfl,?_⟩) ?_ ?_
  rotate_left
  ·intro w'
   go_simp
   with_reducible rfl
  rotate_left
  ·exact zP
  refine pure_ (i:=8) (N:=some 35) (v:=?_) (a':=?_) #[true,true,true,true,false,true,false,false,true,false,false,false,false,false,false,false,false,false,false,false,false] rfl rfl (zap HT_.out (by kernel_rfl)) (fun _ _ _ h=>h) (Or.inl ⟨by rfl,?_⟩) ?_ ?_
  rotate_left
  ·intro w'
   go_simp
   with_reducible rfl
  rotate_left
  ·exact zP
  refine pure_ (i:=10) (N:=some 37) (v:=?_) (a':=?_) #[true,true,true,true,false,true,false,false,true,false,true,false,false,false,false,false,false,false,false,false,false] rfl rfl (zap HT_.out (by kernel_rfl)) (fun _ _ _ h=>h) (Or.inl ⟨by rfl,?_⟩) ?_ ?_
  rotate_left
  ·intro w'
   go_simp
   with_reducible rfl
  rotate_left
  ·exact zP
  refine pure_ (i:=11) (N:=some 38) (v:=?_) (a':=?_) #[true,true,true,true,false,true,false,false,true,false,true,true,false,false,false,false,false,false,false,false,false] rfl rfl (zap HT_.out (by kernel_rfl)) (fun _ _ _ h=>h) (Or.inl ⟨by rfl,?_⟩) ?_ ?_
  rotate_left
  ·intro w'
   go_simp
   with_reducible rfl
  rotate_left
  ·exact zP
  refine pure_ (i:=13) (N:=some 40) (v:=?_) (a':=?_) #[true,true,true,true,false,true,false,false,true,false,true,true,false,true,false,false,false,false,false,false,false] rfl rfl (zap HT_.out (by kernel_rfl)) (fun _ _ _ h=>h) (Or.inl ⟨by rfl,?_⟩) ?_ ?_
  rotate_left
  ·intro w'
   go_simp
   with_reducible rfl
  rotate_left
  ·exact zP
  refine pure_ (i:=16) (N:=some 43) (v:=?_) (a':=?_) #[true,true,true,true,false,true,false,false,true,false,true,true,false,true,false,false,true,false,false,false,false] rfl rfl (zap HT_.out (by kernel_rfl)) (fun _ _ _ h=>h) (Or.inl ⟨by rfl,?_⟩) ?_ ?_
  rotate_left
  ·intro w'
   go_simp
   with_reducible rfl
  rotate_left
  ·exact zP
  refine take_ (i:=4) (N:=some 31) (v:=?_) (a':=?_) #[true,true,true,true,true,true,false,false,true,false,true,true,false,true,false,false,true,false,false,false,false] rfl rfl (zaL HT_.out HW_.out (by kernel_rfl)) (fun _ _ _ h=>h) (Or.inl ⟨by rfl,?_⟩) hHeld ?_ ?_
  rotate_left
  ·rintro w' ⟨s0,s1,s2,s3,s4⟩
   go_simp
   with_reducible rfl
  rotate_left
  ·exact zP
  refine pure_ (i:=6) (N:=some 33) (v:=?_) (a':=?_) #[true,true,true,true,true,true,true,false,true,false,true,true,false,true,false,false,true,false,false,false,false] rfl rfl (zap HT_.out (by kernel_rfl)) (fun _ _ _ h=>h) (Or.inl ⟨by rfl,?_⟩) ?_ ?_
  rotate_left
  ·intro w'
   go_simp
   with_reducible rfl
  rotate_left
  ·exact zP
  refine take_ (i:=12) (N:=some 39) (v:=?_) (a':=?_) #[true,true,true,true,true,true,true,false,true,false,true,true,true,true,false,false,true,false,false,false,false] rfl rfl (zaL HT_.out HW_.out (by kernel_rfl)) (fun _ _ _ h=>h) (Or.inl ⟨by rfl,?_⟩) hHeld ?_ ?_
  rotate_left
  ·rintro w' ⟨s0,s1,s2,s3,s4⟩
   go_simp
   with_reducible rfl
  rotate_left
  ·exact zP
  refine pure_ (i:=14) (N:=some 41) (v:=?_) (a':=?_) #[true,true,true,true,true,true,true,false,true,false,true,true,true,true,true,false,true,false,false,false,false] rfl rfl (zap HT_.out (by kernel_rfl)) (fun _ _ _ h=>h) (Or.inl ⟨by rfl,?_⟩) ?_ ?_
  rotate_left
  ·intro w'
   go_simp
   with_reducible rfl
  rotate_left
  ·exact zP
  refine join_ (σ:=Nat) 1 #[true,true,true,true,true,true,true,true,true,true,true,true,true,true,true,true,true,true,true,true,false] (fun s_=>[(34,.int .i64 t152),(42,.int .i64 t153),(8,.pointer (some ⟨s_,0,none⟩)),(36,.int .i64 (wrap64 (t152 - t150))),(44,.int .i64 (wrap64 (t153 - t151))),(45,.agg #[.int .i64 t150,.int .i64 t151,.int .i64 (wrap64 (t152 - t150)),.int .i64 (wrap64 (t153 - t151))])]) (fun s_ w'=>(w'.cell? ⟨gb143,0,none⟩=some (.int .i64 t145)∧w'.cell? ⟨gb143,1,none⟩=some (.int .i64 t146)∧w'.cell? ⟨gb143,2,none⟩=some (.int .i64 t147)∧w'.cell? ⟨gb143,3,none⟩=some (.int .i64 t148)∧w'.cell? ⟨gb143,4,none⟩=some (.int .i64 t149))∧(w'.heap[gb143]? = some (.cells #[.int .i64 t145,.int .i64 t146,.int .i64 t147,.int .i64 t148,.int .i64 t149] 28 (0,0)))∧(w'.heap[gb144]? = some (.cells #[.int .i64 0,.int .i64 0,.int .i64 0,.int .i64 0] 32 (0,0)))∧(w'.heap[s_]? = some (.cells #[.int .i64 0,.int .i64 0,.int .i64 0,.int .i64 0] 32 (0,0)))∧(w.heap.size≤s_)∧(w.heap.size≤s_)∧(gb143≠s_)∧(s_≠gb143)∧(gb144≠s_)∧(s_≠gb144)∧(Below w.heap.size w w')) ?_ ?_
  rotate_left
  ·intro hCont
   refine two_ (i:=7) (j:=19) (Ni:=some 34) (Nj:=some 8) #[true,true,true,true,true,true,true,true,true,false,true,true,true,true,true,false,true,false,false,false,false] #[true,true,true,true,true,true,true,false,true,false,true,true,true,true,true,false,true,false,false,true,false] rfl rfl rfl rfl (two_of HT_.out (by kernel_rfl)) (by decide) (by decide) (fun K hK=>?_) (fun K hK=>?_)
   ·skip
    refine goesV_ Try.func56 (by kernel_rfl) rfl #[.int .i64 (wrap64 (t145+(wrap64 (Int.tdiv (wrap64 (t147+1)) 2))))] (by rfl) rfl rfl rfl zA ?_
    with_reducible refine (za9.calls (wrap64 (t145+(wrap64 (Int.tdiv (wrap64 (t147+1)) 2)))) t152 _ A5.out).mono ?_
    rintro e w19 ⟨rfl,hb⟩
    refine ⟨_,rfl,?_⟩
    replace BK143:=Aside0.mk (zaa (zB BK143.out) hb)
    replace BK144:=Aside0.mk (zaa (zB BK144.out) hb)
    replace HB:=Aside0.mk (zad (zL2 HB.out GE143.out GE144.out) hb)
    (try clear hb)
    (try clear hb2)
    (try clear hk)
    (try clear hi)
    refine hK.out _ _ ⟨zc BK143.out 0,zc BK143.out 1,zc BK143.out 2,zc BK143.out 3,zc BK143.out 4⟩ (fun hHeld=>?_)
    clear hK K
    refine norm_ (a':=?_) ?_ ?_
    rotate_left
    ·show Act.put _ (some 34) _=_
     exact zP
    refine pure_ (i:=9) (N:=some 36) (v:=?_) (a':=?_) #[true,true,true,true,true,true,true,true,true,true,true,true,true,true,true,false,true,false,false,false,false] rfl rfl (zap HT_.out (by kernel_rfl)) (fun _ _ _ h=>h) (Or.inl ⟨by rfl,?_⟩) ?_ ?_
    rotate_left
    ·intro w'
     go_simp
     with_reducible rfl
    rotate_left
    ·exact zP
    refine two_ (i:=15) (j:=19) (Ni:=some 42) (Nj:=some 8) #[true,true,true,true,true,true,true,true,true,true,true,true,true,true,true,true,true,false,false,false,false] #[true,true,true,true,true,true,true,true,true,true,true,true,true,true,true,false,true,false,false,true,false] rfl rfl rfl rfl (two_of HT_.out (by kernel_rfl)) (by decide) (by decide) (fun K hK=>?_) (fun K hK=>?_)
    ·skip
     refine goesV_ Try.func56 (by kernel_rfl) rfl #[.int .i64 (wrap64 (t146+(wrap64 (Int.tdiv (wrap64 (t147+1)) 2))))] (by rfl) rfl rfl rfl zA ?_
     with_reducible refine (za9.calls (wrap64 (t146+(wrap64 (Int.tdiv (wrap64 (t147+1)) 2)))) t153 _ A6.out).mono ?_
     rintro e w20 ⟨rfl,hb⟩
     refine ⟨_,rfl,?_⟩
     replace BK143:=Aside0.mk (zaa (zB BK143.out) hb)
     replace BK144:=Aside0.mk (zaa (zB BK144.out) hb)
     replace HB:=Aside0.mk (zad (zL2 HB.out GE143.out GE144.out) hb)
     (try clear hb)
     (try clear hb2)
     (try clear hk)
     (try clear hi)
     refine hK.out _ _ ⟨zc BK143.out 0,zc BK143.out 1,zc BK143.out 2,zc BK143.out 3,zc BK143.out 4⟩ (fun hHeld=>?_)
     clear hK K
     refine norm_ (a':=?_) ?_ ?_
     rotate_left
     ·show Act.put _ (some 42) _=_
      exact zP
     refine pure_ (i:=17) (N:=some 44) (v:=?_) (a':=?_) #[true,true,true,true,true,true,true,true,true,true,true,true,true,true,true,true,true,true,false,false,false] rfl rfl (zap HT_.out (by kernel_rfl)) (fun _ _ _ h=>h) (Or.inl ⟨by rfl,?_⟩) ?_ ?_
     rotate_left
     ·intro w'
      go_simp
      with_reducible rfl
     rotate_left
     ·exact zP
     refine pure_ (i:=18) (N:=some 45) (v:=?_) (a':=?_) #[true,true,true,true,true,true,true,true,true,true,true,true,true,true,true,true,true,true,true,false,false] rfl rfl (zap HT_.out (by kernel_rfl)) (fun _ _ _ h=>h) (Or.inl ⟨by rfl,?_⟩) ?_ ?_
     rotate_left
     ·intro w'
      go_simp
      with_reducible rfl
     rotate_left
     ·exact zP
     refine one_ (i:=19) (N:=some 8) #[true,true,true,true,true,true,true,true,true,true,true,true,true,true,true,true,true,true,true,true,false] rfl rfl (zaR HT_.out (by kernel_rfl)) (by decide) (fun K hK=>?_)
     refine box_step ?hg (N:=8) ?hd (cs:=#[.int .i64 0,.int .i64 0,.int .i64 0,.int .i64 0]) (t:=32) ?hr ?_;(case hd=>rfl);(case hg=>rfl);(case hr=>first|(go_simp;done)|(go_simp;rfl))
     intro gb154 hg w21 hbox hb
     have n0_:=Aside0.mk (zaa (zB BK143.out) hb)
     have n1_:=Aside0.mk (zaa (zB BK144.out) hb)
     have n2_:=Aside0.mk (zad (zL2 HB.out GE143.out GE144.out) hb)
     have n3_:=Aside0.mk (hbox)
     have n4_:=Aside0.mk ((zS hg (zL2 HB.out GE143.out GE144.out):w.heap.size≤gb154))
     have n5_:=Aside0.mk ((zS hg (zL2 HB.out GE143.out GE144.out):w.heap.size≤gb154))
     have n6_:=Aside0.mk ((by rw [hg];exact Nat.ne_of_lt (zao (zB BK143.out)):gb143≠gb154))
     have n7_:=Aside0.mk ((by rw [hg];exact Nat.ne_of_gt (zao (zB BK143.out)):gb154≠gb143))
     have n8_:=Aside0.mk ((by rw [hg];exact Nat.ne_of_lt (zao (zB BK144.out)):gb144≠gb154))
     have n9_:=Aside0.mk ((by rw [hg];exact Nat.ne_of_gt (zao (zB BK144.out)):gb154≠gb144))
     clear BK143
     clear BK144
     clear HB
     have BK143:=n0_
     have BK144:=n1_
     have HB:=n2_
     have BK154:=n3_
     have GW154:=n4_
     have GE154:=n5_
     have NB143_154:=n6_
     have NB154_143:=n7_
     have NB144_154:=n8_
     have NB154_144:=n9_
     clear n0_ n1_ n2_ n3_ n4_ n5_ n6_ n7_ n8_ n9_
     clear hb hbox hg
     refine hK.out _ _ ⟨zc BK143.out 0,zc BK143.out 1,zc BK143.out 2,zc BK143.out 3,zc BK143.out 4⟩ (fun hHeld=>?_)
     clear hK K
     refine norm_ (a':=?_) ?_ ?_
     rotate_left
     ·show Act.put _ (some 8) _=_
      exact zP
     exact norm_ (by simp only [putAll,Act.put,List.setIfInBounds_toArray,List.set_cons_zero,List.set_cons_succ]) (hCont (gb154) _ ⟨hHeld,(zB BK143.out),(zB BK144.out),(zB BK154.out),GW154.out,GE154.out,NB143_154.out,NB154_143.out,NB144_154.out,NB154_144.out,(zL3 HB.out GE143.out GE144.out GE154.out)⟩)
    ·skip
     refine box_step ?hg (N:=8) ?hd (cs:=#[.int .i64 0,.int .i64 0,.int .i64 0,.int .i64 0]) (t:=32) ?hr ?_;(case hd=>rfl);(case hg=>rfl);(case hr=>first|(go_simp;done)|(go_simp;rfl))
     intro gb154 hg w20 hbox hb
     have n0_:=Aside0.mk (zaa (zB BK143.out) hb)
     have n1_:=Aside0.mk (zaa (zB BK144.out) hb)
     have n2_:=Aside0.mk (zad (zL2 HB.out GE143.out GE144.out) hb)
     have n3_:=Aside0.mk (hbox)
     have n4_:=Aside0.mk ((zS hg (zL2 HB.out GE143.out GE144.out):w.heap.size≤gb154))
     have n5_:=Aside0.mk ((zS hg (zL2 HB.out GE143.out GE144.out):w.heap.size≤gb154))
     have n6_:=Aside0.mk ((by rw [hg];exact Nat.ne_of_lt (zao (zB BK143.out)):gb143≠gb154))
     have n7_:=Aside0.mk ((by rw [hg];exact Nat.ne_of_gt (zao (zB BK143.out)):gb154≠gb143))
     have n8_:=Aside0.mk ((by rw [hg];exact Nat.ne_of_lt (zao (zB BK144.out)):gb144≠gb154))
     have n9_:=Aside0.mk ((by rw [hg];exact Nat.ne_of_gt (zao (zB BK144.out)):gb154≠gb144))
     clear BK143
     clear BK144
     clear HB
     have BK143:=n0_
     have BK144:=n1_
     have HB:=n2_
     have BK154:=n3_
     have GW154:=n4_
     have GE154:=n5_
     have NB143_154:=n6_
     have NB154_143:=n7_
     have NB144_154:=n8_
     have NB154_144:=n9_
     clear n0_ n1_ n2_ n3_ n4_ n5_ n6_ n7_ n8_ n9_
     clear hb hbox hg
     refine hK.out _ _ ⟨zc BK143.out 0,zc BK143.out 1,zc BK143.out 2,zc BK143.out 3,zc BK143.out 4⟩ (fun hHeld=>?_)
     clear hK K
     refine norm_ (a':=?_) ?_ ?_
     rotate_left
     ·show Act.put _ (some 8) _=_
      exact zP
     refine one_ (i:=15) (N:=some 42) #[true,true,true,true,true,true,true,true,true,true,true,true,true,true,true,true,true,false,false,true,false] rfl rfl (zaR HT_.out (by kernel_rfl)) (by decide) (fun K hK=>?_)
     refine goesV_ Try.func56 (by kernel_rfl) rfl #[.int .i64 (wrap64 (t146+(wrap64 (Int.tdiv (wrap64 (t147+1)) 2))))] (by rfl) rfl rfl rfl zA ?_
     with_reducible refine (za9.calls (wrap64 (t146+(wrap64 (Int.tdiv (wrap64 (t147+1)) 2)))) t153 _ A6.out).mono ?_
     rintro e w21 ⟨rfl,hb⟩
     refine ⟨_,rfl,?_⟩
     replace BK143:=Aside0.mk (zaa (zB BK143.out) hb)
     replace BK144:=Aside0.mk (zaa (zB BK144.out) hb)
     replace BK154:=Aside0.mk (zaa (zB BK154.out) hb)
     replace HB:=Aside0.mk (zad (zL3 HB.out GE143.out GE144.out GE154.out) hb)
     (try clear hb)
     (try clear hb2)
     (try clear hk)
     (try clear hi)
     refine hK.out _ _ ⟨zc BK143.out 0,zc BK143.out 1,zc BK143.out 2,zc BK143.out 3,zc BK143.out 4⟩ (fun hHeld=>?_)
     clear hK K
     refine norm_ (a':=?_) ?_ ?_
     rotate_left
     ·show Act.put _ (some 42) _=_
      exact zP
     refine pure_ (i:=17) (N:=some 44) (v:=?_) (a':=?_) #[true,true,true,true,true,true,true,true,true,true,true,true,true,true,true,true,true,true,false,true,false] rfl rfl (zap HT_.out (by kernel_rfl)) (fun _ _ _ h=>h) (Or.inl ⟨by rfl,?_⟩) ?_ ?_
     rotate_left
     ·intro w'
      go_simp
      with_reducible rfl
     rotate_left
     ·exact zP
     refine pure_ (i:=18) (N:=some 45) (v:=?_) (a':=?_) #[true,true,true,true,true,true,true,true,true,true,true,true,true,true,true,true,true,true,true,true,false] rfl rfl (zap HT_.out (by kernel_rfl)) (fun _ _ _ h=>h) (Or.inl ⟨by rfl,?_⟩) ?_ ?_
     rotate_left
     ·intro w'
      go_simp
      with_reducible rfl
     rotate_left
     ·exact zP
     exact norm_ (by simp only [putAll,Act.put,List.setIfInBounds_toArray,List.set_cons_zero,List.set_cons_succ]) (hCont (gb154) _ ⟨hHeld,(zB BK143.out),(zB BK144.out),(zB BK154.out),GW154.out,GE154.out,NB143_154.out,NB154_143.out,NB144_154.out,NB154_144.out,(zL3 HB.out GE143.out GE144.out GE154.out)⟩)
   ·skip
    refine box_step ?hg (N:=8) ?hd (cs:=#[.int .i64 0,.int .i64 0,.int .i64 0,.int .i64 0]) (t:=32) ?hr ?_;(case hd=>rfl);(case hg=>rfl);(case hr=>first|(go_simp;done)|(go_simp;rfl))
    intro gb154 hg w19 hbox hb
    have n0_:=Aside0.mk (zaa (zB BK143.out) hb)
    have n1_:=Aside0.mk (zaa (zB BK144.out) hb)
    have n2_:=Aside0.mk (zad (zL2 HB.out GE143.out GE144.out) hb)
    have n3_:=Aside0.mk (hbox)
    have n4_:=Aside0.mk ((zS hg (zL2 HB.out GE143.out GE144.out):w.heap.size≤gb154))
    have n5_:=Aside0.mk ((zS hg (zL2 HB.out GE143.out GE144.out):w.heap.size≤gb154))
    have n6_:=Aside0.mk ((by rw [hg];exact Nat.ne_of_lt (zao (zB BK143.out)):gb143≠gb154))
    have n7_:=Aside0.mk ((by rw [hg];exact Nat.ne_of_gt (zao (zB BK143.out)):gb154≠gb143))
    have n8_:=Aside0.mk ((by rw [hg];exact Nat.ne_of_lt (zao (zB BK144.out)):gb144≠gb154))
    have n9_:=Aside0.mk ((by rw [hg];exact Nat.ne_of_gt (zao (zB BK144.out)):gb154≠gb144))
    clear BK143
    clear BK144
    clear HB
    have BK143:=n0_
    have BK144:=n1_
    have HB:=n2_
    have BK154:=n3_
    have GW154:=n4_
    have GE154:=n5_
    have NB143_154:=n6_
    have NB154_143:=n7_
    have NB144_154:=n8_
    have NB154_144:=n9_
    clear n0_ n1_ n2_ n3_ n4_ n5_ n6_ n7_ n8_ n9_
    clear hb hbox hg
    refine hK.out _ _ ⟨zc BK143.out 0,zc BK143.out 1,zc BK143.out 2,zc BK143.out 3,zc BK143.out 4⟩ (fun hHeld=>?_)
    clear hK K
    refine norm_ (a':=?_) ?_ ?_
    rotate_left
    ·show Act.put _ (some 8) _=_
     exact zP
    refine one_ (i:=7) (N:=some 34) #[true,true,true,true,true,true,true,true,true,false,true,true,true,true,true,false,true,false,false,true,false] rfl rfl (zaR HT_.out (by kernel_rfl)) (by decide) (fun K hK=>?_)
    refine goesV_ Try.func56 (by kernel_rfl) rfl #[.int .i64 (wrap64 (t145+(wrap64 (Int.tdiv (wrap64 (t147+1)) 2))))] (by rfl) rfl rfl rfl zA ?_
    with_reducible refine (za9.calls (wrap64 (t145+(wrap64 (Int.tdiv (wrap64 (t147+1)) 2)))) t152 _ A5.out).mono ?_
    rintro e w20 ⟨rfl,hb⟩
    refine ⟨_,rfl,?_⟩
    replace BK143:=Aside0.mk (zaa (zB BK143.out) hb)
    replace BK144:=Aside0.mk (zaa (zB BK144.out) hb)
    replace BK154:=Aside0.mk (zaa (zB BK154.out) hb)
    replace HB:=Aside0.mk (zad (zL3 HB.out GE143.out GE144.out GE154.out) hb)
    (try clear hb)
    (try clear hb2)
    (try clear hk)
    (try clear hi)
    refine hK.out _ _ ⟨zc BK143.out 0,zc BK143.out 1,zc BK143.out 2,zc BK143.out 3,zc BK143.out 4⟩ (fun hHeld=>?_)
    clear hK K
    refine norm_ (a':=?_) ?_ ?_
    rotate_left
    ·show Act.put _ (some 34) _=_
     exact zP
    refine pure_ (i:=9) (N:=some 36) (v:=?_) (a':=?_) #[true,true,true,true,true,true,true,true,true,true,true,true,true,true,true,false,true,false,false,true,false] rfl rfl (zap HT_.out (by kernel_rfl)) (fun _ _ _ h=>h) (Or.inl ⟨by rfl,?_⟩) ?_ ?_
    rotate_left
    ·intro w'
     go_simp
     with_reducible rfl
    rotate_left
    ·exact zP
    refine one_ (i:=15) (N:=some 42) #[true,true,true,true,true,true,true,true,true,true,true,true,true,true,true,true,true,false,false,true,false] rfl rfl (zaR HT_.out (by kernel_rfl)) (by decide) (fun K hK=>?_)
    refine goesV_ Try.func56 (by kernel_rfl) rfl #[.int .i64 (wrap64 (t146+(wrap64 (Int.tdiv (wrap64 (t147+1)) 2))))] (by rfl) rfl rfl rfl zA ?_
    with_reducible refine (za9.calls (wrap64 (t146+(wrap64 (Int.tdiv (wrap64 (t147+1)) 2)))) t153 _ A6.out).mono ?_
    rintro e w21 ⟨rfl,hb⟩
    refine ⟨_,rfl,?_⟩
    replace BK143:=Aside0.mk (zaa (zB BK143.out) hb)
    replace BK144:=Aside0.mk (zaa (zB BK144.out) hb)
    replace BK154:=Aside0.mk (zaa (zB BK154.out) hb)
    replace HB:=Aside0.mk (zad (zL3 HB.out GE143.out GE144.out GE154.out) hb)
    (try clear hb)
    (try clear hb2)
    (try clear hk)
    (try clear hi)
    refine hK.out _ _ ⟨zc BK143.out 0,zc BK143.out 1,zc BK143.out 2,zc BK143.out 3,zc BK143.out 4⟩ (fun hHeld=>?_)
    clear hK K
    refine norm_ (a':=?_) ?_ ?_
    rotate_left
    ·show Act.put _ (some 42) _=_
     exact zP
    refine pure_ (i:=17) (N:=some 44) (v:=?_) (a':=?_) #[true,true,true,true,true,true,true,true,true,true,true,true,true,true,true,true,true,true,false,true,false] rfl rfl (zap HT_.out (by kernel_rfl)) (fun _ _ _ h=>h) (Or.inl ⟨by rfl,?_⟩) ?_ ?_
    rotate_left
    ·intro w'
     go_simp
     with_reducible rfl
    rotate_left
    ·exact zP
    refine pure_ (i:=18) (N:=some 45) (v:=?_) (a':=?_) #[true,true,true,true,true,true,true,true,true,true,true,true,true,true,true,true,true,true,true,true,false] rfl rfl (zap HT_.out (by kernel_rfl)) (fun _ _ _ h=>h) (Or.inl ⟨by rfl,?_⟩) ?_ ?_
    rotate_left
    ·intro w'
     go_simp
     with_reducible rfl
    rotate_left
    ·exact zP
    exact norm_ (by simp only [putAll,Act.put,List.setIfInBounds_toArray,List.set_cons_zero,List.set_cons_succ]) (hCont (gb154) _ ⟨hHeld,(zB BK143.out),(zB BK144.out),(zB BK154.out),GW154.out,GE154.out,NB143_154.out,NB154_143.out,NB144_154.out,NB154_144.out,(zL3 HB.out GE143.out GE144.out GE154.out)⟩)
  rintro gb154 w22 ⟨hS_,h0_,h1_,h2_,h3_,h4_,h5_,h6_,h7_,h8_,h9_⟩
  have n0_:Aside0 (w22.heap[gb143]? = some (.cells #[.int .i64 t145,.int .i64 t146,.int .i64 t147,.int .i64 t148,.int .i64 t149] 28 (0,0))):=⟨h0_⟩
  have n1_:Aside0 (w22.heap[gb144]? = some (.cells #[.int .i64 0,.int .i64 0,.int .i64 0,.int .i64 0] 32 (0,0))):=⟨h1_⟩
  have n2_:Aside0 (w22.heap[gb154]? = some (.cells #[.int .i64 0,.int .i64 0,.int .i64 0,.int .i64 0] 32 (0,0))):=⟨h2_⟩
  have n3_:Aside0 (w.heap.size≤gb154):=⟨h3_⟩
  have n4_:Aside0 (w.heap.size≤gb154):=⟨h4_⟩
  have n5_:Aside0 (gb143≠gb154):=⟨h5_⟩
  have n6_:Aside0 (gb154≠gb143):=⟨h6_⟩
  have n7_:Aside0 (gb144≠gb154):=⟨h7_⟩
  have n8_:Aside0 (gb154≠gb144):=⟨h8_⟩
  have n9_:Aside0 (Below w.heap.size w w22):=⟨h9_⟩
  clear BK143
  clear BK144
  clear HB
  clear h0_ h1_ h2_ h3_ h4_ h5_ h6_ h7_ h8_ h9_
  have BK143:=n0_
  have BK144:=n1_
  have BK154:=n2_
  have GW154:=n3_
  have GE154:=n4_
  have NB143_154:=n5_
  have NB154_143:=n6_
  have NB144_154:=n7_
  have NB154_144:=n8_
  have HB:=n9_
  clear n0_ n1_ n2_ n3_ n4_ n5_ n6_ n7_ n8_ n9_
  have hHeld:w22.cell? ⟨gb143,0,none⟩=some (.int .i64 t145)∧w22.cell? ⟨gb143,1,none⟩=some (.int .i64 t146)∧w22.cell? ⟨gb143,2,none⟩=some (.int .i64 t147)∧w22.cell? ⟨gb143,3,none⟩=some (.int .i64 t148)∧w22.cell? ⟨gb143,4,none⟩=some (.int .i64 t149):=hS_
  refine norm_ (a':=?_) ?_ ?_
  rotate_left
  ·simp only [putAll,Act.put,List.setIfInBounds_toArray,List.set_cons_zero,List.set_cons_succ]
   rfl
  refine one_ (i:=20) (N:=none) #[true,true,true,true,true,true,true,true,true,true,true,true,true,true,true,true,true,true,true,true,true] rfl rfl (zaR HT_.out (by kernel_rfl)) (by decide) (fun K hK=>?_)
  have hs23:w22.cell? ⟨gb154,0,none⟩=some (.int .i64 0):=zc BK154.out 0
  have hfs23:=zaB BK154.out 0
  have hns23_0:=NB143_154.out
  have hns23_1:=NB144_154.out
  have hms23_0:=NB154_143.out
  have hms23_1:=NB154_144.out
  have hs24:w22.cell? ⟨gb154,1,none⟩=some (.int .i64 0):=zc BK154.out 1
  have hfs24:=zaB BK154.out 1
  have hns24_0:=NB143_154.out
  have hns24_1:=NB144_154.out
  have hms24_0:=NB154_143.out
  have hms24_1:=NB154_144.out
  have hs25:w22.cell? ⟨gb154,2,none⟩=some (.int .i64 0):=zc BK154.out 2
  have hfs25:=zaB BK154.out 2
  have hns25_0:=NB143_154.out
  have hns25_1:=NB144_154.out
  have hms25_0:=NB154_143.out
  have hms25_1:=NB154_144.out
  have hs26:w22.cell? ⟨gb154,3,none⟩=some (.int .i64 0):=zc BK154.out 3
  have hfs26:=zaB BK154.out 3
  have hns26_0:=NB143_154.out
  have hns26_1:=NB144_154.out
  have hms26_0:=NB154_143.out
  have hms26_1:=NB154_144.out
  refine skip_ (w1:=?_) (by rfl) rfl ?_ ?_
  rotate_left
  ·go_simp
   rfl
  refine hK.out _ _ ⟨((zar (p:=⟨gb154,_,none⟩) NB143_154.out _).trans (((zar (p:=⟨gb154,_,none⟩) NB143_154.out _).trans (((zar (p:=⟨gb154,_,none⟩) NB143_154.out _).trans (((zar (p:=⟨gb154,_,none⟩) NB143_154.out _).trans (hHeld.1)))))))),((zar (p:=⟨gb154,_,none⟩) NB143_154.out _).trans (((zar (p:=⟨gb154,_,none⟩) NB143_154.out _).trans (((zar (p:=⟨gb154,_,none⟩) NB143_154.out _).trans (((zar (p:=⟨gb154,_,none⟩) NB143_154.out _).trans (hHeld.2.1)))))))),((zar (p:=⟨gb154,_,none⟩) NB143_154.out _).trans (((zar (p:=⟨gb154,_,none⟩) NB143_154.out _).trans (((zar (p:=⟨gb154,_,none⟩) NB143_154.out _).trans (((zar (p:=⟨gb154,_,none⟩) NB143_154.out _).trans (hHeld.2.2.1)))))))),((zar (p:=⟨gb154,_,none⟩) NB143_154.out _).trans (((zar (p:=⟨gb154,_,none⟩) NB143_154.out _).trans (((zar (p:=⟨gb154,_,none⟩) NB143_154.out _).trans (((zar (p:=⟨gb154,_,none⟩) NB143_154.out _).trans (hHeld.2.2.2.1)))))))),((zar (p:=⟨gb154,_,none⟩) NB143_154.out _).trans (((zar (p:=⟨gb154,_,none⟩) NB143_154.out _).trans (((zar (p:=⟨gb154,_,none⟩) NB143_154.out _).trans (((zar (p:=⟨gb154,_,none⟩) NB143_154.out _).trans (hHeld.2.2.2.2))))))))⟩ (fun hHeld=>?_)
  clear hK K
  refine done_ (zbr HT_.out (by kernel_rfl)) ?_
  have hnb27:=NB154_143.out
  have hnc27:=NB143_154.out
  have hnb28:=NB154_144.out
  have hnc28:=NB144_154.out
  obtain ⟨hcz29_0,hcz29_1,hcz29_2,hcz29_3⟩:=zD4 BK154.out
  obtain ⟨hfz29_0,hfz29_1,hfz29_2,hfz29_3⟩:=zE4 BK154.out
  obtain ⟨hcz30_0,hcz30_1,hcz30_2,hcz30_3⟩:=zD4 BK144.out
  obtain ⟨hfz30_0,hfz30_1,hfz30_2,hfz30_3⟩:=zE4 BK144.out
  try go_wp2
  refine bodyPost_ret (results_cell_row rfl _ _ gb144 32 #[.int .i64 0,.int .i64 0,.int .i64 0,.int .i64 0] (0,0) _ rfl (by refine zB ?_;refine zae (cs:=#[.int .i64 0,.int .i64 0,.int .i64 0,.int .i64 0]) ?_ 3 _ rfl;refine zB ?_;refine zae (cs:=#[.int .i64 0,.int .i64 0,.int .i64 0,.int .i64 0]) ?_ 2 _ rfl;refine zB ?_;refine zae (cs:=#[.int .i64 0,.int .i64 0,.int .i64 0,.int .i64 0]) ?_ 1 _ rfl;refine zB ?_;refine zae (cs:=#[.int .i64 0,.int .i64 0,.int .i64 0,.int .i64 0]) ?_ 0 _ rfl;refine zB ?_;refine zab ?_ NB144_154.out _;refine zB ?_;refine zab ?_ NB144_154.out _;refine zB ?_;refine zab ?_ NB144_154.out _;refine zB ?_;refine zab ?_ NB144_154.out _;refine zB ?_;exact BK144.out) Try.underlying32 rfl (by kernel_rfl)) rfl ?_
  exact ⟨by first|rfl|(simp [errW_none,errW_some] <;> rfl)|(simp [*,errW_none,errW_some] <;> rfl),by repeat (first|(with_reducible first|exact HB.out|apply zai|apply zaf|apply zag|refine zac ?_ GE143.out|refine zac ?_ GE144.out|refine zac ?_ GE154.out)|exact HB.out)⟩
 ·rw [if_neg c7] at H
  have c7b0:decide ((wrap64 (t152 - t150))≤0)=false:=decide_eq_false c7
  clear c7
  by_cases c31:(wrap64 (t153 - t151))≤0
  ·rw [if_pos c31] at H
   have c31b0:decide ((wrap64 (t153 - t151))≤0)=true:=decide_eq_true c31
   clear c31
   simp only [Option.some.injEq,Prod.mk.injEq] at H
   obtain ⟨rfl,rfl,rfl,rfl⟩:=H
   go_enter Try.func16,Try.ntmps16
   try go_wp2_with (first|((with_reducible refine zaA (N:=1) rfl ?_);refine zav ?hg (N:=1) ?hd (cs:=#[.int .i64 a0_0,.int .i64 a0_1,.int .i64 a0_2,.int .i64 a0_3,.int .i64 a0_4]) (t:=28) ?hr ?_;(case hd=>rfl);(case hg=>rfl);(case hr=>first|(go_simp;done)|(go_simp;rfl));intro gb143 hg w32 hbox hb;have n0_:=Aside0.mk (zad (zL HB.out) hb);have n1_:=Aside0.mk (hbox);have n2_:=Aside0.mk ((zS hg (zL HB.out):w.heap.size≤gb143));have n3_:=Aside0.mk ((zS hg (zL HB.out):w.heap.size≤gb143));clear HB;have HB:=n0_;have BK143:=n1_;have GW143:=n2_;have GE143:=n3_;clear n0_ n1_ n2_ n3_;clear hb hbox hg)|((with_reducible refine zaA (N:=2) rfl ?_);refine zav ?hg (N:=2) ?hd (cs:=#[.int .i64 0,.int .i64 0,.int .i64 0,.int .i64 0]) (t:=32) ?hr ?_;(case hd=>rfl);(case hg=>rfl);(case hr=>first|(go_simp;done)|(go_simp;rfl));intro gb144 hg w33 hbox hb;have n0_:=Aside0.mk (zaa (zB BK143.out) hb);have n1_:=Aside0.mk (zad (zL1 HB.out GE143.out) hb);have n2_:=Aside0.mk (hbox);have n3_:=Aside0.mk ((zS hg (zL1 HB.out GE143.out):w.heap.size≤gb144));have n4_:=Aside0.mk ((zS hg (zL1 HB.out GE143.out):w.heap.size≤gb144));have n5_:=Aside0.mk ((by rw [hg];exact Nat.ne_of_lt (zao (zB BK143.out)):gb143≠gb144));have n6_:=Aside0.mk ((by rw [hg];exact Nat.ne_of_gt (zao (zB BK143.out)):gb144≠gb143));clear BK143;clear HB;have BK143:=n0_;have HB:=n1_;have BK144:=n2_;have GW144:=n3_;have GE144:=n4_;have NB143_144:=n5_;have NB144_143:=n6_;clear n0_ n1_ n2_ n3_ n4_ n5_ n6_;clear hb hbox hg;have hnb34:=NB143_144.out;have hnc34:=NB144_143.out;obtain ⟨hcz35_0,hcz35_1,hcz35_2,hcz35_3,hcz35_4⟩:=zD5 BK143.out;obtain ⟨hfz35_0,hfz35_1,hfz35_2,hfz35_3,hfz35_4⟩:=zE5 BK143.out)|((with_reducible refine zal (f:=52) rfl ?_);refine goesL_ (some 10) rfl rfl Try.func52 (by kernel_rfl) rfl #[.agg #[.int .i64 a0_0,.int .i64 a0_1,.int .i64 a0_2,.int .i64 a0_3,.int .i64 a0_4]] rfl zA ?_;(with_reducible refine (za3.calls a0_0 a0_1 a0_2 a0_3 a0_4 t145 t146 t147 t148 t149 _ A2.out).mono ?_);rintro e w36 ⟨rfl,hb⟩;refine ⟨_,rfl,?_⟩;replace BK143:=Aside0.mk (zaa (zB BK143.out) hb);replace BK144:=Aside0.mk (zaa (zB BK144.out) hb);replace HB:=Aside0.mk (zad (zL2 HB.out GE143.out GE144.out) hb);(try clear hb);(try clear hb2);(try clear hk);(try clear hi);obtain ⟨hcz37_0,hcz37_1,hcz37_2,hcz37_3,hcz37_4⟩:=zD5 BK143.out;obtain ⟨hfz37_0,hfz37_1,hfz37_2,hfz37_3,hfz37_4⟩:=zE5 BK143.out))
   have n0_:Aside0 ((((((w36.setCell ⟨gb143,0,none⟩ (.int .i64 t145)).setCell ⟨gb143,1,none⟩ (.int .i64 t146)).setCell ⟨gb143,2,none⟩ (.int .i64 t147)).setCell ⟨gb143,3,none⟩ (.int .i64 t148)).setCell ⟨gb143,4,none⟩ (.int .i64 t149)).heap[gb143]? = some (.cells #[.int .i64 t145,.int .i64 t146,.int .i64 t147,.int .i64 t148,.int .i64 t149] 28 (0,0))):=⟨by refine zB ?_;refine zae (cs:=#[.int .i64 t145,.int .i64 t146,.int .i64 t147,.int .i64 t148,.int .i64 a0_4]) ?_ 4 _ rfl;refine zB ?_;refine zae (cs:=#[.int .i64 t145,.int .i64 t146,.int .i64 t147,.int .i64 a0_3,.int .i64 a0_4]) ?_ 3 _ rfl;refine zB ?_;refine zae (cs:=#[.int .i64 t145,.int .i64 t146,.int .i64 a0_2,.int .i64 a0_3,.int .i64 a0_4]) ?_ 2 _ rfl;refine zB ?_;refine zae (cs:=#[.int .i64 t145,.int .i64 a0_1,.int .i64 a0_2,.int .i64 a0_3,.int .i64 a0_4]) ?_ 1 _ rfl;refine zB ?_;refine zae (cs:=#[.int .i64 a0_0,.int .i64 a0_1,.int .i64 a0_2,.int .i64 a0_3,.int .i64 a0_4]) ?_ 0 _ rfl;refine zB ?_;exact BK143.out⟩
   have n1_:Aside0 ((((((w36.setCell ⟨gb143,0,none⟩ (.int .i64 t145)).setCell ⟨gb143,1,none⟩ (.int .i64 t146)).setCell ⟨gb143,2,none⟩ (.int .i64 t147)).setCell ⟨gb143,3,none⟩ (.int .i64 t148)).setCell ⟨gb143,4,none⟩ (.int .i64 t149)).heap[gb144]? = some (.cells #[.int .i64 0,.int .i64 0,.int .i64 0,.int .i64 0] 32 (0,0))):=⟨by refine zB ?_;refine zab ?_ NB144_143.out _;refine zB ?_;refine zab ?_ NB144_143.out _;refine zB ?_;refine zab ?_ NB144_143.out _;refine zB ?_;refine zab ?_ NB144_143.out _;refine zB ?_;refine zab ?_ NB144_143.out _;refine zB ?_;exact BK144.out⟩
   have n2_:Aside0 (Below w.heap.size w (((((w36.setCell ⟨gb143,0,none⟩ (.int .i64 t145)).setCell ⟨gb143,1,none⟩ (.int .i64 t146)).setCell ⟨gb143,2,none⟩ (.int .i64 t147)).setCell ⟨gb143,3,none⟩ (.int .i64 t148)).setCell ⟨gb143,4,none⟩ (.int .i64 t149))):=⟨by repeat (first|(with_reducible first|exact HB.out|apply zai|apply zaf|apply zag|refine zac ?_ GE143.out|refine zac ?_ GE144.out)|exact HB.out)⟩
   (try clear BK143)
   (try clear BK144)
   (try clear HB)
   generalize (((((w36.setCell ⟨gb143,0,none⟩ (.int .i64 t145)).setCell ⟨gb143,1,none⟩ (.int .i64 t146)).setCell ⟨gb143,2,none⟩ (.int .i64 t147)).setCell ⟨gb143,3,none⟩ (.int .i64 t148)).setCell ⟨gb143,4,none⟩ (.int .i64 t149))=w38 at n0_ n1_ n2_ ⊢
   have BK143:=n0_
   have BK144:=n1_
   have HB:=n2_
   clear n0_ n1_ n2_
   replace BK143:=Aside0.mk (zaK BK143.out)
   replace BK144:=Aside0.mk (zaK BK144.out)
   replace HB:=Aside0.mk (zag HB.out)
   refine start_ (n:=14) (S:=fun w'=>w'.cell? ⟨gb143,0,none⟩=some (.int .i64 t145)∧w'.cell? ⟨gb143,1,none⟩=some (.int .i64 t146)∧w'.cell? ⟨gb143,2,none⟩=some (.int .i64 t147)∧w'.cell? ⟨gb143,3,none⟩=some (.int .i64 t148)∧w'.cell? ⟨gb143,4,none⟩=some (.int .i64 t149)) (ds:=[]) #[false,false,false,false,false,false,false,false,false,false,false,false,false,false] (by kernel_rfl) rfl rfl ⟨zc BK143.out 0,zc BK143.out 1,zc BK143.out 2,zc BK143.out 3,zc BK143.out 4⟩ (fun hHeld=>?_);refine zbi za6.tab5 za6.bits5 (fun HT_ HW_=>?_)
   generalize w38.drew=w39 at BK143 BK144 HB hHeld ⊢
   refine pure_ (i:=0) (N:=some 15) (v:=?_) (a':=?_) #[true,false,false,false,false,false,false,false,false,false,false,false,false,false] rfl rfl (zap HT_.out (by kernel_rfl)) (fun _ _ _ h=>h) (Or.inl ⟨by rfl,?_⟩) ?_ ?_
   rotate_left
   ·intro w'
    go_simp
    with_reducible rfl
   rotate_left
   ·exact zP
   refine pure_ (i:=1) (N:=some 16) (v:=?_) (a':=?_) #[true,true,false,false,false,false,false,false,false,false,false,false,false,false] rfl rfl (zap HT_.out (by kernel_rfl)) (fun _ _ _ h=>h) (Or.inl ⟨by rfl,?_⟩) ?_ ?_
   rotate_left
   ·intro w'
    go_simp
    with_reducible rfl
   rotate_left
   ·exact zP
   refine pure_ (i:=3) (N:=some 18) (v:=?_) (a':=?_) #[true,true,false,true,false,false,false,false,false,false,false,false,false,false] rfl rfl (zap HT_.out (by kernel_rfl)) (fun _ _ _ h=>h) (Or.inl ⟨by rfl,?_⟩) ?_ ?_
   rotate_left
   ·intro w'
    go_simp
    with_reducible rfl
   rotate_left
   ·exact zP
   refine pure_ (i:=6) (N:=some 21) (v:=?_) (a':=?_) #[true,true,false,true,false,false,true,false,false,false,false,false,false,false] rfl rfl (zap HT_.out (by kernel_rfl)) (fun _ _ _ h=>h) (Or.inl ⟨by rfl,?_⟩) ?_ ?_
   rotate_left
   ·intro w'
    go_simp
    with_reducible rfl
   rotate_left
   ·exact zP
   refine pure_ (i:=7) (N:=some 22) (v:=?_) (a':=?_) #[true,true,false,true,false,false,true,true,false,false,false,false,false,false] rfl rfl (zap HT_.out (by kernel_rfl)) (fun _ _ _ h=>h) (Or.inl ⟨by rfl,?_⟩) ?_ ?_
   rotate_left
   ·intro w'
    go_simp
    with_reducible rfl
   rotate_left
   ·exact zP
   refine pure_ (i:=9) (N:=some 24) (v:=?_) (a':=?_) #[true,true,false,true,false,false,true,true,false,true,false,false,false,false] rfl rfl (zap HT_.out (by kernel_rfl)) (fun _ _ _ h=>h) (Or.inl ⟨by rfl,?_⟩) ?_ ?_
   rotate_left
   ·intro w'
    go_simp
    with_reducible rfl
   rotate_left
   ·exact zP
   refine take_ (i:=2) (N:=some 17) (v:=?_) (a':=?_) #[true,true,true,true,false,false,true,true,false,true,false,false,false,false] rfl rfl (zaL HT_.out HW_.out (by kernel_rfl)) (fun _ _ _ h=>h) (Or.inl ⟨by rfl,?_⟩) hHeld ?_ ?_
   rotate_left
   ·rintro w' ⟨s0,s1,s2,s3,s4⟩
    go_simp
    with_reducible rfl
   rotate_left
   ·exact zP
   refine pure_ (i:=4) (N:=some 19) (v:=?_) (a':=?_) #[true,true,true,true,true,false,true,true,false,true,false,false,false,false] rfl rfl (zap HT_.out (by kernel_rfl)) (fun _ _ _ h=>h) (Or.inl ⟨by rfl,?_⟩) ?_ ?_
   rotate_left
   ·intro w'
    go_simp
    with_reducible rfl
   rotate_left
   ·exact zP
   refine take_ (i:=8) (N:=some 23) (v:=?_) (a':=?_) #[true,true,true,true,true,false,true,true,true,true,false,false,false,false] rfl rfl (zaL HT_.out HW_.out (by kernel_rfl)) (fun _ _ _ h=>h) (Or.inl ⟨by rfl,?_⟩) hHeld ?_ ?_
   rotate_left
   ·rintro w' ⟨s0,s1,s2,s3,s4⟩
    go_simp
    with_reducible rfl
   rotate_left
   ·exact zP
   refine pure_ (i:=10) (N:=some 25) (v:=?_) (a':=?_) #[true,true,true,true,true,false,true,true,true,true,true,false,false,false] rfl rfl (zap HT_.out (by kernel_rfl)) (fun _ _ _ h=>h) (Or.inl ⟨by rfl,?_⟩) ?_ ?_
   rotate_left
   ·intro w'
    go_simp
    with_reducible rfl
   rotate_left
   ·exact zP
   refine one_ (i:=5) (N:=some 20) #[true,true,true,true,true,true,true,true,true,true,true,false,false,false] rfl rfl (zaR HT_.out (by kernel_rfl)) (by decide) (fun K hK=>?_)
   refine goesV_ Try.func53 (by kernel_rfl) rfl #[.int .i64 (wrap64 (t145 - (wrap64 (Int.tdiv (wrap64 (t147+1)) 2))))] (by rfl) rfl rfl rfl zA ?_
   with_reducible refine (zbt.calls (wrap64 (t145 - (wrap64 (Int.tdiv (wrap64 (t147+1)) 2)))) t150 _ A3.out).mono ?_
   rintro e w40 ⟨rfl,hb⟩
   refine ⟨_,rfl,?_⟩
   replace BK143:=Aside0.mk (zaa (zB BK143.out) hb)
   replace BK144:=Aside0.mk (zaa (zB BK144.out) hb)
   replace HB:=Aside0.mk (zad (zL2 HB.out GE143.out GE144.out) hb)
   (try clear hb)
   (try clear hb2)
   (try clear hk)
   (try clear hi)
   refine hK.out _ _ ⟨zc BK143.out 0,zc BK143.out 1,zc BK143.out 2,zc BK143.out 3,zc BK143.out 4⟩ (fun hHeld=>?_)
   clear hK K
   refine norm_ (a':=?_) ?_ ?_
   rotate_left
   ·show Act.put _ (some 20) _=_
    exact zP
   refine one_ (i:=11) (N:=some 26) #[true,true,true,true,true,true,true,true,true,true,true,true,false,false] rfl rfl (zaR HT_.out (by kernel_rfl)) (by decide) (fun K hK=>?_)
   refine goesV_ Try.func53 (by kernel_rfl) rfl #[.int .i64 (wrap64 (t146 - (wrap64 (Int.tdiv (wrap64 (t147+1)) 2))))] (by rfl) rfl rfl rfl zA ?_
   with_reducible refine (zbt.calls (wrap64 (t146 - (wrap64 (Int.tdiv (wrap64 (t147+1)) 2)))) t151 _ A4.out).mono ?_
   rintro e w41 ⟨rfl,hb⟩
   refine ⟨_,rfl,?_⟩
   replace BK143:=Aside0.mk (zaa (zB BK143.out) hb)
   replace BK144:=Aside0.mk (zaa (zB BK144.out) hb)
   replace HB:=Aside0.mk (zad (zL2 HB.out GE143.out GE144.out) hb)
   (try clear hb)
   (try clear hb2)
   (try clear hk)
   (try clear hi)
   refine hK.out _ _ ⟨zc BK143.out 0,zc BK143.out 1,zc BK143.out 2,zc BK143.out 3,zc BK143.out 4⟩ (fun hHeld=>?_)
   clear hK K
   refine norm_ (a':=?_) ?_ ?_
   rotate_left
   ·show Act.put _ (some 26) _=_
    exact zP
   refine pure_ (i:=12) (N:=some 6) (v:=?_) (a':=?_) #[true,true,true,true,true,true,true,true,true,true,true,true,true,false] rfl rfl (zap HT_.out (by kernel_rfl)) (fun _ _ _ h=>h) (Or.inl ⟨by rfl,?_⟩) ?_ ?_
   rotate_left
   ·intro w'
    go_simp
    with_reducible rfl
   rotate_left
   ·exact zP
   refine pure_ (i:=13) (N:=some 7) (v:=?_) (a':=?_) #[true,true,true,true,true,true,true,true,true,true,true,true,true,true] rfl rfl (zap HT_.out (by kernel_rfl)) (fun _ _ _ h=>h) (Or.inl ⟨by rfl,?_⟩) ?_ ?_
   rotate_left
   ·intro w'
    go_simp
    with_reducible rfl
   rotate_left
   ·exact zP
   refine done_ (zbr HT_.out (by kernel_rfl)) ?_
   try go_wp2
   replace BK143:=Aside0.mk (zaK BK143.out)
   replace BK144:=Aside0.mk (zaK BK144.out)
   replace HB:=Aside0.mk (zag HB.out)
   refine start_ (n:=21) (S:=fun w'=>w'.cell? ⟨gb143,0,none⟩=some (.int .i64 t145)∧w'.cell? ⟨gb143,1,none⟩=some (.int .i64 t146)∧w'.cell? ⟨gb143,2,none⟩=some (.int .i64 t147)∧w'.cell? ⟨gb143,3,none⟩=some (.int .i64 t148)∧w'.cell? ⟨gb143,4,none⟩=some (.int .i64 t149)) (ds:=[]) #[false,false,false,false,false,false,false,false,false,false,false,false,false,false,false,false,false,false,false,false,false] (by kernel_rfl) rfl rfl ⟨zc BK143.out 0,zc BK143.out 1,zc BK143.out 2,zc BK143.out 3,zc BK143.out 4⟩ (fun hHeld=>?_);refine zbi za6.tab6 za6.bits6 (fun HT_ HW_=>?_)
   generalize w41.drew=w42 at BK143 BK144 HB hHeld ⊢
   refine pure_ (i:=0) (N:=some 27) (v:=?_) (a':=?_) #[true,false,false,false,false,false,false,false,false,false,false,false,false,false,false,false,false,false,false,false,false] rfl rfl (zap HT_.out (by kernel_rfl)) (fun _ _ _ h=>h) (Or.inl ⟨by rfl,?_⟩) ?_ ?_
   rotate_left
   ·intro w'
    go_simp
    with_reducible rfl
   rotate_left
   ·exact zP
   refine pure_ (i:=1) (N:=some 28) (v:=?_) (a':=?_) #[true,true,false,false,false,false,false,false,false,false,false,false,false,false,false,false,false,false,false,false,false] rfl rfl (zap HT_.out (by kernel_rfl)) (fun _ _ _ h=>h) (Or.inl ⟨by rfl,?_⟩) ?_ ?_
   rotate_left
   ·intro w'
    go_simp
    with_reducible rfl
   rotate_left
   ·exact zP
   refine pure_ (i:=2) (N:=some 29) (v:=?_) (a':=?_) #[true,true,true,false,false,false,false,false,false,false,false,false,false,false,false,false,false,false,false,false,false] rfl rfl (zap HT_.out (by kernel_rfl)) (fun _ _ _ h=>h) (Or.inl ⟨by rfl,?_⟩) ?_ ?_
   rotate_left
   ·intro w'
    go_simp
    with_reducible rfl
   rotate_left
   ·exact zP
   refine pure_ (i:=3) (N:=some 30) (v:=?_) (a':=?_) #[true,true,true,true,false,false,false,false,false,false,false,false,false,false,false,false,false,false,false,false,false] rfl rfl (zap HT_.out (by kernel_rfl)) (fun _ _ _ h=>h) (Or.inl ⟨by rfl,?_⟩) ?_ ?_
   rotate_left
   ·intro w'
    go_simp
    with_reducible rfl
   rotate_left
   ·exact zP
   refine pure_ (i:=5) (N:=some 32) (v:=?_) (a':=?_) #[true,true,true,true,false,true,false,false,false,false,false,false,false,false,false,false,false,false,false,false,false] rfl rfl (zap HT_.out (by kernel_rfl)) (fun _ _ _ h=>h) (Or.inl ⟨by rfl,?_⟩) ?_ ?_
   rotate_left
   ·intro w'
    go_simp
    with_reducible rfl
   rotate_left
   ·exact zP
   refine pure_ (i:=8) (N:=some 35) (v:=?_) (a':=?_) #[true,true,true,true,false,true,false,false,true,false,false,false,false,false,false,false,false,false,false,false,false] rfl rfl (zap HT_.out (by kernel_rfl)) (fun _ _ _ h=>h) (Or.inl ⟨by rfl,?_⟩) ?_ ?_
   rotate_left
   ·intro w'
    go_simp
    with_reducible rfl
   rotate_left
   ·exact zP
   refine pure_ (i:=10) (N:=some 37) (v:=?_) (a':=?_) #[true,true,true,true,false,true,false,false,true,false,true,false,false,false,false,false,false,false,false,false,false] rfl rfl (zap HT_.out (by kernel_rfl)) (fun _ _ _ h=>h) (Or.inl ⟨by rfl,?_⟩) ?_ ?_
   rotate_left
   ·intro w'
    go_simp
    with_reducible rfl
   rotate_left
   ·exact zP
   refine pure_ (i:=11) (N:=some 38) (v:=?_) (a':=?_) #[true,true,true,true,false,true,false,false,true,false,true,true,false,false,false,false,false,false,false,false,false] rfl rfl (zap HT_.out (by kernel_rfl)) (fun _ _ _ h=>h) (Or.inl ⟨by rfl,?_⟩) ?_ ?_
   rotate_left
   ·intro w'
    go_simp
    with_reducible rfl
   rotate_left
   ·exact zP
   refine pure_ (i:=13) (N:=some 40) (v:=?_) (a':=?_) #[true,true,true,true,false,true,false,false,true,false,true,true,false,true,false,false,false,false,false,false,false] rfl rfl (zap HT_.out (by kernel_rfl)) (fun _ _ _ h=>h) (Or.inl ⟨by rfl,?_⟩) ?_ ?_
   rotate_left
   ·intro w'
    go_simp
    with_reducible rfl
   rotate_left
   ·exact zP
   refine pure_ (i:=16) (N:=some 43) (v:=?_) (a':=?_) #[true,true,true,true,false,true,false,false,true,false,true,true,false,true,false,false,true,false,false,false,false] rfl rfl (zap HT_.out (by kernel_rfl)) (fun _ _ _ h=>h) (Or.inl ⟨by rfl,?_⟩) ?_ ?_
   rotate_left
   ·intro w'
    go_simp
    with_reducible rfl
   rotate_left
   ·exact zP
   refine take_ (i:=4) (N:=some 31) (v:=?_) (a':=?_) #[true,true,true,true,true,true,false,false,true,false,true,true,false,true,false,false,true,false,false,false,false] rfl rfl (zaL HT_.out HW_.out (by kernel_rfl)) (fun _ _ _ h=>h) (Or.inl ⟨by rfl,?_⟩) hHeld ?_ ?_
   rotate_left
   ·rintro w' ⟨s0,s1,s2,s3,s4⟩
    go_simp
    with_reducible rfl
   rotate_left
   ·exact zP
   refine pure_ (i:=6) (N:=some 33) (v:=?_) (a':=?_) #[true,true,true,true,true,true,true,false,true,false,true,true,false,true,false,false,true,false,false,false,false] rfl rfl (zap HT_.out (by kernel_rfl)) (fun _ _ _ h=>h) (Or.inl ⟨by rfl,?_⟩) ?_ ?_
   rotate_left
   ·intro w'
    go_simp
    with_reducible rfl
   rotate_left
   ·exact zP
   refine take_ (i:=12) (N:=some 39) (v:=?_) (a':=?_) #[true,true,true,true,true,true,true,false,true,false,true,true,true,true,false,false,true,false,false,false,false] rfl rfl (zaL HT_.out HW_.out (by kernel_rfl)) (fun _ _ _ h=>h) (Or.inl ⟨by rfl,?_⟩) hHeld ?_ ?_
   rotate_left
   ·rintro w' ⟨s0,s1,s2,s3,s4⟩
    go_simp
    with_reducible rfl
   rotate_left
   ·exact zP
   refine pure_ (i:=14) (N:=some 41) (v:=?_) (a':=?_) #[true,true,true,true,true,true,true,false,true,false,true,true,true,true,true,false,true,false,false,false,false] rfl rfl (zap HT_.out (by kernel_rfl)) (fun _ _ _ h=>h) (Or.inl ⟨by rfl,?_⟩) ?_ ?_
   rotate_left
   ·intro w'
    go_simp
    with_reducible rfl
   rotate_left
   ·exact zP
   refine join_ (σ:=Nat) 1 #[true,true,true,true,true,true,true,true,true,true,true,true,true,true,true,true,true,true,true,true,false] (fun s_=>[(34,.int .i64 t152),(42,.int .i64 t153),(8,.pointer (some ⟨s_,0,none⟩)),(36,.int .i64 (wrap64 (t152 - t150))),(44,.int .i64 (wrap64 (t153 - t151))),(45,.agg #[.int .i64 t150,.int .i64 t151,.int .i64 (wrap64 (t152 - t150)),.int .i64 (wrap64 (t153 - t151))])]) (fun s_ w'=>(w'.cell? ⟨gb143,0,none⟩=some (.int .i64 t145)∧w'.cell? ⟨gb143,1,none⟩=some (.int .i64 t146)∧w'.cell? ⟨gb143,2,none⟩=some (.int .i64 t147)∧w'.cell? ⟨gb143,3,none⟩=some (.int .i64 t148)∧w'.cell? ⟨gb143,4,none⟩=some (.int .i64 t149))∧(w'.heap[gb143]? = some (.cells #[.int .i64 t145,.int .i64 t146,.int .i64 t147,.int .i64 t148,.int .i64 t149] 28 (0,0)))∧(w'.heap[gb144]? = some (.cells #[.int .i64 0,.int .i64 0,.int .i64 0,.int .i64 0] 32 (0,0)))∧(w'.heap[s_]? = some (.cells #[.int .i64 0,.int .i64 0,.int .i64 0,.int .i64 0] 32 (0,0)))∧(w.heap.size≤s_)∧(w.heap.size≤s_)∧(gb143≠s_)∧(s_≠gb143)∧(gb144≠s_)∧(s_≠gb144)∧(Below w.heap.size w w')) ?_ ?_
   rotate_left
   ·intro hCont
    refine two_ (i:=7) (j:=19) (Ni:=some 34) (Nj:=some 8) #[true,true,true,true,true,true,true,true,true,false,true,true,true,true,true,false,true,false,false,false,false] #[true,true,true,true,true,true,true,false,true,false,true,true,true,true,true,false,true,false,false,true,false] rfl rfl rfl rfl (two_of HT_.out (by kernel_rfl)) (by decide) (by decide) (fun K hK=>?_) (fun K hK=>?_)
    ·skip
     refine goesV_ Try.func56 (by kernel_rfl) rfl #[.int .i64 (wrap64 (t145+(wrap64 (Int.tdiv (wrap64 (t147+1)) 2))))] (by rfl) rfl rfl rfl zA ?_
     with_reducible refine (za9.calls (wrap64 (t145+(wrap64 (Int.tdiv (wrap64 (t147+1)) 2)))) t152 _ A5.out).mono ?_
     rintro e w43 ⟨rfl,hb⟩
     refine ⟨_,rfl,?_⟩
     replace BK143:=Aside0.mk (zaa (zB BK143.out) hb)
     replace BK144:=Aside0.mk (zaa (zB BK144.out) hb)
     replace HB:=Aside0.mk (zad (zL2 HB.out GE143.out GE144.out) hb)
     (try clear hb)
     (try clear hb2)
     (try clear hk)
     (try clear hi)
     refine hK.out _ _ ⟨zc BK143.out 0,zc BK143.out 1,zc BK143.out 2,zc BK143.out 3,zc BK143.out 4⟩ (fun hHeld=>?_)
     clear hK K
     refine norm_ (a':=?_) ?_ ?_
     rotate_left
     ·show Act.put _ (some 34) _=_
      exact zP
     refine pure_ (i:=9) (N:=some 36) (v:=?_) (a':=?_) #[true,true,true,true,true,true,true,true,true,true,true,true,true,true,true,false,true,false,false,false,false] rfl rfl (zap HT_.out (by kernel_rfl)) (fun _ _ _ h=>h) (Or.inl ⟨by rfl,?_⟩) ?_ ?_
     rotate_left
     ·intro w'
      go_simp
      with_reducible rfl
     rotate_left
     ·exact zP
     refine two_ (i:=15) (j:=19) (Ni:=some 42) (Nj:=some 8) #[true,true,true,true,true,true,true,true,true,true,true,true,true,true,true,true,true,false,false,false,false] #[true,true,true,true,true,true,true,true,true,true,true,true,true,true,true,false,true,false,false,true,false] rfl rfl rfl rfl (two_of HT_.out (by kernel_rfl)) (by decide) (by decide) (fun K hK=>?_) (fun K hK=>?_)
     ·skip
      refine goesV_ Try.func56 (by kernel_rfl) rfl #[.int .i64 (wrap64 (t146+(wrap64 (Int.tdiv (wrap64 (t147+1)) 2))))] (by rfl) rfl rfl rfl zA ?_
      with_reducible refine (za9.calls (wrap64 (t146+(wrap64 (Int.tdiv (wrap64 (t147+1)) 2)))) t153 _ A6.out).mono ?_
      rintro e w44 ⟨rfl,hb⟩
      refine ⟨_,rfl,?_⟩
      replace BK143:=Aside0.mk (zaa (zB BK143.out) hb)
      replace BK144:=Aside0.mk (zaa (zB BK144.out) hb)
      replace HB:=Aside0.mk (zad (zL2 HB.out GE143.out GE144.out) hb)
      (try clear hb)
      (try clear hb2)
      (try clear hk)
      (try clear hi)
      refine hK.out _ _ ⟨zc BK143.out 0,zc BK143.out 1,zc BK143.out 2,zc BK143.out 3,zc BK143.out 4⟩ (fun hHeld=>?_)
      clear hK K
      refine norm_ (a':=?_) ?_ ?_
      rotate_left
      ·show Act.put _ (some 42) _=_
       exact zP
      refine pure_ (i:=17) (N:=some 44) (v:=?_) (a':=?_) #[true,true,true,true,true,true,true,true,true,true,true,true,true,true,true,true,true,true,false,false,false] rfl rfl (zap HT_.out (by kernel_rfl)) (fun _ _ _ h=>h) (Or.inl ⟨by rfl,?_⟩) ?_ ?_
      rotate_left
      ·intro w'
       go_simp
       with_reducible rfl
      rotate_left
      ·exact zP
      refine pure_ (i:=18) (N:=some 45) (v:=?_) (a':=?_) #[true,true,true,true,true,true,true,true,true,true,true,true,true,true,true,true,true,true,true,false,false] rfl rfl (zap HT_.out (by kernel_rfl)) (fun _ _ _ h=>h) (Or.inl ⟨by rfl,?_⟩) ?_ ?_
      rotate_left
      ·intro w'
       go_simp
       with_reducible rfl
      rotate_left
      ·exact zP
      refine one_ (i:=19) (N:=some 8) #[true,true,true,true,true,true,true,true,true,true,true,true,true,true,true,true,true,true,true,true,false] rfl rfl (zaR HT_.out (by kernel_rfl)) (by decide) (fun K hK=>?_)
      refine box_step ?hg (N:=8) ?hd (cs:=#[.int .i64 0,.int .i64 0,.int .i64 0,.int .i64 0]) (t:=32) ?hr ?_;(case hd=>rfl);(case hg=>rfl);(case hr=>first|(go_simp;done)|(go_simp;rfl))
      intro gb154 hg w45 hbox hb
      have n0_:=Aside0.mk (zaa (zB BK143.out) hb)
      have n1_:=Aside0.mk (zaa (zB BK144.out) hb)
      have n2_:=Aside0.mk (zad (zL2 HB.out GE143.out GE144.out) hb)
      have n3_:=Aside0.mk (hbox)
      have n4_:=Aside0.mk ((zS hg (zL2 HB.out GE143.out GE144.out):w.heap.size≤gb154))
      have n5_:=Aside0.mk ((zS hg (zL2 HB.out GE143.out GE144.out):w.heap.size≤gb154))
      have n6_:=Aside0.mk ((by rw [hg];exact Nat.ne_of_lt (zao (zB BK143.out)):gb143≠gb154))
      have n7_:=Aside0.mk ((by rw [hg];exact Nat.ne_of_gt (zao (zB BK143.out)):gb154≠gb143))
      have n8_:=Aside0.mk ((by rw [hg];exact Nat.ne_of_lt (zao (zB BK144.out)):gb144≠gb154))
      have n9_:=Aside0.mk ((by rw [hg];exact Nat.ne_of_gt (zao (zB BK144.out)):gb154≠gb144))
      clear BK143
      clear BK144
      clear HB
      have BK143:=n0_
      have BK144:=n1_
      have HB:=n2_
      have BK154:=n3_
      have GW154:=n4_
      have GE154:=n5_
      have NB143_154:=n6_
      have NB154_143:=n7_
      have NB144_154:=n8_
      have NB154_144:=n9_
      clear n0_ n1_ n2_ n3_ n4_ n5_ n6_ n7_ n8_ n9_
      clear hb hbox hg
      refine hK.out _ _ ⟨zc BK143.out 0,zc BK143.out 1,zc BK143.out 2,zc BK143.out 3,zc BK143.out 4⟩ (fun hHeld=>?_)
      clear hK K
      refine norm_ (a':=?_) ?_ ?_
      rotate_left
      ·show Act.put _ (some 8) _=_
       exact zP
      exact norm_ (by simp only [putAll,Act.put,List.setIfInBounds_toArray,List.set_cons_zero,List.set_cons_succ]) (hCont (gb154) _ ⟨hHeld,(zB BK143.out),(zB BK144.out),(zB BK154.out),GW154.out,GE154.out,NB143_154.out,NB154_143.out,NB144_154.out,NB154_144.out,(zL3 HB.out GE143.out GE144.out GE154.out)⟩)
     ·skip
      refine box_step ?hg (N:=8) ?hd (cs:=#[.int .i64 0,.int .i64 0,.int .i64 0,.int .i64 0]) (t:=32) ?hr ?_;(case hd=>rfl);(case hg=>rfl);(case hr=>first|(go_simp;done)|(go_simp;rfl))
      intro gb154 hg w44 hbox hb
      have n0_:=Aside0.mk (zaa (zB BK143.out) hb)
      have n1_:=Aside0.mk (zaa (zB BK144.out) hb)
      have n2_:=Aside0.mk (zad (zL2 HB.out GE143.out GE144.out) hb)
      have n3_:=Aside0.mk (hbox)
      have n4_:=Aside0.mk ((zS hg (zL2 HB.out GE143.out GE144.out):w.heap.size≤gb154))
      have n5_:=Aside0.mk ((zS hg (zL2 HB.out GE143.out GE144.out):w.heap.size≤gb154))
      have n6_:=Aside0.mk ((by rw [hg];exact Nat.ne_of_lt (zao (zB BK143.out)):gb143≠gb154))
      have n7_:=Aside0.mk ((by rw [hg];exact Nat.ne_of_gt (zao (zB BK143.out)):gb154≠gb143))
      have n8_:=Aside0.mk ((by rw [hg];exact Nat.ne_of_lt (zao (zB BK144.out)):gb144≠gb154))
      have n9_:=Aside0.mk ((by rw [hg];exact Nat.ne_of_gt (zao (zB BK144.out)):gb154≠gb144))
      clear BK143
      clear BK144
      clear HB
      have BK143:=n0_
      have BK144:=n1_
      have HB:=n2_
      have BK154:=n3_
      have GW154:=n4_
      have GE154:=n5_
      have NB143_154:=n6_
      have NB154_143:=n7_
      have NB144_154:=n8_
      have NB154_144:=n9_
      clear n0_ n1_ n2_ n3_ n4_ n5_ n6_ n7_ n8_ n9_
      clear hb hbox hg
      refine hK.out _ _ ⟨zc BK143.out 0,zc BK143.out 1,zc BK143.out 2,zc BK143.out 3,zc BK143.out 4⟩ (fun hHeld=>?_)
      clear hK K
      refine norm_ (a':=?_) ?_ ?_
      rotate_left
      ·show Act.put _ (some 8) _=_
       exact zP
      refine one_ (i:=15) (N:=some 42) #[true,true,true,true,true,true,true,true,true,true,true,true,true,true,true,true,true,false,false,true,false] rfl rfl (zaR HT_.out (by kernel_rfl)) (by decide) (fun K hK=>?_)
      refine goesV_ Try.func56 (by kernel_rfl) rfl #[.int .i64 (wrap64 (t146+(wrap64 (Int.tdiv (wrap64 (t147+1)) 2))))] (by rfl) rfl rfl rfl zA ?_
      with_reducible refine (za9.calls (wrap64 (t146+(wrap64 (Int.tdiv (wrap64 (t147+1)) 2)))) t153 _ A6.out).mono ?_
      rintro e w45 ⟨rfl,hb⟩
      refine ⟨_,rfl,?_⟩
      replace BK143:=Aside0.mk (zaa (zB BK143.out) hb)
      replace BK144:=Aside0.mk (zaa (zB BK144.out) hb)
      replace BK154:=Aside0.mk (zaa (zB BK154.out) hb)
      replace HB:=Aside0.mk (zad (zL3 HB.out GE143.out GE144.out GE154.out) hb)
      (try clear hb)
      (try clear hb2)
      (try clear hk)
      (try clear hi)
      refine hK.out _ _ ⟨zc BK143.out 0,zc BK143.out 1,zc BK143.out 2,zc BK143.out 3,zc BK143.out 4⟩ (fun hHeld=>?_)
      clear hK K
      refine norm_ (a':=?_) ?_ ?_
      rotate_left
      ·show Act.put _ (some 42) _=_
       exact zP
      refine pure_ (i:=17) (N:=some 44) (v:=?_) (a':=?_) #[true,true,true,true,true,true,true,true,true,true,true,true,true,true,true,true,true,true,false,true,false] rfl rfl (zap HT_.out (by kernel_rfl)) (fun _ _ _ h=>h) (Or.inl ⟨by rfl,?_⟩) ?_ ?_
      rotate_left
      ·intro w'
       go_simp
       with_reducible rfl
      rotate_left
      ·exact zP
      refine pure_ (i:=18) (N:=some 45) (v:=?_) (a':=?_) #[true,true,true,true,true,true,true,true,true,true,true,true,true,true,true,true,true,true,true,true,false] rfl rfl (zap HT_.out (by kernel_rfl)) (fun _ _ _ h=>h) (Or.inl ⟨by rfl,?_⟩) ?_ ?_
      rotate_left
      ·intro w'
       go_simp
       with_reducible rfl
      rotate_left
      ·exact zP
      exact norm_ (by simp only [putAll,Act.put,List.setIfInBounds_toArray,List.set_cons_zero,List.set_cons_succ]) (hCont (gb154) _ ⟨hHeld,(zB BK143.out),(zB BK144.out),(zB BK154.out),GW154.out,GE154.out,NB143_154.out,NB154_143.out,NB144_154.out,NB154_144.out,(zL3 HB.out GE143.out GE144.out GE154.out)⟩)
    ·skip
     refine box_step ?hg (N:=8) ?hd (cs:=#[.int .i64 0,.int .i64 0,.int .i64 0,.int .i64 0]) (t:=32) ?hr ?_;(case hd=>rfl);(case hg=>rfl);(case hr=>first|(go_simp;done)|(go_simp;rfl))
     intro gb154 hg w43 hbox hb
     have n0_:=Aside0.mk (zaa (zB BK143.out) hb)
     have n1_:=Aside0.mk (zaa (zB BK144.out) hb)
     have n2_:=Aside0.mk (zad (zL2 HB.out GE143.out GE144.out) hb)
     have n3_:=Aside0.mk (hbox)
     have n4_:=Aside0.mk ((zS hg (zL2 HB.out GE143.out GE144.out):w.heap.size≤gb154))
     have n5_:=Aside0.mk ((zS hg (zL2 HB.out GE143.out GE144.out):w.heap.size≤gb154))
     have n6_:=Aside0.mk ((by rw [hg];exact Nat.ne_of_lt (zao (zB BK143.out)):gb143≠gb154))
     have n7_:=Aside0.mk ((by rw [hg];exact Nat.ne_of_gt (zao (zB BK143.out)):gb154≠gb143))
     have n8_:=Aside0.mk ((by rw [hg];exact Nat.ne_of_lt (zao (zB BK144.out)):gb144≠gb154))
     have n9_:=Aside0.mk ((by rw [hg];exact Nat.ne_of_gt (zao (zB BK144.out)):gb154≠gb144))
     clear BK143
     clear BK144
     clear HB
     have BK143:=n0_
     have BK144:=n1_
     have HB:=n2_
     have BK154:=n3_
     have GW154:=n4_
     have GE154:=n5_
     have NB143_154:=n6_
     have NB154_143:=n7_
     have NB144_154:=n8_
     have NB154_144:=n9_
     clear n0_ n1_ n2_ n3_ n4_ n5_ n6_ n7_ n8_ n9_
     clear hb hbox hg
     refine hK.out _ _ ⟨zc BK143.out 0,zc BK143.out 1,zc BK143.out 2,zc BK143.out 3,zc BK143.out 4⟩ (fun hHeld=>?_)
     clear hK K
     refine norm_ (a':=?_) ?_ ?_
     rotate_left
     ·show Act.put _ (some 8) _=_
      exact zP
     refine one_ (i:=7) (N:=some 34) #[true,true,true,true,true,true,true,true,true,false,true,true,true,true,true,false,true,false,false,true,false] rfl rfl (zaR HT_.out (by kernel_rfl)) (by decide) (fun K hK=>?_)
     refine goesV_ Try.func56 (by kernel_rfl) rfl #[.int .i64 (wrap64 (t145+(wrap64 (Int.tdiv (wrap64 (t147+1)) 2))))] (by rfl) rfl rfl rfl zA ?_
     with_reducible refine (za9.calls (wrap64 (t145+(wrap64 (Int.tdiv (wrap64 (t147+1)) 2)))) t152 _ A5.out).mono ?_
     rintro e w44 ⟨rfl,hb⟩
     refine ⟨_,rfl,?_⟩
     replace BK143:=Aside0.mk (zaa (zB BK143.out) hb)
     replace BK144:=Aside0.mk (zaa (zB BK144.out) hb)
     replace BK154:=Aside0.mk (zaa (zB BK154.out) hb)
     replace HB:=Aside0.mk (zad (zL3 HB.out GE143.out GE144.out GE154.out) hb)
     (try clear hb)
     (try clear hb2)
     (try clear hk)
     (try clear hi)
     refine hK.out _ _ ⟨zc BK143.out 0,zc BK143.out 1,zc BK143.out 2,zc BK143.out 3,zc BK143.out 4⟩ (fun hHeld=>?_)
     clear hK K
     refine norm_ (a':=?_) ?_ ?_
     rotate_left
     ·show Act.put _ (some 34) _=_
      exact zP
     refine pure_ (i:=9) (N:=some 36) (v:=?_) (a':=?_) #[true,true,true,true,true,true,true,true,true,true,true,true,true,true,true,false,true,false,false,true,false] rfl rfl (zap HT_.out (by kernel_rfl)) (fun _ _ _ h=>h) (Or.inl ⟨by rfl,?_⟩) ?_ ?_
     rotate_left
     ·intro w'
      go_simp
      with_reducible rfl
     rotate_left
     ·exact zP
     refine one_ (i:=15) (N:=some 42) #[true,true,true,true,true,true,true,true,true,true,true,true,true,true,true,true,true,false,false,true,false] rfl rfl (zaR HT_.out (by kernel_rfl)) (by decide) (fun K hK=>?_)
     refine goesV_ Try.func56 (by kernel_rfl) rfl #[.int .i64 (wrap64 (t146+(wrap64 (Int.tdiv (wrap64 (t147+1)) 2))))] (by rfl) rfl rfl rfl zA ?_
     with_reducible refine (za9.calls (wrap64 (t146+(wrap64 (Int.tdiv (wrap64 (t147+1)) 2)))) t153 _ A6.out).mono ?_
     rintro e w45 ⟨rfl,hb⟩
     refine ⟨_,rfl,?_⟩
     replace BK143:=Aside0.mk (zaa (zB BK143.out) hb)
     replace BK144:=Aside0.mk (zaa (zB BK144.out) hb)
     replace BK154:=Aside0.mk (zaa (zB BK154.out) hb)
     replace HB:=Aside0.mk (zad (zL3 HB.out GE143.out GE144.out GE154.out) hb)
     (try clear hb)
     (try clear hb2)
     (try clear hk)
     (try clear hi)
     refine hK.out _ _ ⟨zc BK143.out 0,zc BK143.out 1,zc BK143.out 2,zc BK143.out 3,zc BK143.out 4⟩ (fun hHeld=>?_)
     clear hK K
     refine norm_ (a':=?_) ?_ ?_
     rotate_left
     ·show Act.put _ (some 42) _=_
      exact zP
     refine pure_ (i:=17) (N:=some 44) (v:=?_) (a':=?_) #[true,true,true,true,true,true,true,true,true,true,true,true,true,true,true,true,true,true,false,true,false] rfl rfl (zap HT_.out (by kernel_rfl)) (fun _ _ _ h=>h) (Or.inl ⟨by rfl,?_⟩) ?_ ?_
     rotate_left
     ·intro w'
      go_simp
      with_reducible rfl
     rotate_left
     ·exact zP
     refine pure_ (i:=18) (N:=some 45) (v:=?_) (a':=?_) #[true,true,true,true,true,true,true,true,true,true,true,true,true,true,true,true,true,true,true,true,false] rfl rfl (zap HT_.out (by kernel_rfl)) (fun _ _ _ h=>h) (Or.inl ⟨by rfl,?_⟩) ?_ ?_
     rotate_left
     ·intro w'
      go_simp
      with_reducible rfl
     rotate_left
     ·exact zP
     exact norm_ (by simp only [putAll,Act.put,List.setIfInBounds_toArray,List.set_cons_zero,List.set_cons_succ]) (hCont (gb154) _ ⟨hHeld,(zB BK143.out),(zB BK144.out),(zB BK154.out),GW154.out,GE154.out,NB143_154.out,NB154_143.out,NB144_154.out,NB154_144.out,(zL3 HB.out GE143.out GE144.out GE154.out)⟩)
   rintro gb154 w46 ⟨hS_,h0_,h1_,h2_,h3_,h4_,h5_,h6_,h7_,h8_,h9_⟩
   have n0_:Aside0 (w46.heap[gb143]? = some (.cells #[.int .i64 t145,.int .i64 t146,.int .i64 t147,.int .i64 t148,.int .i64 t149] 28 (0,0))):=⟨h0_⟩
   have n1_:Aside0 (w46.heap[gb144]? = some (.cells #[.int .i64 0,.int .i64 0,.int .i64 0,.int .i64 0] 32 (0,0))):=⟨h1_⟩
   have n2_:Aside0 (w46.heap[gb154]? = some (.cells #[.int .i64 0,.int .i64 0,.int .i64 0,.int .i64 0] 32 (0,0))):=⟨h2_⟩
   have n3_:Aside0 (w.heap.size≤gb154):=⟨h3_⟩
   have n4_:Aside0 (w.heap.size≤gb154):=⟨h4_⟩
   have n5_:Aside0 (gb143≠gb154):=⟨h5_⟩
   have n6_:Aside0 (gb154≠gb143):=⟨h6_⟩
   have n7_:Aside0 (gb144≠gb154):=⟨h7_⟩
   have n8_:Aside0 (gb154≠gb144):=⟨h8_⟩
   have n9_:Aside0 (Below w.heap.size w w46):=⟨h9_⟩
   clear BK143
   clear BK144
   clear HB
   clear h0_ h1_ h2_ h3_ h4_ h5_ h6_ h7_ h8_ h9_
   have BK143:=n0_
   have BK144:=n1_
   have BK154:=n2_
   have GW154:=n3_
   have GE154:=n4_
   have NB143_154:=n5_
   have NB154_143:=n6_
   have NB144_154:=n7_
   have NB154_144:=n8_
   have HB:=n9_
   clear n0_ n1_ n2_ n3_ n4_ n5_ n6_ n7_ n8_ n9_
   have hHeld:w46.cell? ⟨gb143,0,none⟩=some (.int .i64 t145)∧w46.cell? ⟨gb143,1,none⟩=some (.int .i64 t146)∧w46.cell? ⟨gb143,2,none⟩=some (.int .i64 t147)∧w46.cell? ⟨gb143,3,none⟩=some (.int .i64 t148)∧w46.cell? ⟨gb143,4,none⟩=some (.int .i64 t149):=hS_
   refine norm_ (a':=?_) ?_ ?_
   rotate_left
   ·simp only [putAll,Act.put,List.setIfInBounds_toArray,List.set_cons_zero,List.set_cons_succ]
    rfl
   refine one_ (i:=20) (N:=none) #[true,true,true,true,true,true,true,true,true,true,true,true,true,true,true,true,true,true,true,true,true] rfl rfl (zaR HT_.out (by kernel_rfl)) (by decide) (fun K hK=>?_)
   have hs47:w46.cell? ⟨gb154,0,none⟩=some (.int .i64 0):=zc BK154.out 0
   have hfs47:=zaB BK154.out 0
   have hns47_0:=NB143_154.out
   have hns47_1:=NB144_154.out
   have hms47_0:=NB154_143.out
   have hms47_1:=NB154_144.out
   have hs48:w46.cell? ⟨gb154,1,none⟩=some (.int .i64 0):=zc BK154.out 1
   have hfs48:=zaB BK154.out 1
   have hns48_0:=NB143_154.out
   have hns48_1:=NB144_154.out
   have hms48_0:=NB154_143.out
   have hms48_1:=NB154_144.out
   have hs49:w46.cell? ⟨gb154,2,none⟩=some (.int .i64 0):=zc BK154.out 2
   have hfs49:=zaB BK154.out 2
   have hns49_0:=NB143_154.out
   have hns49_1:=NB144_154.out
   have hms49_0:=NB154_143.out
   have hms49_1:=NB154_144.out
   have hs50:w46.cell? ⟨gb154,3,none⟩=some (.int .i64 0):=zc BK154.out 3
   have hfs50:=zaB BK154.out 3
   have hns50_0:=NB143_154.out
   have hns50_1:=NB144_154.out
   have hms50_0:=NB154_143.out
   have hms50_1:=NB154_144.out
   refine skip_ (w1:=?_) (by rfl) rfl ?_ ?_
   rotate_left
   ·go_simp
    rfl
   refine hK.out _ _ ⟨((zar (p:=⟨gb154,_,none⟩) NB143_154.out _).trans (((zar (p:=⟨gb154,_,none⟩) NB143_154.out _).trans (((zar (p:=⟨gb154,_,none⟩) NB143_154.out _).trans (((zar (p:=⟨gb154,_,none⟩) NB143_154.out _).trans (hHeld.1)))))))),((zar (p:=⟨gb154,_,none⟩) NB143_154.out _).trans (((zar (p:=⟨gb154,_,none⟩) NB143_154.out _).trans (((zar (p:=⟨gb154,_,none⟩) NB143_154.out _).trans (((zar (p:=⟨gb154,_,none⟩) NB143_154.out _).trans (hHeld.2.1)))))))),((zar (p:=⟨gb154,_,none⟩) NB143_154.out _).trans (((zar (p:=⟨gb154,_,none⟩) NB143_154.out _).trans (((zar (p:=⟨gb154,_,none⟩) NB143_154.out _).trans (((zar (p:=⟨gb154,_,none⟩) NB143_154.out _).trans (hHeld.2.2.1)))))))),((zar (p:=⟨gb154,_,none⟩) NB143_154.out _).trans (((zar (p:=⟨gb154,_,none⟩) NB143_154.out _).trans (((zar (p:=⟨gb154,_,none⟩) NB143_154.out _).trans (((zar (p:=⟨gb154,_,none⟩) NB143_154.out _).trans (hHeld.2.2.2.1)))))))),((zar (p:=⟨gb154,_,none⟩) NB143_154.out _).trans (((zar (p:=⟨gb154,_,none⟩) NB143_154.out _).trans (((zar (p:=⟨gb154,_,none⟩) NB143_154.out _).trans (((zar (p:=⟨gb154,_,none⟩) NB143_154.out _).trans (hHeld.2.2.2.2))))))))⟩ (fun hHeld=>?_)
   clear hK K
   refine done_ (zbr HT_.out (by kernel_rfl)) ?_
   have hnb51:=NB154_143.out
   have hnc51:=NB143_154.out
   have hnb52:=NB154_144.out
   have hnc52:=NB144_154.out
   obtain ⟨hcz53_0,hcz53_1,hcz53_2,hcz53_3⟩:=zD4 BK154.out
   obtain ⟨hfz53_0,hfz53_1,hfz53_2,hfz53_3⟩:=zE4 BK154.out
   obtain ⟨hcz54_0,hcz54_1,hcz54_2,hcz54_3⟩:=zD4 BK144.out
   obtain ⟨hfz54_0,hfz54_1,hfz54_2,hfz54_3⟩:=zE4 BK144.out
   try go_wp2
   refine bodyPost_ret (results_cell_row rfl _ _ gb144 32 #[.int .i64 0,.int .i64 0,.int .i64 0,.int .i64 0] (0,0) _ rfl (by refine zB ?_;refine zae (cs:=#[.int .i64 0,.int .i64 0,.int .i64 0,.int .i64 0]) ?_ 3 _ rfl;refine zB ?_;refine zae (cs:=#[.int .i64 0,.int .i64 0,.int .i64 0,.int .i64 0]) ?_ 2 _ rfl;refine zB ?_;refine zae (cs:=#[.int .i64 0,.int .i64 0,.int .i64 0,.int .i64 0]) ?_ 1 _ rfl;refine zB ?_;refine zae (cs:=#[.int .i64 0,.int .i64 0,.int .i64 0,.int .i64 0]) ?_ 0 _ rfl;refine zB ?_;refine zab ?_ NB144_154.out _;refine zB ?_;refine zab ?_ NB144_154.out _;refine zB ?_;refine zab ?_ NB144_154.out _;refine zB ?_;refine zab ?_ NB144_154.out _;refine zB ?_;exact BK144.out) Try.underlying32 rfl (by kernel_rfl)) rfl ?_
   exact ⟨by first|rfl|(simp [errW_none,errW_some] <;> rfl)|(simp [*,errW_none,errW_some] <;> rfl),by repeat (first|(with_reducible first|exact HB.out|apply zai|apply zaf|apply zag|refine zac ?_ GE143.out|refine zac ?_ GE144.out|refine zac ?_ GE154.out)|exact HB.out)⟩
  ·rw [if_neg c31] at H
   have c31b0:decide ((wrap64 (t153 - t151))≤0)=false:=decide_eq_false c31
   clear c31
   simp only [Option.some.injEq,Prod.mk.injEq] at H
   obtain ⟨rfl,rfl,rfl,rfl⟩:=H
   go_enter Try.func16,Try.ntmps16
   try go_wp2_with (first|((with_reducible refine zaA (N:=1) rfl ?_);refine zav ?hg (N:=1) ?hd (cs:=#[.int .i64 a0_0,.int .i64 a0_1,.int .i64 a0_2,.int .i64 a0_3,.int .i64 a0_4]) (t:=28) ?hr ?_;(case hd=>rfl);(case hg=>rfl);(case hr=>first|(go_simp;done)|(go_simp;rfl));intro gb143 hg w55 hbox hb;have n0_:=Aside0.mk (zad (zL HB.out) hb);have n1_:=Aside0.mk (hbox);have n2_:=Aside0.mk ((zS hg (zL HB.out):w.heap.size≤gb143));have n3_:=Aside0.mk ((zS hg (zL HB.out):w.heap.size≤gb143));clear HB;have HB:=n0_;have BK143:=n1_;have GW143:=n2_;have GE143:=n3_;clear n0_ n1_ n2_ n3_;clear hb hbox hg)|((with_reducible refine zaA (N:=2) rfl ?_);refine zav ?hg (N:=2) ?hd (cs:=#[.int .i64 0,.int .i64 0,.int .i64 0,.int .i64 0]) (t:=32) ?hr ?_;(case hd=>rfl);(case hg=>rfl);(case hr=>first|(go_simp;done)|(go_simp;rfl));intro gb144 hg w56 hbox hb;have n0_:=Aside0.mk (zaa (zB BK143.out) hb);have n1_:=Aside0.mk (zad (zL1 HB.out GE143.out) hb);have n2_:=Aside0.mk (hbox);have n3_:=Aside0.mk ((zS hg (zL1 HB.out GE143.out):w.heap.size≤gb144));have n4_:=Aside0.mk ((zS hg (zL1 HB.out GE143.out):w.heap.size≤gb144));have n5_:=Aside0.mk ((by rw [hg];exact Nat.ne_of_lt (zao (zB BK143.out)):gb143≠gb144));have n6_:=Aside0.mk ((by rw [hg];exact Nat.ne_of_gt (zao (zB BK143.out)):gb144≠gb143));clear BK143;clear HB;have BK143:=n0_;have HB:=n1_;have BK144:=n2_;have GW144:=n3_;have GE144:=n4_;have NB143_144:=n5_;have NB144_143:=n6_;clear n0_ n1_ n2_ n3_ n4_ n5_ n6_;clear hb hbox hg;have hnb57:=NB143_144.out;have hnc57:=NB144_143.out;obtain ⟨hcz58_0,hcz58_1,hcz58_2,hcz58_3,hcz58_4⟩:=zD5 BK143.out;obtain ⟨hfz58_0,hfz58_1,hfz58_2,hfz58_3,hfz58_4⟩:=zE5 BK143.out)|((with_reducible refine zal (f:=52) rfl ?_);refine goesL_ (some 10) rfl rfl Try.func52 (by kernel_rfl) rfl #[.agg #[.int .i64 a0_0,.int .i64 a0_1,.int .i64 a0_2,.int .i64 a0_3,.int .i64 a0_4]] rfl zA ?_;(with_reducible refine (za3.calls a0_0 a0_1 a0_2 a0_3 a0_4 t145 t146 t147 t148 t149 _ A2.out).mono ?_);rintro e w59 ⟨rfl,hb⟩;refine ⟨_,rfl,?_⟩;replace BK143:=Aside0.mk (zaa (zB BK143.out) hb);replace BK144:=Aside0.mk (zaa (zB BK144.out) hb);replace HB:=Aside0.mk (zad (zL2 HB.out GE143.out GE144.out) hb);(try clear hb);(try clear hb2);(try clear hk);(try clear hi);obtain ⟨hcz60_0,hcz60_1,hcz60_2,hcz60_3,hcz60_4⟩:=zD5 BK143.out;obtain ⟨hfz60_0,hfz60_1,hfz60_2,hfz60_3,hfz60_4⟩:=zE5 BK143.out))
   have n0_:Aside0 ((((((w59.setCell ⟨gb143,0,none⟩ (.int .i64 t145)).setCell ⟨gb143,1,none⟩ (.int .i64 t146)).setCell ⟨gb143,2,none⟩ (.int .i64 t147)).setCell ⟨gb143,3,none⟩ (.int .i64 t148)).setCell ⟨gb143,4,none⟩ (.int .i64 t149)).heap[gb143]? = some (.cells #[.int .i64 t145,.int .i64 t146,.int .i64 t147,.int .i64 t148,.int .i64 t149] 28 (0,0))):=⟨by refine zB ?_;refine zae (cs:=#[.int .i64 t145,.int .i64 t146,.int .i64 t147,.int .i64 t148,.int .i64 a0_4]) ?_ 4 _ rfl;refine zB ?_;refine zae (cs:=#[.int .i64 t145,.int .i64 t146,.int .i64 t147,.int .i64 a0_3,.int .i64 a0_4]) ?_ 3 _ rfl;refine zB ?_;refine zae (cs:=#[.int .i64 t145,.int .i64 t146,.int .i64 a0_2,.int .i64 a0_3,.int .i64 a0_4]) ?_ 2 _ rfl;refine zB ?_;refine zae (cs:=#[.int .i64 t145,.int .i64 a0_1,.int .i64 a0_2,.int .i64 a0_3,.int .i64 a0_4]) ?_ 1 _ rfl;refine zB ?_;refine zae (cs:=#[.int .i64 a0_0,.int .i64 a0_1,.int .i64 a0_2,.int .i64 a0_3,.int .i64 a0_4]) ?_ 0 _ rfl;refine zB ?_;exact BK143.out⟩
   have n1_:Aside0 ((((((w59.setCell ⟨gb143,0,none⟩ (.int .i64 t145)).setCell ⟨gb143,1,none⟩ (.int .i64 t146)).setCell ⟨gb143,2,none⟩ (.int .i64 t147)).setCell ⟨gb143,3,none⟩ (.int .i64 t148)).setCell ⟨gb143,4,none⟩ (.int .i64 t149)).heap[gb144]? = some (.cells #[.int .i64 0,.int .i64 0,.int .i64 0,.int .i64 0] 32 (0,0))):=⟨by refine zB ?_;refine zab ?_ NB144_143.out _;refine zB ?_;refine zab ?_ NB144_143.out _;refine zB ?_;refine zab ?_ NB144_143.out _;refine zB ?_;refine zab ?_ NB144_143.out _;refine zB ?_;refine zab ?_ NB144_143.out _;refine zB ?_;exact BK144.out⟩
   have n2_:Aside0 (Below w.heap.size w (((((w59.setCell ⟨gb143,0,none⟩ (.int .i64 t145)).setCell ⟨gb143,1,none⟩ (.int .i64 t146)).setCell ⟨gb143,2,none⟩ (.int .i64 t147)).setCell ⟨gb143,3,none⟩ (.int .i64 t148)).setCell ⟨gb143,4,none⟩ (.int .i64 t149))):=⟨by repeat (first|(with_reducible first|exact HB.out|apply zai|apply zaf|apply zag|refine zac ?_ GE143.out|refine zac ?_ GE144.out)|exact HB.out)⟩
   (try clear BK143)
   (try clear BK144)
   (try clear HB)
   generalize (((((w59.setCell ⟨gb143,0,none⟩ (.int .i64 t145)).setCell ⟨gb143,1,none⟩ (.int .i64 t146)).setCell ⟨gb143,2,none⟩ (.int .i64 t147)).setCell ⟨gb143,3,none⟩ (.int .i64 t148)).setCell ⟨gb143,4,none⟩ (.int .i64 t149))=w61 at n0_ n1_ n2_ ⊢
   have BK143:=n0_
   have BK144:=n1_
   have HB:=n2_
   clear n0_ n1_ n2_
   replace BK143:=Aside0.mk (zaK BK143.out)
   replace BK144:=Aside0.mk (zaK BK144.out)
   replace HB:=Aside0.mk (zag HB.out)
   refine start_ (n:=14) (S:=fun w'=>w'.cell? ⟨gb143,0,none⟩=some (.int .i64 t145)∧w'.cell? ⟨gb143,1,none⟩=some (.int .i64 t146)∧w'.cell? ⟨gb143,2,none⟩=some (.int .i64 t147)∧w'.cell? ⟨gb143,3,none⟩=some (.int .i64 t148)∧w'.cell? ⟨gb143,4,none⟩=some (.int .i64 t149)) (ds:=[]) #[false,false,false,false,false,false,false,false,false,false,false,false,false,false] (by kernel_rfl) rfl rfl ⟨zc BK143.out 0,zc BK143.out 1,zc BK143.out 2,zc BK143.out 3,zc BK143.out 4⟩ (fun hHeld=>?_);refine zbi za6.tab5 za6.bits5 (fun HT_ HW_=>?_)
   generalize w61.drew=w62 at BK143 BK144 HB hHeld ⊢
   refine pure_ (i:=0) (N:=some 15) (v:=?_) (a':=?_) #[true,false,false,false,false,false,false,false,false,false,false,false,false,false] rfl rfl (zap HT_.out (by kernel_rfl)) (fun _ _ _ h=>h) (Or.inl ⟨by rfl,?_⟩) ?_ ?_
   rotate_left
   ·intro w'
    go_simp
    with_reducible rfl
   rotate_left
   ·exact zP
   refine pure_ (i:=1) (N:=some 16) (v:=?_) (a':=?_) #[true,true,false,false,false,false,false,false,false,false,false,false,false,false] rfl rfl (zap HT_.out (by kernel_rfl)) (fun _ _ _ h=>h) (Or.inl ⟨by rfl,?_⟩) ?_ ?_
   rotate_left
   ·intro w'
    go_simp
    with_reducible rfl
   rotate_left
   ·exact zP
   refine pure_ (i:=3) (N:=some 18) (v:=?_) (a':=?_) #[true,true,false,true,false,false,false,false,false,false,false,false,false,false] rfl rfl (zap HT_.out (by kernel_rfl)) (fun _ _ _ h=>h) (Or.inl ⟨by rfl,?_⟩) ?_ ?_
   rotate_left
   ·intro w'
    go_simp
    with_reducible rfl
   rotate_left
   ·exact zP
   refine pure_ (i:=6) (N:=some 21) (v:=?_) (a':=?_) #[true,true,false,true,false,false,true,false,false,false,false,false,false,false] rfl rfl (zap HT_.out (by kernel_rfl)) (fun _ _ _ h=>h) (Or.inl ⟨by rfl,?_⟩) ?_ ?_
   rotate_left
   ·intro w'
    go_simp
    with_reducible rfl
   rotate_left
   ·exact zP
   refine pure_ (i:=7) (N:=some 22) (v:=?_) (a':=?_) #[true,true,false,true,false,false,true,true,false,false,false,false,false,false] rfl rfl (zap HT_.out (by kernel_rfl)) (fun _ _ _ h=>h) (Or.inl ⟨by rfl,?_⟩) ?_ ?_
   rotate_left
   ·intro w'
    go_simp
    with_reducible rfl
   rotate_left
   ·exact zP
   refine pure_ (i:=9) (N:=some 24) (v:=?_) (a':=?_) #[true,true,false,true,false,false,true,true,false,true,false,false,false,false] rfl rfl (zap HT_.out (by kernel_rfl)) (fun _ _ _ h=>h) (Or.inl ⟨by rfl,?_⟩) ?_ ?_
   rotate_left
   ·intro w'
    go_simp
    with_reducible rfl
   rotate_left
   ·exact zP
   refine take_ (i:=2) (N:=some 17) (v:=?_) (a':=?_) #[true,true,true,true,false,false,true,true,false,true,false,false,false,false] rfl rfl (zaL HT_.out HW_.out (by kernel_rfl)) (fun _ _ _ h=>h) (Or.inl ⟨by rfl,?_⟩) hHeld ?_ ?_
   rotate_left
   ·rintro w' ⟨s0,s1,s2,s3,s4⟩
    go_simp
    with_reducible rfl
   rotate_left
   ·exact zP
   refine pure_ (i:=4) (N:=some 19) (v:=?_) (a':=?_) #[true,true,true,true,true,false,true,true,false,true,false,false,false,false] rfl rfl (zap HT_.out (by kernel_rfl)) (fun _ _ _ h=>h) (Or.inl ⟨by rfl,?_⟩) ?_ ?_
   rotate_left
   ·intro w'
    go_simp
    with_reducible rfl
   rotate_left
   ·exact zP
   refine take_ (i:=8) (N:=some 23) (v:=?_) (a':=?_) #[true,true,true,true,true,false,true,true,true,true,false,false,false,false] rfl rfl (zaL HT_.out HW_.out (by kernel_rfl)) (fun _ _ _ h=>h) (Or.inl ⟨by rfl,?_⟩) hHeld ?_ ?_
   rotate_left
   ·rintro w' ⟨s0,s1,s2,s3,s4⟩
    go_simp
    with_reducible rfl
   rotate_left
   ·exact zP
   refine pure_ (i:=10) (N:=some 25) (v:=?_) (a':=?_) #[true,true,true,true,true,false,true,true,true,true,true,false,false,false] rfl rfl (zap HT_.out (by kernel_rfl)) (fun _ _ _ h=>h) (Or.inl ⟨by rfl,?_⟩) ?_ ?_
   rotate_left
   ·intro w'
    go_simp
    with_reducible rfl
   rotate_left
   ·exact zP
   refine one_ (i:=5) (N:=some 20) #[true,true,true,true,true,true,true,true,true,true,true,false,false,false] rfl rfl (zaR HT_.out (by kernel_rfl)) (by decide) (fun K hK=>?_)
   refine goesV_ Try.func53 (by kernel_rfl) rfl #[.int .i64 (wrap64 (t145 - (wrap64 (Int.tdiv (wrap64 (t147+1)) 2))))] (by rfl) rfl rfl rfl zA ?_
   with_reducible refine (zbt.calls (wrap64 (t145 - (wrap64 (Int.tdiv (wrap64 (t147+1)) 2)))) t150 _ A3.out).mono ?_
   rintro e w63 ⟨rfl,hb⟩
   refine ⟨_,rfl,?_⟩
   replace BK143:=Aside0.mk (zaa (zB BK143.out) hb)
   replace BK144:=Aside0.mk (zaa (zB BK144.out) hb)
   replace HB:=Aside0.mk (zad (zL2 HB.out GE143.out GE144.out) hb)
   (try clear hb)
   (try clear hb2)
   (try clear hk)
   (try clear hi)
   refine hK.out _ _ ⟨zc BK143.out 0,zc BK143.out 1,zc BK143.out 2,zc BK143.out 3,zc BK143.out 4⟩ (fun hHeld=>?_)
   clear hK K
   refine norm_ (a':=?_) ?_ ?_
   rotate_left
   ·show Act.put _ (some 20) _=_
    exact zP
   refine one_ (i:=11) (N:=some 26) #[true,true,true,true,true,true,true,true,true,true,true,true,false,false] rfl rfl (zaR HT_.out (by kernel_rfl)) (by decide) (fun K hK=>?_)
   refine goesV_ Try.func53 (by kernel_rfl) rfl #[.int .i64 (wrap64 (t146 - (wrap64 (Int.tdiv (wrap64 (t147+1)) 2))))] (by rfl) rfl rfl rfl zA ?_
   with_reducible refine (zbt.calls (wrap64 (t146 - (wrap64 (Int.tdiv (wrap64 (t147+1)) 2)))) t151 _ A4.out).mono ?_
   rintro e w64 ⟨rfl,hb⟩
   refine ⟨_,rfl,?_⟩
   replace BK143:=Aside0.mk (zaa (zB BK143.out) hb)
   replace BK144:=Aside0.mk (zaa (zB BK144.out) hb)
   replace HB:=Aside0.mk (zad (zL2 HB.out GE143.out GE144.out) hb)
   (try clear hb)
   (try clear hb2)
   (try clear hk)
   (try clear hi)
   refine hK.out _ _ ⟨zc BK143.out 0,zc BK143.out 1,zc BK143.out 2,zc BK143.out 3,zc BK143.out 4⟩ (fun hHeld=>?_)
   clear hK K
   refine norm_ (a':=?_) ?_ ?_
   rotate_left
   ·show Act.put _ (some 26) _=_
    exact zP
   refine pure_ (i:=12) (N:=some 6) (v:=?_) (a':=?_) #[true,true,true,true,true,true,true,true,true,true,true,true,true,false] rfl rfl (zap HT_.out (by kernel_rfl)) (fun _ _ _ h=>h) (Or.inl ⟨by rfl,?_⟩) ?_ ?_
   rotate_left
   ·intro w'
    go_simp
    with_reducible rfl
   rotate_left
   ·exact zP
   refine pure_ (i:=13) (N:=some 7) (v:=?_) (a':=?_) #[true,true,true,true,true,true,true,true,true,true,true,true,true,true] rfl rfl (zap HT_.out (by kernel_rfl)) (fun _ _ _ h=>h) (Or.inl ⟨by rfl,?_⟩) ?_ ?_
   rotate_left
   ·intro w'
    go_simp
    with_reducible rfl
   rotate_left
   ·exact zP
   refine done_ (zbr HT_.out (by kernel_rfl)) ?_
   try go_wp2
   replace BK143:=Aside0.mk (zaK BK143.out)
   replace BK144:=Aside0.mk (zaK BK144.out)
   replace HB:=Aside0.mk (zag HB.out)
   refine start_ (n:=21) (S:=fun w'=>w'.cell? ⟨gb143,0,none⟩=some (.int .i64 t145)∧w'.cell? ⟨gb143,1,none⟩=some (.int .i64 t146)∧w'.cell? ⟨gb143,2,none⟩=some (.int .i64 t147)∧w'.cell? ⟨gb143,3,none⟩=some (.int .i64 t148)∧w'.cell? ⟨gb143,4,none⟩=some (.int .i64 t149)) (ds:=[]) #[false,false,false,false,false,false,false,false,false,false,false,false,false,false,false,false,false,false,false,false,false] (by kernel_rfl) rfl rfl ⟨zc BK143.out 0,zc BK143.out 1,zc BK143.out 2,zc BK143.out 3,zc BK143.out 4⟩ (fun hHeld=>?_);refine zbi za6.tab6 za6.bits6 (fun HT_ HW_=>?_)
   generalize w64.drew=w65 at BK143 BK144 HB hHeld ⊢
   refine pure_ (i:=0) (N:=some 27) (v:=?_) (a':=?_) #[true,false,false,false,false,false,false,false,false,false,false,false,false,false,false,false,false,false,false,false,false] rfl rfl (zap HT_.out (by kernel_rfl)) (fun _ _ _ h=>h) (Or.inl ⟨by rfl,?_⟩) ?_ ?_
   rotate_left
   ·intro w'
    go_simp
    with_reducible rfl
   rotate_left
   ·exact zP
   refine pure_ (i:=1) (N:=some 28) (v:=?_) (a':=?_) #[true,true,false,false,false,false,false,false,false,false,false,false,false,false,false,false,false,false,false,false,false] rfl rfl (zap HT_.out (by kernel_rfl)) (fun _ _ _ h=>h) (Or.inl ⟨by rfl,?_⟩) ?_ ?_
   rotate_left
   ·intro w'
    go_simp
    with_reducible rfl
   rotate_left
   ·exact zP
   refine pure_ (i:=2) (N:=some 29) (v:=?_) (a':=?_) #[true,true,true,false,false,false,false,false,false,false,false,false,false,false,false,false,false,false,false,false,false] rfl rfl (zap HT_.out (by kernel_rfl)) (fun _ _ _ h=>h) (Or.inl ⟨by rfl,?_⟩) ?_ ?_
   rotate_left
   ·intro w'
    go_simp
    with_reducible rfl
   rotate_left
   ·exact zP
   refine pure_ (i:=3) (N:=some 30) (v:=?_) (a':=?_) #[true,true,true,true,false,false,false,false,false,false,false,false,false,false,false,false,false,false,false,false,false] rfl rfl (zap HT_.out (by kernel_rfl)) (fun _ _ _ h=>h) (Or.inl ⟨by rfl,?_⟩) ?_ ?_
   rotate_left
   ·intro w'
    go_simp
    with_reducible rfl
   rotate_left
   ·exact zP
   refine pure_ (i:=5) (N:=some 32) (v:=?_) (a':=?_) #[true,true,true,true,false,true,false,false,false,false,false,false,false,false,false,false,false,false,false,false,false] rfl rfl (zap HT_.out (by kernel_rfl)) (fun _ _ _ h=>h) (Or.inl ⟨by rfl,?_⟩) ?_ ?_
   rotate_left
   ·intro w'
    go_simp
    with_reducible rfl
   rotate_left
   ·exact zP
   refine pure_ (i:=8) (N:=some 35) (v:=?_) (a':=?_) #[true,true,true,true,false,true,false,false,true,false,false,false,false,false,false,false,false,false,false,false,false] rfl rfl (zap HT_.out (by kernel_rfl)) (fun _ _ _ h=>h) (Or.inl ⟨by rfl,?_⟩) ?_ ?_
   rotate_left
   ·intro w'
    go_simp
    with_reducible rfl
   rotate_left
   ·exact zP
   refine pure_ (i:=10) (N:=some 37) (v:=?_) (a':=?_) #[true,true,true,true,false,true,false,false,true,false,true,false,false,false,false,false,false,false,false,false,false] rfl rfl (zap HT_.out (by kernel_rfl)) (fun _ _ _ h=>h) (Or.inl ⟨by rfl,?_⟩) ?_ ?_
   rotate_left
   ·intro w'
    go_simp
    with_reducible rfl
   rotate_left
   ·exact zP
   refine pure_ (i:=11) (N:=some 38) (v:=?_) (a':=?_) #[true,true,true,true,false,true,false,false,true,false,true,true,false,false,false,false,false,false,false,false,false] rfl rfl (zap HT_.out (by kernel_rfl)) (fun _ _ _ h=>h) (Or.inl ⟨by rfl,?_⟩) ?_ ?_
   rotate_left
   ·intro w'
    go_simp
    with_reducible rfl
   rotate_left
   ·exact zP
   refine pure_ (i:=13) (N:=some 40) (v:=?_) (a':=?_) #[true,true,true,true,false,true,false,false,true,false,true,true,false,true,false,false,false,false,false,false,false] rfl rfl (zap HT_.out (by kernel_rfl)) (fun _ _ _ h=>h) (Or.inl ⟨by rfl,?_⟩) ?_ ?_
   rotate_left
   ·intro w'
    go_simp
    with_reducible rfl
   rotate_left
   ·exact zP
   refine pure_ (i:=16) (N:=some 43) (v:=?_) (a':=?_) #[true,true,true,true,false,true,false,false,true,false,true,true,false,true,false,false,true,false,false,false,false] rfl rfl (zap HT_.out (by kernel_rfl)) (fun _ _ _ h=>h) (Or.inl ⟨by rfl,?_⟩) ?_ ?_
   rotate_left
   ·intro w'
    go_simp
    with_reducible rfl
   rotate_left
   ·exact zP
   refine take_ (i:=4) (N:=some 31) (v:=?_) (a':=?_) #[true,true,true,true,true,true,false,false,true,false,true,true,false,true,false,false,true,false,false,false,false] rfl rfl (zaL HT_.out HW_.out (by kernel_rfl)) (fun _ _ _ h=>h) (Or.inl ⟨by rfl,?_⟩) hHeld ?_ ?_
   rotate_left
   ·rintro w' ⟨s0,s1,s2,s3,s4⟩
    go_simp
    with_reducible rfl
   rotate_left
   ·exact zP
   refine pure_ (i:=6) (N:=some 33) (v:=?_) (a':=?_) #[true,true,true,true,true,true,true,false,true,false,true,true,false,true,false,false,true,false,false,false,false] rfl rfl (zap HT_.out (by kernel_rfl)) (fun _ _ _ h=>h) (Or.inl ⟨by rfl,?_⟩) ?_ ?_
   rotate_left
   ·intro w'
    go_simp
    with_reducible rfl
   rotate_left
   ·exact zP
   refine take_ (i:=12) (N:=some 39) (v:=?_) (a':=?_) #[true,true,true,true,true,true,true,false,true,false,true,true,true,true,false,false,true,false,false,false,false] rfl rfl (zaL HT_.out HW_.out (by kernel_rfl)) (fun _ _ _ h=>h) (Or.inl ⟨by rfl,?_⟩) hHeld ?_ ?_
   rotate_left
   ·rintro w' ⟨s0,s1,s2,s3,s4⟩
    go_simp
    with_reducible rfl
   rotate_left
   ·exact zP
   refine pure_ (i:=14) (N:=some 41) (v:=?_) (a':=?_) #[true,true,true,true,true,true,true,false,true,false,true,true,true,true,true,false,true,false,false,false,false] rfl rfl (zap HT_.out (by kernel_rfl)) (fun _ _ _ h=>h) (Or.inl ⟨by rfl,?_⟩) ?_ ?_
   rotate_left
   ·intro w'
    go_simp
    with_reducible rfl
   rotate_left
   ·exact zP
   refine join_ (σ:=Nat) 1 #[true,true,true,true,true,true,true,true,true,true,true,true,true,true,true,true,true,true,true,true,false] (fun s_=>[(34,.int .i64 t152),(42,.int .i64 t153),(8,.pointer (some ⟨s_,0,none⟩)),(36,.int .i64 (wrap64 (t152 - t150))),(44,.int .i64 (wrap64 (t153 - t151))),(45,.agg #[.int .i64 t150,.int .i64 t151,.int .i64 (wrap64 (t152 - t150)),.int .i64 (wrap64 (t153 - t151))])]) (fun s_ w'=>(w'.cell? ⟨gb143,0,none⟩=some (.int .i64 t145)∧w'.cell? ⟨gb143,1,none⟩=some (.int .i64 t146)∧w'.cell? ⟨gb143,2,none⟩=some (.int .i64 t147)∧w'.cell? ⟨gb143,3,none⟩=some (.int .i64 t148)∧w'.cell? ⟨gb143,4,none⟩=some (.int .i64 t149))∧(w'.heap[gb143]? = some (.cells #[.int .i64 t145,.int .i64 t146,.int .i64 t147,.int .i64 t148,.int .i64 t149] 28 (0,0)))∧(w'.heap[gb144]? = some (.cells #[.int .i64 0,.int .i64 0,.int .i64 0,.int .i64 0] 32 (0,0)))∧(w'.heap[s_]? = some (.cells #[.int .i64 0,.int .i64 0,.int .i64 0,.int .i64 0] 32 (0,0)))∧(w.heap.size≤s_)∧(w.heap.size≤s_)∧(gb143≠s_)∧(s_≠gb143)∧(gb144≠s_)∧(s_≠gb144)∧(Below w.heap.size w w')) ?_ ?_
   rotate_left
   ·intro hCont
    refine two_ (i:=7) (j:=19) (Ni:=some 34) (Nj:=some 8) #[true,true,true,true,true,true,true,true,true,false,true,true,true,true,true,false,true,false,false,false,false] #[true,true,true,true,true,true,true,false,true,false,true,true,true,true,true,false,true,false,false,true,false] rfl rfl rfl rfl (two_of HT_.out (by kernel_rfl)) (by decide) (by decide) (fun K hK=>?_) (fun K hK=>?_)
    ·skip
     refine goesV_ Try.func56 (by kernel_rfl) rfl #[.int .i64 (wrap64 (t145+(wrap64 (Int.tdiv (wrap64 (t147+1)) 2))))] (by rfl) rfl rfl rfl zA ?_
     with_reducible refine (za9.calls (wrap64 (t145+(wrap64 (Int.tdiv (wrap64 (t147+1)) 2)))) t152 _ A5.out).mono ?_
     rintro e w66 ⟨rfl,hb⟩
     refine ⟨_,rfl,?_⟩
     replace BK143:=Aside0.mk (zaa (zB BK143.out) hb)
     replace BK144:=Aside0.mk (zaa (zB BK144.out) hb)
     replace HB:=Aside0.mk (zad (zL2 HB.out GE143.out GE144.out) hb)
     (try clear hb)
     (try clear hb2)
     (try clear hk)
     (try clear hi)
     refine hK.out _ _ ⟨zc BK143.out 0,zc BK143.out 1,zc BK143.out 2,zc BK143.out 3,zc BK143.out 4⟩ (fun hHeld=>?_)
     clear hK K
     refine norm_ (a':=?_) ?_ ?_
     rotate_left
     ·show Act.put _ (some 34) _=_
      exact zP
     refine pure_ (i:=9) (N:=some 36) (v:=?_) (a':=?_) #[true,true,true,true,true,true,true,true,true,true,true,true,true,true,true,false,true,false,false,false,false] rfl rfl (zap HT_.out (by kernel_rfl)) (fun _ _ _ h=>h) (Or.inl ⟨by rfl,?_⟩) ?_ ?_
     rotate_left
     ·intro w'
      go_simp
      with_reducible rfl
     rotate_left
     ·exact zP
     refine two_ (i:=15) (j:=19) (Ni:=some 42) (Nj:=some 8) #[true,true,true,true,true,true,true,true,true,true,true,true,true,true,true,true,true,false,false,false,false] #[true,true,true,true,true,true,true,true,true,true,true,true,true,true,true,false,true,false,false,true,false] rfl rfl rfl rfl (two_of HT_.out (by kernel_rfl)) (by decide) (by decide) (fun K hK=>?_) (fun K hK=>?_)
     ·skip
      refine goesV_ Try.func56 (by kernel_rfl) rfl #[.int .i64 (wrap64 (t146+(wrap64 (Int.tdiv (wrap64 (t147+1)) 2))))] (by rfl) rfl rfl rfl zA ?_
      with_reducible refine (za9.calls (wrap64 (t146+(wrap64 (Int.tdiv (wrap64 (t147+1)) 2)))) t153 _ A6.out).mono ?_
      rintro e w67 ⟨rfl,hb⟩
      refine ⟨_,rfl,?_⟩
      replace BK143:=Aside0.mk (zaa (zB BK143.out) hb)
      replace BK144:=Aside0.mk (zaa (zB BK144.out) hb)
      replace HB:=Aside0.mk (zad (zL2 HB.out GE143.out GE144.out) hb)
      (try clear hb)
      (try clear hb2)
      (try clear hk)
      (try clear hi)
      refine hK.out _ _ ⟨zc BK143.out 0,zc BK143.out 1,zc BK143.out 2,zc BK143.out 3,zc BK143.out 4⟩ (fun hHeld=>?_)
      clear hK K
      refine norm_ (a':=?_) ?_ ?_
      rotate_left
      ·show Act.put _ (some 42) _=_
       exact zP
      refine pure_ (i:=17) (N:=some 44) (v:=?_) (a':=?_) #[true,true,true,true,true,true,true,true,true,true,true,true,true,true,true,true,true,true,false,false,false] rfl rfl (zap HT_.out (by kernel_rfl)) (fun _ _ _ h=>h) (Or.inl ⟨by rfl,?_⟩) ?_ ?_
      rotate_left
      ·intro w'
       go_simp
       with_reducible rfl
      rotate_left
      ·exact zP
      refine pure_ (i:=18) (N:=some 45) (v:=?_) (a':=?_) #[true,true,true,true,true,true,true,true,true,true,true,true,true,true,true,true,true,true,true,false,false] rfl rfl (zap HT_.out (by kernel_rfl)) (fun _ _ _ h=>h) (Or.inl ⟨by rfl,?_⟩) ?_ ?_
      rotate_left
      ·intro w'
       go_simp
       with_reducible rfl
      rotate_left
      ·exact zP
      refine one_ (i:=19) (N:=some 8) #[true,true,true,true,true,true,true,true,true,true,true,true,true,true,true,true,true,true,true,true,false] rfl rfl (zaR HT_.out (by kernel_rfl)) (by decide) (fun K hK=>?_)
      refine box_step ?hg (N:=8) ?hd (cs:=#[.int .i64 0,.int .i64 0,.int .i64 0,.int .i64 0]) (t:=32) ?hr ?_;(case hd=>rfl);(case hg=>rfl);(case hr=>first|(go_simp;done)|(go_simp;rfl))
      intro gb154 hg w68 hbox hb
      have n0_:=Aside0.mk (zaa (zB BK143.out) hb)
      have n1_:=Aside0.mk (zaa (zB BK144.out) hb)
      have n2_:=Aside0.mk (zad (zL2 HB.out GE143.out GE144.out) hb)
      have n3_:=Aside0.mk (hbox)
      have n4_:=Aside0.mk ((zS hg (zL2 HB.out GE143.out GE144.out):w.heap.size≤gb154))
      have n5_:=Aside0.mk ((zS hg (zL2 HB.out GE143.out GE144.out):w.heap.size≤gb154))
      have n6_:=Aside0.mk ((by rw [hg];exact Nat.ne_of_lt (zao (zB BK143.out)):gb143≠gb154))
      have n7_:=Aside0.mk ((by rw [hg];exact Nat.ne_of_gt (zao (zB BK143.out)):gb154≠gb143))
      have n8_:=Aside0.mk ((by rw [hg];exact Nat.ne_of_lt (zao (zB BK144.out)):gb144≠gb154))
      have n9_:=Aside0.mk ((by rw [hg];exact Nat.ne_of_gt (zao (zB BK144.out)):gb154≠gb144))
      clear BK143
      clear BK144
      clear HB
      have BK143:=n0_
      have BK144:=n1_
      have HB:=n2_
      have BK154:=n3_
      have GW154:=n4_
      have GE154:=n5_
      have NB143_154:=n6_
      have NB154_143:=n7_
      have NB144_154:=n8_
      have NB154_144:=n9_
      clear n0_ n1_ n2_ n3_ n4_ n5_ n6_ n7_ n8_ n9_
      clear hb hbox hg
      refine hK.out _ _ ⟨zc BK143.out 0,zc BK143.out 1,zc BK143.out 2,zc BK143.out 3,zc BK143.out 4⟩ (fun hHeld=>?_)
      clear hK K
      refine norm_ (a':=?_) ?_ ?_
      rotate_left
      ·show Act.put _ (some 8) _=_
       exact zP
      exact norm_ (by simp only [putAll,Act.put,List.setIfInBounds_toArray,List.set_cons_zero,List.set_cons_succ]) (hCont (gb154) _ ⟨hHeld,(zB BK143.out),(zB BK144.out),(zB BK154.out),GW154.out,GE154.out,NB143_154.out,NB154_143.out,NB144_154.out,NB154_144.out,(zL3 HB.out GE143.out GE144.out GE154.out)⟩)
     ·skip
      refine box_step ?hg (N:=8) ?hd (cs:=#[.int .i64 0,.int .i64 0,.int .i64 0,.int .i64 0]) (t:=32) ?hr ?_;(case hd=>rfl);(case hg=>rfl);(case hr=>first|(go_simp;done)|(go_simp;rfl))
      intro gb154 hg w67 hbox hb
      have n0_:=Aside0.mk (zaa (zB BK143.out) hb)
      have n1_:=Aside0.mk (zaa (zB BK144.out) hb)
      have n2_:=Aside0.mk (zad (zL2 HB.out GE143.out GE144.out) hb)
      have n3_:=Aside0.mk (hbox)
      have n4_:=Aside0.mk ((zS hg (zL2 HB.out GE143.out GE144.out):w.heap.size≤gb154))
      have n5_:=Aside0.mk ((zS hg (zL2 HB.out GE143.out GE144.out):w.heap.size≤gb154))
      have n6_:=Aside0.mk ((by rw [hg];exact Nat.ne_of_lt (zao (zB BK143.out)):gb143≠gb154))
      have n7_:=Aside0.mk ((by rw [hg];exact Nat.ne_of_gt (zao (zB BK143.out)):gb154≠gb143))
      have n8_:=Aside0.mk ((by rw [hg];exact Nat.ne_of_lt (zao (zB BK144.out)):gb144≠gb154))
      have n9_:=Aside0.mk ((by rw [hg];exact Nat.ne_of_gt (zao (zB BK144.out)):gb154≠gb144))
      clear BK143
      clear BK144
      clear HB
      have BK143:=n0_
      have BK144:=n1_
      have HB:=n2_
      have BK154:=n3_
      have GW154:=n4_
      have GE154:=n5_
      have NB143_154:=n6_
      have NB154_143:=n7_
      have NB144_154:=n8_
      have NB154_144:=n9_
      clear n0_ n1_ n2_ n3_ n4_ n5_ n6_ n7_ n8_ n9_
      clear hb hbox hg
      refine hK.out _ _ ⟨zc BK143.out 0,zc BK143.out 1,zc BK143.out 2,zc BK143.out 3,zc BK143.out 4⟩ (fun hHeld=>?_)
      clear hK K
      refine norm_ (a':=?_) ?_ ?_
      rotate_left
      ·show Act.put _ (some 8) _=_
       exact zP
      refine one_ (i:=15) (N:=some 42) #[true,true,true,true,true,true,true,true,true,true,true,true,true,true,true,true,true,false,false,true,false] rfl rfl (zaR HT_.out (by kernel_rfl)) (by decide) (fun K hK=>?_)
      refine goesV_ Try.func56 (by kernel_rfl) rfl #[.int .i64 (wrap64 (t146+(wrap64 (Int.tdiv (wrap64 (t147+1)) 2))))] (by rfl) rfl rfl rfl zA ?_
      with_reducible refine (za9.calls (wrap64 (t146+(wrap64 (Int.tdiv (wrap64 (t147+1)) 2)))) t153 _ A6.out).mono ?_
      rintro e w68 ⟨rfl,hb⟩
      refine ⟨_,rfl,?_⟩
      replace BK143:=Aside0.mk (zaa (zB BK143.out) hb)
      replace BK144:=Aside0.mk (zaa (zB BK144.out) hb)
      replace BK154:=Aside0.mk (zaa (zB BK154.out) hb)
      replace HB:=Aside0.mk (zad (zL3 HB.out GE143.out GE144.out GE154.out) hb)
      (try clear hb)
      (try clear hb2)
      (try clear hk)
      (try clear hi)
      refine hK.out _ _ ⟨zc BK143.out 0,zc BK143.out 1,zc BK143.out 2,zc BK143.out 3,zc BK143.out 4⟩ (fun hHeld=>?_)
      clear hK K
      refine norm_ (a':=?_) ?_ ?_
      rotate_left
      ·show Act.put _ (some 42) _=_
       exact zP
      refine pure_ (i:=17) (N:=some 44) (v:=?_) (a':=?_) #[true,true,true,true,true,true,true,true,true,true,true,true,true,true,true,true,true,true,false,true,false] rfl rfl (zap HT_.out (by kernel_rfl)) (fun _ _ _ h=>h) (Or.inl ⟨by rfl,?_⟩) ?_ ?_
      rotate_left
      ·intro w'
       go_simp
       with_reducible rfl
      rotate_left
      ·exact zP
      refine pure_ (i:=18) (N:=some 45) (v:=?_) (a':=?_) #[true,true,true,true,true,true,true,true,true,true,true,true,true,true,true,true,true,true,true,true,false] rfl rfl (zap HT_.out (by kernel_rfl)) (fun _ _ _ h=>h) (Or.inl ⟨by rfl,?_⟩) ?_ ?_
      rotate_left
      ·intro w'
       go_simp
       with_reducible rfl
      rotate_left
      ·exact zP
      exact norm_ (by simp only [putAll,Act.put,List.setIfInBounds_toArray,List.set_cons_zero,List.set_cons_succ]) (hCont (gb154) _ ⟨hHeld,(zB BK143.out),(zB BK144.out),(zB BK154.out),GW154.out,GE154.out,NB143_154.out,NB154_143.out,NB144_154.out,NB154_144.out,(zL3 HB.out GE143.out GE144.out GE154.out)⟩)
    ·skip
     refine box_step ?hg (N:=8) ?hd (cs:=#[.int .i64 0,.int .i64 0,.int .i64 0,.int .i64 0]) (t:=32) ?hr ?_;(case hd=>rfl);(case hg=>rfl);(case hr=>first|(go_simp;done)|(go_simp;rfl))
     intro gb154 hg w66 hbox hb
     have n0_:=Aside0.mk (zaa (zB BK143.out) hb)
     have n1_:=Aside0.mk (zaa (zB BK144.out) hb)
     have n2_:=Aside0.mk (zad (zL2 HB.out GE143.out GE144.out) hb)
     have n3_:=Aside0.mk (hbox)
     have n4_:=Aside0.mk ((zS hg (zL2 HB.out GE143.out GE144.out):w.heap.size≤gb154))
     have n5_:=Aside0.mk ((zS hg (zL2 HB.out GE143.out GE144.out):w.heap.size≤gb154))
     have n6_:=Aside0.mk ((by rw [hg];exact Nat.ne_of_lt (zao (zB BK143.out)):gb143≠gb154))
     have n7_:=Aside0.mk ((by rw [hg];exact Nat.ne_of_gt (zao (zB BK143.out)):gb154≠gb143))
     have n8_:=Aside0.mk ((by rw [hg];exact Nat.ne_of_lt (zao (zB BK144.out)):gb144≠gb154))
     have n9_:=Aside0.mk ((by rw [hg];exact Nat.ne_of_gt (zao (zB BK144.out)):gb154≠gb144))
     clear BK143
     clear BK144
     clear HB
     have BK143:=n0_
     have BK144:=n1_
     have HB:=n2_
     have BK154:=n3_
     have GW154:=n4_
     have GE154:=n5_
     have NB143_154:=n6_
     have NB154_143:=n7_
     have NB144_154:=n8_
     have NB154_144:=n9_
     clear n0_ n1_ n2_ n3_ n4_ n5_ n6_ n7_ n8_ n9_
     clear hb hbox hg
     refine hK.out _ _ ⟨zc BK143.out 0,zc BK143.out 1,zc BK143.out 2,zc BK143.out 3,zc BK143.out 4⟩ (fun hHeld=>?_)
     clear hK K
     refine norm_ (a':=?_) ?_ ?_
     rotate_left
     ·show Act.put _ (some 8) _=_
      exact zP
     refine one_ (i:=7) (N:=some 34) #[true,true,true,true,true,true,true,true,true,false,true,true,true,true,true,false,true,false,false,true,false] rfl rfl (zaR HT_.out (by kernel_rfl)) (by decide) (fun K hK=>?_)
     refine goesV_ Try.func56 (by kernel_rfl) rfl #[.int .i64 (wrap64 (t145+(wrap64 (Int.tdiv (wrap64 (t147+1)) 2))))] (by rfl) rfl rfl rfl zA ?_
     with_reducible refine (za9.calls (wrap64 (t145+(wrap64 (Int.tdiv (wrap64 (t147+1)) 2)))) t152 _ A5.out).mono ?_
     rintro e w67 ⟨rfl,hb⟩
     refine ⟨_,rfl,?_⟩
     replace BK143:=Aside0.mk (zaa (zB BK143.out) hb)
     replace BK144:=Aside0.mk (zaa (zB BK144.out) hb)
     replace BK154:=Aside0.mk (zaa (zB BK154.out) hb)
     replace HB:=Aside0.mk (zad (zL3 HB.out GE143.out GE144.out GE154.out) hb)
     (try clear hb)
     (try clear hb2)
     (try clear hk)
     (try clear hi)
     refine hK.out _ _ ⟨zc BK143.out 0,zc BK143.out 1,zc BK143.out 2,zc BK143.out 3,zc BK143.out 4⟩ (fun hHeld=>?_)
     clear hK K
     refine norm_ (a':=?_) ?_ ?_
     rotate_left
     ·show Act.put _ (some 34) _=_
      exact zP
     refine pure_ (i:=9) (N:=some 36) (v:=?_) (a':=?_) #[true,true,true,true,true,true,true,true,true,true,true,true,true,true,true,false,true,false,false,true,false] rfl rfl (zap HT_.out (by kernel_rfl)) (fun _ _ _ h=>h) (Or.inl ⟨by rfl,?_⟩) ?_ ?_
     rotate_left
     ·intro w'
      go_simp
      with_reducible rfl
     rotate_left
     ·exact zP
     refine one_ (i:=15) (N:=some 42) #[true,true,true,true,true,true,true,true,true,true,true,true,true,true,true,true,true,false,false,true,false] rfl rfl (zaR HT_.out (by kernel_rfl)) (by decide) (fun K hK=>?_)
     refine goesV_ Try.func56 (by kernel_rfl) rfl #[.int .i64 (wrap64 (t146+(wrap64 (Int.tdiv (wrap64 (t147+1)) 2))))] (by rfl) rfl rfl rfl zA ?_
     with_reducible refine (za9.calls (wrap64 (t146+(wrap64 (Int.tdiv (wrap64 (t147+1)) 2)))) t153 _ A6.out).mono ?_
     rintro e w68 ⟨rfl,hb⟩
     refine ⟨_,rfl,?_⟩
     replace BK143:=Aside0.mk (zaa (zB BK143.out) hb)
     replace BK144:=Aside0.mk (zaa (zB BK144.out) hb)
     replace BK154:=Aside0.mk (zaa (zB BK154.out) hb)
     replace HB:=Aside0.mk (zad (zL3 HB.out GE143.out GE144.out GE154.out) hb)
     (try clear hb)
     (try clear hb2)
     (try clear hk)
     (try clear hi)
     refine hK.out _ _ ⟨zc BK143.out 0,zc BK143.out 1,zc BK143.out 2,zc BK143.out 3,zc BK143.out 4⟩ (fun hHeld=>?_)
     clear hK K
     refine norm_ (a':=?_) ?_ ?_
     rotate_left
     ·show Act.put _ (some 42) _=_
      exact zP
     refine pure_ (i:=17) (N:=some 44) (v:=?_) (a':=?_) #[true,true,true,true,true,true,true,true,true,true,true,true,true,true,true,true,true,true,false,true,false] rfl rfl (zap HT_.out (by kernel_rfl)) (fun _ _ _ h=>h) (Or.inl ⟨by rfl,?_⟩) ?_ ?_
     rotate_left
     ·intro w'
      go_simp
      with_reducible rfl
     rotate_left
     ·exact zP
     refine pure_ (i:=18) (N:=some 45) (v:=?_) (a':=?_) #[true,true,true,true,true,true,true,true,true,true,true,true,true,true,true,true,true,true,true,true,false] rfl rfl (zap HT_.out (by kernel_rfl)) (fun _ _ _ h=>h) (Or.inl ⟨by rfl,?_⟩) ?_ ?_
     rotate_left
     ·intro w'
      go_simp
      with_reducible rfl
     rotate_left
     ·exact zP
     exact norm_ (by simp only [putAll,Act.put,List.setIfInBounds_toArray,List.set_cons_zero,List.set_cons_succ]) (hCont (gb154) _ ⟨hHeld,(zB BK143.out),(zB BK144.out),(zB BK154.out),GW154.out,GE154.out,NB143_154.out,NB154_143.out,NB144_154.out,NB154_144.out,(zL3 HB.out GE143.out GE144.out GE154.out)⟩)
   rintro gb154 w69 ⟨hS_,h0_,h1_,h2_,h3_,h4_,h5_,h6_,h7_,h8_,h9_⟩
   have n0_:Aside0 (w69.heap[gb143]? = some (.cells #[.int .i64 t145,.int .i64 t146,.int .i64 t147,.int .i64 t148,.int .i64 t149] 28 (0,0))):=⟨h0_⟩
   have n1_:Aside0 (w69.heap[gb144]? = some (.cells #[.int .i64 0,.int .i64 0,.int .i64 0,.int .i64 0] 32 (0,0))):=⟨h1_⟩
   have n2_:Aside0 (w69.heap[gb154]? = some (.cells #[.int .i64 0,.int .i64 0,.int .i64 0,.int .i64 0] 32 (0,0))):=⟨h2_⟩
   have n3_:Aside0 (w.heap.size≤gb154):=⟨h3_⟩
   have n4_:Aside0 (w.heap.size≤gb154):=⟨h4_⟩
   have n5_:Aside0 (gb143≠gb154):=⟨h5_⟩
   have n6_:Aside0 (gb154≠gb143):=⟨h6_⟩
   have n7_:Aside0 (gb144≠gb154):=⟨h7_⟩
   have n8_:Aside0 (gb154≠gb144):=⟨h8_⟩
   have n9_:Aside0 (Below w.heap.size w w69):=⟨h9_⟩
   clear BK143
   clear BK144
   clear HB
   clear h0_ h1_ h2_ h3_ h4_ h5_ h6_ h7_ h8_ h9_
   have BK143:=n0_
   have BK144:=n1_
   have BK154:=n2_
   have GW154:=n3_
   have GE154:=n4_
   have NB143_154:=n5_
   have NB154_143:=n6_
   have NB144_154:=n7_
   have NB154_144:=n8_
   have HB:=n9_
   clear n0_ n1_ n2_ n3_ n4_ n5_ n6_ n7_ n8_ n9_
   have hHeld:w69.cell? ⟨gb143,0,none⟩=some (.int .i64 t145)∧w69.cell? ⟨gb143,1,none⟩=some (.int .i64 t146)∧w69.cell? ⟨gb143,2,none⟩=some (.int .i64 t147)∧w69.cell? ⟨gb143,3,none⟩=some (.int .i64 t148)∧w69.cell? ⟨gb143,4,none⟩=some (.int .i64 t149):=hS_
   refine norm_ (a':=?_) ?_ ?_
   rotate_left
   ·simp only [putAll,Act.put,List.setIfInBounds_toArray,List.set_cons_zero,List.set_cons_succ]
    rfl
   refine one_ (i:=20) (N:=none) #[true,true,true,true,true,true,true,true,true,true,true,true,true,true,true,true,true,true,true,true,true] rfl rfl (zaR HT_.out (by kernel_rfl)) (by decide) (fun K hK=>?_)
   have hs70:w69.cell? ⟨gb154,0,none⟩=some (.int .i64 0):=zc BK154.out 0
   have hfs70:=zaB BK154.out 0
   have hns70_0:=NB143_154.out
   have hns70_1:=NB144_154.out
   have hms70_0:=NB154_143.out
   have hms70_1:=NB154_144.out
   have hs71:w69.cell? ⟨gb154,1,none⟩=some (.int .i64 0):=zc BK154.out 1
   have hfs71:=zaB BK154.out 1
   have hns71_0:=NB143_154.out
   have hns71_1:=NB144_154.out
   have hms71_0:=NB154_143.out
   have hms71_1:=NB154_144.out
   have hs72:w69.cell? ⟨gb154,2,none⟩=some (.int .i64 0):=zc BK154.out 2
   have hfs72:=zaB BK154.out 2
   have hns72_0:=NB143_154.out
   have hns72_1:=NB144_154.out
   have hms72_0:=NB154_143.out
   have hms72_1:=NB154_144.out
   have hs73:w69.cell? ⟨gb154,3,none⟩=some (.int .i64 0):=zc BK154.out 3
   have hfs73:=zaB BK154.out 3
   have hns73_0:=NB143_154.out
   have hns73_1:=NB144_154.out
   have hms73_0:=NB154_143.out
   have hms73_1:=NB154_144.out
   refine skip_ (w1:=?_) (by rfl) rfl ?_ ?_
   rotate_left
   ·go_simp
    rfl
   refine hK.out _ _ ⟨((zar (p:=⟨gb154,_,none⟩) NB143_154.out _).trans (((zar (p:=⟨gb154,_,none⟩) NB143_154.out _).trans (((zar (p:=⟨gb154,_,none⟩) NB143_154.out _).trans (((zar (p:=⟨gb154,_,none⟩) NB143_154.out _).trans (hHeld.1)))))))),((zar (p:=⟨gb154,_,none⟩) NB143_154.out _).trans (((zar (p:=⟨gb154,_,none⟩) NB143_154.out _).trans (((zar (p:=⟨gb154,_,none⟩) NB143_154.out _).trans (((zar (p:=⟨gb154,_,none⟩) NB143_154.out _).trans (hHeld.2.1)))))))),((zar (p:=⟨gb154,_,none⟩) NB143_154.out _).trans (((zar (p:=⟨gb154,_,none⟩) NB143_154.out _).trans (((zar (p:=⟨gb154,_,none⟩) NB143_154.out _).trans (((zar (p:=⟨gb154,_,none⟩) NB143_154.out _).trans (hHeld.2.2.1)))))))),((zar (p:=⟨gb154,_,none⟩) NB143_154.out _).trans (((zar (p:=⟨gb154,_,none⟩) NB143_154.out _).trans (((zar (p:=⟨gb154,_,none⟩) NB143_154.out _).trans (((zar (p:=⟨gb154,_,none⟩) NB143_154.out _).trans (hHeld.2.2.2.1)))))))),((zar (p:=⟨gb154,_,none⟩) NB143_154.out _).trans (((zar (p:=⟨gb154,_,none⟩) NB143_154.out _).trans (((zar (p:=⟨gb154,_,none⟩) NB143_154.out _).trans (((zar (p:=⟨gb154,_,none⟩) NB143_154.out _).trans (hHeld.2.2.2.2))))))))⟩ (fun hHeld=>?_)
   clear hK K
   refine done_ (zbr HT_.out (by kernel_rfl)) ?_
   have hnb74:=NB154_143.out
   have hnc74:=NB143_154.out
   have hnb75:=NB154_144.out
   have hnc75:=NB144_154.out
   obtain ⟨hcz76_0,hcz76_1,hcz76_2,hcz76_3⟩:=zD4 BK154.out
   obtain ⟨hfz76_0,hfz76_1,hfz76_2,hfz76_3⟩:=zE4 BK154.out
   obtain ⟨hcz77_0,hcz77_1,hcz77_2,hcz77_3⟩:=zD4 BK144.out
   obtain ⟨hfz77_0,hfz77_1,hfz77_2,hfz77_3⟩:=zE4 BK144.out
   try go_wp2
   refine bodyPost_ret (results_cell_row rfl _ _ gb144 32 #[.int .i64 t150,.int .i64 t151,.int .i64 (wrap64 (t152 - t150)),.int .i64 (wrap64 (t153 - t151))] (0,0) _ rfl (by refine zB ?_;refine zae (cs:=#[.int .i64 t150,.int .i64 t151,.int .i64 (wrap64 (t152 - t150)),.int .i64 0]) ?_ 3 _ rfl;refine zB ?_;refine zae (cs:=#[.int .i64 t150,.int .i64 t151,.int .i64 0,.int .i64 0]) ?_ 2 _ rfl;refine zB ?_;refine zae (cs:=#[.int .i64 t150,.int .i64 0,.int .i64 0,.int .i64 0]) ?_ 1 _ rfl;refine zB ?_;refine zae (cs:=#[.int .i64 0,.int .i64 0,.int .i64 0,.int .i64 0]) ?_ 0 _ rfl;refine zB ?_;refine zab ?_ NB144_154.out _;refine zB ?_;refine zab ?_ NB144_154.out _;refine zB ?_;refine zab ?_ NB144_154.out _;refine zB ?_;refine zab ?_ NB144_154.out _;refine zB ?_;exact BK144.out) Try.underlying32 rfl (by kernel_rfl)) rfl ?_
   exact ⟨by first|rfl|(simp [errW_none,errW_some] <;> rfl)|(simp [*,errW_none,errW_some] <;> rfl),by repeat (first|(with_reducible first|exact HB.out|apply zai|apply zaf|apply zag|refine zac ?_ GE143.out|refine zac ?_ GE144.out|refine zac ?_ GE154.out)|exact HB.out)⟩
end Go.Proofs.Ytlilncnoohfcdaa.Da
