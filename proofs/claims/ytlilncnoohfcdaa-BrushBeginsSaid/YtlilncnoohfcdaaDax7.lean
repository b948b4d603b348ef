
import Derived.Test.YtlilncnoohfcdaaDax0
import Derived.Test.YtlilncnoohfcdaaDax6
namespace Go.Proofs.Ytlilncnoohfcdaa.Da
open Go.RowKit Go.Proofs.YtlilncnoohfcdaaW.PrintWords Go.Proofs.YtlilncnoohfcdaaW.PrintLast Go.Proofs.YtlilncnoohfcdaaW.PrintMore
attribute [local go_sem] zbr zbu zbD zbH zbq zbp zbv zbt   
set_option linter.unusedVariables false
set_option linter.unusedSimpArgs false
/-! ### dab_Box: function 16 -/
def zbO.f (j7:Int) (j6:Int) (j4:Int) (j2:Int) (i9:Int):Option (Int×Int×Int×Int):=(zbW.f j7 j6 j4 j2 i9).bind fun j5=>((zca.f (wrap64 (j5.1 - (wrap64 (Int.tdiv (wrap64 (j5.2.2.1+1)) 2))))).bind fun g9=>((zca.f (wrap64 (j5.2.1 - (wrap64 (Int.tdiv (wrap64 (j5.2.2.1+1)) 2))))).bind fun i3=>((zbw.f (wrap64 (j5.1+(wrap64 (Int.tdiv (wrap64 (j5.2.2.1+1)) 2))))).bind fun i5=>((zbw.f (wrap64 (j5.2.1+(wrap64 (Int.tdiv (wrap64 (j5.2.2.1+1)) 2))))).bind fun i4=>(if (wrap64 (i5 - g9))≤0 then (some (0,0,0,0)) else (if (wrap64 (i4 - i3))≤0 then (some (0,0,0,0)) else (some (g9,i3,wrap64 (i5 - g9),wrap64 (i4 - i3)))))))))
def zbO.T5:Bool×List (List Nat×List Nat):=(true,[([],[]),([],[]),([1],[1]),([],[]),([2,3],[2,3]),([0,4],[0,4]),([],[]),([],[]),([7],[7]),([],[]),([8,9],[8,9]),([6,10,5],[6,10]),([5,11,0,1,2,3,4,5],[5]),([11,12,0,1,2,3,4,5,6,7,8,9,10,11,12],[11])])
def zbO.B5:List Nat:=[0,0,2,0,14,31,0,0,128,0,896,2047,4095,8191]
theorem zbO.tab5:rtab .any (opsOf Try.f16 5)=zbO.T5:=by kernel_rfl
theorem zbO.bits5:zbE zbO.T5.2 zbO.B5=true:=by kernel_rfl
def zbO.T6:Bool×List (List Nat×List Nat):=(true,[([],[]),([],[]),([],[]),([],[]),([3],[3]),([],[]),([4,5],[4,5]),([2,6],[2,6]),([],[]),([7,8],[7,8]),([],[]),([],[]),([11],[11]),([],[]),([12,13],[12,13]),([10,14,7],[10,14]),([],[]),([15,16],[15,16]),([0,1,9,17],[0,1,9,17]),([],[]),([19,18,15,0,1,2,3,4,5,6,7,8,9,10,11,12,13,14,15,16,17,18,19],[18,19])])
def zbO.B6:List Nat:=[0,0,0,0,8,0,56,124,0,508,0,0,2048,0,14336,31996,0,130300,262143,0,1048575]
theorem zbO.tab6:rtab .any (opsOf Try.f16 6)=zbO.T6:=by kernel_rfl
theorem zbO.bits6:zbE zbO.T6.2 zbO.B6=true:=by kernel_rfl
set_option maxHeartbeats 8000000 in
set_option maxRecDepth 100000 in
theorem zbO.calls (j7:Int) (j6:Int) (j4:Int) (j2:Int) (i9:Int) (r1:Int) (r2:Int) (r3:Int) (r4:Int) (w:World) (h:zbO.f j7 j6 j4 j2 i9=some (r1,r2,r3,r4)) :
 Calls Try.prog 16 #[.agg #[.int .i64 j7,.int .i64 j6,.int .i64 j4,.int .i64 j2,.int .i64 i9]] w fun e w'=>e = .returned (.agg #[.int .i64 r1,.int .i64 r2,.int .i64 r3,.int .i64 r4])∧Below w.heap.size w w':=by
 have hu28:=Try.underlying28
 have hu32:=Try.underlying32
 have HB:=zaa.mk (Below.refl w.heap.size w)
 have H:((zbW.f j7 j6 j4 j2 i9).bind fun j5=>((zca.f (wrap64 (j5.1 - (wrap64 (Int.tdiv (wrap64 (j5.2.2.1+1)) 2))))).bind fun g9=>((zca.f (wrap64 (j5.2.1 - (wrap64 (Int.tdiv (wrap64 (j5.2.2.1+1)) 2))))).bind fun i3=>((zbw.f (wrap64 (j5.1+(wrap64 (Int.tdiv (wrap64 (j5.2.2.1+1)) 2))))).bind fun i5=>((zbw.f (wrap64 (j5.2.1+(wrap64 (Int.tdiv (wrap64 (j5.2.2.1+1)) 2))))).bind fun i4=>(if (wrap64 (i5 - g9))≤0 then (some (0,0,0,0)) else (if (wrap64 (i4 - i3))≤0 then (some (0,0,0,0)) else (some (g9,i3,wrap64 (i5 - g9),wrap64 (i4 - i3))))))))))=some (r1,r2,r3,r4):=h
 clear h
 obtain ⟨⟨f5,e9,d8,i6,i8⟩,A2,H⟩:=zob H
 replace H:((zca.f (wrap64 (f5 - (wrap64 (Int.tdiv (wrap64 (d8+1)) 2))))).bind fun g9=>((zca.f (wrap64 (e9 - (wrap64 (Int.tdiv (wrap64 (d8+1)) 2))))).bind fun i3=>((zbw.f (wrap64 (f5+(wrap64 (Int.tdiv (wrap64 (d8+1)) 2))))).bind fun i5=>((zbw.f (wrap64 (e9+(wrap64 (Int.tdiv (wrap64 (d8+1)) 2))))).bind fun i4=>(if (wrap64 (i5 - g9))≤0 then (some (0,0,0,0)) else (if (wrap64 (i4 - i3))≤0 then (some (0,0,0,0)) else (some (g9,i3,wrap64 (i5 - g9),wrap64 (i4 - i3)))))))))=some (r1,r2,r3,r4):=H
 obtain ⟨g9,A3,H⟩:=zob H
 replace H:((zca.f (wrap64 (e9 - (wrap64 (Int.tdiv (wrap64 (d8+1)) 2))))).bind fun i3=>((zbw.f (wrap64 (f5+(wrap64 (Int.tdiv (wrap64 (d8+1)) 2))))).bind fun i5=>((zbw.f (wrap64 (e9+(wrap64 (Int.tdiv (wrap64 (d8+1)) 2))))).bind fun i4=>(if (wrap64 (i5 - g9))≤0 then (some (0,0,0,0)) else (if (wrap64 (i4 - i3))≤0 then (some (0,0,0,0)) else (some (g9,i3,wrap64 (i5 - g9),wrap64 (i4 - i3))))))))=some (r1,r2,r3,r4):=H
 obtain ⟨i3,A4,H⟩:=zob H
 replace H:((zbw.f (wrap64 (f5+(wrap64 (Int.tdiv (wrap64 (d8+1)) 2))))).bind fun i5=>((zbw.f (wrap64 (e9+(wrap64 (Int.tdiv (wrap64 (d8+1)) 2))))).bind fun i4=>(if (wrap64 (i5 - g9))≤0 then (some (0,0,0,0)) else (if (wrap64 (i4 - i3))≤0 then (some (0,0,0,0)) else (some (g9,i3,wrap64 (i5 - g9),wrap64 (i4 - i3)))))))=some (r1,r2,r3,r4):=H
 obtain ⟨i5,A5,H⟩:=zob H
 replace H:((zbw.f (wrap64 (e9+(wrap64 (Int.tdiv (wrap64 (d8+1)) 2))))).bind fun i4=>(if (wrap64 (i5 - g9))≤0 then (some (0,0,0,0)) else (if (wrap64 (i4 - i3))≤0 then (some (0,0,0,0)) else (some (g9,i3,wrap64 (i5 - g9),wrap64 (i4 - i3))))))=some (r1,r2,r3,r4):=H
 obtain ⟨i4,A6,H⟩:=zob H
 replace H:(if (wrap64 (i5 - g9))≤0 then (some (0,0,0,0)) else (if (wrap64 (i4 - i3))≤0 then (some (0,0,0,0)) else (some (g9,i3,wrap64 (i5 - g9),wrap64 (i4 - i3)))))=some (r1,r2,r3,r4):=H
 by_cases c7:(wrap64 (i5 - g9))≤0
 ·rw [if_pos c7] at H
  have c7b0:decide ((wrap64 (i5 - g9))≤0)=true:=decide_eq_true c7
  clear c7
  simp only [Option.some.injEq,Prod.mk.injEq] at H
  obtain ⟨rfl,rfl,rfl,rfl⟩:=H
  go_enter Try.func16,Try.ntmps16
  try go_wp2_with (first|((with_reducible refine zaC (N:=1) rfl ?_);refine zbx (N:=1) #[.int .i64 j7,.int .i64 j6,.int .i64 j4,.int .i64 j2,.int .i64 i9] 28 ?_;intro b9 hg w8 hbox hb;have n0_:=zaa.mk (zae (zL HB.out) hb);have n1_:=zaa.mk (hbox);have n2_:=zaa.mk ((zS hg (zL HB.out):w.heap.size≤b9));have n3_:=n2_;clear HB;have HB:=n0_;have b8:=n1_;have j9:=n2_;have d9:=n3_;clear n0_ n1_ n2_ n3_;clear hb hbox hg)|((with_reducible refine zaC (N:=2) rfl ?_);refine zbx (N:=2) #[.int .i64 0,.int .i64 0,.int .i64 0,.int .i64 0] 32 ?_;intro i7 hg w9 hbox hb;have n0_:=zaa.mk (zac (zB b8.out) hb);have n1_:=zaa.mk (zae (zL1 HB.out d9.out) hb);have n2_:=zaa.mk (hbox);have n3_:=zaa.mk ((zS hg (zL1 HB.out d9.out):w.heap.size≤i7));have n4_:=n3_;have n5_:=zaa.mk (zne hg (zB b8.out));have n6_:=zaa.mk (zen hg (zB b8.out));clear b8;clear HB;have b8:=n0_;have HB:=n1_;have d5:=n2_;have k3:=n3_;have e6:=n4_;have j8:=n5_;have f7:=n6_;clear n0_ n1_ n2_ n3_ n4_ n5_ n6_;clear hb hbox hg;have hnb10:=j8.out;have hnc10:=f7.out;obtain ⟨k4,k5,k6,k7,k8⟩:=zD5 b8.out;obtain ⟨k9,l3,l4,l5,l6⟩:=zE5 b8.out)|((with_reducible refine zah (f:=52) rfl ?_);refine zgl 10 Try.func52 #[.agg #[.int .i64 j7,.int .i64 j6,.int .i64 j4,.int .i64 j2,.int .i64 i9]] ?_;(with_reducible refine (zbW.calls j7 j6 j4 j2 i9 f5 e9 d8 i6 i8 _ A2.out).mono ?_);rintro e w12 ⟨rfl,hb⟩;refine ⟨_,rfl,?_⟩;replace b8:=zaa.mk (zac (zB b8.out) hb);replace d5:=zaa.mk (zac (zB d5.out) hb);replace HB:=zaa.mk (zae (zL2 HB.out d9.out e6.out) hb);(try clear hb);obtain ⟨l7,l8,l9,m5,m6⟩:=zD5 b8.out;obtain ⟨m7,m8,m9,n0,n3⟩:=zE5 b8.out))
  have n0_:zaa ((((((w12.setCell ⟨b9,0,none⟩ (.int .i64 f5)).setCell ⟨b9,1,none⟩ (.int .i64 e9)).setCell ⟨b9,2,none⟩ (.int .i64 d8)).setCell ⟨b9,3,none⟩ (.int .i64 i6)).setCell ⟨b9,4,none⟩ (.int .i64 i8)).heap[b9]? = some (.cells #[.int .i64 f5,.int .i64 e9,.int .i64 d8,.int .i64 i6,.int .i64 i8] 28 (0,0))):=⟨by refine zB ?_;refine zar (cs:=#[.int .i64 f5,.int .i64 e9,.int .i64 d8,.int .i64 i6,.int .i64 i9]) ?_ 4 _ rfl;refine zB ?_;refine zar (cs:=#[.int .i64 f5,.int .i64 e9,.int .i64 d8,.int .i64 j2,.int .i64 i9]) ?_ 3 _ rfl;refine zB ?_;refine zar (cs:=#[.int .i64 f5,.int .i64 e9,.int .i64 j4,.int .i64 j2,.int .i64 i9]) ?_ 2 _ rfl;refine zB ?_;refine zar (cs:=#[.int .i64 f5,.int .i64 j6,.int .i64 j4,.int .i64 j2,.int .i64 i9]) ?_ 1 _ rfl;refine zB ?_;refine zar (cs:=#[.int .i64 j7,.int .i64 j6,.int .i64 j4,.int .i64 j2,.int .i64 i9]) ?_ 0 _ rfl;refine zB ?_;exact b8.out⟩
  have n1_:zaa ((((((w12.setCell ⟨b9,0,none⟩ (.int .i64 f5)).setCell ⟨b9,1,none⟩ (.int .i64 e9)).setCell ⟨b9,2,none⟩ (.int .i64 d8)).setCell ⟨b9,3,none⟩ (.int .i64 i6)).setCell ⟨b9,4,none⟩ (.int .i64 i8)).heap[i7]? = some (.cells #[.int .i64 0,.int .i64 0,.int .i64 0,.int .i64 0] 32 (0,0))):=⟨by refine zB ?_;refine zaA ?_ f7.out _;refine zB ?_;refine zaA ?_ f7.out _;refine zB ?_;refine zaA ?_ f7.out _;refine zB ?_;refine zaA ?_ f7.out _;refine zB ?_;refine zaA ?_ f7.out _;refine zB ?_;exact d5.out⟩
  have n2_:zaa (Below w.heap.size w (((((w12.setCell ⟨b9,0,none⟩ (.int .i64 f5)).setCell ⟨b9,1,none⟩ (.int .i64 e9)).setCell ⟨b9,2,none⟩ (.int .i64 d8)).setCell ⟨b9,3,none⟩ (.int .i64 i6)).setCell ⟨b9,4,none⟩ (.int .i64 i8))):=⟨by repeat (first|(with_reducible first|exact HB.out|apply zan|apply zaj|apply zai|refine zao ?_ d9.out|refine zao ?_ e6.out)|exact HB.out)⟩
  (try clear b8)
  (try clear d5)
  (try clear HB)
  generalize (((((w12.setCell ⟨b9,0,none⟩ (.int .i64 f5)).setCell ⟨b9,1,none⟩ (.int .i64 e9)).setCell ⟨b9,2,none⟩ (.int .i64 d8)).setCell ⟨b9,3,none⟩ (.int .i64 i6)).setCell ⟨b9,4,none⟩ (.int .i64 i8))=w14 at n0_ n1_ n2_ ⊢
  have b8:=n0_
  have d5:=n1_
  have HB:=n2_
  clear n0_ n1_ n2_
  replace b8:=zaa.mk (zaM b8.out)
  replace d5:=zaa.mk (zaM d5.out)
  replace HB:=zaa.mk (zai HB.out)
  refine zbA (n:=14) (S:=fun w'=>w'.cell? ⟨b9,0,none⟩=some (.int .i64 f5)∧w'.cell? ⟨b9,1,none⟩=some (.int .i64 e9)∧w'.cell? ⟨b9,2,none⟩=some (.int .i64 d8)∧w'.cell? ⟨b9,3,none⟩=some (.int .i64 i6)∧w'.cell? ⟨b9,4,none⟩=some (.int .i64 i8)) (ds:=[]) #[false,false,false,false,false,false,false,false,false,false,false,false,false,false] (by kernel_rfl) rfl rfl (zD5 b8.out) (fun hHeld=>?_);refine zbn zbO.tab5 zbO.bits5 (fun HT_ HW_=>?_)
  generalize w14.drew=w15 at b8 d5 HB hHeld ⊢
  refine zpu 0 15 HT_.out ?_
  refine zpu 1 16 HT_.out ?_
  refine zpu 3 18 HT_.out ?_
  refine zpu 6 21 HT_.out ?_
  refine zpu 7 22 HT_.out ?_
  refine zpu 9 24 HT_.out ?_
  refine ztk 2 17 HT_.out HW_.out hHeld ?_
  refine zpu 4 19 HT_.out ?_
  refine ztk 8 23 HT_.out HW_.out hHeld ?_
  refine zpu 10 25 HT_.out ?_
  refine zon 5 (some 20) HT_.out (fun K hK=>?_)
  refine zcl Try.func53 (by kernel_rfl) rfl #[.int .i64 (wrap64 (f5 - (wrap64 (Int.tdiv (wrap64 (d8+1)) 2))))] (by rfl) rfl rfl rfl zA ?_
  with_reducible refine (zca.calls (wrap64 (f5 - (wrap64 (Int.tdiv (wrap64 (d8+1)) 2)))) g9 _ A3.out).mono ?_
  rintro e w16 ⟨rfl,hb⟩
  refine ⟨_,rfl,?_⟩
  replace b8:=zaa.mk (zac (zB b8.out) hb)
  replace d5:=zaa.mk (zac (zB d5.out) hb)
  replace HB:=zaa.mk (zae (zL2 HB.out d9.out e6.out) hb)
  (try clear hb)
  refine hK.out _ _ (zD5 b8.out) (fun hHeld=>?_)
  clear hK K
  refine znm ?_
  refine zon 11 (some 26) HT_.out (fun K hK=>?_)
  refine zcl Try.func53 (by kernel_rfl) rfl #[.int .i64 (wrap64 (e9 - (wrap64 (Int.tdiv (wrap64 (d8+1)) 2))))] (by rfl) rfl rfl rfl zA ?_
  with_reducible refine (zca.calls (wrap64 (e9 - (wrap64 (Int.tdiv (wrap64 (d8+1)) 2)))) i3 _ A4.out).mono ?_
  rintro e w17 ⟨rfl,hb⟩
  refine ⟨_,rfl,?_⟩
  replace b8:=zaa.mk (zac (zB b8.out) hb)
  replace d5:=zaa.mk (zac (zB d5.out) hb)
  replace HB:=zaa.mk (zae (zL2 HB.out d9.out e6.out) hb)
  (try clear hb)
  refine hK.out _ _ (zD5 b8.out) (fun hHeld=>?_)
  clear hK K
  refine znm ?_
  refine zpu 12 6 HT_.out ?_
  refine zpu 13 7 HT_.out ?_
  refine zbT (zbB HT_.out (by kernel_rfl)) ?_
  try go_wp2
  replace b8:=zaa.mk (zaM b8.out)
  replace d5:=zaa.mk (zaM d5.out)
  replace HB:=zaa.mk (zai HB.out)
  refine zbA (n:=21) (S:=fun w'=>w'.cell? ⟨b9,0,none⟩=some (.int .i64 f5)∧w'.cell? ⟨b9,1,none⟩=some (.int .i64 e9)∧w'.cell? ⟨b9,2,none⟩=some (.int .i64 d8)∧w'.cell? ⟨b9,3,none⟩=some (.int .i64 i6)∧w'.cell? ⟨b9,4,none⟩=some (.int .i64 i8)) (ds:=[]) #[false,false,false,false,false,false,false,false,false,false,false,false,false,false,false,false,false,false,false,false,false] (by kernel_rfl) rfl rfl (zD5 b8.out) (fun hHeld=>?_);refine zbn zbO.tab6 zbO.bits6 (fun HT_ HW_=>?_)
  generalize w17.drew=w18 at b8 d5 HB hHeld ⊢
  refine zpu 0 27 HT_.out ?_
  refine zpu 1 28 HT_.out ?_
  refine zpu 2 29 HT_.out ?_
  refine zpu 3 30 HT_.out ?_
  refine zpu 5 32 HT_.out ?_
  refine zpu 8 35 HT_.out ?_
  refine zpu 10 37 HT_.out ?_
  refine zpu 11 38 HT_.out ?_
  refine zpu 13 40 HT_.out ?_
  refine zpu 16 43 HT_.out ?_
  refine ztk 4 31 HT_.out HW_.out hHeld ?_
  refine zpu 6 33 HT_.out ?_
  refine ztk 12 39 HT_.out HW_.out hHeld ?_
  refine zpu 14 41 HT_.out ?_
  refine join_ (σ:=Nat) 1 #[true,true,true,true,true,true,true,true,true,true,true,true,true,true,true,true,true,true,true,true,false] (fun s_=>[(34,.int .i64 i5),(42,.int .i64 i4),(8,.pointer (some ⟨s_,0,none⟩)),(36,.int .i64 (wrap64 (i5 - g9))),(44,.int .i64 (wrap64 (i4 - i3))),(45,.agg #[.int .i64 g9,.int .i64 i3,.int .i64 (wrap64 (i5 - g9)),.int .i64 (wrap64 (i4 - i3))])]) (fun s_ w'=>(w'.cell? ⟨b9,0,none⟩=some (.int .i64 f5)∧w'.cell? ⟨b9,1,none⟩=some (.int .i64 e9)∧w'.cell? ⟨b9,2,none⟩=some (.int .i64 d8)∧w'.cell? ⟨b9,3,none⟩=some (.int .i64 i6)∧w'.cell? ⟨b9,4,none⟩=some (.int .i64 i8))∧(w'.heap[b9]? = some (.cells #[.int .i64 f5,.int .i64 e9,.int .i64 d8,.int .i64 i6,.int .i64 i8] 28 (0,0)))∧(w'.heap[i7]? = some (.cells #[.int .i64 0,.int .i64 0,.int .i64 0,.int .i64 0] 32 (0,0)))∧(w'.heap[s_]? = some (.cells #[.int .i64 0,.int .i64 0,.int .i64 0,.int .i64 0] 32 (0,0)))∧(w.heap.size≤s_)∧(w.heap.size≤s_)∧(b9≠s_)∧(s_≠b9)∧(i7≠s_)∧(s_≠i7)∧(Below w.heap.size w w')) ?_ ?_
  rotate_left
  ·intro hCont
   refine two_ (i:=7) (j:=19) (Ni:=some 34) (Nj:=some 8) #[true,true,true,true,true,true,true,true,true,false,true,true,true,true,true,false,true,false,false,false,false] #[true,true,true,true,true,true,true,false,true,false,true,true,true,true,true,false,true,false,false,true,false] rfl rfl rfl rfl (two_of HT_.out (by kernel_rfl)) (by decide) (by decide) (fun K hK=>?_) (fun K hK=>?_)
   ·skip
    refine zcl Try.func56 (by kernel_rfl) rfl #[.int .i64 (wrap64 (f5+(wrap64 (Int.tdiv (wrap64 (d8+1)) 2))))] (by rfl) rfl rfl rfl zA ?_
    with_reducible refine (zbw.calls (wrap64 (f5+(wrap64 (Int.tdiv (wrap64 (d8+1)) 2)))) i5 _ A5.out).mono ?_
    rintro e w19 ⟨rfl,hb⟩
    refine ⟨_,rfl,?_⟩
    replace b8:=zaa.mk (zac (zB b8.out) hb)
    replace d5:=zaa.mk (zac (zB d5.out) hb)
    replace HB:=zaa.mk (zae (zL2 HB.out d9.out e6.out) hb)
    (try clear hb)
    refine hK.out _ _ (zD5 b8.out) (fun hHeld=>?_)
    clear hK K
    refine znm ?_
    refine zpu 9 36 HT_.out ?_
    refine two_ (i:=15) (j:=19) (Ni:=some 42) (Nj:=some 8) #[true,true,true,true,true,true,true,true,true,true,true,true,true,true,true,true,true,false,false,false,false] #[true,true,true,true,true,true,true,true,true,true,true,true,true,true,true,false,true,false,false,true,false] rfl rfl rfl rfl (two_of HT_.out (by kernel_rfl)) (by decide) (by decide) (fun K hK=>?_) (fun K hK=>?_)
    ·skip
     refine zcl Try.func56 (by kernel_rfl) rfl #[.int .i64 (wrap64 (e9+(wrap64 (Int.tdiv (wrap64 (d8+1)) 2))))] (by rfl) rfl rfl rfl zA ?_
     with_reducible refine (zbw.calls (wrap64 (e9+(wrap64 (Int.tdiv (wrap64 (d8+1)) 2)))) i4 _ A6.out).mono ?_
     rintro e w20 ⟨rfl,hb⟩
     refine ⟨_,rfl,?_⟩
     replace b8:=zaa.mk (zac (zB b8.out) hb)
     replace d5:=zaa.mk (zac (zB d5.out) hb)
     replace HB:=zaa.mk (zae (zL2 HB.out d9.out e6.out) hb)
     (try clear hb)
     refine hK.out _ _ (zD5 b8.out) (fun hHeld=>?_)
     clear hK K
     refine znm ?_
     refine zpu 17 44 HT_.out ?_
     refine zpu 18 45 HT_.out ?_
     refine zon 19 (some 8) HT_.out (fun K hK=>?_)
     refine zcb ?hg (N:=8) ?hd (cs:=#[.int .i64 0,.int .i64 0,.int .i64 0,.int .i64 0]) (t:=32) ?hr ?_;(case hd=>rfl);(case hg=>rfl);(case hr=>first|(go_simp;done)|(go_simp;rfl))
     intro e0 hg w21 hbox hb
     have n0_:=zaa.mk (zac (zB b8.out) hb)
     have n1_:=zaa.mk (zac (zB d5.out) hb)
     have n2_:=zaa.mk (zae (zL2 HB.out d9.out e6.out) hb)
     have n3_:=zaa.mk (hbox)
     have n4_:=zaa.mk ((zS hg (zL2 HB.out d9.out e6.out):w.heap.size≤e0))
     have n5_:=zaa.mk ((zS hg (zL2 HB.out d9.out e6.out):w.heap.size≤e0))
     have n6_:=zaa.mk (zne hg (zB b8.out))
     have n7_:=zaa.mk (zen hg (zB b8.out))
     have n8_:=zaa.mk (zne hg (zB d5.out))
     have n9_:=zaa.mk (zen hg (zB d5.out))
     clear b8
     clear d5
     clear HB
     have b8:=n0_
     have d5:=n1_
     have HB:=n2_
     have e5:=n3_
     have j3:=n4_
     have f6:=n5_
     have d6:=n6_
     have e7:=n7_
     have d7:=n8_
     have e8:=n9_
     clear n0_ n1_ n2_ n3_ n4_ n5_ n6_ n7_ n8_ n9_
     clear hb hbox hg
     refine hK.out _ _ (zD5 b8.out) (fun hHeld=>?_)
     clear hK K
     refine znm ?_
     exact norm_ (by simp only [zcg,Act.put,List.setIfInBounds_toArray,List.set_cons_zero,List.set_cons_succ]) (hCont (e0) _ ⟨hHeld,(zB b8.out),(zB d5.out),(zB e5.out),j3.out,f6.out,d6.out,e7.out,d7.out,e8.out,(zL3 HB.out d9.out e6.out f6.out)⟩)
    ·skip
     refine zcb ?hg (N:=8) ?hd (cs:=#[.int .i64 0,.int .i64 0,.int .i64 0,.int .i64 0]) (t:=32) ?hr ?_;(case hd=>rfl);(case hg=>rfl);(case hr=>first|(go_simp;done)|(go_simp;rfl))
     intro e0 hg w20 hbox hb
     have n0_:=zaa.mk (zac (zB b8.out) hb)
     have n1_:=zaa.mk (zac (zB d5.out) hb)
     have n2_:=zaa.mk (zae (zL2 HB.out d9.out e6.out) hb)
     have n3_:=zaa.mk (hbox)
     have n4_:=zaa.mk ((zS hg (zL2 HB.out d9.out e6.out):w.heap.size≤e0))
     have n5_:=zaa.mk ((zS hg (zL2 HB.out d9.out e6.out):w.heap.size≤e0))
     have n6_:=zaa.mk (zne hg (zB b8.out))
     have n7_:=zaa.mk (zen hg (zB b8.out))
     have n8_:=zaa.mk (zne hg (zB d5.out))
     have n9_:=zaa.mk (zen hg (zB d5.out))
     clear b8
     clear d5
     clear HB
     have b8:=n0_
     have d5:=n1_
     have HB:=n2_
     have e5:=n3_
     have j3:=n4_
     have f6:=n5_
     have d6:=n6_
     have e7:=n7_
     have d7:=n8_
     have e8:=n9_
     clear n0_ n1_ n2_ n3_ n4_ n5_ n6_ n7_ n8_ n9_
     clear hb hbox hg
     refine hK.out _ _ (zD5 b8.out) (fun hHeld=>?_)
     clear hK K
     refine znm ?_
     refine zon 15 (some 42) HT_.out (fun K hK=>?_)
     refine zcl Try.func56 (by kernel_rfl) rfl #[.int .i64 (wrap64 (e9+(wrap64 (Int.tdiv (wrap64 (d8+1)) 2))))] (by rfl) rfl rfl rfl zA ?_
     with_reducible refine (zbw.calls (wrap64 (e9+(wrap64 (Int.tdiv (wrap64 (d8+1)) 2)))) i4 _ A6.out).mono ?_
     rintro e w21 ⟨rfl,hb⟩
     refine ⟨_,rfl,?_⟩
     replace b8:=zaa.mk (zac (zB b8.out) hb)
     replace d5:=zaa.mk (zac (zB d5.out) hb)
     replace e5:=zaa.mk (zac (zB e5.out) hb)
     replace HB:=zaa.mk (zae (zL3 HB.out d9.out e6.out f6.out) hb)
     (try clear hb)
     refine hK.out _ _ (zD5 b8.out) (fun hHeld=>?_)
     clear hK K
     refine znm ?_
     refine zpu 17 44 HT_.out ?_
     refine zpu 18 45 HT_.out ?_
     exact norm_ (by simp only [zcg,Act.put,List.setIfInBounds_toArray,List.set_cons_zero,List.set_cons_succ]) (hCont (e0) _ ⟨hHeld,(zB b8.out),(zB d5.out),(zB e5.out),j3.out,f6.out,d6.out,e7.out,d7.out,e8.out,(zL3 HB.out d9.out e6.out f6.out)⟩)
   ·skip
    refine zcb ?hg (N:=8) ?hd (cs:=#[.int .i64 0,.int .i64 0,.int .i64 0,.int .i64 0]) (t:=32) ?hr ?_;(case hd=>rfl);(case hg=>rfl);(case hr=>first|(go_simp;done)|(go_simp;rfl))
    intro e0 hg w19 hbox hb
    have n0_:=zaa.mk (zac (zB b8.out) hb)
    have n1_:=zaa.mk (zac (zB d5.out) hb)
    have n2_:=zaa.mk (zae (zL2 HB.out d9.out e6.out) hb)
    have n3_:=zaa.mk (hbox)
    have n4_:=zaa.mk ((zS hg (zL2 HB.out d9.out e6.out):w.heap.size≤e0))
    have n5_:=zaa.mk ((zS hg (zL2 HB.out d9.out e6.out):w.heap.size≤e0))
    have n6_:=zaa.mk (zne hg (zB b8.out))
    have n7_:=zaa.mk (zen hg (zB b8.out))
    have n8_:=zaa.mk (zne hg (zB d5.out))
    have n9_:=zaa.mk (zen hg (zB d5.out))
    clear b8
    clear d5
    clear HB
    have b8:=n0_
    have d5:=n1_
    have HB:=n2_
    have e5:=n3_
    have j3:=n4_
    have f6:=n5_
    have d6:=n6_
    have e7:=n7_
    have d7:=n8_
    have e8:=n9_
    clear n0_ n1_ n2_ n3_ n4_ n5_ n6_ n7_ n8_ n9_
    clear hb hbox hg
    refine hK.out _ _ (zD5 b8.out) (fun hHeld=>?_)
    clear hK K
    refine znm ?_
    refine zon 7 (some 34) HT_.out (fun K hK=>?_)
    refine zcl Try.func56 (by kernel_rfl) rfl #[.int .i64 (wrap64 (f5+(wrap64 (Int.tdiv (wrap64 (d8+1)) 2))))] (by rfl) rfl rfl rfl zA ?_
    with_reducible refine (zbw.calls (wrap64 (f5+(wrap64 (Int.tdiv (wrap64 (d8+1)) 2)))) i5 _ A5.out).mono ?_
    rintro e w20 ⟨rfl,hb⟩
    refine ⟨_,rfl,?_⟩
    replace b8:=zaa.mk (zac (zB b8.out) hb)
    replace d5:=zaa.mk (zac (zB d5.out) hb)
    replace e5:=zaa.mk (zac (zB e5.out) hb)
    replace HB:=zaa.mk (zae (zL3 HB.out d9.out e6.out f6.out) hb)
    (try clear hb)
    refine hK.out _ _ (zD5 b8.out) (fun hHeld=>?_)
    clear hK K
    refine znm ?_
    refine zpu 9 36 HT_.out ?_
    refine zon 15 (some 42) HT_.out (fun K hK=>?_)
    refine zcl Try.func56 (by kernel_rfl) rfl #[.int .i64 (wrap64 (e9+(wrap64 (Int.tdiv (wrap64 (d8+1)) 2))))] (by rfl) rfl rfl rfl zA ?_
    with_reducible refine (zbw.calls (wrap64 (e9+(wrap64 (Int.tdiv (wrap64 (d8+1)) 2)))) i4 _ A6.out).mono ?_
    rintro e w21 ⟨rfl,hb⟩
    refine ⟨_,rfl,?_⟩
    replace b8:=zaa.mk (zac (zB b8.out) hb)
    replace d5:=zaa.mk (zac (zB d5.out) hb)
    replace e5:=zaa.mk (zac (zB e5.out) hb)
    replace HB:=zaa.mk (zae (zL3 HB.out d9.out e6.out f6.out) hb)
    (try clear hb)
    refine hK.out _ _ (zD5 b8.out) (fun hHeld=>?_)
    clear hK K
    refine znm ?_
    refine zpu 17 44 HT_.out ?_
    refine zpu 18 45 HT_.out ?_
    exact norm_ (by simp only [zcg,Act.put,List.setIfInBounds_toArray,List.set_cons_zero,List.set_cons_succ]) (hCont (e0) _ ⟨hHeld,(zB b8.out),(zB d5.out),(zB e5.out),j3.out,f6.out,d6.out,e7.out,d7.out,e8.out,(zL3 HB.out d9.out e6.out f6.out)⟩)
  rintro e0 w22 ⟨hS_,h0_,h1_,h2_,h3_,h4_,h5_,h6_,h7_,h8_,h9_⟩
  have n0_:zaa (w22.heap[b9]? = some (.cells #[.int .i64 f5,.int .i64 e9,.int .i64 d8,.int .i64 i6,.int .i64 i8] 28 (0,0))):=⟨h0_⟩
  have n1_:zaa (w22.heap[i7]? = some (.cells #[.int .i64 0,.int .i64 0,.int .i64 0,.int .i64 0] 32 (0,0))):=⟨h1_⟩
  have n2_:zaa (w22.heap[e0]? = some (.cells #[.int .i64 0,.int .i64 0,.int .i64 0,.int .i64 0] 32 (0,0))):=⟨h2_⟩
  have n3_:zaa (w.heap.size≤e0):=⟨h3_⟩
  have n4_:zaa (w.heap.size≤e0):=⟨h4_⟩
  have n5_:zaa (b9≠e0):=⟨h5_⟩
  have n6_:zaa (e0≠b9):=⟨h6_⟩
  have n7_:zaa (i7≠e0):=⟨h7_⟩
  have n8_:zaa (e0≠i7):=⟨h8_⟩
  have n9_:zaa (Below w.heap.size w w22):=⟨h9_⟩
  clear b8
  clear d5
  clear HB
  clear h0_ h1_ h2_ h3_ h4_ h5_ h6_ h7_ h8_ h9_
  have b8:=n0_
  have d5:=n1_
  have e5:=n2_
  have j3:=n3_
  have f6:=n4_
  have d6:=n5_
  have e7:=n6_
  have d7:=n7_
  have e8:=n8_
  have HB:=n9_
  clear n0_ n1_ n2_ n3_ n4_ n5_ n6_ n7_ n8_ n9_
  have hHeld:w22.cell? ⟨b9,0,none⟩=some (.int .i64 f5)∧w22.cell? ⟨b9,1,none⟩=some (.int .i64 e9)∧w22.cell? ⟨b9,2,none⟩=some (.int .i64 d8)∧w22.cell? ⟨b9,3,none⟩=some (.int .i64 i6)∧w22.cell? ⟨b9,4,none⟩=some (.int .i64 i8):=hS_
  refine norm_ (a':=?_) ?_ ?_
  rotate_left
  ·simp only [zcg,Act.put,List.setIfInBounds_toArray,List.set_cons_zero,List.set_cons_succ]
   rfl
  refine zon 20 none HT_.out (fun K hK=>?_)
  have hs23:w22.cell? ⟨e0,0,none⟩=some (.int .i64 0):=zc e5.out 0
  have hfs23:=zaB e5.out 0
  have hns23_0:=d6.out
  have hns23_1:=d7.out
  have hms23_0:=e7.out
  have hms23_1:=e8.out
  have hs24:w22.cell? ⟨e0,1,none⟩=some (.int .i64 0):=zc e5.out 1
  have hfs24:=zaB e5.out 1
  have hns24_0:=d6.out
  have hns24_1:=d7.out
  have hms24_0:=e7.out
  have hms24_1:=e8.out
  have hs25:w22.cell? ⟨e0,2,none⟩=some (.int .i64 0):=zc e5.out 2
  have hfs25:=zaB e5.out 2
  have hns25_0:=d6.out
  have hns25_1:=d7.out
  have hms25_0:=e7.out
  have hms25_1:=e8.out
  have hs26:w22.cell? ⟨e0,3,none⟩=some (.int .i64 0):=zc e5.out 3
  have hfs26:=zaB e5.out 3
  have hns26_0:=d6.out
  have hns26_1:=d7.out
  have hms26_0:=e7.out
  have hms26_1:=e8.out
  refine skip_ (w1:=?_) (by rfl) rfl ?_ ?_
  rotate_left
  ·go_simp
   rfl
  refine hK.out _ _ ⟨(zs4 d6.out (hHeld.1)),(zs4 d6.out (hHeld.2.1)),(zs4 d6.out (hHeld.2.2.1)),(zs4 d6.out (hHeld.2.2.2.1)),(zs4 d6.out (hHeld.2.2.2.2))⟩ (fun hHeld=>?_)
  clear hK K
  refine zbT (zbB HT_.out (by kernel_rfl)) ?_
  have hnb27:=e7.out
  have hnc27:=d6.out
  have hnb28:=e8.out
  have hnc28:=d7.out
  obtain ⟨n4,n5,n6,n7⟩:=zD4 e5.out
  obtain ⟨n8,n9,o2,o3⟩:=zE4 e5.out
  obtain ⟨o4,o5,o6,o7⟩:=zD4 d5.out
  obtain ⟨o8,o9,p7,p8⟩:=zE4 d5.out
  try go_wp2
  refine bodyPost_ret (results_cell_row rfl _ _ i7 32 #[.int .i64 0,.int .i64 0,.int .i64 0,.int .i64 0] (0,0) _ rfl (by refine zB ?_;refine zar (cs:=#[.int .i64 0,.int .i64 0,.int .i64 0,.int .i64 0]) ?_ 3 _ rfl;refine zB ?_;refine zar (cs:=#[.int .i64 0,.int .i64 0,.int .i64 0,.int .i64 0]) ?_ 2 _ rfl;refine zB ?_;refine zar (cs:=#[.int .i64 0,.int .i64 0,.int .i64 0,.int .i64 0]) ?_ 1 _ rfl;refine zB ?_;refine zar (cs:=#[.int .i64 0,.int .i64 0,.int .i64 0,.int .i64 0]) ?_ 0 _ rfl;refine zB ?_;refine zaA ?_ d7.out _;refine zB ?_;refine zaA ?_ d7.out _;refine zB ?_;refine zaA ?_ d7.out _;refine zB ?_;refine zaA ?_ d7.out _;refine zB ?_;exact d5.out) Try.underlying32 rfl (by kernel_rfl)) rfl ?_
  exact zG
 ·rw [if_neg c7] at H
  have c7b0:decide ((wrap64 (i5 - g9))≤0)=false:=decide_eq_false c7
  clear c7
  by_cases c31:(wrap64 (i4 - i3))≤0
  ·rw [if_pos c31] at H
   have c31b0:decide ((wrap64 (i4 - i3))≤0)=true:=decide_eq_true c31
   clear c31
   simp only [Option.some.injEq,Prod.mk.injEq] at H
   obtain ⟨rfl,rfl,rfl,rfl⟩:=H
   go_enter Try.func16,Try.ntmps16
   try go_wp2_with (first|((with_reducible refine zaC (N:=1) rfl ?_);refine zbx (N:=1) #[.int .i64 j7,.int .i64 j6,.int .i64 j4,.int .i64 j2,.int .i64 i9] 28 ?_;intro b9 hg w32 hbox hb;have n0_:=zaa.mk (zae (zL HB.out) hb);have n1_:=zaa.mk (hbox);have n2_:=zaa.mk ((zS hg (zL HB.out):w.heap.size≤b9));have n3_:=n2_;clear HB;have HB:=n0_;have b8:=n1_;have j9:=n2_;have d9:=n3_;clear n0_ n1_ n2_ n3_;clear hb hbox hg)|((with_reducible refine zaC (N:=2) rfl ?_);refine zbx (N:=2) #[.int .i64 0,.int .i64 0,.int .i64 0,.int .i64 0] 32 ?_;intro i7 hg w33 hbox hb;have n0_:=zaa.mk (zac (zB b8.out) hb);have n1_:=zaa.mk (zae (zL1 HB.out d9.out) hb);have n2_:=zaa.mk (hbox);have n3_:=zaa.mk ((zS hg (zL1 HB.out d9.out):w.heap.size≤i7));have n4_:=n3_;have n5_:=zaa.mk (zne hg (zB b8.out));have n6_:=zaa.mk (zen hg (zB b8.out));clear b8;clear HB;have b8:=n0_;have HB:=n1_;have d5:=n2_;have k3:=n3_;have e6:=n4_;have j8:=n5_;have f7:=n6_;clear n0_ n1_ n2_ n3_ n4_ n5_ n6_;clear hb hbox hg;have hnb34:=j8.out;have hnc34:=f7.out;obtain ⟨p9,s5,s6,s7,s8⟩:=zD5 b8.out;obtain ⟨s9,t6,t7,t8,t9⟩:=zE5 b8.out)|((with_reducible refine zah (f:=52) rfl ?_);refine zgl 10 Try.func52 #[.agg #[.int .i64 j7,.int .i64 j6,.int .i64 j4,.int .i64 j2,.int .i64 i9]] ?_;(with_reducible refine (zbW.calls j7 j6 j4 j2 i9 f5 e9 d8 i6 i8 _ A2.out).mono ?_);rintro e w36 ⟨rfl,hb⟩;refine ⟨_,rfl,?_⟩;replace b8:=zaa.mk (zac (zB b8.out) hb);replace d5:=zaa.mk (zac (zB d5.out) hb);replace HB:=zaa.mk (zae (zL2 HB.out d9.out e6.out) hb);(try clear hb);obtain ⟨u3,u4,u5,u6,u7⟩:=zD5 b8.out;obtain ⟨u9,y5,y6,y7,y8⟩:=zE5 b8.out))
   have n0_:zaa ((((((w36.setCell ⟨b9,0,none⟩ (.int .i64 f5)).setCell ⟨b9,1,none⟩ (.int .i64 e9)).setCell ⟨b9,2,none⟩ (.int .i64 d8)).setCell ⟨b9,3,none⟩ (.int .i64 i6)).setCell ⟨b9,4,none⟩ (.int .i64 i8)).heap[b9]? = some (.cells #[.int .i64 f5,.int .i64 e9,.int .i64 d8,.int .i64 i6,.int .i64 i8] 28 (0,0))):=⟨by refine zB ?_;refine zar (cs:=#[.int .i64 f5,.int .i64 e9,.int .i64 d8,.int .i64 i6,.int .i64 i9]) ?_ 4 _ rfl;refine zB ?_;refine zar (cs:=#[.int .i64 f5,.int .i64 e9,.int .i64 d8,.int .i64 j2,.int .i64 i9]) ?_ 3 _ rfl;refine zB ?_;refine zar (cs:=#[.int .i64 f5,.int .i64 e9,.int .i64 j4,.int .i64 j2,.int .i64 i9]) ?_ 2 _ rfl;refine zB ?_;refine zar (cs:=#[.int .i64 f5,.int .i64 j6,.int .i64 j4,.int .i64 j2,.int .i64 i9]) ?_ 1 _ rfl;refine zB ?_;refine zar (cs:=#[.int .i64 j7,.int .i64 j6,.int .i64 j4,.int .i64 j2,.int .i64 i9]) ?_ 0 _ rfl;refine zB ?_;exact b8.out⟩
   have n1_:zaa ((((((w36.setCell ⟨b9,0,none⟩ (.int .i64 f5)).setCell ⟨b9,1,none⟩ (.int .i64 e9)).setCell ⟨b9,2,none⟩ (.int .i64 d8)).setCell ⟨b9,3,none⟩ (.int .i64 i6)).setCell ⟨b9,4,none⟩ (.int .i64 i8)).heap[i7]? = some (.cells #[.int .i64 0,.int .i64 0,.int .i64 0,.int .i64 0] 32 (0,0))):=⟨by refine zB ?_;refine zaA ?_ f7.out _;refine zB ?_;refine zaA ?_ f7.out _;refine zB ?_;refine zaA ?_ f7.out _;refine zB ?_;refine zaA ?_ f7.out _;refine zB ?_;refine zaA ?_ f7.out _;refine zB ?_;exact d5.out⟩
   have n2_:zaa (Below w.heap.size w (((((w36.setCell ⟨b9,0,none⟩ (.int .i64 f5)).setCell ⟨b9,1,none⟩ (.int .i64 e9)).setCell ⟨b9,2,none⟩ (.int .i64 d8)).setCell ⟨b9,3,none⟩ (.int .i64 i6)).setCell ⟨b9,4,none⟩ (.int .i64 i8))):=⟨by repeat (first|(with_reducible first|exact HB.out|apply zan|apply zaj|apply zai|refine zao ?_ d9.out|refine zao ?_ e6.out)|exact HB.out)⟩
   (try clear b8)
   (try clear d5)
   (try clear HB)
   generalize (((((w36.setCell ⟨b9,0,none⟩ (.int .i64 f5)).setCell ⟨b9,1,none⟩ (.int .i64 e9)).setCell ⟨b9,2,none⟩ (.int .i64 d8)).setCell ⟨b9,3,none⟩ (.int .i64 i6)).setCell ⟨b9,4,none⟩ (.int .i64 i8))=w38 at n0_ n1_ n2_ ⊢
   have b8:=n0_
   have d5:=n1_
   have HB:=n2_
   clear n0_ n1_ n2_
   replace b8:=zaa.mk (zaM b8.out)
   replace d5:=zaa.mk (zaM d5.out)
   replace HB:=zaa.mk (zai HB.out)
   refine zbA (n:=14) (S:=fun w'=>w'.cell? ⟨b9,0,none⟩=some (.int .i64 f5)∧w'.cell? ⟨b9,1,none⟩=some (.int .i64 e9)∧w'.cell? ⟨b9,2,none⟩=some (.int .i64 d8)∧w'.cell? ⟨b9,3,none⟩=some (.int .i64 i6)∧w'.cell? ⟨b9,4,none⟩=some (.int .i64 i8)) (ds:=[]) #[false,false,false,false,false,false,false,false,false,false,false,false,false,false] (by kernel_rfl) rfl rfl (zD5 b8.out) (fun hHeld=>?_);refine zbn zbO.tab5 zbO.bits5 (fun HT_ HW_=>?_)
   generalize w38.drew=w39 at b8 d5 HB hHeld ⊢
   refine zpu 0 15 HT_.out ?_
   refine zpu 1 16 HT_.out ?_
   refine zpu 3 18 HT_.out ?_
   refine zpu 6 21 HT_.out ?_
   refine zpu 7 22 HT_.out ?_
   refine zpu 9 24 HT_.out ?_
   refine ztk 2 17 HT_.out HW_.out hHeld ?_
   refine zpu 4 19 HT_.out ?_
   refine ztk 8 23 HT_.out HW_.out hHeld ?_
   refine zpu 10 25 HT_.out ?_
   refine zon 5 (some 20) HT_.out (fun K hK=>?_)
   refine zcl Try.func53 (by kernel_rfl) rfl #[.int .i64 (wrap64 (f5 - (wrap64 (Int.tdiv (wrap64 (d8+1)) 2))))] (by rfl) rfl rfl rfl zA ?_
   with_reducible refine (zca.calls (wrap64 (f5 - (wrap64 (Int.tdiv (wrap64 (d8+1)) 2)))) g9 _ A3.out).mono ?_
   rintro e w40 ⟨rfl,hb⟩
   refine ⟨_,rfl,?_⟩
   replace b8:=zaa.mk (zac (zB b8.out) hb)
   replace d5:=zaa.mk (zac (zB d5.out) hb)
   replace HB:=zaa.mk (zae (zL2 HB.out d9.out e6.out) hb)
   (try clear hb)
   refine hK.out _ _ (zD5 b8.out) (fun hHeld=>?_)
   clear hK K
   refine znm ?_
   refine zon 11 (some 26) HT_.out (fun K hK=>?_)
   refine zcl Try.func53 (by kernel_rfl) rfl #[.int .i64 (wrap64 (e9 - (wrap64 (Int.tdiv (wrap64 (d8+1)) 2))))] (by rfl) rfl rfl rfl zA ?_
   with_reducible refine (zca.calls (wrap64 (e9 - (wrap64 (Int.tdiv (wrap64 (d8+1)) 2)))) i3 _ A4.out).mono ?_
   rintro e w41 ⟨rfl,hb⟩
   refine ⟨_,rfl,?_⟩
   replace b8:=zaa.mk (zac (zB b8.out) hb)
   replace d5:=zaa.mk (zac (zB d5.out) hb)
   replace HB:=zaa.mk (zae (zL2 HB.out d9.out e6.out) hb)
   (try clear hb)
   refine hK.out _ _ (zD5 b8.out) (fun hHeld=>?_)
   clear hK K
   refine znm ?_
   refine zpu 12 6 HT_.out ?_
   refine zpu 13 7 HT_.out ?_
   refine zbT (zbB HT_.out (by kernel_rfl)) ?_
   try go_wp2
   replace b8:=zaa.mk (zaM b8.out)
   replace d5:=zaa.mk (zaM d5.out)
   replace HB:=zaa.mk (zai HB.out)
   refine zbA (n:=21) (S:=fun w'=>w'.cell? ⟨b9,0,none⟩=some (.int .i64 f5)∧w'.cell? ⟨b9,1,none⟩=some (.int .i64 e9)∧w'.cell? ⟨b9,2,none⟩=some (.int .i64 d8)∧w'.cell? ⟨b9,3,none⟩=some (.int .i64 i6)∧w'.cell? ⟨b9,4,none⟩=some (.int .i64 i8)) (ds:=[]) #[false,false,false,false,false,false,false,false,false,false,false,false,false,false,false,false,false,false,false,false,false] (by kernel_rfl) rfl rfl (zD5 b8.out) (fun hHeld=>?_);refine zbn zbO.tab6 zbO.bits6 (fun HT_ HW_=>?_)
   generalize w41.drew=w42 at b8 d5 HB hHeld ⊢
   refine zpu 0 27 HT_.out ?_
   refine zpu 1 28 HT_.out ?_
   refine zpu 2 29 HT_.out ?_
   refine zpu 3 30 HT_.out ?_
   refine zpu 5 32 HT_.out ?_
   refine zpu 8 35 HT_.out ?_
   refine zpu 10 37 HT_.out ?_
   refine zpu 11 38 HT_.out ?_
   refine zpu 13 40 HT_.out ?_
   refine zpu 16 43 HT_.out ?_
   refine ztk 4 31 HT_.out HW_.out hHeld ?_
   refine zpu 6 33 HT_.out ?_
   refine ztk 12 39 HT_.out HW_.out hHeld ?_
   refine zpu 14 41 HT_.out ?_
   refine join_ (σ:=Nat) 1 #[true,true,true,true,true,true,true,true,true,true,true,true,true,true,true,true,true,true,true,true,false] (fun s_=>[(34,.int .i64 i5),(42,.int .i64 i4),(8,.pointer (some ⟨s_,0,none⟩)),(36,.int .i64 (wrap64 (i5 - g9))),(44,.int .i64 (wrap64 (i4 - i3))),(45,.agg #[.int .i64 g9,.int .i64 i3,.int .i64 (wrap64 (i5 - g9)),.int .i64 (wrap64 (i4 - i3))])]) (fun s_ w'=>(w'.cell? ⟨b9,0,none⟩=some (.int .i64 f5)∧w'.cell? ⟨b9,1,none⟩=some (.int .i64 e9)∧w'.cell? ⟨b9,2,none⟩=some (.int .i64 d8)∧w'.cell? ⟨b9,3,none⟩=some (.int .i64 i6)∧w'.cell? ⟨b9,4,none⟩=some (.int .i64 i8))∧(w'.heap[b9]? = some (.cells #[.int .i64 f5,.int .i64 e9,.int .i64 d8,.int .i64 i6,.int .i64 i8] 28 (0,0)))∧(w'.heap[i7]? = some (.cells #[.int .i64 0,.int .i64 0,.int .i64 0,.int .i64 0] 32 (0,0)))∧(w'.heap[s_]? = some (.cells #[.int .i64 0,.int .i64 0,.int .i64 0,.int .i64 0] 32 (0,0)))∧(w.heap.size≤s_)∧(w.heap.size≤s_)∧(b9≠s_)∧(s_≠b9)∧(i7≠s_)∧(s_≠i7)∧(Below w.heap.size w w')) ?_ ?_
   rotate_left
   ·intro hCont
    refine two_ (i:=7) (j:=19) (Ni:=some 34) (Nj:=some 8) #[true,true,true,true,true,true,true,true,true,false,true,true,true,true,true,false,true,false,false,false,false] #[true,true,true,true,true,true,true,false,true,false,true,true,true,true,true,false,true,false,false,true,false] rfl rfl rfl rfl (two_of HT_.out (by kernel_rfl)) (by decide) (by decide) (fun K hK=>?_) (fun K hK=>?_)
    ·skip
     refine zcl Try.func56 (by kernel_rfl) rfl #[.int .i64 (wrap64 (f5+(wrap64 (Int.tdiv (wrap64 (d8+1)) 2))))] (by rfl) rfl rfl rfl zA ?_
     with_reducible refine (zbw.calls (wrap64 (f5+(wrap64 (Int.tdiv (wrap64 (d8+1)) 2)))) i5 _ A5.out).mono ?_
     rintro e w43 ⟨rfl,hb⟩
     refine ⟨_,rfl,?_⟩
     replace b8:=zaa.mk (zac (zB b8.out) hb)
     replace d5:=zaa.mk (zac (zB d5.out) hb)
     replace HB:=zaa.mk (zae (zL2 HB.out d9.out e6.out) hb)
     (try clear hb)
     refine hK.out _ _ (zD5 b8.out) (fun hHeld=>?_)
     clear hK K
     refine znm ?_
     refine zpu 9 36 HT_.out ?_
     refine two_ (i:=15) (j:=19) (Ni:=some 42) (Nj:=some 8) #[true,true,true,true,true,true,true,true,true,true,true,true,true,true,true,true,true,false,false,false,false] #[true,true,true,true,true,true,true,true,true,true,true,true,true,true,true,false,true,false,false,true,false] rfl rfl rfl rfl (two_of HT_.out (by kernel_rfl)) (by decide) (by decide) (fun K hK=>?_) (fun K hK=>?_)
     ·skip
      refine zcl Try.func56 (by kernel_rfl) rfl #[.int .i64 (wrap64 (e9+(wrap64 (Int.tdiv (wrap64 (d8+1)) 2))))] (by rfl) rfl rfl rfl zA ?_
      with_reducible refine (zbw.calls (wrap64 (e9+(wrap64 (Int.tdiv (wrap64 (d8+1)) 2)))) i4 _ A6.out).mono ?_
      rintro e w44 ⟨rfl,hb⟩
      refine ⟨_,rfl,?_⟩
      replace b8:=zaa.mk (zac (zB b8.out) hb)
      replace d5:=zaa.mk (zac (zB d5.out) hb)
      replace HB:=zaa.mk (zae (zL2 HB.out d9.out e6.out) hb)
      (try clear hb)
      refine hK.out _ _ (zD5 b8.out) (fun hHeld=>?_)
      clear hK K
      refine znm ?_
      refine zpu 17 44 HT_.out ?_
      refine zpu 18 45 HT_.out ?_
      refine zon 19 (some 8) HT_.out (fun K hK=>?_)
      refine zcb ?hg (N:=8) ?hd (cs:=#[.int .i64 0,.int .i64 0,.int .i64 0,.int .i64 0]) (t:=32) ?hr ?_;(case hd=>rfl);(case hg=>rfl);(case hr=>first|(go_simp;done)|(go_simp;rfl))
      intro e0 hg w45 hbox hb
      have n0_:=zaa.mk (zac (zB b8.out) hb)
      have n1_:=zaa.mk (zac (zB d5.out) hb)
      have n2_:=zaa.mk (zae (zL2 HB.out d9.out e6.out) hb)
      have n3_:=zaa.mk (hbox)
      have n4_:=zaa.mk ((zS hg (zL2 HB.out d9.out e6.out):w.heap.size≤e0))
      have n5_:=zaa.mk ((zS hg (zL2 HB.out d9.out e6.out):w.heap.size≤e0))
      have n6_:=zaa.mk (zne hg (zB b8.out))
      have n7_:=zaa.mk (zen hg (zB b8.out))
      have n8_:=zaa.mk (zne hg (zB d5.out))
      have n9_:=zaa.mk (zen hg (zB d5.out))
      clear b8
      clear d5
      clear HB
      have b8:=n0_
      have d5:=n1_
      have HB:=n2_
      have e5:=n3_
      have j3:=n4_
      have f6:=n5_
      have d6:=n6_
      have e7:=n7_
      have d7:=n8_
      have e8:=n9_
      clear n0_ n1_ n2_ n3_ n4_ n5_ n6_ n7_ n8_ n9_
      clear hb hbox hg
      refine hK.out _ _ (zD5 b8.out) (fun hHeld=>?_)
      clear hK K
      refine znm ?_
      exact norm_ (by simp only [zcg,Act.put,List.setIfInBounds_toArray,List.set_cons_zero,List.set_cons_succ]) (hCont (e0) _ ⟨hHeld,(zB b8.out),(zB d5.out),(zB e5.out),j3.out,f6.out,d6.out,e7.out,d7.out,e8.out,(zL3 HB.out d9.out e6.out f6.out)⟩)
     ·skip
      refine zcb ?hg (N:=8) ?hd (cs:=#[.int .i64 0,.int .i64 0,.int .i64 0,.int .i64 0]) (t:=32) ?hr ?_;(case hd=>rfl);(case hg=>rfl);(case hr=>first|(go_simp;done)|(go_simp;rfl))
      intro e0 hg w44 hbox hb
      have n0_:=zaa.mk (zac (zB b8.out) hb)
      have n1_:=zaa.mk (zac (zB d5.out) hb)
      have n2_:=zaa.mk (zae (zL2 HB.out d9.out e6.out) hb)
      have n3_:=zaa.mk (hbox)
      have n4_:=zaa.mk ((zS hg (zL2 HB.out d9.out e6.out):w.heap.size≤e0))
      have n5_:=zaa.mk ((zS hg (zL2 HB.out d9.out e6.out):w.heap.size≤e0))
      have n6_:=zaa.mk (zne hg (zB b8.out))
      have n7_:=zaa.mk (zen hg (zB b8.out))
      have n8_:=zaa.mk (zne hg (zB d5.out))
      have n9_:=zaa.mk (zen hg (zB d5.out))
      clear b8
      clear d5
      clear HB
      have b8:=n0_
      have d5:=n1_
      have HB:=n2_
      have e5:=n3_
      have j3:=n4_
      have f6:=n5_
      have d6:=n6_
      have e7:=n7_
      have d7:=n8_
      have e8:=n9_
      clear n0_ n1_ n2_ n3_ n4_ n5_ n6_ n7_ n8_ n9_
      clear hb hbox hg
      refine hK.out _ _ (zD5 b8.out) (fun hHeld=>?_)
      clear hK K
      refine znm ?_
      refine zon 15 (some 42) HT_.out (fun K hK=>?_)
      refine zcl Try.func56 (by kernel_rfl) rfl #[.int .i64 (wrap64 (e9+(wrap64 (Int.tdiv (wrap64 (d8+1)) 2))))] (by rfl) rfl rfl rfl zA ?_
      with_reducible refine (zbw.calls (wrap64 (e9+(wrap64 (Int.tdiv (wrap64 (d8+1)) 2)))) i4 _ A6.out).mono ?_
      rintro e w45 ⟨rfl,hb⟩
      refine ⟨_,rfl,?_⟩
      replace b8:=zaa.mk (zac (zB b8.out) hb)
      replace d5:=zaa.mk (zac (zB d5.out) hb)
      replace e5:=zaa.mk (zac (zB e5.out) hb)
      replace HB:=zaa.mk (zae (zL3 HB.out d9.out e6.out f6.out) hb)
      (try clear hb)
      refine hK.out _ _ (zD5 b8.out) (fun hHeld=>?_)
      clear hK K
      refine znm ?_
      refine zpu 17 44 HT_.out ?_
      refine zpu 18 45 HT_.out ?_
      exact norm_ (by simp only [zcg,Act.put,List.setIfInBounds_toArray,List.set_cons_zero,List.set_cons_succ]) (hCont (e0) _ ⟨hHeld,(zB b8.out),(zB d5.out),(zB e5.out),j3.out,f6.out,d6.out,e7.out,d7.out,e8.out,(zL3 HB.out d9.out e6.out f6.out)⟩)
    ·skip
     refine zcb ?hg (N:=8) ?hd (cs:=#[.int .i64 0,.int .i64 0,.int .i64 0,.int .i64 0]) (t:=32) ?hr ?_;(case hd=>rfl);(case hg=>rfl);(case hr=>first|(go_simp;done)|(go_simp;rfl))
     intro e0 hg w43 hbox hb
     have n0_:=zaa.mk (zac (zB b8.out) hb)
     have n1_:=zaa.mk (zac (zB d5.out) hb)
     have n2_:=zaa.mk (zae (zL2 HB.out d9.out e6.out) hb)
     have n3_:=zaa.mk (hbox)
     have n4_:=zaa.mk ((zS hg (zL2 HB.out d9.out e6.out):w.heap.size≤e0))
     have n5_:=zaa.mk ((zS hg (zL2 HB.out d9.out e6.out):w.heap.size≤e0))
     have n6_:=zaa.mk (zne hg (zB b8.out))
     have n7_:=zaa.mk (zen hg (zB b8.out))
     have n8_:=zaa.mk (zne hg (zB d5.out))
     have n9_:=zaa.mk (zen hg (zB d5.out))
     clear b8
     clear d5
     clear HB
     have b8:=n0_
     have d5:=n1_
     have HB:=n2_
     have e5:=n3_
     have j3:=n4_
     have f6:=n5_
     have d6:=n6_
     have e7:=n7_
     have d7:=n8_
     have e8:=n9_
     clear n0_ n1_ n2_ n3_ n4_ n5_ n6_ n7_ n8_ n9_
     clear hb hbox hg
     refine hK.out _ _ (zD5 b8.out) (fun hHeld=>?_)
     clear hK K
     refine znm ?_
     refine zon 7 (some 34) HT_.out (fun K hK=>?_)
     refine zcl Try.func56 (by kernel_rfl) rfl #[.int .i64 (wrap64 (f5+(wrap64 (Int.tdiv (wrap64 (d8+1)) 2))))] (by rfl) rfl rfl rfl zA ?_
     with_reducible refine (zbw.calls (wrap64 (f5+(wrap64 (Int.tdiv (wrap64 (d8+1)) 2)))) i5 _ A5.out).mono ?_
     rintro e w44 ⟨rfl,hb⟩
     refine ⟨_,rfl,?_⟩
     replace b8:=zaa.mk (zac (zB b8.out) hb)
     replace d5:=zaa.mk (zac (zB d5.out) hb)
     replace e5:=zaa.mk (zac (zB e5.out) hb)
     replace HB:=zaa.mk (zae (zL3 HB.out d9.out e6.out f6.out) hb)
     (try clear hb)
     refine hK.out _ _ (zD5 b8.out) (fun hHeld=>?_)
     clear hK K
     refine znm ?_
     refine zpu 9 36 HT_.out ?_
     refine zon 15 (some 42) HT_.out (fun K hK=>?_)
     refine zcl Try.func56 (by kernel_rfl) rfl #[.int .i64 (wrap64 (e9+(wrap64 (Int.tdiv (wrap64 (d8+1)) 2))))] (by rfl) rfl rfl rfl zA ?_
     with_reducible refine (zbw.calls (wrap64 (e9+(wrap64 (Int.tdiv (wrap64 (d8+1)) 2)))) i4 _ A6.out).mono ?_
     rintro e w45 ⟨rfl,hb⟩
     refine ⟨_,rfl,?_⟩
     replace b8:=zaa.mk (zac (zB b8.out) hb)
     replace d5:=zaa.mk (zac (zB d5.out) hb)
     replace e5:=zaa.mk (zac (zB e5.out) hb)
     replace HB:=zaa.mk (zae (zL3 HB.out d9.out e6.out f6.out) hb)
     (try clear hb)
     refine hK.out _ _ (zD5 b8.out) (fun hHeld=>?_)
     clear hK K
     refine znm ?_
     refine zpu 17 44 HT_.out ?_
     refine zpu 18 45 HT_.out ?_
     exact norm_ (by simp only [zcg,Act.put,List.setIfInBounds_toArray,List.set_cons_zero,List.set_cons_succ]) (hCont (e0) _ ⟨hHeld,(zB b8.out),(zB d5.out),(zB e5.out),j3.out,f6.out,d6.out,e7.out,d7.out,e8.out,(zL3 HB.out d9.out e6.out f6.out)⟩)
   rintro e0 w46 ⟨hS_,h0_,h1_,h2_,h3_,h4_,h5_,h6_,h7_,h8_,h9_⟩
   have n0_:zaa (w46.heap[b9]? = some (.cells #[.int .i64 f5,.int .i64 e9,.int .i64 d8,.int .i64 i6,.int .i64 i8] 28 (0,0))):=⟨h0_⟩
   have n1_:zaa (w46.heap[i7]? = some (.cells #[.int .i64 0,.int .i64 0,.int .i64 0,.int .i64 0] 32 (0,0))):=⟨h1_⟩
   have n2_:zaa (w46.heap[e0]? = some (.cells #[.int .i64 0,.int .i64 0,.int .i64 0,.int .i64 0] 32 (0,0))):=⟨h2_⟩
   have n3_:zaa (w.heap.size≤e0):=⟨h3_⟩
   have n4_:zaa (w.heap.size≤e0):=⟨h4_⟩
   have n5_:zaa (b9≠e0):=⟨h5_⟩
   have n6_:zaa (e0≠b9):=⟨h6_⟩
   have n7_:zaa (i7≠e0):=⟨h7_⟩
   have n8_:zaa (e0≠i7):=⟨h8_⟩
   have n9_:zaa (Below w.heap.size w w46):=⟨h9_⟩
   clear b8
   clear d5
   clear HB
   clear h0_ h1_ h2_ h3_ h4_ h5_ h6_ h7_ h8_ h9_
   have b8:=n0_
   have d5:=n1_
   have e5:=n2_
   have j3:=n3_
   have f6:=n4_
   have d6:=n5_
   have e7:=n6_
   have d7:=n7_
   have e8:=n8_
   have HB:=n9_
   clear n0_ n1_ n2_ n3_ n4_ n5_ n6_ n7_ n8_ n9_
   have hHeld:w46.cell? ⟨b9,0,none⟩=some (.int .i64 f5)∧w46.cell? ⟨b9,1,none⟩=some (.int .i64 e9)∧w46.cell? ⟨b9,2,none⟩=some (.int .i64 d8)∧w46.cell? ⟨b9,3,none⟩=some (.int .i64 i6)∧w46.cell? ⟨b9,4,none⟩=some (.int .i64 i8):=hS_
   refine norm_ (a':=?_) ?_ ?_
   rotate_left
   ·simp only [zcg,Act.put,List.setIfInBounds_toArray,List.set_cons_zero,List.set_cons_succ]
    rfl
   refine zon 20 none HT_.out (fun K hK=>?_)
   have hs47:w46.cell? ⟨e0,0,none⟩=some (.int .i64 0):=zc e5.out 0
   have hfs47:=zaB e5.out 0
   have hns47_0:=d6.out
   have hns47_1:=d7.out
   have hms47_0:=e7.out
   have hms47_1:=e8.out
   have hs48:w46.cell? ⟨e0,1,none⟩=some (.int .i64 0):=zc e5.out 1
   have hfs48:=zaB e5.out 1
   have hns48_0:=d6.out
   have hns48_1:=d7.out
   have hms48_0:=e7.out
   have hms48_1:=e8.out
   have hs49:w46.cell? ⟨e0,2,none⟩=some (.int .i64 0):=zc e5.out 2
   have hfs49:=zaB e5.out 2
   have hns49_0:=d6.out
   have hns49_1:=d7.out
   have hms49_0:=e7.out
   have hms49_1:=e8.out
   have hs50:w46.cell? ⟨e0,3,none⟩=some (.int .i64 0):=zc e5.out 3
   have hfs50:=zaB e5.out 3
   have hns50_0:=d6.out
   have hns50_1:=d7.out
   have hms50_0:=e7.out
   have hms50_1:=e8.out
   refine skip_ (w1:=?_) (by rfl) rfl ?_ ?_
   rotate_left
   ·go_simp
    rfl
   refine hK.out _ _ ⟨(zs4 d6.out (hHeld.1)),(zs4 d6.out (hHeld.2.1)),(zs4 d6.out (hHeld.2.2.1)),(zs4 d6.out (hHeld.2.2.2.1)),(zs4 d6.out (hHeld.2.2.2.2))⟩ (fun hHeld=>?_)
   clear hK K
   refine zbT (zbB HT_.out (by kernel_rfl)) ?_
   have hnb51:=e7.out
   have hnc51:=d6.out
   have hnb52:=e8.out
   have hnc52:=d7.out
   obtain ⟨y9,z1,z2,z3⟩:=zD4 e5.out
   obtain ⟨z4,z5,z6,z7⟩:=zE4 e5.out
   obtain ⟨z8,z9,B0,B3⟩:=zD4 d5.out
   obtain ⟨B7,C0,C1,C2⟩:=zE4 d5.out
   try go_wp2
   refine bodyPost_ret (results_cell_row rfl _ _ i7 32 #[.int .i64 0,.int .i64 0,.int .i64 0,.int .i64 0] (0,0) _ rfl (by refine zB ?_;refine zar (cs:=#[.int .i64 0,.int .i64 0,.int .i64 0,.int .i64 0]) ?_ 3 _ rfl;refine zB ?_;refine zar (cs:=#[.int .i64 0,.int .i64 0,.int .i64 0,.int .i64 0]) ?_ 2 _ rfl;refine zB ?_;refine zar (cs:=#[.int .i64 0,.int .i64 0,.int .i64 0,.int .i64 0]) ?_ 1 _ rfl;refine zB ?_;refine zar (cs:=#[.int .i64 0,.int .i64 0,.int .i64 0,.int .i64 0]) ?_ 0 _ rfl;refine zB ?_;refine zaA ?_ d7.out _;refine zB ?_;refine zaA ?_ d7.out _;refine zB ?_;refine zaA ?_ d7.out _;refine zB ?_;refine zaA ?_ d7.out _;refine zB ?_;exact d5.out) Try.underlying32 rfl (by kernel_rfl)) rfl ?_
   exact zG
  ·rw [if_neg c31] at H
   have c31b0:decide ((wrap64 (i4 - i3))≤0)=false:=decide_eq_false c31
   clear c31
   simp only [Option.some.injEq,Prod.mk.injEq] at H
   obtain ⟨rfl,rfl,rfl,rfl⟩:=H
   go_enter Try.func16,Try.ntmps16
   try go_wp2_with (first|((with_reducible refine zaC (N:=1) rfl ?_);refine zbx (N:=1) #[.int .i64 j7,.int .i64 j6,.int .i64 j4,.int .i64 j2,.int .i64 i9] 28 ?_;intro b9 hg w55 hbox hb;have n0_:=zaa.mk (zae (zL HB.out) hb);have n1_:=zaa.mk (hbox);have n2_:=zaa.mk ((zS hg (zL HB.out):w.heap.size≤b9));have n3_:=n2_;clear HB;have HB:=n0_;have b8:=n1_;have j9:=n2_;have d9:=n3_;clear n0_ n1_ n2_ n3_;clear hb hbox hg)|((with_reducible refine zaC (N:=2) rfl ?_);refine zbx (N:=2) #[.int .i64 0,.int .i64 0,.int .i64 0,.int .i64 0] 32 ?_;intro i7 hg w56 hbox hb;have n0_:=zaa.mk (zac (zB b8.out) hb);have n1_:=zaa.mk (zae (zL1 HB.out d9.out) hb);have n2_:=zaa.mk (hbox);have n3_:=zaa.mk ((zS hg (zL1 HB.out d9.out):w.heap.size≤i7));have n4_:=n3_;have n5_:=zaa.mk (zne hg (zB b8.out));have n6_:=zaa.mk (zen hg (zB b8.out));clear b8;clear HB;have b8:=n0_;have HB:=n1_;have d5:=n2_;have k3:=n3_;have e6:=n4_;have j8:=n5_;have f7:=n6_;clear n0_ n1_ n2_ n3_ n4_ n5_ n6_;clear hb hbox hg;have hnb57:=j8.out;have hnc57:=f7.out;obtain ⟨C3,C4,C5,C6,C7⟩:=zD5 b8.out;obtain ⟨C8,C9,D0,D1,D2⟩:=zE5 b8.out)|((with_reducible refine zah (f:=52) rfl ?_);refine zgl 10 Try.func52 #[.agg #[.int .i64 j7,.int .i64 j6,.int .i64 j4,.int .i64 j2,.int .i64 i9]] ?_;(with_reducible refine (zbW.calls j7 j6 j4 j2 i9 f5 e9 d8 i6 i8 _ A2.out).mono ?_);rintro e w59 ⟨rfl,hb⟩;refine ⟨_,rfl,?_⟩;replace b8:=zaa.mk (zac (zB b8.out) hb);replace d5:=zaa.mk (zac (zB d5.out) hb);replace HB:=zaa.mk (zae (zL2 HB.out d9.out e6.out) hb);(try clear hb);obtain ⟨D3,D4,D5,D6,D7⟩:=zD5 b8.out;obtain ⟨D8,D9,E0,E1,E2⟩:=zE5 b8.out))
   have n0_:zaa ((((((w59.setCell ⟨b9,0,none⟩ (.int .i64 f5)).setCell ⟨b9,1,none⟩ (.int .i64 e9)).setCell ⟨b9,2,none⟩ (.int .i64 d8)).setCell ⟨b9,3,none⟩ (.int .i64 i6)).setCell ⟨b9,4,none⟩ (.int .i64 i8)).heap[b9]? = some (.cells #[.int .i64 f5,.int .i64 e9,.int .i64 d8,.int .i64 i6,.int .i64 i8] 28 (0,0))):=⟨by refine zB ?_;refine zar (cs:=#[.int .i64 f5,.int .i64 e9,.int .i64 d8,.int .i64 i6,.int .i64 i9]) ?_ 4 _ rfl;refine zB ?_;refine zar (cs:=#[.int .i64 f5,.int .i64 e9,.int .i64 d8,.int .i64 j2,.int .i64 i9]) ?_ 3 _ rfl;refine zB ?_;refine zar (cs:=#[.int .i64 f5,.int .i64 e9,.int .i64 j4,.int .i64 j2,.int .i64 i9]) ?_ 2 _ rfl;refine zB ?_;refine zar (cs:=#[.int .i64 f5,.int .i64 j6,.int .i64 j4,.int .i64 j2,.int .i64 i9]) ?_ 1 _ rfl;refine zB ?_;refine zar (cs:=#[.int .i64 j7,.int .i64 j6,.int .i64 j4,.int .i64 j2,.int .i64 i9]) ?_ 0 _ rfl;refine zB ?_;exact b8.out⟩
   have n1_:zaa ((((((w59.setCell ⟨b9,0,none⟩ (.int .i64 f5)).setCell ⟨b9,1,none⟩ (.int .i64 e9)).setCell ⟨b9,2,none⟩ (.int .i64 d8)).setCell ⟨b9,3,none⟩ (.int .i64 i6)).setCell ⟨b9,4,none⟩ (.int .i64 i8)).heap[i7]? = some (.cells #[.int .i64 0,.int .i64 0,.int .i64 0,.int .i64 0] 32 (0,0))):=⟨by refine zB ?_;refine zaA ?_ f7.out _;refine zB ?_;refine zaA ?_ f7.out _;refine zB ?_;refine zaA ?_ f7.out _;refine zB ?_;refine zaA ?_ f7.out _;refine zB ?_;refine zaA ?_ f7.out _;refine zB ?_;exact d5.out⟩
   have n2_:zaa (Below w.heap.size w (((((w59.setCell ⟨b9,0,none⟩ (.int .i64 f5)).setCell ⟨b9,1,none⟩ (.int .i64 e9)).setCell ⟨b9,2,none⟩ (.int .i64 d8)).setCell ⟨b9,3,none⟩ (.int .i64 i6)).setCell ⟨b9,4,none⟩ (.int .i64 i8))):=⟨by repeat (first|(with_reducible first|exact HB.out|apply zan|apply zaj|apply zai|refine zao ?_ d9.out|refine zao ?_ e6.out)|exact HB.out)⟩
   (try clear b8)
   (try clear d5)
   (try clear HB)
   generalize (((((w59.setCell ⟨b9,0,none⟩ (.int .i64 f5)).setCell ⟨b9,1,none⟩ (.int .i64 e9)).setCell ⟨b9,2,none⟩ (.int .i64 d8)).setCell ⟨b9,3,none⟩ (.int .i64 i6)).setCell ⟨b9,4,none⟩ (.int .i64 i8))=w61 at n0_ n1_ n2_ ⊢
   have b8:=n0_
   have d5:=n1_
   have HB:=n2_
   clear n0_ n1_ n2_
   replace b8:=zaa.mk (zaM b8.out)
   replace d5:=zaa.mk (zaM d5.out)
   replace HB:=zaa.mk (zai HB.out)
   refine zbA (n:=14) (S:=fun w'=>w'.cell? ⟨b9,0,none⟩=some (.int .i64 f5)∧w'.cell? ⟨b9,1,none⟩=some (.int .i64 e9)∧w'.cell? ⟨b9,2,none⟩=some (.int .i64 d8)∧w'.cell? ⟨b9,3,none⟩=some (.int .i64 i6)∧w'.cell? ⟨b9,4,none⟩=some (.int .i64 i8)) (ds:=[]) #[false,false,false,false,false,false,false,false,false,false,false,false,false,false] (by kernel_rfl) rfl rfl (zD5 b8.out) (fun hHeld=>?_);refine zbn zbO.tab5 zbO.bits5 (fun HT_ HW_=>?_)
   generalize w61.drew=w62 at b8 d5 HB hHeld ⊢
   refine zpu 0 15 HT_.out ?_
   refine zpu 1 16 HT_.out ?_
   refine zpu 3 18 HT_.out ?_
   refine zpu 6 21 HT_.out ?_
   refine zpu 7 22 HT_.out ?_
   refine zpu 9 24 HT_.out ?_
   refine ztk 2 17 HT_.out HW_.out hHeld ?_
   refine zpu 4 19 HT_.out ?_
   refine ztk 8 23 HT_.out HW_.out hHeld ?_
   refine zpu 10 25 HT_.out ?_
   refine zon 5 (some 20) HT_.out (fun K hK=>?_)
   refine zcl Try.func53 (by kernel_rfl) rfl #[.int .i64 (wrap64 (f5 - (wrap64 (Int.tdiv (wrap64 (d8+1)) 2))))] (by rfl) rfl rfl rfl zA ?_
   with_reducible refine (zca.calls (wrap64 (f5 - (wrap64 (Int.tdiv (wrap64 (d8+1)) 2)))) g9 _ A3.out).mono ?_
   rintro e w63 ⟨rfl,hb⟩
   refine ⟨_,rfl,?_⟩
   replace b8:=zaa.mk (zac (zB b8.out) hb)
   replace d5:=zaa.mk (zac (zB d5.out) hb)
   replace HB:=zaa.mk (zae (zL2 HB.out d9.out e6.out) hb)
   (try clear hb)
   refine hK.out _ _ (zD5 b8.out) (fun hHeld=>?_)
   clear hK K
   refine znm ?_
   refine zon 11 (some 26) HT_.out (fun K hK=>?_)
   refine zcl Try.func53 (by kernel_rfl) rfl #[.int .i64 (wrap64 (e9 - (wrap64 (Int.tdiv (wrap64 (d8+1)) 2))))] (by rfl) rfl rfl rfl zA ?_
   with_reducible refine (zca.calls (wrap64 (e9 - (wrap64 (Int.tdiv (wrap64 (d8+1)) 2)))) i3 _ A4.out).mono ?_
   rintro e w64 ⟨rfl,hb⟩
   refine ⟨_,rfl,?_⟩
   replace b8:=zaa.mk (zac (zB b8.out) hb)
   replace d5:=zaa.mk (zac (zB d5.out) hb)
   replace HB:=zaa.mk (zae (zL2 HB.out d9.out e6.out) hb)
   (try clear hb)
   refine hK.out _ _ (zD5 b8.out) (fun hHeld=>?_)
   clear hK K
   refine znm ?_
   refine zpu 12 6 HT_.out ?_
   refine zpu 13 7 HT_.out ?_
   refine zbT (zbB HT_.out (by kernel_rfl)) ?_
   try go_wp2
   replace b8:=zaa.mk (zaM b8.out)
   replace d5:=zaa.mk (zaM d5.out)
   replace HB:=zaa.mk (zai HB.out)
   refine zbA (n:=21) (S:=fun w'=>w'.cell? ⟨b9,0,none⟩=some (.int .i64 f5)∧w'.cell? ⟨b9,1,none⟩=some (.int .i64 e9)∧w'.cell? ⟨b9,2,none⟩=some (.int .i64 d8)∧w'.cell? ⟨b9,3,none⟩=some (.int .i64 i6)∧w'.cell? ⟨b9,4,none⟩=some (.int .i64 i8)) (ds:=[]) #[false,false,false,false,false,false,false,false,false,false,false,false,false,false,false,false,false,false,false,false,false] (by kernel_rfl) rfl rfl (zD5 b8.out) (fun hHeld=>?_);refine zbn zbO.tab6 zbO.bits6 (fun HT_ HW_=>?_)
   generalize w64.drew=w65 at b8 d5 HB hHeld ⊢
   refine zpu 0 27 HT_.out ?_
   refine zpu 1 28 HT_.out ?_
   refine zpu 2 29 HT_.out ?_
   refine zpu 3 30 HT_.out ?_
   refine zpu 5 32 HT_.out ?_
   refine zpu 8 35 HT_.out ?_
   refine zpu 10 37 HT_.out ?_
   refine zpu 11 38 HT_.out ?_
   refine zpu 13 40 HT_.out ?_
   refine zpu 16 43 HT_.out ?_
   refine ztk 4 31 HT_.out HW_.out hHeld ?_
   refine zpu 6 33 HT_.out ?_
   refine ztk 12 39 HT_.out HW_.out hHeld ?_
   refine zpu 14 41 HT_.out ?_
   refine join_ (σ:=Nat) 1 #[true,true,true,true,true,true,true,true,true,true,true,true,true,true,true,true,true,true,true,true,false] (fun s_=>[(34,.int .i64 i5),(42,.int .i64 i4),(8,.pointer (some ⟨s_,0,none⟩)),(36,.int .i64 (wrap64 (i5 - g9))),(44,.int .i64 (wrap64 (i4 - i3))),(45,.agg #[.int .i64 g9,.int .i64 i3,.int .i64 (wrap64 (i5 - g9)),.int .i64 (wrap64 (i4 - i3))])]) (fun s_ w'=>(w'.cell? ⟨b9,0,none⟩=some (.int .i64 f5)∧w'.cell? ⟨b9,1,none⟩=some (.int .i64 e9)∧w'.cell? ⟨b9,2,none⟩=some (.int .i64 d8)∧w'.cell? ⟨b9,3,none⟩=some (.int .i64 i6)∧w'.cell? ⟨b9,4,none⟩=some (.int .i64 i8))∧(w'.heap[b9]? = some (.cells #[.int .i64 f5,.int .i64 e9,.int .i64 d8,.int .i64 i6,.int .i64 i8] 28 (0,0)))∧(w'.heap[i7]? = some (.cells #[.int .i64 0,.int .i64 0,.int .i64 0,.int .i64 0] 32 (0,0)))∧(w'.heap[s_]? = some (.cells #[.int .i64 0,.int .i64 0,.int .i64 0,.int .i64 0] 32 (0,0)))∧(w.heap.size≤s_)∧(w.heap.size≤s_)∧(b9≠s_)∧(s_≠b9)∧(i7≠s_)∧(s_≠i7)∧(Below w.heap.size w w')) ?_ ?_
   rotate_left
   ·intro hCont
    refine two_ (i:=7) (j:=19) (Ni:=some 34) (Nj:=some 8) #[true,true,true,true,true,true,true,true,true,false,true,true,true,true,true,false,true,false,false,false,false] #[true,true,true,true,true,true,true,false,true,false,true,true,true,true,true,false,true,false,false,true,false] rfl rfl rfl rfl (two_of HT_.out (by kernel_rfl)) (by decide) (by decide) (fun K hK=>?_) (fun K hK=>?_)
    ·skip
     refine zcl Try.func56 (by kernel_rfl) rfl #[.int .i64 (wrap64 (f5+(wrap64 (Int.tdiv (wrap64 (d8+1)) 2))))] (by rfl) rfl rfl rfl zA ?_
     with_reducible refine (zbw.calls (wrap64 (f5+(wrap64 (Int.tdiv (wrap64 (d8+1)) 2)))) i5 _ A5.out).mono ?_
     rintro e w66 ⟨rfl,hb⟩
     refine ⟨_,rfl,?_⟩
     replace b8:=zaa.mk (zac (zB b8.out) hb)
     replace d5:=zaa.mk (zac (zB d5.out) hb)
     replace HB:=zaa.mk (zae (zL2 HB.out d9.out e6.out) hb)
     (try clear hb)
     refine hK.out _ _ (zD5 b8.out) (fun hHeld=>?_)
     clear hK K
     refine znm ?_
     refine zpu 9 36 HT_.out ?_
     refine two_ (i:=15) (j:=19) (Ni:=some 42) (Nj:=some 8) #[true,true,true,true,true,true,true,true,true,true,true,true,true,true,true,true,true,false,false,false,false] #[true,true,true,true,true,true,true,true,true,true,true,true,true,true,true,false,true,false,false,true,false] rfl rfl rfl rfl (two_of HT_.out (by kernel_rfl)) (by decide) (by decide) (fun K hK=>?_) (fun K hK=>?_)
     ·skip
      refine zcl Try.func56 (by kernel_rfl) rfl #[.int .i64 (wrap64 (e9+(wrap64 (Int.tdiv (wrap64 (d8+1)) 2))))] (by rfl) rfl rfl rfl zA ?_
      with_reducible refine (zbw.calls (wrap64 (e9+(wrap64 (Int.tdiv (wrap64 (d8+1)) 2)))) i4 _ A6.out).mono ?_
      rintro e w67 ⟨rfl,hb⟩
      refine ⟨_,rfl,?_⟩
      replace b8:=zaa.mk (zac (zB b8.out) hb)
      replace d5:=zaa.mk (zac (zB d5.out) hb)
      replace HB:=zaa.mk (zae (zL2 HB.out d9.out e6.out) hb)
      (try clear hb)
      refine hK.out _ _ (zD5 b8.out) (fun hHeld=>?_)
      clear hK K
      refine znm ?_
      refine zpu 17 44 HT_.out ?_
      refine zpu 18 45 HT_.out ?_
      refine zon 19 (some 8) HT_.out (fun K hK=>?_)
      refine zcb ?hg (N:=8) ?hd (cs:=#[.int .i64 0,.int .i64 0,.int .i64 0,.int .i64 0]) (t:=32) ?hr ?_;(case hd=>rfl);(case hg=>rfl);(case hr=>first|(go_simp;done)|(go_simp;rfl))
      intro e0 hg w68 hbox hb
      have n0_:=zaa.mk (zac (zB b8.out) hb)
      have n1_:=zaa.mk (zac (zB d5.out) hb)
      have n2_:=zaa.mk (zae (zL2 HB.out d9.out e6.out) hb)
      have n3_:=zaa.mk (hbox)
      have n4_:=zaa.mk ((zS hg (zL2 HB.out d9.out e6.out):w.heap.size≤e0))
      have n5_:=zaa.mk ((zS hg (zL2 HB.out d9.out e6.out):w.heap.size≤e0))
      have n6_:=zaa.mk (zne hg (zB b8.out))
      have n7_:=zaa.mk (zen hg (zB b8.out))
      have n8_:=zaa.mk (zne hg (zB d5.out))
      have n9_:=zaa.mk (zen hg (zB d5.out))
      clear b8
      clear d5
      clear HB
      have b8:=n0_
      have d5:=n1_
      have HB:=n2_
      have e5:=n3_
      have j3:=n4_
      have f6:=n5_
      have d6:=n6_
      have e7:=n7_
      have d7:=n8_
      have e8:=n9_
      clear n0_ n1_ n2_ n3_ n4_ n5_ n6_ n7_ n8_ n9_
      clear hb hbox hg
      refine hK.out _ _ (zD5 b8.out) (fun hHeld=>?_)
      clear hK K
      refine znm ?_
      exact norm_ (by simp only [zcg,Act.put,List.setIfInBounds_toArray,List.set_cons_zero,List.set_cons_succ]) (hCont (e0) _ ⟨hHeld,(zB b8.out),(zB d5.out),(zB e5.out),j3.out,f6.out,d6.out,e7.out,d7.out,e8.out,(zL3 HB.out d9.out e6.out f6.out)⟩)
     ·skip
      refine zcb ?hg (N:=8) ?hd (cs:=#[.int .i64 0,.int .i64 0,.int .i64 0,.int .i64 0]) (t:=32) ?hr ?_;(case hd=>rfl);(case hg=>rfl);(case hr=>first|(go_simp;done)|(go_simp;rfl))
      intro e0 hg w67 hbox hb
      have n0_:=zaa.mk (zac (zB b8.out) hb)
      have n1_:=zaa.mk (zac (zB d5.out) hb)
      have n2_:=zaa.mk (zae (zL2 HB.out d9.out e6.out) hb)
      have n3_:=zaa.mk (hbox)
      have n4_:=zaa.mk ((zS hg (zL2 HB.out d9.out e6.out):w.heap.size≤e0))
      have n5_:=zaa.mk ((zS hg (zL2 HB.out d9.out e6.out):w.heap.size≤e0))
      have n6_:=zaa.mk (zne hg (zB b8.out))
      have n7_:=zaa.mk (zen hg (zB b8.out))
      have n8_:=zaa.mk (zne hg (zB d5.out))
      have n9_:=zaa.mk (zen hg (zB d5.out))
      clear b8
      clear d5
      clear HB
      have b8:=n0_
      have d5:=n1_
      have HB:=n2_
      have e5:=n3_
      have j3:=n4_
      have f6:=n5_
      have d6:=n6_
      have e7:=n7_
      have d7:=n8_
      have e8:=n9_
      clear n0_ n1_ n2_ n3_ n4_ n5_ n6_ n7_ n8_ n9_
      clear hb hbox hg
      refine hK.out _ _ (zD5 b8.out) (fun hHeld=>?_)
      clear hK K
      refine znm ?_
      refine zon 15 (some 42) HT_.out (fun K hK=>?_)
      refine zcl Try.func56 (by kernel_rfl) rfl #[.int .i64 (wrap64 (e9+(wrap64 (Int.tdiv (wrap64 (d8+1)) 2))))] (by rfl) rfl rfl rfl zA ?_
      with_reducible refine (zbw.calls (wrap64 (e9+(wrap64 (Int.tdiv (wrap64 (d8+1)) 2)))) i4 _ A6.out).mono ?_
      rintro e w68 ⟨rfl,hb⟩
      refine ⟨_,rfl,?_⟩
      replace b8:=zaa.mk (zac (zB b8.out) hb)
      replace d5:=zaa.mk (zac (zB d5.out) hb)
      replace e5:=zaa.mk (zac (zB e5.out) hb)
      replace HB:=zaa.mk (zae (zL3 HB.out d9.out e6.out f6.out) hb)
      (try clear hb)
      refine hK.out _ _ (zD5 b8.out) (fun hHeld=>?_)
      clear hK K
      refine znm ?_
      refine zpu 17 44 HT_.out ?_
      refine zpu 18 45 HT_.out ?_
      exact norm_ (by simp only [zcg,Act.put,List.setIfInBounds_toArray,List.set_cons_zero,List.set_cons_succ]) (hCont (e0) _ ⟨hHeld,(zB b8.out),(zB d5.out),(zB e5.out),j3.out,f6.out,d6.out,e7.out,d7.out,e8.out,(zL3 HB.out d9.out e6.out f6.out)⟩)
    ·skip
     refine zcb ?hg (N:=8) ?hd (cs:=#[.int .i64 0,.int .i64 0,.int .i64 0,.int .i64 0]) (t:=32) ?hr ?_;(case hd=>rfl);(case hg=>rfl);(case hr=>first|(go_simp;done)|(go_simp;rfl))
     intro e0 hg w66 hbox hb
     have n0_:=zaa.mk (zac (zB b8.out) hb)
     have n1_:=zaa.mk (zac (zB d5.out) hb)
     have n2_:=zaa.mk (zae (zL2 HB.out d9.out e6.out) hb)
     have n3_:=zaa.mk (hbox)
     have n4_:=zaa.mk ((zS hg (zL2 HB.out d9.out e6.out):w.heap.size≤e0))
     have n5_:=zaa.mk ((zS hg (zL2 HB.out d9.out e6.out):w.heap.size≤e0))
     have n6_:=zaa.mk (zne hg (zB b8.out))
     have n7_:=zaa.mk (zen hg (zB b8.out))
     have n8_:=zaa.mk (zne hg (zB d5.out))
     have n9_:=zaa.mk (zen hg (zB d5.out))
     clear b8
     clear d5
     clear HB
     have b8:=n0_
     have d5:=n1_
     have HB:=n2_
     have e5:=n3_
     have j3:=n4_
     have f6:=n5_
     have d6:=n6_
     have e7:=n7_
     have d7:=n8_
     have e8:=n9_
     clear n0_ n1_ n2_ n3_ n4_ n5_ n6_ n7_ n8_ n9_
     clear hb hbox hg
     refine hK.out _ _ (zD5 b8.out) (fun hHeld=>?_)
     clear hK K
     refine znm ?_
     refine zon 7 (some 34) HT_.out (fun K hK=>?_)
     refine zcl Try.func56 (by kernel_rfl) rfl #[.int .i64 (wrap64 (f5+(wrap64 (Int.tdiv (wrap64 (d8+1)) 2))))] (by rfl) rfl rfl rfl zA ?_
     with_reducible refine (zbw.calls (wrap64 (f5+(wrap64 (Int.tdiv (wrap64 (d8+1)) 2)))) i5 _ A5.out).mono ?_
     rintro e w67 ⟨rfl,hb⟩
     refine ⟨_,rfl,?_⟩
     replace b8:=zaa.mk (zac (zB b8.out) hb)
     replace d5:=zaa.mk (zac (zB d5.out) hb)
     replace e5:=zaa.mk (zac (zB e5.out) hb)
     replace HB:=zaa.mk (zae (zL3 HB.out d9.out e6.out f6.out) hb)
     (try clear hb)
     refine hK.out _ _ (zD5 b8.out) (fun hHeld=>?_)
     clear hK K
     refine znm ?_
     refine zpu 9 36 HT_.out ?_
     refine zon 15 (some 42) HT_.out (fun K hK=>?_)
     refine zcl Try.func56 (by kernel_rfl) rfl #[.int .i64 (wrap64 (e9+(wrap64 (Int.tdiv (wrap64 (d8+1)) 2))))] (by rfl) rfl rfl rfl zA ?_
     with_reducible refine (zbw.calls (wrap64 (e9+(wrap64 (Int.tdiv (wrap64 (d8+1)) 2)))) i4 _ A6.out).mono ?_
     rintro e w68 ⟨rfl,hb⟩
     refine ⟨_,rfl,?_⟩
     replace b8:=zaa.mk (zac (zB b8.out) hb)
     replace d5:=zaa.mk (zac (zB d5.out) hb)
     replace e5:=zaa.mk (zac (zB e5.out) hb)
     replace HB:=zaa.mk (zae (zL3 HB.out d9.out e6.out f6.out) hb)
     (try clear hb)
     refine hK.out _ _ (zD5 b8.out) (fun hHeld=>?_)
     clear hK K
     refine znm ?_
     refine zpu 17 44 HT_.out ?_
     refine zpu 18 45 HT_.out ?_
     exact norm_ (by simp only [zcg,Act.put,List.setIfInBounds_toArray,List.set_cons_zero,List.set_cons_succ]) (hCont (e0) _ ⟨hHeld,(zB b8.out),(zB d5.out),(zB e5.out),j3.out,f6.out,d6.out,e7.out,d7.out,e8.out,(zL3 HB.out d9.out e6.out f6.out)⟩)
   rintro e0 w69 ⟨hS_,h0_,h1_,h2_,h3_,h4_,h5_,h6_,h7_,h8_,h9_⟩
   have n0_:zaa (w69.heap[b9]? = some (.cells #[.int .i64 f5,.int .i64 e9,.int .i64 d8,.int .i64 i6,.int .i64 i8] 28 (0,0))):=⟨h0_⟩
   have n1_:zaa (w69.heap[i7]? = some (.cells #[.int .i64 0,.int .i64 0,.int .i64 0,.int .i64 0] 32 (0,0))):=⟨h1_⟩
   have n2_:zaa (w69.heap[e0]? = some (.cells #[.int .i64 0,.int .i64 0,.int .i64 0,.int .i64 0] 32 (0,0))):=⟨h2_⟩
   have n3_:zaa (w.heap.size≤e0):=⟨h3_⟩
   have n4_:zaa (w.heap.size≤e0):=⟨h4_⟩
   have n5_:zaa (b9≠e0):=⟨h5_⟩
   have n6_:zaa (e0≠b9):=⟨h6_⟩
   have n7_:zaa (i7≠e0):=⟨h7_⟩
   have n8_:zaa (e0≠i7):=⟨h8_⟩
   have n9_:zaa (Below w.heap.size w w69):=⟨h9_⟩
   clear b8
   clear d5
   clear HB
   clear h0_ h1_ h2_ h3_ h4_ h5_ h6_ h7_ h8_ h9_
   have b8:=n0_
   have d5:=n1_
   have e5:=n2_
   have j3:=n3_
   have f6:=n4_
   have d6:=n5_
   have e7:=n6_
   have d7:=n7_
   have e8:=n8_
   have HB:=n9_
   clear n0_ n1_ n2_ n3_ n4_ n5_ n6_ n7_ n8_ n9_
   have hHeld:w69.cell? ⟨b9,0,none⟩=some (.int .i64 f5)∧w69.cell? ⟨b9,1,none⟩=some (.int .i64 e9)∧w69.cell? ⟨b9,2,none⟩=some (.int .i64 d8)∧w69.cell? ⟨b9,3,none⟩=some (.int .i64 i6)∧w69.cell? ⟨b9,4,none⟩=some (.int .i64 i8):=hS_
   refine norm_ (a':=?_) ?_ ?_
   rotate_left
   ·simp only [zcg,Act.put,List.setIfInBounds_toArray,List.set_cons_zero,List.set_cons_succ]
    rfl
   refine zon 20 none HT_.out (fun K hK=>?_)
   have hs70:w69.cell? ⟨e0,0,none⟩=some (.int .i64 0):=zc e5.out 0
   have hfs70:=zaB e5.out 0
   have hns70_0:=d6.out
   have hns70_1:=d7.out
   have hms70_0:=e7.out
   have hms70_1:=e8.out
   have hs71:w69.cell? ⟨e0,1,none⟩=some (.int .i64 0):=zc e5.out 1
   have hfs71:=zaB e5.out 1
   have hns71_0:=d6.out
   have hns71_1:=d7.out
   have hms71_0:=e7.out
   have hms71_1:=e8.out
   have hs72:w69.cell? ⟨e0,2,none⟩=some (.int .i64 0):=zc e5.out 2
   have hfs72:=zaB e5.out 2
   have hns72_0:=d6.out
   have hns72_1:=d7.out
   have hms72_0:=e7.out
   have hms72_1:=e8.out
   have hs73:w69.cell? ⟨e0,3,none⟩=some (.int .i64 0):=zc e5.out 3
   have hfs73:=zaB e5.out 3
   have hns73_0:=d6.out
   have hns73_1:=d7.out
   have hms73_0:=e7.out
   have hms73_1:=e8.out
   refine skip_ (w1:=?_) (by rfl) rfl ?_ ?_
   rotate_left
   ·go_simp
    rfl
   refine hK.out _ _ ⟨(zs4 d6.out (hHeld.1)),(zs4 d6.out (hHeld.2.1)),(zs4 d6.out (hHeld.2.2.1)),(zs4 d6.out (hHeld.2.2.2.1)),(zs4 d6.out (hHeld.2.2.2.2))⟩ (fun hHeld=>?_)
   clear hK K
   refine zbT (zbB HT_.out (by kernel_rfl)) ?_
   have hnb74:=e7.out
   have hnc74:=d6.out
   have hnb75:=e8.out
   have hnc75:=d7.out
   obtain ⟨E3,E4,E5,E6⟩:=zD4 e5.out
   obtain ⟨E7,E8,E9,F0⟩:=zE4 e5.out
   obtain ⟨F1,F2,F3,F4⟩:=zD4 d5.out
   obtain ⟨F5,F6,F7,F8⟩:=zE4 d5.out
   try go_wp2
   refine bodyPost_ret (results_cell_row rfl _ _ i7 32 #[.int .i64 g9,.int .i64 i3,.int .i64 (wrap64 (i5 - g9)),.int .i64 (wrap64 (i4 - i3))] (0,0) _ rfl (by refine zB ?_;refine zar (cs:=#[.int .i64 g9,.int .i64 i3,.int .i64 (wrap64 (i5 - g9)),.int .i64 0]) ?_ 3 _ rfl;refine zB ?_;refine zar (cs:=#[.int .i64 g9,.int .i64 i3,.int .i64 0,.int .i64 0]) ?_ 2 _ rfl;refine zB ?_;refine zar (cs:=#[.int .i64 g9,.int .i64 0,.int .i64 0,.int .i64 0]) ?_ 1 _ rfl;refine zB ?_;refine zar (cs:=#[.int .i64 0,.int .i64 0,.int .i64 0,.int .i64 0]) ?_ 0 _ rfl;refine zB ?_;refine zaA ?_ d7.out _;refine zB ?_;refine zaA ?_ d7.out _;refine zB ?_;refine zaA ?_ d7.out _;refine zB ?_;refine zaA ?_ d7.out _;refine zB ?_;exact d5.out) Try.underlying32 rfl (by kernel_rfl)) rfl ?_
   exact zG
end Go.Proofs.Ytlilncnoohfcdaa.Da
