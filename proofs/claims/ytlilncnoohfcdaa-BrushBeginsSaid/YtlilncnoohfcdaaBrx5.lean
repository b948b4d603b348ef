
import Derived.Test.YtlilncnoohfcdaaDax0
import Derived.Test.YtlilncnoohfcdaaDax3
import Derived.Test.YtlilncnoohfcdaaDax6
import Derived.Test.YtlilncnoohfcdaaDax8
import Derived.Test.YtlilncnoohfcdaaBrx0
import Derived.Test.YtlilncnoohfcdaaBrx4
import Derived.Test.YtlilncnoohfcdaaBrx7
namespace Go.Proofs.Ytlilncnoohfcdaa.Br
open Go.RowKit Go.Proofs.YtlilncnoohfcdaaW.PrintWords Go.Proofs.YtlilncnoohfcdaaW.PrintLast Go.Proofs.YtlilncnoohfcdaaW.PrintMore Go.Proofs.Ytlilncnoohfcdaa.Da
attribute [local go_sem] zbr zbu zbD zbH zbq zbp zbv zbt   
set_option linter.unusedVariables false
set_option linter.unusedSimpArgs false
/-! ### brush_dabOf: function 71 -/
set_option maxHeartbeats 2000000 in
set_option maxRecDepth 100000 in
theorem value_calls (k:Nat) (g4 g5 g6 g7:Nat) (a0 a1 a2 a3 a4 a5 a6 a7 a8 a9 a10 a11 a12 a13:Int) (A:Option Addr) (c:Nat) (l:List S120) (e:Bool) (s0 s1 s2 s3 s4 sp ix tg r:Int) (w:World)
 (hb4:w.heap[g4]? = some (.cells #[.int .i64 a0,.int .i64 a1,.int .i64 a2,.int .i64 a3,.int .i64 a4,.int .i64 a5,.int .i64 a6,.int .i64 a7,.int .i64 a8,.int .i64 a9,.int .i64 a10,.int .i64 a11,.int .i64 a12,.int .i64 a13,.slice A l.length c,.bool e] 26 (0,0))) (hb5:w.heap[g5]? = some (.cells #[.int .i64 s0,.int .i64 s1,.int .i64 s2,.int .i64 s3,.int .i64 s4] 57 (0,0))) (hb6:w.heap[g6]? = some (.cells #[.int .i64 sp] 3 (0,0))) (hb7:w.heap[g7]? = some (.cells #[.int .i64 ix] 3 (0,0)))
 (hr0:Kd.C k120 w A l.length l) (hc0:l.length≤c) (h:za7.f k l tg s0 s1 s2 s3 s4 sp ix a13=some r) :
 Calls Try.prog 116 #[.int .i64 tg,.pointer (some ⟨g4,0,none⟩),.pointer (some ⟨g5,0,none⟩),.pointer (some ⟨g6,0,none⟩),.pointer (some ⟨g7,0,none⟩)] w fun e w'=>e = .returned (.int .i64 r)∧Below w.heap.size w w':=by
 have hu26:=Try.underlying26
 have hu57:=Try.underlying57
 have c4a:=zc hb4 13
 have c4b:=zc hb4 14
 obtain ⟨c50,c51,c52,c53,c54⟩:=zD5 hb5
 have c6:=zc hb6 0
 have c7:=zc hb7 0
 have HR:=zaa.mk hr0
 have HC:=zaa.mk hc0
 have A0:=zaa.mk h
 clear hb4 hb5 hb6 hb7 hr0 hc0 h
 go_enter Try.func116,Try.ntmps116
 go_wp2_with (first|(go_at_call 117;(with_reducible refine (za7.calls k A c l tg s0 s1 s2 s3 s4 sp ix a13 r _ HR.out HC.out A0.out).mono ?_);rintro e w1 ⟨rfl,hb⟩;have HB:=zaa.mk hb;clear hb))
 go_ret
 exact ⟨rfl,HB.out⟩
def place.T1:Bool×List (List Nat×List Nat):=(true,[([],[]),([],[]),([1],[1]),([],[]),([],[]),([],[]),([5],[5]),([6],[6]),([2,3,4,7],[2,3,4,7]),([0,8],[0,8]),([],[]),([9,10],[9,10]),([11,8],[11]),([12,12,0,1,2,3,4,5,6,7,8,9,10,11,12],[12])])
def place.B1:List Nat:=[0,0,2,0,0,0,32,96,254,511,0,2047,4095,8191]
theorem place.tab1:rtab .any (opsOf Try.f118 1)=place.T1:=by kernel_rfl
theorem place.bits1:zbE place.T1.2 place.B1=true:=by kernel_rfl
set_option maxHeartbeats 2000000 in
set_option maxRecDepth 100000 in
theorem place_calls (g4 g7 g11:Nat) (a0 a1 a2 a3 a4 a5 a6 a7 a8 a9 a10 a11 a12 a13:Int) (A:Option Addr) (nl c:Nat) (e:Bool) (ix m x dim t0 r:Int) (w:World)
 (hb4:w.heap[g4]? = some (.cells #[.int .i64 a0,.int .i64 a1,.int .i64 a2,.int .i64 a3,.int .i64 a4,.int .i64 a5,.int .i64 a6,.int .i64 a7,.int .i64 a8,.int .i64 a9,.int .i64 a10,.int .i64 a11,.int .i64 a12,.int .i64 a13,.slice A nl c,.bool e] 26 (0,0))) (hb7:w.heap[g7]? = some (.cells #[.int .i64 ix] 3 (0,0))) (hb11:w.heap[g11]? = some (.cells #[.int .i64 m] 3 (0,0)))
 (h0:zcr.f a13 ix dim (wrap64 ((wrap64 (2*m))+1))=some t0) (h1:zaR.f (wrap64 ((wrap64 (x+t0)) - m)) (-16777216) 16777216=some r) :
 Calls Try.prog 118 #[.int .i64 x,.int .i64 dim,.pointer (some ⟨g4,0,none⟩),.pointer (some ⟨g7,0,none⟩),.pointer (some ⟨g11,0,none⟩)] w fun e w'=>e = .returned (.int .i64 r)∧Below w.heap.size w w':=by
 have hu26:=Try.underlying26
 have b8:=zaa.mk hb4
 have d5:=zaa.mk hb7
 have e0:=zaa.mk hb11
 have A0:=zaa.mk h0
 have A1:=zaa.mk h1
 have HB:=zaa.mk (Below.refl w.heap.size w)
 clear hb4 hb7 hb11 h0 h1
 go_enter Try.func118,Try.ntmps118
 try go_wp2
 replace b8:=zaa.mk (zaM b8.out)
 replace d5:=zaa.mk (zaM d5.out)
 replace e0:=zaa.mk (zaM e0.out)
 replace HB:=zaa.mk (zai HB.out)
 refine zbA (n:=14) (S:=fun w'=>w'.cell? ⟨g4,13,none⟩=some (.int .i64 a13)∧w'.cell? ⟨g7,0,none⟩=some (.int .i64 ix)∧w'.cell? ⟨g11,0,none⟩=some (.int .i64 m)) (ds:=[]) #[false,false,false,false,false,false,false,false,false,false,false,false,false,false] (by kernel_rfl) rfl rfl ⟨zc b8.out 13,zc d5.out 0,zc e0.out 0⟩ (fun hHeld=>?_);refine zbn place.tab1 place.bits1 (fun HT_ HW_=>?_)
 refine zpu 0 8 HT_.out ?_
 refine zpu 1 9 HT_.out ?_
 refine zpu 4 12 HT_.out ?_
 refine ztk 2 10 HT_.out HW_.out hHeld ?_
 refine ztk 3 11 HT_.out HW_.out hHeld ?_
 refine ztk 5 13 HT_.out HW_.out hHeld ?_
 refine zpu 6 14 HT_.out ?_
 refine zpu 7 15 HT_.out ?_
 refine ztk 10 18 HT_.out HW_.out hHeld ?_
 refine zon 8 (some 16) HT_.out (fun K hK=>?_)
 refine zgo Try.func119 #[.int .i64 a13,.int .i64 ix,.int .i64 dim,.int .i64 (wrap64 ((wrap64 (2*m))+1))] ?_
 with_reducible refine (zcr.calls a13 ix dim (wrap64 ((wrap64 (2*m))+1)) t0 _ A0.out).mono ?_
 rintro e v0 ⟨rfl,hb⟩
 refine ⟨_,rfl,?_⟩
 replace b8:=zaa.mk (zac (zB b8.out) hb)
 replace d5:=zaa.mk (zac (zB d5.out) hb)
 replace e0:=zaa.mk (zac (zB e0.out) hb)
 replace HB:=zaa.mk (zae (zL HB.out) hb)
 clear hb
 refine hK.out _ _ ⟨zc b8.out 13,zc d5.out 0,zc e0.out 0⟩ (fun hHeld=>?_)
 clear hK K
 refine znm ?_
 refine zpu 9 17 HT_.out ?_
 refine zpu 11 19 HT_.out ?_
 refine zon 12 (some 20) HT_.out (fun K hK=>?_)
 refine zgo Try.func54 #[.int .i64 (wrap64 ((wrap64 (x+t0)) - m)),.int .i64 (-16777216),.int .i64 16777216] ?_
 with_reducible refine (zaR.calls (wrap64 ((wrap64 (x+t0)) - m)) (-16777216) 16777216 r _ A1.out).mono ?_
 rintro e v1 ⟨rfl,hb⟩
 refine ⟨_,rfl,?_⟩
 replace b8:=zaa.mk (zac (zB b8.out) hb)
 replace d5:=zaa.mk (zac (zB d5.out) hb)
 replace e0:=zaa.mk (zac (zB e0.out) hb)
 replace HB:=zaa.mk (zae (zL HB.out) hb)
 clear hb
 refine hK.out _ _ ⟨zc b8.out 13,zc d5.out 0,zc e0.out 0⟩ (fun hHeld=>?_)
 clear hK K
 refine znm ?_
 refine zpu 13 7 HT_.out ?_
 refine zbT (zbB HT_.out (by kernel_rfl)) ?_
 try go_wp2
 go_ret
 exact ⟨by first|rfl|(simp;done),HB.out⟩
def zb5.f (k:Nat) (e6:Int) (e9:Int) (f7:Int) (g9:Int) (i3:Int) (i4:Int) (j4:Int) (i5:Int) (j5:Int) (j6:Int) (i6:Int) (i7:Int) (i8:Int) (e7:Int) (d6:List (S120)) (i9:Bool) (d7:Int) (d8:Int) (e8:Int) (f5:Int) (f6:Int) (a2:Int) (a3:Int):Option (Int×Int×Int×Int×Int):=(za7.f k d6 1 d7 d8 e8 f5 f6 a2 a3 e7).bind fun v1=>((zbl.f k (wrap64 (e6*v1)) 65535).bind fun d1=>((zbl.f k (wrap64 ((mx 1 d1)*i5)) 100).bind fun d2=>((za7.f k d6 4 d7 d8 e8 f5 f6 a2 a3 e7).bind fun v4=>((zbl.f k (wrap64 (d2*v4)) 65535).bind fun m=>((zcr.f e7 a3 2 (wrap64 ((wrap64 (2*m))+1))).bind fun r2=>((zaR.f (wrap64 ((wrap64 (d7+r2)) - m)) (-16777216) 16777216).bind fun x=>((zcr.f e7 a3 3 (wrap64 ((wrap64 (2*m))+1))).bind fun r3=>((zaR.f (wrap64 ((wrap64 (d8+r3)) - m)) (-16777216) 16777216).bind fun y=>((za7.f k d6 2 d7 d8 e8 f5 f6 a2 a3 e7).bind fun v2=>((za7.f k d6 3 d7 d8 e8 f5 f6 a2 a3 e7).bind fun v3=>((zbR.f (wrap64 (v3*65536)) 65535).bind fun q=>(some (x,y,mx 1 d1,v2,Int.tmod q 65536)))))))))))))
def dabOf.T2:Bool×List (List Nat×List Nat):=(true,[([],[]),([0],[0]),([],[]),([2],[2]),([1,3],[1,3]),([4,3],[4]),([5],[5]),([6,5,0,1,2,3,4,5,6],[6])])
def dabOf.B2:List Nat:=[0,1,0,4,15,31,63,127]
theorem dabOf.tab2:rtab .any (opsOf Try.f71 2)=dabOf.T2:=by kernel_rfl
theorem dabOf.bits2:zbE dabOf.T2.2 dabOf.B2=true:=by kernel_rfl
def dabOf.T5:Bool×List (List Nat×List Nat):=(true,[([],[]),([],[]),([1],[1]),([0,2],[0,2]),([],[]),([],[]),([5],[5]),([4,6,3],[4,6]),([],[]),([],[]),([9,7],[9]),([],[]),([11,10],[11]),([12],[12]),([13,12],[13]),([14],[14]),([3,7,8,10,15],[3,7,8,10,15]),([16,14,0,1,2,3,4,5,6,7,8,9,10,11,12,13,14,15,16],[16])])
def dabOf.B5:List Nat:=[0,0,2,7,0,0,32,127,0,0,767,0,3839,7935,16127,32511,65535,131071]
theorem dabOf.tab5:rtab .any (opsOf Try.f71 5)=dabOf.T5:=by kernel_rfl
theorem dabOf.bits5:zbE dabOf.T5.2 dabOf.B5=true:=by kernel_rfl
attribute [local go_sem] zbr zbD
set_option maxHeartbeats 8000000 in
set_option maxRecDepth 100000 in
theorem zb5.calls (k:Nat) (e6 e9 f7 g9 i3 i4 j4 i5 j5 j6 i6 i7 i8 e7:Int) (j2:Option Addr) (j3:Nat) (d6:List (S120)) (i9:Bool) (d7 d8 e8 f5 f6:Int) (a2 a3 r1 r2_ r3_ r4 r5:Int) (w:World) (k3:Kd.C k120 w j2 d6.length d6) (k4:d6.length≤j3)
 (h:zb5.f k e6 e9 f7 g9 i3 i4 j4 i5 j5 j6 i6 i7 i8 e7 d6 i9 d7 d8 e8 f5 f6 a2 a3=some (r1,r2_,r3_,r4,r5)) :
 Calls Try.prog 71 #[.agg #[.int .i64 e6,.int .i64 e9,.int .i64 f7,.int .i64 g9,.int .i64 i3,.int .i64 i4,.int .i64 j4,.int .i64 i5,.int .i64 j5,.int .i64 j6,.int .i64 i6,.int .i64 i7,.int .i64 i8,.int .i64 e7,.slice j2 d6.length j3,.bool i9],.agg #[.int .i64 d7,.int .i64 d8,.int .i64 e8,.int .i64 f5,.int .i64 f6],.int .i64 a2,.int .i64 a3] w fun e w'=>e = .returned (.agg #[.int .i64 r1,.int .i64 r2_,.int .i64 r3_,.int .i64 r4,.int .i64 r5])∧Below w.heap.size w w':=by
 have hu26:=Try.underlying26
 have hu28:=Try.underlying28
 have hu57:=Try.underlying57
 have HR:=zaa.mk k3
 have HC:=zaa.mk k4
 clear k3 k4
 have HB:=zaa.mk (Below.refl w.heap.size w)
 unfold zb5.f at h
 obtain ⟨v1,AV1,h⟩:=Option.bind_eq_some_iff.mp h
 obtain ⟨d1,AD1,h⟩:=Option.bind_eq_some_iff.mp h
 obtain ⟨d2,AD2,h⟩:=Option.bind_eq_some_iff.mp h
 obtain ⟨v4,AV4,h⟩:=Option.bind_eq_some_iff.mp h
 obtain ⟨m,AD3,h⟩:=Option.bind_eq_some_iff.mp h
 obtain ⟨r2,AR2,h⟩:=Option.bind_eq_some_iff.mp h
 obtain ⟨x,AC2,h⟩:=Option.bind_eq_some_iff.mp h
 obtain ⟨r3,AR3,h⟩:=Option.bind_eq_some_iff.mp h
 obtain ⟨y,AC3,h⟩:=Option.bind_eq_some_iff.mp h
 obtain ⟨v2,AV2,h⟩:=Option.bind_eq_some_iff.mp h
 obtain ⟨v3,AV3,h⟩:=Option.bind_eq_some_iff.mp h
 obtain ⟨q,AF,h⟩:=Option.bind_eq_some_iff.mp h
 simp only [Option.some.injEq,Prod.mk.injEq] at h
 obtain ⟨rfl,rfl,hs,rfl,rfl⟩:=h
 rw [hs] at AD2
 replace hs:=zaa.mk hs
 replace AD2:zbl.f k (wrap64 (r3_*i5)) 100=some d2:=AD2
 replace AV1:=zaa.mk AV1
 replace AD1:=zaa.mk AD1
 replace AD2:=zaa.mk AD2
 replace AV4:=zaa.mk AV4
 replace AD3:=zaa.mk AD3
 replace AR2:=zaa.mk AR2
 replace AC2:=zaa.mk AC2
 replace AR3:=zaa.mk AR3
 replace AC3:=zaa.mk AC3
 replace AV2:=zaa.mk AV2
 replace AV3:=zaa.mk AV3
 replace AF:=zaa.mk AF
 go_enter Try.func71,Try.ntmps71
 go_wp2_with (first|((with_reducible refine zaC (N:=4) rfl ?_);refine zbx (N:=4) #[.int .i64 e6,.int .i64 e9,.int .i64 f7,.int .i64 g9,.int .i64 i3,.int .i64 i4,.int .i64 j4,.int .i64 i5,.int .i64 j5,.int .i64 j6,.int .i64 i6,.int .i64 i7,.int .i64 i8,.int .i64 e7,.slice j2 d6.length j3,.bool i9] 26 ?_;intro g4 hg w4 hbox hb;have C8:=zaa.mk ((zS hg (zL HB.out):w.heap.size≤g4));have HBn:=zaa.mk (zae (zL HB.out) hb);clear HB;have HB:=HBn;clear HBn;have b8:=zaa.mk hbox;clear hbox hb hg)|((with_reducible refine zaC (N:=5) rfl ?_);refine zbx (N:=5) #[.int .i64 d7,.int .i64 d8,.int .i64 e8,.int .i64 f5,.int .i64 f6] 57 ?_;intro g5 hg w5 hbox hb;have C9:=zaa.mk ((zS hg (zL HB.out):w.heap.size≤g5));have HBn:=zaa.mk (zae (zL HB.out) hb);clear HB;have HB:=HBn;clear HBn;have BKn:=zaa.mk (zac (zB b8.out) hb);have NE4_5:=(by rw [hg];exact Nat.ne_of_lt (zb6 (zB b8.out)):g4≠g5);clear b8;have b8:=BKn;clear BKn;have b9:=zaa.mk hbox;clear hbox hb hg)|((with_reducible refine zaC (N:=6) rfl ?_);refine zbx (N:=6) #[.int .i64 a2] 3 ?_;intro g6 hg w6 hbox hb;have D0:=zaa.mk ((zS hg (zL HB.out):w.heap.size≤g6));have HBn:=zaa.mk (zae (zL HB.out) hb);clear HB;have HB:=HBn;clear HBn;have BKn:=zaa.mk (zac (zB b8.out) hb);have NE4_6:=(by rw [hg];exact Nat.ne_of_lt (zb6 (zB b8.out)):g4≠g6);clear b8;have b8:=BKn;clear BKn;have BKn:=zaa.mk (zac (zB b9.out) hb);have NE5_6:=(by rw [hg];exact Nat.ne_of_lt (zb6 (zB b9.out)):g5≠g6);clear b9;have b9:=BKn;clear BKn;have d9:=zaa.mk hbox;clear hbox hb hg)|((with_reducible refine zaC (N:=7) rfl ?_);refine zbx (N:=7) #[.int .i64 a3] 3 ?_;intro g7 hg w7 hbox hb;have D1:=zaa.mk ((zS hg (zL HB.out):w.heap.size≤g7));have HBn:=zaa.mk (zae (zL HB.out) hb);clear HB;have HB:=HBn;clear HBn;have BKn:=zaa.mk (zac (zB b8.out) hb);have NE4_7:=(by rw [hg];exact Nat.ne_of_lt (zb6 (zB b8.out)):g4≠g7);clear b8;have b8:=BKn;clear BKn;have BKn:=zaa.mk (zac (zB b9.out) hb);have NE5_7:=(by rw [hg];exact Nat.ne_of_lt (zb6 (zB b9.out)):g5≠g7);clear b9;have b9:=BKn;clear BKn;have BKn:=zaa.mk (zac (zB d9.out) hb);have NE6_7:=(by rw [hg];exact Nat.ne_of_lt (zb6 (zB d9.out)):g6≠g7);clear d9;have d9:=BKn;clear BKn;have d5:=zaa.mk hbox;clear hbox hb hg)|((with_reducible refine zaC (N:=8) rfl ?_);refine zbx (N:=8) #[.int .i64 0,.int .i64 0,.int .i64 0,.int .i64 0,.int .i64 0] 28 ?_;intro g8 hg w8 hbox hb;have s7:=zaa.mk ((zS hg (zL HB.out):w.heap.size≤g8));have HBn:=zaa.mk (zae (zL HB.out) hb);clear HB;have HB:=HBn;clear HBn;have BKn:=zaa.mk (zac (zB b8.out) hb);have NE4_8:=(by rw [hg];exact Nat.ne_of_lt (zb6 (zB b8.out)):g4≠g8);clear b8;have b8:=BKn;clear BKn;have BKn:=zaa.mk (zac (zB b9.out) hb);have NE5_8:=(by rw [hg];exact Nat.ne_of_lt (zb6 (zB b9.out)):g5≠g8);clear b9;have b9:=BKn;clear BKn;have BKn:=zaa.mk (zac (zB d9.out) hb);have NE6_8:=(by rw [hg];exact Nat.ne_of_lt (zb6 (zB d9.out)):g6≠g8);clear d9;have d9:=BKn;clear BKn;have BKn:=zaa.mk (zac (zB d5.out) hb);have NE7_8:=(by rw [hg];exact Nat.ne_of_lt (zb6 (zB d5.out)):g7≠g8);clear d5;have d5:=BKn;clear BKn;have e5:=zaa.mk hbox;clear hbox hb hg))
 replace b8:=zaa.mk (zaM b8.out)
 replace b9:=zaa.mk (zaM b9.out)
 replace d9:=zaa.mk (zaM d9.out)
 replace d5:=zaa.mk (zaM d5.out)
 replace e5:=zaa.mk (zaM e5.out)
 replace HB:=zaa.mk (zai HB.out)
 refine zbA (n:=8) (S:=fun w'=>w'.cell? ⟨g4,0,none⟩=some (.int .i64 e6)∧w'.cell? ⟨g4,7,none⟩=some (.int .i64 i5)) (ds:=[]) #[false,false,false,false,false,false,false,false] (by kernel_rfl) rfl rfl ⟨zc b8.out 0,zc b8.out 7⟩ (fun hHeld=>?_);refine zbn dabOf.tab2 dabOf.bits2 (fun HT_ HW_=>?_)
 refine zpu 0 14 HT_.out ?_
 refine zpu 2 16 HT_.out ?_
 refine ztk 1 15 HT_.out HW_.out hHeld ?_
 refine zon 3 (some 17) HT_.out (fun K hK=>?_)
 refine goesC_ Try.func116 (by kernel_rfl) rfl #[.int .i64 1] #[.pointer (some ⟨g4,0,none⟩),.pointer (some ⟨g5,0,none⟩),.pointer (some ⟨g6,0,none⟩),.pointer (some ⟨g7,0,none⟩)] #[.int .i64 1,.pointer (some ⟨g4,0,none⟩),.pointer (some ⟨g5,0,none⟩),.pointer (some ⟨g6,0,none⟩),.pointer (some ⟨g7,0,none⟩)] (by rfl) rfl rfl rfl zA rfl ?_
 with_reducible refine (value_calls k g4 g5 g6 g7 e6 e9 f7 g9 i3 i4 j4 i5 j5 j6 i6 i7 i8 e7 j2 j3 d6 i9 d7 d8 e8 f5 f6 a2 a3 1 v1 _ ?b4 ?b5 ?b6 ?b7 ?hr HC.out AV1.out).mono ?_
 case b4=>exact zB b8.out
 case b5=>exact zB b9.out
 case b6=>exact zB d9.out
 case b7=>exact zB d5.out
 case hr=>exact Kd.C_below HR.out HB.out
 rintro e wv0 ⟨rfl,hb⟩
 refine ⟨_,rfl,?_⟩
 replace b8:=zaa.mk (zac (zB b8.out) hb)
 replace b9:=zaa.mk (zac (zB b9.out) hb)
 replace d9:=zaa.mk (zac (zB d9.out) hb)
 replace d5:=zaa.mk (zac (zB d5.out) hb)
 replace e5:=zaa.mk (zac (zB e5.out) hb)
 replace HB:=zaa.mk (zae (zL HB.out) hb)
 clear hb
 refine hK.out _ _ ⟨zc b8.out 0,zc b8.out 7⟩ (fun hHeld=>?_)
 clear hK K
 refine znm ?_
 refine zpu 4 18 HT_.out ?_
 refine zon 5 (some 19) HT_.out (fun K hK=>?_)
 refine zgo Try.func110 #[.int .i64 (wrap64 (e6*v1)),.int .i64 65535] ?_
 with_reducible refine (zbl.calls k (wrap64 (e6*v1)) 65535 d1 _ AD1.out).mono ?_
 rintro e wv1 ⟨rfl,hb⟩
 replace hb:=hb.below
 refine ⟨_,rfl,?_⟩
 replace b8:=zaa.mk (zac (zB b8.out) hb)
 replace b9:=zaa.mk (zac (zB b9.out) hb)
 replace d9:=zaa.mk (zac (zB d9.out) hb)
 replace d5:=zaa.mk (zac (zB d5.out) hb)
 replace e5:=zaa.mk (zac (zB e5.out) hb)
 replace HB:=zaa.mk (zae (zL HB.out) hb)
 clear hb
 refine hK.out _ _ ⟨zc b8.out 0,zc b8.out 7⟩ (fun hHeld=>?_)
 clear hK K
 refine znm ?_
 refine zpu 6 20 HT_.out ?_
 refine zpu 7 10 HT_.out ?_
 refine zbT (zbB HT_.out (by kernel_rfl)) ?_
 rw [show (if (1:Int)<d1 then d1 else 1)=r3_ from hs.out]
 go_wp2_with (first|(go_at_call 110;(with_reducible refine (zbl.calls k (wrap64 (r3_*i5)) 100 d2 _ AD2.out).mono ?_);rintro e w' ⟨rfl,⟨nd,rfl⟩⟩)|(go_at_call 116;(with_reducible refine (value_calls k g4 g5 g6 g7 e6 e9 f7 g9 i3 i4 j4 i5 j5 j6 i6 i7 i8 e7 j2 j3 d6 i9 d7 d8 e8 f5 f6 a2 a3 4 v4 _ ?b4 ?b5 ?b6 ?b7 ?hr HC.out AV4.out).mono ?_);(case b4=>exact zB b8.out);(case b5=>exact zB b9.out);(case b6=>exact zB d9.out);(case b7=>exact zB d5.out);(case hr=>repeat (first|exact (Kd.C_below HR.out HB.out)|(with_reducible refine Kd.C_drewN ?_ _)|(with_reducible refine Kd.C_drew ?_)));rintro e w20 ⟨rfl,hb⟩;have BKn:=zaa.mk (zac (zB b8.out) hb);clear b8;have b8:=BKn;clear BKn;have BKn:=zaa.mk (zac (zB b9.out) hb);clear b9;have b9:=BKn;clear BKn;have BKn:=zaa.mk (zac (zB d9.out) hb);clear d9;have d9:=BKn;clear BKn;have BKn:=zaa.mk (zac (zB d5.out) hb);clear d5;have d5:=BKn;clear BKn;have BKn:=zaa.mk (zac (zB e5.out) hb);clear e5;have e5:=BKn;clear BKn;have HBn:=zaa.mk (zae (zL HB.out) hb);clear HB;have HB:=HBn;clear HBn hb)|(go_at_call 110;(with_reducible refine (zbl.calls k (wrap64 (d2*v4)) 65535 m _ AD3.out).mono ?_);rintro e w' ⟨rfl,⟨nd,rfl⟩⟩)|((with_reducible refine zaC (N:=11) rfl ?_);refine zbx (N:=11) #[.int .i64 0] 3 ?_;intro g11 hg w11 hbox hb;have o2:=zaa.mk ((zS hg (zL HB.out):w.heap.size≤g11));have HBn:=zaa.mk (zae (zL HB.out) hb);clear HB;have HB:=HBn;clear HBn;have BKn:=zaa.mk (zac (zB b8.out) hb);have NE4_11:=(by rw [hg];exact Nat.ne_of_lt (zb6 (zB b8.out)):g4≠g11);clear b8;have b8:=BKn;clear BKn;have BKn:=zaa.mk (zac (zB b9.out) hb);have NE5_11:=(by rw [hg];exact Nat.ne_of_lt (zb6 (zB b9.out)):g5≠g11);clear b9;have b9:=BKn;clear BKn;have BKn:=zaa.mk (zac (zB d9.out) hb);have NE6_11:=(by rw [hg];exact Nat.ne_of_lt (zb6 (zB d9.out)):g6≠g11);clear d9;have d9:=BKn;clear BKn;have BKn:=zaa.mk (zac (zB d5.out) hb);have NE7_11:=(by rw [hg];exact Nat.ne_of_lt (zb6 (zB d5.out)):g7≠g11);clear d5;have d5:=BKn;clear BKn;have BKn:=zaa.mk (zac (zB e5.out) hb);have NE8_11:=(by rw [hg];exact Nat.ne_of_lt (zb6 (zB e5.out)):g8≠g11);clear e5;have e5:=BKn;clear BKn;have e0:=zaa.mk hbox;clear hbox hb hg;have hc11:=zc e0.out 0;have hf11:=zaB e0.out 0))
 have BKn4:=zaa.mk (zaA (p:=⟨g11,0,none⟩) (zB b8.out) NE4_11 (.int .i64 m))
 have BKn5:=zaa.mk (zaA (p:=⟨g11,0,none⟩) (zB b9.out) NE5_11 (.int .i64 m))
 have BKn6:=zaa.mk (zaA (p:=⟨g11,0,none⟩) (zB d9.out) NE6_11 (.int .i64 m))
 have BKn7:=zaa.mk (zaA (p:=⟨g11,0,none⟩) (zB d5.out) NE7_11 (.int .i64 m))
 have BKn8:=zaa.mk (zaA (p:=⟨g11,0,none⟩) (zB e5.out) NE8_11 (.int .i64 m))
 have BKn11:=zaa.mk (zar (cs:=#[.int .i64 0]) (zB e0.out) 0 (.int .i64 m) rfl)
 have HBn:=zaa.mk (zao (j:=0) (v:=.int .i64 m) (zL HB.out) o2.out)
 clear b8;have b8:=BKn4;clear BKn4
 clear b9;have b9:=BKn5;clear BKn5
 clear d9;have d9:=BKn6;clear BKn6
 clear d5;have d5:=BKn7;clear BKn7
 clear e5;have e5:=BKn8;clear BKn8
 clear e0;have e0:=BKn11;clear BKn11
 clear HB;have HB:=HBn;clear HBn
 clear hc11 hf11
 generalize w11.setCell ⟨g11,0,none⟩ (.int .i64 m)=w30 at b8 b9 d9 d5 e5 e0 HB ⊢
 replace b8:=zaa.mk (zaM b8.out)
 replace b9:=zaa.mk (zaM b9.out)
 replace d9:=zaa.mk (zaM d9.out)
 replace d5:=zaa.mk (zaM d5.out)
 replace e5:=zaa.mk (zaM e5.out)
 replace e0:=zaa.mk (zaM e0.out)
 replace HB:=zaa.mk (zai HB.out)
 refine zbA (n:=18) (S:=fun w'=>w'.cell? ⟨g5,0,none⟩=some (.int .i64 d7)∧w'.cell? ⟨g5,1,none⟩=some (.int .i64 d8)) (ds:=[]) #[false,false,false,false,false,false,false,false,false,false,false,false,false,false,false,false,false,false] (by kernel_rfl) rfl rfl ⟨zc b9.out 0,zc b9.out 1⟩ (fun hHeld=>?_);refine zbn dabOf.tab5 dabOf.bits5 (fun HT_ HW_=>?_)
 refine zpu 0 31 HT_.out ?_
 refine zpu 1 32 HT_.out ?_
 refine zpu 4 35 HT_.out ?_
 refine zpu 5 36 HT_.out ?_
 refine zpu 8 39 HT_.out ?_
 refine zpu 9 40 HT_.out ?_
 refine zpu 11 42 HT_.out ?_
 refine ztk 2 33 HT_.out HW_.out hHeld ?_
 refine ztk 6 37 HT_.out HW_.out hHeld ?_
 refine zon 3 (some 34) HT_.out (fun K hK=>?_)
 refine goesC_ Try.func118 (by kernel_rfl) rfl #[.int .i64 d7,.int .i64 2] #[.pointer (some ⟨g4,0,none⟩),.pointer (some ⟨g7,0,none⟩),.pointer (some ⟨g11,0,none⟩)] #[.int .i64 d7,.int .i64 2,.pointer (some ⟨g4,0,none⟩),.pointer (some ⟨g7,0,none⟩),.pointer (some ⟨g11,0,none⟩)] (by rfl) rfl rfl rfl zA rfl ?_
 with_reducible refine (place_calls g4 g7 g11 e6 e9 f7 g9 i3 i4 j4 i5 j5 j6 i6 i7 i8 e7 j2 d6.length j3 i9 a3 m d7 2 r2 x _ ?b4 ?b7 ?b11 AR2.out AC2.out).mono ?_
 case b4=>exact zB b8.out
 case b7=>exact zB d5.out
 case b11=>exact zB e0.out
 rintro e wv0 ⟨rfl,hb⟩
 refine ⟨_,rfl,?_⟩
 replace b8:=zaa.mk (zac (zB b8.out) hb)
 replace b9:=zaa.mk (zac (zB b9.out) hb)
 replace d9:=zaa.mk (zac (zB d9.out) hb)
 replace d5:=zaa.mk (zac (zB d5.out) hb)
 replace e5:=zaa.mk (zac (zB e5.out) hb)
 replace e0:=zaa.mk (zac (zB e0.out) hb)
 replace HB:=zaa.mk (zae (zL HB.out) hb)
 clear hb
 refine hK.out _ _ ⟨zc b9.out 0,zc b9.out 1⟩ (fun hHeld=>?_)
 clear hK K
 refine znm ?_
 refine zon 7 (some 38) HT_.out (fun K hK=>?_)
 refine goesC_ Try.func118 (by kernel_rfl) rfl #[.int .i64 d8,.int .i64 3] #[.pointer (some ⟨g4,0,none⟩),.pointer (some ⟨g7,0,none⟩),.pointer (some ⟨g11,0,none⟩)] #[.int .i64 d8,.int .i64 3,.pointer (some ⟨g4,0,none⟩),.pointer (some ⟨g7,0,none⟩),.pointer (some ⟨g11,0,none⟩)] (by rfl) rfl rfl rfl zA rfl ?_
 with_reducible refine (place_calls g4 g7 g11 e6 e9 f7 g9 i3 i4 j4 i5 j5 j6 i6 i7 i8 e7 j2 d6.length j3 i9 a3 m d8 3 r3 y _ ?b4 ?b7 ?b11 AR3.out AC3.out).mono ?_
 case b4=>exact zB b8.out
 case b7=>exact zB d5.out
 case b11=>exact zB e0.out
 rintro e wv1 ⟨rfl,hb⟩
 refine ⟨_,rfl,?_⟩
 replace b8:=zaa.mk (zac (zB b8.out) hb)
 replace b9:=zaa.mk (zac (zB b9.out) hb)
 replace d9:=zaa.mk (zac (zB d9.out) hb)
 replace d5:=zaa.mk (zac (zB d5.out) hb)
 replace e5:=zaa.mk (zac (zB e5.out) hb)
 replace e0:=zaa.mk (zac (zB e0.out) hb)
 replace HB:=zaa.mk (zae (zL HB.out) hb)
 clear hb
 refine hK.out _ _ ⟨zc b9.out 0,zc b9.out 1⟩ (fun hHeld=>?_)
 clear hK K
 refine znm ?_
 refine zon 10 (some 41) HT_.out (fun K hK=>?_)
 refine goesC_ Try.func116 (by kernel_rfl) rfl #[.int .i64 2] #[.pointer (some ⟨g4,0,none⟩),.pointer (some ⟨g5,0,none⟩),.pointer (some ⟨g6,0,none⟩),.pointer (some ⟨g7,0,none⟩)] #[.int .i64 2,.pointer (some ⟨g4,0,none⟩),.pointer (some ⟨g5,0,none⟩),.pointer (some ⟨g6,0,none⟩),.pointer (some ⟨g7,0,none⟩)] (by rfl) rfl rfl rfl zA rfl ?_
 with_reducible refine (value_calls k g4 g5 g6 g7 e6 e9 f7 g9 i3 i4 j4 i5 j5 j6 i6 i7 i8 e7 j2 j3 d6 i9 d7 d8 e8 f5 f6 a2 a3 2 v2 _ ?b4 ?b5 ?b6 ?b7 ?hr HC.out AV2.out).mono ?_
 case b4=>exact zB b8.out
 case b5=>exact zB b9.out
 case b6=>exact zB d9.out
 case b7=>exact zB d5.out
 case hr=>exact Kd.C_below HR.out HB.out
 rintro e wv2 ⟨rfl,hb⟩
 refine ⟨_,rfl,?_⟩
 replace b8:=zaa.mk (zac (zB b8.out) hb)
 replace b9:=zaa.mk (zac (zB b9.out) hb)
 replace d9:=zaa.mk (zac (zB d9.out) hb)
 replace d5:=zaa.mk (zac (zB d5.out) hb)
 replace e5:=zaa.mk (zac (zB e5.out) hb)
 replace e0:=zaa.mk (zac (zB e0.out) hb)
 replace HB:=zaa.mk (zae (zL HB.out) hb)
 clear hb
 refine hK.out _ _ ⟨zc b9.out 0,zc b9.out 1⟩ (fun hHeld=>?_)
 clear hK K
 refine znm ?_
 refine zon 12 (some 43) HT_.out (fun K hK=>?_)
 refine goesC_ Try.func116 (by kernel_rfl) rfl #[.int .i64 3] #[.pointer (some ⟨g4,0,none⟩),.pointer (some ⟨g5,0,none⟩),.pointer (some ⟨g6,0,none⟩),.pointer (some ⟨g7,0,none⟩)] #[.int .i64 3,.pointer (some ⟨g4,0,none⟩),.pointer (some ⟨g5,0,none⟩),.pointer (some ⟨g6,0,none⟩),.pointer (some ⟨g7,0,none⟩)] (by rfl) rfl rfl rfl zA rfl ?_
 with_reducible refine (value_calls k g4 g5 g6 g7 e6 e9 f7 g9 i3 i4 j4 i5 j5 j6 i6 i7 i8 e7 j2 j3 d6 i9 d7 d8 e8 f5 f6 a2 a3 3 v3 _ ?b4 ?b5 ?b6 ?b7 ?hr HC.out AV3.out).mono ?_
 case b4=>exact zB b8.out
 case b5=>exact zB b9.out
 case b6=>exact zB d9.out
 case b7=>exact zB d5.out
 case hr=>exact Kd.C_below HR.out HB.out
 rintro e wv3 ⟨rfl,hb⟩
 refine ⟨_,rfl,?_⟩
 replace b8:=zaa.mk (zac (zB b8.out) hb)
 replace b9:=zaa.mk (zac (zB b9.out) hb)
 replace d9:=zaa.mk (zac (zB d9.out) hb)
 replace d5:=zaa.mk (zac (zB d5.out) hb)
 replace e5:=zaa.mk (zac (zB e5.out) hb)
 replace e0:=zaa.mk (zac (zB e0.out) hb)
 replace HB:=zaa.mk (zae (zL HB.out) hb)
 clear hb
 refine hK.out _ _ ⟨zc b9.out 0,zc b9.out 1⟩ (fun hHeld=>?_)
 clear hK K
 refine znm ?_
 refine zpu 13 44 HT_.out ?_
 refine zon 14 (some 45) HT_.out (fun K hK=>?_)
 refine zgo Try.func55 #[.int .i64 (wrap64 (v3*65536)),.int .i64 65535] ?_
 with_reducible refine (zbR.calls (wrap64 (v3*65536)) 65535 q _ AF.out).mono ?_
 rintro e wv4 ⟨rfl,hb⟩
 replace hb:=hb.below
 refine ⟨_,rfl,?_⟩
 replace b8:=zaa.mk (zac (zB b8.out) hb)
 replace b9:=zaa.mk (zac (zB b9.out) hb)
 replace d9:=zaa.mk (zac (zB d9.out) hb)
 replace d5:=zaa.mk (zac (zB d5.out) hb)
 replace e5:=zaa.mk (zac (zB e5.out) hb)
 replace e0:=zaa.mk (zac (zB e0.out) hb)
 replace HB:=zaa.mk (zae (zL HB.out) hb)
 clear hb
 refine hK.out _ _ ⟨zc b9.out 0,zc b9.out 1⟩ (fun hHeld=>?_)
 clear hK K
 refine znm ?_
 refine zpu 15 46 HT_.out ?_
 refine zpu 16 47 HT_.out ?_
 refine zon 17 none HT_.out (fun K hK=>?_)
 have hs0:wv4.cell? ⟨g8,0,none⟩=some (.int .i64 0):=zc e5.out 0
 have hf0:=zaB e5.out 0
 have hs1:wv4.cell? ⟨g8,1,none⟩=some (.int .i64 0):=zc e5.out 1
 have hf1:=zaB e5.out 1
 have hs2:wv4.cell? ⟨g8,2,none⟩=some (.int .i64 0):=zc e5.out 2
 have hf2:=zaB e5.out 2
 have hs3:wv4.cell? ⟨g8,3,none⟩=some (.int .i64 0):=zc e5.out 3
 have hf3:=zaB e5.out 3
 have hs4:wv4.cell? ⟨g8,4,none⟩=some (.int .i64 0):=zc e5.out 4
 have hf4:=zaB e5.out 4
 refine skip_ (w1:=?_) (by rfl) rfl ?_ ?_
 rotate_left
 ·go_simp
  rfl
 refine hK.out _ _ ⟨(zaX (p:=⟨g8,_,none⟩) NE5_8 _).trans ((zaX (p:=⟨g8,_,none⟩) NE5_8 _).trans ((zaX (p:=⟨g8,_,none⟩) NE5_8 _).trans ((zaX (p:=⟨g8,_,none⟩) NE5_8 _).trans ((zaX (p:=⟨g8,_,none⟩) NE5_8 _).trans (hHeld.1))))),(zaX (p:=⟨g8,_,none⟩) NE5_8 _).trans ((zaX (p:=⟨g8,_,none⟩) NE5_8 _).trans ((zaX (p:=⟨g8,_,none⟩) NE5_8 _).trans ((zaX (p:=⟨g8,_,none⟩) NE5_8 _).trans ((zaX (p:=⟨g8,_,none⟩) NE5_8 _).trans (hHeld.2)))))⟩ (fun hHeld=>?_)
 clear hK K
 refine zbT (zbB HT_.out (by kernel_rfl)) ?_
 try go_wp2
 refine bodyPost_ret (results_cell_row rfl _ _ g8 28 #[.int .i64 x,.int .i64 y,.int .i64 r3_,.int .i64 v2,.int .i64 (Int.tmod q 65536)] (0,0) _ rfl (by exact zB (zp5 (zB e5.out) _ _ _ _ _)) Try.underlying28 rfl (by kernel_rfl)) rfl ?_
 exact ⟨by first|rfl|(simp;done),by repeat (first|(with_reducible first|exact HB.out|apply zan|apply zaj|apply zai|refine zao ?_ s7.out)|exact HB.out)⟩
def zbP.f (k:Nat) (e6:Int) (e9:Int) (f7:Int) (g9:Int) (i3:Int) (i4:Int) (j4:Int) (i5:Int) (j5:Int) (j6:Int) (i6:Int) (i7:Int) (i8:Int) (e7:Int) (d6:List (S120)) (i9:Bool) (d7:Int) (d8:Int) (e8:Int) (f5:Int) (f6:Int):Option (Int):=(zbl.f k (wrap64 (e8*i4)) 100).bind fun j7=>(some (wrap64 (16*(mx 1 j7))))
set_option maxHeartbeats 8000000 in
set_option maxRecDepth 100000 in
theorem zbP.calls (k:Nat) (e6:Int) (e9:Int) (f7:Int) (g9:Int) (i3:Int) (i4:Int) (j4:Int) (i5:Int) (j5:Int) (j6:Int) (i6:Int) (i7:Int) (i8:Int) (e7:Int) (j2:Option Addr) (j3:Nat) (d6:List (S120)) (i9:Bool) (d7:Int) (d8:Int) (e8:Int) (f5:Int) (f6:Int) (r:Int) (w:World) (k3:Kd.C k120 w j2 d6.length d6) (k4:d6.length≤j3) (h:zbP.f k e6 e9 f7 g9 i3 i4 j4 i5 j5 j6 i6 i7 i8 e7 d6 i9 d7 d8 e8 f5 f6=some r) :
 Calls Try.prog 72 #[.agg #[.int .i64 e6,.int .i64 e9,.int .i64 f7,.int .i64 g9,.int .i64 i3,.int .i64 i4,.int .i64 j4,.int .i64 i5,.int .i64 j5,.int .i64 j6,.int .i64 i6,.int .i64 i7,.int .i64 i8,.int .i64 e7,.slice j2 d6.length j3,.bool i9],.agg #[.int .i64 d7,.int .i64 d8,.int .i64 e8,.int .i64 f5,.int .i64 f6]] w fun e w'=>e = .returned (.int .i64 r)∧Below w.heap.size w w':=by
 have hu26:=Try.underlying26
 have hu28:=Try.underlying28
 have s8:=zaa.mk k3
 have s9:=zaa.mk k4
 clear k3 k4
 have HB:=zaa.mk (Below.refl w.heap.size w)
 have H:((zbl.f k (wrap64 (e8*i4)) 100).bind fun j7=>(some (wrap64 (16*(mx 1 j7)))))=some r:=h
 clear h
 obtain ⟨j7,A3,H⟩:=zob H
 replace H:(some (wrap64 (16*(mx 1 j7))))=some r:=H
 obtain ⟨l4,hji4⟩ : ∃ j_:Int,(mx 1 j7)=j_:=⟨_,rfl⟩
 replace H:(some (wrap64 (16*(l4))))=some r:=by first|(rw [hji4] at H;exact H)|(simp only [hji4] at H ⊢;exact H)
 (try rw [hji4] at A3)
 (try (have hji4l:1≤l4:=by (rw [← hji4];unfold mx;(repeat' split) <;> omega)))
 (try (have hji4m:0≤l4:=by omega))
 have hji4_:(if 1<j7 then j7 else 1)=l4:=hji4
 obtain rfl:=Option.some.inj H
 go_enter Try.func72,Try.ntmps72
 go_wp2_with (first|((with_reducible refine zaC (N:=2) rfl ?_);refine zbx (N:=2) #[.int .i64 e6,.int .i64 e9,.int .i64 f7,.int .i64 g9,.int .i64 i3,.int .i64 i4,.int .i64 j4,.int .i64 i5,.int .i64 j5,.int .i64 j6,.int .i64 i6,.int .i64 i7,.int .i64 i8,.int .i64 e7,.slice j2 d6.length j3,.bool i9] 26 ?_;intro n5 hg w5 hbox hb;have n0_:=zaa.mk (zae (zL HB.out) hb);have n1_:=zaa.mk (hbox);have n2_:=zaa.mk ((zS hg (zL HB.out):w.heap.size≤n5));have n3_:=n2_;clear HB;have HB:=n0_;have j8:=n1_;have C3:=n2_;have k6:=n3_;clear n0_ n1_ n2_ n3_;clear hb hbox hg)|((with_reducible refine zaC (N:=3) rfl ?_);refine zbx (N:=3) #[.int .i64 d7,.int .i64 d8,.int .i64 e8,.int .i64 f5,.int .i64 f6] 28 ?_;intro n6 hg w6 hbox hb;have n0_:=zaa.mk (zac (zB j8.out) hb);have n1_:=zaa.mk (zae (zL1 HB.out k6.out) hb);have n2_:=zaa.mk (hbox);have n3_:=zaa.mk ((zS hg (zL1 HB.out k6.out):w.heap.size≤n6));have n4_:=n3_;have n5_:=zaa.mk (zne hg (zB j8.out));have n6_:=zaa.mk (zen hg (zB j8.out));clear j8;clear HB;have j8:=n0_;have HB:=n1_;have l5:=n2_;have C4:=n3_;have n7:=n4_;have k7:=n5_;have k8:=n6_;clear n0_ n1_ n2_ n3_ n4_ n5_ n6_;clear hb hbox hg;have hnb7:=k8.out;have hnc7:=k7.out;obtain ⟨l8,l9,m5,m6,m7⟩:=zD5 l5.out;obtain ⟨m8,m9,n0,n3,n4⟩:=zE5 l5.out;obtain ⟨t6,t7,t8,t9,u3,u4,u5,u6,u7,u9,o3,o4,o5,o6,o7,o8⟩:=zD16 j8.out;obtain ⟨y5,y6,y7,y8,y9,z1,z2,z3,z4,z5,o9,p7,p8,p9,s5,s6⟩:=zE16 j8.out)|((with_reducible refine zah (f:=110) rfl ?_);refine zgl 10 Try.func110 #[.int .i64 (wrap64 (e8*i4)),.int .i64 100] ?_;(with_reducible refine (zbl.calls k (wrap64 (e8*i4)) 100 j7 _ A3.out).mono ?_);rintro e w' ⟨rfl,⟨nd,rfl⟩⟩;refine ⟨_,rfl,?_⟩))
 go_ret
 exact ⟨by first|rfl|(simp [zaK,zaL] <;> rfl)|(simp only [← hji4];first|rfl|(simp [zaK,zaL] <;> rfl))|(simp [*,zaK,zaL] <;> rfl),by repeat (first|(with_reducible first|exact HB.out|apply zan|apply zaj|apply zai|refine zao ?_ k6.out|refine zao ?_ n7.out)|exact HB.out)⟩
def zcu.f (k:Nat) (e6:Int) (e9:Int) (f7:Int) (g9:Int) (i3:Int) (d7:Int) (d8:Int) (e8:Int) (f5:Int) (f6:Int):Option (Int):=(zce.f k (wrap64 (16*(wrap64 (d7 - e6)))) (wrap64 (16*(wrap64 (d8 - e9))))).bind fun k5=>(some k5)
set_option maxHeartbeats 8000000 in
set_option maxRecDepth 100000 in
theorem zcu.calls (k:Nat) (e6:Int) (e9:Int) (f7:Int) (g9:Int) (i3:Int) (d7:Int) (d8:Int) (e8:Int) (f5:Int) (f6:Int) (r:Int) (w:World) (h:zcu.f k e6 e9 f7 g9 i3 d7 d8 e8 f5 f6=some r) :
 Calls Try.prog 73 #[.agg #[.int .i64 e6,.int .i64 e9,.int .i64 f7,.int .i64 g9,.int .i64 i3],.agg #[.int .i64 d7,.int .i64 d8,.int .i64 e8,.int .i64 f5,.int .i64 f6]] w fun e w'=>e = .returned (.int .i64 r)∧Below w.heap.size w w':=by
 have hu57:=Try.underlying57
 have HB:=zaa.mk (Below.refl w.heap.size w)
 have H:((zce.f k (wrap64 (16*(wrap64 (d7 - e6)))) (wrap64 (16*(wrap64 (d8 - e9))))).bind fun k5=>(some k5))=some r:=h
 clear h
 obtain ⟨k5,A3,H⟩:=zob H
 replace H:(some k5)=some r:=H
 obtain rfl:=Option.some.inj H
 go_enter Try.func73,Try.ntmps73
 go_wp2_with (first|((with_reducible refine zaC (N:=2) rfl ?_);refine zbx (N:=2) #[.int .i64 e6,.int .i64 e9,.int .i64 f7,.int .i64 g9,.int .i64 i3] 57 ?_;intro n8 hg w4 hbox hb;have n0_:=zaa.mk (zae (zL HB.out) hb);have n1_:=zaa.mk (hbox);have n2_:=zaa.mk ((zS hg (zL HB.out):w.heap.size≤n8));have n3_:=n2_;clear HB;have HB:=n0_;have j9:=n1_;have C5:=n2_;have l6:=n3_;clear n0_ n1_ n2_ n3_;clear hb hbox hg)|((with_reducible refine zaC (N:=3) rfl ?_);refine zbx (N:=3) #[.int .i64 d7,.int .i64 d8,.int .i64 e8,.int .i64 f5,.int .i64 f6] 57 ?_;intro n9 hg w5 hbox hb;have n0_:=zaa.mk (zac (zB j9.out) hb);have n1_:=zaa.mk (zae (zL1 HB.out l6.out) hb);have n2_:=zaa.mk (hbox);have n3_:=zaa.mk ((zS hg (zL1 HB.out l6.out):w.heap.size≤n9));have n4_:=n3_;have n5_:=zaa.mk (zne hg (zB j9.out));have n6_:=zaa.mk (zen hg (zB j9.out));clear j9;clear HB;have j9:=n0_;have HB:=n1_;have l7:=n2_;have C6:=n3_;have C7:=n4_;have k9:=n5_;have l3:=n6_;clear n0_ n1_ n2_ n3_ n4_ n5_ n6_;clear hb hbox hg;have hnb6:=l3.out;have hnc6:=k9.out;obtain ⟨z6,z7,z8,z9,B0⟩:=zD5 l7.out;obtain ⟨B3,B7,C0,C1,C2⟩:=zE5 l7.out;obtain ⟨l8,l9,m5,m6,m7⟩:=zD5 j9.out;obtain ⟨m8,m9,n0,n3,n4⟩:=zE5 j9.out)|((with_reducible refine zah (f:=111) rfl ?_);refine zgl 17 Try.func111 #[.int .i64 (wrap64 (16*(wrap64 (d7 - e6)))),.int .i64 (wrap64 (16*(wrap64 (d8 - e9))))] ?_;(with_reducible refine (zce.calls k (wrap64 (16*(wrap64 (d7 - e6)))) (wrap64 (16*(wrap64 (d8 - e9)))) k5 _ A3.out).mono ?_);rintro e w' ⟨rfl,⟨nd,rfl⟩⟩;refine ⟨_,rfl,?_⟩))
 go_ret
 exact zG
end Go.Proofs.Ytlilncnoohfcdaa.Br
