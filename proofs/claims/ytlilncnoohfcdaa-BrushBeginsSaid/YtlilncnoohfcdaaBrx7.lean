
import Derived.Test.YtlilncnoohfcdaaDax8
import Derived.Test.YtlilncnoohfcdaaBrx0
namespace Go.Proofs.Ytlilncnoohfcdaa.Br
open Go.RowKit Go.Proofs.YtlilncnoohfcdaaW.PrintWords Go.Proofs.YtlilncnoohfcdaaW.PrintLast Go.Proofs.YtlilncnoohfcdaaW.PrintMore Go.Proofs.Ytlilncnoohfcdaa.Da
attribute [local go_sem] zbr zbu zbD zbH zbq zbp zbv zbt   
set_option linter.unusedVariables false
set_option linter.unusedSimpArgs false
/-! ### brush_sampleAt: function 75 -/
def zbC.f (k:Nat) (d8:Int) (d9:Int) (e0:Int) (e5:Int) (e6:Int) (e7:Int) (e8:Int) (e9:Int) (f5:Int) (f6:Int) (a2:Int) (a3:Int):Option (Int×Int×Int×Int×Int):=(zbl.f k (wrap64 ((wrap64 (e7 - d8))*a2)) a3).bind fun t0=>((zbl.f k (wrap64 ((wrap64 (e8 - d9))*a2)) a3).bind fun t1=>((zbl.f k (wrap64 ((wrap64 (e9 - e0))*a2)) a3).bind fun t2=>((zbl.f k (wrap64 ((wrap64 (f5 - e5))*a2)) a3).bind fun t3=>((zbl.f k (wrap64 ((wrap64 (f6 - e6))*a2)) a3).bind fun t4=>(some (wrap64 (d8+t0),wrap64 (d9+t1),wrap64 (e0+t2),wrap64 (e5+t3),wrap64 (e6+t4)))))))
theorem goesC_ {P:Program} {ops:Array Oper} {Q:Exit→Act→World→Prop} {oi:Oper} {N:Option Tmp} {a:Act} {w:World} {K:Act→World→Prop} {f:FuncId} {fn:Func} {x:Operand} {xs_:Array Operand} {ts:Array TypeId} (hf:P.funcs[f]? = some fn) (hname:(fn.name == "runtime.NumGoroutine")=false) (hb:fn.body.isSome=true) (args caps all:Array Value)
 (hw:Region.wanted oi (yielded ops a.tmps)=true) (hN:oi.dst=N) (hop:oi.op = .call { callee:=.value x,args:=xs_,argTypes:=ts }) (hx:a.eval x = .func (.func f) #[] caps) (hargs:xs_.map a.eval=args) (hall:args ++ caps=all)
 (h:Calls P f all w fun e w'=>∃ v,e = .returned v∧K (a.put N v) w'):if Region.wanted oi (yielded ops a.tmps)=true then Oper.wp P oi a w K Q else K (a.put N undef) w:=by
 refine call_ f all hw hN ?_ h
 have he:=enters_ hf hname hb all w
 unfold execOp
 simp [hop,resolve,Deferred.ofValue,invoke,hx,hargs,hall,he]
def zbC.T2:Bool×List (List Nat×List Nat):=(true,[([],[]),([],[]),([1],[1]),([],[]),([3],[3]),([0,2,4],[0,2,4]),([],[]),([],[]),([7],[7]),([],[]),([9],[9]),([6,8,10,5],[6,8,10]),([],[]),([],[]),([13],[13]),([],[]),([15],[15]),([12,14,16,11],[12,14,16]),([],[]),([],[]),([19],[19]),([],[]),([21],[21]),([18,20,22,17],[18,20,22]),([],[]),([],[]),([25],[25]),([],[]),([27],[27]),([24,26,28,23],[24,26,28]),([5,11,17,23,29],[5,11,17,23,29]),([30,29,0,1,2,3,4,5,6,7,8,9,10,11,12,13,14,15,16,17,18,19,20,21,22,23,24,25,26,27,28,29,30],[30])])
def zbC.B2:List Nat:=[0,0,2,0,8,31,0,0,128,0,512,2047,0,0,8192,0,32768,131071,0,0,524288,0,2097152,8388607,0,0,33554432,0,134217728,536870911,1073741823,2147483647]
theorem zbC.tab2:rtab .any (opsOf Try.f75 2)=zbC.T2:=by kernel_rfl
theorem zbC.bits2:zbE zbC.T2.2 zbC.B2=true:=by kernel_rfl
theorem zcs (k:Nat) (a b d n t:Int) (g6 g7:Nat) (w:World) (h6:w.heap[g6]? = some (.cells #[.int .i64 d] 3 (0,0))) (h7:w.heap[g7]? = some (.cells #[.int .i64 n] 3 (0,0)))
 (h:zbl.f k (wrap64 ((wrap64 (b - a))*d)) n=some t) :
 Calls Try.prog 121 #[.int .i64 a,.int .i64 b,.pointer (some ⟨g6,0,none⟩),.pointer (some ⟨g7,0,none⟩)] w fun e w'=>e = .returned (.int .i64 (wrap64 (a+t)))∧zaS w w':=by
 have c6:=zc h6 0
 have c7:=zc h7 0
 clear h6 h7
 have A:=zaa.mk h
 clear h
 go_enter Try.func121,Try.ntmps121
 go_wp2_with (first|(go_at_call 110;(with_reducible refine (zbl.calls k (wrap64 ((wrap64 (b - a))*d)) n t _ A.out).mono ?_);rintro e w' ⟨rfl,⟨nd,rfl⟩⟩))
 go_ret
 exact ⟨rfl,⟨_,rfl⟩⟩
set_option maxHeartbeats 2000000 in
set_option maxRecDepth 100000 in
theorem zbC.calls (k:Nat) (d8 d9 e0 e5 e6 e7 e8 e9 f5 f6 a2 a3 r1 r2 r3 r4 r5:Int) (w:World) (h:zbC.f k d8 d9 e0 e5 e6 e7 e8 e9 f5 f6 a2 a3=some (r1,r2,r3,r4,r5)) :
 Calls Try.prog 75 #[.agg #[.int .i64 d8,.int .i64 d9,.int .i64 e0,.int .i64 e5,.int .i64 e6],.agg #[.int .i64 e7,.int .i64 e8,.int .i64 e9,.int .i64 f5,.int .i64 f6],.int .i64 a2,.int .i64 a3] w fun e w'=>e = .returned (.agg #[.int .i64 r1,.int .i64 r2,.int .i64 r3,.int .i64 r4,.int .i64 r5])∧Below w.heap.size w w':=by
 have hu57:=Try.underlying57
 have HB:=zaa.mk (Below.refl w.heap.size w)
 unfold zbC.f at h
 obtain ⟨t0,A0,h⟩:=Option.bind_eq_some_iff.mp h
 obtain ⟨t1,A1,h⟩:=Option.bind_eq_some_iff.mp h
 obtain ⟨t2,A2,h⟩:=Option.bind_eq_some_iff.mp h
 obtain ⟨t3,A3,h⟩:=Option.bind_eq_some_iff.mp h
 obtain ⟨t4,A4,h⟩:=Option.bind_eq_some_iff.mp h
 simp only [Option.some.injEq,Prod.mk.injEq] at h
 obtain ⟨rfl,rfl,rfl,rfl,rfl⟩:=h
 replace A0:=zaa.mk A0
 replace A1:=zaa.mk A1
 replace A2:=zaa.mk A2
 replace A3:=zaa.mk A3
 replace A4:=zaa.mk A4
 go_enter Try.func75,Try.ntmps75
 go_wp2_with (first|((with_reducible refine zaC (N:=4) rfl ?_);refine zbx (N:=4) #[.int .i64 d8,.int .i64 d9,.int .i64 e0,.int .i64 e5,.int .i64 e6] 57 ?_;intro g4 hg w4 hbox hb;have j9:=zaa.mk ((zS hg (zL HB.out):w.heap.size≤g4));have HBn:=zaa.mk (zae (zL HB.out) hb);clear HB;have HB:=HBn;clear HBn;have b8:=zaa.mk hbox;clear hbox hb hg)|((with_reducible refine zaC (N:=5) rfl ?_);refine zbx (N:=5) #[.int .i64 e7,.int .i64 e8,.int .i64 e9,.int .i64 f5,.int .i64 f6] 57 ?_;intro g5 hg w5 hbox hb;have k3:=zaa.mk ((zS hg (zL HB.out):w.heap.size≤g5));have HBn:=zaa.mk (zae (zL HB.out) hb);clear HB;have HB:=HBn;clear HBn;have BKn:=zaa.mk (zac (zB b8.out) hb);have NE4_5:=(by rw [hg];exact Nat.ne_of_lt (zb6 (zB b8.out)):g4≠g5);clear b8;have b8:=BKn;clear BKn;have b9:=zaa.mk hbox;clear hbox hb hg)|((with_reducible refine zaC (N:=6) rfl ?_);refine zbx (N:=6) #[.int .i64 a2] 3 ?_;intro g6 hg w6 hbox hb;have k4:=zaa.mk ((zS hg (zL HB.out):w.heap.size≤g6));have HBn:=zaa.mk (zae (zL HB.out) hb);clear HB;have HB:=HBn;clear HBn;have BKn:=zaa.mk (zac (zB b8.out) hb);have NE4_6:=(by rw [hg];exact Nat.ne_of_lt (zb6 (zB b8.out)):g4≠g6);clear b8;have b8:=BKn;clear BKn;have BKn:=zaa.mk (zac (zB b9.out) hb);have NE5_6:=(by rw [hg];exact Nat.ne_of_lt (zb6 (zB b9.out)):g5≠g6);clear b9;have b9:=BKn;clear BKn;have d5:=zaa.mk hbox;clear hbox hb hg)|((with_reducible refine zaC (N:=7) rfl ?_);refine zbx (N:=7) #[.int .i64 a3] 3 ?_;intro g7 hg w7 hbox hb;have k5:=zaa.mk ((zS hg (zL HB.out):w.heap.size≤g7));have HBn:=zaa.mk (zae (zL HB.out) hb);clear HB;have HB:=HBn;clear HBn;have BKn:=zaa.mk (zac (zB b8.out) hb);have NE4_7:=(by rw [hg];exact Nat.ne_of_lt (zb6 (zB b8.out)):g4≠g7);clear b8;have b8:=BKn;clear BKn;have BKn:=zaa.mk (zac (zB b9.out) hb);have NE5_7:=(by rw [hg];exact Nat.ne_of_lt (zb6 (zB b9.out)):g5≠g7);clear b9;have b9:=BKn;clear BKn;have BKn:=zaa.mk (zac (zB d5.out) hb);have NE6_7:=(by rw [hg];exact Nat.ne_of_lt (zb6 (zB d5.out)):g6≠g7);clear d5;have d5:=BKn;clear BKn;have d6:=zaa.mk hbox;clear hbox hb hg)|((with_reducible refine zaC (N:=8) rfl ?_);refine zbx (N:=8) #[.int .i64 0,.int .i64 0,.int .i64 0,.int .i64 0,.int .i64 0] 57 ?_;intro g8 hg w8 hbox hb;have f7:=zaa.mk ((zS hg (zL HB.out):w.heap.size≤g8));have HBn:=zaa.mk (zae (zL HB.out) hb);clear HB;have HB:=HBn;clear HBn;have BKn:=zaa.mk (zac (zB b8.out) hb);have NE4_8:=(by rw [hg];exact Nat.ne_of_lt (zb6 (zB b8.out)):g4≠g8);clear b8;have b8:=BKn;clear BKn;have BKn:=zaa.mk (zac (zB b9.out) hb);have NE5_8:=(by rw [hg];exact Nat.ne_of_lt (zb6 (zB b9.out)):g5≠g8);clear b9;have b9:=BKn;clear BKn;have BKn:=zaa.mk (zac (zB d5.out) hb);have NE6_8:=(by rw [hg];exact Nat.ne_of_lt (zb6 (zB d5.out)):g6≠g8);clear d5;have d5:=BKn;clear BKn;have BKn:=zaa.mk (zac (zB d6.out) hb);have NE7_8:=(by rw [hg];exact Nat.ne_of_lt (zb6 (zB d6.out)):g7≠g8);clear d6;have d6:=BKn;clear BKn;have d7:=zaa.mk hbox;clear hbox hb hg;obtain ⟨g9,i3,i4,i5,i6⟩:=zD5 b8.out;obtain ⟨i7,i8,i9,j2,j3⟩:=zD5 b9.out;obtain ⟨j4,j5,j6,j7,j8⟩:=zD5 d7.out;obtain ⟨hf8_0,hf8_1,hf8_2,hf8_3,hf8_4⟩:=zE5 d7.out)|(go_at_call 121;(with_reducible refine (zcs k d8 e7 a2 a3 t0 g6 g7 _ ?h6 ?h7 A0.out).mono ?_);(case h6=>exact zB d5.out);(case h7=>exact zB d6.out);rintro e w' ⟨rfl,⟨nd,rfl⟩⟩)|(go_at_call 121;(with_reducible refine (zcs k d9 e8 a2 a3 t1 g6 g7 _ ?h6 ?h7 A1.out).mono ?_);(case h6=>exact zB d5.out);(case h7=>exact zB d6.out);rintro e w' ⟨rfl,⟨nd,rfl⟩⟩)|(go_at_call 121;(with_reducible refine (zcs k e0 e9 a2 a3 t2 g6 g7 _ ?h6 ?h7 A2.out).mono ?_);(case h6=>exact zB d5.out);(case h7=>exact zB d6.out);rintro e w' ⟨rfl,⟨nd,rfl⟩⟩)|(go_at_call 121;(with_reducible refine (zcs k e5 f5 a2 a3 t3 g6 g7 _ ?h6 ?h7 A3.out).mono ?_);(case h6=>exact zB d5.out);(case h7=>exact zB d6.out);rintro e w' ⟨rfl,⟨nd,rfl⟩⟩)|(go_at_call 121;(with_reducible refine (zcs k e6 f6 a2 a3 t4 g6 g7 _ ?h6 ?h7 A4.out).mono ?_);(case h6=>exact zB d5.out);(case h7=>exact zB d6.out);rintro e w' ⟨rfl,⟨nd,rfl⟩⟩))
 replace b8:=zaa.mk (zaM b8.out)
 replace b9:=zaa.mk (zaM b9.out)
 replace d5:=zaa.mk (zaM d5.out)
 replace d6:=zaa.mk (zaM d6.out)
 replace d7:=zaa.mk (zaM d7.out)
 replace HB:=zaa.mk (zai HB.out)
 refine zbA (n:=32) (S:=fun w'=>w'.cell? ⟨g4,0,none⟩=some (.int .i64 d8)∧w'.cell? ⟨g4,1,none⟩=some (.int .i64 d9)∧w'.cell? ⟨g4,2,none⟩=some (.int .i64 e0)∧w'.cell? ⟨g4,3,none⟩=some (.int .i64 e5)∧w'.cell? ⟨g4,4,none⟩=some (.int .i64 e6)∧w'.cell? ⟨g5,0,none⟩=some (.int .i64 e7)∧w'.cell? ⟨g5,1,none⟩=some (.int .i64 e8)∧w'.cell? ⟨g5,2,none⟩=some (.int .i64 e9)∧w'.cell? ⟨g5,3,none⟩=some (.int .i64 f5)∧w'.cell? ⟨g5,4,none⟩=some (.int .i64 f6)) (ds:=[]) #[false,false,false,false,false,false,false,false,false,false,false,false,false,false,false,false,false,false,false,false,false,false,false,false,false,false,false,false,false,false,false,false] (by kernel_rfl) rfl rfl ⟨zc b8.out 0,zc b8.out 1,zc b8.out 2,zc b8.out 3,zc b8.out 4,zc b9.out 0,zc b9.out 1,zc b9.out 2,zc b9.out 3,zc b9.out 4⟩ (fun hHeld=>?_);refine zbn zbC.tab2 zbC.bits2 (fun HT_ HW_=>?_)
 generalize w8.drew=w9 at b8 b9 d5 d6 d7 HB hHeld ⊢
 refine zpu 0 11 HT_.out ?_
 refine zpu 1 12 HT_.out ?_
 refine zpu 3 14 HT_.out ?_
 refine zpu 6 17 HT_.out ?_
 refine zpu 7 18 HT_.out ?_
 refine zpu 9 20 HT_.out ?_
 refine zpu 12 23 HT_.out ?_
 refine zpu 13 24 HT_.out ?_
 refine zpu 15 26 HT_.out ?_
 refine zpu 18 29 HT_.out ?_
 refine zpu 19 30 HT_.out ?_
 refine zpu 21 32 HT_.out ?_
 refine zpu 24 35 HT_.out ?_
 refine zpu 25 36 HT_.out ?_
 refine zpu 27 38 HT_.out ?_
 refine ztk 2 13 HT_.out HW_.out hHeld ?_
 refine ztk 4 15 HT_.out HW_.out hHeld ?_
 refine ztk 8 19 HT_.out HW_.out hHeld ?_
 refine ztk 10 21 HT_.out HW_.out hHeld ?_
 refine ztk 14 25 HT_.out HW_.out hHeld ?_
 refine ztk 16 27 HT_.out HW_.out hHeld ?_
 refine ztk 20 31 HT_.out HW_.out hHeld ?_
 refine ztk 22 33 HT_.out HW_.out hHeld ?_
 refine ztk 26 37 HT_.out HW_.out hHeld ?_
 refine ztk 28 39 HT_.out HW_.out hHeld ?_
 refine zon 5 (some 16) HT_.out (fun K hK=>?_)
 refine goesC_ Try.func121 (by kernel_rfl) rfl #[.int .i64 d8,.int .i64 e7] #[.pointer (some ⟨g6,0,none⟩),.pointer (some ⟨g7,0,none⟩)] #[.int .i64 d8,.int .i64 e7,.pointer (some ⟨g6,0,none⟩),.pointer (some ⟨g7,0,none⟩)] (by rfl) rfl rfl rfl zA rfl ?_
 with_reducible refine (zcs k d8 e7 a2 a3 t0 g6 g7 _ ?h6 ?h7 A0.out).mono ?_
 case h6=>exact d5.out
 case h7=>exact d6.out
 rintro e v0 ⟨rfl,hd⟩
 have hb:=hd.below
 clear hd
 refine ⟨_,rfl,?_⟩
 replace b8:=zaa.mk (zac (zB b8.out) hb)
 replace b9:=zaa.mk (zac (zB b9.out) hb)
 replace d5:=zaa.mk (zac (zB d5.out) hb)
 replace d6:=zaa.mk (zac (zB d6.out) hb)
 replace d7:=zaa.mk (zac (zB d7.out) hb)
 replace HB:=zaa.mk (zae (zL HB.out) hb)
 clear hb
 refine hK.out _ _ ⟨zc b8.out 0,zc b8.out 1,zc b8.out 2,zc b8.out 3,zc b8.out 4,zc b9.out 0,zc b9.out 1,zc b9.out 2,zc b9.out 3,zc b9.out 4⟩ (fun hHeld=>?_)
 clear hK K
 refine znm ?_
 refine zon 11 (some 22) HT_.out (fun K hK=>?_)
 refine goesC_ Try.func121 (by kernel_rfl) rfl #[.int .i64 d9,.int .i64 e8] #[.pointer (some ⟨g6,0,none⟩),.pointer (some ⟨g7,0,none⟩)] #[.int .i64 d9,.int .i64 e8,.pointer (some ⟨g6,0,none⟩),.pointer (some ⟨g7,0,none⟩)] (by rfl) rfl rfl rfl zA rfl ?_
 with_reducible refine (zcs k d9 e8 a2 a3 t1 g6 g7 _ ?h6 ?h7 A1.out).mono ?_
 case h6=>exact d5.out
 case h7=>exact d6.out
 rintro e v1 ⟨rfl,hd⟩
 have hb:=hd.below
 clear hd
 refine ⟨_,rfl,?_⟩
 replace b8:=zaa.mk (zac (zB b8.out) hb)
 replace b9:=zaa.mk (zac (zB b9.out) hb)
 replace d5:=zaa.mk (zac (zB d5.out) hb)
 replace d6:=zaa.mk (zac (zB d6.out) hb)
 replace d7:=zaa.mk (zac (zB d7.out) hb)
 replace HB:=zaa.mk (zae (zL HB.out) hb)
 clear hb
 refine hK.out _ _ ⟨zc b8.out 0,zc b8.out 1,zc b8.out 2,zc b8.out 3,zc b8.out 4,zc b9.out 0,zc b9.out 1,zc b9.out 2,zc b9.out 3,zc b9.out 4⟩ (fun hHeld=>?_)
 clear hK K
 refine znm ?_
 refine zon 17 (some 28) HT_.out (fun K hK=>?_)
 refine goesC_ Try.func121 (by kernel_rfl) rfl #[.int .i64 e0,.int .i64 e9] #[.pointer (some ⟨g6,0,none⟩),.pointer (some ⟨g7,0,none⟩)] #[.int .i64 e0,.int .i64 e9,.pointer (some ⟨g6,0,none⟩),.pointer (some ⟨g7,0,none⟩)] (by rfl) rfl rfl rfl zA rfl ?_
 with_reducible refine (zcs k e0 e9 a2 a3 t2 g6 g7 _ ?h6 ?h7 A2.out).mono ?_
 case h6=>exact d5.out
 case h7=>exact d6.out
 rintro e v2 ⟨rfl,hd⟩
 have hb:=hd.below
 clear hd
 refine ⟨_,rfl,?_⟩
 replace b8:=zaa.mk (zac (zB b8.out) hb)
 replace b9:=zaa.mk (zac (zB b9.out) hb)
 replace d5:=zaa.mk (zac (zB d5.out) hb)
 replace d6:=zaa.mk (zac (zB d6.out) hb)
 replace d7:=zaa.mk (zac (zB d7.out) hb)
 replace HB:=zaa.mk (zae (zL HB.out) hb)
 clear hb
 refine hK.out _ _ ⟨zc b8.out 0,zc b8.out 1,zc b8.out 2,zc b8.out 3,zc b8.out 4,zc b9.out 0,zc b9.out 1,zc b9.out 2,zc b9.out 3,zc b9.out 4⟩ (fun hHeld=>?_)
 clear hK K
 refine znm ?_
 refine zon 23 (some 34) HT_.out (fun K hK=>?_)
 refine goesC_ Try.func121 (by kernel_rfl) rfl #[.int .i64 e5,.int .i64 f5] #[.pointer (some ⟨g6,0,none⟩),.pointer (some ⟨g7,0,none⟩)] #[.int .i64 e5,.int .i64 f5,.pointer (some ⟨g6,0,none⟩),.pointer (some ⟨g7,0,none⟩)] (by rfl) rfl rfl rfl zA rfl ?_
 with_reducible refine (zcs k e5 f5 a2 a3 t3 g6 g7 _ ?h6 ?h7 A3.out).mono ?_
 case h6=>exact d5.out
 case h7=>exact d6.out
 rintro e v3 ⟨rfl,hd⟩
 have hb:=hd.below
 clear hd
 refine ⟨_,rfl,?_⟩
 replace b8:=zaa.mk (zac (zB b8.out) hb)
 replace b9:=zaa.mk (zac (zB b9.out) hb)
 replace d5:=zaa.mk (zac (zB d5.out) hb)
 replace d6:=zaa.mk (zac (zB d6.out) hb)
 replace d7:=zaa.mk (zac (zB d7.out) hb)
 replace HB:=zaa.mk (zae (zL HB.out) hb)
 clear hb
 refine hK.out _ _ ⟨zc b8.out 0,zc b8.out 1,zc b8.out 2,zc b8.out 3,zc b8.out 4,zc b9.out 0,zc b9.out 1,zc b9.out 2,zc b9.out 3,zc b9.out 4⟩ (fun hHeld=>?_)
 clear hK K
 refine znm ?_
 refine zon 29 (some 40) HT_.out (fun K hK=>?_)
 refine goesC_ Try.func121 (by kernel_rfl) rfl #[.int .i64 e6,.int .i64 f6] #[.pointer (some ⟨g6,0,none⟩),.pointer (some ⟨g7,0,none⟩)] #[.int .i64 e6,.int .i64 f6,.pointer (some ⟨g6,0,none⟩),.pointer (some ⟨g7,0,none⟩)] (by rfl) rfl rfl rfl zA rfl ?_
 with_reducible refine (zcs k e6 f6 a2 a3 t4 g6 g7 _ ?h6 ?h7 A4.out).mono ?_
 case h6=>exact d5.out
 case h7=>exact d6.out
 rintro e v4 ⟨rfl,hd⟩
 have hb:=hd.below
 clear hd
 refine ⟨_,rfl,?_⟩
 replace b8:=zaa.mk (zac (zB b8.out) hb)
 replace b9:=zaa.mk (zac (zB b9.out) hb)
 replace d5:=zaa.mk (zac (zB d5.out) hb)
 replace d6:=zaa.mk (zac (zB d6.out) hb)
 replace d7:=zaa.mk (zac (zB d7.out) hb)
 replace HB:=zaa.mk (zae (zL HB.out) hb)
 clear hb
 refine hK.out _ _ ⟨zc b8.out 0,zc b8.out 1,zc b8.out 2,zc b8.out 3,zc b8.out 4,zc b9.out 0,zc b9.out 1,zc b9.out 2,zc b9.out 3,zc b9.out 4⟩ (fun hHeld=>?_)
 clear hK K
 refine znm ?_
 refine zpu 30 41 HT_.out ?_
 refine zon 31 none HT_.out (fun K hK=>?_)
 have hs0:v4.cell? ⟨g8,0,none⟩=some (.int .i64 0):=zc d7.out 0
 have hf0:=zaB d7.out 0
 have hs1:v4.cell? ⟨g8,1,none⟩=some (.int .i64 0):=zc d7.out 1
 have hf1:=zaB d7.out 1
 have hs2:v4.cell? ⟨g8,2,none⟩=some (.int .i64 0):=zc d7.out 2
 have hf2:=zaB d7.out 2
 have hs3:v4.cell? ⟨g8,3,none⟩=some (.int .i64 0):=zc d7.out 3
 have hf3:=zaB d7.out 3
 have hs4:v4.cell? ⟨g8,4,none⟩=some (.int .i64 0):=zc d7.out 4
 have hf4:=zaB d7.out 4
 refine skip_ (w1:=?_) (by rfl) rfl ?_ ?_
 rotate_left
 ·go_simp
  rfl
 refine hK.out _ _ ⟨(zaX (p:=⟨g8,_,none⟩) NE4_8 _).trans ((zaX (p:=⟨g8,_,none⟩) NE4_8 _).trans ((zaX (p:=⟨g8,_,none⟩) NE4_8 _).trans ((zaX (p:=⟨g8,_,none⟩) NE4_8 _).trans ((zaX (p:=⟨g8,_,none⟩) NE4_8 _).trans (hHeld.1))))),(zaX (p:=⟨g8,_,none⟩) NE4_8 _).trans ((zaX (p:=⟨g8,_,none⟩) NE4_8 _).trans ((zaX (p:=⟨g8,_,none⟩) NE4_8 _).trans ((zaX (p:=⟨g8,_,none⟩) NE4_8 _).trans ((zaX (p:=⟨g8,_,none⟩) NE4_8 _).trans (hHeld.2.1))))),(zaX (p:=⟨g8,_,none⟩) NE4_8 _).trans ((zaX (p:=⟨g8,_,none⟩) NE4_8 _).trans ((zaX (p:=⟨g8,_,none⟩) NE4_8 _).trans ((zaX (p:=⟨g8,_,none⟩) NE4_8 _).trans ((zaX (p:=⟨g8,_,none⟩) NE4_8 _).trans (hHeld.2.2.1))))),(zaX (p:=⟨g8,_,none⟩) NE4_8 _).trans ((zaX (p:=⟨g8,_,none⟩) NE4_8 _).trans ((zaX (p:=⟨g8,_,none⟩) NE4_8 _).trans ((zaX (p:=⟨g8,_,none⟩) NE4_8 _).trans ((zaX (p:=⟨g8,_,none⟩) NE4_8 _).trans (hHeld.2.2.2.1))))),(zaX (p:=⟨g8,_,none⟩) NE4_8 _).trans ((zaX (p:=⟨g8,_,none⟩) NE4_8 _).trans ((zaX (p:=⟨g8,_,none⟩) NE4_8 _).trans ((zaX (p:=⟨g8,_,none⟩) NE4_8 _).trans ((zaX (p:=⟨g8,_,none⟩) NE4_8 _).trans (hHeld.2.2.2.2.1))))),(zaX (p:=⟨g8,_,none⟩) NE5_8 _).trans ((zaX (p:=⟨g8,_,none⟩) NE5_8 _).trans ((zaX (p:=⟨g8,_,none⟩) NE5_8 _).trans ((zaX (p:=⟨g8,_,none⟩) NE5_8 _).trans ((zaX (p:=⟨g8,_,none⟩) NE5_8 _).trans (hHeld.2.2.2.2.2.1))))),(zaX (p:=⟨g8,_,none⟩) NE5_8 _).trans ((zaX (p:=⟨g8,_,none⟩) NE5_8 _).trans ((zaX (p:=⟨g8,_,none⟩) NE5_8 _).trans ((zaX (p:=⟨g8,_,none⟩) NE5_8 _).trans ((zaX (p:=⟨g8,_,none⟩) NE5_8 _).trans (hHeld.2.2.2.2.2.2.1))))),(zaX (p:=⟨g8,_,none⟩) NE5_8 _).trans ((zaX (p:=⟨g8,_,none⟩) NE5_8 _).trans ((zaX (p:=⟨g8,_,none⟩) NE5_8 _).trans ((zaX (p:=⟨g8,_,none⟩) NE5_8 _).trans ((zaX (p:=⟨g8,_,none⟩) NE5_8 _).trans (hHeld.2.2.2.2.2.2.2.1))))),(zaX (p:=⟨g8,_,none⟩) NE5_8 _).trans ((zaX (p:=⟨g8,_,none⟩) NE5_8 _).trans ((zaX (p:=⟨g8,_,none⟩) NE5_8 _).trans ((zaX (p:=⟨g8,_,none⟩) NE5_8 _).trans ((zaX (p:=⟨g8,_,none⟩) NE5_8 _).trans (hHeld.2.2.2.2.2.2.2.2.1))))),(zaX (p:=⟨g8,_,none⟩) NE5_8 _).trans ((zaX (p:=⟨g8,_,none⟩) NE5_8 _).trans ((zaX (p:=⟨g8,_,none⟩) NE5_8 _).trans ((zaX (p:=⟨g8,_,none⟩) NE5_8 _).trans ((zaX (p:=⟨g8,_,none⟩) NE5_8 _).trans (hHeld.2.2.2.2.2.2.2.2.2)))))⟩ (fun hHeld=>?_)
 clear hK K
 refine zbT (zbB HT_.out (by kernel_rfl)) ?_
 try go_wp2
 refine bodyPost_ret (results_cell_row rfl _ _ g8 57 #[.int .i64 (wrap64 (d8+t0)),.int .i64 (wrap64 (d9+t1)),.int .i64 (wrap64 (e0+t2)),.int .i64 (wrap64 (e5+t3)),.int .i64 (wrap64 (e6+t4))] (0,0) _ rfl (by exact zB (zp5 (zB d7.out) _ _ _ _ _)) Try.underlying57 rfl (by kernel_rfl)) rfl ?_
 exact ⟨by first|rfl|(simp;done),by repeat (first|(with_reducible first|exact HB.out|apply zan|apply zaj|apply zai|refine zao ?_ f7.out)|exact HB.out)⟩
end Go.Proofs.Ytlilncnoohfcdaa.Br
