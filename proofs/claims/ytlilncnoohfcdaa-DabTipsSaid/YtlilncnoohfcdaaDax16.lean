
import Derived.Test.YtlilncnoohfcdaaDax0
import Derived.Test.YtlilncnoohfcdaaDax11
import Derived.Test.YtlilncnoohfcdaaDax13
import Derived.Test.YtlilncnoohfcdaaDax14
import Derived.Test.YtlilncnoohfcdaaDax15
namespace Go.Proofs.Ytlilncnoohfcdaa.Da
open Go.RowKit Go.Proofs.YtlilncnoohfcdaaW.PrintWords Go.Proofs.YtlilncnoohfcdaaW.PrintLast Go.Proofs.YtlilncnoohfcdaaW.PrintMore
attribute [local go_sem] max2_int min2_int zbo zbp zbc zbd zbj zbk   
set_option linter.unusedVariables false
set_option linter.unusedSimpArgs false
/-! ### imageeditorref27_Cover: function 23 -/
mutual
def zam.j0:Nat→Int→Int→Bool→Int→Int→Int→Int→Int→Int→Int→Int→Int→Int→Int→Int→Int→Int→List (S120)→Bool→Int→Int→Int→Int→Int→Option (Int)
 | 0,_,_,_,_,_,_,_,_,_,_,_,_,_,_,_,_,_,_,_,_,_,_,_,_=>none
 | k+1,x2,x3,x27,x08,x00,x04,x09,x0a,x0b,x05,x0c,x0d,x0e,x0f,x0g,x0h,x0i,x0j,x0k,x01,x02,x06,x03,x07=>if x27=true then (some 0) else ((zaG.f x2 (-1048576) 1048576).bind fun t333=>((zaG.f x3 (-1048576) 1048576).bind fun t334=>((zbn.f k (wrap64 (x05+x07))).bind fun bt335=>((zau.f k (wrap64 ((wrap64 (bt335.2*(wrap64 (16*(wrap64 ((wrap64 ((wrap64 (16*t333))+8)) - x01))))))+(wrap64 (bt335.1*(wrap64 (16*(wrap64 ((wrap64 ((wrap64 (16*t334))+8)) - x02)))))))) 65536).bind fun t337=>((zau.f k (wrap64 ((wrap64 (bt335.2*(wrap64 (16*(wrap64 ((wrap64 ((wrap64 (16*t334))+8)) - x02)))))) - (wrap64 (bt335.1*(wrap64 (16*(wrap64 ((wrap64 ((wrap64 (16*t333))+8)) - x01)))))))) 65536).bind fun t338=>(if t338<0 then (zam.j1 k t337 (wrap64 (-t338)) x08 x00 x04 x09 x0a x0b x05 x0c x0d x0e x0f x0g x0h x0i x0j x0k x01 x02 x06 x03 x07) else (zam.j1 k t337 t338 x08 x00 x04 x09 x0a x0b x05 x0c x0d x0e x0f x0g x0h x0i x0j x0k x01 x02 x06 x03 x07)))))))
def zam.j1:Nat→Int→Int→Int→Int→Int→Int→Int→Int→Int→Int→Int→Int→Int→Int→Int→Int→List (S120)→Bool→Int→Int→Int→Int→Int→Option (Int)
 | 0,_,_,_,_,_,_,_,_,_,_,_,_,_,_,_,_,_,_,_,_,_,_,_=>none
 | k+1,x14,x15,x08,x00,x04,x09,x0a,x0b,x05,x0c,x0d,x0e,x0f,x0g,x0h,x0i,x0j,x0k,x01,x02,x06,x03,x07=>(zau.f k (wrap64 (65535*x15)) x04).bind fun t339=>((zat.f k x14 t339).bind fun t340=>((zau.f k (wrap64 (65535*t340)) (wrap64 (8*x06))).bind fun t341=>(if t341≤x00 then (some x03) else (if t341≥65535 then (some 0) else ((zau.f k (wrap64 (x03*(wrap64 (65535 - t341)))) (wrap64 (65535 - x00))).bind fun t342=>(some t342))))))
end
def zam.f (k:Nat) (a0_0:Int) (a0_1:Int) (a0_2:Int) (a0_3:Int) (a0_4:Int) (a0_5:Int) (a0_6:Int) (a0_7:Int) (a0_8:Int) (a0_9:Int) (a0_10:Int) (a0_11:Int) (a0_12:Int) (a0_13:Int) (l0_14:List (S120)) (a0_15:Bool) (a1_0:Int) (a1_1:Int) (a1_2:Int) (a1_3:Int) (a1_4:Int) (a2:Int) (a3:Int):Option (Int):=(zaM.f a1_0 a1_1 a1_2 a1_3 a1_4).bind fun bt327=>((zah.f k a0_0 a0_1 a0_2 a0_3 a0_4 a0_5 a0_6 a0_7 a0_8 a0_9 a0_10 a0_11 a0_12 a0_13 l0_14 a0_15).bind fun t332=>(if t332=0 then (zam.j0 k a2 a3 (bt327.2.2.1==0) a0_0 a0_1 a0_2 a0_3 a0_4 a0_5 a0_6 a0_7 a0_8 a0_9 a0_10 a0_11 a0_12 a0_13 l0_14 a0_15 bt327.1 bt327.2.1 bt327.2.2.1 bt327.2.2.2.1 bt327.2.2.2.2) else (zam.j0 k a2 a3 true a0_0 a0_1 a0_2 a0_3 a0_4 a0_5 a0_6 a0_7 a0_8 a0_9 a0_10 a0_11 a0_12 a0_13 l0_14 a0_15 bt327.1 bt327.2.1 bt327.2.2.1 bt327.2.2.2.1 bt327.2.2.2.2)))
def zam.T5:Bool×List (List Nat×List Nat):=(true,[([],[]),([],[]),([1],[1]),([],[]),([0,2,3],[0,2,3]),([4],[4]),([5],[5]),([],[]),([7],[7]),([6,8],[6,8]),([9],[9]),([10,4,0,1,2,3,4,5,6,7,8,9,10],[10])])
def zam.B5:List Nat:=[0,0,2,0,15,31,63,0,128,511,1023,2047]
theorem zam.tab5:rtab .any (opsOf Try.f23 5)=zam.T5:=by kernel_rfl
theorem zam.bits5:waitsOk zam.T5.2 zam.B5=true:=by kernel_rfl
def zam.T6:Bool×List (List Nat×List Nat):=(true,[([],[]),([],[]),([1],[1]),([],[]),([0,2,3],[0,2,3]),([4],[4]),([5],[5]),([],[]),([7],[7]),([6,8],[6,8]),([9],[9]),([10,4,0,1,2,3,4,5,6,7,8,9,10],[10])])
def zam.B6:List Nat:=[0,0,2,0,15,31,63,0,128,511,1023,2047]
theorem zam.tab6:rtab .any (opsOf Try.f23 6)=zam.T6:=by kernel_rfl
theorem zam.bits6:waitsOk zam.T6.2 zam.B6=true:=by kernel_rfl
def zam.T12:Bool×List (List Nat×List Nat):=(true,[([],[]),([],[]),([0,1],[0,1]),([2],[2]),([],[]),([4],[4]),([5],[5]),([3,6,2],[3,6]),([7,7,0,1,2,3,4,5,6,7],[7])])
def zam.B12:List Nat:=[0,0,3,7,0,16,48,127,255]
theorem zam.tab12:rtab .any (opsOf Try.f23 12)=zam.T12:=by kernel_rfl
theorem zam.bits12:waitsOk zam.T12.2 zam.B12=true:=by kernel_rfl
set_option maxHeartbeats 8000000 in
set_option maxRecDepth 100000 in
theorem zam.calls (k:Nat) (a0_0:Int) (a0_1:Int) (a0_2:Int) (a0_3:Int) (a0_4:Int) (a0_5:Int) (a0_6:Int) (a0_7:Int) (a0_8:Int) (a0_9:Int) (a0_10:Int) (a0_11:Int) (a0_12:Int) (a0_13:Int) (A0_14:Option Addr) (c0_14:Nat) (l0_14:List (S120)) (a0_15:Bool) (a1_0:Int) (a1_1:Int) (a1_2:Int) (a1_3:Int) (a1_4:Int) (a2:Int) (a3:Int) (r:Int) (w:World) (hr0_14:Kd.C k120 w A0_14 l0_14.length l0_14) (hc0_14:l0_14.length≤c0_14) (h:zam.f k a0_0 a0_1 a0_2 a0_3 a0_4 a0_5 a0_6 a0_7 a0_8 a0_9 a0_10 a0_11 a0_12 a0_13 l0_14 a0_15 a1_0 a1_1 a1_2 a1_3 a1_4 a2 a3=some r) :
 Calls Try.prog 23 #[.agg #[.int .i64 a0_0,.int .i64 a0_1,.int .i64 a0_2,.int .i64 a0_3,.int .i64 a0_4,.int .i64 a0_5,.int .i64 a0_6,.int .i64 a0_7,.int .i64 a0_8,.int .i64 a0_9,.int .i64 a0_10,.int .i64 a0_11,.int .i64 a0_12,.int .i64 a0_13,.slice A0_14 l0_14.length c0_14,.bool a0_15],.agg #[.int .i64 a1_0,.int .i64 a1_1,.int .i64 a1_2,.int .i64 a1_3,.int .i64 a1_4],.int .i64 a2,.int .i64 a3] w fun e w'=>e = .returned (.int .i64 r)∧Below w.heap.size w w':=by
 have hu26:=Try.underlying26
 have hu28:=Try.underlying28
 have HR0_14:=Aside0.mk hr0_14
 have HC0_14:=Aside0.mk hc0_14
 clear hr0_14 hc0_14
 have HB:=Aside0.mk (Below.refl w.heap.size w)
 have H:((zaM.f a1_0 a1_1 a1_2 a1_3 a1_4).bind fun bt327=>((zah.f k a0_0 a0_1 a0_2 a0_3 a0_4 a0_5 a0_6 a0_7 a0_8 a0_9 a0_10 a0_11 a0_12 a0_13 l0_14 a0_15).bind fun t332=>(if t332=0 then (zam.j0 k a2 a3 (bt327.2.2.1==0) a0_0 a0_1 a0_2 a0_3 a0_4 a0_5 a0_6 a0_7 a0_8 a0_9 a0_10 a0_11 a0_12 a0_13 l0_14 a0_15 bt327.1 bt327.2.1 bt327.2.2.1 bt327.2.2.2.1 bt327.2.2.2.2) else (zam.j0 k a2 a3 true a0_0 a0_1 a0_2 a0_3 a0_4 a0_5 a0_6 a0_7 a0_8 a0_9 a0_10 a0_11 a0_12 a0_13 l0_14 a0_15 bt327.1 bt327.2.1 bt327.2.2.1 bt327.2.2.2.1 bt327.2.2.2.2))))=some r:=h
 clear h
 replace H:=Option.bind_eq_some_iff.mp H
 obtain ⟨⟨t327,t328,t329,t330,t331⟩,A50,H⟩:=H
 replace H:((zah.f k a0_0 a0_1 a0_2 a0_3 a0_4 a0_5 a0_6 a0_7 a0_8 a0_9 a0_10 a0_11 a0_12 a0_13 l0_14 a0_15).bind fun t332=>(if t332=0 then (zam.j0 k a2 a3 (t329==0) a0_0 a0_1 a0_2 a0_3 a0_4 a0_5 a0_6 a0_7 a0_8 a0_9 a0_10 a0_11 a0_12 a0_13 l0_14 a0_15 t327 t328 t329 t330 t331) else (zam.j0 k a2 a3 true a0_0 a0_1 a0_2 a0_3 a0_4 a0_5 a0_6 a0_7 a0_8 a0_9 a0_10 a0_11 a0_12 a0_13 l0_14 a0_15 t327 t328 t329 t330 t331)))=some r:=H
 have A5:=Aside0.mk A50
 clear A50
 have HC6:=Aside0.mk H
 clear H
 go_enter Try.func23,Try.ntmps23
 go_upto_region 2 with (first|((with_reducible refine zaA (N:=4) rfl ?_);refine zav ?hg (N:=4) ?hd (cs:=#[.int .i64 a0_0,.int .i64 a0_1,.int .i64 a0_2,.int .i64 a0_3,.int .i64 a0_4,.int .i64 a0_5,.int .i64 a0_6,.int .i64 a0_7,.int .i64 a0_8,.int .i64 a0_9,.int .i64 a0_10,.int .i64 a0_11,.int .i64 a0_12,.int .i64 a0_13,.slice A0_14 l0_14.length c0_14,.bool a0_15]) (t:=26) ?hr ?_;(case hd=>rfl);(case hg=>rfl);(case hr=>first|(go_simp;done)|(go_simp;rfl));intro gb325 hg w7 hbox hb;have n0_:=Aside0.mk (zad (zL HB.out) hb);have n1_:=Aside0.mk (hbox);have n2_:=Aside0.mk ((zS hg (zL HB.out):w.heap.size≤gb325));have n3_:=Aside0.mk ((zS hg (zL HB.out):w.heap.size≤gb325));clear HB;have HB:=n0_;have BK325:=n1_;have GW325:=n2_;have GE325:=n3_;clear n0_ n1_ n2_ n3_;clear hb hbox hg)|((with_reducible refine zaA (N:=5) rfl ?_);refine zav ?hg (N:=5) ?hd (cs:=#[.int .i64 a1_0,.int .i64 a1_1,.int .i64 a1_2,.int .i64 a1_3,.int .i64 a1_4]) (t:=28) ?hr ?_;(case hd=>rfl);(case hg=>rfl);(case hr=>first|(go_simp;done)|(go_simp;rfl));intro gb326 hg w8 hbox hb;have n0_:=Aside0.mk (zaa (zB BK325.out) hb);have n1_:=Aside0.mk (zad (zL1 HB.out GE325.out) hb);have n2_:=Aside0.mk (hbox);have n3_:=Aside0.mk ((zS hg (zL1 HB.out GE325.out):w.heap.size≤gb326));have n4_:=Aside0.mk ((zS hg (zL1 HB.out GE325.out):w.heap.size≤gb326));have n5_:=Aside0.mk ((by rw [hg];exact Nat.ne_of_lt (zao (zB BK325.out)):gb325≠gb326));have n6_:=Aside0.mk ((by rw [hg];exact Nat.ne_of_gt (zao (zB BK325.out)):gb326≠gb325));clear BK325;clear HB;have BK325:=n0_;have HB:=n1_;have BK326:=n2_;have GW326:=n3_;have GE326:=n4_;have NB325_326:=n5_;have NB326_325:=n6_;clear n0_ n1_ n2_ n3_ n4_ n5_ n6_;clear hb hbox hg;have hnb9:=NB326_325.out;have hnc9:=NB325_326.out;obtain ⟨hcz10_0,hcz10_1,hcz10_2,hcz10_3,hcz10_4⟩:=zD5 BK326.out;obtain ⟨hfz10_0,hfz10_1,hfz10_2,hfz10_3,hfz10_4⟩:=zE5 BK326.out)|((with_reducible refine zal (f:=22) rfl ?_);refine goesL_ (some 19) rfl rfl Try.func22 (by kernel_rfl) rfl #[.agg #[.int .i64 a1_0,.int .i64 a1_1,.int .i64 a1_2,.int .i64 a1_3,.int .i64 a1_4]] rfl zA ?_;(with_reducible refine (zaM.calls a1_0 a1_1 a1_2 a1_3 a1_4 t327 t328 t329 t330 t331 _ A5.out).mono ?_);rintro e w11 ⟨rfl,hb⟩;refine ⟨_,rfl,?_⟩;replace BK325:=Aside0.mk (zaa (zB BK325.out) hb);replace BK326:=Aside0.mk (zaa (zB BK326.out) hb);replace HB:=Aside0.mk (zad (zL2 HB.out GE325.out GE326.out) hb);(try clear hb);(try clear hb2);(try clear hk);(try clear hi);obtain ⟨hcz12_0,hcz12_1,hcz12_2,hcz12_3,hcz12_4⟩:=zD5 BK326.out;obtain ⟨hfz12_0,hfz12_1,hfz12_2,hfz12_3,hfz12_4⟩:=zE5 BK326.out))
 (try simp only [Act.put,List.setIfInBounds_toArray,List.set_cons_zero,List.set_cons_succ])
 go_cut [27] (fun v27 wc=>∃ (kq:Nat) (x27_5:Bool),v27 = .bool x27_5∧Aside0 (zam.j0 kq a2 a3 x27_5 a0_0 a0_1 a0_2 a0_3 a0_4 a0_5 a0_6 a0_7 a0_8 a0_9 a0_10 a0_11 a0_12 a0_13 l0_14 a0_15 t327 t328 t329 t330 t331=some r)∧Aside0 (kq≤k)∧Aside0 (wc.heap[gb325]? = some (.cells #[.int .i64 a0_0,.int .i64 a0_1,.int .i64 a0_2,.int .i64 a0_3,.int .i64 a0_4,.int .i64 a0_5,.int .i64 a0_6,.int .i64 a0_7,.int .i64 a0_8,.int .i64 a0_9,.int .i64 a0_10,.int .i64 a0_11,.int .i64 a0_12,.int .i64 a0_13,(.slice A0_14 l0_14.length c0_14),.bool a0_15] 26 (0,0)))∧Aside0 (wc.heap[gb326]? = some (.cells #[.int .i64 t327,.int .i64 t328,.int .i64 t329,.int .i64 t330,.int .i64 t331] 28 (0,0)))∧Aside0 (Below w.heap.size w wc))
 case first=>
  have H:=HC6.out
  clear HC6
  replace H:=Option.bind_eq_some_iff.mp H
  obtain ⟨t332,A130,H⟩:=H
  replace H:(if t332=0 then (zam.j0 k a2 a3 (t329==0) a0_0 a0_1 a0_2 a0_3 a0_4 a0_5 a0_6 a0_7 a0_8 a0_9 a0_10 a0_11 a0_12 a0_13 l0_14 a0_15 t327 t328 t329 t330 t331) else (zam.j0 k a2 a3 true a0_0 a0_1 a0_2 a0_3 a0_4 a0_5 a0_6 a0_7 a0_8 a0_9 a0_10 a0_11 a0_12 a0_13 l0_14 a0_15 t327 t328 t329 t330 t331))=some r:=H
  have A13:=Aside0.mk A130
  clear A130
  by_cases c14:t332=0
  ·rw [if_pos c14] at H
   have c14b0:(t332==0)=true:=beq_iff_eq.mpr c14
   have c14b1:(t332 != 0)=false:=bne_eq_false_iff_eq.mpr c14
   clear c14
   (first|rw [c14b0]|(simp only [i64_w,i32_w];rw [c14b0])|skip)
   have H':=Aside0.mk H
   clear H
   have hnb15:=NB325_326.out
   have hnc15:=NB326_325.out
   obtain ⟨hcz16_0,hcz16_1,hcz16_2,hcz16_3,hcz16_4,hcz16_5,hcz16_6,hcz16_7,hcz16_8,hcz16_9,hcz16_10,hcz16_11,hcz16_12,hcz16_13,hcz16_14,hcz16_15⟩:=zD16 BK325.out
   obtain ⟨hfz16_0,hfz16_1,hfz16_2,hfz16_3,hfz16_4,hfz16_5,hfz16_6,hfz16_7,hfz16_8,hfz16_9,hfz16_10,hfz16_11,hfz16_12,hfz16_13,hfz16_14,hfz16_15⟩:=zE16 BK325.out
   go_wp2_with (first|((with_reducible refine zal (f:=15) rfl ?_);refine goesL_ (some 21) rfl rfl Try.func15 (by kernel_rfl) rfl #[.agg #[.int .i64 a0_0,.int .i64 a0_1,.int .i64 a0_2,.int .i64 a0_3,.int .i64 a0_4,.int .i64 a0_5,.int .i64 a0_6,.int .i64 a0_7,.int .i64 a0_8,.int .i64 a0_9,.int .i64 a0_10,.int .i64 a0_11,.int .i64 a0_12,.int .i64 a0_13,.slice A0_14 l0_14.length c0_14,.bool a0_15]] rfl zA ?_;(with_reducible refine (zah.calls k a0_0 a0_1 a0_2 a0_3 a0_4 a0_5 a0_6 a0_7 a0_8 a0_9 a0_10 a0_11 a0_12 a0_13 _ _ l0_14 a0_15 t332 _ ?side1 ?side2 A13.out).mono ?_);(case side1=>exact Kd.C_below HR0_14.out (zL2 HB.out GE325.out GE326.out));(case side2=>exact HC0_14.out);rintro e w17 ⟨rfl,hb⟩;refine ⟨_,rfl,?_⟩;have n0_:=Aside0.mk (zaa (g:=gb325) (o:=.cells #[.int .i64 a0_0,.int .i64 a0_1,.int .i64 a0_2,.int .i64 a0_3,.int .i64 a0_4,.int .i64 a0_5,.int .i64 a0_6,.int .i64 a0_7,.int .i64 a0_8,.int .i64 a0_9,.int .i64 a0_10,.int .i64 a0_11,.int .i64 a0_12,.int .i64 a0_13,.slice A0_14 l0_14.length c0_14,.bool a0_15] 26 (0,0)) (by refine zB ?_;refine zab ?_ NB325_326.out _;refine zB ?_;refine zab ?_ NB325_326.out _;refine zB ?_;refine zab ?_ NB325_326.out _;refine zB ?_;refine zab ?_ NB325_326.out _;refine zB ?_;refine zab ?_ NB325_326.out _;refine zB ?_;exact BK325.out) hb);have n1_:=Aside0.mk (zaa (g:=gb326) (o:=.cells #[.int .i64 t327,.int .i64 t328,.int .i64 t329,.int .i64 t330,.int .i64 t331] 28 (0,0)) (by refine zB ?_;refine zae (cs:=#[.int .i64 t327,.int .i64 t328,.int .i64 t329,.int .i64 t330,.int .i64 a1_4]) ?_ 4 _ rfl;refine zB ?_;refine zae (cs:=#[.int .i64 t327,.int .i64 t328,.int .i64 t329,.int .i64 a1_3,.int .i64 a1_4]) ?_ 3 _ rfl;refine zB ?_;refine zae (cs:=#[.int .i64 t327,.int .i64 t328,.int .i64 a1_2,.int .i64 a1_3,.int .i64 a1_4]) ?_ 2 _ rfl;refine zB ?_;refine zae (cs:=#[.int .i64 t327,.int .i64 a1_1,.int .i64 a1_2,.int .i64 a1_3,.int .i64 a1_4]) ?_ 1 _ rfl;refine zB ?_;refine zae (cs:=#[.int .i64 a1_0,.int .i64 a1_1,.int .i64 a1_2,.int .i64 a1_3,.int .i64 a1_4]) ?_ 0 _ rfl;refine zB ?_;exact BK326.out) hb);have n2_:=Aside0.mk (zad (zL2 HB.out GE325.out GE326.out) hb);clear BK325;clear BK326;clear HB;have BK325:=n0_;have BK326:=n1_;have HB:=n2_;clear n0_ n1_ n2_;(try clear hb);(try clear hb2);(try clear hk);(try clear hi);obtain ⟨hcz18_0,hcz18_1,hcz18_2,hcz18_3,hcz18_4⟩:=zD5 BK326.out;obtain ⟨hfz18_0,hfz18_1,hfz18_2,hfz18_3,hfz18_4⟩:=zE5 BK326.out))
   go_meet
   case rel=>exact ⟨_,((t329==0)),zF,H',⟨by first|omega|exact Nat.le_refl _⟩,⟨by refine zB ?_;exact BK325.out⟩,⟨by refine zB ?_;exact BK326.out⟩,⟨by repeat (first|(with_reducible first|exact HB.out|apply zai|apply zaf|apply zag|refine zac ?_ GE325.out|refine zac ?_ GE326.out)|exact HB.out)⟩⟩
  ·rw [if_neg c14] at H
   have c14b0:(t332==0)=false:=beq_eq_false_iff_ne.mpr c14
   have c14b1:(t332 != 0)=true:=bne_iff_ne.mpr c14
   (first|rw [c14b0]|(simp only [i64_w,i32_w];rw [c14b0])|skip)
   have H':=Aside0.mk H
   clear H
   have hnb19:=NB325_326.out
   have hnc19:=NB326_325.out
   obtain ⟨hcz20_0,hcz20_1,hcz20_2,hcz20_3,hcz20_4,hcz20_5,hcz20_6,hcz20_7,hcz20_8,hcz20_9,hcz20_10,hcz20_11,hcz20_12,hcz20_13,hcz20_14,hcz20_15⟩:=zD16 BK325.out
   obtain ⟨hfz20_0,hfz20_1,hfz20_2,hfz20_3,hfz20_4,hfz20_5,hfz20_6,hfz20_7,hfz20_8,hfz20_9,hfz20_10,hfz20_11,hfz20_12,hfz20_13,hfz20_14,hfz20_15⟩:=zE16 BK325.out
   go_wp2_with (first|((with_reducible refine zal (f:=15) rfl ?_);refine goesL_ (some 21) rfl rfl Try.func15 (by kernel_rfl) rfl #[.agg #[.int .i64 a0_0,.int .i64 a0_1,.int .i64 a0_2,.int .i64 a0_3,.int .i64 a0_4,.int .i64 a0_5,.int .i64 a0_6,.int .i64 a0_7,.int .i64 a0_8,.int .i64 a0_9,.int .i64 a0_10,.int .i64 a0_11,.int .i64 a0_12,.int .i64 a0_13,.slice A0_14 l0_14.length c0_14,.bool a0_15]] rfl zA ?_;(with_reducible refine (zah.calls k a0_0 a0_1 a0_2 a0_3 a0_4 a0_5 a0_6 a0_7 a0_8 a0_9 a0_10 a0_11 a0_12 a0_13 _ _ l0_14 a0_15 t332 _ ?side1 ?side2 A13.out).mono ?_);(case side1=>exact Kd.C_below HR0_14.out (zL2 HB.out GE325.out GE326.out));(case side2=>exact HC0_14.out);rintro e w21 ⟨rfl,hb⟩;refine ⟨_,rfl,?_⟩;have n0_:=Aside0.mk (zaa (g:=gb325) (o:=.cells #[.int .i64 a0_0,.int .i64 a0_1,.int .i64 a0_2,.int .i64 a0_3,.int .i64 a0_4,.int .i64 a0_5,.int .i64 a0_6,.int .i64 a0_7,.int .i64 a0_8,.int .i64 a0_9,.int .i64 a0_10,.int .i64 a0_11,.int .i64 a0_12,.int .i64 a0_13,.slice A0_14 l0_14.length c0_14,.bool a0_15] 26 (0,0)) (by refine zB ?_;refine zab ?_ NB325_326.out _;refine zB ?_;refine zab ?_ NB325_326.out _;refine zB ?_;refine zab ?_ NB325_326.out _;refine zB ?_;refine zab ?_ NB325_326.out _;refine zB ?_;refine zab ?_ NB325_326.out _;refine zB ?_;exact BK325.out) hb);have n1_:=Aside0.mk (zaa (g:=gb326) (o:=.cells #[.int .i64 t327,.int .i64 t328,.int .i64 t329,.int .i64 t330,.int .i64 t331] 28 (0,0)) (by refine zB ?_;refine zae (cs:=#[.int .i64 t327,.int .i64 t328,.int .i64 t329,.int .i64 t330,.int .i64 a1_4]) ?_ 4 _ rfl;refine zB ?_;refine zae (cs:=#[.int .i64 t327,.int .i64 t328,.int .i64 t329,.int .i64 a1_3,.int .i64 a1_4]) ?_ 3 _ rfl;refine zB ?_;refine zae (cs:=#[.int .i64 t327,.int .i64 t328,.int .i64 a1_2,.int .i64 a1_3,.int .i64 a1_4]) ?_ 2 _ rfl;refine zB ?_;refine zae (cs:=#[.int .i64 t327,.int .i64 a1_1,.int .i64 a1_2,.int .i64 a1_3,.int .i64 a1_4]) ?_ 1 _ rfl;refine zB ?_;refine zae (cs:=#[.int .i64 a1_0,.int .i64 a1_1,.int .i64 a1_2,.int .i64 a1_3,.int .i64 a1_4]) ?_ 0 _ rfl;refine zB ?_;exact BK326.out) hb);have n2_:=Aside0.mk (zad (zL2 HB.out GE325.out GE326.out) hb);clear BK325;clear BK326;clear HB;have BK325:=n0_;have BK326:=n1_;have HB:=n2_;clear n0_ n1_ n2_;(try clear hb);(try clear hb2);(try clear hk);(try clear hi)))
   go_meet
   case rel=>exact ⟨_,(true),zF,H',⟨by first|omega|exact Nat.le_refl _⟩,⟨by refine zB ?_;exact BK325.out⟩,⟨by refine zB ?_;exact BK326.out⟩,⟨by repeat (first|(with_reducible first|exact HB.out|apply zai|apply zaf|apply zag|refine zac ?_ GE325.out|refine zac ?_ GE326.out)|exact HB.out)⟩⟩
 case rest=>
  clear HC6
  try clear c1
  try clear c2
  try clear p2
  try clear c9
  try clear c14
  try clear c14b0
  try clear c14b1
  try clear c15
  try clear c19
  try clear hcz10_0 hcz10_1 hcz10_2 hcz10_3 hcz10_4 hcz12_0 hcz12_1 hcz12_2 hcz12_3 hcz12_4 hcz16_0 hcz16_1 hcz16_10 hcz16_11 hcz16_12 hcz16_13 hcz16_14 hcz16_15 hcz16_2 hcz16_3 hcz16_4 hcz16_5 hcz16_6 hcz16_7 hcz16_8 hcz16_9 hcz18_0 hcz18_1 hcz18_2 hcz18_3 hcz18_4 hcz20_0 hcz20_1 hcz20_10 hcz20_11 hcz20_12 hcz20_13 hcz20_14 hcz20_15 hcz20_2 hcz20_3 hcz20_4 hcz20_5 hcz20_6 hcz20_7 hcz20_8 hcz20_9 hfz10_0 hfz10_1 hfz10_2 hfz10_3 hfz10_4 hfz12_0 hfz12_1 hfz12_2 hfz12_3 hfz12_4 hfz16_0 hfz16_1 hfz16_10 hfz16_11 hfz16_12 hfz16_13 hfz16_14 hfz16_15 hfz16_2 hfz16_3 hfz16_4 hfz16_5 hfz16_6 hfz16_7 hfz16_8 hfz16_9 hfz18_0 hfz18_1 hfz18_2 hfz18_3 hfz18_4 hfz20_0 hfz20_1 hfz20_10 hfz20_11 hfz20_12 hfz20_13 hfz20_14 hfz20_15 hfz20_2 hfz20_3 hfz20_4 hfz20_5 hfz20_6 hfz20_7 hfz20_8 hfz20_9
  obtain ⟨kq,x27_5,rfl,HA,HJ5,BK325,BK326,HB⟩:=hcut
  cases kq with
  | zero=>exact absurd HA.out (by simp [zam.j0])
  | succ kj5=>
   have H:=HA.out
   clear HA
   simp only [zam.j0] at H
   by_cases c22:x27_5=true
   ·subst c22
    have H1:(some 0)=some r:=by rw [if_pos rfl] at H;exact H
    clear H
    have H:=H1
    clear H1
    obtain rfl:=Option.some.inj H
    go_wp2
    go_ret
    exact ⟨by first|rfl|(simp [errW_none,errW_some] <;> rfl)|(simp [*,errW_none,errW_some] <;> rfl),by repeat (first|(with_reducible first|exact HB.out|apply zai|apply zaf|apply zag|refine zac ?_ GE325.out|refine zac ?_ GE326.out)|exact HB.out)⟩
   ·replace c22:=Bool.eq_false_iff.mpr c22
    subst c22
    have H1:((zaG.f a2 (-1048576) 1048576).bind fun t333=>((zaG.f a3 (-1048576) 1048576).bind fun t334=>((zbn.f kj5 (wrap64 (a0_6+t331))).bind fun bt335=>((zau.f kj5 (wrap64 ((wrap64 (bt335.2*(wrap64 (16*(wrap64 ((wrap64 ((wrap64 (16*t333))+8)) - t327))))))+(wrap64 (bt335.1*(wrap64 (16*(wrap64 ((wrap64 ((wrap64 (16*t334))+8)) - t328)))))))) 65536).bind fun t337=>((zau.f kj5 (wrap64 ((wrap64 (bt335.2*(wrap64 (16*(wrap64 ((wrap64 ((wrap64 (16*t334))+8)) - t328)))))) - (wrap64 (bt335.1*(wrap64 (16*(wrap64 ((wrap64 ((wrap64 (16*t333))+8)) - t327)))))))) 65536).bind fun t338=>(if t338<0 then (zam.j1 kj5 t337 (wrap64 (-t338)) a0_0 a0_1 a0_2 a0_3 a0_4 a0_5 a0_6 a0_7 a0_8 a0_9 a0_10 a0_11 a0_12 a0_13 l0_14 a0_15 t327 t328 t329 t330 t331) else (zam.j1 kj5 t337 t338 a0_0 a0_1 a0_2 a0_3 a0_4 a0_5 a0_6 a0_7 a0_8 a0_9 a0_10 a0_11 a0_12 a0_13 l0_14 a0_15 t327 t328 t329 t330 t331)))))))=some r:=by rw [if_neg (show ¬ (false=true) by decide)] at H;exact H
    clear H
    have H:=H1
    clear H1
    replace H:=Option.bind_eq_some_iff.mp H
    obtain ⟨t333,A230,H⟩:=H
    replace H:((zaG.f a3 (-1048576) 1048576).bind fun t334=>((zbn.f kj5 (wrap64 (a0_6+t331))).bind fun bt335=>((zau.f kj5 (wrap64 ((wrap64 (bt335.2*(wrap64 (16*(wrap64 ((wrap64 ((wrap64 (16*t333))+8)) - t327))))))+(wrap64 (bt335.1*(wrap64 (16*(wrap64 ((wrap64 ((wrap64 (16*t334))+8)) - t328)))))))) 65536).bind fun t337=>((zau.f kj5 (wrap64 ((wrap64 (bt335.2*(wrap64 (16*(wrap64 ((wrap64 ((wrap64 (16*t334))+8)) - t328)))))) - (wrap64 (bt335.1*(wrap64 (16*(wrap64 ((wrap64 ((wrap64 (16*t333))+8)) - t327)))))))) 65536).bind fun t338=>(if t338<0 then (zam.j1 kj5 t337 (wrap64 (-t338)) a0_0 a0_1 a0_2 a0_3 a0_4 a0_5 a0_6 a0_7 a0_8 a0_9 a0_10 a0_11 a0_12 a0_13 l0_14 a0_15 t327 t328 t329 t330 t331) else (zam.j1 kj5 t337 t338 a0_0 a0_1 a0_2 a0_3 a0_4 a0_5 a0_6 a0_7 a0_8 a0_9 a0_10 a0_11 a0_12 a0_13 l0_14 a0_15 t327 t328 t329 t330 t331))))))=some r:=H
    have A23:=Aside0.mk A230
    clear A230
    replace H:=Option.bind_eq_some_iff.mp H
    obtain ⟨t334,A240,H⟩:=H
    replace H:((zbn.f kj5 (wrap64 (a0_6+t331))).bind fun bt335=>((zau.f kj5 (wrap64 ((wrap64 (bt335.2*(wrap64 (16*(wrap64 ((wrap64 ((wrap64 (16*t333))+8)) - t327))))))+(wrap64 (bt335.1*(wrap64 (16*(wrap64 ((wrap64 ((wrap64 (16*t334))+8)) - t328)))))))) 65536).bind fun t337=>((zau.f kj5 (wrap64 ((wrap64 (bt335.2*(wrap64 (16*(wrap64 ((wrap64 ((wrap64 (16*t334))+8)) - t328)))))) - (wrap64 (bt335.1*(wrap64 (16*(wrap64 ((wrap64 ((wrap64 (16*t333))+8)) - t327)))))))) 65536).bind fun t338=>(if t338<0 then (zam.j1 kj5 t337 (wrap64 (-t338)) a0_0 a0_1 a0_2 a0_3 a0_4 a0_5 a0_6 a0_7 a0_8 a0_9 a0_10 a0_11 a0_12 a0_13 l0_14 a0_15 t327 t328 t329 t330 t331) else (zam.j1 kj5 t337 t338 a0_0 a0_1 a0_2 a0_3 a0_4 a0_5 a0_6 a0_7 a0_8 a0_9 a0_10 a0_11 a0_12 a0_13 l0_14 a0_15 t327 t328 t329 t330 t331)))))=some r:=H
    have A24:=Aside0.mk A240
    clear A240
    replace H:=Option.bind_eq_some_iff.mp H
    obtain ⟨⟨t335,t336⟩,A250,H⟩:=H
    replace H:((zau.f kj5 (wrap64 ((wrap64 (t336*(wrap64 (16*(wrap64 ((wrap64 ((wrap64 (16*t333))+8)) - t327))))))+(wrap64 (t335*(wrap64 (16*(wrap64 ((wrap64 ((wrap64 (16*t334))+8)) - t328)))))))) 65536).bind fun t337=>((zau.f kj5 (wrap64 ((wrap64 (t336*(wrap64 (16*(wrap64 ((wrap64 ((wrap64 (16*t334))+8)) - t328)))))) - (wrap64 (t335*(wrap64 (16*(wrap64 ((wrap64 ((wrap64 (16*t333))+8)) - t327)))))))) 65536).bind fun t338=>(if t338<0 then (zam.j1 kj5 t337 (wrap64 (-t338)) a0_0 a0_1 a0_2 a0_3 a0_4 a0_5 a0_6 a0_7 a0_8 a0_9 a0_10 a0_11 a0_12 a0_13 l0_14 a0_15 t327 t328 t329 t330 t331) else (zam.j1 kj5 t337 t338 a0_0 a0_1 a0_2 a0_3 a0_4 a0_5 a0_6 a0_7 a0_8 a0_9 a0_10 a0_11 a0_12 a0_13 l0_14 a0_15 t327 t328 t329 t330 t331))))=some r:=H
    have A25:=Aside0.mk A250
    clear A250
    replace H:=Option.bind_eq_some_iff.mp H
    obtain ⟨t337,A260,H⟩:=H
    replace H:((zau.f kj5 (wrap64 ((wrap64 (t336*(wrap64 (16*(wrap64 ((wrap64 ((wrap64 (16*t334))+8)) - t328)))))) - (wrap64 (t335*(wrap64 (16*(wrap64 ((wrap64 ((wrap64 (16*t333))+8)) - t327)))))))) 65536).bind fun t338=>(if t338<0 then (zam.j1 kj5 t337 (wrap64 (-t338)) a0_0 a0_1 a0_2 a0_3 a0_4 a0_5 a0_6 a0_7 a0_8 a0_9 a0_10 a0_11 a0_12 a0_13 l0_14 a0_15 t327 t328 t329 t330 t331) else (zam.j1 kj5 t337 t338 a0_0 a0_1 a0_2 a0_3 a0_4 a0_5 a0_6 a0_7 a0_8 a0_9 a0_10 a0_11 a0_12 a0_13 l0_14 a0_15 t327 t328 t329 t330 t331)))=some r:=H
    have A26:=Aside0.mk A260
    clear A260
    replace H:=Option.bind_eq_some_iff.mp H
    obtain ⟨t338,A270,H⟩:=H
    replace H:(if t338<0 then (zam.j1 kj5 t337 (wrap64 (-t338)) a0_0 a0_1 a0_2 a0_3 a0_4 a0_5 a0_6 a0_7 a0_8 a0_9 a0_10 a0_11 a0_12 a0_13 l0_14 a0_15 t327 t328 t329 t330 t331) else (zam.j1 kj5 t337 t338 a0_0 a0_1 a0_2 a0_3 a0_4 a0_5 a0_6 a0_7 a0_8 a0_9 a0_10 a0_11 a0_12 a0_13 l0_14 a0_15 t327 t328 t329 t330 t331))=some r:=H
    have A27:=Aside0.mk A270
    clear A270
    have HC28:=Aside0.mk H
    clear H
    try go_wp2
    replace BK325:=Aside0.mk (zaK BK325.out)
    replace BK326:=Aside0.mk (zaK BK326.out)
    replace HB:=Aside0.mk (zag HB.out)
    refine start_ (n:=12) (S:=fun w'=>w'.cell? ⟨gb326,0,none⟩=some (.int .i64 t327)∧w'.cell? ⟨gb326,1,none⟩=some (.int .i64 t328)∧w'.cell? ⟨gb326,2,none⟩=some (.int .i64 t329)∧w'.cell? ⟨gb326,3,none⟩=some (.int .i64 t330)∧w'.cell? ⟨gb326,4,none⟩=some (.int .i64 t331)) (ds:=[]) #[false,false,false,false,false,false,false,false,false,false,false,false] (by kernel_rfl) rfl rfl ⟨zc BK326.out 0,zc BK326.out 1,zc BK326.out 2,zc BK326.out 3,zc BK326.out 4⟩ (fun hHeld=>?_);refine zbi zam.tab5 zam.bits5 (fun HT_ HW_=>?_)
    generalize wc.drew=w29 at BK325 BK326 HB hHeld ⊢
    refine pure_ (i:=0) (N:=some 28) (v:=?_) (a':=?_) #[true,false,false,false,false,false,false,false,false,false,false,false] rfl rfl (zap HT_.out (by kernel_rfl)) (fun _ _ _ h=>h) (Or.inl ⟨by rfl,?_⟩) ?_ ?_
    rotate_left
    ·intro w'
     go_simp
     with_reducible rfl
    rotate_left
    ·exact zP
    refine pure_ (i:=1) (N:=some 29) (v:=?_) (a':=?_) #[true,true,false,false,false,false,false,false,false,false,false,false] rfl rfl (zap HT_.out (by kernel_rfl)) (fun _ _ _ h=>h) (Or.inl ⟨by rfl,?_⟩) ?_ ?_
    rotate_left
    ·intro w'
     go_simp
     with_reducible rfl
    rotate_left
    ·exact zP
    refine pure_ (i:=2) (N:=some 30) (v:=?_) (a':=?_) #[true,true,true,false,false,false,false,false,false,false,false,false] rfl rfl (zap HT_.out (by kernel_rfl)) (fun _ _ _ h=>h) (Or.inl ⟨by rfl,?_⟩) ?_ ?_
    rotate_left
    ·intro w'
     go_simp
     with_reducible rfl
    rotate_left
    ·exact zP
    refine pure_ (i:=3) (N:=some 31) (v:=?_) (a':=?_) #[true,true,true,true,false,false,false,false,false,false,false,false] rfl rfl (zap HT_.out (by kernel_rfl)) (fun _ _ _ h=>h) (Or.inl ⟨by rfl,?_⟩) ?_ ?_
    rotate_left
    ·intro w'
     go_simp
     with_reducible rfl
    rotate_left
    ·exact zP
    refine pure_ (i:=7) (N:=some 35) (v:=?_) (a':=?_) #[true,true,true,true,false,false,false,true,false,false,false,false] rfl rfl (zap HT_.out (by kernel_rfl)) (fun _ _ _ h=>h) (Or.inl ⟨by rfl,?_⟩) ?_ ?_
    rotate_left
    ·intro w'
     go_simp
     with_reducible rfl
    rotate_left
    ·exact zP
    refine take_ (i:=8) (N:=some 36) (v:=?_) (a':=?_) #[true,true,true,true,false,false,false,true,true,false,false,false] rfl rfl (zaL HT_.out HW_.out (by kernel_rfl)) (fun _ _ _ h=>h) (Or.inl ⟨by rfl,?_⟩) hHeld ?_ ?_
    rotate_left
    ·rintro w' ⟨s0,s1,s2,s3,s4⟩
     go_simp
     with_reducible rfl
    rotate_left
    ·exact zP
    refine one_ (i:=4) (N:=some 32) #[true,true,true,true,true,false,false,true,true,false,false,false] rfl rfl (zaR HT_.out (by kernel_rfl)) (by decide) (fun K hK=>?_)
    refine goes_ Try.func27 (by kernel_rfl) rfl #[.int .i64 a2,.int .i64 (-1048576),.int .i64 1048576] (by rfl) rfl rfl (by (try simp only [List.map_toArray,List.map_cons,List.map_nil]);first|done|rfl|kernel_rfl|(simp only [List.length_drop,List.length_take];rfl)) ?_
    with_reducible refine (zaG.calls a2 (-1048576) 1048576 t333 _ A23.out).mono ?_
    rintro e w30 ⟨rfl,hb⟩
    refine ⟨_,rfl,?_⟩
    replace BK325:=Aside0.mk (zaa (zB BK325.out) hb)
    replace BK326:=Aside0.mk (zaa (zB BK326.out) hb)
    replace HB:=Aside0.mk (zad (zL2 HB.out GE325.out GE326.out) hb)
    (try clear hb)
    (try clear hb2)
    (try clear hk)
    (try clear hi)
    refine hK.out _ _ ⟨zc BK326.out 0,zc BK326.out 1,zc BK326.out 2,zc BK326.out 3,zc BK326.out 4⟩ (fun hHeld=>?_)
    clear hK K
    refine norm_ (a':=?_) ?_ ?_
    rotate_left
    ·show Act.put _ (some 32) _=_
     exact zP
    refine pure_ (i:=5) (N:=some 33) (v:=?_) (a':=?_) #[true,true,true,true,true,true,false,true,true,false,false,false] rfl rfl (zap HT_.out (by kernel_rfl)) (fun _ _ _ h=>h) (Or.inl ⟨by rfl,?_⟩) ?_ ?_
    rotate_left
    ·intro w'
     go_simp
     with_reducible rfl
    rotate_left
    ·exact zP
    refine pure_ (i:=6) (N:=some 34) (v:=?_) (a':=?_) #[true,true,true,true,true,true,true,true,true,false,false,false] rfl rfl (zap HT_.out (by kernel_rfl)) (fun _ _ _ h=>h) (Or.inl ⟨by rfl,?_⟩) ?_ ?_
    rotate_left
    ·intro w'
     go_simp
     with_reducible rfl
    rotate_left
    ·exact zP
    refine pure_ (i:=9) (N:=some 37) (v:=?_) (a':=?_) #[true,true,true,true,true,true,true,true,true,true,false,false] rfl rfl (zap HT_.out (by kernel_rfl)) (fun _ _ _ h=>h) (Or.inl ⟨by rfl,?_⟩) ?_ ?_
    rotate_left
    ·intro w'
     go_simp
     with_reducible rfl
    rotate_left
    ·exact zP
    refine pure_ (i:=10) (N:=some 38) (v:=?_) (a':=?_) #[true,true,true,true,true,true,true,true,true,true,true,false] rfl rfl (zap HT_.out (by kernel_rfl)) (fun _ _ _ h=>h) (Or.inl ⟨by rfl,?_⟩) ?_ ?_
    rotate_left
    ·intro w'
     go_simp
     with_reducible rfl
    rotate_left
    ·exact zP
    refine pure_ (i:=11) (N:=some 10) (v:=?_) (a':=?_) #[true,true,true,true,true,true,true,true,true,true,true,true] rfl rfl (zap HT_.out (by kernel_rfl)) (fun _ _ _ h=>h) (Or.inl ⟨by rfl,?_⟩) ?_ ?_
    rotate_left
    ·intro w'
     go_simp
     with_reducible rfl
    rotate_left
    ·exact zP
    refine done_ (zbr HT_.out (by kernel_rfl)) ?_
    try go_wp2
    replace BK325:=Aside0.mk (zaK BK325.out)
    replace BK326:=Aside0.mk (zaK BK326.out)
    replace HB:=Aside0.mk (zag HB.out)
    refine start_ (n:=12) (S:=fun w'=>w'.cell? ⟨gb326,0,none⟩=some (.int .i64 t327)∧w'.cell? ⟨gb326,1,none⟩=some (.int .i64 t328)∧w'.cell? ⟨gb326,2,none⟩=some (.int .i64 t329)∧w'.cell? ⟨gb326,3,none⟩=some (.int .i64 t330)∧w'.cell? ⟨gb326,4,none⟩=some (.int .i64 t331)) (ds:=[]) #[false,false,false,false,false,false,false,false,false,false,false,false] (by kernel_rfl) rfl rfl ⟨zc BK326.out 0,zc BK326.out 1,zc BK326.out 2,zc BK326.out 3,zc BK326.out 4⟩ (fun hHeld=>?_);refine zbi zam.tab6 zam.bits6 (fun HT_ HW_=>?_)
    generalize w30.drew=w31 at BK325 BK326 HB hHeld ⊢
    refine pure_ (i:=0) (N:=some 39) (v:=?_) (a':=?_) #[true,false,false,false,false,false,false,false,false,false,false,false] rfl rfl (zap HT_.out (by kernel_rfl)) (fun _ _ _ h=>h) (Or.inl ⟨by rfl,?_⟩) ?_ ?_
    rotate_left
    ·intro w'
     go_simp
     with_reducible rfl
    rotate_left
    ·exact zP
    refine pure_ (i:=1) (N:=some 40) (v:=?_) (a':=?_) #[true,true,false,false,false,false,false,false,false,false,false,false] rfl rfl (zap HT_.out (by kernel_rfl)) (fun _ _ _ h=>h) (Or.inl ⟨by rfl,?_⟩) ?_ ?_
    rotate_left
    ·intro w'
     go_simp
     with_reducible rfl
    rotate_left
    ·exact zP
    refine pure_ (i:=2) (N:=some 41) (v:=?_) (a':=?_) #[true,true,true,false,false,false,false,false,false,false,false,false] rfl rfl (zap HT_.out (by kernel_rfl)) (fun _ _ _ h=>h) (Or.inl ⟨by rfl,?_⟩) ?_ ?_
    rotate_left
    ·intro w'
     go_simp
     with_reducible rfl
    rotate_left
    ·exact zP
    refine pure_ (i:=3) (N:=some 42) (v:=?_) (a':=?_) #[true,true,true,true,false,false,false,false,false,false,false,false] rfl rfl (zap HT_.out (by kernel_rfl)) (fun _ _ _ h=>h) (Or.inl ⟨by rfl,?_⟩) ?_ ?_
    rotate_left
    ·intro w'
     go_simp
     with_reducible rfl
    rotate_left
    ·exact zP
    refine pure_ (i:=7) (N:=some 46) (v:=?_) (a':=?_) #[true,true,true,true,false,false,false,true,false,false,false,false] rfl rfl (zap HT_.out (by kernel_rfl)) (fun _ _ _ h=>h) (Or.inl ⟨by rfl,?_⟩) ?_ ?_
    rotate_left
    ·intro w'
     go_simp
     with_reducible rfl
    rotate_left
    ·exact zP
    refine take_ (i:=8) (N:=some 47) (v:=?_) (a':=?_) #[true,true,true,true,false,false,false,true,true,false,false,false] rfl rfl (zaL HT_.out HW_.out (by kernel_rfl)) (fun _ _ _ h=>h) (Or.inl ⟨by rfl,?_⟩) hHeld ?_ ?_
    rotate_left
    ·rintro w' ⟨s0,s1,s2,s3,s4⟩
     go_simp
     with_reducible rfl
    rotate_left
    ·exact zP
    refine one_ (i:=4) (N:=some 43) #[true,true,true,true,true,false,false,true,true,false,false,false] rfl rfl (zaR HT_.out (by kernel_rfl)) (by decide) (fun K hK=>?_)
    refine goes_ Try.func27 (by kernel_rfl) rfl #[.int .i64 a3,.int .i64 (-1048576),.int .i64 1048576] (by rfl) rfl rfl (by (try simp only [List.map_toArray,List.map_cons,List.map_nil]);first|done|rfl|kernel_rfl|(simp only [List.length_drop,List.length_take];rfl)) ?_
    with_reducible refine (zaG.calls a3 (-1048576) 1048576 t334 _ A24.out).mono ?_
    rintro e w32 ⟨rfl,hb⟩
    refine ⟨_,rfl,?_⟩
    replace BK325:=Aside0.mk (zaa (zB BK325.out) hb)
    replace BK326:=Aside0.mk (zaa (zB BK326.out) hb)
    replace HB:=Aside0.mk (zad (zL2 HB.out GE325.out GE326.out) hb)
    (try clear hb)
    (try clear hb2)
    (try clear hk)
    (try clear hi)
    refine hK.out _ _ ⟨zc BK326.out 0,zc BK326.out 1,zc BK326.out 2,zc BK326.out 3,zc BK326.out 4⟩ (fun hHeld=>?_)
    clear hK K
    refine norm_ (a':=?_) ?_ ?_
    rotate_left
    ·show Act.put _ (some 43) _=_
     exact zP
    refine pure_ (i:=5) (N:=some 44) (v:=?_) (a':=?_) #[true,true,true,true,true,true,false,true,true,false,false,false] rfl rfl (zap HT_.out (by kernel_rfl)) (fun _ _ _ h=>h) (Or.inl ⟨by rfl,?_⟩) ?_ ?_
    rotate_left
    ·intro w'
     go_simp
     with_reducible rfl
    rotate_left
    ·exact zP
    refine pure_ (i:=6) (N:=some 45) (v:=?_) (a':=?_) #[true,true,true,true,true,true,true,true,true,false,false,false] rfl rfl (zap HT_.out (by kernel_rfl)) (fun _ _ _ h=>h) (Or.inl ⟨by rfl,?_⟩) ?_ ?_
    rotate_left
    ·intro w'
     go_simp
     with_reducible rfl
    rotate_left
    ·exact zP
    refine pure_ (i:=9) (N:=some 48) (v:=?_) (a':=?_) #[true,true,true,true,true,true,true,true,true,true,false,false] rfl rfl (zap HT_.out (by kernel_rfl)) (fun _ _ _ h=>h) (Or.inl ⟨by rfl,?_⟩) ?_ ?_
    rotate_left
    ·intro w'
     go_simp
     with_reducible rfl
    rotate_left
    ·exact zP
    refine pure_ (i:=10) (N:=some 49) (v:=?_) (a':=?_) #[true,true,true,true,true,true,true,true,true,true,true,false] rfl rfl (zap HT_.out (by kernel_rfl)) (fun _ _ _ h=>h) (Or.inl ⟨by rfl,?_⟩) ?_ ?_
    rotate_left
    ·intro w'
     go_simp
     with_reducible rfl
    rotate_left
    ·exact zP
    refine pure_ (i:=11) (N:=some 11) (v:=?_) (a':=?_) #[true,true,true,true,true,true,true,true,true,true,true,true] rfl rfl (zap HT_.out (by kernel_rfl)) (fun _ _ _ h=>h) (Or.inl ⟨by rfl,?_⟩) ?_ ?_
    rotate_left
    ·intro w'
     go_simp
     with_reducible rfl
    rotate_left
    ·exact zP
    refine done_ (zbr HT_.out (by kernel_rfl)) ?_
    have hnb33:=NB325_326.out
    have hnc33:=NB326_325.out
    obtain ⟨hcz34_0,hcz34_1,hcz34_2,hcz34_3,hcz34_4,hcz34_5,hcz34_6,hcz34_7,hcz34_8,hcz34_9,hcz34_10,hcz34_11,hcz34_12,hcz34_13,hcz34_14,hcz34_15⟩:=zD16 BK325.out
    obtain ⟨hfz34_0,hfz34_1,hfz34_2,hfz34_3,hfz34_4,hfz34_5,hfz34_6,hfz34_7,hfz34_8,hfz34_9,hfz34_10,hfz34_11,hfz34_12,hfz34_13,hfz34_14,hfz34_15⟩:=zE16 BK325.out
    obtain ⟨hcz35_0,hcz35_1,hcz35_2,hcz35_3,hcz35_4⟩:=zD5 BK326.out
    obtain ⟨hfz35_0,hfz35_1,hfz35_2,hfz35_3,hfz35_4⟩:=zE5 BK326.out
    go_upto_if 76 with (first|((with_reducible refine zal (f:=67) rfl ?_);refine goesL_ (some 56) rfl rfl Try.func67 (by kernel_rfl) rfl #[.int .i64 (wrap64 (a0_6+t331))] rfl zA ?_;(with_reducible refine (zbn.calls kj5 (wrap64 (a0_6+t331)) t335 t336 _ A25.out).mono ?_);rintro e w36 ⟨rfl,hb⟩;refine ⟨_,rfl,?_⟩;replace BK325:=Aside0.mk (zaa (zB BK325.out) hb);replace BK326:=Aside0.mk (zaa (zB BK326.out) hb);replace HB:=Aside0.mk (zad (zL2 HB.out GE325.out GE326.out) hb);(try clear hb);(try clear hb2);(try clear hk);(try clear hi))|((with_reducible refine zal (f:=68) rfl ?_);refine goesL_ (some 66) rfl rfl Try.func68 (by kernel_rfl) rfl #[.int .i64 (wrap64 ((wrap64 (t336*(wrap64 (16*(wrap64 ((wrap64 ((wrap64 (16*t333))+8)) - t327))))))+(wrap64 (t335*(wrap64 (16*(wrap64 ((wrap64 ((wrap64 (16*t334))+8)) - t328)))))))),.int .i64 65536] rfl zA ?_;(with_reducible refine (zau.calls kj5 (wrap64 ((wrap64 (t336*(wrap64 (16*(wrap64 ((wrap64 ((wrap64 (16*t333))+8)) - t327))))))+(wrap64 (t335*(wrap64 (16*(wrap64 ((wrap64 ((wrap64 (16*t334))+8)) - t328)))))))) 65536 t337 _ A26.out).mono ?_);rintro e w' ⟨rfl,⟨nd,rfl⟩⟩;refine ⟨_,rfl,?_⟩)|((with_reducible refine zal (f:=68) rfl ?_);refine goesL_ (some 74) rfl rfl Try.func68 (by kernel_rfl) rfl #[.int .i64 (wrap64 ((wrap64 (t336*(wrap64 (16*(wrap64 ((wrap64 ((wrap64 (16*t334))+8)) - t328)))))) - (wrap64 (t335*(wrap64 (16*(wrap64 ((wrap64 ((wrap64 (16*t333))+8)) - t327)))))))),.int .i64 65536] rfl zA ?_;(with_reducible refine (zau.calls kj5 (wrap64 ((wrap64 (t336*(wrap64 (16*(wrap64 ((wrap64 ((wrap64 (16*t334))+8)) - t328)))))) - (wrap64 (t335*(wrap64 (16*(wrap64 ((wrap64 ((wrap64 (16*t333))+8)) - t327)))))))) 65536 t338 _ A27.out).mono ?_);rintro e w' ⟨rfl,⟨nd,rfl⟩⟩;refine ⟨_,rfl,?_⟩))
    (try simp only [Act.put,List.setIfInBounds_toArray,List.set_cons_zero,List.set_cons_succ])
    go_cut [15] (fun v15 wc=>∃ (kq:Nat) (x15_27:Int),v15 = .int .i64 x15_27∧Aside0 (zam.j1 kq t337 x15_27 a0_0 a0_1 a0_2 a0_3 a0_4 a0_5 a0_6 a0_7 a0_8 a0_9 a0_10 a0_11 a0_12 a0_13 l0_14 a0_15 t327 t328 t329 t330 t331=some r)∧Aside0 (kq≤kj5)∧Aside0 (wc.heap[gb325]? = some (.cells #[.int .i64 a0_0,.int .i64 a0_1,.int .i64 a0_2,.int .i64 a0_3,.int .i64 a0_4,.int .i64 a0_5,.int .i64 a0_6,.int .i64 a0_7,.int .i64 a0_8,.int .i64 a0_9,.int .i64 a0_10,.int .i64 a0_11,.int .i64 a0_12,.int .i64 a0_13,(.slice A0_14 l0_14.length c0_14),.bool a0_15] 26 (0,0)))∧Aside0 (wc.heap[gb326]? = some (.cells #[.int .i64 t327,.int .i64 t328,.int .i64 t329,.int .i64 t330,.int .i64 t331] 28 (0,0)))∧Aside0 (Below w.heap.size w wc))
    case first=>
     have H:=HC28.out
     clear HC28
     by_cases c37:t338<0
     ·rw [if_pos c37] at H
      have c37b0:decide (t338<0)=true:=decide_eq_true c37
      clear c37
      (first|rw [c37b0]|(simp only [i64_w,i32_w];rw [c37b0])|skip)
      have H':=Aside0.mk H
      clear H
      go_wp2
      go_meet
      case rel=>exact ⟨_,(wrap64 (-t338)),zF,H',⟨by have:=HJ5.out;first|omega|exact Nat.le_refl _⟩,⟨by refine zB ?_;exact BK325.out⟩,⟨by refine zB ?_;exact BK326.out⟩,⟨by repeat (first|(with_reducible first|exact HB.out|apply zai|apply zaf|apply zag|refine zac ?_ GE325.out|refine zac ?_ GE326.out)|exact HB.out)⟩⟩
     ·rw [if_neg c37] at H
      have c37b0:decide (t338<0)=false:=decide_eq_false c37
      clear c37
      (first|rw [c37b0]|(simp only [i64_w,i32_w];rw [c37b0])|skip)
      have H':=Aside0.mk H
      clear H
      go_wp2
      go_meet
      case rel=>exact ⟨_,(t338),zF,H',⟨by have:=HJ5.out;first|omega|exact Nat.le_refl _⟩,⟨by refine zB ?_;exact BK325.out⟩,⟨by refine zB ?_;exact BK326.out⟩,⟨by repeat (first|(with_reducible first|exact HB.out|apply zai|apply zaf|apply zag|refine zac ?_ GE325.out|refine zac ?_ GE326.out)|exact HB.out)⟩⟩
    case rest=>
     clear HC28
     try clear c1
     try clear c2
     try clear p2
     try clear c3
     try clear c6
     try clear p6
     try clear c9
     try clear c14
     try clear c14b0
     try clear c14b1
     try clear c15
     try clear c19
     try clear c22
     try clear c23
     try clear c27
     try clear c33
     try clear c37
     try clear c37b0
     try clear hcz10_0 hcz10_1 hcz10_2 hcz10_3 hcz10_4 hcz12_0 hcz12_1 hcz12_2 hcz12_3 hcz12_4 hcz16_0 hcz16_1 hcz16_10 hcz16_11 hcz16_12 hcz16_13 hcz16_14 hcz16_15 hcz16_2 hcz16_3 hcz16_4 hcz16_5 hcz16_6 hcz16_7 hcz16_8 hcz16_9 hcz18_0 hcz18_1 hcz18_2 hcz18_3 hcz18_4 hcz20_0 hcz20_1 hcz20_10 hcz20_11 hcz20_12 hcz20_13 hcz20_14 hcz20_15 hcz20_2 hcz20_3 hcz20_4 hcz20_5 hcz20_6 hcz20_7 hcz20_8 hcz20_9 hcz34_0 hcz34_1 hcz34_10 hcz34_11 hcz34_12 hcz34_13 hcz34_14 hcz34_15 hcz34_2 hcz34_3 hcz34_4 hcz34_5 hcz34_6 hcz34_7 hcz34_8 hcz34_9 hcz35_0 hcz35_1 hcz35_2 hcz35_3 hcz35_4 hfz10_0 hfz10_1 hfz10_2 hfz10_3 hfz10_4 hfz12_0 hfz12_1 hfz12_2 hfz12_3 hfz12_4 hfz16_0 hfz16_1 hfz16_10 hfz16_11 hfz16_12 hfz16_13 hfz16_14 hfz16_15 hfz16_2 hfz16_3 hfz16_4 hfz16_5 hfz16_6 hfz16_7 hfz16_8 hfz16_9 hfz18_0 hfz18_1 hfz18_2 hfz18_3 hfz18_4 hfz20_0 hfz20_1 hfz20_10 hfz20_11 hfz20_12 hfz20_13 hfz20_14 hfz20_15 hfz20_2 hfz20_3 hfz20_4 hfz20_5 hfz20_6 hfz20_7 hfz20_8 hfz20_9 hfz34_0 hfz34_1 hfz34_10 hfz34_11 hfz34_12 hfz34_13 hfz34_14 hfz34_15 hfz34_2 hfz34_3 hfz34_4 hfz34_5 hfz34_6 hfz34_7 hfz34_8 hfz34_9 hfz35_0 hfz35_1 hfz35_2 hfz35_3 hfz35_4
     try clear p2
     obtain ⟨kq,x15_27,rfl,HA,HJ27,BK325,BK326,HB⟩:=hcut
     cases kq with
     | zero=>exact absurd HA.out (by simp [zam.j1])
     | succ kj27=>
      have H:=HA.out
      clear HA
      simp only [zam.j1] at H
      replace H:=Option.bind_eq_some_iff.mp H
      obtain ⟨t339,A380,H⟩:=H
      replace H:((zat.f kj27 t337 t339).bind fun t340=>((zau.f kj27 (wrap64 (65535*t340)) (wrap64 (8*t329))).bind fun t341=>(if t341≤a0_1 then (some t330) else (if t341≥65535 then (some 0) else ((zau.f kj27 (wrap64 (t330*(wrap64 (65535 - t341)))) (wrap64 (65535 - a0_1))).bind fun t342=>(some t342))))))=some r:=H
      have A38:=Aside0.mk A380
      clear A380
      replace H:=Option.bind_eq_some_iff.mp H
      obtain ⟨t340,A390,H⟩:=H
      replace H:((zau.f kj27 (wrap64 (65535*t340)) (wrap64 (8*t329))).bind fun t341=>(if t341≤a0_1 then (some t330) else (if t341≥65535 then (some 0) else ((zau.f kj27 (wrap64 (t330*(wrap64 (65535 - t341)))) (wrap64 (65535 - a0_1))).bind fun t342=>(some t342)))))=some r:=H
      have A39:=Aside0.mk A390
      clear A390
      replace H:=Option.bind_eq_some_iff.mp H
      obtain ⟨t341,A400,H⟩:=H
      replace H:(if t341≤a0_1 then (some t330) else (if t341≥65535 then (some 0) else ((zau.f kj27 (wrap64 (t330*(wrap64 (65535 - t341)))) (wrap64 (65535 - a0_1))).bind fun t342=>(some t342))))=some r:=H
      have A40:=Aside0.mk A400
      clear A400
      by_cases c41:t341≤a0_1
      ·rw [if_pos c41] at H
       have c41b0:decide (t341≤a0_1)=true:=decide_eq_true c41
       clear c41
       obtain rfl:=Option.some.inj H
       have hnb42:=NB325_326.out
       have hnc42:=NB326_325.out
       obtain ⟨hcz43_0,hcz43_1,hcz43_2,hcz43_3,hcz43_4,hcz43_5,hcz43_6,hcz43_7,hcz43_8,hcz43_9,hcz43_10,hcz43_11,hcz43_12,hcz43_13,hcz43_14,hcz43_15⟩:=zD16 BK325.out
       obtain ⟨hfz43_0,hfz43_1,hfz43_2,hfz43_3,hfz43_4,hfz43_5,hfz43_6,hfz43_7,hfz43_8,hfz43_9,hfz43_10,hfz43_11,hfz43_12,hfz43_13,hfz43_14,hfz43_15⟩:=zE16 BK325.out
       try go_wp2_with (first|((with_reducible refine zal (f:=68) rfl ?_);refine goesL_ (some 83) rfl rfl Try.func68 (by kernel_rfl) rfl #[.int .i64 (wrap64 (65535*x15_27)),.int .i64 a0_2] rfl zA ?_;(with_reducible refine (zau.calls kj27 (wrap64 (65535*x15_27)) a0_2 t339 _ A38.out).mono ?_);rintro e w' ⟨rfl,⟨nd,rfl⟩⟩;refine ⟨_,rfl,?_⟩))
       (try (rw [drewN_self wc];generalize hq_:World.drewN wc _=wc;have n0_:Aside0 (wc.heap[gb325]? = some (.cells #[.int .i64 a0_0,.int .i64 a0_1,.int .i64 a0_2,.int .i64 a0_3,.int .i64 a0_4,.int .i64 a0_5,.int .i64 a0_6,.int .i64 a0_7,.int .i64 a0_8,.int .i64 a0_9,.int .i64 a0_10,.int .i64 a0_11,.int .i64 a0_12,.int .i64 a0_13,.slice A0_14 l0_14.length c0_14,.bool a0_15] 26 (0,0))):=⟨by rw [← hq_];exact (zB BK325.out)⟩;have n1_:Aside0 (wc.heap[gb326]? = some (.cells #[.int .i64 t327,.int .i64 t328,.int .i64 t329,.int .i64 t330,.int .i64 t331] 28 (0,0))):=⟨by rw [← hq_];exact (zB BK326.out)⟩;have n2_:Aside0 (Below w.heap.size w wc):=⟨by rw [← hq_];exact (zL2 HB.out GE325.out GE326.out)⟩;clear BK325 BK326 HB hq_;have BK325:=n0_;have BK326:=n1_;have HB:=n2_;clear n0_ n1_ n2_))
       replace BK325:=Aside0.mk (zaK BK325.out)
       replace BK326:=Aside0.mk (zaK BK326.out)
       replace HB:=Aside0.mk (zag HB.out)
       refine start_ (n:=9) (S:=fun w'=>w'.cell? ⟨gb326,0,none⟩=some (.int .i64 t327)∧w'.cell? ⟨gb326,1,none⟩=some (.int .i64 t328)∧w'.cell? ⟨gb326,2,none⟩=some (.int .i64 t329)∧w'.cell? ⟨gb326,3,none⟩=some (.int .i64 t330)∧w'.cell? ⟨gb326,4,none⟩=some (.int .i64 t331)) (ds:=[]) #[false,false,false,false,false,false,false,false,false] (by kernel_rfl) rfl rfl ⟨zc BK326.out 0,zc BK326.out 1,zc BK326.out 2,zc BK326.out 3,zc BK326.out 4⟩ (fun hHeld=>?_);refine zbi zam.tab12 zam.bits12 (fun HT_ HW_=>?_)
       generalize wc.drew=w44 at BK325 BK326 HB hHeld ⊢
       refine pure_ (i:=0) (N:=some 84) (v:=?_) (a':=?_) #[true,false,false,false,false,false,false,false,false] rfl rfl (zap HT_.out (by kernel_rfl)) (fun _ _ _ h=>h) (Or.inl ⟨by rfl,?_⟩) ?_ ?_
       rotate_left
       ·intro w'
        go_simp
        with_reducible rfl
       rotate_left
       ·exact zP
       refine pure_ (i:=1) (N:=some 85) (v:=?_) (a':=?_) #[true,true,false,false,false,false,false,false,false] rfl rfl (zap HT_.out (by kernel_rfl)) (fun _ _ _ h=>h) (Or.inl ⟨by rfl,?_⟩) ?_ ?_
       rotate_left
       ·intro w'
        go_simp
        with_reducible rfl
       rotate_left
       ·exact zP
       refine pure_ (i:=4) (N:=some 88) (v:=?_) (a':=?_) #[true,true,false,false,true,false,false,false,false] rfl rfl (zap HT_.out (by kernel_rfl)) (fun _ _ _ h=>h) (Or.inl ⟨by rfl,?_⟩) ?_ ?_
       rotate_left
       ·intro w'
        go_simp
        with_reducible rfl
       rotate_left
       ·exact zP
       refine take_ (i:=5) (N:=some 89) (v:=?_) (a':=?_) #[true,true,false,false,true,true,false,false,false] rfl rfl (zaL HT_.out HW_.out (by kernel_rfl)) (fun _ _ _ h=>h) (Or.inl ⟨by rfl,?_⟩) hHeld ?_ ?_
       rotate_left
       ·rintro w' ⟨s0,s1,s2,s3,s4⟩
        go_simp
        with_reducible rfl
       rotate_left
       ·exact zP
       refine pure_ (i:=6) (N:=some 90) (v:=?_) (a':=?_) #[true,true,false,false,true,true,true,false,false] rfl rfl (zap HT_.out (by kernel_rfl)) (fun _ _ _ h=>h) (Or.inl ⟨by rfl,?_⟩) ?_ ?_
       rotate_left
       ·intro w'
        go_simp
        with_reducible rfl
       rotate_left
       ·exact zP
       refine one_ (i:=2) (N:=some 86) #[true,true,true,false,true,true,true,false,false] rfl rfl (zaR HT_.out (by kernel_rfl)) (by decide) (fun K hK=>?_)
       refine goes_ Try.func69 (by kernel_rfl) rfl #[.int .i64 t337,.int .i64 t339] (by rfl) rfl rfl zA ?_
       with_reducible refine (zat.calls kj27 t337 t339 t340 _ A39.out).mono ?_
       rintro e w' ⟨rfl,⟨nd,rfl⟩⟩
       refine ⟨_,rfl,?_⟩
       refine hK.out _ _ ⟨zc BK326.out 0,zc BK326.out 1,zc BK326.out 2,zc BK326.out 3,zc BK326.out 4⟩ (fun hHeld=>?_)
       clear hK K
       refine norm_ (a':=?_) ?_ ?_
       rotate_left
       ·show Act.put _ (some 86) _=_
        exact zP
       refine pure_ (i:=3) (N:=some 87) (v:=?_) (a':=?_) #[true,true,true,true,true,true,true,false,false] rfl rfl (zap HT_.out (by kernel_rfl)) (fun _ _ _ h=>h) (Or.inl ⟨by rfl,?_⟩) ?_ ?_
       rotate_left
       ·intro w'
        go_simp
        with_reducible rfl
       rotate_left
       ·exact zP
       refine one_ (i:=7) (N:=some 91) #[true,true,true,true,true,true,true,true,false] rfl rfl (zaR HT_.out (by kernel_rfl)) (by decide) (fun K hK=>?_)
       refine goes_ Try.func68 (by kernel_rfl) rfl #[.int .i64 (wrap64 (65535*t340)),.int .i64 (wrap64 (8*t329))] (by rfl) rfl rfl zA ?_
       with_reducible refine (zau.calls kj27 (wrap64 (65535*t340)) (wrap64 (8*t329)) t341 _ A40.out).mono ?_
       rintro e w' ⟨rfl,⟨nd,rfl⟩⟩
       refine ⟨_,rfl,?_⟩
       refine hK.out _ _ ⟨zc BK326.out 0,zc BK326.out 1,zc BK326.out 2,zc BK326.out 3,zc BK326.out 4⟩ (fun hHeld=>?_)
       clear hK K
       refine norm_ (a':=?_) ?_ ?_
       rotate_left
       ·show Act.put _ (some 91) _=_
        exact zP
       refine pure_ (i:=8) (N:=some 17) (v:=?_) (a':=?_) #[true,true,true,true,true,true,true,true,true] rfl rfl (zap HT_.out (by kernel_rfl)) (fun _ _ _ h=>h) (Or.inl ⟨by rfl,?_⟩) ?_ ?_
       rotate_left
       ·intro w'
        go_simp
        with_reducible rfl
       rotate_left
       ·exact zP
       refine done_ (zbr HT_.out (by kernel_rfl)) ?_
       obtain ⟨hcz45_0,hcz45_1,hcz45_2,hcz45_3,hcz45_4,hcz45_5,hcz45_6,hcz45_7,hcz45_8,hcz45_9,hcz45_10,hcz45_11,hcz45_12,hcz45_13,hcz45_14,hcz45_15⟩:=zD16 BK325.out
       obtain ⟨hfz45_0,hfz45_1,hfz45_2,hfz45_3,hfz45_4,hfz45_5,hfz45_6,hfz45_7,hfz45_8,hfz45_9,hfz45_10,hfz45_11,hfz45_12,hfz45_13,hfz45_14,hfz45_15⟩:=zE16 BK325.out
       obtain ⟨hcz46_0,hcz46_1,hcz46_2,hcz46_3,hcz46_4⟩:=zD5 BK326.out
       obtain ⟨hfz46_0,hfz46_1,hfz46_2,hfz46_3,hfz46_4⟩:=zE5 BK326.out
       try go_wp2
       go_ret
       exact ⟨by first|rfl|(simp [errW_none,errW_some] <;> rfl)|(simp [*,errW_none,errW_some] <;> rfl),by repeat (first|(with_reducible first|exact HB.out|apply zai|apply zaf|apply zag|refine zac ?_ GE325.out|refine zac ?_ GE326.out)|exact HB.out)⟩
      ·rw [if_neg c41] at H
       have c41b0:decide (t341≤a0_1)=false:=decide_eq_false c41
       clear c41
       by_cases c47:t341≥65535
       ·rw [if_pos c47] at H
        have c47b0:decide (65535≤t341)=true:=decide_eq_true c47
        clear c47
        obtain rfl:=Option.some.inj H
        have hnb48:=NB325_326.out
        have hnc48:=NB326_325.out
        obtain ⟨hcz49_0,hcz49_1,hcz49_2,hcz49_3,hcz49_4,hcz49_5,hcz49_6,hcz49_7,hcz49_8,hcz49_9,hcz49_10,hcz49_11,hcz49_12,hcz49_13,hcz49_14,hcz49_15⟩:=zD16 BK325.out
        obtain ⟨hfz49_0,hfz49_1,hfz49_2,hfz49_3,hfz49_4,hfz49_5,hfz49_6,hfz49_7,hfz49_8,hfz49_9,hfz49_10,hfz49_11,hfz49_12,hfz49_13,hfz49_14,hfz49_15⟩:=zE16 BK325.out
        try go_wp2_with (first|((with_reducible refine zal (f:=68) rfl ?_);refine goesL_ (some 83) rfl rfl Try.func68 (by kernel_rfl) rfl #[.int .i64 (wrap64 (65535*x15_27)),.int .i64 a0_2] rfl zA ?_;(with_reducible refine (zau.calls kj27 (wrap64 (65535*x15_27)) a0_2 t339 _ A38.out).mono ?_);rintro e w' ⟨rfl,⟨nd,rfl⟩⟩;refine ⟨_,rfl,?_⟩))
        (try (rw [drewN_self wc];generalize hq_:World.drewN wc _=wc;have n0_:Aside0 (wc.heap[gb325]? = some (.cells #[.int .i64 a0_0,.int .i64 a0_1,.int .i64 a0_2,.int .i64 a0_3,.int .i64 a0_4,.int .i64 a0_5,.int .i64 a0_6,.int .i64 a0_7,.int .i64 a0_8,.int .i64 a0_9,.int .i64 a0_10,.int .i64 a0_11,.int .i64 a0_12,.int .i64 a0_13,.slice A0_14 l0_14.length c0_14,.bool a0_15] 26 (0,0))):=⟨by rw [← hq_];exact (zB BK325.out)⟩;have n1_:Aside0 (wc.heap[gb326]? = some (.cells #[.int .i64 t327,.int .i64 t328,.int .i64 t329,.int .i64 t330,.int .i64 t331] 28 (0,0))):=⟨by rw [← hq_];exact (zB BK326.out)⟩;have n2_:Aside0 (Below w.heap.size w wc):=⟨by rw [← hq_];exact (zL2 HB.out GE325.out GE326.out)⟩;clear BK325 BK326 HB hq_;have BK325:=n0_;have BK326:=n1_;have HB:=n2_;clear n0_ n1_ n2_))
        replace BK325:=Aside0.mk (zaK BK325.out)
        replace BK326:=Aside0.mk (zaK BK326.out)
        replace HB:=Aside0.mk (zag HB.out)
        refine start_ (n:=9) (S:=fun w'=>w'.cell? ⟨gb326,0,none⟩=some (.int .i64 t327)∧w'.cell? ⟨gb326,1,none⟩=some (.int .i64 t328)∧w'.cell? ⟨gb326,2,none⟩=some (.int .i64 t329)∧w'.cell? ⟨gb326,3,none⟩=some (.int .i64 t330)∧w'.cell? ⟨gb326,4,none⟩=some (.int .i64 t331)) (ds:=[]) #[false,false,false,false,false,false,false,false,false] (by kernel_rfl) rfl rfl ⟨zc BK326.out 0,zc BK326.out 1,zc BK326.out 2,zc BK326.out 3,zc BK326.out 4⟩ (fun hHeld=>?_);refine zbi zam.tab12 zam.bits12 (fun HT_ HW_=>?_)
        generalize wc.drew=w50 at BK325 BK326 HB hHeld ⊢
        refine pure_ (i:=0) (N:=some 84) (v:=?_) (a':=?_) #[true,false,false,false,false,false,false,false,false] rfl rfl (zap HT_.out (by kernel_rfl)) (fun _ _ _ h=>h) (Or.inl ⟨by rfl,?_⟩) ?_ ?_
        rotate_left
        ·intro w'
         go_simp
         with_reducible rfl
        rotate_left
        ·exact zP
        refine pure_ (i:=1) (N:=some 85) (v:=?_) (a':=?_) #[true,true,false,false,false,false,false,false,false] rfl rfl (zap HT_.out (by kernel_rfl)) (fun _ _ _ h=>h) (Or.inl ⟨by rfl,?_⟩) ?_ ?_
        rotate_left
        ·intro w'
         go_simp
         with_reducible rfl
        rotate_left
        ·exact zP
        refine pure_ (i:=4) (N:=some 88) (v:=?_) (a':=?_) #[true,true,false,false,true,false,false,false,false] rfl rfl (zap HT_.out (by kernel_rfl)) (fun _ _ _ h=>h) (Or.inl ⟨by rfl,?_⟩) ?_ ?_
        rotate_left
        ·intro w'
         go_simp
         with_reducible rfl
        rotate_left
        ·exact zP
        refine take_ (i:=5) (N:=some 89) (v:=?_) (a':=?_) #[true,true,false,false,true,true,false,false,false] rfl rfl (zaL HT_.out HW_.out (by kernel_rfl)) (fun _ _ _ h=>h) (Or.inl ⟨by rfl,?_⟩) hHeld ?_ ?_
        rotate_left
        ·rintro w' ⟨s0,s1,s2,s3,s4⟩
         go_simp
         with_reducible rfl
        rotate_left
        ·exact zP
        refine pure_ (i:=6) (N:=some 90) (v:=?_) (a':=?_) #[true,true,false,false,true,true,true,false,false] rfl rfl (zap HT_.out (by kernel_rfl)) (fun _ _ _ h=>h) (Or.inl ⟨by rfl,?_⟩) ?_ ?_
        rotate_left
        ·intro w'
         go_simp
         with_reducible rfl
        rotate_left
        ·exact zP
        refine one_ (i:=2) (N:=some 86) #[true,true,true,false,true,true,true,false,false] rfl rfl (zaR HT_.out (by kernel_rfl)) (by decide) (fun K hK=>?_)
        refine goes_ Try.func69 (by kernel_rfl) rfl #[.int .i64 t337,.int .i64 t339] (by rfl) rfl rfl zA ?_
        with_reducible refine (zat.calls kj27 t337 t339 t340 _ A39.out).mono ?_
        rintro e w' ⟨rfl,⟨nd,rfl⟩⟩
        refine ⟨_,rfl,?_⟩
        refine hK.out _ _ ⟨zc BK326.out 0,zc BK326.out 1,zc BK326.out 2,zc BK326.out 3,zc BK326.out 4⟩ (fun hHeld=>?_)
        clear hK K
        refine norm_ (a':=?_) ?_ ?_
        rotate_left
        ·show Act.put _ (some 86) _=_
         exact zP
        refine pure_ (i:=3) (N:=some 87) (v:=?_) (a':=?_) #[true,true,true,true,true,true,true,false,false] rfl rfl (zap HT_.out (by kernel_rfl)) (fun _ _ _ h=>h) (Or.inl ⟨by rfl,?_⟩) ?_ ?_
        rotate_left
        ·intro w'
         go_simp
         with_reducible rfl
        rotate_left
        ·exact zP
        refine one_ (i:=7) (N:=some 91) #[true,true,true,true,true,true,true,true,false] rfl rfl (zaR HT_.out (by kernel_rfl)) (by decide) (fun K hK=>?_)
        refine goes_ Try.func68 (by kernel_rfl) rfl #[.int .i64 (wrap64 (65535*t340)),.int .i64 (wrap64 (8*t329))] (by rfl) rfl rfl zA ?_
        with_reducible refine (zau.calls kj27 (wrap64 (65535*t340)) (wrap64 (8*t329)) t341 _ A40.out).mono ?_
        rintro e w' ⟨rfl,⟨nd,rfl⟩⟩
        refine ⟨_,rfl,?_⟩
        refine hK.out _ _ ⟨zc BK326.out 0,zc BK326.out 1,zc BK326.out 2,zc BK326.out 3,zc BK326.out 4⟩ (fun hHeld=>?_)
        clear hK K
        refine norm_ (a':=?_) ?_ ?_
        rotate_left
        ·show Act.put _ (some 91) _=_
         exact zP
        refine pure_ (i:=8) (N:=some 17) (v:=?_) (a':=?_) #[true,true,true,true,true,true,true,true,true] rfl rfl (zap HT_.out (by kernel_rfl)) (fun _ _ _ h=>h) (Or.inl ⟨by rfl,?_⟩) ?_ ?_
        rotate_left
        ·intro w'
         go_simp
         with_reducible rfl
        rotate_left
        ·exact zP
        refine done_ (zbr HT_.out (by kernel_rfl)) ?_
        obtain ⟨hcz51_0,hcz51_1,hcz51_2,hcz51_3,hcz51_4,hcz51_5,hcz51_6,hcz51_7,hcz51_8,hcz51_9,hcz51_10,hcz51_11,hcz51_12,hcz51_13,hcz51_14,hcz51_15⟩:=zD16 BK325.out
        obtain ⟨hfz51_0,hfz51_1,hfz51_2,hfz51_3,hfz51_4,hfz51_5,hfz51_6,hfz51_7,hfz51_8,hfz51_9,hfz51_10,hfz51_11,hfz51_12,hfz51_13,hfz51_14,hfz51_15⟩:=zE16 BK325.out
        try go_wp2
        go_ret
        exact ⟨by first|rfl|(simp [errW_none,errW_some] <;> rfl)|(simp [*,errW_none,errW_some] <;> rfl),by repeat (first|(with_reducible first|exact HB.out|apply zai|apply zaf|apply zag|refine zac ?_ GE325.out|refine zac ?_ GE326.out)|exact HB.out)⟩
       ·rw [if_neg c47] at H
        have c47b0:decide (65535≤t341)=false:=decide_eq_false c47
        clear c47
        replace H:=Option.bind_eq_some_iff.mp H
        obtain ⟨t342,A520,H⟩:=H
        replace H:(some t342)=some r:=H
        have A52:=Aside0.mk A520
        clear A520
        obtain rfl:=Option.some.inj H
        have hnb53:=NB325_326.out
        have hnc53:=NB326_325.out
        obtain ⟨hcz54_0,hcz54_1,hcz54_2,hcz54_3,hcz54_4,hcz54_5,hcz54_6,hcz54_7,hcz54_8,hcz54_9,hcz54_10,hcz54_11,hcz54_12,hcz54_13,hcz54_14,hcz54_15⟩:=zD16 BK325.out
        obtain ⟨hfz54_0,hfz54_1,hfz54_2,hfz54_3,hfz54_4,hfz54_5,hfz54_6,hfz54_7,hfz54_8,hfz54_9,hfz54_10,hfz54_11,hfz54_12,hfz54_13,hfz54_14,hfz54_15⟩:=zE16 BK325.out
        try go_wp2_with (first|((with_reducible refine zal (f:=68) rfl ?_);refine goesL_ (some 83) rfl rfl Try.func68 (by kernel_rfl) rfl #[.int .i64 (wrap64 (65535*x15_27)),.int .i64 a0_2] rfl zA ?_;(with_reducible refine (zau.calls kj27 (wrap64 (65535*x15_27)) a0_2 t339 _ A38.out).mono ?_);rintro e w' ⟨rfl,⟨nd,rfl⟩⟩;refine ⟨_,rfl,?_⟩))
        (try (rw [drewN_self wc];generalize hq_:World.drewN wc _=wc;have n0_:Aside0 (wc.heap[gb325]? = some (.cells #[.int .i64 a0_0,.int .i64 a0_1,.int .i64 a0_2,.int .i64 a0_3,.int .i64 a0_4,.int .i64 a0_5,.int .i64 a0_6,.int .i64 a0_7,.int .i64 a0_8,.int .i64 a0_9,.int .i64 a0_10,.int .i64 a0_11,.int .i64 a0_12,.int .i64 a0_13,.slice A0_14 l0_14.length c0_14,.bool a0_15] 26 (0,0))):=⟨by rw [← hq_];exact (zB BK325.out)⟩;have n1_:Aside0 (wc.heap[gb326]? = some (.cells #[.int .i64 t327,.int .i64 t328,.int .i64 t329,.int .i64 t330,.int .i64 t331] 28 (0,0))):=⟨by rw [← hq_];exact (zB BK326.out)⟩;have n2_:Aside0 (Below w.heap.size w wc):=⟨by rw [← hq_];exact (zL2 HB.out GE325.out GE326.out)⟩;clear BK325 BK326 HB hq_;have BK325:=n0_;have BK326:=n1_;have HB:=n2_;clear n0_ n1_ n2_))
        replace BK325:=Aside0.mk (zaK BK325.out)
        replace BK326:=Aside0.mk (zaK BK326.out)
        replace HB:=Aside0.mk (zag HB.out)
        refine start_ (n:=9) (S:=fun w'=>w'.cell? ⟨gb326,0,none⟩=some (.int .i64 t327)∧w'.cell? ⟨gb326,1,none⟩=some (.int .i64 t328)∧w'.cell? ⟨gb326,2,none⟩=some (.int .i64 t329)∧w'.cell? ⟨gb326,3,none⟩=some (.int .i64 t330)∧w'.cell? ⟨gb326,4,none⟩=some (.int .i64 t331)) (ds:=[]) #[false,false,false,false,false,false,false,false,false] (by kernel_rfl) rfl rfl ⟨zc BK326.out 0,zc BK326.out 1,zc BK326.out 2,zc BK326.out 3,zc BK326.out 4⟩ (fun hHeld=>?_);refine zbi zam.tab12 zam.bits12 (fun HT_ HW_=>?_)
        generalize wc.drew=w55 at BK325 BK326 HB hHeld ⊢
        refine pure_ (i:=0) (N:=some 84) (v:=?_) (a':=?_) #[true,false,false,false,false,false,false,false,false] rfl rfl (zap HT_.out (by kernel_rfl)) (fun _ _ _ h=>h) (Or.inl ⟨by rfl,?_⟩) ?_ ?_
        rotate_left
        ·intro w'
         go_simp
         with_reducible rfl
        rotate_left
        ·exact zP
        refine pure_ (i:=1) (N:=some 85) (v:=?_) (a':=?_) #[true,true,false,false,false,false,false,false,false] rfl rfl (zap HT_.out (by kernel_rfl)) (fun _ _ _ h=>h) (Or.inl ⟨by rfl,?_⟩) ?_ ?_
        rotate_left
        ·intro w'
         go_simp
         with_reducible rfl
        rotate_left
        ·exact zP
        refine pure_ (i:=4) (N:=some 88) (v:=?_) (a':=?_) #[true,true,false,false,true,false,false,false,false] rfl rfl (zap HT_.out (by kernel_rfl)) (fun _ _ _ h=>h) (Or.inl ⟨by rfl,?_⟩) ?_ ?_
        rotate_left
        ·intro w'
         go_simp
         with_reducible rfl
        rotate_left
        ·exact zP
        refine take_ (i:=5) (N:=some 89) (v:=?_) (a':=?_) #[true,true,false,false,true,true,false,false,false] rfl rfl (zaL HT_.out HW_.out (by kernel_rfl)) (fun _ _ _ h=>h) (Or.inl ⟨by rfl,?_⟩) hHeld ?_ ?_
        rotate_left
        ·rintro w' ⟨s0,s1,s2,s3,s4⟩
         go_simp
         with_reducible rfl
        rotate_left
        ·exact zP
        refine pure_ (i:=6) (N:=some 90) (v:=?_) (a':=?_) #[true,true,false,false,true,true,true,false,false] rfl rfl (zap HT_.out (by kernel_rfl)) (fun _ _ _ h=>h) (Or.inl ⟨by rfl,?_⟩) ?_ ?_
        rotate_left
        ·intro w'
         go_simp
         with_reducible rfl
        rotate_left
        ·exact zP
        refine one_ (i:=2) (N:=some 86) #[true,true,true,false,true,true,true,false,false] rfl rfl (zaR HT_.out (by kernel_rfl)) (by decide) (fun K hK=>?_)
        refine goes_ Try.func69 (by kernel_rfl) rfl #[.int .i64 t337,.int .i64 t339] (by rfl) rfl rfl zA ?_
        with_reducible refine (zat.calls kj27 t337 t339 t340 _ A39.out).mono ?_
        rintro e w' ⟨rfl,⟨nd,rfl⟩⟩
        refine ⟨_,rfl,?_⟩
        refine hK.out _ _ ⟨zc BK326.out 0,zc BK326.out 1,zc BK326.out 2,zc BK326.out 3,zc BK326.out 4⟩ (fun hHeld=>?_)
        clear hK K
        refine norm_ (a':=?_) ?_ ?_
        rotate_left
        ·show Act.put _ (some 86) _=_
         exact zP
        refine pure_ (i:=3) (N:=some 87) (v:=?_) (a':=?_) #[true,true,true,true,true,true,true,false,false] rfl rfl (zap HT_.out (by kernel_rfl)) (fun _ _ _ h=>h) (Or.inl ⟨by rfl,?_⟩) ?_ ?_
        rotate_left
        ·intro w'
         go_simp
         with_reducible rfl
        rotate_left
        ·exact zP
        refine one_ (i:=7) (N:=some 91) #[true,true,true,true,true,true,true,true,false] rfl rfl (zaR HT_.out (by kernel_rfl)) (by decide) (fun K hK=>?_)
        refine goes_ Try.func68 (by kernel_rfl) rfl #[.int .i64 (wrap64 (65535*t340)),.int .i64 (wrap64 (8*t329))] (by rfl) rfl rfl zA ?_
        with_reducible refine (zau.calls kj27 (wrap64 (65535*t340)) (wrap64 (8*t329)) t341 _ A40.out).mono ?_
        rintro e w' ⟨rfl,⟨nd,rfl⟩⟩
        refine ⟨_,rfl,?_⟩
        refine hK.out _ _ ⟨zc BK326.out 0,zc BK326.out 1,zc BK326.out 2,zc BK326.out 3,zc BK326.out 4⟩ (fun hHeld=>?_)
        clear hK K
        refine norm_ (a':=?_) ?_ ?_
        rotate_left
        ·show Act.put _ (some 91) _=_
         exact zP
        refine pure_ (i:=8) (N:=some 17) (v:=?_) (a':=?_) #[true,true,true,true,true,true,true,true,true] rfl rfl (zap HT_.out (by kernel_rfl)) (fun _ _ _ h=>h) (Or.inl ⟨by rfl,?_⟩) ?_ ?_
        rotate_left
        ·intro w'
         go_simp
         with_reducible rfl
        rotate_left
        ·exact zP
        refine done_ (zbr HT_.out (by kernel_rfl)) ?_
        obtain ⟨hcz56_0,hcz56_1,hcz56_2,hcz56_3,hcz56_4,hcz56_5,hcz56_6,hcz56_7,hcz56_8,hcz56_9,hcz56_10,hcz56_11,hcz56_12,hcz56_13,hcz56_14,hcz56_15⟩:=zD16 BK325.out
        obtain ⟨hfz56_0,hfz56_1,hfz56_2,hfz56_3,hfz56_4,hfz56_5,hfz56_6,hfz56_7,hfz56_8,hfz56_9,hfz56_10,hfz56_11,hfz56_12,hfz56_13,hfz56_14,hfz56_15⟩:=zE16 BK325.out
        obtain ⟨hcz57_0,hcz57_1,hcz57_2,hcz57_3,hcz57_4⟩:=zD5 BK326.out
        obtain ⟨hfz57_0,hfz57_1,hfz57_2,hfz57_3,hfz57_4⟩:=zE5 BK326.out
        try go_wp2_with (first|((with_reducible refine zal (f:=68) rfl ?_);refine goesL_ (some 108) rfl rfl Try.func68 (by kernel_rfl) rfl #[.int .i64 (wrap64 (t330*(wrap64 (65535 - t341)))),.int .i64 (wrap64 (65535 - a0_1))] rfl zA ?_;(with_reducible refine (zau.calls kj27 (wrap64 (t330*(wrap64 (65535 - t341)))) (wrap64 (65535 - a0_1)) t342 _ A52.out).mono ?_);rintro e w' ⟨rfl,⟨nd,rfl⟩⟩;refine ⟨_,rfl,?_⟩))
        go_ret
        exact ⟨by first|rfl|(simp [errW_none,errW_some] <;> rfl)|(simp [*,errW_none,errW_some] <;> rfl),by repeat (first|(with_reducible first|exact HB.out|apply zai|apply zaf|apply zag|refine zac ?_ GE325.out|refine zac ?_ GE326.out)|exact HB.out)⟩
end Go.Proofs.Ytlilncnoohfcdaa.Da
