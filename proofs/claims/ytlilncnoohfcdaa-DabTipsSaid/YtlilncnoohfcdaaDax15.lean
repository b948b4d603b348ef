
import Derived.Test.YtlilncnoohfcdaaDax0
import Derived.Test.YtlilncnoohfcdaaDax14
namespace Go.Proofs.Ytlilncnoohfcdaa.Da
open Go.RowKit Go.Proofs.YtlilncnoohfcdaaW.PrintWords Go.Proofs.YtlilncnoohfcdaaW.PrintLast Go.Proofs.YtlilncnoohfcdaaW.PrintMore
attribute [local go_sem] max2_int min2_int zbo zbp zbc zbd zbj zbk   
set_option linter.unusedVariables false
set_option linter.unusedSimpArgs false
/-! ### imageeditorref01_Turn: function 67 -/
def zbn.f (k:Nat) (a0:Int):Option (Int×Int):=if (Int.tmod a0 65536)<0 then ((zaV.f k (wrap64 ((Int.tmod a0 65536)+65536))).bind fun t310=>((zaV.f k (Int.tmod (wrap64 ((wrap64 ((Int.tmod a0 65536)+65536))+16384)) 65536)).bind fun t311=>(some (t310,t311)))) else ((zaV.f k (Int.tmod a0 65536)).bind fun t312=>((zaV.f k (Int.tmod (wrap64 ((Int.tmod a0 65536)+16384)) 65536)).bind fun t313=>(some (t312,t313))))
set_option maxHeartbeats 8000000 in
set_option maxRecDepth 100000 in
theorem zbn.calls (k:Nat) (a0:Int) (r1:Int) (r2:Int) (w:World) (h:zbn.f k a0=some (r1,r2)) :
 Calls Try.prog 67 #[.int .i64 a0] w fun e w'=>e = .returned (.tuple #[.int .i64 r1,.int .i64 r2])∧Below w.heap.size w w':=by
 have HB:=Aside0.mk (Below.refl w.heap.size w)
 have H:(if (Int.tmod a0 65536)<0 then ((zaV.f k (wrap64 ((Int.tmod a0 65536)+65536))).bind fun t310=>((zaV.f k (Int.tmod (wrap64 ((wrap64 ((Int.tmod a0 65536)+65536))+16384)) 65536)).bind fun t311=>(some (t310,t311)))) else ((zaV.f k (Int.tmod a0 65536)).bind fun t312=>((zaV.f k (Int.tmod (wrap64 ((Int.tmod a0 65536)+16384)) 65536)).bind fun t313=>(some (t312,t313)))))=some (r1,r2):=h
 clear h
 by_cases c2:(Int.tmod a0 65536)<0
 ·rw [if_pos c2] at H
  have c2b0:decide ((Int.tmod a0 65536)<0)=true:=decide_eq_true c2
  clear c2
  replace H:=Option.bind_eq_some_iff.mp H
  obtain ⟨t310,A30,H⟩:=H
  replace H:((zaV.f k (Int.tmod (wrap64 ((wrap64 ((Int.tmod a0 65536)+65536))+16384)) 65536)).bind fun t311=>(some (t310,t311)))=some (r1,r2):=H
  have A3:=Aside0.mk A30
  clear A30
  replace H:=Option.bind_eq_some_iff.mp H
  obtain ⟨t311,A40,H⟩:=H
  replace H:(some (t310,t311))=some (r1,r2):=H
  have A4:=Aside0.mk A40
  clear A40
  simp only [Option.some.injEq,Prod.mk.injEq] at H
  obtain ⟨rfl,rfl⟩:=H
  go_enter Try.func67,Try.ntmps67
  go_wp2_with (first|((with_reducible refine zal (f:=112) rfl ?_);refine goesL_ (some 12) rfl rfl Try.func112 (by kernel_rfl) rfl #[.int .i64 (wrap64 ((Int.tmod a0 65536)+65536))] rfl zA ?_;(with_reducible refine (zaV.calls k (wrap64 ((Int.tmod a0 65536)+65536)) t310 _ A3.out).mono ?_);rintro e w5 ⟨rfl,hb⟩;refine ⟨_,rfl,?_⟩;replace HB:=Aside0.mk (zad (zL HB.out) hb);(try clear hb);(try clear hb2);(try clear hk);(try clear hi))|((with_reducible refine zal (f:=112) rfl ?_);refine goesL_ (some 16) rfl rfl Try.func112 (by kernel_rfl) rfl #[.int .i64 (Int.tmod (wrap64 ((wrap64 ((Int.tmod a0 65536)+65536))+16384)) 65536)] rfl zA ?_;(with_reducible refine (zaV.calls k (Int.tmod (wrap64 ((wrap64 ((Int.tmod a0 65536)+65536))+16384)) 65536) t311 _ A4.out).mono ?_);rintro e w6 ⟨rfl,hb⟩;refine ⟨_,rfl,?_⟩;replace HB:=Aside0.mk (zad (zL HB.out) hb);(try clear hb);(try clear hb2);(try clear hk);(try clear hi)))
  go_ret2
  exact ⟨by first|rfl|(simp [errW_none,errW_some] <;> rfl)|(simp [*,errW_none,errW_some] <;> rfl),by repeat (first|(with_reducible first|exact HB.out|apply zai|apply zaf|apply zag)|exact HB.out)⟩
 ·rw [if_neg c2] at H
  have c2b0:decide ((Int.tmod a0 65536)<0)=false:=decide_eq_false c2
  clear c2
  replace H:=Option.bind_eq_some_iff.mp H
  obtain ⟨t312,A70,H⟩:=H
  replace H:((zaV.f k (Int.tmod (wrap64 ((Int.tmod a0 65536)+16384)) 65536)).bind fun t313=>(some (t312,t313)))=some (r1,r2):=H
  have A7:=Aside0.mk A70
  clear A70
  replace H:=Option.bind_eq_some_iff.mp H
  obtain ⟨t313,A80,H⟩:=H
  replace H:(some (t312,t313))=some (r1,r2):=H
  have A8:=Aside0.mk A80
  clear A80
  simp only [Option.some.injEq,Prod.mk.injEq] at H
  obtain ⟨rfl,rfl⟩:=H
  go_enter Try.func67,Try.ntmps67
  go_wp2_with (first|((with_reducible refine zal (f:=112) rfl ?_);refine goesL_ (some 12) rfl rfl Try.func112 (by kernel_rfl) rfl #[.int .i64 (Int.tmod a0 65536)] rfl zA ?_;(with_reducible refine (zaV.calls k (Int.tmod a0 65536) t312 _ A7.out).mono ?_);rintro e w9 ⟨rfl,hb⟩;refine ⟨_,rfl,?_⟩;replace HB:=Aside0.mk (zad (zL HB.out) hb);(try clear hb);(try clear hb2);(try clear hk);(try clear hi))|((with_reducible refine zal (f:=112) rfl ?_);refine goesL_ (some 16) rfl rfl Try.func112 (by kernel_rfl) rfl #[.int .i64 (Int.tmod (wrap64 ((Int.tmod a0 65536)+16384)) 65536)] rfl zA ?_;(with_reducible refine (zaV.calls k (Int.tmod (wrap64 ((Int.tmod a0 65536)+16384)) 65536) t313 _ A8.out).mono ?_);rintro e w10 ⟨rfl,hb⟩;refine ⟨_,rfl,?_⟩;replace HB:=Aside0.mk (zad (zL HB.out) hb);(try clear hb);(try clear hb2);(try clear hk);(try clear hi)))
  go_ret2
  exact ⟨by first|rfl|(simp [errW_none,errW_some] <;> rfl)|(simp [*,errW_none,errW_some] <;> rfl),by repeat (first|(with_reducible first|exact HB.out|apply zai|apply zaf|apply zag)|exact HB.out)⟩
def zaJ.f (a0:Int) (a1:Int):Option (Int×Int):=some (IntKind.u64.wrap ((IntKind.u64.wrap ((IntKind.u64.wrap ((a0 / 4294967296)*(a1 / 4294967296)))+((IntKind.u64.wrap ((IntKind.u64.wrap ((a0 / 4294967296)*(Go.bits .and .u64 a1 4294967295)))+((IntKind.u64.wrap ((Go.bits .and .u64 a0 4294967295)*(Go.bits .and .u64 a1 4294967295))) / 4294967296))) / 4294967296)))+((IntKind.u64.wrap ((IntKind.u64.wrap ((Go.bits .and .u64 a0 4294967295)*(a1 / 4294967296)))+(Go.bits .and .u64 (IntKind.u64.wrap ((IntKind.u64.wrap ((a0 / 4294967296)*(Go.bits .and .u64 a1 4294967295)))+((IntKind.u64.wrap ((Go.bits .and .u64 a0 4294967295)*(Go.bits .and .u64 a1 4294967295))) / 4294967296))) 4294967295))) / 4294967296)),IntKind.u64.wrap (a0*a1))
set_option maxHeartbeats 8000000 in
set_option maxRecDepth 100000 in
theorem zaJ.calls (a0:Int) (a1:Int) (r1:Int) (r2:Int) (w:World) (h:zaJ.f a0 a1=some (r1,r2)) :
 Calls Try.prog 114 #[.int .u64 a0,.int .u64 a1] w fun e w'=>e = .returned (.tuple #[.int .u64 r1,.int .u64 r2])∧Drawn0 w w':=by
 have H:(some (IntKind.u64.wrap ((IntKind.u64.wrap ((IntKind.u64.wrap ((a0 / 4294967296)*(a1 / 4294967296)))+((IntKind.u64.wrap ((IntKind.u64.wrap ((a0 / 4294967296)*(Go.bits .and .u64 a1 4294967295)))+((IntKind.u64.wrap ((Go.bits .and .u64 a0 4294967295)*(Go.bits .and .u64 a1 4294967295))) / 4294967296))) / 4294967296)))+((IntKind.u64.wrap ((IntKind.u64.wrap ((Go.bits .and .u64 a0 4294967295)*(a1 / 4294967296)))+(Go.bits .and .u64 (IntKind.u64.wrap ((IntKind.u64.wrap ((a0 / 4294967296)*(Go.bits .and .u64 a1 4294967295)))+((IntKind.u64.wrap ((Go.bits .and .u64 a0 4294967295)*(Go.bits .and .u64 a1 4294967295))) / 4294967296))) 4294967295))) / 4294967296)),IntKind.u64.wrap (a0*a1)))=some (r1,r2):=h
 clear h
 simp only [Option.some.injEq,Prod.mk.injEq] at H
 obtain ⟨rfl,rfl⟩:=H
 go_enter Try.func114,Try.ntmps114
 go_wp2
 go_ret2
 exact ⟨by first|rfl|(simp;done)|(simp [*];done),by repeat (first|exact Drawn0.refl _|apply Drawn0.step)⟩
def zaX.j0:Nat→Int→Bool→Option (Int)
 | 0,_,_=>none
 | k+1,x1,x13=>if x13=true then (some (-9223372036854775808)) else (some (wrap64 (IntKind.u64.wrap (-x1))))
def zaX.f (k:Nat) (a0:Int) (a1:Int) (a2:Bool):Option (Int):=if a2=true then (if a0 > 0 then (zaX.j0 k a1 true) else (zaX.j0 k a1 (decide (a1 > 9223372036854775808)))) else (if a0 > 0 then (some 9223372036854775807) else (if a1 > 9223372036854775807 then (some 9223372036854775807) else (some (wrap64 (a1)))))
set_option maxHeartbeats 8000000 in
set_option maxRecDepth 100000 in
theorem zaX.calls (k:Nat) (a0:Int) (a1:Int) (a2:Bool) (r:Int) (w:World) (h:zaX.f k a0 a1 a2=some r) :
 Calls Try.prog 115 #[.int .u64 a0,.int .u64 a1,.bool a2] w fun e w'=>e = .returned (.int .i64 r)∧Drawn0 w w':=by
 have H:(if a2=true then (if a0 > 0 then (zaX.j0 k a1 true) else (zaX.j0 k a1 (decide (a1 > 9223372036854775808)))) else (if a0 > 0 then (some 9223372036854775807) else (if a1 > 9223372036854775807 then (some 9223372036854775807) else (some (wrap64 (a1))))))=some r:=h
 clear h
 by_cases c4:a2=true
 ·subst c4
  have H1:(if a0 > 0 then (zaX.j0 k a1 true) else (zaX.j0 k a1 (decide (a1 > 9223372036854775808))))=some r:=by rw [if_pos rfl] at H;exact H
  clear H
  have H:=H1
  clear H1
  have HC5:=Aside0.mk H
  clear H
  go_enter Try.func115,Try.ntmps115
  go_upto_region 2 with (fail)
  go_cut [13] (fun v13 wc=>∃ (kq:Nat) (x13_4:Bool),v13 = .bool x13_4∧Aside0 (zaX.j0 kq a1 x13_4=some r)∧Aside0 (kq≤k)∧Drawn0 w wc)
  case first=>
   have H:=HC5.out
   clear HC5
   by_cases c6:a0 > 0
   ·rw [if_pos c6] at H
    have c6b0:decide (0<a0)=true:=decide_eq_true c6
    clear c6
    (first|rw [c6b0]|(simp only [i64_w,i32_w];rw [c6b0])|skip)
    have H':=Aside0.mk H
    clear H
    go_wp2
    go_meet
    case rel=>exact ⟨_,(true),zF,H',⟨by first|omega|exact Nat.le_refl _⟩,by repeat (first|exact Drawn0.refl _|apply Drawn0.step)⟩
   ·rw [if_neg c6] at H
    have c6b0:decide (0<a0)=false:=decide_eq_false c6
    clear c6
    (first|rw [c6b0]|(simp only [i64_w,i32_w];rw [c6b0])|skip)
    have H':=Aside0.mk H
    clear H
    go_wp2
    go_meet
    case rel=>exact ⟨_,(decide (a1 > 9223372036854775808)),zF,H',⟨by first|omega|exact Nat.le_refl _⟩,by repeat (first|exact Drawn0.refl _|apply Drawn0.step)⟩
  case rest=>
   clear HC5
   try clear c1
   try clear p2
   try clear c4
   try clear c6
   try clear c6b0
   try clear p6
   obtain ⟨kq,x13_4,rfl,HA,HJ4,⟨mc4,rfl⟩⟩:=hcut
   cases kq with
   | zero=>exact absurd HA.out (by simp [zaX.j0])
   | succ kj4=>
    have H:=HA.out
    clear HA
    simp only [zaX.j0] at H
    by_cases c7:x13_4=true
    ·subst c7
     have H1:(some (-9223372036854775808))=some r:=by rw [if_pos rfl] at H;exact H
     clear H
     have H:=H1
     clear H1
     obtain rfl:=Option.some.inj H
     go_wp2
     go_ret
     exact ⟨by first|rfl|(simp;done)|(simp [*];done),by repeat (first|exact Drawn0.refl _|apply Drawn0.step)⟩
    ·replace c7:=Bool.eq_false_iff.mpr c7
     subst c7
     have H1:(some (wrap64 (IntKind.u64.wrap (-a1))))=some r:=by rw [if_neg (show ¬ (false=true) by decide)] at H;exact H
     clear H
     have H:=H1
     clear H1
     obtain rfl:=Option.some.inj H
     go_wp2
     go_ret
     exact ⟨by first|rfl|(simp;done)|(simp [*];done),by repeat (first|exact Drawn0.refl _|apply Drawn0.step)⟩
 ·replace c4:=Bool.eq_false_iff.mpr c4
  subst c4
  have H1:(if a0 > 0 then (some 9223372036854775807) else (if a1 > 9223372036854775807 then (some 9223372036854775807) else (some (wrap64 (a1)))))=some r:=by rw [if_neg (show ¬ (false=true) by decide)] at H;exact H
  clear H
  have H:=H1
  clear H1
  by_cases c8:a0 > 0
  ·rw [if_pos c8] at H
   have c8b0:decide (0<a0)=true:=decide_eq_true c8
   clear c8
   obtain rfl:=Option.some.inj H
   go_enter Try.func115,Try.ntmps115
   go_wp2
   go_ret
   exact ⟨by first|rfl|(simp;done)|(simp [*];done),by repeat (first|exact Drawn0.refl _|apply Drawn0.step)⟩
  ·rw [if_neg c8] at H
   have c8b0:decide (0<a0)=false:=decide_eq_false c8
   clear c8
   by_cases c9:a1 > 9223372036854775807
   ·rw [if_pos c9] at H
    have c9b0:decide (9223372036854775807<a1)=true:=decide_eq_true c9
    clear c9
    obtain rfl:=Option.some.inj H
    go_enter Try.func115,Try.ntmps115
    go_wp2
    go_ret
    exact ⟨by first|rfl|(simp;done)|(simp [*];done),by repeat (first|exact Drawn0.refl _|apply Drawn0.step)⟩
   ·rw [if_neg c9] at H
    have c9b0:decide (9223372036854775807<a1)=false:=decide_eq_false c9
    clear c9
    obtain rfl:=Option.some.inj H
    go_enter Try.func115,Try.ntmps115
    go_wp2
    go_ret
    exact ⟨by first|rfl|(simp;done)|(simp [*];done),by repeat (first|exact Drawn0.refl _|apply Drawn0.step)⟩
mutual
def zat.j0:Nat→Int→Int→Option (Int)
 | 0,_,_=>none
 | k+1,x9,x10=>zat.l0 k x9 x10 0 9223372036854775808
def zat.l0:Nat→Int→Int→Int→Int→Option (Int)
 | 0,_,_,_,_=>none
 | k+1,x9,x10,x11,x12=>if x12 > 0 then ((zaJ.f (Go.bits .or .u64 x11 x12) (Go.bits .or .u64 x11 x12)).bind fun bt322=>(if bt322.1<x10 then (zat.l0 k x9 x10 (Go.bits .or .u64 x11 x12) (x12 / 2)) else (if bt322.1=x10 then (if bt322.2≤x9 then (zat.l0 k x9 x10 (Go.bits .or .u64 x11 x12) (x12 / 2)) else (zat.l0 k x9 x10 x11 (x12 / 2))) else (zat.l0 k x9 x10 x11 (x12 / 2))))) else ((zaX.f k 0 x11 false).bind fun t324=>(some t324))
end
def zat.f (k:Nat) (a0:Int) (a1:Int):Option (Int):=(zaC.f a0).bind fun t314=>((zaC.f a0).bind fun t315=>((zaJ.f t314 t315).bind fun bt316=>((zaC.f a1).bind fun t318=>((zaC.f a1).bind fun t319=>((zaJ.f t318 t319).bind fun bt320=>(if (IntKind.u64.wrap (bt316.2+bt320.2))<bt316.2 then (zat.j0 k (IntKind.u64.wrap (bt316.2+bt320.2)) (IntKind.u64.wrap ((IntKind.u64.wrap (bt316.1+bt320.1))+1))) else (zat.j0 k (IntKind.u64.wrap (bt316.2+bt320.2)) (IntKind.u64.wrap (bt316.1+bt320.1)))))))))
set_option maxHeartbeats 8000000 in
set_option maxRecDepth 100000 in
theorem zat.calls (k:Nat) (a0:Int) (a1:Int) (r:Int) (w:World) (h:zat.f k a0 a1=some r) :
 Calls Try.prog 69 #[.int .i64 a0,.int .i64 a1] w fun e w'=>e = .returned (.int .i64 r)∧Drawn0 w w':=by
 have H:((zaC.f a0).bind fun t314=>((zaC.f a0).bind fun t315=>((zaJ.f t314 t315).bind fun bt316=>((zaC.f a1).bind fun t318=>((zaC.f a1).bind fun t319=>((zaJ.f t318 t319).bind fun bt320=>(if (IntKind.u64.wrap (bt316.2+bt320.2))<bt316.2 then (zat.j0 k (IntKind.u64.wrap (bt316.2+bt320.2)) (IntKind.u64.wrap ((IntKind.u64.wrap (bt316.1+bt320.1))+1))) else (zat.j0 k (IntKind.u64.wrap (bt316.2+bt320.2)) (IntKind.u64.wrap (bt316.1+bt320.1))))))))))=some r:=h
 clear h
 replace H:=Option.bind_eq_some_iff.mp H
 obtain ⟨t314,A30,H⟩:=H
 replace H:((zaC.f a0).bind fun t315=>((zaJ.f t314 t315).bind fun bt316=>((zaC.f a1).bind fun t318=>((zaC.f a1).bind fun t319=>((zaJ.f t318 t319).bind fun bt320=>(if (IntKind.u64.wrap (bt316.2+bt320.2))<bt316.2 then (zat.j0 k (IntKind.u64.wrap (bt316.2+bt320.2)) (IntKind.u64.wrap ((IntKind.u64.wrap (bt316.1+bt320.1))+1))) else (zat.j0 k (IntKind.u64.wrap (bt316.2+bt320.2)) (IntKind.u64.wrap (bt316.1+bt320.1)))))))))=some r:=H
 have A3:=Aside0.mk A30
 clear A30
 replace H:=Option.bind_eq_some_iff.mp H
 obtain ⟨t315,A40,H⟩:=H
 replace H:((zaJ.f t314 t315).bind fun bt316=>((zaC.f a1).bind fun t318=>((zaC.f a1).bind fun t319=>((zaJ.f t318 t319).bind fun bt320=>(if (IntKind.u64.wrap (bt316.2+bt320.2))<bt316.2 then (zat.j0 k (IntKind.u64.wrap (bt316.2+bt320.2)) (IntKind.u64.wrap ((IntKind.u64.wrap (bt316.1+bt320.1))+1))) else (zat.j0 k (IntKind.u64.wrap (bt316.2+bt320.2)) (IntKind.u64.wrap (bt316.1+bt320.1))))))))=some r:=H
 have A4:=Aside0.mk A40
 clear A40
 replace H:=Option.bind_eq_some_iff.mp H
 obtain ⟨⟨t316,t317⟩,A50,H⟩:=H
 replace H:((zaC.f a1).bind fun t318=>((zaC.f a1).bind fun t319=>((zaJ.f t318 t319).bind fun bt320=>(if (IntKind.u64.wrap (t317+bt320.2))<t317 then (zat.j0 k (IntKind.u64.wrap (t317+bt320.2)) (IntKind.u64.wrap ((IntKind.u64.wrap (t316+bt320.1))+1))) else (zat.j0 k (IntKind.u64.wrap (t317+bt320.2)) (IntKind.u64.wrap (t316+bt320.1)))))))=some r:=H
 have A5:=Aside0.mk A50
 clear A50
 replace H:=Option.bind_eq_some_iff.mp H
 obtain ⟨t318,A60,H⟩:=H
 replace H:((zaC.f a1).bind fun t319=>((zaJ.f t318 t319).bind fun bt320=>(if (IntKind.u64.wrap (t317+bt320.2))<t317 then (zat.j0 k (IntKind.u64.wrap (t317+bt320.2)) (IntKind.u64.wrap ((IntKind.u64.wrap (t316+bt320.1))+1))) else (zat.j0 k (IntKind.u64.wrap (t317+bt320.2)) (IntKind.u64.wrap (t316+bt320.1))))))=some r:=H
 have A6:=Aside0.mk A60
 clear A60
 replace H:=Option.bind_eq_some_iff.mp H
 obtain ⟨t319,A70,H⟩:=H
 replace H:((zaJ.f t318 t319).bind fun bt320=>(if (IntKind.u64.wrap (t317+bt320.2))<t317 then (zat.j0 k (IntKind.u64.wrap (t317+bt320.2)) (IntKind.u64.wrap ((IntKind.u64.wrap (t316+bt320.1))+1))) else (zat.j0 k (IntKind.u64.wrap (t317+bt320.2)) (IntKind.u64.wrap (t316+bt320.1)))))=some r:=H
 have A7:=Aside0.mk A70
 clear A70
 replace H:=Option.bind_eq_some_iff.mp H
 obtain ⟨⟨t320,t321⟩,A80,H⟩:=H
 replace H:(if (IntKind.u64.wrap (t317+t321))<t317 then (zat.j0 k (IntKind.u64.wrap (t317+t321)) (IntKind.u64.wrap ((IntKind.u64.wrap (t316+t320))+1))) else (zat.j0 k (IntKind.u64.wrap (t317+t321)) (IntKind.u64.wrap (t316+t320))))=some r:=H
 have A8:=Aside0.mk A80
 clear A80
 have HC9:=Aside0.mk H
 clear H
 go_enter Try.func69,Try.ntmps69
 go_upto_if 39 with (first|((with_reducible refine zal (f:=113) rfl ?_);refine goesL_ (some 17) rfl rfl Try.func113 (by kernel_rfl) rfl #[.int .i64 a0] rfl zA ?_;(with_reducible refine (zaC.calls a0 t314 _ A3.out).mono ?_);rintro e w' ⟨rfl,⟨nd,rfl⟩⟩;refine ⟨_,rfl,?_⟩)|((with_reducible refine zal (f:=113) rfl ?_);refine goesL_ (some 19) rfl rfl Try.func113 (by kernel_rfl) rfl #[.int .i64 a0] rfl zA ?_;(with_reducible refine (zaC.calls a0 t315 _ A4.out).mono ?_);rintro e w' ⟨rfl,⟨nd,rfl⟩⟩;refine ⟨_,rfl,?_⟩)|((with_reducible refine zal (f:=114) rfl ?_);refine goesL_ (some 20) rfl rfl Try.func114 (by kernel_rfl) rfl #[.int .u64 t314,.int .u64 t315] rfl zA ?_;(with_reducible refine (zaJ.calls t314 t315 t316 t317 _ A5.out).mono ?_);rintro e w' ⟨rfl,⟨nd,rfl⟩⟩;refine ⟨_,rfl,?_⟩)|((with_reducible refine zal (f:=113) rfl ?_);refine goesL_ (some 25) rfl rfl Try.func113 (by kernel_rfl) rfl #[.int .i64 a1] rfl zA ?_;(with_reducible refine (zaC.calls a1 t318 _ A6.out).mono ?_);rintro e w' ⟨rfl,⟨nd,rfl⟩⟩;refine ⟨_,rfl,?_⟩)|((with_reducible refine zal (f:=113) rfl ?_);refine goesL_ (some 27) rfl rfl Try.func113 (by kernel_rfl) rfl #[.int .i64 a1] rfl zA ?_;(with_reducible refine (zaC.calls a1 t319 _ A7.out).mono ?_);rintro e w' ⟨rfl,⟨nd,rfl⟩⟩;refine ⟨_,rfl,?_⟩)|((with_reducible refine zal (f:=114) rfl ?_);refine goesL_ (some 28) rfl rfl Try.func114 (by kernel_rfl) rfl #[.int .u64 t318,.int .u64 t319] rfl zA ?_;(with_reducible refine (zaJ.calls t318 t319 t320 t321 _ A8.out).mono ?_);rintro e w' ⟨rfl,⟨nd,rfl⟩⟩;refine ⟨_,rfl,?_⟩))
 (try simp only [Act.put,List.setIfInBounds_toArray,List.set_cons_zero,List.set_cons_succ])
 go_cut [10] (fun v10 wc=>∃ (kq:Nat) (x10_8:Int),v10 = .int .u64 x10_8∧Aside0 (zat.j0 kq (IntKind.u64.wrap (t317+t321)) x10_8=some r)∧Aside0 (kq≤k)∧Drawn0 w wc)
 case first=>
  have H:=HC9.out
  clear HC9
  by_cases c10:(IntKind.u64.wrap (t317+t321))<t317
  ·rw [if_pos c10] at H
   have c10b0:decide ((IntKind.u64.wrap (t317+t321))<t317)=true:=decide_eq_true c10
   clear c10
   (first|rw [c10b0]|(simp only [i64_w,i32_w];rw [c10b0])|skip)
   have H':=Aside0.mk H
   clear H
   go_wp2
   go_meet
   case rel=>exact ⟨_,(IntKind.u64.wrap ((IntKind.u64.wrap (t316+t320))+1)),zF,H',⟨by first|omega|exact Nat.le_refl _⟩,by repeat (first|exact Drawn0.refl _|apply Drawn0.step)⟩
  ·rw [if_neg c10] at H
   have c10b0:decide ((IntKind.u64.wrap (t317+t321))<t317)=false:=decide_eq_false c10
   clear c10
   (first|rw [c10b0]|(simp only [i64_w,i32_w];rw [c10b0])|skip)
   have H':=Aside0.mk H
   clear H
   go_wp2
   go_meet
   case rel=>exact ⟨_,(IntKind.u64.wrap (t316+t320)),zF,H',⟨by first|omega|exact Nat.le_refl _⟩,by repeat (first|exact Drawn0.refl _|apply Drawn0.step)⟩
 case rest=>
  clear HC9
  try clear c1
  try clear p2
  try clear c6
  try clear c10
  try clear c10b0
  obtain ⟨kq,x10_8,rfl,HA,HJ8,⟨mc8,rfl⟩⟩:=hcut
  cases kq with
  | zero=>exact absurd HA.out (by simp [zat.j0])
  | succ kj8=>
   have H:=HA.out
   clear HA
   simp only [zat.j0] at H
   have H':=Aside0.mk H
   clear H
   go_wp2
   go_loopg [11,12] kj8 (fun kq v11 v12 w'=>∃ (x11_2:Int) (x12_2:Int),v11 = .int .u64 x11_2∧v12 = .int .u64 x12_2∧Aside0 (zat.l0 kq (IntKind.u64.wrap (t317+t321)) x10_8 x11_2 x12_2=some r)∧Aside0 (kq≤kj8)∧Drawn0 w w')
   case atStart=>exact ⟨(0),(9223372036854775808),zF,zF,H',⟨Nat.le_refl _⟩,by repeat (first|exact Drawn0.refl _|apply Drawn0.step)⟩
   case round=>
    clear H'
    try clear c1
    try clear p2
    try clear c6
    try clear c8
    try clear c10
    try clear c10b0
    try clear p2
    obtain ⟨x11_2,x12_2,rfl,rfl,HA,HK2,⟨m2,rfl⟩⟩:=hrel
    cases gk with
    | zero=>exact absurd HA.out (by simp [zat.l0])
    | succ k2=>
     have H:=HA.out
     clear HA
     simp only [zat.l0] at H
     by_cases c11:x12_2 > 0
     ·rw [if_pos c11] at H
      have c11b0:decide (0<x12_2)=true:=decide_eq_true c11
      clear c11
      replace H:=Option.bind_eq_some_iff.mp H
      obtain ⟨⟨t322,t323⟩,A120,H⟩:=H
      replace H:(if t322<x10_8 then (zat.l0 k2 (IntKind.u64.wrap (t317+t321)) x10_8 (Go.bits .or .u64 x11_2 x12_2) (x12_2 / 2)) else (if t322=x10_8 then (if t323≤(IntKind.u64.wrap (t317+t321)) then (zat.l0 k2 (IntKind.u64.wrap (t317+t321)) x10_8 (Go.bits .or .u64 x11_2 x12_2) (x12_2 / 2)) else (zat.l0 k2 (IntKind.u64.wrap (t317+t321)) x10_8 x11_2 (x12_2 / 2))) else (zat.l0 k2 (IntKind.u64.wrap (t317+t321)) x10_8 x11_2 (x12_2 / 2))))=some r:=H
      have A12:=Aside0.mk A120
      clear A120
      by_cases c13:t322<x10_8
      ·rw [if_pos c13] at H
       have c13b0:decide (t322<x10_8)=true:=decide_eq_true c13
       clear c13
       have H':=Aside0.mk H
       clear H
       go_wp2_with (first|((with_reducible refine zal (f:=114) rfl ?_);refine goesL_ (some 53) rfl rfl Try.func114 (by kernel_rfl) rfl #[.int .u64 (Go.bits .or .u64 x11_2 x12_2),.int .u64 (Go.bits .or .u64 x11_2 x12_2)] rfl zA ?_;(with_reducible refine (zaJ.calls (Go.bits .or .u64 x11_2 x12_2) (Go.bits .or .u64 x11_2 x12_2) t322 t323 _ A12.out).mono ?_);rintro e w' ⟨rfl,⟨nd,rfl⟩⟩;refine ⟨_,rfl,?_⟩))
       go_roundg k2
       case measure=>have:=HJ8.out;have:=HK2.out;omega
       case rel=>exact ⟨(Go.bits .or .u64 x11_2 x12_2),(x12_2 / 2),zF,zF,H',⟨by have:=HJ8.out;have:=HK2.out;omega⟩,by repeat (first|exact Drawn0.refl _|apply Drawn0.step)⟩
      ·rw [if_neg c13] at H
       have c13b0:decide (t322<x10_8)=false:=decide_eq_false c13
       clear c13
       by_cases c14:t322=x10_8
       ·rw [if_pos c14] at H
        have c14b0:(t322==x10_8)=true:=beq_iff_eq.mpr c14
        have c14b1:(t322 != x10_8)=false:=bne_eq_false_iff_eq.mpr c14
        clear c14
        by_cases c15:t323≤(IntKind.u64.wrap (t317+t321))
        ·rw [if_pos c15] at H
         have c15b0:decide (t323≤(IntKind.u64.wrap (t317+t321)))=true:=decide_eq_true c15
         clear c15
         have H':=Aside0.mk H
         clear H
         go_wp2_with (first|((with_reducible refine zal (f:=114) rfl ?_);refine goesL_ (some 53) rfl rfl Try.func114 (by kernel_rfl) rfl #[.int .u64 (Go.bits .or .u64 x11_2 x12_2),.int .u64 (Go.bits .or .u64 x11_2 x12_2)] rfl zA ?_;(with_reducible refine (zaJ.calls (Go.bits .or .u64 x11_2 x12_2) (Go.bits .or .u64 x11_2 x12_2) t322 t323 _ A12.out).mono ?_);rintro e w' ⟨rfl,⟨nd,rfl⟩⟩;refine ⟨_,rfl,?_⟩))
         go_roundg k2
         case measure=>have:=HJ8.out;have:=HK2.out;omega
         case rel=>exact ⟨(Go.bits .or .u64 x11_2 x12_2),(x12_2 / 2),zF,zF,H',⟨by have:=HJ8.out;have:=HK2.out;omega⟩,by repeat (first|exact Drawn0.refl _|apply Drawn0.step)⟩
        ·rw [if_neg c15] at H
         have c15b0:decide (t323≤(IntKind.u64.wrap (t317+t321)))=false:=decide_eq_false c15
         clear c15
         have H':=Aside0.mk H
         clear H
         go_wp2_with (first|((with_reducible refine zal (f:=114) rfl ?_);refine goesL_ (some 53) rfl rfl Try.func114 (by kernel_rfl) rfl #[.int .u64 (Go.bits .or .u64 x11_2 x12_2),.int .u64 (Go.bits .or .u64 x11_2 x12_2)] rfl zA ?_;(with_reducible refine (zaJ.calls (Go.bits .or .u64 x11_2 x12_2) (Go.bits .or .u64 x11_2 x12_2) t322 t323 _ A12.out).mono ?_);rintro e w' ⟨rfl,⟨nd,rfl⟩⟩;refine ⟨_,rfl,?_⟩))
         go_roundg k2
         case measure=>have:=HJ8.out;have:=HK2.out;omega
         case rel=>exact ⟨(x11_2),(x12_2 / 2),zF,zF,H',⟨by have:=HJ8.out;have:=HK2.out;omega⟩,by repeat (first|exact Drawn0.refl _|apply Drawn0.step)⟩
       ·rw [if_neg c14] at H
        have c14b0:(t322==x10_8)=false:=beq_eq_false_iff_ne.mpr c14
        have c14b1:(t322 != x10_8)=true:=bne_iff_ne.mpr c14
        have H':=Aside0.mk H
        clear H
        go_wp2_with (first|((with_reducible refine zal (f:=114) rfl ?_);refine goesL_ (some 53) rfl rfl Try.func114 (by kernel_rfl) rfl #[.int .u64 (Go.bits .or .u64 x11_2 x12_2),.int .u64 (Go.bits .or .u64 x11_2 x12_2)] rfl zA ?_;(with_reducible refine (zaJ.calls (Go.bits .or .u64 x11_2 x12_2) (Go.bits .or .u64 x11_2 x12_2) t322 t323 _ A12.out).mono ?_);rintro e w' ⟨rfl,⟨nd,rfl⟩⟩;refine ⟨_,rfl,?_⟩))
        go_roundg k2
        case measure=>have:=HJ8.out;have:=HK2.out;omega
        case rel=>exact ⟨(x11_2),(x12_2 / 2),zF,zF,H',⟨by have:=HJ8.out;have:=HK2.out;omega⟩,by repeat (first|exact Drawn0.refl _|apply Drawn0.step)⟩
     ·rw [if_neg c11] at H
      have c11b0:decide (0<x12_2)=false:=decide_eq_false c11
      clear c11
      replace H:=Option.bind_eq_some_iff.mp H
      obtain ⟨t324,A160,H⟩:=H
      replace H:(some t324)=some r:=H
      have A16:=Aside0.mk A160
      clear A160
      obtain rfl:=Option.some.inj H
      go_wp2_with (first|((with_reducible refine zal (f:=115) rfl ?_);refine goesL_ (some 73) rfl rfl Try.func115 (by kernel_rfl) rfl #[.int .u64 0,.int .u64 x11_2,.bool false] rfl zA ?_;(with_reducible refine (zaX.calls k2 0 x11_2 false t324 _ A16.out).mono ?_);rintro e w' ⟨rfl,⟨nd,rfl⟩⟩;refine ⟨_,rfl,?_⟩))
      go_ret
      exact ⟨by first|rfl|(simp;done)|(simp [*];done),by repeat (first|exact Drawn0.refl _|apply Drawn0.step)⟩
end Go.Proofs.Ytlilncnoohfcdaa.Da
