
import Derived.Test.YtlilncnoohfcdaaDax0
import Derived.Test.YtlilncnoohfcdaaDax14
namespace Go.Proofs.Ytlilncnoohfcdaa.Da
open Go.RowKit Go.Proofs.YtlilncnoohfcdaaW.PrintWords Go.Proofs.YtlilncnoohfcdaaW.PrintLast Go.Proofs.YtlilncnoohfcdaaW.PrintMore
attribute [local go_sem] zbr zbu zbD zbH zbq zbp zbv zbt   
set_option linter.unusedVariables false
set_option linter.unusedSimpArgs false
/-! ### imageeditorref01_Turn: function 67 -/
def zaZ.f (a0:Int) (a1:Int):Option (Int×Int):=some (IntKind.u64.wrap ((IntKind.u64.wrap ((IntKind.u64.wrap ((a0 / 4294967296)*(a1 / 4294967296)))+((IntKind.u64.wrap ((IntKind.u64.wrap ((a0 / 4294967296)*(Go.bits .and .u64 a1 4294967295)))+((IntKind.u64.wrap ((Go.bits .and .u64 a0 4294967295)*(Go.bits .and .u64 a1 4294967295))) / 4294967296))) / 4294967296)))+((IntKind.u64.wrap ((IntKind.u64.wrap ((Go.bits .and .u64 a0 4294967295)*(a1 / 4294967296)))+(Go.bits .and .u64 (IntKind.u64.wrap ((IntKind.u64.wrap ((a0 / 4294967296)*(Go.bits .and .u64 a1 4294967295)))+((IntKind.u64.wrap ((Go.bits .and .u64 a0 4294967295)*(Go.bits .and .u64 a1 4294967295))) / 4294967296))) 4294967295))) / 4294967296)),IntKind.u64.wrap (a0*a1))
set_option maxHeartbeats 8000000 in
set_option maxRecDepth 100000 in
theorem zaZ.calls (a0:Int) (a1:Int) (r1:Int) (r2:Int) (w:World) (h:zaZ.f a0 a1=some (r1,r2)) :
 Calls Try.prog 114 #[.int .u64 a0,.int .u64 a1] w fun e w'=>e = .returned (.tuple #[.int .u64 r1,.int .u64 r2])∧zaS w w':=by
 have H:(some (IntKind.u64.wrap ((IntKind.u64.wrap ((IntKind.u64.wrap ((a0 / 4294967296)*(a1 / 4294967296)))+((IntKind.u64.wrap ((IntKind.u64.wrap ((a0 / 4294967296)*(Go.bits .and .u64 a1 4294967295)))+((IntKind.u64.wrap ((Go.bits .and .u64 a0 4294967295)*(Go.bits .and .u64 a1 4294967295))) / 4294967296))) / 4294967296)))+((IntKind.u64.wrap ((IntKind.u64.wrap ((Go.bits .and .u64 a0 4294967295)*(a1 / 4294967296)))+(Go.bits .and .u64 (IntKind.u64.wrap ((IntKind.u64.wrap ((a0 / 4294967296)*(Go.bits .and .u64 a1 4294967295)))+((IntKind.u64.wrap ((Go.bits .and .u64 a0 4294967295)*(Go.bits .and .u64 a1 4294967295))) / 4294967296))) 4294967295))) / 4294967296)),IntKind.u64.wrap (a0*a1)))=some (r1,r2):=h
 clear h
 simp only [Option.some.injEq,Prod.mk.injEq] at H
 obtain ⟨rfl,rfl⟩:=H
 go_enter Try.func114,Try.ntmps114
 go_wp2
 go_ret2
 exact zH
def zbh.j0:Nat→Int→Bool→Option (Int)
 | 0,_,_=>none
 | k+1,x1,x13=>if x13=true then (some (-9223372036854775808)) else (some (wrap64 (IntKind.u64.wrap (-x1))))
def zbh.f (k:Nat) (a0:Int) (a1:Int) (a2:Bool):Option (Int):=if a2=true then (if a0 > 0 then (zbh.j0 k a1 true) else (zbh.j0 k a1 (decide (a1 > 9223372036854775808)))) else (if a0 > 0 then (some 9223372036854775807) else (if a1 > 9223372036854775807 then (some 9223372036854775807) else (some (wrap64 (a1)))))
set_option maxHeartbeats 8000000 in
set_option maxRecDepth 100000 in
theorem zbh.calls (k:Nat) (a0:Int) (a1:Int) (a2:Bool) (r:Int) (w:World) (h:zbh.f k a0 a1 a2=some r) :
 Calls Try.prog 115 #[.int .u64 a0,.int .u64 a1,.bool a2] w fun e w'=>e = .returned (.int .i64 r)∧zaS w w':=by
 have H:(if a2=true then (if a0 > 0 then (zbh.j0 k a1 true) else (zbh.j0 k a1 (decide (a1 > 9223372036854775808)))) else (if a0 > 0 then (some 9223372036854775807) else (if a1 > 9223372036854775807 then (some 9223372036854775807) else (some (wrap64 (a1))))))=some r:=h
 clear h
 by_cases c4:a2=true
 ·subst c4
  have H1:(if a0 > 0 then (zbh.j0 k a1 true) else (zbh.j0 k a1 (decide (a1 > 9223372036854775808))))=some r:=by rw [if_pos rfl] at H;exact H
  clear H
  have H:=H1
  clear H1
  have HC5:=zaa.mk H
  clear H
  go_enter Try.func115,Try.ntmps115
  go_upto_region 2 with (fail)
  go_cut [13] (fun v13 wc=>∃ (kq:Nat) (x13_4:Bool),v13 = .bool x13_4∧zaa (zbh.j0 kq a1 x13_4=some r)∧zaa (kq≤k)∧zaS w wc)
  case first=>
   have H:=HC5.out
   clear HC5
   by_cases c6:a0 > 0
   ·rw [if_pos c6] at H
    have c6b0:decide (0<a0)=true:=decide_eq_true c6
    clear c6
    (first|rw [c6b0]|(simp only [zbY,zcc];rw [c6b0])|skip)
    have H':=zaa.mk H
    clear H
    go_wp2
    go_meet
    case rel=>exact ⟨_,(true),zF,H',⟨by first|omega|exact Nat.le_refl _⟩,by repeat (first|exact zaS.refl _|apply zaS.step)⟩
   ·rw [if_neg c6] at H
    have c6b0:decide (0<a0)=false:=decide_eq_false c6
    clear c6
    (first|rw [c6b0]|(simp only [zbY,zcc];rw [c6b0])|skip)
    have H':=zaa.mk H
    clear H
    go_wp2
    go_meet
    case rel=>exact ⟨_,(decide (a1 > 9223372036854775808)),zF,H',⟨by first|omega|exact Nat.le_refl _⟩,by repeat (first|exact zaS.refl _|apply zaS.step)⟩
  case rest=>
   clear HC5
   try clear c1
   try clear p2
   try clear c4
   try clear c6
   try clear c6b0
   try clear p6
   obtain ⟨kq,x13_4,rfl,HA,HJ4,⟨mc4,rfl⟩⟩:=hcut
   cases kq with
   | zero=>exact absurd HA.out (by simp [zbh.j0])
   | succ kj4=>
    have H:=HA.out
    clear HA
    simp only [zbh.j0] at H
    by_cases c7:x13_4=true
    ·subst c7
     have H1:(some (-9223372036854775808))=some r:=by rw [if_pos rfl] at H;exact H
     clear H
     have H:=H1
     clear H1
     obtain rfl:=Option.some.inj H
     go_wp2
     go_ret
     exact zH
    ·replace c7:=Bool.eq_false_iff.mpr c7
     subst c7
     have H1:(some (wrap64 (IntKind.u64.wrap (-a1))))=some r:=by rw [if_neg (show ¬ (false=true) by decide)] at H;exact H
     clear H
     have H:=H1
     clear H1
     obtain rfl:=Option.some.inj H
     go_wp2
     go_ret
     exact zH
 ·replace c4:=Bool.eq_false_iff.mpr c4
  subst c4
  have H1:(if a0 > 0 then (some 9223372036854775807) else (if a1 > 9223372036854775807 then (some 9223372036854775807) else (some (wrap64 (a1)))))=some r:=by rw [if_neg (show ¬ (false=true) by decide)] at H;exact H
  clear H
  have H:=H1
  clear H1
  by_cases c8:a0 > 0
  ·rw [if_pos c8] at H
   have c8b0:decide (0<a0)=true:=decide_eq_true c8
   clear c8
   obtain rfl:=Option.some.inj H
   go_enter Try.func115,Try.ntmps115
   go_wp2
   go_ret
   exact zH
  ·rw [if_neg c8] at H
   have c8b0:decide (0<a0)=false:=decide_eq_false c8
   clear c8
   by_cases c9:a1 > 9223372036854775807
   ·rw [if_pos c9] at H
    have c9b0:decide (9223372036854775807<a1)=true:=decide_eq_true c9
    clear c9
    obtain rfl:=Option.some.inj H
    go_enter Try.func115,Try.ntmps115
    go_wp2
    go_ret
    exact zH
   ·rw [if_neg c9] at H
    have c9b0:decide (9223372036854775807<a1)=false:=decide_eq_false c9
    clear c9
    obtain rfl:=Option.some.inj H
    go_enter Try.func115,Try.ntmps115
    go_wp2
    go_ret
    exact zH
mutual
def zaq.j0:Nat→Int→Int→Option (Int)
 | 0,_,_=>none
 | k+1,x9,x10=>zaq.l0 k x9 x10 0 9223372036854775808
def zaq.l0:Nat→Int→Int→Int→Int→Option (Int)
 | 0,_,_,_,_=>none
 | k+1,x9,x10,x11,x12=>if x12 > 0 then ((zaZ.f (Go.bits .or .u64 x11 x12) (Go.bits .or .u64 x11 x12)).bind fun f5=>(if f5.1<x10 then (zaq.l0 k x9 x10 (Go.bits .or .u64 x11 x12) (x12 / 2)) else (if f5.1=x10 then (if f5.2≤x9 then (zaq.l0 k x9 x10 (Go.bits .or .u64 x11 x12) (x12 / 2)) else (zaq.l0 k x9 x10 x11 (x12 / 2))) else (zaq.l0 k x9 x10 x11 (x12 / 2))))) else ((zbh.f k 0 x11 false).bind fun f6=>(some f6))
end
def zaq.f (k:Nat) (a0:Int) (a1:Int):Option (Int):=(zaQ.f a0).bind fun e6=>((zaQ.f a0).bind fun e5=>((zaZ.f e6 e5).bind fun b9=>((zaQ.f a1).bind fun d8=>((zaQ.f a1).bind fun d7=>((zaZ.f d8 d7).bind fun b8=>(if (IntKind.u64.wrap (b9.2+b8.2))<b9.2 then (zaq.j0 k (IntKind.u64.wrap (b9.2+b8.2)) (IntKind.u64.wrap ((IntKind.u64.wrap (b9.1+b8.1))+1))) else (zaq.j0 k (IntKind.u64.wrap (b9.2+b8.2)) (IntKind.u64.wrap (b9.1+b8.1)))))))))
set_option maxHeartbeats 8000000 in
set_option maxRecDepth 100000 in
theorem zaq.calls (k:Nat) (a0:Int) (a1:Int) (r:Int) (w:World) (h:zaq.f k a0 a1=some r) :
 Calls Try.prog 69 #[.int .i64 a0,.int .i64 a1] w fun e w'=>e = .returned (.int .i64 r)∧zaS w w':=by
 have H:((zaQ.f a0).bind fun e6=>((zaQ.f a0).bind fun e5=>((zaZ.f e6 e5).bind fun b9=>((zaQ.f a1).bind fun d8=>((zaQ.f a1).bind fun d7=>((zaZ.f d8 d7).bind fun b8=>(if (IntKind.u64.wrap (b9.2+b8.2))<b9.2 then (zaq.j0 k (IntKind.u64.wrap (b9.2+b8.2)) (IntKind.u64.wrap ((IntKind.u64.wrap (b9.1+b8.1))+1))) else (zaq.j0 k (IntKind.u64.wrap (b9.2+b8.2)) (IntKind.u64.wrap (b9.1+b8.1))))))))))=some r:=h
 clear h
 obtain ⟨e6,A3,H⟩:=zob H
 replace H:((zaQ.f a0).bind fun e5=>((zaZ.f e6 e5).bind fun b9=>((zaQ.f a1).bind fun d8=>((zaQ.f a1).bind fun d7=>((zaZ.f d8 d7).bind fun b8=>(if (IntKind.u64.wrap (b9.2+b8.2))<b9.2 then (zaq.j0 k (IntKind.u64.wrap (b9.2+b8.2)) (IntKind.u64.wrap ((IntKind.u64.wrap (b9.1+b8.1))+1))) else (zaq.j0 k (IntKind.u64.wrap (b9.2+b8.2)) (IntKind.u64.wrap (b9.1+b8.1)))))))))=some r:=H
 obtain ⟨e5,A4,H⟩:=zob H
 replace H:((zaZ.f e6 e5).bind fun b9=>((zaQ.f a1).bind fun d8=>((zaQ.f a1).bind fun d7=>((zaZ.f d8 d7).bind fun b8=>(if (IntKind.u64.wrap (b9.2+b8.2))<b9.2 then (zaq.j0 k (IntKind.u64.wrap (b9.2+b8.2)) (IntKind.u64.wrap ((IntKind.u64.wrap (b9.1+b8.1))+1))) else (zaq.j0 k (IntKind.u64.wrap (b9.2+b8.2)) (IntKind.u64.wrap (b9.1+b8.1))))))))=some r:=H
 obtain ⟨⟨e0,d5⟩,A5,H⟩:=zob H
 replace H:((zaQ.f a1).bind fun d8=>((zaQ.f a1).bind fun d7=>((zaZ.f d8 d7).bind fun b8=>(if (IntKind.u64.wrap (d5+b8.2))<d5 then (zaq.j0 k (IntKind.u64.wrap (d5+b8.2)) (IntKind.u64.wrap ((IntKind.u64.wrap (e0+b8.1))+1))) else (zaq.j0 k (IntKind.u64.wrap (d5+b8.2)) (IntKind.u64.wrap (e0+b8.1)))))))=some r:=H
 obtain ⟨d8,A6,H⟩:=zob H
 replace H:((zaQ.f a1).bind fun d7=>((zaZ.f d8 d7).bind fun b8=>(if (IntKind.u64.wrap (d5+b8.2))<d5 then (zaq.j0 k (IntKind.u64.wrap (d5+b8.2)) (IntKind.u64.wrap ((IntKind.u64.wrap (e0+b8.1))+1))) else (zaq.j0 k (IntKind.u64.wrap (d5+b8.2)) (IntKind.u64.wrap (e0+b8.1))))))=some r:=H
 obtain ⟨d7,A7,H⟩:=zob H
 replace H:((zaZ.f d8 d7).bind fun b8=>(if (IntKind.u64.wrap (d5+b8.2))<d5 then (zaq.j0 k (IntKind.u64.wrap (d5+b8.2)) (IntKind.u64.wrap ((IntKind.u64.wrap (e0+b8.1))+1))) else (zaq.j0 k (IntKind.u64.wrap (d5+b8.2)) (IntKind.u64.wrap (e0+b8.1)))))=some r:=H
 obtain ⟨⟨e9,d6⟩,A8,H⟩:=zob H
 replace H:(if (IntKind.u64.wrap (d5+d6))<d5 then (zaq.j0 k (IntKind.u64.wrap (d5+d6)) (IntKind.u64.wrap ((IntKind.u64.wrap (e0+e9))+1))) else (zaq.j0 k (IntKind.u64.wrap (d5+d6)) (IntKind.u64.wrap (e0+e9))))=some r:=H
 have HC9:=zaa.mk H
 clear H
 go_enter Try.func69,Try.ntmps69
 go_upto_if 39 with (first|((with_reducible refine zah (f:=113) rfl ?_);refine zgl 17 Try.func113 #[.int .i64 a0] ?_;(with_reducible refine (zaQ.calls a0 e6 _ A3.out).mono ?_);rintro e w' ⟨rfl,⟨nd,rfl⟩⟩;refine ⟨_,rfl,?_⟩)|((with_reducible refine zah (f:=113) rfl ?_);refine zgl 19 Try.func113 #[.int .i64 a0] ?_;(with_reducible refine (zaQ.calls a0 e5 _ A4.out).mono ?_);rintro e w' ⟨rfl,⟨nd,rfl⟩⟩;refine ⟨_,rfl,?_⟩)|((with_reducible refine zah (f:=114) rfl ?_);refine zgl 20 Try.func114 #[.int .u64 e6,.int .u64 e5] ?_;(with_reducible refine (zaZ.calls e6 e5 e0 d5 _ A5.out).mono ?_);rintro e w' ⟨rfl,⟨nd,rfl⟩⟩;refine ⟨_,rfl,?_⟩)|((with_reducible refine zah (f:=113) rfl ?_);refine zgl 25 Try.func113 #[.int .i64 a1] ?_;(with_reducible refine (zaQ.calls a1 d8 _ A6.out).mono ?_);rintro e w' ⟨rfl,⟨nd,rfl⟩⟩;refine ⟨_,rfl,?_⟩)|((with_reducible refine zah (f:=113) rfl ?_);refine zgl 27 Try.func113 #[.int .i64 a1] ?_;(with_reducible refine (zaQ.calls a1 d7 _ A7.out).mono ?_);rintro e w' ⟨rfl,⟨nd,rfl⟩⟩;refine ⟨_,rfl,?_⟩)|((with_reducible refine zah (f:=114) rfl ?_);refine zgl 28 Try.func114 #[.int .u64 d8,.int .u64 d7] ?_;(with_reducible refine (zaZ.calls d8 d7 e9 d6 _ A8.out).mono ?_);rintro e w' ⟨rfl,⟨nd,rfl⟩⟩;refine ⟨_,rfl,?_⟩))
 (try simp only [Act.put,List.setIfInBounds_toArray,List.set_cons_zero,List.set_cons_succ])
 go_cut [10] (fun v10 wc=>∃ (kq:Nat) (x10_8:Int),v10 = .int .u64 x10_8∧zaa (zaq.j0 kq (IntKind.u64.wrap (d5+d6)) x10_8=some r)∧zaa (kq≤k)∧zaS w wc)
 case first=>
  have H:=HC9.out
  clear HC9
  by_cases c10:(IntKind.u64.wrap (d5+d6))<d5
  ·rw [if_pos c10] at H
   have c10b0:decide ((IntKind.u64.wrap (d5+d6))<d5)=true:=decide_eq_true c10
   clear c10
   (first|rw [c10b0]|(simp only [zbY,zcc];rw [c10b0])|skip)
   have H':=zaa.mk H
   clear H
   go_wp2
   go_meet
   case rel=>exact ⟨_,(IntKind.u64.wrap ((IntKind.u64.wrap (e0+e9))+1)),zF,H',⟨by first|omega|exact Nat.le_refl _⟩,by repeat (first|exact zaS.refl _|apply zaS.step)⟩
  ·rw [if_neg c10] at H
   have c10b0:decide ((IntKind.u64.wrap (d5+d6))<d5)=false:=decide_eq_false c10
   clear c10
   (first|rw [c10b0]|(simp only [zbY,zcc];rw [c10b0])|skip)
   have H':=zaa.mk H
   clear H
   go_wp2
   go_meet
   case rel=>exact ⟨_,(IntKind.u64.wrap (e0+e9)),zF,H',⟨by first|omega|exact Nat.le_refl _⟩,by repeat (first|exact zaS.refl _|apply zaS.step)⟩
 case rest=>
  clear HC9
  try clear c1
  try clear p2
  try clear c6
  try clear c10
  try clear c10b0
  obtain ⟨kq,x10_8,rfl,HA,HJ8,⟨mc8,rfl⟩⟩:=hcut
  cases kq with
  | zero=>exact absurd HA.out (by simp [zaq.j0])
  | succ kj8=>
   have H:=HA.out
   clear HA
   simp only [zaq.j0] at H
   have H':=zaa.mk H
   clear H
   go_wp2
   go_loopg [11,12] kj8 (fun kq v11 v12 w'=>∃ (x11_2:Int) (x12_2:Int),v11 = .int .u64 x11_2∧v12 = .int .u64 x12_2∧zaa (zaq.l0 kq (IntKind.u64.wrap (d5+d6)) x10_8 x11_2 x12_2=some r)∧zaa (kq≤kj8)∧zaS w w')
   case atStart=>exact ⟨(0),(9223372036854775808),zF,zF,H',⟨Nat.le_refl _⟩,by repeat (first|exact zaS.refl _|apply zaS.step)⟩
   case round=>
    clear H'
    try clear c1
    try clear p2
    try clear c6
    try clear c8
    try clear c10
    try clear c10b0
    try clear p2
    obtain ⟨x11_2,x12_2,rfl,rfl,HA,e8,⟨m2,rfl⟩⟩:=hrel
    cases gk with
    | zero=>exact absurd HA.out (by simp [zaq.l0])
    | succ k2=>
     have H:=HA.out
     clear HA
     simp only [zaq.l0] at H
     by_cases c11:x12_2 > 0
     ·rw [if_pos c11] at H
      have c11b0:decide (0<x12_2)=true:=decide_eq_true c11
      clear c11
      obtain ⟨⟨d9,e7⟩,A12,H⟩:=zob H
      replace H:(if d9<x10_8 then (zaq.l0 k2 (IntKind.u64.wrap (d5+d6)) x10_8 (Go.bits .or .u64 x11_2 x12_2) (x12_2 / 2)) else (if d9=x10_8 then (if e7≤(IntKind.u64.wrap (d5+d6)) then (zaq.l0 k2 (IntKind.u64.wrap (d5+d6)) x10_8 (Go.bits .or .u64 x11_2 x12_2) (x12_2 / 2)) else (zaq.l0 k2 (IntKind.u64.wrap (d5+d6)) x10_8 x11_2 (x12_2 / 2))) else (zaq.l0 k2 (IntKind.u64.wrap (d5+d6)) x10_8 x11_2 (x12_2 / 2))))=some r:=H
      by_cases c13:d9<x10_8
      ·rw [if_pos c13] at H
       have c13b0:decide (d9<x10_8)=true:=decide_eq_true c13
       clear c13
       have H':=zaa.mk H
       clear H
       go_wp2_with (first|((with_reducible refine zah (f:=114) rfl ?_);refine zgl 53 Try.func114 #[.int .u64 (Go.bits .or .u64 x11_2 x12_2),.int .u64 (Go.bits .or .u64 x11_2 x12_2)] ?_;(with_reducible refine (zaZ.calls (Go.bits .or .u64 x11_2 x12_2) (Go.bits .or .u64 x11_2 x12_2) d9 e7 _ A12.out).mono ?_);rintro e w' ⟨rfl,⟨nd,rfl⟩⟩;refine ⟨_,rfl,?_⟩))
       go_roundg k2
       case measure=>have:=HJ8.out;have:=e8.out;omega
       case rel=>exact ⟨(Go.bits .or .u64 x11_2 x12_2),(x12_2 / 2),zF,zF,H',⟨by have:=HJ8.out;have:=e8.out;omega⟩,by repeat (first|exact zaS.refl _|apply zaS.step)⟩
      ·rw [if_neg c13] at H
       have c13b0:decide (d9<x10_8)=false:=decide_eq_false c13
       clear c13
       by_cases c14:d9=x10_8
       ·rw [if_pos c14] at H
        have c14b0:(d9==x10_8)=true:=beq_iff_eq.mpr c14
        have c14b1:(d9 != x10_8)=false:=bne_eq_false_iff_eq.mpr c14
        clear c14
        by_cases c15:e7≤(IntKind.u64.wrap (d5+d6))
        ·rw [if_pos c15] at H
         have c15b0:decide (e7≤(IntKind.u64.wrap (d5+d6)))=true:=decide_eq_true c15
         clear c15
         have H':=zaa.mk H
         clear H
         go_wp2_with (first|((with_reducible refine zah (f:=114) rfl ?_);refine zgl 53 Try.func114 #[.int .u64 (Go.bits .or .u64 x11_2 x12_2),.int .u64 (Go.bits .or .u64 x11_2 x12_2)] ?_;(with_reducible refine (zaZ.calls (Go.bits .or .u64 x11_2 x12_2) (Go.bits .or .u64 x11_2 x12_2) d9 e7 _ A12.out).mono ?_);rintro e w' ⟨rfl,⟨nd,rfl⟩⟩;refine ⟨_,rfl,?_⟩))
         go_roundg k2
         case measure=>have:=HJ8.out;have:=e8.out;omega
         case rel=>exact ⟨(Go.bits .or .u64 x11_2 x12_2),(x12_2 / 2),zF,zF,H',⟨by have:=HJ8.out;have:=e8.out;omega⟩,by repeat (first|exact zaS.refl _|apply zaS.step)⟩
        ·rw [if_neg c15] at H
         have c15b0:decide (e7≤(IntKind.u64.wrap (d5+d6)))=false:=decide_eq_false c15
         clear c15
         have H':=zaa.mk H
         clear H
         go_wp2_with (first|((with_reducible refine zah (f:=114) rfl ?_);refine zgl 53 Try.func114 #[.int .u64 (Go.bits .or .u64 x11_2 x12_2),.int .u64 (Go.bits .or .u64 x11_2 x12_2)] ?_;(with_reducible refine (zaZ.calls (Go.bits .or .u64 x11_2 x12_2) (Go.bits .or .u64 x11_2 x12_2) d9 e7 _ A12.out).mono ?_);rintro e w' ⟨rfl,⟨nd,rfl⟩⟩;refine ⟨_,rfl,?_⟩))
         go_roundg k2
         case measure=>have:=HJ8.out;have:=e8.out;omega
         case rel=>exact ⟨(x11_2),(x12_2 / 2),zF,zF,H',⟨by have:=HJ8.out;have:=e8.out;omega⟩,by repeat (first|exact zaS.refl _|apply zaS.step)⟩
       ·rw [if_neg c14] at H
        have c14b0:(d9==x10_8)=false:=beq_eq_false_iff_ne.mpr c14
        have c14b1:(d9 != x10_8)=true:=bne_iff_ne.mpr c14
        have H':=zaa.mk H
        clear H
        go_wp2_with (first|((with_reducible refine zah (f:=114) rfl ?_);refine zgl 53 Try.func114 #[.int .u64 (Go.bits .or .u64 x11_2 x12_2),.int .u64 (Go.bits .or .u64 x11_2 x12_2)] ?_;(with_reducible refine (zaZ.calls (Go.bits .or .u64 x11_2 x12_2) (Go.bits .or .u64 x11_2 x12_2) d9 e7 _ A12.out).mono ?_);rintro e w' ⟨rfl,⟨nd,rfl⟩⟩;refine ⟨_,rfl,?_⟩))
        go_roundg k2
        case measure=>have:=HJ8.out;have:=e8.out;omega
        case rel=>exact ⟨(x11_2),(x12_2 / 2),zF,zF,H',⟨by have:=HJ8.out;have:=e8.out;omega⟩,by repeat (first|exact zaS.refl _|apply zaS.step)⟩
     ·rw [if_neg c11] at H
      have c11b0:decide (0<x12_2)=false:=decide_eq_false c11
      clear c11
      obtain ⟨f6,A16,H⟩:=zob H
      replace H:(some f6)=some r:=H
      obtain rfl:=Option.some.inj H
      go_wp2_with (first|((with_reducible refine zah (f:=115) rfl ?_);refine zgl 73 Try.func115 #[.int .u64 0,.int .u64 x11_2,.bool false] ?_;(with_reducible refine (zbh.calls k2 0 x11_2 false f6 _ A16.out).mono ?_);rintro e w' ⟨rfl,⟨nd,rfl⟩⟩;refine ⟨_,rfl,?_⟩))
      go_ret
      exact zH
end Go.Proofs.Ytlilncnoohfcdaa.Da
