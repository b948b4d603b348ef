
import Derived.Test.YtlilncnoohfcdaaDax0
import Derived.Test.YtlilncnoohfcdaaDax3
import Derived.Test.YtlilncnoohfcdaaDax5
import Derived.Test.YtlilncnoohfcdaaDax6
namespace Go.Proofs.Ytlilncnoohfcdaa.Da
open Go.RowKit Go.Proofs.YtlilncnoohfcdaaW.PrintWords Go.Proofs.YtlilncnoohfcdaaW.PrintLast Go.Proofs.YtlilncnoohfcdaaW.PrintMore
attribute [local go_sem] zbr zbu zbD zbH zbq zbp zbv zbt   
set_option linter.unusedVariables false
set_option linter.unusedSimpArgs false
/-! ### num_Div: function 110 -/
def zbl.j0:Nat→Int→Int→Int→Bool→Option (Int)
 | 0,_,_,_,_=>none
 | k+1,x0,x1,x5,x15=>if x15=true then (some x5) else (if x1 > 0 then (if (wrap64 (x0 - (wrap64 (x5*x1))))≥(wrap64 (x1 - (wrap64 (x0 - (wrap64 (x5*x1)))))) then (some (wrap64 (x5+1))) else (if x1<0 then (if (wrap64 (x0 - (wrap64 (x5*x1))))≤(wrap64 (x1 - (wrap64 (x0 - (wrap64 (x5*x1)))))) then (some (wrap64 (x5+1))) else (some x5)) else (some x5))) else (if x1<0 then (if (wrap64 (x0 - (wrap64 (x5*x1))))≤(wrap64 (x1 - (wrap64 (x0 - (wrap64 (x5*x1)))))) then (some (wrap64 (x5+1))) else (some x5)) else (some x5)))
def zbl.f (k:Nat) (a0:Int) (a1:Int):Option (Int):=(zbR.f a0 a1).bind fun b9=>(if a1=0 then (zbl.j0 k a0 a1 b9 true) else (zbl.j0 k a0 a1 b9 (a1==(-1))))
set_option maxHeartbeats 8000000 in
set_option maxRecDepth 100000 in
theorem zbl.calls (k:Nat) (a0:Int) (a1:Int) (r:Int) (w:World) (h:zbl.f k a0 a1=some r) :
 Calls Try.prog 110 #[.int .i64 a0,.int .i64 a1] w fun e w'=>e = .returned (.int .i64 r)∧zaS w w':=by
 have H:((zbR.f a0 a1).bind fun b9=>(if a1=0 then (zbl.j0 k a0 a1 b9 true) else (zbl.j0 k a0 a1 b9 (a1==(-1)))))=some r:=h
 clear h
 obtain ⟨b9,A3,H⟩:=zob H
 replace H:(if a1=0 then (zbl.j0 k a0 a1 b9 true) else (zbl.j0 k a0 a1 b9 (a1==(-1))))=some r:=H
 have HC4:=zaa.mk H
 clear H
 go_enter Try.func110,Try.ntmps110
 go_upto_region 2 with (first|((with_reducible refine zah (f:=55) rfl ?_);refine zgl 9 Try.func55 #[.int .i64 a0,.int .i64 a1] ?_;(with_reducible refine (zbR.calls a0 a1 b9 _ A3.out).mono ?_);rintro e w' ⟨rfl,⟨nd,rfl⟩⟩;refine ⟨_,rfl,?_⟩))
 (try simp only [Act.put,List.setIfInBounds_toArray,List.set_cons_zero,List.set_cons_succ])
 go_cut [15] (fun v15 wc=>∃ (kq:Nat) (x15_3:Bool),v15 = .bool x15_3∧zaa (zbl.j0 kq a0 a1 b9 x15_3=some r)∧zaa (kq≤k)∧zaS w wc)
 case first=>
  have H:=HC4.out
  clear HC4
  by_cases c5:a1=0
  ·rw [if_pos c5] at H
   have c5b0:(a1==0)=true:=beq_iff_eq.mpr c5
   have c5b1:(a1 != 0)=false:=bne_eq_false_iff_eq.mpr c5
   clear c5
   (first|rw [c5b0]|(simp only [zbY,zcc];rw [c5b0])|skip)
   have H':=zaa.mk H
   clear H
   go_wp2
   go_meet
   case rel=>exact ⟨_,(true),zF,H',⟨by first|omega|exact Nat.le_refl _⟩,by repeat (first|exact zaS.refl _|apply zaS.step)⟩
  ·rw [if_neg c5] at H
   have c5b0:(a1==0)=false:=beq_eq_false_iff_ne.mpr c5
   have c5b1:(a1 != 0)=true:=bne_iff_ne.mpr c5
   (first|rw [c5b0]|(simp only [zbY,zcc];rw [c5b0])|skip)
   have H':=zaa.mk H
   clear H
   go_wp2
   go_meet
   case rel=>exact ⟨_,((a1==(-1))),zF,H',⟨by first|omega|exact Nat.le_refl _⟩,by repeat (first|exact zaS.refl _|apply zaS.step)⟩
 case rest=>
  clear HC4
  try clear c1
  try clear p2
  try clear c5
  try clear c5b0
  try clear c5b1
  obtain ⟨kq,x15_3,rfl,HA,HJ3,⟨mc3,rfl⟩⟩:=hcut
  cases kq with
  | zero=>exact absurd HA.out (by simp [zbl.j0])
  | succ kj3=>
   have H:=HA.out
   clear HA
   simp only [zbl.j0] at H
   by_cases c6:x15_3=true
   ·subst c6
    have H1:(some b9)=some r:=by rw [if_pos rfl] at H;exact H
    clear H
    have H:=H1
    clear H1
    obtain rfl:=Option.some.inj H
    go_wp2
    go_ret
    exact zH
   ·replace c6:=Bool.eq_false_iff.mpr c6
    subst c6
    have H1:(if a1 > 0 then (if (wrap64 (a0 - (wrap64 (b9*a1))))≥(wrap64 (a1 - (wrap64 (a0 - (wrap64 (b9*a1)))))) then (some (wrap64 (b9+1))) else (if a1<0 then (if (wrap64 (a0 - (wrap64 (b9*a1))))≤(wrap64 (a1 - (wrap64 (a0 - (wrap64 (b9*a1)))))) then (some (wrap64 (b9+1))) else (some b9)) else (some b9))) else (if a1<0 then (if (wrap64 (a0 - (wrap64 (b9*a1))))≤(wrap64 (a1 - (wrap64 (a0 - (wrap64 (b9*a1)))))) then (some (wrap64 (b9+1))) else (some b9)) else (some b9)))=some r:=by rw [if_neg (show ¬ (false=true) by decide)] at H;exact H
    clear H
    have H:=H1
    clear H1
    by_cases c7:a1 > 0
    ·rw [if_pos c7] at H
     have c7b0:decide (0<a1)=true:=decide_eq_true c7
     clear c7
     by_cases c8:(wrap64 (a0 - (wrap64 (b9*a1))))≥(wrap64 (a1 - (wrap64 (a0 - (wrap64 (b9*a1))))))
     ·rw [if_pos c8] at H
      have c8b0:decide ((wrap64 (a1 - (wrap64 (a0 - (wrap64 (b9*a1))))))≤(wrap64 (a0 - (wrap64 (b9*a1)))))=true:=decide_eq_true c8
      clear c8
      obtain rfl:=Option.some.inj H
      go_wp2
      go_ret
      exact zH
     ·rw [if_neg c8] at H
      have c8b0:decide ((wrap64 (a1 - (wrap64 (a0 - (wrap64 (b9*a1))))))≤(wrap64 (a0 - (wrap64 (b9*a1)))))=false:=decide_eq_false c8
      clear c8
      by_cases c9:a1<0
      ·rw [if_pos c9] at H
       have c9b0:decide (a1<0)=true:=decide_eq_true c9
       clear c9
       by_cases c10:(wrap64 (a0 - (wrap64 (b9*a1))))≤(wrap64 (a1 - (wrap64 (a0 - (wrap64 (b9*a1))))))
       ·rw [if_pos c10] at H
        have c10b0:decide ((wrap64 (a0 - (wrap64 (b9*a1))))≤(wrap64 (a1 - (wrap64 (a0 - (wrap64 (b9*a1)))))))=true:=decide_eq_true c10
        clear c10
        obtain rfl:=Option.some.inj H
        go_wp2
        go_ret
        exact zH
       ·rw [if_neg c10] at H
        have c10b0:decide ((wrap64 (a0 - (wrap64 (b9*a1))))≤(wrap64 (a1 - (wrap64 (a0 - (wrap64 (b9*a1)))))))=false:=decide_eq_false c10
        clear c10
        obtain rfl:=Option.some.inj H
        go_wp2
        go_ret
        exact zH
      ·rw [if_neg c9] at H
       have c9b0:decide (a1<0)=false:=decide_eq_false c9
       clear c9
       obtain rfl:=Option.some.inj H
       go_wp2
       go_ret
       exact zH
    ·rw [if_neg c7] at H
     have c7b0:decide (0<a1)=false:=decide_eq_false c7
     clear c7
     by_cases c11:a1<0
     ·rw [if_pos c11] at H
      have c11b0:decide (a1<0)=true:=decide_eq_true c11
      clear c11
      by_cases c12:(wrap64 (a0 - (wrap64 (b9*a1))))≤(wrap64 (a1 - (wrap64 (a0 - (wrap64 (b9*a1))))))
      ·rw [if_pos c12] at H
       have c12b0:decide ((wrap64 (a0 - (wrap64 (b9*a1))))≤(wrap64 (a1 - (wrap64 (a0 - (wrap64 (b9*a1)))))))=true:=decide_eq_true c12
       clear c12
       obtain rfl:=Option.some.inj H
       go_wp2
       go_ret
       exact zH
      ·rw [if_neg c12] at H
       have c12b0:decide ((wrap64 (a0 - (wrap64 (b9*a1))))≤(wrap64 (a1 - (wrap64 (a0 - (wrap64 (b9*a1)))))))=false:=decide_eq_false c12
       clear c12
       obtain rfl:=Option.some.inj H
       go_wp2
       go_ret
       exact zH
     ·rw [if_neg c11] at H
      have c11b0:decide (a1<0)=false:=decide_eq_false c11
      clear c11
      obtain rfl:=Option.some.inj H
      go_wp2
      go_ret
      exact zH
def zbQ.f (a0:Int) (a1:Int):Option (Int×Int):=some (IntKind.u64.wrap ((IntKind.u64.wrap ((IntKind.u64.wrap ((a0 / 4294967296)*(a1 / 4294967296)))+((IntKind.u64.wrap ((IntKind.u64.wrap ((a0 / 4294967296)*(Go.bits .and .u64 a1 4294967295)))+((IntKind.u64.wrap ((Go.bits .and .u64 a0 4294967295)*(Go.bits .and .u64 a1 4294967295))) / 4294967296))) / 4294967296)))+((IntKind.u64.wrap ((IntKind.u64.wrap ((Go.bits .and .u64 a0 4294967295)*(a1 / 4294967296)))+(Go.bits .and .u64 (IntKind.u64.wrap ((IntKind.u64.wrap ((a0 / 4294967296)*(Go.bits .and .u64 a1 4294967295)))+((IntKind.u64.wrap ((Go.bits .and .u64 a0 4294967295)*(Go.bits .and .u64 a1 4294967295))) / 4294967296))) 4294967295))) / 4294967296)),Go.bits .or .u64 (IntKind.u64.wrap ((IntKind.u64.wrap ((IntKind.u64.wrap ((Go.bits .and .u64 a0 4294967295)*(a1 / 4294967296)))+(Go.bits .and .u64 (IntKind.u64.wrap ((IntKind.u64.wrap ((a0 / 4294967296)*(Go.bits .and .u64 a1 4294967295)))+((IntKind.u64.wrap ((Go.bits .and .u64 a0 4294967295)*(Go.bits .and .u64 a1 4294967295))) / 4294967296))) 4294967295)))*4294967296)) (Go.bits .and .u64 (IntKind.u64.wrap ((Go.bits .and .u64 a0 4294967295)*(Go.bits .and .u64 a1 4294967295))) 4294967295))
set_option maxHeartbeats 8000000 in
set_option maxRecDepth 100000 in
theorem zbQ.calls (a0:Int) (a1:Int) (r1:Int) (r2:Int) (w:World) (h:zbQ.f a0 a1=some (r1,r2)) :
 Calls Try.prog 141 #[.int .u64 a0,.int .u64 a1] w fun e w'=>e = .returned (.tuple #[.int .u64 r1,.int .u64 r2])∧zaS w w':=by
 have H:(some (IntKind.u64.wrap ((IntKind.u64.wrap ((IntKind.u64.wrap ((a0 / 4294967296)*(a1 / 4294967296)))+((IntKind.u64.wrap ((IntKind.u64.wrap ((a0 / 4294967296)*(Go.bits .and .u64 a1 4294967295)))+((IntKind.u64.wrap ((Go.bits .and .u64 a0 4294967295)*(Go.bits .and .u64 a1 4294967295))) / 4294967296))) / 4294967296)))+((IntKind.u64.wrap ((IntKind.u64.wrap ((Go.bits .and .u64 a0 4294967295)*(a1 / 4294967296)))+(Go.bits .and .u64 (IntKind.u64.wrap ((IntKind.u64.wrap ((a0 / 4294967296)*(Go.bits .and .u64 a1 4294967295)))+((IntKind.u64.wrap ((Go.bits .and .u64 a0 4294967295)*(Go.bits .and .u64 a1 4294967295))) / 4294967296))) 4294967295))) / 4294967296)),Go.bits .or .u64 (IntKind.u64.wrap ((IntKind.u64.wrap ((IntKind.u64.wrap ((Go.bits .and .u64 a0 4294967295)*(a1 / 4294967296)))+(Go.bits .and .u64 (IntKind.u64.wrap ((IntKind.u64.wrap ((a0 / 4294967296)*(Go.bits .and .u64 a1 4294967295)))+((IntKind.u64.wrap ((Go.bits .and .u64 a0 4294967295)*(Go.bits .and .u64 a1 4294967295))) / 4294967296))) 4294967295)))*4294967296)) (Go.bits .and .u64 (IntKind.u64.wrap ((Go.bits .and .u64 a0 4294967295)*(Go.bits .and .u64 a1 4294967295))) 4294967295)))=some (r1,r2):=h
 clear h
 simp only [Option.some.injEq,Prod.mk.injEq] at H
 obtain ⟨rfl,rfl⟩:=H
 go_enter Try.func141,Try.ntmps141
 go_wp2
 go_ret2
 exact zH
def zbI.f (a0:Int):Option (Int):=if a0<0 then (some (IntKind.u64.wrap (-(IntKind.u64.wrap (a0))))) else (some (IntKind.u64.wrap (a0)))
set_option maxHeartbeats 8000000 in
set_option maxRecDepth 100000 in
theorem zbI.calls (a0:Int) (r:Int) (w:World) (h:zbI.f a0=some r) :
 Calls Try.prog 142 #[.int .i64 a0] w fun e w'=>e = .returned (.int .u64 r)∧zaS w w':=by
 have H:(if a0<0 then (some (IntKind.u64.wrap (-(IntKind.u64.wrap (a0))))) else (some (IntKind.u64.wrap (a0))))=some r:=h
 clear h
 by_cases c2:a0<0
 ·rw [if_pos c2] at H
  have c2b0:decide (a0<0)=true:=decide_eq_true c2
  clear c2
  obtain rfl:=Option.some.inj H
  go_enter Try.func142,Try.ntmps142
  go_wp2
  go_ret
  exact zH
 ·rw [if_neg c2] at H
  have c2b0:decide (a0<0)=false:=decide_eq_false c2
  clear c2
  obtain rfl:=Option.some.inj H
  go_enter Try.func142,Try.ntmps142
  go_wp2
  go_ret
  exact zH
def zbo.l0:Nat→Int→Int→Int→Int→Option (Int)
 | 0,_,_,_,_=>none
 | k+1,x0,x1,x5,x6=>if x6 > 0 then ((zbQ.f (Go.bits .or .u64 x5 x6) (Go.bits .or .u64 x5 x6)).bind fun i9=>(if i9.1<x0 then (zbo.l0 k x0 x1 (Go.bits .or .u64 x5 x6) (x6 / 2)) else (if i9.1=x0 then (if i9.2≤x1 then (zbo.l0 k x0 x1 (Go.bits .or .u64 x5 x6) (x6 / 2)) else (zbo.l0 k x0 x1 x5 (x6 / 2))) else (zbo.l0 k x0 x1 x5 (x6 / 2))))) else (some (wrap64 (x5)))
def zbo.f (k:Nat) (a0:Int) (a1:Int):Option (Int):=zbo.l0 k a0 a1 0 4611686018427387904
set_option maxHeartbeats 8000000 in
set_option maxRecDepth 100000 in
theorem zbo.calls (k:Nat) (a0:Int) (a1:Int) (r:Int) (w:World) (h:zbo.f k a0 a1=some r) :
 Calls Try.prog 143 #[.int .u64 a0,.int .u64 a1] w fun e w'=>e = .returned (.int .i64 r)∧zaS w w':=by
 have H:(zbo.l0 k a0 a1 0 4611686018427387904)=some r:=h
 clear h
 have H':=zaa.mk H
 clear H
 go_enter Try.func143,Try.ntmps143
 go_wp2
 go_loopg [5,6] k (fun kq v5 v6 w'=>∃ (x5_1:Int) (x6_1:Int),v5 = .int .u64 x5_1∧v6 = .int .u64 x6_1∧zaa (zbo.l0 kq a0 a1 x5_1 x6_1=some r)∧zaa (kq≤k)∧zaS w w')
 case atStart=>exact ⟨(0),(4611686018427387904),zF,zF,H',⟨Nat.le_refl _⟩,by repeat (first|exact zaS.refl _|apply zaS.step)⟩
 case round=>
  clear H'
  try clear c1
  try clear p2
  obtain ⟨x5_1,x6_1,rfl,rfl,HA,i8,⟨m1,rfl⟩⟩:=hrel
  cases gk with
  | zero=>exact absurd HA.out (by simp [zbo.l0])
  | succ k1=>
   have H:=HA.out
   clear HA
   simp only [zbo.l0] at H
   by_cases c3:x6_1 > 0
   ·rw [if_pos c3] at H
    have c3b0:decide (0<x6_1)=true:=decide_eq_true c3
    clear c3
    obtain ⟨⟨e5,i4⟩,A4,H⟩:=zob H
    replace H:(if e5<a0 then (zbo.l0 k1 a0 a1 (Go.bits .or .u64 x5_1 x6_1) (x6_1 / 2)) else (if e5=a0 then (if i4≤a1 then (zbo.l0 k1 a0 a1 (Go.bits .or .u64 x5_1 x6_1) (x6_1 / 2)) else (zbo.l0 k1 a0 a1 x5_1 (x6_1 / 2))) else (zbo.l0 k1 a0 a1 x5_1 (x6_1 / 2))))=some r:=H
    by_cases c5:e5<a0
    ·rw [if_pos c5] at H
     have c5b0:decide (e5<a0)=true:=decide_eq_true c5
     clear c5
     have H':=zaa.mk H
     clear H
     go_wp2_with (first|((with_reducible refine zah (f:=141) rfl ?_);refine zgl 20 Try.func141 #[.int .u64 (Go.bits .or .u64 x5_1 x6_1),.int .u64 (Go.bits .or .u64 x5_1 x6_1)] ?_;(with_reducible refine (zbQ.calls (Go.bits .or .u64 x5_1 x6_1) (Go.bits .or .u64 x5_1 x6_1) e5 i4 _ A4.out).mono ?_);rintro e w' ⟨rfl,⟨nd,rfl⟩⟩;refine ⟨_,rfl,?_⟩))
     go_roundg k1
     case measure=>have:=i8.out;omega
     case rel=>exact ⟨(Go.bits .or .u64 x5_1 x6_1),(x6_1 / 2),zF,zF,H',⟨by have:=i8.out;omega⟩,by repeat (first|exact zaS.refl _|apply zaS.step)⟩
    ·rw [if_neg c5] at H
     have c5b0:decide (e5<a0)=false:=decide_eq_false c5
     clear c5
     by_cases c6:e5=a0
     ·rw [if_pos c6] at H
      have c6b0:(e5==a0)=true:=beq_iff_eq.mpr c6
      have c6b1:(e5 != a0)=false:=bne_eq_false_iff_eq.mpr c6
      clear c6
      by_cases c7:i4≤a1
      ·rw [if_pos c7] at H
       have c7b0:decide (i4≤a1)=true:=decide_eq_true c7
       clear c7
       have H':=zaa.mk H
       clear H
       go_wp2_with (first|((with_reducible refine zah (f:=141) rfl ?_);refine zgl 20 Try.func141 #[.int .u64 (Go.bits .or .u64 x5_1 x6_1),.int .u64 (Go.bits .or .u64 x5_1 x6_1)] ?_;(with_reducible refine (zbQ.calls (Go.bits .or .u64 x5_1 x6_1) (Go.bits .or .u64 x5_1 x6_1) e5 i4 _ A4.out).mono ?_);rintro e w' ⟨rfl,⟨nd,rfl⟩⟩;refine ⟨_,rfl,?_⟩))
       go_roundg k1
       case measure=>have:=i8.out;omega
       case rel=>exact ⟨(Go.bits .or .u64 x5_1 x6_1),(x6_1 / 2),zF,zF,H',⟨by have:=i8.out;omega⟩,by repeat (first|exact zaS.refl _|apply zaS.step)⟩
      ·rw [if_neg c7] at H
       have c7b0:decide (i4≤a1)=false:=decide_eq_false c7
       clear c7
       have H':=zaa.mk H
       clear H
       go_wp2_with (first|((with_reducible refine zah (f:=141) rfl ?_);refine zgl 20 Try.func141 #[.int .u64 (Go.bits .or .u64 x5_1 x6_1),.int .u64 (Go.bits .or .u64 x5_1 x6_1)] ?_;(with_reducible refine (zbQ.calls (Go.bits .or .u64 x5_1 x6_1) (Go.bits .or .u64 x5_1 x6_1) e5 i4 _ A4.out).mono ?_);rintro e w' ⟨rfl,⟨nd,rfl⟩⟩;refine ⟨_,rfl,?_⟩))
       go_roundg k1
       case measure=>have:=i8.out;omega
       case rel=>exact ⟨(x5_1),(x6_1 / 2),zF,zF,H',⟨by have:=i8.out;omega⟩,by repeat (first|exact zaS.refl _|apply zaS.step)⟩
     ·rw [if_neg c6] at H
      have c6b0:(e5==a0)=false:=beq_eq_false_iff_ne.mpr c6
      have c6b1:(e5 != a0)=true:=bne_iff_ne.mpr c6
      have H':=zaa.mk H
      clear H
      go_wp2_with (first|((with_reducible refine zah (f:=141) rfl ?_);refine zgl 20 Try.func141 #[.int .u64 (Go.bits .or .u64 x5_1 x6_1),.int .u64 (Go.bits .or .u64 x5_1 x6_1)] ?_;(with_reducible refine (zbQ.calls (Go.bits .or .u64 x5_1 x6_1) (Go.bits .or .u64 x5_1 x6_1) e5 i4 _ A4.out).mono ?_);rintro e w' ⟨rfl,⟨nd,rfl⟩⟩;refine ⟨_,rfl,?_⟩))
      go_roundg k1
      case measure=>have:=i8.out;omega
      case rel=>exact ⟨(x5_1),(x6_1 / 2),zF,zF,H',⟨by have:=i8.out;omega⟩,by repeat (first|exact zaS.refl _|apply zaS.step)⟩
   ·rw [if_neg c3] at H
    have c3b0:decide (0<x6_1)=false:=decide_eq_false c3
    clear c3
    obtain rfl:=Option.some.inj H
    go_wp2
    go_ret
    exact zH
def zce.f (k:Nat) (a0:Int) (a1:Int):Option (Int):=(zbI.f a0).bind fun e8=>((zbI.f a0).bind fun e7=>((zbQ.f e8 e7).bind fun d5=>((zbI.f a1).bind fun d8=>((zbI.f a1).bind fun d7=>((zbQ.f d8 d7).bind fun b8=>(if (IntKind.u64.wrap (d5.2+b8.2))<d5.2 then ((zbo.f k (IntKind.u64.wrap ((IntKind.u64.wrap (d5.1+b8.1))+1)) (IntKind.u64.wrap (d5.2+b8.2))).bind fun d9=>(some d9)) else ((zbo.f k (IntKind.u64.wrap (d5.1+b8.1)) (IntKind.u64.wrap (d5.2+b8.2))).bind fun e0=>(some e0))))))))
set_option maxHeartbeats 8000000 in
set_option maxRecDepth 100000 in
theorem zce.calls (k:Nat) (a0:Int) (a1:Int) (r:Int) (w:World) (h:zce.f k a0 a1=some r) :
 Calls Try.prog 111 #[.int .i64 a0,.int .i64 a1] w fun e w'=>e = .returned (.int .i64 r)∧zaS w w':=by
 have H:((zbI.f a0).bind fun e8=>((zbI.f a0).bind fun e7=>((zbQ.f e8 e7).bind fun d5=>((zbI.f a1).bind fun d8=>((zbI.f a1).bind fun d7=>((zbQ.f d8 d7).bind fun b8=>(if (IntKind.u64.wrap (d5.2+b8.2))<d5.2 then ((zbo.f k (IntKind.u64.wrap ((IntKind.u64.wrap (d5.1+b8.1))+1)) (IntKind.u64.wrap (d5.2+b8.2))).bind fun d9=>(some d9)) else ((zbo.f k (IntKind.u64.wrap (d5.1+b8.1)) (IntKind.u64.wrap (d5.2+b8.2))).bind fun e0=>(some e0)))))))))=some r:=h
 clear h
 obtain ⟨e8,A3,H⟩:=zob H
 replace H:((zbI.f a0).bind fun e7=>((zbQ.f e8 e7).bind fun d5=>((zbI.f a1).bind fun d8=>((zbI.f a1).bind fun d7=>((zbQ.f d8 d7).bind fun b8=>(if (IntKind.u64.wrap (d5.2+b8.2))<d5.2 then ((zbo.f k (IntKind.u64.wrap ((IntKind.u64.wrap (d5.1+b8.1))+1)) (IntKind.u64.wrap (d5.2+b8.2))).bind fun d9=>(some d9)) else ((zbo.f k (IntKind.u64.wrap (d5.1+b8.1)) (IntKind.u64.wrap (d5.2+b8.2))).bind fun e0=>(some e0))))))))=some r:=H
 obtain ⟨e7,A4,H⟩:=zob H
 replace H:((zbQ.f e8 e7).bind fun d5=>((zbI.f a1).bind fun d8=>((zbI.f a1).bind fun d7=>((zbQ.f d8 d7).bind fun b8=>(if (IntKind.u64.wrap (d5.2+b8.2))<d5.2 then ((zbo.f k (IntKind.u64.wrap ((IntKind.u64.wrap (d5.1+b8.1))+1)) (IntKind.u64.wrap (d5.2+b8.2))).bind fun d9=>(some d9)) else ((zbo.f k (IntKind.u64.wrap (d5.1+b8.1)) (IntKind.u64.wrap (d5.2+b8.2))).bind fun e0=>(some e0)))))))=some r:=H
 obtain ⟨⟨e6,d6⟩,A5,H⟩:=zob H
 replace H:((zbI.f a1).bind fun d8=>((zbI.f a1).bind fun d7=>((zbQ.f d8 d7).bind fun b8=>(if (IntKind.u64.wrap (d6+b8.2))<d6 then ((zbo.f k (IntKind.u64.wrap ((IntKind.u64.wrap (e6+b8.1))+1)) (IntKind.u64.wrap (d6+b8.2))).bind fun d9=>(some d9)) else ((zbo.f k (IntKind.u64.wrap (e6+b8.1)) (IntKind.u64.wrap (d6+b8.2))).bind fun e0=>(some e0))))))=some r:=H
 obtain ⟨d8,A6,H⟩:=zob H
 replace H:((zbI.f a1).bind fun d7=>((zbQ.f d8 d7).bind fun b8=>(if (IntKind.u64.wrap (d6+b8.2))<d6 then ((zbo.f k (IntKind.u64.wrap ((IntKind.u64.wrap (e6+b8.1))+1)) (IntKind.u64.wrap (d6+b8.2))).bind fun d9=>(some d9)) else ((zbo.f k (IntKind.u64.wrap (e6+b8.1)) (IntKind.u64.wrap (d6+b8.2))).bind fun e0=>(some e0)))))=some r:=H
 obtain ⟨d7,A7,H⟩:=zob H
 replace H:((zbQ.f d8 d7).bind fun b8=>(if (IntKind.u64.wrap (d6+b8.2))<d6 then ((zbo.f k (IntKind.u64.wrap ((IntKind.u64.wrap (e6+b8.1))+1)) (IntKind.u64.wrap (d6+b8.2))).bind fun d9=>(some d9)) else ((zbo.f k (IntKind.u64.wrap (e6+b8.1)) (IntKind.u64.wrap (d6+b8.2))).bind fun e0=>(some e0))))=some r:=H
 obtain ⟨⟨i5,e9⟩,A8,H⟩:=zob H
 replace H:(if (IntKind.u64.wrap (d6+e9))<d6 then ((zbo.f k (IntKind.u64.wrap ((IntKind.u64.wrap (e6+i5))+1)) (IntKind.u64.wrap (d6+e9))).bind fun d9=>(some d9)) else ((zbo.f k (IntKind.u64.wrap (e6+i5)) (IntKind.u64.wrap (d6+e9))).bind fun e0=>(some e0)))=some r:=H
 by_cases c9:(IntKind.u64.wrap (d6+e9))<d6
 ·rw [if_pos c9] at H
  have c9b0:decide ((IntKind.u64.wrap (d6+e9))<d6)=true:=decide_eq_true c9
  clear c9
  obtain ⟨d9,A10,H⟩:=zob H
  replace H:(some d9)=some r:=H
  obtain rfl:=Option.some.inj H
  go_enter Try.func111,Try.ntmps111
  go_wp2_with (first|((with_reducible refine zah (f:=142) rfl ?_);refine zgl 13 Try.func142 #[.int .i64 a0] ?_;(with_reducible refine (zbI.calls a0 e8 _ A3.out).mono ?_);rintro e w' ⟨rfl,⟨nd,rfl⟩⟩;refine ⟨_,rfl,?_⟩)|((with_reducible refine zah (f:=142) rfl ?_);refine zgl 15 Try.func142 #[.int .i64 a0] ?_;(with_reducible refine (zbI.calls a0 e7 _ A4.out).mono ?_);rintro e w' ⟨rfl,⟨nd,rfl⟩⟩;refine ⟨_,rfl,?_⟩)|((with_reducible refine zah (f:=141) rfl ?_);refine zgl 16 Try.func141 #[.int .u64 e8,.int .u64 e7] ?_;(with_reducible refine (zbQ.calls e8 e7 e6 d6 _ A5.out).mono ?_);rintro e w' ⟨rfl,⟨nd,rfl⟩⟩;refine ⟨_,rfl,?_⟩)|((with_reducible refine zah (f:=142) rfl ?_);refine zgl 21 Try.func142 #[.int .i64 a1] ?_;(with_reducible refine (zbI.calls a1 d8 _ A6.out).mono ?_);rintro e w' ⟨rfl,⟨nd,rfl⟩⟩;refine ⟨_,rfl,?_⟩)|((with_reducible refine zah (f:=142) rfl ?_);refine zgl 23 Try.func142 #[.int .i64 a1] ?_;(with_reducible refine (zbI.calls a1 d7 _ A7.out).mono ?_);rintro e w' ⟨rfl,⟨nd,rfl⟩⟩;refine ⟨_,rfl,?_⟩)|((with_reducible refine zah (f:=141) rfl ?_);refine zgl 24 Try.func141 #[.int .u64 d8,.int .u64 d7] ?_;(with_reducible refine (zbQ.calls d8 d7 i5 e9 _ A8.out).mono ?_);rintro e w' ⟨rfl,⟨nd,rfl⟩⟩;refine ⟨_,rfl,?_⟩)|((with_reducible refine zah (f:=143) rfl ?_);refine zgl 40 Try.func143 #[.int .u64 (IntKind.u64.wrap ((IntKind.u64.wrap (e6+i5))+1)),.int .u64 (IntKind.u64.wrap (d6+e9))] ?_;(with_reducible refine (zbo.calls k (IntKind.u64.wrap ((IntKind.u64.wrap (e6+i5))+1)) (IntKind.u64.wrap (d6+e9)) d9 _ A10.out).mono ?_);rintro e w' ⟨rfl,⟨nd,rfl⟩⟩;refine ⟨_,rfl,?_⟩))
  go_ret
  exact zH
 ·rw [if_neg c9] at H
  have c9b0:decide ((IntKind.u64.wrap (d6+e9))<d6)=false:=decide_eq_false c9
  clear c9
  obtain ⟨e0,A11,H⟩:=zob H
  replace H:(some e0)=some r:=H
  obtain rfl:=Option.some.inj H
  go_enter Try.func111,Try.ntmps111
  go_wp2_with (first|((with_reducible refine zah (f:=142) rfl ?_);refine zgl 13 Try.func142 #[.int .i64 a0] ?_;(with_reducible refine (zbI.calls a0 e8 _ A3.out).mono ?_);rintro e w' ⟨rfl,⟨nd,rfl⟩⟩;refine ⟨_,rfl,?_⟩)|((with_reducible refine zah (f:=142) rfl ?_);refine zgl 15 Try.func142 #[.int .i64 a0] ?_;(with_reducible refine (zbI.calls a0 e7 _ A4.out).mono ?_);rintro e w' ⟨rfl,⟨nd,rfl⟩⟩;refine ⟨_,rfl,?_⟩)|((with_reducible refine zah (f:=141) rfl ?_);refine zgl 16 Try.func141 #[.int .u64 e8,.int .u64 e7] ?_;(with_reducible refine (zbQ.calls e8 e7 e6 d6 _ A5.out).mono ?_);rintro e w' ⟨rfl,⟨nd,rfl⟩⟩;refine ⟨_,rfl,?_⟩)|((with_reducible refine zah (f:=142) rfl ?_);refine zgl 21 Try.func142 #[.int .i64 a1] ?_;(with_reducible refine (zbI.calls a1 d8 _ A6.out).mono ?_);rintro e w' ⟨rfl,⟨nd,rfl⟩⟩;refine ⟨_,rfl,?_⟩)|((with_reducible refine zah (f:=142) rfl ?_);refine zgl 23 Try.func142 #[.int .i64 a1] ?_;(with_reducible refine (zbI.calls a1 d7 _ A7.out).mono ?_);rintro e w' ⟨rfl,⟨nd,rfl⟩⟩;refine ⟨_,rfl,?_⟩)|((with_reducible refine zah (f:=141) rfl ?_);refine zgl 24 Try.func141 #[.int .u64 d8,.int .u64 d7] ?_;(with_reducible refine (zbQ.calls d8 d7 i5 e9 _ A8.out).mono ?_);rintro e w' ⟨rfl,⟨nd,rfl⟩⟩;refine ⟨_,rfl,?_⟩)|((with_reducible refine zah (f:=143) rfl ?_);refine zgl 40 Try.func143 #[.int .u64 (IntKind.u64.wrap (e6+i5)),.int .u64 (IntKind.u64.wrap (d6+e9))] ?_;(with_reducible refine (zbo.calls k (IntKind.u64.wrap (e6+i5)) (IntKind.u64.wrap (d6+e9)) e0 _ A11.out).mono ?_);rintro e w' ⟨rfl,⟨nd,rfl⟩⟩;refine ⟨_,rfl,?_⟩))
  go_ret
  exact zH
def zck.f (a0:Int) (a1:Int):Option (Bool):=if a0≥(-1048576) then (if a0≤1048576 then (if a1≥0 then (some (decide (a1≤(wrap64 (1048576 - a0))))) else (some false)) else (some false)) else (some false)
set_option maxHeartbeats 8000000 in
set_option maxRecDepth 100000 in
theorem zck.calls (a0:Int) (a1:Int) (r:Bool) (w:World) (h:zck.f a0 a1=some r) :
 Calls Try.prog 108 #[.int .i64 a0,.int .i64 a1] w fun e w'=>e = .returned (.bool r)∧zaS w w':=by
 have H:(if a0≥(-1048576) then (if a0≤1048576 then (if a1≥0 then (some (decide (a1≤(wrap64 (1048576 - a0))))) else (some false)) else (some false)) else (some false))=some r:=h
 clear h
 by_cases c3:a0≥(-1048576)
 ·rw [if_pos c3] at H
  have c3b0:decide ((-1048576)≤a0)=true:=decide_eq_true c3
  clear c3
  by_cases c4:a0≤1048576
  ·rw [if_pos c4] at H
   have c4b0:decide (a0≤1048576)=true:=decide_eq_true c4
   clear c4
   by_cases c5:a1≥0
   ·rw [if_pos c5] at H
    have c5b0:decide (0≤a1)=true:=decide_eq_true c5
    clear c5
    obtain rfl:=Option.some.inj H
    go_enter Try.func108,Try.ntmps108
    go_wp2
    go_ret
    exact zH
   ·rw [if_neg c5] at H
    have c5b0:decide (0≤a1)=false:=decide_eq_false c5
    clear c5
    obtain rfl:=Option.some.inj H
    go_enter Try.func108,Try.ntmps108
    go_wp2
    go_ret
    exact zH
  ·rw [if_neg c4] at H
   have c4b0:decide (a0≤1048576)=false:=decide_eq_false c4
   clear c4
   obtain rfl:=Option.some.inj H
   go_enter Try.func108,Try.ntmps108
   go_wp2
   go_ret
   exact zH
 ·rw [if_neg c3] at H
  have c3b0:decide ((-1048576)≤a0)=false:=decide_eq_false c3
  clear c3
  obtain rfl:=Option.some.inj H
  go_enter Try.func108,Try.ntmps108
  go_wp2
  go_ret
  exact zH
def zcv.f (f5:Int) (f7:Int) (f6:Int) (g9:Int):Option (Bool):=(zck.f f5 f6).bind fun i7=>(if i7=true then ((zck.f f7 g9).bind fun i3=>(some i3)) else (some false))
set_option maxHeartbeats 8000000 in
set_option maxRecDepth 100000 in
theorem zcv.calls (f5:Int) (f7:Int) (f6:Int) (g9:Int) (r:Bool) (w:World) (h:zcv.f f5 f7 f6 g9=some r) :
 Calls Try.prog 59 #[.agg #[.int .i64 f5,.int .i64 f7,.int .i64 f6,.int .i64 g9]] w fun e w'=>e = .returned (.bool r)∧Below w.heap.size w w':=by
 have hu32:=Try.underlying32
 have HB:=zaa.mk (Below.refl w.heap.size w)
 have H:((zck.f f5 f6).bind fun i7=>(if i7=true then ((zck.f f7 g9).bind fun i3=>(some i3)) else (some false)))=some r:=h
 clear h
 obtain ⟨i7,A2,H⟩:=zob H
 replace H:(if i7=true then ((zck.f f7 g9).bind fun i3=>(some i3)) else (some false))=some r:=H
 by_cases c3:i7=true
 ·subst c3
  have H1:((zck.f f7 g9).bind fun i3=>(some i3))=some r:=by rw [if_pos rfl] at H;exact H
  clear H
  have H:=H1
  clear H1
  obtain ⟨i3,A4,H⟩:=zob H
  replace H:(some i3)=some r:=H
  obtain rfl:=Option.some.inj H
  go_enter Try.func59,Try.ntmps59
  go_wp2_with (first|((with_reducible refine zaC (N:=1) rfl ?_);refine zbx (N:=1) #[.int .i64 f5,.int .i64 f7,.int .i64 f6,.int .i64 g9] 32 ?_;intro j2 hg w5 hbox hb;have n0_:=zaa.mk (zae (zL HB.out) hb);have n1_:=zaa.mk (hbox);have n2_:=zaa.mk ((zS hg (zL HB.out):w.heap.size≤j2));have n3_:=n2_;clear HB;have HB:=n0_;have i6:=n1_;have j3:=n2_;have j4:=n3_;clear n0_ n1_ n2_ n3_;clear hb hbox hg;obtain ⟨j5,j6,j7,j8⟩:=zD4 i6.out;obtain ⟨j9,k3,k4,k5⟩:=zE4 i6.out)|((with_reducible refine zah (f:=108) rfl ?_);refine zgl 7 Try.func108 #[.int .i64 f5,.int .i64 f6] ?_;(with_reducible refine (zck.calls f5 f6 true _ A2.out).mono ?_);rintro e w' ⟨rfl,⟨nd,rfl⟩⟩;refine ⟨_,rfl,?_⟩)|(go_at_call 108;(with_reducible refine (zck.calls f7 g9 i3 _ A4.out).mono ?_);rintro e w' ⟨rfl,⟨nd,rfl⟩⟩))
  go_ret
  exact zG
 ·replace c3:=Bool.eq_false_iff.mpr c3
  subst c3
  have H1:(some false)=some r:=by rw [if_neg (show ¬ (false=true) by decide)] at H;exact H
  clear H
  have H:=H1
  clear H1
  obtain rfl:=Option.some.inj H
  go_enter Try.func59,Try.ntmps59
  go_wp2_with (first|((with_reducible refine zaC (N:=1) rfl ?_);refine zbx (N:=1) #[.int .i64 f5,.int .i64 f7,.int .i64 f6,.int .i64 g9] 32 ?_;intro j2 hg w7 hbox hb;have n0_:=zaa.mk (zae (zL HB.out) hb);have n1_:=zaa.mk (hbox);have n2_:=zaa.mk ((zS hg (zL HB.out):w.heap.size≤j2));have n3_:=n2_;clear HB;have HB:=n0_;have i6:=n1_;have j3:=n2_;have j4:=n3_;clear n0_ n1_ n2_ n3_;clear hb hbox hg;obtain ⟨k6,k7,k8,k9⟩:=zD4 i6.out;obtain ⟨l3,l4,l5,l6⟩:=zE4 i6.out)|((with_reducible refine zah (f:=108) rfl ?_);refine zgl 7 Try.func108 #[.int .i64 f5,.int .i64 f6] ?_;(with_reducible refine (zck.calls f5 f6 false _ A2.out).mono ?_);rintro e w' ⟨rfl,⟨nd,rfl⟩⟩;refine ⟨_,rfl,?_⟩))
  go_ret
  exact zG
end Go.Proofs.Ytlilncnoohfcdaa.Da
