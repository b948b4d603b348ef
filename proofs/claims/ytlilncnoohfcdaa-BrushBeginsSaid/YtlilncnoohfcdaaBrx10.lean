
import Derived.Test.YtlilncnoohfcdaaDax2
import Derived.Test.YtlilncnoohfcdaaBrx0
import Derived.Test.YtlilncnoohfcdaaBrx1
namespace Go.Proofs.Ytlilncnoohfcdaa.Br
open Go.RowKit Go.Proofs.YtlilncnoohfcdaaW.PrintWords Go.Proofs.YtlilncnoohfcdaaW.PrintLast Go.Proofs.YtlilncnoohfcdaaW.PrintMore Go.Proofs.Ytlilncnoohfcdaa.Da
attribute [local go_sem] zbr zbu zbD zbH zbq zbp zbv zbt   
set_option linter.unusedVariables false
set_option linter.unusedSimpArgs false
attribute [local go_sem high] eqA28
/-! ### imageeditorlaw28_sameDabs: function 28 -/
def zaO.l0:Nat→List (S28)→List (S28)→Int→Option (Bool)
 | 0,_,_,_=>none
 | k+1,x0,x1,x5=>if x5<(x0.length:Int) then (if 0≤x5 then (if x5<(x1.length:Int) then (if (!(((zag x0 x5).f0)==((zag x1 x5).f0))||(!(((zag x0 x5).f1)==((zag x1 x5).f1))||(!(((zag x0 x5).f2)==((zag x1 x5).f2))||(!(((zag x0 x5).f3)==((zag x1 x5).f3))||(!(((zag x0 x5).f4)==((zag x1 x5).f4)))))))=true then (some false) else (zaO.l0 k x0 x1 (wrap64 (x5+1)))) else (none)) else (none)) else (some true)
def zaO.f (k:Nat) (l0:List (S28)) (l1:List (S28)):Option (Bool):=if (l0.length:Int)=(l1.length:Int) then (zaO.l0 k l0 l1 0) else (some false)
set_option maxHeartbeats 8000000 in
set_option maxRecDepth 100000 in
theorem zaO.calls (k:Nat) (A0:Option Addr) (c0:Nat) (l0:List (S28)) (A1:Option Addr) (c1:Nat) (l1:List (S28)) (r:Bool) (w:World) (hr0:Kd.C k28 w A0 l0.length l0) (hc0:l0.length≤c0) (hr1:Kd.C k28 w A1 l1.length l1) (hc1:l1.length≤c1) (h:zaO.f k l0 l1=some r) :
 Calls Try.prog 28 #[.slice A0 l0.length c0,.slice A1 l1.length c1] w fun e w'=>e = .returned (.bool r)∧zaS w w':=by
 have hu28:=Try.underlying28
 have HR0:=zaa.mk hr0
 have HC0:=zaa.mk hc0
 clear hr0 hc0
 have HR1:=zaa.mk hr1
 have HC1:=zaa.mk hc1
 clear hr1 hc1
 have H:(if (l0.length:Int)=(l1.length:Int) then (zaO.l0 k l0 l1 0) else (some false))=some r:=h
 clear h
 by_cases c3:(l0.length:Int)=(l1.length:Int)
 ·rw [if_pos c3] at H
  have c3b0:((l0.length:Int)==(l1.length:Int))=true:=beq_iff_eq.mpr c3
  have c3b1:((l0.length:Int) != (l1.length:Int))=false:=bne_eq_false_iff_eq.mpr c3
  have c3b2:(l0.length==l1.length)=true:=by first|simpa using c3|(simp at c3 ⊢;omega)
  clear c3
  have H':=zaa.mk H
  clear H
  go_enter Try.func28,Try.ntmps28
  go_wp2
  repeat (go_quiet (fail);try go_wp2)
  go_loopg [5] k (fun kq v5 w'=>∃ (x5_1:Int),v5 = .int .i64 x5_1∧zaa (zaO.l0 kq l0 l1 x5_1=some r)∧zaa (kq≤k)∧zaS w w')
  case atStart=>exact ⟨(0),zF,H',⟨Nat.le_refl _⟩,by repeat (first|exact zaS.refl _|apply zaS.step)⟩
  case round=>
   clear H'
   try clear c1
   try clear c2
   try clear p2
   try clear c3
   try clear c3b0
   try clear c3b1
   try clear c3b2
   obtain ⟨x5_1,rfl,HA,e9,⟨m1,rfl⟩⟩:=hrel
   cases gk with
   | zero=>exact absurd HA.out (by simp [zaO.l0])
   | succ k1=>
    have H:=HA.out
    clear HA
    simp only [zaO.l0] at H
    by_cases c4:x5_1<(l0.length:Int)
    ·rw [if_pos c4] at H
     have c4b0:decide (x5_1<(l0.length:Int))=true:=decide_eq_true c4
     clear c4
     by_cases c5:0≤x5_1
     ·rw [if_pos c5] at H
      have c5b0:decide (0≤x5_1)=true:=decide_eq_true c5
      clear c5
      by_cases c6:x5_1<(l1.length:Int)
      ·rw [if_pos c6] at H
       have c6b0:decide (x5_1<(l1.length:Int))=true:=decide_eq_true c6
       clear c6
       by_cases c7:(!(((zag l0 x5_1).f0)==((zag l1 x5_1).f0))||(!(((zag l0 x5_1).f1)==((zag l1 x5_1).f1))||(!(((zag l0 x5_1).f2)==((zag l1 x5_1).f2))||(!(((zag l0 x5_1).f3)==((zag l1 x5_1).f3))||(!(((zag l0 x5_1).f4)==((zag l1 x5_1).f4)))))))=true
       ·rw [if_pos c7] at H
        have c7b0:(!(((zag l0 x5_1).f0)==((zag l1 x5_1).f0))||(!(((zag l0 x5_1).f1)==((zag l1 x5_1).f1))||(!(((zag l0 x5_1).f2)==((zag l1 x5_1).f2))||(!(((zag l0 x5_1).f3)==((zag l1 x5_1).f3))||(!(((zag l0 x5_1).f4)==((zag l1 x5_1).f4)))))))=true:=c7
        clear c7
        obtain rfl:=Option.some.inj H
        have p297:0≤(x5_1:Int):=of_decide_eq_true (by first|(with_reducible assumption)|assumption)
        have q297:x5_1<(l0.length:Int):=of_decide_eq_true (by first|(with_reducible assumption)|assumption)
        obtain ⟨e7,e297,b8,b9,d5,d6,d7⟩:=at_T28 HR0.out x5_1 p297 q297
        cases e297
        replace p297:=eq_true p297
        replace q297:=eq_true q297
        have p298:0≤(x5_1:Int):=of_decide_eq_true (by first|(with_reducible assumption)|assumption)
        have q298:x5_1<(l1.length:Int):=of_decide_eq_true (by first|(with_reducible assumption)|assumption)
        obtain ⟨e8,e298,d8,d9,e0,e5,e6⟩:=at_T28 HR1.out x5_1 p298 q298
        cases e298
        replace p298:=eq_true p298
        replace q298:=eq_true q298
        go_wp2
        repeat (go_quiet (fail);try go_wp2)
        go_ret
        exact zH
       ·rw [if_neg c7] at H
        have c7b0:(!(((zag l0 x5_1).f0)==((zag l1 x5_1).f0))||(!(((zag l0 x5_1).f1)==((zag l1 x5_1).f1))||(!(((zag l0 x5_1).f2)==((zag l1 x5_1).f2))||(!(((zag l0 x5_1).f3)==((zag l1 x5_1).f3))||(!(((zag l0 x5_1).f4)==((zag l1 x5_1).f4)))))))=false:=by simpa using c7
        clear c7
        have H':=zaa.mk H
        clear H
        have p297:0≤(x5_1:Int):=of_decide_eq_true (by first|(with_reducible assumption)|assumption)
        have q297:x5_1<(l0.length:Int):=of_decide_eq_true (by first|(with_reducible assumption)|assumption)
        obtain ⟨e7,e297,b8,b9,d5,d6,d7⟩:=at_T28 HR0.out x5_1 p297 q297
        cases e297
        replace p297:=eq_true p297
        replace q297:=eq_true q297
        have p298:0≤(x5_1:Int):=of_decide_eq_true (by first|(with_reducible assumption)|assumption)
        have q298:x5_1<(l1.length:Int):=of_decide_eq_true (by first|(with_reducible assumption)|assumption)
        obtain ⟨e8,e298,d8,d9,e0,e5,e6⟩:=at_T28 HR1.out x5_1 p298 q298
        cases e298
        replace p298:=eq_true p298
        replace q298:=eq_true q298
        go_wp2
        repeat (go_quiet (fail);try go_wp2)
        go_roundg k1
        case measure=>have:=e9.out;omega
        case rel=>exact ⟨(wrap64 (x5_1+1)),zF,H',⟨by have:=e9.out;omega⟩,by repeat (first|exact zaS.refl _|apply zaS.step)⟩
      ·rw [if_neg c6] at H
       exact absurd H (by simp)
     ·rw [if_neg c5] at H
      exact absurd H (by simp)
    ·rw [if_neg c4] at H
     have c4b0:decide (x5_1<(l0.length:Int))=false:=decide_eq_false c4
     clear c4
     obtain rfl:=Option.some.inj H
     go_wp2
     repeat (go_quiet (fail);try go_wp2)
     go_ret
     exact zH
 ·rw [if_neg c3] at H
  have c3b0:((l0.length:Int)==(l1.length:Int))=false:=beq_eq_false_iff_ne.mpr c3
  have c3b1:((l0.length:Int) != (l1.length:Int))=true:=bne_iff_ne.mpr c3
  have c3b2:(l0.length==l1.length)=false:=by first|simpa using c3|(simp at c3 ⊢;omega)
  obtain rfl:=Option.some.inj H
  go_enter Try.func28,Try.ntmps28
  go_wp2
  repeat (go_quiet (fail);try go_wp2)
  go_ret
  exact zH
end Go.Proofs.Ytlilncnoohfcdaa.Br
