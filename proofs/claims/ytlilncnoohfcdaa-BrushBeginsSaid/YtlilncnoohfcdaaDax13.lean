
import Derived.Test.YtlilncnoohfcdaaDax0
import Derived.Test.YtlilncnoohfcdaaDax11
import Derived.Test.YtlilncnoohfcdaaDax12
namespace Go.Proofs.Ytlilncnoohfcdaa.Da
open Go.RowKit Go.Proofs.YtlilncnoohfcdaaW.PrintWords Go.Proofs.YtlilncnoohfcdaaW.PrintLast Go.Proofs.YtlilncnoohfcdaaW.PrintMore
attribute [local go_sem] zbr zbu zbD zbH zbq zbp zbv zbt   
set_option linter.unusedVariables false
set_option linter.unusedSimpArgs false
/-! ### imageeditorref27_Check: function 15 -/
mutual
def zal.j0:Nat→Bool→Int→Int→Int→Int→Int→Int→Int→Int→Int→Int→Int→Int→Int→Int→List (S120)→Bool→Option (Int)
 | 0,_,_,_,_,_,_,_,_,_,_,_,_,_,_,_,_,_=>none
 | k+1,x30,x0a,x0b,x0c,x0d,x0e,x00,x01,x02,x03,x04,x05,x06,x07,x08,x09,x0f=>if x30=true then (some 2) else ((zam.f x00 1 1000).bind fun j7=>(if j7=true then ((zam.f x01 0 65535).bind fun j2=>(if j2=true then ((zam.f x02 0 1000).bind fun i7=>(zal.j1 k (!i7) x0a x0b x0c x0d x0e x00 x01 x02 x03 x04 x05 x06 x07 x08 x09 x0f)) else (zal.j1 k true x0a x0b x0c x0d x0e x00 x01 x02 x03 x04 x05 x06 x07 x08 x09 x0f))) else (zal.j1 k true x0a x0b x0c x0d x0e x00 x01 x02 x03 x04 x05 x06 x07 x08 x09 x0f)))
def zal.j1:Nat→Bool→Int→Int→Int→Int→Int→Int→Int→Int→Int→Int→Int→Int→Int→Int→List (S120)→Bool→Option (Int)
 | 0,_,_,_,_,_,_,_,_,_,_,_,_,_,_,_,_,_=>none
 | k+1,x46,x0a,x0b,x0c,x0d,x0e,x00,x01,x02,x03,x04,x05,x06,x07,x08,x09,x0f=>if x46=true then (some 2) else ((zam.f x03 0 17).bind fun j8=>(if j8=true then ((zby.f x04 x05 x06 x07).bind fun j3=>(if j3=true then ((zam.f x08 0 1073741824).bind fun i8=>(if i8=true then ((zaI.f k x09).bind fun i4=>(some i4)) else (some 2))) else (some 2))) else (some 8)))
end
def zal.f (k:Nat) (d9:Int) (e9:Int) (e0:Int) (e6:Int) (e5:Int) (f5:Int) (f7:Int) (f6:Int) (e7:Int) (e8:Int) (b9:Int) (d5:Int) (d6:Int) (d7:Int) (b8:List (S120)) (d8:Bool):Option (Int):=(zam.f d9 1 1024).bind fun j9=>(if j9=true then ((zam.f e9 0 65535).bind fun j4=>(if j4=true then ((zam.f e6 0 65535).bind fun i9=>(if i9=true then ((zam.f e5 0 65535).bind fun i5=>(if i5=true then ((zam.f e0 4096 65535).bind fun i3=>(zal.j0 k (!i3) d9 e9 e0 e6 e5 f5 f7 f6 e7 e8 b9 d5 d6 d7 b8 d8)) else (zal.j0 k true d9 e9 e0 e6 e5 f5 f7 f6 e7 e8 b9 d5 d6 d7 b8 d8))) else (zal.j0 k true d9 e9 e0 e6 e5 f5 f7 f6 e7 e8 b9 d5 d6 d7 b8 d8))) else (zal.j0 k true d9 e9 e0 e6 e5 f5 f7 f6 e7 e8 b9 d5 d6 d7 b8 d8))) else (zal.j0 k true d9 e9 e0 e6 e5 f5 f7 f6 e7 e8 b9 d5 d6 d7 b8 d8))
set_option maxHeartbeats 8000000 in
set_option maxRecDepth 100000 in
theorem zal.calls (k:Nat) (d9:Int) (e9:Int) (e0:Int) (e6:Int) (e5:Int) (f5:Int) (f7:Int) (f6:Int) (e7:Int) (e8:Int) (b9:Int) (d5:Int) (d6:Int) (d7:Int) (j5:Option Addr) (j6:Nat) (b8:List (S120)) (d8:Bool) (r:Int) (w:World) (L6:Kd.C k120 w j5 b8.length b8) (L7:b8.length≤j6) (h:zal.f k d9 e9 e0 e6 e5 f5 f7 f6 e7 e8 b9 d5 d6 d7 b8 d8=some r) :
 Calls Try.prog 15 #[.agg #[.int .i64 d9,.int .i64 e9,.int .i64 e0,.int .i64 e6,.int .i64 e5,.int .i64 f5,.int .i64 f7,.int .i64 f6,.int .i64 e7,.int .i64 e8,.int .i64 b9,.int .i64 d5,.int .i64 d6,.int .i64 d7,.slice j5 b8.length j6,.bool d8]] w fun e w'=>e = .returned (.int .i64 r)∧Below w.heap.size w w':=by
 have hu26:=Try.underlying26
 have hu23:=Try.underlying23
 have W4:=zaa.mk L6
 have W5:=zaa.mk L7
 clear L6 L7
 have HB:=zaa.mk (Below.refl w.heap.size w)
 have H:((zam.f d9 1 1024).bind fun j9=>(if j9=true then ((zam.f e9 0 65535).bind fun j4=>(if j4=true then ((zam.f e6 0 65535).bind fun i9=>(if i9=true then ((zam.f e5 0 65535).bind fun i5=>(if i5=true then ((zam.f e0 4096 65535).bind fun i3=>(zal.j0 k (!i3) d9 e9 e0 e6 e5 f5 f7 f6 e7 e8 b9 d5 d6 d7 b8 d8)) else (zal.j0 k true d9 e9 e0 e6 e5 f5 f7 f6 e7 e8 b9 d5 d6 d7 b8 d8))) else (zal.j0 k true d9 e9 e0 e6 e5 f5 f7 f6 e7 e8 b9 d5 d6 d7 b8 d8))) else (zal.j0 k true d9 e9 e0 e6 e5 f5 f7 f6 e7 e8 b9 d5 d6 d7 b8 d8))) else (zal.j0 k true d9 e9 e0 e6 e5 f5 f7 f6 e7 e8 b9 d5 d6 d7 b8 d8)))=some r:=h
 clear h
 have HC2:=zaa.mk H
 clear H
 go_enter Try.func15,Try.ntmps15
 go_upto_region 1 with (first|((with_reducible refine zaC (N:=1) rfl ?_);refine zbx (N:=1) #[.int .i64 d9,.int .i64 e9,.int .i64 e0,.int .i64 e6,.int .i64 e5,.int .i64 f5,.int .i64 f7,.int .i64 f6,.int .i64 e7,.int .i64 e8,.int .i64 b9,.int .i64 d5,.int .i64 d6,.int .i64 d7,.slice j5 b8.length j6,.bool d8] 26 ?_;intro L5 hg w3 hbox hb;have n0_:=zaa.mk (zae (zL HB.out) hb);have n1_:=zaa.mk (hbox);have n2_:=zaa.mk ((zS hg (zL HB.out):w.heap.size≤L5));have n3_:=n2_;clear HB;have HB:=n0_;have g9:=n1_;have bf8:=n2_;have i6:=n3_;clear n0_ n1_ n2_ n3_;clear hb hbox hg))
 (try simp only [Act.put,List.setIfInBounds_toArray,List.set_cons_zero,List.set_cons_succ])
 go_cut [30] (fun v30 wc=>∃ (kq:Nat) (x30_1:Bool),v30 = .bool x30_1∧zaa (zal.j0 kq x30_1 d9 e9 e0 e6 e5 f5 f7 f6 e7 e8 b9 d5 d6 d7 b8 d8=some r)∧zaa (kq≤k)∧zaa (wc.heap[L5]? = some (.cells #[.int .i64 d9,.int .i64 e9,.int .i64 e0,.int .i64 e6,.int .i64 e5,.int .i64 f5,.int .i64 f7,.int .i64 f6,.int .i64 e7,.int .i64 e8,.int .i64 b9,.int .i64 d5,.int .i64 d6,.int .i64 d7,(.slice j5 b8.length j6),.bool d8] 26 (0,0)))∧zaa (Below w.heap.size w wc))
 case first=>
  have H:=HC2.out
  clear HC2
  obtain ⟨j9,A4,H⟩:=zob H
  replace H:(if j9=true then ((zam.f e9 0 65535).bind fun j4=>(if j4=true then ((zam.f e6 0 65535).bind fun i9=>(if i9=true then ((zam.f e5 0 65535).bind fun i5=>(if i5=true then ((zam.f e0 4096 65535).bind fun i3=>(zal.j0 k (!i3) d9 e9 e0 e6 e5 f5 f7 f6 e7 e8 b9 d5 d6 d7 b8 d8)) else (zal.j0 k true d9 e9 e0 e6 e5 f5 f7 f6 e7 e8 b9 d5 d6 d7 b8 d8))) else (zal.j0 k true d9 e9 e0 e6 e5 f5 f7 f6 e7 e8 b9 d5 d6 d7 b8 d8))) else (zal.j0 k true d9 e9 e0 e6 e5 f5 f7 f6 e7 e8 b9 d5 d6 d7 b8 d8))) else (zal.j0 k true d9 e9 e0 e6 e5 f5 f7 f6 e7 e8 b9 d5 d6 d7 b8 d8))=some r:=H
  by_cases c5:j9=true
  ·subst c5
   have H1:((zam.f e9 0 65535).bind fun j4=>(if j4=true then ((zam.f e6 0 65535).bind fun i9=>(if i9=true then ((zam.f e5 0 65535).bind fun i5=>(if i5=true then ((zam.f e0 4096 65535).bind fun i3=>(zal.j0 k (!i3) d9 e9 e0 e6 e5 f5 f7 f6 e7 e8 b9 d5 d6 d7 b8 d8)) else (zal.j0 k true d9 e9 e0 e6 e5 f5 f7 f6 e7 e8 b9 d5 d6 d7 b8 d8))) else (zal.j0 k true d9 e9 e0 e6 e5 f5 f7 f6 e7 e8 b9 d5 d6 d7 b8 d8))) else (zal.j0 k true d9 e9 e0 e6 e5 f5 f7 f6 e7 e8 b9 d5 d6 d7 b8 d8)))=some r:=by rw [if_pos rfl] at H;exact H
   clear H
   have H:=H1
   clear H1
   obtain ⟨j4,A6,H⟩:=zob H
   replace H:(if j4=true then ((zam.f e6 0 65535).bind fun i9=>(if i9=true then ((zam.f e5 0 65535).bind fun i5=>(if i5=true then ((zam.f e0 4096 65535).bind fun i3=>(zal.j0 k (!i3) d9 e9 e0 e6 e5 f5 f7 f6 e7 e8 b9 d5 d6 d7 b8 d8)) else (zal.j0 k true d9 e9 e0 e6 e5 f5 f7 f6 e7 e8 b9 d5 d6 d7 b8 d8))) else (zal.j0 k true d9 e9 e0 e6 e5 f5 f7 f6 e7 e8 b9 d5 d6 d7 b8 d8))) else (zal.j0 k true d9 e9 e0 e6 e5 f5 f7 f6 e7 e8 b9 d5 d6 d7 b8 d8))=some r:=H
   by_cases c7:j4=true
   ·subst c7
    have H1:((zam.f e6 0 65535).bind fun i9=>(if i9=true then ((zam.f e5 0 65535).bind fun i5=>(if i5=true then ((zam.f e0 4096 65535).bind fun i3=>(zal.j0 k (!i3) d9 e9 e0 e6 e5 f5 f7 f6 e7 e8 b9 d5 d6 d7 b8 d8)) else (zal.j0 k true d9 e9 e0 e6 e5 f5 f7 f6 e7 e8 b9 d5 d6 d7 b8 d8))) else (zal.j0 k true d9 e9 e0 e6 e5 f5 f7 f6 e7 e8 b9 d5 d6 d7 b8 d8)))=some r:=by rw [if_pos rfl] at H;exact H
    clear H
    have H:=H1
    clear H1
    obtain ⟨i9,A8,H⟩:=zob H
    replace H:(if i9=true then ((zam.f e5 0 65535).bind fun i5=>(if i5=true then ((zam.f e0 4096 65535).bind fun i3=>(zal.j0 k (!i3) d9 e9 e0 e6 e5 f5 f7 f6 e7 e8 b9 d5 d6 d7 b8 d8)) else (zal.j0 k true d9 e9 e0 e6 e5 f5 f7 f6 e7 e8 b9 d5 d6 d7 b8 d8))) else (zal.j0 k true d9 e9 e0 e6 e5 f5 f7 f6 e7 e8 b9 d5 d6 d7 b8 d8))=some r:=H
    by_cases c9:i9=true
    ·subst c9
     have H1:((zam.f e5 0 65535).bind fun i5=>(if i5=true then ((zam.f e0 4096 65535).bind fun i3=>(zal.j0 k (!i3) d9 e9 e0 e6 e5 f5 f7 f6 e7 e8 b9 d5 d6 d7 b8 d8)) else (zal.j0 k true d9 e9 e0 e6 e5 f5 f7 f6 e7 e8 b9 d5 d6 d7 b8 d8)))=some r:=by rw [if_pos rfl] at H;exact H
     clear H
     have H:=H1
     clear H1
     obtain ⟨i5,A10,H⟩:=zob H
     replace H:(if i5=true then ((zam.f e0 4096 65535).bind fun i3=>(zal.j0 k (!i3) d9 e9 e0 e6 e5 f5 f7 f6 e7 e8 b9 d5 d6 d7 b8 d8)) else (zal.j0 k true d9 e9 e0 e6 e5 f5 f7 f6 e7 e8 b9 d5 d6 d7 b8 d8))=some r:=H
     by_cases c11:i5=true
     ·subst c11
      have H1:((zam.f e0 4096 65535).bind fun i3=>(zal.j0 k (!i3) d9 e9 e0 e6 e5 f5 f7 f6 e7 e8 b9 d5 d6 d7 b8 d8))=some r:=by rw [if_pos rfl] at H;exact H
      clear H
      have H:=H1
      clear H1
      obtain ⟨i3,A12,H⟩:=zob H
      replace H:(zal.j0 k (!i3) d9 e9 e0 e6 e5 f5 f7 f6 e7 e8 b9 d5 d6 d7 b8 d8)=some r:=H
      have H':=zaa.mk H
      clear H
      obtain ⟨z3,z4,z5,z6,z7,z8,z9,B0,B3,B7,k3,k4,k5,k6,k7,k8⟩:=zD16 g9.out
      obtain ⟨C0,C1,C2,C3,C4,C5,C6,C7,C8,C9,k9,l3,l4,l5,l6,l7⟩:=zE16 g9.out
      go_wp2_with (first|((with_reducible refine zah (f:=49) rfl ?_);refine zgl 5 Try.func49 #[.int .i64 d9,.int .i64 1,.int .i64 1024] ?_;(with_reducible refine (zam.calls d9 1 1024 true _ A4.out).mono ?_);rintro e w' ⟨rfl,⟨nd,rfl⟩⟩;refine ⟨_,rfl,?_⟩)|(go_at_call 49;(with_reducible refine (zam.calls e9 0 65535 true _ A6.out).mono ?_);rintro e w' ⟨rfl,⟨nd,rfl⟩⟩)|(go_at_call 49;(with_reducible refine (zam.calls e6 0 65535 true _ A8.out).mono ?_);rintro e w' ⟨rfl,⟨nd,rfl⟩⟩)|(go_at_call 49;(with_reducible refine (zam.calls e5 0 65535 true _ A10.out).mono ?_);rintro e w' ⟨rfl,⟨nd,rfl⟩⟩)|(go_at_call 49;(with_reducible refine (zam.calls e0 4096 65535 i3 _ A12.out).mono ?_);rintro e w' ⟨rfl,⟨nd,rfl⟩⟩))
      go_meet
      case rel=>exact ⟨_,(!i3),zF,H',⟨by first|omega|exact Nat.le_refl _⟩,⟨by refine zB ?_;exact g9.out⟩,⟨by repeat (first|(with_reducible first|exact HB.out|apply zan|apply zaj|apply zai|refine zao ?_ i6.out)|exact HB.out)⟩⟩
     ·replace c11:=Bool.eq_false_iff.mpr c11
      subst c11
      have H1:(zal.j0 k true d9 e9 e0 e6 e5 f5 f7 f6 e7 e8 b9 d5 d6 d7 b8 d8)=some r:=by rw [if_neg (show ¬ (false=true) by decide)] at H;exact H
      clear H
      have H:=H1
      clear H1
      have H':=zaa.mk H
      clear H
      obtain ⟨D0,D1,D2,D3,D4,D5,D6,D7,D8,D9,l8,l9,m5,m6,m7,m8⟩:=zD16 g9.out
      obtain ⟨E0,E1,E2,E3,E4,E5,E6,E7,E8,E9,m9,n0,n3,n4,n5,n6⟩:=zE16 g9.out
      go_wp2_with (first|((with_reducible refine zah (f:=49) rfl ?_);refine zgl 5 Try.func49 #[.int .i64 d9,.int .i64 1,.int .i64 1024] ?_;(with_reducible refine (zam.calls d9 1 1024 true _ A4.out).mono ?_);rintro e w' ⟨rfl,⟨nd,rfl⟩⟩;refine ⟨_,rfl,?_⟩)|(go_at_call 49;(with_reducible refine (zam.calls e9 0 65535 true _ A6.out).mono ?_);rintro e w' ⟨rfl,⟨nd,rfl⟩⟩)|(go_at_call 49;(with_reducible refine (zam.calls e6 0 65535 true _ A8.out).mono ?_);rintro e w' ⟨rfl,⟨nd,rfl⟩⟩)|(go_at_call 49;(with_reducible refine (zam.calls e5 0 65535 false _ A10.out).mono ?_);rintro e w' ⟨rfl,⟨nd,rfl⟩⟩))
      go_meet
      case rel=>exact ⟨_,(true),zF,H',⟨by first|omega|exact Nat.le_refl _⟩,⟨by refine zB ?_;exact g9.out⟩,⟨by repeat (first|(with_reducible first|exact HB.out|apply zan|apply zaj|apply zai|refine zao ?_ i6.out)|exact HB.out)⟩⟩
    ·replace c9:=Bool.eq_false_iff.mpr c9
     subst c9
     have H1:(zal.j0 k true d9 e9 e0 e6 e5 f5 f7 f6 e7 e8 b9 d5 d6 d7 b8 d8)=some r:=by rw [if_neg (show ¬ (false=true) by decide)] at H;exact H
     clear H
     have H:=H1
     clear H1
     have H':=zaa.mk H
     clear H
     obtain ⟨F0,F1,F2,F3,F4,F5,F6,F7,F8,F9,n7,n8,n9,o2,o3,o4⟩:=zD16 g9.out
     obtain ⟨G4,G5,G6,G7,G8,G9,H0,H2,H3,H4,o5,o6,o7,o8,o9,p7⟩:=zE16 g9.out
     go_wp2_with (first|((with_reducible refine zah (f:=49) rfl ?_);refine zgl 5 Try.func49 #[.int .i64 d9,.int .i64 1,.int .i64 1024] ?_;(with_reducible refine (zam.calls d9 1 1024 true _ A4.out).mono ?_);rintro e w' ⟨rfl,⟨nd,rfl⟩⟩;refine ⟨_,rfl,?_⟩)|(go_at_call 49;(with_reducible refine (zam.calls e9 0 65535 true _ A6.out).mono ?_);rintro e w' ⟨rfl,⟨nd,rfl⟩⟩)|(go_at_call 49;(with_reducible refine (zam.calls e6 0 65535 false _ A8.out).mono ?_);rintro e w' ⟨rfl,⟨nd,rfl⟩⟩))
     go_meet
     case rel=>exact ⟨_,(true),zF,H',⟨by first|omega|exact Nat.le_refl _⟩,⟨by refine zB ?_;exact g9.out⟩,⟨by repeat (first|(with_reducible first|exact HB.out|apply zan|apply zaj|apply zai|refine zao ?_ i6.out)|exact HB.out)⟩⟩
   ·replace c7:=Bool.eq_false_iff.mpr c7
    subst c7
    have H1:(zal.j0 k true d9 e9 e0 e6 e5 f5 f7 f6 e7 e8 b9 d5 d6 d7 b8 d8)=some r:=by rw [if_neg (show ¬ (false=true) by decide)] at H;exact H
    clear H
    have H:=H1
    clear H1
    have H':=zaa.mk H
    clear H
    obtain ⟨H5,H6,H7,H8,H9,I0,I1,I2,I3,I4,p8,p9,s5,s6,s7,s8⟩:=zD16 g9.out
    obtain ⟨I5,I6,I7,I8,I9,J0,J1,J2,J3,J4,s9,t6,t7,t8,t9,u3⟩:=zE16 g9.out
    go_wp2_with (first|((with_reducible refine zah (f:=49) rfl ?_);refine zgl 5 Try.func49 #[.int .i64 d9,.int .i64 1,.int .i64 1024] ?_;(with_reducible refine (zam.calls d9 1 1024 true _ A4.out).mono ?_);rintro e w' ⟨rfl,⟨nd,rfl⟩⟩;refine ⟨_,rfl,?_⟩)|(go_at_call 49;(with_reducible refine (zam.calls e9 0 65535 false _ A6.out).mono ?_);rintro e w' ⟨rfl,⟨nd,rfl⟩⟩))
    go_meet
    case rel=>exact ⟨_,(true),zF,H',⟨by first|omega|exact Nat.le_refl _⟩,⟨by refine zB ?_;exact g9.out⟩,⟨by repeat (first|(with_reducible first|exact HB.out|apply zan|apply zaj|apply zai|refine zao ?_ i6.out)|exact HB.out)⟩⟩
  ·replace c5:=Bool.eq_false_iff.mpr c5
   subst c5
   have H1:(zal.j0 k true d9 e9 e0 e6 e5 f5 f7 f6 e7 e8 b9 d5 d6 d7 b8 d8)=some r:=by rw [if_neg (show ¬ (false=true) by decide)] at H;exact H
   clear H
   have H:=H1
   clear H1
   have H':=zaa.mk H
   clear H
   obtain ⟨J5,J6,J7,J8,J9,K0,K1,K2,K3,K4,u4,u5,u6,u7,u9,y5⟩:=zD16 g9.out
   obtain ⟨K5,K6,K7,K8,K9,L0,L1,L2,L3,L4,y6,y7,y8,y9,z1,z2⟩:=zE16 g9.out
   go_wp2_with (first|((with_reducible refine zah (f:=49) rfl ?_);refine zgl 5 Try.func49 #[.int .i64 d9,.int .i64 1,.int .i64 1024] ?_;(with_reducible refine (zam.calls d9 1 1024 false _ A4.out).mono ?_);rintro e w' ⟨rfl,⟨nd,rfl⟩⟩;refine ⟨_,rfl,?_⟩))
   go_meet
   case rel=>exact ⟨_,(true),zF,H',⟨by first|omega|exact Nat.le_refl _⟩,⟨by refine zB ?_;exact g9.out⟩,⟨by repeat (first|(with_reducible first|exact HB.out|apply zan|apply zaj|apply zai|refine zao ?_ i6.out)|exact HB.out)⟩⟩
 case rest=>
  clear HC2
  try clear c1
  try clear p2
  try clear c4
  try clear c5
  try clear c7
  try clear c9
  try clear c11
  try clear c15
  try clear z3 z4 k3 k4 k5 k6 k7 k8 z5 z6 z7 z8 z9 B0 B3 B7 D0 D1 l8 l9 m5 m6 m7 m8 D2 D3 D4 D5 D6 D7 D8 D9 F0 F1 n7 n8 n9 o2 o3 o4 F2 F3 F4 F5 F6 F7 F8 F9 H5 H6 p8 p9 s5 s6 s7 s8 H7 H8 H9 I0 I1 I2 I3 I4 J5 J6 u4 u5 u6 u7 u9 y5 J7 J8 J9 K0 K1 K2 K3 K4 C0 C1 k9 l3 l4 l5 l6 l7 C2 C3 C4 C5 C6 C7 C8 C9 E0 E1 m9 n0 n3 n4 n5 n6 E2 E3 E4 E5 E6 E7 E8 E9 G4 G5 o5 o6 o7 o8 o9 p7 G6 G7 G8 G9 H0 H2 H3 H4 I5 I6 s9 t6 t7 t8 t9 u3 I7 I8 I9 J0 J1 J2 J3 J4 K5 K6 y6 y7 y8 y9 z1 z2 K7 K8 K9 L0 L1 L2 L3 L4
  obtain ⟨kq,x30_1,rfl,HA,HJ1,g9,HB⟩:=hcut
  cases kq with
  | zero=>exact absurd HA.out (by simp [zal.j0])
  | succ kj1=>
   have H:=HA.out
   clear HA
   simp only [zal.j0] at H
   by_cases c18:x30_1=true
   ·subst c18
    have H1:(some 2)=some r:=by rw [if_pos rfl] at H;exact H
    clear H
    have H:=H1
    clear H1
    obtain rfl:=Option.some.inj H
    go_wp2
    go_ret
    exact zG
   ·replace c18:=Bool.eq_false_iff.mpr c18
    subst c18
    have H1:((zam.f f5 1 1000).bind fun j7=>(if j7=true then ((zam.f f7 0 65535).bind fun j2=>(if j2=true then ((zam.f f6 0 1000).bind fun i7=>(zal.j1 kj1 (!i7) d9 e9 e0 e6 e5 f5 f7 f6 e7 e8 b9 d5 d6 d7 b8 d8)) else (zal.j1 kj1 true d9 e9 e0 e6 e5 f5 f7 f6 e7 e8 b9 d5 d6 d7 b8 d8))) else (zal.j1 kj1 true d9 e9 e0 e6 e5 f5 f7 f6 e7 e8 b9 d5 d6 d7 b8 d8)))=some r:=by rw [if_neg (show ¬ (false=true) by decide)] at H;exact H
    clear H
    have H:=H1
    clear H1
    have HC19:=zaa.mk H
    clear H
    go_upto_region 3 with (fail)
    go_cut [46] (fun v46 wc=>∃ (kq:Nat) (x46_18:Bool),v46 = .bool x46_18∧zaa (zal.j1 kq x46_18 d9 e9 e0 e6 e5 f5 f7 f6 e7 e8 b9 d5 d6 d7 b8 d8=some r)∧zaa (kq≤kj1)∧zaa (wc.heap[L5]? = some (.cells #[.int .i64 d9,.int .i64 e9,.int .i64 e0,.int .i64 e6,.int .i64 e5,.int .i64 f5,.int .i64 f7,.int .i64 f6,.int .i64 e7,.int .i64 e8,.int .i64 b9,.int .i64 d5,.int .i64 d6,.int .i64 d7,(.slice j5 b8.length j6),.bool d8] 26 (0,0)))∧zaa (Below w.heap.size w wc))
    case first=>
     have H:=HC19.out
     clear HC19
     obtain ⟨j7,A20,H⟩:=zob H
     replace H:(if j7=true then ((zam.f f7 0 65535).bind fun j2=>(if j2=true then ((zam.f f6 0 1000).bind fun i7=>(zal.j1 kj1 (!i7) d9 e9 e0 e6 e5 f5 f7 f6 e7 e8 b9 d5 d6 d7 b8 d8)) else (zal.j1 kj1 true d9 e9 e0 e6 e5 f5 f7 f6 e7 e8 b9 d5 d6 d7 b8 d8))) else (zal.j1 kj1 true d9 e9 e0 e6 e5 f5 f7 f6 e7 e8 b9 d5 d6 d7 b8 d8))=some r:=H
     by_cases c21:j7=true
     ·subst c21
      have H1:((zam.f f7 0 65535).bind fun j2=>(if j2=true then ((zam.f f6 0 1000).bind fun i7=>(zal.j1 kj1 (!i7) d9 e9 e0 e6 e5 f5 f7 f6 e7 e8 b9 d5 d6 d7 b8 d8)) else (zal.j1 kj1 true d9 e9 e0 e6 e5 f5 f7 f6 e7 e8 b9 d5 d6 d7 b8 d8)))=some r:=by rw [if_pos rfl] at H;exact H
      clear H
      have H:=H1
      clear H1
      obtain ⟨j2,A22,H⟩:=zob H
      replace H:(if j2=true then ((zam.f f6 0 1000).bind fun i7=>(zal.j1 kj1 (!i7) d9 e9 e0 e6 e5 f5 f7 f6 e7 e8 b9 d5 d6 d7 b8 d8)) else (zal.j1 kj1 true d9 e9 e0 e6 e5 f5 f7 f6 e7 e8 b9 d5 d6 d7 b8 d8))=some r:=H
      by_cases c23:j2=true
      ·subst c23
       have H1:((zam.f f6 0 1000).bind fun i7=>(zal.j1 kj1 (!i7) d9 e9 e0 e6 e5 f5 f7 f6 e7 e8 b9 d5 d6 d7 b8 d8))=some r:=by rw [if_pos rfl] at H;exact H
       clear H
       have H:=H1
       clear H1
       obtain ⟨i7,A24,H⟩:=zob H
       replace H:(zal.j1 kj1 (!i7) d9 e9 e0 e6 e5 f5 f7 f6 e7 e8 b9 d5 d6 d7 b8 d8)=some r:=H
       have H':=zaa.mk H
       clear H
       obtain ⟨P4,P5,P6,P7,P8,P9,Q0,Q1,Q2,Q3,L8,L9,M0,M1,M2,M3⟩:=zD16 g9.out
       obtain ⟨Q4,Q5,Q6,Q7,Q8,Q9,R0,R1,R2,R3,M4,M5,M6,M7,M8,M9⟩:=zE16 g9.out
       go_wp2_with (first|((with_reducible refine zah (f:=49) rfl ?_);refine zgl 33 Try.func49 #[.int .i64 f5,.int .i64 1,.int .i64 1000] ?_;(with_reducible refine (zam.calls f5 1 1000 true _ A20.out).mono ?_);rintro e w' ⟨rfl,⟨nd,rfl⟩⟩;refine ⟨_,rfl,?_⟩)|(go_at_call 49;(with_reducible refine (zam.calls f7 0 65535 true _ A22.out).mono ?_);rintro e w' ⟨rfl,⟨nd,rfl⟩⟩)|(go_at_call 49;(with_reducible refine (zam.calls f6 0 1000 i7 _ A24.out).mono ?_);rintro e w' ⟨rfl,⟨nd,rfl⟩⟩))
       go_meet
       case rel=>exact ⟨_,(!i7),zF,H',⟨by have:=HJ1.out;first|omega|exact Nat.le_refl _⟩,⟨by refine zB ?_;exact g9.out⟩,⟨by repeat (first|(with_reducible first|exact HB.out|apply zan|apply zaj|apply zai|refine zao ?_ i6.out)|exact HB.out)⟩⟩
      ·replace c23:=Bool.eq_false_iff.mpr c23
       subst c23
       have H1:(zal.j1 kj1 true d9 e9 e0 e6 e5 f5 f7 f6 e7 e8 b9 d5 d6 d7 b8 d8)=some r:=by rw [if_neg (show ¬ (false=true) by decide)] at H;exact H
       clear H
       have H:=H1
       clear H1
       have H':=zaa.mk H
       clear H
       obtain ⟨R4,R5,R6,R7,R8,R9,S0,S1,S3,S4,N0,N1,N2,N3,N4,N5⟩:=zD16 g9.out
       obtain ⟨S5,S6,S7,S8,S9,T0,T3,T7,U0,U1,N6,N7,N8,N9,O0,O1⟩:=zE16 g9.out
       go_wp2_with (first|((with_reducible refine zah (f:=49) rfl ?_);refine zgl 33 Try.func49 #[.int .i64 f5,.int .i64 1,.int .i64 1000] ?_;(with_reducible refine (zam.calls f5 1 1000 true _ A20.out).mono ?_);rintro e w' ⟨rfl,⟨nd,rfl⟩⟩;refine ⟨_,rfl,?_⟩)|(go_at_call 49;(with_reducible refine (zam.calls f7 0 65535 false _ A22.out).mono ?_);rintro e w' ⟨rfl,⟨nd,rfl⟩⟩))
       go_meet
       case rel=>exact ⟨_,(true),zF,H',⟨by have:=HJ1.out;first|omega|exact Nat.le_refl _⟩,⟨by refine zB ?_;exact g9.out⟩,⟨by repeat (first|(with_reducible first|exact HB.out|apply zan|apply zaj|apply zai|refine zao ?_ i6.out)|exact HB.out)⟩⟩
     ·replace c21:=Bool.eq_false_iff.mpr c21
      subst c21
      have H1:(zal.j1 kj1 true d9 e9 e0 e6 e5 f5 f7 f6 e7 e8 b9 d5 d6 d7 b8 d8)=some r:=by rw [if_neg (show ¬ (false=true) by decide)] at H;exact H
      clear H
      have H:=H1
      clear H1
      have H':=zaa.mk H
      clear H
      obtain ⟨U2,U3,U4,U5,U6,U7,U8,U9,V0,V1,O2,O3,O4,O5,O6,O7⟩:=zD16 g9.out
      obtain ⟨V2,V3,V4,V5,V6,V7,V8,V9,W0,W3,O8,O9,P0,P1,P2,P3⟩:=zE16 g9.out
      go_wp2_with (first|((with_reducible refine zah (f:=49) rfl ?_);refine zgl 33 Try.func49 #[.int .i64 f5,.int .i64 1,.int .i64 1000] ?_;(with_reducible refine (zam.calls f5 1 1000 false _ A20.out).mono ?_);rintro e w' ⟨rfl,⟨nd,rfl⟩⟩;refine ⟨_,rfl,?_⟩))
      go_meet
      case rel=>exact ⟨_,(true),zF,H',⟨by have:=HJ1.out;first|omega|exact Nat.le_refl _⟩,⟨by refine zB ?_;exact g9.out⟩,⟨by repeat (first|(with_reducible first|exact HB.out|apply zan|apply zaj|apply zai|refine zao ?_ i6.out)|exact HB.out)⟩⟩
    case rest=>
     clear HC19
     try clear c1
     try clear c2
     try clear p2
     try clear c4
     try clear c5
     try clear c7
     try clear c9
     try clear c11
     try clear c15
     try clear c18
     try clear c21
     try clear c23
     try clear z3 z4 k3 k4 k5 k6 k7 k8 z5 z6 z7 z8 z9 B0 B3 B7 D0 D1 l8 l9 m5 m6 m7 m8 D2 D3 D4 D5 D6 D7 D8 D9 F0 F1 n7 n8 n9 o2 o3 o4 F2 F3 F4 F5 F6 F7 F8 F9 H5 H6 p8 p9 s5 s6 s7 s8 H7 H8 H9 I0 I1 I2 I3 I4 J5 J6 u4 u5 u6 u7 u9 y5 J7 J8 J9 K0 K1 K2 K3 K4 P4 P5 L8 L9 M0 M1 M2 M3 P6 P7 P8 P9 Q0 Q1 Q2 Q3 R4 R5 N0 N1 N2 N3 N4 N5 R6 R7 R8 R9 S0 S1 S3 S4 U2 U3 O2 O3 O4 O5 O6 O7 U4 U5 U6 U7 U8 U9 V0 V1 C0 C1 k9 l3 l4 l5 l6 l7 C2 C3 C4 C5 C6 C7 C8 C9 E0 E1 m9 n0 n3 n4 n5 n6 E2 E3 E4 E5 E6 E7 E8 E9 G4 G5 o5 o6 o7 o8 o9 p7 G6 G7 G8 G9 H0 H2 H3 H4 I5 I6 s9 t6 t7 t8 t9 u3 I7 I8 I9 J0 J1 J2 J3 J4 K5 K6 y6 y7 y8 y9 z1 z2 K7 K8 K9 L0 L1 L2 L3 L4 Q4 Q5 M4 M5 M6 M7 M8 M9 Q6 Q7 Q8 Q9 R0 R1 R2 R3 S5 S6 N6 N7 N8 N9 O0 O1 S7 S8 S9 T0 T3 T7 U0 U1 V2 V3 O8 O9 P0 P1 P2 P3 V4 V5 V6 V7 V8 V9 W0 W3
     try clear p2
     obtain ⟨kq,x46_18,rfl,HA,HJ18,g9,HB⟩:=hcut
     cases kq with
     | zero=>exact absurd HA.out (by simp [zal.j1])
     | succ kj18=>
      have H:=HA.out
      clear HA
      simp only [zal.j1] at H
      by_cases c28:x46_18=true
      ·subst c28
       have H1:(some 2)=some r:=by rw [if_pos rfl] at H;exact H
       clear H
       have H:=H1
       clear H1
       obtain rfl:=Option.some.inj H
       go_wp2
       go_ret
       exact zG
      ·replace c28:=Bool.eq_false_iff.mpr c28
       subst c28
       have H1:((zam.f e7 0 17).bind fun j8=>(if j8=true then ((zby.f e8 b9 d5 d6).bind fun j3=>(if j3=true then ((zam.f d7 0 1073741824).bind fun i8=>(if i8=true then ((zaI.f kj18 b8).bind fun i4=>(some i4)) else (some 2))) else (some 2))) else (some 8)))=some r:=by rw [if_neg (show ¬ (false=true) by decide)] at H;exact H
       clear H
       have H:=H1
       clear H1
       obtain ⟨j8,A29,H⟩:=zob H
       replace H:(if j8=true then ((zby.f e8 b9 d5 d6).bind fun j3=>(if j3=true then ((zam.f d7 0 1073741824).bind fun i8=>(if i8=true then ((zaI.f kj18 b8).bind fun i4=>(some i4)) else (some 2))) else (some 2))) else (some 8))=some r:=H
       by_cases c30:j8=true
       ·subst c30
        have H1:((zby.f e8 b9 d5 d6).bind fun j3=>(if j3=true then ((zam.f d7 0 1073741824).bind fun i8=>(if i8=true then ((zaI.f kj18 b8).bind fun i4=>(some i4)) else (some 2))) else (some 2)))=some r:=by rw [if_pos rfl] at H;exact H
        clear H
        have H:=H1
        clear H1
        obtain ⟨j3,A31,H⟩:=zob H
        replace H:(if j3=true then ((zam.f d7 0 1073741824).bind fun i8=>(if i8=true then ((zaI.f kj18 b8).bind fun i4=>(some i4)) else (some 2))) else (some 2))=some r:=H
        by_cases c32:j3=true
        ·subst c32
         have H1:((zam.f d7 0 1073741824).bind fun i8=>(if i8=true then ((zaI.f kj18 b8).bind fun i4=>(some i4)) else (some 2)))=some r:=by rw [if_pos rfl] at H;exact H
         clear H
         have H:=H1
         clear H1
         obtain ⟨i8,A33,H⟩:=zob H
         replace H:(if i8=true then ((zaI.f kj18 b8).bind fun i4=>(some i4)) else (some 2))=some r:=H
         by_cases c34:i8=true
         ·subst c34
          have H1:((zaI.f kj18 b8).bind fun i4=>(some i4))=some r:=by rw [if_pos rfl] at H;exact H
          clear H
          have H:=H1
          clear H1
          obtain ⟨i4,A35,H⟩:=zob H
          replace H:(some i4)=some r:=H
          obtain rfl:=Option.some.inj H
          obtain ⟨ad8,ad9,ae0,ae1,ae2,ae3,ae4,ae5,ae6,ae7,W6,W7,W8,W9,X0,X1⟩:=zD16 g9.out
          obtain ⟨ae8,ae9,af0,af1,af2,af3,af4,af5,af6,af7,X2,X3,X4,X5,X6,X7⟩:=zE16 g9.out
          go_wp2_with (first|((with_reducible refine zah (f:=49) rfl ?_);refine zgl 49 Try.func49 #[.int .i64 e7,.int .i64 0,.int .i64 17] ?_;(with_reducible refine (zam.calls e7 0 17 true _ A29.out).mono ?_);rintro e w' ⟨rfl,⟨nd,rfl⟩⟩;refine ⟨_,rfl,?_⟩)|((with_reducible refine zah (f:=50) rfl ?_);refine zgl 53 Try.func50 #[.agg #[.int .i64 e8,.int .i64 b9,.int .i64 d5,.int .i64 d6]] ?_;(with_reducible refine (zby.calls e8 b9 d5 d6 true _ A31.out).mono ?_);rintro e w37 ⟨rfl,hb⟩;refine ⟨_,rfl,?_⟩;replace g9:=zaa.mk (zac (zB g9.out) hb);replace HB:=zaa.mk (zae (zL1 HB.out i6.out) hb);(try clear hb);obtain ⟨af8,af9,ag0,ag1,ag2,ag3,ag4,ag5,ag6,ag7,X8,X9,Y0,Y1,Y2,Y3⟩:=zD16 g9.out;obtain ⟨ag8,ag9,ah0,ah1,ah2,ah3,ah4,ah5,ah6,ah7,Y4,Y5,Y6,Y7,Y8,Y9⟩:=zE16 g9.out)|(go_at_call 49;(with_reducible refine (zam.calls d7 0 1073741824 true _ A33.out).mono ?_);rintro e w' ⟨rfl,⟨nd,rfl⟩⟩)|((with_reducible refine zah (f:=51) rfl ?_);refine zgl 63 Try.func51 #[.slice j5 b8.length j6] ?_;(with_reducible refine (zaI.calls kj18 _ _ b8 i4 _ ?side1 ?side2 A35.out).mono ?_);(case side1=>repeat (first|exact (Kd.C_below W4.out (zL1 HB.out i6.out))|(with_reducible refine Kd.C_alloc ?_ _)|(with_reducible refine Kd.C_drewN ?_ _)|(with_reducible refine Kd.C_drew ?_)));(case side2=>exact W5.out);rintro e w' ⟨rfl,⟨nd,rfl⟩⟩;refine ⟨_,rfl,?_⟩))
          go_ret
          exact zG
         ·replace c34:=Bool.eq_false_iff.mpr c34
          subst c34
          have H1:(some 2)=some r:=by rw [if_neg (show ¬ (false=true) by decide)] at H;exact H
          clear H
          have H:=H1
          clear H1
          obtain rfl:=Option.some.inj H
          obtain ⟨ah8,ah9,ai0,ai1,ai2,ai3,ai4,ai5,ai6,ai7,Z0,Z1,Z2,Z3,Z4,Z5⟩:=zD16 g9.out
          obtain ⟨ai8,ai9,aj0,aj1,aj2,aj3,aj4,aj5,aj6,aj7,Z6,Z7,Z8,Z9,aa0,aa1⟩:=zE16 g9.out
          go_wp2_with (first|((with_reducible refine zah (f:=49) rfl ?_);refine zgl 49 Try.func49 #[.int .i64 e7,.int .i64 0,.int .i64 17] ?_;(with_reducible refine (zam.calls e7 0 17 true _ A29.out).mono ?_);rintro e w' ⟨rfl,⟨nd,rfl⟩⟩;refine ⟨_,rfl,?_⟩)|((with_reducible refine zah (f:=50) rfl ?_);refine zgl 53 Try.func50 #[.agg #[.int .i64 e8,.int .i64 b9,.int .i64 d5,.int .i64 d6]] ?_;(with_reducible refine (zby.calls e8 b9 d5 d6 true _ A31.out).mono ?_);rintro e w40 ⟨rfl,hb⟩;refine ⟨_,rfl,?_⟩;replace g9:=zaa.mk (zac (zB g9.out) hb);replace HB:=zaa.mk (zae (zL1 HB.out i6.out) hb);(try clear hb);obtain ⟨aj8,aj9,ba0,ba1,ba2,ba3,ba4,ba5,ba6,ba7,aa2,aa3,aa4,aa5,aa6,aa7⟩:=zD16 g9.out;obtain ⟨ba8,ba9,bb0,bb1,bb2,bb3,bb4,bb5,bb6,bb7,aa8,aa9,ab0,ab1,ab2,ab3⟩:=zE16 g9.out)|(go_at_call 49;(with_reducible refine (zam.calls d7 0 1073741824 false _ A33.out).mono ?_);rintro e w' ⟨rfl,⟨nd,rfl⟩⟩))
          go_ret
          exact zG
        ·replace c32:=Bool.eq_false_iff.mpr c32
         subst c32
         have H1:(some 2)=some r:=by rw [if_neg (show ¬ (false=true) by decide)] at H;exact H
         clear H
         have H:=H1
         clear H1
         obtain rfl:=Option.some.inj H
         obtain ⟨bb8,bb9,bc0,bc1,bc2,bc3,bc4,bc5,bc6,bc7,ab4,ab5,ab6,ab7,ab8,ab9⟩:=zD16 g9.out
         obtain ⟨bc8,bc9,bd0,bd1,bd2,bd3,bd4,bd5,bd6,bd7,ac0,ac1,ac2,ac3,ac4,ac5⟩:=zE16 g9.out
         go_wp2_with (first|((with_reducible refine zah (f:=49) rfl ?_);refine zgl 49 Try.func49 #[.int .i64 e7,.int .i64 0,.int .i64 17] ?_;(with_reducible refine (zam.calls e7 0 17 true _ A29.out).mono ?_);rintro e w' ⟨rfl,⟨nd,rfl⟩⟩;refine ⟨_,rfl,?_⟩)|((with_reducible refine zah (f:=50) rfl ?_);refine zgl 53 Try.func50 #[.agg #[.int .i64 e8,.int .i64 b9,.int .i64 d5,.int .i64 d6]] ?_;(with_reducible refine (zby.calls e8 b9 d5 d6 false _ A31.out).mono ?_);rintro e w43 ⟨rfl,hb⟩;refine ⟨_,rfl,?_⟩;replace g9:=zaa.mk (zac (zB g9.out) hb);replace HB:=zaa.mk (zae (zL1 HB.out i6.out) hb);(try clear hb)))
         go_ret
         exact zG
       ·replace c30:=Bool.eq_false_iff.mpr c30
        subst c30
        have H1:(some 8)=some r:=by rw [if_neg (show ¬ (false=true) by decide)] at H;exact H
        clear H
        have H:=H1
        clear H1
        obtain rfl:=Option.some.inj H
        obtain ⟨bd8,bd9,be0,be1,be2,be3,be4,be5,be6,be7,ac6,ac7,ac8,ac9,ad0,ad1⟩:=zD16 g9.out
        obtain ⟨be8,be9,bf0,bf1,bf2,bf3,bf4,bf5,bf6,bf7,ad2,ad3,ad4,ad5,ad6,ad7⟩:=zE16 g9.out
        go_wp2_with (first|((with_reducible refine zah (f:=49) rfl ?_);refine zgl 49 Try.func49 #[.int .i64 e7,.int .i64 0,.int .i64 17] ?_;(with_reducible refine (zam.calls e7 0 17 false _ A29.out).mono ?_);rintro e w' ⟨rfl,⟨nd,rfl⟩⟩;refine ⟨_,rfl,?_⟩))
        go_ret
        exact zG
end Go.Proofs.Ytlilncnoohfcdaa.Da
