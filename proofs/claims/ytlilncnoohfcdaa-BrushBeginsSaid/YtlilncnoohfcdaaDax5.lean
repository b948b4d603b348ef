
import Derived.Test.YtlilncnoohfcdaaDax0
import Derived.Test.YtlilncnoohfcdaaDax3
import Derived.Test.YtlilncnoohfcdaaDax4
namespace Go.Proofs.Ytlilncnoohfcdaa.Da
open Go.RowKit Go.Proofs.YtlilncnoohfcdaaW.PrintWords Go.Proofs.YtlilncnoohfcdaaW.PrintLast Go.Proofs.YtlilncnoohfcdaaW.PrintMore
attribute [local go_sem] zbr zbu zbD zbH zbq zbp zbv zbt   
set_option linter.unusedVariables false
set_option linter.unusedSimpArgs false
/-! ### dab_Check: function 14 -/
def zaG.j0:Nat→Bool→Int→Int→Int→Int→Int→Int→Int→Int→Int→Int→Int→Int→Int→Int→List (S120)→Bool→Option (Int)
 | 0,_,_,_,_,_,_,_,_,_,_,_,_,_,_,_,_,_=>none
 | k+1,x3,x07,x08,x09,x0a,x0b,x0c,x0d,x0e,x00,x01,x02,x03,x04,x05,x06,x0f=>if x3=true then ((zaF.f x00 0 17).bind fun j8=>(if j8=true then ((zci.f x01 x02 x03 x04).bind fun j4=>(if j4=true then ((zaF.f x05 0 1073741824).bind fun j2=>(if j2=true then ((zaW.f k x06).bind fun i7=>(some i7)) else (some 2))) else (some 2))) else (some 8))) else (some 2)
def zaG.f (k:Nat) (d9:Int) (f5:Int) (e7:Int) (e9:Int) (e8:Int) (e6:Int) (e5:Int) (e0:Int) (f6:Int) (f7:Int) (b9:Int) (d5:Int) (d6:Int) (d7:Int) (b8:List (S120)) (d8:Bool):Option (Int):=(zaF.f d9 1 1024).bind fun j9=>(if j9=true then ((zbc.f f5).bind fun j5=>(if j5=true then ((zbc.f e9).bind fun j3=>(if j3=true then ((zbc.f e8).bind fun i8=>(if i8=true then ((zaF.f e7 4096 65535).bind fun i6=>(if i6=true then ((zaF.f e6 1 1000).bind fun i5=>(if i5=true then ((zaF.f e5 0 65535).bind fun i4=>(if i4=true then ((zaF.f e0 0 1000).bind fun i3=>(zaG.j0 k i3 d9 f5 e7 e9 e8 e6 e5 e0 f6 f7 b9 d5 d6 d7 b8 d8)) else (zaG.j0 k false d9 f5 e7 e9 e8 e6 e5 e0 f6 f7 b9 d5 d6 d7 b8 d8))) else (zaG.j0 k false d9 f5 e7 e9 e8 e6 e5 e0 f6 f7 b9 d5 d6 d7 b8 d8))) else (zaG.j0 k false d9 f5 e7 e9 e8 e6 e5 e0 f6 f7 b9 d5 d6 d7 b8 d8))) else (zaG.j0 k false d9 f5 e7 e9 e8 e6 e5 e0 f6 f7 b9 d5 d6 d7 b8 d8))) else (zaG.j0 k false d9 f5 e7 e9 e8 e6 e5 e0 f6 f7 b9 d5 d6 d7 b8 d8))) else (zaG.j0 k false d9 f5 e7 e9 e8 e6 e5 e0 f6 f7 b9 d5 d6 d7 b8 d8))) else (zaG.j0 k false d9 f5 e7 e9 e8 e6 e5 e0 f6 f7 b9 d5 d6 d7 b8 d8))
set_option maxHeartbeats 8000000 in
set_option maxRecDepth 100000 in
theorem zaG.calls (k:Nat) (d9:Int) (f5:Int) (e7:Int) (e9:Int) (e8:Int) (e6:Int) (e5:Int) (e0:Int) (f6:Int) (f7:Int) (b9:Int) (d5:Int) (d6:Int) (d7:Int) (j6:Option Addr) (j7:Nat) (b8:List (S120)) (d8:Bool) (r:Int) (w:World) (k3:Kd.C k120 w j6 b8.length b8) (k4:b8.length≤j7) (h:zaG.f k d9 f5 e7 e9 e8 e6 e5 e0 f6 f7 b9 d5 d6 d7 b8 d8=some r) :
 Calls Try.prog 14 #[.agg #[.int .i64 d9,.int .i64 f5,.int .i64 e7,.int .i64 e9,.int .i64 e8,.int .i64 e6,.int .i64 e5,.int .i64 e0,.int .i64 f6,.int .i64 f7,.int .i64 b9,.int .i64 d5,.int .i64 d6,.int .i64 d7,.slice j6 b8.length j7,.bool d8]] w fun e w'=>e = .returned (.int .i64 r)∧Below w.heap.size w w':=by
 have hu26:=Try.underlying26
 have hu23:=Try.underlying23
 have W4:=zaa.mk k3
 have W5:=zaa.mk k4
 clear k3 k4
 have HB:=zaa.mk (Below.refl w.heap.size w)
 have H:((zaF.f d9 1 1024).bind fun j9=>(if j9=true then ((zbc.f f5).bind fun j5=>(if j5=true then ((zbc.f e9).bind fun j3=>(if j3=true then ((zbc.f e8).bind fun i8=>(if i8=true then ((zaF.f e7 4096 65535).bind fun i6=>(if i6=true then ((zaF.f e6 1 1000).bind fun i5=>(if i5=true then ((zaF.f e5 0 65535).bind fun i4=>(if i4=true then ((zaF.f e0 0 1000).bind fun i3=>(zaG.j0 k i3 d9 f5 e7 e9 e8 e6 e5 e0 f6 f7 b9 d5 d6 d7 b8 d8)) else (zaG.j0 k false d9 f5 e7 e9 e8 e6 e5 e0 f6 f7 b9 d5 d6 d7 b8 d8))) else (zaG.j0 k false d9 f5 e7 e9 e8 e6 e5 e0 f6 f7 b9 d5 d6 d7 b8 d8))) else (zaG.j0 k false d9 f5 e7 e9 e8 e6 e5 e0 f6 f7 b9 d5 d6 d7 b8 d8))) else (zaG.j0 k false d9 f5 e7 e9 e8 e6 e5 e0 f6 f7 b9 d5 d6 d7 b8 d8))) else (zaG.j0 k false d9 f5 e7 e9 e8 e6 e5 e0 f6 f7 b9 d5 d6 d7 b8 d8))) else (zaG.j0 k false d9 f5 e7 e9 e8 e6 e5 e0 f6 f7 b9 d5 d6 d7 b8 d8))) else (zaG.j0 k false d9 f5 e7 e9 e8 e6 e5 e0 f6 f7 b9 d5 d6 d7 b8 d8)))=some r:=h
 clear h
 have HC2:=zaa.mk H
 clear H
 go_enter Try.func14,Try.ntmps14
 go_upto_region 1 with (first|((with_reducible refine zaC (N:=1) rfl ?_);refine zbx (N:=1) #[.int .i64 d9,.int .i64 f5,.int .i64 e7,.int .i64 e9,.int .i64 e8,.int .i64 e6,.int .i64 e5,.int .i64 e0,.int .i64 f6,.int .i64 f7,.int .i64 b9,.int .i64 d5,.int .i64 d6,.int .i64 d7,.slice j6 b8.length j7,.bool d8] 26 ?_;intro E8 hg w3 hbox hb;have n0_:=zaa.mk (zae (zL HB.out) hb);have n1_:=zaa.mk (hbox);have n2_:=zaa.mk ((zS hg (zL HB.out):w.heap.size≤E8));have n3_:=n2_;clear HB;have HB:=n0_;have g9:=n1_;have bf8:=n2_;have i9:=n3_;clear n0_ n1_ n2_ n3_;clear hb hbox hg))
 (try simp only [Act.put,List.setIfInBounds_toArray,List.set_cons_zero,List.set_cons_succ])
 go_cut [3] (fun v3 wc=>∃ (kq:Nat) (x3_1:Bool),v3 = .bool x3_1∧zaa (zaG.j0 kq x3_1 d9 f5 e7 e9 e8 e6 e5 e0 f6 f7 b9 d5 d6 d7 b8 d8=some r)∧zaa (kq≤k)∧zaa (wc.heap[E8]? = some (.cells #[.int .i64 d9,.int .i64 f5,.int .i64 e7,.int .i64 e9,.int .i64 e8,.int .i64 e6,.int .i64 e5,.int .i64 e0,.int .i64 f6,.int .i64 f7,.int .i64 b9,.int .i64 d5,.int .i64 d6,.int .i64 d7,(.slice j6 b8.length j7),.bool d8] 26 (0,0)))∧zaa (Below w.heap.size w wc))
 case first=>
  have H:=HC2.out
  clear HC2
  obtain ⟨j9,A4,H⟩:=zob H
  replace H:(if j9=true then ((zbc.f f5).bind fun j5=>(if j5=true then ((zbc.f e9).bind fun j3=>(if j3=true then ((zbc.f e8).bind fun i8=>(if i8=true then ((zaF.f e7 4096 65535).bind fun i6=>(if i6=true then ((zaF.f e6 1 1000).bind fun i5=>(if i5=true then ((zaF.f e5 0 65535).bind fun i4=>(if i4=true then ((zaF.f e0 0 1000).bind fun i3=>(zaG.j0 k i3 d9 f5 e7 e9 e8 e6 e5 e0 f6 f7 b9 d5 d6 d7 b8 d8)) else (zaG.j0 k false d9 f5 e7 e9 e8 e6 e5 e0 f6 f7 b9 d5 d6 d7 b8 d8))) else (zaG.j0 k false d9 f5 e7 e9 e8 e6 e5 e0 f6 f7 b9 d5 d6 d7 b8 d8))) else (zaG.j0 k false d9 f5 e7 e9 e8 e6 e5 e0 f6 f7 b9 d5 d6 d7 b8 d8))) else (zaG.j0 k false d9 f5 e7 e9 e8 e6 e5 e0 f6 f7 b9 d5 d6 d7 b8 d8))) else (zaG.j0 k false d9 f5 e7 e9 e8 e6 e5 e0 f6 f7 b9 d5 d6 d7 b8 d8))) else (zaG.j0 k false d9 f5 e7 e9 e8 e6 e5 e0 f6 f7 b9 d5 d6 d7 b8 d8))) else (zaG.j0 k false d9 f5 e7 e9 e8 e6 e5 e0 f6 f7 b9 d5 d6 d7 b8 d8))=some r:=H
  by_cases c5:j9=true
  ·subst c5
   have H1:((zbc.f f5).bind fun j5=>(if j5=true then ((zbc.f e9).bind fun j3=>(if j3=true then ((zbc.f e8).bind fun i8=>(if i8=true then ((zaF.f e7 4096 65535).bind fun i6=>(if i6=true then ((zaF.f e6 1 1000).bind fun i5=>(if i5=true then ((zaF.f e5 0 65535).bind fun i4=>(if i4=true then ((zaF.f e0 0 1000).bind fun i3=>(zaG.j0 k i3 d9 f5 e7 e9 e8 e6 e5 e0 f6 f7 b9 d5 d6 d7 b8 d8)) else (zaG.j0 k false d9 f5 e7 e9 e8 e6 e5 e0 f6 f7 b9 d5 d6 d7 b8 d8))) else (zaG.j0 k false d9 f5 e7 e9 e8 e6 e5 e0 f6 f7 b9 d5 d6 d7 b8 d8))) else (zaG.j0 k false d9 f5 e7 e9 e8 e6 e5 e0 f6 f7 b9 d5 d6 d7 b8 d8))) else (zaG.j0 k false d9 f5 e7 e9 e8 e6 e5 e0 f6 f7 b9 d5 d6 d7 b8 d8))) else (zaG.j0 k false d9 f5 e7 e9 e8 e6 e5 e0 f6 f7 b9 d5 d6 d7 b8 d8))) else (zaG.j0 k false d9 f5 e7 e9 e8 e6 e5 e0 f6 f7 b9 d5 d6 d7 b8 d8)))=some r:=by rw [if_pos rfl] at H;exact H
   clear H
   have H:=H1
   clear H1
   obtain ⟨j5,A6,H⟩:=zob H
   replace H:(if j5=true then ((zbc.f e9).bind fun j3=>(if j3=true then ((zbc.f e8).bind fun i8=>(if i8=true then ((zaF.f e7 4096 65535).bind fun i6=>(if i6=true then ((zaF.f e6 1 1000).bind fun i5=>(if i5=true then ((zaF.f e5 0 65535).bind fun i4=>(if i4=true then ((zaF.f e0 0 1000).bind fun i3=>(zaG.j0 k i3 d9 f5 e7 e9 e8 e6 e5 e0 f6 f7 b9 d5 d6 d7 b8 d8)) else (zaG.j0 k false d9 f5 e7 e9 e8 e6 e5 e0 f6 f7 b9 d5 d6 d7 b8 d8))) else (zaG.j0 k false d9 f5 e7 e9 e8 e6 e5 e0 f6 f7 b9 d5 d6 d7 b8 d8))) else (zaG.j0 k false d9 f5 e7 e9 e8 e6 e5 e0 f6 f7 b9 d5 d6 d7 b8 d8))) else (zaG.j0 k false d9 f5 e7 e9 e8 e6 e5 e0 f6 f7 b9 d5 d6 d7 b8 d8))) else (zaG.j0 k false d9 f5 e7 e9 e8 e6 e5 e0 f6 f7 b9 d5 d6 d7 b8 d8))) else (zaG.j0 k false d9 f5 e7 e9 e8 e6 e5 e0 f6 f7 b9 d5 d6 d7 b8 d8))=some r:=H
   by_cases c7:j5=true
   ·subst c7
    have H1:((zbc.f e9).bind fun j3=>(if j3=true then ((zbc.f e8).bind fun i8=>(if i8=true then ((zaF.f e7 4096 65535).bind fun i6=>(if i6=true then ((zaF.f e6 1 1000).bind fun i5=>(if i5=true then ((zaF.f e5 0 65535).bind fun i4=>(if i4=true then ((zaF.f e0 0 1000).bind fun i3=>(zaG.j0 k i3 d9 f5 e7 e9 e8 e6 e5 e0 f6 f7 b9 d5 d6 d7 b8 d8)) else (zaG.j0 k false d9 f5 e7 e9 e8 e6 e5 e0 f6 f7 b9 d5 d6 d7 b8 d8))) else (zaG.j0 k false d9 f5 e7 e9 e8 e6 e5 e0 f6 f7 b9 d5 d6 d7 b8 d8))) else (zaG.j0 k false d9 f5 e7 e9 e8 e6 e5 e0 f6 f7 b9 d5 d6 d7 b8 d8))) else (zaG.j0 k false d9 f5 e7 e9 e8 e6 e5 e0 f6 f7 b9 d5 d6 d7 b8 d8))) else (zaG.j0 k false d9 f5 e7 e9 e8 e6 e5 e0 f6 f7 b9 d5 d6 d7 b8 d8)))=some r:=by rw [if_pos rfl] at H;exact H
    clear H
    have H:=H1
    clear H1
    obtain ⟨j3,A8,H⟩:=zob H
    replace H:(if j3=true then ((zbc.f e8).bind fun i8=>(if i8=true then ((zaF.f e7 4096 65535).bind fun i6=>(if i6=true then ((zaF.f e6 1 1000).bind fun i5=>(if i5=true then ((zaF.f e5 0 65535).bind fun i4=>(if i4=true then ((zaF.f e0 0 1000).bind fun i3=>(zaG.j0 k i3 d9 f5 e7 e9 e8 e6 e5 e0 f6 f7 b9 d5 d6 d7 b8 d8)) else (zaG.j0 k false d9 f5 e7 e9 e8 e6 e5 e0 f6 f7 b9 d5 d6 d7 b8 d8))) else (zaG.j0 k false d9 f5 e7 e9 e8 e6 e5 e0 f6 f7 b9 d5 d6 d7 b8 d8))) else (zaG.j0 k false d9 f5 e7 e9 e8 e6 e5 e0 f6 f7 b9 d5 d6 d7 b8 d8))) else (zaG.j0 k false d9 f5 e7 e9 e8 e6 e5 e0 f6 f7 b9 d5 d6 d7 b8 d8))) else (zaG.j0 k false d9 f5 e7 e9 e8 e6 e5 e0 f6 f7 b9 d5 d6 d7 b8 d8))=some r:=H
    by_cases c9:j3=true
    ·subst c9
     have H1:((zbc.f e8).bind fun i8=>(if i8=true then ((zaF.f e7 4096 65535).bind fun i6=>(if i6=true then ((zaF.f e6 1 1000).bind fun i5=>(if i5=true then ((zaF.f e5 0 65535).bind fun i4=>(if i4=true then ((zaF.f e0 0 1000).bind fun i3=>(zaG.j0 k i3 d9 f5 e7 e9 e8 e6 e5 e0 f6 f7 b9 d5 d6 d7 b8 d8)) else (zaG.j0 k false d9 f5 e7 e9 e8 e6 e5 e0 f6 f7 b9 d5 d6 d7 b8 d8))) else (zaG.j0 k false d9 f5 e7 e9 e8 e6 e5 e0 f6 f7 b9 d5 d6 d7 b8 d8))) else (zaG.j0 k false d9 f5 e7 e9 e8 e6 e5 e0 f6 f7 b9 d5 d6 d7 b8 d8))) else (zaG.j0 k false d9 f5 e7 e9 e8 e6 e5 e0 f6 f7 b9 d5 d6 d7 b8 d8)))=some r:=by rw [if_pos rfl] at H;exact H
     clear H
     have H:=H1
     clear H1
     obtain ⟨i8,A10,H⟩:=zob H
     replace H:(if i8=true then ((zaF.f e7 4096 65535).bind fun i6=>(if i6=true then ((zaF.f e6 1 1000).bind fun i5=>(if i5=true then ((zaF.f e5 0 65535).bind fun i4=>(if i4=true then ((zaF.f e0 0 1000).bind fun i3=>(zaG.j0 k i3 d9 f5 e7 e9 e8 e6 e5 e0 f6 f7 b9 d5 d6 d7 b8 d8)) else (zaG.j0 k false d9 f5 e7 e9 e8 e6 e5 e0 f6 f7 b9 d5 d6 d7 b8 d8))) else (zaG.j0 k false d9 f5 e7 e9 e8 e6 e5 e0 f6 f7 b9 d5 d6 d7 b8 d8))) else (zaG.j0 k false d9 f5 e7 e9 e8 e6 e5 e0 f6 f7 b9 d5 d6 d7 b8 d8))) else (zaG.j0 k false d9 f5 e7 e9 e8 e6 e5 e0 f6 f7 b9 d5 d6 d7 b8 d8))=some r:=H
     by_cases c11:i8=true
     ·subst c11
      have H1:((zaF.f e7 4096 65535).bind fun i6=>(if i6=true then ((zaF.f e6 1 1000).bind fun i5=>(if i5=true then ((zaF.f e5 0 65535).bind fun i4=>(if i4=true then ((zaF.f e0 0 1000).bind fun i3=>(zaG.j0 k i3 d9 f5 e7 e9 e8 e6 e5 e0 f6 f7 b9 d5 d6 d7 b8 d8)) else (zaG.j0 k false d9 f5 e7 e9 e8 e6 e5 e0 f6 f7 b9 d5 d6 d7 b8 d8))) else (zaG.j0 k false d9 f5 e7 e9 e8 e6 e5 e0 f6 f7 b9 d5 d6 d7 b8 d8))) else (zaG.j0 k false d9 f5 e7 e9 e8 e6 e5 e0 f6 f7 b9 d5 d6 d7 b8 d8)))=some r:=by rw [if_pos rfl] at H;exact H
      clear H
      have H:=H1
      clear H1
      obtain ⟨i6,A12,H⟩:=zob H
      replace H:(if i6=true then ((zaF.f e6 1 1000).bind fun i5=>(if i5=true then ((zaF.f e5 0 65535).bind fun i4=>(if i4=true then ((zaF.f e0 0 1000).bind fun i3=>(zaG.j0 k i3 d9 f5 e7 e9 e8 e6 e5 e0 f6 f7 b9 d5 d6 d7 b8 d8)) else (zaG.j0 k false d9 f5 e7 e9 e8 e6 e5 e0 f6 f7 b9 d5 d6 d7 b8 d8))) else (zaG.j0 k false d9 f5 e7 e9 e8 e6 e5 e0 f6 f7 b9 d5 d6 d7 b8 d8))) else (zaG.j0 k false d9 f5 e7 e9 e8 e6 e5 e0 f6 f7 b9 d5 d6 d7 b8 d8))=some r:=H
      by_cases c13:i6=true
      ·subst c13
       have H1:((zaF.f e6 1 1000).bind fun i5=>(if i5=true then ((zaF.f e5 0 65535).bind fun i4=>(if i4=true then ((zaF.f e0 0 1000).bind fun i3=>(zaG.j0 k i3 d9 f5 e7 e9 e8 e6 e5 e0 f6 f7 b9 d5 d6 d7 b8 d8)) else (zaG.j0 k false d9 f5 e7 e9 e8 e6 e5 e0 f6 f7 b9 d5 d6 d7 b8 d8))) else (zaG.j0 k false d9 f5 e7 e9 e8 e6 e5 e0 f6 f7 b9 d5 d6 d7 b8 d8)))=some r:=by rw [if_pos rfl] at H;exact H
       clear H
       have H:=H1
       clear H1
       obtain ⟨i5,A14,H⟩:=zob H
       replace H:(if i5=true then ((zaF.f e5 0 65535).bind fun i4=>(if i4=true then ((zaF.f e0 0 1000).bind fun i3=>(zaG.j0 k i3 d9 f5 e7 e9 e8 e6 e5 e0 f6 f7 b9 d5 d6 d7 b8 d8)) else (zaG.j0 k false d9 f5 e7 e9 e8 e6 e5 e0 f6 f7 b9 d5 d6 d7 b8 d8))) else (zaG.j0 k false d9 f5 e7 e9 e8 e6 e5 e0 f6 f7 b9 d5 d6 d7 b8 d8))=some r:=H
       by_cases c15:i5=true
       ·subst c15
        have H1:((zaF.f e5 0 65535).bind fun i4=>(if i4=true then ((zaF.f e0 0 1000).bind fun i3=>(zaG.j0 k i3 d9 f5 e7 e9 e8 e6 e5 e0 f6 f7 b9 d5 d6 d7 b8 d8)) else (zaG.j0 k false d9 f5 e7 e9 e8 e6 e5 e0 f6 f7 b9 d5 d6 d7 b8 d8)))=some r:=by rw [if_pos rfl] at H;exact H
        clear H
        have H:=H1
        clear H1
        obtain ⟨i4,A16,H⟩:=zob H
        replace H:(if i4=true then ((zaF.f e0 0 1000).bind fun i3=>(zaG.j0 k i3 d9 f5 e7 e9 e8 e6 e5 e0 f6 f7 b9 d5 d6 d7 b8 d8)) else (zaG.j0 k false d9 f5 e7 e9 e8 e6 e5 e0 f6 f7 b9 d5 d6 d7 b8 d8))=some r:=H
        by_cases c17:i4=true
        ·subst c17
         have H1:((zaF.f e0 0 1000).bind fun i3=>(zaG.j0 k i3 d9 f5 e7 e9 e8 e6 e5 e0 f6 f7 b9 d5 d6 d7 b8 d8))=some r:=by rw [if_pos rfl] at H;exact H
         clear H
         have H:=H1
         clear H1
         obtain ⟨i3,A18,H⟩:=zob H
         replace H:(zaG.j0 k i3 d9 f5 e7 e9 e8 e6 e5 e0 f6 f7 b9 d5 d6 d7 b8 d8)=some r:=H
         have H':=zaa.mk H
         clear H
         obtain ⟨E9,F0,F1,F2,F3,F4,F5,F6,F7,F8,k5,k6,k7,k8,k9,l3⟩:=zD16 g9.out
         obtain ⟨F9,G4,G5,G6,G7,G8,G9,H0,H2,H3,l4,l5,l6,l7,l8,l9⟩:=zE16 g9.out
         go_wp2_with (first|((with_reducible refine zah (f:=45) rfl ?_);refine zgl 6 Try.func45 #[.int .i64 d9,.int .i64 1,.int .i64 1024] ?_;(with_reducible refine (zaF.calls d9 1 1024 true _ A4.out).mono ?_);rintro e w' ⟨rfl,⟨nd,rfl⟩⟩;refine ⟨_,rfl,?_⟩)|(go_at_call 46;(with_reducible refine (zbc.calls f5 true _ A6.out).mono ?_);rintro e w' ⟨rfl,⟨nd,rfl⟩⟩)|(go_at_call 46;(with_reducible refine (zbc.calls e9 true _ A8.out).mono ?_);rintro e w' ⟨rfl,⟨nd,rfl⟩⟩)|(go_at_call 46;(with_reducible refine (zbc.calls e8 true _ A10.out).mono ?_);rintro e w' ⟨rfl,⟨nd,rfl⟩⟩)|(go_at_call 45;(with_reducible refine (zaF.calls e7 4096 65535 true _ A12.out).mono ?_);rintro e w' ⟨rfl,⟨nd,rfl⟩⟩)|(go_at_call 45;(with_reducible refine (zaF.calls e6 1 1000 true _ A14.out).mono ?_);rintro e w' ⟨rfl,⟨nd,rfl⟩⟩)|(go_at_call 45;(with_reducible refine (zaF.calls e5 0 65535 true _ A16.out).mono ?_);rintro e w' ⟨rfl,⟨nd,rfl⟩⟩)|(go_at_call 45;(with_reducible refine (zaF.calls e0 0 1000 i3 _ A18.out).mono ?_);rintro e w' ⟨rfl,⟨nd,rfl⟩⟩))
         go_meet
         case rel=>exact ⟨_,(i3),zF,H',⟨by first|omega|exact Nat.le_refl _⟩,⟨by refine zB ?_;exact g9.out⟩,⟨by repeat (first|(with_reducible first|exact HB.out|apply zan|apply zaj|apply zai|refine zao ?_ i9.out)|exact HB.out)⟩⟩
        ·replace c17:=Bool.eq_false_iff.mpr c17
         subst c17
         have H1:(zaG.j0 k false d9 f5 e7 e9 e8 e6 e5 e0 f6 f7 b9 d5 d6 d7 b8 d8)=some r:=by rw [if_neg (show ¬ (false=true) by decide)] at H;exact H
         clear H
         have H:=H1
         clear H1
         have H':=zaa.mk H
         clear H
         obtain ⟨H4,H5,H6,H7,H8,H9,I0,I1,I2,I3,m5,m6,m7,m8,m9,n0⟩:=zD16 g9.out
         obtain ⟨I4,I5,I6,I7,I8,I9,J0,J1,J2,J3,n3,n4,n5,n6,n7,n8⟩:=zE16 g9.out
         go_wp2_with (first|((with_reducible refine zah (f:=45) rfl ?_);refine zgl 6 Try.func45 #[.int .i64 d9,.int .i64 1,.int .i64 1024] ?_;(with_reducible refine (zaF.calls d9 1 1024 true _ A4.out).mono ?_);rintro e w' ⟨rfl,⟨nd,rfl⟩⟩;refine ⟨_,rfl,?_⟩)|(go_at_call 46;(with_reducible refine (zbc.calls f5 true _ A6.out).mono ?_);rintro e w' ⟨rfl,⟨nd,rfl⟩⟩)|(go_at_call 46;(with_reducible refine (zbc.calls e9 true _ A8.out).mono ?_);rintro e w' ⟨rfl,⟨nd,rfl⟩⟩)|(go_at_call 46;(with_reducible refine (zbc.calls e8 true _ A10.out).mono ?_);rintro e w' ⟨rfl,⟨nd,rfl⟩⟩)|(go_at_call 45;(with_reducible refine (zaF.calls e7 4096 65535 true _ A12.out).mono ?_);rintro e w' ⟨rfl,⟨nd,rfl⟩⟩)|(go_at_call 45;(with_reducible refine (zaF.calls e6 1 1000 true _ A14.out).mono ?_);rintro e w' ⟨rfl,⟨nd,rfl⟩⟩)|(go_at_call 45;(with_reducible refine (zaF.calls e5 0 65535 false _ A16.out).mono ?_);rintro e w' ⟨rfl,⟨nd,rfl⟩⟩))
         go_meet
         case rel=>exact ⟨_,(false),zF,H',⟨by first|omega|exact Nat.le_refl _⟩,⟨by refine zB ?_;exact g9.out⟩,⟨by repeat (first|(with_reducible first|exact HB.out|apply zan|apply zaj|apply zai|refine zao ?_ i9.out)|exact HB.out)⟩⟩
       ·replace c15:=Bool.eq_false_iff.mpr c15
        subst c15
        have H1:(zaG.j0 k false d9 f5 e7 e9 e8 e6 e5 e0 f6 f7 b9 d5 d6 d7 b8 d8)=some r:=by rw [if_neg (show ¬ (false=true) by decide)] at H;exact H
        clear H
        have H:=H1
        clear H1
        have H':=zaa.mk H
        clear H
        obtain ⟨J4,J5,J6,J7,J8,J9,K0,K1,K2,K3,n9,o2,o3,o4,o5,o6⟩:=zD16 g9.out
        obtain ⟨K4,K5,K6,K7,K8,K9,L0,L1,L2,L3,o7,o8,o9,p7,p8,p9⟩:=zE16 g9.out
        go_wp2_with (first|((with_reducible refine zah (f:=45) rfl ?_);refine zgl 6 Try.func45 #[.int .i64 d9,.int .i64 1,.int .i64 1024] ?_;(with_reducible refine (zaF.calls d9 1 1024 true _ A4.out).mono ?_);rintro e w' ⟨rfl,⟨nd,rfl⟩⟩;refine ⟨_,rfl,?_⟩)|(go_at_call 46;(with_reducible refine (zbc.calls f5 true _ A6.out).mono ?_);rintro e w' ⟨rfl,⟨nd,rfl⟩⟩)|(go_at_call 46;(with_reducible refine (zbc.calls e9 true _ A8.out).mono ?_);rintro e w' ⟨rfl,⟨nd,rfl⟩⟩)|(go_at_call 46;(with_reducible refine (zbc.calls e8 true _ A10.out).mono ?_);rintro e w' ⟨rfl,⟨nd,rfl⟩⟩)|(go_at_call 45;(with_reducible refine (zaF.calls e7 4096 65535 true _ A12.out).mono ?_);rintro e w' ⟨rfl,⟨nd,rfl⟩⟩)|(go_at_call 45;(with_reducible refine (zaF.calls e6 1 1000 false _ A14.out).mono ?_);rintro e w' ⟨rfl,⟨nd,rfl⟩⟩))
        go_meet
        case rel=>exact ⟨_,(false),zF,H',⟨by first|omega|exact Nat.le_refl _⟩,⟨by refine zB ?_;exact g9.out⟩,⟨by repeat (first|(with_reducible first|exact HB.out|apply zan|apply zaj|apply zai|refine zao ?_ i9.out)|exact HB.out)⟩⟩
      ·replace c13:=Bool.eq_false_iff.mpr c13
       subst c13
       have H1:(zaG.j0 k false d9 f5 e7 e9 e8 e6 e5 e0 f6 f7 b9 d5 d6 d7 b8 d8)=some r:=by rw [if_neg (show ¬ (false=true) by decide)] at H;exact H
       clear H
       have H:=H1
       clear H1
       have H':=zaa.mk H
       clear H
       obtain ⟨L4,L5,L6,L7,L8,L9,M0,M1,M2,M3,s5,s6,s7,s8,s9,t6⟩:=zD16 g9.out
       obtain ⟨M4,M5,M6,M7,M8,M9,N0,N1,N2,N3,t7,t8,t9,u3,u4,u5⟩:=zE16 g9.out
       go_wp2_with (first|((with_reducible refine zah (f:=45) rfl ?_);refine zgl 6 Try.func45 #[.int .i64 d9,.int .i64 1,.int .i64 1024] ?_;(with_reducible refine (zaF.calls d9 1 1024 true _ A4.out).mono ?_);rintro e w' ⟨rfl,⟨nd,rfl⟩⟩;refine ⟨_,rfl,?_⟩)|(go_at_call 46;(with_reducible refine (zbc.calls f5 true _ A6.out).mono ?_);rintro e w' ⟨rfl,⟨nd,rfl⟩⟩)|(go_at_call 46;(with_reducible refine (zbc.calls e9 true _ A8.out).mono ?_);rintro e w' ⟨rfl,⟨nd,rfl⟩⟩)|(go_at_call 46;(with_reducible refine (zbc.calls e8 true _ A10.out).mono ?_);rintro e w' ⟨rfl,⟨nd,rfl⟩⟩)|(go_at_call 45;(with_reducible refine (zaF.calls e7 4096 65535 false _ A12.out).mono ?_);rintro e w' ⟨rfl,⟨nd,rfl⟩⟩))
       go_meet
       case rel=>exact ⟨_,(false),zF,H',⟨by first|omega|exact Nat.le_refl _⟩,⟨by refine zB ?_;exact g9.out⟩,⟨by repeat (first|(with_reducible first|exact HB.out|apply zan|apply zaj|apply zai|refine zao ?_ i9.out)|exact HB.out)⟩⟩
     ·replace c11:=Bool.eq_false_iff.mpr c11
      subst c11
      have H1:(zaG.j0 k false d9 f5 e7 e9 e8 e6 e5 e0 f6 f7 b9 d5 d6 d7 b8 d8)=some r:=by rw [if_neg (show ¬ (false=true) by decide)] at H;exact H
      clear H
      have H:=H1
      clear H1
      have H':=zaa.mk H
      clear H
      obtain ⟨N4,N5,N6,N7,N8,N9,O0,O1,O2,O3,u6,u7,u9,y5,y6,y7⟩:=zD16 g9.out
      obtain ⟨O4,O5,O6,O7,O8,O9,P0,P1,P2,P3,y8,y9,z1,z2,z3,z4⟩:=zE16 g9.out
      go_wp2_with (first|((with_reducible refine zah (f:=45) rfl ?_);refine zgl 6 Try.func45 #[.int .i64 d9,.int .i64 1,.int .i64 1024] ?_;(with_reducible refine (zaF.calls d9 1 1024 true _ A4.out).mono ?_);rintro e w' ⟨rfl,⟨nd,rfl⟩⟩;refine ⟨_,rfl,?_⟩)|(go_at_call 46;(with_reducible refine (zbc.calls f5 true _ A6.out).mono ?_);rintro e w' ⟨rfl,⟨nd,rfl⟩⟩)|(go_at_call 46;(with_reducible refine (zbc.calls e9 true _ A8.out).mono ?_);rintro e w' ⟨rfl,⟨nd,rfl⟩⟩)|(go_at_call 46;(with_reducible refine (zbc.calls e8 false _ A10.out).mono ?_);rintro e w' ⟨rfl,⟨nd,rfl⟩⟩))
      go_meet
      case rel=>exact ⟨_,(false),zF,H',⟨by first|omega|exact Nat.le_refl _⟩,⟨by refine zB ?_;exact g9.out⟩,⟨by repeat (first|(with_reducible first|exact HB.out|apply zan|apply zaj|apply zai|refine zao ?_ i9.out)|exact HB.out)⟩⟩
    ·replace c9:=Bool.eq_false_iff.mpr c9
     subst c9
     have H1:(zaG.j0 k false d9 f5 e7 e9 e8 e6 e5 e0 f6 f7 b9 d5 d6 d7 b8 d8)=some r:=by rw [if_neg (show ¬ (false=true) by decide)] at H;exact H
     clear H
     have H:=H1
     clear H1
     have H':=zaa.mk H
     clear H
     obtain ⟨P4,P5,P6,P7,P8,P9,Q0,Q1,Q2,Q3,z5,z6,z7,z8,z9,B0⟩:=zD16 g9.out
     obtain ⟨Q4,Q5,Q6,Q7,Q8,Q9,R0,R1,R2,R3,B3,B7,C0,C1,C2,C3⟩:=zE16 g9.out
     go_wp2_with (first|((with_reducible refine zah (f:=45) rfl ?_);refine zgl 6 Try.func45 #[.int .i64 d9,.int .i64 1,.int .i64 1024] ?_;(with_reducible refine (zaF.calls d9 1 1024 true _ A4.out).mono ?_);rintro e w' ⟨rfl,⟨nd,rfl⟩⟩;refine ⟨_,rfl,?_⟩)|(go_at_call 46;(with_reducible refine (zbc.calls f5 true _ A6.out).mono ?_);rintro e w' ⟨rfl,⟨nd,rfl⟩⟩)|(go_at_call 46;(with_reducible refine (zbc.calls e9 false _ A8.out).mono ?_);rintro e w' ⟨rfl,⟨nd,rfl⟩⟩))
     go_meet
     case rel=>exact ⟨_,(false),zF,H',⟨by first|omega|exact Nat.le_refl _⟩,⟨by refine zB ?_;exact g9.out⟩,⟨by repeat (first|(with_reducible first|exact HB.out|apply zan|apply zaj|apply zai|refine zao ?_ i9.out)|exact HB.out)⟩⟩
   ·replace c7:=Bool.eq_false_iff.mpr c7
    subst c7
    have H1:(zaG.j0 k false d9 f5 e7 e9 e8 e6 e5 e0 f6 f7 b9 d5 d6 d7 b8 d8)=some r:=by rw [if_neg (show ¬ (false=true) by decide)] at H;exact H
    clear H
    have H:=H1
    clear H1
    have H':=zaa.mk H
    clear H
    obtain ⟨R4,R5,R6,R7,R8,R9,S0,S1,S3,S4,C4,C5,C6,C7,C8,C9⟩:=zD16 g9.out
    obtain ⟨S5,S6,S7,S8,S9,T0,T3,T7,U0,U1,D0,D1,D2,D3,D4,D5⟩:=zE16 g9.out
    go_wp2_with (first|((with_reducible refine zah (f:=45) rfl ?_);refine zgl 6 Try.func45 #[.int .i64 d9,.int .i64 1,.int .i64 1024] ?_;(with_reducible refine (zaF.calls d9 1 1024 true _ A4.out).mono ?_);rintro e w' ⟨rfl,⟨nd,rfl⟩⟩;refine ⟨_,rfl,?_⟩)|(go_at_call 46;(with_reducible refine (zbc.calls f5 false _ A6.out).mono ?_);rintro e w' ⟨rfl,⟨nd,rfl⟩⟩))
    go_meet
    case rel=>exact ⟨_,(false),zF,H',⟨by first|omega|exact Nat.le_refl _⟩,⟨by refine zB ?_;exact g9.out⟩,⟨by repeat (first|(with_reducible first|exact HB.out|apply zan|apply zaj|apply zai|refine zao ?_ i9.out)|exact HB.out)⟩⟩
  ·replace c5:=Bool.eq_false_iff.mpr c5
   subst c5
   have H1:(zaG.j0 k false d9 f5 e7 e9 e8 e6 e5 e0 f6 f7 b9 d5 d6 d7 b8 d8)=some r:=by rw [if_neg (show ¬ (false=true) by decide)] at H;exact H
   clear H
   have H:=H1
   clear H1
   have H':=zaa.mk H
   clear H
   obtain ⟨U2,U3,U4,U5,U6,U7,U8,U9,V0,V1,D6,D7,D8,D9,E0,E1⟩:=zD16 g9.out
   obtain ⟨V2,V3,V4,V5,V6,V7,V8,V9,W0,W3,E2,E3,E4,E5,E6,E7⟩:=zE16 g9.out
   go_wp2_with (first|((with_reducible refine zah (f:=45) rfl ?_);refine zgl 6 Try.func45 #[.int .i64 d9,.int .i64 1,.int .i64 1024] ?_;(with_reducible refine (zaF.calls d9 1 1024 false _ A4.out).mono ?_);rintro e w' ⟨rfl,⟨nd,rfl⟩⟩;refine ⟨_,rfl,?_⟩))
   go_meet
   case rel=>exact ⟨_,(false),zF,H',⟨by first|omega|exact Nat.le_refl _⟩,⟨by refine zB ?_;exact g9.out⟩,⟨by repeat (first|(with_reducible first|exact HB.out|apply zan|apply zaj|apply zai|refine zao ?_ i9.out)|exact HB.out)⟩⟩
 case rest=>
  clear HC2
  try clear c1
  try clear p2
  try clear c4
  try clear c5
  try clear c7
  try clear c9
  try clear c11
  try clear c13
  try clear c14
  try clear c15
  try clear c17
  try clear E9 F0 k5 k6 k7 k8 k9 l3 F1 F2 F3 F4 F5 F6 F7 F8 H4 H5 m5 m6 m7 m8 m9 n0 H6 H7 H8 H9 I0 I1 I2 I3 J4 J5 n9 o2 o3 o4 o5 o6 J6 J7 J8 J9 K0 K1 K2 K3 L4 L5 s5 s6 s7 s8 s9 t6 L6 L7 L8 L9 M0 M1 M2 M3 N4 N5 u6 u7 u9 y5 y6 y7 N6 N7 N8 N9 O0 O1 O2 O3 P4 P5 z5 z6 z7 z8 z9 B0 P6 P7 P8 P9 Q0 Q1 Q2 Q3 R4 R5 C4 C5 C6 C7 C8 C9 R6 R7 R8 R9 S0 S1 S3 S4 U2 U3 D6 D7 D8 D9 E0 E1 U4 U5 U6 U7 U8 U9 V0 V1 F9 G4 l4 l5 l6 l7 l8 l9 G5 G6 G7 G8 G9 H0 H2 H3 I4 I5 n3 n4 n5 n6 n7 n8 I6 I7 I8 I9 J0 J1 J2 J3 K4 K5 o7 o8 o9 p7 p8 p9 K6 K7 K8 K9 L0 L1 L2 L3 M4 M5 t7 t8 t9 u3 u4 u5 M6 M7 M8 M9 N0 N1 N2 N3 O4 O5 y8 y9 z1 z2 z3 z4 O6 O7 O8 O9 P0 P1 P2 P3 Q4 Q5 B3 B7 C0 C1 C2 C3 Q6 Q7 Q8 Q9 R0 R1 R2 R3 S5 S6 D0 D1 D2 D3 D4 D5 S7 S8 S9 T0 T3 T7 U0 U1 V2 V3 E2 E3 E4 E5 E6 E7 V4 V5 V6 V7 V8 V9 W0 W3
  obtain ⟨kq,x3_1,rfl,HA,HJ1,g9,HB⟩:=hcut
  cases kq with
  | zero=>exact absurd HA.out (by simp [zaG.j0])
  | succ kj1=>
   have H:=HA.out
   clear HA
   simp only [zaG.j0] at H
   by_cases c27:x3_1=true
   ·subst c27
    have H1:((zaF.f f6 0 17).bind fun j8=>(if j8=true then ((zci.f f7 b9 d5 d6).bind fun j4=>(if j4=true then ((zaF.f d7 0 1073741824).bind fun j2=>(if j2=true then ((zaW.f kj1 b8).bind fun i7=>(some i7)) else (some 2))) else (some 2))) else (some 8)))=some r:=by rw [if_pos rfl] at H;exact H
    clear H
    have H:=H1
    clear H1
    obtain ⟨j8,A28,H⟩:=zob H
    replace H:(if j8=true then ((zci.f f7 b9 d5 d6).bind fun j4=>(if j4=true then ((zaF.f d7 0 1073741824).bind fun j2=>(if j2=true then ((zaW.f kj1 b8).bind fun i7=>(some i7)) else (some 2))) else (some 2))) else (some 8))=some r:=H
    by_cases c29:j8=true
    ·subst c29
     have H1:((zci.f f7 b9 d5 d6).bind fun j4=>(if j4=true then ((zaF.f d7 0 1073741824).bind fun j2=>(if j2=true then ((zaW.f kj1 b8).bind fun i7=>(some i7)) else (some 2))) else (some 2)))=some r:=by rw [if_pos rfl] at H;exact H
     clear H
     have H:=H1
     clear H1
     obtain ⟨j4,A30,H⟩:=zob H
     replace H:(if j4=true then ((zaF.f d7 0 1073741824).bind fun j2=>(if j2=true then ((zaW.f kj1 b8).bind fun i7=>(some i7)) else (some 2))) else (some 2))=some r:=H
     by_cases c31:j4=true
     ·subst c31
      have H1:((zaF.f d7 0 1073741824).bind fun j2=>(if j2=true then ((zaW.f kj1 b8).bind fun i7=>(some i7)) else (some 2)))=some r:=by rw [if_pos rfl] at H;exact H
      clear H
      have H:=H1
      clear H1
      obtain ⟨j2,A32,H⟩:=zob H
      replace H:(if j2=true then ((zaW.f kj1 b8).bind fun i7=>(some i7)) else (some 2))=some r:=H
      by_cases c33:j2=true
      ·subst c33
       have H1:((zaW.f kj1 b8).bind fun i7=>(some i7))=some r:=by rw [if_pos rfl] at H;exact H
       clear H
       have H:=H1
       clear H1
       obtain ⟨i7,A34,H⟩:=zob H
       replace H:(some i7)=some r:=H
       obtain rfl:=Option.some.inj H
       obtain ⟨ad8,ad9,ae0,ae1,ae2,ae3,ae4,ae5,ae6,ae7,W6,W7,W8,W9,X0,X1⟩:=zD16 g9.out
       obtain ⟨ae8,ae9,af0,af1,af2,af3,af4,af5,af6,af7,X2,X3,X4,X5,X6,X7⟩:=zE16 g9.out
       go_wp2_with (first|((with_reducible refine zah (f:=45) rfl ?_);refine zgl 48 Try.func45 #[.int .i64 f6,.int .i64 0,.int .i64 17] ?_;(with_reducible refine (zaF.calls f6 0 17 true _ A28.out).mono ?_);rintro e w' ⟨rfl,⟨nd,rfl⟩⟩;refine ⟨_,rfl,?_⟩)|((with_reducible refine zah (f:=47) rfl ?_);refine zgl 53 Try.func47 #[.agg #[.int .i64 f7,.int .i64 b9,.int .i64 d5,.int .i64 d6]] ?_;(with_reducible refine (zci.calls f7 b9 d5 d6 true _ A30.out).mono ?_);rintro e w36 ⟨rfl,hb⟩;refine ⟨_,rfl,?_⟩;replace g9:=zaa.mk (zac (zB g9.out) hb);replace HB:=zaa.mk (zae (zL1 HB.out i9.out) hb);(try clear hb);obtain ⟨af8,af9,ag0,ag1,ag2,ag3,ag4,ag5,ag6,ag7,X8,X9,Y0,Y1,Y2,Y3⟩:=zD16 g9.out;obtain ⟨ag8,ag9,ah0,ah1,ah2,ah3,ah4,ah5,ah6,ah7,Y4,Y5,Y6,Y7,Y8,Y9⟩:=zE16 g9.out)|(go_at_call 45;(with_reducible refine (zaF.calls d7 0 1073741824 true _ A32.out).mono ?_);rintro e w' ⟨rfl,⟨nd,rfl⟩⟩)|((with_reducible refine zah (f:=48) rfl ?_);refine zgl 63 Try.func48 #[.slice j6 b8.length j7] ?_;(with_reducible refine (zaW.calls kj1 _ _ b8 i7 _ ?side1 ?side2 A34.out).mono ?_);(case side1=>repeat (first|exact (Kd.C_below W4.out (zL1 HB.out i9.out))|(with_reducible refine Kd.C_alloc ?_ _)|(with_reducible refine Kd.C_drewN ?_ _)|(with_reducible refine Kd.C_drew ?_)));(case side2=>exact W5.out);rintro e w38 ⟨rfl,hb⟩;refine ⟨_,rfl,?_⟩;replace g9:=zaa.mk (zac (zB g9.out) hb);replace HB:=zaa.mk (zae (zL1 HB.out i9.out) hb);(try clear hb)))
       go_ret
       exact zG
      ·replace c33:=Bool.eq_false_iff.mpr c33
       subst c33
       have H1:(some 2)=some r:=by rw [if_neg (show ¬ (false=true) by decide)] at H;exact H
       clear H
       have H:=H1
       clear H1
       obtain rfl:=Option.some.inj H
       obtain ⟨ah8,ah9,ai0,ai1,ai2,ai3,ai4,ai5,ai6,ai7,Z0,Z1,Z2,Z3,Z4,Z5⟩:=zD16 g9.out
       obtain ⟨ai8,ai9,aj0,aj1,aj2,aj3,aj4,aj5,aj6,aj7,Z6,Z7,Z8,Z9,aa0,aa1⟩:=zE16 g9.out
       go_wp2_with (first|((with_reducible refine zah (f:=45) rfl ?_);refine zgl 48 Try.func45 #[.int .i64 f6,.int .i64 0,.int .i64 17] ?_;(with_reducible refine (zaF.calls f6 0 17 true _ A28.out).mono ?_);rintro e w' ⟨rfl,⟨nd,rfl⟩⟩;refine ⟨_,rfl,?_⟩)|((with_reducible refine zah (f:=47) rfl ?_);refine zgl 53 Try.func47 #[.agg #[.int .i64 f7,.int .i64 b9,.int .i64 d5,.int .i64 d6]] ?_;(with_reducible refine (zci.calls f7 b9 d5 d6 true _ A30.out).mono ?_);rintro e w40 ⟨rfl,hb⟩;refine ⟨_,rfl,?_⟩;replace g9:=zaa.mk (zac (zB g9.out) hb);replace HB:=zaa.mk (zae (zL1 HB.out i9.out) hb);(try clear hb);obtain ⟨aj8,aj9,ba0,ba1,ba2,ba3,ba4,ba5,ba6,ba7,aa2,aa3,aa4,aa5,aa6,aa7⟩:=zD16 g9.out;obtain ⟨ba8,ba9,bb0,bb1,bb2,bb3,bb4,bb5,bb6,bb7,aa8,aa9,ab0,ab1,ab2,ab3⟩:=zE16 g9.out)|(go_at_call 45;(with_reducible refine (zaF.calls d7 0 1073741824 false _ A32.out).mono ?_);rintro e w' ⟨rfl,⟨nd,rfl⟩⟩))
       go_ret
       exact zG
     ·replace c31:=Bool.eq_false_iff.mpr c31
      subst c31
      have H1:(some 2)=some r:=by rw [if_neg (show ¬ (false=true) by decide)] at H;exact H
      clear H
      have H:=H1
      clear H1
      obtain rfl:=Option.some.inj H
      obtain ⟨bb8,bb9,bc0,bc1,bc2,bc3,bc4,bc5,bc6,bc7,ab4,ab5,ab6,ab7,ab8,ab9⟩:=zD16 g9.out
      obtain ⟨bc8,bc9,bd0,bd1,bd2,bd3,bd4,bd5,bd6,bd7,ac0,ac1,ac2,ac3,ac4,ac5⟩:=zE16 g9.out
      go_wp2_with (first|((with_reducible refine zah (f:=45) rfl ?_);refine zgl 48 Try.func45 #[.int .i64 f6,.int .i64 0,.int .i64 17] ?_;(with_reducible refine (zaF.calls f6 0 17 true _ A28.out).mono ?_);rintro e w' ⟨rfl,⟨nd,rfl⟩⟩;refine ⟨_,rfl,?_⟩)|((with_reducible refine zah (f:=47) rfl ?_);refine zgl 53 Try.func47 #[.agg #[.int .i64 f7,.int .i64 b9,.int .i64 d5,.int .i64 d6]] ?_;(with_reducible refine (zci.calls f7 b9 d5 d6 false _ A30.out).mono ?_);rintro e w43 ⟨rfl,hb⟩;refine ⟨_,rfl,?_⟩;replace g9:=zaa.mk (zac (zB g9.out) hb);replace HB:=zaa.mk (zae (zL1 HB.out i9.out) hb);(try clear hb)))
      go_ret
      exact zG
    ·replace c29:=Bool.eq_false_iff.mpr c29
     subst c29
     have H1:(some 8)=some r:=by rw [if_neg (show ¬ (false=true) by decide)] at H;exact H
     clear H
     have H:=H1
     clear H1
     obtain rfl:=Option.some.inj H
     obtain ⟨bd8,bd9,be0,be1,be2,be3,be4,be5,be6,be7,ac6,ac7,ac8,ac9,ad0,ad1⟩:=zD16 g9.out
     obtain ⟨be8,be9,bf0,bf1,bf2,bf3,bf4,bf5,bf6,bf7,ad2,ad3,ad4,ad5,ad6,ad7⟩:=zE16 g9.out
     go_wp2_with (first|((with_reducible refine zah (f:=45) rfl ?_);refine zgl 48 Try.func45 #[.int .i64 f6,.int .i64 0,.int .i64 17] ?_;(with_reducible refine (zaF.calls f6 0 17 false _ A28.out).mono ?_);rintro e w' ⟨rfl,⟨nd,rfl⟩⟩;refine ⟨_,rfl,?_⟩))
     go_ret
     exact zG
   ·replace c27:=Bool.eq_false_iff.mpr c27
    subst c27
    have H1:(some 2)=some r:=by rw [if_neg (show ¬ (false=true) by decide)] at H;exact H
    clear H
    have H:=H1
    clear H1
    obtain rfl:=Option.some.inj H
    go_wp2
    go_ret
    exact zG
end Go.Proofs.Ytlilncnoohfcdaa.Da
