
import Derived.Test.YtlilncnoohfcdaaDax0
import Derived.Test.YtlilncnoohfcdaaDax11
import Derived.Test.YtlilncnoohfcdaaDax12
namespace Go.Proofs.Ytlilncnoohfcdaa.Da
open Go.RowKit Go.Proofs.YtlilncnoohfcdaaW.PrintWords Go.Proofs.YtlilncnoohfcdaaW.PrintLast Go.Proofs.YtlilncnoohfcdaaW.PrintMore
attribute [local go_sem] max2_int min2_int zbo zbp zbc zbd zbj zbk   
set_option linter.unusedVariables false
set_option linter.unusedSimpArgs false
/-! ### imageeditorref27_Check: function 15 -/
mutual
def zah.j0:Nat→Bool→Int→Int→Int→Int→Int→Int→Int→Int→Int→Int→Int→Int→Int→Int→List (S120)→Bool→Option (Int)
 | 0,_,_,_,_,_,_,_,_,_,_,_,_,_,_,_,_,_=>none
 | k+1,x30,x0a,x0b,x0c,x0d,x0e,x00,x01,x02,x03,x04,x05,x06,x07,x08,x09,x0f=>if x30=true then (some 2) else ((zak.f x00 1 1000).bind fun t274=>(if t274=true then ((zak.f x01 0 65535).bind fun t275=>(if t275=true then ((zak.f x02 0 1000).bind fun t276=>(zah.j1 k (!t276) x0a x0b x0c x0d x0e x00 x01 x02 x03 x04 x05 x06 x07 x08 x09 x0f)) else (zah.j1 k true x0a x0b x0c x0d x0e x00 x01 x02 x03 x04 x05 x06 x07 x08 x09 x0f))) else (zah.j1 k true x0a x0b x0c x0d x0e x00 x01 x02 x03 x04 x05 x06 x07 x08 x09 x0f)))
def zah.j1:Nat→Bool→Int→Int→Int→Int→Int→Int→Int→Int→Int→Int→Int→Int→Int→Int→List (S120)→Bool→Option (Int)
 | 0,_,_,_,_,_,_,_,_,_,_,_,_,_,_,_,_,_=>none
 | k+1,x46,x0a,x0b,x0c,x0d,x0e,x00,x01,x02,x03,x04,x05,x06,x07,x08,x09,x0f=>if x46=true then (some 2) else ((zak.f x03 0 17).bind fun t277=>(if t277=true then ((za7.f x04 x05 x06 x07).bind fun t278=>(if t278=true then ((zak.f x08 0 1073741824).bind fun t279=>(if t279=true then ((zaz.f k x09).bind fun t280=>(some t280)) else (some 2))) else (some 2))) else (some 8)))
end
def zah.f (k:Nat) (a0_0:Int) (a0_1:Int) (a0_2:Int) (a0_3:Int) (a0_4:Int) (a0_5:Int) (a0_6:Int) (a0_7:Int) (a0_8:Int) (a0_9:Int) (a0_10:Int) (a0_11:Int) (a0_12:Int) (a0_13:Int) (l0_14:List (S120)) (a0_15:Bool):Option (Int):=(zak.f a0_0 1 1024).bind fun t269=>(if t269=true then ((zak.f a0_1 0 65535).bind fun t270=>(if t270=true then ((zak.f a0_3 0 65535).bind fun t271=>(if t271=true then ((zak.f a0_4 0 65535).bind fun t272=>(if t272=true then ((zak.f a0_2 4096 65535).bind fun t273=>(zah.j0 k (!t273) a0_0 a0_1 a0_2 a0_3 a0_4 a0_5 a0_6 a0_7 a0_8 a0_9 a0_10 a0_11 a0_12 a0_13 l0_14 a0_15)) else (zah.j0 k true a0_0 a0_1 a0_2 a0_3 a0_4 a0_5 a0_6 a0_7 a0_8 a0_9 a0_10 a0_11 a0_12 a0_13 l0_14 a0_15))) else (zah.j0 k true a0_0 a0_1 a0_2 a0_3 a0_4 a0_5 a0_6 a0_7 a0_8 a0_9 a0_10 a0_11 a0_12 a0_13 l0_14 a0_15))) else (zah.j0 k true a0_0 a0_1 a0_2 a0_3 a0_4 a0_5 a0_6 a0_7 a0_8 a0_9 a0_10 a0_11 a0_12 a0_13 l0_14 a0_15))) else (zah.j0 k true a0_0 a0_1 a0_2 a0_3 a0_4 a0_5 a0_6 a0_7 a0_8 a0_9 a0_10 a0_11 a0_12 a0_13 l0_14 a0_15))
set_option maxHeartbeats 8000000 in
set_option maxRecDepth 100000 in
theorem zah.calls (k:Nat) (a0_0:Int) (a0_1:Int) (a0_2:Int) (a0_3:Int) (a0_4:Int) (a0_5:Int) (a0_6:Int) (a0_7:Int) (a0_8:Int) (a0_9:Int) (a0_10:Int) (a0_11:Int) (a0_12:Int) (a0_13:Int) (A0_14:Option Addr) (c0_14:Nat) (l0_14:List (S120)) (a0_15:Bool) (r:Int) (w:World) (hr0_14:Kd.C k120 w A0_14 l0_14.length l0_14) (hc0_14:l0_14.length≤c0_14) (h:zah.f k a0_0 a0_1 a0_2 a0_3 a0_4 a0_5 a0_6 a0_7 a0_8 a0_9 a0_10 a0_11 a0_12 a0_13 l0_14 a0_15=some r) :
 Calls Try.prog 15 #[.agg #[.int .i64 a0_0,.int .i64 a0_1,.int .i64 a0_2,.int .i64 a0_3,.int .i64 a0_4,.int .i64 a0_5,.int .i64 a0_6,.int .i64 a0_7,.int .i64 a0_8,.int .i64 a0_9,.int .i64 a0_10,.int .i64 a0_11,.int .i64 a0_12,.int .i64 a0_13,.slice A0_14 l0_14.length c0_14,.bool a0_15]] w fun e w'=>e = .returned (.int .i64 r)∧Below w.heap.size w w':=by
 have hu26:=Try.underlying26
 have hu23:=Try.underlying23
 have HR0_14:=Aside0.mk hr0_14
 have HC0_14:=Aside0.mk hc0_14
 clear hr0_14 hc0_14
 have HB:=Aside0.mk (Below.refl w.heap.size w)
 have H:((zak.f a0_0 1 1024).bind fun t269=>(if t269=true then ((zak.f a0_1 0 65535).bind fun t270=>(if t270=true then ((zak.f a0_3 0 65535).bind fun t271=>(if t271=true then ((zak.f a0_4 0 65535).bind fun t272=>(if t272=true then ((zak.f a0_2 4096 65535).bind fun t273=>(zah.j0 k (!t273) a0_0 a0_1 a0_2 a0_3 a0_4 a0_5 a0_6 a0_7 a0_8 a0_9 a0_10 a0_11 a0_12 a0_13 l0_14 a0_15)) else (zah.j0 k true a0_0 a0_1 a0_2 a0_3 a0_4 a0_5 a0_6 a0_7 a0_8 a0_9 a0_10 a0_11 a0_12 a0_13 l0_14 a0_15))) else (zah.j0 k true a0_0 a0_1 a0_2 a0_3 a0_4 a0_5 a0_6 a0_7 a0_8 a0_9 a0_10 a0_11 a0_12 a0_13 l0_14 a0_15))) else (zah.j0 k true a0_0 a0_1 a0_2 a0_3 a0_4 a0_5 a0_6 a0_7 a0_8 a0_9 a0_10 a0_11 a0_12 a0_13 l0_14 a0_15))) else (zah.j0 k true a0_0 a0_1 a0_2 a0_3 a0_4 a0_5 a0_6 a0_7 a0_8 a0_9 a0_10 a0_11 a0_12 a0_13 l0_14 a0_15)))=some r:=h
 clear h
 have HC2:=Aside0.mk H
 clear H
 go_enter Try.func15,Try.ntmps15
 go_upto_region 1 with (first|((with_reducible refine zaA (N:=1) rfl ?_);refine zav ?hg (N:=1) ?hd (cs:=#[.int .i64 a0_0,.int .i64 a0_1,.int .i64 a0_2,.int .i64 a0_3,.int .i64 a0_4,.int .i64 a0_5,.int .i64 a0_6,.int .i64 a0_7,.int .i64 a0_8,.int .i64 a0_9,.int .i64 a0_10,.int .i64 a0_11,.int .i64 a0_12,.int .i64 a0_13,.slice A0_14 l0_14.length c0_14,.bool a0_15]) (t:=26) ?hr ?_;(case hd=>rfl);(case hg=>rfl);(case hr=>first|(go_simp;done)|(go_simp;rfl));intro gb268 hg w3 hbox hb;have n0_:=Aside0.mk (zad (zL HB.out) hb);have n1_:=Aside0.mk (hbox);have n2_:=Aside0.mk ((zS hg (zL HB.out):w.heap.size≤gb268));have n3_:=Aside0.mk ((zS hg (zL HB.out):w.heap.size≤gb268));clear HB;have HB:=n0_;have BK268:=n1_;have GW268:=n2_;have GE268:=n3_;clear n0_ n1_ n2_ n3_;clear hb hbox hg))
 (try simp only [Act.put,List.setIfInBounds_toArray,List.set_cons_zero,List.set_cons_succ])
 go_cut [30] (fun v30 wc=>∃ (kq:Nat) (x30_1:Bool),v30 = .bool x30_1∧Aside0 (zah.j0 kq x30_1 a0_0 a0_1 a0_2 a0_3 a0_4 a0_5 a0_6 a0_7 a0_8 a0_9 a0_10 a0_11 a0_12 a0_13 l0_14 a0_15=some r)∧Aside0 (kq≤k)∧Aside0 (wc.heap[gb268]? = some (.cells #[.int .i64 a0_0,.int .i64 a0_1,.int .i64 a0_2,.int .i64 a0_3,.int .i64 a0_4,.int .i64 a0_5,.int .i64 a0_6,.int .i64 a0_7,.int .i64 a0_8,.int .i64 a0_9,.int .i64 a0_10,.int .i64 a0_11,.int .i64 a0_12,.int .i64 a0_13,(.slice A0_14 l0_14.length c0_14),.bool a0_15] 26 (0,0)))∧Aside0 (Below w.heap.size w wc))
 case first=>
  have H:=HC2.out
  clear HC2
  replace H:=Option.bind_eq_some_iff.mp H
  obtain ⟨t269,A40,H⟩:=H
  replace H:(if t269=true then ((zak.f a0_1 0 65535).bind fun t270=>(if t270=true then ((zak.f a0_3 0 65535).bind fun t271=>(if t271=true then ((zak.f a0_4 0 65535).bind fun t272=>(if t272=true then ((zak.f a0_2 4096 65535).bind fun t273=>(zah.j0 k (!t273) a0_0 a0_1 a0_2 a0_3 a0_4 a0_5 a0_6 a0_7 a0_8 a0_9 a0_10 a0_11 a0_12 a0_13 l0_14 a0_15)) else (zah.j0 k true a0_0 a0_1 a0_2 a0_3 a0_4 a0_5 a0_6 a0_7 a0_8 a0_9 a0_10 a0_11 a0_12 a0_13 l0_14 a0_15))) else (zah.j0 k true a0_0 a0_1 a0_2 a0_3 a0_4 a0_5 a0_6 a0_7 a0_8 a0_9 a0_10 a0_11 a0_12 a0_13 l0_14 a0_15))) else (zah.j0 k true a0_0 a0_1 a0_2 a0_3 a0_4 a0_5 a0_6 a0_7 a0_8 a0_9 a0_10 a0_11 a0_12 a0_13 l0_14 a0_15))) else (zah.j0 k true a0_0 a0_1 a0_2 a0_3 a0_4 a0_5 a0_6 a0_7 a0_8 a0_9 a0_10 a0_11 a0_12 a0_13 l0_14 a0_15))=some r:=H
  have A4:=Aside0.mk A40
  clear A40
  by_cases c5:t269=true
  ·subst c5
   have H1:((zak.f a0_1 0 65535).bind fun t270=>(if t270=true then ((zak.f a0_3 0 65535).bind fun t271=>(if t271=true then ((zak.f a0_4 0 65535).bind fun t272=>(if t272=true then ((zak.f a0_2 4096 65535).bind fun t273=>(zah.j0 k (!t273) a0_0 a0_1 a0_2 a0_3 a0_4 a0_5 a0_6 a0_7 a0_8 a0_9 a0_10 a0_11 a0_12 a0_13 l0_14 a0_15)) else (zah.j0 k true a0_0 a0_1 a0_2 a0_3 a0_4 a0_5 a0_6 a0_7 a0_8 a0_9 a0_10 a0_11 a0_12 a0_13 l0_14 a0_15))) else (zah.j0 k true a0_0 a0_1 a0_2 a0_3 a0_4 a0_5 a0_6 a0_7 a0_8 a0_9 a0_10 a0_11 a0_12 a0_13 l0_14 a0_15))) else (zah.j0 k true a0_0 a0_1 a0_2 a0_3 a0_4 a0_5 a0_6 a0_7 a0_8 a0_9 a0_10 a0_11 a0_12 a0_13 l0_14 a0_15)))=some r:=by rw [if_pos rfl] at H;exact H
   clear H
   have H:=H1
   clear H1
   replace H:=Option.bind_eq_some_iff.mp H
   obtain ⟨t270,A60,H⟩:=H
   replace H:(if t270=true then ((zak.f a0_3 0 65535).bind fun t271=>(if t271=true then ((zak.f a0_4 0 65535).bind fun t272=>(if t272=true then ((zak.f a0_2 4096 65535).bind fun t273=>(zah.j0 k (!t273) a0_0 a0_1 a0_2 a0_3 a0_4 a0_5 a0_6 a0_7 a0_8 a0_9 a0_10 a0_11 a0_12 a0_13 l0_14 a0_15)) else (zah.j0 k true a0_0 a0_1 a0_2 a0_3 a0_4 a0_5 a0_6 a0_7 a0_8 a0_9 a0_10 a0_11 a0_12 a0_13 l0_14 a0_15))) else (zah.j0 k true a0_0 a0_1 a0_2 a0_3 a0_4 a0_5 a0_6 a0_7 a0_8 a0_9 a0_10 a0_11 a0_12 a0_13 l0_14 a0_15))) else (zah.j0 k true a0_0 a0_1 a0_2 a0_3 a0_4 a0_5 a0_6 a0_7 a0_8 a0_9 a0_10 a0_11 a0_12 a0_13 l0_14 a0_15))=some r:=H
   have A6:=Aside0.mk A60
   clear A60
   by_cases c7:t270=true
   ·subst c7
    have H1:((zak.f a0_3 0 65535).bind fun t271=>(if t271=true then ((zak.f a0_4 0 65535).bind fun t272=>(if t272=true then ((zak.f a0_2 4096 65535).bind fun t273=>(zah.j0 k (!t273) a0_0 a0_1 a0_2 a0_3 a0_4 a0_5 a0_6 a0_7 a0_8 a0_9 a0_10 a0_11 a0_12 a0_13 l0_14 a0_15)) else (zah.j0 k true a0_0 a0_1 a0_2 a0_3 a0_4 a0_5 a0_6 a0_7 a0_8 a0_9 a0_10 a0_11 a0_12 a0_13 l0_14 a0_15))) else (zah.j0 k true a0_0 a0_1 a0_2 a0_3 a0_4 a0_5 a0_6 a0_7 a0_8 a0_9 a0_10 a0_11 a0_12 a0_13 l0_14 a0_15)))=some r:=by rw [if_pos rfl] at H;exact H
    clear H
    have H:=H1
    clear H1
    replace H:=Option.bind_eq_some_iff.mp H
    obtain ⟨t271,A80,H⟩:=H
    replace H:(if t271=true then ((zak.f a0_4 0 65535).bind fun t272=>(if t272=true then ((zak.f a0_2 4096 65535).bind fun t273=>(zah.j0 k (!t273) a0_0 a0_1 a0_2 a0_3 a0_4 a0_5 a0_6 a0_7 a0_8 a0_9 a0_10 a0_11 a0_12 a0_13 l0_14 a0_15)) else (zah.j0 k true a0_0 a0_1 a0_2 a0_3 a0_4 a0_5 a0_6 a0_7 a0_8 a0_9 a0_10 a0_11 a0_12 a0_13 l0_14 a0_15))) else (zah.j0 k true a0_0 a0_1 a0_2 a0_3 a0_4 a0_5 a0_6 a0_7 a0_8 a0_9 a0_10 a0_11 a0_12 a0_13 l0_14 a0_15))=some r:=H
    have A8:=Aside0.mk A80
    clear A80
    by_cases c9:t271=true
    ·subst c9
     have H1:((zak.f a0_4 0 65535).bind fun t272=>(if t272=true then ((zak.f a0_2 4096 65535).bind fun t273=>(zah.j0 k (!t273) a0_0 a0_1 a0_2 a0_3 a0_4 a0_5 a0_6 a0_7 a0_8 a0_9 a0_10 a0_11 a0_12 a0_13 l0_14 a0_15)) else (zah.j0 k true a0_0 a0_1 a0_2 a0_3 a0_4 a0_5 a0_6 a0_7 a0_8 a0_9 a0_10 a0_11 a0_12 a0_13 l0_14 a0_15)))=some r:=by rw [if_pos rfl] at H;exact H
     clear H
     have H:=H1
     clear H1
     replace H:=Option.bind_eq_some_iff.mp H
     obtain ⟨t272,A100,H⟩:=H
     replace H:(if t272=true then ((zak.f a0_2 4096 65535).bind fun t273=>(zah.j0 k (!t273) a0_0 a0_1 a0_2 a0_3 a0_4 a0_5 a0_6 a0_7 a0_8 a0_9 a0_10 a0_11 a0_12 a0_13 l0_14 a0_15)) else (zah.j0 k true a0_0 a0_1 a0_2 a0_3 a0_4 a0_5 a0_6 a0_7 a0_8 a0_9 a0_10 a0_11 a0_12 a0_13 l0_14 a0_15))=some r:=H
     have A10:=Aside0.mk A100
     clear A100
     by_cases c11:t272=true
     ·subst c11
      have H1:((zak.f a0_2 4096 65535).bind fun t273=>(zah.j0 k (!t273) a0_0 a0_1 a0_2 a0_3 a0_4 a0_5 a0_6 a0_7 a0_8 a0_9 a0_10 a0_11 a0_12 a0_13 l0_14 a0_15))=some r:=by rw [if_pos rfl] at H;exact H
      clear H
      have H:=H1
      clear H1
      replace H:=Option.bind_eq_some_iff.mp H
      obtain ⟨t273,A120,H⟩:=H
      replace H:(zah.j0 k (!t273) a0_0 a0_1 a0_2 a0_3 a0_4 a0_5 a0_6 a0_7 a0_8 a0_9 a0_10 a0_11 a0_12 a0_13 l0_14 a0_15)=some r:=H
      have A12:=Aside0.mk A120
      clear A120
      have H':=Aside0.mk H
      clear H
      obtain ⟨hcz13_0,hcz13_1,hcz13_2,hcz13_3,hcz13_4,hcz13_5,hcz13_6,hcz13_7,hcz13_8,hcz13_9,hcz13_10,hcz13_11,hcz13_12,hcz13_13,hcz13_14,hcz13_15⟩:=zD16 BK268.out
      obtain ⟨hfz13_0,hfz13_1,hfz13_2,hfz13_3,hfz13_4,hfz13_5,hfz13_6,hfz13_7,hfz13_8,hfz13_9,hfz13_10,hfz13_11,hfz13_12,hfz13_13,hfz13_14,hfz13_15⟩:=zE16 BK268.out
      go_wp2_with (first|((with_reducible refine zal (f:=49) rfl ?_);refine goesL_ (some 5) rfl rfl Try.func49 (by kernel_rfl) rfl #[.int .i64 a0_0,.int .i64 1,.int .i64 1024] rfl zA ?_;(with_reducible refine (zak.calls a0_0 1 1024 true _ A4.out).mono ?_);rintro e w' ⟨rfl,⟨nd,rfl⟩⟩;refine ⟨_,rfl,?_⟩)|(go_at_call 49;(with_reducible refine (zak.calls a0_1 0 65535 true _ A6.out).mono ?_);rintro e w' ⟨rfl,⟨nd,rfl⟩⟩)|(go_at_call 49;(with_reducible refine (zak.calls a0_3 0 65535 true _ A8.out).mono ?_);rintro e w' ⟨rfl,⟨nd,rfl⟩⟩)|(go_at_call 49;(with_reducible refine (zak.calls a0_4 0 65535 true _ A10.out).mono ?_);rintro e w' ⟨rfl,⟨nd,rfl⟩⟩)|(go_at_call 49;(with_reducible refine (zak.calls a0_2 4096 65535 t273 _ A12.out).mono ?_);rintro e w' ⟨rfl,⟨nd,rfl⟩⟩))
      go_meet
      case rel=>exact ⟨_,(!t273),zF,H',⟨by first|omega|exact Nat.le_refl _⟩,⟨by refine zB ?_;exact BK268.out⟩,⟨by repeat (first|(with_reducible first|exact HB.out|apply zai|apply zaf|apply zag|refine zac ?_ GE268.out)|exact HB.out)⟩⟩
     ·replace c11:=Bool.eq_false_iff.mpr c11
      subst c11
      have H1:(zah.j0 k true a0_0 a0_1 a0_2 a0_3 a0_4 a0_5 a0_6 a0_7 a0_8 a0_9 a0_10 a0_11 a0_12 a0_13 l0_14 a0_15)=some r:=by rw [if_neg (show ¬ (false=true) by decide)] at H;exact H
      clear H
      have H:=H1
      clear H1
      have H':=Aside0.mk H
      clear H
      obtain ⟨hcz14_0,hcz14_1,hcz14_2,hcz14_3,hcz14_4,hcz14_5,hcz14_6,hcz14_7,hcz14_8,hcz14_9,hcz14_10,hcz14_11,hcz14_12,hcz14_13,hcz14_14,hcz14_15⟩:=zD16 BK268.out
      obtain ⟨hfz14_0,hfz14_1,hfz14_2,hfz14_3,hfz14_4,hfz14_5,hfz14_6,hfz14_7,hfz14_8,hfz14_9,hfz14_10,hfz14_11,hfz14_12,hfz14_13,hfz14_14,hfz14_15⟩:=zE16 BK268.out
      go_wp2_with (first|((with_reducible refine zal (f:=49) rfl ?_);refine goesL_ (some 5) rfl rfl Try.func49 (by kernel_rfl) rfl #[.int .i64 a0_0,.int .i64 1,.int .i64 1024] rfl zA ?_;(with_reducible refine (zak.calls a0_0 1 1024 true _ A4.out).mono ?_);rintro e w' ⟨rfl,⟨nd,rfl⟩⟩;refine ⟨_,rfl,?_⟩)|(go_at_call 49;(with_reducible refine (zak.calls a0_1 0 65535 true _ A6.out).mono ?_);rintro e w' ⟨rfl,⟨nd,rfl⟩⟩)|(go_at_call 49;(with_reducible refine (zak.calls a0_3 0 65535 true _ A8.out).mono ?_);rintro e w' ⟨rfl,⟨nd,rfl⟩⟩)|(go_at_call 49;(with_reducible refine (zak.calls a0_4 0 65535 false _ A10.out).mono ?_);rintro e w' ⟨rfl,⟨nd,rfl⟩⟩))
      go_meet
      case rel=>exact ⟨_,(true),zF,H',⟨by first|omega|exact Nat.le_refl _⟩,⟨by refine zB ?_;exact BK268.out⟩,⟨by repeat (first|(with_reducible first|exact HB.out|apply zai|apply zaf|apply zag|refine zac ?_ GE268.out)|exact HB.out)⟩⟩
    ·replace c9:=Bool.eq_false_iff.mpr c9
     subst c9
     have H1:(zah.j0 k true a0_0 a0_1 a0_2 a0_3 a0_4 a0_5 a0_6 a0_7 a0_8 a0_9 a0_10 a0_11 a0_12 a0_13 l0_14 a0_15)=some r:=by rw [if_neg (show ¬ (false=true) by decide)] at H;exact H
     clear H
     have H:=H1
     clear H1
     have H':=Aside0.mk H
     clear H
     obtain ⟨hcz15_0,hcz15_1,hcz15_2,hcz15_3,hcz15_4,hcz15_5,hcz15_6,hcz15_7,hcz15_8,hcz15_9,hcz15_10,hcz15_11,hcz15_12,hcz15_13,hcz15_14,hcz15_15⟩:=zD16 BK268.out
     obtain ⟨hfz15_0,hfz15_1,hfz15_2,hfz15_3,hfz15_4,hfz15_5,hfz15_6,hfz15_7,hfz15_8,hfz15_9,hfz15_10,hfz15_11,hfz15_12,hfz15_13,hfz15_14,hfz15_15⟩:=zE16 BK268.out
     go_wp2_with (first|((with_reducible refine zal (f:=49) rfl ?_);refine goesL_ (some 5) rfl rfl Try.func49 (by kernel_rfl) rfl #[.int .i64 a0_0,.int .i64 1,.int .i64 1024] rfl zA ?_;(with_reducible refine (zak.calls a0_0 1 1024 true _ A4.out).mono ?_);rintro e w' ⟨rfl,⟨nd,rfl⟩⟩;refine ⟨_,rfl,?_⟩)|(go_at_call 49;(with_reducible refine (zak.calls a0_1 0 65535 true _ A6.out).mono ?_);rintro e w' ⟨rfl,⟨nd,rfl⟩⟩)|(go_at_call 49;(with_reducible refine (zak.calls a0_3 0 65535 false _ A8.out).mono ?_);rintro e w' ⟨rfl,⟨nd,rfl⟩⟩))
     go_meet
     case rel=>exact ⟨_,(true),zF,H',⟨by first|omega|exact Nat.le_refl _⟩,⟨by refine zB ?_;exact BK268.out⟩,⟨by repeat (first|(with_reducible first|exact HB.out|apply zai|apply zaf|apply zag|refine zac ?_ GE268.out)|exact HB.out)⟩⟩
   ·replace c7:=Bool.eq_false_iff.mpr c7
    subst c7
    have H1:(zah.j0 k true a0_0 a0_1 a0_2 a0_3 a0_4 a0_5 a0_6 a0_7 a0_8 a0_9 a0_10 a0_11 a0_12 a0_13 l0_14 a0_15)=some r:=by rw [if_neg (show ¬ (false=true) by decide)] at H;exact H
    clear H
    have H:=H1
    clear H1
    have H':=Aside0.mk H
    clear H
    obtain ⟨hcz16_0,hcz16_1,hcz16_2,hcz16_3,hcz16_4,hcz16_5,hcz16_6,hcz16_7,hcz16_8,hcz16_9,hcz16_10,hcz16_11,hcz16_12,hcz16_13,hcz16_14,hcz16_15⟩:=zD16 BK268.out
    obtain ⟨hfz16_0,hfz16_1,hfz16_2,hfz16_3,hfz16_4,hfz16_5,hfz16_6,hfz16_7,hfz16_8,hfz16_9,hfz16_10,hfz16_11,hfz16_12,hfz16_13,hfz16_14,hfz16_15⟩:=zE16 BK268.out
    go_wp2_with (first|((with_reducible refine zal (f:=49) rfl ?_);refine goesL_ (some 5) rfl rfl Try.func49 (by kernel_rfl) rfl #[.int .i64 a0_0,.int .i64 1,.int .i64 1024] rfl zA ?_;(with_reducible refine (zak.calls a0_0 1 1024 true _ A4.out).mono ?_);rintro e w' ⟨rfl,⟨nd,rfl⟩⟩;refine ⟨_,rfl,?_⟩)|(go_at_call 49;(with_reducible refine (zak.calls a0_1 0 65535 false _ A6.out).mono ?_);rintro e w' ⟨rfl,⟨nd,rfl⟩⟩))
    go_meet
    case rel=>exact ⟨_,(true),zF,H',⟨by first|omega|exact Nat.le_refl _⟩,⟨by refine zB ?_;exact BK268.out⟩,⟨by repeat (first|(with_reducible first|exact HB.out|apply zai|apply zaf|apply zag|refine zac ?_ GE268.out)|exact HB.out)⟩⟩
  ·replace c5:=Bool.eq_false_iff.mpr c5
   subst c5
   have H1:(zah.j0 k true a0_0 a0_1 a0_2 a0_3 a0_4 a0_5 a0_6 a0_7 a0_8 a0_9 a0_10 a0_11 a0_12 a0_13 l0_14 a0_15)=some r:=by rw [if_neg (show ¬ (false=true) by decide)] at H;exact H
   clear H
   have H:=H1
   clear H1
   have H':=Aside0.mk H
   clear H
   obtain ⟨hcz17_0,hcz17_1,hcz17_2,hcz17_3,hcz17_4,hcz17_5,hcz17_6,hcz17_7,hcz17_8,hcz17_9,hcz17_10,hcz17_11,hcz17_12,hcz17_13,hcz17_14,hcz17_15⟩:=zD16 BK268.out
   obtain ⟨hfz17_0,hfz17_1,hfz17_2,hfz17_3,hfz17_4,hfz17_5,hfz17_6,hfz17_7,hfz17_8,hfz17_9,hfz17_10,hfz17_11,hfz17_12,hfz17_13,hfz17_14,hfz17_15⟩:=zE16 BK268.out
   go_wp2_with (first|((with_reducible refine zal (f:=49) rfl ?_);refine goesL_ (some 5) rfl rfl Try.func49 (by kernel_rfl) rfl #[.int .i64 a0_0,.int .i64 1,.int .i64 1024] rfl zA ?_;(with_reducible refine (zak.calls a0_0 1 1024 false _ A4.out).mono ?_);rintro e w' ⟨rfl,⟨nd,rfl⟩⟩;refine ⟨_,rfl,?_⟩))
   go_meet
   case rel=>exact ⟨_,(true),zF,H',⟨by first|omega|exact Nat.le_refl _⟩,⟨by refine zB ?_;exact BK268.out⟩,⟨by repeat (first|(with_reducible first|exact HB.out|apply zai|apply zaf|apply zag|refine zac ?_ GE268.out)|exact HB.out)⟩⟩
 case rest=>
  clear HC2
  try clear c1
  try clear p2
  try clear c4
  try clear c5
  try clear c7
  try clear c9
  try clear c11
  try clear c15
  try clear hcz13_0 hcz13_1 hcz13_10 hcz13_11 hcz13_12 hcz13_13 hcz13_14 hcz13_15 hcz13_2 hcz13_3 hcz13_4 hcz13_5 hcz13_6 hcz13_7 hcz13_8 hcz13_9 hcz14_0 hcz14_1 hcz14_10 hcz14_11 hcz14_12 hcz14_13 hcz14_14 hcz14_15 hcz14_2 hcz14_3 hcz14_4 hcz14_5 hcz14_6 hcz14_7 hcz14_8 hcz14_9 hcz15_0 hcz15_1 hcz15_10 hcz15_11 hcz15_12 hcz15_13 hcz15_14 hcz15_15 hcz15_2 hcz15_3 hcz15_4 hcz15_5 hcz15_6 hcz15_7 hcz15_8 hcz15_9 hcz16_0 hcz16_1 hcz16_10 hcz16_11 hcz16_12 hcz16_13 hcz16_14 hcz16_15 hcz16_2 hcz16_3 hcz16_4 hcz16_5 hcz16_6 hcz16_7 hcz16_8 hcz16_9 hcz17_0 hcz17_1 hcz17_10 hcz17_11 hcz17_12 hcz17_13 hcz17_14 hcz17_15 hcz17_2 hcz17_3 hcz17_4 hcz17_5 hcz17_6 hcz17_7 hcz17_8 hcz17_9 hfz13_0 hfz13_1 hfz13_10 hfz13_11 hfz13_12 hfz13_13 hfz13_14 hfz13_15 hfz13_2 hfz13_3 hfz13_4 hfz13_5 hfz13_6 hfz13_7 hfz13_8 hfz13_9 hfz14_0 hfz14_1 hfz14_10 hfz14_11 hfz14_12 hfz14_13 hfz14_14 hfz14_15 hfz14_2 hfz14_3 hfz14_4 hfz14_5 hfz14_6 hfz14_7 hfz14_8 hfz14_9 hfz15_0 hfz15_1 hfz15_10 hfz15_11 hfz15_12 hfz15_13 hfz15_14 hfz15_15 hfz15_2 hfz15_3 hfz15_4 hfz15_5 hfz15_6 hfz15_7 hfz15_8 hfz15_9 hfz16_0 hfz16_1 hfz16_10 hfz16_11 hfz16_12 hfz16_13 hfz16_14 hfz16_15 hfz16_2 hfz16_3 hfz16_4 hfz16_5 hfz16_6 hfz16_7 hfz16_8 hfz16_9 hfz17_0 hfz17_1 hfz17_10 hfz17_11 hfz17_12 hfz17_13 hfz17_14 hfz17_15 hfz17_2 hfz17_3 hfz17_4 hfz17_5 hfz17_6 hfz17_7 hfz17_8 hfz17_9
  obtain ⟨kq,x30_1,rfl,HA,HJ1,BK268,HB⟩:=hcut
  cases kq with
  | zero=>exact absurd HA.out (by simp [zah.j0])
  | succ kj1=>
   have H:=HA.out
   clear HA
   simp only [zah.j0] at H
   by_cases c18:x30_1=true
   ·subst c18
    have H1:(some 2)=some r:=by rw [if_pos rfl] at H;exact H
    clear H
    have H:=H1
    clear H1
    obtain rfl:=Option.some.inj H
    go_wp2
    go_ret
    exact ⟨by first|rfl|(simp [errW_none,errW_some] <;> rfl)|(simp [*,errW_none,errW_some] <;> rfl),by repeat (first|(with_reducible first|exact HB.out|apply zai|apply zaf|apply zag|refine zac ?_ GE268.out)|exact HB.out)⟩
   ·replace c18:=Bool.eq_false_iff.mpr c18
    subst c18
    have H1:((zak.f a0_5 1 1000).bind fun t274=>(if t274=true then ((zak.f a0_6 0 65535).bind fun t275=>(if t275=true then ((zak.f a0_7 0 1000).bind fun t276=>(zah.j1 kj1 (!t276) a0_0 a0_1 a0_2 a0_3 a0_4 a0_5 a0_6 a0_7 a0_8 a0_9 a0_10 a0_11 a0_12 a0_13 l0_14 a0_15)) else (zah.j1 kj1 true a0_0 a0_1 a0_2 a0_3 a0_4 a0_5 a0_6 a0_7 a0_8 a0_9 a0_10 a0_11 a0_12 a0_13 l0_14 a0_15))) else (zah.j1 kj1 true a0_0 a0_1 a0_2 a0_3 a0_4 a0_5 a0_6 a0_7 a0_8 a0_9 a0_10 a0_11 a0_12 a0_13 l0_14 a0_15)))=some r:=by rw [if_neg (show ¬ (false=true) by decide)] at H;exact H
    clear H
    have H:=H1
    clear H1
    have HC19:=Aside0.mk H
    clear H
    go_upto_region 3 with (fail)
    go_cut [46] (fun v46 wc=>∃ (kq:Nat) (x46_18:Bool),v46 = .bool x46_18∧Aside0 (zah.j1 kq x46_18 a0_0 a0_1 a0_2 a0_3 a0_4 a0_5 a0_6 a0_7 a0_8 a0_9 a0_10 a0_11 a0_12 a0_13 l0_14 a0_15=some r)∧Aside0 (kq≤kj1)∧Aside0 (wc.heap[gb268]? = some (.cells #[.int .i64 a0_0,.int .i64 a0_1,.int .i64 a0_2,.int .i64 a0_3,.int .i64 a0_4,.int .i64 a0_5,.int .i64 a0_6,.int .i64 a0_7,.int .i64 a0_8,.int .i64 a0_9,.int .i64 a0_10,.int .i64 a0_11,.int .i64 a0_12,.int .i64 a0_13,(.slice A0_14 l0_14.length c0_14),.bool a0_15] 26 (0,0)))∧Aside0 (Below w.heap.size w wc))
    case first=>
     have H:=HC19.out
     clear HC19
     replace H:=Option.bind_eq_some_iff.mp H
     obtain ⟨t274,A200,H⟩:=H
     replace H:(if t274=true then ((zak.f a0_6 0 65535).bind fun t275=>(if t275=true then ((zak.f a0_7 0 1000).bind fun t276=>(zah.j1 kj1 (!t276) a0_0 a0_1 a0_2 a0_3 a0_4 a0_5 a0_6 a0_7 a0_8 a0_9 a0_10 a0_11 a0_12 a0_13 l0_14 a0_15)) else (zah.j1 kj1 true a0_0 a0_1 a0_2 a0_3 a0_4 a0_5 a0_6 a0_7 a0_8 a0_9 a0_10 a0_11 a0_12 a0_13 l0_14 a0_15))) else (zah.j1 kj1 true a0_0 a0_1 a0_2 a0_3 a0_4 a0_5 a0_6 a0_7 a0_8 a0_9 a0_10 a0_11 a0_12 a0_13 l0_14 a0_15))=some r:=H
     have A20:=Aside0.mk A200
     clear A200
     by_cases c21:t274=true
     ·subst c21
      have H1:((zak.f a0_6 0 65535).bind fun t275=>(if t275=true then ((zak.f a0_7 0 1000).bind fun t276=>(zah.j1 kj1 (!t276) a0_0 a0_1 a0_2 a0_3 a0_4 a0_5 a0_6 a0_7 a0_8 a0_9 a0_10 a0_11 a0_12 a0_13 l0_14 a0_15)) else (zah.j1 kj1 true a0_0 a0_1 a0_2 a0_3 a0_4 a0_5 a0_6 a0_7 a0_8 a0_9 a0_10 a0_11 a0_12 a0_13 l0_14 a0_15)))=some r:=by rw [if_pos rfl] at H;exact H
      clear H
      have H:=H1
      clear H1
      replace H:=Option.bind_eq_some_iff.mp H
      obtain ⟨t275,A220,H⟩:=H
      replace H:(if t275=true then ((zak.f a0_7 0 1000).bind fun t276=>(zah.j1 kj1 (!t276) a0_0 a0_1 a0_2 a0_3 a0_4 a0_5 a0_6 a0_7 a0_8 a0_9 a0_10 a0_11 a0_12 a0_13 l0_14 a0_15)) else (zah.j1 kj1 true a0_0 a0_1 a0_2 a0_3 a0_4 a0_5 a0_6 a0_7 a0_8 a0_9 a0_10 a0_11 a0_12 a0_13 l0_14 a0_15))=some r:=H
      have A22:=Aside0.mk A220
      clear A220
      by_cases c23:t275=true
      ·subst c23
       have H1:((zak.f a0_7 0 1000).bind fun t276=>(zah.j1 kj1 (!t276) a0_0 a0_1 a0_2 a0_3 a0_4 a0_5 a0_6 a0_7 a0_8 a0_9 a0_10 a0_11 a0_12 a0_13 l0_14 a0_15))=some r:=by rw [if_pos rfl] at H;exact H
       clear H
       have H:=H1
       clear H1
       replace H:=Option.bind_eq_some_iff.mp H
       obtain ⟨t276,A240,H⟩:=H
       replace H:(zah.j1 kj1 (!t276) a0_0 a0_1 a0_2 a0_3 a0_4 a0_5 a0_6 a0_7 a0_8 a0_9 a0_10 a0_11 a0_12 a0_13 l0_14 a0_15)=some r:=H
       have A24:=Aside0.mk A240
       clear A240
       have H':=Aside0.mk H
       clear H
       obtain ⟨hcz25_0,hcz25_1,hcz25_2,hcz25_3,hcz25_4,hcz25_5,hcz25_6,hcz25_7,hcz25_8,hcz25_9,hcz25_10,hcz25_11,hcz25_12,hcz25_13,hcz25_14,hcz25_15⟩:=zD16 BK268.out
       obtain ⟨hfz25_0,hfz25_1,hfz25_2,hfz25_3,hfz25_4,hfz25_5,hfz25_6,hfz25_7,hfz25_8,hfz25_9,hfz25_10,hfz25_11,hfz25_12,hfz25_13,hfz25_14,hfz25_15⟩:=zE16 BK268.out
       go_wp2_with (first|((with_reducible refine zal (f:=49) rfl ?_);refine goesL_ (some 33) rfl rfl Try.func49 (by kernel_rfl) rfl #[.int .i64 a0_5,.int .i64 1,.int .i64 1000] rfl zA ?_;(with_reducible refine (zak.calls a0_5 1 1000 true _ A20.out).mono ?_);rintro e w' ⟨rfl,⟨nd,rfl⟩⟩;refine ⟨_,rfl,?_⟩)|(go_at_call 49;(with_reducible refine (zak.calls a0_6 0 65535 true _ A22.out).mono ?_);rintro e w' ⟨rfl,⟨nd,rfl⟩⟩)|(go_at_call 49;(with_reducible refine (zak.calls a0_7 0 1000 t276 _ A24.out).mono ?_);rintro e w' ⟨rfl,⟨nd,rfl⟩⟩))
       go_meet
       case rel=>exact ⟨_,(!t276),zF,H',⟨by have:=HJ1.out;first|omega|exact Nat.le_refl _⟩,⟨by refine zB ?_;exact BK268.out⟩,⟨by repeat (first|(with_reducible first|exact HB.out|apply zai|apply zaf|apply zag|refine zac ?_ GE268.out)|exact HB.out)⟩⟩
      ·replace c23:=Bool.eq_false_iff.mpr c23
       subst c23
       have H1:(zah.j1 kj1 true a0_0 a0_1 a0_2 a0_3 a0_4 a0_5 a0_6 a0_7 a0_8 a0_9 a0_10 a0_11 a0_12 a0_13 l0_14 a0_15)=some r:=by rw [if_neg (show ¬ (false=true) by decide)] at H;exact H
       clear H
       have H:=H1
       clear H1
       have H':=Aside0.mk H
       clear H
       obtain ⟨hcz26_0,hcz26_1,hcz26_2,hcz26_3,hcz26_4,hcz26_5,hcz26_6,hcz26_7,hcz26_8,hcz26_9,hcz26_10,hcz26_11,hcz26_12,hcz26_13,hcz26_14,hcz26_15⟩:=zD16 BK268.out
       obtain ⟨hfz26_0,hfz26_1,hfz26_2,hfz26_3,hfz26_4,hfz26_5,hfz26_6,hfz26_7,hfz26_8,hfz26_9,hfz26_10,hfz26_11,hfz26_12,hfz26_13,hfz26_14,hfz26_15⟩:=zE16 BK268.out
       go_wp2_with (first|((with_reducible refine zal (f:=49) rfl ?_);refine goesL_ (some 33) rfl rfl Try.func49 (by kernel_rfl) rfl #[.int .i64 a0_5,.int .i64 1,.int .i64 1000] rfl zA ?_;(with_reducible refine (zak.calls a0_5 1 1000 true _ A20.out).mono ?_);rintro e w' ⟨rfl,⟨nd,rfl⟩⟩;refine ⟨_,rfl,?_⟩)|(go_at_call 49;(with_reducible refine (zak.calls a0_6 0 65535 false _ A22.out).mono ?_);rintro e w' ⟨rfl,⟨nd,rfl⟩⟩))
       go_meet
       case rel=>exact ⟨_,(true),zF,H',⟨by have:=HJ1.out;first|omega|exact Nat.le_refl _⟩,⟨by refine zB ?_;exact BK268.out⟩,⟨by repeat (first|(with_reducible first|exact HB.out|apply zai|apply zaf|apply zag|refine zac ?_ GE268.out)|exact HB.out)⟩⟩
     ·replace c21:=Bool.eq_false_iff.mpr c21
      subst c21
      have H1:(zah.j1 kj1 true a0_0 a0_1 a0_2 a0_3 a0_4 a0_5 a0_6 a0_7 a0_8 a0_9 a0_10 a0_11 a0_12 a0_13 l0_14 a0_15)=some r:=by rw [if_neg (show ¬ (false=true) by decide)] at H;exact H
      clear H
      have H:=H1
      clear H1
      have H':=Aside0.mk H
      clear H
      obtain ⟨hcz27_0,hcz27_1,hcz27_2,hcz27_3,hcz27_4,hcz27_5,hcz27_6,hcz27_7,hcz27_8,hcz27_9,hcz27_10,hcz27_11,hcz27_12,hcz27_13,hcz27_14,hcz27_15⟩:=zD16 BK268.out
      obtain ⟨hfz27_0,hfz27_1,hfz27_2,hfz27_3,hfz27_4,hfz27_5,hfz27_6,hfz27_7,hfz27_8,hfz27_9,hfz27_10,hfz27_11,hfz27_12,hfz27_13,hfz27_14,hfz27_15⟩:=zE16 BK268.out
      go_wp2_with (first|((with_reducible refine zal (f:=49) rfl ?_);refine goesL_ (some 33) rfl rfl Try.func49 (by kernel_rfl) rfl #[.int .i64 a0_5,.int .i64 1,.int .i64 1000] rfl zA ?_;(with_reducible refine (zak.calls a0_5 1 1000 false _ A20.out).mono ?_);rintro e w' ⟨rfl,⟨nd,rfl⟩⟩;refine ⟨_,rfl,?_⟩))
      go_meet
      case rel=>exact ⟨_,(true),zF,H',⟨by have:=HJ1.out;first|omega|exact Nat.le_refl _⟩,⟨by refine zB ?_;exact BK268.out⟩,⟨by repeat (first|(with_reducible first|exact HB.out|apply zai|apply zaf|apply zag|refine zac ?_ GE268.out)|exact HB.out)⟩⟩
    case rest=>
     clear HC19
     try clear c1
     try clear c2
     try clear p2
     try clear c4
     try clear c5
     try clear c7
     try clear c9
     try clear c11
     try clear c15
     try clear c18
     try clear c21
     try clear c23
     try clear hcz13_0 hcz13_1 hcz13_10 hcz13_11 hcz13_12 hcz13_13 hcz13_14 hcz13_15 hcz13_2 hcz13_3 hcz13_4 hcz13_5 hcz13_6 hcz13_7 hcz13_8 hcz13_9 hcz14_0 hcz14_1 hcz14_10 hcz14_11 hcz14_12 hcz14_13 hcz14_14 hcz14_15 hcz14_2 hcz14_3 hcz14_4 hcz14_5 hcz14_6 hcz14_7 hcz14_8 hcz14_9 hcz15_0 hcz15_1 hcz15_10 hcz15_11 hcz15_12 hcz15_13 hcz15_14 hcz15_15 hcz15_2 hcz15_3 hcz15_4 hcz15_5 hcz15_6 hcz15_7 hcz15_8 hcz15_9 hcz16_0 hcz16_1 hcz16_10 hcz16_11 hcz16_12 hcz16_13 hcz16_14 hcz16_15 hcz16_2 hcz16_3 hcz16_4 hcz16_5 hcz16_6 hcz16_7 hcz16_8 hcz16_9 hcz17_0 hcz17_1 hcz17_10 hcz17_11 hcz17_12 hcz17_13 hcz17_14 hcz17_15 hcz17_2 hcz17_3 hcz17_4 hcz17_5 hcz17_6 hcz17_7 hcz17_8 hcz17_9 hcz25_0 hcz25_1 hcz25_10 hcz25_11 hcz25_12 hcz25_13 hcz25_14 hcz25_15 hcz25_2 hcz25_3 hcz25_4 hcz25_5 hcz25_6 hcz25_7 hcz25_8 hcz25_9 hcz26_0 hcz26_1 hcz26_10 hcz26_11 hcz26_12 hcz26_13 hcz26_14 hcz26_15 hcz26_2 hcz26_3 hcz26_4 hcz26_5 hcz26_6 hcz26_7 hcz26_8 hcz26_9 hcz27_0 hcz27_1 hcz27_10 hcz27_11 hcz27_12 hcz27_13 hcz27_14 hcz27_15 hcz27_2 hcz27_3 hcz27_4 hcz27_5 hcz27_6 hcz27_7 hcz27_8 hcz27_9 hfz13_0 hfz13_1 hfz13_10 hfz13_11 hfz13_12 hfz13_13 hfz13_14 hfz13_15 hfz13_2 hfz13_3 hfz13_4 hfz13_5 hfz13_6 hfz13_7 hfz13_8 hfz13_9 hfz14_0 hfz14_1 hfz14_10 hfz14_11 hfz14_12 hfz14_13 hfz14_14 hfz14_15 hfz14_2 hfz14_3 hfz14_4 hfz14_5 hfz14_6 hfz14_7 hfz14_8 hfz14_9 hfz15_0 hfz15_1 hfz15_10 hfz15_11 hfz15_12 hfz15_13 hfz15_14 hfz15_15 hfz15_2 hfz15_3 hfz15_4 hfz15_5 hfz15_6 hfz15_7 hfz15_8 hfz15_9 hfz16_0 hfz16_1 hfz16_10 hfz16_11 hfz16_12 hfz16_13 hfz16_14 hfz16_15 hfz16_2 hfz16_3 hfz16_4 hfz16_5 hfz16_6 hfz16_7 hfz16_8 hfz16_9 hfz17_0 hfz17_1 hfz17_10 hfz17_11 hfz17_12 hfz17_13 hfz17_14 hfz17_15 hfz17_2 hfz17_3 hfz17_4 hfz17_5 hfz17_6 hfz17_7 hfz17_8 hfz17_9 hfz25_0 hfz25_1 hfz25_10 hfz25_11 hfz25_12 hfz25_13 hfz25_14 hfz25_15 hfz25_2 hfz25_3 hfz25_4 hfz25_5 hfz25_6 hfz25_7 hfz25_8 hfz25_9 hfz26_0 hfz26_1 hfz26_10 hfz26_11 hfz26_12 hfz26_13 hfz26_14 hfz26_15 hfz26_2 hfz26_3 hfz26_4 hfz26_5 hfz26_6 hfz26_7 hfz26_8 hfz26_9 hfz27_0 hfz27_1 hfz27_10 hfz27_11 hfz27_12 hfz27_13 hfz27_14 hfz27_15 hfz27_2 hfz27_3 hfz27_4 hfz27_5 hfz27_6 hfz27_7 hfz27_8 hfz27_9
     try clear p2
     obtain ⟨kq,x46_18,rfl,HA,HJ18,BK268,HB⟩:=hcut
     cases kq with
     | zero=>exact absurd HA.out (by simp [zah.j1])
     | succ kj18=>
      have H:=HA.out
      clear HA
      simp only [zah.j1] at H
      by_cases c28:x46_18=true
      ·subst c28
       have H1:(some 2)=some r:=by rw [if_pos rfl] at H;exact H
       clear H
       have H:=H1
       clear H1
       obtain rfl:=Option.some.inj H
       go_wp2
       go_ret
       exact ⟨by first|rfl|(simp [errW_none,errW_some] <;> rfl)|(simp [*,errW_none,errW_some] <;> rfl),by repeat (first|(with_reducible first|exact HB.out|apply zai|apply zaf|apply zag|refine zac ?_ GE268.out)|exact HB.out)⟩
      ·replace c28:=Bool.eq_false_iff.mpr c28
       subst c28
       have H1:((zak.f a0_8 0 17).bind fun t277=>(if t277=true then ((za7.f a0_9 a0_10 a0_11 a0_12).bind fun t278=>(if t278=true then ((zak.f a0_13 0 1073741824).bind fun t279=>(if t279=true then ((zaz.f kj18 l0_14).bind fun t280=>(some t280)) else (some 2))) else (some 2))) else (some 8)))=some r:=by rw [if_neg (show ¬ (false=true) by decide)] at H;exact H
       clear H
       have H:=H1
       clear H1
       replace H:=Option.bind_eq_some_iff.mp H
       obtain ⟨t277,A290,H⟩:=H
       replace H:(if t277=true then ((za7.f a0_9 a0_10 a0_11 a0_12).bind fun t278=>(if t278=true then ((zak.f a0_13 0 1073741824).bind fun t279=>(if t279=true then ((zaz.f kj18 l0_14).bind fun t280=>(some t280)) else (some 2))) else (some 2))) else (some 8))=some r:=H
       have A29:=Aside0.mk A290
       clear A290
       by_cases c30:t277=true
       ·subst c30
        have H1:((za7.f a0_9 a0_10 a0_11 a0_12).bind fun t278=>(if t278=true then ((zak.f a0_13 0 1073741824).bind fun t279=>(if t279=true then ((zaz.f kj18 l0_14).bind fun t280=>(some t280)) else (some 2))) else (some 2)))=some r:=by rw [if_pos rfl] at H;exact H
        clear H
        have H:=H1
        clear H1
        replace H:=Option.bind_eq_some_iff.mp H
        obtain ⟨t278,A310,H⟩:=H
        replace H:(if t278=true then ((zak.f a0_13 0 1073741824).bind fun t279=>(if t279=true then ((zaz.f kj18 l0_14).bind fun t280=>(some t280)) else (some 2))) else (some 2))=some r:=H
        have A31:=Aside0.mk A310
        clear A310
        by_cases c32:t278=true
        ·subst c32
         have H1:((zak.f a0_13 0 1073741824).bind fun t279=>(if t279=true then ((zaz.f kj18 l0_14).bind fun t280=>(some t280)) else (some 2)))=some r:=by rw [if_pos rfl] at H;exact H
         clear H
         have H:=H1
         clear H1
         replace H:=Option.bind_eq_some_iff.mp H
         obtain ⟨t279,A330,H⟩:=H
         replace H:(if t279=true then ((zaz.f kj18 l0_14).bind fun t280=>(some t280)) else (some 2))=some r:=H
         have A33:=Aside0.mk A330
         clear A330
         by_cases c34:t279=true
         ·subst c34
          have H1:((zaz.f kj18 l0_14).bind fun t280=>(some t280))=some r:=by rw [if_pos rfl] at H;exact H
          clear H
          have H:=H1
          clear H1
          replace H:=Option.bind_eq_some_iff.mp H
          obtain ⟨t280,A350,H⟩:=H
          replace H:(some t280)=some r:=H
          have A35:=Aside0.mk A350
          clear A350
          obtain rfl:=Option.some.inj H
          obtain ⟨hcz36_0,hcz36_1,hcz36_2,hcz36_3,hcz36_4,hcz36_5,hcz36_6,hcz36_7,hcz36_8,hcz36_9,hcz36_10,hcz36_11,hcz36_12,hcz36_13,hcz36_14,hcz36_15⟩:=zD16 BK268.out
          obtain ⟨hfz36_0,hfz36_1,hfz36_2,hfz36_3,hfz36_4,hfz36_5,hfz36_6,hfz36_7,hfz36_8,hfz36_9,hfz36_10,hfz36_11,hfz36_12,hfz36_13,hfz36_14,hfz36_15⟩:=zE16 BK268.out
          go_wp2_with (first|((with_reducible refine zal (f:=49) rfl ?_);refine goesL_ (some 49) rfl rfl Try.func49 (by kernel_rfl) rfl #[.int .i64 a0_8,.int .i64 0,.int .i64 17] rfl zA ?_;(with_reducible refine (zak.calls a0_8 0 17 true _ A29.out).mono ?_);rintro e w' ⟨rfl,⟨nd,rfl⟩⟩;refine ⟨_,rfl,?_⟩)|((with_reducible refine zal (f:=50) rfl ?_);refine goesL_ (some 53) rfl rfl Try.func50 (by kernel_rfl) rfl #[.agg #[.int .i64 a0_9,.int .i64 a0_10,.int .i64 a0_11,.int .i64 a0_12]] rfl zA ?_;(with_reducible refine (za7.calls a0_9 a0_10 a0_11 a0_12 true _ A31.out).mono ?_);rintro e w37 ⟨rfl,hb⟩;refine ⟨_,rfl,?_⟩;replace BK268:=Aside0.mk (zaa (zB BK268.out) hb);replace HB:=Aside0.mk (zad (zL1 HB.out GE268.out) hb);(try clear hb);(try clear hb2);(try clear hk);(try clear hi);obtain ⟨hcz38_0,hcz38_1,hcz38_2,hcz38_3,hcz38_4,hcz38_5,hcz38_6,hcz38_7,hcz38_8,hcz38_9,hcz38_10,hcz38_11,hcz38_12,hcz38_13,hcz38_14,hcz38_15⟩:=zD16 BK268.out;obtain ⟨hfz38_0,hfz38_1,hfz38_2,hfz38_3,hfz38_4,hfz38_5,hfz38_6,hfz38_7,hfz38_8,hfz38_9,hfz38_10,hfz38_11,hfz38_12,hfz38_13,hfz38_14,hfz38_15⟩:=zE16 BK268.out)|(go_at_call 49;(with_reducible refine (zak.calls a0_13 0 1073741824 true _ A33.out).mono ?_);rintro e w' ⟨rfl,⟨nd,rfl⟩⟩)|((with_reducible refine zal (f:=51) rfl ?_);refine goesL_ (some 63) rfl rfl Try.func51 (by kernel_rfl) rfl #[.slice A0_14 l0_14.length c0_14] rfl zA ?_;(with_reducible refine (zaz.calls kj18 _ _ l0_14 t280 _ ?side1 ?side2 A35.out).mono ?_);(case side1=>repeat (first|exact (Kd.C_below HR0_14.out (zL1 HB.out GE268.out))|(with_reducible refine Kd.C_alloc ?_ _)|(with_reducible refine Kd.C_drewN ?_ _)|(with_reducible refine Kd.C_drew ?_)));(case side2=>exact HC0_14.out);rintro e w' ⟨rfl,⟨nd,rfl⟩⟩;refine ⟨_,rfl,?_⟩))
          go_ret
          exact ⟨by first|rfl|(simp [errW_none,errW_some] <;> rfl)|(simp [*,errW_none,errW_some] <;> rfl),by repeat (first|(with_reducible first|exact HB.out|apply zai|apply zaf|apply zag|refine zac ?_ GE268.out)|exact HB.out)⟩
         ·replace c34:=Bool.eq_false_iff.mpr c34
          subst c34
          have H1:(some 2)=some r:=by rw [if_neg (show ¬ (false=true) by decide)] at H;exact H
          clear H
          have H:=H1
          clear H1
          obtain rfl:=Option.some.inj H
          obtain ⟨hcz39_0,hcz39_1,hcz39_2,hcz39_3,hcz39_4,hcz39_5,hcz39_6,hcz39_7,hcz39_8,hcz39_9,hcz39_10,hcz39_11,hcz39_12,hcz39_13,hcz39_14,hcz39_15⟩:=zD16 BK268.out
          obtain ⟨hfz39_0,hfz39_1,hfz39_2,hfz39_3,hfz39_4,hfz39_5,hfz39_6,hfz39_7,hfz39_8,hfz39_9,hfz39_10,hfz39_11,hfz39_12,hfz39_13,hfz39_14,hfz39_15⟩:=zE16 BK268.out
          go_wp2_with (first|((with_reducible refine zal (f:=49) rfl ?_);refine goesL_ (some 49) rfl rfl Try.func49 (by kernel_rfl) rfl #[.int .i64 a0_8,.int .i64 0,.int .i64 17] rfl zA ?_;(with_reducible refine (zak.calls a0_8 0 17 true _ A29.out).mono ?_);rintro e w' ⟨rfl,⟨nd,rfl⟩⟩;refine ⟨_,rfl,?_⟩)|((with_reducible refine zal (f:=50) rfl ?_);refine goesL_ (some 53) rfl rfl Try.func50 (by kernel_rfl) rfl #[.agg #[.int .i64 a0_9,.int .i64 a0_10,.int .i64 a0_11,.int .i64 a0_12]] rfl zA ?_;(with_reducible refine (za7.calls a0_9 a0_10 a0_11 a0_12 true _ A31.out).mono ?_);rintro e w40 ⟨rfl,hb⟩;refine ⟨_,rfl,?_⟩;replace BK268:=Aside0.mk (zaa (zB BK268.out) hb);replace HB:=Aside0.mk (zad (zL1 HB.out GE268.out) hb);(try clear hb);(try clear hb2);(try clear hk);(try clear hi);obtain ⟨hcz41_0,hcz41_1,hcz41_2,hcz41_3,hcz41_4,hcz41_5,hcz41_6,hcz41_7,hcz41_8,hcz41_9,hcz41_10,hcz41_11,hcz41_12,hcz41_13,hcz41_14,hcz41_15⟩:=zD16 BK268.out;obtain ⟨hfz41_0,hfz41_1,hfz41_2,hfz41_3,hfz41_4,hfz41_5,hfz41_6,hfz41_7,hfz41_8,hfz41_9,hfz41_10,hfz41_11,hfz41_12,hfz41_13,hfz41_14,hfz41_15⟩:=zE16 BK268.out)|(go_at_call 49;(with_reducible refine (zak.calls a0_13 0 1073741824 false _ A33.out).mono ?_);rintro e w' ⟨rfl,⟨nd,rfl⟩⟩))
          go_ret
          exact ⟨by first|rfl|(simp [errW_none,errW_some] <;> rfl)|(simp [*,errW_none,errW_some] <;> rfl),by repeat (first|(with_reducible first|exact HB.out|apply zai|apply zaf|apply zag|refine zac ?_ GE268.out)|exact HB.out)⟩
        ·replace c32:=Bool.eq_false_iff.mpr c32
         subst c32
         have H1:(some 2)=some r:=by rw [if_neg (show ¬ (false=true) by decide)] at H;exact H
         clear H
         have H:=H1
         clear H1
         obtain rfl:=Option.some.inj H
         obtain ⟨hcz42_0,hcz42_1,hcz42_2,hcz42_3,hcz42_4,hcz42_5,hcz42_6,hcz42_7,hcz42_8,hcz42_9,hcz42_10,hcz42_11,hcz42_12,hcz42_13,hcz42_14,hcz42_15⟩:=zD16 BK268.out
         obtain ⟨hfz42_0,hfz42_1,hfz42_2,hfz42_3,hfz42_4,hfz42_5,hfz42_6,hfz42_7,hfz42_8,hfz42_9,hfz42_10,hfz42_11,hfz42_12,hfz42_13,hfz42_14,hfz42_15⟩:=zE16 BK268.out
         go_wp2_with (first|((with_reducible refine zal (f:=49) rfl ?_);refine goesL_ (some 49) rfl rfl Try.func49 (by kernel_rfl) rfl #[.int .i64 a0_8,.int .i64 0,.int .i64 17] rfl zA ?_;(with_reducible refine (zak.calls a0_8 0 17 true _ A29.out).mono ?_);rintro e w' ⟨rfl,⟨nd,rfl⟩⟩;refine ⟨_,rfl,?_⟩)|((with_reducible refine zal (f:=50) rfl ?_);refine goesL_ (some 53) rfl rfl Try.func50 (by kernel_rfl) rfl #[.agg #[.int .i64 a0_9,.int .i64 a0_10,.int .i64 a0_11,.int .i64 a0_12]] rfl zA ?_;(with_reducible refine (za7.calls a0_9 a0_10 a0_11 a0_12 false _ A31.out).mono ?_);rintro e w43 ⟨rfl,hb⟩;refine ⟨_,rfl,?_⟩;replace BK268:=Aside0.mk (zaa (zB BK268.out) hb);replace HB:=Aside0.mk (zad (zL1 HB.out GE268.out) hb);(try clear hb);(try clear hb2);(try clear hk);(try clear hi)))
         go_ret
         exact ⟨by first|rfl|(simp [errW_none,errW_some] <;> rfl)|(simp [*,errW_none,errW_some] <;> rfl),by repeat (first|(with_reducible first|exact HB.out|apply zai|apply zaf|apply zag|refine zac ?_ GE268.out)|exact HB.out)⟩
       ·replace c30:=Bool.eq_false_iff.mpr c30
        subst c30
        have H1:(some 8)=some r:=by rw [if_neg (show ¬ (false=true) by decide)] at H;exact H
        clear H
        have H:=H1
        clear H1
        obtain rfl:=Option.some.inj H
        obtain ⟨hcz44_0,hcz44_1,hcz44_2,hcz44_3,hcz44_4,hcz44_5,hcz44_6,hcz44_7,hcz44_8,hcz44_9,hcz44_10,hcz44_11,hcz44_12,hcz44_13,hcz44_14,hcz44_15⟩:=zD16 BK268.out
        obtain ⟨hfz44_0,hfz44_1,hfz44_2,hfz44_3,hfz44_4,hfz44_5,hfz44_6,hfz44_7,hfz44_8,hfz44_9,hfz44_10,hfz44_11,hfz44_12,hfz44_13,hfz44_14,hfz44_15⟩:=zE16 BK268.out
        go_wp2_with (first|((with_reducible refine zal (f:=49) rfl ?_);refine goesL_ (some 49) rfl rfl Try.func49 (by kernel_rfl) rfl #[.int .i64 a0_8,.int .i64 0,.int .i64 17] rfl zA ?_;(with_reducible refine (zak.calls a0_8 0 17 false _ A29.out).mono ?_);rintro e w' ⟨rfl,⟨nd,rfl⟩⟩;refine ⟨_,rfl,?_⟩))
        go_ret
        exact ⟨by first|rfl|(simp [errW_none,errW_some] <;> rfl)|(simp [*,errW_none,errW_some] <;> rfl),by repeat (first|(with_reducible first|exact HB.out|apply zai|apply zaf|apply zag|refine zac ?_ GE268.out)|exact HB.out)⟩
end Go.Proofs.Ytlilncnoohfcdaa.Da
