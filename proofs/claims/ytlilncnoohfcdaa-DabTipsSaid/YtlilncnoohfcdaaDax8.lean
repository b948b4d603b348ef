
import Derived.Test.YtlilncnoohfcdaaDax0
import Derived.Test.YtlilncnoohfcdaaDax3
import Derived.Test.YtlilncnoohfcdaaDax5
import Derived.Test.YtlilncnoohfcdaaDax6
namespace Go.Proofs.Ytlilncnoohfcdaa.Da
open Go.RowKit Go.Proofs.YtlilncnoohfcdaaW.PrintWords Go.Proofs.YtlilncnoohfcdaaW.PrintLast Go.Proofs.YtlilncnoohfcdaaW.PrintMore
attribute [local go_sem] max2_int min2_int zbo zbp zbc zbd zbj zbk   
set_option linter.unusedVariables false
set_option linter.unusedSimpArgs false
/-! ### num_Div: function 110 -/
def zaD.j0:Nat→Int→Int→Int→Bool→Option (Int)
 | 0,_,_,_,_=>none
 | k+1,x0,x1,x5,x15=>if x15=true then (some x5) else (if x1 > 0 then (if (wrap64 (x0 - (wrap64 (x5*x1))))≥(wrap64 (x1 - (wrap64 (x0 - (wrap64 (x5*x1)))))) then (some (wrap64 (x5+1))) else (if x1<0 then (if (wrap64 (x0 - (wrap64 (x5*x1))))≤(wrap64 (x1 - (wrap64 (x0 - (wrap64 (x5*x1)))))) then (some (wrap64 (x5+1))) else (some x5)) else (some x5))) else (if x1<0 then (if (wrap64 (x0 - (wrap64 (x5*x1))))≤(wrap64 (x1 - (wrap64 (x0 - (wrap64 (x5*x1)))))) then (some (wrap64 (x5+1))) else (some x5)) else (some x5)))
def zaD.f (k:Nat) (a0:Int) (a1:Int):Option (Int):=(zbl.f a0 a1).bind fun t155=>(if a1=0 then (zaD.j0 k a0 a1 t155 true) else (zaD.j0 k a0 a1 t155 (a1==(-1))))
theorem zaD.mono_l : ∀ k,(∀ y0 y1 y2 y3,LeO (zaD.j0 k y0 y1 y2 y3) (zaD.j0 (k+1) y0 y1 y2 y3))
 | 0=>fun _ _ _ _ r h=>by simp [zaD.j0] at h
 | k+1=>by
  have ih0:=zaD.mono_l k
  ·intro y0 y1 y2 y3
   unfold zaD.j0
   repeat' first
   | (with_reducible exact ih0 _ _ _ _)
   | (with_reducible exact LeO.refl _)
   | (with_reducible exact LeO.none _)
   | (with_reducible refine LeO.ite ?_ ?_)
   | (with_reducible refine LeO.bind ?_ (fun _=>?_))
   | exact ih0 _ _ _ _
   | exact LeO.none _
   | refine LeO.ite ?_ ?_
   | refine LeO.bind ?_ (fun _=>?_)
theorem zaD.mono : ∀ a0 a1 k,LeO (zaD.f k a0 a1) (zaD.f (k+1) a0 a1):=by
 intro a0 a1 k
 have ih0:=zaD.mono_l k
 unfold zaD.f
 repeat' first
  | (with_reducible exact ih0 _ _ _ _)
  | (with_reducible exact LeO.refl _)
  | (with_reducible exact LeO.none _)
  | (with_reducible refine LeO.ite ?_ ?_)
  | (with_reducible refine LeO.bind ?_ (fun _=>?_))
  | exact ih0 _ _ _ _
  | exact LeO.none _
  | refine LeO.ite ?_ ?_
  | refine LeO.bind ?_ (fun _=>?_)
set_option maxHeartbeats 8000000 in
set_option maxRecDepth 100000 in
theorem zaD.calls (k:Nat) (a0:Int) (a1:Int) (r:Int) (w:World) (h:zaD.f k a0 a1=some r) :
 Calls Try.prog 110 #[.int .i64 a0,.int .i64 a1] w fun e w'=>e = .returned (.int .i64 r)∧Drawn0 w w':=by
 have H:((zbl.f a0 a1).bind fun t155=>(if a1=0 then (zaD.j0 k a0 a1 t155 true) else (zaD.j0 k a0 a1 t155 (a1==(-1)))))=some r:=h
 clear h
 replace H:=Option.bind_eq_some_iff.mp H
 obtain ⟨t155,A30,H⟩:=H
 replace H:(if a1=0 then (zaD.j0 k a0 a1 t155 true) else (zaD.j0 k a0 a1 t155 (a1==(-1))))=some r:=H
 have A3:=Aside0.mk A30
 clear A30
 have HC4:=Aside0.mk H
 clear H
 go_enter Try.func110,Try.ntmps110
 go_upto_region 2 with (first|((with_reducible refine zal (f:=55) rfl ?_);refine goesL_ (some 9) rfl rfl Try.func55 (by kernel_rfl) rfl #[.int .i64 a0,.int .i64 a1] rfl zA ?_;(with_reducible refine (zbl.calls a0 a1 t155 _ A3.out).mono ?_);rintro e w' ⟨rfl,⟨nd,rfl⟩⟩;refine ⟨_,rfl,?_⟩))
 (try simp only [Act.put,List.setIfInBounds_toArray,List.set_cons_zero,List.set_cons_succ])
 go_cut [15] (fun v15 wc=>∃ (kq:Nat) (x15_3:Bool),v15 = .bool x15_3∧Aside0 (zaD.j0 kq a0 a1 t155 x15_3=some r)∧Aside0 (kq≤k)∧Drawn0 w wc)
 case first=>
  have H:=HC4.out
  clear HC4
  by_cases c5:a1=0
  ·rw [if_pos c5] at H
   have c5b0:(a1==0)=true:=beq_iff_eq.mpr c5
   have c5b1:(a1 != 0)=false:=bne_eq_false_iff_eq.mpr c5
   clear c5
   (first|rw [c5b0]|(simp only [i64_w,i32_w];rw [c5b0])|skip)
   have H':=Aside0.mk H
   clear H
   go_wp2
   go_meet
   case rel=>exact ⟨_,(true),zF,H',⟨by first|omega|exact Nat.le_refl _⟩,by repeat (first|exact Drawn0.refl _|apply Drawn0.step)⟩
  ·rw [if_neg c5] at H
   have c5b0:(a1==0)=false:=beq_eq_false_iff_ne.mpr c5
   have c5b1:(a1 != 0)=true:=bne_iff_ne.mpr c5
   (first|rw [c5b0]|(simp only [i64_w,i32_w];rw [c5b0])|skip)
   have H':=Aside0.mk H
   clear H
   go_wp2
   go_meet
   case rel=>exact ⟨_,((a1==(-1))),zF,H',⟨by first|omega|exact Nat.le_refl _⟩,by repeat (first|exact Drawn0.refl _|apply Drawn0.step)⟩
 case rest=>
  clear HC4
  try clear c1
  try clear p2
  try clear c5
  try clear c5b0
  try clear c5b1
  obtain ⟨kq,x15_3,rfl,HA,HJ3,⟨mc3,rfl⟩⟩:=hcut
  cases kq with
  | zero=>exact absurd HA.out (by simp [zaD.j0])
  | succ kj3=>
   have H:=HA.out
   clear HA
   simp only [zaD.j0] at H
   by_cases c6:x15_3=true
   ·subst c6
    have H1:(some t155)=some r:=by rw [if_pos rfl] at H;exact H
    clear H
    have H:=H1
    clear H1
    obtain rfl:=Option.some.inj H
    go_wp2
    go_ret
    exact ⟨by first|rfl|(simp;done)|(simp [*];done),by repeat (first|exact Drawn0.refl _|apply Drawn0.step)⟩
   ·replace c6:=Bool.eq_false_iff.mpr c6
    subst c6
    have H1:(if a1 > 0 then (if (wrap64 (a0 - (wrap64 (t155*a1))))≥(wrap64 (a1 - (wrap64 (a0 - (wrap64 (t155*a1)))))) then (some (wrap64 (t155+1))) else (if a1<0 then (if (wrap64 (a0 - (wrap64 (t155*a1))))≤(wrap64 (a1 - (wrap64 (a0 - (wrap64 (t155*a1)))))) then (some (wrap64 (t155+1))) else (some t155)) else (some t155))) else (if a1<0 then (if (wrap64 (a0 - (wrap64 (t155*a1))))≤(wrap64 (a1 - (wrap64 (a0 - (wrap64 (t155*a1)))))) then (some (wrap64 (t155+1))) else (some t155)) else (some t155)))=some r:=by rw [if_neg (show ¬ (false=true) by decide)] at H;exact H
    clear H
    have H:=H1
    clear H1
    by_cases c7:a1 > 0
    ·rw [if_pos c7] at H
     have c7b0:decide (0<a1)=true:=decide_eq_true c7
     clear c7
     by_cases c8:(wrap64 (a0 - (wrap64 (t155*a1))))≥(wrap64 (a1 - (wrap64 (a0 - (wrap64 (t155*a1))))))
     ·rw [if_pos c8] at H
      have c8b0:decide ((wrap64 (a1 - (wrap64 (a0 - (wrap64 (t155*a1))))))≤(wrap64 (a0 - (wrap64 (t155*a1)))))=true:=decide_eq_true c8
      clear c8
      obtain rfl:=Option.some.inj H
      go_wp2
      go_ret
      exact ⟨by first|rfl|(simp;done)|(simp [*];done),by repeat (first|exact Drawn0.refl _|apply Drawn0.step)⟩
     ·rw [if_neg c8] at H
      have c8b0:decide ((wrap64 (a1 - (wrap64 (a0 - (wrap64 (t155*a1))))))≤(wrap64 (a0 - (wrap64 (t155*a1)))))=false:=decide_eq_false c8
      clear c8
      by_cases c9:a1<0
      ·rw [if_pos c9] at H
       have c9b0:decide (a1<0)=true:=decide_eq_true c9
       clear c9
       by_cases c10:(wrap64 (a0 - (wrap64 (t155*a1))))≤(wrap64 (a1 - (wrap64 (a0 - (wrap64 (t155*a1))))))
       ·rw [if_pos c10] at H
        have c10b0:decide ((wrap64 (a0 - (wrap64 (t155*a1))))≤(wrap64 (a1 - (wrap64 (a0 - (wrap64 (t155*a1)))))))=true:=decide_eq_true c10
        clear c10
        obtain rfl:=Option.some.inj H
        go_wp2
        go_ret
        exact ⟨by first|rfl|(simp;done)|(simp [*];done),by repeat (first|exact Drawn0.refl _|apply Drawn0.step)⟩
       ·rw [if_neg c10] at H
        have c10b0:decide ((wrap64 (a0 - (wrap64 (t155*a1))))≤(wrap64 (a1 - (wrap64 (a0 - (wrap64 (t155*a1)))))))=false:=decide_eq_false c10
        clear c10
        obtain rfl:=Option.some.inj H
        go_wp2
        go_ret
        exact ⟨by first|rfl|(simp;done)|(simp [*];done),by repeat (first|exact Drawn0.refl _|apply Drawn0.step)⟩
      ·rw [if_neg c9] at H
       have c9b0:decide (a1<0)=false:=decide_eq_false c9
       clear c9
       obtain rfl:=Option.some.inj H
       go_wp2
       go_ret
       exact ⟨by first|rfl|(simp;done)|(simp [*];done),by repeat (first|exact Drawn0.refl _|apply Drawn0.step)⟩
    ·rw [if_neg c7] at H
     have c7b0:decide (0<a1)=false:=decide_eq_false c7
     clear c7
     by_cases c11:a1<0
     ·rw [if_pos c11] at H
      have c11b0:decide (a1<0)=true:=decide_eq_true c11
      clear c11
      by_cases c12:(wrap64 (a0 - (wrap64 (t155*a1))))≤(wrap64 (a1 - (wrap64 (a0 - (wrap64 (t155*a1))))))
      ·rw [if_pos c12] at H
       have c12b0:decide ((wrap64 (a0 - (wrap64 (t155*a1))))≤(wrap64 (a1 - (wrap64 (a0 - (wrap64 (t155*a1)))))))=true:=decide_eq_true c12
       clear c12
       obtain rfl:=Option.some.inj H
       go_wp2
       go_ret
       exact ⟨by first|rfl|(simp;done)|(simp [*];done),by repeat (first|exact Drawn0.refl _|apply Drawn0.step)⟩
      ·rw [if_neg c12] at H
       have c12b0:decide ((wrap64 (a0 - (wrap64 (t155*a1))))≤(wrap64 (a1 - (wrap64 (a0 - (wrap64 (t155*a1)))))))=false:=decide_eq_false c12
       clear c12
       obtain rfl:=Option.some.inj H
       go_wp2
       go_ret
       exact ⟨by first|rfl|(simp;done)|(simp [*];done),by repeat (first|exact Drawn0.refl _|apply Drawn0.step)⟩
     ·rw [if_neg c11] at H
      have c11b0:decide (a1<0)=false:=decide_eq_false c11
      clear c11
      obtain rfl:=Option.some.inj H
      go_wp2
      go_ret
      exact ⟨by first|rfl|(simp;done)|(simp [*];done),by repeat (first|exact Drawn0.refl _|apply Drawn0.step)⟩
def zba.f (k:Nat) (a0:Int):Option (Int):=if 0≤a0 then (if a0≤16384 then (if 64≤a0 / 256 then (some (sineTab 64)) else ((zaD.f k (wrap64 ((wrap64 (sineTab (a0 / 256+1) - sineTab (a0 / 256)))*(a0 % 256))) 256).bind fun t=>(some (wrap64 (sineTab (a0 / 256)+t))))) else (none)) else (none)
theorem zba.mono : ∀ a0 k,LeO (zba.f k a0) (zba.f (k+1) a0):=by
 intro a0 k
 unfold zba.f
 repeat' first
  | (with_reducible exact zaD.mono _ _ _)
  | (with_reducible exact LeO.refl _)
  | (with_reducible refine LeO.ite ?_ ?_)
  | (with_reducible refine LeO.bind ?_ (fun _=>?_))
set_option maxHeartbeats 8000000 in
set_option maxRecDepth 100000 in
theorem zba.calls (k:Nat) (a0:Int) (r:Int) (w:World) (h:zba.f k a0=some r) :
 Calls Try.prog 158 #[.int .i64 a0] w fun e w'=>e = .returned (.int .i64 r)∧Below w.heap.size w w':=by
 unfold zba.f at h
 by_cases c0:0≤a0
 ·rw [if_pos c0] at h
  by_cases c1:a0≤16384
  ·rw [if_pos c1] at h
   by_cases c2:64≤a0 / 256
   ·rw [if_pos c2] at h
    obtain rfl:=Option.some.inj h
    clear h
    go_enter Try.func158,Try.ntmps158
    go_wp2_with (first|((with_reducible refine zaA (N:=5) rfl ?_);refine wpList_build_to rfl 146 _ rfl tabArr (by kernel_rfl) ?_)|((with_reducible refine gate_st (t:=146) (p:=3) rfl ?_);refine wpList_store_row rfl 146 (.tmp 3) (.tmp 5) rfl w.heap.size tabArr rfl rfl 146 Try.zeroCells146 (heap_alloc_new _ _) tab_size zero_size tab_one ?_;generalize hW:World.setRow _ w.heap.size tabArr=W1;have HT:=Aside0.mk (isTab_of W1 w.heap.size _ _ (by rw [← hW];exact setRow_heap _ _ _ _ _ _ (heap_alloc_new _ _)));have HB:=Aside0.mk (show Below w.heap.size w W1 by rw [← hW];exact below_setRow ((Below.refl _ _).alloc (Nat.le_refl _) _) (Nat.le_refl _) _);clear hW;have h64:W1.cell? ⟨w.heap.size,64,none⟩=some (.int .i64 (sineTab 64)):=HT.out 64 (by omega) (by omega)))
    go_ret
    exact ⟨rfl,HB.out⟩
   ·rw [if_neg c2] at h
    obtain ⟨t,hd,hr⟩:=Option.bind_eq_some_iff.mp h
    obtain rfl:=Option.some.inj hr
    have HD:=Aside0.mk hd
    clear h hd hr
    go_enter Try.func158,Try.ntmps158
    go_wp2_with (first|((with_reducible refine zaA (N:=5) rfl ?_);refine wpList_build_to rfl 146 _ rfl tabArr (by kernel_rfl) ?_)|((with_reducible refine gate_st (t:=146) (p:=3) rfl ?_);refine wpList_store_row rfl 146 (.tmp 3) (.tmp 5) rfl w.heap.size tabArr rfl rfl 146 Try.zeroCells146 (heap_alloc_new _ _) tab_size zero_size tab_one ?_;generalize hW:World.setRow _ w.heap.size tabArr=W1;have HT:=Aside0.mk (isTab_of W1 w.heap.size _ _ (by rw [← hW];exact setRow_heap _ _ _ _ _ _ (heap_alloc_new _ _)));have HB:=Aside0.mk (show Below w.heap.size w W1 by rw [← hW];exact below_setRow ((Below.refl _ _).alloc (Nat.le_refl _) _) (Nat.le_refl _) _);clear hW;have hA:W1.cell? ⟨w.heap.size,(a0 / 256).toNat,none⟩=some (.int .i64 (sineTab (a0 / 256))):=HT.out _ (by omega) (by omega);have hA1:W1.cell? ⟨w.heap.size,(a0 / 256+1).toNat,none⟩=some (.int .i64 (sineTab (a0 / 256+1))):=HT.out _ (by omega) (by omega)))
    have d0:0≤a0 / 256:=by omega
    have d1:a0 / 256<64:=by omega
    have dd0:decide (0≤a0 / 256)=true:=decide_eq_true d0
    go_quiet (first|(go_at_call 110;(with_reducible refine (zaD.calls k _ _ t _ HD.out).mono ?_);rintro e w' ⟨rfl,⟨nd,rfl⟩⟩;(first|exact ⟨rfl,_,World.drewN_drewN _ _ _⟩|exact ⟨rfl,_,Eq.trans (World.drewN_drewN _ _ _) (congrArg (World.drewN _) (Nat.add_assoc _ _ _))⟩)))
    go_wp2
    go_ret
    exact ⟨rfl,zaf HB.out _⟩
  ·rw [if_neg c1] at h
   exact absurd h (by simp)
 ·rw [if_neg c0] at h
  exact absurd h (by simp)
def zby.f (k:Nat) (a0:Int):Option (Int):=if (wrap64 (Int.tdiv a0 16384))=0 then ((zba.f k (Int.tmod a0 16384)).bind fun t156=>(some t156)) else (if (wrap64 (Int.tdiv a0 16384))=1 then ((zba.f k (wrap64 (16384 - (Int.tmod a0 16384)))).bind fun t157=>(some t157)) else (if (wrap64 (Int.tdiv a0 16384))=2 then ((zba.f k (Int.tmod a0 16384)).bind fun t158=>(some (wrap64 (-t158)))) else ((zba.f k (wrap64 (16384 - (Int.tmod a0 16384)))).bind fun t159=>(some (wrap64 (-t159))))))
theorem zby.mono : ∀ a0 k,LeO (zby.f k a0) (zby.f (k+1) a0):=by
 intro a0 k
 unfold zby.f
 repeat' first
  | (with_reducible exact zba.mono _ _)
  | (with_reducible exact LeO.refl _)
  | (with_reducible exact LeO.none _)
  | (with_reducible refine LeO.ite ?_ ?_)
  | (with_reducible refine LeO.bind ?_ (fun _=>?_))
  | exact zba.mono _ _
  | exact LeO.none _
  | refine LeO.ite ?_ ?_
  | refine LeO.bind ?_ (fun _=>?_)
set_option maxHeartbeats 8000000 in
set_option maxRecDepth 100000 in
theorem zby.calls (k:Nat) (a0:Int) (r:Int) (w:World) (h:zby.f k a0=some r) :
 Calls Try.prog 140 #[.int .i64 a0] w fun e w'=>e = .returned (.int .i64 r)∧Below w.heap.size w w':=by
 have HB:=Aside0.mk (Below.refl w.heap.size w)
 have H:(if (wrap64 (Int.tdiv a0 16384))=0 then ((zba.f k (Int.tmod a0 16384)).bind fun t156=>(some t156)) else (if (wrap64 (Int.tdiv a0 16384))=1 then ((zba.f k (wrap64 (16384 - (Int.tmod a0 16384)))).bind fun t157=>(some t157)) else (if (wrap64 (Int.tdiv a0 16384))=2 then ((zba.f k (Int.tmod a0 16384)).bind fun t158=>(some (wrap64 (-t158)))) else ((zba.f k (wrap64 (16384 - (Int.tmod a0 16384)))).bind fun t159=>(some (wrap64 (-t159)))))))=some r:=h
 clear h
 by_cases c2:(wrap64 (Int.tdiv a0 16384))=0
 ·rw [if_pos c2] at H
  have c2b0:((wrap64 (Int.tdiv a0 16384))==0)=true:=beq_iff_eq.mpr c2
  have c2b1:((wrap64 (Int.tdiv a0 16384)) != 0)=false:=bne_eq_false_iff_eq.mpr c2
  clear c2
  replace H:=Option.bind_eq_some_iff.mp H
  obtain ⟨t156,A30,H⟩:=H
  replace H:(some t156)=some r:=H
  have A3:=Aside0.mk A30
  clear A30
  obtain rfl:=Option.some.inj H
  go_enter Try.func140,Try.ntmps140
  go_wp2_with (first|((with_reducible refine zal (f:=158) rfl ?_);refine goesL_ (some 11) rfl rfl Try.func158 (by kernel_rfl) rfl #[.int .i64 (Int.tmod a0 16384)] rfl zA ?_;(with_reducible refine (zba.calls k (Int.tmod a0 16384) t156 _ A3.out).mono ?_);rintro e w4 ⟨rfl,hb⟩;refine ⟨_,rfl,?_⟩;replace HB:=Aside0.mk (zad (zL HB.out) hb);(try clear hb);(try clear hb2);(try clear hk);(try clear hi)))
  go_ret
  exact ⟨by first|rfl|(simp [errW_none,errW_some] <;> rfl)|(simp [*,errW_none,errW_some] <;> rfl),by repeat (first|(with_reducible first|exact HB.out|apply zai|apply zaf|apply zag)|exact HB.out)⟩
 ·rw [if_neg c2] at H
  have c2b0:((wrap64 (Int.tdiv a0 16384))==0)=false:=beq_eq_false_iff_ne.mpr c2
  have c2b1:((wrap64 (Int.tdiv a0 16384)) != 0)=true:=bne_iff_ne.mpr c2
  by_cases c5:(wrap64 (Int.tdiv a0 16384))=1
  ·rw [if_pos c5] at H
   have c5b0:((wrap64 (Int.tdiv a0 16384))==1)=true:=beq_iff_eq.mpr c5
   have c5b1:((wrap64 (Int.tdiv a0 16384)) != 1)=false:=bne_eq_false_iff_eq.mpr c5
   clear c5
   replace H:=Option.bind_eq_some_iff.mp H
   obtain ⟨t157,A60,H⟩:=H
   replace H:(some t157)=some r:=H
   have A6:=Aside0.mk A60
   clear A60
   obtain rfl:=Option.some.inj H
   go_enter Try.func140,Try.ntmps140
   go_wp2_with (first|((with_reducible refine zal (f:=158) rfl ?_);refine goesL_ (some 16) rfl rfl Try.func158 (by kernel_rfl) rfl #[.int .i64 (wrap64 (16384 - (Int.tmod a0 16384)))] rfl zA ?_;(with_reducible refine (zba.calls k (wrap64 (16384 - (Int.tmod a0 16384))) t157 _ A6.out).mono ?_);rintro e w7 ⟨rfl,hb⟩;refine ⟨_,rfl,?_⟩;replace HB:=Aside0.mk (zad (zL HB.out) hb);(try clear hb);(try clear hb2);(try clear hk);(try clear hi)))
   go_ret
   exact ⟨by first|rfl|(simp [errW_none,errW_some] <;> rfl)|(simp [*,errW_none,errW_some] <;> rfl),by repeat (first|(with_reducible first|exact HB.out|apply zai|apply zaf|apply zag)|exact HB.out)⟩
  ·rw [if_neg c5] at H
   have c5b0:((wrap64 (Int.tdiv a0 16384))==1)=false:=beq_eq_false_iff_ne.mpr c5
   have c5b1:((wrap64 (Int.tdiv a0 16384)) != 1)=true:=bne_iff_ne.mpr c5
   by_cases c8:(wrap64 (Int.tdiv a0 16384))=2
   ·rw [if_pos c8] at H
    have c8b0:((wrap64 (Int.tdiv a0 16384))==2)=true:=beq_iff_eq.mpr c8
    have c8b1:((wrap64 (Int.tdiv a0 16384)) != 2)=false:=bne_eq_false_iff_eq.mpr c8
    clear c8
    replace H:=Option.bind_eq_some_iff.mp H
    obtain ⟨t158,A90,H⟩:=H
    replace H:(some (wrap64 (-t158)))=some r:=H
    have A9:=Aside0.mk A90
    clear A90
    obtain rfl:=Option.some.inj H
    go_enter Try.func140,Try.ntmps140
    go_wp2_with (first|((with_reducible refine zal (f:=158) rfl ?_);refine goesL_ (some 20) rfl rfl Try.func158 (by kernel_rfl) rfl #[.int .i64 (Int.tmod a0 16384)] rfl zA ?_;(with_reducible refine (zba.calls k (Int.tmod a0 16384) t158 _ A9.out).mono ?_);rintro e w10 ⟨rfl,hb⟩;refine ⟨_,rfl,?_⟩;replace HB:=Aside0.mk (zad (zL HB.out) hb);(try clear hb);(try clear hb2);(try clear hk);(try clear hi)))
    go_ret
    exact ⟨by first|rfl|(simp [errW_none,errW_some] <;> rfl)|(simp [*,errW_none,errW_some] <;> rfl),by repeat (first|(with_reducible first|exact HB.out|apply zai|apply zaf|apply zag)|exact HB.out)⟩
   ·rw [if_neg c8] at H
    have c8b0:((wrap64 (Int.tdiv a0 16384))==2)=false:=beq_eq_false_iff_ne.mpr c8
    have c8b1:((wrap64 (Int.tdiv a0 16384)) != 2)=true:=bne_iff_ne.mpr c8
    replace H:=Option.bind_eq_some_iff.mp H
    obtain ⟨t159,A110,H⟩:=H
    replace H:(some (wrap64 (-t159)))=some r:=H
    have A11:=Aside0.mk A110
    clear A110
    obtain rfl:=Option.some.inj H
    go_enter Try.func140,Try.ntmps140
    go_wp2_with (first|((with_reducible refine zal (f:=158) rfl ?_);refine goesL_ (some 24) rfl rfl Try.func158 (by kernel_rfl) rfl #[.int .i64 (wrap64 (16384 - (Int.tmod a0 16384)))] rfl zA ?_;(with_reducible refine (zba.calls k (wrap64 (16384 - (Int.tmod a0 16384))) t159 _ A11.out).mono ?_);rintro e w12 ⟨rfl,hb⟩;refine ⟨_,rfl,?_⟩;replace HB:=Aside0.mk (zad (zL HB.out) hb);(try clear hb);(try clear hb2);(try clear hk);(try clear hi)))
    go_ret
    exact ⟨by first|rfl|(simp [errW_none,errW_some] <;> rfl)|(simp [*,errW_none,errW_some] <;> rfl),by repeat (first|(with_reducible first|exact HB.out|apply zai|apply zaf|apply zag)|exact HB.out)⟩
def zbE.f (k:Nat) (a0:Int):Option (Int×Int):=(zby.f k (Go.bits .and .i64 a0 65535)).bind fun t160=>((zby.f k (Go.bits .and .i64 (wrap64 ((Go.bits .and .i64 a0 65535)+16384)) 65535)).bind fun t161=>(some (t160,t161)))
theorem zbE.mono : ∀ a0 k,LeO (zbE.f k a0) (zbE.f (k+1) a0):=by
 intro a0 k
 unfold zbE.f
 repeat' first
  | (with_reducible exact zby.mono _ _)
  | (with_reducible exact LeO.refl _)
  | (with_reducible exact LeO.none _)
  | (with_reducible refine LeO.ite ?_ ?_)
  | (with_reducible refine LeO.bind ?_ (fun _=>?_))
  | exact zby.mono _ _
  | exact LeO.none _
  | refine LeO.ite ?_ ?_
  | refine LeO.bind ?_ (fun _=>?_)
set_option maxHeartbeats 8000000 in
set_option maxRecDepth 100000 in
theorem zbE.calls (k:Nat) (a0:Int) (r1:Int) (r2:Int) (w:World) (h:zbE.f k a0=some (r1,r2)) :
 Calls Try.prog 109 #[.int .i64 a0] w fun e w'=>e = .returned (.tuple #[.int .i64 r1,.int .i64 r2])∧Below w.heap.size w w':=by
 have HB:=Aside0.mk (Below.refl w.heap.size w)
 have H:((zby.f k (Go.bits .and .i64 a0 65535)).bind fun t160=>((zby.f k (Go.bits .and .i64 (wrap64 ((Go.bits .and .i64 a0 65535)+16384)) 65535)).bind fun t161=>(some (t160,t161))))=some (r1,r2):=h
 clear h
 replace H:=Option.bind_eq_some_iff.mp H
 obtain ⟨t160,A20,H⟩:=H
 replace H:((zby.f k (Go.bits .and .i64 (wrap64 ((Go.bits .and .i64 a0 65535)+16384)) 65535)).bind fun t161=>(some (t160,t161)))=some (r1,r2):=H
 have A2:=Aside0.mk A20
 clear A20
 replace H:=Option.bind_eq_some_iff.mp H
 obtain ⟨t161,A30,H⟩:=H
 replace H:(some (t160,t161))=some (r1,r2):=H
 have A3:=Aside0.mk A30
 clear A30
 simp only [Option.some.injEq,Prod.mk.injEq] at H
 obtain ⟨rfl,rfl⟩:=H
 go_enter Try.func109,Try.ntmps109
 go_wp2_with (first|((with_reducible refine zal (f:=140) rfl ?_);refine goesL_ (some 8) rfl rfl Try.func140 (by kernel_rfl) rfl #[.int .i64 (Go.bits .and .i64 a0 65535)] rfl zA ?_;(with_reducible refine (zby.calls k (Go.bits .and .i64 a0 65535) t160 _ A2.out).mono ?_);rintro e w4 ⟨rfl,hb⟩;refine ⟨_,rfl,?_⟩;replace HB:=Aside0.mk (zad (zL HB.out) hb);(try clear hb);(try clear hb2);(try clear hk);(try clear hi))|((with_reducible refine zal (f:=140) rfl ?_);refine goesL_ (some 12) rfl rfl Try.func140 (by kernel_rfl) rfl #[.int .i64 (Go.bits .and .i64 (wrap64 ((Go.bits .and .i64 a0 65535)+16384)) 65535)] rfl zA ?_;(with_reducible refine (zby.calls k (Go.bits .and .i64 (wrap64 ((Go.bits .and .i64 a0 65535)+16384)) 65535) t161 _ A3.out).mono ?_);rintro e w5 ⟨rfl,hb⟩;refine ⟨_,rfl,?_⟩;replace HB:=Aside0.mk (zad (zL HB.out) hb);(try clear hb);(try clear hb2);(try clear hk);(try clear hi)))
 go_ret2
 exact ⟨by first|rfl|(simp [errW_none,errW_some] <;> rfl)|(simp [*,errW_none,errW_some] <;> rfl),by repeat (first|(with_reducible first|exact HB.out|apply zai|apply zaf|apply zag)|exact HB.out)⟩
def za4.f (k:Nat) (a0_0:Int) (a0_1:Int) (a0_2:Int) (a0_3:Int) (a0_4:Int) (a0_5:Int) (a0_6:Int) (a0_7:Int) (a0_8:Int) (a0_9:Int) (a0_10:Int) (a0_11:Int) (a0_12:Int) (a0_13:Int) (l0_14:List (S120)) (a0_15:Bool) (a1_0:Int) (a1_1:Int) (a1_2:Int) (a1_3:Int) (a1_4:Int):Option (Int×Int×Int×Int×Int×Int×Int×Int×Int):=(za3.f a1_0 a1_1 a1_2 a1_3 a1_4).bind fun bt165=>((zbE.f k (wrap64 (a0_6+bt165.2.2.2.2))).bind fun bt170=>(some (bt165.1,bt165.2.1,bt165.2.2.1,bt165.2.2.2.1,bt165.2.2.2.2,a0_1,a0_2,bt170.1,bt170.2)))
theorem za4.mono : ∀ a0 a1 a2 a3 a4 a5 a6 a7 a8 a9 a10 a11 a12 a13 a14 a15 a16 a17 a18 a19 a20 k,LeO (za4.f k a0 a1 a2 a3 a4 a5 a6 a7 a8 a9 a10 a11 a12 a13 a14 a15 a16 a17 a18 a19 a20) (za4.f (k+1) a0 a1 a2 a3 a4 a5 a6 a7 a8 a9 a10 a11 a12 a13 a14 a15 a16 a17 a18 a19 a20):=by
 intro a0 a1 a2 a3 a4 a5 a6 a7 a8 a9 a10 a11 a12 a13 a14 a15 a16 a17 a18 a19 a20 k
 unfold za4.f
 repeat' first
  | (with_reducible exact zbE.mono _ _)
  | (with_reducible exact LeO.refl _)
  | (with_reducible exact LeO.none _)
  | (with_reducible refine LeO.ite ?_ ?_)
  | (with_reducible refine LeO.bind ?_ (fun _=>?_))
  | exact zbE.mono _ _
  | exact LeO.none _
  | refine LeO.ite ?_ ?_
  | refine LeO.bind ?_ (fun _=>?_)
set_option maxHeartbeats 8000000 in
set_option maxRecDepth 100000 in
theorem za4.calls (k:Nat) (a0_0:Int) (a0_1:Int) (a0_2:Int) (a0_3:Int) (a0_4:Int) (a0_5:Int) (a0_6:Int) (a0_7:Int) (a0_8:Int) (a0_9:Int) (a0_10:Int) (a0_11:Int) (a0_12:Int) (a0_13:Int) (A0_14:Option Addr) (c0_14:Nat) (l0_14:List (S120)) (a0_15:Bool) (a1_0:Int) (a1_1:Int) (a1_2:Int) (a1_3:Int) (a1_4:Int) (r1:Int) (r2:Int) (r3:Int) (r4:Int) (r5:Int) (r6:Int) (r7:Int) (r8:Int) (r9:Int) (w:World) (hr0_14:Kd.C k120 w A0_14 l0_14.length l0_14) (hc0_14:l0_14.length≤c0_14) (h:za4.f k a0_0 a0_1 a0_2 a0_3 a0_4 a0_5 a0_6 a0_7 a0_8 a0_9 a0_10 a0_11 a0_12 a0_13 l0_14 a0_15 a1_0 a1_1 a1_2 a1_3 a1_4=some (r1,r2,r3,r4,r5,r6,r7,r8,r9)) :
 Calls Try.prog 61 #[.agg #[.int .i64 a0_0,.int .i64 a0_1,.int .i64 a0_2,.int .i64 a0_3,.int .i64 a0_4,.int .i64 a0_5,.int .i64 a0_6,.int .i64 a0_7,.int .i64 a0_8,.int .i64 a0_9,.int .i64 a0_10,.int .i64 a0_11,.int .i64 a0_12,.int .i64 a0_13,.slice A0_14 l0_14.length c0_14,.bool a0_15],.agg #[.int .i64 a1_0,.int .i64 a1_1,.int .i64 a1_2,.int .i64 a1_3,.int .i64 a1_4]] w fun e w'=>e = .returned (.agg #[.int .i64 r1,.int .i64 r2,.int .i64 r3,.int .i64 r4,.int .i64 r5,.int .i64 r6,.int .i64 r7,.int .i64 r8,.int .i64 r9])∧Below w.heap.size w w':=by
 have hu26:=Try.underlying26
 have hu28:=Try.underlying28
 have hu88:=Try.underlying88
 have HR0_14:=Aside0.mk hr0_14
 have HC0_14:=Aside0.mk hc0_14
 clear hr0_14 hc0_14
 have HB:=Aside0.mk (Below.refl w.heap.size w)
 have H:((za3.f a1_0 a1_1 a1_2 a1_3 a1_4).bind fun bt165=>((zbE.f k (wrap64 (a0_6+bt165.2.2.2.2))).bind fun bt170=>(some (bt165.1,bt165.2.1,bt165.2.2.1,bt165.2.2.2.1,bt165.2.2.2.2,a0_1,a0_2,bt170.1,bt170.2))))=some (r1,r2,r3,r4,r5,r6,r7,r8,r9):=h
 clear h
 replace H:=Option.bind_eq_some_iff.mp H
 obtain ⟨⟨t165,t166,t167,t168,t169⟩,A30,H⟩:=H
 replace H:((zbE.f k (wrap64 (a0_6+t169))).bind fun bt170=>(some (t165,t166,t167,t168,t169,a0_1,a0_2,bt170.1,bt170.2)))=some (r1,r2,r3,r4,r5,r6,r7,r8,r9):=H
 have A3:=Aside0.mk A30
 clear A30
 replace H:=Option.bind_eq_some_iff.mp H
 obtain ⟨⟨t170,t171⟩,A40,H⟩:=H
 replace H:(some (t165,t166,t167,t168,t169,a0_1,a0_2,t170,t171))=some (r1,r2,r3,r4,r5,r6,r7,r8,r9):=H
 have A4:=Aside0.mk A40
 clear A40
 simp only [Option.some.injEq,Prod.mk.injEq] at H
 obtain ⟨rfl,rfl,rfl,rfl,rfl,rfl,rfl,rfl,rfl⟩:=H
 go_enter Try.func61,Try.ntmps61
 go_wp2_with (first|((with_reducible refine zaA (N:=2) rfl ?_);refine zav ?hg (N:=2) ?hd (cs:=#[.int .i64 a0_0,.int .i64 a0_1,.int .i64 a0_2,.int .i64 a0_3,.int .i64 a0_4,.int .i64 a0_5,.int .i64 a0_6,.int .i64 a0_7,.int .i64 a0_8,.int .i64 a0_9,.int .i64 a0_10,.int .i64 a0_11,.int .i64 a0_12,.int .i64 a0_13,.slice A0_14 l0_14.length c0_14,.bool a0_15]) (t:=26) ?hr ?_;(case hd=>rfl);(case hg=>rfl);(case hr=>first|(go_simp;done)|(go_simp;rfl));intro gb162 hg w5 hbox hb;have n0_:=Aside0.mk (zad (zL HB.out) hb);have n1_:=Aside0.mk (hbox);have n2_:=Aside0.mk ((zS hg (zL HB.out):w.heap.size≤gb162));have n3_:=Aside0.mk ((zS hg (zL HB.out):w.heap.size≤gb162));clear HB;have HB:=n0_;have BK162:=n1_;have GW162:=n2_;have GE162:=n3_;clear n0_ n1_ n2_ n3_;clear hb hbox hg)|((with_reducible refine zaA (N:=3) rfl ?_);refine zav ?hg (N:=3) ?hd (cs:=#[.int .i64 a1_0,.int .i64 a1_1,.int .i64 a1_2,.int .i64 a1_3,.int .i64 a1_4]) (t:=28) ?hr ?_;(case hd=>rfl);(case hg=>rfl);(case hr=>first|(go_simp;done)|(go_simp;rfl));intro gb163 hg w6 hbox hb;have n0_:=Aside0.mk (zaa (zB BK162.out) hb);have n1_:=Aside0.mk (zad (zL1 HB.out GE162.out) hb);have n2_:=Aside0.mk (hbox);have n3_:=Aside0.mk ((zS hg (zL1 HB.out GE162.out):w.heap.size≤gb163));have n4_:=Aside0.mk ((zS hg (zL1 HB.out GE162.out):w.heap.size≤gb163));have n5_:=Aside0.mk ((by rw [hg];exact Nat.ne_of_lt (zao (zB BK162.out)):gb162≠gb163));have n6_:=Aside0.mk ((by rw [hg];exact Nat.ne_of_gt (zao (zB BK162.out)):gb163≠gb162));clear BK162;clear HB;have BK162:=n0_;have HB:=n1_;have BK163:=n2_;have GW163:=n3_;have GE163:=n4_;have NB162_163:=n5_;have NB163_162:=n6_;clear n0_ n1_ n2_ n3_ n4_ n5_ n6_;clear hb hbox hg)|((with_reducible refine zaA (N:=4) rfl ?_);refine zav ?hg (N:=4) ?hd (cs:=#[.int .i64 0,.int .i64 0,.int .i64 0,.int .i64 0,.int .i64 0,.int .i64 0,.int .i64 0,.int .i64 0,.int .i64 0]) (t:=88) ?hr ?_;(case hd=>rfl);(case hg=>rfl);(case hr=>first|(go_simp;done)|(go_simp;rfl));intro gb164 hg w7 hbox hb;have n0_:=Aside0.mk (zaa (zB BK162.out) hb);have n1_:=Aside0.mk (zaa (zB BK163.out) hb);have n2_:=Aside0.mk (zad (zL2 HB.out GE162.out GE163.out) hb);have n3_:=Aside0.mk (hbox);have n4_:=Aside0.mk ((zS hg (zL2 HB.out GE162.out GE163.out):w.heap.size≤gb164));have n5_:=Aside0.mk ((zS hg (zL2 HB.out GE162.out GE163.out):w.heap.size≤gb164));have n6_:=Aside0.mk ((by rw [hg];exact Nat.ne_of_lt (zao (zB BK162.out)):gb162≠gb164));have n7_:=Aside0.mk ((by rw [hg];exact Nat.ne_of_gt (zao (zB BK162.out)):gb164≠gb162));have n8_:=Aside0.mk ((by rw [hg];exact Nat.ne_of_lt (zao (zB BK163.out)):gb163≠gb164));have n9_:=Aside0.mk ((by rw [hg];exact Nat.ne_of_gt (zao (zB BK163.out)):gb164≠gb163));clear BK162;clear BK163;clear HB;have BK162:=n0_;have BK163:=n1_;have HB:=n2_;have BK164:=n3_;have GW164:=n4_;have GE164:=n5_;have NB162_164:=n6_;have NB164_162:=n7_;have NB163_164:=n8_;have NB164_163:=n9_;clear n0_ n1_ n2_ n3_ n4_ n5_ n6_ n7_ n8_ n9_;clear hb hbox hg;have hnb8:=NB163_162.out;have hnc8:=NB162_163.out;have hnb9:=NB163_164.out;have hnc9:=NB164_163.out;obtain ⟨hcz10_0,hcz10_1,hcz10_2,hcz10_3,hcz10_4⟩:=zD5 BK163.out;obtain ⟨hfz10_0,hfz10_1,hfz10_2,hfz10_3,hfz10_4⟩:=zE5 BK163.out)|((with_reducible refine zal (f:=52) rfl ?_);refine goesL_ (some 8) rfl rfl Try.func52 (by kernel_rfl) rfl #[.agg #[.int .i64 a1_0,.int .i64 a1_1,.int .i64 a1_2,.int .i64 a1_3,.int .i64 a1_4]] rfl zA ?_;(with_reducible refine (za3.calls a1_0 a1_1 a1_2 a1_3 a1_4 t165 t166 t167 t168 t169 _ A3.out).mono ?_);rintro e w11 ⟨rfl,hb⟩;refine ⟨_,rfl,?_⟩;replace BK162:=Aside0.mk (zaa (zB BK162.out) hb);replace BK163:=Aside0.mk (zaa (zB BK163.out) hb);replace BK164:=Aside0.mk (zaa (zB BK164.out) hb);replace HB:=Aside0.mk (zad (zL3 HB.out GE162.out GE163.out GE164.out) hb);(try clear hb);(try clear hb2);(try clear hk);(try clear hi);obtain ⟨hcz12_0,hcz12_1,hcz12_2,hcz12_3,hcz12_4⟩:=zD5 BK163.out;obtain ⟨hfz12_0,hfz12_1,hfz12_2,hfz12_3,hfz12_4⟩:=zE5 BK163.out;have hnb13:=NB162_164.out;have hnc13:=NB164_162.out;obtain ⟨hcz14_0,hcz14_1,hcz14_2,hcz14_3,hcz14_4,hcz14_5,hcz14_6,hcz14_7,hcz14_8,hcz14_9,hcz14_10,hcz14_11,hcz14_12,hcz14_13,hcz14_14,hcz14_15⟩:=zD16 BK162.out;obtain ⟨hfz14_0,hfz14_1,hfz14_2,hfz14_3,hfz14_4,hfz14_5,hfz14_6,hfz14_7,hfz14_8,hfz14_9,hfz14_10,hfz14_11,hfz14_12,hfz14_13,hfz14_14,hfz14_15⟩:=zE16 BK162.out)|((with_reducible refine zal (f:=109) rfl ?_);refine goesL_ (some 15) rfl rfl Try.func109 (by kernel_rfl) rfl #[.int .i64 (wrap64 (a0_6+t169))] rfl zA ?_;(with_reducible refine (zbE.calls k (wrap64 (a0_6+t169)) t170 t171 _ A4.out).mono ?_);rintro e w15 ⟨rfl,hb⟩;refine ⟨_,rfl,?_⟩;have n0_:=Aside0.mk (zaa (g:=gb162) (o:=.cells #[.int .i64 a0_0,.int .i64 a0_1,.int .i64 a0_2,.int .i64 a0_3,.int .i64 a0_4,.int .i64 a0_5,.int .i64 a0_6,.int .i64 a0_7,.int .i64 a0_8,.int .i64 a0_9,.int .i64 a0_10,.int .i64 a0_11,.int .i64 a0_12,.int .i64 a0_13,.slice A0_14 l0_14.length c0_14,.bool a0_15] 26 (0,0)) (by refine zB ?_;refine zab ?_ NB162_163.out _;refine zB ?_;refine zab ?_ NB162_163.out _;refine zB ?_;refine zab ?_ NB162_163.out _;refine zB ?_;refine zab ?_ NB162_163.out _;refine zB ?_;refine zab ?_ NB162_163.out _;refine zB ?_;exact BK162.out) hb);have n1_:=Aside0.mk (zaa (g:=gb163) (o:=.cells #[.int .i64 t165,.int .i64 t166,.int .i64 t167,.int .i64 t168,.int .i64 t169] 28 (0,0)) (by refine zB ?_;refine zae (cs:=#[.int .i64 t165,.int .i64 t166,.int .i64 t167,.int .i64 t168,.int .i64 a1_4]) ?_ 4 _ rfl;refine zB ?_;refine zae (cs:=#[.int .i64 t165,.int .i64 t166,.int .i64 t167,.int .i64 a1_3,.int .i64 a1_4]) ?_ 3 _ rfl;refine zB ?_;refine zae (cs:=#[.int .i64 t165,.int .i64 t166,.int .i64 a1_2,.int .i64 a1_3,.int .i64 a1_4]) ?_ 2 _ rfl;refine zB ?_;refine zae (cs:=#[.int .i64 t165,.int .i64 a1_1,.int .i64 a1_2,.int .i64 a1_3,.int .i64 a1_4]) ?_ 1 _ rfl;refine zB ?_;refine zae (cs:=#[.int .i64 a1_0,.int .i64 a1_1,.int .i64 a1_2,.int .i64 a1_3,.int .i64 a1_4]) ?_ 0 _ rfl;refine zB ?_;exact BK163.out) hb);have n2_:=Aside0.mk (zaa (g:=gb164) (o:=.cells #[.int .i64 0,.int .i64 0,.int .i64 0,.int .i64 0,.int .i64 0,.int .i64 0,.int .i64 0,.int .i64 0,.int .i64 0] 88 (0,0)) (by refine zB ?_;refine zab ?_ NB164_163.out _;refine zB ?_;refine zab ?_ NB164_163.out _;refine zB ?_;refine zab ?_ NB164_163.out _;refine zB ?_;refine zab ?_ NB164_163.out _;refine zB ?_;refine zab ?_ NB164_163.out _;refine zB ?_;exact BK164.out) hb);have n3_:=Aside0.mk (zad (zL3 HB.out GE162.out GE163.out GE164.out) hb);clear BK162;clear BK163;clear BK164;clear HB;have BK162:=n0_;have BK163:=n1_;have BK164:=n2_;have HB:=n3_;clear n0_ n1_ n2_ n3_;(try clear hb);(try clear hb2);(try clear hk);(try clear hi);obtain ⟨hcz16_0,hcz16_1,hcz16_2,hcz16_3,hcz16_4⟩:=zD5 BK163.out;obtain ⟨hfz16_0,hfz16_1,hfz16_2,hfz16_3,hfz16_4⟩:=zE5 BK163.out;obtain ⟨hcz17_0,hcz17_1,hcz17_2,hcz17_3,hcz17_4,hcz17_5,hcz17_6,hcz17_7,hcz17_8,hcz17_9,hcz17_10,hcz17_11,hcz17_12,hcz17_13,hcz17_14,hcz17_15⟩:=zD16 BK162.out;obtain ⟨hfz17_0,hfz17_1,hfz17_2,hfz17_3,hfz17_4,hfz17_5,hfz17_6,hfz17_7,hfz17_8,hfz17_9,hfz17_10,hfz17_11,hfz17_12,hfz17_13,hfz17_14,hfz17_15⟩:=zE16 BK162.out;obtain ⟨hcz18_0,hcz18_1,hcz18_2,hcz18_3,hcz18_4,hcz18_5,hcz18_6,hcz18_7,hcz18_8⟩:=zD9 BK164.out;obtain ⟨hfz18_0,hfz18_1,hfz18_2,hfz18_3,hfz18_4,hfz18_5,hfz18_6,hfz18_7,hfz18_8⟩:=zE9 BK164.out))
 refine bodyPost_ret (results_cell_row rfl _ _ gb164 88 #[.int .i64 t165,.int .i64 t166,.int .i64 t167,.int .i64 t168,.int .i64 t169,.int .i64 a0_1,.int .i64 a0_2,.int .i64 t170,.int .i64 t171] (0,0) _ rfl (by refine zB ?_;refine zae (cs:=#[.int .i64 t165,.int .i64 t166,.int .i64 t167,.int .i64 t168,.int .i64 t169,.int .i64 a0_1,.int .i64 a0_2,.int .i64 t170,.int .i64 0]) ?_ 8 _ rfl;refine zB ?_;refine zae (cs:=#[.int .i64 t165,.int .i64 t166,.int .i64 t167,.int .i64 t168,.int .i64 t169,.int .i64 a0_1,.int .i64 a0_2,.int .i64 0,.int .i64 0]) ?_ 7 _ rfl;refine zB ?_;refine zae (cs:=#[.int .i64 t165,.int .i64 t166,.int .i64 t167,.int .i64 t168,.int .i64 t169,.int .i64 a0_1,.int .i64 0,.int .i64 0,.int .i64 0]) ?_ 6 _ rfl;refine zB ?_;refine zae (cs:=#[.int .i64 t165,.int .i64 t166,.int .i64 t167,.int .i64 t168,.int .i64 t169,.int .i64 0,.int .i64 0,.int .i64 0,.int .i64 0]) ?_ 5 _ rfl;refine zB ?_;refine zae (cs:=#[.int .i64 t165,.int .i64 t166,.int .i64 t167,.int .i64 t168,.int .i64 0,.int .i64 0,.int .i64 0,.int .i64 0,.int .i64 0]) ?_ 4 _ rfl;refine zB ?_;refine zae (cs:=#[.int .i64 t165,.int .i64 t166,.int .i64 t167,.int .i64 0,.int .i64 0,.int .i64 0,.int .i64 0,.int .i64 0,.int .i64 0]) ?_ 3 _ rfl;refine zB ?_;refine zae (cs:=#[.int .i64 t165,.int .i64 t166,.int .i64 0,.int .i64 0,.int .i64 0,.int .i64 0,.int .i64 0,.int .i64 0,.int .i64 0]) ?_ 2 _ rfl;refine zB ?_;refine zae (cs:=#[.int .i64 t165,.int .i64 0,.int .i64 0,.int .i64 0,.int .i64 0,.int .i64 0,.int .i64 0,.int .i64 0,.int .i64 0]) ?_ 1 _ rfl;refine zB ?_;refine zae (cs:=#[.int .i64 0,.int .i64 0,.int .i64 0,.int .i64 0,.int .i64 0,.int .i64 0,.int .i64 0,.int .i64 0,.int .i64 0]) ?_ 0 _ rfl;refine zB ?_;exact BK164.out) Try.underlying88 rfl (by kernel_rfl)) rfl ?_
 exact ⟨by first|rfl|(simp [errW_none,errW_some] <;> rfl)|(simp [*,errW_none,errW_some] <;> rfl),by repeat (first|(with_reducible first|exact HB.out|apply zai|apply zaf|apply zag|refine zac ?_ GE162.out|refine zac ?_ GE163.out|refine zac ?_ GE164.out)|exact HB.out)⟩
def zbh.f (a0:Int) (a1:Int):Option (Int×Int):=some (IntKind.u64.wrap ((IntKind.u64.wrap ((IntKind.u64.wrap ((a0 / 4294967296)*(a1 / 4294967296)))+((IntKind.u64.wrap ((IntKind.u64.wrap ((a0 / 4294967296)*(Go.bits .and .u64 a1 4294967295)))+((IntKind.u64.wrap ((Go.bits .and .u64 a0 4294967295)*(Go.bits .and .u64 a1 4294967295))) / 4294967296))) / 4294967296)))+((IntKind.u64.wrap ((IntKind.u64.wrap ((Go.bits .and .u64 a0 4294967295)*(a1 / 4294967296)))+(Go.bits .and .u64 (IntKind.u64.wrap ((IntKind.u64.wrap ((a0 / 4294967296)*(Go.bits .and .u64 a1 4294967295)))+((IntKind.u64.wrap ((Go.bits .and .u64 a0 4294967295)*(Go.bits .and .u64 a1 4294967295))) / 4294967296))) 4294967295))) / 4294967296)),Go.bits .or .u64 (IntKind.u64.wrap ((IntKind.u64.wrap ((IntKind.u64.wrap ((Go.bits .and .u64 a0 4294967295)*(a1 / 4294967296)))+(Go.bits .and .u64 (IntKind.u64.wrap ((IntKind.u64.wrap ((a0 / 4294967296)*(Go.bits .and .u64 a1 4294967295)))+((IntKind.u64.wrap ((Go.bits .and .u64 a0 4294967295)*(Go.bits .and .u64 a1 4294967295))) / 4294967296))) 4294967295)))*4294967296)) (Go.bits .and .u64 (IntKind.u64.wrap ((Go.bits .and .u64 a0 4294967295)*(Go.bits .and .u64 a1 4294967295))) 4294967295))
set_option maxHeartbeats 8000000 in
set_option maxRecDepth 100000 in
theorem zbh.calls (a0:Int) (a1:Int) (r1:Int) (r2:Int) (w:World) (h:zbh.f a0 a1=some (r1,r2)) :
 Calls Try.prog 141 #[.int .u64 a0,.int .u64 a1] w fun e w'=>e = .returned (.tuple #[.int .u64 r1,.int .u64 r2])∧Drawn0 w w':=by
 have H:(some (IntKind.u64.wrap ((IntKind.u64.wrap ((IntKind.u64.wrap ((a0 / 4294967296)*(a1 / 4294967296)))+((IntKind.u64.wrap ((IntKind.u64.wrap ((a0 / 4294967296)*(Go.bits .and .u64 a1 4294967295)))+((IntKind.u64.wrap ((Go.bits .and .u64 a0 4294967295)*(Go.bits .and .u64 a1 4294967295))) / 4294967296))) / 4294967296)))+((IntKind.u64.wrap ((IntKind.u64.wrap ((Go.bits .and .u64 a0 4294967295)*(a1 / 4294967296)))+(Go.bits .and .u64 (IntKind.u64.wrap ((IntKind.u64.wrap ((a0 / 4294967296)*(Go.bits .and .u64 a1 4294967295)))+((IntKind.u64.wrap ((Go.bits .and .u64 a0 4294967295)*(Go.bits .and .u64 a1 4294967295))) / 4294967296))) 4294967295))) / 4294967296)),Go.bits .or .u64 (IntKind.u64.wrap ((IntKind.u64.wrap ((IntKind.u64.wrap ((Go.bits .and .u64 a0 4294967295)*(a1 / 4294967296)))+(Go.bits .and .u64 (IntKind.u64.wrap ((IntKind.u64.wrap ((a0 / 4294967296)*(Go.bits .and .u64 a1 4294967295)))+((IntKind.u64.wrap ((Go.bits .and .u64 a0 4294967295)*(Go.bits .and .u64 a1 4294967295))) / 4294967296))) 4294967295)))*4294967296)) (Go.bits .and .u64 (IntKind.u64.wrap ((Go.bits .and .u64 a0 4294967295)*(Go.bits .and .u64 a1 4294967295))) 4294967295)))=some (r1,r2):=h
 clear h
 simp only [Option.some.injEq,Prod.mk.injEq] at H
 obtain ⟨rfl,rfl⟩:=H
 go_enter Try.func141,Try.ntmps141
 go_wp2
 go_ret2
 exact ⟨by first|rfl|(simp;done)|(simp [*];done),by repeat (first|exact Drawn0.refl _|apply Drawn0.step)⟩
def zbf.f (a0:Int):Option (Int):=if a0<0 then (some (IntKind.u64.wrap (-(IntKind.u64.wrap (a0))))) else (some (IntKind.u64.wrap (a0)))
set_option maxHeartbeats 8000000 in
set_option maxRecDepth 100000 in
theorem zbf.calls (a0:Int) (r:Int) (w:World) (h:zbf.f a0=some r) :
 Calls Try.prog 142 #[.int .i64 a0] w fun e w'=>e = .returned (.int .u64 r)∧Drawn0 w w':=by
 have H:(if a0<0 then (some (IntKind.u64.wrap (-(IntKind.u64.wrap (a0))))) else (some (IntKind.u64.wrap (a0))))=some r:=h
 clear h
 by_cases c2:a0<0
 ·rw [if_pos c2] at H
  have c2b0:decide (a0<0)=true:=decide_eq_true c2
  clear c2
  obtain rfl:=Option.some.inj H
  go_enter Try.func142,Try.ntmps142
  go_wp2
  go_ret
  exact ⟨by first|rfl|(simp;done)|(simp [*];done),by repeat (first|exact Drawn0.refl _|apply Drawn0.step)⟩
 ·rw [if_neg c2] at H
  have c2b0:decide (a0<0)=false:=decide_eq_false c2
  clear c2
  obtain rfl:=Option.some.inj H
  go_enter Try.func142,Try.ntmps142
  go_wp2
  go_ret
  exact ⟨by first|rfl|(simp;done)|(simp [*];done),by repeat (first|exact Drawn0.refl _|apply Drawn0.step)⟩
def zaU.l0:Nat→Int→Int→Int→Int→Option (Int)
 | 0,_,_,_,_=>none
 | k+1,x0,x1,x5,x6=>if x6 > 0 then ((zbh.f (Go.bits .or .u64 x5 x6) (Go.bits .or .u64 x5 x6)).bind fun bt172=>(if bt172.1<x0 then (zaU.l0 k x0 x1 (Go.bits .or .u64 x5 x6) (x6 / 2)) else (if bt172.1=x0 then (if bt172.2≤x1 then (zaU.l0 k x0 x1 (Go.bits .or .u64 x5 x6) (x6 / 2)) else (zaU.l0 k x0 x1 x5 (x6 / 2))) else (zaU.l0 k x0 x1 x5 (x6 / 2))))) else (some (wrap64 (x5)))
def zaU.f (k:Nat) (a0:Int) (a1:Int):Option (Int):=zaU.l0 k a0 a1 0 4611686018427387904
theorem zaU.mono_l : ∀ k,(∀ y0 y1 y2 y3,LeO (zaU.l0 k y0 y1 y2 y3) (zaU.l0 (k+1) y0 y1 y2 y3))
 | 0=>fun _ _ _ _ r h=>by simp [zaU.l0] at h
 | k+1=>by
  have ih0:=zaU.mono_l k
  ·intro y0 y1 y2 y3
   unfold zaU.l0
   repeat' first
   | (with_reducible exact ih0 _ _ _ _)
   | (with_reducible exact LeO.refl _)
   | (with_reducible exact LeO.none _)
   | (with_reducible refine LeO.ite ?_ ?_)
   | (with_reducible refine LeO.bind ?_ (fun _=>?_))
   | exact ih0 _ _ _ _
   | exact LeO.none _
   | refine LeO.ite ?_ ?_
   | refine LeO.bind ?_ (fun _=>?_)
theorem zaU.mono : ∀ a0 a1 k,LeO (zaU.f k a0 a1) (zaU.f (k+1) a0 a1):=by
 intro a0 a1 k
 have ih0:=zaU.mono_l k
 unfold zaU.f
 repeat' first
  | (with_reducible exact ih0 _ _ _ _)
  | (with_reducible exact LeO.refl _)
  | (with_reducible exact LeO.none _)
  | (with_reducible refine LeO.ite ?_ ?_)
  | (with_reducible refine LeO.bind ?_ (fun _=>?_))
  | exact ih0 _ _ _ _
  | exact LeO.none _
  | refine LeO.ite ?_ ?_
  | refine LeO.bind ?_ (fun _=>?_)
set_option maxHeartbeats 8000000 in
set_option maxRecDepth 100000 in
theorem zaU.calls (k:Nat) (a0:Int) (a1:Int) (r:Int) (w:World) (h:zaU.f k a0 a1=some r) :
 Calls Try.prog 143 #[.int .u64 a0,.int .u64 a1] w fun e w'=>e = .returned (.int .i64 r)∧Drawn0 w w':=by
 have H:(zaU.l0 k a0 a1 0 4611686018427387904)=some r:=h
 clear h
 have H':=Aside0.mk H
 clear H
 go_enter Try.func143,Try.ntmps143
 go_wp2
 go_loopg [5,6] k (fun kq v5 v6 w'=>∃ (x5_1:Int) (x6_1:Int),v5 = .int .u64 x5_1∧v6 = .int .u64 x6_1∧Aside0 (zaU.l0 kq a0 a1 x5_1 x6_1=some r)∧Aside0 (kq≤k)∧Drawn0 w w')
 case atStart=>exact ⟨(0),(4611686018427387904),zF,zF,H',⟨Nat.le_refl _⟩,by repeat (first|exact Drawn0.refl _|apply Drawn0.step)⟩
 case round=>
  clear H'
  try clear c1
  try clear p2
  obtain ⟨x5_1,x6_1,rfl,rfl,HA,HK1,⟨m1,rfl⟩⟩:=hrel
  cases gk with
  | zero=>exact absurd HA.out (by simp [zaU.l0])
  | succ k1=>
   have H:=HA.out
   clear HA
   simp only [zaU.l0] at H
   by_cases c3:x6_1 > 0
   ·rw [if_pos c3] at H
    have c3b0:decide (0<x6_1)=true:=decide_eq_true c3
    clear c3
    replace H:=Option.bind_eq_some_iff.mp H
    obtain ⟨⟨t172,t173⟩,A40,H⟩:=H
    replace H:(if t172<a0 then (zaU.l0 k1 a0 a1 (Go.bits .or .u64 x5_1 x6_1) (x6_1 / 2)) else (if t172=a0 then (if t173≤a1 then (zaU.l0 k1 a0 a1 (Go.bits .or .u64 x5_1 x6_1) (x6_1 / 2)) else (zaU.l0 k1 a0 a1 x5_1 (x6_1 / 2))) else (zaU.l0 k1 a0 a1 x5_1 (x6_1 / 2))))=some r:=H
    have A4:=Aside0.mk A40
    clear A40
    by_cases c5:t172<a0
    ·rw [if_pos c5] at H
     have c5b0:decide (t172<a0)=true:=decide_eq_true c5
     clear c5
     have H':=Aside0.mk H
     clear H
     go_wp2_with (first|((with_reducible refine zal (f:=141) rfl ?_);refine goesL_ (some 20) rfl rfl Try.func141 (by kernel_rfl) rfl #[.int .u64 (Go.bits .or .u64 x5_1 x6_1),.int .u64 (Go.bits .or .u64 x5_1 x6_1)] rfl zA ?_;(with_reducible refine (zbh.calls (Go.bits .or .u64 x5_1 x6_1) (Go.bits .or .u64 x5_1 x6_1) t172 t173 _ A4.out).mono ?_);rintro e w' ⟨rfl,⟨nd,rfl⟩⟩;refine ⟨_,rfl,?_⟩))
     go_roundg k1
     case measure=>have:=HK1.out;omega
     case rel=>exact ⟨(Go.bits .or .u64 x5_1 x6_1),(x6_1 / 2),zF,zF,H',⟨by have:=HK1.out;omega⟩,by repeat (first|exact Drawn0.refl _|apply Drawn0.step)⟩
    ·rw [if_neg c5] at H
     have c5b0:decide (t172<a0)=false:=decide_eq_false c5
     clear c5
     by_cases c6:t172=a0
     ·rw [if_pos c6] at H
      have c6b0:(t172==a0)=true:=beq_iff_eq.mpr c6
      have c6b1:(t172 != a0)=false:=bne_eq_false_iff_eq.mpr c6
      clear c6
      by_cases c7:t173≤a1
      ·rw [if_pos c7] at H
       have c7b0:decide (t173≤a1)=true:=decide_eq_true c7
       clear c7
       have H':=Aside0.mk H
       clear H
       go_wp2_with (first|((with_reducible refine zal (f:=141) rfl ?_);refine goesL_ (some 20) rfl rfl Try.func141 (by kernel_rfl) rfl #[.int .u64 (Go.bits .or .u64 x5_1 x6_1),.int .u64 (Go.bits .or .u64 x5_1 x6_1)] rfl zA ?_;(with_reducible refine (zbh.calls (Go.bits .or .u64 x5_1 x6_1) (Go.bits .or .u64 x5_1 x6_1) t172 t173 _ A4.out).mono ?_);rintro e w' ⟨rfl,⟨nd,rfl⟩⟩;refine ⟨_,rfl,?_⟩))
       go_roundg k1
       case measure=>have:=HK1.out;omega
       case rel=>exact ⟨(Go.bits .or .u64 x5_1 x6_1),(x6_1 / 2),zF,zF,H',⟨by have:=HK1.out;omega⟩,by repeat (first|exact Drawn0.refl _|apply Drawn0.step)⟩
      ·rw [if_neg c7] at H
       have c7b0:decide (t173≤a1)=false:=decide_eq_false c7
       clear c7
       have H':=Aside0.mk H
       clear H
       go_wp2_with (first|((with_reducible refine zal (f:=141) rfl ?_);refine goesL_ (some 20) rfl rfl Try.func141 (by kernel_rfl) rfl #[.int .u64 (Go.bits .or .u64 x5_1 x6_1),.int .u64 (Go.bits .or .u64 x5_1 x6_1)] rfl zA ?_;(with_reducible refine (zbh.calls (Go.bits .or .u64 x5_1 x6_1) (Go.bits .or .u64 x5_1 x6_1) t172 t173 _ A4.out).mono ?_);rintro e w' ⟨rfl,⟨nd,rfl⟩⟩;refine ⟨_,rfl,?_⟩))
       go_roundg k1
       case measure=>have:=HK1.out;omega
       case rel=>exact ⟨(x5_1),(x6_1 / 2),zF,zF,H',⟨by have:=HK1.out;omega⟩,by repeat (first|exact Drawn0.refl _|apply Drawn0.step)⟩
     ·rw [if_neg c6] at H
      have c6b0:(t172==a0)=false:=beq_eq_false_iff_ne.mpr c6
      have c6b1:(t172 != a0)=true:=bne_iff_ne.mpr c6
      have H':=Aside0.mk H
      clear H
      go_wp2_with (first|((with_reducible refine zal (f:=141) rfl ?_);refine goesL_ (some 20) rfl rfl Try.func141 (by kernel_rfl) rfl #[.int .u64 (Go.bits .or .u64 x5_1 x6_1),.int .u64 (Go.bits .or .u64 x5_1 x6_1)] rfl zA ?_;(with_reducible refine (zbh.calls (Go.bits .or .u64 x5_1 x6_1) (Go.bits .or .u64 x5_1 x6_1) t172 t173 _ A4.out).mono ?_);rintro e w' ⟨rfl,⟨nd,rfl⟩⟩;refine ⟨_,rfl,?_⟩))
      go_roundg k1
      case measure=>have:=HK1.out;omega
      case rel=>exact ⟨(x5_1),(x6_1 / 2),zF,zF,H',⟨by have:=HK1.out;omega⟩,by repeat (first|exact Drawn0.refl _|apply Drawn0.step)⟩
   ·rw [if_neg c3] at H
    have c3b0:decide (0<x6_1)=false:=decide_eq_false c3
    clear c3
    obtain rfl:=Option.some.inj H
    go_wp2
    go_ret
    exact ⟨by first|rfl|(simp;done)|(simp [*];done),by repeat (first|exact Drawn0.refl _|apply Drawn0.step)⟩
def zbe.f (k:Nat) (a0:Int) (a1:Int):Option (Int):=(zbf.f a0).bind fun t174=>((zbf.f a0).bind fun t175=>((zbh.f t174 t175).bind fun bt176=>((zbf.f a1).bind fun t178=>((zbf.f a1).bind fun t179=>((zbh.f t178 t179).bind fun bt180=>(if (IntKind.u64.wrap (bt176.2+bt180.2))<bt176.2 then ((zaU.f k (IntKind.u64.wrap ((IntKind.u64.wrap (bt176.1+bt180.1))+1)) (IntKind.u64.wrap (bt176.2+bt180.2))).bind fun t182=>(some t182)) else ((zaU.f k (IntKind.u64.wrap (bt176.1+bt180.1)) (IntKind.u64.wrap (bt176.2+bt180.2))).bind fun t183=>(some t183))))))))
theorem zbe.mono : ∀ a0 a1 k,LeO (zbe.f k a0 a1) (zbe.f (k+1) a0 a1):=by
 intro a0 a1 k
 unfold zbe.f
 repeat' first
  | (with_reducible exact zaU.mono _ _ _)
  | (with_reducible exact LeO.refl _)
  | (with_reducible exact LeO.none _)
  | (with_reducible refine LeO.ite ?_ ?_)
  | (with_reducible refine LeO.bind ?_ (fun _=>?_))
  | exact zaU.mono _ _ _
  | exact LeO.none _
  | refine LeO.ite ?_ ?_
  | refine LeO.bind ?_ (fun _=>?_)
set_option maxHeartbeats 8000000 in
set_option maxRecDepth 100000 in
theorem zbe.calls (k:Nat) (a0:Int) (a1:Int) (r:Int) (w:World) (h:zbe.f k a0 a1=some r) :
 Calls Try.prog 111 #[.int .i64 a0,.int .i64 a1] w fun e w'=>e = .returned (.int .i64 r)∧Drawn0 w w':=by
 have H:((zbf.f a0).bind fun t174=>((zbf.f a0).bind fun t175=>((zbh.f t174 t175).bind fun bt176=>((zbf.f a1).bind fun t178=>((zbf.f a1).bind fun t179=>((zbh.f t178 t179).bind fun bt180=>(if (IntKind.u64.wrap (bt176.2+bt180.2))<bt176.2 then ((zaU.f k (IntKind.u64.wrap ((IntKind.u64.wrap (bt176.1+bt180.1))+1)) (IntKind.u64.wrap (bt176.2+bt180.2))).bind fun t182=>(some t182)) else ((zaU.f k (IntKind.u64.wrap (bt176.1+bt180.1)) (IntKind.u64.wrap (bt176.2+bt180.2))).bind fun t183=>(some t183)))))))))=some r:=h
 clear h
 replace H:=Option.bind_eq_some_iff.mp H
 obtain ⟨t174,A30,H⟩:=H
 replace H:((zbf.f a0).bind fun t175=>((zbh.f t174 t175).bind fun bt176=>((zbf.f a1).bind fun t178=>((zbf.f a1).bind fun t179=>((zbh.f t178 t179).bind fun bt180=>(if (IntKind.u64.wrap (bt176.2+bt180.2))<bt176.2 then ((zaU.f k (IntKind.u64.wrap ((IntKind.u64.wrap (bt176.1+bt180.1))+1)) (IntKind.u64.wrap (bt176.2+bt180.2))).bind fun t182=>(some t182)) else ((zaU.f k (IntKind.u64.wrap (bt176.1+bt180.1)) (IntKind.u64.wrap (bt176.2+bt180.2))).bind fun t183=>(some t183))))))))=some r:=H
 have A3:=Aside0.mk A30
 clear A30
 replace H:=Option.bind_eq_some_iff.mp H
 obtain ⟨t175,A40,H⟩:=H
 replace H:((zbh.f t174 t175).bind fun bt176=>((zbf.f a1).bind fun t178=>((zbf.f a1).bind fun t179=>((zbh.f t178 t179).bind fun bt180=>(if (IntKind.u64.wrap (bt176.2+bt180.2))<bt176.2 then ((zaU.f k (IntKind.u64.wrap ((IntKind.u64.wrap (bt176.1+bt180.1))+1)) (IntKind.u64.wrap (bt176.2+bt180.2))).bind fun t182=>(some t182)) else ((zaU.f k (IntKind.u64.wrap (bt176.1+bt180.1)) (IntKind.u64.wrap (bt176.2+bt180.2))).bind fun t183=>(some t183)))))))=some r:=H
 have A4:=Aside0.mk A40
 clear A40
 replace H:=Option.bind_eq_some_iff.mp H
 obtain ⟨⟨t176,t177⟩,A50,H⟩:=H
 replace H:((zbf.f a1).bind fun t178=>((zbf.f a1).bind fun t179=>((zbh.f t178 t179).bind fun bt180=>(if (IntKind.u64.wrap (t177+bt180.2))<t177 then ((zaU.f k (IntKind.u64.wrap ((IntKind.u64.wrap (t176+bt180.1))+1)) (IntKind.u64.wrap (t177+bt180.2))).bind fun t182=>(some t182)) else ((zaU.f k (IntKind.u64.wrap (t176+bt180.1)) (IntKind.u64.wrap (t177+bt180.2))).bind fun t183=>(some t183))))))=some r:=H
 have A5:=Aside0.mk A50
 clear A50
 replace H:=Option.bind_eq_some_iff.mp H
 obtain ⟨t178,A60,H⟩:=H
 replace H:((zbf.f a1).bind fun t179=>((zbh.f t178 t179).bind fun bt180=>(if (IntKind.u64.wrap (t177+bt180.2))<t177 then ((zaU.f k (IntKind.u64.wrap ((IntKind.u64.wrap (t176+bt180.1))+1)) (IntKind.u64.wrap (t177+bt180.2))).bind fun t182=>(some t182)) else ((zaU.f k (IntKind.u64.wrap (t176+bt180.1)) (IntKind.u64.wrap (t177+bt180.2))).bind fun t183=>(some t183)))))=some r:=H
 have A6:=Aside0.mk A60
 clear A60
 replace H:=Option.bind_eq_some_iff.mp H
 obtain ⟨t179,A70,H⟩:=H
 replace H:((zbh.f t178 t179).bind fun bt180=>(if (IntKind.u64.wrap (t177+bt180.2))<t177 then ((zaU.f k (IntKind.u64.wrap ((IntKind.u64.wrap (t176+bt180.1))+1)) (IntKind.u64.wrap (t177+bt180.2))).bind fun t182=>(some t182)) else ((zaU.f k (IntKind.u64.wrap (t176+bt180.1)) (IntKind.u64.wrap (t177+bt180.2))).bind fun t183=>(some t183))))=some r:=H
 have A7:=Aside0.mk A70
 clear A70
 replace H:=Option.bind_eq_some_iff.mp H
 obtain ⟨⟨t180,t181⟩,A80,H⟩:=H
 replace H:(if (IntKind.u64.wrap (t177+t181))<t177 then ((zaU.f k (IntKind.u64.wrap ((IntKind.u64.wrap (t176+t180))+1)) (IntKind.u64.wrap (t177+t181))).bind fun t182=>(some t182)) else ((zaU.f k (IntKind.u64.wrap (t176+t180)) (IntKind.u64.wrap (t177+t181))).bind fun t183=>(some t183)))=some r:=H
 have A8:=Aside0.mk A80
 clear A80
 by_cases c9:(IntKind.u64.wrap (t177+t181))<t177
 ·rw [if_pos c9] at H
  have c9b0:decide ((IntKind.u64.wrap (t177+t181))<t177)=true:=decide_eq_true c9
  clear c9
  replace H:=Option.bind_eq_some_iff.mp H
  obtain ⟨t182,A100,H⟩:=H
  replace H:(some t182)=some r:=H
  have A10:=Aside0.mk A100
  clear A100
  obtain rfl:=Option.some.inj H
  go_enter Try.func111,Try.ntmps111
  go_wp2_with (first|((with_reducible refine zal (f:=142) rfl ?_);refine goesL_ (some 13) rfl rfl Try.func142 (by kernel_rfl) rfl #[.int .i64 a0] rfl zA ?_;(with_reducible refine (zbf.calls a0 t174 _ A3.out).mono ?_);rintro e w' ⟨rfl,⟨nd,rfl⟩⟩;refine ⟨_,rfl,?_⟩)|((with_reducible refine zal (f:=142) rfl ?_);refine goesL_ (some 15) rfl rfl Try.func142 (by kernel_rfl) rfl #[.int .i64 a0] rfl zA ?_;(with_reducible refine (zbf.calls a0 t175 _ A4.out).mono ?_);rintro e w' ⟨rfl,⟨nd,rfl⟩⟩;refine ⟨_,rfl,?_⟩)|((with_reducible refine zal (f:=141) rfl ?_);refine goesL_ (some 16) rfl rfl Try.func141 (by kernel_rfl) rfl #[.int .u64 t174,.int .u64 t175] rfl zA ?_;(with_reducible refine (zbh.calls t174 t175 t176 t177 _ A5.out).mono ?_);rintro e w' ⟨rfl,⟨nd,rfl⟩⟩;refine ⟨_,rfl,?_⟩)|((with_reducible refine zal (f:=142) rfl ?_);refine goesL_ (some 21) rfl rfl Try.func142 (by kernel_rfl) rfl #[.int .i64 a1] rfl zA ?_;(with_reducible refine (zbf.calls a1 t178 _ A6.out).mono ?_);rintro e w' ⟨rfl,⟨nd,rfl⟩⟩;refine ⟨_,rfl,?_⟩)|((with_reducible refine zal (f:=142) rfl ?_);refine goesL_ (some 23) rfl rfl Try.func142 (by kernel_rfl) rfl #[.int .i64 a1] rfl zA ?_;(with_reducible refine (zbf.calls a1 t179 _ A7.out).mono ?_);rintro e w' ⟨rfl,⟨nd,rfl⟩⟩;refine ⟨_,rfl,?_⟩)|((with_reducible refine zal (f:=141) rfl ?_);refine goesL_ (some 24) rfl rfl Try.func141 (by kernel_rfl) rfl #[.int .u64 t178,.int .u64 t179] rfl zA ?_;(with_reducible refine (zbh.calls t178 t179 t180 t181 _ A8.out).mono ?_);rintro e w' ⟨rfl,⟨nd,rfl⟩⟩;refine ⟨_,rfl,?_⟩)|((with_reducible refine zal (f:=143) rfl ?_);refine goesL_ (some 40) rfl rfl Try.func143 (by kernel_rfl) rfl #[.int .u64 (IntKind.u64.wrap ((IntKind.u64.wrap (t176+t180))+1)),.int .u64 (IntKind.u64.wrap (t177+t181))] rfl zA ?_;(with_reducible refine (zaU.calls k (IntKind.u64.wrap ((IntKind.u64.wrap (t176+t180))+1)) (IntKind.u64.wrap (t177+t181)) t182 _ A10.out).mono ?_);rintro e w' ⟨rfl,⟨nd,rfl⟩⟩;refine ⟨_,rfl,?_⟩))
  go_ret
  exact ⟨by first|rfl|(simp;done)|(simp [*];done),by repeat (first|exact Drawn0.refl _|apply Drawn0.step)⟩
 ·rw [if_neg c9] at H
  have c9b0:decide ((IntKind.u64.wrap (t177+t181))<t177)=false:=decide_eq_false c9
  clear c9
  replace H:=Option.bind_eq_some_iff.mp H
  obtain ⟨t183,A110,H⟩:=H
  replace H:(some t183)=some r:=H
  have A11:=Aside0.mk A110
  clear A110
  obtain rfl:=Option.some.inj H
  go_enter Try.func111,Try.ntmps111
  go_wp2_with (first|((with_reducible refine zal (f:=142) rfl ?_);refine goesL_ (some 13) rfl rfl Try.func142 (by kernel_rfl) rfl #[.int .i64 a0] rfl zA ?_;(with_reducible refine (zbf.calls a0 t174 _ A3.out).mono ?_);rintro e w' ⟨rfl,⟨nd,rfl⟩⟩;refine ⟨_,rfl,?_⟩)|((with_reducible refine zal (f:=142) rfl ?_);refine goesL_ (some 15) rfl rfl Try.func142 (by kernel_rfl) rfl #[.int .i64 a0] rfl zA ?_;(with_reducible refine (zbf.calls a0 t175 _ A4.out).mono ?_);rintro e w' ⟨rfl,⟨nd,rfl⟩⟩;refine ⟨_,rfl,?_⟩)|((with_reducible refine zal (f:=141) rfl ?_);refine goesL_ (some 16) rfl rfl Try.func141 (by kernel_rfl) rfl #[.int .u64 t174,.int .u64 t175] rfl zA ?_;(with_reducible refine (zbh.calls t174 t175 t176 t177 _ A5.out).mono ?_);rintro e w' ⟨rfl,⟨nd,rfl⟩⟩;refine ⟨_,rfl,?_⟩)|((with_reducible refine zal (f:=142) rfl ?_);refine goesL_ (some 21) rfl rfl Try.func142 (by kernel_rfl) rfl #[.int .i64 a1] rfl zA ?_;(with_reducible refine (zbf.calls a1 t178 _ A6.out).mono ?_);rintro e w' ⟨rfl,⟨nd,rfl⟩⟩;refine ⟨_,rfl,?_⟩)|((with_reducible refine zal (f:=142) rfl ?_);refine goesL_ (some 23) rfl rfl Try.func142 (by kernel_rfl) rfl #[.int .i64 a1] rfl zA ?_;(with_reducible refine (zbf.calls a1 t179 _ A7.out).mono ?_);rintro e w' ⟨rfl,⟨nd,rfl⟩⟩;refine ⟨_,rfl,?_⟩)|((with_reducible refine zal (f:=141) rfl ?_);refine goesL_ (some 24) rfl rfl Try.func141 (by kernel_rfl) rfl #[.int .u64 t178,.int .u64 t179] rfl zA ?_;(with_reducible refine (zbh.calls t178 t179 t180 t181 _ A8.out).mono ?_);rintro e w' ⟨rfl,⟨nd,rfl⟩⟩;refine ⟨_,rfl,?_⟩)|((with_reducible refine zal (f:=143) rfl ?_);refine goesL_ (some 40) rfl rfl Try.func143 (by kernel_rfl) rfl #[.int .u64 (IntKind.u64.wrap (t176+t180)),.int .u64 (IntKind.u64.wrap (t177+t181))] rfl zA ?_;(with_reducible refine (zaU.calls k (IntKind.u64.wrap (t176+t180)) (IntKind.u64.wrap (t177+t181)) t183 _ A11.out).mono ?_);rintro e w' ⟨rfl,⟨nd,rfl⟩⟩;refine ⟨_,rfl,?_⟩))
  go_ret
  exact ⟨by first|rfl|(simp;done)|(simp [*];done),by repeat (first|exact Drawn0.refl _|apply Drawn0.step)⟩
def zaQ.f (k:Nat) (a0_0:Int) (a0_1:Int) (a0_2:Int) (a0_3:Int) (a0_4:Int) (a0_5:Int) (a0_6:Int) (a0_7:Int) (a0_8:Int) (a1:Int) (a2:Int):Option (Int):=if a0_2=0 then (some 0) else ((zaD.f k (wrap64 ((wrap64 (a0_8*(wrap64 (16*(wrap64 ((wrap64 ((wrap64 (16*a1))+8)) - a0_0))))))+(wrap64 (a0_7*(wrap64 (16*(wrap64 ((wrap64 ((wrap64 (16*a2))+8)) - a0_1)))))))) 65536).bind fun t185=>((zaD.f k (wrap64 ((wrap64 (a0_8*(wrap64 (16*(wrap64 ((wrap64 ((wrap64 (16*a2))+8)) - a0_1)))))) - (wrap64 (a0_7*(wrap64 (16*(wrap64 ((wrap64 ((wrap64 (16*a1))+8)) - a0_0)))))))) 65536).bind fun t186=>((zaD.f k (wrap64 (65535*(mx t186 (wrap64 (-t186))))) a0_6).bind fun t187=>((zbe.f k t185 t187).bind fun t188=>((zaD.f k (wrap64 (65535*t188)) (wrap64 (8*a0_2))).bind fun t189=>(if t189≤a0_5 then (some a0_3) else (if t189≥65535 then (some 0) else ((zaD.f k (wrap64 (a0_3*(wrap64 (65535 - t189)))) (wrap64 (65535 - a0_5))).bind fun t190=>(some t190)))))))))
theorem zaQ.mono : ∀ a0 a1 a2 a3 a4 a5 a6 a7 a8 a9 a10 k,LeO (zaQ.f k a0 a1 a2 a3 a4 a5 a6 a7 a8 a9 a10) (zaQ.f (k+1) a0 a1 a2 a3 a4 a5 a6 a7 a8 a9 a10):=by
 intro a0 a1 a2 a3 a4 a5 a6 a7 a8 a9 a10 k
 unfold zaQ.f
 repeat' first
  | (with_reducible exact zaD.mono _ _ _)
  | (with_reducible exact zbe.mono _ _ _)
  | (with_reducible exact LeO.refl _)
  | (with_reducible exact LeO.none _)
  | (with_reducible refine LeO.ite ?_ ?_)
  | (with_reducible refine LeO.bind ?_ (fun _=>?_))
  | exact zaD.mono _ _ _
  | exact zbe.mono _ _ _
  | exact LeO.none _
  | refine LeO.ite ?_ ?_
  | refine LeO.bind ?_ (fun _=>?_)
set_option maxHeartbeats 8000000 in
set_option maxRecDepth 100000 in
theorem zaQ.calls (k:Nat) (a0_0:Int) (a0_1:Int) (a0_2:Int) (a0_3:Int) (a0_4:Int) (a0_5:Int) (a0_6:Int) (a0_7:Int) (a0_8:Int) (a1:Int) (a2:Int) (r:Int) (w:World) (h:zaQ.f k a0_0 a0_1 a0_2 a0_3 a0_4 a0_5 a0_6 a0_7 a0_8 a1 a2=some r) :
 Calls Try.prog 62 #[.agg #[.int .i64 a0_0,.int .i64 a0_1,.int .i64 a0_2,.int .i64 a0_3,.int .i64 a0_4,.int .i64 a0_5,.int .i64 a0_6,.int .i64 a0_7,.int .i64 a0_8],.int .i64 a1,.int .i64 a2] w fun e w'=>e = .returned (.int .i64 r)∧Below w.heap.size w w':=by
 have hu88:=Try.underlying88
 have HB:=Aside0.mk (Below.refl w.heap.size w)
 have H:(if a0_2=0 then (some 0) else ((zaD.f k (wrap64 ((wrap64 (a0_8*(wrap64 (16*(wrap64 ((wrap64 ((wrap64 (16*a1))+8)) - a0_0))))))+(wrap64 (a0_7*(wrap64 (16*(wrap64 ((wrap64 ((wrap64 (16*a2))+8)) - a0_1)))))))) 65536).bind fun t185=>((zaD.f k (wrap64 ((wrap64 (a0_8*(wrap64 (16*(wrap64 ((wrap64 ((wrap64 (16*a2))+8)) - a0_1)))))) - (wrap64 (a0_7*(wrap64 (16*(wrap64 ((wrap64 ((wrap64 (16*a1))+8)) - a0_0)))))))) 65536).bind fun t186=>((zaD.f k (wrap64 (65535*(mx t186 (wrap64 (-t186))))) a0_6).bind fun t187=>((zbe.f k t185 t187).bind fun t188=>((zaD.f k (wrap64 (65535*t188)) (wrap64 (8*a0_2))).bind fun t189=>(if t189≤a0_5 then (some a0_3) else (if t189≥65535 then (some 0) else ((zaD.f k (wrap64 (a0_3*(wrap64 (65535 - t189)))) (wrap64 (65535 - a0_5))).bind fun t190=>(some t190))))))))))=some r:=h
 clear h
 by_cases c4:a0_2=0
 ·rw [if_pos c4] at H
  have c4b0:(a0_2==0)=true:=beq_iff_eq.mpr c4
  have c4b1:(a0_2 != 0)=false:=bne_eq_false_iff_eq.mpr c4
  clear c4
  obtain rfl:=Option.some.inj H
  go_enter Try.func62,Try.ntmps62
  go_wp2_with (first|((with_reducible refine zaA (N:=3) rfl ?_);refine zav ?hg (N:=3) ?hd (cs:=#[.int .i64 a0_0,.int .i64 a0_1,.int .i64 a0_2,.int .i64 a0_3,.int .i64 a0_4,.int .i64 a0_5,.int .i64 a0_6,.int .i64 a0_7,.int .i64 a0_8]) (t:=88) ?hr ?_;(case hd=>rfl);(case hg=>rfl);(case hr=>first|(go_simp;done)|(go_simp;rfl));intro gb184 hg w5 hbox hb;have n0_:=Aside0.mk (zad (zL HB.out) hb);have n1_:=Aside0.mk (hbox);have n2_:=Aside0.mk ((zS hg (zL HB.out):w.heap.size≤gb184));have n3_:=Aside0.mk ((zS hg (zL HB.out):w.heap.size≤gb184));clear HB;have HB:=n0_;have BK184:=n1_;have GW184:=n2_;have GE184:=n3_;clear n0_ n1_ n2_ n3_;clear hb hbox hg;obtain ⟨hcz6_0,hcz6_1,hcz6_2,hcz6_3,hcz6_4,hcz6_5,hcz6_6,hcz6_7,hcz6_8⟩:=zD9 BK184.out;obtain ⟨hfz6_0,hfz6_1,hfz6_2,hfz6_3,hfz6_4,hfz6_5,hfz6_6,hfz6_7,hfz6_8⟩:=zE9 BK184.out))
  repeat (go_quiet (first|((with_reducible refine zaA (N:=3) rfl ?_);refine zav ?hg (N:=3) ?hd (cs:=#[.int .i64 a0_0,.int .i64 a0_1,.int .i64 a0_2,.int .i64 a0_3,.int .i64 a0_4,.int .i64 a0_5,.int .i64 a0_6,.int .i64 a0_7,.int .i64 a0_8]) (t:=88) ?hr ?_;(case hd=>rfl);(case hg=>rfl);(case hr=>first|(go_simp;done)|(go_simp;rfl));intro gb184 hg w5 hbox hb;have n0_:=Aside0.mk (zad (zL HB.out) hb);have n1_:=Aside0.mk (hbox);have n2_:=Aside0.mk ((zS hg (zL HB.out):w.heap.size≤gb184));have n3_:=Aside0.mk ((zS hg (zL HB.out):w.heap.size≤gb184));clear HB;have HB:=n0_;have BK184:=n1_;have GW184:=n2_;have GE184:=n3_;clear n0_ n1_ n2_ n3_;clear hb hbox hg;obtain ⟨hcz6_0,hcz6_1,hcz6_2,hcz6_3,hcz6_4,hcz6_5,hcz6_6,hcz6_7,hcz6_8⟩:=zD9 BK184.out;obtain ⟨hfz6_0,hfz6_1,hfz6_2,hfz6_3,hfz6_4,hfz6_5,hfz6_6,hfz6_7,hfz6_8⟩:=zE9 BK184.out));try go_wp2_with (first|((with_reducible refine zaA (N:=3) rfl ?_);refine zav ?hg (N:=3) ?hd (cs:=#[.int .i64 a0_0,.int .i64 a0_1,.int .i64 a0_2,.int .i64 a0_3,.int .i64 a0_4,.int .i64 a0_5,.int .i64 a0_6,.int .i64 a0_7,.int .i64 a0_8]) (t:=88) ?hr ?_;(case hd=>rfl);(case hg=>rfl);(case hr=>first|(go_simp;done)|(go_simp;rfl));intro gb184 hg w5 hbox hb;have n0_:=Aside0.mk (zad (zL HB.out) hb);have n1_:=Aside0.mk (hbox);have n2_:=Aside0.mk ((zS hg (zL HB.out):w.heap.size≤gb184));have n3_:=Aside0.mk ((zS hg (zL HB.out):w.heap.size≤gb184));clear HB;have HB:=n0_;have BK184:=n1_;have GW184:=n2_;have GE184:=n3_;clear n0_ n1_ n2_ n3_;clear hb hbox hg;obtain ⟨hcz6_0,hcz6_1,hcz6_2,hcz6_3,hcz6_4,hcz6_5,hcz6_6,hcz6_7,hcz6_8⟩:=zD9 BK184.out;obtain ⟨hfz6_0,hfz6_1,hfz6_2,hfz6_3,hfz6_4,hfz6_5,hfz6_6,hfz6_7,hfz6_8⟩:=zE9 BK184.out)))
  go_ret
  exact ⟨by first|rfl|(simp [errW_none,errW_some] <;> rfl)|(simp [*,errW_none,errW_some] <;> rfl),by repeat (first|(with_reducible first|exact HB.out|apply zai|apply zaf|apply zag|refine zac ?_ GE184.out)|exact HB.out)⟩
 ·rw [if_neg c4] at H
  have c4b0:(a0_2==0)=false:=beq_eq_false_iff_ne.mpr c4
  have c4b1:(a0_2 != 0)=true:=bne_iff_ne.mpr c4
  replace H:=Option.bind_eq_some_iff.mp H
  obtain ⟨t185,A70,H⟩:=H
  replace H:((zaD.f k (wrap64 ((wrap64 (a0_8*(wrap64 (16*(wrap64 ((wrap64 ((wrap64 (16*a2))+8)) - a0_1)))))) - (wrap64 (a0_7*(wrap64 (16*(wrap64 ((wrap64 ((wrap64 (16*a1))+8)) - a0_0)))))))) 65536).bind fun t186=>((zaD.f k (wrap64 (65535*(mx t186 (wrap64 (-t186))))) a0_6).bind fun t187=>((zbe.f k t185 t187).bind fun t188=>((zaD.f k (wrap64 (65535*t188)) (wrap64 (8*a0_2))).bind fun t189=>(if t189≤a0_5 then (some a0_3) else (if t189≥65535 then (some 0) else ((zaD.f k (wrap64 (a0_3*(wrap64 (65535 - t189)))) (wrap64 (65535 - a0_5))).bind fun t190=>(some t190))))))))=some r:=H
  have A7:=Aside0.mk A70
  clear A70
  replace H:=Option.bind_eq_some_iff.mp H
  obtain ⟨t186,A80,H⟩:=H
  replace H:((zaD.f k (wrap64 (65535*(mx t186 (wrap64 (-t186))))) a0_6).bind fun t187=>((zbe.f k t185 t187).bind fun t188=>((zaD.f k (wrap64 (65535*t188)) (wrap64 (8*a0_2))).bind fun t189=>(if t189≤a0_5 then (some a0_3) else (if t189≥65535 then (some 0) else ((zaD.f k (wrap64 (a0_3*(wrap64 (65535 - t189)))) (wrap64 (65535 - a0_5))).bind fun t190=>(some t190)))))))=some r:=H
  have A8:=Aside0.mk A80
  clear A80
  obtain ⟨ji9,hji9⟩ : ∃ j_:Int,(mx t186 (wrap64 (-t186)))=j_:=⟨_,rfl⟩
  replace H:((zaD.f k (wrap64 (65535*(ji9))) a0_6).bind fun t187=>((zbe.f k t185 t187).bind fun t188=>((zaD.f k (wrap64 (65535*t188)) (wrap64 (8*a0_2))).bind fun t189=>(if t189≤a0_5 then (some a0_3) else (if t189≥65535 then (some 0) else ((zaD.f k (wrap64 (a0_3*(wrap64 (65535 - t189)))) (wrap64 (65535 - a0_5))).bind fun t190=>(some t190)))))))=some r:=by first|(rw [hji9] at H;exact H)|(simp only [hji9] at H ⊢;exact H)
  (try rw [hji9] at A7)
  (try rw [hji9] at A8)
  have hji9_:(if t186<(wrap64 (-t186)) then (wrap64 (-t186)) else t186)=ji9:=hji9
  replace H:=Option.bind_eq_some_iff.mp H
  obtain ⟨t187,A100,H⟩:=H
  replace H:((zbe.f k t185 t187).bind fun t188=>((zaD.f k (wrap64 (65535*t188)) (wrap64 (8*a0_2))).bind fun t189=>(if t189≤a0_5 then (some a0_3) else (if t189≥65535 then (some 0) else ((zaD.f k (wrap64 (a0_3*(wrap64 (65535 - t189)))) (wrap64 (65535 - a0_5))).bind fun t190=>(some t190))))))=some r:=H
  have A10:=Aside0.mk A100
  clear A100
  replace H:=Option.bind_eq_some_iff.mp H
  obtain ⟨t188,A110,H⟩:=H
  replace H:((zaD.f k (wrap64 (65535*t188)) (wrap64 (8*a0_2))).bind fun t189=>(if t189≤a0_5 then (some a0_3) else (if t189≥65535 then (some 0) else ((zaD.f k (wrap64 (a0_3*(wrap64 (65535 - t189)))) (wrap64 (65535 - a0_5))).bind fun t190=>(some t190)))))=some r:=H
  have A11:=Aside0.mk A110
  clear A110
  replace H:=Option.bind_eq_some_iff.mp H
  obtain ⟨t189,A120,H⟩:=H
  replace H:(if t189≤a0_5 then (some a0_3) else (if t189≥65535 then (some 0) else ((zaD.f k (wrap64 (a0_3*(wrap64 (65535 - t189)))) (wrap64 (65535 - a0_5))).bind fun t190=>(some t190))))=some r:=H
  have A12:=Aside0.mk A120
  clear A120
  by_cases c13:t189≤a0_5
  ·rw [if_pos c13] at H
   have c13b0:decide (t189≤a0_5)=true:=decide_eq_true c13
   clear c13
   obtain rfl:=Option.some.inj H
   go_enter Try.func62,Try.ntmps62
   go_wp2_with (first|((with_reducible refine zaA (N:=3) rfl ?_);refine zav ?hg (N:=3) ?hd (cs:=#[.int .i64 a0_0,.int .i64 a0_1,.int .i64 a0_2,.int .i64 a0_3,.int .i64 a0_4,.int .i64 a0_5,.int .i64 a0_6,.int .i64 a0_7,.int .i64 a0_8]) (t:=88) ?hr ?_;(case hd=>rfl);(case hg=>rfl);(case hr=>first|(go_simp;done)|(go_simp;rfl));intro gb184 hg w14 hbox hb;have n0_:=Aside0.mk (zad (zL HB.out) hb);have n1_:=Aside0.mk (hbox);have n2_:=Aside0.mk ((zS hg (zL HB.out):w.heap.size≤gb184));have n3_:=Aside0.mk ((zS hg (zL HB.out):w.heap.size≤gb184));clear HB;have HB:=n0_;have BK184:=n1_;have GW184:=n2_;have GE184:=n3_;clear n0_ n1_ n2_ n3_;clear hb hbox hg;obtain ⟨hcz15_0,hcz15_1,hcz15_2,hcz15_3,hcz15_4,hcz15_5,hcz15_6,hcz15_7,hcz15_8⟩:=zD9 BK184.out;obtain ⟨hfz15_0,hfz15_1,hfz15_2,hfz15_3,hfz15_4,hfz15_5,hfz15_6,hfz15_7,hfz15_8⟩:=zE9 BK184.out)|(go_at_call 110;(with_reducible refine (zaD.calls k (wrap64 ((wrap64 (a0_8*(wrap64 (16*(wrap64 ((wrap64 ((wrap64 (16*a1))+8)) - a0_0))))))+(wrap64 (a0_7*(wrap64 (16*(wrap64 ((wrap64 ((wrap64 (16*a2))+8)) - a0_1)))))))) 65536 t185 _ A7.out).mono ?_);rintro e w' ⟨rfl,⟨nd,rfl⟩⟩;(try first|exact ⟨rfl,_,World.drewN_drewN _ _ _⟩|exact ⟨rfl,_,Eq.trans (World.drewN_drewN _ _ _) (congrArg (World.drewN _) (Nat.add_assoc _ _ _))⟩))|(go_at_call 110;(with_reducible refine (zaD.calls k (wrap64 ((wrap64 (a0_8*(wrap64 (16*(wrap64 ((wrap64 ((wrap64 (16*a2))+8)) - a0_1)))))) - (wrap64 (a0_7*(wrap64 (16*(wrap64 ((wrap64 ((wrap64 (16*a1))+8)) - a0_0)))))))) 65536 t186 _ A8.out).mono ?_);rintro e w' ⟨rfl,⟨nd,rfl⟩⟩;(try first|exact ⟨rfl,_,World.drewN_drewN _ _ _⟩|exact ⟨rfl,_,Eq.trans (World.drewN_drewN _ _ _) (congrArg (World.drewN _) (Nat.add_assoc _ _ _))⟩))|(go_at_call 110;(with_reducible refine (zaD.calls k (wrap64 (65535*(ji9))) a0_6 t187 _ A10.out).mono ?_);rintro e w' ⟨rfl,⟨nd,rfl⟩⟩;(try first|exact ⟨rfl,_,World.drewN_drewN _ _ _⟩|exact ⟨rfl,_,Eq.trans (World.drewN_drewN _ _ _) (congrArg (World.drewN _) (Nat.add_assoc _ _ _))⟩))|(go_at_call 111;(with_reducible refine (zbe.calls k t185 t187 t188 _ A11.out).mono ?_);rintro e w' ⟨rfl,⟨nd,rfl⟩⟩;(try first|exact ⟨rfl,_,World.drewN_drewN _ _ _⟩|exact ⟨rfl,_,Eq.trans (World.drewN_drewN _ _ _) (congrArg (World.drewN _) (Nat.add_assoc _ _ _))⟩))|(go_at_call 110;(with_reducible refine (zaD.calls k (wrap64 (65535*t188)) (wrap64 (8*a0_2)) t189 _ A12.out).mono ?_);rintro e w' ⟨rfl,⟨nd,rfl⟩⟩;(try first|exact ⟨rfl,_,World.drewN_drewN _ _ _⟩|exact ⟨rfl,_,Eq.trans (World.drewN_drewN _ _ _) (congrArg (World.drewN _) (Nat.add_assoc _ _ _))⟩)))
   repeat (go_quiet (first|((with_reducible refine zaA (N:=3) rfl ?_);refine zav ?hg (N:=3) ?hd (cs:=#[.int .i64 a0_0,.int .i64 a0_1,.int .i64 a0_2,.int .i64 a0_3,.int .i64 a0_4,.int .i64 a0_5,.int .i64 a0_6,.int .i64 a0_7,.int .i64 a0_8]) (t:=88) ?hr ?_;(case hd=>rfl);(case hg=>rfl);(case hr=>first|(go_simp;done)|(go_simp;rfl));intro gb184 hg w14 hbox hb;have n0_:=Aside0.mk (zad (zL HB.out) hb);have n1_:=Aside0.mk (hbox);have n2_:=Aside0.mk ((zS hg (zL HB.out):w.heap.size≤gb184));have n3_:=Aside0.mk ((zS hg (zL HB.out):w.heap.size≤gb184));clear HB;have HB:=n0_;have BK184:=n1_;have GW184:=n2_;have GE184:=n3_;clear n0_ n1_ n2_ n3_;clear hb hbox hg;obtain ⟨hcz15_0,hcz15_1,hcz15_2,hcz15_3,hcz15_4,hcz15_5,hcz15_6,hcz15_7,hcz15_8⟩:=zD9 BK184.out;obtain ⟨hfz15_0,hfz15_1,hfz15_2,hfz15_3,hfz15_4,hfz15_5,hfz15_6,hfz15_7,hfz15_8⟩:=zE9 BK184.out)|(go_at_call 110;(with_reducible refine (zaD.calls k (wrap64 ((wrap64 (a0_8*(wrap64 (16*(wrap64 ((wrap64 ((wrap64 (16*a1))+8)) - a0_0))))))+(wrap64 (a0_7*(wrap64 (16*(wrap64 ((wrap64 ((wrap64 (16*a2))+8)) - a0_1)))))))) 65536 t185 _ A7.out).mono ?_);rintro e w' ⟨rfl,⟨nd,rfl⟩⟩;(try first|exact ⟨rfl,_,World.drewN_drewN _ _ _⟩|exact ⟨rfl,_,Eq.trans (World.drewN_drewN _ _ _) (congrArg (World.drewN _) (Nat.add_assoc _ _ _))⟩))|(go_at_call 110;(with_reducible refine (zaD.calls k (wrap64 ((wrap64 (a0_8*(wrap64 (16*(wrap64 ((wrap64 ((wrap64 (16*a2))+8)) - a0_1)))))) - (wrap64 (a0_7*(wrap64 (16*(wrap64 ((wrap64 ((wrap64 (16*a1))+8)) - a0_0)))))))) 65536 t186 _ A8.out).mono ?_);rintro e w' ⟨rfl,⟨nd,rfl⟩⟩;(try first|exact ⟨rfl,_,World.drewN_drewN _ _ _⟩|exact ⟨rfl,_,Eq.trans (World.drewN_drewN _ _ _) (congrArg (World.drewN _) (Nat.add_assoc _ _ _))⟩))|(go_at_call 110;(with_reducible refine (zaD.calls k (wrap64 (65535*(ji9))) a0_6 t187 _ A10.out).mono ?_);rintro e w' ⟨rfl,⟨nd,rfl⟩⟩;(try first|exact ⟨rfl,_,World.drewN_drewN _ _ _⟩|exact ⟨rfl,_,Eq.trans (World.drewN_drewN _ _ _) (congrArg (World.drewN _) (Nat.add_assoc _ _ _))⟩))|(go_at_call 111;(with_reducible refine (zbe.calls k t185 t187 t188 _ A11.out).mono ?_);rintro e w' ⟨rfl,⟨nd,rfl⟩⟩;(try first|exact ⟨rfl,_,World.drewN_drewN _ _ _⟩|exact ⟨rfl,_,Eq.trans (World.drewN_drewN _ _ _) (congrArg (World.drewN _) (Nat.add_assoc _ _ _))⟩))|(go_at_call 110;(with_reducible refine (zaD.calls k (wrap64 (65535*t188)) (wrap64 (8*a0_2)) t189 _ A12.out).mono ?_);rintro e w' ⟨rfl,⟨nd,rfl⟩⟩;(try first|exact ⟨rfl,_,World.drewN_drewN _ _ _⟩|exact ⟨rfl,_,Eq.trans (World.drewN_drewN _ _ _) (congrArg (World.drewN _) (Nat.add_assoc _ _ _))⟩)));try go_wp2_with (first|((with_reducible refine zaA (N:=3) rfl ?_);refine zav ?hg (N:=3) ?hd (cs:=#[.int .i64 a0_0,.int .i64 a0_1,.int .i64 a0_2,.int .i64 a0_3,.int .i64 a0_4,.int .i64 a0_5,.int .i64 a0_6,.int .i64 a0_7,.int .i64 a0_8]) (t:=88) ?hr ?_;(case hd=>rfl);(case hg=>rfl);(case hr=>first|(go_simp;done)|(go_simp;rfl));intro gb184 hg w14 hbox hb;have n0_:=Aside0.mk (zad (zL HB.out) hb);have n1_:=Aside0.mk (hbox);have n2_:=Aside0.mk ((zS hg (zL HB.out):w.heap.size≤gb184));have n3_:=Aside0.mk ((zS hg (zL HB.out):w.heap.size≤gb184));clear HB;have HB:=n0_;have BK184:=n1_;have GW184:=n2_;have GE184:=n3_;clear n0_ n1_ n2_ n3_;clear hb hbox hg;obtain ⟨hcz15_0,hcz15_1,hcz15_2,hcz15_3,hcz15_4,hcz15_5,hcz15_6,hcz15_7,hcz15_8⟩:=zD9 BK184.out;obtain ⟨hfz15_0,hfz15_1,hfz15_2,hfz15_3,hfz15_4,hfz15_5,hfz15_6,hfz15_7,hfz15_8⟩:=zE9 BK184.out)|(go_at_call 110;(with_reducible refine (zaD.calls k (wrap64 ((wrap64 (a0_8*(wrap64 (16*(wrap64 ((wrap64 ((wrap64 (16*a1))+8)) - a0_0))))))+(wrap64 (a0_7*(wrap64 (16*(wrap64 ((wrap64 ((wrap64 (16*a2))+8)) - a0_1)))))))) 65536 t185 _ A7.out).mono ?_);rintro e w' ⟨rfl,⟨nd,rfl⟩⟩;(try first|exact ⟨rfl,_,World.drewN_drewN _ _ _⟩|exact ⟨rfl,_,Eq.trans (World.drewN_drewN _ _ _) (congrArg (World.drewN _) (Nat.add_assoc _ _ _))⟩))|(go_at_call 110;(with_reducible refine (zaD.calls k (wrap64 ((wrap64 (a0_8*(wrap64 (16*(wrap64 ((wrap64 ((wrap64 (16*a2))+8)) - a0_1)))))) - (wrap64 (a0_7*(wrap64 (16*(wrap64 ((wrap64 ((wrap64 (16*a1))+8)) - a0_0)))))))) 65536 t186 _ A8.out).mono ?_);rintro e w' ⟨rfl,⟨nd,rfl⟩⟩;(try first|exact ⟨rfl,_,World.drewN_drewN _ _ _⟩|exact ⟨rfl,_,Eq.trans (World.drewN_drewN _ _ _) (congrArg (World.drewN _) (Nat.add_assoc _ _ _))⟩))|(go_at_call 110;(with_reducible refine (zaD.calls k (wrap64 (65535*(ji9))) a0_6 t187 _ A10.out).mono ?_);rintro e w' ⟨rfl,⟨nd,rfl⟩⟩;(try first|exact ⟨rfl,_,World.drewN_drewN _ _ _⟩|exact ⟨rfl,_,Eq.trans (World.drewN_drewN _ _ _) (congrArg (World.drewN _) (Nat.add_assoc _ _ _))⟩))|(go_at_call 111;(with_reducible refine (zbe.calls k t185 t187 t188 _ A11.out).mono ?_);rintro e w' ⟨rfl,⟨nd,rfl⟩⟩;(try first|exact ⟨rfl,_,World.drewN_drewN _ _ _⟩|exact ⟨rfl,_,Eq.trans (World.drewN_drewN _ _ _) (congrArg (World.drewN _) (Nat.add_assoc _ _ _))⟩))|(go_at_call 110;(with_reducible refine (zaD.calls k (wrap64 (65535*t188)) (wrap64 (8*a0_2)) t189 _ A12.out).mono ?_);rintro e w' ⟨rfl,⟨nd,rfl⟩⟩;(try first|exact ⟨rfl,_,World.drewN_drewN _ _ _⟩|exact ⟨rfl,_,Eq.trans (World.drewN_drewN _ _ _) (congrArg (World.drewN _) (Nat.add_assoc _ _ _))⟩))))
   go_ret
   exact ⟨by first|rfl|(simp [errW_none,errW_some] <;> rfl)|(simp only [← hji9];first|rfl|(simp [errW_none,errW_some] <;> rfl))|(simp [*,errW_none,errW_some] <;> rfl),by repeat (first|(with_reducible first|exact HB.out|apply zai|apply zaf|apply zag|refine zac ?_ GE184.out)|exact HB.out)⟩
  ·rw [if_neg c13] at H
   have c13b0:decide (t189≤a0_5)=false:=decide_eq_false c13
   clear c13
   by_cases c16:t189≥65535
   ·rw [if_pos c16] at H
    have c16b0:decide (65535≤t189)=true:=decide_eq_true c16
    clear c16
    obtain rfl:=Option.some.inj H
    go_enter Try.func62,Try.ntmps62
    go_wp2_with (first|((with_reducible refine zaA (N:=3) rfl ?_);refine zav ?hg (N:=3) ?hd (cs:=#[.int .i64 a0_0,.int .i64 a0_1,.int .i64 a0_2,.int .i64 a0_3,.int .i64 a0_4,.int .i64 a0_5,.int .i64 a0_6,.int .i64 a0_7,.int .i64 a0_8]) (t:=88) ?hr ?_;(case hd=>rfl);(case hg=>rfl);(case hr=>first|(go_simp;done)|(go_simp;rfl));intro gb184 hg w17 hbox hb;have n0_:=Aside0.mk (zad (zL HB.out) hb);have n1_:=Aside0.mk (hbox);have n2_:=Aside0.mk ((zS hg (zL HB.out):w.heap.size≤gb184));have n3_:=Aside0.mk ((zS hg (zL HB.out):w.heap.size≤gb184));clear HB;have HB:=n0_;have BK184:=n1_;have GW184:=n2_;have GE184:=n3_;clear n0_ n1_ n2_ n3_;clear hb hbox hg;obtain ⟨hcz18_0,hcz18_1,hcz18_2,hcz18_3,hcz18_4,hcz18_5,hcz18_6,hcz18_7,hcz18_8⟩:=zD9 BK184.out;obtain ⟨hfz18_0,hfz18_1,hfz18_2,hfz18_3,hfz18_4,hfz18_5,hfz18_6,hfz18_7,hfz18_8⟩:=zE9 BK184.out)|(go_at_call 110;(with_reducible refine (zaD.calls k (wrap64 ((wrap64 (a0_8*(wrap64 (16*(wrap64 ((wrap64 ((wrap64 (16*a1))+8)) - a0_0))))))+(wrap64 (a0_7*(wrap64 (16*(wrap64 ((wrap64 ((wrap64 (16*a2))+8)) - a0_1)))))))) 65536 t185 _ A7.out).mono ?_);rintro e w' ⟨rfl,⟨nd,rfl⟩⟩;(try first|exact ⟨rfl,_,World.drewN_drewN _ _ _⟩|exact ⟨rfl,_,Eq.trans (World.drewN_drewN _ _ _) (congrArg (World.drewN _) (Nat.add_assoc _ _ _))⟩))|(go_at_call 110;(with_reducible refine (zaD.calls k (wrap64 ((wrap64 (a0_8*(wrap64 (16*(wrap64 ((wrap64 ((wrap64 (16*a2))+8)) - a0_1)))))) - (wrap64 (a0_7*(wrap64 (16*(wrap64 ((wrap64 ((wrap64 (16*a1))+8)) - a0_0)))))))) 65536 t186 _ A8.out).mono ?_);rintro e w' ⟨rfl,⟨nd,rfl⟩⟩;(try first|exact ⟨rfl,_,World.drewN_drewN _ _ _⟩|exact ⟨rfl,_,Eq.trans (World.drewN_drewN _ _ _) (congrArg (World.drewN _) (Nat.add_assoc _ _ _))⟩))|(go_at_call 110;(with_reducible refine (zaD.calls k (wrap64 (65535*(ji9))) a0_6 t187 _ A10.out).mono ?_);rintro e w' ⟨rfl,⟨nd,rfl⟩⟩;(try first|exact ⟨rfl,_,World.drewN_drewN _ _ _⟩|exact ⟨rfl,_,Eq.trans (World.drewN_drewN _ _ _) (congrArg (World.drewN _) (Nat.add_assoc _ _ _))⟩))|(go_at_call 111;(with_reducible refine (zbe.calls k t185 t187 t188 _ A11.out).mono ?_);rintro e w' ⟨rfl,⟨nd,rfl⟩⟩;(try first|exact ⟨rfl,_,World.drewN_drewN _ _ _⟩|exact ⟨rfl,_,Eq.trans (World.drewN_drewN _ _ _) (congrArg (World.drewN _) (Nat.add_assoc _ _ _))⟩))|(go_at_call 110;(with_reducible refine (zaD.calls k (wrap64 (65535*t188)) (wrap64 (8*a0_2)) t189 _ A12.out).mono ?_);rintro e w' ⟨rfl,⟨nd,rfl⟩⟩;(try first|exact ⟨rfl,_,World.drewN_drewN _ _ _⟩|exact ⟨rfl,_,Eq.trans (World.drewN_drewN _ _ _) (congrArg (World.drewN _) (Nat.add_assoc _ _ _))⟩)))
    repeat (go_quiet (first|((with_reducible refine zaA (N:=3) rfl ?_);refine zav ?hg (N:=3) ?hd (cs:=#[.int .i64 a0_0,.int .i64 a0_1,.int .i64 a0_2,.int .i64 a0_3,.int .i64 a0_4,.int .i64 a0_5,.int .i64 a0_6,.int .i64 a0_7,.int .i64 a0_8]) (t:=88) ?hr ?_;(case hd=>rfl);(case hg=>rfl);(case hr=>first|(go_simp;done)|(go_simp;rfl));intro gb184 hg w17 hbox hb;have n0_:=Aside0.mk (zad (zL HB.out) hb);have n1_:=Aside0.mk (hbox);have n2_:=Aside0.mk ((zS hg (zL HB.out):w.heap.size≤gb184));have n3_:=Aside0.mk ((zS hg (zL HB.out):w.heap.size≤gb184));clear HB;have HB:=n0_;have BK184:=n1_;have GW184:=n2_;have GE184:=n3_;clear n0_ n1_ n2_ n3_;clear hb hbox hg;obtain ⟨hcz18_0,hcz18_1,hcz18_2,hcz18_3,hcz18_4,hcz18_5,hcz18_6,hcz18_7,hcz18_8⟩:=zD9 BK184.out;obtain ⟨hfz18_0,hfz18_1,hfz18_2,hfz18_3,hfz18_4,hfz18_5,hfz18_6,hfz18_7,hfz18_8⟩:=zE9 BK184.out)|(go_at_call 110;(with_reducible refine (zaD.calls k (wrap64 ((wrap64 (a0_8*(wrap64 (16*(wrap64 ((wrap64 ((wrap64 (16*a1))+8)) - a0_0))))))+(wrap64 (a0_7*(wrap64 (16*(wrap64 ((wrap64 ((wrap64 (16*a2))+8)) - a0_1)))))))) 65536 t185 _ A7.out).mono ?_);rintro e w' ⟨rfl,⟨nd,rfl⟩⟩;(try first|exact ⟨rfl,_,World.drewN_drewN _ _ _⟩|exact ⟨rfl,_,Eq.trans (World.drewN_drewN _ _ _) (congrArg (World.drewN _) (Nat.add_assoc _ _ _))⟩))|(go_at_call 110;(with_reducible refine (zaD.calls k (wrap64 ((wrap64 (a0_8*(wrap64 (16*(wrap64 ((wrap64 ((wrap64 (16*a2))+8)) - a0_1)))))) - (wrap64 (a0_7*(wrap64 (16*(wrap64 ((wrap64 ((wrap64 (16*a1))+8)) - a0_0)))))))) 65536 t186 _ A8.out).mono ?_);rintro e w' ⟨rfl,⟨nd,rfl⟩⟩;(try first|exact ⟨rfl,_,World.drewN_drewN _ _ _⟩|exact ⟨rfl,_,Eq.trans (World.drewN_drewN _ _ _) (congrArg (World.drewN _) (Nat.add_assoc _ _ _))⟩))|(go_at_call 110;(with_reducible refine (zaD.calls k (wrap64 (65535*(ji9))) a0_6 t187 _ A10.out).mono ?_);rintro e w' ⟨rfl,⟨nd,rfl⟩⟩;(try first|exact ⟨rfl,_,World.drewN_drewN _ _ _⟩|exact ⟨rfl,_,Eq.trans (World.drewN_drewN _ _ _) (congrArg (World.drewN _) (Nat.add_assoc _ _ _))⟩))|(go_at_call 111;(with_reducible refine (zbe.calls k t185 t187 t188 _ A11.out).mono ?_);rintro e w' ⟨rfl,⟨nd,rfl⟩⟩;(try first|exact ⟨rfl,_,World.drewN_drewN _ _ _⟩|exact ⟨rfl,_,Eq.trans (World.drewN_drewN _ _ _) (congrArg (World.drewN _) (Nat.add_assoc _ _ _))⟩))|(go_at_call 110;(with_reducible refine (zaD.calls k (wrap64 (65535*t188)) (wrap64 (8*a0_2)) t189 _ A12.out).mono ?_);rintro e w' ⟨rfl,⟨nd,rfl⟩⟩;(try first|exact ⟨rfl,_,World.drewN_drewN _ _ _⟩|exact ⟨rfl,_,Eq.trans (World.drewN_drewN _ _ _) (congrArg (World.drewN _) (Nat.add_assoc _ _ _))⟩)));try go_wp2_with (first|((with_reducible refine zaA (N:=3) rfl ?_);refine zav ?hg (N:=3) ?hd (cs:=#[.int .i64 a0_0,.int .i64 a0_1,.int .i64 a0_2,.int .i64 a0_3,.int .i64 a0_4,.int .i64 a0_5,.int .i64 a0_6,.int .i64 a0_7,.int .i64 a0_8]) (t:=88) ?hr ?_;(case hd=>rfl);(case hg=>rfl);(case hr=>first|(go_simp;done)|(go_simp;rfl));intro gb184 hg w17 hbox hb;have n0_:=Aside0.mk (zad (zL HB.out) hb);have n1_:=Aside0.mk (hbox);have n2_:=Aside0.mk ((zS hg (zL HB.out):w.heap.size≤gb184));have n3_:=Aside0.mk ((zS hg (zL HB.out):w.heap.size≤gb184));clear HB;have HB:=n0_;have BK184:=n1_;have GW184:=n2_;have GE184:=n3_;clear n0_ n1_ n2_ n3_;clear hb hbox hg;obtain ⟨hcz18_0,hcz18_1,hcz18_2,hcz18_3,hcz18_4,hcz18_5,hcz18_6,hcz18_7,hcz18_8⟩:=zD9 BK184.out;obtain ⟨hfz18_0,hfz18_1,hfz18_2,hfz18_3,hfz18_4,hfz18_5,hfz18_6,hfz18_7,hfz18_8⟩:=zE9 BK184.out)|(go_at_call 110;(with_reducible refine (zaD.calls k (wrap64 ((wrap64 (a0_8*(wrap64 (16*(wrap64 ((wrap64 ((wrap64 (16*a1))+8)) - a0_0))))))+(wrap64 (a0_7*(wrap64 (16*(wrap64 ((wrap64 ((wrap64 (16*a2))+8)) - a0_1)))))))) 65536 t185 _ A7.out).mono ?_);rintro e w' ⟨rfl,⟨nd,rfl⟩⟩;(try first|exact ⟨rfl,_,World.drewN_drewN _ _ _⟩|exact ⟨rfl,_,Eq.trans (World.drewN_drewN _ _ _) (congrArg (World.drewN _) (Nat.add_assoc _ _ _))⟩))|(go_at_call 110;(with_reducible refine (zaD.calls k (wrap64 ((wrap64 (a0_8*(wrap64 (16*(wrap64 ((wrap64 ((wrap64 (16*a2))+8)) - a0_1)))))) - (wrap64 (a0_7*(wrap64 (16*(wrap64 ((wrap64 ((wrap64 (16*a1))+8)) - a0_0)))))))) 65536 t186 _ A8.out).mono ?_);rintro e w' ⟨rfl,⟨nd,rfl⟩⟩;(try first|exact ⟨rfl,_,World.drewN_drewN _ _ _⟩|exact ⟨rfl,_,Eq.trans (World.drewN_drewN _ _ _) (congrArg (World.drewN _) (Nat.add_assoc _ _ _))⟩))|(go_at_call 110;(with_reducible refine (zaD.calls k (wrap64 (65535*(ji9))) a0_6 t187 _ A10.out).mono ?_);rintro e w' ⟨rfl,⟨nd,rfl⟩⟩;(try first|exact ⟨rfl,_,World.drewN_drewN _ _ _⟩|exact ⟨rfl,_,Eq.trans (World.drewN_drewN _ _ _) (congrArg (World.drewN _) (Nat.add_assoc _ _ _))⟩))|(go_at_call 111;(with_reducible refine (zbe.calls k t185 t187 t188 _ A11.out).mono ?_);rintro e w' ⟨rfl,⟨nd,rfl⟩⟩;(try first|exact ⟨rfl,_,World.drewN_drewN _ _ _⟩|exact ⟨rfl,_,Eq.trans (World.drewN_drewN _ _ _) (congrArg (World.drewN _) (Nat.add_assoc _ _ _))⟩))|(go_at_call 110;(with_reducible refine (zaD.calls k (wrap64 (65535*t188)) (wrap64 (8*a0_2)) t189 _ A12.out).mono ?_);rintro e w' ⟨rfl,⟨nd,rfl⟩⟩;(try first|exact ⟨rfl,_,World.drewN_drewN _ _ _⟩|exact ⟨rfl,_,Eq.trans (World.drewN_drewN _ _ _) (congrArg (World.drewN _) (Nat.add_assoc _ _ _))⟩))))
    go_ret
    exact ⟨by first|rfl|(simp [errW_none,errW_some] <;> rfl)|(simp only [← hji9];first|rfl|(simp [errW_none,errW_some] <;> rfl))|(simp [*,errW_none,errW_some] <;> rfl),by repeat (first|(with_reducible first|exact HB.out|apply zai|apply zaf|apply zag|refine zac ?_ GE184.out)|exact HB.out)⟩
   ·rw [if_neg c16] at H
    have c16b0:decide (65535≤t189)=false:=decide_eq_false c16
    clear c16
    replace H:=Option.bind_eq_some_iff.mp H
    obtain ⟨t190,A190,H⟩:=H
    replace H:(some t190)=some r:=H
    have A19:=Aside0.mk A190
    clear A190
    obtain rfl:=Option.some.inj H
    go_enter Try.func62,Try.ntmps62
    go_wp2_with (first|((with_reducible refine zaA (N:=3) rfl ?_);refine zav ?hg (N:=3) ?hd (cs:=#[.int .i64 a0_0,.int .i64 a0_1,.int .i64 a0_2,.int .i64 a0_3,.int .i64 a0_4,.int .i64 a0_5,.int .i64 a0_6,.int .i64 a0_7,.int .i64 a0_8]) (t:=88) ?hr ?_;(case hd=>rfl);(case hg=>rfl);(case hr=>first|(go_simp;done)|(go_simp;rfl));intro gb184 hg w20 hbox hb;have n0_:=Aside0.mk (zad (zL HB.out) hb);have n1_:=Aside0.mk (hbox);have n2_:=Aside0.mk ((zS hg (zL HB.out):w.heap.size≤gb184));have n3_:=Aside0.mk ((zS hg (zL HB.out):w.heap.size≤gb184));clear HB;have HB:=n0_;have BK184:=n1_;have GW184:=n2_;have GE184:=n3_;clear n0_ n1_ n2_ n3_;clear hb hbox hg;obtain ⟨hcz21_0,hcz21_1,hcz21_2,hcz21_3,hcz21_4,hcz21_5,hcz21_6,hcz21_7,hcz21_8⟩:=zD9 BK184.out;obtain ⟨hfz21_0,hfz21_1,hfz21_2,hfz21_3,hfz21_4,hfz21_5,hfz21_6,hfz21_7,hfz21_8⟩:=zE9 BK184.out)|(go_at_call 110;(with_reducible refine (zaD.calls k (wrap64 ((wrap64 (a0_8*(wrap64 (16*(wrap64 ((wrap64 ((wrap64 (16*a1))+8)) - a0_0))))))+(wrap64 (a0_7*(wrap64 (16*(wrap64 ((wrap64 ((wrap64 (16*a2))+8)) - a0_1)))))))) 65536 t185 _ A7.out).mono ?_);rintro e w' ⟨rfl,⟨nd,rfl⟩⟩;(try first|exact ⟨rfl,_,World.drewN_drewN _ _ _⟩|exact ⟨rfl,_,Eq.trans (World.drewN_drewN _ _ _) (congrArg (World.drewN _) (Nat.add_assoc _ _ _))⟩))|(go_at_call 110;(with_reducible refine (zaD.calls k (wrap64 ((wrap64 (a0_8*(wrap64 (16*(wrap64 ((wrap64 ((wrap64 (16*a2))+8)) - a0_1)))))) - (wrap64 (a0_7*(wrap64 (16*(wrap64 ((wrap64 ((wrap64 (16*a1))+8)) - a0_0)))))))) 65536 t186 _ A8.out).mono ?_);rintro e w' ⟨rfl,⟨nd,rfl⟩⟩;(try first|exact ⟨rfl,_,World.drewN_drewN _ _ _⟩|exact ⟨rfl,_,Eq.trans (World.drewN_drewN _ _ _) (congrArg (World.drewN _) (Nat.add_assoc _ _ _))⟩))|(go_at_call 110;(with_reducible refine (zaD.calls k (wrap64 (65535*(ji9))) a0_6 t187 _ A10.out).mono ?_);rintro e w' ⟨rfl,⟨nd,rfl⟩⟩;(try first|exact ⟨rfl,_,World.drewN_drewN _ _ _⟩|exact ⟨rfl,_,Eq.trans (World.drewN_drewN _ _ _) (congrArg (World.drewN _) (Nat.add_assoc _ _ _))⟩))|(go_at_call 111;(with_reducible refine (zbe.calls k t185 t187 t188 _ A11.out).mono ?_);rintro e w' ⟨rfl,⟨nd,rfl⟩⟩;(try first|exact ⟨rfl,_,World.drewN_drewN _ _ _⟩|exact ⟨rfl,_,Eq.trans (World.drewN_drewN _ _ _) (congrArg (World.drewN _) (Nat.add_assoc _ _ _))⟩))|(go_at_call 110;(with_reducible refine (zaD.calls k (wrap64 (65535*t188)) (wrap64 (8*a0_2)) t189 _ A12.out).mono ?_);rintro e w' ⟨rfl,⟨nd,rfl⟩⟩;(try first|exact ⟨rfl,_,World.drewN_drewN _ _ _⟩|exact ⟨rfl,_,Eq.trans (World.drewN_drewN _ _ _) (congrArg (World.drewN _) (Nat.add_assoc _ _ _))⟩))|(go_at_call 110;(with_reducible refine (zaD.calls k (wrap64 (a0_3*(wrap64 (65535 - t189)))) (wrap64 (65535 - a0_5)) t190 _ A19.out).mono ?_);rintro e w' ⟨rfl,⟨nd,rfl⟩⟩;(try first|exact ⟨rfl,_,World.drewN_drewN _ _ _⟩|exact ⟨rfl,_,Eq.trans (World.drewN_drewN _ _ _) (congrArg (World.drewN _) (Nat.add_assoc _ _ _))⟩)))
    repeat (go_quiet (first|((with_reducible refine zaA (N:=3) rfl ?_);refine zav ?hg (N:=3) ?hd (cs:=#[.int .i64 a0_0,.int .i64 a0_1,.int .i64 a0_2,.int .i64 a0_3,.int .i64 a0_4,.int .i64 a0_5,.int .i64 a0_6,.int .i64 a0_7,.int .i64 a0_8]) (t:=88) ?hr ?_;(case hd=>rfl);(case hg=>rfl);(case hr=>first|(go_simp;done)|(go_simp;rfl));intro gb184 hg w20 hbox hb;have n0_:=Aside0.mk (zad (zL HB.out) hb);have n1_:=Aside0.mk (hbox);have n2_:=Aside0.mk ((zS hg (zL HB.out):w.heap.size≤gb184));have n3_:=Aside0.mk ((zS hg (zL HB.out):w.heap.size≤gb184));clear HB;have HB:=n0_;have BK184:=n1_;have GW184:=n2_;have GE184:=n3_;clear n0_ n1_ n2_ n3_;clear hb hbox hg;obtain ⟨hcz21_0,hcz21_1,hcz21_2,hcz21_3,hcz21_4,hcz21_5,hcz21_6,hcz21_7,hcz21_8⟩:=zD9 BK184.out;obtain ⟨hfz21_0,hfz21_1,hfz21_2,hfz21_3,hfz21_4,hfz21_5,hfz21_6,hfz21_7,hfz21_8⟩:=zE9 BK184.out)|(go_at_call 110;(with_reducible refine (zaD.calls k (wrap64 ((wrap64 (a0_8*(wrap64 (16*(wrap64 ((wrap64 ((wrap64 (16*a1))+8)) - a0_0))))))+(wrap64 (a0_7*(wrap64 (16*(wrap64 ((wrap64 ((wrap64 (16*a2))+8)) - a0_1)))))))) 65536 t185 _ A7.out).mono ?_);rintro e w' ⟨rfl,⟨nd,rfl⟩⟩;(try first|exact ⟨rfl,_,World.drewN_drewN _ _ _⟩|exact ⟨rfl,_,Eq.trans (World.drewN_drewN _ _ _) (congrArg (World.drewN _) (Nat.add_assoc _ _ _))⟩))|(go_at_call 110;(with_reducible refine (zaD.calls k (wrap64 ((wrap64 (a0_8*(wrap64 (16*(wrap64 ((wrap64 ((wrap64 (16*a2))+8)) - a0_1)))))) - (wrap64 (a0_7*(wrap64 (16*(wrap64 ((wrap64 ((wrap64 (16*a1))+8)) - a0_0)))))))) 65536 t186 _ A8.out).mono ?_);rintro e w' ⟨rfl,⟨nd,rfl⟩⟩;(try first|exact ⟨rfl,_,World.drewN_drewN _ _ _⟩|exact ⟨rfl,_,Eq.trans (World.drewN_drewN _ _ _) (congrArg (World.drewN _) (Nat.add_assoc _ _ _))⟩))|(go_at_call 110;(with_reducible refine (zaD.calls k (wrap64 (65535*(ji9))) a0_6 t187 _ A10.out).mono ?_);rintro e w' ⟨rfl,⟨nd,rfl⟩⟩;(try first|exact ⟨rfl,_,World.drewN_drewN _ _ _⟩|exact ⟨rfl,_,Eq.trans (World.drewN_drewN _ _ _) (congrArg (World.drewN _) (Nat.add_assoc _ _ _))⟩))|(go_at_call 111;(with_reducible refine (zbe.calls k t185 t187 t188 _ A11.out).mono ?_);rintro e w' ⟨rfl,⟨nd,rfl⟩⟩;(try first|exact ⟨rfl,_,World.drewN_drewN _ _ _⟩|exact ⟨rfl,_,Eq.trans (World.drewN_drewN _ _ _) (congrArg (World.drewN _) (Nat.add_assoc _ _ _))⟩))|(go_at_call 110;(with_reducible refine (zaD.calls k (wrap64 (65535*t188)) (wrap64 (8*a0_2)) t189 _ A12.out).mono ?_);rintro e w' ⟨rfl,⟨nd,rfl⟩⟩;(try first|exact ⟨rfl,_,World.drewN_drewN _ _ _⟩|exact ⟨rfl,_,Eq.trans (World.drewN_drewN _ _ _) (congrArg (World.drewN _) (Nat.add_assoc _ _ _))⟩))|(go_at_call 110;(with_reducible refine (zaD.calls k (wrap64 (a0_3*(wrap64 (65535 - t189)))) (wrap64 (65535 - a0_5)) t190 _ A19.out).mono ?_);rintro e w' ⟨rfl,⟨nd,rfl⟩⟩;(try first|exact ⟨rfl,_,World.drewN_drewN _ _ _⟩|exact ⟨rfl,_,Eq.trans (World.drewN_drewN _ _ _) (congrArg (World.drewN _) (Nat.add_assoc _ _ _))⟩)));try go_wp2_with (first|((with_reducible refine zaA (N:=3) rfl ?_);refine zav ?hg (N:=3) ?hd (cs:=#[.int .i64 a0_0,.int .i64 a0_1,.int .i64 a0_2,.int .i64 a0_3,.int .i64 a0_4,.int .i64 a0_5,.int .i64 a0_6,.int .i64 a0_7,.int .i64 a0_8]) (t:=88) ?hr ?_;(case hd=>rfl);(case hg=>rfl);(case hr=>first|(go_simp;done)|(go_simp;rfl));intro gb184 hg w20 hbox hb;have n0_:=Aside0.mk (zad (zL HB.out) hb);have n1_:=Aside0.mk (hbox);have n2_:=Aside0.mk ((zS hg (zL HB.out):w.heap.size≤gb184));have n3_:=Aside0.mk ((zS hg (zL HB.out):w.heap.size≤gb184));clear HB;have HB:=n0_;have BK184:=n1_;have GW184:=n2_;have GE184:=n3_;clear n0_ n1_ n2_ n3_;clear hb hbox hg;obtain ⟨hcz21_0,hcz21_1,hcz21_2,hcz21_3,hcz21_4,hcz21_5,hcz21_6,hcz21_7,hcz21_8⟩:=zD9 BK184.out;obtain ⟨hfz21_0,hfz21_1,hfz21_2,hfz21_3,hfz21_4,hfz21_5,hfz21_6,hfz21_7,hfz21_8⟩:=zE9 BK184.out)|(go_at_call 110;(with_reducible refine (zaD.calls k (wrap64 ((wrap64 (a0_8*(wrap64 (16*(wrap64 ((wrap64 ((wrap64 (16*a1))+8)) - a0_0))))))+(wrap64 (a0_7*(wrap64 (16*(wrap64 ((wrap64 ((wrap64 (16*a2))+8)) - a0_1)))))))) 65536 t185 _ A7.out).mono ?_);rintro e w' ⟨rfl,⟨nd,rfl⟩⟩;(try first|exact ⟨rfl,_,World.drewN_drewN _ _ _⟩|exact ⟨rfl,_,Eq.trans (World.drewN_drewN _ _ _) (congrArg (World.drewN _) (Nat.add_assoc _ _ _))⟩))|(go_at_call 110;(with_reducible refine (zaD.calls k (wrap64 ((wrap64 (a0_8*(wrap64 (16*(wrap64 ((wrap64 ((wrap64 (16*a2))+8)) - a0_1)))))) - (wrap64 (a0_7*(wrap64 (16*(wrap64 ((wrap64 ((wrap64 (16*a1))+8)) - a0_0)))))))) 65536 t186 _ A8.out).mono ?_);rintro e w' ⟨rfl,⟨nd,rfl⟩⟩;(try first|exact ⟨rfl,_,World.drewN_drewN _ _ _⟩|exact ⟨rfl,_,Eq.trans (World.drewN_drewN _ _ _) (congrArg (World.drewN _) (Nat.add_assoc _ _ _))⟩))|(go_at_call 110;(with_reducible refine (zaD.calls k (wrap64 (65535*(ji9))) a0_6 t187 _ A10.out).mono ?_);rintro e w' ⟨rfl,⟨nd,rfl⟩⟩;(try first|exact ⟨rfl,_,World.drewN_drewN _ _ _⟩|exact ⟨rfl,_,Eq.trans (World.drewN_drewN _ _ _) (congrArg (World.drewN _) (Nat.add_assoc _ _ _))⟩))|(go_at_call 111;(with_reducible refine (zbe.calls k t185 t187 t188 _ A11.out).mono ?_);rintro e w' ⟨rfl,⟨nd,rfl⟩⟩;(try first|exact ⟨rfl,_,World.drewN_drewN _ _ _⟩|exact ⟨rfl,_,Eq.trans (World.drewN_drewN _ _ _) (congrArg (World.drewN _) (Nat.add_assoc _ _ _))⟩))|(go_at_call 110;(with_reducible refine (zaD.calls k (wrap64 (65535*t188)) (wrap64 (8*a0_2)) t189 _ A12.out).mono ?_);rintro e w' ⟨rfl,⟨nd,rfl⟩⟩;(try first|exact ⟨rfl,_,World.drewN_drewN _ _ _⟩|exact ⟨rfl,_,Eq.trans (World.drewN_drewN _ _ _) (congrArg (World.drewN _) (Nat.add_assoc _ _ _))⟩))|(go_at_call 110;(with_reducible refine (zaD.calls k (wrap64 (a0_3*(wrap64 (65535 - t189)))) (wrap64 (65535 - a0_5)) t190 _ A19.out).mono ?_);rintro e w' ⟨rfl,⟨nd,rfl⟩⟩;(try first|exact ⟨rfl,_,World.drewN_drewN _ _ _⟩|exact ⟨rfl,_,Eq.trans (World.drewN_drewN _ _ _) (congrArg (World.drewN _) (Nat.add_assoc _ _ _))⟩))))
    go_ret
    exact ⟨by first|rfl|(simp [errW_none,errW_some] <;> rfl)|(simp only [← hji9];first|rfl|(simp [errW_none,errW_some] <;> rfl))|(simp [*,errW_none,errW_some] <;> rfl),by repeat (first|(with_reducible first|exact HB.out|apply zai|apply zaf|apply zag|refine zac ?_ GE184.out)|exact HB.out)⟩
def zaq.f (k:Nat) (a0_0:Int) (a0_1:Int) (a0_2:Int) (a0_3:Int) (a0_4:Int) (a0_5:Int) (a0_6:Int) (a0_7:Int) (a0_8:Int) (a0_9:Int) (a0_10:Int) (a0_11:Int) (a0_12:Int) (a0_13:Int) (l0_14:List (S120)) (a0_15:Bool) (a1_0:Int) (a1_1:Int) (a1_2:Int) (a1_3:Int) (a1_4:Int) (a2:Int) (a3:Int):Option (Int):=(zan.f k a0_0 a0_1 a0_2 a0_3 a0_4 a0_5 a0_6 a0_7 a0_8 a0_9 a0_10 a0_11 a0_12 a0_13 l0_14 a0_15).bind fun t193=>(if t193=0 then ((za4.f k a0_0 a0_1 a0_2 a0_3 a0_4 a0_5 a0_6 a0_7 a0_8 a0_9 a0_10 a0_11 a0_12 a0_13 l0_14 a0_15 a1_0 a1_1 a1_2 a1_3 a1_4).bind fun bt194=>((zaW.f a2 (-1048576) 1048576).bind fun t203=>((zaW.f a3 (-1048576) 1048576).bind fun t204=>((zaQ.f k bt194.1 bt194.2.1 bt194.2.2.1 bt194.2.2.2.1 bt194.2.2.2.2.1 bt194.2.2.2.2.2.1 bt194.2.2.2.2.2.2.1 bt194.2.2.2.2.2.2.2.1 bt194.2.2.2.2.2.2.2.2 t203 t204).bind fun t205=>(some t205))))) else (some 0))
theorem zaq.mono : ∀ a0 a1 a2 a3 a4 a5 a6 a7 a8 a9 a10 a11 a12 a13 a14 a15 a16 a17 a18 a19 a20 a21 a22 k,LeO (zaq.f k a0 a1 a2 a3 a4 a5 a6 a7 a8 a9 a10 a11 a12 a13 a14 a15 a16 a17 a18 a19 a20 a21 a22) (zaq.f (k+1) a0 a1 a2 a3 a4 a5 a6 a7 a8 a9 a10 a11 a12 a13 a14 a15 a16 a17 a18 a19 a20 a21 a22):=by
 intro a0 a1 a2 a3 a4 a5 a6 a7 a8 a9 a10 a11 a12 a13 a14 a15 a16 a17 a18 a19 a20 a21 a22 k
 unfold zaq.f
 repeat' first
  | (with_reducible exact zan.mono _ _ _ _ _ _ _ _ _ _ _ _ _ _ _ _ _)
  | (with_reducible exact za4.mono _ _ _ _ _ _ _ _ _ _ _ _ _ _ _ _ _ _ _ _ _ _)
  | (with_reducible exact zaQ.mono _ _ _ _ _ _ _ _ _ _ _ _)
  | (with_reducible exact LeO.refl _)
  | (with_reducible exact LeO.none _)
  | (with_reducible refine LeO.ite ?_ ?_)
  | (with_reducible refine LeO.bind ?_ (fun _=>?_))
  | exact zan.mono _ _ _ _ _ _ _ _ _ _ _ _ _ _ _ _ _
  | exact za4.mono _ _ _ _ _ _ _ _ _ _ _ _ _ _ _ _ _ _ _ _ _ _
  | exact zaQ.mono _ _ _ _ _ _ _ _ _ _ _ _
  | exact LeO.none _
  | refine LeO.ite ?_ ?_
  | refine LeO.bind ?_ (fun _=>?_)
set_option maxHeartbeats 8000000 in
set_option maxRecDepth 100000 in
theorem zaq.calls (k:Nat) (a0_0:Int) (a0_1:Int) (a0_2:Int) (a0_3:Int) (a0_4:Int) (a0_5:Int) (a0_6:Int) (a0_7:Int) (a0_8:Int) (a0_9:Int) (a0_10:Int) (a0_11:Int) (a0_12:Int) (a0_13:Int) (A0_14:Option Addr) (c0_14:Nat) (l0_14:List (S120)) (a0_15:Bool) (a1_0:Int) (a1_1:Int) (a1_2:Int) (a1_3:Int) (a1_4:Int) (a2:Int) (a3:Int) (r:Int) (w:World) (hr0_14:Kd.C k120 w A0_14 l0_14.length l0_14) (hc0_14:l0_14.length≤c0_14) (h:zaq.f k a0_0 a0_1 a0_2 a0_3 a0_4 a0_5 a0_6 a0_7 a0_8 a0_9 a0_10 a0_11 a0_12 a0_13 l0_14 a0_15 a1_0 a1_1 a1_2 a1_3 a1_4 a2 a3=some r) :
 Calls Try.prog 21 #[.agg #[.int .i64 a0_0,.int .i64 a0_1,.int .i64 a0_2,.int .i64 a0_3,.int .i64 a0_4,.int .i64 a0_5,.int .i64 a0_6,.int .i64 a0_7,.int .i64 a0_8,.int .i64 a0_9,.int .i64 a0_10,.int .i64 a0_11,.int .i64 a0_12,.int .i64 a0_13,.slice A0_14 l0_14.length c0_14,.bool a0_15],.agg #[.int .i64 a1_0,.int .i64 a1_1,.int .i64 a1_2,.int .i64 a1_3,.int .i64 a1_4],.int .i64 a2,.int .i64 a3] w fun e w'=>e = .returned (.int .i64 r)∧Below w.heap.size w w':=by
 have hu26:=Try.underlying26
 have hu28:=Try.underlying28
 have HR0_14:=Aside0.mk hr0_14
 have HC0_14:=Aside0.mk hc0_14
 clear hr0_14 hc0_14
 have HB:=Aside0.mk (Below.refl w.heap.size w)
 have H:((zan.f k a0_0 a0_1 a0_2 a0_3 a0_4 a0_5 a0_6 a0_7 a0_8 a0_9 a0_10 a0_11 a0_12 a0_13 l0_14 a0_15).bind fun t193=>(if t193=0 then ((za4.f k a0_0 a0_1 a0_2 a0_3 a0_4 a0_5 a0_6 a0_7 a0_8 a0_9 a0_10 a0_11 a0_12 a0_13 l0_14 a0_15 a1_0 a1_1 a1_2 a1_3 a1_4).bind fun bt194=>((zaW.f a2 (-1048576) 1048576).bind fun t203=>((zaW.f a3 (-1048576) 1048576).bind fun t204=>((zaQ.f k bt194.1 bt194.2.1 bt194.2.2.1 bt194.2.2.2.1 bt194.2.2.2.2.1 bt194.2.2.2.2.2.1 bt194.2.2.2.2.2.2.1 bt194.2.2.2.2.2.2.2.1 bt194.2.2.2.2.2.2.2.2 t203 t204).bind fun t205=>(some t205))))) else (some 0)))=some r:=h
 clear h
 replace H:=Option.bind_eq_some_iff.mp H
 obtain ⟨t193,A50,H⟩:=H
 replace H:(if t193=0 then ((za4.f k a0_0 a0_1 a0_2 a0_3 a0_4 a0_5 a0_6 a0_7 a0_8 a0_9 a0_10 a0_11 a0_12 a0_13 l0_14 a0_15 a1_0 a1_1 a1_2 a1_3 a1_4).bind fun bt194=>((zaW.f a2 (-1048576) 1048576).bind fun t203=>((zaW.f a3 (-1048576) 1048576).bind fun t204=>((zaQ.f k bt194.1 bt194.2.1 bt194.2.2.1 bt194.2.2.2.1 bt194.2.2.2.2.1 bt194.2.2.2.2.2.1 bt194.2.2.2.2.2.2.1 bt194.2.2.2.2.2.2.2.1 bt194.2.2.2.2.2.2.2.2 t203 t204).bind fun t205=>(some t205))))) else (some 0))=some r:=H
 have A5:=Aside0.mk A50
 clear A50
 by_cases c6:t193=0
 ·rw [if_pos c6] at H
  have c6b0:(t193==0)=true:=beq_iff_eq.mpr c6
  have c6b1:(t193 != 0)=false:=bne_eq_false_iff_eq.mpr c6
  clear c6
  replace H:=Option.bind_eq_some_iff.mp H
  obtain ⟨⟨t194,t195,t196,t197,t198,t199,t200,t201,t202⟩,A70,H⟩:=H
  replace H:((zaW.f a2 (-1048576) 1048576).bind fun t203=>((zaW.f a3 (-1048576) 1048576).bind fun t204=>((zaQ.f k t194 t195 t196 t197 t198 t199 t200 t201 t202 t203 t204).bind fun t205=>(some t205))))=some r:=H
  have A7:=Aside0.mk A70
  clear A70
  replace H:=Option.bind_eq_some_iff.mp H
  obtain ⟨t203,A80,H⟩:=H
  replace H:((zaW.f a3 (-1048576) 1048576).bind fun t204=>((zaQ.f k t194 t195 t196 t197 t198 t199 t200 t201 t202 t203 t204).bind fun t205=>(some t205)))=some r:=H
  have A8:=Aside0.mk A80
  clear A80
  replace H:=Option.bind_eq_some_iff.mp H
  obtain ⟨t204,A90,H⟩:=H
  replace H:((zaQ.f k t194 t195 t196 t197 t198 t199 t200 t201 t202 t203 t204).bind fun t205=>(some t205))=some r:=H
  have A9:=Aside0.mk A90
  clear A90
  replace H:=Option.bind_eq_some_iff.mp H
  obtain ⟨t205,A100,H⟩:=H
  replace H:(some t205)=some r:=H
  have A10:=Aside0.mk A100
  clear A100
  obtain rfl:=Option.some.inj H
  go_enter Try.func21,Try.ntmps21
  go_wp2_with (first|((with_reducible refine zaA (N:=4) rfl ?_);refine zav ?hg (N:=4) ?hd (cs:=#[.int .i64 a0_0,.int .i64 a0_1,.int .i64 a0_2,.int .i64 a0_3,.int .i64 a0_4,.int .i64 a0_5,.int .i64 a0_6,.int .i64 a0_7,.int .i64 a0_8,.int .i64 a0_9,.int .i64 a0_10,.int .i64 a0_11,.int .i64 a0_12,.int .i64 a0_13,.slice A0_14 l0_14.length c0_14,.bool a0_15]) (t:=26) ?hr ?_;(case hd=>rfl);(case hg=>rfl);(case hr=>first|(go_simp;done)|(go_simp;rfl));intro gb191 hg w11 hbox hb;have n0_:=Aside0.mk (zad (zL HB.out) hb);have n1_:=Aside0.mk (hbox);have n2_:=Aside0.mk ((zS hg (zL HB.out):w.heap.size≤gb191));have n3_:=Aside0.mk ((zS hg (zL HB.out):w.heap.size≤gb191));clear HB;have HB:=n0_;have BK191:=n1_;have GW191:=n2_;have GE191:=n3_;clear n0_ n1_ n2_ n3_;clear hb hbox hg)|((with_reducible refine zaA (N:=5) rfl ?_);refine zav ?hg (N:=5) ?hd (cs:=#[.int .i64 a1_0,.int .i64 a1_1,.int .i64 a1_2,.int .i64 a1_3,.int .i64 a1_4]) (t:=28) ?hr ?_;(case hd=>rfl);(case hg=>rfl);(case hr=>first|(go_simp;done)|(go_simp;rfl));intro gb192 hg w12 hbox hb;have n0_:=Aside0.mk (zaa (zB BK191.out) hb);have n1_:=Aside0.mk (zad (zL1 HB.out GE191.out) hb);have n2_:=Aside0.mk (hbox);have n3_:=Aside0.mk ((zS hg (zL1 HB.out GE191.out):w.heap.size≤gb192));have n4_:=Aside0.mk ((zS hg (zL1 HB.out GE191.out):w.heap.size≤gb192));have n5_:=Aside0.mk ((by rw [hg];exact Nat.ne_of_lt (zao (zB BK191.out)):gb191≠gb192));have n6_:=Aside0.mk ((by rw [hg];exact Nat.ne_of_gt (zao (zB BK191.out)):gb192≠gb191));clear BK191;clear HB;have BK191:=n0_;have HB:=n1_;have BK192:=n2_;have GW192:=n3_;have GE192:=n4_;have NB191_192:=n5_;have NB192_191:=n6_;clear n0_ n1_ n2_ n3_ n4_ n5_ n6_;clear hb hbox hg;have hnb13:=NB191_192.out;have hnc13:=NB192_191.out;obtain ⟨hcz14_0,hcz14_1,hcz14_2,hcz14_3,hcz14_4,hcz14_5,hcz14_6,hcz14_7,hcz14_8,hcz14_9,hcz14_10,hcz14_11,hcz14_12,hcz14_13,hcz14_14,hcz14_15⟩:=zD16 BK191.out;obtain ⟨hfz14_0,hfz14_1,hfz14_2,hfz14_3,hfz14_4,hfz14_5,hfz14_6,hfz14_7,hfz14_8,hfz14_9,hfz14_10,hfz14_11,hfz14_12,hfz14_13,hfz14_14,hfz14_15⟩:=zE16 BK191.out)|((with_reducible refine zal (f:=14) rfl ?_);refine goesL_ (some 10) rfl rfl Try.func14 (by kernel_rfl) rfl #[.agg #[.int .i64 a0_0,.int .i64 a0_1,.int .i64 a0_2,.int .i64 a0_3,.int .i64 a0_4,.int .i64 a0_5,.int .i64 a0_6,.int .i64 a0_7,.int .i64 a0_8,.int .i64 a0_9,.int .i64 a0_10,.int .i64 a0_11,.int .i64 a0_12,.int .i64 a0_13,.slice A0_14 l0_14.length c0_14,.bool a0_15]] rfl zA ?_;(with_reducible refine (zan.calls k a0_0 a0_1 a0_2 a0_3 a0_4 a0_5 a0_6 a0_7 a0_8 a0_9 a0_10 a0_11 a0_12 a0_13 _ _ l0_14 a0_15 t193 _ ?side1 ?side2 A5.out).mono ?_);(case side1=>repeat (first|exact (Kd.C_below HR0_14.out HB.out)|(with_reducible refine Kd.C_alloc ?_ _)|(with_reducible refine Kd.C_drewN ?_ _)|(with_reducible refine Kd.C_drew ?_)));(case side2=>exact HC0_14.out);rintro e w15 ⟨rfl,hb⟩;refine ⟨_,rfl,?_⟩;replace BK191:=Aside0.mk (zaa (zB BK191.out) hb);replace BK192:=Aside0.mk (zaa (zB BK192.out) hb);replace HB:=Aside0.mk (zad (zL2 HB.out GE191.out GE192.out) hb);(try clear hb);(try clear hb2);(try clear hk);(try clear hi);obtain ⟨hcz16_0,hcz16_1,hcz16_2,hcz16_3,hcz16_4,hcz16_5,hcz16_6,hcz16_7,hcz16_8,hcz16_9,hcz16_10,hcz16_11,hcz16_12,hcz16_13,hcz16_14,hcz16_15⟩:=zD16 BK191.out;obtain ⟨hfz16_0,hfz16_1,hfz16_2,hfz16_3,hfz16_4,hfz16_5,hfz16_6,hfz16_7,hfz16_8,hfz16_9,hfz16_10,hfz16_11,hfz16_12,hfz16_13,hfz16_14,hfz16_15⟩:=zE16 BK191.out;obtain ⟨hcz17_0,hcz17_1,hcz17_2,hcz17_3,hcz17_4⟩:=zD5 BK192.out;obtain ⟨hfz17_0,hfz17_1,hfz17_2,hfz17_3,hfz17_4⟩:=zE5 BK192.out)|((with_reducible refine zal (f:=61) rfl ?_);refine goesL_ (some 14) rfl rfl Try.func61 (by kernel_rfl) rfl #[.agg #[.int .i64 a0_0,.int .i64 a0_1,.int .i64 a0_2,.int .i64 a0_3,.int .i64 a0_4,.int .i64 a0_5,.int .i64 a0_6,.int .i64 a0_7,.int .i64 a0_8,.int .i64 a0_9,.int .i64 a0_10,.int .i64 a0_11,.int .i64 a0_12,.int .i64 a0_13,.slice A0_14 l0_14.length c0_14,.bool a0_15],.agg #[.int .i64 a1_0,.int .i64 a1_1,.int .i64 a1_2,.int .i64 a1_3,.int .i64 a1_4]] rfl zA ?_;(with_reducible refine (za4.calls k a0_0 a0_1 a0_2 a0_3 a0_4 a0_5 a0_6 a0_7 a0_8 a0_9 a0_10 a0_11 a0_12 a0_13 _ _ l0_14 a0_15 a1_0 a1_1 a1_2 a1_3 a1_4 t194 t195 t196 t197 t198 t199 t200 t201 t202 _ ?side1 ?side2 A7.out).mono ?_);(case side1=>repeat (first|exact (Kd.C_below HR0_14.out HB.out)|(with_reducible refine Kd.C_alloc ?_ _)|(with_reducible refine Kd.C_drewN ?_ _)|(with_reducible refine Kd.C_drew ?_)));(case side2=>exact HC0_14.out);rintro e w18 ⟨rfl,hb⟩;refine ⟨_,rfl,?_⟩;replace BK191:=Aside0.mk (zaa (zB BK191.out) hb);replace BK192:=Aside0.mk (zaa (zB BK192.out) hb);replace HB:=Aside0.mk (zad (zL2 HB.out GE191.out GE192.out) hb);(try clear hb);(try clear hb2);(try clear hk);(try clear hi))|((with_reducible refine zal (f:=54) rfl ?_);refine goesL_ (some 16) rfl rfl Try.func54 (by kernel_rfl) rfl #[.int .i64 a2,.int .i64 (-1048576),.int .i64 1048576] rfl zA ?_;(with_reducible refine (zaW.calls a2 (-1048576) 1048576 t203 _ A8.out).mono ?_);rintro e w19 ⟨rfl,hb⟩;refine ⟨_,rfl,?_⟩;replace BK191:=Aside0.mk (zaa (zB BK191.out) hb);replace BK192:=Aside0.mk (zaa (zB BK192.out) hb);replace HB:=Aside0.mk (zad (zL2 HB.out GE191.out GE192.out) hb);(try clear hb);(try clear hb2);(try clear hk);(try clear hi))|((with_reducible refine zal (f:=54) rfl ?_);refine goesL_ (some 18) rfl rfl Try.func54 (by kernel_rfl) rfl #[.int .i64 a3,.int .i64 (-1048576),.int .i64 1048576] rfl zA ?_;(with_reducible refine (zaW.calls a3 (-1048576) 1048576 t204 _ A9.out).mono ?_);rintro e w20 ⟨rfl,hb⟩;refine ⟨_,rfl,?_⟩;replace BK191:=Aside0.mk (zaa (zB BK191.out) hb);replace BK192:=Aside0.mk (zaa (zB BK192.out) hb);replace HB:=Aside0.mk (zad (zL2 HB.out GE191.out GE192.out) hb);(try clear hb);(try clear hb2);(try clear hk);(try clear hi))|((with_reducible refine zal (f:=62) rfl ?_);refine goesL_ (some 19) rfl rfl Try.func62 (by kernel_rfl) rfl #[.agg #[.int .i64 t194,.int .i64 t195,.int .i64 t196,.int .i64 t197,.int .i64 t198,.int .i64 t199,.int .i64 t200,.int .i64 t201,.int .i64 t202],.int .i64 t203,.int .i64 t204] rfl zA ?_;(with_reducible refine (zaQ.calls k t194 t195 t196 t197 t198 t199 t200 t201 t202 t203 t204 t205 _ A10.out).mono ?_);rintro e w21 ⟨rfl,hb⟩;refine ⟨_,rfl,?_⟩;replace BK191:=Aside0.mk (zaa (zB BK191.out) hb);replace BK192:=Aside0.mk (zaa (zB BK192.out) hb);replace HB:=Aside0.mk (zad (zL2 HB.out GE191.out GE192.out) hb);(try clear hb);(try clear hb2);(try clear hk);(try clear hi)))
  go_ret
  exact ⟨by first|rfl|(simp [errW_none,errW_some] <;> rfl)|(simp [*,errW_none,errW_some] <;> rfl),by repeat (first|(with_reducible first|exact HB.out|apply zai|apply zaf|apply zag|refine zac ?_ GE191.out|refine zac ?_ GE192.out)|exact HB.out)⟩
 ·rw [if_neg c6] at H
  have c6b0:(t193==0)=false:=beq_eq_false_iff_ne.mpr c6
  have c6b1:(t193 != 0)=true:=bne_iff_ne.mpr c6
  obtain rfl:=Option.some.inj H
  go_enter Try.func21,Try.ntmps21
  go_wp2_with (first|((with_reducible refine zaA (N:=4) rfl ?_);refine zav ?hg (N:=4) ?hd (cs:=#[.int .i64 a0_0,.int .i64 a0_1,.int .i64 a0_2,.int .i64 a0_3,.int .i64 a0_4,.int .i64 a0_5,.int .i64 a0_6,.int .i64 a0_7,.int .i64 a0_8,.int .i64 a0_9,.int .i64 a0_10,.int .i64 a0_11,.int .i64 a0_12,.int .i64 a0_13,.slice A0_14 l0_14.length c0_14,.bool a0_15]) (t:=26) ?hr ?_;(case hd=>rfl);(case hg=>rfl);(case hr=>first|(go_simp;done)|(go_simp;rfl));intro gb191 hg w22 hbox hb;have n0_:=Aside0.mk (zad (zL HB.out) hb);have n1_:=Aside0.mk (hbox);have n2_:=Aside0.mk ((zS hg (zL HB.out):w.heap.size≤gb191));have n3_:=Aside0.mk ((zS hg (zL HB.out):w.heap.size≤gb191));clear HB;have HB:=n0_;have BK191:=n1_;have GW191:=n2_;have GE191:=n3_;clear n0_ n1_ n2_ n3_;clear hb hbox hg)|((with_reducible refine zaA (N:=5) rfl ?_);refine zav ?hg (N:=5) ?hd (cs:=#[.int .i64 a1_0,.int .i64 a1_1,.int .i64 a1_2,.int .i64 a1_3,.int .i64 a1_4]) (t:=28) ?hr ?_;(case hd=>rfl);(case hg=>rfl);(case hr=>first|(go_simp;done)|(go_simp;rfl));intro gb192 hg w23 hbox hb;have n0_:=Aside0.mk (zaa (zB BK191.out) hb);have n1_:=Aside0.mk (zad (zL1 HB.out GE191.out) hb);have n2_:=Aside0.mk (hbox);have n3_:=Aside0.mk ((zS hg (zL1 HB.out GE191.out):w.heap.size≤gb192));have n4_:=Aside0.mk ((zS hg (zL1 HB.out GE191.out):w.heap.size≤gb192));have n5_:=Aside0.mk ((by rw [hg];exact Nat.ne_of_lt (zao (zB BK191.out)):gb191≠gb192));have n6_:=Aside0.mk ((by rw [hg];exact Nat.ne_of_gt (zao (zB BK191.out)):gb192≠gb191));clear BK191;clear HB;have BK191:=n0_;have HB:=n1_;have BK192:=n2_;have GW192:=n3_;have GE192:=n4_;have NB191_192:=n5_;have NB192_191:=n6_;clear n0_ n1_ n2_ n3_ n4_ n5_ n6_;clear hb hbox hg;have hnb24:=NB191_192.out;have hnc24:=NB192_191.out;obtain ⟨hcz25_0,hcz25_1,hcz25_2,hcz25_3,hcz25_4,hcz25_5,hcz25_6,hcz25_7,hcz25_8,hcz25_9,hcz25_10,hcz25_11,hcz25_12,hcz25_13,hcz25_14,hcz25_15⟩:=zD16 BK191.out;obtain ⟨hfz25_0,hfz25_1,hfz25_2,hfz25_3,hfz25_4,hfz25_5,hfz25_6,hfz25_7,hfz25_8,hfz25_9,hfz25_10,hfz25_11,hfz25_12,hfz25_13,hfz25_14,hfz25_15⟩:=zE16 BK191.out)|((with_reducible refine zal (f:=14) rfl ?_);refine goesL_ (some 10) rfl rfl Try.func14 (by kernel_rfl) rfl #[.agg #[.int .i64 a0_0,.int .i64 a0_1,.int .i64 a0_2,.int .i64 a0_3,.int .i64 a0_4,.int .i64 a0_5,.int .i64 a0_6,.int .i64 a0_7,.int .i64 a0_8,.int .i64 a0_9,.int .i64 a0_10,.int .i64 a0_11,.int .i64 a0_12,.int .i64 a0_13,.slice A0_14 l0_14.length c0_14,.bool a0_15]] rfl zA ?_;(with_reducible refine (zan.calls k a0_0 a0_1 a0_2 a0_3 a0_4 a0_5 a0_6 a0_7 a0_8 a0_9 a0_10 a0_11 a0_12 a0_13 _ _ l0_14 a0_15 t193 _ ?side1 ?side2 A5.out).mono ?_);(case side1=>repeat (first|exact (Kd.C_below HR0_14.out HB.out)|(with_reducible refine Kd.C_alloc ?_ _)|(with_reducible refine Kd.C_drewN ?_ _)|(with_reducible refine Kd.C_drew ?_)));(case side2=>exact HC0_14.out);rintro e w26 ⟨rfl,hb⟩;refine ⟨_,rfl,?_⟩;replace BK191:=Aside0.mk (zaa (zB BK191.out) hb);replace BK192:=Aside0.mk (zaa (zB BK192.out) hb);replace HB:=Aside0.mk (zad (zL2 HB.out GE191.out GE192.out) hb);(try clear hb);(try clear hb2);(try clear hk);(try clear hi)))
  go_ret
  exact ⟨by first|rfl|(simp [errW_none,errW_some] <;> rfl)|(simp [*,errW_none,errW_some] <;> rfl),by repeat (first|(with_reducible first|exact HB.out|apply zai|apply zaf|apply zag|refine zac ?_ GE191.out|refine zac ?_ GE192.out)|exact HB.out)⟩
def zbz.f (a0:Int) (a1:Int):Option (Bool):=if a0≥(-1048576) then (if a0≤1048576 then (if a1≥0 then (some (decide (a1≤(wrap64 (1048576 - a0))))) else (some false)) else (some false)) else (some false)
set_option maxHeartbeats 8000000 in
set_option maxRecDepth 100000 in
theorem zbz.calls (a0:Int) (a1:Int) (r:Bool) (w:World) (h:zbz.f a0 a1=some r) :
 Calls Try.prog 108 #[.int .i64 a0,.int .i64 a1] w fun e w'=>e = .returned (.bool r)∧Drawn0 w w':=by
 have H:(if a0≥(-1048576) then (if a0≤1048576 then (if a1≥0 then (some (decide (a1≤(wrap64 (1048576 - a0))))) else (some false)) else (some false)) else (some false))=some r:=h
 clear h
 by_cases c3:a0≥(-1048576)
 ·rw [if_pos c3] at H
  have c3b0:decide ((-1048576)≤a0)=true:=decide_eq_true c3
  clear c3
  by_cases c4:a0≤1048576
  ·rw [if_pos c4] at H
   have c4b0:decide (a0≤1048576)=true:=decide_eq_true c4
   clear c4
   by_cases c5:a1≥0
   ·rw [if_pos c5] at H
    have c5b0:decide (0≤a1)=true:=decide_eq_true c5
    clear c5
    obtain rfl:=Option.some.inj H
    go_enter Try.func108,Try.ntmps108
    go_wp2
    go_ret
    exact ⟨by first|rfl|(simp;done)|(simp [*];done),by repeat (first|exact Drawn0.refl _|apply Drawn0.step)⟩
   ·rw [if_neg c5] at H
    have c5b0:decide (0≤a1)=false:=decide_eq_false c5
    clear c5
    obtain rfl:=Option.some.inj H
    go_enter Try.func108,Try.ntmps108
    go_wp2
    go_ret
    exact ⟨by first|rfl|(simp;done)|(simp [*];done),by repeat (first|exact Drawn0.refl _|apply Drawn0.step)⟩
  ·rw [if_neg c4] at H
   have c4b0:decide (a0≤1048576)=false:=decide_eq_false c4
   clear c4
   obtain rfl:=Option.some.inj H
   go_enter Try.func108,Try.ntmps108
   go_wp2
   go_ret
   exact ⟨by first|rfl|(simp;done)|(simp [*];done),by repeat (first|exact Drawn0.refl _|apply Drawn0.step)⟩
 ·rw [if_neg c3] at H
  have c3b0:decide ((-1048576)≤a0)=false:=decide_eq_false c3
  clear c3
  obtain rfl:=Option.some.inj H
  go_enter Try.func108,Try.ntmps108
  go_wp2
  go_ret
  exact ⟨by first|rfl|(simp;done)|(simp [*];done),by repeat (first|exact Drawn0.refl _|apply Drawn0.step)⟩
def zbu.f (a0_0:Int) (a0_1:Int) (a0_2:Int) (a0_3:Int):Option (Bool):=(zbz.f a0_0 a0_2).bind fun t207=>(if t207=true then ((zbz.f a0_1 a0_3).bind fun t208=>(some t208)) else (some false))
set_option maxHeartbeats 8000000 in
set_option maxRecDepth 100000 in
theorem zbu.calls (a0_0:Int) (a0_1:Int) (a0_2:Int) (a0_3:Int) (r:Bool) (w:World) (h:zbu.f a0_0 a0_1 a0_2 a0_3=some r) :
 Calls Try.prog 59 #[.agg #[.int .i64 a0_0,.int .i64 a0_1,.int .i64 a0_2,.int .i64 a0_3]] w fun e w'=>e = .returned (.bool r)∧Below w.heap.size w w':=by
 have hu32:=Try.underlying32
 have HB:=Aside0.mk (Below.refl w.heap.size w)
 have H:((zbz.f a0_0 a0_2).bind fun t207=>(if t207=true then ((zbz.f a0_1 a0_3).bind fun t208=>(some t208)) else (some false)))=some r:=h
 clear h
 replace H:=Option.bind_eq_some_iff.mp H
 obtain ⟨t207,A20,H⟩:=H
 replace H:(if t207=true then ((zbz.f a0_1 a0_3).bind fun t208=>(some t208)) else (some false))=some r:=H
 have A2:=Aside0.mk A20
 clear A20
 by_cases c3:t207=true
 ·subst c3
  have H1:((zbz.f a0_1 a0_3).bind fun t208=>(some t208))=some r:=by rw [if_pos rfl] at H;exact H
  clear H
  have H:=H1
  clear H1
  replace H:=Option.bind_eq_some_iff.mp H
  obtain ⟨t208,A40,H⟩:=H
  replace H:(some t208)=some r:=H
  have A4:=Aside0.mk A40
  clear A40
  obtain rfl:=Option.some.inj H
  go_enter Try.func59,Try.ntmps59
  go_wp2_with (first|((with_reducible refine zaA (N:=1) rfl ?_);refine zav ?hg (N:=1) ?hd (cs:=#[.int .i64 a0_0,.int .i64 a0_1,.int .i64 a0_2,.int .i64 a0_3]) (t:=32) ?hr ?_;(case hd=>rfl);(case hg=>rfl);(case hr=>first|(go_simp;done)|(go_simp;rfl));intro gb206 hg w5 hbox hb;have n0_:=Aside0.mk (zad (zL HB.out) hb);have n1_:=Aside0.mk (hbox);have n2_:=Aside0.mk ((zS hg (zL HB.out):w.heap.size≤gb206));have n3_:=Aside0.mk ((zS hg (zL HB.out):w.heap.size≤gb206));clear HB;have HB:=n0_;have BK206:=n1_;have GW206:=n2_;have GE206:=n3_;clear n0_ n1_ n2_ n3_;clear hb hbox hg;obtain ⟨hcz6_0,hcz6_1,hcz6_2,hcz6_3⟩:=zD4 BK206.out;obtain ⟨hfz6_0,hfz6_1,hfz6_2,hfz6_3⟩:=zE4 BK206.out)|((with_reducible refine zal (f:=108) rfl ?_);refine goesL_ (some 7) rfl rfl Try.func108 (by kernel_rfl) rfl #[.int .i64 a0_0,.int .i64 a0_2] rfl zA ?_;(with_reducible refine (zbz.calls a0_0 a0_2 true _ A2.out).mono ?_);rintro e w' ⟨rfl,⟨nd,rfl⟩⟩;refine ⟨_,rfl,?_⟩)|(go_at_call 108;(with_reducible refine (zbz.calls a0_1 a0_3 t208 _ A4.out).mono ?_);rintro e w' ⟨rfl,⟨nd,rfl⟩⟩))
  go_ret
  exact ⟨by first|rfl|(simp [errW_none,errW_some] <;> rfl)|(simp [*,errW_none,errW_some] <;> rfl),by repeat (first|(with_reducible first|exact HB.out|apply zai|apply zaf|apply zag|refine zac ?_ GE206.out)|exact HB.out)⟩
 ·replace c3:=Bool.eq_false_iff.mpr c3
  subst c3
  have H1:(some false)=some r:=by rw [if_neg (show ¬ (false=true) by decide)] at H;exact H
  clear H
  have H:=H1
  clear H1
  obtain rfl:=Option.some.inj H
  go_enter Try.func59,Try.ntmps59
  go_wp2_with (first|((with_reducible refine zaA (N:=1) rfl ?_);refine zav ?hg (N:=1) ?hd (cs:=#[.int .i64 a0_0,.int .i64 a0_1,.int .i64 a0_2,.int .i64 a0_3]) (t:=32) ?hr ?_;(case hd=>rfl);(case hg=>rfl);(case hr=>first|(go_simp;done)|(go_simp;rfl));intro gb206 hg w7 hbox hb;have n0_:=Aside0.mk (zad (zL HB.out) hb);have n1_:=Aside0.mk (hbox);have n2_:=Aside0.mk ((zS hg (zL HB.out):w.heap.size≤gb206));have n3_:=Aside0.mk ((zS hg (zL HB.out):w.heap.size≤gb206));clear HB;have HB:=n0_;have BK206:=n1_;have GW206:=n2_;have GE206:=n3_;clear n0_ n1_ n2_ n3_;clear hb hbox hg;obtain ⟨hcz8_0,hcz8_1,hcz8_2,hcz8_3⟩:=zD4 BK206.out;obtain ⟨hfz8_0,hfz8_1,hfz8_2,hfz8_3⟩:=zE4 BK206.out)|((with_reducible refine zal (f:=108) rfl ?_);refine goesL_ (some 7) rfl rfl Try.func108 (by kernel_rfl) rfl #[.int .i64 a0_0,.int .i64 a0_2] rfl zA ?_;(with_reducible refine (zbz.calls a0_0 a0_2 false _ A2.out).mono ?_);rintro e w' ⟨rfl,⟨nd,rfl⟩⟩;refine ⟨_,rfl,?_⟩))
  go_ret
  exact ⟨by first|rfl|(simp [errW_none,errW_some] <;> rfl)|(simp [*,errW_none,errW_some] <;> rfl),by repeat (first|(with_reducible first|exact HB.out|apply zai|apply zaf|apply zag|refine zac ?_ GE206.out)|exact HB.out)⟩
end Go.Proofs.Ytlilncnoohfcdaa.Da
