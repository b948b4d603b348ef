/-
  How brushes, dabs and rectangles that can be read as data are opened. No condition.
-/
import Derived.Test.YtlilncnoohfcdaaKinds
namespace Go.Proofs.Ytlilncnoohfcdaa.Opn
open Go.RowKit Go.Proofs.YtlilncnoohfcdaaW.PrintWords Go.Proofs.Ytlilncnoohfcdaa.Da
abbrev dabKd:Kd (Int×Int×Int×Int×Int):=Kd.pair I64 (Kd.pair I64 (Kd.pair I64 (Kd.pair I64 I64)))
abbrev dabQ (x:Int×Int×Int×Int×Int):Prop:=wf64 x.1∧wf64 x.2.1∧wf64 x.2.2.1∧wf64 x.2.2.2.1∧wf64 x.2.2.2.2
set_option maxRecDepth 100000 in
theorem op_dab:Opens Try.prog 28 dabKd dabQ:=
  op_struct Try.underlying28 (by kernel_rfl) (zbs rfl (by kernel_rfl) (zbq Try.underlying3) (zbs rfl (by kernel_rfl) (zbq Try.underlying3) (zbs rfl (by kernel_rfl) (zbq Try.underlying3) (zbs rfl (by kernel_rfl) (zbq Try.underlying3) (f_last rfl (by kernel_rfl) (zbq Try.underlying3))))))
theorem op_dab_K {w:World} {a0 a1 a2 a3 a4:Int} {cs:List Value} (h:dabKd.K w (a0,a1,a2,a3,a4) cs):cs=[.int .i64 a0,.int .i64 a1,.int .i64 a2,.int .i64 a3,.int .i64 a4]:=by
  obtain ⟨_,_,rfl,rfl,_,_,rfl,rfl,_,_,rfl,rfl,_,_,rfl,rfl,rfl⟩:=h
  rfl
abbrev rectKd:Kd (Int×Int×Int×Int):=Kd.pair I64 (Kd.pair I64 (Kd.pair I64 I64))
abbrev rectQ (x:Int×Int×Int×Int):Prop:=wf64 x.1∧wf64 x.2.1∧wf64 x.2.2.1∧wf64 x.2.2.2
set_option maxRecDepth 100000 in
theorem op_rect:Opens Try.prog 32 rectKd rectQ:=
  op_struct Try.underlying32 (by kernel_rfl) (zbs rfl (by kernel_rfl) (zbq Try.underlying3) (zbs rfl (by kernel_rfl) (zbq Try.underlying3) (zbs rfl (by kernel_rfl) (zbq Try.underlying3) (f_last rfl (by kernel_rfl) (zbq Try.underlying3)))))
theorem op_rect_K {w:World} {a0 a1 a2 a3:Int} {cs:List Value} (h:rectKd.K w (a0,a1,a2,a3) cs):cs=[.int .i64 a0,.int .i64 a1,.int .i64 a2,.int .i64 a3]:=by
  obtain ⟨_,_,rfl,rfl,_,_,rfl,rfl,_,_,rfl,rfl,rfl⟩:=h
  rfl
abbrev pixKd:Kd (Int×Int×Int×Int):=Kd.pair I64 (Kd.pair I64 (Kd.pair I64 I64))
abbrev pixQ (x:Int×Int×Int×Int):Prop:=wf64 x.1∧wf64 x.2.1∧wf64 x.2.2.1∧wf64 x.2.2.2
set_option maxRecDepth 100000 in
theorem op_pix:Opens Try.prog 23 pixKd pixQ:=
  op_struct Try.underlying23 (by kernel_rfl) (zbs rfl (by kernel_rfl) (zbq Try.underlying3) (zbs rfl (by kernel_rfl) (zbq Try.underlying3) (zbs rfl (by kernel_rfl) (zbq Try.underlying3) (f_last rfl (by kernel_rfl) (zbq Try.underlying3)))))
set_option maxRecDepth 100000 in
theorem op_pix' {T:TypeId} (h:T=23):Opens Try.prog T pixKd pixQ:=h ▸ op_pix
set_option maxRecDepth 100000 in
theorem op_dyns' {T:TypeId} (h:T=24):Opens Try.prog T (Kd.slice 120 k120) (fun l=>∀ x ∈ l,dynQ x):=h ▸ op_dyns
abbrev brushKd:Kd (Int×Int×Int×Int×Int×Int×Int×Int×Int×(Int×Int×Int×Int)×Int×List S120×Bool):=Kd.pair I64 (Kd.pair I64 (Kd.pair I64 (Kd.pair I64 (Kd.pair I64 (Kd.pair I64 (Kd.pair I64 (Kd.pair I64 (Kd.pair I64 (Kd.pair pixKd (Kd.pair I64 (Kd.pair (Kd.slice 120 k120) Kd.bool)))))))))))
abbrev brushQ (x:Int×Int×Int×Int×Int×Int×Int×Int×Int×(Int×Int×Int×Int)×Int×List S120×Bool):Prop:=wf64 x.1∧wf64 x.2.1∧wf64 x.2.2.1∧wf64 x.2.2.2.1∧wf64 x.2.2.2.2.1∧wf64 x.2.2.2.2.2.1∧wf64 x.2.2.2.2.2.2.1∧wf64 x.2.2.2.2.2.2.2.1∧wf64 x.2.2.2.2.2.2.2.2.1∧pixQ x.2.2.2.2.2.2.2.2.2.1∧wf64 x.2.2.2.2.2.2.2.2.2.2.1∧(∀ d ∈ x.2.2.2.2.2.2.2.2.2.2.2.1,dynQ d)∧True
set_option maxRecDepth 100000 in
theorem op_brush:Opens Try.prog 26 brushKd brushQ:=
  op_struct Try.underlying26 (by kernel_rfl) (zbs rfl (by kernel_rfl) (zbq Try.underlying3) (zbs rfl (by kernel_rfl) (zbq Try.underlying3) (zbs rfl (by kernel_rfl) (zbq Try.underlying3) (zbs rfl (by kernel_rfl) (zbq Try.underlying3) (zbs rfl (by kernel_rfl) (zbq Try.underlying3) (zbs rfl (by kernel_rfl) (zbq Try.underlying3) (zbs rfl (by kernel_rfl) (zbq Try.underlying3) (zbs rfl (by kernel_rfl) (zbq Try.underlying3) (zbs rfl (by kernel_rfl) (zbq Try.underlying3) (zbs rfl (by kernel_rfl) (op_pix' rfl) (zbs rfl (by kernel_rfl) (zbq Try.underlying3) (zbs rfl (by kernel_rfl) (op_dyns' rfl) (f_last rfl (by kernel_rfl) (op_bool Try.underlying4))))))))))))))
theorem op_brush_K {w:World} {a0 a1 a2 a3 a4 a5 a6 a7 a8 p0 p1 p2 p3 sd:Int} {l:List S120} {e:Bool} {cs:List Value} (h:brushKd.K w (a0,a1,a2,a3,a4,a5,a6,a7,a8,(p0,p1,p2,p3),sd,l,e) cs) :
    ∃ A c,cs=[.int .i64 a0,.int .i64 a1,.int .i64 a2,.int .i64 a3,.int .i64 a4,.int .i64 a5,.int .i64 a6,.int .i64 a7,.int .i64 a8,.int .i64 p0,.int .i64 p1,.int .i64 p2,.int .i64 p3,.int .i64 sd,.slice A l.length c,.bool e]∧l.length≤c∧Kd.C k120 w A l.length l:=by
  obtain ⟨_,_,rfl,rfl,_,_,rfl,rfl,_,_,rfl,rfl,_,_,rfl,rfl,_,_,rfl,rfl,_,_,rfl,rfl,_,_,rfl,rfl,_,_,rfl,rfl,_,_,rfl,rfl,_,_,rfl,⟨_,_,rfl,rfl,_,_,rfl,rfl,_,_,rfl,rfl,rfl⟩,_,_,rfl,rfl,_,_,rfl,⟨A,c,rfl,hc,hr⟩,rfl⟩:=h
  exact ⟨A,c,rfl,hc,hr⟩
end Go.Proofs.Ytlilncnoohfcdaa.Opn
