/-
  How knots, dynamics and samples that can be read as data are opened. No condition.
-/
import Derived.Test.YtlilncnoohfcdaaDax0
import Derived.Test.YtlilncnoohfcdaaOpen
import Derived.KernelRfl
namespace Go.Proofs.Ytlilncnoohfcdaa.Opn
open Go.RowKit Go.Proofs.YtlilncnoohfcdaaW.PrintWords Go.Proofs.Ytlilncnoohfcdaa.Da
abbrev wf64 (n:Int):Prop:=(Lit.int .i64 n).wf=true
def knotQ (x:S135):Prop:=wf64 x.f0∧wf64 x.f1
set_option maxRecDepth 100000 in
theorem op_knot:Opens Try.prog 135 k135 knotQ:=
  op_struct Try.underlying135 (by kernel_rfl) (f_iso (fun x:S135=>(x.f0,x.f1)) (fun p=>⟨p.1,p.2⟩) (fun _=>rfl) (zbs rfl (by kernel_rfl) (zbq Try.underlying3) (f_last rfl (by kernel_rfl) (zbq Try.underlying3))))
def dynQ (x:S120):Prop:=wf64 x.f0∧wf64 x.f1∧∀ k ∈ x.f2,knotQ k
set_option maxRecDepth 100000 in
theorem op_dyn:Opens Try.prog 120 k120 dynQ:=
  op_struct Try.underlying120 (by kernel_rfl) (f_iso (fun x:S120=>(x.f0,x.f1,x.f2)) (fun p=>⟨p.1,p.2.1,p.2.2⟩) (fun _=>rfl) (zbs rfl (by kernel_rfl) (zbq Try.underlying3) (zbs rfl (by kernel_rfl) (zbq Try.underlying3) (f_last rfl (by kernel_rfl) (op_slice Try.underlying118 (by kernel_rfl) op_knot)))))
abbrev I64:Kd Int:=Kd.int .i64
set_option maxRecDepth 100000 in
theorem op_dyns:Opens Try.prog 24 (Kd.slice 120 k120) (fun l=>∀ x ∈ l,dynQ x):=op_slice Try.underlying24 (by kernel_rfl) op_dyn
set_option maxRecDepth 100000 in
theorem laidOut:laidOutB Try.prog=true:=by kernel_rfl
end Go.Proofs.Ytlilncnoohfcdaa.Opn
