/-
  How knots, dynamics and samples that can be read as data are opened. No condition.
-/
import Derived.Test.YtlilncnoohfcdaaDax0
import Derived.Test.YtlilncnoohfcdaaOpen
import Derived.KernelRfl
import Derived.Test.YtlilncnoohfcdaaBrx0
import Derived.SizedLaws
import Derived.ChangeSlices
namespace Go.Proofs.Ytlilncnoohfcdaa.Opn
open Go.RowKit Go.Proofs.YtlilncnoohfcdaaW.PrintWords Go.Proofs.Ytlilncnoohfcdaa.Da
abbrev wf64 (n:Int):Prop:=(Lit.int .i64 n).wf=true
def knotQ (x:S135):Prop:=wf64 x.f0∧wf64 x.f1
set_option maxRecDepth 100000 in
theorem op_knot:Opens Try.prog 135 k135 knotQ:=
  op_struct Try.underlying135 (by kernel_rfl) (f_iso (fun x:S135=>(x.f0,x.f1)) (fun p=>⟨p.1,p.2⟩) (fun _=>rfl) (zcd rfl (by kernel_rfl) (zb9 Try.underlying3) (f_last rfl (by kernel_rfl) (zb9 Try.underlying3))))
def dynQ (x:S120):Prop:=wf64 x.f0∧wf64 x.f1∧∀ k ∈ x.f2,knotQ k
set_option maxRecDepth 100000 in
theorem op_dyn:Opens Try.prog 120 k120 dynQ:=
  op_struct Try.underlying120 (by kernel_rfl) (f_iso (fun x:S120=>(x.f0,x.f1,x.f2)) (fun p=>⟨p.1,p.2.1,p.2.2⟩) (fun _=>rfl) (zcd rfl (by kernel_rfl) (zb9 Try.underlying3) (zcd rfl (by kernel_rfl) (zb9 Try.underlying3) (f_last rfl (by kernel_rfl) (op_slice Try.underlying118 (by kernel_rfl) op_knot)))))
abbrev I64:Kd Int:=Kd.int .i64
set_option maxRecDepth 100000 in
theorem op_dyns:Opens Try.prog 24 (Kd.slice 120 k120) (fun l=>∀ x ∈ l,dynQ x):=op_slice Try.underlying24 (by kernel_rfl) op_dyn
set_option maxRecDepth 100000 in
theorem laidOut:laidOutB Try.prog=true:=by kernel_rfl
end Go.Proofs.Ytlilncnoohfcdaa.Opn
namespace Go.Proofs.Ytlilncnoohfcdaa.Opn
open Go.RowKit Go.Proofs.YtlilncnoohfcdaaW.PrintWords Go.Proofs.Ytlilncnoohfcdaa.Da
abbrev pixKd:Kd (Int×Int×Int×Int):=Kd.pair I64 (Kd.pair I64 (Kd.pair I64 I64))
abbrev pixQ (x:Int×Int×Int×Int):Prop:=wf64 x.1∧wf64 x.2.1∧wf64 x.2.2.1∧wf64 x.2.2.2
set_option maxRecDepth 100000 in
theorem op_pix:Opens Try.prog 23 pixKd pixQ:=
  op_struct Try.underlying23 (by kernel_rfl) (zcd rfl (by kernel_rfl) (zb9 Try.underlying3) (zcd rfl (by kernel_rfl) (zb9 Try.underlying3) (zcd rfl (by kernel_rfl) (zb9 Try.underlying3) (f_last rfl (by kernel_rfl) (zb9 Try.underlying3)))))
set_option maxRecDepth 100000 in
theorem op_pix' {T:TypeId} (h:T=23):Opens Try.prog T pixKd pixQ:=h ▸ op_pix
set_option maxRecDepth 100000 in
theorem op_dyns' {T:TypeId} (h:T=24):Opens Try.prog T (Kd.slice 120 k120) (fun l=>∀ x ∈ l,dynQ x):=h ▸ op_dyns
abbrev brushKd:Kd (Int×Int×Int×Int×Int×Int×Int×Int×Int×(Int×Int×Int×Int)×Int×List S120×Bool):=Kd.pair I64 (Kd.pair I64 (Kd.pair I64 (Kd.pair I64 (Kd.pair I64 (Kd.pair I64 (Kd.pair I64 (Kd.pair I64 (Kd.pair I64 (Kd.pair pixKd (Kd.pair I64 (Kd.pair (Kd.slice 120 k120) Kd.bool)))))))))))
abbrev brushQ (x:Int×Int×Int×Int×Int×Int×Int×Int×Int×(Int×Int×Int×Int)×Int×List S120×Bool):Prop:=wf64 x.1∧wf64 x.2.1∧wf64 x.2.2.1∧wf64 x.2.2.2.1∧wf64 x.2.2.2.2.1∧wf64 x.2.2.2.2.2.1∧wf64 x.2.2.2.2.2.2.1∧wf64 x.2.2.2.2.2.2.2.1∧wf64 x.2.2.2.2.2.2.2.2.1∧pixQ x.2.2.2.2.2.2.2.2.2.1∧wf64 x.2.2.2.2.2.2.2.2.2.2.1∧(∀ d ∈ x.2.2.2.2.2.2.2.2.2.2.2.1,dynQ d)∧True
set_option maxRecDepth 100000 in
theorem op_brush:Opens Try.prog 26 brushKd brushQ:=
  op_struct Try.underlying26 (by kernel_rfl) (zcd rfl (by kernel_rfl) (zb9 Try.underlying3) (zcd rfl (by kernel_rfl) (zb9 Try.underlying3) (zcd rfl (by kernel_rfl) (zb9 Try.underlying3) (zcd rfl (by kernel_rfl) (zb9 Try.underlying3) (zcd rfl (by kernel_rfl) (zb9 Try.underlying3) (zcd rfl (by kernel_rfl) (zb9 Try.underlying3) (zcd rfl (by kernel_rfl) (zb9 Try.underlying3) (zcd rfl (by kernel_rfl) (zb9 Try.underlying3) (zcd rfl (by kernel_rfl) (zb9 Try.underlying3) (zcd rfl (by kernel_rfl) (op_pix' rfl) (zcd rfl (by kernel_rfl) (zb9 Try.underlying3) (zcd rfl (by kernel_rfl) (op_dyns' rfl) (f_last rfl (by kernel_rfl) (op_bool Try.underlying4))))))))))))))
theorem op_brush_K {w:World} {a0 a1 a2 a3 a4 a5 a6 a7 a8 p0 p1 p2 p3 sd:Int} {l:List S120} {e:Bool} {cs:List Value} (h:brushKd.K w (a0,a1,a2,a3,a4,a5,a6,a7,a8,(p0,p1,p2,p3),sd,l,e) cs) :
    ∃ A c,cs=[.int .i64 a0,.int .i64 a1,.int .i64 a2,.int .i64 a3,.int .i64 a4,.int .i64 a5,.int .i64 a6,.int .i64 a7,.int .i64 a8,.int .i64 p0,.int .i64 p1,.int .i64 p2,.int .i64 p3,.int .i64 sd,.slice A l.length c,.bool e]∧l.length≤c∧Kd.C k120 w A l.length l:=by
  obtain ⟨_,_,rfl,rfl,_,_,rfl,rfl,_,_,rfl,rfl,_,_,rfl,rfl,_,_,rfl,rfl,_,_,rfl,rfl,_,_,rfl,rfl,_,_,rfl,rfl,_,_,rfl,rfl,_,_,rfl,⟨_,_,rfl,rfl,_,_,rfl,rfl,_,_,rfl,rfl,rfl⟩,_,_,rfl,rfl,_,_,rfl,⟨A,c,rfl,hc,hr⟩,rfl⟩:=h
  exact ⟨A,c,rfl,hc,hr⟩
end Go.Proofs.Ytlilncnoohfcdaa.Opn
namespace Go.Proofs.Ytlilncnoohfcdaa.Opn
open Go.RowKit Go.Proofs.YtlilncnoohfcdaaW.PrintWords Go.Proofs.Ytlilncnoohfcdaa.Da Go.Proofs.Ytlilncnoohfcdaa.Br
def smpQ (x:S57):Prop:=wf64 x.f0∧wf64 x.f1∧wf64 x.f2∧wf64 x.f3∧wf64 x.f4
set_option maxRecDepth 100000 in
theorem op_smp:Opens Try.prog 57 k57 smpQ:=
  op_struct Try.underlying57 (by kernel_rfl) (f_iso (fun x:S57=>(x.f0,x.f1,x.f2,x.f3,x.f4)) (fun p=>⟨p.1,p.2.1,p.2.2.1,p.2.2.2.1,p.2.2.2.2⟩) (fun _=>rfl) (zcd rfl (by kernel_rfl) (zb9 Try.underlying3) (zcd rfl (by kernel_rfl) (zb9 Try.underlying3) (zcd rfl (by kernel_rfl) (zb9 Try.underlying3) (zcd rfl (by kernel_rfl) (zb9 Try.underlying3) (f_last rfl (by kernel_rfl) (zb9 Try.underlying3)))))))
set_option maxRecDepth 100000 in
theorem op_smps:Opens Try.prog 50 (Kd.slice 57 k57) (fun l=>∀ x ∈ l,smpQ x):=op_slice Try.underlying50 (by kernel_rfl) op_smp
def dbQ (x:S28):Prop:=wf64 x.f0∧wf64 x.f1∧wf64 x.f2∧wf64 x.f3∧wf64 x.f4
set_option maxRecDepth 100000 in
theorem op_db:Opens Try.prog 28 k28 dbQ:=
  op_struct Try.underlying28 (by kernel_rfl) (f_iso (fun x:S28=>(x.f0,x.f1,x.f2,x.f3,x.f4)) (fun p=>⟨p.1,p.2.1,p.2.2.1,p.2.2.2.1,p.2.2.2.2⟩) (fun _=>rfl) (zcd rfl (by kernel_rfl) (zb9 Try.underlying3) (zcd rfl (by kernel_rfl) (zb9 Try.underlying3) (zcd rfl (by kernel_rfl) (zb9 Try.underlying3) (zcd rfl (by kernel_rfl) (zb9 Try.underlying3) (f_last rfl (by kernel_rfl) (zb9 Try.underlying3)))))))
set_option maxRecDepth 100000 in
theorem op_dbs:Opens Try.prog 51 (Kd.slice 28 k28) (fun l=>∀ x ∈ l,dbQ x):=op_slice Try.underlying51 (by kernel_rfl) op_db
end Go.Proofs.Ytlilncnoohfcdaa.Opn
namespace Go.Proofs.Ytlilncnoohfcdaa.Opn
open Go.RowKit Go.ChangeShapes Go.WideShapes Go.Proofs.YtlilncnoohfcdaaW.PrintWords Go.Proofs.Ytlilncnoohfcdaa.Da
theorem sized_any {H:Type} {enc:TypeId×Value→H} {P:Program} {W:World} {base:Nat} {spare:Nat→Bool} {held:Bool} {t e:TypeId} {a:Option Addr} {len cap:Nat} {d:DataW H} {ps:List MemPlace} {ts:List TypeId} {ds:List (DataW H)} {j:Nat}
    (hsz:(DataW.weightsEach P ts ds).all (·≤reachBytes)=true) (ht:ts[j]? = some t) (hd:ds[j]? = some d) (hu:P.underlying t=some (.slice e)) {B:Nat} (hB:P.bytesOf e=B)
    (h:DataW.Trod enc P W base spare held t (.slice a len cap) d ps):len*B≤140737488351232:=by
  obtain ⟨fuel,hf⟩:=h
  rcases DataW.trod_slice hu hf with ⟨hcs,_⟩|⟨x,l,c,elems,rest,n,_,hcs,hx,_,hl,_,hlen,_⟩
  · simp [Value.cells] at hcs
    obtain ⟨_,rfl,_⟩:=hcs
    simp
  · simp [Value.cells] at hcs
    obtain ⟨_,rfl,_⟩:=hcs
    obtain ⟨hx,_⟩:=Prod.mk.inj hx
    subst hx
    have z:=sized_slice hsz ht hd hu
    rw [hB,List.length_map,List.length_map,hlen] at z
    exact Nat.le_trans (Nat.mul_le_mul_right _ (Nat.le_add_right _ _)) z
end Go.Proofs.Ytlilncnoohfcdaa.Opn
