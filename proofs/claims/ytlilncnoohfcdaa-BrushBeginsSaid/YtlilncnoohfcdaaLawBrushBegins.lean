/-
  BrushBegins: for every input the law returns true, and its arguments read as they did. No condition.
-/
import Derived.Test.YtlilncnoohfcdaaRows
import Derived.Test.YtlilncnoohfcdaaPureBrushBegins
import Derived.Test.YtlilncnoohfcdaaKinds
import Derived.WalkKit
import Derived.ProofKit
import Derived.OpenShut
import Derived.ShutString
import Derived.ChangeOld
import Derived.Below
import Derived.SizedLaws
import Derived.Carry
namespace Go.Proofs.Ytlilncnoohfcdaa.brushBegins
open Go.ChangeShapes Go.WideShapes Go.ChangeAt Go.RowKit
set_option linter.unusedVariables false
theorem own:ownKnob Try.prog.godebug=none:=by kernel_rfl
set_option maxRecDepth 100000 in
theorem lifted (os:Os) (started:os.Started) (H:Type) (enc:TypeId×Value→H) :
    ReturnsInHanded {} Try.checked os 8 .any (Rows.brushBeginsSpec.pre6 enc Try.prog Try.f8 Rows.brushBeginsRow.domain false) (Rows.brushBeginsSpec.post enc Try.prog Try.f8 false true false false):=by
  refine returnsInHanded_of_change_sized (C:=Try.checked) own started (by kernel_rfl) Try.func8
    (ChangeSpec.witness6 (enc:=enc) (C:=Try.checked) false ⟨#[],#[.agg #[.int .i64 0,.int .i64 0,.int .i64 0,.int .i64 0,.int .i64 0,.int .i64 0,.int .i64 0,.int .i64 0,.int .i64 0,.int .i64 0,.int .i64 0,.int .i64 0,.int .i64 0,.int .i64 0,.slice none 0 0,.bool false],.slice none 0 0,.int .i64 0],[]⟩ 8 (by kernel_rfl) (by kernel_rfl) (by kernel_rfl) (by kernel_rfl)) ?_
  intro W base args ds gs before hval0 hW hcnd hsz0 _
  have hval : ∀ (j:Nat) t v,Try.f8.params[j]? = some t→args[j]? = some v→Value.okWide Try.prog W .any base t v:=hval0
  have hW':=hW
  obtain ⟨p,q,hA0,hV,rfl,hfz,hnd⟩:=hW
  have hA:DataW.TrodAll enc Try.prog W 0 (fun _=>true) true Try.f8.params.toList args.toList ds p:=hA0
  rw [Try.params8] at hA hval
  obtain ⟨v0,vs0,d0,ds0,p0,q0,hargs,rfl,rfl,h0,r0⟩:=trodAll_cons hA
  obtain ⟨v1,vs1,d1,ds1,p1,q1,rfl,rfl,rfl,h1,r1⟩:=trodAll_cons r0
  obtain ⟨v2,vs2,d2,ds2,p2,q2,rfl,rfl,rfl,h2,r2⟩:=trodAll_cons r1
  obtain ⟨rfl,rfl,rfl⟩:=trodAll_nil r2
  obtain rfl:args=#[v0,v1,v2]:=by cases args;simp_all
  obtain ⟨rfl,rfl⟩:=trodVars_none hV
  have k0:=h0
  have k1:=h1
  have k2:=h2
  have ⟨fu0,hf0⟩:=h0
  obtain ⟨x0,hk0,q0⟩:=Opn.op_brush.out enc W _ fu0 _ _ hf0
  obtain ⟨a0_0,a0_1,a0_2,a0_3,a0_4,a0_5,a0_6,a0_7,a0_8,⟨a0_9,a0_10,a0_11,a0_12⟩,a0_13,a0_14,a0_15⟩:=x0
  have he0:=Opn.op_brush_K hk0
  obtain ⟨s0_14,c0_14,he0,hc0_14,hr0_14⟩:=he0
  obtain rfl:=Opn.agg_of he0
  obtain ⟨s1,m1,c1,rfl⟩:=okWide_slice Try.underlying50 (hval 1 50 v1 rfl rfl)
  have ⟨fu1,hf1⟩:=h1
  obtain ⟨l1,⟨A1,c1',he1,hc1,hr1⟩,q1⟩:=Opn.op_smps.out enc W _ fu1 _ _ hf1
  obtain ⟨rfl,rfl,rfl⟩:=Opn.slice_of he1
  obtain ⟨a2,rfl,rfl,rfl,w2⟩:=open_int Try.underlying3 (hval 2 3 v2 rfl rfl) h2
  clear hA0 hval0 hsz0 hval
  have pure:Br.imageeditorlaw28_BrushBegins.f 5000 a0_0 a0_1 a0_2 a0_3 a0_4 a0_5 a0_6 a0_7 a0_8 a0_9 a0_10 a0_11 a0_12 a0_13 a0_14 a0_15 l1 a2=some true:=Num.brushBegins _ _ _ _ _ _ _ _ _ _ _ _ _ _ _ _ _ _ 5000 (by decide)
  refine (Br.imageeditorlaw28_BrushBegins.calls 5000 a0_0 a0_1 a0_2 a0_3 a0_4 a0_5 a0_6 a0_7 a0_8 a0_9 a0_10 a0_11 a0_12 a0_13 s0_14 c0_14 a0_14 a0_15 s1 c1 l1 a2 true W hr0_14 hc0_14 hr1 hc1 pure).mono fun e W' ⟨he,bel⟩=>?_
  subst he
  exact ⟨_,rfl,_,_,_,[],_,[],hW',trodAll_mk1 (shut_bool Try.underlying4 _),(trodAll_cons_mk (Below.trod Opn.laidOut (by kernel_rfl) (of_decide_eq_true (by kernel_rfl)) k0 bel (by obtain ⟨m,hm⟩:=k0;exact DataW.trod_lt m _ _ _ hm)) (trodAll_cons_mk (Below.trod Opn.laidOut (by kernel_rfl) (of_decide_eq_true (by kernel_rfl)) k1 bel (by obtain ⟨m,hm⟩:=k1;exact DataW.trod_lt m _ _ _ hm)) (trodAll_cons_mk (Below.trod Opn.laidOut (by kernel_rfl) (of_decide_eq_true (by kernel_rfl)) k2 bel (by obtain ⟨m,hm⟩:=k2;exact DataW.trod_lt m _ _ _ hm)) trodAll_mk0))),rfl,bel.frame _,fun h=>by cases h⟩
theorem over:Rows.brushBeginsRow.holds Try.pinned (OpenSpec.ofChange Rows.brushBeginsSpec):=
  OpenClaim.holds_of_wide 8 Try.f8 rfl rfl rfl rfl rfl rfl rfl ⟨rfl,rfl,rfl,rfl,rfl⟩ rfl rfl rfl rfl rfl (by kernel_rfl) Try.func8 (by kernel_rfl)
    (of_decide_eq_true (by kernel_rfl)) (by unfold Func.isWrapper;first|(rw [if_pos (by decide +kernel)];kernel_rfl)|(rw [if_neg (by decide +kernel)];exact ⟨rfl,rfl⟩))
    (fun os started H enc _=>lifted os started H enc)
theorem proved:Rows.BrushBeginsSaid:=over
#print axioms proved
end Go.Proofs.Ytlilncnoohfcdaa.brushBegins
namespace Go.Proofs.Ytlilncnoohfcdaa
theorem brushBegins_holds:Rows.BrushBeginsSaid:=brushBegins.proved
end Go.Proofs.Ytlilncnoohfcdaa
