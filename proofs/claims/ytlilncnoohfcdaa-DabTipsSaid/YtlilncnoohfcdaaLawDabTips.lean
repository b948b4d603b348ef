/-
  DabTips: for every input the law returns true, and its arguments read as they did. No condition.
-/
import Derived.Test.YtlilncnoohfcdaaRows
import Derived.Test.YtlilncnoohfcdaaPureDabTips
import Derived.Test.YtlilncnoohfcdaaBKinds
import Derived.WalkKit
import Derived.ProofKit
import Derived.OpenShut
import Derived.ShutString
import Derived.ChangeOld
import Derived.Below
import Derived.SizedLaws
import Derived.Carry
namespace Go.Proofs.Ytlilncnoohfcdaa.dabTips
open Go.ChangeShapes Go.WideShapes Go.ChangeAt Go.RowKit
set_option linter.unusedVariables false
theorem own:ownKnob Try.prog.godebug=none:=by kernel_rfl
set_option maxRecDepth 100000 in
theorem lifted (os:Os) (started:os.Started) (H:Type) (enc:TypeId×Value→H) :
    ReturnsInHanded {} Try.checked os 4 .any (Rows.dabTipsSpec.pre6 enc Try.prog Try.f4 Rows.dabTipsRow.domain false) (Rows.dabTipsSpec.post enc Try.prog Try.f4 false true false false):=by
  refine returnsInHanded_of_change_sized (C:=Try.checked) own started (by kernel_rfl) Try.func4
    (ChangeSpec.witness6 (enc:=enc) (C:=Try.checked) false ⟨#[],#[.agg #[.int .i64 0,.int .i64 0,.int .i64 0,.int .i64 0,.int .i64 0,.int .i64 0,.int .i64 0,.int .i64 0,.int .i64 0,.int .i64 0,.int .i64 0,.int .i64 0,.int .i64 0,.int .i64 0,.slice none 0 0,.bool false],.agg #[.int .i64 0,.int .i64 0,.int .i64 0,.int .i64 0,.int .i64 0],.agg #[.int .i64 0,.int .i64 0,.int .i64 0,.int .i64 0]],[]⟩ 8 (by kernel_rfl) (by kernel_rfl) (by kernel_rfl) (by kernel_rfl)) ?_
  intro W base args ds gs before hval0 hW hcnd hsz0 _
  have hval : ∀ (j:Nat) t v,Try.f4.params[j]? = some t→args[j]? = some v→Value.okWide Try.prog W .any base t v:=hval0
  have hW':=hW
  obtain ⟨p,q,hA0,hV,rfl,hfz,hnd⟩:=hW
  have hA:DataW.TrodAll enc Try.prog W 0 (fun _=>true) true Try.f4.params.toList args.toList ds p:=hA0
  rw [Try.params4] at hA hval
  obtain ⟨v0,vs0,d0,ds0,p0,q0,hargs,rfl,rfl,h0,r0⟩:=trodAll_cons hA
  obtain ⟨v1,vs1,d1,ds1,p1,q1,rfl,rfl,rfl,h1,r1⟩:=trodAll_cons r0
  obtain ⟨v2,vs2,d2,ds2,p2,q2,rfl,rfl,rfl,h2,r2⟩:=trodAll_cons r1
  obtain ⟨rfl,rfl,rfl⟩:=trodAll_nil r2
  obtain rfl:args=#[v0,v1,v2]:=by cases args;simp_all
  obtain ⟨rfl,rfl⟩:=trodVars_none hV
  have k0:=h0
  have k1:=h1
  have k2:=h2
  have ⟨fu0,hf0⟩:=h0
  obtain ⟨x0,hk0,q0⟩:=Opn.op_brush.out enc W _ fu0 _ _ hf0
  obtain ⟨a0_0,a0_1,a0_2,a0_3,a0_4,a0_5,a0_6,a0_7,a0_8,⟨a0_9,a0_10,a0_11,a0_12⟩,a0_13,a0_14,a0_15⟩:=x0
  have he0:=Opn.op_brush_K hk0
  obtain ⟨s0_14,c0_14,he0,hc0_14,hr0_14⟩:=he0
  obtain rfl:=Opn.agg_of he0
  have ⟨fu1,hf1⟩:=h1
  obtain ⟨x1,hk1,q1⟩:=Opn.op_dab.out enc W _ fu1 _ _ hf1
  obtain ⟨a1_0,a1_1,a1_2,a1_3,a1_4⟩:=x1
  have he1:=Opn.op_dab_K hk1
  obtain rfl:=Opn.agg_of he1
  have ⟨fu2,hf2⟩:=h2
  obtain ⟨x2,hk2,q2⟩:=Opn.op_rect.out enc W _ fu2 _ _ hf2
  obtain ⟨a2_0,a2_1,a2_2,a2_3⟩:=x2
  have he2:=Opn.op_rect_K hk2
  obtain rfl:=Opn.agg_of he2
  clear hA0 hval0 hsz0 hval
  have pure:Db.imageeditorlaw27_DabTips.f 100000 a0_0 a0_1 a0_2 a0_3 a0_4 a0_5 a0_6 a0_7 a0_8 a0_9 a0_10 a0_11 a0_12 a0_13 a0_14 a0_15 a1_0 a1_1 a1_2 a1_3 a1_4 a2_0 a2_1 a2_2 a2_3=some true:=Num.dabTips _ _ _ _ _ _ _ _ _ _ _ _ _ _ _ _ _ _ _ _ _ _ _ _ _ q1.2.2.2.2 100000 (by decide)
  refine (Db.imageeditorlaw27_DabTips.calls 100000 a0_0 a0_1 a0_2 a0_3 a0_4 a0_5 a0_6 a0_7 a0_8 a0_9 a0_10 a0_11 a0_12 a0_13 s0_14 c0_14 a0_14 a0_15 a1_0 a1_1 a1_2 a1_3 a1_4 a2_0 a2_1 a2_2 a2_3 true W hr0_14 hc0_14 pure).mono fun e W' ⟨he,bel⟩=>?_
  subst he
  exact ⟨_,rfl,_,_,_,[],_,[],hW',trodAll_mk1 (shut_bool Try.underlying4 _),(trodAll_cons_mk (Below.trod Opn.laidOut (by kernel_rfl) (of_decide_eq_true (by kernel_rfl)) k0 bel (by obtain ⟨m,hm⟩:=k0;exact DataW.trod_lt m _ _ _ hm)) (trodAll_cons_mk (Below.trod Opn.laidOut (by kernel_rfl) (of_decide_eq_true (by kernel_rfl)) k1 bel (by obtain ⟨m,hm⟩:=k1;exact DataW.trod_lt m _ _ _ hm)) (trodAll_cons_mk (Below.trod Opn.laidOut (by kernel_rfl) (of_decide_eq_true (by kernel_rfl)) k2 bel (by obtain ⟨m,hm⟩:=k2;exact DataW.trod_lt m _ _ _ hm)) trodAll_mk0))),rfl,bel.frame _,fun h=>by cases h⟩
theorem over:Rows.dabTipsRow.holds Try.pinned (OpenSpec.ofChange Rows.dabTipsSpec):=
  OpenClaim.holds_of_wide 4 Try.f4 rfl rfl rfl rfl rfl rfl rfl ⟨rfl,rfl,rfl,rfl,rfl⟩ rfl rfl rfl rfl rfl (by kernel_rfl) Try.func4 (by kernel_rfl)
    (of_decide_eq_true (by kernel_rfl)) (by unfold Func.isWrapper;first|(rw [if_pos (by decide +kernel)];kernel_rfl)|(rw [if_neg (by decide +kernel)];exact ⟨rfl,rfl⟩))
    (fun os started H enc _=>lifted os started H enc)
theorem proved:Rows.DabTipsSaid:=over
#print axioms proved
end Go.Proofs.Ytlilncnoohfcdaa.dabTips
namespace Go.Proofs.Ytlilncnoohfcdaa
theorem dabTips_holds:Rows.DabTipsSaid:=dabTips.proved
end Go.Proofs.Ytlilncnoohfcdaa
