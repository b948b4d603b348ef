/-
  A store to, and a load from, a box that holds a struct: one step each. Condition: the box holds the cells of that type.
-/
import Derived.Test.YtlilncnoohfcdaaBrx0
import Derived.Test.YtlilncnoohfcdaaDax8
namespace Go.Proofs.Ytlilncnoohfcdaa.Br
open Go.RowKit Go.Proofs.YtlilncnoohfcdaaW.PrintWords Go.Proofs.YtlilncnoohfcdaaW.PrintLast Go.Proofs.YtlilncnoohfcdaaW.PrintMore Go.Proofs.Ytlilncnoohfcdaa.Da
set_option linter.unusedVariables false
set_option maxHeartbeats 2000000 in
set_option maxRecDepth 100000 in
theorem ld_run26 {W:World} {g:Nat} {c0 c1 c2 c3 c4 c5 c6 c7 c8 c9 c10 c11 c12 c13 c14 c15:Value} (h:W.heap[g]? = some (.cells #[c0,c1,c2,c3,c4,c5,c6,c7,c8,c9,c10,c11,c12,c13,c14,c15] 26 (0,0))) :
    (Instr.loadAt 26 (.pointer (some ⟨g,0,none⟩))).run Try.prog W = .ok (.agg #[c0,c1,c2,c3,c4,c5,c6,c7,c8,c9,c10,c11,c12,c13,c14,c15]) W:=by
  have hu:=Try.underlying26
  obtain ⟨h0,h1,h2,h3,h4,h5,h6,h7,h8,h9,h10,h11,h12,h13,h14,h15⟩:=zD16 h
  clear h
  go_simp
section
variable {ops:Array Oper} {rest:List Oper} {o:Oper} {a:Act} {Q:Exit→Act→World→Prop}
theorem zbK {W:World} {p:Operand} (_ho:o.op = .load 26 p) (h:wpList Try.prog ops Q (o :: rest) a W):wpList Try.prog ops Q (o :: rest) a W:=h
theorem ld_hrun26 {W:World} {p:Operand} (ho:o.op = .load 26 p) {g:Nat} {c0 c1 c2 c3 c4 c5 c6 c7 c8 c9 c10 c11 c12 c13 c14 c15:Value}
    (hp:a.eval p = .pointer (some ⟨g,0,none⟩)) (hb:W.heap[g]? = some (.cells #[c0,c1,c2,c3,c4,c5,c6,c7,c8,c9,c10,c11,c12,c13,c14,c15] 26 (0,0))):(execOp a.eval o).run Try.prog W = .ok (.value (.agg #[c0,c1,c2,c3,c4,c5,c6,c7,c8,c9,c10,c11,c12,c13,c14,c15])) W:=by
  obtain ⟨dst,op,ty,pos,after,guard⟩:=o
  cases ho
  show (Sem.bind (Instr.loadAt 26 (a.eval p)) fun x=>pure (Next.value x)).run Try.prog W=_
  rw [hp,Sem.run_bind',ld_run26 hb]
  rfl
theorem ld_event26 {W:World} (hgd:o.guard=none) {p:Operand} (ho:o.op = .load 26 p) {g:Nat} {c0 c1 c2 c3 c4 c5 c6 c7 c8 c9 c10 c11 c12 c13 c14 c15:Value}
    (hp:a.eval p = .pointer (some ⟨g,0,none⟩)) (hb:W.heap[g]? = some (.cells #[c0,c1,c2,c3,c4,c5,c6,c7,c8,c9,c10,c11,c12,c13,c14,c15] 26 (0,0)))
    (h:wpList Try.prog ops Q rest (a.put o.dst (.agg #[c0,c1,c2,c3,c4,c5,c6,c7,c8,c9,c10,c11,c12,c13,c14,c15])) W):wpList Try.prog ops Q (o :: rest) a W:=Kd.event_run hgd (ld_hrun26 ho hp hb) h
end
set_option maxHeartbeats 2000000 in
set_option maxRecDepth 100000 in
theorem ld_run28 {W:World} {g:Nat} {c0 c1 c2 c3 c4:Value} (h:W.heap[g]? = some (.cells #[c0,c1,c2,c3,c4] 28 (0,0))) :
    (Instr.loadAt 28 (.pointer (some ⟨g,0,none⟩))).run Try.prog W = .ok (.agg #[c0,c1,c2,c3,c4]) W:=by
  have hu:=Try.underlying28
  obtain ⟨h0,h1,h2,h3,h4⟩:=zD5 h
  clear h
  go_simp
section
variable {ops:Array Oper} {rest:List Oper} {o:Oper} {a:Act} {Q:Exit→Act→World→Prop}
theorem zbL {W:World} {p:Operand} (_ho:o.op = .load 28 p) (h:wpList Try.prog ops Q (o :: rest) a W):wpList Try.prog ops Q (o :: rest) a W:=h
theorem ld_hrun28 {W:World} {p:Operand} (ho:o.op = .load 28 p) {g:Nat} {c0 c1 c2 c3 c4:Value}
    (hp:a.eval p = .pointer (some ⟨g,0,none⟩)) (hb:W.heap[g]? = some (.cells #[c0,c1,c2,c3,c4] 28 (0,0))):(execOp a.eval o).run Try.prog W = .ok (.value (.agg #[c0,c1,c2,c3,c4])) W:=by
  obtain ⟨dst,op,ty,pos,after,guard⟩:=o
  cases ho
  show (Sem.bind (Instr.loadAt 28 (a.eval p)) fun x=>pure (Next.value x)).run Try.prog W=_
  rw [hp,Sem.run_bind',ld_run28 hb]
  rfl
theorem ld_event28 {W:World} (hgd:o.guard=none) {p:Operand} (ho:o.op = .load 28 p) {g:Nat} {c0 c1 c2 c3 c4:Value}
    (hp:a.eval p = .pointer (some ⟨g,0,none⟩)) (hb:W.heap[g]? = some (.cells #[c0,c1,c2,c3,c4] 28 (0,0)))
    (h:wpList Try.prog ops Q rest (a.put o.dst (.agg #[c0,c1,c2,c3,c4])) W):wpList Try.prog ops Q (o :: rest) a W:=Kd.event_run hgd (ld_hrun28 ho hp hb) h
end
set_option maxHeartbeats 2000000 in
set_option maxRecDepth 100000 in
theorem ld_run57 {W:World} {g:Nat} {c0 c1 c2 c3 c4:Value} (h:W.heap[g]? = some (.cells #[c0,c1,c2,c3,c4] 57 (0,0))) :
    (Instr.loadAt 57 (.pointer (some ⟨g,0,none⟩))).run Try.prog W = .ok (.agg #[c0,c1,c2,c3,c4]) W:=by
  have hu:=Try.underlying57
  obtain ⟨h0,h1,h2,h3,h4⟩:=zD5 h
  clear h
  go_simp
section
variable {ops:Array Oper} {rest:List Oper} {o:Oper} {a:Act} {Q:Exit→Act→World→Prop}
theorem zbM {W:World} {p:Operand} (_ho:o.op = .load 57 p) (h:wpList Try.prog ops Q (o :: rest) a W):wpList Try.prog ops Q (o :: rest) a W:=h
theorem ld_hrun57 {W:World} {p:Operand} (ho:o.op = .load 57 p) {g:Nat} {c0 c1 c2 c3 c4:Value}
    (hp:a.eval p = .pointer (some ⟨g,0,none⟩)) (hb:W.heap[g]? = some (.cells #[c0,c1,c2,c3,c4] 57 (0,0))):(execOp a.eval o).run Try.prog W = .ok (.value (.agg #[c0,c1,c2,c3,c4])) W:=by
  obtain ⟨dst,op,ty,pos,after,guard⟩:=o
  cases ho
  show (Sem.bind (Instr.loadAt 57 (a.eval p)) fun x=>pure (Next.value x)).run Try.prog W=_
  rw [hp,Sem.run_bind',ld_run57 hb]
  rfl
theorem ld_event57 {W:World} (hgd:o.guard=none) {p:Operand} (ho:o.op = .load 57 p) {g:Nat} {c0 c1 c2 c3 c4:Value}
    (hp:a.eval p = .pointer (some ⟨g,0,none⟩)) (hb:W.heap[g]? = some (.cells #[c0,c1,c2,c3,c4] 57 (0,0)))
    (h:wpList Try.prog ops Q rest (a.put o.dst (.agg #[c0,c1,c2,c3,c4])) W):wpList Try.prog ops Q (o :: rest) a W:=Kd.event_run hgd (ld_hrun57 ho hp hb) h
end
section
variable {ops:Array Oper} {rest:List Oper} {o:Oper} {a:Act} {Q:Exit→Act→World→Prop}
theorem zle26 {W:World} {p:Operand} {g:Nat} {c0 c1 c2 c3 c4 c5 c6 c7 c8 c9 c10 c11 c12 c13 c14 c15:Value} (h:wpList Try.prog ops Q rest (a.put o.dst (.agg #[c0,c1,c2,c3,c4,c5,c6,c7,c8,c9,c10,c11,c12,c13,c14,c15])) W) (hgd:o.guard=none:=by rfl) (ho:o.op = .load 26 p:=by rfl) (hp:a.eval p = .pointer (some ⟨g,0,none⟩):=by rfl)
    (hb:W.heap[g]? = some (.cells #[c0,c1,c2,c3,c4,c5,c6,c7,c8,c9,c10,c11,c12,c13,c14,c15] 26 (0,0)):=by repeat (first|(with_reducible exact zaa.out (by assumption))|(with_reducible refine blk_drewN ?_ _)|(with_reducible refine zaM ?_)|(with_reducible refine zbz ?_ _)|refine zaA ?_ (by dsimp only;first|assumption|exact Ne.symm (by assumption)|exact zaa.out (by assumption)) _)):wpList Try.prog ops Q (o :: rest) a W:=ld_event26 hgd ho hp hb h
set_option maxHeartbeats 2000000 in
set_option maxRecDepth 100000 in
theorem ldc26 {W:World} {b f:Nat} {c0 c1 c2 c3 c4 c5 c6 c7 c8 c9 c10 c11 c12 c13 c14 c15:Value} (h0:W.cell? ⟨b,f,none⟩=some c0) (h1:W.cell? ⟨b,f+1,none⟩=some c1) (h2:W.cell? ⟨b,f+2,none⟩=some c2) (h3:W.cell? ⟨b,f+3,none⟩=some c3) (h4:W.cell? ⟨b,f+4,none⟩=some c4) (h5:W.cell? ⟨b,f+5,none⟩=some c5) (h6:W.cell? ⟨b,f+6,none⟩=some c6) (h7:W.cell? ⟨b,f+7,none⟩=some c7) (h8:W.cell? ⟨b,f+8,none⟩=some c8) (h9:W.cell? ⟨b,f+9,none⟩=some c9) (h10:W.cell? ⟨b,f+10,none⟩=some c10) (h11:W.cell? ⟨b,f+11,none⟩=some c11) (h12:W.cell? ⟨b,f+12,none⟩=some c12) (h13:W.cell? ⟨b,f+13,none⟩=some c13) (h14:W.cell? ⟨b,f+14,none⟩=some c14) (h15:W.cell? ⟨b,f+15,none⟩=some c15):(Instr.loadAt 26 (.pointer (some ⟨b,f,none⟩))).run Try.prog W = .ok (.agg #[c0,c1,c2,c3,c4,c5,c6,c7,c8,c9,c10,c11,c12,c13,c14,c15]) W:=by
  have hu:=Try.underlying26
  go_simp
theorem ldy26 {W:World} {p:Operand} {b f:Nat} {c0 c1 c2 c3 c4 c5 c6 c7 c8 c9 c10 c11 c12 c13 c14 c15:Value} (ho:o.op = .load 26 p) (hp:a.eval p = .pointer (some ⟨b,f,none⟩)) (h0:W.cell? ⟨b,f,none⟩=some c0:=by assumption) (h1:W.cell? ⟨b,f+1,none⟩=some c1:=by assumption) (h2:W.cell? ⟨b,f+2,none⟩=some c2:=by assumption) (h3:W.cell? ⟨b,f+3,none⟩=some c3:=by assumption) (h4:W.cell? ⟨b,f+4,none⟩=some c4:=by assumption) (h5:W.cell? ⟨b,f+5,none⟩=some c5:=by assumption) (h6:W.cell? ⟨b,f+6,none⟩=some c6:=by assumption) (h7:W.cell? ⟨b,f+7,none⟩=some c7:=by assumption) (h8:W.cell? ⟨b,f+8,none⟩=some c8:=by assumption) (h9:W.cell? ⟨b,f+9,none⟩=some c9:=by assumption) (h10:W.cell? ⟨b,f+10,none⟩=some c10:=by assumption) (h11:W.cell? ⟨b,f+11,none⟩=some c11:=by assumption) (h12:W.cell? ⟨b,f+12,none⟩=some c12:=by assumption) (h13:W.cell? ⟨b,f+13,none⟩=some c13:=by assumption) (h14:W.cell? ⟨b,f+14,none⟩=some c14:=by assumption) (h15:W.cell? ⟨b,f+15,none⟩=some c15:=by assumption):(execOp a.eval o).run Try.prog W = .ok (.value (.agg #[c0,c1,c2,c3,c4,c5,c6,c7,c8,c9,c10,c11,c12,c13,c14,c15])) W:=by
  obtain ⟨dst,op,ty,pos,after,guard⟩:=o
  cases ho
  show (Sem.bind (Instr.loadAt 26 (a.eval p)) fun x=>pure (Next.value x)).run Try.prog W=_
  rw [hp,Sem.run_bind',ldc26 h0 h1 h2 h3 h4 h5 h6 h7 h8 h9 h10 h11 h12 h13 h14 h15]
  rfl
theorem zle28 {W:World} {p:Operand} {g:Nat} {c0 c1 c2 c3 c4:Value} (h:wpList Try.prog ops Q rest (a.put o.dst (.agg #[c0,c1,c2,c3,c4])) W) (hgd:o.guard=none:=by rfl) (ho:o.op = .load 28 p:=by rfl) (hp:a.eval p = .pointer (some ⟨g,0,none⟩):=by rfl)
    (hb:W.heap[g]? = some (.cells #[c0,c1,c2,c3,c4] 28 (0,0)):=by repeat (first|(with_reducible exact zaa.out (by assumption))|(with_reducible refine blk_drewN ?_ _)|(with_reducible refine zaM ?_)|(with_reducible refine zbz ?_ _)|refine zaA ?_ (by dsimp only;first|assumption|exact Ne.symm (by assumption)|exact zaa.out (by assumption)) _)):wpList Try.prog ops Q (o :: rest) a W:=ld_event28 hgd ho hp hb h
set_option maxHeartbeats 2000000 in
set_option maxRecDepth 100000 in
theorem ldc28 {W:World} {b f:Nat} {c0 c1 c2 c3 c4:Value} (h0:W.cell? ⟨b,f,none⟩=some c0) (h1:W.cell? ⟨b,f+1,none⟩=some c1) (h2:W.cell? ⟨b,f+2,none⟩=some c2) (h3:W.cell? ⟨b,f+3,none⟩=some c3) (h4:W.cell? ⟨b,f+4,none⟩=some c4):(Instr.loadAt 28 (.pointer (some ⟨b,f,none⟩))).run Try.prog W = .ok (.agg #[c0,c1,c2,c3,c4]) W:=by
  have hu:=Try.underlying28
  go_simp
theorem ldy28 {W:World} {p:Operand} {b f:Nat} {c0 c1 c2 c3 c4:Value} (ho:o.op = .load 28 p) (hp:a.eval p = .pointer (some ⟨b,f,none⟩)) (h0:W.cell? ⟨b,f,none⟩=some c0:=by assumption) (h1:W.cell? ⟨b,f+1,none⟩=some c1:=by assumption) (h2:W.cell? ⟨b,f+2,none⟩=some c2:=by assumption) (h3:W.cell? ⟨b,f+3,none⟩=some c3:=by assumption) (h4:W.cell? ⟨b,f+4,none⟩=some c4:=by assumption):(execOp a.eval o).run Try.prog W = .ok (.value (.agg #[c0,c1,c2,c3,c4])) W:=by
  obtain ⟨dst,op,ty,pos,after,guard⟩:=o
  cases ho
  show (Sem.bind (Instr.loadAt 28 (a.eval p)) fun x=>pure (Next.value x)).run Try.prog W=_
  rw [hp,Sem.run_bind',ldc28 h0 h1 h2 h3 h4]
  rfl
theorem zle57 {W:World} {p:Operand} {g:Nat} {c0 c1 c2 c3 c4:Value} (h:wpList Try.prog ops Q rest (a.put o.dst (.agg #[c0,c1,c2,c3,c4])) W) (hgd:o.guard=none:=by rfl) (ho:o.op = .load 57 p:=by rfl) (hp:a.eval p = .pointer (some ⟨g,0,none⟩):=by rfl)
    (hb:W.heap[g]? = some (.cells #[c0,c1,c2,c3,c4] 57 (0,0)):=by repeat (first|(with_reducible exact zaa.out (by assumption))|(with_reducible refine blk_drewN ?_ _)|(with_reducible refine zaM ?_)|(with_reducible refine zbz ?_ _)|refine zaA ?_ (by dsimp only;first|assumption|exact Ne.symm (by assumption)|exact zaa.out (by assumption)) _)):wpList Try.prog ops Q (o :: rest) a W:=ld_event57 hgd ho hp hb h
set_option maxHeartbeats 2000000 in
set_option maxRecDepth 100000 in
theorem ldc57 {W:World} {b f:Nat} {c0 c1 c2 c3 c4:Value} (h0:W.cell? ⟨b,f,none⟩=some c0) (h1:W.cell? ⟨b,f+1,none⟩=some c1) (h2:W.cell? ⟨b,f+2,none⟩=some c2) (h3:W.cell? ⟨b,f+3,none⟩=some c3) (h4:W.cell? ⟨b,f+4,none⟩=some c4):(Instr.loadAt 57 (.pointer (some ⟨b,f,none⟩))).run Try.prog W = .ok (.agg #[c0,c1,c2,c3,c4]) W:=by
  have hu:=Try.underlying57
  go_simp
theorem ldy57 {W:World} {p:Operand} {b f:Nat} {c0 c1 c2 c3 c4:Value} (ho:o.op = .load 57 p) (hp:a.eval p = .pointer (some ⟨b,f,none⟩)) (h0:W.cell? ⟨b,f,none⟩=some c0:=by assumption) (h1:W.cell? ⟨b,f+1,none⟩=some c1:=by assumption) (h2:W.cell? ⟨b,f+2,none⟩=some c2:=by assumption) (h3:W.cell? ⟨b,f+3,none⟩=some c3:=by assumption) (h4:W.cell? ⟨b,f+4,none⟩=some c4:=by assumption):(execOp a.eval o).run Try.prog W = .ok (.value (.agg #[c0,c1,c2,c3,c4])) W:=by
  obtain ⟨dst,op,ty,pos,after,guard⟩:=o
  cases ho
  show (Sem.bind (Instr.loadAt 57 (a.eval p)) fun x=>pure (Next.value x)).run Try.prog W=_
  rw [hp,Sem.run_bind',ldc57 h0 h1 h2 h3 h4]
  rfl
theorem zyl {S:World→Prop} {v:Value} (h:YieldsIf Try.prog ops S o v a:=by exact Or.inl ⟨by rfl,by intro w' s;(repeat (obtain ⟨_,s⟩:=s));first|exact ldy26 rfl rfl|exact ldy28 rfl rfl|exact ldy57 rfl rfl⟩):YieldsIf Try.prog ops S o v a:=h
end
section
variable {ops:Array Oper} {Q:Exit→Act→World→Prop} {md:Region.Mode} {S:World→Prop} {ds:List Nat} {T:Bool×List (List Nat×List Nat)}
theorem ztl {oi:Oper} {v:Value} {fuel:Nat} {B:List Nat} {l l':Array Bool} {a a':Act} {w:World} (i N:Nat) (hT:rtab md ops=T) (hB:zbE T.2 B=true) (hS:S w) (h:za8 Try.prog md ops Q S ds fuel l' a' w)
    (hi:ops[i]? = some oi:=by rfl) (hN:oi.dst=some N:=by rfl) (hl:l.setIfInBounds i true=l':=by simp only [List.setIfInBounds_toArray,List.set_cons_zero,List.set_cons_succ];rfl) (hc:takeW T B ds l.toList l'.toList i=true:=by kernel_rfl)
    (hy:YieldsIf Try.prog ops S oi v a:=by first|exact zyl|exact Or.inl ⟨by rfl,by intro w' s;go_simp;with_reducible rfl⟩) (hQ : ∀ c a w,Q (.panic c) (a.put oi.dst v) w→Q (.panic c) a w:=by exact fun _ _ _ h=>h)
    (ha:a.put (some N) v=a':=by simp only [Act.put,List.setIfInBounds_toArray,List.set_cons_zero,List.set_cons_succ,zbY,zcc];rfl):za8 Try.prog md ops Q S ds (fuel+1) l a w:=
  take_ l' hi hN (take_ofW hT hB hc) hQ hy hS ha h
theorem ztm {oi:Oper} {v:Value} {fuel:Nat} {l l':Array Bool} {a a':Act} {w:World} (i N:Nat) (hS:S w) (h:za8 Try.prog md ops Q S ds fuel l' a' w)
    (hi:ops[i]? = some oi:=by rfl) (hN:oi.dst=some N:=by rfl) (hl:l.setIfInBounds i true=l':=by simp only [List.setIfInBounds_toArray,List.set_cons_zero,List.set_cons_succ];rfl) (hc:takeB md ops ds l l' i=true:=by kernel_rfl)
    (hy:YieldsIf Try.prog ops S oi v a:=by first|exact zyl|exact Or.inl ⟨by rfl,by intro w' s;go_simp;with_reducible rfl⟩) (hQ : ∀ c a w,Q (.panic c) (a.put oi.dst v) w→Q (.panic c) a w:=by exact fun _ _ _ h=>h)
    (ha:a.put (some N) v=a':=by simp only [Act.put,List.setIfInBounds_toArray,List.set_cons_zero,List.set_cons_succ,zbY,zcc];rfl):za8 Try.prog md ops Q S ds (fuel+1) l a w:=
  take_ l' hi hN hc hQ hy hS ha h
theorem zpm {oi:Oper} {v:Value} {fuel:Nat} {l l':Array Bool} {a a':Act} {w:World} (i N:Nat) (h:za8 Try.prog md ops Q S ds fuel l' a' w)
    (hi:ops[i]? = some oi:=by rfl) (hN:oi.dst=some N:=by rfl) (hl:l.setIfInBounds i true=l':=by simp only [List.setIfInBounds_toArray,List.set_cons_zero,List.set_cons_succ];rfl) (hc:anyB md ops l l' i=true:=by kernel_rfl)
    (hy:Yields Try.prog ops oi v a:=by exact Or.inl ⟨by rfl,by intro w';go_simp;with_reducible rfl⟩) (hQ : ∀ c a w,Q (.panic c) (a.put oi.dst v) w→Q (.panic c) a w:=by exact fun _ _ _ h=>h)
    (ha:a.put (some N) v=a':=by simp only [Act.put,List.setIfInBounds_toArray,List.set_cons_zero,List.set_cons_succ,zbY,zcc];rfl):za8 Try.prog md ops Q S ds (fuel+1) l a w:=
  pure_ l' hi hN hc hQ hy ha h
end
end Go.Proofs.Ytlilncnoohfcdaa.Br
