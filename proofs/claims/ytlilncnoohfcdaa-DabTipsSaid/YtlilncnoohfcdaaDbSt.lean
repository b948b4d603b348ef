/-
  A store to, and a load from, a box that holds a struct: one step each. Condition: the box holds the cells of that type.
-/
import Derived.Test.YtlilncnoohfcdaaDbx1
import Derived.Test.YtlilncnoohfcdaaDax8
namespace Go.Proofs.Ytlilncnoohfcdaa.Db
open Go.RowKit Go.Proofs.YtlilncnoohfcdaaW.PrintWords Go.Proofs.YtlilncnoohfcdaaW.PrintLast Go.Proofs.YtlilncnoohfcdaaW.PrintMore Go.Proofs.Ytlilncnoohfcdaa.Da
set_option linter.unusedVariables false
theorem zbA {P:Program} {ops:Array Oper} {Q:Exit→Act→World→Prop} {L:List Oper} {a:Act} {W:World} (h:wpList P ops Q L a W):wpList P ops Q L a W:=h
set_option maxHeartbeats 2000000 in
set_option maxRecDepth 100000 in
theorem st_run26 {W:World} {g:Nat} {c0 c1 c2 c3 c4 c5 c6 c7 c8 c9 c10 c11 c12 c13 c14 c15:Value} (h:W.heap[g]? = some (.cells #[c0,c1,c2,c3,c4,c5,c6,c7,c8,c9,c10,c11,c12,c13,c14,c15] 26 (0,0))) (v0:Int) (v1:Int) (v2:Int) (v3:Int) (v4:Int) (v5:Int) (v6:Int) (v7:Int) (v8:Int) (v9:Int) (v10:Int) (v11:Int) (v12:Int) (v13:Int) (A14:Option Addr) (n14 k14:Nat) (v15:Bool) :
    (Instr.storeAt 26 (.pointer (some ⟨g,0,none⟩)) (.agg #[.int .i64 v0,.int .i64 v1,.int .i64 v2,.int .i64 v3,.int .i64 v4,.int .i64 v5,.int .i64 v6,.int .i64 v7,.int .i64 v8,.int .i64 v9,.int .i64 v10,.int .i64 v11,.int .i64 v12,.int .i64 v13,.slice A14 n14 k14,.bool v15])).run Try.prog W = .ok () ((((((((((((((((W.setCell ⟨g,0,none⟩ (.int .i64 v0)).setCell ⟨g,1,none⟩ (.int .i64 v1)).setCell ⟨g,2,none⟩ (.int .i64 v2)).setCell ⟨g,3,none⟩ (.int .i64 v3)).setCell ⟨g,4,none⟩ (.int .i64 v4)).setCell ⟨g,5,none⟩ (.int .i64 v5)).setCell ⟨g,6,none⟩ (.int .i64 v6)).setCell ⟨g,7,none⟩ (.int .i64 v7)).setCell ⟨g,8,none⟩ (.int .i64 v8)).setCell ⟨g,9,none⟩ (.int .i64 v9)).setCell ⟨g,10,none⟩ (.int .i64 v10)).setCell ⟨g,11,none⟩ (.int .i64 v11)).setCell ⟨g,12,none⟩ (.int .i64 v12)).setCell ⟨g,13,none⟩ (.int .i64 v13)).setCell ⟨g,14,none⟩ (.slice A14 n14 k14)).setCell ⟨g,15,none⟩ (.bool v15)):=by
  have hu:=Try.underlying26
  obtain ⟨h0,h1,h2,h3,h4,h5,h6,h7,h8,h9,h10,h11,h12,h13,h14,h15⟩:=zD16 h
  obtain ⟨f0,f1,f2,f3,f4,f5,f6,f7,f8,f9,f10,f11,f12,f13,f14,f15⟩:=zE16 h
  clear h
  go_simp
set_option maxHeartbeats 2000000 in
set_option maxRecDepth 100000 in
theorem ld_run26 {W:World} {g:Nat} {c0 c1 c2 c3 c4 c5 c6 c7 c8 c9 c10 c11 c12 c13 c14 c15:Value} (h:W.heap[g]? = some (.cells #[c0,c1,c2,c3,c4,c5,c6,c7,c8,c9,c10,c11,c12,c13,c14,c15] 26 (0,0))) :
    (Instr.loadAt 26 (.pointer (some ⟨g,0,none⟩))).run Try.prog W = .ok (.agg #[c0,c1,c2,c3,c4,c5,c6,c7,c8,c9,c10,c11,c12,c13,c14,c15]) W:=by
  have hu:=Try.underlying26
  obtain ⟨h0,h1,h2,h3,h4,h5,h6,h7,h8,h9,h10,h11,h12,h13,h14,h15⟩:=zD16 h
  clear h
  go_simp
theorem st_blk26 {W:World} {g:Nat} {c0 c1 c2 c3 c4 c5 c6 c7 c8 c9 c10 c11 c12 c13 c14 c15:Value} (h:W.heap[g]? = some (.cells #[c0,c1,c2,c3,c4,c5,c6,c7,c8,c9,c10,c11,c12,c13,c14,c15] 26 (0,0))) (v0:Int) (v1:Int) (v2:Int) (v3:Int) (v4:Int) (v5:Int) (v6:Int) (v7:Int) (v8:Int) (v9:Int) (v10:Int) (v11:Int) (v12:Int) (v13:Int) (A14:Option Addr) (n14 k14:Nat) (v15:Bool) :
    ((((((((((((((((W.setCell ⟨g,0,none⟩ (.int .i64 v0)).setCell ⟨g,1,none⟩ (.int .i64 v1)).setCell ⟨g,2,none⟩ (.int .i64 v2)).setCell ⟨g,3,none⟩ (.int .i64 v3)).setCell ⟨g,4,none⟩ (.int .i64 v4)).setCell ⟨g,5,none⟩ (.int .i64 v5)).setCell ⟨g,6,none⟩ (.int .i64 v6)).setCell ⟨g,7,none⟩ (.int .i64 v7)).setCell ⟨g,8,none⟩ (.int .i64 v8)).setCell ⟨g,9,none⟩ (.int .i64 v9)).setCell ⟨g,10,none⟩ (.int .i64 v10)).setCell ⟨g,11,none⟩ (.int .i64 v11)).setCell ⟨g,12,none⟩ (.int .i64 v12)).setCell ⟨g,13,none⟩ (.int .i64 v13)).setCell ⟨g,14,none⟩ (.slice A14 n14 k14)).setCell ⟨g,15,none⟩ (.bool v15)).heap[g]? = some (.cells #[.int .i64 v0,.int .i64 v1,.int .i64 v2,.int .i64 v3,.int .i64 v4,.int .i64 v5,.int .i64 v6,.int .i64 v7,.int .i64 v8,.int .i64 v9,.int .i64 v10,.int .i64 v11,.int .i64 v12,.int .i64 v13,.slice A14 n14 k14,.bool v15] 26 (0,0)):=(zae (cs:=#[.int .i64 v0,.int .i64 v1,.int .i64 v2,.int .i64 v3,.int .i64 v4,.int .i64 v5,.int .i64 v6,.int .i64 v7,.int .i64 v8,.int .i64 v9,.int .i64 v10,.int .i64 v11,.int .i64 v12,.int .i64 v13,.slice A14 n14 k14,c15]) (zae (cs:=#[.int .i64 v0,.int .i64 v1,.int .i64 v2,.int .i64 v3,.int .i64 v4,.int .i64 v5,.int .i64 v6,.int .i64 v7,.int .i64 v8,.int .i64 v9,.int .i64 v10,.int .i64 v11,.int .i64 v12,.int .i64 v13,c14,c15]) (zae (cs:=#[.int .i64 v0,.int .i64 v1,.int .i64 v2,.int .i64 v3,.int .i64 v4,.int .i64 v5,.int .i64 v6,.int .i64 v7,.int .i64 v8,.int .i64 v9,.int .i64 v10,.int .i64 v11,.int .i64 v12,c13,c14,c15]) (zae (cs:=#[.int .i64 v0,.int .i64 v1,.int .i64 v2,.int .i64 v3,.int .i64 v4,.int .i64 v5,.int .i64 v6,.int .i64 v7,.int .i64 v8,.int .i64 v9,.int .i64 v10,.int .i64 v11,c12,c13,c14,c15]) (zae (cs:=#[.int .i64 v0,.int .i64 v1,.int .i64 v2,.int .i64 v3,.int .i64 v4,.int .i64 v5,.int .i64 v6,.int .i64 v7,.int .i64 v8,.int .i64 v9,.int .i64 v10,c11,c12,c13,c14,c15]) (zae (cs:=#[.int .i64 v0,.int .i64 v1,.int .i64 v2,.int .i64 v3,.int .i64 v4,.int .i64 v5,.int .i64 v6,.int .i64 v7,.int .i64 v8,.int .i64 v9,c10,c11,c12,c13,c14,c15]) (zae (cs:=#[.int .i64 v0,.int .i64 v1,.int .i64 v2,.int .i64 v3,.int .i64 v4,.int .i64 v5,.int .i64 v6,.int .i64 v7,.int .i64 v8,c9,c10,c11,c12,c13,c14,c15]) (zae (cs:=#[.int .i64 v0,.int .i64 v1,.int .i64 v2,.int .i64 v3,.int .i64 v4,.int .i64 v5,.int .i64 v6,.int .i64 v7,c8,c9,c10,c11,c12,c13,c14,c15]) (zae (cs:=#[.int .i64 v0,.int .i64 v1,.int .i64 v2,.int .i64 v3,.int .i64 v4,.int .i64 v5,.int .i64 v6,c7,c8,c9,c10,c11,c12,c13,c14,c15]) (zae (cs:=#[.int .i64 v0,.int .i64 v1,.int .i64 v2,.int .i64 v3,.int .i64 v4,.int .i64 v5,c6,c7,c8,c9,c10,c11,c12,c13,c14,c15]) (zae (cs:=#[.int .i64 v0,.int .i64 v1,.int .i64 v2,.int .i64 v3,.int .i64 v4,c5,c6,c7,c8,c9,c10,c11,c12,c13,c14,c15]) (zae (cs:=#[.int .i64 v0,.int .i64 v1,.int .i64 v2,.int .i64 v3,c4,c5,c6,c7,c8,c9,c10,c11,c12,c13,c14,c15]) (zae (cs:=#[.int .i64 v0,.int .i64 v1,.int .i64 v2,c3,c4,c5,c6,c7,c8,c9,c10,c11,c12,c13,c14,c15]) (zae (cs:=#[.int .i64 v0,.int .i64 v1,c2,c3,c4,c5,c6,c7,c8,c9,c10,c11,c12,c13,c14,c15]) (zae (cs:=#[.int .i64 v0,c1,c2,c3,c4,c5,c6,c7,c8,c9,c10,c11,c12,c13,c14,c15]) (zae (cs:=#[c0,c1,c2,c3,c4,c5,c6,c7,c8,c9,c10,c11,c12,c13,c14,c15]) h 0 (.int .i64 v0) rfl) 1 (.int .i64 v1) rfl) 2 (.int .i64 v2) rfl) 3 (.int .i64 v3) rfl) 4 (.int .i64 v4) rfl) 5 (.int .i64 v5) rfl) 6 (.int .i64 v6) rfl) 7 (.int .i64 v7) rfl) 8 (.int .i64 v8) rfl) 9 (.int .i64 v9) rfl) 10 (.int .i64 v10) rfl) 11 (.int .i64 v11) rfl) 12 (.int .i64 v12) rfl) 13 (.int .i64 v13) rfl) 14 (.slice A14 n14 k14) rfl) 15 (.bool v15) rfl)
section
variable {ops:Array Oper} {rest:List Oper} {o:Oper} {a:Act} {Q:Exit→Act→World→Prop}
theorem gate_st26 {W:World} {p v:Operand} (_ho:o.op = .store 26 p v) (h:wpList Try.prog ops Q (o :: rest) a W):wpList Try.prog ops Q (o :: rest) a W:=h
theorem zbD {W:World} {p:Operand} (_ho:o.op = .load 26 p) (h:wpList Try.prog ops Q (o :: rest) a W):wpList Try.prog ops Q (o :: rest) a W:=h
theorem st_hrun26 {W:World} {p v:Operand} (ho:o.op = .store 26 p v) {g:Nat} {c0 c1 c2 c3 c4 c5 c6 c7 c8 c9 c10 c11 c12 c13 c14 c15:Value} {v0:Int} {v1:Int} {v2:Int} {v3:Int} {v4:Int} {v5:Int} {v6:Int} {v7:Int} {v8:Int} {v9:Int} {v10:Int} {v11:Int} {v12:Int} {v13:Int} {A14:Option Addr} {n14 k14:Nat} {v15:Bool}
    (hp:a.eval p = .pointer (some ⟨g,0,none⟩)) (hv:a.eval v = .agg #[.int .i64 v0,.int .i64 v1,.int .i64 v2,.int .i64 v3,.int .i64 v4,.int .i64 v5,.int .i64 v6,.int .i64 v7,.int .i64 v8,.int .i64 v9,.int .i64 v10,.int .i64 v11,.int .i64 v12,.int .i64 v13,.slice A14 n14 k14,.bool v15]) (hb:W.heap[g]? = some (.cells #[c0,c1,c2,c3,c4,c5,c6,c7,c8,c9,c10,c11,c12,c13,c14,c15] 26 (0,0))):(execOp a.eval o).run Try.prog W = .ok Next.skip ((((((((((((((((W.setCell ⟨g,0,none⟩ (.int .i64 v0)).setCell ⟨g,1,none⟩ (.int .i64 v1)).setCell ⟨g,2,none⟩ (.int .i64 v2)).setCell ⟨g,3,none⟩ (.int .i64 v3)).setCell ⟨g,4,none⟩ (.int .i64 v4)).setCell ⟨g,5,none⟩ (.int .i64 v5)).setCell ⟨g,6,none⟩ (.int .i64 v6)).setCell ⟨g,7,none⟩ (.int .i64 v7)).setCell ⟨g,8,none⟩ (.int .i64 v8)).setCell ⟨g,9,none⟩ (.int .i64 v9)).setCell ⟨g,10,none⟩ (.int .i64 v10)).setCell ⟨g,11,none⟩ (.int .i64 v11)).setCell ⟨g,12,none⟩ (.int .i64 v12)).setCell ⟨g,13,none⟩ (.int .i64 v13)).setCell ⟨g,14,none⟩ (.slice A14 n14 k14)).setCell ⟨g,15,none⟩ (.bool v15)):=by
  obtain ⟨dst,op,ty,pos,after,guard⟩:=o
  cases ho
  show (Sem.bind (Instr.storeAt 26 (a.eval p) (a.eval v)) fun _=>pure Next.skip).run Try.prog W=_
  rw [hp,hv,Sem.run_bind',st_run26 hb v0 v1 v2 v3 v4 v5 v6 v7 v8 v9 v10 v11 v12 v13 A14 n14 k14 v15]
  rfl
theorem st_event26 {W:World} (hgd:o.guard=none) (hd:o.dst=none) {p v:Operand} (ho:o.op = .store 26 p v) {g:Nat} {c0 c1 c2 c3 c4 c5 c6 c7 c8 c9 c10 c11 c12 c13 c14 c15:Value} {v0:Int} {v1:Int} {v2:Int} {v3:Int} {v4:Int} {v5:Int} {v6:Int} {v7:Int} {v8:Int} {v9:Int} {v10:Int} {v11:Int} {v12:Int} {v13:Int} {A14:Option Addr} {n14 k14:Nat} {v15:Bool}
    (hp:a.eval p = .pointer (some ⟨g,0,none⟩)) (hv:a.eval v = .agg #[.int .i64 v0,.int .i64 v1,.int .i64 v2,.int .i64 v3,.int .i64 v4,.int .i64 v5,.int .i64 v6,.int .i64 v7,.int .i64 v8,.int .i64 v9,.int .i64 v10,.int .i64 v11,.int .i64 v12,.int .i64 v13,.slice A14 n14 k14,.bool v15]) (hb:W.heap[g]? = some (.cells #[c0,c1,c2,c3,c4,c5,c6,c7,c8,c9,c10,c11,c12,c13,c14,c15] 26 (0,0)))
    (h:((((((((((((((((W.setCell ⟨g,0,none⟩ (.int .i64 v0)).setCell ⟨g,1,none⟩ (.int .i64 v1)).setCell ⟨g,2,none⟩ (.int .i64 v2)).setCell ⟨g,3,none⟩ (.int .i64 v3)).setCell ⟨g,4,none⟩ (.int .i64 v4)).setCell ⟨g,5,none⟩ (.int .i64 v5)).setCell ⟨g,6,none⟩ (.int .i64 v6)).setCell ⟨g,7,none⟩ (.int .i64 v7)).setCell ⟨g,8,none⟩ (.int .i64 v8)).setCell ⟨g,9,none⟩ (.int .i64 v9)).setCell ⟨g,10,none⟩ (.int .i64 v10)).setCell ⟨g,11,none⟩ (.int .i64 v11)).setCell ⟨g,12,none⟩ (.int .i64 v12)).setCell ⟨g,13,none⟩ (.int .i64 v13)).setCell ⟨g,14,none⟩ (.slice A14 n14 k14)).setCell ⟨g,15,none⟩ (.bool v15)).heap[g]? = some (.cells #[.int .i64 v0,.int .i64 v1,.int .i64 v2,.int .i64 v3,.int .i64 v4,.int .i64 v5,.int .i64 v6,.int .i64 v7,.int .i64 v8,.int .i64 v9,.int .i64 v10,.int .i64 v11,.int .i64 v12,.int .i64 v13,.slice A14 n14 k14,.bool v15] 26 (0,0))→wpList Try.prog ops Q rest a ((((((((((((((((W.setCell ⟨g,0,none⟩ (.int .i64 v0)).setCell ⟨g,1,none⟩ (.int .i64 v1)).setCell ⟨g,2,none⟩ (.int .i64 v2)).setCell ⟨g,3,none⟩ (.int .i64 v3)).setCell ⟨g,4,none⟩ (.int .i64 v4)).setCell ⟨g,5,none⟩ (.int .i64 v5)).setCell ⟨g,6,none⟩ (.int .i64 v6)).setCell ⟨g,7,none⟩ (.int .i64 v7)).setCell ⟨g,8,none⟩ (.int .i64 v8)).setCell ⟨g,9,none⟩ (.int .i64 v9)).setCell ⟨g,10,none⟩ (.int .i64 v10)).setCell ⟨g,11,none⟩ (.int .i64 v11)).setCell ⟨g,12,none⟩ (.int .i64 v12)).setCell ⟨g,13,none⟩ (.int .i64 v13)).setCell ⟨g,14,none⟩ (.slice A14 n14 k14)).setCell ⟨g,15,none⟩ (.bool v15))):wpList Try.prog ops Q (o :: rest) a W:=by
  refine wpList_plain hgd fun K hK=>?_
  unfold Oper.wp
  rw [st_hrun26 ho hp hv hb]
  show K (a.put o.dst undef) _
  rw [hd]
  exact hK _ _ (h (st_blk26 hb v0 v1 v2 v3 v4 v5 v6 v7 v8 v9 v10 v11 v12 v13 A14 n14 k14 v15))
theorem ld_hrun26 {W:World} {p:Operand} (ho:o.op = .load 26 p) {g:Nat} {c0 c1 c2 c3 c4 c5 c6 c7 c8 c9 c10 c11 c12 c13 c14 c15:Value}
    (hp:a.eval p = .pointer (some ⟨g,0,none⟩)) (hb:W.heap[g]? = some (.cells #[c0,c1,c2,c3,c4,c5,c6,c7,c8,c9,c10,c11,c12,c13,c14,c15] 26 (0,0))):(execOp a.eval o).run Try.prog W = .ok (.value (.agg #[c0,c1,c2,c3,c4,c5,c6,c7,c8,c9,c10,c11,c12,c13,c14,c15])) W:=by
  obtain ⟨dst,op,ty,pos,after,guard⟩:=o
  cases ho
  show (Sem.bind (Instr.loadAt 26 (a.eval p)) fun x=>pure (Next.value x)).run Try.prog W=_
  rw [hp,Sem.run_bind',ld_run26 hb]
  rfl
theorem zbw {W:World} (hgd:o.guard=none) {p:Operand} (ho:o.op = .load 26 p) {g:Nat} {c0 c1 c2 c3 c4 c5 c6 c7 c8 c9 c10 c11 c12 c13 c14 c15:Value}
    (hp:a.eval p = .pointer (some ⟨g,0,none⟩)) (hb:W.heap[g]? = some (.cells #[c0,c1,c2,c3,c4,c5,c6,c7,c8,c9,c10,c11,c12,c13,c14,c15] 26 (0,0)))
    (h:wpList Try.prog ops Q rest (a.put o.dst (.agg #[c0,c1,c2,c3,c4,c5,c6,c7,c8,c9,c10,c11,c12,c13,c14,c15])) W):wpList Try.prog ops Q (o :: rest) a W:=Kd.event_run hgd (ld_hrun26 ho hp hb) h
end
set_option maxHeartbeats 2000000 in
set_option maxRecDepth 100000 in
theorem st_run28 {W:World} {g:Nat} {c0 c1 c2 c3 c4:Value} (h:W.heap[g]? = some (.cells #[c0,c1,c2,c3,c4] 28 (0,0))) (v0:Int) (v1:Int) (v2:Int) (v3:Int) (v4:Int) :
    (Instr.storeAt 28 (.pointer (some ⟨g,0,none⟩)) (.agg #[.int .i64 v0,.int .i64 v1,.int .i64 v2,.int .i64 v3,.int .i64 v4])).run Try.prog W = .ok () (((((W.setCell ⟨g,0,none⟩ (.int .i64 v0)).setCell ⟨g,1,none⟩ (.int .i64 v1)).setCell ⟨g,2,none⟩ (.int .i64 v2)).setCell ⟨g,3,none⟩ (.int .i64 v3)).setCell ⟨g,4,none⟩ (.int .i64 v4)):=by
  have hu:=Try.underlying28
  obtain ⟨h0,h1,h2,h3,h4⟩:=zD5 h
  obtain ⟨f0,f1,f2,f3,f4⟩:=zE5 h
  clear h
  go_simp
set_option maxHeartbeats 2000000 in
set_option maxRecDepth 100000 in
theorem ld_run28 {W:World} {g:Nat} {c0 c1 c2 c3 c4:Value} (h:W.heap[g]? = some (.cells #[c0,c1,c2,c3,c4] 28 (0,0))) :
    (Instr.loadAt 28 (.pointer (some ⟨g,0,none⟩))).run Try.prog W = .ok (.agg #[c0,c1,c2,c3,c4]) W:=by
  have hu:=Try.underlying28
  obtain ⟨h0,h1,h2,h3,h4⟩:=zD5 h
  clear h
  go_simp
theorem st_blk28 {W:World} {g:Nat} {c0 c1 c2 c3 c4:Value} (h:W.heap[g]? = some (.cells #[c0,c1,c2,c3,c4] 28 (0,0))) (v0:Int) (v1:Int) (v2:Int) (v3:Int) (v4:Int) :
    (((((W.setCell ⟨g,0,none⟩ (.int .i64 v0)).setCell ⟨g,1,none⟩ (.int .i64 v1)).setCell ⟨g,2,none⟩ (.int .i64 v2)).setCell ⟨g,3,none⟩ (.int .i64 v3)).setCell ⟨g,4,none⟩ (.int .i64 v4)).heap[g]? = some (.cells #[.int .i64 v0,.int .i64 v1,.int .i64 v2,.int .i64 v3,.int .i64 v4] 28 (0,0)):=(zae (cs:=#[.int .i64 v0,.int .i64 v1,.int .i64 v2,.int .i64 v3,c4]) (zae (cs:=#[.int .i64 v0,.int .i64 v1,.int .i64 v2,c3,c4]) (zae (cs:=#[.int .i64 v0,.int .i64 v1,c2,c3,c4]) (zae (cs:=#[.int .i64 v0,c1,c2,c3,c4]) (zae (cs:=#[c0,c1,c2,c3,c4]) h 0 (.int .i64 v0) rfl) 1 (.int .i64 v1) rfl) 2 (.int .i64 v2) rfl) 3 (.int .i64 v3) rfl) 4 (.int .i64 v4) rfl)
section
variable {ops:Array Oper} {rest:List Oper} {o:Oper} {a:Act} {Q:Exit→Act→World→Prop}
theorem gate_st28 {W:World} {p v:Operand} (_ho:o.op = .store 28 p v) (h:wpList Try.prog ops Q (o :: rest) a W):wpList Try.prog ops Q (o :: rest) a W:=h
theorem zbB {W:World} {p:Operand} (_ho:o.op = .load 28 p) (h:wpList Try.prog ops Q (o :: rest) a W):wpList Try.prog ops Q (o :: rest) a W:=h
theorem st_hrun28 {W:World} {p v:Operand} (ho:o.op = .store 28 p v) {g:Nat} {c0 c1 c2 c3 c4:Value} {v0:Int} {v1:Int} {v2:Int} {v3:Int} {v4:Int}
    (hp:a.eval p = .pointer (some ⟨g,0,none⟩)) (hv:a.eval v = .agg #[.int .i64 v0,.int .i64 v1,.int .i64 v2,.int .i64 v3,.int .i64 v4]) (hb:W.heap[g]? = some (.cells #[c0,c1,c2,c3,c4] 28 (0,0))):(execOp a.eval o).run Try.prog W = .ok Next.skip (((((W.setCell ⟨g,0,none⟩ (.int .i64 v0)).setCell ⟨g,1,none⟩ (.int .i64 v1)).setCell ⟨g,2,none⟩ (.int .i64 v2)).setCell ⟨g,3,none⟩ (.int .i64 v3)).setCell ⟨g,4,none⟩ (.int .i64 v4)):=by
  obtain ⟨dst,op,ty,pos,after,guard⟩:=o
  cases ho
  show (Sem.bind (Instr.storeAt 28 (a.eval p) (a.eval v)) fun _=>pure Next.skip).run Try.prog W=_
  rw [hp,hv,Sem.run_bind',st_run28 hb v0 v1 v2 v3 v4]
  rfl
theorem st_event28 {W:World} (hgd:o.guard=none) (hd:o.dst=none) {p v:Operand} (ho:o.op = .store 28 p v) {g:Nat} {c0 c1 c2 c3 c4:Value} {v0:Int} {v1:Int} {v2:Int} {v3:Int} {v4:Int}
    (hp:a.eval p = .pointer (some ⟨g,0,none⟩)) (hv:a.eval v = .agg #[.int .i64 v0,.int .i64 v1,.int .i64 v2,.int .i64 v3,.int .i64 v4]) (hb:W.heap[g]? = some (.cells #[c0,c1,c2,c3,c4] 28 (0,0)))
    (h:(((((W.setCell ⟨g,0,none⟩ (.int .i64 v0)).setCell ⟨g,1,none⟩ (.int .i64 v1)).setCell ⟨g,2,none⟩ (.int .i64 v2)).setCell ⟨g,3,none⟩ (.int .i64 v3)).setCell ⟨g,4,none⟩ (.int .i64 v4)).heap[g]? = some (.cells #[.int .i64 v0,.int .i64 v1,.int .i64 v2,.int .i64 v3,.int .i64 v4] 28 (0,0))→wpList Try.prog ops Q rest a (((((W.setCell ⟨g,0,none⟩ (.int .i64 v0)).setCell ⟨g,1,none⟩ (.int .i64 v1)).setCell ⟨g,2,none⟩ (.int .i64 v2)).setCell ⟨g,3,none⟩ (.int .i64 v3)).setCell ⟨g,4,none⟩ (.int .i64 v4))):wpList Try.prog ops Q (o :: rest) a W:=by
  refine wpList_plain hgd fun K hK=>?_
  unfold Oper.wp
  rw [st_hrun28 ho hp hv hb]
  show K (a.put o.dst undef) _
  rw [hd]
  exact hK _ _ (h (st_blk28 hb v0 v1 v2 v3 v4))
theorem ld_hrun28 {W:World} {p:Operand} (ho:o.op = .load 28 p) {g:Nat} {c0 c1 c2 c3 c4:Value}
    (hp:a.eval p = .pointer (some ⟨g,0,none⟩)) (hb:W.heap[g]? = some (.cells #[c0,c1,c2,c3,c4] 28 (0,0))):(execOp a.eval o).run Try.prog W = .ok (.value (.agg #[c0,c1,c2,c3,c4])) W:=by
  obtain ⟨dst,op,ty,pos,after,guard⟩:=o
  cases ho
  show (Sem.bind (Instr.loadAt 28 (a.eval p)) fun x=>pure (Next.value x)).run Try.prog W=_
  rw [hp,Sem.run_bind',ld_run28 hb]
  rfl
theorem zbx {W:World} (hgd:o.guard=none) {p:Operand} (ho:o.op = .load 28 p) {g:Nat} {c0 c1 c2 c3 c4:Value}
    (hp:a.eval p = .pointer (some ⟨g,0,none⟩)) (hb:W.heap[g]? = some (.cells #[c0,c1,c2,c3,c4] 28 (0,0)))
    (h:wpList Try.prog ops Q rest (a.put o.dst (.agg #[c0,c1,c2,c3,c4])) W):wpList Try.prog ops Q (o :: rest) a W:=Kd.event_run hgd (ld_hrun28 ho hp hb) h
end
set_option maxHeartbeats 2000000 in
set_option maxRecDepth 100000 in
theorem st_run38 {W:World} {g:Nat} {c0 c1 c2:Value} (h:W.heap[g]? = some (.cells #[c0,c1,c2] 38 (0,0))) (v0:Int) (v1:Int) (A2:Option Addr) (n2 k2:Nat) :
    (Instr.storeAt 38 (.pointer (some ⟨g,0,none⟩)) (.agg #[.int .i64 v0,.int .i64 v1,.slice A2 n2 k2])).run Try.prog W = .ok () (((W.setCell ⟨g,0,none⟩ (.int .i64 v0)).setCell ⟨g,1,none⟩ (.int .i64 v1)).setCell ⟨g,2,none⟩ (.slice A2 n2 k2)):=by
  have hu:=Try.underlying38
  obtain ⟨h0,h1,h2⟩:=zD3 h
  obtain ⟨f0,f1,f2⟩:=zE3 h
  clear h
  go_simp
set_option maxHeartbeats 2000000 in
set_option maxRecDepth 100000 in
theorem ld_run38 {W:World} {g:Nat} {c0 c1 c2:Value} (h:W.heap[g]? = some (.cells #[c0,c1,c2] 38 (0,0))) :
    (Instr.loadAt 38 (.pointer (some ⟨g,0,none⟩))).run Try.prog W = .ok (.agg #[c0,c1,c2]) W:=by
  have hu:=Try.underlying38
  obtain ⟨h0,h1,h2⟩:=zD3 h
  clear h
  go_simp
theorem st_blk38 {W:World} {g:Nat} {c0 c1 c2:Value} (h:W.heap[g]? = some (.cells #[c0,c1,c2] 38 (0,0))) (v0:Int) (v1:Int) (A2:Option Addr) (n2 k2:Nat) :
    (((W.setCell ⟨g,0,none⟩ (.int .i64 v0)).setCell ⟨g,1,none⟩ (.int .i64 v1)).setCell ⟨g,2,none⟩ (.slice A2 n2 k2)).heap[g]? = some (.cells #[.int .i64 v0,.int .i64 v1,.slice A2 n2 k2] 38 (0,0)):=(zae (cs:=#[.int .i64 v0,.int .i64 v1,c2]) (zae (cs:=#[.int .i64 v0,c1,c2]) (zae (cs:=#[c0,c1,c2]) h 0 (.int .i64 v0) rfl) 1 (.int .i64 v1) rfl) 2 (.slice A2 n2 k2) rfl)
section
variable {ops:Array Oper} {rest:List Oper} {o:Oper} {a:Act} {Q:Exit→Act→World→Prop}
theorem gate_st38 {W:World} {p v:Operand} (_ho:o.op = .store 38 p v) (h:wpList Try.prog ops Q (o :: rest) a W):wpList Try.prog ops Q (o :: rest) a W:=h
theorem gate_ld38 {W:World} {p:Operand} (_ho:o.op = .load 38 p) (h:wpList Try.prog ops Q (o :: rest) a W):wpList Try.prog ops Q (o :: rest) a W:=h
theorem st_hrun38 {W:World} {p v:Operand} (ho:o.op = .store 38 p v) {g:Nat} {c0 c1 c2:Value} {v0:Int} {v1:Int} {A2:Option Addr} {n2 k2:Nat}
    (hp:a.eval p = .pointer (some ⟨g,0,none⟩)) (hv:a.eval v = .agg #[.int .i64 v0,.int .i64 v1,.slice A2 n2 k2]) (hb:W.heap[g]? = some (.cells #[c0,c1,c2] 38 (0,0))):(execOp a.eval o).run Try.prog W = .ok Next.skip (((W.setCell ⟨g,0,none⟩ (.int .i64 v0)).setCell ⟨g,1,none⟩ (.int .i64 v1)).setCell ⟨g,2,none⟩ (.slice A2 n2 k2)):=by
  obtain ⟨dst,op,ty,pos,after,guard⟩:=o
  cases ho
  show (Sem.bind (Instr.storeAt 38 (a.eval p) (a.eval v)) fun _=>pure Next.skip).run Try.prog W=_
  rw [hp,hv,Sem.run_bind',st_run38 hb v0 v1 A2 n2 k2]
  rfl
theorem st_event38 {W:World} (hgd:o.guard=none) (hd:o.dst=none) {p v:Operand} (ho:o.op = .store 38 p v) {g:Nat} {c0 c1 c2:Value} {v0:Int} {v1:Int} {A2:Option Addr} {n2 k2:Nat}
    (hp:a.eval p = .pointer (some ⟨g,0,none⟩)) (hv:a.eval v = .agg #[.int .i64 v0,.int .i64 v1,.slice A2 n2 k2]) (hb:W.heap[g]? = some (.cells #[c0,c1,c2] 38 (0,0)))
    (h:(((W.setCell ⟨g,0,none⟩ (.int .i64 v0)).setCell ⟨g,1,none⟩ (.int .i64 v1)).setCell ⟨g,2,none⟩ (.slice A2 n2 k2)).heap[g]? = some (.cells #[.int .i64 v0,.int .i64 v1,.slice A2 n2 k2] 38 (0,0))→wpList Try.prog ops Q rest a (((W.setCell ⟨g,0,none⟩ (.int .i64 v0)).setCell ⟨g,1,none⟩ (.int .i64 v1)).setCell ⟨g,2,none⟩ (.slice A2 n2 k2))):wpList Try.prog ops Q (o :: rest) a W:=by
  refine wpList_plain hgd fun K hK=>?_
  unfold Oper.wp
  rw [st_hrun38 ho hp hv hb]
  show K (a.put o.dst undef) _
  rw [hd]
  exact hK _ _ (h (st_blk38 hb v0 v1 A2 n2 k2))
theorem ld_hrun38 {W:World} {p:Operand} (ho:o.op = .load 38 p) {g:Nat} {c0 c1 c2:Value}
    (hp:a.eval p = .pointer (some ⟨g,0,none⟩)) (hb:W.heap[g]? = some (.cells #[c0,c1,c2] 38 (0,0))):(execOp a.eval o).run Try.prog W = .ok (.value (.agg #[c0,c1,c2])) W:=by
  obtain ⟨dst,op,ty,pos,after,guard⟩:=o
  cases ho
  show (Sem.bind (Instr.loadAt 38 (a.eval p)) fun x=>pure (Next.value x)).run Try.prog W=_
  rw [hp,Sem.run_bind',ld_run38 hb]
  rfl
theorem ld_event38 {W:World} (hgd:o.guard=none) {p:Operand} (ho:o.op = .load 38 p) {g:Nat} {c0 c1 c2:Value}
    (hp:a.eval p = .pointer (some ⟨g,0,none⟩)) (hb:W.heap[g]? = some (.cells #[c0,c1,c2] 38 (0,0)))
    (h:wpList Try.prog ops Q rest (a.put o.dst (.agg #[c0,c1,c2])) W):wpList Try.prog ops Q (o :: rest) a W:=Kd.event_run hgd (ld_hrun38 ho hp hb) h
end
theorem fl_run28_3 (W:World) (c0 c1 c2 c3 c4:Int):(Instr.field 28 (.agg #[.int .i64 c0,.int .i64 c1,.int .i64 c2,.int .i64 c3,.int .i64 c4]) 3).run Try.prog W = .ok (.int .i64 c3) W:=by kernel_rfl
section
variable {ops:Array Oper} {rest:List Oper} {o:Oper} {a:Act} {Q:Exit→Act→World→Prop}
theorem gate_fl28_3 {W:World} {p:Operand} (_ho:o.op = .field 28 p 3) (h:wpList Try.prog ops Q (o :: rest) a W):wpList Try.prog ops Q (o :: rest) a W:=h
theorem fl_hrun28_3 {W:World} {p:Operand} (ho:o.op = .field 28 p 3) {c0 c1 c2 c3 c4:Int} (hp:a.eval p = .agg #[.int .i64 c0,.int .i64 c1,.int .i64 c2,.int .i64 c3,.int .i64 c4]):(execOp a.eval o).run Try.prog W = .ok (.value (.int .i64 c3)) W:=by
  obtain ⟨dst,op,ty,pos,after,guard⟩:=o
  cases ho
  show (Sem.bind (Instr.field 28 (a.eval p) 3) fun x=>pure (Next.value x)).run Try.prog W=_
  rw [hp,Sem.run_bind',fl_run28_3]
  rfl
theorem fl_event28_3 {W:World} (hgd:o.guard=none) {p:Operand} (ho:o.op = .field 28 p 3) {c0 c1 c2 c3 c4:Int} (hp:a.eval p = .agg #[.int .i64 c0,.int .i64 c1,.int .i64 c2,.int .i64 c3,.int .i64 c4])
    (h:wpList Try.prog ops Q rest (a.put o.dst (.int .i64 c3)) W):wpList Try.prog ops Q (o :: rest) a W:=Kd.event_run hgd (fl_hrun28_3 ho hp) h
end
theorem st_runI {W:World} {g j:Nat} {t:TypeId} {cs:Array Value} {c:Value} (h:W.heap[g]? = some (.cells cs t (0,0))) (hc:cs[j]? = some c) (v:Int) :
    (Instr.storeAt 3 (.pointer (some ⟨g,j,none⟩)) (.int .i64 v)).run Try.prog W = .ok () (W.setCell ⟨g,j,none⟩ (.int .i64 v)):=by
  have hu:=Try.underlying3
  have h1:=zc h j hc
  have h2:=zaB h j
  clear h hc
  go_simp
section
variable {ops:Array Oper} {rest:List Oper} {o:Oper} {a:Act} {Q:Exit→Act→World→Prop}
theorem gate_stI {W:World} {p v:Operand} (_ho:o.op = .store 3 p v) (h:wpList Try.prog ops Q (o :: rest) a W):wpList Try.prog ops Q (o :: rest) a W:=h
theorem st_eventI {W:World} (hgd:o.guard=none) (hd:o.dst=none) {p v:Operand} (ho:o.op = .store 3 p v) {g j:Nat} {t:TypeId} {cs:Array Value} {c:Value} {n:Int}
    (hp:a.eval p = .pointer (some ⟨g,j,none⟩)) (hv:a.eval v = .int .i64 n) (hb:W.heap[g]? = some (.cells cs t (0,0))) (hc:cs[j]? = some c)
    (h:wpList Try.prog ops Q rest a (W.setCell ⟨g,j,none⟩ (.int .i64 n))):wpList Try.prog ops Q (o :: rest) a W:=by
  have hrun:(execOp a.eval o).run Try.prog W = .ok Next.skip (W.setCell ⟨g,j,none⟩ (.int .i64 n)):=by
    obtain ⟨dst,op,ty,pos,after,guard⟩:=o
    cases ho
    show (Sem.bind (Instr.storeAt 3 (a.eval p) (a.eval v)) fun _=>pure Next.skip).run Try.prog W=_
    rw [hp,hv,Sem.run_bind',st_runI hb hc n]
    rfl
  refine wpList_plain hgd fun K hK=>?_
  unfold Oper.wp
  rw [hrun]
  show K (a.put o.dst undef) _
  rw [hd]
  exact hK _ _ h
end
end Go.Proofs.Ytlilncnoohfcdaa.Db
