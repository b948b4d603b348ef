/-
  The dabs of a stroke as a plain recursion, over any kind of dabs: its beginnings, what goes for all of them, their number. Conditions stand in each statement.
-/
import Derived.KernelRfl
namespace Go.Proofs.Ytlilncnoohfcdaa.Run
def run {D:Type} (F:Int→Int→Int→D) (N:Int→Int) (sp:D→Int) (L:Int):Nat→Int→Int→Int→List D→Option (List D)
  | 0,_,_,_,_=>none
  | m+1,i,at',rest,o=>
    if i<L then
      if rest≤N i - at' then (if (o.length:Int)=1024 then none else run F N sp L m i (at'+rest) (sp (F i (at'+rest) o.length)) (o ++ [F i (at'+rest) o.length]))
      else run F N sp L m (i+1) 0 (rest - (N i - at')) o
    else some o
theorem run_pre {D:Type} (F:Int→Int→Int→D) (N:Int→Int) (sp:D→Int) (L:Int) : ∀ m i a r o s,run F N sp L m i a r o=some s→o <+: s:=by
  intro m
  induction m with
  | zero=>intro i a r o s h;simp [run] at h
  | succ m ih=>
    intro i a r o s h
    unfold run at h
    split at h
    · split at h
      · split at h
        · simp at h
        · exact (List.prefix_append _ _).trans (ih _ _ _ _ _ h)
      · exact ih _ _ _ _ _ h
    · simp at h;rw [h];exact List.prefix_refl _
theorem run_begin {D:Type} (F:Int→Int→Int→D) (N:Int→Int) (sp:D→Int) (L n:Int) (hn:n≤L) : ∀ m i a r o s,run F N sp L m i a r o=some s→∃ t,run F N sp n m i a r o=some t∧t <+: s:=by
  intro m
  induction m with
  | zero=>intro i a r o s h;simp [run] at h
  | succ m ih=>
    intro i a r o s h
    by_cases c:i<n
    · unfold run at h ⊢
      rw [if_pos (by omega)] at h
      rw [if_pos c]
      split
      · rename_i c1
        rw [if_pos c1] at h
        split
        · rename_i c2
          rw [if_pos c2] at h;simp at h
        · rename_i c2
          rw [if_neg c2] at h;exact ih _ _ _ _ _ h
      · rename_i c1
        rw [if_neg c1] at h;exact ih _ _ _ _ _ h
    · exact ⟨o,by unfold run;rw [if_neg c],run_pre _ _ _ _ _ _ _ _ _ _ h⟩
theorem run_congr {D:Type} (F F':Int→Int→Int→D) (N N':Int→Int) (sp:D→Int) (L:Int) (hF : ∀ i,1≤i→i<L→F i=F' i) (hN : ∀ i,1≤i→i<L→N i=N' i) : ∀ m i a r o,1≤i→run F N sp L m i a r o=run F' N' sp L m i a r o:=by
  intro m
  induction m with
  | zero=>intro i a r o h;rfl
  | succ m ih=>
    intro i a r o h
    unfold run
    by_cases c:i<L
    · rw [if_pos c,if_pos c,hF i h c,hN i h c]
      split
      · split
        · rfl
        · exact ih _ _ _ _ h
      · exact ih _ _ _ _ (by omega)
    · rw [if_neg c,if_neg c]
theorem run_all {D:Type} (F:Int→Int→Int→D) (N:Int→Int) (sp:D→Int) (L:Int) (p:D→Prop) (hp : ∀ i a x,p (F i a x)) : ∀ m i a r o s,run F N sp L m i a r o=some s→(∀ d ∈ o,p d)→∀ d ∈ s,p d:=by
  intro m
  induction m with
  | zero=>intro i a r o s h;simp [run] at h
  | succ m ih=>
    intro i a r o s h ho
    unfold run at h
    split at h
    · split at h
      · split at h
        · simp at h
        · refine ih _ _ _ _ _ h ?_
          intro d hd
          rcases List.mem_append.mp hd with q|q
          · exact ho d q
          · rw [List.mem_singleton.mp q];exact hp _ _ _
      · exact ih _ _ _ _ _ h ho
    · simp at h;rw [← h];exact ho
theorem run_len {D:Type} (F:Int→Int→Int→D) (N:Int→Int) (sp:D→Int) (L:Int) : ∀ m i a r o s,run F N sp L m i a r o=some s→o.length≤1024→s.length≤1024:=by
  intro m
  induction m with
  | zero=>intro i a r o s h;simp [run] at h
  | succ m ih=>
    intro i a r o s h ho
    unfold run at h
    split at h
    · split at h
      · split at h
        · simp at h
        · exact ih _ _ _ _ _ h (by rw [List.length_append,List.length_singleton];omega)
      · exact ih _ _ _ _ _ h ho
    · simp at h;rw [← h];exact ho
end Go.Proofs.Ytlilncnoohfcdaa.Run
