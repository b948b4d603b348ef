/-
  How arguments that can be read as data are opened: numbers, bools, slices and structs of these, by the kinds of the printed functions. No condition.
-/
import Derived.Test.YtlilncnoohfcdaaDaV
import Derived.ProofKit
import Derived.OpenShut
import Derived.ChangeSlices
import Derived.Carry
namespace Go.Proofs.Ytlilncnoohfcdaa.Opn
open Go.RowKit Go.ChangeShapes Go.WideShapes Go.ChangeAt Go.Proofs.YtlilncnoohfcdaaW.PrintWords
structure Opens {α:Type} (P:Program) (T:TypeId) (d:Kd α) (Q:α→Prop):Prop where
  out : ∀ {H:Type} (enc:TypeId×Value→H) (w:World) (spare:Nat→Bool) (fuel:Nat) (cs:List Value) (y:DataW H×List MemPlace),
    DataW.trod enc P w 0 spare true fuel T cs=some y→∃ x,d.K w x cs∧Q x
section
variable {P:Program} {T e:TypeId} {α β:Type} {d:Kd α} {Q:α→Prop}
theorem zb9 {k:IntKind} (hu:P.underlying T=some (.int k)):Opens P T (Kd.int k) (fun n=>(Lit.int k n).wf=true):=
  ⟨fun enc w spare fuel cs y h=>by
    obtain ⟨n,rfl,_,hw⟩:=DataW.trod_int hu h
    exact ⟨n,rfl,hw⟩⟩
theorem op_bool (hu:P.underlying T=some .bool):Opens P T Kd.bool (fun _=>True):=
  ⟨fun enc w spare fuel cs y h=>by
    obtain ⟨n,rfl,_⟩:=DataW.trod_bool hu h
    exact ⟨n,rfl,trivial⟩⟩
theorem choose_list {R:Nat→α→Prop} (n:Nat) (h : ∀ i,i<n→∃ x,R i x) : ∃ xs:List α,xs.length=n∧∀ i x,xs[i]? = some x→R i x:=by
  induction n with
  | zero=>exact ⟨[],rfl,fun i x hx=>by simp at hx⟩
  | succ n ih=>
    obtain ⟨xs,hl,hx⟩:=ih (fun i hi=>h i (by omega))
    obtain ⟨x,hn⟩:=h n (by omega)
    refine ⟨xs ++ [x],by simp [hl],fun i z hz=>?_⟩
    by_cases c:i<n
    · rw [List.getElem?_append_left (by omega)] at hz
      exact hx i z hz
    · have hi:i<(xs ++ [x]).length:=(List.getElem?_eq_some_iff.1 hz).1
      simp only [List.length_append,List.length_singleton] at hi
      have e:i=n:=by omega
      subst e
      rw [List.getElem?_append_right (by omega)] at hz
      simp [hl] at hz
      subst hz
      exact hn
theorem cells_at {w:World} {a:Addr} {n:Nat} {cs:List Value} (h:w.cells? 0 a n=some cs):cs.length=n∧∀ i u,cs[i]? = some u→w.cell? (a.add i)=some u:=by
  unfold World.cells? at h
  rw [if_pos (Nat.zero_le _)] at h
  have hl:cs.length=n:=by simpa using mapM_some_length h
  refine ⟨hl,fun i u hu=>?_⟩
  have hi:i<n:=by
    have:=(List.getElem?_eq_some_iff.1 hu).1
    omega
  have:=mapM_some_get h i i (by simp [hi])
  rw [this,hu]
theorem op_slice (hu:P.underlying T=some (.slice e)) (hc:P.cellsOf e=d.sz) (he:Opens P e d Q):Opens P T (Kd.slice e d) (fun l=>∀ x ∈ l,Q x):=
  ⟨fun enc w spare fuel cs y h=>by
    rcases DataW.trod_slice hu h with ⟨rfl,_⟩|⟨a,len,cap,elems,rest,n,_,rfl,_,_,hl,hm,hlen,hel,_,_⟩
    · exact ⟨[],⟨none,0,rfl,Nat.le_refl _,rfl,by simp,fun h0=>absurd h0 (by simp)⟩,fun x hx=>by simp at hx⟩
    · have each : ∀ i,i<len→∃ x,(∃ c,c.length=d.sz∧d.K w x c∧∀ j u,c[j]? = some u→w.cell? (a.add (i*d.sz+j))=some u)∧Q x:=fun i hi=>by
        have h1:=hel i hi
        have hs:elems[i]? = some elems[i]:=List.getElem?_eq_getElem (by omega)
        rw [hs,Option.bind_eq_some_iff] at h1
        obtain ⟨c,hc1,hc2⟩:=h1
        rw [hc] at hc1
        obtain ⟨hcl,hcell⟩:=cells_at hc1
        obtain ⟨x,hk,hq⟩:=he.out enc w spare n c _ hc2
        exact ⟨x,⟨c,hcl,hk,fun j u hu=>by rw [← Addr.add_add];exact hcell j u hu⟩,hq⟩
      obtain ⟨xs,hxl,hx⟩:=choose_list len each
      refine ⟨xs,⟨some a,cap,by rw [hxl],by omega,rfl,?_,fun _=>⟨a,rfl,fun j p hp=>?_⟩⟩,fun x hm=>?_⟩
      · unfold maxLen at hm
        omega
      · exact (hx j p hp).1
      · obtain ⟨i,hi,rfl⟩:=List.mem_iff_getElem.1 hm
        exact (hx i _ (List.getElem?_eq_getElem hi)).2⟩
structure FOpens (P:Program) (fs:List Field) (off:Nat) (d:Kd α) (Q:α→Prop):Prop where
  out : ∀ {H:Type} (enc:TypeId×Value→H) (w:World) (spare:Nat→Bool) (n:Nat) (cs:List Value),cs.length=off+d.sz→
    (∀ f ∈ fs,∃ y,DataW.trod enc P w 0 spare true n f.type ((cs.drop f.offset).take (P.cellsOf f.type))=some y)→∃ x,d.K w x (cs.drop off)∧Q x
theorem f_last {f:Field} {off:Nat} (ho:f.offset=off) (hc:P.cellsOf f.type=d.sz) (h:Opens P f.type d Q):FOpens P [f] off d Q:=
  ⟨fun enc w spare n cs hl hf=>by
    obtain ⟨y,hy⟩:=hf f (by simp)
    rw [ho,hc,List.take_of_length_le (by simp [hl])] at hy
    exact h.out enc w spare n _ _ hy⟩
theorem zcd {b:Kd β} {Qb:β→Prop} {f:Field} {fs:List Field} {off:Nat} (ho:f.offset=off) (hc:P.cellsOf f.type=d.sz) (h:Opens P f.type d Q) (r:FOpens P fs (off+d.sz) b Qb) :
    FOpens P (f :: fs) off (Kd.pair d b) (fun x=>Q x.1∧Qb x.2):=
  ⟨fun enc w spare n cs hl hf=>by
    have hs:(Kd.pair d b).sz=d.sz+b.sz:=rfl
    obtain ⟨y,hy⟩:=hf f (by simp)
    rw [ho,hc] at hy
    obtain ⟨x,hk,hq⟩:=h.out enc w spare n _ _ hy
    obtain ⟨z,hz,hqz⟩:=r.out enc w spare n cs (by omega) (fun g hg=>hf g (by simp [hg]))
    refine ⟨(x,z),⟨_,_,?_,hk,hz⟩,hq,hqz⟩
    rw [← List.drop_drop,List.take_append_drop]⟩
theorem f_iso {fs:List Field} {off:Nat} (f:β→α) (g:α→β) (hg : ∀ x,f (g x)=x) (h:FOpens P fs off d Q):FOpens P fs off (Kd.iso d f) (fun y=>Q (f y)):=
  ⟨fun enc w spare n cs hl hf=>by
    obtain ⟨x,hk,hq⟩:=h.out enc w spare n cs hl hf
    refine ⟨g x,?_,?_⟩
    · show d.K w (f (g x)) _
      rw [hg]
      exact hk
    · show Q (f (g x))
      rw [hg]
      exact hq⟩
theorem op_struct {fs:Array Field} (hu:P.underlying T=some (.struct fs)) (hc:P.cellsOf T=d.sz) (h:FOpens P fs.toList 0 d Q):Opens P T d Q:=
  ⟨fun enc w spare fuel cs y hy=>by
    obtain ⟨xs,n,rfl,_,hl,hx,he⟩:=DataW.trod_struct hu hy
    have:=h.out enc w spare n cs (by omega) (fun f hf=>by
      obtain ⟨i,hi,rfl⟩:=List.mem_iff_getElem.1 hf
      have hi':i<fs.size:=by simpa using hi
      have e:=he i fs.toList[i] (by simp [hi'])
      exact ⟨xs[i]'(by omega),e.trans (List.getElem?_eq_getElem _)⟩)
    simpa using this⟩
end
theorem agg_of {v a b:Value} {l:List Value} (h:v.cells.toList=a :: b :: l):v = .agg (a :: b :: l).toArray:=by
  cases v with
  | agg cs=>simp [Value.cells] at h;rw [← h]
  | _=>simp [Value.cells] at h
theorem slice_of {a A:Option Addr} {n c m c':Nat} (h:(Value.slice a n c).cells.toList=[.slice A m c']):a=A∧n=m∧c=c':=by
  simpa [Value.cells] using h
end Go.Proofs.Ytlilncnoohfcdaa.Opn
