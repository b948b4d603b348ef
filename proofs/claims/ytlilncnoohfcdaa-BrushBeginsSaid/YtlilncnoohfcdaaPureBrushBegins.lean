/-
  BrushBegins as a plain function gives true. No condition.
-/
import Derived.Test.YtlilncnoohfcdaaBrx11
import Derived.Test.YtlilncnoohfcdaaBrushEx
namespace Go.Proofs.Ytlilncnoohfcdaa.Num
open Go.RowKit Go.Proofs.YtlilncnoohfcdaaW.PrintWords Go.Proofs.YtlilncnoohfcdaaW.PrintLast Go.Proofs.YtlilncnoohfcdaaW.PrintMore Go.Proofs.Ytlilncnoohfcdaa.Da Go.Proofs.Ytlilncnoohfcdaa.Br
theorem rd_take (l:List SM) (n:Nat) (i:Int) (h0:0≤i) (h1:i<n):zab (l.take n) i=zab l i:=by
  unfold zab
  rw [List.getD_eq_getElem?_getD,List.getD_eq_getElem?_getD,List.getElem?_take,if_pos (by omega)]
theorem sc_take (l:List SM) (n:Nat) (d e:Nat) : ∀ i:Int,0≤i→i+d≤n→sc l (d+e) i=0→sc (l.take n) d i=0:=by
  induction d with
  | zero=>intro i _ _ _;rfl
  | succ d ih=>
    intro i h0 h1 h
    rw [show d+1+e=(d+e)+1 by omega,sc] at h
    rw [sc,rd_take l n i h0 (by omega)]
    split at h
    · omega
    · rename_i g
      rw [if_neg g]
      split at h
      · omega
      · rename_i g2
        by_cases c:0<i
        · rw [rd_take l n (i - 1) (by omega) (by omega),if_neg g2]
          exact ih (i+1) (by omega) (by omega) h
        · rw [if_neg (fun h=>c h.1)]
          exact ih (i+1) (by omega) (by omega) h
theorem scheck_take (l:List SM) (n:Nat) (h:scheck l=0) (h1:1≤n) (h2:n≤l.length):scheck (l.take n)=0:=by
  obtain ⟨q1,q2,_⟩:=scheck_ok l h
  have ll:(l.take n).length=n:=by rw [List.length_take];omega
  unfold scheck at h ⊢
  rw [if_neg (by omega),if_neg (by omega)] at h
  rw [ll,if_neg (by omega),if_neg (by omega)]
  refine sc_take l n n (l.length - n) 0 (by omega) (by omega) ?_
  rw [show n+(l.length - n)=l.length by omega]
  exact h
theorem bdabs_take (a0 a1 a2 a3 a4 a5 a6 a7 a8 a9 a10 a11 a12 a13:Int) (ld:List DY) (l:List SM) (n:Nat) (h1:1≤n) (h2:n≤l.length) (h:(bdabs a0 a1 a2 a3 a4 a5 a6 a7 a8 a9 a10 a11 a12 a13 ld l).2=0) :
    (bdabs a0 a1 a2 a3 a4 a5 a6 a7 a8 a9 a10 a11 a12 a13 ld (l.take n)).2=0∧(bdabs a0 a1 a2 a3 a4 a5 a6 a7 a8 a9 a10 a11 a12 a13 ld (l.take n)).1 <+: (bdabs a0 a1 a2 a3 a4 a5 a6 a7 a8 a9 a10 a11 a12 a13 ld l).1∧
    [bdab a0 a7 a13 ld (zab l 0) 0 0] <+: (bdabs a0 a1 a2 a3 a4 a5 a6 a7 a8 a9 a10 a11 a12 a13 ld l).1∧[bdab a0 a7 a13 ld (zab l 0) 0 0] <+: (bdabs a0 a1 a2 a3 a4 a5 a6 a7 a8 a9 a10 a11 a12 a13 ld (l.take n)).1∧scheck l=0:=by
  unfold bdabs at h ⊢
  by_cases c1:bcheck a0 a1 a2 a3 a4 a5 a6 a7 a8 a9 a10 a11 a12 a13 ld=0
  · rw [if_pos c1] at h
    rw [if_pos c1,if_pos c1]
    by_cases c2:scheck l=0
    · rw [if_pos c2] at h
      rw [if_pos c2,if_pos (scheck_take l n c2 h1 h2),rd_take l n 0 (by omega) (by omega)]
      cases e:brun a0 a5 a7 a13 ld l 1200 1 0 (bspc a5 (bdab a0 a7 a13 ld (zab l 0) 0 0).f2) [bdab a0 a7 a13 ld (zab l 0) 0 0] with
      | none=>rw [e] at h;exact absurd h (by decide)
      | some o=>
        obtain ⟨t,et,pt⟩:=Run.run_begin _ _ _ (l.length:Int) (n:Int) (by omega) _ _ _ _ _ _ e
        have eq:brun a0 a5 a7 a13 ld (l.take n) 1200 1 0 (bspc a5 (bdab a0 a7 a13 ld (zab l 0) 0 0).f2) [bdab a0 a7 a13 ld (zab l 0) 0 0]=some t:=by
          rw [← et]
          unfold brun
          rw [show ((l.take n).length:Int)=n by rw [List.length_take];omega]
          refine Run.run_congr _ _ _ _ _ _ ?_ ?_ _ _ _ _ _ (by omega)
          · intro i i1 i2
            funext d ix
            unfold bF bN bSp
            rw [rd_take l n i (by omega) i2,rd_take l n (i - 1) (by omega) (by omega)]
          · intro i i1 i2
            unfold bN
            rw [rd_take l n i (by omega) i2,rd_take l n (i - 1) (by omega) (by omega)]
        rw [eq]
        exact ⟨rfl,pt,Run.run_pre _ _ _ _ _ _ _ _ _ _ e,Run.run_pre _ _ _ _ _ _ _ _ _ _ et,c2⟩
    · rw [if_neg c2] at h;exact absurd h c2
  · rw [if_neg c1] at h;exact absurd h c1
theorem bplace_one (sd ix dim n:Int) (h : -16777216≤n∧n≤16777216):bplace sd ix dim n 0=n:=by
  have u:Rnd.under (Rnd.num sd ix dim) (2*0+1)=0:=by
    have:=Rnd.num_lt sd ix dim
    unfold Rnd.under
    rw [if_neg (by decide),if_pos (by decide)]
    omega
  unfold bplace
  rw [u,w64 (n:=n+0) (by omega) (by omega),w64 (by omega) (by omega)]
  unfold clP mn mx
  (repeat' split) <;> omega
theorem bspread_zero (sz v:Int):bspread sz 0 v=0:=by
  unfold bspread
  rw [Int.mul_zero,show rdiv 0 100=0 by decide,Int.zero_mul]
  decide
theorem pre_rd (d:DB) (o:List DB) (h:[d] <+: o):1≤o.length∧zag o 0=d:=by
  obtain ⟨t,rfl⟩:=h
  exact ⟨by rw [List.length_append,List.length_singleton];omega,rfl⟩
theorem brushBegins (a0 a1 a2 a3 a4 a5 a6 a7 a8 a9 a10 a11 a12 a13:Int) (ld:List DY) (e:Bool) (l:List SM) (n:Int) (k:Nat) (hk:5000≤k):imageeditorlaw28_BrushBegins.f k a0 a1 a2 a3 a4 a5 a6 a7 a8 a9 a10 a11 a12 a13 ld e l n=some true:=by
  unfold imageeditorlaw28_BrushBegins.f
  rw [dabs_f k (by omega),zay]
  by_cases c0:(bdabs a0 a1 a2 a3 a4 a5 a6 a7 a8 a9 a10 a11 a12 a13 ld l).2=0
  · rw [if_pos c0]
    by_cases c1:(l.length:Int)=0
    · rw [if_pos c1,ex_f k (by omega),zay]
    · rw [if_neg c1,zcm,zay]
      obtain ⟨m,hm⟩ : ∃ m:Nat,mn (l.length:Int) (mx n 1)=(m:Int):=⟨(mn (l.length:Int) (mx n 1)).toNat,by unfold mn mx;(repeat' split) <;> omega⟩
      have hm1:1≤m∧m≤l.length:=by
        unfold mn mx at hm
        (repeat' split at hm) <;> omega
      obtain ⟨t1,t2,t3,t4,t5⟩:=bdabs_take a0 a1 a2 a3 a4 a5 a6 a7 a8 a9 a10 a11 a12 a13 ld l m hm1.1 hm1.2 c0
      obtain ⟨n1,_⟩:=bdabs_all a0 a1 a2 a3 a4 a5 a6 a7 a8 a9 a10 a11 a12 a13 ld l
      obtain ⟨l1,f1⟩:=pre_rd _ _ t3
      obtain ⟨l2,_⟩:=pre_rd _ _ t4
      have le:=t2.length_le
      have tk:=List.prefix_iff_eq_take.mp t2
      obtain ⟨q1,_,hs⟩:=scheck_ok l t5
      have gs:=hs 0 (by omega) (by omega)
      rw [hm,if_pos (by omega),if_pos (by omega),Int.toNat_natCast,dabs_f k (by omega),zay,if_pos t1,if_neg (by omega),if_neg (by omega),if_pos (by omega),if_pos (by omega),Int.toNat_natCast,← tk,same_f _ (by omega) k (by omega),zay,if_pos rfl]
      by_cases c7:a7=0
      · rw [if_pos c7,if_pos (by omega),if_pos (by omega),f1,c7]
        rw [if_pos (by unfold bdab;dsimp only;rw [bspread_zero,bplace_one _ _ _ _ gs.1]),if_pos (by unfold bdab;dsimp only;rw [bspread_zero,bplace_one _ _ _ _ gs.2.1]),ex_f k (by omega),zay]
      · rw [if_neg c7,ex_f k (by omega),zay]
  · rw [if_neg c0,ex_f k (by omega),zay]
end Go.Proofs.Ytlilncnoohfcdaa.Num
