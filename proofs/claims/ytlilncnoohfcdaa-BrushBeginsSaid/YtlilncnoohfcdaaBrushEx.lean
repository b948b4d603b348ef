/-
  The examples of the chapter on brushes, as a closed function, hold. No condition.
-/
import Derived.Test.YtlilncnoohfcdaaBrx9
import Derived.Test.YtlilncnoohfcdaaBrushL
import Derived.Test.YtlilncnoohfcdaaBrx10
namespace Go.Proofs.Ytlilncnoohfcdaa.Num
open Go.RowKit Go.Proofs.YtlilncnoohfcdaaW.PrintWords Go.Proofs.YtlilncnoohfcdaaW.PrintLast Go.Proofs.YtlilncnoohfcdaaW.PrintMore Go.Proofs.Ytlilncnoohfcdaa.Da Go.Proofs.Ytlilncnoohfcdaa.Br
set_option maxRecDepth 100000 in
theorem ex_a:bdabs 160 65535 65535 65535 65535 100 0 0 0 0 0 0 65535 0 [] [⟨0,0,0,0,0⟩,⟨100,0,0,0,0⟩,⟨200,0,0,0,0⟩]=([⟨0,0,160,65535,0⟩,⟨160,0,160,65535,0⟩],0):=by kernel_rfl
set_option maxRecDepth 100000 in
theorem ex_b:bdabs 160 65535 65535 65535 65535 100 0 0 0 0 0 0 65535 0 [] [⟨0,0,0,0,0⟩,⟨400,0,0,0,0⟩]=([⟨0,0,160,65535,0⟩,⟨160,0,160,65535,0⟩,⟨320,0,160,65535,0⟩],0):=by kernel_rfl
theorem ex_16 (l:List SM) (i d ix:Int):bspc 100 (bF 1 0 0 [] l i d ix).f2=16:=Eq.trans (congrArg (bspc 100) (show (bF 1 0 0 [] l i d ix).f2=1 from (show bsize 1 65535=1 by decide))) (by decide)
theorem ex_many (l:List SM) (hl:l.length=2) (d:Nat) : ∀ (m:Nat) (a:Int) (o:List DB),d+2≤m→a+16*d≤bN l 1→bN l 1<a+16*d+16→o.length+d≤1024→∃ p,brun 1 100 0 0 [] l m 1 a 16 o=some p∧p.length=o.length+d:=by
  induction d with
  | zero=>
    intro m a o hm h1 h2 h3
    obtain ⟨m,rfl⟩ : ∃ n,m=n+2:=⟨m - 2,by omega⟩
    refine ⟨o,?_,rfl⟩
    rw [brun_s,if_pos (by omega),if_neg (by omega),brun_s,if_neg (by omega)]
  | succ d ih=>
    intro m a o hm h1 h2 h3
    obtain ⟨m,rfl⟩ : ∃ n,m=n+1:=⟨m - 1,by omega⟩
    rw [brun_s,if_pos (by omega),if_pos (by omega),if_neg (by omega),ex_16]
    obtain ⟨p,e,q⟩:=ih m (a+16) (o ++ [bF 1 0 0 [] l 1 (a+16) o.length]) (by omega) (by omega) (by omega) (by rw [List.length_append,List.length_singleton];omega)
    exact ⟨p,e,by rw [q,List.length_append,List.length_singleton];omega⟩
theorem ex_over (l:List SM) (hl:l.length=2) (d:Nat) : ∀ (m:Nat) (a:Int) (o:List DB),d+1≤m→a+16*(d+1)≤bN l 1→o.length+d=1024→brun 1 100 0 0 [] l m 1 a 16 o=none:=by
  induction d with
  | zero=>
    intro m a o hm h1 h3
    obtain ⟨m,rfl⟩ : ∃ n,m=n+1:=⟨m - 1,by omega⟩
    rw [brun_s,if_pos (by omega),if_pos (by omega),if_pos (by omega)]
  | succ d ih=>
    intro m a o hm h1 h3
    obtain ⟨m,rfl⟩ : ∃ n,m=n+1:=⟨m - 1,by omega⟩
    rw [brun_s,if_pos (by omega),if_pos (by omega),if_neg (by omega),ex_16]
    exact ih m (a+16) _ (by omega) (by omega) (by rw [List.length_append,List.length_singleton];omega)
set_option maxRecDepth 100000 in
theorem ex_n1:bN [⟨0,0,0,0,0⟩,⟨1026,0,0,0,0⟩] 1=16416:=by kernel_rfl
set_option maxRecDepth 100000 in
theorem ex_n2:bN [⟨0,0,0,0,0⟩,⟨1023,0,0,0,0⟩] 1=16368:=by kernel_rfl
theorem ex_open (l:List SM) (h:scheck l=0):bdabs 1 65535 65535 65535 65535 100 0 0 0 0 0 0 65535 0 [] l=bres (brun 1 100 0 0 [] l 1200 1 0 16 [bdab 1 0 0 [] (zab l 0) 0 0]):=by
  unfold bdabs
  rw [if_pos (by decide),if_pos h,show bspc 100 (bdab 1 0 0 [] (zab l 0) 0 0).f2=16 from Eq.trans (congrArg (bspc 100) (show (bdab 1 0 0 [] (zab l 0) 0 0).f2=1 from (show bsize 1 65535=1 by decide))) (by decide)]
theorem ex_c:(bdabs 1 65535 65535 65535 65535 100 0 0 0 0 0 0 65535 0 [] [⟨0,0,0,0,0⟩,⟨1026,0,0,0,0⟩]).2=3:=by
  rw [ex_open _ (by decide),ex_over _ rfl 1023 1200 0 _ (by omega) (by rw [ex_n1];omega) rfl]
  rfl
theorem ex_d:(bdabs 1 65535 65535 65535 65535 100 0 0 0 0 0 0 65535 0 [] [⟨0,0,0,0,0⟩,⟨1023,0,0,0,0⟩]).2=0∧(bdabs 1 65535 65535 65535 65535 100 0 0 0 0 0 0 65535 0 [] [⟨0,0,0,0,0⟩,⟨1023,0,0,0,0⟩]).1.length=1024:=by
  rw [ex_open _ (by decide)]
  obtain ⟨p,e,q⟩:=ex_many [⟨0,0,0,0,0⟩,⟨1023,0,0,0,0⟩] rfl 1023 1200 0 [bdab 1 0 0 [] (zab [⟨0,0,0,0,0⟩,⟨1023,0,0,0,0⟩] 0) 0 0] (by omega) (by rw [ex_n2];omega) (by rw [ex_n2];omega) (by rw [List.length_singleton];omega)
  rw [e]
  exact ⟨rfl,q⟩
theorem ex_f (k:Nat) (hk:3000≤k):zaw.f k=some true:=by
  obtain ⟨d1,d2⟩:=ex_d
  unfold zaw.f za5.f
  rw [zay,dabs_f k hk,zay,zay,dabs_f k hk,zay,ex_a,ex_b]
  dsimp only
  rw [if_pos rfl,if_pos (by decide),if_pos (by decide),if_pos (by decide),if_pos (by decide),if_pos (by decide),if_pos rfl,if_pos (by decide),if_pos (by decide),if_pos (by decide),if_pos (by decide),zay]
  dsimp only
  rw [dabs_f k hk,zay,dabs_f k hk,zay,if_pos ex_c,if_pos d1,d2,if_pos (by decide),brushCheck_f k (by omega),zay]
  rfl
end Go.Proofs.Ytlilncnoohfcdaa.Num
namespace Go.Proofs.Ytlilncnoohfcdaa.Num
open Go.RowKit Go.Proofs.YtlilncnoohfcdaaW.PrintWords Go.Proofs.YtlilncnoohfcdaaW.PrintLast Go.Proofs.YtlilncnoohfcdaaW.PrintMore Go.Proofs.Ytlilncnoohfcdaa.Da Go.Proofs.Ytlilncnoohfcdaa.Br
theorem same_l (l:List DB) (hl:l.length≤9000000000000000000) (d:Nat) : ∀ (k:Nat) (i:Int),0≤i→i+d=l.length→d+1≤k→zaO.l0 k l l i=some true:=by
  induction d with
  | zero=>
    intro k i h0 h1 hk
    obtain ⟨k,rfl⟩ : ∃ m,k=m+1:=⟨k - 1,by omega⟩
    rw [zaO.l0.eq_2,if_neg (by omega)]
  | succ d ih=>
    intro k i h0 h1 hk
    obtain ⟨k,rfl⟩ : ∃ m,k=m+1:=⟨k - 1,by omega⟩
    rw [zaO.l0.eq_2,if_pos (by omega),if_pos (by omega),if_pos (by omega),if_neg (by simp),w64 (n:=i+1) (by omega) (by omega)]
    exact ih k (i+1) (by omega) (by omega) (by omega)
theorem same_f (l:List DB) (hl:l.length≤9000000000000000000) (k:Nat) (hk:l.length+1≤k):zaO.f k l l=some true:=by
  unfold zaO.f
  rw [if_pos rfl,same_l l hl l.length k 0 (by omega) (by omega) hk]
def dgood (d:DB):Prop:=(-16777216≤d.f0∧d.f0≤16777216)∧(-16777216≤d.f1∧d.f1≤16777216)∧(1≤d.f2∧d.f2≤1024)∧(0≤d.f3∧d.f3≤65535)∧(0≤d.f4∧d.f4<65536)
theorem bdabs_all (a0 a1 a2 a3 a4 a5 a6 a7 a8 a9 a10 a11 a12 a13:Int) (ld:List DY) (l:List SM):(bdabs a0 a1 a2 a3 a4 a5 a6 a7 a8 a9 a10 a11 a12 a13 ld l).1.length≤1024∧∀ d ∈ (bdabs a0 a1 a2 a3 a4 a5 a6 a7 a8 a9 a10 a11 a12 a13 ld l).1,dgood d:=by
  have none_:([]:List DB).length≤1024∧∀ d ∈ ([]:List DB),dgood d:=⟨by decide,fun d h=>absurd h (List.not_mem_nil)⟩
  unfold bdabs
  by_cases c1:bcheck a0 a1 a2 a3 a4 a5 a6 a7 a8 a9 a10 a11 a12 a13 ld=0
  · rw [if_pos c1]
    by_cases c2:scheck l=0
    · rw [if_pos c2]
      have h0:=(bcheck_rng c1).1
      have h1:=bdab_bd a0 a7 a13 ld (zab l 0) 0 0 h0
      cases e:brun a0 a5 a7 a13 ld l 1200 1 0 (bspc a5 (bdab a0 a7 a13 ld (zab l 0) 0 0).f2) [bdab a0 a7 a13 ld (zab l 0) 0 0] with
      | none=>exact none_
      | some o=>
        refine ⟨Run.run_len _ _ _ _ _ _ _ _ _ _ e (by rw [List.length_singleton];omega),?_⟩
        refine Run.run_all _ _ _ _ dgood (fun i a x=>bdab_bd a0 a7 a13 ld _ _ _ h0) _ _ _ _ _ _ e ?_
        intro d hd
        rw [List.mem_singleton.mp hd]
        exact h1
    · rw [if_neg c2];exact none_
  · rw [if_neg c1];exact none_
theorem rd_mem (l:List DB) (j:Int) (h0:0≤j) (h1:j<l.length):zag l j ∈ l:=by
  unfold zag
  rw [List.getD_eq_getElem?_getD,List.getElem?_eq_getElem (by omega)]
  exact List.getElem_mem _
end Go.Proofs.Ytlilncnoohfcdaa.Num
