/-
  Plain facts on layer 28: the loops of Dabs, of the program and of the reference, give the dabs of one plain recursion. Conditions stand in each statement (enough rounds).
-/
import Derived.Test.YtlilncnoohfcdaaBrush
namespace Go.Proofs.Ytlilncnoohfcdaa.Num
open Go.RowKit Go.Proofs.YtlilncnoohfcdaaW.PrintWords Go.Proofs.YtlilncnoohfcdaaW.PrintLast Go.Proofs.YtlilncnoohfcdaaW.PrintMore Go.Proofs.Ytlilncnoohfcdaa.Da Go.Proofs.Ytlilncnoohfcdaa.Br
def bN (l:List SM) (i:Int):Int:=blen (zab l (i - 1)) (zab l i)
def bSp (l:List SM) (i:Int):Int:=spd (zab l (i - 1)).f0 (zab l (i - 1)).f1 (zab l (i - 1)).f4 (zab l i).f0 (zab l i).f1 (zab l i).f4
def bF (a0 a7 sd:Int) (ld:List DY) (l:List SM) (i d ix:Int):DB:=bdab a0 a7 sd ld (bmid (zab l (i - 1)) (zab l i) d (bN l i)) (bSp l i) ix
def bres:Option (List DB)→List DB×Int
  | none=>([],3)
  | some o=>(o,0)
abbrev brun (a0 a5 a7 sd:Int) (ld:List DY) (l:List SM):Nat→Int→Int→Int→List DB→Option (List DB):=Run.run (bF a0 a7 sd ld l) (bN l) (fun d=>bspc a5 d.f2) (l.length:Int)
theorem brun_s (a0 a5 a7 sd:Int) (ld:List DY) (l:List SM) (m:Nat) (i a r:Int) (o:List DB):brun a0 a5 a7 sd ld l (m+1) i a r o=if i<(l.length:Int) then (if r≤bN l i - a then (if (o.length:Int)=1024 then none else brun a0 a5 a7 sd ld l m i (a+r) (bspc a5 (bF a0 a7 sd ld l i (a+r) o.length).f2) (o ++ [bF a0 a7 sd ld l i (a+r) o.length])) else brun a0 a5 a7 sd ld l m (i+1) 0 (r - (bN l i - a)) o) else some o:=Eq.trans rfl rfl
theorem dabs_l (a0 a1 a2 a3 a4 a5 a6 a7 a8 a9 a10 a11 a12 a13:Int) (ld:List DY) (e:Bool) (l:List SM) (h0:1≤a0∧a0≤1024) (h5:1≤a5∧a5≤1000) (h7:0≤a7∧a7≤1000) (hl:l.length≤128) (hs : ∀ j:Int,0≤j→j<l.length→sgood (zab l j)) (m:Nat) :
    ∀ (i at' rest:Int) (o:List DB) (k:Nat),1≤i→i≤l.length→o.length≤1024→1≤rest→rest≤163840→(l.length - i)+(1024 - o.length)<m→
    (i<l.length→0≤at'→at'≤bN l i→2*m+100≤k→zaz.l1 k l o rest i (bN l i) (bSp l i) at' a0 a1 a2 a3 a4 a5 a6 a7 a8 a9 a10 a11 a12 a13 ld e (zab l (i - 1)).f0 (zab l (i - 1)).f1 (zab l (i - 1)).f2 (zab l (i - 1)).f3 (zab l (i - 1)).f4 (zab l i).f0 (zab l i).f1 (zab l i).f2 (zab l i).f3 (zab l i).f4=some (bres (brun a0 a5 a7 a13 ld l m i at' rest o)))∧
    (2*m+101≤k→zaz.l0 k l o rest i a0 a1 a2 a3 a4 a5 a6 a7 a8 a9 a10 a11 a12 a13 ld e=some (bres (brun a0 a5 a7 a13 ld l m i 0 rest o))):=by
  induction m with
  | zero=>intro i at' rest o k q0 q1 q2 q3 q4 q5;omega
  | succ m ih=>
    intro i at' rest o k q0 q1 q2 q3 q4 q5
    have A (at':Int) (k:Nat) (hi:i<l.length) (t0:0≤at') (t1:at'≤bN l i) (hk:2*(m+1)+100≤k):zaz.l1 k l o rest i (bN l i) (bSp l i) at' a0 a1 a2 a3 a4 a5 a6 a7 a8 a9 a10 a11 a12 a13 ld e (zab l (i - 1)).f0 (zab l (i - 1)).f1 (zab l (i - 1)).f2 (zab l (i - 1)).f3 (zab l (i - 1)).f4 (zab l i).f0 (zab l i).f1 (zab l i).f2 (zab l i).f3 (zab l i).f4=some (bres (brun a0 a5 a7 a13 ld l (m+1) i at' rest o)):=by
      obtain ⟨k,rfl⟩ : ∃ n,k=n+1:=⟨k - 1,by omega⟩
      have gp:=hs (i - 1) (by omega) (by omega)
      have gq:=hs i (by omega) hi
      have nb:0≤bN l i∧bN l i≤1073741824:=blen_bd _ _ gp gq
      rw [zaz.l1.eq_2,brun_s,if_pos hi,w64 (n:=bN l i - at') (by omega) (by omega)]
      by_cases c:rest≤bN l i - at'
      · rw [if_pos c,if_pos c]
        by_cases c2:(o.length:Int)=1024
        · rw [if_pos c2,if_pos c2];rfl
        · have hd:1≤(bF a0 a7 a13 ld l i (at'+rest) o.length).f2∧(bF a0 a7 a13 ld l i (at'+rest) o.length).f2≤1024:=(bdab_bd a0 a7 a13 ld _ _ _ h0).2.2.1
          have hp:=(bspc_bd a5 _ h5 hd).2.2
          rw [if_neg c2,if_neg c2,w64 (n:=at'+rest) (by omega) (by omega),sampleAt_f k (by omega) _ _ _ _ gp gq ⟨by omega,by omega⟩ ⟨by omega,nb.2⟩,zay,dabOf_f k (by omega) _ _ _ _ _ _ _ _ _ _ _ _ _ _ _ _ _ _ _ _ _ _ _ h0 h7,zay,if_pos (by omega)]
          rw [show (bdab a0 a7 a13 ld ⟨(bmid (zab l (i - 1)) (zab l i) (at'+rest) (bN l i)).f0,(bmid (zab l (i - 1)) (zab l i) (at'+rest) (bN l i)).f1,(bmid (zab l (i - 1)) (zab l i) (at'+rest) (bN l i)).f2,(bmid (zab l (i - 1)) (zab l i) (at'+rest) (bN l i)).f3,(bmid (zab l (i - 1)) (zab l i) (at'+rest) (bN l i)).f4⟩ (bSp l i) (o.length:Int))=bF a0 a7 a13 ld l i (at'+rest) o.length from rfl]
          dsimp only
          rw [spacing_f k (by omega) _ _ _ _ _ _ _ _ _ _ _ _ _ _ _ _ _ _ _ _ _ h5 hd,zay]
          exact (ih i (at'+rest) _ _ k q0 q1 (by rw [List.length_append,List.length_singleton];omega) (by omega) (by omega) (by rw [List.length_append,List.length_singleton];omega)).1 hi (by omega) (by omega) (by omega)
      · rw [if_neg c,if_neg c,w64 (n:=rest - (bN l i - at')) (by omega) (by omega),w64 (n:=i+1) (by omega) (by omega)]
        exact (ih (i+1) 0 _ o k (by omega) (by omega) q2 (by omega) (by omega) (by omega)).2 (by omega)
    refine ⟨fun hi t0 t1 hk=>A at' k hi t0 t1 hk,fun hk=>?_⟩
    obtain ⟨k,rfl⟩ : ∃ n,k=n+1:=⟨k - 1,by omega⟩
    rw [zaz.l0.eq_2]
    by_cases hi:i<l.length
    · have gp:=hs (i - 1) (by omega) (by omega)
      have gq:=hs i (by omega) hi
      have nb:0≤bN l i∧bN l i≤1073741824:=blen_bd _ _ gp gq
      rw [if_pos hi,w64 (n:=i - 1) (by omega) (by omega),if_pos (by omega),if_pos (by omega),if_pos (by omega),length_f k (by omega) _ _ gp gq,zay,spd_f k (by omega),zay]
      exact A 0 k hi (by omega) nb.1 (by omega)
    · rw [if_neg hi,brun_s,if_neg hi];rfl
theorem refDabs_l (a0 a1 a2 a3 a4 a5 a6 a7 a8 a9 a10 a11 a12 a13:Int) (ld:List DY) (e:Bool) (l:List SM) (h0:1≤a0∧a0≤1024) (h5:1≤a5∧a5≤1000) (h7:0≤a7∧a7≤1000) (hl:l.length≤128) (hs : ∀ j:Int,0≤j→j<l.length→sgood (zab l j)) (m:Nat) :
    ∀ (i at' rest:Int) (o:List DB) (k:Nat),1≤i→i≤l.length→o.length≤1024→1≤rest→rest≤163840→(l.length - i)+(1024 - o.length)<m→
    (i<l.length→0≤at'→at'≤bN l i→2*m+100≤k→zap.l1 k l o rest i (bN l i) at' a0 a1 a2 a3 a4 a5 a6 a7 a8 a9 a10 a11 a12 a13 ld e (zab l (i - 1)).f0 (zab l (i - 1)).f1 (zab l (i - 1)).f2 (zab l (i - 1)).f3 (zab l (i - 1)).f4 (zab l i).f0 (zab l i).f1 (zab l i).f2 (zab l i).f3 (zab l i).f4=some (bres (brun a0 a5 a7 a13 ld l m i at' rest o)))∧
    (2*m+101≤k→zap.l0 k l o rest i a0 a1 a2 a3 a4 a5 a6 a7 a8 a9 a10 a11 a12 a13 ld e=some (bres (brun a0 a5 a7 a13 ld l m i 0 rest o))):=by
  induction m with
  | zero=>intro i at' rest o k q0 q1 q2 q3 q4 q5;omega
  | succ m ih=>
    intro i at' rest o k q0 q1 q2 q3 q4 q5
    have A (at':Int) (k:Nat) (hi:i<l.length) (t0:0≤at') (t1:at'≤bN l i) (hk:2*(m+1)+100≤k):zap.l1 k l o rest i (bN l i) at' a0 a1 a2 a3 a4 a5 a6 a7 a8 a9 a10 a11 a12 a13 ld e (zab l (i - 1)).f0 (zab l (i - 1)).f1 (zab l (i - 1)).f2 (zab l (i - 1)).f3 (zab l (i - 1)).f4 (zab l i).f0 (zab l i).f1 (zab l i).f2 (zab l i).f3 (zab l i).f4=some (bres (brun a0 a5 a7 a13 ld l (m+1) i at' rest o)):=by
      obtain ⟨k,rfl⟩ : ∃ n,k=n+1:=⟨k - 1,by omega⟩
      have gp:=hs (i - 1) (by omega) (by omega)
      have gq:=hs i (by omega) hi
      have nb:0≤bN l i∧bN l i≤1073741824:=blen_bd _ _ gp gq
      rw [zap.l1.eq_2,brun_s,if_pos hi,w64 (n:=bN l i - at') (by omega) (by omega)]
      by_cases c:rest≤bN l i - at'
      · rw [if_pos c,if_pos c]
        by_cases c2:(o.length:Int)=1024
        · rw [if_pos c2,if_pos c2];rfl
        · have hd:1≤(bF a0 a7 a13 ld l i (at'+rest) o.length).f2∧(bF a0 a7 a13 ld l i (at'+rest) o.length).f2≤1024:=(bdab_bd a0 a7 a13 ld _ _ _ h0).2.2.1
          have hp:=(bspc_bd a5 _ h5 hd).2.2
          rw [if_neg c2,if_neg c2,w64 (n:=at'+rest) (by omega) (by omega),refBetween_f k (by omega) _ _ _ _ gp gq ⟨by omega,by omega⟩ ⟨by omega,nb.2⟩,zay,refSpd_f k (by omega),zay]
          rw [refDab_f k (by omega) _ _ _ _ _ _ _ _ _ _ _ _ _ _ _ _ _ _ _ _ _ _ _ h0 h7,zay,if_pos (by omega),zay]
          rw [show (bdab a0 a7 a13 ld ⟨(bmid (zab l (i - 1)) (zab l i) (at'+rest) (bN l i)).f0,(bmid (zab l (i - 1)) (zab l i) (at'+rest) (bN l i)).f1,(bmid (zab l (i - 1)) (zab l i) (at'+rest) (bN l i)).f2,(bmid (zab l (i - 1)) (zab l i) (at'+rest) (bN l i)).f3,(bmid (zab l (i - 1)) (zab l i) (at'+rest) (bN l i)).f4⟩ (spd (zab l (i - 1)).f0 (zab l (i - 1)).f1 (zab l (i - 1)).f4 (zab l i).f0 (zab l i).f1 (zab l i).f4) (o.length:Int))=bF a0 a7 a13 ld l i (at'+rest) o.length from rfl]
          dsimp only
          have ll:((o ++ [(bF a0 a7 a13 ld l i (at'+rest) o.length)]).length:Int)=o.length+1:=by rw [List.length_append,List.length_singleton];omega
          have lr:zag (o ++ [(bF a0 a7 a13 ld l i (at'+rest) o.length)]) (o.length:Int)=bF a0 a7 a13 ld l i (at'+rest) o.length:=by
            unfold zag
            rw [Int.toNat_natCast,List.getD_eq_getElem?_getD,List.getElem?_append_right (by omega)]
            simp
          rw [show (⟨(bF a0 a7 a13 ld l i (at'+rest) o.length).f0,(bF a0 a7 a13 ld l i (at'+rest) o.length).f1,(bF a0 a7 a13 ld l i (at'+rest) o.length).f2,(bF a0 a7 a13 ld l i (at'+rest) o.length).f3,(bF a0 a7 a13 ld l i (at'+rest) o.length).f4⟩:DB)=bF a0 a7 a13 ld l i (at'+rest) o.length from rfl,
            ll,w64 (n:=(o.length:Int)+1 - 1) (by omega) (by omega),show (o.length:Int)+1 - 1=o.length by omega,if_pos (by omega),if_pos (by omega),lr,
            refSpacing_f k (by omega) _ _ _ _ _ _ _ _ _ _ _ _ _ _ _ _ _ _ _ _ _ h5 hd,zay]
          exact (ih i (at'+rest) _ _ k q0 q1 (by rw [List.length_append,List.length_singleton];omega) (by omega) (by omega) (by rw [List.length_append,List.length_singleton];omega)).1 hi (by omega) (by omega) (by omega)
      · rw [if_neg c,if_neg c,w64 (n:=rest - (bN l i - at')) (by omega) (by omega),w64 (n:=i+1) (by omega) (by omega)]
        exact (ih (i+1) 0 _ o k (by omega) (by omega) q2 (by omega) (by omega) (by omega)).2 (by omega)
    refine ⟨fun hi t0 t1 hk=>A at' k hi t0 t1 hk,fun hk=>?_⟩
    obtain ⟨k,rfl⟩ : ∃ n,k=n+1:=⟨k - 1,by omega⟩
    rw [zap.l0.eq_2]
    by_cases hi:i<l.length
    · have gp:=hs (i - 1) (by omega) (by omega)
      have gq:=hs i (by omega) hi
      have nb:0≤bN l i∧bN l i≤1073741824:=blen_bd _ _ gp gq
      rw [if_pos hi,w64 (n:=i - 1) (by omega) (by omega),if_pos (by omega),if_pos (by omega),if_pos (by omega),refLen_f k (by omega) _ _ gp gq,zay]
      exact A 0 k hi (by omega) nb.1 (by omega)
    · rw [if_neg hi,brun_s,if_neg hi];rfl
def bdabs (a0 a1 a2 a3 a4 a5 a6 a7 a8 a9 a10 a11 a12 a13:Int) (ld:List DY) (l:List SM):List DB×Int:=
  if bcheck a0 a1 a2 a3 a4 a5 a6 a7 a8 a9 a10 a11 a12 a13 ld=0 then
    (if scheck l=0 then bres (brun a0 a5 a7 a13 ld l 1200 1 0 (bspc a5 (bdab a0 a7 a13 ld (zab l 0) 0 0).f2) [bdab a0 a7 a13 ld (zab l 0) 0 0]) else ([],scheck l))
  else ([],bcheck a0 a1 a2 a3 a4 a5 a6 a7 a8 a9 a10 a11 a12 a13 ld)
theorem bcheck_rng {a0 a1 a2 a3 a4 a5 a6 a7 a8 a9 a10 a11 a12 a13:Int} {ld:List DY} (h:bcheck a0 a1 a2 a3 a4 a5 a6 a7 a8 a9 a10 a11 a12 a13 ld=0):branges a0 a1 a2 a3 a4 a5 a6 a7:=by
  unfold bcheck at h
  split at h
  · assumption
  · omega
theorem dabs_f (k:Nat) (hk:3000≤k) (a0 a1 a2 a3 a4 a5 a6 a7 a8 a9 a10 a11 a12 a13:Int) (ld:List DY) (e:Bool) (l:List SM):zaz.f k a0 a1 a2 a3 a4 a5 a6 a7 a8 a9 a10 a11 a12 a13 ld e l=some (bdabs a0 a1 a2 a3 a4 a5 a6 a7 a8 a9 a10 a11 a12 a13 ld l):=by
  unfold zaz.f bdabs
  rw [check_f k (by omega),zay]
  by_cases c1:bcheck a0 a1 a2 a3 a4 a5 a6 a7 a8 a9 a10 a11 a12 a13 ld=0
  · obtain ⟨h0,_,_,_,_,h5,_,h7⟩:=bcheck_rng c1
    rw [if_pos c1,if_pos c1,brushCheck_f k (by omega),zay]
    by_cases c2:scheck l=0
    · obtain ⟨n1,n2,hs⟩:=scheck_ok l c2
      have hd:=(bdab_bd a0 a7 a13 ld (zab l 0) 0 0 h0).2.2.1
      have hp:=(bspc_bd a5 _ h5 hd).2.2
      rw [if_pos c2,if_pos c2,if_pos (by omega),dabOf_f k (by omega) _ _ _ _ _ _ _ _ _ _ _ _ _ _ _ _ _ _ _ _ _ _ _ h0 h7,zay,zay,if_pos (by simp)]
      rw [show zag [(⟨(bdab a0 a7 a13 ld ⟨(zab l 0).f0,(zab l 0).f1,(zab l 0).f2,(zab l 0).f3,(zab l 0).f4⟩ 0 0).f0,(bdab a0 a7 a13 ld ⟨(zab l 0).f0,(zab l 0).f1,(zab l 0).f2,(zab l 0).f3,(zab l 0).f4⟩ 0 0).f1,(bdab a0 a7 a13 ld ⟨(zab l 0).f0,(zab l 0).f1,(zab l 0).f2,(zab l 0).f3,(zab l 0).f4⟩ 0 0).f2,(bdab a0 a7 a13 ld ⟨(zab l 0).f0,(zab l 0).f1,(zab l 0).f2,(zab l 0).f3,(zab l 0).f4⟩ 0 0).f3,(bdab a0 a7 a13 ld ⟨(zab l 0).f0,(zab l 0).f1,(zab l 0).f2,(zab l 0).f3,(zab l 0).f4⟩ 0 0).f4⟩:DB)] 0=bdab a0 a7 a13 ld (zab l 0) 0 0 from rfl,
        spacing_f k (by omega) _ _ _ _ _ _ _ _ _ _ _ _ _ _ _ _ _ _ _ _ _ h5 hd,zay]
      exact (dabs_l a0 a1 a2 a3 a4 a5 a6 a7 a8 a9 a10 a11 a12 a13 ld e l h0 h5 h7 n2 hs 1200 1 0 _ [bdab a0 a7 a13 ld (zab l 0) 0 0] k (by omega) (by omega) (by rw [List.length_singleton];omega) (by omega) (by omega) (by rw [List.length_singleton];omega)).2 (by omega)
    · rw [if_neg c2,if_neg c2]
  · rw [if_neg c1,if_neg c1]
theorem refDabs_f (k:Nat) (hk:3000≤k) (a0 a1 a2 a3 a4 a5 a6 a7 a8 a9 a10 a11 a12 a13:Int) (ld:List DY) (e:Bool) (l:List SM):zap.f k a0 a1 a2 a3 a4 a5 a6 a7 a8 a9 a10 a11 a12 a13 ld e l=some (bdabs a0 a1 a2 a3 a4 a5 a6 a7 a8 a9 a10 a11 a12 a13 ld l):=by
  unfold zap.f bdabs
  rw [refCheck_f k (by omega),zay]
  by_cases c1:bcheck a0 a1 a2 a3 a4 a5 a6 a7 a8 a9 a10 a11 a12 a13 ld=0
  · obtain ⟨h0,_,_,_,_,h5,_,h7⟩:=bcheck_rng c1
    rw [if_pos c1,if_pos c1,refScheck_f k (by omega),zay]
    by_cases c2:scheck l=0
    · obtain ⟨n1,n2,hs⟩:=scheck_ok l c2
      have hd:=(bdab_bd a0 a7 a13 ld (zab l 0) 0 0 h0).2.2.1
      have hp:=(bspc_bd a5 _ h5 hd).2.2
      rw [if_pos c2,if_pos c2,if_pos (by omega),refDab_f k (by omega) _ _ _ _ _ _ _ _ _ _ _ _ _ _ _ _ _ _ _ _ _ _ _ h0 h7,zay,zay,if_pos (by simp)]
      rw [show zag [(⟨(bdab a0 a7 a13 ld ⟨(zab l 0).f0,(zab l 0).f1,(zab l 0).f2,(zab l 0).f3,(zab l 0).f4⟩ 0 0).f0,(bdab a0 a7 a13 ld ⟨(zab l 0).f0,(zab l 0).f1,(zab l 0).f2,(zab l 0).f3,(zab l 0).f4⟩ 0 0).f1,(bdab a0 a7 a13 ld ⟨(zab l 0).f0,(zab l 0).f1,(zab l 0).f2,(zab l 0).f3,(zab l 0).f4⟩ 0 0).f2,(bdab a0 a7 a13 ld ⟨(zab l 0).f0,(zab l 0).f1,(zab l 0).f2,(zab l 0).f3,(zab l 0).f4⟩ 0 0).f3,(bdab a0 a7 a13 ld ⟨(zab l 0).f0,(zab l 0).f1,(zab l 0).f2,(zab l 0).f3,(zab l 0).f4⟩ 0 0).f4⟩:DB)] 0=bdab a0 a7 a13 ld (zab l 0) 0 0 from rfl,
        refSpacing_f k (by omega) _ _ _ _ _ _ _ _ _ _ _ _ _ _ _ _ _ _ _ _ _ h5 hd,zay]
      exact (refDabs_l a0 a1 a2 a3 a4 a5 a6 a7 a8 a9 a10 a11 a12 a13 ld e l h0 h5 h7 n2 hs 1200 1 0 _ [bdab a0 a7 a13 ld (zab l 0) 0 0] k (by omega) (by omega) (by rw [List.length_singleton];omega) (by omega) (by omega) (by rw [List.length_singleton];omega)).2 (by omega)
    · rw [if_neg c2,if_neg c2]
  · rw [if_neg c1,if_neg c1]
end Go.Proofs.Ytlilncnoohfcdaa.Num
