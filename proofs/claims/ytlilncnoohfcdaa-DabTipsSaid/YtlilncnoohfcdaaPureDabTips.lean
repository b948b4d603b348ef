/-
  DabTips as a plain function gives true. Condition: the dab's angle is a number of 64 bits.
-/
import Derived.Test.YtlilncnoohfcdaaDbx3
import Derived.Test.YtlilncnoohfcdaaDabAwake
import Derived.Test.YtlilncnoohfcdaaDabTips
namespace Go.Proofs.Ytlilncnoohfcdaa.Num
open Go.RowKit Go.Proofs.YtlilncnoohfcdaaW.PrintWords Go.Proofs.YtlilncnoohfcdaaW.PrintLast Go.Proofs.YtlilncnoohfcdaaW.PrintMore Go.Proofs.Ytlilncnoohfcdaa.Da Go.Proofs.Ytlilncnoohfcdaa.Db
theorem tips_loop (X Y W H a0 a1 a2 a3 a4 a5 a6 a7 a8 a9 a10 a11 a12 a13 d0 d1 d2 d3 d4 m0 m1 n0 n1:Int) (l:List S120) (e:Bool) (wf : -9223372036854775808≤d4∧d4<9223372036854775808) (hX : -1048576≤X∧X≤1048576) (hY : -1048576≤Y∧Y≤1048576) (n:Nat) (hn:n≤65536) (hW:n=0∨0<W∧W≤1048576)
    (ck:n=0∨bcheck a0 a1 a2 a3 a4 a5 a6 a7 a8 a9 a10 a11 a12 a13 l=0) :
    ∀ (r k i:Nat),200≤k→i+r=n→
    imageeditorlaw27_DabTips.l0 (k+r+1) (n:Int) (i:Int) a0 a1 a2 a3 a4 a5 a6 a7 a8 a9 a10 a11 a12 a13 l e d0 d1 d2 d3 d4 X Y W H m0 m1 (gridl (cover a1 a2 a6 0 d0 d1 d2 d3 d4) X Y W n) n0 n1 (gridl (cover a1 a2 a6 0 d0 d1 d2 d3 d4) X Y W n)=some true:=by
  intro r
  induction r with
  | zero=>
    intro k i hk h
    rw [imageeditorlaw27_DabTips.l0.eq_2,if_neg (by omega),awake_k _ (by omega),bsome]
  | succ r ih=>
    intro k i hk h
    have hW:=hW.resolve_left (by omega)
    have ck:=ck.resolve_left (by omega)
    have g:rd (gridl (cover a1 a2 a6 0 d0 d1 d2 d3 d4) X Y W n) (i:Int)=cover a1 a2 a6 0 d0 d1 d2 d3 d4 (X+(i:Int) % W) (Y+(i:Int) / W):=gridl_at _ _ _ _ n i (by omega)
    have q0:0≤(i:Int) / W:=Int.ediv_nonneg (by omega) (by omega)
    have q1:(i:Int) / W≤i:=Int.ediv_le_self _ (by omega)
    have q2:=Int.emod_nonneg (i:Int) (show W≠0 by omega)
    have q3:=Int.emod_lt_of_pos (i:Int) hW.1
    obtain ⟨t1,t2⟩:=tdiv_pos (i:Int) W hW.1 (by omega)
    rw [show k+(r+1)+1=(k+r+1)+1 by omega,imageeditorlaw27_DabTips.l0.eq_2,if_pos (by omega),if_pos (by omega),gridl_len,if_pos (by omega),if_pos (by omega),if_pos rfl,if_neg (by omega),t1,t2,
      w64 (n:=(i:Int) / W) (by omega) (by omega),w64 (n:=X+(i:Int) % W) (by omega) (by omega),w64 (n:=Y+(i:Int) / W) (by omega) (by omega),cover_f (k+r+1) (by omega) _ _ _ _ _ _ _ _ _ _ _ _ _ _ _ _ _ _ _ _ _ _ _ wf,bsome,ck,g,if_pos rfl,w64 (n:=(i:Int)+1) (by omega) (by omega)]
    exact ih k (i+1) hk (by omega)
theorem dabTips (a0 a1 a2 a3 a4 a5 a6 a7 a8 a9 a10 a11 a12 a13:Int) (l:List S120) (e:Bool) (d0 d1 d2 d3 d4 x y w h:Int) (wf:(Lit.int .i64 d4).wf=true) (k:Nat) (hk:70000≤k) :
    imageeditorlaw27_DabTips.f k a0 a1 a2 a3 a4 a5 a6 a7 a8 a9 a10 a11 a12 a13 l e d0 d1 d2 d3 d4 x y w h=some true:=by
  have wf:=wfi wf
  unfold imageeditorlaw27_DabTips.f
  rw [tip_f k hk _ _ _ _ _ _ _ _ _ _ _ _ _ _ _ _ _ _ _ _ _ _ _ _ _ wf,bsome,refTip_f k hk _ _ _ _ _ _ _ _ _ _ _ _ _ _ _ _ _ _ _ _ _ _ _ _ _ wf,bsome,if_pos rfl,if_pos rfl,if_pos rfl,if_pos rfl]
  have base (m0 m1 n0 n1:Int):imageeditorlaw27_DabTips.l0 k 0 0 a0 a1 a2 a3 a4 a5 a6 a7 a8 a9 a10 a11 a12 a13 l e d0 d1 d2 d3 d4 x y w h m0 m1 [] n0 n1 []=some true:=by
    rw [show k=(k - 1)+1 by omega,imageeditorlaw27_DabTips.l0.eq_2,if_neg (by omega),awake_k _ (by omega),bsome]
  unfold tipv
  by_cases c:bcheck a0 a1 a2 a3 a4 a5 a6 a7 a8 a9 a10 a11 a12 a13 l=0
  · rw [if_pos c]
    by_cases cl:lim d0 d1 d2 d3 d4=true
    · rw [if_pos cl]
      by_cases cv:rvalid x y w h=true
      · have V:=of_decide_eq_true cv
        rw [if_pos cv]
        by_cases c1:w > 256
        · rw [if_pos c1];exact base _ _ _ _
        · rw [if_neg c1]
          by_cases c2:h > 256
          · rw [if_pos c2];exact base _ _ _ _
          · rw [if_neg c2]
            by_cases c3:w=0
            · rw [if_pos c3];exact base _ _ _ _
            · rw [if_neg c3]
              by_cases c4:h=0
              · rw [if_pos c4];exact base _ _ _ _
              · rw [if_neg c4]
                dsimp only
                obtain ⟨u,v,rfl,rfl,eA,bA⟩:=area w h (by omega) (by omega)
                rw [eA,gridl_len]
                have R:=tips_loop x y u v a0 a1 a2 a3 a4 a5 a6 a7 a8 a9 a10 a11 a12 a13 d0 d1 d2 d3 d4 u v u v l e wf (by omega) (by omega) (v*u) bA (.inr (by omega)) (.inr c) (v*u) (k - v*u - 1) 0 (by omega) (by omega)
                rw [show k - v*u - 1+v*u+1=k by omega] at R
                exact R
      · rw [if_neg cv];exact base _ _ _ _
    · rw [if_neg cl];exact base _ _ _ _
  · rw [if_neg c];exact base _ _ _ _
end Go.Proofs.Ytlilncnoohfcdaa.Num
