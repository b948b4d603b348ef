/-
  BrushBoxes and BrushDabs as plain functions give true. Condition: the dabs' angles are numbers of 64 bits, their number is that of a slice.
-/
import Derived.Test.YtlilncnoohfcdaaBrx19
import Derived.Test.YtlilncnoohfcdaaBrushBox
import Derived.Test.YtlilncnoohfcdaaBrushEx
namespace Go.Proofs.Ytlilncnoohfcdaa.Num
open Go.RowKit Go.Proofs.YtlilncnoohfcdaaW.PrintWords Go.Proofs.YtlilncnoohfcdaaW.PrintLast Go.Proofs.YtlilncnoohfcdaaW.PrintMore Go.Proofs.Ytlilncnoohfcdaa.Da Go.Proofs.Ytlilncnoohfcdaa.Br
theorem brushBoxes (l:List DB) (hl:l.length≤9000000000000000000) (hw : ∀ d ∈ l,(Lit.int .i64 d.f4).wf=true) (k:Nat) (hk:l.length+3000≤k):imageeditorlaw28_BrushBoxes.f k l=some true:=by
  have hw' : ∀ j:Int,0≤j→j<l.length→-9223372036854775808≤(zag l j).f4∧(zag l j).f4<9223372036854775808:=fun j h0 h1=>wfi (hw _ (rd_mem l j h0 h1))
  unfold imageeditorlaw28_BrushBoxes.f
  rw [brushBox_f l hl hw' k (by omega),zay,refBrushBox_f l hl hw' k (by omega),zay,if_pos (by simp),ex_f k (by omega),zay]
theorem brushDabs (a0 a1 a2 a3 a4 a5 a6 a7 a8 a9 a10 a11 a12 a13:Int) (ld:List DY) (e:Bool) (l:List SM) (k:Nat) (hk:5000≤k):imageeditorlaw28_BrushDabs.f k a0 a1 a2 a3 a4 a5 a6 a7 a8 a9 a10 a11 a12 a13 ld e l=some true:=by
  obtain ⟨n1,n2⟩:=bdabs_all a0 a1 a2 a3 a4 a5 a6 a7 a8 a9 a10 a11 a12 a13 ld l
  unfold imageeditorlaw28_BrushDabs.f
  rw [dabs_f k (by omega),zay,refDabs_f k (by omega),zay,brushCheck_f k (by omega),zay,refScheck_f k (by omega),zay,if_pos rfl,if_pos rfl]
  generalize (bdabs a0 a1 a2 a3 a4 a5 a6 a7 a8 a9 a10 a11 a12 a13 ld l).1=o at n1 n2 ⊢
  have hw' : ∀ j:Int,0≤j→j<o.length→-9223372036854775808≤(zag o j).f4∧(zag o j).f4<9223372036854775808:=fun j h0 h1=>by
    have:=(n2 _ (rd_mem o j h0 h1)).2.2.2.2
    omega
  rw [same_f o (by omega) k (by omega),zay,if_pos rfl,brushBox_f o (by omega) hw' k (by omega),zay,refBrushBox_f o (by omega) hw' k (by omega),zay,if_pos (by simp),ex_f k (by omega),zay]
end Go.Proofs.Ytlilncnoohfcdaa.Num
