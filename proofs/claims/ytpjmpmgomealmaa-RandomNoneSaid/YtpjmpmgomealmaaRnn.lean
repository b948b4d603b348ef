/-
  RandomNone walked: sources that are nil or were not made answer 0, and the chapter's examples hold. No condition.
-/
import Derived.Test.YtpjmpmgomealmaaRnh
import Derived.Test.YtpjmpmgomealmaaRan
namespace Go.Proofs.Ytpjmpmgomealmaa.Rnh
open Go.RowKit Go.Proofs.YtpjmpmgomealmaaW.PrintWords Go.Proofs.Ytpjmpmgomealmaa.Ra
theorem none_calls (n : Int) (w : World) : Calls Try.prog 7 #[.int .i64 n] w fun e w' => e = .returned (.bool true) ∧ Below w.heap.size w w' := by
  have hex := Ran.example_f
  have HE := Aside0.mk hex
  clear hex
  go_enter Try.func7, Try.ntmps7
  go_wp2_with (first | (go_at_call 26; first | ((with_reducible refine (next_nil _).mono ?_); rintro e w' ⟨rfl, rfl⟩) | (refine (next_unmade _ _ (by go_simp)).mono ?_; rintro e w' ⟨rfl, rfl⟩)) | (go_at_call 29; first | ((with_reducible refine (below_nil _ _).mono ?_); rintro e w' ⟨rfl, rfl⟩) | (refine (below_unmade _ _ _ (by go_simp)).mono ?_; rintro e w' ⟨rfl, rfl⟩)) | (go_at_call 18; refine (imageeditorlaw25_example.calls 10 true _ HE.out).mono ?_; rintro e w1 ⟨rfl, hb⟩))
  go_ret
  exact ⟨rfl, (Below.refl _ _).alloc (Nat.le_refl _) _ |>.trans (hb.mono (by simp))⟩
end Go.Proofs.Ytpjmpmgomealmaa.Rnh
