import Derived.Test.YtggclcocablccaaPFnExactNonceForx1
namespace Go.Proofs.Ytggclcocablccaa.Pure
open Go.RowKit Go.Proofs.Ytggclcocablccaa.PFnExactNonceFor Go.Proofs.YtggclcocablccaaW.PrintWords Go.Proofs.YtggclcocablccaaW.PrintLast

/-- YOURS: ∀ (a0 : Int) (a1 : Int) (a2 : Int), (Lit.int .i64 a0).wf = true → (Lit.int .i64 a1).wf = true → (Lit.int .i64 a2).wf = true → ∃ k, laws_FnExactNonceFor.f k a0 a1 a2 = some true
What it reaches (each with k first where it has rounds; `.mono`: more rounds tell the same; `.l0`, ..: its loops, with `.mono_l`): spec_l1In.f, spec_Mod.f, spec_Hash.f, spec_NonceFor.f, impl_InRange.f, impl_Mod.f, impl_Hash.f, impl_NonceFor.f, laws_FnExactNonceFor.f -/
theorem FnExactNonceFor : laws_FnExactNonceFor.Pure := by
  intro a0 a1 a2 _ _ _
  have hm : ∀ a b, impl_Mod.f a b = spec_Mod.f a b := fun _ _ => rfl
  have hM : ∀ a : Int, spec_Mod.f a 2147483647 = some (Int.tmod (wrap64 ((Int.tmod a 2147483647) + 2147483647)) 2147483647) := by
    intro a; simp [spec_Mod.f, spec_l1In.f]
  have hK : ∀ a : Int, spec_Mod.f a 100000 = some (Int.tmod (wrap64 ((Int.tmod a 100000) + 100000)) 100000) := by
    intro a; simp [spec_Mod.f, spec_l1In.f]
  have w1 : wrap64 1 = 1 := by simp [wrap64]
  have w2 : wrap64 2 = 2 := by simp [wrap64]
  have w3 : wrap64 3 = 3 := by simp [wrap64]
  refine ⟨4, ?_⟩
  simp [laws_FnExactNonceFor.f, spec_NonceFor.f, impl_NonceFor.f, spec_Hash.f, impl_Hash.f, spec_Hash.l0, impl_Hash.l0, hm, hM, hK, w1, w2, w3]

end Go.Proofs.Ytggclcocablccaa.Pure
