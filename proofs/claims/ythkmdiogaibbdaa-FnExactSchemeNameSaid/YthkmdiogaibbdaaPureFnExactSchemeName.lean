/- SchemeName of the program and of the reference answer alike for every int. No condition. -/
import Derived.Test.YthkmdiogaibbdaaPFnExactSchemeNamex1
namespace Go.Proofs.Ythkmdiogaibbdaa.Pure
open Go.RowKit Go.Proofs.Ythkmdiogaibbdaa.PFnExactSchemeName Go.Proofs.YthkmdiogaibbdaaW.PrintWords Go.Proofs.YthkmdiogaibbdaaW.PrintLast
set_option linter.unusedVariables false
set_option linter.unusedSimpArgs false

theorem FnExactSchemeName : laws_FnExactSchemeName.Pure := by
  intro a h
  simp only [laws_FnExactSchemeName.f, spec_SchemeName.f, impl_SchemeName.f, impl_isScheme.f, spec_l1In.f, impl_in.f, ge_iff_le]
  by_cases h0 : (1 : Int) ≤ a
  · rw [if_pos h0]
    simp only [Option.bind_some]
    by_cases h1 : a ≤ 4
    · have hw : wrap64 (a - 1) = a - 1 := by unfold wrap64; omega
      simp only [h1, decide_true, if_true, hw]
      rw [if_pos (by omega), if_pos (by simp; omega)]
      simp
    · simp [h1]
  · rw [if_neg h0]; simp

end Go.Proofs.Ythkmdiogaibbdaa.Pure
