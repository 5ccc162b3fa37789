/- NextStamp of the program and of the reference answer alike for every int. No condition. -/
import Derived.Test.YthkmdiogaibbdaaPFnExactNextStampx1
namespace Go.Proofs.Ythkmdiogaibbdaa.Pure
open Go.RowKit Go.Proofs.Ythkmdiogaibbdaa.PFnExactNextStamp Go.Proofs.YthkmdiogaibbdaaW.PrintWords Go.Proofs.YthkmdiogaibbdaaW.PrintLast
set_option linter.unusedVariables false
set_option linter.unusedSimpArgs false

theorem FnExactNextStamp : laws_FnExactNextStamp.Pure := by
  intro a h
  simp only [laws_FnExactNextStamp.f, spec_NextStamp.f, impl_NextStamp.f, spec_l1In.f, impl_in.f, ge_iff_le]
  by_cases h0 : (0 : Int) ≤ a
  · rw [if_pos h0]
    simp only [Option.bind_some]
    by_cases h1 : a ≤ 998 <;> simp [h1]
  · rw [if_neg h0]; simp

end Go.Proofs.Ythkmdiogaibbdaa.Pure
