/- IsMark of the program and of the reference answer alike for every int. No condition. -/
import Derived.Test.YthkmdiogaibbdaaPFnExactIsMarkx1
namespace Go.Proofs.Ythkmdiogaibbdaa.Pure
open Go.RowKit Go.Proofs.Ythkmdiogaibbdaa.PFnExactIsMark Go.Proofs.YthkmdiogaibbdaaW.PrintWords Go.Proofs.YthkmdiogaibbdaaW.PrintLast
set_option linter.unusedVariables false
set_option linter.unusedSimpArgs false

theorem FnExactIsMark : laws_FnExactIsMark.Pure := by
  intro a h
  simp only [laws_FnExactIsMark.f, spec_IsMark.f, impl_IsMark.f, spec_l1In.f, impl_in.f, ge_iff_le]
  split <;> simp

end Go.Proofs.Ythkmdiogaibbdaa.Pure
