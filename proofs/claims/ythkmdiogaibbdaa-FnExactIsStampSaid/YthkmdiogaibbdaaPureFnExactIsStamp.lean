/- IsStamp of the program and of the reference answer alike for every int. No condition. -/
import Derived.Test.YthkmdiogaibbdaaPFnExactIsStampx1
namespace Go.Proofs.Ythkmdiogaibbdaa.Pure
open Go.RowKit Go.Proofs.Ythkmdiogaibbdaa.PFnExactIsStamp Go.Proofs.YthkmdiogaibbdaaW.PrintWords Go.Proofs.YthkmdiogaibbdaaW.PrintLast
set_option linter.unusedVariables false
set_option linter.unusedSimpArgs false

theorem FnExactIsStamp : laws_FnExactIsStamp.Pure := by
  intro a h
  simp only [laws_FnExactIsStamp.f, spec_IsStamp.f, impl_IsStamp.f, spec_l1In.f, impl_in.f, ge_iff_le]
  split <;> simp

end Go.Proofs.Ythkmdiogaibbdaa.Pure
