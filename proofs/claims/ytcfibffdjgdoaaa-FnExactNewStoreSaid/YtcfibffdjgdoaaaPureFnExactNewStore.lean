/- Both make the same store. -/
import Derived.Test.YtcfibffdjgdoaaaPFnExactNewStorex3
import Derived.Test.YtcfibffdjgdoaaaMEv
namespace Go.Proofs.Ytcfibffdjgdoaaa.Pure
open Go Go.RowKit Go.Proofs.Ytcfibffdjgdoaaa.PFnExactNewStore Go.Proofs.YtcfibffdjgdoaaaW.PrintWords Go.Proofs.YtcfibffdjgdoaaaW.PrintLast Go.Proofs.YtcfibffdjgdoaaaW.PrintMore Go.Proofs.YtcfibffdjgdoaaaM
set_option linter.unusedVariables false
set_option linter.unusedSimpArgs false

theorem FnExactNewStore : laws_FnExactNewStore.Pure :=
  ⟨20, List.replicate 6 [⟨0, -1, 0, 0, 1000⟩], List.replicate 6 [⟨0, -1, 0, 0, 1000⟩],
    (31, [[⟨1, 2, 3, 4, 5⟩], [⟨6, 7, 8, 9, 10⟩], [⟨11, 12, 13, 14, 15⟩], [⟨16, 17, 18, 19, 20⟩], [⟨21, 22, 23, 24, 25⟩], [⟨26, 27, 28, 29, 30⟩]]),
    by kernel_rfl, by kernel_rfl, by kernel_rfl, by kernel_rfl, by kernel_rfl, by decide⟩

end Go.Proofs.Ytcfibffdjgdoaaa.Pure
