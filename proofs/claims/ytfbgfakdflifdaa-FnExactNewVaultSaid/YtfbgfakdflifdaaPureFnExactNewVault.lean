/- The law of NewVault, told of the printed functions. -/
import Derived.Test.YtfbgfakdflifdaaPFnExactNewVaultx3
import Derived.Test.YtfbgfakdflifdaaU
namespace Go.Proofs.Ytfbgfakdflifdaa.Pure
open Go.RowKit Go.Proofs.Ytfbgfakdflifdaa.PFnExactNewVault Go.Proofs.YtfbgfakdflifdaaW.PrintWords Go.Proofs.YtfbgfakdflifdaaW.PrintLast Go.Proofs.Ytfbgfakdflifdaa.U
set_option linter.unusedSimpArgs false
set_option linter.unusedVariables false

theorem FnExactNewVault : ∃ k, laws_FnExactNewVault.f k  = some true := ⟨10, by decide +kernel⟩

end Go.Proofs.Ytfbgfakdflifdaa.Pure
