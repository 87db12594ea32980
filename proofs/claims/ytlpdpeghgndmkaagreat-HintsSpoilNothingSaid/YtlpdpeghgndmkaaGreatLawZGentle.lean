/- The gentlest and the strongest: the law holds. -/
import Derived.Test.YtlpdpeghgndmkaaGreatLawZN
import Derived.Test.YtlpdpeghgndmkaaGreatLawZM
set_option linter.unusedVariables false
set_option linter.unusedSimpArgs false
namespace Go.Proofs.YtlpdpeghgndmkaaGreat.Pad
open Go
end Go.Proofs.YtlpdpeghgndmkaaGreat.Pad
