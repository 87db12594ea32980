/- Tell, Leaves, Spoils: the law holds. -/
import Derived.Test.YtlpdpeghgndmkaaGreatLawZK
set_option linter.unusedVariables false
set_option linter.unusedSimpArgs false
namespace Go.Proofs.YtlpdpeghgndmkaaGreat.Pad
open Go
end Go.Proofs.YtlpdpeghgndmkaaGreat.Pad
