/- A part of the proof: what the functions of the program compute, shown over the model. -/
import Derived.Test.YtogfongmnkmegaaLawSeaC
namespace Go.Proofs.Ytogfongmnkmegaa.Pad
open Go Go.Proofs
theorem C17_eq : C17 = some true := by kernel_rfl
theorem F17_eq : F17 = some true := C17_le _ C17_eq
end Go.Proofs.Ytogfongmnkmegaa.Pad
