/-
  No cell of these rows narrows 'for every input' (looked for: loops, veiled, ifaces, maps, wideKeys, modest, calm, conditions, laid).
  DERIVED. THE GIVEN ROWS OF THIS SEAT. 12 by the template 'for every input the law returns true; each argument reads behind the call as it read before'; 0 by the template 'total and deterministic' (their statements: YtogfongmnkmegaaTotals.lean).
  GIVEN WITH THE SEED: the statements are not yours to turn. If you find one false, say at which input.
  Laid BY PROGRAM, IN A SANDBOX (cutbox-rows.mjs): the forced cells as the released guide's own fill.sh prints them over the translation bda204c4fefd3325… (all of the seat's roots in one cut). By AI agents, Wed Nov 11 2026. No macro, syntax, notation, axiom, sorry.
-/
import Derived.Test.YtogfongmnkmegaaChecked
import GoSem.Claim
import GoSem.ClaimJoined
import GoSem.ClaimMapViews
import Derived.JoinedTies
import Derived.KernelRfl
namespace Go.Proofs.Ytogfongmnkmegaa
/- THE CELL 'sum', in the pinned program and in every row, IS THE sha256 OF THE DUMP (.gsa) THAT YtogfongmnkmegaaProg.lean LOADS. Nothing in Lean hashes anything: it is a label: what it is worth is what the hold of that sum in a sandbox is worth. -/
noncomputable def Try.pinned : Pinned := { name := "ytogfongmnkmegaa", sum := "bda204c4fefd33259bb79d27c50c4828aacf74313b4e448f0db659173b674279", checked := Try.checked }
namespace Rows
def none {H : Type} : Left H := { results := [], args := [] }

/-- 'padlocklaw06.SearchTrails': WHATEVER THE INPUT: true; the input reads as it did. -/
def searchTrailsSpec : ChangeSpec := { name := "searchTrails", fn := fun _ => fun
  | [d1, d2, d3] => { results := [.lit (.bool true)], args := [d1, d2, d3] }
  | _ => none }
def searchTrailsRow : OpenClaim := { program := "ytogfongmnkmegaa", sum := "bda204c4fefd33259bb79d27c50c4828aacf74313b4e448f0db659173b674279", func := "padlock/padlocklaw06.SearchTrails", spec := "searchTrails", unfollowed := true, recurses := true, apart := false }
def SearchTrailsSaid : Prop := searchTrailsRow.holds Try.pinned (OpenSpec.ofChange searchTrailsSpec)

/-- ITS FALSE NEIGHBOUR: 'it returns false'. Refute it at one input. -/
def searchTrailsWrong : ChangeSpec := { name := "searchTrails", fn := fun _ => fun
  | [d1, d2, d3] => { results := [.lit (.bool false)], args := [d1, d2, d3] }
  | _ => none }
def SearchTrailsWrongFalsely : Prop := searchTrailsRow.holds Try.pinned (OpenSpec.ofChange searchTrailsWrong)

/-- 'padlocklaw06.SearchReaches': WHATEVER THE INPUT: true; the input reads as it did. -/
def searchReachesSpec : ChangeSpec := { name := "searchReaches", fn := fun _ => fun
  | [d1, d2, d3] => { results := [.lit (.bool true)], args := [d1, d2, d3] }
  | _ => none }
def searchReachesRow : OpenClaim := { program := "ytogfongmnkmegaa", sum := "bda204c4fefd33259bb79d27c50c4828aacf74313b4e448f0db659173b674279", func := "padlock/padlocklaw06.SearchReaches", spec := "searchReaches", unfollowed := true, recurses := true, apart := false }
def SearchReachesSaid : Prop := searchReachesRow.holds Try.pinned (OpenSpec.ofChange searchReachesSpec)

/-- ITS FALSE NEIGHBOUR: 'it returns false'. Refute it at one input. -/
def searchReachesWrong : ChangeSpec := { name := "searchReaches", fn := fun _ => fun
  | [d1, d2, d3] => { results := [.lit (.bool false)], args := [d1, d2, d3] }
  | _ => none }
def SearchReachesWrongFalsely : Prop := searchReachesRow.holds Try.pinned (OpenSpec.ofChange searchReachesWrong)

/-- 'padlocklaw06.SearchFinishes': WHATEVER THE INPUT: true; the input reads as it did. -/
def searchFinishesSpec : ChangeSpec := { name := "searchFinishes", fn := fun _ => fun
  | [d1, d2, d3] => { results := [.lit (.bool true)], args := [d1, d2, d3] }
  | _ => none }
def searchFinishesRow : OpenClaim := { program := "ytogfongmnkmegaa", sum := "bda204c4fefd33259bb79d27c50c4828aacf74313b4e448f0db659173b674279", func := "padlock/padlocklaw06.SearchFinishes", spec := "searchFinishes", unfollowed := true, recurses := true, apart := false }
def SearchFinishesSaid : Prop := searchFinishesRow.holds Try.pinned (OpenSpec.ofChange searchFinishesSpec)

/-- ITS FALSE NEIGHBOUR: 'it returns false'. Refute it at one input. -/
def searchFinishesWrong : ChangeSpec := { name := "searchFinishes", fn := fun _ => fun
  | [d1, d2, d3] => { results := [.lit (.bool false)], args := [d1, d2, d3] }
  | _ => none }
def SearchFinishesWrongFalsely : Prop := searchFinishesRow.holds Try.pinned (OpenSpec.ofChange searchFinishesWrong)

/-- 'padlocklaw06.SearchNeeds': WHATEVER THE INPUT: true; the input reads as it did. -/
def searchNeedsSpec : ChangeSpec := { name := "searchNeeds", fn := fun _ => fun
  | [d1, d2, d3] => { results := [.lit (.bool true)], args := [d1, d2, d3] }
  | _ => none }
def searchNeedsRow : OpenClaim := { program := "ytogfongmnkmegaa", sum := "bda204c4fefd33259bb79d27c50c4828aacf74313b4e448f0db659173b674279", func := "padlock/padlocklaw06.SearchNeeds", spec := "searchNeeds", unfollowed := true, recurses := true, apart := false }
def SearchNeedsSaid : Prop := searchNeedsRow.holds Try.pinned (OpenSpec.ofChange searchNeedsSpec)

/-- ITS FALSE NEIGHBOUR: 'it returns false'. Refute it at one input. -/
def searchNeedsWrong : ChangeSpec := { name := "searchNeeds", fn := fun _ => fun
  | [d1, d2, d3] => { results := [.lit (.bool false)], args := [d1, d2, d3] }
  | _ => none }
def SearchNeedsWrongFalsely : Prop := searchNeedsRow.holds Try.pinned (OpenSpec.ofChange searchNeedsWrong)

/-- 'padlocklaw06.SearchMeans': WHATEVER THE INPUT: true; the input reads as it did. -/
def searchMeansSpec : ChangeSpec := { name := "searchMeans", fn := fun _ => fun
  | [d1, d2, d3] => { results := [.lit (.bool true)], args := [d1, d2, d3] }
  | _ => none }
def searchMeansRow : OpenClaim := { program := "ytogfongmnkmegaa", sum := "bda204c4fefd33259bb79d27c50c4828aacf74313b4e448f0db659173b674279", func := "padlock/padlocklaw06.SearchMeans", spec := "searchMeans", unfollowed := true, recurses := true, apart := false }
def SearchMeansSaid : Prop := searchMeansRow.holds Try.pinned (OpenSpec.ofChange searchMeansSpec)

/-- ITS FALSE NEIGHBOUR: 'it returns false'. Refute it at one input. -/
def searchMeansWrong : ChangeSpec := { name := "searchMeans", fn := fun _ => fun
  | [d1, d2, d3] => { results := [.lit (.bool false)], args := [d1, d2, d3] }
  | _ => none }
def SearchMeansWrongFalsely : Prop := searchMeansRow.holds Try.pinned (OpenSpec.ofChange searchMeansWrong)

/-- 'padlocklaw06.SearchBetween': WHATEVER THE INPUT: true; the input reads as it did. -/
def searchBetweenSpec : ChangeSpec := { name := "searchBetween", fn := fun _ => fun
  | [d1, d2, d3] => { results := [.lit (.bool true)], args := [d1, d2, d3] }
  | _ => none }
def searchBetweenRow : OpenClaim := { program := "ytogfongmnkmegaa", sum := "bda204c4fefd33259bb79d27c50c4828aacf74313b4e448f0db659173b674279", func := "padlock/padlocklaw06.SearchBetween", spec := "searchBetween", unfollowed := true, recurses := true, apart := false }
def SearchBetweenSaid : Prop := searchBetweenRow.holds Try.pinned (OpenSpec.ofChange searchBetweenSpec)

/-- ITS FALSE NEIGHBOUR: 'it returns false'. Refute it at one input. -/
def searchBetweenWrong : ChangeSpec := { name := "searchBetween", fn := fun _ => fun
  | [d1, d2, d3] => { results := [.lit (.bool false)], args := [d1, d2, d3] }
  | _ => none }
def SearchBetweenWrongFalsely : Prop := searchBetweenRow.holds Try.pinned (OpenSpec.ofChange searchBetweenWrong)

/-- 'padlocklaw06.SearchCompares': WHATEVER THE INPUT: true; the input reads as it did. -/
def searchComparesSpec : ChangeSpec := { name := "searchCompares", fn := fun _ => fun
  | [d1, d2, d3] => { results := [.lit (.bool true)], args := [d1, d2, d3] }
  | _ => none }
def searchComparesRow : OpenClaim := { program := "ytogfongmnkmegaa", sum := "bda204c4fefd33259bb79d27c50c4828aacf74313b4e448f0db659173b674279", func := "padlock/padlocklaw06.SearchCompares", spec := "searchCompares", unfollowed := true, recurses := true, apart := false }
def SearchComparesSaid : Prop := searchComparesRow.holds Try.pinned (OpenSpec.ofChange searchComparesSpec)

/-- ITS FALSE NEIGHBOUR: 'it returns false'. Refute it at one input. -/
def searchComparesWrong : ChangeSpec := { name := "searchCompares", fn := fun _ => fun
  | [d1, d2, d3] => { results := [.lit (.bool false)], args := [d1, d2, d3] }
  | _ => none }
def SearchComparesWrongFalsely : Prop := searchComparesRow.holds Try.pinned (OpenSpec.ofChange searchComparesWrong)

/-- 'padlocklaw06.SearchNeeded': WHATEVER THE INPUT: true; the input reads as it did. -/
def searchNeededSpec : ChangeSpec := { name := "searchNeeded", fn := fun _ => fun
  | [d1, d2, d3] => { results := [.lit (.bool true)], args := [d1, d2, d3] }
  | _ => none }
def searchNeededRow : OpenClaim := { program := "ytogfongmnkmegaa", sum := "bda204c4fefd33259bb79d27c50c4828aacf74313b4e448f0db659173b674279", func := "padlock/padlocklaw06.SearchNeeded", spec := "searchNeeded", unfollowed := true, recurses := true, apart := false }
def SearchNeededSaid : Prop := searchNeededRow.holds Try.pinned (OpenSpec.ofChange searchNeededSpec)

/-- ITS FALSE NEIGHBOUR: 'it returns false'. Refute it at one input. -/
def searchNeededWrong : ChangeSpec := { name := "searchNeeded", fn := fun _ => fun
  | [d1, d2, d3] => { results := [.lit (.bool false)], args := [d1, d2, d3] }
  | _ => none }
def SearchNeededWrongFalsely : Prop := searchNeededRow.holds Try.pinned (OpenSpec.ofChange searchNeededWrong)

/-- 'padlocklaw06.SearchLayers': WHATEVER THE INPUT: true; the input reads as it did. -/
def searchLayersSpec : ChangeSpec := { name := "searchLayers", fn := fun _ => fun
  | [d1, d2] => { results := [.lit (.bool true)], args := [d1, d2] }
  | _ => none }
def searchLayersRow : OpenClaim := { program := "ytogfongmnkmegaa", sum := "bda204c4fefd33259bb79d27c50c4828aacf74313b4e448f0db659173b674279", func := "padlock/padlocklaw06.SearchLayers", spec := "searchLayers", unfollowed := true, recurses := true, apart := false }
def SearchLayersSaid : Prop := searchLayersRow.holds Try.pinned (OpenSpec.ofChange searchLayersSpec)

/-- ITS FALSE NEIGHBOUR: 'it returns false'. Refute it at one input. -/
def searchLayersWrong : ChangeSpec := { name := "searchLayers", fn := fun _ => fun
  | [d1, d2] => { results := [.lit (.bool false)], args := [d1, d2] }
  | _ => none }
def SearchLayersWrongFalsely : Prop := searchLayersRow.holds Try.pinned (OpenSpec.ofChange searchLayersWrong)

/-- 'padlocklaw06.SearchChances': WHATEVER THE INPUT: true; the input reads as it did. -/
def searchChancesSpec : ChangeSpec := { name := "searchChances", fn := fun _ => fun
  | [d1, d2, d3] => { results := [.lit (.bool true)], args := [d1, d2, d3] }
  | _ => none }
def searchChancesRow : OpenClaim := { program := "ytogfongmnkmegaa", sum := "bda204c4fefd33259bb79d27c50c4828aacf74313b4e448f0db659173b674279", func := "padlock/padlocklaw06.SearchChances", spec := "searchChances", unfollowed := true, recurses := true, apart := false }
def SearchChancesSaid : Prop := searchChancesRow.holds Try.pinned (OpenSpec.ofChange searchChancesSpec)

/-- ITS FALSE NEIGHBOUR: 'it returns false'. Refute it at one input. -/
def searchChancesWrong : ChangeSpec := { name := "searchChances", fn := fun _ => fun
  | [d1, d2, d3] => { results := [.lit (.bool false)], args := [d1, d2, d3] }
  | _ => none }
def SearchChancesWrongFalsely : Prop := searchChancesRow.holds Try.pinned (OpenSpec.ofChange searchChancesWrong)

/-- 'padlocklaw06.SearchGrows': WHATEVER THE INPUT: true; the input reads as it did. -/
def searchGrowsSpec : ChangeSpec := { name := "searchGrows", fn := fun _ => fun
  | [d1, d2, d3] => { results := [.lit (.bool true)], args := [d1, d2, d3] }
  | _ => none }
def searchGrowsRow : OpenClaim := { program := "ytogfongmnkmegaa", sum := "bda204c4fefd33259bb79d27c50c4828aacf74313b4e448f0db659173b674279", func := "padlock/padlocklaw06.SearchGrows", spec := "searchGrows", unfollowed := true, recurses := true, apart := false }
def SearchGrowsSaid : Prop := searchGrowsRow.holds Try.pinned (OpenSpec.ofChange searchGrowsSpec)

/-- ITS FALSE NEIGHBOUR: 'it returns false'. Refute it at one input. -/
def searchGrowsWrong : ChangeSpec := { name := "searchGrows", fn := fun _ => fun
  | [d1, d2, d3] => { results := [.lit (.bool false)], args := [d1, d2, d3] }
  | _ => none }
def SearchGrowsWrongFalsely : Prop := searchGrowsRow.holds Try.pinned (OpenSpec.ofChange searchGrowsWrong)

/-- 'padlocklaw06.SearchMaps': WHATEVER THE INPUT: true; the input reads as it did. -/
def searchMapsSpec : ChangeSpec := { name := "searchMaps", fn := fun _ => fun
  | [d1, d2] => { results := [.lit (.bool true)], args := [d1, d2] }
  | _ => none }
def searchMapsRow : OpenClaim := { program := "ytogfongmnkmegaa", sum := "bda204c4fefd33259bb79d27c50c4828aacf74313b4e448f0db659173b674279", func := "padlock/padlocklaw06.SearchMaps", spec := "searchMaps", unfollowed := true, recurses := true, apart := false }
def SearchMapsSaid : Prop := searchMapsRow.holds Try.pinned (OpenSpec.ofChange searchMapsSpec)

/-- ITS FALSE NEIGHBOUR: 'it returns false'. Refute it at one input. -/
def searchMapsWrong : ChangeSpec := { name := "searchMaps", fn := fun _ => fun
  | [d1, d2] => { results := [.lit (.bool false)], args := [d1, d2] }
  | _ => none }
def SearchMapsWrongFalsely : Prop := searchMapsRow.holds Try.pinned (OpenSpec.ofChange searchMapsWrong)

/- THE SECOND FORM. 'bulk': how many values and letters a reading holds, each counted each time it is reached (what is shared counts as often as it is met; a slice's spare places count too). A statement '..UptoSaid' is the law's where the arguments, and the package variables that the reading takes, are together of bulk at most 1048576: NARROWER than '..Said'. Prove '..Said' where nothing that the law and all that it calls make is longer than what came in: it says more and counts as full. Else prove '..UptoSaid'. A law counts once. -/
mutual
def uptoBulk {H : Type} : DataW H → Nat
  | .lit (.string bytes) => bytes.length + 1
  | .lit _ => 1
  | .nil => 1
  | .ptr d => uptoBulk d + 1
  | .slice elems spare => uptoBulkAll elems + uptoBulkAll spare + 1
  | .agg parts => uptoBulkAll parts + 1
  | .iface _ d => uptoBulk d + 1
  | .map entries => uptoBulkEntries entries + 1
  | .held _ => 1
def uptoBulkAll {H : Type} : List (DataW H) → Nat
  | [] => 0
  | d :: r => uptoBulk d + uptoBulkAll r
def uptoBulkEntries {H : Type} : List (Lit × DataW H) → Nat
  | [] => 0
  | x :: r => uptoBulkEntry x + uptoBulkEntries r
def uptoBulkEntry {H : Type} : Lit × DataW H → Nat
  | (.string bytes, d) => bytes.length + uptoBulk d + 1
  | (_, d) => uptoBulk d + 1
 end
def uptoSmall : (H : Type) → List (DataW H) → Bool := fun _ ds => decide (uptoBulkAll ds ≤ 1048576)
def OpenSpec.upto (s : _root_.Go.ChangeSpec) : _root_.Go.OpenSpec := { _root_.Go.OpenSpec.ofChange s with cond := some uptoSmall }

/-- 'padlocklaw06.SearchTrails', WHERE WHAT IT READS IS OF BULK AT MOST 1048576: true; the input reads as it did. -/
def searchTrailsUptoRow : OpenClaim := { program := "ytogfongmnkmegaa", sum := "bda204c4fefd33259bb79d27c50c4828aacf74313b4e448f0db659173b674279", func := "padlock/padlocklaw06.SearchTrails", spec := "searchTrails", unfollowed := true, recurses := true, apart := false, narrowed := true }
def SearchTrailsUptoSaid : Prop := searchTrailsUptoRow.holds Try.pinned (OpenSpec.upto searchTrailsSpec)

/-- 'padlocklaw06.SearchReaches', WHERE WHAT IT READS IS OF BULK AT MOST 1048576: true; the input reads as it did. -/
def searchReachesUptoRow : OpenClaim := { program := "ytogfongmnkmegaa", sum := "bda204c4fefd33259bb79d27c50c4828aacf74313b4e448f0db659173b674279", func := "padlock/padlocklaw06.SearchReaches", spec := "searchReaches", unfollowed := true, recurses := true, apart := false, narrowed := true }
def SearchReachesUptoSaid : Prop := searchReachesUptoRow.holds Try.pinned (OpenSpec.upto searchReachesSpec)

/-- 'padlocklaw06.SearchFinishes', WHERE WHAT IT READS IS OF BULK AT MOST 1048576: true; the input reads as it did. -/
def searchFinishesUptoRow : OpenClaim := { program := "ytogfongmnkmegaa", sum := "bda204c4fefd33259bb79d27c50c4828aacf74313b4e448f0db659173b674279", func := "padlock/padlocklaw06.SearchFinishes", spec := "searchFinishes", unfollowed := true, recurses := true, apart := false, narrowed := true }
def SearchFinishesUptoSaid : Prop := searchFinishesUptoRow.holds Try.pinned (OpenSpec.upto searchFinishesSpec)

/-- 'padlocklaw06.SearchNeeds', WHERE WHAT IT READS IS OF BULK AT MOST 1048576: true; the input reads as it did. -/
def searchNeedsUptoRow : OpenClaim := { program := "ytogfongmnkmegaa", sum := "bda204c4fefd33259bb79d27c50c4828aacf74313b4e448f0db659173b674279", func := "padlock/padlocklaw06.SearchNeeds", spec := "searchNeeds", unfollowed := true, recurses := true, apart := false, narrowed := true }
def SearchNeedsUptoSaid : Prop := searchNeedsUptoRow.holds Try.pinned (OpenSpec.upto searchNeedsSpec)

/-- 'padlocklaw06.SearchMeans', WHERE WHAT IT READS IS OF BULK AT MOST 1048576: true; the input reads as it did. -/
def searchMeansUptoRow : OpenClaim := { program := "ytogfongmnkmegaa", sum := "bda204c4fefd33259bb79d27c50c4828aacf74313b4e448f0db659173b674279", func := "padlock/padlocklaw06.SearchMeans", spec := "searchMeans", unfollowed := true, recurses := true, apart := false, narrowed := true }
def SearchMeansUptoSaid : Prop := searchMeansUptoRow.holds Try.pinned (OpenSpec.upto searchMeansSpec)

/-- 'padlocklaw06.SearchBetween', WHERE WHAT IT READS IS OF BULK AT MOST 1048576: true; the input reads as it did. -/
def searchBetweenUptoRow : OpenClaim := { program := "ytogfongmnkmegaa", sum := "bda204c4fefd33259bb79d27c50c4828aacf74313b4e448f0db659173b674279", func := "padlock/padlocklaw06.SearchBetween", spec := "searchBetween", unfollowed := true, recurses := true, apart := false, narrowed := true }
def SearchBetweenUptoSaid : Prop := searchBetweenUptoRow.holds Try.pinned (OpenSpec.upto searchBetweenSpec)

/-- 'padlocklaw06.SearchCompares', WHERE WHAT IT READS IS OF BULK AT MOST 1048576: true; the input reads as it did. -/
def searchComparesUptoRow : OpenClaim := { program := "ytogfongmnkmegaa", sum := "bda204c4fefd33259bb79d27c50c4828aacf74313b4e448f0db659173b674279", func := "padlock/padlocklaw06.SearchCompares", spec := "searchCompares", unfollowed := true, recurses := true, apart := false, narrowed := true }
def SearchComparesUptoSaid : Prop := searchComparesUptoRow.holds Try.pinned (OpenSpec.upto searchComparesSpec)

/-- 'padlocklaw06.SearchNeeded', WHERE WHAT IT READS IS OF BULK AT MOST 1048576: true; the input reads as it did. -/
def searchNeededUptoRow : OpenClaim := { program := "ytogfongmnkmegaa", sum := "bda204c4fefd33259bb79d27c50c4828aacf74313b4e448f0db659173b674279", func := "padlock/padlocklaw06.SearchNeeded", spec := "searchNeeded", unfollowed := true, recurses := true, apart := false, narrowed := true }
def SearchNeededUptoSaid : Prop := searchNeededUptoRow.holds Try.pinned (OpenSpec.upto searchNeededSpec)

/-- 'padlocklaw06.SearchLayers', WHERE WHAT IT READS IS OF BULK AT MOST 1048576: true; the input reads as it did. -/
def searchLayersUptoRow : OpenClaim := { program := "ytogfongmnkmegaa", sum := "bda204c4fefd33259bb79d27c50c4828aacf74313b4e448f0db659173b674279", func := "padlock/padlocklaw06.SearchLayers", spec := "searchLayers", unfollowed := true, recurses := true, apart := false, narrowed := true }
def SearchLayersUptoSaid : Prop := searchLayersUptoRow.holds Try.pinned (OpenSpec.upto searchLayersSpec)

/-- 'padlocklaw06.SearchChances', WHERE WHAT IT READS IS OF BULK AT MOST 1048576: true; the input reads as it did. -/
def searchChancesUptoRow : OpenClaim := { program := "ytogfongmnkmegaa", sum := "bda204c4fefd33259bb79d27c50c4828aacf74313b4e448f0db659173b674279", func := "padlock/padlocklaw06.SearchChances", spec := "searchChances", unfollowed := true, recurses := true, apart := false, narrowed := true }
def SearchChancesUptoSaid : Prop := searchChancesUptoRow.holds Try.pinned (OpenSpec.upto searchChancesSpec)

/-- 'padlocklaw06.SearchGrows', WHERE WHAT IT READS IS OF BULK AT MOST 1048576: true; the input reads as it did. -/
def searchGrowsUptoRow : OpenClaim := { program := "ytogfongmnkmegaa", sum := "bda204c4fefd33259bb79d27c50c4828aacf74313b4e448f0db659173b674279", func := "padlock/padlocklaw06.SearchGrows", spec := "searchGrows", unfollowed := true, recurses := true, apart := false, narrowed := true }
def SearchGrowsUptoSaid : Prop := searchGrowsUptoRow.holds Try.pinned (OpenSpec.upto searchGrowsSpec)

/-- 'padlocklaw06.SearchMaps', WHERE WHAT IT READS IS OF BULK AT MOST 1048576: true; the input reads as it did. -/
def searchMapsUptoRow : OpenClaim := { program := "ytogfongmnkmegaa", sum := "bda204c4fefd33259bb79d27c50c4828aacf74313b4e448f0db659173b674279", func := "padlock/padlocklaw06.SearchMaps", spec := "searchMaps", unfollowed := true, recurses := true, apart := false, narrowed := true }
def SearchMapsUptoSaid : Prop := searchMapsUptoRow.holds Try.pinned (OpenSpec.upto searchMapsSpec)

end Rows
end Go.Proofs.Ytogfongmnkmegaa
