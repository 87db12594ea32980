/- A part of the proof: what the functions of the program compute, shown over the model. -/
import Derived.Test.YtogfongmnkmegaaSeaXT
import Derived.KernelRfl
set_option linter.unusedVariables false
namespace Go.Proofs.Ytogfongmnkmegaa.Pad
open Go Go.Proofs
 /-- padlock.padlocklaw06.large -/
noncomputable def F15 (a0 : Graph) : Option (Bool) :=
 (whileO (σ := (Int × Int)) (ρ := (Int × Int)) (fun s1 =>
 ((if decide (s1.2 < (a0.Edges.length : Int)) then
 (if decide (s1.2 < 400) then
 (some (Sum.inl ()))
 else
 (some (Sum.inr (Sum.inr (s1.1, s1.2)))))
 else
 (some (Sum.inr (Sum.inr (s1.1, s1.2))))) : Option (Unit ⊕ _)).bind fun ov7 => onL ov7 fun v7 =>
 (at? a0.Edges s1.2).bind fun x7 =>
 some (Sum.inl (w64 (s1.1 + (x7.length : Int)), w64 (s1.2 + 1)))) (0, 0)).bind fun out1 =>
 if decide (20 < (a0.Positions.length : Int)) then
 (if decide ((a0.Positions.length : Int) ≤ 300) then
 (some true)
 else
 (if decide (40 < out1.1) then
 (some true)
 else
 (some (decide (400 < (a0.Edges.length : Int))))))
 else
 (if decide (40 < out1.1) then
 (some true)
 else
 (some (decide (400 < (a0.Edges.length : Int)))))

 /-- padlock.padlocklaw06.much -/
noncomputable def F16 (a0 : Int) : Option (Bool) :=
 if decide (120 < a0) then
 (some (decide (a0 ≤ 2000)))
 else
 (some false)

 /-- padlock.padlocklaw06.Example -/
noncomputable def F44  : Option (Graph × (List Int)) :=
 (mk? (([([1, 2] : List Int), ([0, 3] : List Int), ([0] : List Int), ([4, 1] : List Int), ([] : (List Int))] : List (List Int)).length : Int) (⟨(⟨([] : (List Int)), ([] : (List Int)), ([] : (List Int))⟩ : State), ([] : (List Bool))⟩ : Position)).bind fun x1 =>
 (forS (σ := (List (List Edge))) (fun i1 s4 =>
 (whileO (σ := (List Edge × Int)) (ρ := (List Edge × Int)) (fun s5 =>
 (at? ([([1, 2] : List Int), ([0, 3] : List Int), ([0] : List Int), ([4, 1] : List Int), ([] : (List Int))] : List (List Int)) (i1 : Int)).bind fun x69 =>
 if decide (s5.2 < (x69.length : Int)) then
 ((at? ([([1, 2] : List Int), ([0, 3] : List Int), ([0] : List Int), ([4, 1] : List Int), ([] : (List Int))] : List (List Int)) (i1 : Int)).bind fun x70 =>
 (at? x70 s5.2).bind fun x71 =>
 (push? s5.1 ([(⟨(⟨0, 0, 0⟩ : Move), x71⟩ : Edge)] : List Edge)).bind fun x72 =>
 some (Sum.inl (x72, w64 (s5.2 + 1))))
 else
 (some (Sum.inr (s5.1, s5.2)))) ([], 0)).bind fun out5 =>
 (push? s4 ([out5.1] : List (List Edge))).bind fun x73 =>
 some x73) (([([1, 2] : List Int), ([0, 3] : List Int), ([0] : List Int), ([4, 1] : List Int), ([] : (List Int))] : List (List Int)).length) 0 ([])).bind fun out4 =>
 some ((⟨x1, out4⟩ : Graph), ([3, 2, 4, 1, 0] : List Int))

 /-- padlock.search.within -/
noncomputable def F61 (a0 : Int) (a1 : Int) (a2 : Int) : Option (Bool) :=
 if decide (a1 ≤ a0) then
 (some (decide (a0 ≤ a2)))
 else
 (some false)

 /-- padlock.search.newView.1 -/
noncomputable def F78 (a0 : Edge) (a1 : Int) : Option (Bool) :=
 (F61 a0.To 0 (w64 (a1 - 1))).bind fun x1 =>
 some (!x1)

 /-- slices.IndexFunc[[]padlock.api.Edge,padlock.api.Edge] -/
noncomputable def F59 (a0 : (List Edge)) (a1 : Edge → Option Bool) : Option (Int) :=
 (forN (σ := (Unit)) (fun i1 s1 =>
 (at? a0 (i1 : Int)).bind fun x5 =>
 (a1 x5).bind fun x6 =>
 if x6 then
 (some (Sum.inr (i1 : Int)))
 else
 (some (Sum.inl ()))) a0.length 0 ()).bind fun o2 => onL o2 fun out1 =>
 some (-1)

 /-- slices.ContainsFunc[[]padlock.api.Edge,padlock.api.Edge] -/
noncomputable def F77 (a0 : (List Edge)) (a1 : Edge → Option Bool) : Option (Bool) :=
 (F59 a0 a1).bind fun x1 =>
 some (decide (0 ≤ x1))

 /-- (padlock.search.view).nearest -/
noncomputable def F79 (a0 : Search_view) (a1 : Int) : Option (Int) :=
 (at? a0.edges a1).bind fun x1 =>
 (forS (σ := (Int)) (fun i1 s1 =>
 (at? x1 (i1 : Int)).bind fun x8 =>
 (at? a0.distances x8.To).bind fun x9 =>
 if x9 != (-1) then
 (some (minI s1 x9))
 else
 (some s1)) x1.length 0 1099511627776).bind fun out1 =>
 if out1 == 1099511627776 then
 (some (-1))
 else
 (some out1)

 /-- padlock.search.newView -/
noncomputable def F57 (a0 : Graph) (a1 : (List Int)) : Option (Search_view × Int) :=
 (((F61 (a0.Positions.length : Int) 1 300).bind fun x2 =>
 if !x2 then
 (some (Sum.inr ((⟨a0.Edges, a1⟩ : Search_view), 60)))
 else
 (if (a0.Edges.length : Int) != (a0.Positions.length : Int) then
 (some (Sum.inr ((⟨a0.Edges, a1⟩ : Search_view), 60)))
 else
 (if (a1.length : Int) != (a0.Positions.length : Int) then
 (some (Sum.inr ((⟨a0.Edges, a1⟩ : Search_view), 60)))
 else
 (some (Sum.inl ()))))) : Option (Unit ⊕ _)).bind fun ov1 => onL ov1 fun v1 =>
 (forN (σ := (Unit)) (fun i1 s1 =>
 (at? a0.Edges (i1 : Int)).bind fun x7 =>
 if decide (100 < (x7.length : Int)) then
 (some (Sum.inr ((⟨a0.Edges, a1⟩ : Search_view), 60)))
 else
 ((F77 x7 (fun x0_ => F78 x0_ ((a0.Positions.length : Int)))).bind fun x8 =>
 if x8 then
 (some (Sum.inr ((⟨a0.Edges, a1⟩ : Search_view), 60)))
 else
 (some (Sum.inl ())))) a0.Edges.length 0 ()).bind fun o2 => onL o2 fun out1 =>
 (forN (σ := (Unit)) (fun i2 s3 =>
 (at? a1 (i2 : Int)).bind fun x13 =>
 (F79 (⟨a0.Edges, a1⟩ : Search_view) (i2 : Int)).bind fun x14 =>
 ((if x14 != (-1) then
 (some (w64 (x14 + 1)))
 else
 (some x14)) : Option (Int)).bind fun v4 =>
 if x13 != 0 then
 (if x13 != v4 then
 (some (Sum.inr ((⟨a0.Edges, a1⟩ : Search_view), 60)))
 else
 (some (Sum.inl ())))
 else
 (some (Sum.inl ()))) a1.length 0 ()).bind fun o4 => onL o4 fun out2 =>
 some ((⟨a0.Edges, a1⟩ : Search_view), 0)

 /-- padlock.search.newSearch -/
noncomputable def F45 (a0 : Graph) (a1 : (List Int)) (a2 : Mind) (a3 : Int) : Option (Search_view × Int) :=
 (F57 a0 a1).bind fun x1 =>
 if x1.2 != 0 then
 (some (x1.1, x1.2))
 else
 ((F61 a2.Memory 0 200).bind fun x2 =>
 if !x2 then
 (some (x1.1, 1))
 else
 ((F61 a2.Turn 0 99).bind fun x3 =>
 if !x3 then
 (some (x1.1, 1))
 else
 ((F61 a3 0 2000).bind fun x4 =>
 if !x4 then
 (some (x1.1, 1))
 else
 (some (x1.1, 0)))))

 /-- slices.Index[[]padlock.search.gone,padlock.search.gone] -/
noncomputable def F90 (a0 : (List Search_gone)) (a1 : Search_gone) : Option (Int) :=
 (forN (σ := (Unit)) (fun i1 s1 =>
 (at? a0 (i1 : Int)).bind fun x4 =>
 if decide (a1 = x4) then
 (some (Sum.inr (i1 : Int)))
 else
 (some (Sum.inl ()))) a0.length 0 ()).bind fun o2 => onL o2 fun out1 =>
 some (-1)

 /-- slices.Contains[[]padlock.search.gone,padlock.search.gone] -/
noncomputable def F89 (a0 : (List Search_gone)) (a1 : Search_gone) : Option (Bool) :=
 (F90 a0 a1).bind fun x1 =>
 some (decide (0 ≤ x1))

 /-- (*padlock.search.player).knows -/
noncomputable def F86 (a0 : Search_player) (a1 : Int) (a2 : Int) : Option (Bool) :=
 (F89 a0.memory (⟨a1, a2⟩ : Search_gone)).bind fun x1 =>
 some x1

 /-- (*padlock.search.player).fresh -/
noncomputable def F80 (a0 : Search_player) (a1 : Int) : Option (Int) :=
 (at? a0.view.edges a1).bind fun x1 =>
 (forN (σ := (Unit)) (fun i1 s1 =>
 (md a0.Mind.Turn (x1.length : Int)).bind fun x8 =>
 (md (w64 (x8 + (i1 : Int))) (x1.length : Int)).bind fun x9 =>
 (F86 a0 a1 x9).bind fun x10 =>
 if !x10 then
 (some (Sum.inr x9))
 else
 (some (Sum.inl ()))) x1.length 0 ()).bind fun o2 => onL o2 fun out1 =>
 some (-1)

 /-- (*padlock.search.player).back -/
noncomputable def F81 (a0 : Search_player) : Option (Int) :=
 (whileO (σ := (List (Int × Search_way) × List Int)) (ρ := (List (Int × Search_way) × List Int)) (fun s7 =>
 if decide (0 < (s7.2.length : Int)) then
 ((at? s7.2 0).bind fun x115 =>
 (at? a0.view.edges x115).bind fun x116 =>
 (forS (σ := (List (Int × Search_way) × List Int)) (fun i7 s8 =>
 (at? x116 (i7 : Int)).bind fun x129 =>
 (F86 a0 x115 (i7 : Int)).bind fun x130 =>
 if !x130 then
 (some (s8.1, s8.2))
 else
 (((if x115 == a0.at_ then
 (some (i7 : Int))
 else
 (some ((mlook (⟨0, 0⟩ : Search_way) s8.1 x115).edge))) : Option (Int)).bind fun v82 =>
 ((if !(mhas s8.1 x129.To) then
 ((push? s8.2 ([x129.To] : List Int)).bind fun x132 =>
 some x132)
 else
 (some s8.2)) : Option (List Int)).bind fun v83 =>
 ((if !(mhas s8.1 x129.To) then
 (some true)
 else
 (if ((mlook (⟨0, 0⟩ : Search_way) s8.1 x129.To).steps) == (w64 (((mlook (⟨0, 0⟩ : Search_way) s8.1 x115).steps) + 1)) then
 (some (decide (v82 < ((mlook (⟨0, 0⟩ : Search_way) s8.1 x129.To).edge))))
 else
 (some false))) : Option (Bool)).bind fun v84 =>
 if v84 then
 (some (mset s8.1 x129.To (⟨w64 (((mlook (⟨0, 0⟩ : Search_way) s8.1 x115).steps) + 1), v82⟩ : Search_way), v83))
 else
 (some (s8.1, v83)))) x116.length 0 (s7.1, s7.2)).bind fun out8 =>
 (sub? out8.2 1 (out8.2.length : Int)).bind fun x133 =>
 some (Sum.inl (out8.1, x133)))
 else
 (some (Sum.inr (s7.1, s7.2)))) (mset ([] : List (Int × Search_way)) a0.at_ (⟨0, (-1)⟩ : Search_way), ([a0.at_] : List Int))).bind fun out7 =>
 (forS (σ := (Int × Int)) (fun i8 s9 =>
 ((if mhas out7.1 (i8 : Int) then
 ((F80 a0 (i8 : Int)).bind fun x141 =>
 if decide (0 ≤ x141) then
 (if decide (s9.1 < 0) then
 (some true)
 else
 (some (decide (((mlook (⟨0, 0⟩ : Search_way) out7.1 (i8 : Int)).steps) < s9.1))))
 else
 (some false))
 else
 (some false)) : Option (Bool)).bind fun v88 =>
 if v88 then
 (some ((mlook (⟨0, 0⟩ : Search_way) out7.1 (i8 : Int)).steps, (mlook (⟨0, 0⟩ : Search_way) out7.1 (i8 : Int)).edge))
 else
 (some (s9.1, s9.2))) a0.view.edges.length 0 ((-1), (-1))).bind fun out9 =>
 some out9.2

 /-- (*padlock.search.player).oldest.1 -/
noncomputable def F88 (a0 : Search_gone) (a1 : (PRef Search_player)) : Option (Bool) :=
 some (a0.position == a1.v.at_)

 /-- slices.IndexFunc[[]padlock.search.gone,padlock.search.gone] -/
noncomputable def F87 (a0 : (List Search_gone)) (a1 : Search_gone → Option Bool) : Option (Int) :=
 (forN (σ := (Unit)) (fun i1 s1 =>
 (at? a0 (i1 : Int)).bind fun x5 =>
 (a1 x5).bind fun x6 =>
 if x6 then
 (some (Sum.inr (i1 : Int)))
 else
 (some (Sum.inl ()))) a0.length 0 ()).bind fun o2 => onL o2 fun out1 =>
 some (-1)

 /-- (*padlock.search.player).oldest -/
noncomputable def F82 (a0 : Search_player) : Option (Int) :=
 (F87 (((⟨a0⟩ : PRef Search_player).v).memory) (fun x0_ => F88 x0_ ((⟨a0⟩ : PRef Search_player)))).bind fun x1 =>
 (at? (((⟨a0⟩ : PRef Search_player).v).memory) x1).bind fun x2 =>
 some x2.edge

 /-- (*padlock.search.player).choose -/
noncomputable def F68 (a0 : Search_player) : Option (Int) :=
 (F80 a0 a0.at_).bind fun x1 =>
 if decide (0 ≤ x1) then
 (some x1)
 else
 ((F81 a0).bind fun x2 =>
 if decide (0 ≤ x2) then
 (some x2)
 else
 ((F82 a0).bind fun x3 =>
 some x3))

 /-- (*padlock.search.player).step.1 -/
noncomputable def F84 (a0 : Search_gone) (a1 : Search_gone) : Option (Bool) :=
 some (decide (a0 = a1))

 /-- slices.DeleteFunc[[]padlock.search.gone,padlock.search.gone] -/
noncomputable def F83 (a0 : (List Search_gone)) (a1 : Search_gone → Option Bool) : Option ((List Search_gone)) :=
 (F87 a0 a1).bind fun x1 =>
 if x1 == (-1) then
 (some a0)
 else
 ((whileO (σ := (List Search_gone × Int × Int)) (ρ := (List Search_gone × Int × Int)) (fun s1 =>
 if decide (s1.2.2 < (s1.1.length : Int)) then
 ((at? s1.1 s1.2.2).bind fun x20 =>
 (a1 x20).bind fun x21 =>
 if !x21 then
 ((at? s1.1 s1.2.1).bind fun x22 =>
 some (Sum.inl (s1.1.set (s1.2.1).toNat x20, w64 (s1.2.1 + 1), w64 (s1.2.2 + 1))))
 else
 (some (Sum.inl (s1.1, s1.2.1, w64 (s1.2.2 + 1)))))
 else
 (some (Sum.inr (s1.1, s1.2.1, s1.2.2)))) (a0, x1, w64 (x1 + 1))).bind fun out1 =>
 (sub? out1.1 out1.2.1 (out1.1.length : Int)).bind fun x23 =>
 (sub? (out1.1.take (out1.2.1).toNat ++ List.replicate (out1.1.length - (out1.2.1).toNat) (⟨0, 0⟩ : Search_gone)) 0 out1.2.1).bind fun x24 =>
 some x24)

 /-- (*padlock.search.player).step -/
noncomputable def F69 (a0 : Search_player) (a1 : Int) : Option (Search_player) :=
 (F83 a0.memory (fun x0_ => F84 x0_ ((⟨a0.at_, a1⟩ : Search_gone)))).bind fun x1 =>
 (push? x1 ([(⟨a0.at_, a1⟩ : Search_gone)] : List Search_gone)).bind fun x2 =>
 ((if decide (a0.Mind.Memory < (x2.length : Int)) then
 ((sub? x2 1 (x2.length : Int)).bind fun x4 =>
 some x4)
 else
 (some x2)) : Option (List Search_gone)).bind fun v2 =>
 (at? a0.view.edges ((⟨a0.at_, a1⟩ : Search_gone).position)).bind fun x5 =>
 (at? x5 a1).bind fun x6 =>
 some (⟨(⟨a0.view.edges, a0.view.distances⟩ : Search_view), (⟨a0.Mind.Memory, a0.Mind.Turn⟩ : Mind), x6.To, v2⟩ : Search_player)

 /-- (padlock.search.view).search -/
noncomputable def F46 (a0 : Search_view) (a1 : Mind) (a2 : Int) : Option ((List Int) × Bool) :=
 (whileO (σ := (List Int × (List (List Edge)) × (List Int) × Int × Int × Int × List Search_gone)) (ρ := (List Int × (List (List Edge)) × (List Int) × Int × Int × Int × List Search_gone)) (fun s1 =>
 (((at? a0.distances s1.2.2.2.2.2.1).bind fun x45 =>
 if x45 != 0 then
 ((at? a0.edges s1.2.2.2.2.2.1).bind fun x46 =>
 if decide (0 < (x46.length : Int)) then
 (if decide ((s1.1.length : Int) < a2) then
 (some (Sum.inl ()))
 else
 (some (Sum.inr (Sum.inr (s1.1, s1.2.1, s1.2.2.1, s1.2.2.2.1, s1.2.2.2.2.1, s1.2.2.2.2.2.1, s1.2.2.2.2.2.2)))))
 else
 (some (Sum.inr (Sum.inr (s1.1, s1.2.1, s1.2.2.1, s1.2.2.2.1, s1.2.2.2.2.1, s1.2.2.2.2.2.1, s1.2.2.2.2.2.2)))))
 else
 (some (Sum.inr (Sum.inr (s1.1, s1.2.1, s1.2.2.1, s1.2.2.2.1, s1.2.2.2.2.1, s1.2.2.2.2.2.1, s1.2.2.2.2.2.2))))) : Option (Unit ⊕ _)).bind fun ov19 => onL ov19 fun v19 =>
 (F68 (⟨(⟨s1.2.1, s1.2.2.1⟩ : Search_view), (⟨s1.2.2.2.1, s1.2.2.2.2.1⟩ : Mind), s1.2.2.2.2.2.1, s1.2.2.2.2.2.2⟩ : Search_player)).bind fun x47 =>
 (push? s1.1 ([x47] : List Int)).bind fun x48 =>
 (F69 (⟨(⟨s1.2.1, s1.2.2.1⟩ : Search_view), (⟨s1.2.2.2.1, s1.2.2.2.2.1⟩ : Mind), s1.2.2.2.2.2.1, s1.2.2.2.2.2.2⟩ : Search_player) x47).bind fun x49 =>
 some (Sum.inl (x48, x49.view.edges, x49.view.distances, x49.Mind.Memory, x49.Mind.Turn, x49.at_, x49.memory))) ([], a0.edges, a0.distances, a1.Memory, a1.Turn, 0, [])).bind fun out1 =>
 (at? a0.distances out1.2.2.2.2.2.1).bind fun x50 =>
 some (out1.1, x50 == 0)

 /-- padlock.search.Search -/
noncomputable def F18 (a0 : Graph) (a1 : (List Int)) (a2 : Mind) (a3 : Int) : Option ((List Int) × Bool × Int) :=
 (F45 a0 a1 a2 a3).bind fun x1 =>
 if x1.2 != 0 then
 (some (([] : List Int), false, x1.2))
 else
 ((F46 x1.1 a2 a3).bind fun x2 =>
 some (x2.1, x2.2, 0))

 /-- (padlock.search.view).turns -/
noncomputable def F74 (a0 : Search_view) : Option (Int) :=
 (forS (σ := (Int)) (fun i1 s1 =>
 (at? a0.edges (i1 : Int)).bind fun x4 =>
 some (maxI s1 (x4.length : Int))) a0.edges.length 0 1).bind fun out1 =>
 some out1

 /-- (padlock.search.view).steps -/
noncomputable def F50 (a0 : Search_view) (a1 : Int) (a2 : Int) : Option ((List Int) × Bool) :=
 (F74 a0).bind fun x1 =>
 (cnt? x1).bind fun x8 =>
 (forN (σ := (List Int)) (fun i1 s1 =>
 (F46 a0 (⟨a1, (i1 : Int)⟩ : Mind) a2).bind fun x9 =>
 if !x9.2 then
 (some (Sum.inr (([] : List Int), false)))
 else
 ((push? s1 ([(x9.1.length : Int)] : List Int)).bind fun x10 =>
 some (Sum.inl x10))) x8 0 ([])).bind fun o2 => onL o2 fun out1 =>
 some (out1, true)

 /-- padlock.search.divisor -/
noncomputable def F54 (a0 : Int) (a1 : Int) : Option (Int) :=
 (whileO (σ := (Int × Int)) (ρ := (Int × Int)) (fun s1 =>
 if decide (0 < s1.2) then
 ((md s1.1 s1.2).bind fun x7 =>
 some (Sum.inl (s1.2, x7)))
 else
 (some (Sum.inr (s1.1, s1.2)))) (a0, a1)).bind fun out1 =>
 some out1.1

 /-- padlock.search.Mean -/
noncomputable def F29 (a0 : Graph) (a1 : (List Int)) (a2 : Int) (a3 : Int) : Option (Int × Int × Int) :=
 (F45 a0 a1 (⟨a2, 0⟩ : Mind) a3).bind fun x1 =>
 if x1.2 != 0 then
 (some (0, 0, x1.2))
 else
 ((F50 x1.1 a2 a3).bind fun x2 =>
 if !x2.2 then
 (some (0, 0, 3))
 else
 ((forS (σ := (Int)) (fun i1 s1 =>
 (at? x2.1 (i1 : Int)).bind fun x6 =>
 some (w64 (s1 + x6))) x2.1.length 0 0).bind fun out1 =>
 (F54 out1 (x2.1.length : Int)).bind fun x7 =>
 (dv out1 x7).bind fun x8 =>
 (dv (x2.1.length : Int) x7).bind fun x9 =>
 some (x8, x9, 0)))

 /-- padlock.padlocklaw06.sameInts -/
noncomputable def F20 (a0 : (List Int)) (a1 : (List Int)) : Option (Bool) :=
 if (a0.length : Int) != (a1.length : Int) then
 (some false)
 else
 ((forN (σ := (Unit)) (fun i1 s1 =>
 (at? a0 (i1 : Int)).bind fun x7 =>
 (at? a1 (i1 : Int)).bind fun x8 =>
 if x7 != x8 then
 (some (Sum.inr false))
 else
 (some (Sum.inl ()))) a0.length 0 ()).bind fun o2 => onL o2 fun out1 =>
 some true)

 /-- padlock.padlocklaw06.works -/
noncomputable def F17  : Option (Bool) :=
 (F44).bind fun x1 =>
 (F18 x1.1 x1.2 (⟨10, 0⟩ : Mind) 100).bind fun x2 =>
 (F29 x1.1 x1.2 10 100).bind fun x3 =>
 if x2.2.2 == 0 then
 (if x3.2.2 == 0 then
 (if x2.2.1 then
 ((F20 x2.1 ([0, 0, 1, 0, 0, 1, 0] : List Int)).bind fun x4 =>
 if x4 then
 (if x3.1 == 8 then
 (some (x3.2.1 == 1))
 else
 (some false))
 else
 (some false))
 else
 (some false))
 else
 (some false))
 else
 (some false)

 /-- padlock.padlockref06.within -/
noncomputable def F49 (a0 : Int) (a1 : Int) (a2 : Int) : Option (Bool) :=
 if decide (a1 ≤ a0) then
 (some (decide (a0 ≤ a2)))
 else
 (some false)

 /-- padlock.padlockref06.Check -/
noncomputable def F21 (a0 : Graph) (a1 : (List Int)) : Option (Int) :=
 (((F49 (a0.Positions.length : Int) 1 300).bind fun x2 =>
 if !x2 then
 (some (Sum.inr 60))
 else
 (if (a0.Edges.length : Int) != (a0.Positions.length : Int) then
 (some (Sum.inr 60))
 else
 (if (a1.length : Int) != (a0.Positions.length : Int) then
 (some (Sum.inr 60))
 else
 (some (Sum.inl ()))))) : Option (Unit ⊕ _)).bind fun ov1 => onL ov1 fun v1 =>
 (forN (σ := (Unit)) (fun i1 s3 =>
 (at? a0.Edges (i1 : Int)).bind fun x51 =>
 if decide (100 < (x51.length : Int)) then
 (some (Sum.inr 60))
 else
 ((whileO (σ := (Int × Int)) (ρ := (Int × Int) ⊕ _) (fun s4 =>
 (at? a0.Edges (i1 : Int)).bind fun x68 =>
 if decide (s4.2 < (x68.length : Int)) then
 ((at? a0.Edges (i1 : Int)).bind fun x69 =>
 (at? x69 s4.2).bind fun x70 =>
 (F49 x70.To 0 (w64 ((a0.Positions.length : Int) - 1))).bind fun x71 =>
 if !x71 then
 (some (Sum.inr (Sum.inr (Sum.inr 60))))
 else
 ((at? a1 x70.To).bind fun x72 =>
 if decide (0 ≤ x72) then
 (if decide (s4.1 < 0) then
 (some (Sum.inl (x72, w64 (s4.2 + 1))))
 else
 (if decide (x72 < s4.1) then
 (some (Sum.inl (x72, w64 (s4.2 + 1))))
 else
 (some (Sum.inl (s4.1, w64 (s4.2 + 1))))))
 else
 (some (Sum.inl (s4.1, w64 (s4.2 + 1))))))
 else
 (some (Sum.inr (Sum.inl (s4.1, s4.2))))) ((-1), 0)).bind fun o8 => onL o8 fun out4 =>
 ((if decide (0 ≤ out4.1) then
 (some (w64 (out4.1 + 1)))
 else
 (some (-1))) : Option (Int)).bind fun v4 =>
 (at? a1 (i1 : Int)).bind fun x73 =>
 if x73 != 0 then
 ((at? a1 (i1 : Int)).bind fun x74 =>
 if x74 != v4 then
 (some (Sum.inr 60))
 else
 (some (Sum.inl ())))
 else
 (some (Sum.inl ())))) a0.Positions.length 0 ()).bind fun o6 => onL o6 fun out3 =>
 some 0

 /-- padlock.padlockref06.checkMost -/
noncomputable def F47 (a0 : Graph) (a1 : (List Int)) (a2 : Mind) (a3 : Int) : Option (Int) :=
 (F21 a0 a1).bind fun x1 =>
 if x1 != 0 then
 (some x1)
 else
 ((F49 a2.Memory 0 200).bind fun x2 =>
 if !x2 then
 (some 1)
 else
 ((F49 a2.Turn 0 99).bind fun x3 =>
 if !x3 then
 (some 1)
 else
 ((F49 a3 0 2000).bind fun x4 =>
 if !x4 then
 (some 1)
 else
 (some 0))))

 /-- padlock.padlockref06.at -/
noncomputable def F73 (a0 : (List Ref06_gone)) (a1 : Ref06_gone) : Option (Int) :=
 (forN (σ := (Unit)) (fun i1 s1 =>
 (at? a0 (i1 : Int)).bind fun x4 =>
 if decide (x4 = a1) then
 (some (Sum.inr (i1 : Int)))
 else
 (some (Sum.inl ()))) a0.length 0 ()).bind fun o2 => onL o2 fun out1 =>
 some (-1)

 /-- padlock.padlockref06.fresh -/
noncomputable def F70 (a0 : Graph) (a1 : (List Ref06_gone)) (a2 : Int) (a3 : Int) : Option (Int) :=
 (at? a0.Edges a2).bind fun x1 =>
 (forN (σ := (Unit)) (fun i1 s1 =>
 (md (w64 (a3 + (i1 : Int))) (x1.length : Int)).bind fun x6 =>
 (F73 a1 (⟨a2, x6⟩ : Ref06_gone)).bind fun x7 =>
 if decide (x7 < 0) then
 (some (Sum.inr x6))
 else
 (some (Sum.inl ()))) x1.length 0 ()).bind fun o2 => onL o2 fun out1 =>
 some (-1)

 /-- padlock.padlockref06.far -/
noncomputable def F85 (a0 : Graph) (a1 : (List Ref06_gone)) (a2 : Int) : Option ((List Int)) :=
 (mk? (a0.Edges.length : Int) 0).bind fun x1 =>
 (whileO (σ := (List Int × Int)) (ρ := (List Int × Int)) (fun s1 =>
 if decide (s1.2 < (s1.1.length : Int)) then
 ((at? s1.1 s1.2).bind fun x8 =>
 some (Sum.inl (s1.1.set (s1.2).toNat (-1), w64 (s1.2 + 1))))
 else
 (some (Sum.inr (s1.1, s1.2)))) (x1, 0)).bind fun out1 =>
 (at? out1.1 a2).bind fun x9 =>
 (whileO (σ := (List Int × Bool × Int)) (ρ := (List Int × Bool × Int)) (fun s8 =>
 if s8.2.1 then
 ((forS (σ := (List Int × Bool)) (fun i7 s9 =>
 (at? a1 (i7 : Int)).bind fun x280 =>
 (((at? s9.1 x280.position).bind fun x285 =>
 if decide (x285 < 0) then
 ((at? a0.Edges x280.position).bind fun x286 =>
 (at? x286 x280.edge).bind fun x287 =>
 (at? s9.1 x287.To).bind fun x288 =>
 some (x288 == s8.2.2))
 else
 (some false)) : Option (Bool)).bind fun v28 =>
 if v28 then
 ((at? s9.1 x280.position).bind fun x289 =>
 some (s9.1.set (x280.position).toNat (w64 (s8.2.2 + 1)), true))
 else
 (some (s9.1, s9.2))) a1.length 0 (s8.1, false)).bind fun out9 =>
 some (Sum.inl (out9.1, out9.2, w64 (s8.2.2 + 1))))
 else
 (some (Sum.inr (s8.1, s8.2.1, s8.2.2)))) (out1.1.set (a2).toNat 0, true, 0)).bind fun out8 =>
 some out8.1

 /-- padlock.padlockref06.back -/
noncomputable def F71 (a0 : Graph) (a1 : (List Ref06_gone)) (a2 : Int) : Option (Int) :=
 (forS (σ := (Int × Int)) (fun i1 s1 =>
 (F70 a0 a1 (i1 : Int) 0).bind fun x10 =>
 if decide (x10 < 0) then
 (some (s1.1, s1.2))
 else
 ((F85 a0 a1 (i1 : Int)).bind fun x11 =>
 (at? x11 a2).bind fun x12 =>
 if decide (0 < x12) then
 (if decide (s1.1 < 0) then
 (some ((i1 : Int), x12))
 else
 (if decide (x12 < s1.2) then
 (some ((i1 : Int), x12))
 else
 (some (s1.1, s1.2))))
 else
 (some (s1.1, s1.2)))) a0.Edges.length 0 ((-1), 0)).bind fun out1 =>
 if decide (out1.1 < 0) then
 (some (-1))
 else
 ((F85 a0 a1 out1.1).bind fun x13 =>
 (whileO (σ := (Int)) (ρ := (Int) ⊕ _) (fun s2 =>
 (at? a0.Edges a2).bind fun x30 =>
 if decide (s2 < (x30.length : Int)) then
 ((F73 a1 (⟨a2, s2⟩ : Ref06_gone)).bind fun x31 =>
 if decide (0 ≤ x31) then
 ((at? a0.Edges a2).bind fun x32 =>
 (at? x32 s2).bind fun x33 =>
 (at? x13 x33.To).bind fun x34 =>
 if x34 == (w64 (out1.2 - 1)) then
 (some (Sum.inr (Sum.inr s2)))
 else
 (some (Sum.inl (w64 (s2 + 1)))))
 else
 (some (Sum.inl (w64 (s2 + 1)))))
 else
 (some (Sum.inr (Sum.inl s2)))) 0).bind fun o3 => onL o3 fun out2 =>
 some (-1))

 /-- padlock.padlockref06.oldest -/
noncomputable def F72 (a0 : (List Ref06_gone)) (a1 : Int) : Option (Int) :=
 (forN (σ := (Unit)) (fun i1 s1 =>
 (at? a0 (i1 : Int)).bind fun x5 =>
 if x5.position == a1 then
 ((at? a0 (i1 : Int)).bind fun x6 =>
 some (Sum.inr x6.edge))
 else
 (some (Sum.inl ()))) a0.length 0 ()).bind fun o2 => onL o2 fun out1 =>
 some (-1)

 /-- padlock.padlockref06.search -/
noncomputable def F48 (a0 : Graph) (a1 : (List Int)) (a2 : Mind) (a3 : Int) : Option ((List Int) × Bool) :=
 (whileO (σ := (List Int × List Ref06_gone × Int)) (ρ := (List Int × List Ref06_gone × Int)) (fun s1 =>
 (((at? a1 s1.2.2).bind fun x153 =>
 if x153 != 0 then
 ((at? a0.Edges s1.2.2).bind fun x154 =>
 if decide (0 < (x154.length : Int)) then
 (if decide ((s1.1.length : Int) < a3) then
 (some (Sum.inl ()))
 else
 (some (Sum.inr (Sum.inr (s1.1, s1.2.1, s1.2.2)))))
 else
 (some (Sum.inr (Sum.inr (s1.1, s1.2.1, s1.2.2)))))
 else
 (some (Sum.inr (Sum.inr (s1.1, s1.2.1, s1.2.2))))) : Option (Unit ⊕ _)).bind fun ov59 => onL ov59 fun v59 =>
 (F70 a0 s1.2.1 s1.2.2 a2.Turn).bind fun x155 =>
 ((if decide (x155 < 0) then
 ((F71 a0 s1.2.1 s1.2.2).bind fun x157 =>
 some x157)
 else
 (some x155)) : Option (Int)).bind fun v62 =>
 ((if decide (v62 < 0) then
 ((F72 s1.2.1 s1.2.2).bind fun x159 =>
 some x159)
 else
 (some v62)) : Option (Int)).bind fun v65 =>
 (((F73 s1.2.1 (⟨s1.2.2, v65⟩ : Ref06_gone)).bind fun x165 =>
 if decide (0 ≤ x165) then
 ((sub? s1.2.1 0 x165).bind fun x166 =>
 (push? ([] : List Ref06_gone) x166).bind fun x167 =>
 (sub? s1.2.1 (w64 (x165 + 1)) (s1.2.1.length : Int)).bind fun x168 =>
 (push? x167 x168).bind fun x169 =>
 some x169)
 else
 (some s1.2.1)) : Option (List Ref06_gone)).bind fun v68 =>
 (push? v68 ([(⟨s1.2.2, v65⟩ : Ref06_gone)] : List Ref06_gone)).bind fun x170 =>
 ((if decide (a2.Memory < (x170.length : Int)) then
 ((sub? x170 1 (x170.length : Int)).bind fun x172 =>
 some x172)
 else
 (some x170)) : Option (List Ref06_gone)).bind fun v70 =>
 (push? s1.1 ([v65] : List Int)).bind fun x173 =>
 (at? a0.Edges s1.2.2).bind fun x174 =>
 (at? x174 v65).bind fun x175 =>
 some (Sum.inl (x173, v70, x175.To))) ([], [], 0)).bind fun out1 =>
 (at? a1 out1.2.2).bind fun x176 =>
 some (out1.1, x176 == 0)

 /-- padlock.padlockref06.Search -/
noncomputable def F19 (a0 : Graph) (a1 : (List Int)) (a2 : Mind) (a3 : Int) : Option ((List Int) × Bool × Int) :=
 (F47 a0 a1 a2 a3).bind fun x1 =>
 if x1 != 0 then
 (some (([] : List Int), false, x1))
 else
 ((F48 a0 a1 a2 a3).bind fun x2 =>
 some (x2.1, x2.2, 0))

 /-- padlock.padlocklaw06.SearchTrails -/
noncomputable def F3 (a0 : Graph) (a1 : (List Int)) (a2 : Law06_Run) : Option (Bool) :=
 (((F15 a0).bind fun x5 =>
 if x5 then
 ((F17).bind fun x6 =>
 some (Sum.inr x6))
 else
 ((F16 a2.Most).bind fun x7 =>
 if x7 then
 ((F17).bind fun x8 =>
 some (Sum.inr x8))
 else
 (some (Sum.inl ())))) : Option (Unit ⊕ _)).bind fun ov1 => onL ov1 fun v1 =>
 (F18 a0 a1 a2.Mind a2.Most).bind fun x9 =>
 (F19 a0 a1 a2.Mind a2.Most).bind fun x10 =>
 if x9.2.1 == x10.2.1 then
 (if x9.2.2 == x10.2.2 then
 ((F20 x9.1 x10.1).bind fun x11 =>
 if x11 then
 ((F17).bind fun x12 =>
 some x12)
 else
 (some false))
 else
 (some false))
 else
 (some false)

 /-- padlock.padlocklaw06.SearchReaches -/
noncomputable def F4 (a0 : Graph) (a1 : (List Int)) (a2 : Law06_Run) : Option (Bool) :=
 (((F15 a0).bind fun x7 =>
 if x7 then
 ((F17).bind fun x8 =>
 some (Sum.inr x8))
 else
 ((F21 a0 a1).bind fun x9 =>
 if x9 != 0 then
 ((F17).bind fun x10 =>
 some (Sum.inr x10))
 else
 ((F16 a2.Most).bind fun x11 =>
 if x11 then
 ((F17).bind fun x12 =>
 some (Sum.inr x12))
 else
 (some (Sum.inl ()))))) : Option (Unit ⊕ _)).bind fun ov1 => onL ov1 fun v1 =>
 (F18 a0 a1 a2.Mind a2.Most).bind fun x13 =>
 if x13.2.2 != 0 then
 ((F17).bind fun x14 =>
 some x14)
 else
 ((forN (σ := (Int)) (fun i1 s1 =>
 (((at? x13.1 (i1 : Int)).bind fun x45 =>
 if decide (x45 < 0) then
 (some (Sum.inr (Sum.inr false)))
 else
 ((at? a0.Edges s1).bind fun x46 =>
 if decide ((x46.length : Int) ≤ x45) then
 (some (Sum.inr (Sum.inr false)))
 else
 ((at? a1 s1).bind fun x47 =>
 if x47 == 0 then
 (some (Sum.inr (Sum.inr false)))
 else
 (some (Sum.inl ()))))) : Option (Unit ⊕ _)).bind fun ov6 => onL ov6 fun v6 =>
 (at? a0.Edges s1).bind fun x48 =>
 (at? x13.1 (i1 : Int)).bind fun x49 =>
 (at? x48 x49).bind fun x50 =>
 some (Sum.inl x50.To)) x13.1.length 0 0).bind fun o2 => onL o2 fun out1 =>
 (((at? a1 out1).bind fun x53 =>
 if x13.2.1 != (x53 == 0) then
 (some (Sum.inr false))
 else
 (if decide (a2.Most < (x13.1.length : Int)) then
 (some (Sum.inr false))
 else
 (if !x13.2.1 then
 (if decide ((x13.1.length : Int) < a2.Most) then
 ((at? a0.Edges out1).bind fun x54 =>
 if decide (0 < (x54.length : Int)) then
 (some (Sum.inr false))
 else
 (some (Sum.inl ())))
 else
 (some (Sum.inl ())))
 else
 (some (Sum.inl ()))))) : Option (Unit ⊕ _)).bind fun ov7 => onL ov7 fun v7 =>
 if !x13.2.1 then
 ((F17).bind fun x55 =>
 some x55)
 else
 ((at? a1 0).bind fun x56 =>
 if decide (0 ≤ x56) then
 ((at? a1 0).bind fun x57 =>
 if decide (x57 ≤ (x13.1.length : Int)) then
 ((F17).bind fun x58 =>
 some x58)
 else
 (some false))
 else
 (some false)))

 /-- padlock.padlocklaw06.edges -/
noncomputable def F22 (a0 : Graph) : Option (Int) :=
 (forS (σ := (Int)) (fun i1 s1 =>
 (at? a0.Edges (i1 : Int)).bind fun x4 =>
 some (w64 (s1 + (x4.length : Int)))) a0.Edges.length 0 0).bind fun out1 =>
 some out1

 /-- padlock.padlocklaw06.dead -/
noncomputable def F23 (a0 : Graph) (a1 : (List Int)) : Option (Bool) :=
 (mk? (a0.Edges.length : Int) false).bind fun x1 =>
 (at? x1 0).bind fun x2 =>
 (whileO (σ := (List Bool × Int)) (ρ := (List Bool × Int)) (fun s49 =>
 if decide (s49.2 < (s49.1.length : Int)) then
 ((whileO (σ := (List Bool × Int)) (ρ := (List Bool × Int)) (fun s56 =>
 if decide (s56.2 < (s56.1.length : Int)) then
 ((whileO (σ := (List Bool × Int)) (ρ := (List Bool × Int)) (fun s57 =>
 (((at? a0.Edges s56.2).bind fun x2399 =>
 if decide (s57.2 < (x2399.length : Int)) then
 ((at? s57.1 s56.2).bind fun x2400 =>
 if x2400 then
 (some (Sum.inl ()))
 else
 (some (Sum.inr (Sum.inr (s57.1, s57.2)))))
 else
 (some (Sum.inr (Sum.inr (s57.1, s57.2))))) : Option (Unit ⊕ _)).bind fun ov343 => onL ov343 fun v343 =>
 (at? a0.Edges s56.2).bind fun x2401 =>
 (at? x2401 s57.2).bind fun x2402 =>
 (at? s57.1 x2402.To).bind fun x2403 =>
 some (Sum.inl (s57.1.set (x2402.To).toNat true, w64 (s57.2 + 1)))) (s56.1, 0)).bind fun out57 =>
 some (Sum.inl (out57.1, w64 (s56.2 + 1))))
 else
 (some (Sum.inr (s56.1, s56.2)))) (s49.1, 0)).bind fun out56 =>
 some (Sum.inl (out56.1, w64 (s49.2 + 1))))
 else
 (some (Sum.inr (s49.1, s49.2)))) (x1.set (0 : Int).toNat true, 0)).bind fun out49 =>
 (forN (σ := (Unit)) (fun i1 s58 =>
 (at? out49.1 (i1 : Int)).bind fun x2408 =>
 if x2408 then
 ((at? a1 (i1 : Int)).bind fun x2409 =>
 if decide (x2409 < 0) then
 (some (Sum.inr true))
 else
 (some (Sum.inl ())))
 else
 (some (Sum.inl ()))) out49.1.length 0 ()).bind fun o59 => onL o59 fun out58 =>
 some false

 /-- padlock.padlocklaw06.small -/
noncomputable def F24 (a0 : Graph) : Option (Bool) :=
 (whileO (σ := (Int × Int)) (ρ := (Int × Int)) (fun s1 =>
 ((if decide (s1.2 < (a0.Edges.length : Int)) then
 (if decide (s1.2 < 400) then
 (some (Sum.inl ()))
 else
 (some (Sum.inr (Sum.inr (s1.1, s1.2)))))
 else
 (some (Sum.inr (Sum.inr (s1.1, s1.2))))) : Option (Unit ⊕ _)).bind fun ov7 => onL ov7 fun v7 =>
 (at? a0.Edges s1.2).bind fun x7 =>
 some (Sum.inl (w64 (s1.1 + (x7.length : Int)), w64 (s1.2 + 1)))) (0, 0)).bind fun out1 =>
 if decide ((a0.Positions.length : Int) ≤ 8) then
 (if decide (out1.1 ≤ 16) then
 (some (decide ((a0.Edges.length : Int) ≤ 400)))
 else
 (some false))
 else
 (some false)

 /-- padlock.search.Needs -/
noncomputable def F25 (a0 : Graph) (a1 : (List Int)) (a2 : Int) : Option (Int × Int) :=
 (F45 a0 a1 (⟨0, 0⟩ : Mind) a2).bind fun x1 =>
 if x1.2 != 0 then
 (some (0, x1.2))
 else
 ((cnt? 201).bind fun x5 =>
 (forN (σ := (Unit)) (fun i1 s1 =>
 (F50 x1.1 (i1 : Int) a2).bind fun x6 =>
 if x6.2 then
 (some (Sum.inr ((i1 : Int), 0)))
 else
 (some (Sum.inl ()))) x5 0 ()).bind fun o2 => onL o2 fun out1 =>
 some (0, 3))

 /-- padlock.padlockref06.turns -/
noncomputable def F75 (a0 : Graph) : Option (Int) :=
 (forS (σ := (Int)) (fun i1 s1 =>
 (at? a0.Edges (i1 : Int)).bind fun x4 =>
 some (maxI s1 (x4.length : Int))) a0.Edges.length 0 1).bind fun out1 =>
 some out1

 /-- padlock.padlockref06.steps -/
noncomputable def F51 (a0 : Graph) (a1 : (List Int)) (a2 : Int) (a3 : Int) : Option ((List Int) × Bool) :=
 (whileO (σ := (List Int × Int)) (ρ := (List Int × Int) ⊕ _) (fun s1 =>
 (F75 a0).bind fun x11 =>
 if decide (s1.2 < x11) then
 ((F48 a0 a1 (⟨a2, s1.2⟩ : Mind) a3).bind fun x12 =>
 if !x12.2 then
 (some (Sum.inr (Sum.inr (([] : List Int), false))))
 else
 ((push? s1.1 ([(x12.1.length : Int)] : List Int)).bind fun x13 =>
 some (Sum.inl (x13, w64 (s1.2 + 1)))))
 else
 (some (Sum.inr (Sum.inl (s1.1, s1.2))))) ([], 0)).bind fun o2 => onL o2 fun out1 =>
 some (out1.1, true)

 /-- padlock.padlockref06.Needs -/
noncomputable def F26 (a0 : Graph) (a1 : (List Int)) (a2 : Int) : Option (Int × Int) :=
 (F47 a0 a1 (⟨0, 0⟩ : Mind) a2).bind fun x1 =>
 if x1 != 0 then
 (some (0, x1))
 else
 ((whileO (σ := (Int)) (ρ := (Int) ⊕ _) (fun s1 =>
 if decide (s1 ≤ 200) then
 ((F51 a0 a1 s1 a2).bind fun x8 =>
 if x8.2 then
 (some (Sum.inr (Sum.inr (s1, 0))))
 else
 (some (Sum.inl (w64 (s1 + 1)))))
 else
 (some (Sum.inr (Sum.inl s1)))) 0).bind fun o2 => onL o2 fun out1 =>
 some (0, 3))

 /-- padlock.padlocklaw06.SearchNeeds -/
noncomputable def F6 (a0 : Graph) (a1 : (List Int)) (a2 : Int) : Option (Bool) :=
 (((F24 a0).bind fun x4 =>
 if !x4 then
 ((F17).bind fun x5 =>
 some (Sum.inr x5))
 else
 (if decide (40 < a2) then
 ((F17).bind fun x6 =>
 some (Sum.inr x6))
 else
 (some (Sum.inl ())))) : Option (Unit ⊕ _)).bind fun ov1 => onL ov1 fun v1 =>
 (F25 a0 a1 a2).bind fun x7 =>
 (F26 a0 a1 a2).bind fun x8 =>
 if x7.1 == x8.1 then
 (if x7.2 == x8.2 then
 ((F17).bind fun x9 =>
 some x9)
 else
 (some false))
 else
 (some false)

 /-- slices.Max[[]int,int] -/
noncomputable def F52 (a0 : (List Int)) : Option (Int) :=
 ((if decide ((a0.length : Int) < 1) then
 (none)
 else
 (some (Sum.inl ()))) : Option (Unit ⊕ _)).bind fun ov1 => onL ov1 fun v1 =>
 (at? a0 0).bind fun x1 =>
 (whileO (σ := (Int × Int)) (ρ := (Int × Int)) (fun s1 =>
 if decide (s1.2 < (a0.length : Int)) then
 ((at? a0 s1.2).bind fun x8 =>
 some (Sum.inl (maxI s1.1 x8, w64 (s1.2 + 1))))
 else
 (some (Sum.inr (s1.1, s1.2)))) (x1, 1)).bind fun out1 =>
 some out1.1

 /-- slices.Index[[]int,int] -/
noncomputable def F53 (a0 : (List Int)) (a1 : Int) : Option (Int) :=
 (forN (σ := (Unit)) (fun i1 s1 =>
 (at? a0 (i1 : Int)).bind fun x3 =>
 if a1 == x3 then
 (some (Sum.inr (i1 : Int)))
 else
 (some (Sum.inl ()))) a0.length 0 ()).bind fun o2 => onL o2 fun out1 =>
 some (-1)

 /-- padlock.search.Worst -/
noncomputable def F27 (a0 : Graph) (a1 : (List Int)) (a2 : Int) (a3 : Int) : Option (Int × Int × Int) :=
 (F45 a0 a1 (⟨a2, 0⟩ : Mind) a3).bind fun x1 =>
 if x1.2 != 0 then
 (some (0, 0, x1.2))
 else
 ((F50 x1.1 a2 a3).bind fun x2 =>
 if !x2.2 then
 (some (0, 0, 3))
 else
 ((F52 x2.1).bind fun x3 =>
 (F53 x2.1 x3).bind fun x4 =>
 some (x3, x4, 0)))

 /-- padlock.padlockref06.Worst -/
noncomputable def F28 (a0 : Graph) (a1 : (List Int)) (a2 : Int) (a3 : Int) : Option (Int × Int × Int) :=
 (F47 a0 a1 (⟨a2, 0⟩ : Mind) a3).bind fun x1 =>
 if x1 != 0 then
 (some (0, 0, x1))
 else
 ((F51 a0 a1 a2 a3).bind fun x2 =>
 if !x2.2 then
 (some (0, 0, 3))
 else
 ((forS (σ := (Int)) (fun i1 s1 =>
 (at? x2.1 (i1 : Int)).bind fun x9 =>
 (at? x2.1 s1).bind fun x10 =>
 if decide (x10 < x9) then
 (some (i1 : Int))
 else
 (some s1)) x2.1.length 0 0).bind fun out1 =>
 (at? x2.1 out1).bind fun x11 =>
 some (x11, out1, 0)))

 /-- padlock.padlockref06.gcd -/
noncomputable def F55 (a0 : Int) (a1 : Int) : Option (Int) :=
 (whileO (σ := (Int × Int)) (ρ := (Int × Int)) (fun s1 =>
 if decide (0 < s1.2) then
 ((md s1.1 s1.2).bind fun x7 =>
 some (Sum.inl (s1.2, x7)))
 else
 (some (Sum.inr (s1.1, s1.2)))) (a0, a1)).bind fun out1 =>
 some out1.1

 /-- padlock.padlockref06.Mean -/
noncomputable def F30 (a0 : Graph) (a1 : (List Int)) (a2 : Int) (a3 : Int) : Option (Int × Int × Int) :=
 (F47 a0 a1 (⟨a2, 0⟩ : Mind) a3).bind fun x1 =>
 if x1 != 0 then
 (some (0, 0, x1))
 else
 ((F51 a0 a1 a2 a3).bind fun x2 =>
 if !x2.2 then
 (some (0, 0, 3))
 else
 ((forS (σ := (Int)) (fun i1 s1 =>
 (at? x2.1 (i1 : Int)).bind fun x6 =>
 some (w64 (s1 + x6))) x2.1.length 0 0).bind fun out1 =>
 (F55 (x2.1.length : Int) out1).bind fun x7 =>
 (dv out1 x7).bind fun x8 =>
 (dv (x2.1.length : Int) x7).bind fun x9 =>
 some (x8, x9, 0)))

 /-- padlock.padlocklaw06.SearchMeans -/
noncomputable def F7 (a0 : Graph) (a1 : (List Int)) (a2 : Law06_Run) : Option (Bool) :=
 (((F15 a0).bind fun x5 =>
 if x5 then
 ((F17).bind fun x6 =>
 some (Sum.inr x6))
 else
 ((F16 a2.Most).bind fun x7 =>
 if x7 then
 ((F17).bind fun x8 =>
 some (Sum.inr x8))
 else
 (some (Sum.inl ())))) : Option (Unit ⊕ _)).bind fun ov1 => onL ov1 fun v1 =>
 (F27 a0 a1 a2.Mind.Memory a2.Most).bind fun x9 =>
 (F28 a0 a1 a2.Mind.Memory a2.Most).bind fun x10 =>
 ((if x9.1 != x10.1 then
 (some (Sum.inr false))
 else
 (if x9.2.1 != x10.2.1 then
 (some (Sum.inr false))
 else
 (if x9.2.2 != x10.2.2 then
 (some (Sum.inr false))
 else
 (some (Sum.inl ()))))) : Option (Unit ⊕ _)).bind fun ov2 => onL ov2 fun v2 =>
 (F29 a0 a1 a2.Mind.Memory a2.Most).bind fun x11 =>
 (F30 a0 a1 a2.Mind.Memory a2.Most).bind fun x12 =>
 if x11.1 == x12.1 then
 (if x11.2.1 == x12.2.1 then
 (if x11.2.2 == x12.2.2 then
 ((F17).bind fun x13 =>
 some x13)
 else
 (some false))
 else
 (some false))
 else
 (some false)

 /-- padlock.padlocklaw06.SearchBetween -/
noncomputable def F8 (a0 : Graph) (a1 : (List Int)) (a2 : Law06_Run) : Option (Bool) :=
 (((F15 a0).bind fun x7 =>
 if x7 then
 ((F17).bind fun x8 =>
 some (Sum.inr x8))
 else
 ((F21 a0 a1).bind fun x9 =>
 if x9 != 0 then
 ((F17).bind fun x10 =>
 some (Sum.inr x10))
 else
 ((F16 a2.Most).bind fun x11 =>
 if x11 then
 ((F17).bind fun x12 =>
 some (Sum.inr x12))
 else
 (some (Sum.inl ()))))) : Option (Unit ⊕ _)).bind fun ov1 => onL ov1 fun v1 =>
 (F29 a0 a1 a2.Mind.Memory a2.Most).bind fun x13 =>
 (F27 a0 a1 a2.Mind.Memory a2.Most).bind fun x14 =>
 ((((if x13.2.2 != 0 then
 (some true)
 else
 (some (x14.2.2 != 0))) : Option (Bool)).bind fun v4 =>
 if v4 then
 (if x13.2.2 == x14.2.2 then
 ((F17).bind fun x16 =>
 some (Sum.inr x16))
 else
 (some (Sum.inr false)))
 else
 (some (Sum.inl ()))) : Option (Unit ⊕ _)).bind fun ov3 => onL ov3 fun v3 =>
 ((if decide (x13.2.1 < 1) then
 (some (Sum.inr false))
 else
 (if decide ((w64 (x14.1 * x13.2.1)) < x13.1) then
 (some (Sum.inr false))
 else
 ((at? a1 0).bind fun x18 =>
 if decide (x13.1 < (w64 (x18 * x13.2.1))) then
 (some (Sum.inr false))
 else
 (if decide (x14.2.1 < 0) then
 (some (Sum.inr false))
 else
 (if decide (99 < x14.2.1) then
 (some (Sum.inr false))
 else
 (some (Sum.inl ()))))))) : Option (Unit ⊕ _)).bind fun ov5 => onL ov5 fun v5 =>
 (whileO (σ := (Int)) (ρ := (Int) ⊕ _) (fun s1 =>
 if decide (s1 ≤ x14.2.1) then
 ((F18 a0 a1 (⟨a2.Mind.Memory, s1⟩ : Mind) a2.Most).bind fun x25 =>
 if x25.2.2 != 0 then
 (some (Sum.inr (Sum.inr false)))
 else
 (if !x25.2.1 then
 (some (Sum.inr (Sum.inr false)))
 else
 (if ((x25.1.length : Int) == x14.1) != (s1 == x14.2.1) then
 (some (Sum.inr (Sum.inr false)))
 else
 (if decide (x14.1 < (x25.1.length : Int)) then
 (some (Sum.inr (Sum.inr false)))
 else
 (some (Sum.inl (w64 (s1 + 1))))))))
 else
 (some (Sum.inr (Sum.inl s1)))) 0).bind fun o2 => onL o2 fun out1 =>
 (F17).bind fun x26 =>
 some x26

 /-- cmp.isNaN[int] -/
noncomputable def F76 (a0 : Int) : Option (Bool) :=
 some (a0 != a0)

 /-- cmp.Compare[int] -/
noncomputable def F56 (a0 : Int) (a1 : Int) : Option (Int) :=
 (F76 a0).bind fun x1 =>
 (F76 a1).bind fun x2 =>
 if x1 then
 (if x2 then
 (some 0)
 else
 (some (-1)))
 else
 (if x2 then
 (some 1)
 else
 (if decide (a0 < a1) then
 (some (-1))
 else
 (if decide (a1 < a0) then
 (some 1)
 else
 (some 0))))

 /-- padlock.search.Harder -/
noncomputable def F31 (a0 : Graph) (a1 : Graph) (a2 : (List Int)) (a3 : (List Int)) (a4 : Int) (a5 : Int) : Option (Int × Int) :=
 (F29 a0 a2 a4 a5).bind fun x1 =>
 if x1.2.2 != 0 then
 (some (0, x1.2.2))
 else
 ((F29 a1 a3 a4 a5).bind fun x2 =>
 if x2.2.2 != 0 then
 (some (0, x2.2.2))
 else
 ((F56 (w64 (x1.1 * x2.2.1)) (w64 (x2.1 * x1.2.1))).bind fun x3 =>
 some (x3, 0)))

 /-- padlock.padlockref06.Harder -/
noncomputable def F32 (a0 : Graph) (a1 : Graph) (a2 : (List Int)) (a3 : (List Int)) (a4 : Int) (a5 : Int) : Option (Int × Int) :=
 (F30 a0 a2 a4 a5).bind fun x1 =>
 if x1.2.2 != 0 then
 (some (0, x1.2.2))
 else
 ((F30 a1 a3 a4 a5).bind fun x2 =>
 if x2.2.2 != 0 then
 (some (0, x2.2.2))
 else
 (if decide ((w64 (x1.1 * x2.2.1)) < (w64 (x2.1 * x1.2.1))) then
 (some ((-1), 0))
 else
 (if decide ((w64 (x2.1 * x1.2.1)) < (w64 (x1.1 * x2.2.1))) then
 (some (1, 0))
 else
 (some (0, 0)))))

 /-- padlock.padlocklaw06.SearchCompares -/
noncomputable def F9 (a0 : Graph) (a1 : (List Int)) (a2 : Law06_Other) : Option (Bool) :=
 (((F15 a0).bind fun x7 =>
 if x7 then
 ((F17).bind fun x8 =>
 some (Sum.inr x8))
 else
 ((F15 a2.Graph).bind fun x9 =>
 if x9 then
 ((F17).bind fun x10 =>
 some (Sum.inr x10))
 else
 ((F16 a2.Run.Most).bind fun x11 =>
 if x11 then
 ((F17).bind fun x12 =>
 some (Sum.inr x12))
 else
 (some (Sum.inl ()))))) : Option (Unit ⊕ _)).bind fun ov1 => onL ov1 fun v1 =>
 (F31 a0 a2.Graph a1 a2.Distances a2.Run.Mind.Memory a2.Run.Most).bind fun x13 =>
 (F32 a0 a2.Graph a1 a2.Distances a2.Run.Mind.Memory a2.Run.Most).bind fun x14 =>
 ((if x13.1 != x14.1 then
 (some (Sum.inr false))
 else
 (if x13.2 != x14.2 then
 (some (Sum.inr false))
 else
 (some (Sum.inl ())))) : Option (Unit ⊕ _)).bind fun ov2 => onL ov2 fun v2 =>
 if x14.2 != 0 then
 ((F17).bind fun x15 =>
 some x15)
 else
 ((F31 a2.Graph a0 a2.Distances a1 a2.Run.Mind.Memory a2.Run.Most).bind fun x16 =>
 (F31 a0 a0 a1 a1 a2.Run.Mind.Memory a2.Run.Most).bind fun x17 =>
 if x16.2 == 0 then
 (if x17.2 == 0 then
 (if x16.1 == (w64 (0 - x13.1)) then
 (if x17.1 == 0 then
 ((F17).bind fun x18 =>
 some x18)
 else
 (some false))
 else
 (some false))
 else
 (some false))
 else
 (some false))

 /-- padlock.padlocklaw06.SearchNeeded -/
noncomputable def F10 (a0 : Graph) (a1 : (List Int)) (a2 : Int) : Option (Bool) :=
 (((F24 a0).bind fun x4 =>
 if !x4 then
 ((F17).bind fun x5 =>
 some (Sum.inr x5))
 else
 (if decide (40 < a2) then
 ((F17).bind fun x6 =>
 some (Sum.inr x6))
 else
 (some (Sum.inl ())))) : Option (Unit ⊕ _)).bind fun ov1 => onL ov1 fun v1 =>
 (F25 a0 a1 a2).bind fun x7 =>
 if x7.2 != 0 then
 ((F17).bind fun x8 =>
 some x8)
 else
 ((F27 a0 a1 x7.1 a2).bind fun x9 =>
 ((if x9.2.2 != 0 then
 (some (Sum.inr false))
 else
 (if decide (x7.1 < 0) then
 (some (Sum.inr false))
 else
 (some (Sum.inl ())))) : Option (Unit ⊕ _)).bind fun ov2 => onL ov2 fun v2 =>
 if decide (0 < x7.1) then
 ((F27 a0 a1 (w64 (x7.1 - 1)) a2).bind fun x10 =>
 if x10.2.2 == 3 then
 ((F17).bind fun x11 =>
 some x11)
 else
 (some false))
 else
 ((F17).bind fun x12 =>
 some x12))

 /-- padlock.search.Widths -/
noncomputable def F33 (a0 : Graph) (a1 : (List Int)) : Option ((List Int) × Int) :=
 (F57 a0 a1).bind fun x1 =>
 if x1.2 != 0 then
 (some (([] : List Int), x1.2))
 else
 ((F52 a1).bind fun x2 =>
 (mk? (w64 (x2 + 1)) 0).bind fun x3 =>
 (forS (σ := (List Int)) (fun i1 s1 =>
 (at? a1 (i1 : Int)).bind fun x13 =>
 if decide (0 ≤ x13) then
 ((at? s1 x13).bind fun x14 =>
 (at? s1 x13).bind fun x15 =>
 some (s1.set (x13).toNat (w64 (x14 + 1))))
 else
 (some s1)) a1.length 0 x3).bind fun out1 =>
 some (out1, 0))

 /-- (padlock.search.view).leads -/
noncomputable def F58 (a0 : Search_view) (a1 : Int) (a2 : Edge) : Option (Bool) :=
 (at? a0.distances a1).bind fun x1 =>
 if decide (0 < x1) then
 ((at? a0.distances a2.To).bind fun x2 =>
 some (x2 == (w64 (x1 - 1))))
 else
 (some false)

 /-- padlock.search.Wrong -/
noncomputable def F34 (a0 : Graph) (a1 : (List Int)) : Option ((List Int) × Int) :=
 (F57 a0 a1).bind fun x1 =>
 if x1.2 != 0 then
 (some (([] : List Int), x1.2))
 else
 ((mk? (a1.length : Int) 0).bind fun x2 =>
 (forS (σ := (List Int)) (fun i4 s4 =>
 (at? x1.1.edges (i4 : Int)).bind fun x54 =>
 (forS (σ := (List Int)) (fun i5 s5 =>
 (at? x54 (i5 : Int)).bind fun x67 =>
 (F58 x1.1 (i4 : Int) x67).bind fun x68 =>
 if !x68 then
 ((at? s5 (i4 : Int)).bind fun x69 =>
 (at? s5 (i4 : Int)).bind fun x70 =>
 some (s5.set ((i4 : Int)).toNat (w64 (x69 + 1))))
 else
 (some s5)) x54.length 0 s4).bind fun out5 =>
 some out5) x1.1.edges.length 0 x2).bind fun out4 =>
 some (out4, 0))

 /-- padlock.search.Choices.1 -/
noncomputable def F60 (a0 : Edge) (a1 : Search_view) (a2 : Int) : Option (Bool) :=
 (F58 a1 a2 a0).bind fun x1 =>
 some x1

 /-- padlock.search.Choices -/
noncomputable def F35 (a0 : Graph) (a1 : (List Int)) : Option ((List Int) × Int) :=
 (F57 a0 a1).bind fun x1 =>
 if x1.2 != 0 then
 (some (([] : List Int), x1.2))
 else
 ((at? a1 0).bind fun x2 =>
 if x2 == (-1) then
 (some (([] : List Int), 3))
 else
 ((whileO (σ := (List Int × Int)) (ρ := (List Int × Int)) (fun s1 =>
 (at? a1 s1.2).bind fun x33 =>
 if decide (0 < x33) then
 ((at? x1.1.edges s1.2).bind fun x34 =>
 (push? s1.1 ([(x34.length : Int)] : List Int)).bind fun x35 =>
 (F59 x34 (fun x0_ => F60 x0_ (x1.1) (s1.2))).bind fun x36 =>
 (at? x34 x36).bind fun x37 =>
 some (Sum.inl (x35, x37.To)))
 else
 (some (Sum.inr (s1.1, s1.2)))) ([], 0)).bind fun out1 =>
 some (out1.1, 0)))

 /-- padlock.padlocklaw06.SearchLayers -/
noncomputable def F11 (a0 : Graph) (a1 : (List Int)) : Option (Bool) :=
 (((F15 a0).bind fun x5 =>
 if x5 then
 ((F17).bind fun x6 =>
 some (Sum.inr x6))
 else
 ((F21 a0 a1).bind fun x7 =>
 if x7 != 0 then
 ((F17).bind fun x8 =>
 some (Sum.inr x8))
 else
 (some (Sum.inl ())))) : Option (Unit ⊕ _)).bind fun ov1 => onL ov1 fun v1 =>
 (F33 a0 a1).bind fun x9 =>
 (F34 a0 a1).bind fun x10 =>
 ((((if x9.2 != 0 then
 (some true)
 else
 (some (x10.2 != 0))) : Option (Bool)).bind fun v6 =>
 if v6 then
 (if x9.2 == x10.2 then
 ((F17).bind fun x12 =>
 some (Sum.inr x12))
 else
 (some (Sum.inr false)))
 else
 (some (Sum.inl ()))) : Option (Unit ⊕ _)).bind fun ov5 => onL ov5 fun v5 =>
 (forN (σ := (Int)) (fun i1 s1 =>
 (((at? a1 (i1 : Int)).bind fun x29 =>
 if decide (0 ≤ x29) then
 (some (w64 (s1 + 1)))
 else
 (some s1)) : Option (Int)).bind fun v10 =>
 if (x10.1.length : Int) != (a1.length : Int) then
 (some (Sum.inr false))
 else
 ((at? x10.1 (i1 : Int)).bind fun x30 =>
 (at? a0.Edges (i1 : Int)).bind fun x31 =>
 if decide ((x31.length : Int) < x30) then
 (some (Sum.inr false))
 else
 ((at? a1 (i1 : Int)).bind fun x32 =>
 if decide (0 < x32) then
 (if decide ((x31.length : Int) ≤ x30) then
 (some (Sum.inr false))
 else
 (if decide (x32 ≤ 0) then
 (if x30 != (x31.length : Int) then
 (some (Sum.inr false))
 else
 (some (Sum.inl v10)))
 else
 (some (Sum.inl v10))))
 else
 (if decide (x32 ≤ 0) then
 (if x30 != (x31.length : Int) then
 (some (Sum.inr false))
 else
 (some (Sum.inl v10)))
 else
 (some (Sum.inl v10)))))) a1.length 0 0).bind fun o2 => onL o2 fun out1 =>
 (forN (σ := (Int)) (fun i2 s3 =>
 (at? x9.1 (i2 : Int)).bind fun x39 =>
 if decide (x39 < 1) then
 (some (Sum.inr false))
 else
 ((at? x9.1 (i2 : Int)).bind fun x40 =>
 some (Sum.inl (w64 (s3 - x40))))) x9.1.length 0 out1).bind fun o4 => onL o4 fun out2 =>
 (F35 a0 a1).bind fun x41 =>
 (at? a1 0).bind fun x42 =>
 if decide (x42 < 0) then
 (if x41.2 == 3 then
 (if out2 == 0 then
 ((F17).bind fun x43 =>
 some x43)
 else
 (some false))
 else
 (some false))
 else
 ((forN (σ := (Unit)) (fun i3 s5 =>
 (at? x41.1 (i3 : Int)).bind fun x46 =>
 if decide (x46 < 1) then
 (some (Sum.inr false))
 else
 (some (Sum.inl ()))) x41.1.length 0 ()).bind fun o6 => onL o6 fun out3 =>
 if x41.2 == 0 then
 ((at? a1 0).bind fun x47 =>
 if (x41.1.length : Int) == x47 then
 (if out2 == 0 then
 ((F17).bind fun x48 =>
 some x48)
 else
 (some false))
 else
 (some false))
 else
 (some false))

 /-- (padlock.search.view).multiple -/
noncomputable def F63 (a0 : Search_view) (a1 : Int) : Option (Int) :=
 (forS (σ := (Int)) (fun i1 s1 =>
 (at? a0.edges (i1 : Int)).bind fun x16 =>
 ((if decide (0 < (x16.length : Int)) then
 ((at? a0.distances (i1 : Int)).bind fun x18 =>
 if x18 != 0 then
 (some (decide (s1 ≤ a1)))
 else
 (some false))
 else
 (some false)) : Option (Bool)).bind fun v4 =>
 if v4 then
 ((F54 s1 (x16.length : Int)).bind fun x19 =>
 (dv (x16.length : Int) x19).bind fun x20 =>
 some (w64 (s1 * x20)))
 else
 (some s1)) a0.edges.length 0 1).bind fun out1 =>
 some out1

 /-- padlock.search.power -/
noncomputable def F62 (a0 : Int) (a1 : Int) (a2 : Int) : Option (Int × Bool) :=
 (cnt? a1).bind fun x4 =>
 (forN (σ := (Int)) (fun i1 s1 =>
 (dv a2 a0).bind fun x5 =>
 if decide (x5 < s1) then
 (some (Sum.inr (0, false)))
 else
 (some (Sum.inl (w64 (s1 * a0))))) x4 0 1).bind fun o2 => onL o2 fun out1 =>
 some (out1, true)

 /-- padlock.search.Chance -/
noncomputable def F36 (a0 : Graph) (a1 : (List Int)) (a2 : Int) : Option (Int × Int × Int) :=
 (F57 a0 a1).bind fun x1 =>
 if x1.2 != 0 then
 (some (0, 0, x1.2))
 else
 ((F61 a2 0 20).bind fun x2 =>
 if !x2 then
 (some (0, 0, 1))
 else
 ((F63 x1.1 1000000000000000).bind fun x3 =>
 (F62 x3 a2 1000000000000000).bind fun x4 =>
 if !x4.2 then
 (some (0, 0, 2))
 else
 ((mk? (a1.length : Int) 0).bind fun x5 =>
 (at? x5 0).bind fun x6 =>
 (cnt? a2).bind fun x406 =>
 (forS (σ := (List Int)) (fun i20 s22 =>
 (mk? (s22.length : Int) 0).bind fun x407 =>
 (forS (σ := (List Int)) (fun i24 s26 =>
 (at? s22 (i24 : Int)).bind fun x474 =>
 (at? x1.1.edges (i24 : Int)).bind fun x475 =>
 (((((at? a1 (i24 : Int)).bind fun x481 =>
 if x481 == 0 then
 (some true)
 else
 (some ((x475.length : Int) == 0))) : Option (Bool)).bind fun v67 =>
 if v67 then
 ((at? s26 (i24 : Int)).bind fun x482 =>
 (at? s26 (i24 : Int)).bind fun x483 =>
 some (Sum.inr (s26.set ((i24 : Int)).toNat (w64 (x482 + x474)))))
 else
 (some (Sum.inl ()))) : Option (Unit ⊕ _)).bind fun ov66 => onL ov66 fun v66 =>
 (forS (σ := (List Int)) (fun i25 s27 =>
 (at? x475 (i25 : Int)).bind fun x493 =>
 (at? s27 x493.To).bind fun x494 =>
 (dv x474 (x475.length : Int)).bind fun x495 =>
 some (s27.set (x493.To).toNat (w64 (x494 + x495)))) x475.length 0 s26).bind fun out27 =>
 some out27) s22.length 0 x407).bind fun out26 =>
 some out26) x406 0 (x5.set (0 : Int).toNat x4.1)).bind fun out22 =>
 (forS (σ := (Int)) (fun i26 s28 =>
 (at? out22 (i26 : Int)).bind fun x502 =>
 (at? a1 (i26 : Int)).bind fun x503 =>
 if x503 == 0 then
 (some (w64 (s28 + x502)))
 else
 (some s28)) out22.length 0 0).bind fun out28 =>
 (F54 out28 x4.1).bind fun x504 =>
 (dv out28 x504).bind fun x505 =>
 (dv x4.1 x504).bind fun x506 =>
 some (x505, x506, 0))))

 /-- padlock.padlockref06.Chance -/
noncomputable def F37 (a0 : Graph) (a1 : (List Int)) (a2 : Int) : Option (Int × Int × Int) :=
 (F21 a0 a1).bind fun x1 =>
 if x1 != 0 then
 (some (0, 0, x1))
 else
 ((F49 a2 0 20).bind fun x2 =>
 if !x2 then
 (some (0, 0, 1))
 else
 ((forN (σ := (Int)) (fun i1 s1 =>
 (at? a0.Edges (i1 : Int)).bind fun x18 =>
 ((if decide (0 < a2) then
 ((at? a1 (i1 : Int)).bind fun x20 =>
 if x20 != 0 then
 (some (decide (0 < (x18.length : Int))))
 else
 (some false))
 else
 (some false)) : Option (Bool)).bind fun v4 =>
 if v4 then
 ((F55 s1 (x18.length : Int)).bind fun x21 =>
 (dv s1 x21).bind fun x22 =>
 if decide (1000000000000000 < (w64 (x22 * (x18.length : Int)))) then
 (some (Sum.inr (0, 0, 2)))
 else
 (some (Sum.inl (w64 (x22 * (x18.length : Int))))))
 else
 (some (Sum.inl s1))) a1.length 0 1).bind fun o2 => onL o2 fun out1 =>
 (cnt? a2).bind fun x26 =>
 (forN (σ := (Int)) (fun i2 s3 =>
 (dv 1000000000000000 out1).bind fun x27 =>
 if decide (x27 < s3) then
 (some (Sum.inr (0, 0, 2)))
 else
 (some (Sum.inl (w64 (s3 * out1))))) x26 0 1).bind fun o4 => onL o4 fun out2 =>
 (mk? (a1.length : Int) 0).bind fun x28 =>
 (at? x28 0).bind fun x29 =>
 (cnt? a2).bind fun x373 =>
 (forS (σ := (List Int)) (fun i18 s20 =>
 (mk? (a1.length : Int) 0).bind fun x374 =>
 (forS (σ := (List Int)) (fun i22 s24 =>
 (at? a0.Edges (i22 : Int)).bind fun x462 =>
 (((((at? a1 (i22 : Int)).bind fun x468 =>
 if x468 == 0 then
 (some true)
 else
 (some ((x462.length : Int) == 0))) : Option (Bool)).bind fun v52 =>
 if v52 then
 ((at? s24 (i22 : Int)).bind fun x469 =>
 (at? s20 (i22 : Int)).bind fun x470 =>
 some (Sum.inr (s24.set ((i22 : Int)).toNat (w64 (x469 + x470)))))
 else
 (some (Sum.inl ()))) : Option (Unit ⊕ _)).bind fun ov51 => onL ov51 fun v51 =>
 (forS (σ := (List Int)) (fun i23 s25 =>
 (at? a0.Edges (i22 : Int)).bind fun x486 =>
 (at? x486 (i23 : Int)).bind fun x487 =>
 (at? s25 x487.To).bind fun x488 =>
 (at? s20 (i22 : Int)).bind fun x489 =>
 (dv x489 (x462.length : Int)).bind fun x490 =>
 some (s25.set (x487.To).toNat (w64 (x488 + x490)))) x462.length 0 s24).bind fun out23 =>
 some out23) a1.length 0 x374).bind fun out22 =>
 some out22) x373 0 (x28.set (0 : Int).toNat out2)).bind fun out18 =>
 (forS (σ := (Int)) (fun i24 s26 =>
 (at? a1 (i24 : Int)).bind fun x497 =>
 if x497 == 0 then
 ((at? out18 (i24 : Int)).bind fun x498 =>
 some (w64 (s26 + x498)))
 else
 (some s26)) a1.length 0 0).bind fun out24 =>
 (F55 out2 out24).bind fun x499 =>
 (dv out24 x499).bind fun x500 =>
 (dv out2 x499).bind fun x501 =>
 some (x500, x501, 0)))

 /-- padlock.padlocklaw06.SearchChances -/
noncomputable def F12 (a0 : Graph) (a1 : (List Int)) (a2 : Int) : Option (Bool) :=
 (F15 a0).bind fun x1 =>
 if x1 then
 ((F17).bind fun x2 =>
 some x2)
 else
 ((F36 a0 a1 a2).bind fun x3 =>
 (F37 a0 a1 a2).bind fun x4 =>
 if x3.1 == x4.1 then
 (if x3.2.1 == x4.2.1 then
 (if x3.2.2 == x4.2.2 then
 ((F17).bind fun x5 =>
 some x5)
 else
 (some false))
 else
 (some false))
 else
 (some false))

 /-- padlock.padlocklaw06.SearchGrows -/
noncomputable def F13 (a0 : Graph) (a1 : (List Int)) (a2 : Int) : Option (Bool) :=
 (((F15 a0).bind fun x5 =>
 if x5 then
 ((F17).bind fun x6 =>
 some (Sum.inr x6))
 else
 ((F21 a0 a1).bind fun x7 =>
 if x7 != 0 then
 ((F17).bind fun x8 =>
 some (Sum.inr x8))
 else
 (some (Sum.inl ())))) : Option (Unit ⊕ _)).bind fun ov1 => onL ov1 fun v1 =>
 (F36 a0 a1 a2).bind fun x9 =>
 if x9.2.2 != 0 then
 ((F17).bind fun x10 =>
 some x10)
 else
 (((if decide (x9.2.1 < 1) then
 (some (Sum.inr false))
 else
 (if decide (x9.1 < 0) then
 (some (Sum.inr false))
 else
 (if decide (x9.2.1 < x9.1) then
 (some (Sum.inr false))
 else
 ((at? a1 0).bind fun x13 =>
 if decide (0 ≤ x13) then
 ((at? a1 0).bind fun x14 =>
 if (decide (0 < x9.1)) != (decide (x14 ≤ a2)) then
 (some (Sum.inr false))
 else
 (some (Sum.inl ())))
 else
 (if (decide (0 < x9.1)) != false then
 (some (Sum.inr false))
 else
 (some (Sum.inl ()))))))) : Option (Unit ⊕ _)).bind fun ov2 => onL ov2 fun v2 =>
 (whileO (σ := (Int)) (ρ := (Int) ⊕ _) (fun s1 =>
 if decide (s1 ≤ 40) then
 ((md x9.1 s1).bind fun x27 =>
 if x27 == 0 then
 ((md x9.2.1 s1).bind fun x28 =>
 if x28 == 0 then
 (some (Sum.inr (Sum.inr false)))
 else
 (some (Sum.inl (w64 (s1 + 1)))))
 else
 (some (Sum.inl (w64 (s1 + 1)))))
 else
 (some (Sum.inr (Sum.inl s1)))) 2).bind fun o2 => onL o2 fun out1 =>
 (F36 a0 a1 (w64 (a2 + 1))).bind fun x29 =>
 ((if x29.2.2 != 0 then
 ((F17).bind fun x33 =>
 some (Sum.inr x33))
 else
 (if decide (1000000000 < x9.2.1) then
 ((F17).bind fun x34 =>
 some (Sum.inr x34))
 else
 (if decide (1000000000 < x29.2.1) then
 ((F17).bind fun x35 =>
 some (Sum.inr x35))
 else
 (some (Sum.inl ()))))) : Option (Unit ⊕ _)).bind fun ov3 => onL ov3 fun v3 =>
 if decide ((w64 (x9.1 * x29.2.1)) ≤ (w64 (x29.1 * x9.2.1))) then
 ((F17).bind fun x36 =>
 some x36)
 else
 (some false))

 /-- padlock.search.Check -/
noncomputable def F38 (a0 : Graph) (a1 : (List Int)) : Option (Int) :=
 (F57 a0 a1).bind fun x1 =>
 some x1.2

 /-- padlock.padlockref06.nearer -/
noncomputable def F64 (a0 : Graph) (a1 : (List Int)) (a2 : Int) (a3 : Int) : Option (Bool) :=
 (at? a1 a2).bind fun x1 =>
 if decide (0 < x1) then
 ((at? a0.Edges a2).bind fun x2 =>
 (at? x2 a3).bind fun x3 =>
 (at? a1 x3.To).bind fun x4 =>
 some (x4 == (w64 (x1 - 1))))
 else
 (some false)

 /-- padlock.padlockref06.Wrong -/
noncomputable def F39 (a0 : Graph) (a1 : (List Int)) : Option ((List Int) × Int) :=
 (F21 a0 a1).bind fun x1 =>
 if x1 != 0 then
 (some (([] : List Int), x1))
 else
 ((mk? (a1.length : Int) 0).bind fun x2 =>
 (forS (σ := (List Int)) (fun i1 s4 =>
 (whileO (σ := (List Int × Int)) (ρ := (List Int × Int)) (fun s5 =>
 (at? a0.Edges (i1 : Int)).bind fun x67 =>
 if decide (s5.2 < (x67.length : Int)) then
 ((F64 a0 a1 (i1 : Int) s5.2).bind fun x68 =>
 if !x68 then
 ((at? s5.1 (i1 : Int)).bind fun x69 =>
 (at? s5.1 (i1 : Int)).bind fun x70 =>
 some (Sum.inl (s5.1.set ((i1 : Int)).toNat (w64 (x69 + 1)), w64 (s5.2 + 1))))
 else
 (some (Sum.inl (s5.1, w64 (s5.2 + 1)))))
 else
 (some (Sum.inr (s5.1, s5.2)))) (s4, 0)).bind fun out5 =>
 some out5.1) a1.length 0 x2).bind fun out4 =>
 some (out4, 0))

 /-- padlock.padlockref06.Widths -/
noncomputable def F40 (a0 : Graph) (a1 : (List Int)) : Option ((List Int) × Int) :=
 (F21 a0 a1).bind fun x1 =>
 if x1 != 0 then
 (some (([] : List Int), x1))
 else
 ((forS (σ := (Int)) (fun i1 s1 =>
 (at? a1 (i1 : Int)).bind fun x5 =>
 some (maxI s1 x5)) a1.length 0 (-1)).bind fun out1 =>
 (mk? (w64 (out1 + 1)) 0).bind fun x6 =>
 (forS (σ := (List Int)) (fun i2 s2 =>
 (at? a1 (i2 : Int)).bind fun x19 =>
 if decide (0 ≤ x19) then
 ((at? a1 (i2 : Int)).bind fun x20 =>
 (at? s2 x20).bind fun x21 =>
 (at? s2 x20).bind fun x22 =>
 some (s2.set (x20).toNat (w64 (x21 + 1))))
 else
 (some s2)) a1.length 0 x6).bind fun out2 =>
 some (out2, 0))

 /-- padlock.padlockref06.Choices -/
noncomputable def F41 (a0 : Graph) (a1 : (List Int)) : Option ((List Int) × Int) :=
 (F21 a0 a1).bind fun x1 =>
 if x1 != 0 then
 (some (([] : List Int), x1))
 else
 ((at? a1 0).bind fun x2 =>
 if decide (x2 < 0) then
 (some (([] : List Int), 3))
 else
 ((whileO (σ := (List Int × Int)) (ρ := (List Int × Int)) (fun s7 =>
 (at? a1 s7.2).bind fun x75 =>
 if decide (0 < x75) then
 ((at? a0.Edges s7.2).bind fun x76 =>
 (push? s7.1 ([(x76.length : Int)] : List Int)).bind fun x77 =>
 (whileO (σ := (Int)) (ρ := (Int)) (fun s8 =>
 (F64 a0 a1 s7.2 s8).bind fun x84 =>
 if !x84 then
 (some (Sum.inl (w64 (s8 + 1))))
 else
 (some (Sum.inr s8))) 0).bind fun out8 =>
 (at? a0.Edges s7.2).bind fun x85 =>
 (at? x85 out8).bind fun x86 =>
 some (Sum.inl (x77, x86.To)))
 else
 (some (Sum.inr (s7.1, s7.2)))) ([], 0)).bind fun out7 =>
 some (out7.1, 0)))

 /-- padlock.search.Lure.1 -/
noncomputable def F65 (a0 : Int) : Option (Int) :=
 if a0 == (-1) then
 (some 1099511627776)
 else
 (some a0)

 /-- (padlock.search.view).reached -/
noncomputable def F66 (a0 : Search_view) : Option ((List Bool)) :=
 (mk? (a0.edges.length : Int) false).bind fun x1 =>
 (at? x1 0).bind fun x2 =>
 (whileO (σ := (List Bool × List Int)) (ρ := (List Bool × List Int)) (fun s7 =>
 if decide (0 < (s7.2.length : Int)) then
 ((at? s7.2 0).bind fun x117 =>
 (at? a0.edges x117).bind fun x118 =>
 (forS (σ := (List Bool × List Int)) (fun i7 s8 =>
 (at? x118 (i7 : Int)).bind fun x131 =>
 (at? s8.1 x131.To).bind fun x132 =>
 if !x132 then
 ((at? s8.1 x131.To).bind fun x133 =>
 (push? s8.2 ([x131.To] : List Int)).bind fun x134 =>
 some (s8.1.set (x131.To).toNat true, x134))
 else
 (some (s8.1, s8.2))) x118.length 0 (s7.1, s7.2)).bind fun out8 =>
 (sub? out8.2 1 (out8.2.length : Int)).bind fun x135 =>
 some (Sum.inl (out8.1, x135)))
 else
 (some (Sum.inr (s7.1, s7.2)))) (x1.set (0 : Int).toNat true, ([0] : List Int))).bind fun out7 =>
 some out7.1

 /-- padlock.search.Lure -/
noncomputable def F42 (a0 : Graph) (a1 : (List Int)) : Option (Int × Int × Int) :=
 (F57 a0 a1).bind fun x1 =>
 if x1.2 != 0 then
 (some (0, 0, x1.2))
 else
 ((F66 x1.1).bind fun x2 =>
 (forS (σ := (Int × Int × Int)) (fun i4 s4 =>
 (at? x2 (i4 : Int)).bind fun x75 =>
 ((if !x75 then
 (some (Sum.inr (s4.1, s4.2.1, s4.2.2)))
 else
 ((at? a1 (i4 : Int)).bind fun x77 =>
 if decide (x77 ≤ 0) then
 (some (Sum.inr (s4.1, s4.2.1, s4.2.2)))
 else
 (some (Sum.inl ())))) : Option (Unit ⊕ _)).bind fun ov18 => onL ov18 fun v18 =>
 (at? x1.1.edges (i4 : Int)).bind fun x78 =>
 (forS (σ := (Int × Int × Int)) (fun i5 s5 =>
 (at? x78 (i5 : Int)).bind fun x94 =>
 (at? a1 x94.To).bind fun x95 =>
 (F65 x95).bind fun x96 =>
 (((at? a1 (i4 : Int)).bind fun x98 =>
 if decide (x98 < x96) then
 (some (decide (s5.2.2 < x96)))
 else
 (some false)) : Option (Bool)).bind fun v22 =>
 if v22 then
 (some ((i4 : Int), (i5 : Int), x96))
 else
 (some (s5.1, s5.2.1, s5.2.2))) x78.length 0 (s4.1, s4.2.1, s4.2.2)).bind fun out5 =>
 some (out5.1, out5.2.1, out5.2.2)) x2.length 0 (0, 0, 0)).bind fun out4 =>
 if out4.2.2 == 0 then
 (some (0, 0, 3))
 else
 (some (out4.1, out4.2.1, 0)))

 /-- padlock.padlockref06.reached -/
noncomputable def F67 (a0 : Graph) : Option ((List Bool)) :=
 (mk? (a0.Edges.length : Int) false).bind fun x1 =>
 (at? x1 0).bind fun x2 =>
 (whileO (σ := (List Bool × Int)) (ρ := (List Bool × Int)) (fun s49 =>
 if decide (s49.2 < (s49.1.length : Int)) then
 ((whileO (σ := (List Bool × Int)) (ρ := (List Bool × Int)) (fun s56 =>
 if decide (s56.2 < (s56.1.length : Int)) then
 ((whileO (σ := (List Bool × Int)) (ρ := (List Bool × Int)) (fun s57 =>
 (((at? a0.Edges s56.2).bind fun x2399 =>
 if decide (s57.2 < (x2399.length : Int)) then
 ((at? s57.1 s56.2).bind fun x2400 =>
 if x2400 then
 (some (Sum.inl ()))
 else
 (some (Sum.inr (Sum.inr (s57.1, s57.2)))))
 else
 (some (Sum.inr (Sum.inr (s57.1, s57.2))))) : Option (Unit ⊕ _)).bind fun ov343 => onL ov343 fun v343 =>
 (at? a0.Edges s56.2).bind fun x2401 =>
 (at? x2401 s57.2).bind fun x2402 =>
 (at? s57.1 x2402.To).bind fun x2403 =>
 some (Sum.inl (s57.1.set (x2402.To).toNat true, w64 (s57.2 + 1)))) (s56.1, 0)).bind fun out57 =>
 some (Sum.inl (out57.1, w64 (s56.2 + 1))))
 else
 (some (Sum.inr (s56.1, s56.2)))) (s49.1, 0)).bind fun out56 =>
 some (Sum.inl (out56.1, w64 (s49.2 + 1))))
 else
 (some (Sum.inr (s49.1, s49.2)))) (x1.set (0 : Int).toNat true, 0)).bind fun out49 =>
 some out49.1

 /-- padlock.padlockref06.Lure -/
noncomputable def F43 (a0 : Graph) (a1 : (List Int)) : Option (Int × Int × Int) :=
 (F21 a0 a1).bind fun x1 =>
 if x1 != 0 then
 (some (0, 0, x1))
 else
 ((F67 a0).bind fun x2 =>
 (forS (σ := (Int × Int × Int)) (fun i1 s4 =>
 (whileO (σ := (Int × Int × Int × Int)) (ρ := (Int × Int × Int × Int)) (fun s5 =>
 (((at? a0.Edges (i1 : Int)).bind fun x303 =>
 if decide (s5.2.2.2 < (x303.length : Int)) then
 ((at? x2 (i1 : Int)).bind fun x304 =>
 if x304 then
 ((at? a1 (i1 : Int)).bind fun x305 =>
 if decide (0 < x305) then
 (some (Sum.inl ()))
 else
 (some (Sum.inr (Sum.inr (s5.1, s5.2.1, s5.2.2.1, s5.2.2.2)))))
 else
 (some (Sum.inr (Sum.inr (s5.1, s5.2.1, s5.2.2.1, s5.2.2.2)))))
 else
 (some (Sum.inr (Sum.inr (s5.1, s5.2.1, s5.2.2.1, s5.2.2.2))))) : Option (Unit ⊕ _)).bind fun ov83 => onL ov83 fun v83 =>
 (at? a0.Edges (i1 : Int)).bind fun x306 =>
 (at? x306 s5.2.2.2).bind fun x307 =>
 (at? a1 x307.To).bind fun x308 =>
 ((if decide (x308 < 0) then
 (some (a1.length : Int))
 else
 (some x308)) : Option (Int)).bind fun v84 =>
 (((at? a1 (i1 : Int)).bind fun x310 =>
 if decide (x310 < v84) then
 (some (decide (s5.2.2.1 < v84)))
 else
 (some false)) : Option (Bool)).bind fun v85 =>
 if v85 then
 (some (Sum.inl ((i1 : Int), s5.2.2.2, v84, w64 (s5.2.2.2 + 1))))
 else
 (some (Sum.inl (s5.1, s5.2.1, s5.2.2.1, w64 (s5.2.2.2 + 1))))) (s4.1, s4.2.1, s4.2.2, 0)).bind fun out5 =>
 some (out5.1, out5.2.1, out5.2.2.1)) a1.length 0 ((-1), (-1), 0)).bind fun out4 =>
 if decide (out4.1 < 0) then
 (some (0, 0, 3))
 else
 (some (out4.1, out4.2.1, 0)))

 /-- padlock.padlocklaw06.SearchMaps -/
noncomputable def F14 (a0 : Graph) (a1 : (List Int)) : Option (Bool) :=
 (F15 a0).bind fun x1 =>
 if x1 then
 ((F17).bind fun x2 =>
 some x2)
 else
 ((F38 a0 a1).bind fun x3 =>
 (F21 a0 a1).bind fun x4 =>
 if x3 != x4 then
 (some false)
 else
 ((F34 a0 a1).bind fun x5 =>
 (F39 a0 a1).bind fun x6 =>
 ((if x5.2 != x6.2 then
 (some (Sum.inr false))
 else
 ((F20 x5.1 x6.1).bind fun x8 =>
 if !x8 then
 (some (Sum.inr false))
 else
 (some (Sum.inl ())))) : Option (Unit ⊕ _)).bind fun ov4 => onL ov4 fun v4 =>
 (F33 a0 a1).bind fun x9 =>
 (F40 a0 a1).bind fun x10 =>
 ((if x9.2 != x10.2 then
 (some (Sum.inr false))
 else
 ((F20 x9.1 x10.1).bind fun x12 =>
 if !x12 then
 (some (Sum.inr false))
 else
 (some (Sum.inl ())))) : Option (Unit ⊕ _)).bind fun ov9 => onL ov9 fun v9 =>
 (F35 a0 a1).bind fun x13 =>
 (F41 a0 a1).bind fun x14 =>
 ((if x13.2 != x14.2 then
 (some (Sum.inr false))
 else
 ((F20 x13.1 x14.1).bind fun x16 =>
 if !x16 then
 (some (Sum.inr false))
 else
 (some (Sum.inl ())))) : Option (Unit ⊕ _)).bind fun ov14 => onL ov14 fun v14 =>
 (F42 a0 a1).bind fun x17 =>
 (F43 a0 a1).bind fun x18 =>
 if x17.1 == x18.1 then
 (if x17.2.1 == x18.2.1 then
 (if x17.2.2 == x18.2.2 then
 ((F17).bind fun x19 =>
 some x19)
 else
 (some false))
 else
 (some false))
 else
 (some false)))
end Go.Proofs.Ytogfongmnkmegaa.Pad
