/- A part of the proof: what the functions of the program compute, shown over the model. -/
import Derived.Test.YtogfongmnkmegaaSeaXT
import Derived.KernelRfl
set_option linter.unusedVariables false
namespace Go.Proofs.Ytogfongmnkmegaa.Pad
open Go Go.Proofs
noncomputable def F15 (a0 : Graph) : Option (Bool) :=
 (bw_ (σ := (Int × Int)) (ρ := (Int × Int)) (fun s1 =>
 ((if decide (s1.2 < (a0.Edges.length : Int)) then
 (if decide (s1.2 < 400) then
 (some (Sum.inl ()))
 else
 (some (Sum.inr (Sum.inr (s1.1, s1.2)))))
 else
 (some (Sum.inr (Sum.inr (s1.1, s1.2))))) : Option (Unit ⊕ _)).bind fun ov7 => onL ov7 fun v7 =>
 (at? a0.Edges s1.2).bind fun x7 =>
 some (Sum.inl (w64 (s1.1 + (x7.length : Int)), w64 (s1.2 + 1)))) (0, 0)).bind fun out1 =>
 if decide (20 < (a0.Positions.length : Int)) then
 (if decide ((a0.Positions.length : Int) ≤ 300) then
 (some true)
 else
 (if decide (40 < out1.1) then
 (some true)
 else
 (some (decide (400 < (a0.Edges.length : Int))))))
 else
 (if decide (40 < out1.1) then
 (some true)
 else
 (some (decide (400 < (a0.Edges.length : Int)))))
noncomputable def F44  : Option (Graph × (List Int)) :=
 (mk? (([([1, 2] : List Int), ([0, 3] : List Int), ([0] : List Int), ([4, 1] : List Int), ([] : (List Int))] : List (List Int)).length : Int) (⟨(⟨([] : (List Int)), ([] : (List Int)), ([] : (List Int))⟩ : State), ([] : (List Bool))⟩ : Position)).bind fun x1 =>
 (forS (σ := (List (List Edge))) (fun i1 s4 =>
 (bw_ (σ := (List Edge × Int)) (ρ := (List Edge × Int)) (fun s5 =>
 (at? ([([1, 2] : List Int), ([0, 3] : List Int), ([0] : List Int), ([4, 1] : List Int), ([] : (List Int))] : List (List Int)) (i1 : Int)).bind fun x69 =>
 if decide (s5.2 < (x69.length : Int)) then
 ((at? ([([1, 2] : List Int), ([0, 3] : List Int), ([0] : List Int), ([4, 1] : List Int), ([] : (List Int))] : List (List Int)) (i1 : Int)).bind fun x70 =>
 (at? x70 s5.2).bind fun x71 =>
 (push? s5.1 ([(⟨(⟨0, 0, 0⟩ : Move), x71⟩ : Edge)] : List Edge)).bind fun x72 =>
 some (Sum.inl (x72, w64 (s5.2 + 1))))
 else
 (some (Sum.inr (s5.1, s5.2)))) ([], 0)).bind fun out5 =>
 (push? s4 ([out5.1] : List (List Edge))).bind fun x73 =>
 some x73) (([([1, 2] : List Int), ([0, 3] : List Int), ([0] : List Int), ([4, 1] : List Int), ([] : (List Int))] : List (List Int)).length) 0 ([])).bind fun out4 =>
 some ((⟨x1, out4⟩ : Graph), ([3, 2, 4, 1, 0] : List Int))
noncomputable def F61 (a0 : Int) (a1 : Int) (a2 : Int) : Option (Bool) :=
 if decide (a1 ≤ a0) then
 (some (decide (a0 ≤ a2)))
 else
 (some false)
noncomputable def F78 (a0 : Edge) (a1 : Int) : Option (Bool) :=
 (F61 a0.To 0 (w64 (a1 - 1))).bind fun x1 =>
 some (!x1)
noncomputable def F59 (a0 : (List Edge)) (a1 : Edge → Option Bool) : Option (Int) :=
 (forN (σ := (Unit)) (fun i1 s1 =>
 (at? a0 (i1 : Int)).bind fun x5 =>
 (a1 x5).bind fun x6 =>
 if x6 then
 (some (Sum.inr (i1 : Int)))
 else
 (some (Sum.inl ()))) a0.length 0 ()).bind fun o2 => onL o2 fun out1 =>
 some (-1)
noncomputable def F77 (a0 : (List Edge)) (a1 : Edge → Option Bool) : Option (Bool) :=
 (F59 a0 a1).bind fun x1 =>
 some (decide (0 ≤ x1))
noncomputable def F79 (a0 : Search_view) (a1 : Int) : Option (Int) :=
 (at? a0.edges a1).bind fun x1 =>
 (forS (σ := (Int)) (fun i1 s1 =>
 (at? x1 (i1 : Int)).bind fun x8 =>
 (at? a0.distances x8.To).bind fun x9 =>
 if x9 != (-1) then
 (some (ko_ s1 x9))
 else
 (some s1)) x1.length 0 1099511627776).bind fun out1 =>
 if out1 == 1099511627776 then
 (some (-1))
 else
 (some out1)
noncomputable def F57 (a0 : Graph) (a1 : (List Int)) : Option (Search_view × Int) :=
 (((F61 (a0.Positions.length : Int) 1 300).bind fun x2 =>
 if !x2 then
 (some (Sum.inr ((⟨a0.Edges, a1⟩ : Search_view), 60)))
 else
 (if (a0.Edges.length : Int) != (a0.Positions.length : Int) then
 (some (Sum.inr ((⟨a0.Edges, a1⟩ : Search_view), 60)))
 else
 (if (a1.length : Int) != (a0.Positions.length : Int) then
 (some (Sum.inr ((⟨a0.Edges, a1⟩ : Search_view), 60)))
 else
 (some (Sum.inl ()))))) : Option (Unit ⊕ _)).bind fun ov1 => onL ov1 fun v1 =>
 (forN (σ := (Unit)) (fun i1 s1 =>
 (at? a0.Edges (i1 : Int)).bind fun x7 =>
 if decide (100 < (x7.length : Int)) then
 (some (Sum.inr ((⟨a0.Edges, a1⟩ : Search_view), 60)))
 else
 ((F77 x7 (fun x0_ => F78 x0_ ((a0.Positions.length : Int)))).bind fun x8 =>
 if x8 then
 (some (Sum.inr ((⟨a0.Edges, a1⟩ : Search_view), 60)))
 else
 (some (Sum.inl ())))) a0.Edges.length 0 ()).bind fun o2 => onL o2 fun out1 =>
 (forN (σ := (Unit)) (fun i2 s3 =>
 (at? a1 (i2 : Int)).bind fun x13 =>
 (F79 (⟨a0.Edges, a1⟩ : Search_view) (i2 : Int)).bind fun x14 =>
 ((if x14 != (-1) then
 (some (w64 (x14 + 1)))
 else
 (some x14)) : Option (Int)).bind fun v4 =>
 if x13 != 0 then
 (if x13 != v4 then
 (some (Sum.inr ((⟨a0.Edges, a1⟩ : Search_view), 60)))
 else
 (some (Sum.inl ())))
 else
 (some (Sum.inl ()))) a1.length 0 ()).bind fun o4 => onL o4 fun out2 =>
 some ((⟨a0.Edges, a1⟩ : Search_view), 0)
noncomputable def F45 (a0 : Graph) (a1 : (List Int)) (a2 : Mind) (a3 : Int) : Option (Search_view × Int) :=
 (F57 a0 a1).bind fun x1 =>
 if x1.2 != 0 then
 (some (x1.1, x1.2))
 else
 ((F61 a2.Memory 0 200).bind fun x2 =>
 if !x2 then
 (some (x1.1, 1))
 else
 ((F61 a2.Turn 0 99).bind fun x3 =>
 if !x3 then
 (some (x1.1, 1))
 else
 ((F61 a3 0 2000).bind fun x4 =>
 if !x4 then
 (some (x1.1, 1))
 else
 (some (x1.1, 0)))))
noncomputable def F90 (a0 : (List Search_gone)) (a1 : Search_gone) : Option (Int) :=
 (forN (σ := (Unit)) (fun i1 s1 =>
 (at? a0 (i1 : Int)).bind fun x4 =>
 if decide (a1 = x4) then
 (some (Sum.inr (i1 : Int)))
 else
 (some (Sum.inl ()))) a0.length 0 ()).bind fun o2 => onL o2 fun out1 =>
 some (-1)
noncomputable def F89 (a0 : (List Search_gone)) (a1 : Search_gone) : Option (Bool) :=
 (F90 a0 a1).bind fun x1 =>
 some (decide (0 ≤ x1))
noncomputable def F86 (a0 : Search_player) (a1 : Int) (a2 : Int) : Option (Bool) :=
 (F89 a0.memory (⟨a1, a2⟩ : Search_gone)).bind fun x1 =>
 some x1
noncomputable def F80 (a0 : Search_player) (a1 : Int) : Option (Int) :=
 (at? a0.view.edges a1).bind fun x1 =>
 (forN (σ := (Unit)) (fun i1 s1 =>
 (md a0.Mind.Turn (x1.length : Int)).bind fun x8 =>
 (md (w64 (x8 + (i1 : Int))) (x1.length : Int)).bind fun x9 =>
 (F86 a0 a1 x9).bind fun x10 =>
 if !x10 then
 (some (Sum.inr x9))
 else
 (some (Sum.inl ()))) x1.length 0 ()).bind fun o2 => onL o2 fun out1 =>
 some (-1)
noncomputable def F81 (a0 : Search_player) : Option (Int) :=
 (bw_ (σ := (List (Int × Search_way) × List Int)) (ρ := (List (Int × Search_way) × List Int)) (fun s7 =>
 if decide (0 < (s7.2.length : Int)) then
 ((at? s7.2 0).bind fun x115 =>
 (at? a0.view.edges x115).bind fun x116 =>
 (forS (σ := (List (Int × Search_way) × List Int)) (fun i7 s8 =>
 (at? x116 (i7 : Int)).bind fun x129 =>
 (F86 a0 x115 (i7 : Int)).bind fun x130 =>
 if !x130 then
 (some (s8.1, s8.2))
 else
 (((if x115 == a0.at_ then
 (some (i7 : Int))
 else
 (some ((bf_ (⟨0, 0⟩ : Search_way) s8.1 x115).edge))) : Option (Int)).bind fun v82 =>
 ((if !(cv_ s8.1 x129.To) then
 ((push? s8.2 ([x129.To] : List Int)).bind fun x132 =>
 some x132)
 else
 (some s8.2)) : Option (List Int)).bind fun v83 =>
 ((if !(cv_ s8.1 x129.To) then
 (some true)
 else
 (if ((bf_ (⟨0, 0⟩ : Search_way) s8.1 x129.To).steps) == (w64 (((bf_ (⟨0, 0⟩ : Search_way) s8.1 x115).steps) + 1)) then
 (some (decide (v82 < ((bf_ (⟨0, 0⟩ : Search_way) s8.1 x129.To).edge))))
 else
 (some false))) : Option (Bool)).bind fun v84 =>
 if v84 then
 (some (fq_ s8.1 x129.To (⟨w64 (((bf_ (⟨0, 0⟩ : Search_way) s8.1 x115).steps) + 1), v82⟩ : Search_way), v83))
 else
 (some (s8.1, v83)))) x116.length 0 (s7.1, s7.2)).bind fun out8 =>
 (sub? out8.2 1 (out8.2.length : Int)).bind fun x133 =>
 some (Sum.inl (out8.1, x133)))
 else
 (some (Sum.inr (s7.1, s7.2)))) (fq_ ([] : List (Int × Search_way)) a0.at_ (⟨0, (-1)⟩ : Search_way), ([a0.at_] : List Int))).bind fun out7 =>
 (forS (σ := (Int × Int)) (fun i8 s9 =>
 ((if cv_ out7.1 (i8 : Int) then
 ((F80 a0 (i8 : Int)).bind fun x141 =>
 if decide (0 ≤ x141) then
 (if decide (s9.1 < 0) then
 (some true)
 else
 (some (decide (((bf_ (⟨0, 0⟩ : Search_way) out7.1 (i8 : Int)).steps) < s9.1))))
 else
 (some false))
 else
 (some false)) : Option (Bool)).bind fun v88 =>
 if v88 then
 (some ((bf_ (⟨0, 0⟩ : Search_way) out7.1 (i8 : Int)).steps, (bf_ (⟨0, 0⟩ : Search_way) out7.1 (i8 : Int)).edge))
 else
 (some (s9.1, s9.2))) a0.view.edges.length 0 ((-1), (-1))).bind fun out9 =>
 some out9.2
noncomputable def F88 (a0 : Search_gone) (a1 : (PRef Search_player)) : Option (Bool) :=
 some (a0.position == a1.v.at_)
noncomputable def F87 (a0 : (List Search_gone)) (a1 : Search_gone → Option Bool) : Option (Int) :=
 (forN (σ := (Unit)) (fun i1 s1 =>
 (at? a0 (i1 : Int)).bind fun x5 =>
 (a1 x5).bind fun x6 =>
 if x6 then
 (some (Sum.inr (i1 : Int)))
 else
 (some (Sum.inl ()))) a0.length 0 ()).bind fun o2 => onL o2 fun out1 =>
 some (-1)
noncomputable def F82 (a0 : Search_player) : Option (Int) :=
 (F87 (((⟨a0⟩ : PRef Search_player).v).memory) (fun x0_ => F88 x0_ ((⟨a0⟩ : PRef Search_player)))).bind fun x1 =>
 (at? (((⟨a0⟩ : PRef Search_player).v).memory) x1).bind fun x2 =>
 some x2.edge
noncomputable def F68 (a0 : Search_player) : Option (Int) :=
 (F80 a0 a0.at_).bind fun x1 =>
 if decide (0 ≤ x1) then
 (some x1)
 else
 ((F81 a0).bind fun x2 =>
 if decide (0 ≤ x2) then
 (some x2)
 else
 ((F82 a0).bind fun x3 =>
 some x3))
noncomputable def F84 (a0 : Search_gone) (a1 : Search_gone) : Option (Bool) :=
 some (decide (a0 = a1))
noncomputable def F83 (a0 : (List Search_gone)) (a1 : Search_gone → Option Bool) : Option ((List Search_gone)) :=
 (F87 a0 a1).bind fun x1 =>
 if x1 == (-1) then
 (some a0)
 else
 ((bw_ (σ := (List Search_gone × Int × Int)) (ρ := (List Search_gone × Int × Int)) (fun s1 =>
 if decide (s1.2.2 < (s1.1.length : Int)) then
 ((at? s1.1 s1.2.2).bind fun x20 =>
 (a1 x20).bind fun x21 =>
 if !x21 then
 ((at? s1.1 s1.2.1).bind fun x22 =>
 some (Sum.inl (s1.1.set (s1.2.1).toNat x20, w64 (s1.2.1 + 1), w64 (s1.2.2 + 1))))
 else
 (some (Sum.inl (s1.1, s1.2.1, w64 (s1.2.2 + 1)))))
 else
 (some (Sum.inr (s1.1, s1.2.1, s1.2.2)))) (a0, x1, w64 (x1 + 1))).bind fun out1 =>
 (sub? out1.1 out1.2.1 (out1.1.length : Int)).bind fun x23 =>
 (sub? (out1.1.take (out1.2.1).toNat ++ List.replicate (out1.1.length - (out1.2.1).toNat) (⟨0, 0⟩ : Search_gone)) 0 out1.2.1).bind fun x24 =>
 some x24)
noncomputable def F69 (a0 : Search_player) (a1 : Int) : Option (Search_player) :=
 (F83 a0.memory (fun x0_ => F84 x0_ ((⟨a0.at_, a1⟩ : Search_gone)))).bind fun x1 =>
 (push? x1 ([(⟨a0.at_, a1⟩ : Search_gone)] : List Search_gone)).bind fun x2 =>
 ((if decide (a0.Mind.Memory < (x2.length : Int)) then
 ((sub? x2 1 (x2.length : Int)).bind fun x4 =>
 some x4)
 else
 (some x2)) : Option (List Search_gone)).bind fun v2 =>
 (at? a0.view.edges ((⟨a0.at_, a1⟩ : Search_gone).position)).bind fun x5 =>
 (at? x5 a1).bind fun x6 =>
 some (⟨(⟨a0.view.edges, a0.view.distances⟩ : Search_view), (⟨a0.Mind.Memory, a0.Mind.Turn⟩ : Mind), x6.To, v2⟩ : Search_player)
noncomputable def F46 (a0 : Search_view) (a1 : Mind) (a2 : Int) : Option ((List Int) × Bool) :=
 (bw_ (σ := (List Int × (List (List Edge)) × (List Int) × Int × Int × Int × List Search_gone)) (ρ := (List Int × (List (List Edge)) × (List Int) × Int × Int × Int × List Search_gone)) (fun s1 =>
 (((at? a0.distances s1.2.2.2.2.2.1).bind fun x45 =>
 if x45 != 0 then
 ((at? a0.edges s1.2.2.2.2.2.1).bind fun x46 =>
 if decide (0 < (x46.length : Int)) then
 (if decide ((s1.1.length : Int) < a2) then
 (some (Sum.inl ()))
 else
 (some (Sum.inr (Sum.inr (s1.1, s1.2.1, s1.2.2.1, s1.2.2.2.1, s1.2.2.2.2.1, s1.2.2.2.2.2.1, s1.2.2.2.2.2.2)))))
 else
 (some (Sum.inr (Sum.inr (s1.1, s1.2.1, s1.2.2.1, s1.2.2.2.1, s1.2.2.2.2.1, s1.2.2.2.2.2.1, s1.2.2.2.2.2.2)))))
 else
 (some (Sum.inr (Sum.inr (s1.1, s1.2.1, s1.2.2.1, s1.2.2.2.1, s1.2.2.2.2.1, s1.2.2.2.2.2.1, s1.2.2.2.2.2.2))))) : Option (Unit ⊕ _)).bind fun ov19 => onL ov19 fun v19 =>
 (F68 (⟨(⟨s1.2.1, s1.2.2.1⟩ : Search_view), (⟨s1.2.2.2.1, s1.2.2.2.2.1⟩ : Mind), s1.2.2.2.2.2.1, s1.2.2.2.2.2.2⟩ : Search_player)).bind fun x47 =>
 (push? s1.1 ([x47] : List Int)).bind fun x48 =>
 (F69 (⟨(⟨s1.2.1, s1.2.2.1⟩ : Search_view), (⟨s1.2.2.2.1, s1.2.2.2.2.1⟩ : Mind), s1.2.2.2.2.2.1, s1.2.2.2.2.2.2⟩ : Search_player) x47).bind fun x49 =>
 some (Sum.inl (x48, x49.view.edges, x49.view.distances, x49.Mind.Memory, x49.Mind.Turn, x49.at_, x49.memory))) ([], a0.edges, a0.distances, a1.Memory, a1.Turn, 0, [])).bind fun out1 =>
 (at? a0.distances out1.2.2.2.2.2.1).bind fun x50 =>
 some (out1.1, x50 == 0)
noncomputable def F18 (a0 : Graph) (a1 : (List Int)) (a2 : Mind) (a3 : Int) : Option ((List Int) × Bool × Int) :=
 (F45 a0 a1 a2 a3).bind fun x1 =>
 if x1.2 != 0 then
 (some (([] : List Int), false, x1.2))
 else
 ((F46 x1.1 a2 a3).bind fun x2 =>
 some (x2.1, x2.2, 0))
noncomputable def F74 (a0 : Search_view) : Option (Int) :=
 (forS (σ := (Int)) (fun i1 s1 =>
 (at? a0.edges (i1 : Int)).bind fun x4 =>
 some (maxI s1 (x4.length : Int))) a0.edges.length 0 1).bind fun out1 =>
 some out1
noncomputable def F50 (a0 : Search_view) (a1 : Int) (a2 : Int) : Option ((List Int) × Bool) :=
 (F74 a0).bind fun x1 =>
 (cnt? x1).bind fun x8 =>
 (forN (σ := (List Int)) (fun i1 s1 =>
 (F46 a0 (⟨a1, (i1 : Int)⟩ : Mind) a2).bind fun x9 =>
 if !x9.2 then
 (some (Sum.inr (([] : List Int), false)))
 else
 ((push? s1 ([(x9.1.length : Int)] : List Int)).bind fun x10 =>
 some (Sum.inl x10))) x8 0 ([])).bind fun o2 => onL o2 fun out1 =>
 some (out1, true)
noncomputable def F54 (a0 : Int) (a1 : Int) : Option (Int) :=
 (bw_ (σ := (Int × Int)) (ρ := (Int × Int)) (fun s1 =>
 if decide (0 < s1.2) then
 ((md s1.1 s1.2).bind fun x7 =>
 some (Sum.inl (s1.2, x7)))
 else
 (some (Sum.inr (s1.1, s1.2)))) (a0, a1)).bind fun out1 =>
 some out1.1
noncomputable def F29 (a0 : Graph) (a1 : (List Int)) (a2 : Int) (a3 : Int) : Option (Int × Int × Int) :=
 (F45 a0 a1 (⟨a2, 0⟩ : Mind) a3).bind fun x1 =>
 if x1.2 != 0 then
 (some (0, 0, x1.2))
 else
 ((F50 x1.1 a2 a3).bind fun x2 =>
 if !x2.2 then
 (some (0, 0, 3))
 else
 ((forS (σ := (Int)) (fun i1 s1 =>
 (at? x2.1 (i1 : Int)).bind fun x6 =>
 some (w64 (s1 + x6))) x2.1.length 0 0).bind fun out1 =>
 (F54 out1 (x2.1.length : Int)).bind fun x7 =>
 (dv out1 x7).bind fun x8 =>
 (dv (x2.1.length : Int) x7).bind fun x9 =>
 some (x8, x9, 0)))
noncomputable def F20 (a0 : (List Int)) (a1 : (List Int)) : Option (Bool) :=
 if (a0.length : Int) != (a1.length : Int) then
 (some false)
 else
 ((forN (σ := (Unit)) (fun i1 s1 =>
 (at? a0 (i1 : Int)).bind fun x7 =>
 (at? a1 (i1 : Int)).bind fun x8 =>
 if x7 != x8 then
 (some (Sum.inr false))
 else
 (some (Sum.inl ()))) a0.length 0 ()).bind fun o2 => onL o2 fun out1 =>
 some true)
noncomputable def F17  : Option (Bool) :=
 (F44).bind fun x1 =>
 (F18 x1.1 x1.2 (⟨10, 0⟩ : Mind) 100).bind fun x2 =>
 (F29 x1.1 x1.2 10 100).bind fun x3 =>
 if x2.2.2 == 0 then
 (if x3.2.2 == 0 then
 (if x2.2.1 then
 ((F20 x2.1 ([0, 0, 1, 0, 0, 1, 0] : List Int)).bind fun x4 =>
 if x4 then
 (if x3.1 == 8 then
 (some (x3.2.1 == 1))
 else
 (some false))
 else
 (some false))
 else
 (some false))
 else
 (some false))
 else
 (some false)
noncomputable def F49 (a0 : Int) (a1 : Int) (a2 : Int) : Option (Bool) :=
 if decide (a1 ≤ a0) then
 (some (decide (a0 ≤ a2)))
 else
 (some false)
noncomputable def F21 (a0 : Graph) (a1 : (List Int)) : Option (Int) :=
 (((F49 (a0.Positions.length : Int) 1 300).bind fun x2 =>
 if !x2 then
 (some (Sum.inr 60))
 else
 (if (a0.Edges.length : Int) != (a0.Positions.length : Int) then
 (some (Sum.inr 60))
 else
 (if (a1.length : Int) != (a0.Positions.length : Int) then
 (some (Sum.inr 60))
 else
 (some (Sum.inl ()))))) : Option (Unit ⊕ _)).bind fun ov1 => onL ov1 fun v1 =>
 (forN (σ := (Unit)) (fun i1 s3 =>
 (at? a0.Edges (i1 : Int)).bind fun x51 =>
 if decide (100 < (x51.length : Int)) then
 (some (Sum.inr 60))
 else
 ((bw_ (σ := (Int × Int)) (ρ := (Int × Int) ⊕ _) (fun s4 =>
 (at? a0.Edges (i1 : Int)).bind fun x68 =>
 if decide (s4.2 < (x68.length : Int)) then
 ((at? a0.Edges (i1 : Int)).bind fun x69 =>
 (at? x69 s4.2).bind fun x70 =>
 (F49 x70.To 0 (w64 ((a0.Positions.length : Int) - 1))).bind fun x71 =>
 if !x71 then
 (some (Sum.inr (Sum.inr (Sum.inr 60))))
 else
 ((at? a1 x70.To).bind fun x72 =>
 if decide (0 ≤ x72) then
 (if decide (s4.1 < 0) then
 (some (Sum.inl (x72, w64 (s4.2 + 1))))
 else
 (if decide (x72 < s4.1) then
 (some (Sum.inl (x72, w64 (s4.2 + 1))))
 else
 (some (Sum.inl (s4.1, w64 (s4.2 + 1))))))
 else
 (some (Sum.inl (s4.1, w64 (s4.2 + 1))))))
 else
 (some (Sum.inr (Sum.inl (s4.1, s4.2))))) ((-1), 0)).bind fun o8 => onL o8 fun out4 =>
 ((if decide (0 ≤ out4.1) then
 (some (w64 (out4.1 + 1)))
 else
 (some (-1))) : Option (Int)).bind fun v4 =>
 (at? a1 (i1 : Int)).bind fun x73 =>
 if x73 != 0 then
 ((at? a1 (i1 : Int)).bind fun x74 =>
 if x74 != v4 then
 (some (Sum.inr 60))
 else
 (some (Sum.inl ())))
 else
 (some (Sum.inl ())))) a0.Positions.length 0 ()).bind fun o6 => onL o6 fun out3 =>
 some 0
noncomputable def F73 (a0 : (List Ref06_gone)) (a1 : Ref06_gone) : Option (Int) :=
 (forN (σ := (Unit)) (fun i1 s1 =>
 (at? a0 (i1 : Int)).bind fun x4 =>
 if decide (x4 = a1) then
 (some (Sum.inr (i1 : Int)))
 else
 (some (Sum.inl ()))) a0.length 0 ()).bind fun o2 => onL o2 fun out1 =>
 some (-1)
noncomputable def F70 (a0 : Graph) (a1 : (List Ref06_gone)) (a2 : Int) (a3 : Int) : Option (Int) :=
 (at? a0.Edges a2).bind fun x1 =>
 (forN (σ := (Unit)) (fun i1 s1 =>
 (md (w64 (a3 + (i1 : Int))) (x1.length : Int)).bind fun x6 =>
 (F73 a1 (⟨a2, x6⟩ : Ref06_gone)).bind fun x7 =>
 if decide (x7 < 0) then
 (some (Sum.inr x6))
 else
 (some (Sum.inl ()))) x1.length 0 ()).bind fun o2 => onL o2 fun out1 =>
 some (-1)
noncomputable def F85 (a0 : Graph) (a1 : (List Ref06_gone)) (a2 : Int) : Option ((List Int)) :=
 (mk? (a0.Edges.length : Int) 0).bind fun x1 =>
 (bw_ (σ := (List Int × Int)) (ρ := (List Int × Int)) (fun s1 =>
 if decide (s1.2 < (s1.1.length : Int)) then
 ((at? s1.1 s1.2).bind fun x8 =>
 some (Sum.inl (s1.1.set (s1.2).toNat (-1), w64 (s1.2 + 1))))
 else
 (some (Sum.inr (s1.1, s1.2)))) (x1, 0)).bind fun out1 =>
 (at? out1.1 a2).bind fun x9 =>
 (bw_ (σ := (List Int × Bool × Int)) (ρ := (List Int × Bool × Int)) (fun s8 =>
 if s8.2.1 then
 ((forS (σ := (List Int × Bool)) (fun i7 s9 =>
 (at? a1 (i7 : Int)).bind fun x280 =>
 (((at? s9.1 x280.position).bind fun x285 =>
 if decide (x285 < 0) then
 ((at? a0.Edges x280.position).bind fun x286 =>
 (at? x286 x280.edge).bind fun x287 =>
 (at? s9.1 x287.To).bind fun x288 =>
 some (x288 == s8.2.2))
 else
 (some false)) : Option (Bool)).bind fun v28 =>
 if v28 then
 ((at? s9.1 x280.position).bind fun x289 =>
 some (s9.1.set (x280.position).toNat (w64 (s8.2.2 + 1)), true))
 else
 (some (s9.1, s9.2))) a1.length 0 (s8.1, false)).bind fun out9 =>
 some (Sum.inl (out9.1, out9.2, w64 (s8.2.2 + 1))))
 else
 (some (Sum.inr (s8.1, s8.2.1, s8.2.2)))) (out1.1.set (a2).toNat 0, true, 0)).bind fun out8 =>
 some out8.1
noncomputable def F71 (a0 : Graph) (a1 : (List Ref06_gone)) (a2 : Int) : Option (Int) :=
 (forS (σ := (Int × Int)) (fun i1 s1 =>
 (F70 a0 a1 (i1 : Int) 0).bind fun x10 =>
 if decide (x10 < 0) then
 (some (s1.1, s1.2))
 else
 ((F85 a0 a1 (i1 : Int)).bind fun x11 =>
 (at? x11 a2).bind fun x12 =>
 if decide (0 < x12) then
 (if decide (s1.1 < 0) then
 (some ((i1 : Int), x12))
 else
 (if decide (x12 < s1.2) then
 (some ((i1 : Int), x12))
 else
 (some (s1.1, s1.2))))
 else
 (some (s1.1, s1.2)))) a0.Edges.length 0 ((-1), 0)).bind fun out1 =>
 if decide (out1.1 < 0) then
 (some (-1))
 else
 ((F85 a0 a1 out1.1).bind fun x13 =>
 (bw_ (σ := (Int)) (ρ := (Int) ⊕ _) (fun s2 =>
 (at? a0.Edges a2).bind fun x30 =>
 if decide (s2 < (x30.length : Int)) then
 ((F73 a1 (⟨a2, s2⟩ : Ref06_gone)).bind fun x31 =>
 if decide (0 ≤ x31) then
 ((at? a0.Edges a2).bind fun x32 =>
 (at? x32 s2).bind fun x33 =>
 (at? x13 x33.To).bind fun x34 =>
 if x34 == (w64 (out1.2 - 1)) then
 (some (Sum.inr (Sum.inr s2)))
 else
 (some (Sum.inl (w64 (s2 + 1)))))
 else
 (some (Sum.inl (w64 (s2 + 1)))))
 else
 (some (Sum.inr (Sum.inl s2)))) 0).bind fun o3 => onL o3 fun out2 =>
 some (-1))
noncomputable def F72 (a0 : (List Ref06_gone)) (a1 : Int) : Option (Int) :=
 (forN (σ := (Unit)) (fun i1 s1 =>
 (at? a0 (i1 : Int)).bind fun x5 =>
 if x5.position == a1 then
 ((at? a0 (i1 : Int)).bind fun x6 =>
 some (Sum.inr x6.edge))
 else
 (some (Sum.inl ()))) a0.length 0 ()).bind fun o2 => onL o2 fun out1 =>
 some (-1)
noncomputable def F48 (a0 : Graph) (a1 : (List Int)) (a2 : Mind) (a3 : Int) : Option ((List Int) × Bool) :=
 (bw_ (σ := (List Int × List Ref06_gone × Int)) (ρ := (List Int × List Ref06_gone × Int)) (fun s1 =>
 (((at? a1 s1.2.2).bind fun x153 =>
 if x153 != 0 then
 ((at? a0.Edges s1.2.2).bind fun x154 =>
 if decide (0 < (x154.length : Int)) then
 (if decide ((s1.1.length : Int) < a3) then
 (some (Sum.inl ()))
 else
 (some (Sum.inr (Sum.inr (s1.1, s1.2.1, s1.2.2)))))
 else
 (some (Sum.inr (Sum.inr (s1.1, s1.2.1, s1.2.2)))))
 else
 (some (Sum.inr (Sum.inr (s1.1, s1.2.1, s1.2.2))))) : Option (Unit ⊕ _)).bind fun ov59 => onL ov59 fun v59 =>
 (F70 a0 s1.2.1 s1.2.2 a2.Turn).bind fun x155 =>
 ((if decide (x155 < 0) then
 ((F71 a0 s1.2.1 s1.2.2).bind fun x157 =>
 some x157)
 else
 (some x155)) : Option (Int)).bind fun v62 =>
 ((if decide (v62 < 0) then
 ((F72 s1.2.1 s1.2.2).bind fun x159 =>
 some x159)
 else
 (some v62)) : Option (Int)).bind fun v65 =>
 (((F73 s1.2.1 (⟨s1.2.2, v65⟩ : Ref06_gone)).bind fun x165 =>
 if decide (0 ≤ x165) then
 ((sub? s1.2.1 0 x165).bind fun x166 =>
 (push? ([] : List Ref06_gone) x166).bind fun x167 =>
 (sub? s1.2.1 (w64 (x165 + 1)) (s1.2.1.length : Int)).bind fun x168 =>
 (push? x167 x168).bind fun x169 =>
 some x169)
 else
 (some s1.2.1)) : Option (List Ref06_gone)).bind fun v68 =>
 (push? v68 ([(⟨s1.2.2, v65⟩ : Ref06_gone)] : List Ref06_gone)).bind fun x170 =>
 ((if decide (a2.Memory < (x170.length : Int)) then
 ((sub? x170 1 (x170.length : Int)).bind fun x172 =>
 some x172)
 else
 (some x170)) : Option (List Ref06_gone)).bind fun v70 =>
 (push? s1.1 ([v65] : List Int)).bind fun x173 =>
 (at? a0.Edges s1.2.2).bind fun x174 =>
 (at? x174 v65).bind fun x175 =>
 some (Sum.inl (x173, v70, x175.To))) ([], [], 0)).bind fun out1 =>
 (at? a1 out1.2.2).bind fun x176 =>
 some (out1.1, x176 == 0)
noncomputable def F22 (a0 : Graph) : Option (Int) :=
 (forS (σ := (Int)) (fun i1 s1 =>
 (at? a0.Edges (i1 : Int)).bind fun x4 =>
 some (w64 (s1 + (x4.length : Int)))) a0.Edges.length 0 0).bind fun out1 =>
 some out1
noncomputable def F23 (a0 : Graph) (a1 : (List Int)) : Option (Bool) :=
 (mk? (a0.Edges.length : Int) false).bind fun x1 =>
 (at? x1 0).bind fun x2 =>
 (bw_ (σ := (List Bool × Int)) (ρ := (List Bool × Int)) (fun s49 =>
 if decide (s49.2 < (s49.1.length : Int)) then
 ((bw_ (σ := (List Bool × Int)) (ρ := (List Bool × Int)) (fun s56 =>
 if decide (s56.2 < (s56.1.length : Int)) then
 ((bw_ (σ := (List Bool × Int)) (ρ := (List Bool × Int)) (fun s57 =>
 (((at? a0.Edges s56.2).bind fun x2399 =>
 if decide (s57.2 < (x2399.length : Int)) then
 ((at? s57.1 s56.2).bind fun x2400 =>
 if x2400 then
 (some (Sum.inl ()))
 else
 (some (Sum.inr (Sum.inr (s57.1, s57.2)))))
 else
 (some (Sum.inr (Sum.inr (s57.1, s57.2))))) : Option (Unit ⊕ _)).bind fun ov343 => onL ov343 fun v343 =>
 (at? a0.Edges s56.2).bind fun x2401 =>
 (at? x2401 s57.2).bind fun x2402 =>
 (at? s57.1 x2402.To).bind fun x2403 =>
 some (Sum.inl (s57.1.set (x2402.To).toNat true, w64 (s57.2 + 1)))) (s56.1, 0)).bind fun out57 =>
 some (Sum.inl (out57.1, w64 (s56.2 + 1))))
 else
 (some (Sum.inr (s56.1, s56.2)))) (s49.1, 0)).bind fun out56 =>
 some (Sum.inl (out56.1, w64 (s49.2 + 1))))
 else
 (some (Sum.inr (s49.1, s49.2)))) (x1.set (0 : Int).toNat true, 0)).bind fun out49 =>
 (forN (σ := (Unit)) (fun i1 s58 =>
 (at? out49.1 (i1 : Int)).bind fun x2408 =>
 if x2408 then
 ((at? a1 (i1 : Int)).bind fun x2409 =>
 if decide (x2409 < 0) then
 (some (Sum.inr true))
 else
 (some (Sum.inl ())))
 else
 (some (Sum.inl ()))) out49.1.length 0 ()).bind fun o59 => onL o59 fun out58 =>
 some false
end Go.Proofs.Ytogfongmnkmegaa.Pad
