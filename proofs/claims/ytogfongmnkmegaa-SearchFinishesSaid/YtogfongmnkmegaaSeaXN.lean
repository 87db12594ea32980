/- A part of the proof: what the functions of the program compute, shown over the model. -/
import Derived.Test.YtogfongmnkmegaaSeaXP
import Derived.Test.YtogfongmnkmegaaPadS
import Derived.KernelRfl
set_option linter.unusedVariables false
namespace Go.Proofs.Ytogfongmnkmegaa.Pad
open Go Go.Proofs
theorem ew_ {α β : Type} {c : Prop} [Decidable c] (a b : Option α) (f : α → Option β) : (if c then a else b).bind f = if c then a.bind f else b.bind f := by split <;> rfl
noncomputable def N15 (a0 : Graph) : Option (Bool) :=
 (bw_ (σ := (Int × Int)) (ρ := (Int × Int)) (fun s1 =>
 if decide (s1.2 < (a0.Edges.length : Int)) then
 (if decide (s1.2 < 400) then
 ((at? a0.Edges s1.2).bind fun x7 =>
 some (Sum.inl (w64 (s1.1 + (x7.length : Int)), w64 (s1.2 + 1))))
 else
 (some (Sum.inr (s1.1, s1.2))))
 else
 (some (Sum.inr (s1.1, s1.2)))) (0, 0)).bind fun out1 =>
 if decide (20 < (a0.Positions.length : Int)) then
 (if decide ((a0.Positions.length : Int) ≤ 300) then
 (some true)
 else
 (if decide (40 < out1.1) then
 (some true)
 else
 (some (decide (400 < (a0.Edges.length : Int))))))
 else
 (if decide (40 < out1.1) then
 (some true)
 else
 (some (decide (400 < (a0.Edges.length : Int)))))
theorem N15_eq (a0 : Graph) : F15 a0 = N15 a0 := by
  unfold F15 N15
  simp only [Option.bind_assoc, ew_, Option.bind_some, onL]
noncomputable def N21 (a0 : Graph) (a1 : (List Int)) : Option (Int) :=
 (F49 (a0.Positions.length : Int) 1 300).bind fun x2 =>
 if !x2 then
 (some 60)
 else
 (if (a0.Edges.length : Int) != (a0.Positions.length : Int) then
 (some 60)
 else
 (if (a1.length : Int) != (a0.Positions.length : Int) then
 (some 60)
 else
 ((forN (σ := (Unit)) (fun i1 s3 =>
 (at? a0.Edges (i1 : Int)).bind fun x51 =>
 if decide (100 < (x51.length : Int)) then
 (some (Sum.inr 60))
 else
 ((bw_ (σ := (Int × Int)) (ρ := (Int × Int) ⊕ _) (fun s4 =>
 (at? a0.Edges (i1 : Int)).bind fun x68 =>
 if decide (s4.2 < (x68.length : Int)) then
 ((at? a0.Edges (i1 : Int)).bind fun x69 =>
 (at? x69 s4.2).bind fun x70 =>
 (F49 x70.To 0 (w64 ((a0.Positions.length : Int) - 1))).bind fun x71 =>
 if !x71 then
 (some (Sum.inr (Sum.inr (Sum.inr 60))))
 else
 ((at? a1 x70.To).bind fun x72 =>
 if decide (0 ≤ x72) then
 (if decide (s4.1 < 0) then
 (some (Sum.inl (x72, w64 (s4.2 + 1))))
 else
 (if decide (x72 < s4.1) then
 (some (Sum.inl (x72, w64 (s4.2 + 1))))
 else
 (some (Sum.inl (s4.1, w64 (s4.2 + 1))))))
 else
 (some (Sum.inl (s4.1, w64 (s4.2 + 1))))))
 else
 (some (Sum.inr (Sum.inl (s4.1, s4.2))))) ((-1), 0)).bind fun o8 => onL o8 fun out4 =>
 ((if decide (0 ≤ out4.1) then
 (some (w64 (out4.1 + 1)))
 else
 (some (-1))) : Option (Int)).bind fun v3 =>
 (at? a1 (i1 : Int)).bind fun x73 =>
 if x73 != 0 then
 ((at? a1 (i1 : Int)).bind fun x74 =>
 if x74 != v3 then
 (some (Sum.inr 60))
 else
 (some (Sum.inl ())))
 else
 (some (Sum.inl ())))) a0.Positions.length 0 ()).bind fun o6 => onL o6 fun out3 =>
 some 0)))
theorem N21_eq (a0 : Graph) (a1 : (List Int)) : F21 a0 a1 = N21 a0 a1 := by
  unfold F21 N21
  simp only [Option.bind_assoc, ew_, Option.bind_some, onL]
noncomputable def N23 (a0 : Graph) (a1 : (List Int)) : Option (Bool) :=
 (mk? (a0.Edges.length : Int) false).bind fun x1 =>
 (at? x1 0).bind fun x2 =>
 (bw_ (σ := (List Bool × Int)) (ρ := (List Bool × Int)) (fun s49 =>
 if decide (s49.2 < (s49.1.length : Int)) then
 ((bw_ (σ := (List Bool × Int)) (ρ := (List Bool × Int)) (fun s56 =>
 if decide (s56.2 < (s56.1.length : Int)) then
 ((bw_ (σ := (List Bool × Int)) (ρ := (List Bool × Int)) (fun s57 =>
 (at? a0.Edges s56.2).bind fun x2399 =>
 if decide (s57.2 < (x2399.length : Int)) then
 ((at? s57.1 s56.2).bind fun x2400 =>
 if x2400 then
 ((at? a0.Edges s56.2).bind fun x2401 =>
 (at? x2401 s57.2).bind fun x2402 =>
 (at? s57.1 x2402.To).bind fun x2403 =>
 some (Sum.inl (s57.1.set (x2402.To).toNat true, w64 (s57.2 + 1))))
 else
 (some (Sum.inr (s57.1, s57.2))))
 else
 (some (Sum.inr (s57.1, s57.2)))) (s56.1, 0)).bind fun out57 =>
 some (Sum.inl (out57.1, w64 (s56.2 + 1))))
 else
 (some (Sum.inr (s56.1, s56.2)))) (s49.1, 0)).bind fun out56 =>
 some (Sum.inl (out56.1, w64 (s49.2 + 1))))
 else
 (some (Sum.inr (s49.1, s49.2)))) (x1.set (0 : Int).toNat true, 0)).bind fun out49 =>
 (forN (σ := (Unit)) (fun i1 s58 =>
 (at? out49.1 (i1 : Int)).bind fun x2408 =>
 if x2408 then
 ((at? a1 (i1 : Int)).bind fun x2409 =>
 if decide (x2409 < 0) then
 (some (Sum.inr true))
 else
 (some (Sum.inl ())))
 else
 (some (Sum.inl ()))) out49.1.length 0 ()).bind fun o59 => onL o59 fun out58 =>
 some false
theorem N23_eq (a0 : Graph) (a1 : (List Int)) : F23 a0 a1 = N23 a0 a1 := by
  unfold F23 N23
  simp only [Option.bind_assoc, ew_, Option.bind_some, onL]
noncomputable def N57 (a0 : Graph) (a1 : (List Int)) : Option (Search_view × Int) :=
 (F61 (a0.Positions.length : Int) 1 300).bind fun x2 =>
 if !x2 then
 (some ((⟨a0.Edges, a1⟩ : Search_view), 60))
 else
 (if (a0.Edges.length : Int) != (a0.Positions.length : Int) then
 (some ((⟨a0.Edges, a1⟩ : Search_view), 60))
 else
 (if (a1.length : Int) != (a0.Positions.length : Int) then
 (some ((⟨a0.Edges, a1⟩ : Search_view), 60))
 else
 ((forN (σ := (Unit)) (fun i1 s1 =>
 (at? a0.Edges (i1 : Int)).bind fun x7 =>
 if decide (100 < (x7.length : Int)) then
 (some (Sum.inr ((⟨a0.Edges, a1⟩ : Search_view), 60)))
 else
 ((F77 x7 (fun x0_ => F78 x0_ ((a0.Positions.length : Int)))).bind fun x8 =>
 if x8 then
 (some (Sum.inr ((⟨a0.Edges, a1⟩ : Search_view), 60)))
 else
 (some (Sum.inl ())))) a0.Edges.length 0 ()).bind fun o2 => onL o2 fun out1 =>
 (forN (σ := (Unit)) (fun i2 s3 =>
 (at? a1 (i2 : Int)).bind fun x13 =>
 (F79 (⟨a0.Edges, a1⟩ : Search_view) (i2 : Int)).bind fun x14 =>
 ((if x14 != (-1) then
 (some (w64 (x14 + 1)))
 else
 (some x14)) : Option (Int)).bind fun v3 =>
 if x13 != 0 then
 (if x13 != v3 then
 (some (Sum.inr ((⟨a0.Edges, a1⟩ : Search_view), 60)))
 else
 (some (Sum.inl ())))
 else
 (some (Sum.inl ()))) a1.length 0 ()).bind fun o4 => onL o4 fun out2 =>
 some ((⟨a0.Edges, a1⟩ : Search_view), 0))))
theorem N57_eq (a0 : Graph) (a1 : (List Int)) : F57 a0 a1 = N57 a0 a1 := by
  unfold F57 N57
  simp only [Option.bind_assoc, ew_, Option.bind_some, onL]
noncomputable def N46 (a0 : Search_view) (a1 : Mind) (a2 : Int) : Option ((List Int) × Bool) :=
 (bw_ (σ := (List Int × (List (List Edge)) × (List Int) × Int × Int × Int × List Search_gone)) (ρ := (List Int × (List (List Edge)) × (List Int) × Int × Int × Int × List Search_gone)) (fun s1 =>
 (at? a0.distances s1.2.2.2.2.2.1).bind fun x45 =>
 if x45 != 0 then
 ((at? a0.edges s1.2.2.2.2.2.1).bind fun x46 =>
 if decide (0 < (x46.length : Int)) then
 (if decide ((s1.1.length : Int) < a2) then
 ((F68 (⟨(⟨s1.2.1, s1.2.2.1⟩ : Search_view), (⟨s1.2.2.2.1, s1.2.2.2.2.1⟩ : Mind), s1.2.2.2.2.2.1, s1.2.2.2.2.2.2⟩ : Search_player)).bind fun x47 =>
 (push? s1.1 ([x47] : List Int)).bind fun x48 =>
 (F69 (⟨(⟨s1.2.1, s1.2.2.1⟩ : Search_view), (⟨s1.2.2.2.1, s1.2.2.2.2.1⟩ : Mind), s1.2.2.2.2.2.1, s1.2.2.2.2.2.2⟩ : Search_player) x47).bind fun x49 =>
 some (Sum.inl (x48, x49.view.edges, x49.view.distances, x49.Mind.Memory, x49.Mind.Turn, x49.at_, x49.memory)))
 else
 (some (Sum.inr (s1.1, s1.2.1, s1.2.2.1, s1.2.2.2.1, s1.2.2.2.2.1, s1.2.2.2.2.2.1, s1.2.2.2.2.2.2))))
 else
 (some (Sum.inr (s1.1, s1.2.1, s1.2.2.1, s1.2.2.2.1, s1.2.2.2.2.1, s1.2.2.2.2.2.1, s1.2.2.2.2.2.2))))
 else
 (some (Sum.inr (s1.1, s1.2.1, s1.2.2.1, s1.2.2.2.1, s1.2.2.2.2.1, s1.2.2.2.2.2.1, s1.2.2.2.2.2.2)))) ([], a0.edges, a0.distances, a1.Memory, a1.Turn, 0, [])).bind fun out1 =>
 (at? a0.distances out1.2.2.2.2.2.1).bind fun x50 =>
 some (out1.1, x50 == 0)
theorem N46_eq (a0 : Search_view) (a1 : Mind) (a2 : Int) : F46 a0 a1 a2 = N46 a0 a1 a2 := by
  unfold F46 N46
  simp only [Option.bind_assoc, ew_, Option.bind_some, onL]
end Go.Proofs.Ytogfongmnkmegaa.Pad
