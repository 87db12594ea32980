/- A part of the proof: what the functions of the program compute, shown over the model. -/
import Derived.Test.YtogfongmnkmegaaPadN
import Derived.Test.YtogfongmnkmegaaSeaXP
set_option linter.unusedVariables false
set_option linter.unusedSimpArgs false
namespace Go.Proofs.Ytogfongmnkmegaa.Pad
open Go Go.Proofs
def iterC {σ ρ : Type} (body : σ → Option (σ ⊕ ρ)) (s : σ) : Option ρ := ea_ body 400 s
theorem Le.iterC {σ ρ : Type} {f g : σ → Option (σ ⊕ ρ)} (h : ∀ s, Le (f s) (g s)) (s : σ) : Le (Go.Proofs.Ytogfongmnkmegaa.Pad.iterC f s) (bw_ g s) := Le.while_ h _ s
noncomputable def C44  : Option (Graph × (List Int)) :=
 (mk? (([([1, 2] : List Int), ([0, 3] : List Int), ([0] : List Int), ([4, 1] : List Int), ([] : (List Int))] : List (List Int)).length : Int) (⟨(⟨([] : (List Int)), ([] : (List Int)), ([] : (List Int))⟩ : State), ([] : (List Bool))⟩ : Position)).bind fun x1 =>
 (forS (σ := (List (List Edge))) (fun i1 s4 =>
 (iterC (σ := (List Edge × Int)) (ρ := (List Edge × Int)) (fun s5 =>
 (at? ([([1, 2] : List Int), ([0, 3] : List Int), ([0] : List Int), ([4, 1] : List Int), ([] : (List Int))] : List (List Int)) (i1 : Int)).bind fun x69 =>
 if decide (s5.2 < (x69.length : Int)) then
 ((at? ([([1, 2] : List Int), ([0, 3] : List Int), ([0] : List Int), ([4, 1] : List Int), ([] : (List Int))] : List (List Int)) (i1 : Int)).bind fun x70 =>
 (at? x70 s5.2).bind fun x71 =>
 (push? s5.1 ([(⟨(⟨0, 0, 0⟩ : Move), x71⟩ : Edge)] : List Edge)).bind fun x72 =>
 some (Sum.inl (x72, w64 (s5.2 + 1))))
 else
 (some (Sum.inr (s5.1, s5.2)))) ([], 0)).bind fun out5 =>
 (push? s4 ([out5.1] : List (List Edge))).bind fun x73 =>
 some x73) (([([1, 2] : List Int), ([0, 3] : List Int), ([0] : List Int), ([4, 1] : List Int), ([] : (List Int))] : List (List Int)).length) 0 ([])).bind fun out4 =>
 some ((⟨x1, out4⟩ : Graph), ([3, 2, 4, 1, 0] : List Int))
theorem C44_le  : Le (C44 ) (F44 ) := by
  unfold C44 F44
  repeat' first | with_reducible exact Le.refl _ | (with_reducible apply Le.bind) | (with_reducible apply Le.ite) | (with_reducible apply Le.onL) | (with_reducible apply Le.forS) | (with_reducible apply Le.forN) | (with_reducible apply Le.iterC) | intro
noncomputable def C81 (a0 : Search_player) : Option (Int) :=
 (iterC (σ := (List (Int × Search_way) × List Int)) (ρ := (List (Int × Search_way) × List Int)) (fun s7 =>
 if decide (0 < (s7.2.length : Int)) then
 ((at? s7.2 0).bind fun x115 =>
 (at? a0.view.edges x115).bind fun x116 =>
 (forS (σ := (List (Int × Search_way) × List Int)) (fun i7 s8 =>
 (at? x116 (i7 : Int)).bind fun x129 =>
 (F86 a0 x115 (i7 : Int)).bind fun x130 =>
 if !x130 then
 (some (s8.1, s8.2))
 else
 (((if x115 == a0.at_ then
 (some (i7 : Int))
 else
 (some ((bf_ (⟨0, 0⟩ : Search_way) s8.1 x115).edge))) : Option (Int)).bind fun v82 =>
 ((if !(cv_ s8.1 x129.To) then
 ((push? s8.2 ([x129.To] : List Int)).bind fun x132 =>
 some x132)
 else
 (some s8.2)) : Option (List Int)).bind fun v83 =>
 ((if !(cv_ s8.1 x129.To) then
 (some true)
 else
 (if ((bf_ (⟨0, 0⟩ : Search_way) s8.1 x129.To).steps) == (w64 (((bf_ (⟨0, 0⟩ : Search_way) s8.1 x115).steps) + 1)) then
 (some (decide (v82 < ((bf_ (⟨0, 0⟩ : Search_way) s8.1 x129.To).edge))))
 else
 (some false))) : Option (Bool)).bind fun v84 =>
 if v84 then
 (some (fq_ s8.1 x129.To (⟨w64 (((bf_ (⟨0, 0⟩ : Search_way) s8.1 x115).steps) + 1), v82⟩ : Search_way), v83))
 else
 (some (s8.1, v83)))) x116.length 0 (s7.1, s7.2)).bind fun out8 =>
 (sub? out8.2 1 (out8.2.length : Int)).bind fun x133 =>
 some (Sum.inl (out8.1, x133)))
 else
 (some (Sum.inr (s7.1, s7.2)))) (fq_ ([] : List (Int × Search_way)) a0.at_ (⟨0, (-1)⟩ : Search_way), ([a0.at_] : List Int))).bind fun out7 =>
 (forS (σ := (Int × Int)) (fun i8 s9 =>
 ((if cv_ out7.1 (i8 : Int) then
 ((F80 a0 (i8 : Int)).bind fun x141 =>
 if decide (0 ≤ x141) then
 (if decide (s9.1 < 0) then
 (some true)
 else
 (some (decide (((bf_ (⟨0, 0⟩ : Search_way) out7.1 (i8 : Int)).steps) < s9.1))))
 else
 (some false))
 else
 (some false)) : Option (Bool)).bind fun v88 =>
 if v88 then
 (some ((bf_ (⟨0, 0⟩ : Search_way) out7.1 (i8 : Int)).steps, (bf_ (⟨0, 0⟩ : Search_way) out7.1 (i8 : Int)).edge))
 else
 (some (s9.1, s9.2))) a0.view.edges.length 0 ((-1), (-1))).bind fun out9 =>
 some out9.2
theorem C81_le (a0 : Search_player) : Le (C81 a0) (F81 a0) := by
  unfold C81 F81
  repeat' first | with_reducible exact Le.refl _ | (with_reducible apply Le.bind) | (with_reducible apply Le.ite) | (with_reducible apply Le.onL) | (with_reducible apply Le.forS) | (with_reducible apply Le.forN) | (with_reducible apply Le.iterC) | intro
noncomputable def C68 (a0 : Search_player) : Option (Int) :=
 (F80 a0 a0.at_).bind fun x1 =>
 if decide (0 ≤ x1) then
 (some x1)
 else
 ((C81 a0).bind fun x2 =>
 if decide (0 ≤ x2) then
 (some x2)
 else
 ((F82 a0).bind fun x3 =>
 some x3))
theorem C68_le (a0 : Search_player) : Le (C68 a0) (F68 a0) := by
  unfold C68 F68
  repeat' first | with_reducible exact Le.refl _ | (with_reducible apply Le.bind) | (with_reducible apply Le.ite) | (with_reducible apply Le.onL) | (with_reducible apply Le.forS) | (with_reducible apply Le.forN) | (with_reducible apply Le.iterC) | (with_reducible apply C81_le) | intro
noncomputable def C83 (a0 : (List Search_gone)) (a1 : Search_gone → Option Bool) : Option ((List Search_gone)) :=
 (F87 a0 a1).bind fun x1 =>
 if x1 == (-1) then
 (some a0)
 else
 ((iterC (σ := (List Search_gone × Int × Int)) (ρ := (List Search_gone × Int × Int)) (fun s1 =>
 if decide (s1.2.2 < (s1.1.length : Int)) then
 ((at? s1.1 s1.2.2).bind fun x20 =>
 (a1 x20).bind fun x21 =>
 if !x21 then
 ((at? s1.1 s1.2.1).bind fun x22 =>
 some (Sum.inl (s1.1.set (s1.2.1).toNat x20, w64 (s1.2.1 + 1), w64 (s1.2.2 + 1))))
 else
 (some (Sum.inl (s1.1, s1.2.1, w64 (s1.2.2 + 1)))))
 else
 (some (Sum.inr (s1.1, s1.2.1, s1.2.2)))) (a0, x1, w64 (x1 + 1))).bind fun out1 =>
 (sub? out1.1 out1.2.1 (out1.1.length : Int)).bind fun x23 =>
 (sub? (out1.1.take (out1.2.1).toNat ++ List.replicate (out1.1.length - (out1.2.1).toNat) (⟨0, 0⟩ : Search_gone)) 0 out1.2.1).bind fun x24 =>
 some x24)
theorem C83_le (a0 : (List Search_gone)) (a1 : Search_gone → Option Bool) : Le (C83 a0 a1) (F83 a0 a1) := by
  unfold C83 F83
  repeat' first | with_reducible exact Le.refl _ | (with_reducible apply Le.bind) | (with_reducible apply Le.ite) | (with_reducible apply Le.onL) | (with_reducible apply Le.forS) | (with_reducible apply Le.forN) | (with_reducible apply Le.iterC) | intro
noncomputable def C69 (a0 : Search_player) (a1 : Int) : Option (Search_player) :=
 (C83 a0.memory (fun x0_ => F84 x0_ ((⟨a0.at_, a1⟩ : Search_gone)))).bind fun x1 =>
 (push? x1 ([(⟨a0.at_, a1⟩ : Search_gone)] : List Search_gone)).bind fun x2 =>
 ((if decide (a0.Mind.Memory < (x2.length : Int)) then
 ((sub? x2 1 (x2.length : Int)).bind fun x4 =>
 some x4)
 else
 (some x2)) : Option (List Search_gone)).bind fun v2 =>
 (at? a0.view.edges ((⟨a0.at_, a1⟩ : Search_gone).position)).bind fun x5 =>
 (at? x5 a1).bind fun x6 =>
 some (⟨(⟨a0.view.edges, a0.view.distances⟩ : Search_view), (⟨a0.Mind.Memory, a0.Mind.Turn⟩ : Mind), x6.To, v2⟩ : Search_player)
theorem C69_le (a0 : Search_player) (a1 : Int) : Le (C69 a0 a1) (F69 a0 a1) := by
  unfold C69 F69
  repeat' first | with_reducible exact Le.refl _ | (with_reducible apply Le.bind) | (with_reducible apply Le.ite) | (with_reducible apply Le.onL) | (with_reducible apply Le.forS) | (with_reducible apply Le.forN) | (with_reducible apply Le.iterC) | (with_reducible apply C83_le) | intro
noncomputable def C46 (a0 : Search_view) (a1 : Mind) (a2 : Int) : Option ((List Int) × Bool) :=
 (iterC (σ := (List Int × (List (List Edge)) × (List Int) × Int × Int × Int × List Search_gone)) (ρ := (List Int × (List (List Edge)) × (List Int) × Int × Int × Int × List Search_gone)) (fun s1 =>
 (((at? a0.distances s1.2.2.2.2.2.1).bind fun x45 =>
 if x45 != 0 then
 ((at? a0.edges s1.2.2.2.2.2.1).bind fun x46 =>
 if decide (0 < (x46.length : Int)) then
 (if decide ((s1.1.length : Int) < a2) then
 (some (Sum.inl ()))
 else
 (some (Sum.inr (Sum.inr (s1.1, s1.2.1, s1.2.2.1, s1.2.2.2.1, s1.2.2.2.2.1, s1.2.2.2.2.2.1, s1.2.2.2.2.2.2)))))
 else
 (some (Sum.inr (Sum.inr (s1.1, s1.2.1, s1.2.2.1, s1.2.2.2.1, s1.2.2.2.2.1, s1.2.2.2.2.2.1, s1.2.2.2.2.2.2)))))
 else
 (some (Sum.inr (Sum.inr (s1.1, s1.2.1, s1.2.2.1, s1.2.2.2.1, s1.2.2.2.2.1, s1.2.2.2.2.2.1, s1.2.2.2.2.2.2))))) : Option (Unit ⊕ _)).bind fun ov19 => onL ov19 fun v19 =>
 (C68 (⟨(⟨s1.2.1, s1.2.2.1⟩ : Search_view), (⟨s1.2.2.2.1, s1.2.2.2.2.1⟩ : Mind), s1.2.2.2.2.2.1, s1.2.2.2.2.2.2⟩ : Search_player)).bind fun x47 =>
 (push? s1.1 ([x47] : List Int)).bind fun x48 =>
 (C69 (⟨(⟨s1.2.1, s1.2.2.1⟩ : Search_view), (⟨s1.2.2.2.1, s1.2.2.2.2.1⟩ : Mind), s1.2.2.2.2.2.1, s1.2.2.2.2.2.2⟩ : Search_player) x47).bind fun x49 =>
 some (Sum.inl (x48, x49.view.edges, x49.view.distances, x49.Mind.Memory, x49.Mind.Turn, x49.at_, x49.memory))) ([], a0.edges, a0.distances, a1.Memory, a1.Turn, 0, [])).bind fun out1 =>
 (at? a0.distances out1.2.2.2.2.2.1).bind fun x50 =>
 some (out1.1, x50 == 0)
theorem oe_ (a0 : Search_view) (a1 : Mind) (a2 : Int) : Le (C46 a0 a1 a2) (F46 a0 a1 a2) := by
  unfold C46 F46
  repeat' first | with_reducible exact Le.refl _ | (with_reducible apply Le.bind) | (with_reducible apply Le.ite) | (with_reducible apply Le.onL) | (with_reducible apply Le.forS) | (with_reducible apply Le.forN) | (with_reducible apply Le.iterC) | (with_reducible apply C68_le) | (with_reducible apply C69_le) | intro
noncomputable def C18 (a0 : Graph) (a1 : (List Int)) (a2 : Mind) (a3 : Int) : Option ((List Int) × Bool × Int) :=
 (F45 a0 a1 a2 a3).bind fun x1 =>
 if x1.2 != 0 then
 (some (([] : List Int), false, x1.2))
 else
 ((C46 x1.1 a2 a3).bind fun x2 =>
 some (x2.1, x2.2, 0))
theorem C18_le (a0 : Graph) (a1 : (List Int)) (a2 : Mind) (a3 : Int) : Le (C18 a0 a1 a2 a3) (F18 a0 a1 a2 a3) := by
  unfold C18 F18
  repeat' first | with_reducible exact Le.refl _ | (with_reducible apply Le.bind) | (with_reducible apply Le.ite) | (with_reducible apply Le.onL) | (with_reducible apply Le.forS) | (with_reducible apply Le.forN) | (with_reducible apply Le.iterC) | (with_reducible apply oe_) | intro
noncomputable def C50 (a0 : Search_view) (a1 : Int) (a2 : Int) : Option ((List Int) × Bool) :=
 (F74 a0).bind fun x1 =>
 (cnt? x1).bind fun x8 =>
 (forN (σ := (List Int)) (fun i1 s1 =>
 (C46 a0 (⟨a1, (i1 : Int)⟩ : Mind) a2).bind fun x9 =>
 if !x9.2 then
 (some (Sum.inr (([] : List Int), false)))
 else
 ((push? s1 ([(x9.1.length : Int)] : List Int)).bind fun x10 =>
 some (Sum.inl x10))) x8 0 ([])).bind fun o2 => onL o2 fun out1 =>
 some (out1, true)
theorem C50_le (a0 : Search_view) (a1 : Int) (a2 : Int) : Le (C50 a0 a1 a2) (F50 a0 a1 a2) := by
  unfold C50 F50
  repeat' first | with_reducible exact Le.refl _ | (with_reducible apply Le.bind) | (with_reducible apply Le.ite) | (with_reducible apply Le.onL) | (with_reducible apply Le.forS) | (with_reducible apply Le.forN) | (with_reducible apply Le.iterC) | (with_reducible apply oe_) | intro
noncomputable def C54 (a0 : Int) (a1 : Int) : Option (Int) :=
 (iterC (σ := (Int × Int)) (ρ := (Int × Int)) (fun s1 =>
 if decide (0 < s1.2) then
 ((md s1.1 s1.2).bind fun x7 =>
 some (Sum.inl (s1.2, x7)))
 else
 (some (Sum.inr (s1.1, s1.2)))) (a0, a1)).bind fun out1 =>
 some out1.1
theorem C54_le (a0 : Int) (a1 : Int) : Le (C54 a0 a1) (F54 a0 a1) := by
  unfold C54 F54
  repeat' first | with_reducible exact Le.refl _ | (with_reducible apply Le.bind) | (with_reducible apply Le.ite) | (with_reducible apply Le.onL) | (with_reducible apply Le.forS) | (with_reducible apply Le.forN) | (with_reducible apply Le.iterC) | intro
noncomputable def C29 (a0 : Graph) (a1 : (List Int)) (a2 : Int) (a3 : Int) : Option (Int × Int × Int) :=
 (F45 a0 a1 (⟨a2, 0⟩ : Mind) a3).bind fun x1 =>
 if x1.2 != 0 then
 (some (0, 0, x1.2))
 else
 ((C50 x1.1 a2 a3).bind fun x2 =>
 if !x2.2 then
 (some (0, 0, 3))
 else
 ((forS (σ := (Int)) (fun i1 s1 =>
 (at? x2.1 (i1 : Int)).bind fun x6 =>
 some (w64 (s1 + x6))) x2.1.length 0 0).bind fun out1 =>
 (C54 out1 (x2.1.length : Int)).bind fun x7 =>
 (dv out1 x7).bind fun x8 =>
 (dv (x2.1.length : Int) x7).bind fun x9 =>
 some (x8, x9, 0)))
theorem C29_le (a0 : Graph) (a1 : (List Int)) (a2 : Int) (a3 : Int) : Le (C29 a0 a1 a2 a3) (F29 a0 a1 a2 a3) := by
  unfold C29 F29
  repeat' first | with_reducible exact Le.refl _ | (with_reducible apply Le.bind) | (with_reducible apply Le.ite) | (with_reducible apply Le.onL) | (with_reducible apply Le.forS) | (with_reducible apply Le.forN) | (with_reducible apply Le.iterC) | (with_reducible apply C50_le) | (with_reducible apply C54_le) | intro
noncomputable def C17  : Option (Bool) :=
 (C44).bind fun x1 =>
 (C18 x1.1 x1.2 (⟨10, 0⟩ : Mind) 100).bind fun x2 =>
 (C29 x1.1 x1.2 10 100).bind fun x3 =>
 if x2.2.2 == 0 then
 (if x3.2.2 == 0 then
 (if x2.2.1 then
 ((F20 x2.1 ([0, 0, 1, 0, 0, 1, 0] : List Int)).bind fun x4 =>
 if x4 then
 (if x3.1 == 8 then
 (some (x3.2.1 == 1))
 else
 (some false))
 else
 (some false))
 else
 (some false))
 else
 (some false))
 else
 (some false)
theorem C17_le  : Le (C17 ) (F17 ) := by
  unfold C17 F17
  repeat' first | with_reducible exact Le.refl _ | (with_reducible apply Le.bind) | (with_reducible apply Le.ite) | (with_reducible apply Le.onL) | (with_reducible apply Le.forS) | (with_reducible apply Le.forN) | (with_reducible apply Le.iterC) | (with_reducible apply C44_le) | (with_reducible apply C18_le) | (with_reducible apply C29_le) | intro
end Go.Proofs.Ytogfongmnkmegaa.Pad
