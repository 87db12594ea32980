/- A part of the proof: what the functions of the program compute, shown over the model. -/
import Derived.Test.YtogfongmnkmegaaSeaXP
import Derived.Test.YtogfongmnkmegaaPadS
import Derived.KernelRfl
set_option linter.unusedVariables false
namespace Go.Proofs.Ytogfongmnkmegaa.Pad
open Go Go.Proofs
theorem el26r : kx_ Try.prog Raw 26 24 (.slice none 0 0) (⟨.slice none 0 0⟩ : Raw) := ⟨_, (by kernel_rfl : Try.prog.info? 26 = some Try.t26), rfl, rfl, rfl, rfl, fun S => ⟨rfl, rfl⟩⟩
noncomputable def F5 (a0 : Graph) (a1 : (List Int)) (a2 : Int) : Option (Bool) :=
 (F15 a0).bind fun x7 =>
 if x7 then
 ((F17).bind fun x8 =>
 some x8)
 else
 ((F21 a0 a1).bind fun x9 =>
 if x9 != 0 then
 ((F17).bind fun x10 =>
 some x10)
 else
 (if decide (a2 < 0) then
 ((F17).bind fun x11 =>
 some x11)
 else
 (if decide (99 < a2) then
 ((F17).bind fun x12 =>
 some x12)
 else
 ((F22 a0).bind fun x13 =>
 (F18 a0 a1 (⟨200, a2⟩ : Mind) (ko_ (w64 (x13 * (a0.Positions.length : Int))) 2000)).bind fun x14 =>
 ((if x14.2.2 != 0 then
 (some (Sum.inr false))
 else
 (if !x14.2.1 then
 ((F23 a0 a1).bind fun x16 =>
 if !x16 then
 (some (Sum.inr false))
 else
 (some (Sum.inl ())))
 else
 (some (Sum.inl ())))) : Option (Unit ⊕ _)).bind fun ov1 => onL ov1 fun v1 =>
 (mk? (a0.Edges.length : Int) ([] : List Int)).bind fun x17 =>
 (bw_ (σ := (List (List Int) × Int)) (ρ := (List (List Int) × Int)) (fun s1 =>
 if decide (s1.2 < (s1.1.length : Int)) then
 ((at? a0.Edges s1.2).bind fun x36 =>
 (mk? (x36.length : Int) 0).bind fun x37 =>
 (at? s1.1 s1.2).bind fun x38 =>
 some (Sum.inl (s1.1.set (s1.2).toNat x37, w64 (s1.2 + 1))))
 else
 (some (Sum.inr (s1.1, s1.2)))) (x17, 0)).bind fun out1 =>
 (forN (σ := (List (List Int) × Int)) (fun i1 s8 =>
 (at? x14.1 (i1 : Int)).bind fun x167 =>
 if decide (x167 < 0) then
 (some (Sum.inr false))
 else
 ((at? a0.Edges s8.2).bind fun x168 =>
 if decide ((x168.length : Int) ≤ x167) then
 (some (Sum.inr false))
 else
 ((((at? s8.1 s8.2).bind fun x185 =>
 (at? x14.1 (i1 : Int)).bind fun x186 =>
 (at? x185 x186).bind fun x187 =>
 if decide (0 < x187) then
 ((bw_ (σ := (Int)) (ρ := (Int) ⊕ _) (fun s10 =>
 (at? s8.1 s8.2).bind fun x198 =>
 if decide (s10 < (x198.length : Int)) then
 ((at? s8.1 s8.2).bind fun x199 =>
 (at? x199 s10).bind fun x200 =>
 if x200 == 0 then
 (some (Sum.inr (Sum.inr (Sum.inr (Sum.inr false)))))
 else
 (some (Sum.inl (w64 (s10 + 1)))))
 else
 (some (Sum.inr (Sum.inl s10)))) 0).bind fun o19 => onL o19 fun out10 =>
 some (Sum.inl ()))
 else
 (some (Sum.inl ()))) : Option (Unit ⊕ _)).bind fun ov5 => onL ov5 fun v5 =>
 (at? s8.1 s8.2).bind fun x201 =>
 (at? x14.1 (i1 : Int)).bind fun x202 =>
 (at? x201 x202).bind fun x203 =>
 (at? a0.Edges s8.2).bind fun x204 =>
 (at? x14.1 (i1 : Int)).bind fun x205 =>
 (at? x204 x205).bind fun x206 =>
 some (Sum.inl (s8.1.set (s8.2).toNat (x201.set (x202).toNat (w64 (x203 + 1))), x206.To))))) x14.1.length 0 (out1.1, 0)).bind fun o15 => onL o15 fun out8 =>
 (F17).bind fun x207 =>
 some x207))))
end Go.Proofs.Ytogfongmnkmegaa.Pad
