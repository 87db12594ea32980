/- A part of the proof: what the functions of the program compute, shown over the model. -/
import Derived.Test.YtlpdpeghgndmkaaGreatHizT
import Derived.KernelRfl
set_option linter.unusedVariables false
namespace Go.Proofs.YtlpdpeghgndmkaaGreat.Pad
open Go Go.Proofs
noncomputable def cn_ (a0 : Int) (a1 : Int) (a2 : Int) : Option (Bool) :=
 if decide (a1 ≤ a0) then
 (some (decide (a0 ≤ a2)))
 else
 (some false)
noncomputable def cb_ (a0 : Int) (a1 : Int) (a2 : Int) : Option (Bool) :=
 if decide (a1 ≤ a0) then
 (some (decide (a0 ≤ a2)))
 else
 (some false)
noncomputable def ji_ (a0 : CodeLock) : Option (Int) :=
 (cb_ a0.Wheels 1 4).bind fun x1 =>
 if !x1 then
 (some 10)
 else
 ((cb_ a0.Symbols 2 10).bind fun x2 =>
 if !x2 then
 (some 10)
 else
 (some 0))
noncomputable def ic_ (a0 : CodeLock) (a1 : (List Int)) : Option (Bool) :=
 if (a1.length : Int) != a0.Wheels then
 (some false)
 else
 ((forN (σ := (Unit)) (fun i1 s1 =>
 (at? a1 (i1 : Int)).bind fun x7 =>
 (cb_ x7 0 (w64 (a0.Symbols - 1))).bind fun x8 =>
 if !x8 then
 (some (Sum.inr false))
 else
 (some (Sum.inl ()))) a1.length 0 ()).bind fun o2 => onL o2 fun out1 =>
 some true)
noncomputable def fg_ (a0 : CodeLock) (a1 : (List Int)) : Option (Int) :=
 (ji_ a0).bind fun x1 =>
 if x1 != 0 then
 (some x1)
 else
 ((ic_ a0 a1).bind fun x2 =>
 if !x2 then
 (some 12)
 else
 (some 0))
noncomputable def cy_ (a0 : (List Int)) (a1 : (List Int)) : Option (Bool) :=
 if (a0.length : Int) != (a1.length : Int) then
 (some false)
 else
 ((forN (σ := (Unit)) (fun i1 s1 =>
 (at? a0 (i1 : Int)).bind fun x7 =>
 (at? a1 (i1 : Int)).bind fun x8 =>
 if x7 != x8 then
 (some (Sum.inr false))
 else
 (some (Sum.inl ()))) a0.length 0 ()).bind fun o2 => onL o2 fun out1 =>
 some true)
noncomputable def cz_ (a0 : Clue) (a1 : Clue) : Option (Bool) :=
 if a0.Kind == a1.Kind then
 (if a0.A == a1.A then
 (if a0.B == a1.B then
 (if a0.N == a1.N then
 (if a0.M == a1.M then
 (if a0.Not == a1.Not then
 ((cy_ a0.Guess a1.Guess).bind fun x1 =>
 some x1)
 else
 (some false))
 else
 (some false))
 else
 (some false))
 else
 (some false))
 else
 (some false))
 else
 (some false)
noncomputable def jx_ (a0 : CodeLock) (a1 : Clue) : Option (Bool) :=
 (cb_ a1.A 0 (w64 (a0.Wheels - 1))).bind fun x1 =>
 (cb_ a1.B 0 (w64 (a0.Wheels - 1))).bind fun x2 =>
 if a1.Kind == 1 then
 (((if x1 then
 ((cb_ a1.N 0 (w64 (a0.Symbols - 1))).bind fun x4 =>
 some x4)
 else
 (some false)) : Option (Bool)).bind fun v1 =>
 if v1 then
 ((cz_ a1 (⟨a1.Kind, a1.A, 0, a1.N, 0, ([] : (List Int)), a1.Not⟩ : Clue)).bind fun x5 =>
 some x5)
 else
 (some false))
 else
 (if a1.Kind == 2 then
 (((if x1 then
 (if x2 then
 (if decide (a1.A ≤ a1.B) then
 ((cb_ a1.N 0 100).bind fun x7 =>
 some x7)
 else
 (some false))
 else
 (some false))
 else
 (some false)) : Option (Bool)).bind fun v2 =>
 if v2 then
 ((cz_ a1 (⟨a1.Kind, a1.A, a1.B, a1.N, 0, ([] : (List Int)), a1.Not⟩ : Clue)).bind fun x8 =>
 some x8)
 else
 (some false))
 else
 (((if a1.Kind == 3 then
 (some (a1.Kind == 3))
 else
 (some (a1.Kind == 4))) : Option (Bool)).bind fun v3 =>
 if v3 then
 (((if x1 then
 (if x2 then
 (some (a1.A != a1.B))
 else
 (some false))
 else
 (some false)) : Option (Bool)).bind fun v4 =>
 if v4 then
 ((cz_ a1 (⟨a1.Kind, a1.A, a1.B, 0, 0, ([] : (List Int)), a1.Not⟩ : Clue)).bind fun x9 =>
 some x9)
 else
 (some false))
 else
 (if a1.Kind == 5 then
 ((((cb_ a1.N 0 (w64 (a0.Symbols - 1))).bind fun x12 =>
 if x12 then
 ((cb_ a1.M 0 a0.Wheels).bind fun x13 =>
 some x13)
 else
 (some false)) : Option (Bool)).bind fun v5 =>
 if v5 then
 ((cz_ a1 (⟨a1.Kind, 0, 0, a1.N, a1.M, ([] : (List Int)), a1.Not⟩ : Clue)).bind fun x14 =>
 some x14)
 else
 (some false))
 else
 (if a1.Kind == 6 then
 ((((ic_ a0 a1.Guess).bind fun x18 =>
 if x18 then
 ((cb_ a1.N 0 a0.Wheels).bind fun x19 =>
 if x19 then
 ((cb_ a1.M 0 a0.Wheels).bind fun x20 =>
 some x20)
 else
 (some false))
 else
 (some false)) : Option (Bool)).bind fun v6 =>
 if v6 then
 ((cz_ a1 (⟨a1.Kind, 0, 0, a1.N, a1.M, a1.Guess, a1.Not⟩ : Clue)).bind fun x21 =>
 some x21)
 else
 (some false))
 else
 (if a1.Kind == 7 then
 (((if x1 then
 ((cb_ a1.N 2 10).bind fun x24 =>
 if x24 then
 ((cb_ a1.M 0 (w64 (a1.N - 1))).bind fun x25 =>
 some x25)
 else
 (some false))
 else
 (some false)) : Option (Bool)).bind fun v7 =>
 if v7 then
 ((cz_ a1 (⟨a1.Kind, a1.A, 0, a1.N, a1.M, ([] : (List Int)), a1.Not⟩ : Clue)).bind fun x26 =>
 some x26)
 else
 (some false))
 else
 (some false))))))
noncomputable def gl_ (a0 : CodeLock) (a1 : Clue) : Option (Int) :=
 (ji_ a0).bind fun x1 =>
 if x1 != 0 then
 (some x1)
 else
 ((jx_ a0 a1).bind fun x2 =>
 if !x2 then
 (some 11)
 else
 (some 0))
noncomputable def dw_ (a0 : (List Int)) (a1 : Int) : Option (Int) :=
 (forS (σ := (Int)) (fun i1 s1 =>
 (at? a0 (i1 : Int)).bind fun x4 =>
 if x4 == a1 then
 (some (w64 (s1 + 1)))
 else
 (some s1)) a0.length 0 0).bind fun out1 =>
 some out1
noncomputable def jy_ (a0 : (List Int)) (a1 : (List Int)) : Option (Int × Int) :=
 (forS (σ := (Int)) (fun i1 s1 =>
 (at? a0 (i1 : Int)).bind fun x7 =>
 (at? a1 (i1 : Int)).bind fun x8 =>
 if x7 == x8 then
 (some (w64 (s1 + 1)))
 else
 (some s1)) a0.length 0 0).bind fun out1 =>
 (cnt? 10).bind fun x15 =>
 (forS (σ := (Int)) (fun i2 s2 =>
 (dw_ a0 (i2 : Int)).bind fun x16 =>
 (dw_ a1 (i2 : Int)).bind fun x17 =>
 some (w64 (s2 + (tm_ x16 x17)))) x15 0 0).bind fun out2 =>
 some (out1, w64 (out2 - out1))
noncomputable def gu_ (a0 : Clue) (a1 : (List Int)) : Option (Bool) :=
 if a0.Kind == 1 then
 ((at? a1 a0.A).bind fun x1 =>
 some ((x1 == a0.N) != a0.Not))
 else
 (if a0.Kind == 2 then
 ((fo_ (σ := (Int × Int)) (ρ := (Int × Int)) (fun s1 =>
 if decide (s1.2 ≤ a0.B) then
 ((at? a1 s1.2).bind fun x8 =>
 some (Sum.inl (w64 (s1.1 + x8), w64 (s1.2 + 1))))
 else
 (some (Sum.inr (s1.1, s1.2)))) (0, a0.A)).bind fun out1 =>
 some ((out1.1 == a0.N) != a0.Not))
 else
 (if a0.Kind == 3 then
 ((at? a1 a0.A).bind fun x9 =>
 (at? a1 a0.B).bind fun x10 =>
 some ((decide (x9 < x10)) != a0.Not))
 else
 (if a0.Kind == 4 then
 ((at? a1 a0.A).bind fun x11 =>
 (at? a1 a0.B).bind fun x12 =>
 some ((x11 == x12) != a0.Not))
 else
 (if a0.Kind == 5 then
 ((dw_ a1 a0.N).bind fun x13 =>
 some ((x13 == a0.M) != a0.Not))
 else
 (if a0.Kind == 6 then
 ((jy_ a1 a0.Guess).bind fun x14 =>
 if x14.1 == a0.N then
 (some ((x14.2 == a0.M) != a0.Not))
 else
 (some (false != a0.Not)))
 else
 (if a0.Kind == 7 then
 ((at? a1 a0.A).bind fun x15 =>
 (md x15 a0.N).bind fun x16 =>
 some ((x16 == a0.M) != a0.Not))
 else
 (some (false != a0.Not))))))))
noncomputable def hx_ (a0 : CodeLock) (a1 : (List Int)) (a2 : Clue) : Option (Bool) :=
 (gl_ a0 a2).bind fun x1 =>
 if x1 == 0 then
 ((gu_ a2 a1).bind fun x2 =>
 some x2)
 else
 (some false)
noncomputable def jg_ (a0 : Riddle) : Option (Int) :=
 (cn_ (a0.Locks.length : Int) 1 8).bind fun x2 =>
 if !x2 then
 (some 70)
 else
 (if (a0.Codes.length : Int) != (a0.Locks.length : Int) then
 (some 70)
 else
 (if (a0.Known.length : Int) != (a0.Locks.length : Int) then
 (some 70)
 else
 (if decide (10 < (a0.Ties.length : Int)) then
 (some 70)
 else
 ((forN (σ := (Unit)) (fun i1 s4 =>
 (at? a0.Locks (i1 : Int)).bind fun x106 =>
 (at? a0.Codes (i1 : Int)).bind fun x107 =>
 (fg_ x106 x107).bind fun x108 =>
 if x108 != 0 then
 (some (Sum.inr 70))
 else
 ((at? a0.Known (i1 : Int)).bind fun x109 =>
 if decide (20 < (x109.length : Int)) then
 (some (Sum.inr 70))
 else
 ((fo_ (σ := (Int)) (ρ := (Int) ⊕ _) (fun s5 =>
 (at? a0.Known (i1 : Int)).bind fun x129 =>
 if decide (s5 < (x129.length : Int)) then
 ((at? a0.Locks (i1 : Int)).bind fun x130 =>
 (at? a0.Codes (i1 : Int)).bind fun x131 =>
 (at? a0.Known (i1 : Int)).bind fun x132 =>
 (at? x132 s5).bind fun x133 =>
 (hx_ x130 x131 x133).bind fun x134 =>
 if !x134 then
 (some (Sum.inr (Sum.inr (Sum.inr 70))))
 else
 (some (Sum.inl (w64 (s5 + 1)))))
 else
 (some (Sum.inr (Sum.inl s5)))) 0).bind fun o10 => onL o10 fun out5 =>
 some (Sum.inl ())))) a0.Locks.length 0 ()).bind fun o8 => onL o8 fun out4 =>
 (forN (σ := (Unit)) (fun i2 s7 =>
 (at? a0.Ties (i2 : Int)).bind fun x174 =>
 (cn_ x174.LockA 0 (w64 ((a0.Locks.length : Int) - 1))).bind fun x177 =>
 if !x177 then
 (some (Sum.inr 70))
 else
 ((cn_ x174.LockB 0 (w64 ((a0.Locks.length : Int) - 1))).bind fun x178 =>
 if !x178 then
 (some (Sum.inr 70))
 else
 (if x174.LockA == x174.LockB then
 (some (Sum.inr 70))
 else
 ((at? a0.Locks x174.LockA).bind fun x179 =>
 (cn_ x174.WheelA 0 (w64 (x179.Wheels - 1))).bind fun x180 =>
 if !x180 then
 (some (Sum.inr 70))
 else
 ((at? a0.Locks x174.LockB).bind fun x181 =>
 (cn_ x174.WheelB 0 (w64 (x181.Wheels - 1))).bind fun x182 =>
 if !x182 then
 (some (Sum.inr 70))
 else
 ((at? a0.Codes x174.LockA).bind fun x183 =>
 (at? x183 x174.WheelA).bind fun x184 =>
 (at? a0.Codes x174.LockB).bind fun x185 =>
 (at? x185 x174.WheelB).bind fun x186 =>
 if x184 != x186 then
 (some (Sum.inr 70))
 else
 (some (Sum.inl ())))))))) a0.Ties.length 0 ()).bind fun o12 => onL o12 fun out6 =>
 some 0))))
noncomputable def jh_ (a0 : (List Clue)) (a1 : (List Int)) : Option (Int) :=
 (forN (σ := (Unit)) (fun i1 s1 =>
 (at? a0 (i1 : Int)).bind fun x5 =>
 (gu_ x5 a1).bind fun x6 =>
 if !x6 then
 (some (Sum.inr (i1 : Int)))
 else
 (some (Sum.inl ()))) a0.length 0 ()).bind fun o2 => onL o2 fun out1 =>
 some (-1)
noncomputable def gm_ (a0 : CodeLock) (a1 : (List Clue)) : Option ((List (List Int))) :=
 (cnt? a0.Wheels).bind fun x1 =>
 (forS (σ := (Int)) (fun i1 s1 =>
 some (w64 (s1 * a0.Symbols))) x1 0 1).bind fun out1 =>
 (cnt? out1).bind fun x74 =>
 (forS (σ := (List (List Int))) (fun i2 s5 =>
 (mk? a0.Wheels 0).bind fun x75 =>
 (fo_ (σ := (List Int × Int × Int)) (ρ := (List Int × Int × Int)) (fun s6 =>
 if decide (0 ≤ s6.2.2) then
 ((md s6.2.1 a0.Symbols).bind fun x94 =>
 (at? s6.1 s6.2.2).bind fun x95 =>
 (dv s6.2.1 a0.Symbols).bind fun x96 =>
 some (Sum.inl (s6.1.set (s6.2.2).toNat x94, x96, w64 (s6.2.2 - 1))))
 else
 (some (Sum.inr (s6.1, s6.2.1, s6.2.2)))) (x75, (i2 : Int), w64 (a0.Wheels - 1))).bind fun out6 =>
 (jh_ a1 out6.1).bind fun x97 =>
 if decide (x97 < 0) then
 ((push? s5 ([out6.1] : List (List Int))).bind fun x98 =>
 some x98)
 else
 (some s5)) x74 0 ([])).bind fun out5 =>
 some out5
noncomputable def jk_ (a0 : Riddle) : Option (Bool) :=
 (jg_ a0).bind fun x1 =>
 if x1 != 0 then
 (some (decide (20 < (a0.Locks.length : Int))))
 else
 ((forN (σ := (Int)) (fun i1 s1 =>
 (at? a0.Locks (i1 : Int)).bind fun x11 =>
 (at? a0.Known (i1 : Int)).bind fun x12 =>
 (gm_ x11 x12).bind fun x13 =>
 if decide (200 < (w64 (s1 * (tm_ 201 (x13.length : Int))))) then
 (some (Sum.inr true))
 else
 (some (Sum.inl (w64 (s1 * (tm_ 201 (x13.length : Int))))))) a0.Locks.length 0 1).bind fun o2 => onL o2 fun out1 =>
 some false)
noncomputable def iw_  : Option (Riddle) :=
 some (⟨([(⟨2, 4⟩ : CodeLock), (⟨1, 4⟩ : CodeLock)] : List CodeLock), ([([3, 1] : List Int), ([1] : List Int)] : List (List Int)), ([([(⟨2, 0, 1, 4, 0, ([] : (List Int)), false⟩ : Clue)] : List Clue), ([] : (List Clue))] : List (List Clue)), ([(⟨0, 1, 1, 0⟩ : Tie)] : List Tie)⟩ : Riddle)
noncomputable def ec_ (a0 : Int) (a1 : Int) (a2 : Int) : Option (Bool) :=
 if decide (a1 ≤ a0) then
 (some (decide (a0 ≤ a2)))
 else
 (some false)
noncomputable def cu_ (a0 : Int) (a1 : Int) (a2 : Int) : Option (Bool) :=
 if decide (a1 ≤ a0) then
 (some (decide (a0 ≤ a2)))
 else
 (some false)
noncomputable def hz_ (a0 : CodeLock) : Option (Int) :=
 (cu_ a0.Wheels 1 4).bind fun x1 =>
 if !x1 then
 (some 10)
 else
 ((cu_ a0.Symbols 2 10).bind fun x2 =>
 if !x2 then
 (some 10)
 else
 (some 0))
noncomputable def dl_ (a0 : CodeLock) (a1 : Int) : Option (Bool) :=
 (cu_ a1 0 (w64 (a0.Symbols - 1))).bind fun x1 =>
 some x1
noncomputable def ha_ (a0 : Int) (a1 : CodeLock) : Option (Bool) :=
 (dl_ a1 a0).bind fun x1 =>
 some (!x1)
noncomputable def dc_ (a0 : (List Int)) (a1 : Int → Option Bool) : Option (Int) :=
 (forN (σ := (Unit)) (fun i1 s1 =>
 (at? a0 (i1 : Int)).bind fun x5 =>
 (a1 x5).bind fun x6 =>
 if x6 then
 (some (Sum.inr (i1 : Int)))
 else
 (some (Sum.inl ()))) a0.length 0 ()).bind fun o2 => onL o2 fun out1 =>
 some (-1)
noncomputable def dx_ (a0 : (List Int)) (a1 : Int → Option Bool) : Option (Bool) :=
 (dc_ a0 a1).bind fun x1 =>
 some (decide (0 ≤ x1))
noncomputable def fl_ (a0 : CodeLock) (a1 : (List Int)) : Option (Bool) :=
 if (a1.length : Int) == a0.Wheels then
 ((dx_ a1 (fun x0_ => ha_ x0_ (a0))).bind fun x1 =>
 some (!x1))
 else
 (some false)
noncomputable def ge_ (a0 : (List Int)) (a1 : CodeLock) : Option (Bool) :=
 (fl_ a1 a0).bind fun x1 =>
 some (!x1)
noncomputable def gh_ (a0 : (List (List Int))) (a1 : (List Int) → Option Bool) : Option (Int) :=
 (forN (σ := (Unit)) (fun i1 s1 =>
 (at? a0 (i1 : Int)).bind fun x5 =>
 (a1 x5).bind fun x6 =>
 if x6 then
 (some (Sum.inr (i1 : Int)))
 else
 (some (Sum.inl ()))) a0.length 0 ()).bind fun o2 => onL o2 fun out1 =>
 some (-1)
noncomputable def dt_ (a0 : (List (List Int))) (a1 : (List Int) → Option Bool) : Option (Bool) :=
 (gh_ a0 a1).bind fun x1 =>
 some (decide (0 ≤ x1))
noncomputable def ht_ (a0 : CodeLock) (a1 : (List (List Int))) : Option (Int) :=
 (hz_ a0).bind fun x1 =>
 if x1 != 0 then
 (some x1)
 else
 ((dt_ a1 (fun x0_ => ge_ x0_ (a0))).bind fun x2 =>
 if x2 then
 (some 12)
 else
 (some 0))
noncomputable def dr_ (a0 : CodeLock) (a1 : (List Int)) : Option (Int) :=
 (ht_ a0 ([a1] : List (List Int))).bind fun x1 =>
 some x1
noncomputable def ci_ (a0 : CodeLock) (a1 : Int) : Option (Bool) :=
 (cu_ a1 0 (w64 (a0.Wheels - 1))).bind fun x1 =>
 some x1
noncomputable def fm_ (a0 : CodeLock) (a1 : Clue) : Option (Bool) :=
 ((if a1.Kind == 1 then
 ((ci_ a0 a1.A).bind fun x16 =>
 if x16 then
 ((dl_ a0 a1.N).bind fun x17 =>
 some (a1.A, 0, a1.N, 0, ([] : (List Int)), x17))
 else
 (some (a1.A, 0, a1.N, 0, ([] : (List Int)), false)))
 else
 (if a1.Kind == 2 then
 ((ci_ a0 a1.A).bind fun x18 =>
 if x18 then
 ((ci_ a0 a1.B).bind fun x19 =>
 if x19 then
 (if decide (a1.A ≤ a1.B) then
 ((cu_ a1.N 0 100).bind fun x20 =>
 some (a1.A, a1.B, a1.N, 0, ([] : (List Int)), x20))
 else
 (some (a1.A, a1.B, a1.N, 0, ([] : (List Int)), false)))
 else
 (some (a1.A, a1.B, a1.N, 0, ([] : (List Int)), false)))
 else
 (some (a1.A, a1.B, a1.N, 0, ([] : (List Int)), false)))
 else
 (((if a1.Kind == 3 then
 (some (a1.Kind == 3))
 else
 (some (a1.Kind == 4))) : Option (Bool)).bind fun v3 =>
 if v3 then
 ((ci_ a0 a1.A).bind fun x21 =>
 if x21 then
 ((ci_ a0 a1.B).bind fun x22 =>
 if x22 then
 (some (a1.A, a1.B, 0, 0, ([] : (List Int)), a1.A != a1.B))
 else
 (some (a1.A, a1.B, 0, 0, ([] : (List Int)), false)))
 else
 (some (a1.A, a1.B, 0, 0, ([] : (List Int)), false)))
 else
 (if a1.Kind == 5 then
 ((dl_ a0 a1.N).bind fun x23 =>
 if x23 then
 ((cu_ a1.M 0 a0.Wheels).bind fun x24 =>
 some (0, 0, a1.N, a1.M, ([] : (List Int)), x24))
 else
 (some (0, 0, a1.N, a1.M, ([] : (List Int)), false)))
 else
 (if a1.Kind == 6 then
 ((cu_ a1.N 0 a0.Wheels).bind fun x25 =>
 if x25 then
 ((cu_ a1.M 0 a0.Wheels).bind fun x26 =>
 if x26 then
 ((fl_ a0 a1.Guess).bind fun x27 =>
 some (0, 0, a1.N, a1.M, a1.Guess, x27))
 else
 (some (0, 0, a1.N, a1.M, a1.Guess, false)))
 else
 (some (0, 0, a1.N, a1.M, a1.Guess, false)))
 else
 (if a1.Kind == 7 then
 ((ci_ a0 a1.A).bind fun x28 =>
 if x28 then
 ((cu_ a1.N 2 10).bind fun x29 =>
 if x29 then
 ((cu_ a1.M 0 (w64 (a1.N - 1))).bind fun x30 =>
 some (a1.A, 0, a1.N, a1.M, ([] : (List Int)), x30))
 else
 (some (a1.A, 0, a1.N, a1.M, ([] : (List Int)), false)))
 else
 (some (a1.A, 0, a1.N, a1.M, ([] : (List Int)), false)))
 else
 (some (0, 0, 0, 0, ([] : (List Int)), false)))))))) : Option (Int × Int × Int × Int × (List Int) × Bool)).bind fun v2 =>
 if v2.2.2.2.2.2 then
 (if a1.A == v2.1 then
 (if a1.B == v2.2.1 then
 (if a1.N == v2.2.2.1 then
 (if a1.M == v2.2.2.2.1 then
 (some ((a1.Guess.length : Int) == (v2.2.2.2.2.1.length : Int)))
 else
 (some false))
 else
 (some false))
 else
 (some false))
 else
 (some false))
 else
 (some false)
noncomputable def gs_ (a0 : CodeLock) (a1 : Clue) : Option (Int) :=
 (hz_ a0).bind fun x1 =>
 if x1 != 0 then
 (some x1)
 else
 ((fm_ a0 a1).bind fun x2 =>
 if !x2 then
 (some 11)
 else
 (some 0))
noncomputable def kb_ (a0 : (List Int)) (a1 : (List Int)) : Option (Int × Int) :=
 (forS (σ := (Int × List Int × List Int)) (fun i1 s1 =>
 (at? a0 (i1 : Int)).bind fun x25 =>
 (((at? a1 (i1 : Int)).bind fun x27 =>
 if x25 == x27 then
 (some (w64 (s1.1 + 1)))
 else
 (some s1.1)) : Option (Int)).bind fun v4 =>
 (at? s1.2.1 x25).bind fun x28 =>
 (at? s1.2.1 x25).bind fun x29 =>
 (at? a1 (i1 : Int)).bind fun x30 =>
 (at? s1.2.2 x30).bind fun x31 =>
 (at? s1.2.2 x30).bind fun x32 =>
 some (v4, s1.2.1.set (x25).toNat (w64 (x28 + 1)), s1.2.2.set (x30).toNat (w64 (x31 + 1)))) a0.length 0 (0, List.replicate 10 (0 : Int), List.replicate 10 (0 : Int))).bind fun out1 =>
 (cnt? 10).bind fun x39 =>
 (forS (σ := (Int)) (fun i2 s2 =>
 (at? out1.2.1 (i2 : Int)).bind fun x40 =>
 (at? out1.2.2 (i2 : Int)).bind fun x41 =>
 some (w64 (s2 + (tm_ x40 x41)))) x39 0 0).bind fun out2 =>
 some (out1.1, w64 (out2 - out1.1))
noncomputable def np_ (a0 : Clue) (a1 : (List Int)) : Option (Bool) :=
 if a0.Kind == 1 then
 ((at? a1 a0.A).bind fun x1 =>
 some (x1 == a0.N))
 else
 (if a0.Kind == 2 then
 ((sub? a1 a0.A (w64 (a0.B + 1))).bind fun x2 =>
 (forS (σ := (Int)) (fun i1 s1 =>
 (at? x2 (i1 : Int)).bind fun x6 =>
 some (w64 (s1 + x6))) x2.length 0 0).bind fun out1 =>
 some (out1 == a0.N))
 else
 (if a0.Kind == 3 then
 ((at? a1 a0.A).bind fun x7 =>
 (at? a1 a0.B).bind fun x8 =>
 some (decide (x7 < x8)))
 else
 (if a0.Kind == 4 then
 ((at? a1 a0.A).bind fun x9 =>
 (at? a1 a0.B).bind fun x10 =>
 some (x9 == x10))
 else
 (if a0.Kind == 5 then
 ((forS (σ := (Int)) (fun i2 s2 =>
 (at? a1 (i2 : Int)).bind fun x14 =>
 if x14 == a0.N then
 (some (w64 (s2 + 1)))
 else
 (some s2)) a1.length 0 0).bind fun out2 =>
 some (out2 == a0.M))
 else
 (if a0.Kind == 6 then
 ((kb_ a1 a0.Guess).bind fun x15 =>
 if x15.1 == a0.N then
 (some (x15.2 == a0.M))
 else
 (some false))
 else
 ((at? a1 a0.A).bind fun x16 =>
 (md x16 a0.N).bind fun x17 =>
 some (x17 == a0.M)))))))
noncomputable def gr_ (a0 : Clue) (a1 : (List Int)) : Option (Bool) :=
 (np_ a0 a1).bind fun x1 =>
 some (x1 != a0.Not)
noncomputable def lj_ (a0 : CodeLock) (a1 : Clue) (a2 : (List Int)) : Option (Bool × Int) :=
 (gs_ a0 a1).bind fun x1 =>
 if x1 != 0 then
 (some (false, x1))
 else
 ((dr_ a0 a2).bind fun x2 =>
 if x2 != 0 then
 (some (false, x2))
 else
 ((gr_ a1 a2).bind fun x3 =>
 some (x3, 0)))
noncomputable def kp_ (a0 : Riddle) (a1 : Int) (a2 : Clue) : Option (Bool) :=
 (at? a0.Locks a1).bind fun x1 =>
 (at? a0.Codes a1).bind fun x2 =>
 (lj_ x1 a2 x2).bind fun x3 =>
 if x3.2 == 0 then
 (some x3.1)
 else
 (some false)
noncomputable def iy_ (a0 : Clue) (a1 : Riddle) (a2 : Int) : Option (Bool) :=
 (kp_ a1 a2 a0).bind fun x1 =>
 some (!x1)
noncomputable def dm_ (a0 : (List Clue)) (a1 : Clue → Option Bool) : Option (Int) :=
 (forN (σ := (Unit)) (fun i1 s1 =>
 (at? a0 (i1 : Int)).bind fun x5 =>
 (a1 x5).bind fun x6 =>
 if x6 then
 (some (Sum.inr (i1 : Int)))
 else
 (some (Sum.inl ()))) a0.length 0 ()).bind fun o2 => onL o2 fun out1 =>
 some (-1)
noncomputable def cg_ (a0 : (List Clue)) (a1 : Clue → Option Bool) : Option (Bool) :=
 (dm_ a0 a1).bind fun x1 =>
 some (decide (0 ≤ x1))
noncomputable def ko_ (a0 : Riddle) (a1 : Tie) : Option (Bool) :=
 (ec_ a1.LockA 0 (w64 ((a0.Locks.length : Int) - 1))).bind fun x7 =>
 if !x7 then
 (some false)
 else
 ((ec_ a1.LockB 0 (w64 ((a0.Locks.length : Int) - 1))).bind fun x8 =>
 if !x8 then
 (some false)
 else
 (if a1.LockA == a1.LockB then
 (some false)
 else
 ((at? a0.Locks a1.LockA).bind fun x9 =>
 (ec_ a1.WheelA 0 (w64 (x9.Wheels - 1))).bind fun x10 =>
 if !x10 then
 (some false)
 else
 ((at? a0.Locks a1.LockB).bind fun x11 =>
 (ec_ a1.WheelB 0 (w64 (x11.Wheels - 1))).bind fun x12 =>
 if !x12 then
 (some false)
 else
 ((at? a0.Codes a1.LockA).bind fun x13 =>
 (at? x13 a1.WheelA).bind fun x14 =>
 (at? a0.Codes a1.LockB).bind fun x15 =>
 (at? x15 a1.WheelB).bind fun x16 =>
 some (x14 == x16))))))
noncomputable def ki_ (a0 : Tie) (a1 : Riddle) : Option (Bool) :=
 (ko_ a1 a0).bind fun x1 =>
 some (!x1)
noncomputable def hc_ (a0 : (List Tie)) (a1 : Tie → Option Bool) : Option (Int) :=
 (forN (σ := (Unit)) (fun i1 s1 =>
 (at? a0 (i1 : Int)).bind fun x5 =>
 (a1 x5).bind fun x6 =>
 if x6 then
 (some (Sum.inr (i1 : Int)))
 else
 (some (Sum.inl ()))) a0.length 0 ()).bind fun o2 => onL o2 fun out1 =>
 some (-1)
noncomputable def dy_ (a0 : (List Tie)) (a1 : Tie → Option Bool) : Option (Bool) :=
 (hc_ a0 a1).bind fun x1 =>
 some (decide (0 ≤ x1))
noncomputable def lf_ (a0 : Riddle) : Option (Int) :=
 (ec_ (a0.Locks.length : Int) 1 8).bind fun x2 =>
 if !x2 then
 (some 70)
 else
 (if (a0.Codes.length : Int) != (a0.Locks.length : Int) then
 (some 70)
 else
 (if (a0.Known.length : Int) != (a0.Locks.length : Int) then
 (some 70)
 else
 (if decide (10 < (a0.Ties.length : Int)) then
 (some 70)
 else
 ((forN (σ := (Unit)) (fun i1 s1 =>
 (at? a0.Locks (i1 : Int)).bind fun x30 =>
 (at? a0.Codes (i1 : Int)).bind fun x34 =>
 (dr_ x30 x34).bind fun x35 =>
 if x35 != 0 then
 (some (Sum.inr 70))
 else
 ((at? a0.Known (i1 : Int)).bind fun x36 =>
 if decide (20 < (x36.length : Int)) then
 (some (Sum.inr 70))
 else
 ((at? a0.Known (i1 : Int)).bind fun x37 =>
 (cg_ x37 (fun x0_ => iy_ x0_ (a0) ((i1 : Int)))).bind fun x38 =>
 if x38 then
 (some (Sum.inr 70))
 else
 (some (Sum.inl ()))))) a0.Locks.length 0 ()).bind fun o2 => onL o2 fun out1 =>
 (dy_ a0.Ties (fun x0_ => ki_ x0_ (a0))).bind fun x39 =>
 if x39 then
 (some 70)
 else
 (some 0)))))
noncomputable def gf_ (a0 : Clue) (a1 : CodeLock) : Option (Bool) :=
 (fm_ a1 a0).bind fun x1 =>
 some (!x1)
noncomputable def es_ (a0 : CodeLock) (a1 : (List Clue)) : Option (Int) :=
 (hz_ a0).bind fun x1 =>
 if x1 != 0 then
 (some x1)
 else
 (if decide (20 < (a1.length : Int)) then
 (some 2)
 else
 ((cg_ a1 (fun x0_ => gf_ x0_ (a0))).bind fun x2 =>
 if x2 then
 (some 11)
 else
 (some 0)))
noncomputable def du_ {σ_ τ_ : Type} (a0 : (List Int) → σ_ → Option (σ_ ⊕ τ_)) (a1 : CodeLock) (s_ : σ_) : Option ((σ_ ⊕ τ_)) :=
 (mk? a1.Wheels 0).bind fun x1 =>
 (fo_ (σ := (σ_ × List Int)) (ρ := (σ_ × List Int) ⊕ _) (fun s13 =>
 (a0 s13.2 s13.1).bind fun x104 =>
 sm x104 (fun s14 =>
 (fo_ (σ := (List Int × Int)) (ρ := (List Int × Int)) (fun s15 =>
 if decide (0 ≤ s15.2) then
 ((at? s15.1 s15.2).bind fun x117 =>
 if x117 == (w64 (a1.Symbols - 1)) then
 ((at? s15.1 s15.2).bind fun x118 =>
 some (Sum.inl (s15.1.set (s15.2).toNat 0, w64 (s15.2 - 1))))
 else
 (some (Sum.inr (s15.1, s15.2))))
 else
 (some (Sum.inr (s15.1, s15.2)))) (s13.2, w64 (a1.Wheels - 1))).bind fun out8 =>
 if decide (out8.2 < 0) then
 (some (Sum.inr (Sum.inr (Sum.inl s14))))
 else
 ((at? out8.1 out8.2).bind fun x119 =>
 (at? out8.1 out8.2).bind fun x120 =>
 some (Sum.inl (s14, out8.1.set (out8.2).toNat (w64 (x119 + 1)))))) fun q1687 =>
 some (Sum.inr (Sum.inr (Sum.inr q1687)))) (s_, x1)).bind fun o8 => onL o8 fun out7 =>
 some (Sum.inl out7.1)
noncomputable def hs_ (a0 : CodeLock) : Option ((CodeLock)) :=
 some a0
noncomputable def hb_ (a0 : Clue) (a1 : (List Int)) : Option (Bool) :=
 (gr_ a0 a1).bind fun x1 =>
 some (!x1)
noncomputable def jm_ (a0 : (List Clue)) (a1 : (List Int)) : Option (Int) :=
 (dm_ a0 (fun x0_ => hb_ x0_ (a1))).bind fun x1 =>
 some x1
noncomputable def cw_ {σ_ τ_ : Type} (a0 : (List Int) → σ_ → Option (σ_ ⊕ τ_)) (a1 : CodeLock) (a2 : (List Clue)) (s_ : σ_) : Option ((σ_ ⊕ τ_)) :=
 (hs_ a1).bind fun x1 =>
 (du_ (σ_ := (σ_)) (τ_ := ((σ_ ⊕ τ_))) (fun x8 s4 =>
 (jm_ a2 x8).bind fun x10 =>
 if decide (x10 < 0) then
 ((a0 x8 s4).bind fun x11 =>
 sm x11 (fun s6 =>
 some (Sum.inl s6)) fun q5 =>
 some (Sum.inr (Sum.inr q5)))
 else
 (some (Sum.inl s4))) x1 s_).bind fun o2 => sm o2 (fun s7 =>
 some (Sum.inl s7)) fun q6 =>
 some q6
noncomputable def ft_ (a0 : CodeLock) (a1 : (List Clue)) : Option ((CodeLock × (List Clue))) :=
 some (a0, a1)
noncomputable def hq_ (a0 : CodeLock) (a1 : (List Clue)) : Option (Int) :=
 (ft_ a0 a1).bind fun x1 =>
 (cw_ (σ_ := (Int)) (τ_ := (Empty)) (fun x2 s1 =>
 some (Sum.inl (w64 (s1 + 1)))) x1.1 x1.2 0).bind fun o2 => onE o2 fun s3 =>
 some s3
noncomputable def jn_ (a0 : CodeLock) (a1 : (List Clue)) : Option (Int × Int) :=
 (es_ a0 a1).bind fun x1 =>
 if x1 != 0 then
 (some (0, x1))
 else
 ((hq_ a0 a1).bind fun x2 =>
 some (x2, 0))
noncomputable def ne_ (a0 : CodeLock) (a1 : (List Clue)) (a2 : (List Int)) : Option (Int × Bool × Int) :=
 (es_ a0 a1).bind fun x1 =>
 if x1 != 0 then
 (some (0, false, x1))
 else
 ((dr_ a0 a2).bind fun x2 =>
 if x2 != 0 then
 (some (0, false, x2))
 else
 ((jm_ a1 a2).bind fun x3 =>
 some (x3, decide (x3 < 0), 0)))
def cq_ (a0 : List Int) : Option (List Int) := push? [] a0
noncomputable def de_ (n_ : Nat) (a0 : Int) (a1 : (List Int)) (a2 : CodeLock) (a3 : (List Clue)) (a4 : (List (List Int))) : Option ((List Int) × (List (List Int))) := match n_ with
 | 0 => none
 | n_ + 1 =>
 if a0 == (a1.length : Int) then
 ((ne_ a2 a3 a1).bind fun x1 =>
 if x1.2.1 then
 ((cq_ a1).bind fun x2 =>
 (push? a4 ([x2] : List (List Int))).bind fun x3 =>
 some (a1, x3))
 else
 (some (a1, a4)))
 else
 ((at? a1 a0).bind fun x4 =>
 (fo_ (σ := (List Int × List (List Int))) (ρ := (List Int × List (List Int))) (fun s1 =>
 (at? s1.1 a0).bind fun x29 =>
 if decide (x29 < a2.Symbols) then
 ((de_ n_ (w64 (a0 + 1)) s1.1 a2 a3 s1.2).bind fun x30 =>
 (at? x30.1 a0).bind fun x31 =>
 (at? x30.1 a0).bind fun x32 =>
 some (Sum.inl (x30.1.set (a0).toNat (w64 (x31 + 1)), x30.2)))
 else
 (some (Sum.inr (s1.1, s1.2)))) (a1.set (a0).toNat 0, a4)).bind fun out1 =>
 (at? out1.1 a0).bind fun x33 =>
 some (out1.1.set (a0).toNat 0, out1.2))
noncomputable def fy_ (a0 : CodeLock) (a1 : (List Clue)) : Option ((List (List Int))) :=
 (mk? a0.Wheels 0).bind fun x1 =>
 (de_ xy_ 0 x1 a0 a1 ([] : List (List Int))).bind fun x2 =>
 some x2.2
noncomputable def ev_ (a0 : Riddle) : Option ((ORef Hints_room) × Int) :=
 (lf_ a0).bind fun x1 =>
 if x1 != 0 then
 (some ((⟨none⟩ : ORef Hints_room), x1))
 else
 ((forN (σ := (Int)) (fun i1 s1 =>
 (at? a0.Locks (i1 : Int)).bind fun x11 =>
 (at? a0.Known (i1 : Int)).bind fun x12 =>
 (jn_ x11 x12).bind fun x13 =>
 if x13.2 != 0 then
 (some (Sum.inr ((⟨none⟩ : ORef Hints_room), x13.2)))
 else
 (if decide (20000 < (w64 (s1 * x13.1))) then
 (some (Sum.inr ((⟨none⟩ : ORef Hints_room), 2)))
 else
 (some (Sum.inl (w64 (s1 * x13.1)))))) a0.Locks.length 0 1).bind fun o2 => onL o2 fun out1 =>
 (forS (σ := (List (List (List Int)))) (fun i2 s3 =>
 (at? a0.Locks (i2 : Int)).bind fun x26 =>
 (at? a0.Known (i2 : Int)).bind fun x27 =>
 (fy_ x26 x27).bind fun x28 =>
 (push? s3 ([x28] : List (List (List Int)))).bind fun x29 =>
 some x29) a0.Locks.length 0 ([])).bind fun out2 =>
 some ((⟨some (⟨(⟨a0.Locks, a0.Codes, a0.Known, a0.Ties⟩ : Riddle), out2⟩ : Hints_room)⟩ : ORef Hints_room), 0))
noncomputable def cr_ (a0 : Int) (a1 : Int) (a2 : (PRef Hints_room)) (a3 : (List Int)) : Option (Int) :=
 (at? a2.v.allowed a0).bind fun x1 =>
 (at? a3 a0).bind fun x2 =>
 (at? x1 x2).bind fun x3 =>
 (at? x3 a1).bind fun x4 =>
 some x4
noncomputable def cc_ {σ_ τ_ : Type} (n_ : Nat) (a0 : Int) (a1 : (List Int)) (a2 : (PRef Hints_room)) (a4 : (List Int) → σ_ → Option (σ_ ⊕ τ_)) (s_ : σ_) : Option ((List Int) × (σ_ ⊕ τ_)) := match n_ with
 | 0 => none
 | n_ + 1 =>
 if a0 == (a1.length : Int) then
 ((forN (σ := (Unit)) (fun i1 s1 =>
 (at? a2.v.Riddle.Ties (i1 : Int)).bind fun x10 =>
 (cr_ x10.LockA x10.WheelA a2 a1).bind fun x11 =>
 (cr_ x10.LockB x10.WheelB a2 a1).bind fun x12 =>
 if x11 != x12 then
 (some (Sum.inr (a1, (Sum.inl s_))))
 else
 (some (Sum.inl ()))) a2.v.Riddle.Ties.length 0 ()).bind fun o2 => onL o2 fun out1 =>
 (a4 a1 s_).bind fun x13 =>
 some (a1, x13))
 else
 ((at? a2.v.allowed a0).bind fun x14 =>
 (forN (σ := (σ_ × List Int)) (fun i2 s6 =>
 (at? s6.2 a0).bind fun x27 =>
 (cc_ n_ (w64 (a0 + 1)) (s6.2.set (a0).toNat (i2 : Int)) a2 a4 s6.1).bind fun x28 =>
 jn2 x28 fun x29 x30 =>
 sm x30 (fun s7 =>
 some (Sum.inl (s7, x29))) fun q56 =>
 some (Sum.inr (x29, (Sum.inr q56)))) x14.length 0 (s_, a1)).bind fun o4 => onL o4 fun out2 =>
 some (out2.2, (Sum.inl out2.1)))
noncomputable def ct_ {σ_ τ_ : Type} (a0 : Hints_room) (a1 : (List Int) → σ_ → Option (σ_ ⊕ τ_)) (s_ : σ_) : Option ((σ_ ⊕ τ_)) :=
 (mk? (((((⟨a0⟩ : PRef Hints_room).v).Riddle).Locks).length : Int) 0).bind fun x1 =>
 (cc_ xy_ 0 x1 (⟨a0⟩ : PRef Hints_room) a1 s_).bind fun x2 =>
 jn2 x2 fun x3 x4 =>
 some x4
noncomputable def ii_ (a0 : Riddle) : Option (Int × Int) :=
 (ev_ a0).bind fun x1 =>
 if x1.2 != 0 then
 (some (0, x1.2))
 else
 ((x1.1.o).bind fun x2 =>
 (ct_ (σ_ := (Int)) (τ_ := (Empty)) x2 (fun x3 s1 =>
 some (Sum.inl (w64 (s1 + 1)))) 0).bind fun o2 => onE o2 fun s3 =>
 some (s3, 0))
noncomputable def jl_ (a0 : Riddle) (a1 : Aid) : Option (Bool) :=
 (ec_ a1.Lock 0 (w64 ((a0.Locks.length : Int) - 1))).bind fun x1 =>
 if x1 then
 ((kp_ a0 a1.Lock a1.Clue).bind fun x2 =>
 some x2)
 else
 (some false)
noncomputable def nb_ (a0 : Riddle) (a1 : Int) : Option (Bool) :=
 (at? a0.Known a1).bind fun x1 =>
 some ((x1.length : Int) == 20)
def et_ (a0 : List CodeLock) : Option (List CodeLock) := push? [] a0
def hk_ (a0 : List Tie) : Option (List Tie) := push? [] a0
noncomputable def dp_ (a0 : Clue) : Option (Clue) :=
 (cq_ a0.Guess).bind fun x1 =>
 some (⟨a0.Kind, a0.A, a0.B, a0.N, a0.M, x1, a0.Not⟩ : Clue)
noncomputable def le_ (a0 : Riddle) : Option (Riddle) :=
 (et_ a0.Locks).bind fun x1 =>
 (hk_ a0.Ties).bind fun x2 =>
 (forS (σ := (List (List Int) × List (List Clue))) (fun i4 s4 =>
 (at? a0.Codes (i4 : Int)).bind fun x54 =>
 (cq_ x54).bind fun x55 =>
 (push? s4.1 ([x55] : List (List Int))).bind fun x56 =>
 (at? a0.Known (i4 : Int)).bind fun x57 =>
 (forS (σ := (List Clue)) (fun i5 s5 =>
 (at? x57 (i5 : Int)).bind fun x67 =>
 (dp_ x67).bind fun x68 =>
 (push? s5 ([x68] : List Clue)).bind fun x69 =>
 some x69) x57.length 0 ([])).bind fun out5 =>
 (push? s4.2 [out5]).bind fun x70 =>
 some (x56, x70)) a0.Locks.length 0 ([], [])).bind fun out4 =>
 some (⟨x1, out4.1, out4.2, x2⟩ : Riddle)
noncomputable def mz_ (a0 : Riddle) (a1 : Aid) : Option (Riddle) :=
 (le_ a0).bind fun x1 =>
 (at? x1.Known a1.Lock).bind fun x2 =>
 (dp_ a1.Clue).bind fun x3 =>
 (push? x2 ([x3] : List Clue)).bind fun x4 =>
 some (⟨x1.Locks, x1.Codes, x1.Known.set (a1.Lock).toNat x4, x1.Ties⟩ : Riddle)
noncomputable def ig_ (a0 : Riddle) (a1 : Aid) : Option ((ORef Hints_room) × (ORef Hints_room) × Int) :=
 (ev_ a0).bind fun x1 =>
 if x1.2 != 0 then
 (some ((⟨none⟩ : ORef Hints_room), (⟨none⟩ : ORef Hints_room), x1.2))
 else
 ((jl_ a0 a1).bind fun x2 =>
 if !x2 then
 (some ((⟨none⟩ : ORef Hints_room), (⟨none⟩ : ORef Hints_room), 70))
 else
 ((nb_ a0 a1.Lock).bind fun x3 =>
 if x3 then
 (some ((⟨none⟩ : ORef Hints_room), (⟨none⟩ : ORef Hints_room), 2))
 else
 ((mz_ a0 a1).bind fun x4 =>
 (ev_ x4).bind fun x5 =>
 some (x1.1, x5.1, x5.2))))
noncomputable def ej_ (a0 : Hints_room) : Option ((List (List (List Int)))) :=
 (mk? (a0.Riddle.Locks.length : Int) ([] : List Bool)).bind fun x1 =>
 (forS (σ := (List (List Bool))) (fun i1 s1 =>
 (at? a0.allowed (i1 : Int)).bind fun x11 =>
 (mk? (x11.length : Int) false).bind fun x12 =>
 (at? s1 (i1 : Int)).bind fun x13 =>
 some (s1.set ((i1 : Int)).toNat x12)) a0.allowed.length 0 x1).bind fun out1 =>
 (ct_ (σ_ := (List (List Bool))) (τ_ := (Empty)) a0 (fun x50 s5 =>
 (forS (σ := (List (List Bool))) (fun i5 s7 =>
 (at? x50 (i5 : Int)).bind fun x61 =>
 (at? s7 (i5 : Int)).bind fun x62 =>
 (at? x62 x61).bind fun x63 =>
 some (s7.set ((i5 : Int)).toNat (x62.set (x61).toNat true))) x50.length 0 s5).bind fun out5 =>
 some (Sum.inl out5)) out1).bind fun o6 => onE o6 fun s8 =>
 (mk? (a0.Riddle.Locks.length : Int) ([] : List (List Int))).bind fun x64 =>
 (forS (σ := (List (List (List Int)))) (fun i9 s12 =>
 (at? a0.allowed (i9 : Int)).bind fun x140 =>
 (forS (σ := (List (List (List Int)))) (fun i10 s13 =>
 (at? x140 (i10 : Int)).bind fun x159 =>
 (at? s8 (i9 : Int)).bind fun x160 =>
 (at? x160 (i10 : Int)).bind fun x161 =>
 if x161 then
 ((at? s13 (i9 : Int)).bind fun x162 =>
 (push? x162 ([x159] : List (List Int))).bind fun x163 =>
 (at? s13 (i9 : Int)).bind fun x164 =>
 some (s13.set ((i9 : Int)).toNat x163))
 else
 (some s13)) x140.length 0 s12).bind fun out10 =>
 some out10) a0.allowed.length 0 x64).bind fun out9 =>
 some out9
noncomputable def dj_ (a0 : Hints_room) : Option ((List Int)) :=
 (ej_ a0).bind fun x1 =>
 (forS (σ := (List Int)) (fun i1 s1 =>
 (at? x1 (i1 : Int)).bind fun x8 =>
 (push? s1 ([(x8.length : Int)] : List Int)).bind fun x9 =>
 some x9) x1.length 0 ([])).bind fun out1 =>
 some out1
noncomputable def er_ (a0 : Hints_room) (a1 : Hints_room) : Option ((List Int)) :=
 (dj_ a1).bind fun x1 =>
 (dj_ a0).bind fun x2 =>
 (forS (σ := (List Int)) (fun i1 s1 =>
 (at? x2 (i1 : Int)).bind fun x12 =>
 (at? x1 (i1 : Int)).bind fun x13 =>
 if decide (x13 < x12) then
 ((push? s1 ([(i1 : Int)] : List Int)).bind fun x14 =>
 some x14)
 else
 (some s1)) x2.length 0 ([])).bind fun out1 =>
 some out1
noncomputable def jp_ (a0 : Int) (a1 : Aid) : Option (Bool) :=
 some (a0 == a1.Lock)
noncomputable def dn_ (a0 : (List Int)) (a1 : Int → Option Bool) : Option ((List Int)) :=
 (dc_ a0 a1).bind fun x1 =>
 if x1 == (-1) then
 (some a0)
 else
 ((fo_ (σ := (List Int × Int × Int)) (ρ := (List Int × Int × Int)) (fun s1 =>
 if decide (s1.2.2 < (s1.1.length : Int)) then
 ((at? s1.1 s1.2.2).bind fun x20 =>
 (a1 x20).bind fun x21 =>
 if !x21 then
 ((at? s1.1 s1.2.1).bind fun x22 =>
 some (Sum.inl (s1.1.set (s1.2.1).toNat x20, w64 (s1.2.1 + 1), w64 (s1.2.2 + 1))))
 else
 (some (Sum.inl (s1.1, s1.2.1, w64 (s1.2.2 + 1)))))
 else
 (some (Sum.inr (s1.1, s1.2.1, s1.2.2)))) (a0, x1, w64 (x1 + 1))).bind fun out1 =>
 (sub? out1.1 out1.2.1 (out1.1.length : Int)).bind fun x23 =>
 (sub? (out1.1.take (out1.2.1).toNat ++ List.replicate (out1.1.length - (out1.2.1).toNat) 0) 0 out1.2.1).bind fun x24 =>
 some x24)
noncomputable def gp_ (a0 : Riddle) (a1 : Aid) : Option ((List Int) × Int) :=
 (ig_ a0 a1).bind fun x1 =>
 if x1.2.2 != 0 then
 (some (([] : List Int), x1.2.2))
 else
 ((x1.1.o).bind fun x2 =>
 (x1.2.1.o).bind fun x3 =>
 (er_ x2 x3).bind fun x4 =>
 (dn_ x4 (fun x0_ => jp_ x0_ (a1))).bind fun x5 =>
 some (x5, 0))
noncomputable def fs_  : Option (Bool) :=
 (iw_).bind fun x1 =>
 (ii_ x1).bind fun x2 =>
 (iw_).bind fun x3 =>
 (gp_ x3 (⟨0, (⟨1, 0, 0, 3, 0, ([] : (List Int)), false⟩ : Clue)⟩ : Aid)).bind fun x4 =>
 if x2.2 == 0 then
 (if x4.2 == 0 then
 (if x2.1 == 3 then
 ((cy_ x4.1 ([1] : List Int)).bind fun x5 =>
 some x5)
 else
 (some false))
 else
 (some false))
 else
 (some false)
noncomputable def ip_ (a0 : Riddle) : Option (Int) :=
 (jg_ a0).bind fun x1 =>
 if x1 != 0 then
 (some x1)
 else
 ((forN (σ := (Int)) (fun i1 s1 =>
 (at? a0.Locks (i1 : Int)).bind fun x11 =>
 (at? a0.Known (i1 : Int)).bind fun x12 =>
 (gm_ x11 x12).bind fun x13 =>
 if decide (20000 < (w64 (s1 * (x13.length : Int)))) then
 (some (Sum.inr 2))
 else
 (some (Sum.inl (w64 (s1 * (x13.length : Int)))))) a0.Locks.length 0 1).bind fun o2 => onL o2 fun out1 =>
 some 0)
noncomputable def kw_ (a0 : Riddle) (a1 : Aid) : Option (Bool) :=
 (cn_ a1.Lock 0 (w64 ((a0.Locks.length : Int) - 1))).bind fun x1 =>
 if x1 then
 ((at? a0.Locks a1.Lock).bind fun x2 =>
 (at? a0.Codes a1.Lock).bind fun x3 =>
 (hx_ x2 x3 a1.Clue).bind fun x4 =>
 some x4)
 else
 (some false)
noncomputable def mu_ (a0 : Riddle) (a1 : Int) : Option (Bool) :=
 (at? a0.Known a1).bind fun x1 =>
 some (decide (20 ≤ (x1.length : Int)))
noncomputable def eg_ (a0 : (List Clue)) : Option ((List Clue)) :=
 (forS (σ := (List Clue)) (fun i1 s1 =>
 (at? a0 (i1 : Int)).bind fun x10 =>
 (push? ([] : List Int) x10.Guess).bind fun x11 =>
 (push? s1 ([(⟨x10.Kind, x10.A, x10.B, x10.N, x10.M, x11, x10.Not⟩ : Clue)] : List Clue)).bind fun x12 =>
 some x12) a0.length 0 ([])).bind fun out1 =>
 some out1
noncomputable def mv_ (a0 : Riddle) : Option (Riddle) :=
 (push? ([] : List CodeLock) a0.Locks).bind fun x1 =>
 (push? ([] : List Tie) a0.Ties).bind fun x2 =>
 (forS (σ := (List (List Int))) (fun i1 s1 =>
 (at? a0.Codes (i1 : Int)).bind fun x12 =>
 (push? ([] : List Int) x12).bind fun x13 =>
 (push? s1 ([x13] : List (List Int))).bind fun x14 =>
 some x14) a0.Codes.length 0 ([])).bind fun out1 =>
 (forS (σ := (List (List Clue))) (fun i2 s2 =>
 (at? a0.Known (i2 : Int)).bind fun x24 =>
 (eg_ x24).bind fun x25 =>
 (push? s2 [x25]).bind fun x26 =>
 some x26) a0.Known.length 0 ([])).bind fun out2 =>
 some (⟨x1, out1, out2, x2⟩ : Riddle)
noncomputable def ib_ (a0 : Riddle) (a1 : Aid) : Option (Riddle) :=
 (mv_ a0).bind fun x1 =>
 (at? x1.Known a1.Lock).bind fun x2 =>
 (eg_ ([a1.Clue] : List Clue)).bind fun x3 =>
 (push? x2 x3).bind fun x4 =>
 some (⟨x1.Locks, x1.Codes, x1.Known.set (a1.Lock).toNat x4, x1.Ties⟩ : Riddle)
noncomputable def mt_ (a0 : Riddle) (a1 : (List (List Int))) : Option (Bool) :=
 (forN (σ := (Unit)) (fun i1 s1 =>
 (at? a0.Ties (i1 : Int)).bind fun x16 =>
 (at? a1 x16.LockA).bind fun x17 =>
 (at? x17 x16.WheelA).bind fun x18 =>
 (at? a1 x16.LockB).bind fun x19 =>
 (at? x19 x16.WheelB).bind fun x20 =>
 if x18 != x20 then
 (some (Sum.inr false))
 else
 (some (Sum.inl ()))) a0.Ties.length 0 ()).bind fun o2 => onL o2 fun out1 =>
 some true
noncomputable def fp_ (n_ : Nat) (a0 : Riddle) (a1 : (List (List (List Int)))) (a2 : (List (List Int))) : Option ((List (List (List Int)))) := match n_ with
 | 0 => none
 | n_ + 1 =>
 if (a2.length : Int) == (a1.length : Int) then
 ((mt_ a0 a2).bind fun x1 =>
 if !x1 then
 (some ([] : List (List (List Int))))
 else
 (some ([a2] : List (List (List Int)))))
 else
 ((at? a1 (a2.length : Int)).bind fun x2 =>
 (forS (σ := (List (List (List Int)))) (fun i1 s1 =>
 (push? ([] : List (List Int)) a2).bind fun x18 =>
 (at? x2 (i1 : Int)).bind fun x19 =>
 (push? x18 ([x19] : List (List Int))).bind fun x20 =>
 (fp_ n_ a0 a1 x20).bind fun x21 =>
 (push? s1 x21).bind fun x22 =>
 some x22) x2.length 0 ([])).bind fun out1 =>
 some out1)
noncomputable def oa_ (a0 : Riddle) : Option ((List (List (List Int)))) :=
 (forS (σ := (List (List (List Int)))) (fun i1 s1 =>
 (at? a0.Locks (i1 : Int)).bind fun x13 =>
 (at? a0.Known (i1 : Int)).bind fun x14 =>
 (gm_ x13 x14).bind fun x15 =>
 (push? s1 ([x15] : List (List (List Int)))).bind fun x16 =>
 some x16) a0.Locks.length 0 ([])).bind fun out1 =>
 (fp_ xy_ a0 out1 ([] : (List (List Int)))).bind fun x17 =>
 some x17
noncomputable def fx_ (a0 : Riddle) (a1 : (List (List (List Int)))) (a2 : Int) : Option ((List (List Int))) :=
 (at? a0.Locks a2).bind fun x1 =>
 (at? a0.Known a2).bind fun x2 =>
 (gm_ x1 x2).bind fun x3 =>
 (forS (σ := (List (List Int))) (fun i4 s4 =>
 (forS (σ := (Bool)) (fun i5 s5 =>
 if s5 then
 (some true)
 else
 ((at? a1 (i5 : Int)).bind fun x70 =>
 (at? x70 a2).bind fun x71 =>
 (at? x3 (i4 : Int)).bind fun x72 =>
 (cy_ x71 x72).bind fun x73 =>
 some x73)) a1.length 0 false).bind fun out5 =>
 if out5 then
 ((at? x3 (i4 : Int)).bind fun x74 =>
 (push? s4 ([x74] : List (List Int))).bind fun x75 =>
 some x75)
 else
 (some s4)) x3.length 0 ([])).bind fun out4 =>
 some out4
noncomputable def ea_ (a0 : Riddle) : Option ((List Int)) :=
 (oa_ a0).bind fun x1 =>
 (forS (σ := (List Int)) (fun i1 s1 =>
 (fx_ a0 x1 (i1 : Int)).bind fun x8 =>
 (push? s1 ([(x8.length : Int)] : List Int)).bind fun x9 =>
 some x9) a0.Locks.length 0 ([])).bind fun out1 =>
 some out1
noncomputable def ju_ (a0 : Riddle) (a1 : Aid) : Option ((List Int)) :=
 (ea_ a0).bind fun x1 =>
 (ib_ a0 a1).bind fun x2 =>
 (ea_ x2).bind fun x3 =>
 (forS (σ := (List Int)) (fun i1 s1 =>
 ((if (i1 : Int) != a1.Lock then
 ((at? x3 (i1 : Int)).bind fun x21 =>
 (at? x1 (i1 : Int)).bind fun x22 =>
 some (decide (x21 < x22)))
 else
 (some false)) : Option (Bool)).bind fun v4 =>
 if v4 then
 ((push? s1 ([(i1 : Int)] : List Int)).bind fun x23 =>
 some x23)
 else
 (some s1)) x1.length 0 ([])).bind fun out1 =>
 some out1
noncomputable def gz_ (a0 : Aid) (a1 : Riddle) : Option (Bool) :=
 (jl_ a1 a0).bind fun x1 =>
 some (!x1)
noncomputable def hd_ (a0 : (List Aid)) (a1 : Aid → Option Bool) : Option (Int) :=
 (forN (σ := (Unit)) (fun i1 s1 =>
 (at? a0 (i1 : Int)).bind fun x5 =>
 (a1 x5).bind fun x6 =>
 if x6 then
 (some (Sum.inr (i1 : Int)))
 else
 (some (Sum.inl ()))) a0.length 0 ()).bind fun o2 => onL o2 fun out1 =>
 some (-1)
noncomputable def dz_ (a0 : (List Aid)) (a1 : Aid → Option Bool) : Option (Bool) :=
 (hd_ a0 a1).bind fun x1 =>
 some (decide (0 ≤ x1))
noncomputable def go_ (a0 : Riddle) (a1 : (List Aid)) : Option (Int) :=
 (ev_ a0).bind fun x1 =>
 if x1.2 != 0 then
 (some x1.2)
 else
 (if decide (20 < (a1.length : Int)) then
 (some 2)
 else
 ((dz_ a1 (fun x0_ => gz_ x0_ (a0))).bind fun x2 =>
 if x2 then
 (some 70)
 else
 (some 0)))
noncomputable def hj_ (a0 : (List Int)) (a1 : (List Int)) : Option (Bool) :=
 if (a0.length : Int) != (a1.length : Int) then
 (some false)
 else
 ((forN (σ := (Unit)) (fun i1 s1 =>
 (at? a0 (i1 : Int)).bind fun x7 =>
 (at? a1 (i1 : Int)).bind fun x8 =>
 if x7 != x8 then
 (some (Sum.inr false))
 else
 (some (Sum.inl ()))) a0.length 0 ()).bind fun o2 => onL o2 fun out1 =>
 some true)
noncomputable def ih_ (a0 : Riddle) (a1 : Aid) : Option (Int × Bool) :=
 (ig_ a0 a1).bind fun x1 =>
 if x1.2.2 != 0 then
 (some (0, false))
 else
 ((x1.1.o).bind fun x6 =>
 (x1.2.1.o).bind fun x7 =>
 (er_ x6 x7).bind fun x8 =>
 (hj_ x8 ([a1.Lock] : List Int)).bind fun x9 =>
 if !x9 then
 (some (0, false))
 else
 ((x1.2.1.o).bind fun x10 =>
 (dj_ x10).bind fun x11 =>
 (at? x11 a1.Lock).bind fun x12 =>
 some (x12, true)))
noncomputable def gk_ (a0 : Riddle) (a1 : (List Aid)) : Option (Int) :=
 (ip_ a0).bind fun x1 =>
 if x1 != 0 then
 (some x1)
 else
 (if decide (20 < (a1.length : Int)) then
 (some 2)
 else
 ((forN (σ := (Unit)) (fun i1 s1 =>
 (at? a1 (i1 : Int)).bind fun x8 =>
 (kw_ a0 x8).bind fun x9 =>
 if !x9 then
 (some (Sum.inr 70))
 else
 (some (Sum.inl ()))) a1.length 0 ()).bind fun o2 => onL o2 fun out1 =>
 some 0))
noncomputable def kx_ (a0 : Riddle) (a1 : Aid) : Option (Bool) :=
 (mu_ a0 a1.Lock).bind fun x1 =>
 if !x1 then
 ((ib_ a0 a1).bind fun x2 =>
 (ea_ x2).bind fun x3 =>
 (at? x3 a1.Lock).bind fun x4 =>
 (ea_ a0).bind fun x5 =>
 (at? x5 a1.Lock).bind fun x6 =>
 if decide (x4 < x6) then
 ((ju_ a0 a1).bind fun x7 =>
 some ((x7.length : Int) == 0))
 else
 (some false))
 else
 (some false)
noncomputable def fi_ (a0 : Riddle) (a1 : (List Aid)) (a2 : Int) : Option (Int) :=
 (go_ a0 a1).bind fun x1 =>
 if x1 != 0 then
 (some x1)
 else
 ((ec_ a2 0 (w64 ((a0.Locks.length : Int) - 1))).bind fun x2 =>
 if !x2 then
 (some 1)
 else
 (some 0))
noncomputable def dq_ {σ_ τ_ : Type} (a0 : (Int × Int) → σ_ → Option (σ_ ⊕ τ_)) (a1 : (List Aid)) (a2 : Int) (a3 : Riddle) (s_ : σ_) : Option ((σ_ ⊕ τ_)) :=
 (forN (σ := (σ_)) (fun i1 s4 =>
 (at? a1 (i1 : Int)).bind fun x10 =>
 if x10.Lock != a2 then
 (some (Sum.inl s4))
 else
 ((ih_ a3 x10).bind fun x11 =>
 if x11.2 then
 ((a0 ((i1 : Int), x11.1) s4).bind fun x12 =>
 sm x12 (fun s5 =>
 some (Sum.inl s5)) fun q4 =>
 some (Sum.inr (Sum.inr q4)))
 else
 (some (Sum.inl s4)))) a1.length 0 s_).bind fun o2 => onL o2 fun out1 =>
 some (Sum.inl out1)
noncomputable def gy_ (a0 : Riddle) (a1 : (List Aid)) (a2 : Int) : Option (((List Aid) × Int × Riddle)) :=
 some (a1, a2, a0)
noncomputable def na_ (a0 : Riddle) (a1 : (List Aid)) (a2 : Int) (a3 : Int → Int → Option Bool) : Option (Int) :=
 (gy_ a0 a1 a2).bind fun x1 =>
 (dq_ (σ_ := (Int × Int)) (τ_ := (Empty)) (fun x5 s1 =>
 if decide (s1.1 < 0) then
 (some (Sum.inl (x5.1, x5.2)))
 else
 ((a3 x5.2 s1.2).bind fun x7 =>
 if x7 then
 (some (Sum.inl (x5.1, x5.2)))
 else
 (some (Sum.inl (s1.1, s1.2))))) x1.1 x1.2.1 x1.2.2 ((-1), 0)).bind fun o2 => onE o2 fun s3 =>
 some s3.1
noncomputable def pc_ (a0 : Int) (a1 : Int) : Option (Bool) :=
 some (decide (a1 < a0))
noncomputable def ey_ (a0 : Riddle) (a1 : (List Aid)) (a2 : Int) : Option (Int) :=
 (gk_ a0 a1).bind fun x1 =>
 if x1 != 0 then
 (some x1)
 else
 ((cn_ a2 0 (w64 ((a0.Locks.length : Int) - 1))).bind fun x2 =>
 if !x2 then
 (some 1)
 else
 (some 0))
noncomputable def gt_ (a0 : Riddle) (a1 : (List Aid)) (a2 : Int) : Option ((List Int)) :=
 (forS (σ := (List Int)) (fun i1 s1 =>
 (((at? a1 (i1 : Int)).bind fun x18 =>
 if x18.Lock == a2 then
 ((kx_ a0 x18).bind fun x19 =>
 some x19)
 else
 (some false)) : Option (Bool)).bind fun v4 =>
 if v4 then
 ((push? s1 ([(i1 : Int)] : List Int)).bind fun x20 =>
 some x20)
 else
 (some s1)) a1.length 0 ([])).bind fun out1 =>
 some out1
noncomputable def kk_ (a0 : Riddle) (a1 : (List Aid)) (a2 : Int) (a3 : Bool) : Option (Int) :=
 (gt_ a0 a1 a2).bind fun x1 =>
 (forS (σ := (Int × Int)) (fun i1 s1 =>
 (at? x1 (i1 : Int)).bind fun x20 =>
 (at? a1 x20).bind fun x21 =>
 (ib_ a0 x21).bind fun x22 =>
 (ea_ x22).bind fun x23 =>
 (at? x23 a2).bind fun x24 =>
 ((if decide (s1.1 < 0) then
 (some true)
 else
 (if a3 then
 (if decide (s1.2 < x24) then
 (some true)
 else
 (if !a3 then
 (some (decide (x24 < s1.2)))
 else
 (some false)))
 else
 (if !a3 then
 (some (decide (x24 < s1.2)))
 else
 (some false)))) : Option (Bool)).bind fun v4 =>
 if v4 then
 ((at? x1 (i1 : Int)).bind fun x25 =>
 some (x25, x24))
 else
 (some (s1.1, s1.2))) x1.length 0 ((-1), 0)).bind fun out1 =>
 some out1.1
noncomputable def iz_ (a0 : Riddle) (a1 : (List Aid)) (a2 : Int) : Option ((List Int) × Int) :=
 (fi_ a0 a1 a2).bind fun x1 =>
 if x1 != 0 then
 (some (([] : List Int), x1))
 else
 ((gy_ a0 a1 a2).bind fun x2 =>
 (dq_ (σ_ := (List Int)) (τ_ := (Empty)) (fun x6 s1 =>
 (push? s1 ([x6.1] : List Int)).bind fun x8 =>
 some (Sum.inl x8)) x2.1 x2.2.1 x2.2.2 ([])).bind fun o2 => onE o2 fun s3 =>
 some (s3, 0))
noncomputable def iq_ (a0 : Riddle) (a1 : (List Aid)) (a2 : Int) : Option ((List Int) × Int) :=
 (ey_ a0 a1 a2).bind fun x1 =>
 if x1 != 0 then
 (some (([] : List Int), x1))
 else
 ((gt_ a0 a1 a2).bind fun x2 =>
 some (x2, 0))
noncomputable def ie_ (a0 : Riddle) (a1 : (List Aid)) (a2 : Int) (a3 : Int → Int → Option Bool) : Option (Int × Int) :=
 (fi_ a0 a1 a2).bind fun x1 =>
 if x1 != 0 then
 (some (0, x1))
 else
 ((na_ a0 a1 a2 a3).bind fun x2 =>
 if decide (x2 < 0) then
 (some (0, 3))
 else
 (some (x2, 0)))
noncomputable def ka_ (a0 : Riddle) (a1 : (List Aid)) (a2 : Int) : Option (Int × Int) :=
 (ie_ a0 a1 a2 pc_).bind fun x1 =>
 some (x1.1, x1.2)
noncomputable def jw_ (a0 : Riddle) (a1 : (List Aid)) (a2 : Int) : Option (Int × Int) :=
 (ey_ a0 a1 a2).bind fun x1 =>
 if x1 != 0 then
 (some (0, x1))
 else
 ((kk_ a0 a1 a2 true).bind fun x2 =>
 if decide (x2 < 0) then
 (some (0, 3))
 else
 (some (x2, 0)))
noncomputable def pd_ (a0 : Int) (a1 : Int) : Option (Bool) :=
 some (decide (a0 < a1))
noncomputable def jz_ (a0 : Riddle) (a1 : (List Aid)) (a2 : Int) : Option (Int × Int) :=
 (ie_ a0 a1 a2 pd_).bind fun x1 =>
 some (x1.1, x1.2)
noncomputable def jv_ (a0 : Riddle) (a1 : (List Aid)) (a2 : Int) : Option (Int × Int) :=
 (ey_ a0 a1 a2).bind fun x1 =>
 if x1 != 0 then
 (some (0, x1))
 else
 ((kk_ a0 a1 a2 false).bind fun x2 =>
 if decide (x2 < 0) then
 (some (0, 3))
 else
 (some (x2, 0)))
noncomputable def gx_ (a0 : Riddle) (a1 : (List Aid)) (a2 : Int) : Option (Bool) :=
 (((jk_ a0).bind fun x4 =>
 if x4 then
 ((fs_).bind fun x5 =>
 some (Sum.inr x5))
 else
 (if decide (6 < (a1.length : Int)) then
 (if decide ((a1.length : Int) ≤ 20) then
 ((fs_).bind fun x6 =>
 some (Sum.inr x6))
 else
 (some (Sum.inl ())))
 else
 (some (Sum.inl ())))) : Option (Unit ⊕ _)).bind fun ov1 => onL ov1 fun v1 =>
 (iz_ a0 a1 a2).bind fun x7 =>
 (iq_ a0 a1 a2).bind fun x8 =>
 if x7.2 != x8.2 then
 (some false)
 else
 ((cy_ x7.1 x8.1).bind fun x10 =>
 if !x10 then
 (some false)
 else
 ((ka_ a0 a1 a2).bind fun x11 =>
 (jw_ a0 a1 a2).bind fun x12 =>
 if x11.1 != x12.1 then
 (some false)
 else
 (if x11.2 != x12.2 then
 (some false)
 else
 ((jz_ a0 a1 a2).bind fun x13 =>
 (jv_ a0 a1 a2).bind fun x14 =>
 if x13.1 == x14.1 then
 (if x13.2 == x14.2 then
 ((fs_).bind fun x15 =>
 some x15)
 else
 (some false))
 else
 (some false)))))
end Go.Proofs.YtlpdpeghgndmkaaGreat.Pad
