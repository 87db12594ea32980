/- A part of the proof: what the functions of the program compute, shown over the model. -/
import Derived.Test.YtfeomcdhhgeilaaPadST
import Derived.KernelRfl
set_option linter.unusedVariables false
namespace Go.Proofs.Ytfeomcdhhgeilaa.Pad
open Go Go.Proofs
 /-- padlock.control.within -/
noncomputable def F48 (a0 : Int) (a1 : Int) (a2 : Int) : Option (Bool) :=
 if decide (a1 ≤ a0) then
 (some (decide (a0 ≤ a2)))
 else
 (some false)

 /-- slices.IndexFunc[[]padlock.api.Signal,padlock.api.Signal] -/
noncomputable def F75 (a0 : (List Signal)) (a1 : Signal → Option Bool) : Option (Int) :=
 (forN (σ := (Unit)) (fun i1 s1 =>
 (at? a0 (i1 : Int)).bind fun x5 =>
 (a1 x5).bind fun x6 =>
 if x6 then
 (some (Sum.inr (i1 : Int)))
 else
 (some (Sum.inl ()))) a0.length 0 ()).bind fun o2 => onL o2 fun out1 =>
 some (-1)

 /-- slices.ContainsFunc[[]padlock.api.Signal,padlock.api.Signal] -/
noncomputable def F62 (a0 : (List Signal)) (a1 : Signal → Option Bool) : Option (Bool) :=
 (F75 a0 a1).bind fun x1 =>
 some (decide (0 ≤ x1))

 /-- padlock.control.right -/
noncomputable def F64 (a0 : Panel) (a1 : Int) (a2 : Signal) : Option (Bool) :=
 (F48 a2.At 0 (w64 (a1 - 1))).bind fun x1 =>
 if !x1 then
 (some false)
 else
 (if a2.Kind == 1 then
 ((F48 a2.Number 0 (w64 (a0.Sensors - 1))).bind fun x2 =>
 if x2 then
 ((F48 a2.Value 0 9).bind fun x3 =>
 some x3)
 else
 (some false))
 else
 (if a2.Kind == 2 then
 ((F48 a2.Number 0 (w64 (a0.Sensors - 1))).bind fun x4 =>
 if x4 then
 (some (a2.Value == 0))
 else
 (some false))
 else
 (((if a2.Kind == 3 then
 (some (a2.Kind == 3))
 else
 (some (a2.Kind == 6))) : Option (Bool)).bind fun v1 =>
 if v1 then
 ((F48 a2.Number 0 (w64 ((a0.Doors.length : Int) - 1))).bind fun x5 =>
 if x5 then
 (some (a2.Value == 0))
 else
 (some false))
 else
 (((if a2.Kind == 4 then
 (some (a2.Kind == 4))
 else
 (some (a2.Kind == 5))) : Option (Bool)).bind fun v2 =>
 if v2 then
 (if a2.Number == 0 then
 (some (a2.Value == 0))
 else
 (some false))
 else
 (some false)))))

 /-- padlock.control.begin.1 -/
noncomputable def F63 (a0 : Signal) (a1 : Panel) (a2 : Int) : Option (Bool) :=
 (F64 a1 a2 a0).bind fun x1 =>
 some (!x1)

 /-- slices.IndexFunc[[]padlock.api.Sense,padlock.api.Sense] -/
noncomputable def F68 (a0 : (List Sense)) (a1 : Sense → Option Bool) : Option (Int) :=
 (forN (σ := (Unit)) (fun i1 s1 =>
 (at? a0 (i1 : Int)).bind fun x5 =>
 (a1 x5).bind fun x6 =>
 if x6 then
 (some (Sum.inr (i1 : Int)))
 else
 (some (Sum.inl ()))) a0.length 0 ()).bind fun o2 => onL o2 fun out1 =>
 some (-1)

 /-- slices.ContainsFunc[[]padlock.api.Sense,padlock.api.Sense] -/
noncomputable def F50 (a0 : (List Sense)) (a1 : Sense → Option Bool) : Option (Bool) :=
 (F68 a0 a1).bind fun x1 =>
 some (decide (0 ≤ x1))

 /-- padlock.control.Check.1 -/
noncomputable def F49 (a0 : Sense) (a1 : Panel) : Option (Bool) :=
 (F48 a0.Sensor 0 (w64 (a1.Sensors - 1))).bind fun x1 =>
 if !x1 then
 (some true)
 else
 ((F48 a0.Value 0 9).bind fun x2 =>
 some (!x2))

 /-- padlock.control.Check -/
noncomputable def F27 (a0 : Panel) : Option (Int) :=
 (((F48 a0.Sensors 0 12).bind fun x4 =>
 if !x4 then
 (some (Sum.inr 80))
 else
 (if decide (8 < (a0.Doors.length : Int)) then
 (some (Sum.inr 80))
 else
 ((F48 a0.Stale 1 50).bind fun x5 =>
 if !x5 then
 (some (Sum.inr 80))
 else
 ((F48 a0.Limit 1 1000).bind fun x6 =>
 if !x6 then
 (some (Sum.inr 80))
 else
 (some (Sum.inl ())))))) : Option (Unit ⊕ _)).bind fun ov1 => onL ov1 fun v1 =>
 (forN (σ := (Unit)) (fun i1 s1 =>
 (at? a0.Doors (i1 : Int)).bind fun x13 =>
 (F48 x13.Wait 1 50).bind fun x14 =>
 if !x14 then
 (some (Sum.inr 80))
 else
 (if decide (8 < (x13.When.length : Int)) then
 (some (Sum.inr 80))
 else
 ((F50 x13.When (fun x0_ => F49 x0_ (a0))).bind fun x15 =>
 if x15 then
 (some (Sum.inr 80))
 else
 (some (Sum.inl ()))))) a0.Doors.length 0 ()).bind fun o2 => onL o2 fun out1 =>
 some 0

 /-- slices.Clone -/
def F65 (a0 : List Int) : Option (List Int) := push? [] a0

 /-- (padlock.control.tick).decide.1 -/
noncomputable def F76 (a0 : Sense) (a1 : Control_tick) (a2 : Panel) : Option (Bool) :=
 (at? a1.ages a0.Sensor).bind fun x1 =>
 some (decide (a2.Stale ≤ x1))

 /-- (padlock.control.tick).decide.2 -/
noncomputable def F77 (a0 : Sense) (a1 : Control_tick) : Option (Bool) :=
 (at? a1.values a0.Sensor).bind fun x1 =>
 some ((x1 == a0.Value) == a0.Not)

 /-- (padlock.control.tick).decide -/
noncomputable def F66 (a0 : Control_tick) (a1 : Panel) (a2 : Int) (a3 : Gate) : Option (Int) :=
 if decide (a1.Limit ≤ a2) then
 (some 2)
 else
 ((F50 a3.When (fun x0_ => F76 x0_ (a0) (a1))).bind fun x1 =>
 if x1 then
 (some 2)
 else
 ((F50 a3.When (fun x0_ => F77 x0_ (a0))).bind fun x2 =>
 if !x2 then
 (some 2)
 else
 (some 1)))

 /-- (padlock.control.door).next -/
noncomputable def F67 (a0 : Control_door) (a1 : Int) (a2 : Bool) (a3 : Bool) (a4 : Int) : Option (Control_door) :=
 ((((if !a2 then
 (some (!a2))
 else
 (some (a4 == 2))) : Option (Bool)).bind fun v3 =>
 if v3 then
 (some 0)
 else
 (if a4 == 1 then
 (some a1)
 else
 (some (maxI 0 (w64 (a0.left - 1)))))) : Option (Int)).bind fun v2 =>
 if a2 then
 (if decide (0 < v2) then
 (if !a3 then
 (some (⟨v2, true⟩ : Control_door))
 else
 (some (⟨v2, a0.shut⟩ : Control_door)))
 else
 (some (⟨v2, false⟩ : Control_door)))
 else
 (some (⟨v2, false⟩ : Control_door))

 /-- padlock.control.frees -/
noncomputable def F47 (a0 : Panel) : Option (Int) :=
 (forS (σ := (Int)) (fun i1 s1 =>
 (at? a0.Doors (i1 : Int)).bind fun x4 =>
 if decide (0 < (x4.When.length : Int)) then
 (some (maxI s1 x4.Wait))
 else
 (some s1)) a0.Doors.length 0 0).bind fun out1 =>
 if out1 == 0 then
 (some 0)
 else
 (some (w64 ((w64 (a0.Limit + out1)) - 1)))

 /-- padlock.control.Frees -/
noncomputable def F21 (a0 : Panel) : Option (Int × Int) :=
 (F27 a0).bind fun x1 =>
 if x1 != 0 then
 (some (0, x1))
 else
 ((F47 a0).bind fun x2 =>
 some (x2, 0))

 /-- padlock.padlockref08.within -/
noncomputable def F43 (a0 : Int) (a1 : Int) (a2 : Int) : Option (Bool) :=
 if decide (a1 ≤ a0) then
 (some (decide (a0 ≤ a2)))
 else
 (some false)

 /-- padlock.padlockref08.Check -/
noncomputable def F15 (a0 : Panel) : Option (Int) :=
 (((F43 a0.Sensors 0 12).bind fun x4 =>
 if !x4 then
 (some (Sum.inr 80))
 else
 (if decide (8 < (a0.Doors.length : Int)) then
 (some (Sum.inr 80))
 else
 ((F43 a0.Stale 1 50).bind fun x5 =>
 if !x5 then
 (some (Sum.inr 80))
 else
 ((F43 a0.Limit 1 1000).bind fun x6 =>
 if !x6 then
 (some (Sum.inr 80))
 else
 (some (Sum.inl ())))))) : Option (Unit ⊕ _)).bind fun ov1 => onL ov1 fun v1 =>
 (forN (σ := (Unit)) (fun i4 s7 =>
 (at? a0.Doors (i4 : Int)).bind fun x52 =>
 (((F43 x52.Wait 1 50).bind fun x54 =>
 if !x54 then
 (some (Sum.inr (Sum.inr 80)))
 else
 (if decide (8 < (x52.When.length : Int)) then
 (some (Sum.inr (Sum.inr 80)))
 else
 (some (Sum.inl ())))) : Option (Unit ⊕ _)).bind fun ov5 => onL ov5 fun v5 =>
 (forN (σ := (Unit)) (fun i5 s8 =>
 (at? x52.When (i5 : Int)).bind fun x64 =>
 (F43 x64.Sensor 0 (w64 (a0.Sensors - 1))).bind fun x65 =>
 if !x65 then
 (some (Sum.inr (Sum.inr 80)))
 else
 ((F43 x64.Value 0 9).bind fun x66 =>
 if !x66 then
 (some (Sum.inr (Sum.inr 80)))
 else
 (some (Sum.inl ())))) x52.When.length 0 ()).bind fun o10 => onL o10 fun out5 =>
 some (Sum.inl ())) a0.Doors.length 0 ()).bind fun o8 => onL o8 fun out4 =>
 some 0

 /-- padlock.padlockref08.With -/
noncomputable def F18 (a0 : (List Signal)) (a1 : Int) (a2 : (List Int)) : Option ((List Signal)) :=
 (push? ([] : List Signal) a0).bind fun x1 =>
 (forS (σ := (List Signal)) (fun i1 s1 =>
 (at? a2 (i1 : Int)).bind fun x8 =>
 (push? s1 ([(⟨x8, 3, a1, 0⟩ : Signal)] : List Signal)).bind fun x9 =>
 some x9) a2.length 0 x1).bind fun out1 =>
 some out1

 /-- padlock.padlocklaw08.bit -/
noncomputable def F19 (a0 : Int) (a1 : Int) : Option (Bool) :=
 some ((andI (shrI a0 (wu64 a1)) 1) == 1)

 /-- padlock.padlocklaw08.sameInts -/
noncomputable def F29 (a0 : (List Int)) (a1 : (List Int)) : Option (Bool) :=
 if (a0.length : Int) != (a1.length : Int) then
 (some false)
 else
 ((forN (σ := (Unit)) (fun i1 s1 =>
 (at? a0 (i1 : Int)).bind fun x7 =>
 (at? a1 (i1 : Int)).bind fun x8 =>
 if x7 != x8 then
 (some (Sum.inr false))
 else
 (some (Sum.inl ()))) a0.length 0 ()).bind fun o2 => onL o2 fun out1 =>
 some true)

 /-- padlock.padlocklaw08.Example -/
noncomputable def F44  : Option (Panel) :=
 some (⟨2, ([(⟨3, ([(⟨0, 1, false⟩ : Sense)] : List Sense)⟩ : Gate), (⟨1, ([] : (List Sense))⟩ : Gate)] : List Gate), 2, 8⟩ : Panel)

 /-- padlock.padlocklaw08.long -/
noncomputable def F20 (a0 : Int) : Option (Bool) :=
 if decide (60 < a0) then
 (some (decide (a0 ≤ 1000)))
 else
 (some false)

 /-- padlock.padlockref08.Powered -/
noncomputable def F33 (a0 : Int) (a1 : (List Signal)) : Option (Bool) :=
 (whileO (σ := (Bool × Int)) (ρ := (Bool × Int)) (fun s7 =>
 if decide (s7.2 ≤ a0) then
 ((forS (σ := (Bool)) (fun i7 s8 =>
 (((at? a1 (i7 : Int)).bind fun x193 =>
 if x193.At == s7.2 then
 ((at? a1 (i7 : Int)).bind fun x194 =>
 if x194.Kind == 4 then
 (some true)
 else
 ((at? a1 (i7 : Int)).bind fun x195 =>
 some (x195.Kind == 5)))
 else
 (some false)) : Option (Bool)).bind fun v28 =>
 if v28 then
 ((at? a1 (i7 : Int)).bind fun x196 =>
 some (x196.Kind == 5))
 else
 (some s8)) a1.length 0 s7.1).bind fun out8 =>
 some (Sum.inl (out8, w64 (s7.2 + 1))))
 else
 (some (Sum.inr (s7.1, s7.2)))) (true, 0)).bind fun out7 =>
 some out7.1

 /-- padlock.control.begin -/
noncomputable def F45 (a0 : Panel) (a1 : Int) (a2 : (List Signal)) : Option ((List Control_tick) × Int) :=
 (F27 a0).bind fun x1 =>
 if x1 != 0 then
 (some (([] : List Control_tick), x1))
 else
 ((F48 a1 0 1000).bind fun x2 =>
 if !x2 then
 (some (([] : List Control_tick), 1))
 else
 (((if decide (200 < (a2.length : Int)) then
 (some (Sum.inr (([] : List Control_tick), 81)))
 else
 ((F62 a2 (fun x0_ => F63 x0_ (a0) (a1))).bind fun x4 =>
 if x4 then
 (some (Sum.inr (([] : List Control_tick), 81)))
 else
 (some (Sum.inl ())))) : Option (Unit ⊕ _)).bind fun ov1 => onL ov1 fun v1 =>
 (mk? a0.Sensors 0).bind fun x5 =>
 (cnt? a1).bind fun x267 =>
 (forS (σ := (List Control_tick × Bool × List Int × List Int × List Int)) (fun i10 s10 =>
 (mk? a0.Sensors false).bind fun x268 =>
 (mk? (a0.Doors.length : Int) 0).bind fun x269 =>
 (mk? (a0.Doors.length : Int) false).bind fun x270 =>
 (mk? (a0.Doors.length : Int) false).bind fun x271 =>
 (forS (σ := (Bool × List Int × List Bool × List Bool × List Bool)) (fun i11 s11 =>
 (at? a2 (i11 : Int)).bind fun x287 =>
 if x287.At != (i10 : Int) then
 (some (s11.1, s11.2.1, s11.2.2.1, s11.2.2.2.1, s11.2.2.2.2))
 else
 (if x287.Kind == 1 then
 ((at? s11.2.1 x287.Number).bind fun x288 =>
 some (s11.1, s11.2.1.set (x287.Number).toNat x287.Value, s11.2.2.1, s11.2.2.2.1, s11.2.2.2.2))
 else
 (if x287.Kind == 2 then
 ((at? s11.2.2.1 x287.Number).bind fun x289 =>
 some (s11.1, s11.2.1, s11.2.2.1.set (x287.Number).toNat true, s11.2.2.2.1, s11.2.2.2.2))
 else
 (if x287.Kind == 3 then
 ((at? s11.2.2.2.2 x287.Number).bind fun x290 =>
 some (s11.1, s11.2.1, s11.2.2.1, s11.2.2.2.1, s11.2.2.2.2.set (x287.Number).toNat true))
 else
 (if x287.Kind == 4 then
 (some (false, s11.2.1, s11.2.2.1, s11.2.2.2.1, s11.2.2.2.2))
 else
 (if x287.Kind == 5 then
 (some (true, s11.2.1, s11.2.2.1, s11.2.2.2.1, s11.2.2.2.2))
 else
 (if x287.Kind == 6 then
 ((at? s11.2.2.2.1 x287.Number).bind fun x291 =>
 some (s11.1, s11.2.1, s11.2.2.1, s11.2.2.2.1.set (x287.Number).toNat true, s11.2.2.2.2))
 else
 (some (s11.1, s11.2.1, s11.2.2.1, s11.2.2.2.1, s11.2.2.2.2))))))))) a2.length 0 (s10.2.1, s10.2.2.1, x268, x270, x271)).bind fun out11 =>
 (forS (σ := (List Int × List Int)) (fun i12 s12 =>
 (at? s12.2 (i12 : Int)).bind fun x313 =>
 (at? s12.2 (i12 : Int)).bind fun x314 =>
 ((if out11.1 then
 ((at? out11.2.2.1 (i12 : Int)).bind fun x316 =>
 some (!x316))
 else
 (some false)) : Option (Bool)).bind fun v83 =>
 if v83 then
 ((at? out11.2.1 (i12 : Int)).bind fun x317 =>
 (at? s12.1 (i12 : Int)).bind fun x318 =>
 (at? (s12.2.set ((i12 : Int)).toNat (w64 (x313 + 1))) (i12 : Int)).bind fun x319 =>
 some (s12.1.set ((i12 : Int)).toNat x317, (s12.2.set ((i12 : Int)).toNat (w64 (x313 + 1))).set ((i12 : Int)).toNat 0))
 else
 (some (s12.1, s12.2.set ((i12 : Int)).toNat (w64 (x313 + 1))))) out11.2.1.length 0 (s10.2.2.2.1, s10.2.2.2.2)).bind fun out12 =>
 (F65 out12.1).bind fun x320 =>
 (F65 out12.2).bind fun x321 =>
 (forS (σ := (List Int × List Int)) (fun i13 s13 =>
 (at? a0.Doors (i13 : Int)).bind fun x346 =>
 ((if out11.1 then
 ((F66 (⟨out11.1, x320, x321, s13.1, s13.2, out11.2.2.2.1⟩ : Control_tick) a0 (i10 : Int) x346).bind fun x349 =>
 (at? s13.1 (i13 : Int)).bind fun x350 =>
 some (s13.1.set ((i13 : Int)).toNat x349))
 else
 (some s13.1)) : Option (List Int)).bind fun v103 =>
 (at? out11.2.2.2.2 (i13 : Int)).bind fun x351 =>
 if !x351 then
 ((at? v103 (i13 : Int)).bind fun x352 =>
 (at? s13.2 (i13 : Int)).bind fun x353 =>
 some (v103, s13.2.set ((i13 : Int)).toNat x352))
 else
 (some (v103, s13.2))) a0.Doors.length 0 (x269, x269)).bind fun out13 =>
 (push? s10.1 ([(⟨out11.1, x320, x321, out13.1, out13.2, out11.2.2.2.1⟩ : Control_tick)] : List Control_tick)).bind fun x354 =>
 some (x354, out11.1, out11.2.1, out12.1, out12.2)) x267 0 ([], true, x5, x5, x5)).bind fun out10 =>
 some (out10.1, 0)))

 /-- padlock.control.rows -/
noncomputable def F46 (a0 : Panel) (a1 : (List Control_tick)) : Option ((List Int)) :=
 (mk? (a0.Doors.length : Int) (⟨0, false⟩ : Control_door)).bind fun x1 =>
 (forS (σ := (List Int × List Control_door)) (fun i2 s4 =>
 (at? a1 (i2 : Int)).bind fun x134 =>
 (forS (σ := (List Control_door × Int)) (fun i3 s5 =>
 (at? s5.1 (i3 : Int)).bind fun x156 =>
 (at? a0.Doors (i3 : Int)).bind fun x157 =>
 (at? x134.stood (i3 : Int)).bind fun x158 =>
 (at? x134.heard (i3 : Int)).bind fun x159 =>
 (F67 x156 x157.Wait x134.power x158 x159).bind fun x160 =>
 (at? (s5.1.set ((i3 : Int)).toNat x160) (i3 : Int)).bind fun x161 =>
 if x161.shut then
 ((nn? (i3 : Int)).bind fun x162 =>
 some (s5.1.set ((i3 : Int)).toNat x160, orI s5.2 (shlI 1 (i3 : Int))))
 else
 (some (s5.1.set ((i3 : Int)).toNat x160, s5.2))) s4.2.length 0 (s4.2, 0)).bind fun out5 =>
 (push? s4.1 ([out5.2] : List Int)).bind fun x163 =>
 some (x163, out5.1)) a1.length 0 ([], x1)).bind fun out4 =>
 some out4.1

 /-- padlock.control.Play -/
noncomputable def F17 (a0 : Panel) (a1 : Int) (a2 : (List Signal)) : Option ((List Int) × Int) :=
 (F45 a0 a1 a2).bind fun x1 =>
 if x1.2 != 0 then
 (some (([] : List Int), x1.2))
 else
 ((F46 a0 x1.1).bind fun x2 =>
 some (x2, 0))

 /-- padlock.padlocklaw08.works -/
noncomputable def F16  : Option (Bool) :=
 (F44).bind fun x1 =>
 (F17 x1 4 ([(⟨2, 1, 0, 1⟩ : Signal)] : List Signal)).bind fun x2 =>
 (F44).bind fun x3 =>
 (F21 x3).bind fun x4 =>
 if x2.2 == 0 then
 (if x4.2 == 0 then
 ((F29 x2.1 ([1, 1, 0, 0] : List Int)).bind fun x5 =>
 if x5 then
 (some (x4.1 == 10))
 else
 (some false))
 else
 (some false))
 else
 (some false)

 /-- padlock.padlocklaw08.ControlSilence -/
noncomputable def F3 (a0 : Panel) (a1 : (List Signal)) (a2 : Law08_Where) : Option (Bool) :=
 (((F15 a0).bind fun x5 =>
 if x5 != 0 then
 ((F16).bind fun x6 =>
 some (Sum.inr x6))
 else
 (if (a0.Doors.length : Int) == 0 then
 ((F16).bind fun x7 =>
 some (Sum.inr x7))
 else
 (if decide (150 < (a1.length : Int)) then
 ((F16).bind fun x8 =>
 some (Sum.inr x8))
 else
 (some (Sum.inl ()))))) : Option (Unit ⊕ _)).bind fun ov1 => onL ov1 fun v1 =>
 (md a2.Door (a0.Doors.length : Int)).bind fun x9 =>
 (md (w64 (x9 + (a0.Doors.length : Int))) (a0.Doors.length : Int)).bind fun x10 =>
 (md a2.Ticks 10).bind fun x11 =>
 (md (w64 (x11 + 10)) 10).bind fun x12 =>
 (at? a0.Doors x10).bind fun x13 =>
 (whileO (σ := (List Int × Int)) (ρ := (List Int × Int)) (fun s1 =>
 if decide (s1.2 < (w64 (x12 + x13.Wait))) then
 ((push? s1.1 ([s1.2] : List Int)).bind fun x20 =>
 some (Sum.inl (x20, w64 (s1.2 + 1))))
 else
 (some (Sum.inr (s1.1, s1.2)))) ([], x12)).bind fun out1 =>
 (F18 a1 x10 out1.1).bind fun x21 =>
 (F17 a0 (w64 (x12 + x13.Wait)) x21).bind fun x22 =>
 if x22.2 != 0 then
 ((F16).bind fun x23 =>
 some x23)
 else
 (if (x22.1.length : Int) == (w64 (x12 + x13.Wait)) then
 ((at? x22.1 (w64 ((w64 (x12 + x13.Wait)) - 1))).bind fun x24 =>
 (F19 x24 x10).bind fun x25 =>
 if !x25 then
 ((F16).bind fun x26 =>
 some x26)
 else
 (some false))
 else
 (some false))

 /-- padlock.padlocklaw08.ControlTime -/
noncomputable def F4 (a0 : Panel) (a1 : Int) (a2 : (List Signal)) : Option (Bool) :=
 (F20 a1).bind fun x1 =>
 if x1 then
 ((F16).bind fun x2 =>
 some x2)
 else
 ((F21 a0).bind fun x3 =>
 if x3.2 != 0 then
 ((F16).bind fun x4 =>
 some x4)
 else
 ((F17 a0 a1 a2).bind fun x5 =>
 (whileO (σ := (Int)) (ρ := (Int) ⊕ _) (fun s1 =>
 ((if x5.2 == 0 then
 (if decide (s1 < (x5.1.length : Int)) then
 (some (Sum.inl ()))
 else
 (some (Sum.inr (Sum.inr (Sum.inl s1)))))
 else
 (some (Sum.inr (Sum.inr (Sum.inl s1))))) : Option (Unit ⊕ _)).bind fun ov8 => onL ov8 fun v8 =>
 if decide (x3.1 ≤ s1) then
 ((at? x5.1 s1).bind fun x12 =>
 if x12 != 0 then
 (some (Sum.inr (Sum.inr false)))
 else
 (some (Sum.inl (w64 (s1 + 1)))))
 else
 (some (Sum.inl (w64 (s1 + 1))))) 0).bind fun o2 => onL o2 fun out1 =>
 ((((if decide (x3.1 ≤ 0) then
 (some true)
 else
 (some (decide (60 < x3.1)))) : Option (Bool)).bind fun v11 =>
 if v11 then
 (if decide (0 ≤ x3.1) then
 ((F16).bind fun x14 =>
 some (Sum.inr x14))
 else
 (some (Sum.inr false)))
 else
 (some (Sum.inl ()))) : Option (Unit ⊕ _)).bind fun ov10 => onL ov10 fun v10 =>
 (forS (σ := (Int)) (fun i1 s2 =>
 (at? a0.Doors (i1 : Int)).bind fun x21 =>
 if decide (0 < (x21.When.length : Int)) then
 (if decide (s2 < 0) then
 (some (i1 : Int))
 else
 ((at? a0.Doors s2).bind fun x22 =>
 if decide (x22.Wait < x21.Wait) then
 (some (i1 : Int))
 else
 (some s2)))
 else
 (some s2)) a0.Doors.length 0 (-1)).bind fun out2 =>
 if decide (out2 < 0) then
 (some false)
 else
 ((at? a0.Doors out2).bind fun x23 =>
 (at? x23.When 0).bind fun x24 =>
 ((if !x24.Not then
 ((md (w64 (x24.Value + 1)) 10).bind fun x26 =>
 some x26)
 else
 (some x24.Value)) : Option (Int)).bind fun v12 =>
 (whileO (σ := (List Signal × Int)) (ρ := (List Signal × Int)) (fun s3 =>
 if decide (s3.2 < x3.1) then
 ((push? s3.1 ([(⟨s3.2, 3, out2, 0⟩ : Signal)] : List Signal)).bind fun x33 =>
 some (Sum.inl (x33, w64 (s3.2 + 1))))
 else
 (some (Sum.inr (s3.1, s3.2)))) (([(⟨0, 1, x24.Sensor, v12⟩ : Signal)] : List Signal), a0.Limit)).bind fun out3 =>
 (F17 a0 x3.1 out3.1).bind fun x34 =>
 if x34.2 == 0 then
 (if (x34.1.length : Int) == x3.1 then
 ((at? x34.1 (w64 (x3.1 - 1))).bind fun x35 =>
 (F19 x35 out2).bind fun x36 =>
 if x36 then
 ((F16).bind fun x37 =>
 some x37)
 else
 (some false))
 else
 (some false))
 else
 (some false))))

 /-- slices.IndexFunc[[]int,int] -/
noncomputable def F73 (a0 : (List Int)) (a1 : Int → Option Bool) : Option (Int) :=
 (forN (σ := (Unit)) (fun i1 s1 =>
 (at? a0 (i1 : Int)).bind fun x5 =>
 (a1 x5).bind fun x6 =>
 if x6 then
 (some (Sum.inr (i1 : Int)))
 else
 (some (Sum.inl ()))) a0.length 0 ()).bind fun o2 => onL o2 fun out1 =>
 some (-1)

 /-- slices.ContainsFunc[[]int,int] -/
noncomputable def F54 (a0 : (List Int)) (a1 : Int → Option Bool) : Option (Bool) :=
 (F73 a0 a1).bind fun x1 =>
 some (decide (0 ≤ x1))

 /-- slices.IndexFunc[[]padlock.control.tick,padlock.control.tick] -/
noncomputable def F74 (a0 : (List Control_tick)) (a1 : Control_tick → Option Bool) : Option (Int) :=
 (forN (σ := (Unit)) (fun i1 s1 =>
 (at? a0 (i1 : Int)).bind fun x5 =>
 (a1 x5).bind fun x6 =>
 if x6 then
 (some (Sum.inr (i1 : Int)))
 else
 (some (Sum.inl ()))) a0.length 0 ()).bind fun o2 => onL o2 fun out1 =>
 some (-1)

 /-- slices.ContainsFunc[[]padlock.control.tick,padlock.control.tick] -/
noncomputable def F56 (a0 : (List Control_tick)) (a1 : Control_tick → Option Bool) : Option (Bool) :=
 (F74 a0 a1).bind fun x1 =>
 some (decide (0 ≤ x1))

 /-- padlock.control.Safe.1 -/
noncomputable def F55 (a0 : Int) (a1 : Panel) : Option (Bool) :=
 (nn? (a1.Doors.length : Int)).bind fun x1 =>
 (F48 a0 0 (w64 ((shlI 1 (a1.Doors.length : Int)) - 1))).bind fun x2 =>
 some (!x2)

 /-- padlock.control.Safe.2 -/
noncomputable def F57 (a0 : Control_tick) (a1 : Int) : Option (Bool) :=
 (at? a0.said a1).bind fun x1 =>
 some (x1 == 1)

 /-- padlock.control.Safe -/
noncomputable def F34 (a0 : Panel) (a1 : Int) (a2 : (List Signal)) (a3 : (List Int)) : Option (Int × Int × Int) :=
 (F45 a0 a1 a2).bind fun x1 =>
 if x1.2 != 0 then
 (some (0, 0, x1.2))
 else
 (((if (a3.length : Int) != a1 then
 (some (Sum.inr (0, 0, 1)))
 else
 ((F54 a3 (fun x0_ => F55 x0_ (a0))).bind fun x3 =>
 if x3 then
 (some (Sum.inr (0, 0, 1)))
 else
 (some (Sum.inl ())))) : Option (Unit ⊕ _)).bind fun ov2 => onL ov2 fun v2 =>
 (forN (σ := (Unit)) (fun i4 s7 =>
 (at? a3 (i4 : Int)).bind fun x115 =>
 (forN (σ := (Unit)) (fun i5 s8 =>
 (at? a0.Doors (i5 : Int)).bind fun x143 =>
 (sub? x1.1 (maxI 0 (w64 ((w64 ((i4 : Int) - x143.Wait)) + 1))) (w64 ((i4 : Int) + 1))).bind fun x144 =>
 (F56 x144 (fun x0_ => F57 x0_ ((i5 : Int)))).bind fun x145 =>
 (((nn? (i5 : Int)).bind fun x149 =>
 if (andI (shrI x115 (i5 : Int)) 1) == 1 then
 ((at? x1.1 (i4 : Int)).bind fun x150 =>
 if !x150.power then
 (some true)
 else
 ((F47 a0).bind fun x151 =>
 if decide (x151 ≤ (i4 : Int)) then
 (some true)
 else
 (some (!x145))))
 else
 (some false)) : Option (Bool)).bind fun v18 =>
 if v18 then
 (some (Sum.inr (Sum.inr ((i4 : Int), (i5 : Int), 0))))
 else
 (some (Sum.inl ()))) a0.Doors.length 0 ()).bind fun o10 => onL o10 fun out5 =>
 some (Sum.inl ())) a3.length 0 ()).bind fun o8 => onL o8 fun out4 =>
 some ((-1), (-1), 0))

 /-- padlock.padlocklaw08.ControlPower -/
noncomputable def F11 (a0 : Panel) (a1 : Int) (a2 : (List Signal)) : Option (Bool) :=
 (F20 a1).bind fun x1 =>
 if x1 then
 ((F16).bind fun x2 =>
 some x2)
 else
 ((F17 a0 a1 a2).bind fun x3 =>
 if x3.2 != 0 then
 ((F16).bind fun x4 =>
 some x4)
 else
 (if (x3.1.length : Int) != a1 then
 (some false)
 else
 ((cnt? a1).bind fun x11 =>
 (forN (σ := (Unit)) (fun i1 s1 =>
 (at? x3.1 (i1 : Int)).bind fun x12 =>
 if decide (x12 < 0) then
 (some (Sum.inr false))
 else
 (if decide ((shlI 1 (wu64 (a0.Doors.length : Int))) ≤ x12) then
 (some (Sum.inr false))
 else
 (if decide (0 < x12) then
 ((F33 (i1 : Int) a2).bind fun x13 =>
 if !x13 then
 (some (Sum.inr false))
 else
 (some (Sum.inl ())))
 else
 (some (Sum.inl ()))))) x11 0 ()).bind fun o2 => onL o2 fun out1 =>
 (F34 a0 a1 a2 x3.1).bind fun x14 =>
 if x14.2.2 == 0 then
 (if x14.1 == (-1) then
 (if x14.2.1 == (-1) then
 ((F16).bind fun x15 =>
 some x15)
 else
 (some false))
 else
 (some false))
 else
 (some false))))

 /-- padlock.padlockref08.checkTicks -/
noncomputable def F69 (a0 : Panel) (a1 : Int) : Option (Int) :=
 (F15 a0).bind fun x1 =>
 if x1 != 0 then
 (some x1)
 else
 ((F43 a1 0 1000).bind fun x2 =>
 if !x2 then
 (some 1)
 else
 (some 0))

 /-- padlock.padlockref08.CheckSignals -/
noncomputable def F51 (a0 : Panel) (a1 : Int) (a2 : (List Signal)) : Option (Int) :=
 (F69 a0 a1).bind fun x1 =>
 if x1 != 0 then
 (some x1)
 else
 (if decide (200 < (a2.length : Int)) then
 (some 81)
 else
 ((forN (σ := (Unit)) (fun i1 s1 =>
 (at? a2 (i1 : Int)).bind fun x22 =>
 ((if x22.Kind == 1 then
 ((F43 x22.Number 0 (w64 (a0.Sensors - 1))).bind fun x27 =>
 if x27 then
 ((F43 x22.Value 0 9).bind fun x28 =>
 some x28)
 else
 (some false))
 else
 (if x22.Kind == 2 then
 ((F43 x22.Number 0 (w64 (a0.Sensors - 1))).bind fun x29 =>
 if x29 then
 (some (x22.Value == 0))
 else
 (some false))
 else
 (((if x22.Kind == 3 then
 (some (x22.Kind == 3))
 else
 (some (x22.Kind == 6))) : Option (Bool)).bind fun v14 =>
 if v14 then
 ((F43 x22.Number 0 (w64 ((a0.Doors.length : Int) - 1))).bind fun x30 =>
 if x30 then
 (some (x22.Value == 0))
 else
 (some false))
 else
 (((if x22.Kind == 4 then
 (some (x22.Kind == 4))
 else
 (some (x22.Kind == 5))) : Option (Bool)).bind fun v15 =>
 if v15 then
 (if x22.Number == 0 then
 (some (x22.Value == 0))
 else
 (some false))
 else
 (some false))))) : Option (Bool)).bind fun v13 =>
 if !v13 then
 (some (Sum.inr 81))
 else
 ((F43 x22.At 0 (w64 (a1 - 1))).bind fun x31 =>
 if !x31 then
 (some (Sum.inr 81))
 else
 (some (Sum.inl ())))) a2.length 0 ()).bind fun o2 => onL o2 fun out1 =>
 some 0))

 /-- padlock.padlockref08.has -/
noncomputable def F70 (a0 : (List Signal)) (a1 : Int) (a2 : Int) (a3 : Int) : Option (Bool) :=
 (forN (σ := (Unit)) (fun i1 s1 =>
 (at? a0 (i1 : Int)).bind fun x7 =>
 if x7.At == a1 then
 ((at? a0 (i1 : Int)).bind fun x8 =>
 if x8.Kind == a2 then
 ((at? a0 (i1 : Int)).bind fun x9 =>
 if x9.Number == a3 then
 (some (Sum.inr true))
 else
 (some (Sum.inl ())))
 else
 (some (Sum.inl ())))
 else
 (some (Sum.inl ()))) a0.length 0 ()).bind fun o2 => onL o2 fun out1 =>
 some false

 /-- padlock.padlockref08.Senses -/
noncomputable def F24 (a0 : Panel) (a1 : Int) (a2 : (List Signal)) : Option ((List Int)) :=
 (mk? a0.Sensors 0).bind fun x1 =>
 (whileO (σ := (List Int × Int)) (ρ := (List Int × Int)) (fun s7 =>
 if decide (s7.2 ≤ a1) then
 ((forS (σ := (List Int)) (fun i7 s8 =>
 (((at? a2 (i7 : Int)).bind fun x166 =>
 if x166.At == s7.2 then
 ((at? a2 (i7 : Int)).bind fun x167 =>
 some (x167.Kind == 1))
 else
 (some false)) : Option (Bool)).bind fun v28 =>
 if v28 then
 ((at? a2 (i7 : Int)).bind fun x168 =>
 (at? s8 x168.Number).bind fun x169 =>
 some (s8.set (x168.Number).toNat x168.Value))
 else
 (some s8)) a2.length 0 s7.1).bind fun out8 =>
 some (Sum.inl (out8, w64 (s7.2 + 1))))
 else
 (some (Sum.inr (s7.1, s7.2)))) (x1, 0)).bind fun out7 =>
 some out7.1

 /-- padlock.padlockref08.True -/
noncomputable def F23 (a0 : (List Sense)) (a1 : (List Int)) : Option (Bool) :=
 (forN (σ := (Unit)) (fun i1 s1 =>
 (at? a0 (i1 : Int)).bind fun x7 =>
 (at? a1 x7.Sensor).bind fun x8 =>
 if (x8 == x7.Value) == x7.Not then
 (some (Sum.inr false))
 else
 (some (Sum.inl ()))) a0.length 0 ()).bind fun o2 => onL o2 fun out1 =>
 some true

 /-- padlock.padlockref08.decide -/
noncomputable def F71 (a0 : Panel) (a1 : Int) (a2 : Int) (a3 : Ref08_Frame) : Option (Int) :=
 (at? a0.Doors a2).bind fun x1 =>
 if decide (a0.Limit ≤ a1) then
 (some 2)
 else
 ((forN (σ := (Unit)) (fun i1 s1 =>
 (at? x1.When (i1 : Int)).bind fun x8 =>
 (at? a3.Ages x8.Sensor).bind fun x9 =>
 if decide (a0.Stale ≤ x9) then
 (some (Sum.inr 2))
 else
 (some (Sum.inl ()))) x1.When.length 0 ()).bind fun o2 => onL o2 fun out1 =>
 (F23 x1.When a3.Values).bind fun x10 =>
 if x10 then
 (some 2)
 else
 (some 1))

 /-- padlock.padlockref08.wants -/
noncomputable def F72 (a0 : Panel) (a1 : (List Signal)) (a2 : Int) (a3 : (List Ref08_Frame)) : Option (Bool) :=
 (whileO (σ := (Int)) (ρ := (Int) ⊕ _) (fun s1 =>
 ((if decide (0 ≤ s1) then
 ((at? a0.Doors a2).bind fun x38 =>
 if decide ((w64 ((w64 ((a3.length : Int) - 1)) - x38.Wait)) < s1) then
 (some (Sum.inl ()))
 else
 (some (Sum.inr (Sum.inr (Sum.inl s1)))))
 else
 (some (Sum.inr (Sum.inr (Sum.inl s1))))) : Option (Unit ⊕ _)).bind fun ov7 => onL ov7 fun v7 =>
 (at? a3 s1).bind fun x39 =>
 if !x39.Power then
 (some (Sum.inr (Sum.inr false)))
 else
 ((F70 a1 s1 3 a2).bind fun x40 =>
 if x40 then
 (some (Sum.inl (w64 (s1 - 1))))
 else
 ((at? x39.Told a2).bind fun x41 =>
 if x41 == 2 then
 (some (Sum.inr (Sum.inr false)))
 else
 ((at? x39.Told a2).bind fun x42 =>
 if x42 == 1 then
 (some (Sum.inr (Sum.inr true)))
 else
 (some (Sum.inl (w64 (s1 - 1)))))))) (w64 ((a3.length : Int) - 1))).bind fun o2 => onL o2 fun out1 =>
 some false

 /-- padlock.padlockref08.Frames -/
noncomputable def F52 (a0 : Panel) (a1 : Int) (a2 : (List Signal)) : Option ((List Ref08_Frame)) :=
 (mk? a0.Sensors 0).bind fun x1 =>
 (cnt? a1).bind fun x272 =>
 (forS (σ := (List Ref08_Frame × List Int × List Int)) (fun i7 s10 =>
 (F33 (i7 : Int) a2).bind fun x273 =>
 (mk? (a0.Doors.length : Int) 0).bind fun x274 =>
 (mk? (a0.Doors.length : Int) false).bind fun x275 =>
 (F24 a0 (i7 : Int) a2).bind fun x276 =>
 (cnt? a0.Sensors).bind fun x298 =>
 (forS (σ := (List Int × List Int)) (fun i8 s11 =>
 (at? s11.2 (i8 : Int)).bind fun x299 =>
 (at? s11.2 (i8 : Int)).bind fun x300 =>
 ((if x273 then
 ((F70 a2 (i7 : Int) 2 (i8 : Int)).bind fun x302 =>
 some (!x302))
 else
 (some false)) : Option (Bool)).bind fun v191 =>
 if v191 then
 ((at? x276 (i8 : Int)).bind fun x303 =>
 (at? s11.1 (i8 : Int)).bind fun x304 =>
 (at? (s11.2.set ((i8 : Int)).toNat (w64 (x299 + 1))) (i8 : Int)).bind fun x305 =>
 some (s11.1.set ((i8 : Int)).toNat x303, (s11.2.set ((i8 : Int)).toNat (w64 (x299 + 1))).set ((i8 : Int)).toNat 0))
 else
 (some (s11.1, s11.2.set ((i8 : Int)).toNat (w64 (x299 + 1))))) x298 0 (s10.2.1, s10.2.2)).bind fun out11 =>
 (push? ([] : List Int) out11.1).bind fun x306 =>
 (push? ([] : List Int) out11.2).bind fun x307 =>
 (whileO (σ := (List Int × Int)) (ρ := (List Int × Int)) (fun s12 =>
 ((if decide (s12.2 < (a0.Doors.length : Int)) then
 (if x273 then
 (some (Sum.inl ()))
 else
 (some (Sum.inr (Sum.inr (s12.1, s12.2)))))
 else
 (some (Sum.inr (Sum.inr (s12.1, s12.2))))) : Option (Unit ⊕ _)).bind fun ov210 => onL ov210 fun v210 =>
 (F71 a0 (i7 : Int) s12.2 (⟨x273, x306, x307, s12.1, x275⟩ : Ref08_Frame)).bind fun x320 =>
 (at? s12.1 s12.2).bind fun x321 =>
 some (Sum.inl (s12.1.set (s12.2).toNat x320, w64 (s12.2 + 1)))) (x274, 0)).bind fun out12 =>
 (push? s10.1 ([(⟨x273, x306, x307, out12.1, x275⟩ : Ref08_Frame)] : List Ref08_Frame)).bind fun x322 =>
 (forS (σ := (List Bool)) (fun i9 s13 =>
 ((if decide (0 < (i7 : Int)) then
 ((at? (s10.1 ++ [(⟨x273, x306, x307, out12.1, s13⟩ : Ref08_Frame)]) (w64 ((i7 : Int) - 1))).bind fun x355 =>
 (at? x355.Shut (i9 : Int)).bind fun x356 =>
 some x356)
 else
 (some false)) : Option (Bool)).bind fun v240 =>
 if x273 then
 ((F72 a0 a2 (i9 : Int) (s10.1 ++ [(⟨x273, x306, x307, out12.1, s13⟩ : Ref08_Frame)])).bind fun x357 =>
 if x357 then
 ((F70 a2 (i7 : Int) 6 (i9 : Int)).bind fun x358 =>
 if !x358 then
 ((at? s13 (i9 : Int)).bind fun x359 =>
 some (s13.set ((i9 : Int)).toNat true))
 else
 ((at? s13 (i9 : Int)).bind fun x360 =>
 some (s13.set ((i9 : Int)).toNat v240)))
 else
 ((at? s13 (i9 : Int)).bind fun x361 =>
 some (s13.set ((i9 : Int)).toNat false)))
 else
 ((at? s13 (i9 : Int)).bind fun x362 =>
 some (s13.set ((i9 : Int)).toNat false))) a0.Doors.length 0 x275).bind fun out13 =>
 some ((s10.1 ++ [(⟨x273, x306, x307, out12.1, out13⟩ : Ref08_Frame)]), out11.1, out11.2)) x272 0 ([], x1, x1)).bind fun out10 =>
 some out10.1

 /-- padlock.padlockref08.Row -/
noncomputable def F53 (a0 : Ref08_Frame) : Option (Int) :=
 (forS (σ := (Int)) (fun i1 s1 =>
 (at? a0.Shut (i1 : Int)).bind fun x4 =>
 if x4 then
 (some (orI s1 (shlI 1 (wu64 (i1 : Int)))))
 else
 (some s1)) a0.Shut.length 0 0).bind fun out1 =>
 some out1

 /-- padlock.padlockref08.Play -/
noncomputable def F28 (a0 : Panel) (a1 : Int) (a2 : (List Signal)) : Option ((List Int) × Int) :=
 (F51 a0 a1 a2).bind fun x1 =>
 if x1 != 0 then
 (some (([] : List Int), x1))
 else
 ((F52 a0 a1 a2).bind fun x2 =>
 (cnt? a1).bind fun x12 =>
 (forS (σ := (List Int)) (fun i1 s1 =>
 (at? x2 (i1 : Int)).bind fun x13 =>
 (F53 x13).bind fun x14 =>
 (push? s1 ([x14] : List Int)).bind fun x15 =>
 some x15) x12 0 ([])).bind fun out1 =>
 some (out1, 0))

 /-- padlock.padlocklaw08.valid -/
noncomputable def F22 (a0 : Panel) (a1 : Int) (a2 : (List Signal)) : Option (Bool) :=
 (F28 a0 a1 a2).bind fun x1 =>
 some (x1.2 == 0)

 /-- padlock.padlocklaw08.stands -/
noncomputable def F26 (a0 : (List Signal)) (a1 : Int) (a2 : Int) : Option (Bool) :=
 (forN (σ := (Unit)) (fun i1 s1 =>
 (at? a0 (i1 : Int)).bind fun x7 =>
 if x7.Kind == 6 then
 ((at? a0 (i1 : Int)).bind fun x8 =>
 if x8.At == a1 then
 ((at? a0 (i1 : Int)).bind fun x9 =>
 if x9.Number == a2 then
 (some (Sum.inr true))
 else
 (some (Sum.inl ())))
 else
 (some (Sum.inl ())))
 else
 (some (Sum.inl ()))) a0.length 0 ()).bind fun o2 => onL o2 fun out1 =>
 some false

 /-- padlock.control.Knows -/
noncomputable def F30 (a0 : Panel) (a1 : Int) (a2 : (List Signal)) : Option ((List (List Int)) × (List (List Int)) × Int) :=
 (F45 a0 a1 a2).bind fun x1 =>
 if x1.2 != 0 then
 (some (([] : List (List Int)), ([] : List (List Int)), x1.2))
 else
 ((forS (σ := (List (List Int) × List (List Int))) (fun i1 s1 =>
 (at? x1.1 (i1 : Int)).bind fun x11 =>
 (push? s1.1 ([x11.values] : List (List Int))).bind fun x12 =>
 (push? s1.2 ([x11.ages] : List (List Int))).bind fun x13 =>
 some (x12, x13)) x1.1.length 0 ([], [])).bind fun out1 =>
 some (out1.1, out1.2, 0))

 /-- padlock.padlockref08.Knows -/
noncomputable def F31 (a0 : Panel) (a1 : Int) (a2 : (List Signal)) : Option ((List (List Int)) × (List (List Int)) × Int) :=
 (F51 a0 a1 a2).bind fun x1 =>
 if x1 != 0 then
 (some (([] : List (List Int)), ([] : List (List Int)), x1))
 else
 ((F52 a0 a1 a2).bind fun x2 =>
 (cnt? a1).bind fun x15 =>
 (forS (σ := (List (List Int) × List (List Int))) (fun i1 s1 =>
 (at? x2 (i1 : Int)).bind fun x16 =>
 (push? s1.1 ([x16.Values] : List (List Int))).bind fun x17 =>
 (at? x2 (i1 : Int)).bind fun x18 =>
 (push? s1.2 ([x18.Ages] : List (List Int))).bind fun x19 =>
 some (x17, x19)) x15 0 ([], [])).bind fun out1 =>
 some (out1.1, out1.2, 0))

 /-- padlock.padlockref08.Frees -/
noncomputable def F38 (a0 : Panel) : Option (Int × Int) :=
 (F15 a0).bind fun x1 =>
 if x1 != 0 then
 (some (0, x1))
 else
 ((forS (σ := (Int)) (fun i1 s1 =>
 (at? a0.Doors (i1 : Int)).bind fun x8 =>
 if decide (0 < (x8.When.length : Int)) then
 ((at? a0.Doors (i1 : Int)).bind fun x9 =>
 some (maxI s1 (w64 ((w64 (a0.Limit + x9.Wait)) - 1))))
 else
 (some s1)) a0.Doors.length 0 0).bind fun out1 =>
 some (out1, 0))

 /-- padlock.padlockref08.checkDoor -/
noncomputable def F58 (a0 : Panel) (a1 : Int) (a2 : (List Signal)) (a3 : Int) : Option (Int) :=
 (F51 a0 a1 a2).bind fun x1 =>
 if x1 != 0 then
 (some x1)
 else
 ((F43 a3 0 (w64 ((a0.Doors.length : Int) - 1))).bind fun x2 =>
 if !x2 then
 (some 1)
 else
 (some 0))

 /-- padlock.padlockref08.Shuts -/
noncomputable def F37 (a0 : Panel) (a1 : Int) (a2 : (List Signal)) (a3 : Int) : Option (Int × Int × Int) :=
 (F58 a0 a1 a2 a3).bind fun x1 =>
 if x1 != 0 then
 (some (0, 0, x1))
 else
 ((F52 a0 a1 a2).bind fun x2 =>
 (cnt? a1).bind fun x9 =>
 (forS (σ := (Int × Int × Int)) (fun i1 s1 =>
 (at? x2 (i1 : Int)).bind fun x10 =>
 (at? x10.Shut a3).bind fun x11 =>
 if !x11 then
 (some (s1.1, s1.2.1, 0))
 else
 (if decide (s1.1 < 0) then
 (some ((i1 : Int), maxI s1.2.1 (w64 (s1.2.2 + 1)), w64 (s1.2.2 + 1)))
 else
 (some (s1.1, maxI s1.2.1 (w64 (s1.2.2 + 1)), w64 (s1.2.2 + 1))))) x9 0 ((-1), 0, 0)).bind fun out1 =>
 some (out1.1, out1.2.1, 0))

 /-- padlock.control.Shuts -/
noncomputable def F36 (a0 : Panel) (a1 : Int) (a2 : (List Signal)) (a3 : Int) : Option (Int × Int × Int) :=
 (F45 a0 a1 a2).bind fun x1 =>
 if x1.2 != 0 then
 (some (0, 0, x1.2))
 else
 ((F48 a3 0 (w64 ((a0.Doors.length : Int) - 1))).bind fun x2 =>
 if !x2 then
 (some (0, 0, 1))
 else
 ((F46 a0 x1.1).bind fun x3 =>
 (forS (σ := (Int × Int × Int)) (fun i1 s1 =>
 (at? x3 (i1 : Int)).bind fun x10 =>
 (nn? a3).bind fun x11 =>
 if (andI (shrI x10 a3) 1) == 0 then
 (some (s1.1, s1.2.1, 0))
 else
 (if decide (s1.1 < 0) then
 (some ((i1 : Int), maxI s1.2.1 (w64 (s1.2.2 + 1)), w64 (s1.2.2 + 1)))
 else
 (some (s1.1, maxI s1.2.1 (w64 (s1.2.2 + 1)), w64 (s1.2.2 + 1))))) x3.length 0 ((-1), 0, 0)).bind fun out1 =>
 some (out1.1, out1.2.1, 0)))

 /-- padlock.control.Tolerates -/
noncomputable def F39 (a0 : Panel) (a1 : Int) : Option (Int × Int) :=
 (F27 a0).bind fun x1 =>
 if x1 != 0 then
 (some (0, x1))
 else
 ((F48 a1 0 (w64 ((a0.Doors.length : Int) - 1))).bind fun x2 =>
 if !x2 then
 (some (0, 1))
 else
 ((at? a0.Doors a1).bind fun x3 =>
 some (w64 (x3.Wait - 1), 0)))

 /-- padlock.padlockref08.Tolerates -/
noncomputable def F40 (a0 : Panel) (a1 : Int) : Option (Int × Int) :=
 (F15 a0).bind fun x1 =>
 if x1 != 0 then
 (some (0, x1))
 else
 ((F43 a1 0 (w64 ((a0.Doors.length : Int) - 1))).bind fun x2 =>
 if !x2 then
 (some (0, 1))
 else
 ((at? a0.Doors a1).bind fun x3 =>
 some (w64 (x3.Wait - 1), 0)))

 /-- padlock.padlockref08.Safe -/
noncomputable def F35 (a0 : Panel) (a1 : Int) (a2 : (List Signal)) (a3 : (List Int)) : Option (Int × Int × Int) :=
 (F51 a0 a1 a2).bind fun x1 =>
 if x1 != 0 then
 (some (0, 0, x1))
 else
 (if (a3.length : Int) != a1 then
 (some (0, 0, 1))
 else
 ((cnt? a1).bind fun x8 =>
 (forN (σ := (Unit)) (fun i1 s1 =>
 (at? a3 (i1 : Int)).bind fun x9 =>
 (F43 x9 0 (w64 ((shlI 1 (wu64 (a0.Doors.length : Int))) - 1))).bind fun x10 =>
 if !x10 then
 (some (Sum.inr (0, 0, 1)))
 else
 (some (Sum.inl ()))) x8 0 ()).bind fun o2 => onL o2 fun out1 =>
 (F52 a0 a1 a2).bind fun x11 =>
 (F38 a0).bind fun x12 =>
 (cnt? a1).bind fun x127 =>
 (forN (σ := (Unit)) (fun i4 s13 =>
 (forN (σ := (Unit)) (fun i5 s16 =>
 (at? a0.Doors (i5 : Int)).bind fun x166 =>
 (whileO (σ := (Bool × Int)) (ρ := (Bool × Int)) (fun s17 =>
 if decide (s17.2 ≤ (i4 : Int)) then
 (if s17.1 then
 (some (Sum.inl (true, w64 (s17.2 + 1))))
 else
 ((at? x11 s17.2).bind fun x179 =>
 (at? x179.Told (i5 : Int)).bind fun x180 =>
 some (Sum.inl (x180 == 1, w64 (s17.2 + 1)))))
 else
 (some (Sum.inr (s17.1, s17.2)))) (false, maxI 0 (w64 ((w64 ((i4 : Int) - x166.Wait)) + 1)))).bind fun out14 =>
 (((at? a3 (i4 : Int)).bind fun x183 =>
 if (andI (shrI x183 (wu64 (i5 : Int))) 1) == 1 then
 ((at? x11 (i4 : Int)).bind fun x184 =>
 if !x184.Power then
 (some true)
 else
 (if decide (x12.1 ≤ (i4 : Int)) then
 (some true)
 else
 (some (!out14.1))))
 else
 (some false)) : Option (Bool)).bind fun v10 =>
 if v10 then
 (some (Sum.inr (Sum.inr ((i4 : Int), (i5 : Int), 0))))
 else
 (some (Sum.inl ()))) a0.Doors.length 0 ()).bind fun o18 => onL o18 fun out13 =>
 some (Sum.inl ())) x127 0 ()).bind fun o14 => onL o14 fun out10 =>
 some ((-1), (-1), 0)))

 /-- padlock.padlocklaw08.sameLists -/
noncomputable def F32 (a0 : (List (List Int))) (a1 : (List (List Int))) : Option (Bool) :=
 if (a0.length : Int) != (a1.length : Int) then
 (some false)
 else
 ((forN (σ := (Unit)) (fun i1 s1 =>
 (at? a0 (i1 : Int)).bind fun x10 =>
 (at? a1 (i1 : Int)).bind fun x11 =>
 (F29 x10 x11).bind fun x12 =>
 if !x12 then
 (some (Sum.inr false))
 else
 (some (Sum.inl ()))) a0.length 0 ()).bind fun o2 => onL o2 fun out1 =>
 some true)

 /-- padlock.padlocklaw08.only -/
noncomputable def F25 (a0 : (List Signal)) (a1 : (List Int)) : Option ((List Signal)) :=
 (forS (σ := (List Signal)) (fun i4 s4 =>
 (forS (σ := (List Signal)) (fun i5 s5 =>
 (at? a0 (i4 : Int)).bind fun x61 =>
 (at? a1 (i5 : Int)).bind fun x62 =>
 if x61.Kind == x62 then
 ((at? a0 (i4 : Int)).bind fun x63 =>
 (push? s5 ([x63] : List Signal)).bind fun x64 =>
 some x64)
 else
 (some s5)) a1.length 0 s4).bind fun out5 =>
 some out5) a0.length 0 ([])).bind fun out4 =>
 some out4

 /-- padlock.padlocklaw08.ControlOpens -/
noncomputable def F5 (a0 : Panel) (a1 : Int) (a2 : (List Signal)) : Option (Bool) :=
 (((F20 a1).bind fun x5 =>
 if x5 then
 ((F16).bind fun x6 =>
 some (Sum.inr x6))
 else
 ((F22 a0 a1 a2).bind fun x7 =>
 if !x7 then
 ((F16).bind fun x8 =>
 some (Sum.inr x8))
 else
 (some (Sum.inl ())))) : Option (Unit ⊕ _)).bind fun ov1 => onL ov1 fun v1 =>
 (F17 a0 a1 a2).bind fun x9 =>
 if x9.2 != 0 then
 ((F16).bind fun x10 =>
 some x10)
 else
 (if (x9.1.length : Int) != a1 then
 (some false)
 else
 ((forN (σ := (Unit)) (fun i4 s7 =>
 (cnt? a1).bind fun x149 =>
 (forN (σ := (Int)) (fun i5 s8 =>
 (((at? a0.Doors (i4 : Int)).bind fun x153 =>
 (F24 a0 (i5 : Int) a2).bind fun x154 =>
 (F23 x153.When x154).bind fun x155 =>
 if x155 then
 (some (w64 (s8 + 1)))
 else
 (some 0)) : Option (Int)).bind fun v111 =>
 (at? a0.Doors (i4 : Int)).bind fun x156 =>
 if decide ((w64 ((w64 (a0.Stale + x156.Wait)) - 1)) ≤ v111) then
 ((at? x9.1 (i5 : Int)).bind fun x157 =>
 (F19 x157 (i4 : Int)).bind fun x158 =>
 if x158 then
 (some (Sum.inr (Sum.inr false)))
 else
 (some (Sum.inl v111)))
 else
 (some (Sum.inl v111))) x149 0 0).bind fun o10 => onL o10 fun out5 =>
 some (Sum.inl ())) a0.Doors.length 0 ()).bind fun o8 => onL o8 fun out4 =>
 (F16).bind fun x159 =>
 some x159))

 /-- padlock.padlocklaw08.ControlWorks -/
noncomputable def F6 (a0 : Panel) (a1 : Int) (a2 : (List Signal)) : Option (Bool) :=
 (((F20 a1).bind fun x4 =>
 if x4 then
 ((F16).bind fun x5 =>
 some (Sum.inr x5))
 else
 (if decide (200 < (a2.length : Int)) then
 ((F16).bind fun x6 =>
 some (Sum.inr x6))
 else
 (some (Sum.inl ())))) : Option (Unit ⊕ _)).bind fun ov1 => onL ov1 fun v1 =>
 (F25 a2 ([1, 6] : List Int)).bind fun x7 =>
 (F22 a0 a1 x7).bind fun x8 =>
 if !x8 then
 ((F16).bind fun x9 =>
 some x9)
 else
 ((F17 a0 a1 x7).bind fun x10 =>
 if x10.2 != 0 then
 (some false)
 else
 (if (x10.1.length : Int) != a1 then
 (some false)
 else
 ((whileO (σ := (Int)) (ρ := (Int) ⊕ _) (fun s13 =>
 ((if decide (s13 < a1) then
 (if decide (s13 < a0.Limit) then
 (some (Sum.inl ()))
 else
 (some (Sum.inr (Sum.inr (Sum.inl s13)))))
 else
 (some (Sum.inr (Sum.inr (Sum.inl s13))))) : Option (Unit ⊕ _)).bind fun ov71 => onL ov71 fun v71 =>
 (F24 a0 s13 x7).bind fun x197 =>
 (forN (σ := (Unit)) (fun i7 s14 =>
 (at? a0.Doors (i7 : Int)).bind fun x218 =>
 (F23 x218.When x197).bind fun x219 =>
 if x219 then
 ((at? x10.1 s13).bind fun x220 =>
 (F19 x220 (i7 : Int)).bind fun x221 =>
 if x221 then
 (some (Sum.inr (Sum.inr (Sum.inr false))))
 else
 (if !x219 then
 ((F26 x7 s13 (i7 : Int)).bind fun x222 =>
 if !x222 then
 ((at? x10.1 s13).bind fun x223 =>
 (F19 x223 (i7 : Int)).bind fun x224 =>
 if !x224 then
 (some (Sum.inr (Sum.inr (Sum.inr false))))
 else
 (some (Sum.inl ())))
 else
 (some (Sum.inl ())))
 else
 (some (Sum.inl ()))))
 else
 (if !x219 then
 ((F26 x7 s13 (i7 : Int)).bind fun x225 =>
 if !x225 then
 ((at? x10.1 s13).bind fun x226 =>
 (F19 x226 (i7 : Int)).bind fun x227 =>
 if !x227 then
 (some (Sum.inr (Sum.inr (Sum.inr false))))
 else
 (some (Sum.inl ())))
 else
 (some (Sum.inl ())))
 else
 (some (Sum.inl ())))) a0.Doors.length 0 ()).bind fun o16 => onL o16 fun out8 =>
 some (Sum.inl (w64 (s13 + 1)))) 0).bind fun o14 => onL o14 fun out7 =>
 (F16).bind fun x228 =>
 some x228)))

 /-- padlock.padlocklaw08.ControlStands -/
noncomputable def F7 (a0 : Panel) (a1 : Int) (a2 : (List Signal)) : Option (Bool) :=
 (((F20 a1).bind fun x5 =>
 if x5 then
 ((F16).bind fun x6 =>
 some (Sum.inr x6))
 else
 ((F22 a0 a1 a2).bind fun x7 =>
 if !x7 then
 ((F16).bind fun x8 =>
 some (Sum.inr x8))
 else
 (some (Sum.inl ())))) : Option (Unit ⊕ _)).bind fun ov1 => onL ov1 fun v1 =>
 (F17 a0 a1 a2).bind fun x9 =>
 if x9.2 != 0 then
 ((F16).bind fun x10 =>
 some x10)
 else
 ((forS (σ := (List Signal)) (fun i1 s1 =>
 (at? a2 (i1 : Int)).bind fun x20 =>
 if x20.Kind != 6 then
 ((at? a2 (i1 : Int)).bind fun x21 =>
 (push? s1 ([x21] : List Signal)).bind fun x22 =>
 some x22)
 else
 (some s1)) a2.length 0 ([])).bind fun out1 =>
 (F17 a0 a1 out1).bind fun x23 =>
 ((if x23.2 != 0 then
 (some (Sum.inr false))
 else
 (if (x9.1.length : Int) != a1 then
 (some (Sum.inr false))
 else
 (if (x23.1.length : Int) != a1 then
 (some (Sum.inr false))
 else
 (some (Sum.inl ()))))) : Option (Unit ⊕ _)).bind fun ov4 => onL ov4 fun v4 =>
 (cnt? a1).bind fun x264 =>
 (forN (σ := (Unit)) (fun i5 s8 =>
 (forN (σ := (Unit)) (fun i6 s9 =>
 ((if decide (0 < (i5 : Int)) then
 ((at? x9.1 (w64 ((i5 : Int) - 1))).bind fun x327 =>
 (F19 x327 (i6 : Int)).bind fun x328 =>
 some x328)
 else
 (some false)) : Option (Bool)).bind fun v35 =>
 (((F26 a2 (i5 : Int) (i6 : Int)).bind fun x332 =>
 if x332 then
 (if !v35 then
 ((at? x9.1 (i5 : Int)).bind fun x333 =>
 (F19 x333 (i6 : Int)).bind fun x334 =>
 if x334 then
 (some (Sum.inr (Sum.inr (Sum.inr false))))
 else
 (some (Sum.inl ())))
 else
 (some (Sum.inl ())))
 else
 (some (Sum.inl ()))) : Option (Unit ⊕ _)).bind fun ov36 => onL ov36 fun v36 =>
 (at? x9.1 (i5 : Int)).bind fun x335 =>
 (F19 x335 (i6 : Int)).bind fun x336 =>
 if x336 then
 ((at? x23.1 (i5 : Int)).bind fun x337 =>
 (F19 x337 (i6 : Int)).bind fun x338 =>
 if !x338 then
 (some (Sum.inr (Sum.inr false)))
 else
 (if v35 then
 (if x336 != x338 then
 (some (Sum.inr (Sum.inr false)))
 else
 (some (Sum.inl ())))
 else
 ((F26 a2 (i5 : Int) (i6 : Int)).bind fun x339 =>
 if !x339 then
 (if x336 != x338 then
 (some (Sum.inr (Sum.inr false)))
 else
 (some (Sum.inl ())))
 else
 (some (Sum.inl ())))))
 else
 (if v35 then
 ((at? x23.1 (i5 : Int)).bind fun x340 =>
 (F19 x340 (i6 : Int)).bind fun x341 =>
 if x336 != x341 then
 (some (Sum.inr (Sum.inr false)))
 else
 (some (Sum.inl ())))
 else
 ((F26 a2 (i5 : Int) (i6 : Int)).bind fun x342 =>
 if !x342 then
 ((at? x23.1 (i5 : Int)).bind fun x343 =>
 (F19 x343 (i6 : Int)).bind fun x344 =>
 if x336 != x344 then
 (some (Sum.inr (Sum.inr false)))
 else
 (some (Sum.inl ())))
 else
 (some (Sum.inl ()))))) a0.Doors.length 0 ()).bind fun o11 => onL o11 fun out6 =>
 some (Sum.inl ())) x264 0 ()).bind fun o9 => onL o9 fun out5 =>
 (F16).bind fun x345 =>
 some x345)

 /-- padlock.padlocklaw08.ControlPlays -/
noncomputable def F8 (a0 : Panel) (a1 : Int) (a2 : (List Signal)) : Option (Bool) :=
 (F20 a1).bind fun x1 =>
 if x1 then
 ((F16).bind fun x2 =>
 some x2)
 else
 ((F27 a0).bind fun x3 =>
 (F15 a0).bind fun x4 =>
 if x3 != x4 then
 (some false)
 else
 ((F17 a0 a1 a2).bind fun x5 =>
 (F28 a0 a1 a2).bind fun x6 =>
 ((if x5.2 != x6.2 then
 (some (Sum.inr false))
 else
 ((F29 x5.1 x6.1).bind fun x8 =>
 if !x8 then
 (some (Sum.inr false))
 else
 (some (Sum.inl ())))) : Option (Unit ⊕ _)).bind fun ov4 => onL ov4 fun v4 =>
 (F30 a0 a1 a2).bind fun x9 =>
 (F31 a0 a1 a2).bind fun x10 =>
 if x9.2.2 == x10.2.2 then
 ((F32 x9.1 x10.1).bind fun x11 =>
 if x11 then
 ((F32 x9.2.1 x10.2.1).bind fun x12 =>
 if x12 then
 ((F16).bind fun x13 =>
 some x13)
 else
 (some false))
 else
 (some false))
 else
 (some false)))

 /-- padlock.padlocklaw08.ControlKnows -/
noncomputable def F9 (a0 : Panel) (a1 : Int) (a2 : (List Signal)) : Option (Bool) :=
 (((F20 a1).bind fun x5 =>
 if x5 then
 ((F16).bind fun x6 =>
 some (Sum.inr x6))
 else
 ((F22 a0 a1 a2).bind fun x7 =>
 if !x7 then
 ((F16).bind fun x8 =>
 some (Sum.inr x8))
 else
 (some (Sum.inl ())))) : Option (Unit ⊕ _)).bind fun ov1 => onL ov1 fun v1 =>
 (F30 a0 a1 a2).bind fun x9 =>
 if x9.2.2 != 0 then
 ((F16).bind fun x10 =>
 some x10)
 else
 (((if (x9.1.length : Int) != a1 then
 (some (Sum.inr false))
 else
 (if (x9.2.1.length : Int) != a1 then
 (some (Sum.inr false))
 else
 (some (Sum.inl ())))) : Option (Unit ⊕ _)).bind fun ov3 => onL ov3 fun v3 =>
 (cnt? a1).bind fun x302 =>
 (forN (σ := (Unit)) (fun i16 s19 =>
 (((at? x9.1 (i16 : Int)).bind fun x305 =>
 if (x305.length : Int) != a0.Sensors then
 (some (Sum.inr (Sum.inr false)))
 else
 ((at? x9.2.1 (i16 : Int)).bind fun x306 =>
 if (x306.length : Int) != a0.Sensors then
 (some (Sum.inr (Sum.inr false)))
 else
 (some (Sum.inl ())))) : Option (Unit ⊕ _)).bind fun ov55 => onL ov55 fun v55 =>
 (cnt? a0.Sensors).bind fun x376 =>
 (forN (σ := (Unit)) (fun i20 s23 =>
 (at? x9.2.1 (i16 : Int)).bind fun x377 =>
 (at? x377 (i20 : Int)).bind fun x378 =>
 ((if decide ((w64 ((i16 : Int) - x378)) < (-1)) then
 (some (Sum.inr (Sum.inr (Sum.inr false))))
 else
 (if decide ((i16 : Int) < (w64 ((i16 : Int) - x378))) then
 (some (Sum.inr (Sum.inr (Sum.inr false))))
 else
 (some (Sum.inl ())))) : Option (Unit ⊕ _)).bind fun ov68 => onL ov68 fun v68 =>
 ((if decide (0 ≤ (w64 ((i16 : Int) - x378))) then
 ((F24 a0 (w64 ((i16 : Int) - x378)) a2).bind fun x381 =>
 (at? x381 (i20 : Int)).bind fun x382 =>
 some x382)
 else
 (some 0)) : Option (Int)).bind fun v70 =>
 (forS (σ := (Bool)) (fun i21 s24 =>
 if s24 then
 (some true)
 else
 ((at? a2 (i21 : Int)).bind fun x392 =>
 if x392.Kind == 2 then
 ((at? a2 (i21 : Int)).bind fun x393 =>
 if x393.At == (i16 : Int) then
 ((at? a2 (i21 : Int)).bind fun x394 =>
 some (x394.Number == (i20 : Int)))
 else
 (some false))
 else
 (some false))) a2.length 0 false).bind fun out21 =>
 (at? x9.1 (i16 : Int)).bind fun x395 =>
 (at? x395 (i20 : Int)).bind fun x396 =>
 if x396 != v70 then
 (some (Sum.inr (Sum.inr false)))
 else
 ((at? x9.2.1 (i16 : Int)).bind fun x397 =>
 (at? x397 (i20 : Int)).bind fun x398 =>
 (F33 (i16 : Int) a2).bind fun x399 =>
 if x399 then
 (if (x398 == 0) != (!out21) then
 (some (Sum.inr (Sum.inr false)))
 else
 (some (Sum.inl ())))
 else
 (if (x398 == 0) != false then
 (some (Sum.inr (Sum.inr false)))
 else
 (some (Sum.inl ()))))) x376 0 ()).bind fun o25 => onL o25 fun out20 =>
 some (Sum.inl ())) x302 0 ()).bind fun o20 => onL o20 fun out16 =>
 (F16).bind fun x400 =>
 some x400)

 /-- padlock.padlocklaw08.ControlSafes -/
noncomputable def F10 (a0 : Panel) (a1 : (List Signal)) (a2 : Law08_Film) : Option (Bool) :=
 (F20 a2.Ticks).bind fun x1 =>
 if x1 then
 ((F16).bind fun x2 =>
 some x2)
 else
 ((F34 a0 a2.Ticks a1 a2.Rows).bind fun x3 =>
 (F35 a0 a2.Ticks a1 a2.Rows).bind fun x4 =>
 if x3.1 == x4.1 then
 (if x3.2.1 == x4.2.1 then
 (if x3.2.2 == x4.2.2 then
 ((F16).bind fun x5 =>
 some x5)
 else
 (some false))
 else
 (some false))
 else
 (some false))

 /-- padlock.padlocklaw08.ControlShuts -/
noncomputable def F12 (a0 : Panel) (a1 : (List Signal)) (a2 : Law08_Where) : Option (Bool) :=
 (F20 a2.Ticks).bind fun x1 =>
 if x1 then
 ((F16).bind fun x2 =>
 some x2)
 else
 ((F36 a0 a2.Ticks a1 a2.Door).bind fun x3 =>
 (F37 a0 a2.Ticks a1 a2.Door).bind fun x4 =>
 ((if x3.1 != x4.1 then
 (some (Sum.inr false))
 else
 (if x3.2.1 != x4.2.1 then
 (some (Sum.inr false))
 else
 (if x3.2.2 != x4.2.2 then
 (some (Sum.inr false))
 else
 (some (Sum.inl ()))))) : Option (Unit ⊕ _)).bind fun ov1 => onL ov1 fun v1 =>
 (F21 a0).bind fun x5 =>
 (F38 a0).bind fun x6 =>
 ((if x5.1 != x6.1 then
 (some (Sum.inr false))
 else
 (if x5.2 != x6.2 then
 (some (Sum.inr false))
 else
 (some (Sum.inl ())))) : Option (Unit ⊕ _)).bind fun ov2 => onL ov2 fun v2 =>
 (F39 a0 a2.Door).bind fun x7 =>
 (F40 a0 a2.Door).bind fun x8 =>
 if x7.1 == x8.1 then
 (if x7.2 == x8.2 then
 ((F16).bind fun x9 =>
 some x9)
 else
 (some false))
 else
 (some false))

 /-- (*padlock.control.cutter).next -/
noncomputable def F60 (a0 : Control_cutter) (a1 : Control_place) (a2 : Bool) : Option (Control_place) :=
 (at? a0.ticks a1.tick).bind fun x1 =>
 (at? x1.heard a0.door).bind fun x2 =>
 ((if a2 then
 (some 0)
 else
 (some x2)) : Option (Int)).bind fun v1 =>
 (at? x1.stood a0.door).bind fun x3 =>
 (F67 a1.door a0.wait x1.power x3 v1).bind fun x4 =>
 some (⟨w64 (a1.tick + 1), (⟨x4.left, x4.shut⟩ : Control_door)⟩ : Control_place)

 /-- (*padlock.control.cutter).least -/
noncomputable def F59 (n_ : Nat) (a0 : Control_cutter) (a1 : Control_place) (m0 : List (Control_place × Int)) : Option (Int × List (Control_place × Int)) := match n_ with
 | 0 => none
 | n_ + 1 =>
 if a1.tick == (a0.ticks.length : Int) then
 (if a1.door.shut then
 (some (1099511627776, m0))
 else
 (some (0, m0)))
 else
 (if mhas m0 a1 then
 (some ((mlook 0 m0 a1), m0))
 else
 ((F60 a0 a1 false).bind fun x1 =>
 (F59 n_ a0 x1 m0).bind fun x2 =>
 (F60 a0 a1 true).bind fun x3 =>
 (F59 n_ a0 x3 x2.2).bind fun x4 =>
 some (minI x2.1 (w64 (x4.1 + 1)), mset x4.2 a1 (minI x2.1 (w64 (x4.1 + 1))))))

 /-- padlock.control.Cut -/
noncomputable def F41 (a0 : Panel) (a1 : Int) (a2 : (List Signal)) (a3 : Int) : Option ((List Int) × Int) :=
 (F45 a0 a1 a2).bind fun x1 =>
 if x1.2 != 0 then
 (some (([] : List Int), x1.2))
 else
 ((F48 a3 0 (w64 ((a0.Doors.length : Int) - 1))).bind fun x2 =>
 if !x2 then
 (some (([] : List Int), 1))
 else
 (if a1 == 0 then
 (some (([] : List Int), 3))
 else
 ((at? a0.Doors a3).bind fun x3 =>
 (whileO (σ := (List Int × List (Control_place × Int) × Int × Int × Bool)) (ρ := (List Int × List (Control_place × Int) × Int × Int × Bool)) (fun s1 =>
 if decide (s1.2.2.1 < a1) then
 ((F60 (⟨x1.1, x3.Wait, a3, (⟨0⟩ : MRef)⟩ : Control_cutter) (⟨s1.2.2.1, (⟨s1.2.2.2.1, s1.2.2.2.2⟩ : Control_door)⟩ : Control_place) true).bind fun x40 =>
 (F59 fuel_ (⟨x1.1, x3.Wait, a3, (⟨0⟩ : MRef)⟩ : Control_cutter) x40 s1.2.1).bind fun x41 =>
 (F59 fuel_ (⟨x1.1, x3.Wait, a3, (⟨0⟩ : MRef)⟩ : Control_cutter) (⟨s1.2.2.1, (⟨s1.2.2.2.1, s1.2.2.2.2⟩ : Control_door)⟩ : Control_place) x41.2).bind fun x42 =>
 if (w64 (x41.1 + 1)) == x42.1 then
 ((push? s1.1 ([s1.2.2.1] : List Int)).bind fun x43 =>
 (F60 (⟨x1.1, x3.Wait, a3, (⟨0⟩ : MRef)⟩ : Control_cutter) (⟨s1.2.2.1, (⟨s1.2.2.2.1, s1.2.2.2.2⟩ : Control_door)⟩ : Control_place) ((w64 (x41.1 + 1)) == x42.1)).bind fun x44 =>
 some (Sum.inl (x43, x42.2, x44.tick, x44.door.left, x44.door.shut)))
 else
 ((F60 (⟨x1.1, x3.Wait, a3, (⟨0⟩ : MRef)⟩ : Control_cutter) (⟨s1.2.2.1, (⟨s1.2.2.2.1, s1.2.2.2.2⟩ : Control_door)⟩ : Control_place) ((w64 (x41.1 + 1)) == x42.1)).bind fun x45 =>
 some (Sum.inl (s1.1, x42.2, x45.tick, x45.door.left, x45.door.shut))))
 else
 (some (Sum.inr (s1.1, s1.2.1, s1.2.2.1, s1.2.2.2.1, s1.2.2.2.2)))) ([], ([] : List (Control_place × Int)), 0, 0, false)).bind fun out1 =>
 some (out1.1, 0))))

 /-- padlock.padlockref08.cut -/
noncomputable def F61 (n_ : Nat) (a0 : Panel) (a1 : Int) (a2 : (List Signal)) (a3 : Int) (a4 : (List Int)) (a5 : Int) (a6 : Int) : Option ((List Int) × Bool) := match n_ with
 | 0 => none
 | n_ + 1 =>
 if a6 == 0 then
 ((F18 a2 a3 a4).bind fun x1 =>
 (F52 a0 a1 x1).bind fun x2 =>
 (at? x2 (w64 (a1 - 1))).bind fun x3 =>
 (at? x3.Shut a3).bind fun x4 =>
 some (a4, !x4))
 else
 ((whileO (σ := (Int)) (ρ := (Int) ⊕ _) (fun s1 =>
 if decide (s1 < a1) then
 ((push? ([] : List Int) a4).bind fun x23 =>
 (push? x23 ([s1] : List Int)).bind fun x24 =>
 (F61 n_ a0 a1 a2 a3 x24 (w64 (s1 + 1)) (w64 (a6 - 1))).bind fun x25 =>
 if x25.2 then
 (some (Sum.inr (Sum.inr (x25.1, true))))
 else
 (some (Sum.inl (w64 (s1 + 1)))))
 else
 (some (Sum.inr (Sum.inl s1)))) a5).bind fun o2 => onL o2 fun out1 =>
 some (([] : (List Int)), false))

 /-- padlock.padlockref08.Cut -/
noncomputable def F42 (a0 : Panel) (a1 : Int) (a2 : (List Signal)) (a3 : Int) : Option ((List Int) × Int) :=
 (F58 a0 a1 a2 a3).bind fun x1 =>
 if x1 != 0 then
 (some (([] : (List Int)), x1))
 else
 (if a1 == 0 then
 (some (([] : (List Int)), 3))
 else
 ((cnt? a1).bind fun x5 =>
 (forN (σ := (Unit)) (fun i1 s1 =>
 (F61 fuel_ a0 a1 a2 a3 ([] : (List Int)) 0 (i1 : Int)).bind fun x6 =>
 if x6.2 then
 (some (Sum.inr (x6.1, 0)))
 else
 (some (Sum.inl ()))) x5 0 ()).bind fun o2 => onL o2 fun out1 =>
 (F61 fuel_ a0 a1 a2 a3 ([] : (List Int)) 0 a1).bind fun x7 =>
 some (x7.1, 0)))

 /-- padlock.padlocklaw08.ControlCuts -/
noncomputable def F13 (a0 : Panel) (a1 : (List Signal)) (a2 : Law08_Where) : Option (Bool) :=
 ((if decide (8 < a2.Ticks) then
 (if decide (a2.Ticks ≤ 1000) then
 ((F16).bind fun x2 =>
 some (Sum.inr x2))
 else
 (some (Sum.inl ())))
 else
 (some (Sum.inl ()))) : Option (Unit ⊕ _)).bind fun ov1 => onL ov1 fun v1 =>
 (F41 a0 a2.Ticks a1 a2.Door).bind fun x3 =>
 (F42 a0 a2.Ticks a1 a2.Door).bind fun x4 =>
 if x3.2 == x4.2 then
 ((F29 x3.1 x4.1).bind fun x5 =>
 if x5 then
 ((F16).bind fun x6 =>
 some x6)
 else
 (some false))
 else
 (some false)

 /-- padlock.padlocklaw08.ControlLost -/
noncomputable def F14 (a0 : Panel) (a1 : (List Signal)) (a2 : Law08_Loss) : Option (Bool) :=
 ((if decide (a2.Ticks < 1) then
 ((F16).bind fun x5 =>
 some (Sum.inr x5))
 else
 (if decide (8 < a2.Ticks) then
 ((F16).bind fun x6 =>
 some (Sum.inr x6))
 else
 (if decide (150 < (a1.length : Int)) then
 ((F16).bind fun x7 =>
 some (Sum.inr x7))
 else
 (if decide (8 < (a2.Losses.length : Int)) then
 ((F16).bind fun x8 =>
 some (Sum.inr x8))
 else
 (some (Sum.inl ())))))) : Option (Unit ⊕ _)).bind fun ov1 => onL ov1 fun v1 =>
 (F41 a0 a2.Ticks a1 a2.Door).bind fun x9 =>
 if x9.2 != 0 then
 ((F16).bind fun x10 =>
 some x10)
 else
 ((F18 a1 a2.Door x9.1).bind fun x11 =>
 (F17 a0 a2.Ticks x11).bind fun x12 =>
 ((if x12.2 != 0 then
 (some (Sum.inr false))
 else
 (if (x12.1.length : Int) != a2.Ticks then
 (some (Sum.inr false))
 else
 ((at? x12.1 (w64 (a2.Ticks - 1))).bind fun x15 =>
 (F19 x15 a2.Door).bind fun x16 =>
 if x16 then
 (some (Sum.inr false))
 else
 (some (Sum.inl ()))))) : Option (Unit ⊕ _)).bind fun ov5 => onL ov5 fun v5 =>
 (whileO (σ := (Int)) (ρ := (Int) ⊕ _) (fun s1 =>
 if decide (s1 < (a2.Losses.length : Int)) then
 ((at? a2.Losses s1).bind fun x35 =>
 (at? a2.Losses (w64 (s1 - 1))).bind fun x36 =>
 if decide (x35 ≤ x36) then
 ((F16).bind fun x37 =>
 some (Sum.inr (Sum.inr x37)))
 else
 (some (Sum.inl (w64 (s1 + 1)))))
 else
 (some (Sum.inr (Sum.inl s1)))) 1).bind fun o2 => onL o2 fun out1 =>
 (F18 a1 a2.Door a2.Losses).bind fun x38 =>
 (F17 a0 a2.Ticks x38).bind fun x39 =>
 ((if x39.2 != 0 then
 ((F16).bind fun x45 =>
 some (Sum.inr x45))
 else
 (if (x39.1.length : Int) != a2.Ticks then
 ((F16).bind fun x46 =>
 some (Sum.inr x46))
 else
 ((at? x39.1 (w64 (a2.Ticks - 1))).bind fun x47 =>
 (F19 x47 a2.Door).bind fun x48 =>
 if x48 then
 ((F16).bind fun x49 =>
 some (Sum.inr x49))
 else
 (some (Sum.inl ()))))) : Option (Unit ⊕ _)).bind fun ov8 => onL ov8 fun v8 =>
 if decide ((a2.Losses.length : Int) < (x9.1.length : Int)) then
 (some false)
 else
 ((whileO (σ := (Int)) (ρ := (Int) ⊕ _) (fun s2 =>
 ((if decide (s2 < (x9.1.length : Int)) then
 (if (x9.1.length : Int) == (a2.Losses.length : Int) then
 (some (Sum.inl ()))
 else
 (some (Sum.inr (Sum.inr (Sum.inl s2)))))
 else
 (some (Sum.inr (Sum.inr (Sum.inl s2))))) : Option (Unit ⊕ _)).bind fun ov15 => onL ov15 fun v15 =>
 (at? x9.1 s2).bind fun x80 =>
 (at? a2.Losses s2).bind fun x81 =>
 if x80 != x81 then
 ((at? x9.1 s2).bind fun x82 =>
 (at? a2.Losses s2).bind fun x83 =>
 if decide (x82 < x83) then
 ((F16).bind fun x84 =>
 some (Sum.inr (Sum.inr x84)))
 else
 (some (Sum.inr (Sum.inr false))))
 else
 (some (Sum.inl (w64 (s2 + 1))))) 0).bind fun o4 => onL o4 fun out2 =>
 (F16).bind fun x85 =>
 some x85))
end Go.Proofs.Ytfeomcdhhgeilaa.Pad
