/- A part of the proof: what the functions of the program compute, shown over the model. -/
import Derived.Test.YtfeomcdhhgeilaaProg
import Derived.Test.YtfeomcdhhgeilaaPadK
import Derived.KernelRfl
set_option linter.unusedVariables false
namespace Go.Proofs.Ytfeomcdhhgeilaa.Pad
open Go Go.Proofs
structure Signal where
  At : Int
  Kind : Int
  Number : Int
  Value : Int
  deriving DecidableEq
instance : Enc Signal := encBy fun s => (s.At, s.Kind, s.Number, s.Value)
instance : Ind Signal := ⟨fun S T cs x h => Ind.ind (α := Int × Int × Int × Int) S T cs _ h⟩
theorem Signal.inv {S : PH} {v : Go.Value} {s : Signal} (h : RV S v s) : v = .agg #[.int .i64 (s.At), .int .i64 (s.Kind), .int .i64 (s.Number), .int .i64 (s.Value)] := by
  obtain ⟨cs, hr, rfl⟩ := h
  obtain ⟨_, _, rfl, h0, ⟨_, _, rfl, h1, ⟨_, _, rfl, h2, h3⟩⟩⟩ := hr
  obtain rfl := h0
  obtain rfl := h1
  obtain rfl := h2
  obtain rfl := h3
  rfl
theorem Signal.rv {S : PH} {s : Signal} : RV S (.agg #[.int .i64 (s.At), .int .i64 (s.Kind), .int .i64 (s.Number), .int .i64 (s.Value)]) s := by
  exact ⟨_, ⟨_, _, rfl, rfl, ⟨_, _, rfl, rfl, ⟨_, _, rfl, rfl, rfl⟩⟩⟩, rfl⟩
theorem Signal.fld0 : Fld Signal 0 (fun s => s.At) := by
  rintro S cs s ⟨x0, y0, rfl, a0, ⟨x1, y1, rfl, a1, ⟨x2, y2, rfl, a2, a3⟩⟩⟩
  exact ⟨[], x0, x1 ++ (x2 ++ (y2)), by simp, rfl, a0⟩
theorem Signal.fld1 : Fld Signal 1 (fun s => s.Kind) := by
  rintro S cs s ⟨x0, y0, rfl, a0, ⟨x1, y1, rfl, a1, ⟨x2, y2, rfl, a2, a3⟩⟩⟩
  have l0 := Enc.len a0
  exact ⟨x0, x1, x2 ++ (y2), by simp, by rw [l0]; rfl, a1⟩
theorem Signal.fld2 : Fld Signal 2 (fun s => s.Number) := by
  rintro S cs s ⟨x0, y0, rfl, a0, ⟨x1, y1, rfl, a1, ⟨x2, y2, rfl, a2, a3⟩⟩⟩
  have l0 := Enc.len a0
  have l1 := Enc.len a1
  exact ⟨x0 ++ (x1), x2, y2, by simp, by simp [l0, l1]; rfl, a2⟩
theorem Signal.fld3 : Fld Signal 3 (fun s => s.Value) := by
  rintro S cs s ⟨x0, y0, rfl, a0, ⟨x1, y1, rfl, a1, ⟨x2, y2, rfl, a2, a3⟩⟩⟩
  have l0 := Enc.len a0
  have l1 := Enc.len a1
  have l2 := Enc.len a2
  exact ⟨x0 ++ (x1 ++ (x2)), y2, [], by simp, by simp [l0, l1, l2]; rfl, a3⟩
structure Sense where
  Sensor : Int
  Value : Int
  Not : Bool
  deriving DecidableEq
instance : Enc Sense := encBy fun s => (s.Sensor, s.Value, s.Not)
instance : Ind Sense := ⟨fun S T cs x h => Ind.ind (α := Int × Int × Bool) S T cs _ h⟩
theorem Sense.inv {S : PH} {v : Go.Value} {s : Sense} (h : RV S v s) : v = .agg #[.int .i64 (s.Sensor), .int .i64 (s.Value), .bool (s.Not)] := by
  obtain ⟨cs, hr, rfl⟩ := h
  obtain ⟨_, _, rfl, h0, ⟨_, _, rfl, h1, h2⟩⟩ := hr
  obtain rfl := h0
  obtain rfl := h1
  obtain rfl := h2
  rfl
theorem Sense.rv {S : PH} {s : Sense} : RV S (.agg #[.int .i64 (s.Sensor), .int .i64 (s.Value), .bool (s.Not)]) s := by
  exact ⟨_, ⟨_, _, rfl, rfl, ⟨_, _, rfl, rfl, rfl⟩⟩, rfl⟩
theorem Sense.fld0 : Fld Sense 0 (fun s => s.Sensor) := by
  rintro S cs s ⟨x0, y0, rfl, a0, ⟨x1, y1, rfl, a1, a2⟩⟩
  exact ⟨[], x0, x1 ++ (y1), by simp, rfl, a0⟩
theorem Sense.fld1 : Fld Sense 1 (fun s => s.Value) := by
  rintro S cs s ⟨x0, y0, rfl, a0, ⟨x1, y1, rfl, a1, a2⟩⟩
  have l0 := Enc.len a0
  exact ⟨x0, x1, y1, by simp, by rw [l0]; rfl, a1⟩
theorem Sense.fld2 : Fld Sense 2 (fun s => s.Not) := by
  rintro S cs s ⟨x0, y0, rfl, a0, ⟨x1, y1, rfl, a1, a2⟩⟩
  have l0 := Enc.len a0
  have l1 := Enc.len a1
  exact ⟨x0 ++ (x1), y1, [], by simp, by simp [l0, l1]; rfl, a2⟩
structure Gate where
  Wait : Int
  When : (List Sense)
instance : Enc Gate := encBy fun s => (s.Wait, s.When)
theorem Gate.inv {S : PH} {v : Go.Value} {s : Gate} (h : RV S v s) : ∃ c1, v = .agg #[.int .i64 (s.Wait), c1] ∧ RV S c1 s.When := by
  obtain ⟨cs, hr, rfl⟩ := h
  obtain ⟨_, _, rfl, h0, h1⟩ := hr
  obtain rfl := h0
  obtain ⟨qh1, rfl, rh1⟩ := rep_one (by rfl) h1
  exact ⟨qh1, rfl, rh1⟩
theorem Gate.rv {S : PH} {s : Gate} {c1 : Go.Value} (h1 : RV S c1 s.When) : RV S (.agg #[.int .i64 (s.Wait), c1]) s := by
  have r1 := rv_rep (by rfl) h1
  exact ⟨_, ⟨_, _, rfl, rfl, r1⟩, rfl⟩
theorem Gate.fld0 : Fld Gate 0 (fun s => s.Wait) := by
  rintro S cs s ⟨x0, y0, rfl, a0, a1⟩
  exact ⟨[], x0, y0, by simp, rfl, a0⟩
theorem Gate.fld1 : Fld Gate 1 (fun s => s.When) := by
  rintro S cs s ⟨x0, y0, rfl, a0, a1⟩
  have l0 := Enc.len a0
  exact ⟨x0, y0, [], by simp, by rw [l0]; rfl, a1⟩
structure Panel where
  Sensors : Int
  Doors : (List Gate)
  Stale : Int
  Limit : Int
instance : Enc Panel := encBy fun s => (s.Sensors, s.Doors, s.Stale, s.Limit)
theorem Panel.inv {S : PH} {v : Go.Value} {s : Panel} (h : RV S v s) : ∃ c1, v = .agg #[.int .i64 (s.Sensors), c1, .int .i64 (s.Stale), .int .i64 (s.Limit)] ∧ RV S c1 s.Doors := by
  obtain ⟨cs, hr, rfl⟩ := h
  obtain ⟨_, _, rfl, h0, ⟨_, _, rfl, h1, ⟨_, _, rfl, h2, h3⟩⟩⟩ := hr
  obtain rfl := h0
  obtain ⟨qh1, rfl, rh1⟩ := rep_one (by rfl) h1
  obtain rfl := h2
  obtain rfl := h3
  exact ⟨qh1, rfl, rh1⟩
theorem Panel.rv {S : PH} {s : Panel} {c1 : Go.Value} (h1 : RV S c1 s.Doors) : RV S (.agg #[.int .i64 (s.Sensors), c1, .int .i64 (s.Stale), .int .i64 (s.Limit)]) s := by
  have r1 := rv_rep (by rfl) h1
  exact ⟨_, ⟨_, _, rfl, rfl, ⟨_, _, rfl, r1, ⟨_, _, rfl, rfl, rfl⟩⟩⟩, rfl⟩
theorem Panel.fld0 : Fld Panel 0 (fun s => s.Sensors) := by
  rintro S cs s ⟨x0, y0, rfl, a0, ⟨x1, y1, rfl, a1, ⟨x2, y2, rfl, a2, a3⟩⟩⟩
  exact ⟨[], x0, x1 ++ (x2 ++ (y2)), by simp, rfl, a0⟩
theorem Panel.fld1 : Fld Panel 1 (fun s => s.Doors) := by
  rintro S cs s ⟨x0, y0, rfl, a0, ⟨x1, y1, rfl, a1, ⟨x2, y2, rfl, a2, a3⟩⟩⟩
  have l0 := Enc.len a0
  exact ⟨x0, x1, x2 ++ (y2), by simp, by rw [l0]; rfl, a1⟩
theorem Panel.fld2 : Fld Panel 2 (fun s => s.Stale) := by
  rintro S cs s ⟨x0, y0, rfl, a0, ⟨x1, y1, rfl, a1, ⟨x2, y2, rfl, a2, a3⟩⟩⟩
  have l0 := Enc.len a0
  have l1 := Enc.len a1
  exact ⟨x0 ++ (x1), x2, y2, by simp, by simp [l0, l1]; rfl, a2⟩
theorem Panel.fld3 : Fld Panel 3 (fun s => s.Limit) := by
  rintro S cs s ⟨x0, y0, rfl, a0, ⟨x1, y1, rfl, a1, ⟨x2, y2, rfl, a2, a3⟩⟩⟩
  have l0 := Enc.len a0
  have l1 := Enc.len a1
  have l2 := Enc.len a2
  exact ⟨x0 ++ (x1 ++ (x2)), y2, [], by simp, by simp [l0, l1, l2]; rfl, a3⟩
structure Control_tick where
  power : Bool
  values : (List Int)
  ages : (List Int)
  said : (List Int)
  heard : (List Int)
  stood : (List Bool)
instance : Enc Control_tick := encBy fun s => (s.power, s.values, s.ages, s.said, s.heard, s.stood)
theorem Control_tick.inv {S : PH} {v : Go.Value} {s : Control_tick} (h : RV S v s) : ∃ c1 c2 c3 c4 c5, v = .agg #[.bool (s.power), c1, c2, c3, c4, c5] ∧ RV S c1 s.values ∧ RV S c2 s.ages ∧ RV S c3 s.said ∧ RV S c4 s.heard ∧ RV S c5 s.stood := by
  obtain ⟨cs, hr, rfl⟩ := h
  obtain ⟨_, _, rfl, h0, ⟨_, _, rfl, h1, ⟨_, _, rfl, h2, ⟨_, _, rfl, h3, ⟨_, _, rfl, h4, h5⟩⟩⟩⟩⟩ := hr
  obtain rfl := h0
  obtain ⟨qh1, rfl, rh1⟩ := rep_one (by rfl) h1
  obtain ⟨qh2, rfl, rh2⟩ := rep_one (by rfl) h2
  obtain ⟨qh3, rfl, rh3⟩ := rep_one (by rfl) h3
  obtain ⟨qh4, rfl, rh4⟩ := rep_one (by rfl) h4
  obtain ⟨qh5, rfl, rh5⟩ := rep_one (by rfl) h5
  exact ⟨qh1, qh2, qh3, qh4, qh5, rfl, rh1, rh2, rh3, rh4, rh5⟩
theorem Control_tick.rv {S : PH} {s : Control_tick} {c1 : Go.Value} (h1 : RV S c1 s.values) {c2 : Go.Value} (h2 : RV S c2 s.ages) {c3 : Go.Value} (h3 : RV S c3 s.said) {c4 : Go.Value} (h4 : RV S c4 s.heard) {c5 : Go.Value} (h5 : RV S c5 s.stood) : RV S (.agg #[.bool (s.power), c1, c2, c3, c4, c5]) s := by
  have r1 := rv_rep (by rfl) h1
  have r2 := rv_rep (by rfl) h2
  have r3 := rv_rep (by rfl) h3
  have r4 := rv_rep (by rfl) h4
  have r5 := rv_rep (by rfl) h5
  exact ⟨_, ⟨_, _, rfl, rfl, ⟨_, _, rfl, r1, ⟨_, _, rfl, r2, ⟨_, _, rfl, r3, ⟨_, _, rfl, r4, r5⟩⟩⟩⟩⟩, rfl⟩
theorem Control_tick.fld0 : Fld Control_tick 0 (fun s => s.power) := by
  rintro S cs s ⟨x0, y0, rfl, a0, ⟨x1, y1, rfl, a1, ⟨x2, y2, rfl, a2, ⟨x3, y3, rfl, a3, ⟨x4, y4, rfl, a4, a5⟩⟩⟩⟩⟩
  exact ⟨[], x0, x1 ++ (x2 ++ (x3 ++ (x4 ++ (y4)))), by simp, rfl, a0⟩
theorem Control_tick.fld1 : Fld Control_tick 1 (fun s => s.values) := by
  rintro S cs s ⟨x0, y0, rfl, a0, ⟨x1, y1, rfl, a1, ⟨x2, y2, rfl, a2, ⟨x3, y3, rfl, a3, ⟨x4, y4, rfl, a4, a5⟩⟩⟩⟩⟩
  have l0 := Enc.len a0
  exact ⟨x0, x1, x2 ++ (x3 ++ (x4 ++ (y4))), by simp, by rw [l0]; rfl, a1⟩
theorem Control_tick.fld2 : Fld Control_tick 2 (fun s => s.ages) := by
  rintro S cs s ⟨x0, y0, rfl, a0, ⟨x1, y1, rfl, a1, ⟨x2, y2, rfl, a2, ⟨x3, y3, rfl, a3, ⟨x4, y4, rfl, a4, a5⟩⟩⟩⟩⟩
  have l0 := Enc.len a0
  have l1 := Enc.len a1
  exact ⟨x0 ++ (x1), x2, x3 ++ (x4 ++ (y4)), by simp, by simp [l0, l1]; rfl, a2⟩
theorem Control_tick.fld3 : Fld Control_tick 3 (fun s => s.said) := by
  rintro S cs s ⟨x0, y0, rfl, a0, ⟨x1, y1, rfl, a1, ⟨x2, y2, rfl, a2, ⟨x3, y3, rfl, a3, ⟨x4, y4, rfl, a4, a5⟩⟩⟩⟩⟩
  have l0 := Enc.len a0
  have l1 := Enc.len a1
  have l2 := Enc.len a2
  exact ⟨x0 ++ (x1 ++ (x2)), x3, x4 ++ (y4), by simp, by simp [l0, l1, l2]; rfl, a3⟩
theorem Control_tick.fld4 : Fld Control_tick 4 (fun s => s.heard) := by
  rintro S cs s ⟨x0, y0, rfl, a0, ⟨x1, y1, rfl, a1, ⟨x2, y2, rfl, a2, ⟨x3, y3, rfl, a3, ⟨x4, y4, rfl, a4, a5⟩⟩⟩⟩⟩
  have l0 := Enc.len a0
  have l1 := Enc.len a1
  have l2 := Enc.len a2
  have l3 := Enc.len a3
  exact ⟨x0 ++ (x1 ++ (x2 ++ (x3))), x4, y4, by simp, by simp [l0, l1, l2, l3]; rfl, a4⟩
theorem Control_tick.fld5 : Fld Control_tick 5 (fun s => s.stood) := by
  rintro S cs s ⟨x0, y0, rfl, a0, ⟨x1, y1, rfl, a1, ⟨x2, y2, rfl, a2, ⟨x3, y3, rfl, a3, ⟨x4, y4, rfl, a4, a5⟩⟩⟩⟩⟩
  have l0 := Enc.len a0
  have l1 := Enc.len a1
  have l2 := Enc.len a2
  have l3 := Enc.len a3
  have l4 := Enc.len a4
  exact ⟨x0 ++ (x1 ++ (x2 ++ (x3 ++ (x4)))), y4, [], by simp, by simp [l0, l1, l2, l3, l4]; rfl, a5⟩
structure Control_door where
  left : Int
  shut : Bool
  deriving DecidableEq
instance : Enc Control_door := encBy fun s => (s.left, s.shut)
instance : Ind Control_door := ⟨fun S T cs x h => Ind.ind (α := Int × Bool) S T cs _ h⟩
theorem Control_door.inv {S : PH} {v : Go.Value} {s : Control_door} (h : RV S v s) : v = .agg #[.int .i64 (s.left), .bool (s.shut)] := by
  obtain ⟨cs, hr, rfl⟩ := h
  obtain ⟨_, _, rfl, h0, h1⟩ := hr
  obtain rfl := h0
  obtain rfl := h1
  rfl
theorem Control_door.rv {S : PH} {s : Control_door} : RV S (.agg #[.int .i64 (s.left), .bool (s.shut)]) s := by
  exact ⟨_, ⟨_, _, rfl, rfl, rfl⟩, rfl⟩
theorem Control_door.fld0 : Fld Control_door 0 (fun s => s.left) := by
  rintro S cs s ⟨x0, y0, rfl, a0, a1⟩
  exact ⟨[], x0, y0, by simp, rfl, a0⟩
theorem Control_door.fld1 : Fld Control_door 1 (fun s => s.shut) := by
  rintro S cs s ⟨x0, y0, rfl, a0, a1⟩
  have l0 := Enc.len a0
  exact ⟨x0, y0, [], by simp, by rw [l0]; rfl, a1⟩
structure Law08_Where where
  Ticks : Int
  Door : Int
  deriving DecidableEq
instance : Enc Law08_Where := encBy fun s => (s.Ticks, s.Door)
instance : Ind Law08_Where := ⟨fun S T cs x h => Ind.ind (α := Int × Int) S T cs _ h⟩
theorem Law08_Where.inv {S : PH} {v : Go.Value} {s : Law08_Where} (h : RV S v s) : v = .agg #[.int .i64 (s.Ticks), .int .i64 (s.Door)] := by
  obtain ⟨cs, hr, rfl⟩ := h
  obtain ⟨_, _, rfl, h0, h1⟩ := hr
  obtain rfl := h0
  obtain rfl := h1
  rfl
theorem Law08_Where.rv {S : PH} {s : Law08_Where} : RV S (.agg #[.int .i64 (s.Ticks), .int .i64 (s.Door)]) s := by
  exact ⟨_, ⟨_, _, rfl, rfl, rfl⟩, rfl⟩
theorem Law08_Where.fld0 : Fld Law08_Where 0 (fun s => s.Ticks) := by
  rintro S cs s ⟨x0, y0, rfl, a0, a1⟩
  exact ⟨[], x0, y0, by simp, rfl, a0⟩
theorem Law08_Where.fld1 : Fld Law08_Where 1 (fun s => s.Door) := by
  rintro S cs s ⟨x0, y0, rfl, a0, a1⟩
  have l0 := Enc.len a0
  exact ⟨x0, y0, [], by simp, by rw [l0]; rfl, a1⟩
structure Ref08_Frame where
  Power : Bool
  Values : (List Int)
  Ages : (List Int)
  Told : (List Int)
  Shut : (List Bool)
instance : Enc Ref08_Frame := encBy fun s => (s.Power, s.Values, s.Ages, s.Told, s.Shut)
theorem Ref08_Frame.inv {S : PH} {v : Go.Value} {s : Ref08_Frame} (h : RV S v s) : ∃ c1 c2 c3 c4, v = .agg #[.bool (s.Power), c1, c2, c3, c4] ∧ RV S c1 s.Values ∧ RV S c2 s.Ages ∧ RV S c3 s.Told ∧ RV S c4 s.Shut := by
  obtain ⟨cs, hr, rfl⟩ := h
  obtain ⟨_, _, rfl, h0, ⟨_, _, rfl, h1, ⟨_, _, rfl, h2, ⟨_, _, rfl, h3, h4⟩⟩⟩⟩ := hr
  obtain rfl := h0
  obtain ⟨qh1, rfl, rh1⟩ := rep_one (by rfl) h1
  obtain ⟨qh2, rfl, rh2⟩ := rep_one (by rfl) h2
  obtain ⟨qh3, rfl, rh3⟩ := rep_one (by rfl) h3
  obtain ⟨qh4, rfl, rh4⟩ := rep_one (by rfl) h4
  exact ⟨qh1, qh2, qh3, qh4, rfl, rh1, rh2, rh3, rh4⟩
theorem Ref08_Frame.rv {S : PH} {s : Ref08_Frame} {c1 : Go.Value} (h1 : RV S c1 s.Values) {c2 : Go.Value} (h2 : RV S c2 s.Ages) {c3 : Go.Value} (h3 : RV S c3 s.Told) {c4 : Go.Value} (h4 : RV S c4 s.Shut) : RV S (.agg #[.bool (s.Power), c1, c2, c3, c4]) s := by
  have r1 := rv_rep (by rfl) h1
  have r2 := rv_rep (by rfl) h2
  have r3 := rv_rep (by rfl) h3
  have r4 := rv_rep (by rfl) h4
  exact ⟨_, ⟨_, _, rfl, rfl, ⟨_, _, rfl, r1, ⟨_, _, rfl, r2, ⟨_, _, rfl, r3, r4⟩⟩⟩⟩, rfl⟩
theorem Ref08_Frame.fld0 : Fld Ref08_Frame 0 (fun s => s.Power) := by
  rintro S cs s ⟨x0, y0, rfl, a0, ⟨x1, y1, rfl, a1, ⟨x2, y2, rfl, a2, ⟨x3, y3, rfl, a3, a4⟩⟩⟩⟩
  exact ⟨[], x0, x1 ++ (x2 ++ (x3 ++ (y3))), by simp, rfl, a0⟩
theorem Ref08_Frame.fld1 : Fld Ref08_Frame 1 (fun s => s.Values) := by
  rintro S cs s ⟨x0, y0, rfl, a0, ⟨x1, y1, rfl, a1, ⟨x2, y2, rfl, a2, ⟨x3, y3, rfl, a3, a4⟩⟩⟩⟩
  have l0 := Enc.len a0
  exact ⟨x0, x1, x2 ++ (x3 ++ (y3)), by simp, by rw [l0]; rfl, a1⟩
theorem Ref08_Frame.fld2 : Fld Ref08_Frame 2 (fun s => s.Ages) := by
  rintro S cs s ⟨x0, y0, rfl, a0, ⟨x1, y1, rfl, a1, ⟨x2, y2, rfl, a2, ⟨x3, y3, rfl, a3, a4⟩⟩⟩⟩
  have l0 := Enc.len a0
  have l1 := Enc.len a1
  exact ⟨x0 ++ (x1), x2, x3 ++ (y3), by simp, by simp [l0, l1]; rfl, a2⟩
theorem Ref08_Frame.fld3 : Fld Ref08_Frame 3 (fun s => s.Told) := by
  rintro S cs s ⟨x0, y0, rfl, a0, ⟨x1, y1, rfl, a1, ⟨x2, y2, rfl, a2, ⟨x3, y3, rfl, a3, a4⟩⟩⟩⟩
  have l0 := Enc.len a0
  have l1 := Enc.len a1
  have l2 := Enc.len a2
  exact ⟨x0 ++ (x1 ++ (x2)), x3, y3, by simp, by simp [l0, l1, l2]; rfl, a3⟩
theorem Ref08_Frame.fld4 : Fld Ref08_Frame 4 (fun s => s.Shut) := by
  rintro S cs s ⟨x0, y0, rfl, a0, ⟨x1, y1, rfl, a1, ⟨x2, y2, rfl, a2, ⟨x3, y3, rfl, a3, a4⟩⟩⟩⟩
  have l0 := Enc.len a0
  have l1 := Enc.len a1
  have l2 := Enc.len a2
  have l3 := Enc.len a3
  exact ⟨x0 ++ (x1 ++ (x2 ++ (x3))), y3, [], by simp, by simp [l0, l1, l2, l3]; rfl, a4⟩
structure Law08_Film where
  Ticks : Int
  Rows : (List Int)
instance : Enc Law08_Film := encBy fun s => (s.Ticks, s.Rows)
theorem Law08_Film.inv {S : PH} {v : Go.Value} {s : Law08_Film} (h : RV S v s) : ∃ c1, v = .agg #[.int .i64 (s.Ticks), c1] ∧ RV S c1 s.Rows := by
  obtain ⟨cs, hr, rfl⟩ := h
  obtain ⟨_, _, rfl, h0, h1⟩ := hr
  obtain rfl := h0
  obtain ⟨qh1, rfl, rh1⟩ := rep_one (by rfl) h1
  exact ⟨qh1, rfl, rh1⟩
theorem Law08_Film.rv {S : PH} {s : Law08_Film} {c1 : Go.Value} (h1 : RV S c1 s.Rows) : RV S (.agg #[.int .i64 (s.Ticks), c1]) s := by
  have r1 := rv_rep (by rfl) h1
  exact ⟨_, ⟨_, _, rfl, rfl, r1⟩, rfl⟩
theorem Law08_Film.fld0 : Fld Law08_Film 0 (fun s => s.Ticks) := by
  rintro S cs s ⟨x0, y0, rfl, a0, a1⟩
  exact ⟨[], x0, y0, by simp, rfl, a0⟩
theorem Law08_Film.fld1 : Fld Law08_Film 1 (fun s => s.Rows) := by
  rintro S cs s ⟨x0, y0, rfl, a0, a1⟩
  have l0 := Enc.len a0
  exact ⟨x0, y0, [], by simp, by rw [l0]; rfl, a1⟩
structure Control_cutter where
  ticks : (List Control_tick)
  wait : Int
  door : Int
  known : MRef
instance : Enc Control_cutter := encBy fun s => (s.ticks, s.wait, s.door, s.known)
theorem Control_cutter.inv {S : PH} {v : Go.Value} {s : Control_cutter} (h : RV S v s) : ∃ c0, v = .agg #[c0, .int .i64 (s.wait), .int .i64 (s.door), .map (some (s.known.g))] ∧ RV S c0 s.ticks := by
  obtain ⟨cs, hr, rfl⟩ := h
  obtain ⟨_, _, rfl, h0, ⟨_, _, rfl, h1, ⟨_, _, rfl, h2, h3⟩⟩⟩ := hr
  obtain ⟨qh0, rfl, rh0⟩ := rep_one (by rfl) h0
  obtain rfl := h1
  obtain rfl := h2
  obtain rfl := h3
  exact ⟨qh0, rfl, rh0⟩
theorem Control_cutter.rv {S : PH} {s : Control_cutter} {c0 : Go.Value} (h0 : RV S c0 s.ticks) : RV S (.agg #[c0, .int .i64 (s.wait), .int .i64 (s.door), .map (some (s.known.g))]) s := by
  have r0 := rv_rep (by rfl) h0
  exact ⟨_, ⟨_, _, rfl, r0, ⟨_, _, rfl, rfl, ⟨_, _, rfl, rfl, rfl⟩⟩⟩, rfl⟩
theorem Control_cutter.fld0 : Fld Control_cutter 0 (fun s => s.ticks) := by
  rintro S cs s ⟨x0, y0, rfl, a0, ⟨x1, y1, rfl, a1, ⟨x2, y2, rfl, a2, a3⟩⟩⟩
  exact ⟨[], x0, x1 ++ (x2 ++ (y2)), by simp, rfl, a0⟩
theorem Control_cutter.fld1 : Fld Control_cutter 1 (fun s => s.wait) := by
  rintro S cs s ⟨x0, y0, rfl, a0, ⟨x1, y1, rfl, a1, ⟨x2, y2, rfl, a2, a3⟩⟩⟩
  have l0 := Enc.len a0
  exact ⟨x0, x1, x2 ++ (y2), by simp, by rw [l0]; rfl, a1⟩
theorem Control_cutter.fld2 : Fld Control_cutter 2 (fun s => s.door) := by
  rintro S cs s ⟨x0, y0, rfl, a0, ⟨x1, y1, rfl, a1, ⟨x2, y2, rfl, a2, a3⟩⟩⟩
  have l0 := Enc.len a0
  have l1 := Enc.len a1
  exact ⟨x0 ++ (x1), x2, y2, by simp, by simp [l0, l1]; rfl, a2⟩
theorem Control_cutter.fld3 : Fld Control_cutter 3 (fun s => s.known) := by
  rintro S cs s ⟨x0, y0, rfl, a0, ⟨x1, y1, rfl, a1, ⟨x2, y2, rfl, a2, a3⟩⟩⟩
  have l0 := Enc.len a0
  have l1 := Enc.len a1
  have l2 := Enc.len a2
  exact ⟨x0 ++ (x1 ++ (x2)), y2, [], by simp, by simp [l0, l1, l2]; rfl, a3⟩
structure Control_place where
  tick : Int
  door : Control_door
  deriving DecidableEq
instance : Enc Control_place := encBy fun s => (s.tick, s.door)
instance : Ind Control_place := ⟨fun S T cs x h => Ind.ind (α := Int × Control_door) S T cs _ h⟩
theorem Control_place.inv {S : PH} {v : Go.Value} {s : Control_place} (h : RV S v s) : v = .agg #[.int .i64 (s.tick), .int .i64 (s.door.left), .bool (s.door.shut)] := by
  obtain ⟨cs, hr, rfl⟩ := h
  obtain ⟨_, _, rfl, h0, ⟨_, _, rfl, h1, h2⟩⟩ := hr
  obtain rfl := h0
  obtain rfl := h1
  obtain rfl := h2
  rfl
theorem Control_place.rv {S : PH} {s : Control_place} : RV S (.agg #[.int .i64 (s.tick), .int .i64 (s.door.left), .bool (s.door.shut)]) s := by
  exact ⟨_, ⟨_, _, rfl, rfl, ⟨_, _, rfl, rfl, rfl⟩⟩, rfl⟩
theorem Control_place.fld0 : Fld Control_place 0 (fun s => s.tick) := by
  rintro S cs s ⟨x0, y0, rfl, a0, a1⟩
  exact ⟨[], x0, y0, by simp, rfl, a0⟩
theorem Control_place.fld1 : Fld Control_place 1 (fun s => s.door) := by
  rintro S cs s ⟨x0, y0, rfl, a0, a1⟩
  have l0 := Enc.len a0
  exact ⟨x0, y0, [], by simp, by rw [l0]; rfl, a1⟩
structure Law08_Loss where
  Ticks : Int
  Door : Int
  Losses : (List Int)
instance : Enc Law08_Loss := encBy fun s => (s.Ticks, s.Door, s.Losses)
theorem Law08_Loss.inv {S : PH} {v : Go.Value} {s : Law08_Loss} (h : RV S v s) : ∃ c2, v = .agg #[.int .i64 (s.Ticks), .int .i64 (s.Door), c2] ∧ RV S c2 s.Losses := by
  obtain ⟨cs, hr, rfl⟩ := h
  obtain ⟨_, _, rfl, h0, ⟨_, _, rfl, h1, h2⟩⟩ := hr
  obtain rfl := h0
  obtain rfl := h1
  obtain ⟨qh2, rfl, rh2⟩ := rep_one (by rfl) h2
  exact ⟨qh2, rfl, rh2⟩
theorem Law08_Loss.rv {S : PH} {s : Law08_Loss} {c2 : Go.Value} (h2 : RV S c2 s.Losses) : RV S (.agg #[.int .i64 (s.Ticks), .int .i64 (s.Door), c2]) s := by
  have r2 := rv_rep (by rfl) h2
  exact ⟨_, ⟨_, _, rfl, rfl, ⟨_, _, rfl, rfl, r2⟩⟩, rfl⟩
theorem Law08_Loss.fld0 : Fld Law08_Loss 0 (fun s => s.Ticks) := by
  rintro S cs s ⟨x0, y0, rfl, a0, ⟨x1, y1, rfl, a1, a2⟩⟩
  exact ⟨[], x0, x1 ++ (y1), by simp, rfl, a0⟩
theorem Law08_Loss.fld1 : Fld Law08_Loss 1 (fun s => s.Door) := by
  rintro S cs s ⟨x0, y0, rfl, a0, ⟨x1, y1, rfl, a1, a2⟩⟩
  have l0 := Enc.len a0
  exact ⟨x0, x1, y1, by simp, by rw [l0]; rfl, a1⟩
theorem Law08_Loss.fld2 : Fld Law08_Loss 2 (fun s => s.Losses) := by
  rintro S cs s ⟨x0, y0, rfl, a0, ⟨x1, y1, rfl, a1, a2⟩⟩
  have l0 := Enc.len a0
  have l1 := Enc.len a1
  exact ⟨x0 ++ (x1), y1, [], by simp, by simp [l0, l1]; rfl, a2⟩
structure FrameV where
  Power : Bool
  Values : (List Int)
  Ages : (List Int)
  Told : (List Int)
  Shut : Raw
instance : Enc FrameV := encBy fun s => (s.Power, s.Values, s.Ages, s.Told, s.Shut)
theorem FrameV.rv {S : PH} {s : FrameV} {c1 : Go.Value} (h1 : RV S c1 s.Values) {c2 : Go.Value} (h2 : RV S c2 s.Ages) {c3 : Go.Value} (h3 : RV S c3 s.Told) (h4 : s.Shut.v.oneCell' = true) : RV S (.agg #[.bool (s.Power), c1, c2, c3, s.Shut.v]) s := by
  have r1 := rv_rep (by rfl) h1
  have r2 := rv_rep (by rfl) h2
  have r3 := rv_rep (by rfl) h3
  exact ⟨_, ⟨_, _, rfl, rfl, ⟨_, _, rfl, r1, ⟨_, _, rfl, r2, ⟨_, _, rfl, r3, rfl, h4⟩⟩⟩⟩, rfl⟩
/-- A raw frame is a frame, where its Shut stands for a list. -/
def FrR (S : PH) (y : FrameV) (x : Ref08_Frame) : Prop := y.Power = x.Power ∧ y.Values = x.Values ∧ y.Ages = x.Ages ∧ y.Told = x.Told ∧ RV S y.Shut.v x.Shut
theorem FrR.mono {S T : PH} (hle : S.Le T) {y : FrameV} {x : Ref08_Frame} (h : FrR S y x) : FrR T y x := ⟨h.1, h.2.1, h.2.2.1, h.2.2.2.1, h.2.2.2.2.mono hle⟩
theorem frame_to {S : PH} : ∀ cs (y : FrameV) (x : Ref08_Frame), Enc.rep S cs y → FrR S y x → Enc.rep S cs x := by
  rintro cs ⟨a, b, c, d, ⟨e⟩⟩ ⟨a', b', c', d', e'⟩ h ⟨rfl, rfl, rfl, rfl, hs⟩
  obtain ⟨x0, y0, rfl, h0, x1, y1, rfl, h1, x2, y2, rfl, h2, x3, y3, rfl, h3, h4, h5⟩ := h
  have h4 : y3 = [e] := h4
  subst h4
  exact ⟨_, _, rfl, h0, _, _, rfl, h1, _, _, rfl, h2, _, _, rfl, h3, rv_rep (by rfl) hs⟩
theorem frame_back {S : PH} : ∀ cs (x : Ref08_Frame), Enc.rep S cs x → ∃ y : FrameV, Enc.rep S cs y ∧ FrR S y x := by
  rintro cs ⟨a, b, c, d, e⟩ h
  obtain ⟨x0, y0, rfl, h0, x1, y1, rfl, h1, x2, y2, rfl, h2, x3, y3, rfl, h3, h4⟩ := h
  obtain ⟨q, rfl, rq⟩ := rep_one (by rfl) h4
  exact ⟨⟨a, b, c, d, ⟨q⟩⟩, ⟨_, _, rfl, h0, _, _, rfl, h1, _, _, rfl, h2, _, _, rfl, h3, rfl, Enc.cell1 h4 _ (by simp)⟩, rfl, rfl, rfl, rfl, rq⟩
theorem el85v : Elem Try.prog FrameV 85 104 (.agg #[.bool false, .slice none 0 0, .slice none 0 0, .slice none 0 0, .slice none 0 0]) (⟨false, [], [], [], ⟨.slice none 0 0⟩⟩ : FrameV) :=
  ⟨_, (by kernel_rfl : Try.prog.info? 85 = some Try.t85), rfl, rfl, rfl, rfl, fun S => (FrameV.rv (s := ⟨false, [], [], [], ⟨.slice none 0 0⟩⟩) rv_nil rv_nil rv_nil rfl).cells⟩
theorem frame_rv {S : PH} {v : Go.Value} {m : List FrameV} {l : List Ref08_Frame} (hR : Rel (FrR S) m l) (hv : RV S v m) : RV S v l := RV.to (R := FrR S) rfl frame_to hR hv
theorem frame_row {w : World} {S : PH} {O : List HP} {T : TypeId} {v : Go.Value} {m : List FrameV} {l : List Ref08_Frame} (hR : Rel (FrR S) m l) (hI : Inv w S (Row T v m :: O)) : Inv w S (Row T v l :: O) := Inv.rowTo (R := FrR S) rfl frame_to hR hI
theorem frame_rel {S : PH} {m : List FrameV} {l : List Ref08_Frame} (h : Rel (FrR S) m l) {y : FrameV} {x : Ref08_Frame} (hx : FrR S y x) : Rel (FrR S) (m ++ [y]) (l ++ [x]) := Rel.append h ⟨hx, trivial⟩
theorem frame_relm {S T : PH} (hle : S.Le T) {m : List FrameV} {l : List Ref08_Frame} (h : Rel (FrR S) m l) : Rel (FrR T) m l := Rel.mono (R := FrR S) (R' := FrR T) (fun _ _ hh => FrR.mono hle hh) h

abbrev Frm := Go.Proofs.Ytfeomcdhhgeilaa.Pad.Fr
theorem ca15 : Callable Try.prog 15 := ⟨_, Try.func15, rfl, rfl⟩
theorem ca16 : Callable Try.prog 16 := ⟨_, Try.func16, rfl, rfl⟩
theorem ca17 : Callable Try.prog 17 := ⟨_, Try.func17, rfl, rfl⟩
theorem ca18 : Callable Try.prog 18 := ⟨_, Try.func18, rfl, rfl⟩
theorem ca19 : Callable Try.prog 19 := ⟨_, Try.func19, rfl, rfl⟩
theorem ca20 : Callable Try.prog 20 := ⟨_, Try.func20, rfl, rfl⟩
theorem ca21 : Callable Try.prog 21 := ⟨_, Try.func21, rfl, rfl⟩
theorem ca22 : Callable Try.prog 22 := ⟨_, Try.func22, rfl, rfl⟩
theorem ca23 : Callable Try.prog 23 := ⟨_, Try.func23, rfl, rfl⟩
theorem ca24 : Callable Try.prog 24 := ⟨_, Try.func24, rfl, rfl⟩
theorem ca25 : Callable Try.prog 25 := ⟨_, Try.func25, rfl, rfl⟩
theorem ca26 : Callable Try.prog 26 := ⟨_, Try.func26, rfl, rfl⟩
theorem ca27 : Callable Try.prog 27 := ⟨_, Try.func27, rfl, rfl⟩
theorem ca28 : Callable Try.prog 28 := ⟨_, Try.func28, rfl, rfl⟩
theorem ca29 : Callable Try.prog 29 := ⟨_, Try.func29, rfl, rfl⟩
theorem ca30 : Callable Try.prog 30 := ⟨_, Try.func30, rfl, rfl⟩
theorem ca31 : Callable Try.prog 31 := ⟨_, Try.func31, rfl, rfl⟩
theorem ca32 : Callable Try.prog 32 := ⟨_, Try.func32, rfl, rfl⟩
theorem ca33 : Callable Try.prog 33 := ⟨_, Try.func33, rfl, rfl⟩
theorem ca34 : Callable Try.prog 34 := ⟨_, Try.func34, rfl, rfl⟩
theorem ca35 : Callable Try.prog 35 := ⟨_, Try.func35, rfl, rfl⟩
theorem ca36 : Callable Try.prog 36 := ⟨_, Try.func36, rfl, rfl⟩
theorem ca37 : Callable Try.prog 37 := ⟨_, Try.func37, rfl, rfl⟩
theorem ca38 : Callable Try.prog 38 := ⟨_, Try.func38, rfl, rfl⟩
theorem ca39 : Callable Try.prog 39 := ⟨_, Try.func39, rfl, rfl⟩
theorem ca40 : Callable Try.prog 40 := ⟨_, Try.func40, rfl, rfl⟩
theorem ca41 : Callable Try.prog 41 := ⟨_, Try.func41, rfl, rfl⟩
theorem ca42 : Callable Try.prog 42 := ⟨_, Try.func42, rfl, rfl⟩
theorem ca43 : Callable Try.prog 43 := ⟨_, Try.func43, rfl, rfl⟩
theorem ca44 : Callable Try.prog 44 := ⟨_, Try.func44, rfl, rfl⟩
theorem ca45 : Callable Try.prog 45 := ⟨_, Try.func45, rfl, rfl⟩
theorem ca46 : Callable Try.prog 46 := ⟨_, Try.func46, rfl, rfl⟩
theorem ca47 : Callable Try.prog 47 := ⟨_, Try.func47, rfl, rfl⟩
theorem ca48 : Callable Try.prog 48 := ⟨_, Try.func48, rfl, rfl⟩
theorem ca49 : Callable Try.prog 49 := ⟨_, Try.func49, rfl, rfl⟩
theorem ca50 : Callable Try.prog 50 := ⟨_, Try.func50, rfl, rfl⟩
theorem ca51 : Callable Try.prog 51 := ⟨_, Try.func51, rfl, rfl⟩
theorem ca52 : Callable Try.prog 52 := ⟨_, Try.func52, rfl, rfl⟩
theorem ca53 : Callable Try.prog 53 := ⟨_, Try.func53, rfl, rfl⟩
theorem ca54 : Callable Try.prog 54 := ⟨_, Try.func54, rfl, rfl⟩
theorem ca55 : Callable Try.prog 55 := ⟨_, Try.func55, rfl, rfl⟩
theorem ca56 : Callable Try.prog 56 := ⟨_, Try.func56, rfl, rfl⟩
theorem ca57 : Callable Try.prog 57 := ⟨_, Try.func57, rfl, rfl⟩
theorem ca58 : Callable Try.prog 58 := ⟨_, Try.func58, rfl, rfl⟩
theorem ca59 : Callable Try.prog 59 := ⟨_, Try.func59, rfl, rfl⟩
theorem ca60 : Callable Try.prog 60 := ⟨_, Try.func60, rfl, rfl⟩
theorem ca61 : Callable Try.prog 61 := ⟨_, Try.func61, rfl, rfl⟩
theorem ca62 : Callable Try.prog 62 := ⟨_, Try.func62, rfl, rfl⟩
theorem ca63 : Callable Try.prog 63 := ⟨_, Try.func63, rfl, rfl⟩
theorem ca64 : Callable Try.prog 64 := ⟨_, Try.func64, rfl, rfl⟩
theorem ca65 : Callable Try.prog 65 := ⟨_, Try.func65, rfl, rfl⟩
theorem ca66 : Callable Try.prog 66 := ⟨_, Try.func66, rfl, rfl⟩
theorem ca67 : Callable Try.prog 67 := ⟨_, Try.func67, rfl, rfl⟩
theorem ca68 : Callable Try.prog 68 := ⟨_, Try.func68, rfl, rfl⟩
theorem ca69 : Callable Try.prog 69 := ⟨_, Try.func69, rfl, rfl⟩
theorem ca70 : Callable Try.prog 70 := ⟨_, Try.func70, rfl, rfl⟩
theorem ca71 : Callable Try.prog 71 := ⟨_, Try.func71, rfl, rfl⟩
theorem ca72 : Callable Try.prog 72 := ⟨_, Try.func72, rfl, rfl⟩
theorem ca73 : Callable Try.prog 73 := ⟨_, Try.func73, rfl, rfl⟩
theorem ca74 : Callable Try.prog 74 := ⟨_, Try.func74, rfl, rfl⟩
theorem ca75 : Callable Try.prog 75 := ⟨_, Try.func75, rfl, rfl⟩
theorem ca76 : Callable Try.prog 76 := ⟨_, Try.func76, rfl, rfl⟩
theorem ca77 : Callable Try.prog 77 := ⟨_, Try.func77, rfl, rfl⟩
theorem el3 : Elem Try.prog Int 3 8 (.int .i64 0) (0 : Int) := ⟨_, (by kernel_rfl : Try.prog.info? 3 = some Try.t3), rfl, rfl, rfl, rfl, fun S => rfl⟩
theorem el33 : Elem Try.prog Gate 33 32 (.agg #[.int .i64 0, .slice none 0 0]) (⟨0, []⟩ : Gate) := ⟨_, (by kernel_rfl : Try.prog.info? 33 = some Try.t33), rfl, rfl, rfl, rfl, fun S => (Gate.rv (s := ⟨0, []⟩) rv_nil).cells⟩
theorem el34 : Elem Try.prog (List Int) 34 24 (.slice none 0 0) ([] : (List Int)) := ⟨_, (by kernel_rfl : Try.prog.info? 34 = some Try.t34), rfl, rfl, rfl, rfl, fun S => rv_nil.cells⟩
theorem el4 : Elem Try.prog Bool 4 1 (.bool false) (false : Bool) := ⟨_, (by kernel_rfl : Try.prog.info? 4 = some Try.t4), rfl, rfl, rfl, rfl, fun S => rfl⟩
theorem el44 : Elem Try.prog Sense 44 24 (.agg #[.int .i64 0, .int .i64 0, .bool false]) (⟨0, 0, false⟩ : Sense) := ⟨_, (by kernel_rfl : Try.prog.info? 44 = some Try.t44), rfl, rfl, rfl, rfl, fun S => (Sense.rv (s := ⟨0, 0, false⟩) ).cells⟩
theorem el46 : Elem Try.prog Signal 46 32 (.agg #[.int .i64 0, .int .i64 0, .int .i64 0, .int .i64 0]) (⟨0, 0, 0, 0⟩ : Signal) := ⟨_, (by kernel_rfl : Try.prog.info? 46 = some Try.t46), rfl, rfl, rfl, rfl, fun S => (Signal.rv (s := ⟨0, 0, 0, 0⟩) ).cells⟩
theorem el87 : Elem Try.prog Control_tick 87 128 (.agg #[.bool false, .slice none 0 0, .slice none 0 0, .slice none 0 0, .slice none 0 0, .slice none 0 0]) (⟨false, [], [], [], [], []⟩ : Control_tick) := ⟨_, (by kernel_rfl : Try.prog.info? 87 = some Try.t87), rfl, rfl, rfl, rfl, fun S => (Control_tick.rv (s := ⟨false, [], [], [], [], []⟩) rv_nil rv_nil rv_nil rv_nil rv_nil).cells⟩
theorem el97 : Elem Try.prog Control_door 97 16 (.agg #[.int .i64 0, .bool false]) (⟨0, false⟩ : Control_door) := ⟨_, (by kernel_rfl : Try.prog.info? 97 = some Try.t97), rfl, rfl, rfl, rfl, fun S => (Control_door.rv (s := ⟨0, false⟩) ).cells⟩
theorem fa24_0 : FieldAt Try.prog 24 0 0 := fun w a => by kernel_rfl
theorem fa24_1 : FieldAt Try.prog 24 1 1 := fun w a => by kernel_rfl
theorem fa24_2 : FieldAt Try.prog 24 2 2 := fun w a => by kernel_rfl
theorem fa24_3 : FieldAt Try.prog 24 3 3 := fun w a => by kernel_rfl
theorem fa27_0 : FieldAt Try.prog 27 0 0 := fun w a => by kernel_rfl
theorem fa27_1 : FieldAt Try.prog 27 1 1 := fun w a => by kernel_rfl
theorem fa33_0 : FieldAt Try.prog 33 0 0 := fun w a => by kernel_rfl
theorem fa33_1 : FieldAt Try.prog 33 1 1 := fun w a => by kernel_rfl
theorem fa44_0 : FieldAt Try.prog 44 0 0 := fun w a => by kernel_rfl
theorem fa44_1 : FieldAt Try.prog 44 1 1 := fun w a => by kernel_rfl
theorem fa44_2 : FieldAt Try.prog 44 2 2 := fun w a => by kernel_rfl
theorem fa46_0 : FieldAt Try.prog 46 0 0 := fun w a => by kernel_rfl
theorem fa46_1 : FieldAt Try.prog 46 1 1 := fun w a => by kernel_rfl
theorem fa46_2 : FieldAt Try.prog 46 2 2 := fun w a => by kernel_rfl
theorem fa46_3 : FieldAt Try.prog 46 3 3 := fun w a => by kernel_rfl
theorem fa59_0 : FieldAt Try.prog 59 0 0 := fun w a => by kernel_rfl
theorem fa59_1 : FieldAt Try.prog 59 1 1 := fun w a => by kernel_rfl
theorem fa68_0 : FieldAt Try.prog 68 0 0 := fun w a => by kernel_rfl
theorem fa68_1 : FieldAt Try.prog 68 1 1 := fun w a => by kernel_rfl
theorem fa68_2 : FieldAt Try.prog 68 2 2 := fun w a => by kernel_rfl
theorem fa85_0 : FieldAt Try.prog 85 0 0 := fun w a => by kernel_rfl
theorem fa85_1 : FieldAt Try.prog 85 1 1 := fun w a => by kernel_rfl
theorem fa85_2 : FieldAt Try.prog 85 2 2 := fun w a => by kernel_rfl
theorem fa85_3 : FieldAt Try.prog 85 3 3 := fun w a => by kernel_rfl
theorem fa85_4 : FieldAt Try.prog 85 4 4 := fun w a => by kernel_rfl
theorem fa87_0 : FieldAt Try.prog 87 0 0 := fun w a => by kernel_rfl
theorem fa87_1 : FieldAt Try.prog 87 1 1 := fun w a => by kernel_rfl
theorem fa87_2 : FieldAt Try.prog 87 2 2 := fun w a => by kernel_rfl
theorem fa87_3 : FieldAt Try.prog 87 3 3 := fun w a => by kernel_rfl
theorem fa87_4 : FieldAt Try.prog 87 4 4 := fun w a => by kernel_rfl
theorem fa87_5 : FieldAt Try.prog 87 5 5 := fun w a => by kernel_rfl
theorem fa95_0 : FieldAt Try.prog 95 0 0 := fun w a => by kernel_rfl
theorem fa95_1 : FieldAt Try.prog 95 1 1 := fun w a => by kernel_rfl
theorem fa95_2 : FieldAt Try.prog 95 2 2 := fun w a => by kernel_rfl
theorem fa95_3 : FieldAt Try.prog 95 3 3 := fun w a => by kernel_rfl
theorem fa97_0 : FieldAt Try.prog 97 0 0 := fun w a => by kernel_rfl
theorem fa97_1 : FieldAt Try.prog 97 1 1 := fun w a => by kernel_rfl
theorem fa99_0 : FieldAt Try.prog 99 0 0 := fun w a => by kernel_rfl
theorem fa99_1 : FieldAt Try.prog 99 1 1 := fun w a => by kernel_rfl
theorem kt99 : KeyT Try.prog Control_place 99 where
  eq w S v u a b hv hu := by
    obtain rfl := Control_place.inv hv
    obtain rfl := Control_place.inv hu
    refine (show (Op.equalIn (9999 + 1) 99 _ _).run Try.prog w = _ from (eqStruct 9999 99 Try.underlying99 (by kernel_rfl) (eqF_cons (a := .int .i64 (a.tick)) (b := .int .i64 (b.tick)) (by decide) (by kernel_rfl) (by kernel_rfl) (run_equalIn_int w 9998 3 .i64 .i64 _ _ Try.underlying3) (eqF_cons (a := .agg #[.int .i64 (a.door.left), .bool (a.door.shut)]) (b := .agg #[.int .i64 (b.door.left), .bool (b.door.shut)]) (by decide) (by kernel_rfl) (by kernel_rfl) (eqStruct 9998 97 Try.underlying97 (by kernel_rfl) (eqF_cons (a := .int .i64 (a.door.left)) (b := .int .i64 (b.door.left)) (by decide) (by kernel_rfl) (by kernel_rfl) (run_equalIn_int w 9997 3 .i64 .i64 _ _ Try.underlying3) (eqF_cons (a := .bool (a.door.shut)) (b := .bool (b.door.shut)) (by decide) (by kernel_rfl) (by kernel_rfl) (run_equalIn_bool' w 9997 4 _ _ Try.underlying4) eqF_nil))) eqF_nil)))).trans ?_
    obtain ⟨x0, ⟨x1, x2⟩⟩ := a
    obtain ⟨y0, ⟨y1, y2⟩⟩ := b
    congr 1
    rw [Bool.eq_iff_iff]
    simp [Control_place.mk.injEq, Control_door.mk.injEq, and_assoc]
  now := ⟨_, Try.underlying99, .inl fun S v u a b hv hu => by
    obtain rfl := Control_place.inv hv
    obtain rfl := Control_place.inv hu
    rfl⟩
  check w e S v a hv := by
    obtain rfl := Control_place.inv hv
    kernel_rfl
  bits S v u a hv hu := by
    obtain rfl := Control_place.inv hv
    obtain rfl := Control_place.inv hu
    show Instr.sameBits (9999 + 1) _ _ = true
    simp [Instr.sameBits]
theorem sh22 : Shape Try.prog 22 false 1 := ⟨fun w => by kernel_rfl, fun w => by kernel_rfl⟩
theorem sh24 : Shape Try.prog 24 true 4 := ⟨fun w => by kernel_rfl, fun w => by kernel_rfl⟩
theorem sh3 : Shape Try.prog 3 false 1 := ⟨fun w => by kernel_rfl, fun w => by kernel_rfl⟩
theorem sh31 : Shape Try.prog 31 false 1 := ⟨fun w => by kernel_rfl, fun w => by kernel_rfl⟩
theorem sh33 : Shape Try.prog 33 true 2 := ⟨fun w => by kernel_rfl, fun w => by kernel_rfl⟩
theorem sh34 : Shape Try.prog 34 false 1 := ⟨fun w => by kernel_rfl, fun w => by kernel_rfl⟩
theorem sh4 : Shape Try.prog 4 false 1 := ⟨fun w => by kernel_rfl, fun w => by kernel_rfl⟩
theorem sh44 : Shape Try.prog 44 true 3 := ⟨fun w => by kernel_rfl, fun w => by kernel_rfl⟩
theorem sh46 : Shape Try.prog 46 true 4 := ⟨fun w => by kernel_rfl, fun w => by kernel_rfl⟩
theorem sh72 : Shape Try.prog 72 false 1 := ⟨fun w => by kernel_rfl, fun w => by kernel_rfl⟩
theorem sh83 : Shape Try.prog 83 false 1 := ⟨fun w => by kernel_rfl, fun w => by kernel_rfl⟩
theorem sh85 : Shape Try.prog 85 true 5 := ⟨fun w => by kernel_rfl, fun w => by kernel_rfl⟩
theorem sh87 : Shape Try.prog 87 true 6 := ⟨fun w => by kernel_rfl, fun w => by kernel_rfl⟩
theorem sh93 : Shape Try.prog 93 false 1 := ⟨fun w => by kernel_rfl, fun w => by kernel_rfl⟩
theorem sh97 : Shape Try.prog 97 true 2 := ⟨fun w => by kernel_rfl, fun w => by kernel_rfl⟩
theorem sh99 : Shape Try.prog 99 true 3 := ⟨fun w => by kernel_rfl, fun w => by kernel_rfl⟩
theorem st24 : StructT Try.prog 24 #[.int .i64 0, .slice none 0 0, .int .i64 0, .int .i64 0] #[(0, 1), (1, 1), (2, 1), (3, 1)] := ⟨_, fun w => by kernel_rfl, Try.underlying24, fun w => by kernel_rfl⟩
theorem st33 : StructT Try.prog 33 #[.int .i64 0, .slice none 0 0] #[(0, 1), (1, 1)] := ⟨_, fun w => by kernel_rfl, Try.underlying33, fun w => by kernel_rfl⟩
theorem st44 : StructT Try.prog 44 #[.int .i64 0, .int .i64 0, .bool false] #[(0, 1), (1, 1), (2, 1)] := ⟨_, fun w => by kernel_rfl, Try.underlying44, fun w => by kernel_rfl⟩
theorem st46 : StructT Try.prog 46 #[.int .i64 0, .int .i64 0, .int .i64 0, .int .i64 0] #[(0, 1), (1, 1), (2, 1), (3, 1)] := ⟨_, fun w => by kernel_rfl, Try.underlying46, fun w => by kernel_rfl⟩
theorem st85 : StructT Try.prog 85 #[.bool false, .slice none 0 0, .slice none 0 0, .slice none 0 0, .slice none 0 0] #[(0, 1), (1, 1), (2, 1), (3, 1), (4, 1)] := ⟨_, fun w => by kernel_rfl, Try.underlying85, fun w => by kernel_rfl⟩
theorem st87 : StructT Try.prog 87 #[.bool false, .slice none 0 0, .slice none 0 0, .slice none 0 0, .slice none 0 0, .slice none 0 0] #[(0, 1), (1, 1), (2, 1), (3, 1), (4, 1), (5, 1)] := ⟨_, fun w => by kernel_rfl, Try.underlying87, fun w => by kernel_rfl⟩
theorem st95 : StructT Try.prog 95 #[.slice none 0 0, .int .i64 0, .int .i64 0, .map none] #[(0, 1), (1, 1), (2, 1), (3, 1)] := ⟨_, fun w => by kernel_rfl, Try.underlying95, fun w => by kernel_rfl⟩
theorem st99 : StructT Try.prog 99 #[.int .i64 0, .int .i64 0, .bool false] #[(0, 1), (1, 2)] := ⟨_, fun w => by kernel_rfl, Try.underlying99, fun w => by kernel_rfl⟩
theorem zo24 : ZeroOf Try.prog 24 (.agg #[.int .i64 0, .slice none 0 0, .int .i64 0, .int .i64 0]) := fun w => by kernel_rfl
theorem zo3 : ZeroOf Try.prog 3 (.int .i64 0) := fun w => by kernel_rfl
theorem zo33 : ZeroOf Try.prog 33 (.agg #[.int .i64 0, .slice none 0 0]) := fun w => by kernel_rfl
theorem zo44 : ZeroOf Try.prog 44 (.agg #[.int .i64 0, .int .i64 0, .bool false]) := fun w => by kernel_rfl
theorem zo46 : ZeroOf Try.prog 46 (.agg #[.int .i64 0, .int .i64 0, .int .i64 0, .int .i64 0]) := fun w => by kernel_rfl
theorem zo85 : ZeroOf Try.prog 85 (.agg #[.bool false, .slice none 0 0, .slice none 0 0, .slice none 0 0, .slice none 0 0]) := fun w => by kernel_rfl
theorem zo87 : ZeroOf Try.prog 87 (.agg #[.bool false, .slice none 0 0, .slice none 0 0, .slice none 0 0, .slice none 0 0, .slice none 0 0]) := fun w => by kernel_rfl
theorem zo97 : ZeroOf Try.prog 97 (.agg #[.int .i64 0, .bool false]) := fun w => by kernel_rfl
theorem zo99 : ZeroOf Try.prog 99 (.agg #[.int .i64 0, .int .i64 0, .bool false]) := fun w => by kernel_rfl

end Go.Proofs.Ytfeomcdhhgeilaa.Pad
