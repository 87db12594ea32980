/- A part of the proof: what the functions of the program compute, shown over the model. -/
import Derived.Test.YtlpdpeghgndmkaaProg
import Derived.Test.YtlpdpeghgndmkaaPadR
import Derived.KernelRfl
set_option linter.unusedVariables false
namespace Go.Proofs.Ytlpdpeghgndmkaa.Pad
open Go Go.Proofs
set_option linter.unusedSimpArgs false
structure CodeLock where
  Wheels : Int
  Symbols : Int
  deriving DecidableEq
instance : Enc CodeLock := encBy fun s => (s.Wheels, s.Symbols)
instance : Ind CodeLock := ⟨fun S T cs x h => Ind.ind (α := Int × Int) S T cs _ h⟩
theorem CodeLock.inv {S : PH} {v : Go.Value} {s : CodeLock} (h : RV S v s) : v = .agg #[.int .i64 (s.Wheels), .int .i64 (s.Symbols)] := by
  obtain ⟨cs, hr, rfl⟩ := h
  obtain ⟨_, _, rfl, h0, h1⟩ := hr
  obtain rfl := h0
  obtain rfl := h1
  rfl
theorem CodeLock.rv {S : PH} {s : CodeLock} : RV S (.agg #[.int .i64 (s.Wheels), .int .i64 (s.Symbols)]) s := by
  exact ⟨_, ⟨_, _, rfl, rfl, rfl⟩, rfl⟩
theorem CodeLock.fld0 : Fld CodeLock 0 (fun s => s.Wheels) := by
  rintro S cs s ⟨x0, y0, rfl, a0, a1⟩
  exact ⟨[], x0, y0, by simp, rfl, a0⟩
theorem CodeLock.fld1 : Fld CodeLock 1 (fun s => s.Symbols) := by
  rintro S cs s ⟨x0, y0, rfl, a0, a1⟩
  have l0 := Enc.len a0
  exact ⟨x0, y0, [], by simp, by rw [l0]; rfl, a1⟩
structure Clue where
  Kind : Int
  A : Int
  B : Int
  N : Int
  M : Int
  Guess : (List Int)
  Not : Bool
instance : Enc Clue := encBy fun s => (s.Kind, s.A, s.B, s.N, s.M, s.Guess, s.Not)
theorem Clue.inv {S : PH} {v : Go.Value} {s : Clue} (h : RV S v s) : ∃ c5, v = .agg #[.int .i64 (s.Kind), .int .i64 (s.A), .int .i64 (s.B), .int .i64 (s.N), .int .i64 (s.M), c5, .bool (s.Not)] ∧ RV S c5 s.Guess := by
  obtain ⟨cs, hr, rfl⟩ := h
  obtain ⟨_, _, rfl, h0, ⟨_, _, rfl, h1, ⟨_, _, rfl, h2, ⟨_, _, rfl, h3, ⟨_, _, rfl, h4, ⟨_, _, rfl, h5, h6⟩⟩⟩⟩⟩⟩ := hr
  obtain rfl := h0
  obtain rfl := h1
  obtain rfl := h2
  obtain rfl := h3
  obtain rfl := h4
  obtain ⟨qh5, rfl, rh5⟩ := kc_ (by rfl) h5
  obtain rfl := h6
  exact ⟨qh5, rfl, rh5⟩
theorem Clue.rv {S : PH} {s : Clue} {c5 : Go.Value} (h5 : RV S c5 s.Guess) : RV S (.agg #[.int .i64 (s.Kind), .int .i64 (s.A), .int .i64 (s.B), .int .i64 (s.N), .int .i64 (s.M), c5, .bool (s.Not)]) s := by
  have r5 := nb_ (by rfl) h5
  exact ⟨_, ⟨_, _, rfl, rfl, ⟨_, _, rfl, rfl, ⟨_, _, rfl, rfl, ⟨_, _, rfl, rfl, ⟨_, _, rfl, rfl, ⟨_, _, rfl, r5, rfl⟩⟩⟩⟩⟩⟩, rfl⟩
theorem Clue.fld0 : Fld Clue 0 (fun s => s.Kind) := by
  rintro S cs s ⟨x0, y0, rfl, a0, ⟨x1, y1, rfl, a1, ⟨x2, y2, rfl, a2, ⟨x3, y3, rfl, a3, ⟨x4, y4, rfl, a4, ⟨x5, y5, rfl, a5, a6⟩⟩⟩⟩⟩⟩
  exact ⟨[], x0, x1 ++ (x2 ++ (x3 ++ (x4 ++ (x5 ++ (y5))))), by simp, rfl, a0⟩
theorem Clue.fld1 : Fld Clue 1 (fun s => s.A) := by
  rintro S cs s ⟨x0, y0, rfl, a0, ⟨x1, y1, rfl, a1, ⟨x2, y2, rfl, a2, ⟨x3, y3, rfl, a3, ⟨x4, y4, rfl, a4, ⟨x5, y5, rfl, a5, a6⟩⟩⟩⟩⟩⟩
  have l0 := Enc.len a0
  exact ⟨x0, x1, x2 ++ (x3 ++ (x4 ++ (x5 ++ (y5)))), by simp, by rw [l0]; rfl, a1⟩
theorem Clue.fld2 : Fld Clue 2 (fun s => s.B) := by
  rintro S cs s ⟨x0, y0, rfl, a0, ⟨x1, y1, rfl, a1, ⟨x2, y2, rfl, a2, ⟨x3, y3, rfl, a3, ⟨x4, y4, rfl, a4, ⟨x5, y5, rfl, a5, a6⟩⟩⟩⟩⟩⟩
  have l0 := Enc.len a0
  have l1 := Enc.len a1
  exact ⟨x0 ++ (x1), x2, x3 ++ (x4 ++ (x5 ++ (y5))), by simp, by simp [l0, l1]; rfl, a2⟩
theorem Clue.fld3 : Fld Clue 3 (fun s => s.N) := by
  rintro S cs s ⟨x0, y0, rfl, a0, ⟨x1, y1, rfl, a1, ⟨x2, y2, rfl, a2, ⟨x3, y3, rfl, a3, ⟨x4, y4, rfl, a4, ⟨x5, y5, rfl, a5, a6⟩⟩⟩⟩⟩⟩
  have l0 := Enc.len a0
  have l1 := Enc.len a1
  have l2 := Enc.len a2
  exact ⟨x0 ++ (x1 ++ (x2)), x3, x4 ++ (x5 ++ (y5)), by simp, by simp [l0, l1, l2]; rfl, a3⟩
theorem Clue.fld4 : Fld Clue 4 (fun s => s.M) := by
  rintro S cs s ⟨x0, y0, rfl, a0, ⟨x1, y1, rfl, a1, ⟨x2, y2, rfl, a2, ⟨x3, y3, rfl, a3, ⟨x4, y4, rfl, a4, ⟨x5, y5, rfl, a5, a6⟩⟩⟩⟩⟩⟩
  have l0 := Enc.len a0
  have l1 := Enc.len a1
  have l2 := Enc.len a2
  have l3 := Enc.len a3
  exact ⟨x0 ++ (x1 ++ (x2 ++ (x3))), x4, x5 ++ (y5), by simp, by simp [l0, l1, l2, l3]; rfl, a4⟩
theorem Clue.fld5 : Fld Clue 5 (fun s => s.Guess) := by
  rintro S cs s ⟨x0, y0, rfl, a0, ⟨x1, y1, rfl, a1, ⟨x2, y2, rfl, a2, ⟨x3, y3, rfl, a3, ⟨x4, y4, rfl, a4, ⟨x5, y5, rfl, a5, a6⟩⟩⟩⟩⟩⟩
  have l0 := Enc.len a0
  have l1 := Enc.len a1
  have l2 := Enc.len a2
  have l3 := Enc.len a3
  have l4 := Enc.len a4
  exact ⟨x0 ++ (x1 ++ (x2 ++ (x3 ++ (x4)))), x5, y5, by simp, by simp [l0, l1, l2, l3, l4]; rfl, a5⟩
theorem Clue.fld6 : Fld Clue 6 (fun s => s.Not) := by
  rintro S cs s ⟨x0, y0, rfl, a0, ⟨x1, y1, rfl, a1, ⟨x2, y2, rfl, a2, ⟨x3, y3, rfl, a3, ⟨x4, y4, rfl, a4, ⟨x5, y5, rfl, a5, a6⟩⟩⟩⟩⟩⟩
  have l0 := Enc.len a0
  have l1 := Enc.len a1
  have l2 := Enc.len a2
  have l3 := Enc.len a3
  have l4 := Enc.len a4
  have l5 := Enc.len a5
  exact ⟨x0 ++ (x1 ++ (x2 ++ (x3 ++ (x4 ++ (x5))))), y5, [], by simp, by simp [l0, l1, l2, l3, l4, l5]; rfl, a6⟩
structure Tie where
  LockA : Int
  WheelA : Int
  LockB : Int
  WheelB : Int
  deriving DecidableEq
instance : Enc Tie := encBy fun s => (s.LockA, s.WheelA, s.LockB, s.WheelB)
instance : Ind Tie := ⟨fun S T cs x h => Ind.ind (α := Int × Int × Int × Int) S T cs _ h⟩
theorem Tie.inv {S : PH} {v : Go.Value} {s : Tie} (h : RV S v s) : v = .agg #[.int .i64 (s.LockA), .int .i64 (s.WheelA), .int .i64 (s.LockB), .int .i64 (s.WheelB)] := by
  obtain ⟨cs, hr, rfl⟩ := h
  obtain ⟨_, _, rfl, h0, ⟨_, _, rfl, h1, ⟨_, _, rfl, h2, h3⟩⟩⟩ := hr
  obtain rfl := h0
  obtain rfl := h1
  obtain rfl := h2
  obtain rfl := h3
  rfl
theorem Tie.rv {S : PH} {s : Tie} : RV S (.agg #[.int .i64 (s.LockA), .int .i64 (s.WheelA), .int .i64 (s.LockB), .int .i64 (s.WheelB)]) s := by
  exact ⟨_, ⟨_, _, rfl, rfl, ⟨_, _, rfl, rfl, ⟨_, _, rfl, rfl, rfl⟩⟩⟩, rfl⟩
theorem Tie.fld0 : Fld Tie 0 (fun s => s.LockA) := by
  rintro S cs s ⟨x0, y0, rfl, a0, ⟨x1, y1, rfl, a1, ⟨x2, y2, rfl, a2, a3⟩⟩⟩
  exact ⟨[], x0, x1 ++ (x2 ++ (y2)), by simp, rfl, a0⟩
theorem Tie.fld1 : Fld Tie 1 (fun s => s.WheelA) := by
  rintro S cs s ⟨x0, y0, rfl, a0, ⟨x1, y1, rfl, a1, ⟨x2, y2, rfl, a2, a3⟩⟩⟩
  have l0 := Enc.len a0
  exact ⟨x0, x1, x2 ++ (y2), by simp, by rw [l0]; rfl, a1⟩
theorem Tie.fld2 : Fld Tie 2 (fun s => s.LockB) := by
  rintro S cs s ⟨x0, y0, rfl, a0, ⟨x1, y1, rfl, a1, ⟨x2, y2, rfl, a2, a3⟩⟩⟩
  have l0 := Enc.len a0
  have l1 := Enc.len a1
  exact ⟨x0 ++ (x1), x2, y2, by simp, by simp [l0, l1]; rfl, a2⟩
theorem Tie.fld3 : Fld Tie 3 (fun s => s.WheelB) := by
  rintro S cs s ⟨x0, y0, rfl, a0, ⟨x1, y1, rfl, a1, ⟨x2, y2, rfl, a2, a3⟩⟩⟩
  have l0 := Enc.len a0
  have l1 := Enc.len a1
  have l2 := Enc.len a2
  exact ⟨x0 ++ (x1 ++ (x2)), y2, [], by simp, by simp [l0, l1, l2]; rfl, a3⟩
structure Riddle where
  Locks : (List CodeLock)
  Codes : (List (List Int))
  Known : (List (List Clue))
  Ties : (List Tie)
instance : Enc Riddle := encBy fun s => (s.Locks, s.Codes, s.Known, s.Ties)
theorem Riddle.inv {S : PH} {v : Go.Value} {s : Riddle} (h : RV S v s) : ∃ c0 c1 c2 c3, v = .agg #[c0, c1, c2, c3] ∧ RV S c0 s.Locks ∧ RV S c1 s.Codes ∧ RV S c2 s.Known ∧ RV S c3 s.Ties := by
  obtain ⟨cs, hr, rfl⟩ := h
  obtain ⟨_, _, rfl, h0, ⟨_, _, rfl, h1, ⟨_, _, rfl, h2, h3⟩⟩⟩ := hr
  obtain ⟨qh0, rfl, rh0⟩ := kc_ (by rfl) h0
  obtain ⟨qh1, rfl, rh1⟩ := kc_ (by rfl) h1
  obtain ⟨qh2, rfl, rh2⟩ := kc_ (by rfl) h2
  obtain ⟨qh3, rfl, rh3⟩ := kc_ (by rfl) h3
  exact ⟨qh0, qh1, qh2, qh3, rfl, rh0, rh1, rh2, rh3⟩
theorem Riddle.rv {S : PH} {s : Riddle} {c0 : Go.Value} (h0 : RV S c0 s.Locks) {c1 : Go.Value} (h1 : RV S c1 s.Codes) {c2 : Go.Value} (h2 : RV S c2 s.Known) {c3 : Go.Value} (h3 : RV S c3 s.Ties) : RV S (.agg #[c0, c1, c2, c3]) s := by
  have r0 := nb_ (by rfl) h0
  have r1 := nb_ (by rfl) h1
  have r2 := nb_ (by rfl) h2
  have r3 := nb_ (by rfl) h3
  exact ⟨_, ⟨_, _, rfl, r0, ⟨_, _, rfl, r1, ⟨_, _, rfl, r2, r3⟩⟩⟩, rfl⟩
theorem Riddle.fld0 : Fld Riddle 0 (fun s => s.Locks) := by
  rintro S cs s ⟨x0, y0, rfl, a0, ⟨x1, y1, rfl, a1, ⟨x2, y2, rfl, a2, a3⟩⟩⟩
  exact ⟨[], x0, x1 ++ (x2 ++ (y2)), by simp, rfl, a0⟩
theorem Riddle.fld1 : Fld Riddle 1 (fun s => s.Codes) := by
  rintro S cs s ⟨x0, y0, rfl, a0, ⟨x1, y1, rfl, a1, ⟨x2, y2, rfl, a2, a3⟩⟩⟩
  have l0 := Enc.len a0
  exact ⟨x0, x1, x2 ++ (y2), by simp, by rw [l0]; rfl, a1⟩
theorem Riddle.fld2 : Fld Riddle 2 (fun s => s.Known) := by
  rintro S cs s ⟨x0, y0, rfl, a0, ⟨x1, y1, rfl, a1, ⟨x2, y2, rfl, a2, a3⟩⟩⟩
  have l0 := Enc.len a0
  have l1 := Enc.len a1
  exact ⟨x0 ++ (x1), x2, y2, by simp, by simp [l0, l1]; rfl, a2⟩
theorem Riddle.fld3 : Fld Riddle 3 (fun s => s.Ties) := by
  rintro S cs s ⟨x0, y0, rfl, a0, ⟨x1, y1, rfl, a1, ⟨x2, y2, rfl, a2, a3⟩⟩⟩
  have l0 := Enc.len a0
  have l1 := Enc.len a1
  have l2 := Enc.len a2
  exact ⟨x0 ++ (x1 ++ (x2)), y2, [], by simp, by simp [l0, l1, l2]; rfl, a3⟩
structure Hints_room where
  Riddle : Riddle
  allowed : (List (List (List Int)))
instance : Enc Hints_room := encBy fun s => (s.Riddle, s.allowed)
theorem Hints_room.inv {S : PH} {v : Go.Value} {s : Hints_room} (h : RV S v s) : ∃ c0 c1 c2 c3 c4, v = .agg #[c0, c1, c2, c3, c4] ∧ RV S c0 s.Riddle.Locks ∧ RV S c1 s.Riddle.Codes ∧ RV S c2 s.Riddle.Known ∧ RV S c3 s.Riddle.Ties ∧ RV S c4 s.allowed := by
  obtain ⟨cs, hr, rfl⟩ := h
  obtain ⟨_, _, rfl, ⟨_, _, rfl, h0, ⟨_, _, rfl, h1, ⟨_, _, rfl, h2, h3⟩⟩⟩, h4⟩ := hr
  obtain ⟨qh0, rfl, rh0⟩ := kc_ (by rfl) h0
  obtain ⟨qh1, rfl, rh1⟩ := kc_ (by rfl) h1
  obtain ⟨qh2, rfl, rh2⟩ := kc_ (by rfl) h2
  obtain ⟨qh3, rfl, rh3⟩ := kc_ (by rfl) h3
  obtain ⟨qh4, rfl, rh4⟩ := kc_ (by rfl) h4
  exact ⟨qh0, qh1, qh2, qh3, qh4, rfl, rh0, rh1, rh2, rh3, rh4⟩
theorem Hints_room.rv {S : PH} {s : Hints_room} {c0 : Go.Value} (h0 : RV S c0 s.Riddle.Locks) {c1 : Go.Value} (h1 : RV S c1 s.Riddle.Codes) {c2 : Go.Value} (h2 : RV S c2 s.Riddle.Known) {c3 : Go.Value} (h3 : RV S c3 s.Riddle.Ties) {c4 : Go.Value} (h4 : RV S c4 s.allowed) : RV S (.agg #[c0, c1, c2, c3, c4]) s := by
  have r0 := nb_ (by rfl) h0
  have r1 := nb_ (by rfl) h1
  have r2 := nb_ (by rfl) h2
  have r3 := nb_ (by rfl) h3
  have r4 := nb_ (by rfl) h4
  exact ⟨_, ⟨_, _, rfl, ⟨_, _, rfl, r0, ⟨_, _, rfl, r1, ⟨_, _, rfl, r2, r3⟩⟩⟩, r4⟩, rfl⟩
theorem Hints_room.fld0 : Fld Hints_room 0 (fun s => s.Riddle) := by
  rintro S cs s ⟨x0, y0, rfl, a0, a1⟩
  exact ⟨[], x0, y0, by simp, rfl, a0⟩
theorem Hints_room.fld1 : Fld Hints_room 4 (fun s => s.allowed) := by
  rintro S cs s ⟨x0, y0, rfl, a0, a1⟩
  have l0 := Enc.len a0
  exact ⟨x0, y0, [], by simp, by rw [l0]; rfl, a1⟩
structure Aid where
  Lock : Int
  Clue : Clue
instance : Enc Aid := encBy fun s => (s.Lock, s.Clue)
theorem Aid.inv {S : PH} {v : Go.Value} {s : Aid} (h : RV S v s) : ∃ c6, v = .agg #[.int .i64 (s.Lock), .int .i64 (s.Clue.Kind), .int .i64 (s.Clue.A), .int .i64 (s.Clue.B), .int .i64 (s.Clue.N), .int .i64 (s.Clue.M), c6, .bool (s.Clue.Not)] ∧ RV S c6 s.Clue.Guess := by
  obtain ⟨cs, hr, rfl⟩ := h
  obtain ⟨_, _, rfl, h0, ⟨_, _, rfl, h1, ⟨_, _, rfl, h2, ⟨_, _, rfl, h3, ⟨_, _, rfl, h4, ⟨_, _, rfl, h5, ⟨_, _, rfl, h6, h7⟩⟩⟩⟩⟩⟩⟩ := hr
  obtain rfl := h0
  obtain rfl := h1
  obtain rfl := h2
  obtain rfl := h3
  obtain rfl := h4
  obtain rfl := h5
  obtain ⟨qh6, rfl, rh6⟩ := kc_ (by rfl) h6
  obtain rfl := h7
  exact ⟨qh6, rfl, rh6⟩
theorem Aid.rv {S : PH} {s : Aid} {c6 : Go.Value} (h6 : RV S c6 s.Clue.Guess) : RV S (.agg #[.int .i64 (s.Lock), .int .i64 (s.Clue.Kind), .int .i64 (s.Clue.A), .int .i64 (s.Clue.B), .int .i64 (s.Clue.N), .int .i64 (s.Clue.M), c6, .bool (s.Clue.Not)]) s := by
  have r6 := nb_ (by rfl) h6
  exact ⟨_, ⟨_, _, rfl, rfl, ⟨_, _, rfl, rfl, ⟨_, _, rfl, rfl, ⟨_, _, rfl, rfl, ⟨_, _, rfl, rfl, ⟨_, _, rfl, rfl, ⟨_, _, rfl, r6, rfl⟩⟩⟩⟩⟩⟩⟩, rfl⟩
theorem Aid.fld0 : Fld Aid 0 (fun s => s.Lock) := by
  rintro S cs s ⟨x0, y0, rfl, a0, a1⟩
  exact ⟨[], x0, y0, by simp, rfl, a0⟩
theorem Aid.fld1 : Fld Aid 1 (fun s => s.Clue) := by
  rintro S cs s ⟨x0, y0, rfl, a0, a1⟩
  have l0 := Enc.len a0
  exact ⟨x0, y0, [], by simp, by rw [l0]; rfl, a1⟩
abbrev Frm := Go.Proofs.Ytlpdpeghgndmkaa.Pad.Fr
theorem ca10 : ba_ Try.prog 10 := ⟨_, Try.func10, rfl, rfl⟩
theorem ca100 : ba_ Try.prog 100 := ⟨_, Try.func100, rfl, rfl⟩
theorem ca101 : ba_ Try.prog 101 := ⟨_, Try.func101, rfl, rfl⟩
theorem ca102 : ba_ Try.prog 102 := ⟨_, Try.func102, rfl, rfl⟩
theorem ca103 : ba_ Try.prog 103 := ⟨_, Try.func103, rfl, rfl⟩
theorem ca104 : ba_ Try.prog 104 := ⟨_, Try.func104, rfl, rfl⟩
theorem ca105 : ba_ Try.prog 105 := ⟨_, Try.func105, rfl, rfl⟩
theorem ca106 : ba_ Try.prog 106 := ⟨_, Try.func106, rfl, rfl⟩
theorem ca108 : ba_ Try.prog 108 := ⟨_, Try.func108, rfl, rfl⟩
theorem ca109 : ba_ Try.prog 109 := ⟨_, Try.func109, rfl, rfl⟩
theorem ca110 : ba_ Try.prog 110 := ⟨_, Try.func110, rfl, rfl⟩
theorem ca111 : ba_ Try.prog 111 := ⟨_, Try.func111, rfl, rfl⟩
theorem ca112 : ba_ Try.prog 112 := ⟨_, Try.func112, rfl, rfl⟩
theorem ca113 : ba_ Try.prog 113 := ⟨_, Try.func113, rfl, rfl⟩
theorem ca114 : ba_ Try.prog 114 := ⟨_, Try.func114, rfl, rfl⟩
theorem ca115 : ba_ Try.prog 115 := ⟨_, Try.func115, rfl, rfl⟩
theorem ca116 : ba_ Try.prog 116 := ⟨_, Try.func116, rfl, rfl⟩
theorem ca117 : ba_ Try.prog 117 := ⟨_, Try.func117, rfl, rfl⟩
theorem ca118 : ba_ Try.prog 118 := ⟨_, Try.func118, rfl, rfl⟩
theorem ca119 : ba_ Try.prog 119 := ⟨_, Try.func119, rfl, rfl⟩
theorem ca12 : ba_ Try.prog 12 := ⟨_, Try.func12, rfl, rfl⟩
theorem ca120 : ba_ Try.prog 120 := ⟨_, Try.func120, rfl, rfl⟩
theorem ca121 : ba_ Try.prog 121 := ⟨_, Try.func121, rfl, rfl⟩
theorem ca122 : ba_ Try.prog 122 := ⟨_, Try.func122, rfl, rfl⟩
theorem ca123 : ba_ Try.prog 123 := ⟨_, Try.func123, rfl, rfl⟩
theorem ca124 : ba_ Try.prog 124 := ⟨_, Try.func124, rfl, rfl⟩
theorem ca125 : ba_ Try.prog 125 := ⟨_, Try.func125, rfl, rfl⟩
theorem ca13 : ba_ Try.prog 13 := ⟨_, Try.func13, rfl, rfl⟩
theorem ca14 : ba_ Try.prog 14 := ⟨_, Try.func14, rfl, rfl⟩
theorem ca16 : ba_ Try.prog 16 := ⟨_, Try.func16, rfl, rfl⟩
theorem ca18 : ba_ Try.prog 18 := ⟨_, Try.func18, rfl, rfl⟩
theorem ca23 : ba_ Try.prog 23 := ⟨_, Try.func23, rfl, rfl⟩
theorem ca27 : ba_ Try.prog 27 := ⟨_, Try.func27, rfl, rfl⟩
theorem ca28 : ba_ Try.prog 28 := ⟨_, Try.func28, rfl, rfl⟩
theorem ca29 : ba_ Try.prog 29 := ⟨_, Try.func29, rfl, rfl⟩
theorem ca30 : ba_ Try.prog 30 := ⟨_, Try.func30, rfl, rfl⟩
theorem ca31 : ba_ Try.prog 31 := ⟨_, Try.func31, rfl, rfl⟩
theorem ca32 : ba_ Try.prog 32 := ⟨_, Try.func32, rfl, rfl⟩
theorem ca33 : ba_ Try.prog 33 := ⟨_, Try.func33, rfl, rfl⟩
theorem ca34 : ba_ Try.prog 34 := ⟨_, Try.func34, rfl, rfl⟩
theorem ca35 : ba_ Try.prog 35 := ⟨_, Try.func35, rfl, rfl⟩
theorem ca36 : ba_ Try.prog 36 := ⟨_, Try.func36, rfl, rfl⟩
theorem ca37 : ba_ Try.prog 37 := ⟨_, Try.func37, rfl, rfl⟩
theorem ca38 : ba_ Try.prog 38 := ⟨_, Try.func38, rfl, rfl⟩
theorem ca39 : ba_ Try.prog 39 := ⟨_, Try.func39, rfl, rfl⟩
theorem ca40 : ba_ Try.prog 40 := ⟨_, Try.func40, rfl, rfl⟩
theorem ca41 : ba_ Try.prog 41 := ⟨_, Try.func41, rfl, rfl⟩
theorem ca42 : ba_ Try.prog 42 := ⟨_, Try.func42, rfl, rfl⟩
theorem ca43 : ba_ Try.prog 43 := ⟨_, Try.func43, rfl, rfl⟩
theorem ca44 : ba_ Try.prog 44 := ⟨_, Try.func44, rfl, rfl⟩
theorem ca45 : ba_ Try.prog 45 := ⟨_, Try.func45, rfl, rfl⟩
theorem ca46 : ba_ Try.prog 46 := ⟨_, Try.func46, rfl, rfl⟩
theorem ca47 : ba_ Try.prog 47 := ⟨_, Try.func47, rfl, rfl⟩
theorem ca48 : ba_ Try.prog 48 := ⟨_, Try.func48, rfl, rfl⟩
theorem ca49 : ba_ Try.prog 49 := ⟨_, Try.func49, rfl, rfl⟩
theorem ca52 : ba_ Try.prog 52 := ⟨_, Try.func52, rfl, rfl⟩
theorem ca53 : ba_ Try.prog 53 := ⟨_, Try.func53, rfl, rfl⟩
theorem ca56 : ba_ Try.prog 56 := ⟨_, Try.func56, rfl, rfl⟩
theorem ca58 : ba_ Try.prog 58 := ⟨_, Try.func58, rfl, rfl⟩
theorem ca60 : ba_ Try.prog 60 := ⟨_, Try.func60, rfl, rfl⟩
theorem ca61 : ba_ Try.prog 61 := ⟨_, Try.func61, rfl, rfl⟩
theorem ca62 : ba_ Try.prog 62 := ⟨_, Try.func62, rfl, rfl⟩
theorem ca63 : ba_ Try.prog 63 := ⟨_, Try.func63, rfl, rfl⟩
theorem ca64 : ba_ Try.prog 64 := ⟨_, Try.func64, rfl, rfl⟩
theorem ca65 : ba_ Try.prog 65 := ⟨_, Try.func65, rfl, rfl⟩
theorem ca66 : ba_ Try.prog 66 := ⟨_, Try.func66, rfl, rfl⟩
theorem ca67 : ba_ Try.prog 67 := ⟨_, Try.func67, rfl, rfl⟩
theorem ca68 : ba_ Try.prog 68 := ⟨_, Try.func68, rfl, rfl⟩
theorem ca69 : ba_ Try.prog 69 := ⟨_, Try.func69, rfl, rfl⟩
theorem ca70 : ba_ Try.prog 70 := ⟨_, Try.func70, rfl, rfl⟩
theorem ca71 : ba_ Try.prog 71 := ⟨_, Try.func71, rfl, rfl⟩
theorem ca72 : ba_ Try.prog 72 := ⟨_, Try.func72, rfl, rfl⟩
theorem ca73 : ba_ Try.prog 73 := ⟨_, Try.func73, rfl, rfl⟩
theorem ca74 : ba_ Try.prog 74 := ⟨_, Try.func74, rfl, rfl⟩
theorem ca75 : ba_ Try.prog 75 := ⟨_, Try.func75, rfl, rfl⟩
theorem ca76 : ba_ Try.prog 76 := ⟨_, Try.func76, rfl, rfl⟩
theorem ca77 : ba_ Try.prog 77 := ⟨_, Try.func77, rfl, rfl⟩
theorem ca78 : ba_ Try.prog 78 := ⟨_, Try.func78, rfl, rfl⟩
theorem ca79 : ba_ Try.prog 79 := ⟨_, Try.func79, rfl, rfl⟩
theorem ca8 : ba_ Try.prog 8 := ⟨_, Try.func8, rfl, rfl⟩
theorem ca80 : ba_ Try.prog 80 := ⟨_, Try.func80, rfl, rfl⟩
theorem ca81 : ba_ Try.prog 81 := ⟨_, Try.func81, rfl, rfl⟩
theorem ca82 : ba_ Try.prog 82 := ⟨_, Try.func82, rfl, rfl⟩
theorem ca83 : ba_ Try.prog 83 := ⟨_, Try.func83, rfl, rfl⟩
theorem ca84 : ba_ Try.prog 84 := ⟨_, Try.func84, rfl, rfl⟩
theorem ca86 : ba_ Try.prog 86 := ⟨_, Try.func86, rfl, rfl⟩
theorem ca87 : ba_ Try.prog 87 := ⟨_, Try.func87, rfl, rfl⟩
theorem ca88 : ba_ Try.prog 88 := ⟨_, Try.func88, rfl, rfl⟩
theorem ca89 : ba_ Try.prog 89 := ⟨_, Try.func89, rfl, rfl⟩
theorem ca9 : ba_ Try.prog 9 := ⟨_, Try.func9, rfl, rfl⟩
theorem ca90 : ba_ Try.prog 90 := ⟨_, Try.func90, rfl, rfl⟩
theorem ca91 : ba_ Try.prog 91 := ⟨_, Try.func91, rfl, rfl⟩
theorem ca92 : ba_ Try.prog 92 := ⟨_, Try.func92, rfl, rfl⟩
theorem ca93 : ba_ Try.prog 93 := ⟨_, Try.func93, rfl, rfl⟩
theorem ca94 : ba_ Try.prog 94 := ⟨_, Try.func94, rfl, rfl⟩
theorem ca95 : ba_ Try.prog 95 := ⟨_, Try.func95, rfl, rfl⟩
theorem ca96 : ba_ Try.prog 96 := ⟨_, Try.func96, rfl, rfl⟩
theorem ca97 : ba_ Try.prog 97 := ⟨_, Try.func97, rfl, rfl⟩
theorem ca98 : ba_ Try.prog 98 := ⟨_, Try.func98, rfl, rfl⟩
theorem ca99 : ba_ Try.prog 99 := ⟨_, Try.func99, rfl, rfl⟩
theorem el23 : Elem Try.prog (List (List Int)) 23 24 (.slice none 0 0) ([] : (List (List Int))) := ⟨_, (by kernel_rfl : Try.prog.info? 23 = some Try.t23), rfl, rfl, rfl, rfl, fun S => rv_nil.cells⟩
theorem el28 : Elem Try.prog (List Int) 28 24 (.slice none 0 0) ([] : (List Int)) := ⟨_, (by kernel_rfl : Try.prog.info? 28 = some Try.t28), rfl, rfl, rfl, rfl, fun S => rv_nil.cells⟩
theorem el3 : Elem Try.prog Int 3 8 (.int .i64 0) (0 : Int) := ⟨_, (by kernel_rfl : Try.prog.info? 3 = some Try.t3), rfl, rfl, rfl, rfl, fun S => rfl⟩
theorem el30 : Elem Try.prog Clue 30 72 (.agg #[.int .i64 0, .int .i64 0, .int .i64 0, .int .i64 0, .int .i64 0, .slice none 0 0, .bool false]) (⟨0, 0, 0, 0, 0, [], false⟩ : Clue) := ⟨_, (by kernel_rfl : Try.prog.info? 30 = some Try.t30), rfl, rfl, rfl, rfl, fun S => (Clue.rv (s := ⟨0, 0, 0, 0, 0, [], false⟩) rv_nil).cells⟩
theorem el4 : Elem Try.prog Bool 4 1 (.bool false) (false : Bool) := ⟨_, (by kernel_rfl : Try.prog.info? 4 = some Try.t4), rfl, rfl, rfl, rfl, fun S => rfl⟩
theorem el58 : Elem Try.prog Tie 58 32 (.agg #[.int .i64 0, .int .i64 0, .int .i64 0, .int .i64 0]) (⟨0, 0, 0, 0⟩ : Tie) := ⟨_, (by kernel_rfl : Try.prog.info? 58 = some Try.t58), rfl, rfl, rfl, rfl, fun S => (Tie.rv (s := ⟨0, 0, 0, 0⟩) ).cells⟩
theorem el68 : Elem Try.prog CodeLock 68 16 (.agg #[.int .i64 0, .int .i64 0]) (⟨0, 0⟩ : CodeLock) := ⟨_, (by kernel_rfl : Try.prog.info? 68 = some Try.t68), rfl, rfl, rfl, rfl, fun S => (CodeLock.rv (s := ⟨0, 0⟩) ).cells⟩
theorem el69 : Elem Try.prog (List Clue) 69 24 (.slice none 0 0) ([] : (List Clue)) := ⟨_, (by kernel_rfl : Try.prog.info? 69 = some Try.t69), rfl, rfl, rfl, rfl, fun S => rv_nil.cells⟩
theorem el124r : Elem Try.prog Raw 124 24 (.slice none 0 0) (⟨.slice none 0 0⟩ : Raw) := ⟨_, (by kernel_rfl : Try.prog.info? 124 = some Try.t124), rfl, rfl, rfl, rfl, fun S => ⟨rfl, rfl⟩⟩
theorem el23r : Elem Try.prog Raw 23 24 (.slice none 0 0) (⟨.slice none 0 0⟩ : Raw) := ⟨_, (by kernel_rfl : Try.prog.info? 23 = some Try.t23), rfl, rfl, rfl, rfl, fun S => ⟨rfl, rfl⟩⟩
theorem el69r : Elem Try.prog Raw 69 24 (.slice none 0 0) (⟨.slice none 0 0⟩ : Raw) := ⟨_, (by kernel_rfl : Try.prog.info? 69 = some Try.t69), rfl, rfl, rfl, rfl, fun S => ⟨rfl, rfl⟩⟩
theorem ph_ : dv_ Try.prog 131 0 0 := fun w a => by kernel_rfl
theorem fa131_1 : dv_ Try.prog 131 1 1 := fun w a => by kernel_rfl
theorem eg_ : dv_ Try.prog 27 0 0 := fun w a => by kernel_rfl
theorem km_ : dv_ Try.prog 27 1 1 := fun w a => by kernel_rfl
theorem jk_ : dv_ Try.prog 27 2 2 := fun w a => by kernel_rfl
theorem fa27_3 : dv_ Try.prog 27 3 3 := fun w a => by kernel_rfl
theorem fa30_0 : dv_ Try.prog 30 0 0 := fun w a => by kernel_rfl
theorem cz_ : dv_ Try.prog 30 1 1 := fun w a => by kernel_rfl
theorem fe_ : dv_ Try.prog 30 2 2 := fun w a => by kernel_rfl
theorem ck_ : dv_ Try.prog 30 3 3 := fun w a => by kernel_rfl
theorem eo_ : dv_ Try.prog 30 4 4 := fun w a => by kernel_rfl
theorem le_ : dv_ Try.prog 30 5 5 := fun w a => by kernel_rfl
theorem ld_ : dv_ Try.prog 30 6 6 := fun w a => by kernel_rfl
theorem nn_ : dv_ Try.prog 32 0 0 := fun w a => by kernel_rfl
theorem fa32_1 : dv_ Try.prog 32 1 1 := fun w a => by kernel_rfl
theorem im_ : dv_ Try.prog 58 0 0 := fun w a => by kernel_rfl
theorem fa58_1 : dv_ Try.prog 58 1 1 := fun w a => by kernel_rfl
theorem kl_ : dv_ Try.prog 58 2 2 := fun w a => by kernel_rfl
theorem fa58_3 : dv_ Try.prog 58 3 3 := fun w a => by kernel_rfl
theorem gs_ : dv_ Try.prog 68 0 0 := fun w a => by kernel_rfl
theorem fa68_1 : dv_ Try.prog 68 1 1 := fun w a => by kernel_rfl
theorem fa89_0 : dv_ Try.prog 89 0 0 := fun w a => by kernel_rfl
theorem fa89_1 : dv_ Try.prog 89 1 4 := fun w a => by kernel_rfl
theorem sh102 : Shape Try.prog 102 false 1 := ⟨fun w => by kernel_rfl, fun w => by kernel_rfl⟩
theorem sh112 : Shape Try.prog 112 false 1 := ⟨fun w => by kernel_rfl, fun w => by kernel_rfl⟩
theorem sh123 : Shape Try.prog 123 false 1 := ⟨fun w => by kernel_rfl, fun w => by kernel_rfl⟩
theorem sh124 : Shape Try.prog 124 false 1 := ⟨fun w => by kernel_rfl, fun w => by kernel_rfl⟩
theorem sh131 : Shape Try.prog 131 true 2 := ⟨fun w => by kernel_rfl, fun w => by kernel_rfl⟩
theorem sh133 : Shape Try.prog 133 false 1 := ⟨fun w => by kernel_rfl, fun w => by kernel_rfl⟩
theorem pp_ : Shape Try.prog 22 false 1 := ⟨fun w => by kernel_rfl, fun w => by kernel_rfl⟩
theorem my_ : Shape Try.prog 23 false 1 := ⟨fun w => by kernel_rfl, fun w => by kernel_rfl⟩
theorem sh24 : Shape Try.prog 24 false 1 := ⟨fun w => by kernel_rfl, fun w => by kernel_rfl⟩
theorem sh25 : Shape Try.prog 25 false 1 := ⟨fun w => by kernel_rfl, fun w => by kernel_rfl⟩
theorem hn_ : Shape Try.prog 27 true 4 := ⟨fun w => by kernel_rfl, fun w => by kernel_rfl⟩
theorem hc_ : Shape Try.prog 28 false 1 := ⟨fun w => by kernel_rfl, fun w => by kernel_rfl⟩
theorem sh3 : Shape Try.prog 3 false 1 := ⟨fun w => by kernel_rfl, fun w => by kernel_rfl⟩
theorem mg_ : Shape Try.prog 30 true 7 := ⟨fun w => by kernel_rfl, fun w => by kernel_rfl⟩
theorem sh32 : Shape Try.prog 32 true 8 := ⟨fun w => by kernel_rfl, fun w => by kernel_rfl⟩
theorem sh38 : Shape Try.prog 38 false 1 := ⟨fun w => by kernel_rfl, fun w => by kernel_rfl⟩
theorem sh4 : Shape Try.prog 4 false 1 := ⟨fun w => by kernel_rfl, fun w => by kernel_rfl⟩
theorem sh44 : Shape Try.prog 44 false 1 := ⟨fun w => by kernel_rfl, fun w => by kernel_rfl⟩
theorem sh58 : Shape Try.prog 58 true 4 := ⟨fun w => by kernel_rfl, fun w => by kernel_rfl⟩
theorem jh_ : Shape Try.prog 68 true 2 := ⟨fun w => by kernel_rfl, fun w => by kernel_rfl⟩
theorem sh69 : Shape Try.prog 69 false 1 := ⟨fun w => by kernel_rfl, fun w => by kernel_rfl⟩
theorem sh71 : Shape Try.prog 71 false 1 := ⟨fun w => by kernel_rfl, fun w => by kernel_rfl⟩
theorem sh79 : Shape Try.prog 79 false 1 := ⟨fun w => by kernel_rfl, fun w => by kernel_rfl⟩
theorem sh99 : Shape Try.prog 99 false 1 := ⟨fun w => by kernel_rfl, fun w => by kernel_rfl⟩
theorem st27 : StructT Try.prog 27 #[.slice none 0 0, .slice none 0 0, .slice none 0 0, .slice none 0 0] #[(0, 1), (1, 1), (2, 1), (3, 1)] := ⟨_, fun w => by kernel_rfl, Try.underlying27, fun w => by kernel_rfl⟩
theorem st30 : StructT Try.prog 30 #[.int .i64 0, .int .i64 0, .int .i64 0, .int .i64 0, .int .i64 0, .slice none 0 0, .bool false] #[(0, 1), (1, 1), (2, 1), (3, 1), (4, 1), (5, 1), (6, 1)] := ⟨_, fun w => by kernel_rfl, Try.underlying30, fun w => by kernel_rfl⟩
theorem st32 : StructT Try.prog 32 #[.int .i64 0, .int .i64 0, .int .i64 0, .int .i64 0, .int .i64 0, .int .i64 0, .slice none 0 0, .bool false] #[(0, 1), (1, 7)] := ⟨_, fun w => by kernel_rfl, Try.underlying32, fun w => by kernel_rfl⟩
theorem st58 : StructT Try.prog 58 #[.int .i64 0, .int .i64 0, .int .i64 0, .int .i64 0] #[(0, 1), (1, 1), (2, 1), (3, 1)] := ⟨_, fun w => by kernel_rfl, Try.underlying58, fun w => by kernel_rfl⟩
theorem st68 : StructT Try.prog 68 #[.int .i64 0, .int .i64 0] #[(0, 1), (1, 1)] := ⟨_, fun w => by kernel_rfl, Try.underlying68, fun w => by kernel_rfl⟩
theorem st89 : StructT Try.prog 89 #[.slice none 0 0, .slice none 0 0, .slice none 0 0, .slice none 0 0, .slice none 0 0] #[(0, 4), (4, 1)] := ⟨_, fun w => by kernel_rfl, Try.underlying89, fun w => by kernel_rfl⟩
theorem zo112 : lj_ Try.prog 112 (.nilFunc) := fun w => by kernel_rfl
theorem zo123 : lj_ Try.prog 123 (.slice none 0 0) := fun w => by kernel_rfl
theorem zo133 : lj_ Try.prog 133 (.nilFunc) := fun w => by kernel_rfl
theorem zo23 : lj_ Try.prog 23 (.slice none 0 0) := fun w => by kernel_rfl
theorem zo27 : lj_ Try.prog 27 (.agg #[.slice none 0 0, .slice none 0 0, .slice none 0 0, .slice none 0 0]) := fun w => by kernel_rfl
theorem zo28 : lj_ Try.prog 28 (.slice none 0 0) := fun w => by kernel_rfl
theorem zo3 : lj_ Try.prog 3 (.int .i64 0) := fun w => by kernel_rfl
theorem zo30 : lj_ Try.prog 30 (.agg #[.int .i64 0, .int .i64 0, .int .i64 0, .int .i64 0, .int .i64 0, .slice none 0 0, .bool false]) := fun w => by kernel_rfl
theorem zo32 : lj_ Try.prog 32 (.agg #[.int .i64 0, .int .i64 0, .int .i64 0, .int .i64 0, .int .i64 0, .int .i64 0, .slice none 0 0, .bool false]) := fun w => by kernel_rfl
theorem zo58 : lj_ Try.prog 58 (.agg #[.int .i64 0, .int .i64 0, .int .i64 0, .int .i64 0]) := fun w => by kernel_rfl
theorem zo68 : lj_ Try.prog 68 (.agg #[.int .i64 0, .int .i64 0]) := fun w => by kernel_rfl
theorem zo79 : lj_ Try.prog 79 (.nilFunc) := fun w => by kernel_rfl
theorem zoa149 : lj_ Try.prog 149 (Value.agg (List.replicate 10 (Value.int .i64 (0))).toArray) := fun w => by kernel_rfl
end Go.Proofs.Ytlpdpeghgndmkaa.Pad
