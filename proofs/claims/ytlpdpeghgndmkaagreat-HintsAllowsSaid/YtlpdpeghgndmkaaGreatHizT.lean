/- A part of the proof: what the functions of the program compute, shown over the model. -/
import Derived.Test.YtlpdpeghgndmkaaGreatProg
import Derived.Test.YtlpdpeghgndmkaaGreatPadAll
import Derived.KernelRfl
set_option linter.unusedVariables false
namespace Go.Proofs.YtlpdpeghgndmkaaGreat.Pad
open Go Go.Proofs
set_option linter.unusedSimpArgs false
structure CodeLock where
  Wheels : Int
  Symbols : Int
  deriving DecidableEq
instance : Enc CodeLock := encBy fun s => (s.Wheels, s.Symbols)
instance : Ind CodeLock := ⟨fun S T cs x h => Ind.ind (α := Int × Int) S T cs _ h⟩
theorem CodeLock.inv {S : PH} {v : Go.Value} {s : CodeLock} (h : RV S v s) : v = .agg #[.int .i64 (s.Wheels), .int .i64 (s.Symbols)] := by
  obtain ⟨cs, hr, rfl⟩ := h
  obtain ⟨_, _, rfl, h0, h1⟩ := hr
  obtain rfl := h0
  obtain rfl := h1
  rfl
theorem CodeLock.rv {S : PH} {s : CodeLock} : RV S (.agg #[.int .i64 (s.Wheels), .int .i64 (s.Symbols)]) s := by
  exact ⟨_, ⟨_, _, rfl, rfl, rfl⟩, rfl⟩
theorem CodeLock.fld0 : Fld CodeLock 0 (fun s => s.Wheels) := by
  rintro S cs s ⟨x0, y0, rfl, a0, a1⟩
  exact ⟨[], x0, y0, by simp, rfl, a0⟩
theorem CodeLock.fld1 : Fld CodeLock 1 (fun s => s.Symbols) := by
  rintro S cs s ⟨x0, y0, rfl, a0, a1⟩
  have l0 := Enc.len a0
  exact ⟨x0, y0, [], by simp, by rw [l0]; rfl, a1⟩
structure Clue where
  Kind : Int
  A : Int
  B : Int
  N : Int
  M : Int
  Guess : (List Int)
  Not : Bool
instance : Enc Clue := encBy fun s => (s.Kind, s.A, s.B, s.N, s.M, s.Guess, s.Not)
theorem Clue.inv {S : PH} {v : Go.Value} {s : Clue} (h : RV S v s) : ∃ c5, v = .agg #[.int .i64 (s.Kind), .int .i64 (s.A), .int .i64 (s.B), .int .i64 (s.N), .int .i64 (s.M), c5, .bool (s.Not)] ∧ RV S c5 s.Guess := by
  obtain ⟨cs, hr, rfl⟩ := h
  obtain ⟨_, _, rfl, h0, ⟨_, _, rfl, h1, ⟨_, _, rfl, h2, ⟨_, _, rfl, h3, ⟨_, _, rfl, h4, ⟨_, _, rfl, h5, h6⟩⟩⟩⟩⟩⟩ := hr
  obtain rfl := h0
  obtain rfl := h1
  obtain rfl := h2
  obtain rfl := h3
  obtain rfl := h4
  obtain ⟨qh5, rfl, rh5⟩ := kv_ (by rfl) h5
  obtain rfl := h6
  exact ⟨qh5, rfl, rh5⟩
theorem Clue.rv {S : PH} {s : Clue} {c5 : Go.Value} (h5 : RV S c5 s.Guess) : RV S (.agg #[.int .i64 (s.Kind), .int .i64 (s.A), .int .i64 (s.B), .int .i64 (s.N), .int .i64 (s.M), c5, .bool (s.Not)]) s := by
  have r5 := nz_ (by rfl) h5
  exact ⟨_, ⟨_, _, rfl, rfl, ⟨_, _, rfl, rfl, ⟨_, _, rfl, rfl, ⟨_, _, rfl, rfl, ⟨_, _, rfl, rfl, ⟨_, _, rfl, r5, rfl⟩⟩⟩⟩⟩⟩, rfl⟩
theorem Clue.fld0 : Fld Clue 0 (fun s => s.Kind) := by
  rintro S cs s ⟨x0, y0, rfl, a0, ⟨x1, y1, rfl, a1, ⟨x2, y2, rfl, a2, ⟨x3, y3, rfl, a3, ⟨x4, y4, rfl, a4, ⟨x5, y5, rfl, a5, a6⟩⟩⟩⟩⟩⟩
  exact ⟨[], x0, x1 ++ (x2 ++ (x3 ++ (x4 ++ (x5 ++ (y5))))), by simp, rfl, a0⟩
theorem Clue.fld1 : Fld Clue 1 (fun s => s.A) := by
  rintro S cs s ⟨x0, y0, rfl, a0, ⟨x1, y1, rfl, a1, ⟨x2, y2, rfl, a2, ⟨x3, y3, rfl, a3, ⟨x4, y4, rfl, a4, ⟨x5, y5, rfl, a5, a6⟩⟩⟩⟩⟩⟩
  have l0 := Enc.len a0
  exact ⟨x0, x1, x2 ++ (x3 ++ (x4 ++ (x5 ++ (y5)))), by simp, by rw [l0]; rfl, a1⟩
theorem Clue.fld2 : Fld Clue 2 (fun s => s.B) := by
  rintro S cs s ⟨x0, y0, rfl, a0, ⟨x1, y1, rfl, a1, ⟨x2, y2, rfl, a2, ⟨x3, y3, rfl, a3, ⟨x4, y4, rfl, a4, ⟨x5, y5, rfl, a5, a6⟩⟩⟩⟩⟩⟩
  have l0 := Enc.len a0
  have l1 := Enc.len a1
  exact ⟨x0 ++ (x1), x2, x3 ++ (x4 ++ (x5 ++ (y5))), by simp, by simp [l0, l1]; rfl, a2⟩
theorem Clue.fld3 : Fld Clue 3 (fun s => s.N) := by
  rintro S cs s ⟨x0, y0, rfl, a0, ⟨x1, y1, rfl, a1, ⟨x2, y2, rfl, a2, ⟨x3, y3, rfl, a3, ⟨x4, y4, rfl, a4, ⟨x5, y5, rfl, a5, a6⟩⟩⟩⟩⟩⟩
  have l0 := Enc.len a0
  have l1 := Enc.len a1
  have l2 := Enc.len a2
  exact ⟨x0 ++ (x1 ++ (x2)), x3, x4 ++ (x5 ++ (y5)), by simp, by simp [l0, l1, l2]; rfl, a3⟩
theorem Clue.fld4 : Fld Clue 4 (fun s => s.M) := by
  rintro S cs s ⟨x0, y0, rfl, a0, ⟨x1, y1, rfl, a1, ⟨x2, y2, rfl, a2, ⟨x3, y3, rfl, a3, ⟨x4, y4, rfl, a4, ⟨x5, y5, rfl, a5, a6⟩⟩⟩⟩⟩⟩
  have l0 := Enc.len a0
  have l1 := Enc.len a1
  have l2 := Enc.len a2
  have l3 := Enc.len a3
  exact ⟨x0 ++ (x1 ++ (x2 ++ (x3))), x4, x5 ++ (y5), by simp, by simp [l0, l1, l2, l3]; rfl, a4⟩
theorem Clue.fld5 : Fld Clue 5 (fun s => s.Guess) := by
  rintro S cs s ⟨x0, y0, rfl, a0, ⟨x1, y1, rfl, a1, ⟨x2, y2, rfl, a2, ⟨x3, y3, rfl, a3, ⟨x4, y4, rfl, a4, ⟨x5, y5, rfl, a5, a6⟩⟩⟩⟩⟩⟩
  have l0 := Enc.len a0
  have l1 := Enc.len a1
  have l2 := Enc.len a2
  have l3 := Enc.len a3
  have l4 := Enc.len a4
  exact ⟨x0 ++ (x1 ++ (x2 ++ (x3 ++ (x4)))), x5, y5, by simp, by simp [l0, l1, l2, l3, l4]; rfl, a5⟩
theorem Clue.fld6 : Fld Clue 6 (fun s => s.Not) := by
  rintro S cs s ⟨x0, y0, rfl, a0, ⟨x1, y1, rfl, a1, ⟨x2, y2, rfl, a2, ⟨x3, y3, rfl, a3, ⟨x4, y4, rfl, a4, ⟨x5, y5, rfl, a5, a6⟩⟩⟩⟩⟩⟩
  have l0 := Enc.len a0
  have l1 := Enc.len a1
  have l2 := Enc.len a2
  have l3 := Enc.len a3
  have l4 := Enc.len a4
  have l5 := Enc.len a5
  exact ⟨x0 ++ (x1 ++ (x2 ++ (x3 ++ (x4 ++ (x5))))), y5, [], by simp, by simp [l0, l1, l2, l3, l4, l5]; rfl, a6⟩
structure Tie where
  LockA : Int
  WheelA : Int
  LockB : Int
  WheelB : Int
  deriving DecidableEq
instance : Enc Tie := encBy fun s => (s.LockA, s.WheelA, s.LockB, s.WheelB)
instance : Ind Tie := ⟨fun S T cs x h => Ind.ind (α := Int × Int × Int × Int) S T cs _ h⟩
theorem Tie.inv {S : PH} {v : Go.Value} {s : Tie} (h : RV S v s) : v = .agg #[.int .i64 (s.LockA), .int .i64 (s.WheelA), .int .i64 (s.LockB), .int .i64 (s.WheelB)] := by
  obtain ⟨cs, hr, rfl⟩ := h
  obtain ⟨_, _, rfl, h0, ⟨_, _, rfl, h1, ⟨_, _, rfl, h2, h3⟩⟩⟩ := hr
  obtain rfl := h0
  obtain rfl := h1
  obtain rfl := h2
  obtain rfl := h3
  rfl
theorem Tie.rv {S : PH} {s : Tie} : RV S (.agg #[.int .i64 (s.LockA), .int .i64 (s.WheelA), .int .i64 (s.LockB), .int .i64 (s.WheelB)]) s := by
  exact ⟨_, ⟨_, _, rfl, rfl, ⟨_, _, rfl, rfl, ⟨_, _, rfl, rfl, rfl⟩⟩⟩, rfl⟩
theorem Tie.fld0 : Fld Tie 0 (fun s => s.LockA) := by
  rintro S cs s ⟨x0, y0, rfl, a0, ⟨x1, y1, rfl, a1, ⟨x2, y2, rfl, a2, a3⟩⟩⟩
  exact ⟨[], x0, x1 ++ (x2 ++ (y2)), by simp, rfl, a0⟩
theorem Tie.fld1 : Fld Tie 1 (fun s => s.WheelA) := by
  rintro S cs s ⟨x0, y0, rfl, a0, ⟨x1, y1, rfl, a1, ⟨x2, y2, rfl, a2, a3⟩⟩⟩
  have l0 := Enc.len a0
  exact ⟨x0, x1, x2 ++ (y2), by simp, by rw [l0]; rfl, a1⟩
theorem Tie.fld2 : Fld Tie 2 (fun s => s.LockB) := by
  rintro S cs s ⟨x0, y0, rfl, a0, ⟨x1, y1, rfl, a1, ⟨x2, y2, rfl, a2, a3⟩⟩⟩
  have l0 := Enc.len a0
  have l1 := Enc.len a1
  exact ⟨x0 ++ (x1), x2, y2, by simp, by simp [l0, l1]; rfl, a2⟩
theorem Tie.fld3 : Fld Tie 3 (fun s => s.WheelB) := by
  rintro S cs s ⟨x0, y0, rfl, a0, ⟨x1, y1, rfl, a1, ⟨x2, y2, rfl, a2, a3⟩⟩⟩
  have l0 := Enc.len a0
  have l1 := Enc.len a1
  have l2 := Enc.len a2
  exact ⟨x0 ++ (x1 ++ (x2)), y2, [], by simp, by simp [l0, l1, l2]; rfl, a3⟩
structure Riddle where
  Locks : (List CodeLock)
  Codes : (List (List Int))
  Known : (List (List Clue))
  Ties : (List Tie)
instance : Enc Riddle := encBy fun s => (s.Locks, s.Codes, s.Known, s.Ties)
theorem Riddle.inv {S : PH} {v : Go.Value} {s : Riddle} (h : RV S v s) : ∃ c0 c1 c2 c3, v = .agg #[c0, c1, c2, c3] ∧ RV S c0 s.Locks ∧ RV S c1 s.Codes ∧ RV S c2 s.Known ∧ RV S c3 s.Ties := by
  obtain ⟨cs, hr, rfl⟩ := h
  obtain ⟨_, _, rfl, h0, ⟨_, _, rfl, h1, ⟨_, _, rfl, h2, h3⟩⟩⟩ := hr
  obtain ⟨qh0, rfl, rh0⟩ := kv_ (by rfl) h0
  obtain ⟨qh1, rfl, rh1⟩ := kv_ (by rfl) h1
  obtain ⟨qh2, rfl, rh2⟩ := kv_ (by rfl) h2
  obtain ⟨qh3, rfl, rh3⟩ := kv_ (by rfl) h3
  exact ⟨qh0, qh1, qh2, qh3, rfl, rh0, rh1, rh2, rh3⟩
theorem Riddle.rv {S : PH} {s : Riddle} {c0 : Go.Value} (h0 : RV S c0 s.Locks) {c1 : Go.Value} (h1 : RV S c1 s.Codes) {c2 : Go.Value} (h2 : RV S c2 s.Known) {c3 : Go.Value} (h3 : RV S c3 s.Ties) : RV S (.agg #[c0, c1, c2, c3]) s := by
  have r0 := nz_ (by rfl) h0
  have r1 := nz_ (by rfl) h1
  have r2 := nz_ (by rfl) h2
  have r3 := nz_ (by rfl) h3
  exact ⟨_, ⟨_, _, rfl, r0, ⟨_, _, rfl, r1, ⟨_, _, rfl, r2, r3⟩⟩⟩, rfl⟩
theorem Riddle.fld0 : Fld Riddle 0 (fun s => s.Locks) := by
  rintro S cs s ⟨x0, y0, rfl, a0, ⟨x1, y1, rfl, a1, ⟨x2, y2, rfl, a2, a3⟩⟩⟩
  exact ⟨[], x0, x1 ++ (x2 ++ (y2)), by simp, rfl, a0⟩
theorem Riddle.fld1 : Fld Riddle 1 (fun s => s.Codes) := by
  rintro S cs s ⟨x0, y0, rfl, a0, ⟨x1, y1, rfl, a1, ⟨x2, y2, rfl, a2, a3⟩⟩⟩
  have l0 := Enc.len a0
  exact ⟨x0, x1, x2 ++ (y2), by simp, by rw [l0]; rfl, a1⟩
theorem Riddle.fld2 : Fld Riddle 2 (fun s => s.Known) := by
  rintro S cs s ⟨x0, y0, rfl, a0, ⟨x1, y1, rfl, a1, ⟨x2, y2, rfl, a2, a3⟩⟩⟩
  have l0 := Enc.len a0
  have l1 := Enc.len a1
  exact ⟨x0 ++ (x1), x2, y2, by simp, by simp [l0, l1]; rfl, a2⟩
theorem Riddle.fld3 : Fld Riddle 3 (fun s => s.Ties) := by
  rintro S cs s ⟨x0, y0, rfl, a0, ⟨x1, y1, rfl, a1, ⟨x2, y2, rfl, a2, a3⟩⟩⟩
  have l0 := Enc.len a0
  have l1 := Enc.len a1
  have l2 := Enc.len a2
  exact ⟨x0 ++ (x1 ++ (x2)), y2, [], by simp, by simp [l0, l1, l2]; rfl, a3⟩
structure Hints_room where
  Riddle : Riddle
  allowed : (List (List (List Int)))
instance : Enc Hints_room := encBy fun s => (s.Riddle, s.allowed)
theorem Hints_room.inv {S : PH} {v : Go.Value} {s : Hints_room} (h : RV S v s) : ∃ c0 c1 c2 c3 c4, v = .agg #[c0, c1, c2, c3, c4] ∧ RV S c0 s.Riddle.Locks ∧ RV S c1 s.Riddle.Codes ∧ RV S c2 s.Riddle.Known ∧ RV S c3 s.Riddle.Ties ∧ RV S c4 s.allowed := by
  obtain ⟨cs, hr, rfl⟩ := h
  obtain ⟨_, _, rfl, ⟨_, _, rfl, h0, ⟨_, _, rfl, h1, ⟨_, _, rfl, h2, h3⟩⟩⟩, h4⟩ := hr
  obtain ⟨qh0, rfl, rh0⟩ := kv_ (by rfl) h0
  obtain ⟨qh1, rfl, rh1⟩ := kv_ (by rfl) h1
  obtain ⟨qh2, rfl, rh2⟩ := kv_ (by rfl) h2
  obtain ⟨qh3, rfl, rh3⟩ := kv_ (by rfl) h3
  obtain ⟨qh4, rfl, rh4⟩ := kv_ (by rfl) h4
  exact ⟨qh0, qh1, qh2, qh3, qh4, rfl, rh0, rh1, rh2, rh3, rh4⟩
theorem Hints_room.rv {S : PH} {s : Hints_room} {c0 : Go.Value} (h0 : RV S c0 s.Riddle.Locks) {c1 : Go.Value} (h1 : RV S c1 s.Riddle.Codes) {c2 : Go.Value} (h2 : RV S c2 s.Riddle.Known) {c3 : Go.Value} (h3 : RV S c3 s.Riddle.Ties) {c4 : Go.Value} (h4 : RV S c4 s.allowed) : RV S (.agg #[c0, c1, c2, c3, c4]) s := by
  have r0 := nz_ (by rfl) h0
  have r1 := nz_ (by rfl) h1
  have r2 := nz_ (by rfl) h2
  have r3 := nz_ (by rfl) h3
  have r4 := nz_ (by rfl) h4
  exact ⟨_, ⟨_, _, rfl, ⟨_, _, rfl, r0, ⟨_, _, rfl, r1, ⟨_, _, rfl, r2, r3⟩⟩⟩, r4⟩, rfl⟩
theorem Hints_room.fld0 : Fld Hints_room 0 (fun s => s.Riddle) := by
  rintro S cs s ⟨x0, y0, rfl, a0, a1⟩
  exact ⟨[], x0, y0, by simp, rfl, a0⟩
theorem Hints_room.fld1 : Fld Hints_room 4 (fun s => s.allowed) := by
  rintro S cs s ⟨x0, y0, rfl, a0, a1⟩
  have l0 := Enc.len a0
  exact ⟨x0, y0, [], by simp, by rw [l0]; rfl, a1⟩
structure Aid where
  Lock : Int
  Clue : Clue
instance : Enc Aid := encBy fun s => (s.Lock, s.Clue)
theorem Aid.inv {S : PH} {v : Go.Value} {s : Aid} (h : RV S v s) : ∃ c6, v = .agg #[.int .i64 (s.Lock), .int .i64 (s.Clue.Kind), .int .i64 (s.Clue.A), .int .i64 (s.Clue.B), .int .i64 (s.Clue.N), .int .i64 (s.Clue.M), c6, .bool (s.Clue.Not)] ∧ RV S c6 s.Clue.Guess := by
  obtain ⟨cs, hr, rfl⟩ := h
  obtain ⟨_, _, rfl, h0, ⟨_, _, rfl, h1, ⟨_, _, rfl, h2, ⟨_, _, rfl, h3, ⟨_, _, rfl, h4, ⟨_, _, rfl, h5, ⟨_, _, rfl, h6, h7⟩⟩⟩⟩⟩⟩⟩ := hr
  obtain rfl := h0
  obtain rfl := h1
  obtain rfl := h2
  obtain rfl := h3
  obtain rfl := h4
  obtain rfl := h5
  obtain ⟨qh6, rfl, rh6⟩ := kv_ (by rfl) h6
  obtain rfl := h7
  exact ⟨qh6, rfl, rh6⟩
theorem Aid.rv {S : PH} {s : Aid} {c6 : Go.Value} (h6 : RV S c6 s.Clue.Guess) : RV S (.agg #[.int .i64 (s.Lock), .int .i64 (s.Clue.Kind), .int .i64 (s.Clue.A), .int .i64 (s.Clue.B), .int .i64 (s.Clue.N), .int .i64 (s.Clue.M), c6, .bool (s.Clue.Not)]) s := by
  have r6 := nz_ (by rfl) h6
  exact ⟨_, ⟨_, _, rfl, rfl, ⟨_, _, rfl, rfl, ⟨_, _, rfl, rfl, ⟨_, _, rfl, rfl, ⟨_, _, rfl, rfl, ⟨_, _, rfl, rfl, ⟨_, _, rfl, r6, rfl⟩⟩⟩⟩⟩⟩⟩, rfl⟩
theorem Aid.fld0 : Fld Aid 0 (fun s => s.Lock) := by
  rintro S cs s ⟨x0, y0, rfl, a0, a1⟩
  exact ⟨[], x0, y0, by simp, rfl, a0⟩
theorem Aid.fld1 : Fld Aid 1 (fun s => s.Clue) := by
  rintro S cs s ⟨x0, y0, rfl, a0, a1⟩
  have l0 := Enc.len a0
  exact ⟨x0, y0, [], by simp, by rw [l0]; rfl, a1⟩
abbrev Frm := Go.Proofs.YtlpdpeghgndmkaaGreat.Pad.Fr
theorem ca10 : ax_ Tryz.prog 10 := ⟨_, Tryz.func10, rfl, rfl⟩
theorem ca100 : ax_ Tryz.prog 100 := ⟨_, Tryz.func100, rfl, rfl⟩
theorem ca101 : ax_ Tryz.prog 101 := ⟨_, Tryz.func101, rfl, rfl⟩
theorem ca102 : ax_ Tryz.prog 102 := ⟨_, Tryz.func102, rfl, rfl⟩
theorem ca103 : ax_ Tryz.prog 103 := ⟨_, Tryz.func103, rfl, rfl⟩
theorem sq_ : ax_ Tryz.prog 104 := ⟨_, Tryz.func104, rfl, rfl⟩
theorem ca105 : ax_ Tryz.prog 105 := ⟨_, Tryz.func105, rfl, rfl⟩
theorem ca106 : ax_ Tryz.prog 106 := ⟨_, Tryz.func106, rfl, rfl⟩
theorem ca107 : ax_ Tryz.prog 107 := ⟨_, Tryz.func107, rfl, rfl⟩
theorem ca108 : ax_ Tryz.prog 108 := ⟨_, Tryz.func108, rfl, rfl⟩
theorem ca109 : ax_ Tryz.prog 109 := ⟨_, Tryz.func109, rfl, rfl⟩
theorem ca110 : ax_ Tryz.prog 110 := ⟨_, Tryz.func110, rfl, rfl⟩
theorem ca111 : ax_ Tryz.prog 111 := ⟨_, Tryz.func111, rfl, rfl⟩
theorem ca112 : ax_ Tryz.prog 112 := ⟨_, Tryz.func112, rfl, rfl⟩
theorem ca113 : ax_ Tryz.prog 113 := ⟨_, Tryz.func113, rfl, rfl⟩
theorem ca114 : ax_ Tryz.prog 114 := ⟨_, Tryz.func114, rfl, rfl⟩
theorem ca115 : ax_ Tryz.prog 115 := ⟨_, Tryz.func115, rfl, rfl⟩
theorem ca116 : ax_ Tryz.prog 116 := ⟨_, Tryz.func116, rfl, rfl⟩
theorem ca117 : ax_ Tryz.prog 117 := ⟨_, Tryz.func117, rfl, rfl⟩
theorem ca118 : ax_ Tryz.prog 118 := ⟨_, Tryz.func118, rfl, rfl⟩
theorem ca119 : ax_ Tryz.prog 119 := ⟨_, Tryz.func119, rfl, rfl⟩
theorem ca120 : ax_ Tryz.prog 120 := ⟨_, Tryz.func120, rfl, rfl⟩
theorem ca121 : ax_ Tryz.prog 121 := ⟨_, Tryz.func121, rfl, rfl⟩
theorem ca122 : ax_ Tryz.prog 122 := ⟨_, Tryz.func122, rfl, rfl⟩
theorem ca123 : ax_ Tryz.prog 123 := ⟨_, Tryz.func123, rfl, rfl⟩
theorem ca124 : ax_ Tryz.prog 124 := ⟨_, Tryz.func124, rfl, rfl⟩
theorem ca125 : ax_ Tryz.prog 125 := ⟨_, Tryz.func125, rfl, rfl⟩
theorem ca126 : ax_ Tryz.prog 126 := ⟨_, Tryz.func126, rfl, rfl⟩
theorem ca127 : ax_ Tryz.prog 127 := ⟨_, Tryz.func127, rfl, rfl⟩
theorem ca128 : ax_ Tryz.prog 128 := ⟨_, Tryz.func128, rfl, rfl⟩
theorem ca129 : ax_ Tryz.prog 129 := ⟨_, Tryz.func129, rfl, rfl⟩
theorem ca130 : ax_ Tryz.prog 130 := ⟨_, Tryz.func130, rfl, rfl⟩
theorem ca131 : ax_ Tryz.prog 131 := ⟨_, Tryz.func131, rfl, rfl⟩
theorem ca132 : ax_ Tryz.prog 132 := ⟨_, Tryz.func132, rfl, rfl⟩
theorem wl_ : ax_ Tryz.prog 133 := ⟨_, Tryz.func133, rfl, rfl⟩
theorem ca134 : ax_ Tryz.prog 134 := ⟨_, Tryz.func134, rfl, rfl⟩
theorem ca135 : ax_ Tryz.prog 135 := ⟨_, Tryz.func135, rfl, rfl⟩
theorem ca136 : ax_ Tryz.prog 136 := ⟨_, Tryz.func136, rfl, rfl⟩
theorem ca137 : ax_ Tryz.prog 137 := ⟨_, Tryz.func137, rfl, rfl⟩
theorem ca138 : ax_ Tryz.prog 138 := ⟨_, Tryz.func138, rfl, rfl⟩
theorem ca139 : ax_ Tryz.prog 139 := ⟨_, Tryz.func139, rfl, rfl⟩
theorem ca140 : ax_ Tryz.prog 140 := ⟨_, Tryz.func140, rfl, rfl⟩
theorem ca141 : ax_ Tryz.prog 141 := ⟨_, Tryz.func141, rfl, rfl⟩
theorem ca142 : ax_ Tryz.prog 142 := ⟨_, Tryz.func142, rfl, rfl⟩
theorem ca143 : ax_ Tryz.prog 143 := ⟨_, Tryz.func143, rfl, rfl⟩
theorem ca16 : ax_ Tryz.prog 16 := ⟨_, Tryz.func16, rfl, rfl⟩
theorem ca18 : ax_ Tryz.prog 18 := ⟨_, Tryz.func18, rfl, rfl⟩
theorem ca23 : ax_ Tryz.prog 23 := ⟨_, Tryz.func23, rfl, rfl⟩
theorem ca24 : ax_ Tryz.prog 24 := ⟨_, Tryz.func24, rfl, rfl⟩
theorem ca25 : ax_ Tryz.prog 25 := ⟨_, Tryz.func25, rfl, rfl⟩
theorem ca26 : ax_ Tryz.prog 26 := ⟨_, Tryz.func26, rfl, rfl⟩
theorem ca27 : ax_ Tryz.prog 27 := ⟨_, Tryz.func27, rfl, rfl⟩
theorem ca28 : ax_ Tryz.prog 28 := ⟨_, Tryz.func28, rfl, rfl⟩
theorem ca33 : ax_ Tryz.prog 33 := ⟨_, Tryz.func33, rfl, rfl⟩
theorem ca34 : ax_ Tryz.prog 34 := ⟨_, Tryz.func34, rfl, rfl⟩
theorem ca35 : ax_ Tryz.prog 35 := ⟨_, Tryz.func35, rfl, rfl⟩
theorem ca36 : ax_ Tryz.prog 36 := ⟨_, Tryz.func36, rfl, rfl⟩
theorem ca37 : ax_ Tryz.prog 37 := ⟨_, Tryz.func37, rfl, rfl⟩
theorem ca39 : ax_ Tryz.prog 39 := ⟨_, Tryz.func39, rfl, rfl⟩
theorem ca41 : ax_ Tryz.prog 41 := ⟨_, Tryz.func41, rfl, rfl⟩
theorem ca42 : ax_ Tryz.prog 42 := ⟨_, Tryz.func42, rfl, rfl⟩
theorem ca43 : ax_ Tryz.prog 43 := ⟨_, Tryz.func43, rfl, rfl⟩
theorem ca44 : ax_ Tryz.prog 44 := ⟨_, Tryz.func44, rfl, rfl⟩
theorem ca45 : ax_ Tryz.prog 45 := ⟨_, Tryz.func45, rfl, rfl⟩
theorem ca46 : ax_ Tryz.prog 46 := ⟨_, Tryz.func46, rfl, rfl⟩
theorem ca47 : ax_ Tryz.prog 47 := ⟨_, Tryz.func47, rfl, rfl⟩
theorem ca48 : ax_ Tryz.prog 48 := ⟨_, Tryz.func48, rfl, rfl⟩
theorem ca49 : ax_ Tryz.prog 49 := ⟨_, Tryz.func49, rfl, rfl⟩
theorem ca51 : ax_ Tryz.prog 51 := ⟨_, Tryz.func51, rfl, rfl⟩
theorem ca52 : ax_ Tryz.prog 52 := ⟨_, Tryz.func52, rfl, rfl⟩
theorem ca53 : ax_ Tryz.prog 53 := ⟨_, Tryz.func53, rfl, rfl⟩
theorem ca54 : ax_ Tryz.prog 54 := ⟨_, Tryz.func54, rfl, rfl⟩
theorem ca55 : ax_ Tryz.prog 55 := ⟨_, Tryz.func55, rfl, rfl⟩
theorem ca56 : ax_ Tryz.prog 56 := ⟨_, Tryz.func56, rfl, rfl⟩
theorem ca57 : ax_ Tryz.prog 57 := ⟨_, Tryz.func57, rfl, rfl⟩
theorem ca58 : ax_ Tryz.prog 58 := ⟨_, Tryz.func58, rfl, rfl⟩
theorem ca59 : ax_ Tryz.prog 59 := ⟨_, Tryz.func59, rfl, rfl⟩
theorem ca60 : ax_ Tryz.prog 60 := ⟨_, Tryz.func60, rfl, rfl⟩
theorem ca61 : ax_ Tryz.prog 61 := ⟨_, Tryz.func61, rfl, rfl⟩
theorem ca62 : ax_ Tryz.prog 62 := ⟨_, Tryz.func62, rfl, rfl⟩
theorem ca63 : ax_ Tryz.prog 63 := ⟨_, Tryz.func63, rfl, rfl⟩
theorem ca64 : ax_ Tryz.prog 64 := ⟨_, Tryz.func64, rfl, rfl⟩
theorem ca65 : ax_ Tryz.prog 65 := ⟨_, Tryz.func65, rfl, rfl⟩
theorem ca67 : ax_ Tryz.prog 67 := ⟨_, Tryz.func67, rfl, rfl⟩
theorem ca68 : ax_ Tryz.prog 68 := ⟨_, Tryz.func68, rfl, rfl⟩
theorem ca69 : ax_ Tryz.prog 69 := ⟨_, Tryz.func69, rfl, rfl⟩
theorem ca70 : ax_ Tryz.prog 70 := ⟨_, Tryz.func70, rfl, rfl⟩
theorem ca71 : ax_ Tryz.prog 71 := ⟨_, Tryz.func71, rfl, rfl⟩
theorem ca72 : ax_ Tryz.prog 72 := ⟨_, Tryz.func72, rfl, rfl⟩
theorem ca73 : ax_ Tryz.prog 73 := ⟨_, Tryz.func73, rfl, rfl⟩
theorem ca74 : ax_ Tryz.prog 74 := ⟨_, Tryz.func74, rfl, rfl⟩
theorem ca75 : ax_ Tryz.prog 75 := ⟨_, Tryz.func75, rfl, rfl⟩
theorem ca76 : ax_ Tryz.prog 76 := ⟨_, Tryz.func76, rfl, rfl⟩
theorem ca77 : ax_ Tryz.prog 77 := ⟨_, Tryz.func77, rfl, rfl⟩
theorem ca78 : ax_ Tryz.prog 78 := ⟨_, Tryz.func78, rfl, rfl⟩
theorem ca79 : ax_ Tryz.prog 79 := ⟨_, Tryz.func79, rfl, rfl⟩
theorem ca80 : ax_ Tryz.prog 80 := ⟨_, Tryz.func80, rfl, rfl⟩
theorem ca81 : ax_ Tryz.prog 81 := ⟨_, Tryz.func81, rfl, rfl⟩
theorem ca82 : ax_ Tryz.prog 82 := ⟨_, Tryz.func82, rfl, rfl⟩
theorem ca83 : ax_ Tryz.prog 83 := ⟨_, Tryz.func83, rfl, rfl⟩
theorem ca84 : ax_ Tryz.prog 84 := ⟨_, Tryz.func84, rfl, rfl⟩
theorem ca85 : ax_ Tryz.prog 85 := ⟨_, Tryz.func85, rfl, rfl⟩
theorem ca86 : ax_ Tryz.prog 86 := ⟨_, Tryz.func86, rfl, rfl⟩
theorem ca87 : ax_ Tryz.prog 87 := ⟨_, Tryz.func87, rfl, rfl⟩
theorem ca88 : ax_ Tryz.prog 88 := ⟨_, Tryz.func88, rfl, rfl⟩
theorem ca89 : ax_ Tryz.prog 89 := ⟨_, Tryz.func89, rfl, rfl⟩
theorem ca9 : ax_ Tryz.prog 9 := ⟨_, Tryz.func9, rfl, rfl⟩
theorem ca90 : ax_ Tryz.prog 90 := ⟨_, Tryz.func90, rfl, rfl⟩
theorem ca91 : ax_ Tryz.prog 91 := ⟨_, Tryz.func91, rfl, rfl⟩
theorem ca92 : ax_ Tryz.prog 92 := ⟨_, Tryz.func92, rfl, rfl⟩
theorem ca93 : ax_ Tryz.prog 93 := ⟨_, Tryz.func93, rfl, rfl⟩
theorem ca94 : ax_ Tryz.prog 94 := ⟨_, Tryz.func94, rfl, rfl⟩
theorem ca95 : ax_ Tryz.prog 95 := ⟨_, Tryz.func95, rfl, rfl⟩
theorem ca96 : ax_ Tryz.prog 96 := ⟨_, Tryz.func96, rfl, rfl⟩
theorem ca97 : ax_ Tryz.prog 97 := ⟨_, Tryz.func97, rfl, rfl⟩
theorem ca98 : ax_ Tryz.prog 98 := ⟨_, Tryz.func98, rfl, rfl⟩
theorem ca99 : ax_ Tryz.prog 99 := ⟨_, Tryz.func99, rfl, rfl⟩
theorem el23 : Elem Tryz.prog (List (List Int)) 23 24 (.slice none 0 0) ([] : (List (List Int))) := ⟨_, (by kernel_rfl : Tryz.prog.info? 23 = some Tryz.t23), rfl, rfl, rfl, rfl, fun S => rv_nil.cells⟩
theorem zh_ : Elem Tryz.prog (List Int) 28 24 (.slice none 0 0) ([] : (List Int)) := ⟨_, (by kernel_rfl : Tryz.prog.info? 28 = some Tryz.t28), rfl, rfl, rfl, rfl, fun S => rv_nil.cells⟩
theorem el3 : Elem Tryz.prog Int 3 8 (.int .i64 0) (0 : Int) := ⟨_, (by kernel_rfl : Tryz.prog.info? 3 = some Tryz.t3), rfl, rfl, rfl, rfl, fun S => rfl⟩
theorem el30 : Elem Tryz.prog Clue 30 72 (.agg #[.int .i64 0, .int .i64 0, .int .i64 0, .int .i64 0, .int .i64 0, .slice none 0 0, .bool false]) (⟨0, 0, 0, 0, 0, [], false⟩ : Clue) := ⟨_, (by kernel_rfl : Tryz.prog.info? 30 = some Tryz.t30), rfl, rfl, rfl, rfl, fun S => (Clue.rv (s := ⟨0, 0, 0, 0, 0, [], false⟩) rv_nil).cells⟩
theorem el4 : Elem Tryz.prog Bool 4 1 (.bool false) (false : Bool) := ⟨_, (by kernel_rfl : Tryz.prog.info? 4 = some Tryz.t4), rfl, rfl, rfl, rfl, fun S => rfl⟩
theorem el62 : Elem Tryz.prog CodeLock 62 16 (.agg #[.int .i64 0, .int .i64 0]) (⟨0, 0⟩ : CodeLock) := ⟨_, (by kernel_rfl : Tryz.prog.info? 62 = some Tryz.t62), rfl, rfl, rfl, rfl, fun S => (CodeLock.rv (s := ⟨0, 0⟩) ).cells⟩
theorem el63 : Elem Tryz.prog (List Clue) 63 24 (.slice none 0 0) ([] : (List Clue)) := ⟨_, (by kernel_rfl : Tryz.prog.info? 63 = some Tryz.t63), rfl, rfl, rfl, rfl, fun S => rv_nil.cells⟩
theorem el75 : Elem Tryz.prog Tie 75 32 (.agg #[.int .i64 0, .int .i64 0, .int .i64 0, .int .i64 0]) (⟨0, 0, 0, 0⟩ : Tie) := ⟨_, (by kernel_rfl : Tryz.prog.info? 75 = some Tryz.t75), rfl, rfl, rfl, rfl, fun S => (Tie.rv (s := ⟨0, 0, 0, 0⟩) ).cells⟩
theorem el114r : Elem Tryz.prog Raw 114 24 (.slice none 0 0) (⟨.slice none 0 0⟩ : Raw) := ⟨_, (by kernel_rfl : Tryz.prog.info? 114 = some Tryz.t114), rfl, rfl, rfl, rfl, fun S => ⟨rfl, rfl⟩⟩
theorem el23r : Elem Tryz.prog Raw 23 24 (.slice none 0 0) (⟨.slice none 0 0⟩ : Raw) := ⟨_, (by kernel_rfl : Tryz.prog.info? 23 = some Tryz.t23), rfl, rfl, rfl, rfl, fun S => ⟨rfl, rfl⟩⟩
theorem el63r : Elem Tryz.prog Raw 63 24 (.slice none 0 0) (⟨.slice none 0 0⟩ : Raw) := ⟨_, (by kernel_rfl : Tryz.prog.info? 63 = some Tryz.t63), rfl, rfl, rfl, rfl, fun S => ⟨rfl, rfl⟩⟩
theorem qk_ : ds_ Tryz.prog 138 0 0 := fun w a => by kernel_rfl
theorem fa138_1 : ds_ Tryz.prog 138 1 1 := fun w a => by kernel_rfl
theorem co_ : ds_ Tryz.prog 27 0 0 := fun w a => by kernel_rfl
theorem hi_ : ds_ Tryz.prog 27 1 1 := fun w a => by kernel_rfl
theorem fk_ : ds_ Tryz.prog 27 2 2 := fun w a => by kernel_rfl
theorem nv_ : ds_ Tryz.prog 27 3 3 := fun w a => by kernel_rfl
theorem tb_ : ds_ Tryz.prog 30 0 0 := fun w a => by kernel_rfl
theorem db_ : ds_ Tryz.prog 30 1 1 := fun w a => by kernel_rfl
theorem fv_ : ds_ Tryz.prog 30 2 2 := fun w a => by kernel_rfl
theorem ck_ : ds_ Tryz.prog 30 3 3 := fun w a => by kernel_rfl
theorem fd_ : ds_ Tryz.prog 30 4 4 := fun w a => by kernel_rfl
theorem kf_ : ds_ Tryz.prog 30 5 5 := fun w a => by kernel_rfl
theorem mb_ : ds_ Tryz.prog 30 6 6 := fun w a => by kernel_rfl
theorem fq_ : ds_ Tryz.prog 32 0 0 := fun w a => by kernel_rfl
theorem fa32_1 : ds_ Tryz.prog 32 1 1 := fun w a => by kernel_rfl
theorem hh_ : ds_ Tryz.prog 62 0 0 := fun w a => by kernel_rfl
theorem ru_ : ds_ Tryz.prog 62 1 1 := fun w a => by kernel_rfl
theorem fa70_0 : ds_ Tryz.prog 70 0 0 := fun w a => by kernel_rfl
theorem wu_ : ds_ Tryz.prog 70 1 4 := fun w a => by kernel_rfl
theorem ja_ : ds_ Tryz.prog 75 0 0 := fun w a => by kernel_rfl
theorem rt_ : ds_ Tryz.prog 75 1 1 := fun w a => by kernel_rfl
theorem ke_ : ds_ Tryz.prog 75 2 2 := fun w a => by kernel_rfl
theorem vn_ : ds_ Tryz.prog 75 3 3 := fun w a => by kernel_rfl
theorem sh113 : Shape Tryz.prog 113 false 1 := ⟨fun w => by kernel_rfl, fun w => by kernel_rfl⟩
theorem sh114 : Shape Tryz.prog 114 false 1 := ⟨fun w => by kernel_rfl, fun w => by kernel_rfl⟩
theorem sh120 : Shape Tryz.prog 120 false 1 := ⟨fun w => by kernel_rfl, fun w => by kernel_rfl⟩
theorem sh121 : Shape Tryz.prog 121 false 1 := ⟨fun w => by kernel_rfl, fun w => by kernel_rfl⟩
theorem tf_ : Shape Tryz.prog 138 true 2 := ⟨fun w => by kernel_rfl, fun w => by kernel_rfl⟩
theorem sh140 : Shape Tryz.prog 140 false 1 := ⟨fun w => by kernel_rfl, fun w => by kernel_rfl⟩
theorem mh_ : Shape Tryz.prog 22 false 1 := ⟨fun w => by kernel_rfl, fun w => by kernel_rfl⟩
theorem lq_ : Shape Tryz.prog 23 false 1 := ⟨fun w => by kernel_rfl, fun w => by kernel_rfl⟩
theorem sb_ : Shape Tryz.prog 24 false 1 := ⟨fun w => by kernel_rfl, fun w => by kernel_rfl⟩
theorem sh25 : Shape Tryz.prog 25 false 1 := ⟨fun w => by kernel_rfl, fun w => by kernel_rfl⟩
theorem fr_ : Shape Tryz.prog 27 true 4 := ⟨fun w => by kernel_rfl, fun w => by kernel_rfl⟩
theorem fn_ : Shape Tryz.prog 28 false 1 := ⟨fun w => by kernel_rfl, fun w => by kernel_rfl⟩
theorem sh3 : Shape Tryz.prog 3 false 1 := ⟨fun w => by kernel_rfl, fun w => by kernel_rfl⟩
theorem lk_ : Shape Tryz.prog 30 true 7 := ⟨fun w => by kernel_rfl, fun w => by kernel_rfl⟩
theorem ua_ : Shape Tryz.prog 32 true 8 := ⟨fun w => by kernel_rfl, fun w => by kernel_rfl⟩
theorem sh4 : Shape Tryz.prog 4 false 1 := ⟨fun w => by kernel_rfl, fun w => by kernel_rfl⟩
theorem sh45 : Shape Tryz.prog 45 false 1 := ⟨fun w => by kernel_rfl, fun w => by kernel_rfl⟩
theorem sh55 : Shape Tryz.prog 55 false 1 := ⟨fun w => by kernel_rfl, fun w => by kernel_rfl⟩
theorem im_ : Shape Tryz.prog 62 true 2 := ⟨fun w => by kernel_rfl, fun w => by kernel_rfl⟩
theorem ng_ : Shape Tryz.prog 63 false 1 := ⟨fun w => by kernel_rfl, fun w => by kernel_rfl⟩
theorem sh66 : Shape Tryz.prog 66 false 1 := ⟨fun w => by kernel_rfl, fun w => by kernel_rfl⟩
theorem sh75 : Shape Tryz.prog 75 true 4 := ⟨fun w => by kernel_rfl, fun w => by kernel_rfl⟩
theorem sh81 : Shape Tryz.prog 81 false 1 := ⟨fun w => by kernel_rfl, fun w => by kernel_rfl⟩
theorem sh90 : Shape Tryz.prog 90 false 1 := ⟨fun w => by kernel_rfl, fun w => by kernel_rfl⟩
theorem st27 : StructT Tryz.prog 27 #[.slice none 0 0, .slice none 0 0, .slice none 0 0, .slice none 0 0] #[(0, 1), (1, 1), (2, 1), (3, 1)] := ⟨_, fun w => by kernel_rfl, Tryz.underlying27, fun w => by kernel_rfl⟩
theorem st30 : StructT Tryz.prog 30 #[.int .i64 0, .int .i64 0, .int .i64 0, .int .i64 0, .int .i64 0, .slice none 0 0, .bool false] #[(0, 1), (1, 1), (2, 1), (3, 1), (4, 1), (5, 1), (6, 1)] := ⟨_, fun w => by kernel_rfl, Tryz.underlying30, fun w => by kernel_rfl⟩
theorem st32 : StructT Tryz.prog 32 #[.int .i64 0, .int .i64 0, .int .i64 0, .int .i64 0, .int .i64 0, .int .i64 0, .slice none 0 0, .bool false] #[(0, 1), (1, 7)] := ⟨_, fun w => by kernel_rfl, Tryz.underlying32, fun w => by kernel_rfl⟩
theorem st62 : StructT Tryz.prog 62 #[.int .i64 0, .int .i64 0] #[(0, 1), (1, 1)] := ⟨_, fun w => by kernel_rfl, Tryz.underlying62, fun w => by kernel_rfl⟩
theorem st70 : StructT Tryz.prog 70 #[.slice none 0 0, .slice none 0 0, .slice none 0 0, .slice none 0 0, .slice none 0 0] #[(0, 4), (4, 1)] := ⟨_, fun w => by kernel_rfl, Tryz.underlying70, fun w => by kernel_rfl⟩
theorem st75 : StructT Tryz.prog 75 #[.int .i64 0, .int .i64 0, .int .i64 0, .int .i64 0] #[(0, 1), (1, 1), (2, 1), (3, 1)] := ⟨_, fun w => by kernel_rfl, Tryz.underlying75, fun w => by kernel_rfl⟩
theorem zo113 : mg_ Tryz.prog 113 (.slice none 0 0) := fun w => by kernel_rfl
theorem zo121 : mg_ Tryz.prog 121 (.nilFunc) := fun w => by kernel_rfl
theorem zo140 : mg_ Tryz.prog 140 (.nilFunc) := fun w => by kernel_rfl
theorem zo23 : mg_ Tryz.prog 23 (.slice none 0 0) := fun w => by kernel_rfl
theorem zo27 : mg_ Tryz.prog 27 (.agg #[.slice none 0 0, .slice none 0 0, .slice none 0 0, .slice none 0 0]) := fun w => by kernel_rfl
theorem zo28 : mg_ Tryz.prog 28 (.slice none 0 0) := fun w => by kernel_rfl
theorem zo3 : mg_ Tryz.prog 3 (.int .i64 0) := fun w => by kernel_rfl
theorem zo30 : mg_ Tryz.prog 30 (.agg #[.int .i64 0, .int .i64 0, .int .i64 0, .int .i64 0, .int .i64 0, .slice none 0 0, .bool false]) := fun w => by kernel_rfl
theorem zo32 : mg_ Tryz.prog 32 (.agg #[.int .i64 0, .int .i64 0, .int .i64 0, .int .i64 0, .int .i64 0, .int .i64 0, .slice none 0 0, .bool false]) := fun w => by kernel_rfl
theorem zo62 : mg_ Tryz.prog 62 (.agg #[.int .i64 0, .int .i64 0]) := fun w => by kernel_rfl
theorem zo75 : mg_ Tryz.prog 75 (.agg #[.int .i64 0, .int .i64 0, .int .i64 0, .int .i64 0]) := fun w => by kernel_rfl
theorem zo81 : mg_ Tryz.prog 81 (.nilFunc) := fun w => by kernel_rfl
theorem zoa153 : mg_ Tryz.prog 153 (Value.agg (List.replicate 10 (Value.int .i64 (0))).toArray) := fun w => by kernel_rfl
end Go.Proofs.YtlpdpeghgndmkaaGreat.Pad
