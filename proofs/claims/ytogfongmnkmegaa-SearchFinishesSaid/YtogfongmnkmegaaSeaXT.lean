/- A part of the proof: what the functions of the program compute, shown over the model. -/
import Derived.Test.YtogfongmnkmegaaProg
import Derived.Test.YtogfongmnkmegaaPadM
import Derived.KernelRfl
set_option linter.unusedVariables false
namespace Go.Proofs.Ytogfongmnkmegaa.Pad
open Go Go.Proofs
set_option linter.unusedSimpArgs false
structure State where
  Things : (List Int)
  Props : (List Int)
  Players : (List Int)
instance : Enc State := fu_ fun s => (s.Things, s.Props, s.Players)
theorem State.inv {S : PH} {v : Go.Value} {s : State} (h : RV S v s) : ∃ c0 c1 c2, v = .agg #[c0, c1, c2] ∧ RV S c0 s.Things ∧ RV S c1 s.Props ∧ RV S c2 s.Players := by
  obtain ⟨cs, hr, rfl⟩ := h
  obtain ⟨_, _, rfl, h0, ⟨_, _, rfl, h1, h2⟩⟩ := hr
  obtain ⟨qh0, rfl, rh0⟩ := cp_ (by rfl) h0
  obtain ⟨qh1, rfl, rh1⟩ := cp_ (by rfl) h1
  obtain ⟨qh2, rfl, rh2⟩ := cp_ (by rfl) h2
  exact ⟨qh0, qh1, qh2, rfl, rh0, rh1, rh2⟩
theorem State.rv {S : PH} {s : State} {c0 : Go.Value} (h0 : RV S c0 s.Things) {c1 : Go.Value} (h1 : RV S c1 s.Props) {c2 : Go.Value} (h2 : RV S c2 s.Players) : RV S (.agg #[c0, c1, c2]) s := by
  have r0 := dj_ (by rfl) h0
  have r1 := dj_ (by rfl) h1
  have r2 := dj_ (by rfl) h2
  exact ⟨_, ⟨_, _, rfl, r0, ⟨_, _, rfl, r1, r2⟩⟩, rfl⟩
theorem State.fld0 : Fld State 0 (fun s => s.Things) := by
  rintro S cs s ⟨x0, y0, rfl, a0, ⟨x1, y1, rfl, a1, a2⟩⟩
  exact ⟨[], x0, x1 ++ (y1), by simp, rfl, a0⟩
theorem State.fld1 : Fld State 1 (fun s => s.Props) := by
  rintro S cs s ⟨x0, y0, rfl, a0, ⟨x1, y1, rfl, a1, a2⟩⟩
  have l0 := Enc.len a0
  exact ⟨x0, x1, y1, by simp, by rw [l0]; rfl, a1⟩
theorem State.fld2 : Fld State 2 (fun s => s.Players) := by
  rintro S cs s ⟨x0, y0, rfl, a0, ⟨x1, y1, rfl, a1, a2⟩⟩
  have l0 := Enc.len a0
  have l1 := Enc.len a1
  exact ⟨x0 ++ (x1), y1, [], by simp, by simp [l0, l1]; rfl, a2⟩
structure Position where
  State : State
  Read : (List Bool)
instance : Enc Position := fu_ fun s => (s.State, s.Read)
theorem Position.inv {S : PH} {v : Go.Value} {s : Position} (h : RV S v s) : ∃ c0 c1 c2 c3, v = .agg #[c0, c1, c2, c3] ∧ RV S c0 s.State.Things ∧ RV S c1 s.State.Props ∧ RV S c2 s.State.Players ∧ RV S c3 s.Read := by
  obtain ⟨cs, hr, rfl⟩ := h
  obtain ⟨_, _, rfl, ⟨_, _, rfl, h0, ⟨_, _, rfl, h1, h2⟩⟩, h3⟩ := hr
  obtain ⟨qh0, rfl, rh0⟩ := cp_ (by rfl) h0
  obtain ⟨qh1, rfl, rh1⟩ := cp_ (by rfl) h1
  obtain ⟨qh2, rfl, rh2⟩ := cp_ (by rfl) h2
  obtain ⟨qh3, rfl, rh3⟩ := cp_ (by rfl) h3
  exact ⟨qh0, qh1, qh2, qh3, rfl, rh0, rh1, rh2, rh3⟩
theorem Position.rv {S : PH} {s : Position} {c0 : Go.Value} (h0 : RV S c0 s.State.Things) {c1 : Go.Value} (h1 : RV S c1 s.State.Props) {c2 : Go.Value} (h2 : RV S c2 s.State.Players) {c3 : Go.Value} (h3 : RV S c3 s.Read) : RV S (.agg #[c0, c1, c2, c3]) s := by
  have r0 := dj_ (by rfl) h0
  have r1 := dj_ (by rfl) h1
  have r2 := dj_ (by rfl) h2
  have r3 := dj_ (by rfl) h3
  exact ⟨_, ⟨_, _, rfl, ⟨_, _, rfl, r0, ⟨_, _, rfl, r1, r2⟩⟩, r3⟩, rfl⟩
theorem Position.fld0 : Fld Position 0 (fun s => s.State) := by
  rintro S cs s ⟨x0, y0, rfl, a0, a1⟩
  exact ⟨[], x0, y0, by simp, rfl, a0⟩
theorem Position.fld1 : Fld Position 3 (fun s => s.Read) := by
  rintro S cs s ⟨x0, y0, rfl, a0, a1⟩
  have l0 := Enc.len a0
  exact ⟨x0, y0, [], by simp, by rw [l0]; rfl, a1⟩
structure Move where
  Player : Int
  Kind : Int
  Number : Int
  deriving DecidableEq
instance : Enc Move := fu_ fun s => (s.Player, s.Kind, s.Number)
instance : Ind Move := ⟨fun S T cs x h => Ind.ind (α := Int × Int × Int) S T cs _ h⟩
theorem Move.inv {S : PH} {v : Go.Value} {s : Move} (h : RV S v s) : v = .agg #[.int .i64 (s.Player), .int .i64 (s.Kind), .int .i64 (s.Number)] := by
  obtain ⟨cs, hr, rfl⟩ := h
  obtain ⟨_, _, rfl, h0, ⟨_, _, rfl, h1, h2⟩⟩ := hr
  obtain rfl := h0
  obtain rfl := h1
  obtain rfl := h2
  rfl
theorem Move.rv {S : PH} {s : Move} : RV S (.agg #[.int .i64 (s.Player), .int .i64 (s.Kind), .int .i64 (s.Number)]) s := by
  exact ⟨_, ⟨_, _, rfl, rfl, ⟨_, _, rfl, rfl, rfl⟩⟩, rfl⟩
theorem Move.fld0 : Fld Move 0 (fun s => s.Player) := by
  rintro S cs s ⟨x0, y0, rfl, a0, ⟨x1, y1, rfl, a1, a2⟩⟩
  exact ⟨[], x0, x1 ++ (y1), by simp, rfl, a0⟩
theorem Move.fld1 : Fld Move 1 (fun s => s.Kind) := by
  rintro S cs s ⟨x0, y0, rfl, a0, ⟨x1, y1, rfl, a1, a2⟩⟩
  have l0 := Enc.len a0
  exact ⟨x0, x1, y1, by simp, by rw [l0]; rfl, a1⟩
theorem Move.fld2 : Fld Move 2 (fun s => s.Number) := by
  rintro S cs s ⟨x0, y0, rfl, a0, ⟨x1, y1, rfl, a1, a2⟩⟩
  have l0 := Enc.len a0
  have l1 := Enc.len a1
  exact ⟨x0 ++ (x1), y1, [], by simp, by simp [l0, l1]; rfl, a2⟩
structure Edge where
  Move : Move
  To : Int
  deriving DecidableEq
instance : Enc Edge := fu_ fun s => (s.Move, s.To)
instance : Ind Edge := ⟨fun S T cs x h => Ind.ind (α := Move × Int) S T cs _ h⟩
theorem Edge.inv {S : PH} {v : Go.Value} {s : Edge} (h : RV S v s) : v = .agg #[.int .i64 (s.Move.Player), .int .i64 (s.Move.Kind), .int .i64 (s.Move.Number), .int .i64 (s.To)] := by
  obtain ⟨cs, hr, rfl⟩ := h
  obtain ⟨_, _, rfl, ⟨_, _, rfl, h0, ⟨_, _, rfl, h1, h2⟩⟩, h3⟩ := hr
  obtain rfl := h0
  obtain rfl := h1
  obtain rfl := h2
  obtain rfl := h3
  rfl
theorem Edge.rv {S : PH} {s : Edge} : RV S (.agg #[.int .i64 (s.Move.Player), .int .i64 (s.Move.Kind), .int .i64 (s.Move.Number), .int .i64 (s.To)]) s := by
  exact ⟨_, ⟨_, _, rfl, ⟨_, _, rfl, rfl, ⟨_, _, rfl, rfl, rfl⟩⟩, rfl⟩, rfl⟩
theorem Edge.fld0 : Fld Edge 0 (fun s => s.Move) := by
  rintro S cs s ⟨x0, y0, rfl, a0, a1⟩
  exact ⟨[], x0, y0, by simp, rfl, a0⟩
theorem Edge.fld1 : Fld Edge 3 (fun s => s.To) := by
  rintro S cs s ⟨x0, y0, rfl, a0, a1⟩
  have l0 := Enc.len a0
  exact ⟨x0, y0, [], by simp, by rw [l0]; rfl, a1⟩
structure Graph where
  Positions : (List Position)
  Edges : (List (List Edge))
instance : Enc Graph := fu_ fun s => (s.Positions, s.Edges)
theorem Graph.inv {S : PH} {v : Go.Value} {s : Graph} (h : RV S v s) : ∃ c0 c1, v = .agg #[c0, c1] ∧ RV S c0 s.Positions ∧ RV S c1 s.Edges := by
  obtain ⟨cs, hr, rfl⟩ := h
  obtain ⟨_, _, rfl, h0, h1⟩ := hr
  obtain ⟨qh0, rfl, rh0⟩ := cp_ (by rfl) h0
  obtain ⟨qh1, rfl, rh1⟩ := cp_ (by rfl) h1
  exact ⟨qh0, qh1, rfl, rh0, rh1⟩
theorem Graph.rv {S : PH} {s : Graph} {c0 : Go.Value} (h0 : RV S c0 s.Positions) {c1 : Go.Value} (h1 : RV S c1 s.Edges) : RV S (.agg #[c0, c1]) s := by
  have r0 := dj_ (by rfl) h0
  have r1 := dj_ (by rfl) h1
  exact ⟨_, ⟨_, _, rfl, r0, r1⟩, rfl⟩
theorem Graph.fld0 : Fld Graph 0 (fun s => s.Positions) := by
  rintro S cs s ⟨x0, y0, rfl, a0, a1⟩
  exact ⟨[], x0, y0, by simp, rfl, a0⟩
theorem Graph.fld1 : Fld Graph 1 (fun s => s.Edges) := by
  rintro S cs s ⟨x0, y0, rfl, a0, a1⟩
  have l0 := Enc.len a0
  exact ⟨x0, y0, [], by simp, by rw [l0]; rfl, a1⟩
structure Search_view where
  edges : (List (List Edge))
  distances : (List Int)
instance : Enc Search_view := fu_ fun s => (s.edges, s.distances)
theorem Search_view.inv {S : PH} {v : Go.Value} {s : Search_view} (h : RV S v s) : ∃ c0 c1, v = .agg #[c0, c1] ∧ RV S c0 s.edges ∧ RV S c1 s.distances := by
  obtain ⟨cs, hr, rfl⟩ := h
  obtain ⟨_, _, rfl, h0, h1⟩ := hr
  obtain ⟨qh0, rfl, rh0⟩ := cp_ (by rfl) h0
  obtain ⟨qh1, rfl, rh1⟩ := cp_ (by rfl) h1
  exact ⟨qh0, qh1, rfl, rh0, rh1⟩
theorem Search_view.rv {S : PH} {s : Search_view} {c0 : Go.Value} (h0 : RV S c0 s.edges) {c1 : Go.Value} (h1 : RV S c1 s.distances) : RV S (.agg #[c0, c1]) s := by
  have r0 := dj_ (by rfl) h0
  have r1 := dj_ (by rfl) h1
  exact ⟨_, ⟨_, _, rfl, r0, r1⟩, rfl⟩
theorem Search_view.fld0 : Fld Search_view 0 (fun s => s.edges) := by
  rintro S cs s ⟨x0, y0, rfl, a0, a1⟩
  exact ⟨[], x0, y0, by simp, rfl, a0⟩
theorem Search_view.fld1 : Fld Search_view 1 (fun s => s.distances) := by
  rintro S cs s ⟨x0, y0, rfl, a0, a1⟩
  have l0 := Enc.len a0
  exact ⟨x0, y0, [], by simp, by rw [l0]; rfl, a1⟩
structure Mind where
  Memory : Int
  Turn : Int
  deriving DecidableEq
instance : Enc Mind := fu_ fun s => (s.Memory, s.Turn)
instance : Ind Mind := ⟨fun S T cs x h => Ind.ind (α := Int × Int) S T cs _ h⟩
theorem Mind.inv {S : PH} {v : Go.Value} {s : Mind} (h : RV S v s) : v = .agg #[.int .i64 (s.Memory), .int .i64 (s.Turn)] := by
  obtain ⟨cs, hr, rfl⟩ := h
  obtain ⟨_, _, rfl, h0, h1⟩ := hr
  obtain rfl := h0
  obtain rfl := h1
  rfl
theorem Mind.rv {S : PH} {s : Mind} : RV S (.agg #[.int .i64 (s.Memory), .int .i64 (s.Turn)]) s := by
  exact ⟨_, ⟨_, _, rfl, rfl, rfl⟩, rfl⟩
theorem Mind.fld0 : Fld Mind 0 (fun s => s.Memory) := by
  rintro S cs s ⟨x0, y0, rfl, a0, a1⟩
  exact ⟨[], x0, y0, by simp, rfl, a0⟩
theorem Mind.fld1 : Fld Mind 1 (fun s => s.Turn) := by
  rintro S cs s ⟨x0, y0, rfl, a0, a1⟩
  have l0 := Enc.len a0
  exact ⟨x0, y0, [], by simp, by rw [l0]; rfl, a1⟩
structure Search_gone where
  position : Int
  edge : Int
  deriving DecidableEq
instance : Enc Search_gone := fu_ fun s => (s.position, s.edge)
instance : Ind Search_gone := ⟨fun S T cs x h => Ind.ind (α := Int × Int) S T cs _ h⟩
theorem Search_gone.inv {S : PH} {v : Go.Value} {s : Search_gone} (h : RV S v s) : v = .agg #[.int .i64 (s.position), .int .i64 (s.edge)] := by
  obtain ⟨cs, hr, rfl⟩ := h
  obtain ⟨_, _, rfl, h0, h1⟩ := hr
  obtain rfl := h0
  obtain rfl := h1
  rfl
theorem Search_gone.rv {S : PH} {s : Search_gone} : RV S (.agg #[.int .i64 (s.position), .int .i64 (s.edge)]) s := by
  exact ⟨_, ⟨_, _, rfl, rfl, rfl⟩, rfl⟩
theorem Search_gone.fld0 : Fld Search_gone 0 (fun s => s.position) := by
  rintro S cs s ⟨x0, y0, rfl, a0, a1⟩
  exact ⟨[], x0, y0, by simp, rfl, a0⟩
theorem Search_gone.fld1 : Fld Search_gone 1 (fun s => s.edge) := by
  rintro S cs s ⟨x0, y0, rfl, a0, a1⟩
  have l0 := Enc.len a0
  exact ⟨x0, y0, [], by simp, by rw [l0]; rfl, a1⟩
structure Search_player where
  view : Search_view
  Mind : Mind
  at_ : Int
  memory : (List Search_gone)
instance : Enc Search_player := fu_ fun s => (s.view, s.Mind, s.at_, s.memory)
theorem Search_player.inv {S : PH} {v : Go.Value} {s : Search_player} (h : RV S v s) : ∃ c0 c1 c5, v = .agg #[c0, c1, .int .i64 (s.Mind.Memory), .int .i64 (s.Mind.Turn), .int .i64 (s.at_), c5] ∧ RV S c0 s.view.edges ∧ RV S c1 s.view.distances ∧ RV S c5 s.memory := by
  obtain ⟨cs, hr, rfl⟩ := h
  obtain ⟨_, _, rfl, ⟨_, _, rfl, h0, h1⟩, ⟨_, _, rfl, ⟨_, _, rfl, h2, h3⟩, ⟨_, _, rfl, h4, h5⟩⟩⟩ := hr
  obtain ⟨qh0, rfl, rh0⟩ := cp_ (by rfl) h0
  obtain ⟨qh1, rfl, rh1⟩ := cp_ (by rfl) h1
  obtain rfl := h2
  obtain rfl := h3
  obtain rfl := h4
  obtain ⟨qh5, rfl, rh5⟩ := cp_ (by rfl) h5
  exact ⟨qh0, qh1, qh5, rfl, rh0, rh1, rh5⟩
theorem Search_player.rv {S : PH} {s : Search_player} {c0 : Go.Value} (h0 : RV S c0 s.view.edges) {c1 : Go.Value} (h1 : RV S c1 s.view.distances) {c5 : Go.Value} (h5 : RV S c5 s.memory) : RV S (.agg #[c0, c1, .int .i64 (s.Mind.Memory), .int .i64 (s.Mind.Turn), .int .i64 (s.at_), c5]) s := by
  have r0 := dj_ (by rfl) h0
  have r1 := dj_ (by rfl) h1
  have r5 := dj_ (by rfl) h5
  exact ⟨_, ⟨_, _, rfl, ⟨_, _, rfl, r0, r1⟩, ⟨_, _, rfl, ⟨_, _, rfl, rfl, rfl⟩, ⟨_, _, rfl, rfl, r5⟩⟩⟩, rfl⟩
theorem Search_player.fld0 : Fld Search_player 0 (fun s => s.view) := by
  rintro S cs s ⟨x0, y0, rfl, a0, ⟨x1, y1, rfl, a1, ⟨x2, y2, rfl, a2, a3⟩⟩⟩
  exact ⟨[], x0, x1 ++ (x2 ++ (y2)), by simp, rfl, a0⟩
theorem Search_player.fld1 : Fld Search_player 2 (fun s => s.Mind) := by
  rintro S cs s ⟨x0, y0, rfl, a0, ⟨x1, y1, rfl, a1, ⟨x2, y2, rfl, a2, a3⟩⟩⟩
  have l0 := Enc.len a0
  exact ⟨x0, x1, x2 ++ (y2), by simp, by rw [l0]; rfl, a1⟩
theorem Search_player.fld2 : Fld Search_player 4 (fun s => s.at_) := by
  rintro S cs s ⟨x0, y0, rfl, a0, ⟨x1, y1, rfl, a1, ⟨x2, y2, rfl, a2, a3⟩⟩⟩
  have l0 := Enc.len a0
  have l1 := Enc.len a1
  exact ⟨x0 ++ (x1), x2, y2, by simp, by simp [l0, l1]; rfl, a2⟩
theorem Search_player.fld3 : Fld Search_player 5 (fun s => s.memory) := by
  rintro S cs s ⟨x0, y0, rfl, a0, ⟨x1, y1, rfl, a1, ⟨x2, y2, rfl, a2, a3⟩⟩⟩
  have l0 := Enc.len a0
  have l1 := Enc.len a1
  have l2 := Enc.len a2
  exact ⟨x0 ++ (x1 ++ (x2)), y2, [], by simp, by simp [l0, l1, l2]; rfl, a3⟩
structure Search_way where
  steps : Int
  edge : Int
  deriving DecidableEq
instance : Enc Search_way := fu_ fun s => (s.steps, s.edge)
instance : Ind Search_way := ⟨fun S T cs x h => Ind.ind (α := Int × Int) S T cs _ h⟩
theorem Search_way.inv {S : PH} {v : Go.Value} {s : Search_way} (h : RV S v s) : v = .agg #[.int .i64 (s.steps), .int .i64 (s.edge)] := by
  obtain ⟨cs, hr, rfl⟩ := h
  obtain ⟨_, _, rfl, h0, h1⟩ := hr
  obtain rfl := h0
  obtain rfl := h1
  rfl
theorem Search_way.rv {S : PH} {s : Search_way} : RV S (.agg #[.int .i64 (s.steps), .int .i64 (s.edge)]) s := by
  exact ⟨_, ⟨_, _, rfl, rfl, rfl⟩, rfl⟩
theorem Search_way.fld0 : Fld Search_way 0 (fun s => s.steps) := by
  rintro S cs s ⟨x0, y0, rfl, a0, a1⟩
  exact ⟨[], x0, y0, by simp, rfl, a0⟩
theorem Search_way.fld1 : Fld Search_way 1 (fun s => s.edge) := by
  rintro S cs s ⟨x0, y0, rfl, a0, a1⟩
  have l0 := Enc.len a0
  exact ⟨x0, y0, [], by simp, by rw [l0]; rfl, a1⟩
structure Ref06_gone where
  position : Int
  edge : Int
  deriving DecidableEq
instance : Enc Ref06_gone := fu_ fun s => (s.position, s.edge)
instance : Ind Ref06_gone := ⟨fun S T cs x h => Ind.ind (α := Int × Int) S T cs _ h⟩
theorem Ref06_gone.inv {S : PH} {v : Go.Value} {s : Ref06_gone} (h : RV S v s) : v = .agg #[.int .i64 (s.position), .int .i64 (s.edge)] := by
  obtain ⟨cs, hr, rfl⟩ := h
  obtain ⟨_, _, rfl, h0, h1⟩ := hr
  obtain rfl := h0
  obtain rfl := h1
  rfl
theorem Ref06_gone.rv {S : PH} {s : Ref06_gone} : RV S (.agg #[.int .i64 (s.position), .int .i64 (s.edge)]) s := by
  exact ⟨_, ⟨_, _, rfl, rfl, rfl⟩, rfl⟩
theorem Ref06_gone.fld0 : Fld Ref06_gone 0 (fun s => s.position) := by
  rintro S cs s ⟨x0, y0, rfl, a0, a1⟩
  exact ⟨[], x0, y0, by simp, rfl, a0⟩
theorem Ref06_gone.fld1 : Fld Ref06_gone 1 (fun s => s.edge) := by
  rintro S cs s ⟨x0, y0, rfl, a0, a1⟩
  have l0 := Enc.len a0
  exact ⟨x0, y0, [], by simp, by rw [l0]; rfl, a1⟩
structure Law06_Run where
  Mind : Mind
  Most : Int
  deriving DecidableEq
instance : Enc Law06_Run := fu_ fun s => (s.Mind, s.Most)
instance : Ind Law06_Run := ⟨fun S T cs x h => Ind.ind (α := Mind × Int) S T cs _ h⟩
theorem Law06_Run.inv {S : PH} {v : Go.Value} {s : Law06_Run} (h : RV S v s) : v = .agg #[.int .i64 (s.Mind.Memory), .int .i64 (s.Mind.Turn), .int .i64 (s.Most)] := by
  obtain ⟨cs, hr, rfl⟩ := h
  obtain ⟨_, _, rfl, ⟨_, _, rfl, h0, h1⟩, h2⟩ := hr
  obtain rfl := h0
  obtain rfl := h1
  obtain rfl := h2
  rfl
theorem Law06_Run.rv {S : PH} {s : Law06_Run} : RV S (.agg #[.int .i64 (s.Mind.Memory), .int .i64 (s.Mind.Turn), .int .i64 (s.Most)]) s := by
  exact ⟨_, ⟨_, _, rfl, ⟨_, _, rfl, rfl, rfl⟩, rfl⟩, rfl⟩
theorem Law06_Run.fld0 : Fld Law06_Run 0 (fun s => s.Mind) := by
  rintro S cs s ⟨x0, y0, rfl, a0, a1⟩
  exact ⟨[], x0, y0, by simp, rfl, a0⟩
theorem Law06_Run.fld1 : Fld Law06_Run 2 (fun s => s.Most) := by
  rintro S cs s ⟨x0, y0, rfl, a0, a1⟩
  have l0 := Enc.len a0
  exact ⟨x0, y0, [], by simp, by rw [l0]; rfl, a1⟩
structure Law06_Other where
  Graph : Graph
  Distances : (List Int)
  Run : Law06_Run
instance : Enc Law06_Other := fu_ fun s => (s.Graph, s.Distances, s.Run)
theorem Law06_Other.inv {S : PH} {v : Go.Value} {s : Law06_Other} (h : RV S v s) : ∃ c0 c1 c2, v = .agg #[c0, c1, c2, .int .i64 (s.Run.Mind.Memory), .int .i64 (s.Run.Mind.Turn), .int .i64 (s.Run.Most)] ∧ RV S c0 s.Graph.Positions ∧ RV S c1 s.Graph.Edges ∧ RV S c2 s.Distances := by
  obtain ⟨cs, hr, rfl⟩ := h
  obtain ⟨_, _, rfl, ⟨_, _, rfl, h0, h1⟩, ⟨_, _, rfl, h2, ⟨_, _, rfl, ⟨_, _, rfl, h3, h4⟩, h5⟩⟩⟩ := hr
  obtain ⟨qh0, rfl, rh0⟩ := cp_ (by rfl) h0
  obtain ⟨qh1, rfl, rh1⟩ := cp_ (by rfl) h1
  obtain ⟨qh2, rfl, rh2⟩ := cp_ (by rfl) h2
  obtain rfl := h3
  obtain rfl := h4
  obtain rfl := h5
  exact ⟨qh0, qh1, qh2, rfl, rh0, rh1, rh2⟩
theorem Law06_Other.rv {S : PH} {s : Law06_Other} {c0 : Go.Value} (h0 : RV S c0 s.Graph.Positions) {c1 : Go.Value} (h1 : RV S c1 s.Graph.Edges) {c2 : Go.Value} (h2 : RV S c2 s.Distances) : RV S (.agg #[c0, c1, c2, .int .i64 (s.Run.Mind.Memory), .int .i64 (s.Run.Mind.Turn), .int .i64 (s.Run.Most)]) s := by
  have r0 := dj_ (by rfl) h0
  have r1 := dj_ (by rfl) h1
  have r2 := dj_ (by rfl) h2
  exact ⟨_, ⟨_, _, rfl, ⟨_, _, rfl, r0, r1⟩, ⟨_, _, rfl, r2, ⟨_, _, rfl, ⟨_, _, rfl, rfl, rfl⟩, rfl⟩⟩⟩, rfl⟩
theorem Law06_Other.fld0 : Fld Law06_Other 0 (fun s => s.Graph) := by
  rintro S cs s ⟨x0, y0, rfl, a0, ⟨x1, y1, rfl, a1, a2⟩⟩
  exact ⟨[], x0, x1 ++ (y1), by simp, rfl, a0⟩
theorem Law06_Other.fld1 : Fld Law06_Other 2 (fun s => s.Distances) := by
  rintro S cs s ⟨x0, y0, rfl, a0, ⟨x1, y1, rfl, a1, a2⟩⟩
  have l0 := Enc.len a0
  exact ⟨x0, x1, y1, by simp, by rw [l0]; rfl, a1⟩
theorem Law06_Other.fld2 : Fld Law06_Other 3 (fun s => s.Run) := by
  rintro S cs s ⟨x0, y0, rfl, a0, ⟨x1, y1, rfl, a1, a2⟩⟩
  have l0 := Enc.len a0
  have l1 := Enc.len a1
  exact ⟨x0 ++ (x1), y1, [], by simp, by simp [l0, l1]; rfl, a2⟩
abbrev Frm := Go.Proofs.Ytogfongmnkmegaa.Pad.Fr
theorem ca15 : bj_ Try.prog 15 := ⟨_, Try.func15, rfl, rfl⟩
theorem ca17 : bj_ Try.prog 17 := ⟨_, Try.func17, rfl, rfl⟩
theorem ca18 : bj_ Try.prog 18 := ⟨_, Try.func18, rfl, rfl⟩
theorem ca20 : bj_ Try.prog 20 := ⟨_, Try.func20, rfl, rfl⟩
theorem ca21 : bj_ Try.prog 21 := ⟨_, Try.func21, rfl, rfl⟩
theorem ca22 : bj_ Try.prog 22 := ⟨_, Try.func22, rfl, rfl⟩
theorem ca23 : bj_ Try.prog 23 := ⟨_, Try.func23, rfl, rfl⟩
theorem ca29 : bj_ Try.prog 29 := ⟨_, Try.func29, rfl, rfl⟩
theorem ca44 : bj_ Try.prog 44 := ⟨_, Try.func44, rfl, rfl⟩
theorem ca45 : bj_ Try.prog 45 := ⟨_, Try.func45, rfl, rfl⟩
theorem ca46 : bj_ Try.prog 46 := ⟨_, Try.func46, rfl, rfl⟩
theorem ca49 : bj_ Try.prog 49 := ⟨_, Try.func49, rfl, rfl⟩
theorem ca50 : bj_ Try.prog 50 := ⟨_, Try.func50, rfl, rfl⟩
theorem ca54 : bj_ Try.prog 54 := ⟨_, Try.func54, rfl, rfl⟩
theorem ca57 : bj_ Try.prog 57 := ⟨_, Try.func57, rfl, rfl⟩
theorem ca59 : bj_ Try.prog 59 := ⟨_, Try.func59, rfl, rfl⟩
theorem ca61 : bj_ Try.prog 61 := ⟨_, Try.func61, rfl, rfl⟩
theorem ca68 : bj_ Try.prog 68 := ⟨_, Try.func68, rfl, rfl⟩
theorem ca69 : bj_ Try.prog 69 := ⟨_, Try.func69, rfl, rfl⟩
theorem ca74 : bj_ Try.prog 74 := ⟨_, Try.func74, rfl, rfl⟩
theorem ca77 : bj_ Try.prog 77 := ⟨_, Try.func77, rfl, rfl⟩
theorem ca78 : bj_ Try.prog 78 := ⟨_, Try.func78, rfl, rfl⟩
theorem ca79 : bj_ Try.prog 79 := ⟨_, Try.func79, rfl, rfl⟩
theorem ca80 : bj_ Try.prog 80 := ⟨_, Try.func80, rfl, rfl⟩
theorem ca81 : bj_ Try.prog 81 := ⟨_, Try.func81, rfl, rfl⟩
theorem ca82 : bj_ Try.prog 82 := ⟨_, Try.func82, rfl, rfl⟩
theorem ca83 : bj_ Try.prog 83 := ⟨_, Try.func83, rfl, rfl⟩
theorem ca84 : bj_ Try.prog 84 := ⟨_, Try.func84, rfl, rfl⟩
theorem ca86 : bj_ Try.prog 86 := ⟨_, Try.func86, rfl, rfl⟩
theorem ca87 : bj_ Try.prog 87 := ⟨_, Try.func87, rfl, rfl⟩
theorem ca88 : bj_ Try.prog 88 := ⟨_, Try.func88, rfl, rfl⟩
theorem ca89 : bj_ Try.prog 89 := ⟨_, Try.func89, rfl, rfl⟩
theorem ca90 : bj_ Try.prog 90 := ⟨_, Try.func90, rfl, rfl⟩
theorem el103 : kx_ Try.prog Search_gone 103 16 (.agg #[.int .i64 0, .int .i64 0]) (⟨0, 0⟩ : Search_gone) := ⟨_, (by kernel_rfl : Try.prog.info? 103 = some Try.t103), rfl, rfl, rfl, rfl, fun S => (Search_gone.rv (s := ⟨0, 0⟩) ).cells⟩
theorem el133 : kx_ Try.prog Position 133 96 (.agg #[.slice none 0 0, .slice none 0 0, .slice none 0 0, .slice none 0 0]) (⟨⟨[], [], []⟩, []⟩ : Position) := ⟨_, (by kernel_rfl : Try.prog.info? 133 = some Try.t133), rfl, rfl, rfl, rfl, fun S => (Position.rv (s := ⟨⟨[], [], []⟩, []⟩) rv_nil rv_nil rv_nil rv_nil).cells⟩
theorem el26 : kx_ Try.prog (List Int) 26 24 (.slice none 0 0) ([] : (List Int)) := ⟨_, (by kernel_rfl : Try.prog.info? 26 = some Try.t26), rfl, rfl, rfl, rfl, fun S => rv_nil.cells⟩
theorem el3 : kx_ Try.prog Int 3 8 (.int .i64 0) (0 : Int) := ⟨_, (by kernel_rfl : Try.prog.info? 3 = some Try.t3), rfl, rfl, rfl, rfl, fun S => rfl⟩
theorem el4 : kx_ Try.prog Bool 4 1 (.bool false) (false : Bool) := ⟨_, (by kernel_rfl : Try.prog.info? 4 = some Try.t4), rfl, rfl, rfl, rfl, fun S => rfl⟩
theorem el40 : kx_ Try.prog (List Edge) 40 24 (.slice none 0 0) ([] : (List Edge)) := ⟨_, (by kernel_rfl : Try.prog.info? 40 = some Try.t40), rfl, rfl, rfl, rfl, fun S => rv_nil.cells⟩
theorem el44 : kx_ Try.prog Edge 44 32 (.agg #[.int .i64 0, .int .i64 0, .int .i64 0, .int .i64 0]) (⟨⟨0, 0, 0⟩, 0⟩ : Edge) := ⟨_, (by kernel_rfl : Try.prog.info? 44 = some Try.t44), rfl, rfl, rfl, rfl, fun S => (Edge.rv (s := ⟨⟨0, 0, 0⟩, 0⟩) ).cells⟩
theorem lz_ : ct_ Try.prog 103 0 0 := fun w a => by kernel_rfl
theorem fa103_1 : ct_ Try.prog 103 1 1 := fun w a => by kernel_rfl
theorem hw_ : ct_ Try.prog 109 0 0 := fun w a => by kernel_rfl
theorem hv_ : ct_ Try.prog 109 1 1 := fun w a => by kernel_rfl
theorem iw_ : ct_ Try.prog 25 0 0 := fun w a => by kernel_rfl
theorem cs_ : ct_ Try.prog 25 1 1 := fun w a => by kernel_rfl
theorem nr_ : ct_ Try.prog 28 0 0 := fun w a => by kernel_rfl
theorem nq_ : ct_ Try.prog 28 1 1 := fun w a => by kernel_rfl
theorem ft_ : ct_ Try.prog 44 1 3 := fun w a => by kernel_rfl
theorem gk_ : ct_ Try.prog 64 0 0 := fun w a => by kernel_rfl
theorem iv_ : ct_ Try.prog 64 1 1 := fun w a => by kernel_rfl
theorem ka_ : ct_ Try.prog 91 0 0 := fun w a => by kernel_rfl
theorem np_ : ct_ Try.prog 91 1 2 := fun w a => by kernel_rfl
theorem ej_ : ct_ Try.prog 91 2 4 := fun w a => by kernel_rfl
theorem ff_ : ct_ Try.prog 91 3 5 := fun w a => by kernel_rfl
theorem kt103 : KeyT Try.prog Search_gone 103 where
  eq w S v u a b hv hu := by
    obtain rfl := Search_gone.inv hv
    obtain rfl := Search_gone.inv hu
    refine (show (Op.equalIn (9999 + 1) 103 _ _).run Try.prog w = _ from (mx_ 9999 103 Try.underlying103 (by kernel_rfl) (kb_ (a := .int .i64 (a.position)) (b := .int .i64 (b.position)) (by decide) (by kernel_rfl) (by kernel_rfl) (run_equalIn_int w 9998 3 .i64 .i64 _ _ Try.underlying3) (kb_ (a := .int .i64 (a.edge)) (b := .int .i64 (b.edge)) (by decide) (by kernel_rfl) (by kernel_rfl) (run_equalIn_int w 9998 3 .i64 .i64 _ _ Try.underlying3) eqF_nil)))).trans ?_
    obtain ⟨x0, x1⟩ := a
    obtain ⟨y0, y1⟩ := b
    congr 1
    rw [Bool.eq_iff_iff]
    simp [Search_gone.mk.injEq, and_assoc]
  now := ⟨_, Try.underlying103, .inl fun S v u a b hv hu => by
    obtain rfl := Search_gone.inv hv
    obtain rfl := Search_gone.inv hu
    rfl⟩
  check w e S v a hv := by
    obtain rfl := Search_gone.inv hv
    kernel_rfl
  bits S v u a hv hu := by
    obtain rfl := Search_gone.inv hv
    obtain rfl := Search_gone.inv hu
    show Instr.sameBits (9999 + 1) _ _ = true
    simp [Instr.sameBits]
theorem kt3 : KeyT Try.prog Int 3 := keyInt Try.underlying3
theorem dy_ : Shape Try.prog 103 true 2 := ⟨fun w => by kernel_rfl, fun w => by kernel_rfl⟩
theorem ml_ : Shape Try.prog 109 true 2 := ⟨fun w => by kernel_rfl, fun w => by kernel_rfl⟩
theorem sh22 : Shape Try.prog 22 false 1 := ⟨fun w => by kernel_rfl, fun w => by kernel_rfl⟩
theorem fi_ : Shape Try.prog 23 false 1 := ⟨fun w => by kernel_rfl, fun w => by kernel_rfl⟩
theorem je_ : Shape Try.prog 25 true 2 := ⟨fun w => by kernel_rfl, fun w => by kernel_rfl⟩
theorem hm_ : Shape Try.prog 26 false 1 := ⟨fun w => by kernel_rfl, fun w => by kernel_rfl⟩
theorem sh28 : Shape Try.prog 28 true 2 := ⟨fun w => by kernel_rfl, fun w => by kernel_rfl⟩
theorem sh3 : Shape Try.prog 3 false 1 := ⟨fun w => by kernel_rfl, fun w => by kernel_rfl⟩
theorem sh4 : Shape Try.prog 4 false 1 := ⟨fun w => by kernel_rfl, fun w => by kernel_rfl⟩
theorem en_ : Shape Try.prog 40 false 1 := ⟨fun w => by kernel_rfl, fun w => by kernel_rfl⟩
theorem kw_ : Shape Try.prog 44 true 4 := ⟨fun w => by kernel_rfl, fun w => by kernel_rfl⟩
theorem dt_ : Shape Try.prog 64 true 2 := ⟨fun w => by kernel_rfl, fun w => by kernel_rfl⟩
theorem sh88 : Shape Try.prog 88 false 1 := ⟨fun w => by kernel_rfl, fun w => by kernel_rfl⟩
theorem mh_ : Shape Try.prog 89 false 1 := ⟨fun w => by kernel_rfl, fun w => by kernel_rfl⟩
theorem st103 : StructT Try.prog 103 #[.int .i64 0, .int .i64 0] #[(0, 1), (1, 1)] := ⟨_, fun w => by kernel_rfl, Try.underlying103, fun w => by kernel_rfl⟩
theorem st109 : StructT Try.prog 109 #[.int .i64 0, .int .i64 0] #[(0, 1), (1, 1)] := ⟨_, fun w => by kernel_rfl, Try.underlying109, fun w => by kernel_rfl⟩
theorem st25 : StructT Try.prog 25 #[.slice none 0 0, .slice none 0 0] #[(0, 1), (1, 1)] := ⟨_, fun w => by kernel_rfl, Try.underlying25, fun w => by kernel_rfl⟩
theorem st28 : StructT Try.prog 28 #[.int .i64 0, .int .i64 0] #[(0, 1), (1, 1)] := ⟨_, fun w => by kernel_rfl, Try.underlying28, fun w => by kernel_rfl⟩
theorem st44 : StructT Try.prog 44 #[.int .i64 0, .int .i64 0, .int .i64 0, .int .i64 0] #[(0, 3), (3, 1)] := ⟨_, fun w => by kernel_rfl, Try.underlying44, fun w => by kernel_rfl⟩
theorem st64 : StructT Try.prog 64 #[.slice none 0 0, .slice none 0 0] #[(0, 1), (1, 1)] := ⟨_, fun w => by kernel_rfl, Try.underlying64, fun w => by kernel_rfl⟩
theorem st91 : StructT Try.prog 91 #[.slice none 0 0, .slice none 0 0, .int .i64 0, .int .i64 0, .int .i64 0, .slice none 0 0] #[(0, 2), (2, 2), (4, 1), (5, 1)] := ⟨_, fun w => by kernel_rfl, Try.underlying91, fun w => by kernel_rfl⟩
theorem zo103 : hd_ Try.prog 103 (.agg #[.int .i64 0, .int .i64 0]) := fun w => by kernel_rfl
theorem jb_ : hd_ Try.prog 109 (.agg #[.int .i64 0, .int .i64 0]) := fun w => by kernel_rfl
theorem zo25 : hd_ Try.prog 25 (.agg #[.slice none 0 0, .slice none 0 0]) := fun w => by kernel_rfl
theorem zo3 : hd_ Try.prog 3 (.int .i64 0) := fun w => by kernel_rfl
theorem zo44 : hd_ Try.prog 44 (.agg #[.int .i64 0, .int .i64 0, .int .i64 0, .int .i64 0]) := fun w => by kernel_rfl
theorem zo64 : hd_ Try.prog 64 (.agg #[.slice none 0 0, .slice none 0 0]) := fun w => by kernel_rfl
end Go.Proofs.Ytogfongmnkmegaa.Pad
