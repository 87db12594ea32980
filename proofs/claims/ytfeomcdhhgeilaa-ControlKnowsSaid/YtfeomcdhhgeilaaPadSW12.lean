/- A part of the proof: what the functions of the program compute, shown over the model. -/
import Derived.Test.YtfeomcdhhgeilaaPadSP
import Derived.Test.YtfeomcdhhgeilaaPadSW1
import Derived.Test.YtfeomcdhhgeilaaPadSW2
import Derived.KernelRfl
set_option linter.unusedVariables false
namespace Go.Proofs.Ytfeomcdhhgeilaa.Pad
open Go Go.Proofs
set_option maxHeartbeats 4000000 in
set_option maxRecDepth 100000 in
theorem F30_ok {w : World} {S : PH} {Fr : List HP} {a0 : Panel} {v0 : Value} {a1 : Int} {a2 : (List Signal)} {v2 : Value} {r : (List (List Int)) × (List (List Int)) × Int} (hI : Inv w S Fr) (h0_ : RV S v0 a0) (h2_ : RV S v2 a2) (h : F30 a0 a1 a2 = some r) :
    Calls Try.prog 30 [v0, (Value.int .i64 (a1)), v2].toArray w (Done S Fr (fun T_ v_ O_ => ∃ (a0_ : Option Addr) (n0_ k0_ : Nat) (a1_ : Option Addr) (n1_ k1_ : Nat), v_ = (Value.tuple #[(Value.slice a0_ n0_ k0_), (Value.slice a1_ n1_ k1_), (Value.int .i64 (r.2.2))]) ∧ O_ = [Row (α := (List Int)) 34 (Value.slice a0_ n0_ k0_) (r.1), Row (α := (List Int)) 34 (Value.slice a1_ n1_ k1_) (r.2.1)])) := by
  unfold F30 at h
  obtain ⟨c1, e1, r1⟩ := Panel.inv h0_
  subst e1
  obtain ⟨z1, m1, k1, e2⟩ := rv_form r1
  subst e2
  obtain ⟨z2, m2, k2, e3⟩ := rv_form h2_
  subst e3
  refine calls_enter (n := 41) (vs := [(Value.agg #[(Value.int .i64 (a0.Sensors)), (Value.slice z1 m1 k1), (Value.int .i64 (a0.Stale)), (Value.int .i64 (a0.Limit))]), (Value.int .i64 (a1)), (Value.slice z2 m2 k2)]) Try.func30 rfl rfl rfl ?_
  refine wp_seq' ?_
  refine wp_region' ?_
  refine wl_op rfl (op_box (v := (Value.agg #[(Value.int .i64 (a0.Sensors)), (Value.slice z1 m1 k1), (Value.int .i64 (a0.Stale)), (Value.int .i64 (a0.Limit))])) rfl hI rfl (fun g1 w1 I1 => ?_))
  obtain ⟨S1, le1, I2, p1⟩ := Inv.boxFreeze (x := a0) I1 (Panel.rv (s := a0) r1)
  refine wl_op rfl (op_assign (v := (Value.slice none 0 0)) rfl rfl ?_)
  refine wl_op rfl (op_assign (v := (Value.slice none 0 0)) rfl rfl ?_)
  refine wl_op rfl (op_assign (v := (Value.int .i64 (0))) rfl rfl ?_)
  refine wl_nil ?_
  refine wp_seq' ?_
  refine wp_region' ?_
  refine wl_op rfl (op_load (v := (Value.pointer (some ⟨g1, 0, none⟩))) (e := a0) rfl sh24 rfl (p1.at_ I2) (fun u1 hu1 => ?_))
  obtain ⟨c2, e4, r2⟩ := Panel.inv hu1
  subst e4
  obtain ⟨z3, m3, k3, e5⟩ := rv_form r2
  subst e5
  refine wl_op rfl (op_move (v := (Value.int .i64 (a1))) rfl rfl ?_)
  refine wl_op rfl (op_move (v := (Value.slice z2 m2 k2)) rfl rfl ?_)
  obtain ⟨x1, hx1, h⟩ := bnd h
  refine wl_op rfl (op_call (vs := [(Value.agg #[(Value.int .i64 (a0.Sensors)), (Value.slice z3 m3 k3), (Value.int .i64 (a0.Stale)), (Value.int .i64 (a0.Limit))]), (Value.int .i64 (a1)), (Value.slice z2 m2 k2)]) rfl ca45 rfl (args3 rfl rfl rfl) (F45_ok I2 (Panel.rv (s := a0) r2) (h2_.mono le1) hx1) (fun v1 w2 S2 O1 le2 I3 hv1 => ?_))
  obtain ⟨z4, m4, k4, rfl, rfl⟩ := hv1
  refine wl_op rfl (op_move (v := (Value.tuple #[(Value.slice z4 m4 k4), (Value.int .i64 (x1.2))])) rfl rfl ?_)
  refine wl_op rfl (op_extract (v := (Value.slice z4 m4 k4)) rfl rfl rfl ?_)
  refine wl_op rfl (op_extract (v := (Value.int .i64 (x1.2))) rfl rfl rfl ?_)
  refine wl_op rfl (op_assign (v := (Value.slice z4 m4 k4)) rfl rfl ?_)
  refine wl_op rfl (op_assign (v := (Value.int .i64 (x1.2))) rfl rfl ?_)
  refine wl_nil ?_
  refine wp_seq' ?_
  refine wp_seq' ?_
  refine wp_region' ?_
  refine wl_op rfl (op_move (v := (Value.int .i64 (x1.2))) rfl rfl ?_)
  refine wl_op rfl (op_neq (a := x1.2) (b := 0) rfl rfl rfl ?_)
  refine wl_nil ?_
  rcases ifs h with ⟨hc1, h⟩ | ⟨hc1, h⟩
  · refine wp_cond_t (b := x1.2 != 0) rfl hc1 ?_
    refine wp_seq' ?_
    refine wp_region' ?_
    refine wl_op rfl (op_move (v := (Value.int .i64 (x1.2))) rfl rfl ?_)
    refine wl_op rfl (op_assign (v := (Value.slice none 0 0)) rfl rfl ?_)
    refine wl_op rfl (op_assign (v := (Value.slice none 0 0)) rfl rfl ?_)
    refine wl_op rfl (op_assign (v := (Value.int .i64 (x1.2))) rfl rfl ?_)
    refine wl_nil ?_
    refine wp_ret' ?_
    have I4 := Inv.rowNil (α := (List Int)) (T := 34) I3
    have I5 := Inv.rowNil (α := (List Int)) (T := 34) I4
    obtain rfl := Option.some.inj h
    exact ⟨(Value.tuple #[(Value.slice none 0 0), (Value.slice none 0 0), (Value.int .i64 (x1.2))]), (res3 rfl rfl rfl rfl), _, [Row (α := (List Int)) 34 (Value.slice none 0 0) (([] : List (List Int))), Row (α := (List Int)) 34 (Value.slice none 0 0) (([] : List (List Int)))], (le1.trans le2), ((I5.pull 2).drop.pull 1), _, _, _, _, _, _, rfl, rfl⟩
  · refine wp_cond_f (b := x1.2 != 0) rfl hc1 ?_
    refine wp_skip' ?_
    refine wp_seq' ?_
    refine wp_seq' ?_
    refine wp_region' ?_
    refine wl_op rfl (op_move (v := (Value.slice z4 m4 k4)) rfl rfl ?_)
    refine wl_op rfl (op_len_row (α := Control_tick) rfl Try.underlying72 rfl (I3.nth 0 rfl) ?_)
    refine wl_op rfl (op_move (v := (Value.int .i64 (0))) rfl rfl ?_)
    refine wl_nil ?_
    have hk1 : x1.1.length ≤ 9223372036854775807 := (row_len (I3.nth 0 rfl))
    have I100 := Inv.rowNil (α := (List Int)) (T := 34) I3
    have I101 := Inv.rowNil (α := (List Int)) (T := 34) I100
    obtain ⟨out1, hrun1, h⟩ := bnd h
    refine wp_cutN (fun f w => ∃ (S_ : PH) (z62 : Option Addr) (m62 k62 : Nat) (z63 : Option Addr) (m63 k63 : Nat), S2.Le S_ ∧ Inv w S_ (Row (α := (List Int)) 34 (Value.slice z62 m62 k62) (out1.1) :: Row (α := (List Int)) 34 (Value.slice z63 m63 k63) (out1.2) :: Row (α := Control_tick) 87 (Value.slice z4 m4 k4) (x1.1) :: Fr) ∧ f 6 = (Value.slice z62 m62 k62) ∧ f 7 = (Value.slice z63 m63 k63) ∧ f 22 = (Value.slice z4 m4 k4) ∧ f 23 = (Value.int .i64 ((x1.1.length : Int)))) ?_ ?_
    · refine wp_block' ?_
      refine wp_forS (I := fun (i1 : Nat) (s1 : (List (List Int) × List (List Int))) (f : Frm) (w : World) => ∃ (S_ : PH) (z60 : Option Addr) (m60 k60 : Nat) (z61 : Option Addr) (m61 k61 : Nat), S2.Le S_ ∧ Inv w S_ (Row (α := (List Int)) 34 (Value.slice z60 m60 k60) (s1.1) :: Row (α := (List Int)) 34 (Value.slice z61 m61 k61) (s1.2) :: Row (α := Control_tick) 87 (Value.slice z4 m4 k4) (x1.1) :: Fr) ∧ f 6 = (Value.slice z60 m60 k60) ∧ f 7 = (Value.slice z61 m61 k61) ∧ f 22 = (Value.slice z4 m4 k4) ∧ f 23 = (Value.int .i64 ((x1.1.length : Int))) ∧ f 24 = (Value.int .i64 (i1 : Int))) hrun1 ⟨_, _, _, _, _, _, _, (PH.Le.refl _), (((I101.pull 2).pull 1).pull 2), rfl, rfl, rfl, rfl, rfl⟩ ?_ ?_
      · rintro i1 s1 f w o1 hlt1 hI40 h1
        obtain ⟨S44, z60, m60, k60, z61, m61, k61, le44, I102, e84, e85, e86, e87, e88⟩ := hI40
        refine wp_seq' ?_
        refine wp_region' ?_
        refine wl_op rfl (op_lss (a := (i1 : Int)) (b := (x1.1.length : Int)) rfl e88 e87 ?_)
        refine wl_nil ?_
        refine wp_seq' ?_
        refine wp_cond_t (b := decide ((i1 : Int) < (x1.1.length : Int))) rfl (len_t hlt1) ?_
        refine wp_skip' ?_
        refine wp_seq' ?_
        refine wp_block' ?_
        refine wp_seq' ?_
        refine wp_region' ?_
        obtain ⟨x11, hx11, h1⟩ := bnd h1
        refine wl_op rfl (op_indexAddr_src (v := (Value.slice z4 m4 k4)) (i := (i1 : Int)) (e := x11) rfl Try.underlying72 sh87 e86 (Inv.rowSrc (I102.nth 2 rfl)) e88 hx11 ?_)
        refine wl_op rfl (op_load (v := (elemPtr (Value.slice z4 m4 k4) ((i1 : Int)) (Enc.sz Control_tick))) (e := x11) rfl sh87 rfl ((I102.nth 2 rfl).rowElem hx11) (fun u29 hu5 => ?_))
        obtain ⟨c18, c19, c20, c21, c22, e89, r18, r19, r20, r21, r22⟩ := Control_tick.inv hu5
        subst e89
        obtain ⟨z64, m64, k64, e90⟩ := rv_form r18
        subst e90
        obtain ⟨z65, m65, k65, e91⟩ := rv_form r19
        subst e91
        obtain ⟨z66, m66, k66, e92⟩ := rv_form r20
        subst e92
        obtain ⟨z67, m67, k67, e93⟩ := rv_form r21
        subst e93
        obtain ⟨z68, m68, k68, e94⟩ := rv_form r22
        subst e94
        refine wl_op rfl (op_alloc (z := (Value.agg #[(Value.bool (false)), (Value.slice none 0 0), (Value.slice none 0 0), (Value.slice none 0 0), (Value.slice none 0 0), (Value.slice none 0 0)])) rfl I102 zo87 (fun g5 w73 (I103 : Inv w73 S44 (Cells g5 87 #[(Value.bool (false)), (Value.slice none 0 0), (Value.slice none 0 0), (Value.slice none 0 0), (Value.slice none 0 0), (Value.slice none 0 0)] :: Row (α := (List Int)) 34 (Value.slice z60 m60 k60) (s1.1) :: Row (α := (List Int)) 34 (Value.slice z61 m61 k61) (s1.2) :: Row (α := Control_tick) 87 (Value.slice z4 m4 k4) (x1.1) :: Fr)) => ?_))
        refine wl_op rfl (op_store (v := (Value.agg #[(Value.bool (x11.power)), (Value.slice z64 m64 k64), (Value.slice z65 m65 k65), (Value.slice z66 m66 k66), (Value.slice z67 m67 k67), (Value.slice z68 m68 k68)])) (cs := #[(Value.bool (false)), (Value.slice none 0 0), (Value.slice none 0 0), (Value.slice none 0 0), (Value.slice none 0 0), (Value.slice none 0 0)]) sh87 I103 rfl rfl rfl (Nat.le_of_ble_eq_true rfl) rfl (fun w74 (I104 : Inv w74 S44 (Cells g5 87 #[(Value.bool (x11.power)), (Value.slice z64 m64 k64), (Value.slice z65 m65 k65), (Value.slice z66 m66 k66), (Value.slice z67 m67 k67), (Value.slice z68 m68 k68)] :: Row (α := (List Int)) 34 (Value.slice z60 m60 k60) (s1.1) :: Row (α := (List Int)) 34 (Value.slice z61 m61 k61) (s1.2) :: Row (α := Control_tick) 87 (Value.slice z4 m4 k4) (x1.1) :: Fr)) => ?_))
        refine wl_nil ?_
        obtain ⟨x12, hx12, h1⟩ := bnd h1
        obtain ⟨x13, hx13, h1⟩ := bnd h1
        refine wp_draw (sps := [⟨some 28, [], [0], fun vs_ T_ => fr0 vs_ 0 = (Value.slice z60 m60 k60), [], [], [], fun _ h_ => h_⟩, ⟨some 29, [], [1], fun vs_ T_ => fr0 vs_ 0 = (Value.pointer (some ⟨g5, 1, none⟩)), [], [], [], fun _ h_ => h_⟩, ⟨some 30, [1], [2], fun vs_ T_ => fr0 vs_ 0 = (Value.slice z64 m64 k64), [0], [], [], fun _ h_ => h_⟩, ⟨some 31, [1, 2], [3], fun vs_ T_ => ∃ a_ n_ k_, fr0 vs_ 0 = Value.slice a_ n_ k_, [], [], [1], fun _ h_ => h_⟩, ⟨some 32, [0, 1, 2, 3], [4], fun vs_ T_ => ∃ a_ n_ k_, fr0 vs_ 0 = Value.slice a_ n_ k_, [1], [2], [3], fun _ h_ => h_⟩, ⟨some 33, [], [5], fun vs_ T_ => fr0 vs_ 0 = (Value.slice z61 m61 k61), [], [], [], fun _ h_ => h_⟩, ⟨some 34, [], [6], fun vs_ T_ => fr0 vs_ 0 = (Value.pointer (some ⟨g5, 2, none⟩)), [], [], [], fun _ h_ => h_⟩, ⟨some 35, [6], [7], fun vs_ T_ => fr0 vs_ 0 = (Value.slice z65 m65 k65), [0], [], [], fun _ h_ => h_⟩, ⟨some 36, [6, 7], [8], fun vs_ T_ => ∃ a_ n_ k_, fr0 vs_ 0 = Value.slice a_ n_ k_, [], [], [4], fun _ h_ => h_⟩, ⟨some 37, [0, 1, 2, 3, 4, 5, 6, 7, 8], [9], fun vs_ T_ => ∃ a_ n_ k_, fr0 vs_ 0 = Value.slice a_ n_ k_, [4], [5], [6], fun _ h_ => h_⟩, ⟨some 6, [0, 1, 2, 3, 4, 5, 6, 7, 8, 9], [10, 4], fun vs_ T_ => fr0 vs_ 0 = (fr0 vs_ 1), [], [], [], fun _ h_ => h_⟩, ⟨some 7, [0, 1, 2, 3, 4, 5, 6, 7, 8, 9, 10], [11, 9], fun vs_ T_ => fr0 vs_ 0 = (fr0 vs_ 1), [], [], [], fun _ h_ => h_⟩]) (tks := [⟨none, none, [], fun vs_ => Cells g5 87 #[(Value.bool (x11.power)), (Value.slice z64 m64 k64), (Value.slice z65 m65 k65), (Value.slice z66 m66 k66), (Value.slice z67 m67 k67), (Value.slice z68 m68 k68)]⟩, ⟨some 3, none, [3], fun vs_ => Row (α := (List Int)) 34 (fr0 vs_ 0) (([x11.values] : List (List Int)))⟩, ⟨none, some 4, [], fun vs_ => Row (α := (List Int)) 34 (Value.slice z60 m60 k60) (s1.1)⟩, ⟨some 4, none, [4], fun vs_ => Row (α := (List Int)) 34 (fr0 vs_ 0) (x12)⟩, ⟨some 8, none, [8], fun vs_ => Row (α := (List Int)) 34 (fr0 vs_ 0) (([x11.ages] : List (List Int)))⟩, ⟨none, some 9, [], fun vs_ => Row (α := (List Int)) 34 (Value.slice z61 m61 k61) (s1.2)⟩, ⟨some 9, none, [9], fun vs_ => Row (α := (List Int)) 34 (fr0 vs_ 0) (x13)⟩]) (O := Row (α := Control_tick) 87 (Value.slice z4 m4 k4) (x1.1) :: Fr) rfl (by kernel_rfl) (((I104.pull 2).pull 2).pull 2) ⟨?_, ?_, ?_, ?_, ?_, ?_, ?_, ?_, ?_, ?_, ?_, ?_, trivial⟩ ?_
        · intro vs40 f w79 S45 X37 le45 hA37 hK40 hI41
          have I109 : Inv w79 S45 (X37) := hI41
          refine opg_plain rfl rfl (op_move (v := (Value.slice z60 m60 k60)) rfl ((hK40 6 (keep_of rfl)).trans e84) ?_)
          refine ⟨_, _, rfl, PH.Le.refl _, ?_, ?_⟩
          · exact rfl
          · exact I109
        · intro vs41 f w80 S46 X38 le46 hA38 hK41 hI42
          have I110 : Inv w80 S46 (X38) := hI42
          refine opg_plain rfl rfl (op_fieldAddr (v := (Value.pointer (some ⟨g5, 0, none⟩))) rfl fa87_1 (hK41 11 (keep_of rfl)) rfl ?_)
          refine ⟨_, _, rfl, PH.Le.refl _, ?_, ?_⟩
          · exact rfl
          · exact I110
        · intro vs42 f w81 S47 X39 le47 hA39 hK42 hI43
          have I111 : Inv w81 S47 (Cells g5 87 #[(Value.bool (x11.power)), (Value.slice z64 m64 k64), (Value.slice z65 m65 k65), (Value.slice z66 m66 k66), (Value.slice z67 m67 k67), (Value.slice z68 m68 k68)] :: X39) := hI43
          have q49 : f 29 = (Value.pointer (some ⟨g5, 1, none⟩)) := vt (hA39.at_ 0 rfl _ rfl) rfl
          refine opg_plain rfl rfl (op_load1 (c := (Value.slice z64 m64 k64)) rfl sh34 (I111.nth 0 rfl) q49 rfl ?_)
          refine ⟨_, _, rfl, PH.Le.refl _, ?_, ?_⟩
          · exact rfl
          · exact I111
        · intro vs43 f w82 S48 X40 le48 hA40 hK43 hI44
          have I112 : Inv w82 S48 (X40) := hI44
          have q50 : f 30 = (Value.slice z64 m64 k64) := vt (hA40.at_ 1 rfl _ rfl) rfl
          refine opg_plain rfl rfl (op_buildSlice (vs := [(Value.slice z64 m64 k64)]) (r := ([x11.values] : List (List Int))) rfl Try.underlying53 el34 (parts1 q50) rfl (by decide) (by decide) ⟨(r18.mono le48), trivial⟩ I112 (fun u34 w83 I113 => ?_))
          obtain ⟨z69, m69, k69, e95⟩ := row_form I113
          subst e95
          refine ⟨_, _, rfl, PH.Le.refl _, ?_, ?_⟩
          · exact ⟨_, _, _, rfl⟩
          · exact I113
        · intro vs44 f w84 S49 X41 le49 hA41 hK44 hI45
          have I114 : Inv w84 S49 (Row (α := (List Int)) 34 (Value.slice z60 m60 k60) (s1.1) :: Row (α := (List Int)) 34 (vs44 3) (([x11.values] : List (List Int))) :: X41) := hI45
          have q51 : f 28 = (Value.slice z60 m60 k60) := vt (hA41.at_ 0 rfl _ rfl) rfl
          obtain ⟨z70, m70, k70, e96⟩ := (hA41.at_ 3 rfl _ rfl).2
          have q52 : f 31 = Value.slice z70 m70 k70 := ((hA41.at_ 3 rfl _ rfl).1 _ rfl).trans e96
          have e96 : vs44 3 = (Value.slice z70 m70 k70) := e96
          have I115 := I114
          rw [e96] at I115
          refine opg_plain rfl rfl (op_append (α := (List Int)) (v := (Value.slice z60 m60 k60)) (u := (Value.slice z70 m70 k70)) rfl rfl Try.underlying53 el34 (by decide) (by decide) q51 q52 I115 (Inv.rowSrc (I115.nth 1 rfl)) hx12 (fun u35 w85 I116 => ?_))
          obtain ⟨z71, m71, k71, e97⟩ := row_form I116
          subst e97
          refine ⟨_, _, rfl, PH.Le.refl _, ?_, ?_⟩
          · exact ⟨_, _, _, rfl⟩
          · show Inv _ _ (Row (α := (List Int)) 34 ((Value.slice z71 m71 k71)) (x12) :: Row (α := (List Int)) 34 (vs44 3) (([x11.values] : List (List Int))) :: X41)
            simp only [e96]
            exact ((I116.pull 1).pull 1)
        · intro vs45 f w86 S50 X42 le50 hA42 hK45 hI46
          have I117 : Inv w86 S50 (X42) := hI46
          refine opg_plain rfl rfl (op_move (v := (Value.slice z61 m61 k61)) rfl ((hK45 7 (keep_of rfl)).trans e85) ?_)
          refine ⟨_, _, rfl, PH.Le.refl _, ?_, ?_⟩
          · exact rfl
          · exact I117
        · intro vs46 f w87 S51 X43 le51 hA43 hK46 hI47
          have I118 : Inv w87 S51 (X43) := hI47
          refine opg_plain rfl rfl (op_fieldAddr (v := (Value.pointer (some ⟨g5, 0, none⟩))) rfl fa87_2 (hK46 11 (keep_of rfl)) rfl ?_)
          refine ⟨_, _, rfl, PH.Le.refl _, ?_, ?_⟩
          · exact rfl
          · exact I118
        · intro vs47 f w88 S52 X44 le52 hA44 hK47 hI48
          have I119 : Inv w88 S52 (Cells g5 87 #[(Value.bool (x11.power)), (Value.slice z64 m64 k64), (Value.slice z65 m65 k65), (Value.slice z66 m66 k66), (Value.slice z67 m67 k67), (Value.slice z68 m68 k68)] :: X44) := hI48
          have q53 : f 34 = (Value.pointer (some ⟨g5, 2, none⟩)) := vt (hA44.at_ 0 rfl _ rfl) rfl
          refine opg_plain rfl rfl (op_load1 (c := (Value.slice z65 m65 k65)) rfl sh34 (I119.nth 0 rfl) q53 rfl ?_)
          refine ⟨_, _, rfl, PH.Le.refl _, ?_, ?_⟩
          · exact rfl
          · exact I119
        · intro vs48 f w89 S53 X45 le53 hA45 hK48 hI49
          have I120 : Inv w89 S53 (X45) := hI49
          have q54 : f 35 = (Value.slice z65 m65 k65) := vt (hA45.at_ 1 rfl _ rfl) rfl
          refine opg_plain rfl rfl (op_buildSlice (vs := [(Value.slice z65 m65 k65)]) (r := ([x11.ages] : List (List Int))) rfl Try.underlying53 el34 (parts1 q54) rfl (by decide) (by decide) ⟨(r19.mono le53), trivial⟩ I120 (fun u36 w90 I121 => ?_))
          obtain ⟨z72, m72, k72, e98⟩ := row_form I121
          subst e98
          refine ⟨_, _, rfl, PH.Le.refl _, ?_, ?_⟩
          · exact ⟨_, _, _, rfl⟩
          · exact I121
        · intro vs49 f w91 S54 X46 le54 hA46 hK49 hI50
          have I122 : Inv w91 S54 (Row (α := (List Int)) 34 (Value.slice z61 m61 k61) (s1.2) :: Row (α := (List Int)) 34 (vs49 8) (([x11.ages] : List (List Int))) :: X46) := hI50
          have q55 : f 33 = (Value.slice z61 m61 k61) := vt (hA46.at_ 5 rfl _ rfl) rfl
          obtain ⟨z73, m73, k73, e99⟩ := (hA46.at_ 8 rfl _ rfl).2
          have q56 : f 36 = Value.slice z73 m73 k73 := ((hA46.at_ 8 rfl _ rfl).1 _ rfl).trans e99
          have e99 : vs49 8 = (Value.slice z73 m73 k73) := e99
          have I123 := I122
          rw [e99] at I123
          refine opg_plain rfl rfl (op_append (α := (List Int)) (v := (Value.slice z61 m61 k61)) (u := (Value.slice z73 m73 k73)) rfl rfl Try.underlying53 el34 (by decide) (by decide) q55 q56 I123 (Inv.rowSrc (I123.nth 1 rfl)) hx13 (fun u37 w92 I124 => ?_))
          obtain ⟨z74, m74, k74, e100⟩ := row_form I124
          subst e100
          refine ⟨_, _, rfl, PH.Le.refl _, ?_, ?_⟩
          · exact ⟨_, _, _, rfl⟩
          · show Inv _ _ (Row (α := (List Int)) 34 ((Value.slice z74 m74 k74)) (x13) :: Row (α := (List Int)) 34 (vs49 8) (([x11.ages] : List (List Int))) :: X46)
            simp only [e99]
            exact ((I124.pull 1).pull 1)
        · intro vs50 f w93 S55 X47 le55 hA47 hK50 hI51
          have I125 : Inv w93 S55 (X47) := hI51
          obtain ⟨z75, m75, k75, e101⟩ := (hA47.at_ 4 rfl _ rfl).2
          have q57 : f 32 = Value.slice z75 m75 k75 := ((hA47.at_ 4 rfl _ rfl).1 _ rfl).trans e101
          have e101 : vs50 4 = (Value.slice z75 m75 k75) := e101
          refine opg_plain rfl rfl (op_assign (v := (Value.slice z75 m75 k75)) rfl q57 ?_)
          refine ⟨_, _, rfl, PH.Le.refl _, ?_, ?_⟩
          · show (Value.slice z75 m75 k75) = (vs50 4)
            simp only [e101] <;> rfl
          · exact I125
        · intro vs51 f w94 S56 X48 le56 hA48 hK51 hI52
          have I126 : Inv w94 S56 (X48) := hI52
          obtain ⟨z76, m76, k76, e102⟩ := (hA48.at_ 9 rfl _ rfl).2
          have q58 : f 37 = Value.slice z76 m76 k76 := ((hA48.at_ 9 rfl _ rfl).1 _ rfl).trans e102
          have e102 : vs51 9 = (Value.slice z76 m76 k76) := e102
          refine opg_plain rfl rfl (op_assign (v := (Value.slice z76 m76 k76)) rfl q58 ?_)
          refine ⟨_, _, rfl, PH.Le.refl _, ?_, ?_⟩
          · show (Value.slice z76 m76 k76) = (vs51 9)
            simp only [e102] <;> rfl
          · exact I126
        · intro vs52 f w95 S57 le57 hF4 hK52 hI53
          have e103 : f 22 = (Value.slice z4 m4 k4) := (hK52 22 (keep_all rfl)).trans e86
          have e104 : f 23 = (Value.int .i64 ((x1.1.length : Int))) := (hK52 23 (keep_all rfl)).trans e87
          have e105 : f 24 = (Value.int .i64 ((i1 : Int))) := (hK52 24 (keep_all rfl)).trans e88
          have I127 : Inv w95 S57 (Cells g5 87 #[(Value.bool (x11.power)), (Value.slice z64 m64 k64), (Value.slice z65 m65 k65), (Value.slice z66 m66 k66), (Value.slice z67 m67 k67), (Value.slice z68 m68 k68)] :: Row (α := (List Int)) 34 (vs52 3) (([x11.values] : List (List Int))) :: Row (α := (List Int)) 34 (vs52 4) (x12) :: Row (α := (List Int)) 34 (vs52 8) (([x11.ages] : List (List Int))) :: Row (α := (List Int)) 34 (vs52 9) (x13) :: Row (α := Control_tick) 87 (Value.slice z4 m4 k4) (x1.1) :: Fr) := hI53
          obtain ⟨z77, m77, k77, e106⟩ := (hF4.at_ 3 rfl _ rfl).2
          have q59 : f 31 = Value.slice z77 m77 k77 := ((hF4.at_ 3 rfl _ rfl).1 _ rfl).trans e106
          have e106 : vs52 3 = (Value.slice z77 m77 k77) := e106
          have I128 := I127
          rw [e106] at I128
          obtain ⟨z78, m78, k78, e107⟩ := (hF4.at_ 4 rfl _ rfl).2
          have q60 : f 32 = Value.slice z78 m78 k78 := ((hF4.at_ 4 rfl _ rfl).1 _ rfl).trans e107
          have e107 : vs52 4 = (Value.slice z78 m78 k78) := e107
          have I129 := I128
          rw [e107] at I129
          obtain ⟨z79, m79, k79, e108⟩ := (hF4.at_ 8 rfl _ rfl).2
          have q61 : f 36 = Value.slice z79 m79 k79 := ((hF4.at_ 8 rfl _ rfl).1 _ rfl).trans e108
          have e108 : vs52 8 = (Value.slice z79 m79 k79) := e108
          have I130 := I129
          rw [e108] at I130
          obtain ⟨z80, m80, k80, e109⟩ := (hF4.at_ 9 rfl _ rfl).2
          have q62 : f 37 = Value.slice z80 m80 k80 := ((hF4.at_ 9 rfl _ rfl).1 _ rfl).trans e109
          have e109 : vs52 9 = (Value.slice z80 m80 k80) := e109
          have I131 := I130
          rw [e109] at I131
          have q63 : f 6 = (vs52 4) := vt (hF4.at_ 10 rfl _ rfl) rfl
          simp only [e107] at q63
          have q63 : f 6 = (Value.slice z78 m78 k78) := q63
          have q64 : f 7 = (vs52 9) := vt (hF4.at_ 11 rfl _ rfl) rfl
          simp only [e109] at q64
          have q64 : f 7 = (Value.slice z80 m80 k80) := q64
          refine wp_region' ?_
          refine wl_op rfl (op_add (a := (i1 : Int)) (b := 1) rfl e105 rfl ?_)
          refine wl_op rfl (op_move (v := (Value.int .i64 (w64 ((i1 : Int) + 1)))) rfl rfl ?_)
          refine wl_nil ?_
          obtain rfl := Option.some.inj h1
          exact ⟨_, _, _, _, _, _, _, (le44.trans le57), ((((((I131).drop).drop.pull 1).drop.pull 2).pull 2).pull 2), q63, q64, e103, e104, (idx_next hlt1 hk1)⟩
      · rintro f w hI54
        obtain ⟨S58, z81, m81, k81, z82, m82, k82, le58, I132, e110, e111, e112, e113, e114⟩ := hI54
        refine wp_seq' ?_
        refine wp_region' ?_
        refine wl_op rfl (op_lss (a := (x1.1.length : Int)) (b := (x1.1.length : Int)) rfl e114 e113 ?_)
        refine wl_nil ?_
        refine wp_seq' ?_
        refine wp_cond_f (b := decide ((x1.1.length : Int) < (x1.1.length : Int))) rfl (len_f _) ?_
        refine wp_exit' ?_
        exact ⟨_, _, _, _, _, _, _, le58, (((I132.pull 2).pull 2).pull 2), e110, e111, e112, e113⟩
    · rintro f w ⟨S59, z62, m62, k62, z63, m63, k63, le59, I133, e115, e116, e117, e118⟩
      refine wp_seq' ?_
      refine wp_region' ?_
      refine wl_op rfl (op_move (v := (Value.slice z62 m62 k62)) rfl e115 ?_)
      refine wl_op rfl (op_move (v := (Value.slice z63 m63 k63)) rfl e116 ?_)
      refine wl_op rfl (op_assign (v := (Value.slice z62 m62 k62)) rfl rfl ?_)
      refine wl_op rfl (op_assign (v := (Value.slice z63 m63 k63)) rfl rfl ?_)
      refine wl_op rfl (op_assign (v := (Value.int .i64 (0))) rfl rfl ?_)
      refine wl_nil ?_
      refine wp_ret' ?_
      obtain rfl := Option.some.inj h
      exact ⟨(Value.tuple #[(Value.slice z62 m62 k62), (Value.slice z63 m63 k63), (Value.int .i64 (0))]), (res3 rfl rfl rfl rfl), _, [Row (α := (List Int)) 34 (Value.slice z62 m62 k62) (out1.1), Row (α := (List Int)) 34 (Value.slice z63 m63 k63) (out1.2)], ((le1.trans le2).trans le59), (((I133.pull 2).drop.pull 1).pull 1), _, _, _, _, _, _, rfl, rfl⟩
end Go.Proofs.Ytfeomcdhhgeilaa.Pad
