/- A part of the proof: what the functions of the program compute, shown over the model. -/
import Derived.Test.YtfeomcdhhgeilaaPadSP
import Derived.Test.YtfeomcdhhgeilaaPadSW1
import Derived.KernelRfl
set_option linter.unusedVariables false
namespace Go.Proofs.Ytfeomcdhhgeilaa.Pad
open Go Go.Proofs
set_option maxHeartbeats 4000000 in
set_option maxRecDepth 100000 in
theorem F45_ok {w : World} {S : PH} {Fr : List HP} {a0 : Panel} {v0 : Value} {a1 : Int} {a2 : (List Signal)} {v2 : Value} {r : (List Control_tick) × Int} (hI : Inv w S Fr) (h0_ : RV S v0 a0) (h2_ : RV S v2 a2) (h : F45 a0 a1 a2 = some r) :
    Calls Try.prog 45 [v0, (Value.int .i64 (a1)), v2].toArray w (Done S Fr (fun T_ v_ O_ => ∃ (a0_ : Option Addr) (n0_ k0_ : Nat), v_ = (Value.tuple #[(Value.slice a0_ n0_ k0_), (Value.int .i64 (r.2))]) ∧ O_ = [Row (α := Control_tick) 87 (Value.slice a0_ n0_ k0_) (r.1)])) := by
  unfold F45 at h
  obtain ⟨c1, e1, r1⟩ := Panel.inv h0_
  subst e1
  obtain ⟨z1, m1, k1, e2⟩ := rv_form r1
  subst e2
  obtain ⟨z2, m2, k2, e3⟩ := rv_form h2_
  subst e3
  refine calls_enter (n := 193) (vs := [(Value.agg #[(Value.int .i64 (a0.Sensors)), (Value.slice z1 m1 k1), (Value.int .i64 (a0.Stale)), (Value.int .i64 (a0.Limit))]), (Value.int .i64 (a1)), (Value.slice z2 m2 k2)]) Try.func45 rfl rfl rfl ?_
  refine wp_seq' ?_
  refine wp_region' ?_
  refine wl_op rfl (op_box (v := (Value.agg #[(Value.int .i64 (a0.Sensors)), (Value.slice z1 m1 k1), (Value.int .i64 (a0.Stale)), (Value.int .i64 (a0.Limit))])) rfl hI rfl (fun g1 w1 I1 => ?_))
  obtain ⟨S1, le1, I2, p1⟩ := Inv.boxFreeze (x := a0) I1 (Panel.rv (s := a0) r1)
  refine wl_op rfl (op_box (v := (Value.int .i64 (a1))) rfl I2 rfl (fun g2 w2 I3 => ?_))
  obtain ⟨S2, le2, I4, p2⟩ := Inv.boxFreeze (x := a1) I3 (rv_int' _)
  refine wl_op rfl (op_assign (v := (Value.slice none 0 0)) rfl rfl ?_)
  refine wl_op rfl (op_assign (v := (Value.int .i64 (0))) rfl rfl ?_)
  refine wl_nil ?_
  refine wp_seq' ?_
  refine wp_seq' ?_
  refine wp_region' ?_
  refine wl_op rfl (op_load (v := (Value.pointer (some ⟨g1, 0, none⟩))) (e := a0) rfl sh24 rfl ((p1.mono le2).at_ I4) (fun u1 hu1 => ?_))
  obtain ⟨c2, e4, r2⟩ := Panel.inv hu1
  subst e4
  obtain ⟨z3, m3, k3, e5⟩ := rv_form r2
  subst e5
  obtain ⟨x1, hx1, h⟩ := bnd h
  refine wl_op rfl (op_call_v (vs := [(Value.agg #[(Value.int .i64 (a0.Sensors)), (Value.slice z3 m3 k3), (Value.int .i64 (a0.Stale)), (Value.int .i64 (a0.Limit))])]) (r := (Value.int .i64 (x1))) rfl ca27 rfl (args1 rfl) I4 (fun Fr_ hF_ => F27_ok hF_ (Panel.rv (s := a0) r2) hx1) (fun w3 I5 => ?_))
  refine wl_op rfl (op_assign (v := (Value.int .i64 (x1))) rfl rfl ?_)
  refine wl_nil ?_
  refine wp_seq' ?_
  refine wp_region' ?_
  refine wl_op rfl (op_move (v := (Value.int .i64 (x1))) rfl rfl ?_)
  refine wl_op rfl (op_neq (a := x1) (b := 0) rfl rfl rfl ?_)
  refine wl_nil ?_
  rcases ifs h with ⟨hc1, h⟩ | ⟨hc1, h⟩
  · refine wp_cond_t (b := x1 != 0) rfl hc1 ?_
    refine wp_seq' ?_
    refine wp_region' ?_
    refine wl_op rfl (op_move (v := (Value.int .i64 (x1))) rfl rfl ?_)
    refine wl_op rfl (op_assign (v := (Value.slice none 0 0)) rfl rfl ?_)
    refine wl_op rfl (op_assign (v := (Value.int .i64 (x1))) rfl rfl ?_)
    refine wl_nil ?_
    refine wp_ret' ?_
    have I6 := Inv.rowNil (α := Control_tick) (T := 87) I5
    obtain rfl := Option.some.inj h
    exact ⟨(Value.tuple #[(Value.slice none 0 0), (Value.int .i64 (x1))]), (res2 rfl rfl rfl), _, [Row (α := Control_tick) 87 (Value.slice none 0 0) (([] : List Control_tick))], (le1.trans le2), I6, _, _, _, rfl, rfl⟩
  · refine wp_cond_f (b := x1 != 0) rfl hc1 ?_
    refine wp_skip' ?_
    refine wp_seq' ?_
    refine wp_seq' ?_
    refine wp_region' ?_
    refine wl_op rfl (op_load_int (v := (Value.pointer (some ⟨g2, 0, none⟩))) (e := a1) rfl sh3 rfl (p2.at_ I5) ?_)
    obtain ⟨x2, hx2, h⟩ := bnd h
    refine wl_op rfl (op_call_v (vs := [(Value.int .i64 (a1)), (Value.int .i64 (0)), (Value.int .i64 (1000))]) (r := (Value.bool (x2))) rfl ca48 rfl (args3 rfl rfl rfl) I5 (fun Fr_ hF_ => F48_ok hF_  hx2) (fun w4 I7 => ?_))
    refine wl_op rfl (op_not (b := x2) rfl rfl ?_)
    refine wl_nil ?_
    rcases ifs h with ⟨hc2, h⟩ | ⟨hc2, h⟩
    · refine wp_cond_t (b := !x2) rfl hc2 ?_
      refine wp_seq' ?_
      refine wp_region' ?_
      refine wl_op rfl (op_assign (v := (Value.slice none 0 0)) rfl rfl ?_)
      refine wl_op rfl (op_assign (v := (Value.int .i64 (1))) rfl rfl ?_)
      refine wl_nil ?_
      refine wp_ret' ?_
      have I8 := Inv.rowNil (α := Control_tick) (T := 87) I7
      obtain rfl := Option.some.inj h
      exact ⟨(Value.tuple #[(Value.slice none 0 0), (Value.int .i64 (1))]), (res2 rfl rfl rfl), _, [Row (α := Control_tick) 87 (Value.slice none 0 0) (([] : List Control_tick))], (le1.trans le2), I8, _, _, _, rfl, rfl⟩
    · refine wp_cond_f (b := !x2) rfl hc2 ?_
      refine wp_skip' ?_
      obtain ⟨ov1, h2, h⟩ := bnd h
      refine wp_cut (fun f w => ∃ v1, ov1 = Sum.inl v1 ∧ Inv w S2 (Fr) ∧ f 2 = (Value.slice z2 m2 k2) ∧ f 3 = (Value.pointer (some ⟨g1, 0, none⟩)) ∧ f 4 = (Value.pointer (some ⟨g2, 0, none⟩))) ?_ ?_
      · refine wp_seq' ?_
        refine wp_region' ?_
        refine wl_op rfl (op_move (v := (Value.slice z2 m2 k2)) rfl rfl ?_)
        refine wl_op rfl (op_len_rv rfl Try.underlying25 rfl (h2_.mono (le1.trans le2)) ?_)
        refine wl_op rfl (op_gtr (a := (a2.length : Int)) (b := 200) rfl rfl rfl ?_)
        refine wl_op rfl (op_move (v := (Value.bool (decide (200 < (a2.length : Int))))) rfl rfl ?_)
        rcases ifs h2 with ⟨hc5, h2⟩ | ⟨hc5, h2⟩
        · refine wl_skip (c := decide (200 < (a2.length : Int))) rfl rfl rfl rfl hc5 rfl ?_
          refine wl_skip (c := decide (200 < (a2.length : Int))) rfl rfl rfl rfl hc5 rfl ?_
          refine wl_skip (c := decide (200 < (a2.length : Int))) rfl rfl rfl rfl hc5 rfl ?_
          refine wl_op rfl (op_pick_t (c := decide (200 < (a2.length : Int))) (a := (Value.bool (true))) rfl rfl hc5 rfl ?_)
          refine wl_nil ?_
          refine wp_cond_t (b := true) rfl rfl ?_
          refine wp_seq' ?_
          refine wp_region' ?_
          refine wl_op rfl (op_assign (v := (Value.slice none 0 0)) rfl rfl ?_)
          refine wl_op rfl (op_assign (v := (Value.int .i64 (81))) rfl rfl ?_)
          refine wl_nil ?_
          refine wp_ret' ?_
          obtain rfl := Option.some.inj h2
          have h3 := h
          have I10 := Inv.rowNil (α := Control_tick) (T := 87) I7
          obtain rfl := Option.some.inj h3
          exact ⟨(Value.tuple #[(Value.slice none 0 0), (Value.int .i64 (81))]), (res2 rfl rfl rfl), _, [Row (α := Control_tick) 87 (Value.slice none 0 0) (([] : List Control_tick))], (le1.trans le2), I10, _, _, _, rfl, rfl⟩
        · refine wl_taken (c := decide (200 < (a2.length : Int))) rfl rfl rfl rfl hc5 (op_move (v := (Value.slice z2 m2 k2)) rfl rfl ?_)
          refine wl_taken (c := decide (200 < (a2.length : Int))) rfl rfl rfl rfl hc5 (op_makeFunc (fv := #[]) (cv := #[(Value.pointer (some ⟨g1, 0, none⟩)), (Value.pointer (some ⟨g2, 0, none⟩))]) rfl arr0 (arr2 rfl rfl) ?_)
          obtain ⟨x4, hx4, h2⟩ := bnd h2
          refine wl_taken (c := decide (200 < (a2.length : Int))) rfl rfl rfl rfl hc5 (op_call_v (vs := [(Value.slice z2 m2 k2), (Value.func (.func 63) #[] #[(Value.pointer (some ⟨g1, 0, none⟩)), (Value.pointer (some ⟨g2, 0, none⟩))])]) (r := (Value.bool (x4))) rfl ca62 rfl (args2 rfl rfl) I7 (fun Fr_ hF_ => F62_ok hF_ (h2_.mono (le1.trans le2)) ⟨63, [(Value.pointer (some ⟨g1, 0, none⟩)), (Value.pointer (some ⟨g2, 0, none⟩))], rfl, ca63, fun T_ w_ Fr_ u_ x_ r_ hle_ hI_ hu_ hr_ => F63_ok hI_ hu_ ((p1.mono le2).mono hle_) (p2.mono hle_) hr_⟩ hx4) (fun w6 I11 => ?_))
          refine wl_op rfl (op_pick_f (c := decide (200 < (a2.length : Int))) (b := (Value.bool (x4))) rfl rfl hc5 rfl ?_)
          refine wl_nil ?_
          rcases ifs h2 with ⟨hc6, h2⟩ | ⟨hc6, h2⟩
          · refine wp_cond_t (b := x4) rfl hc6 ?_
            refine wp_seq' ?_
            refine wp_region' ?_
            refine wl_op rfl (op_assign (v := (Value.slice none 0 0)) rfl rfl ?_)
            refine wl_op rfl (op_assign (v := (Value.int .i64 (81))) rfl rfl ?_)
            refine wl_nil ?_
            refine wp_ret' ?_
            obtain rfl := Option.some.inj h2
            have h3 := h
            have I12 := Inv.rowNil (α := Control_tick) (T := 87) I11
            obtain rfl := Option.some.inj h3
            exact ⟨(Value.tuple #[(Value.slice none 0 0), (Value.int .i64 (81))]), (res2 rfl rfl rfl), _, [Row (α := Control_tick) 87 (Value.slice none 0 0) (([] : List Control_tick))], (le1.trans le2), I12, _, _, _, rfl, rfl⟩
          · refine wp_cond_f (b := x4) rfl hc6 ?_
            refine wp_skip' ?_
            obtain rfl := Option.some.inj h2
            exact ⟨_, rfl, I11, rfl, rfl, rfl⟩
      · rintro f w ⟨v1, rfl, I13, e6, e7, e8⟩
        refine wp_seq' ?_
        refine wp_region' ?_
        refine wl_op rfl (op_assign (v := (Value.slice none 0 0)) rfl rfl ?_)
        refine wl_nil ?_
        refine wp_seq' ?_
        refine wp_region' ?_
        refine wl_op rfl (op_assign (v := (Value.bool (true))) rfl rfl ?_)
        refine wl_nil ?_
        refine wp_seq' ?_
        obtain ⟨x5, hx5, h⟩ := bnd h
        refine wp_draw (sps := [⟨some 39, [], [0], fun vs_ T_ => fr0 vs_ 0 = (fieldPtr (Value.pointer (some ⟨g1, 0, none⟩)) 0), [], [], [], fun _ h_ => h_⟩, ⟨some 40, [0], [1], fun vs_ T_ => fr0 vs_ 0 = (Value.int .i64 (a0.Sensors)), [], [], [], fun _ h_ => h_⟩, ⟨some 41, [0, 1], [2], fun vs_ T_ => ∃ a_ n_ k_, fr0 vs_ 0 = Value.slice a_ n_ k_, [], [], [0], fun _ h_ => h_⟩, ⟨some 42, [], [3], fun vs_ T_ => fr0 vs_ 0 = (fieldPtr (Value.pointer (some ⟨g1, 0, none⟩)) 0), [], [], [], fun _ h_ => h_⟩, ⟨some 43, [3], [4], fun vs_ T_ => fr0 vs_ 0 = (Value.int .i64 (a0.Sensors)), [], [], [], fun _ h_ => h_⟩, ⟨some 44, [3, 4], [5], fun vs_ T_ => ∃ a_ n_ k_, fr0 vs_ 0 = Value.slice a_ n_ k_, [], [], [1], fun _ h_ => h_⟩, ⟨some 45, [], [6], fun vs_ T_ => fr0 vs_ 0 = (fieldPtr (Value.pointer (some ⟨g1, 0, none⟩)) 0), [], [], [], fun _ h_ => h_⟩, ⟨some 46, [6], [7], fun vs_ T_ => fr0 vs_ 0 = (Value.int .i64 (a0.Sensors)), [], [], [], fun _ h_ => h_⟩, ⟨some 47, [6, 7], [8], fun vs_ T_ => ∃ a_ n_ k_, fr0 vs_ 0 = Value.slice a_ n_ k_, [], [], [2], fun _ h_ => h_⟩, ⟨some 11, [0, 1, 2], [9, 2], fun vs_ T_ => fr0 vs_ 0 = (fr0 vs_ 1), [], [], [], fun _ h_ => h_⟩, ⟨some 12, [0, 1, 2, 3, 4, 5, 9], [10, 5], fun vs_ T_ => fr0 vs_ 0 = (fr0 vs_ 1), [], [], [], fun _ h_ => h_⟩, ⟨some 13, [0, 1, 2, 3, 4, 5, 6, 7, 8, 9, 10], [11, 8], fun vs_ T_ => fr0 vs_ 0 = (fr0 vs_ 1), [], [], [], fun _ h_ => h_⟩]) (tks := [⟨some 2, none, [2], fun vs_ => Row (α := Int) 3 (fr0 vs_ 0) (x5)⟩, ⟨some 5, none, [5], fun vs_ => Row (α := Int) 3 (fr0 vs_ 0) (x5)⟩, ⟨some 8, none, [8], fun vs_ => Row (α := Int) 3 (fr0 vs_ 0) (x5)⟩]) (O := Fr) rfl (by kernel_rfl) I13 ⟨?_, ?_, ?_, ?_, ?_, ?_, ?_, ?_, ?_, ?_, ?_, ?_, trivial⟩ ?_
        · intro vs1 f w10 S3 X1 le3 hA1 hK1 hI1
          have I17 : Inv w10 S3 (X1) := hI1
          refine opg_plain rfl rfl (op_fieldAddr_t (v := (Value.pointer (some ⟨g1, 0, none⟩))) rfl fa24_0 ((hK1 3 (keep_of rfl)).trans e7) ((p1.mono (le2.trans le3)).at_ I17) ?_)
          refine ⟨_, _, rfl, PH.Le.refl _, ?_, ?_⟩
          · exact rfl
          · exact I17
        · intro vs2 f w11 S4 X2 le4 hA2 hK2 hI2
          have I18 : Inv w11 S4 (X2) := hI2
          have q1 : f 39 = (fieldPtr (Value.pointer (some ⟨g1, 0, none⟩)) 0) := ((hA2.1 _ rfl).1 _ rfl).trans (hA2.1 _ rfl).2
          refine opg_plain rfl rfl (op_load_int (v := (fieldPtr (Value.pointer (some ⟨g1, 0, none⟩)) 0)) (e := a0.Sensors) rfl sh3 q1 (((p1.mono (le2.trans le4)).at_ I18).fld Panel.fld0) ?_)
          refine ⟨_, _, rfl, PH.Le.refl _, ?_, ?_⟩
          · exact rfl
          · exact I18
        · intro vs3 f w12 S5 X3 le5 hA3 hK3 hI3
          have I19 : Inv w12 S5 (X3) := hI3
          have q2 : f 39 = (fieldPtr (Value.pointer (some ⟨g1, 0, none⟩)) 0) := ((hA3.1 _ rfl).1 _ rfl).trans (hA3.1 _ rfl).2
          have q3 : f 40 = (Value.int .i64 (a0.Sensors)) := ((hA3.2.1 _ rfl).1 _ rfl).trans (hA3.2.1 _ rfl).2
          refine opg_plain rfl rfl (op_makeSlice (c := a0.Sensors) rfl Try.underlying34 el3 (by decide) q3 q3 I19 hx5 (fun u5 w13 I20 => ?_))
          obtain ⟨z4, m4, k4, e9⟩ := row_form I20
          subst e9
          refine ⟨_, _, rfl, PH.Le.refl _, ?_, ?_⟩
          · exact ⟨_, _, _, rfl⟩
          · exact I20
        · intro vs4 f w14 S6 X4 le6 hA4 hK4 hI4
          have I21 : Inv w14 S6 (X4) := hI4
          refine opg_plain rfl rfl (op_fieldAddr_t (v := (Value.pointer (some ⟨g1, 0, none⟩))) rfl fa24_0 ((hK4 3 (keep_of rfl)).trans e7) ((p1.mono (le2.trans le6)).at_ I21) ?_)
          refine ⟨_, _, rfl, PH.Le.refl _, ?_, ?_⟩
          · exact rfl
          · exact I21
        · intro vs5 f w15 S7 X5 le7 hA5 hK5 hI5
          have I22 : Inv w15 S7 (X5) := hI5
          have q4 : f 42 = (fieldPtr (Value.pointer (some ⟨g1, 0, none⟩)) 0) := ((hA5.1 _ rfl).1 _ rfl).trans (hA5.1 _ rfl).2
          refine opg_plain rfl rfl (op_load_int (v := (fieldPtr (Value.pointer (some ⟨g1, 0, none⟩)) 0)) (e := a0.Sensors) rfl sh3 q4 (((p1.mono (le2.trans le7)).at_ I22).fld Panel.fld0) ?_)
          refine ⟨_, _, rfl, PH.Le.refl _, ?_, ?_⟩
          · exact rfl
          · exact I22
        · intro vs6 f w16 S8 X6 le8 hA6 hK6 hI6
          have I23 : Inv w16 S8 (X6) := hI6
          have q5 : f 42 = (fieldPtr (Value.pointer (some ⟨g1, 0, none⟩)) 0) := ((hA6.1 _ rfl).1 _ rfl).trans (hA6.1 _ rfl).2
          have q6 : f 43 = (Value.int .i64 (a0.Sensors)) := ((hA6.2.1 _ rfl).1 _ rfl).trans (hA6.2.1 _ rfl).2
          refine opg_plain rfl rfl (op_makeSlice (c := a0.Sensors) rfl Try.underlying34 el3 (by decide) q6 q6 I23 hx5 (fun u6 w17 I24 => ?_))
          obtain ⟨z5, m5, k5, e10⟩ := row_form I24
          subst e10
          refine ⟨_, _, rfl, PH.Le.refl _, ?_, ?_⟩
          · exact ⟨_, _, _, rfl⟩
          · exact I24
        · intro vs7 f w18 S9 X7 le9 hA7 hK7 hI7
          have I25 : Inv w18 S9 (X7) := hI7
          refine opg_plain rfl rfl (op_fieldAddr_t (v := (Value.pointer (some ⟨g1, 0, none⟩))) rfl fa24_0 ((hK7 3 (keep_of rfl)).trans e7) ((p1.mono (le2.trans le9)).at_ I25) ?_)
          refine ⟨_, _, rfl, PH.Le.refl _, ?_, ?_⟩
          · exact rfl
          · exact I25
        · intro vs8 f w19 S10 X8 le10 hA8 hK8 hI8
          have I26 : Inv w19 S10 (X8) := hI8
          have q7 : f 45 = (fieldPtr (Value.pointer (some ⟨g1, 0, none⟩)) 0) := ((hA8.1 _ rfl).1 _ rfl).trans (hA8.1 _ rfl).2
          refine opg_plain rfl rfl (op_load_int (v := (fieldPtr (Value.pointer (some ⟨g1, 0, none⟩)) 0)) (e := a0.Sensors) rfl sh3 q7 (((p1.mono (le2.trans le10)).at_ I26).fld Panel.fld0) ?_)
          refine ⟨_, _, rfl, PH.Le.refl _, ?_, ?_⟩
          · exact rfl
          · exact I26
        · intro vs9 f w20 S11 X9 le11 hA9 hK9 hI9
          have I27 : Inv w20 S11 (X9) := hI9
          have q8 : f 45 = (fieldPtr (Value.pointer (some ⟨g1, 0, none⟩)) 0) := ((hA9.1 _ rfl).1 _ rfl).trans (hA9.1 _ rfl).2
          have q9 : f 46 = (Value.int .i64 (a0.Sensors)) := ((hA9.2.1 _ rfl).1 _ rfl).trans (hA9.2.1 _ rfl).2
          refine opg_plain rfl rfl (op_makeSlice (c := a0.Sensors) rfl Try.underlying34 el3 (by decide) q9 q9 I27 hx5 (fun u7 w21 I28 => ?_))
          obtain ⟨z6, m6, k6, e11⟩ := row_form I28
          subst e11
          refine ⟨_, _, rfl, PH.Le.refl _, ?_, ?_⟩
          · exact ⟨_, _, _, rfl⟩
          · exact I28
        · intro vs10 f w22 S12 X10 le12 hA10 hK10 hI10
          have I29 : Inv w22 S12 (X10) := hI10
          have q10 : f 39 = (fieldPtr (Value.pointer (some ⟨g1, 0, none⟩)) 0) := ((hA10.1 _ rfl).1 _ rfl).trans (hA10.1 _ rfl).2
          have q11 : f 40 = (Value.int .i64 (a0.Sensors)) := ((hA10.2.1 _ rfl).1 _ rfl).trans (hA10.2.1 _ rfl).2
          obtain ⟨z7, m7, k7, e12⟩ := (hA10.2.2.1 _ rfl).2
          have q12 : f 41 = Value.slice z7 m7 k7 := ((hA10.2.2.1 _ rfl).1 _ rfl).trans e12
          have e12 : vs10 2 = (Value.slice z7 m7 k7) := e12
          refine opg_plain rfl rfl (op_assign (v := (Value.slice z7 m7 k7)) rfl q12 ?_)
          refine ⟨_, _, rfl, PH.Le.refl _, ?_, ?_⟩
          · show (Value.slice z7 m7 k7) = (vs10 2)
            simp only [e12] <;> rfl
          · exact I29
        · intro vs11 f w23 S13 X11 le13 hA11 hK11 hI11
          have I30 : Inv w23 S13 (X11) := hI11
          have q13 : f 42 = (fieldPtr (Value.pointer (some ⟨g1, 0, none⟩)) 0) := ((hA11.2.2.2.1 _ rfl).1 _ rfl).trans (hA11.2.2.2.1 _ rfl).2
          have q14 : f 43 = (Value.int .i64 (a0.Sensors)) := ((hA11.2.2.2.2.1 _ rfl).1 _ rfl).trans (hA11.2.2.2.2.1 _ rfl).2
          obtain ⟨z8, m8, k8, e13⟩ := (hA11.2.2.2.2.2.1 _ rfl).2
          have q15 : f 44 = Value.slice z8 m8 k8 := ((hA11.2.2.2.2.2.1 _ rfl).1 _ rfl).trans e13
          have e13 : vs11 5 = (Value.slice z8 m8 k8) := e13
          refine opg_plain rfl rfl (op_assign (v := (Value.slice z8 m8 k8)) rfl q15 ?_)
          refine ⟨_, _, rfl, PH.Le.refl _, ?_, ?_⟩
          · show (Value.slice z8 m8 k8) = (vs11 5)
            simp only [e13] <;> rfl
          · exact I30
        · intro vs12 f w24 S14 X12 le14 hA12 hK12 hI12
          have I31 : Inv w24 S14 (X12) := hI12
          have q16 : f 45 = (fieldPtr (Value.pointer (some ⟨g1, 0, none⟩)) 0) := ((hA12.2.2.2.2.2.2.1 _ rfl).1 _ rfl).trans (hA12.2.2.2.2.2.2.1 _ rfl).2
          have q17 : f 46 = (Value.int .i64 (a0.Sensors)) := ((hA12.2.2.2.2.2.2.2.1 _ rfl).1 _ rfl).trans (hA12.2.2.2.2.2.2.2.1 _ rfl).2
          obtain ⟨z9, m9, k9, e14⟩ := (hA12.2.2.2.2.2.2.2.2.1 _ rfl).2
          have q18 : f 47 = Value.slice z9 m9 k9 := ((hA12.2.2.2.2.2.2.2.2.1 _ rfl).1 _ rfl).trans e14
          have e14 : vs12 8 = (Value.slice z9 m9 k9) := e14
          refine opg_plain rfl rfl (op_assign (v := (Value.slice z9 m9 k9)) rfl q18 ?_)
          refine ⟨_, _, rfl, PH.Le.refl _, ?_, ?_⟩
          · show (Value.slice z9 m9 k9) = (vs12 8)
            simp only [e14] <;> rfl
          · exact I31
        · intro vs13 f w25 S15 le15 hF1 hK13 hI13
          have e15 : f 2 = (Value.slice z2 m2 k2) := (hK13 2 (keep_all rfl)).trans e6
          have e16 : f 3 = (Value.pointer (some ⟨g1, 0, none⟩)) := (hK13 3 (keep_all rfl)).trans e7
          have e17 : f 4 = (Value.pointer (some ⟨g2, 0, none⟩)) := (hK13 4 (keep_all rfl)).trans e8
          have e18 : f 9 = (Value.slice none 0 0) := (hK13 9 (keep_all rfl)).trans rfl
          have e19 : f 10 = (Value.bool (true)) := (hK13 10 (keep_all rfl)).trans rfl
          have I32 : Inv w25 S15 (Row (α := Int) 3 (vs13 2) (x5) :: Row (α := Int) 3 (vs13 5) (x5) :: Row (α := Int) 3 (vs13 8) (x5) :: Fr) := hI13
          have q19 : f 39 = (fieldPtr (Value.pointer (some ⟨g1, 0, none⟩)) 0) := ((hF1.1 _ rfl).1 _ rfl).trans (hF1.1 _ rfl).2
          have q20 : f 40 = (Value.int .i64 (a0.Sensors)) := ((hF1.2.1 _ rfl).1 _ rfl).trans (hF1.2.1 _ rfl).2
          obtain ⟨z10, m10, k10, e20⟩ := (hF1.2.2.1 _ rfl).2
          have q21 : f 41 = Value.slice z10 m10 k10 := ((hF1.2.2.1 _ rfl).1 _ rfl).trans e20
          have e20 : vs13 2 = (Value.slice z10 m10 k10) := e20
          have I33 := I32
          rw [e20] at I33
          have q22 : f 42 = (fieldPtr (Value.pointer (some ⟨g1, 0, none⟩)) 0) := ((hF1.2.2.2.1 _ rfl).1 _ rfl).trans (hF1.2.2.2.1 _ rfl).2
          have q23 : f 43 = (Value.int .i64 (a0.Sensors)) := ((hF1.2.2.2.2.1 _ rfl).1 _ rfl).trans (hF1.2.2.2.2.1 _ rfl).2
          obtain ⟨z11, m11, k11, e21⟩ := (hF1.2.2.2.2.2.1 _ rfl).2
          have q24 : f 44 = Value.slice z11 m11 k11 := ((hF1.2.2.2.2.2.1 _ rfl).1 _ rfl).trans e21
          have e21 : vs13 5 = (Value.slice z11 m11 k11) := e21
          have I34 := I33
          rw [e21] at I34
          have q25 : f 45 = (fieldPtr (Value.pointer (some ⟨g1, 0, none⟩)) 0) := ((hF1.2.2.2.2.2.2.1 _ rfl).1 _ rfl).trans (hF1.2.2.2.2.2.2.1 _ rfl).2
          have q26 : f 46 = (Value.int .i64 (a0.Sensors)) := ((hF1.2.2.2.2.2.2.2.1 _ rfl).1 _ rfl).trans (hF1.2.2.2.2.2.2.2.1 _ rfl).2
          obtain ⟨z12, m12, k12, e22⟩ := (hF1.2.2.2.2.2.2.2.2.1 _ rfl).2
          have q27 : f 47 = Value.slice z12 m12 k12 := ((hF1.2.2.2.2.2.2.2.2.1 _ rfl).1 _ rfl).trans e22
          have e22 : vs13 8 = (Value.slice z12 m12 k12) := e22
          have I35 := I34
          rw [e22] at I35
          have q28 : f 11 = (vs13 2) := ((hF1.2.2.2.2.2.2.2.2.2.1 _ rfl).1 _ rfl).trans (hF1.2.2.2.2.2.2.2.2.2.1 _ rfl).2
          simp only [e20] at q28
          have q28 : f 11 = (Value.slice z10 m10 k10) := q28
          have q29 : f 12 = (vs13 5) := ((hF1.2.2.2.2.2.2.2.2.2.2.1 _ rfl).1 _ rfl).trans (hF1.2.2.2.2.2.2.2.2.2.2.1 _ rfl).2
          simp only [e21] at q29
          have q29 : f 12 = (Value.slice z11 m11 k11) := q29
          have q30 : f 13 = (vs13 8) := ((hF1.2.2.2.2.2.2.2.2.2.2.2.1 _ rfl).1 _ rfl).trans (hF1.2.2.2.2.2.2.2.2.2.2.2.1 _ rfl).2
          simp only [e22] at q30
          have q30 : f 13 = (Value.slice z12 m12 k12) := q30
          refine wp_seq' ?_
          refine wp_seq' ?_
          refine wp_region' ?_
          refine wl_op rfl (op_load_int (v := (Value.pointer (some ⟨g2, 0, none⟩))) (e := a1) rfl sh3 e17 ((p2.mono le15).at_ I35) ?_)
          refine wl_op rfl (op_move (v := (Value.int .i64 (0))) rfl rfl ?_)
          refine wl_nil ?_
          obtain ⟨x267, hx267, h⟩ := bnd h
          have I1018 := Inv.rowNil (α := Control_tick) (T := 87) I35
          obtain ⟨out10, hrun10, h⟩ := bnd h
          refine wp_cutN (fun f w => ∃ (S_ : PH) (z214 : Option Addr) (m214 k214 : Nat), S15.Le S_ ∧ Inv w S_ (Row (α := Control_tick) 87 (Value.slice z214 m214 k214) (out10.1) :: Row (α := Int) 3 (Value.slice z10 m10 k10) (out10.2.2.1) :: Row (α := Int) 3 (Value.slice z11 m11 k11) (out10.2.2.2.1) :: Row (α := Int) 3 (Value.slice z12 m12 k12) (out10.2.2.2.2) :: Fr) ∧ f 2 = (Value.slice z2 m2 k2) ∧ f 3 = (Value.pointer (some ⟨g1, 0, none⟩)) ∧ f 9 = (Value.slice z214 m214 k214) ∧ f 10 = (Value.bool (out10.2.1)) ∧ f 11 = (Value.slice z10 m10 k10) ∧ f 12 = (Value.slice z11 m11 k11) ∧ f 13 = (Value.slice z12 m12 k12) ∧ f 48 = (Value.int .i64 (a1))) ?_ ?_
          · refine wp_block' ?_
            refine wp_forS (I := fun (i10 : Nat) (s10 : (List Control_tick × Bool × List Int × List Int × List Int)) (f : Frm) (w : World) => ∃ (S_ : PH) (z213 : Option Addr) (m213 k213 : Nat), S15.Le S_ ∧ Inv w S_ (Row (α := Control_tick) 87 (Value.slice z213 m213 k213) (s10.1) :: Row (α := Int) 3 (Value.slice z10 m10 k10) (s10.2.2.1) :: Row (α := Int) 3 (Value.slice z11 m11 k11) (s10.2.2.2.1) :: Row (α := Int) 3 (Value.slice z12 m12 k12) (s10.2.2.2.2) :: Fr) ∧ f 2 = (Value.slice z2 m2 k2) ∧ f 3 = (Value.pointer (some ⟨g1, 0, none⟩)) ∧ f 9 = (Value.slice z213 m213 k213) ∧ f 10 = (Value.bool (s10.2.1)) ∧ f 11 = (Value.slice z10 m10 k10) ∧ f 12 = (Value.slice z11 m11 k11) ∧ f 13 = (Value.slice z12 m12 k12) ∧ f 48 = (Value.int .i64 (a1)) ∧ f 49 = (Value.int .i64 (i10 : Int))) hrun10 ⟨_, _, _, _, (PH.Le.refl _), ((((I1018.pull 3).pull 3).pull 3).pull 3), e15, e16, e18, e19, q28, q29, q30, rfl, rfl⟩ ?_ ?_
            · rintro i10 s10 f w o10 hlt10 hI476 h94
              obtain ⟨S612, z213, m213, k213, le612, I1019, e2156, e2157, e2158, e2159, e2160, e2161, e2162, e2163, e2164⟩ := hI476
              refine wp_seq' ?_
              refine wp_region' ?_
              refine wl_op rfl (op_lss (a := (i10 : Int)) (b := a1) rfl e2164 e2163 ?_)
              refine wl_nil ?_
              refine wp_seq' ?_
              refine wp_cond_t (b := decide ((i10 : Int) < a1)) rfl (cnt_t hx267 hlt10) ?_
              refine wp_skip' ?_
              refine wp_seq' ?_
              refine wp_block' ?_
              refine wp_seq' ?_
              refine wp_region' ?_
              refine wl_op rfl (op_move (v := (Value.int .i64 ((i10 : Int)))) rfl e2164 ?_)
              refine wl_op rfl (op_assign (v := (Value.int .i64 ((i10 : Int)))) rfl rfl ?_)
              refine wl_nil ?_
              refine wp_seq' ?_
              refine wp_region' ?_
              refine wl_op rfl (op_fieldAddr_t (v := (Value.pointer (some ⟨g1, 0, none⟩))) rfl fa24_0 e2157 ((p1.mono ((le2.trans le15).trans le612)).at_ I1019) ?_)
              refine wl_op rfl (op_load_int (v := (fieldPtr (Value.pointer (some ⟨g1, 0, none⟩)) 0)) (e := a0.Sensors) rfl sh3 rfl (((p1.mono ((le2.trans le15).trans le612)).at_ I1019).fld Panel.fld0) ?_)
              obtain ⟨x268, hx268, h94⟩ := bnd h94
              refine wl_op rfl (op_makeSlice (c := a0.Sensors) rfl Try.underlying83 el4 (by decide) rfl rfl I1019 hx268 (fun u227 w779 I1020 => ?_))
              obtain ⟨z215, m215, k215, e2165⟩ := row_form I1020
              subst e2165
              refine wl_op rfl (op_assign (v := (Value.slice z215 m215 k215)) rfl rfl ?_)
              refine wl_nil ?_
              refine wp_seq' ?_
              obtain ⟨x269, hx269, h94⟩ := bnd h94
              obtain ⟨x270, hx270, h94⟩ := bnd h94
              refine wp_draw (sps := [⟨some 55, [], [0], fun vs_ T_ => fr0 vs_ 0 = (fieldPtr (Value.pointer (some ⟨g1, 0, none⟩)) 1), [], [], [], fun _ h_ => h_⟩, ⟨some 56, [0], [1], fun vs_ T_ => RV T_ (fr0 vs_ 0) a0.Doors, [], [], [], fun hle_ h_ => h_.mono hle_⟩, ⟨some 57, [0, 1], [2], fun vs_ T_ => fr0 vs_ 0 = (Value.int .i64 ((a0.Doors.length : Int))), [], [], [], fun _ h_ => h_⟩, ⟨some 58, [0, 1, 2], [3], fun vs_ T_ => ∃ a_ n_ k_, fr0 vs_ 0 = Value.slice a_ n_ k_, [], [], [0], fun _ h_ => h_⟩, ⟨some 59, [], [4], fun vs_ T_ => fr0 vs_ 0 = (fieldPtr (Value.pointer (some ⟨g1, 0, none⟩)) 1), [], [], [], fun _ h_ => h_⟩, ⟨some 60, [4], [5], fun vs_ T_ => RV T_ (fr0 vs_ 0) a0.Doors, [], [], [], fun hle_ h_ => h_.mono hle_⟩, ⟨some 61, [4, 5], [6], fun vs_ T_ => fr0 vs_ 0 = (Value.int .i64 ((a0.Doors.length : Int))), [], [], [], fun _ h_ => h_⟩, ⟨some 62, [4, 5, 6], [7], fun vs_ T_ => ∃ a_ n_ k_, fr0 vs_ 0 = Value.slice a_ n_ k_, [], [], [1], fun _ h_ => h_⟩, ⟨some 63, [], [8], fun vs_ T_ => fr0 vs_ 0 = (fieldPtr (Value.pointer (some ⟨g1, 0, none⟩)) 1), [], [], [], fun _ h_ => h_⟩, ⟨some 64, [8], [9], fun vs_ T_ => RV T_ (fr0 vs_ 0) a0.Doors, [], [], [], fun hle_ h_ => h_.mono hle_⟩, ⟨some 65, [8, 9], [10], fun vs_ T_ => fr0 vs_ 0 = (Value.int .i64 ((a0.Doors.length : Int))), [], [], [], fun _ h_ => h_⟩, ⟨some 66, [8, 9, 10], [11], fun vs_ T_ => ∃ a_ n_ k_, fr0 vs_ 0 = Value.slice a_ n_ k_, [], [], [2], fun _ h_ => h_⟩, ⟨some 67, [0, 1, 2, 3, 4, 5, 6, 7, 8, 9, 10, 11], [12, 3, 7, 11], fun vs_ T_ => fr0 vs_ 0 = (Value.agg #[(Value.bool (false)), (Value.slice none 0 0), (Value.slice none 0 0), (fr0 vs_ 1), (fr0 vs_ 2), (fr0 vs_ 3)]), [], [], [], fun _ h_ => h_⟩, ⟨some 16, [], [13], fun vs_ T_ => ∃ g_, fr0 vs_ 0 = Value.pointer (some ⟨g_, 0, none⟩), [], [], [3], fun _ h_ => h_⟩, ⟨none, [0, 1, 2, 3, 4, 5, 6, 7, 8, 9, 10, 11, 12, 13], [], fun vs_ T_ => True, [0, 1, 2], [3], [4], fun _ h_ => h_⟩]) (tks := [⟨some 3, none, [3], fun vs_ => Row (α := Int) 3 (fr0 vs_ 0) (x269)⟩, ⟨some 7, none, [7], fun vs_ => Row (α := Int) 3 (fr0 vs_ 0) (x269)⟩, ⟨some 11, none, [11], fun vs_ => Row (α := Bool) 4 (fr0 vs_ 0) (x270)⟩, ⟨some 13, some 14, [13], fun vs_ => Cells (ptrBlk (fr0 vs_ 0)) 87 #[(Value.bool (false)), (Value.slice none 0 0), (Value.slice none 0 0), (Value.slice none 0 0), (Value.slice none 0 0), (Value.slice none 0 0)]⟩, ⟨some 14, none, [3, 7, 11, 13], fun vs_ => Cells (ptrBlk (fr0 vs_ 3)) 87 #[(Value.bool (false)), (Value.slice none 0 0), (Value.slice none 0 0), (fr0 vs_ 0), (fr0 vs_ 1), (fr0 vs_ 2)]⟩]) (O := Row (α := Bool) 4 (Value.slice z215 m215 k215) (x268) :: Row (α := Control_tick) 87 (Value.slice z213 m213 k213) (s10.1) :: Row (α := Int) 3 (Value.slice z10 m10 k10) (s10.2.2.1) :: Row (α := Int) 3 (Value.slice z11 m11 k11) (s10.2.2.2.1) :: Row (α := Int) 3 (Value.slice z12 m12 k12) (s10.2.2.2.2) :: Fr) rfl (by kernel_rfl) I1020 ⟨?_, ?_, ?_, ?_, ?_, ?_, ?_, ?_, ?_, ?_, ?_, ?_, ?_, ?_, ?_, trivial⟩ ?_
              · intro vs458 f w785 S613 X418 le613 hA418 hK458 hI477
                have I1026 : Inv w785 S613 (X418) := hI477
                refine opg_plain rfl rfl (op_fieldAddr_t (v := (Value.pointer (some ⟨g1, 0, none⟩))) rfl fa24_1 ((hK458 3 (keep_of rfl)).trans e2157) ((p1.mono (((le2.trans le15).trans le612).trans le613)).at_ I1026) ?_)
                refine ⟨_, _, rfl, PH.Le.refl _, ?_, ?_⟩
                · exact rfl
                · exact I1026
              · intro vs459 f w786 S614 X419 le614 hA419 hK459 hI478
                have I1027 : Inv w786 S614 (X419) := hI478
                have q862 : f 55 = (fieldPtr (Value.pointer (some ⟨g1, 0, none⟩)) 1) := ((hA419.1 _ rfl).1 _ rfl).trans (hA419.1 _ rfl).2
                refine opg_plain rfl rfl (op_load (v := (fieldPtr (Value.pointer (some ⟨g1, 0, none⟩)) 1)) (e := a0.Doors) rfl sh22 q862 (((p1.mono (((le2.trans le15).trans le612).trans le614)).at_ I1027).fld Panel.fld1) (fun u234 hu194 => ?_))
                obtain ⟨z216, m216, k216, e2166⟩ := rv_form hu194
                subst e2166
                refine ⟨_, _, rfl, PH.Le.refl _, ?_, ?_⟩
                · exact hu194
                · exact I1027
              · intro vs460 f w787 S615 X420 le615 hA420 hK460 hI479
                have I1028 : Inv w787 S615 (X420) := hI479
                have q863 : f 55 = (fieldPtr (Value.pointer (some ⟨g1, 0, none⟩)) 1) := ((hA420.1 _ rfl).1 _ rfl).trans (hA420.1 _ rfl).2
                have q864 : f 56 = vs460 1 := (hA420.2.1 _ rfl).1 _ rfl
                have r441 : RV S615 (vs460 1) a0.Doors := (hA420.2.1 _ rfl).2
                obtain ⟨u235, hu195⟩ : ∃ u, vs460 1 = u := ⟨_, rfl⟩
                rw [hu195] at q864 r441
                obtain ⟨z217, m217, k217, e2167⟩ := rv_form r441
                subst e2167
                refine opg_plain rfl rfl (op_len_rv rfl Try.underlying22 q864 r441 ?_)
                refine ⟨_, _, rfl, PH.Le.refl _, ?_, ?_⟩
                · exact rfl
                · exact I1028
              · intro vs461 f w788 S616 X421 le616 hA421 hK461 hI480
                have I1029 : Inv w788 S616 (X421) := hI480
                have q865 : f 55 = (fieldPtr (Value.pointer (some ⟨g1, 0, none⟩)) 1) := ((hA421.1 _ rfl).1 _ rfl).trans (hA421.1 _ rfl).2
                have q866 : f 56 = vs461 1 := (hA421.2.1 _ rfl).1 _ rfl
                have r442 : RV S616 (vs461 1) a0.Doors := (hA421.2.1 _ rfl).2
                obtain ⟨u236, hu196⟩ : ∃ u, vs461 1 = u := ⟨_, rfl⟩
                rw [hu196] at q866 r442
                obtain ⟨z218, m218, k218, e2168⟩ := rv_form r442
                subst e2168
                have q867 : f 57 = (Value.int .i64 ((a0.Doors.length : Int))) := ((hA421.2.2.1 _ rfl).1 _ rfl).trans (hA421.2.2.1 _ rfl).2
                refine opg_plain rfl rfl (op_makeSlice (c := (a0.Doors.length : Int)) rfl Try.underlying34 el3 (by decide) q867 q867 I1029 hx269 (fun u237 w789 I1030 => ?_))
                obtain ⟨z219, m219, k219, e2169⟩ := row_form I1030
                subst e2169
                refine ⟨_, _, rfl, PH.Le.refl _, ?_, ?_⟩
                · exact ⟨_, _, _, rfl⟩
                · exact I1030
              · intro vs462 f w790 S617 X422 le617 hA422 hK462 hI481
                have I1031 : Inv w790 S617 (X422) := hI481
                refine opg_plain rfl rfl (op_fieldAddr_t (v := (Value.pointer (some ⟨g1, 0, none⟩))) rfl fa24_1 ((hK462 3 (keep_of rfl)).trans e2157) ((p1.mono (((le2.trans le15).trans le612).trans le617)).at_ I1031) ?_)
                refine ⟨_, _, rfl, PH.Le.refl _, ?_, ?_⟩
                · exact rfl
                · exact I1031
              · intro vs463 f w791 S618 X423 le618 hA423 hK463 hI482
                have I1032 : Inv w791 S618 (X423) := hI482
                have q868 : f 59 = (fieldPtr (Value.pointer (some ⟨g1, 0, none⟩)) 1) := ((hA423.1 _ rfl).1 _ rfl).trans (hA423.1 _ rfl).2
                refine opg_plain rfl rfl (op_load (v := (fieldPtr (Value.pointer (some ⟨g1, 0, none⟩)) 1)) (e := a0.Doors) rfl sh22 q868 (((p1.mono (((le2.trans le15).trans le612).trans le618)).at_ I1032).fld Panel.fld1) (fun u238 hu197 => ?_))
                obtain ⟨z220, m220, k220, e2170⟩ := rv_form hu197
                subst e2170
                refine ⟨_, _, rfl, PH.Le.refl _, ?_, ?_⟩
                · exact hu197
                · exact I1032
              · intro vs464 f w792 S619 X424 le619 hA424 hK464 hI483
                have I1033 : Inv w792 S619 (X424) := hI483
                have q869 : f 59 = (fieldPtr (Value.pointer (some ⟨g1, 0, none⟩)) 1) := ((hA424.1 _ rfl).1 _ rfl).trans (hA424.1 _ rfl).2
                have q870 : f 60 = vs464 5 := (hA424.2.1 _ rfl).1 _ rfl
                have r443 : RV S619 (vs464 5) a0.Doors := (hA424.2.1 _ rfl).2
                obtain ⟨u239, hu198⟩ : ∃ u, vs464 5 = u := ⟨_, rfl⟩
                rw [hu198] at q870 r443
                obtain ⟨z221, m221, k221, e2171⟩ := rv_form r443
                subst e2171
                refine opg_plain rfl rfl (op_len_rv rfl Try.underlying22 q870 r443 ?_)
                refine ⟨_, _, rfl, PH.Le.refl _, ?_, ?_⟩
                · exact rfl
                · exact I1033
              · intro vs465 f w793 S620 X425 le620 hA425 hK465 hI484
                have I1034 : Inv w793 S620 (X425) := hI484
                have q871 : f 59 = (fieldPtr (Value.pointer (some ⟨g1, 0, none⟩)) 1) := ((hA425.1 _ rfl).1 _ rfl).trans (hA425.1 _ rfl).2
                have q872 : f 60 = vs465 5 := (hA425.2.1 _ rfl).1 _ rfl
                have r444 : RV S620 (vs465 5) a0.Doors := (hA425.2.1 _ rfl).2
                obtain ⟨u240, hu199⟩ : ∃ u, vs465 5 = u := ⟨_, rfl⟩
                rw [hu199] at q872 r444
                obtain ⟨z222, m222, k222, e2172⟩ := rv_form r444
                subst e2172
                have q873 : f 61 = (Value.int .i64 ((a0.Doors.length : Int))) := ((hA425.2.2.1 _ rfl).1 _ rfl).trans (hA425.2.2.1 _ rfl).2
                refine opg_plain rfl rfl (op_makeSlice (c := (a0.Doors.length : Int)) rfl Try.underlying34 el3 (by decide) q873 q873 I1034 hx269 (fun u241 w794 I1035 => ?_))
                obtain ⟨z223, m223, k223, e2173⟩ := row_form I1035
                subst e2173
                refine ⟨_, _, rfl, PH.Le.refl _, ?_, ?_⟩
                · exact ⟨_, _, _, rfl⟩
                · exact I1035
              · intro vs466 f w795 S621 X426 le621 hA426 hK466 hI485
                have I1036 : Inv w795 S621 (X426) := hI485
                refine opg_plain rfl rfl (op_fieldAddr_t (v := (Value.pointer (some ⟨g1, 0, none⟩))) rfl fa24_1 ((hK466 3 (keep_of rfl)).trans e2157) ((p1.mono (((le2.trans le15).trans le612).trans le621)).at_ I1036) ?_)
                refine ⟨_, _, rfl, PH.Le.refl _, ?_, ?_⟩
                · exact rfl
                · exact I1036
              · intro vs467 f w796 S622 X427 le622 hA427 hK467 hI486
                have I1037 : Inv w796 S622 (X427) := hI486
                have q874 : f 63 = (fieldPtr (Value.pointer (some ⟨g1, 0, none⟩)) 1) := ((hA427.1 _ rfl).1 _ rfl).trans (hA427.1 _ rfl).2
                refine opg_plain rfl rfl (op_load (v := (fieldPtr (Value.pointer (some ⟨g1, 0, none⟩)) 1)) (e := a0.Doors) rfl sh22 q874 (((p1.mono (((le2.trans le15).trans le612).trans le622)).at_ I1037).fld Panel.fld1) (fun u242 hu200 => ?_))
                obtain ⟨z224, m224, k224, e2174⟩ := rv_form hu200
                subst e2174
                refine ⟨_, _, rfl, PH.Le.refl _, ?_, ?_⟩
                · exact hu200
                · exact I1037
              · intro vs468 f w797 S623 X428 le623 hA428 hK468 hI487
                have I1038 : Inv w797 S623 (X428) := hI487
                have q875 : f 63 = (fieldPtr (Value.pointer (some ⟨g1, 0, none⟩)) 1) := ((hA428.1 _ rfl).1 _ rfl).trans (hA428.1 _ rfl).2
                have q876 : f 64 = vs468 9 := (hA428.2.1 _ rfl).1 _ rfl
                have r445 : RV S623 (vs468 9) a0.Doors := (hA428.2.1 _ rfl).2
                obtain ⟨u243, hu201⟩ : ∃ u, vs468 9 = u := ⟨_, rfl⟩
                rw [hu201] at q876 r445
                obtain ⟨z225, m225, k225, e2175⟩ := rv_form r445
                subst e2175
                refine opg_plain rfl rfl (op_len_rv rfl Try.underlying22 q876 r445 ?_)
                refine ⟨_, _, rfl, PH.Le.refl _, ?_, ?_⟩
                · exact rfl
                · exact I1038
              · intro vs469 f w798 S624 X429 le624 hA429 hK469 hI488
                have I1039 : Inv w798 S624 (X429) := hI488
                have q877 : f 63 = (fieldPtr (Value.pointer (some ⟨g1, 0, none⟩)) 1) := ((hA429.1 _ rfl).1 _ rfl).trans (hA429.1 _ rfl).2
                have q878 : f 64 = vs469 9 := (hA429.2.1 _ rfl).1 _ rfl
                have r446 : RV S624 (vs469 9) a0.Doors := (hA429.2.1 _ rfl).2
                obtain ⟨u244, hu202⟩ : ∃ u, vs469 9 = u := ⟨_, rfl⟩
                rw [hu202] at q878 r446
                obtain ⟨z226, m226, k226, e2176⟩ := rv_form r446
                subst e2176
                have q879 : f 65 = (Value.int .i64 ((a0.Doors.length : Int))) := ((hA429.2.2.1 _ rfl).1 _ rfl).trans (hA429.2.2.1 _ rfl).2
                refine opg_plain rfl rfl (op_makeSlice (c := (a0.Doors.length : Int)) rfl Try.underlying83 el4 (by decide) q879 q879 I1039 hx270 (fun u245 w799 I1040 => ?_))
                obtain ⟨z227, m227, k227, e2177⟩ := row_form I1040
                subst e2177
                refine ⟨_, _, rfl, PH.Le.refl _, ?_, ?_⟩
                · exact ⟨_, _, _, rfl⟩
                · exact I1040
              · intro vs470 f w800 S625 X430 le625 hA430 hK470 hI489
                have I1041 : Inv w800 S625 (X430) := hI489
                have q880 : f 55 = (fieldPtr (Value.pointer (some ⟨g1, 0, none⟩)) 1) := ((hA430.1 _ rfl).1 _ rfl).trans (hA430.1 _ rfl).2
                have q881 : f 56 = vs470 1 := (hA430.2.1 _ rfl).1 _ rfl
                have r447 : RV S625 (vs470 1) a0.Doors := (hA430.2.1 _ rfl).2
                obtain ⟨u246, hu203⟩ : ∃ u, vs470 1 = u := ⟨_, rfl⟩
                rw [hu203] at q881 r447
                obtain ⟨z228, m228, k228, e2178⟩ := rv_form r447
                subst e2178
                have q882 : f 57 = (Value.int .i64 ((a0.Doors.length : Int))) := ((hA430.2.2.1 _ rfl).1 _ rfl).trans (hA430.2.2.1 _ rfl).2
                obtain ⟨z229, m229, k229, e2179⟩ := (hA430.2.2.2.1 _ rfl).2
                have q883 : f 58 = Value.slice z229 m229 k229 := ((hA430.2.2.2.1 _ rfl).1 _ rfl).trans e2179
                have e2179 : vs470 3 = (Value.slice z229 m229 k229) := e2179
                have q884 : f 59 = (fieldPtr (Value.pointer (some ⟨g1, 0, none⟩)) 1) := ((hA430.2.2.2.2.1 _ rfl).1 _ rfl).trans (hA430.2.2.2.2.1 _ rfl).2
                have q885 : f 60 = vs470 5 := (hA430.2.2.2.2.2.1 _ rfl).1 _ rfl
                have r448 : RV S625 (vs470 5) a0.Doors := (hA430.2.2.2.2.2.1 _ rfl).2
                obtain ⟨u247, hu204⟩ : ∃ u, vs470 5 = u := ⟨_, rfl⟩
                rw [hu204] at q885 r448
                obtain ⟨z230, m230, k230, e2180⟩ := rv_form r448
                subst e2180
                have q886 : f 61 = (Value.int .i64 ((a0.Doors.length : Int))) := ((hA430.2.2.2.2.2.2.1 _ rfl).1 _ rfl).trans (hA430.2.2.2.2.2.2.1 _ rfl).2
                obtain ⟨z231, m231, k231, e2181⟩ := (hA430.2.2.2.2.2.2.2.1 _ rfl).2
                have q887 : f 62 = Value.slice z231 m231 k231 := ((hA430.2.2.2.2.2.2.2.1 _ rfl).1 _ rfl).trans e2181
                have e2181 : vs470 7 = (Value.slice z231 m231 k231) := e2181
                have q888 : f 63 = (fieldPtr (Value.pointer (some ⟨g1, 0, none⟩)) 1) := ((hA430.2.2.2.2.2.2.2.2.1 _ rfl).1 _ rfl).trans (hA430.2.2.2.2.2.2.2.2.1 _ rfl).2
                have q889 : f 64 = vs470 9 := (hA430.2.2.2.2.2.2.2.2.2.1 _ rfl).1 _ rfl
                have r449 : RV S625 (vs470 9) a0.Doors := (hA430.2.2.2.2.2.2.2.2.2.1 _ rfl).2
                obtain ⟨u248, hu205⟩ : ∃ u, vs470 9 = u := ⟨_, rfl⟩
                rw [hu205] at q889 r449
                obtain ⟨z232, m232, k232, e2182⟩ := rv_form r449
                subst e2182
                have q890 : f 65 = (Value.int .i64 ((a0.Doors.length : Int))) := ((hA430.2.2.2.2.2.2.2.2.2.2.1 _ rfl).1 _ rfl).trans (hA430.2.2.2.2.2.2.2.2.2.2.1 _ rfl).2
                obtain ⟨z233, m233, k233, e2183⟩ := (hA430.2.2.2.2.2.2.2.2.2.2.2.1 _ rfl).2
                have q891 : f 66 = Value.slice z233 m233 k233 := ((hA430.2.2.2.2.2.2.2.2.2.2.2.1 _ rfl).1 _ rfl).trans e2183
                have e2183 : vs470 11 = (Value.slice z233 m233 k233) := e2183
                refine opg_plain rfl rfl (op_build (qs := [(3, #[(Value.slice z229 m229 k229)]), (4, #[(Value.slice z231 m231 k231)]), (5, #[(Value.slice z233 m233 k233)])]) (c := #[(Value.bool (false)), (Value.slice none 0 0), (Value.slice none 0 0), (Value.slice z229 m229 k229), (Value.slice z231 m231 k231), (Value.slice z233 m233 k233)]) rfl st87 ⟨rfl, (cells_of q883 rfl), ⟨rfl, (cells_of q887 rfl), ⟨rfl, (cells_of q891 rfl), trivial⟩⟩⟩ rfl ?_)
                refine ⟨_, _, rfl, PH.Le.refl _, ?_, ?_⟩
                · show (Value.agg #[(Value.bool (false)), (Value.slice none 0 0), (Value.slice none 0 0), (Value.slice z229 m229 k229), (Value.slice z231 m231 k231), (Value.slice z233 m233 k233)]) = (Value.agg #[(Value.bool (false)), (Value.slice none 0 0), (Value.slice none 0 0), (vs470 3), (vs470 7), (vs470 11)])
                  simp only [e2179, e2181, e2183] <;> rfl
                · exact I1041
              · intro vs471 f w801 S626 X431 le626 hA431 hK471 hI490
                have I1042 : Inv w801 S626 (X431) := hI490
                refine opg_plain rfl rfl (op_alloc (z := (Value.agg #[(Value.bool (false)), (Value.slice none 0 0), (Value.slice none 0 0), (Value.slice none 0 0), (Value.slice none 0 0), (Value.slice none 0 0)])) rfl I1042 zo87 (fun g36 w802 (I1043 : Inv w802 S626 (Cells g36 87 #[(Value.bool (false)), (Value.slice none 0 0), (Value.slice none 0 0), (Value.slice none 0 0), (Value.slice none 0 0), (Value.slice none 0 0)] :: X431)) => ?_))
                refine ⟨_, _, rfl, PH.Le.refl _, ?_, ?_⟩
                · exact ⟨_, rfl⟩
                · exact I1043
              · intro vs472 f w803 S627 X432 le627 hA432 hK472 hI491
                have I1044 : Inv w803 S627 (Cells (ptrBlk (vs472 13)) 87 #[(Value.bool (false)), (Value.slice none 0 0), (Value.slice none 0 0), (Value.slice none 0 0), (Value.slice none 0 0), (Value.slice none 0 0)] :: Row (α := Int) 3 (vs472 3) (x269) :: Row (α := Int) 3 (vs472 7) (x269) :: Row (α := Bool) 4 (vs472 11) (x270) :: X432) := hI491
                have q892 : f 55 = (fieldPtr (Value.pointer (some ⟨g1, 0, none⟩)) 1) := ((hA432.1 _ rfl).1 _ rfl).trans (hA432.1 _ rfl).2
                have q893 : f 56 = vs472 1 := (hA432.2.1 _ rfl).1 _ rfl
                have r450 : RV S627 (vs472 1) a0.Doors := (hA432.2.1 _ rfl).2
                obtain ⟨u249, hu206⟩ : ∃ u, vs472 1 = u := ⟨_, rfl⟩
                rw [hu206] at q893 r450
                obtain ⟨z234, m234, k234, e2184⟩ := rv_form r450
                subst e2184
                have q894 : f 57 = (Value.int .i64 ((a0.Doors.length : Int))) := ((hA432.2.2.1 _ rfl).1 _ rfl).trans (hA432.2.2.1 _ rfl).2
                obtain ⟨z235, m235, k235, e2185⟩ := (hA432.2.2.2.1 _ rfl).2
                have q895 : f 58 = Value.slice z235 m235 k235 := ((hA432.2.2.2.1 _ rfl).1 _ rfl).trans e2185
                have e2185 : vs472 3 = (Value.slice z235 m235 k235) := e2185
                have I1045 := I1044
                rw [e2185] at I1045
                have q896 : f 59 = (fieldPtr (Value.pointer (some ⟨g1, 0, none⟩)) 1) := ((hA432.2.2.2.2.1 _ rfl).1 _ rfl).trans (hA432.2.2.2.2.1 _ rfl).2
                have q897 : f 60 = vs472 5 := (hA432.2.2.2.2.2.1 _ rfl).1 _ rfl
                have r451 : RV S627 (vs472 5) a0.Doors := (hA432.2.2.2.2.2.1 _ rfl).2
                obtain ⟨u250, hu207⟩ : ∃ u, vs472 5 = u := ⟨_, rfl⟩
                rw [hu207] at q897 r451
                obtain ⟨z236, m236, k236, e2186⟩ := rv_form r451
                subst e2186
                have q898 : f 61 = (Value.int .i64 ((a0.Doors.length : Int))) := ((hA432.2.2.2.2.2.2.1 _ rfl).1 _ rfl).trans (hA432.2.2.2.2.2.2.1 _ rfl).2
                obtain ⟨z237, m237, k237, e2187⟩ := (hA432.2.2.2.2.2.2.2.1 _ rfl).2
                have q899 : f 62 = Value.slice z237 m237 k237 := ((hA432.2.2.2.2.2.2.2.1 _ rfl).1 _ rfl).trans e2187
                have e2187 : vs472 7 = (Value.slice z237 m237 k237) := e2187
                have I1046 := I1045
                rw [e2187] at I1046
                have q900 : f 63 = (fieldPtr (Value.pointer (some ⟨g1, 0, none⟩)) 1) := ((hA432.2.2.2.2.2.2.2.2.1 _ rfl).1 _ rfl).trans (hA432.2.2.2.2.2.2.2.2.1 _ rfl).2
                have q901 : f 64 = vs472 9 := (hA432.2.2.2.2.2.2.2.2.2.1 _ rfl).1 _ rfl
                have r452 : RV S627 (vs472 9) a0.Doors := (hA432.2.2.2.2.2.2.2.2.2.1 _ rfl).2
                obtain ⟨u251, hu208⟩ : ∃ u, vs472 9 = u := ⟨_, rfl⟩
                rw [hu208] at q901 r452
                obtain ⟨z238, m238, k238, e2188⟩ := rv_form r452
                subst e2188
                have q902 : f 65 = (Value.int .i64 ((a0.Doors.length : Int))) := ((hA432.2.2.2.2.2.2.2.2.2.2.1 _ rfl).1 _ rfl).trans (hA432.2.2.2.2.2.2.2.2.2.2.1 _ rfl).2
                obtain ⟨z239, m239, k239, e2189⟩ := (hA432.2.2.2.2.2.2.2.2.2.2.2.1 _ rfl).2
                have q903 : f 66 = Value.slice z239 m239 k239 := ((hA432.2.2.2.2.2.2.2.2.2.2.2.1 _ rfl).1 _ rfl).trans e2189
                have e2189 : vs472 11 = (Value.slice z239 m239 k239) := e2189
                have I1047 := I1046
                rw [e2189] at I1047
                have q904 : f 67 = (Value.agg #[(Value.bool (false)), (Value.slice none 0 0), (Value.slice none 0 0), (vs472 3), (vs472 7), (vs472 11)]) := ((hA432.2.2.2.2.2.2.2.2.2.2.2.2.1 _ rfl).1 _ rfl).trans (hA432.2.2.2.2.2.2.2.2.2.2.2.2.1 _ rfl).2
                simp only [e2185, e2187, e2189] at q904
                have q904 : f 67 = (Value.agg #[(Value.bool (false)), (Value.slice none 0 0), (Value.slice none 0 0), (Value.slice z235 m235 k235), (Value.slice z237 m237 k237), (Value.slice z239 m239 k239)]) := q904
                obtain ⟨g37, e2190⟩ := (hA432.2.2.2.2.2.2.2.2.2.2.2.2.2.1 _ rfl).2
                have q905 : f 16 = Value.pointer (some ⟨g37, 0, none⟩) := ((hA432.2.2.2.2.2.2.2.2.2.2.2.2.2.1 _ rfl).1 _ rfl).trans e2190
                have e2190 : vs472 13 = Value.pointer (some ⟨g37, 0, none⟩) := e2190
                have I1048 := I1047
                rw [e2190] at I1048
                refine opg_plain rfl rfl (op_store (v := (Value.agg #[(Value.bool (false)), (Value.slice none 0 0), (Value.slice none 0 0), (Value.slice z235 m235 k235), (Value.slice z237 m237 k237), (Value.slice z239 m239 k239)])) (cs := #[(Value.bool (false)), (Value.slice none 0 0), (Value.slice none 0 0), (Value.slice none 0 0), (Value.slice none 0 0), (Value.slice none 0 0)]) sh87 I1048 q905 q904 rfl (Nat.le_of_ble_eq_true rfl) rfl (fun w804 (I1049 : Inv w804 S627 (Cells (ptrBlk (Value.pointer (some ⟨g37, 0, none⟩))) 87 #[(Value.bool (false)), (Value.slice none 0 0), (Value.slice none 0 0), (Value.slice z235 m235 k235), (Value.slice z237 m237 k237), (Value.slice z239 m239 k239)] :: Row (α := Int) 3 (Value.slice z235 m235 k235) (x269) :: Row (α := Int) 3 (Value.slice z237 m237 k237) (x269) :: Row (α := Bool) 4 (Value.slice z239 m239 k239) (x270) :: X432)) => ?_))
                refine ⟨undef, _, rfl, PH.Le.refl _, ?_, ?_⟩
                · exact trivial
                · show Inv _ _ (Cells (ptrBlk (vs472 13)) 87 #[(Value.bool (false)), (Value.slice none 0 0), (Value.slice none 0 0), (vs472 3), (vs472 7), (vs472 11)] :: Row (α := Int) 3 (vs472 3) (x269) :: Row (α := Int) 3 (vs472 7) (x269) :: Row (α := Bool) 4 (vs472 11) (x270) :: X432)
                  simp only [e2185, e2187, e2189, e2190]
                  exact ((((I1049.pull 3).pull 3).pull 3).pull 3)
              · intro vs473 f w805 S628 le628 hF41 hK473 hI492
                have e2191 : f 2 = (Value.slice z2 m2 k2) := (hK473 2 (keep_all rfl)).trans e2156
                have e2192 : f 3 = (Value.pointer (some ⟨g1, 0, none⟩)) := (hK473 3 (keep_all rfl)).trans e2157
                have e2193 : f 9 = (Value.slice z213 m213 k213) := (hK473 9 (keep_all rfl)).trans e2158
                have e2194 : f 10 = (Value.bool (s10.2.1)) := (hK473 10 (keep_all rfl)).trans e2159
                have e2195 : f 11 = (Value.slice z10 m10 k10) := (hK473 11 (keep_all rfl)).trans e2160
                have e2196 : f 12 = (Value.slice z11 m11 k11) := (hK473 12 (keep_all rfl)).trans e2161
                have e2197 : f 13 = (Value.slice z12 m12 k12) := (hK473 13 (keep_all rfl)).trans e2162
                have e2198 : f 14 = (Value.int .i64 ((i10 : Int))) := (hK473 14 (keep_all rfl)).trans rfl
                have e2199 : f 15 = (Value.slice z215 m215 k215) := (hK473 15 (keep_all rfl)).trans rfl
                have e2200 : f 48 = (Value.int .i64 (a1)) := (hK473 48 (keep_all rfl)).trans e2163
                have e2201 : f 49 = (Value.int .i64 ((i10 : Int))) := (hK473 49 (keep_all rfl)).trans e2164
                have I1050 : Inv w805 S628 (Row (α := Int) 3 (vs473 3) (x269) :: Row (α := Int) 3 (vs473 7) (x269) :: Row (α := Bool) 4 (vs473 11) (x270) :: Cells (ptrBlk (vs473 13)) 87 #[(Value.bool (false)), (Value.slice none 0 0), (Value.slice none 0 0), (vs473 3), (vs473 7), (vs473 11)] :: Row (α := Bool) 4 (Value.slice z215 m215 k215) (x268) :: Row (α := Control_tick) 87 (Value.slice z213 m213 k213) (s10.1) :: Row (α := Int) 3 (Value.slice z10 m10 k10) (s10.2.2.1) :: Row (α := Int) 3 (Value.slice z11 m11 k11) (s10.2.2.2.1) :: Row (α := Int) 3 (Value.slice z12 m12 k12) (s10.2.2.2.2) :: Fr) := hI492
                have q906 : f 55 = (fieldPtr (Value.pointer (some ⟨g1, 0, none⟩)) 1) := ((hF41.1 _ rfl).1 _ rfl).trans (hF41.1 _ rfl).2
                have q907 : f 56 = vs473 1 := (hF41.2.1 _ rfl).1 _ rfl
                have r453 : RV S628 (vs473 1) a0.Doors := (hF41.2.1 _ rfl).2
                obtain ⟨u252, hu209⟩ : ∃ u, vs473 1 = u := ⟨_, rfl⟩
                rw [hu209] at q907 r453
                obtain ⟨z240, m240, k240, e2202⟩ := rv_form r453
                subst e2202
                have q908 : f 57 = (Value.int .i64 ((a0.Doors.length : Int))) := ((hF41.2.2.1 _ rfl).1 _ rfl).trans (hF41.2.2.1 _ rfl).2
                obtain ⟨z241, m241, k241, e2203⟩ := (hF41.2.2.2.1 _ rfl).2
                have q909 : f 58 = Value.slice z241 m241 k241 := ((hF41.2.2.2.1 _ rfl).1 _ rfl).trans e2203
                have e2203 : vs473 3 = (Value.slice z241 m241 k241) := e2203
                have I1051 := I1050
                rw [e2203] at I1051
                have q910 : f 59 = (fieldPtr (Value.pointer (some ⟨g1, 0, none⟩)) 1) := ((hF41.2.2.2.2.1 _ rfl).1 _ rfl).trans (hF41.2.2.2.2.1 _ rfl).2
                have q911 : f 60 = vs473 5 := (hF41.2.2.2.2.2.1 _ rfl).1 _ rfl
                have r454 : RV S628 (vs473 5) a0.Doors := (hF41.2.2.2.2.2.1 _ rfl).2
                obtain ⟨u253, hu210⟩ : ∃ u, vs473 5 = u := ⟨_, rfl⟩
                rw [hu210] at q911 r454
                obtain ⟨z242, m242, k242, e2204⟩ := rv_form r454
                subst e2204
                have q912 : f 61 = (Value.int .i64 ((a0.Doors.length : Int))) := ((hF41.2.2.2.2.2.2.1 _ rfl).1 _ rfl).trans (hF41.2.2.2.2.2.2.1 _ rfl).2
                obtain ⟨z243, m243, k243, e2205⟩ := (hF41.2.2.2.2.2.2.2.1 _ rfl).2
                have q913 : f 62 = Value.slice z243 m243 k243 := ((hF41.2.2.2.2.2.2.2.1 _ rfl).1 _ rfl).trans e2205
                have e2205 : vs473 7 = (Value.slice z243 m243 k243) := e2205
                have I1052 := I1051
                rw [e2205] at I1052
                have q914 : f 63 = (fieldPtr (Value.pointer (some ⟨g1, 0, none⟩)) 1) := ((hF41.2.2.2.2.2.2.2.2.1 _ rfl).1 _ rfl).trans (hF41.2.2.2.2.2.2.2.2.1 _ rfl).2
                have q915 : f 64 = vs473 9 := (hF41.2.2.2.2.2.2.2.2.2.1 _ rfl).1 _ rfl
                have r455 : RV S628 (vs473 9) a0.Doors := (hF41.2.2.2.2.2.2.2.2.2.1 _ rfl).2
                obtain ⟨u254, hu211⟩ : ∃ u, vs473 9 = u := ⟨_, rfl⟩
                rw [hu211] at q915 r455
                obtain ⟨z244, m244, k244, e2206⟩ := rv_form r455
                subst e2206
                have q916 : f 65 = (Value.int .i64 ((a0.Doors.length : Int))) := ((hF41.2.2.2.2.2.2.2.2.2.2.1 _ rfl).1 _ rfl).trans (hF41.2.2.2.2.2.2.2.2.2.2.1 _ rfl).2
                obtain ⟨z245, m245, k245, e2207⟩ := (hF41.2.2.2.2.2.2.2.2.2.2.2.1 _ rfl).2
                have q917 : f 66 = Value.slice z245 m245 k245 := ((hF41.2.2.2.2.2.2.2.2.2.2.2.1 _ rfl).1 _ rfl).trans e2207
                have e2207 : vs473 11 = (Value.slice z245 m245 k245) := e2207
                have I1053 := I1052
                rw [e2207] at I1053
                obtain ⟨g38, e2208⟩ := (hF41.2.2.2.2.2.2.2.2.2.2.2.2.2.1 _ rfl).2
                have q918 : f 16 = Value.pointer (some ⟨g38, 0, none⟩) := ((hF41.2.2.2.2.2.2.2.2.2.2.2.2.2.1 _ rfl).1 _ rfl).trans e2208
                have e2208 : vs473 13 = Value.pointer (some ⟨g38, 0, none⟩) := e2208
                have I1054 := I1053
                rw [e2208] at I1054
                refine wp_seq' ?_
                refine wp_region' ?_
                refine wl_op rfl (op_fieldAddr_t (v := (Value.pointer (some ⟨g1, 0, none⟩))) rfl fa24_1 e2192 ((p1.mono (((le2.trans le15).trans le612).trans le628)).at_ I1054) ?_)
                refine wl_op rfl (op_load (v := (fieldPtr (Value.pointer (some ⟨g1, 0, none⟩)) 1)) (e := a0.Doors) rfl sh22 rfl (((p1.mono (((le2.trans le15).trans le612).trans le628)).at_ I1054).fld Panel.fld1) (fun u255 hu212 => ?_))
                obtain ⟨z246, m246, k246, e2209⟩ := rv_form hu212
                subst e2209
                refine wl_op rfl (op_len_rv rfl Try.underlying22 rfl hu212 ?_)
                obtain ⟨x271, hx271, h94⟩ := bnd h94
                refine wl_op rfl (op_makeSlice (c := (a0.Doors.length : Int)) rfl Try.underlying83 el4 (by decide) rfl rfl I1054 hx271 (fun u256 w806 I1055 => ?_))
                obtain ⟨z247, m247, k247, e2210⟩ := row_form I1055
                subst e2210
                refine wl_op rfl (op_assign (v := (Value.slice z247 m247 k247)) rfl rfl ?_)
                refine wl_nil ?_
                refine wp_seq' ?_
                refine wp_seq' ?_
                refine wp_region' ?_
                refine wl_op rfl (op_move (v := (Value.slice z2 m2 k2)) rfl e2191 ?_)
                refine wl_op rfl (op_len_rv rfl Try.underlying25 rfl (h2_.mono ((((le1.trans le2).trans le15).trans le612).trans le628)) ?_)
                refine wl_op rfl (op_move (v := (Value.int .i64 (0))) rfl rfl ?_)
                refine wl_nil ?_
                have hk10 : a2.length ≤ 9223372036854775807 := (rv_len h2_)
                obtain ⟨out11, hrun11, h94⟩ := bnd h94
                refine wp_cutN (fun f w => Inv w S628 (Row (α := Control_tick) 87 (Value.slice z213 m213 k213) (s10.1) :: Row (α := Int) 3 (Value.slice z10 m10 k10) (out11.2.1) :: Row (α := Int) 3 (Value.slice z11 m11 k11) (s10.2.2.2.1) :: Row (α := Int) 3 (Value.slice z12 m12 k12) (s10.2.2.2.2) :: Row (α := Bool) 4 (Value.slice z215 m215 k215) (out11.2.2.1) :: Cells (ptrBlk (Value.pointer (some ⟨g38, 0, none⟩))) 87 #[(Value.bool (false)), (Value.slice none 0 0), (Value.slice none 0 0), (Value.slice z241 m241 k241), (Value.slice z243 m243 k243), (Value.slice z245 m245 k245)] :: Row (α := Int) 3 (Value.slice z241 m241 k241) (x269) :: Row (α := Int) 3 (Value.slice z243 m243 k243) (x269) :: Row (α := Bool) 4 (Value.slice z245 m245 k245) (out11.2.2.2.1) :: Row (α := Bool) 4 (Value.slice z247 m247 k247) (out11.2.2.2.2) :: Fr) ∧ f 2 = (Value.slice z2 m2 k2) ∧ f 3 = (Value.pointer (some ⟨g1, 0, none⟩)) ∧ f 9 = (Value.slice z213 m213 k213) ∧ f 10 = (Value.bool (out11.1)) ∧ f 11 = (Value.slice z10 m10 k10) ∧ f 12 = (Value.slice z11 m11 k11) ∧ f 13 = (Value.slice z12 m12 k12) ∧ f 14 = (Value.int .i64 ((i10 : Int))) ∧ f 15 = (Value.slice z215 m215 k215) ∧ f 16 = (Value.pointer (some ⟨g38, 0, none⟩)) ∧ f 17 = (Value.slice z247 m247 k247) ∧ f 48 = (Value.int .i64 (a1)) ∧ f 49 = (Value.int .i64 ((i10 : Int))) ∧ f 72 = (Value.slice z2 m2 k2) ∧ f 73 = (Value.int .i64 ((a2.length : Int)))) ?_ ?_
                · refine wp_block' ?_
                  refine wp_forS (I := fun (i11 : Nat) (s11 : (Bool × List Int × List Bool × List Bool × List Bool)) (f : Frm) (w : World) => Inv w S628 (Row (α := Control_tick) 87 (Value.slice z213 m213 k213) (s10.1) :: Row (α := Int) 3 (Value.slice z10 m10 k10) (s11.2.1) :: Row (α := Int) 3 (Value.slice z11 m11 k11) (s10.2.2.2.1) :: Row (α := Int) 3 (Value.slice z12 m12 k12) (s10.2.2.2.2) :: Row (α := Bool) 4 (Value.slice z215 m215 k215) (s11.2.2.1) :: Cells (ptrBlk (Value.pointer (some ⟨g38, 0, none⟩))) 87 #[(Value.bool (false)), (Value.slice none 0 0), (Value.slice none 0 0), (Value.slice z241 m241 k241), (Value.slice z243 m243 k243), (Value.slice z245 m245 k245)] :: Row (α := Int) 3 (Value.slice z241 m241 k241) (x269) :: Row (α := Int) 3 (Value.slice z243 m243 k243) (x269) :: Row (α := Bool) 4 (Value.slice z245 m245 k245) (s11.2.2.2.1) :: Row (α := Bool) 4 (Value.slice z247 m247 k247) (s11.2.2.2.2) :: Fr) ∧ f 2 = (Value.slice z2 m2 k2) ∧ f 3 = (Value.pointer (some ⟨g1, 0, none⟩)) ∧ f 9 = (Value.slice z213 m213 k213) ∧ f 10 = (Value.bool (s11.1)) ∧ f 11 = (Value.slice z10 m10 k10) ∧ f 12 = (Value.slice z11 m11 k11) ∧ f 13 = (Value.slice z12 m12 k12) ∧ f 14 = (Value.int .i64 ((i10 : Int))) ∧ f 15 = (Value.slice z215 m215 k215) ∧ f 16 = (Value.pointer (some ⟨g38, 0, none⟩)) ∧ f 17 = (Value.slice z247 m247 k247) ∧ f 48 = (Value.int .i64 (a1)) ∧ f 49 = (Value.int .i64 ((i10 : Int))) ∧ f 72 = (Value.slice z2 m2 k2) ∧ f 73 = (Value.int .i64 ((a2.length : Int))) ∧ f 74 = (Value.int .i64 (i11 : Int))) hrun11 ⟨(((((((((I1055.pull 3).pull 3).pull 3).pull 4).pull 5).pull 9).pull 9).pull 9).pull 9), e2191, e2192, e2193, e2194, e2195, e2196, e2197, e2198, e2199, q918, rfl, e2200, e2201, rfl, rfl, rfl⟩ ?_ ?_
                  · rintro i11 s11 f w o11 hlt11 hI493 h96
                    obtain ⟨I1077, e2262, e2263, e2264, e2265, e2266, e2267, e2268, e2269, e2270, e2271, e2272, e2273, e2274, e2275, e2276, e2277⟩ := hI493
                    refine wp_seq' ?_
                    refine wp_region' ?_
                    refine wl_op rfl (op_lss (a := (i11 : Int)) (b := (a2.length : Int)) rfl e2277 e2276 ?_)
                    refine wl_nil ?_
                    refine wp_seq' ?_
                    refine wp_cond_t (b := decide ((i11 : Int) < (a2.length : Int))) rfl (len_t hlt11) ?_
                    refine wp_skip' ?_
                    refine wp_seq' ?_
                    refine wp_block' ?_
                    refine wp_seq' ?_
                    refine wp_region' ?_
                    obtain ⟨x287, hx287, h96⟩ := bnd h96
                    refine wl_op rfl (op_indexAddr_rv (v := (Value.slice z2 m2 k2)) (i := (i11 : Int)) (e := x287) rfl Try.underlying25 sh46 e2275 (h2_.mono ((((le1.trans le2).trans le15).trans le612).trans le628)) e2277 hx287 ?_)
                    refine wl_op rfl (op_load (v := (elemPtr (Value.slice z2 m2 k2) ((i11 : Int)) (Enc.sz Signal))) (e := x287) rfl sh46 rfl ((h2_.mono ((((le1.trans le2).trans le15).trans le612).trans le628)).elem I1077.in_ hx287) (fun u260 hu216 => ?_))
                    have e2278 := Signal.inv hu216
                    subst e2278
                    refine wl_op rfl (op_alloc (z := (Value.agg #[(Value.int .i64 (0)), (Value.int .i64 (0)), (Value.int .i64 (0)), (Value.int .i64 (0))])) rfl I1077 zo46 (fun g42 w825 (I1078 : Inv w825 S628 (Cells g42 46 #[(Value.int .i64 (0)), (Value.int .i64 (0)), (Value.int .i64 (0)), (Value.int .i64 (0))] :: Row (α := Control_tick) 87 (Value.slice z213 m213 k213) (s10.1) :: Row (α := Int) 3 (Value.slice z10 m10 k10) (s11.2.1) :: Row (α := Int) 3 (Value.slice z11 m11 k11) (s10.2.2.2.1) :: Row (α := Int) 3 (Value.slice z12 m12 k12) (s10.2.2.2.2) :: Row (α := Bool) 4 (Value.slice z215 m215 k215) (s11.2.2.1) :: Cells (ptrBlk (Value.pointer (some ⟨g38, 0, none⟩))) 87 #[(Value.bool (false)), (Value.slice none 0 0), (Value.slice none 0 0), (Value.slice z241 m241 k241), (Value.slice z243 m243 k243), (Value.slice z245 m245 k245)] :: Row (α := Int) 3 (Value.slice z241 m241 k241) (x269) :: Row (α := Int) 3 (Value.slice z243 m243 k243) (x269) :: Row (α := Bool) 4 (Value.slice z245 m245 k245) (s11.2.2.2.1) :: Row (α := Bool) 4 (Value.slice z247 m247 k247) (s11.2.2.2.2) :: Fr)) => ?_))
                    refine wl_op rfl (op_store (v := (Value.agg #[(Value.int .i64 (x287.At)), (Value.int .i64 (x287.Kind)), (Value.int .i64 (x287.Number)), (Value.int .i64 (x287.Value))])) (cs := #[(Value.int .i64 (0)), (Value.int .i64 (0)), (Value.int .i64 (0)), (Value.int .i64 (0))]) sh46 I1078 rfl rfl rfl (Nat.le_of_ble_eq_true rfl) rfl (fun w826 (I1079 : Inv w826 S628 (Cells g42 46 #[(Value.int .i64 (x287.At)), (Value.int .i64 (x287.Kind)), (Value.int .i64 (x287.Number)), (Value.int .i64 (x287.Value))] :: Row (α := Control_tick) 87 (Value.slice z213 m213 k213) (s10.1) :: Row (α := Int) 3 (Value.slice z10 m10 k10) (s11.2.1) :: Row (α := Int) 3 (Value.slice z11 m11 k11) (s10.2.2.2.1) :: Row (α := Int) 3 (Value.slice z12 m12 k12) (s10.2.2.2.2) :: Row (α := Bool) 4 (Value.slice z215 m215 k215) (s11.2.2.1) :: Cells (ptrBlk (Value.pointer (some ⟨g38, 0, none⟩))) 87 #[(Value.bool (false)), (Value.slice none 0 0), (Value.slice none 0 0), (Value.slice z241 m241 k241), (Value.slice z243 m243 k243), (Value.slice z245 m245 k245)] :: Row (α := Int) 3 (Value.slice z241 m241 k241) (x269) :: Row (α := Int) 3 (Value.slice z243 m243 k243) (x269) :: Row (α := Bool) 4 (Value.slice z245 m245 k245) (s11.2.2.2.1) :: Row (α := Bool) 4 (Value.slice z247 m247 k247) (s11.2.2.2.2) :: Fr)) => ?_))
                    refine wl_nil ?_
                    refine wp_seq' ?_
                    refine wp_seq' ?_
                    refine wp_region' ?_
                    refine wl_op rfl (op_fieldAddr (v := (Value.pointer (some ⟨g42, 0, none⟩))) rfl fa46_0 rfl rfl ?_)
                    refine wl_op rfl (op_load1 (c := (Value.int .i64 (x287.At))) rfl sh3 (I1079.nth 0 rfl) rfl rfl ?_)
                    refine wl_op rfl (op_move (v := (Value.int .i64 ((i10 : Int)))) rfl e2269 ?_)
                    refine wl_op rfl (op_neq (a := x287.At) (b := (i10 : Int)) rfl rfl rfl ?_)
                    refine wl_nil ?_
                    rcases ifs h96 with ⟨hc184, h96⟩ | ⟨hc184, h96⟩
                    · refine wp_cond_t (b := x287.At != (i10 : Int)) rfl hc184 ?_
                      refine wp_exit' ?_
                      refine wp_region' ?_
                      refine wl_op rfl (op_add (a := (i11 : Int)) (b := 1) rfl e2277 rfl ?_)
                      refine wl_op rfl (op_move (v := (Value.int .i64 (w64 ((i11 : Int) + 1)))) rfl rfl ?_)
                      refine wl_nil ?_
                      obtain rfl := Option.some.inj h96
                      exact ⟨(((((((((((I1079).drop.pull 9).pull 9).pull 9).pull 9).pull 9).pull 9).pull 9).pull 9).pull 9).pull 9), e2262, e2263, e2264, e2265, e2266, e2267, e2268, e2269, e2270, e2271, e2272, e2273, e2274, e2275, e2276, (idx_next hlt11 hk10)⟩
                    · refine wp_cond_f (b := x287.At != (i10 : Int)) rfl hc184 ?_
                      refine wp_skip' ?_
                      refine wp_seq' ?_
                      refine wp_region' ?_
                      refine wl_op rfl (op_fieldAddr (v := (Value.pointer (some ⟨g42, 0, none⟩))) rfl fa46_1 rfl rfl ?_)
                      refine wl_op rfl (op_load1 (c := (Value.int .i64 (x287.Kind))) rfl sh3 (I1079.nth 0 rfl) rfl rfl ?_)
                      refine wl_nil ?_
                      refine wp_block' ?_
                      refine wp_seq' ?_
                      refine wp_region' ?_
                      refine wl_op rfl (op_eql (a := x287.Kind) (b := 1) rfl rfl rfl ?_)
                      refine wl_op rfl (op_assign (v := (Value.bool (x287.Kind == 1))) rfl rfl ?_)
                      refine wl_nil ?_
                      rcases ifs h96 with ⟨hc185, h96⟩ | ⟨hc185, h96⟩
                      · refine wp_cond_t (b := x287.Kind == 1) rfl hc185 ?_
                        refine wp_region' ?_
                        refine wl_op rfl (op_move (v := (Value.slice z10 m10 k10)) rfl e2266 ?_)
                        refine wl_op rfl (op_fieldAddr (v := (Value.pointer (some ⟨g42, 0, none⟩))) rfl fa46_2 rfl rfl ?_)
                        refine wl_op rfl (op_load1 (c := (Value.int .i64 (x287.Number))) rfl sh3 (I1079.nth 0 rfl) rfl rfl ?_)
                        refine wl_op rfl (op_fieldAddr (v := (Value.pointer (some ⟨g42, 0, none⟩))) rfl fa46_3 rfl rfl ?_)
                        refine wl_op rfl (op_load1 (c := (Value.int .i64 (x287.Value))) rfl sh3 (I1079.nth 0 rfl) rfl rfl ?_)
                        obtain ⟨x288, hx288, h96⟩ := bnd h96
                        refine wl_op rfl (op_indexAddr_src (v := (Value.slice z10 m10 k10)) (i := x287.Number) (e := x288) rfl Try.underlying34 sh3 rfl (Inv.rowSrc (I1079.nth 2 rfl)) rfl hx288 ?_)
                        refine wl_op rfl (op_storeRow (u := (Value.int .i64 (x287.Value))) (e' := x287.Value) sh3 (I1079.pull 2) rfl rfl hx288 (rv_int' _) (fun w827 I1080 => ?_))
                        refine wl_nil ?_
                        refine wp_region' ?_
                        refine wl_op rfl (op_add (a := (i11 : Int)) (b := 1) rfl e2277 rfl ?_)
                        refine wl_op rfl (op_move (v := (Value.int .i64 (w64 ((i11 : Int) + 1)))) rfl rfl ?_)
                        refine wl_nil ?_
                        obtain rfl := Option.some.inj h96
                        exact ⟨(((((((((((I1080.pull 1).drop.pull 9).pull 9).pull 9).pull 9).pull 9).pull 9).pull 9).pull 9).pull 8).pull 9), e2262, e2263, e2264, e2265, e2266, e2267, e2268, e2269, e2270, e2271, e2272, e2273, e2274, e2275, e2276, (idx_next hlt11 hk10)⟩
                      · refine wp_cond_f (b := x287.Kind == 1) rfl hc185 ?_
                        refine wp_seq' ?_
                        refine wp_region' ?_
                        refine wl_op rfl (op_eql (a := x287.Kind) (b := 2) rfl rfl rfl ?_)
                        refine wl_op rfl (op_assign (v := (Value.bool (x287.Kind == 2))) rfl rfl ?_)
                        refine wl_nil ?_
                        rcases ifs h96 with ⟨hc186, h96⟩ | ⟨hc186, h96⟩
                        · refine wp_cond_t (b := x287.Kind == 2) rfl hc186 ?_
                          refine wp_region' ?_
                          refine wl_op rfl (op_move (v := (Value.slice z215 m215 k215)) rfl e2270 ?_)
                          refine wl_op rfl (op_fieldAddr (v := (Value.pointer (some ⟨g42, 0, none⟩))) rfl fa46_2 rfl rfl ?_)
                          refine wl_op rfl (op_load1 (c := (Value.int .i64 (x287.Number))) rfl sh3 (I1079.nth 0 rfl) rfl rfl ?_)
                          obtain ⟨x289, hx289, h96⟩ := bnd h96
                          refine wl_op rfl (op_indexAddr_src (v := (Value.slice z215 m215 k215)) (i := x287.Number) (e := x289) rfl Try.underlying83 sh4 rfl (Inv.rowSrc (I1079.nth 5 rfl)) rfl hx289 ?_)
                          refine wl_op rfl (op_storeRow (u := (Value.bool (true))) (e' := true) sh4 (I1079.pull 5) rfl rfl hx289 (rv_bool' _) (fun w828 I1081 => ?_))
                          refine wl_nil ?_
                          refine wp_region' ?_
                          refine wl_op rfl (op_add (a := (i11 : Int)) (b := 1) rfl e2277 rfl ?_)
                          refine wl_op rfl (op_move (v := (Value.int .i64 (w64 ((i11 : Int) + 1)))) rfl rfl ?_)
                          refine wl_nil ?_
                          obtain rfl := Option.some.inj h96
                          exact ⟨(((((((((((I1081.pull 1).drop.pull 9).pull 9).pull 9).pull 9).pull 9).pull 5).pull 9).pull 9).pull 9).pull 9), e2262, e2263, e2264, e2265, e2266, e2267, e2268, e2269, e2270, e2271, e2272, e2273, e2274, e2275, e2276, (idx_next hlt11 hk10)⟩
                        · refine wp_cond_f (b := x287.Kind == 2) rfl hc186 ?_
                          refine wp_seq' ?_
                          refine wp_region' ?_
                          refine wl_op rfl (op_eql (a := x287.Kind) (b := 3) rfl rfl rfl ?_)
                          refine wl_op rfl (op_assign (v := (Value.bool (x287.Kind == 3))) rfl rfl ?_)
                          refine wl_nil ?_
                          rcases ifs h96 with ⟨hc187, h96⟩ | ⟨hc187, h96⟩
                          · refine wp_cond_t (b := x287.Kind == 3) rfl hc187 ?_
                            refine wp_region' ?_
                            refine wl_op rfl (op_move (v := (Value.slice z247 m247 k247)) rfl e2272 ?_)
                            refine wl_op rfl (op_fieldAddr (v := (Value.pointer (some ⟨g42, 0, none⟩))) rfl fa46_2 rfl rfl ?_)
                            refine wl_op rfl (op_load1 (c := (Value.int .i64 (x287.Number))) rfl sh3 (I1079.nth 0 rfl) rfl rfl ?_)
                            obtain ⟨x290, hx290, h96⟩ := bnd h96
                            refine wl_op rfl (op_indexAddr_src (v := (Value.slice z247 m247 k247)) (i := x287.Number) (e := x290) rfl Try.underlying83 sh4 rfl (Inv.rowSrc (I1079.nth 10 rfl)) rfl hx290 ?_)
                            refine wl_op rfl (op_storeRow (u := (Value.bool (true))) (e' := true) sh4 (I1079.pull 10) rfl rfl hx290 (rv_bool' _) (fun w829 I1082 => ?_))
                            refine wl_nil ?_
                            refine wp_region' ?_
                            refine wl_op rfl (op_add (a := (i11 : Int)) (b := 1) rfl e2277 rfl ?_)
                            refine wl_op rfl (op_move (v := (Value.int .i64 (w64 ((i11 : Int) + 1)))) rfl rfl ?_)
                            refine wl_nil ?_
                            obtain rfl := Option.some.inj h96
                            exact ⟨((((((((((I1082.pull 1).drop.pull 9).pull 9).pull 9).pull 9).pull 9).pull 9).pull 9).pull 9).pull 9), e2262, e2263, e2264, e2265, e2266, e2267, e2268, e2269, e2270, e2271, e2272, e2273, e2274, e2275, e2276, (idx_next hlt11 hk10)⟩
                          · refine wp_cond_f (b := x287.Kind == 3) rfl hc187 ?_
                            refine wp_seq' ?_
                            refine wp_region' ?_
                            refine wl_op rfl (op_eql (a := x287.Kind) (b := 4) rfl rfl rfl ?_)
                            refine wl_op rfl (op_assign (v := (Value.bool (x287.Kind == 4))) rfl rfl ?_)
                            refine wl_nil ?_
                            rcases ifs h96 with ⟨hc188, h96⟩ | ⟨hc188, h96⟩
                            · refine wp_cond_t (b := x287.Kind == 4) rfl hc188 ?_
                              refine wp_region' ?_
                              refine wl_op rfl (op_assign (v := (Value.bool (false))) rfl rfl ?_)
                              refine wl_nil ?_
                              refine wp_region' ?_
                              refine wl_op rfl (op_add (a := (i11 : Int)) (b := 1) rfl e2277 rfl ?_)
                              refine wl_op rfl (op_move (v := (Value.int .i64 (w64 ((i11 : Int) + 1)))) rfl rfl ?_)
                              refine wl_nil ?_
                              obtain rfl := Option.some.inj h96
                              exact ⟨(((((((((((I1079).drop.pull 9).pull 9).pull 9).pull 9).pull 9).pull 9).pull 9).pull 9).pull 9).pull 9), e2262, e2263, e2264, rfl, e2266, e2267, e2268, e2269, e2270, e2271, e2272, e2273, e2274, e2275, e2276, (idx_next hlt11 hk10)⟩
                            · refine wp_cond_f (b := x287.Kind == 4) rfl hc188 ?_
                              refine wp_seq' ?_
                              refine wp_region' ?_
                              refine wl_op rfl (op_eql (a := x287.Kind) (b := 5) rfl rfl rfl ?_)
                              refine wl_op rfl (op_assign (v := (Value.bool (x287.Kind == 5))) rfl rfl ?_)
                              refine wl_nil ?_
                              rcases ifs h96 with ⟨hc189, h96⟩ | ⟨hc189, h96⟩
                              · refine wp_cond_t (b := x287.Kind == 5) rfl hc189 ?_
                                refine wp_region' ?_
                                refine wl_op rfl (op_assign (v := (Value.bool (true))) rfl rfl ?_)
                                refine wl_nil ?_
                                refine wp_region' ?_
                                refine wl_op rfl (op_add (a := (i11 : Int)) (b := 1) rfl e2277 rfl ?_)
                                refine wl_op rfl (op_move (v := (Value.int .i64 (w64 ((i11 : Int) + 1)))) rfl rfl ?_)
                                refine wl_nil ?_
                                obtain rfl := Option.some.inj h96
                                exact ⟨(((((((((((I1079).drop.pull 9).pull 9).pull 9).pull 9).pull 9).pull 9).pull 9).pull 9).pull 9).pull 9), e2262, e2263, e2264, rfl, e2266, e2267, e2268, e2269, e2270, e2271, e2272, e2273, e2274, e2275, e2276, (idx_next hlt11 hk10)⟩
                              · refine wp_cond_f (b := x287.Kind == 5) rfl hc189 ?_
                                refine wp_seq' ?_
                                refine wp_region' ?_
                                refine wl_op rfl (op_eql (a := x287.Kind) (b := 6) rfl rfl rfl ?_)
                                refine wl_op rfl (op_assign (v := (Value.bool (x287.Kind == 6))) rfl rfl ?_)
                                refine wl_nil ?_
                                rcases ifs h96 with ⟨hc190, h96⟩ | ⟨hc190, h96⟩
                                · refine wp_cond_t (b := x287.Kind == 6) rfl hc190 ?_
                                  refine wp_region' ?_
                                  refine wl_op rfl (op_fieldAddr (v := (Value.pointer (some ⟨g38, 0, none⟩))) rfl fa87_5 e2271 rfl ?_)
                                  refine wl_op rfl (op_load1 (c := (Value.slice z245 m245 k245)) rfl sh83 (I1079.nth 6 rfl) rfl rfl ?_)
                                  refine wl_op rfl (op_fieldAddr (v := (Value.pointer (some ⟨g42, 0, none⟩))) rfl fa46_2 rfl rfl ?_)
                                  refine wl_op rfl (op_load1 (c := (Value.int .i64 (x287.Number))) rfl sh3 (I1079.nth 0 rfl) rfl rfl ?_)
                                  obtain ⟨x291, hx291, h96⟩ := bnd h96
                                  refine wl_op rfl (op_indexAddr_src (v := (Value.slice z245 m245 k245)) (i := x287.Number) (e := x291) rfl Try.underlying83 sh4 rfl (Inv.rowSrc (I1079.nth 9 rfl)) rfl hx291 ?_)
                                  refine wl_op rfl (op_storeRow (u := (Value.bool (true))) (e' := true) sh4 (I1079.pull 9) rfl rfl hx291 (rv_bool' _) (fun w830 I1083 => ?_))
                                  refine wl_nil ?_
                                  refine wp_region' ?_
                                  refine wl_op rfl (op_add (a := (i11 : Int)) (b := 1) rfl e2277 rfl ?_)
                                  refine wl_op rfl (op_move (v := (Value.int .i64 (w64 ((i11 : Int) + 1)))) rfl rfl ?_)
                                  refine wl_nil ?_
                                  obtain rfl := Option.some.inj h96
                                  exact ⟨(((((((((((I1083.pull 1).drop.pull 9).pull 1).pull 9).pull 9).pull 9).pull 9).pull 9).pull 9).pull 9).pull 9), e2262, e2263, e2264, e2265, e2266, e2267, e2268, e2269, e2270, e2271, e2272, e2273, e2274, e2275, e2276, (idx_next hlt11 hk10)⟩
                                · refine wp_cond_f (b := x287.Kind == 6) rfl hc190 ?_
                                  refine wp_skip' ?_
                                  refine wp_region' ?_
                                  refine wl_op rfl (op_add (a := (i11 : Int)) (b := 1) rfl e2277 rfl ?_)
                                  refine wl_op rfl (op_move (v := (Value.int .i64 (w64 ((i11 : Int) + 1)))) rfl rfl ?_)
                                  refine wl_nil ?_
                                  obtain rfl := Option.some.inj h96
                                  exact ⟨(((((((((((I1079).drop.pull 9).pull 9).pull 9).pull 9).pull 9).pull 9).pull 9).pull 9).pull 9).pull 9), e2262, e2263, e2264, e2265, e2266, e2267, e2268, e2269, e2270, e2271, e2272, e2273, e2274, e2275, e2276, (idx_next hlt11 hk10)⟩
                  · rintro f w hI494
                    obtain ⟨I1084, e2279, e2280, e2281, e2282, e2283, e2284, e2285, e2286, e2287, e2288, e2289, e2290, e2291, e2292, e2293, e2294⟩ := hI494
                    refine wp_seq' ?_
                    refine wp_region' ?_
                    refine wl_op rfl (op_lss (a := (a2.length : Int)) (b := (a2.length : Int)) rfl e2294 e2293 ?_)
                    refine wl_nil ?_
                    refine wp_seq' ?_
                    refine wp_cond_f (b := decide ((a2.length : Int) < (a2.length : Int))) rfl (len_f _) ?_
                    refine wp_exit' ?_
                    exact ⟨((((((((((I1084.pull 9).pull 9).pull 9).pull 9).pull 9).pull 9).pull 9).pull 9).pull 9).pull 9), e2279, e2280, e2281, e2282, e2283, e2284, e2285, e2286, e2287, e2288, e2289, e2290, e2291, e2292, e2293⟩
                · rintro f w ⟨I1085, e2295, e2296, e2297, e2298, e2299, e2300, e2301, e2302, e2303, e2304, e2305, e2306, e2307, e2308, e2309⟩
                  refine wp_seq' ?_
                  refine wp_seq' ?_
                  refine wp_region' ?_
                  refine wl_op rfl (op_move (v := (Value.slice z10 m10 k10)) rfl e2299 ?_)
                  refine wl_op rfl (op_len_row (α := Int) rfl Try.underlying34 rfl (I1085.nth 1 rfl) ?_)
                  refine wl_op rfl (op_move (v := (Value.int .i64 (0))) rfl rfl ?_)
                  refine wl_nil ?_
                  have hk11 : out11.2.1.length ≤ 9223372036854775807 := (row_len (I1085.nth 1 rfl))
                  obtain ⟨out12, hrun12, h94⟩ := bnd h94
                  refine wp_cutN (fun f w => Inv w S628 (Row (α := Control_tick) 87 (Value.slice z213 m213 k213) (s10.1) :: Row (α := Int) 3 (Value.slice z10 m10 k10) (out11.2.1) :: Row (α := Int) 3 (Value.slice z11 m11 k11) (out12.1) :: Row (α := Int) 3 (Value.slice z12 m12 k12) (out12.2) :: Row (α := Bool) 4 (Value.slice z215 m215 k215) (out11.2.2.1) :: Cells (ptrBlk (Value.pointer (some ⟨g38, 0, none⟩))) 87 #[(Value.bool (false)), (Value.slice none 0 0), (Value.slice none 0 0), (Value.slice z241 m241 k241), (Value.slice z243 m243 k243), (Value.slice z245 m245 k245)] :: Row (α := Int) 3 (Value.slice z241 m241 k241) (x269) :: Row (α := Int) 3 (Value.slice z243 m243 k243) (x269) :: Row (α := Bool) 4 (Value.slice z245 m245 k245) (out11.2.2.2.1) :: Row (α := Bool) 4 (Value.slice z247 m247 k247) (out11.2.2.2.2) :: Fr) ∧ f 2 = (Value.slice z2 m2 k2) ∧ f 3 = (Value.pointer (some ⟨g1, 0, none⟩)) ∧ f 9 = (Value.slice z213 m213 k213) ∧ f 10 = (Value.bool (out11.1)) ∧ f 11 = (Value.slice z10 m10 k10) ∧ f 12 = (Value.slice z11 m11 k11) ∧ f 13 = (Value.slice z12 m12 k12) ∧ f 14 = (Value.int .i64 ((i10 : Int))) ∧ f 15 = (Value.slice z215 m215 k215) ∧ f 16 = (Value.pointer (some ⟨g38, 0, none⟩)) ∧ f 17 = (Value.slice z247 m247 k247) ∧ f 48 = (Value.int .i64 (a1)) ∧ f 49 = (Value.int .i64 ((i10 : Int))) ∧ f 117 = (Value.int .i64 ((out11.2.1.length : Int)))) ?_ ?_
                  · refine wp_block' ?_
                    refine wp_forS (I := fun (i12 : Nat) (s12 : (List Int × List Int)) (f : Frm) (w : World) => Inv w S628 (Row (α := Control_tick) 87 (Value.slice z213 m213 k213) (s10.1) :: Row (α := Int) 3 (Value.slice z10 m10 k10) (out11.2.1) :: Row (α := Int) 3 (Value.slice z11 m11 k11) (s12.1) :: Row (α := Int) 3 (Value.slice z12 m12 k12) (s12.2) :: Row (α := Bool) 4 (Value.slice z215 m215 k215) (out11.2.2.1) :: Cells (ptrBlk (Value.pointer (some ⟨g38, 0, none⟩))) 87 #[(Value.bool (false)), (Value.slice none 0 0), (Value.slice none 0 0), (Value.slice z241 m241 k241), (Value.slice z243 m243 k243), (Value.slice z245 m245 k245)] :: Row (α := Int) 3 (Value.slice z241 m241 k241) (x269) :: Row (α := Int) 3 (Value.slice z243 m243 k243) (x269) :: Row (α := Bool) 4 (Value.slice z245 m245 k245) (out11.2.2.2.1) :: Row (α := Bool) 4 (Value.slice z247 m247 k247) (out11.2.2.2.2) :: Fr) ∧ f 2 = (Value.slice z2 m2 k2) ∧ f 3 = (Value.pointer (some ⟨g1, 0, none⟩)) ∧ f 9 = (Value.slice z213 m213 k213) ∧ f 10 = (Value.bool (out11.1)) ∧ f 11 = (Value.slice z10 m10 k10) ∧ f 12 = (Value.slice z11 m11 k11) ∧ f 13 = (Value.slice z12 m12 k12) ∧ f 14 = (Value.int .i64 ((i10 : Int))) ∧ f 15 = (Value.slice z215 m215 k215) ∧ f 16 = (Value.pointer (some ⟨g38, 0, none⟩)) ∧ f 17 = (Value.slice z247 m247 k247) ∧ f 48 = (Value.int .i64 (a1)) ∧ f 49 = (Value.int .i64 ((i10 : Int))) ∧ f 117 = (Value.int .i64 ((out11.2.1.length : Int))) ∧ f 118 = (Value.int .i64 (i12 : Int))) hrun12 ⟨((((((((((I1085.pull 9).pull 9).pull 9).pull 9).pull 9).pull 9).pull 9).pull 9).pull 9).pull 9), e2295, e2296, e2297, e2298, e2299, e2300, e2301, e2302, e2303, e2304, e2305, e2306, e2307, rfl, rfl⟩ ?_ ?_
                    · rintro i12 s12 f w o12 hlt12 hI495 h107
                      obtain ⟨I1101, e2406, e2407, e2408, e2409, e2410, e2411, e2412, e2413, e2414, e2415, e2416, e2417, e2418, e2419, e2420⟩ := hI495
                      refine wp_seq' ?_
                      refine wp_region' ?_
                      refine wl_op rfl (op_lss (a := (i12 : Int)) (b := (out11.2.1.length : Int)) rfl e2420 e2419 ?_)
                      refine wl_nil ?_
                      refine wp_seq' ?_
                      refine wp_cond_t (b := decide ((i12 : Int) < (out11.2.1.length : Int))) rfl (len_t hlt12) ?_
                      refine wp_skip' ?_
                      refine wp_seq' ?_
                      refine wp_block' ?_
                      refine wp_seq' ?_
                      refine wp_region' ?_
                      refine wl_op rfl (op_move (v := (Value.int .i64 ((i12 : Int)))) rfl e2420 ?_)
                      refine wl_op rfl (op_assign (v := (Value.int .i64 ((i12 : Int)))) rfl rfl ?_)
                      refine wl_nil ?_
                      refine wp_seq' ?_
                      refine wp_region' ?_
                      refine wl_op rfl (op_move (v := (Value.slice z12 m12 k12)) rfl e2412 ?_)
                      refine wl_op rfl (op_move (v := (Value.int .i64 ((i12 : Int)))) rfl rfl ?_)
                      obtain ⟨x313, hx313, h107⟩ := bnd h107
                      refine wl_op rfl (op_indexAddr_src (v := (Value.slice z12 m12 k12)) (i := (i12 : Int)) (e := x313) rfl Try.underlying34 sh3 rfl (Inv.rowSrc (I1101.nth 3 rfl)) rfl hx313 ?_)
                      refine wl_op rfl (op_load_int (v := (elemPtr (Value.slice z12 m12 k12) ((i12 : Int)) (Enc.sz Int))) (e := x313) rfl sh3 rfl ((I1101.nth 3 rfl).rowElem hx313) ?_)
                      refine wl_op rfl (op_add (a := x313) (b := 1) rfl rfl rfl ?_)
                      obtain ⟨x314, hx314, h107⟩ := bnd h107
                      refine wl_op rfl (op_indexAddr_src (v := (Value.slice z12 m12 k12)) (i := (i12 : Int)) (e := x314) rfl Try.underlying34 sh3 rfl (Inv.rowSrc (I1101.nth 3 rfl)) rfl hx314 ?_)
                      refine wl_op rfl (op_storeRow (u := (Value.int .i64 (w64 (x313 + 1)))) (e' := w64 (x313 + 1)) sh3 (I1101.pull 3) rfl rfl hx314 (rv_int' _) (fun w840 I1102 => ?_))
                      refine wl_nil ?_
                      obtain ⟨v83, h110, h107⟩ := bnd h107
                      refine wp_cut (fun f w => Inv w S628 (Row (α := Control_tick) 87 (Value.slice z213 m213 k213) (s10.1) :: Row (α := Int) 3 (Value.slice z10 m10 k10) (out11.2.1) :: Row (α := Int) 3 (Value.slice z11 m11 k11) (s12.1) :: Row (α := Int) 3 (Value.slice z12 m12 k12) (s12.2.set ((i12 : Int)).toNat (w64 (x313 + 1))) :: Row (α := Bool) 4 (Value.slice z215 m215 k215) (out11.2.2.1) :: Cells (ptrBlk (Value.pointer (some ⟨g38, 0, none⟩))) 87 #[(Value.bool (false)), (Value.slice none 0 0), (Value.slice none 0 0), (Value.slice z241 m241 k241), (Value.slice z243 m243 k243), (Value.slice z245 m245 k245)] :: Row (α := Int) 3 (Value.slice z241 m241 k241) (x269) :: Row (α := Int) 3 (Value.slice z243 m243 k243) (x269) :: Row (α := Bool) 4 (Value.slice z245 m245 k245) (out11.2.2.2.1) :: Row (α := Bool) 4 (Value.slice z247 m247 k247) (out11.2.2.2.2) :: Fr) ∧ f 2 = (Value.slice z2 m2 k2) ∧ f 3 = (Value.pointer (some ⟨g1, 0, none⟩)) ∧ f 9 = (Value.slice z213 m213 k213) ∧ f 10 = (Value.bool (out11.1)) ∧ f 11 = (Value.slice z10 m10 k10) ∧ f 12 = (Value.slice z11 m11 k11) ∧ f 13 = (Value.slice z12 m12 k12) ∧ f 14 = (Value.int .i64 ((i10 : Int))) ∧ f 15 = (Value.slice z215 m215 k215) ∧ f 16 = (Value.pointer (some ⟨g38, 0, none⟩)) ∧ f 17 = (Value.slice z247 m247 k247) ∧ f 20 = (Value.int .i64 ((i12 : Int))) ∧ f 48 = (Value.int .i64 (a1)) ∧ f 49 = (Value.int .i64 ((i10 : Int))) ∧ f 117 = (Value.int .i64 ((out11.2.1.length : Int))) ∧ f 118 = (Value.int .i64 ((i12 : Int))) ∧ f 134 = (Value.bool (v83))) ?_ ?_
                      · refine wp_region' ?_
                        refine wl_op rfl (op_move (v := (Value.bool (out11.1))) rfl e2409 ?_)
                        refine wl_op rfl (op_move (v := (Value.bool (out11.1))) rfl rfl ?_)
                        rcases ifs h110 with ⟨hc201, h110⟩ | ⟨hc201, h110⟩
                        · refine wl_taken (c := out11.1) rfl rfl rfl rfl hc201 (op_move (v := (Value.slice z215 m215 k215)) rfl e2414 ?_)
                          refine wl_taken (c := out11.1) rfl rfl rfl rfl hc201 (op_move (v := (Value.int .i64 ((i12 : Int)))) rfl rfl ?_)
                          obtain ⟨x316, hx316, h110⟩ := bnd h110
                          refine wl_taken (c := out11.1) rfl rfl rfl rfl hc201 (op_indexAddr_src (v := (Value.slice z215 m215 k215)) (i := (i12 : Int)) (e := x316) rfl Try.underlying83 sh4 rfl (Inv.rowSrc (I1102.nth 4 rfl)) rfl hx316 ?_)
                          refine wl_taken (c := out11.1) rfl rfl rfl rfl hc201 (op_load_bool (v := (elemPtr (Value.slice z215 m215 k215) ((i12 : Int)) (Enc.sz Bool))) (e := x316) rfl sh4 rfl ((I1102.nth 4 rfl).rowElem hx316) ?_)
                          refine wl_taken (c := out11.1) rfl rfl rfl rfl hc201 (op_not (b := x316) rfl rfl ?_)
                          refine wl_op rfl (op_pick_t (c := out11.1) (a := (Value.bool (!x316))) rfl rfl hc201 rfl ?_)
                          refine wl_nil ?_
                          obtain rfl := Option.some.inj h110
                          exact ⟨((((((((((I1102.pull 9).pull 9).pull 9).pull 9).pull 9).pull 9).pull 6).pull 9).pull 9).pull 9), e2406, e2407, e2408, e2409, e2410, e2411, e2412, e2413, e2414, e2415, e2416, rfl, e2417, e2418, e2419, e2420, rfl⟩
                        · refine wl_skip (c := out11.1) rfl rfl rfl rfl hc201 rfl ?_
                          refine wl_skip (c := out11.1) rfl rfl rfl rfl hc201 rfl ?_
                          refine wl_skip (c := out11.1) rfl rfl rfl rfl hc201 rfl ?_
                          refine wl_skip (c := out11.1) rfl rfl rfl rfl hc201 rfl ?_
                          refine wl_skip (c := out11.1) rfl rfl rfl rfl hc201 rfl ?_
                          refine wl_op rfl (op_pick_f (c := out11.1) (b := (Value.bool (false))) rfl rfl hc201 rfl ?_)
                          refine wl_nil ?_
                          obtain rfl := Option.some.inj h110
                          exact ⟨((((((((((I1102.pull 9).pull 9).pull 9).pull 9).pull 9).pull 9).pull 6).pull 9).pull 9).pull 9), e2406, e2407, e2408, e2409, e2410, e2411, e2412, e2413, e2414, e2415, e2416, rfl, e2417, e2418, e2419, e2420, rfl⟩
                      · rintro f w ⟨I1103, e2421, e2422, e2423, e2424, e2425, e2426, e2427, e2428, e2429, e2430, e2431, e2432, e2433, e2434, e2435, e2436, e2437⟩
                        rcases ifs h107 with ⟨hc202, h107⟩ | ⟨hc202, h107⟩
                        · refine wp_cond_t (b := v83) e2437 hc202 ?_
                          refine wp_region' ?_
                          refine wl_op rfl (op_move (v := (Value.slice z11 m11 k11)) rfl e2426 ?_)
                          refine wl_op rfl (op_move (v := (Value.int .i64 ((i12 : Int)))) rfl e2432 ?_)
                          refine wl_op rfl (op_move (v := (Value.slice z12 m12 k12)) rfl e2427 ?_)
                          refine wl_op rfl (op_move (v := (Value.int .i64 ((i12 : Int)))) rfl e2432 ?_)
                          refine wl_op rfl (op_move (v := (Value.slice z10 m10 k10)) rfl e2425 ?_)
                          refine wl_op rfl (op_move (v := (Value.int .i64 ((i12 : Int)))) rfl e2432 ?_)
                          obtain ⟨x317, hx317, h107⟩ := bnd h107
                          refine wl_op rfl (op_indexAddr_src (v := (Value.slice z10 m10 k10)) (i := (i12 : Int)) (e := x317) rfl Try.underlying34 sh3 rfl (Inv.rowSrc (I1103.nth 1 rfl)) rfl hx317 ?_)
                          refine wl_op rfl (op_load_int (v := (elemPtr (Value.slice z10 m10 k10) ((i12 : Int)) (Enc.sz Int))) (e := x317) rfl sh3 rfl ((I1103.nth 1 rfl).rowElem hx317) ?_)
                          obtain ⟨x318, hx318, h107⟩ := bnd h107
                          refine wl_op rfl (op_indexAddr_src (v := (Value.slice z11 m11 k11)) (i := (i12 : Int)) (e := x318) rfl Try.underlying34 sh3 rfl (Inv.rowSrc (I1103.nth 2 rfl)) rfl hx318 ?_)
                          refine wl_op rfl (op_storeRow (u := (Value.int .i64 (x317))) (e' := x317) sh3 (I1103.pull 2) rfl rfl hx318 (rv_int' _) (fun w841 I1104 => ?_))
                          obtain ⟨x319, hx319, h107⟩ := bnd h107
                          refine wl_op rfl (op_indexAddr_src (v := (Value.slice z12 m12 k12)) (i := (i12 : Int)) (e := x319) rfl Try.underlying34 sh3 rfl (Inv.rowSrc (I1104.nth 3 rfl)) rfl hx319 ?_)
                          refine wl_op rfl (op_storeRow (u := (Value.int .i64 (0))) (e' := 0) sh3 (I1104.pull 3) rfl rfl hx319 (rv_int' _) (fun w842 I1105 => ?_))
                          refine wl_nil ?_
                          refine wp_region' ?_
                          refine wl_op rfl (op_add (a := (i12 : Int)) (b := 1) rfl e2436 rfl ?_)
                          refine wl_op rfl (op_move (v := (Value.int .i64 (w64 ((i12 : Int) + 1)))) rfl rfl ?_)
                          refine wl_nil ?_
                          obtain rfl := Option.some.inj h107
                          exact ⟨((((((((((I1105.pull 9).pull 9).pull 9).pull 9).pull 9).pull 9).pull 6).pull 7).pull 9).pull 9), e2421, e2422, e2423, e2424, e2425, e2426, e2427, e2428, e2429, e2430, e2431, e2433, e2434, e2435, (idx_next hlt12 hk11)⟩
                        · refine wp_cond_f (b := v83) e2437 hc202 ?_
                          refine wp_skip' ?_
                          refine wp_region' ?_
                          refine wl_op rfl (op_add (a := (i12 : Int)) (b := 1) rfl e2436 rfl ?_)
                          refine wl_op rfl (op_move (v := (Value.int .i64 (w64 ((i12 : Int) + 1)))) rfl rfl ?_)
                          refine wl_nil ?_
                          obtain rfl := Option.some.inj h107
                          exact ⟨((((((((((I1103.pull 9).pull 9).pull 9).pull 9).pull 9).pull 9).pull 9).pull 9).pull 9).pull 9), e2421, e2422, e2423, e2424, e2425, e2426, e2427, e2428, e2429, e2430, e2431, e2433, e2434, e2435, (idx_next hlt12 hk11)⟩
                    · rintro f w hI496
                      obtain ⟨I1106, e2438, e2439, e2440, e2441, e2442, e2443, e2444, e2445, e2446, e2447, e2448, e2449, e2450, e2451, e2452⟩ := hI496
                      refine wp_seq' ?_
                      refine wp_region' ?_
                      refine wl_op rfl (op_lss (a := (out11.2.1.length : Int)) (b := (out11.2.1.length : Int)) rfl e2452 e2451 ?_)
                      refine wl_nil ?_
                      refine wp_seq' ?_
                      refine wp_cond_f (b := decide ((out11.2.1.length : Int) < (out11.2.1.length : Int))) rfl (len_f _) ?_
                      refine wp_exit' ?_
                      exact ⟨((((((((((I1106.pull 9).pull 9).pull 9).pull 9).pull 9).pull 9).pull 9).pull 9).pull 9).pull 9), e2438, e2439, e2440, e2441, e2442, e2443, e2444, e2445, e2446, e2447, e2448, e2449, e2450, e2451⟩
                  · rintro f w ⟨I1107, e2453, e2454, e2455, e2456, e2457, e2458, e2459, e2460, e2461, e2462, e2463, e2464, e2465, e2466⟩
                    refine wp_seq' ?_
                    refine wp_region' ?_
                    refine wl_op rfl (op_move (v := (Value.bool (out11.1))) rfl e2456 ?_)
                    refine wl_op rfl (op_move (v := (Value.slice z11 m11 k11)) rfl e2458 ?_)
                    obtain ⟨x320, hx320, h94⟩ := bnd h94
                    obtain ⟨S629, Fr55, le629, I1108, r456, bk55⟩ := Inv.lend1 (I1107.pull 2)
                    refine wl_op rfl (op_call (vs := [(Value.slice z11 m11 k11)]) rfl ca65 rfl (args1 rfl) (F65_ok I1108 r456 hx320) (fun v84 w843 S630 O55 le630 I1110 hv55 => ?_))
                    obtain ⟨z248, m248, k248, rfl, rfl⟩ := hv55
                    have I1109 := bk55 [Row (α := Int) 3 (Value.slice z248 m248 k248) (x320)] ⟨Row.free, trivial⟩ I1110 le630
                    refine wl_op rfl (op_move (v := (Value.slice z12 m12 k12)) rfl e2459 ?_)
                    obtain ⟨x321, hx321, h94⟩ := bnd h94
                    obtain ⟨S631, Fr56, le631, I1111, r457, bk56⟩ := Inv.lend1 (I1109.pull 4)
                    refine wl_op rfl (op_call (vs := [(Value.slice z12 m12 k12)]) rfl ca65 rfl (args1 rfl) (F65_ok I1111 r457 hx321) (fun v85 w844 S632 O56 le632 I1113 hv56 => ?_))
                    obtain ⟨z249, m249, k249, rfl, rfl⟩ := hv56
                    have I1112 := bk56 [Row (α := Int) 3 (Value.slice z249 m249 k249) (x321)] ⟨Row.free, trivial⟩ I1113 le632
                    refine wl_op rfl (op_fieldAddr (v := (Value.pointer (some ⟨g38, 0, none⟩))) rfl fa87_0 e2462 rfl ?_)
                    refine wl_op rfl (op_store (v := (Value.bool (out11.1))) (cs := #[(Value.bool (false)), (Value.slice none 0 0), (Value.slice none 0 0), (Value.slice z241 m241 k241), (Value.slice z243 m243 k243), (Value.slice z245 m245 k245)]) sh4 (I1112.pull 7) rfl rfl rfl (Nat.le_of_ble_eq_true rfl) rfl (fun w845 (I1114 : Inv w845 S628 (Cells (ptrBlk (Value.pointer (some ⟨g38, 0, none⟩))) 87 #[(Value.bool (out11.1)), (Value.slice none 0 0), (Value.slice none 0 0), (Value.slice z241 m241 k241), (Value.slice z243 m243 k243), (Value.slice z245 m245 k245)] :: Row (α := Int) 3 (Value.slice z249 m249 k249) (x321) :: Row (α := Int) 3 (Value.slice z12 m12 k12) (out12.2) :: Row (α := Int) 3 (Value.slice z248 m248 k248) (x320) :: Row (α := Int) 3 (Value.slice z11 m11 k11) (out12.1) :: Row (α := Control_tick) 87 (Value.slice z213 m213 k213) (s10.1) :: Row (α := Int) 3 (Value.slice z10 m10 k10) (out11.2.1) :: Row (α := Bool) 4 (Value.slice z215 m215 k215) (out11.2.2.1) :: Row (α := Int) 3 (Value.slice z241 m241 k241) (x269) :: Row (α := Int) 3 (Value.slice z243 m243 k243) (x269) :: Row (α := Bool) 4 (Value.slice z245 m245 k245) (out11.2.2.2.1) :: Row (α := Bool) 4 (Value.slice z247 m247 k247) (out11.2.2.2.2) :: Fr)) => ?_))
                    refine wl_op rfl (op_fieldAddr (v := (Value.pointer (some ⟨g38, 0, none⟩))) rfl fa87_1 e2462 rfl ?_)
                    refine wl_op rfl (op_store (v := (Value.slice z248 m248 k248)) (cs := #[(Value.bool (out11.1)), (Value.slice none 0 0), (Value.slice none 0 0), (Value.slice z241 m241 k241), (Value.slice z243 m243 k243), (Value.slice z245 m245 k245)]) sh34 I1114 rfl rfl rfl (Nat.le_of_ble_eq_true rfl) rfl (fun w846 (I1115 : Inv w846 S628 (Cells (ptrBlk (Value.pointer (some ⟨g38, 0, none⟩))) 87 #[(Value.bool (out11.1)), (Value.slice z248 m248 k248), (Value.slice none 0 0), (Value.slice z241 m241 k241), (Value.slice z243 m243 k243), (Value.slice z245 m245 k245)] :: Row (α := Int) 3 (Value.slice z249 m249 k249) (x321) :: Row (α := Int) 3 (Value.slice z12 m12 k12) (out12.2) :: Row (α := Int) 3 (Value.slice z248 m248 k248) (x320) :: Row (α := Int) 3 (Value.slice z11 m11 k11) (out12.1) :: Row (α := Control_tick) 87 (Value.slice z213 m213 k213) (s10.1) :: Row (α := Int) 3 (Value.slice z10 m10 k10) (out11.2.1) :: Row (α := Bool) 4 (Value.slice z215 m215 k215) (out11.2.2.1) :: Row (α := Int) 3 (Value.slice z241 m241 k241) (x269) :: Row (α := Int) 3 (Value.slice z243 m243 k243) (x269) :: Row (α := Bool) 4 (Value.slice z245 m245 k245) (out11.2.2.2.1) :: Row (α := Bool) 4 (Value.slice z247 m247 k247) (out11.2.2.2.2) :: Fr)) => ?_))
                    refine wl_op rfl (op_fieldAddr (v := (Value.pointer (some ⟨g38, 0, none⟩))) rfl fa87_2 e2462 rfl ?_)
                    refine wl_op rfl (op_store (v := (Value.slice z249 m249 k249)) (cs := #[(Value.bool (out11.1)), (Value.slice z248 m248 k248), (Value.slice none 0 0), (Value.slice z241 m241 k241), (Value.slice z243 m243 k243), (Value.slice z245 m245 k245)]) sh34 I1115 rfl rfl rfl (Nat.le_of_ble_eq_true rfl) rfl (fun w847 (I1116 : Inv w847 S628 (Cells (ptrBlk (Value.pointer (some ⟨g38, 0, none⟩))) 87 #[(Value.bool (out11.1)), (Value.slice z248 m248 k248), (Value.slice z249 m249 k249), (Value.slice z241 m241 k241), (Value.slice z243 m243 k243), (Value.slice z245 m245 k245)] :: Row (α := Int) 3 (Value.slice z249 m249 k249) (x321) :: Row (α := Int) 3 (Value.slice z12 m12 k12) (out12.2) :: Row (α := Int) 3 (Value.slice z248 m248 k248) (x320) :: Row (α := Int) 3 (Value.slice z11 m11 k11) (out12.1) :: Row (α := Control_tick) 87 (Value.slice z213 m213 k213) (s10.1) :: Row (α := Int) 3 (Value.slice z10 m10 k10) (out11.2.1) :: Row (α := Bool) 4 (Value.slice z215 m215 k215) (out11.2.2.1) :: Row (α := Int) 3 (Value.slice z241 m241 k241) (x269) :: Row (α := Int) 3 (Value.slice z243 m243 k243) (x269) :: Row (α := Bool) 4 (Value.slice z245 m245 k245) (out11.2.2.2.1) :: Row (α := Bool) 4 (Value.slice z247 m247 k247) (out11.2.2.2.2) :: Fr)) => ?_))
                    refine wl_nil ?_
                    refine wp_seq' ?_
                    refine wp_seq' ?_
                    refine wp_region' ?_
                    refine wl_op rfl (op_fieldAddr_t (v := (Value.pointer (some ⟨g1, 0, none⟩))) rfl fa24_1 e2454 ((p1.mono (((le2.trans le15).trans le612).trans le628)).at_ I1116) ?_)
                    refine wl_op rfl (op_load (v := (fieldPtr (Value.pointer (some ⟨g1, 0, none⟩)) 1)) (e := a0.Doors) rfl sh22 rfl (((p1.mono (((le2.trans le15).trans le612).trans le628)).at_ I1116).fld Panel.fld1) (fun u261 hu217 => ?_))
                    obtain ⟨z250, m250, k250, e2467⟩ := rv_form hu217
                    subst e2467
                    refine wl_op rfl (op_len_rv rfl Try.underlying22 rfl hu217 ?_)
                    refine wl_op rfl (op_move (v := (Value.int .i64 (0))) rfl rfl ?_)
                    refine wl_nil ?_
                    have hk12 : a0.Doors.length ≤ 9223372036854775807 := (rv_len hu217)
                    obtain ⟨out13, hrun13, h94⟩ := bnd h94
                    refine wp_cutN (fun f w => ∃ (S_ : PH), S628.Le S_ ∧ Inv w S_ (Row (α := Control_tick) 87 (Value.slice z213 m213 k213) (s10.1) :: Row (α := Int) 3 (Value.slice z10 m10 k10) (out11.2.1) :: Row (α := Int) 3 (Value.slice z11 m11 k11) (out12.1) :: Row (α := Int) 3 (Value.slice z12 m12 k12) (out12.2) :: Cells (ptrBlk (Value.pointer (some ⟨g38, 0, none⟩))) 87 #[(Value.bool (out11.1)), (Value.slice z248 m248 k248), (Value.slice z249 m249 k249), (Value.slice z241 m241 k241), (Value.slice z243 m243 k243), (Value.slice z245 m245 k245)] :: Row (α := Int) 3 (Value.slice z248 m248 k248) (x320) :: Row (α := Int) 3 (Value.slice z249 m249 k249) (x321) :: Row (α := Int) 3 (Value.slice z241 m241 k241) (out13.1) :: Row (α := Int) 3 (Value.slice z243 m243 k243) (out13.2) :: Row (α := Bool) 4 (Value.slice z245 m245 k245) (out11.2.2.2.1) :: Row (α := Bool) 4 (Value.slice z247 m247 k247) (out11.2.2.2.2) :: Fr) ∧ f 2 = (Value.slice z2 m2 k2) ∧ f 3 = (Value.pointer (some ⟨g1, 0, none⟩)) ∧ f 9 = (Value.slice z213 m213 k213) ∧ f 10 = (Value.bool (out11.1)) ∧ f 11 = (Value.slice z10 m10 k10) ∧ f 12 = (Value.slice z11 m11 k11) ∧ f 13 = (Value.slice z12 m12 k12) ∧ f 14 = (Value.int .i64 ((i10 : Int))) ∧ f 16 = (Value.pointer (some ⟨g38, 0, none⟩)) ∧ f 17 = (Value.slice z247 m247 k247) ∧ f 48 = (Value.int .i64 (a1)) ∧ f 49 = (Value.int .i64 ((i10 : Int))) ∧ f 155 = (Value.slice z250 m250 k250) ∧ f 156 = (Value.int .i64 ((a0.Doors.length : Int)))) ?_ ?_
                    · refine wp_block' ?_
                      refine wp_forS (I := fun (i13 : Nat) (s13 : (List Int × List Int)) (f : Frm) (w : World) => ∃ (S_ : PH), S628.Le S_ ∧ Inv w S_ (Row (α := Control_tick) 87 (Value.slice z213 m213 k213) (s10.1) :: Row (α := Int) 3 (Value.slice z10 m10 k10) (out11.2.1) :: Row (α := Int) 3 (Value.slice z11 m11 k11) (out12.1) :: Row (α := Int) 3 (Value.slice z12 m12 k12) (out12.2) :: Cells (ptrBlk (Value.pointer (some ⟨g38, 0, none⟩))) 87 #[(Value.bool (out11.1)), (Value.slice z248 m248 k248), (Value.slice z249 m249 k249), (Value.slice z241 m241 k241), (Value.slice z243 m243 k243), (Value.slice z245 m245 k245)] :: Row (α := Int) 3 (Value.slice z248 m248 k248) (x320) :: Row (α := Int) 3 (Value.slice z249 m249 k249) (x321) :: Row (α := Int) 3 (Value.slice z241 m241 k241) (s13.1) :: Row (α := Int) 3 (Value.slice z243 m243 k243) (s13.2) :: Row (α := Bool) 4 (Value.slice z245 m245 k245) (out11.2.2.2.1) :: Row (α := Bool) 4 (Value.slice z247 m247 k247) (out11.2.2.2.2) :: Fr) ∧ f 2 = (Value.slice z2 m2 k2) ∧ f 3 = (Value.pointer (some ⟨g1, 0, none⟩)) ∧ f 9 = (Value.slice z213 m213 k213) ∧ f 10 = (Value.bool (out11.1)) ∧ f 11 = (Value.slice z10 m10 k10) ∧ f 12 = (Value.slice z11 m11 k11) ∧ f 13 = (Value.slice z12 m12 k12) ∧ f 14 = (Value.int .i64 ((i10 : Int))) ∧ f 16 = (Value.pointer (some ⟨g38, 0, none⟩)) ∧ f 17 = (Value.slice z247 m247 k247) ∧ f 48 = (Value.int .i64 (a1)) ∧ f 49 = (Value.int .i64 ((i10 : Int))) ∧ f 155 = (Value.slice z250 m250 k250) ∧ f 156 = (Value.int .i64 ((a0.Doors.length : Int))) ∧ f 157 = (Value.int .i64 (i13 : Int))) hrun13 ⟨_, (PH.Le.refl _), ((((((((((((I1116.pull 7).drop.pull 10).pull 10).pull 10).pull 10).pull 5).pull 7).pull 6).pull 7).pull 8).pull 10).pull 10), e2453, e2454, e2455, e2456, e2457, e2458, e2459, e2460, e2462, e2463, e2464, e2465, rfl, rfl, rfl⟩ ?_ ?_
                      · rintro i13 s13 f w o13 hlt13 hI596 h121
                        obtain ⟨S761, le761, I1282, e2744, e2745, e2746, e2747, e2748, e2749, e2750, e2751, e2752, e2753, e2754, e2755, e2756, e2757, e2758⟩ := hI596
                        refine wp_seq' ?_
                        refine wp_region' ?_
                        refine wl_op rfl (op_lss (a := (i13 : Int)) (b := (a0.Doors.length : Int)) rfl e2758 e2757 ?_)
                        refine wl_nil ?_
                        refine wp_seq' ?_
                        refine wp_cond_t (b := decide ((i13 : Int) < (a0.Doors.length : Int))) rfl (len_t hlt13) ?_
                        refine wp_skip' ?_
                        refine wp_seq' ?_
                        refine wp_block' ?_
                        refine wp_seq' ?_
                        refine wp_region' ?_
                        refine wl_op rfl (op_move (v := (Value.int .i64 ((i13 : Int)))) rfl e2758 ?_)
                        obtain ⟨x346, hx346, h121⟩ := bnd h121
                        refine wl_op rfl (op_indexAddr_rv (v := (Value.slice z250 m250 k250)) (i := (i13 : Int)) (e := x346) rfl Try.underlying22 sh33 e2756 (hu217.mono le761) e2758 hx346 ?_)
                        refine wl_op rfl (op_load (v := (elemPtr (Value.slice z250 m250 k250) ((i13 : Int)) (Enc.sz Gate))) (e := x346) rfl sh33 rfl ((hu217.mono le761).elem I1282.in_ hx346) (fun u289 hu245 => ?_))
                        obtain ⟨c108, e2759, r551⟩ := Gate.inv hu245
                        subst e2759
                        obtain ⟨z272, m272, k272, e2760⟩ := rv_form r551
                        subst e2760
                        refine wl_op rfl (op_alloc (z := (Value.agg #[(Value.int .i64 (0)), (Value.slice none 0 0)])) rfl I1282 zo33 (fun g46 w983 (I1283 : Inv w983 S761 (Cells g46 33 #[(Value.int .i64 (0)), (Value.slice none 0 0)] :: Row (α := Control_tick) 87 (Value.slice z213 m213 k213) (s10.1) :: Row (α := Int) 3 (Value.slice z10 m10 k10) (out11.2.1) :: Row (α := Int) 3 (Value.slice z11 m11 k11) (out12.1) :: Row (α := Int) 3 (Value.slice z12 m12 k12) (out12.2) :: Cells (ptrBlk (Value.pointer (some ⟨g38, 0, none⟩))) 87 #[(Value.bool (out11.1)), (Value.slice z248 m248 k248), (Value.slice z249 m249 k249), (Value.slice z241 m241 k241), (Value.slice z243 m243 k243), (Value.slice z245 m245 k245)] :: Row (α := Int) 3 (Value.slice z248 m248 k248) (x320) :: Row (α := Int) 3 (Value.slice z249 m249 k249) (x321) :: Row (α := Int) 3 (Value.slice z241 m241 k241) (s13.1) :: Row (α := Int) 3 (Value.slice z243 m243 k243) (s13.2) :: Row (α := Bool) 4 (Value.slice z245 m245 k245) (out11.2.2.2.1) :: Row (α := Bool) 4 (Value.slice z247 m247 k247) (out11.2.2.2.2) :: Fr)) => ?_))
                        refine wl_op rfl (op_assign (v := (Value.int .i64 ((i13 : Int)))) rfl rfl ?_)
                        refine wl_op rfl (op_store (v := (Value.agg #[(Value.int .i64 (x346.Wait)), (Value.slice z272 m272 k272)])) (cs := #[(Value.int .i64 (0)), (Value.slice none 0 0)]) sh33 I1283 rfl rfl rfl (Nat.le_of_ble_eq_true rfl) rfl (fun w984 (I1284 : Inv w984 S761 (Cells g46 33 #[(Value.int .i64 (x346.Wait)), (Value.slice z272 m272 k272)] :: Row (α := Control_tick) 87 (Value.slice z213 m213 k213) (s10.1) :: Row (α := Int) 3 (Value.slice z10 m10 k10) (out11.2.1) :: Row (α := Int) 3 (Value.slice z11 m11 k11) (out12.1) :: Row (α := Int) 3 (Value.slice z12 m12 k12) (out12.2) :: Cells (ptrBlk (Value.pointer (some ⟨g38, 0, none⟩))) 87 #[(Value.bool (out11.1)), (Value.slice z248 m248 k248), (Value.slice z249 m249 k249), (Value.slice z241 m241 k241), (Value.slice z243 m243 k243), (Value.slice z245 m245 k245)] :: Row (α := Int) 3 (Value.slice z248 m248 k248) (x320) :: Row (α := Int) 3 (Value.slice z249 m249 k249) (x321) :: Row (α := Int) 3 (Value.slice z241 m241 k241) (s13.1) :: Row (α := Int) 3 (Value.slice z243 m243 k243) (s13.2) :: Row (α := Bool) 4 (Value.slice z245 m245 k245) (out11.2.2.2.1) :: Row (α := Bool) 4 (Value.slice z247 m247 k247) (out11.2.2.2.2) :: Fr)) => ?_))
                        refine wl_nil ?_
                        obtain ⟨v103, h124, h121⟩ := bnd h121
                        refine wp_cut (fun f w => ∃ (S_ : PH), S761.Le S_ ∧ Inv w S_ (Row (α := Control_tick) 87 (Value.slice z213 m213 k213) (s10.1) :: Row (α := Int) 3 (Value.slice z10 m10 k10) (out11.2.1) :: Row (α := Int) 3 (Value.slice z11 m11 k11) (out12.1) :: Row (α := Int) 3 (Value.slice z12 m12 k12) (out12.2) :: Cells (ptrBlk (Value.pointer (some ⟨g38, 0, none⟩))) 87 #[(Value.bool (out11.1)), (Value.slice z248 m248 k248), (Value.slice z249 m249 k249), (Value.slice z241 m241 k241), (Value.slice z243 m243 k243), (Value.slice z245 m245 k245)] :: Row (α := Int) 3 (Value.slice z248 m248 k248) (x320) :: Row (α := Int) 3 (Value.slice z249 m249 k249) (x321) :: Row (α := Int) 3 (Value.slice z241 m241 k241) (v103) :: Row (α := Int) 3 (Value.slice z243 m243 k243) (s13.2) :: Row (α := Bool) 4 (Value.slice z245 m245 k245) (out11.2.2.2.1) :: Row (α := Bool) 4 (Value.slice z247 m247 k247) (out11.2.2.2.2) :: Fr) ∧ f 2 = (Value.slice z2 m2 k2) ∧ f 3 = (Value.pointer (some ⟨g1, 0, none⟩)) ∧ f 9 = (Value.slice z213 m213 k213) ∧ f 10 = (Value.bool (out11.1)) ∧ f 11 = (Value.slice z10 m10 k10) ∧ f 12 = (Value.slice z11 m11 k11) ∧ f 13 = (Value.slice z12 m12 k12) ∧ f 14 = (Value.int .i64 ((i10 : Int))) ∧ f 16 = (Value.pointer (some ⟨g38, 0, none⟩)) ∧ f 17 = (Value.slice z247 m247 k247) ∧ f 21 = (Value.int .i64 ((i13 : Int))) ∧ f 48 = (Value.int .i64 (a1)) ∧ f 49 = (Value.int .i64 ((i10 : Int))) ∧ f 155 = (Value.slice z250 m250 k250) ∧ f 156 = (Value.int .i64 ((a0.Doors.length : Int))) ∧ f 157 = (Value.int .i64 ((i13 : Int)))) ?_ ?_
                        · refine wp_seq' ?_
                          refine wp_region' ?_
                          refine wl_op rfl (op_move (v := (Value.bool (out11.1))) rfl e2747 ?_)
                          refine wl_nil ?_
                          rcases ifs h124 with ⟨hc213, h124⟩ | ⟨hc213, h124⟩
                          · refine wp_cond_t (b := out11.1) rfl hc213 ?_
                            obtain ⟨x349, hx349, h124⟩ := bnd h124
                            obtain ⟨x350, hx350, h124⟩ := bnd h124
                            refine wp_draw (sps := [⟨some 163, [], [0], fun vs_ T_ => fr0 vs_ 0 = (Value.pointer (some ⟨g38, 3, none⟩)), [], [], [], fun _ h_ => h_⟩, ⟨some 164, [0], [1], fun vs_ T_ => fr0 vs_ 0 = (Value.slice z241 m241 k241), [0], [], [], fun _ h_ => h_⟩, ⟨some 165, [], [2], fun vs_ T_ => fr0 vs_ 0 = (Value.int .i64 ((i13 : Int))), [], [], [], fun _ h_ => h_⟩, ⟨some 166, [], [3], fun vs_ T_ => fr0 vs_ 0 = (Value.agg #[(Value.bool (out11.1)), (Value.slice z248 m248 k248), (Value.slice z249 m249 k249), (Value.slice z241 m241 k241), (Value.slice z243 m243 k243), (Value.slice z245 m245 k245)]), [0], [], [], fun _ h_ => h_⟩, ⟨some 167, [], [4], fun vs_ T_ => RV T_ (fr0 vs_ 0) a0, [], [], [], fun hle_ h_ => h_.mono hle_⟩, ⟨some 168, [], [5], fun vs_ T_ => fr0 vs_ 0 = (Value.int .i64 ((i10 : Int))), [], [], [], fun _ h_ => h_⟩, ⟨some 169, [], [6], fun vs_ T_ => fr0 vs_ 0 = (Value.agg #[(Value.int .i64 (x346.Wait)), (Value.slice z272 m272 k272)]), [1], [], [], fun _ h_ => h_⟩, ⟨some 170, [3, 4, 5, 6], [7], fun vs_ T_ => fr0 vs_ 0 = (Value.int .i64 (x349)), [2, 3, 4, 5, 6], [], [], fun _ h_ => h_⟩, ⟨some 171, [0, 1, 2, 3, 4, 5, 6, 7], [8], fun vs_ T_ => fr0 vs_ 0 = (elemPtr (Value.slice z241 m241 k241) ((i13 : Int)) (Enc.sz Int)), [2], [], [], fun _ h_ => h_⟩, ⟨none, [0, 1, 2, 3, 4, 5, 6, 7, 8], [], fun vs_ T_ => True, [], [2], [7], fun _ h_ => h_⟩]) (tks := [⟨none, none, [], fun vs_ => Cells (ptrBlk (Value.pointer (some ⟨g38, 0, none⟩))) 87 #[(Value.bool (out11.1)), (Value.slice z248 m248 k248), (Value.slice z249 m249 k249), (Value.slice z241 m241 k241), (Value.slice z243 m243 k243), (Value.slice z245 m245 k245)]⟩, ⟨none, none, [], fun vs_ => Cells g46 33 #[(Value.int .i64 (x346.Wait)), (Value.slice z272 m272 k272)]⟩, ⟨none, some 9, [], fun vs_ => Row (α := Int) 3 (Value.slice z241 m241 k241) (s13.1)⟩, ⟨none, none, [], fun vs_ => Row (α := Int) 3 (Value.slice z243 m243 k243) (s13.2)⟩, ⟨none, none, [], fun vs_ => Row (α := Bool) 4 (Value.slice z245 m245 k245) (out11.2.2.2.1)⟩, ⟨none, none, [], fun vs_ => Row (α := Int) 3 (Value.slice z248 m248 k248) (x320)⟩, ⟨none, none, [], fun vs_ => Row (α := Int) 3 (Value.slice z249 m249 k249) (x321)⟩, ⟨some 9, none, [], fun vs_ => Row (α := Int) 3 (Value.slice z241 m241 k241) (s13.1.set ((i13 : Int)).toNat x349)⟩]) (O := Row (α := Control_tick) 87 (Value.slice z213 m213 k213) (s10.1) :: Row (α := Int) 3 (Value.slice z10 m10 k10) (out11.2.1) :: Row (α := Int) 3 (Value.slice z11 m11 k11) (out12.1) :: Row (α := Int) 3 (Value.slice z12 m12 k12) (out12.2) :: Row (α := Bool) 4 (Value.slice z247 m247 k247) (out11.2.2.2.2) :: Fr) rfl (by kernel_rfl) (((((((I1284.pull 7).pull 7).pull 10).pull 10).pull 10).pull 5).pull 10) ⟨?_, ?_, ?_, ?_, ?_, ?_, ?_, ?_, ?_, ?_, trivial⟩ ?_
                            · intro vs584 f w1002 S779 X533 le779 hA533 hK584 hI608
                              have I1308 : Inv w1002 S779 (X533) := hI608
                              refine opg_plain rfl rfl (op_fieldAddr (v := (Value.pointer (some ⟨g38, 0, none⟩))) rfl fa87_3 ((hK584 16 (keep_of rfl)).trans e2752) rfl ?_)
                              refine ⟨_, _, rfl, PH.Le.refl _, ?_, ?_⟩
                              · exact rfl
                              · exact I1308
                            · intro vs585 f w1003 S780 X534 le780 hA534 hK585 hI609
                              have I1309 : Inv w1003 S780 (Cells (ptrBlk (Value.pointer (some ⟨g38, 0, none⟩))) 87 #[(Value.bool (out11.1)), (Value.slice z248 m248 k248), (Value.slice z249 m249 k249), (Value.slice z241 m241 k241), (Value.slice z243 m243 k243), (Value.slice z245 m245 k245)] :: X534) := hI609
                              have q1101 : f 163 = (Value.pointer (some ⟨g38, 3, none⟩)) := ((hA534.1 _ rfl).1 _ rfl).trans (hA534.1 _ rfl).2
                              refine opg_plain rfl rfl (op_load1 (c := (Value.slice z241 m241 k241)) rfl sh34 (I1309.nth 0 rfl) q1101 rfl ?_)
                              refine ⟨_, _, rfl, PH.Le.refl _, ?_, ?_⟩
                              · exact rfl
                              · exact I1309
                            · intro vs586 f w1004 S781 X535 le781 hA535 hK586 hI610
                              have I1310 : Inv w1004 S781 (X535) := hI610
                              refine opg_plain rfl rfl (op_move (v := (Value.int .i64 ((i13 : Int)))) rfl (hK586 21 (keep_of rfl)) ?_)
                              refine ⟨_, _, rfl, PH.Le.refl _, ?_, ?_⟩
                              · exact rfl
                              · exact I1310
                            · intro vs587 f w1005 S782 X536 le782 hA536 hK587 hI611
                              have I1311 : Inv w1005 S782 (Cells (ptrBlk (Value.pointer (some ⟨g38, 0, none⟩))) 87 #[(Value.bool (out11.1)), (Value.slice z248 m248 k248), (Value.slice z249 m249 k249), (Value.slice z241 m241 k241), (Value.slice z243 m243 k243), (Value.slice z245 m245 k245)] :: X536) := hI611
                              refine opg_plain rfl rfl (op_loadN (l := [(Value.bool (out11.1)), (Value.slice z248 m248 k248), (Value.slice z249 m249 k249), (Value.slice z241 m241 k241), (Value.slice z243 m243 k243), (Value.slice z245 m245 k245)]) rfl sh87 (I1311.nth 0 rfl) ((hK587 16 (keep_of rfl)).trans e2752) rfl rfl ?_)
                              refine ⟨_, _, rfl, PH.Le.refl _, ?_, ?_⟩
                              · exact rfl
                              · exact I1311
                            · intro vs588 f w1006 S783 X537 le783 hA537 hK588 hI612
                              have I1312 : Inv w1006 S783 (X537) := hI612
                              refine opg_plain rfl rfl (op_load (v := (Value.pointer (some ⟨g1, 0, none⟩))) (e := a0) rfl sh24 ((hK588 3 (keep_of rfl)).trans e2745) ((p1.mono (((((le2.trans le15).trans le612).trans le628).trans le761).trans le783)).at_ I1312) (fun u295 hu251 => ?_))
                              obtain ⟨c112, e2783, r572⟩ := Panel.inv hu251
                              subst e2783
                              obtain ⟨z276, m276, k276, e2784⟩ := rv_form r572
                              subst e2784
                              refine ⟨_, _, rfl, PH.Le.refl _, ?_, ?_⟩
                              · exact (Panel.rv (s := a0) r572)
                              · exact I1312
                            · intro vs589 f w1007 S784 X538 le784 hA538 hK589 hI613
                              have I1313 : Inv w1007 S784 (X538) := hI613
                              refine opg_plain rfl rfl (op_move (v := (Value.int .i64 ((i10 : Int)))) rfl ((hK589 14 (keep_of rfl)).trans e2751) ?_)
                              refine ⟨_, _, rfl, PH.Le.refl _, ?_, ?_⟩
                              · exact rfl
                              · exact I1313
                            · intro vs590 f w1008 S785 X539 le785 hA539 hK590 hI614
                              have I1314 : Inv w1008 S785 (Cells g46 33 #[(Value.int .i64 (x346.Wait)), (Value.slice z272 m272 k272)] :: X539) := hI614
                              refine opg_plain rfl rfl (op_loadN (l := [(Value.int .i64 (x346.Wait)), (Value.slice z272 m272 k272)]) rfl sh33 (I1314.nth 0 rfl) (hK590 22 (keep_of rfl)) rfl rfl ?_)
                              refine ⟨_, _, rfl, PH.Le.refl _, ?_, ?_⟩
                              · exact rfl
                              · exact I1314
                            · intro vs591 f w1009 S786 X540 le786 hA540 hK591 hI615
                              have I1315 : Inv w1009 S786 (Row (α := Int) 3 (Value.slice z241 m241 k241) (s13.1) :: Row (α := Int) 3 (Value.slice z243 m243 k243) (s13.2) :: Row (α := Bool) 4 (Value.slice z245 m245 k245) (out11.2.2.2.1) :: Row (α := Int) 3 (Value.slice z248 m248 k248) (x320) :: Row (α := Int) 3 (Value.slice z249 m249 k249) (x321) :: X540) := hI615
                              have q1102 : f 166 = (Value.agg #[(Value.bool (out11.1)), (Value.slice z248 m248 k248), (Value.slice z249 m249 k249), (Value.slice z241 m241 k241), (Value.slice z243 m243 k243), (Value.slice z245 m245 k245)]) := ((hA540.1 _ rfl).1 _ rfl).trans (hA540.1 _ rfl).2
                              have q1103 : f 167 = vs591 4 := (hA540.2.1 _ rfl).1 _ rfl
                              have r573 : RV S786 (vs591 4) a0 := (hA540.2.1 _ rfl).2
                              obtain ⟨u296, hu252⟩ : ∃ u, vs591 4 = u := ⟨_, rfl⟩
                              rw [hu252] at q1103 r573
                              obtain ⟨c113, e2785, r574⟩ := Panel.inv r573
                              subst e2785
                              obtain ⟨z277, m277, k277, e2786⟩ := rv_form r574
                              subst e2786
                              have q1104 : f 168 = (Value.int .i64 ((i10 : Int))) := ((hA540.2.2.1 _ rfl).1 _ rfl).trans (hA540.2.2.1 _ rfl).2
                              have q1105 : f 169 = (Value.agg #[(Value.int .i64 (x346.Wait)), (Value.slice z272 m272 k272)]) := ((hA540.2.2.2.1 _ rfl).1 _ rfl).trans (hA540.2.2.2.1 _ rfl).2
                              obtain ⟨S787, Fr72, le787, I1316, r575, r576, r577, r578, r579, bk72⟩ := Inv.lend5 (((((I1315.pull 2).pull 2).pull 2).pull 4).pull 4)
                              refine opg_plain rfl rfl (op_call (vs := [(Value.agg #[(Value.bool (out11.1)), (Value.slice z248 m248 k248), (Value.slice z249 m249 k249), (Value.slice z241 m241 k241), (Value.slice z243 m243 k243), (Value.slice z245 m245 k245)]), (Value.agg #[(Value.int .i64 (a0.Sensors)), (Value.slice z277 m277 k277), (Value.int .i64 (a0.Stale)), (Value.int .i64 (a0.Limit))]), (Value.int .i64 ((i10 : Int))), (Value.agg #[(Value.int .i64 (x346.Wait)), (Value.slice z272 m272 k272)])]) rfl ca66 rfl (args4 q1102 q1103 q1104 q1105) (F66_ok I1316 (Control_tick.rv (s := (⟨out11.1, x320, x321, s13.1, s13.2, out11.2.2.2.1⟩ : Control_tick)) r575 r576 r577 r578 r579) (Panel.rv (s := a0) (r574.mono le787)) (Gate.rv (s := x346) (r551.mono (le786.trans le787))) hx349) (fun v105 w1010 S788 O72 le788 I1318 hv72 => ?_))
                              obtain ⟨rfl, rfl⟩ := hv72
                              have I1317 := bk72 [] trivial I1318 le788
                              refine ⟨_, _, rfl, PH.Le.refl _, ?_, ?_⟩
                              · exact rfl
                              · exact (((((I1317.pull 1).pull 1).pull 4).pull 4).pull 4)
                            · intro vs592 f w1011 S789 X541 le789 hA541 hK592 hI616
                              have I1319 : Inv w1011 S789 (Row (α := Int) 3 (Value.slice z241 m241 k241) (s13.1) :: X541) := hI616
                              have q1106 : f 163 = (Value.pointer (some ⟨g38, 3, none⟩)) := ((hA541.1 _ rfl).1 _ rfl).trans (hA541.1 _ rfl).2
                              have q1107 : f 164 = (Value.slice z241 m241 k241) := ((hA541.2.1 _ rfl).1 _ rfl).trans (hA541.2.1 _ rfl).2
                              have q1108 : f 165 = (Value.int .i64 ((i13 : Int))) := ((hA541.2.2.1 _ rfl).1 _ rfl).trans (hA541.2.2.1 _ rfl).2
                              refine opg_plain rfl rfl (op_indexAddr_src (v := (Value.slice z241 m241 k241)) (i := (i13 : Int)) (e := x350) rfl Try.underlying34 sh3 q1107 (Inv.rowSrc (I1319.nth 0 rfl)) q1108 hx350 ?_)
                              refine ⟨_, _, rfl, PH.Le.refl _, ?_, ?_⟩
                              · exact rfl
                              · exact I1319
                            · intro vs593 f w1012 S790 X542 le790 hA542 hK593 hI617
                              have I1320 : Inv w1012 S790 (Row (α := Int) 3 (Value.slice z241 m241 k241) (s13.1) :: X542) := hI617
                              have q1109 : f 163 = (Value.pointer (some ⟨g38, 3, none⟩)) := ((hA542.1 _ rfl).1 _ rfl).trans (hA542.1 _ rfl).2
                              have q1110 : f 164 = (Value.slice z241 m241 k241) := ((hA542.2.1 _ rfl).1 _ rfl).trans (hA542.2.1 _ rfl).2
                              have q1111 : f 165 = (Value.int .i64 ((i13 : Int))) := ((hA542.2.2.1 _ rfl).1 _ rfl).trans (hA542.2.2.1 _ rfl).2
                              have q1112 : f 166 = (Value.agg #[(Value.bool (out11.1)), (Value.slice z248 m248 k248), (Value.slice z249 m249 k249), (Value.slice z241 m241 k241), (Value.slice z243 m243 k243), (Value.slice z245 m245 k245)]) := ((hA542.2.2.2.1 _ rfl).1 _ rfl).trans (hA542.2.2.2.1 _ rfl).2
                              have q1113 : f 167 = vs593 4 := (hA542.2.2.2.2.1 _ rfl).1 _ rfl
                              have r580 : RV S790 (vs593 4) a0 := (hA542.2.2.2.2.1 _ rfl).2
                              obtain ⟨u297, hu253⟩ : ∃ u, vs593 4 = u := ⟨_, rfl⟩
                              rw [hu253] at q1113 r580
                              obtain ⟨c114, e2787, r581⟩ := Panel.inv r580
                              subst e2787
                              obtain ⟨z278, m278, k278, e2788⟩ := rv_form r581
                              subst e2788
                              have q1114 : f 168 = (Value.int .i64 ((i10 : Int))) := ((hA542.2.2.2.2.2.1 _ rfl).1 _ rfl).trans (hA542.2.2.2.2.2.1 _ rfl).2
                              have q1115 : f 169 = (Value.agg #[(Value.int .i64 (x346.Wait)), (Value.slice z272 m272 k272)]) := ((hA542.2.2.2.2.2.2.1 _ rfl).1 _ rfl).trans (hA542.2.2.2.2.2.2.1 _ rfl).2
                              have q1116 : f 170 = (Value.int .i64 (x349)) := ((hA542.2.2.2.2.2.2.2.1 _ rfl).1 _ rfl).trans (hA542.2.2.2.2.2.2.2.1 _ rfl).2
                              have q1117 : f 171 = (elemPtr (Value.slice z241 m241 k241) ((i13 : Int)) (Enc.sz Int)) := ((hA542.2.2.2.2.2.2.2.2.1 _ rfl).1 _ rfl).trans (hA542.2.2.2.2.2.2.2.2.1 _ rfl).2
                              refine opg_plain rfl rfl (op_storeRow (u := (Value.int .i64 (x349))) (e' := x349) sh3 I1320 q1117 q1116 hx350 (rv_int' _) (fun w1013 I1321 => ?_))
                              refine ⟨undef, _, rfl, PH.Le.refl _, ?_, ?_⟩
                              · exact trivial
                              · exact I1321
                            · intro vs594 f w1014 S791 le791 hF52 hK594 hI618
                              have e2789 : f 2 = (Value.slice z2 m2 k2) := (hK594 2 (keep_all rfl)).trans e2744
                              have e2790 : f 3 = (Value.pointer (some ⟨g1, 0, none⟩)) := (hK594 3 (keep_all rfl)).trans e2745
                              have e2791 : f 9 = (Value.slice z213 m213 k213) := (hK594 9 (keep_all rfl)).trans e2746
                              have e2792 : f 10 = (Value.bool (out11.1)) := (hK594 10 (keep_all rfl)).trans e2747
                              have e2793 : f 11 = (Value.slice z10 m10 k10) := (hK594 11 (keep_all rfl)).trans e2748
                              have e2794 : f 12 = (Value.slice z11 m11 k11) := (hK594 12 (keep_all rfl)).trans e2749
                              have e2795 : f 13 = (Value.slice z12 m12 k12) := (hK594 13 (keep_all rfl)).trans e2750
                              have e2796 : f 14 = (Value.int .i64 ((i10 : Int))) := (hK594 14 (keep_all rfl)).trans e2751
                              have e2797 : f 16 = (Value.pointer (some ⟨g38, 0, none⟩)) := (hK594 16 (keep_all rfl)).trans e2752
                              have e2798 : f 17 = (Value.slice z247 m247 k247) := (hK594 17 (keep_all rfl)).trans e2753
                              have e2799 : f 21 = (Value.int .i64 ((i13 : Int))) := (hK594 21 (keep_all rfl)).trans rfl
                              have e2800 : f 48 = (Value.int .i64 (a1)) := (hK594 48 (keep_all rfl)).trans e2754
                              have e2801 : f 49 = (Value.int .i64 ((i10 : Int))) := (hK594 49 (keep_all rfl)).trans e2755
                              have e2802 : f 155 = (Value.slice z250 m250 k250) := (hK594 155 (keep_all rfl)).trans e2756
                              have e2803 : f 156 = (Value.int .i64 ((a0.Doors.length : Int))) := (hK594 156 (keep_all rfl)).trans e2757
                              have e2804 : f 157 = (Value.int .i64 ((i13 : Int))) := (hK594 157 (keep_all rfl)).trans e2758
                              have I1322 : Inv w1014 S791 (Cells (ptrBlk (Value.pointer (some ⟨g38, 0, none⟩))) 87 #[(Value.bool (out11.1)), (Value.slice z248 m248 k248), (Value.slice z249 m249 k249), (Value.slice z241 m241 k241), (Value.slice z243 m243 k243), (Value.slice z245 m245 k245)] :: Cells g46 33 #[(Value.int .i64 (x346.Wait)), (Value.slice z272 m272 k272)] :: Row (α := Int) 3 (Value.slice z243 m243 k243) (s13.2) :: Row (α := Bool) 4 (Value.slice z245 m245 k245) (out11.2.2.2.1) :: Row (α := Int) 3 (Value.slice z248 m248 k248) (x320) :: Row (α := Int) 3 (Value.slice z249 m249 k249) (x321) :: Row (α := Int) 3 (Value.slice z241 m241 k241) (s13.1.set ((i13 : Int)).toNat x349) :: Row (α := Control_tick) 87 (Value.slice z213 m213 k213) (s10.1) :: Row (α := Int) 3 (Value.slice z10 m10 k10) (out11.2.1) :: Row (α := Int) 3 (Value.slice z11 m11 k11) (out12.1) :: Row (α := Int) 3 (Value.slice z12 m12 k12) (out12.2) :: Row (α := Bool) 4 (Value.slice z247 m247 k247) (out11.2.2.2.2) :: Fr) := hI618
                              obtain rfl := Option.some.inj h124
                              exact ⟨_, le791, ((((((((((((I1322.pull 1).drop.pull 10).pull 3).pull 3).pull 6).pull 6).pull 6).pull 6).pull 10).pull 10).pull 10).pull 10), e2789, e2790, e2791, e2792, e2793, e2794, e2795, e2796, e2797, e2798, e2799, e2800, e2801, e2802, e2803, e2804⟩
                          · refine wp_cond_f (b := out11.1) rfl hc213 ?_
                            refine wp_skip' ?_
                            obtain rfl := Option.some.inj h124
                            exact ⟨_, (PH.Le.refl _), ((((((((((((I1284).drop.pull 10).pull 10).pull 10).pull 10).pull 10).pull 10).pull 10).pull 10).pull 10).pull 10).pull 10), e2744, e2745, e2746, e2747, e2748, e2749, e2750, e2751, e2752, e2753, rfl, e2754, e2755, e2756, e2757, e2758⟩
                        · rintro f w ⟨S792, le792, I1323, e2805, e2806, e2807, e2808, e2809, e2810, e2811, e2812, e2813, e2814, e2815, e2816, e2817, e2818, e2819, e2820⟩
                          refine wp_seq' ?_
                          refine wp_region' ?_
                          refine wl_op rfl (op_move (v := (Value.slice z247 m247 k247)) rfl e2814 ?_)
                          refine wl_op rfl (op_move (v := (Value.int .i64 ((i13 : Int)))) rfl e2815 ?_)
                          obtain ⟨x351, hx351, h121⟩ := bnd h121
                          refine wl_op rfl (op_indexAddr_src (v := (Value.slice z247 m247 k247)) (i := (i13 : Int)) (e := x351) rfl Try.underlying83 sh4 rfl (Inv.rowSrc (I1323.nth 10 rfl)) rfl hx351 ?_)
                          refine wl_op rfl (op_load_bool (v := (elemPtr (Value.slice z247 m247 k247) ((i13 : Int)) (Enc.sz Bool))) (e := x351) rfl sh4 rfl ((I1323.nth 10 rfl).rowElem hx351) ?_)
                          refine wl_op rfl (op_not (b := x351) rfl rfl ?_)
                          refine wl_nil ?_
                          rcases ifs h121 with ⟨hc214, h121⟩ | ⟨hc214, h121⟩
                          · refine wp_cond_t (b := !x351) rfl hc214 ?_
                            obtain ⟨x352, hx352, h121⟩ := bnd h121
                            obtain ⟨x353, hx353, h121⟩ := bnd h121
                            refine wp_draw (sps := [⟨some 177, [], [0], fun vs_ T_ => fr0 vs_ 0 = (Value.pointer (some ⟨g38, 4, none⟩)), [], [], [], fun _ h_ => h_⟩, ⟨some 178, [0], [1], fun vs_ T_ => fr0 vs_ 0 = (Value.slice z243 m243 k243), [0], [], [], fun _ h_ => h_⟩, ⟨some 179, [], [2], fun vs_ T_ => fr0 vs_ 0 = (Value.int .i64 ((i13 : Int))), [], [], [], fun _ h_ => h_⟩, ⟨some 180, [], [3], fun vs_ T_ => fr0 vs_ 0 = (Value.pointer (some ⟨g38, 3, none⟩)), [], [], [], fun _ h_ => h_⟩, ⟨some 181, [3], [4], fun vs_ T_ => fr0 vs_ 0 = (Value.slice z241 m241 k241), [0], [], [], fun _ h_ => h_⟩, ⟨some 182, [], [5], fun vs_ T_ => fr0 vs_ 0 = (Value.int .i64 ((i13 : Int))), [], [], [], fun _ h_ => h_⟩, ⟨some 183, [3, 4, 5], [6], fun vs_ T_ => fr0 vs_ 0 = (elemPtr (Value.slice z241 m241 k241) ((i13 : Int)) (Enc.sz Int)), [1], [], [], fun _ h_ => h_⟩, ⟨some 184, [3, 4, 5, 6], [7], fun vs_ T_ => fr0 vs_ 0 = (Value.int .i64 (x352)), [1], [], [], fun _ h_ => h_⟩, ⟨some 185, [0, 1, 2, 3, 4, 5, 6, 7], [8], fun vs_ T_ => fr0 vs_ 0 = (elemPtr (Value.slice z243 m243 k243) ((i13 : Int)) (Enc.sz Int)), [2], [], [], fun _ h_ => h_⟩, ⟨none, [0, 1, 2, 3, 4, 5, 6, 7, 8], [], fun vs_ T_ => True, [], [2], [3], fun _ h_ => h_⟩]) (tks := [⟨none, none, [], fun vs_ => Cells (ptrBlk (Value.pointer (some ⟨g38, 0, none⟩))) 87 #[(Value.bool (out11.1)), (Value.slice z248 m248 k248), (Value.slice z249 m249 k249), (Value.slice z241 m241 k241), (Value.slice z243 m243 k243), (Value.slice z245 m245 k245)]⟩, ⟨none, none, [], fun vs_ => Row (α := Int) 3 (Value.slice z241 m241 k241) (v103)⟩, ⟨none, some 9, [], fun vs_ => Row (α := Int) 3 (Value.slice z243 m243 k243) (s13.2)⟩, ⟨some 9, none, [], fun vs_ => Row (α := Int) 3 (Value.slice z243 m243 k243) (s13.2.set ((i13 : Int)).toNat x352)⟩]) (O := Row (α := Control_tick) 87 (Value.slice z213 m213 k213) (s10.1) :: Row (α := Int) 3 (Value.slice z10 m10 k10) (out11.2.1) :: Row (α := Int) 3 (Value.slice z11 m11 k11) (out12.1) :: Row (α := Int) 3 (Value.slice z12 m12 k12) (out12.2) :: Row (α := Int) 3 (Value.slice z248 m248 k248) (x320) :: Row (α := Int) 3 (Value.slice z249 m249 k249) (x321) :: Row (α := Bool) 4 (Value.slice z245 m245 k245) (out11.2.2.2.1) :: Row (α := Bool) 4 (Value.slice z247 m247 k247) (out11.2.2.2.2) :: Fr) rfl (by kernel_rfl) (((I1323.pull 8).pull 8).pull 6) ⟨?_, ?_, ?_, ?_, ?_, ?_, ?_, ?_, ?_, ?_, trivial⟩ ?_
                            · intro vs595 f w1016 S793 X543 le793 hA543 hK595 hI619
                              have I1325 : Inv w1016 S793 (X543) := hI619
                              refine opg_plain rfl rfl (op_fieldAddr (v := (Value.pointer (some ⟨g38, 0, none⟩))) rfl fa87_4 ((hK595 16 (keep_of rfl)).trans e2813) rfl ?_)
                              refine ⟨_, _, rfl, PH.Le.refl _, ?_, ?_⟩
                              · exact rfl
                              · exact I1325
                            · intro vs596 f w1017 S794 X544 le794 hA544 hK596 hI620
                              have I1326 : Inv w1017 S794 (Cells (ptrBlk (Value.pointer (some ⟨g38, 0, none⟩))) 87 #[(Value.bool (out11.1)), (Value.slice z248 m248 k248), (Value.slice z249 m249 k249), (Value.slice z241 m241 k241), (Value.slice z243 m243 k243), (Value.slice z245 m245 k245)] :: X544) := hI620
                              have q1118 : f 177 = (Value.pointer (some ⟨g38, 4, none⟩)) := ((hA544.1 _ rfl).1 _ rfl).trans (hA544.1 _ rfl).2
                              refine opg_plain rfl rfl (op_load1 (c := (Value.slice z243 m243 k243)) rfl sh34 (I1326.nth 0 rfl) q1118 rfl ?_)
                              refine ⟨_, _, rfl, PH.Le.refl _, ?_, ?_⟩
                              · exact rfl
                              · exact I1326
                            · intro vs597 f w1018 S795 X545 le795 hA545 hK597 hI621
                              have I1327 : Inv w1018 S795 (X545) := hI621
                              refine opg_plain rfl rfl (op_move (v := (Value.int .i64 ((i13 : Int)))) rfl ((hK597 21 (keep_of rfl)).trans e2815) ?_)
                              refine ⟨_, _, rfl, PH.Le.refl _, ?_, ?_⟩
                              · exact rfl
                              · exact I1327
                            · intro vs598 f w1019 S796 X546 le796 hA546 hK598 hI622
                              have I1328 : Inv w1019 S796 (X546) := hI622
                              refine opg_plain rfl rfl (op_fieldAddr (v := (Value.pointer (some ⟨g38, 0, none⟩))) rfl fa87_3 ((hK598 16 (keep_of rfl)).trans e2813) rfl ?_)
                              refine ⟨_, _, rfl, PH.Le.refl _, ?_, ?_⟩
                              · exact rfl
                              · exact I1328
                            · intro vs599 f w1020 S797 X547 le797 hA547 hK599 hI623
                              have I1329 : Inv w1020 S797 (Cells (ptrBlk (Value.pointer (some ⟨g38, 0, none⟩))) 87 #[(Value.bool (out11.1)), (Value.slice z248 m248 k248), (Value.slice z249 m249 k249), (Value.slice z241 m241 k241), (Value.slice z243 m243 k243), (Value.slice z245 m245 k245)] :: X547) := hI623
                              have q1119 : f 180 = (Value.pointer (some ⟨g38, 3, none⟩)) := ((hA547.1 _ rfl).1 _ rfl).trans (hA547.1 _ rfl).2
                              refine opg_plain rfl rfl (op_load1 (c := (Value.slice z241 m241 k241)) rfl sh34 (I1329.nth 0 rfl) q1119 rfl ?_)
                              refine ⟨_, _, rfl, PH.Le.refl _, ?_, ?_⟩
                              · exact rfl
                              · exact I1329
                            · intro vs600 f w1021 S798 X548 le798 hA548 hK600 hI624
                              have I1330 : Inv w1021 S798 (X548) := hI624
                              refine opg_plain rfl rfl (op_move (v := (Value.int .i64 ((i13 : Int)))) rfl ((hK600 21 (keep_of rfl)).trans e2815) ?_)
                              refine ⟨_, _, rfl, PH.Le.refl _, ?_, ?_⟩
                              · exact rfl
                              · exact I1330
                            · intro vs601 f w1022 S799 X549 le799 hA549 hK601 hI625
                              have I1331 : Inv w1022 S799 (Row (α := Int) 3 (Value.slice z241 m241 k241) (v103) :: X549) := hI625
                              have q1120 : f 180 = (Value.pointer (some ⟨g38, 3, none⟩)) := ((hA549.1 _ rfl).1 _ rfl).trans (hA549.1 _ rfl).2
                              have q1121 : f 181 = (Value.slice z241 m241 k241) := ((hA549.2.1 _ rfl).1 _ rfl).trans (hA549.2.1 _ rfl).2
                              have q1122 : f 182 = (Value.int .i64 ((i13 : Int))) := ((hA549.2.2.1 _ rfl).1 _ rfl).trans (hA549.2.2.1 _ rfl).2
                              refine opg_plain rfl rfl (op_indexAddr_src (v := (Value.slice z241 m241 k241)) (i := (i13 : Int)) (e := x352) rfl Try.underlying34 sh3 q1121 (Inv.rowSrc (I1331.nth 0 rfl)) q1122 hx352 ?_)
                              refine ⟨_, _, rfl, PH.Le.refl _, ?_, ?_⟩
                              · exact rfl
                              · exact I1331
                            · intro vs602 f w1023 S800 X550 le800 hA550 hK602 hI626
                              have I1332 : Inv w1023 S800 (Row (α := Int) 3 (Value.slice z241 m241 k241) (v103) :: X550) := hI626
                              have q1123 : f 180 = (Value.pointer (some ⟨g38, 3, none⟩)) := ((hA550.1 _ rfl).1 _ rfl).trans (hA550.1 _ rfl).2
                              have q1124 : f 181 = (Value.slice z241 m241 k241) := ((hA550.2.1 _ rfl).1 _ rfl).trans (hA550.2.1 _ rfl).2
                              have q1125 : f 182 = (Value.int .i64 ((i13 : Int))) := ((hA550.2.2.1 _ rfl).1 _ rfl).trans (hA550.2.2.1 _ rfl).2
                              have q1126 : f 183 = (elemPtr (Value.slice z241 m241 k241) ((i13 : Int)) (Enc.sz Int)) := ((hA550.2.2.2.1 _ rfl).1 _ rfl).trans (hA550.2.2.2.1 _ rfl).2
                              refine opg_plain rfl rfl (op_load_int (v := (elemPtr (Value.slice z241 m241 k241) ((i13 : Int)) (Enc.sz Int))) (e := x352) rfl sh3 q1126 ((I1332.nth 0 rfl).rowElem hx352) ?_)
                              refine ⟨_, _, rfl, PH.Le.refl _, ?_, ?_⟩
                              · exact rfl
                              · exact I1332
                            · intro vs603 f w1024 S801 X551 le801 hA551 hK603 hI627
                              have I1333 : Inv w1024 S801 (Row (α := Int) 3 (Value.slice z243 m243 k243) (s13.2) :: X551) := hI627
                              have q1127 : f 177 = (Value.pointer (some ⟨g38, 4, none⟩)) := ((hA551.1 _ rfl).1 _ rfl).trans (hA551.1 _ rfl).2
                              have q1128 : f 178 = (Value.slice z243 m243 k243) := ((hA551.2.1 _ rfl).1 _ rfl).trans (hA551.2.1 _ rfl).2
                              have q1129 : f 179 = (Value.int .i64 ((i13 : Int))) := ((hA551.2.2.1 _ rfl).1 _ rfl).trans (hA551.2.2.1 _ rfl).2
                              refine opg_plain rfl rfl (op_indexAddr_src (v := (Value.slice z243 m243 k243)) (i := (i13 : Int)) (e := x353) rfl Try.underlying34 sh3 q1128 (Inv.rowSrc (I1333.nth 0 rfl)) q1129 hx353 ?_)
                              refine ⟨_, _, rfl, PH.Le.refl _, ?_, ?_⟩
                              · exact rfl
                              · exact I1333
                            · intro vs604 f w1025 S802 X552 le802 hA552 hK604 hI628
                              have I1334 : Inv w1025 S802 (Row (α := Int) 3 (Value.slice z243 m243 k243) (s13.2) :: X552) := hI628
                              have q1130 : f 177 = (Value.pointer (some ⟨g38, 4, none⟩)) := ((hA552.1 _ rfl).1 _ rfl).trans (hA552.1 _ rfl).2
                              have q1131 : f 178 = (Value.slice z243 m243 k243) := ((hA552.2.1 _ rfl).1 _ rfl).trans (hA552.2.1 _ rfl).2
                              have q1132 : f 179 = (Value.int .i64 ((i13 : Int))) := ((hA552.2.2.1 _ rfl).1 _ rfl).trans (hA552.2.2.1 _ rfl).2
                              have q1133 : f 180 = (Value.pointer (some ⟨g38, 3, none⟩)) := ((hA552.2.2.2.1 _ rfl).1 _ rfl).trans (hA552.2.2.2.1 _ rfl).2
                              have q1134 : f 181 = (Value.slice z241 m241 k241) := ((hA552.2.2.2.2.1 _ rfl).1 _ rfl).trans (hA552.2.2.2.2.1 _ rfl).2
                              have q1135 : f 182 = (Value.int .i64 ((i13 : Int))) := ((hA552.2.2.2.2.2.1 _ rfl).1 _ rfl).trans (hA552.2.2.2.2.2.1 _ rfl).2
                              have q1136 : f 183 = (elemPtr (Value.slice z241 m241 k241) ((i13 : Int)) (Enc.sz Int)) := ((hA552.2.2.2.2.2.2.1 _ rfl).1 _ rfl).trans (hA552.2.2.2.2.2.2.1 _ rfl).2
                              have q1137 : f 184 = (Value.int .i64 (x352)) := ((hA552.2.2.2.2.2.2.2.1 _ rfl).1 _ rfl).trans (hA552.2.2.2.2.2.2.2.1 _ rfl).2
                              have q1138 : f 185 = (elemPtr (Value.slice z243 m243 k243) ((i13 : Int)) (Enc.sz Int)) := ((hA552.2.2.2.2.2.2.2.2.1 _ rfl).1 _ rfl).trans (hA552.2.2.2.2.2.2.2.2.1 _ rfl).2
                              refine opg_plain rfl rfl (op_storeRow (u := (Value.int .i64 (x352))) (e' := x352) sh3 I1334 q1138 q1137 hx353 (rv_int' _) (fun w1026 I1335 => ?_))
                              refine ⟨undef, _, rfl, PH.Le.refl _, ?_, ?_⟩
                              · exact trivial
                              · exact I1335
                            · intro vs605 f w1027 S803 le803 hF53 hK605 hI629
                              have e2821 : f 2 = (Value.slice z2 m2 k2) := (hK605 2 (keep_all rfl)).trans e2805
                              have e2822 : f 3 = (Value.pointer (some ⟨g1, 0, none⟩)) := (hK605 3 (keep_all rfl)).trans e2806
                              have e2823 : f 9 = (Value.slice z213 m213 k213) := (hK605 9 (keep_all rfl)).trans e2807
                              have e2824 : f 10 = (Value.bool (out11.1)) := (hK605 10 (keep_all rfl)).trans e2808
                              have e2825 : f 11 = (Value.slice z10 m10 k10) := (hK605 11 (keep_all rfl)).trans e2809
                              have e2826 : f 12 = (Value.slice z11 m11 k11) := (hK605 12 (keep_all rfl)).trans e2810
                              have e2827 : f 13 = (Value.slice z12 m12 k12) := (hK605 13 (keep_all rfl)).trans e2811
                              have e2828 : f 14 = (Value.int .i64 ((i10 : Int))) := (hK605 14 (keep_all rfl)).trans e2812
                              have e2829 : f 16 = (Value.pointer (some ⟨g38, 0, none⟩)) := (hK605 16 (keep_all rfl)).trans e2813
                              have e2830 : f 17 = (Value.slice z247 m247 k247) := (hK605 17 (keep_all rfl)).trans e2814
                              have e2831 : f 48 = (Value.int .i64 (a1)) := (hK605 48 (keep_all rfl)).trans e2816
                              have e2832 : f 49 = (Value.int .i64 ((i10 : Int))) := (hK605 49 (keep_all rfl)).trans e2817
                              have e2833 : f 155 = (Value.slice z250 m250 k250) := (hK605 155 (keep_all rfl)).trans e2818
                              have e2834 : f 156 = (Value.int .i64 ((a0.Doors.length : Int))) := (hK605 156 (keep_all rfl)).trans e2819
                              have e2835 : f 157 = (Value.int .i64 ((i13 : Int))) := (hK605 157 (keep_all rfl)).trans e2820
                              have I1336 : Inv w1027 S803 (Cells (ptrBlk (Value.pointer (some ⟨g38, 0, none⟩))) 87 #[(Value.bool (out11.1)), (Value.slice z248 m248 k248), (Value.slice z249 m249 k249), (Value.slice z241 m241 k241), (Value.slice z243 m243 k243), (Value.slice z245 m245 k245)] :: Row (α := Int) 3 (Value.slice z241 m241 k241) (v103) :: Row (α := Int) 3 (Value.slice z243 m243 k243) (s13.2.set ((i13 : Int)).toNat x352) :: Row (α := Control_tick) 87 (Value.slice z213 m213 k213) (s10.1) :: Row (α := Int) 3 (Value.slice z10 m10 k10) (out11.2.1) :: Row (α := Int) 3 (Value.slice z11 m11 k11) (out12.1) :: Row (α := Int) 3 (Value.slice z12 m12 k12) (out12.2) :: Row (α := Int) 3 (Value.slice z248 m248 k248) (x320) :: Row (α := Int) 3 (Value.slice z249 m249 k249) (x321) :: Row (α := Bool) 4 (Value.slice z245 m245 k245) (out11.2.2.2.1) :: Row (α := Bool) 4 (Value.slice z247 m247 k247) (out11.2.2.2.2) :: Fr) := hI629
                              refine wp_region' ?_
                              refine wl_op rfl (op_add (a := (i13 : Int)) (b := 1) rfl e2835 rfl ?_)
                              refine wl_op rfl (op_move (v := (Value.int .i64 (w64 ((i13 : Int) + 1)))) rfl rfl ?_)
                              refine wl_nil ?_
                              obtain rfl := Option.some.inj h121
                              exact ⟨_, ((le761.trans le792).trans le803), (((((((((((I1336.pull 10).pull 10).pull 4).pull 4).pull 10).pull 10).pull 6).pull 10).pull 10).pull 10).pull 10), e2821, e2822, e2823, e2824, e2825, e2826, e2827, e2828, e2829, e2830, e2831, e2832, e2833, e2834, (idx_next hlt13 hk12)⟩
                          · refine wp_cond_f (b := !x351) rfl hc214 ?_
                            refine wp_skip' ?_
                            refine wp_region' ?_
                            refine wl_op rfl (op_add (a := (i13 : Int)) (b := 1) rfl e2820 rfl ?_)
                            refine wl_op rfl (op_move (v := (Value.int .i64 (w64 ((i13 : Int) + 1)))) rfl rfl ?_)
                            refine wl_nil ?_
                            obtain rfl := Option.some.inj h121
                            exact ⟨_, (le761.trans le792), (((((((((((I1323.pull 10).pull 10).pull 10).pull 10).pull 10).pull 10).pull 10).pull 10).pull 10).pull 10).pull 10), e2805, e2806, e2807, e2808, e2809, e2810, e2811, e2812, e2813, e2814, e2816, e2817, e2818, e2819, (idx_next hlt13 hk12)⟩
                      · rintro f w hI630
                        obtain ⟨S804, le804, I1337, e2836, e2837, e2838, e2839, e2840, e2841, e2842, e2843, e2844, e2845, e2846, e2847, e2848, e2849, e2850⟩ := hI630
                        refine wp_seq' ?_
                        refine wp_region' ?_
                        refine wl_op rfl (op_lss (a := (a0.Doors.length : Int)) (b := (a0.Doors.length : Int)) rfl e2850 e2849 ?_)
                        refine wl_nil ?_
                        refine wp_seq' ?_
                        refine wp_cond_f (b := decide ((a0.Doors.length : Int) < (a0.Doors.length : Int))) rfl (len_f _) ?_
                        refine wp_exit' ?_
                        exact ⟨_, le804, (((((((((((I1337.pull 10).pull 10).pull 10).pull 10).pull 10).pull 10).pull 10).pull 10).pull 10).pull 10).pull 10), e2836, e2837, e2838, e2839, e2840, e2841, e2842, e2843, e2844, e2845, e2846, e2847, e2848, e2849⟩
                    · rintro f w ⟨S805, le805, I1338, e2851, e2852, e2853, e2854, e2855, e2856, e2857, e2858, e2859, e2860, e2861, e2862, e2863, e2864⟩
                      refine wp_region' ?_
                      refine wl_op rfl (op_move (v := (Value.slice z213 m213 k213)) rfl e2853 ?_)
                      refine wl_op rfl (op_loadN (l := [(Value.bool (out11.1)), (Value.slice z248 m248 k248), (Value.slice z249 m249 k249), (Value.slice z241 m241 k241), (Value.slice z243 m243 k243), (Value.slice z245 m245 k245)]) rfl sh87 (I1338.nth 4 rfl) e2859 rfl rfl ?_)
                      obtain ⟨S806, le806, I1339, r582⟩ := Inv.rowFreeze (I1338.pull 5)
                      obtain ⟨S807, le807, I1340, r583⟩ := Inv.rowFreeze (I1339.pull 5)
                      obtain ⟨S808, le808, I1341, r584⟩ := Inv.rowFreeze (I1340.pull 5)
                      obtain ⟨S809, le809, I1342, r585⟩ := Inv.rowFreeze (I1341.pull 5)
                      obtain ⟨S810, le810, I1343, r586⟩ := Inv.rowFreeze (I1342.pull 5)
                      refine wl_op rfl (op_buildSlice (vs := [(Value.agg #[(Value.bool (out11.1)), (Value.slice z248 m248 k248), (Value.slice z249 m249 k249), (Value.slice z241 m241 k241), (Value.slice z243 m243 k243), (Value.slice z245 m245 k245)])]) (r := ([(⟨out11.1, x320, x321, out13.1, out13.2, out11.2.2.2.1⟩ : Control_tick)] : List Control_tick)) rfl Try.underlying72 el87 (parts1 rfl) rfl (by decide) (by decide) ⟨(Control_tick.rv (s := (⟨out11.1, x320, x321, out13.1, out13.2, out11.2.2.2.1⟩ : Control_tick)) (r582.mono (((le807.trans le808).trans le809).trans le810)) (r583.mono ((le808.trans le809).trans le810)) (r584.mono (le809.trans le810)) (r585.mono le810) r586), trivial⟩ I1343 (fun u298 w1028 I1344 => ?_))
                      obtain ⟨z279, m279, k279, e2865⟩ := row_form I1344
                      subst e2865
                      obtain ⟨x354, hx354, h94⟩ := bnd h94
                      refine wl_op rfl (op_append (α := Control_tick) (v := (Value.slice z213 m213 k213)) (u := (Value.slice z279 m279 k279)) rfl rfl Try.underlying72 el87 (by decide) (by decide) rfl rfl (I1344.pull 1) (Inv.rowSrc (I1344.nth 0 rfl)) hx354 (fun u299 w1029 I1345 => ?_))
                      obtain ⟨z280, m280, k280, e2866⟩ := row_form I1345
                      subst e2866
                      refine wl_op rfl (op_assign (v := (Value.slice z280 m280 k280)) rfl rfl ?_)
                      refine wl_nil ?_
                      refine wp_region' ?_
                      refine wl_op rfl (op_add (a := (i10 : Int)) (b := 1) rfl e2862 rfl ?_)
                      refine wl_op rfl (op_move (v := (Value.int .i64 (w64 ((i10 : Int) + 1)))) rfl rfl ?_)
                      refine wl_nil ?_
                      obtain rfl := Option.some.inj h94
                      exact ⟨_, _, _, _, (((((((le612.trans le628).trans le805).trans le806).trans le807).trans le808).trans le809).trans le810), (((((((I1345.pull 1).drop.pull 4).drop.pull 4).drop.pull 3).pull 3).pull 3).pull 3), e2851, e2852, rfl, e2854, e2855, e2856, e2857, e2861, (idx_next hlt10 (cnt_le hx267))⟩
            · rintro f w hI631
              obtain ⟨S811, z281, m281, k281, le811, I1346, e2867, e2868, e2869, e2870, e2871, e2872, e2873, e2874, e2875⟩ := hI631
              refine wp_seq' ?_
              refine wp_region' ?_
              refine wl_op rfl (op_lss (a := (x267 : Int)) (b := a1) rfl e2875 e2874 ?_)
              refine wl_nil ?_
              refine wp_seq' ?_
              refine wp_cond_f (b := decide ((x267 : Int) < a1)) rfl (cnt_f hx267) ?_
              refine wp_exit' ?_
              exact ⟨_, _, _, _, le811, ((((I1346.pull 3).pull 3).pull 3).pull 3), e2867, e2868, e2869, e2870, e2871, e2872, e2873, e2874⟩
          · rintro f w ⟨S812, z214, m214, k214, le812, I1347, e2876, e2877, e2878, e2879, e2880, e2881, e2882, e2883⟩
            refine wp_seq' ?_
            refine wp_region' ?_
            refine wl_op rfl (op_move (v := (Value.slice z214 m214 k214)) rfl e2878 ?_)
            refine wl_op rfl (op_assign (v := (Value.slice z214 m214 k214)) rfl rfl ?_)
            refine wl_op rfl (op_assign (v := (Value.int .i64 (0))) rfl rfl ?_)
            refine wl_nil ?_
            refine wp_ret' ?_
            obtain rfl := Option.some.inj h
            exact ⟨(Value.tuple #[(Value.slice z214 m214 k214), (Value.int .i64 (0))]), (res2 rfl rfl rfl), _, [Row (α := Control_tick) 87 (Value.slice z214 m214 k214) (out10.1)], (((le1.trans le2).trans le15).trans le812), (((I1347.pull 1).drop.pull 1).drop.pull 1).drop, _, _, _, rfl, rfl⟩
end Go.Proofs.Ytfeomcdhhgeilaa.Pad
