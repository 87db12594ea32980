/- A part of the proof: what the functions of the program compute, shown over the model. -/
import Derived.Test.YtfeomcdhhgeilaaPadSP
import Derived.Test.YtfeomcdhhgeilaaPadSW1
import Derived.KernelRfl
set_option linter.unusedVariables false
namespace Go.Proofs.Ytfeomcdhhgeilaa.Pad
open Go Go.Proofs
set_option maxHeartbeats 4000000 in
set_option maxRecDepth 100000 in
theorem F45_ok {w : World} {S : PH} {Fr : List HP} {a0 : Panel} {v0 : Value} {a1 : Int} {a2 : (List Signal)} {v2 : Value} {r : (List Control_tick) × Int} (hI : Inv w S (Fr)) (h0_ : RV S v0 a0) (h2_ : RV S v2 a2) (h : F45 a0 a1 a2 = some r) :
    Calls Try.prog 45 [v0, (Value.int .i64 (a1)), v2].toArray w (Done S Fr (fun T_ v_ O_ => ∃ (a0_ : Option Addr) (n0_ k0_ : Nat), v_ = (Value.tuple #[(Value.slice a0_ n0_ k0_), (Value.int .i64 (r.2))]) ∧ O_ = [Row (α := Control_tick) 87 (Value.slice a0_ n0_ k0_) (r.1)])) := by
 unfold F45 at h
 obtain ⟨c1, e1, r1⟩ := Panel.inv h0_
 subst e1
 obtain ⟨z1, m1, k1, e2⟩ := rv_form r1
 subst e2
 obtain ⟨z2, m2, k2, e3⟩ := rv_form h2_
 subst e3
 refine calls_enter (n := 193) (vs := [(Value.agg #[(Value.int .i64 (a0.Sensors)), (Value.slice z1 m1 k1), (Value.int .i64 (a0.Stale)), (Value.int .i64 (a0.Limit))]), (Value.int .i64 (a1)), (Value.slice z2 m2 k2)]) Try.func45 rfl rfl rfl ?_
 refine wp_seq' ?_
 refine wp_region' ?_
 refine wl_op rfl (op_box (v := (Value.agg #[(Value.int .i64 (a0.Sensors)), (Value.slice z1 m1 k1), (Value.int .i64 (a0.Stale)), (Value.int .i64 (a0.Limit))])) rfl hI rfl (fun g1 w1 I1 => ?_))
 obtain ⟨S1, le1, I2, p1⟩ := Inv.boxFreeze (x := a0) I1 (Panel.rv (s := a0) r1)
 refine wl_op rfl (op_box (v := (Value.int .i64 (a1))) rfl I2 rfl (fun g2 w2 I3 => ?_))
 obtain ⟨S2, le2, I4, p2⟩ := Inv.boxFreeze (x := a1) I3 (rv_int' _)
 refine wl_op rfl (op_assign (v := (Value.slice none 0 0)) rfl rfl ?_)
 refine wl_op rfl (op_assign (v := (Value.int .i64 (0))) rfl rfl ?_)
 refine wl_nil ?_
 refine wp_seq' ?_
 refine wp_seq' ?_
 refine wp_region' ?_
 refine wl_op rfl (op_load (v := (Value.pointer (some ⟨g1, 0, none⟩))) (e := a0) rfl sh24 rfl ((p1.mono le2).at_ I4) (fun u1 hu1 => ?_))
 obtain ⟨c2, e4, r2⟩ := Panel.inv hu1
 subst e4
 obtain ⟨z3, m3, k3, e5⟩ := rv_form r2
 subst e5
 obtain ⟨x1, hx1, h⟩ := bnd h
 refine wl_op rfl (op_call_v (vs := [(Value.agg #[(Value.int .i64 (a0.Sensors)), (Value.slice z3 m3 k3), (Value.int .i64 (a0.Stale)), (Value.int .i64 (a0.Limit))])]) (r := (Value.int .i64 (x1))) rfl ca27 rfl (args1 rfl) I4 (fun Fr_ hF_ => F27_ok hF_ (Panel.rv (s := a0) r2) hx1) (fun w3 I5 => ?_))
 refine wl_op rfl (op_assign (v := (Value.int .i64 (x1))) rfl rfl ?_)
 refine wl_nil ?_
 refine wp_seq' ?_
 refine wp_region' ?_
 refine wl_op rfl (op_move (v := (Value.int .i64 (x1))) rfl rfl ?_)
 refine wl_op rfl (op_neq (a := x1) (b := 0) rfl rfl rfl ?_)
 refine wl_nil ?_
 rcases ifs h with ⟨hc1, h⟩ | ⟨hc1, h⟩
 ·
  refine wp_cond_t (b := x1 != 0) rfl hc1 ?_
  refine wp_seq' ?_
  refine wp_region' ?_
  refine wl_op rfl (op_move (v := (Value.int .i64 (x1))) rfl rfl ?_)
  refine wl_op rfl (op_assign (v := (Value.slice none 0 0)) rfl rfl ?_)
  refine wl_op rfl (op_assign (v := (Value.int .i64 (x1))) rfl rfl ?_)
  refine wl_nil ?_
  refine wp_ret' ?_
  have I6 := Inv.rowNil (α := Control_tick) (T := 87) I5
  obtain rfl := Option.some.inj h
  exact ⟨(Value.tuple #[(Value.slice none 0 0), (Value.int .i64 (x1))]), (res2 rfl rfl rfl), _, [Row (α := Control_tick) 87 (Value.slice none 0 0) (([] : List Control_tick))], (le1.trans le2), I6, _, _, _, rfl, rfl⟩
 ·
  refine wp_cond_f (b := x1 != 0) rfl hc1 ?_
  refine wp_skip' ?_
  refine wp_seq' ?_
  refine wp_seq' ?_
  refine wp_region' ?_
  refine wl_op rfl (op_load_int (v := (Value.pointer (some ⟨g2, 0, none⟩))) (e := a1) rfl sh3 rfl (p2.at_ I5) ?_)
  obtain ⟨x2, hx2, h⟩ := bnd h
  refine wl_op rfl (op_call_v (vs := [(Value.int .i64 (a1)), (Value.int .i64 (0)), (Value.int .i64 (1000))]) (r := (Value.bool (x2))) rfl ca48 rfl (args3 rfl rfl rfl) I5 (fun Fr_ hF_ => F48_ok hF_  hx2) (fun w4 I7 => ?_))
  refine wl_op rfl (op_not (b := x2) rfl rfl ?_)
  refine wl_nil ?_
  rcases ifs h with ⟨hc2, h⟩ | ⟨hc2, h⟩
  ·
   refine wp_cond_t (b := !x2) rfl hc2 ?_
   refine wp_seq' ?_
   refine wp_region' ?_
   refine wl_op rfl (op_assign (v := (Value.slice none 0 0)) rfl rfl ?_)
   refine wl_op rfl (op_assign (v := (Value.int .i64 (1))) rfl rfl ?_)
   refine wl_nil ?_
   refine wp_ret' ?_
   have I8 := Inv.rowNil (α := Control_tick) (T := 87) I7
   obtain rfl := Option.some.inj h
   exact ⟨(Value.tuple #[(Value.slice none 0 0), (Value.int .i64 (1))]), (res2 rfl rfl rfl), _, [Row (α := Control_tick) 87 (Value.slice none 0 0) (([] : List Control_tick))], (le1.trans le2), I8, _, _, _, rfl, rfl⟩
  ·
   refine wp_cond_f (b := !x2) rfl hc2 ?_
   refine wp_skip' ?_
   obtain ⟨ov1, h2, h⟩ := bnd h
   refine wp_cut (fun f w => ∃ v1, ov1 = Sum.inl v1 ∧ Inv w S2 (Fr) ∧ f 2 = (Value.slice z2 m2 k2) ∧ f 3 = (Value.pointer (some ⟨g1, 0, none⟩)) ∧ f 4 = (Value.pointer (some ⟨g2, 0, none⟩))) ?_ ?_
   ·
    refine wp_seq' ?_
    refine wp_region' ?_
    refine wl_op rfl (op_move (v := (Value.slice z2 m2 k2)) rfl rfl ?_)
    refine wl_op rfl (op_len_rv rfl Try.underlying25 rfl (h2_.mono (le1.trans le2)) ?_)
    refine wl_op rfl (op_gtr (a := (a2.length : Int)) (b := 200) rfl rfl rfl ?_)
    refine wl_op rfl (op_move (v := (Value.bool (decide (200 < (a2.length : Int))))) rfl rfl ?_)
    rcases ifs h2 with ⟨hc5, h2⟩ | ⟨hc5, h2⟩
    ·
     refine wl_skip (c := decide (200 < (a2.length : Int))) rfl rfl rfl rfl hc5 rfl ?_
     refine wl_skip (c := decide (200 < (a2.length : Int))) rfl rfl rfl rfl hc5 rfl ?_
     refine wl_skip (c := decide (200 < (a2.length : Int))) rfl rfl rfl rfl hc5 rfl ?_
     refine wl_op rfl (op_pick_t (c := decide (200 < (a2.length : Int))) (a := (Value.bool (true))) rfl rfl hc5 rfl ?_)
     refine wl_nil ?_
     refine wp_cond_t (b := true) rfl rfl ?_
     refine wp_seq' ?_
     refine wp_region' ?_
     refine wl_op rfl (op_assign (v := (Value.slice none 0 0)) rfl rfl ?_)
     refine wl_op rfl (op_assign (v := (Value.int .i64 (81))) rfl rfl ?_)
     refine wl_nil ?_
     refine wp_ret' ?_
     obtain rfl := Option.some.inj h2
     have h3 := h
     have I10 := Inv.rowNil (α := Control_tick) (T := 87) I7
     obtain rfl := Option.some.inj h3
     exact ⟨(Value.tuple #[(Value.slice none 0 0), (Value.int .i64 (81))]), (res2 rfl rfl rfl), _, [Row (α := Control_tick) 87 (Value.slice none 0 0) (([] : List Control_tick))], (le1.trans le2), I10, _, _, _, rfl, rfl⟩
    ·
     refine wl_taken (c := decide (200 < (a2.length : Int))) rfl rfl rfl rfl hc5 (op_move (v := (Value.slice z2 m2 k2)) rfl rfl ?_)
     refine wl_taken (c := decide (200 < (a2.length : Int))) rfl rfl rfl rfl hc5 (op_makeFunc (fv := #[]) (cv := #[(Value.pointer (some ⟨g1, 0, none⟩)), (Value.pointer (some ⟨g2, 0, none⟩))]) rfl arr0 (arr2 rfl rfl) ?_)
     obtain ⟨x4, hx4, h2⟩ := bnd h2
     refine wl_taken (c := decide (200 < (a2.length : Int))) rfl rfl rfl rfl hc5 (op_call_v (vs := [(Value.slice z2 m2 k2), (Value.func (.func 63) #[] #[(Value.pointer (some ⟨g1, 0, none⟩)), (Value.pointer (some ⟨g2, 0, none⟩))])]) (r := (Value.bool (x4))) rfl ca62 rfl (args2 rfl rfl) I7 (fun Fr_ hF_ => F62_ok hF_ (h2_.mono (le1.trans le2)) ⟨63, [(Value.pointer (some ⟨g1, 0, none⟩)), (Value.pointer (some ⟨g2, 0, none⟩))], rfl, ca63, fun T_ w_ Fr_ u_ x_ r_ hle_ hI_ hu_ hr_ => F63_ok hI_ hu_ ((p1.mono le2).mono hle_) (p2.mono hle_) hr_⟩ hx4) (fun w6 I11 => ?_))
     refine wl_op rfl (op_pick_f (c := decide (200 < (a2.length : Int))) (b := (Value.bool (x4))) rfl rfl hc5 rfl ?_)
     refine wl_nil ?_
     rcases ifs h2 with ⟨hc6, h2⟩ | ⟨hc6, h2⟩
     ·
      refine wp_cond_t (b := x4) rfl hc6 ?_
      refine wp_seq' ?_
      refine wp_region' ?_
      refine wl_op rfl (op_assign (v := (Value.slice none 0 0)) rfl rfl ?_)
      refine wl_op rfl (op_assign (v := (Value.int .i64 (81))) rfl rfl ?_)
      refine wl_nil ?_
      refine wp_ret' ?_
      obtain rfl := Option.some.inj h2
      have h3 := h
      have I12 := Inv.rowNil (α := Control_tick) (T := 87) I11
      obtain rfl := Option.some.inj h3
      exact ⟨(Value.tuple #[(Value.slice none 0 0), (Value.int .i64 (81))]), (res2 rfl rfl rfl), _, [Row (α := Control_tick) 87 (Value.slice none 0 0) (([] : List Control_tick))], (le1.trans le2), I12, _, _, _, rfl, rfl⟩
     ·
      refine wp_cond_f (b := x4) rfl hc6 ?_
      refine wp_skip' ?_
      obtain rfl := Option.some.inj h2
      exact ⟨_, rfl, I11, rfl, rfl, rfl⟩
   ·
    rintro f w ⟨v1, rfl, I13, e6, e7, e8⟩
    have h := onL_inl h
    refine wp_seq' ?_
    refine wp_region' ?_
    refine wl_op rfl (op_assign (v := (Value.slice none 0 0)) rfl rfl ?_)
    refine wl_nil ?_
    refine wp_seq' ?_
    refine wp_region' ?_
    refine wl_op rfl (op_assign (v := (Value.bool (true))) rfl rfl ?_)
    refine wl_nil ?_
    refine wp_seq' ?_
    obtain ⟨x5, hx5, h⟩ := bnd h
    refine wp_draw (sps := [⟨some 39, [], [0], fun vs_ T_ => fr0 vs_ 0 = (fieldPtr (Value.pointer (some ⟨g1, 0, none⟩)) 0), [], [], [], fun _ h_ => h_⟩, ⟨some 40, [0], [1], fun vs_ T_ => fr0 vs_ 0 = (Value.int .i64 (a0.Sensors)), [], [], [], fun _ h_ => h_⟩, ⟨some 41, [0, 1], [2], fun vs_ T_ => ∃ a_ n_ k_, fr0 vs_ 0 = Value.slice a_ n_ k_, [], [], [0], fun _ h_ => h_⟩, ⟨some 42, [], [3], fun vs_ T_ => fr0 vs_ 0 = (fieldPtr (Value.pointer (some ⟨g1, 0, none⟩)) 0), [], [], [], fun _ h_ => h_⟩, ⟨some 43, [3], [4], fun vs_ T_ => fr0 vs_ 0 = (Value.int .i64 (a0.Sensors)), [], [], [], fun _ h_ => h_⟩, ⟨some 44, [3, 4], [5], fun vs_ T_ => ∃ a_ n_ k_, fr0 vs_ 0 = Value.slice a_ n_ k_, [], [], [1], fun _ h_ => h_⟩, ⟨some 45, [], [6], fun vs_ T_ => fr0 vs_ 0 = (fieldPtr (Value.pointer (some ⟨g1, 0, none⟩)) 0), [], [], [], fun _ h_ => h_⟩, ⟨some 46, [6], [7], fun vs_ T_ => fr0 vs_ 0 = (Value.int .i64 (a0.Sensors)), [], [], [], fun _ h_ => h_⟩, ⟨some 47, [6, 7], [8], fun vs_ T_ => ∃ a_ n_ k_, fr0 vs_ 0 = Value.slice a_ n_ k_, [], [], [2], fun _ h_ => h_⟩, ⟨some 11, [0, 1, 2], [9, 2], fun vs_ T_ => fr0 vs_ 0 = (fr0 vs_ 1), [], [], [], fun _ h_ => h_⟩, ⟨some 12, [0, 1, 2, 3, 4, 5, 9], [10, 5], fun vs_ T_ => fr0 vs_ 0 = (fr0 vs_ 1), [], [], [], fun _ h_ => h_⟩, ⟨some 13, [0, 1, 2, 3, 4, 5, 6, 7, 8, 9, 10], [11, 8], fun vs_ T_ => fr0 vs_ 0 = (fr0 vs_ 1), [], [], [], fun _ h_ => h_⟩]) (tks := [⟨some 2, none, [2], fun vs_ => Row (α := Int) 3 (fr0 vs_ 0) (x5)⟩, ⟨some 5, none, [5], fun vs_ => Row (α := Int) 3 (fr0 vs_ 0) (x5)⟩, ⟨some 8, none, [8], fun vs_ => Row (α := Int) 3 (fr0 vs_ 0) (x5)⟩]) (O := Fr) rfl (by kernel_rfl) I13 ⟨?_, ?_, ?_, ?_, ?_, ?_, ?_, ?_, ?_, ?_, ?_, ?_, trivial⟩ ?_
    ·
     intro vs1 f w10 S3 X1 le3 hA1 hK1 hI1
     have I17 : Inv w10 S3 (X1) := hI1
     refine opg_plain rfl rfl (op_fieldAddr_t (v := (Value.pointer (some ⟨g1, 0, none⟩))) rfl fa24_0 ((hK1 3 (keep_of rfl)).trans e7) ((p1.mono (le2.trans le3)).at_ I17) ?_)
     refine ⟨_, _, rfl, PH.Le.refl _, ?_, ?_⟩
     ·
      exact rfl
     ·
      exact I17
    ·
     intro vs2 f w11 S4 X2 le4 hA2 hK2 hI2
     have I18 : Inv w11 S4 (X2) := hI2
     have q1 : f 39 = (fieldPtr (Value.pointer (some ⟨g1, 0, none⟩)) 0) := vt (hA2.at_ 0 rfl _ rfl) rfl
     refine opg_plain rfl rfl (op_load_int (v := (fieldPtr (Value.pointer (some ⟨g1, 0, none⟩)) 0)) (e := a0.Sensors) rfl sh3 q1 (((p1.mono (le2.trans le4)).at_ I18).fld Panel.fld0) ?_)
     refine ⟨_, _, rfl, PH.Le.refl _, ?_, ?_⟩
     ·
      exact rfl
     ·
      exact I18
    ·
     intro vs3 f w12 S5 X3 le5 hA3 hK3 hI3
     have I19 : Inv w12 S5 (X3) := hI3
     have q2 : f 40 = (Value.int .i64 (a0.Sensors)) := vt (hA3.at_ 1 rfl _ rfl) rfl
     refine opg_plain rfl rfl (op_makeSlice (c := a0.Sensors) rfl Try.underlying34 el3 (by decide) q2 q2 I19 hx5 (fun u5 w13 I20 => ?_))
     obtain ⟨z4, m4, k4, e9⟩ := row_form I20
     subst e9
     refine ⟨_, _, rfl, PH.Le.refl _, ?_, ?_⟩
     ·
      exact ⟨_, _, _, rfl⟩
     ·
      exact I20
    ·
     intro vs4 f w14 S6 X4 le6 hA4 hK4 hI4
     have I21 : Inv w14 S6 (X4) := hI4
     refine opg_plain rfl rfl (op_fieldAddr_t (v := (Value.pointer (some ⟨g1, 0, none⟩))) rfl fa24_0 ((hK4 3 (keep_of rfl)).trans e7) ((p1.mono (le2.trans le6)).at_ I21) ?_)
     refine ⟨_, _, rfl, PH.Le.refl _, ?_, ?_⟩
     ·
      exact rfl
     ·
      exact I21
    ·
     intro vs5 f w15 S7 X5 le7 hA5 hK5 hI5
     have I22 : Inv w15 S7 (X5) := hI5
     have q3 : f 42 = (fieldPtr (Value.pointer (some ⟨g1, 0, none⟩)) 0) := vt (hA5.at_ 0 rfl _ rfl) rfl
     refine opg_plain rfl rfl (op_load_int (v := (fieldPtr (Value.pointer (some ⟨g1, 0, none⟩)) 0)) (e := a0.Sensors) rfl sh3 q3 (((p1.mono (le2.trans le7)).at_ I22).fld Panel.fld0) ?_)
     refine ⟨_, _, rfl, PH.Le.refl _, ?_, ?_⟩
     ·
      exact rfl
     ·
      exact I22
    ·
     intro vs6 f w16 S8 X6 le8 hA6 hK6 hI6
     have I23 : Inv w16 S8 (X6) := hI6
     have q4 : f 43 = (Value.int .i64 (a0.Sensors)) := vt (hA6.at_ 1 rfl _ rfl) rfl
     refine opg_plain rfl rfl (op_makeSlice (c := a0.Sensors) rfl Try.underlying34 el3 (by decide) q4 q4 I23 hx5 (fun u6 w17 I24 => ?_))
     obtain ⟨z5, m5, k5, e10⟩ := row_form I24
     subst e10
     refine ⟨_, _, rfl, PH.Le.refl _, ?_, ?_⟩
     ·
      exact ⟨_, _, _, rfl⟩
     ·
      exact I24
    ·
     intro vs7 f w18 S9 X7 le9 hA7 hK7 hI7
     have I25 : Inv w18 S9 (X7) := hI7
     refine opg_plain rfl rfl (op_fieldAddr_t (v := (Value.pointer (some ⟨g1, 0, none⟩))) rfl fa24_0 ((hK7 3 (keep_of rfl)).trans e7) ((p1.mono (le2.trans le9)).at_ I25) ?_)
     refine ⟨_, _, rfl, PH.Le.refl _, ?_, ?_⟩
     ·
      exact rfl
     ·
      exact I25
    ·
     intro vs8 f w19 S10 X8 le10 hA8 hK8 hI8
     have I26 : Inv w19 S10 (X8) := hI8
     have q5 : f 45 = (fieldPtr (Value.pointer (some ⟨g1, 0, none⟩)) 0) := vt (hA8.at_ 0 rfl _ rfl) rfl
     refine opg_plain rfl rfl (op_load_int (v := (fieldPtr (Value.pointer (some ⟨g1, 0, none⟩)) 0)) (e := a0.Sensors) rfl sh3 q5 (((p1.mono (le2.trans le10)).at_ I26).fld Panel.fld0) ?_)
     refine ⟨_, _, rfl, PH.Le.refl _, ?_, ?_⟩
     ·
      exact rfl
     ·
      exact I26
    ·
     intro vs9 f w20 S11 X9 le11 hA9 hK9 hI9
     have I27 : Inv w20 S11 (X9) := hI9
     have q6 : f 46 = (Value.int .i64 (a0.Sensors)) := vt (hA9.at_ 1 rfl _ rfl) rfl
     refine opg_plain rfl rfl (op_makeSlice (c := a0.Sensors) rfl Try.underlying34 el3 (by decide) q6 q6 I27 hx5 (fun u7 w21 I28 => ?_))
     obtain ⟨z6, m6, k6, e11⟩ := row_form I28
     subst e11
     refine ⟨_, _, rfl, PH.Le.refl _, ?_, ?_⟩
     ·
      exact ⟨_, _, _, rfl⟩
     ·
      exact I28
    ·
     intro vs10 f w22 S12 X10 le12 hA10 hK10 hI10
     have I29 : Inv w22 S12 (X10) := hI10
     obtain ⟨z7, m7, k7, e12⟩ := (hA10.at_ 2 rfl _ rfl).2
     have q7 : f 41 = Value.slice z7 m7 k7 := ((hA10.at_ 2 rfl _ rfl).1 _ rfl).trans e12
     have e12 : vs10 2 = (Value.slice z7 m7 k7) := e12
     refine opg_plain rfl rfl (op_assign (v := (Value.slice z7 m7 k7)) rfl q7 ?_)
     refine ⟨_, _, rfl, PH.Le.refl _, ?_, ?_⟩
     ·
      show (Value.slice z7 m7 k7) = (vs10 2)
      simp only [e12] <;> rfl
     ·
      exact I29
    ·
     intro vs11 f w23 S13 X11 le13 hA11 hK11 hI11
     have I30 : Inv w23 S13 (X11) := hI11
     obtain ⟨z8, m8, k8, e13⟩ := (hA11.at_ 5 rfl _ rfl).2
     have q8 : f 44 = Value.slice z8 m8 k8 := ((hA11.at_ 5 rfl _ rfl).1 _ rfl).trans e13
     have e13 : vs11 5 = (Value.slice z8 m8 k8) := e13
     refine opg_plain rfl rfl (op_assign (v := (Value.slice z8 m8 k8)) rfl q8 ?_)
     refine ⟨_, _, rfl, PH.Le.refl _, ?_, ?_⟩
     ·
      show (Value.slice z8 m8 k8) = (vs11 5)
      simp only [e13] <;> rfl
     ·
      exact I30
    ·
     intro vs12 f w24 S14 X12 le14 hA12 hK12 hI12
     have I31 : Inv w24 S14 (X12) := hI12
     obtain ⟨z9, m9, k9, e14⟩ := (hA12.at_ 8 rfl _ rfl).2
     have q9 : f 47 = Value.slice z9 m9 k9 := ((hA12.at_ 8 rfl _ rfl).1 _ rfl).trans e14
     have e14 : vs12 8 = (Value.slice z9 m9 k9) := e14
     refine opg_plain rfl rfl (op_assign (v := (Value.slice z9 m9 k9)) rfl q9 ?_)
     refine ⟨_, _, rfl, PH.Le.refl _, ?_, ?_⟩
     ·
      show (Value.slice z9 m9 k9) = (vs12 8)
      simp only [e14] <;> rfl
     ·
      exact I31
    ·
     intro vs13 f w25 S15 le15 hF1 hK13 hI13
     have e15 : f 2 = (Value.slice z2 m2 k2) := (hK13 2 (keep_all rfl)).trans e6
     have e16 : f 3 = (Value.pointer (some ⟨g1, 0, none⟩)) := (hK13 3 (keep_all rfl)).trans e7
     have e17 : f 4 = (Value.pointer (some ⟨g2, 0, none⟩)) := (hK13 4 (keep_all rfl)).trans e8
     have e18 : f 9 = (Value.slice none 0 0) := (hK13 9 (keep_all rfl)).trans rfl
     have e19 : f 10 = (Value.bool (true)) := (hK13 10 (keep_all rfl)).trans rfl
     have I32 : Inv w25 S15 (Row (α := Int) 3 (vs13 2) (x5) :: Row (α := Int) 3 (vs13 5) (x5) :: Row (α := Int) 3 (vs13 8) (x5) :: Fr) := hI13
     obtain ⟨z10, m10, k10, e20⟩ := (hF1.at_ 2 rfl _ rfl).2
     have q10 : f 41 = Value.slice z10 m10 k10 := ((hF1.at_ 2 rfl _ rfl).1 _ rfl).trans e20
     have e20 : vs13 2 = (Value.slice z10 m10 k10) := e20
     have I33 := I32
     rw [e20] at I33
     obtain ⟨z11, m11, k11, e21⟩ := (hF1.at_ 5 rfl _ rfl).2
     have q11 : f 44 = Value.slice z11 m11 k11 := ((hF1.at_ 5 rfl _ rfl).1 _ rfl).trans e21
     have e21 : vs13 5 = (Value.slice z11 m11 k11) := e21
     have I34 := I33
     rw [e21] at I34
     obtain ⟨z12, m12, k12, e22⟩ := (hF1.at_ 8 rfl _ rfl).2
     have q12 : f 47 = Value.slice z12 m12 k12 := ((hF1.at_ 8 rfl _ rfl).1 _ rfl).trans e22
     have e22 : vs13 8 = (Value.slice z12 m12 k12) := e22
     have I35 := I34
     rw [e22] at I35
     have q13 : f 11 = (vs13 2) := vt (hF1.at_ 9 rfl _ rfl) rfl
     simp only [e20] at q13
     have q13 : f 11 = (Value.slice z10 m10 k10) := q13
     have q14 : f 12 = (vs13 5) := vt (hF1.at_ 10 rfl _ rfl) rfl
     simp only [e21] at q14
     have q14 : f 12 = (Value.slice z11 m11 k11) := q14
     have q15 : f 13 = (vs13 8) := vt (hF1.at_ 11 rfl _ rfl) rfl
     simp only [e22] at q15
     have q15 : f 13 = (Value.slice z12 m12 k12) := q15
     refine wp_seq' ?_
     refine wp_seq' ?_
     refine wp_region' ?_
     refine wl_op rfl (op_load_int (v := (Value.pointer (some ⟨g2, 0, none⟩))) (e := a1) rfl sh3 e17 ((p2.mono le15).at_ I35) ?_)
     refine wl_op rfl (op_move (v := (Value.int .i64 (0))) rfl rfl ?_)
     refine wl_nil ?_
     obtain ⟨x267, hx267, h⟩ := bnd h
     have I1018 := Inv.rowNil (α := Control_tick) (T := 87) I35
     obtain ⟨out10, hrun10, h⟩ := bnd h
     refine wp_cutN (fun f w => ∃ (S_ : PH) (z154 : Option Addr) (m154 k154 : Nat), S15.Le S_ ∧ Inv w S_ (Row (α := Control_tick) 87 (Value.slice z154 m154 k154) (out10.1) :: Row (α := Int) 3 (Value.slice z10 m10 k10) (out10.2.2.1) :: Row (α := Int) 3 (Value.slice z11 m11 k11) (out10.2.2.2.1) :: Row (α := Int) 3 (Value.slice z12 m12 k12) (out10.2.2.2.2) :: Fr) ∧ f 2 = (Value.slice z2 m2 k2) ∧ f 3 = (Value.pointer (some ⟨g1, 0, none⟩)) ∧ f 9 = (Value.slice z154 m154 k154) ∧ f 10 = (Value.bool (out10.2.1)) ∧ f 11 = (Value.slice z10 m10 k10) ∧ f 12 = (Value.slice z11 m11 k11) ∧ f 13 = (Value.slice z12 m12 k12) ∧ f 48 = (Value.int .i64 (a1))) ?_ ?_
     ·
      refine wp_block' ?_
      refine wp_forS (I := fun (i10 : Nat) (s10 : (List Control_tick × Bool × List Int × List Int × List Int)) (f : Frm) (w : World) => ∃ (S_ : PH) (z153 : Option Addr) (m153 k153 : Nat), S15.Le S_ ∧ Inv w S_ (Row (α := Control_tick) 87 (Value.slice z153 m153 k153) (s10.1) :: Row (α := Int) 3 (Value.slice z10 m10 k10) (s10.2.2.1) :: Row (α := Int) 3 (Value.slice z11 m11 k11) (s10.2.2.2.1) :: Row (α := Int) 3 (Value.slice z12 m12 k12) (s10.2.2.2.2) :: Fr) ∧ f 2 = (Value.slice z2 m2 k2) ∧ f 3 = (Value.pointer (some ⟨g1, 0, none⟩)) ∧ f 9 = (Value.slice z153 m153 k153) ∧ f 10 = (Value.bool (s10.2.1)) ∧ f 11 = (Value.slice z10 m10 k10) ∧ f 12 = (Value.slice z11 m11 k11) ∧ f 13 = (Value.slice z12 m12 k12) ∧ f 48 = (Value.int .i64 (a1)) ∧ f 49 = (Value.int .i64 (i10 : Int))) hrun10 ⟨_, _, _, _, (PH.Le.refl _), ((((I1018.pull 3).pull 3).pull 3).pull 3), e15, e16, e18, e19, q13, q14, q15, rfl, rfl⟩ ?_ ?_
      ·
       rintro i10 s10 f w o10 hlt10 hI476 h94
       obtain ⟨S612, z153, m153, k153, le612, I1019, e2072, e2073, e2074, e2075, e2076, e2077, e2078, e2079, e2080⟩ := hI476
       refine wp_seq' ?_
       refine wp_region' ?_
       refine wl_op rfl (op_lss (a := (i10 : Int)) (b := a1) rfl e2080 e2079 ?_)
       refine wl_nil ?_
       refine wp_seq' ?_
       refine wp_cond_t (b := decide ((i10 : Int) < a1)) rfl (cnt_t hx267 hlt10) ?_
       refine wp_skip' ?_
       refine wp_seq' ?_
       refine wp_block' ?_
       refine wp_seq' ?_
       refine wp_region' ?_
       refine wl_op rfl (op_move (v := (Value.int .i64 ((i10 : Int)))) rfl e2080 ?_)
       refine wl_op rfl (op_assign (v := (Value.int .i64 ((i10 : Int)))) rfl rfl ?_)
       refine wl_nil ?_
       refine wp_seq' ?_
       refine wp_region' ?_
       refine wl_op rfl (op_fieldAddr_t (v := (Value.pointer (some ⟨g1, 0, none⟩))) rfl fa24_0 e2073 ((p1.mono ((le2.trans le15).trans le612)).at_ I1019) ?_)
       refine wl_op rfl (op_load_int (v := (fieldPtr (Value.pointer (some ⟨g1, 0, none⟩)) 0)) (e := a0.Sensors) rfl sh3 rfl (((p1.mono ((le2.trans le15).trans le612)).at_ I1019).fld Panel.fld0) ?_)
       obtain ⟨x268, hx268, h94⟩ := bnd h94
       refine wl_op rfl (op_makeSlice (c := a0.Sensors) rfl Try.underlying83 el4 (by decide) rfl rfl I1019 hx268 (fun u167 w780 I1020 => ?_))
       obtain ⟨z155, m155, k155, e2081⟩ := row_form I1020
       subst e2081
       refine wl_op rfl (op_assign (v := (Value.slice z155 m155 k155)) rfl rfl ?_)
       refine wl_nil ?_
       refine wp_seq' ?_
       obtain ⟨x269, hx269, h94⟩ := bnd h94
       obtain ⟨x270, hx270, h94⟩ := bnd h94
       refine wp_draw (sps := [⟨some 55, [], [0], fun vs_ T_ => fr0 vs_ 0 = (fieldPtr (Value.pointer (some ⟨g1, 0, none⟩)) 1), [], [], [], fun _ h_ => h_⟩, ⟨some 56, [0], [1], fun vs_ T_ => RV T_ (fr0 vs_ 0) a0.Doors, [], [], [], fun hle_ h_ => h_.mono hle_⟩, ⟨some 57, [0, 1], [2], fun vs_ T_ => fr0 vs_ 0 = (Value.int .i64 ((a0.Doors.length : Int))), [], [], [], fun _ h_ => h_⟩, ⟨some 58, [0, 1, 2], [3], fun vs_ T_ => ∃ a_ n_ k_, fr0 vs_ 0 = Value.slice a_ n_ k_, [], [], [0], fun _ h_ => h_⟩, ⟨some 59, [], [4], fun vs_ T_ => fr0 vs_ 0 = (fieldPtr (Value.pointer (some ⟨g1, 0, none⟩)) 1), [], [], [], fun _ h_ => h_⟩, ⟨some 60, [4], [5], fun vs_ T_ => RV T_ (fr0 vs_ 0) a0.Doors, [], [], [], fun hle_ h_ => h_.mono hle_⟩, ⟨some 61, [4, 5], [6], fun vs_ T_ => fr0 vs_ 0 = (Value.int .i64 ((a0.Doors.length : Int))), [], [], [], fun _ h_ => h_⟩, ⟨some 62, [4, 5, 6], [7], fun vs_ T_ => ∃ a_ n_ k_, fr0 vs_ 0 = Value.slice a_ n_ k_, [], [], [1], fun _ h_ => h_⟩, ⟨some 63, [], [8], fun vs_ T_ => fr0 vs_ 0 = (fieldPtr (Value.pointer (some ⟨g1, 0, none⟩)) 1), [], [], [], fun _ h_ => h_⟩, ⟨some 64, [8], [9], fun vs_ T_ => RV T_ (fr0 vs_ 0) a0.Doors, [], [], [], fun hle_ h_ => h_.mono hle_⟩, ⟨some 65, [8, 9], [10], fun vs_ T_ => fr0 vs_ 0 = (Value.int .i64 ((a0.Doors.length : Int))), [], [], [], fun _ h_ => h_⟩, ⟨some 66, [8, 9, 10], [11], fun vs_ T_ => ∃ a_ n_ k_, fr0 vs_ 0 = Value.slice a_ n_ k_, [], [], [2], fun _ h_ => h_⟩, ⟨some 67, [0, 1, 2, 3, 4, 5, 6, 7, 8, 9, 10, 11], [12, 3, 7, 11], fun vs_ T_ => fr0 vs_ 0 = (Value.agg #[(Value.bool (false)), (Value.slice none 0 0), (Value.slice none 0 0), (fr0 vs_ 1), (fr0 vs_ 2), (fr0 vs_ 3)]), [], [], [], fun _ h_ => h_⟩, ⟨some 16, [], [13], fun vs_ T_ => ∃ g_, fr0 vs_ 0 = Value.pointer (some ⟨g_, 0, none⟩), [], [], [3], fun _ h_ => h_⟩, ⟨none, [0, 1, 2, 3, 4, 5, 6, 7, 8, 9, 10, 11, 12, 13], [], fun vs_ T_ => True, [0, 1, 2], [3], [4], fun _ h_ => h_⟩]) (tks := [⟨some 3, none, [3], fun vs_ => Row (α := Int) 3 (fr0 vs_ 0) (x269)⟩, ⟨some 7, none, [7], fun vs_ => Row (α := Int) 3 (fr0 vs_ 0) (x269)⟩, ⟨some 11, none, [11], fun vs_ => Row (α := Bool) 4 (fr0 vs_ 0) (x270)⟩, ⟨some 13, some 14, [13], fun vs_ => Cells (ptrBlk (fr0 vs_ 0)) 87 #[(Value.bool (false)), (Value.slice none 0 0), (Value.slice none 0 0), (Value.slice none 0 0), (Value.slice none 0 0), (Value.slice none 0 0)]⟩, ⟨some 14, none, [3, 7, 11, 13], fun vs_ => Cells (ptrBlk (fr0 vs_ 3)) 87 #[(Value.bool (false)), (Value.slice none 0 0), (Value.slice none 0 0), (fr0 vs_ 0), (fr0 vs_ 1), (fr0 vs_ 2)]⟩]) (O := Row (α := Bool) 4 (Value.slice z155 m155 k155) (x268) :: Row (α := Control_tick) 87 (Value.slice z153 m153 k153) (s10.1) :: Row (α := Int) 3 (Value.slice z10 m10 k10) (s10.2.2.1) :: Row (α := Int) 3 (Value.slice z11 m11 k11) (s10.2.2.2.1) :: Row (α := Int) 3 (Value.slice z12 m12 k12) (s10.2.2.2.2) :: Fr) rfl (by kernel_rfl) I1020 ⟨?_, ?_, ?_, ?_, ?_, ?_, ?_, ?_, ?_, ?_, ?_, ?_, ?_, ?_, ?_, trivial⟩ ?_
       ·
        intro vs458 f w786 S613 X418 le613 hA418 hK458 hI477
        have I1026 : Inv w786 S613 (X418) := hI477
        refine opg_plain rfl rfl (op_fieldAddr_t (v := (Value.pointer (some ⟨g1, 0, none⟩))) rfl fa24_1 ((hK458 3 (keep_of rfl)).trans e2073) ((p1.mono (((le2.trans le15).trans le612).trans le613)).at_ I1026) ?_)
        refine ⟨_, _, rfl, PH.Le.refl _, ?_, ?_⟩
        ·
         exact rfl
        ·
         exact I1026
       ·
        intro vs459 f w787 S614 X419 le614 hA419 hK459 hI478
        have I1027 : Inv w787 S614 (X419) := hI478
        have q403 : f 55 = (fieldPtr (Value.pointer (some ⟨g1, 0, none⟩)) 1) := vt (hA419.at_ 0 rfl _ rfl) rfl
        refine opg_plain rfl rfl (op_load (v := (fieldPtr (Value.pointer (some ⟨g1, 0, none⟩)) 1)) (e := a0.Doors) rfl sh22 q403 (((p1.mono (((le2.trans le15).trans le612).trans le614)).at_ I1027).fld Panel.fld1) (fun u174 hu134 => ?_))
        obtain ⟨z156, m156, k156, e2082⟩ := rv_form hu134
        subst e2082
        refine ⟨_, _, rfl, PH.Le.refl _, ?_, ?_⟩
        ·
         exact hu134
        ·
         exact I1027
       ·
        intro vs460 f w788 S615 X420 le615 hA420 hK460 hI479
        have I1028 : Inv w788 S615 (X420) := hI479
        have q404 : f 56 = vs460 1 := (hA420.at_ 1 rfl _ rfl).1 _ rfl
        have r357 : RV S615 (vs460 1) a0.Doors := (hA420.at_ 1 rfl _ rfl).2
        obtain ⟨u175, hu135⟩ : ∃ u, vs460 1 = u := ⟨_, rfl⟩
        rw [hu135] at q404 r357
        obtain ⟨z157, m157, k157, e2083⟩ := rv_form r357
        subst e2083
        refine opg_plain rfl rfl (op_len_rv rfl Try.underlying22 q404 r357 ?_)
        refine ⟨_, _, rfl, PH.Le.refl _, ?_, ?_⟩
        ·
         exact rfl
        ·
         exact I1028
       ·
        intro vs461 f w789 S616 X421 le616 hA421 hK461 hI480
        have I1029 : Inv w789 S616 (X421) := hI480
        have q405 : f 57 = (Value.int .i64 ((a0.Doors.length : Int))) := vt (hA421.at_ 2 rfl _ rfl) rfl
        refine opg_plain rfl rfl (op_makeSlice (c := (a0.Doors.length : Int)) rfl Try.underlying34 el3 (by decide) q405 q405 I1029 hx269 (fun u176 w790 I1030 => ?_))
        obtain ⟨z158, m158, k158, e2084⟩ := row_form I1030
        subst e2084
        refine ⟨_, _, rfl, PH.Le.refl _, ?_, ?_⟩
        ·
         exact ⟨_, _, _, rfl⟩
        ·
         exact I1030
       ·
        intro vs462 f w791 S617 X422 le617 hA422 hK462 hI481
        have I1031 : Inv w791 S617 (X422) := hI481
        refine opg_plain rfl rfl (op_fieldAddr_t (v := (Value.pointer (some ⟨g1, 0, none⟩))) rfl fa24_1 ((hK462 3 (keep_of rfl)).trans e2073) ((p1.mono (((le2.trans le15).trans le612).trans le617)).at_ I1031) ?_)
        refine ⟨_, _, rfl, PH.Le.refl _, ?_, ?_⟩
        ·
         exact rfl
        ·
         exact I1031
       ·
        intro vs463 f w792 S618 X423 le618 hA423 hK463 hI482
        have I1032 : Inv w792 S618 (X423) := hI482
        have q406 : f 59 = (fieldPtr (Value.pointer (some ⟨g1, 0, none⟩)) 1) := vt (hA423.at_ 0 rfl _ rfl) rfl
        refine opg_plain rfl rfl (op_load (v := (fieldPtr (Value.pointer (some ⟨g1, 0, none⟩)) 1)) (e := a0.Doors) rfl sh22 q406 (((p1.mono (((le2.trans le15).trans le612).trans le618)).at_ I1032).fld Panel.fld1) (fun u177 hu136 => ?_))
        obtain ⟨z159, m159, k159, e2085⟩ := rv_form hu136
        subst e2085
        refine ⟨_, _, rfl, PH.Le.refl _, ?_, ?_⟩
        ·
         exact hu136
        ·
         exact I1032
       ·
        intro vs464 f w793 S619 X424 le619 hA424 hK464 hI483
        have I1033 : Inv w793 S619 (X424) := hI483
        have q407 : f 60 = vs464 5 := (hA424.at_ 1 rfl _ rfl).1 _ rfl
        have r358 : RV S619 (vs464 5) a0.Doors := (hA424.at_ 1 rfl _ rfl).2
        obtain ⟨u178, hu137⟩ : ∃ u, vs464 5 = u := ⟨_, rfl⟩
        rw [hu137] at q407 r358
        obtain ⟨z160, m160, k160, e2086⟩ := rv_form r358
        subst e2086
        refine opg_plain rfl rfl (op_len_rv rfl Try.underlying22 q407 r358 ?_)
        refine ⟨_, _, rfl, PH.Le.refl _, ?_, ?_⟩
        ·
         exact rfl
        ·
         exact I1033
       ·
        intro vs465 f w794 S620 X425 le620 hA425 hK465 hI484
        have I1034 : Inv w794 S620 (X425) := hI484
        have q408 : f 61 = (Value.int .i64 ((a0.Doors.length : Int))) := vt (hA425.at_ 2 rfl _ rfl) rfl
        refine opg_plain rfl rfl (op_makeSlice (c := (a0.Doors.length : Int)) rfl Try.underlying34 el3 (by decide) q408 q408 I1034 hx269 (fun u179 w795 I1035 => ?_))
        obtain ⟨z161, m161, k161, e2087⟩ := row_form I1035
        subst e2087
        refine ⟨_, _, rfl, PH.Le.refl _, ?_, ?_⟩
        ·
         exact ⟨_, _, _, rfl⟩
        ·
         exact I1035
       ·
        intro vs466 f w796 S621 X426 le621 hA426 hK466 hI485
        have I1036 : Inv w796 S621 (X426) := hI485
        refine opg_plain rfl rfl (op_fieldAddr_t (v := (Value.pointer (some ⟨g1, 0, none⟩))) rfl fa24_1 ((hK466 3 (keep_of rfl)).trans e2073) ((p1.mono (((le2.trans le15).trans le612).trans le621)).at_ I1036) ?_)
        refine ⟨_, _, rfl, PH.Le.refl _, ?_, ?_⟩
        ·
         exact rfl
        ·
         exact I1036
       ·
        intro vs467 f w797 S622 X427 le622 hA427 hK467 hI486
        have I1037 : Inv w797 S622 (X427) := hI486
        have q409 : f 63 = (fieldPtr (Value.pointer (some ⟨g1, 0, none⟩)) 1) := vt (hA427.at_ 0 rfl _ rfl) rfl
        refine opg_plain rfl rfl (op_load (v := (fieldPtr (Value.pointer (some ⟨g1, 0, none⟩)) 1)) (e := a0.Doors) rfl sh22 q409 (((p1.mono (((le2.trans le15).trans le612).trans le622)).at_ I1037).fld Panel.fld1) (fun u180 hu138 => ?_))
        obtain ⟨z162, m162, k162, e2088⟩ := rv_form hu138
        subst e2088
        refine ⟨_, _, rfl, PH.Le.refl _, ?_, ?_⟩
        ·
         exact hu138
        ·
         exact I1037
       ·
        intro vs468 f w798 S623 X428 le623 hA428 hK468 hI487
        have I1038 : Inv w798 S623 (X428) := hI487
        have q410 : f 64 = vs468 9 := (hA428.at_ 1 rfl _ rfl).1 _ rfl
        have r359 : RV S623 (vs468 9) a0.Doors := (hA428.at_ 1 rfl _ rfl).2
        obtain ⟨u181, hu139⟩ : ∃ u, vs468 9 = u := ⟨_, rfl⟩
        rw [hu139] at q410 r359
        obtain ⟨z163, m163, k163, e2089⟩ := rv_form r359
        subst e2089
        refine opg_plain rfl rfl (op_len_rv rfl Try.underlying22 q410 r359 ?_)
        refine ⟨_, _, rfl, PH.Le.refl _, ?_, ?_⟩
        ·
         exact rfl
        ·
         exact I1038
       ·
        intro vs469 f w799 S624 X429 le624 hA429 hK469 hI488
        have I1039 : Inv w799 S624 (X429) := hI488
        have q411 : f 65 = (Value.int .i64 ((a0.Doors.length : Int))) := vt (hA429.at_ 2 rfl _ rfl) rfl
        refine opg_plain rfl rfl (op_makeSlice (c := (a0.Doors.length : Int)) rfl Try.underlying83 el4 (by decide) q411 q411 I1039 hx270 (fun u182 w800 I1040 => ?_))
        obtain ⟨z164, m164, k164, e2090⟩ := row_form I1040
        subst e2090
        refine ⟨_, _, rfl, PH.Le.refl _, ?_, ?_⟩
        ·
         exact ⟨_, _, _, rfl⟩
        ·
         exact I1040
       ·
        intro vs470 f w801 S625 X430 le625 hA430 hK470 hI489
        have I1041 : Inv w801 S625 (X430) := hI489
        obtain ⟨z165, m165, k165, e2091⟩ := (hA430.at_ 3 rfl _ rfl).2
        have q412 : f 58 = Value.slice z165 m165 k165 := ((hA430.at_ 3 rfl _ rfl).1 _ rfl).trans e2091
        have e2091 : vs470 3 = (Value.slice z165 m165 k165) := e2091
        obtain ⟨z166, m166, k166, e2092⟩ := (hA430.at_ 7 rfl _ rfl).2
        have q413 : f 62 = Value.slice z166 m166 k166 := ((hA430.at_ 7 rfl _ rfl).1 _ rfl).trans e2092
        have e2092 : vs470 7 = (Value.slice z166 m166 k166) := e2092
        obtain ⟨z167, m167, k167, e2093⟩ := (hA430.at_ 11 rfl _ rfl).2
        have q414 : f 66 = Value.slice z167 m167 k167 := ((hA430.at_ 11 rfl _ rfl).1 _ rfl).trans e2093
        have e2093 : vs470 11 = (Value.slice z167 m167 k167) := e2093
        refine opg_plain rfl rfl (op_build (qs := [(3, #[(Value.slice z165 m165 k165)]), (4, #[(Value.slice z166 m166 k166)]), (5, #[(Value.slice z167 m167 k167)])]) (c := #[(Value.bool (false)), (Value.slice none 0 0), (Value.slice none 0 0), (Value.slice z165 m165 k165), (Value.slice z166 m166 k166), (Value.slice z167 m167 k167)]) rfl st87 ⟨rfl, (cells_of q412 rfl), ⟨rfl, (cells_of q413 rfl), ⟨rfl, (cells_of q414 rfl), trivial⟩⟩⟩ rfl ?_)
        refine ⟨_, _, rfl, PH.Le.refl _, ?_, ?_⟩
        ·
         show (Value.agg #[(Value.bool (false)), (Value.slice none 0 0), (Value.slice none 0 0), (Value.slice z165 m165 k165), (Value.slice z166 m166 k166), (Value.slice z167 m167 k167)]) = (Value.agg #[(Value.bool (false)), (Value.slice none 0 0), (Value.slice none 0 0), (vs470 3), (vs470 7), (vs470 11)])
         simp only [e2091, e2092, e2093] <;> rfl
        ·
         exact I1041
       ·
        intro vs471 f w802 S626 X431 le626 hA431 hK471 hI490
        have I1042 : Inv w802 S626 (X431) := hI490
        refine opg_plain rfl rfl (op_alloc (z := (Value.agg #[(Value.bool (false)), (Value.slice none 0 0), (Value.slice none 0 0), (Value.slice none 0 0), (Value.slice none 0 0), (Value.slice none 0 0)])) rfl I1042 zo87 (fun g36 w803 (I1043 : Inv w803 S626 (Cells g36 87 #[(Value.bool (false)), (Value.slice none 0 0), (Value.slice none 0 0), (Value.slice none 0 0), (Value.slice none 0 0), (Value.slice none 0 0)] :: X431)) => ?_))
        refine ⟨_, _, rfl, PH.Le.refl _, ?_, ?_⟩
        ·
         exact ⟨_, rfl⟩
        ·
         exact I1043
       ·
        intro vs472 f w804 S627 X432 le627 hA432 hK472 hI491
        have I1044 : Inv w804 S627 (Cells (ptrBlk (vs472 13)) 87 #[(Value.bool (false)), (Value.slice none 0 0), (Value.slice none 0 0), (Value.slice none 0 0), (Value.slice none 0 0), (Value.slice none 0 0)] :: Row (α := Int) 3 (vs472 3) (x269) :: Row (α := Int) 3 (vs472 7) (x269) :: Row (α := Bool) 4 (vs472 11) (x270) :: X432) := hI491
        obtain ⟨z168, m168, k168, e2094⟩ := (hA432.at_ 3 rfl _ rfl).2
        have q415 : f 58 = Value.slice z168 m168 k168 := ((hA432.at_ 3 rfl _ rfl).1 _ rfl).trans e2094
        have e2094 : vs472 3 = (Value.slice z168 m168 k168) := e2094
        have I1045 := I1044
        rw [e2094] at I1045
        obtain ⟨z169, m169, k169, e2095⟩ := (hA432.at_ 7 rfl _ rfl).2
        have q416 : f 62 = Value.slice z169 m169 k169 := ((hA432.at_ 7 rfl _ rfl).1 _ rfl).trans e2095
        have e2095 : vs472 7 = (Value.slice z169 m169 k169) := e2095
        have I1046 := I1045
        rw [e2095] at I1046
        obtain ⟨z170, m170, k170, e2096⟩ := (hA432.at_ 11 rfl _ rfl).2
        have q417 : f 66 = Value.slice z170 m170 k170 := ((hA432.at_ 11 rfl _ rfl).1 _ rfl).trans e2096
        have e2096 : vs472 11 = (Value.slice z170 m170 k170) := e2096
        have I1047 := I1046
        rw [e2096] at I1047
        have q418 : f 67 = (Value.agg #[(Value.bool (false)), (Value.slice none 0 0), (Value.slice none 0 0), (vs472 3), (vs472 7), (vs472 11)]) := vt (hA432.at_ 12 rfl _ rfl) rfl
        simp only [e2094, e2095, e2096] at q418
        have q418 : f 67 = (Value.agg #[(Value.bool (false)), (Value.slice none 0 0), (Value.slice none 0 0), (Value.slice z168 m168 k168), (Value.slice z169 m169 k169), (Value.slice z170 m170 k170)]) := q418
        obtain ⟨g37, e2097⟩ := (hA432.at_ 13 rfl _ rfl).2
        have q419 : f 16 = Value.pointer (some ⟨g37, 0, none⟩) := ((hA432.at_ 13 rfl _ rfl).1 _ rfl).trans e2097
        have e2097 : vs472 13 = Value.pointer (some ⟨g37, 0, none⟩) := e2097
        have I1048 := I1047
        rw [e2097] at I1048
        refine opg_plain rfl rfl (op_store (v := (Value.agg #[(Value.bool (false)), (Value.slice none 0 0), (Value.slice none 0 0), (Value.slice z168 m168 k168), (Value.slice z169 m169 k169), (Value.slice z170 m170 k170)])) (cs := #[(Value.bool (false)), (Value.slice none 0 0), (Value.slice none 0 0), (Value.slice none 0 0), (Value.slice none 0 0), (Value.slice none 0 0)]) sh87 I1048 q419 q418 rfl (Nat.le_of_ble_eq_true rfl) rfl (fun w805 (I1049 : Inv w805 S627 (Cells (ptrBlk (Value.pointer (some ⟨g37, 0, none⟩))) 87 #[(Value.bool (false)), (Value.slice none 0 0), (Value.slice none 0 0), (Value.slice z168 m168 k168), (Value.slice z169 m169 k169), (Value.slice z170 m170 k170)] :: Row (α := Int) 3 (Value.slice z168 m168 k168) (x269) :: Row (α := Int) 3 (Value.slice z169 m169 k169) (x269) :: Row (α := Bool) 4 (Value.slice z170 m170 k170) (x270) :: X432)) => ?_))
        refine ⟨undef, _, rfl, PH.Le.refl _, ?_, ?_⟩
        ·
         exact trivial
        ·
         show Inv _ _ (Cells (ptrBlk (vs472 13)) 87 #[(Value.bool (false)), (Value.slice none 0 0), (Value.slice none 0 0), (vs472 3), (vs472 7), (vs472 11)] :: Row (α := Int) 3 (vs472 3) (x269) :: Row (α := Int) 3 (vs472 7) (x269) :: Row (α := Bool) 4 (vs472 11) (x270) :: X432)
         simp only [e2094, e2095, e2096, e2097]
         exact ((((I1049.pull 3).pull 3).pull 3).pull 3)
       ·
        intro vs473 f w806 S628 le628 hF41 hK473 hI492
        have e2098 : f 2 = (Value.slice z2 m2 k2) := (hK473 2 (keep_all rfl)).trans e2072
        have e2099 : f 3 = (Value.pointer (some ⟨g1, 0, none⟩)) := (hK473 3 (keep_all rfl)).trans e2073
        have e2100 : f 9 = (Value.slice z153 m153 k153) := (hK473 9 (keep_all rfl)).trans e2074
        have e2101 : f 10 = (Value.bool (s10.2.1)) := (hK473 10 (keep_all rfl)).trans e2075
        have e2102 : f 11 = (Value.slice z10 m10 k10) := (hK473 11 (keep_all rfl)).trans e2076
        have e2103 : f 12 = (Value.slice z11 m11 k11) := (hK473 12 (keep_all rfl)).trans e2077
        have e2104 : f 13 = (Value.slice z12 m12 k12) := (hK473 13 (keep_all rfl)).trans e2078
        have e2105 : f 14 = (Value.int .i64 ((i10 : Int))) := (hK473 14 (keep_all rfl)).trans rfl
        have e2106 : f 15 = (Value.slice z155 m155 k155) := (hK473 15 (keep_all rfl)).trans rfl
        have e2107 : f 48 = (Value.int .i64 (a1)) := (hK473 48 (keep_all rfl)).trans e2079
        have e2108 : f 49 = (Value.int .i64 ((i10 : Int))) := (hK473 49 (keep_all rfl)).trans e2080
        have I1050 : Inv w806 S628 (Row (α := Int) 3 (vs473 3) (x269) :: Row (α := Int) 3 (vs473 7) (x269) :: Row (α := Bool) 4 (vs473 11) (x270) :: Cells (ptrBlk (vs473 13)) 87 #[(Value.bool (false)), (Value.slice none 0 0), (Value.slice none 0 0), (vs473 3), (vs473 7), (vs473 11)] :: Row (α := Bool) 4 (Value.slice z155 m155 k155) (x268) :: Row (α := Control_tick) 87 (Value.slice z153 m153 k153) (s10.1) :: Row (α := Int) 3 (Value.slice z10 m10 k10) (s10.2.2.1) :: Row (α := Int) 3 (Value.slice z11 m11 k11) (s10.2.2.2.1) :: Row (α := Int) 3 (Value.slice z12 m12 k12) (s10.2.2.2.2) :: Fr) := hI492
        obtain ⟨z171, m171, k171, e2109⟩ := (hF41.at_ 3 rfl _ rfl).2
        have q420 : f 58 = Value.slice z171 m171 k171 := ((hF41.at_ 3 rfl _ rfl).1 _ rfl).trans e2109
        have e2109 : vs473 3 = (Value.slice z171 m171 k171) := e2109
        have I1051 := I1050
        rw [e2109] at I1051
        obtain ⟨z172, m172, k172, e2110⟩ := (hF41.at_ 7 rfl _ rfl).2
        have q421 : f 62 = Value.slice z172 m172 k172 := ((hF41.at_ 7 rfl _ rfl).1 _ rfl).trans e2110
        have e2110 : vs473 7 = (Value.slice z172 m172 k172) := e2110
        have I1052 := I1051
        rw [e2110] at I1052
        obtain ⟨z173, m173, k173, e2111⟩ := (hF41.at_ 11 rfl _ rfl).2
        have q422 : f 66 = Value.slice z173 m173 k173 := ((hF41.at_ 11 rfl _ rfl).1 _ rfl).trans e2111
        have e2111 : vs473 11 = (Value.slice z173 m173 k173) := e2111
        have I1053 := I1052
        rw [e2111] at I1053
        obtain ⟨g38, e2112⟩ := (hF41.at_ 13 rfl _ rfl).2
        have q423 : f 16 = Value.pointer (some ⟨g38, 0, none⟩) := ((hF41.at_ 13 rfl _ rfl).1 _ rfl).trans e2112
        have e2112 : vs473 13 = Value.pointer (some ⟨g38, 0, none⟩) := e2112
        have I1054 := I1053
        rw [e2112] at I1054
        refine wp_seq' ?_
        refine wp_region' ?_
        refine wl_op rfl (op_fieldAddr_t (v := (Value.pointer (some ⟨g1, 0, none⟩))) rfl fa24_1 e2099 ((p1.mono (((le2.trans le15).trans le612).trans le628)).at_ I1054) ?_)
        refine wl_op rfl (op_load (v := (fieldPtr (Value.pointer (some ⟨g1, 0, none⟩)) 1)) (e := a0.Doors) rfl sh22 rfl (((p1.mono (((le2.trans le15).trans le612).trans le628)).at_ I1054).fld Panel.fld1) (fun u183 hu140 => ?_))
        obtain ⟨z174, m174, k174, e2113⟩ := rv_form hu140
        subst e2113
        refine wl_op rfl (op_len_rv rfl Try.underlying22 rfl hu140 ?_)
        obtain ⟨x271, hx271, h94⟩ := bnd h94
        refine wl_op rfl (op_makeSlice (c := (a0.Doors.length : Int)) rfl Try.underlying83 el4 (by decide) rfl rfl I1054 hx271 (fun u184 w807 I1055 => ?_))
        obtain ⟨z175, m175, k175, e2114⟩ := row_form I1055
        subst e2114
        refine wl_op rfl (op_assign (v := (Value.slice z175 m175 k175)) rfl rfl ?_)
        refine wl_nil ?_
        refine wp_seq' ?_
        refine wp_seq' ?_
        refine wp_region' ?_
        refine wl_op rfl (op_move (v := (Value.slice z2 m2 k2)) rfl e2098 ?_)
        refine wl_op rfl (op_len_rv rfl Try.underlying25 rfl (h2_.mono ((((le1.trans le2).trans le15).trans le612).trans le628)) ?_)
        refine wl_op rfl (op_move (v := (Value.int .i64 (0))) rfl rfl ?_)
        refine wl_nil ?_
        have hk10 : a2.length ≤ 9223372036854775807 := (rv_len h2_)
        obtain ⟨out11, hrun11, h94⟩ := bnd h94
        refine wp_cutN (fun f w => Inv w S628 (Row (α := Control_tick) 87 (Value.slice z153 m153 k153) (s10.1) :: Row (α := Int) 3 (Value.slice z10 m10 k10) (out11.2.1) :: Row (α := Int) 3 (Value.slice z11 m11 k11) (s10.2.2.2.1) :: Row (α := Int) 3 (Value.slice z12 m12 k12) (s10.2.2.2.2) :: Row (α := Bool) 4 (Value.slice z155 m155 k155) (out11.2.2.1) :: Cells (ptrBlk (Value.pointer (some ⟨g38, 0, none⟩))) 87 #[(Value.bool (false)), (Value.slice none 0 0), (Value.slice none 0 0), (Value.slice z171 m171 k171), (Value.slice z172 m172 k172), (Value.slice z173 m173 k173)] :: Row (α := Int) 3 (Value.slice z171 m171 k171) (x269) :: Row (α := Int) 3 (Value.slice z172 m172 k172) (x269) :: Row (α := Bool) 4 (Value.slice z173 m173 k173) (out11.2.2.2.1) :: Row (α := Bool) 4 (Value.slice z175 m175 k175) (out11.2.2.2.2) :: Fr) ∧ f 2 = (Value.slice z2 m2 k2) ∧ f 3 = (Value.pointer (some ⟨g1, 0, none⟩)) ∧ f 9 = (Value.slice z153 m153 k153) ∧ f 10 = (Value.bool (out11.1)) ∧ f 11 = (Value.slice z10 m10 k10) ∧ f 12 = (Value.slice z11 m11 k11) ∧ f 13 = (Value.slice z12 m12 k12) ∧ f 14 = (Value.int .i64 ((i10 : Int))) ∧ f 15 = (Value.slice z155 m155 k155) ∧ f 16 = (Value.pointer (some ⟨g38, 0, none⟩)) ∧ f 17 = (Value.slice z175 m175 k175) ∧ f 48 = (Value.int .i64 (a1)) ∧ f 49 = (Value.int .i64 ((i10 : Int))) ∧ f 72 = (Value.slice z2 m2 k2) ∧ f 73 = (Value.int .i64 ((a2.length : Int)))) ?_ ?_
        ·
         refine wp_block' ?_
         refine wp_forS (I := fun (i11 : Nat) (s11 : (Bool × List Int × List Bool × List Bool × List Bool)) (f : Frm) (w : World) => Inv w S628 (Row (α := Control_tick) 87 (Value.slice z153 m153 k153) (s10.1) :: Row (α := Int) 3 (Value.slice z10 m10 k10) (s11.2.1) :: Row (α := Int) 3 (Value.slice z11 m11 k11) (s10.2.2.2.1) :: Row (α := Int) 3 (Value.slice z12 m12 k12) (s10.2.2.2.2) :: Row (α := Bool) 4 (Value.slice z155 m155 k155) (s11.2.2.1) :: Cells (ptrBlk (Value.pointer (some ⟨g38, 0, none⟩))) 87 #[(Value.bool (false)), (Value.slice none 0 0), (Value.slice none 0 0), (Value.slice z171 m171 k171), (Value.slice z172 m172 k172), (Value.slice z173 m173 k173)] :: Row (α := Int) 3 (Value.slice z171 m171 k171) (x269) :: Row (α := Int) 3 (Value.slice z172 m172 k172) (x269) :: Row (α := Bool) 4 (Value.slice z173 m173 k173) (s11.2.2.2.1) :: Row (α := Bool) 4 (Value.slice z175 m175 k175) (s11.2.2.2.2) :: Fr) ∧ f 2 = (Value.slice z2 m2 k2) ∧ f 3 = (Value.pointer (some ⟨g1, 0, none⟩)) ∧ f 9 = (Value.slice z153 m153 k153) ∧ f 10 = (Value.bool (s11.1)) ∧ f 11 = (Value.slice z10 m10 k10) ∧ f 12 = (Value.slice z11 m11 k11) ∧ f 13 = (Value.slice z12 m12 k12) ∧ f 14 = (Value.int .i64 ((i10 : Int))) ∧ f 15 = (Value.slice z155 m155 k155) ∧ f 16 = (Value.pointer (some ⟨g38, 0, none⟩)) ∧ f 17 = (Value.slice z175 m175 k175) ∧ f 48 = (Value.int .i64 (a1)) ∧ f 49 = (Value.int .i64 ((i10 : Int))) ∧ f 72 = (Value.slice z2 m2 k2) ∧ f 73 = (Value.int .i64 ((a2.length : Int))) ∧ f 74 = (Value.int .i64 (i11 : Int))) hrun11 ⟨(((((((((I1055.pull 3).pull 3).pull 3).pull 4).pull 5).pull 9).pull 9).pull 9).pull 9), e2098, e2099, e2100, e2101, e2102, e2103, e2104, e2105, e2106, q423, rfl, e2107, e2108, rfl, rfl, rfl⟩ ?_ ?_
         ·
          rintro i11 s11 f w o11 hlt11 hI493 h96
          obtain ⟨I1077, e2166, e2167, e2168, e2169, e2170, e2171, e2172, e2173, e2174, e2175, e2176, e2177, e2178, e2179, e2180, e2181⟩ := hI493
          refine wp_seq' ?_
          refine wp_region' ?_
          refine wl_op rfl (op_lss (a := (i11 : Int)) (b := (a2.length : Int)) rfl e2181 e2180 ?_)
          refine wl_nil ?_
          refine wp_seq' ?_
          refine wp_cond_t (b := decide ((i11 : Int) < (a2.length : Int))) rfl (len_t hlt11) ?_
          refine wp_skip' ?_
          refine wp_seq' ?_
          refine wp_block' ?_
          refine wp_seq' ?_
          refine wp_region' ?_
          obtain ⟨x287, hx287, h96⟩ := bnd h96
          refine wl_op rfl (op_indexAddr_rv (v := (Value.slice z2 m2 k2)) (i := (i11 : Int)) (e := x287) rfl Try.underlying25 sh46 e2179 (h2_.mono ((((le1.trans le2).trans le15).trans le612).trans le628)) e2181 hx287 ?_)
          refine wl_op rfl (op_load (v := (elemPtr (Value.slice z2 m2 k2) ((i11 : Int)) (Enc.sz Signal))) (e := x287) rfl sh46 rfl ((h2_.mono ((((le1.trans le2).trans le15).trans le612).trans le628)).elem I1077.in_ hx287) (fun u188 hu144 => ?_))
          have e2182 := Signal.inv hu144
          subst e2182
          refine wl_op rfl (op_alloc (z := (Value.agg #[(Value.int .i64 (0)), (Value.int .i64 (0)), (Value.int .i64 (0)), (Value.int .i64 (0))])) rfl I1077 zo46 (fun g42 w826 (I1078 : Inv w826 S628 (Cells g42 46 #[(Value.int .i64 (0)), (Value.int .i64 (0)), (Value.int .i64 (0)), (Value.int .i64 (0))] :: Row (α := Control_tick) 87 (Value.slice z153 m153 k153) (s10.1) :: Row (α := Int) 3 (Value.slice z10 m10 k10) (s11.2.1) :: Row (α := Int) 3 (Value.slice z11 m11 k11) (s10.2.2.2.1) :: Row (α := Int) 3 (Value.slice z12 m12 k12) (s10.2.2.2.2) :: Row (α := Bool) 4 (Value.slice z155 m155 k155) (s11.2.2.1) :: Cells (ptrBlk (Value.pointer (some ⟨g38, 0, none⟩))) 87 #[(Value.bool (false)), (Value.slice none 0 0), (Value.slice none 0 0), (Value.slice z171 m171 k171), (Value.slice z172 m172 k172), (Value.slice z173 m173 k173)] :: Row (α := Int) 3 (Value.slice z171 m171 k171) (x269) :: Row (α := Int) 3 (Value.slice z172 m172 k172) (x269) :: Row (α := Bool) 4 (Value.slice z173 m173 k173) (s11.2.2.2.1) :: Row (α := Bool) 4 (Value.slice z175 m175 k175) (s11.2.2.2.2) :: Fr)) => ?_))
          refine wl_op rfl (op_store (v := (Value.agg #[(Value.int .i64 (x287.At)), (Value.int .i64 (x287.Kind)), (Value.int .i64 (x287.Number)), (Value.int .i64 (x287.Value))])) (cs := #[(Value.int .i64 (0)), (Value.int .i64 (0)), (Value.int .i64 (0)), (Value.int .i64 (0))]) sh46 I1078 rfl rfl rfl (Nat.le_of_ble_eq_true rfl) rfl (fun w827 (I1079 : Inv w827 S628 (Cells g42 46 #[(Value.int .i64 (x287.At)), (Value.int .i64 (x287.Kind)), (Value.int .i64 (x287.Number)), (Value.int .i64 (x287.Value))] :: Row (α := Control_tick) 87 (Value.slice z153 m153 k153) (s10.1) :: Row (α := Int) 3 (Value.slice z10 m10 k10) (s11.2.1) :: Row (α := Int) 3 (Value.slice z11 m11 k11) (s10.2.2.2.1) :: Row (α := Int) 3 (Value.slice z12 m12 k12) (s10.2.2.2.2) :: Row (α := Bool) 4 (Value.slice z155 m155 k155) (s11.2.2.1) :: Cells (ptrBlk (Value.pointer (some ⟨g38, 0, none⟩))) 87 #[(Value.bool (false)), (Value.slice none 0 0), (Value.slice none 0 0), (Value.slice z171 m171 k171), (Value.slice z172 m172 k172), (Value.slice z173 m173 k173)] :: Row (α := Int) 3 (Value.slice z171 m171 k171) (x269) :: Row (α := Int) 3 (Value.slice z172 m172 k172) (x269) :: Row (α := Bool) 4 (Value.slice z173 m173 k173) (s11.2.2.2.1) :: Row (α := Bool) 4 (Value.slice z175 m175 k175) (s11.2.2.2.2) :: Fr)) => ?_))
          refine wl_nil ?_
          refine wp_seq' ?_
          refine wp_seq' ?_
          refine wp_region' ?_
          refine wl_op rfl (op_fieldAddr (v := (Value.pointer (some ⟨g42, 0, none⟩))) rfl fa46_0 rfl rfl ?_)
          refine wl_op rfl (op_load1 (c := (Value.int .i64 (x287.At))) rfl sh3 (I1079.nth 0 rfl) rfl rfl ?_)
          refine wl_op rfl (op_move (v := (Value.int .i64 ((i10 : Int)))) rfl e2173 ?_)
          refine wl_op rfl (op_neq (a := x287.At) (b := (i10 : Int)) rfl rfl rfl ?_)
          refine wl_nil ?_
          rcases ifs h96 with ⟨hc184, h96⟩ | ⟨hc184, h96⟩
          ·
           refine wp_cond_t (b := x287.At != (i10 : Int)) rfl hc184 ?_
           refine wp_exit' ?_
           refine wp_region' ?_
           refine wl_op rfl (op_add (a := (i11 : Int)) (b := 1) rfl e2181 rfl ?_)
           refine wl_op rfl (op_move (v := (Value.int .i64 (w64 ((i11 : Int) + 1)))) rfl rfl ?_)
           refine wl_nil ?_
           obtain rfl := Option.some.inj h96
           exact ⟨(((((((((((I1079).drop.pull 9).pull 9).pull 9).pull 9).pull 9).pull 9).pull 9).pull 9).pull 9).pull 9), e2166, e2167, e2168, e2169, e2170, e2171, e2172, e2173, e2174, e2175, e2176, e2177, e2178, e2179, e2180, (idx_next hlt11 hk10)⟩
          ·
           refine wp_cond_f (b := x287.At != (i10 : Int)) rfl hc184 ?_
           refine wp_skip' ?_
           refine wp_seq' ?_
           refine wp_region' ?_
           refine wl_op rfl (op_fieldAddr (v := (Value.pointer (some ⟨g42, 0, none⟩))) rfl fa46_1 rfl rfl ?_)
           refine wl_op rfl (op_load1 (c := (Value.int .i64 (x287.Kind))) rfl sh3 (I1079.nth 0 rfl) rfl rfl ?_)
           refine wl_nil ?_
           refine wp_block' ?_
           refine wp_seq' ?_
           refine wp_region' ?_
           refine wl_op rfl (op_eql (a := x287.Kind) (b := 1) rfl rfl rfl ?_)
           refine wl_op rfl (op_assign (v := (Value.bool (x287.Kind == 1))) rfl rfl ?_)
           refine wl_nil ?_
           rcases ifs h96 with ⟨hc185, h96⟩ | ⟨hc185, h96⟩
           ·
            refine wp_cond_t (b := x287.Kind == 1) rfl hc185 ?_
            refine wp_region' ?_
            refine wl_op rfl (op_move (v := (Value.slice z10 m10 k10)) rfl e2170 ?_)
            refine wl_op rfl (op_fieldAddr (v := (Value.pointer (some ⟨g42, 0, none⟩))) rfl fa46_2 rfl rfl ?_)
            refine wl_op rfl (op_load1 (c := (Value.int .i64 (x287.Number))) rfl sh3 (I1079.nth 0 rfl) rfl rfl ?_)
            refine wl_op rfl (op_fieldAddr (v := (Value.pointer (some ⟨g42, 0, none⟩))) rfl fa46_3 rfl rfl ?_)
            refine wl_op rfl (op_load1 (c := (Value.int .i64 (x287.Value))) rfl sh3 (I1079.nth 0 rfl) rfl rfl ?_)
            obtain ⟨x288, hx288, h96⟩ := bnd h96
            refine wl_op rfl (op_indexAddr_src (v := (Value.slice z10 m10 k10)) (i := x287.Number) (e := x288) rfl Try.underlying34 sh3 rfl (Inv.rowSrc (I1079.nth 2 rfl)) rfl hx288 ?_)
            refine wl_op rfl (op_storeRow (u := (Value.int .i64 (x287.Value))) (e' := x287.Value) sh3 (I1079.pull 2) rfl rfl hx288 (rv_int' _) (fun w828 I1080 => ?_))
            refine wl_nil ?_
            refine wp_region' ?_
            refine wl_op rfl (op_add (a := (i11 : Int)) (b := 1) rfl e2181 rfl ?_)
            refine wl_op rfl (op_move (v := (Value.int .i64 (w64 ((i11 : Int) + 1)))) rfl rfl ?_)
            refine wl_nil ?_
            obtain rfl := Option.some.inj h96
            exact ⟨(((((((((((I1080.pull 1).drop.pull 9).pull 9).pull 9).pull 9).pull 9).pull 9).pull 9).pull 9).pull 8).pull 9), e2166, e2167, e2168, e2169, e2170, e2171, e2172, e2173, e2174, e2175, e2176, e2177, e2178, e2179, e2180, (idx_next hlt11 hk10)⟩
           ·
            refine wp_cond_f (b := x287.Kind == 1) rfl hc185 ?_
            refine wp_seq' ?_
            refine wp_region' ?_
            refine wl_op rfl (op_eql (a := x287.Kind) (b := 2) rfl rfl rfl ?_)
            refine wl_op rfl (op_assign (v := (Value.bool (x287.Kind == 2))) rfl rfl ?_)
            refine wl_nil ?_
            rcases ifs h96 with ⟨hc186, h96⟩ | ⟨hc186, h96⟩
            ·
             refine wp_cond_t (b := x287.Kind == 2) rfl hc186 ?_
             refine wp_region' ?_
             refine wl_op rfl (op_move (v := (Value.slice z155 m155 k155)) rfl e2174 ?_)
             refine wl_op rfl (op_fieldAddr (v := (Value.pointer (some ⟨g42, 0, none⟩))) rfl fa46_2 rfl rfl ?_)
             refine wl_op rfl (op_load1 (c := (Value.int .i64 (x287.Number))) rfl sh3 (I1079.nth 0 rfl) rfl rfl ?_)
             obtain ⟨x289, hx289, h96⟩ := bnd h96
             refine wl_op rfl (op_indexAddr_src (v := (Value.slice z155 m155 k155)) (i := x287.Number) (e := x289) rfl Try.underlying83 sh4 rfl (Inv.rowSrc (I1079.nth 5 rfl)) rfl hx289 ?_)
             refine wl_op rfl (op_storeRow (u := (Value.bool (true))) (e' := true) sh4 (I1079.pull 5) rfl rfl hx289 (rv_bool' _) (fun w829 I1081 => ?_))
             refine wl_nil ?_
             refine wp_region' ?_
             refine wl_op rfl (op_add (a := (i11 : Int)) (b := 1) rfl e2181 rfl ?_)
             refine wl_op rfl (op_move (v := (Value.int .i64 (w64 ((i11 : Int) + 1)))) rfl rfl ?_)
             refine wl_nil ?_
             obtain rfl := Option.some.inj h96
             exact ⟨(((((((((((I1081.pull 1).drop.pull 9).pull 9).pull 9).pull 9).pull 9).pull 5).pull 9).pull 9).pull 9).pull 9), e2166, e2167, e2168, e2169, e2170, e2171, e2172, e2173, e2174, e2175, e2176, e2177, e2178, e2179, e2180, (idx_next hlt11 hk10)⟩
            ·
             refine wp_cond_f (b := x287.Kind == 2) rfl hc186 ?_
             refine wp_seq' ?_
             refine wp_region' ?_
             refine wl_op rfl (op_eql (a := x287.Kind) (b := 3) rfl rfl rfl ?_)
             refine wl_op rfl (op_assign (v := (Value.bool (x287.Kind == 3))) rfl rfl ?_)
             refine wl_nil ?_
             rcases ifs h96 with ⟨hc187, h96⟩ | ⟨hc187, h96⟩
             ·
              refine wp_cond_t (b := x287.Kind == 3) rfl hc187 ?_
              refine wp_region' ?_
              refine wl_op rfl (op_move (v := (Value.slice z175 m175 k175)) rfl e2176 ?_)
              refine wl_op rfl (op_fieldAddr (v := (Value.pointer (some ⟨g42, 0, none⟩))) rfl fa46_2 rfl rfl ?_)
              refine wl_op rfl (op_load1 (c := (Value.int .i64 (x287.Number))) rfl sh3 (I1079.nth 0 rfl) rfl rfl ?_)
              obtain ⟨x290, hx290, h96⟩ := bnd h96
              refine wl_op rfl (op_indexAddr_src (v := (Value.slice z175 m175 k175)) (i := x287.Number) (e := x290) rfl Try.underlying83 sh4 rfl (Inv.rowSrc (I1079.nth 10 rfl)) rfl hx290 ?_)
              refine wl_op rfl (op_storeRow (u := (Value.bool (true))) (e' := true) sh4 (I1079.pull 10) rfl rfl hx290 (rv_bool' _) (fun w830 I1082 => ?_))
              refine wl_nil ?_
              refine wp_region' ?_
              refine wl_op rfl (op_add (a := (i11 : Int)) (b := 1) rfl e2181 rfl ?_)
              refine wl_op rfl (op_move (v := (Value.int .i64 (w64 ((i11 : Int) + 1)))) rfl rfl ?_)
              refine wl_nil ?_
              obtain rfl := Option.some.inj h96
              exact ⟨((((((((((I1082.pull 1).drop.pull 9).pull 9).pull 9).pull 9).pull 9).pull 9).pull 9).pull 9).pull 9), e2166, e2167, e2168, e2169, e2170, e2171, e2172, e2173, e2174, e2175, e2176, e2177, e2178, e2179, e2180, (idx_next hlt11 hk10)⟩
             ·
              refine wp_cond_f (b := x287.Kind == 3) rfl hc187 ?_
              refine wp_seq' ?_
              refine wp_region' ?_
              refine wl_op rfl (op_eql (a := x287.Kind) (b := 4) rfl rfl rfl ?_)
              refine wl_op rfl (op_assign (v := (Value.bool (x287.Kind == 4))) rfl rfl ?_)
              refine wl_nil ?_
              rcases ifs h96 with ⟨hc188, h96⟩ | ⟨hc188, h96⟩
              ·
               refine wp_cond_t (b := x287.Kind == 4) rfl hc188 ?_
               refine wp_region' ?_
               refine wl_op rfl (op_assign (v := (Value.bool (false))) rfl rfl ?_)
               refine wl_nil ?_
               refine wp_region' ?_
               refine wl_op rfl (op_add (a := (i11 : Int)) (b := 1) rfl e2181 rfl ?_)
               refine wl_op rfl (op_move (v := (Value.int .i64 (w64 ((i11 : Int) + 1)))) rfl rfl ?_)
               refine wl_nil ?_
               obtain rfl := Option.some.inj h96
               exact ⟨(((((((((((I1079).drop.pull 9).pull 9).pull 9).pull 9).pull 9).pull 9).pull 9).pull 9).pull 9).pull 9), e2166, e2167, e2168, rfl, e2170, e2171, e2172, e2173, e2174, e2175, e2176, e2177, e2178, e2179, e2180, (idx_next hlt11 hk10)⟩
              ·
               refine wp_cond_f (b := x287.Kind == 4) rfl hc188 ?_
               refine wp_seq' ?_
               refine wp_region' ?_
               refine wl_op rfl (op_eql (a := x287.Kind) (b := 5) rfl rfl rfl ?_)
               refine wl_op rfl (op_assign (v := (Value.bool (x287.Kind == 5))) rfl rfl ?_)
               refine wl_nil ?_
               rcases ifs h96 with ⟨hc189, h96⟩ | ⟨hc189, h96⟩
               ·
                refine wp_cond_t (b := x287.Kind == 5) rfl hc189 ?_
                refine wp_region' ?_
                refine wl_op rfl (op_assign (v := (Value.bool (true))) rfl rfl ?_)
                refine wl_nil ?_
                refine wp_region' ?_
                refine wl_op rfl (op_add (a := (i11 : Int)) (b := 1) rfl e2181 rfl ?_)
                refine wl_op rfl (op_move (v := (Value.int .i64 (w64 ((i11 : Int) + 1)))) rfl rfl ?_)
                refine wl_nil ?_
                obtain rfl := Option.some.inj h96
                exact ⟨(((((((((((I1079).drop.pull 9).pull 9).pull 9).pull 9).pull 9).pull 9).pull 9).pull 9).pull 9).pull 9), e2166, e2167, e2168, rfl, e2170, e2171, e2172, e2173, e2174, e2175, e2176, e2177, e2178, e2179, e2180, (idx_next hlt11 hk10)⟩
               ·
                refine wp_cond_f (b := x287.Kind == 5) rfl hc189 ?_
                refine wp_seq' ?_
                refine wp_region' ?_
                refine wl_op rfl (op_eql (a := x287.Kind) (b := 6) rfl rfl rfl ?_)
                refine wl_op rfl (op_assign (v := (Value.bool (x287.Kind == 6))) rfl rfl ?_)
                refine wl_nil ?_
                rcases ifs h96 with ⟨hc190, h96⟩ | ⟨hc190, h96⟩
                ·
                 refine wp_cond_t (b := x287.Kind == 6) rfl hc190 ?_
                 refine wp_region' ?_
                 refine wl_op rfl (op_fieldAddr (v := (Value.pointer (some ⟨g38, 0, none⟩))) rfl fa87_5 e2175 rfl ?_)
                 refine wl_op rfl (op_load1 (c := (Value.slice z173 m173 k173)) rfl sh83 (I1079.nth 6 rfl) rfl rfl ?_)
                 refine wl_op rfl (op_fieldAddr (v := (Value.pointer (some ⟨g42, 0, none⟩))) rfl fa46_2 rfl rfl ?_)
                 refine wl_op rfl (op_load1 (c := (Value.int .i64 (x287.Number))) rfl sh3 (I1079.nth 0 rfl) rfl rfl ?_)
                 obtain ⟨x291, hx291, h96⟩ := bnd h96
                 refine wl_op rfl (op_indexAddr_src (v := (Value.slice z173 m173 k173)) (i := x287.Number) (e := x291) rfl Try.underlying83 sh4 rfl (Inv.rowSrc (I1079.nth 9 rfl)) rfl hx291 ?_)
                 refine wl_op rfl (op_storeRow (u := (Value.bool (true))) (e' := true) sh4 (I1079.pull 9) rfl rfl hx291 (rv_bool' _) (fun w831 I1083 => ?_))
                 refine wl_nil ?_
                 refine wp_region' ?_
                 refine wl_op rfl (op_add (a := (i11 : Int)) (b := 1) rfl e2181 rfl ?_)
                 refine wl_op rfl (op_move (v := (Value.int .i64 (w64 ((i11 : Int) + 1)))) rfl rfl ?_)
                 refine wl_nil ?_
                 obtain rfl := Option.some.inj h96
                 exact ⟨(((((((((((I1083.pull 1).drop.pull 9).pull 1).pull 9).pull 9).pull 9).pull 9).pull 9).pull 9).pull 9).pull 9), e2166, e2167, e2168, e2169, e2170, e2171, e2172, e2173, e2174, e2175, e2176, e2177, e2178, e2179, e2180, (idx_next hlt11 hk10)⟩
                ·
                 refine wp_cond_f (b := x287.Kind == 6) rfl hc190 ?_
                 refine wp_skip' ?_
                 refine wp_region' ?_
                 refine wl_op rfl (op_add (a := (i11 : Int)) (b := 1) rfl e2181 rfl ?_)
                 refine wl_op rfl (op_move (v := (Value.int .i64 (w64 ((i11 : Int) + 1)))) rfl rfl ?_)
                 refine wl_nil ?_
                 obtain rfl := Option.some.inj h96
                 exact ⟨(((((((((((I1079).drop.pull 9).pull 9).pull 9).pull 9).pull 9).pull 9).pull 9).pull 9).pull 9).pull 9), e2166, e2167, e2168, e2169, e2170, e2171, e2172, e2173, e2174, e2175, e2176, e2177, e2178, e2179, e2180, (idx_next hlt11 hk10)⟩
         ·
          rintro f w hI494
          obtain ⟨I1084, e2183, e2184, e2185, e2186, e2187, e2188, e2189, e2190, e2191, e2192, e2193, e2194, e2195, e2196, e2197, e2198⟩ := hI494
          refine wp_seq' ?_
          refine wp_region' ?_
          refine wl_op rfl (op_lss (a := (a2.length : Int)) (b := (a2.length : Int)) rfl e2198 e2197 ?_)
          refine wl_nil ?_
          refine wp_seq' ?_
          refine wp_cond_f (b := decide ((a2.length : Int) < (a2.length : Int))) rfl (len_f _) ?_
          refine wp_exit' ?_
          exact ⟨((((((((((I1084.pull 9).pull 9).pull 9).pull 9).pull 9).pull 9).pull 9).pull 9).pull 9).pull 9), e2183, e2184, e2185, e2186, e2187, e2188, e2189, e2190, e2191, e2192, e2193, e2194, e2195, e2196, e2197⟩
        ·
         rintro f w ⟨I1085, e2199, e2200, e2201, e2202, e2203, e2204, e2205, e2206, e2207, e2208, e2209, e2210, e2211, e2212, e2213⟩
         refine wp_seq' ?_
         refine wp_seq' ?_
         refine wp_region' ?_
         refine wl_op rfl (op_move (v := (Value.slice z10 m10 k10)) rfl e2203 ?_)
         refine wl_op rfl (op_len_row (α := Int) rfl Try.underlying34 rfl (I1085.nth 1 rfl) ?_)
         refine wl_op rfl (op_move (v := (Value.int .i64 (0))) rfl rfl ?_)
         refine wl_nil ?_
         have hk11 : out11.2.1.length ≤ 9223372036854775807 := (row_len (I1085.nth 1 rfl))
         obtain ⟨out12, hrun12, h94⟩ := bnd h94
         refine wp_cutN (fun f w => Inv w S628 (Row (α := Control_tick) 87 (Value.slice z153 m153 k153) (s10.1) :: Row (α := Int) 3 (Value.slice z10 m10 k10) (out11.2.1) :: Row (α := Int) 3 (Value.slice z11 m11 k11) (out12.1) :: Row (α := Int) 3 (Value.slice z12 m12 k12) (out12.2) :: Row (α := Bool) 4 (Value.slice z155 m155 k155) (out11.2.2.1) :: Cells (ptrBlk (Value.pointer (some ⟨g38, 0, none⟩))) 87 #[(Value.bool (false)), (Value.slice none 0 0), (Value.slice none 0 0), (Value.slice z171 m171 k171), (Value.slice z172 m172 k172), (Value.slice z173 m173 k173)] :: Row (α := Int) 3 (Value.slice z171 m171 k171) (x269) :: Row (α := Int) 3 (Value.slice z172 m172 k172) (x269) :: Row (α := Bool) 4 (Value.slice z173 m173 k173) (out11.2.2.2.1) :: Row (α := Bool) 4 (Value.slice z175 m175 k175) (out11.2.2.2.2) :: Fr) ∧ f 2 = (Value.slice z2 m2 k2) ∧ f 3 = (Value.pointer (some ⟨g1, 0, none⟩)) ∧ f 9 = (Value.slice z153 m153 k153) ∧ f 10 = (Value.bool (out11.1)) ∧ f 11 = (Value.slice z10 m10 k10) ∧ f 12 = (Value.slice z11 m11 k11) ∧ f 13 = (Value.slice z12 m12 k12) ∧ f 14 = (Value.int .i64 ((i10 : Int))) ∧ f 15 = (Value.slice z155 m155 k155) ∧ f 16 = (Value.pointer (some ⟨g38, 0, none⟩)) ∧ f 17 = (Value.slice z175 m175 k175) ∧ f 48 = (Value.int .i64 (a1)) ∧ f 49 = (Value.int .i64 ((i10 : Int))) ∧ f 117 = (Value.int .i64 ((out11.2.1.length : Int)))) ?_ ?_
         ·
          refine wp_block' ?_
          refine wp_forS (I := fun (i12 : Nat) (s12 : (List Int × List Int)) (f : Frm) (w : World) => Inv w S628 (Row (α := Control_tick) 87 (Value.slice z153 m153 k153) (s10.1) :: Row (α := Int) 3 (Value.slice z10 m10 k10) (out11.2.1) :: Row (α := Int) 3 (Value.slice z11 m11 k11) (s12.1) :: Row (α := Int) 3 (Value.slice z12 m12 k12) (s12.2) :: Row (α := Bool) 4 (Value.slice z155 m155 k155) (out11.2.2.1) :: Cells (ptrBlk (Value.pointer (some ⟨g38, 0, none⟩))) 87 #[(Value.bool (false)), (Value.slice none 0 0), (Value.slice none 0 0), (Value.slice z171 m171 k171), (Value.slice z172 m172 k172), (Value.slice z173 m173 k173)] :: Row (α := Int) 3 (Value.slice z171 m171 k171) (x269) :: Row (α := Int) 3 (Value.slice z172 m172 k172) (x269) :: Row (α := Bool) 4 (Value.slice z173 m173 k173) (out11.2.2.2.1) :: Row (α := Bool) 4 (Value.slice z175 m175 k175) (out11.2.2.2.2) :: Fr) ∧ f 2 = (Value.slice z2 m2 k2) ∧ f 3 = (Value.pointer (some ⟨g1, 0, none⟩)) ∧ f 9 = (Value.slice z153 m153 k153) ∧ f 10 = (Value.bool (out11.1)) ∧ f 11 = (Value.slice z10 m10 k10) ∧ f 12 = (Value.slice z11 m11 k11) ∧ f 13 = (Value.slice z12 m12 k12) ∧ f 14 = (Value.int .i64 ((i10 : Int))) ∧ f 15 = (Value.slice z155 m155 k155) ∧ f 16 = (Value.pointer (some ⟨g38, 0, none⟩)) ∧ f 17 = (Value.slice z175 m175 k175) ∧ f 48 = (Value.int .i64 (a1)) ∧ f 49 = (Value.int .i64 ((i10 : Int))) ∧ f 117 = (Value.int .i64 ((out11.2.1.length : Int))) ∧ f 118 = (Value.int .i64 (i12 : Int))) hrun12 ⟨((((((((((I1085.pull 9).pull 9).pull 9).pull 9).pull 9).pull 9).pull 9).pull 9).pull 9).pull 9), e2199, e2200, e2201, e2202, e2203, e2204, e2205, e2206, e2207, e2208, e2209, e2210, e2211, rfl, rfl⟩ ?_ ?_
          ·
           rintro i12 s12 f w o12 hlt12 hI495 h107
           obtain ⟨I1101, e2310, e2311, e2312, e2313, e2314, e2315, e2316, e2317, e2318, e2319, e2320, e2321, e2322, e2323, e2324⟩ := hI495
           refine wp_seq' ?_
           refine wp_region' ?_
           refine wl_op rfl (op_lss (a := (i12 : Int)) (b := (out11.2.1.length : Int)) rfl e2324 e2323 ?_)
           refine wl_nil ?_
           refine wp_seq' ?_
           refine wp_cond_t (b := decide ((i12 : Int) < (out11.2.1.length : Int))) rfl (len_t hlt12) ?_
           refine wp_skip' ?_
           refine wp_seq' ?_
           refine wp_block' ?_
           refine wp_seq' ?_
           refine wp_region' ?_
           refine wl_op rfl (op_move (v := (Value.int .i64 ((i12 : Int)))) rfl e2324 ?_)
           refine wl_op rfl (op_assign (v := (Value.int .i64 ((i12 : Int)))) rfl rfl ?_)
           refine wl_nil ?_
           refine wp_seq' ?_
           refine wp_region' ?_
           refine wl_op rfl (op_move (v := (Value.slice z12 m12 k12)) rfl e2316 ?_)
           refine wl_op rfl (op_move (v := (Value.int .i64 ((i12 : Int)))) rfl rfl ?_)
           obtain ⟨x313, hx313, h107⟩ := bnd h107
           refine wl_op rfl (op_indexAddr_src (v := (Value.slice z12 m12 k12)) (i := (i12 : Int)) (e := x313) rfl Try.underlying34 sh3 rfl (Inv.rowSrc (I1101.nth 3 rfl)) rfl hx313 ?_)
           refine wl_op rfl (op_load_int (v := (elemPtr (Value.slice z12 m12 k12) ((i12 : Int)) (Enc.sz Int))) (e := x313) rfl sh3 rfl ((I1101.nth 3 rfl).rowElem hx313) ?_)
           refine wl_op rfl (op_add (a := x313) (b := 1) rfl rfl rfl ?_)
           obtain ⟨x314, hx314, h107⟩ := bnd h107
           refine wl_op rfl (op_indexAddr_src (v := (Value.slice z12 m12 k12)) (i := (i12 : Int)) (e := x314) rfl Try.underlying34 sh3 rfl (Inv.rowSrc (I1101.nth 3 rfl)) rfl hx314 ?_)
           refine wl_op rfl (op_storeRow (u := (Value.int .i64 (w64 (x313 + 1)))) (e' := w64 (x313 + 1)) sh3 (I1101.pull 3) rfl rfl hx314 (rv_int' _) (fun w841 I1102 => ?_))
           refine wl_nil ?_
           obtain ⟨v83, h110, h107⟩ := bnd h107
           refine wp_cut (fun f w => Inv w S628 (Row (α := Control_tick) 87 (Value.slice z153 m153 k153) (s10.1) :: Row (α := Int) 3 (Value.slice z10 m10 k10) (out11.2.1) :: Row (α := Int) 3 (Value.slice z11 m11 k11) (s12.1) :: Row (α := Int) 3 (Value.slice z12 m12 k12) (s12.2.set ((i12 : Int)).toNat (w64 (x313 + 1))) :: Row (α := Bool) 4 (Value.slice z155 m155 k155) (out11.2.2.1) :: Cells (ptrBlk (Value.pointer (some ⟨g38, 0, none⟩))) 87 #[(Value.bool (false)), (Value.slice none 0 0), (Value.slice none 0 0), (Value.slice z171 m171 k171), (Value.slice z172 m172 k172), (Value.slice z173 m173 k173)] :: Row (α := Int) 3 (Value.slice z171 m171 k171) (x269) :: Row (α := Int) 3 (Value.slice z172 m172 k172) (x269) :: Row (α := Bool) 4 (Value.slice z173 m173 k173) (out11.2.2.2.1) :: Row (α := Bool) 4 (Value.slice z175 m175 k175) (out11.2.2.2.2) :: Fr) ∧ f 2 = (Value.slice z2 m2 k2) ∧ f 3 = (Value.pointer (some ⟨g1, 0, none⟩)) ∧ f 9 = (Value.slice z153 m153 k153) ∧ f 10 = (Value.bool (out11.1)) ∧ f 11 = (Value.slice z10 m10 k10) ∧ f 12 = (Value.slice z11 m11 k11) ∧ f 13 = (Value.slice z12 m12 k12) ∧ f 14 = (Value.int .i64 ((i10 : Int))) ∧ f 15 = (Value.slice z155 m155 k155) ∧ f 16 = (Value.pointer (some ⟨g38, 0, none⟩)) ∧ f 17 = (Value.slice z175 m175 k175) ∧ f 20 = (Value.int .i64 ((i12 : Int))) ∧ f 48 = (Value.int .i64 (a1)) ∧ f 49 = (Value.int .i64 ((i10 : Int))) ∧ f 117 = (Value.int .i64 ((out11.2.1.length : Int))) ∧ f 118 = (Value.int .i64 ((i12 : Int))) ∧ f 134 = (Value.bool (v83))) ?_ ?_
           ·
            refine wp_region' ?_
            refine wl_op rfl (op_move (v := (Value.bool (out11.1))) rfl e2313 ?_)
            refine wl_op rfl (op_move (v := (Value.bool (out11.1))) rfl rfl ?_)
            rcases ifs h110 with ⟨hc201, h110⟩ | ⟨hc201, h110⟩
            ·
             refine wl_taken (c := out11.1) rfl rfl rfl rfl hc201 (op_move (v := (Value.slice z155 m155 k155)) rfl e2318 ?_)
             refine wl_taken (c := out11.1) rfl rfl rfl rfl hc201 (op_move (v := (Value.int .i64 ((i12 : Int)))) rfl rfl ?_)
             obtain ⟨x316, hx316, h110⟩ := bnd h110
             refine wl_taken (c := out11.1) rfl rfl rfl rfl hc201 (op_indexAddr_src (v := (Value.slice z155 m155 k155)) (i := (i12 : Int)) (e := x316) rfl Try.underlying83 sh4 rfl (Inv.rowSrc (I1102.nth 4 rfl)) rfl hx316 ?_)
             refine wl_taken (c := out11.1) rfl rfl rfl rfl hc201 (op_load_bool (v := (elemPtr (Value.slice z155 m155 k155) ((i12 : Int)) (Enc.sz Bool))) (e := x316) rfl sh4 rfl ((I1102.nth 4 rfl).rowElem hx316) ?_)
             refine wl_taken (c := out11.1) rfl rfl rfl rfl hc201 (op_not (b := x316) rfl rfl ?_)
             refine wl_op rfl (op_pick_t (c := out11.1) (a := (Value.bool (!x316))) rfl rfl hc201 rfl ?_)
             refine wl_nil ?_
             obtain rfl := Option.some.inj h110
             exact ⟨((((((((((I1102.pull 9).pull 9).pull 9).pull 9).pull 9).pull 9).pull 6).pull 9).pull 9).pull 9), e2310, e2311, e2312, e2313, e2314, e2315, e2316, e2317, e2318, e2319, e2320, rfl, e2321, e2322, e2323, e2324, rfl⟩
            ·
             refine wl_skip (c := out11.1) rfl rfl rfl rfl hc201 rfl ?_
             refine wl_skip (c := out11.1) rfl rfl rfl rfl hc201 rfl ?_
             refine wl_skip (c := out11.1) rfl rfl rfl rfl hc201 rfl ?_
             refine wl_skip (c := out11.1) rfl rfl rfl rfl hc201 rfl ?_
             refine wl_skip (c := out11.1) rfl rfl rfl rfl hc201 rfl ?_
             refine wl_op rfl (op_pick_f (c := out11.1) (b := (Value.bool (false))) rfl rfl hc201 rfl ?_)
             refine wl_nil ?_
             obtain rfl := Option.some.inj h110
             exact ⟨((((((((((I1102.pull 9).pull 9).pull 9).pull 9).pull 9).pull 9).pull 6).pull 9).pull 9).pull 9), e2310, e2311, e2312, e2313, e2314, e2315, e2316, e2317, e2318, e2319, e2320, rfl, e2321, e2322, e2323, e2324, rfl⟩
           ·
            rintro f w ⟨I1103, e2325, e2326, e2327, e2328, e2329, e2330, e2331, e2332, e2333, e2334, e2335, e2336, e2337, e2338, e2339, e2340, e2341⟩
            rcases ifs h107 with ⟨hc202, h107⟩ | ⟨hc202, h107⟩
            ·
             refine wp_cond_t (b := v83) e2341 hc202 ?_
             refine wp_region' ?_
             refine wl_op rfl (op_move (v := (Value.slice z11 m11 k11)) rfl e2330 ?_)
             refine wl_op rfl (op_move (v := (Value.int .i64 ((i12 : Int)))) rfl e2336 ?_)
             refine wl_op rfl (op_move (v := (Value.slice z12 m12 k12)) rfl e2331 ?_)
             refine wl_op rfl (op_move (v := (Value.int .i64 ((i12 : Int)))) rfl e2336 ?_)
             refine wl_op rfl (op_move (v := (Value.slice z10 m10 k10)) rfl e2329 ?_)
             refine wl_op rfl (op_move (v := (Value.int .i64 ((i12 : Int)))) rfl e2336 ?_)
             obtain ⟨x317, hx317, h107⟩ := bnd h107
             refine wl_op rfl (op_indexAddr_src (v := (Value.slice z10 m10 k10)) (i := (i12 : Int)) (e := x317) rfl Try.underlying34 sh3 rfl (Inv.rowSrc (I1103.nth 1 rfl)) rfl hx317 ?_)
             refine wl_op rfl (op_load_int (v := (elemPtr (Value.slice z10 m10 k10) ((i12 : Int)) (Enc.sz Int))) (e := x317) rfl sh3 rfl ((I1103.nth 1 rfl).rowElem hx317) ?_)
             obtain ⟨x318, hx318, h107⟩ := bnd h107
             refine wl_op rfl (op_indexAddr_src (v := (Value.slice z11 m11 k11)) (i := (i12 : Int)) (e := x318) rfl Try.underlying34 sh3 rfl (Inv.rowSrc (I1103.nth 2 rfl)) rfl hx318 ?_)
             refine wl_op rfl (op_storeRow (u := (Value.int .i64 (x317))) (e' := x317) sh3 (I1103.pull 2) rfl rfl hx318 (rv_int' _) (fun w842 I1104 => ?_))
             obtain ⟨x319, hx319, h107⟩ := bnd h107
             refine wl_op rfl (op_indexAddr_src (v := (Value.slice z12 m12 k12)) (i := (i12 : Int)) (e := x319) rfl Try.underlying34 sh3 rfl (Inv.rowSrc (I1104.nth 3 rfl)) rfl hx319 ?_)
             refine wl_op rfl (op_storeRow (u := (Value.int .i64 (0))) (e' := 0) sh3 (I1104.pull 3) rfl rfl hx319 (rv_int' _) (fun w843 I1105 => ?_))
             refine wl_nil ?_
             refine wp_region' ?_
             refine wl_op rfl (op_add (a := (i12 : Int)) (b := 1) rfl e2340 rfl ?_)
             refine wl_op rfl (op_move (v := (Value.int .i64 (w64 ((i12 : Int) + 1)))) rfl rfl ?_)
             refine wl_nil ?_
             obtain rfl := Option.some.inj h107
             exact ⟨((((((((((I1105.pull 9).pull 9).pull 9).pull 9).pull 9).pull 9).pull 6).pull 7).pull 9).pull 9), e2325, e2326, e2327, e2328, e2329, e2330, e2331, e2332, e2333, e2334, e2335, e2337, e2338, e2339, (idx_next hlt12 hk11)⟩
            ·
             refine wp_cond_f (b := v83) e2341 hc202 ?_
             refine wp_skip' ?_
             refine wp_region' ?_
             refine wl_op rfl (op_add (a := (i12 : Int)) (b := 1) rfl e2340 rfl ?_)
             refine wl_op rfl (op_move (v := (Value.int .i64 (w64 ((i12 : Int) + 1)))) rfl rfl ?_)
             refine wl_nil ?_
             obtain rfl := Option.some.inj h107
             exact ⟨((((((((((I1103.pull 9).pull 9).pull 9).pull 9).pull 9).pull 9).pull 9).pull 9).pull 9).pull 9), e2325, e2326, e2327, e2328, e2329, e2330, e2331, e2332, e2333, e2334, e2335, e2337, e2338, e2339, (idx_next hlt12 hk11)⟩
          ·
           rintro f w hI496
           obtain ⟨I1106, e2342, e2343, e2344, e2345, e2346, e2347, e2348, e2349, e2350, e2351, e2352, e2353, e2354, e2355, e2356⟩ := hI496
           refine wp_seq' ?_
           refine wp_region' ?_
           refine wl_op rfl (op_lss (a := (out11.2.1.length : Int)) (b := (out11.2.1.length : Int)) rfl e2356 e2355 ?_)
           refine wl_nil ?_
           refine wp_seq' ?_
           refine wp_cond_f (b := decide ((out11.2.1.length : Int) < (out11.2.1.length : Int))) rfl (len_f _) ?_
           refine wp_exit' ?_
           exact ⟨((((((((((I1106.pull 9).pull 9).pull 9).pull 9).pull 9).pull 9).pull 9).pull 9).pull 9).pull 9), e2342, e2343, e2344, e2345, e2346, e2347, e2348, e2349, e2350, e2351, e2352, e2353, e2354, e2355⟩
         ·
          rintro f w ⟨I1107, e2357, e2358, e2359, e2360, e2361, e2362, e2363, e2364, e2365, e2366, e2367, e2368, e2369, e2370⟩
          refine wp_seq' ?_
          refine wp_region' ?_
          refine wl_op rfl (op_move (v := (Value.bool (out11.1))) rfl e2360 ?_)
          refine wl_op rfl (op_move (v := (Value.slice z11 m11 k11)) rfl e2362 ?_)
          obtain ⟨x320, hx320, h94⟩ := bnd h94
          obtain ⟨S629, Fr55, le629, I1108, r360, bk55⟩ := Inv.lend1 (I1107.pull 2)
          refine wl_op rfl (op_call (vs := [(Value.slice z11 m11 k11)]) rfl ca65 rfl (args1 rfl) (F65_ok I1108 r360 hx320) (fun v84 w844 S630 O55 le630 I1110 hv55 => ?_))
          obtain ⟨z176, m176, k176, rfl, rfl⟩ := hv55
          have I1109 := bk55 [Row (α := Int) 3 (Value.slice z176 m176 k176) (x320)] ⟨Row.free, trivial⟩ I1110 le630
          refine wl_op rfl (op_move (v := (Value.slice z12 m12 k12)) rfl e2363 ?_)
          obtain ⟨x321, hx321, h94⟩ := bnd h94
          obtain ⟨S631, Fr56, le631, I1111, r361, bk56⟩ := Inv.lend1 (I1109.pull 4)
          refine wl_op rfl (op_call (vs := [(Value.slice z12 m12 k12)]) rfl ca65 rfl (args1 rfl) (F65_ok I1111 r361 hx321) (fun v85 w845 S632 O56 le632 I1113 hv56 => ?_))
          obtain ⟨z177, m177, k177, rfl, rfl⟩ := hv56
          have I1112 := bk56 [Row (α := Int) 3 (Value.slice z177 m177 k177) (x321)] ⟨Row.free, trivial⟩ I1113 le632
          refine wl_op rfl (op_fieldAddr (v := (Value.pointer (some ⟨g38, 0, none⟩))) rfl fa87_0 e2366 rfl ?_)
          refine wl_op rfl (op_store (v := (Value.bool (out11.1))) (cs := #[(Value.bool (false)), (Value.slice none 0 0), (Value.slice none 0 0), (Value.slice z171 m171 k171), (Value.slice z172 m172 k172), (Value.slice z173 m173 k173)]) sh4 (I1112.pull 7) rfl rfl rfl (Nat.le_of_ble_eq_true rfl) rfl (fun w846 (I1114 : Inv w846 S628 (Cells (ptrBlk (Value.pointer (some ⟨g38, 0, none⟩))) 87 #[(Value.bool (out11.1)), (Value.slice none 0 0), (Value.slice none 0 0), (Value.slice z171 m171 k171), (Value.slice z172 m172 k172), (Value.slice z173 m173 k173)] :: Row (α := Int) 3 (Value.slice z177 m177 k177) (x321) :: Row (α := Int) 3 (Value.slice z12 m12 k12) (out12.2) :: Row (α := Int) 3 (Value.slice z176 m176 k176) (x320) :: Row (α := Int) 3 (Value.slice z11 m11 k11) (out12.1) :: Row (α := Control_tick) 87 (Value.slice z153 m153 k153) (s10.1) :: Row (α := Int) 3 (Value.slice z10 m10 k10) (out11.2.1) :: Row (α := Bool) 4 (Value.slice z155 m155 k155) (out11.2.2.1) :: Row (α := Int) 3 (Value.slice z171 m171 k171) (x269) :: Row (α := Int) 3 (Value.slice z172 m172 k172) (x269) :: Row (α := Bool) 4 (Value.slice z173 m173 k173) (out11.2.2.2.1) :: Row (α := Bool) 4 (Value.slice z175 m175 k175) (out11.2.2.2.2) :: Fr)) => ?_))
          refine wl_op rfl (op_fieldAddr (v := (Value.pointer (some ⟨g38, 0, none⟩))) rfl fa87_1 e2366 rfl ?_)
          refine wl_op rfl (op_store (v := (Value.slice z176 m176 k176)) (cs := #[(Value.bool (out11.1)), (Value.slice none 0 0), (Value.slice none 0 0), (Value.slice z171 m171 k171), (Value.slice z172 m172 k172), (Value.slice z173 m173 k173)]) sh34 I1114 rfl rfl rfl (Nat.le_of_ble_eq_true rfl) rfl (fun w847 (I1115 : Inv w847 S628 (Cells (ptrBlk (Value.pointer (some ⟨g38, 0, none⟩))) 87 #[(Value.bool (out11.1)), (Value.slice z176 m176 k176), (Value.slice none 0 0), (Value.slice z171 m171 k171), (Value.slice z172 m172 k172), (Value.slice z173 m173 k173)] :: Row (α := Int) 3 (Value.slice z177 m177 k177) (x321) :: Row (α := Int) 3 (Value.slice z12 m12 k12) (out12.2) :: Row (α := Int) 3 (Value.slice z176 m176 k176) (x320) :: Row (α := Int) 3 (Value.slice z11 m11 k11) (out12.1) :: Row (α := Control_tick) 87 (Value.slice z153 m153 k153) (s10.1) :: Row (α := Int) 3 (Value.slice z10 m10 k10) (out11.2.1) :: Row (α := Bool) 4 (Value.slice z155 m155 k155) (out11.2.2.1) :: Row (α := Int) 3 (Value.slice z171 m171 k171) (x269) :: Row (α := Int) 3 (Value.slice z172 m172 k172) (x269) :: Row (α := Bool) 4 (Value.slice z173 m173 k173) (out11.2.2.2.1) :: Row (α := Bool) 4 (Value.slice z175 m175 k175) (out11.2.2.2.2) :: Fr)) => ?_))
          refine wl_op rfl (op_fieldAddr (v := (Value.pointer (some ⟨g38, 0, none⟩))) rfl fa87_2 e2366 rfl ?_)
          refine wl_op rfl (op_store (v := (Value.slice z177 m177 k177)) (cs := #[(Value.bool (out11.1)), (Value.slice z176 m176 k176), (Value.slice none 0 0), (Value.slice z171 m171 k171), (Value.slice z172 m172 k172), (Value.slice z173 m173 k173)]) sh34 I1115 rfl rfl rfl (Nat.le_of_ble_eq_true rfl) rfl (fun w848 (I1116 : Inv w848 S628 (Cells (ptrBlk (Value.pointer (some ⟨g38, 0, none⟩))) 87 #[(Value.bool (out11.1)), (Value.slice z176 m176 k176), (Value.slice z177 m177 k177), (Value.slice z171 m171 k171), (Value.slice z172 m172 k172), (Value.slice z173 m173 k173)] :: Row (α := Int) 3 (Value.slice z177 m177 k177) (x321) :: Row (α := Int) 3 (Value.slice z12 m12 k12) (out12.2) :: Row (α := Int) 3 (Value.slice z176 m176 k176) (x320) :: Row (α := Int) 3 (Value.slice z11 m11 k11) (out12.1) :: Row (α := Control_tick) 87 (Value.slice z153 m153 k153) (s10.1) :: Row (α := Int) 3 (Value.slice z10 m10 k10) (out11.2.1) :: Row (α := Bool) 4 (Value.slice z155 m155 k155) (out11.2.2.1) :: Row (α := Int) 3 (Value.slice z171 m171 k171) (x269) :: Row (α := Int) 3 (Value.slice z172 m172 k172) (x269) :: Row (α := Bool) 4 (Value.slice z173 m173 k173) (out11.2.2.2.1) :: Row (α := Bool) 4 (Value.slice z175 m175 k175) (out11.2.2.2.2) :: Fr)) => ?_))
          refine wl_nil ?_
          refine wp_seq' ?_
          refine wp_seq' ?_
          refine wp_region' ?_
          refine wl_op rfl (op_fieldAddr_t (v := (Value.pointer (some ⟨g1, 0, none⟩))) rfl fa24_1 e2358 ((p1.mono (((le2.trans le15).trans le612).trans le628)).at_ I1116) ?_)
          refine wl_op rfl (op_load (v := (fieldPtr (Value.pointer (some ⟨g1, 0, none⟩)) 1)) (e := a0.Doors) rfl sh22 rfl (((p1.mono (((le2.trans le15).trans le612).trans le628)).at_ I1116).fld Panel.fld1) (fun u189 hu145 => ?_))
          obtain ⟨z178, m178, k178, e2371⟩ := rv_form hu145
          subst e2371
          refine wl_op rfl (op_len_rv rfl Try.underlying22 rfl hu145 ?_)
          refine wl_op rfl (op_move (v := (Value.int .i64 (0))) rfl rfl ?_)
          refine wl_nil ?_
          have hk12 : a0.Doors.length ≤ 9223372036854775807 := (rv_len hu145)
          obtain ⟨out13, hrun13, h94⟩ := bnd h94
          refine wp_cutN (fun f w => ∃ (S_ : PH), S628.Le S_ ∧ Inv w S_ (Row (α := Control_tick) 87 (Value.slice z153 m153 k153) (s10.1) :: Row (α := Int) 3 (Value.slice z10 m10 k10) (out11.2.1) :: Row (α := Int) 3 (Value.slice z11 m11 k11) (out12.1) :: Row (α := Int) 3 (Value.slice z12 m12 k12) (out12.2) :: Cells (ptrBlk (Value.pointer (some ⟨g38, 0, none⟩))) 87 #[(Value.bool (out11.1)), (Value.slice z176 m176 k176), (Value.slice z177 m177 k177), (Value.slice z171 m171 k171), (Value.slice z172 m172 k172), (Value.slice z173 m173 k173)] :: Row (α := Int) 3 (Value.slice z176 m176 k176) (x320) :: Row (α := Int) 3 (Value.slice z177 m177 k177) (x321) :: Row (α := Int) 3 (Value.slice z171 m171 k171) (out13.1) :: Row (α := Int) 3 (Value.slice z172 m172 k172) (out13.2) :: Row (α := Bool) 4 (Value.slice z173 m173 k173) (out11.2.2.2.1) :: Row (α := Bool) 4 (Value.slice z175 m175 k175) (out11.2.2.2.2) :: Fr) ∧ f 2 = (Value.slice z2 m2 k2) ∧ f 3 = (Value.pointer (some ⟨g1, 0, none⟩)) ∧ f 9 = (Value.slice z153 m153 k153) ∧ f 10 = (Value.bool (out11.1)) ∧ f 11 = (Value.slice z10 m10 k10) ∧ f 12 = (Value.slice z11 m11 k11) ∧ f 13 = (Value.slice z12 m12 k12) ∧ f 14 = (Value.int .i64 ((i10 : Int))) ∧ f 16 = (Value.pointer (some ⟨g38, 0, none⟩)) ∧ f 17 = (Value.slice z175 m175 k175) ∧ f 48 = (Value.int .i64 (a1)) ∧ f 49 = (Value.int .i64 ((i10 : Int))) ∧ f 155 = (Value.slice z178 m178 k178) ∧ f 156 = (Value.int .i64 ((a0.Doors.length : Int)))) ?_ ?_
          ·
           refine wp_block' ?_
           refine wp_forS (I := fun (i13 : Nat) (s13 : (List Int × List Int)) (f : Frm) (w : World) => ∃ (S_ : PH), S628.Le S_ ∧ Inv w S_ (Row (α := Control_tick) 87 (Value.slice z153 m153 k153) (s10.1) :: Row (α := Int) 3 (Value.slice z10 m10 k10) (out11.2.1) :: Row (α := Int) 3 (Value.slice z11 m11 k11) (out12.1) :: Row (α := Int) 3 (Value.slice z12 m12 k12) (out12.2) :: Cells (ptrBlk (Value.pointer (some ⟨g38, 0, none⟩))) 87 #[(Value.bool (out11.1)), (Value.slice z176 m176 k176), (Value.slice z177 m177 k177), (Value.slice z171 m171 k171), (Value.slice z172 m172 k172), (Value.slice z173 m173 k173)] :: Row (α := Int) 3 (Value.slice z176 m176 k176) (x320) :: Row (α := Int) 3 (Value.slice z177 m177 k177) (x321) :: Row (α := Int) 3 (Value.slice z171 m171 k171) (s13.1) :: Row (α := Int) 3 (Value.slice z172 m172 k172) (s13.2) :: Row (α := Bool) 4 (Value.slice z173 m173 k173) (out11.2.2.2.1) :: Row (α := Bool) 4 (Value.slice z175 m175 k175) (out11.2.2.2.2) :: Fr) ∧ f 2 = (Value.slice z2 m2 k2) ∧ f 3 = (Value.pointer (some ⟨g1, 0, none⟩)) ∧ f 9 = (Value.slice z153 m153 k153) ∧ f 10 = (Value.bool (out11.1)) ∧ f 11 = (Value.slice z10 m10 k10) ∧ f 12 = (Value.slice z11 m11 k11) ∧ f 13 = (Value.slice z12 m12 k12) ∧ f 14 = (Value.int .i64 ((i10 : Int))) ∧ f 16 = (Value.pointer (some ⟨g38, 0, none⟩)) ∧ f 17 = (Value.slice z175 m175 k175) ∧ f 48 = (Value.int .i64 (a1)) ∧ f 49 = (Value.int .i64 ((i10 : Int))) ∧ f 155 = (Value.slice z178 m178 k178) ∧ f 156 = (Value.int .i64 ((a0.Doors.length : Int))) ∧ f 157 = (Value.int .i64 (i13 : Int))) hrun13 ⟨_, (PH.Le.refl _), ((((((((((((I1116.pull 7).drop.pull 10).pull 10).pull 10).pull 10).pull 5).pull 7).pull 6).pull 7).pull 8).pull 10).pull 10), e2357, e2358, e2359, e2360, e2361, e2362, e2363, e2364, e2366, e2367, e2368, e2369, rfl, rfl, rfl⟩ ?_ ?_
           ·
            rintro i13 s13 f w o13 hlt13 hI596 h121
            obtain ⟨S761, le761, I1282, e2636, e2637, e2638, e2639, e2640, e2641, e2642, e2643, e2644, e2645, e2646, e2647, e2648, e2649, e2650⟩ := hI596
            refine wp_seq' ?_
            refine wp_region' ?_
            refine wl_op rfl (op_lss (a := (i13 : Int)) (b := (a0.Doors.length : Int)) rfl e2650 e2649 ?_)
            refine wl_nil ?_
            refine wp_seq' ?_
            refine wp_cond_t (b := decide ((i13 : Int) < (a0.Doors.length : Int))) rfl (len_t hlt13) ?_
            refine wp_skip' ?_
            refine wp_seq' ?_
            refine wp_block' ?_
            refine wp_seq' ?_
            refine wp_region' ?_
            refine wl_op rfl (op_move (v := (Value.int .i64 ((i13 : Int)))) rfl e2650 ?_)
            obtain ⟨x346, hx346, h121⟩ := bnd h121
            refine wl_op rfl (op_indexAddr_rv (v := (Value.slice z178 m178 k178)) (i := (i13 : Int)) (e := x346) rfl Try.underlying22 sh33 e2648 (hu145.mono le761) e2650 hx346 ?_)
            refine wl_op rfl (op_load (v := (elemPtr (Value.slice z178 m178 k178) ((i13 : Int)) (Enc.sz Gate))) (e := x346) rfl sh33 rfl ((hu145.mono le761).elem I1282.in_ hx346) (fun u211 hu167 => ?_))
            obtain ⟨c78, e2651, r443⟩ := Gate.inv hu167
            subst e2651
            obtain ⟨z194, m194, k194, e2652⟩ := rv_form r443
            subst e2652
            refine wl_op rfl (op_alloc (z := (Value.agg #[(Value.int .i64 (0)), (Value.slice none 0 0)])) rfl I1282 zo33 (fun g46 w984 (I1283 : Inv w984 S761 (Cells g46 33 #[(Value.int .i64 (0)), (Value.slice none 0 0)] :: Row (α := Control_tick) 87 (Value.slice z153 m153 k153) (s10.1) :: Row (α := Int) 3 (Value.slice z10 m10 k10) (out11.2.1) :: Row (α := Int) 3 (Value.slice z11 m11 k11) (out12.1) :: Row (α := Int) 3 (Value.slice z12 m12 k12) (out12.2) :: Cells (ptrBlk (Value.pointer (some ⟨g38, 0, none⟩))) 87 #[(Value.bool (out11.1)), (Value.slice z176 m176 k176), (Value.slice z177 m177 k177), (Value.slice z171 m171 k171), (Value.slice z172 m172 k172), (Value.slice z173 m173 k173)] :: Row (α := Int) 3 (Value.slice z176 m176 k176) (x320) :: Row (α := Int) 3 (Value.slice z177 m177 k177) (x321) :: Row (α := Int) 3 (Value.slice z171 m171 k171) (s13.1) :: Row (α := Int) 3 (Value.slice z172 m172 k172) (s13.2) :: Row (α := Bool) 4 (Value.slice z173 m173 k173) (out11.2.2.2.1) :: Row (α := Bool) 4 (Value.slice z175 m175 k175) (out11.2.2.2.2) :: Fr)) => ?_))
            refine wl_op rfl (op_assign (v := (Value.int .i64 ((i13 : Int)))) rfl rfl ?_)
            refine wl_op rfl (op_store (v := (Value.agg #[(Value.int .i64 (x346.Wait)), (Value.slice z194 m194 k194)])) (cs := #[(Value.int .i64 (0)), (Value.slice none 0 0)]) sh33 I1283 rfl rfl rfl (Nat.le_of_ble_eq_true rfl) rfl (fun w985 (I1284 : Inv w985 S761 (Cells g46 33 #[(Value.int .i64 (x346.Wait)), (Value.slice z194 m194 k194)] :: Row (α := Control_tick) 87 (Value.slice z153 m153 k153) (s10.1) :: Row (α := Int) 3 (Value.slice z10 m10 k10) (out11.2.1) :: Row (α := Int) 3 (Value.slice z11 m11 k11) (out12.1) :: Row (α := Int) 3 (Value.slice z12 m12 k12) (out12.2) :: Cells (ptrBlk (Value.pointer (some ⟨g38, 0, none⟩))) 87 #[(Value.bool (out11.1)), (Value.slice z176 m176 k176), (Value.slice z177 m177 k177), (Value.slice z171 m171 k171), (Value.slice z172 m172 k172), (Value.slice z173 m173 k173)] :: Row (α := Int) 3 (Value.slice z176 m176 k176) (x320) :: Row (α := Int) 3 (Value.slice z177 m177 k177) (x321) :: Row (α := Int) 3 (Value.slice z171 m171 k171) (s13.1) :: Row (α := Int) 3 (Value.slice z172 m172 k172) (s13.2) :: Row (α := Bool) 4 (Value.slice z173 m173 k173) (out11.2.2.2.1) :: Row (α := Bool) 4 (Value.slice z175 m175 k175) (out11.2.2.2.2) :: Fr)) => ?_))
            refine wl_nil ?_
            obtain ⟨v103, h124, h121⟩ := bnd h121
            refine wp_cut (fun f w => ∃ (S_ : PH), S761.Le S_ ∧ Inv w S_ (Row (α := Control_tick) 87 (Value.slice z153 m153 k153) (s10.1) :: Row (α := Int) 3 (Value.slice z10 m10 k10) (out11.2.1) :: Row (α := Int) 3 (Value.slice z11 m11 k11) (out12.1) :: Row (α := Int) 3 (Value.slice z12 m12 k12) (out12.2) :: Cells (ptrBlk (Value.pointer (some ⟨g38, 0, none⟩))) 87 #[(Value.bool (out11.1)), (Value.slice z176 m176 k176), (Value.slice z177 m177 k177), (Value.slice z171 m171 k171), (Value.slice z172 m172 k172), (Value.slice z173 m173 k173)] :: Row (α := Int) 3 (Value.slice z176 m176 k176) (x320) :: Row (α := Int) 3 (Value.slice z177 m177 k177) (x321) :: Row (α := Int) 3 (Value.slice z171 m171 k171) (v103) :: Row (α := Int) 3 (Value.slice z172 m172 k172) (s13.2) :: Row (α := Bool) 4 (Value.slice z173 m173 k173) (out11.2.2.2.1) :: Row (α := Bool) 4 (Value.slice z175 m175 k175) (out11.2.2.2.2) :: Fr) ∧ f 2 = (Value.slice z2 m2 k2) ∧ f 3 = (Value.pointer (some ⟨g1, 0, none⟩)) ∧ f 9 = (Value.slice z153 m153 k153) ∧ f 10 = (Value.bool (out11.1)) ∧ f 11 = (Value.slice z10 m10 k10) ∧ f 12 = (Value.slice z11 m11 k11) ∧ f 13 = (Value.slice z12 m12 k12) ∧ f 14 = (Value.int .i64 ((i10 : Int))) ∧ f 16 = (Value.pointer (some ⟨g38, 0, none⟩)) ∧ f 17 = (Value.slice z175 m175 k175) ∧ f 21 = (Value.int .i64 ((i13 : Int))) ∧ f 48 = (Value.int .i64 (a1)) ∧ f 49 = (Value.int .i64 ((i10 : Int))) ∧ f 155 = (Value.slice z178 m178 k178) ∧ f 156 = (Value.int .i64 ((a0.Doors.length : Int))) ∧ f 157 = (Value.int .i64 ((i13 : Int)))) ?_ ?_
            ·
             refine wp_seq' ?_
             refine wp_region' ?_
             refine wl_op rfl (op_move (v := (Value.bool (out11.1))) rfl e2639 ?_)
             refine wl_nil ?_
             rcases ifs h124 with ⟨hc213, h124⟩ | ⟨hc213, h124⟩
             ·
              refine wp_cond_t (b := out11.1) rfl hc213 ?_
              obtain ⟨x349, hx349, h124⟩ := bnd h124
              obtain ⟨x350, hx350, h124⟩ := bnd h124
              refine wp_draw (sps := [⟨some 163, [], [0], fun vs_ T_ => fr0 vs_ 0 = (Value.pointer (some ⟨g38, 3, none⟩)), [], [], [], fun _ h_ => h_⟩, ⟨some 164, [0], [1], fun vs_ T_ => fr0 vs_ 0 = (Value.slice z171 m171 k171), [0], [], [], fun _ h_ => h_⟩, ⟨some 165, [], [2], fun vs_ T_ => fr0 vs_ 0 = (Value.int .i64 ((i13 : Int))), [], [], [], fun _ h_ => h_⟩, ⟨some 166, [], [3], fun vs_ T_ => fr0 vs_ 0 = (Value.agg #[(Value.bool (out11.1)), (Value.slice z176 m176 k176), (Value.slice z177 m177 k177), (Value.slice z171 m171 k171), (Value.slice z172 m172 k172), (Value.slice z173 m173 k173)]), [0], [], [], fun _ h_ => h_⟩, ⟨some 167, [], [4], fun vs_ T_ => RV T_ (fr0 vs_ 0) a0, [], [], [], fun hle_ h_ => h_.mono hle_⟩, ⟨some 168, [], [5], fun vs_ T_ => fr0 vs_ 0 = (Value.int .i64 ((i10 : Int))), [], [], [], fun _ h_ => h_⟩, ⟨some 169, [], [6], fun vs_ T_ => fr0 vs_ 0 = (Value.agg #[(Value.int .i64 (x346.Wait)), (Value.slice z194 m194 k194)]), [1], [], [], fun _ h_ => h_⟩, ⟨some 170, [3, 4, 5, 6], [7], fun vs_ T_ => fr0 vs_ 0 = (Value.int .i64 (x349)), [2, 3, 4, 5, 6], [], [], fun _ h_ => h_⟩, ⟨some 171, [0, 1, 2, 3, 4, 5, 6, 7], [8], fun vs_ T_ => fr0 vs_ 0 = (elemPtr (Value.slice z171 m171 k171) ((i13 : Int)) (Enc.sz Int)), [2], [], [], fun _ h_ => h_⟩, ⟨none, [0, 1, 2, 3, 4, 5, 6, 7, 8], [], fun vs_ T_ => True, [], [2], [7], fun _ h_ => h_⟩]) (tks := [⟨none, none, [], fun vs_ => Cells (ptrBlk (Value.pointer (some ⟨g38, 0, none⟩))) 87 #[(Value.bool (out11.1)), (Value.slice z176 m176 k176), (Value.slice z177 m177 k177), (Value.slice z171 m171 k171), (Value.slice z172 m172 k172), (Value.slice z173 m173 k173)]⟩, ⟨none, none, [], fun vs_ => Cells g46 33 #[(Value.int .i64 (x346.Wait)), (Value.slice z194 m194 k194)]⟩, ⟨none, some 9, [], fun vs_ => Row (α := Int) 3 (Value.slice z171 m171 k171) (s13.1)⟩, ⟨none, none, [], fun vs_ => Row (α := Int) 3 (Value.slice z172 m172 k172) (s13.2)⟩, ⟨none, none, [], fun vs_ => Row (α := Bool) 4 (Value.slice z173 m173 k173) (out11.2.2.2.1)⟩, ⟨none, none, [], fun vs_ => Row (α := Int) 3 (Value.slice z176 m176 k176) (x320)⟩, ⟨none, none, [], fun vs_ => Row (α := Int) 3 (Value.slice z177 m177 k177) (x321)⟩, ⟨some 9, none, [], fun vs_ => Row (α := Int) 3 (Value.slice z171 m171 k171) (s13.1.set ((i13 : Int)).toNat x349)⟩]) (O := Row (α := Control_tick) 87 (Value.slice z153 m153 k153) (s10.1) :: Row (α := Int) 3 (Value.slice z10 m10 k10) (out11.2.1) :: Row (α := Int) 3 (Value.slice z11 m11 k11) (out12.1) :: Row (α := Int) 3 (Value.slice z12 m12 k12) (out12.2) :: Row (α := Bool) 4 (Value.slice z175 m175 k175) (out11.2.2.2.2) :: Fr) rfl (by kernel_rfl) (((((((I1284.pull 7).pull 7).pull 10).pull 10).pull 10).pull 5).pull 10) ⟨?_, ?_, ?_, ?_, ?_, ?_, ?_, ?_, ?_, ?_, trivial⟩ ?_
              ·
               intro vs584 f w1003 S779 X533 le779 hA533 hK584 hI608
               have I1308 : Inv w1003 S779 (X533) := hI608
               refine opg_plain rfl rfl (op_fieldAddr (v := (Value.pointer (some ⟨g38, 0, none⟩))) rfl fa87_3 ((hK584 16 (keep_of rfl)).trans e2644) rfl ?_)
               refine ⟨_, _, rfl, PH.Le.refl _, ?_, ?_⟩
               ·
                exact rfl
               ·
                exact I1308
              ·
               intro vs585 f w1004 S780 X534 le780 hA534 hK585 hI609
               have I1309 : Inv w1004 S780 (Cells (ptrBlk (Value.pointer (some ⟨g38, 0, none⟩))) 87 #[(Value.bool (out11.1)), (Value.slice z176 m176 k176), (Value.slice z177 m177 k177), (Value.slice z171 m171 k171), (Value.slice z172 m172 k172), (Value.slice z173 m173 k173)] :: X534) := hI609
               have q514 : f 163 = (Value.pointer (some ⟨g38, 3, none⟩)) := vt (hA534.at_ 0 rfl _ rfl) rfl
               refine opg_plain rfl rfl (op_load1 (c := (Value.slice z171 m171 k171)) rfl sh34 (I1309.nth 0 rfl) q514 rfl ?_)
               refine ⟨_, _, rfl, PH.Le.refl _, ?_, ?_⟩
               ·
                exact rfl
               ·
                exact I1309
              ·
               intro vs586 f w1005 S781 X535 le781 hA535 hK586 hI610
               have I1310 : Inv w1005 S781 (X535) := hI610
               refine opg_plain rfl rfl (op_move (v := (Value.int .i64 ((i13 : Int)))) rfl (hK586 21 (keep_of rfl)) ?_)
               refine ⟨_, _, rfl, PH.Le.refl _, ?_, ?_⟩
               ·
                exact rfl
               ·
                exact I1310
              ·
               intro vs587 f w1006 S782 X536 le782 hA536 hK587 hI611
               have I1311 : Inv w1006 S782 (Cells (ptrBlk (Value.pointer (some ⟨g38, 0, none⟩))) 87 #[(Value.bool (out11.1)), (Value.slice z176 m176 k176), (Value.slice z177 m177 k177), (Value.slice z171 m171 k171), (Value.slice z172 m172 k172), (Value.slice z173 m173 k173)] :: X536) := hI611
               refine opg_plain rfl rfl (op_loadN (l := [(Value.bool (out11.1)), (Value.slice z176 m176 k176), (Value.slice z177 m177 k177), (Value.slice z171 m171 k171), (Value.slice z172 m172 k172), (Value.slice z173 m173 k173)]) rfl sh87 (I1311.nth 0 rfl) ((hK587 16 (keep_of rfl)).trans e2644) rfl rfl ?_)
               refine ⟨_, _, rfl, PH.Le.refl _, ?_, ?_⟩
               ·
                exact rfl
               ·
                exact I1311
              ·
               intro vs588 f w1007 S783 X537 le783 hA537 hK588 hI612
               have I1312 : Inv w1007 S783 (X537) := hI612
               refine opg_plain rfl rfl (op_load (v := (Value.pointer (some ⟨g1, 0, none⟩))) (e := a0) rfl sh24 ((hK588 3 (keep_of rfl)).trans e2637) ((p1.mono (((((le2.trans le15).trans le612).trans le628).trans le761).trans le783)).at_ I1312) (fun u216 hu172 => ?_))
               obtain ⟨c81, e2673, r462⟩ := Panel.inv hu172
               subst e2673
               obtain ⟨z197, m197, k197, e2674⟩ := rv_form r462
               subst e2674
               refine ⟨_, _, rfl, PH.Le.refl _, ?_, ?_⟩
               ·
                exact (Panel.rv (s := a0) r462)
               ·
                exact I1312
              ·
               intro vs589 f w1008 S784 X538 le784 hA538 hK589 hI613
               have I1313 : Inv w1008 S784 (X538) := hI613
               refine opg_plain rfl rfl (op_move (v := (Value.int .i64 ((i10 : Int)))) rfl ((hK589 14 (keep_of rfl)).trans e2643) ?_)
               refine ⟨_, _, rfl, PH.Le.refl _, ?_, ?_⟩
               ·
                exact rfl
               ·
                exact I1313
              ·
               intro vs590 f w1009 S785 X539 le785 hA539 hK590 hI614
               have I1314 : Inv w1009 S785 (Cells g46 33 #[(Value.int .i64 (x346.Wait)), (Value.slice z194 m194 k194)] :: X539) := hI614
               refine opg_plain rfl rfl (op_loadN (l := [(Value.int .i64 (x346.Wait)), (Value.slice z194 m194 k194)]) rfl sh33 (I1314.nth 0 rfl) (hK590 22 (keep_of rfl)) rfl rfl ?_)
               refine ⟨_, _, rfl, PH.Le.refl _, ?_, ?_⟩
               ·
                exact rfl
               ·
                exact I1314
              ·
               intro vs591 f w1010 S786 X540 le786 hA540 hK591 hI615
               have I1315 : Inv w1010 S786 (Row (α := Int) 3 (Value.slice z171 m171 k171) (s13.1) :: Row (α := Int) 3 (Value.slice z172 m172 k172) (s13.2) :: Row (α := Bool) 4 (Value.slice z173 m173 k173) (out11.2.2.2.1) :: Row (α := Int) 3 (Value.slice z176 m176 k176) (x320) :: Row (α := Int) 3 (Value.slice z177 m177 k177) (x321) :: X540) := hI615
               have q515 : f 166 = (Value.agg #[(Value.bool (out11.1)), (Value.slice z176 m176 k176), (Value.slice z177 m177 k177), (Value.slice z171 m171 k171), (Value.slice z172 m172 k172), (Value.slice z173 m173 k173)]) := vt (hA540.at_ 0 rfl _ rfl) rfl
               have q516 : f 167 = vs591 4 := (hA540.at_ 1 rfl _ rfl).1 _ rfl
               have r463 : RV S786 (vs591 4) a0 := (hA540.at_ 1 rfl _ rfl).2
               obtain ⟨u217, hu173⟩ : ∃ u, vs591 4 = u := ⟨_, rfl⟩
               rw [hu173] at q516 r463
               obtain ⟨c82, e2675, r464⟩ := Panel.inv r463
               subst e2675
               obtain ⟨z198, m198, k198, e2676⟩ := rv_form r464
               subst e2676
               have q517 : f 168 = (Value.int .i64 ((i10 : Int))) := vt (hA540.at_ 2 rfl _ rfl) rfl
               have q518 : f 169 = (Value.agg #[(Value.int .i64 (x346.Wait)), (Value.slice z194 m194 k194)]) := vt (hA540.at_ 3 rfl _ rfl) rfl
               obtain ⟨S787, Fr72, le787, I1316, r465, r466, r467, r468, r469, bk72⟩ := Inv.lend5 (((((I1315.pull 2).pull 2).pull 2).pull 4).pull 4)
               refine opg_plain rfl rfl (op_call (vs := [(Value.agg #[(Value.bool (out11.1)), (Value.slice z176 m176 k176), (Value.slice z177 m177 k177), (Value.slice z171 m171 k171), (Value.slice z172 m172 k172), (Value.slice z173 m173 k173)]), (Value.agg #[(Value.int .i64 (a0.Sensors)), (Value.slice z198 m198 k198), (Value.int .i64 (a0.Stale)), (Value.int .i64 (a0.Limit))]), (Value.int .i64 ((i10 : Int))), (Value.agg #[(Value.int .i64 (x346.Wait)), (Value.slice z194 m194 k194)])]) rfl ca66 rfl (args4 q515 q516 q517 q518) (F66_ok I1316 (Control_tick.rv (s := (⟨out11.1, x320, x321, s13.1, s13.2, out11.2.2.2.1⟩ : Control_tick)) r465 r466 r467 r468 r469) (Panel.rv (s := a0) (r464.mono le787)) (Gate.rv (s := x346) (r443.mono (le786.trans le787))) hx349) (fun v105 w1011 S788 O72 le788 I1318 hv72 => ?_))
               obtain ⟨rfl, rfl⟩ := hv72
               have I1317 := bk72 [] trivial I1318 le788
               refine ⟨_, _, rfl, PH.Le.refl _, ?_, ?_⟩
               ·
                exact rfl
               ·
                exact (((((I1317.pull 1).pull 1).pull 4).pull 4).pull 4)
              ·
               intro vs592 f w1012 S789 X541 le789 hA541 hK592 hI616
               have I1319 : Inv w1012 S789 (Row (α := Int) 3 (Value.slice z171 m171 k171) (s13.1) :: X541) := hI616
               have q519 : f 164 = (Value.slice z171 m171 k171) := vt (hA541.at_ 1 rfl _ rfl) rfl
               have q520 : f 165 = (Value.int .i64 ((i13 : Int))) := vt (hA541.at_ 2 rfl _ rfl) rfl
               refine opg_plain rfl rfl (op_indexAddr_src (v := (Value.slice z171 m171 k171)) (i := (i13 : Int)) (e := x350) rfl Try.underlying34 sh3 q519 (Inv.rowSrc (I1319.nth 0 rfl)) q520 hx350 ?_)
               refine ⟨_, _, rfl, PH.Le.refl _, ?_, ?_⟩
               ·
                exact rfl
               ·
                exact I1319
              ·
               intro vs593 f w1013 S790 X542 le790 hA542 hK593 hI617
               have I1320 : Inv w1013 S790 (Row (α := Int) 3 (Value.slice z171 m171 k171) (s13.1) :: X542) := hI617
               have q521 : f 170 = (Value.int .i64 (x349)) := vt (hA542.at_ 7 rfl _ rfl) rfl
               have q522 : f 171 = (elemPtr (Value.slice z171 m171 k171) ((i13 : Int)) (Enc.sz Int)) := vt (hA542.at_ 8 rfl _ rfl) rfl
               refine opg_plain rfl rfl (op_storeRow (u := (Value.int .i64 (x349))) (e' := x349) sh3 I1320 q522 q521 hx350 (rv_int' _) (fun w1014 I1321 => ?_))
               refine ⟨undef, _, rfl, PH.Le.refl _, ?_, ?_⟩
               ·
                exact trivial
               ·
                exact I1321
              ·
               intro vs594 f w1015 S791 le791 hF52 hK594 hI618
               have e2677 : f 2 = (Value.slice z2 m2 k2) := (hK594 2 (keep_all rfl)).trans e2636
               have e2678 : f 3 = (Value.pointer (some ⟨g1, 0, none⟩)) := (hK594 3 (keep_all rfl)).trans e2637
               have e2679 : f 9 = (Value.slice z153 m153 k153) := (hK594 9 (keep_all rfl)).trans e2638
               have e2680 : f 10 = (Value.bool (out11.1)) := (hK594 10 (keep_all rfl)).trans e2639
               have e2681 : f 11 = (Value.slice z10 m10 k10) := (hK594 11 (keep_all rfl)).trans e2640
               have e2682 : f 12 = (Value.slice z11 m11 k11) := (hK594 12 (keep_all rfl)).trans e2641
               have e2683 : f 13 = (Value.slice z12 m12 k12) := (hK594 13 (keep_all rfl)).trans e2642
               have e2684 : f 14 = (Value.int .i64 ((i10 : Int))) := (hK594 14 (keep_all rfl)).trans e2643
               have e2685 : f 16 = (Value.pointer (some ⟨g38, 0, none⟩)) := (hK594 16 (keep_all rfl)).trans e2644
               have e2686 : f 17 = (Value.slice z175 m175 k175) := (hK594 17 (keep_all rfl)).trans e2645
               have e2687 : f 21 = (Value.int .i64 ((i13 : Int))) := (hK594 21 (keep_all rfl)).trans rfl
               have e2688 : f 48 = (Value.int .i64 (a1)) := (hK594 48 (keep_all rfl)).trans e2646
               have e2689 : f 49 = (Value.int .i64 ((i10 : Int))) := (hK594 49 (keep_all rfl)).trans e2647
               have e2690 : f 155 = (Value.slice z178 m178 k178) := (hK594 155 (keep_all rfl)).trans e2648
               have e2691 : f 156 = (Value.int .i64 ((a0.Doors.length : Int))) := (hK594 156 (keep_all rfl)).trans e2649
               have e2692 : f 157 = (Value.int .i64 ((i13 : Int))) := (hK594 157 (keep_all rfl)).trans e2650
               have I1322 : Inv w1015 S791 (Cells (ptrBlk (Value.pointer (some ⟨g38, 0, none⟩))) 87 #[(Value.bool (out11.1)), (Value.slice z176 m176 k176), (Value.slice z177 m177 k177), (Value.slice z171 m171 k171), (Value.slice z172 m172 k172), (Value.slice z173 m173 k173)] :: Cells g46 33 #[(Value.int .i64 (x346.Wait)), (Value.slice z194 m194 k194)] :: Row (α := Int) 3 (Value.slice z172 m172 k172) (s13.2) :: Row (α := Bool) 4 (Value.slice z173 m173 k173) (out11.2.2.2.1) :: Row (α := Int) 3 (Value.slice z176 m176 k176) (x320) :: Row (α := Int) 3 (Value.slice z177 m177 k177) (x321) :: Row (α := Int) 3 (Value.slice z171 m171 k171) (s13.1.set ((i13 : Int)).toNat x349) :: Row (α := Control_tick) 87 (Value.slice z153 m153 k153) (s10.1) :: Row (α := Int) 3 (Value.slice z10 m10 k10) (out11.2.1) :: Row (α := Int) 3 (Value.slice z11 m11 k11) (out12.1) :: Row (α := Int) 3 (Value.slice z12 m12 k12) (out12.2) :: Row (α := Bool) 4 (Value.slice z175 m175 k175) (out11.2.2.2.2) :: Fr) := hI618
               obtain rfl := Option.some.inj h124
               exact ⟨_, le791, ((((((((((((I1322.pull 1).drop.pull 10).pull 3).pull 3).pull 6).pull 6).pull 6).pull 6).pull 10).pull 10).pull 10).pull 10), e2677, e2678, e2679, e2680, e2681, e2682, e2683, e2684, e2685, e2686, e2687, e2688, e2689, e2690, e2691, e2692⟩
             ·
              refine wp_cond_f (b := out11.1) rfl hc213 ?_
              refine wp_skip' ?_
              obtain rfl := Option.some.inj h124
              exact ⟨_, (PH.Le.refl _), ((((((((((((I1284).drop.pull 10).pull 10).pull 10).pull 10).pull 10).pull 10).pull 10).pull 10).pull 10).pull 10).pull 10), e2636, e2637, e2638, e2639, e2640, e2641, e2642, e2643, e2644, e2645, rfl, e2646, e2647, e2648, e2649, e2650⟩
            ·
             rintro f w ⟨S792, le792, I1323, e2693, e2694, e2695, e2696, e2697, e2698, e2699, e2700, e2701, e2702, e2703, e2704, e2705, e2706, e2707, e2708⟩
             refine wp_seq' ?_
             refine wp_region' ?_
             refine wl_op rfl (op_move (v := (Value.slice z175 m175 k175)) rfl e2702 ?_)
             refine wl_op rfl (op_move (v := (Value.int .i64 ((i13 : Int)))) rfl e2703 ?_)
             obtain ⟨x351, hx351, h121⟩ := bnd h121
             refine wl_op rfl (op_indexAddr_src (v := (Value.slice z175 m175 k175)) (i := (i13 : Int)) (e := x351) rfl Try.underlying83 sh4 rfl (Inv.rowSrc (I1323.nth 10 rfl)) rfl hx351 ?_)
             refine wl_op rfl (op_load_bool (v := (elemPtr (Value.slice z175 m175 k175) ((i13 : Int)) (Enc.sz Bool))) (e := x351) rfl sh4 rfl ((I1323.nth 10 rfl).rowElem hx351) ?_)
             refine wl_op rfl (op_not (b := x351) rfl rfl ?_)
             refine wl_nil ?_
             rcases ifs h121 with ⟨hc214, h121⟩ | ⟨hc214, h121⟩
             ·
              refine wp_cond_t (b := !x351) rfl hc214 ?_
              obtain ⟨x352, hx352, h121⟩ := bnd h121
              obtain ⟨x353, hx353, h121⟩ := bnd h121
              refine wp_draw (sps := [⟨some 177, [], [0], fun vs_ T_ => fr0 vs_ 0 = (Value.pointer (some ⟨g38, 4, none⟩)), [], [], [], fun _ h_ => h_⟩, ⟨some 178, [0], [1], fun vs_ T_ => fr0 vs_ 0 = (Value.slice z172 m172 k172), [0], [], [], fun _ h_ => h_⟩, ⟨some 179, [], [2], fun vs_ T_ => fr0 vs_ 0 = (Value.int .i64 ((i13 : Int))), [], [], [], fun _ h_ => h_⟩, ⟨some 180, [], [3], fun vs_ T_ => fr0 vs_ 0 = (Value.pointer (some ⟨g38, 3, none⟩)), [], [], [], fun _ h_ => h_⟩, ⟨some 181, [3], [4], fun vs_ T_ => fr0 vs_ 0 = (Value.slice z171 m171 k171), [0], [], [], fun _ h_ => h_⟩, ⟨some 182, [], [5], fun vs_ T_ => fr0 vs_ 0 = (Value.int .i64 ((i13 : Int))), [], [], [], fun _ h_ => h_⟩, ⟨some 183, [3, 4, 5], [6], fun vs_ T_ => fr0 vs_ 0 = (elemPtr (Value.slice z171 m171 k171) ((i13 : Int)) (Enc.sz Int)), [1], [], [], fun _ h_ => h_⟩, ⟨some 184, [3, 4, 5, 6], [7], fun vs_ T_ => fr0 vs_ 0 = (Value.int .i64 (x352)), [1], [], [], fun _ h_ => h_⟩, ⟨some 185, [0, 1, 2, 3, 4, 5, 6, 7], [8], fun vs_ T_ => fr0 vs_ 0 = (elemPtr (Value.slice z172 m172 k172) ((i13 : Int)) (Enc.sz Int)), [2], [], [], fun _ h_ => h_⟩, ⟨none, [0, 1, 2, 3, 4, 5, 6, 7, 8], [], fun vs_ T_ => True, [], [2], [3], fun _ h_ => h_⟩]) (tks := [⟨none, none, [], fun vs_ => Cells (ptrBlk (Value.pointer (some ⟨g38, 0, none⟩))) 87 #[(Value.bool (out11.1)), (Value.slice z176 m176 k176), (Value.slice z177 m177 k177), (Value.slice z171 m171 k171), (Value.slice z172 m172 k172), (Value.slice z173 m173 k173)]⟩, ⟨none, none, [], fun vs_ => Row (α := Int) 3 (Value.slice z171 m171 k171) (v103)⟩, ⟨none, some 9, [], fun vs_ => Row (α := Int) 3 (Value.slice z172 m172 k172) (s13.2)⟩, ⟨some 9, none, [], fun vs_ => Row (α := Int) 3 (Value.slice z172 m172 k172) (s13.2.set ((i13 : Int)).toNat x352)⟩]) (O := Row (α := Control_tick) 87 (Value.slice z153 m153 k153) (s10.1) :: Row (α := Int) 3 (Value.slice z10 m10 k10) (out11.2.1) :: Row (α := Int) 3 (Value.slice z11 m11 k11) (out12.1) :: Row (α := Int) 3 (Value.slice z12 m12 k12) (out12.2) :: Row (α := Int) 3 (Value.slice z176 m176 k176) (x320) :: Row (α := Int) 3 (Value.slice z177 m177 k177) (x321) :: Row (α := Bool) 4 (Value.slice z173 m173 k173) (out11.2.2.2.1) :: Row (α := Bool) 4 (Value.slice z175 m175 k175) (out11.2.2.2.2) :: Fr) rfl (by kernel_rfl) (((I1323.pull 8).pull 8).pull 6) ⟨?_, ?_, ?_, ?_, ?_, ?_, ?_, ?_, ?_, ?_, trivial⟩ ?_
              ·
               intro vs595 f w1017 S793 X543 le793 hA543 hK595 hI619
               have I1325 : Inv w1017 S793 (X543) := hI619
               refine opg_plain rfl rfl (op_fieldAddr (v := (Value.pointer (some ⟨g38, 0, none⟩))) rfl fa87_4 ((hK595 16 (keep_of rfl)).trans e2701) rfl ?_)
               refine ⟨_, _, rfl, PH.Le.refl _, ?_, ?_⟩
               ·
                exact rfl
               ·
                exact I1325
              ·
               intro vs596 f w1018 S794 X544 le794 hA544 hK596 hI620
               have I1326 : Inv w1018 S794 (Cells (ptrBlk (Value.pointer (some ⟨g38, 0, none⟩))) 87 #[(Value.bool (out11.1)), (Value.slice z176 m176 k176), (Value.slice z177 m177 k177), (Value.slice z171 m171 k171), (Value.slice z172 m172 k172), (Value.slice z173 m173 k173)] :: X544) := hI620
               have q523 : f 177 = (Value.pointer (some ⟨g38, 4, none⟩)) := vt (hA544.at_ 0 rfl _ rfl) rfl
               refine opg_plain rfl rfl (op_load1 (c := (Value.slice z172 m172 k172)) rfl sh34 (I1326.nth 0 rfl) q523 rfl ?_)
               refine ⟨_, _, rfl, PH.Le.refl _, ?_, ?_⟩
               ·
                exact rfl
               ·
                exact I1326
              ·
               intro vs597 f w1019 S795 X545 le795 hA545 hK597 hI621
               have I1327 : Inv w1019 S795 (X545) := hI621
               refine opg_plain rfl rfl (op_move (v := (Value.int .i64 ((i13 : Int)))) rfl ((hK597 21 (keep_of rfl)).trans e2703) ?_)
               refine ⟨_, _, rfl, PH.Le.refl _, ?_, ?_⟩
               ·
                exact rfl
               ·
                exact I1327
              ·
               intro vs598 f w1020 S796 X546 le796 hA546 hK598 hI622
               have I1328 : Inv w1020 S796 (X546) := hI622
               refine opg_plain rfl rfl (op_fieldAddr (v := (Value.pointer (some ⟨g38, 0, none⟩))) rfl fa87_3 ((hK598 16 (keep_of rfl)).trans e2701) rfl ?_)
               refine ⟨_, _, rfl, PH.Le.refl _, ?_, ?_⟩
               ·
                exact rfl
               ·
                exact I1328
              ·
               intro vs599 f w1021 S797 X547 le797 hA547 hK599 hI623
               have I1329 : Inv w1021 S797 (Cells (ptrBlk (Value.pointer (some ⟨g38, 0, none⟩))) 87 #[(Value.bool (out11.1)), (Value.slice z176 m176 k176), (Value.slice z177 m177 k177), (Value.slice z171 m171 k171), (Value.slice z172 m172 k172), (Value.slice z173 m173 k173)] :: X547) := hI623
               have q524 : f 180 = (Value.pointer (some ⟨g38, 3, none⟩)) := vt (hA547.at_ 0 rfl _ rfl) rfl
               refine opg_plain rfl rfl (op_load1 (c := (Value.slice z171 m171 k171)) rfl sh34 (I1329.nth 0 rfl) q524 rfl ?_)
               refine ⟨_, _, rfl, PH.Le.refl _, ?_, ?_⟩
               ·
                exact rfl
               ·
                exact I1329
              ·
               intro vs600 f w1022 S798 X548 le798 hA548 hK600 hI624
               have I1330 : Inv w1022 S798 (X548) := hI624
               refine opg_plain rfl rfl (op_move (v := (Value.int .i64 ((i13 : Int)))) rfl ((hK600 21 (keep_of rfl)).trans e2703) ?_)
               refine ⟨_, _, rfl, PH.Le.refl _, ?_, ?_⟩
               ·
                exact rfl
               ·
                exact I1330
              ·
               intro vs601 f w1023 S799 X549 le799 hA549 hK601 hI625
               have I1331 : Inv w1023 S799 (Row (α := Int) 3 (Value.slice z171 m171 k171) (v103) :: X549) := hI625
               have q525 : f 181 = (Value.slice z171 m171 k171) := vt (hA549.at_ 1 rfl _ rfl) rfl
               have q526 : f 182 = (Value.int .i64 ((i13 : Int))) := vt (hA549.at_ 2 rfl _ rfl) rfl
               refine opg_plain rfl rfl (op_indexAddr_src (v := (Value.slice z171 m171 k171)) (i := (i13 : Int)) (e := x352) rfl Try.underlying34 sh3 q525 (Inv.rowSrc (I1331.nth 0 rfl)) q526 hx352 ?_)
               refine ⟨_, _, rfl, PH.Le.refl _, ?_, ?_⟩
               ·
                exact rfl
               ·
                exact I1331
              ·
               intro vs602 f w1024 S800 X550 le800 hA550 hK602 hI626
               have I1332 : Inv w1024 S800 (Row (α := Int) 3 (Value.slice z171 m171 k171) (v103) :: X550) := hI626
               have q527 : f 183 = (elemPtr (Value.slice z171 m171 k171) ((i13 : Int)) (Enc.sz Int)) := vt (hA550.at_ 3 rfl _ rfl) rfl
               refine opg_plain rfl rfl (op_load_int (v := (elemPtr (Value.slice z171 m171 k171) ((i13 : Int)) (Enc.sz Int))) (e := x352) rfl sh3 q527 ((I1332.nth 0 rfl).rowElem hx352) ?_)
               refine ⟨_, _, rfl, PH.Le.refl _, ?_, ?_⟩
               ·
                exact rfl
               ·
                exact I1332
              ·
               intro vs603 f w1025 S801 X551 le801 hA551 hK603 hI627
               have I1333 : Inv w1025 S801 (Row (α := Int) 3 (Value.slice z172 m172 k172) (s13.2) :: X551) := hI627
               have q528 : f 178 = (Value.slice z172 m172 k172) := vt (hA551.at_ 1 rfl _ rfl) rfl
               have q529 : f 179 = (Value.int .i64 ((i13 : Int))) := vt (hA551.at_ 2 rfl _ rfl) rfl
               refine opg_plain rfl rfl (op_indexAddr_src (v := (Value.slice z172 m172 k172)) (i := (i13 : Int)) (e := x353) rfl Try.underlying34 sh3 q528 (Inv.rowSrc (I1333.nth 0 rfl)) q529 hx353 ?_)
               refine ⟨_, _, rfl, PH.Le.refl _, ?_, ?_⟩
               ·
                exact rfl
               ·
                exact I1333
              ·
               intro vs604 f w1026 S802 X552 le802 hA552 hK604 hI628
               have I1334 : Inv w1026 S802 (Row (α := Int) 3 (Value.slice z172 m172 k172) (s13.2) :: X552) := hI628
               have q530 : f 184 = (Value.int .i64 (x352)) := vt (hA552.at_ 7 rfl _ rfl) rfl
               have q531 : f 185 = (elemPtr (Value.slice z172 m172 k172) ((i13 : Int)) (Enc.sz Int)) := vt (hA552.at_ 8 rfl _ rfl) rfl
               refine opg_plain rfl rfl (op_storeRow (u := (Value.int .i64 (x352))) (e' := x352) sh3 I1334 q531 q530 hx353 (rv_int' _) (fun w1027 I1335 => ?_))
               refine ⟨undef, _, rfl, PH.Le.refl _, ?_, ?_⟩
               ·
                exact trivial
               ·
                exact I1335
              ·
               intro vs605 f w1028 S803 le803 hF53 hK605 hI629
               have e2709 : f 2 = (Value.slice z2 m2 k2) := (hK605 2 (keep_all rfl)).trans e2693
               have e2710 : f 3 = (Value.pointer (some ⟨g1, 0, none⟩)) := (hK605 3 (keep_all rfl)).trans e2694
               have e2711 : f 9 = (Value.slice z153 m153 k153) := (hK605 9 (keep_all rfl)).trans e2695
               have e2712 : f 10 = (Value.bool (out11.1)) := (hK605 10 (keep_all rfl)).trans e2696
               have e2713 : f 11 = (Value.slice z10 m10 k10) := (hK605 11 (keep_all rfl)).trans e2697
               have e2714 : f 12 = (Value.slice z11 m11 k11) := (hK605 12 (keep_all rfl)).trans e2698
               have e2715 : f 13 = (Value.slice z12 m12 k12) := (hK605 13 (keep_all rfl)).trans e2699
               have e2716 : f 14 = (Value.int .i64 ((i10 : Int))) := (hK605 14 (keep_all rfl)).trans e2700
               have e2717 : f 16 = (Value.pointer (some ⟨g38, 0, none⟩)) := (hK605 16 (keep_all rfl)).trans e2701
               have e2718 : f 17 = (Value.slice z175 m175 k175) := (hK605 17 (keep_all rfl)).trans e2702
               have e2719 : f 48 = (Value.int .i64 (a1)) := (hK605 48 (keep_all rfl)).trans e2704
               have e2720 : f 49 = (Value.int .i64 ((i10 : Int))) := (hK605 49 (keep_all rfl)).trans e2705
               have e2721 : f 155 = (Value.slice z178 m178 k178) := (hK605 155 (keep_all rfl)).trans e2706
               have e2722 : f 156 = (Value.int .i64 ((a0.Doors.length : Int))) := (hK605 156 (keep_all rfl)).trans e2707
               have e2723 : f 157 = (Value.int .i64 ((i13 : Int))) := (hK605 157 (keep_all rfl)).trans e2708
               have I1336 : Inv w1028 S803 (Cells (ptrBlk (Value.pointer (some ⟨g38, 0, none⟩))) 87 #[(Value.bool (out11.1)), (Value.slice z176 m176 k176), (Value.slice z177 m177 k177), (Value.slice z171 m171 k171), (Value.slice z172 m172 k172), (Value.slice z173 m173 k173)] :: Row (α := Int) 3 (Value.slice z171 m171 k171) (v103) :: Row (α := Int) 3 (Value.slice z172 m172 k172) (s13.2.set ((i13 : Int)).toNat x352) :: Row (α := Control_tick) 87 (Value.slice z153 m153 k153) (s10.1) :: Row (α := Int) 3 (Value.slice z10 m10 k10) (out11.2.1) :: Row (α := Int) 3 (Value.slice z11 m11 k11) (out12.1) :: Row (α := Int) 3 (Value.slice z12 m12 k12) (out12.2) :: Row (α := Int) 3 (Value.slice z176 m176 k176) (x320) :: Row (α := Int) 3 (Value.slice z177 m177 k177) (x321) :: Row (α := Bool) 4 (Value.slice z173 m173 k173) (out11.2.2.2.1) :: Row (α := Bool) 4 (Value.slice z175 m175 k175) (out11.2.2.2.2) :: Fr) := hI629
               refine wp_region' ?_
               refine wl_op rfl (op_add (a := (i13 : Int)) (b := 1) rfl e2723 rfl ?_)
               refine wl_op rfl (op_move (v := (Value.int .i64 (w64 ((i13 : Int) + 1)))) rfl rfl ?_)
               refine wl_nil ?_
               obtain rfl := Option.some.inj h121
               exact ⟨_, ((le761.trans le792).trans le803), (((((((((((I1336.pull 10).pull 10).pull 4).pull 4).pull 10).pull 10).pull 6).pull 10).pull 10).pull 10).pull 10), e2709, e2710, e2711, e2712, e2713, e2714, e2715, e2716, e2717, e2718, e2719, e2720, e2721, e2722, (idx_next hlt13 hk12)⟩
             ·
              refine wp_cond_f (b := !x351) rfl hc214 ?_
              refine wp_skip' ?_
              refine wp_region' ?_
              refine wl_op rfl (op_add (a := (i13 : Int)) (b := 1) rfl e2708 rfl ?_)
              refine wl_op rfl (op_move (v := (Value.int .i64 (w64 ((i13 : Int) + 1)))) rfl rfl ?_)
              refine wl_nil ?_
              obtain rfl := Option.some.inj h121
              exact ⟨_, (le761.trans le792), (((((((((((I1323.pull 10).pull 10).pull 10).pull 10).pull 10).pull 10).pull 10).pull 10).pull 10).pull 10).pull 10), e2693, e2694, e2695, e2696, e2697, e2698, e2699, e2700, e2701, e2702, e2704, e2705, e2706, e2707, (idx_next hlt13 hk12)⟩
           ·
            rintro f w hI630
            obtain ⟨S804, le804, I1337, e2724, e2725, e2726, e2727, e2728, e2729, e2730, e2731, e2732, e2733, e2734, e2735, e2736, e2737, e2738⟩ := hI630
            refine wp_seq' ?_
            refine wp_region' ?_
            refine wl_op rfl (op_lss (a := (a0.Doors.length : Int)) (b := (a0.Doors.length : Int)) rfl e2738 e2737 ?_)
            refine wl_nil ?_
            refine wp_seq' ?_
            refine wp_cond_f (b := decide ((a0.Doors.length : Int) < (a0.Doors.length : Int))) rfl (len_f _) ?_
            refine wp_exit' ?_
            exact ⟨_, le804, (((((((((((I1337.pull 10).pull 10).pull 10).pull 10).pull 10).pull 10).pull 10).pull 10).pull 10).pull 10).pull 10), e2724, e2725, e2726, e2727, e2728, e2729, e2730, e2731, e2732, e2733, e2734, e2735, e2736, e2737⟩
          ·
           rintro f w ⟨S805, le805, I1338, e2739, e2740, e2741, e2742, e2743, e2744, e2745, e2746, e2747, e2748, e2749, e2750, e2751, e2752⟩
           refine wp_region' ?_
           refine wl_op rfl (op_move (v := (Value.slice z153 m153 k153)) rfl e2741 ?_)
           refine wl_op rfl (op_loadN (l := [(Value.bool (out11.1)), (Value.slice z176 m176 k176), (Value.slice z177 m177 k177), (Value.slice z171 m171 k171), (Value.slice z172 m172 k172), (Value.slice z173 m173 k173)]) rfl sh87 (I1338.nth 4 rfl) e2747 rfl rfl ?_)
           obtain ⟨S806, le806, I1339, r470⟩ := Inv.rowFreeze (I1338.pull 5)
           obtain ⟨S807, le807, I1340, r471⟩ := Inv.rowFreeze (I1339.pull 5)
           obtain ⟨S808, le808, I1341, r472⟩ := Inv.rowFreeze (I1340.pull 5)
           obtain ⟨S809, le809, I1342, r473⟩ := Inv.rowFreeze (I1341.pull 5)
           obtain ⟨S810, le810, I1343, r474⟩ := Inv.rowFreeze (I1342.pull 5)
           refine wl_op rfl (op_buildSlice (vs := [(Value.agg #[(Value.bool (out11.1)), (Value.slice z176 m176 k176), (Value.slice z177 m177 k177), (Value.slice z171 m171 k171), (Value.slice z172 m172 k172), (Value.slice z173 m173 k173)])]) (r := ([(⟨out11.1, x320, x321, out13.1, out13.2, out11.2.2.2.1⟩ : Control_tick)] : List Control_tick)) rfl Try.underlying72 el87 (parts1 rfl) rfl (by decide) (by decide) ⟨(Control_tick.rv (s := (⟨out11.1, x320, x321, out13.1, out13.2, out11.2.2.2.1⟩ : Control_tick)) (r470.mono (((le807.trans le808).trans le809).trans le810)) (r471.mono ((le808.trans le809).trans le810)) (r472.mono (le809.trans le810)) (r473.mono le810) r474), trivial⟩ I1343 (fun u218 w1029 I1344 => ?_))
           obtain ⟨z199, m199, k199, e2753⟩ := row_form I1344
           subst e2753
           obtain ⟨x354, hx354, h94⟩ := bnd h94
           refine wl_op rfl (op_append (α := Control_tick) (v := (Value.slice z153 m153 k153)) (u := (Value.slice z199 m199 k199)) rfl rfl Try.underlying72 el87 (by decide) (by decide) rfl rfl (I1344.pull 1) (Inv.rowSrc (I1344.nth 0 rfl)) hx354 (fun u219 w1030 I1345 => ?_))
           obtain ⟨z200, m200, k200, e2754⟩ := row_form I1345
           subst e2754
           refine wl_op rfl (op_assign (v := (Value.slice z200 m200 k200)) rfl rfl ?_)
           refine wl_nil ?_
           refine wp_region' ?_
           refine wl_op rfl (op_add (a := (i10 : Int)) (b := 1) rfl e2750 rfl ?_)
           refine wl_op rfl (op_move (v := (Value.int .i64 (w64 ((i10 : Int) + 1)))) rfl rfl ?_)
           refine wl_nil ?_
           obtain rfl := Option.some.inj h94
           exact ⟨_, _, _, _, (((((((le612.trans le628).trans le805).trans le806).trans le807).trans le808).trans le809).trans le810), (((((((I1345.pull 1).drop.pull 4).drop.pull 4).drop.pull 3).pull 3).pull 3).pull 3), e2739, e2740, rfl, e2742, e2743, e2744, e2745, e2749, (idx_next hlt10 (cnt_le hx267))⟩
      ·
       rintro f w hI631
       obtain ⟨S811, z201, m201, k201, le811, I1346, e2755, e2756, e2757, e2758, e2759, e2760, e2761, e2762, e2763⟩ := hI631
       refine wp_seq' ?_
       refine wp_region' ?_
       refine wl_op rfl (op_lss (a := (x267 : Int)) (b := a1) rfl e2763 e2762 ?_)
       refine wl_nil ?_
       refine wp_seq' ?_
       refine wp_cond_f (b := decide ((x267 : Int) < a1)) rfl (cnt_f hx267) ?_
       refine wp_exit' ?_
       exact ⟨_, _, _, _, le811, ((((I1346.pull 3).pull 3).pull 3).pull 3), e2755, e2756, e2757, e2758, e2759, e2760, e2761, e2762⟩
     ·
      rintro f w ⟨S812, z154, m154, k154, le812, I1347, e2764, e2765, e2766, e2767, e2768, e2769, e2770, e2771⟩
      refine wp_seq' ?_
      refine wp_region' ?_
      refine wl_op rfl (op_move (v := (Value.slice z154 m154 k154)) rfl e2766 ?_)
      refine wl_op rfl (op_assign (v := (Value.slice z154 m154 k154)) rfl rfl ?_)
      refine wl_op rfl (op_assign (v := (Value.int .i64 (0))) rfl rfl ?_)
      refine wl_nil ?_
      refine wp_ret' ?_
      obtain rfl := Option.some.inj h
      exact ⟨(Value.tuple #[(Value.slice z154 m154 k154), (Value.int .i64 (0))]), (res2 rfl rfl rfl), _, [Row (α := Control_tick) 87 (Value.slice z154 m154 k154) (out10.1)], (((le1.trans le2).trans le15).trans le812), (((I1347.pull 1).drop.pull 1).drop.pull 1).drop, _, _, _, rfl, rfl⟩
end Go.Proofs.Ytfeomcdhhgeilaa.Pad
