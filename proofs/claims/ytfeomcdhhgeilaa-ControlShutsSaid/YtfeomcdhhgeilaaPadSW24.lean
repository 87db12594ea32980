/- A part of the proof: what the functions of the program compute, shown over the model. -/
import Derived.Test.YtfeomcdhhgeilaaPadSP
import Derived.Test.YtfeomcdhhgeilaaPadSW4
import Derived.Test.YtfeomcdhhgeilaaPadSW14
import Derived.Test.YtfeomcdhhgeilaaPadSW15
import Derived.KernelRfl
set_option linter.unusedVariables false
namespace Go.Proofs.Ytfeomcdhhgeilaa.Pad
open Go Go.Proofs
set_option maxHeartbeats 4000000 in
set_option maxRecDepth 100000 in
theorem F12_ok {w : World} {S : PH} {Fr : List HP} {a0 : Panel} {v0 : Value} {a1 : (List Signal)} {v1 : Value} {a2 : Law08_Where} {v2 : Value} {r : Bool} (hI : Inv w S Fr) (h0_ : RV S v0 a0) (h1_ : RV S v1 a1) (h2_ : RV S v2 a2) (h : F12 a0 a1 a2 = some r) :
    Calls Try.prog 12 [v0, v1, v2].toArray w (DoneV S Fr (Value.bool (r))) := by
  unfold F12 at h
  obtain ⟨c1, e1, r1⟩ := Panel.inv h0_
  subst e1
  obtain ⟨z1, m1, k1, e2⟩ := rv_form r1
  subst e2
  obtain ⟨z2, m2, k2, e3⟩ := rv_form h1_
  subst e3
  have e4 := Law08_Where.inv h2_
  subst e4
  refine calls_enter (n := 97) (vs := [(Value.agg #[(Value.int .i64 (a0.Sensors)), (Value.slice z1 m1 k1), (Value.int .i64 (a0.Stale)), (Value.int .i64 (a0.Limit))]), (Value.slice z2 m2 k2), (Value.agg #[(Value.int .i64 (a2.Ticks)), (Value.int .i64 (a2.Door))])]) Try.func12 rfl rfl rfl ?_
  refine wp_seq' ?_
  refine wp_region' ?_
  refine wl_op rfl (op_box (v := (Value.agg #[(Value.int .i64 (a0.Sensors)), (Value.slice z1 m1 k1), (Value.int .i64 (a0.Stale)), (Value.int .i64 (a0.Limit))])) rfl hI rfl (fun g1 w1 I1 => ?_))
  obtain ⟨S1, le1, I2, p1⟩ := Inv.boxFreeze (x := a0) I1 (Panel.rv (s := a0) r1)
  refine wl_op rfl (op_box (v := (Value.agg #[(Value.int .i64 (a2.Ticks)), (Value.int .i64 (a2.Door))])) rfl I2 rfl (fun g2 w2 I3 => ?_))
  obtain ⟨S2, le2, I4, p2⟩ := Inv.boxFreeze (x := a2) I3 (Law08_Where.rv (s := a2))
  refine wl_op rfl (op_assign (v := (Value.bool (false))) rfl rfl ?_)
  refine wl_nil ?_
  refine wp_seq' ?_
  refine wp_seq' ?_
  refine wp_region' ?_
  refine wl_op rfl (op_fieldAddr_t (v := (Value.pointer (some ⟨g2, 0, none⟩))) rfl fa27_0 rfl (p2.at_ I4) ?_)
  refine wl_op rfl (op_load_int (v := (fieldPtr (Value.pointer (some ⟨g2, 0, none⟩)) 0)) (e := a2.Ticks) rfl sh3 rfl ((p2.at_ I4).fld Law08_Where.fld0) ?_)
  obtain ⟨x1, hx1, h⟩ := bnd h
  refine wl_op rfl (op_call_v (vs := [(Value.int .i64 (a2.Ticks))]) (r := (Value.bool (x1))) rfl ca20 rfl (args1 rfl) I4 (fun Fr_ hF_ => F20_ok hF_  hx1) (fun w3 I5 => ?_))
  refine wl_nil ?_
  rcases ifs h with ⟨hc1, h⟩ | ⟨hc1, h⟩
  · refine wp_cond_t (b := x1) rfl hc1 ?_
    refine wp_seq' ?_
    refine wp_region' ?_
    obtain ⟨x2, hx2, h⟩ := bnd h
    refine wl_op rfl (op_call_v (vs := []) (r := (Value.bool (x2))) rfl ca16 rfl args0 I5 (fun Fr_ hF_ => F16_ok hF_  hx2) (fun w4 I6 => ?_))
    refine wl_op rfl (op_assign (v := (Value.bool (x2))) rfl rfl ?_)
    refine wl_nil ?_
    refine wp_ret' ?_
    obtain rfl := Option.some.inj h
    exact ⟨(Value.bool (x2)), (res1 rfl rfl), _, [], (le1.trans le2), I6, rfl, rfl⟩
  · refine wp_cond_f (b := x1) rfl hc1 ?_
    refine wp_skip' ?_
    refine wp_seq' ?_
    refine wp_region' ?_
    refine wl_op rfl (op_load (v := (Value.pointer (some ⟨g1, 0, none⟩))) (e := a0) rfl sh24 rfl ((p1.mono le2).at_ I5) (fun u1 hu1 => ?_))
    obtain ⟨c2, e5, r2⟩ := Panel.inv hu1
    subst e5
    obtain ⟨z3, m3, k3, e6⟩ := rv_form r2
    subst e6
    refine wl_op rfl (op_fieldAddr_t (v := (Value.pointer (some ⟨g2, 0, none⟩))) rfl fa27_0 rfl (p2.at_ I5) ?_)
    refine wl_op rfl (op_load_int (v := (fieldPtr (Value.pointer (some ⟨g2, 0, none⟩)) 0)) (e := a2.Ticks) rfl sh3 rfl ((p2.at_ I5).fld Law08_Where.fld0) ?_)
    refine wl_op rfl (op_move (v := (Value.slice z2 m2 k2)) rfl rfl ?_)
    refine wl_op rfl (op_fieldAddr_t (v := (Value.pointer (some ⟨g2, 0, none⟩))) rfl fa27_1 rfl (p2.at_ I5) ?_)
    refine wl_op rfl (op_load_int (v := (fieldPtr (Value.pointer (some ⟨g2, 0, none⟩)) 1)) (e := a2.Door) rfl sh3 rfl ((p2.at_ I5).fld Law08_Where.fld1) ?_)
    obtain ⟨x3, hx3, h⟩ := bnd h
    refine wl_op rfl (op_call_v (vs := [(Value.agg #[(Value.int .i64 (a0.Sensors)), (Value.slice z3 m3 k3), (Value.int .i64 (a0.Stale)), (Value.int .i64 (a0.Limit))]), (Value.int .i64 (a2.Ticks)), (Value.slice z2 m2 k2), (Value.int .i64 (a2.Door))]) (r := (Value.tuple #[(Value.int .i64 (x3.1)), (Value.int .i64 (x3.2.1)), (Value.int .i64 (x3.2.2))])) rfl ca36 rfl (args4 rfl rfl rfl rfl) I5 (fun Fr_ hF_ => F36_ok hF_ (Panel.rv (s := a0) r2) (h1_.mono (le1.trans le2)) hx3) (fun w5 I7 => ?_))
    refine wl_op rfl (op_move (v := (Value.tuple #[(Value.int .i64 (x3.1)), (Value.int .i64 (x3.2.1)), (Value.int .i64 (x3.2.2))])) rfl rfl ?_)
    refine wl_op rfl (op_extract (v := (Value.int .i64 (x3.1))) rfl rfl rfl ?_)
    refine wl_op rfl (op_extract (v := (Value.int .i64 (x3.2.1))) rfl rfl rfl ?_)
    refine wl_op rfl (op_extract (v := (Value.int .i64 (x3.2.2))) rfl rfl rfl ?_)
    refine wl_op rfl (op_assign (v := (Value.int .i64 (x3.1))) rfl rfl ?_)
    refine wl_op rfl (op_assign (v := (Value.int .i64 (x3.2.1))) rfl rfl ?_)
    refine wl_op rfl (op_assign (v := (Value.int .i64 (x3.2.2))) rfl rfl ?_)
    refine wl_nil ?_
    refine wp_seq' ?_
    refine wp_region' ?_
    refine wl_op rfl (op_load (v := (Value.pointer (some ⟨g1, 0, none⟩))) (e := a0) rfl sh24 rfl ((p1.mono le2).at_ I7) (fun u2 hu2 => ?_))
    obtain ⟨c3, e7, r3⟩ := Panel.inv hu2
    subst e7
    obtain ⟨z4, m4, k4, e8⟩ := rv_form r3
    subst e8
    refine wl_op rfl (op_fieldAddr_t (v := (Value.pointer (some ⟨g2, 0, none⟩))) rfl fa27_0 rfl (p2.at_ I7) ?_)
    refine wl_op rfl (op_load_int (v := (fieldPtr (Value.pointer (some ⟨g2, 0, none⟩)) 0)) (e := a2.Ticks) rfl sh3 rfl ((p2.at_ I7).fld Law08_Where.fld0) ?_)
    refine wl_op rfl (op_move (v := (Value.slice z2 m2 k2)) rfl rfl ?_)
    refine wl_op rfl (op_fieldAddr_t (v := (Value.pointer (some ⟨g2, 0, none⟩))) rfl fa27_1 rfl (p2.at_ I7) ?_)
    refine wl_op rfl (op_load_int (v := (fieldPtr (Value.pointer (some ⟨g2, 0, none⟩)) 1)) (e := a2.Door) rfl sh3 rfl ((p2.at_ I7).fld Law08_Where.fld1) ?_)
    obtain ⟨x4, hx4, h⟩ := bnd h
    refine wl_op rfl (op_call_v (vs := [(Value.agg #[(Value.int .i64 (a0.Sensors)), (Value.slice z4 m4 k4), (Value.int .i64 (a0.Stale)), (Value.int .i64 (a0.Limit))]), (Value.int .i64 (a2.Ticks)), (Value.slice z2 m2 k2), (Value.int .i64 (a2.Door))]) (r := (Value.tuple #[(Value.int .i64 (x4.1)), (Value.int .i64 (x4.2.1)), (Value.int .i64 (x4.2.2))])) rfl ca37 rfl (args4 rfl rfl rfl rfl) I7 (fun Fr_ hF_ => F37_ok hF_ (Panel.rv (s := a0) r3) (h1_.mono (le1.trans le2)) hx4) (fun w6 I8 => ?_))
    refine wl_op rfl (op_move (v := (Value.tuple #[(Value.int .i64 (x4.1)), (Value.int .i64 (x4.2.1)), (Value.int .i64 (x4.2.2))])) rfl rfl ?_)
    refine wl_op rfl (op_extract (v := (Value.int .i64 (x4.1))) rfl rfl rfl ?_)
    refine wl_op rfl (op_extract (v := (Value.int .i64 (x4.2.1))) rfl rfl rfl ?_)
    refine wl_op rfl (op_extract (v := (Value.int .i64 (x4.2.2))) rfl rfl rfl ?_)
    refine wl_op rfl (op_assign (v := (Value.int .i64 (x4.1))) rfl rfl ?_)
    refine wl_op rfl (op_assign (v := (Value.int .i64 (x4.2.1))) rfl rfl ?_)
    refine wl_op rfl (op_assign (v := (Value.int .i64 (x4.2.2))) rfl rfl ?_)
    refine wl_nil ?_
    obtain ⟨ov1, h2, h⟩ := bnd h
    refine wp_cut (fun f w => ∃ v1, ov1 = Sum.inl v1 ∧ Inv w S2 (Fr) ∧ f 3 = (Value.pointer (some ⟨g1, 0, none⟩)) ∧ f 5 = (Value.pointer (some ⟨g2, 0, none⟩))) ?_ ?_
    · refine wp_seq' ?_
      refine wp_region' ?_
      refine wl_op rfl (op_move (v := (Value.int .i64 (x3.1))) rfl rfl ?_)
      refine wl_op rfl (op_move (v := (Value.int .i64 (x4.1))) rfl rfl ?_)
      refine wl_op rfl (op_neq (a := x3.1) (b := x4.1) rfl rfl rfl ?_)
      refine wl_op rfl (op_move (v := (Value.bool (x3.1 != x4.1))) rfl rfl ?_)
      rcases ifs h2 with ⟨hc5, h2⟩ | ⟨hc5, h2⟩
      · refine wl_skip (c := x3.1 != x4.1) rfl rfl rfl rfl hc5 rfl ?_
        refine wl_skip (c := x3.1 != x4.1) rfl rfl rfl rfl hc5 rfl ?_
        refine wl_skip (c := x3.1 != x4.1) rfl rfl rfl rfl hc5 rfl ?_
        refine wl_op rfl (op_pick_t (c := x3.1 != x4.1) (a := (Value.bool (true))) rfl rfl hc5 rfl ?_)
        refine wl_op rfl (op_move (v := (Value.bool (true))) rfl rfl ?_)
        refine wl_skip (c := true) rfl rfl rfl rfl rfl rfl ?_
        refine wl_skip (c := true) rfl rfl rfl rfl rfl rfl ?_
        refine wl_skip (c := true) rfl rfl rfl rfl rfl rfl ?_
        refine wl_op rfl (op_pick_t (c := true) (a := (Value.bool (true))) rfl rfl rfl rfl ?_)
        refine wl_nil ?_
        refine wp_cond_t (b := true) rfl rfl ?_
        refine wp_seq' ?_
        refine wp_region' ?_
        refine wl_op rfl (op_assign (v := (Value.bool (false))) rfl rfl ?_)
        refine wl_nil ?_
        refine wp_ret' ?_
        obtain rfl := Option.some.inj h2
        have h3 := h
        obtain rfl := Option.some.inj h3
        exact ⟨(Value.bool (false)), (res1 rfl rfl), _, [], (le1.trans le2), I8, rfl, rfl⟩
      · refine wl_taken (c := x3.1 != x4.1) rfl rfl rfl rfl hc5 (op_move (v := (Value.int .i64 (x3.2.1))) rfl rfl ?_)
        refine wl_taken (c := x3.1 != x4.1) rfl rfl rfl rfl hc5 (op_move (v := (Value.int .i64 (x4.2.1))) rfl rfl ?_)
        refine wl_taken (c := x3.1 != x4.1) rfl rfl rfl rfl hc5 (op_neq (a := x3.2.1) (b := x4.2.1) rfl rfl rfl ?_)
        refine wl_op rfl (op_pick_f (c := x3.1 != x4.1) (b := (Value.bool (x3.2.1 != x4.2.1))) rfl rfl hc5 rfl ?_)
        refine wl_op rfl (op_move (v := (Value.bool (x3.2.1 != x4.2.1))) rfl rfl ?_)
        rcases ifs h2 with ⟨hc6, h2⟩ | ⟨hc6, h2⟩
        · refine wl_skip (c := x3.2.1 != x4.2.1) rfl rfl rfl rfl hc6 rfl ?_
          refine wl_skip (c := x3.2.1 != x4.2.1) rfl rfl rfl rfl hc6 rfl ?_
          refine wl_skip (c := x3.2.1 != x4.2.1) rfl rfl rfl rfl hc6 rfl ?_
          refine wl_op rfl (op_pick_t (c := x3.2.1 != x4.2.1) (a := (Value.bool (true))) rfl rfl hc6 rfl ?_)
          refine wl_nil ?_
          refine wp_cond_t (b := true) rfl rfl ?_
          refine wp_seq' ?_
          refine wp_region' ?_
          refine wl_op rfl (op_assign (v := (Value.bool (false))) rfl rfl ?_)
          refine wl_nil ?_
          refine wp_ret' ?_
          obtain rfl := Option.some.inj h2
          have h3 := h
          obtain rfl := Option.some.inj h3
          exact ⟨(Value.bool (false)), (res1 rfl rfl), _, [], (le1.trans le2), I8, rfl, rfl⟩
        · refine wl_taken (c := x3.2.1 != x4.2.1) rfl rfl rfl rfl hc6 (op_move (v := (Value.int .i64 (x3.2.2))) rfl rfl ?_)
          refine wl_taken (c := x3.2.1 != x4.2.1) rfl rfl rfl rfl hc6 (op_move (v := (Value.int .i64 (x4.2.2))) rfl rfl ?_)
          refine wl_taken (c := x3.2.1 != x4.2.1) rfl rfl rfl rfl hc6 (op_neq (a := x3.2.2) (b := x4.2.2) rfl rfl rfl ?_)
          refine wl_op rfl (op_pick_f (c := x3.2.1 != x4.2.1) (b := (Value.bool (x3.2.2 != x4.2.2))) rfl rfl hc6 rfl ?_)
          refine wl_nil ?_
          rcases ifs h2 with ⟨hc7, h2⟩ | ⟨hc7, h2⟩
          · refine wp_cond_t (b := x3.2.2 != x4.2.2) rfl hc7 ?_
            refine wp_seq' ?_
            refine wp_region' ?_
            refine wl_op rfl (op_assign (v := (Value.bool (false))) rfl rfl ?_)
            refine wl_nil ?_
            refine wp_ret' ?_
            obtain rfl := Option.some.inj h2
            have h3 := h
            obtain rfl := Option.some.inj h3
            exact ⟨(Value.bool (false)), (res1 rfl rfl), _, [], (le1.trans le2), I8, rfl, rfl⟩
          · refine wp_cond_f (b := x3.2.2 != x4.2.2) rfl hc7 ?_
            refine wp_skip' ?_
            obtain rfl := Option.some.inj h2
            exact ⟨_, rfl, I8, rfl, rfl⟩
    · rintro f w ⟨v1, rfl, I9, e9, e10⟩
      have h := onL_inl h
      refine wp_seq' ?_
      refine wp_region' ?_
      refine wl_op rfl (op_load (v := (Value.pointer (some ⟨g1, 0, none⟩))) (e := a0) rfl sh24 e9 ((p1.mono le2).at_ I9) (fun u3 hu3 => ?_))
      obtain ⟨c4, e11, r4⟩ := Panel.inv hu3
      subst e11
      obtain ⟨z5, m5, k5, e12⟩ := rv_form r4
      subst e12
      obtain ⟨x5, hx5, h⟩ := bnd h
      refine wl_op rfl (op_call_v (vs := [(Value.agg #[(Value.int .i64 (a0.Sensors)), (Value.slice z5 m5 k5), (Value.int .i64 (a0.Stale)), (Value.int .i64 (a0.Limit))])]) (r := (Value.tuple #[(Value.int .i64 (x5.1)), (Value.int .i64 (x5.2))])) rfl ca21 rfl (args1 rfl) I9 (fun Fr_ hF_ => F21_ok hF_ (Panel.rv (s := a0) r4) hx5) (fun w7 I10 => ?_))
      refine wl_op rfl (op_move (v := (Value.tuple #[(Value.int .i64 (x5.1)), (Value.int .i64 (x5.2))])) rfl rfl ?_)
      refine wl_op rfl (op_extract (v := (Value.int .i64 (x5.1))) rfl rfl rfl ?_)
      refine wl_op rfl (op_extract (v := (Value.int .i64 (x5.2))) rfl rfl rfl ?_)
      refine wl_op rfl (op_assign (v := (Value.int .i64 (x5.1))) rfl rfl ?_)
      refine wl_op rfl (op_assign (v := (Value.int .i64 (x5.2))) rfl rfl ?_)
      refine wl_nil ?_
      refine wp_seq' ?_
      refine wp_region' ?_
      refine wl_op rfl (op_load (v := (Value.pointer (some ⟨g1, 0, none⟩))) (e := a0) rfl sh24 e9 ((p1.mono le2).at_ I10) (fun u4 hu4 => ?_))
      obtain ⟨c5, e13, r5⟩ := Panel.inv hu4
      subst e13
      obtain ⟨z6, m6, k6, e14⟩ := rv_form r5
      subst e14
      obtain ⟨x6, hx6, h⟩ := bnd h
      refine wl_op rfl (op_call_v (vs := [(Value.agg #[(Value.int .i64 (a0.Sensors)), (Value.slice z6 m6 k6), (Value.int .i64 (a0.Stale)), (Value.int .i64 (a0.Limit))])]) (r := (Value.tuple #[(Value.int .i64 (x6.1)), (Value.int .i64 (x6.2))])) rfl ca38 rfl (args1 rfl) I10 (fun Fr_ hF_ => F38_ok hF_ (Panel.rv (s := a0) r5) hx6) (fun w8 I11 => ?_))
      refine wl_op rfl (op_move (v := (Value.tuple #[(Value.int .i64 (x6.1)), (Value.int .i64 (x6.2))])) rfl rfl ?_)
      refine wl_op rfl (op_extract (v := (Value.int .i64 (x6.1))) rfl rfl rfl ?_)
      refine wl_op rfl (op_extract (v := (Value.int .i64 (x6.2))) rfl rfl rfl ?_)
      refine wl_op rfl (op_assign (v := (Value.int .i64 (x6.1))) rfl rfl ?_)
      refine wl_op rfl (op_assign (v := (Value.int .i64 (x6.2))) rfl rfl ?_)
      refine wl_nil ?_
      obtain ⟨ov2, h5, h⟩ := bnd h
      refine wp_cut (fun f w => ∃ v2, ov2 = Sum.inl v2 ∧ Inv w S2 (Fr) ∧ f 3 = (Value.pointer (some ⟨g1, 0, none⟩)) ∧ f 5 = (Value.pointer (some ⟨g2, 0, none⟩))) ?_ ?_
      · refine wp_seq' ?_
        refine wp_region' ?_
        refine wl_op rfl (op_move (v := (Value.int .i64 (x5.1))) rfl rfl ?_)
        refine wl_op rfl (op_move (v := (Value.int .i64 (x6.1))) rfl rfl ?_)
        refine wl_op rfl (op_neq (a := x5.1) (b := x6.1) rfl rfl rfl ?_)
        refine wl_op rfl (op_move (v := (Value.bool (x5.1 != x6.1))) rfl rfl ?_)
        rcases ifs h5 with ⟨hc10, h5⟩ | ⟨hc10, h5⟩
        · refine wl_skip (c := x5.1 != x6.1) rfl rfl rfl rfl hc10 rfl ?_
          refine wl_skip (c := x5.1 != x6.1) rfl rfl rfl rfl hc10 rfl ?_
          refine wl_skip (c := x5.1 != x6.1) rfl rfl rfl rfl hc10 rfl ?_
          refine wl_op rfl (op_pick_t (c := x5.1 != x6.1) (a := (Value.bool (true))) rfl rfl hc10 rfl ?_)
          refine wl_nil ?_
          refine wp_cond_t (b := true) rfl rfl ?_
          refine wp_seq' ?_
          refine wp_region' ?_
          refine wl_op rfl (op_assign (v := (Value.bool (false))) rfl rfl ?_)
          refine wl_nil ?_
          refine wp_ret' ?_
          obtain rfl := Option.some.inj h5
          have h6 := h
          obtain rfl := Option.some.inj h6
          exact ⟨(Value.bool (false)), (res1 rfl rfl), _, [], (le1.trans le2), I11, rfl, rfl⟩
        · refine wl_taken (c := x5.1 != x6.1) rfl rfl rfl rfl hc10 (op_move (v := (Value.int .i64 (x5.2))) rfl rfl ?_)
          refine wl_taken (c := x5.1 != x6.1) rfl rfl rfl rfl hc10 (op_move (v := (Value.int .i64 (x6.2))) rfl rfl ?_)
          refine wl_taken (c := x5.1 != x6.1) rfl rfl rfl rfl hc10 (op_neq (a := x5.2) (b := x6.2) rfl rfl rfl ?_)
          refine wl_op rfl (op_pick_f (c := x5.1 != x6.1) (b := (Value.bool (x5.2 != x6.2))) rfl rfl hc10 rfl ?_)
          refine wl_nil ?_
          rcases ifs h5 with ⟨hc11, h5⟩ | ⟨hc11, h5⟩
          · refine wp_cond_t (b := x5.2 != x6.2) rfl hc11 ?_
            refine wp_seq' ?_
            refine wp_region' ?_
            refine wl_op rfl (op_assign (v := (Value.bool (false))) rfl rfl ?_)
            refine wl_nil ?_
            refine wp_ret' ?_
            obtain rfl := Option.some.inj h5
            have h6 := h
            obtain rfl := Option.some.inj h6
            exact ⟨(Value.bool (false)), (res1 rfl rfl), _, [], (le1.trans le2), I11, rfl, rfl⟩
          · refine wp_cond_f (b := x5.2 != x6.2) rfl hc11 ?_
            refine wp_skip' ?_
            obtain rfl := Option.some.inj h5
            exact ⟨_, rfl, I11, e9, e10⟩
      · rintro f w ⟨v2, rfl, I12, e15, e16⟩
        have h := onL_inl h
        refine wp_seq' ?_
        refine wp_region' ?_
        refine wl_op rfl (op_load (v := (Value.pointer (some ⟨g1, 0, none⟩))) (e := a0) rfl sh24 e15 ((p1.mono le2).at_ I12) (fun u5 hu5 => ?_))
        obtain ⟨c6, e17, r6⟩ := Panel.inv hu5
        subst e17
        obtain ⟨z7, m7, k7, e18⟩ := rv_form r6
        subst e18
        refine wl_op rfl (op_fieldAddr_t (v := (Value.pointer (some ⟨g2, 0, none⟩))) rfl fa27_1 e16 (p2.at_ I12) ?_)
        refine wl_op rfl (op_load_int (v := (fieldPtr (Value.pointer (some ⟨g2, 0, none⟩)) 1)) (e := a2.Door) rfl sh3 rfl ((p2.at_ I12).fld Law08_Where.fld1) ?_)
        obtain ⟨x7, hx7, h⟩ := bnd h
        refine wl_op rfl (op_call_v (vs := [(Value.agg #[(Value.int .i64 (a0.Sensors)), (Value.slice z7 m7 k7), (Value.int .i64 (a0.Stale)), (Value.int .i64 (a0.Limit))]), (Value.int .i64 (a2.Door))]) (r := (Value.tuple #[(Value.int .i64 (x7.1)), (Value.int .i64 (x7.2))])) rfl ca39 rfl (args2 rfl rfl) I12 (fun Fr_ hF_ => F39_ok hF_ (Panel.rv (s := a0) r6) hx7) (fun w9 I13 => ?_))
        refine wl_op rfl (op_move (v := (Value.tuple #[(Value.int .i64 (x7.1)), (Value.int .i64 (x7.2))])) rfl rfl ?_)
        refine wl_op rfl (op_extract (v := (Value.int .i64 (x7.1))) rfl rfl rfl ?_)
        refine wl_op rfl (op_extract (v := (Value.int .i64 (x7.2))) rfl rfl rfl ?_)
        refine wl_op rfl (op_assign (v := (Value.int .i64 (x7.1))) rfl rfl ?_)
        refine wl_op rfl (op_assign (v := (Value.int .i64 (x7.2))) rfl rfl ?_)
        refine wl_nil ?_
        refine wp_seq' ?_
        refine wp_region' ?_
        refine wl_op rfl (op_load (v := (Value.pointer (some ⟨g1, 0, none⟩))) (e := a0) rfl sh24 e15 ((p1.mono le2).at_ I13) (fun u6 hu6 => ?_))
        obtain ⟨c7, e19, r7⟩ := Panel.inv hu6
        subst e19
        obtain ⟨z8, m8, k8, e20⟩ := rv_form r7
        subst e20
        refine wl_op rfl (op_fieldAddr_t (v := (Value.pointer (some ⟨g2, 0, none⟩))) rfl fa27_1 e16 (p2.at_ I13) ?_)
        refine wl_op rfl (op_load_int (v := (fieldPtr (Value.pointer (some ⟨g2, 0, none⟩)) 1)) (e := a2.Door) rfl sh3 rfl ((p2.at_ I13).fld Law08_Where.fld1) ?_)
        obtain ⟨x8, hx8, h⟩ := bnd h
        refine wl_op rfl (op_call_v (vs := [(Value.agg #[(Value.int .i64 (a0.Sensors)), (Value.slice z8 m8 k8), (Value.int .i64 (a0.Stale)), (Value.int .i64 (a0.Limit))]), (Value.int .i64 (a2.Door))]) (r := (Value.tuple #[(Value.int .i64 (x8.1)), (Value.int .i64 (x8.2))])) rfl ca40 rfl (args2 rfl rfl) I13 (fun Fr_ hF_ => F40_ok hF_ (Panel.rv (s := a0) r7) hx8) (fun w10 I14 => ?_))
        refine wl_op rfl (op_move (v := (Value.tuple #[(Value.int .i64 (x8.1)), (Value.int .i64 (x8.2))])) rfl rfl ?_)
        refine wl_op rfl (op_extract (v := (Value.int .i64 (x8.1))) rfl rfl rfl ?_)
        refine wl_op rfl (op_extract (v := (Value.int .i64 (x8.2))) rfl rfl rfl ?_)
        refine wl_op rfl (op_assign (v := (Value.int .i64 (x8.1))) rfl rfl ?_)
        refine wl_op rfl (op_assign (v := (Value.int .i64 (x8.2))) rfl rfl ?_)
        refine wl_nil ?_
        refine wp_seq' ?_
        refine wp_region' ?_
        refine wl_op rfl (op_move (v := (Value.int .i64 (x7.1))) rfl rfl ?_)
        refine wl_op rfl (op_move (v := (Value.int .i64 (x8.1))) rfl rfl ?_)
        refine wl_op rfl (op_eql (a := x7.1) (b := x8.1) rfl rfl rfl ?_)
        refine wl_op rfl (op_move (v := (Value.bool (x7.1 == x8.1))) rfl rfl ?_)
        rcases ifs h with ⟨hc12, h⟩ | ⟨hc12, h⟩
        · refine wl_taken (c := x7.1 == x8.1) rfl rfl rfl rfl hc12 (op_move (v := (Value.int .i64 (x7.2))) rfl rfl ?_)
          refine wl_taken (c := x7.1 == x8.1) rfl rfl rfl rfl hc12 (op_move (v := (Value.int .i64 (x8.2))) rfl rfl ?_)
          refine wl_taken (c := x7.1 == x8.1) rfl rfl rfl rfl hc12 (op_eql (a := x7.2) (b := x8.2) rfl rfl rfl ?_)
          refine wl_op rfl (op_pick_t (c := x7.1 == x8.1) (a := (Value.bool (x7.2 == x8.2))) rfl rfl hc12 rfl ?_)
          refine wl_op rfl (op_move (v := (Value.bool (x7.2 == x8.2))) rfl rfl ?_)
          rcases ifs h with ⟨hc13, h⟩ | ⟨hc13, h⟩
          · obtain ⟨x9, hx9, h⟩ := bnd h
            refine wl_taken (c := x7.2 == x8.2) rfl rfl rfl rfl hc13 (op_call_v (vs := []) (r := (Value.bool (x9))) rfl ca16 rfl args0 I14 (fun Fr_ hF_ => F16_ok hF_  hx9) (fun w11 I15 => ?_))
            refine wl_op rfl (op_pick_t (c := x7.2 == x8.2) (a := (Value.bool (x9))) rfl rfl hc13 rfl ?_)
            refine wl_op rfl (op_assign (v := (Value.bool (x9))) rfl rfl ?_)
            refine wl_nil ?_
            refine wp_ret' ?_
            obtain rfl := Option.some.inj h
            exact ⟨(Value.bool (x9)), (res1 rfl rfl), _, [], (le1.trans le2), I15, rfl, rfl⟩
          · refine wl_skip (c := x7.2 == x8.2) rfl rfl rfl rfl hc13 rfl ?_
            refine wl_op rfl (op_pick_f (c := x7.2 == x8.2) (b := (Value.bool (false))) rfl rfl hc13 rfl ?_)
            refine wl_op rfl (op_assign (v := (Value.bool (false))) rfl rfl ?_)
            refine wl_nil ?_
            refine wp_ret' ?_
            obtain rfl := Option.some.inj h
            exact ⟨(Value.bool (false)), (res1 rfl rfl), _, [], (le1.trans le2), I14, rfl, rfl⟩
        · refine wl_skip (c := x7.1 == x8.1) rfl rfl rfl rfl hc12 rfl ?_
          refine wl_skip (c := x7.1 == x8.1) rfl rfl rfl rfl hc12 rfl ?_
          refine wl_skip (c := x7.1 == x8.1) rfl rfl rfl rfl hc12 rfl ?_
          refine wl_op rfl (op_pick_f (c := x7.1 == x8.1) (b := (Value.bool (false))) rfl rfl hc12 rfl ?_)
          refine wl_op rfl (op_move (v := (Value.bool (false))) rfl rfl ?_)
          refine wl_skip (c := false) rfl rfl rfl rfl rfl rfl ?_
          refine wl_op rfl (op_pick_f (c := false) (b := (Value.bool (false))) rfl rfl rfl rfl ?_)
          refine wl_op rfl (op_assign (v := (Value.bool (false))) rfl rfl ?_)
          refine wl_nil ?_
          refine wp_ret' ?_
          obtain rfl := Option.some.inj h
          exact ⟨(Value.bool (false)), (res1 rfl rfl), _, [], (le1.trans le2), I14, rfl, rfl⟩
end Go.Proofs.Ytfeomcdhhgeilaa.Pad
