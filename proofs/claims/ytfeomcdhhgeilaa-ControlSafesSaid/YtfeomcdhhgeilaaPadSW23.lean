/- A part of the proof: what the functions of the program compute, shown over the model. -/
import Derived.Test.YtfeomcdhhgeilaaPadSP
import Derived.Test.YtfeomcdhhgeilaaPadSW4
import Derived.Test.YtfeomcdhhgeilaaPadSW7
import Derived.Test.YtfeomcdhhgeilaaPadSW16
import Derived.KernelRfl
set_option linter.unusedVariables false
namespace Go.Proofs.Ytfeomcdhhgeilaa.Pad
open Go Go.Proofs
set_option maxHeartbeats 4000000 in
set_option maxRecDepth 100000 in
theorem F10_ok {w : World} {S : PH} {Fr : List HP} {a0 : Panel} {v0 : Value} {a1 : (List Signal)} {v1 : Value} {a2 : Law08_Film} {v2 : Value} {r : Bool} (hI : Inv w S Fr) (h0_ : RV S v0 a0) (h1_ : RV S v1 a1) (h2_ : RV S v2 a2) (h : F10 a0 a1 a2 = some r) :
    Calls Try.prog 10 [v0, v1, v2].toArray w (DoneV S Fr (Value.bool (r))) := by
  unfold F10 at h
  obtain ⟨c1, e1, r1⟩ := Panel.inv h0_
  subst e1
  obtain ⟨z1, m1, k1, e2⟩ := rv_form r1
  subst e2
  obtain ⟨z2, m2, k2, e3⟩ := rv_form h1_
  subst e3
  obtain ⟨c2, e4, r2⟩ := Law08_Film.inv h2_
  subst e4
  obtain ⟨z3, m3, k3, e5⟩ := rv_form r2
  subst e5
  refine calls_enter (n := 55) (vs := [(Value.agg #[(Value.int .i64 (a0.Sensors)), (Value.slice z1 m1 k1), (Value.int .i64 (a0.Stale)), (Value.int .i64 (a0.Limit))]), (Value.slice z2 m2 k2), (Value.agg #[(Value.int .i64 (a2.Ticks)), (Value.slice z3 m3 k3)])]) Try.func10 rfl rfl rfl ?_
  refine wp_seq' ?_
  refine wp_region' ?_
  refine wl_op rfl (op_box (v := (Value.agg #[(Value.int .i64 (a0.Sensors)), (Value.slice z1 m1 k1), (Value.int .i64 (a0.Stale)), (Value.int .i64 (a0.Limit))])) rfl hI rfl (fun g1 w1 I1 => ?_))
  obtain ⟨S1, le1, I2, p1⟩ := Inv.boxFreeze (x := a0) I1 (Panel.rv (s := a0) r1)
  refine wl_op rfl (op_box (v := (Value.agg #[(Value.int .i64 (a2.Ticks)), (Value.slice z3 m3 k3)])) rfl I2 rfl (fun g2 w2 I3 => ?_))
  obtain ⟨S2, le2, I4, p2⟩ := Inv.boxFreeze (x := a2) I3 (Law08_Film.rv (s := a2) (r2.mono le1))
  refine wl_op rfl (op_assign (v := (Value.bool (false))) rfl rfl ?_)
  refine wl_nil ?_
  refine wp_seq' ?_
  refine wp_seq' ?_
  refine wp_region' ?_
  refine wl_op rfl (op_fieldAddr_t (v := (Value.pointer (some ⟨g2, 0, none⟩))) rfl fa59_0 rfl (p2.at_ I4) ?_)
  refine wl_op rfl (op_load_int (v := (fieldPtr (Value.pointer (some ⟨g2, 0, none⟩)) 0)) (e := a2.Ticks) rfl sh3 rfl ((p2.at_ I4).fld Law08_Film.fld0) ?_)
  obtain ⟨x1, hx1, h⟩ := bnd h
  refine wl_op rfl (op_call_v (vs := [(Value.int .i64 (a2.Ticks))]) (r := (Value.bool (x1))) rfl ca20 rfl (args1 rfl) I4 (fun Fr_ hF_ => F20_ok hF_  hx1) (fun w3 I5 => ?_))
  refine wl_nil ?_
  rcases ifs h with ⟨hc1, h⟩ | ⟨hc1, h⟩
  · refine wp_cond_t (b := x1) rfl hc1 ?_
    refine wp_seq' ?_
    refine wp_region' ?_
    obtain ⟨x2, hx2, h⟩ := bnd h
    refine wl_op rfl (op_call_v (vs := []) (r := (Value.bool (x2))) rfl ca16 rfl args0 I5 (fun Fr_ hF_ => F16_ok hF_  hx2) (fun w4 I6 => ?_))
    refine wl_op rfl (op_assign (v := (Value.bool (x2))) rfl rfl ?_)
    refine wl_nil ?_
    refine wp_ret' ?_
    obtain rfl := Option.some.inj h
    exact ⟨(Value.bool (x2)), (res1 rfl rfl), _, [], (le1.trans le2), I6, rfl, rfl⟩
  · refine wp_cond_f (b := x1) rfl hc1 ?_
    refine wp_skip' ?_
    refine wp_seq' ?_
    refine wp_region' ?_
    refine wl_op rfl (op_load (v := (Value.pointer (some ⟨g1, 0, none⟩))) (e := a0) rfl sh24 rfl ((p1.mono le2).at_ I5) (fun u1 hu1 => ?_))
    obtain ⟨c3, e6, r3⟩ := Panel.inv hu1
    subst e6
    obtain ⟨z4, m4, k4, e7⟩ := rv_form r3
    subst e7
    refine wl_op rfl (op_fieldAddr_t (v := (Value.pointer (some ⟨g2, 0, none⟩))) rfl fa59_0 rfl (p2.at_ I5) ?_)
    refine wl_op rfl (op_load_int (v := (fieldPtr (Value.pointer (some ⟨g2, 0, none⟩)) 0)) (e := a2.Ticks) rfl sh3 rfl ((p2.at_ I5).fld Law08_Film.fld0) ?_)
    refine wl_op rfl (op_move (v := (Value.slice z2 m2 k2)) rfl rfl ?_)
    refine wl_op rfl (op_fieldAddr_t (v := (Value.pointer (some ⟨g2, 0, none⟩))) rfl fa59_1 rfl (p2.at_ I5) ?_)
    refine wl_op rfl (op_load (v := (fieldPtr (Value.pointer (some ⟨g2, 0, none⟩)) 1)) (e := a2.Rows) rfl sh34 rfl ((p2.at_ I5).fld Law08_Film.fld1) (fun u2 hu2 => ?_))
    obtain ⟨z5, m5, k5, e8⟩ := rv_form hu2
    subst e8
    obtain ⟨x3, hx3, h⟩ := bnd h
    refine wl_op rfl (op_call_v (vs := [(Value.agg #[(Value.int .i64 (a0.Sensors)), (Value.slice z4 m4 k4), (Value.int .i64 (a0.Stale)), (Value.int .i64 (a0.Limit))]), (Value.int .i64 (a2.Ticks)), (Value.slice z2 m2 k2), (Value.slice z5 m5 k5)]) (r := (Value.tuple #[(Value.int .i64 (x3.1)), (Value.int .i64 (x3.2.1)), (Value.int .i64 (x3.2.2))])) rfl ca34 rfl (args4 rfl rfl rfl rfl) I5 (fun Fr_ hF_ => F34_ok hF_ (Panel.rv (s := a0) r3) (h1_.mono (le1.trans le2)) hu2 hx3) (fun w5 I7 => ?_))
    refine wl_op rfl (op_move (v := (Value.tuple #[(Value.int .i64 (x3.1)), (Value.int .i64 (x3.2.1)), (Value.int .i64 (x3.2.2))])) rfl rfl ?_)
    refine wl_op rfl (op_extract (v := (Value.int .i64 (x3.1))) rfl rfl rfl ?_)
    refine wl_op rfl (op_extract (v := (Value.int .i64 (x3.2.1))) rfl rfl rfl ?_)
    refine wl_op rfl (op_extract (v := (Value.int .i64 (x3.2.2))) rfl rfl rfl ?_)
    refine wl_op rfl (op_assign (v := (Value.int .i64 (x3.1))) rfl rfl ?_)
    refine wl_op rfl (op_assign (v := (Value.int .i64 (x3.2.1))) rfl rfl ?_)
    refine wl_op rfl (op_assign (v := (Value.int .i64 (x3.2.2))) rfl rfl ?_)
    refine wl_nil ?_
    refine wp_seq' ?_
    refine wp_region' ?_
    refine wl_op rfl (op_load (v := (Value.pointer (some ⟨g1, 0, none⟩))) (e := a0) rfl sh24 rfl ((p1.mono le2).at_ I7) (fun u3 hu3 => ?_))
    obtain ⟨c4, e9, r4⟩ := Panel.inv hu3
    subst e9
    obtain ⟨z6, m6, k6, e10⟩ := rv_form r4
    subst e10
    refine wl_op rfl (op_fieldAddr_t (v := (Value.pointer (some ⟨g2, 0, none⟩))) rfl fa59_0 rfl (p2.at_ I7) ?_)
    refine wl_op rfl (op_load_int (v := (fieldPtr (Value.pointer (some ⟨g2, 0, none⟩)) 0)) (e := a2.Ticks) rfl sh3 rfl ((p2.at_ I7).fld Law08_Film.fld0) ?_)
    refine wl_op rfl (op_move (v := (Value.slice z2 m2 k2)) rfl rfl ?_)
    refine wl_op rfl (op_fieldAddr_t (v := (Value.pointer (some ⟨g2, 0, none⟩))) rfl fa59_1 rfl (p2.at_ I7) ?_)
    refine wl_op rfl (op_load (v := (fieldPtr (Value.pointer (some ⟨g2, 0, none⟩)) 1)) (e := a2.Rows) rfl sh34 rfl ((p2.at_ I7).fld Law08_Film.fld1) (fun u4 hu4 => ?_))
    obtain ⟨z7, m7, k7, e11⟩ := rv_form hu4
    subst e11
    obtain ⟨x4, hx4, h⟩ := bnd h
    refine wl_op rfl (op_call_v (vs := [(Value.agg #[(Value.int .i64 (a0.Sensors)), (Value.slice z6 m6 k6), (Value.int .i64 (a0.Stale)), (Value.int .i64 (a0.Limit))]), (Value.int .i64 (a2.Ticks)), (Value.slice z2 m2 k2), (Value.slice z7 m7 k7)]) (r := (Value.tuple #[(Value.int .i64 (x4.1)), (Value.int .i64 (x4.2.1)), (Value.int .i64 (x4.2.2))])) rfl ca35 rfl (args4 rfl rfl rfl rfl) I7 (fun Fr_ hF_ => F35_ok hF_ (Panel.rv (s := a0) r4) (h1_.mono (le1.trans le2)) hu4 hx4) (fun w6 I8 => ?_))
    refine wl_op rfl (op_move (v := (Value.tuple #[(Value.int .i64 (x4.1)), (Value.int .i64 (x4.2.1)), (Value.int .i64 (x4.2.2))])) rfl rfl ?_)
    refine wl_op rfl (op_extract (v := (Value.int .i64 (x4.1))) rfl rfl rfl ?_)
    refine wl_op rfl (op_extract (v := (Value.int .i64 (x4.2.1))) rfl rfl rfl ?_)
    refine wl_op rfl (op_extract (v := (Value.int .i64 (x4.2.2))) rfl rfl rfl ?_)
    refine wl_op rfl (op_assign (v := (Value.int .i64 (x4.1))) rfl rfl ?_)
    refine wl_op rfl (op_assign (v := (Value.int .i64 (x4.2.1))) rfl rfl ?_)
    refine wl_op rfl (op_assign (v := (Value.int .i64 (x4.2.2))) rfl rfl ?_)
    refine wl_nil ?_
    refine wp_seq' ?_
    refine wp_region' ?_
    refine wl_op rfl (op_move (v := (Value.int .i64 (x3.1))) rfl rfl ?_)
    refine wl_op rfl (op_move (v := (Value.int .i64 (x4.1))) rfl rfl ?_)
    refine wl_op rfl (op_eql (a := x3.1) (b := x4.1) rfl rfl rfl ?_)
    refine wl_op rfl (op_move (v := (Value.bool (x3.1 == x4.1))) rfl rfl ?_)
    rcases ifs h with ⟨hc2, h⟩ | ⟨hc2, h⟩
    · refine wl_taken (c := x3.1 == x4.1) rfl rfl rfl rfl hc2 (op_move (v := (Value.int .i64 (x3.2.1))) rfl rfl ?_)
      refine wl_taken (c := x3.1 == x4.1) rfl rfl rfl rfl hc2 (op_move (v := (Value.int .i64 (x4.2.1))) rfl rfl ?_)
      refine wl_taken (c := x3.1 == x4.1) rfl rfl rfl rfl hc2 (op_eql (a := x3.2.1) (b := x4.2.1) rfl rfl rfl ?_)
      refine wl_op rfl (op_pick_t (c := x3.1 == x4.1) (a := (Value.bool (x3.2.1 == x4.2.1))) rfl rfl hc2 rfl ?_)
      refine wl_op rfl (op_move (v := (Value.bool (x3.2.1 == x4.2.1))) rfl rfl ?_)
      rcases ifs h with ⟨hc3, h⟩ | ⟨hc3, h⟩
      · refine wl_taken (c := x3.2.1 == x4.2.1) rfl rfl rfl rfl hc3 (op_move (v := (Value.int .i64 (x3.2.2))) rfl rfl ?_)
        refine wl_taken (c := x3.2.1 == x4.2.1) rfl rfl rfl rfl hc3 (op_move (v := (Value.int .i64 (x4.2.2))) rfl rfl ?_)
        refine wl_taken (c := x3.2.1 == x4.2.1) rfl rfl rfl rfl hc3 (op_eql (a := x3.2.2) (b := x4.2.2) rfl rfl rfl ?_)
        refine wl_op rfl (op_pick_t (c := x3.2.1 == x4.2.1) (a := (Value.bool (x3.2.2 == x4.2.2))) rfl rfl hc3 rfl ?_)
        refine wl_op rfl (op_move (v := (Value.bool (x3.2.2 == x4.2.2))) rfl rfl ?_)
        rcases ifs h with ⟨hc4, h⟩ | ⟨hc4, h⟩
        · obtain ⟨x5, hx5, h⟩ := bnd h
          refine wl_taken (c := x3.2.2 == x4.2.2) rfl rfl rfl rfl hc4 (op_call_v (vs := []) (r := (Value.bool (x5))) rfl ca16 rfl args0 I8 (fun Fr_ hF_ => F16_ok hF_  hx5) (fun w7 I9 => ?_))
          refine wl_op rfl (op_pick_t (c := x3.2.2 == x4.2.2) (a := (Value.bool (x5))) rfl rfl hc4 rfl ?_)
          refine wl_op rfl (op_assign (v := (Value.bool (x5))) rfl rfl ?_)
          refine wl_nil ?_
          refine wp_ret' ?_
          obtain rfl := Option.some.inj h
          exact ⟨(Value.bool (x5)), (res1 rfl rfl), _, [], (le1.trans le2), I9, rfl, rfl⟩
        · refine wl_skip (c := x3.2.2 == x4.2.2) rfl rfl rfl rfl hc4 rfl ?_
          refine wl_op rfl (op_pick_f (c := x3.2.2 == x4.2.2) (b := (Value.bool (false))) rfl rfl hc4 rfl ?_)
          refine wl_op rfl (op_assign (v := (Value.bool (false))) rfl rfl ?_)
          refine wl_nil ?_
          refine wp_ret' ?_
          obtain rfl := Option.some.inj h
          exact ⟨(Value.bool (false)), (res1 rfl rfl), _, [], (le1.trans le2), I8, rfl, rfl⟩
      · refine wl_skip (c := x3.2.1 == x4.2.1) rfl rfl rfl rfl hc3 rfl ?_
        refine wl_skip (c := x3.2.1 == x4.2.1) rfl rfl rfl rfl hc3 rfl ?_
        refine wl_skip (c := x3.2.1 == x4.2.1) rfl rfl rfl rfl hc3 rfl ?_
        refine wl_op rfl (op_pick_f (c := x3.2.1 == x4.2.1) (b := (Value.bool (false))) rfl rfl hc3 rfl ?_)
        refine wl_op rfl (op_move (v := (Value.bool (false))) rfl rfl ?_)
        refine wl_skip (c := false) rfl rfl rfl rfl rfl rfl ?_
        refine wl_op rfl (op_pick_f (c := false) (b := (Value.bool (false))) rfl rfl rfl rfl ?_)
        refine wl_op rfl (op_assign (v := (Value.bool (false))) rfl rfl ?_)
        refine wl_nil ?_
        refine wp_ret' ?_
        obtain rfl := Option.some.inj h
        exact ⟨(Value.bool (false)), (res1 rfl rfl), _, [], (le1.trans le2), I8, rfl, rfl⟩
    · refine wl_skip (c := x3.1 == x4.1) rfl rfl rfl rfl hc2 rfl ?_
      refine wl_skip (c := x3.1 == x4.1) rfl rfl rfl rfl hc2 rfl ?_
      refine wl_skip (c := x3.1 == x4.1) rfl rfl rfl rfl hc2 rfl ?_
      refine wl_op rfl (op_pick_f (c := x3.1 == x4.1) (b := (Value.bool (false))) rfl rfl hc2 rfl ?_)
      refine wl_op rfl (op_move (v := (Value.bool (false))) rfl rfl ?_)
      refine wl_skip (c := false) rfl rfl rfl rfl rfl rfl ?_
      refine wl_skip (c := false) rfl rfl rfl rfl rfl rfl ?_
      refine wl_skip (c := false) rfl rfl rfl rfl rfl rfl ?_
      refine wl_op rfl (op_pick_f (c := false) (b := (Value.bool (false))) rfl rfl rfl rfl ?_)
      refine wl_op rfl (op_move (v := (Value.bool (false))) rfl rfl ?_)
      refine wl_skip (c := false) rfl rfl rfl rfl rfl rfl ?_
      refine wl_op rfl (op_pick_f (c := false) (b := (Value.bool (false))) rfl rfl rfl rfl ?_)
      refine wl_op rfl (op_assign (v := (Value.bool (false))) rfl rfl ?_)
      refine wl_nil ?_
      refine wp_ret' ?_
      obtain rfl := Option.some.inj h
      exact ⟨(Value.bool (false)), (res1 rfl rfl), _, [], (le1.trans le2), I8, rfl, rfl⟩
end Go.Proofs.Ytfeomcdhhgeilaa.Pad
