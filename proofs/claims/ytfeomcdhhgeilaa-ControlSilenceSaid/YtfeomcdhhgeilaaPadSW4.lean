/- A part of the proof: what the functions of the program compute, shown over the model. -/
import Derived.Test.YtfeomcdhhgeilaaPadSP
import Derived.Test.YtfeomcdhhgeilaaPadSW1
import Derived.Test.YtfeomcdhhgeilaaPadSW2
import Derived.Test.YtfeomcdhhgeilaaPadSW3
import Derived.KernelRfl
set_option linter.unusedVariables false
namespace Go.Proofs.Ytfeomcdhhgeilaa.Pad
open Go Go.Proofs
set_option maxHeartbeats 4000000 in
set_option maxRecDepth 100000 in
theorem F17_ok {w : World} {S : PH} {Fr : List HP} {a0 : Panel} {v0 : Value} {a1 : Int} {a2 : (List Signal)} {v2 : Value} {r : (List Int) × Int} (hI : Inv w S Fr) (h0_ : RV S v0 a0) (h2_ : RV S v2 a2) (h : F17 a0 a1 a2 = some r) :
    Calls Try.prog 17 [v0, (Value.int .i64 (a1)), v2].toArray w (Done S Fr (fun T_ v_ O_ => ∃ (a0_ : Option Addr) (n0_ k0_ : Nat), v_ = (Value.tuple #[(Value.slice a0_ n0_ k0_), (Value.int .i64 (r.2))]) ∧ O_ = [Row (α := Int) 3 (Value.slice a0_ n0_ k0_) (r.1)])) := by
  unfold F17 at h
  obtain ⟨c1, e1, r1⟩ := Panel.inv h0_
  subst e1
  obtain ⟨z1, m1, k1, e2⟩ := rv_form r1
  subst e2
  obtain ⟨z2, m2, k2, e3⟩ := rv_form h2_
  subst e3
  refine calls_enter (n := 23) (vs := [(Value.agg #[(Value.int .i64 (a0.Sensors)), (Value.slice z1 m1 k1), (Value.int .i64 (a0.Stale)), (Value.int .i64 (a0.Limit))]), (Value.int .i64 (a1)), (Value.slice z2 m2 k2)]) Try.func17 rfl rfl rfl ?_
  refine wp_seq' ?_
  refine wp_region' ?_
  refine wl_op rfl (op_box (v := (Value.agg #[(Value.int .i64 (a0.Sensors)), (Value.slice z1 m1 k1), (Value.int .i64 (a0.Stale)), (Value.int .i64 (a0.Limit))])) rfl hI rfl (fun g1 w1 I1 => ?_))
  obtain ⟨S1, le1, I2, p1⟩ := Inv.boxFreeze (x := a0) I1 (Panel.rv (s := a0) r1)
  refine wl_op rfl (op_assign (v := (Value.slice none 0 0)) rfl rfl ?_)
  refine wl_op rfl (op_assign (v := (Value.int .i64 (0))) rfl rfl ?_)
  refine wl_nil ?_
  refine wp_seq' ?_
  refine wp_region' ?_
  refine wl_op rfl (op_load (v := (Value.pointer (some ⟨g1, 0, none⟩))) (e := a0) rfl sh24 rfl (p1.at_ I2) (fun u1 hu1 => ?_))
  obtain ⟨c2, e4, r2⟩ := Panel.inv hu1
  subst e4
  obtain ⟨z3, m3, k3, e5⟩ := rv_form r2
  subst e5
  refine wl_op rfl (op_move (v := (Value.int .i64 (a1))) rfl rfl ?_)
  refine wl_op rfl (op_move (v := (Value.slice z2 m2 k2)) rfl rfl ?_)
  obtain ⟨x1, hx1, h⟩ := bnd h
  refine wl_op rfl (op_call (vs := [(Value.agg #[(Value.int .i64 (a0.Sensors)), (Value.slice z3 m3 k3), (Value.int .i64 (a0.Stale)), (Value.int .i64 (a0.Limit))]), (Value.int .i64 (a1)), (Value.slice z2 m2 k2)]) rfl ca45 rfl (args3 rfl rfl rfl) (F45_ok I2 (Panel.rv (s := a0) r2) (h2_.mono le1) hx1) (fun v1 w2 S2 O1 le2 I3 hv1 => ?_))
  obtain ⟨z4, m4, k4, rfl, rfl⟩ := hv1
  refine wl_op rfl (op_move (v := (Value.tuple #[(Value.slice z4 m4 k4), (Value.int .i64 (x1.2))])) rfl rfl ?_)
  refine wl_op rfl (op_extract (v := (Value.slice z4 m4 k4)) rfl rfl rfl ?_)
  refine wl_op rfl (op_extract (v := (Value.int .i64 (x1.2))) rfl rfl rfl ?_)
  refine wl_op rfl (op_assign (v := (Value.slice z4 m4 k4)) rfl rfl ?_)
  refine wl_op rfl (op_assign (v := (Value.int .i64 (x1.2))) rfl rfl ?_)
  refine wl_nil ?_
  refine wp_seq' ?_
  refine wp_seq' ?_
  refine wp_region' ?_
  refine wl_op rfl (op_move (v := (Value.int .i64 (x1.2))) rfl rfl ?_)
  refine wl_op rfl (op_neq (a := x1.2) (b := 0) rfl rfl rfl ?_)
  refine wl_nil ?_
  rcases ifs h with ⟨hc1, h⟩ | ⟨hc1, h⟩
  · refine wp_cond_t (b := x1.2 != 0) rfl hc1 ?_
    refine wp_seq' ?_
    refine wp_region' ?_
    refine wl_op rfl (op_move (v := (Value.int .i64 (x1.2))) rfl rfl ?_)
    refine wl_op rfl (op_assign (v := (Value.slice none 0 0)) rfl rfl ?_)
    refine wl_op rfl (op_assign (v := (Value.int .i64 (x1.2))) rfl rfl ?_)
    refine wl_nil ?_
    refine wp_ret' ?_
    have I4 := Inv.rowNil (α := Int) (T := 3) I3
    obtain rfl := Option.some.inj h
    exact ⟨(Value.tuple #[(Value.slice none 0 0), (Value.int .i64 (x1.2))]), (res2 rfl rfl rfl), _, [Row (α := Int) 3 (Value.slice none 0 0) (([] : List Int))], (le1.trans le2), (I4.pull 1).drop, _, _, _, rfl, rfl⟩
  · refine wp_cond_f (b := x1.2 != 0) rfl hc1 ?_
    refine wp_skip' ?_
    refine wp_seq' ?_
    refine wp_region' ?_
    refine wl_op rfl (op_load (v := (Value.pointer (some ⟨g1, 0, none⟩))) (e := a0) rfl sh24 rfl ((p1.mono le2).at_ I3) (fun u2 hu2 => ?_))
    obtain ⟨c3, e6, r3⟩ := Panel.inv hu2
    subst e6
    obtain ⟨z5, m5, k5, e7⟩ := rv_form r3
    subst e7
    refine wl_op rfl (op_move (v := (Value.slice z4 m4 k4)) rfl rfl ?_)
    obtain ⟨x2, hx2, h⟩ := bnd h
    obtain ⟨S3, Fr1, le3, I5, r4, bk1⟩ := Inv.lend1 I3
    refine wl_op rfl (op_call (vs := [(Value.agg #[(Value.int .i64 (a0.Sensors)), (Value.slice z5 m5 k5), (Value.int .i64 (a0.Stale)), (Value.int .i64 (a0.Limit))]), (Value.slice z4 m4 k4)]) rfl ca46 rfl (args2 rfl rfl) (F46_ok I5 (Panel.rv (s := a0) (r3.mono le3)) r4 hx2) (fun v2 w3 S4 O2 le4 I7 hv2 => ?_))
    obtain ⟨z6, m6, k6, rfl, rfl⟩ := hv2
    have I6 := bk1 [Row (α := Int) 3 (Value.slice z6 m6 k6) (x2)] ⟨Row.free, trivial⟩ I7 le4
    refine wl_op rfl (op_assign (v := (Value.slice z6 m6 k6)) rfl rfl ?_)
    refine wl_op rfl (op_assign (v := (Value.int .i64 (0))) rfl rfl ?_)
    refine wl_nil ?_
    refine wp_ret' ?_
    obtain rfl := Option.some.inj h
    exact ⟨(Value.tuple #[(Value.slice z6 m6 k6), (Value.int .i64 (0))]), (res2 rfl rfl rfl), _, [Row (α := Int) 3 (Value.slice z6 m6 k6) (x2)], (le1.trans le2), (I6.pull 1).drop, _, _, _, rfl, rfl⟩

set_option maxHeartbeats 4000000 in
set_option maxRecDepth 100000 in
theorem F16_ok {w : World} {S : PH} {Fr : List HP}  {r : Bool} (hI : Inv w S Fr)  (h : F16  = some r) :
    Calls Try.prog 16 [].toArray w (DoneV S Fr (Value.bool (r))) := by
  unfold F16 at h
  refine calls_enter (n := 32) (vs := []) Try.func16 rfl rfl rfl ?_
  refine wp_seq' ?_
  refine wp_region' ?_
  refine wl_op rfl (op_assign (v := (Value.bool (false))) rfl rfl ?_)
  refine wl_nil ?_
  refine wp_seq' ?_
  refine wp_region' ?_
  obtain ⟨x1, hx1, h⟩ := bnd h
  refine wl_op rfl (op_call (vs := []) rfl ca44 rfl args0 (F44_ok hI  hx1) (fun v1 w1 S1 O1 le1 I1 hv1 => ?_))
  obtain ⟨c1, rfl, rfl, r1⟩ := hv1
  obtain ⟨c2, e1, r2⟩ := Panel.inv r1
  subst e1
  obtain ⟨z1, m1, k1, e2⟩ := rv_form r2
  subst e2
  refine wl_op rfl (op_build (qs := [(0, #[(Value.int .i64 (2))]), (1, #[(Value.int .i64 (1))]), (3, #[(Value.int .i64 (1))])]) (c := #[(Value.int .i64 (2)), (Value.int .i64 (1)), (Value.int .i64 (0)), (Value.int .i64 (1))]) rfl st46 ⟨rfl, rfl, ⟨rfl, rfl, ⟨rfl, rfl, trivial⟩⟩⟩ rfl ?_)
  refine wl_op rfl (op_buildSlice (vs := [(Value.agg #[(Value.int .i64 (2)), (Value.int .i64 (1)), (Value.int .i64 (0)), (Value.int .i64 (1))])]) (r := ([(⟨2, 1, 0, 1⟩ : Signal)] : List Signal)) rfl Try.underlying25 el46 (parts1 rfl) rfl (by decide) (by decide) ⟨(Signal.rv (s := (⟨2, 1, 0, 1⟩ : Signal))), trivial⟩ I1 (fun u1 w2 I2 => ?_))
  obtain ⟨z2, m2, k2, e3⟩ := row_form I2
  subst e3
  obtain ⟨x2, hx2, h⟩ := bnd h
  obtain ⟨S2, Fr1, le2, I3, r3, bk1⟩ := Inv.lend1 I2
  refine wl_op rfl (op_call (vs := [(Value.agg #[(Value.int .i64 (x1.Sensors)), (Value.slice z1 m1 k1), (Value.int .i64 (x1.Stale)), (Value.int .i64 (x1.Limit))]), (Value.int .i64 (4)), (Value.slice z2 m2 k2)]) rfl ca17 rfl (args3 rfl rfl rfl) (F17_ok I3 (Panel.rv (s := x1) (r2.mono le2)) r3 hx2) (fun v2 w3 S3 O2 le3 I5 hv2 => ?_))
  obtain ⟨z3, m3, k3, rfl, rfl⟩ := hv2
  have I4 := bk1 [Row (α := Int) 3 (Value.slice z3 m3 k3) (x2.1)] ⟨Row.free, trivial⟩ I5 le3
  refine wl_op rfl (op_move (v := (Value.tuple #[(Value.slice z3 m3 k3), (Value.int .i64 (x2.2))])) rfl rfl ?_)
  refine wl_op rfl (op_extract (v := (Value.slice z3 m3 k3)) rfl rfl rfl ?_)
  refine wl_op rfl (op_extract (v := (Value.int .i64 (x2.2))) rfl rfl rfl ?_)
  refine wl_op rfl (op_assign (v := (Value.slice z3 m3 k3)) rfl rfl ?_)
  refine wl_op rfl (op_assign (v := (Value.int .i64 (x2.2))) rfl rfl ?_)
  refine wl_nil ?_
  refine wp_seq' ?_
  refine wp_region' ?_
  obtain ⟨x3, hx3, h⟩ := bnd h
  refine wl_op rfl (op_call (vs := []) rfl ca44 rfl args0 (F44_ok I4  hx3) (fun v3 w4 S4 O3 le4 I6 hv3 => ?_))
  obtain ⟨c3, rfl, rfl, r4⟩ := hv3
  obtain ⟨c4, e4, r5⟩ := Panel.inv r4
  subst e4
  obtain ⟨z4, m4, k4, e5⟩ := rv_form r5
  subst e5
  obtain ⟨x4, hx4, h⟩ := bnd h
  refine wl_op rfl (op_call_v (vs := [(Value.agg #[(Value.int .i64 (x3.Sensors)), (Value.slice z4 m4 k4), (Value.int .i64 (x3.Stale)), (Value.int .i64 (x3.Limit))])]) (r := (Value.tuple #[(Value.int .i64 (x4.1)), (Value.int .i64 (x4.2))])) rfl ca21 rfl (args1 rfl) I6 (fun Fr_ hF_ => F21_ok hF_ (Panel.rv (s := x3) r5) hx4) (fun w5 I7 => ?_))
  refine wl_op rfl (op_move (v := (Value.tuple #[(Value.int .i64 (x4.1)), (Value.int .i64 (x4.2))])) rfl rfl ?_)
  refine wl_op rfl (op_extract (v := (Value.int .i64 (x4.1))) rfl rfl rfl ?_)
  refine wl_op rfl (op_extract (v := (Value.int .i64 (x4.2))) rfl rfl rfl ?_)
  refine wl_op rfl (op_assign (v := (Value.int .i64 (x4.1))) rfl rfl ?_)
  refine wl_op rfl (op_assign (v := (Value.int .i64 (x4.2))) rfl rfl ?_)
  refine wl_nil ?_
  refine wp_seq' ?_
  refine wp_region' ?_
  refine wl_op rfl (op_move (v := (Value.int .i64 (x2.2))) rfl rfl ?_)
  refine wl_op rfl (op_eql (a := x2.2) (b := 0) rfl rfl rfl ?_)
  refine wl_op rfl (op_move (v := (Value.bool (x2.2 == 0))) rfl rfl ?_)
  rcases ifs h with ⟨hc1, h⟩ | ⟨hc1, h⟩
  · refine wl_taken (c := x2.2 == 0) rfl rfl rfl rfl hc1 (op_move (v := (Value.int .i64 (x4.2))) rfl rfl ?_)
    refine wl_taken (c := x2.2 == 0) rfl rfl rfl rfl hc1 (op_eql (a := x4.2) (b := 0) rfl rfl rfl ?_)
    refine wl_op rfl (op_pick_t (c := x2.2 == 0) (a := (Value.bool (x4.2 == 0))) rfl rfl hc1 rfl ?_)
    refine wl_op rfl (op_move (v := (Value.bool (x4.2 == 0))) rfl rfl ?_)
    rcases ifs h with ⟨hc2, h⟩ | ⟨hc2, h⟩
    · refine wl_taken (c := x4.2 == 0) rfl rfl rfl rfl hc2 (op_move (v := (Value.slice z3 m3 k3)) rfl rfl ?_)
      refine wl_taken (c := x4.2 == 0) rfl rfl rfl rfl hc2 (op_buildSlice (vs := [(Value.int .i64 (1)), (Value.int .i64 (1)), (Value.int .i64 (0)), (Value.int .i64 (0))]) (r := ([1, 1, 0, 0] : List Int)) rfl Try.underlying34 el3 (parts4 rfl rfl rfl rfl) rfl (by decide) (by decide) ⟨(rv_int' _), ⟨(rv_int' _), ⟨(rv_int' _), ⟨(rv_int' _), trivial⟩⟩⟩⟩ I7 (fun u2 w6 I8 => ?_))
      obtain ⟨z5, m5, k5, e6⟩ := row_form I8
      subst e6
      obtain ⟨x5, hx5, h⟩ := bnd h
      obtain ⟨S5, Fr2, le5, I9, r6, r7, bk2⟩ := Inv.lend2 (I8.pull 1)
      refine wl_taken (c := x4.2 == 0) rfl rfl rfl rfl hc2 (op_call (vs := [(Value.slice z3 m3 k3), (Value.slice z5 m5 k5)]) rfl ca29 rfl (args2 rfl rfl) (F29_ok I9 r6 r7 hx5) (fun v4 w7 S6 O4 le6 I11 hv4 => ?_))
      obtain ⟨rfl, rfl⟩ := hv4
      have I10 := bk2 [] trivial I11 le6
      refine wl_op rfl (op_pick_t (c := x4.2 == 0) (a := (Value.bool (x5))) rfl rfl hc2 rfl ?_)
      refine wl_op rfl (op_move (v := (Value.bool (x5))) rfl rfl ?_)
      rcases ifs h with ⟨hc3, h⟩ | ⟨hc3, h⟩
      · refine wl_taken (c := x5) rfl rfl rfl rfl hc3 (op_move (v := (Value.int .i64 (x4.1))) rfl rfl ?_)
        refine wl_taken (c := x5) rfl rfl rfl rfl hc3 (op_eql (a := x4.1) (b := 10) rfl rfl rfl ?_)
        refine wl_op rfl (op_pick_t (c := x5) (a := (Value.bool (x4.1 == 10))) rfl rfl hc3 rfl ?_)
        refine wl_op rfl (op_assign (v := (Value.bool (x4.1 == 10))) rfl rfl ?_)
        refine wl_nil ?_
        refine wp_ret' ?_
        obtain rfl := Option.some.inj h
        exact ⟨(Value.bool (x4.1 == 10)), (res1 rfl rfl), _, [], (le1.trans le4), (((I10).drop).drop).drop, rfl, rfl⟩
      · refine wl_skip (c := x5) rfl rfl rfl rfl hc3 rfl ?_
        refine wl_skip (c := x5) rfl rfl rfl rfl hc3 rfl ?_
        refine wl_op rfl (op_pick_f (c := x5) (b := (Value.bool (false))) rfl rfl hc3 rfl ?_)
        refine wl_op rfl (op_assign (v := (Value.bool (false))) rfl rfl ?_)
        refine wl_nil ?_
        refine wp_ret' ?_
        obtain rfl := Option.some.inj h
        exact ⟨(Value.bool (false)), (res1 rfl rfl), _, [], (le1.trans le4), (((I10).drop).drop).drop, rfl, rfl⟩
    · refine wl_skip (c := x4.2 == 0) rfl rfl rfl rfl hc2 rfl ?_
      refine wl_skip (c := x4.2 == 0) rfl rfl rfl rfl hc2 rfl ?_
      refine wl_skip (c := x4.2 == 0) rfl rfl rfl rfl hc2 rfl ?_
      refine wl_op rfl (op_pick_f (c := x4.2 == 0) (b := (Value.bool (false))) rfl rfl hc2 rfl ?_)
      refine wl_op rfl (op_move (v := (Value.bool (false))) rfl rfl ?_)
      refine wl_skip (c := false) rfl rfl rfl rfl rfl rfl ?_
      refine wl_skip (c := false) rfl rfl rfl rfl rfl rfl ?_
      refine wl_op rfl (op_pick_f (c := false) (b := (Value.bool (false))) rfl rfl rfl rfl ?_)
      refine wl_op rfl (op_assign (v := (Value.bool (false))) rfl rfl ?_)
      refine wl_nil ?_
      refine wp_ret' ?_
      obtain rfl := Option.some.inj h
      exact ⟨(Value.bool (false)), (res1 rfl rfl), _, [], (le1.trans le4), ((I7).drop).drop, rfl, rfl⟩
  · refine wl_skip (c := x2.2 == 0) rfl rfl rfl rfl hc1 rfl ?_
    refine wl_skip (c := x2.2 == 0) rfl rfl rfl rfl hc1 rfl ?_
    refine wl_op rfl (op_pick_f (c := x2.2 == 0) (b := (Value.bool (false))) rfl rfl hc1 rfl ?_)
    refine wl_op rfl (op_move (v := (Value.bool (false))) rfl rfl ?_)
    refine wl_skip (c := false) rfl rfl rfl rfl rfl rfl ?_
    refine wl_skip (c := false) rfl rfl rfl rfl rfl rfl ?_
    refine wl_skip (c := false) rfl rfl rfl rfl rfl rfl ?_
    refine wl_op rfl (op_pick_f (c := false) (b := (Value.bool (false))) rfl rfl rfl rfl ?_)
    refine wl_op rfl (op_move (v := (Value.bool (false))) rfl rfl ?_)
    refine wl_skip (c := false) rfl rfl rfl rfl rfl rfl ?_
    refine wl_skip (c := false) rfl rfl rfl rfl rfl rfl ?_
    refine wl_op rfl (op_pick_f (c := false) (b := (Value.bool (false))) rfl rfl rfl rfl ?_)
    refine wl_op rfl (op_assign (v := (Value.bool (false))) rfl rfl ?_)
    refine wl_nil ?_
    refine wp_ret' ?_
    obtain rfl := Option.some.inj h
    exact ⟨(Value.bool (false)), (res1 rfl rfl), _, [], (le1.trans le4), ((I7).drop).drop, rfl, rfl⟩

set_option maxHeartbeats 4000000 in
set_option maxRecDepth 100000 in
theorem F3_ok {w : World} {S : PH} {Fr : List HP} {a0 : Panel} {v0 : Value} {a1 : (List Signal)} {v1 : Value} {a2 : Law08_Where} {v2 : Value} {r : Bool} (hI : Inv w S Fr) (h0_ : RV S v0 a0) (h1_ : RV S v1 a1) (h2_ : RV S v2 a2) (h : F3 a0 a1 a2 = some r) :
    Calls Try.prog 3 [v0, v1, v2].toArray w (DoneV S Fr (Value.bool (r))) := by
  unfold F3 at h
  obtain ⟨c1, e1, r1⟩ := Panel.inv h0_
  subst e1
  obtain ⟨z1, m1, k1, e2⟩ := rv_form r1
  subst e2
  obtain ⟨z2, m2, k2, e3⟩ := rv_form h1_
  subst e3
  have e4 := Law08_Where.inv h2_
  subst e4
  refine calls_enter (n := 100) (vs := [(Value.agg #[(Value.int .i64 (a0.Sensors)), (Value.slice z1 m1 k1), (Value.int .i64 (a0.Stale)), (Value.int .i64 (a0.Limit))]), (Value.slice z2 m2 k2), (Value.agg #[(Value.int .i64 (a2.Ticks)), (Value.int .i64 (a2.Door))])]) Try.func3 rfl rfl rfl ?_
  refine wp_seq' ?_
  refine wp_region' ?_
  refine wl_op rfl (op_box (v := (Value.agg #[(Value.int .i64 (a0.Sensors)), (Value.slice z1 m1 k1), (Value.int .i64 (a0.Stale)), (Value.int .i64 (a0.Limit))])) rfl hI rfl (fun g1 w1 I1 => ?_))
  obtain ⟨S1, le1, I2, p1⟩ := Inv.boxFreeze (x := a0) I1 (Panel.rv (s := a0) r1)
  refine wl_op rfl (op_box (v := (Value.agg #[(Value.int .i64 (a2.Ticks)), (Value.int .i64 (a2.Door))])) rfl I2 rfl (fun g2 w2 I3 => ?_))
  obtain ⟨S2, le2, I4, p2⟩ := Inv.boxFreeze (x := a2) I3 (Law08_Where.rv (s := a2))
  refine wl_op rfl (op_assign (v := (Value.bool (false))) rfl rfl ?_)
  refine wl_nil ?_
  obtain ⟨ov1, h2, h⟩ := bnd h
  refine wp_cut (fun f w => ∃ v1, ov1 = Sum.inl v1 ∧ Inv w S2 (Fr) ∧ f 1 = (Value.slice z2 m2 k2) ∧ f 3 = (Value.pointer (some ⟨g1, 0, none⟩)) ∧ f 5 = (Value.pointer (some ⟨g2, 0, none⟩))) ?_ ?_
  · refine wp_seq' ?_
    refine wp_region' ?_
    refine wl_op rfl (op_load (v := (Value.pointer (some ⟨g1, 0, none⟩))) (e := a0) rfl sh24 rfl ((p1.mono le2).at_ I4) (fun u3 hu3 => ?_))
    obtain ⟨c3, e8, r3⟩ := Panel.inv hu3
    subst e8
    obtain ⟨z5, m5, k5, e9⟩ := rv_form r3
    subst e9
    obtain ⟨x5, hx5, h2⟩ := bnd h2
    refine wl_op rfl (op_call_v (vs := [(Value.agg #[(Value.int .i64 (a0.Sensors)), (Value.slice z5 m5 k5), (Value.int .i64 (a0.Stale)), (Value.int .i64 (a0.Limit))])]) (r := (Value.int .i64 (x5))) rfl ca15 rfl (args1 rfl) I4 (fun Fr_ hF_ => F15_ok hF_ (Panel.rv (s := a0) r3) hx5) (fun w7 I9 => ?_))
    refine wl_op rfl (op_neq (a := x5) (b := 0) rfl rfl rfl ?_)
    refine wl_op rfl (op_move (v := (Value.bool (x5 != 0))) rfl rfl ?_)
    rcases ifs h2 with ⟨hc4, h2⟩ | ⟨hc4, h2⟩
    · refine wl_skip (c := x5 != 0) rfl rfl rfl rfl hc4 rfl ?_
      refine wl_skip (c := x5 != 0) rfl rfl rfl rfl hc4 rfl ?_
      refine wl_skip (c := x5 != 0) rfl rfl rfl rfl hc4 rfl ?_
      refine wl_skip (c := x5 != 0) rfl rfl rfl rfl hc4 rfl ?_
      refine wl_op rfl (op_pick_t (c := x5 != 0) (a := (Value.bool (true))) rfl rfl hc4 rfl ?_)
      refine wl_op rfl (op_move (v := (Value.bool (true))) rfl rfl ?_)
      refine wl_skip (c := true) rfl rfl rfl rfl rfl rfl ?_
      refine wl_skip (c := true) rfl rfl rfl rfl rfl rfl ?_
      refine wl_skip (c := true) rfl rfl rfl rfl rfl rfl ?_
      refine wl_op rfl (op_pick_t (c := true) (a := (Value.bool (true))) rfl rfl rfl rfl ?_)
      refine wl_nil ?_
      refine wp_cond_t (b := true) rfl rfl ?_
      refine wp_seq' ?_
      refine wp_region' ?_
      obtain ⟨x6, hx6, h2⟩ := bnd h2
      refine wl_op rfl (op_call_v (vs := []) (r := (Value.bool (x6))) rfl ca16 rfl args0 I9 (fun Fr_ hF_ => F16_ok hF_  hx6) (fun w8 I10 => ?_))
      refine wl_op rfl (op_assign (v := (Value.bool (x6))) rfl rfl ?_)
      refine wl_nil ?_
      refine wp_ret' ?_
      obtain rfl := Option.some.inj h2
      have h3 := h
      obtain rfl := Option.some.inj h3
      exact ⟨(Value.bool (x6)), (res1 rfl rfl), _, [], (le1.trans le2), I10, rfl, rfl⟩
    · refine wl_taken (c := x5 != 0) rfl rfl rfl rfl hc4 (op_fieldAddr_t (v := (Value.pointer (some ⟨g1, 0, none⟩))) rfl fa24_1 rfl ((p1.mono le2).at_ I9) ?_)
      refine wl_taken (c := x5 != 0) rfl rfl rfl rfl hc4 (op_load (v := (fieldPtr (Value.pointer (some ⟨g1, 0, none⟩)) 1)) (e := a0.Doors) rfl sh22 rfl (((p1.mono le2).at_ I9).fld Panel.fld1) (fun u4 hu4 => ?_))
      obtain ⟨z6, m6, k6, e10⟩ := rv_form hu4
      subst e10
      refine wl_taken (c := x5 != 0) rfl rfl rfl rfl hc4 (op_len_rv rfl Try.underlying22 rfl hu4 ?_)
      refine wl_taken (c := x5 != 0) rfl rfl rfl rfl hc4 (op_eql (a := (a0.Doors.length : Int)) (b := 0) rfl rfl rfl ?_)
      refine wl_op rfl (op_pick_f (c := x5 != 0) (b := (Value.bool ((a0.Doors.length : Int) == 0))) rfl rfl hc4 rfl ?_)
      refine wl_op rfl (op_move (v := (Value.bool ((a0.Doors.length : Int) == 0))) rfl rfl ?_)
      rcases ifs h2 with ⟨hc5, h2⟩ | ⟨hc5, h2⟩
      · refine wl_skip (c := (a0.Doors.length : Int) == 0) rfl rfl rfl rfl hc5 rfl ?_
        refine wl_skip (c := (a0.Doors.length : Int) == 0) rfl rfl rfl rfl hc5 rfl ?_
        refine wl_skip (c := (a0.Doors.length : Int) == 0) rfl rfl rfl rfl hc5 rfl ?_
        refine wl_op rfl (op_pick_t (c := (a0.Doors.length : Int) == 0) (a := (Value.bool (true))) rfl rfl hc5 rfl ?_)
        refine wl_nil ?_
        refine wp_cond_t (b := true) rfl rfl ?_
        refine wp_seq' ?_
        refine wp_region' ?_
        obtain ⟨x7, hx7, h2⟩ := bnd h2
        refine wl_op rfl (op_call_v (vs := []) (r := (Value.bool (x7))) rfl ca16 rfl args0 I9 (fun Fr_ hF_ => F16_ok hF_  hx7) (fun w9 I11 => ?_))
        refine wl_op rfl (op_assign (v := (Value.bool (x7))) rfl rfl ?_)
        refine wl_nil ?_
        refine wp_ret' ?_
        obtain rfl := Option.some.inj h2
        have h3 := h
        obtain rfl := Option.some.inj h3
        exact ⟨(Value.bool (x7)), (res1 rfl rfl), _, [], (le1.trans le2), I11, rfl, rfl⟩
      · refine wl_taken (c := (a0.Doors.length : Int) == 0) rfl rfl rfl rfl hc5 (op_move (v := (Value.slice z2 m2 k2)) rfl rfl ?_)
        refine wl_taken (c := (a0.Doors.length : Int) == 0) rfl rfl rfl rfl hc5 (op_len_rv rfl Try.underlying25 rfl (h1_.mono (le1.trans le2)) ?_)
        refine wl_taken (c := (a0.Doors.length : Int) == 0) rfl rfl rfl rfl hc5 (op_gtr (a := (a1.length : Int)) (b := 150) rfl rfl rfl ?_)
        refine wl_op rfl (op_pick_f (c := (a0.Doors.length : Int) == 0) (b := (Value.bool (decide (150 < (a1.length : Int))))) rfl rfl hc5 rfl ?_)
        refine wl_nil ?_
        rcases ifs h2 with ⟨hc6, h2⟩ | ⟨hc6, h2⟩
        · refine wp_cond_t (b := decide (150 < (a1.length : Int))) rfl hc6 ?_
          refine wp_seq' ?_
          refine wp_region' ?_
          obtain ⟨x8, hx8, h2⟩ := bnd h2
          refine wl_op rfl (op_call_v (vs := []) (r := (Value.bool (x8))) rfl ca16 rfl args0 I9 (fun Fr_ hF_ => F16_ok hF_  hx8) (fun w10 I12 => ?_))
          refine wl_op rfl (op_assign (v := (Value.bool (x8))) rfl rfl ?_)
          refine wl_nil ?_
          refine wp_ret' ?_
          obtain rfl := Option.some.inj h2
          have h3 := h
          obtain rfl := Option.some.inj h3
          exact ⟨(Value.bool (x8)), (res1 rfl rfl), _, [], (le1.trans le2), I12, rfl, rfl⟩
        · refine wp_cond_f (b := decide (150 < (a1.length : Int))) rfl hc6 ?_
          refine wp_skip' ?_
          obtain rfl := Option.some.inj h2
          exact ⟨_, rfl, I9, rfl, rfl, rfl⟩
  · rintro f w ⟨v1, rfl, I13, e11, e12, e13⟩
    refine wp_seq' ?_
    obtain ⟨x9, hx9, h⟩ := bnd h
    obtain ⟨x10, hx10, h⟩ := bnd h
    refine wp_draw (sps := [⟨some 30, [], [0], fun vs_ T_ => fr0 vs_ 0 = (fieldPtr (Value.pointer (some ⟨g2, 0, none⟩)) 1), [], [], [], fun _ h_ => h_⟩, ⟨some 31, [0], [1], fun vs_ T_ => fr0 vs_ 0 = (Value.int .i64 (a2.Door)), [], [], [], fun _ h_ => h_⟩, ⟨some 32, [], [2], fun vs_ T_ => fr0 vs_ 0 = (fieldPtr (Value.pointer (some ⟨g1, 0, none⟩)) 1), [], [], [], fun _ h_ => h_⟩, ⟨some 33, [2], [3], fun vs_ T_ => RV T_ (fr0 vs_ 0) a0.Doors, [], [], [], fun hle_ h_ => h_.mono hle_⟩, ⟨some 34, [2, 3], [4], fun vs_ T_ => fr0 vs_ 0 = (Value.int .i64 ((a0.Doors.length : Int))), [], [], [], fun _ h_ => h_⟩, ⟨some 35, [0, 1, 2, 3, 4], [5], fun vs_ T_ => fr0 vs_ 0 = (Value.int .i64 (x9)), [], [], [], fun _ h_ => h_⟩, ⟨some 36, [], [6], fun vs_ T_ => fr0 vs_ 0 = (fieldPtr (Value.pointer (some ⟨g1, 0, none⟩)) 1), [], [], [], fun _ h_ => h_⟩, ⟨some 37, [6], [7], fun vs_ T_ => RV T_ (fr0 vs_ 0) a0.Doors, [], [], [], fun hle_ h_ => h_.mono hle_⟩, ⟨some 38, [6, 7], [8], fun vs_ T_ => fr0 vs_ 0 = (Value.int .i64 ((a0.Doors.length : Int))), [], [], [], fun _ h_ => h_⟩, ⟨some 39, [0, 1, 2, 3, 4, 5, 6, 7, 8], [9], fun vs_ T_ => fr0 vs_ 0 = (Value.int .i64 (w64 (x9 + (a0.Doors.length : Int)))), [], [], [], fun _ h_ => h_⟩, ⟨some 40, [], [10], fun vs_ T_ => fr0 vs_ 0 = (fieldPtr (Value.pointer (some ⟨g1, 0, none⟩)) 1), [], [], [], fun _ h_ => h_⟩, ⟨some 41, [10], [11], fun vs_ T_ => RV T_ (fr0 vs_ 0) a0.Doors, [], [], [], fun hle_ h_ => h_.mono hle_⟩, ⟨some 42, [10, 11], [12], fun vs_ T_ => fr0 vs_ 0 = (Value.int .i64 ((a0.Doors.length : Int))), [], [], [], fun _ h_ => h_⟩, ⟨some 43, [0, 1, 2, 3, 4, 5, 6, 7, 8, 9, 10, 11, 12], [13], fun vs_ T_ => fr0 vs_ 0 = (Value.int .i64 (x10)), [], [], [], fun _ h_ => h_⟩, ⟨some 7, [0, 1, 2, 3, 4, 5, 6, 7, 8, 9, 10, 11, 12, 13], [14], fun vs_ T_ => fr0 vs_ 0 = (Value.int .i64 (x10)), [], [], [], fun _ h_ => h_⟩]) (tks := []) (O := Fr) rfl (by kernel_rfl) I13 ⟨?_, ?_, ?_, ?_, ?_, ?_, ?_, ?_, ?_, ?_, ?_, ?_, ?_, ?_, ?_, trivial⟩ ?_
    · intro vs1 f w11 S3 X1 le3 hA1 hK1 hI1
      have I14 : Inv w11 S3 (X1) := hI1
      refine opg_plain rfl rfl (op_fieldAddr_t (v := (Value.pointer (some ⟨g2, 0, none⟩))) rfl fa27_1 ((hK1 5 (keep_of rfl)).trans e13) ((p2.mono le3).at_ I14) ?_)
      refine ⟨_, _, rfl, PH.Le.refl _, ?_, ?_⟩
      · exact rfl
      · exact I14
    · intro vs2 f w12 S4 X2 le4 hA2 hK2 hI2
      have I15 : Inv w12 S4 (X2) := hI2
      have q1 : f 30 = (fieldPtr (Value.pointer (some ⟨g2, 0, none⟩)) 1) := ((hA2.1 _ rfl).1 _ rfl).trans (hA2.1 _ rfl).2
      refine opg_plain rfl rfl (op_load_int (v := (fieldPtr (Value.pointer (some ⟨g2, 0, none⟩)) 1)) (e := a2.Door) rfl sh3 q1 (((p2.mono le4).at_ I15).fld Law08_Where.fld1) ?_)
      refine ⟨_, _, rfl, PH.Le.refl _, ?_, ?_⟩
      · exact rfl
      · exact I15
    · intro vs3 f w13 S5 X3 le5 hA3 hK3 hI3
      have I16 : Inv w13 S5 (X3) := hI3
      refine opg_plain rfl rfl (op_fieldAddr_t (v := (Value.pointer (some ⟨g1, 0, none⟩))) rfl fa24_1 ((hK3 3 (keep_of rfl)).trans e12) ((p1.mono (le2.trans le5)).at_ I16) ?_)
      refine ⟨_, _, rfl, PH.Le.refl _, ?_, ?_⟩
      · exact rfl
      · exact I16
    · intro vs4 f w14 S6 X4 le6 hA4 hK4 hI4
      have I17 : Inv w14 S6 (X4) := hI4
      have q2 : f 32 = (fieldPtr (Value.pointer (some ⟨g1, 0, none⟩)) 1) := ((hA4.1 _ rfl).1 _ rfl).trans (hA4.1 _ rfl).2
      refine opg_plain rfl rfl (op_load (v := (fieldPtr (Value.pointer (some ⟨g1, 0, none⟩)) 1)) (e := a0.Doors) rfl sh22 q2 (((p1.mono (le2.trans le6)).at_ I17).fld Panel.fld1) (fun u8 hu8 => ?_))
      obtain ⟨z7, m7, k7, e14⟩ := rv_form hu8
      subst e14
      refine ⟨_, _, rfl, PH.Le.refl _, ?_, ?_⟩
      · exact hu8
      · exact I17
    · intro vs5 f w15 S7 X5 le7 hA5 hK5 hI5
      have I18 : Inv w15 S7 (X5) := hI5
      have q3 : f 32 = (fieldPtr (Value.pointer (some ⟨g1, 0, none⟩)) 1) := ((hA5.1 _ rfl).1 _ rfl).trans (hA5.1 _ rfl).2
      have q4 : f 33 = vs5 3 := (hA5.2.1 _ rfl).1 _ rfl
      have r4 : RV S7 (vs5 3) a0.Doors := (hA5.2.1 _ rfl).2
      obtain ⟨u9, hu9⟩ : ∃ u, vs5 3 = u := ⟨_, rfl⟩
      rw [hu9] at q4 r4
      obtain ⟨z8, m8, k8, e15⟩ := rv_form r4
      subst e15
      refine opg_plain rfl rfl (op_len_rv rfl Try.underlying22 q4 r4 ?_)
      refine ⟨_, _, rfl, PH.Le.refl _, ?_, ?_⟩
      · exact rfl
      · exact I18
    · intro vs6 f w16 S8 X6 le8 hA6 hK6 hI6
      have I19 : Inv w16 S8 (X6) := hI6
      have q5 : f 30 = (fieldPtr (Value.pointer (some ⟨g2, 0, none⟩)) 1) := ((hA6.1 _ rfl).1 _ rfl).trans (hA6.1 _ rfl).2
      have q6 : f 31 = (Value.int .i64 (a2.Door)) := ((hA6.2.1 _ rfl).1 _ rfl).trans (hA6.2.1 _ rfl).2
      have q7 : f 32 = (fieldPtr (Value.pointer (some ⟨g1, 0, none⟩)) 1) := ((hA6.2.2.1 _ rfl).1 _ rfl).trans (hA6.2.2.1 _ rfl).2
      have q8 : f 33 = vs6 3 := (hA6.2.2.2.1 _ rfl).1 _ rfl
      have r5 : RV S8 (vs6 3) a0.Doors := (hA6.2.2.2.1 _ rfl).2
      obtain ⟨u10, hu10⟩ : ∃ u, vs6 3 = u := ⟨_, rfl⟩
      rw [hu10] at q8 r5
      obtain ⟨z9, m9, k9, e16⟩ := rv_form r5
      subst e16
      have q9 : f 34 = (Value.int .i64 ((a0.Doors.length : Int))) := ((hA6.2.2.2.2.1 _ rfl).1 _ rfl).trans (hA6.2.2.2.2.1 _ rfl).2
      refine opg_plain rfl rfl (op_rem (a := a2.Door) (b := (a0.Doors.length : Int)) rfl q6 q9 hx9 ?_)
      refine ⟨_, _, rfl, PH.Le.refl _, ?_, ?_⟩
      · exact rfl
      · exact I19
    · intro vs7 f w17 S9 X7 le9 hA7 hK7 hI7
      have I20 : Inv w17 S9 (X7) := hI7
      refine opg_plain rfl rfl (op_fieldAddr_t (v := (Value.pointer (some ⟨g1, 0, none⟩))) rfl fa24_1 ((hK7 3 (keep_of rfl)).trans e12) ((p1.mono (le2.trans le9)).at_ I20) ?_)
      refine ⟨_, _, rfl, PH.Le.refl _, ?_, ?_⟩
      · exact rfl
      · exact I20
    · intro vs8 f w18 S10 X8 le10 hA8 hK8 hI8
      have I21 : Inv w18 S10 (X8) := hI8
      have q10 : f 36 = (fieldPtr (Value.pointer (some ⟨g1, 0, none⟩)) 1) := ((hA8.1 _ rfl).1 _ rfl).trans (hA8.1 _ rfl).2
      refine opg_plain rfl rfl (op_load (v := (fieldPtr (Value.pointer (some ⟨g1, 0, none⟩)) 1)) (e := a0.Doors) rfl sh22 q10 (((p1.mono (le2.trans le10)).at_ I21).fld Panel.fld1) (fun u11 hu11 => ?_))
      obtain ⟨z10, m10, k10, e17⟩ := rv_form hu11
      subst e17
      refine ⟨_, _, rfl, PH.Le.refl _, ?_, ?_⟩
      · exact hu11
      · exact I21
    · intro vs9 f w19 S11 X9 le11 hA9 hK9 hI9
      have I22 : Inv w19 S11 (X9) := hI9
      have q11 : f 36 = (fieldPtr (Value.pointer (some ⟨g1, 0, none⟩)) 1) := ((hA9.1 _ rfl).1 _ rfl).trans (hA9.1 _ rfl).2
      have q12 : f 37 = vs9 7 := (hA9.2.1 _ rfl).1 _ rfl
      have r6 : RV S11 (vs9 7) a0.Doors := (hA9.2.1 _ rfl).2
      obtain ⟨u12, hu12⟩ : ∃ u, vs9 7 = u := ⟨_, rfl⟩
      rw [hu12] at q12 r6
      obtain ⟨z11, m11, k11, e18⟩ := rv_form r6
      subst e18
      refine opg_plain rfl rfl (op_len_rv rfl Try.underlying22 q12 r6 ?_)
      refine ⟨_, _, rfl, PH.Le.refl _, ?_, ?_⟩
      · exact rfl
      · exact I22
    · intro vs10 f w20 S12 X10 le12 hA10 hK10 hI10
      have I23 : Inv w20 S12 (X10) := hI10
      have q13 : f 30 = (fieldPtr (Value.pointer (some ⟨g2, 0, none⟩)) 1) := ((hA10.1 _ rfl).1 _ rfl).trans (hA10.1 _ rfl).2
      have q14 : f 31 = (Value.int .i64 (a2.Door)) := ((hA10.2.1 _ rfl).1 _ rfl).trans (hA10.2.1 _ rfl).2
      have q15 : f 32 = (fieldPtr (Value.pointer (some ⟨g1, 0, none⟩)) 1) := ((hA10.2.2.1 _ rfl).1 _ rfl).trans (hA10.2.2.1 _ rfl).2
      have q16 : f 33 = vs10 3 := (hA10.2.2.2.1 _ rfl).1 _ rfl
      have r7 : RV S12 (vs10 3) a0.Doors := (hA10.2.2.2.1 _ rfl).2
      obtain ⟨u13, hu13⟩ : ∃ u, vs10 3 = u := ⟨_, rfl⟩
      rw [hu13] at q16 r7
      obtain ⟨z12, m12, k12, e19⟩ := rv_form r7
      subst e19
      have q17 : f 34 = (Value.int .i64 ((a0.Doors.length : Int))) := ((hA10.2.2.2.2.1 _ rfl).1 _ rfl).trans (hA10.2.2.2.2.1 _ rfl).2
      have q18 : f 35 = (Value.int .i64 (x9)) := ((hA10.2.2.2.2.2.1 _ rfl).1 _ rfl).trans (hA10.2.2.2.2.2.1 _ rfl).2
      have q19 : f 36 = (fieldPtr (Value.pointer (some ⟨g1, 0, none⟩)) 1) := ((hA10.2.2.2.2.2.2.1 _ rfl).1 _ rfl).trans (hA10.2.2.2.2.2.2.1 _ rfl).2
      have q20 : f 37 = vs10 7 := (hA10.2.2.2.2.2.2.2.1 _ rfl).1 _ rfl
      have r8 : RV S12 (vs10 7) a0.Doors := (hA10.2.2.2.2.2.2.2.1 _ rfl).2
      obtain ⟨u14, hu14⟩ : ∃ u, vs10 7 = u := ⟨_, rfl⟩
      rw [hu14] at q20 r8
      obtain ⟨z13, m13, k13, e20⟩ := rv_form r8
      subst e20
      have q21 : f 38 = (Value.int .i64 ((a0.Doors.length : Int))) := ((hA10.2.2.2.2.2.2.2.2.1 _ rfl).1 _ rfl).trans (hA10.2.2.2.2.2.2.2.2.1 _ rfl).2
      refine opg_plain rfl rfl (op_add (a := x9) (b := (a0.Doors.length : Int)) rfl q18 q21 ?_)
      refine ⟨_, _, rfl, PH.Le.refl _, ?_, ?_⟩
      · exact rfl
      · exact I23
    · intro vs11 f w21 S13 X11 le13 hA11 hK11 hI11
      have I24 : Inv w21 S13 (X11) := hI11
      refine opg_plain rfl rfl (op_fieldAddr_t (v := (Value.pointer (some ⟨g1, 0, none⟩))) rfl fa24_1 ((hK11 3 (keep_of rfl)).trans e12) ((p1.mono (le2.trans le13)).at_ I24) ?_)
      refine ⟨_, _, rfl, PH.Le.refl _, ?_, ?_⟩
      · exact rfl
      · exact I24
    · intro vs12 f w22 S14 X12 le14 hA12 hK12 hI12
      have I25 : Inv w22 S14 (X12) := hI12
      have q22 : f 40 = (fieldPtr (Value.pointer (some ⟨g1, 0, none⟩)) 1) := ((hA12.1 _ rfl).1 _ rfl).trans (hA12.1 _ rfl).2
      refine opg_plain rfl rfl (op_load (v := (fieldPtr (Value.pointer (some ⟨g1, 0, none⟩)) 1)) (e := a0.Doors) rfl sh22 q22 (((p1.mono (le2.trans le14)).at_ I25).fld Panel.fld1) (fun u15 hu15 => ?_))
      obtain ⟨z14, m14, k14, e21⟩ := rv_form hu15
      subst e21
      refine ⟨_, _, rfl, PH.Le.refl _, ?_, ?_⟩
      · exact hu15
      · exact I25
    · intro vs13 f w23 S15 X13 le15 hA13 hK13 hI13
      have I26 : Inv w23 S15 (X13) := hI13
      have q23 : f 40 = (fieldPtr (Value.pointer (some ⟨g1, 0, none⟩)) 1) := ((hA13.1 _ rfl).1 _ rfl).trans (hA13.1 _ rfl).2
      have q24 : f 41 = vs13 11 := (hA13.2.1 _ rfl).1 _ rfl
      have r9 : RV S15 (vs13 11) a0.Doors := (hA13.2.1 _ rfl).2
      obtain ⟨u16, hu16⟩ : ∃ u, vs13 11 = u := ⟨_, rfl⟩
      rw [hu16] at q24 r9
      obtain ⟨z15, m15, k15, e22⟩ := rv_form r9
      subst e22
      refine opg_plain rfl rfl (op_len_rv rfl Try.underlying22 q24 r9 ?_)
      refine ⟨_, _, rfl, PH.Le.refl _, ?_, ?_⟩
      · exact rfl
      · exact I26
    · intro vs14 f w24 S16 X14 le16 hA14 hK14 hI14
      have I27 : Inv w24 S16 (X14) := hI14
      have q25 : f 30 = (fieldPtr (Value.pointer (some ⟨g2, 0, none⟩)) 1) := ((hA14.1 _ rfl).1 _ rfl).trans (hA14.1 _ rfl).2
      have q26 : f 31 = (Value.int .i64 (a2.Door)) := ((hA14.2.1 _ rfl).1 _ rfl).trans (hA14.2.1 _ rfl).2
      have q27 : f 32 = (fieldPtr (Value.pointer (some ⟨g1, 0, none⟩)) 1) := ((hA14.2.2.1 _ rfl).1 _ rfl).trans (hA14.2.2.1 _ rfl).2
      have q28 : f 33 = vs14 3 := (hA14.2.2.2.1 _ rfl).1 _ rfl
      have r10 : RV S16 (vs14 3) a0.Doors := (hA14.2.2.2.1 _ rfl).2
      obtain ⟨u17, hu17⟩ : ∃ u, vs14 3 = u := ⟨_, rfl⟩
      rw [hu17] at q28 r10
      obtain ⟨z16, m16, k16, e23⟩ := rv_form r10
      subst e23
      have q29 : f 34 = (Value.int .i64 ((a0.Doors.length : Int))) := ((hA14.2.2.2.2.1 _ rfl).1 _ rfl).trans (hA14.2.2.2.2.1 _ rfl).2
      have q30 : f 35 = (Value.int .i64 (x9)) := ((hA14.2.2.2.2.2.1 _ rfl).1 _ rfl).trans (hA14.2.2.2.2.2.1 _ rfl).2
      have q31 : f 36 = (fieldPtr (Value.pointer (some ⟨g1, 0, none⟩)) 1) := ((hA14.2.2.2.2.2.2.1 _ rfl).1 _ rfl).trans (hA14.2.2.2.2.2.2.1 _ rfl).2
      have q32 : f 37 = vs14 7 := (hA14.2.2.2.2.2.2.2.1 _ rfl).1 _ rfl
      have r11 : RV S16 (vs14 7) a0.Doors := (hA14.2.2.2.2.2.2.2.1 _ rfl).2
      obtain ⟨u18, hu18⟩ : ∃ u, vs14 7 = u := ⟨_, rfl⟩
      rw [hu18] at q32 r11
      obtain ⟨z17, m17, k17, e24⟩ := rv_form r11
      subst e24
      have q33 : f 38 = (Value.int .i64 ((a0.Doors.length : Int))) := ((hA14.2.2.2.2.2.2.2.2.1 _ rfl).1 _ rfl).trans (hA14.2.2.2.2.2.2.2.2.1 _ rfl).2
      have q34 : f 39 = (Value.int .i64 (w64 (x9 + (a0.Doors.length : Int)))) := ((hA14.2.2.2.2.2.2.2.2.2.1 _ rfl).1 _ rfl).trans (hA14.2.2.2.2.2.2.2.2.2.1 _ rfl).2
      have q35 : f 40 = (fieldPtr (Value.pointer (some ⟨g1, 0, none⟩)) 1) := ((hA14.2.2.2.2.2.2.2.2.2.2.1 _ rfl).1 _ rfl).trans (hA14.2.2.2.2.2.2.2.2.2.2.1 _ rfl).2
      have q36 : f 41 = vs14 11 := (hA14.2.2.2.2.2.2.2.2.2.2.2.1 _ rfl).1 _ rfl
      have r12 : RV S16 (vs14 11) a0.Doors := (hA14.2.2.2.2.2.2.2.2.2.2.2.1 _ rfl).2
      obtain ⟨u19, hu19⟩ : ∃ u, vs14 11 = u := ⟨_, rfl⟩
      rw [hu19] at q36 r12
      obtain ⟨z18, m18, k18, e25⟩ := rv_form r12
      subst e25
      have q37 : f 42 = (Value.int .i64 ((a0.Doors.length : Int))) := ((hA14.2.2.2.2.2.2.2.2.2.2.2.2.1 _ rfl).1 _ rfl).trans (hA14.2.2.2.2.2.2.2.2.2.2.2.2.1 _ rfl).2
      refine opg_plain rfl rfl (op_rem (a := w64 (x9 + (a0.Doors.length : Int))) (b := (a0.Doors.length : Int)) rfl q34 q37 hx10 ?_)
      refine ⟨_, _, rfl, PH.Le.refl _, ?_, ?_⟩
      · exact rfl
      · exact I27
    · intro vs15 f w25 S17 X15 le17 hA15 hK15 hI15
      have I28 : Inv w25 S17 (X15) := hI15
      have q38 : f 30 = (fieldPtr (Value.pointer (some ⟨g2, 0, none⟩)) 1) := ((hA15.1 _ rfl).1 _ rfl).trans (hA15.1 _ rfl).2
      have q39 : f 31 = (Value.int .i64 (a2.Door)) := ((hA15.2.1 _ rfl).1 _ rfl).trans (hA15.2.1 _ rfl).2
      have q40 : f 32 = (fieldPtr (Value.pointer (some ⟨g1, 0, none⟩)) 1) := ((hA15.2.2.1 _ rfl).1 _ rfl).trans (hA15.2.2.1 _ rfl).2
      have q41 : f 33 = vs15 3 := (hA15.2.2.2.1 _ rfl).1 _ rfl
      have r13 : RV S17 (vs15 3) a0.Doors := (hA15.2.2.2.1 _ rfl).2
      obtain ⟨u20, hu20⟩ : ∃ u, vs15 3 = u := ⟨_, rfl⟩
      rw [hu20] at q41 r13
      obtain ⟨z19, m19, k19, e26⟩ := rv_form r13
      subst e26
      have q42 : f 34 = (Value.int .i64 ((a0.Doors.length : Int))) := ((hA15.2.2.2.2.1 _ rfl).1 _ rfl).trans (hA15.2.2.2.2.1 _ rfl).2
      have q43 : f 35 = (Value.int .i64 (x9)) := ((hA15.2.2.2.2.2.1 _ rfl).1 _ rfl).trans (hA15.2.2.2.2.2.1 _ rfl).2
      have q44 : f 36 = (fieldPtr (Value.pointer (some ⟨g1, 0, none⟩)) 1) := ((hA15.2.2.2.2.2.2.1 _ rfl).1 _ rfl).trans (hA15.2.2.2.2.2.2.1 _ rfl).2
      have q45 : f 37 = vs15 7 := (hA15.2.2.2.2.2.2.2.1 _ rfl).1 _ rfl
      have r14 : RV S17 (vs15 7) a0.Doors := (hA15.2.2.2.2.2.2.2.1 _ rfl).2
      obtain ⟨u21, hu21⟩ : ∃ u, vs15 7 = u := ⟨_, rfl⟩
      rw [hu21] at q45 r14
      obtain ⟨z20, m20, k20, e27⟩ := rv_form r14
      subst e27
      have q46 : f 38 = (Value.int .i64 ((a0.Doors.length : Int))) := ((hA15.2.2.2.2.2.2.2.2.1 _ rfl).1 _ rfl).trans (hA15.2.2.2.2.2.2.2.2.1 _ rfl).2
      have q47 : f 39 = (Value.int .i64 (w64 (x9 + (a0.Doors.length : Int)))) := ((hA15.2.2.2.2.2.2.2.2.2.1 _ rfl).1 _ rfl).trans (hA15.2.2.2.2.2.2.2.2.2.1 _ rfl).2
      have q48 : f 40 = (fieldPtr (Value.pointer (some ⟨g1, 0, none⟩)) 1) := ((hA15.2.2.2.2.2.2.2.2.2.2.1 _ rfl).1 _ rfl).trans (hA15.2.2.2.2.2.2.2.2.2.2.1 _ rfl).2
      have q49 : f 41 = vs15 11 := (hA15.2.2.2.2.2.2.2.2.2.2.2.1 _ rfl).1 _ rfl
      have r15 : RV S17 (vs15 11) a0.Doors := (hA15.2.2.2.2.2.2.2.2.2.2.2.1 _ rfl).2
      obtain ⟨u22, hu22⟩ : ∃ u, vs15 11 = u := ⟨_, rfl⟩
      rw [hu22] at q49 r15
      obtain ⟨z21, m21, k21, e28⟩ := rv_form r15
      subst e28
      have q50 : f 42 = (Value.int .i64 ((a0.Doors.length : Int))) := ((hA15.2.2.2.2.2.2.2.2.2.2.2.2.1 _ rfl).1 _ rfl).trans (hA15.2.2.2.2.2.2.2.2.2.2.2.2.1 _ rfl).2
      have q51 : f 43 = (Value.int .i64 (x10)) := ((hA15.2.2.2.2.2.2.2.2.2.2.2.2.2.1 _ rfl).1 _ rfl).trans (hA15.2.2.2.2.2.2.2.2.2.2.2.2.2.1 _ rfl).2
      refine opg_plain rfl rfl (op_assign (v := (Value.int .i64 (x10))) rfl q51 ?_)
      refine ⟨_, _, rfl, PH.Le.refl _, ?_, ?_⟩
      · exact rfl
      · exact I28
    · intro vs16 f w26 S18 le18 hF1 hK16 hI16
      have e29 : f 1 = (Value.slice z2 m2 k2) := (hK16 1 (keep_all rfl)).trans e11
      have e30 : f 3 = (Value.pointer (some ⟨g1, 0, none⟩)) := (hK16 3 (keep_all rfl)).trans e12
      have e31 : f 5 = (Value.pointer (some ⟨g2, 0, none⟩)) := (hK16 5 (keep_all rfl)).trans e13
      have I29 : Inv w26 S18 (Fr) := hI16
      have q52 : f 30 = (fieldPtr (Value.pointer (some ⟨g2, 0, none⟩)) 1) := ((hF1.1 _ rfl).1 _ rfl).trans (hF1.1 _ rfl).2
      have q53 : f 31 = (Value.int .i64 (a2.Door)) := ((hF1.2.1 _ rfl).1 _ rfl).trans (hF1.2.1 _ rfl).2
      have q54 : f 32 = (fieldPtr (Value.pointer (some ⟨g1, 0, none⟩)) 1) := ((hF1.2.2.1 _ rfl).1 _ rfl).trans (hF1.2.2.1 _ rfl).2
      have q55 : f 33 = vs16 3 := (hF1.2.2.2.1 _ rfl).1 _ rfl
      have r16 : RV S18 (vs16 3) a0.Doors := (hF1.2.2.2.1 _ rfl).2
      obtain ⟨u23, hu23⟩ : ∃ u, vs16 3 = u := ⟨_, rfl⟩
      rw [hu23] at q55 r16
      obtain ⟨z22, m22, k22, e32⟩ := rv_form r16
      subst e32
      have q56 : f 34 = (Value.int .i64 ((a0.Doors.length : Int))) := ((hF1.2.2.2.2.1 _ rfl).1 _ rfl).trans (hF1.2.2.2.2.1 _ rfl).2
      have q57 : f 35 = (Value.int .i64 (x9)) := ((hF1.2.2.2.2.2.1 _ rfl).1 _ rfl).trans (hF1.2.2.2.2.2.1 _ rfl).2
      have q58 : f 36 = (fieldPtr (Value.pointer (some ⟨g1, 0, none⟩)) 1) := ((hF1.2.2.2.2.2.2.1 _ rfl).1 _ rfl).trans (hF1.2.2.2.2.2.2.1 _ rfl).2
      have q59 : f 37 = vs16 7 := (hF1.2.2.2.2.2.2.2.1 _ rfl).1 _ rfl
      have r17 : RV S18 (vs16 7) a0.Doors := (hF1.2.2.2.2.2.2.2.1 _ rfl).2
      obtain ⟨u24, hu24⟩ : ∃ u, vs16 7 = u := ⟨_, rfl⟩
      rw [hu24] at q59 r17
      obtain ⟨z23, m23, k23, e33⟩ := rv_form r17
      subst e33
      have q60 : f 38 = (Value.int .i64 ((a0.Doors.length : Int))) := ((hF1.2.2.2.2.2.2.2.2.1 _ rfl).1 _ rfl).trans (hF1.2.2.2.2.2.2.2.2.1 _ rfl).2
      have q61 : f 39 = (Value.int .i64 (w64 (x9 + (a0.Doors.length : Int)))) := ((hF1.2.2.2.2.2.2.2.2.2.1 _ rfl).1 _ rfl).trans (hF1.2.2.2.2.2.2.2.2.2.1 _ rfl).2
      have q62 : f 40 = (fieldPtr (Value.pointer (some ⟨g1, 0, none⟩)) 1) := ((hF1.2.2.2.2.2.2.2.2.2.2.1 _ rfl).1 _ rfl).trans (hF1.2.2.2.2.2.2.2.2.2.2.1 _ rfl).2
      have q63 : f 41 = vs16 11 := (hF1.2.2.2.2.2.2.2.2.2.2.2.1 _ rfl).1 _ rfl
      have r18 : RV S18 (vs16 11) a0.Doors := (hF1.2.2.2.2.2.2.2.2.2.2.2.1 _ rfl).2
      obtain ⟨u25, hu25⟩ : ∃ u, vs16 11 = u := ⟨_, rfl⟩
      rw [hu25] at q63 r18
      obtain ⟨z24, m24, k24, e34⟩ := rv_form r18
      subst e34
      have q64 : f 42 = (Value.int .i64 ((a0.Doors.length : Int))) := ((hF1.2.2.2.2.2.2.2.2.2.2.2.2.1 _ rfl).1 _ rfl).trans (hF1.2.2.2.2.2.2.2.2.2.2.2.2.1 _ rfl).2
      have q65 : f 43 = (Value.int .i64 (x10)) := ((hF1.2.2.2.2.2.2.2.2.2.2.2.2.2.1 _ rfl).1 _ rfl).trans (hF1.2.2.2.2.2.2.2.2.2.2.2.2.2.1 _ rfl).2
      have q66 : f 7 = (Value.int .i64 (x10)) := ((hF1.2.2.2.2.2.2.2.2.2.2.2.2.2.2.1 _ rfl).1 _ rfl).trans (hF1.2.2.2.2.2.2.2.2.2.2.2.2.2.2.1 _ rfl).2
      refine wp_seq' ?_
      refine wp_region' ?_
      refine wl_op rfl (op_fieldAddr_t (v := (Value.pointer (some ⟨g2, 0, none⟩))) rfl fa27_0 e31 ((p2.mono le18).at_ I29) ?_)
      refine wl_op rfl (op_load_int (v := (fieldPtr (Value.pointer (some ⟨g2, 0, none⟩)) 0)) (e := a2.Ticks) rfl sh3 rfl (((p2.mono le18).at_ I29).fld Law08_Where.fld0) ?_)
      obtain ⟨x11, hx11, h⟩ := bnd h
      refine wl_op rfl (op_rem (a := a2.Ticks) (b := 10) rfl rfl rfl hx11 ?_)
      refine wl_op rfl (op_add (a := x11) (b := 10) rfl rfl rfl ?_)
      obtain ⟨x12, hx12, h⟩ := bnd h
      refine wl_op rfl (op_rem (a := w64 (x11 + 10)) (b := 10) rfl rfl rfl hx12 ?_)
      refine wl_op rfl (op_assign (v := (Value.int .i64 (x12))) rfl rfl ?_)
      refine wl_nil ?_
      refine wp_seq' ?_
      refine wp_region' ?_
      refine wl_op rfl (op_fieldAddr_t (v := (Value.pointer (some ⟨g1, 0, none⟩))) rfl fa24_1 e30 ((p1.mono (le2.trans le18)).at_ I29) ?_)
      refine wl_op rfl (op_load (v := (fieldPtr (Value.pointer (some ⟨g1, 0, none⟩)) 1)) (e := a0.Doors) rfl sh22 rfl (((p1.mono (le2.trans le18)).at_ I29).fld Panel.fld1) (fun u26 hu26 => ?_))
      obtain ⟨z25, m25, k25, e35⟩ := rv_form hu26
      subst e35
      refine wl_op rfl (op_move (v := (Value.int .i64 (x10))) rfl q66 ?_)
      obtain ⟨x13, hx13, h⟩ := bnd h
      refine wl_op rfl (op_indexAddr_rv (v := (Value.slice z25 m25 k25)) (i := x10) (e := x13) rfl Try.underlying22 sh33 rfl hu26 rfl hx13 ?_)
      refine wl_op rfl (op_fieldAddr_t (v := (elemPtr (Value.slice z25 m25 k25) (x10) (Enc.sz Gate))) rfl fa33_0 rfl (hu26.elem I29.in_ hx13) ?_)
      refine wl_op rfl (op_load_int (v := (fieldPtr (elemPtr (Value.slice z25 m25 k25) (x10) (Enc.sz Gate)) 0)) (e := x13.Wait) rfl sh3 rfl ((hu26.elem I29.in_ hx13).fld Gate.fld0) ?_)
      refine wl_op rfl (op_assign (v := (Value.int .i64 (x13.Wait))) rfl rfl ?_)
      refine wl_nil ?_
      refine wp_seq' ?_
      refine wp_region' ?_
      refine wl_op rfl (op_assign (v := (Value.slice none 0 0)) rfl rfl ?_)
      refine wl_nil ?_
      refine wp_seq' ?_
      refine wp_seq' ?_
      refine wp_region' ?_
      refine wl_op rfl (op_move (v := (Value.int .i64 (x12))) rfl rfl ?_)
      refine wl_op rfl (op_assign (v := (Value.int .i64 (x12))) rfl rfl ?_)
      refine wl_nil ?_
      have I50 := Inv.rowNil (α := Int) (T := 3) I29
      obtain ⟨out1, hrun1, h⟩ := bnd h
      refine wp_cutN (fun f w => ∃ (z43 : Option Addr) (m43 k43 : Nat), Inv w S18 (Row (α := Int) 3 (Value.slice z43 m43 k43) (out1.1) :: Fr) ∧ f 1 = (Value.slice z2 m2 k2) ∧ f 3 = (Value.pointer (some ⟨g1, 0, none⟩)) ∧ f 7 = (Value.int .i64 (x10)) ∧ f 8 = (Value.int .i64 (x12)) ∧ f 9 = (Value.int .i64 (x13.Wait)) ∧ f 10 = (Value.slice z43 m43 k43) ∧ f 11 = (Value.int .i64 (out1.2))) ?_ ?_
      · refine wp_block' ?_
        refine wp_whileO (I := fun (s1 : (List Int × Int)) (f : Frm) (w : World) => ∃ (z42 : Option Addr) (m42 k42 : Nat), Inv w S18 (Row (α := Int) 3 (Value.slice z42 m42 k42) (s1.1) :: Fr) ∧ f 1 = (Value.slice z2 m2 k2) ∧ f 3 = (Value.pointer (some ⟨g1, 0, none⟩)) ∧ f 7 = (Value.int .i64 (x10)) ∧ f 8 = (Value.int .i64 (x12)) ∧ f 9 = (Value.int .i64 (x13.Wait)) ∧ f 10 = (Value.slice z42 m42 k42) ∧ f 11 = (Value.int .i64 (s1.2))) hrun1 ⟨_, _, _, I50, e29, e30, q66, rfl, rfl, rfl, rfl⟩ ?_
        rintro s1 f w o1 hI17 h4 hout1
        obtain ⟨z42, m42, k42, I51, e90, e91, e92, e93, e94, e95, e96⟩ := hI17
        refine wp_seq' ?_
        refine wp_seq' ?_
        refine wp_region' ?_
        refine wl_op rfl (op_move (v := (Value.int .i64 (s1.2))) rfl e96 ?_)
        refine wl_op rfl (op_move (v := (Value.int .i64 (x12))) rfl e93 ?_)
        refine wl_op rfl (op_move (v := (Value.int .i64 (x13.Wait))) rfl e94 ?_)
        refine wl_op rfl (op_add (a := x12) (b := x13.Wait) rfl rfl rfl ?_)
        refine wl_op rfl (op_lss (a := s1.2) (b := w64 (x12 + x13.Wait)) rfl rfl rfl ?_)
        refine wl_nil ?_
        rcases ifs h4 with ⟨hc13, h4⟩ | ⟨hc13, h4⟩
        · refine wp_cond_t (b := decide (s1.2 < (w64 (x12 + x13.Wait)))) rfl hc13 ?_
          refine wp_skip' ?_
          refine wp_seq' ?_
          refine wp_block' ?_
          refine wp_region' ?_
          refine wl_op rfl (op_move (v := (Value.slice z42 m42 k42)) rfl e95 ?_)
          refine wl_op rfl (op_move (v := (Value.int .i64 (s1.2))) rfl e96 ?_)
          refine wl_op rfl (op_buildSlice (vs := [(Value.int .i64 (s1.2))]) (r := ([s1.2] : List Int)) rfl Try.underlying34 el3 (parts1 rfl) rfl (by decide) (by decide) ⟨(rv_int' _), trivial⟩ I51 (fun u39 w39 I52 => ?_))
          obtain ⟨z44, m44, k44, e97⟩ := row_form I52
          subst e97
          obtain ⟨x20, hx20, h4⟩ := bnd h4
          refine wl_op rfl (op_append (α := Int) (v := (Value.slice z42 m42 k42)) (u := (Value.slice z44 m44 k44)) rfl rfl Try.underlying34 el3 (by decide) (by decide) rfl rfl (I52.pull 1) (Inv.rowSrc (I52.nth 0 rfl)) hx20 (fun u40 w40 I53 => ?_))
          obtain ⟨z45, m45, k45, e98⟩ := row_form I53
          subst e98
          refine wl_op rfl (op_assign (v := (Value.slice z45 m45 k45)) rfl rfl ?_)
          refine wl_nil ?_
          refine wp_region' ?_
          refine wl_op rfl (op_move (v := (Value.int .i64 (s1.2))) rfl e96 ?_)
          refine wl_op rfl (op_add (a := s1.2) (b := 1) rfl rfl rfl ?_)
          refine wl_op rfl (op_assign (v := (Value.int .i64 (w64 (s1.2 + 1)))) rfl rfl ?_)
          refine wl_nil ?_
          obtain rfl := Option.some.inj h4
          exact ⟨_, rfl, _, _, _, (I53.pull 1).drop, e90, e91, e92, e93, e94, rfl, rfl⟩
        · refine wp_cond_f (b := decide (s1.2 < (w64 (x12 + x13.Wait)))) rfl hc13 ?_
          refine wp_exit' ?_
          obtain rfl := Option.some.inj h4
          obtain rfl := (hout1 _ rfl)
          exact ⟨_, _, _, I51, e90, e91, e92, e93, e94, e95, e96⟩
      · rintro f w ⟨z43, m43, k43, I54, e99, e100, e101, e102, e103, e104, e105⟩
        refine wp_seq' ?_
        refine wp_region' ?_
        refine wl_op rfl (op_move (v := (Value.int .i64 (x12))) rfl e102 ?_)
        refine wl_op rfl (op_move (v := (Value.int .i64 (x13.Wait))) rfl e103 ?_)
        refine wl_op rfl (op_add (a := x12) (b := x13.Wait) rfl rfl rfl ?_)
        refine wl_op rfl (op_assign (v := (Value.int .i64 (w64 (x12 + x13.Wait)))) rfl rfl ?_)
        refine wl_nil ?_
        refine wp_seq' ?_
        obtain ⟨x21, hx21, h⟩ := bnd h
        obtain ⟨x22, hx22, h⟩ := bnd h
        refine wp_draw (sps := [⟨some 71, [], [0], fun vs_ T_ => RV T_ (fr0 vs_ 0) a0, [], [], [], fun hle_ h_ => h_.mono hle_⟩, ⟨some 72, [], [1], fun vs_ T_ => fr0 vs_ 0 = (Value.int .i64 (w64 (x12 + x13.Wait))), [], [], [], fun _ h_ => h_⟩, ⟨some 73, [], [2], fun vs_ T_ => fr0 vs_ 0 = (Value.slice z2 m2 k2), [], [], [], fun _ h_ => h_⟩, ⟨some 74, [], [3], fun vs_ T_ => fr0 vs_ 0 = (Value.int .i64 (x10)), [], [], [], fun _ h_ => h_⟩, ⟨some 75, [], [4], fun vs_ T_ => fr0 vs_ 0 = (Value.slice z43 m43 k43), [], [], [], fun _ h_ => h_⟩, ⟨some 76, [2, 3, 4], [5], fun vs_ T_ => ∃ (a0_ : Option Addr) (n0_ k0_ : Nat), fr0 vs_ 0 = (Value.slice a0_ n0_ k0_), [], [0], [1], fun _ h_ => h_⟩, ⟨some 77, [0, 1, 2, 3, 4, 5], [6], fun vs_ T_ => ∃ (a0_ : Option Addr) (n0_ k0_ : Nat), fr0 vs_ 0 = (Value.tuple #[(Value.slice a0_ n0_ k0_), (Value.int .i64 (x22.2))]), [], [1], [2], fun _ h_ => h_⟩, ⟨some 70, [0, 1, 2, 3, 4, 5, 6], [7, 6], fun vs_ T_ => fr0 vs_ 0 = (Value.tuple #[(tupAt (fr0 vs_ 1) 0), (Value.int .i64 (x22.2))]), [], [], [], fun _ h_ => h_⟩, ⟨some 78, [0, 1, 2, 3, 4, 5, 6, 7], [8, 6], fun vs_ T_ => fr0 vs_ 0 = (tupAt (fr0 vs_ 1) 0), [], [], [], fun _ h_ => h_⟩, ⟨some 79, [0, 1, 2, 3, 4, 5, 6, 7], [9], fun vs_ T_ => fr0 vs_ 0 = (Value.int .i64 (x22.2)), [], [], [], fun _ h_ => h_⟩, ⟨some 13, [0, 1, 2, 3, 4, 5, 6, 7, 8], [10, 6], fun vs_ T_ => fr0 vs_ 0 = (tupAt (fr0 vs_ 1) 0), [], [], [], fun _ h_ => h_⟩, ⟨some 14, [0, 1, 2, 3, 4, 5, 6, 7, 8, 9, 10], [11], fun vs_ T_ => fr0 vs_ 0 = (Value.int .i64 (x22.2)), [], [], [], fun _ h_ => h_⟩]) (tks := [⟨none, some 5, [], fun vs_ => Row (α := Int) 3 (Value.slice z43 m43 k43) (out1.1)⟩, ⟨some 5, some 6, [5], fun vs_ => Row (α := Signal) 46 (fr0 vs_ 0) (x21)⟩, ⟨some 6, none, [6], fun vs_ => Row (α := Int) 3 (tupAt (fr0 vs_ 0) 0) (x22.1)⟩]) (O := Fr) rfl (by kernel_rfl) I54 ⟨?_, ?_, ?_, ?_, ?_, ?_, ?_, ?_, ?_, ?_, ?_, ?_, trivial⟩ ?_
        · intro vs17 f w41 S19 X16 le19 hA16 hK17 hI18
          have I55 : Inv w41 S19 (X16) := hI18
          refine opg_plain rfl rfl (op_load (v := (Value.pointer (some ⟨g1, 0, none⟩))) (e := a0) rfl sh24 ((hK17 3 (keep_of rfl)).trans e100) ((p1.mono ((le2.trans le18).trans le19)).at_ I55) (fun u42 hu28 => ?_))
          obtain ⟨c4, e106, r19⟩ := Panel.inv hu28
          subst e106
          obtain ⟨z46, m46, k46, e107⟩ := rv_form r19
          subst e107
          refine ⟨_, _, rfl, PH.Le.refl _, ?_, ?_⟩
          · exact (Panel.rv (s := a0) r19)
          · exact I55
        · intro vs18 f w42 S20 X17 le20 hA17 hK18 hI19
          have I56 : Inv w42 S20 (X17) := hI19
          refine opg_plain rfl rfl (op_move (v := (Value.int .i64 (w64 (x12 + x13.Wait)))) rfl (hK18 12 (keep_of rfl)) ?_)
          refine ⟨_, _, rfl, PH.Le.refl _, ?_, ?_⟩
          · exact rfl
          · exact I56
        · intro vs19 f w43 S21 X18 le21 hA18 hK19 hI20
          have I57 : Inv w43 S21 (X18) := hI20
          refine opg_plain rfl rfl (op_move (v := (Value.slice z2 m2 k2)) rfl ((hK19 1 (keep_of rfl)).trans e99) ?_)
          refine ⟨_, _, rfl, PH.Le.refl _, ?_, ?_⟩
          · exact rfl
          · exact I57
        · intro vs20 f w44 S22 X19 le22 hA19 hK20 hI21
          have I58 : Inv w44 S22 (X19) := hI21
          refine opg_plain rfl rfl (op_move (v := (Value.int .i64 (x10))) rfl ((hK20 7 (keep_of rfl)).trans e101) ?_)
          refine ⟨_, _, rfl, PH.Le.refl _, ?_, ?_⟩
          · exact rfl
          · exact I58
        · intro vs21 f w45 S23 X20 le23 hA20 hK21 hI22
          have I59 : Inv w45 S23 (X20) := hI22
          refine opg_plain rfl rfl (op_move (v := (Value.slice z43 m43 k43)) rfl ((hK21 10 (keep_of rfl)).trans e104) ?_)
          refine ⟨_, _, rfl, PH.Le.refl _, ?_, ?_⟩
          · exact rfl
          · exact I59
        · intro vs22 f w46 S24 X21 le24 hA21 hK22 hI23
          have I60 : Inv w46 S24 (Row (α := Int) 3 (Value.slice z43 m43 k43) (out1.1) :: X21) := hI23
          have q67 : f 73 = (Value.slice z2 m2 k2) := ((hA21.1 _ rfl).1 _ rfl).trans (hA21.1 _ rfl).2
          have q68 : f 74 = (Value.int .i64 (x10)) := ((hA21.2.1 _ rfl).1 _ rfl).trans (hA21.2.1 _ rfl).2
          have q69 : f 75 = (Value.slice z43 m43 k43) := ((hA21.2.2.1 _ rfl).1 _ rfl).trans (hA21.2.2.1 _ rfl).2
          obtain ⟨S25, Fr1, le25, I61, r20, bk1⟩ := Inv.lend1 I60
          refine opg_plain rfl rfl (op_call (vs := [(Value.slice z2 m2 k2), (Value.int .i64 (x10)), (Value.slice z43 m43 k43)]) rfl ca18 rfl (args3 q67 q68 q69) (F18_ok I61 (h1_.mono ((((le1.trans le2).trans le18).trans le24).trans le25)) r20 hx21) (fun v2 w47 S26 O1 le26 I63 hv1 => ?_))
          obtain ⟨z47, m47, k47, rfl, rfl⟩ := hv1
          have I62 := bk1 [Row (α := Signal) 46 (Value.slice z47 m47 k47) (x21)] ⟨Row.free, trivial⟩ I63 le26
          refine ⟨_, _, rfl, PH.Le.refl _, ?_, ?_⟩
          · exact ⟨_, _, _, rfl⟩
          · exact (I62.pull 1).drop
        · intro vs23 f w48 S27 X22 le27 hA22 hK23 hI24
          have I64 : Inv w48 S27 (Row (α := Signal) 46 (vs23 5) (x21) :: X22) := hI24
          have q70 : f 71 = vs23 0 := (hA22.1 _ rfl).1 _ rfl
          have r21 : RV S27 (vs23 0) a0 := (hA22.1 _ rfl).2
          obtain ⟨u43, hu29⟩ : ∃ u, vs23 0 = u := ⟨_, rfl⟩
          rw [hu29] at q70 r21
          obtain ⟨c5, e108, r22⟩ := Panel.inv r21
          subst e108
          obtain ⟨z48, m48, k48, e109⟩ := rv_form r22
          subst e109
          have q71 : f 72 = (Value.int .i64 (w64 (x12 + x13.Wait))) := ((hA22.2.1 _ rfl).1 _ rfl).trans (hA22.2.1 _ rfl).2
          have q72 : f 73 = (Value.slice z2 m2 k2) := ((hA22.2.2.1 _ rfl).1 _ rfl).trans (hA22.2.2.1 _ rfl).2
          have q73 : f 74 = (Value.int .i64 (x10)) := ((hA22.2.2.2.1 _ rfl).1 _ rfl).trans (hA22.2.2.2.1 _ rfl).2
          have q74 : f 75 = (Value.slice z43 m43 k43) := ((hA22.2.2.2.2.1 _ rfl).1 _ rfl).trans (hA22.2.2.2.2.1 _ rfl).2
          obtain ⟨z49, m49, k49, e110⟩ := (hA22.2.2.2.2.2.1 _ rfl).2
          have e110 : vs23 5 = (Value.slice z49 m49 k49) := e110
          have q75 : f 76 = (Value.slice z49 m49 k49) := ((hA22.2.2.2.2.2.1 _ rfl).1 _ rfl).trans e110
          have I65 := I64
          rw [e110] at I65
          obtain ⟨S28, Fr2, le28, I66, r23, bk2⟩ := Inv.lend1 I65
          refine opg_plain rfl rfl (op_call (vs := [(Value.agg #[(Value.int .i64 (a0.Sensors)), (Value.slice z48 m48 k48), (Value.int .i64 (a0.Stale)), (Value.int .i64 (a0.Limit))]), (Value.int .i64 (w64 (x12 + x13.Wait))), (Value.slice z49 m49 k49)]) rfl ca17 rfl (args3 q70 q71 q75) (F17_ok I66 (Panel.rv (s := a0) (r22.mono le28)) r23 hx22) (fun v3 w49 S29 O2 le29 I68 hv2 => ?_))
          obtain ⟨z50, m50, k50, rfl, rfl⟩ := hv2
          have I67 := bk2 [Row (α := Int) 3 (Value.slice z50 m50 k50) (x22.1)] ⟨Row.free, trivial⟩ I68 le29
          refine ⟨_, _, rfl, PH.Le.refl _, ?_, ?_⟩
          · exact ⟨_, _, _, rfl⟩
          · exact (I67.pull 1).drop
        · intro vs24 f w50 S30 X23 le30 hA23 hK24 hI25
          have I69 : Inv w50 S30 (X23) := hI25
          have q76 : f 71 = vs24 0 := (hA23.1 _ rfl).1 _ rfl
          have r24 : RV S30 (vs24 0) a0 := (hA23.1 _ rfl).2
          obtain ⟨u44, hu30⟩ : ∃ u, vs24 0 = u := ⟨_, rfl⟩
          rw [hu30] at q76 r24
          obtain ⟨c6, e111, r25⟩ := Panel.inv r24
          subst e111
          obtain ⟨z51, m51, k51, e112⟩ := rv_form r25
          subst e112
          have q77 : f 72 = (Value.int .i64 (w64 (x12 + x13.Wait))) := ((hA23.2.1 _ rfl).1 _ rfl).trans (hA23.2.1 _ rfl).2
          have q78 : f 73 = (Value.slice z2 m2 k2) := ((hA23.2.2.1 _ rfl).1 _ rfl).trans (hA23.2.2.1 _ rfl).2
          have q79 : f 74 = (Value.int .i64 (x10)) := ((hA23.2.2.2.1 _ rfl).1 _ rfl).trans (hA23.2.2.2.1 _ rfl).2
          have q80 : f 75 = (Value.slice z43 m43 k43) := ((hA23.2.2.2.2.1 _ rfl).1 _ rfl).trans (hA23.2.2.2.2.1 _ rfl).2
          obtain ⟨z52, m52, k52, e113⟩ := (hA23.2.2.2.2.2.1 _ rfl).2
          have e113 : vs24 5 = (Value.slice z52 m52 k52) := e113
          have q81 : f 76 = (Value.slice z52 m52 k52) := ((hA23.2.2.2.2.2.1 _ rfl).1 _ rfl).trans e113
          obtain ⟨z53, m53, k53, e114⟩ := (hA23.2.2.2.2.2.2.1 _ rfl).2
          have e114 : vs24 6 = (Value.tuple #[(Value.slice z53 m53 k53), (Value.int .i64 (x22.2))]) := e114
          have q82 : f 77 = (Value.tuple #[(Value.slice z53 m53 k53), (Value.int .i64 (x22.2))]) := ((hA23.2.2.2.2.2.2.1 _ rfl).1 _ rfl).trans e114
          refine opg_plain rfl rfl (op_move (v := (Value.tuple #[(Value.slice z53 m53 k53), (Value.int .i64 (x22.2))])) rfl q82 ?_)
          refine ⟨_, _, rfl, PH.Le.refl _, ?_, ?_⟩
          · show (Value.tuple #[(Value.slice z53 m53 k53), (Value.int .i64 (x22.2))]) = (Value.tuple #[(tupAt (vs24 6) 0), (Value.int .i64 (x22.2))])
            simp only [e114] <;> rfl
          · exact I69
        · intro vs25 f w51 S31 X24 le31 hA24 hK25 hI26
          have I70 : Inv w51 S31 (X24) := hI26
          have q83 : f 71 = vs25 0 := (hA24.1 _ rfl).1 _ rfl
          have r26 : RV S31 (vs25 0) a0 := (hA24.1 _ rfl).2
          obtain ⟨u45, hu31⟩ : ∃ u, vs25 0 = u := ⟨_, rfl⟩
          rw [hu31] at q83 r26
          obtain ⟨c7, e115, r27⟩ := Panel.inv r26
          subst e115
          obtain ⟨z54, m54, k54, e116⟩ := rv_form r27
          subst e116
          have q84 : f 72 = (Value.int .i64 (w64 (x12 + x13.Wait))) := ((hA24.2.1 _ rfl).1 _ rfl).trans (hA24.2.1 _ rfl).2
          have q85 : f 73 = (Value.slice z2 m2 k2) := ((hA24.2.2.1 _ rfl).1 _ rfl).trans (hA24.2.2.1 _ rfl).2
          have q86 : f 74 = (Value.int .i64 (x10)) := ((hA24.2.2.2.1 _ rfl).1 _ rfl).trans (hA24.2.2.2.1 _ rfl).2
          have q87 : f 75 = (Value.slice z43 m43 k43) := ((hA24.2.2.2.2.1 _ rfl).1 _ rfl).trans (hA24.2.2.2.2.1 _ rfl).2
          obtain ⟨z55, m55, k55, e117⟩ := (hA24.2.2.2.2.2.1 _ rfl).2
          have e117 : vs25 5 = (Value.slice z55 m55 k55) := e117
          have q88 : f 76 = (Value.slice z55 m55 k55) := ((hA24.2.2.2.2.2.1 _ rfl).1 _ rfl).trans e117
          obtain ⟨z56, m56, k56, e118⟩ := (hA24.2.2.2.2.2.2.1 _ rfl).2
          have e118 : vs25 6 = (Value.tuple #[(Value.slice z56 m56 k56), (Value.int .i64 (x22.2))]) := e118
          have q89 : f 77 = (Value.tuple #[(Value.slice z56 m56 k56), (Value.int .i64 (x22.2))]) := ((hA24.2.2.2.2.2.2.1 _ rfl).1 _ rfl).trans e118
          have q90 : f 70 = (Value.tuple #[(tupAt (vs25 6) 0), (Value.int .i64 (x22.2))]) := ((hA24.2.2.2.2.2.2.2.1 _ rfl).1 _ rfl).trans (hA24.2.2.2.2.2.2.2.1 _ rfl).2
          simp only [e118] at q90
          have q90 : f 70 = (Value.tuple #[(Value.slice z56 m56 k56), (Value.int .i64 (x22.2))]) := q90
          refine opg_plain rfl rfl (op_extract (v := (Value.slice z56 m56 k56)) rfl q90 rfl ?_)
          refine ⟨_, _, rfl, PH.Le.refl _, ?_, ?_⟩
          · show (Value.slice z56 m56 k56) = (tupAt (vs25 6) 0)
            simp only [e118] <;> rfl
          · exact I70
        · intro vs26 f w52 S32 X25 le32 hA25 hK26 hI27
          have I71 : Inv w52 S32 (X25) := hI27
          have q91 : f 71 = vs26 0 := (hA25.1 _ rfl).1 _ rfl
          have r28 : RV S32 (vs26 0) a0 := (hA25.1 _ rfl).2
          obtain ⟨u46, hu32⟩ : ∃ u, vs26 0 = u := ⟨_, rfl⟩
          rw [hu32] at q91 r28
          obtain ⟨c8, e119, r29⟩ := Panel.inv r28
          subst e119
          obtain ⟨z57, m57, k57, e120⟩ := rv_form r29
          subst e120
          have q92 : f 72 = (Value.int .i64 (w64 (x12 + x13.Wait))) := ((hA25.2.1 _ rfl).1 _ rfl).trans (hA25.2.1 _ rfl).2
          have q93 : f 73 = (Value.slice z2 m2 k2) := ((hA25.2.2.1 _ rfl).1 _ rfl).trans (hA25.2.2.1 _ rfl).2
          have q94 : f 74 = (Value.int .i64 (x10)) := ((hA25.2.2.2.1 _ rfl).1 _ rfl).trans (hA25.2.2.2.1 _ rfl).2
          have q95 : f 75 = (Value.slice z43 m43 k43) := ((hA25.2.2.2.2.1 _ rfl).1 _ rfl).trans (hA25.2.2.2.2.1 _ rfl).2
          obtain ⟨z58, m58, k58, e121⟩ := (hA25.2.2.2.2.2.1 _ rfl).2
          have e121 : vs26 5 = (Value.slice z58 m58 k58) := e121
          have q96 : f 76 = (Value.slice z58 m58 k58) := ((hA25.2.2.2.2.2.1 _ rfl).1 _ rfl).trans e121
          obtain ⟨z59, m59, k59, e122⟩ := (hA25.2.2.2.2.2.2.1 _ rfl).2
          have e122 : vs26 6 = (Value.tuple #[(Value.slice z59 m59 k59), (Value.int .i64 (x22.2))]) := e122
          have q97 : f 77 = (Value.tuple #[(Value.slice z59 m59 k59), (Value.int .i64 (x22.2))]) := ((hA25.2.2.2.2.2.2.1 _ rfl).1 _ rfl).trans e122
          have q98 : f 70 = (Value.tuple #[(tupAt (vs26 6) 0), (Value.int .i64 (x22.2))]) := ((hA25.2.2.2.2.2.2.2.1 _ rfl).1 _ rfl).trans (hA25.2.2.2.2.2.2.2.1 _ rfl).2
          simp only [e122] at q98
          have q98 : f 70 = (Value.tuple #[(Value.slice z59 m59 k59), (Value.int .i64 (x22.2))]) := q98
          refine opg_plain rfl rfl (op_extract (v := (Value.int .i64 (x22.2))) rfl q98 rfl ?_)
          refine ⟨_, _, rfl, PH.Le.refl _, ?_, ?_⟩
          · exact rfl
          · exact I71
        · intro vs27 f w53 S33 X26 le33 hA26 hK27 hI28
          have I72 : Inv w53 S33 (X26) := hI28
          have q99 : f 71 = vs27 0 := (hA26.1 _ rfl).1 _ rfl
          have r30 : RV S33 (vs27 0) a0 := (hA26.1 _ rfl).2
          obtain ⟨u47, hu33⟩ : ∃ u, vs27 0 = u := ⟨_, rfl⟩
          rw [hu33] at q99 r30
          obtain ⟨c9, e123, r31⟩ := Panel.inv r30
          subst e123
          obtain ⟨z60, m60, k60, e124⟩ := rv_form r31
          subst e124
          have q100 : f 72 = (Value.int .i64 (w64 (x12 + x13.Wait))) := ((hA26.2.1 _ rfl).1 _ rfl).trans (hA26.2.1 _ rfl).2
          have q101 : f 73 = (Value.slice z2 m2 k2) := ((hA26.2.2.1 _ rfl).1 _ rfl).trans (hA26.2.2.1 _ rfl).2
          have q102 : f 74 = (Value.int .i64 (x10)) := ((hA26.2.2.2.1 _ rfl).1 _ rfl).trans (hA26.2.2.2.1 _ rfl).2
          have q103 : f 75 = (Value.slice z43 m43 k43) := ((hA26.2.2.2.2.1 _ rfl).1 _ rfl).trans (hA26.2.2.2.2.1 _ rfl).2
          obtain ⟨z61, m61, k61, e125⟩ := (hA26.2.2.2.2.2.1 _ rfl).2
          have e125 : vs27 5 = (Value.slice z61 m61 k61) := e125
          have q104 : f 76 = (Value.slice z61 m61 k61) := ((hA26.2.2.2.2.2.1 _ rfl).1 _ rfl).trans e125
          obtain ⟨z62, m62, k62, e126⟩ := (hA26.2.2.2.2.2.2.1 _ rfl).2
          have e126 : vs27 6 = (Value.tuple #[(Value.slice z62 m62 k62), (Value.int .i64 (x22.2))]) := e126
          have q105 : f 77 = (Value.tuple #[(Value.slice z62 m62 k62), (Value.int .i64 (x22.2))]) := ((hA26.2.2.2.2.2.2.1 _ rfl).1 _ rfl).trans e126
          have q106 : f 70 = (Value.tuple #[(tupAt (vs27 6) 0), (Value.int .i64 (x22.2))]) := ((hA26.2.2.2.2.2.2.2.1 _ rfl).1 _ rfl).trans (hA26.2.2.2.2.2.2.2.1 _ rfl).2
          simp only [e126] at q106
          have q106 : f 70 = (Value.tuple #[(Value.slice z62 m62 k62), (Value.int .i64 (x22.2))]) := q106
          have q107 : f 78 = (tupAt (vs27 6) 0) := ((hA26.2.2.2.2.2.2.2.2.1 _ rfl).1 _ rfl).trans (hA26.2.2.2.2.2.2.2.2.1 _ rfl).2
          simp only [e126] at q107
          have q107 : f 78 = (Value.slice z62 m62 k62) := q107
          refine opg_plain rfl rfl (op_assign (v := (Value.slice z62 m62 k62)) rfl q107 ?_)
          refine ⟨_, _, rfl, PH.Le.refl _, ?_, ?_⟩
          · show (Value.slice z62 m62 k62) = (tupAt (vs27 6) 0)
            simp only [e126] <;> rfl
          · exact I72
        · intro vs28 f w54 S34 X27 le34 hA27 hK28 hI29
          have I73 : Inv w54 S34 (X27) := hI29
          have q108 : f 71 = vs28 0 := (hA27.1 _ rfl).1 _ rfl
          have r32 : RV S34 (vs28 0) a0 := (hA27.1 _ rfl).2
          obtain ⟨u48, hu34⟩ : ∃ u, vs28 0 = u := ⟨_, rfl⟩
          rw [hu34] at q108 r32
          obtain ⟨c10, e127, r33⟩ := Panel.inv r32
          subst e127
          obtain ⟨z63, m63, k63, e128⟩ := rv_form r33
          subst e128
          have q109 : f 72 = (Value.int .i64 (w64 (x12 + x13.Wait))) := ((hA27.2.1 _ rfl).1 _ rfl).trans (hA27.2.1 _ rfl).2
          have q110 : f 73 = (Value.slice z2 m2 k2) := ((hA27.2.2.1 _ rfl).1 _ rfl).trans (hA27.2.2.1 _ rfl).2
          have q111 : f 74 = (Value.int .i64 (x10)) := ((hA27.2.2.2.1 _ rfl).1 _ rfl).trans (hA27.2.2.2.1 _ rfl).2
          have q112 : f 75 = (Value.slice z43 m43 k43) := ((hA27.2.2.2.2.1 _ rfl).1 _ rfl).trans (hA27.2.2.2.2.1 _ rfl).2
          obtain ⟨z64, m64, k64, e129⟩ := (hA27.2.2.2.2.2.1 _ rfl).2
          have e129 : vs28 5 = (Value.slice z64 m64 k64) := e129
          have q113 : f 76 = (Value.slice z64 m64 k64) := ((hA27.2.2.2.2.2.1 _ rfl).1 _ rfl).trans e129
          obtain ⟨z65, m65, k65, e130⟩ := (hA27.2.2.2.2.2.2.1 _ rfl).2
          have e130 : vs28 6 = (Value.tuple #[(Value.slice z65 m65 k65), (Value.int .i64 (x22.2))]) := e130
          have q114 : f 77 = (Value.tuple #[(Value.slice z65 m65 k65), (Value.int .i64 (x22.2))]) := ((hA27.2.2.2.2.2.2.1 _ rfl).1 _ rfl).trans e130
          have q115 : f 70 = (Value.tuple #[(tupAt (vs28 6) 0), (Value.int .i64 (x22.2))]) := ((hA27.2.2.2.2.2.2.2.1 _ rfl).1 _ rfl).trans (hA27.2.2.2.2.2.2.2.1 _ rfl).2
          simp only [e130] at q115
          have q115 : f 70 = (Value.tuple #[(Value.slice z65 m65 k65), (Value.int .i64 (x22.2))]) := q115
          have q116 : f 79 = (Value.int .i64 (x22.2)) := ((hA27.2.2.2.2.2.2.2.2.2.1 _ rfl).1 _ rfl).trans (hA27.2.2.2.2.2.2.2.2.2.1 _ rfl).2
          refine opg_plain rfl rfl (op_assign (v := (Value.int .i64 (x22.2))) rfl q116 ?_)
          refine ⟨_, _, rfl, PH.Le.refl _, ?_, ?_⟩
          · exact rfl
          · exact I73
        · intro vs29 f w55 S35 le35 hF2 hK29 hI30
          have e131 : f 7 = (Value.int .i64 (x10)) := (hK29 7 (keep_all rfl)).trans e101
          have e132 : f 12 = (Value.int .i64 (w64 (x12 + x13.Wait))) := (hK29 12 (keep_all rfl)).trans rfl
          have I74 : Inv w55 S35 (Row (α := Int) 3 (tupAt (vs29 6) 0) (x22.1) :: Fr) := hI30
          have q117 : f 71 = vs29 0 := (hF2.1 _ rfl).1 _ rfl
          have r34 : RV S35 (vs29 0) a0 := (hF2.1 _ rfl).2
          obtain ⟨u49, hu35⟩ : ∃ u, vs29 0 = u := ⟨_, rfl⟩
          rw [hu35] at q117 r34
          obtain ⟨c11, e133, r35⟩ := Panel.inv r34
          subst e133
          obtain ⟨z66, m66, k66, e134⟩ := rv_form r35
          subst e134
          have q118 : f 72 = (Value.int .i64 (w64 (x12 + x13.Wait))) := ((hF2.2.1 _ rfl).1 _ rfl).trans (hF2.2.1 _ rfl).2
          have q119 : f 73 = (Value.slice z2 m2 k2) := ((hF2.2.2.1 _ rfl).1 _ rfl).trans (hF2.2.2.1 _ rfl).2
          have q120 : f 74 = (Value.int .i64 (x10)) := ((hF2.2.2.2.1 _ rfl).1 _ rfl).trans (hF2.2.2.2.1 _ rfl).2
          have q121 : f 75 = (Value.slice z43 m43 k43) := ((hF2.2.2.2.2.1 _ rfl).1 _ rfl).trans (hF2.2.2.2.2.1 _ rfl).2
          obtain ⟨z67, m67, k67, e135⟩ := (hF2.2.2.2.2.2.1 _ rfl).2
          have e135 : vs29 5 = (Value.slice z67 m67 k67) := e135
          have q122 : f 76 = (Value.slice z67 m67 k67) := ((hF2.2.2.2.2.2.1 _ rfl).1 _ rfl).trans e135
          obtain ⟨z68, m68, k68, e136⟩ := (hF2.2.2.2.2.2.2.1 _ rfl).2
          have e136 : vs29 6 = (Value.tuple #[(Value.slice z68 m68 k68), (Value.int .i64 (x22.2))]) := e136
          have q123 : f 77 = (Value.tuple #[(Value.slice z68 m68 k68), (Value.int .i64 (x22.2))]) := ((hF2.2.2.2.2.2.2.1 _ rfl).1 _ rfl).trans e136
          have I75 := I74
          rw [e136] at I75
          have q124 : f 70 = (Value.tuple #[(tupAt (vs29 6) 0), (Value.int .i64 (x22.2))]) := ((hF2.2.2.2.2.2.2.2.1 _ rfl).1 _ rfl).trans (hF2.2.2.2.2.2.2.2.1 _ rfl).2
          simp only [e136] at q124
          have q124 : f 70 = (Value.tuple #[(Value.slice z68 m68 k68), (Value.int .i64 (x22.2))]) := q124
          have q125 : f 78 = (tupAt (vs29 6) 0) := ((hF2.2.2.2.2.2.2.2.2.1 _ rfl).1 _ rfl).trans (hF2.2.2.2.2.2.2.2.2.1 _ rfl).2
          simp only [e136] at q125
          have q125 : f 78 = (Value.slice z68 m68 k68) := q125
          have q126 : f 79 = (Value.int .i64 (x22.2)) := ((hF2.2.2.2.2.2.2.2.2.2.1 _ rfl).1 _ rfl).trans (hF2.2.2.2.2.2.2.2.2.2.1 _ rfl).2
          have q127 : f 13 = (tupAt (vs29 6) 0) := ((hF2.2.2.2.2.2.2.2.2.2.2.1 _ rfl).1 _ rfl).trans (hF2.2.2.2.2.2.2.2.2.2.2.1 _ rfl).2
          simp only [e136] at q127
          have q127 : f 13 = (Value.slice z68 m68 k68) := q127
          have q128 : f 14 = (Value.int .i64 (x22.2)) := ((hF2.2.2.2.2.2.2.2.2.2.2.2.1 _ rfl).1 _ rfl).trans (hF2.2.2.2.2.2.2.2.2.2.2.2.1 _ rfl).2
          refine wp_seq' ?_
          refine wp_seq' ?_
          refine wp_region' ?_
          refine wl_op rfl (op_move (v := (Value.int .i64 (x22.2))) rfl q128 ?_)
          refine wl_op rfl (op_neq (a := x22.2) (b := 0) rfl rfl rfl ?_)
          refine wl_nil ?_
          rcases ifs h with ⟨hc14, h⟩ | ⟨hc14, h⟩
          · refine wp_cond_t (b := x22.2 != 0) rfl hc14 ?_
            refine wp_seq' ?_
            refine wp_region' ?_
            obtain ⟨x23, hx23, h⟩ := bnd h
            refine wl_op rfl (op_call_v (vs := []) (r := (Value.bool (x23))) rfl ca16 rfl args0 I75 (fun Fr_ hF_ => F16_ok hF_  hx23) (fun w56 I76 => ?_))
            refine wl_op rfl (op_assign (v := (Value.bool (x23))) rfl rfl ?_)
            refine wl_nil ?_
            refine wp_ret' ?_
            obtain rfl := Option.some.inj h
            exact ⟨(Value.bool (x23)), (res1 rfl rfl), _, [], (((le1.trans le2).trans le18).trans le35), (I76).drop, rfl, rfl⟩
          · refine wp_cond_f (b := x22.2 != 0) rfl hc14 ?_
            refine wp_skip' ?_
            refine wp_seq' ?_
            refine wp_region' ?_
            refine wl_op rfl (op_move (v := (Value.slice z68 m68 k68)) rfl q127 ?_)
            refine wl_op rfl (op_len_row (α := Int) rfl Try.underlying34 rfl (I75.nth 0 rfl) ?_)
            refine wl_op rfl (op_move (v := (Value.int .i64 (w64 (x12 + x13.Wait)))) rfl e132 ?_)
            refine wl_op rfl (op_eql (a := (x22.1.length : Int)) (b := w64 (x12 + x13.Wait)) rfl rfl rfl ?_)
            refine wl_op rfl (op_move (v := (Value.bool ((x22.1.length : Int) == (w64 (x12 + x13.Wait))))) rfl rfl ?_)
            rcases ifs h with ⟨hc15, h⟩ | ⟨hc15, h⟩
            · refine wl_taken (c := (x22.1.length : Int) == (w64 (x12 + x13.Wait))) rfl rfl rfl rfl hc15 (op_move (v := (Value.slice z68 m68 k68)) rfl q127 ?_)
              refine wl_taken (c := (x22.1.length : Int) == (w64 (x12 + x13.Wait))) rfl rfl rfl rfl hc15 (op_move (v := (Value.int .i64 (w64 (x12 + x13.Wait)))) rfl e132 ?_)
              refine wl_taken (c := (x22.1.length : Int) == (w64 (x12 + x13.Wait))) rfl rfl rfl rfl hc15 (op_sub (a := w64 (x12 + x13.Wait)) (b := 1) rfl rfl rfl ?_)
              obtain ⟨x24, hx24, h⟩ := bnd h
              refine wl_taken (c := (x22.1.length : Int) == (w64 (x12 + x13.Wait))) rfl rfl rfl rfl hc15 (op_indexAddr_src (v := (Value.slice z68 m68 k68)) (i := w64 ((w64 (x12 + x13.Wait)) - 1)) (e := x24) rfl Try.underlying34 sh3 rfl (Inv.rowSrc (I75.nth 0 rfl)) rfl hx24 ?_)
              refine wl_taken (c := (x22.1.length : Int) == (w64 (x12 + x13.Wait))) rfl rfl rfl rfl hc15 (op_load_int (v := (elemPtr (Value.slice z68 m68 k68) (w64 ((w64 (x12 + x13.Wait)) - 1)) (Enc.sz Int))) (e := x24) rfl sh3 rfl ((I75.nth 0 rfl).rowElem hx24) ?_)
              refine wl_taken (c := (x22.1.length : Int) == (w64 (x12 + x13.Wait))) rfl rfl rfl rfl hc15 (op_move (v := (Value.int .i64 (x10))) rfl e131 ?_)
              obtain ⟨x25, hx25, h⟩ := bnd h
              refine wl_taken (c := (x22.1.length : Int) == (w64 (x12 + x13.Wait))) rfl rfl rfl rfl hc15 (op_call_v (vs := [(Value.int .i64 (x24)), (Value.int .i64 (x10))]) (r := (Value.bool (x25))) rfl ca19 rfl (args2 rfl rfl) I75 (fun Fr_ hF_ => F19_ok hF_  hx25) (fun w57 I77 => ?_))
              refine wl_taken (c := (x22.1.length : Int) == (w64 (x12 + x13.Wait))) rfl rfl rfl rfl hc15 (op_not (b := x25) rfl rfl ?_)
              refine wl_op rfl (op_pick_t (c := (x22.1.length : Int) == (w64 (x12 + x13.Wait))) (a := (Value.bool (!x25))) rfl rfl hc15 rfl ?_)
              refine wl_op rfl (op_move (v := (Value.bool (!x25))) rfl rfl ?_)
              rcases ifs h with ⟨hc16, h⟩ | ⟨hc16, h⟩
              · obtain ⟨x26, hx26, h⟩ := bnd h
                refine wl_taken (c := !x25) rfl rfl rfl rfl hc16 (op_call_v (vs := []) (r := (Value.bool (x26))) rfl ca16 rfl args0 I77 (fun Fr_ hF_ => F16_ok hF_  hx26) (fun w58 I78 => ?_))
                refine wl_op rfl (op_pick_t (c := !x25) (a := (Value.bool (x26))) rfl rfl hc16 rfl ?_)
                refine wl_op rfl (op_assign (v := (Value.bool (x26))) rfl rfl ?_)
                refine wl_nil ?_
                refine wp_ret' ?_
                obtain rfl := Option.some.inj h
                exact ⟨(Value.bool (x26)), (res1 rfl rfl), _, [], (((le1.trans le2).trans le18).trans le35), (I78).drop, rfl, rfl⟩
              · refine wl_skip (c := !x25) rfl rfl rfl rfl hc16 rfl ?_
                refine wl_op rfl (op_pick_f (c := !x25) (b := (Value.bool (false))) rfl rfl hc16 rfl ?_)
                refine wl_op rfl (op_assign (v := (Value.bool (false))) rfl rfl ?_)
                refine wl_nil ?_
                refine wp_ret' ?_
                obtain rfl := Option.some.inj h
                exact ⟨(Value.bool (false)), (res1 rfl rfl), _, [], (((le1.trans le2).trans le18).trans le35), (I77).drop, rfl, rfl⟩
            · refine wl_skip (c := (x22.1.length : Int) == (w64 (x12 + x13.Wait))) rfl rfl rfl rfl hc15 rfl ?_
              refine wl_skip (c := (x22.1.length : Int) == (w64 (x12 + x13.Wait))) rfl rfl rfl rfl hc15 rfl ?_
              refine wl_skip (c := (x22.1.length : Int) == (w64 (x12 + x13.Wait))) rfl rfl rfl rfl hc15 rfl ?_
              refine wl_skip (c := (x22.1.length : Int) == (w64 (x12 + x13.Wait))) rfl rfl rfl rfl hc15 rfl ?_
              refine wl_skip (c := (x22.1.length : Int) == (w64 (x12 + x13.Wait))) rfl rfl rfl rfl hc15 rfl ?_
              refine wl_skip (c := (x22.1.length : Int) == (w64 (x12 + x13.Wait))) rfl rfl rfl rfl hc15 rfl ?_
              refine wl_skip (c := (x22.1.length : Int) == (w64 (x12 + x13.Wait))) rfl rfl rfl rfl hc15 rfl ?_
              refine wl_skip (c := (x22.1.length : Int) == (w64 (x12 + x13.Wait))) rfl rfl rfl rfl hc15 rfl ?_
              refine wl_op rfl (op_pick_f (c := (x22.1.length : Int) == (w64 (x12 + x13.Wait))) (b := (Value.bool (false))) rfl rfl hc15 rfl ?_)
              refine wl_op rfl (op_move (v := (Value.bool (false))) rfl rfl ?_)
              refine wl_skip (c := false) rfl rfl rfl rfl rfl rfl ?_
              refine wl_op rfl (op_pick_f (c := false) (b := (Value.bool (false))) rfl rfl rfl rfl ?_)
              refine wl_op rfl (op_assign (v := (Value.bool (false))) rfl rfl ?_)
              refine wl_nil ?_
              refine wp_ret' ?_
              obtain rfl := Option.some.inj h
              exact ⟨(Value.bool (false)), (res1 rfl rfl), _, [], (((le1.trans le2).trans le18).trans le35), (I75).drop, rfl, rfl⟩
end Go.Proofs.Ytfeomcdhhgeilaa.Pad
