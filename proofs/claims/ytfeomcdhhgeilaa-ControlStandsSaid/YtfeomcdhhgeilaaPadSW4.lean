/- A part of the proof: what the functions of the program compute, shown over the model. -/
import Derived.Test.YtfeomcdhhgeilaaPadSP
import Derived.Test.YtfeomcdhhgeilaaPadSW1
import Derived.Test.YtfeomcdhhgeilaaPadSW2
import Derived.Test.YtfeomcdhhgeilaaPadSW3
import Derived.KernelRfl
set_option linter.unusedVariables false
namespace Go.Proofs.Ytfeomcdhhgeilaa.Pad
open Go Go.Proofs
set_option maxHeartbeats 4000000 in
set_option maxRecDepth 100000 in
theorem F17_ok {w : World} {S : PH} {Fr : List HP} {a0 : Panel} {v0 : Value} {a1 : Int} {a2 : (List Signal)} {v2 : Value} {r : (List Int) × Int} (hI : Inv w S (Fr)) (h0_ : RV S v0 a0) (h2_ : RV S v2 a2) (h : F17 a0 a1 a2 = some r) :
    Calls Try.prog 17 [v0, (Value.int .i64 (a1)), v2].toArray w (Done S Fr (fun T_ v_ O_ => ∃ (a0_ : Option Addr) (n0_ k0_ : Nat), v_ = (Value.tuple #[(Value.slice a0_ n0_ k0_), (Value.int .i64 (r.2))]) ∧ O_ = [Row (α := Int) 3 (Value.slice a0_ n0_ k0_) (r.1)])) := by
 unfold F17 at h
 obtain ⟨c1, e1, r1⟩ := Panel.inv h0_
 subst e1
 obtain ⟨z1, m1, k1, e2⟩ := rv_form r1
 subst e2
 obtain ⟨z2, m2, k2, e3⟩ := rv_form h2_
 subst e3
 refine calls_enter (n := 23) (vs := [(Value.agg #[(Value.int .i64 (a0.Sensors)), (Value.slice z1 m1 k1), (Value.int .i64 (a0.Stale)), (Value.int .i64 (a0.Limit))]), (Value.int .i64 (a1)), (Value.slice z2 m2 k2)]) Try.func17 rfl rfl rfl ?_
 refine wp_seq' ?_
 refine wp_region' ?_
 refine wl_op rfl (op_box (v := (Value.agg #[(Value.int .i64 (a0.Sensors)), (Value.slice z1 m1 k1), (Value.int .i64 (a0.Stale)), (Value.int .i64 (a0.Limit))])) rfl hI rfl (fun g1 w1 I1 => ?_))
 obtain ⟨S1, le1, I2, p1⟩ := Inv.boxFreeze (x := a0) I1 (Panel.rv (s := a0) r1)
 refine wl_op rfl (op_assign (v := (Value.slice none 0 0)) rfl rfl ?_)
 refine wl_op rfl (op_assign (v := (Value.int .i64 (0))) rfl rfl ?_)
 refine wl_nil ?_
 refine wp_seq' ?_
 refine wp_region' ?_
 refine wl_op rfl (op_load (v := (Value.pointer (some ⟨g1, 0, none⟩))) (e := a0) rfl sh24 rfl (p1.at_ I2) (fun u1 hu1 => ?_))
 obtain ⟨c2, e4, r2⟩ := Panel.inv hu1
 subst e4
 obtain ⟨z3, m3, k3, e5⟩ := rv_form r2
 subst e5
 refine wl_op rfl (op_move (v := (Value.int .i64 (a1))) rfl rfl ?_)
 refine wl_op rfl (op_move (v := (Value.slice z2 m2 k2)) rfl rfl ?_)
 obtain ⟨x1, hx1, h⟩ := bnd h
 refine wl_op rfl (op_call (vs := [(Value.agg #[(Value.int .i64 (a0.Sensors)), (Value.slice z3 m3 k3), (Value.int .i64 (a0.Stale)), (Value.int .i64 (a0.Limit))]), (Value.int .i64 (a1)), (Value.slice z2 m2 k2)]) rfl ca45 rfl (args3 rfl rfl rfl) (F45_ok I2 (Panel.rv (s := a0) r2) (h2_.mono le1) hx1) (fun v1 w2 S2 O1 le2 I3 hv1 => ?_))
 obtain ⟨z4, m4, k4, rfl, rfl⟩ := hv1
 refine wl_op rfl (op_move (v := (Value.tuple #[(Value.slice z4 m4 k4), (Value.int .i64 (x1.2))])) rfl rfl ?_)
 refine wl_op rfl (op_extract (v := (Value.slice z4 m4 k4)) rfl rfl rfl ?_)
 refine wl_op rfl (op_extract (v := (Value.int .i64 (x1.2))) rfl rfl rfl ?_)
 refine wl_op rfl (op_assign (v := (Value.slice z4 m4 k4)) rfl rfl ?_)
 refine wl_op rfl (op_assign (v := (Value.int .i64 (x1.2))) rfl rfl ?_)
 refine wl_nil ?_
 refine wp_seq' ?_
 refine wp_seq' ?_
 refine wp_region' ?_
 refine wl_op rfl (op_move (v := (Value.int .i64 (x1.2))) rfl rfl ?_)
 refine wl_op rfl (op_neq (a := x1.2) (b := 0) rfl rfl rfl ?_)
 refine wl_nil ?_
 rcases ifs h with ⟨hc1, h⟩ | ⟨hc1, h⟩
 ·
  refine wp_cond_t (b := x1.2 != 0) rfl hc1 ?_
  refine wp_seq' ?_
  refine wp_region' ?_
  refine wl_op rfl (op_move (v := (Value.int .i64 (x1.2))) rfl rfl ?_)
  refine wl_op rfl (op_assign (v := (Value.slice none 0 0)) rfl rfl ?_)
  refine wl_op rfl (op_assign (v := (Value.int .i64 (x1.2))) rfl rfl ?_)
  refine wl_nil ?_
  refine wp_ret' ?_
  have I4 := Inv.rowNil (α := Int) (T := 3) I3
  obtain rfl := Option.some.inj h
  exact ⟨(Value.tuple #[(Value.slice none 0 0), (Value.int .i64 (x1.2))]), (res2 rfl rfl rfl), _, [Row (α := Int) 3 (Value.slice none 0 0) (([] : List Int))], (le1.trans le2), (I4.pull 1).drop, _, _, _, rfl, rfl⟩
 ·
  refine wp_cond_f (b := x1.2 != 0) rfl hc1 ?_
  refine wp_skip' ?_
  refine wp_seq' ?_
  refine wp_region' ?_
  refine wl_op rfl (op_load (v := (Value.pointer (some ⟨g1, 0, none⟩))) (e := a0) rfl sh24 rfl ((p1.mono le2).at_ I3) (fun u2 hu2 => ?_))
  obtain ⟨c3, e6, r3⟩ := Panel.inv hu2
  subst e6
  obtain ⟨z5, m5, k5, e7⟩ := rv_form r3
  subst e7
  refine wl_op rfl (op_move (v := (Value.slice z4 m4 k4)) rfl rfl ?_)
  obtain ⟨x2, hx2, h⟩ := bnd h
  obtain ⟨S3, Fr1, le3, I5, r4, bk1⟩ := Inv.lend1 I3
  refine wl_op rfl (op_call (vs := [(Value.agg #[(Value.int .i64 (a0.Sensors)), (Value.slice z5 m5 k5), (Value.int .i64 (a0.Stale)), (Value.int .i64 (a0.Limit))]), (Value.slice z4 m4 k4)]) rfl ca46 rfl (args2 rfl rfl) (F46_ok I5 (Panel.rv (s := a0) (r3.mono le3)) r4 hx2) (fun v2 w3 S4 O2 le4 I7 hv2 => ?_))
  obtain ⟨z6, m6, k6, rfl, rfl⟩ := hv2
  have I6 := bk1 [Row (α := Int) 3 (Value.slice z6 m6 k6) (x2)] ⟨Row.free, trivial⟩ I7 le4
  refine wl_op rfl (op_assign (v := (Value.slice z6 m6 k6)) rfl rfl ?_)
  refine wl_op rfl (op_assign (v := (Value.int .i64 (0))) rfl rfl ?_)
  refine wl_nil ?_
  refine wp_ret' ?_
  obtain rfl := Option.some.inj h
  exact ⟨(Value.tuple #[(Value.slice z6 m6 k6), (Value.int .i64 (0))]), (res2 rfl rfl rfl), _, [Row (α := Int) 3 (Value.slice z6 m6 k6) (x2)], (le1.trans le2), (I6.pull 1).drop, _, _, _, rfl, rfl⟩

set_option maxHeartbeats 4000000 in
set_option maxRecDepth 100000 in
theorem F16_ok {w : World} {S : PH} {Fr : List HP}  {r : Bool} (hI : Inv w S (Fr))  (h : F16  = some r) :
    Calls Try.prog 16 [].toArray w (DoneV S Fr (Value.bool (r))) := by
 unfold F16 at h
 refine calls_enter (n := 32) (vs := []) Try.func16 rfl rfl rfl ?_
 refine wp_seq' ?_
 refine wp_region' ?_
 refine wl_op rfl (op_assign (v := (Value.bool (false))) rfl rfl ?_)
 refine wl_nil ?_
 refine wp_seq' ?_
 refine wp_region' ?_
 obtain ⟨x1, hx1, h⟩ := bnd h
 refine wl_op rfl (op_call (vs := []) rfl ca44 rfl args0 (F44_ok hI  hx1) (fun v1 w1 S1 O1 le1 I1 hv1 => ?_))
 obtain ⟨c1, rfl, rfl, r1⟩ := hv1
 obtain ⟨c2, e1, r2⟩ := Panel.inv r1
 subst e1
 obtain ⟨z1, m1, k1, e2⟩ := rv_form r2
 subst e2
 refine wl_op rfl (op_build (qs := [(0, #[(Value.int .i64 (2))]), (1, #[(Value.int .i64 (1))]), (3, #[(Value.int .i64 (1))])]) (c := #[(Value.int .i64 (2)), (Value.int .i64 (1)), (Value.int .i64 (0)), (Value.int .i64 (1))]) rfl st46 ⟨rfl, rfl, ⟨rfl, rfl, ⟨rfl, rfl, trivial⟩⟩⟩ rfl ?_)
 refine wl_op rfl (op_buildSlice (vs := [(Value.agg #[(Value.int .i64 (2)), (Value.int .i64 (1)), (Value.int .i64 (0)), (Value.int .i64 (1))])]) (r := ([(⟨2, 1, 0, 1⟩ : Signal)] : List Signal)) rfl Try.underlying25 el46 (parts1 rfl) rfl (by decide) (by decide) ⟨(Signal.rv (s := (⟨2, 1, 0, 1⟩ : Signal))), trivial⟩ I1 (fun u1 w2 I2 => ?_))
 obtain ⟨z2, m2, k2, e3⟩ := row_form I2
 subst e3
 obtain ⟨x2, hx2, h⟩ := bnd h
 obtain ⟨S2, Fr1, le2, I3, r3, bk1⟩ := Inv.lend1 I2
 refine wl_op rfl (op_call (vs := [(Value.agg #[(Value.int .i64 (x1.Sensors)), (Value.slice z1 m1 k1), (Value.int .i64 (x1.Stale)), (Value.int .i64 (x1.Limit))]), (Value.int .i64 (4)), (Value.slice z2 m2 k2)]) rfl ca17 rfl (args3 rfl rfl rfl) (F17_ok I3 (Panel.rv (s := x1) (r2.mono le2)) r3 hx2) (fun v2 w3 S3 O2 le3 I5 hv2 => ?_))
 obtain ⟨z3, m3, k3, rfl, rfl⟩ := hv2
 have I4 := bk1 [Row (α := Int) 3 (Value.slice z3 m3 k3) (x2.1)] ⟨Row.free, trivial⟩ I5 le3
 refine wl_op rfl (op_move (v := (Value.tuple #[(Value.slice z3 m3 k3), (Value.int .i64 (x2.2))])) rfl rfl ?_)
 refine wl_op rfl (op_extract (v := (Value.slice z3 m3 k3)) rfl rfl rfl ?_)
 refine wl_op rfl (op_extract (v := (Value.int .i64 (x2.2))) rfl rfl rfl ?_)
 refine wl_op rfl (op_assign (v := (Value.slice z3 m3 k3)) rfl rfl ?_)
 refine wl_op rfl (op_assign (v := (Value.int .i64 (x2.2))) rfl rfl ?_)
 refine wl_nil ?_
 refine wp_seq' ?_
 refine wp_region' ?_
 obtain ⟨x3, hx3, h⟩ := bnd h
 refine wl_op rfl (op_call (vs := []) rfl ca44 rfl args0 (F44_ok I4  hx3) (fun v3 w4 S4 O3 le4 I6 hv3 => ?_))
 obtain ⟨c3, rfl, rfl, r4⟩ := hv3
 obtain ⟨c4, e4, r5⟩ := Panel.inv r4
 subst e4
 obtain ⟨z4, m4, k4, e5⟩ := rv_form r5
 subst e5
 obtain ⟨x4, hx4, h⟩ := bnd h
 refine wl_op rfl (op_call_v (vs := [(Value.agg #[(Value.int .i64 (x3.Sensors)), (Value.slice z4 m4 k4), (Value.int .i64 (x3.Stale)), (Value.int .i64 (x3.Limit))])]) (r := (Value.tuple #[(Value.int .i64 (x4.1)), (Value.int .i64 (x4.2))])) rfl ca21 rfl (args1 rfl) I6 (fun Fr_ hF_ => F21_ok hF_ (Panel.rv (s := x3) r5) hx4) (fun w5 I7 => ?_))
 refine wl_op rfl (op_move (v := (Value.tuple #[(Value.int .i64 (x4.1)), (Value.int .i64 (x4.2))])) rfl rfl ?_)
 refine wl_op rfl (op_extract (v := (Value.int .i64 (x4.1))) rfl rfl rfl ?_)
 refine wl_op rfl (op_extract (v := (Value.int .i64 (x4.2))) rfl rfl rfl ?_)
 refine wl_op rfl (op_assign (v := (Value.int .i64 (x4.1))) rfl rfl ?_)
 refine wl_op rfl (op_assign (v := (Value.int .i64 (x4.2))) rfl rfl ?_)
 refine wl_nil ?_
 refine wp_seq' ?_
 refine wp_region' ?_
 refine wl_op rfl (op_move (v := (Value.int .i64 (x2.2))) rfl rfl ?_)
 refine wl_op rfl (op_eql (a := x2.2) (b := 0) rfl rfl rfl ?_)
 refine wl_op rfl (op_move (v := (Value.bool (x2.2 == 0))) rfl rfl ?_)
 rcases ifs h with ⟨hc1, h⟩ | ⟨hc1, h⟩
 ·
  refine wl_taken (c := x2.2 == 0) rfl rfl rfl rfl hc1 (op_move (v := (Value.int .i64 (x4.2))) rfl rfl ?_)
  refine wl_taken (c := x2.2 == 0) rfl rfl rfl rfl hc1 (op_eql (a := x4.2) (b := 0) rfl rfl rfl ?_)
  refine wl_op rfl (op_pick_t (c := x2.2 == 0) (a := (Value.bool (x4.2 == 0))) rfl rfl hc1 rfl ?_)
  refine wl_op rfl (op_move (v := (Value.bool (x4.2 == 0))) rfl rfl ?_)
  rcases ifs h with ⟨hc2, h⟩ | ⟨hc2, h⟩
  ·
   refine wl_taken (c := x4.2 == 0) rfl rfl rfl rfl hc2 (op_move (v := (Value.slice z3 m3 k3)) rfl rfl ?_)
   refine wl_taken (c := x4.2 == 0) rfl rfl rfl rfl hc2 (op_buildSlice (vs := [(Value.int .i64 (1)), (Value.int .i64 (1)), (Value.int .i64 (0)), (Value.int .i64 (0))]) (r := ([1, 1, 0, 0] : List Int)) rfl Try.underlying34 el3 (parts4 rfl rfl rfl rfl) rfl (by decide) (by decide) ⟨(rv_int' _), ⟨(rv_int' _), ⟨(rv_int' _), ⟨(rv_int' _), trivial⟩⟩⟩⟩ I7 (fun u2 w6 I8 => ?_))
   obtain ⟨z5, m5, k5, e6⟩ := row_form I8
   subst e6
   obtain ⟨x5, hx5, h⟩ := bnd h
   obtain ⟨S5, Fr2, le5, I9, r6, r7, bk2⟩ := Inv.lend2 (I8.pull 1)
   refine wl_taken (c := x4.2 == 0) rfl rfl rfl rfl hc2 (op_call (vs := [(Value.slice z3 m3 k3), (Value.slice z5 m5 k5)]) rfl ca29 rfl (args2 rfl rfl) (F29_ok I9 r6 r7 hx5) (fun v4 w7 S6 O4 le6 I11 hv4 => ?_))
   obtain ⟨rfl, rfl⟩ := hv4
   have I10 := bk2 [] trivial I11 le6
   refine wl_op rfl (op_pick_t (c := x4.2 == 0) (a := (Value.bool (x5))) rfl rfl hc2 rfl ?_)
   refine wl_op rfl (op_move (v := (Value.bool (x5))) rfl rfl ?_)
   rcases ifs h with ⟨hc3, h⟩ | ⟨hc3, h⟩
   ·
    refine wl_taken (c := x5) rfl rfl rfl rfl hc3 (op_move (v := (Value.int .i64 (x4.1))) rfl rfl ?_)
    refine wl_taken (c := x5) rfl rfl rfl rfl hc3 (op_eql (a := x4.1) (b := 10) rfl rfl rfl ?_)
    refine wl_op rfl (op_pick_t (c := x5) (a := (Value.bool (x4.1 == 10))) rfl rfl hc3 rfl ?_)
    refine wl_op rfl (op_assign (v := (Value.bool (x4.1 == 10))) rfl rfl ?_)
    refine wl_nil ?_
    refine wp_ret' ?_
    obtain rfl := Option.some.inj h
    exact ⟨(Value.bool (x4.1 == 10)), (res1 rfl rfl), _, [], (le1.trans le4), (((I10).drop).drop).drop, rfl, rfl⟩
   ·
    refine wl_skip (c := x5) rfl rfl rfl rfl hc3 rfl ?_
    refine wl_skip (c := x5) rfl rfl rfl rfl hc3 rfl ?_
    refine wl_op rfl (op_pick_f (c := x5) (b := (Value.bool (false))) rfl rfl hc3 rfl ?_)
    refine wl_op rfl (op_assign (v := (Value.bool (false))) rfl rfl ?_)
    refine wl_nil ?_
    refine wp_ret' ?_
    obtain rfl := Option.some.inj h
    exact ⟨(Value.bool (false)), (res1 rfl rfl), _, [], (le1.trans le4), (((I10).drop).drop).drop, rfl, rfl⟩
  ·
   refine wl_skip (c := x4.2 == 0) rfl rfl rfl rfl hc2 rfl ?_
   refine wl_skip (c := x4.2 == 0) rfl rfl rfl rfl hc2 rfl ?_
   refine wl_skip (c := x4.2 == 0) rfl rfl rfl rfl hc2 rfl ?_
   refine wl_op rfl (op_pick_f (c := x4.2 == 0) (b := (Value.bool (false))) rfl rfl hc2 rfl ?_)
   refine wl_op rfl (op_move (v := (Value.bool (false))) rfl rfl ?_)
   refine wl_skip (c := false) rfl rfl rfl rfl rfl rfl ?_
   refine wl_skip (c := false) rfl rfl rfl rfl rfl rfl ?_
   refine wl_op rfl (op_pick_f (c := false) (b := (Value.bool (false))) rfl rfl rfl rfl ?_)
   refine wl_op rfl (op_assign (v := (Value.bool (false))) rfl rfl ?_)
   refine wl_nil ?_
   refine wp_ret' ?_
   obtain rfl := Option.some.inj h
   exact ⟨(Value.bool (false)), (res1 rfl rfl), _, [], (le1.trans le4), ((I7).drop).drop, rfl, rfl⟩
 ·
  refine wl_skip (c := x2.2 == 0) rfl rfl rfl rfl hc1 rfl ?_
  refine wl_skip (c := x2.2 == 0) rfl rfl rfl rfl hc1 rfl ?_
  refine wl_op rfl (op_pick_f (c := x2.2 == 0) (b := (Value.bool (false))) rfl rfl hc1 rfl ?_)
  refine wl_op rfl (op_move (v := (Value.bool (false))) rfl rfl ?_)
  refine wl_skip (c := false) rfl rfl rfl rfl rfl rfl ?_
  refine wl_skip (c := false) rfl rfl rfl rfl rfl rfl ?_
  refine wl_skip (c := false) rfl rfl rfl rfl rfl rfl ?_
  refine wl_op rfl (op_pick_f (c := false) (b := (Value.bool (false))) rfl rfl rfl rfl ?_)
  refine wl_op rfl (op_move (v := (Value.bool (false))) rfl rfl ?_)
  refine wl_skip (c := false) rfl rfl rfl rfl rfl rfl ?_
  refine wl_skip (c := false) rfl rfl rfl rfl rfl rfl ?_
  refine wl_op rfl (op_pick_f (c := false) (b := (Value.bool (false))) rfl rfl rfl rfl ?_)
  refine wl_op rfl (op_assign (v := (Value.bool (false))) rfl rfl ?_)
  refine wl_nil ?_
  refine wp_ret' ?_
  obtain rfl := Option.some.inj h
  exact ⟨(Value.bool (false)), (res1 rfl rfl), _, [], (le1.trans le4), ((I7).drop).drop, rfl, rfl⟩
end Go.Proofs.Ytfeomcdhhgeilaa.Pad
