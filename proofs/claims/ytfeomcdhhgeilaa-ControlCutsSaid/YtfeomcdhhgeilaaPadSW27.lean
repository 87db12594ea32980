/- A part of the proof: what the functions of the program compute, shown over the model. -/
import Derived.Test.YtfeomcdhhgeilaaPadSP
import Derived.Test.YtfeomcdhhgeilaaPadSW4
import Derived.Test.YtfeomcdhhgeilaaPadSW25
import Derived.Test.YtfeomcdhhgeilaaPadSW26
import Derived.KernelRfl
set_option linter.unusedVariables false
namespace Go.Proofs.Ytfeomcdhhgeilaa.Pad
open Go Go.Proofs
set_option maxHeartbeats 4000000 in
set_option maxRecDepth 100000 in
theorem F13_ok {w : World} {S : PH} {Fr : List HP} {a0 : Panel} {v0 : Value} {a1 : (List Signal)} {v1 : Value} {a2 : Law08_Where} {v2 : Value} {r : Bool} (hI : Inv w S (Fr)) (h0_ : RV S v0 a0) (h1_ : RV S v1 a1) (h2_ : RV S v2 a2) (h : F13 a0 a1 a2 = some r) :
    Calls Try.prog 13 [v0, v1, v2].toArray w (DoneV S Fr (Value.bool (r))) := by
 unfold F13 at h
 obtain ⟨c1, e1, r1⟩ := Panel.inv h0_
 subst e1
 obtain ⟨z1, m1, k1, e2⟩ := rv_form r1
 subst e2
 obtain ⟨z2, m2, k2, e3⟩ := rv_form h1_
 subst e3
 have e4 := Law08_Where.inv h2_
 subst e4
 refine calls_enter (n := 51) (vs := [(Value.agg #[(Value.int .i64 (a0.Sensors)), (Value.slice z1 m1 k1), (Value.int .i64 (a0.Stale)), (Value.int .i64 (a0.Limit))]), (Value.slice z2 m2 k2), (Value.agg #[(Value.int .i64 (a2.Ticks)), (Value.int .i64 (a2.Door))])]) Try.func13 rfl rfl rfl ?_
 refine wp_seq' ?_
 refine wp_region' ?_
 refine wl_op rfl (op_box (v := (Value.agg #[(Value.int .i64 (a0.Sensors)), (Value.slice z1 m1 k1), (Value.int .i64 (a0.Stale)), (Value.int .i64 (a0.Limit))])) rfl hI rfl (fun g1 w1 I1 => ?_))
 obtain ⟨S1, le1, I2, p1⟩ := Inv.boxFreeze (x := a0) I1 (Panel.rv (s := a0) r1)
 refine wl_op rfl (op_box (v := (Value.agg #[(Value.int .i64 (a2.Ticks)), (Value.int .i64 (a2.Door))])) rfl I2 rfl (fun g2 w2 I3 => ?_))
 obtain ⟨S2, le2, I4, p2⟩ := Inv.boxFreeze (x := a2) I3 (Law08_Where.rv (s := a2))
 refine wl_op rfl (op_assign (v := (Value.bool (false))) rfl rfl ?_)
 refine wl_nil ?_
 obtain ⟨ov1, h2, h⟩ := bnd h
 refine wp_cut (fun f w => ∃ v1, ov1 = Sum.inl v1 ∧ Inv w S2 (Fr) ∧ f 1 = (Value.slice z2 m2 k2) ∧ f 3 = (Value.pointer (some ⟨g1, 0, none⟩)) ∧ f 5 = (Value.pointer (some ⟨g2, 0, none⟩))) ?_ ?_
 ·
  refine wp_seq' ?_
  refine wp_region' ?_
  refine wl_op rfl (op_fieldAddr_t (v := (Value.pointer (some ⟨g2, 0, none⟩))) rfl fa27_0 rfl (p2.at_ I4) ?_)
  refine wl_op rfl (op_load_int (v := (fieldPtr (Value.pointer (some ⟨g2, 0, none⟩)) 0)) (e := a2.Ticks) rfl sh3 rfl ((p2.at_ I4).fld Law08_Where.fld0) ?_)
  refine wl_op rfl (op_gtr (a := a2.Ticks) (b := 8) rfl rfl rfl ?_)
  refine wl_op rfl (op_move (v := (Value.bool (decide (8 < a2.Ticks)))) rfl rfl ?_)
  rcases ifs h2 with ⟨hc3, h2⟩ | ⟨hc3, h2⟩
  ·
   refine wl_taken (c := decide (8 < a2.Ticks)) rfl rfl rfl rfl hc3 (op_fieldAddr_t (v := (Value.pointer (some ⟨g2, 0, none⟩))) rfl fa27_0 rfl (p2.at_ I4) ?_)
   refine wl_taken (c := decide (8 < a2.Ticks)) rfl rfl rfl rfl hc3 (op_load_int (v := (fieldPtr (Value.pointer (some ⟨g2, 0, none⟩)) 0)) (e := a2.Ticks) rfl sh3 rfl ((p2.at_ I4).fld Law08_Where.fld0) ?_)
   refine wl_taken (c := decide (8 < a2.Ticks)) rfl rfl rfl rfl hc3 (op_leq (a := a2.Ticks) (b := 1000) rfl rfl rfl ?_)
   refine wl_op rfl (op_pick_t (c := decide (8 < a2.Ticks)) (a := (Value.bool (decide (a2.Ticks ≤ 1000)))) rfl rfl hc3 rfl ?_)
   refine wl_nil ?_
   rcases ifs h2 with ⟨hc4, h2⟩ | ⟨hc4, h2⟩
   ·
    refine wp_cond_t (b := decide (a2.Ticks ≤ 1000)) rfl hc4 ?_
    refine wp_seq' ?_
    refine wp_region' ?_
    obtain ⟨x2, hx2, h2⟩ := bnd h2
    refine wl_op rfl (op_call_v (vs := []) (r := (Value.bool (x2))) rfl ca16 rfl args0 I4 (fun Fr_ hF_ => F16_ok hF_  hx2) (fun w4 I6 => ?_))
    refine wl_op rfl (op_assign (v := (Value.bool (x2))) rfl rfl ?_)
    refine wl_nil ?_
    refine wp_ret' ?_
    obtain rfl := Option.some.inj h2
    have h3 := h
    obtain rfl := Option.some.inj h3
    exact ⟨(Value.bool (x2)), (res1 rfl rfl), _, [], (le1.trans le2), I6, rfl, rfl⟩
   ·
    refine wp_cond_f (b := decide (a2.Ticks ≤ 1000)) rfl hc4 ?_
    refine wp_skip' ?_
    obtain rfl := Option.some.inj h2
    exact ⟨_, rfl, I4, rfl, rfl, rfl⟩
  ·
   refine wl_skip (c := decide (8 < a2.Ticks)) rfl rfl rfl rfl hc3 rfl ?_
   refine wl_skip (c := decide (8 < a2.Ticks)) rfl rfl rfl rfl hc3 rfl ?_
   refine wl_skip (c := decide (8 < a2.Ticks)) rfl rfl rfl rfl hc3 rfl ?_
   refine wl_op rfl (op_pick_f (c := decide (8 < a2.Ticks)) (b := (Value.bool (false))) rfl rfl hc3 rfl ?_)
   refine wl_nil ?_
   refine wp_cond_f (b := false) rfl rfl ?_
   refine wp_skip' ?_
   obtain rfl := Option.some.inj h2
   exact ⟨_, rfl, I4, rfl, rfl, rfl⟩
 ·
  rintro f w ⟨v1, rfl, I7, e5, e6, e7⟩
  have h := onL_inl h
  refine wp_seq' ?_
  refine wp_region' ?_
  refine wl_op rfl (op_load (v := (Value.pointer (some ⟨g1, 0, none⟩))) (e := a0) rfl sh24 e6 ((p1.mono le2).at_ I7) (fun u1 hu1 => ?_))
  obtain ⟨c2, e8, r2⟩ := Panel.inv hu1
  subst e8
  obtain ⟨z3, m3, k3, e9⟩ := rv_form r2
  subst e9
  refine wl_op rfl (op_fieldAddr_t (v := (Value.pointer (some ⟨g2, 0, none⟩))) rfl fa27_0 e7 (p2.at_ I7) ?_)
  refine wl_op rfl (op_load_int (v := (fieldPtr (Value.pointer (some ⟨g2, 0, none⟩)) 0)) (e := a2.Ticks) rfl sh3 rfl ((p2.at_ I7).fld Law08_Where.fld0) ?_)
  refine wl_op rfl (op_move (v := (Value.slice z2 m2 k2)) rfl e5 ?_)
  refine wl_op rfl (op_fieldAddr_t (v := (Value.pointer (some ⟨g2, 0, none⟩))) rfl fa27_1 e7 (p2.at_ I7) ?_)
  refine wl_op rfl (op_load_int (v := (fieldPtr (Value.pointer (some ⟨g2, 0, none⟩)) 1)) (e := a2.Door) rfl sh3 rfl ((p2.at_ I7).fld Law08_Where.fld1) ?_)
  obtain ⟨x3, hx3, h⟩ := bnd h
  refine wl_op rfl (op_call (vs := [(Value.agg #[(Value.int .i64 (a0.Sensors)), (Value.slice z3 m3 k3), (Value.int .i64 (a0.Stale)), (Value.int .i64 (a0.Limit))]), (Value.int .i64 (a2.Ticks)), (Value.slice z2 m2 k2), (Value.int .i64 (a2.Door))]) rfl ca41 rfl (args4 rfl rfl rfl rfl) (F41_ok I7 (Panel.rv (s := a0) r2) (h1_.mono (le1.trans le2)) hx3) (fun v2 w5 S3 O1 le3 I8 hv1 => ?_))
  obtain ⟨z4, m4, k4, rfl, rfl⟩ := hv1
  refine wl_op rfl (op_move (v := (Value.tuple #[(Value.slice z4 m4 k4), (Value.int .i64 (x3.2))])) rfl rfl ?_)
  refine wl_op rfl (op_extract (v := (Value.slice z4 m4 k4)) rfl rfl rfl ?_)
  refine wl_op rfl (op_extract (v := (Value.int .i64 (x3.2))) rfl rfl rfl ?_)
  refine wl_op rfl (op_assign (v := (Value.slice z4 m4 k4)) rfl rfl ?_)
  refine wl_op rfl (op_assign (v := (Value.int .i64 (x3.2))) rfl rfl ?_)
  refine wl_nil ?_
  refine wp_seq' ?_
  refine wp_region' ?_
  refine wl_op rfl (op_load (v := (Value.pointer (some ⟨g1, 0, none⟩))) (e := a0) rfl sh24 e6 ((p1.mono (le2.trans le3)).at_ I8) (fun u2 hu2 => ?_))
  obtain ⟨c3, e10, r3⟩ := Panel.inv hu2
  subst e10
  obtain ⟨z5, m5, k5, e11⟩ := rv_form r3
  subst e11
  refine wl_op rfl (op_fieldAddr_t (v := (Value.pointer (some ⟨g2, 0, none⟩))) rfl fa27_0 e7 ((p2.mono le3).at_ I8) ?_)
  refine wl_op rfl (op_load_int (v := (fieldPtr (Value.pointer (some ⟨g2, 0, none⟩)) 0)) (e := a2.Ticks) rfl sh3 rfl (((p2.mono le3).at_ I8).fld Law08_Where.fld0) ?_)
  refine wl_op rfl (op_move (v := (Value.slice z2 m2 k2)) rfl e5 ?_)
  refine wl_op rfl (op_fieldAddr_t (v := (Value.pointer (some ⟨g2, 0, none⟩))) rfl fa27_1 e7 ((p2.mono le3).at_ I8) ?_)
  refine wl_op rfl (op_load_int (v := (fieldPtr (Value.pointer (some ⟨g2, 0, none⟩)) 1)) (e := a2.Door) rfl sh3 rfl (((p2.mono le3).at_ I8).fld Law08_Where.fld1) ?_)
  obtain ⟨x4, hx4, h⟩ := bnd h
  refine wl_op rfl (op_call (vs := [(Value.agg #[(Value.int .i64 (a0.Sensors)), (Value.slice z5 m5 k5), (Value.int .i64 (a0.Stale)), (Value.int .i64 (a0.Limit))]), (Value.int .i64 (a2.Ticks)), (Value.slice z2 m2 k2), (Value.int .i64 (a2.Door))]) rfl ca42 rfl (args4 rfl rfl rfl rfl) (F42_ok I8 (Panel.rv (s := a0) r3) (h1_.mono ((le1.trans le2).trans le3)) hx4) (fun v3 w6 S4 O2 le4 I9 hv2 => ?_))
  obtain ⟨z6, m6, k6, rfl, rfl, r4⟩ := hv2
  refine wl_op rfl (op_move (v := (Value.tuple #[(Value.slice z6 m6 k6), (Value.int .i64 (x4.2))])) rfl rfl ?_)
  refine wl_op rfl (op_extract (v := (Value.slice z6 m6 k6)) rfl rfl rfl ?_)
  refine wl_op rfl (op_extract (v := (Value.int .i64 (x4.2))) rfl rfl rfl ?_)
  refine wl_op rfl (op_assign (v := (Value.slice z6 m6 k6)) rfl rfl ?_)
  refine wl_op rfl (op_assign (v := (Value.int .i64 (x4.2))) rfl rfl ?_)
  refine wl_nil ?_
  refine wp_seq' ?_
  refine wp_region' ?_
  refine wl_op rfl (op_move (v := (Value.int .i64 (x3.2))) rfl rfl ?_)
  refine wl_op rfl (op_move (v := (Value.int .i64 (x4.2))) rfl rfl ?_)
  refine wl_op rfl (op_eql (a := x3.2) (b := x4.2) rfl rfl rfl ?_)
  refine wl_op rfl (op_move (v := (Value.bool (x3.2 == x4.2))) rfl rfl ?_)
  rcases ifs h with ⟨hc5, h⟩ | ⟨hc5, h⟩
  ·
   refine wl_taken (c := x3.2 == x4.2) rfl rfl rfl rfl hc5 (op_move (v := (Value.slice z4 m4 k4)) rfl rfl ?_)
   refine wl_taken (c := x3.2 == x4.2) rfl rfl rfl rfl hc5 (op_move (v := (Value.slice z6 m6 k6)) rfl rfl ?_)
   obtain ⟨x5, hx5, h⟩ := bnd h
   obtain ⟨S5, Fr1, le5, I10, r5, bk1⟩ := Inv.lend1 I9
   refine wl_taken (c := x3.2 == x4.2) rfl rfl rfl rfl hc5 (op_call (vs := [(Value.slice z4 m4 k4), (Value.slice z6 m6 k6)]) rfl ca29 rfl (args2 rfl rfl) (F29_ok I10 r5 (r4.mono le5) hx5) (fun v4 w7 S6 O3 le6 I12 hv3 => ?_))
   obtain ⟨rfl, rfl⟩ := hv3
   have I11 := bk1 [] trivial I12 le6
   refine wl_op rfl (op_pick_t (c := x3.2 == x4.2) (a := (Value.bool (x5))) rfl rfl hc5 rfl ?_)
   refine wl_op rfl (op_move (v := (Value.bool (x5))) rfl rfl ?_)
   rcases ifs h with ⟨hc6, h⟩ | ⟨hc6, h⟩
   ·
    obtain ⟨x6, hx6, h⟩ := bnd h
    refine wl_taken (c := x5) rfl rfl rfl rfl hc6 (op_call_v (vs := []) (r := (Value.bool (x6))) rfl ca16 rfl args0 I11 (fun Fr_ hF_ => F16_ok hF_  hx6) (fun w8 I13 => ?_))
    refine wl_op rfl (op_pick_t (c := x5) (a := (Value.bool (x6))) rfl rfl hc6 rfl ?_)
    refine wl_op rfl (op_assign (v := (Value.bool (x6))) rfl rfl ?_)
    refine wl_nil ?_
    refine wp_ret' ?_
    obtain rfl := Option.some.inj h
    exact ⟨(Value.bool (x6)), (res1 rfl rfl), _, [], (((le1.trans le2).trans le3).trans le4), (I13).drop, rfl, rfl⟩
   ·
    refine wl_skip (c := x5) rfl rfl rfl rfl hc6 rfl ?_
    refine wl_op rfl (op_pick_f (c := x5) (b := (Value.bool (false))) rfl rfl hc6 rfl ?_)
    refine wl_op rfl (op_assign (v := (Value.bool (false))) rfl rfl ?_)
    refine wl_nil ?_
    refine wp_ret' ?_
    obtain rfl := Option.some.inj h
    exact ⟨(Value.bool (false)), (res1 rfl rfl), _, [], (((le1.trans le2).trans le3).trans le4), (I11).drop, rfl, rfl⟩
  ·
   refine wl_skip (c := x3.2 == x4.2) rfl rfl rfl rfl hc5 rfl ?_
   refine wl_skip (c := x3.2 == x4.2) rfl rfl rfl rfl hc5 rfl ?_
   refine wl_skip (c := x3.2 == x4.2) rfl rfl rfl rfl hc5 rfl ?_
   refine wl_op rfl (op_pick_f (c := x3.2 == x4.2) (b := (Value.bool (false))) rfl rfl hc5 rfl ?_)
   refine wl_op rfl (op_move (v := (Value.bool (false))) rfl rfl ?_)
   refine wl_skip (c := false) rfl rfl rfl rfl rfl rfl ?_
   refine wl_op rfl (op_pick_f (c := false) (b := (Value.bool (false))) rfl rfl rfl rfl ?_)
   refine wl_op rfl (op_assign (v := (Value.bool (false))) rfl rfl ?_)
   refine wl_nil ?_
   refine wp_ret' ?_
   obtain rfl := Option.some.inj h
   exact ⟨(Value.bool (false)), (res1 rfl rfl), _, [], (((le1.trans le2).trans le3).trans le4), (I9).drop, rfl, rfl⟩
end Go.Proofs.Ytfeomcdhhgeilaa.Pad
