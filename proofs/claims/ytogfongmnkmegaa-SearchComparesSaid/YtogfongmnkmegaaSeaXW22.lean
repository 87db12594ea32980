/- A part of the proof: what the functions of the program compute, shown over the model. -/
import Derived.Test.YtogfongmnkmegaaSeaXP
import Derived.Test.YtogfongmnkmegaaSeaXW3
import Derived.Test.YtogfongmnkmegaaSeaXW5
import Derived.Test.YtogfongmnkmegaaSeaXW6
import Derived.Test.YtogfongmnkmegaaSeaXW13
import Derived.KernelRfl
set_option linter.unusedVariables false
namespace Go.Proofs.Ytogfongmnkmegaa.Pad
open Go Go.Proofs
set_option maxHeartbeats 4000000 in
set_option maxRecDepth 100000 in
theorem F76_ok {w : World} {S : PH} {Fr : List HP} {a0 : Int} {r : Bool} (hI : Inv w S (Fr))  (h : F76 a0 = some r) :
    Calls Try.prog 76 [(Value.int .i64 (a0))].toArray w (DoneV S Fr (Value.bool (r))) := by
 unfold F76 at h
 refine calls_enter (n := 6) (vs := [(Value.int .i64 (a0))]) Try.func76 rfl rfl rfl ?_
 refine wp_seq' ?_
 refine wp_region' ?_
 refine wl_op rfl (op_assign (v := (Value.bool (false))) rfl rfl ?_)
 refine wl_nil ?_
 refine wp_seq' ?_
 refine wp_region' ?_
 refine wl_op rfl (op_move (v := (Value.int .i64 (a0))) rfl rfl ?_)
 refine wl_op rfl (op_move (v := (Value.int .i64 (a0))) rfl rfl ?_)
 refine wl_op rfl (op_neq (a := a0) (b := a0) rfl rfl rfl ?_)
 refine wl_op rfl (op_assign (v := (Value.bool (a0 != a0))) rfl rfl ?_)
 refine wl_nil ?_
 refine wp_ret' ?_
 obtain rfl := Option.some.inj h
 exact ⟨(Value.bool (a0 != a0)), (res1 rfl rfl), _, [], (PH.Le.refl _), hI, rfl, rfl⟩

set_option maxHeartbeats 4000000 in
set_option maxRecDepth 100000 in
theorem F56_ok {w : World} {S : PH} {Fr : List HP} {a0 : Int} {a1 : Int} {r : Int} (hI : Inv w S (Fr))  (h : F56 a0 a1 = some r) :
    Calls Try.prog 56 [(Value.int .i64 (a0)), (Value.int .i64 (a1))].toArray w (DoneV S Fr (Value.int .i64 (r))) := by
 unfold F56 at h
 refine calls_enter (n := 20) (vs := [(Value.int .i64 (a0)), (Value.int .i64 (a1))]) Try.func56 rfl rfl rfl ?_
 refine wp_seq' ?_
 refine wp_region' ?_
 refine wl_op rfl (op_assign (v := (Value.int .i64 (0))) rfl rfl ?_)
 refine wl_nil ?_
 refine wp_seq' ?_
 refine wp_region' ?_
 refine wl_op rfl (op_move (v := (Value.int .i64 (a0))) rfl rfl ?_)
 obtain ⟨x1, hx1, h⟩ := bnd h
 refine wl_op rfl (op_call_v (vs := [(Value.int .i64 (a0))]) (r := (Value.bool (x1))) rfl ca76 rfl (args1 rfl) hI (fun Fr_ hF_ => F76_ok hF_  hx1) (fun w1 I1 => ?_))
 refine wl_op rfl (op_assign (v := (Value.bool (x1))) rfl rfl ?_)
 refine wl_nil ?_
 refine wp_seq' ?_
 refine wp_region' ?_
 refine wl_op rfl (op_move (v := (Value.int .i64 (a1))) rfl rfl ?_)
 obtain ⟨x2, hx2, h⟩ := bnd h
 refine wl_op rfl (op_call_v (vs := [(Value.int .i64 (a1))]) (r := (Value.bool (x2))) rfl ca76 rfl (args1 rfl) I1 (fun Fr_ hF_ => F76_ok hF_  hx2) (fun w2 I2 => ?_))
 refine wl_op rfl (op_assign (v := (Value.bool (x2))) rfl rfl ?_)
 refine wl_nil ?_
 refine wp_seq' ?_
 refine wp_seq' ?_
 refine wp_region' ?_
 refine wl_op rfl (op_move (v := (Value.bool (x1))) rfl rfl ?_)
 refine wl_nil ?_
 rcases ifs h with ⟨hc1, h⟩ | ⟨hc1, h⟩
 ·
  refine wp_cond_t (b := x1) rfl hc1 ?_
  refine wp_seq' ?_
  refine wp_seq' ?_
  refine wp_region' ?_
  refine wl_op rfl (op_move (v := (Value.bool (x2))) rfl rfl ?_)
  refine wl_nil ?_
  rcases ifs h with ⟨hc2, h⟩ | ⟨hc2, h⟩
  ·
   refine wp_cond_t (b := x2) rfl hc2 ?_
   refine wp_seq' ?_
   refine wp_region' ?_
   refine wl_op rfl (op_assign (v := (Value.int .i64 (0))) rfl rfl ?_)
   refine wl_nil ?_
   refine wp_ret' ?_
   obtain rfl := Option.some.inj h
   exact ⟨(Value.int .i64 (0)), (res1 rfl rfl), _, [], (PH.Le.refl _), I2, rfl, rfl⟩
  ·
   refine wp_cond_f (b := x2) rfl hc2 ?_
   refine wp_skip' ?_
   refine wp_seq' ?_
   refine wp_region' ?_
   refine wl_op rfl (op_assign (v := (Value.int .i64 ((-1)))) rfl rfl ?_)
   refine wl_nil ?_
   refine wp_ret' ?_
   obtain rfl := Option.some.inj h
   exact ⟨(Value.int .i64 ((-1))), (res1 rfl rfl), _, [], (PH.Le.refl _), I2, rfl, rfl⟩
 ·
  refine wp_cond_f (b := x1) rfl hc1 ?_
  refine wp_skip' ?_
  refine wp_seq' ?_
  refine wp_seq' ?_
  refine wp_region' ?_
  refine wl_op rfl (op_move (v := (Value.bool (x2))) rfl rfl ?_)
  refine wl_nil ?_
  rcases ifs h with ⟨hc3, h⟩ | ⟨hc3, h⟩
  ·
   refine wp_cond_t (b := x2) rfl hc3 ?_
   refine wp_seq' ?_
   refine wp_region' ?_
   refine wl_op rfl (op_assign (v := (Value.int .i64 (1))) rfl rfl ?_)
   refine wl_nil ?_
   refine wp_ret' ?_
   obtain rfl := Option.some.inj h
   exact ⟨(Value.int .i64 (1)), (res1 rfl rfl), _, [], (PH.Le.refl _), I2, rfl, rfl⟩
  ·
   refine wp_cond_f (b := x2) rfl hc3 ?_
   refine wp_skip' ?_
   refine wp_seq' ?_
   refine wp_seq' ?_
   refine wp_region' ?_
   refine wl_op rfl (op_move (v := (Value.int .i64 (a0))) rfl rfl ?_)
   refine wl_op rfl (op_move (v := (Value.int .i64 (a1))) rfl rfl ?_)
   refine wl_op rfl (op_lss (a := a0) (b := a1) rfl rfl rfl ?_)
   refine wl_nil ?_
   rcases ifs h with ⟨hc4, h⟩ | ⟨hc4, h⟩
   ·
    refine wp_cond_t (b := decide (a0 < a1)) rfl hc4 ?_
    refine wp_seq' ?_
    refine wp_region' ?_
    refine wl_op rfl (op_assign (v := (Value.int .i64 ((-1)))) rfl rfl ?_)
    refine wl_nil ?_
    refine wp_ret' ?_
    obtain rfl := Option.some.inj h
    exact ⟨(Value.int .i64 ((-1))), (res1 rfl rfl), _, [], (PH.Le.refl _), I2, rfl, rfl⟩
   ·
    refine wp_cond_f (b := decide (a0 < a1)) rfl hc4 ?_
    refine wp_skip' ?_
    refine wp_seq' ?_
    refine wp_seq' ?_
    refine wp_region' ?_
    refine wl_op rfl (op_move (v := (Value.int .i64 (a0))) rfl rfl ?_)
    refine wl_op rfl (op_move (v := (Value.int .i64 (a1))) rfl rfl ?_)
    refine wl_op rfl (op_gtr (a := a0) (b := a1) rfl rfl rfl ?_)
    refine wl_nil ?_
    rcases ifs h with ⟨hc5, h⟩ | ⟨hc5, h⟩
    ·
     refine wp_cond_t (b := decide (a1 < a0)) rfl hc5 ?_
     refine wp_seq' ?_
     refine wp_region' ?_
     refine wl_op rfl (op_assign (v := (Value.int .i64 (1))) rfl rfl ?_)
     refine wl_nil ?_
     refine wp_ret' ?_
     obtain rfl := Option.some.inj h
     exact ⟨(Value.int .i64 (1)), (res1 rfl rfl), _, [], (PH.Le.refl _), I2, rfl, rfl⟩
    ·
     refine wp_cond_f (b := decide (a1 < a0)) rfl hc5 ?_
     refine wp_skip' ?_
     refine wp_seq' ?_
     refine wp_region' ?_
     refine wl_op rfl (op_assign (v := (Value.int .i64 (0))) rfl rfl ?_)
     refine wl_nil ?_
     refine wp_ret' ?_
     obtain rfl := Option.some.inj h
     exact ⟨(Value.int .i64 (0)), (res1 rfl rfl), _, [], (PH.Le.refl _), I2, rfl, rfl⟩

set_option maxHeartbeats 4000000 in
set_option maxRecDepth 100000 in
theorem F31_ok {w : World} {S : PH} {Fr : List HP} {a0 : Graph} {v0 : Value} {a1 : Graph} {v1 : Value} {a2 : (List Int)} {v2 : Value} {a3 : (List Int)} {v3 : Value} {a4 : Int} {a5 : Int} {r : Int × Int} (hI : Inv w S (Fr)) (h0_ : RV S v0 a0) (h1_ : RV S v1 a1) (h2_ : RV S v2 a2) (h3_ : RV S v3 a3) (h : F31 a0 a1 a2 a3 a4 a5 = some r) :
    Calls Try.prog 31 [v0, v1, v2, v3, (Value.int .i64 (a4)), (Value.int .i64 (a5))].toArray w (DoneV S Fr (Value.tuple #[(Value.int .i64 (r.1)), (Value.int .i64 (r.2))])) := by
 unfold F31 at h
 obtain ⟨c1, c2, e1, r1, r2⟩ := Graph.inv h0_
 subst e1
 obtain ⟨z1, m1, k1, e2⟩ := rv_form r1
 subst e2
 obtain ⟨z2, m2, k2, e3⟩ := rv_form r2
 subst e3
 obtain ⟨c3, c4, e4, r3, r4⟩ := Graph.inv h1_
 subst e4
 obtain ⟨z3, m3, k3, e5⟩ := rv_form r3
 subst e5
 obtain ⟨z4, m4, k4, e6⟩ := rv_form r4
 subst e6
 obtain ⟨z5, m5, k5, e7⟩ := rv_form h2_
 subst e7
 obtain ⟨z6, m6, k6, e8⟩ := rv_form h3_
 subst e8
 refine calls_enter (n := 50) (vs := [(Value.agg #[(Value.slice z1 m1 k1), (Value.slice z2 m2 k2)]), (Value.agg #[(Value.slice z3 m3 k3), (Value.slice z4 m4 k4)]), (Value.slice z5 m5 k5), (Value.slice z6 m6 k6), (Value.int .i64 (a4)), (Value.int .i64 (a5))]) Try.func31 rfl rfl rfl ?_
 refine wp_seq' ?_
 refine wp_region' ?_
 refine wl_op rfl (op_box (v := (Value.agg #[(Value.slice z1 m1 k1), (Value.slice z2 m2 k2)])) rfl hI rfl (fun g1 w1 I1 => ?_))
 obtain ⟨S1, le1, I2, p1⟩ := Inv.boxFreeze (x := a0) I1 (Graph.rv (s := a0) r1 r2)
 refine wl_op rfl (op_box (v := (Value.agg #[(Value.slice z3 m3 k3), (Value.slice z4 m4 k4)])) rfl I2 rfl (fun g2 w2 I3 => ?_))
 obtain ⟨S2, le2, I4, p2⟩ := Inv.boxFreeze (x := a1) I3 (Graph.rv (s := a1) (r3.mono le1) (r4.mono le1))
 refine wl_op rfl (op_assign (v := (Value.int .i64 (0))) rfl rfl ?_)
 refine wl_op rfl (op_assign (v := (Value.int .i64 (0))) rfl rfl ?_)
 refine wl_nil ?_
 refine wp_seq' ?_
 refine wp_region' ?_
 refine wl_op rfl (op_load (v := (Value.pointer (some ⟨g1, 0, none⟩))) (e := a0) rfl sh25 rfl ((p1.mono le2).at_ I4) (fun u1 hu1 => ?_))
 obtain ⟨c5, c6, e9, r5, r6⟩ := Graph.inv hu1
 subst e9
 obtain ⟨z7, m7, k7, e10⟩ := rv_form r5
 subst e10
 obtain ⟨z8, m8, k8, e11⟩ := rv_form r6
 subst e11
 refine wl_op rfl (op_move (v := (Value.slice z5 m5 k5)) rfl rfl ?_)
 refine wl_op rfl (op_move (v := (Value.int .i64 (a4))) rfl rfl ?_)
 refine wl_op rfl (op_move (v := (Value.int .i64 (a5))) rfl rfl ?_)
 obtain ⟨x1, hx1, h⟩ := bnd h
 refine wl_op rfl (op_call_v (vs := [(Value.agg #[(Value.slice z7 m7 k7), (Value.slice z8 m8 k8)]), (Value.slice z5 m5 k5), (Value.int .i64 (a4)), (Value.int .i64 (a5))]) (r := (Value.tuple #[(Value.int .i64 (x1.1)), (Value.int .i64 (x1.2.1)), (Value.int .i64 (x1.2.2))])) rfl ca29 rfl (args4 rfl rfl rfl rfl) I4 (fun Fr_ hF_ => F29_ok hF_ (Graph.rv (s := a0) r5 r6) (h2_.mono (le1.trans le2)) hx1) (fun w3 I5 => ?_))
 refine wl_op rfl (op_move (v := (Value.tuple #[(Value.int .i64 (x1.1)), (Value.int .i64 (x1.2.1)), (Value.int .i64 (x1.2.2))])) rfl rfl ?_)
 refine wl_op rfl (op_extract (v := (Value.int .i64 (x1.1))) rfl rfl rfl ?_)
 refine wl_op rfl (op_extract (v := (Value.int .i64 (x1.2.1))) rfl rfl rfl ?_)
 refine wl_op rfl (op_extract (v := (Value.int .i64 (x1.2.2))) rfl rfl rfl ?_)
 refine wl_op rfl (op_assign (v := (Value.int .i64 (x1.1))) rfl rfl ?_)
 refine wl_op rfl (op_assign (v := (Value.int .i64 (x1.2.1))) rfl rfl ?_)
 refine wl_op rfl (op_assign (v := (Value.int .i64 (x1.2.2))) rfl rfl ?_)
 refine wl_nil ?_
 refine wp_seq' ?_
 refine wp_seq' ?_
 refine wp_region' ?_
 refine wl_op rfl (op_move (v := (Value.int .i64 (x1.2.2))) rfl rfl ?_)
 refine wl_op rfl (op_neq (a := x1.2.2) (b := 0) rfl rfl rfl ?_)
 refine wl_nil ?_
 rcases ifs h with ⟨hc1, h⟩ | ⟨hc1, h⟩
 ·
  refine wp_cond_t (b := x1.2.2 != 0) rfl hc1 ?_
  refine wp_seq' ?_
  refine wp_region' ?_
  refine wl_op rfl (op_move (v := (Value.int .i64 (x1.2.2))) rfl rfl ?_)
  refine wl_op rfl (op_assign (v := (Value.int .i64 (0))) rfl rfl ?_)
  refine wl_op rfl (op_assign (v := (Value.int .i64 (x1.2.2))) rfl rfl ?_)
  refine wl_nil ?_
  refine wp_ret' ?_
  obtain rfl := Option.some.inj h
  exact ⟨(Value.tuple #[(Value.int .i64 (0)), (Value.int .i64 (x1.2.2))]), (res2 rfl rfl rfl), _, [], (le1.trans le2), I5, rfl, rfl⟩
 ·
  refine wp_cond_f (b := x1.2.2 != 0) rfl hc1 ?_
  refine wp_skip' ?_
  refine wp_seq' ?_
  refine wp_region' ?_
  refine wl_op rfl (op_load (v := (Value.pointer (some ⟨g2, 0, none⟩))) (e := a1) rfl sh25 rfl (p2.at_ I5) (fun u2 hu2 => ?_))
  obtain ⟨c7, c8, e12, r7, r8⟩ := Graph.inv hu2
  subst e12
  obtain ⟨z9, m9, k9, e13⟩ := rv_form r7
  subst e13
  obtain ⟨z10, m10, k10, e14⟩ := rv_form r8
  subst e14
  refine wl_op rfl (op_move (v := (Value.slice z6 m6 k6)) rfl rfl ?_)
  refine wl_op rfl (op_move (v := (Value.int .i64 (a4))) rfl rfl ?_)
  refine wl_op rfl (op_move (v := (Value.int .i64 (a5))) rfl rfl ?_)
  obtain ⟨x2, hx2, h⟩ := bnd h
  refine wl_op rfl (op_call_v (vs := [(Value.agg #[(Value.slice z9 m9 k9), (Value.slice z10 m10 k10)]), (Value.slice z6 m6 k6), (Value.int .i64 (a4)), (Value.int .i64 (a5))]) (r := (Value.tuple #[(Value.int .i64 (x2.1)), (Value.int .i64 (x2.2.1)), (Value.int .i64 (x2.2.2))])) rfl ca29 rfl (args4 rfl rfl rfl rfl) I5 (fun Fr_ hF_ => F29_ok hF_ (Graph.rv (s := a1) r7 r8) (h3_.mono (le1.trans le2)) hx2) (fun w4 I6 => ?_))
  refine wl_op rfl (op_move (v := (Value.tuple #[(Value.int .i64 (x2.1)), (Value.int .i64 (x2.2.1)), (Value.int .i64 (x2.2.2))])) rfl rfl ?_)
  refine wl_op rfl (op_extract (v := (Value.int .i64 (x2.1))) rfl rfl rfl ?_)
  refine wl_op rfl (op_extract (v := (Value.int .i64 (x2.2.1))) rfl rfl rfl ?_)
  refine wl_op rfl (op_extract (v := (Value.int .i64 (x2.2.2))) rfl rfl rfl ?_)
  refine wl_op rfl (op_assign (v := (Value.int .i64 (x2.1))) rfl rfl ?_)
  refine wl_op rfl (op_assign (v := (Value.int .i64 (x2.2.1))) rfl rfl ?_)
  refine wl_op rfl (op_assign (v := (Value.int .i64 (x2.2.2))) rfl rfl ?_)
  refine wl_nil ?_
  refine wp_seq' ?_
  refine wp_seq' ?_
  refine wp_region' ?_
  refine wl_op rfl (op_move (v := (Value.int .i64 (x2.2.2))) rfl rfl ?_)
  refine wl_op rfl (op_neq (a := x2.2.2) (b := 0) rfl rfl rfl ?_)
  refine wl_nil ?_
  rcases ifs h with ⟨hc2, h⟩ | ⟨hc2, h⟩
  ·
   refine wp_cond_t (b := x2.2.2 != 0) rfl hc2 ?_
   refine wp_seq' ?_
   refine wp_region' ?_
   refine wl_op rfl (op_move (v := (Value.int .i64 (x2.2.2))) rfl rfl ?_)
   refine wl_op rfl (op_assign (v := (Value.int .i64 (0))) rfl rfl ?_)
   refine wl_op rfl (op_assign (v := (Value.int .i64 (x2.2.2))) rfl rfl ?_)
   refine wl_nil ?_
   refine wp_ret' ?_
   obtain rfl := Option.some.inj h
   exact ⟨(Value.tuple #[(Value.int .i64 (0)), (Value.int .i64 (x2.2.2))]), (res2 rfl rfl rfl), _, [], (le1.trans le2), I6, rfl, rfl⟩
  ·
   refine wp_cond_f (b := x2.2.2 != 0) rfl hc2 ?_
   refine wp_skip' ?_
   refine wp_seq' ?_
   refine wp_region' ?_
   refine wl_op rfl (op_move (v := (Value.int .i64 (x1.1))) rfl rfl ?_)
   refine wl_op rfl (op_move (v := (Value.int .i64 (x2.2.1))) rfl rfl ?_)
   refine wl_op rfl (op_mul (a := x1.1) (b := x2.2.1) rfl rfl rfl ?_)
   refine wl_op rfl (op_move (v := (Value.int .i64 (x2.1))) rfl rfl ?_)
   refine wl_op rfl (op_move (v := (Value.int .i64 (x1.2.1))) rfl rfl ?_)
   refine wl_op rfl (op_mul (a := x2.1) (b := x1.2.1) rfl rfl rfl ?_)
   obtain ⟨x3, hx3, h⟩ := bnd h
   refine wl_op rfl (op_call_v (vs := [(Value.int .i64 (w64 (x1.1 * x2.2.1))), (Value.int .i64 (w64 (x2.1 * x1.2.1)))]) (r := (Value.int .i64 (x3))) rfl ca56 rfl (args2 rfl rfl) I6 (fun Fr_ hF_ => F56_ok hF_  hx3) (fun w5 I7 => ?_))
   refine wl_op rfl (op_assign (v := (Value.int .i64 (x3))) rfl rfl ?_)
   refine wl_op rfl (op_assign (v := (Value.int .i64 (0))) rfl rfl ?_)
   refine wl_nil ?_
   refine wp_ret' ?_
   obtain rfl := Option.some.inj h
   exact ⟨(Value.tuple #[(Value.int .i64 (x3)), (Value.int .i64 (0))]), (res2 rfl rfl rfl), _, [], (le1.trans le2), I7, rfl, rfl⟩

set_option maxHeartbeats 4000000 in
set_option maxRecDepth 100000 in
theorem F32_ok {w : World} {S : PH} {Fr : List HP} {a0 : Graph} {v0 : Value} {a1 : Graph} {v1 : Value} {a2 : (List Int)} {v2 : Value} {a3 : (List Int)} {v3 : Value} {a4 : Int} {a5 : Int} {r : Int × Int} (hI : Inv w S (Fr)) (h0_ : RV S v0 a0) (h1_ : RV S v1 a1) (h2_ : RV S v2 a2) (h3_ : RV S v3 a3) (h : F32 a0 a1 a2 a3 a4 a5 = some r) :
    Calls Try.prog 32 [v0, v1, v2, v3, (Value.int .i64 (a4)), (Value.int .i64 (a5))].toArray w (DoneV S Fr (Value.tuple #[(Value.int .i64 (r.1)), (Value.int .i64 (r.2))])) := by
 unfold F32 at h
 obtain ⟨c1, c2, e1, r1, r2⟩ := Graph.inv h0_
 subst e1
 obtain ⟨z1, m1, k1, e2⟩ := rv_form r1
 subst e2
 obtain ⟨z2, m2, k2, e3⟩ := rv_form r2
 subst e3
 obtain ⟨c3, c4, e4, r3, r4⟩ := Graph.inv h1_
 subst e4
 obtain ⟨z3, m3, k3, e5⟩ := rv_form r3
 subst e5
 obtain ⟨z4, m4, k4, e6⟩ := rv_form r4
 subst e6
 obtain ⟨z5, m5, k5, e7⟩ := rv_form h2_
 subst e7
 obtain ⟨z6, m6, k6, e8⟩ := rv_form h3_
 subst e8
 refine calls_enter (n := 59) (vs := [(Value.agg #[(Value.slice z1 m1 k1), (Value.slice z2 m2 k2)]), (Value.agg #[(Value.slice z3 m3 k3), (Value.slice z4 m4 k4)]), (Value.slice z5 m5 k5), (Value.slice z6 m6 k6), (Value.int .i64 (a4)), (Value.int .i64 (a5))]) Try.func32 rfl rfl rfl ?_
 refine wp_seq' ?_
 refine wp_region' ?_
 refine wl_op rfl (op_box (v := (Value.agg #[(Value.slice z1 m1 k1), (Value.slice z2 m2 k2)])) rfl hI rfl (fun g1 w1 I1 => ?_))
 obtain ⟨S1, le1, I2, p1⟩ := Inv.boxFreeze (x := a0) I1 (Graph.rv (s := a0) r1 r2)
 refine wl_op rfl (op_box (v := (Value.agg #[(Value.slice z3 m3 k3), (Value.slice z4 m4 k4)])) rfl I2 rfl (fun g2 w2 I3 => ?_))
 obtain ⟨S2, le2, I4, p2⟩ := Inv.boxFreeze (x := a1) I3 (Graph.rv (s := a1) (r3.mono le1) (r4.mono le1))
 refine wl_op rfl (op_assign (v := (Value.int .i64 (0))) rfl rfl ?_)
 refine wl_op rfl (op_assign (v := (Value.int .i64 (0))) rfl rfl ?_)
 refine wl_nil ?_
 refine wp_seq' ?_
 refine wp_region' ?_
 refine wl_op rfl (op_load (v := (Value.pointer (some ⟨g1, 0, none⟩))) (e := a0) rfl sh25 rfl ((p1.mono le2).at_ I4) (fun u1 hu1 => ?_))
 obtain ⟨c5, c6, e9, r5, r6⟩ := Graph.inv hu1
 subst e9
 obtain ⟨z7, m7, k7, e10⟩ := rv_form r5
 subst e10
 obtain ⟨z8, m8, k8, e11⟩ := rv_form r6
 subst e11
 refine wl_op rfl (op_move (v := (Value.slice z5 m5 k5)) rfl rfl ?_)
 refine wl_op rfl (op_move (v := (Value.int .i64 (a4))) rfl rfl ?_)
 refine wl_op rfl (op_move (v := (Value.int .i64 (a5))) rfl rfl ?_)
 obtain ⟨x1, hx1, h⟩ := bnd h
 refine wl_op rfl (op_call_v (vs := [(Value.agg #[(Value.slice z7 m7 k7), (Value.slice z8 m8 k8)]), (Value.slice z5 m5 k5), (Value.int .i64 (a4)), (Value.int .i64 (a5))]) (r := (Value.tuple #[(Value.int .i64 (x1.1)), (Value.int .i64 (x1.2.1)), (Value.int .i64 (x1.2.2))])) rfl ca30 rfl (args4 rfl rfl rfl rfl) I4 (fun Fr_ hF_ => F30_ok hF_ (Graph.rv (s := a0) r5 r6) (h2_.mono (le1.trans le2)) hx1) (fun w3 I5 => ?_))
 refine wl_op rfl (op_move (v := (Value.tuple #[(Value.int .i64 (x1.1)), (Value.int .i64 (x1.2.1)), (Value.int .i64 (x1.2.2))])) rfl rfl ?_)
 refine wl_op rfl (op_extract (v := (Value.int .i64 (x1.1))) rfl rfl rfl ?_)
 refine wl_op rfl (op_extract (v := (Value.int .i64 (x1.2.1))) rfl rfl rfl ?_)
 refine wl_op rfl (op_extract (v := (Value.int .i64 (x1.2.2))) rfl rfl rfl ?_)
 refine wl_op rfl (op_assign (v := (Value.int .i64 (x1.1))) rfl rfl ?_)
 refine wl_op rfl (op_assign (v := (Value.int .i64 (x1.2.1))) rfl rfl ?_)
 refine wl_op rfl (op_assign (v := (Value.int .i64 (x1.2.2))) rfl rfl ?_)
 refine wl_nil ?_
 refine wp_seq' ?_
 refine wp_seq' ?_
 refine wp_region' ?_
 refine wl_op rfl (op_move (v := (Value.int .i64 (x1.2.2))) rfl rfl ?_)
 refine wl_op rfl (op_neq (a := x1.2.2) (b := 0) rfl rfl rfl ?_)
 refine wl_nil ?_
 rcases ifs h with ⟨hc1, h⟩ | ⟨hc1, h⟩
 ·
  refine wp_cond_t (b := x1.2.2 != 0) rfl hc1 ?_
  refine wp_seq' ?_
  refine wp_region' ?_
  refine wl_op rfl (op_move (v := (Value.int .i64 (x1.2.2))) rfl rfl ?_)
  refine wl_op rfl (op_assign (v := (Value.int .i64 (0))) rfl rfl ?_)
  refine wl_op rfl (op_assign (v := (Value.int .i64 (x1.2.2))) rfl rfl ?_)
  refine wl_nil ?_
  refine wp_ret' ?_
  obtain rfl := Option.some.inj h
  exact ⟨(Value.tuple #[(Value.int .i64 (0)), (Value.int .i64 (x1.2.2))]), (res2 rfl rfl rfl), _, [], (le1.trans le2), I5, rfl, rfl⟩
 ·
  refine wp_cond_f (b := x1.2.2 != 0) rfl hc1 ?_
  refine wp_skip' ?_
  refine wp_seq' ?_
  refine wp_region' ?_
  refine wl_op rfl (op_load (v := (Value.pointer (some ⟨g2, 0, none⟩))) (e := a1) rfl sh25 rfl (p2.at_ I5) (fun u2 hu2 => ?_))
  obtain ⟨c7, c8, e12, r7, r8⟩ := Graph.inv hu2
  subst e12
  obtain ⟨z9, m9, k9, e13⟩ := rv_form r7
  subst e13
  obtain ⟨z10, m10, k10, e14⟩ := rv_form r8
  subst e14
  refine wl_op rfl (op_move (v := (Value.slice z6 m6 k6)) rfl rfl ?_)
  refine wl_op rfl (op_move (v := (Value.int .i64 (a4))) rfl rfl ?_)
  refine wl_op rfl (op_move (v := (Value.int .i64 (a5))) rfl rfl ?_)
  obtain ⟨x2, hx2, h⟩ := bnd h
  refine wl_op rfl (op_call_v (vs := [(Value.agg #[(Value.slice z9 m9 k9), (Value.slice z10 m10 k10)]), (Value.slice z6 m6 k6), (Value.int .i64 (a4)), (Value.int .i64 (a5))]) (r := (Value.tuple #[(Value.int .i64 (x2.1)), (Value.int .i64 (x2.2.1)), (Value.int .i64 (x2.2.2))])) rfl ca30 rfl (args4 rfl rfl rfl rfl) I5 (fun Fr_ hF_ => F30_ok hF_ (Graph.rv (s := a1) r7 r8) (h3_.mono (le1.trans le2)) hx2) (fun w4 I6 => ?_))
  refine wl_op rfl (op_move (v := (Value.tuple #[(Value.int .i64 (x2.1)), (Value.int .i64 (x2.2.1)), (Value.int .i64 (x2.2.2))])) rfl rfl ?_)
  refine wl_op rfl (op_extract (v := (Value.int .i64 (x2.1))) rfl rfl rfl ?_)
  refine wl_op rfl (op_extract (v := (Value.int .i64 (x2.2.1))) rfl rfl rfl ?_)
  refine wl_op rfl (op_extract (v := (Value.int .i64 (x2.2.2))) rfl rfl rfl ?_)
  refine wl_op rfl (op_assign (v := (Value.int .i64 (x2.1))) rfl rfl ?_)
  refine wl_op rfl (op_assign (v := (Value.int .i64 (x2.2.1))) rfl rfl ?_)
  refine wl_op rfl (op_assign (v := (Value.int .i64 (x2.2.2))) rfl rfl ?_)
  refine wl_nil ?_
  refine wp_seq' ?_
  refine wp_seq' ?_
  refine wp_region' ?_
  refine wl_op rfl (op_move (v := (Value.int .i64 (x2.2.2))) rfl rfl ?_)
  refine wl_op rfl (op_neq (a := x2.2.2) (b := 0) rfl rfl rfl ?_)
  refine wl_nil ?_
  rcases ifs h with ⟨hc2, h⟩ | ⟨hc2, h⟩
  ·
   refine wp_cond_t (b := x2.2.2 != 0) rfl hc2 ?_
   refine wp_seq' ?_
   refine wp_region' ?_
   refine wl_op rfl (op_move (v := (Value.int .i64 (x2.2.2))) rfl rfl ?_)
   refine wl_op rfl (op_assign (v := (Value.int .i64 (0))) rfl rfl ?_)
   refine wl_op rfl (op_assign (v := (Value.int .i64 (x2.2.2))) rfl rfl ?_)
   refine wl_nil ?_
   refine wp_ret' ?_
   obtain rfl := Option.some.inj h
   exact ⟨(Value.tuple #[(Value.int .i64 (0)), (Value.int .i64 (x2.2.2))]), (res2 rfl rfl rfl), _, [], (le1.trans le2), I6, rfl, rfl⟩
  ·
   refine wp_cond_f (b := x2.2.2 != 0) rfl hc2 ?_
   refine wp_skip' ?_
   refine wp_seq' ?_
   refine wp_block' ?_
   refine wp_seq' ?_
   refine wp_region' ?_
   refine wl_op rfl (op_move (v := (Value.int .i64 (x1.1))) rfl rfl ?_)
   refine wl_op rfl (op_move (v := (Value.int .i64 (x2.2.1))) rfl rfl ?_)
   refine wl_op rfl (op_mul (a := x1.1) (b := x2.2.1) rfl rfl rfl ?_)
   refine wl_op rfl (op_move (v := (Value.int .i64 (x2.1))) rfl rfl ?_)
   refine wl_op rfl (op_move (v := (Value.int .i64 (x1.2.1))) rfl rfl ?_)
   refine wl_op rfl (op_mul (a := x2.1) (b := x1.2.1) rfl rfl rfl ?_)
   refine wl_op rfl (op_lss (a := w64 (x1.1 * x2.2.1)) (b := w64 (x2.1 * x1.2.1)) rfl rfl rfl ?_)
   refine wl_op rfl (op_assign (v := (Value.bool (decide ((w64 (x1.1 * x2.2.1)) < (w64 (x2.1 * x1.2.1)))))) rfl rfl ?_)
   refine wl_nil ?_
   rcases ifs h with ⟨hc3, h⟩ | ⟨hc3, h⟩
   ·
    refine wp_cond_t (b := decide ((w64 (x1.1 * x2.2.1)) < (w64 (x2.1 * x1.2.1)))) rfl hc3 ?_
    refine wp_seq' ?_
    refine wp_region' ?_
    refine wl_op rfl (op_assign (v := (Value.int .i64 ((-1)))) rfl rfl ?_)
    refine wl_op rfl (op_assign (v := (Value.int .i64 (0))) rfl rfl ?_)
    refine wl_nil ?_
    refine wp_ret' ?_
    obtain rfl := Option.some.inj h
    exact ⟨(Value.tuple #[(Value.int .i64 ((-1))), (Value.int .i64 (0))]), (res2 rfl rfl rfl), _, [], (le1.trans le2), I6, rfl, rfl⟩
   ·
    refine wp_cond_f (b := decide ((w64 (x1.1 * x2.2.1)) < (w64 (x2.1 * x1.2.1)))) rfl hc3 ?_
    refine wp_seq' ?_
    refine wp_region' ?_
    refine wl_op rfl (op_move (v := (Value.int .i64 (x1.1))) rfl rfl ?_)
    refine wl_op rfl (op_move (v := (Value.int .i64 (x2.2.1))) rfl rfl ?_)
    refine wl_op rfl (op_mul (a := x1.1) (b := x2.2.1) rfl rfl rfl ?_)
    refine wl_op rfl (op_move (v := (Value.int .i64 (x2.1))) rfl rfl ?_)
    refine wl_op rfl (op_move (v := (Value.int .i64 (x1.2.1))) rfl rfl ?_)
    refine wl_op rfl (op_mul (a := x2.1) (b := x1.2.1) rfl rfl rfl ?_)
    refine wl_op rfl (op_gtr (a := w64 (x1.1 * x2.2.1)) (b := w64 (x2.1 * x1.2.1)) rfl rfl rfl ?_)
    refine wl_op rfl (op_assign (v := (Value.bool (decide ((w64 (x2.1 * x1.2.1)) < (w64 (x1.1 * x2.2.1)))))) rfl rfl ?_)
    refine wl_nil ?_
    rcases ifs h with ⟨hc4, h⟩ | ⟨hc4, h⟩
    ·
     refine wp_cond_t (b := decide ((w64 (x2.1 * x1.2.1)) < (w64 (x1.1 * x2.2.1)))) rfl hc4 ?_
     refine wp_seq' ?_
     refine wp_region' ?_
     refine wl_op rfl (op_assign (v := (Value.int .i64 (1))) rfl rfl ?_)
     refine wl_op rfl (op_assign (v := (Value.int .i64 (0))) rfl rfl ?_)
     refine wl_nil ?_
     refine wp_ret' ?_
     obtain rfl := Option.some.inj h
     exact ⟨(Value.tuple #[(Value.int .i64 (1)), (Value.int .i64 (0))]), (res2 rfl rfl rfl), _, [], (le1.trans le2), I6, rfl, rfl⟩
    ·
     refine wp_cond_f (b := decide ((w64 (x2.1 * x1.2.1)) < (w64 (x1.1 * x2.2.1)))) rfl hc4 ?_
     refine wp_skip' ?_
     refine wp_seq' ?_
     refine wp_region' ?_
     refine wl_op rfl (op_assign (v := (Value.int .i64 (0))) rfl rfl ?_)
     refine wl_op rfl (op_assign (v := (Value.int .i64 (0))) rfl rfl ?_)
     refine wl_nil ?_
     refine wp_ret' ?_
     obtain rfl := Option.some.inj h
     exact ⟨(Value.tuple #[(Value.int .i64 (0)), (Value.int .i64 (0))]), (res2 rfl rfl rfl), _, [], (le1.trans le2), I6, rfl, rfl⟩

set_option maxHeartbeats 4000000 in
set_option maxRecDepth 100000 in
theorem F9_ok {w : World} {S : PH} {Fr : List HP} {a0 : Graph} {v0 : Value} {a1 : (List Int)} {v1 : Value} {a2 : Law06_Other} {v2 : Value} {r : Bool} (hI : Inv w S (Fr)) (h0_ : RV S v0 a0) (h1_ : RV S v1 a1) (h2_ : RV S v2 a2) (h : F9 a0 a1 a2 = some r) :
    Calls Try.prog 9 [v0, v1, v2].toArray w (DoneV S Fr (Value.bool (r))) := by
 unfold F9 at h
 obtain ⟨c1, c2, e1, r1, r2⟩ := Graph.inv h0_
 subst e1
 obtain ⟨z1, m1, k1, e2⟩ := rv_form r1
 subst e2
 obtain ⟨z2, m2, k2, e3⟩ := rv_form r2
 subst e3
 obtain ⟨z3, m3, k3, e4⟩ := rv_form h1_
 subst e4
 obtain ⟨c3, c4, c5, e5, r3, r4, r5⟩ := Law06_Other.inv h2_
 subst e5
 obtain ⟨z4, m4, k4, e6⟩ := rv_form r3
 subst e6
 obtain ⟨z5, m5, k5, e7⟩ := rv_form r4
 subst e7
 obtain ⟨z6, m6, k6, e8⟩ := rv_form r5
 subst e8
 refine calls_enter (n := 112) (vs := [(Value.agg #[(Value.slice z1 m1 k1), (Value.slice z2 m2 k2)]), (Value.slice z3 m3 k3), (Value.agg #[(Value.slice z4 m4 k4), (Value.slice z5 m5 k5), (Value.slice z6 m6 k6), (Value.int .i64 (a2.Run.Mind.Memory)), (Value.int .i64 (a2.Run.Mind.Turn)), (Value.int .i64 (a2.Run.Most))])]) Try.func9 rfl rfl rfl ?_
 refine wp_seq' ?_
 refine wp_region' ?_
 refine wl_op rfl (op_box (v := (Value.agg #[(Value.slice z1 m1 k1), (Value.slice z2 m2 k2)])) rfl hI rfl (fun g1 w1 I1 => ?_))
 obtain ⟨S1, le1, I2, p1⟩ := Inv.boxFreeze (x := a0) I1 (Graph.rv (s := a0) r1 r2)
 refine wl_op rfl (op_box (v := (Value.agg #[(Value.slice z4 m4 k4), (Value.slice z5 m5 k5), (Value.slice z6 m6 k6), (Value.int .i64 (a2.Run.Mind.Memory)), (Value.int .i64 (a2.Run.Mind.Turn)), (Value.int .i64 (a2.Run.Most))])) rfl I2 rfl (fun g2 w2 I3 => ?_))
 obtain ⟨S2, le2, I4, p2⟩ := Inv.boxFreeze (x := a2) I3 (Law06_Other.rv (s := a2) (r3.mono le1) (r4.mono le1) (r5.mono le1))
 refine wl_op rfl (op_assign (v := (Value.bool (false))) rfl rfl ?_)
 refine wl_nil ?_
 obtain ⟨ov1, h2, h⟩ := bnd h
 refine wp_cut (fun f w => ∃ v1, ov1 = Sum.inl v1 ∧ Inv w S2 (Fr) ∧ f 1 = (Value.slice z3 m3 k3) ∧ f 3 = (Value.pointer (some ⟨g1, 0, none⟩)) ∧ f 5 = (Value.pointer (some ⟨g2, 0, none⟩))) ?_ ?_
 ·
  refine wp_seq' ?_
  refine wp_region' ?_
  refine wl_op rfl (op_load (v := (Value.pointer (some ⟨g1, 0, none⟩))) (e := a0) rfl sh25 rfl ((p1.mono le2).at_ I4) (fun u3 hu3 => ?_))
  obtain ⟨c10, c11, e15, r10, r11⟩ := Graph.inv hu3
  subst e15
  obtain ⟨z11, m11, k11, e16⟩ := rv_form r10
  subst e16
  obtain ⟨z12, m12, k12, e17⟩ := rv_form r11
  subst e17
  obtain ⟨x7, hx7, h2⟩ := bnd h2
  refine wl_op rfl (op_call_v (vs := [(Value.agg #[(Value.slice z11 m11 k11), (Value.slice z12 m12 k12)])]) (r := (Value.bool (x7))) rfl ca15 rfl (args1 rfl) I4 (fun Fr_ hF_ => F15_ok hF_ (Graph.rv (s := a0) r10 r11) hx7) (fun w9 I11 => ?_))
  refine wl_op rfl (op_move (v := (Value.bool (x7))) rfl rfl ?_)
  rcases ifs h2 with ⟨hc4, h2⟩ | ⟨hc4, h2⟩
  ·
   refine wl_skip (c := x7) rfl rfl rfl rfl hc4 rfl ?_
   refine wl_skip (c := x7) rfl rfl rfl rfl hc4 rfl ?_
   refine wl_skip (c := x7) rfl rfl rfl rfl hc4 rfl ?_
   refine wl_op rfl (op_pick_t (c := x7) (a := (Value.bool (true))) rfl rfl hc4 rfl ?_)
   refine wl_op rfl (op_move (v := (Value.bool (true))) rfl rfl ?_)
   refine wl_skip (c := true) rfl rfl rfl rfl rfl rfl ?_
   refine wl_skip (c := true) rfl rfl rfl rfl rfl rfl ?_
   refine wl_skip (c := true) rfl rfl rfl rfl rfl rfl ?_
   refine wl_skip (c := true) rfl rfl rfl rfl rfl rfl ?_
   refine wl_op rfl (op_pick_t (c := true) (a := (Value.bool (true))) rfl rfl rfl rfl ?_)
   refine wl_nil ?_
   refine wp_cond_t (b := true) rfl rfl ?_
   refine wp_seq' ?_
   refine wp_region' ?_
   obtain ⟨x8, hx8, h2⟩ := bnd h2
   refine wl_op rfl (op_call_v (vs := []) (r := (Value.bool (x8))) rfl ca17 rfl args0 I11 (fun Fr_ hF_ => F17_ok hF_  hx8) (fun w10 I12 => ?_))
   refine wl_op rfl (op_assign (v := (Value.bool (x8))) rfl rfl ?_)
   refine wl_nil ?_
   refine wp_ret' ?_
   obtain rfl := Option.some.inj h2
   have h3 := h
   obtain rfl := Option.some.inj h3
   exact ⟨(Value.bool (x8)), (res1 rfl rfl), _, [], (le1.trans le2), I12, rfl, rfl⟩
  ·
   refine wl_taken (c := x7) rfl rfl rfl rfl hc4 (op_fieldAddr_t (v := (Value.pointer (some ⟨g2, 0, none⟩))) rfl fa54_0 rfl (p2.at_ I11) ?_)
   refine wl_taken (c := x7) rfl rfl rfl rfl hc4 (op_load (v := (fieldPtr (Value.pointer (some ⟨g2, 0, none⟩)) 0)) (e := a2.Graph) rfl sh25 rfl ((p2.at_ I11).fld Law06_Other.fld0) (fun u4 hu4 => ?_))
   obtain ⟨c12, c13, e18, r12, r13⟩ := Graph.inv hu4
   subst e18
   obtain ⟨z13, m13, k13, e19⟩ := rv_form r12
   subst e19
   obtain ⟨z14, m14, k14, e20⟩ := rv_form r13
   subst e20
   obtain ⟨x9, hx9, h2⟩ := bnd h2
   refine wl_taken (c := x7) rfl rfl rfl rfl hc4 (op_call_v (vs := [(Value.agg #[(Value.slice z13 m13 k13), (Value.slice z14 m14 k14)])]) (r := (Value.bool (x9))) rfl ca15 rfl (args1 rfl) I11 (fun Fr_ hF_ => F15_ok hF_ (Graph.rv (s := a2.Graph) r12 r13) hx9) (fun w11 I13 => ?_))
   refine wl_op rfl (op_pick_f (c := x7) (b := (Value.bool (x9))) rfl rfl hc4 rfl ?_)
   refine wl_op rfl (op_move (v := (Value.bool (x9))) rfl rfl ?_)
   rcases ifs h2 with ⟨hc5, h2⟩ | ⟨hc5, h2⟩
   ·
    refine wl_skip (c := x9) rfl rfl rfl rfl hc5 rfl ?_
    refine wl_skip (c := x9) rfl rfl rfl rfl hc5 rfl ?_
    refine wl_skip (c := x9) rfl rfl rfl rfl hc5 rfl ?_
    refine wl_skip (c := x9) rfl rfl rfl rfl hc5 rfl ?_
    refine wl_op rfl (op_pick_t (c := x9) (a := (Value.bool (true))) rfl rfl hc5 rfl ?_)
    refine wl_nil ?_
    refine wp_cond_t (b := true) rfl rfl ?_
    refine wp_seq' ?_
    refine wp_region' ?_
    obtain ⟨x10, hx10, h2⟩ := bnd h2
    refine wl_op rfl (op_call_v (vs := []) (r := (Value.bool (x10))) rfl ca17 rfl args0 I13 (fun Fr_ hF_ => F17_ok hF_  hx10) (fun w12 I14 => ?_))
    refine wl_op rfl (op_assign (v := (Value.bool (x10))) rfl rfl ?_)
    refine wl_nil ?_
    refine wp_ret' ?_
    obtain rfl := Option.some.inj h2
    have h3 := h
    obtain rfl := Option.some.inj h3
    exact ⟨(Value.bool (x10)), (res1 rfl rfl), _, [], (le1.trans le2), I14, rfl, rfl⟩
   ·
    refine wl_taken (c := x9) rfl rfl rfl rfl hc5 (op_fieldAddr_t (v := (Value.pointer (some ⟨g2, 0, none⟩))) rfl fa54_2 rfl (p2.at_ I13) ?_)
    refine wl_taken (c := x9) rfl rfl rfl rfl hc5 (op_fieldAddr_t (v := (fieldPtr (Value.pointer (some ⟨g2, 0, none⟩)) 3)) rfl fa30_1 rfl ((p2.at_ I13).fld Law06_Other.fld2) ?_)
    refine wl_taken (c := x9) rfl rfl rfl rfl hc5 (op_load_int (v := (fieldPtr (fieldPtr (Value.pointer (some ⟨g2, 0, none⟩)) 3) 2)) (e := a2.Run.Most) rfl sh3 rfl (((p2.at_ I13).fld Law06_Other.fld2).fld Law06_Run.fld1) ?_)
    obtain ⟨x11, hx11, h2⟩ := bnd h2
    refine wl_taken (c := x9) rfl rfl rfl rfl hc5 (op_call_v (vs := [(Value.int .i64 (a2.Run.Most))]) (r := (Value.bool (x11))) rfl ca16 rfl (args1 rfl) I13 (fun Fr_ hF_ => F16_ok hF_  hx11) (fun w13 I15 => ?_))
    refine wl_op rfl (op_pick_f (c := x9) (b := (Value.bool (x11))) rfl rfl hc5 rfl ?_)
    refine wl_nil ?_
    rcases ifs h2 with ⟨hc6, h2⟩ | ⟨hc6, h2⟩
    ·
     refine wp_cond_t (b := x11) rfl hc6 ?_
     refine wp_seq' ?_
     refine wp_region' ?_
     obtain ⟨x12, hx12, h2⟩ := bnd h2
     refine wl_op rfl (op_call_v (vs := []) (r := (Value.bool (x12))) rfl ca17 rfl args0 I15 (fun Fr_ hF_ => F17_ok hF_  hx12) (fun w14 I16 => ?_))
     refine wl_op rfl (op_assign (v := (Value.bool (x12))) rfl rfl ?_)
     refine wl_nil ?_
     refine wp_ret' ?_
     obtain rfl := Option.some.inj h2
     have h3 := h
     obtain rfl := Option.some.inj h3
     exact ⟨(Value.bool (x12)), (res1 rfl rfl), _, [], (le1.trans le2), I16, rfl, rfl⟩
    ·
     refine wp_cond_f (b := x11) rfl hc6 ?_
     refine wp_skip' ?_
     obtain rfl := Option.some.inj h2
     exact ⟨_, rfl, I15, rfl, rfl, rfl⟩
 ·
  rintro f w ⟨v1, rfl, I17, e21, e22, e23⟩
  have h := onL_inl h
  refine wp_seq' ?_
  refine wp_draw (sps := [⟨some 29, [], [0], fun vs_ T_ => fr0 vs_ 0 = (fieldPtr (Value.pointer (some ⟨g2, 0, none⟩)) 3), [], [], [], fun _ h_ => h_⟩, ⟨some 30, [0], [1], fun vs_ T_ => fr0 vs_ 0 = (fieldPtr (fieldPtr (Value.pointer (some ⟨g2, 0, none⟩)) 3) 0), [], [], [], fun _ h_ => h_⟩, ⟨some 31, [0, 1], [2], fun vs_ T_ => fr0 vs_ 0 = (fieldPtr (fieldPtr (fieldPtr (Value.pointer (some ⟨g2, 0, none⟩)) 3) 0) 0), [], [], [], fun _ h_ => h_⟩, ⟨some 32, [0, 1, 2], [3], fun vs_ T_ => fr0 vs_ 0 = (Value.int .i64 (a2.Run.Mind.Memory)), [], [], [], fun _ h_ => h_⟩, ⟨some 33, [], [4], fun vs_ T_ => fr0 vs_ 0 = (fieldPtr (Value.pointer (some ⟨g2, 0, none⟩)) 3), [], [], [], fun _ h_ => h_⟩, ⟨some 34, [4], [5], fun vs_ T_ => fr0 vs_ 0 = (fieldPtr (fieldPtr (Value.pointer (some ⟨g2, 0, none⟩)) 3) 2), [], [], [], fun _ h_ => h_⟩, ⟨some 35, [4, 5], [6], fun vs_ T_ => fr0 vs_ 0 = (Value.int .i64 (a2.Run.Most)), [], [], [], fun _ h_ => h_⟩, ⟨some 7, [0, 1, 2, 3], [7], fun vs_ T_ => fr0 vs_ 0 = (Value.int .i64 (a2.Run.Mind.Memory)), [], [], [], fun _ h_ => h_⟩, ⟨some 8, [0, 1, 2, 3, 4, 5, 6, 7], [8], fun vs_ T_ => fr0 vs_ 0 = (Value.int .i64 (a2.Run.Most)), [], [], [], fun _ h_ => h_⟩]) (tks := []) (O := Fr) rfl (by kernel_rfl) I17 ⟨?_, ?_, ?_, ?_, ?_, ?_, ?_, ?_, ?_, trivial⟩ ?_
  ·
   intro vs1 f w15 S3 X1 le3 hA1 hK1 hI1
   have I18 : Inv w15 S3 (X1) := hI1
   refine opg_plain rfl rfl (op_fieldAddr_t (v := (Value.pointer (some ⟨g2, 0, none⟩))) rfl fa54_2 ((hK1 5 (keep_of rfl)).trans e23) ((p2.mono le3).at_ I18) ?_)
   refine ⟨_, _, rfl, PH.Le.refl _, ?_, ?_⟩
   ·
    exact rfl
   ·
    exact I18
  ·
   intro vs2 f w16 S4 X2 le4 hA2 hK2 hI2
   have I19 : Inv w16 S4 (X2) := hI2
   have q1 : f 29 = (fieldPtr (Value.pointer (some ⟨g2, 0, none⟩)) 3) := vt (hA2.at_ 0 rfl _ rfl) rfl
   refine opg_plain rfl rfl (op_fieldAddr_t (v := (fieldPtr (Value.pointer (some ⟨g2, 0, none⟩)) 3)) rfl fa30_0 q1 (((p2.mono le4).at_ I19).fld Law06_Other.fld2) ?_)
   refine ⟨_, _, rfl, PH.Le.refl _, ?_, ?_⟩
   ·
    exact rfl
   ·
    exact I19
  ·
   intro vs3 f w17 S5 X3 le5 hA3 hK3 hI3
   have I20 : Inv w17 S5 (X3) := hI3
   have q2 : f 30 = (fieldPtr (fieldPtr (Value.pointer (some ⟨g2, 0, none⟩)) 3) 0) := vt (hA3.at_ 1 rfl _ rfl) rfl
   refine opg_plain rfl rfl (op_fieldAddr_t (v := (fieldPtr (fieldPtr (Value.pointer (some ⟨g2, 0, none⟩)) 3) 0)) rfl fa28_0 q2 ((((p2.mono le5).at_ I20).fld Law06_Other.fld2).fld Law06_Run.fld0) ?_)
   refine ⟨_, _, rfl, PH.Le.refl _, ?_, ?_⟩
   ·
    exact rfl
   ·
    exact I20
  ·
   intro vs4 f w18 S6 X4 le6 hA4 hK4 hI4
   have I21 : Inv w18 S6 (X4) := hI4
   have q3 : f 31 = (fieldPtr (fieldPtr (fieldPtr (Value.pointer (some ⟨g2, 0, none⟩)) 3) 0) 0) := vt (hA4.at_ 2 rfl _ rfl) rfl
   refine opg_plain rfl rfl (op_load_int (v := (fieldPtr (fieldPtr (fieldPtr (Value.pointer (some ⟨g2, 0, none⟩)) 3) 0) 0)) (e := a2.Run.Mind.Memory) rfl sh3 q3 (((((p2.mono le6).at_ I21).fld Law06_Other.fld2).fld Law06_Run.fld0).fld Mind.fld0) ?_)
   refine ⟨_, _, rfl, PH.Le.refl _, ?_, ?_⟩
   ·
    exact rfl
   ·
    exact I21
  ·
   intro vs5 f w19 S7 X5 le7 hA5 hK5 hI5
   have I22 : Inv w19 S7 (X5) := hI5
   refine opg_plain rfl rfl (op_fieldAddr_t (v := (Value.pointer (some ⟨g2, 0, none⟩))) rfl fa54_2 ((hK5 5 (keep_of rfl)).trans e23) ((p2.mono le7).at_ I22) ?_)
   refine ⟨_, _, rfl, PH.Le.refl _, ?_, ?_⟩
   ·
    exact rfl
   ·
    exact I22
  ·
   intro vs6 f w20 S8 X6 le8 hA6 hK6 hI6
   have I23 : Inv w20 S8 (X6) := hI6
   have q4 : f 33 = (fieldPtr (Value.pointer (some ⟨g2, 0, none⟩)) 3) := vt (hA6.at_ 0 rfl _ rfl) rfl
   refine opg_plain rfl rfl (op_fieldAddr_t (v := (fieldPtr (Value.pointer (some ⟨g2, 0, none⟩)) 3)) rfl fa30_1 q4 (((p2.mono le8).at_ I23).fld Law06_Other.fld2) ?_)
   refine ⟨_, _, rfl, PH.Le.refl _, ?_, ?_⟩
   ·
    exact rfl
   ·
    exact I23
  ·
   intro vs7 f w21 S9 X7 le9 hA7 hK7 hI7
   have I24 : Inv w21 S9 (X7) := hI7
   have q5 : f 34 = (fieldPtr (fieldPtr (Value.pointer (some ⟨g2, 0, none⟩)) 3) 2) := vt (hA7.at_ 1 rfl _ rfl) rfl
   refine opg_plain rfl rfl (op_load_int (v := (fieldPtr (fieldPtr (Value.pointer (some ⟨g2, 0, none⟩)) 3) 2)) (e := a2.Run.Most) rfl sh3 q5 ((((p2.mono le9).at_ I24).fld Law06_Other.fld2).fld Law06_Run.fld1) ?_)
   refine ⟨_, _, rfl, PH.Le.refl _, ?_, ?_⟩
   ·
    exact rfl
   ·
    exact I24
  ·
   intro vs8 f w22 S10 X8 le10 hA8 hK8 hI8
   have I25 : Inv w22 S10 (X8) := hI8
   have q6 : f 32 = (Value.int .i64 (a2.Run.Mind.Memory)) := vt (hA8.at_ 3 rfl _ rfl) rfl
   refine opg_plain rfl rfl (op_assign (v := (Value.int .i64 (a2.Run.Mind.Memory))) rfl q6 ?_)
   refine ⟨_, _, rfl, PH.Le.refl _, ?_, ?_⟩
   ·
    exact rfl
   ·
    exact I25
  ·
   intro vs9 f w23 S11 X9 le11 hA9 hK9 hI9
   have I26 : Inv w23 S11 (X9) := hI9
   have q7 : f 35 = (Value.int .i64 (a2.Run.Most)) := vt (hA9.at_ 6 rfl _ rfl) rfl
   refine opg_plain rfl rfl (op_assign (v := (Value.int .i64 (a2.Run.Most))) rfl q7 ?_)
   refine ⟨_, _, rfl, PH.Le.refl _, ?_, ?_⟩
   ·
    exact rfl
   ·
    exact I26
  ·
   intro vs10 f w24 S12 le12 hF1 hK10 hI10
   have e24 : f 1 = (Value.slice z3 m3 k3) := (hK10 1 (keep_all rfl)).trans e21
   have e25 : f 3 = (Value.pointer (some ⟨g1, 0, none⟩)) := (hK10 3 (keep_all rfl)).trans e22
   have e26 : f 5 = (Value.pointer (some ⟨g2, 0, none⟩)) := (hK10 5 (keep_all rfl)).trans e23
   have I27 : Inv w24 S12 (Fr) := hI10
   have q8 : f 7 = (Value.int .i64 (a2.Run.Mind.Memory)) := vt (hF1.at_ 7 rfl _ rfl) rfl
   have q9 : f 8 = (Value.int .i64 (a2.Run.Most)) := vt (hF1.at_ 8 rfl _ rfl) rfl
   refine wp_seq' ?_
   refine wp_region' ?_
   refine wl_op rfl (op_load (v := (Value.pointer (some ⟨g1, 0, none⟩))) (e := a0) rfl sh25 e25 ((p1.mono (le2.trans le12)).at_ I27) (fun u5 hu5 => ?_))
   obtain ⟨c14, c15, e27, r14, r15⟩ := Graph.inv hu5
   subst e27
   obtain ⟨z15, m15, k15, e28⟩ := rv_form r14
   subst e28
   obtain ⟨z16, m16, k16, e29⟩ := rv_form r15
   subst e29
   refine wl_op rfl (op_fieldAddr_t (v := (Value.pointer (some ⟨g2, 0, none⟩))) rfl fa54_0 e26 ((p2.mono le12).at_ I27) ?_)
   refine wl_op rfl (op_load (v := (fieldPtr (Value.pointer (some ⟨g2, 0, none⟩)) 0)) (e := a2.Graph) rfl sh25 rfl (((p2.mono le12).at_ I27).fld Law06_Other.fld0) (fun u6 hu6 => ?_))
   obtain ⟨c16, c17, e30, r16, r17⟩ := Graph.inv hu6
   subst e30
   obtain ⟨z17, m17, k17, e31⟩ := rv_form r16
   subst e31
   obtain ⟨z18, m18, k18, e32⟩ := rv_form r17
   subst e32
   refine wl_op rfl (op_move (v := (Value.slice z3 m3 k3)) rfl e24 ?_)
   refine wl_op rfl (op_fieldAddr_t (v := (Value.pointer (some ⟨g2, 0, none⟩))) rfl fa54_1 e26 ((p2.mono le12).at_ I27) ?_)
   refine wl_op rfl (op_load (v := (fieldPtr (Value.pointer (some ⟨g2, 0, none⟩)) 2)) (e := a2.Distances) rfl sh26 rfl (((p2.mono le12).at_ I27).fld Law06_Other.fld1) (fun u7 hu7 => ?_))
   obtain ⟨z19, m19, k19, e33⟩ := rv_form hu7
   subst e33
   refine wl_op rfl (op_move (v := (Value.int .i64 (a2.Run.Mind.Memory))) rfl q8 ?_)
   refine wl_op rfl (op_move (v := (Value.int .i64 (a2.Run.Most))) rfl q9 ?_)
   obtain ⟨x13, hx13, h⟩ := bnd h
   refine wl_op rfl (op_call_v (vs := [(Value.agg #[(Value.slice z15 m15 k15), (Value.slice z16 m16 k16)]), (Value.agg #[(Value.slice z17 m17 k17), (Value.slice z18 m18 k18)]), (Value.slice z3 m3 k3), (Value.slice z19 m19 k19), (Value.int .i64 (a2.Run.Mind.Memory)), (Value.int .i64 (a2.Run.Most))]) (r := (Value.tuple #[(Value.int .i64 (x13.1)), (Value.int .i64 (x13.2))])) rfl ca31 rfl (args6 rfl rfl rfl rfl rfl rfl) I27 (fun Fr_ hF_ => F31_ok hF_ (Graph.rv (s := a0) r14 r15) (Graph.rv (s := a2.Graph) r16 r17) (h1_.mono ((le1.trans le2).trans le12)) hu7 hx13) (fun w25 I28 => ?_))
   refine wl_op rfl (op_move (v := (Value.tuple #[(Value.int .i64 (x13.1)), (Value.int .i64 (x13.2))])) rfl rfl ?_)
   refine wl_op rfl (op_extract (v := (Value.int .i64 (x13.1))) rfl rfl rfl ?_)
   refine wl_op rfl (op_extract (v := (Value.int .i64 (x13.2))) rfl rfl rfl ?_)
   refine wl_op rfl (op_assign (v := (Value.int .i64 (x13.1))) rfl rfl ?_)
   refine wl_op rfl (op_assign (v := (Value.int .i64 (x13.2))) rfl rfl ?_)
   refine wl_nil ?_
   refine wp_seq' ?_
   refine wp_region' ?_
   refine wl_op rfl (op_load (v := (Value.pointer (some ⟨g1, 0, none⟩))) (e := a0) rfl sh25 e25 ((p1.mono (le2.trans le12)).at_ I28) (fun u8 hu8 => ?_))
   obtain ⟨c18, c19, e34, r18, r19⟩ := Graph.inv hu8
   subst e34
   obtain ⟨z20, m20, k20, e35⟩ := rv_form r18
   subst e35
   obtain ⟨z21, m21, k21, e36⟩ := rv_form r19
   subst e36
   refine wl_op rfl (op_fieldAddr_t (v := (Value.pointer (some ⟨g2, 0, none⟩))) rfl fa54_0 e26 ((p2.mono le12).at_ I28) ?_)
   refine wl_op rfl (op_load (v := (fieldPtr (Value.pointer (some ⟨g2, 0, none⟩)) 0)) (e := a2.Graph) rfl sh25 rfl (((p2.mono le12).at_ I28).fld Law06_Other.fld0) (fun u9 hu9 => ?_))
   obtain ⟨c20, c21, e37, r20, r21⟩ := Graph.inv hu9
   subst e37
   obtain ⟨z22, m22, k22, e38⟩ := rv_form r20
   subst e38
   obtain ⟨z23, m23, k23, e39⟩ := rv_form r21
   subst e39
   refine wl_op rfl (op_move (v := (Value.slice z3 m3 k3)) rfl e24 ?_)
   refine wl_op rfl (op_fieldAddr_t (v := (Value.pointer (some ⟨g2, 0, none⟩))) rfl fa54_1 e26 ((p2.mono le12).at_ I28) ?_)
   refine wl_op rfl (op_load (v := (fieldPtr (Value.pointer (some ⟨g2, 0, none⟩)) 2)) (e := a2.Distances) rfl sh26 rfl (((p2.mono le12).at_ I28).fld Law06_Other.fld1) (fun u10 hu10 => ?_))
   obtain ⟨z24, m24, k24, e40⟩ := rv_form hu10
   subst e40
   refine wl_op rfl (op_move (v := (Value.int .i64 (a2.Run.Mind.Memory))) rfl q8 ?_)
   refine wl_op rfl (op_move (v := (Value.int .i64 (a2.Run.Most))) rfl q9 ?_)
   obtain ⟨x14, hx14, h⟩ := bnd h
   refine wl_op rfl (op_call_v (vs := [(Value.agg #[(Value.slice z20 m20 k20), (Value.slice z21 m21 k21)]), (Value.agg #[(Value.slice z22 m22 k22), (Value.slice z23 m23 k23)]), (Value.slice z3 m3 k3), (Value.slice z24 m24 k24), (Value.int .i64 (a2.Run.Mind.Memory)), (Value.int .i64 (a2.Run.Most))]) (r := (Value.tuple #[(Value.int .i64 (x14.1)), (Value.int .i64 (x14.2))])) rfl ca32 rfl (args6 rfl rfl rfl rfl rfl rfl) I28 (fun Fr_ hF_ => F32_ok hF_ (Graph.rv (s := a0) r18 r19) (Graph.rv (s := a2.Graph) r20 r21) (h1_.mono ((le1.trans le2).trans le12)) hu10 hx14) (fun w26 I29 => ?_))
   refine wl_op rfl (op_move (v := (Value.tuple #[(Value.int .i64 (x14.1)), (Value.int .i64 (x14.2))])) rfl rfl ?_)
   refine wl_op rfl (op_extract (v := (Value.int .i64 (x14.1))) rfl rfl rfl ?_)
   refine wl_op rfl (op_extract (v := (Value.int .i64 (x14.2))) rfl rfl rfl ?_)
   refine wl_op rfl (op_assign (v := (Value.int .i64 (x14.1))) rfl rfl ?_)
   refine wl_op rfl (op_assign (v := (Value.int .i64 (x14.2))) rfl rfl ?_)
   refine wl_nil ?_
   obtain ⟨ov2, h5, h⟩ := bnd h
   refine wp_cut (fun f w => ∃ v2, ov2 = Sum.inl v2 ∧ Inv w S12 (Fr) ∧ f 1 = (Value.slice z3 m3 k3) ∧ f 3 = (Value.pointer (some ⟨g1, 0, none⟩)) ∧ f 5 = (Value.pointer (some ⟨g2, 0, none⟩)) ∧ f 7 = (Value.int .i64 (a2.Run.Mind.Memory)) ∧ f 8 = (Value.int .i64 (a2.Run.Most)) ∧ f 9 = (Value.int .i64 (x13.1)) ∧ f 12 = (Value.int .i64 (x14.2))) ?_ ?_
   ·
    refine wp_seq' ?_
    refine wp_region' ?_
    refine wl_op rfl (op_move (v := (Value.int .i64 (x13.1))) rfl rfl ?_)
    refine wl_op rfl (op_move (v := (Value.int .i64 (x14.1))) rfl rfl ?_)
    refine wl_op rfl (op_neq (a := x13.1) (b := x14.1) rfl rfl rfl ?_)
    refine wl_op rfl (op_move (v := (Value.bool (x13.1 != x14.1))) rfl rfl ?_)
    rcases ifs h5 with ⟨hc9, h5⟩ | ⟨hc9, h5⟩
    ·
     refine wl_skip (c := x13.1 != x14.1) rfl rfl rfl rfl hc9 rfl ?_
     refine wl_skip (c := x13.1 != x14.1) rfl rfl rfl rfl hc9 rfl ?_
     refine wl_skip (c := x13.1 != x14.1) rfl rfl rfl rfl hc9 rfl ?_
     refine wl_op rfl (op_pick_t (c := x13.1 != x14.1) (a := (Value.bool (true))) rfl rfl hc9 rfl ?_)
     refine wl_nil ?_
     refine wp_cond_t (b := true) rfl rfl ?_
     refine wp_seq' ?_
     refine wp_region' ?_
     refine wl_op rfl (op_assign (v := (Value.bool (false))) rfl rfl ?_)
     refine wl_nil ?_
     refine wp_ret' ?_
     obtain rfl := Option.some.inj h5
     have h6 := h
     obtain rfl := Option.some.inj h6
     exact ⟨(Value.bool (false)), (res1 rfl rfl), _, [], ((le1.trans le2).trans le12), I29, rfl, rfl⟩
    ·
     refine wl_taken (c := x13.1 != x14.1) rfl rfl rfl rfl hc9 (op_move (v := (Value.int .i64 (x13.2))) rfl rfl ?_)
     refine wl_taken (c := x13.1 != x14.1) rfl rfl rfl rfl hc9 (op_move (v := (Value.int .i64 (x14.2))) rfl rfl ?_)
     refine wl_taken (c := x13.1 != x14.1) rfl rfl rfl rfl hc9 (op_neq (a := x13.2) (b := x14.2) rfl rfl rfl ?_)
     refine wl_op rfl (op_pick_f (c := x13.1 != x14.1) (b := (Value.bool (x13.2 != x14.2))) rfl rfl hc9 rfl ?_)
     refine wl_nil ?_
     rcases ifs h5 with ⟨hc10, h5⟩ | ⟨hc10, h5⟩
     ·
      refine wp_cond_t (b := x13.2 != x14.2) rfl hc10 ?_
      refine wp_seq' ?_
      refine wp_region' ?_
      refine wl_op rfl (op_assign (v := (Value.bool (false))) rfl rfl ?_)
      refine wl_nil ?_
      refine wp_ret' ?_
      obtain rfl := Option.some.inj h5
      have h6 := h
      obtain rfl := Option.some.inj h6
      exact ⟨(Value.bool (false)), (res1 rfl rfl), _, [], ((le1.trans le2).trans le12), I29, rfl, rfl⟩
     ·
      refine wp_cond_f (b := x13.2 != x14.2) rfl hc10 ?_
      refine wp_skip' ?_
      obtain rfl := Option.some.inj h5
      exact ⟨_, rfl, I29, e24, e25, e26, q8, q9, rfl, rfl⟩
   ·
    rintro f w ⟨v2, rfl, I30, e41, e42, e43, e44, e45, e46, e47⟩
    have h := onL_inl h
    refine wp_seq' ?_
    refine wp_seq' ?_
    refine wp_region' ?_
    refine wl_op rfl (op_move (v := (Value.int .i64 (x14.2))) rfl e47 ?_)
    refine wl_op rfl (op_neq (a := x14.2) (b := 0) rfl rfl rfl ?_)
    refine wl_nil ?_
    rcases ifs h with ⟨hc11, h⟩ | ⟨hc11, h⟩
    ·
     refine wp_cond_t (b := x14.2 != 0) rfl hc11 ?_
     refine wp_seq' ?_
     refine wp_region' ?_
     obtain ⟨x15, hx15, h⟩ := bnd h
     refine wl_op rfl (op_call_v (vs := []) (r := (Value.bool (x15))) rfl ca17 rfl args0 I30 (fun Fr_ hF_ => F17_ok hF_  hx15) (fun w27 I31 => ?_))
     refine wl_op rfl (op_assign (v := (Value.bool (x15))) rfl rfl ?_)
     refine wl_nil ?_
     refine wp_ret' ?_
     obtain rfl := Option.some.inj h
     exact ⟨(Value.bool (x15)), (res1 rfl rfl), _, [], ((le1.trans le2).trans le12), I31, rfl, rfl⟩
    ·
     refine wp_cond_f (b := x14.2 != 0) rfl hc11 ?_
     refine wp_skip' ?_
     refine wp_seq' ?_
     refine wp_region' ?_
     refine wl_op rfl (op_fieldAddr_t (v := (Value.pointer (some ⟨g2, 0, none⟩))) rfl fa54_0 e43 ((p2.mono le12).at_ I30) ?_)
     refine wl_op rfl (op_load (v := (fieldPtr (Value.pointer (some ⟨g2, 0, none⟩)) 0)) (e := a2.Graph) rfl sh25 rfl (((p2.mono le12).at_ I30).fld Law06_Other.fld0) (fun u11 hu11 => ?_))
     obtain ⟨c22, c23, e48, r22, r23⟩ := Graph.inv hu11
     subst e48
     obtain ⟨z25, m25, k25, e49⟩ := rv_form r22
     subst e49
     obtain ⟨z26, m26, k26, e50⟩ := rv_form r23
     subst e50
     refine wl_op rfl (op_load (v := (Value.pointer (some ⟨g1, 0, none⟩))) (e := a0) rfl sh25 e42 ((p1.mono (le2.trans le12)).at_ I30) (fun u12 hu12 => ?_))
     obtain ⟨c24, c25, e51, r24, r25⟩ := Graph.inv hu12
     subst e51
     obtain ⟨z27, m27, k27, e52⟩ := rv_form r24
     subst e52
     obtain ⟨z28, m28, k28, e53⟩ := rv_form r25
     subst e53
     refine wl_op rfl (op_fieldAddr_t (v := (Value.pointer (some ⟨g2, 0, none⟩))) rfl fa54_1 e43 ((p2.mono le12).at_ I30) ?_)
     refine wl_op rfl (op_load (v := (fieldPtr (Value.pointer (some ⟨g2, 0, none⟩)) 2)) (e := a2.Distances) rfl sh26 rfl (((p2.mono le12).at_ I30).fld Law06_Other.fld1) (fun u13 hu13 => ?_))
     obtain ⟨z29, m29, k29, e54⟩ := rv_form hu13
     subst e54
     refine wl_op rfl (op_move (v := (Value.slice z3 m3 k3)) rfl e41 ?_)
     refine wl_op rfl (op_move (v := (Value.int .i64 (a2.Run.Mind.Memory))) rfl e44 ?_)
     refine wl_op rfl (op_move (v := (Value.int .i64 (a2.Run.Most))) rfl e45 ?_)
     obtain ⟨x16, hx16, h⟩ := bnd h
     refine wl_op rfl (op_call_v (vs := [(Value.agg #[(Value.slice z25 m25 k25), (Value.slice z26 m26 k26)]), (Value.agg #[(Value.slice z27 m27 k27), (Value.slice z28 m28 k28)]), (Value.slice z29 m29 k29), (Value.slice z3 m3 k3), (Value.int .i64 (a2.Run.Mind.Memory)), (Value.int .i64 (a2.Run.Most))]) (r := (Value.tuple #[(Value.int .i64 (x16.1)), (Value.int .i64 (x16.2))])) rfl ca31 rfl (args6 rfl rfl rfl rfl rfl rfl) I30 (fun Fr_ hF_ => F31_ok hF_ (Graph.rv (s := a2.Graph) r22 r23) (Graph.rv (s := a0) r24 r25) hu13 (h1_.mono ((le1.trans le2).trans le12)) hx16) (fun w28 I32 => ?_))
     refine wl_op rfl (op_move (v := (Value.tuple #[(Value.int .i64 (x16.1)), (Value.int .i64 (x16.2))])) rfl rfl ?_)
     refine wl_op rfl (op_extract (v := (Value.int .i64 (x16.1))) rfl rfl rfl ?_)
     refine wl_op rfl (op_extract (v := (Value.int .i64 (x16.2))) rfl rfl rfl ?_)
     refine wl_op rfl (op_assign (v := (Value.int .i64 (x16.1))) rfl rfl ?_)
     refine wl_op rfl (op_assign (v := (Value.int .i64 (x16.2))) rfl rfl ?_)
     refine wl_nil ?_
     refine wp_seq' ?_
     refine wp_region' ?_
     refine wl_op rfl (op_load (v := (Value.pointer (some ⟨g1, 0, none⟩))) (e := a0) rfl sh25 e42 ((p1.mono (le2.trans le12)).at_ I32) (fun u14 hu14 => ?_))
     obtain ⟨c26, c27, e55, r26, r27⟩ := Graph.inv hu14
     subst e55
     obtain ⟨z30, m30, k30, e56⟩ := rv_form r26
     subst e56
     obtain ⟨z31, m31, k31, e57⟩ := rv_form r27
     subst e57
     refine wl_op rfl (op_load (v := (Value.pointer (some ⟨g1, 0, none⟩))) (e := a0) rfl sh25 e42 ((p1.mono (le2.trans le12)).at_ I32) (fun u15 hu15 => ?_))
     obtain ⟨c28, c29, e58, r28, r29⟩ := Graph.inv hu15
     subst e58
     obtain ⟨z32, m32, k32, e59⟩ := rv_form r28
     subst e59
     obtain ⟨z33, m33, k33, e60⟩ := rv_form r29
     subst e60
     refine wl_op rfl (op_move (v := (Value.slice z3 m3 k3)) rfl e41 ?_)
     refine wl_op rfl (op_move (v := (Value.slice z3 m3 k3)) rfl e41 ?_)
     refine wl_op rfl (op_move (v := (Value.int .i64 (a2.Run.Mind.Memory))) rfl e44 ?_)
     refine wl_op rfl (op_move (v := (Value.int .i64 (a2.Run.Most))) rfl e45 ?_)
     obtain ⟨x17, hx17, h⟩ := bnd h
     refine wl_op rfl (op_call_v (vs := [(Value.agg #[(Value.slice z30 m30 k30), (Value.slice z31 m31 k31)]), (Value.agg #[(Value.slice z32 m32 k32), (Value.slice z33 m33 k33)]), (Value.slice z3 m3 k3), (Value.slice z3 m3 k3), (Value.int .i64 (a2.Run.Mind.Memory)), (Value.int .i64 (a2.Run.Most))]) (r := (Value.tuple #[(Value.int .i64 (x17.1)), (Value.int .i64 (x17.2))])) rfl ca31 rfl (args6 rfl rfl rfl rfl rfl rfl) I32 (fun Fr_ hF_ => F31_ok hF_ (Graph.rv (s := a0) r26 r27) (Graph.rv (s := a0) r28 r29) (h1_.mono ((le1.trans le2).trans le12)) (h1_.mono ((le1.trans le2).trans le12)) hx17) (fun w29 I33 => ?_))
     refine wl_op rfl (op_move (v := (Value.tuple #[(Value.int .i64 (x17.1)), (Value.int .i64 (x17.2))])) rfl rfl ?_)
     refine wl_op rfl (op_extract (v := (Value.int .i64 (x17.1))) rfl rfl rfl ?_)
     refine wl_op rfl (op_extract (v := (Value.int .i64 (x17.2))) rfl rfl rfl ?_)
     refine wl_op rfl (op_assign (v := (Value.int .i64 (x17.1))) rfl rfl ?_)
     refine wl_op rfl (op_assign (v := (Value.int .i64 (x17.2))) rfl rfl ?_)
     refine wl_nil ?_
     refine wp_seq' ?_
     refine wp_region' ?_
     refine wl_op rfl (op_move (v := (Value.int .i64 (x16.2))) rfl rfl ?_)
     refine wl_op rfl (op_eql (a := x16.2) (b := 0) rfl rfl rfl ?_)
     refine wl_op rfl (op_move (v := (Value.bool (x16.2 == 0))) rfl rfl ?_)
     rcases ifs h with ⟨hc12, h⟩ | ⟨hc12, h⟩
     ·
      refine wl_taken (c := x16.2 == 0) rfl rfl rfl rfl hc12 (op_move (v := (Value.int .i64 (x17.2))) rfl rfl ?_)
      refine wl_taken (c := x16.2 == 0) rfl rfl rfl rfl hc12 (op_eql (a := x17.2) (b := 0) rfl rfl rfl ?_)
      refine wl_op rfl (op_pick_t (c := x16.2 == 0) (a := (Value.bool (x17.2 == 0))) rfl rfl hc12 rfl ?_)
      refine wl_op rfl (op_move (v := (Value.bool (x17.2 == 0))) rfl rfl ?_)
      rcases ifs h with ⟨hc13, h⟩ | ⟨hc13, h⟩
      ·
       refine wl_taken (c := x17.2 == 0) rfl rfl rfl rfl hc13 (op_move (v := (Value.int .i64 (x16.1))) rfl rfl ?_)
       refine wl_taken (c := x17.2 == 0) rfl rfl rfl rfl hc13 (op_move (v := (Value.int .i64 (x13.1))) rfl e46 ?_)
       refine wl_taken (c := x17.2 == 0) rfl rfl rfl rfl hc13 (op_neg (a := x13.1) rfl rfl ?_)
       refine wl_taken (c := x17.2 == 0) rfl rfl rfl rfl hc13 (op_eql (a := x16.1) (b := w64 (0 - x13.1)) rfl rfl rfl ?_)
       refine wl_op rfl (op_pick_t (c := x17.2 == 0) (a := (Value.bool (x16.1 == (w64 (0 - x13.1))))) rfl rfl hc13 rfl ?_)
       refine wl_op rfl (op_move (v := (Value.bool (x16.1 == (w64 (0 - x13.1))))) rfl rfl ?_)
       rcases ifs h with ⟨hc14, h⟩ | ⟨hc14, h⟩
       ·
        refine wl_taken (c := x16.1 == (w64 (0 - x13.1))) rfl rfl rfl rfl hc14 (op_move (v := (Value.int .i64 (x17.1))) rfl rfl ?_)
        refine wl_taken (c := x16.1 == (w64 (0 - x13.1))) rfl rfl rfl rfl hc14 (op_eql (a := x17.1) (b := 0) rfl rfl rfl ?_)
        refine wl_op rfl (op_pick_t (c := x16.1 == (w64 (0 - x13.1))) (a := (Value.bool (x17.1 == 0))) rfl rfl hc14 rfl ?_)
        refine wl_op rfl (op_move (v := (Value.bool (x17.1 == 0))) rfl rfl ?_)
        rcases ifs h with ⟨hc15, h⟩ | ⟨hc15, h⟩
        ·
         obtain ⟨x18, hx18, h⟩ := bnd h
         refine wl_taken (c := x17.1 == 0) rfl rfl rfl rfl hc15 (op_call_v (vs := []) (r := (Value.bool (x18))) rfl ca17 rfl args0 I33 (fun Fr_ hF_ => F17_ok hF_  hx18) (fun w30 I34 => ?_))
         refine wl_op rfl (op_pick_t (c := x17.1 == 0) (a := (Value.bool (x18))) rfl rfl hc15 rfl ?_)
         refine wl_op rfl (op_assign (v := (Value.bool (x18))) rfl rfl ?_)
         refine wl_nil ?_
         refine wp_ret' ?_
         obtain rfl := Option.some.inj h
         exact ⟨(Value.bool (x18)), (res1 rfl rfl), _, [], ((le1.trans le2).trans le12), I34, rfl, rfl⟩
        ·
         refine wl_skip (c := x17.1 == 0) rfl rfl rfl rfl hc15 rfl ?_
         refine wl_op rfl (op_pick_f (c := x17.1 == 0) (b := (Value.bool (false))) rfl rfl hc15 rfl ?_)
         refine wl_op rfl (op_assign (v := (Value.bool (false))) rfl rfl ?_)
         refine wl_nil ?_
         refine wp_ret' ?_
         obtain rfl := Option.some.inj h
         exact ⟨(Value.bool (false)), (res1 rfl rfl), _, [], ((le1.trans le2).trans le12), I33, rfl, rfl⟩
       ·
        refine wl_skip (c := x16.1 == (w64 (0 - x13.1))) rfl rfl rfl rfl hc14 rfl ?_
        refine wl_skip (c := x16.1 == (w64 (0 - x13.1))) rfl rfl rfl rfl hc14 rfl ?_
        refine wl_op rfl (op_pick_f (c := x16.1 == (w64 (0 - x13.1))) (b := (Value.bool (false))) rfl rfl hc14 rfl ?_)
        refine wl_op rfl (op_move (v := (Value.bool (false))) rfl rfl ?_)
        refine wl_skip (c := false) rfl rfl rfl rfl rfl rfl ?_
        refine wl_op rfl (op_pick_f (c := false) (b := (Value.bool (false))) rfl rfl rfl rfl ?_)
        refine wl_op rfl (op_assign (v := (Value.bool (false))) rfl rfl ?_)
        refine wl_nil ?_
        refine wp_ret' ?_
        obtain rfl := Option.some.inj h
        exact ⟨(Value.bool (false)), (res1 rfl rfl), _, [], ((le1.trans le2).trans le12), I33, rfl, rfl⟩
      ·
       refine wl_skip (c := x17.2 == 0) rfl rfl rfl rfl hc13 rfl ?_
       refine wl_skip (c := x17.2 == 0) rfl rfl rfl rfl hc13 rfl ?_
       refine wl_skip (c := x17.2 == 0) rfl rfl rfl rfl hc13 rfl ?_
       refine wl_skip (c := x17.2 == 0) rfl rfl rfl rfl hc13 rfl ?_
       refine wl_op rfl (op_pick_f (c := x17.2 == 0) (b := (Value.bool (false))) rfl rfl hc13 rfl ?_)
       refine wl_op rfl (op_move (v := (Value.bool (false))) rfl rfl ?_)
       refine wl_skip (c := false) rfl rfl rfl rfl rfl rfl ?_
       refine wl_skip (c := false) rfl rfl rfl rfl rfl rfl ?_
       refine wl_op rfl (op_pick_f (c := false) (b := (Value.bool (false))) rfl rfl rfl rfl ?_)
       refine wl_op rfl (op_move (v := (Value.bool (false))) rfl rfl ?_)
       refine wl_skip (c := false) rfl rfl rfl rfl rfl rfl ?_
       refine wl_op rfl (op_pick_f (c := false) (b := (Value.bool (false))) rfl rfl rfl rfl ?_)
       refine wl_op rfl (op_assign (v := (Value.bool (false))) rfl rfl ?_)
       refine wl_nil ?_
       refine wp_ret' ?_
       obtain rfl := Option.some.inj h
       exact ⟨(Value.bool (false)), (res1 rfl rfl), _, [], ((le1.trans le2).trans le12), I33, rfl, rfl⟩
     ·
      refine wl_skip (c := x16.2 == 0) rfl rfl rfl rfl hc12 rfl ?_
      refine wl_skip (c := x16.2 == 0) rfl rfl rfl rfl hc12 rfl ?_
      refine wl_op rfl (op_pick_f (c := x16.2 == 0) (b := (Value.bool (false))) rfl rfl hc12 rfl ?_)
      refine wl_op rfl (op_move (v := (Value.bool (false))) rfl rfl ?_)
      refine wl_skip (c := false) rfl rfl rfl rfl rfl rfl ?_
      refine wl_skip (c := false) rfl rfl rfl rfl rfl rfl ?_
      refine wl_skip (c := false) rfl rfl rfl rfl rfl rfl ?_
      refine wl_skip (c := false) rfl rfl rfl rfl rfl rfl ?_
      refine wl_op rfl (op_pick_f (c := false) (b := (Value.bool (false))) rfl rfl rfl rfl ?_)
      refine wl_op rfl (op_move (v := (Value.bool (false))) rfl rfl ?_)
      refine wl_skip (c := false) rfl rfl rfl rfl rfl rfl ?_
      refine wl_skip (c := false) rfl rfl rfl rfl rfl rfl ?_
      refine wl_op rfl (op_pick_f (c := false) (b := (Value.bool (false))) rfl rfl rfl rfl ?_)
      refine wl_op rfl (op_move (v := (Value.bool (false))) rfl rfl ?_)
      refine wl_skip (c := false) rfl rfl rfl rfl rfl rfl ?_
      refine wl_op rfl (op_pick_f (c := false) (b := (Value.bool (false))) rfl rfl rfl rfl ?_)
      refine wl_op rfl (op_assign (v := (Value.bool (false))) rfl rfl ?_)
      refine wl_nil ?_
      refine wp_ret' ?_
      obtain rfl := Option.some.inj h
      exact ⟨(Value.bool (false)), (res1 rfl rfl), _, [], ((le1.trans le2).trans le12), I33, rfl, rfl⟩
end Go.Proofs.Ytogfongmnkmegaa.Pad
