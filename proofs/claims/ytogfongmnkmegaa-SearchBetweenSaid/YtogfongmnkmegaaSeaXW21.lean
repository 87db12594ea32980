/- A part of the proof: what the functions of the program compute, shown over the model. -/
import Derived.Test.YtogfongmnkmegaaSeaXP
import Derived.Test.YtogfongmnkmegaaSeaXW3
import Derived.Test.YtogfongmnkmegaaSeaXW4
import Derived.Test.YtogfongmnkmegaaSeaXW5
import Derived.Test.YtogfongmnkmegaaSeaXW6
import Derived.Test.YtogfongmnkmegaaSeaXW10
import Derived.KernelRfl
set_option linter.unusedVariables false
namespace Go.Proofs.Ytogfongmnkmegaa.Pad
open Go Go.Proofs
set_option maxHeartbeats 4000000 in
set_option maxRecDepth 100000 in
theorem F8_ok {w : World} {S : PH} {Fr : List HP} {a0 : Graph} {v0 : Value} {a1 : (List Int)} {v1 : Value} {a2 : Law06_Run} {v2 : Value} {r : Bool} (hI : Inv w S (Fr)) (h0_ : RV S v0 a0) (h1_ : RV S v1 a1) (h2_ : RV S v2 a2) (h : F8 a0 a1 a2 = some r) :
    Calls Try.prog 8 [v0, v1, v2].toArray w (DoneV S Fr (Value.bool (r))) := by
 unfold F8 at h
 obtain ⟨c1, c2, e1, r1, r2⟩ := Graph.inv h0_
 subst e1
 obtain ⟨z1, m1, k1, e2⟩ := rv_form r1
 subst e2
 obtain ⟨z2, m2, k2, e3⟩ := rv_form r2
 subst e3
 obtain ⟨z3, m3, k3, e4⟩ := rv_form h1_
 subst e4
 have e5 := Law06_Run.inv h2_
 subst e5
 refine calls_enter (n := 135) (vs := [(Value.agg #[(Value.slice z1 m1 k1), (Value.slice z2 m2 k2)]), (Value.slice z3 m3 k3), (Value.agg #[(Value.int .i64 (a2.Mind.Memory)), (Value.int .i64 (a2.Mind.Turn)), (Value.int .i64 (a2.Most))])]) Try.func8 rfl rfl rfl ?_
 refine wp_seq' ?_
 refine wp_region' ?_
 refine wl_op rfl (op_box (v := (Value.agg #[(Value.slice z1 m1 k1), (Value.slice z2 m2 k2)])) rfl hI rfl (fun g1 w1 I1 => ?_))
 obtain ⟨S1, le1, I2, p1⟩ := Inv.boxFreeze (x := a0) I1 (Graph.rv (s := a0) r1 r2)
 refine wl_op rfl (op_box (v := (Value.agg #[(Value.int .i64 (a2.Mind.Memory)), (Value.int .i64 (a2.Mind.Turn)), (Value.int .i64 (a2.Most))])) rfl I2 rfl (fun g2 w2 I3 => ?_))
 obtain ⟨S2, le2, I4, p2⟩ := Inv.boxFreeze (x := a2) I3 (Law06_Run.rv (s := a2))
 refine wl_op rfl (op_assign (v := (Value.bool (false))) rfl rfl ?_)
 refine wl_nil ?_
 obtain ⟨ov1, h2, h⟩ := bnd h
 refine wp_cut (fun f w => ∃ v1, ov1 = Sum.inl v1 ∧ Inv w S2 (Fr) ∧ f 1 = (Value.slice z3 m3 k3) ∧ f 3 = (Value.pointer (some ⟨g1, 0, none⟩)) ∧ f 5 = (Value.pointer (some ⟨g2, 0, none⟩))) ?_ ?_
 ·
  refine wp_seq' ?_
  refine wp_region' ?_
  refine wl_op rfl (op_load (v := (Value.pointer (some ⟨g1, 0, none⟩))) (e := a0) rfl sh25 rfl ((p1.mono le2).at_ I4) (fun u3 hu3 => ?_))
  obtain ⟨c7, c8, e12, r7, r8⟩ := Graph.inv hu3
  subst e12
  obtain ⟨z8, m8, k8, e13⟩ := rv_form r7
  subst e13
  obtain ⟨z9, m9, k9, e14⟩ := rv_form r8
  subst e14
  obtain ⟨x7, hx7, h2⟩ := bnd h2
  refine wl_op rfl (op_call_v (vs := [(Value.agg #[(Value.slice z8 m8 k8), (Value.slice z9 m9 k9)])]) (r := (Value.bool (x7))) rfl ca15 rfl (args1 rfl) I4 (fun Fr_ hF_ => F15_ok hF_ (Graph.rv (s := a0) r7 r8) hx7) (fun w9 I11 => ?_))
  refine wl_op rfl (op_move (v := (Value.bool (x7))) rfl rfl ?_)
  rcases ifs h2 with ⟨hc4, h2⟩ | ⟨hc4, h2⟩
  ·
   refine wl_skip (c := x7) rfl rfl rfl rfl hc4 rfl ?_
   refine wl_skip (c := x7) rfl rfl rfl rfl hc4 rfl ?_
   refine wl_skip (c := x7) rfl rfl rfl rfl hc4 rfl ?_
   refine wl_skip (c := x7) rfl rfl rfl rfl hc4 rfl ?_
   refine wl_op rfl (op_pick_t (c := x7) (a := (Value.bool (true))) rfl rfl hc4 rfl ?_)
   refine wl_op rfl (op_move (v := (Value.bool (true))) rfl rfl ?_)
   refine wl_skip (c := true) rfl rfl rfl rfl rfl rfl ?_
   refine wl_skip (c := true) rfl rfl rfl rfl rfl rfl ?_
   refine wl_skip (c := true) rfl rfl rfl rfl rfl rfl ?_
   refine wl_op rfl (op_pick_t (c := true) (a := (Value.bool (true))) rfl rfl rfl rfl ?_)
   refine wl_nil ?_
   refine wp_cond_t (b := true) rfl rfl ?_
   refine wp_seq' ?_
   refine wp_region' ?_
   obtain ⟨x8, hx8, h2⟩ := bnd h2
   refine wl_op rfl (op_call_v (vs := []) (r := (Value.bool (x8))) rfl ca17 rfl args0 I11 (fun Fr_ hF_ => F17_ok hF_  hx8) (fun w10 I12 => ?_))
   refine wl_op rfl (op_assign (v := (Value.bool (x8))) rfl rfl ?_)
   refine wl_nil ?_
   refine wp_ret' ?_
   obtain rfl := Option.some.inj h2
   have h3 := h
   obtain rfl := Option.some.inj h3
   exact ⟨(Value.bool (x8)), (res1 rfl rfl), _, [], (le1.trans le2), I12, rfl, rfl⟩
  ·
   refine wl_taken (c := x7) rfl rfl rfl rfl hc4 (op_load (v := (Value.pointer (some ⟨g1, 0, none⟩))) (e := a0) rfl sh25 rfl ((p1.mono le2).at_ I11) (fun u4 hu4 => ?_))
   obtain ⟨c9, c10, e15, r9, r10⟩ := Graph.inv hu4
   subst e15
   obtain ⟨z10, m10, k10, e16⟩ := rv_form r9
   subst e16
   obtain ⟨z11, m11, k11, e17⟩ := rv_form r10
   subst e17
   refine wl_taken (c := x7) rfl rfl rfl rfl hc4 (op_move (v := (Value.slice z3 m3 k3)) rfl rfl ?_)
   obtain ⟨x9, hx9, h2⟩ := bnd h2
   refine wl_taken (c := x7) rfl rfl rfl rfl hc4 (op_call_v (vs := [(Value.agg #[(Value.slice z10 m10 k10), (Value.slice z11 m11 k11)]), (Value.slice z3 m3 k3)]) (r := (Value.int .i64 (x9))) rfl ca21 rfl (args2 rfl rfl) I11 (fun Fr_ hF_ => F21_ok hF_ (Graph.rv (s := a0) r9 r10) (h1_.mono (le1.trans le2)) hx9) (fun w11 I13 => ?_))
   refine wl_taken (c := x7) rfl rfl rfl rfl hc4 (op_neq (a := x9) (b := 0) rfl rfl rfl ?_)
   refine wl_op rfl (op_pick_f (c := x7) (b := (Value.bool (x9 != 0))) rfl rfl hc4 rfl ?_)
   refine wl_op rfl (op_move (v := (Value.bool (x9 != 0))) rfl rfl ?_)
   rcases ifs h2 with ⟨hc5, h2⟩ | ⟨hc5, h2⟩
   ·
    refine wl_skip (c := x9 != 0) rfl rfl rfl rfl hc5 rfl ?_
    refine wl_skip (c := x9 != 0) rfl rfl rfl rfl hc5 rfl ?_
    refine wl_skip (c := x9 != 0) rfl rfl rfl rfl hc5 rfl ?_
    refine wl_op rfl (op_pick_t (c := x9 != 0) (a := (Value.bool (true))) rfl rfl hc5 rfl ?_)
    refine wl_nil ?_
    refine wp_cond_t (b := true) rfl rfl ?_
    refine wp_seq' ?_
    refine wp_region' ?_
    obtain ⟨x10, hx10, h2⟩ := bnd h2
    refine wl_op rfl (op_call_v (vs := []) (r := (Value.bool (x10))) rfl ca17 rfl args0 I13 (fun Fr_ hF_ => F17_ok hF_  hx10) (fun w12 I14 => ?_))
    refine wl_op rfl (op_assign (v := (Value.bool (x10))) rfl rfl ?_)
    refine wl_nil ?_
    refine wp_ret' ?_
    obtain rfl := Option.some.inj h2
    have h3 := h
    obtain rfl := Option.some.inj h3
    exact ⟨(Value.bool (x10)), (res1 rfl rfl), _, [], (le1.trans le2), I14, rfl, rfl⟩
   ·
    refine wl_taken (c := x9 != 0) rfl rfl rfl rfl hc5 (op_fieldAddr_t (v := (Value.pointer (some ⟨g2, 0, none⟩))) rfl fa30_1 rfl (p2.at_ I13) ?_)
    refine wl_taken (c := x9 != 0) rfl rfl rfl rfl hc5 (op_load_int (v := (fieldPtr (Value.pointer (some ⟨g2, 0, none⟩)) 2)) (e := a2.Most) rfl sh3 rfl ((p2.at_ I13).fld Law06_Run.fld1) ?_)
    obtain ⟨x11, hx11, h2⟩ := bnd h2
    refine wl_taken (c := x9 != 0) rfl rfl rfl rfl hc5 (op_call_v (vs := [(Value.int .i64 (a2.Most))]) (r := (Value.bool (x11))) rfl ca16 rfl (args1 rfl) I13 (fun Fr_ hF_ => F16_ok hF_  hx11) (fun w13 I15 => ?_))
    refine wl_op rfl (op_pick_f (c := x9 != 0) (b := (Value.bool (x11))) rfl rfl hc5 rfl ?_)
    refine wl_nil ?_
    rcases ifs h2 with ⟨hc6, h2⟩ | ⟨hc6, h2⟩
    ·
     refine wp_cond_t (b := x11) rfl hc6 ?_
     refine wp_seq' ?_
     refine wp_region' ?_
     obtain ⟨x12, hx12, h2⟩ := bnd h2
     refine wl_op rfl (op_call_v (vs := []) (r := (Value.bool (x12))) rfl ca17 rfl args0 I15 (fun Fr_ hF_ => F17_ok hF_  hx12) (fun w14 I16 => ?_))
     refine wl_op rfl (op_assign (v := (Value.bool (x12))) rfl rfl ?_)
     refine wl_nil ?_
     refine wp_ret' ?_
     obtain rfl := Option.some.inj h2
     have h3 := h
     obtain rfl := Option.some.inj h3
     exact ⟨(Value.bool (x12)), (res1 rfl rfl), _, [], (le1.trans le2), I16, rfl, rfl⟩
    ·
     refine wp_cond_f (b := x11) rfl hc6 ?_
     refine wp_skip' ?_
     obtain rfl := Option.some.inj h2
     exact ⟨_, rfl, I15, rfl, rfl, rfl⟩
 ·
  rintro f w ⟨v1, rfl, I17, e18, e19, e20⟩
  have h := onL_inl h
  refine wp_seq' ?_
  refine wp_region' ?_
  refine wl_op rfl (op_load (v := (Value.pointer (some ⟨g1, 0, none⟩))) (e := a0) rfl sh25 e19 ((p1.mono le2).at_ I17) (fun u5 hu5 => ?_))
  obtain ⟨c11, c12, e21, r11, r12⟩ := Graph.inv hu5
  subst e21
  obtain ⟨z12, m12, k12, e22⟩ := rv_form r11
  subst e22
  obtain ⟨z13, m13, k13, e23⟩ := rv_form r12
  subst e23
  refine wl_op rfl (op_move (v := (Value.slice z3 m3 k3)) rfl e18 ?_)
  refine wl_op rfl (op_fieldAddr_t (v := (Value.pointer (some ⟨g2, 0, none⟩))) rfl fa30_0 e20 (p2.at_ I17) ?_)
  refine wl_op rfl (op_fieldAddr_t (v := (fieldPtr (Value.pointer (some ⟨g2, 0, none⟩)) 0)) rfl fa28_0 rfl ((p2.at_ I17).fld Law06_Run.fld0) ?_)
  refine wl_op rfl (op_load_int (v := (fieldPtr (fieldPtr (Value.pointer (some ⟨g2, 0, none⟩)) 0) 0)) (e := a2.Mind.Memory) rfl sh3 rfl (((p2.at_ I17).fld Law06_Run.fld0).fld Mind.fld0) ?_)
  refine wl_op rfl (op_fieldAddr_t (v := (Value.pointer (some ⟨g2, 0, none⟩))) rfl fa30_1 e20 (p2.at_ I17) ?_)
  refine wl_op rfl (op_load_int (v := (fieldPtr (Value.pointer (some ⟨g2, 0, none⟩)) 2)) (e := a2.Most) rfl sh3 rfl ((p2.at_ I17).fld Law06_Run.fld1) ?_)
  obtain ⟨x13, hx13, h⟩ := bnd h
  refine wl_op rfl (op_call_v (vs := [(Value.agg #[(Value.slice z12 m12 k12), (Value.slice z13 m13 k13)]), (Value.slice z3 m3 k3), (Value.int .i64 (a2.Mind.Memory)), (Value.int .i64 (a2.Most))]) (r := (Value.tuple #[(Value.int .i64 (x13.1)), (Value.int .i64 (x13.2.1)), (Value.int .i64 (x13.2.2))])) rfl ca29 rfl (args4 rfl rfl rfl rfl) I17 (fun Fr_ hF_ => F29_ok hF_ (Graph.rv (s := a0) r11 r12) (h1_.mono (le1.trans le2)) hx13) (fun w15 I18 => ?_))
  refine wl_op rfl (op_move (v := (Value.tuple #[(Value.int .i64 (x13.1)), (Value.int .i64 (x13.2.1)), (Value.int .i64 (x13.2.2))])) rfl rfl ?_)
  refine wl_op rfl (op_extract (v := (Value.int .i64 (x13.1))) rfl rfl rfl ?_)
  refine wl_op rfl (op_extract (v := (Value.int .i64 (x13.2.1))) rfl rfl rfl ?_)
  refine wl_op rfl (op_extract (v := (Value.int .i64 (x13.2.2))) rfl rfl rfl ?_)
  refine wl_op rfl (op_assign (v := (Value.int .i64 (x13.1))) rfl rfl ?_)
  refine wl_op rfl (op_assign (v := (Value.int .i64 (x13.2.1))) rfl rfl ?_)
  refine wl_op rfl (op_assign (v := (Value.int .i64 (x13.2.2))) rfl rfl ?_)
  refine wl_nil ?_
  refine wp_seq' ?_
  refine wp_region' ?_
  refine wl_op rfl (op_load (v := (Value.pointer (some ⟨g1, 0, none⟩))) (e := a0) rfl sh25 e19 ((p1.mono le2).at_ I18) (fun u6 hu6 => ?_))
  obtain ⟨c13, c14, e24, r13, r14⟩ := Graph.inv hu6
  subst e24
  obtain ⟨z14, m14, k14, e25⟩ := rv_form r13
  subst e25
  obtain ⟨z15, m15, k15, e26⟩ := rv_form r14
  subst e26
  refine wl_op rfl (op_move (v := (Value.slice z3 m3 k3)) rfl e18 ?_)
  refine wl_op rfl (op_fieldAddr_t (v := (Value.pointer (some ⟨g2, 0, none⟩))) rfl fa30_0 e20 (p2.at_ I18) ?_)
  refine wl_op rfl (op_fieldAddr_t (v := (fieldPtr (Value.pointer (some ⟨g2, 0, none⟩)) 0)) rfl fa28_0 rfl ((p2.at_ I18).fld Law06_Run.fld0) ?_)
  refine wl_op rfl (op_load_int (v := (fieldPtr (fieldPtr (Value.pointer (some ⟨g2, 0, none⟩)) 0) 0)) (e := a2.Mind.Memory) rfl sh3 rfl (((p2.at_ I18).fld Law06_Run.fld0).fld Mind.fld0) ?_)
  refine wl_op rfl (op_fieldAddr_t (v := (Value.pointer (some ⟨g2, 0, none⟩))) rfl fa30_1 e20 (p2.at_ I18) ?_)
  refine wl_op rfl (op_load_int (v := (fieldPtr (Value.pointer (some ⟨g2, 0, none⟩)) 2)) (e := a2.Most) rfl sh3 rfl ((p2.at_ I18).fld Law06_Run.fld1) ?_)
  obtain ⟨x14, hx14, h⟩ := bnd h
  refine wl_op rfl (op_call_v (vs := [(Value.agg #[(Value.slice z14 m14 k14), (Value.slice z15 m15 k15)]), (Value.slice z3 m3 k3), (Value.int .i64 (a2.Mind.Memory)), (Value.int .i64 (a2.Most))]) (r := (Value.tuple #[(Value.int .i64 (x14.1)), (Value.int .i64 (x14.2.1)), (Value.int .i64 (x14.2.2))])) rfl ca27 rfl (args4 rfl rfl rfl rfl) I18 (fun Fr_ hF_ => F27_ok hF_ (Graph.rv (s := a0) r13 r14) (h1_.mono (le1.trans le2)) hx14) (fun w16 I19 => ?_))
  refine wl_op rfl (op_move (v := (Value.tuple #[(Value.int .i64 (x14.1)), (Value.int .i64 (x14.2.1)), (Value.int .i64 (x14.2.2))])) rfl rfl ?_)
  refine wl_op rfl (op_extract (v := (Value.int .i64 (x14.1))) rfl rfl rfl ?_)
  refine wl_op rfl (op_extract (v := (Value.int .i64 (x14.2.1))) rfl rfl rfl ?_)
  refine wl_op rfl (op_extract (v := (Value.int .i64 (x14.2.2))) rfl rfl rfl ?_)
  refine wl_op rfl (op_assign (v := (Value.int .i64 (x14.1))) rfl rfl ?_)
  refine wl_op rfl (op_assign (v := (Value.int .i64 (x14.2.1))) rfl rfl ?_)
  refine wl_op rfl (op_assign (v := (Value.int .i64 (x14.2.2))) rfl rfl ?_)
  refine wl_nil ?_
  obtain ⟨ov3, h8, h⟩ := bnd h
  refine wp_cut (fun f w => ∃ v3, ov3 = Sum.inl v3 ∧ Inv w S2 (Fr) ∧ f 1 = (Value.slice z3 m3 k3) ∧ f 3 = (Value.pointer (some ⟨g1, 0, none⟩)) ∧ f 5 = (Value.pointer (some ⟨g2, 0, none⟩)) ∧ f 7 = (Value.int .i64 (x13.1)) ∧ f 8 = (Value.int .i64 (x13.2.1)) ∧ f 10 = (Value.int .i64 (x14.1)) ∧ f 11 = (Value.int .i64 (x14.2.1))) ?_ ?_
  ·
   obtain ⟨v4, h11, h8⟩ := bnd h8
   refine wp_cut (fun f w => Inv w S2 (Fr) ∧ f 1 = (Value.slice z3 m3 k3) ∧ f 3 = (Value.pointer (some ⟨g1, 0, none⟩)) ∧ f 5 = (Value.pointer (some ⟨g2, 0, none⟩)) ∧ f 7 = (Value.int .i64 (x13.1)) ∧ f 8 = (Value.int .i64 (x13.2.1)) ∧ f 9 = (Value.int .i64 (x13.2.2)) ∧ f 10 = (Value.int .i64 (x14.1)) ∧ f 11 = (Value.int .i64 (x14.2.1)) ∧ f 12 = (Value.int .i64 (x14.2.2)) ∧ f 60 = (Value.bool (v4))) ?_ ?_
   ·
    refine wp_region' ?_
    refine wl_op rfl (op_move (v := (Value.int .i64 (x13.2.2))) rfl rfl ?_)
    refine wl_op rfl (op_neq (a := x13.2.2) (b := 0) rfl rfl rfl ?_)
    refine wl_op rfl (op_move (v := (Value.bool (x13.2.2 != 0))) rfl rfl ?_)
    rcases ifs h11 with ⟨hc12, h11⟩ | ⟨hc12, h11⟩
    ·
     refine wl_skip (c := x13.2.2 != 0) rfl rfl rfl rfl hc12 rfl ?_
     refine wl_skip (c := x13.2.2 != 0) rfl rfl rfl rfl hc12 rfl ?_
     refine wl_op rfl (op_pick_t (c := x13.2.2 != 0) (a := (Value.bool (true))) rfl rfl hc12 rfl ?_)
     refine wl_nil ?_
     obtain rfl := Option.some.inj h11
     exact ⟨I19, e18, e19, e20, rfl, rfl, rfl, rfl, rfl, rfl, rfl⟩
    ·
     refine wl_taken (c := x13.2.2 != 0) rfl rfl rfl rfl hc12 (op_move (v := (Value.int .i64 (x14.2.2))) rfl rfl ?_)
     refine wl_taken (c := x13.2.2 != 0) rfl rfl rfl rfl hc12 (op_neq (a := x14.2.2) (b := 0) rfl rfl rfl ?_)
     refine wl_op rfl (op_pick_f (c := x13.2.2 != 0) (b := (Value.bool (x14.2.2 != 0))) rfl rfl hc12 rfl ?_)
     refine wl_nil ?_
     obtain rfl := Option.some.inj h11
     exact ⟨I19, e18, e19, e20, rfl, rfl, rfl, rfl, rfl, rfl, rfl⟩
   ·
    rintro f w ⟨I22, e37, e38, e39, e40, e41, e42, e43, e44, e45, e46⟩
    rcases ifs h8 with ⟨hc13, h8⟩ | ⟨hc13, h8⟩
    ·
     refine wp_cond_t (b := v4) e46 hc13 ?_
     refine wp_seq' ?_
     refine wp_region' ?_
     refine wl_op rfl (op_move (v := (Value.int .i64 (x13.2.2))) rfl e42 ?_)
     refine wl_op rfl (op_move (v := (Value.int .i64 (x14.2.2))) rfl e45 ?_)
     refine wl_op rfl (op_eql (a := x13.2.2) (b := x14.2.2) rfl rfl rfl ?_)
     refine wl_op rfl (op_move (v := (Value.bool (x13.2.2 == x14.2.2))) rfl rfl ?_)
     rcases ifs h8 with ⟨hc14, h8⟩ | ⟨hc14, h8⟩
     ·
      obtain ⟨x16, hx16, h8⟩ := bnd h8
      refine wl_taken (c := x13.2.2 == x14.2.2) rfl rfl rfl rfl hc14 (op_call_v (vs := []) (r := (Value.bool (x16))) rfl ca17 rfl args0 I22 (fun Fr_ hF_ => F17_ok hF_  hx16) (fun w18 I23 => ?_))
      refine wl_op rfl (op_pick_t (c := x13.2.2 == x14.2.2) (a := (Value.bool (x16))) rfl rfl hc14 rfl ?_)
      refine wl_op rfl (op_assign (v := (Value.bool (x16))) rfl rfl ?_)
      refine wl_nil ?_
      refine wp_ret' ?_
      obtain rfl := Option.some.inj h8
      have h9 := h
      obtain rfl := Option.some.inj h9
      exact ⟨(Value.bool (x16)), (res1 rfl rfl), _, [], (le1.trans le2), I23, rfl, rfl⟩
     ·
      refine wl_skip (c := x13.2.2 == x14.2.2) rfl rfl rfl rfl hc14 rfl ?_
      refine wl_op rfl (op_pick_f (c := x13.2.2 == x14.2.2) (b := (Value.bool (false))) rfl rfl hc14 rfl ?_)
      refine wl_op rfl (op_assign (v := (Value.bool (false))) rfl rfl ?_)
      refine wl_nil ?_
      refine wp_ret' ?_
      obtain rfl := Option.some.inj h8
      have h9 := h
      obtain rfl := Option.some.inj h9
      exact ⟨(Value.bool (false)), (res1 rfl rfl), _, [], (le1.trans le2), I22, rfl, rfl⟩
    ·
     refine wp_cond_f (b := v4) e46 hc13 ?_
     refine wp_skip' ?_
     obtain rfl := Option.some.inj h8
     exact ⟨_, rfl, I22, e37, e38, e39, e40, e41, e43, e44⟩
  ·
   rintro f w ⟨v3, rfl, I24, e47, e48, e49, e50, e51, e52, e53⟩
   have h := onL_inl h
   obtain ⟨ov5, h14, h⟩ := bnd h
   refine wp_cut (fun f w => ∃ v5, ov5 = Sum.inl v5 ∧ Inv w S2 (Fr) ∧ f 1 = (Value.slice z3 m3 k3) ∧ f 3 = (Value.pointer (some ⟨g1, 0, none⟩)) ∧ f 5 = (Value.pointer (some ⟨g2, 0, none⟩)) ∧ f 10 = (Value.int .i64 (x14.1)) ∧ f 11 = (Value.int .i64 (x14.2.1))) ?_ ?_
   ·
    refine wp_seq' ?_
    refine wp_region' ?_
    refine wl_op rfl (op_move (v := (Value.int .i64 (x13.2.1))) rfl e51 ?_)
    refine wl_op rfl (op_lss (a := x13.2.1) (b := 1) rfl rfl rfl ?_)
    refine wl_op rfl (op_move (v := (Value.bool (decide (x13.2.1 < 1)))) rfl rfl ?_)
    rcases ifs h14 with ⟨hc20, h14⟩ | ⟨hc20, h14⟩
    ·
     refine wl_skip (c := decide (x13.2.1 < 1)) rfl rfl rfl rfl hc20 rfl ?_
     refine wl_skip (c := decide (x13.2.1 < 1)) rfl rfl rfl rfl hc20 rfl ?_
     refine wl_skip (c := decide (x13.2.1 < 1)) rfl rfl rfl rfl hc20 rfl ?_
     refine wl_skip (c := decide (x13.2.1 < 1)) rfl rfl rfl rfl hc20 rfl ?_
     refine wl_skip (c := decide (x13.2.1 < 1)) rfl rfl rfl rfl hc20 rfl ?_
     refine wl_op rfl (op_pick_t (c := decide (x13.2.1 < 1)) (a := (Value.bool (true))) rfl rfl hc20 rfl ?_)
     refine wl_op rfl (op_move (v := (Value.bool (true))) rfl rfl ?_)
     refine wl_skip (c := true) rfl rfl rfl rfl rfl rfl ?_
     refine wl_skip (c := true) rfl rfl rfl rfl rfl rfl ?_
     refine wl_skip (c := true) rfl rfl rfl rfl rfl rfl ?_
     refine wl_skip (c := true) rfl rfl rfl rfl rfl rfl ?_
     refine wl_skip (c := true) rfl rfl rfl rfl rfl rfl ?_
     refine wl_skip (c := true) rfl rfl rfl rfl rfl rfl ?_
     refine wl_skip (c := true) rfl rfl rfl rfl rfl rfl ?_
     refine wl_op rfl (op_pick_t (c := true) (a := (Value.bool (true))) rfl rfl rfl rfl ?_)
     refine wl_op rfl (op_move (v := (Value.bool (true))) rfl rfl ?_)
     refine wl_skip (c := true) rfl rfl rfl rfl rfl rfl ?_
     refine wl_skip (c := true) rfl rfl rfl rfl rfl rfl ?_
     refine wl_op rfl (op_pick_t (c := true) (a := (Value.bool (true))) rfl rfl rfl rfl ?_)
     refine wl_op rfl (op_move (v := (Value.bool (true))) rfl rfl ?_)
     refine wl_skip (c := true) rfl rfl rfl rfl rfl rfl ?_
     refine wl_skip (c := true) rfl rfl rfl rfl rfl rfl ?_
     refine wl_op rfl (op_pick_t (c := true) (a := (Value.bool (true))) rfl rfl rfl rfl ?_)
     refine wl_nil ?_
     refine wp_cond_t (b := true) rfl rfl ?_
     refine wp_seq' ?_
     refine wp_region' ?_
     refine wl_op rfl (op_assign (v := (Value.bool (false))) rfl rfl ?_)
     refine wl_nil ?_
     refine wp_ret' ?_
     obtain rfl := Option.some.inj h14
     have h15 := h
     obtain rfl := Option.some.inj h15
     exact ⟨(Value.bool (false)), (res1 rfl rfl), _, [], (le1.trans le2), I24, rfl, rfl⟩
    ·
     refine wl_taken (c := decide (x13.2.1 < 1)) rfl rfl rfl rfl hc20 (op_move (v := (Value.int .i64 (x13.1))) rfl e50 ?_)
     refine wl_taken (c := decide (x13.2.1 < 1)) rfl rfl rfl rfl hc20 (op_move (v := (Value.int .i64 (x14.1))) rfl e52 ?_)
     refine wl_taken (c := decide (x13.2.1 < 1)) rfl rfl rfl rfl hc20 (op_move (v := (Value.int .i64 (x13.2.1))) rfl e51 ?_)
     refine wl_taken (c := decide (x13.2.1 < 1)) rfl rfl rfl rfl hc20 (op_mul (a := x14.1) (b := x13.2.1) rfl rfl rfl ?_)
     refine wl_taken (c := decide (x13.2.1 < 1)) rfl rfl rfl rfl hc20 (op_gtr (a := x13.1) (b := w64 (x14.1 * x13.2.1)) rfl rfl rfl ?_)
     refine wl_op rfl (op_pick_f (c := decide (x13.2.1 < 1)) (b := (Value.bool (decide ((w64 (x14.1 * x13.2.1)) < x13.1)))) rfl rfl hc20 rfl ?_)
     refine wl_op rfl (op_move (v := (Value.bool (decide ((w64 (x14.1 * x13.2.1)) < x13.1)))) rfl rfl ?_)
     rcases ifs h14 with ⟨hc21, h14⟩ | ⟨hc21, h14⟩
     ·
      refine wl_skip (c := decide ((w64 (x14.1 * x13.2.1)) < x13.1)) rfl rfl rfl rfl hc21 rfl ?_
      refine wl_skip (c := decide ((w64 (x14.1 * x13.2.1)) < x13.1)) rfl rfl rfl rfl hc21 rfl ?_
      refine wl_skip (c := decide ((w64 (x14.1 * x13.2.1)) < x13.1)) rfl rfl rfl rfl hc21 rfl ?_
      refine wl_skip (c := decide ((w64 (x14.1 * x13.2.1)) < x13.1)) rfl rfl rfl rfl hc21 rfl ?_
      refine wl_skip (c := decide ((w64 (x14.1 * x13.2.1)) < x13.1)) rfl rfl rfl rfl hc21 rfl ?_
      refine wl_skip (c := decide ((w64 (x14.1 * x13.2.1)) < x13.1)) rfl rfl rfl rfl hc21 rfl ?_
      refine wl_skip (c := decide ((w64 (x14.1 * x13.2.1)) < x13.1)) rfl rfl rfl rfl hc21 rfl ?_
      refine wl_op rfl (op_pick_t (c := decide ((w64 (x14.1 * x13.2.1)) < x13.1)) (a := (Value.bool (true))) rfl rfl hc21 rfl ?_)
      refine wl_op rfl (op_move (v := (Value.bool (true))) rfl rfl ?_)
      refine wl_skip (c := true) rfl rfl rfl rfl rfl rfl ?_
      refine wl_skip (c := true) rfl rfl rfl rfl rfl rfl ?_
      refine wl_op rfl (op_pick_t (c := true) (a := (Value.bool (true))) rfl rfl rfl rfl ?_)
      refine wl_op rfl (op_move (v := (Value.bool (true))) rfl rfl ?_)
      refine wl_skip (c := true) rfl rfl rfl rfl rfl rfl ?_
      refine wl_skip (c := true) rfl rfl rfl rfl rfl rfl ?_
      refine wl_op rfl (op_pick_t (c := true) (a := (Value.bool (true))) rfl rfl rfl rfl ?_)
      refine wl_nil ?_
      refine wp_cond_t (b := true) rfl rfl ?_
      refine wp_seq' ?_
      refine wp_region' ?_
      refine wl_op rfl (op_assign (v := (Value.bool (false))) rfl rfl ?_)
      refine wl_nil ?_
      refine wp_ret' ?_
      obtain rfl := Option.some.inj h14
      have h15 := h
      obtain rfl := Option.some.inj h15
      exact ⟨(Value.bool (false)), (res1 rfl rfl), _, [], (le1.trans le2), I24, rfl, rfl⟩
     ·
      refine wl_taken (c := decide ((w64 (x14.1 * x13.2.1)) < x13.1)) rfl rfl rfl rfl hc21 (op_move (v := (Value.int .i64 (x13.1))) rfl e50 ?_)
      refine wl_taken (c := decide ((w64 (x14.1 * x13.2.1)) < x13.1)) rfl rfl rfl rfl hc21 (op_move (v := (Value.slice z3 m3 k3)) rfl e47 ?_)
      obtain ⟨x18, hx18, h14⟩ := bnd h14
      refine wl_taken (c := decide ((w64 (x14.1 * x13.2.1)) < x13.1)) rfl rfl rfl rfl hc21 (op_indexAddr_rv (v := (Value.slice z3 m3 k3)) (i := 0) (e := x18) rfl Try.underlying26 sh3 rfl (h1_.mono (le1.trans le2)) rfl hx18 ?_)
      refine wl_taken (c := decide ((w64 (x14.1 * x13.2.1)) < x13.1)) rfl rfl rfl rfl hc21 (op_load_int (v := (elemPtr (Value.slice z3 m3 k3) (0) (Enc.sz Int))) (e := x18) rfl sh3 rfl ((h1_.mono (le1.trans le2)).elem I24.in_ hx18) ?_)
      refine wl_taken (c := decide ((w64 (x14.1 * x13.2.1)) < x13.1)) rfl rfl rfl rfl hc21 (op_move (v := (Value.int .i64 (x13.2.1))) rfl e51 ?_)
      refine wl_taken (c := decide ((w64 (x14.1 * x13.2.1)) < x13.1)) rfl rfl rfl rfl hc21 (op_mul (a := x18) (b := x13.2.1) rfl rfl rfl ?_)
      refine wl_taken (c := decide ((w64 (x14.1 * x13.2.1)) < x13.1)) rfl rfl rfl rfl hc21 (op_lss (a := x13.1) (b := w64 (x18 * x13.2.1)) rfl rfl rfl ?_)
      refine wl_op rfl (op_pick_f (c := decide ((w64 (x14.1 * x13.2.1)) < x13.1)) (b := (Value.bool (decide (x13.1 < (w64 (x18 * x13.2.1)))))) rfl rfl hc21 rfl ?_)
      refine wl_op rfl (op_move (v := (Value.bool (decide (x13.1 < (w64 (x18 * x13.2.1)))))) rfl rfl ?_)
      rcases ifs h14 with ⟨hc22, h14⟩ | ⟨hc22, h14⟩
      ·
       refine wl_skip (c := decide (x13.1 < (w64 (x18 * x13.2.1)))) rfl rfl rfl rfl hc22 rfl ?_
       refine wl_skip (c := decide (x13.1 < (w64 (x18 * x13.2.1)))) rfl rfl rfl rfl hc22 rfl ?_
       refine wl_op rfl (op_pick_t (c := decide (x13.1 < (w64 (x18 * x13.2.1)))) (a := (Value.bool (true))) rfl rfl hc22 rfl ?_)
       refine wl_op rfl (op_move (v := (Value.bool (true))) rfl rfl ?_)
       refine wl_skip (c := true) rfl rfl rfl rfl rfl rfl ?_
       refine wl_skip (c := true) rfl rfl rfl rfl rfl rfl ?_
       refine wl_op rfl (op_pick_t (c := true) (a := (Value.bool (true))) rfl rfl rfl rfl ?_)
       refine wl_nil ?_
       refine wp_cond_t (b := true) rfl rfl ?_
       refine wp_seq' ?_
       refine wp_region' ?_
       refine wl_op rfl (op_assign (v := (Value.bool (false))) rfl rfl ?_)
       refine wl_nil ?_
       refine wp_ret' ?_
       obtain rfl := Option.some.inj h14
       have h15 := h
       obtain rfl := Option.some.inj h15
       exact ⟨(Value.bool (false)), (res1 rfl rfl), _, [], (le1.trans le2), I24, rfl, rfl⟩
      ·
       refine wl_taken (c := decide (x13.1 < (w64 (x18 * x13.2.1)))) rfl rfl rfl rfl hc22 (op_move (v := (Value.int .i64 (x14.2.1))) rfl e53 ?_)
       refine wl_taken (c := decide (x13.1 < (w64 (x18 * x13.2.1)))) rfl rfl rfl rfl hc22 (op_lss (a := x14.2.1) (b := 0) rfl rfl rfl ?_)
       refine wl_op rfl (op_pick_f (c := decide (x13.1 < (w64 (x18 * x13.2.1)))) (b := (Value.bool (decide (x14.2.1 < 0)))) rfl rfl hc22 rfl ?_)
       refine wl_op rfl (op_move (v := (Value.bool (decide (x14.2.1 < 0)))) rfl rfl ?_)
       rcases ifs h14 with ⟨hc23, h14⟩ | ⟨hc23, h14⟩
       ·
        refine wl_skip (c := decide (x14.2.1 < 0)) rfl rfl rfl rfl hc23 rfl ?_
        refine wl_skip (c := decide (x14.2.1 < 0)) rfl rfl rfl rfl hc23 rfl ?_
        refine wl_op rfl (op_pick_t (c := decide (x14.2.1 < 0)) (a := (Value.bool (true))) rfl rfl hc23 rfl ?_)
        refine wl_nil ?_
        refine wp_cond_t (b := true) rfl rfl ?_
        refine wp_seq' ?_
        refine wp_region' ?_
        refine wl_op rfl (op_assign (v := (Value.bool (false))) rfl rfl ?_)
        refine wl_nil ?_
        refine wp_ret' ?_
        obtain rfl := Option.some.inj h14
        have h15 := h
        obtain rfl := Option.some.inj h15
        exact ⟨(Value.bool (false)), (res1 rfl rfl), _, [], (le1.trans le2), I24, rfl, rfl⟩
       ·
        refine wl_taken (c := decide (x14.2.1 < 0)) rfl rfl rfl rfl hc23 (op_move (v := (Value.int .i64 (x14.2.1))) rfl e53 ?_)
        refine wl_taken (c := decide (x14.2.1 < 0)) rfl rfl rfl rfl hc23 (op_gtr (a := x14.2.1) (b := 99) rfl rfl rfl ?_)
        refine wl_op rfl (op_pick_f (c := decide (x14.2.1 < 0)) (b := (Value.bool (decide (99 < x14.2.1)))) rfl rfl hc23 rfl ?_)
        refine wl_nil ?_
        rcases ifs h14 with ⟨hc24, h14⟩ | ⟨hc24, h14⟩
        ·
         refine wp_cond_t (b := decide (99 < x14.2.1)) rfl hc24 ?_
         refine wp_seq' ?_
         refine wp_region' ?_
         refine wl_op rfl (op_assign (v := (Value.bool (false))) rfl rfl ?_)
         refine wl_nil ?_
         refine wp_ret' ?_
         obtain rfl := Option.some.inj h14
         have h15 := h
         obtain rfl := Option.some.inj h15
         exact ⟨(Value.bool (false)), (res1 rfl rfl), _, [], (le1.trans le2), I24, rfl, rfl⟩
        ·
         refine wp_cond_f (b := decide (99 < x14.2.1)) rfl hc24 ?_
         refine wp_skip' ?_
         obtain rfl := Option.some.inj h14
         exact ⟨_, rfl, I24, e47, e48, e49, e52, e53⟩
   ·
    rintro f w ⟨v5, rfl, I25, e54, e55, e56, e57, e58⟩
    have h := onL_inl h
    refine wp_seq' ?_
    refine wp_seq' ?_
    refine wp_region' ?_
    refine wl_op rfl (op_assign (v := (Value.int .i64 (0))) rfl rfl ?_)
    refine wl_nil ?_
    obtain ⟨o2, hrun1, h⟩ := bnd h
    refine wp_cutN (fun f w => ∃ out1, o2 = Sum.inl out1 ∧ ∃ (S_ : PH), S2.Le S_ ∧ Inv w S_ (Fr) ∧ f 1 = (Value.slice z3 m3 k3) ∧ f 3 = (Value.pointer (some ⟨g1, 0, none⟩)) ∧ f 5 = (Value.pointer (some ⟨g2, 0, none⟩)) ∧ f 10 = (Value.int .i64 (x14.1)) ∧ f 11 = (Value.int .i64 (x14.2.1)) ∧ f 13 = (Value.int .i64 (out1))) ?_ ?_
    ·
     refine wp_block' ?_
     refine wp_whileO (I := fun (s1 : (Int)) (f : Frm) (w : World) => ∃ (S_ : PH), S2.Le S_ ∧ Inv w S_ (Fr) ∧ f 1 = (Value.slice z3 m3 k3) ∧ f 3 = (Value.pointer (some ⟨g1, 0, none⟩)) ∧ f 5 = (Value.pointer (some ⟨g2, 0, none⟩)) ∧ f 10 = (Value.int .i64 (x14.1)) ∧ f 11 = (Value.int .i64 (x14.2.1)) ∧ f 13 = (Value.int .i64 (s1))) hrun1 ⟨_, (PH.Le.refl _), I25, e54, e55, e56, e57, e58, rfl⟩ ?_
     rintro s1 f w o1 hI1 h16 hout1
     obtain ⟨S13, le13, I38, e113, e114, e115, e116, e117, e118⟩ := hI1
     refine wp_seq' ?_
     refine wp_seq' ?_
     refine wp_region' ?_
     refine wl_op rfl (op_move (v := (Value.int .i64 (s1))) rfl e118 ?_)
     refine wl_op rfl (op_move (v := (Value.int .i64 (x14.2.1))) rfl e117 ?_)
     refine wl_op rfl (op_leq (a := s1) (b := x14.2.1) rfl rfl rfl ?_)
     refine wl_nil ?_
     rcases ifs h16 with ⟨hc55, h16⟩ | ⟨hc55, h16⟩
     ·
      refine wp_cond_t (b := decide (s1 ≤ x14.2.1)) rfl hc55 ?_
      refine wp_skip' ?_
      refine wp_seq' ?_
      refine wp_block' ?_
      refine wp_seq' ?_
      refine wp_region' ?_
      refine wl_op rfl (op_load (v := (Value.pointer (some ⟨g1, 0, none⟩))) (e := a0) rfl sh25 e114 ((p1.mono (le2.trans le13)).at_ I38) (fun u13 hu13 => ?_))
      obtain ⟨c27, c28, e119, r27, r28⟩ := Graph.inv hu13
      subst e119
      obtain ⟨z34, m34, k34, e120⟩ := rv_form r27
      subst e120
      obtain ⟨z35, m35, k35, e121⟩ := rv_form r28
      subst e121
      refine wl_op rfl (op_move (v := (Value.slice z3 m3 k3)) rfl e113 ?_)
      refine wl_op rfl (op_fieldAddr_t (v := (Value.pointer (some ⟨g2, 0, none⟩))) rfl fa30_0 e115 ((p2.mono le13).at_ I38) ?_)
      refine wl_op rfl (op_fieldAddr_t (v := (fieldPtr (Value.pointer (some ⟨g2, 0, none⟩)) 0)) rfl fa28_0 rfl (((p2.mono le13).at_ I38).fld Law06_Run.fld0) ?_)
      refine wl_op rfl (op_load_int (v := (fieldPtr (fieldPtr (Value.pointer (some ⟨g2, 0, none⟩)) 0) 0)) (e := a2.Mind.Memory) rfl sh3 rfl ((((p2.mono le13).at_ I38).fld Law06_Run.fld0).fld Mind.fld0) ?_)
      refine wl_op rfl (op_move (v := (Value.int .i64 (s1))) rfl e118 ?_)
      refine wl_op rfl (op_build (qs := [(0, #[(Value.int .i64 (a2.Mind.Memory))]), (1, #[(Value.int .i64 (s1))])]) (c := #[(Value.int .i64 (a2.Mind.Memory)), (Value.int .i64 (s1))]) rfl st28 ⟨rfl, rfl, ⟨rfl, rfl, trivial⟩⟩ rfl ?_)
      refine wl_op rfl (op_fieldAddr_t (v := (Value.pointer (some ⟨g2, 0, none⟩))) rfl fa30_1 e115 ((p2.mono le13).at_ I38) ?_)
      refine wl_op rfl (op_load_int (v := (fieldPtr (Value.pointer (some ⟨g2, 0, none⟩)) 2)) (e := a2.Most) rfl sh3 rfl (((p2.mono le13).at_ I38).fld Law06_Run.fld1) ?_)
      obtain ⟨x25, hx25, h16⟩ := bnd h16
      refine wl_op rfl (op_call (vs := [(Value.agg #[(Value.slice z34 m34 k34), (Value.slice z35 m35 k35)]), (Value.slice z3 m3 k3), (Value.agg #[(Value.int .i64 (a2.Mind.Memory)), (Value.int .i64 (s1))]), (Value.int .i64 (a2.Most))]) rfl ca18 rfl (args4 rfl rfl rfl rfl) (F18_ok I38 (Graph.rv (s := a0) r27 r28) (h1_.mono ((le1.trans le2).trans le13)) (Mind.rv (s := (⟨a2.Mind.Memory, s1⟩ : Mind))) hx25) (fun v12 w25 S14 O7 le14 I39 hv7 => ?_))
      obtain ⟨z36, m36, k36, rfl, rfl⟩ := hv7
      refine wl_op rfl (op_move (v := (Value.tuple #[(Value.slice z36 m36 k36), (Value.bool (x25.2.1)), (Value.int .i64 (x25.2.2))])) rfl rfl ?_)
      refine wl_op rfl (op_extract (v := (Value.slice z36 m36 k36)) rfl rfl rfl ?_)
      refine wl_op rfl (op_extract (v := (Value.bool (x25.2.1))) rfl rfl rfl ?_)
      refine wl_op rfl (op_extract (v := (Value.int .i64 (x25.2.2))) rfl rfl rfl ?_)
      refine wl_op rfl (op_assign (v := (Value.slice z36 m36 k36)) rfl rfl ?_)
      refine wl_op rfl (op_assign (v := (Value.bool (x25.2.1))) rfl rfl ?_)
      refine wl_op rfl (op_assign (v := (Value.int .i64 (x25.2.2))) rfl rfl ?_)
      refine wl_nil ?_
      refine wp_seq' ?_
      refine wp_region' ?_
      refine wl_op rfl (op_move (v := (Value.int .i64 (x25.2.2))) rfl rfl ?_)
      refine wl_op rfl (op_neq (a := x25.2.2) (b := 0) rfl rfl rfl ?_)
      refine wl_op rfl (op_move (v := (Value.bool (x25.2.2 != 0))) rfl rfl ?_)
      rcases ifs h16 with ⟨hc56, h16⟩ | ⟨hc56, h16⟩
      ·
       refine wl_skip (c := x25.2.2 != 0) rfl rfl rfl rfl hc56 rfl ?_
       refine wl_skip (c := x25.2.2 != 0) rfl rfl rfl rfl hc56 rfl ?_
       refine wl_op rfl (op_pick_t (c := x25.2.2 != 0) (a := (Value.bool (true))) rfl rfl hc56 rfl ?_)
       refine wl_op rfl (op_move (v := (Value.bool (true))) rfl rfl ?_)
       refine wl_skip (c := true) rfl rfl rfl rfl rfl rfl ?_
       refine wl_skip (c := true) rfl rfl rfl rfl rfl rfl ?_
       refine wl_skip (c := true) rfl rfl rfl rfl rfl rfl ?_
       refine wl_skip (c := true) rfl rfl rfl rfl rfl rfl ?_
       refine wl_skip (c := true) rfl rfl rfl rfl rfl rfl ?_
       refine wl_skip (c := true) rfl rfl rfl rfl rfl rfl ?_
       refine wl_skip (c := true) rfl rfl rfl rfl rfl rfl ?_
       refine wl_skip (c := true) rfl rfl rfl rfl rfl rfl ?_
       refine wl_op rfl (op_pick_t (c := true) (a := (Value.bool (true))) rfl rfl rfl rfl ?_)
       refine wl_op rfl (op_move (v := (Value.bool (true))) rfl rfl ?_)
       refine wl_skip (c := true) rfl rfl rfl rfl rfl rfl ?_
       refine wl_skip (c := true) rfl rfl rfl rfl rfl rfl ?_
       refine wl_skip (c := true) rfl rfl rfl rfl rfl rfl ?_
       refine wl_skip (c := true) rfl rfl rfl rfl rfl rfl ?_
       refine wl_op rfl (op_pick_t (c := true) (a := (Value.bool (true))) rfl rfl rfl rfl ?_)
       refine wl_nil ?_
       refine wp_cond_t (b := true) rfl rfl ?_
       refine wp_seq' ?_
       refine wp_region' ?_
       refine wl_op rfl (op_assign (v := (Value.bool (false))) rfl rfl ?_)
       refine wl_nil ?_
       refine wp_ret' ?_
       obtain rfl := Option.some.inj h16
       obtain rfl := (hout1 _ rfl)
       have h17 := h
       obtain rfl := Option.some.inj h17
       exact ⟨(Value.bool (false)), (res1 rfl rfl), _, [], (((le1.trans le2).trans le13).trans le14), (I39).drop, rfl, rfl⟩
      ·
       refine wl_taken (c := x25.2.2 != 0) rfl rfl rfl rfl hc56 (op_move (v := (Value.bool (x25.2.1))) rfl rfl ?_)
       refine wl_taken (c := x25.2.2 != 0) rfl rfl rfl rfl hc56 (op_not (b := x25.2.1) rfl rfl ?_)
       refine wl_op rfl (op_pick_f (c := x25.2.2 != 0) (b := (Value.bool (!x25.2.1))) rfl rfl hc56 rfl ?_)
       refine wl_op rfl (op_move (v := (Value.bool (!x25.2.1))) rfl rfl ?_)
       rcases ifs h16 with ⟨hc57, h16⟩ | ⟨hc57, h16⟩
       ·
        refine wl_skip (c := !x25.2.1) rfl rfl rfl rfl hc57 rfl ?_
        refine wl_skip (c := !x25.2.1) rfl rfl rfl rfl hc57 rfl ?_
        refine wl_skip (c := !x25.2.1) rfl rfl rfl rfl hc57 rfl ?_
        refine wl_skip (c := !x25.2.1) rfl rfl rfl rfl hc57 rfl ?_
        refine wl_skip (c := !x25.2.1) rfl rfl rfl rfl hc57 rfl ?_
        refine wl_skip (c := !x25.2.1) rfl rfl rfl rfl hc57 rfl ?_
        refine wl_skip (c := !x25.2.1) rfl rfl rfl rfl hc57 rfl ?_
        refine wl_skip (c := !x25.2.1) rfl rfl rfl rfl hc57 rfl ?_
        refine wl_op rfl (op_pick_t (c := !x25.2.1) (a := (Value.bool (true))) rfl rfl hc57 rfl ?_)
        refine wl_op rfl (op_move (v := (Value.bool (true))) rfl rfl ?_)
        refine wl_skip (c := true) rfl rfl rfl rfl rfl rfl ?_
        refine wl_skip (c := true) rfl rfl rfl rfl rfl rfl ?_
        refine wl_skip (c := true) rfl rfl rfl rfl rfl rfl ?_
        refine wl_skip (c := true) rfl rfl rfl rfl rfl rfl ?_
        refine wl_op rfl (op_pick_t (c := true) (a := (Value.bool (true))) rfl rfl rfl rfl ?_)
        refine wl_nil ?_
        refine wp_cond_t (b := true) rfl rfl ?_
        refine wp_seq' ?_
        refine wp_region' ?_
        refine wl_op rfl (op_assign (v := (Value.bool (false))) rfl rfl ?_)
        refine wl_nil ?_
        refine wp_ret' ?_
        obtain rfl := Option.some.inj h16
        obtain rfl := (hout1 _ rfl)
        have h17 := h
        obtain rfl := Option.some.inj h17
        exact ⟨(Value.bool (false)), (res1 rfl rfl), _, [], (((le1.trans le2).trans le13).trans le14), (I39).drop, rfl, rfl⟩
       ·
        refine wl_taken (c := !x25.2.1) rfl rfl rfl rfl hc57 (op_move (v := (Value.slice z36 m36 k36)) rfl rfl ?_)
        refine wl_taken (c := !x25.2.1) rfl rfl rfl rfl hc57 (op_len_row (α := Int) rfl Try.underlying26 rfl (I39.nth 0 rfl) ?_)
        refine wl_taken (c := !x25.2.1) rfl rfl rfl rfl hc57 (op_move (v := (Value.int .i64 (x14.1))) rfl e116 ?_)
        refine wl_taken (c := !x25.2.1) rfl rfl rfl rfl hc57 (op_eql (a := (x25.1.length : Int)) (b := x14.1) rfl rfl rfl ?_)
        refine wl_taken (c := !x25.2.1) rfl rfl rfl rfl hc57 (op_move (v := (Value.int .i64 (s1))) rfl e118 ?_)
        refine wl_taken (c := !x25.2.1) rfl rfl rfl rfl hc57 (op_move (v := (Value.int .i64 (x14.2.1))) rfl e117 ?_)
        refine wl_taken (c := !x25.2.1) rfl rfl rfl rfl hc57 (op_eql (a := s1) (b := x14.2.1) rfl rfl rfl ?_)
        refine wl_taken (c := !x25.2.1) rfl rfl rfl rfl hc57 (op_bneq (a := (x25.1.length : Int) == x14.1) (b := s1 == x14.2.1) rfl Try.underlying4 rfl rfl ?_)
        refine wl_op rfl (op_pick_f (c := !x25.2.1) (b := (Value.bool (((x25.1.length : Int) == x14.1) != (s1 == x14.2.1)))) rfl rfl hc57 rfl ?_)
        refine wl_op rfl (op_move (v := (Value.bool (((x25.1.length : Int) == x14.1) != (s1 == x14.2.1)))) rfl rfl ?_)
        rcases ifs h16 with ⟨hc58, h16⟩ | ⟨hc58, h16⟩
        ·
         refine wl_skip (c := ((x25.1.length : Int) == x14.1) != (s1 == x14.2.1)) rfl rfl rfl rfl hc58 rfl ?_
         refine wl_skip (c := ((x25.1.length : Int) == x14.1) != (s1 == x14.2.1)) rfl rfl rfl rfl hc58 rfl ?_
         refine wl_skip (c := ((x25.1.length : Int) == x14.1) != (s1 == x14.2.1)) rfl rfl rfl rfl hc58 rfl ?_
         refine wl_skip (c := ((x25.1.length : Int) == x14.1) != (s1 == x14.2.1)) rfl rfl rfl rfl hc58 rfl ?_
         refine wl_op rfl (op_pick_t (c := ((x25.1.length : Int) == x14.1) != (s1 == x14.2.1)) (a := (Value.bool (true))) rfl rfl hc58 rfl ?_)
         refine wl_nil ?_
         refine wp_cond_t (b := true) rfl rfl ?_
         refine wp_seq' ?_
         refine wp_region' ?_
         refine wl_op rfl (op_assign (v := (Value.bool (false))) rfl rfl ?_)
         refine wl_nil ?_
         refine wp_ret' ?_
         obtain rfl := Option.some.inj h16
         obtain rfl := (hout1 _ rfl)
         have h17 := h
         obtain rfl := Option.some.inj h17
         exact ⟨(Value.bool (false)), (res1 rfl rfl), _, [], (((le1.trans le2).trans le13).trans le14), (I39).drop, rfl, rfl⟩
        ·
         refine wl_taken (c := ((x25.1.length : Int) == x14.1) != (s1 == x14.2.1)) rfl rfl rfl rfl hc58 (op_move (v := (Value.slice z36 m36 k36)) rfl rfl ?_)
         refine wl_taken (c := ((x25.1.length : Int) == x14.1) != (s1 == x14.2.1)) rfl rfl rfl rfl hc58 (op_len_row (α := Int) rfl Try.underlying26 rfl (I39.nth 0 rfl) ?_)
         refine wl_taken (c := ((x25.1.length : Int) == x14.1) != (s1 == x14.2.1)) rfl rfl rfl rfl hc58 (op_move (v := (Value.int .i64 (x14.1))) rfl e116 ?_)
         refine wl_taken (c := ((x25.1.length : Int) == x14.1) != (s1 == x14.2.1)) rfl rfl rfl rfl hc58 (op_gtr (a := (x25.1.length : Int)) (b := x14.1) rfl rfl rfl ?_)
         refine wl_op rfl (op_pick_f (c := ((x25.1.length : Int) == x14.1) != (s1 == x14.2.1)) (b := (Value.bool (decide (x14.1 < (x25.1.length : Int))))) rfl rfl hc58 rfl ?_)
         refine wl_nil ?_
         rcases ifs h16 with ⟨hc59, h16⟩ | ⟨hc59, h16⟩
         ·
          refine wp_cond_t (b := decide (x14.1 < (x25.1.length : Int))) rfl hc59 ?_
          refine wp_seq' ?_
          refine wp_region' ?_
          refine wl_op rfl (op_assign (v := (Value.bool (false))) rfl rfl ?_)
          refine wl_nil ?_
          refine wp_ret' ?_
          obtain rfl := Option.some.inj h16
          obtain rfl := (hout1 _ rfl)
          have h17 := h
          obtain rfl := Option.some.inj h17
          exact ⟨(Value.bool (false)), (res1 rfl rfl), _, [], (((le1.trans le2).trans le13).trans le14), (I39).drop, rfl, rfl⟩
         ·
          refine wp_cond_f (b := decide (x14.1 < (x25.1.length : Int))) rfl hc59 ?_
          refine wp_skip' ?_
          refine wp_region' ?_
          refine wl_op rfl (op_move (v := (Value.int .i64 (s1))) rfl e118 ?_)
          refine wl_op rfl (op_add (a := s1) (b := 1) rfl rfl rfl ?_)
          refine wl_op rfl (op_assign (v := (Value.int .i64 (w64 (s1 + 1)))) rfl rfl ?_)
          refine wl_nil ?_
          obtain rfl := Option.some.inj h16
          exact ⟨_, rfl, _, (le13.trans le14), (I39).drop, e113, e114, e115, e116, e117, rfl⟩
     ·
      refine wp_cond_f (b := decide (s1 ≤ x14.2.1)) rfl hc55 ?_
      refine wp_exit' ?_
      obtain rfl := Option.some.inj h16
      obtain rfl := (hout1 _ rfl)
      exact ⟨_, rfl, _, le13, I38, e113, e114, e115, e116, e117, e118⟩
    ·
     rintro f w ⟨out1, rfl, S15, le15, I40, e122, e123, e124, e125, e126, e127⟩
     have h := onL_inl h
     refine wp_seq' ?_
     refine wp_region' ?_
     obtain ⟨x26, hx26, h⟩ := bnd h
     refine wl_op rfl (op_call_v (vs := []) (r := (Value.bool (x26))) rfl ca17 rfl args0 I40 (fun Fr_ hF_ => F17_ok hF_  hx26) (fun w26 I41 => ?_))
     refine wl_op rfl (op_assign (v := (Value.bool (x26))) rfl rfl ?_)
     refine wl_nil ?_
     refine wp_ret' ?_
     obtain rfl := Option.some.inj h
     exact ⟨(Value.bool (x26)), (res1 rfl rfl), _, [], ((le1.trans le2).trans le15), I41, rfl, rfl⟩
end Go.Proofs.Ytogfongmnkmegaa.Pad
