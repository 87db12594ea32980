/- A part of the proof: what the functions of the program compute, shown over the model. -/
import Derived.Test.YtogfongmnkmegaaSeaXP
import Derived.Test.YtogfongmnkmegaaSeaXW3
import Derived.Test.YtogfongmnkmegaaSeaXW10
import Derived.Test.YtogfongmnkmegaaSeaXW12
import Derived.KernelRfl
set_option linter.unusedVariables false
namespace Go.Proofs.Ytogfongmnkmegaa.Pad
open Go Go.Proofs
set_option maxHeartbeats 4000000 in
set_option maxRecDepth 100000 in
theorem F10_ok {w : World} {S : PH} {Fr : List HP} {a0 : Graph} {v0 : Value} {a1 : (List Int)} {v1 : Value} {a2 : Int} {r : Bool} (hI : Inv w S (Fr)) (h0_ : RV S v0 a0) (h1_ : RV S v1 a1) (h : F10 a0 a1 a2 = some r) :
    Calls Try.prog 10 [v0, v1, (Value.int .i64 (a2))].toArray w (DoneV S Fr (Value.bool (r))) := by
 unfold F10 at h
 obtain ⟨c1, c2, e1, r1, r2⟩ := Graph.inv h0_
 subst e1
 obtain ⟨z1, m1, k1, e2⟩ := rv_form r1
 subst e2
 obtain ⟨z2, m2, k2, e3⟩ := rv_form r2
 subst e3
 obtain ⟨z3, m3, k3, e4⟩ := rv_form h1_
 subst e4
 refine calls_enter (n := 63) (vs := [(Value.agg #[(Value.slice z1 m1 k1), (Value.slice z2 m2 k2)]), (Value.slice z3 m3 k3), (Value.int .i64 (a2))]) Try.func10 rfl rfl rfl ?_
 refine wp_seq' ?_
 refine wp_region' ?_
 refine wl_op rfl (op_box (v := (Value.agg #[(Value.slice z1 m1 k1), (Value.slice z2 m2 k2)])) rfl hI rfl (fun g1 w1 I1 => ?_))
 obtain ⟨S1, le1, I2, p1⟩ := Inv.boxFreeze (x := a0) I1 (Graph.rv (s := a0) r1 r2)
 refine wl_op rfl (op_assign (v := (Value.bool (false))) rfl rfl ?_)
 refine wl_nil ?_
 obtain ⟨ov1, h2, h⟩ := bnd h
 refine wp_cut (fun f w => ∃ v1, ov1 = Sum.inl v1 ∧ Inv w S1 (Fr) ∧ f 1 = (Value.slice z3 m3 k3) ∧ f 2 = (Value.int .i64 (a2)) ∧ f 3 = (Value.pointer (some ⟨g1, 0, none⟩))) ?_ ?_
 ·
  refine wp_seq' ?_
  refine wp_region' ?_
  refine wl_op rfl (op_load (v := (Value.pointer (some ⟨g1, 0, none⟩))) (e := a0) rfl sh25 rfl (p1.at_ I2) (fun u2 hu2 => ?_))
  obtain ⟨c5, c6, e8, r5, r6⟩ := Graph.inv hu2
  subst e8
  obtain ⟨z6, m6, k6, e9⟩ := rv_form r5
  subst e9
  obtain ⟨z7, m7, k7, e10⟩ := rv_form r6
  subst e10
  obtain ⟨x4, hx4, h2⟩ := bnd h2
  refine wl_op rfl (op_call_v (vs := [(Value.agg #[(Value.slice z6 m6 k6), (Value.slice z7 m7 k7)])]) (r := (Value.bool (x4))) rfl ca24 rfl (args1 rfl) I2 (fun Fr_ hF_ => F24_ok hF_ (Graph.rv (s := a0) r5 r6) hx4) (fun w5 I6 => ?_))
  refine wl_op rfl (op_not (b := x4) rfl rfl ?_)
  refine wl_op rfl (op_move (v := (Value.bool (!x4))) rfl rfl ?_)
  rcases ifs h2 with ⟨hc3, h2⟩ | ⟨hc3, h2⟩
  ·
   refine wl_skip (c := !x4) rfl rfl rfl rfl hc3 rfl ?_
   refine wl_skip (c := !x4) rfl rfl rfl rfl hc3 rfl ?_
   refine wl_op rfl (op_pick_t (c := !x4) (a := (Value.bool (true))) rfl rfl hc3 rfl ?_)
   refine wl_nil ?_
   refine wp_cond_t (b := true) rfl rfl ?_
   refine wp_seq' ?_
   refine wp_region' ?_
   obtain ⟨x5, hx5, h2⟩ := bnd h2
   refine wl_op rfl (op_call_v (vs := []) (r := (Value.bool (x5))) rfl ca17 rfl args0 I6 (fun Fr_ hF_ => F17_ok hF_  hx5) (fun w6 I7 => ?_))
   refine wl_op rfl (op_assign (v := (Value.bool (x5))) rfl rfl ?_)
   refine wl_nil ?_
   refine wp_ret' ?_
   obtain rfl := Option.some.inj h2
   have h3 := h
   obtain rfl := Option.some.inj h3
   exact ⟨(Value.bool (x5)), (res1 rfl rfl), _, [], le1, I7, rfl, rfl⟩
  ·
   refine wl_taken (c := !x4) rfl rfl rfl rfl hc3 (op_move (v := (Value.int .i64 (a2))) rfl rfl ?_)
   refine wl_taken (c := !x4) rfl rfl rfl rfl hc3 (op_gtr (a := a2) (b := 40) rfl rfl rfl ?_)
   refine wl_op rfl (op_pick_f (c := !x4) (b := (Value.bool (decide (40 < a2)))) rfl rfl hc3 rfl ?_)
   refine wl_nil ?_
   rcases ifs h2 with ⟨hc4, h2⟩ | ⟨hc4, h2⟩
   ·
    refine wp_cond_t (b := decide (40 < a2)) rfl hc4 ?_
    refine wp_seq' ?_
    refine wp_region' ?_
    obtain ⟨x6, hx6, h2⟩ := bnd h2
    refine wl_op rfl (op_call_v (vs := []) (r := (Value.bool (x6))) rfl ca17 rfl args0 I6 (fun Fr_ hF_ => F17_ok hF_  hx6) (fun w7 I8 => ?_))
    refine wl_op rfl (op_assign (v := (Value.bool (x6))) rfl rfl ?_)
    refine wl_nil ?_
    refine wp_ret' ?_
    obtain rfl := Option.some.inj h2
    have h3 := h
    obtain rfl := Option.some.inj h3
    exact ⟨(Value.bool (x6)), (res1 rfl rfl), _, [], le1, I8, rfl, rfl⟩
   ·
    refine wp_cond_f (b := decide (40 < a2)) rfl hc4 ?_
    refine wp_skip' ?_
    obtain rfl := Option.some.inj h2
    exact ⟨_, rfl, I6, rfl, rfl, rfl⟩
 ·
  rintro f w ⟨v1, rfl, I9, e11, e12, e13⟩
  have h := onL_inl h
  refine wp_seq' ?_
  refine wp_region' ?_
  refine wl_op rfl (op_load (v := (Value.pointer (some ⟨g1, 0, none⟩))) (e := a0) rfl sh25 e13 (p1.at_ I9) (fun u3 hu3 => ?_))
  obtain ⟨c7, c8, e14, r7, r8⟩ := Graph.inv hu3
  subst e14
  obtain ⟨z8, m8, k8, e15⟩ := rv_form r7
  subst e15
  obtain ⟨z9, m9, k9, e16⟩ := rv_form r8
  subst e16
  refine wl_op rfl (op_move (v := (Value.slice z3 m3 k3)) rfl e11 ?_)
  refine wl_op rfl (op_move (v := (Value.int .i64 (a2))) rfl e12 ?_)
  obtain ⟨x7, hx7, h⟩ := bnd h
  refine wl_op rfl (op_call_v (vs := [(Value.agg #[(Value.slice z8 m8 k8), (Value.slice z9 m9 k9)]), (Value.slice z3 m3 k3), (Value.int .i64 (a2))]) (r := (Value.tuple #[(Value.int .i64 (x7.1)), (Value.int .i64 (x7.2))])) rfl ca25 rfl (args3 rfl rfl rfl) I9 (fun Fr_ hF_ => F25_ok hF_ (Graph.rv (s := a0) r7 r8) (h1_.mono le1) hx7) (fun w8 I10 => ?_))
  refine wl_op rfl (op_move (v := (Value.tuple #[(Value.int .i64 (x7.1)), (Value.int .i64 (x7.2))])) rfl rfl ?_)
  refine wl_op rfl (op_extract (v := (Value.int .i64 (x7.1))) rfl rfl rfl ?_)
  refine wl_op rfl (op_extract (v := (Value.int .i64 (x7.2))) rfl rfl rfl ?_)
  refine wl_op rfl (op_assign (v := (Value.int .i64 (x7.1))) rfl rfl ?_)
  refine wl_op rfl (op_assign (v := (Value.int .i64 (x7.2))) rfl rfl ?_)
  refine wl_nil ?_
  refine wp_seq' ?_
  refine wp_seq' ?_
  refine wp_region' ?_
  refine wl_op rfl (op_move (v := (Value.int .i64 (x7.2))) rfl rfl ?_)
  refine wl_op rfl (op_neq (a := x7.2) (b := 0) rfl rfl rfl ?_)
  refine wl_nil ?_
  rcases ifs h with ⟨hc5, h⟩ | ⟨hc5, h⟩
  ·
   refine wp_cond_t (b := x7.2 != 0) rfl hc5 ?_
   refine wp_seq' ?_
   refine wp_region' ?_
   obtain ⟨x8, hx8, h⟩ := bnd h
   refine wl_op rfl (op_call_v (vs := []) (r := (Value.bool (x8))) rfl ca17 rfl args0 I10 (fun Fr_ hF_ => F17_ok hF_  hx8) (fun w9 I11 => ?_))
   refine wl_op rfl (op_assign (v := (Value.bool (x8))) rfl rfl ?_)
   refine wl_nil ?_
   refine wp_ret' ?_
   obtain rfl := Option.some.inj h
   exact ⟨(Value.bool (x8)), (res1 rfl rfl), _, [], le1, I11, rfl, rfl⟩
  ·
   refine wp_cond_f (b := x7.2 != 0) rfl hc5 ?_
   refine wp_skip' ?_
   refine wp_seq' ?_
   refine wp_region' ?_
   refine wl_op rfl (op_load (v := (Value.pointer (some ⟨g1, 0, none⟩))) (e := a0) rfl sh25 e13 (p1.at_ I10) (fun u4 hu4 => ?_))
   obtain ⟨c9, c10, e17, r9, r10⟩ := Graph.inv hu4
   subst e17
   obtain ⟨z10, m10, k10, e18⟩ := rv_form r9
   subst e18
   obtain ⟨z11, m11, k11, e19⟩ := rv_form r10
   subst e19
   refine wl_op rfl (op_move (v := (Value.slice z3 m3 k3)) rfl e11 ?_)
   refine wl_op rfl (op_move (v := (Value.int .i64 (x7.1))) rfl rfl ?_)
   refine wl_op rfl (op_move (v := (Value.int .i64 (a2))) rfl e12 ?_)
   obtain ⟨x9, hx9, h⟩ := bnd h
   refine wl_op rfl (op_call_v (vs := [(Value.agg #[(Value.slice z10 m10 k10), (Value.slice z11 m11 k11)]), (Value.slice z3 m3 k3), (Value.int .i64 (x7.1)), (Value.int .i64 (a2))]) (r := (Value.tuple #[(Value.int .i64 (x9.1)), (Value.int .i64 (x9.2.1)), (Value.int .i64 (x9.2.2))])) rfl ca27 rfl (args4 rfl rfl rfl rfl) I10 (fun Fr_ hF_ => F27_ok hF_ (Graph.rv (s := a0) r9 r10) (h1_.mono le1) hx9) (fun w10 I12 => ?_))
   refine wl_op rfl (op_move (v := (Value.tuple #[(Value.int .i64 (x9.1)), (Value.int .i64 (x9.2.1)), (Value.int .i64 (x9.2.2))])) rfl rfl ?_)
   refine wl_op rfl (op_extract (v := (Value.int .i64 (x9.1))) rfl rfl rfl ?_)
   refine wl_op rfl (op_extract (v := (Value.int .i64 (x9.2.1))) rfl rfl rfl ?_)
   refine wl_op rfl (op_extract (v := (Value.int .i64 (x9.2.2))) rfl rfl rfl ?_)
   refine wl_op rfl (op_assign (v := (Value.int .i64 (x9.1))) rfl rfl ?_)
   refine wl_op rfl (op_assign (v := (Value.int .i64 (x9.2.1))) rfl rfl ?_)
   refine wl_op rfl (op_assign (v := (Value.int .i64 (x9.2.2))) rfl rfl ?_)
   refine wl_nil ?_
   obtain ⟨ov2, h5, h⟩ := bnd h
   refine wp_cut (fun f w => ∃ v2, ov2 = Sum.inl v2 ∧ Inv w S1 (Fr) ∧ f 1 = (Value.slice z3 m3 k3) ∧ f 2 = (Value.int .i64 (a2)) ∧ f 3 = (Value.pointer (some ⟨g1, 0, none⟩)) ∧ f 7 = (Value.int .i64 (x7.1))) ?_ ?_
   ·
    refine wp_seq' ?_
    refine wp_region' ?_
    refine wl_op rfl (op_move (v := (Value.int .i64 (x9.2.2))) rfl rfl ?_)
    refine wl_op rfl (op_neq (a := x9.2.2) (b := 0) rfl rfl rfl ?_)
    refine wl_op rfl (op_move (v := (Value.bool (x9.2.2 != 0))) rfl rfl ?_)
    rcases ifs h5 with ⟨hc8, h5⟩ | ⟨hc8, h5⟩
    ·
     refine wl_skip (c := x9.2.2 != 0) rfl rfl rfl rfl hc8 rfl ?_
     refine wl_skip (c := x9.2.2 != 0) rfl rfl rfl rfl hc8 rfl ?_
     refine wl_op rfl (op_pick_t (c := x9.2.2 != 0) (a := (Value.bool (true))) rfl rfl hc8 rfl ?_)
     refine wl_nil ?_
     refine wp_cond_t (b := true) rfl rfl ?_
     refine wp_seq' ?_
     refine wp_region' ?_
     refine wl_op rfl (op_assign (v := (Value.bool (false))) rfl rfl ?_)
     refine wl_nil ?_
     refine wp_ret' ?_
     obtain rfl := Option.some.inj h5
     have h6 := h
     obtain rfl := Option.some.inj h6
     exact ⟨(Value.bool (false)), (res1 rfl rfl), _, [], le1, I12, rfl, rfl⟩
    ·
     refine wl_taken (c := x9.2.2 != 0) rfl rfl rfl rfl hc8 (op_move (v := (Value.int .i64 (x7.1))) rfl rfl ?_)
     refine wl_taken (c := x9.2.2 != 0) rfl rfl rfl rfl hc8 (op_lss (a := x7.1) (b := 0) rfl rfl rfl ?_)
     refine wl_op rfl (op_pick_f (c := x9.2.2 != 0) (b := (Value.bool (decide (x7.1 < 0)))) rfl rfl hc8 rfl ?_)
     refine wl_nil ?_
     rcases ifs h5 with ⟨hc9, h5⟩ | ⟨hc9, h5⟩
     ·
      refine wp_cond_t (b := decide (x7.1 < 0)) rfl hc9 ?_
      refine wp_seq' ?_
      refine wp_region' ?_
      refine wl_op rfl (op_assign (v := (Value.bool (false))) rfl rfl ?_)
      refine wl_nil ?_
      refine wp_ret' ?_
      obtain rfl := Option.some.inj h5
      have h6 := h
      obtain rfl := Option.some.inj h6
      exact ⟨(Value.bool (false)), (res1 rfl rfl), _, [], le1, I12, rfl, rfl⟩
     ·
      refine wp_cond_f (b := decide (x7.1 < 0)) rfl hc9 ?_
      refine wp_skip' ?_
      obtain rfl := Option.some.inj h5
      exact ⟨_, rfl, I12, e11, e12, e13, rfl⟩
   ·
    rintro f w ⟨v2, rfl, I13, e20, e21, e22, e23⟩
    have h := onL_inl h
    refine wp_seq' ?_
    refine wp_seq' ?_
    refine wp_region' ?_
    refine wl_op rfl (op_move (v := (Value.int .i64 (x7.1))) rfl e23 ?_)
    refine wl_op rfl (op_gtr (a := x7.1) (b := 0) rfl rfl rfl ?_)
    refine wl_nil ?_
    rcases ifs h with ⟨hc10, h⟩ | ⟨hc10, h⟩
    ·
     refine wp_cond_t (b := decide (0 < x7.1)) rfl hc10 ?_
     refine wp_seq' ?_
     refine wp_region' ?_
     refine wl_op rfl (op_load (v := (Value.pointer (some ⟨g1, 0, none⟩))) (e := a0) rfl sh25 e22 (p1.at_ I13) (fun u5 hu5 => ?_))
     obtain ⟨c11, c12, e24, r11, r12⟩ := Graph.inv hu5
     subst e24
     obtain ⟨z12, m12, k12, e25⟩ := rv_form r11
     subst e25
     obtain ⟨z13, m13, k13, e26⟩ := rv_form r12
     subst e26
     refine wl_op rfl (op_move (v := (Value.slice z3 m3 k3)) rfl e20 ?_)
     refine wl_op rfl (op_move (v := (Value.int .i64 (x7.1))) rfl e23 ?_)
     refine wl_op rfl (op_sub (a := x7.1) (b := 1) rfl rfl rfl ?_)
     refine wl_op rfl (op_move (v := (Value.int .i64 (a2))) rfl e21 ?_)
     obtain ⟨x10, hx10, h⟩ := bnd h
     refine wl_op rfl (op_call_v (vs := [(Value.agg #[(Value.slice z12 m12 k12), (Value.slice z13 m13 k13)]), (Value.slice z3 m3 k3), (Value.int .i64 (w64 (x7.1 - 1))), (Value.int .i64 (a2))]) (r := (Value.tuple #[(Value.int .i64 (x10.1)), (Value.int .i64 (x10.2.1)), (Value.int .i64 (x10.2.2))])) rfl ca27 rfl (args4 rfl rfl rfl rfl) I13 (fun Fr_ hF_ => F27_ok hF_ (Graph.rv (s := a0) r11 r12) (h1_.mono le1) hx10) (fun w11 I14 => ?_))
     refine wl_op rfl (op_move (v := (Value.tuple #[(Value.int .i64 (x10.1)), (Value.int .i64 (x10.2.1)), (Value.int .i64 (x10.2.2))])) rfl rfl ?_)
     refine wl_op rfl (op_extract (v := (Value.int .i64 (x10.1))) rfl rfl rfl ?_)
     refine wl_op rfl (op_extract (v := (Value.int .i64 (x10.2.1))) rfl rfl rfl ?_)
     refine wl_op rfl (op_extract (v := (Value.int .i64 (x10.2.2))) rfl rfl rfl ?_)
     refine wl_op rfl (op_assign (v := (Value.int .i64 (x10.2.2))) rfl rfl ?_)
     refine wl_nil ?_
     refine wp_seq' ?_
     refine wp_region' ?_
     refine wl_op rfl (op_move (v := (Value.int .i64 (x10.2.2))) rfl rfl ?_)
     refine wl_op rfl (op_eql (a := x10.2.2) (b := 3) rfl rfl rfl ?_)
     refine wl_op rfl (op_move (v := (Value.bool (x10.2.2 == 3))) rfl rfl ?_)
     rcases ifs h with ⟨hc11, h⟩ | ⟨hc11, h⟩
     ·
      obtain ⟨x11, hx11, h⟩ := bnd h
      refine wl_taken (c := x10.2.2 == 3) rfl rfl rfl rfl hc11 (op_call_v (vs := []) (r := (Value.bool (x11))) rfl ca17 rfl args0 I14 (fun Fr_ hF_ => F17_ok hF_  hx11) (fun w12 I15 => ?_))
      refine wl_op rfl (op_pick_t (c := x10.2.2 == 3) (a := (Value.bool (x11))) rfl rfl hc11 rfl ?_)
      refine wl_op rfl (op_assign (v := (Value.bool (x11))) rfl rfl ?_)
      refine wl_nil ?_
      refine wp_ret' ?_
      obtain rfl := Option.some.inj h
      exact ⟨(Value.bool (x11)), (res1 rfl rfl), _, [], le1, I15, rfl, rfl⟩
     ·
      refine wl_skip (c := x10.2.2 == 3) rfl rfl rfl rfl hc11 rfl ?_
      refine wl_op rfl (op_pick_f (c := x10.2.2 == 3) (b := (Value.bool (false))) rfl rfl hc11 rfl ?_)
      refine wl_op rfl (op_assign (v := (Value.bool (false))) rfl rfl ?_)
      refine wl_nil ?_
      refine wp_ret' ?_
      obtain rfl := Option.some.inj h
      exact ⟨(Value.bool (false)), (res1 rfl rfl), _, [], le1, I14, rfl, rfl⟩
    ·
     refine wp_cond_f (b := decide (0 < x7.1)) rfl hc10 ?_
     refine wp_skip' ?_
     refine wp_seq' ?_
     refine wp_region' ?_
     obtain ⟨x12, hx12, h⟩ := bnd h
     refine wl_op rfl (op_call_v (vs := []) (r := (Value.bool (x12))) rfl ca17 rfl args0 I13 (fun Fr_ hF_ => F17_ok hF_  hx12) (fun w13 I16 => ?_))
     refine wl_op rfl (op_assign (v := (Value.bool (x12))) rfl rfl ?_)
     refine wl_nil ?_
     refine wp_ret' ?_
     obtain rfl := Option.some.inj h
     exact ⟨(Value.bool (x12)), (res1 rfl rfl), _, [], le1, I16, rfl, rfl⟩
end Go.Proofs.Ytogfongmnkmegaa.Pad
