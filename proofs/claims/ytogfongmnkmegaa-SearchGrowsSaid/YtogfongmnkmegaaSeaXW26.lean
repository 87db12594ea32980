/- A part of the proof: what the functions of the program compute, shown over the model. -/
import Derived.Test.YtogfongmnkmegaaSeaXP
import Derived.Test.YtogfongmnkmegaaSeaXW3
import Derived.Test.YtogfongmnkmegaaSeaXW4
import Derived.Test.YtogfongmnkmegaaSeaXW5
import Derived.Test.YtogfongmnkmegaaSeaXW15
import Derived.KernelRfl
set_option linter.unusedVariables false
namespace Go.Proofs.Ytogfongmnkmegaa.Pad
open Go Go.Proofs
set_option maxHeartbeats 4000000 in
set_option maxRecDepth 100000 in
theorem F13_ok {w : World} {S : PH} {Fr : List HP} {a0 : Graph} {v0 : Value} {a1 : (List Int)} {v1 : Value} {a2 : Int} {r : Bool} (hI : Inv w S (Fr)) (h0_ : RV S v0 a0) (h1_ : RV S v1 a1) (h : F13 a0 a1 a2 = some r) :
    Calls Try.prog 13 [v0, v1, (Value.int .i64 (a2))].toArray w (DoneV S Fr (Value.bool (r))) := by
 unfold F13 at h
 obtain ⟨c1, c2, e1, r1, r2⟩ := Graph.inv h0_
 subst e1
 obtain ⟨z1, m1, k1, e2⟩ := rv_form r1
 subst e2
 obtain ⟨z2, m2, k2, e3⟩ := rv_form r2
 subst e3
 obtain ⟨z3, m3, k3, e4⟩ := rv_form h1_
 subst e4
 refine calls_enter (n := 104) (vs := [(Value.agg #[(Value.slice z1 m1 k1), (Value.slice z2 m2 k2)]), (Value.slice z3 m3 k3), (Value.int .i64 (a2))]) Try.func13 rfl rfl rfl ?_
 refine wp_seq' ?_
 refine wp_region' ?_
 refine wl_op rfl (op_box (v := (Value.agg #[(Value.slice z1 m1 k1), (Value.slice z2 m2 k2)])) rfl hI rfl (fun g1 w1 I1 => ?_))
 obtain ⟨S1, le1, I2, p1⟩ := Inv.boxFreeze (x := a0) I1 (Graph.rv (s := a0) r1 r2)
 refine wl_op rfl (op_assign (v := (Value.bool (false))) rfl rfl ?_)
 refine wl_nil ?_
 obtain ⟨ov1, h2, h⟩ := bnd h
 refine wp_cut (fun f w => ∃ v1, ov1 = Sum.inl v1 ∧ Inv w S1 (Fr) ∧ f 1 = (Value.slice z3 m3 k3) ∧ f 2 = (Value.int .i64 (a2)) ∧ f 3 = (Value.pointer (some ⟨g1, 0, none⟩))) ?_ ?_
 ·
  refine wp_seq' ?_
  refine wp_region' ?_
  refine wl_op rfl (op_load (v := (Value.pointer (some ⟨g1, 0, none⟩))) (e := a0) rfl sh25 rfl (p1.at_ I2) (fun u3 hu3 => ?_))
  obtain ⟨c7, c8, e11, r7, r8⟩ := Graph.inv hu3
  subst e11
  obtain ⟨z8, m8, k8, e12⟩ := rv_form r7
  subst e12
  obtain ⟨z9, m9, k9, e13⟩ := rv_form r8
  subst e13
  obtain ⟨x5, hx5, h2⟩ := bnd h2
  refine wl_op rfl (op_call_v (vs := [(Value.agg #[(Value.slice z8 m8 k8), (Value.slice z9 m9 k9)])]) (r := (Value.bool (x5))) rfl ca15 rfl (args1 rfl) I2 (fun Fr_ hF_ => F15_ok hF_ (Graph.rv (s := a0) r7 r8) hx5) (fun w6 I7 => ?_))
  refine wl_op rfl (op_move (v := (Value.bool (x5))) rfl rfl ?_)
  rcases ifs h2 with ⟨hc3, h2⟩ | ⟨hc3, h2⟩
  ·
   refine wl_skip (c := x5) rfl rfl rfl rfl hc3 rfl ?_
   refine wl_skip (c := x5) rfl rfl rfl rfl hc3 rfl ?_
   refine wl_skip (c := x5) rfl rfl rfl rfl hc3 rfl ?_
   refine wl_skip (c := x5) rfl rfl rfl rfl hc3 rfl ?_
   refine wl_op rfl (op_pick_t (c := x5) (a := (Value.bool (true))) rfl rfl hc3 rfl ?_)
   refine wl_nil ?_
   refine wp_cond_t (b := true) rfl rfl ?_
   refine wp_seq' ?_
   refine wp_region' ?_
   obtain ⟨x6, hx6, h2⟩ := bnd h2
   refine wl_op rfl (op_call_v (vs := []) (r := (Value.bool (x6))) rfl ca17 rfl args0 I7 (fun Fr_ hF_ => F17_ok hF_  hx6) (fun w7 I8 => ?_))
   refine wl_op rfl (op_assign (v := (Value.bool (x6))) rfl rfl ?_)
   refine wl_nil ?_
   refine wp_ret' ?_
   obtain rfl := Option.some.inj h2
   have h3 := h
   obtain rfl := Option.some.inj h3
   exact ⟨(Value.bool (x6)), (res1 rfl rfl), _, [], le1, I8, rfl, rfl⟩
  ·
   refine wl_taken (c := x5) rfl rfl rfl rfl hc3 (op_load (v := (Value.pointer (some ⟨g1, 0, none⟩))) (e := a0) rfl sh25 rfl (p1.at_ I7) (fun u4 hu4 => ?_))
   obtain ⟨c9, c10, e14, r9, r10⟩ := Graph.inv hu4
   subst e14
   obtain ⟨z10, m10, k10, e15⟩ := rv_form r9
   subst e15
   obtain ⟨z11, m11, k11, e16⟩ := rv_form r10
   subst e16
   refine wl_taken (c := x5) rfl rfl rfl rfl hc3 (op_move (v := (Value.slice z3 m3 k3)) rfl rfl ?_)
   obtain ⟨x7, hx7, h2⟩ := bnd h2
   refine wl_taken (c := x5) rfl rfl rfl rfl hc3 (op_call_v (vs := [(Value.agg #[(Value.slice z10 m10 k10), (Value.slice z11 m11 k11)]), (Value.slice z3 m3 k3)]) (r := (Value.int .i64 (x7))) rfl ca21 rfl (args2 rfl rfl) I7 (fun Fr_ hF_ => F21_ok hF_ (Graph.rv (s := a0) r9 r10) (h1_.mono le1) hx7) (fun w8 I9 => ?_))
   refine wl_taken (c := x5) rfl rfl rfl rfl hc3 (op_neq (a := x7) (b := 0) rfl rfl rfl ?_)
   refine wl_op rfl (op_pick_f (c := x5) (b := (Value.bool (x7 != 0))) rfl rfl hc3 rfl ?_)
   refine wl_nil ?_
   rcases ifs h2 with ⟨hc4, h2⟩ | ⟨hc4, h2⟩
   ·
    refine wp_cond_t (b := x7 != 0) rfl hc4 ?_
    refine wp_seq' ?_
    refine wp_region' ?_
    obtain ⟨x8, hx8, h2⟩ := bnd h2
    refine wl_op rfl (op_call_v (vs := []) (r := (Value.bool (x8))) rfl ca17 rfl args0 I9 (fun Fr_ hF_ => F17_ok hF_  hx8) (fun w9 I10 => ?_))
    refine wl_op rfl (op_assign (v := (Value.bool (x8))) rfl rfl ?_)
    refine wl_nil ?_
    refine wp_ret' ?_
    obtain rfl := Option.some.inj h2
    have h3 := h
    obtain rfl := Option.some.inj h3
    exact ⟨(Value.bool (x8)), (res1 rfl rfl), _, [], le1, I10, rfl, rfl⟩
   ·
    refine wp_cond_f (b := x7 != 0) rfl hc4 ?_
    refine wp_skip' ?_
    obtain rfl := Option.some.inj h2
    exact ⟨_, rfl, I9, rfl, rfl, rfl⟩
 ·
  rintro f w ⟨v1, rfl, I11, e17, e18, e19⟩
  have h := onL_inl h
  refine wp_seq' ?_
  refine wp_region' ?_
  refine wl_op rfl (op_load (v := (Value.pointer (some ⟨g1, 0, none⟩))) (e := a0) rfl sh25 e19 (p1.at_ I11) (fun u5 hu5 => ?_))
  obtain ⟨c11, c12, e20, r11, r12⟩ := Graph.inv hu5
  subst e20
  obtain ⟨z12, m12, k12, e21⟩ := rv_form r11
  subst e21
  obtain ⟨z13, m13, k13, e22⟩ := rv_form r12
  subst e22
  refine wl_op rfl (op_move (v := (Value.slice z3 m3 k3)) rfl e17 ?_)
  refine wl_op rfl (op_move (v := (Value.int .i64 (a2))) rfl e18 ?_)
  obtain ⟨x9, hx9, h⟩ := bnd h
  refine wl_op rfl (op_call_v (vs := [(Value.agg #[(Value.slice z12 m12 k12), (Value.slice z13 m13 k13)]), (Value.slice z3 m3 k3), (Value.int .i64 (a2))]) (r := (Value.tuple #[(Value.int .i64 (x9.1)), (Value.int .i64 (x9.2.1)), (Value.int .i64 (x9.2.2))])) rfl ca36 rfl (args3 rfl rfl rfl) I11 (fun Fr_ hF_ => F36_ok hF_ (Graph.rv (s := a0) r11 r12) (h1_.mono le1) hx9) (fun w10 I12 => ?_))
  refine wl_op rfl (op_move (v := (Value.tuple #[(Value.int .i64 (x9.1)), (Value.int .i64 (x9.2.1)), (Value.int .i64 (x9.2.2))])) rfl rfl ?_)
  refine wl_op rfl (op_extract (v := (Value.int .i64 (x9.1))) rfl rfl rfl ?_)
  refine wl_op rfl (op_extract (v := (Value.int .i64 (x9.2.1))) rfl rfl rfl ?_)
  refine wl_op rfl (op_extract (v := (Value.int .i64 (x9.2.2))) rfl rfl rfl ?_)
  refine wl_op rfl (op_assign (v := (Value.int .i64 (x9.1))) rfl rfl ?_)
  refine wl_op rfl (op_assign (v := (Value.int .i64 (x9.2.1))) rfl rfl ?_)
  refine wl_op rfl (op_assign (v := (Value.int .i64 (x9.2.2))) rfl rfl ?_)
  refine wl_nil ?_
  refine wp_seq' ?_
  refine wp_seq' ?_
  refine wp_region' ?_
  refine wl_op rfl (op_move (v := (Value.int .i64 (x9.2.2))) rfl rfl ?_)
  refine wl_op rfl (op_neq (a := x9.2.2) (b := 0) rfl rfl rfl ?_)
  refine wl_nil ?_
  rcases ifs h with ⟨hc5, h⟩ | ⟨hc5, h⟩
  ·
   refine wp_cond_t (b := x9.2.2 != 0) rfl hc5 ?_
   refine wp_seq' ?_
   refine wp_region' ?_
   obtain ⟨x10, hx10, h⟩ := bnd h
   refine wl_op rfl (op_call_v (vs := []) (r := (Value.bool (x10))) rfl ca17 rfl args0 I12 (fun Fr_ hF_ => F17_ok hF_  hx10) (fun w11 I13 => ?_))
   refine wl_op rfl (op_assign (v := (Value.bool (x10))) rfl rfl ?_)
   refine wl_nil ?_
   refine wp_ret' ?_
   obtain rfl := Option.some.inj h
   exact ⟨(Value.bool (x10)), (res1 rfl rfl), _, [], le1, I13, rfl, rfl⟩
  ·
   refine wp_cond_f (b := x9.2.2 != 0) rfl hc5 ?_
   refine wp_skip' ?_
   obtain ⟨ov2, h5, h⟩ := bnd h
   refine wp_cut (fun f w => ∃ v2, ov2 = Sum.inl v2 ∧ Inv w S1 (Fr) ∧ f 1 = (Value.slice z3 m3 k3) ∧ f 2 = (Value.int .i64 (a2)) ∧ f 3 = (Value.pointer (some ⟨g1, 0, none⟩)) ∧ f 7 = (Value.int .i64 (x9.1)) ∧ f 8 = (Value.int .i64 (x9.2.1))) ?_ ?_
   ·
    refine wp_seq' ?_
    refine wp_region' ?_
    refine wl_op rfl (op_move (v := (Value.int .i64 (x9.2.1))) rfl rfl ?_)
    refine wl_op rfl (op_lss (a := x9.2.1) (b := 1) rfl rfl rfl ?_)
    refine wl_op rfl (op_move (v := (Value.bool (decide (x9.2.1 < 1)))) rfl rfl ?_)
    rcases ifs h5 with ⟨hc12, h5⟩ | ⟨hc12, h5⟩
    ·
     refine wl_skip (c := decide (x9.2.1 < 1)) rfl rfl rfl rfl hc12 rfl ?_
     refine wl_skip (c := decide (x9.2.1 < 1)) rfl rfl rfl rfl hc12 rfl ?_
     refine wl_op rfl (op_pick_t (c := decide (x9.2.1 < 1)) (a := (Value.bool (true))) rfl rfl hc12 rfl ?_)
     refine wl_op rfl (op_move (v := (Value.bool (true))) rfl rfl ?_)
     refine wl_skip (c := true) rfl rfl rfl rfl rfl rfl ?_
     refine wl_skip (c := true) rfl rfl rfl rfl rfl rfl ?_
     refine wl_skip (c := true) rfl rfl rfl rfl rfl rfl ?_
     refine wl_op rfl (op_pick_t (c := true) (a := (Value.bool (true))) rfl rfl rfl rfl ?_)
     refine wl_op rfl (op_move (v := (Value.bool (true))) rfl rfl ?_)
     refine wl_skip (c := true) rfl rfl rfl rfl rfl rfl ?_
     refine wl_skip (c := true) rfl rfl rfl rfl rfl rfl ?_
     refine wl_skip (c := true) rfl rfl rfl rfl rfl rfl ?_
     refine wl_skip (c := true) rfl rfl rfl rfl rfl rfl ?_
     refine wl_skip (c := true) rfl rfl rfl rfl rfl rfl ?_
     refine wl_skip (c := true) rfl rfl rfl rfl rfl rfl ?_
     refine wl_skip (c := true) rfl rfl rfl rfl rfl rfl ?_
     refine wl_skip_u rfl rfl rfl rfl rfl ?_
     refine wl_skip_u rfl rfl rfl rfl rfl ?_
     refine wl_skip_u rfl rfl rfl rfl rfl ?_
     refine wl_skip_u rfl rfl rfl rfl rfl ?_
     refine wl_skip_u rfl rfl rfl rfl rfl ?_
     refine wl_skip (c := true) rfl rfl rfl rfl rfl rfl ?_
     refine wl_skip (c := true) rfl rfl rfl rfl rfl rfl ?_
     refine wl_op rfl (op_pick_t (c := true) (a := (Value.bool (true))) rfl rfl rfl rfl ?_)
     refine wl_nil ?_
     refine wp_cond_t (b := true) rfl rfl ?_
     refine wp_seq' ?_
     refine wp_region' ?_
     refine wl_op rfl (op_assign (v := (Value.bool (false))) rfl rfl ?_)
     refine wl_nil ?_
     refine wp_ret' ?_
     obtain rfl := Option.some.inj h5
     have h6 := h
     obtain rfl := Option.some.inj h6
     exact ⟨(Value.bool (false)), (res1 rfl rfl), _, [], le1, I12, rfl, rfl⟩
    ·
     refine wl_taken (c := decide (x9.2.1 < 1)) rfl rfl rfl rfl hc12 (op_move (v := (Value.int .i64 (x9.1))) rfl rfl ?_)
     refine wl_taken (c := decide (x9.2.1 < 1)) rfl rfl rfl rfl hc12 (op_lss (a := x9.1) (b := 0) rfl rfl rfl ?_)
     refine wl_op rfl (op_pick_f (c := decide (x9.2.1 < 1)) (b := (Value.bool (decide (x9.1 < 0)))) rfl rfl hc12 rfl ?_)
     refine wl_op rfl (op_move (v := (Value.bool (decide (x9.1 < 0)))) rfl rfl ?_)
     rcases ifs h5 with ⟨hc13, h5⟩ | ⟨hc13, h5⟩
     ·
      refine wl_skip (c := decide (x9.1 < 0)) rfl rfl rfl rfl hc13 rfl ?_
      refine wl_skip (c := decide (x9.1 < 0)) rfl rfl rfl rfl hc13 rfl ?_
      refine wl_skip (c := decide (x9.1 < 0)) rfl rfl rfl rfl hc13 rfl ?_
      refine wl_op rfl (op_pick_t (c := decide (x9.1 < 0)) (a := (Value.bool (true))) rfl rfl hc13 rfl ?_)
      refine wl_op rfl (op_move (v := (Value.bool (true))) rfl rfl ?_)
      refine wl_skip (c := true) rfl rfl rfl rfl rfl rfl ?_
      refine wl_skip (c := true) rfl rfl rfl rfl rfl rfl ?_
      refine wl_skip (c := true) rfl rfl rfl rfl rfl rfl ?_
      refine wl_skip (c := true) rfl rfl rfl rfl rfl rfl ?_
      refine wl_skip (c := true) rfl rfl rfl rfl rfl rfl ?_
      refine wl_skip (c := true) rfl rfl rfl rfl rfl rfl ?_
      refine wl_skip (c := true) rfl rfl rfl rfl rfl rfl ?_
      refine wl_skip_u rfl rfl rfl rfl rfl ?_
      refine wl_skip_u rfl rfl rfl rfl rfl ?_
      refine wl_skip_u rfl rfl rfl rfl rfl ?_
      refine wl_skip_u rfl rfl rfl rfl rfl ?_
      refine wl_skip_u rfl rfl rfl rfl rfl ?_
      refine wl_skip (c := true) rfl rfl rfl rfl rfl rfl ?_
      refine wl_skip (c := true) rfl rfl rfl rfl rfl rfl ?_
      refine wl_op rfl (op_pick_t (c := true) (a := (Value.bool (true))) rfl rfl rfl rfl ?_)
      refine wl_nil ?_
      refine wp_cond_t (b := true) rfl rfl ?_
      refine wp_seq' ?_
      refine wp_region' ?_
      refine wl_op rfl (op_assign (v := (Value.bool (false))) rfl rfl ?_)
      refine wl_nil ?_
      refine wp_ret' ?_
      obtain rfl := Option.some.inj h5
      have h6 := h
      obtain rfl := Option.some.inj h6
      exact ⟨(Value.bool (false)), (res1 rfl rfl), _, [], le1, I12, rfl, rfl⟩
     ·
      refine wl_taken (c := decide (x9.1 < 0)) rfl rfl rfl rfl hc13 (op_move (v := (Value.int .i64 (x9.1))) rfl rfl ?_)
      refine wl_taken (c := decide (x9.1 < 0)) rfl rfl rfl rfl hc13 (op_move (v := (Value.int .i64 (x9.2.1))) rfl rfl ?_)
      refine wl_taken (c := decide (x9.1 < 0)) rfl rfl rfl rfl hc13 (op_gtr (a := x9.1) (b := x9.2.1) rfl rfl rfl ?_)
      refine wl_op rfl (op_pick_f (c := decide (x9.1 < 0)) (b := (Value.bool (decide (x9.2.1 < x9.1)))) rfl rfl hc13 rfl ?_)
      refine wl_op rfl (op_move (v := (Value.bool (decide (x9.2.1 < x9.1)))) rfl rfl ?_)
      rcases ifs h5 with ⟨hc14, h5⟩ | ⟨hc14, h5⟩
      ·
       refine wl_skip (c := decide (x9.2.1 < x9.1)) rfl rfl rfl rfl hc14 rfl ?_
       refine wl_skip (c := decide (x9.2.1 < x9.1)) rfl rfl rfl rfl hc14 rfl ?_
       refine wl_skip (c := decide (x9.2.1 < x9.1)) rfl rfl rfl rfl hc14 rfl ?_
       refine wl_skip (c := decide (x9.2.1 < x9.1)) rfl rfl rfl rfl hc14 rfl ?_
       refine wl_skip (c := decide (x9.2.1 < x9.1)) rfl rfl rfl rfl hc14 rfl ?_
       refine wl_skip (c := decide (x9.2.1 < x9.1)) rfl rfl rfl rfl hc14 rfl ?_
       refine wl_skip (c := decide (x9.2.1 < x9.1)) rfl rfl rfl rfl hc14 rfl ?_
       refine wl_skip_u rfl rfl rfl rfl rfl ?_
       refine wl_skip_u rfl rfl rfl rfl rfl ?_
       refine wl_skip_u rfl rfl rfl rfl rfl ?_
       refine wl_skip_u rfl rfl rfl rfl rfl ?_
       refine wl_skip_u rfl rfl rfl rfl rfl ?_
       refine wl_skip (c := decide (x9.2.1 < x9.1)) rfl rfl rfl rfl hc14 rfl ?_
       refine wl_skip (c := decide (x9.2.1 < x9.1)) rfl rfl rfl rfl hc14 rfl ?_
       refine wl_op rfl (op_pick_t (c := decide (x9.2.1 < x9.1)) (a := (Value.bool (true))) rfl rfl hc14 rfl ?_)
       refine wl_nil ?_
       refine wp_cond_t (b := true) rfl rfl ?_
       refine wp_seq' ?_
       refine wp_region' ?_
       refine wl_op rfl (op_assign (v := (Value.bool (false))) rfl rfl ?_)
       refine wl_nil ?_
       refine wp_ret' ?_
       obtain rfl := Option.some.inj h5
       have h6 := h
       obtain rfl := Option.some.inj h6
       exact ⟨(Value.bool (false)), (res1 rfl rfl), _, [], le1, I12, rfl, rfl⟩
      ·
       refine wl_taken (c := decide (x9.2.1 < x9.1)) rfl rfl rfl rfl hc14 (op_move (v := (Value.int .i64 (x9.1))) rfl rfl ?_)
       refine wl_taken (c := decide (x9.2.1 < x9.1)) rfl rfl rfl rfl hc14 (op_gtr (a := x9.1) (b := 0) rfl rfl rfl ?_)
       refine wl_taken (c := decide (x9.2.1 < x9.1)) rfl rfl rfl rfl hc14 (op_move (v := (Value.slice z3 m3 k3)) rfl e17 ?_)
       obtain ⟨x13, hx13, h5⟩ := bnd h5
       refine wl_taken (c := decide (x9.2.1 < x9.1)) rfl rfl rfl rfl hc14 (op_indexAddr_rv (v := (Value.slice z3 m3 k3)) (i := 0) (e := x13) rfl Try.underlying26 sh3 rfl (h1_.mono le1) rfl hx13 ?_)
       refine wl_taken (c := decide (x9.2.1 < x9.1)) rfl rfl rfl rfl hc14 (op_load_int (v := (elemPtr (Value.slice z3 m3 k3) (0) (Enc.sz Int))) (e := x13) rfl sh3 rfl ((h1_.mono le1).elem I12.in_ hx13) ?_)
       refine wl_taken (c := decide (x9.2.1 < x9.1)) rfl rfl rfl rfl hc14 (op_geq (a := x13) (b := 0) rfl rfl rfl ?_)
       refine wl_taken (c := decide (x9.2.1 < x9.1)) rfl rfl rfl rfl hc14 (op_move (v := (Value.bool (decide (0 ≤ x13)))) rfl rfl ?_)
       rcases ifs h5 with ⟨hc15, h5⟩ | ⟨hc15, h5⟩
       ·
        refine wl_taken (c := decide (0 ≤ x13)) rfl rfl rfl rfl hc15 (op_move (v := (Value.int .i64 (a2))) rfl e18 ?_)
        refine wl_taken (c := decide (0 ≤ x13)) rfl rfl rfl rfl hc15 (op_move (v := (Value.slice z3 m3 k3)) rfl e17 ?_)
        obtain ⟨x14, hx14, h5⟩ := bnd h5
        refine wl_taken (c := decide (0 ≤ x13)) rfl rfl rfl rfl hc15 (op_indexAddr_rv (v := (Value.slice z3 m3 k3)) (i := 0) (e := x14) rfl Try.underlying26 sh3 rfl (h1_.mono le1) rfl hx14 ?_)
        refine wl_taken (c := decide (0 ≤ x13)) rfl rfl rfl rfl hc15 (op_load_int (v := (elemPtr (Value.slice z3 m3 k3) (0) (Enc.sz Int))) (e := x14) rfl sh3 rfl ((h1_.mono le1).elem I12.in_ hx14) ?_)
        refine wl_taken (c := decide (0 ≤ x13)) rfl rfl rfl rfl hc15 (op_geq (a := a2) (b := x14) rfl rfl rfl ?_)
        refine wl_taken (c := decide (x9.2.1 < x9.1)) rfl rfl rfl rfl hc14 (op_pick_t (c := decide (0 ≤ x13)) (a := (Value.bool (decide (x14 ≤ a2)))) rfl rfl hc15 rfl ?_)
        refine wl_taken (c := decide (x9.2.1 < x9.1)) rfl rfl rfl rfl hc14 (op_bneq (a := decide (0 < x9.1)) (b := decide (x14 ≤ a2)) rfl Try.underlying4 rfl rfl ?_)
        refine wl_op rfl (op_pick_f (c := decide (x9.2.1 < x9.1)) (b := (Value.bool ((decide (0 < x9.1)) != (decide (x14 ≤ a2))))) rfl rfl hc14 rfl ?_)
        refine wl_nil ?_
        rcases ifs h5 with ⟨hc16, h5⟩ | ⟨hc16, h5⟩
        ·
         refine wp_cond_t (b := (decide (0 < x9.1)) != (decide (x14 ≤ a2))) rfl hc16 ?_
         refine wp_seq' ?_
         refine wp_region' ?_
         refine wl_op rfl (op_assign (v := (Value.bool (false))) rfl rfl ?_)
         refine wl_nil ?_
         refine wp_ret' ?_
         obtain rfl := Option.some.inj h5
         have h6 := h
         obtain rfl := Option.some.inj h6
         exact ⟨(Value.bool (false)), (res1 rfl rfl), _, [], le1, I12, rfl, rfl⟩
        ·
         refine wp_cond_f (b := (decide (0 < x9.1)) != (decide (x14 ≤ a2))) rfl hc16 ?_
         refine wp_skip' ?_
         obtain rfl := Option.some.inj h5
         exact ⟨_, rfl, I12, e17, e18, e19, rfl, rfl⟩
       ·
        refine wl_skip (c := decide (0 ≤ x13)) rfl rfl rfl rfl hc15 rfl ?_
        refine wl_skip (c := decide (0 ≤ x13)) rfl rfl rfl rfl hc15 rfl ?_
        refine wl_skip (c := decide (0 ≤ x13)) rfl rfl rfl rfl hc15 rfl ?_
        refine wl_skip (c := decide (0 ≤ x13)) rfl rfl rfl rfl hc15 rfl ?_
        refine wl_skip (c := decide (0 ≤ x13)) rfl rfl rfl rfl hc15 rfl ?_
        refine wl_taken (c := decide (x9.2.1 < x9.1)) rfl rfl rfl rfl hc14 (op_pick_f (c := decide (0 ≤ x13)) (b := (Value.bool (false))) rfl rfl hc15 rfl ?_)
        refine wl_taken (c := decide (x9.2.1 < x9.1)) rfl rfl rfl rfl hc14 (op_bneq (a := decide (0 < x9.1)) (b := false) rfl Try.underlying4 rfl rfl ?_)
        refine wl_op rfl (op_pick_f (c := decide (x9.2.1 < x9.1)) (b := (Value.bool ((decide (0 < x9.1)) != false))) rfl rfl hc14 rfl ?_)
        refine wl_nil ?_
        rcases ifs h5 with ⟨hc17, h5⟩ | ⟨hc17, h5⟩
        ·
         refine wp_cond_t (b := (decide (0 < x9.1)) != false) rfl hc17 ?_
         refine wp_seq' ?_
         refine wp_region' ?_
         refine wl_op rfl (op_assign (v := (Value.bool (false))) rfl rfl ?_)
         refine wl_nil ?_
         refine wp_ret' ?_
         obtain rfl := Option.some.inj h5
         have h6 := h
         obtain rfl := Option.some.inj h6
         exact ⟨(Value.bool (false)), (res1 rfl rfl), _, [], le1, I12, rfl, rfl⟩
        ·
         refine wp_cond_f (b := (decide (0 < x9.1)) != false) rfl hc17 ?_
         refine wp_skip' ?_
         obtain rfl := Option.some.inj h5
         exact ⟨_, rfl, I12, e17, e18, e19, rfl, rfl⟩
   ·
    rintro f w ⟨v2, rfl, I14, e23, e24, e25, e26, e27⟩
    have h := onL_inl h
    refine wp_seq' ?_
    refine wp_seq' ?_
    refine wp_region' ?_
    refine wl_op rfl (op_assign (v := (Value.int .i64 (2))) rfl rfl ?_)
    refine wl_nil ?_
    obtain ⟨o2, hrun1, h⟩ := bnd h
    refine wp_cutN (fun f w => ∃ out1, o2 = Sum.inl out1 ∧ Inv w S1 (Fr) ∧ f 1 = (Value.slice z3 m3 k3) ∧ f 2 = (Value.int .i64 (a2)) ∧ f 3 = (Value.pointer (some ⟨g1, 0, none⟩)) ∧ f 7 = (Value.int .i64 (x9.1)) ∧ f 8 = (Value.int .i64 (x9.2.1)) ∧ f 10 = (Value.int .i64 (out1))) ?_ ?_
    ·
     refine wp_block' ?_
     refine wp_whileO (I := fun (s1 : (Int)) (f : Frm) (w : World) => Inv w S1 (Fr) ∧ f 1 = (Value.slice z3 m3 k3) ∧ f 2 = (Value.int .i64 (a2)) ∧ f 3 = (Value.pointer (some ⟨g1, 0, none⟩)) ∧ f 7 = (Value.int .i64 (x9.1)) ∧ f 8 = (Value.int .i64 (x9.2.1)) ∧ f 10 = (Value.int .i64 (s1))) hrun1 ⟨I14, e23, e24, e25, e26, e27, rfl⟩ ?_
     rintro s1 f w o1 hI1 h7 hout1
     obtain ⟨I21, e64, e65, e66, e67, e68, e69⟩ := hI1
     refine wp_seq' ?_
     refine wp_seq' ?_
     refine wp_region' ?_
     refine wl_op rfl (op_move (v := (Value.int .i64 (s1))) rfl e69 ?_)
     refine wl_op rfl (op_leq (a := s1) (b := 40) rfl rfl rfl ?_)
     refine wl_nil ?_
     rcases ifs h7 with ⟨hc36, h7⟩ | ⟨hc36, h7⟩
     ·
      refine wp_cond_t (b := decide (s1 ≤ 40)) rfl hc36 ?_
      refine wp_skip' ?_
      refine wp_seq' ?_
      refine wp_block' ?_
      refine wp_seq' ?_
      refine wp_region' ?_
      refine wl_op rfl (op_move (v := (Value.int .i64 (x9.1))) rfl e67 ?_)
      refine wl_op rfl (op_move (v := (Value.int .i64 (s1))) rfl e69 ?_)
      obtain ⟨x27, hx27, h7⟩ := bnd h7
      refine wl_op rfl (op_rem (a := x9.1) (b := s1) rfl rfl rfl hx27 ?_)
      refine wl_op rfl (op_eql (a := x27) (b := 0) rfl rfl rfl ?_)
      refine wl_op rfl (op_move (v := (Value.bool (x27 == 0))) rfl rfl ?_)
      rcases ifs h7 with ⟨hc37, h7⟩ | ⟨hc37, h7⟩
      ·
       refine wl_taken (c := x27 == 0) rfl rfl rfl rfl hc37 (op_move (v := (Value.int .i64 (x9.2.1))) rfl e68 ?_)
       refine wl_taken (c := x27 == 0) rfl rfl rfl rfl hc37 (op_move (v := (Value.int .i64 (s1))) rfl e69 ?_)
       obtain ⟨x28, hx28, h7⟩ := bnd h7
       refine wl_taken (c := x27 == 0) rfl rfl rfl rfl hc37 (op_rem (a := x9.2.1) (b := s1) rfl rfl rfl hx28 ?_)
       refine wl_taken (c := x27 == 0) rfl rfl rfl rfl hc37 (op_eql (a := x28) (b := 0) rfl rfl rfl ?_)
       refine wl_op rfl (op_pick_t (c := x27 == 0) (a := (Value.bool (x28 == 0))) rfl rfl hc37 rfl ?_)
       refine wl_nil ?_
       rcases ifs h7 with ⟨hc38, h7⟩ | ⟨hc38, h7⟩
       ·
        refine wp_cond_t (b := x28 == 0) rfl hc38 ?_
        refine wp_seq' ?_
        refine wp_region' ?_
        refine wl_op rfl (op_assign (v := (Value.bool (false))) rfl rfl ?_)
        refine wl_nil ?_
        refine wp_ret' ?_
        obtain rfl := Option.some.inj h7
        obtain rfl := (hout1 _ rfl)
        have h8 := h
        obtain rfl := Option.some.inj h8
        exact ⟨(Value.bool (false)), (res1 rfl rfl), _, [], le1, I21, rfl, rfl⟩
       ·
        refine wp_cond_f (b := x28 == 0) rfl hc38 ?_
        refine wp_skip' ?_
        refine wp_region' ?_
        refine wl_op rfl (op_move (v := (Value.int .i64 (s1))) rfl e69 ?_)
        refine wl_op rfl (op_add (a := s1) (b := 1) rfl rfl rfl ?_)
        refine wl_op rfl (op_assign (v := (Value.int .i64 (w64 (s1 + 1)))) rfl rfl ?_)
        refine wl_nil ?_
        obtain rfl := Option.some.inj h7
        exact ⟨_, rfl, I21, e64, e65, e66, e67, e68, rfl⟩
      ·
       refine wl_skip (c := x27 == 0) rfl rfl rfl rfl hc37 rfl ?_
       refine wl_skip (c := x27 == 0) rfl rfl rfl rfl hc37 rfl ?_
       refine wl_skip (c := x27 == 0) rfl rfl rfl rfl hc37 rfl ?_
       refine wl_skip (c := x27 == 0) rfl rfl rfl rfl hc37 rfl ?_
       refine wl_op rfl (op_pick_f (c := x27 == 0) (b := (Value.bool (false))) rfl rfl hc37 rfl ?_)
       refine wl_nil ?_
       refine wp_cond_f (b := false) rfl rfl ?_
       refine wp_skip' ?_
       refine wp_region' ?_
       refine wl_op rfl (op_move (v := (Value.int .i64 (s1))) rfl e69 ?_)
       refine wl_op rfl (op_add (a := s1) (b := 1) rfl rfl rfl ?_)
       refine wl_op rfl (op_assign (v := (Value.int .i64 (w64 (s1 + 1)))) rfl rfl ?_)
       refine wl_nil ?_
       obtain rfl := Option.some.inj h7
       exact ⟨_, rfl, I21, e64, e65, e66, e67, e68, rfl⟩
     ·
      refine wp_cond_f (b := decide (s1 ≤ 40)) rfl hc36 ?_
      refine wp_exit' ?_
      obtain rfl := Option.some.inj h7
      obtain rfl := (hout1 _ rfl)
      exact ⟨_, rfl, I21, e64, e65, e66, e67, e68, e69⟩
    ·
     rintro f w ⟨out1, rfl, I22, e70, e71, e72, e73, e74, e75⟩
     have h := onL_inl h
     refine wp_seq' ?_
     refine wp_region' ?_
     refine wl_op rfl (op_load (v := (Value.pointer (some ⟨g1, 0, none⟩))) (e := a0) rfl sh25 e72 (p1.at_ I22) (fun u6 hu6 => ?_))
     obtain ⟨c13, c14, e76, r13, r14⟩ := Graph.inv hu6
     subst e76
     obtain ⟨z14, m14, k14, e77⟩ := rv_form r13
     subst e77
     obtain ⟨z15, m15, k15, e78⟩ := rv_form r14
     subst e78
     refine wl_op rfl (op_move (v := (Value.slice z3 m3 k3)) rfl e70 ?_)
     refine wl_op rfl (op_move (v := (Value.int .i64 (a2))) rfl e71 ?_)
     refine wl_op rfl (op_add (a := a2) (b := 1) rfl rfl rfl ?_)
     obtain ⟨x29, hx29, h⟩ := bnd h
     refine wl_op rfl (op_call_v (vs := [(Value.agg #[(Value.slice z14 m14 k14), (Value.slice z15 m15 k15)]), (Value.slice z3 m3 k3), (Value.int .i64 (w64 (a2 + 1)))]) (r := (Value.tuple #[(Value.int .i64 (x29.1)), (Value.int .i64 (x29.2.1)), (Value.int .i64 (x29.2.2))])) rfl ca36 rfl (args3 rfl rfl rfl) I22 (fun Fr_ hF_ => F36_ok hF_ (Graph.rv (s := a0) r13 r14) (h1_.mono le1) hx29) (fun w12 I23 => ?_))
     refine wl_op rfl (op_move (v := (Value.tuple #[(Value.int .i64 (x29.1)), (Value.int .i64 (x29.2.1)), (Value.int .i64 (x29.2.2))])) rfl rfl ?_)
     refine wl_op rfl (op_extract (v := (Value.int .i64 (x29.1))) rfl rfl rfl ?_)
     refine wl_op rfl (op_extract (v := (Value.int .i64 (x29.2.1))) rfl rfl rfl ?_)
     refine wl_op rfl (op_extract (v := (Value.int .i64 (x29.2.2))) rfl rfl rfl ?_)
     refine wl_op rfl (op_assign (v := (Value.int .i64 (x29.1))) rfl rfl ?_)
     refine wl_op rfl (op_assign (v := (Value.int .i64 (x29.2.1))) rfl rfl ?_)
     refine wl_op rfl (op_assign (v := (Value.int .i64 (x29.2.2))) rfl rfl ?_)
     refine wl_nil ?_
     obtain ⟨ov3, h10, h⟩ := bnd h
     refine wp_cut (fun f w => ∃ v3, ov3 = Sum.inl v3 ∧ Inv w S1 (Fr) ∧ f 7 = (Value.int .i64 (x9.1)) ∧ f 8 = (Value.int .i64 (x9.2.1)) ∧ f 11 = (Value.int .i64 (x29.1)) ∧ f 12 = (Value.int .i64 (x29.2.1))) ?_ ?_
     ·
      refine wp_seq' ?_
      refine wp_region' ?_
      refine wl_op rfl (op_move (v := (Value.int .i64 (x29.2.2))) rfl rfl ?_)
      refine wl_op rfl (op_neq (a := x29.2.2) (b := 0) rfl rfl rfl ?_)
      refine wl_op rfl (op_move (v := (Value.bool (x29.2.2 != 0))) rfl rfl ?_)
      rcases ifs h10 with ⟨hc42, h10⟩ | ⟨hc42, h10⟩
      ·
       refine wl_skip (c := x29.2.2 != 0) rfl rfl rfl rfl hc42 rfl ?_
       refine wl_skip (c := x29.2.2 != 0) rfl rfl rfl rfl hc42 rfl ?_
       refine wl_op rfl (op_pick_t (c := x29.2.2 != 0) (a := (Value.bool (true))) rfl rfl hc42 rfl ?_)
       refine wl_op rfl (op_move (v := (Value.bool (true))) rfl rfl ?_)
       refine wl_skip (c := true) rfl rfl rfl rfl rfl rfl ?_
       refine wl_skip (c := true) rfl rfl rfl rfl rfl rfl ?_
       refine wl_op rfl (op_pick_t (c := true) (a := (Value.bool (true))) rfl rfl rfl rfl ?_)
       refine wl_nil ?_
       refine wp_cond_t (b := true) rfl rfl ?_
       refine wp_seq' ?_
       refine wp_region' ?_
       obtain ⟨x33, hx33, h10⟩ := bnd h10
       refine wl_op rfl (op_call_v (vs := []) (r := (Value.bool (x33))) rfl ca17 rfl args0 I23 (fun Fr_ hF_ => F17_ok hF_  hx33) (fun w16 I27 => ?_))
       refine wl_op rfl (op_assign (v := (Value.bool (x33))) rfl rfl ?_)
       refine wl_nil ?_
       refine wp_ret' ?_
       obtain rfl := Option.some.inj h10
       have h11 := h
       obtain rfl := Option.some.inj h11
       exact ⟨(Value.bool (x33)), (res1 rfl rfl), _, [], le1, I27, rfl, rfl⟩
      ·
       refine wl_taken (c := x29.2.2 != 0) rfl rfl rfl rfl hc42 (op_move (v := (Value.int .i64 (x9.2.1))) rfl e74 ?_)
       refine wl_taken (c := x29.2.2 != 0) rfl rfl rfl rfl hc42 (op_gtr (a := x9.2.1) (b := 1000000000) rfl rfl rfl ?_)
       refine wl_op rfl (op_pick_f (c := x29.2.2 != 0) (b := (Value.bool (decide (1000000000 < x9.2.1)))) rfl rfl hc42 rfl ?_)
       refine wl_op rfl (op_move (v := (Value.bool (decide (1000000000 < x9.2.1)))) rfl rfl ?_)
       rcases ifs h10 with ⟨hc43, h10⟩ | ⟨hc43, h10⟩
       ·
        refine wl_skip (c := decide (1000000000 < x9.2.1)) rfl rfl rfl rfl hc43 rfl ?_
        refine wl_skip (c := decide (1000000000 < x9.2.1)) rfl rfl rfl rfl hc43 rfl ?_
        refine wl_op rfl (op_pick_t (c := decide (1000000000 < x9.2.1)) (a := (Value.bool (true))) rfl rfl hc43 rfl ?_)
        refine wl_nil ?_
        refine wp_cond_t (b := true) rfl rfl ?_
        refine wp_seq' ?_
        refine wp_region' ?_
        obtain ⟨x34, hx34, h10⟩ := bnd h10
        refine wl_op rfl (op_call_v (vs := []) (r := (Value.bool (x34))) rfl ca17 rfl args0 I23 (fun Fr_ hF_ => F17_ok hF_  hx34) (fun w17 I28 => ?_))
        refine wl_op rfl (op_assign (v := (Value.bool (x34))) rfl rfl ?_)
        refine wl_nil ?_
        refine wp_ret' ?_
        obtain rfl := Option.some.inj h10
        have h11 := h
        obtain rfl := Option.some.inj h11
        exact ⟨(Value.bool (x34)), (res1 rfl rfl), _, [], le1, I28, rfl, rfl⟩
       ·
        refine wl_taken (c := decide (1000000000 < x9.2.1)) rfl rfl rfl rfl hc43 (op_move (v := (Value.int .i64 (x29.2.1))) rfl rfl ?_)
        refine wl_taken (c := decide (1000000000 < x9.2.1)) rfl rfl rfl rfl hc43 (op_gtr (a := x29.2.1) (b := 1000000000) rfl rfl rfl ?_)
        refine wl_op rfl (op_pick_f (c := decide (1000000000 < x9.2.1)) (b := (Value.bool (decide (1000000000 < x29.2.1)))) rfl rfl hc43 rfl ?_)
        refine wl_nil ?_
        rcases ifs h10 with ⟨hc44, h10⟩ | ⟨hc44, h10⟩
        ·
         refine wp_cond_t (b := decide (1000000000 < x29.2.1)) rfl hc44 ?_
         refine wp_seq' ?_
         refine wp_region' ?_
         obtain ⟨x35, hx35, h10⟩ := bnd h10
         refine wl_op rfl (op_call_v (vs := []) (r := (Value.bool (x35))) rfl ca17 rfl args0 I23 (fun Fr_ hF_ => F17_ok hF_  hx35) (fun w18 I29 => ?_))
         refine wl_op rfl (op_assign (v := (Value.bool (x35))) rfl rfl ?_)
         refine wl_nil ?_
         refine wp_ret' ?_
         obtain rfl := Option.some.inj h10
         have h11 := h
         obtain rfl := Option.some.inj h11
         exact ⟨(Value.bool (x35)), (res1 rfl rfl), _, [], le1, I29, rfl, rfl⟩
        ·
         refine wp_cond_f (b := decide (1000000000 < x29.2.1)) rfl hc44 ?_
         refine wp_skip' ?_
         obtain rfl := Option.some.inj h10
         exact ⟨_, rfl, I23, e73, e74, rfl, rfl⟩
     ·
      rintro f w ⟨v3, rfl, I30, e79, e80, e81, e82⟩
      have h := onL_inl h
      refine wp_seq' ?_
      refine wp_region' ?_
      refine wl_op rfl (op_move (v := (Value.int .i64 (x9.1))) rfl e79 ?_)
      refine wl_op rfl (op_move (v := (Value.int .i64 (x29.2.1))) rfl e82 ?_)
      refine wl_op rfl (op_mul (a := x9.1) (b := x29.2.1) rfl rfl rfl ?_)
      refine wl_op rfl (op_move (v := (Value.int .i64 (x29.1))) rfl e81 ?_)
      refine wl_op rfl (op_move (v := (Value.int .i64 (x9.2.1))) rfl e80 ?_)
      refine wl_op rfl (op_mul (a := x29.1) (b := x9.2.1) rfl rfl rfl ?_)
      refine wl_op rfl (op_leq (a := w64 (x9.1 * x29.2.1)) (b := w64 (x29.1 * x9.2.1)) rfl rfl rfl ?_)
      refine wl_op rfl (op_move (v := (Value.bool (decide ((w64 (x9.1 * x29.2.1)) ≤ (w64 (x29.1 * x9.2.1)))))) rfl rfl ?_)
      rcases ifs h with ⟨hc45, h⟩ | ⟨hc45, h⟩
      ·
       obtain ⟨x36, hx36, h⟩ := bnd h
       refine wl_taken (c := decide ((w64 (x9.1 * x29.2.1)) ≤ (w64 (x29.1 * x9.2.1)))) rfl rfl rfl rfl hc45 (op_call_v (vs := []) (r := (Value.bool (x36))) rfl ca17 rfl args0 I30 (fun Fr_ hF_ => F17_ok hF_  hx36) (fun w19 I31 => ?_))
       refine wl_op rfl (op_pick_t (c := decide ((w64 (x9.1 * x29.2.1)) ≤ (w64 (x29.1 * x9.2.1)))) (a := (Value.bool (x36))) rfl rfl hc45 rfl ?_)
       refine wl_op rfl (op_assign (v := (Value.bool (x36))) rfl rfl ?_)
       refine wl_nil ?_
       refine wp_ret' ?_
       obtain rfl := Option.some.inj h
       exact ⟨(Value.bool (x36)), (res1 rfl rfl), _, [], le1, I31, rfl, rfl⟩
      ·
       refine wl_skip (c := decide ((w64 (x9.1 * x29.2.1)) ≤ (w64 (x29.1 * x9.2.1)))) rfl rfl rfl rfl hc45 rfl ?_
       refine wl_op rfl (op_pick_f (c := decide ((w64 (x9.1 * x29.2.1)) ≤ (w64 (x29.1 * x9.2.1)))) (b := (Value.bool (false))) rfl rfl hc45 rfl ?_)
       refine wl_op rfl (op_assign (v := (Value.bool (false))) rfl rfl ?_)
       refine wl_nil ?_
       refine wp_ret' ?_
       obtain rfl := Option.some.inj h
       exact ⟨(Value.bool (false)), (res1 rfl rfl), _, [], le1, I30, rfl, rfl⟩
end Go.Proofs.Ytogfongmnkmegaa.Pad
