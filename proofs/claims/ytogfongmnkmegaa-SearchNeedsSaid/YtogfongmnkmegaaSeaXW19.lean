/- A part of the proof: what the functions of the program compute, shown over the model. -/
import Derived.Test.YtogfongmnkmegaaSeaXP
import Derived.Test.YtogfongmnkmegaaSeaXW3
import Derived.Test.YtogfongmnkmegaaSeaXW8
import Derived.Test.YtogfongmnkmegaaSeaXW9
import Derived.Test.YtogfongmnkmegaaSeaXW12
import Derived.KernelRfl
set_option linter.unusedVariables false
namespace Go.Proofs.Ytogfongmnkmegaa.Pad
open Go Go.Proofs
set_option maxHeartbeats 4000000 in
set_option maxRecDepth 100000 in
theorem F26_ok {w : World} {S : PH} {Fr : List HP} {a0 : Graph} {v0 : Value} {a1 : (List Int)} {v1 : Value} {a2 : Int} {r : Int × Int} (hI : Inv w S (Fr)) (h0_ : RV S v0 a0) (h1_ : RV S v1 a1) (h : F26 a0 a1 a2 = some r) :
    Calls Try.prog 26 [v0, v1, (Value.int .i64 (a2))].toArray w (DoneV S Fr (Value.tuple #[(Value.int .i64 (r.1)), (Value.int .i64 (r.2))])) := by
 unfold F26 at h
 obtain ⟨c1, c2, e1, r1, r2⟩ := Graph.inv h0_
 subst e1
 obtain ⟨z1, m1, k1, e2⟩ := rv_form r1
 subst e2
 obtain ⟨z2, m2, k2, e3⟩ := rv_form r2
 subst e3
 obtain ⟨z3, m3, k3, e4⟩ := rv_form h1_
 subst e4
 refine calls_enter (n := 34) (vs := [(Value.agg #[(Value.slice z1 m1 k1), (Value.slice z2 m2 k2)]), (Value.slice z3 m3 k3), (Value.int .i64 (a2))]) Try.func26 rfl rfl rfl ?_
 refine wp_seq' ?_
 refine wp_region' ?_
 refine wl_op rfl (op_box (v := (Value.agg #[(Value.slice z1 m1 k1), (Value.slice z2 m2 k2)])) rfl hI rfl (fun g1 w1 I1 => ?_))
 obtain ⟨S1, le1, I2, p1⟩ := Inv.boxFreeze (x := a0) I1 (Graph.rv (s := a0) r1 r2)
 refine wl_op rfl (op_assign (v := (Value.int .i64 (0))) rfl rfl ?_)
 refine wl_op rfl (op_assign (v := (Value.int .i64 (0))) rfl rfl ?_)
 refine wl_nil ?_
 refine wp_seq' ?_
 refine wp_seq' ?_
 refine wp_region' ?_
 refine wl_op rfl (op_load (v := (Value.pointer (some ⟨g1, 0, none⟩))) (e := a0) rfl sh25 rfl (p1.at_ I2) (fun u1 hu1 => ?_))
 obtain ⟨c3, c4, e5, r3, r4⟩ := Graph.inv hu1
 subst e5
 obtain ⟨z4, m4, k4, e6⟩ := rv_form r3
 subst e6
 obtain ⟨z5, m5, k5, e7⟩ := rv_form r4
 subst e7
 refine wl_op rfl (op_move (v := (Value.slice z3 m3 k3)) rfl rfl ?_)
 refine wl_op rfl (op_build (qs := []) (c := #[(Value.int .i64 (0)), (Value.int .i64 (0))]) rfl st28 trivial rfl ?_)
 refine wl_op rfl (op_move (v := (Value.int .i64 (a2))) rfl rfl ?_)
 obtain ⟨x1, hx1, h⟩ := bnd h
 refine wl_op rfl (op_call_v (vs := [(Value.agg #[(Value.slice z4 m4 k4), (Value.slice z5 m5 k5)]), (Value.slice z3 m3 k3), (Value.agg #[(Value.int .i64 (0)), (Value.int .i64 (0))]), (Value.int .i64 (a2))]) (r := (Value.int .i64 (x1))) rfl ca47 rfl (args4 rfl rfl rfl rfl) I2 (fun Fr_ hF_ => F47_ok hF_ (Graph.rv (s := a0) r3 r4) (h1_.mono le1) (Mind.rv (s := (⟨0, 0⟩ : Mind))) hx1) (fun w2 I3 => ?_))
 refine wl_op rfl (op_assign (v := (Value.int .i64 (x1))) rfl rfl ?_)
 refine wl_nil ?_
 refine wp_seq' ?_
 refine wp_region' ?_
 refine wl_op rfl (op_move (v := (Value.int .i64 (x1))) rfl rfl ?_)
 refine wl_op rfl (op_neq (a := x1) (b := 0) rfl rfl rfl ?_)
 refine wl_nil ?_
 rcases ifs h with ⟨hc1, h⟩ | ⟨hc1, h⟩
 ·
  refine wp_cond_t (b := x1 != 0) rfl hc1 ?_
  refine wp_seq' ?_
  refine wp_region' ?_
  refine wl_op rfl (op_move (v := (Value.int .i64 (x1))) rfl rfl ?_)
  refine wl_op rfl (op_assign (v := (Value.int .i64 (0))) rfl rfl ?_)
  refine wl_op rfl (op_assign (v := (Value.int .i64 (x1))) rfl rfl ?_)
  refine wl_nil ?_
  refine wp_ret' ?_
  obtain rfl := Option.some.inj h
  exact ⟨(Value.tuple #[(Value.int .i64 (0)), (Value.int .i64 (x1))]), (res2 rfl rfl rfl), _, [], le1, I3, rfl, rfl⟩
 ·
  refine wp_cond_f (b := x1 != 0) rfl hc1 ?_
  refine wp_skip' ?_
  refine wp_seq' ?_
  refine wp_seq' ?_
  refine wp_region' ?_
  refine wl_op rfl (op_assign (v := (Value.int .i64 (0))) rfl rfl ?_)
  refine wl_nil ?_
  obtain ⟨o2, hrun1, h⟩ := bnd h
  refine wp_cutN (fun f w => ∃ out1, o2 = Sum.inl out1 ∧ ∃ (S_ : PH), S1.Le S_ ∧ Inv w S_ (Fr) ∧ f 1 = (Value.slice z3 m3 k3) ∧ f 2 = (Value.int .i64 (a2)) ∧ f 3 = (Value.pointer (some ⟨g1, 0, none⟩)) ∧ f 9 = (Value.int .i64 (out1))) ?_ ?_
  ·
   refine wp_block' ?_
   refine wp_whileO (I := fun (s1 : (Int)) (f : Frm) (w : World) => ∃ (S_ : PH), S1.Le S_ ∧ Inv w S_ (Fr) ∧ f 1 = (Value.slice z3 m3 k3) ∧ f 2 = (Value.int .i64 (a2)) ∧ f 3 = (Value.pointer (some ⟨g1, 0, none⟩)) ∧ f 9 = (Value.int .i64 (s1))) hrun1 ⟨_, (PH.Le.refl _), I3, rfl, rfl, rfl, rfl⟩ ?_
   rintro s1 f w o1 hI1 h1 hout1
   obtain ⟨S12, le12, I16, e50, e51, e52, e53⟩ := hI1
   refine wp_seq' ?_
   refine wp_seq' ?_
   refine wp_region' ?_
   refine wl_op rfl (op_move (v := (Value.int .i64 (s1))) rfl e53 ?_)
   refine wl_op rfl (op_leq (a := s1) (b := 200) rfl rfl rfl ?_)
   refine wl_nil ?_
   rcases ifs h1 with ⟨hc14, h1⟩ | ⟨hc14, h1⟩
   ·
    refine wp_cond_t (b := decide (s1 ≤ 200)) rfl hc14 ?_
    refine wp_skip' ?_
    refine wp_seq' ?_
    refine wp_block' ?_
    refine wp_seq' ?_
    refine wp_region' ?_
    refine wl_op rfl (op_load (v := (Value.pointer (some ⟨g1, 0, none⟩))) (e := a0) rfl sh25 e52 ((p1.mono le12).at_ I16) (fun u8 hu8 => ?_))
    obtain ⟨c17, c18, e54, r17, r18⟩ := Graph.inv hu8
    subst e54
    obtain ⟨z24, m24, k24, e55⟩ := rv_form r17
    subst e55
    obtain ⟨z25, m25, k25, e56⟩ := rv_form r18
    subst e56
    refine wl_op rfl (op_move (v := (Value.slice z3 m3 k3)) rfl e50 ?_)
    refine wl_op rfl (op_move (v := (Value.int .i64 (s1))) rfl e53 ?_)
    refine wl_op rfl (op_move (v := (Value.int .i64 (a2))) rfl e51 ?_)
    obtain ⟨x8, hx8, h1⟩ := bnd h1
    refine wl_op rfl (op_call (vs := [(Value.agg #[(Value.slice z24 m24 k24), (Value.slice z25 m25 k25)]), (Value.slice z3 m3 k3), (Value.int .i64 (s1)), (Value.int .i64 (a2))]) rfl ca51 rfl (args4 rfl rfl rfl rfl) (F51_ok I16 (Graph.rv (s := a0) r17 r18) (h1_.mono (le1.trans le12)) hx8) (fun v7 w9 S13 O7 le13 I17 hv7 => ?_))
    obtain ⟨z26, m26, k26, rfl, rfl⟩ := hv7
    refine wl_op rfl (op_move (v := (Value.tuple #[(Value.slice z26 m26 k26), (Value.bool (x8.2))])) rfl rfl ?_)
    refine wl_op rfl (op_extract (v := (Value.slice z26 m26 k26)) rfl rfl rfl ?_)
    refine wl_op rfl (op_extract (v := (Value.bool (x8.2))) rfl rfl rfl ?_)
    refine wl_op rfl (op_assign (v := (Value.slice z26 m26 k26)) rfl rfl ?_)
    refine wl_op rfl (op_assign (v := (Value.bool (x8.2))) rfl rfl ?_)
    refine wl_nil ?_
    refine wp_seq' ?_
    refine wp_region' ?_
    refine wl_op rfl (op_move (v := (Value.bool (x8.2))) rfl rfl ?_)
    refine wl_nil ?_
    rcases ifs h1 with ⟨hc15, h1⟩ | ⟨hc15, h1⟩
    ·
     refine wp_cond_t (b := x8.2) rfl hc15 ?_
     refine wp_seq' ?_
     refine wp_region' ?_
     refine wl_op rfl (op_move (v := (Value.int .i64 (s1))) rfl e53 ?_)
     refine wl_op rfl (op_assign (v := (Value.int .i64 (s1))) rfl rfl ?_)
     refine wl_op rfl (op_assign (v := (Value.int .i64 (0))) rfl rfl ?_)
     refine wl_nil ?_
     refine wp_ret' ?_
     obtain rfl := Option.some.inj h1
     obtain rfl := (hout1 _ rfl)
     have h2 := h
     obtain rfl := Option.some.inj h2
     exact ⟨(Value.tuple #[(Value.int .i64 (s1)), (Value.int .i64 (0))]), (res2 rfl rfl rfl), _, [], ((le1.trans le12).trans le13), (I17).drop, rfl, rfl⟩
    ·
     refine wp_cond_f (b := x8.2) rfl hc15 ?_
     refine wp_skip' ?_
     refine wp_region' ?_
     refine wl_op rfl (op_move (v := (Value.int .i64 (s1))) rfl e53 ?_)
     refine wl_op rfl (op_add (a := s1) (b := 1) rfl rfl rfl ?_)
     refine wl_op rfl (op_assign (v := (Value.int .i64 (w64 (s1 + 1)))) rfl rfl ?_)
     refine wl_nil ?_
     obtain rfl := Option.some.inj h1
     exact ⟨_, rfl, _, (le12.trans le13), (I17).drop, e50, e51, e52, rfl⟩
   ·
    refine wp_cond_f (b := decide (s1 ≤ 200)) rfl hc14 ?_
    refine wp_exit' ?_
    obtain rfl := Option.some.inj h1
    obtain rfl := (hout1 _ rfl)
    exact ⟨_, rfl, _, le12, I16, e50, e51, e52, e53⟩
  ·
   rintro f w ⟨out1, rfl, S14, le14, I18, e57, e58, e59, e60⟩
   have h := onL_inl h
   refine wp_seq' ?_
   refine wp_region' ?_
   refine wl_op rfl (op_assign (v := (Value.int .i64 (0))) rfl rfl ?_)
   refine wl_op rfl (op_assign (v := (Value.int .i64 (3))) rfl rfl ?_)
   refine wl_nil ?_
   refine wp_ret' ?_
   obtain rfl := Option.some.inj h
   exact ⟨(Value.tuple #[(Value.int .i64 (0)), (Value.int .i64 (3))]), (res2 rfl rfl rfl), _, [], (le1.trans le14), I18, rfl, rfl⟩

set_option maxHeartbeats 4000000 in
set_option maxRecDepth 100000 in
theorem F6_ok {w : World} {S : PH} {Fr : List HP} {a0 : Graph} {v0 : Value} {a1 : (List Int)} {v1 : Value} {a2 : Int} {r : Bool} (hI : Inv w S (Fr)) (h0_ : RV S v0 a0) (h1_ : RV S v1 a1) (h : F6 a0 a1 a2 = some r) :
    Calls Try.prog 6 [v0, v1, (Value.int .i64 (a2))].toArray w (DoneV S Fr (Value.bool (r))) := by
 unfold F6 at h
 obtain ⟨c1, c2, e1, r1, r2⟩ := Graph.inv h0_
 subst e1
 obtain ⟨z1, m1, k1, e2⟩ := rv_form r1
 subst e2
 obtain ⟨z2, m2, k2, e3⟩ := rv_form r2
 subst e3
 obtain ⟨z3, m3, k3, e4⟩ := rv_form h1_
 subst e4
 refine calls_enter (n := 44) (vs := [(Value.agg #[(Value.slice z1 m1 k1), (Value.slice z2 m2 k2)]), (Value.slice z3 m3 k3), (Value.int .i64 (a2))]) Try.func6 rfl rfl rfl ?_
 refine wp_seq' ?_
 refine wp_region' ?_
 refine wl_op rfl (op_box (v := (Value.agg #[(Value.slice z1 m1 k1), (Value.slice z2 m2 k2)])) rfl hI rfl (fun g1 w1 I1 => ?_))
 obtain ⟨S1, le1, I2, p1⟩ := Inv.boxFreeze (x := a0) I1 (Graph.rv (s := a0) r1 r2)
 refine wl_op rfl (op_assign (v := (Value.bool (false))) rfl rfl ?_)
 refine wl_nil ?_
 obtain ⟨ov1, h2, h⟩ := bnd h
 refine wp_cut (fun f w => ∃ v1, ov1 = Sum.inl v1 ∧ Inv w S1 (Fr) ∧ f 1 = (Value.slice z3 m3 k3) ∧ f 2 = (Value.int .i64 (a2)) ∧ f 3 = (Value.pointer (some ⟨g1, 0, none⟩))) ?_ ?_
 ·
  refine wp_seq' ?_
  refine wp_region' ?_
  refine wl_op rfl (op_load (v := (Value.pointer (some ⟨g1, 0, none⟩))) (e := a0) rfl sh25 rfl (p1.at_ I2) (fun u2 hu2 => ?_))
  obtain ⟨c5, c6, e8, r5, r6⟩ := Graph.inv hu2
  subst e8
  obtain ⟨z6, m6, k6, e9⟩ := rv_form r5
  subst e9
  obtain ⟨z7, m7, k7, e10⟩ := rv_form r6
  subst e10
  obtain ⟨x4, hx4, h2⟩ := bnd h2
  refine wl_op rfl (op_call_v (vs := [(Value.agg #[(Value.slice z6 m6 k6), (Value.slice z7 m7 k7)])]) (r := (Value.bool (x4))) rfl ca24 rfl (args1 rfl) I2 (fun Fr_ hF_ => F24_ok hF_ (Graph.rv (s := a0) r5 r6) hx4) (fun w5 I6 => ?_))
  refine wl_op rfl (op_not (b := x4) rfl rfl ?_)
  refine wl_op rfl (op_move (v := (Value.bool (!x4))) rfl rfl ?_)
  rcases ifs h2 with ⟨hc3, h2⟩ | ⟨hc3, h2⟩
  ·
   refine wl_skip (c := !x4) rfl rfl rfl rfl hc3 rfl ?_
   refine wl_skip (c := !x4) rfl rfl rfl rfl hc3 rfl ?_
   refine wl_op rfl (op_pick_t (c := !x4) (a := (Value.bool (true))) rfl rfl hc3 rfl ?_)
   refine wl_nil ?_
   refine wp_cond_t (b := true) rfl rfl ?_
   refine wp_seq' ?_
   refine wp_region' ?_
   obtain ⟨x5, hx5, h2⟩ := bnd h2
   refine wl_op rfl (op_call_v (vs := []) (r := (Value.bool (x5))) rfl ca17 rfl args0 I6 (fun Fr_ hF_ => F17_ok hF_  hx5) (fun w6 I7 => ?_))
   refine wl_op rfl (op_assign (v := (Value.bool (x5))) rfl rfl ?_)
   refine wl_nil ?_
   refine wp_ret' ?_
   obtain rfl := Option.some.inj h2
   have h3 := h
   obtain rfl := Option.some.inj h3
   exact ⟨(Value.bool (x5)), (res1 rfl rfl), _, [], le1, I7, rfl, rfl⟩
  ·
   refine wl_taken (c := !x4) rfl rfl rfl rfl hc3 (op_move (v := (Value.int .i64 (a2))) rfl rfl ?_)
   refine wl_taken (c := !x4) rfl rfl rfl rfl hc3 (op_gtr (a := a2) (b := 40) rfl rfl rfl ?_)
   refine wl_op rfl (op_pick_f (c := !x4) (b := (Value.bool (decide (40 < a2)))) rfl rfl hc3 rfl ?_)
   refine wl_nil ?_
   rcases ifs h2 with ⟨hc4, h2⟩ | ⟨hc4, h2⟩
   ·
    refine wp_cond_t (b := decide (40 < a2)) rfl hc4 ?_
    refine wp_seq' ?_
    refine wp_region' ?_
    obtain ⟨x6, hx6, h2⟩ := bnd h2
    refine wl_op rfl (op_call_v (vs := []) (r := (Value.bool (x6))) rfl ca17 rfl args0 I6 (fun Fr_ hF_ => F17_ok hF_  hx6) (fun w7 I8 => ?_))
    refine wl_op rfl (op_assign (v := (Value.bool (x6))) rfl rfl ?_)
    refine wl_nil ?_
    refine wp_ret' ?_
    obtain rfl := Option.some.inj h2
    have h3 := h
    obtain rfl := Option.some.inj h3
    exact ⟨(Value.bool (x6)), (res1 rfl rfl), _, [], le1, I8, rfl, rfl⟩
   ·
    refine wp_cond_f (b := decide (40 < a2)) rfl hc4 ?_
    refine wp_skip' ?_
    obtain rfl := Option.some.inj h2
    exact ⟨_, rfl, I6, rfl, rfl, rfl⟩
 ·
  rintro f w ⟨v1, rfl, I9, e11, e12, e13⟩
  have h := onL_inl h
  refine wp_seq' ?_
  refine wp_region' ?_
  refine wl_op rfl (op_load (v := (Value.pointer (some ⟨g1, 0, none⟩))) (e := a0) rfl sh25 e13 (p1.at_ I9) (fun u3 hu3 => ?_))
  obtain ⟨c7, c8, e14, r7, r8⟩ := Graph.inv hu3
  subst e14
  obtain ⟨z8, m8, k8, e15⟩ := rv_form r7
  subst e15
  obtain ⟨z9, m9, k9, e16⟩ := rv_form r8
  subst e16
  refine wl_op rfl (op_move (v := (Value.slice z3 m3 k3)) rfl e11 ?_)
  refine wl_op rfl (op_move (v := (Value.int .i64 (a2))) rfl e12 ?_)
  obtain ⟨x7, hx7, h⟩ := bnd h
  refine wl_op rfl (op_call_v (vs := [(Value.agg #[(Value.slice z8 m8 k8), (Value.slice z9 m9 k9)]), (Value.slice z3 m3 k3), (Value.int .i64 (a2))]) (r := (Value.tuple #[(Value.int .i64 (x7.1)), (Value.int .i64 (x7.2))])) rfl ca25 rfl (args3 rfl rfl rfl) I9 (fun Fr_ hF_ => F25_ok hF_ (Graph.rv (s := a0) r7 r8) (h1_.mono le1) hx7) (fun w8 I10 => ?_))
  refine wl_op rfl (op_move (v := (Value.tuple #[(Value.int .i64 (x7.1)), (Value.int .i64 (x7.2))])) rfl rfl ?_)
  refine wl_op rfl (op_extract (v := (Value.int .i64 (x7.1))) rfl rfl rfl ?_)
  refine wl_op rfl (op_extract (v := (Value.int .i64 (x7.2))) rfl rfl rfl ?_)
  refine wl_op rfl (op_assign (v := (Value.int .i64 (x7.1))) rfl rfl ?_)
  refine wl_op rfl (op_assign (v := (Value.int .i64 (x7.2))) rfl rfl ?_)
  refine wl_nil ?_
  refine wp_seq' ?_
  refine wp_region' ?_
  refine wl_op rfl (op_load (v := (Value.pointer (some ⟨g1, 0, none⟩))) (e := a0) rfl sh25 e13 (p1.at_ I10) (fun u4 hu4 => ?_))
  obtain ⟨c9, c10, e17, r9, r10⟩ := Graph.inv hu4
  subst e17
  obtain ⟨z10, m10, k10, e18⟩ := rv_form r9
  subst e18
  obtain ⟨z11, m11, k11, e19⟩ := rv_form r10
  subst e19
  refine wl_op rfl (op_move (v := (Value.slice z3 m3 k3)) rfl e11 ?_)
  refine wl_op rfl (op_move (v := (Value.int .i64 (a2))) rfl e12 ?_)
  obtain ⟨x8, hx8, h⟩ := bnd h
  refine wl_op rfl (op_call_v (vs := [(Value.agg #[(Value.slice z10 m10 k10), (Value.slice z11 m11 k11)]), (Value.slice z3 m3 k3), (Value.int .i64 (a2))]) (r := (Value.tuple #[(Value.int .i64 (x8.1)), (Value.int .i64 (x8.2))])) rfl ca26 rfl (args3 rfl rfl rfl) I10 (fun Fr_ hF_ => F26_ok hF_ (Graph.rv (s := a0) r9 r10) (h1_.mono le1) hx8) (fun w9 I11 => ?_))
  refine wl_op rfl (op_move (v := (Value.tuple #[(Value.int .i64 (x8.1)), (Value.int .i64 (x8.2))])) rfl rfl ?_)
  refine wl_op rfl (op_extract (v := (Value.int .i64 (x8.1))) rfl rfl rfl ?_)
  refine wl_op rfl (op_extract (v := (Value.int .i64 (x8.2))) rfl rfl rfl ?_)
  refine wl_op rfl (op_assign (v := (Value.int .i64 (x8.1))) rfl rfl ?_)
  refine wl_op rfl (op_assign (v := (Value.int .i64 (x8.2))) rfl rfl ?_)
  refine wl_nil ?_
  refine wp_seq' ?_
  refine wp_region' ?_
  refine wl_op rfl (op_move (v := (Value.int .i64 (x7.1))) rfl rfl ?_)
  refine wl_op rfl (op_move (v := (Value.int .i64 (x8.1))) rfl rfl ?_)
  refine wl_op rfl (op_eql (a := x7.1) (b := x8.1) rfl rfl rfl ?_)
  refine wl_op rfl (op_move (v := (Value.bool (x7.1 == x8.1))) rfl rfl ?_)
  rcases ifs h with ⟨hc5, h⟩ | ⟨hc5, h⟩
  ·
   refine wl_taken (c := x7.1 == x8.1) rfl rfl rfl rfl hc5 (op_move (v := (Value.int .i64 (x7.2))) rfl rfl ?_)
   refine wl_taken (c := x7.1 == x8.1) rfl rfl rfl rfl hc5 (op_move (v := (Value.int .i64 (x8.2))) rfl rfl ?_)
   refine wl_taken (c := x7.1 == x8.1) rfl rfl rfl rfl hc5 (op_eql (a := x7.2) (b := x8.2) rfl rfl rfl ?_)
   refine wl_op rfl (op_pick_t (c := x7.1 == x8.1) (a := (Value.bool (x7.2 == x8.2))) rfl rfl hc5 rfl ?_)
   refine wl_op rfl (op_move (v := (Value.bool (x7.2 == x8.2))) rfl rfl ?_)
   rcases ifs h with ⟨hc6, h⟩ | ⟨hc6, h⟩
   ·
    obtain ⟨x9, hx9, h⟩ := bnd h
    refine wl_taken (c := x7.2 == x8.2) rfl rfl rfl rfl hc6 (op_call_v (vs := []) (r := (Value.bool (x9))) rfl ca17 rfl args0 I11 (fun Fr_ hF_ => F17_ok hF_  hx9) (fun w10 I12 => ?_))
    refine wl_op rfl (op_pick_t (c := x7.2 == x8.2) (a := (Value.bool (x9))) rfl rfl hc6 rfl ?_)
    refine wl_op rfl (op_assign (v := (Value.bool (x9))) rfl rfl ?_)
    refine wl_nil ?_
    refine wp_ret' ?_
    obtain rfl := Option.some.inj h
    exact ⟨(Value.bool (x9)), (res1 rfl rfl), _, [], le1, I12, rfl, rfl⟩
   ·
    refine wl_skip (c := x7.2 == x8.2) rfl rfl rfl rfl hc6 rfl ?_
    refine wl_op rfl (op_pick_f (c := x7.2 == x8.2) (b := (Value.bool (false))) rfl rfl hc6 rfl ?_)
    refine wl_op rfl (op_assign (v := (Value.bool (false))) rfl rfl ?_)
    refine wl_nil ?_
    refine wp_ret' ?_
    obtain rfl := Option.some.inj h
    exact ⟨(Value.bool (false)), (res1 rfl rfl), _, [], le1, I11, rfl, rfl⟩
  ·
   refine wl_skip (c := x7.1 == x8.1) rfl rfl rfl rfl hc5 rfl ?_
   refine wl_skip (c := x7.1 == x8.1) rfl rfl rfl rfl hc5 rfl ?_
   refine wl_skip (c := x7.1 == x8.1) rfl rfl rfl rfl hc5 rfl ?_
   refine wl_op rfl (op_pick_f (c := x7.1 == x8.1) (b := (Value.bool (false))) rfl rfl hc5 rfl ?_)
   refine wl_op rfl (op_move (v := (Value.bool (false))) rfl rfl ?_)
   refine wl_skip (c := false) rfl rfl rfl rfl rfl rfl ?_
   refine wl_op rfl (op_pick_f (c := false) (b := (Value.bool (false))) rfl rfl rfl rfl ?_)
   refine wl_op rfl (op_assign (v := (Value.bool (false))) rfl rfl ?_)
   refine wl_nil ?_
   refine wp_ret' ?_
   obtain rfl := Option.some.inj h
   exact ⟨(Value.bool (false)), (res1 rfl rfl), _, [], le1, I11, rfl, rfl⟩
end Go.Proofs.Ytogfongmnkmegaa.Pad
