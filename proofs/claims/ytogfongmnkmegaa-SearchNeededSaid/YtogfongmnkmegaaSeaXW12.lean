/- A part of the proof: what the functions of the program compute, shown over the model. -/
import Derived.Test.YtogfongmnkmegaaSeaXP
import Derived.Test.YtogfongmnkmegaaSeaXW1
import Derived.Test.YtogfongmnkmegaaSeaXW3
import Derived.KernelRfl
set_option linter.unusedVariables false
namespace Go.Proofs.Ytogfongmnkmegaa.Pad
open Go Go.Proofs
set_option maxHeartbeats 4000000 in
set_option maxRecDepth 100000 in
theorem F24_ok {w : World} {S : PH} {Fr : List HP} {a0 : Graph} {v0 : Value} {r : Bool} (hI : Inv w S (Fr)) (h0_ : RV S v0 a0) (h : F24 a0 = some r) :
    Calls Try.prog 24 [v0].toArray w (DoneV S Fr (Value.bool (r))) := by
 unfold F24 at h
 obtain ⟨c1, c2, e1, r1, r2⟩ := Graph.inv h0_
 subst e1
 obtain ⟨z1, m1, k1, e2⟩ := rv_form r1
 subst e2
 obtain ⟨z2, m2, k2, e3⟩ := rv_form r2
 subst e3
 refine calls_enter (n := 38) (vs := [(Value.agg #[(Value.slice z1 m1 k1), (Value.slice z2 m2 k2)])]) Try.func24 rfl rfl rfl ?_
 refine wp_seq' ?_
 refine wp_region' ?_
 refine wl_op rfl (op_box (v := (Value.agg #[(Value.slice z1 m1 k1), (Value.slice z2 m2 k2)])) rfl hI rfl (fun g1 w1 I1 => ?_))
 obtain ⟨S1, le1, I2, p1⟩ := Inv.boxFreeze (x := a0) I1 (Graph.rv (s := a0) r1 r2)
 refine wl_op rfl (op_assign (v := (Value.bool (false))) rfl rfl ?_)
 refine wl_nil ?_
 refine wp_seq' ?_
 refine wp_region' ?_
 refine wl_op rfl (op_assign (v := (Value.int .i64 (0))) rfl rfl ?_)
 refine wl_nil ?_
 refine wp_seq' ?_
 refine wp_seq' ?_
 refine wp_region' ?_
 refine wl_op rfl (op_assign (v := (Value.int .i64 (0))) rfl rfl ?_)
 refine wl_nil ?_
 obtain ⟨out1, hrun1, h⟩ := bnd h
 refine wp_cutN (fun f w => Inv w S1 (Fr) ∧ f 1 = (Value.pointer (some ⟨g1, 0, none⟩)) ∧ f 3 = (Value.int .i64 (out1.1)) ∧ f 4 = (Value.int .i64 (out1.2))) ?_ ?_
 ·
  refine wp_block' ?_
  refine wp_whileO (I := fun (s1 : (Int × Int)) (f : Frm) (w : World) => Inv w S1 (Fr) ∧ f 1 = (Value.pointer (some ⟨g1, 0, none⟩)) ∧ f 3 = (Value.int .i64 (s1.1)) ∧ f 4 = (Value.int .i64 (s1.2))) hrun1 ⟨I2, rfl, rfl, rfl⟩ ?_
  rintro s1 f w o1 hI1 h19 hout1
  obtain ⟨I15, e64, e65, e66⟩ := hI1
  obtain ⟨ov7, h22, h19⟩ := bnd h19
  refine wp_cut (fun f w => ∃ v7, ov7 = Sum.inl v7 ∧ Inv w S1 (Fr) ∧ f 1 = (Value.pointer (some ⟨g1, 0, none⟩)) ∧ f 3 = (Value.int .i64 (s1.1)) ∧ f 4 = (Value.int .i64 (s1.2))) ?_ ?_
  ·
   refine wp_seq' ?_
   refine wp_region' ?_
   refine wl_op rfl (op_move (v := (Value.int .i64 (s1.2))) rfl e66 ?_)
   refine wl_op rfl (op_fieldAddr_t (v := (Value.pointer (some ⟨g1, 0, none⟩))) rfl fa25_1 e64 (p1.at_ I15) ?_)
   refine wl_op rfl (op_load (v := (fieldPtr (Value.pointer (some ⟨g1, 0, none⟩)) 1)) (e := a0.Edges) rfl sh23 rfl ((p1.at_ I15).fld Graph.fld1) (fun u26 hu26 => ?_))
   obtain ⟨z28, m28, k28, e68⟩ := rv_form hu26
   subst e68
   refine wl_op rfl (op_len_rv rfl Try.underlying23 rfl hu26 ?_)
   refine wl_op rfl (op_lss (a := s1.2) (b := (a0.Edges.length : Int)) rfl rfl rfl ?_)
   refine wl_op rfl (op_move (v := (Value.bool (decide (s1.2 < (a0.Edges.length : Int))))) rfl rfl ?_)
   rcases ifs h22 with ⟨hc27, h22⟩ | ⟨hc27, h22⟩
   ·
    refine wl_taken (c := decide (s1.2 < (a0.Edges.length : Int))) rfl rfl rfl rfl hc27 (op_move (v := (Value.int .i64 (s1.2))) rfl e66 ?_)
    refine wl_taken (c := decide (s1.2 < (a0.Edges.length : Int))) rfl rfl rfl rfl hc27 (op_lss (a := s1.2) (b := 400) rfl rfl rfl ?_)
    refine wl_op rfl (op_pick_t (c := decide (s1.2 < (a0.Edges.length : Int))) (a := (Value.bool (decide (s1.2 < 400)))) rfl rfl hc27 rfl ?_)
    refine wl_nil ?_
    rcases ifs h22 with ⟨hc28, h22⟩ | ⟨hc28, h22⟩
    ·
     refine wp_cond_t (b := decide (s1.2 < 400)) rfl hc28 ?_
     refine wp_skip' ?_
     obtain rfl := Option.some.inj h22
     exact ⟨_, rfl, I15, e64, e65, e66⟩
    ·
     refine wp_cond_f (b := decide (s1.2 < 400)) rfl hc28 ?_
     refine wp_exit' ?_
     obtain rfl := Option.some.inj h22
     have h23 := h19
     obtain rfl := Option.some.inj h23
     obtain rfl := (hout1 _ rfl)
     exact ⟨I15, e64, e65, e66⟩
   ·
    refine wl_skip (c := decide (s1.2 < (a0.Edges.length : Int))) rfl rfl rfl rfl hc27 rfl ?_
    refine wl_skip (c := decide (s1.2 < (a0.Edges.length : Int))) rfl rfl rfl rfl hc27 rfl ?_
    refine wl_op rfl (op_pick_f (c := decide (s1.2 < (a0.Edges.length : Int))) (b := (Value.bool (false))) rfl rfl hc27 rfl ?_)
    refine wl_nil ?_
    refine wp_cond_f (b := false) rfl rfl ?_
    refine wp_exit' ?_
    obtain rfl := Option.some.inj h22
    have h23 := h19
    obtain rfl := Option.some.inj h23
    obtain rfl := (hout1 _ rfl)
    exact ⟨I15, e64, e65, e66⟩
  ·
   rintro f w ⟨v7, rfl, I16, e69, e70, e71⟩
   have h19 := onL_inl h19
   refine wp_seq' ?_
   refine wp_block' ?_
   refine wp_region' ?_
   refine wl_op rfl (op_move (v := (Value.int .i64 (s1.1))) rfl e70 ?_)
   refine wl_op rfl (op_fieldAddr_t (v := (Value.pointer (some ⟨g1, 0, none⟩))) rfl fa25_1 e69 (p1.at_ I16) ?_)
   refine wl_op rfl (op_load (v := (fieldPtr (Value.pointer (some ⟨g1, 0, none⟩)) 1)) (e := a0.Edges) rfl sh23 rfl ((p1.at_ I16).fld Graph.fld1) (fun u27 hu27 => ?_))
   obtain ⟨z29, m29, k29, e72⟩ := rv_form hu27
   subst e72
   refine wl_op rfl (op_move (v := (Value.int .i64 (s1.2))) rfl e71 ?_)
   obtain ⟨x7, hx7, h19⟩ := bnd h19
   refine wl_op rfl (op_indexAddr_rv (v := (Value.slice z29 m29 k29)) (i := s1.2) (e := x7) rfl Try.underlying23 sh40 rfl hu27 rfl hx7 ?_)
   refine wl_op rfl (op_load (v := (elemPtr (Value.slice z29 m29 k29) (s1.2) (Enc.sz (List Edge)))) (e := x7) rfl sh40 rfl (hu27.elem I16.in_ hx7) (fun u28 hu28 => ?_))
   obtain ⟨z30, m30, k30, e73⟩ := rv_form hu28
   subst e73
   refine wl_op rfl (op_len_rv rfl Try.underlying40 rfl hu28 ?_)
   refine wl_op rfl (op_add (a := s1.1) (b := (x7.length : Int)) rfl rfl rfl ?_)
   refine wl_op rfl (op_assign (v := (Value.int .i64 (w64 (s1.1 + (x7.length : Int))))) rfl rfl ?_)
   refine wl_nil ?_
   refine wp_region' ?_
   refine wl_op rfl (op_move (v := (Value.int .i64 (s1.2))) rfl e71 ?_)
   refine wl_op rfl (op_add (a := s1.2) (b := 1) rfl rfl rfl ?_)
   refine wl_op rfl (op_assign (v := (Value.int .i64 (w64 (s1.2 + 1)))) rfl rfl ?_)
   refine wl_nil ?_
   obtain rfl := Option.some.inj h19
   exact ⟨_, rfl, I16, e69, rfl, rfl⟩
 ·
  rintro f w ⟨I17, e74, e75, e76⟩
  refine wp_seq' ?_
  refine wp_region' ?_
  refine wl_op rfl (op_fieldAddr_t (v := (Value.pointer (some ⟨g1, 0, none⟩))) rfl fa25_0 e74 (p1.at_ I17) ?_)
  refine wl_op rfl (op_load (v := (fieldPtr (Value.pointer (some ⟨g1, 0, none⟩)) 0)) (e := a0.Positions) rfl sh22 rfl ((p1.at_ I17).fld Graph.fld0) (fun u29 hu29 => ?_))
  obtain ⟨z31, m31, k31, e77⟩ := rv_form hu29
  subst e77
  refine wl_op rfl (op_len_rv rfl Try.underlying22 rfl hu29 ?_)
  refine wl_op rfl (op_leq (a := (a0.Positions.length : Int)) (b := 8) rfl rfl rfl ?_)
  refine wl_op rfl (op_move (v := (Value.bool (decide ((a0.Positions.length : Int) ≤ 8)))) rfl rfl ?_)
  rcases ifs h with ⟨hc29, h⟩ | ⟨hc29, h⟩
  ·
   refine wl_taken (c := decide ((a0.Positions.length : Int) ≤ 8)) rfl rfl rfl rfl hc29 (op_move (v := (Value.int .i64 (out1.1))) rfl e75 ?_)
   refine wl_taken (c := decide ((a0.Positions.length : Int) ≤ 8)) rfl rfl rfl rfl hc29 (op_leq (a := out1.1) (b := 16) rfl rfl rfl ?_)
   refine wl_op rfl (op_pick_t (c := decide ((a0.Positions.length : Int) ≤ 8)) (a := (Value.bool (decide (out1.1 ≤ 16)))) rfl rfl hc29 rfl ?_)
   refine wl_op rfl (op_move (v := (Value.bool (decide (out1.1 ≤ 16)))) rfl rfl ?_)
   rcases ifs h with ⟨hc30, h⟩ | ⟨hc30, h⟩
   ·
    refine wl_taken (c := decide (out1.1 ≤ 16)) rfl rfl rfl rfl hc30 (op_fieldAddr_t (v := (Value.pointer (some ⟨g1, 0, none⟩))) rfl fa25_1 e74 (p1.at_ I17) ?_)
    refine wl_taken (c := decide (out1.1 ≤ 16)) rfl rfl rfl rfl hc30 (op_load (v := (fieldPtr (Value.pointer (some ⟨g1, 0, none⟩)) 1)) (e := a0.Edges) rfl sh23 rfl ((p1.at_ I17).fld Graph.fld1) (fun u30 hu30 => ?_))
    obtain ⟨z32, m32, k32, e78⟩ := rv_form hu30
    subst e78
    refine wl_taken (c := decide (out1.1 ≤ 16)) rfl rfl rfl rfl hc30 (op_len_rv rfl Try.underlying23 rfl hu30 ?_)
    refine wl_taken (c := decide (out1.1 ≤ 16)) rfl rfl rfl rfl hc30 (op_leq (a := (a0.Edges.length : Int)) (b := 400) rfl rfl rfl ?_)
    refine wl_op rfl (op_pick_t (c := decide (out1.1 ≤ 16)) (a := (Value.bool (decide ((a0.Edges.length : Int) ≤ 400)))) rfl rfl hc30 rfl ?_)
    refine wl_op rfl (op_assign (v := (Value.bool (decide ((a0.Edges.length : Int) ≤ 400)))) rfl rfl ?_)
    refine wl_nil ?_
    refine wp_ret' ?_
    obtain rfl := Option.some.inj h
    exact ⟨(Value.bool (decide ((a0.Edges.length : Int) ≤ 400))), (res1 rfl rfl), _, [], le1, I17, rfl, rfl⟩
   ·
    refine wl_skip (c := decide (out1.1 ≤ 16)) rfl rfl rfl rfl hc30 rfl ?_
    refine wl_skip (c := decide (out1.1 ≤ 16)) rfl rfl rfl rfl hc30 rfl ?_
    refine wl_skip (c := decide (out1.1 ≤ 16)) rfl rfl rfl rfl hc30 rfl ?_
    refine wl_skip (c := decide (out1.1 ≤ 16)) rfl rfl rfl rfl hc30 rfl ?_
    refine wl_op rfl (op_pick_f (c := decide (out1.1 ≤ 16)) (b := (Value.bool (false))) rfl rfl hc30 rfl ?_)
    refine wl_op rfl (op_assign (v := (Value.bool (false))) rfl rfl ?_)
    refine wl_nil ?_
    refine wp_ret' ?_
    obtain rfl := Option.some.inj h
    exact ⟨(Value.bool (false)), (res1 rfl rfl), _, [], le1, I17, rfl, rfl⟩
  ·
   refine wl_skip (c := decide ((a0.Positions.length : Int) ≤ 8)) rfl rfl rfl rfl hc29 rfl ?_
   refine wl_skip (c := decide ((a0.Positions.length : Int) ≤ 8)) rfl rfl rfl rfl hc29 rfl ?_
   refine wl_op rfl (op_pick_f (c := decide ((a0.Positions.length : Int) ≤ 8)) (b := (Value.bool (false))) rfl rfl hc29 rfl ?_)
   refine wl_op rfl (op_move (v := (Value.bool (false))) rfl rfl ?_)
   refine wl_skip (c := false) rfl rfl rfl rfl rfl rfl ?_
   refine wl_skip (c := false) rfl rfl rfl rfl rfl rfl ?_
   refine wl_skip (c := false) rfl rfl rfl rfl rfl rfl ?_
   refine wl_skip (c := false) rfl rfl rfl rfl rfl rfl ?_
   refine wl_op rfl (op_pick_f (c := false) (b := (Value.bool (false))) rfl rfl rfl rfl ?_)
   refine wl_op rfl (op_assign (v := (Value.bool (false))) rfl rfl ?_)
   refine wl_nil ?_
   refine wp_ret' ?_
   obtain rfl := Option.some.inj h
   exact ⟨(Value.bool (false)), (res1 rfl rfl), _, [], le1, I17, rfl, rfl⟩

set_option maxHeartbeats 4000000 in
set_option maxRecDepth 100000 in
theorem F25_ok {w : World} {S : PH} {Fr : List HP} {a0 : Graph} {v0 : Value} {a1 : (List Int)} {v1 : Value} {a2 : Int} {r : Int × Int} (hI : Inv w S (Fr)) (h0_ : RV S v0 a0) (h1_ : RV S v1 a1) (h : F25 a0 a1 a2 = some r) :
    Calls Try.prog 25 [v0, v1, (Value.int .i64 (a2))].toArray w (DoneV S Fr (Value.tuple #[(Value.int .i64 (r.1)), (Value.int .i64 (r.2))])) := by
 unfold F25 at h
 obtain ⟨c1, c2, e1, r1, r2⟩ := Graph.inv h0_
 subst e1
 obtain ⟨z1, m1, k1, e2⟩ := rv_form r1
 subst e2
 obtain ⟨z2, m2, k2, e3⟩ := rv_form r2
 subst e3
 obtain ⟨z3, m3, k3, e4⟩ := rv_form h1_
 subst e4
 refine calls_enter (n := 37) (vs := [(Value.agg #[(Value.slice z1 m1 k1), (Value.slice z2 m2 k2)]), (Value.slice z3 m3 k3), (Value.int .i64 (a2))]) Try.func25 rfl rfl rfl ?_
 refine wp_seq' ?_
 refine wp_region' ?_
 refine wl_op rfl (op_box (v := (Value.agg #[(Value.slice z1 m1 k1), (Value.slice z2 m2 k2)])) rfl hI rfl (fun g1 w1 I1 => ?_))
 obtain ⟨S1, le1, I2, p1⟩ := Inv.boxFreeze (x := a0) I1 (Graph.rv (s := a0) r1 r2)
 refine wl_op rfl (op_assign (v := (Value.int .i64 (0))) rfl rfl ?_)
 refine wl_op rfl (op_assign (v := (Value.int .i64 (0))) rfl rfl ?_)
 refine wl_nil ?_
 refine wp_seq' ?_
 refine wp_region' ?_
 refine wl_op rfl (op_load (v := (Value.pointer (some ⟨g1, 0, none⟩))) (e := a0) rfl sh25 rfl (p1.at_ I2) (fun u1 hu1 => ?_))
 obtain ⟨c3, c4, e5, r3, r4⟩ := Graph.inv hu1
 subst e5
 obtain ⟨z4, m4, k4, e6⟩ := rv_form r3
 subst e6
 obtain ⟨z5, m5, k5, e7⟩ := rv_form r4
 subst e7
 refine wl_op rfl (op_move (v := (Value.slice z3 m3 k3)) rfl rfl ?_)
 refine wl_op rfl (op_build (qs := []) (c := #[(Value.int .i64 (0)), (Value.int .i64 (0))]) rfl st28 trivial rfl ?_)
 refine wl_op rfl (op_move (v := (Value.int .i64 (a2))) rfl rfl ?_)
 obtain ⟨x1, hx1, h⟩ := bnd h
 refine wl_op rfl (op_call (vs := [(Value.agg #[(Value.slice z4 m4 k4), (Value.slice z5 m5 k5)]), (Value.slice z3 m3 k3), (Value.agg #[(Value.int .i64 (0)), (Value.int .i64 (0))]), (Value.int .i64 (a2))]) rfl ca45 rfl (args4 rfl rfl rfl rfl) (F45_ok I2 (Graph.rv (s := a0) r3 r4) (h1_.mono le1) (Mind.rv (s := (⟨0, 0⟩ : Mind))) hx1) (fun v1 w2 S2 O1 le2 I3 hv1 => ?_))
 obtain ⟨c5, rfl, rfl, r5⟩ := hv1
 obtain ⟨c6, c7, e8, r6, r7⟩ := Search_view.inv r5
 subst e8
 obtain ⟨z6, m6, k6, e9⟩ := rv_form r6
 subst e9
 obtain ⟨z7, m7, k7, e10⟩ := rv_form r7
 subst e10
 refine wl_op rfl (op_move (v := (Value.tuple #[(Value.agg #[(Value.slice z6 m6 k6), (Value.slice z7 m7 k7)]), (Value.int .i64 (x1.2))])) rfl rfl ?_)
 refine wl_op rfl (op_extract (v := (Value.agg #[(Value.slice z6 m6 k6), (Value.slice z7 m7 k7)])) rfl rfl rfl ?_)
 refine wl_op rfl (op_extract (v := (Value.int .i64 (x1.2))) rfl rfl rfl ?_)
 refine wl_op rfl (op_alloc (z := (Value.agg #[(Value.slice none 0 0), (Value.slice none 0 0)])) rfl I3 zo64 (fun g2 w3 (I4 : Inv w3 S2 (Cells g2 64 #[(Value.slice none 0 0), (Value.slice none 0 0)] :: Fr)) => ?_))
 refine wl_op rfl (op_store (v := (Value.agg #[(Value.slice z6 m6 k6), (Value.slice z7 m7 k7)])) (cs := #[(Value.slice none 0 0), (Value.slice none 0 0)]) sh64 I4 rfl rfl rfl (Nat.le_of_ble_eq_true rfl) rfl (fun w4 (I5 : Inv w4 S2 (Cells g2 64 #[(Value.slice z6 m6 k6), (Value.slice z7 m7 k7)] :: Fr)) => ?_))
 refine wl_op rfl (op_assign (v := (Value.int .i64 (x1.2))) rfl rfl ?_)
 refine wl_nil ?_
 refine wp_seq' ?_
 refine wp_seq' ?_
 refine wp_region' ?_
 refine wl_op rfl (op_move (v := (Value.int .i64 (x1.2))) rfl rfl ?_)
 refine wl_op rfl (op_neq (a := x1.2) (b := 0) rfl rfl rfl ?_)
 refine wl_nil ?_
 rcases ifs h with ⟨hc1, h⟩ | ⟨hc1, h⟩
 ·
  refine wp_cond_t (b := x1.2 != 0) rfl hc1 ?_
  refine wp_seq' ?_
  refine wp_region' ?_
  refine wl_op rfl (op_move (v := (Value.int .i64 (x1.2))) rfl rfl ?_)
  refine wl_op rfl (op_assign (v := (Value.int .i64 (0))) rfl rfl ?_)
  refine wl_op rfl (op_assign (v := (Value.int .i64 (x1.2))) rfl rfl ?_)
  refine wl_nil ?_
  refine wp_ret' ?_
  obtain rfl := Option.some.inj h
  exact ⟨(Value.tuple #[(Value.int .i64 (0)), (Value.int .i64 (x1.2))]), (res2 rfl rfl rfl), _, [], (le1.trans le2), (I5).drop, rfl, rfl⟩
 ·
  refine wp_cond_f (b := x1.2 != 0) rfl hc1 ?_
  refine wp_skip' ?_
  refine wp_seq' ?_
  refine wp_seq' ?_
  refine wp_region' ?_
  refine wl_op rfl (op_move (v := (Value.int .i64 (0))) rfl rfl ?_)
  refine wl_nil ?_
  obtain ⟨x5, hx5, h⟩ := bnd h
  obtain ⟨o2, hrun1, h⟩ := bnd h
  refine wp_cutN (fun f w => ∃ out1, o2 = Sum.inl out1 ∧ ∃ (S_ : PH), S2.Le S_ ∧ Inv w S_ (Cells g2 64 #[(Value.slice z6 m6 k6), (Value.slice z7 m7 k7)] :: Fr) ∧ f 2 = (Value.int .i64 (a2)) ∧ f 8 = (Value.pointer (some ⟨g2, 0, none⟩))) ?_ ?_
  ·
   refine wp_block' ?_
   refine wp_forN (I := fun (i1 : Nat) (s1 : Unit) (f : Frm) (w : World) => ∃ (S_ : PH), S2.Le S_ ∧ Inv w S_ (Cells g2 64 #[(Value.slice z6 m6 k6), (Value.slice z7 m7 k7)] :: Fr) ∧ f 2 = (Value.int .i64 (a2)) ∧ f 8 = (Value.pointer (some ⟨g2, 0, none⟩)) ∧ f 24 = (Value.int .i64 (i1 : Int))) hrun1 ⟨_, (PH.Le.refl _), I5, rfl, rfl, rfl⟩ ?_ ?_
   ·
    rintro i1 s1 f w o1 hlt1 hI1 h1 hout1
    obtain ⟨S8, le8, I12, e20, e21, e22⟩ := hI1
    refine wp_seq' ?_
    refine wp_region' ?_
    refine wl_op rfl (op_lss (a := (i1 : Int)) (b := 201) rfl e22 rfl ?_)
    refine wl_nil ?_
    refine wp_seq' ?_
    refine wp_cond_t (b := decide ((i1 : Int) < 201)) rfl (cnt_t hx5 hlt1) ?_
    refine wp_skip' ?_
    refine wp_seq' ?_
    refine wp_block' ?_
    refine wp_seq' ?_
    refine wp_region' ?_
    refine wl_op rfl (op_move (v := (Value.int .i64 ((i1 : Int)))) rfl e22 ?_)
    refine wl_op rfl (op_assign (v := (Value.int .i64 ((i1 : Int)))) rfl rfl ?_)
    refine wl_nil ?_
    refine wp_seq' ?_
    refine wp_region' ?_
    refine wl_op rfl (op_loadN (l := [(Value.slice z6 m6 k6), (Value.slice z7 m7 k7)]) rfl sh64 (I12.nth 0 rfl) e21 rfl rfl ?_)
    refine wl_op rfl (op_move (v := (Value.int .i64 ((i1 : Int)))) rfl rfl ?_)
    refine wl_op rfl (op_move (v := (Value.int .i64 (a2))) rfl e20 ?_)
    obtain ⟨x6, hx6, h1⟩ := bnd h1
    refine wl_op rfl (op_call (vs := [(Value.agg #[(Value.slice z6 m6 k6), (Value.slice z7 m7 k7)]), (Value.int .i64 ((i1 : Int))), (Value.int .i64 (a2))]) rfl ca50 rfl (args3 rfl rfl rfl) (F50_ok I12 (Search_view.rv (s := x1.1) (r6.mono le8) (r7.mono le8)) hx6) (fun v5 w8 S9 O5 le9 I13 hv5 => ?_))
    obtain ⟨z11, m11, k11, rfl, rfl⟩ := hv5
    refine wl_op rfl (op_move (v := (Value.tuple #[(Value.slice z11 m11 k11), (Value.bool (x6.2))])) rfl rfl ?_)
    refine wl_op rfl (op_extract (v := (Value.slice z11 m11 k11)) rfl rfl rfl ?_)
    refine wl_op rfl (op_extract (v := (Value.bool (x6.2))) rfl rfl rfl ?_)
    refine wl_op rfl (op_assign (v := (Value.slice z11 m11 k11)) rfl rfl ?_)
    refine wl_op rfl (op_assign (v := (Value.bool (x6.2))) rfl rfl ?_)
    refine wl_nil ?_
    refine wp_seq' ?_
    refine wp_region' ?_
    refine wl_op rfl (op_move (v := (Value.bool (x6.2))) rfl rfl ?_)
    refine wl_nil ?_
    rcases ifs h1 with ⟨hc5, h1⟩ | ⟨hc5, h1⟩
    ·
     refine wp_cond_t (b := x6.2) rfl hc5 ?_
     refine wp_seq' ?_
     refine wp_region' ?_
     refine wl_op rfl (op_move (v := (Value.int .i64 ((i1 : Int)))) rfl rfl ?_)
     refine wl_op rfl (op_assign (v := (Value.int .i64 ((i1 : Int)))) rfl rfl ?_)
     refine wl_op rfl (op_assign (v := (Value.int .i64 (0))) rfl rfl ?_)
     refine wl_nil ?_
     refine wp_ret' ?_
     obtain rfl := Option.some.inj h1
     obtain rfl := (hout1 _ rfl)
     have h2 := h
     obtain rfl := Option.some.inj h2
     exact ⟨(Value.tuple #[(Value.int .i64 ((i1 : Int))), (Value.int .i64 (0))]), (res2 rfl rfl rfl), _, [], (((le1.trans le2).trans le8).trans le9), ((I13).drop).drop, rfl, rfl⟩
    ·
     refine wp_cond_f (b := x6.2) rfl hc5 ?_
     refine wp_skip' ?_
     refine wp_region' ?_
     refine wl_op rfl (op_add (a := (i1 : Int)) (b := 1) rfl e22 rfl ?_)
     refine wl_op rfl (op_move (v := (Value.int .i64 (w64 ((i1 : Int) + 1)))) rfl rfl ?_)
     refine wl_nil ?_
     obtain rfl := Option.some.inj h1
     exact ⟨_, rfl, _, (le8.trans le9), (I13).drop, e20, e21, (idx_next hlt1 (cnt_le hx5))⟩
   ·
    rintro s2 f w hs1 hI2
    obtain ⟨S10, le10, I14, e23, e24, e25⟩ := hI2
    refine wp_seq' ?_
    refine wp_region' ?_
    refine wl_op rfl (op_lss (a := (x5 : Int)) (b := 201) rfl e25 rfl ?_)
    refine wl_nil ?_
    refine wp_seq' ?_
    refine wp_cond_f (b := decide ((x5 : Int) < 201)) rfl (cnt_f hx5) ?_
    refine wp_exit' ?_
    exact ⟨s2, hs1, _, le10, I14, e23, e24⟩
  ·
   rintro f w ⟨out1, rfl, S11, le11, I15, e26, e27⟩
   have h := onL_inl h
   refine wp_seq' ?_
   refine wp_region' ?_
   refine wl_op rfl (op_assign (v := (Value.int .i64 (0))) rfl rfl ?_)
   refine wl_op rfl (op_assign (v := (Value.int .i64 (3))) rfl rfl ?_)
   refine wl_nil ?_
   refine wp_ret' ?_
   obtain rfl := Option.some.inj h
   exact ⟨(Value.tuple #[(Value.int .i64 (0)), (Value.int .i64 (3))]), (res2 rfl rfl rfl), _, [], ((le1.trans le2).trans le11), (I15).drop, rfl, rfl⟩
end Go.Proofs.Ytogfongmnkmegaa.Pad
