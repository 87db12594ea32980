/- A part of the proof: what the functions of the program compute, shown over the model. -/
import Derived.Test.YtfeomcdhhgeilaaPadSP
import Derived.Test.YtfeomcdhhgeilaaPadSW4
import Derived.KernelRfl
set_option linter.unusedVariables false
namespace Go.Proofs.Ytfeomcdhhgeilaa.Pad
open Go Go.Proofs
set_option maxHeartbeats 4000000 in
set_option maxRecDepth 100000 in
theorem F4_ok {w : World} {S : PH} {Fr : List HP} {a0 : Panel} {v0 : Value} {a1 : Int} {a2 : (List Signal)} {v2 : Value} {r : Bool} (hI : Inv w S Fr) (h0_ : RV S v0 a0) (h2_ : RV S v2 a2) (h : F4 a0 a1 a2 = some r) :
    Calls Try.prog 4 [v0, (Value.int .i64 (a1)), v2].toArray w (DoneV S Fr (Value.bool (r))) := by
  unfold F4 at h
  obtain ⟨c1, e1, r1⟩ := Panel.inv h0_
  subst e1
  obtain ⟨z1, m1, k1, e2⟩ := rv_form r1
  subst e2
  obtain ⟨z2, m2, k2, e3⟩ := rv_form h2_
  subst e3
  refine calls_enter (n := 165) (vs := [(Value.agg #[(Value.int .i64 (a0.Sensors)), (Value.slice z1 m1 k1), (Value.int .i64 (a0.Stale)), (Value.int .i64 (a0.Limit))]), (Value.int .i64 (a1)), (Value.slice z2 m2 k2)]) Try.func4 rfl rfl rfl ?_
  refine wp_seq' ?_
  refine wp_region' ?_
  refine wl_op rfl (op_box (v := (Value.agg #[(Value.int .i64 (a0.Sensors)), (Value.slice z1 m1 k1), (Value.int .i64 (a0.Stale)), (Value.int .i64 (a0.Limit))])) rfl hI rfl (fun g1 w1 I1 => ?_))
  obtain ⟨S1, le1, I2, p1⟩ := Inv.boxFreeze (x := a0) I1 (Panel.rv (s := a0) r1)
  refine wl_op rfl (op_assign (v := (Value.bool (false))) rfl rfl ?_)
  refine wl_nil ?_
  refine wp_seq' ?_
  refine wp_seq' ?_
  refine wp_region' ?_
  refine wl_op rfl (op_move (v := (Value.int .i64 (a1))) rfl rfl ?_)
  obtain ⟨x1, hx1, h⟩ := bnd h
  refine wl_op rfl (op_call_v (vs := [(Value.int .i64 (a1))]) (r := (Value.bool (x1))) rfl ca20 rfl (args1 rfl) I2 (fun Fr_ hF_ => F20_ok hF_  hx1) (fun w2 I3 => ?_))
  refine wl_nil ?_
  rcases ifs h with ⟨hc1, h⟩ | ⟨hc1, h⟩
  · refine wp_cond_t (b := x1) rfl hc1 ?_
    refine wp_seq' ?_
    refine wp_region' ?_
    obtain ⟨x2, hx2, h⟩ := bnd h
    refine wl_op rfl (op_call_v (vs := []) (r := (Value.bool (x2))) rfl ca16 rfl args0 I3 (fun Fr_ hF_ => F16_ok hF_  hx2) (fun w3 I4 => ?_))
    refine wl_op rfl (op_assign (v := (Value.bool (x2))) rfl rfl ?_)
    refine wl_nil ?_
    refine wp_ret' ?_
    obtain rfl := Option.some.inj h
    exact ⟨(Value.bool (x2)), (res1 rfl rfl), _, [], le1, I4, rfl, rfl⟩
  · refine wp_cond_f (b := x1) rfl hc1 ?_
    refine wp_skip' ?_
    refine wp_seq' ?_
    refine wp_region' ?_
    refine wl_op rfl (op_load (v := (Value.pointer (some ⟨g1, 0, none⟩))) (e := a0) rfl sh24 rfl (p1.at_ I3) (fun u1 hu1 => ?_))
    obtain ⟨c2, e4, r2⟩ := Panel.inv hu1
    subst e4
    obtain ⟨z3, m3, k3, e5⟩ := rv_form r2
    subst e5
    obtain ⟨x3, hx3, h⟩ := bnd h
    refine wl_op rfl (op_call_v (vs := [(Value.agg #[(Value.int .i64 (a0.Sensors)), (Value.slice z3 m3 k3), (Value.int .i64 (a0.Stale)), (Value.int .i64 (a0.Limit))])]) (r := (Value.tuple #[(Value.int .i64 (x3.1)), (Value.int .i64 (x3.2))])) rfl ca21 rfl (args1 rfl) I3 (fun Fr_ hF_ => F21_ok hF_ (Panel.rv (s := a0) r2) hx3) (fun w4 I5 => ?_))
    refine wl_op rfl (op_move (v := (Value.tuple #[(Value.int .i64 (x3.1)), (Value.int .i64 (x3.2))])) rfl rfl ?_)
    refine wl_op rfl (op_extract (v := (Value.int .i64 (x3.1))) rfl rfl rfl ?_)
    refine wl_op rfl (op_extract (v := (Value.int .i64 (x3.2))) rfl rfl rfl ?_)
    refine wl_op rfl (op_assign (v := (Value.int .i64 (x3.1))) rfl rfl ?_)
    refine wl_op rfl (op_assign (v := (Value.int .i64 (x3.2))) rfl rfl ?_)
    refine wl_nil ?_
    refine wp_seq' ?_
    refine wp_seq' ?_
    refine wp_region' ?_
    refine wl_op rfl (op_move (v := (Value.int .i64 (x3.2))) rfl rfl ?_)
    refine wl_op rfl (op_neq (a := x3.2) (b := 0) rfl rfl rfl ?_)
    refine wl_nil ?_
    rcases ifs h with ⟨hc2, h⟩ | ⟨hc2, h⟩
    · refine wp_cond_t (b := x3.2 != 0) rfl hc2 ?_
      refine wp_seq' ?_
      refine wp_region' ?_
      obtain ⟨x4, hx4, h⟩ := bnd h
      refine wl_op rfl (op_call_v (vs := []) (r := (Value.bool (x4))) rfl ca16 rfl args0 I5 (fun Fr_ hF_ => F16_ok hF_  hx4) (fun w5 I6 => ?_))
      refine wl_op rfl (op_assign (v := (Value.bool (x4))) rfl rfl ?_)
      refine wl_nil ?_
      refine wp_ret' ?_
      obtain rfl := Option.some.inj h
      exact ⟨(Value.bool (x4)), (res1 rfl rfl), _, [], le1, I6, rfl, rfl⟩
    · refine wp_cond_f (b := x3.2 != 0) rfl hc2 ?_
      refine wp_skip' ?_
      refine wp_seq' ?_
      refine wp_region' ?_
      refine wl_op rfl (op_load (v := (Value.pointer (some ⟨g1, 0, none⟩))) (e := a0) rfl sh24 rfl (p1.at_ I5) (fun u2 hu2 => ?_))
      obtain ⟨c3, e6, r3⟩ := Panel.inv hu2
      subst e6
      obtain ⟨z4, m4, k4, e7⟩ := rv_form r3
      subst e7
      refine wl_op rfl (op_move (v := (Value.int .i64 (a1))) rfl rfl ?_)
      refine wl_op rfl (op_move (v := (Value.slice z2 m2 k2)) rfl rfl ?_)
      obtain ⟨x5, hx5, h⟩ := bnd h
      refine wl_op rfl (op_call (vs := [(Value.agg #[(Value.int .i64 (a0.Sensors)), (Value.slice z4 m4 k4), (Value.int .i64 (a0.Stale)), (Value.int .i64 (a0.Limit))]), (Value.int .i64 (a1)), (Value.slice z2 m2 k2)]) rfl ca17 rfl (args3 rfl rfl rfl) (F17_ok I5 (Panel.rv (s := a0) r3) (h2_.mono le1) hx5) (fun v1 w6 S2 O1 le2 I7 hv1 => ?_))
      obtain ⟨z5, m5, k5, rfl, rfl⟩ := hv1
      refine wl_op rfl (op_move (v := (Value.tuple #[(Value.slice z5 m5 k5), (Value.int .i64 (x5.2))])) rfl rfl ?_)
      refine wl_op rfl (op_extract (v := (Value.slice z5 m5 k5)) rfl rfl rfl ?_)
      refine wl_op rfl (op_extract (v := (Value.int .i64 (x5.2))) rfl rfl rfl ?_)
      refine wl_op rfl (op_assign (v := (Value.slice z5 m5 k5)) rfl rfl ?_)
      refine wl_op rfl (op_assign (v := (Value.int .i64 (x5.2))) rfl rfl ?_)
      refine wl_nil ?_
      refine wp_seq' ?_
      refine wp_seq' ?_
      refine wp_region' ?_
      refine wl_op rfl (op_assign (v := (Value.int .i64 (0))) rfl rfl ?_)
      refine wl_nil ?_
      obtain ⟨o2, hrun1, h⟩ := bnd h
      refine wp_cutN (fun f w => ∃ out1, o2 = Sum.inl out1 ∧ Inv w S2 (Row (α := Int) 3 (Value.slice z5 m5 k5) (x5.1) :: Fr) ∧ f 3 = (Value.pointer (some ⟨g1, 0, none⟩)) ∧ f 7 = (Value.int .i64 (x3.1)) ∧ f 8 = (Value.int .i64 (x5.2)) ∧ f 9 = (Value.slice z5 m5 k5) ∧ f 10 = (Value.int .i64 (out1))) ?_ ?_
      · refine wp_block' ?_
        refine wp_whileO (I := fun (s1 : (Int)) (f : Frm) (w : World) => Inv w S2 (Row (α := Int) 3 (Value.slice z5 m5 k5) (x5.1) :: Fr) ∧ f 3 = (Value.pointer (some ⟨g1, 0, none⟩)) ∧ f 7 = (Value.int .i64 (x3.1)) ∧ f 8 = (Value.int .i64 (x5.2)) ∧ f 9 = (Value.slice z5 m5 k5) ∧ f 10 = (Value.int .i64 (s1))) hrun1 ⟨I7, rfl, rfl, rfl, rfl, rfl⟩ ?_
        rintro s1 f w o1 hI1 h19 hout1
        obtain ⟨I20, e68, e69, e70, e71, e72⟩ := hI1
        obtain ⟨ov8, h22, h19⟩ := bnd h19
        refine wp_cut (fun f w => ∃ v8, ov8 = Sum.inl v8 ∧ Inv w S2 (Row (α := Int) 3 (Value.slice z5 m5 k5) (x5.1) :: Fr) ∧ f 3 = (Value.pointer (some ⟨g1, 0, none⟩)) ∧ f 7 = (Value.int .i64 (x3.1)) ∧ f 8 = (Value.int .i64 (x5.2)) ∧ f 9 = (Value.slice z5 m5 k5) ∧ f 10 = (Value.int .i64 (s1))) ?_ ?_
        · refine wp_seq' ?_
          refine wp_region' ?_
          refine wl_op rfl (op_move (v := (Value.int .i64 (x5.2))) rfl e70 ?_)
          refine wl_op rfl (op_eql (a := x5.2) (b := 0) rfl rfl rfl ?_)
          refine wl_op rfl (op_move (v := (Value.bool (x5.2 == 0))) rfl rfl ?_)
          rcases ifs h22 with ⟨hc41, h22⟩ | ⟨hc41, h22⟩
          · refine wl_taken (c := x5.2 == 0) rfl rfl rfl rfl hc41 (op_move (v := (Value.int .i64 (s1))) rfl e72 ?_)
            refine wl_taken (c := x5.2 == 0) rfl rfl rfl rfl hc41 (op_move (v := (Value.slice z5 m5 k5)) rfl e71 ?_)
            refine wl_taken (c := x5.2 == 0) rfl rfl rfl rfl hc41 (op_len_row (α := Int) rfl Try.underlying34 rfl (I20.nth 0 rfl) ?_)
            refine wl_taken (c := x5.2 == 0) rfl rfl rfl rfl hc41 (op_lss (a := s1) (b := (x5.1.length : Int)) rfl rfl rfl ?_)
            refine wl_op rfl (op_pick_t (c := x5.2 == 0) (a := (Value.bool (decide (s1 < (x5.1.length : Int))))) rfl rfl hc41 rfl ?_)
            refine wl_nil ?_
            rcases ifs h22 with ⟨hc42, h22⟩ | ⟨hc42, h22⟩
            · refine wp_cond_t (b := decide (s1 < (x5.1.length : Int))) rfl hc42 ?_
              refine wp_skip' ?_
              obtain rfl := Option.some.inj h22
              exact ⟨_, rfl, I20, e68, e69, e70, e71, e72⟩
            · refine wp_cond_f (b := decide (s1 < (x5.1.length : Int))) rfl hc42 ?_
              refine wp_exit' ?_
              obtain rfl := Option.some.inj h22
              have h23 := h19
              obtain rfl := Option.some.inj h23
              obtain rfl := (hout1 _ rfl)
              exact ⟨_, rfl, I20, e68, e69, e70, e71, e72⟩
          · refine wl_skip (c := x5.2 == 0) rfl rfl rfl rfl hc41 rfl ?_
            refine wl_skip (c := x5.2 == 0) rfl rfl rfl rfl hc41 rfl ?_
            refine wl_skip (c := x5.2 == 0) rfl rfl rfl rfl hc41 rfl ?_
            refine wl_skip (c := x5.2 == 0) rfl rfl rfl rfl hc41 rfl ?_
            refine wl_op rfl (op_pick_f (c := x5.2 == 0) (b := (Value.bool (false))) rfl rfl hc41 rfl ?_)
            refine wl_nil ?_
            refine wp_cond_f (b := false) rfl rfl ?_
            refine wp_exit' ?_
            obtain rfl := Option.some.inj h22
            have h23 := h19
            obtain rfl := Option.some.inj h23
            obtain rfl := (hout1 _ rfl)
            exact ⟨_, rfl, I20, e68, e69, e70, e71, e72⟩
        · rintro f w ⟨v8, rfl, I21, e73, e74, e75, e76, e77⟩
          refine wp_seq' ?_
          refine wp_block' ?_
          refine wp_seq' ?_
          refine wp_region' ?_
          refine wl_op rfl (op_move (v := (Value.int .i64 (s1))) rfl e77 ?_)
          refine wl_op rfl (op_move (v := (Value.int .i64 (x3.1))) rfl e74 ?_)
          refine wl_op rfl (op_geq (a := s1) (b := x3.1) rfl rfl rfl ?_)
          refine wl_op rfl (op_move (v := (Value.bool (decide (x3.1 ≤ s1)))) rfl rfl ?_)
          rcases ifs h19 with ⟨hc43, h19⟩ | ⟨hc43, h19⟩
          · refine wl_taken (c := decide (x3.1 ≤ s1)) rfl rfl rfl rfl hc43 (op_move (v := (Value.slice z5 m5 k5)) rfl e76 ?_)
            refine wl_taken (c := decide (x3.1 ≤ s1)) rfl rfl rfl rfl hc43 (op_move (v := (Value.int .i64 (s1))) rfl e77 ?_)
            obtain ⟨x12, hx12, h19⟩ := bnd h19
            refine wl_taken (c := decide (x3.1 ≤ s1)) rfl rfl rfl rfl hc43 (op_indexAddr_src (v := (Value.slice z5 m5 k5)) (i := s1) (e := x12) rfl Try.underlying34 sh3 rfl (Inv.rowSrc (I21.nth 0 rfl)) rfl hx12 ?_)
            refine wl_taken (c := decide (x3.1 ≤ s1)) rfl rfl rfl rfl hc43 (op_load_int (v := (elemPtr (Value.slice z5 m5 k5) (s1) (Enc.sz Int))) (e := x12) rfl sh3 rfl ((I21.nth 0 rfl).rowElem hx12) ?_)
            refine wl_taken (c := decide (x3.1 ≤ s1)) rfl rfl rfl rfl hc43 (op_neq (a := x12) (b := 0) rfl rfl rfl ?_)
            refine wl_op rfl (op_pick_t (c := decide (x3.1 ≤ s1)) (a := (Value.bool (x12 != 0))) rfl rfl hc43 rfl ?_)
            refine wl_nil ?_
            rcases ifs h19 with ⟨hc44, h19⟩ | ⟨hc44, h19⟩
            · refine wp_cond_t (b := x12 != 0) rfl hc44 ?_
              refine wp_seq' ?_
              refine wp_region' ?_
              refine wl_op rfl (op_assign (v := (Value.bool (false))) rfl rfl ?_)
              refine wl_nil ?_
              refine wp_ret' ?_
              obtain rfl := Option.some.inj h19
              obtain rfl := (hout1 _ rfl)
              have h20 := h
              obtain rfl := Option.some.inj h20
              exact ⟨(Value.bool (false)), (res1 rfl rfl), _, [], (le1.trans le2), (I21).drop, rfl, rfl⟩
            · refine wp_cond_f (b := x12 != 0) rfl hc44 ?_
              refine wp_skip' ?_
              refine wp_region' ?_
              refine wl_op rfl (op_move (v := (Value.int .i64 (s1))) rfl e77 ?_)
              refine wl_op rfl (op_add (a := s1) (b := 1) rfl rfl rfl ?_)
              refine wl_op rfl (op_assign (v := (Value.int .i64 (w64 (s1 + 1)))) rfl rfl ?_)
              refine wl_nil ?_
              obtain rfl := Option.some.inj h19
              exact ⟨_, rfl, I21, e73, e74, e75, e76, rfl⟩
          · refine wl_skip (c := decide (x3.1 ≤ s1)) rfl rfl rfl rfl hc43 rfl ?_
            refine wl_skip (c := decide (x3.1 ≤ s1)) rfl rfl rfl rfl hc43 rfl ?_
            refine wl_skip (c := decide (x3.1 ≤ s1)) rfl rfl rfl rfl hc43 rfl ?_
            refine wl_skip (c := decide (x3.1 ≤ s1)) rfl rfl rfl rfl hc43 rfl ?_
            refine wl_skip (c := decide (x3.1 ≤ s1)) rfl rfl rfl rfl hc43 rfl ?_
            refine wl_op rfl (op_pick_f (c := decide (x3.1 ≤ s1)) (b := (Value.bool (false))) rfl rfl hc43 rfl ?_)
            refine wl_nil ?_
            refine wp_cond_f (b := false) rfl rfl ?_
            refine wp_skip' ?_
            refine wp_region' ?_
            refine wl_op rfl (op_move (v := (Value.int .i64 (s1))) rfl e77 ?_)
            refine wl_op rfl (op_add (a := s1) (b := 1) rfl rfl rfl ?_)
            refine wl_op rfl (op_assign (v := (Value.int .i64 (w64 (s1 + 1)))) rfl rfl ?_)
            refine wl_nil ?_
            obtain rfl := Option.some.inj h19
            exact ⟨_, rfl, I21, e73, e74, e75, e76, rfl⟩
      · rintro f w ⟨out1, rfl, I22, e78, e79, e80, e81, e82⟩
        obtain ⟨ov10, h28, h⟩ := bnd h
        refine wp_cut (fun f w => ∃ v10, ov10 = Sum.inl v10 ∧ Inv w S2 (Fr) ∧ f 3 = (Value.pointer (some ⟨g1, 0, none⟩)) ∧ f 7 = (Value.int .i64 (x3.1))) ?_ ?_
        · obtain ⟨v11, h31, h28⟩ := bnd h28
          refine wp_cut (fun f w => Inv w S2 (Fr) ∧ f 3 = (Value.pointer (some ⟨g1, 0, none⟩)) ∧ f 7 = (Value.int .i64 (x3.1)) ∧ f 60 = (Value.bool (v11))) ?_ ?_
          · refine wp_region' ?_
            refine wl_op rfl (op_move (v := (Value.int .i64 (x3.1))) rfl e79 ?_)
            refine wl_op rfl (op_leq (a := x3.1) (b := 0) rfl rfl rfl ?_)
            refine wl_op rfl (op_move (v := (Value.bool (decide (x3.1 ≤ 0)))) rfl rfl ?_)
            rcases ifs h31 with ⟨hc50, h31⟩ | ⟨hc50, h31⟩
            · refine wl_skip (c := decide (x3.1 ≤ 0)) rfl rfl rfl rfl hc50 rfl ?_
              refine wl_skip (c := decide (x3.1 ≤ 0)) rfl rfl rfl rfl hc50 rfl ?_
              refine wl_op rfl (op_pick_t (c := decide (x3.1 ≤ 0)) (a := (Value.bool (true))) rfl rfl hc50 rfl ?_)
              refine wl_nil ?_
              obtain rfl := Option.some.inj h31
              exact ⟨(I22).drop, e78, e79, rfl⟩
            · refine wl_taken (c := decide (x3.1 ≤ 0)) rfl rfl rfl rfl hc50 (op_move (v := (Value.int .i64 (x3.1))) rfl e79 ?_)
              refine wl_taken (c := decide (x3.1 ≤ 0)) rfl rfl rfl rfl hc50 (op_gtr (a := x3.1) (b := 60) rfl rfl rfl ?_)
              refine wl_op rfl (op_pick_f (c := decide (x3.1 ≤ 0)) (b := (Value.bool (decide (60 < x3.1)))) rfl rfl hc50 rfl ?_)
              refine wl_nil ?_
              obtain rfl := Option.some.inj h31
              exact ⟨(I22).drop, e78, e79, rfl⟩
          · rintro f w ⟨I25, e86, e87, e88⟩
            rcases ifs h28 with ⟨hc51, h28⟩ | ⟨hc51, h28⟩
            · refine wp_cond_t (b := v11) e88 hc51 ?_
              refine wp_seq' ?_
              refine wp_region' ?_
              refine wl_op rfl (op_move (v := (Value.int .i64 (x3.1))) rfl e87 ?_)
              refine wl_op rfl (op_geq (a := x3.1) (b := 0) rfl rfl rfl ?_)
              refine wl_op rfl (op_move (v := (Value.bool (decide (0 ≤ x3.1)))) rfl rfl ?_)
              rcases ifs h28 with ⟨hc52, h28⟩ | ⟨hc52, h28⟩
              · obtain ⟨x14, hx14, h28⟩ := bnd h28
                refine wl_taken (c := decide (0 ≤ x3.1)) rfl rfl rfl rfl hc52 (op_call_v (vs := []) (r := (Value.bool (x14))) rfl ca16 rfl args0 I25 (fun Fr_ hF_ => F16_ok hF_  hx14) (fun w8 I26 => ?_))
                refine wl_op rfl (op_pick_t (c := decide (0 ≤ x3.1)) (a := (Value.bool (x14))) rfl rfl hc52 rfl ?_)
                refine wl_op rfl (op_assign (v := (Value.bool (x14))) rfl rfl ?_)
                refine wl_nil ?_
                refine wp_ret' ?_
                obtain rfl := Option.some.inj h28
                have h29 := h
                obtain rfl := Option.some.inj h29
                exact ⟨(Value.bool (x14)), (res1 rfl rfl), _, [], (le1.trans le2), I26, rfl, rfl⟩
              · refine wl_skip (c := decide (0 ≤ x3.1)) rfl rfl rfl rfl hc52 rfl ?_
                refine wl_op rfl (op_pick_f (c := decide (0 ≤ x3.1)) (b := (Value.bool (false))) rfl rfl hc52 rfl ?_)
                refine wl_op rfl (op_assign (v := (Value.bool (false))) rfl rfl ?_)
                refine wl_nil ?_
                refine wp_ret' ?_
                obtain rfl := Option.some.inj h28
                have h29 := h
                obtain rfl := Option.some.inj h29
                exact ⟨(Value.bool (false)), (res1 rfl rfl), _, [], (le1.trans le2), I25, rfl, rfl⟩
            · refine wp_cond_f (b := v11) e88 hc51 ?_
              refine wp_skip' ?_
              obtain rfl := Option.some.inj h28
              exact ⟨_, rfl, I25, e86, e87⟩
        · rintro f w ⟨v10, rfl, I27, e89, e90⟩
          refine wp_seq' ?_
          refine wp_region' ?_
          refine wl_op rfl (op_assign (v := (Value.int .i64 ((-1)))) rfl rfl ?_)
          refine wl_nil ?_
          refine wp_seq' ?_
          refine wp_seq' ?_
          refine wp_region' ?_
          refine wl_op rfl (op_assign (v := (Value.int .i64 (0))) rfl rfl ?_)
          refine wl_nil ?_
          have hk1 : a0.Doors.length ≤ 9223372036854775807 := (rv_len r3)
          obtain ⟨out2, hrun2, h⟩ := bnd h
          refine wp_cutN (fun f w => ∃ (S_ : PH), S2.Le S_ ∧ Inv w S_ (Fr) ∧ f 3 = (Value.pointer (some ⟨g1, 0, none⟩)) ∧ f 7 = (Value.int .i64 (x3.1)) ∧ f 11 = (Value.int .i64 (out2))) ?_ ?_
          · refine wp_block' ?_
            refine wp_forS (I := fun (i1 : Nat) (s2 : (Int)) (f : Frm) (w : World) => ∃ (S_ : PH), S2.Le S_ ∧ Inv w S_ (Fr) ∧ f 3 = (Value.pointer (some ⟨g1, 0, none⟩)) ∧ f 7 = (Value.int .i64 (x3.1)) ∧ f 11 = (Value.int .i64 (s2)) ∧ f 12 = (Value.int .i64 (i1 : Int))) hrun2 ⟨_, (PH.Le.refl _), I27, e89, e90, rfl, rfl⟩ ?_ ?_
            · rintro i1 s2 f w o3 hlt1 hI254 h33
              obtain ⟨S257, le257, I283, e402, e403, e404, e405⟩ := hI254
              refine wp_seq' ?_
              refine wp_seq' ?_
              refine wp_region' ?_
              refine wl_op rfl (op_move (v := (Value.int .i64 ((i1 : Int)))) rfl e405 ?_)
              refine wl_op rfl (op_fieldAddr_t (v := (Value.pointer (some ⟨g1, 0, none⟩))) rfl fa24_1 e402 ((p1.mono (le2.trans le257)).at_ I283) ?_)
              refine wl_op rfl (op_load (v := (fieldPtr (Value.pointer (some ⟨g1, 0, none⟩)) 1)) (e := a0.Doors) rfl sh22 rfl (((p1.mono (le2.trans le257)).at_ I283).fld Panel.fld1) (fun u303 hu303 => ?_))
              obtain ⟨z270, m270, k270, e407⟩ := rv_form hu303
              subst e407
              refine wl_op rfl (op_len_rv rfl Try.underlying22 rfl hu303 ?_)
              refine wl_op rfl (op_lss (a := (i1 : Int)) (b := (a0.Doors.length : Int)) rfl rfl rfl ?_)
              refine wl_nil ?_
              refine wp_cond_t (b := decide ((i1 : Int) < (a0.Doors.length : Int))) rfl (len_t hlt1) ?_
              refine wp_skip' ?_
              refine wp_seq' ?_
              refine wp_block' ?_
              refine wp_seq' ?_
              obtain ⟨x21, hx21, h33⟩ := bnd h33
              rcases ifs h33 with ⟨hc62, h33⟩ | ⟨hc62, h33⟩
              · rcases ifs h33 with ⟨hc63, h33⟩ | ⟨hc63, h33⟩
                · refine wp_draw (sps := [⟨some 73, [], [0], fun vs_ T_ => fr0 vs_ 0 = (fieldPtr (Value.pointer (some ⟨g1, 0, none⟩)) 1), [], [], [], fun _ h_ => h_⟩, ⟨some 74, [0], [1], fun vs_ T_ => RV T_ (fr0 vs_ 0) a0.Doors, [], [], [], fun hle_ h_ => h_.mono hle_⟩, ⟨some 75, [], [2], fun vs_ T_ => fr0 vs_ 0 = (Value.int .i64 ((i1 : Int))), [], [], [], fun _ h_ => h_⟩, ⟨some 76, [0, 1, 2], [3, 1], fun vs_ T_ => fr0 vs_ 0 = (elemPtr (fr0 vs_ 1) ((i1 : Int)) (Enc.sz Gate)), [], [], [], fun _ h_ => h_⟩, ⟨some 77, [0, 1, 2, 3], [4, 1], fun vs_ T_ => fr0 vs_ 0 = (fieldPtr (elemPtr (fr0 vs_ 1) ((i1 : Int)) (Enc.sz Gate)) 1), [], [], [], fun _ h_ => h_⟩, ⟨some 78, [0, 1, 2, 3, 4], [5], fun vs_ T_ => RV T_ (fr0 vs_ 0) x21.When, [], [], [], fun hle_ h_ => h_.mono hle_⟩, ⟨some 79, [0, 1, 2, 3, 4, 5], [6], fun vs_ T_ => fr0 vs_ 0 = (Value.int .i64 ((x21.When.length : Int))), [], [], [], fun _ h_ => h_⟩, ⟨some 80, [0, 1, 2, 3, 4, 5, 6], [7], fun vs_ T_ => fr0 vs_ 0 = (Value.bool (decide (0 < (x21.When.length : Int)))), [], [], [], fun _ h_ => h_⟩, ⟨some 81, [0, 1, 2, 3, 4, 5, 6, 7], [8], fun vs_ T_ => fr0 vs_ 0 = (Value.bool (decide (0 < (x21.When.length : Int)))), [], [], [], fun _ h_ => h_⟩, ⟨some 82, [0, 1, 2, 3, 4, 5, 6, 7, 8], [9], fun vs_ T_ => fr0 vs_ 0 = (Value.int .i64 (s2)), [], [], [], fun _ h_ => h_⟩, ⟨some 83, [0, 1, 2, 3, 4, 5, 6, 7, 8, 9], [10], fun vs_ T_ => fr0 vs_ 0 = (Value.bool (decide (s2 < 0))), [], [], [], fun _ h_ => h_⟩, ⟨some 84, [0, 1, 2, 3, 4, 5, 6, 7, 8, 9, 10], [11], fun vs_ T_ => fr0 vs_ 0 = (Value.bool (decide (s2 < 0))), [], [], [], fun _ h_ => h_⟩, ⟨some 85, [0, 1, 2, 3, 4, 5, 6, 7, 8, 9, 10, 11], [12], fun vs_ T_ => fr0 vs_ 0 = undef, [], [], [], fun _ h_ => h_⟩, ⟨some 86, [0, 1, 2, 3, 4, 5, 6, 7, 8, 9, 10, 11, 12], [13], fun vs_ T_ => fr0 vs_ 0 = undef, [], [], [], fun _ h_ => h_⟩, ⟨some 87, [0, 1, 2, 3, 4, 5, 6, 7, 8, 9, 10, 11], [14], fun vs_ T_ => fr0 vs_ 0 = undef, [], [], [], fun _ h_ => h_⟩, ⟨some 88, [0, 1, 2, 3, 4, 5, 6, 7, 8, 9, 10, 11, 12, 13, 14], [15], fun vs_ T_ => fr0 vs_ 0 = undef, [], [], [], fun _ h_ => h_⟩, ⟨some 89, [0, 1, 2, 3, 4, 5, 6, 7, 8, 9, 10, 11, 12, 13, 14, 15], [16], fun vs_ T_ => fr0 vs_ 0 = undef, [], [], [], fun _ h_ => h_⟩, ⟨some 90, [0, 1, 2, 3, 4, 5, 6, 7, 8, 9, 10, 11, 12, 13, 14, 15, 16], [17], fun vs_ T_ => fr0 vs_ 0 = undef, [], [], [], fun _ h_ => h_⟩, ⟨some 91, [0, 1, 2, 3, 4, 5, 6, 7, 8, 9, 10, 11], [18], fun vs_ T_ => fr0 vs_ 0 = undef, [], [], [], fun _ h_ => h_⟩, ⟨some 92, [0, 1, 2, 3, 4, 5, 6, 7, 8, 9, 10, 11, 18], [19], fun vs_ T_ => fr0 vs_ 0 = undef, [], [], [], fun _ h_ => h_⟩, ⟨some 93, [0, 1, 2, 3, 4, 5, 6, 7, 8, 9, 10, 11], [20], fun vs_ T_ => fr0 vs_ 0 = undef, [], [], [], fun _ h_ => h_⟩, ⟨some 94, [0, 1, 2, 3, 4, 5, 6, 7, 8, 9, 10, 11, 18, 19, 20], [21], fun vs_ T_ => fr0 vs_ 0 = undef, [], [], [], fun _ h_ => h_⟩, ⟨some 95, [0, 1, 2, 3, 4, 5, 6, 7, 8, 9, 10, 11, 18, 19, 20, 21], [22], fun vs_ T_ => fr0 vs_ 0 = undef, [], [], [], fun _ h_ => h_⟩, ⟨some 96, [0, 1, 2, 3, 4, 5, 6, 7, 8, 9, 10, 11, 18, 19, 20, 21, 22], [23], fun vs_ T_ => fr0 vs_ 0 = undef, [], [], [], fun _ h_ => h_⟩, ⟨some 97, [0, 1, 2, 3, 4, 5, 6, 7, 8, 9, 10, 11, 12, 13, 14, 15, 16, 17, 18, 19, 20, 21, 22, 23], [24], fun vs_ T_ => fr0 vs_ 0 = undef, [], [], [], fun _ h_ => h_⟩, ⟨some 98, [0, 1, 2, 3, 4, 5, 6, 7, 8, 9, 10, 11, 12, 13, 14, 15, 16, 17, 18, 19, 20, 21, 22, 23, 24], [25], fun vs_ T_ => fr0 vs_ 0 = (Value.bool (true)), [], [], [], fun _ h_ => h_⟩, ⟨some 99, [0, 1, 2, 3, 4, 5, 6, 7, 8, 9, 10, 11, 12, 13, 14, 15, 16, 17, 18, 19, 20, 21, 22, 23, 24, 25], [26], fun vs_ T_ => fr0 vs_ 0 = (Value.bool (true)), [], [], [], fun _ h_ => h_⟩]) (tks := []) (O := Fr) rfl (by kernel_rfl) I283 ⟨?_, ?_, ?_, ?_, ?_, ?_, ?_, ?_, ?_, ?_, ?_, ?_, ?_, ?_, ?_, ?_, ?_, ?_, ?_, ?_, ?_, ?_, ?_, ?_, ?_, ?_, ?_, trivial⟩ ?_
                  · intro vs253 f w261 S258 X244 le258 hA244 hK253 hI255
                    have I284 : Inv w261 S258 (X244) := hI255
                    refine opg_plain rfl rfl (op_fieldAddr_t (v := (Value.pointer (some ⟨g1, 0, none⟩))) rfl fa24_1 ((hK253 3 (keep_of rfl)).trans e402) ((p1.mono ((le2.trans le257).trans le258)).at_ I284) ?_)
                    refine ⟨_, _, rfl, PH.Le.refl _, ?_, ?_⟩
                    · exact rfl
                    · exact I284
                  · intro vs254 f w262 S259 X245 le259 hA245 hK254 hI256
                    have I285 : Inv w262 S259 (X245) := hI256
                    have q1972 : f 73 = (fieldPtr (Value.pointer (some ⟨g1, 0, none⟩)) 1) := ((hA245.1 _ rfl).1 _ rfl).trans (hA245.1 _ rfl).2
                    refine opg_plain rfl rfl (op_load (v := (fieldPtr (Value.pointer (some ⟨g1, 0, none⟩)) 1)) (e := a0.Doors) rfl sh22 q1972 (((p1.mono ((le2.trans le257).trans le259)).at_ I285).fld Panel.fld1) (fun u310 hu310 => ?_))
                    obtain ⟨z271, m271, k271, e408⟩ := rv_form hu310
                    subst e408
                    refine ⟨_, _, rfl, PH.Le.refl _, ?_, ?_⟩
                    · exact hu310
                    · exact I285
                  · intro vs255 f w263 S260 X246 le260 hA246 hK255 hI257
                    have I286 : Inv w263 S260 (X246) := hI257
                    refine opg_plain rfl rfl (op_move (v := (Value.int .i64 ((i1 : Int)))) rfl ((hK255 12 (keep_of rfl)).trans e405) ?_)
                    refine ⟨_, _, rfl, PH.Le.refl _, ?_, ?_⟩
                    · exact rfl
                    · exact I286
                  · intro vs256 f w264 S261 X247 le261 hA247 hK256 hI258
                    have I287 : Inv w264 S261 (X247) := hI258
                    have q1973 : f 73 = (fieldPtr (Value.pointer (some ⟨g1, 0, none⟩)) 1) := ((hA247.1 _ rfl).1 _ rfl).trans (hA247.1 _ rfl).2
                    have q1974 : f 74 = vs256 1 := (hA247.2.1 _ rfl).1 _ rfl
                    have r235 : RV S261 (vs256 1) a0.Doors := (hA247.2.1 _ rfl).2
                    obtain ⟨u311, hu311⟩ : ∃ u, vs256 1 = u := ⟨_, rfl⟩
                    rw [hu311] at q1974 r235
                    obtain ⟨z272, m272, k272, e409⟩ := rv_form r235
                    subst e409
                    have q1975 : f 75 = (Value.int .i64 ((i1 : Int))) := ((hA247.2.2.1 _ rfl).1 _ rfl).trans (hA247.2.2.1 _ rfl).2
                    refine opg_plain rfl rfl (op_indexAddr_rv (v := (Value.slice z272 m272 k272)) (i := (i1 : Int)) (e := x21) rfl Try.underlying22 sh33 q1974 r235 q1975 hx21 ?_)
                    refine ⟨_, _, rfl, PH.Le.refl _, ?_, ?_⟩
                    · show (elemPtr (Value.slice z272 m272 k272) ((i1 : Int)) (Enc.sz Gate)) = (elemPtr (vs256 1) ((i1 : Int)) (Enc.sz Gate))
                      simp only [hu311] <;> rfl
                    · exact I287
                  · intro vs257 f w265 S262 X248 le262 hA248 hK257 hI259
                    have I288 : Inv w265 S262 (X248) := hI259
                    have q1976 : f 73 = (fieldPtr (Value.pointer (some ⟨g1, 0, none⟩)) 1) := ((hA248.1 _ rfl).1 _ rfl).trans (hA248.1 _ rfl).2
                    have q1977 : f 74 = vs257 1 := (hA248.2.1 _ rfl).1 _ rfl
                    have r236 : RV S262 (vs257 1) a0.Doors := (hA248.2.1 _ rfl).2
                    obtain ⟨u312, hu312⟩ : ∃ u, vs257 1 = u := ⟨_, rfl⟩
                    rw [hu312] at q1977 r236
                    obtain ⟨z273, m273, k273, e410⟩ := rv_form r236
                    subst e410
                    have q1978 : f 75 = (Value.int .i64 ((i1 : Int))) := ((hA248.2.2.1 _ rfl).1 _ rfl).trans (hA248.2.2.1 _ rfl).2
                    have q1979 : f 76 = (elemPtr (vs257 1) ((i1 : Int)) (Enc.sz Gate)) := ((hA248.2.2.2.1 _ rfl).1 _ rfl).trans (hA248.2.2.2.1 _ rfl).2
                    simp only [hu312] at q1979
                    have q1979 : f 76 = (elemPtr (Value.slice z273 m273 k273) ((i1 : Int)) (Enc.sz Gate)) := q1979
                    refine opg_plain rfl rfl (op_fieldAddr_t (v := (elemPtr (Value.slice z273 m273 k273) ((i1 : Int)) (Enc.sz Gate))) rfl fa33_1 q1979 (r236.elem I288.in_ hx21) ?_)
                    refine ⟨_, _, rfl, PH.Le.refl _, ?_, ?_⟩
                    · show (fieldPtr (elemPtr (Value.slice z273 m273 k273) ((i1 : Int)) (Enc.sz Gate)) 1) = (fieldPtr (elemPtr (vs257 1) ((i1 : Int)) (Enc.sz Gate)) 1)
                      simp only [hu312] <;> rfl
                    · exact I288
                  · intro vs258 f w266 S263 X249 le263 hA249 hK258 hI260
                    have I289 : Inv w266 S263 (X249) := hI260
                    have q1980 : f 73 = (fieldPtr (Value.pointer (some ⟨g1, 0, none⟩)) 1) := ((hA249.1 _ rfl).1 _ rfl).trans (hA249.1 _ rfl).2
                    have q1981 : f 74 = vs258 1 := (hA249.2.1 _ rfl).1 _ rfl
                    have r237 : RV S263 (vs258 1) a0.Doors := (hA249.2.1 _ rfl).2
                    obtain ⟨u313, hu313⟩ : ∃ u, vs258 1 = u := ⟨_, rfl⟩
                    rw [hu313] at q1981 r237
                    obtain ⟨z274, m274, k274, e411⟩ := rv_form r237
                    subst e411
                    have q1982 : f 75 = (Value.int .i64 ((i1 : Int))) := ((hA249.2.2.1 _ rfl).1 _ rfl).trans (hA249.2.2.1 _ rfl).2
                    have q1983 : f 76 = (elemPtr (vs258 1) ((i1 : Int)) (Enc.sz Gate)) := ((hA249.2.2.2.1 _ rfl).1 _ rfl).trans (hA249.2.2.2.1 _ rfl).2
                    simp only [hu313] at q1983
                    have q1983 : f 76 = (elemPtr (Value.slice z274 m274 k274) ((i1 : Int)) (Enc.sz Gate)) := q1983
                    have q1984 : f 77 = (fieldPtr (elemPtr (vs258 1) ((i1 : Int)) (Enc.sz Gate)) 1) := ((hA249.2.2.2.2.1 _ rfl).1 _ rfl).trans (hA249.2.2.2.2.1 _ rfl).2
                    simp only [hu313] at q1984
                    have q1984 : f 77 = (fieldPtr (elemPtr (Value.slice z274 m274 k274) ((i1 : Int)) (Enc.sz Gate)) 1) := q1984
                    refine opg_plain rfl rfl (op_load (v := (fieldPtr (elemPtr (Value.slice z274 m274 k274) ((i1 : Int)) (Enc.sz Gate)) 1)) (e := x21.When) rfl sh31 q1984 ((r237.elem I289.in_ hx21).fld Gate.fld1) (fun u314 hu314 => ?_))
                    obtain ⟨z275, m275, k275, e412⟩ := rv_form hu314
                    subst e412
                    refine ⟨_, _, rfl, PH.Le.refl _, ?_, ?_⟩
                    · exact hu314
                    · exact I289
                  · intro vs259 f w267 S264 X250 le264 hA250 hK259 hI261
                    have I290 : Inv w267 S264 (X250) := hI261
                    have q1985 : f 73 = (fieldPtr (Value.pointer (some ⟨g1, 0, none⟩)) 1) := ((hA250.1 _ rfl).1 _ rfl).trans (hA250.1 _ rfl).2
                    have q1986 : f 74 = vs259 1 := (hA250.2.1 _ rfl).1 _ rfl
                    have r238 : RV S264 (vs259 1) a0.Doors := (hA250.2.1 _ rfl).2
                    obtain ⟨u315, hu315⟩ : ∃ u, vs259 1 = u := ⟨_, rfl⟩
                    rw [hu315] at q1986 r238
                    obtain ⟨z276, m276, k276, e413⟩ := rv_form r238
                    subst e413
                    have q1987 : f 75 = (Value.int .i64 ((i1 : Int))) := ((hA250.2.2.1 _ rfl).1 _ rfl).trans (hA250.2.2.1 _ rfl).2
                    have q1988 : f 76 = (elemPtr (vs259 1) ((i1 : Int)) (Enc.sz Gate)) := ((hA250.2.2.2.1 _ rfl).1 _ rfl).trans (hA250.2.2.2.1 _ rfl).2
                    simp only [hu315] at q1988
                    have q1988 : f 76 = (elemPtr (Value.slice z276 m276 k276) ((i1 : Int)) (Enc.sz Gate)) := q1988
                    have q1989 : f 77 = (fieldPtr (elemPtr (vs259 1) ((i1 : Int)) (Enc.sz Gate)) 1) := ((hA250.2.2.2.2.1 _ rfl).1 _ rfl).trans (hA250.2.2.2.2.1 _ rfl).2
                    simp only [hu315] at q1989
                    have q1989 : f 77 = (fieldPtr (elemPtr (Value.slice z276 m276 k276) ((i1 : Int)) (Enc.sz Gate)) 1) := q1989
                    have q1990 : f 78 = vs259 5 := (hA250.2.2.2.2.2.1 _ rfl).1 _ rfl
                    have r239 : RV S264 (vs259 5) x21.When := (hA250.2.2.2.2.2.1 _ rfl).2
                    obtain ⟨u316, hu316⟩ : ∃ u, vs259 5 = u := ⟨_, rfl⟩
                    rw [hu316] at q1990 r239
                    obtain ⟨z277, m277, k277, e414⟩ := rv_form r239
                    subst e414
                    refine opg_plain rfl rfl (op_len_rv rfl Try.underlying31 q1990 r239 ?_)
                    refine ⟨_, _, rfl, PH.Le.refl _, ?_, ?_⟩
                    · exact rfl
                    · exact I290
                  · intro vs260 f w268 S265 X251 le265 hA251 hK260 hI262
                    have I291 : Inv w268 S265 (X251) := hI262
                    have q1991 : f 73 = (fieldPtr (Value.pointer (some ⟨g1, 0, none⟩)) 1) := ((hA251.1 _ rfl).1 _ rfl).trans (hA251.1 _ rfl).2
                    have q1992 : f 74 = vs260 1 := (hA251.2.1 _ rfl).1 _ rfl
                    have r240 : RV S265 (vs260 1) a0.Doors := (hA251.2.1 _ rfl).2
                    obtain ⟨u317, hu317⟩ : ∃ u, vs260 1 = u := ⟨_, rfl⟩
                    rw [hu317] at q1992 r240
                    obtain ⟨z278, m278, k278, e415⟩ := rv_form r240
                    subst e415
                    have q1993 : f 75 = (Value.int .i64 ((i1 : Int))) := ((hA251.2.2.1 _ rfl).1 _ rfl).trans (hA251.2.2.1 _ rfl).2
                    have q1994 : f 76 = (elemPtr (vs260 1) ((i1 : Int)) (Enc.sz Gate)) := ((hA251.2.2.2.1 _ rfl).1 _ rfl).trans (hA251.2.2.2.1 _ rfl).2
                    simp only [hu317] at q1994
                    have q1994 : f 76 = (elemPtr (Value.slice z278 m278 k278) ((i1 : Int)) (Enc.sz Gate)) := q1994
                    have q1995 : f 77 = (fieldPtr (elemPtr (vs260 1) ((i1 : Int)) (Enc.sz Gate)) 1) := ((hA251.2.2.2.2.1 _ rfl).1 _ rfl).trans (hA251.2.2.2.2.1 _ rfl).2
                    simp only [hu317] at q1995
                    have q1995 : f 77 = (fieldPtr (elemPtr (Value.slice z278 m278 k278) ((i1 : Int)) (Enc.sz Gate)) 1) := q1995
                    have q1996 : f 78 = vs260 5 := (hA251.2.2.2.2.2.1 _ rfl).1 _ rfl
                    have r241 : RV S265 (vs260 5) x21.When := (hA251.2.2.2.2.2.1 _ rfl).2
                    obtain ⟨u318, hu318⟩ : ∃ u, vs260 5 = u := ⟨_, rfl⟩
                    rw [hu318] at q1996 r241
                    obtain ⟨z279, m279, k279, e416⟩ := rv_form r241
                    subst e416
                    have q1997 : f 79 = (Value.int .i64 ((x21.When.length : Int))) := ((hA251.2.2.2.2.2.2.1 _ rfl).1 _ rfl).trans (hA251.2.2.2.2.2.2.1 _ rfl).2
                    refine opg_plain rfl rfl (op_gtr (a := (x21.When.length : Int)) (b := 0) rfl q1997 rfl ?_)
                    refine ⟨_, _, rfl, PH.Le.refl _, ?_, ?_⟩
                    · exact rfl
                    · exact I291
                  · intro vs261 f w269 S266 X252 le266 hA252 hK261 hI263
                    have I292 : Inv w269 S266 (X252) := hI263
                    have q1998 : f 73 = (fieldPtr (Value.pointer (some ⟨g1, 0, none⟩)) 1) := ((hA252.1 _ rfl).1 _ rfl).trans (hA252.1 _ rfl).2
                    have q1999 : f 74 = vs261 1 := (hA252.2.1 _ rfl).1 _ rfl
                    have r242 : RV S266 (vs261 1) a0.Doors := (hA252.2.1 _ rfl).2
                    obtain ⟨u319, hu319⟩ : ∃ u, vs261 1 = u := ⟨_, rfl⟩
                    rw [hu319] at q1999 r242
                    obtain ⟨z280, m280, k280, e417⟩ := rv_form r242
                    subst e417
                    have q2000 : f 75 = (Value.int .i64 ((i1 : Int))) := ((hA252.2.2.1 _ rfl).1 _ rfl).trans (hA252.2.2.1 _ rfl).2
                    have q2001 : f 76 = (elemPtr (vs261 1) ((i1 : Int)) (Enc.sz Gate)) := ((hA252.2.2.2.1 _ rfl).1 _ rfl).trans (hA252.2.2.2.1 _ rfl).2
                    simp only [hu319] at q2001
                    have q2001 : f 76 = (elemPtr (Value.slice z280 m280 k280) ((i1 : Int)) (Enc.sz Gate)) := q2001
                    have q2002 : f 77 = (fieldPtr (elemPtr (vs261 1) ((i1 : Int)) (Enc.sz Gate)) 1) := ((hA252.2.2.2.2.1 _ rfl).1 _ rfl).trans (hA252.2.2.2.2.1 _ rfl).2
                    simp only [hu319] at q2002
                    have q2002 : f 77 = (fieldPtr (elemPtr (Value.slice z280 m280 k280) ((i1 : Int)) (Enc.sz Gate)) 1) := q2002
                    have q2003 : f 78 = vs261 5 := (hA252.2.2.2.2.2.1 _ rfl).1 _ rfl
                    have r243 : RV S266 (vs261 5) x21.When := (hA252.2.2.2.2.2.1 _ rfl).2
                    obtain ⟨u320, hu320⟩ : ∃ u, vs261 5 = u := ⟨_, rfl⟩
                    rw [hu320] at q2003 r243
                    obtain ⟨z281, m281, k281, e418⟩ := rv_form r243
                    subst e418
                    have q2004 : f 79 = (Value.int .i64 ((x21.When.length : Int))) := ((hA252.2.2.2.2.2.2.1 _ rfl).1 _ rfl).trans (hA252.2.2.2.2.2.2.1 _ rfl).2
                    have q2005 : f 80 = (Value.bool (decide (0 < (x21.When.length : Int)))) := ((hA252.2.2.2.2.2.2.2.1 _ rfl).1 _ rfl).trans (hA252.2.2.2.2.2.2.2.1 _ rfl).2
                    refine opg_plain rfl rfl (op_move (v := (Value.bool (decide (0 < (x21.When.length : Int))))) rfl q2005 ?_)
                    refine ⟨_, _, rfl, PH.Le.refl _, ?_, ?_⟩
                    · exact rfl
                    · exact I292
                  · intro vs262 f w270 S267 X253 le267 hA253 hK262 hI264
                    have I293 : Inv w270 S267 (X253) := hI264
                    have q2006 : f 73 = (fieldPtr (Value.pointer (some ⟨g1, 0, none⟩)) 1) := ((hA253.1 _ rfl).1 _ rfl).trans (hA253.1 _ rfl).2
                    have q2007 : f 74 = vs262 1 := (hA253.2.1 _ rfl).1 _ rfl
                    have r244 : RV S267 (vs262 1) a0.Doors := (hA253.2.1 _ rfl).2
                    obtain ⟨u321, hu321⟩ : ∃ u, vs262 1 = u := ⟨_, rfl⟩
                    rw [hu321] at q2007 r244
                    obtain ⟨z282, m282, k282, e419⟩ := rv_form r244
                    subst e419
                    have q2008 : f 75 = (Value.int .i64 ((i1 : Int))) := ((hA253.2.2.1 _ rfl).1 _ rfl).trans (hA253.2.2.1 _ rfl).2
                    have q2009 : f 76 = (elemPtr (vs262 1) ((i1 : Int)) (Enc.sz Gate)) := ((hA253.2.2.2.1 _ rfl).1 _ rfl).trans (hA253.2.2.2.1 _ rfl).2
                    simp only [hu321] at q2009
                    have q2009 : f 76 = (elemPtr (Value.slice z282 m282 k282) ((i1 : Int)) (Enc.sz Gate)) := q2009
                    have q2010 : f 77 = (fieldPtr (elemPtr (vs262 1) ((i1 : Int)) (Enc.sz Gate)) 1) := ((hA253.2.2.2.2.1 _ rfl).1 _ rfl).trans (hA253.2.2.2.2.1 _ rfl).2
                    simp only [hu321] at q2010
                    have q2010 : f 77 = (fieldPtr (elemPtr (Value.slice z282 m282 k282) ((i1 : Int)) (Enc.sz Gate)) 1) := q2010
                    have q2011 : f 78 = vs262 5 := (hA253.2.2.2.2.2.1 _ rfl).1 _ rfl
                    have r245 : RV S267 (vs262 5) x21.When := (hA253.2.2.2.2.2.1 _ rfl).2
                    obtain ⟨u322, hu322⟩ : ∃ u, vs262 5 = u := ⟨_, rfl⟩
                    rw [hu322] at q2011 r245
                    obtain ⟨z283, m283, k283, e420⟩ := rv_form r245
                    subst e420
                    have q2012 : f 79 = (Value.int .i64 ((x21.When.length : Int))) := ((hA253.2.2.2.2.2.2.1 _ rfl).1 _ rfl).trans (hA253.2.2.2.2.2.2.1 _ rfl).2
                    have q2013 : f 80 = (Value.bool (decide (0 < (x21.When.length : Int)))) := ((hA253.2.2.2.2.2.2.2.1 _ rfl).1 _ rfl).trans (hA253.2.2.2.2.2.2.2.1 _ rfl).2
                    have q2014 : f 81 = (Value.bool (decide (0 < (x21.When.length : Int)))) := ((hA253.2.2.2.2.2.2.2.2.1 _ rfl).1 _ rfl).trans (hA253.2.2.2.2.2.2.2.2.1 _ rfl).2
                    refine opg_taken (c := decide (0 < (x21.When.length : Int))) rfl rfl rfl rfl q2014 hc62 (op_move (v := (Value.int .i64 (s2))) rfl ((hK262 11 (keep_of rfl)).trans e404) ?_)
                    refine ⟨_, _, rfl, PH.Le.refl _, ?_, ?_⟩
                    · exact rfl
                    · exact I293
                  · intro vs263 f w271 S268 X254 le268 hA254 hK263 hI265
                    have I294 : Inv w271 S268 (X254) := hI265
                    have q2015 : f 73 = (fieldPtr (Value.pointer (some ⟨g1, 0, none⟩)) 1) := ((hA254.1 _ rfl).1 _ rfl).trans (hA254.1 _ rfl).2
                    have q2016 : f 74 = vs263 1 := (hA254.2.1 _ rfl).1 _ rfl
                    have r246 : RV S268 (vs263 1) a0.Doors := (hA254.2.1 _ rfl).2
                    obtain ⟨u323, hu323⟩ : ∃ u, vs263 1 = u := ⟨_, rfl⟩
                    rw [hu323] at q2016 r246
                    obtain ⟨z284, m284, k284, e421⟩ := rv_form r246
                    subst e421
                    have q2017 : f 75 = (Value.int .i64 ((i1 : Int))) := ((hA254.2.2.1 _ rfl).1 _ rfl).trans (hA254.2.2.1 _ rfl).2
                    have q2018 : f 76 = (elemPtr (vs263 1) ((i1 : Int)) (Enc.sz Gate)) := ((hA254.2.2.2.1 _ rfl).1 _ rfl).trans (hA254.2.2.2.1 _ rfl).2
                    simp only [hu323] at q2018
                    have q2018 : f 76 = (elemPtr (Value.slice z284 m284 k284) ((i1 : Int)) (Enc.sz Gate)) := q2018
                    have q2019 : f 77 = (fieldPtr (elemPtr (vs263 1) ((i1 : Int)) (Enc.sz Gate)) 1) := ((hA254.2.2.2.2.1 _ rfl).1 _ rfl).trans (hA254.2.2.2.2.1 _ rfl).2
                    simp only [hu323] at q2019
                    have q2019 : f 77 = (fieldPtr (elemPtr (Value.slice z284 m284 k284) ((i1 : Int)) (Enc.sz Gate)) 1) := q2019
                    have q2020 : f 78 = vs263 5 := (hA254.2.2.2.2.2.1 _ rfl).1 _ rfl
                    have r247 : RV S268 (vs263 5) x21.When := (hA254.2.2.2.2.2.1 _ rfl).2
                    obtain ⟨u324, hu324⟩ : ∃ u, vs263 5 = u := ⟨_, rfl⟩
                    rw [hu324] at q2020 r247
                    obtain ⟨z285, m285, k285, e422⟩ := rv_form r247
                    subst e422
                    have q2021 : f 79 = (Value.int .i64 ((x21.When.length : Int))) := ((hA254.2.2.2.2.2.2.1 _ rfl).1 _ rfl).trans (hA254.2.2.2.2.2.2.1 _ rfl).2
                    have q2022 : f 80 = (Value.bool (decide (0 < (x21.When.length : Int)))) := ((hA254.2.2.2.2.2.2.2.1 _ rfl).1 _ rfl).trans (hA254.2.2.2.2.2.2.2.1 _ rfl).2
                    have q2023 : f 81 = (Value.bool (decide (0 < (x21.When.length : Int)))) := ((hA254.2.2.2.2.2.2.2.2.1 _ rfl).1 _ rfl).trans (hA254.2.2.2.2.2.2.2.2.1 _ rfl).2
                    have q2024 : f 82 = (Value.int .i64 (s2)) := ((hA254.2.2.2.2.2.2.2.2.2.1 _ rfl).1 _ rfl).trans (hA254.2.2.2.2.2.2.2.2.2.1 _ rfl).2
                    refine opg_taken (c := decide (0 < (x21.When.length : Int))) rfl rfl rfl rfl q2023 hc62 (op_lss (a := s2) (b := 0) rfl q2024 rfl ?_)
                    refine ⟨_, _, rfl, PH.Le.refl _, ?_, ?_⟩
                    · exact rfl
                    · exact I294
                  · intro vs264 f w272 S269 X255 le269 hA255 hK264 hI266
                    have I295 : Inv w272 S269 (X255) := hI266
                    have q2025 : f 73 = (fieldPtr (Value.pointer (some ⟨g1, 0, none⟩)) 1) := ((hA255.1 _ rfl).1 _ rfl).trans (hA255.1 _ rfl).2
                    have q2026 : f 74 = vs264 1 := (hA255.2.1 _ rfl).1 _ rfl
                    have r248 : RV S269 (vs264 1) a0.Doors := (hA255.2.1 _ rfl).2
                    obtain ⟨u325, hu325⟩ : ∃ u, vs264 1 = u := ⟨_, rfl⟩
                    rw [hu325] at q2026 r248
                    obtain ⟨z286, m286, k286, e423⟩ := rv_form r248
                    subst e423
                    have q2027 : f 75 = (Value.int .i64 ((i1 : Int))) := ((hA255.2.2.1 _ rfl).1 _ rfl).trans (hA255.2.2.1 _ rfl).2
                    have q2028 : f 76 = (elemPtr (vs264 1) ((i1 : Int)) (Enc.sz Gate)) := ((hA255.2.2.2.1 _ rfl).1 _ rfl).trans (hA255.2.2.2.1 _ rfl).2
                    simp only [hu325] at q2028
                    have q2028 : f 76 = (elemPtr (Value.slice z286 m286 k286) ((i1 : Int)) (Enc.sz Gate)) := q2028
                    have q2029 : f 77 = (fieldPtr (elemPtr (vs264 1) ((i1 : Int)) (Enc.sz Gate)) 1) := ((hA255.2.2.2.2.1 _ rfl).1 _ rfl).trans (hA255.2.2.2.2.1 _ rfl).2
                    simp only [hu325] at q2029
                    have q2029 : f 77 = (fieldPtr (elemPtr (Value.slice z286 m286 k286) ((i1 : Int)) (Enc.sz Gate)) 1) := q2029
                    have q2030 : f 78 = vs264 5 := (hA255.2.2.2.2.2.1 _ rfl).1 _ rfl
                    have r249 : RV S269 (vs264 5) x21.When := (hA255.2.2.2.2.2.1 _ rfl).2
                    obtain ⟨u326, hu326⟩ : ∃ u, vs264 5 = u := ⟨_, rfl⟩
                    rw [hu326] at q2030 r249
                    obtain ⟨z287, m287, k287, e424⟩ := rv_form r249
                    subst e424
                    have q2031 : f 79 = (Value.int .i64 ((x21.When.length : Int))) := ((hA255.2.2.2.2.2.2.1 _ rfl).1 _ rfl).trans (hA255.2.2.2.2.2.2.1 _ rfl).2
                    have q2032 : f 80 = (Value.bool (decide (0 < (x21.When.length : Int)))) := ((hA255.2.2.2.2.2.2.2.1 _ rfl).1 _ rfl).trans (hA255.2.2.2.2.2.2.2.1 _ rfl).2
                    have q2033 : f 81 = (Value.bool (decide (0 < (x21.When.length : Int)))) := ((hA255.2.2.2.2.2.2.2.2.1 _ rfl).1 _ rfl).trans (hA255.2.2.2.2.2.2.2.2.1 _ rfl).2
                    have q2034 : f 82 = (Value.int .i64 (s2)) := ((hA255.2.2.2.2.2.2.2.2.2.1 _ rfl).1 _ rfl).trans (hA255.2.2.2.2.2.2.2.2.2.1 _ rfl).2
                    have q2035 : f 83 = (Value.bool (decide (s2 < 0))) := ((hA255.2.2.2.2.2.2.2.2.2.2.1 _ rfl).1 _ rfl).trans (hA255.2.2.2.2.2.2.2.2.2.2.1 _ rfl).2
                    refine opg_taken (c := decide (0 < (x21.When.length : Int))) rfl rfl rfl rfl q2033 hc62 (op_move (v := (Value.bool (decide (s2 < 0)))) rfl q2035 ?_)
                    refine ⟨_, _, rfl, PH.Le.refl _, ?_, ?_⟩
                    · exact rfl
                    · exact I295
                  · intro vs265 f w273 S270 X256 le270 hA256 hK265 hI267
                    have I296 : Inv w273 S270 (X256) := hI267
                    have q2036 : f 82 = (Value.int .i64 (s2)) := ((hA256.2.2.2.2.2.2.2.2.2.1 _ rfl).1 _ rfl).trans (hA256.2.2.2.2.2.2.2.2.2.1 _ rfl).2
                    have q2037 : f 83 = (Value.bool (decide (s2 < 0))) := ((hA256.2.2.2.2.2.2.2.2.2.2.1 _ rfl).1 _ rfl).trans (hA256.2.2.2.2.2.2.2.2.2.2.1 _ rfl).2
                    have q2038 : f 84 = (Value.bool (decide (s2 < 0))) := ((hA256.2.2.2.2.2.2.2.2.2.2.2.1 _ rfl).1 _ rfl).trans (hA256.2.2.2.2.2.2.2.2.2.2.2.1 _ rfl).2
                    exact opg_skip (c := decide (s2 < 0)) rfl rfl rfl rfl q2038 hc63 rfl ⟨_, _, rfl, PH.Le.refl _, rfl, I296⟩
                  · intro vs266 f w274 S271 X257 le271 hA257 hK266 hI268
                    have I297 : Inv w274 S271 (X257) := hI268
                    have q2039 : f 82 = (Value.int .i64 (s2)) := ((hA257.2.2.2.2.2.2.2.2.2.1 _ rfl).1 _ rfl).trans (hA257.2.2.2.2.2.2.2.2.2.1 _ rfl).2
                    have q2040 : f 83 = (Value.bool (decide (s2 < 0))) := ((hA257.2.2.2.2.2.2.2.2.2.2.1 _ rfl).1 _ rfl).trans (hA257.2.2.2.2.2.2.2.2.2.2.1 _ rfl).2
                    have q2041 : f 84 = (Value.bool (decide (s2 < 0))) := ((hA257.2.2.2.2.2.2.2.2.2.2.2.1 _ rfl).1 _ rfl).trans (hA257.2.2.2.2.2.2.2.2.2.2.2.1 _ rfl).2
                    have q2042 : f 85 = undef := ((hA257.2.2.2.2.2.2.2.2.2.2.2.2.1 _ rfl).1 _ rfl).trans (hA257.2.2.2.2.2.2.2.2.2.2.2.2.1 _ rfl).2
                    exact opg_skip (c := decide (s2 < 0)) rfl rfl rfl rfl q2041 hc63 rfl ⟨_, _, rfl, PH.Le.refl _, rfl, I297⟩
                  · intro vs267 f w275 S272 X258 le272 hA258 hK267 hI269
                    have I298 : Inv w275 S272 (X258) := hI269
                    have q2043 : f 82 = (Value.int .i64 (s2)) := ((hA258.2.2.2.2.2.2.2.2.2.1 _ rfl).1 _ rfl).trans (hA258.2.2.2.2.2.2.2.2.2.1 _ rfl).2
                    have q2044 : f 83 = (Value.bool (decide (s2 < 0))) := ((hA258.2.2.2.2.2.2.2.2.2.2.1 _ rfl).1 _ rfl).trans (hA258.2.2.2.2.2.2.2.2.2.2.1 _ rfl).2
                    have q2045 : f 84 = (Value.bool (decide (s2 < 0))) := ((hA258.2.2.2.2.2.2.2.2.2.2.2.1 _ rfl).1 _ rfl).trans (hA258.2.2.2.2.2.2.2.2.2.2.2.1 _ rfl).2
                    exact opg_skip (c := decide (s2 < 0)) rfl rfl rfl rfl q2045 hc63 rfl ⟨_, _, rfl, PH.Le.refl _, rfl, I298⟩
                  · intro vs268 f w276 S273 X259 le273 hA259 hK268 hI270
                    have I299 : Inv w276 S273 (X259) := hI270
                    have q2046 : f 82 = (Value.int .i64 (s2)) := ((hA259.2.2.2.2.2.2.2.2.2.1 _ rfl).1 _ rfl).trans (hA259.2.2.2.2.2.2.2.2.2.1 _ rfl).2
                    have q2047 : f 83 = (Value.bool (decide (s2 < 0))) := ((hA259.2.2.2.2.2.2.2.2.2.2.1 _ rfl).1 _ rfl).trans (hA259.2.2.2.2.2.2.2.2.2.2.1 _ rfl).2
                    have q2048 : f 84 = (Value.bool (decide (s2 < 0))) := ((hA259.2.2.2.2.2.2.2.2.2.2.2.1 _ rfl).1 _ rfl).trans (hA259.2.2.2.2.2.2.2.2.2.2.2.1 _ rfl).2
                    have q2049 : f 85 = undef := ((hA259.2.2.2.2.2.2.2.2.2.2.2.2.1 _ rfl).1 _ rfl).trans (hA259.2.2.2.2.2.2.2.2.2.2.2.2.1 _ rfl).2
                    have q2050 : f 86 = undef := ((hA259.2.2.2.2.2.2.2.2.2.2.2.2.2.1 _ rfl).1 _ rfl).trans (hA259.2.2.2.2.2.2.2.2.2.2.2.2.2.1 _ rfl).2
                    have q2051 : f 87 = undef := ((hA259.2.2.2.2.2.2.2.2.2.2.2.2.2.2.1 _ rfl).1 _ rfl).trans (hA259.2.2.2.2.2.2.2.2.2.2.2.2.2.2.1 _ rfl).2
                    exact opg_skip (c := decide (s2 < 0)) rfl rfl rfl rfl q2048 hc63 rfl ⟨_, _, rfl, PH.Le.refl _, rfl, I299⟩
                  · intro vs269 f w277 S274 X260 le274 hA260 hK269 hI271
                    have I300 : Inv w277 S274 (X260) := hI271
                    have q2052 : f 82 = (Value.int .i64 (s2)) := ((hA260.2.2.2.2.2.2.2.2.2.1 _ rfl).1 _ rfl).trans (hA260.2.2.2.2.2.2.2.2.2.1 _ rfl).2
                    have q2053 : f 83 = (Value.bool (decide (s2 < 0))) := ((hA260.2.2.2.2.2.2.2.2.2.2.1 _ rfl).1 _ rfl).trans (hA260.2.2.2.2.2.2.2.2.2.2.1 _ rfl).2
                    have q2054 : f 84 = (Value.bool (decide (s2 < 0))) := ((hA260.2.2.2.2.2.2.2.2.2.2.2.1 _ rfl).1 _ rfl).trans (hA260.2.2.2.2.2.2.2.2.2.2.2.1 _ rfl).2
                    have q2055 : f 85 = undef := ((hA260.2.2.2.2.2.2.2.2.2.2.2.2.1 _ rfl).1 _ rfl).trans (hA260.2.2.2.2.2.2.2.2.2.2.2.2.1 _ rfl).2
                    have q2056 : f 86 = undef := ((hA260.2.2.2.2.2.2.2.2.2.2.2.2.2.1 _ rfl).1 _ rfl).trans (hA260.2.2.2.2.2.2.2.2.2.2.2.2.2.1 _ rfl).2
                    have q2057 : f 87 = undef := ((hA260.2.2.2.2.2.2.2.2.2.2.2.2.2.2.1 _ rfl).1 _ rfl).trans (hA260.2.2.2.2.2.2.2.2.2.2.2.2.2.2.1 _ rfl).2
                    have q2058 : f 88 = undef := ((hA260.2.2.2.2.2.2.2.2.2.2.2.2.2.2.2.1 _ rfl).1 _ rfl).trans (hA260.2.2.2.2.2.2.2.2.2.2.2.2.2.2.2.1 _ rfl).2
                    exact opg_skip (c := decide (s2 < 0)) rfl rfl rfl rfl q2054 hc63 rfl ⟨_, _, rfl, PH.Le.refl _, rfl, I300⟩
                  · intro vs270 f w278 S275 X261 le275 hA261 hK270 hI272
                    have I301 : Inv w278 S275 (X261) := hI272
                    have q2059 : f 82 = (Value.int .i64 (s2)) := ((hA261.2.2.2.2.2.2.2.2.2.1 _ rfl).1 _ rfl).trans (hA261.2.2.2.2.2.2.2.2.2.1 _ rfl).2
                    have q2060 : f 83 = (Value.bool (decide (s2 < 0))) := ((hA261.2.2.2.2.2.2.2.2.2.2.1 _ rfl).1 _ rfl).trans (hA261.2.2.2.2.2.2.2.2.2.2.1 _ rfl).2
                    have q2061 : f 84 = (Value.bool (decide (s2 < 0))) := ((hA261.2.2.2.2.2.2.2.2.2.2.2.1 _ rfl).1 _ rfl).trans (hA261.2.2.2.2.2.2.2.2.2.2.2.1 _ rfl).2
                    have q2062 : f 85 = undef := ((hA261.2.2.2.2.2.2.2.2.2.2.2.2.1 _ rfl).1 _ rfl).trans (hA261.2.2.2.2.2.2.2.2.2.2.2.2.1 _ rfl).2
                    have q2063 : f 86 = undef := ((hA261.2.2.2.2.2.2.2.2.2.2.2.2.2.1 _ rfl).1 _ rfl).trans (hA261.2.2.2.2.2.2.2.2.2.2.2.2.2.1 _ rfl).2
                    have q2064 : f 87 = undef := ((hA261.2.2.2.2.2.2.2.2.2.2.2.2.2.2.1 _ rfl).1 _ rfl).trans (hA261.2.2.2.2.2.2.2.2.2.2.2.2.2.2.1 _ rfl).2
                    have q2065 : f 88 = undef := ((hA261.2.2.2.2.2.2.2.2.2.2.2.2.2.2.2.1 _ rfl).1 _ rfl).trans (hA261.2.2.2.2.2.2.2.2.2.2.2.2.2.2.2.1 _ rfl).2
                    have q2066 : f 89 = undef := ((hA261.2.2.2.2.2.2.2.2.2.2.2.2.2.2.2.2.1 _ rfl).1 _ rfl).trans (hA261.2.2.2.2.2.2.2.2.2.2.2.2.2.2.2.2.1 _ rfl).2
                    exact opg_skip (c := decide (s2 < 0)) rfl rfl rfl rfl q2061 hc63 rfl ⟨_, _, rfl, PH.Le.refl _, rfl, I301⟩
                  · intro vs271 f w279 S276 X262 le276 hA262 hK271 hI273
                    have I302 : Inv w279 S276 (X262) := hI273
                    have q2067 : f 82 = (Value.int .i64 (s2)) := ((hA262.2.2.2.2.2.2.2.2.2.1 _ rfl).1 _ rfl).trans (hA262.2.2.2.2.2.2.2.2.2.1 _ rfl).2
                    have q2068 : f 83 = (Value.bool (decide (s2 < 0))) := ((hA262.2.2.2.2.2.2.2.2.2.2.1 _ rfl).1 _ rfl).trans (hA262.2.2.2.2.2.2.2.2.2.2.1 _ rfl).2
                    have q2069 : f 84 = (Value.bool (decide (s2 < 0))) := ((hA262.2.2.2.2.2.2.2.2.2.2.2.1 _ rfl).1 _ rfl).trans (hA262.2.2.2.2.2.2.2.2.2.2.2.1 _ rfl).2
                    exact opg_skip (c := decide (s2 < 0)) rfl rfl rfl rfl q2069 hc63 rfl ⟨_, _, rfl, PH.Le.refl _, rfl, I302⟩
                  · intro vs272 f w280 S277 X263 le277 hA263 hK272 hI274
                    have I303 : Inv w280 S277 (X263) := hI274
                    have q2070 : f 82 = (Value.int .i64 (s2)) := ((hA263.2.2.2.2.2.2.2.2.2.1 _ rfl).1 _ rfl).trans (hA263.2.2.2.2.2.2.2.2.2.1 _ rfl).2
                    have q2071 : f 83 = (Value.bool (decide (s2 < 0))) := ((hA263.2.2.2.2.2.2.2.2.2.2.1 _ rfl).1 _ rfl).trans (hA263.2.2.2.2.2.2.2.2.2.2.1 _ rfl).2
                    have q2072 : f 84 = (Value.bool (decide (s2 < 0))) := ((hA263.2.2.2.2.2.2.2.2.2.2.2.1 _ rfl).1 _ rfl).trans (hA263.2.2.2.2.2.2.2.2.2.2.2.1 _ rfl).2
                    have q2073 : f 91 = undef := ((hA263.2.2.2.2.2.2.2.2.2.2.2.2.1 _ rfl).1 _ rfl).trans (hA263.2.2.2.2.2.2.2.2.2.2.2.2.1 _ rfl).2
                    exact opg_skip (c := decide (s2 < 0)) rfl rfl rfl rfl q2072 hc63 rfl ⟨_, _, rfl, PH.Le.refl _, rfl, I303⟩
                  · intro vs273 f w281 S278 X264 le278 hA264 hK273 hI275
                    have I304 : Inv w281 S278 (X264) := hI275
                    have q2074 : f 82 = (Value.int .i64 (s2)) := ((hA264.2.2.2.2.2.2.2.2.2.1 _ rfl).1 _ rfl).trans (hA264.2.2.2.2.2.2.2.2.2.1 _ rfl).2
                    have q2075 : f 83 = (Value.bool (decide (s2 < 0))) := ((hA264.2.2.2.2.2.2.2.2.2.2.1 _ rfl).1 _ rfl).trans (hA264.2.2.2.2.2.2.2.2.2.2.1 _ rfl).2
                    have q2076 : f 84 = (Value.bool (decide (s2 < 0))) := ((hA264.2.2.2.2.2.2.2.2.2.2.2.1 _ rfl).1 _ rfl).trans (hA264.2.2.2.2.2.2.2.2.2.2.2.1 _ rfl).2
                    exact opg_skip (c := decide (s2 < 0)) rfl rfl rfl rfl q2076 hc63 rfl ⟨_, _, rfl, PH.Le.refl _, rfl, I304⟩
                  · intro vs274 f w282 S279 X265 le279 hA265 hK274 hI276
                    have I305 : Inv w282 S279 (X265) := hI276
                    have q2077 : f 82 = (Value.int .i64 (s2)) := ((hA265.2.2.2.2.2.2.2.2.2.1 _ rfl).1 _ rfl).trans (hA265.2.2.2.2.2.2.2.2.2.1 _ rfl).2
                    have q2078 : f 83 = (Value.bool (decide (s2 < 0))) := ((hA265.2.2.2.2.2.2.2.2.2.2.1 _ rfl).1 _ rfl).trans (hA265.2.2.2.2.2.2.2.2.2.2.1 _ rfl).2
                    have q2079 : f 84 = (Value.bool (decide (s2 < 0))) := ((hA265.2.2.2.2.2.2.2.2.2.2.2.1 _ rfl).1 _ rfl).trans (hA265.2.2.2.2.2.2.2.2.2.2.2.1 _ rfl).2
                    have q2080 : f 91 = undef := ((hA265.2.2.2.2.2.2.2.2.2.2.2.2.1 _ rfl).1 _ rfl).trans (hA265.2.2.2.2.2.2.2.2.2.2.2.2.1 _ rfl).2
                    have q2081 : f 92 = undef := ((hA265.2.2.2.2.2.2.2.2.2.2.2.2.2.1 _ rfl).1 _ rfl).trans (hA265.2.2.2.2.2.2.2.2.2.2.2.2.2.1 _ rfl).2
                    have q2082 : f 93 = undef := ((hA265.2.2.2.2.2.2.2.2.2.2.2.2.2.2.1 _ rfl).1 _ rfl).trans (hA265.2.2.2.2.2.2.2.2.2.2.2.2.2.2.1 _ rfl).2
                    exact opg_skip (c := decide (s2 < 0)) rfl rfl rfl rfl q2079 hc63 rfl ⟨_, _, rfl, PH.Le.refl _, rfl, I305⟩
                  · intro vs275 f w283 S280 X266 le280 hA266 hK275 hI277
                    have I306 : Inv w283 S280 (X266) := hI277
                    have q2083 : f 82 = (Value.int .i64 (s2)) := ((hA266.2.2.2.2.2.2.2.2.2.1 _ rfl).1 _ rfl).trans (hA266.2.2.2.2.2.2.2.2.2.1 _ rfl).2
                    have q2084 : f 83 = (Value.bool (decide (s2 < 0))) := ((hA266.2.2.2.2.2.2.2.2.2.2.1 _ rfl).1 _ rfl).trans (hA266.2.2.2.2.2.2.2.2.2.2.1 _ rfl).2
                    have q2085 : f 84 = (Value.bool (decide (s2 < 0))) := ((hA266.2.2.2.2.2.2.2.2.2.2.2.1 _ rfl).1 _ rfl).trans (hA266.2.2.2.2.2.2.2.2.2.2.2.1 _ rfl).2
                    have q2086 : f 91 = undef := ((hA266.2.2.2.2.2.2.2.2.2.2.2.2.1 _ rfl).1 _ rfl).trans (hA266.2.2.2.2.2.2.2.2.2.2.2.2.1 _ rfl).2
                    have q2087 : f 92 = undef := ((hA266.2.2.2.2.2.2.2.2.2.2.2.2.2.1 _ rfl).1 _ rfl).trans (hA266.2.2.2.2.2.2.2.2.2.2.2.2.2.1 _ rfl).2
                    have q2088 : f 93 = undef := ((hA266.2.2.2.2.2.2.2.2.2.2.2.2.2.2.1 _ rfl).1 _ rfl).trans (hA266.2.2.2.2.2.2.2.2.2.2.2.2.2.2.1 _ rfl).2
                    have q2089 : f 94 = undef := ((hA266.2.2.2.2.2.2.2.2.2.2.2.2.2.2.2.1 _ rfl).1 _ rfl).trans (hA266.2.2.2.2.2.2.2.2.2.2.2.2.2.2.2.1 _ rfl).2
                    exact opg_skip (c := decide (s2 < 0)) rfl rfl rfl rfl q2085 hc63 rfl ⟨_, _, rfl, PH.Le.refl _, rfl, I306⟩
                  · intro vs276 f w284 S281 X267 le281 hA267 hK276 hI278
                    have I307 : Inv w284 S281 (X267) := hI278
                    have q2090 : f 82 = (Value.int .i64 (s2)) := ((hA267.2.2.2.2.2.2.2.2.2.1 _ rfl).1 _ rfl).trans (hA267.2.2.2.2.2.2.2.2.2.1 _ rfl).2
                    have q2091 : f 83 = (Value.bool (decide (s2 < 0))) := ((hA267.2.2.2.2.2.2.2.2.2.2.1 _ rfl).1 _ rfl).trans (hA267.2.2.2.2.2.2.2.2.2.2.1 _ rfl).2
                    have q2092 : f 84 = (Value.bool (decide (s2 < 0))) := ((hA267.2.2.2.2.2.2.2.2.2.2.2.1 _ rfl).1 _ rfl).trans (hA267.2.2.2.2.2.2.2.2.2.2.2.1 _ rfl).2
                    have q2093 : f 91 = undef := ((hA267.2.2.2.2.2.2.2.2.2.2.2.2.1 _ rfl).1 _ rfl).trans (hA267.2.2.2.2.2.2.2.2.2.2.2.2.1 _ rfl).2
                    have q2094 : f 92 = undef := ((hA267.2.2.2.2.2.2.2.2.2.2.2.2.2.1 _ rfl).1 _ rfl).trans (hA267.2.2.2.2.2.2.2.2.2.2.2.2.2.1 _ rfl).2
                    have q2095 : f 93 = undef := ((hA267.2.2.2.2.2.2.2.2.2.2.2.2.2.2.1 _ rfl).1 _ rfl).trans (hA267.2.2.2.2.2.2.2.2.2.2.2.2.2.2.1 _ rfl).2
                    have q2096 : f 94 = undef := ((hA267.2.2.2.2.2.2.2.2.2.2.2.2.2.2.2.1 _ rfl).1 _ rfl).trans (hA267.2.2.2.2.2.2.2.2.2.2.2.2.2.2.2.1 _ rfl).2
                    have q2097 : f 95 = undef := ((hA267.2.2.2.2.2.2.2.2.2.2.2.2.2.2.2.2.1 _ rfl).1 _ rfl).trans (hA267.2.2.2.2.2.2.2.2.2.2.2.2.2.2.2.2.1 _ rfl).2
                    exact opg_skip (c := decide (s2 < 0)) rfl rfl rfl rfl q2092 hc63 rfl ⟨_, _, rfl, PH.Le.refl _, rfl, I307⟩
                  · intro vs277 f w285 S282 X268 le282 hA268 hK277 hI279
                    have I308 : Inv w285 S282 (X268) := hI279
                    have q2098 : f 82 = (Value.int .i64 (s2)) := ((hA268.2.2.2.2.2.2.2.2.2.1 _ rfl).1 _ rfl).trans (hA268.2.2.2.2.2.2.2.2.2.1 _ rfl).2
                    have q2099 : f 83 = (Value.bool (decide (s2 < 0))) := ((hA268.2.2.2.2.2.2.2.2.2.2.1 _ rfl).1 _ rfl).trans (hA268.2.2.2.2.2.2.2.2.2.2.1 _ rfl).2
                    have q2100 : f 84 = (Value.bool (decide (s2 < 0))) := ((hA268.2.2.2.2.2.2.2.2.2.2.2.1 _ rfl).1 _ rfl).trans (hA268.2.2.2.2.2.2.2.2.2.2.2.1 _ rfl).2
                    have q2101 : f 85 = undef := ((hA268.2.2.2.2.2.2.2.2.2.2.2.2.1 _ rfl).1 _ rfl).trans (hA268.2.2.2.2.2.2.2.2.2.2.2.2.1 _ rfl).2
                    have q2102 : f 86 = undef := ((hA268.2.2.2.2.2.2.2.2.2.2.2.2.2.1 _ rfl).1 _ rfl).trans (hA268.2.2.2.2.2.2.2.2.2.2.2.2.2.1 _ rfl).2
                    have q2103 : f 87 = undef := ((hA268.2.2.2.2.2.2.2.2.2.2.2.2.2.2.1 _ rfl).1 _ rfl).trans (hA268.2.2.2.2.2.2.2.2.2.2.2.2.2.2.1 _ rfl).2
                    have q2104 : f 88 = undef := ((hA268.2.2.2.2.2.2.2.2.2.2.2.2.2.2.2.1 _ rfl).1 _ rfl).trans (hA268.2.2.2.2.2.2.2.2.2.2.2.2.2.2.2.1 _ rfl).2
                    have q2105 : f 89 = undef := ((hA268.2.2.2.2.2.2.2.2.2.2.2.2.2.2.2.2.1 _ rfl).1 _ rfl).trans (hA268.2.2.2.2.2.2.2.2.2.2.2.2.2.2.2.2.1 _ rfl).2
                    have q2106 : f 90 = undef := ((hA268.2.2.2.2.2.2.2.2.2.2.2.2.2.2.2.2.2.1 _ rfl).1 _ rfl).trans (hA268.2.2.2.2.2.2.2.2.2.2.2.2.2.2.2.2.2.1 _ rfl).2
                    have q2107 : f 91 = undef := ((hA268.2.2.2.2.2.2.2.2.2.2.2.2.2.2.2.2.2.2.1 _ rfl).1 _ rfl).trans (hA268.2.2.2.2.2.2.2.2.2.2.2.2.2.2.2.2.2.2.1 _ rfl).2
                    have q2108 : f 92 = undef := ((hA268.2.2.2.2.2.2.2.2.2.2.2.2.2.2.2.2.2.2.2.1 _ rfl).1 _ rfl).trans (hA268.2.2.2.2.2.2.2.2.2.2.2.2.2.2.2.2.2.2.2.1 _ rfl).2
                    have q2109 : f 93 = undef := ((hA268.2.2.2.2.2.2.2.2.2.2.2.2.2.2.2.2.2.2.2.2.1 _ rfl).1 _ rfl).trans (hA268.2.2.2.2.2.2.2.2.2.2.2.2.2.2.2.2.2.2.2.2.1 _ rfl).2
                    have q2110 : f 94 = undef := ((hA268.2.2.2.2.2.2.2.2.2.2.2.2.2.2.2.2.2.2.2.2.2.1 _ rfl).1 _ rfl).trans (hA268.2.2.2.2.2.2.2.2.2.2.2.2.2.2.2.2.2.2.2.2.2.1 _ rfl).2
                    have q2111 : f 95 = undef := ((hA268.2.2.2.2.2.2.2.2.2.2.2.2.2.2.2.2.2.2.2.2.2.2.1 _ rfl).1 _ rfl).trans (hA268.2.2.2.2.2.2.2.2.2.2.2.2.2.2.2.2.2.2.2.2.2.2.1 _ rfl).2
                    have q2112 : f 96 = undef := ((hA268.2.2.2.2.2.2.2.2.2.2.2.2.2.2.2.2.2.2.2.2.2.2.2.1 _ rfl).1 _ rfl).trans (hA268.2.2.2.2.2.2.2.2.2.2.2.2.2.2.2.2.2.2.2.2.2.2.2.1 _ rfl).2
                    exact opg_skip (c := decide (s2 < 0)) rfl rfl rfl rfl q2100 hc63 rfl ⟨_, _, rfl, PH.Le.refl _, rfl, I308⟩
                  · intro vs278 f w286 S283 X269 le283 hA269 hK278 hI280
                    have I309 : Inv w286 S283 (X269) := hI280
                    have q2113 : f 73 = (fieldPtr (Value.pointer (some ⟨g1, 0, none⟩)) 1) := ((hA269.1 _ rfl).1 _ rfl).trans (hA269.1 _ rfl).2
                    have q2114 : f 74 = vs278 1 := (hA269.2.1 _ rfl).1 _ rfl
                    have r250 : RV S283 (vs278 1) a0.Doors := (hA269.2.1 _ rfl).2
                    obtain ⟨u327, hu327⟩ : ∃ u, vs278 1 = u := ⟨_, rfl⟩
                    rw [hu327] at q2114 r250
                    obtain ⟨z288, m288, k288, e425⟩ := rv_form r250
                    subst e425
                    have q2115 : f 75 = (Value.int .i64 ((i1 : Int))) := ((hA269.2.2.1 _ rfl).1 _ rfl).trans (hA269.2.2.1 _ rfl).2
                    have q2116 : f 76 = (elemPtr (vs278 1) ((i1 : Int)) (Enc.sz Gate)) := ((hA269.2.2.2.1 _ rfl).1 _ rfl).trans (hA269.2.2.2.1 _ rfl).2
                    simp only [hu327] at q2116
                    have q2116 : f 76 = (elemPtr (Value.slice z288 m288 k288) ((i1 : Int)) (Enc.sz Gate)) := q2116
                    have q2117 : f 77 = (fieldPtr (elemPtr (vs278 1) ((i1 : Int)) (Enc.sz Gate)) 1) := ((hA269.2.2.2.2.1 _ rfl).1 _ rfl).trans (hA269.2.2.2.2.1 _ rfl).2
                    simp only [hu327] at q2117
                    have q2117 : f 77 = (fieldPtr (elemPtr (Value.slice z288 m288 k288) ((i1 : Int)) (Enc.sz Gate)) 1) := q2117
                    have q2118 : f 78 = vs278 5 := (hA269.2.2.2.2.2.1 _ rfl).1 _ rfl
                    have r251 : RV S283 (vs278 5) x21.When := (hA269.2.2.2.2.2.1 _ rfl).2
                    obtain ⟨u328, hu328⟩ : ∃ u, vs278 5 = u := ⟨_, rfl⟩
                    rw [hu328] at q2118 r251
                    obtain ⟨z289, m289, k289, e426⟩ := rv_form r251
                    subst e426
                    have q2119 : f 79 = (Value.int .i64 ((x21.When.length : Int))) := ((hA269.2.2.2.2.2.2.1 _ rfl).1 _ rfl).trans (hA269.2.2.2.2.2.2.1 _ rfl).2
                    have q2120 : f 80 = (Value.bool (decide (0 < (x21.When.length : Int)))) := ((hA269.2.2.2.2.2.2.2.1 _ rfl).1 _ rfl).trans (hA269.2.2.2.2.2.2.2.1 _ rfl).2
                    have q2121 : f 81 = (Value.bool (decide (0 < (x21.When.length : Int)))) := ((hA269.2.2.2.2.2.2.2.2.1 _ rfl).1 _ rfl).trans (hA269.2.2.2.2.2.2.2.2.1 _ rfl).2
                    have q2122 : f 82 = (Value.int .i64 (s2)) := ((hA269.2.2.2.2.2.2.2.2.2.1 _ rfl).1 _ rfl).trans (hA269.2.2.2.2.2.2.2.2.2.1 _ rfl).2
                    have q2123 : f 83 = (Value.bool (decide (s2 < 0))) := ((hA269.2.2.2.2.2.2.2.2.2.2.1 _ rfl).1 _ rfl).trans (hA269.2.2.2.2.2.2.2.2.2.2.1 _ rfl).2
                    have q2124 : f 84 = (Value.bool (decide (s2 < 0))) := ((hA269.2.2.2.2.2.2.2.2.2.2.2.1 _ rfl).1 _ rfl).trans (hA269.2.2.2.2.2.2.2.2.2.2.2.1 _ rfl).2
                    have q2125 : f 85 = undef := ((hA269.2.2.2.2.2.2.2.2.2.2.2.2.1 _ rfl).1 _ rfl).trans (hA269.2.2.2.2.2.2.2.2.2.2.2.2.1 _ rfl).2
                    have q2126 : f 86 = undef := ((hA269.2.2.2.2.2.2.2.2.2.2.2.2.2.1 _ rfl).1 _ rfl).trans (hA269.2.2.2.2.2.2.2.2.2.2.2.2.2.1 _ rfl).2
                    have q2127 : f 87 = undef := ((hA269.2.2.2.2.2.2.2.2.2.2.2.2.2.2.1 _ rfl).1 _ rfl).trans (hA269.2.2.2.2.2.2.2.2.2.2.2.2.2.2.1 _ rfl).2
                    have q2128 : f 88 = undef := ((hA269.2.2.2.2.2.2.2.2.2.2.2.2.2.2.2.1 _ rfl).1 _ rfl).trans (hA269.2.2.2.2.2.2.2.2.2.2.2.2.2.2.2.1 _ rfl).2
                    have q2129 : f 89 = undef := ((hA269.2.2.2.2.2.2.2.2.2.2.2.2.2.2.2.2.1 _ rfl).1 _ rfl).trans (hA269.2.2.2.2.2.2.2.2.2.2.2.2.2.2.2.2.1 _ rfl).2
                    have q2130 : f 90 = undef := ((hA269.2.2.2.2.2.2.2.2.2.2.2.2.2.2.2.2.2.1 _ rfl).1 _ rfl).trans (hA269.2.2.2.2.2.2.2.2.2.2.2.2.2.2.2.2.2.1 _ rfl).2
                    have q2131 : f 91 = undef := ((hA269.2.2.2.2.2.2.2.2.2.2.2.2.2.2.2.2.2.2.1 _ rfl).1 _ rfl).trans (hA269.2.2.2.2.2.2.2.2.2.2.2.2.2.2.2.2.2.2.1 _ rfl).2
                    have q2132 : f 92 = undef := ((hA269.2.2.2.2.2.2.2.2.2.2.2.2.2.2.2.2.2.2.2.1 _ rfl).1 _ rfl).trans (hA269.2.2.2.2.2.2.2.2.2.2.2.2.2.2.2.2.2.2.2.1 _ rfl).2
                    have q2133 : f 93 = undef := ((hA269.2.2.2.2.2.2.2.2.2.2.2.2.2.2.2.2.2.2.2.2.1 _ rfl).1 _ rfl).trans (hA269.2.2.2.2.2.2.2.2.2.2.2.2.2.2.2.2.2.2.2.2.1 _ rfl).2
                    have q2134 : f 94 = undef := ((hA269.2.2.2.2.2.2.2.2.2.2.2.2.2.2.2.2.2.2.2.2.2.1 _ rfl).1 _ rfl).trans (hA269.2.2.2.2.2.2.2.2.2.2.2.2.2.2.2.2.2.2.2.2.2.1 _ rfl).2
                    have q2135 : f 95 = undef := ((hA269.2.2.2.2.2.2.2.2.2.2.2.2.2.2.2.2.2.2.2.2.2.2.1 _ rfl).1 _ rfl).trans (hA269.2.2.2.2.2.2.2.2.2.2.2.2.2.2.2.2.2.2.2.2.2.2.1 _ rfl).2
                    have q2136 : f 96 = undef := ((hA269.2.2.2.2.2.2.2.2.2.2.2.2.2.2.2.2.2.2.2.2.2.2.2.1 _ rfl).1 _ rfl).trans (hA269.2.2.2.2.2.2.2.2.2.2.2.2.2.2.2.2.2.2.2.2.2.2.2.1 _ rfl).2
                    have q2137 : f 97 = undef := ((hA269.2.2.2.2.2.2.2.2.2.2.2.2.2.2.2.2.2.2.2.2.2.2.2.2.1 _ rfl).1 _ rfl).trans (hA269.2.2.2.2.2.2.2.2.2.2.2.2.2.2.2.2.2.2.2.2.2.2.2.2.1 _ rfl).2
                    refine opg_taken (c := decide (0 < (x21.When.length : Int))) rfl rfl rfl rfl q2121 hc62 (op_pick_t (c := decide (s2 < 0)) (a := (Value.bool (true))) rfl q2124 hc63 rfl ?_)
                    refine ⟨_, _, rfl, PH.Le.refl _, ?_, ?_⟩
                    · exact rfl
                    · exact I309
                  · intro vs279 f w287 S284 X270 le284 hA270 hK279 hI281
                    have I310 : Inv w287 S284 (X270) := hI281
                    have q2138 : f 73 = (fieldPtr (Value.pointer (some ⟨g1, 0, none⟩)) 1) := ((hA270.1 _ rfl).1 _ rfl).trans (hA270.1 _ rfl).2
                    have q2139 : f 74 = vs279 1 := (hA270.2.1 _ rfl).1 _ rfl
                    have r252 : RV S284 (vs279 1) a0.Doors := (hA270.2.1 _ rfl).2
                    obtain ⟨u329, hu329⟩ : ∃ u, vs279 1 = u := ⟨_, rfl⟩
                    rw [hu329] at q2139 r252
                    obtain ⟨z290, m290, k290, e427⟩ := rv_form r252
                    subst e427
                    have q2140 : f 75 = (Value.int .i64 ((i1 : Int))) := ((hA270.2.2.1 _ rfl).1 _ rfl).trans (hA270.2.2.1 _ rfl).2
                    have q2141 : f 76 = (elemPtr (vs279 1) ((i1 : Int)) (Enc.sz Gate)) := ((hA270.2.2.2.1 _ rfl).1 _ rfl).trans (hA270.2.2.2.1 _ rfl).2
                    simp only [hu329] at q2141
                    have q2141 : f 76 = (elemPtr (Value.slice z290 m290 k290) ((i1 : Int)) (Enc.sz Gate)) := q2141
                    have q2142 : f 77 = (fieldPtr (elemPtr (vs279 1) ((i1 : Int)) (Enc.sz Gate)) 1) := ((hA270.2.2.2.2.1 _ rfl).1 _ rfl).trans (hA270.2.2.2.2.1 _ rfl).2
                    simp only [hu329] at q2142
                    have q2142 : f 77 = (fieldPtr (elemPtr (Value.slice z290 m290 k290) ((i1 : Int)) (Enc.sz Gate)) 1) := q2142
                    have q2143 : f 78 = vs279 5 := (hA270.2.2.2.2.2.1 _ rfl).1 _ rfl
                    have r253 : RV S284 (vs279 5) x21.When := (hA270.2.2.2.2.2.1 _ rfl).2
                    obtain ⟨u330, hu330⟩ : ∃ u, vs279 5 = u := ⟨_, rfl⟩
                    rw [hu330] at q2143 r253
                    obtain ⟨z291, m291, k291, e428⟩ := rv_form r253
                    subst e428
                    have q2144 : f 79 = (Value.int .i64 ((x21.When.length : Int))) := ((hA270.2.2.2.2.2.2.1 _ rfl).1 _ rfl).trans (hA270.2.2.2.2.2.2.1 _ rfl).2
                    have q2145 : f 80 = (Value.bool (decide (0 < (x21.When.length : Int)))) := ((hA270.2.2.2.2.2.2.2.1 _ rfl).1 _ rfl).trans (hA270.2.2.2.2.2.2.2.1 _ rfl).2
                    have q2146 : f 81 = (Value.bool (decide (0 < (x21.When.length : Int)))) := ((hA270.2.2.2.2.2.2.2.2.1 _ rfl).1 _ rfl).trans (hA270.2.2.2.2.2.2.2.2.1 _ rfl).2
                    have q2147 : f 82 = (Value.int .i64 (s2)) := ((hA270.2.2.2.2.2.2.2.2.2.1 _ rfl).1 _ rfl).trans (hA270.2.2.2.2.2.2.2.2.2.1 _ rfl).2
                    have q2148 : f 83 = (Value.bool (decide (s2 < 0))) := ((hA270.2.2.2.2.2.2.2.2.2.2.1 _ rfl).1 _ rfl).trans (hA270.2.2.2.2.2.2.2.2.2.2.1 _ rfl).2
                    have q2149 : f 84 = (Value.bool (decide (s2 < 0))) := ((hA270.2.2.2.2.2.2.2.2.2.2.2.1 _ rfl).1 _ rfl).trans (hA270.2.2.2.2.2.2.2.2.2.2.2.1 _ rfl).2
                    have q2150 : f 85 = undef := ((hA270.2.2.2.2.2.2.2.2.2.2.2.2.1 _ rfl).1 _ rfl).trans (hA270.2.2.2.2.2.2.2.2.2.2.2.2.1 _ rfl).2
                    have q2151 : f 86 = undef := ((hA270.2.2.2.2.2.2.2.2.2.2.2.2.2.1 _ rfl).1 _ rfl).trans (hA270.2.2.2.2.2.2.2.2.2.2.2.2.2.1 _ rfl).2
                    have q2152 : f 87 = undef := ((hA270.2.2.2.2.2.2.2.2.2.2.2.2.2.2.1 _ rfl).1 _ rfl).trans (hA270.2.2.2.2.2.2.2.2.2.2.2.2.2.2.1 _ rfl).2
                    have q2153 : f 88 = undef := ((hA270.2.2.2.2.2.2.2.2.2.2.2.2.2.2.2.1 _ rfl).1 _ rfl).trans (hA270.2.2.2.2.2.2.2.2.2.2.2.2.2.2.2.1 _ rfl).2
                    have q2154 : f 89 = undef := ((hA270.2.2.2.2.2.2.2.2.2.2.2.2.2.2.2.2.1 _ rfl).1 _ rfl).trans (hA270.2.2.2.2.2.2.2.2.2.2.2.2.2.2.2.2.1 _ rfl).2
                    have q2155 : f 90 = undef := ((hA270.2.2.2.2.2.2.2.2.2.2.2.2.2.2.2.2.2.1 _ rfl).1 _ rfl).trans (hA270.2.2.2.2.2.2.2.2.2.2.2.2.2.2.2.2.2.1 _ rfl).2
                    have q2156 : f 91 = undef := ((hA270.2.2.2.2.2.2.2.2.2.2.2.2.2.2.2.2.2.2.1 _ rfl).1 _ rfl).trans (hA270.2.2.2.2.2.2.2.2.2.2.2.2.2.2.2.2.2.2.1 _ rfl).2
                    have q2157 : f 92 = undef := ((hA270.2.2.2.2.2.2.2.2.2.2.2.2.2.2.2.2.2.2.2.1 _ rfl).1 _ rfl).trans (hA270.2.2.2.2.2.2.2.2.2.2.2.2.2.2.2.2.2.2.2.1 _ rfl).2
                    have q2158 : f 93 = undef := ((hA270.2.2.2.2.2.2.2.2.2.2.2.2.2.2.2.2.2.2.2.2.1 _ rfl).1 _ rfl).trans (hA270.2.2.2.2.2.2.2.2.2.2.2.2.2.2.2.2.2.2.2.2.1 _ rfl).2
                    have q2159 : f 94 = undef := ((hA270.2.2.2.2.2.2.2.2.2.2.2.2.2.2.2.2.2.2.2.2.2.1 _ rfl).1 _ rfl).trans (hA270.2.2.2.2.2.2.2.2.2.2.2.2.2.2.2.2.2.2.2.2.2.1 _ rfl).2
                    have q2160 : f 95 = undef := ((hA270.2.2.2.2.2.2.2.2.2.2.2.2.2.2.2.2.2.2.2.2.2.2.1 _ rfl).1 _ rfl).trans (hA270.2.2.2.2.2.2.2.2.2.2.2.2.2.2.2.2.2.2.2.2.2.2.1 _ rfl).2
                    have q2161 : f 96 = undef := ((hA270.2.2.2.2.2.2.2.2.2.2.2.2.2.2.2.2.2.2.2.2.2.2.2.1 _ rfl).1 _ rfl).trans (hA270.2.2.2.2.2.2.2.2.2.2.2.2.2.2.2.2.2.2.2.2.2.2.2.1 _ rfl).2
                    have q2162 : f 97 = undef := ((hA270.2.2.2.2.2.2.2.2.2.2.2.2.2.2.2.2.2.2.2.2.2.2.2.2.1 _ rfl).1 _ rfl).trans (hA270.2.2.2.2.2.2.2.2.2.2.2.2.2.2.2.2.2.2.2.2.2.2.2.2.1 _ rfl).2
                    have q2163 : f 98 = (Value.bool (true)) := ((hA270.2.2.2.2.2.2.2.2.2.2.2.2.2.2.2.2.2.2.2.2.2.2.2.2.2.1 _ rfl).1 _ rfl).trans (hA270.2.2.2.2.2.2.2.2.2.2.2.2.2.2.2.2.2.2.2.2.2.2.2.2.2.1 _ rfl).2
                    refine opg_plain rfl rfl (op_pick_t (c := decide (0 < (x21.When.length : Int))) (a := (Value.bool (true))) rfl q2146 hc62 q2163 ?_)
                    refine ⟨_, _, rfl, PH.Le.refl _, ?_, ?_⟩
                    · exact rfl
                    · exact I310
                  · intro vs280 f w288 S285 le285 hF10 hK280 hI282
                    have e429 : f 3 = (Value.pointer (some ⟨g1, 0, none⟩)) := (hK280 3 (keep_all rfl)).trans e402
                    have e430 : f 7 = (Value.int .i64 (x3.1)) := (hK280 7 (keep_all rfl)).trans e403
                    have e431 : f 11 = (Value.int .i64 (s2)) := (hK280 11 (keep_all rfl)).trans e404
                    have e432 : f 12 = (Value.int .i64 ((i1 : Int))) := (hK280 12 (keep_all rfl)).trans e405
                    have I311 : Inv w288 S285 (Fr) := hI282
                    have q2164 : f 73 = (fieldPtr (Value.pointer (some ⟨g1, 0, none⟩)) 1) := ((hF10.1 _ rfl).1 _ rfl).trans (hF10.1 _ rfl).2
                    have q2165 : f 74 = vs280 1 := (hF10.2.1 _ rfl).1 _ rfl
                    have r254 : RV S285 (vs280 1) a0.Doors := (hF10.2.1 _ rfl).2
                    obtain ⟨u331, hu331⟩ : ∃ u, vs280 1 = u := ⟨_, rfl⟩
                    rw [hu331] at q2165 r254
                    obtain ⟨z292, m292, k292, e433⟩ := rv_form r254
                    subst e433
                    have q2166 : f 75 = (Value.int .i64 ((i1 : Int))) := ((hF10.2.2.1 _ rfl).1 _ rfl).trans (hF10.2.2.1 _ rfl).2
                    have q2167 : f 76 = (elemPtr (vs280 1) ((i1 : Int)) (Enc.sz Gate)) := ((hF10.2.2.2.1 _ rfl).1 _ rfl).trans (hF10.2.2.2.1 _ rfl).2
                    simp only [hu331] at q2167
                    have q2167 : f 76 = (elemPtr (Value.slice z292 m292 k292) ((i1 : Int)) (Enc.sz Gate)) := q2167
                    have q2168 : f 77 = (fieldPtr (elemPtr (vs280 1) ((i1 : Int)) (Enc.sz Gate)) 1) := ((hF10.2.2.2.2.1 _ rfl).1 _ rfl).trans (hF10.2.2.2.2.1 _ rfl).2
                    simp only [hu331] at q2168
                    have q2168 : f 77 = (fieldPtr (elemPtr (Value.slice z292 m292 k292) ((i1 : Int)) (Enc.sz Gate)) 1) := q2168
                    have q2169 : f 78 = vs280 5 := (hF10.2.2.2.2.2.1 _ rfl).1 _ rfl
                    have r255 : RV S285 (vs280 5) x21.When := (hF10.2.2.2.2.2.1 _ rfl).2
                    obtain ⟨u332, hu332⟩ : ∃ u, vs280 5 = u := ⟨_, rfl⟩
                    rw [hu332] at q2169 r255
                    obtain ⟨z293, m293, k293, e434⟩ := rv_form r255
                    subst e434
                    have q2170 : f 79 = (Value.int .i64 ((x21.When.length : Int))) := ((hF10.2.2.2.2.2.2.1 _ rfl).1 _ rfl).trans (hF10.2.2.2.2.2.2.1 _ rfl).2
                    have q2171 : f 80 = (Value.bool (decide (0 < (x21.When.length : Int)))) := ((hF10.2.2.2.2.2.2.2.1 _ rfl).1 _ rfl).trans (hF10.2.2.2.2.2.2.2.1 _ rfl).2
                    have q2172 : f 81 = (Value.bool (decide (0 < (x21.When.length : Int)))) := ((hF10.2.2.2.2.2.2.2.2.1 _ rfl).1 _ rfl).trans (hF10.2.2.2.2.2.2.2.2.1 _ rfl).2
                    have q2173 : f 82 = (Value.int .i64 (s2)) := ((hF10.2.2.2.2.2.2.2.2.2.1 _ rfl).1 _ rfl).trans (hF10.2.2.2.2.2.2.2.2.2.1 _ rfl).2
                    have q2174 : f 83 = (Value.bool (decide (s2 < 0))) := ((hF10.2.2.2.2.2.2.2.2.2.2.1 _ rfl).1 _ rfl).trans (hF10.2.2.2.2.2.2.2.2.2.2.1 _ rfl).2
                    have q2175 : f 84 = (Value.bool (decide (s2 < 0))) := ((hF10.2.2.2.2.2.2.2.2.2.2.2.1 _ rfl).1 _ rfl).trans (hF10.2.2.2.2.2.2.2.2.2.2.2.1 _ rfl).2
                    have q2176 : f 85 = undef := ((hF10.2.2.2.2.2.2.2.2.2.2.2.2.1 _ rfl).1 _ rfl).trans (hF10.2.2.2.2.2.2.2.2.2.2.2.2.1 _ rfl).2
                    have q2177 : f 86 = undef := ((hF10.2.2.2.2.2.2.2.2.2.2.2.2.2.1 _ rfl).1 _ rfl).trans (hF10.2.2.2.2.2.2.2.2.2.2.2.2.2.1 _ rfl).2
                    have q2178 : f 87 = undef := ((hF10.2.2.2.2.2.2.2.2.2.2.2.2.2.2.1 _ rfl).1 _ rfl).trans (hF10.2.2.2.2.2.2.2.2.2.2.2.2.2.2.1 _ rfl).2
                    have q2179 : f 88 = undef := ((hF10.2.2.2.2.2.2.2.2.2.2.2.2.2.2.2.1 _ rfl).1 _ rfl).trans (hF10.2.2.2.2.2.2.2.2.2.2.2.2.2.2.2.1 _ rfl).2
                    have q2180 : f 89 = undef := ((hF10.2.2.2.2.2.2.2.2.2.2.2.2.2.2.2.2.1 _ rfl).1 _ rfl).trans (hF10.2.2.2.2.2.2.2.2.2.2.2.2.2.2.2.2.1 _ rfl).2
                    have q2181 : f 90 = undef := ((hF10.2.2.2.2.2.2.2.2.2.2.2.2.2.2.2.2.2.1 _ rfl).1 _ rfl).trans (hF10.2.2.2.2.2.2.2.2.2.2.2.2.2.2.2.2.2.1 _ rfl).2
                    have q2182 : f 91 = undef := ((hF10.2.2.2.2.2.2.2.2.2.2.2.2.2.2.2.2.2.2.1 _ rfl).1 _ rfl).trans (hF10.2.2.2.2.2.2.2.2.2.2.2.2.2.2.2.2.2.2.1 _ rfl).2
                    have q2183 : f 92 = undef := ((hF10.2.2.2.2.2.2.2.2.2.2.2.2.2.2.2.2.2.2.2.1 _ rfl).1 _ rfl).trans (hF10.2.2.2.2.2.2.2.2.2.2.2.2.2.2.2.2.2.2.2.1 _ rfl).2
                    have q2184 : f 93 = undef := ((hF10.2.2.2.2.2.2.2.2.2.2.2.2.2.2.2.2.2.2.2.2.1 _ rfl).1 _ rfl).trans (hF10.2.2.2.2.2.2.2.2.2.2.2.2.2.2.2.2.2.2.2.2.1 _ rfl).2
                    have q2185 : f 94 = undef := ((hF10.2.2.2.2.2.2.2.2.2.2.2.2.2.2.2.2.2.2.2.2.2.1 _ rfl).1 _ rfl).trans (hF10.2.2.2.2.2.2.2.2.2.2.2.2.2.2.2.2.2.2.2.2.2.1 _ rfl).2
                    have q2186 : f 95 = undef := ((hF10.2.2.2.2.2.2.2.2.2.2.2.2.2.2.2.2.2.2.2.2.2.2.1 _ rfl).1 _ rfl).trans (hF10.2.2.2.2.2.2.2.2.2.2.2.2.2.2.2.2.2.2.2.2.2.2.1 _ rfl).2
                    have q2187 : f 96 = undef := ((hF10.2.2.2.2.2.2.2.2.2.2.2.2.2.2.2.2.2.2.2.2.2.2.2.1 _ rfl).1 _ rfl).trans (hF10.2.2.2.2.2.2.2.2.2.2.2.2.2.2.2.2.2.2.2.2.2.2.2.1 _ rfl).2
                    have q2188 : f 97 = undef := ((hF10.2.2.2.2.2.2.2.2.2.2.2.2.2.2.2.2.2.2.2.2.2.2.2.2.1 _ rfl).1 _ rfl).trans (hF10.2.2.2.2.2.2.2.2.2.2.2.2.2.2.2.2.2.2.2.2.2.2.2.2.1 _ rfl).2
                    have q2189 : f 98 = (Value.bool (true)) := ((hF10.2.2.2.2.2.2.2.2.2.2.2.2.2.2.2.2.2.2.2.2.2.2.2.2.2.1 _ rfl).1 _ rfl).trans (hF10.2.2.2.2.2.2.2.2.2.2.2.2.2.2.2.2.2.2.2.2.2.2.2.2.2.1 _ rfl).2
                    have q2190 : f 99 = (Value.bool (true)) := ((hF10.2.2.2.2.2.2.2.2.2.2.2.2.2.2.2.2.2.2.2.2.2.2.2.2.2.2.1 _ rfl).1 _ rfl).trans (hF10.2.2.2.2.2.2.2.2.2.2.2.2.2.2.2.2.2.2.2.2.2.2.2.2.2.2.1 _ rfl).2
                    refine wp_cond_t (b := true) q2190 rfl ?_
                    refine wp_region' ?_
                    refine wl_op rfl (op_move (v := (Value.int .i64 ((i1 : Int)))) rfl e432 ?_)
                    refine wl_op rfl (op_assign (v := (Value.int .i64 ((i1 : Int)))) rfl rfl ?_)
                    refine wl_nil ?_
                    refine wp_region' ?_
                    refine wl_op rfl (op_move (v := (Value.int .i64 ((i1 : Int)))) rfl e432 ?_)
                    refine wl_op rfl (op_add (a := (i1 : Int)) (b := 1) rfl rfl rfl ?_)
                    refine wl_op rfl (op_assign (v := (Value.int .i64 (w64 ((i1 : Int) + 1)))) rfl rfl ?_)
                    refine wl_nil ?_
                    obtain rfl := Option.some.inj h33
                    exact ⟨_, (le257.trans le285), I311, e429, e430, rfl, (idx_next hlt1 hk1)⟩
                · obtain ⟨x22, hx22, h33⟩ := bnd h33
                  refine wp_draw (sps := [⟨some 73, [], [0], fun vs_ T_ => fr0 vs_ 0 = (fieldPtr (Value.pointer (some ⟨g1, 0, none⟩)) 1), [], [], [], fun _ h_ => h_⟩, ⟨some 74, [0], [1], fun vs_ T_ => RV T_ (fr0 vs_ 0) a0.Doors, [], [], [], fun hle_ h_ => h_.mono hle_⟩, ⟨some 75, [], [2], fun vs_ T_ => fr0 vs_ 0 = (Value.int .i64 ((i1 : Int))), [], [], [], fun _ h_ => h_⟩, ⟨some 76, [0, 1, 2], [3, 1], fun vs_ T_ => fr0 vs_ 0 = (elemPtr (fr0 vs_ 1) ((i1 : Int)) (Enc.sz Gate)), [], [], [], fun _ h_ => h_⟩, ⟨some 77, [0, 1, 2, 3], [4, 1], fun vs_ T_ => fr0 vs_ 0 = (fieldPtr (elemPtr (fr0 vs_ 1) ((i1 : Int)) (Enc.sz Gate)) 1), [], [], [], fun _ h_ => h_⟩, ⟨some 78, [0, 1, 2, 3, 4], [5], fun vs_ T_ => RV T_ (fr0 vs_ 0) x21.When, [], [], [], fun hle_ h_ => h_.mono hle_⟩, ⟨some 79, [0, 1, 2, 3, 4, 5], [6], fun vs_ T_ => fr0 vs_ 0 = (Value.int .i64 ((x21.When.length : Int))), [], [], [], fun _ h_ => h_⟩, ⟨some 80, [0, 1, 2, 3, 4, 5, 6], [7], fun vs_ T_ => fr0 vs_ 0 = (Value.bool (decide (0 < (x21.When.length : Int)))), [], [], [], fun _ h_ => h_⟩, ⟨some 81, [0, 1, 2, 3, 4, 5, 6, 7], [8], fun vs_ T_ => fr0 vs_ 0 = (Value.bool (decide (0 < (x21.When.length : Int)))), [], [], [], fun _ h_ => h_⟩, ⟨some 82, [0, 1, 2, 3, 4, 5, 6, 7, 8], [9], fun vs_ T_ => fr0 vs_ 0 = (Value.int .i64 (s2)), [], [], [], fun _ h_ => h_⟩, ⟨some 83, [0, 1, 2, 3, 4, 5, 6, 7, 8, 9], [10], fun vs_ T_ => fr0 vs_ 0 = (Value.bool (decide (s2 < 0))), [], [], [], fun _ h_ => h_⟩, ⟨some 84, [0, 1, 2, 3, 4, 5, 6, 7, 8, 9, 10], [11], fun vs_ T_ => fr0 vs_ 0 = (Value.bool (decide (s2 < 0))), [], [], [], fun _ h_ => h_⟩, ⟨some 85, [0, 1, 2, 3, 4, 5, 6, 7, 8, 9, 10, 11], [12], fun vs_ T_ => fr0 vs_ 0 = (fieldPtr (Value.pointer (some ⟨g1, 0, none⟩)) 1), [], [], [], fun _ h_ => h_⟩, ⟨some 86, [0, 1, 2, 3, 4, 5, 6, 7, 8, 9, 10, 11, 12], [13], fun vs_ T_ => RV T_ (fr0 vs_ 0) a0.Doors, [], [], [], fun hle_ h_ => h_.mono hle_⟩, ⟨some 87, [0, 1, 2, 3, 4, 5, 6, 7, 8, 9, 10, 11], [14], fun vs_ T_ => fr0 vs_ 0 = (Value.int .i64 ((i1 : Int))), [], [], [], fun _ h_ => h_⟩, ⟨some 88, [0, 1, 2, 3, 4, 5, 6, 7, 8, 9, 10, 11, 12, 13, 14], [15, 13], fun vs_ T_ => fr0 vs_ 0 = (elemPtr (fr0 vs_ 1) ((i1 : Int)) (Enc.sz Gate)), [], [], [], fun _ h_ => h_⟩, ⟨some 89, [0, 1, 2, 3, 4, 5, 6, 7, 8, 9, 10, 11, 12, 13, 14, 15], [16, 13], fun vs_ T_ => fr0 vs_ 0 = (fieldPtr (elemPtr (fr0 vs_ 1) ((i1 : Int)) (Enc.sz Gate)) 0), [], [], [], fun _ h_ => h_⟩, ⟨some 90, [0, 1, 2, 3, 4, 5, 6, 7, 8, 9, 10, 11, 12, 13, 14, 15, 16], [17], fun vs_ T_ => fr0 vs_ 0 = (Value.int .i64 (x21.Wait)), [], [], [], fun _ h_ => h_⟩, ⟨some 91, [0, 1, 2, 3, 4, 5, 6, 7, 8, 9, 10, 11], [18], fun vs_ T_ => fr0 vs_ 0 = (fieldPtr (Value.pointer (some ⟨g1, 0, none⟩)) 1), [], [], [], fun _ h_ => h_⟩, ⟨some 92, [0, 1, 2, 3, 4, 5, 6, 7, 8, 9, 10, 11, 18], [19], fun vs_ T_ => RV T_ (fr0 vs_ 0) a0.Doors, [], [], [], fun hle_ h_ => h_.mono hle_⟩, ⟨some 93, [0, 1, 2, 3, 4, 5, 6, 7, 8, 9, 10, 11], [20], fun vs_ T_ => fr0 vs_ 0 = (Value.int .i64 (s2)), [], [], [], fun _ h_ => h_⟩, ⟨some 94, [0, 1, 2, 3, 4, 5, 6, 7, 8, 9, 10, 11, 18, 19, 20], [21, 19], fun vs_ T_ => fr0 vs_ 0 = (elemPtr (fr0 vs_ 1) (s2) (Enc.sz Gate)), [], [], [], fun _ h_ => h_⟩, ⟨some 95, [0, 1, 2, 3, 4, 5, 6, 7, 8, 9, 10, 11, 18, 19, 20, 21], [22, 19], fun vs_ T_ => fr0 vs_ 0 = (fieldPtr (elemPtr (fr0 vs_ 1) (s2) (Enc.sz Gate)) 0), [], [], [], fun _ h_ => h_⟩, ⟨some 96, [0, 1, 2, 3, 4, 5, 6, 7, 8, 9, 10, 11, 18, 19, 20, 21, 22], [23], fun vs_ T_ => fr0 vs_ 0 = (Value.int .i64 (x22.Wait)), [], [], [], fun _ h_ => h_⟩, ⟨some 97, [0, 1, 2, 3, 4, 5, 6, 7, 8, 9, 10, 11, 12, 13, 14, 15, 16, 17, 18, 19, 20, 21, 22, 23], [24], fun vs_ T_ => fr0 vs_ 0 = (Value.bool (decide (x22.Wait < x21.Wait))), [], [], [], fun _ h_ => h_⟩, ⟨some 98, [0, 1, 2, 3, 4, 5, 6, 7, 8, 9, 10, 11, 12, 13, 14, 15, 16, 17, 18, 19, 20, 21, 22, 23, 24], [25], fun vs_ T_ => fr0 vs_ 0 = (Value.bool (decide (x22.Wait < x21.Wait))), [], [], [], fun _ h_ => h_⟩, ⟨some 99, [0, 1, 2, 3, 4, 5, 6, 7, 8, 9, 10, 11, 12, 13, 14, 15, 16, 17, 18, 19, 20, 21, 22, 23, 24, 25], [26], fun vs_ T_ => fr0 vs_ 0 = (Value.bool (decide (x22.Wait < x21.Wait))), [], [], [], fun _ h_ => h_⟩]) (tks := []) (O := Fr) rfl (by kernel_rfl) I283 ⟨?_, ?_, ?_, ?_, ?_, ?_, ?_, ?_, ?_, ?_, ?_, ?_, ?_, ?_, ?_, ?_, ?_, ?_, ?_, ?_, ?_, ?_, ?_, ?_, ?_, ?_, ?_, trivial⟩ ?_
                  · intro vs281 f w289 S286 X271 le286 hA271 hK281 hI283
                    have I312 : Inv w289 S286 (X271) := hI283
                    refine opg_plain rfl rfl (op_fieldAddr_t (v := (Value.pointer (some ⟨g1, 0, none⟩))) rfl fa24_1 ((hK281 3 (keep_of rfl)).trans e402) ((p1.mono ((le2.trans le257).trans le286)).at_ I312) ?_)
                    refine ⟨_, _, rfl, PH.Le.refl _, ?_, ?_⟩
                    · exact rfl
                    · exact I312
                  · intro vs282 f w290 S287 X272 le287 hA272 hK282 hI284
                    have I313 : Inv w290 S287 (X272) := hI284
                    have q2191 : f 73 = (fieldPtr (Value.pointer (some ⟨g1, 0, none⟩)) 1) := ((hA272.1 _ rfl).1 _ rfl).trans (hA272.1 _ rfl).2
                    refine opg_plain rfl rfl (op_load (v := (fieldPtr (Value.pointer (some ⟨g1, 0, none⟩)) 1)) (e := a0.Doors) rfl sh22 q2191 (((p1.mono ((le2.trans le257).trans le287)).at_ I313).fld Panel.fld1) (fun u337 hu337 => ?_))
                    obtain ⟨z294, m294, k294, e435⟩ := rv_form hu337
                    subst e435
                    refine ⟨_, _, rfl, PH.Le.refl _, ?_, ?_⟩
                    · exact hu337
                    · exact I313
                  · intro vs283 f w291 S288 X273 le288 hA273 hK283 hI285
                    have I314 : Inv w291 S288 (X273) := hI285
                    refine opg_plain rfl rfl (op_move (v := (Value.int .i64 ((i1 : Int)))) rfl ((hK283 12 (keep_of rfl)).trans e405) ?_)
                    refine ⟨_, _, rfl, PH.Le.refl _, ?_, ?_⟩
                    · exact rfl
                    · exact I314
                  · intro vs284 f w292 S289 X274 le289 hA274 hK284 hI286
                    have I315 : Inv w292 S289 (X274) := hI286
                    have q2192 : f 73 = (fieldPtr (Value.pointer (some ⟨g1, 0, none⟩)) 1) := ((hA274.1 _ rfl).1 _ rfl).trans (hA274.1 _ rfl).2
                    have q2193 : f 74 = vs284 1 := (hA274.2.1 _ rfl).1 _ rfl
                    have r256 : RV S289 (vs284 1) a0.Doors := (hA274.2.1 _ rfl).2
                    obtain ⟨u338, hu338⟩ : ∃ u, vs284 1 = u := ⟨_, rfl⟩
                    rw [hu338] at q2193 r256
                    obtain ⟨z295, m295, k295, e436⟩ := rv_form r256
                    subst e436
                    have q2194 : f 75 = (Value.int .i64 ((i1 : Int))) := ((hA274.2.2.1 _ rfl).1 _ rfl).trans (hA274.2.2.1 _ rfl).2
                    refine opg_plain rfl rfl (op_indexAddr_rv (v := (Value.slice z295 m295 k295)) (i := (i1 : Int)) (e := x21) rfl Try.underlying22 sh33 q2193 r256 q2194 hx21 ?_)
                    refine ⟨_, _, rfl, PH.Le.refl _, ?_, ?_⟩
                    · show (elemPtr (Value.slice z295 m295 k295) ((i1 : Int)) (Enc.sz Gate)) = (elemPtr (vs284 1) ((i1 : Int)) (Enc.sz Gate))
                      simp only [hu338] <;> rfl
                    · exact I315
                  · intro vs285 f w293 S290 X275 le290 hA275 hK285 hI287
                    have I316 : Inv w293 S290 (X275) := hI287
                    have q2195 : f 73 = (fieldPtr (Value.pointer (some ⟨g1, 0, none⟩)) 1) := ((hA275.1 _ rfl).1 _ rfl).trans (hA275.1 _ rfl).2
                    have q2196 : f 74 = vs285 1 := (hA275.2.1 _ rfl).1 _ rfl
                    have r257 : RV S290 (vs285 1) a0.Doors := (hA275.2.1 _ rfl).2
                    obtain ⟨u339, hu339⟩ : ∃ u, vs285 1 = u := ⟨_, rfl⟩
                    rw [hu339] at q2196 r257
                    obtain ⟨z296, m296, k296, e437⟩ := rv_form r257
                    subst e437
                    have q2197 : f 75 = (Value.int .i64 ((i1 : Int))) := ((hA275.2.2.1 _ rfl).1 _ rfl).trans (hA275.2.2.1 _ rfl).2
                    have q2198 : f 76 = (elemPtr (vs285 1) ((i1 : Int)) (Enc.sz Gate)) := ((hA275.2.2.2.1 _ rfl).1 _ rfl).trans (hA275.2.2.2.1 _ rfl).2
                    simp only [hu339] at q2198
                    have q2198 : f 76 = (elemPtr (Value.slice z296 m296 k296) ((i1 : Int)) (Enc.sz Gate)) := q2198
                    refine opg_plain rfl rfl (op_fieldAddr_t (v := (elemPtr (Value.slice z296 m296 k296) ((i1 : Int)) (Enc.sz Gate))) rfl fa33_1 q2198 (r257.elem I316.in_ hx21) ?_)
                    refine ⟨_, _, rfl, PH.Le.refl _, ?_, ?_⟩
                    · show (fieldPtr (elemPtr (Value.slice z296 m296 k296) ((i1 : Int)) (Enc.sz Gate)) 1) = (fieldPtr (elemPtr (vs285 1) ((i1 : Int)) (Enc.sz Gate)) 1)
                      simp only [hu339] <;> rfl
                    · exact I316
                  · intro vs286 f w294 S291 X276 le291 hA276 hK286 hI288
                    have I317 : Inv w294 S291 (X276) := hI288
                    have q2199 : f 73 = (fieldPtr (Value.pointer (some ⟨g1, 0, none⟩)) 1) := ((hA276.1 _ rfl).1 _ rfl).trans (hA276.1 _ rfl).2
                    have q2200 : f 74 = vs286 1 := (hA276.2.1 _ rfl).1 _ rfl
                    have r258 : RV S291 (vs286 1) a0.Doors := (hA276.2.1 _ rfl).2
                    obtain ⟨u340, hu340⟩ : ∃ u, vs286 1 = u := ⟨_, rfl⟩
                    rw [hu340] at q2200 r258
                    obtain ⟨z297, m297, k297, e438⟩ := rv_form r258
                    subst e438
                    have q2201 : f 75 = (Value.int .i64 ((i1 : Int))) := ((hA276.2.2.1 _ rfl).1 _ rfl).trans (hA276.2.2.1 _ rfl).2
                    have q2202 : f 76 = (elemPtr (vs286 1) ((i1 : Int)) (Enc.sz Gate)) := ((hA276.2.2.2.1 _ rfl).1 _ rfl).trans (hA276.2.2.2.1 _ rfl).2
                    simp only [hu340] at q2202
                    have q2202 : f 76 = (elemPtr (Value.slice z297 m297 k297) ((i1 : Int)) (Enc.sz Gate)) := q2202
                    have q2203 : f 77 = (fieldPtr (elemPtr (vs286 1) ((i1 : Int)) (Enc.sz Gate)) 1) := ((hA276.2.2.2.2.1 _ rfl).1 _ rfl).trans (hA276.2.2.2.2.1 _ rfl).2
                    simp only [hu340] at q2203
                    have q2203 : f 77 = (fieldPtr (elemPtr (Value.slice z297 m297 k297) ((i1 : Int)) (Enc.sz Gate)) 1) := q2203
                    refine opg_plain rfl rfl (op_load (v := (fieldPtr (elemPtr (Value.slice z297 m297 k297) ((i1 : Int)) (Enc.sz Gate)) 1)) (e := x21.When) rfl sh31 q2203 ((r258.elem I317.in_ hx21).fld Gate.fld1) (fun u341 hu341 => ?_))
                    obtain ⟨z298, m298, k298, e439⟩ := rv_form hu341
                    subst e439
                    refine ⟨_, _, rfl, PH.Le.refl _, ?_, ?_⟩
                    · exact hu341
                    · exact I317
                  · intro vs287 f w295 S292 X277 le292 hA277 hK287 hI289
                    have I318 : Inv w295 S292 (X277) := hI289
                    have q2204 : f 73 = (fieldPtr (Value.pointer (some ⟨g1, 0, none⟩)) 1) := ((hA277.1 _ rfl).1 _ rfl).trans (hA277.1 _ rfl).2
                    have q2205 : f 74 = vs287 1 := (hA277.2.1 _ rfl).1 _ rfl
                    have r259 : RV S292 (vs287 1) a0.Doors := (hA277.2.1 _ rfl).2
                    obtain ⟨u342, hu342⟩ : ∃ u, vs287 1 = u := ⟨_, rfl⟩
                    rw [hu342] at q2205 r259
                    obtain ⟨z299, m299, k299, e440⟩ := rv_form r259
                    subst e440
                    have q2206 : f 75 = (Value.int .i64 ((i1 : Int))) := ((hA277.2.2.1 _ rfl).1 _ rfl).trans (hA277.2.2.1 _ rfl).2
                    have q2207 : f 76 = (elemPtr (vs287 1) ((i1 : Int)) (Enc.sz Gate)) := ((hA277.2.2.2.1 _ rfl).1 _ rfl).trans (hA277.2.2.2.1 _ rfl).2
                    simp only [hu342] at q2207
                    have q2207 : f 76 = (elemPtr (Value.slice z299 m299 k299) ((i1 : Int)) (Enc.sz Gate)) := q2207
                    have q2208 : f 77 = (fieldPtr (elemPtr (vs287 1) ((i1 : Int)) (Enc.sz Gate)) 1) := ((hA277.2.2.2.2.1 _ rfl).1 _ rfl).trans (hA277.2.2.2.2.1 _ rfl).2
                    simp only [hu342] at q2208
                    have q2208 : f 77 = (fieldPtr (elemPtr (Value.slice z299 m299 k299) ((i1 : Int)) (Enc.sz Gate)) 1) := q2208
                    have q2209 : f 78 = vs287 5 := (hA277.2.2.2.2.2.1 _ rfl).1 _ rfl
                    have r260 : RV S292 (vs287 5) x21.When := (hA277.2.2.2.2.2.1 _ rfl).2
                    obtain ⟨u343, hu343⟩ : ∃ u, vs287 5 = u := ⟨_, rfl⟩
                    rw [hu343] at q2209 r260
                    obtain ⟨z300, m300, k300, e441⟩ := rv_form r260
                    subst e441
                    refine opg_plain rfl rfl (op_len_rv rfl Try.underlying31 q2209 r260 ?_)
                    refine ⟨_, _, rfl, PH.Le.refl _, ?_, ?_⟩
                    · exact rfl
                    · exact I318
                  · intro vs288 f w296 S293 X278 le293 hA278 hK288 hI290
                    have I319 : Inv w296 S293 (X278) := hI290
                    have q2210 : f 73 = (fieldPtr (Value.pointer (some ⟨g1, 0, none⟩)) 1) := ((hA278.1 _ rfl).1 _ rfl).trans (hA278.1 _ rfl).2
                    have q2211 : f 74 = vs288 1 := (hA278.2.1 _ rfl).1 _ rfl
                    have r261 : RV S293 (vs288 1) a0.Doors := (hA278.2.1 _ rfl).2
                    obtain ⟨u344, hu344⟩ : ∃ u, vs288 1 = u := ⟨_, rfl⟩
                    rw [hu344] at q2211 r261
                    obtain ⟨z301, m301, k301, e442⟩ := rv_form r261
                    subst e442
                    have q2212 : f 75 = (Value.int .i64 ((i1 : Int))) := ((hA278.2.2.1 _ rfl).1 _ rfl).trans (hA278.2.2.1 _ rfl).2
                    have q2213 : f 76 = (elemPtr (vs288 1) ((i1 : Int)) (Enc.sz Gate)) := ((hA278.2.2.2.1 _ rfl).1 _ rfl).trans (hA278.2.2.2.1 _ rfl).2
                    simp only [hu344] at q2213
                    have q2213 : f 76 = (elemPtr (Value.slice z301 m301 k301) ((i1 : Int)) (Enc.sz Gate)) := q2213
                    have q2214 : f 77 = (fieldPtr (elemPtr (vs288 1) ((i1 : Int)) (Enc.sz Gate)) 1) := ((hA278.2.2.2.2.1 _ rfl).1 _ rfl).trans (hA278.2.2.2.2.1 _ rfl).2
                    simp only [hu344] at q2214
                    have q2214 : f 77 = (fieldPtr (elemPtr (Value.slice z301 m301 k301) ((i1 : Int)) (Enc.sz Gate)) 1) := q2214
                    have q2215 : f 78 = vs288 5 := (hA278.2.2.2.2.2.1 _ rfl).1 _ rfl
                    have r262 : RV S293 (vs288 5) x21.When := (hA278.2.2.2.2.2.1 _ rfl).2
                    obtain ⟨u345, hu345⟩ : ∃ u, vs288 5 = u := ⟨_, rfl⟩
                    rw [hu345] at q2215 r262
                    obtain ⟨z302, m302, k302, e443⟩ := rv_form r262
                    subst e443
                    have q2216 : f 79 = (Value.int .i64 ((x21.When.length : Int))) := ((hA278.2.2.2.2.2.2.1 _ rfl).1 _ rfl).trans (hA278.2.2.2.2.2.2.1 _ rfl).2
                    refine opg_plain rfl rfl (op_gtr (a := (x21.When.length : Int)) (b := 0) rfl q2216 rfl ?_)
                    refine ⟨_, _, rfl, PH.Le.refl _, ?_, ?_⟩
                    · exact rfl
                    · exact I319
                  · intro vs289 f w297 S294 X279 le294 hA279 hK289 hI291
                    have I320 : Inv w297 S294 (X279) := hI291
                    have q2217 : f 73 = (fieldPtr (Value.pointer (some ⟨g1, 0, none⟩)) 1) := ((hA279.1 _ rfl).1 _ rfl).trans (hA279.1 _ rfl).2
                    have q2218 : f 74 = vs289 1 := (hA279.2.1 _ rfl).1 _ rfl
                    have r263 : RV S294 (vs289 1) a0.Doors := (hA279.2.1 _ rfl).2
                    obtain ⟨u346, hu346⟩ : ∃ u, vs289 1 = u := ⟨_, rfl⟩
                    rw [hu346] at q2218 r263
                    obtain ⟨z303, m303, k303, e444⟩ := rv_form r263
                    subst e444
                    have q2219 : f 75 = (Value.int .i64 ((i1 : Int))) := ((hA279.2.2.1 _ rfl).1 _ rfl).trans (hA279.2.2.1 _ rfl).2
                    have q2220 : f 76 = (elemPtr (vs289 1) ((i1 : Int)) (Enc.sz Gate)) := ((hA279.2.2.2.1 _ rfl).1 _ rfl).trans (hA279.2.2.2.1 _ rfl).2
                    simp only [hu346] at q2220
                    have q2220 : f 76 = (elemPtr (Value.slice z303 m303 k303) ((i1 : Int)) (Enc.sz Gate)) := q2220
                    have q2221 : f 77 = (fieldPtr (elemPtr (vs289 1) ((i1 : Int)) (Enc.sz Gate)) 1) := ((hA279.2.2.2.2.1 _ rfl).1 _ rfl).trans (hA279.2.2.2.2.1 _ rfl).2
                    simp only [hu346] at q2221
                    have q2221 : f 77 = (fieldPtr (elemPtr (Value.slice z303 m303 k303) ((i1 : Int)) (Enc.sz Gate)) 1) := q2221
                    have q2222 : f 78 = vs289 5 := (hA279.2.2.2.2.2.1 _ rfl).1 _ rfl
                    have r264 : RV S294 (vs289 5) x21.When := (hA279.2.2.2.2.2.1 _ rfl).2
                    obtain ⟨u347, hu347⟩ : ∃ u, vs289 5 = u := ⟨_, rfl⟩
                    rw [hu347] at q2222 r264
                    obtain ⟨z304, m304, k304, e445⟩ := rv_form r264
                    subst e445
                    have q2223 : f 79 = (Value.int .i64 ((x21.When.length : Int))) := ((hA279.2.2.2.2.2.2.1 _ rfl).1 _ rfl).trans (hA279.2.2.2.2.2.2.1 _ rfl).2
                    have q2224 : f 80 = (Value.bool (decide (0 < (x21.When.length : Int)))) := ((hA279.2.2.2.2.2.2.2.1 _ rfl).1 _ rfl).trans (hA279.2.2.2.2.2.2.2.1 _ rfl).2
                    refine opg_plain rfl rfl (op_move (v := (Value.bool (decide (0 < (x21.When.length : Int))))) rfl q2224 ?_)
                    refine ⟨_, _, rfl, PH.Le.refl _, ?_, ?_⟩
                    · exact rfl
                    · exact I320
                  · intro vs290 f w298 S295 X280 le295 hA280 hK290 hI292
                    have I321 : Inv w298 S295 (X280) := hI292
                    have q2225 : f 73 = (fieldPtr (Value.pointer (some ⟨g1, 0, none⟩)) 1) := ((hA280.1 _ rfl).1 _ rfl).trans (hA280.1 _ rfl).2
                    have q2226 : f 74 = vs290 1 := (hA280.2.1 _ rfl).1 _ rfl
                    have r265 : RV S295 (vs290 1) a0.Doors := (hA280.2.1 _ rfl).2
                    obtain ⟨u348, hu348⟩ : ∃ u, vs290 1 = u := ⟨_, rfl⟩
                    rw [hu348] at q2226 r265
                    obtain ⟨z305, m305, k305, e446⟩ := rv_form r265
                    subst e446
                    have q2227 : f 75 = (Value.int .i64 ((i1 : Int))) := ((hA280.2.2.1 _ rfl).1 _ rfl).trans (hA280.2.2.1 _ rfl).2
                    have q2228 : f 76 = (elemPtr (vs290 1) ((i1 : Int)) (Enc.sz Gate)) := ((hA280.2.2.2.1 _ rfl).1 _ rfl).trans (hA280.2.2.2.1 _ rfl).2
                    simp only [hu348] at q2228
                    have q2228 : f 76 = (elemPtr (Value.slice z305 m305 k305) ((i1 : Int)) (Enc.sz Gate)) := q2228
                    have q2229 : f 77 = (fieldPtr (elemPtr (vs290 1) ((i1 : Int)) (Enc.sz Gate)) 1) := ((hA280.2.2.2.2.1 _ rfl).1 _ rfl).trans (hA280.2.2.2.2.1 _ rfl).2
                    simp only [hu348] at q2229
                    have q2229 : f 77 = (fieldPtr (elemPtr (Value.slice z305 m305 k305) ((i1 : Int)) (Enc.sz Gate)) 1) := q2229
                    have q2230 : f 78 = vs290 5 := (hA280.2.2.2.2.2.1 _ rfl).1 _ rfl
                    have r266 : RV S295 (vs290 5) x21.When := (hA280.2.2.2.2.2.1 _ rfl).2
                    obtain ⟨u349, hu349⟩ : ∃ u, vs290 5 = u := ⟨_, rfl⟩
                    rw [hu349] at q2230 r266
                    obtain ⟨z306, m306, k306, e447⟩ := rv_form r266
                    subst e447
                    have q2231 : f 79 = (Value.int .i64 ((x21.When.length : Int))) := ((hA280.2.2.2.2.2.2.1 _ rfl).1 _ rfl).trans (hA280.2.2.2.2.2.2.1 _ rfl).2
                    have q2232 : f 80 = (Value.bool (decide (0 < (x21.When.length : Int)))) := ((hA280.2.2.2.2.2.2.2.1 _ rfl).1 _ rfl).trans (hA280.2.2.2.2.2.2.2.1 _ rfl).2
                    have q2233 : f 81 = (Value.bool (decide (0 < (x21.When.length : Int)))) := ((hA280.2.2.2.2.2.2.2.2.1 _ rfl).1 _ rfl).trans (hA280.2.2.2.2.2.2.2.2.1 _ rfl).2
                    refine opg_taken (c := decide (0 < (x21.When.length : Int))) rfl rfl rfl rfl q2233 hc62 (op_move (v := (Value.int .i64 (s2))) rfl ((hK290 11 (keep_of rfl)).trans e404) ?_)
                    refine ⟨_, _, rfl, PH.Le.refl _, ?_, ?_⟩
                    · exact rfl
                    · exact I321
                  · intro vs291 f w299 S296 X281 le296 hA281 hK291 hI293
                    have I322 : Inv w299 S296 (X281) := hI293
                    have q2234 : f 73 = (fieldPtr (Value.pointer (some ⟨g1, 0, none⟩)) 1) := ((hA281.1 _ rfl).1 _ rfl).trans (hA281.1 _ rfl).2
                    have q2235 : f 74 = vs291 1 := (hA281.2.1 _ rfl).1 _ rfl
                    have r267 : RV S296 (vs291 1) a0.Doors := (hA281.2.1 _ rfl).2
                    obtain ⟨u350, hu350⟩ : ∃ u, vs291 1 = u := ⟨_, rfl⟩
                    rw [hu350] at q2235 r267
                    obtain ⟨z307, m307, k307, e448⟩ := rv_form r267
                    subst e448
                    have q2236 : f 75 = (Value.int .i64 ((i1 : Int))) := ((hA281.2.2.1 _ rfl).1 _ rfl).trans (hA281.2.2.1 _ rfl).2
                    have q2237 : f 76 = (elemPtr (vs291 1) ((i1 : Int)) (Enc.sz Gate)) := ((hA281.2.2.2.1 _ rfl).1 _ rfl).trans (hA281.2.2.2.1 _ rfl).2
                    simp only [hu350] at q2237
                    have q2237 : f 76 = (elemPtr (Value.slice z307 m307 k307) ((i1 : Int)) (Enc.sz Gate)) := q2237
                    have q2238 : f 77 = (fieldPtr (elemPtr (vs291 1) ((i1 : Int)) (Enc.sz Gate)) 1) := ((hA281.2.2.2.2.1 _ rfl).1 _ rfl).trans (hA281.2.2.2.2.1 _ rfl).2
                    simp only [hu350] at q2238
                    have q2238 : f 77 = (fieldPtr (elemPtr (Value.slice z307 m307 k307) ((i1 : Int)) (Enc.sz Gate)) 1) := q2238
                    have q2239 : f 78 = vs291 5 := (hA281.2.2.2.2.2.1 _ rfl).1 _ rfl
                    have r268 : RV S296 (vs291 5) x21.When := (hA281.2.2.2.2.2.1 _ rfl).2
                    obtain ⟨u351, hu351⟩ : ∃ u, vs291 5 = u := ⟨_, rfl⟩
                    rw [hu351] at q2239 r268
                    obtain ⟨z308, m308, k308, e449⟩ := rv_form r268
                    subst e449
                    have q2240 : f 79 = (Value.int .i64 ((x21.When.length : Int))) := ((hA281.2.2.2.2.2.2.1 _ rfl).1 _ rfl).trans (hA281.2.2.2.2.2.2.1 _ rfl).2
                    have q2241 : f 80 = (Value.bool (decide (0 < (x21.When.length : Int)))) := ((hA281.2.2.2.2.2.2.2.1 _ rfl).1 _ rfl).trans (hA281.2.2.2.2.2.2.2.1 _ rfl).2
                    have q2242 : f 81 = (Value.bool (decide (0 < (x21.When.length : Int)))) := ((hA281.2.2.2.2.2.2.2.2.1 _ rfl).1 _ rfl).trans (hA281.2.2.2.2.2.2.2.2.1 _ rfl).2
                    have q2243 : f 82 = (Value.int .i64 (s2)) := ((hA281.2.2.2.2.2.2.2.2.2.1 _ rfl).1 _ rfl).trans (hA281.2.2.2.2.2.2.2.2.2.1 _ rfl).2
                    refine opg_taken (c := decide (0 < (x21.When.length : Int))) rfl rfl rfl rfl q2242 hc62 (op_lss (a := s2) (b := 0) rfl q2243 rfl ?_)
                    refine ⟨_, _, rfl, PH.Le.refl _, ?_, ?_⟩
                    · exact rfl
                    · exact I322
                  · intro vs292 f w300 S297 X282 le297 hA282 hK292 hI294
                    have I323 : Inv w300 S297 (X282) := hI294
                    have q2244 : f 73 = (fieldPtr (Value.pointer (some ⟨g1, 0, none⟩)) 1) := ((hA282.1 _ rfl).1 _ rfl).trans (hA282.1 _ rfl).2
                    have q2245 : f 74 = vs292 1 := (hA282.2.1 _ rfl).1 _ rfl
                    have r269 : RV S297 (vs292 1) a0.Doors := (hA282.2.1 _ rfl).2
                    obtain ⟨u352, hu352⟩ : ∃ u, vs292 1 = u := ⟨_, rfl⟩
                    rw [hu352] at q2245 r269
                    obtain ⟨z309, m309, k309, e450⟩ := rv_form r269
                    subst e450
                    have q2246 : f 75 = (Value.int .i64 ((i1 : Int))) := ((hA282.2.2.1 _ rfl).1 _ rfl).trans (hA282.2.2.1 _ rfl).2
                    have q2247 : f 76 = (elemPtr (vs292 1) ((i1 : Int)) (Enc.sz Gate)) := ((hA282.2.2.2.1 _ rfl).1 _ rfl).trans (hA282.2.2.2.1 _ rfl).2
                    simp only [hu352] at q2247
                    have q2247 : f 76 = (elemPtr (Value.slice z309 m309 k309) ((i1 : Int)) (Enc.sz Gate)) := q2247
                    have q2248 : f 77 = (fieldPtr (elemPtr (vs292 1) ((i1 : Int)) (Enc.sz Gate)) 1) := ((hA282.2.2.2.2.1 _ rfl).1 _ rfl).trans (hA282.2.2.2.2.1 _ rfl).2
                    simp only [hu352] at q2248
                    have q2248 : f 77 = (fieldPtr (elemPtr (Value.slice z309 m309 k309) ((i1 : Int)) (Enc.sz Gate)) 1) := q2248
                    have q2249 : f 78 = vs292 5 := (hA282.2.2.2.2.2.1 _ rfl).1 _ rfl
                    have r270 : RV S297 (vs292 5) x21.When := (hA282.2.2.2.2.2.1 _ rfl).2
                    obtain ⟨u353, hu353⟩ : ∃ u, vs292 5 = u := ⟨_, rfl⟩
                    rw [hu353] at q2249 r270
                    obtain ⟨z310, m310, k310, e451⟩ := rv_form r270
                    subst e451
                    have q2250 : f 79 = (Value.int .i64 ((x21.When.length : Int))) := ((hA282.2.2.2.2.2.2.1 _ rfl).1 _ rfl).trans (hA282.2.2.2.2.2.2.1 _ rfl).2
                    have q2251 : f 80 = (Value.bool (decide (0 < (x21.When.length : Int)))) := ((hA282.2.2.2.2.2.2.2.1 _ rfl).1 _ rfl).trans (hA282.2.2.2.2.2.2.2.1 _ rfl).2
                    have q2252 : f 81 = (Value.bool (decide (0 < (x21.When.length : Int)))) := ((hA282.2.2.2.2.2.2.2.2.1 _ rfl).1 _ rfl).trans (hA282.2.2.2.2.2.2.2.2.1 _ rfl).2
                    have q2253 : f 82 = (Value.int .i64 (s2)) := ((hA282.2.2.2.2.2.2.2.2.2.1 _ rfl).1 _ rfl).trans (hA282.2.2.2.2.2.2.2.2.2.1 _ rfl).2
                    have q2254 : f 83 = (Value.bool (decide (s2 < 0))) := ((hA282.2.2.2.2.2.2.2.2.2.2.1 _ rfl).1 _ rfl).trans (hA282.2.2.2.2.2.2.2.2.2.2.1 _ rfl).2
                    refine opg_taken (c := decide (0 < (x21.When.length : Int))) rfl rfl rfl rfl q2252 hc62 (op_move (v := (Value.bool (decide (s2 < 0)))) rfl q2254 ?_)
                    refine ⟨_, _, rfl, PH.Le.refl _, ?_, ?_⟩
                    · exact rfl
                    · exact I323
                  · intro vs293 f w301 S298 X283 le298 hA283 hK293 hI295
                    have I324 : Inv w301 S298 (X283) := hI295
                    have q2255 : f 82 = (Value.int .i64 (s2)) := ((hA283.2.2.2.2.2.2.2.2.2.1 _ rfl).1 _ rfl).trans (hA283.2.2.2.2.2.2.2.2.2.1 _ rfl).2
                    have q2256 : f 83 = (Value.bool (decide (s2 < 0))) := ((hA283.2.2.2.2.2.2.2.2.2.2.1 _ rfl).1 _ rfl).trans (hA283.2.2.2.2.2.2.2.2.2.2.1 _ rfl).2
                    have q2257 : f 84 = (Value.bool (decide (s2 < 0))) := ((hA283.2.2.2.2.2.2.2.2.2.2.2.1 _ rfl).1 _ rfl).trans (hA283.2.2.2.2.2.2.2.2.2.2.2.1 _ rfl).2
                    refine opg_taken (c := decide (s2 < 0)) rfl rfl rfl rfl q2257 hc63 (op_fieldAddr_t (v := (Value.pointer (some ⟨g1, 0, none⟩))) rfl fa24_1 ((hK293 3 (keep_of rfl)).trans e402) ((p1.mono ((le2.trans le257).trans le298)).at_ I324) ?_)
                    refine ⟨_, _, rfl, PH.Le.refl _, ?_, ?_⟩
                    · exact rfl
                    · exact I324
                  · intro vs294 f w302 S299 X284 le299 hA284 hK294 hI296
                    have I325 : Inv w302 S299 (X284) := hI296
                    have q2258 : f 82 = (Value.int .i64 (s2)) := ((hA284.2.2.2.2.2.2.2.2.2.1 _ rfl).1 _ rfl).trans (hA284.2.2.2.2.2.2.2.2.2.1 _ rfl).2
                    have q2259 : f 83 = (Value.bool (decide (s2 < 0))) := ((hA284.2.2.2.2.2.2.2.2.2.2.1 _ rfl).1 _ rfl).trans (hA284.2.2.2.2.2.2.2.2.2.2.1 _ rfl).2
                    have q2260 : f 84 = (Value.bool (decide (s2 < 0))) := ((hA284.2.2.2.2.2.2.2.2.2.2.2.1 _ rfl).1 _ rfl).trans (hA284.2.2.2.2.2.2.2.2.2.2.2.1 _ rfl).2
                    have q2261 : f 85 = (fieldPtr (Value.pointer (some ⟨g1, 0, none⟩)) 1) := ((hA284.2.2.2.2.2.2.2.2.2.2.2.2.1 _ rfl).1 _ rfl).trans (hA284.2.2.2.2.2.2.2.2.2.2.2.2.1 _ rfl).2
                    refine opg_taken (c := decide (s2 < 0)) rfl rfl rfl rfl q2260 hc63 (op_load (v := (fieldPtr (Value.pointer (some ⟨g1, 0, none⟩)) 1)) (e := a0.Doors) rfl sh22 q2261 (((p1.mono ((le2.trans le257).trans le299)).at_ I325).fld Panel.fld1) (fun u354 hu354 => ?_))
                    obtain ⟨z311, m311, k311, e452⟩ := rv_form hu354
                    subst e452
                    refine ⟨_, _, rfl, PH.Le.refl _, ?_, ?_⟩
                    · exact hu354
                    · exact I325
                  · intro vs295 f w303 S300 X285 le300 hA285 hK295 hI297
                    have I326 : Inv w303 S300 (X285) := hI297
                    have q2262 : f 82 = (Value.int .i64 (s2)) := ((hA285.2.2.2.2.2.2.2.2.2.1 _ rfl).1 _ rfl).trans (hA285.2.2.2.2.2.2.2.2.2.1 _ rfl).2
                    have q2263 : f 83 = (Value.bool (decide (s2 < 0))) := ((hA285.2.2.2.2.2.2.2.2.2.2.1 _ rfl).1 _ rfl).trans (hA285.2.2.2.2.2.2.2.2.2.2.1 _ rfl).2
                    have q2264 : f 84 = (Value.bool (decide (s2 < 0))) := ((hA285.2.2.2.2.2.2.2.2.2.2.2.1 _ rfl).1 _ rfl).trans (hA285.2.2.2.2.2.2.2.2.2.2.2.1 _ rfl).2
                    refine opg_taken (c := decide (s2 < 0)) rfl rfl rfl rfl q2264 hc63 (op_move (v := (Value.int .i64 ((i1 : Int)))) rfl ((hK295 12 (keep_of rfl)).trans e405) ?_)
                    refine ⟨_, _, rfl, PH.Le.refl _, ?_, ?_⟩
                    · exact rfl
                    · exact I326
                  · intro vs296 f w304 S301 X286 le301 hA286 hK296 hI298
                    have I327 : Inv w304 S301 (X286) := hI298
                    have q2265 : f 82 = (Value.int .i64 (s2)) := ((hA286.2.2.2.2.2.2.2.2.2.1 _ rfl).1 _ rfl).trans (hA286.2.2.2.2.2.2.2.2.2.1 _ rfl).2
                    have q2266 : f 83 = (Value.bool (decide (s2 < 0))) := ((hA286.2.2.2.2.2.2.2.2.2.2.1 _ rfl).1 _ rfl).trans (hA286.2.2.2.2.2.2.2.2.2.2.1 _ rfl).2
                    have q2267 : f 84 = (Value.bool (decide (s2 < 0))) := ((hA286.2.2.2.2.2.2.2.2.2.2.2.1 _ rfl).1 _ rfl).trans (hA286.2.2.2.2.2.2.2.2.2.2.2.1 _ rfl).2
                    have q2268 : f 85 = (fieldPtr (Value.pointer (some ⟨g1, 0, none⟩)) 1) := ((hA286.2.2.2.2.2.2.2.2.2.2.2.2.1 _ rfl).1 _ rfl).trans (hA286.2.2.2.2.2.2.2.2.2.2.2.2.1 _ rfl).2
                    have q2269 : f 86 = vs296 13 := (hA286.2.2.2.2.2.2.2.2.2.2.2.2.2.1 _ rfl).1 _ rfl
                    have r271 : RV S301 (vs296 13) a0.Doors := (hA286.2.2.2.2.2.2.2.2.2.2.2.2.2.1 _ rfl).2
                    obtain ⟨u355, hu355⟩ : ∃ u, vs296 13 = u := ⟨_, rfl⟩
                    rw [hu355] at q2269 r271
                    obtain ⟨z312, m312, k312, e453⟩ := rv_form r271
                    subst e453
                    have q2270 : f 87 = (Value.int .i64 ((i1 : Int))) := ((hA286.2.2.2.2.2.2.2.2.2.2.2.2.2.2.1 _ rfl).1 _ rfl).trans (hA286.2.2.2.2.2.2.2.2.2.2.2.2.2.2.1 _ rfl).2
                    refine opg_taken (c := decide (s2 < 0)) rfl rfl rfl rfl q2267 hc63 (op_indexAddr_rv (v := (Value.slice z312 m312 k312)) (i := (i1 : Int)) (e := x21) rfl Try.underlying22 sh33 q2269 r271 q2270 hx21 ?_)
                    refine ⟨_, _, rfl, PH.Le.refl _, ?_, ?_⟩
                    · show (elemPtr (Value.slice z312 m312 k312) ((i1 : Int)) (Enc.sz Gate)) = (elemPtr (vs296 13) ((i1 : Int)) (Enc.sz Gate))
                      simp only [hu355] <;> rfl
                    · exact I327
                  · intro vs297 f w305 S302 X287 le302 hA287 hK297 hI299
                    have I328 : Inv w305 S302 (X287) := hI299
                    have q2271 : f 82 = (Value.int .i64 (s2)) := ((hA287.2.2.2.2.2.2.2.2.2.1 _ rfl).1 _ rfl).trans (hA287.2.2.2.2.2.2.2.2.2.1 _ rfl).2
                    have q2272 : f 83 = (Value.bool (decide (s2 < 0))) := ((hA287.2.2.2.2.2.2.2.2.2.2.1 _ rfl).1 _ rfl).trans (hA287.2.2.2.2.2.2.2.2.2.2.1 _ rfl).2
                    have q2273 : f 84 = (Value.bool (decide (s2 < 0))) := ((hA287.2.2.2.2.2.2.2.2.2.2.2.1 _ rfl).1 _ rfl).trans (hA287.2.2.2.2.2.2.2.2.2.2.2.1 _ rfl).2
                    have q2274 : f 85 = (fieldPtr (Value.pointer (some ⟨g1, 0, none⟩)) 1) := ((hA287.2.2.2.2.2.2.2.2.2.2.2.2.1 _ rfl).1 _ rfl).trans (hA287.2.2.2.2.2.2.2.2.2.2.2.2.1 _ rfl).2
                    have q2275 : f 86 = vs297 13 := (hA287.2.2.2.2.2.2.2.2.2.2.2.2.2.1 _ rfl).1 _ rfl
                    have r272 : RV S302 (vs297 13) a0.Doors := (hA287.2.2.2.2.2.2.2.2.2.2.2.2.2.1 _ rfl).2
                    obtain ⟨u356, hu356⟩ : ∃ u, vs297 13 = u := ⟨_, rfl⟩
                    rw [hu356] at q2275 r272
                    obtain ⟨z313, m313, k313, e454⟩ := rv_form r272
                    subst e454
                    have q2276 : f 87 = (Value.int .i64 ((i1 : Int))) := ((hA287.2.2.2.2.2.2.2.2.2.2.2.2.2.2.1 _ rfl).1 _ rfl).trans (hA287.2.2.2.2.2.2.2.2.2.2.2.2.2.2.1 _ rfl).2
                    have q2277 : f 88 = (elemPtr (vs297 13) ((i1 : Int)) (Enc.sz Gate)) := ((hA287.2.2.2.2.2.2.2.2.2.2.2.2.2.2.2.1 _ rfl).1 _ rfl).trans (hA287.2.2.2.2.2.2.2.2.2.2.2.2.2.2.2.1 _ rfl).2
                    simp only [hu356] at q2277
                    have q2277 : f 88 = (elemPtr (Value.slice z313 m313 k313) ((i1 : Int)) (Enc.sz Gate)) := q2277
                    refine opg_taken (c := decide (s2 < 0)) rfl rfl rfl rfl q2273 hc63 (op_fieldAddr_t (v := (elemPtr (Value.slice z313 m313 k313) ((i1 : Int)) (Enc.sz Gate))) rfl fa33_0 q2277 (r272.elem I328.in_ hx21) ?_)
                    refine ⟨_, _, rfl, PH.Le.refl _, ?_, ?_⟩
                    · show (fieldPtr (elemPtr (Value.slice z313 m313 k313) ((i1 : Int)) (Enc.sz Gate)) 0) = (fieldPtr (elemPtr (vs297 13) ((i1 : Int)) (Enc.sz Gate)) 0)
                      simp only [hu356] <;> rfl
                    · exact I328
                  · intro vs298 f w306 S303 X288 le303 hA288 hK298 hI300
                    have I329 : Inv w306 S303 (X288) := hI300
                    have q2278 : f 82 = (Value.int .i64 (s2)) := ((hA288.2.2.2.2.2.2.2.2.2.1 _ rfl).1 _ rfl).trans (hA288.2.2.2.2.2.2.2.2.2.1 _ rfl).2
                    have q2279 : f 83 = (Value.bool (decide (s2 < 0))) := ((hA288.2.2.2.2.2.2.2.2.2.2.1 _ rfl).1 _ rfl).trans (hA288.2.2.2.2.2.2.2.2.2.2.1 _ rfl).2
                    have q2280 : f 84 = (Value.bool (decide (s2 < 0))) := ((hA288.2.2.2.2.2.2.2.2.2.2.2.1 _ rfl).1 _ rfl).trans (hA288.2.2.2.2.2.2.2.2.2.2.2.1 _ rfl).2
                    have q2281 : f 85 = (fieldPtr (Value.pointer (some ⟨g1, 0, none⟩)) 1) := ((hA288.2.2.2.2.2.2.2.2.2.2.2.2.1 _ rfl).1 _ rfl).trans (hA288.2.2.2.2.2.2.2.2.2.2.2.2.1 _ rfl).2
                    have q2282 : f 86 = vs298 13 := (hA288.2.2.2.2.2.2.2.2.2.2.2.2.2.1 _ rfl).1 _ rfl
                    have r273 : RV S303 (vs298 13) a0.Doors := (hA288.2.2.2.2.2.2.2.2.2.2.2.2.2.1 _ rfl).2
                    obtain ⟨u357, hu357⟩ : ∃ u, vs298 13 = u := ⟨_, rfl⟩
                    rw [hu357] at q2282 r273
                    obtain ⟨z314, m314, k314, e455⟩ := rv_form r273
                    subst e455
                    have q2283 : f 87 = (Value.int .i64 ((i1 : Int))) := ((hA288.2.2.2.2.2.2.2.2.2.2.2.2.2.2.1 _ rfl).1 _ rfl).trans (hA288.2.2.2.2.2.2.2.2.2.2.2.2.2.2.1 _ rfl).2
                    have q2284 : f 88 = (elemPtr (vs298 13) ((i1 : Int)) (Enc.sz Gate)) := ((hA288.2.2.2.2.2.2.2.2.2.2.2.2.2.2.2.1 _ rfl).1 _ rfl).trans (hA288.2.2.2.2.2.2.2.2.2.2.2.2.2.2.2.1 _ rfl).2
                    simp only [hu357] at q2284
                    have q2284 : f 88 = (elemPtr (Value.slice z314 m314 k314) ((i1 : Int)) (Enc.sz Gate)) := q2284
                    have q2285 : f 89 = (fieldPtr (elemPtr (vs298 13) ((i1 : Int)) (Enc.sz Gate)) 0) := ((hA288.2.2.2.2.2.2.2.2.2.2.2.2.2.2.2.2.1 _ rfl).1 _ rfl).trans (hA288.2.2.2.2.2.2.2.2.2.2.2.2.2.2.2.2.1 _ rfl).2
                    simp only [hu357] at q2285
                    have q2285 : f 89 = (fieldPtr (elemPtr (Value.slice z314 m314 k314) ((i1 : Int)) (Enc.sz Gate)) 0) := q2285
                    refine opg_taken (c := decide (s2 < 0)) rfl rfl rfl rfl q2280 hc63 (op_load_int (v := (fieldPtr (elemPtr (Value.slice z314 m314 k314) ((i1 : Int)) (Enc.sz Gate)) 0)) (e := x21.Wait) rfl sh3 q2285 ((r273.elem I329.in_ hx21).fld Gate.fld0) ?_)
                    refine ⟨_, _, rfl, PH.Le.refl _, ?_, ?_⟩
                    · exact rfl
                    · exact I329
                  · intro vs299 f w307 S304 X289 le304 hA289 hK299 hI301
                    have I330 : Inv w307 S304 (X289) := hI301
                    have q2286 : f 82 = (Value.int .i64 (s2)) := ((hA289.2.2.2.2.2.2.2.2.2.1 _ rfl).1 _ rfl).trans (hA289.2.2.2.2.2.2.2.2.2.1 _ rfl).2
                    have q2287 : f 83 = (Value.bool (decide (s2 < 0))) := ((hA289.2.2.2.2.2.2.2.2.2.2.1 _ rfl).1 _ rfl).trans (hA289.2.2.2.2.2.2.2.2.2.2.1 _ rfl).2
                    have q2288 : f 84 = (Value.bool (decide (s2 < 0))) := ((hA289.2.2.2.2.2.2.2.2.2.2.2.1 _ rfl).1 _ rfl).trans (hA289.2.2.2.2.2.2.2.2.2.2.2.1 _ rfl).2
                    refine opg_taken (c := decide (s2 < 0)) rfl rfl rfl rfl q2288 hc63 (op_fieldAddr_t (v := (Value.pointer (some ⟨g1, 0, none⟩))) rfl fa24_1 ((hK299 3 (keep_of rfl)).trans e402) ((p1.mono ((le2.trans le257).trans le304)).at_ I330) ?_)
                    refine ⟨_, _, rfl, PH.Le.refl _, ?_, ?_⟩
                    · exact rfl
                    · exact I330
                  · intro vs300 f w308 S305 X290 le305 hA290 hK300 hI302
                    have I331 : Inv w308 S305 (X290) := hI302
                    have q2289 : f 82 = (Value.int .i64 (s2)) := ((hA290.2.2.2.2.2.2.2.2.2.1 _ rfl).1 _ rfl).trans (hA290.2.2.2.2.2.2.2.2.2.1 _ rfl).2
                    have q2290 : f 83 = (Value.bool (decide (s2 < 0))) := ((hA290.2.2.2.2.2.2.2.2.2.2.1 _ rfl).1 _ rfl).trans (hA290.2.2.2.2.2.2.2.2.2.2.1 _ rfl).2
                    have q2291 : f 84 = (Value.bool (decide (s2 < 0))) := ((hA290.2.2.2.2.2.2.2.2.2.2.2.1 _ rfl).1 _ rfl).trans (hA290.2.2.2.2.2.2.2.2.2.2.2.1 _ rfl).2
                    have q2292 : f 91 = (fieldPtr (Value.pointer (some ⟨g1, 0, none⟩)) 1) := ((hA290.2.2.2.2.2.2.2.2.2.2.2.2.1 _ rfl).1 _ rfl).trans (hA290.2.2.2.2.2.2.2.2.2.2.2.2.1 _ rfl).2
                    refine opg_taken (c := decide (s2 < 0)) rfl rfl rfl rfl q2291 hc63 (op_load (v := (fieldPtr (Value.pointer (some ⟨g1, 0, none⟩)) 1)) (e := a0.Doors) rfl sh22 q2292 (((p1.mono ((le2.trans le257).trans le305)).at_ I331).fld Panel.fld1) (fun u358 hu358 => ?_))
                    obtain ⟨z315, m315, k315, e456⟩ := rv_form hu358
                    subst e456
                    refine ⟨_, _, rfl, PH.Le.refl _, ?_, ?_⟩
                    · exact hu358
                    · exact I331
                  · intro vs301 f w309 S306 X291 le306 hA291 hK301 hI303
                    have I332 : Inv w309 S306 (X291) := hI303
                    have q2293 : f 82 = (Value.int .i64 (s2)) := ((hA291.2.2.2.2.2.2.2.2.2.1 _ rfl).1 _ rfl).trans (hA291.2.2.2.2.2.2.2.2.2.1 _ rfl).2
                    have q2294 : f 83 = (Value.bool (decide (s2 < 0))) := ((hA291.2.2.2.2.2.2.2.2.2.2.1 _ rfl).1 _ rfl).trans (hA291.2.2.2.2.2.2.2.2.2.2.1 _ rfl).2
                    have q2295 : f 84 = (Value.bool (decide (s2 < 0))) := ((hA291.2.2.2.2.2.2.2.2.2.2.2.1 _ rfl).1 _ rfl).trans (hA291.2.2.2.2.2.2.2.2.2.2.2.1 _ rfl).2
                    refine opg_taken (c := decide (s2 < 0)) rfl rfl rfl rfl q2295 hc63 (op_move (v := (Value.int .i64 (s2))) rfl ((hK301 11 (keep_of rfl)).trans e404) ?_)
                    refine ⟨_, _, rfl, PH.Le.refl _, ?_, ?_⟩
                    · exact rfl
                    · exact I332
                  · intro vs302 f w310 S307 X292 le307 hA292 hK302 hI304
                    have I333 : Inv w310 S307 (X292) := hI304
                    have q2296 : f 82 = (Value.int .i64 (s2)) := ((hA292.2.2.2.2.2.2.2.2.2.1 _ rfl).1 _ rfl).trans (hA292.2.2.2.2.2.2.2.2.2.1 _ rfl).2
                    have q2297 : f 83 = (Value.bool (decide (s2 < 0))) := ((hA292.2.2.2.2.2.2.2.2.2.2.1 _ rfl).1 _ rfl).trans (hA292.2.2.2.2.2.2.2.2.2.2.1 _ rfl).2
                    have q2298 : f 84 = (Value.bool (decide (s2 < 0))) := ((hA292.2.2.2.2.2.2.2.2.2.2.2.1 _ rfl).1 _ rfl).trans (hA292.2.2.2.2.2.2.2.2.2.2.2.1 _ rfl).2
                    have q2299 : f 91 = (fieldPtr (Value.pointer (some ⟨g1, 0, none⟩)) 1) := ((hA292.2.2.2.2.2.2.2.2.2.2.2.2.1 _ rfl).1 _ rfl).trans (hA292.2.2.2.2.2.2.2.2.2.2.2.2.1 _ rfl).2
                    have q2300 : f 92 = vs302 19 := (hA292.2.2.2.2.2.2.2.2.2.2.2.2.2.1 _ rfl).1 _ rfl
                    have r274 : RV S307 (vs302 19) a0.Doors := (hA292.2.2.2.2.2.2.2.2.2.2.2.2.2.1 _ rfl).2
                    obtain ⟨u359, hu359⟩ : ∃ u, vs302 19 = u := ⟨_, rfl⟩
                    rw [hu359] at q2300 r274
                    obtain ⟨z316, m316, k316, e457⟩ := rv_form r274
                    subst e457
                    have q2301 : f 93 = (Value.int .i64 (s2)) := ((hA292.2.2.2.2.2.2.2.2.2.2.2.2.2.2.1 _ rfl).1 _ rfl).trans (hA292.2.2.2.2.2.2.2.2.2.2.2.2.2.2.1 _ rfl).2
                    refine opg_taken (c := decide (s2 < 0)) rfl rfl rfl rfl q2298 hc63 (op_indexAddr_rv (v := (Value.slice z316 m316 k316)) (i := s2) (e := x22) rfl Try.underlying22 sh33 q2300 r274 q2301 hx22 ?_)
                    refine ⟨_, _, rfl, PH.Le.refl _, ?_, ?_⟩
                    · show (elemPtr (Value.slice z316 m316 k316) (s2) (Enc.sz Gate)) = (elemPtr (vs302 19) (s2) (Enc.sz Gate))
                      simp only [hu359] <;> rfl
                    · exact I333
                  · intro vs303 f w311 S308 X293 le308 hA293 hK303 hI305
                    have I334 : Inv w311 S308 (X293) := hI305
                    have q2302 : f 82 = (Value.int .i64 (s2)) := ((hA293.2.2.2.2.2.2.2.2.2.1 _ rfl).1 _ rfl).trans (hA293.2.2.2.2.2.2.2.2.2.1 _ rfl).2
                    have q2303 : f 83 = (Value.bool (decide (s2 < 0))) := ((hA293.2.2.2.2.2.2.2.2.2.2.1 _ rfl).1 _ rfl).trans (hA293.2.2.2.2.2.2.2.2.2.2.1 _ rfl).2
                    have q2304 : f 84 = (Value.bool (decide (s2 < 0))) := ((hA293.2.2.2.2.2.2.2.2.2.2.2.1 _ rfl).1 _ rfl).trans (hA293.2.2.2.2.2.2.2.2.2.2.2.1 _ rfl).2
                    have q2305 : f 91 = (fieldPtr (Value.pointer (some ⟨g1, 0, none⟩)) 1) := ((hA293.2.2.2.2.2.2.2.2.2.2.2.2.1 _ rfl).1 _ rfl).trans (hA293.2.2.2.2.2.2.2.2.2.2.2.2.1 _ rfl).2
                    have q2306 : f 92 = vs303 19 := (hA293.2.2.2.2.2.2.2.2.2.2.2.2.2.1 _ rfl).1 _ rfl
                    have r275 : RV S308 (vs303 19) a0.Doors := (hA293.2.2.2.2.2.2.2.2.2.2.2.2.2.1 _ rfl).2
                    obtain ⟨u360, hu360⟩ : ∃ u, vs303 19 = u := ⟨_, rfl⟩
                    rw [hu360] at q2306 r275
                    obtain ⟨z317, m317, k317, e458⟩ := rv_form r275
                    subst e458
                    have q2307 : f 93 = (Value.int .i64 (s2)) := ((hA293.2.2.2.2.2.2.2.2.2.2.2.2.2.2.1 _ rfl).1 _ rfl).trans (hA293.2.2.2.2.2.2.2.2.2.2.2.2.2.2.1 _ rfl).2
                    have q2308 : f 94 = (elemPtr (vs303 19) (s2) (Enc.sz Gate)) := ((hA293.2.2.2.2.2.2.2.2.2.2.2.2.2.2.2.1 _ rfl).1 _ rfl).trans (hA293.2.2.2.2.2.2.2.2.2.2.2.2.2.2.2.1 _ rfl).2
                    simp only [hu360] at q2308
                    have q2308 : f 94 = (elemPtr (Value.slice z317 m317 k317) (s2) (Enc.sz Gate)) := q2308
                    refine opg_taken (c := decide (s2 < 0)) rfl rfl rfl rfl q2304 hc63 (op_fieldAddr_t (v := (elemPtr (Value.slice z317 m317 k317) (s2) (Enc.sz Gate))) rfl fa33_0 q2308 (r275.elem I334.in_ hx22) ?_)
                    refine ⟨_, _, rfl, PH.Le.refl _, ?_, ?_⟩
                    · show (fieldPtr (elemPtr (Value.slice z317 m317 k317) (s2) (Enc.sz Gate)) 0) = (fieldPtr (elemPtr (vs303 19) (s2) (Enc.sz Gate)) 0)
                      simp only [hu360] <;> rfl
                    · exact I334
                  · intro vs304 f w312 S309 X294 le309 hA294 hK304 hI306
                    have I335 : Inv w312 S309 (X294) := hI306
                    have q2309 : f 82 = (Value.int .i64 (s2)) := ((hA294.2.2.2.2.2.2.2.2.2.1 _ rfl).1 _ rfl).trans (hA294.2.2.2.2.2.2.2.2.2.1 _ rfl).2
                    have q2310 : f 83 = (Value.bool (decide (s2 < 0))) := ((hA294.2.2.2.2.2.2.2.2.2.2.1 _ rfl).1 _ rfl).trans (hA294.2.2.2.2.2.2.2.2.2.2.1 _ rfl).2
                    have q2311 : f 84 = (Value.bool (decide (s2 < 0))) := ((hA294.2.2.2.2.2.2.2.2.2.2.2.1 _ rfl).1 _ rfl).trans (hA294.2.2.2.2.2.2.2.2.2.2.2.1 _ rfl).2
                    have q2312 : f 91 = (fieldPtr (Value.pointer (some ⟨g1, 0, none⟩)) 1) := ((hA294.2.2.2.2.2.2.2.2.2.2.2.2.1 _ rfl).1 _ rfl).trans (hA294.2.2.2.2.2.2.2.2.2.2.2.2.1 _ rfl).2
                    have q2313 : f 92 = vs304 19 := (hA294.2.2.2.2.2.2.2.2.2.2.2.2.2.1 _ rfl).1 _ rfl
                    have r276 : RV S309 (vs304 19) a0.Doors := (hA294.2.2.2.2.2.2.2.2.2.2.2.2.2.1 _ rfl).2
                    obtain ⟨u361, hu361⟩ : ∃ u, vs304 19 = u := ⟨_, rfl⟩
                    rw [hu361] at q2313 r276
                    obtain ⟨z318, m318, k318, e459⟩ := rv_form r276
                    subst e459
                    have q2314 : f 93 = (Value.int .i64 (s2)) := ((hA294.2.2.2.2.2.2.2.2.2.2.2.2.2.2.1 _ rfl).1 _ rfl).trans (hA294.2.2.2.2.2.2.2.2.2.2.2.2.2.2.1 _ rfl).2
                    have q2315 : f 94 = (elemPtr (vs304 19) (s2) (Enc.sz Gate)) := ((hA294.2.2.2.2.2.2.2.2.2.2.2.2.2.2.2.1 _ rfl).1 _ rfl).trans (hA294.2.2.2.2.2.2.2.2.2.2.2.2.2.2.2.1 _ rfl).2
                    simp only [hu361] at q2315
                    have q2315 : f 94 = (elemPtr (Value.slice z318 m318 k318) (s2) (Enc.sz Gate)) := q2315
                    have q2316 : f 95 = (fieldPtr (elemPtr (vs304 19) (s2) (Enc.sz Gate)) 0) := ((hA294.2.2.2.2.2.2.2.2.2.2.2.2.2.2.2.2.1 _ rfl).1 _ rfl).trans (hA294.2.2.2.2.2.2.2.2.2.2.2.2.2.2.2.2.1 _ rfl).2
                    simp only [hu361] at q2316
                    have q2316 : f 95 = (fieldPtr (elemPtr (Value.slice z318 m318 k318) (s2) (Enc.sz Gate)) 0) := q2316
                    refine opg_taken (c := decide (s2 < 0)) rfl rfl rfl rfl q2311 hc63 (op_load_int (v := (fieldPtr (elemPtr (Value.slice z318 m318 k318) (s2) (Enc.sz Gate)) 0)) (e := x22.Wait) rfl sh3 q2316 ((r276.elem I335.in_ hx22).fld Gate.fld0) ?_)
                    refine ⟨_, _, rfl, PH.Le.refl _, ?_, ?_⟩
                    · exact rfl
                    · exact I335
                  · intro vs305 f w313 S310 X295 le310 hA295 hK305 hI307
                    have I336 : Inv w313 S310 (X295) := hI307
                    have q2317 : f 82 = (Value.int .i64 (s2)) := ((hA295.2.2.2.2.2.2.2.2.2.1 _ rfl).1 _ rfl).trans (hA295.2.2.2.2.2.2.2.2.2.1 _ rfl).2
                    have q2318 : f 83 = (Value.bool (decide (s2 < 0))) := ((hA295.2.2.2.2.2.2.2.2.2.2.1 _ rfl).1 _ rfl).trans (hA295.2.2.2.2.2.2.2.2.2.2.1 _ rfl).2
                    have q2319 : f 84 = (Value.bool (decide (s2 < 0))) := ((hA295.2.2.2.2.2.2.2.2.2.2.2.1 _ rfl).1 _ rfl).trans (hA295.2.2.2.2.2.2.2.2.2.2.2.1 _ rfl).2
                    have q2320 : f 85 = (fieldPtr (Value.pointer (some ⟨g1, 0, none⟩)) 1) := ((hA295.2.2.2.2.2.2.2.2.2.2.2.2.1 _ rfl).1 _ rfl).trans (hA295.2.2.2.2.2.2.2.2.2.2.2.2.1 _ rfl).2
                    have q2321 : f 86 = vs305 13 := (hA295.2.2.2.2.2.2.2.2.2.2.2.2.2.1 _ rfl).1 _ rfl
                    have r277 : RV S310 (vs305 13) a0.Doors := (hA295.2.2.2.2.2.2.2.2.2.2.2.2.2.1 _ rfl).2
                    obtain ⟨u362, hu362⟩ : ∃ u, vs305 13 = u := ⟨_, rfl⟩
                    rw [hu362] at q2321 r277
                    obtain ⟨z319, m319, k319, e460⟩ := rv_form r277
                    subst e460
                    have q2322 : f 87 = (Value.int .i64 ((i1 : Int))) := ((hA295.2.2.2.2.2.2.2.2.2.2.2.2.2.2.1 _ rfl).1 _ rfl).trans (hA295.2.2.2.2.2.2.2.2.2.2.2.2.2.2.1 _ rfl).2
                    have q2323 : f 88 = (elemPtr (vs305 13) ((i1 : Int)) (Enc.sz Gate)) := ((hA295.2.2.2.2.2.2.2.2.2.2.2.2.2.2.2.1 _ rfl).1 _ rfl).trans (hA295.2.2.2.2.2.2.2.2.2.2.2.2.2.2.2.1 _ rfl).2
                    simp only [hu362] at q2323
                    have q2323 : f 88 = (elemPtr (Value.slice z319 m319 k319) ((i1 : Int)) (Enc.sz Gate)) := q2323
                    have q2324 : f 89 = (fieldPtr (elemPtr (vs305 13) ((i1 : Int)) (Enc.sz Gate)) 0) := ((hA295.2.2.2.2.2.2.2.2.2.2.2.2.2.2.2.2.1 _ rfl).1 _ rfl).trans (hA295.2.2.2.2.2.2.2.2.2.2.2.2.2.2.2.2.1 _ rfl).2
                    simp only [hu362] at q2324
                    have q2324 : f 89 = (fieldPtr (elemPtr (Value.slice z319 m319 k319) ((i1 : Int)) (Enc.sz Gate)) 0) := q2324
                    have q2325 : f 90 = (Value.int .i64 (x21.Wait)) := ((hA295.2.2.2.2.2.2.2.2.2.2.2.2.2.2.2.2.2.1 _ rfl).1 _ rfl).trans (hA295.2.2.2.2.2.2.2.2.2.2.2.2.2.2.2.2.2.1 _ rfl).2
                    have q2326 : f 91 = (fieldPtr (Value.pointer (some ⟨g1, 0, none⟩)) 1) := ((hA295.2.2.2.2.2.2.2.2.2.2.2.2.2.2.2.2.2.2.1 _ rfl).1 _ rfl).trans (hA295.2.2.2.2.2.2.2.2.2.2.2.2.2.2.2.2.2.2.1 _ rfl).2
                    have q2327 : f 92 = vs305 19 := (hA295.2.2.2.2.2.2.2.2.2.2.2.2.2.2.2.2.2.2.2.1 _ rfl).1 _ rfl
                    have r278 : RV S310 (vs305 19) a0.Doors := (hA295.2.2.2.2.2.2.2.2.2.2.2.2.2.2.2.2.2.2.2.1 _ rfl).2
                    obtain ⟨u363, hu363⟩ : ∃ u, vs305 19 = u := ⟨_, rfl⟩
                    rw [hu363] at q2327 r278
                    obtain ⟨z320, m320, k320, e461⟩ := rv_form r278
                    subst e461
                    have q2328 : f 93 = (Value.int .i64 (s2)) := ((hA295.2.2.2.2.2.2.2.2.2.2.2.2.2.2.2.2.2.2.2.2.1 _ rfl).1 _ rfl).trans (hA295.2.2.2.2.2.2.2.2.2.2.2.2.2.2.2.2.2.2.2.2.1 _ rfl).2
                    have q2329 : f 94 = (elemPtr (vs305 19) (s2) (Enc.sz Gate)) := ((hA295.2.2.2.2.2.2.2.2.2.2.2.2.2.2.2.2.2.2.2.2.2.1 _ rfl).1 _ rfl).trans (hA295.2.2.2.2.2.2.2.2.2.2.2.2.2.2.2.2.2.2.2.2.2.1 _ rfl).2
                    simp only [hu363] at q2329
                    have q2329 : f 94 = (elemPtr (Value.slice z320 m320 k320) (s2) (Enc.sz Gate)) := q2329
                    have q2330 : f 95 = (fieldPtr (elemPtr (vs305 19) (s2) (Enc.sz Gate)) 0) := ((hA295.2.2.2.2.2.2.2.2.2.2.2.2.2.2.2.2.2.2.2.2.2.2.1 _ rfl).1 _ rfl).trans (hA295.2.2.2.2.2.2.2.2.2.2.2.2.2.2.2.2.2.2.2.2.2.2.1 _ rfl).2
                    simp only [hu363] at q2330
                    have q2330 : f 95 = (fieldPtr (elemPtr (Value.slice z320 m320 k320) (s2) (Enc.sz Gate)) 0) := q2330
                    have q2331 : f 96 = (Value.int .i64 (x22.Wait)) := ((hA295.2.2.2.2.2.2.2.2.2.2.2.2.2.2.2.2.2.2.2.2.2.2.2.1 _ rfl).1 _ rfl).trans (hA295.2.2.2.2.2.2.2.2.2.2.2.2.2.2.2.2.2.2.2.2.2.2.2.1 _ rfl).2
                    refine opg_taken (c := decide (s2 < 0)) rfl rfl rfl rfl q2319 hc63 (op_gtr (a := x21.Wait) (b := x22.Wait) rfl q2325 q2331 ?_)
                    refine ⟨_, _, rfl, PH.Le.refl _, ?_, ?_⟩
                    · exact rfl
                    · exact I336
                  · intro vs306 f w314 S311 X296 le311 hA296 hK306 hI308
                    have I337 : Inv w314 S311 (X296) := hI308
                    have q2332 : f 73 = (fieldPtr (Value.pointer (some ⟨g1, 0, none⟩)) 1) := ((hA296.1 _ rfl).1 _ rfl).trans (hA296.1 _ rfl).2
                    have q2333 : f 74 = vs306 1 := (hA296.2.1 _ rfl).1 _ rfl
                    have r279 : RV S311 (vs306 1) a0.Doors := (hA296.2.1 _ rfl).2
                    obtain ⟨u364, hu364⟩ : ∃ u, vs306 1 = u := ⟨_, rfl⟩
                    rw [hu364] at q2333 r279
                    obtain ⟨z321, m321, k321, e462⟩ := rv_form r279
                    subst e462
                    have q2334 : f 75 = (Value.int .i64 ((i1 : Int))) := ((hA296.2.2.1 _ rfl).1 _ rfl).trans (hA296.2.2.1 _ rfl).2
                    have q2335 : f 76 = (elemPtr (vs306 1) ((i1 : Int)) (Enc.sz Gate)) := ((hA296.2.2.2.1 _ rfl).1 _ rfl).trans (hA296.2.2.2.1 _ rfl).2
                    simp only [hu364] at q2335
                    have q2335 : f 76 = (elemPtr (Value.slice z321 m321 k321) ((i1 : Int)) (Enc.sz Gate)) := q2335
                    have q2336 : f 77 = (fieldPtr (elemPtr (vs306 1) ((i1 : Int)) (Enc.sz Gate)) 1) := ((hA296.2.2.2.2.1 _ rfl).1 _ rfl).trans (hA296.2.2.2.2.1 _ rfl).2
                    simp only [hu364] at q2336
                    have q2336 : f 77 = (fieldPtr (elemPtr (Value.slice z321 m321 k321) ((i1 : Int)) (Enc.sz Gate)) 1) := q2336
                    have q2337 : f 78 = vs306 5 := (hA296.2.2.2.2.2.1 _ rfl).1 _ rfl
                    have r280 : RV S311 (vs306 5) x21.When := (hA296.2.2.2.2.2.1 _ rfl).2
                    obtain ⟨u365, hu365⟩ : ∃ u, vs306 5 = u := ⟨_, rfl⟩
                    rw [hu365] at q2337 r280
                    obtain ⟨z322, m322, k322, e463⟩ := rv_form r280
                    subst e463
                    have q2338 : f 79 = (Value.int .i64 ((x21.When.length : Int))) := ((hA296.2.2.2.2.2.2.1 _ rfl).1 _ rfl).trans (hA296.2.2.2.2.2.2.1 _ rfl).2
                    have q2339 : f 80 = (Value.bool (decide (0 < (x21.When.length : Int)))) := ((hA296.2.2.2.2.2.2.2.1 _ rfl).1 _ rfl).trans (hA296.2.2.2.2.2.2.2.1 _ rfl).2
                    have q2340 : f 81 = (Value.bool (decide (0 < (x21.When.length : Int)))) := ((hA296.2.2.2.2.2.2.2.2.1 _ rfl).1 _ rfl).trans (hA296.2.2.2.2.2.2.2.2.1 _ rfl).2
                    have q2341 : f 82 = (Value.int .i64 (s2)) := ((hA296.2.2.2.2.2.2.2.2.2.1 _ rfl).1 _ rfl).trans (hA296.2.2.2.2.2.2.2.2.2.1 _ rfl).2
                    have q2342 : f 83 = (Value.bool (decide (s2 < 0))) := ((hA296.2.2.2.2.2.2.2.2.2.2.1 _ rfl).1 _ rfl).trans (hA296.2.2.2.2.2.2.2.2.2.2.1 _ rfl).2
                    have q2343 : f 84 = (Value.bool (decide (s2 < 0))) := ((hA296.2.2.2.2.2.2.2.2.2.2.2.1 _ rfl).1 _ rfl).trans (hA296.2.2.2.2.2.2.2.2.2.2.2.1 _ rfl).2
                    have q2344 : f 85 = (fieldPtr (Value.pointer (some ⟨g1, 0, none⟩)) 1) := ((hA296.2.2.2.2.2.2.2.2.2.2.2.2.1 _ rfl).1 _ rfl).trans (hA296.2.2.2.2.2.2.2.2.2.2.2.2.1 _ rfl).2
                    have q2345 : f 86 = vs306 13 := (hA296.2.2.2.2.2.2.2.2.2.2.2.2.2.1 _ rfl).1 _ rfl
                    have r281 : RV S311 (vs306 13) a0.Doors := (hA296.2.2.2.2.2.2.2.2.2.2.2.2.2.1 _ rfl).2
                    obtain ⟨u366, hu366⟩ : ∃ u, vs306 13 = u := ⟨_, rfl⟩
                    rw [hu366] at q2345 r281
                    obtain ⟨z323, m323, k323, e464⟩ := rv_form r281
                    subst e464
                    have q2346 : f 87 = (Value.int .i64 ((i1 : Int))) := ((hA296.2.2.2.2.2.2.2.2.2.2.2.2.2.2.1 _ rfl).1 _ rfl).trans (hA296.2.2.2.2.2.2.2.2.2.2.2.2.2.2.1 _ rfl).2
                    have q2347 : f 88 = (elemPtr (vs306 13) ((i1 : Int)) (Enc.sz Gate)) := ((hA296.2.2.2.2.2.2.2.2.2.2.2.2.2.2.2.1 _ rfl).1 _ rfl).trans (hA296.2.2.2.2.2.2.2.2.2.2.2.2.2.2.2.1 _ rfl).2
                    simp only [hu366] at q2347
                    have q2347 : f 88 = (elemPtr (Value.slice z323 m323 k323) ((i1 : Int)) (Enc.sz Gate)) := q2347
                    have q2348 : f 89 = (fieldPtr (elemPtr (vs306 13) ((i1 : Int)) (Enc.sz Gate)) 0) := ((hA296.2.2.2.2.2.2.2.2.2.2.2.2.2.2.2.2.1 _ rfl).1 _ rfl).trans (hA296.2.2.2.2.2.2.2.2.2.2.2.2.2.2.2.2.1 _ rfl).2
                    simp only [hu366] at q2348
                    have q2348 : f 89 = (fieldPtr (elemPtr (Value.slice z323 m323 k323) ((i1 : Int)) (Enc.sz Gate)) 0) := q2348
                    have q2349 : f 90 = (Value.int .i64 (x21.Wait)) := ((hA296.2.2.2.2.2.2.2.2.2.2.2.2.2.2.2.2.2.1 _ rfl).1 _ rfl).trans (hA296.2.2.2.2.2.2.2.2.2.2.2.2.2.2.2.2.2.1 _ rfl).2
                    have q2350 : f 91 = (fieldPtr (Value.pointer (some ⟨g1, 0, none⟩)) 1) := ((hA296.2.2.2.2.2.2.2.2.2.2.2.2.2.2.2.2.2.2.1 _ rfl).1 _ rfl).trans (hA296.2.2.2.2.2.2.2.2.2.2.2.2.2.2.2.2.2.2.1 _ rfl).2
                    have q2351 : f 92 = vs306 19 := (hA296.2.2.2.2.2.2.2.2.2.2.2.2.2.2.2.2.2.2.2.1 _ rfl).1 _ rfl
                    have r282 : RV S311 (vs306 19) a0.Doors := (hA296.2.2.2.2.2.2.2.2.2.2.2.2.2.2.2.2.2.2.2.1 _ rfl).2
                    obtain ⟨u367, hu367⟩ : ∃ u, vs306 19 = u := ⟨_, rfl⟩
                    rw [hu367] at q2351 r282
                    obtain ⟨z324, m324, k324, e465⟩ := rv_form r282
                    subst e465
                    have q2352 : f 93 = (Value.int .i64 (s2)) := ((hA296.2.2.2.2.2.2.2.2.2.2.2.2.2.2.2.2.2.2.2.2.1 _ rfl).1 _ rfl).trans (hA296.2.2.2.2.2.2.2.2.2.2.2.2.2.2.2.2.2.2.2.2.1 _ rfl).2
                    have q2353 : f 94 = (elemPtr (vs306 19) (s2) (Enc.sz Gate)) := ((hA296.2.2.2.2.2.2.2.2.2.2.2.2.2.2.2.2.2.2.2.2.2.1 _ rfl).1 _ rfl).trans (hA296.2.2.2.2.2.2.2.2.2.2.2.2.2.2.2.2.2.2.2.2.2.1 _ rfl).2
                    simp only [hu367] at q2353
                    have q2353 : f 94 = (elemPtr (Value.slice z324 m324 k324) (s2) (Enc.sz Gate)) := q2353
                    have q2354 : f 95 = (fieldPtr (elemPtr (vs306 19) (s2) (Enc.sz Gate)) 0) := ((hA296.2.2.2.2.2.2.2.2.2.2.2.2.2.2.2.2.2.2.2.2.2.2.1 _ rfl).1 _ rfl).trans (hA296.2.2.2.2.2.2.2.2.2.2.2.2.2.2.2.2.2.2.2.2.2.2.1 _ rfl).2
                    simp only [hu367] at q2354
                    have q2354 : f 95 = (fieldPtr (elemPtr (Value.slice z324 m324 k324) (s2) (Enc.sz Gate)) 0) := q2354
                    have q2355 : f 96 = (Value.int .i64 (x22.Wait)) := ((hA296.2.2.2.2.2.2.2.2.2.2.2.2.2.2.2.2.2.2.2.2.2.2.2.1 _ rfl).1 _ rfl).trans (hA296.2.2.2.2.2.2.2.2.2.2.2.2.2.2.2.2.2.2.2.2.2.2.2.1 _ rfl).2
                    have q2356 : f 97 = (Value.bool (decide (x22.Wait < x21.Wait))) := ((hA296.2.2.2.2.2.2.2.2.2.2.2.2.2.2.2.2.2.2.2.2.2.2.2.2.1 _ rfl).1 _ rfl).trans (hA296.2.2.2.2.2.2.2.2.2.2.2.2.2.2.2.2.2.2.2.2.2.2.2.2.1 _ rfl).2
                    refine opg_taken (c := decide (0 < (x21.When.length : Int))) rfl rfl rfl rfl q2340 hc62 (op_pick_f (c := decide (s2 < 0)) (b := (Value.bool (decide (x22.Wait < x21.Wait)))) rfl q2343 hc63 q2356 ?_)
                    refine ⟨_, _, rfl, PH.Le.refl _, ?_, ?_⟩
                    · exact rfl
                    · exact I337
                  · intro vs307 f w315 S312 X297 le312 hA297 hK307 hI309
                    have I338 : Inv w315 S312 (X297) := hI309
                    have q2357 : f 73 = (fieldPtr (Value.pointer (some ⟨g1, 0, none⟩)) 1) := ((hA297.1 _ rfl).1 _ rfl).trans (hA297.1 _ rfl).2
                    have q2358 : f 74 = vs307 1 := (hA297.2.1 _ rfl).1 _ rfl
                    have r283 : RV S312 (vs307 1) a0.Doors := (hA297.2.1 _ rfl).2
                    obtain ⟨u368, hu368⟩ : ∃ u, vs307 1 = u := ⟨_, rfl⟩
                    rw [hu368] at q2358 r283
                    obtain ⟨z325, m325, k325, e466⟩ := rv_form r283
                    subst e466
                    have q2359 : f 75 = (Value.int .i64 ((i1 : Int))) := ((hA297.2.2.1 _ rfl).1 _ rfl).trans (hA297.2.2.1 _ rfl).2
                    have q2360 : f 76 = (elemPtr (vs307 1) ((i1 : Int)) (Enc.sz Gate)) := ((hA297.2.2.2.1 _ rfl).1 _ rfl).trans (hA297.2.2.2.1 _ rfl).2
                    simp only [hu368] at q2360
                    have q2360 : f 76 = (elemPtr (Value.slice z325 m325 k325) ((i1 : Int)) (Enc.sz Gate)) := q2360
                    have q2361 : f 77 = (fieldPtr (elemPtr (vs307 1) ((i1 : Int)) (Enc.sz Gate)) 1) := ((hA297.2.2.2.2.1 _ rfl).1 _ rfl).trans (hA297.2.2.2.2.1 _ rfl).2
                    simp only [hu368] at q2361
                    have q2361 : f 77 = (fieldPtr (elemPtr (Value.slice z325 m325 k325) ((i1 : Int)) (Enc.sz Gate)) 1) := q2361
                    have q2362 : f 78 = vs307 5 := (hA297.2.2.2.2.2.1 _ rfl).1 _ rfl
                    have r284 : RV S312 (vs307 5) x21.When := (hA297.2.2.2.2.2.1 _ rfl).2
                    obtain ⟨u369, hu369⟩ : ∃ u, vs307 5 = u := ⟨_, rfl⟩
                    rw [hu369] at q2362 r284
                    obtain ⟨z326, m326, k326, e467⟩ := rv_form r284
                    subst e467
                    have q2363 : f 79 = (Value.int .i64 ((x21.When.length : Int))) := ((hA297.2.2.2.2.2.2.1 _ rfl).1 _ rfl).trans (hA297.2.2.2.2.2.2.1 _ rfl).2
                    have q2364 : f 80 = (Value.bool (decide (0 < (x21.When.length : Int)))) := ((hA297.2.2.2.2.2.2.2.1 _ rfl).1 _ rfl).trans (hA297.2.2.2.2.2.2.2.1 _ rfl).2
                    have q2365 : f 81 = (Value.bool (decide (0 < (x21.When.length : Int)))) := ((hA297.2.2.2.2.2.2.2.2.1 _ rfl).1 _ rfl).trans (hA297.2.2.2.2.2.2.2.2.1 _ rfl).2
                    have q2366 : f 82 = (Value.int .i64 (s2)) := ((hA297.2.2.2.2.2.2.2.2.2.1 _ rfl).1 _ rfl).trans (hA297.2.2.2.2.2.2.2.2.2.1 _ rfl).2
                    have q2367 : f 83 = (Value.bool (decide (s2 < 0))) := ((hA297.2.2.2.2.2.2.2.2.2.2.1 _ rfl).1 _ rfl).trans (hA297.2.2.2.2.2.2.2.2.2.2.1 _ rfl).2
                    have q2368 : f 84 = (Value.bool (decide (s2 < 0))) := ((hA297.2.2.2.2.2.2.2.2.2.2.2.1 _ rfl).1 _ rfl).trans (hA297.2.2.2.2.2.2.2.2.2.2.2.1 _ rfl).2
                    have q2369 : f 85 = (fieldPtr (Value.pointer (some ⟨g1, 0, none⟩)) 1) := ((hA297.2.2.2.2.2.2.2.2.2.2.2.2.1 _ rfl).1 _ rfl).trans (hA297.2.2.2.2.2.2.2.2.2.2.2.2.1 _ rfl).2
                    have q2370 : f 86 = vs307 13 := (hA297.2.2.2.2.2.2.2.2.2.2.2.2.2.1 _ rfl).1 _ rfl
                    have r285 : RV S312 (vs307 13) a0.Doors := (hA297.2.2.2.2.2.2.2.2.2.2.2.2.2.1 _ rfl).2
                    obtain ⟨u370, hu370⟩ : ∃ u, vs307 13 = u := ⟨_, rfl⟩
                    rw [hu370] at q2370 r285
                    obtain ⟨z327, m327, k327, e468⟩ := rv_form r285
                    subst e468
                    have q2371 : f 87 = (Value.int .i64 ((i1 : Int))) := ((hA297.2.2.2.2.2.2.2.2.2.2.2.2.2.2.1 _ rfl).1 _ rfl).trans (hA297.2.2.2.2.2.2.2.2.2.2.2.2.2.2.1 _ rfl).2
                    have q2372 : f 88 = (elemPtr (vs307 13) ((i1 : Int)) (Enc.sz Gate)) := ((hA297.2.2.2.2.2.2.2.2.2.2.2.2.2.2.2.1 _ rfl).1 _ rfl).trans (hA297.2.2.2.2.2.2.2.2.2.2.2.2.2.2.2.1 _ rfl).2
                    simp only [hu370] at q2372
                    have q2372 : f 88 = (elemPtr (Value.slice z327 m327 k327) ((i1 : Int)) (Enc.sz Gate)) := q2372
                    have q2373 : f 89 = (fieldPtr (elemPtr (vs307 13) ((i1 : Int)) (Enc.sz Gate)) 0) := ((hA297.2.2.2.2.2.2.2.2.2.2.2.2.2.2.2.2.1 _ rfl).1 _ rfl).trans (hA297.2.2.2.2.2.2.2.2.2.2.2.2.2.2.2.2.1 _ rfl).2
                    simp only [hu370] at q2373
                    have q2373 : f 89 = (fieldPtr (elemPtr (Value.slice z327 m327 k327) ((i1 : Int)) (Enc.sz Gate)) 0) := q2373
                    have q2374 : f 90 = (Value.int .i64 (x21.Wait)) := ((hA297.2.2.2.2.2.2.2.2.2.2.2.2.2.2.2.2.2.1 _ rfl).1 _ rfl).trans (hA297.2.2.2.2.2.2.2.2.2.2.2.2.2.2.2.2.2.1 _ rfl).2
                    have q2375 : f 91 = (fieldPtr (Value.pointer (some ⟨g1, 0, none⟩)) 1) := ((hA297.2.2.2.2.2.2.2.2.2.2.2.2.2.2.2.2.2.2.1 _ rfl).1 _ rfl).trans (hA297.2.2.2.2.2.2.2.2.2.2.2.2.2.2.2.2.2.2.1 _ rfl).2
                    have q2376 : f 92 = vs307 19 := (hA297.2.2.2.2.2.2.2.2.2.2.2.2.2.2.2.2.2.2.2.1 _ rfl).1 _ rfl
                    have r286 : RV S312 (vs307 19) a0.Doors := (hA297.2.2.2.2.2.2.2.2.2.2.2.2.2.2.2.2.2.2.2.1 _ rfl).2
                    obtain ⟨u371, hu371⟩ : ∃ u, vs307 19 = u := ⟨_, rfl⟩
                    rw [hu371] at q2376 r286
                    obtain ⟨z328, m328, k328, e469⟩ := rv_form r286
                    subst e469
                    have q2377 : f 93 = (Value.int .i64 (s2)) := ((hA297.2.2.2.2.2.2.2.2.2.2.2.2.2.2.2.2.2.2.2.2.1 _ rfl).1 _ rfl).trans (hA297.2.2.2.2.2.2.2.2.2.2.2.2.2.2.2.2.2.2.2.2.1 _ rfl).2
                    have q2378 : f 94 = (elemPtr (vs307 19) (s2) (Enc.sz Gate)) := ((hA297.2.2.2.2.2.2.2.2.2.2.2.2.2.2.2.2.2.2.2.2.2.1 _ rfl).1 _ rfl).trans (hA297.2.2.2.2.2.2.2.2.2.2.2.2.2.2.2.2.2.2.2.2.2.1 _ rfl).2
                    simp only [hu371] at q2378
                    have q2378 : f 94 = (elemPtr (Value.slice z328 m328 k328) (s2) (Enc.sz Gate)) := q2378
                    have q2379 : f 95 = (fieldPtr (elemPtr (vs307 19) (s2) (Enc.sz Gate)) 0) := ((hA297.2.2.2.2.2.2.2.2.2.2.2.2.2.2.2.2.2.2.2.2.2.2.1 _ rfl).1 _ rfl).trans (hA297.2.2.2.2.2.2.2.2.2.2.2.2.2.2.2.2.2.2.2.2.2.2.1 _ rfl).2
                    simp only [hu371] at q2379
                    have q2379 : f 95 = (fieldPtr (elemPtr (Value.slice z328 m328 k328) (s2) (Enc.sz Gate)) 0) := q2379
                    have q2380 : f 96 = (Value.int .i64 (x22.Wait)) := ((hA297.2.2.2.2.2.2.2.2.2.2.2.2.2.2.2.2.2.2.2.2.2.2.2.1 _ rfl).1 _ rfl).trans (hA297.2.2.2.2.2.2.2.2.2.2.2.2.2.2.2.2.2.2.2.2.2.2.2.1 _ rfl).2
                    have q2381 : f 97 = (Value.bool (decide (x22.Wait < x21.Wait))) := ((hA297.2.2.2.2.2.2.2.2.2.2.2.2.2.2.2.2.2.2.2.2.2.2.2.2.1 _ rfl).1 _ rfl).trans (hA297.2.2.2.2.2.2.2.2.2.2.2.2.2.2.2.2.2.2.2.2.2.2.2.2.1 _ rfl).2
                    have q2382 : f 98 = (Value.bool (decide (x22.Wait < x21.Wait))) := ((hA297.2.2.2.2.2.2.2.2.2.2.2.2.2.2.2.2.2.2.2.2.2.2.2.2.2.1 _ rfl).1 _ rfl).trans (hA297.2.2.2.2.2.2.2.2.2.2.2.2.2.2.2.2.2.2.2.2.2.2.2.2.2.1 _ rfl).2
                    refine opg_plain rfl rfl (op_pick_t (c := decide (0 < (x21.When.length : Int))) (a := (Value.bool (decide (x22.Wait < x21.Wait)))) rfl q2365 hc62 q2382 ?_)
                    refine ⟨_, _, rfl, PH.Le.refl _, ?_, ?_⟩
                    · exact rfl
                    · exact I338
                  · intro vs308 f w316 S313 le313 hF11 hK308 hI310
                    have e470 : f 3 = (Value.pointer (some ⟨g1, 0, none⟩)) := (hK308 3 (keep_all rfl)).trans e402
                    have e471 : f 7 = (Value.int .i64 (x3.1)) := (hK308 7 (keep_all rfl)).trans e403
                    have e472 : f 11 = (Value.int .i64 (s2)) := (hK308 11 (keep_all rfl)).trans e404
                    have e473 : f 12 = (Value.int .i64 ((i1 : Int))) := (hK308 12 (keep_all rfl)).trans e405
                    have I339 : Inv w316 S313 (Fr) := hI310
                    have q2383 : f 73 = (fieldPtr (Value.pointer (some ⟨g1, 0, none⟩)) 1) := ((hF11.1 _ rfl).1 _ rfl).trans (hF11.1 _ rfl).2
                    have q2384 : f 74 = vs308 1 := (hF11.2.1 _ rfl).1 _ rfl
                    have r287 : RV S313 (vs308 1) a0.Doors := (hF11.2.1 _ rfl).2
                    obtain ⟨u372, hu372⟩ : ∃ u, vs308 1 = u := ⟨_, rfl⟩
                    rw [hu372] at q2384 r287
                    obtain ⟨z329, m329, k329, e474⟩ := rv_form r287
                    subst e474
                    have q2385 : f 75 = (Value.int .i64 ((i1 : Int))) := ((hF11.2.2.1 _ rfl).1 _ rfl).trans (hF11.2.2.1 _ rfl).2
                    have q2386 : f 76 = (elemPtr (vs308 1) ((i1 : Int)) (Enc.sz Gate)) := ((hF11.2.2.2.1 _ rfl).1 _ rfl).trans (hF11.2.2.2.1 _ rfl).2
                    simp only [hu372] at q2386
                    have q2386 : f 76 = (elemPtr (Value.slice z329 m329 k329) ((i1 : Int)) (Enc.sz Gate)) := q2386
                    have q2387 : f 77 = (fieldPtr (elemPtr (vs308 1) ((i1 : Int)) (Enc.sz Gate)) 1) := ((hF11.2.2.2.2.1 _ rfl).1 _ rfl).trans (hF11.2.2.2.2.1 _ rfl).2
                    simp only [hu372] at q2387
                    have q2387 : f 77 = (fieldPtr (elemPtr (Value.slice z329 m329 k329) ((i1 : Int)) (Enc.sz Gate)) 1) := q2387
                    have q2388 : f 78 = vs308 5 := (hF11.2.2.2.2.2.1 _ rfl).1 _ rfl
                    have r288 : RV S313 (vs308 5) x21.When := (hF11.2.2.2.2.2.1 _ rfl).2
                    obtain ⟨u373, hu373⟩ : ∃ u, vs308 5 = u := ⟨_, rfl⟩
                    rw [hu373] at q2388 r288
                    obtain ⟨z330, m330, k330, e475⟩ := rv_form r288
                    subst e475
                    have q2389 : f 79 = (Value.int .i64 ((x21.When.length : Int))) := ((hF11.2.2.2.2.2.2.1 _ rfl).1 _ rfl).trans (hF11.2.2.2.2.2.2.1 _ rfl).2
                    have q2390 : f 80 = (Value.bool (decide (0 < (x21.When.length : Int)))) := ((hF11.2.2.2.2.2.2.2.1 _ rfl).1 _ rfl).trans (hF11.2.2.2.2.2.2.2.1 _ rfl).2
                    have q2391 : f 81 = (Value.bool (decide (0 < (x21.When.length : Int)))) := ((hF11.2.2.2.2.2.2.2.2.1 _ rfl).1 _ rfl).trans (hF11.2.2.2.2.2.2.2.2.1 _ rfl).2
                    have q2392 : f 82 = (Value.int .i64 (s2)) := ((hF11.2.2.2.2.2.2.2.2.2.1 _ rfl).1 _ rfl).trans (hF11.2.2.2.2.2.2.2.2.2.1 _ rfl).2
                    have q2393 : f 83 = (Value.bool (decide (s2 < 0))) := ((hF11.2.2.2.2.2.2.2.2.2.2.1 _ rfl).1 _ rfl).trans (hF11.2.2.2.2.2.2.2.2.2.2.1 _ rfl).2
                    have q2394 : f 84 = (Value.bool (decide (s2 < 0))) := ((hF11.2.2.2.2.2.2.2.2.2.2.2.1 _ rfl).1 _ rfl).trans (hF11.2.2.2.2.2.2.2.2.2.2.2.1 _ rfl).2
                    have q2395 : f 85 = (fieldPtr (Value.pointer (some ⟨g1, 0, none⟩)) 1) := ((hF11.2.2.2.2.2.2.2.2.2.2.2.2.1 _ rfl).1 _ rfl).trans (hF11.2.2.2.2.2.2.2.2.2.2.2.2.1 _ rfl).2
                    have q2396 : f 86 = vs308 13 := (hF11.2.2.2.2.2.2.2.2.2.2.2.2.2.1 _ rfl).1 _ rfl
                    have r289 : RV S313 (vs308 13) a0.Doors := (hF11.2.2.2.2.2.2.2.2.2.2.2.2.2.1 _ rfl).2
                    obtain ⟨u374, hu374⟩ : ∃ u, vs308 13 = u := ⟨_, rfl⟩
                    rw [hu374] at q2396 r289
                    obtain ⟨z331, m331, k331, e476⟩ := rv_form r289
                    subst e476
                    have q2397 : f 87 = (Value.int .i64 ((i1 : Int))) := ((hF11.2.2.2.2.2.2.2.2.2.2.2.2.2.2.1 _ rfl).1 _ rfl).trans (hF11.2.2.2.2.2.2.2.2.2.2.2.2.2.2.1 _ rfl).2
                    have q2398 : f 88 = (elemPtr (vs308 13) ((i1 : Int)) (Enc.sz Gate)) := ((hF11.2.2.2.2.2.2.2.2.2.2.2.2.2.2.2.1 _ rfl).1 _ rfl).trans (hF11.2.2.2.2.2.2.2.2.2.2.2.2.2.2.2.1 _ rfl).2
                    simp only [hu374] at q2398
                    have q2398 : f 88 = (elemPtr (Value.slice z331 m331 k331) ((i1 : Int)) (Enc.sz Gate)) := q2398
                    have q2399 : f 89 = (fieldPtr (elemPtr (vs308 13) ((i1 : Int)) (Enc.sz Gate)) 0) := ((hF11.2.2.2.2.2.2.2.2.2.2.2.2.2.2.2.2.1 _ rfl).1 _ rfl).trans (hF11.2.2.2.2.2.2.2.2.2.2.2.2.2.2.2.2.1 _ rfl).2
                    simp only [hu374] at q2399
                    have q2399 : f 89 = (fieldPtr (elemPtr (Value.slice z331 m331 k331) ((i1 : Int)) (Enc.sz Gate)) 0) := q2399
                    have q2400 : f 90 = (Value.int .i64 (x21.Wait)) := ((hF11.2.2.2.2.2.2.2.2.2.2.2.2.2.2.2.2.2.1 _ rfl).1 _ rfl).trans (hF11.2.2.2.2.2.2.2.2.2.2.2.2.2.2.2.2.2.1 _ rfl).2
                    have q2401 : f 91 = (fieldPtr (Value.pointer (some ⟨g1, 0, none⟩)) 1) := ((hF11.2.2.2.2.2.2.2.2.2.2.2.2.2.2.2.2.2.2.1 _ rfl).1 _ rfl).trans (hF11.2.2.2.2.2.2.2.2.2.2.2.2.2.2.2.2.2.2.1 _ rfl).2
                    have q2402 : f 92 = vs308 19 := (hF11.2.2.2.2.2.2.2.2.2.2.2.2.2.2.2.2.2.2.2.1 _ rfl).1 _ rfl
                    have r290 : RV S313 (vs308 19) a0.Doors := (hF11.2.2.2.2.2.2.2.2.2.2.2.2.2.2.2.2.2.2.2.1 _ rfl).2
                    obtain ⟨u375, hu375⟩ : ∃ u, vs308 19 = u := ⟨_, rfl⟩
                    rw [hu375] at q2402 r290
                    obtain ⟨z332, m332, k332, e477⟩ := rv_form r290
                    subst e477
                    have q2403 : f 93 = (Value.int .i64 (s2)) := ((hF11.2.2.2.2.2.2.2.2.2.2.2.2.2.2.2.2.2.2.2.2.1 _ rfl).1 _ rfl).trans (hF11.2.2.2.2.2.2.2.2.2.2.2.2.2.2.2.2.2.2.2.2.1 _ rfl).2
                    have q2404 : f 94 = (elemPtr (vs308 19) (s2) (Enc.sz Gate)) := ((hF11.2.2.2.2.2.2.2.2.2.2.2.2.2.2.2.2.2.2.2.2.2.1 _ rfl).1 _ rfl).trans (hF11.2.2.2.2.2.2.2.2.2.2.2.2.2.2.2.2.2.2.2.2.2.1 _ rfl).2
                    simp only [hu375] at q2404
                    have q2404 : f 94 = (elemPtr (Value.slice z332 m332 k332) (s2) (Enc.sz Gate)) := q2404
                    have q2405 : f 95 = (fieldPtr (elemPtr (vs308 19) (s2) (Enc.sz Gate)) 0) := ((hF11.2.2.2.2.2.2.2.2.2.2.2.2.2.2.2.2.2.2.2.2.2.2.1 _ rfl).1 _ rfl).trans (hF11.2.2.2.2.2.2.2.2.2.2.2.2.2.2.2.2.2.2.2.2.2.2.1 _ rfl).2
                    simp only [hu375] at q2405
                    have q2405 : f 95 = (fieldPtr (elemPtr (Value.slice z332 m332 k332) (s2) (Enc.sz Gate)) 0) := q2405
                    have q2406 : f 96 = (Value.int .i64 (x22.Wait)) := ((hF11.2.2.2.2.2.2.2.2.2.2.2.2.2.2.2.2.2.2.2.2.2.2.2.1 _ rfl).1 _ rfl).trans (hF11.2.2.2.2.2.2.2.2.2.2.2.2.2.2.2.2.2.2.2.2.2.2.2.1 _ rfl).2
                    have q2407 : f 97 = (Value.bool (decide (x22.Wait < x21.Wait))) := ((hF11.2.2.2.2.2.2.2.2.2.2.2.2.2.2.2.2.2.2.2.2.2.2.2.2.1 _ rfl).1 _ rfl).trans (hF11.2.2.2.2.2.2.2.2.2.2.2.2.2.2.2.2.2.2.2.2.2.2.2.2.1 _ rfl).2
                    have q2408 : f 98 = (Value.bool (decide (x22.Wait < x21.Wait))) := ((hF11.2.2.2.2.2.2.2.2.2.2.2.2.2.2.2.2.2.2.2.2.2.2.2.2.2.1 _ rfl).1 _ rfl).trans (hF11.2.2.2.2.2.2.2.2.2.2.2.2.2.2.2.2.2.2.2.2.2.2.2.2.2.1 _ rfl).2
                    have q2409 : f 99 = (Value.bool (decide (x22.Wait < x21.Wait))) := ((hF11.2.2.2.2.2.2.2.2.2.2.2.2.2.2.2.2.2.2.2.2.2.2.2.2.2.2.1 _ rfl).1 _ rfl).trans (hF11.2.2.2.2.2.2.2.2.2.2.2.2.2.2.2.2.2.2.2.2.2.2.2.2.2.2.1 _ rfl).2
                    rcases ifs h33 with ⟨hc64, h33⟩ | ⟨hc64, h33⟩
                    · refine wp_cond_t (b := decide (x22.Wait < x21.Wait)) q2409 hc64 ?_
                      refine wp_region' ?_
                      refine wl_op rfl (op_move (v := (Value.int .i64 ((i1 : Int)))) rfl e473 ?_)
                      refine wl_op rfl (op_assign (v := (Value.int .i64 ((i1 : Int)))) rfl rfl ?_)
                      refine wl_nil ?_
                      refine wp_region' ?_
                      refine wl_op rfl (op_move (v := (Value.int .i64 ((i1 : Int)))) rfl e473 ?_)
                      refine wl_op rfl (op_add (a := (i1 : Int)) (b := 1) rfl rfl rfl ?_)
                      refine wl_op rfl (op_assign (v := (Value.int .i64 (w64 ((i1 : Int) + 1)))) rfl rfl ?_)
                      refine wl_nil ?_
                      obtain rfl := Option.some.inj h33
                      exact ⟨_, (le257.trans le313), I339, e470, e471, rfl, (idx_next hlt1 hk1)⟩
                    · refine wp_cond_f (b := decide (x22.Wait < x21.Wait)) q2409 hc64 ?_
                      refine wp_skip' ?_
                      refine wp_region' ?_
                      refine wl_op rfl (op_move (v := (Value.int .i64 ((i1 : Int)))) rfl e473 ?_)
                      refine wl_op rfl (op_add (a := (i1 : Int)) (b := 1) rfl rfl rfl ?_)
                      refine wl_op rfl (op_assign (v := (Value.int .i64 (w64 ((i1 : Int) + 1)))) rfl rfl ?_)
                      refine wl_nil ?_
                      obtain rfl := Option.some.inj h33
                      exact ⟨_, (le257.trans le313), I339, e470, e471, e472, (idx_next hlt1 hk1)⟩
              · refine wp_draw (sps := [⟨some 73, [], [0], fun vs_ T_ => fr0 vs_ 0 = (fieldPtr (Value.pointer (some ⟨g1, 0, none⟩)) 1), [], [], [], fun _ h_ => h_⟩, ⟨some 74, [0], [1], fun vs_ T_ => RV T_ (fr0 vs_ 0) a0.Doors, [], [], [], fun hle_ h_ => h_.mono hle_⟩, ⟨some 75, [], [2], fun vs_ T_ => fr0 vs_ 0 = (Value.int .i64 ((i1 : Int))), [], [], [], fun _ h_ => h_⟩, ⟨some 76, [0, 1, 2], [3, 1], fun vs_ T_ => fr0 vs_ 0 = (elemPtr (fr0 vs_ 1) ((i1 : Int)) (Enc.sz Gate)), [], [], [], fun _ h_ => h_⟩, ⟨some 77, [0, 1, 2, 3], [4, 1], fun vs_ T_ => fr0 vs_ 0 = (fieldPtr (elemPtr (fr0 vs_ 1) ((i1 : Int)) (Enc.sz Gate)) 1), [], [], [], fun _ h_ => h_⟩, ⟨some 78, [0, 1, 2, 3, 4], [5], fun vs_ T_ => RV T_ (fr0 vs_ 0) x21.When, [], [], [], fun hle_ h_ => h_.mono hle_⟩, ⟨some 79, [0, 1, 2, 3, 4, 5], [6], fun vs_ T_ => fr0 vs_ 0 = (Value.int .i64 ((x21.When.length : Int))), [], [], [], fun _ h_ => h_⟩, ⟨some 80, [0, 1, 2, 3, 4, 5, 6], [7], fun vs_ T_ => fr0 vs_ 0 = (Value.bool (decide (0 < (x21.When.length : Int)))), [], [], [], fun _ h_ => h_⟩, ⟨some 81, [0, 1, 2, 3, 4, 5, 6, 7], [8], fun vs_ T_ => fr0 vs_ 0 = (Value.bool (decide (0 < (x21.When.length : Int)))), [], [], [], fun _ h_ => h_⟩, ⟨some 82, [0, 1, 2, 3, 4, 5, 6, 7, 8], [9], fun vs_ T_ => fr0 vs_ 0 = undef, [], [], [], fun _ h_ => h_⟩, ⟨some 83, [0, 1, 2, 3, 4, 5, 6, 7, 8, 9], [10], fun vs_ T_ => fr0 vs_ 0 = undef, [], [], [], fun _ h_ => h_⟩, ⟨some 84, [0, 1, 2, 3, 4, 5, 6, 7, 8, 9, 10], [11], fun vs_ T_ => fr0 vs_ 0 = undef, [], [], [], fun _ h_ => h_⟩, ⟨some 85, [0, 1, 2, 3, 4, 5, 6, 7, 8, 9, 10, 11], [12], fun vs_ T_ => fr0 vs_ 0 = undef, [], [], [], fun _ h_ => h_⟩, ⟨some 86, [0, 1, 2, 3, 4, 5, 6, 7, 8, 9, 10, 11, 12], [13], fun vs_ T_ => fr0 vs_ 0 = undef, [], [], [], fun _ h_ => h_⟩, ⟨some 87, [0, 1, 2, 3, 4, 5, 6, 7, 8, 9, 10, 11], [14], fun vs_ T_ => fr0 vs_ 0 = undef, [], [], [], fun _ h_ => h_⟩, ⟨some 88, [0, 1, 2, 3, 4, 5, 6, 7, 8, 9, 10, 11, 12, 13, 14], [15], fun vs_ T_ => fr0 vs_ 0 = undef, [], [], [], fun _ h_ => h_⟩, ⟨some 89, [0, 1, 2, 3, 4, 5, 6, 7, 8, 9, 10, 11, 12, 13, 14, 15], [16], fun vs_ T_ => fr0 vs_ 0 = undef, [], [], [], fun _ h_ => h_⟩, ⟨some 90, [0, 1, 2, 3, 4, 5, 6, 7, 8, 9, 10, 11, 12, 13, 14, 15, 16], [17], fun vs_ T_ => fr0 vs_ 0 = undef, [], [], [], fun _ h_ => h_⟩, ⟨some 91, [0, 1, 2, 3, 4, 5, 6, 7, 8, 9, 10, 11], [18], fun vs_ T_ => fr0 vs_ 0 = undef, [], [], [], fun _ h_ => h_⟩, ⟨some 92, [0, 1, 2, 3, 4, 5, 6, 7, 8, 9, 10, 11, 18], [19], fun vs_ T_ => fr0 vs_ 0 = undef, [], [], [], fun _ h_ => h_⟩, ⟨some 93, [0, 1, 2, 3, 4, 5, 6, 7, 8, 9, 10, 11], [20], fun vs_ T_ => fr0 vs_ 0 = undef, [], [], [], fun _ h_ => h_⟩, ⟨some 94, [0, 1, 2, 3, 4, 5, 6, 7, 8, 9, 10, 11, 18, 19, 20], [21], fun vs_ T_ => fr0 vs_ 0 = undef, [], [], [], fun _ h_ => h_⟩, ⟨some 95, [0, 1, 2, 3, 4, 5, 6, 7, 8, 9, 10, 11, 18, 19, 20, 21], [22], fun vs_ T_ => fr0 vs_ 0 = undef, [], [], [], fun _ h_ => h_⟩, ⟨some 96, [0, 1, 2, 3, 4, 5, 6, 7, 8, 9, 10, 11, 18, 19, 20, 21, 22], [23], fun vs_ T_ => fr0 vs_ 0 = undef, [], [], [], fun _ h_ => h_⟩, ⟨some 97, [0, 1, 2, 3, 4, 5, 6, 7, 8, 9, 10, 11, 12, 13, 14, 15, 16, 17, 18, 19, 20, 21, 22, 23], [24], fun vs_ T_ => fr0 vs_ 0 = undef, [], [], [], fun _ h_ => h_⟩, ⟨some 98, [0, 1, 2, 3, 4, 5, 6, 7, 8, 9, 10, 11, 12, 13, 14, 15, 16, 17, 18, 19, 20, 21, 22, 23, 24], [25], fun vs_ T_ => fr0 vs_ 0 = undef, [], [], [], fun _ h_ => h_⟩, ⟨some 99, [0, 1, 2, 3, 4, 5, 6, 7, 8, 9, 10, 11, 12, 13, 14, 15, 16, 17, 18, 19, 20, 21, 22, 23, 24, 25], [26], fun vs_ T_ => fr0 vs_ 0 = (Value.bool (false)), [], [], [], fun _ h_ => h_⟩]) (tks := []) (O := Fr) rfl (by kernel_rfl) I283 ⟨?_, ?_, ?_, ?_, ?_, ?_, ?_, ?_, ?_, ?_, ?_, ?_, ?_, ?_, ?_, ?_, ?_, ?_, ?_, ?_, ?_, ?_, ?_, ?_, ?_, ?_, ?_, trivial⟩ ?_
                · intro vs309 f w317 S314 X298 le314 hA298 hK309 hI311
                  have I340 : Inv w317 S314 (X298) := hI311
                  refine opg_plain rfl rfl (op_fieldAddr_t (v := (Value.pointer (some ⟨g1, 0, none⟩))) rfl fa24_1 ((hK309 3 (keep_of rfl)).trans e402) ((p1.mono ((le2.trans le257).trans le314)).at_ I340) ?_)
                  refine ⟨_, _, rfl, PH.Le.refl _, ?_, ?_⟩
                  · exact rfl
                  · exact I340
                · intro vs310 f w318 S315 X299 le315 hA299 hK310 hI312
                  have I341 : Inv w318 S315 (X299) := hI312
                  have q2410 : f 73 = (fieldPtr (Value.pointer (some ⟨g1, 0, none⟩)) 1) := ((hA299.1 _ rfl).1 _ rfl).trans (hA299.1 _ rfl).2
                  refine opg_plain rfl rfl (op_load (v := (fieldPtr (Value.pointer (some ⟨g1, 0, none⟩)) 1)) (e := a0.Doors) rfl sh22 q2410 (((p1.mono ((le2.trans le257).trans le315)).at_ I341).fld Panel.fld1) (fun u378 hu378 => ?_))
                  obtain ⟨z333, m333, k333, e478⟩ := rv_form hu378
                  subst e478
                  refine ⟨_, _, rfl, PH.Le.refl _, ?_, ?_⟩
                  · exact hu378
                  · exact I341
                · intro vs311 f w319 S316 X300 le316 hA300 hK311 hI313
                  have I342 : Inv w319 S316 (X300) := hI313
                  refine opg_plain rfl rfl (op_move (v := (Value.int .i64 ((i1 : Int)))) rfl ((hK311 12 (keep_of rfl)).trans e405) ?_)
                  refine ⟨_, _, rfl, PH.Le.refl _, ?_, ?_⟩
                  · exact rfl
                  · exact I342
                · intro vs312 f w320 S317 X301 le317 hA301 hK312 hI314
                  have I343 : Inv w320 S317 (X301) := hI314
                  have q2411 : f 73 = (fieldPtr (Value.pointer (some ⟨g1, 0, none⟩)) 1) := ((hA301.1 _ rfl).1 _ rfl).trans (hA301.1 _ rfl).2
                  have q2412 : f 74 = vs312 1 := (hA301.2.1 _ rfl).1 _ rfl
                  have r291 : RV S317 (vs312 1) a0.Doors := (hA301.2.1 _ rfl).2
                  obtain ⟨u379, hu379⟩ : ∃ u, vs312 1 = u := ⟨_, rfl⟩
                  rw [hu379] at q2412 r291
                  obtain ⟨z334, m334, k334, e479⟩ := rv_form r291
                  subst e479
                  have q2413 : f 75 = (Value.int .i64 ((i1 : Int))) := ((hA301.2.2.1 _ rfl).1 _ rfl).trans (hA301.2.2.1 _ rfl).2
                  refine opg_plain rfl rfl (op_indexAddr_rv (v := (Value.slice z334 m334 k334)) (i := (i1 : Int)) (e := x21) rfl Try.underlying22 sh33 q2412 r291 q2413 hx21 ?_)
                  refine ⟨_, _, rfl, PH.Le.refl _, ?_, ?_⟩
                  · show (elemPtr (Value.slice z334 m334 k334) ((i1 : Int)) (Enc.sz Gate)) = (elemPtr (vs312 1) ((i1 : Int)) (Enc.sz Gate))
                    simp only [hu379] <;> rfl
                  · exact I343
                · intro vs313 f w321 S318 X302 le318 hA302 hK313 hI315
                  have I344 : Inv w321 S318 (X302) := hI315
                  have q2414 : f 73 = (fieldPtr (Value.pointer (some ⟨g1, 0, none⟩)) 1) := ((hA302.1 _ rfl).1 _ rfl).trans (hA302.1 _ rfl).2
                  have q2415 : f 74 = vs313 1 := (hA302.2.1 _ rfl).1 _ rfl
                  have r292 : RV S318 (vs313 1) a0.Doors := (hA302.2.1 _ rfl).2
                  obtain ⟨u380, hu380⟩ : ∃ u, vs313 1 = u := ⟨_, rfl⟩
                  rw [hu380] at q2415 r292
                  obtain ⟨z335, m335, k335, e480⟩ := rv_form r292
                  subst e480
                  have q2416 : f 75 = (Value.int .i64 ((i1 : Int))) := ((hA302.2.2.1 _ rfl).1 _ rfl).trans (hA302.2.2.1 _ rfl).2
                  have q2417 : f 76 = (elemPtr (vs313 1) ((i1 : Int)) (Enc.sz Gate)) := ((hA302.2.2.2.1 _ rfl).1 _ rfl).trans (hA302.2.2.2.1 _ rfl).2
                  simp only [hu380] at q2417
                  have q2417 : f 76 = (elemPtr (Value.slice z335 m335 k335) ((i1 : Int)) (Enc.sz Gate)) := q2417
                  refine opg_plain rfl rfl (op_fieldAddr_t (v := (elemPtr (Value.slice z335 m335 k335) ((i1 : Int)) (Enc.sz Gate))) rfl fa33_1 q2417 (r292.elem I344.in_ hx21) ?_)
                  refine ⟨_, _, rfl, PH.Le.refl _, ?_, ?_⟩
                  · show (fieldPtr (elemPtr (Value.slice z335 m335 k335) ((i1 : Int)) (Enc.sz Gate)) 1) = (fieldPtr (elemPtr (vs313 1) ((i1 : Int)) (Enc.sz Gate)) 1)
                    simp only [hu380] <;> rfl
                  · exact I344
                · intro vs314 f w322 S319 X303 le319 hA303 hK314 hI316
                  have I345 : Inv w322 S319 (X303) := hI316
                  have q2418 : f 73 = (fieldPtr (Value.pointer (some ⟨g1, 0, none⟩)) 1) := ((hA303.1 _ rfl).1 _ rfl).trans (hA303.1 _ rfl).2
                  have q2419 : f 74 = vs314 1 := (hA303.2.1 _ rfl).1 _ rfl
                  have r293 : RV S319 (vs314 1) a0.Doors := (hA303.2.1 _ rfl).2
                  obtain ⟨u381, hu381⟩ : ∃ u, vs314 1 = u := ⟨_, rfl⟩
                  rw [hu381] at q2419 r293
                  obtain ⟨z336, m336, k336, e481⟩ := rv_form r293
                  subst e481
                  have q2420 : f 75 = (Value.int .i64 ((i1 : Int))) := ((hA303.2.2.1 _ rfl).1 _ rfl).trans (hA303.2.2.1 _ rfl).2
                  have q2421 : f 76 = (elemPtr (vs314 1) ((i1 : Int)) (Enc.sz Gate)) := ((hA303.2.2.2.1 _ rfl).1 _ rfl).trans (hA303.2.2.2.1 _ rfl).2
                  simp only [hu381] at q2421
                  have q2421 : f 76 = (elemPtr (Value.slice z336 m336 k336) ((i1 : Int)) (Enc.sz Gate)) := q2421
                  have q2422 : f 77 = (fieldPtr (elemPtr (vs314 1) ((i1 : Int)) (Enc.sz Gate)) 1) := ((hA303.2.2.2.2.1 _ rfl).1 _ rfl).trans (hA303.2.2.2.2.1 _ rfl).2
                  simp only [hu381] at q2422
                  have q2422 : f 77 = (fieldPtr (elemPtr (Value.slice z336 m336 k336) ((i1 : Int)) (Enc.sz Gate)) 1) := q2422
                  refine opg_plain rfl rfl (op_load (v := (fieldPtr (elemPtr (Value.slice z336 m336 k336) ((i1 : Int)) (Enc.sz Gate)) 1)) (e := x21.When) rfl sh31 q2422 ((r293.elem I345.in_ hx21).fld Gate.fld1) (fun u382 hu382 => ?_))
                  obtain ⟨z337, m337, k337, e482⟩ := rv_form hu382
                  subst e482
                  refine ⟨_, _, rfl, PH.Le.refl _, ?_, ?_⟩
                  · exact hu382
                  · exact I345
                · intro vs315 f w323 S320 X304 le320 hA304 hK315 hI317
                  have I346 : Inv w323 S320 (X304) := hI317
                  have q2423 : f 73 = (fieldPtr (Value.pointer (some ⟨g1, 0, none⟩)) 1) := ((hA304.1 _ rfl).1 _ rfl).trans (hA304.1 _ rfl).2
                  have q2424 : f 74 = vs315 1 := (hA304.2.1 _ rfl).1 _ rfl
                  have r294 : RV S320 (vs315 1) a0.Doors := (hA304.2.1 _ rfl).2
                  obtain ⟨u383, hu383⟩ : ∃ u, vs315 1 = u := ⟨_, rfl⟩
                  rw [hu383] at q2424 r294
                  obtain ⟨z338, m338, k338, e483⟩ := rv_form r294
                  subst e483
                  have q2425 : f 75 = (Value.int .i64 ((i1 : Int))) := ((hA304.2.2.1 _ rfl).1 _ rfl).trans (hA304.2.2.1 _ rfl).2
                  have q2426 : f 76 = (elemPtr (vs315 1) ((i1 : Int)) (Enc.sz Gate)) := ((hA304.2.2.2.1 _ rfl).1 _ rfl).trans (hA304.2.2.2.1 _ rfl).2
                  simp only [hu383] at q2426
                  have q2426 : f 76 = (elemPtr (Value.slice z338 m338 k338) ((i1 : Int)) (Enc.sz Gate)) := q2426
                  have q2427 : f 77 = (fieldPtr (elemPtr (vs315 1) ((i1 : Int)) (Enc.sz Gate)) 1) := ((hA304.2.2.2.2.1 _ rfl).1 _ rfl).trans (hA304.2.2.2.2.1 _ rfl).2
                  simp only [hu383] at q2427
                  have q2427 : f 77 = (fieldPtr (elemPtr (Value.slice z338 m338 k338) ((i1 : Int)) (Enc.sz Gate)) 1) := q2427
                  have q2428 : f 78 = vs315 5 := (hA304.2.2.2.2.2.1 _ rfl).1 _ rfl
                  have r295 : RV S320 (vs315 5) x21.When := (hA304.2.2.2.2.2.1 _ rfl).2
                  obtain ⟨u384, hu384⟩ : ∃ u, vs315 5 = u := ⟨_, rfl⟩
                  rw [hu384] at q2428 r295
                  obtain ⟨z339, m339, k339, e484⟩ := rv_form r295
                  subst e484
                  refine opg_plain rfl rfl (op_len_rv rfl Try.underlying31 q2428 r295 ?_)
                  refine ⟨_, _, rfl, PH.Le.refl _, ?_, ?_⟩
                  · exact rfl
                  · exact I346
                · intro vs316 f w324 S321 X305 le321 hA305 hK316 hI318
                  have I347 : Inv w324 S321 (X305) := hI318
                  have q2429 : f 73 = (fieldPtr (Value.pointer (some ⟨g1, 0, none⟩)) 1) := ((hA305.1 _ rfl).1 _ rfl).trans (hA305.1 _ rfl).2
                  have q2430 : f 74 = vs316 1 := (hA305.2.1 _ rfl).1 _ rfl
                  have r296 : RV S321 (vs316 1) a0.Doors := (hA305.2.1 _ rfl).2
                  obtain ⟨u385, hu385⟩ : ∃ u, vs316 1 = u := ⟨_, rfl⟩
                  rw [hu385] at q2430 r296
                  obtain ⟨z340, m340, k340, e485⟩ := rv_form r296
                  subst e485
                  have q2431 : f 75 = (Value.int .i64 ((i1 : Int))) := ((hA305.2.2.1 _ rfl).1 _ rfl).trans (hA305.2.2.1 _ rfl).2
                  have q2432 : f 76 = (elemPtr (vs316 1) ((i1 : Int)) (Enc.sz Gate)) := ((hA305.2.2.2.1 _ rfl).1 _ rfl).trans (hA305.2.2.2.1 _ rfl).2
                  simp only [hu385] at q2432
                  have q2432 : f 76 = (elemPtr (Value.slice z340 m340 k340) ((i1 : Int)) (Enc.sz Gate)) := q2432
                  have q2433 : f 77 = (fieldPtr (elemPtr (vs316 1) ((i1 : Int)) (Enc.sz Gate)) 1) := ((hA305.2.2.2.2.1 _ rfl).1 _ rfl).trans (hA305.2.2.2.2.1 _ rfl).2
                  simp only [hu385] at q2433
                  have q2433 : f 77 = (fieldPtr (elemPtr (Value.slice z340 m340 k340) ((i1 : Int)) (Enc.sz Gate)) 1) := q2433
                  have q2434 : f 78 = vs316 5 := (hA305.2.2.2.2.2.1 _ rfl).1 _ rfl
                  have r297 : RV S321 (vs316 5) x21.When := (hA305.2.2.2.2.2.1 _ rfl).2
                  obtain ⟨u386, hu386⟩ : ∃ u, vs316 5 = u := ⟨_, rfl⟩
                  rw [hu386] at q2434 r297
                  obtain ⟨z341, m341, k341, e486⟩ := rv_form r297
                  subst e486
                  have q2435 : f 79 = (Value.int .i64 ((x21.When.length : Int))) := ((hA305.2.2.2.2.2.2.1 _ rfl).1 _ rfl).trans (hA305.2.2.2.2.2.2.1 _ rfl).2
                  refine opg_plain rfl rfl (op_gtr (a := (x21.When.length : Int)) (b := 0) rfl q2435 rfl ?_)
                  refine ⟨_, _, rfl, PH.Le.refl _, ?_, ?_⟩
                  · exact rfl
                  · exact I347
                · intro vs317 f w325 S322 X306 le322 hA306 hK317 hI319
                  have I348 : Inv w325 S322 (X306) := hI319
                  have q2436 : f 73 = (fieldPtr (Value.pointer (some ⟨g1, 0, none⟩)) 1) := ((hA306.1 _ rfl).1 _ rfl).trans (hA306.1 _ rfl).2
                  have q2437 : f 74 = vs317 1 := (hA306.2.1 _ rfl).1 _ rfl
                  have r298 : RV S322 (vs317 1) a0.Doors := (hA306.2.1 _ rfl).2
                  obtain ⟨u387, hu387⟩ : ∃ u, vs317 1 = u := ⟨_, rfl⟩
                  rw [hu387] at q2437 r298
                  obtain ⟨z342, m342, k342, e487⟩ := rv_form r298
                  subst e487
                  have q2438 : f 75 = (Value.int .i64 ((i1 : Int))) := ((hA306.2.2.1 _ rfl).1 _ rfl).trans (hA306.2.2.1 _ rfl).2
                  have q2439 : f 76 = (elemPtr (vs317 1) ((i1 : Int)) (Enc.sz Gate)) := ((hA306.2.2.2.1 _ rfl).1 _ rfl).trans (hA306.2.2.2.1 _ rfl).2
                  simp only [hu387] at q2439
                  have q2439 : f 76 = (elemPtr (Value.slice z342 m342 k342) ((i1 : Int)) (Enc.sz Gate)) := q2439
                  have q2440 : f 77 = (fieldPtr (elemPtr (vs317 1) ((i1 : Int)) (Enc.sz Gate)) 1) := ((hA306.2.2.2.2.1 _ rfl).1 _ rfl).trans (hA306.2.2.2.2.1 _ rfl).2
                  simp only [hu387] at q2440
                  have q2440 : f 77 = (fieldPtr (elemPtr (Value.slice z342 m342 k342) ((i1 : Int)) (Enc.sz Gate)) 1) := q2440
                  have q2441 : f 78 = vs317 5 := (hA306.2.2.2.2.2.1 _ rfl).1 _ rfl
                  have r299 : RV S322 (vs317 5) x21.When := (hA306.2.2.2.2.2.1 _ rfl).2
                  obtain ⟨u388, hu388⟩ : ∃ u, vs317 5 = u := ⟨_, rfl⟩
                  rw [hu388] at q2441 r299
                  obtain ⟨z343, m343, k343, e488⟩ := rv_form r299
                  subst e488
                  have q2442 : f 79 = (Value.int .i64 ((x21.When.length : Int))) := ((hA306.2.2.2.2.2.2.1 _ rfl).1 _ rfl).trans (hA306.2.2.2.2.2.2.1 _ rfl).2
                  have q2443 : f 80 = (Value.bool (decide (0 < (x21.When.length : Int)))) := ((hA306.2.2.2.2.2.2.2.1 _ rfl).1 _ rfl).trans (hA306.2.2.2.2.2.2.2.1 _ rfl).2
                  refine opg_plain rfl rfl (op_move (v := (Value.bool (decide (0 < (x21.When.length : Int))))) rfl q2443 ?_)
                  refine ⟨_, _, rfl, PH.Le.refl _, ?_, ?_⟩
                  · exact rfl
                  · exact I348
                · intro vs318 f w326 S323 X307 le323 hA307 hK318 hI320
                  have I349 : Inv w326 S323 (X307) := hI320
                  have q2444 : f 73 = (fieldPtr (Value.pointer (some ⟨g1, 0, none⟩)) 1) := ((hA307.1 _ rfl).1 _ rfl).trans (hA307.1 _ rfl).2
                  have q2445 : f 74 = vs318 1 := (hA307.2.1 _ rfl).1 _ rfl
                  have r300 : RV S323 (vs318 1) a0.Doors := (hA307.2.1 _ rfl).2
                  obtain ⟨u389, hu389⟩ : ∃ u, vs318 1 = u := ⟨_, rfl⟩
                  rw [hu389] at q2445 r300
                  obtain ⟨z344, m344, k344, e489⟩ := rv_form r300
                  subst e489
                  have q2446 : f 75 = (Value.int .i64 ((i1 : Int))) := ((hA307.2.2.1 _ rfl).1 _ rfl).trans (hA307.2.2.1 _ rfl).2
                  have q2447 : f 76 = (elemPtr (vs318 1) ((i1 : Int)) (Enc.sz Gate)) := ((hA307.2.2.2.1 _ rfl).1 _ rfl).trans (hA307.2.2.2.1 _ rfl).2
                  simp only [hu389] at q2447
                  have q2447 : f 76 = (elemPtr (Value.slice z344 m344 k344) ((i1 : Int)) (Enc.sz Gate)) := q2447
                  have q2448 : f 77 = (fieldPtr (elemPtr (vs318 1) ((i1 : Int)) (Enc.sz Gate)) 1) := ((hA307.2.2.2.2.1 _ rfl).1 _ rfl).trans (hA307.2.2.2.2.1 _ rfl).2
                  simp only [hu389] at q2448
                  have q2448 : f 77 = (fieldPtr (elemPtr (Value.slice z344 m344 k344) ((i1 : Int)) (Enc.sz Gate)) 1) := q2448
                  have q2449 : f 78 = vs318 5 := (hA307.2.2.2.2.2.1 _ rfl).1 _ rfl
                  have r301 : RV S323 (vs318 5) x21.When := (hA307.2.2.2.2.2.1 _ rfl).2
                  obtain ⟨u390, hu390⟩ : ∃ u, vs318 5 = u := ⟨_, rfl⟩
                  rw [hu390] at q2449 r301
                  obtain ⟨z345, m345, k345, e490⟩ := rv_form r301
                  subst e490
                  have q2450 : f 79 = (Value.int .i64 ((x21.When.length : Int))) := ((hA307.2.2.2.2.2.2.1 _ rfl).1 _ rfl).trans (hA307.2.2.2.2.2.2.1 _ rfl).2
                  have q2451 : f 80 = (Value.bool (decide (0 < (x21.When.length : Int)))) := ((hA307.2.2.2.2.2.2.2.1 _ rfl).1 _ rfl).trans (hA307.2.2.2.2.2.2.2.1 _ rfl).2
                  have q2452 : f 81 = (Value.bool (decide (0 < (x21.When.length : Int)))) := ((hA307.2.2.2.2.2.2.2.2.1 _ rfl).1 _ rfl).trans (hA307.2.2.2.2.2.2.2.2.1 _ rfl).2
                  exact opg_skip (c := decide (0 < (x21.When.length : Int))) rfl rfl rfl rfl q2452 hc62 rfl ⟨_, _, rfl, PH.Le.refl _, rfl, I349⟩
                · intro vs319 f w327 S324 X308 le324 hA308 hK319 hI321
                  have I350 : Inv w327 S324 (X308) := hI321
                  have q2453 : f 73 = (fieldPtr (Value.pointer (some ⟨g1, 0, none⟩)) 1) := ((hA308.1 _ rfl).1 _ rfl).trans (hA308.1 _ rfl).2
                  have q2454 : f 74 = vs319 1 := (hA308.2.1 _ rfl).1 _ rfl
                  have r302 : RV S324 (vs319 1) a0.Doors := (hA308.2.1 _ rfl).2
                  obtain ⟨u391, hu391⟩ : ∃ u, vs319 1 = u := ⟨_, rfl⟩
                  rw [hu391] at q2454 r302
                  obtain ⟨z346, m346, k346, e491⟩ := rv_form r302
                  subst e491
                  have q2455 : f 75 = (Value.int .i64 ((i1 : Int))) := ((hA308.2.2.1 _ rfl).1 _ rfl).trans (hA308.2.2.1 _ rfl).2
                  have q2456 : f 76 = (elemPtr (vs319 1) ((i1 : Int)) (Enc.sz Gate)) := ((hA308.2.2.2.1 _ rfl).1 _ rfl).trans (hA308.2.2.2.1 _ rfl).2
                  simp only [hu391] at q2456
                  have q2456 : f 76 = (elemPtr (Value.slice z346 m346 k346) ((i1 : Int)) (Enc.sz Gate)) := q2456
                  have q2457 : f 77 = (fieldPtr (elemPtr (vs319 1) ((i1 : Int)) (Enc.sz Gate)) 1) := ((hA308.2.2.2.2.1 _ rfl).1 _ rfl).trans (hA308.2.2.2.2.1 _ rfl).2
                  simp only [hu391] at q2457
                  have q2457 : f 77 = (fieldPtr (elemPtr (Value.slice z346 m346 k346) ((i1 : Int)) (Enc.sz Gate)) 1) := q2457
                  have q2458 : f 78 = vs319 5 := (hA308.2.2.2.2.2.1 _ rfl).1 _ rfl
                  have r303 : RV S324 (vs319 5) x21.When := (hA308.2.2.2.2.2.1 _ rfl).2
                  obtain ⟨u392, hu392⟩ : ∃ u, vs319 5 = u := ⟨_, rfl⟩
                  rw [hu392] at q2458 r303
                  obtain ⟨z347, m347, k347, e492⟩ := rv_form r303
                  subst e492
                  have q2459 : f 79 = (Value.int .i64 ((x21.When.length : Int))) := ((hA308.2.2.2.2.2.2.1 _ rfl).1 _ rfl).trans (hA308.2.2.2.2.2.2.1 _ rfl).2
                  have q2460 : f 80 = (Value.bool (decide (0 < (x21.When.length : Int)))) := ((hA308.2.2.2.2.2.2.2.1 _ rfl).1 _ rfl).trans (hA308.2.2.2.2.2.2.2.1 _ rfl).2
                  have q2461 : f 81 = (Value.bool (decide (0 < (x21.When.length : Int)))) := ((hA308.2.2.2.2.2.2.2.2.1 _ rfl).1 _ rfl).trans (hA308.2.2.2.2.2.2.2.2.1 _ rfl).2
                  have q2462 : f 82 = undef := ((hA308.2.2.2.2.2.2.2.2.2.1 _ rfl).1 _ rfl).trans (hA308.2.2.2.2.2.2.2.2.2.1 _ rfl).2
                  exact opg_skip (c := decide (0 < (x21.When.length : Int))) rfl rfl rfl rfl q2461 hc62 rfl ⟨_, _, rfl, PH.Le.refl _, rfl, I350⟩
                · intro vs320 f w328 S325 X309 le325 hA309 hK320 hI322
                  have I351 : Inv w328 S325 (X309) := hI322
                  have q2463 : f 73 = (fieldPtr (Value.pointer (some ⟨g1, 0, none⟩)) 1) := ((hA309.1 _ rfl).1 _ rfl).trans (hA309.1 _ rfl).2
                  have q2464 : f 74 = vs320 1 := (hA309.2.1 _ rfl).1 _ rfl
                  have r304 : RV S325 (vs320 1) a0.Doors := (hA309.2.1 _ rfl).2
                  obtain ⟨u393, hu393⟩ : ∃ u, vs320 1 = u := ⟨_, rfl⟩
                  rw [hu393] at q2464 r304
                  obtain ⟨z348, m348, k348, e493⟩ := rv_form r304
                  subst e493
                  have q2465 : f 75 = (Value.int .i64 ((i1 : Int))) := ((hA309.2.2.1 _ rfl).1 _ rfl).trans (hA309.2.2.1 _ rfl).2
                  have q2466 : f 76 = (elemPtr (vs320 1) ((i1 : Int)) (Enc.sz Gate)) := ((hA309.2.2.2.1 _ rfl).1 _ rfl).trans (hA309.2.2.2.1 _ rfl).2
                  simp only [hu393] at q2466
                  have q2466 : f 76 = (elemPtr (Value.slice z348 m348 k348) ((i1 : Int)) (Enc.sz Gate)) := q2466
                  have q2467 : f 77 = (fieldPtr (elemPtr (vs320 1) ((i1 : Int)) (Enc.sz Gate)) 1) := ((hA309.2.2.2.2.1 _ rfl).1 _ rfl).trans (hA309.2.2.2.2.1 _ rfl).2
                  simp only [hu393] at q2467
                  have q2467 : f 77 = (fieldPtr (elemPtr (Value.slice z348 m348 k348) ((i1 : Int)) (Enc.sz Gate)) 1) := q2467
                  have q2468 : f 78 = vs320 5 := (hA309.2.2.2.2.2.1 _ rfl).1 _ rfl
                  have r305 : RV S325 (vs320 5) x21.When := (hA309.2.2.2.2.2.1 _ rfl).2
                  obtain ⟨u394, hu394⟩ : ∃ u, vs320 5 = u := ⟨_, rfl⟩
                  rw [hu394] at q2468 r305
                  obtain ⟨z349, m349, k349, e494⟩ := rv_form r305
                  subst e494
                  have q2469 : f 79 = (Value.int .i64 ((x21.When.length : Int))) := ((hA309.2.2.2.2.2.2.1 _ rfl).1 _ rfl).trans (hA309.2.2.2.2.2.2.1 _ rfl).2
                  have q2470 : f 80 = (Value.bool (decide (0 < (x21.When.length : Int)))) := ((hA309.2.2.2.2.2.2.2.1 _ rfl).1 _ rfl).trans (hA309.2.2.2.2.2.2.2.1 _ rfl).2
                  have q2471 : f 81 = (Value.bool (decide (0 < (x21.When.length : Int)))) := ((hA309.2.2.2.2.2.2.2.2.1 _ rfl).1 _ rfl).trans (hA309.2.2.2.2.2.2.2.2.1 _ rfl).2
                  have q2472 : f 82 = undef := ((hA309.2.2.2.2.2.2.2.2.2.1 _ rfl).1 _ rfl).trans (hA309.2.2.2.2.2.2.2.2.2.1 _ rfl).2
                  have q2473 : f 83 = undef := ((hA309.2.2.2.2.2.2.2.2.2.2.1 _ rfl).1 _ rfl).trans (hA309.2.2.2.2.2.2.2.2.2.2.1 _ rfl).2
                  exact opg_skip (c := decide (0 < (x21.When.length : Int))) rfl rfl rfl rfl q2471 hc62 rfl ⟨_, _, rfl, PH.Le.refl _, rfl, I351⟩
                · intro vs321 f w329 S326 X310 le326 hA310 hK321 hI323
                  have I352 : Inv w329 S326 (X310) := hI323
                  have q2474 : f 82 = undef := ((hA310.2.2.2.2.2.2.2.2.2.1 _ rfl).1 _ rfl).trans (hA310.2.2.2.2.2.2.2.2.2.1 _ rfl).2
                  have q2475 : f 83 = undef := ((hA310.2.2.2.2.2.2.2.2.2.2.1 _ rfl).1 _ rfl).trans (hA310.2.2.2.2.2.2.2.2.2.2.1 _ rfl).2
                  have q2476 : f 84 = undef := ((hA310.2.2.2.2.2.2.2.2.2.2.2.1 _ rfl).1 _ rfl).trans (hA310.2.2.2.2.2.2.2.2.2.2.2.1 _ rfl).2
                  exact opg_skip_u rfl rfl rfl rfl q2476 rfl ⟨_, _, rfl, PH.Le.refl _, rfl, I352⟩
                · intro vs322 f w330 S327 X311 le327 hA311 hK322 hI324
                  have I353 : Inv w330 S327 (X311) := hI324
                  have q2477 : f 82 = undef := ((hA311.2.2.2.2.2.2.2.2.2.1 _ rfl).1 _ rfl).trans (hA311.2.2.2.2.2.2.2.2.2.1 _ rfl).2
                  have q2478 : f 83 = undef := ((hA311.2.2.2.2.2.2.2.2.2.2.1 _ rfl).1 _ rfl).trans (hA311.2.2.2.2.2.2.2.2.2.2.1 _ rfl).2
                  have q2479 : f 84 = undef := ((hA311.2.2.2.2.2.2.2.2.2.2.2.1 _ rfl).1 _ rfl).trans (hA311.2.2.2.2.2.2.2.2.2.2.2.1 _ rfl).2
                  have q2480 : f 85 = undef := ((hA311.2.2.2.2.2.2.2.2.2.2.2.2.1 _ rfl).1 _ rfl).trans (hA311.2.2.2.2.2.2.2.2.2.2.2.2.1 _ rfl).2
                  exact opg_skip_u rfl rfl rfl rfl q2479 rfl ⟨_, _, rfl, PH.Le.refl _, rfl, I353⟩
                · intro vs323 f w331 S328 X312 le328 hA312 hK323 hI325
                  have I354 : Inv w331 S328 (X312) := hI325
                  have q2481 : f 82 = undef := ((hA312.2.2.2.2.2.2.2.2.2.1 _ rfl).1 _ rfl).trans (hA312.2.2.2.2.2.2.2.2.2.1 _ rfl).2
                  have q2482 : f 83 = undef := ((hA312.2.2.2.2.2.2.2.2.2.2.1 _ rfl).1 _ rfl).trans (hA312.2.2.2.2.2.2.2.2.2.2.1 _ rfl).2
                  have q2483 : f 84 = undef := ((hA312.2.2.2.2.2.2.2.2.2.2.2.1 _ rfl).1 _ rfl).trans (hA312.2.2.2.2.2.2.2.2.2.2.2.1 _ rfl).2
                  exact opg_skip_u rfl rfl rfl rfl q2483 rfl ⟨_, _, rfl, PH.Le.refl _, rfl, I354⟩
                · intro vs324 f w332 S329 X313 le329 hA313 hK324 hI326
                  have I355 : Inv w332 S329 (X313) := hI326
                  have q2484 : f 82 = undef := ((hA313.2.2.2.2.2.2.2.2.2.1 _ rfl).1 _ rfl).trans (hA313.2.2.2.2.2.2.2.2.2.1 _ rfl).2
                  have q2485 : f 83 = undef := ((hA313.2.2.2.2.2.2.2.2.2.2.1 _ rfl).1 _ rfl).trans (hA313.2.2.2.2.2.2.2.2.2.2.1 _ rfl).2
                  have q2486 : f 84 = undef := ((hA313.2.2.2.2.2.2.2.2.2.2.2.1 _ rfl).1 _ rfl).trans (hA313.2.2.2.2.2.2.2.2.2.2.2.1 _ rfl).2
                  have q2487 : f 85 = undef := ((hA313.2.2.2.2.2.2.2.2.2.2.2.2.1 _ rfl).1 _ rfl).trans (hA313.2.2.2.2.2.2.2.2.2.2.2.2.1 _ rfl).2
                  have q2488 : f 86 = undef := ((hA313.2.2.2.2.2.2.2.2.2.2.2.2.2.1 _ rfl).1 _ rfl).trans (hA313.2.2.2.2.2.2.2.2.2.2.2.2.2.1 _ rfl).2
                  have q2489 : f 87 = undef := ((hA313.2.2.2.2.2.2.2.2.2.2.2.2.2.2.1 _ rfl).1 _ rfl).trans (hA313.2.2.2.2.2.2.2.2.2.2.2.2.2.2.1 _ rfl).2
                  exact opg_skip_u rfl rfl rfl rfl q2486 rfl ⟨_, _, rfl, PH.Le.refl _, rfl, I355⟩
                · intro vs325 f w333 S330 X314 le330 hA314 hK325 hI327
                  have I356 : Inv w333 S330 (X314) := hI327
                  have q2490 : f 82 = undef := ((hA314.2.2.2.2.2.2.2.2.2.1 _ rfl).1 _ rfl).trans (hA314.2.2.2.2.2.2.2.2.2.1 _ rfl).2
                  have q2491 : f 83 = undef := ((hA314.2.2.2.2.2.2.2.2.2.2.1 _ rfl).1 _ rfl).trans (hA314.2.2.2.2.2.2.2.2.2.2.1 _ rfl).2
                  have q2492 : f 84 = undef := ((hA314.2.2.2.2.2.2.2.2.2.2.2.1 _ rfl).1 _ rfl).trans (hA314.2.2.2.2.2.2.2.2.2.2.2.1 _ rfl).2
                  have q2493 : f 85 = undef := ((hA314.2.2.2.2.2.2.2.2.2.2.2.2.1 _ rfl).1 _ rfl).trans (hA314.2.2.2.2.2.2.2.2.2.2.2.2.1 _ rfl).2
                  have q2494 : f 86 = undef := ((hA314.2.2.2.2.2.2.2.2.2.2.2.2.2.1 _ rfl).1 _ rfl).trans (hA314.2.2.2.2.2.2.2.2.2.2.2.2.2.1 _ rfl).2
                  have q2495 : f 87 = undef := ((hA314.2.2.2.2.2.2.2.2.2.2.2.2.2.2.1 _ rfl).1 _ rfl).trans (hA314.2.2.2.2.2.2.2.2.2.2.2.2.2.2.1 _ rfl).2
                  have q2496 : f 88 = undef := ((hA314.2.2.2.2.2.2.2.2.2.2.2.2.2.2.2.1 _ rfl).1 _ rfl).trans (hA314.2.2.2.2.2.2.2.2.2.2.2.2.2.2.2.1 _ rfl).2
                  exact opg_skip_u rfl rfl rfl rfl q2492 rfl ⟨_, _, rfl, PH.Le.refl _, rfl, I356⟩
                · intro vs326 f w334 S331 X315 le331 hA315 hK326 hI328
                  have I357 : Inv w334 S331 (X315) := hI328
                  have q2497 : f 82 = undef := ((hA315.2.2.2.2.2.2.2.2.2.1 _ rfl).1 _ rfl).trans (hA315.2.2.2.2.2.2.2.2.2.1 _ rfl).2
                  have q2498 : f 83 = undef := ((hA315.2.2.2.2.2.2.2.2.2.2.1 _ rfl).1 _ rfl).trans (hA315.2.2.2.2.2.2.2.2.2.2.1 _ rfl).2
                  have q2499 : f 84 = undef := ((hA315.2.2.2.2.2.2.2.2.2.2.2.1 _ rfl).1 _ rfl).trans (hA315.2.2.2.2.2.2.2.2.2.2.2.1 _ rfl).2
                  have q2500 : f 85 = undef := ((hA315.2.2.2.2.2.2.2.2.2.2.2.2.1 _ rfl).1 _ rfl).trans (hA315.2.2.2.2.2.2.2.2.2.2.2.2.1 _ rfl).2
                  have q2501 : f 86 = undef := ((hA315.2.2.2.2.2.2.2.2.2.2.2.2.2.1 _ rfl).1 _ rfl).trans (hA315.2.2.2.2.2.2.2.2.2.2.2.2.2.1 _ rfl).2
                  have q2502 : f 87 = undef := ((hA315.2.2.2.2.2.2.2.2.2.2.2.2.2.2.1 _ rfl).1 _ rfl).trans (hA315.2.2.2.2.2.2.2.2.2.2.2.2.2.2.1 _ rfl).2
                  have q2503 : f 88 = undef := ((hA315.2.2.2.2.2.2.2.2.2.2.2.2.2.2.2.1 _ rfl).1 _ rfl).trans (hA315.2.2.2.2.2.2.2.2.2.2.2.2.2.2.2.1 _ rfl).2
                  have q2504 : f 89 = undef := ((hA315.2.2.2.2.2.2.2.2.2.2.2.2.2.2.2.2.1 _ rfl).1 _ rfl).trans (hA315.2.2.2.2.2.2.2.2.2.2.2.2.2.2.2.2.1 _ rfl).2
                  exact opg_skip_u rfl rfl rfl rfl q2499 rfl ⟨_, _, rfl, PH.Le.refl _, rfl, I357⟩
                · intro vs327 f w335 S332 X316 le332 hA316 hK327 hI329
                  have I358 : Inv w335 S332 (X316) := hI329
                  have q2505 : f 82 = undef := ((hA316.2.2.2.2.2.2.2.2.2.1 _ rfl).1 _ rfl).trans (hA316.2.2.2.2.2.2.2.2.2.1 _ rfl).2
                  have q2506 : f 83 = undef := ((hA316.2.2.2.2.2.2.2.2.2.2.1 _ rfl).1 _ rfl).trans (hA316.2.2.2.2.2.2.2.2.2.2.1 _ rfl).2
                  have q2507 : f 84 = undef := ((hA316.2.2.2.2.2.2.2.2.2.2.2.1 _ rfl).1 _ rfl).trans (hA316.2.2.2.2.2.2.2.2.2.2.2.1 _ rfl).2
                  exact opg_skip_u rfl rfl rfl rfl q2507 rfl ⟨_, _, rfl, PH.Le.refl _, rfl, I358⟩
                · intro vs328 f w336 S333 X317 le333 hA317 hK328 hI330
                  have I359 : Inv w336 S333 (X317) := hI330
                  have q2508 : f 82 = undef := ((hA317.2.2.2.2.2.2.2.2.2.1 _ rfl).1 _ rfl).trans (hA317.2.2.2.2.2.2.2.2.2.1 _ rfl).2
                  have q2509 : f 83 = undef := ((hA317.2.2.2.2.2.2.2.2.2.2.1 _ rfl).1 _ rfl).trans (hA317.2.2.2.2.2.2.2.2.2.2.1 _ rfl).2
                  have q2510 : f 84 = undef := ((hA317.2.2.2.2.2.2.2.2.2.2.2.1 _ rfl).1 _ rfl).trans (hA317.2.2.2.2.2.2.2.2.2.2.2.1 _ rfl).2
                  have q2511 : f 91 = undef := ((hA317.2.2.2.2.2.2.2.2.2.2.2.2.1 _ rfl).1 _ rfl).trans (hA317.2.2.2.2.2.2.2.2.2.2.2.2.1 _ rfl).2
                  exact opg_skip_u rfl rfl rfl rfl q2510 rfl ⟨_, _, rfl, PH.Le.refl _, rfl, I359⟩
                · intro vs329 f w337 S334 X318 le334 hA318 hK329 hI331
                  have I360 : Inv w337 S334 (X318) := hI331
                  have q2512 : f 82 = undef := ((hA318.2.2.2.2.2.2.2.2.2.1 _ rfl).1 _ rfl).trans (hA318.2.2.2.2.2.2.2.2.2.1 _ rfl).2
                  have q2513 : f 83 = undef := ((hA318.2.2.2.2.2.2.2.2.2.2.1 _ rfl).1 _ rfl).trans (hA318.2.2.2.2.2.2.2.2.2.2.1 _ rfl).2
                  have q2514 : f 84 = undef := ((hA318.2.2.2.2.2.2.2.2.2.2.2.1 _ rfl).1 _ rfl).trans (hA318.2.2.2.2.2.2.2.2.2.2.2.1 _ rfl).2
                  exact opg_skip_u rfl rfl rfl rfl q2514 rfl ⟨_, _, rfl, PH.Le.refl _, rfl, I360⟩
                · intro vs330 f w338 S335 X319 le335 hA319 hK330 hI332
                  have I361 : Inv w338 S335 (X319) := hI332
                  have q2515 : f 82 = undef := ((hA319.2.2.2.2.2.2.2.2.2.1 _ rfl).1 _ rfl).trans (hA319.2.2.2.2.2.2.2.2.2.1 _ rfl).2
                  have q2516 : f 83 = undef := ((hA319.2.2.2.2.2.2.2.2.2.2.1 _ rfl).1 _ rfl).trans (hA319.2.2.2.2.2.2.2.2.2.2.1 _ rfl).2
                  have q2517 : f 84 = undef := ((hA319.2.2.2.2.2.2.2.2.2.2.2.1 _ rfl).1 _ rfl).trans (hA319.2.2.2.2.2.2.2.2.2.2.2.1 _ rfl).2
                  have q2518 : f 91 = undef := ((hA319.2.2.2.2.2.2.2.2.2.2.2.2.1 _ rfl).1 _ rfl).trans (hA319.2.2.2.2.2.2.2.2.2.2.2.2.1 _ rfl).2
                  have q2519 : f 92 = undef := ((hA319.2.2.2.2.2.2.2.2.2.2.2.2.2.1 _ rfl).1 _ rfl).trans (hA319.2.2.2.2.2.2.2.2.2.2.2.2.2.1 _ rfl).2
                  have q2520 : f 93 = undef := ((hA319.2.2.2.2.2.2.2.2.2.2.2.2.2.2.1 _ rfl).1 _ rfl).trans (hA319.2.2.2.2.2.2.2.2.2.2.2.2.2.2.1 _ rfl).2
                  exact opg_skip_u rfl rfl rfl rfl q2517 rfl ⟨_, _, rfl, PH.Le.refl _, rfl, I361⟩
                · intro vs331 f w339 S336 X320 le336 hA320 hK331 hI333
                  have I362 : Inv w339 S336 (X320) := hI333
                  have q2521 : f 82 = undef := ((hA320.2.2.2.2.2.2.2.2.2.1 _ rfl).1 _ rfl).trans (hA320.2.2.2.2.2.2.2.2.2.1 _ rfl).2
                  have q2522 : f 83 = undef := ((hA320.2.2.2.2.2.2.2.2.2.2.1 _ rfl).1 _ rfl).trans (hA320.2.2.2.2.2.2.2.2.2.2.1 _ rfl).2
                  have q2523 : f 84 = undef := ((hA320.2.2.2.2.2.2.2.2.2.2.2.1 _ rfl).1 _ rfl).trans (hA320.2.2.2.2.2.2.2.2.2.2.2.1 _ rfl).2
                  have q2524 : f 91 = undef := ((hA320.2.2.2.2.2.2.2.2.2.2.2.2.1 _ rfl).1 _ rfl).trans (hA320.2.2.2.2.2.2.2.2.2.2.2.2.1 _ rfl).2
                  have q2525 : f 92 = undef := ((hA320.2.2.2.2.2.2.2.2.2.2.2.2.2.1 _ rfl).1 _ rfl).trans (hA320.2.2.2.2.2.2.2.2.2.2.2.2.2.1 _ rfl).2
                  have q2526 : f 93 = undef := ((hA320.2.2.2.2.2.2.2.2.2.2.2.2.2.2.1 _ rfl).1 _ rfl).trans (hA320.2.2.2.2.2.2.2.2.2.2.2.2.2.2.1 _ rfl).2
                  have q2527 : f 94 = undef := ((hA320.2.2.2.2.2.2.2.2.2.2.2.2.2.2.2.1 _ rfl).1 _ rfl).trans (hA320.2.2.2.2.2.2.2.2.2.2.2.2.2.2.2.1 _ rfl).2
                  exact opg_skip_u rfl rfl rfl rfl q2523 rfl ⟨_, _, rfl, PH.Le.refl _, rfl, I362⟩
                · intro vs332 f w340 S337 X321 le337 hA321 hK332 hI334
                  have I363 : Inv w340 S337 (X321) := hI334
                  have q2528 : f 82 = undef := ((hA321.2.2.2.2.2.2.2.2.2.1 _ rfl).1 _ rfl).trans (hA321.2.2.2.2.2.2.2.2.2.1 _ rfl).2
                  have q2529 : f 83 = undef := ((hA321.2.2.2.2.2.2.2.2.2.2.1 _ rfl).1 _ rfl).trans (hA321.2.2.2.2.2.2.2.2.2.2.1 _ rfl).2
                  have q2530 : f 84 = undef := ((hA321.2.2.2.2.2.2.2.2.2.2.2.1 _ rfl).1 _ rfl).trans (hA321.2.2.2.2.2.2.2.2.2.2.2.1 _ rfl).2
                  have q2531 : f 91 = undef := ((hA321.2.2.2.2.2.2.2.2.2.2.2.2.1 _ rfl).1 _ rfl).trans (hA321.2.2.2.2.2.2.2.2.2.2.2.2.1 _ rfl).2
                  have q2532 : f 92 = undef := ((hA321.2.2.2.2.2.2.2.2.2.2.2.2.2.1 _ rfl).1 _ rfl).trans (hA321.2.2.2.2.2.2.2.2.2.2.2.2.2.1 _ rfl).2
                  have q2533 : f 93 = undef := ((hA321.2.2.2.2.2.2.2.2.2.2.2.2.2.2.1 _ rfl).1 _ rfl).trans (hA321.2.2.2.2.2.2.2.2.2.2.2.2.2.2.1 _ rfl).2
                  have q2534 : f 94 = undef := ((hA321.2.2.2.2.2.2.2.2.2.2.2.2.2.2.2.1 _ rfl).1 _ rfl).trans (hA321.2.2.2.2.2.2.2.2.2.2.2.2.2.2.2.1 _ rfl).2
                  have q2535 : f 95 = undef := ((hA321.2.2.2.2.2.2.2.2.2.2.2.2.2.2.2.2.1 _ rfl).1 _ rfl).trans (hA321.2.2.2.2.2.2.2.2.2.2.2.2.2.2.2.2.1 _ rfl).2
                  exact opg_skip_u rfl rfl rfl rfl q2530 rfl ⟨_, _, rfl, PH.Le.refl _, rfl, I363⟩
                · intro vs333 f w341 S338 X322 le338 hA322 hK333 hI335
                  have I364 : Inv w341 S338 (X322) := hI335
                  have q2536 : f 82 = undef := ((hA322.2.2.2.2.2.2.2.2.2.1 _ rfl).1 _ rfl).trans (hA322.2.2.2.2.2.2.2.2.2.1 _ rfl).2
                  have q2537 : f 83 = undef := ((hA322.2.2.2.2.2.2.2.2.2.2.1 _ rfl).1 _ rfl).trans (hA322.2.2.2.2.2.2.2.2.2.2.1 _ rfl).2
                  have q2538 : f 84 = undef := ((hA322.2.2.2.2.2.2.2.2.2.2.2.1 _ rfl).1 _ rfl).trans (hA322.2.2.2.2.2.2.2.2.2.2.2.1 _ rfl).2
                  have q2539 : f 85 = undef := ((hA322.2.2.2.2.2.2.2.2.2.2.2.2.1 _ rfl).1 _ rfl).trans (hA322.2.2.2.2.2.2.2.2.2.2.2.2.1 _ rfl).2
                  have q2540 : f 86 = undef := ((hA322.2.2.2.2.2.2.2.2.2.2.2.2.2.1 _ rfl).1 _ rfl).trans (hA322.2.2.2.2.2.2.2.2.2.2.2.2.2.1 _ rfl).2
                  have q2541 : f 87 = undef := ((hA322.2.2.2.2.2.2.2.2.2.2.2.2.2.2.1 _ rfl).1 _ rfl).trans (hA322.2.2.2.2.2.2.2.2.2.2.2.2.2.2.1 _ rfl).2
                  have q2542 : f 88 = undef := ((hA322.2.2.2.2.2.2.2.2.2.2.2.2.2.2.2.1 _ rfl).1 _ rfl).trans (hA322.2.2.2.2.2.2.2.2.2.2.2.2.2.2.2.1 _ rfl).2
                  have q2543 : f 89 = undef := ((hA322.2.2.2.2.2.2.2.2.2.2.2.2.2.2.2.2.1 _ rfl).1 _ rfl).trans (hA322.2.2.2.2.2.2.2.2.2.2.2.2.2.2.2.2.1 _ rfl).2
                  have q2544 : f 90 = undef := ((hA322.2.2.2.2.2.2.2.2.2.2.2.2.2.2.2.2.2.1 _ rfl).1 _ rfl).trans (hA322.2.2.2.2.2.2.2.2.2.2.2.2.2.2.2.2.2.1 _ rfl).2
                  have q2545 : f 91 = undef := ((hA322.2.2.2.2.2.2.2.2.2.2.2.2.2.2.2.2.2.2.1 _ rfl).1 _ rfl).trans (hA322.2.2.2.2.2.2.2.2.2.2.2.2.2.2.2.2.2.2.1 _ rfl).2
                  have q2546 : f 92 = undef := ((hA322.2.2.2.2.2.2.2.2.2.2.2.2.2.2.2.2.2.2.2.1 _ rfl).1 _ rfl).trans (hA322.2.2.2.2.2.2.2.2.2.2.2.2.2.2.2.2.2.2.2.1 _ rfl).2
                  have q2547 : f 93 = undef := ((hA322.2.2.2.2.2.2.2.2.2.2.2.2.2.2.2.2.2.2.2.2.1 _ rfl).1 _ rfl).trans (hA322.2.2.2.2.2.2.2.2.2.2.2.2.2.2.2.2.2.2.2.2.1 _ rfl).2
                  have q2548 : f 94 = undef := ((hA322.2.2.2.2.2.2.2.2.2.2.2.2.2.2.2.2.2.2.2.2.2.1 _ rfl).1 _ rfl).trans (hA322.2.2.2.2.2.2.2.2.2.2.2.2.2.2.2.2.2.2.2.2.2.1 _ rfl).2
                  have q2549 : f 95 = undef := ((hA322.2.2.2.2.2.2.2.2.2.2.2.2.2.2.2.2.2.2.2.2.2.2.1 _ rfl).1 _ rfl).trans (hA322.2.2.2.2.2.2.2.2.2.2.2.2.2.2.2.2.2.2.2.2.2.2.1 _ rfl).2
                  have q2550 : f 96 = undef := ((hA322.2.2.2.2.2.2.2.2.2.2.2.2.2.2.2.2.2.2.2.2.2.2.2.1 _ rfl).1 _ rfl).trans (hA322.2.2.2.2.2.2.2.2.2.2.2.2.2.2.2.2.2.2.2.2.2.2.2.1 _ rfl).2
                  exact opg_skip_u rfl rfl rfl rfl q2538 rfl ⟨_, _, rfl, PH.Le.refl _, rfl, I364⟩
                · intro vs334 f w342 S339 X323 le339 hA323 hK334 hI336
                  have I365 : Inv w342 S339 (X323) := hI336
                  have q2551 : f 73 = (fieldPtr (Value.pointer (some ⟨g1, 0, none⟩)) 1) := ((hA323.1 _ rfl).1 _ rfl).trans (hA323.1 _ rfl).2
                  have q2552 : f 74 = vs334 1 := (hA323.2.1 _ rfl).1 _ rfl
                  have r306 : RV S339 (vs334 1) a0.Doors := (hA323.2.1 _ rfl).2
                  obtain ⟨u395, hu395⟩ : ∃ u, vs334 1 = u := ⟨_, rfl⟩
                  rw [hu395] at q2552 r306
                  obtain ⟨z350, m350, k350, e495⟩ := rv_form r306
                  subst e495
                  have q2553 : f 75 = (Value.int .i64 ((i1 : Int))) := ((hA323.2.2.1 _ rfl).1 _ rfl).trans (hA323.2.2.1 _ rfl).2
                  have q2554 : f 76 = (elemPtr (vs334 1) ((i1 : Int)) (Enc.sz Gate)) := ((hA323.2.2.2.1 _ rfl).1 _ rfl).trans (hA323.2.2.2.1 _ rfl).2
                  simp only [hu395] at q2554
                  have q2554 : f 76 = (elemPtr (Value.slice z350 m350 k350) ((i1 : Int)) (Enc.sz Gate)) := q2554
                  have q2555 : f 77 = (fieldPtr (elemPtr (vs334 1) ((i1 : Int)) (Enc.sz Gate)) 1) := ((hA323.2.2.2.2.1 _ rfl).1 _ rfl).trans (hA323.2.2.2.2.1 _ rfl).2
                  simp only [hu395] at q2555
                  have q2555 : f 77 = (fieldPtr (elemPtr (Value.slice z350 m350 k350) ((i1 : Int)) (Enc.sz Gate)) 1) := q2555
                  have q2556 : f 78 = vs334 5 := (hA323.2.2.2.2.2.1 _ rfl).1 _ rfl
                  have r307 : RV S339 (vs334 5) x21.When := (hA323.2.2.2.2.2.1 _ rfl).2
                  obtain ⟨u396, hu396⟩ : ∃ u, vs334 5 = u := ⟨_, rfl⟩
                  rw [hu396] at q2556 r307
                  obtain ⟨z351, m351, k351, e496⟩ := rv_form r307
                  subst e496
                  have q2557 : f 79 = (Value.int .i64 ((x21.When.length : Int))) := ((hA323.2.2.2.2.2.2.1 _ rfl).1 _ rfl).trans (hA323.2.2.2.2.2.2.1 _ rfl).2
                  have q2558 : f 80 = (Value.bool (decide (0 < (x21.When.length : Int)))) := ((hA323.2.2.2.2.2.2.2.1 _ rfl).1 _ rfl).trans (hA323.2.2.2.2.2.2.2.1 _ rfl).2
                  have q2559 : f 81 = (Value.bool (decide (0 < (x21.When.length : Int)))) := ((hA323.2.2.2.2.2.2.2.2.1 _ rfl).1 _ rfl).trans (hA323.2.2.2.2.2.2.2.2.1 _ rfl).2
                  have q2560 : f 82 = undef := ((hA323.2.2.2.2.2.2.2.2.2.1 _ rfl).1 _ rfl).trans (hA323.2.2.2.2.2.2.2.2.2.1 _ rfl).2
                  have q2561 : f 83 = undef := ((hA323.2.2.2.2.2.2.2.2.2.2.1 _ rfl).1 _ rfl).trans (hA323.2.2.2.2.2.2.2.2.2.2.1 _ rfl).2
                  have q2562 : f 84 = undef := ((hA323.2.2.2.2.2.2.2.2.2.2.2.1 _ rfl).1 _ rfl).trans (hA323.2.2.2.2.2.2.2.2.2.2.2.1 _ rfl).2
                  have q2563 : f 85 = undef := ((hA323.2.2.2.2.2.2.2.2.2.2.2.2.1 _ rfl).1 _ rfl).trans (hA323.2.2.2.2.2.2.2.2.2.2.2.2.1 _ rfl).2
                  have q2564 : f 86 = undef := ((hA323.2.2.2.2.2.2.2.2.2.2.2.2.2.1 _ rfl).1 _ rfl).trans (hA323.2.2.2.2.2.2.2.2.2.2.2.2.2.1 _ rfl).2
                  have q2565 : f 87 = undef := ((hA323.2.2.2.2.2.2.2.2.2.2.2.2.2.2.1 _ rfl).1 _ rfl).trans (hA323.2.2.2.2.2.2.2.2.2.2.2.2.2.2.1 _ rfl).2
                  have q2566 : f 88 = undef := ((hA323.2.2.2.2.2.2.2.2.2.2.2.2.2.2.2.1 _ rfl).1 _ rfl).trans (hA323.2.2.2.2.2.2.2.2.2.2.2.2.2.2.2.1 _ rfl).2
                  have q2567 : f 89 = undef := ((hA323.2.2.2.2.2.2.2.2.2.2.2.2.2.2.2.2.1 _ rfl).1 _ rfl).trans (hA323.2.2.2.2.2.2.2.2.2.2.2.2.2.2.2.2.1 _ rfl).2
                  have q2568 : f 90 = undef := ((hA323.2.2.2.2.2.2.2.2.2.2.2.2.2.2.2.2.2.1 _ rfl).1 _ rfl).trans (hA323.2.2.2.2.2.2.2.2.2.2.2.2.2.2.2.2.2.1 _ rfl).2
                  have q2569 : f 91 = undef := ((hA323.2.2.2.2.2.2.2.2.2.2.2.2.2.2.2.2.2.2.1 _ rfl).1 _ rfl).trans (hA323.2.2.2.2.2.2.2.2.2.2.2.2.2.2.2.2.2.2.1 _ rfl).2
                  have q2570 : f 92 = undef := ((hA323.2.2.2.2.2.2.2.2.2.2.2.2.2.2.2.2.2.2.2.1 _ rfl).1 _ rfl).trans (hA323.2.2.2.2.2.2.2.2.2.2.2.2.2.2.2.2.2.2.2.1 _ rfl).2
                  have q2571 : f 93 = undef := ((hA323.2.2.2.2.2.2.2.2.2.2.2.2.2.2.2.2.2.2.2.2.1 _ rfl).1 _ rfl).trans (hA323.2.2.2.2.2.2.2.2.2.2.2.2.2.2.2.2.2.2.2.2.1 _ rfl).2
                  have q2572 : f 94 = undef := ((hA323.2.2.2.2.2.2.2.2.2.2.2.2.2.2.2.2.2.2.2.2.2.1 _ rfl).1 _ rfl).trans (hA323.2.2.2.2.2.2.2.2.2.2.2.2.2.2.2.2.2.2.2.2.2.1 _ rfl).2
                  have q2573 : f 95 = undef := ((hA323.2.2.2.2.2.2.2.2.2.2.2.2.2.2.2.2.2.2.2.2.2.2.1 _ rfl).1 _ rfl).trans (hA323.2.2.2.2.2.2.2.2.2.2.2.2.2.2.2.2.2.2.2.2.2.2.1 _ rfl).2
                  have q2574 : f 96 = undef := ((hA323.2.2.2.2.2.2.2.2.2.2.2.2.2.2.2.2.2.2.2.2.2.2.2.1 _ rfl).1 _ rfl).trans (hA323.2.2.2.2.2.2.2.2.2.2.2.2.2.2.2.2.2.2.2.2.2.2.2.1 _ rfl).2
                  have q2575 : f 97 = undef := ((hA323.2.2.2.2.2.2.2.2.2.2.2.2.2.2.2.2.2.2.2.2.2.2.2.2.1 _ rfl).1 _ rfl).trans (hA323.2.2.2.2.2.2.2.2.2.2.2.2.2.2.2.2.2.2.2.2.2.2.2.2.1 _ rfl).2
                  exact opg_skip (c := decide (0 < (x21.When.length : Int))) rfl rfl rfl rfl q2559 hc62 rfl ⟨_, _, rfl, PH.Le.refl _, rfl, I365⟩
                · intro vs335 f w343 S340 X324 le340 hA324 hK335 hI337
                  have I366 : Inv w343 S340 (X324) := hI337
                  have q2576 : f 73 = (fieldPtr (Value.pointer (some ⟨g1, 0, none⟩)) 1) := ((hA324.1 _ rfl).1 _ rfl).trans (hA324.1 _ rfl).2
                  have q2577 : f 74 = vs335 1 := (hA324.2.1 _ rfl).1 _ rfl
                  have r308 : RV S340 (vs335 1) a0.Doors := (hA324.2.1 _ rfl).2
                  obtain ⟨u397, hu397⟩ : ∃ u, vs335 1 = u := ⟨_, rfl⟩
                  rw [hu397] at q2577 r308
                  obtain ⟨z352, m352, k352, e497⟩ := rv_form r308
                  subst e497
                  have q2578 : f 75 = (Value.int .i64 ((i1 : Int))) := ((hA324.2.2.1 _ rfl).1 _ rfl).trans (hA324.2.2.1 _ rfl).2
                  have q2579 : f 76 = (elemPtr (vs335 1) ((i1 : Int)) (Enc.sz Gate)) := ((hA324.2.2.2.1 _ rfl).1 _ rfl).trans (hA324.2.2.2.1 _ rfl).2
                  simp only [hu397] at q2579
                  have q2579 : f 76 = (elemPtr (Value.slice z352 m352 k352) ((i1 : Int)) (Enc.sz Gate)) := q2579
                  have q2580 : f 77 = (fieldPtr (elemPtr (vs335 1) ((i1 : Int)) (Enc.sz Gate)) 1) := ((hA324.2.2.2.2.1 _ rfl).1 _ rfl).trans (hA324.2.2.2.2.1 _ rfl).2
                  simp only [hu397] at q2580
                  have q2580 : f 77 = (fieldPtr (elemPtr (Value.slice z352 m352 k352) ((i1 : Int)) (Enc.sz Gate)) 1) := q2580
                  have q2581 : f 78 = vs335 5 := (hA324.2.2.2.2.2.1 _ rfl).1 _ rfl
                  have r309 : RV S340 (vs335 5) x21.When := (hA324.2.2.2.2.2.1 _ rfl).2
                  obtain ⟨u398, hu398⟩ : ∃ u, vs335 5 = u := ⟨_, rfl⟩
                  rw [hu398] at q2581 r309
                  obtain ⟨z353, m353, k353, e498⟩ := rv_form r309
                  subst e498
                  have q2582 : f 79 = (Value.int .i64 ((x21.When.length : Int))) := ((hA324.2.2.2.2.2.2.1 _ rfl).1 _ rfl).trans (hA324.2.2.2.2.2.2.1 _ rfl).2
                  have q2583 : f 80 = (Value.bool (decide (0 < (x21.When.length : Int)))) := ((hA324.2.2.2.2.2.2.2.1 _ rfl).1 _ rfl).trans (hA324.2.2.2.2.2.2.2.1 _ rfl).2
                  have q2584 : f 81 = (Value.bool (decide (0 < (x21.When.length : Int)))) := ((hA324.2.2.2.2.2.2.2.2.1 _ rfl).1 _ rfl).trans (hA324.2.2.2.2.2.2.2.2.1 _ rfl).2
                  have q2585 : f 82 = undef := ((hA324.2.2.2.2.2.2.2.2.2.1 _ rfl).1 _ rfl).trans (hA324.2.2.2.2.2.2.2.2.2.1 _ rfl).2
                  have q2586 : f 83 = undef := ((hA324.2.2.2.2.2.2.2.2.2.2.1 _ rfl).1 _ rfl).trans (hA324.2.2.2.2.2.2.2.2.2.2.1 _ rfl).2
                  have q2587 : f 84 = undef := ((hA324.2.2.2.2.2.2.2.2.2.2.2.1 _ rfl).1 _ rfl).trans (hA324.2.2.2.2.2.2.2.2.2.2.2.1 _ rfl).2
                  have q2588 : f 85 = undef := ((hA324.2.2.2.2.2.2.2.2.2.2.2.2.1 _ rfl).1 _ rfl).trans (hA324.2.2.2.2.2.2.2.2.2.2.2.2.1 _ rfl).2
                  have q2589 : f 86 = undef := ((hA324.2.2.2.2.2.2.2.2.2.2.2.2.2.1 _ rfl).1 _ rfl).trans (hA324.2.2.2.2.2.2.2.2.2.2.2.2.2.1 _ rfl).2
                  have q2590 : f 87 = undef := ((hA324.2.2.2.2.2.2.2.2.2.2.2.2.2.2.1 _ rfl).1 _ rfl).trans (hA324.2.2.2.2.2.2.2.2.2.2.2.2.2.2.1 _ rfl).2
                  have q2591 : f 88 = undef := ((hA324.2.2.2.2.2.2.2.2.2.2.2.2.2.2.2.1 _ rfl).1 _ rfl).trans (hA324.2.2.2.2.2.2.2.2.2.2.2.2.2.2.2.1 _ rfl).2
                  have q2592 : f 89 = undef := ((hA324.2.2.2.2.2.2.2.2.2.2.2.2.2.2.2.2.1 _ rfl).1 _ rfl).trans (hA324.2.2.2.2.2.2.2.2.2.2.2.2.2.2.2.2.1 _ rfl).2
                  have q2593 : f 90 = undef := ((hA324.2.2.2.2.2.2.2.2.2.2.2.2.2.2.2.2.2.1 _ rfl).1 _ rfl).trans (hA324.2.2.2.2.2.2.2.2.2.2.2.2.2.2.2.2.2.1 _ rfl).2
                  have q2594 : f 91 = undef := ((hA324.2.2.2.2.2.2.2.2.2.2.2.2.2.2.2.2.2.2.1 _ rfl).1 _ rfl).trans (hA324.2.2.2.2.2.2.2.2.2.2.2.2.2.2.2.2.2.2.1 _ rfl).2
                  have q2595 : f 92 = undef := ((hA324.2.2.2.2.2.2.2.2.2.2.2.2.2.2.2.2.2.2.2.1 _ rfl).1 _ rfl).trans (hA324.2.2.2.2.2.2.2.2.2.2.2.2.2.2.2.2.2.2.2.1 _ rfl).2
                  have q2596 : f 93 = undef := ((hA324.2.2.2.2.2.2.2.2.2.2.2.2.2.2.2.2.2.2.2.2.1 _ rfl).1 _ rfl).trans (hA324.2.2.2.2.2.2.2.2.2.2.2.2.2.2.2.2.2.2.2.2.1 _ rfl).2
                  have q2597 : f 94 = undef := ((hA324.2.2.2.2.2.2.2.2.2.2.2.2.2.2.2.2.2.2.2.2.2.1 _ rfl).1 _ rfl).trans (hA324.2.2.2.2.2.2.2.2.2.2.2.2.2.2.2.2.2.2.2.2.2.1 _ rfl).2
                  have q2598 : f 95 = undef := ((hA324.2.2.2.2.2.2.2.2.2.2.2.2.2.2.2.2.2.2.2.2.2.2.1 _ rfl).1 _ rfl).trans (hA324.2.2.2.2.2.2.2.2.2.2.2.2.2.2.2.2.2.2.2.2.2.2.1 _ rfl).2
                  have q2599 : f 96 = undef := ((hA324.2.2.2.2.2.2.2.2.2.2.2.2.2.2.2.2.2.2.2.2.2.2.2.1 _ rfl).1 _ rfl).trans (hA324.2.2.2.2.2.2.2.2.2.2.2.2.2.2.2.2.2.2.2.2.2.2.2.1 _ rfl).2
                  have q2600 : f 97 = undef := ((hA324.2.2.2.2.2.2.2.2.2.2.2.2.2.2.2.2.2.2.2.2.2.2.2.2.1 _ rfl).1 _ rfl).trans (hA324.2.2.2.2.2.2.2.2.2.2.2.2.2.2.2.2.2.2.2.2.2.2.2.2.1 _ rfl).2
                  have q2601 : f 98 = undef := ((hA324.2.2.2.2.2.2.2.2.2.2.2.2.2.2.2.2.2.2.2.2.2.2.2.2.2.1 _ rfl).1 _ rfl).trans (hA324.2.2.2.2.2.2.2.2.2.2.2.2.2.2.2.2.2.2.2.2.2.2.2.2.2.1 _ rfl).2
                  refine opg_plain rfl rfl (op_pick_f (c := decide (0 < (x21.When.length : Int))) (b := (Value.bool (false))) rfl q2584 hc62 rfl ?_)
                  refine ⟨_, _, rfl, PH.Le.refl _, ?_, ?_⟩
                  · exact rfl
                  · exact I366
                · intro vs336 f w344 S341 le341 hF12 hK336 hI338
                  have e499 : f 3 = (Value.pointer (some ⟨g1, 0, none⟩)) := (hK336 3 (keep_all rfl)).trans e402
                  have e500 : f 7 = (Value.int .i64 (x3.1)) := (hK336 7 (keep_all rfl)).trans e403
                  have e501 : f 11 = (Value.int .i64 (s2)) := (hK336 11 (keep_all rfl)).trans e404
                  have e502 : f 12 = (Value.int .i64 ((i1 : Int))) := (hK336 12 (keep_all rfl)).trans e405
                  have I367 : Inv w344 S341 (Fr) := hI338
                  have q2602 : f 73 = (fieldPtr (Value.pointer (some ⟨g1, 0, none⟩)) 1) := ((hF12.1 _ rfl).1 _ rfl).trans (hF12.1 _ rfl).2
                  have q2603 : f 74 = vs336 1 := (hF12.2.1 _ rfl).1 _ rfl
                  have r310 : RV S341 (vs336 1) a0.Doors := (hF12.2.1 _ rfl).2
                  obtain ⟨u399, hu399⟩ : ∃ u, vs336 1 = u := ⟨_, rfl⟩
                  rw [hu399] at q2603 r310
                  obtain ⟨z354, m354, k354, e503⟩ := rv_form r310
                  subst e503
                  have q2604 : f 75 = (Value.int .i64 ((i1 : Int))) := ((hF12.2.2.1 _ rfl).1 _ rfl).trans (hF12.2.2.1 _ rfl).2
                  have q2605 : f 76 = (elemPtr (vs336 1) ((i1 : Int)) (Enc.sz Gate)) := ((hF12.2.2.2.1 _ rfl).1 _ rfl).trans (hF12.2.2.2.1 _ rfl).2
                  simp only [hu399] at q2605
                  have q2605 : f 76 = (elemPtr (Value.slice z354 m354 k354) ((i1 : Int)) (Enc.sz Gate)) := q2605
                  have q2606 : f 77 = (fieldPtr (elemPtr (vs336 1) ((i1 : Int)) (Enc.sz Gate)) 1) := ((hF12.2.2.2.2.1 _ rfl).1 _ rfl).trans (hF12.2.2.2.2.1 _ rfl).2
                  simp only [hu399] at q2606
                  have q2606 : f 77 = (fieldPtr (elemPtr (Value.slice z354 m354 k354) ((i1 : Int)) (Enc.sz Gate)) 1) := q2606
                  have q2607 : f 78 = vs336 5 := (hF12.2.2.2.2.2.1 _ rfl).1 _ rfl
                  have r311 : RV S341 (vs336 5) x21.When := (hF12.2.2.2.2.2.1 _ rfl).2
                  obtain ⟨u400, hu400⟩ : ∃ u, vs336 5 = u := ⟨_, rfl⟩
                  rw [hu400] at q2607 r311
                  obtain ⟨z355, m355, k355, e504⟩ := rv_form r311
                  subst e504
                  have q2608 : f 79 = (Value.int .i64 ((x21.When.length : Int))) := ((hF12.2.2.2.2.2.2.1 _ rfl).1 _ rfl).trans (hF12.2.2.2.2.2.2.1 _ rfl).2
                  have q2609 : f 80 = (Value.bool (decide (0 < (x21.When.length : Int)))) := ((hF12.2.2.2.2.2.2.2.1 _ rfl).1 _ rfl).trans (hF12.2.2.2.2.2.2.2.1 _ rfl).2
                  have q2610 : f 81 = (Value.bool (decide (0 < (x21.When.length : Int)))) := ((hF12.2.2.2.2.2.2.2.2.1 _ rfl).1 _ rfl).trans (hF12.2.2.2.2.2.2.2.2.1 _ rfl).2
                  have q2611 : f 82 = undef := ((hF12.2.2.2.2.2.2.2.2.2.1 _ rfl).1 _ rfl).trans (hF12.2.2.2.2.2.2.2.2.2.1 _ rfl).2
                  have q2612 : f 83 = undef := ((hF12.2.2.2.2.2.2.2.2.2.2.1 _ rfl).1 _ rfl).trans (hF12.2.2.2.2.2.2.2.2.2.2.1 _ rfl).2
                  have q2613 : f 84 = undef := ((hF12.2.2.2.2.2.2.2.2.2.2.2.1 _ rfl).1 _ rfl).trans (hF12.2.2.2.2.2.2.2.2.2.2.2.1 _ rfl).2
                  have q2614 : f 85 = undef := ((hF12.2.2.2.2.2.2.2.2.2.2.2.2.1 _ rfl).1 _ rfl).trans (hF12.2.2.2.2.2.2.2.2.2.2.2.2.1 _ rfl).2
                  have q2615 : f 86 = undef := ((hF12.2.2.2.2.2.2.2.2.2.2.2.2.2.1 _ rfl).1 _ rfl).trans (hF12.2.2.2.2.2.2.2.2.2.2.2.2.2.1 _ rfl).2
                  have q2616 : f 87 = undef := ((hF12.2.2.2.2.2.2.2.2.2.2.2.2.2.2.1 _ rfl).1 _ rfl).trans (hF12.2.2.2.2.2.2.2.2.2.2.2.2.2.2.1 _ rfl).2
                  have q2617 : f 88 = undef := ((hF12.2.2.2.2.2.2.2.2.2.2.2.2.2.2.2.1 _ rfl).1 _ rfl).trans (hF12.2.2.2.2.2.2.2.2.2.2.2.2.2.2.2.1 _ rfl).2
                  have q2618 : f 89 = undef := ((hF12.2.2.2.2.2.2.2.2.2.2.2.2.2.2.2.2.1 _ rfl).1 _ rfl).trans (hF12.2.2.2.2.2.2.2.2.2.2.2.2.2.2.2.2.1 _ rfl).2
                  have q2619 : f 90 = undef := ((hF12.2.2.2.2.2.2.2.2.2.2.2.2.2.2.2.2.2.1 _ rfl).1 _ rfl).trans (hF12.2.2.2.2.2.2.2.2.2.2.2.2.2.2.2.2.2.1 _ rfl).2
                  have q2620 : f 91 = undef := ((hF12.2.2.2.2.2.2.2.2.2.2.2.2.2.2.2.2.2.2.1 _ rfl).1 _ rfl).trans (hF12.2.2.2.2.2.2.2.2.2.2.2.2.2.2.2.2.2.2.1 _ rfl).2
                  have q2621 : f 92 = undef := ((hF12.2.2.2.2.2.2.2.2.2.2.2.2.2.2.2.2.2.2.2.1 _ rfl).1 _ rfl).trans (hF12.2.2.2.2.2.2.2.2.2.2.2.2.2.2.2.2.2.2.2.1 _ rfl).2
                  have q2622 : f 93 = undef := ((hF12.2.2.2.2.2.2.2.2.2.2.2.2.2.2.2.2.2.2.2.2.1 _ rfl).1 _ rfl).trans (hF12.2.2.2.2.2.2.2.2.2.2.2.2.2.2.2.2.2.2.2.2.1 _ rfl).2
                  have q2623 : f 94 = undef := ((hF12.2.2.2.2.2.2.2.2.2.2.2.2.2.2.2.2.2.2.2.2.2.1 _ rfl).1 _ rfl).trans (hF12.2.2.2.2.2.2.2.2.2.2.2.2.2.2.2.2.2.2.2.2.2.1 _ rfl).2
                  have q2624 : f 95 = undef := ((hF12.2.2.2.2.2.2.2.2.2.2.2.2.2.2.2.2.2.2.2.2.2.2.1 _ rfl).1 _ rfl).trans (hF12.2.2.2.2.2.2.2.2.2.2.2.2.2.2.2.2.2.2.2.2.2.2.1 _ rfl).2
                  have q2625 : f 96 = undef := ((hF12.2.2.2.2.2.2.2.2.2.2.2.2.2.2.2.2.2.2.2.2.2.2.2.1 _ rfl).1 _ rfl).trans (hF12.2.2.2.2.2.2.2.2.2.2.2.2.2.2.2.2.2.2.2.2.2.2.2.1 _ rfl).2
                  have q2626 : f 97 = undef := ((hF12.2.2.2.2.2.2.2.2.2.2.2.2.2.2.2.2.2.2.2.2.2.2.2.2.1 _ rfl).1 _ rfl).trans (hF12.2.2.2.2.2.2.2.2.2.2.2.2.2.2.2.2.2.2.2.2.2.2.2.2.1 _ rfl).2
                  have q2627 : f 98 = undef := ((hF12.2.2.2.2.2.2.2.2.2.2.2.2.2.2.2.2.2.2.2.2.2.2.2.2.2.1 _ rfl).1 _ rfl).trans (hF12.2.2.2.2.2.2.2.2.2.2.2.2.2.2.2.2.2.2.2.2.2.2.2.2.2.1 _ rfl).2
                  have q2628 : f 99 = (Value.bool (false)) := ((hF12.2.2.2.2.2.2.2.2.2.2.2.2.2.2.2.2.2.2.2.2.2.2.2.2.2.2.1 _ rfl).1 _ rfl).trans (hF12.2.2.2.2.2.2.2.2.2.2.2.2.2.2.2.2.2.2.2.2.2.2.2.2.2.2.1 _ rfl).2
                  refine wp_cond_f (b := false) q2628 rfl ?_
                  refine wp_skip' ?_
                  refine wp_region' ?_
                  refine wl_op rfl (op_move (v := (Value.int .i64 ((i1 : Int)))) rfl e502 ?_)
                  refine wl_op rfl (op_add (a := (i1 : Int)) (b := 1) rfl rfl rfl ?_)
                  refine wl_op rfl (op_assign (v := (Value.int .i64 (w64 ((i1 : Int) + 1)))) rfl rfl ?_)
                  refine wl_nil ?_
                  obtain rfl := Option.some.inj h33
                  exact ⟨_, (le257.trans le341), I367, e499, e500, e501, (idx_next hlt1 hk1)⟩
            · rintro f w hI339
              obtain ⟨S342, le342, I368, e505, e506, e507, e508⟩ := hI339
              refine wp_seq' ?_
              refine wp_seq' ?_
              refine wp_region' ?_
              refine wl_op rfl (op_move (v := (Value.int .i64 ((a0.Doors.length : Int)))) rfl e508 ?_)
              refine wl_op rfl (op_fieldAddr_t (v := (Value.pointer (some ⟨g1, 0, none⟩))) rfl fa24_1 e505 ((p1.mono (le2.trans le342)).at_ I368) ?_)
              refine wl_op rfl (op_load (v := (fieldPtr (Value.pointer (some ⟨g1, 0, none⟩)) 1)) (e := a0.Doors) rfl sh22 rfl (((p1.mono (le2.trans le342)).at_ I368).fld Panel.fld1) (fun u402 hu402 => ?_))
              obtain ⟨z357, m357, k357, e510⟩ := rv_form hu402
              subst e510
              refine wl_op rfl (op_len_rv rfl Try.underlying22 rfl hu402 ?_)
              refine wl_op rfl (op_lss (a := (a0.Doors.length : Int)) (b := (a0.Doors.length : Int)) rfl rfl rfl ?_)
              refine wl_nil ?_
              refine wp_cond_f (b := decide ((a0.Doors.length : Int) < (a0.Doors.length : Int))) rfl (len_f _) ?_
              refine wp_exit' ?_
              exact ⟨_, le342, I368, e505, e506, e507⟩
          · rintro f w ⟨S343, le343, I369, e511, e512, e513⟩
            refine wp_seq' ?_
            refine wp_seq' ?_
            refine wp_region' ?_
            refine wl_op rfl (op_move (v := (Value.int .i64 (out2))) rfl e513 ?_)
            refine wl_op rfl (op_lss (a := out2) (b := 0) rfl rfl rfl ?_)
            refine wl_nil ?_
            rcases ifs h with ⟨hc65, h⟩ | ⟨hc65, h⟩
            · refine wp_cond_t (b := decide (out2 < 0)) rfl hc65 ?_
              refine wp_seq' ?_
              refine wp_region' ?_
              refine wl_op rfl (op_assign (v := (Value.bool (false))) rfl rfl ?_)
              refine wl_nil ?_
              refine wp_ret' ?_
              obtain rfl := Option.some.inj h
              exact ⟨(Value.bool (false)), (res1 rfl rfl), _, [], ((le1.trans le2).trans le343), I369, rfl, rfl⟩
            · refine wp_cond_f (b := decide (out2 < 0)) rfl hc65 ?_
              refine wp_skip' ?_
              refine wp_seq' ?_
              refine wp_region' ?_
              refine wl_op rfl (op_fieldAddr_t (v := (Value.pointer (some ⟨g1, 0, none⟩))) rfl fa24_1 e511 ((p1.mono (le2.trans le343)).at_ I369) ?_)
              refine wl_op rfl (op_load (v := (fieldPtr (Value.pointer (some ⟨g1, 0, none⟩)) 1)) (e := a0.Doors) rfl sh22 rfl (((p1.mono (le2.trans le343)).at_ I369).fld Panel.fld1) (fun u403 hu403 => ?_))
              obtain ⟨z358, m358, k358, e514⟩ := rv_form hu403
              subst e514
              refine wl_op rfl (op_move (v := (Value.int .i64 (out2))) rfl e513 ?_)
              obtain ⟨x23, hx23, h⟩ := bnd h
              refine wl_op rfl (op_indexAddr_rv (v := (Value.slice z358 m358 k358)) (i := out2) (e := x23) rfl Try.underlying22 sh33 rfl hu403 rfl hx23 ?_)
              refine wl_op rfl (op_fieldAddr_t (v := (elemPtr (Value.slice z358 m358 k358) (out2) (Enc.sz Gate))) rfl fa33_1 rfl (hu403.elem I369.in_ hx23) ?_)
              refine wl_op rfl (op_load (v := (fieldPtr (elemPtr (Value.slice z358 m358 k358) (out2) (Enc.sz Gate)) 1)) (e := x23.When) rfl sh31 rfl ((hu403.elem I369.in_ hx23).fld Gate.fld1) (fun u404 hu404 => ?_))
              obtain ⟨z359, m359, k359, e515⟩ := rv_form hu404
              subst e515
              obtain ⟨x24, hx24, h⟩ := bnd h
              refine wl_op rfl (op_indexAddr_rv (v := (Value.slice z359 m359 k359)) (i := 0) (e := x24) rfl Try.underlying31 sh44 rfl hu404 rfl hx24 ?_)
              refine wl_op rfl (op_load (v := (elemPtr (Value.slice z359 m359 k359) (0) (Enc.sz Sense))) (e := x24) rfl sh44 rfl (hu404.elem I369.in_ hx24) (fun u405 hu405 => ?_))
              have e516 := Sense.inv hu405
              subst e516
              refine wl_op rfl (op_alloc (z := (Value.agg #[(Value.int .i64 (0)), (Value.int .i64 (0)), (Value.bool (false))])) rfl I369 zo44 (fun g2 w345 (I370 : Inv w345 S343 (Cells g2 44 #[(Value.int .i64 (0)), (Value.int .i64 (0)), (Value.bool (false))] :: Fr)) => ?_))
              refine wl_op rfl (op_store (v := (Value.agg #[(Value.int .i64 (x24.Sensor)), (Value.int .i64 (x24.Value)), (Value.bool (x24.Not))])) (cs := #[(Value.int .i64 (0)), (Value.int .i64 (0)), (Value.bool (false))]) sh44 I370 rfl rfl rfl (Nat.le_of_ble_eq_true rfl) rfl (fun w346 (I371 : Inv w346 S343 (Cells g2 44 #[(Value.int .i64 (x24.Sensor)), (Value.int .i64 (x24.Value)), (Value.bool (x24.Not))] :: Fr)) => ?_))
              refine wl_nil ?_
              refine wp_seq' ?_
              refine wp_region' ?_
              refine wl_op rfl (op_fieldAddr (v := (Value.pointer (some ⟨g2, 0, none⟩))) rfl fa44_1 rfl rfl ?_)
              refine wl_op rfl (op_load1 (c := (Value.int .i64 (x24.Value))) rfl sh3 (I371.nth 0 rfl) rfl rfl ?_)
              refine wl_op rfl (op_assign (v := (Value.int .i64 (x24.Value))) rfl rfl ?_)
              refine wl_nil ?_
              obtain ⟨v12, h36, h⟩ := bnd h
              refine wp_cut (fun f w => Inv w S343 (Cells g2 44 #[(Value.int .i64 (x24.Sensor)), (Value.int .i64 (x24.Value)), (Value.bool (x24.Not))] :: Fr) ∧ f 3 = (Value.pointer (some ⟨g1, 0, none⟩)) ∧ f 7 = (Value.int .i64 (x3.1)) ∧ f 11 = (Value.int .i64 (out2)) ∧ f 13 = (Value.pointer (some ⟨g2, 0, none⟩)) ∧ f 14 = (Value.int .i64 (v12))) ?_ ?_
              · refine wp_seq' ?_
                refine wp_region' ?_
                refine wl_op rfl (op_fieldAddr (v := (Value.pointer (some ⟨g2, 0, none⟩))) rfl fa44_2 rfl rfl ?_)
                refine wl_op rfl (op_load1 (c := (Value.bool (x24.Not))) rfl sh4 (I371.nth 0 rfl) rfl rfl ?_)
                refine wl_op rfl (op_not (b := x24.Not) rfl rfl ?_)
                refine wl_nil ?_
                rcases ifs h36 with ⟨hc67, h36⟩ | ⟨hc67, h36⟩
                · refine wp_cond_t (b := !x24.Not) rfl hc67 ?_
                  refine wp_region' ?_
                  refine wl_op rfl (op_fieldAddr (v := (Value.pointer (some ⟨g2, 0, none⟩))) rfl fa44_1 rfl rfl ?_)
                  refine wl_op rfl (op_load1 (c := (Value.int .i64 (x24.Value))) rfl sh3 (I371.nth 0 rfl) rfl rfl ?_)
                  refine wl_op rfl (op_add (a := x24.Value) (b := 1) rfl rfl rfl ?_)
                  obtain ⟨x26, hx26, h36⟩ := bnd h36
                  refine wl_op rfl (op_rem (a := w64 (x24.Value + 1)) (b := 10) rfl rfl rfl hx26 ?_)
                  refine wl_op rfl (op_assign (v := (Value.int .i64 (x26))) rfl rfl ?_)
                  refine wl_nil ?_
                  obtain rfl := Option.some.inj h36
                  exact ⟨I371, e511, e512, e513, rfl, rfl⟩
                · refine wp_cond_f (b := !x24.Not) rfl hc67 ?_
                  refine wp_skip' ?_
                  obtain rfl := Option.some.inj h36
                  exact ⟨I371, e511, e512, e513, rfl, rfl⟩
              · rintro f w ⟨I372, e517, e518, e519, e520, e521⟩
                refine wp_seq' ?_
                refine wp_region' ?_
                refine wl_op rfl (op_fieldAddr (v := (Value.pointer (some ⟨g2, 0, none⟩))) rfl fa44_0 e520 rfl ?_)
                refine wl_op rfl (op_load1 (c := (Value.int .i64 (x24.Sensor))) rfl sh3 (I372.nth 0 rfl) rfl rfl ?_)
                refine wl_op rfl (op_move (v := (Value.int .i64 (v12))) rfl e521 ?_)
                refine wl_op rfl (op_build (qs := [(1, #[(Value.int .i64 (1))]), (2, #[(Value.int .i64 (x24.Sensor))]), (3, #[(Value.int .i64 (v12))])]) (c := #[(Value.int .i64 (0)), (Value.int .i64 (1)), (Value.int .i64 (x24.Sensor)), (Value.int .i64 (v12))]) rfl st46 ⟨rfl, rfl, ⟨rfl, rfl, ⟨rfl, rfl, trivial⟩⟩⟩ rfl ?_)
                refine wl_op rfl (op_buildSlice (vs := [(Value.agg #[(Value.int .i64 (0)), (Value.int .i64 (1)), (Value.int .i64 (x24.Sensor)), (Value.int .i64 (v12))])]) (r := ([(⟨0, 1, x24.Sensor, v12⟩ : Signal)] : List Signal)) rfl Try.underlying25 el46 (parts1 rfl) rfl (by decide) (by decide) ⟨(Signal.rv (s := (⟨0, 1, x24.Sensor, v12⟩ : Signal))), trivial⟩ I372 (fun u406 w347 I373 => ?_))
                obtain ⟨z360, m360, k360, e522⟩ := row_form I373
                subst e522
                refine wl_op rfl (op_assign (v := (Value.slice z360 m360 k360)) rfl rfl ?_)
                refine wl_nil ?_
                refine wp_seq' ?_
                refine wp_seq' ?_
                refine wp_region' ?_
                refine wl_op rfl (op_fieldAddr_t (v := (Value.pointer (some ⟨g1, 0, none⟩))) rfl fa24_3 e517 ((p1.mono (le2.trans le343)).at_ I373) ?_)
                refine wl_op rfl (op_load_int (v := (fieldPtr (Value.pointer (some ⟨g1, 0, none⟩)) 3)) (e := a0.Limit) rfl sh3 rfl (((p1.mono (le2.trans le343)).at_ I373).fld Panel.fld3) ?_)
                refine wl_op rfl (op_assign (v := (Value.int .i64 (a0.Limit))) rfl rfl ?_)
                refine wl_nil ?_
                obtain ⟨out3, hrun3, h⟩ := bnd h
                refine wp_cutN (fun f w => ∃ (z378 : Option Addr) (m378 k378 : Nat), Inv w S343 (Row (α := Signal) 46 (Value.slice z378 m378 k378) (out3.1) :: Fr) ∧ f 3 = (Value.pointer (some ⟨g1, 0, none⟩)) ∧ f 7 = (Value.int .i64 (x3.1)) ∧ f 11 = (Value.int .i64 (out2)) ∧ f 15 = (Value.slice z378 m378 k378) ∧ f 16 = (Value.int .i64 (out3.2))) ?_ ?_
                · refine wp_block' ?_
                  refine wp_whileO (I := fun (s3 : (List Signal × Int)) (f : Frm) (w : World) => ∃ (z377 : Option Addr) (m377 k377 : Nat), Inv w S343 (Row (α := Signal) 46 (Value.slice z377 m377 k377) (s3.1) :: Fr) ∧ f 3 = (Value.pointer (some ⟨g1, 0, none⟩)) ∧ f 7 = (Value.int .i64 (x3.1)) ∧ f 11 = (Value.int .i64 (out2)) ∧ f 15 = (Value.slice z377 m377 k377) ∧ f 16 = (Value.int .i64 (s3.2))) hrun3 ⟨_, _, _, (I373.pull 1).drop, e517, e518, e519, rfl, rfl⟩ ?_
                  rintro s3 f w o4 hI340 h38 hout3
                  obtain ⟨z377, m377, k377, I392, e565, e566, e567, e568, e569⟩ := hI340
                  refine wp_seq' ?_
                  refine wp_seq' ?_
                  refine wp_region' ?_
                  refine wl_op rfl (op_move (v := (Value.int .i64 (s3.2))) rfl e569 ?_)
                  refine wl_op rfl (op_move (v := (Value.int .i64 (x3.1))) rfl e566 ?_)
                  refine wl_op rfl (op_lss (a := s3.2) (b := x3.1) rfl rfl rfl ?_)
                  refine wl_nil ?_
                  rcases ifs h38 with ⟨hc74, h38⟩ | ⟨hc74, h38⟩
                  · refine wp_cond_t (b := decide (s3.2 < x3.1)) rfl hc74 ?_
                    refine wp_skip' ?_
                    refine wp_seq' ?_
                    refine wp_block' ?_
                    refine wp_region' ?_
                    refine wl_op rfl (op_move (v := (Value.slice z377 m377 k377)) rfl e568 ?_)
                    refine wl_op rfl (op_move (v := (Value.int .i64 (s3.2))) rfl e569 ?_)
                    refine wl_op rfl (op_move (v := (Value.int .i64 (out2))) rfl e567 ?_)
                    refine wl_op rfl (op_build (qs := [(0, #[(Value.int .i64 (s3.2))]), (1, #[(Value.int .i64 (3))]), (2, #[(Value.int .i64 (out2))])]) (c := #[(Value.int .i64 (s3.2)), (Value.int .i64 (3)), (Value.int .i64 (out2)), (Value.int .i64 (0))]) rfl st46 ⟨rfl, rfl, ⟨rfl, rfl, ⟨rfl, rfl, trivial⟩⟩⟩ rfl ?_)
                    refine wl_op rfl (op_buildSlice (vs := [(Value.agg #[(Value.int .i64 (s3.2)), (Value.int .i64 (3)), (Value.int .i64 (out2)), (Value.int .i64 (0))])]) (r := ([(⟨s3.2, 3, out2, 0⟩ : Signal)] : List Signal)) rfl Try.underlying25 el46 (parts1 rfl) rfl (by decide) (by decide) ⟨(Signal.rv (s := (⟨s3.2, 3, out2, 0⟩ : Signal))), trivial⟩ I392 (fun u419 w360 I393 => ?_))
                    obtain ⟨z379, m379, k379, e570⟩ := row_form I393
                    subst e570
                    obtain ⟨x33, hx33, h38⟩ := bnd h38
                    refine wl_op rfl (op_append (α := Signal) (v := (Value.slice z377 m377 k377)) (u := (Value.slice z379 m379 k379)) rfl rfl Try.underlying25 el46 (by decide) (by decide) rfl rfl (I393.pull 1) (Inv.rowSrc (I393.nth 0 rfl)) hx33 (fun u420 w361 I394 => ?_))
                    obtain ⟨z380, m380, k380, e571⟩ := row_form I394
                    subst e571
                    refine wl_op rfl (op_assign (v := (Value.slice z380 m380 k380)) rfl rfl ?_)
                    refine wl_nil ?_
                    refine wp_region' ?_
                    refine wl_op rfl (op_move (v := (Value.int .i64 (s3.2))) rfl e569 ?_)
                    refine wl_op rfl (op_add (a := s3.2) (b := 1) rfl rfl rfl ?_)
                    refine wl_op rfl (op_assign (v := (Value.int .i64 (w64 (s3.2 + 1)))) rfl rfl ?_)
                    refine wl_nil ?_
                    obtain rfl := Option.some.inj h38
                    exact ⟨_, rfl, _, _, _, (I394.pull 1).drop, e565, e566, e567, rfl, rfl⟩
                  · refine wp_cond_f (b := decide (s3.2 < x3.1)) rfl hc74 ?_
                    refine wp_exit' ?_
                    obtain rfl := Option.some.inj h38
                    obtain rfl := (hout3 _ rfl)
                    exact ⟨_, _, _, I392, e565, e566, e567, e568, e569⟩
                · rintro f w ⟨z378, m378, k378, I395, e572, e573, e574, e575, e576⟩
                  refine wp_seq' ?_
                  refine wp_region' ?_
                  refine wl_op rfl (op_load (v := (Value.pointer (some ⟨g1, 0, none⟩))) (e := a0) rfl sh24 e572 ((p1.mono (le2.trans le343)).at_ I395) (fun u421 hu406 => ?_))
                  obtain ⟨c4, e577, r312⟩ := Panel.inv hu406
                  subst e577
                  obtain ⟨z381, m381, k381, e578⟩ := rv_form r312
                  subst e578
                  refine wl_op rfl (op_move (v := (Value.int .i64 (x3.1))) rfl e573 ?_)
                  refine wl_op rfl (op_move (v := (Value.slice z378 m378 k378)) rfl e575 ?_)
                  obtain ⟨x34, hx34, h⟩ := bnd h
                  obtain ⟨S344, Fr1, le344, I396, r313, bk1⟩ := Inv.lend1 I395
                  refine wl_op rfl (op_call (vs := [(Value.agg #[(Value.int .i64 (a0.Sensors)), (Value.slice z381 m381 k381), (Value.int .i64 (a0.Stale)), (Value.int .i64 (a0.Limit))]), (Value.int .i64 (x3.1)), (Value.slice z378 m378 k378)]) rfl ca17 rfl (args3 rfl rfl rfl) (F17_ok I396 (Panel.rv (s := a0) (r312.mono le344)) r313 hx34) (fun v13 w362 S345 O2 le345 I398 hv2 => ?_))
                  obtain ⟨z382, m382, k382, rfl, rfl⟩ := hv2
                  have I397 := bk1 [Row (α := Int) 3 (Value.slice z382 m382 k382) (x34.1)] ⟨Row.free, trivial⟩ I398 le345
                  refine wl_op rfl (op_move (v := (Value.tuple #[(Value.slice z382 m382 k382), (Value.int .i64 (x34.2))])) rfl rfl ?_)
                  refine wl_op rfl (op_extract (v := (Value.slice z382 m382 k382)) rfl rfl rfl ?_)
                  refine wl_op rfl (op_extract (v := (Value.int .i64 (x34.2))) rfl rfl rfl ?_)
                  refine wl_op rfl (op_assign (v := (Value.slice z382 m382 k382)) rfl rfl ?_)
                  refine wl_op rfl (op_assign (v := (Value.int .i64 (x34.2))) rfl rfl ?_)
                  refine wl_nil ?_
                  refine wp_seq' ?_
                  refine wp_region' ?_
                  refine wl_op rfl (op_move (v := (Value.int .i64 (x34.2))) rfl rfl ?_)
                  refine wl_op rfl (op_eql (a := x34.2) (b := 0) rfl rfl rfl ?_)
                  refine wl_op rfl (op_move (v := (Value.bool (x34.2 == 0))) rfl rfl ?_)
                  rcases ifs h with ⟨hc75, h⟩ | ⟨hc75, h⟩
                  · refine wl_taken (c := x34.2 == 0) rfl rfl rfl rfl hc75 (op_move (v := (Value.slice z382 m382 k382)) rfl rfl ?_)
                    refine wl_taken (c := x34.2 == 0) rfl rfl rfl rfl hc75 (op_len_row (α := Int) rfl Try.underlying34 rfl (I397.nth 0 rfl) ?_)
                    refine wl_taken (c := x34.2 == 0) rfl rfl rfl rfl hc75 (op_move (v := (Value.int .i64 (x3.1))) rfl e573 ?_)
                    refine wl_taken (c := x34.2 == 0) rfl rfl rfl rfl hc75 (op_eql (a := (x34.1.length : Int)) (b := x3.1) rfl rfl rfl ?_)
                    refine wl_op rfl (op_pick_t (c := x34.2 == 0) (a := (Value.bool ((x34.1.length : Int) == x3.1))) rfl rfl hc75 rfl ?_)
                    refine wl_op rfl (op_move (v := (Value.bool ((x34.1.length : Int) == x3.1))) rfl rfl ?_)
                    rcases ifs h with ⟨hc76, h⟩ | ⟨hc76, h⟩
                    · refine wl_taken (c := (x34.1.length : Int) == x3.1) rfl rfl rfl rfl hc76 (op_move (v := (Value.slice z382 m382 k382)) rfl rfl ?_)
                      refine wl_taken (c := (x34.1.length : Int) == x3.1) rfl rfl rfl rfl hc76 (op_move (v := (Value.int .i64 (x3.1))) rfl e573 ?_)
                      refine wl_taken (c := (x34.1.length : Int) == x3.1) rfl rfl rfl rfl hc76 (op_sub (a := x3.1) (b := 1) rfl rfl rfl ?_)
                      obtain ⟨x35, hx35, h⟩ := bnd h
                      refine wl_taken (c := (x34.1.length : Int) == x3.1) rfl rfl rfl rfl hc76 (op_indexAddr_src (v := (Value.slice z382 m382 k382)) (i := w64 (x3.1 - 1)) (e := x35) rfl Try.underlying34 sh3 rfl (Inv.rowSrc (I397.nth 0 rfl)) rfl hx35 ?_)
                      refine wl_taken (c := (x34.1.length : Int) == x3.1) rfl rfl rfl rfl hc76 (op_load_int (v := (elemPtr (Value.slice z382 m382 k382) (w64 (x3.1 - 1)) (Enc.sz Int))) (e := x35) rfl sh3 rfl ((I397.nth 0 rfl).rowElem hx35) ?_)
                      refine wl_taken (c := (x34.1.length : Int) == x3.1) rfl rfl rfl rfl hc76 (op_move (v := (Value.int .i64 (out2))) rfl e574 ?_)
                      obtain ⟨x36, hx36, h⟩ := bnd h
                      refine wl_taken (c := (x34.1.length : Int) == x3.1) rfl rfl rfl rfl hc76 (op_call_v (vs := [(Value.int .i64 (x35)), (Value.int .i64 (out2))]) (r := (Value.bool (x36))) rfl ca19 rfl (args2 rfl rfl) I397 (fun Fr_ hF_ => F19_ok hF_  hx36) (fun w363 I399 => ?_))
                      refine wl_op rfl (op_pick_t (c := (x34.1.length : Int) == x3.1) (a := (Value.bool (x36))) rfl rfl hc76 rfl ?_)
                      refine wl_op rfl (op_move (v := (Value.bool (x36))) rfl rfl ?_)
                      rcases ifs h with ⟨hc77, h⟩ | ⟨hc77, h⟩
                      · obtain ⟨x37, hx37, h⟩ := bnd h
                        refine wl_taken (c := x36) rfl rfl rfl rfl hc77 (op_call_v (vs := []) (r := (Value.bool (x37))) rfl ca16 rfl args0 I399 (fun Fr_ hF_ => F16_ok hF_  hx37) (fun w364 I400 => ?_))
                        refine wl_op rfl (op_pick_t (c := x36) (a := (Value.bool (x37))) rfl rfl hc77 rfl ?_)
                        refine wl_op rfl (op_assign (v := (Value.bool (x37))) rfl rfl ?_)
                        refine wl_nil ?_
                        refine wp_ret' ?_
                        obtain rfl := Option.some.inj h
                        exact ⟨(Value.bool (x37)), (res1 rfl rfl), _, [], ((le1.trans le2).trans le343), ((I400).drop).drop, rfl, rfl⟩
                      · refine wl_skip (c := x36) rfl rfl rfl rfl hc77 rfl ?_
                        refine wl_op rfl (op_pick_f (c := x36) (b := (Value.bool (false))) rfl rfl hc77 rfl ?_)
                        refine wl_op rfl (op_assign (v := (Value.bool (false))) rfl rfl ?_)
                        refine wl_nil ?_
                        refine wp_ret' ?_
                        obtain rfl := Option.some.inj h
                        exact ⟨(Value.bool (false)), (res1 rfl rfl), _, [], ((le1.trans le2).trans le343), ((I399).drop).drop, rfl, rfl⟩
                    · refine wl_skip (c := (x34.1.length : Int) == x3.1) rfl rfl rfl rfl hc76 rfl ?_
                      refine wl_skip (c := (x34.1.length : Int) == x3.1) rfl rfl rfl rfl hc76 rfl ?_
                      refine wl_skip (c := (x34.1.length : Int) == x3.1) rfl rfl rfl rfl hc76 rfl ?_
                      refine wl_skip (c := (x34.1.length : Int) == x3.1) rfl rfl rfl rfl hc76 rfl ?_
                      refine wl_skip (c := (x34.1.length : Int) == x3.1) rfl rfl rfl rfl hc76 rfl ?_
                      refine wl_skip (c := (x34.1.length : Int) == x3.1) rfl rfl rfl rfl hc76 rfl ?_
                      refine wl_skip (c := (x34.1.length : Int) == x3.1) rfl rfl rfl rfl hc76 rfl ?_
                      refine wl_op rfl (op_pick_f (c := (x34.1.length : Int) == x3.1) (b := (Value.bool (false))) rfl rfl hc76 rfl ?_)
                      refine wl_op rfl (op_move (v := (Value.bool (false))) rfl rfl ?_)
                      refine wl_skip (c := false) rfl rfl rfl rfl rfl rfl ?_
                      refine wl_op rfl (op_pick_f (c := false) (b := (Value.bool (false))) rfl rfl rfl rfl ?_)
                      refine wl_op rfl (op_assign (v := (Value.bool (false))) rfl rfl ?_)
                      refine wl_nil ?_
                      refine wp_ret' ?_
                      obtain rfl := Option.some.inj h
                      exact ⟨(Value.bool (false)), (res1 rfl rfl), _, [], ((le1.trans le2).trans le343), ((I397).drop).drop, rfl, rfl⟩
                  · refine wl_skip (c := x34.2 == 0) rfl rfl rfl rfl hc75 rfl ?_
                    refine wl_skip (c := x34.2 == 0) rfl rfl rfl rfl hc75 rfl ?_
                    refine wl_skip (c := x34.2 == 0) rfl rfl rfl rfl hc75 rfl ?_
                    refine wl_skip (c := x34.2 == 0) rfl rfl rfl rfl hc75 rfl ?_
                    refine wl_op rfl (op_pick_f (c := x34.2 == 0) (b := (Value.bool (false))) rfl rfl hc75 rfl ?_)
                    refine wl_op rfl (op_move (v := (Value.bool (false))) rfl rfl ?_)
                    refine wl_skip (c := false) rfl rfl rfl rfl rfl rfl ?_
                    refine wl_skip (c := false) rfl rfl rfl rfl rfl rfl ?_
                    refine wl_skip (c := false) rfl rfl rfl rfl rfl rfl ?_
                    refine wl_skip (c := false) rfl rfl rfl rfl rfl rfl ?_
                    refine wl_skip (c := false) rfl rfl rfl rfl rfl rfl ?_
                    refine wl_skip (c := false) rfl rfl rfl rfl rfl rfl ?_
                    refine wl_skip (c := false) rfl rfl rfl rfl rfl rfl ?_
                    refine wl_op rfl (op_pick_f (c := false) (b := (Value.bool (false))) rfl rfl rfl rfl ?_)
                    refine wl_op rfl (op_move (v := (Value.bool (false))) rfl rfl ?_)
                    refine wl_skip (c := false) rfl rfl rfl rfl rfl rfl ?_
                    refine wl_op rfl (op_pick_f (c := false) (b := (Value.bool (false))) rfl rfl rfl rfl ?_)
                    refine wl_op rfl (op_assign (v := (Value.bool (false))) rfl rfl ?_)
                    refine wl_nil ?_
                    refine wp_ret' ?_
                    obtain rfl := Option.some.inj h
                    exact ⟨(Value.bool (false)), (res1 rfl rfl), _, [], ((le1.trans le2).trans le343), ((I397).drop).drop, rfl, rfl⟩
end Go.Proofs.Ytfeomcdhhgeilaa.Pad
