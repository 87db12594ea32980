/- A part of the proof: what the functions of the program compute, shown over the model. -/
import Derived.Test.YtfeomcdhhgeilaaPadSP
import Derived.Test.YtfeomcdhhgeilaaPadSW4
import Derived.Test.YtfeomcdhhgeilaaPadSW11
import Derived.Test.YtfeomcdhhgeilaaPadSW17
import Derived.KernelRfl
set_option linter.unusedVariables false
namespace Go.Proofs.Ytfeomcdhhgeilaa.Pad
open Go Go.Proofs
set_option maxHeartbeats 4000000 in
set_option maxRecDepth 100000 in
theorem F6_ok {w : World} {S : PH} {Fr : List HP} {a0 : Panel} {v0 : Value} {a1 : Int} {a2 : (List Signal)} {v2 : Value} {r : Bool} (hI : Inv w S Fr) (h0_ : RV S v0 a0) (h2_ : RV S v2 a2) (h : F6 a0 a1 a2 = some r) :
    Calls Try.prog 6 [v0, (Value.int .i64 (a1)), v2].toArray w (DoneV S Fr (Value.bool (r))) := by
  unfold F6 at h
  obtain ⟨c1, e1, r1⟩ := Panel.inv h0_
  subst e1
  obtain ⟨z1, m1, k1, e2⟩ := rv_form r1
  subst e2
  obtain ⟨z2, m2, k2, e3⟩ := rv_form h2_
  subst e3
  refine calls_enter (n := 104) (vs := [(Value.agg #[(Value.int .i64 (a0.Sensors)), (Value.slice z1 m1 k1), (Value.int .i64 (a0.Stale)), (Value.int .i64 (a0.Limit))]), (Value.int .i64 (a1)), (Value.slice z2 m2 k2)]) Try.func6 rfl rfl rfl ?_
  refine wp_seq' ?_
  refine wp_region' ?_
  refine wl_op rfl (op_box (v := (Value.agg #[(Value.int .i64 (a0.Sensors)), (Value.slice z1 m1 k1), (Value.int .i64 (a0.Stale)), (Value.int .i64 (a0.Limit))])) rfl hI rfl (fun g1 w1 I1 => ?_))
  obtain ⟨S1, le1, I2, p1⟩ := Inv.boxFreeze (x := a0) I1 (Panel.rv (s := a0) r1)
  refine wl_op rfl (op_assign (v := (Value.bool (false))) rfl rfl ?_)
  refine wl_nil ?_
  obtain ⟨ov1, h2, h⟩ := bnd h
  refine wp_cut (fun f w => ∃ v1, ov1 = Sum.inl v1 ∧ Inv w S1 (Fr) ∧ f 1 = (Value.int .i64 (a1)) ∧ f 2 = (Value.slice z2 m2 k2) ∧ f 3 = (Value.pointer (some ⟨g1, 0, none⟩))) ?_ ?_
  · refine wp_seq' ?_
    refine wp_region' ?_
    refine wl_op rfl (op_move (v := (Value.int .i64 (a1))) rfl rfl ?_)
    obtain ⟨x4, hx4, h2⟩ := bnd h2
    refine wl_op rfl (op_call_v (vs := [(Value.int .i64 (a1))]) (r := (Value.bool (x4))) rfl ca20 rfl (args1 rfl) I2 (fun Fr_ hF_ => F20_ok hF_  hx4) (fun w5 I6 => ?_))
    refine wl_op rfl (op_move (v := (Value.bool (x4))) rfl rfl ?_)
    rcases ifs h2 with ⟨hc3, h2⟩ | ⟨hc3, h2⟩
    · refine wl_skip (c := x4) rfl rfl rfl rfl hc3 rfl ?_
      refine wl_skip (c := x4) rfl rfl rfl rfl hc3 rfl ?_
      refine wl_skip (c := x4) rfl rfl rfl rfl hc3 rfl ?_
      refine wl_op rfl (op_pick_t (c := x4) (a := (Value.bool (true))) rfl rfl hc3 rfl ?_)
      refine wl_nil ?_
      refine wp_cond_t (b := true) rfl rfl ?_
      refine wp_seq' ?_
      refine wp_region' ?_
      obtain ⟨x5, hx5, h2⟩ := bnd h2
      refine wl_op rfl (op_call_v (vs := []) (r := (Value.bool (x5))) rfl ca16 rfl args0 I6 (fun Fr_ hF_ => F16_ok hF_  hx5) (fun w6 I7 => ?_))
      refine wl_op rfl (op_assign (v := (Value.bool (x5))) rfl rfl ?_)
      refine wl_nil ?_
      refine wp_ret' ?_
      obtain rfl := Option.some.inj h2
      have h3 := h
      obtain rfl := Option.some.inj h3
      exact ⟨(Value.bool (x5)), (res1 rfl rfl), _, [], le1, I7, rfl, rfl⟩
    · refine wl_taken (c := x4) rfl rfl rfl rfl hc3 (op_move (v := (Value.slice z2 m2 k2)) rfl rfl ?_)
      refine wl_taken (c := x4) rfl rfl rfl rfl hc3 (op_len_rv rfl Try.underlying25 rfl (h2_.mono le1) ?_)
      refine wl_taken (c := x4) rfl rfl rfl rfl hc3 (op_gtr (a := (a2.length : Int)) (b := 200) rfl rfl rfl ?_)
      refine wl_op rfl (op_pick_f (c := x4) (b := (Value.bool (decide (200 < (a2.length : Int))))) rfl rfl hc3 rfl ?_)
      refine wl_nil ?_
      rcases ifs h2 with ⟨hc4, h2⟩ | ⟨hc4, h2⟩
      · refine wp_cond_t (b := decide (200 < (a2.length : Int))) rfl hc4 ?_
        refine wp_seq' ?_
        refine wp_region' ?_
        obtain ⟨x6, hx6, h2⟩ := bnd h2
        refine wl_op rfl (op_call_v (vs := []) (r := (Value.bool (x6))) rfl ca16 rfl args0 I6 (fun Fr_ hF_ => F16_ok hF_  hx6) (fun w7 I8 => ?_))
        refine wl_op rfl (op_assign (v := (Value.bool (x6))) rfl rfl ?_)
        refine wl_nil ?_
        refine wp_ret' ?_
        obtain rfl := Option.some.inj h2
        have h3 := h
        obtain rfl := Option.some.inj h3
        exact ⟨(Value.bool (x6)), (res1 rfl rfl), _, [], le1, I8, rfl, rfl⟩
      · refine wp_cond_f (b := decide (200 < (a2.length : Int))) rfl hc4 ?_
        refine wp_skip' ?_
        obtain rfl := Option.some.inj h2
        exact ⟨_, rfl, I6, rfl, rfl, rfl⟩
  · rintro f w ⟨v1, rfl, I9, e4, e5, e6⟩
    have h := onL_inl h
    refine wp_seq' ?_
    refine wp_region' ?_
    refine wl_op rfl (op_move (v := (Value.slice z2 m2 k2)) rfl e5 ?_)
    refine wl_op rfl (op_buildSlice (vs := [(Value.int .i64 (1)), (Value.int .i64 (6))]) (r := ([1, 6] : List Int)) rfl Try.underlying34 el3 (parts2 rfl rfl) rfl (by decide) (by decide) ⟨(rv_int' _), ⟨(rv_int' _), trivial⟩⟩ I9 (fun u1 w8 I10 => ?_))
    obtain ⟨z3, m3, k3, e7⟩ := row_form I10
    subst e7
    obtain ⟨x7, hx7, h⟩ := bnd h
    obtain ⟨S2, Fr1, le2, I11, r2, bk1⟩ := Inv.lend1 I10
    refine wl_op rfl (op_call (vs := [(Value.slice z2 m2 k2), (Value.slice z3 m3 k3)]) rfl ca25 rfl (args2 rfl rfl) (F25_ok I11 (h2_.mono (le1.trans le2)) r2 hx7) (fun v2 w9 S3 O1 le3 I13 hv1 => ?_))
    obtain ⟨z4, m4, k4, rfl, rfl⟩ := hv1
    have I12 := bk1 [Row (α := Signal) 46 (Value.slice z4 m4 k4) (x7)] ⟨Row.free, trivial⟩ I13 le3
    refine wl_op rfl (op_assign (v := (Value.slice z4 m4 k4)) rfl rfl ?_)
    refine wl_nil ?_
    refine wp_seq' ?_
    refine wp_seq' ?_
    refine wp_region' ?_
    refine wl_op rfl (op_load (v := (Value.pointer (some ⟨g1, 0, none⟩))) (e := a0) rfl sh24 e6 (p1.at_ I12) (fun u2 hu1 => ?_))
    obtain ⟨c2, e8, r3⟩ := Panel.inv hu1
    subst e8
    obtain ⟨z5, m5, k5, e9⟩ := rv_form r3
    subst e9
    refine wl_op rfl (op_move (v := (Value.int .i64 (a1))) rfl e4 ?_)
    refine wl_op rfl (op_move (v := (Value.slice z4 m4 k4)) rfl rfl ?_)
    obtain ⟨x8, hx8, h⟩ := bnd h
    obtain ⟨S4, Fr2, le4, I14, r4, bk2⟩ := Inv.lend1 I12
    refine wl_op rfl (op_call (vs := [(Value.agg #[(Value.int .i64 (a0.Sensors)), (Value.slice z5 m5 k5), (Value.int .i64 (a0.Stale)), (Value.int .i64 (a0.Limit))]), (Value.int .i64 (a1)), (Value.slice z4 m4 k4)]) rfl ca22 rfl (args3 rfl rfl rfl) (F22_ok I14 (Panel.rv (s := a0) (r3.mono le4)) r4 hx8) (fun v3 w10 S5 O2 le5 I16 hv2 => ?_))
    obtain ⟨rfl, rfl⟩ := hv2
    have I15 := bk2 [] trivial I16 le5
    refine wl_op rfl (op_not (b := x8) rfl rfl ?_)
    refine wl_nil ?_
    rcases ifs h with ⟨hc5, h⟩ | ⟨hc5, h⟩
    · refine wp_cond_t (b := !x8) rfl hc5 ?_
      refine wp_seq' ?_
      refine wp_region' ?_
      obtain ⟨x9, hx9, h⟩ := bnd h
      refine wl_op rfl (op_call_v (vs := []) (r := (Value.bool (x9))) rfl ca16 rfl args0 I15 (fun Fr_ hF_ => F16_ok hF_  hx9) (fun w11 I17 => ?_))
      refine wl_op rfl (op_assign (v := (Value.bool (x9))) rfl rfl ?_)
      refine wl_nil ?_
      refine wp_ret' ?_
      obtain rfl := Option.some.inj h
      exact ⟨(Value.bool (x9)), (res1 rfl rfl), _, [], le1, ((I17).drop).drop, rfl, rfl⟩
    · refine wp_cond_f (b := !x8) rfl hc5 ?_
      refine wp_skip' ?_
      refine wp_seq' ?_
      refine wp_region' ?_
      refine wl_op rfl (op_load (v := (Value.pointer (some ⟨g1, 0, none⟩))) (e := a0) rfl sh24 e6 (p1.at_ I15) (fun u3 hu2 => ?_))
      obtain ⟨c3, e10, r5⟩ := Panel.inv hu2
      subst e10
      obtain ⟨z6, m6, k6, e11⟩ := rv_form r5
      subst e11
      refine wl_op rfl (op_move (v := (Value.int .i64 (a1))) rfl e4 ?_)
      refine wl_op rfl (op_move (v := (Value.slice z4 m4 k4)) rfl rfl ?_)
      obtain ⟨x10, hx10, h⟩ := bnd h
      obtain ⟨S6, Fr3, le6, I18, r6, bk3⟩ := Inv.lend1 I15
      refine wl_op rfl (op_call (vs := [(Value.agg #[(Value.int .i64 (a0.Sensors)), (Value.slice z6 m6 k6), (Value.int .i64 (a0.Stale)), (Value.int .i64 (a0.Limit))]), (Value.int .i64 (a1)), (Value.slice z4 m4 k4)]) rfl ca17 rfl (args3 rfl rfl rfl) (F17_ok I18 (Panel.rv (s := a0) (r5.mono le6)) r6 hx10) (fun v4 w12 S7 O3 le7 I20 hv3 => ?_))
      obtain ⟨z7, m7, k7, rfl, rfl⟩ := hv3
      have I19 := bk3 [Row (α := Int) 3 (Value.slice z7 m7 k7) (x10.1)] ⟨Row.free, trivial⟩ I20 le7
      refine wl_op rfl (op_move (v := (Value.tuple #[(Value.slice z7 m7 k7), (Value.int .i64 (x10.2))])) rfl rfl ?_)
      refine wl_op rfl (op_extract (v := (Value.slice z7 m7 k7)) rfl rfl rfl ?_)
      refine wl_op rfl (op_extract (v := (Value.int .i64 (x10.2))) rfl rfl rfl ?_)
      refine wl_op rfl (op_assign (v := (Value.slice z7 m7 k7)) rfl rfl ?_)
      refine wl_op rfl (op_assign (v := (Value.int .i64 (x10.2))) rfl rfl ?_)
      refine wl_nil ?_
      refine wp_seq' ?_
      refine wp_seq' ?_
      refine wp_region' ?_
      refine wl_op rfl (op_move (v := (Value.int .i64 (x10.2))) rfl rfl ?_)
      refine wl_op rfl (op_neq (a := x10.2) (b := 0) rfl rfl rfl ?_)
      refine wl_nil ?_
      rcases ifs h with ⟨hc6, h⟩ | ⟨hc6, h⟩
      · refine wp_cond_t (b := x10.2 != 0) rfl hc6 ?_
        refine wp_seq' ?_
        refine wp_region' ?_
        refine wl_op rfl (op_assign (v := (Value.bool (false))) rfl rfl ?_)
        refine wl_nil ?_
        refine wp_ret' ?_
        obtain rfl := Option.some.inj h
        exact ⟨(Value.bool (false)), (res1 rfl rfl), _, [], le1, (((I19).drop).drop).drop, rfl, rfl⟩
      · refine wp_cond_f (b := x10.2 != 0) rfl hc6 ?_
        refine wp_skip' ?_
        refine wp_seq' ?_
        refine wp_seq' ?_
        refine wp_region' ?_
        refine wl_op rfl (op_move (v := (Value.slice z7 m7 k7)) rfl rfl ?_)
        refine wl_op rfl (op_len_row (α := Int) rfl Try.underlying34 rfl (I19.nth 0 rfl) ?_)
        refine wl_op rfl (op_move (v := (Value.int .i64 (a1))) rfl e4 ?_)
        refine wl_op rfl (op_neq (a := (x10.1.length : Int)) (b := a1) rfl rfl rfl ?_)
        refine wl_nil ?_
        rcases ifs h with ⟨hc7, h⟩ | ⟨hc7, h⟩
        · refine wp_cond_t (b := (x10.1.length : Int) != a1) rfl hc7 ?_
          refine wp_seq' ?_
          refine wp_region' ?_
          refine wl_op rfl (op_assign (v := (Value.bool (false))) rfl rfl ?_)
          refine wl_nil ?_
          refine wp_ret' ?_
          obtain rfl := Option.some.inj h
          exact ⟨(Value.bool (false)), (res1 rfl rfl), _, [], le1, (((I19).drop).drop).drop, rfl, rfl⟩
        · refine wp_cond_f (b := (x10.1.length : Int) != a1) rfl hc7 ?_
          refine wp_skip' ?_
          refine wp_seq' ?_
          refine wp_seq' ?_
          refine wp_region' ?_
          refine wl_op rfl (op_assign (v := (Value.int .i64 (0))) rfl rfl ?_)
          refine wl_nil ?_
          obtain ⟨o14, hrun7, h⟩ := bnd h
          refine wp_cutN (fun f w => ∃ out7, o14 = Sum.inl out7 ∧ Inv w S1 (Row (α := Signal) 46 (Value.slice z4 m4 k4) (x7) :: Row (α := Int) 3 (Value.slice z7 m7 k7) (x10.1) :: Fr) ∧ f 1 = (Value.int .i64 (a1)) ∧ f 3 = (Value.pointer (some ⟨g1, 0, none⟩)) ∧ f 7 = (Value.slice z4 m4 k4) ∧ f 8 = (Value.slice z7 m7 k7) ∧ f 10 = (Value.int .i64 (out7))) ?_ ?_
          · refine wp_block' ?_
            refine wp_whileO (I := fun (s13 : (Int)) (f : Frm) (w : World) => Inv w S1 (Row (α := Signal) 46 (Value.slice z4 m4 k4) (x7) :: Row (α := Int) 3 (Value.slice z7 m7 k7) (x10.1) :: Fr) ∧ f 1 = (Value.int .i64 (a1)) ∧ f 3 = (Value.pointer (some ⟨g1, 0, none⟩)) ∧ f 7 = (Value.slice z4 m4 k4) ∧ f 8 = (Value.slice z7 m7 k7) ∧ f 10 = (Value.int .i64 (s13))) hrun7 ⟨((I19.pull 2).drop.pull 1), e4, e6, rfl, rfl, rfl⟩ ?_
            rintro s13 f w o13 hI13 h34 hout7
            obtain ⟨I297, e384, e385, e386, e387, e388⟩ := hI13
            obtain ⟨ov71, h37, h34⟩ := bnd h34
            refine wp_cut (fun f w => ∃ v71, ov71 = Sum.inl v71 ∧ Inv w S1 (Row (α := Signal) 46 (Value.slice z4 m4 k4) (x7) :: Row (α := Int) 3 (Value.slice z7 m7 k7) (x10.1) :: Fr) ∧ f 1 = (Value.int .i64 (a1)) ∧ f 3 = (Value.pointer (some ⟨g1, 0, none⟩)) ∧ f 7 = (Value.slice z4 m4 k4) ∧ f 8 = (Value.slice z7 m7 k7) ∧ f 10 = (Value.int .i64 (s13))) ?_ ?_
            · refine wp_seq' ?_
              refine wp_region' ?_
              refine wl_op rfl (op_move (v := (Value.int .i64 (s13))) rfl e388 ?_)
              refine wl_op rfl (op_move (v := (Value.int .i64 (a1))) rfl e384 ?_)
              refine wl_op rfl (op_lss (a := s13) (b := a1) rfl rfl rfl ?_)
              refine wl_op rfl (op_move (v := (Value.bool (decide (s13 < a1)))) rfl rfl ?_)
              rcases ifs h37 with ⟨hc178, h37⟩ | ⟨hc178, h37⟩
              · refine wl_taken (c := decide (s13 < a1)) rfl rfl rfl rfl hc178 (op_move (v := (Value.int .i64 (s13))) rfl e388 ?_)
                refine wl_taken (c := decide (s13 < a1)) rfl rfl rfl rfl hc178 (op_fieldAddr_t (v := (Value.pointer (some ⟨g1, 0, none⟩))) rfl fa24_3 e385 (p1.at_ I297) ?_)
                refine wl_taken (c := decide (s13 < a1)) rfl rfl rfl rfl hc178 (op_load_int (v := (fieldPtr (Value.pointer (some ⟨g1, 0, none⟩)) 3)) (e := a0.Limit) rfl sh3 rfl ((p1.at_ I297).fld Panel.fld3) ?_)
                refine wl_taken (c := decide (s13 < a1)) rfl rfl rfl rfl hc178 (op_lss (a := s13) (b := a0.Limit) rfl rfl rfl ?_)
                refine wl_op rfl (op_pick_t (c := decide (s13 < a1)) (a := (Value.bool (decide (s13 < a0.Limit)))) rfl rfl hc178 rfl ?_)
                refine wl_nil ?_
                rcases ifs h37 with ⟨hc179, h37⟩ | ⟨hc179, h37⟩
                · refine wp_cond_t (b := decide (s13 < a0.Limit)) rfl hc179 ?_
                  refine wp_skip' ?_
                  obtain rfl := Option.some.inj h37
                  exact ⟨_, rfl, ((I297.pull 1).pull 1), e384, e385, e386, e387, e388⟩
                · refine wp_cond_f (b := decide (s13 < a0.Limit)) rfl hc179 ?_
                  refine wp_exit' ?_
                  obtain rfl := Option.some.inj h37
                  have h38 := h34
                  obtain rfl := Option.some.inj h38
                  obtain rfl := (hout7 _ rfl)
                  exact ⟨_, rfl, ((I297.pull 1).pull 1), e384, e385, e386, e387, e388⟩
              · refine wl_skip (c := decide (s13 < a1)) rfl rfl rfl rfl hc178 rfl ?_
                refine wl_skip (c := decide (s13 < a1)) rfl rfl rfl rfl hc178 rfl ?_
                refine wl_skip (c := decide (s13 < a1)) rfl rfl rfl rfl hc178 rfl ?_
                refine wl_skip (c := decide (s13 < a1)) rfl rfl rfl rfl hc178 rfl ?_
                refine wl_op rfl (op_pick_f (c := decide (s13 < a1)) (b := (Value.bool (false))) rfl rfl hc178 rfl ?_)
                refine wl_nil ?_
                refine wp_cond_f (b := false) rfl rfl ?_
                refine wp_exit' ?_
                obtain rfl := Option.some.inj h37
                have h38 := h34
                obtain rfl := Option.some.inj h38
                obtain rfl := (hout7 _ rfl)
                exact ⟨_, rfl, ((I297.pull 1).pull 1), e384, e385, e386, e387, e388⟩
            · rintro f w ⟨v71, rfl, I298, e389, e390, e391, e392, e393⟩
              have h34 := onL_inl h34
              refine wp_seq' ?_
              refine wp_block' ?_
              refine wp_seq' ?_
              refine wp_region' ?_
              refine wl_op rfl (op_load (v := (Value.pointer (some ⟨g1, 0, none⟩))) (e := a0) rfl sh24 e390 (p1.at_ I298) (fun u106 hu105 => ?_))
              obtain ⟨c10, e394, r73⟩ := Panel.inv hu105
              subst e394
              obtain ⟨z116, m116, k116, e395⟩ := rv_form r73
              subst e395
              refine wl_op rfl (op_move (v := (Value.int .i64 (s13))) rfl e393 ?_)
              refine wl_op rfl (op_move (v := (Value.slice z4 m4 k4)) rfl e391 ?_)
              obtain ⟨x197, hx197, h34⟩ := bnd h34
              obtain ⟨S128, Fr64, le128, I299, r74, bk64⟩ := Inv.lend1 I298
              refine wl_op rfl (op_call (vs := [(Value.agg #[(Value.int .i64 (a0.Sensors)), (Value.slice z116 m116 k116), (Value.int .i64 (a0.Stale)), (Value.int .i64 (a0.Limit))]), (Value.int .i64 (s13)), (Value.slice z4 m4 k4)]) rfl ca24 rfl (args3 rfl rfl rfl) (F24_ok I299 (Panel.rv (s := a0) (r73.mono le128)) r74 hx197) (fun v72 w128 S129 O64 le129 I301 hv64 => ?_))
              obtain ⟨z117, m117, k117, rfl, rfl⟩ := hv64
              have I300 := bk64 [Row (α := Int) 3 (Value.slice z117 m117 k117) (x197)] ⟨Row.free, trivial⟩ I301 le129
              refine wl_op rfl (op_assign (v := (Value.slice z117 m117 k117)) rfl rfl ?_)
              refine wl_nil ?_
              refine wp_seq' ?_
              refine wp_region' ?_
              refine wl_op rfl (op_assign (v := (Value.int .i64 (0))) rfl rfl ?_)
              refine wl_nil ?_
              have hk7 : a0.Doors.length ≤ 9223372036854775807 := (rv_len r73)
              obtain ⟨o16, hrun8, h34⟩ := bnd h34
              refine wp_cutN (fun f w => ∃ out8, o16 = Sum.inl out8 ∧ Inv w S1 (Row (α := Signal) 46 (Value.slice z4 m4 k4) (x7) :: Row (α := Int) 3 (Value.slice z7 m7 k7) (x10.1) :: Row (α := Int) 3 (Value.slice z117 m117 k117) (x197) :: Fr) ∧ f 1 = (Value.int .i64 (a1)) ∧ f 3 = (Value.pointer (some ⟨g1, 0, none⟩)) ∧ f 7 = (Value.slice z4 m4 k4) ∧ f 8 = (Value.slice z7 m7 k7) ∧ f 10 = (Value.int .i64 (s13)) ∧ f 11 = (Value.slice z117 m117 k117)) ?_ ?_
              · refine wp_block' ?_
                refine wp_forN (I := fun (i7 : Nat) (s14 : Unit) (f : Frm) (w : World) => Inv w S1 (Row (α := Signal) 46 (Value.slice z4 m4 k4) (x7) :: Row (α := Int) 3 (Value.slice z7 m7 k7) (x10.1) :: Row (α := Int) 3 (Value.slice z117 m117 k117) (x197) :: Fr) ∧ f 1 = (Value.int .i64 (a1)) ∧ f 3 = (Value.pointer (some ⟨g1, 0, none⟩)) ∧ f 7 = (Value.slice z4 m4 k4) ∧ f 8 = (Value.slice z7 m7 k7) ∧ f 10 = (Value.int .i64 (s13)) ∧ f 11 = (Value.slice z117 m117 k117) ∧ f 12 = (Value.int .i64 (i7 : Int))) hrun8 ⟨((I300.pull 2).pull 2), e389, e390, e391, e392, e393, rfl, rfl⟩ ?_ ?_
                · rintro i7 s14 f w o15 hlt7 hI14 h39 hout8
                  obtain ⟨I328, e420, e421, e422, e423, e424, e425, e426⟩ := hI14
                  refine wp_seq' ?_
                  refine wp_seq' ?_
                  refine wp_region' ?_
                  refine wl_op rfl (op_move (v := (Value.int .i64 ((i7 : Int)))) rfl e426 ?_)
                  refine wl_op rfl (op_fieldAddr_t (v := (Value.pointer (some ⟨g1, 0, none⟩))) rfl fa24_1 e421 (p1.at_ I328) ?_)
                  refine wl_op rfl (op_load (v := (fieldPtr (Value.pointer (some ⟨g1, 0, none⟩)) 1)) (e := a0.Doors) rfl sh22 rfl ((p1.at_ I328).fld Panel.fld1) (fun u118 hu117 => ?_))
                  obtain ⟨z129, m129, k129, e428⟩ := rv_form hu117
                  subst e428
                  refine wl_op rfl (op_len_rv rfl Try.underlying22 rfl hu117 ?_)
                  refine wl_op rfl (op_lss (a := (i7 : Int)) (b := (a0.Doors.length : Int)) rfl rfl rfl ?_)
                  refine wl_nil ?_
                  refine wp_cond_t (b := decide ((i7 : Int) < (a0.Doors.length : Int))) rfl (len_t hlt7) ?_
                  refine wp_skip' ?_
                  refine wp_seq' ?_
                  refine wp_block' ?_
                  refine wp_seq' ?_
                  refine wp_region' ?_
                  refine wl_op rfl (op_fieldAddr_t (v := (Value.pointer (some ⟨g1, 0, none⟩))) rfl fa24_1 e421 (p1.at_ I328) ?_)
                  refine wl_op rfl (op_load (v := (fieldPtr (Value.pointer (some ⟨g1, 0, none⟩)) 1)) (e := a0.Doors) rfl sh22 rfl ((p1.at_ I328).fld Panel.fld1) (fun u119 hu118 => ?_))
                  obtain ⟨z130, m130, k130, e429⟩ := rv_form hu118
                  subst e429
                  refine wl_op rfl (op_move (v := (Value.int .i64 ((i7 : Int)))) rfl e426 ?_)
                  obtain ⟨x218, hx218, h39⟩ := bnd h39
                  refine wl_op rfl (op_indexAddr_rv (v := (Value.slice z130 m130 k130)) (i := (i7 : Int)) (e := x218) rfl Try.underlying22 sh33 rfl hu118 rfl hx218 ?_)
                  refine wl_op rfl (op_fieldAddr_t (v := (elemPtr (Value.slice z130 m130 k130) ((i7 : Int)) (Enc.sz Gate))) rfl fa33_1 rfl (hu118.elem I328.in_ hx218) ?_)
                  refine wl_op rfl (op_load (v := (fieldPtr (elemPtr (Value.slice z130 m130 k130) ((i7 : Int)) (Enc.sz Gate)) 1)) (e := x218.When) rfl sh31 rfl ((hu118.elem I328.in_ hx218).fld Gate.fld1) (fun u120 hu119 => ?_))
                  obtain ⟨z131, m131, k131, e430⟩ := rv_form hu119
                  subst e430
                  refine wl_op rfl (op_move (v := (Value.slice z117 m117 k117)) rfl e425 ?_)
                  obtain ⟨x219, hx219, h39⟩ := bnd h39
                  obtain ⟨S142, Fr71, le142, I329, r81, bk71⟩ := Inv.lend1 (I328.pull 2)
                  refine wl_op rfl (op_call (vs := [(Value.slice z131 m131 k131), (Value.slice z117 m117 k117)]) rfl ca23 rfl (args2 rfl rfl) (F23_ok I329 (hu119.mono le142) r81 hx219) (fun v79 w141 S143 O71 le143 I331 hv71 => ?_))
                  obtain ⟨rfl, rfl⟩ := hv71
                  have I330 := bk71 [] trivial I331 le143
                  refine wl_op rfl (op_assign (v := (Value.bool (x219))) rfl rfl ?_)
                  refine wl_nil ?_
                  refine wp_seq' ?_
                  refine wp_region' ?_
                  refine wl_op rfl (op_move (v := (Value.bool (x219))) rfl rfl ?_)
                  refine wl_op rfl (op_move (v := (Value.bool (x219))) rfl rfl ?_)
                  rcases ifs h39 with ⟨hc196, h39⟩ | ⟨hc196, h39⟩
                  · refine wl_taken (c := x219) rfl rfl rfl rfl hc196 (op_move (v := (Value.slice z7 m7 k7)) rfl e423 ?_)
                    refine wl_taken (c := x219) rfl rfl rfl rfl hc196 (op_move (v := (Value.int .i64 (s13))) rfl e424 ?_)
                    obtain ⟨x220, hx220, h39⟩ := bnd h39
                    refine wl_taken (c := x219) rfl rfl rfl rfl hc196 (op_indexAddr_src (v := (Value.slice z7 m7 k7)) (i := s13) (e := x220) rfl Try.underlying34 sh3 rfl (Inv.rowSrc (I330.nth 2 rfl)) rfl hx220 ?_)
                    refine wl_taken (c := x219) rfl rfl rfl rfl hc196 (op_load_int (v := (elemPtr (Value.slice z7 m7 k7) (s13) (Enc.sz Int))) (e := x220) rfl sh3 rfl ((I330.nth 2 rfl).rowElem hx220) ?_)
                    refine wl_taken (c := x219) rfl rfl rfl rfl hc196 (op_move (v := (Value.int .i64 ((i7 : Int)))) rfl e426 ?_)
                    obtain ⟨x221, hx221, h39⟩ := bnd h39
                    refine wl_taken (c := x219) rfl rfl rfl rfl hc196 (op_call_v (vs := [(Value.int .i64 (x220)), (Value.int .i64 ((i7 : Int)))]) (r := (Value.bool (x221))) rfl ca19 rfl (args2 rfl rfl) I330 (fun Fr_ hF_ => F19_ok hF_  hx221) (fun w142 I332 => ?_))
                    refine wl_op rfl (op_pick_t (c := x219) (a := (Value.bool (x221))) rfl rfl hc196 rfl ?_)
                    refine wl_op rfl (op_move (v := (Value.bool (x221))) rfl rfl ?_)
                    rcases ifs h39 with ⟨hc197, h39⟩ | ⟨hc197, h39⟩
                    · refine wl_skip (c := x221) rfl rfl rfl rfl hc197 rfl ?_
                      refine wl_skip (c := x221) rfl rfl rfl rfl hc197 rfl ?_
                      refine wl_skip (c := x221) rfl rfl rfl rfl hc197 rfl ?_
                      refine wl_skip_u rfl rfl rfl rfl rfl ?_
                      refine wl_skip_u rfl rfl rfl rfl rfl ?_
                      refine wl_skip_u rfl rfl rfl rfl rfl ?_
                      refine wl_skip_u rfl rfl rfl rfl rfl ?_
                      refine wl_skip_u rfl rfl rfl rfl rfl ?_
                      refine wl_skip (c := x221) rfl rfl rfl rfl hc197 rfl ?_
                      refine wl_skip (c := x221) rfl rfl rfl rfl hc197 rfl ?_
                      refine wl_skip_u rfl rfl rfl rfl rfl ?_
                      refine wl_skip_u rfl rfl rfl rfl rfl ?_
                      refine wl_skip_u rfl rfl rfl rfl rfl ?_
                      refine wl_skip_u rfl rfl rfl rfl rfl ?_
                      refine wl_skip_u rfl rfl rfl rfl rfl ?_
                      refine wl_skip_u rfl rfl rfl rfl rfl ?_
                      refine wl_skip_u rfl rfl rfl rfl rfl ?_
                      refine wl_skip (c := x221) rfl rfl rfl rfl hc197 rfl ?_
                      refine wl_op rfl (op_pick_t (c := x221) (a := (Value.bool (true))) rfl rfl hc197 rfl ?_)
                      refine wl_nil ?_
                      refine wp_cond_t (b := true) rfl rfl ?_
                      refine wp_seq' ?_
                      refine wp_region' ?_
                      refine wl_op rfl (op_assign (v := (Value.bool (false))) rfl rfl ?_)
                      refine wl_nil ?_
                      refine wp_ret' ?_
                      obtain rfl := Option.some.inj h39
                      obtain rfl := (hout8 _ rfl)
                      have h40 := h34
                      obtain rfl := Option.some.inj h40
                      obtain rfl := (hout7 _ rfl)
                      have h35 := h
                      obtain rfl := Option.some.inj h35
                      exact ⟨(Value.bool (false)), (res1 rfl rfl), _, [], le1, (((I332).drop).drop).drop, rfl, rfl⟩
                    · refine wl_taken (c := x221) rfl rfl rfl rfl hc197 (op_move (v := (Value.bool (x219))) rfl rfl ?_)
                      refine wl_taken (c := x221) rfl rfl rfl rfl hc197 (op_not (b := x219) rfl rfl ?_)
                      refine wl_taken (c := x221) rfl rfl rfl rfl hc197 (op_move (v := (Value.bool (!x219))) rfl rfl ?_)
                      rcases ifs h39 with ⟨hc198, h39⟩ | ⟨hc198, h39⟩
                      · refine wl_taken (c := !x219) rfl rfl rfl rfl hc198 (op_move (v := (Value.slice z4 m4 k4)) rfl e422 ?_)
                        refine wl_taken (c := !x219) rfl rfl rfl rfl hc198 (op_move (v := (Value.int .i64 (s13))) rfl e424 ?_)
                        refine wl_taken (c := !x219) rfl rfl rfl rfl hc198 (op_move (v := (Value.int .i64 ((i7 : Int)))) rfl e426 ?_)
                        obtain ⟨x222, hx222, h39⟩ := bnd h39
                        obtain ⟨S144, Fr72, le144, I333, r82, bk72⟩ := Inv.lend1 (I332.pull 1)
                        refine wl_taken (c := !x219) rfl rfl rfl rfl hc198 (op_call (vs := [(Value.slice z4 m4 k4), (Value.int .i64 (s13)), (Value.int .i64 ((i7 : Int)))]) rfl ca26 rfl (args3 rfl rfl rfl) (F26_ok I333 r82 hx222) (fun v80 w143 S145 O72 le145 I335 hv72 => ?_))
                        obtain ⟨rfl, rfl⟩ := hv72
                        have I334 := bk72 [] trivial I335 le145
                        refine wl_taken (c := !x219) rfl rfl rfl rfl hc198 (op_not (b := x222) rfl rfl ?_)
                        refine wl_taken (c := x221) rfl rfl rfl rfl hc197 (op_pick_t (c := !x219) (a := (Value.bool (!x222))) rfl rfl hc198 rfl ?_)
                        refine wl_taken (c := x221) rfl rfl rfl rfl hc197 (op_move (v := (Value.bool (!x222))) rfl rfl ?_)
                        rcases ifs h39 with ⟨hc199, h39⟩ | ⟨hc199, h39⟩
                        · refine wl_taken (c := !x222) rfl rfl rfl rfl hc199 (op_move (v := (Value.slice z7 m7 k7)) rfl e423 ?_)
                          refine wl_taken (c := !x222) rfl rfl rfl rfl hc199 (op_move (v := (Value.int .i64 (s13))) rfl e424 ?_)
                          obtain ⟨x223, hx223, h39⟩ := bnd h39
                          refine wl_taken (c := !x222) rfl rfl rfl rfl hc199 (op_indexAddr_src (v := (Value.slice z7 m7 k7)) (i := s13) (e := x223) rfl Try.underlying34 sh3 rfl (Inv.rowSrc (I334.nth 2 rfl)) rfl hx223 ?_)
                          refine wl_taken (c := !x222) rfl rfl rfl rfl hc199 (op_load_int (v := (elemPtr (Value.slice z7 m7 k7) (s13) (Enc.sz Int))) (e := x223) rfl sh3 rfl ((I334.nth 2 rfl).rowElem hx223) ?_)
                          refine wl_taken (c := !x222) rfl rfl rfl rfl hc199 (op_move (v := (Value.int .i64 ((i7 : Int)))) rfl e426 ?_)
                          obtain ⟨x224, hx224, h39⟩ := bnd h39
                          refine wl_taken (c := !x222) rfl rfl rfl rfl hc199 (op_call_v (vs := [(Value.int .i64 (x223)), (Value.int .i64 ((i7 : Int)))]) (r := (Value.bool (x224))) rfl ca19 rfl (args2 rfl rfl) I334 (fun Fr_ hF_ => F19_ok hF_  hx224) (fun w144 I336 => ?_))
                          refine wl_taken (c := !x222) rfl rfl rfl rfl hc199 (op_not (b := x224) rfl rfl ?_)
                          refine wl_taken (c := x221) rfl rfl rfl rfl hc197 (op_pick_t (c := !x222) (a := (Value.bool (!x224))) rfl rfl hc199 rfl ?_)
                          refine wl_op rfl (op_pick_f (c := x221) (b := (Value.bool (!x224))) rfl rfl hc197 rfl ?_)
                          refine wl_nil ?_
                          rcases ifs h39 with ⟨hc200, h39⟩ | ⟨hc200, h39⟩
                          · refine wp_cond_t (b := !x224) rfl hc200 ?_
                            refine wp_seq' ?_
                            refine wp_region' ?_
                            refine wl_op rfl (op_assign (v := (Value.bool (false))) rfl rfl ?_)
                            refine wl_nil ?_
                            refine wp_ret' ?_
                            obtain rfl := Option.some.inj h39
                            obtain rfl := (hout8 _ rfl)
                            have h40 := h34
                            obtain rfl := Option.some.inj h40
                            obtain rfl := (hout7 _ rfl)
                            have h35 := h
                            obtain rfl := Option.some.inj h35
                            exact ⟨(Value.bool (false)), (res1 rfl rfl), _, [], le1, (((I336).drop).drop).drop, rfl, rfl⟩
                          · refine wp_cond_f (b := !x224) rfl hc200 ?_
                            refine wp_skip' ?_
                            refine wp_region' ?_
                            refine wl_op rfl (op_move (v := (Value.int .i64 ((i7 : Int)))) rfl e426 ?_)
                            refine wl_op rfl (op_add (a := (i7 : Int)) (b := 1) rfl rfl rfl ?_)
                            refine wl_op rfl (op_assign (v := (Value.int .i64 (w64 ((i7 : Int) + 1)))) rfl rfl ?_)
                            refine wl_nil ?_
                            obtain rfl := Option.some.inj h39
                            exact ⟨_, rfl, (((I336.pull 1).pull 2).pull 2), e420, e421, e422, e423, e424, e425, (idx_next hlt7 hk7)⟩
                        · refine wl_skip (c := !x222) rfl rfl rfl rfl hc199 rfl ?_
                          refine wl_skip (c := !x222) rfl rfl rfl rfl hc199 rfl ?_
                          refine wl_skip (c := !x222) rfl rfl rfl rfl hc199 rfl ?_
                          refine wl_skip (c := !x222) rfl rfl rfl rfl hc199 rfl ?_
                          refine wl_skip (c := !x222) rfl rfl rfl rfl hc199 rfl ?_
                          refine wl_skip (c := !x222) rfl rfl rfl rfl hc199 rfl ?_
                          refine wl_skip (c := !x222) rfl rfl rfl rfl hc199 rfl ?_
                          refine wl_taken (c := x221) rfl rfl rfl rfl hc197 (op_pick_f (c := !x222) (b := (Value.bool (false))) rfl rfl hc199 rfl ?_)
                          refine wl_op rfl (op_pick_f (c := x221) (b := (Value.bool (false))) rfl rfl hc197 rfl ?_)
                          refine wl_nil ?_
                          refine wp_cond_f (b := false) rfl rfl ?_
                          refine wp_skip' ?_
                          refine wp_region' ?_
                          refine wl_op rfl (op_move (v := (Value.int .i64 ((i7 : Int)))) rfl e426 ?_)
                          refine wl_op rfl (op_add (a := (i7 : Int)) (b := 1) rfl rfl rfl ?_)
                          refine wl_op rfl (op_assign (v := (Value.int .i64 (w64 ((i7 : Int) + 1)))) rfl rfl ?_)
                          refine wl_nil ?_
                          obtain rfl := Option.some.inj h39
                          exact ⟨_, rfl, (((I334.pull 1).pull 2).pull 2), e420, e421, e422, e423, e424, e425, (idx_next hlt7 hk7)⟩
                      · refine wl_skip (c := !x219) rfl rfl rfl rfl hc198 rfl ?_
                        refine wl_skip (c := !x219) rfl rfl rfl rfl hc198 rfl ?_
                        refine wl_skip (c := !x219) rfl rfl rfl rfl hc198 rfl ?_
                        refine wl_skip (c := !x219) rfl rfl rfl rfl hc198 rfl ?_
                        refine wl_skip (c := !x219) rfl rfl rfl rfl hc198 rfl ?_
                        refine wl_taken (c := x221) rfl rfl rfl rfl hc197 (op_pick_f (c := !x219) (b := (Value.bool (false))) rfl rfl hc198 rfl ?_)
                        refine wl_taken (c := x221) rfl rfl rfl rfl hc197 (op_move (v := (Value.bool (false))) rfl rfl ?_)
                        refine wl_skip (c := false) rfl rfl rfl rfl rfl rfl ?_
                        refine wl_skip (c := false) rfl rfl rfl rfl rfl rfl ?_
                        refine wl_skip (c := false) rfl rfl rfl rfl rfl rfl ?_
                        refine wl_skip (c := false) rfl rfl rfl rfl rfl rfl ?_
                        refine wl_skip (c := false) rfl rfl rfl rfl rfl rfl ?_
                        refine wl_skip (c := false) rfl rfl rfl rfl rfl rfl ?_
                        refine wl_skip (c := false) rfl rfl rfl rfl rfl rfl ?_
                        refine wl_taken (c := x221) rfl rfl rfl rfl hc197 (op_pick_f (c := false) (b := (Value.bool (false))) rfl rfl rfl rfl ?_)
                        refine wl_op rfl (op_pick_f (c := x221) (b := (Value.bool (false))) rfl rfl hc197 rfl ?_)
                        refine wl_nil ?_
                        refine wp_cond_f (b := false) rfl rfl ?_
                        refine wp_skip' ?_
                        refine wp_region' ?_
                        refine wl_op rfl (op_move (v := (Value.int .i64 ((i7 : Int)))) rfl e426 ?_)
                        refine wl_op rfl (op_add (a := (i7 : Int)) (b := 1) rfl rfl rfl ?_)
                        refine wl_op rfl (op_assign (v := (Value.int .i64 (w64 ((i7 : Int) + 1)))) rfl rfl ?_)
                        refine wl_nil ?_
                        obtain rfl := Option.some.inj h39
                        exact ⟨_, rfl, ((I332.pull 2).pull 2), e420, e421, e422, e423, e424, e425, (idx_next hlt7 hk7)⟩
                  · refine wl_skip (c := x219) rfl rfl rfl rfl hc196 rfl ?_
                    refine wl_skip (c := x219) rfl rfl rfl rfl hc196 rfl ?_
                    refine wl_skip (c := x219) rfl rfl rfl rfl hc196 rfl ?_
                    refine wl_skip (c := x219) rfl rfl rfl rfl hc196 rfl ?_
                    refine wl_skip (c := x219) rfl rfl rfl rfl hc196 rfl ?_
                    refine wl_skip (c := x219) rfl rfl rfl rfl hc196 rfl ?_
                    refine wl_op rfl (op_pick_f (c := x219) (b := (Value.bool (false))) rfl rfl hc196 rfl ?_)
                    refine wl_op rfl (op_move (v := (Value.bool (false))) rfl rfl ?_)
                    refine wl_taken (c := false) rfl rfl rfl rfl rfl (op_move (v := (Value.bool (x219))) rfl rfl ?_)
                    refine wl_taken (c := false) rfl rfl rfl rfl rfl (op_not (b := x219) rfl rfl ?_)
                    refine wl_taken (c := false) rfl rfl rfl rfl rfl (op_move (v := (Value.bool (!x219))) rfl rfl ?_)
                    rcases ifs h39 with ⟨hc201, h39⟩ | ⟨hc201, h39⟩
                    · refine wl_taken (c := !x219) rfl rfl rfl rfl hc201 (op_move (v := (Value.slice z4 m4 k4)) rfl e422 ?_)
                      refine wl_taken (c := !x219) rfl rfl rfl rfl hc201 (op_move (v := (Value.int .i64 (s13))) rfl e424 ?_)
                      refine wl_taken (c := !x219) rfl rfl rfl rfl hc201 (op_move (v := (Value.int .i64 ((i7 : Int)))) rfl e426 ?_)
                      obtain ⟨x225, hx225, h39⟩ := bnd h39
                      obtain ⟨S146, Fr73, le146, I337, r83, bk73⟩ := Inv.lend1 (I330.pull 1)
                      refine wl_taken (c := !x219) rfl rfl rfl rfl hc201 (op_call (vs := [(Value.slice z4 m4 k4), (Value.int .i64 (s13)), (Value.int .i64 ((i7 : Int)))]) rfl ca26 rfl (args3 rfl rfl rfl) (F26_ok I337 r83 hx225) (fun v81 w145 S147 O73 le147 I339 hv73 => ?_))
                      obtain ⟨rfl, rfl⟩ := hv73
                      have I338 := bk73 [] trivial I339 le147
                      refine wl_taken (c := !x219) rfl rfl rfl rfl hc201 (op_not (b := x225) rfl rfl ?_)
                      refine wl_taken (c := false) rfl rfl rfl rfl rfl (op_pick_t (c := !x219) (a := (Value.bool (!x225))) rfl rfl hc201 rfl ?_)
                      refine wl_taken (c := false) rfl rfl rfl rfl rfl (op_move (v := (Value.bool (!x225))) rfl rfl ?_)
                      rcases ifs h39 with ⟨hc202, h39⟩ | ⟨hc202, h39⟩
                      · refine wl_taken (c := !x225) rfl rfl rfl rfl hc202 (op_move (v := (Value.slice z7 m7 k7)) rfl e423 ?_)
                        refine wl_taken (c := !x225) rfl rfl rfl rfl hc202 (op_move (v := (Value.int .i64 (s13))) rfl e424 ?_)
                        obtain ⟨x226, hx226, h39⟩ := bnd h39
                        refine wl_taken (c := !x225) rfl rfl rfl rfl hc202 (op_indexAddr_src (v := (Value.slice z7 m7 k7)) (i := s13) (e := x226) rfl Try.underlying34 sh3 rfl (Inv.rowSrc (I338.nth 2 rfl)) rfl hx226 ?_)
                        refine wl_taken (c := !x225) rfl rfl rfl rfl hc202 (op_load_int (v := (elemPtr (Value.slice z7 m7 k7) (s13) (Enc.sz Int))) (e := x226) rfl sh3 rfl ((I338.nth 2 rfl).rowElem hx226) ?_)
                        refine wl_taken (c := !x225) rfl rfl rfl rfl hc202 (op_move (v := (Value.int .i64 ((i7 : Int)))) rfl e426 ?_)
                        obtain ⟨x227, hx227, h39⟩ := bnd h39
                        refine wl_taken (c := !x225) rfl rfl rfl rfl hc202 (op_call_v (vs := [(Value.int .i64 (x226)), (Value.int .i64 ((i7 : Int)))]) (r := (Value.bool (x227))) rfl ca19 rfl (args2 rfl rfl) I338 (fun Fr_ hF_ => F19_ok hF_  hx227) (fun w146 I340 => ?_))
                        refine wl_taken (c := !x225) rfl rfl rfl rfl hc202 (op_not (b := x227) rfl rfl ?_)
                        refine wl_taken (c := false) rfl rfl rfl rfl rfl (op_pick_t (c := !x225) (a := (Value.bool (!x227))) rfl rfl hc202 rfl ?_)
                        refine wl_op rfl (op_pick_f (c := false) (b := (Value.bool (!x227))) rfl rfl rfl rfl ?_)
                        refine wl_nil ?_
                        rcases ifs h39 with ⟨hc203, h39⟩ | ⟨hc203, h39⟩
                        · refine wp_cond_t (b := !x227) rfl hc203 ?_
                          refine wp_seq' ?_
                          refine wp_region' ?_
                          refine wl_op rfl (op_assign (v := (Value.bool (false))) rfl rfl ?_)
                          refine wl_nil ?_
                          refine wp_ret' ?_
                          obtain rfl := Option.some.inj h39
                          obtain rfl := (hout8 _ rfl)
                          have h40 := h34
                          obtain rfl := Option.some.inj h40
                          obtain rfl := (hout7 _ rfl)
                          have h35 := h
                          obtain rfl := Option.some.inj h35
                          exact ⟨(Value.bool (false)), (res1 rfl rfl), _, [], le1, (((I340).drop).drop).drop, rfl, rfl⟩
                        · refine wp_cond_f (b := !x227) rfl hc203 ?_
                          refine wp_skip' ?_
                          refine wp_region' ?_
                          refine wl_op rfl (op_move (v := (Value.int .i64 ((i7 : Int)))) rfl e426 ?_)
                          refine wl_op rfl (op_add (a := (i7 : Int)) (b := 1) rfl rfl rfl ?_)
                          refine wl_op rfl (op_assign (v := (Value.int .i64 (w64 ((i7 : Int) + 1)))) rfl rfl ?_)
                          refine wl_nil ?_
                          obtain rfl := Option.some.inj h39
                          exact ⟨_, rfl, (((I340.pull 1).pull 2).pull 2), e420, e421, e422, e423, e424, e425, (idx_next hlt7 hk7)⟩
                      · refine wl_skip (c := !x225) rfl rfl rfl rfl hc202 rfl ?_
                        refine wl_skip (c := !x225) rfl rfl rfl rfl hc202 rfl ?_
                        refine wl_skip (c := !x225) rfl rfl rfl rfl hc202 rfl ?_
                        refine wl_skip (c := !x225) rfl rfl rfl rfl hc202 rfl ?_
                        refine wl_skip (c := !x225) rfl rfl rfl rfl hc202 rfl ?_
                        refine wl_skip (c := !x225) rfl rfl rfl rfl hc202 rfl ?_
                        refine wl_skip (c := !x225) rfl rfl rfl rfl hc202 rfl ?_
                        refine wl_taken (c := false) rfl rfl rfl rfl rfl (op_pick_f (c := !x225) (b := (Value.bool (false))) rfl rfl hc202 rfl ?_)
                        refine wl_op rfl (op_pick_f (c := false) (b := (Value.bool (false))) rfl rfl rfl rfl ?_)
                        refine wl_nil ?_
                        refine wp_cond_f (b := false) rfl rfl ?_
                        refine wp_skip' ?_
                        refine wp_region' ?_
                        refine wl_op rfl (op_move (v := (Value.int .i64 ((i7 : Int)))) rfl e426 ?_)
                        refine wl_op rfl (op_add (a := (i7 : Int)) (b := 1) rfl rfl rfl ?_)
                        refine wl_op rfl (op_assign (v := (Value.int .i64 (w64 ((i7 : Int) + 1)))) rfl rfl ?_)
                        refine wl_nil ?_
                        obtain rfl := Option.some.inj h39
                        exact ⟨_, rfl, (((I338.pull 1).pull 2).pull 2), e420, e421, e422, e423, e424, e425, (idx_next hlt7 hk7)⟩
                    · refine wl_skip (c := !x219) rfl rfl rfl rfl hc201 rfl ?_
                      refine wl_skip (c := !x219) rfl rfl rfl rfl hc201 rfl ?_
                      refine wl_skip (c := !x219) rfl rfl rfl rfl hc201 rfl ?_
                      refine wl_skip (c := !x219) rfl rfl rfl rfl hc201 rfl ?_
                      refine wl_skip (c := !x219) rfl rfl rfl rfl hc201 rfl ?_
                      refine wl_taken (c := false) rfl rfl rfl rfl rfl (op_pick_f (c := !x219) (b := (Value.bool (false))) rfl rfl hc201 rfl ?_)
                      refine wl_taken (c := false) rfl rfl rfl rfl rfl (op_move (v := (Value.bool (false))) rfl rfl ?_)
                      refine wl_skip (c := false) rfl rfl rfl rfl rfl rfl ?_
                      refine wl_skip (c := false) rfl rfl rfl rfl rfl rfl ?_
                      refine wl_skip (c := false) rfl rfl rfl rfl rfl rfl ?_
                      refine wl_skip (c := false) rfl rfl rfl rfl rfl rfl ?_
                      refine wl_skip (c := false) rfl rfl rfl rfl rfl rfl ?_
                      refine wl_skip (c := false) rfl rfl rfl rfl rfl rfl ?_
                      refine wl_skip (c := false) rfl rfl rfl rfl rfl rfl ?_
                      refine wl_taken (c := false) rfl rfl rfl rfl rfl (op_pick_f (c := false) (b := (Value.bool (false))) rfl rfl rfl rfl ?_)
                      refine wl_op rfl (op_pick_f (c := false) (b := (Value.bool (false))) rfl rfl rfl rfl ?_)
                      refine wl_nil ?_
                      refine wp_cond_f (b := false) rfl rfl ?_
                      refine wp_skip' ?_
                      refine wp_region' ?_
                      refine wl_op rfl (op_move (v := (Value.int .i64 ((i7 : Int)))) rfl e426 ?_)
                      refine wl_op rfl (op_add (a := (i7 : Int)) (b := 1) rfl rfl rfl ?_)
                      refine wl_op rfl (op_assign (v := (Value.int .i64 (w64 ((i7 : Int) + 1)))) rfl rfl ?_)
                      refine wl_nil ?_
                      obtain rfl := Option.some.inj h39
                      exact ⟨_, rfl, ((I330.pull 2).pull 2), e420, e421, e422, e423, e424, e425, (idx_next hlt7 hk7)⟩
                · rintro s15 f w hs7 hI15
                  obtain ⟨I341, e431, e432, e433, e434, e435, e436, e437⟩ := hI15
                  refine wp_seq' ?_
                  refine wp_seq' ?_
                  refine wp_region' ?_
                  refine wl_op rfl (op_move (v := (Value.int .i64 ((a0.Doors.length : Int)))) rfl e437 ?_)
                  refine wl_op rfl (op_fieldAddr_t (v := (Value.pointer (some ⟨g1, 0, none⟩))) rfl fa24_1 e432 (p1.at_ I341) ?_)
                  refine wl_op rfl (op_load (v := (fieldPtr (Value.pointer (some ⟨g1, 0, none⟩)) 1)) (e := a0.Doors) rfl sh22 rfl ((p1.at_ I341).fld Panel.fld1) (fun u122 hu121 => ?_))
                  obtain ⟨z133, m133, k133, e439⟩ := rv_form hu121
                  subst e439
                  refine wl_op rfl (op_len_rv rfl Try.underlying22 rfl hu121 ?_)
                  refine wl_op rfl (op_lss (a := (a0.Doors.length : Int)) (b := (a0.Doors.length : Int)) rfl rfl rfl ?_)
                  refine wl_nil ?_
                  refine wp_cond_f (b := decide ((a0.Doors.length : Int) < (a0.Doors.length : Int))) rfl (len_f _) ?_
                  refine wp_exit' ?_
                  exact ⟨s15, hs7, (((I341.pull 2).pull 2).pull 2), e431, e432, e433, e434, e435, e436⟩
              · rintro f w ⟨out8, rfl, I342, e440, e441, e442, e443, e444, e445⟩
                have h34 := onL_inl h34
                refine wp_region' ?_
                refine wl_op rfl (op_move (v := (Value.int .i64 (s13))) rfl e444 ?_)
                refine wl_op rfl (op_add (a := s13) (b := 1) rfl rfl rfl ?_)
                refine wl_op rfl (op_assign (v := (Value.int .i64 (w64 (s13 + 1)))) rfl rfl ?_)
                refine wl_nil ?_
                obtain rfl := Option.some.inj h34
                exact ⟨_, rfl, (((I342.pull 2).drop.pull 1).pull 1), e440, e441, e442, e443, rfl⟩
          · rintro f w ⟨out7, rfl, I343, e446, e447, e448, e449, e450⟩
            have h := onL_inl h
            refine wp_seq' ?_
            refine wp_region' ?_
            obtain ⟨x228, hx228, h⟩ := bnd h
            refine wl_op rfl (op_call_v (vs := []) (r := (Value.bool (x228))) rfl ca16 rfl args0 I343 (fun Fr_ hF_ => F16_ok hF_  hx228) (fun w147 I344 => ?_))
            refine wl_op rfl (op_assign (v := (Value.bool (x228))) rfl rfl ?_)
            refine wl_nil ?_
            refine wp_ret' ?_
            obtain rfl := Option.some.inj h
            exact ⟨(Value.bool (x228)), (res1 rfl rfl), _, [], le1, ((I344).drop).drop, rfl, rfl⟩
end Go.Proofs.Ytfeomcdhhgeilaa.Pad
