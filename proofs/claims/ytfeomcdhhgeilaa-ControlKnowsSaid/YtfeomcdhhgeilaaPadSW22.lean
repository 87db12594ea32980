/- A part of the proof: what the functions of the program compute, shown over the model. -/
import Derived.Test.YtfeomcdhhgeilaaPadSP
import Derived.Test.YtfeomcdhhgeilaaPadSW4
import Derived.Test.YtfeomcdhhgeilaaPadSW11
import Derived.Test.YtfeomcdhhgeilaaPadSW12
import Derived.Test.YtfeomcdhhgeilaaPadSW17
import Derived.KernelRfl
set_option linter.unusedVariables false
namespace Go.Proofs.Ytfeomcdhhgeilaa.Pad
open Go Go.Proofs
set_option maxHeartbeats 4000000 in
set_option maxRecDepth 100000 in
theorem F9_ok {w : World} {S : PH} {Fr : List HP} {a0 : Panel} {v0 : Value} {a1 : Int} {a2 : (List Signal)} {v2 : Value} {r : Bool} (hI : Inv w S Fr) (h0_ : RV S v0 a0) (h2_ : RV S v2 a2) (h : F9 a0 a1 a2 = some r) :
    Calls Try.prog 9 [v0, (Value.int .i64 (a1)), v2].toArray w (DoneV S Fr (Value.bool (r))) := by
  unfold F9 at h
  obtain ⟨c1, e1, r1⟩ := Panel.inv h0_
  subst e1
  obtain ⟨z1, m1, k1, e2⟩ := rv_form r1
  subst e2
  obtain ⟨z2, m2, k2, e3⟩ := rv_form h2_
  subst e3
  refine calls_enter (n := 162) (vs := [(Value.agg #[(Value.int .i64 (a0.Sensors)), (Value.slice z1 m1 k1), (Value.int .i64 (a0.Stale)), (Value.int .i64 (a0.Limit))]), (Value.int .i64 (a1)), (Value.slice z2 m2 k2)]) Try.func9 rfl rfl rfl ?_
  refine wp_seq' ?_
  refine wp_region' ?_
  refine wl_op rfl (op_box (v := (Value.agg #[(Value.int .i64 (a0.Sensors)), (Value.slice z1 m1 k1), (Value.int .i64 (a0.Stale)), (Value.int .i64 (a0.Limit))])) rfl hI rfl (fun g1 w1 I1 => ?_))
  obtain ⟨S1, le1, I2, p1⟩ := Inv.boxFreeze (x := a0) I1 (Panel.rv (s := a0) r1)
  refine wl_op rfl (op_assign (v := (Value.bool (false))) rfl rfl ?_)
  refine wl_nil ?_
  obtain ⟨ov1, h2, h⟩ := bnd h
  refine wp_cut (fun f w => ∃ v1, ov1 = Sum.inl v1 ∧ Inv w S1 (Fr) ∧ f 1 = (Value.int .i64 (a1)) ∧ f 2 = (Value.slice z2 m2 k2) ∧ f 3 = (Value.pointer (some ⟨g1, 0, none⟩))) ?_ ?_
  · refine wp_seq' ?_
    refine wp_region' ?_
    refine wl_op rfl (op_move (v := (Value.int .i64 (a1))) rfl rfl ?_)
    obtain ⟨x5, hx5, h2⟩ := bnd h2
    refine wl_op rfl (op_call_v (vs := [(Value.int .i64 (a1))]) (r := (Value.bool (x5))) rfl ca20 rfl (args1 rfl) I2 (fun Fr_ hF_ => F20_ok hF_  hx5) (fun w6 I7 => ?_))
    refine wl_op rfl (op_move (v := (Value.bool (x5))) rfl rfl ?_)
    rcases ifs h2 with ⟨hc3, h2⟩ | ⟨hc3, h2⟩
    · refine wl_skip (c := x5) rfl rfl rfl rfl hc3 rfl ?_
      refine wl_skip (c := x5) rfl rfl rfl rfl hc3 rfl ?_
      refine wl_skip (c := x5) rfl rfl rfl rfl hc3 rfl ?_
      refine wl_skip (c := x5) rfl rfl rfl rfl hc3 rfl ?_
      refine wl_skip (c := x5) rfl rfl rfl rfl hc3 rfl ?_
      refine wl_op rfl (op_pick_t (c := x5) (a := (Value.bool (true))) rfl rfl hc3 rfl ?_)
      refine wl_nil ?_
      refine wp_cond_t (b := true) rfl rfl ?_
      refine wp_seq' ?_
      refine wp_region' ?_
      obtain ⟨x6, hx6, h2⟩ := bnd h2
      refine wl_op rfl (op_call_v (vs := []) (r := (Value.bool (x6))) rfl ca16 rfl args0 I7 (fun Fr_ hF_ => F16_ok hF_  hx6) (fun w7 I8 => ?_))
      refine wl_op rfl (op_assign (v := (Value.bool (x6))) rfl rfl ?_)
      refine wl_nil ?_
      refine wp_ret' ?_
      obtain rfl := Option.some.inj h2
      have h3 := h
      obtain rfl := Option.some.inj h3
      exact ⟨(Value.bool (x6)), (res1 rfl rfl), _, [], le1, I8, rfl, rfl⟩
    · refine wl_taken (c := x5) rfl rfl rfl rfl hc3 (op_load (v := (Value.pointer (some ⟨g1, 0, none⟩))) (e := a0) rfl sh24 rfl (p1.at_ I7) (fun u2 hu2 => ?_))
      obtain ⟨c3, e6, r3⟩ := Panel.inv hu2
      subst e6
      obtain ⟨z4, m4, k4, e7⟩ := rv_form r3
      subst e7
      refine wl_taken (c := x5) rfl rfl rfl rfl hc3 (op_move (v := (Value.int .i64 (a1))) rfl rfl ?_)
      refine wl_taken (c := x5) rfl rfl rfl rfl hc3 (op_move (v := (Value.slice z2 m2 k2)) rfl rfl ?_)
      obtain ⟨x7, hx7, h2⟩ := bnd h2
      refine wl_taken (c := x5) rfl rfl rfl rfl hc3 (op_call_v (vs := [(Value.agg #[(Value.int .i64 (a0.Sensors)), (Value.slice z4 m4 k4), (Value.int .i64 (a0.Stale)), (Value.int .i64 (a0.Limit))]), (Value.int .i64 (a1)), (Value.slice z2 m2 k2)]) (r := (Value.bool (x7))) rfl ca22 rfl (args3 rfl rfl rfl) I7 (fun Fr_ hF_ => F22_ok hF_ (Panel.rv (s := a0) r3) (h2_.mono le1) hx7) (fun w8 I9 => ?_))
      refine wl_taken (c := x5) rfl rfl rfl rfl hc3 (op_not (b := x7) rfl rfl ?_)
      refine wl_op rfl (op_pick_f (c := x5) (b := (Value.bool (!x7))) rfl rfl hc3 rfl ?_)
      refine wl_nil ?_
      rcases ifs h2 with ⟨hc4, h2⟩ | ⟨hc4, h2⟩
      · refine wp_cond_t (b := !x7) rfl hc4 ?_
        refine wp_seq' ?_
        refine wp_region' ?_
        obtain ⟨x8, hx8, h2⟩ := bnd h2
        refine wl_op rfl (op_call_v (vs := []) (r := (Value.bool (x8))) rfl ca16 rfl args0 I9 (fun Fr_ hF_ => F16_ok hF_  hx8) (fun w9 I10 => ?_))
        refine wl_op rfl (op_assign (v := (Value.bool (x8))) rfl rfl ?_)
        refine wl_nil ?_
        refine wp_ret' ?_
        obtain rfl := Option.some.inj h2
        have h3 := h
        obtain rfl := Option.some.inj h3
        exact ⟨(Value.bool (x8)), (res1 rfl rfl), _, [], le1, I10, rfl, rfl⟩
      · refine wp_cond_f (b := !x7) rfl hc4 ?_
        refine wp_skip' ?_
        obtain rfl := Option.some.inj h2
        exact ⟨_, rfl, I9, rfl, rfl, rfl⟩
  · rintro f w ⟨v1, rfl, I11, e8, e9, e10⟩
    have h := onL_inl h
    refine wp_seq' ?_
    refine wp_region' ?_
    refine wl_op rfl (op_load (v := (Value.pointer (some ⟨g1, 0, none⟩))) (e := a0) rfl sh24 e10 (p1.at_ I11) (fun u3 hu3 => ?_))
    obtain ⟨c4, e11, r4⟩ := Panel.inv hu3
    subst e11
    obtain ⟨z5, m5, k5, e12⟩ := rv_form r4
    subst e12
    refine wl_op rfl (op_move (v := (Value.int .i64 (a1))) rfl e8 ?_)
    refine wl_op rfl (op_move (v := (Value.slice z2 m2 k2)) rfl e9 ?_)
    obtain ⟨x9, hx9, h⟩ := bnd h
    refine wl_op rfl (op_call (vs := [(Value.agg #[(Value.int .i64 (a0.Sensors)), (Value.slice z5 m5 k5), (Value.int .i64 (a0.Stale)), (Value.int .i64 (a0.Limit))]), (Value.int .i64 (a1)), (Value.slice z2 m2 k2)]) rfl ca30 rfl (args3 rfl rfl rfl) (F30_ok I11 (Panel.rv (s := a0) r4) (h2_.mono le1) hx9) (fun v2 w10 S2 O1 le2 I12 hv1 => ?_))
    obtain ⟨z6, m6, k6, z7, m7, k7, rfl, rfl⟩ := hv1
    refine wl_op rfl (op_move (v := (Value.tuple #[(Value.slice z6 m6 k6), (Value.slice z7 m7 k7), (Value.int .i64 (x9.2.2))])) rfl rfl ?_)
    refine wl_op rfl (op_extract (v := (Value.slice z6 m6 k6)) rfl rfl rfl ?_)
    refine wl_op rfl (op_extract (v := (Value.slice z7 m7 k7)) rfl rfl rfl ?_)
    refine wl_op rfl (op_extract (v := (Value.int .i64 (x9.2.2))) rfl rfl rfl ?_)
    refine wl_op rfl (op_assign (v := (Value.slice z6 m6 k6)) rfl rfl ?_)
    refine wl_op rfl (op_assign (v := (Value.slice z7 m7 k7)) rfl rfl ?_)
    refine wl_op rfl (op_assign (v := (Value.int .i64 (x9.2.2))) rfl rfl ?_)
    refine wl_nil ?_
    refine wp_seq' ?_
    refine wp_seq' ?_
    refine wp_region' ?_
    refine wl_op rfl (op_move (v := (Value.int .i64 (x9.2.2))) rfl rfl ?_)
    refine wl_op rfl (op_neq (a := x9.2.2) (b := 0) rfl rfl rfl ?_)
    refine wl_nil ?_
    rcases ifs h with ⟨hc5, h⟩ | ⟨hc5, h⟩
    · refine wp_cond_t (b := x9.2.2 != 0) rfl hc5 ?_
      refine wp_seq' ?_
      refine wp_region' ?_
      obtain ⟨x10, hx10, h⟩ := bnd h
      refine wl_op rfl (op_call_v (vs := []) (r := (Value.bool (x10))) rfl ca16 rfl args0 I12 (fun Fr_ hF_ => F16_ok hF_  hx10) (fun w11 I13 => ?_))
      refine wl_op rfl (op_assign (v := (Value.bool (x10))) rfl rfl ?_)
      refine wl_nil ?_
      refine wp_ret' ?_
      obtain rfl := Option.some.inj h
      exact ⟨(Value.bool (x10)), (res1 rfl rfl), _, [], (le1.trans le2), ((I13).drop).drop, rfl, rfl⟩
    · refine wp_cond_f (b := x9.2.2 != 0) rfl hc5 ?_
      refine wp_skip' ?_
      obtain ⟨ov3, h5, h⟩ := bnd h
      refine wp_cut (fun f w => ∃ v3, ov3 = Sum.inl v3 ∧ Inv w S2 (Row (α := (List Int)) 34 (Value.slice z6 m6 k6) (x9.1) :: Row (α := (List Int)) 34 (Value.slice z7 m7 k7) (x9.2.1) :: Fr) ∧ f 1 = (Value.int .i64 (a1)) ∧ f 2 = (Value.slice z2 m2 k2) ∧ f 3 = (Value.pointer (some ⟨g1, 0, none⟩)) ∧ f 7 = (Value.slice z6 m6 k6) ∧ f 8 = (Value.slice z7 m7 k7)) ?_ ?_
      · refine wp_seq' ?_
        refine wp_region' ?_
        refine wl_op rfl (op_move (v := (Value.slice z6 m6 k6)) rfl rfl ?_)
        refine wl_op rfl (op_len_row (α := (List Int)) rfl Try.underlying53 rfl (I12.nth 0 rfl) ?_)
        refine wl_op rfl (op_move (v := (Value.int .i64 (a1))) rfl e8 ?_)
        refine wl_op rfl (op_neq (a := (x9.1.length : Int)) (b := a1) rfl rfl rfl ?_)
        refine wl_op rfl (op_move (v := (Value.bool ((x9.1.length : Int) != a1))) rfl rfl ?_)
        rcases ifs h5 with ⟨hc8, h5⟩ | ⟨hc8, h5⟩
        · refine wl_skip (c := (x9.1.length : Int) != a1) rfl rfl rfl rfl hc8 rfl ?_
          refine wl_skip (c := (x9.1.length : Int) != a1) rfl rfl rfl rfl hc8 rfl ?_
          refine wl_skip (c := (x9.1.length : Int) != a1) rfl rfl rfl rfl hc8 rfl ?_
          refine wl_skip (c := (x9.1.length : Int) != a1) rfl rfl rfl rfl hc8 rfl ?_
          refine wl_op rfl (op_pick_t (c := (x9.1.length : Int) != a1) (a := (Value.bool (true))) rfl rfl hc8 rfl ?_)
          refine wl_nil ?_
          refine wp_cond_t (b := true) rfl rfl ?_
          refine wp_seq' ?_
          refine wp_region' ?_
          refine wl_op rfl (op_assign (v := (Value.bool (false))) rfl rfl ?_)
          refine wl_nil ?_
          refine wp_ret' ?_
          obtain rfl := Option.some.inj h5
          have h6 := h
          obtain rfl := Option.some.inj h6
          exact ⟨(Value.bool (false)), (res1 rfl rfl), _, [], (le1.trans le2), ((I12).drop).drop, rfl, rfl⟩
        · refine wl_taken (c := (x9.1.length : Int) != a1) rfl rfl rfl rfl hc8 (op_move (v := (Value.slice z7 m7 k7)) rfl rfl ?_)
          refine wl_taken (c := (x9.1.length : Int) != a1) rfl rfl rfl rfl hc8 (op_len_row (α := (List Int)) rfl Try.underlying53 rfl (I12.nth 1 rfl) ?_)
          refine wl_taken (c := (x9.1.length : Int) != a1) rfl rfl rfl rfl hc8 (op_move (v := (Value.int .i64 (a1))) rfl e8 ?_)
          refine wl_taken (c := (x9.1.length : Int) != a1) rfl rfl rfl rfl hc8 (op_neq (a := (x9.2.1.length : Int)) (b := a1) rfl rfl rfl ?_)
          refine wl_op rfl (op_pick_f (c := (x9.1.length : Int) != a1) (b := (Value.bool ((x9.2.1.length : Int) != a1))) rfl rfl hc8 rfl ?_)
          refine wl_nil ?_
          rcases ifs h5 with ⟨hc9, h5⟩ | ⟨hc9, h5⟩
          · refine wp_cond_t (b := (x9.2.1.length : Int) != a1) rfl hc9 ?_
            refine wp_seq' ?_
            refine wp_region' ?_
            refine wl_op rfl (op_assign (v := (Value.bool (false))) rfl rfl ?_)
            refine wl_nil ?_
            refine wp_ret' ?_
            obtain rfl := Option.some.inj h5
            have h6 := h
            obtain rfl := Option.some.inj h6
            exact ⟨(Value.bool (false)), (res1 rfl rfl), _, [], (le1.trans le2), ((I12).drop).drop, rfl, rfl⟩
          · refine wp_cond_f (b := (x9.2.1.length : Int) != a1) rfl hc9 ?_
            refine wp_skip' ?_
            obtain rfl := Option.some.inj h5
            exact ⟨_, rfl, ((I12.pull 1).pull 1), e8, e9, e10, rfl, rfl⟩
      · rintro f w ⟨v3, rfl, I14, e13, e14, e15, e16, e17⟩
        have h := onL_inl h
        refine wp_seq' ?_
        refine wp_seq' ?_
        refine wp_region' ?_
        refine wl_op rfl (op_assign (v := (Value.int .i64 (0))) rfl rfl ?_)
        refine wl_nil ?_
        obtain ⟨x302, hx302, h⟩ := bnd h
        obtain ⟨o20, hrun16, h⟩ := bnd h
        refine wp_cutN (fun f w => ∃ out16, o20 = Sum.inl out16 ∧ ∃ (S_ : PH), S2.Le S_ ∧ Inv w S_ (Row (α := (List Int)) 34 (Value.slice z6 m6 k6) (x9.1) :: Row (α := (List Int)) 34 (Value.slice z7 m7 k7) (x9.2.1) :: Fr) ∧ f 1 = (Value.int .i64 (a1)) ∧ f 2 = (Value.slice z2 m2 k2) ∧ f 3 = (Value.pointer (some ⟨g1, 0, none⟩)) ∧ f 7 = (Value.slice z6 m6 k6) ∧ f 8 = (Value.slice z7 m7 k7)) ?_ ?_
        · refine wp_block' ?_
          refine wp_forN (I := fun (i16 : Nat) (s19 : Unit) (f : Frm) (w : World) => ∃ (S_ : PH), S2.Le S_ ∧ Inv w S_ (Row (α := (List Int)) 34 (Value.slice z6 m6 k6) (x9.1) :: Row (α := (List Int)) 34 (Value.slice z7 m7 k7) (x9.2.1) :: Fr) ∧ f 1 = (Value.int .i64 (a1)) ∧ f 2 = (Value.slice z2 m2 k2) ∧ f 3 = (Value.pointer (some ⟨g1, 0, none⟩)) ∧ f 7 = (Value.slice z6 m6 k6) ∧ f 8 = (Value.slice z7 m7 k7) ∧ f 10 = (Value.int .i64 (i16 : Int))) hrun16 ⟨_, (PH.Le.refl _), ((I14.pull 1).pull 1), e13, e14, e15, e16, e17, rfl⟩ ?_ ?_
          · rintro i16 s19 f w o19 hlt16 hI1267 h118 hout16
            obtain ⟨S1295, le1295, I1455, e1677, e1678, e1679, e1680, e1681, e1682⟩ := hI1267
            refine wp_seq' ?_
            refine wp_seq' ?_
            refine wp_region' ?_
            refine wl_op rfl (op_move (v := (Value.int .i64 ((i16 : Int)))) rfl e1682 ?_)
            refine wl_op rfl (op_move (v := (Value.int .i64 (a1))) rfl e1677 ?_)
            refine wl_op rfl (op_lss (a := (i16 : Int)) (b := a1) rfl rfl rfl ?_)
            refine wl_nil ?_
            refine wp_cond_t (b := decide ((i16 : Int) < a1)) rfl (cnt_t hx302 hlt16) ?_
            refine wp_skip' ?_
            refine wp_seq' ?_
            refine wp_block' ?_
            obtain ⟨ov55, h121, h118⟩ := bnd h118
            refine wp_cut (fun f w => ∃ v55, ov55 = Sum.inl v55 ∧ ∃ (S_ : PH), S1295.Le S_ ∧ Inv w S_ (Row (α := (List Int)) 34 (Value.slice z6 m6 k6) (x9.1) :: Row (α := (List Int)) 34 (Value.slice z7 m7 k7) (x9.2.1) :: Fr) ∧ f 1 = (Value.int .i64 (a1)) ∧ f 2 = (Value.slice z2 m2 k2) ∧ f 3 = (Value.pointer (some ⟨g1, 0, none⟩)) ∧ f 7 = (Value.slice z6 m6 k6) ∧ f 8 = (Value.slice z7 m7 k7) ∧ f 10 = (Value.int .i64 ((i16 : Int)))) ?_ ?_
            · refine wp_seq' ?_
              obtain ⟨x305, hx305, h121⟩ := bnd h121
              rcases ifs h121 with ⟨hc276, h121⟩ | ⟨hc276, h121⟩
              · refine wp_draw (sps := [⟨some 52, [], [0], fun vs_ T_ => fr0 vs_ 0 = (Value.slice z6 m6 k6), [], [], [], fun _ h_ => h_⟩, ⟨some 53, [], [1], fun vs_ T_ => fr0 vs_ 0 = (Value.int .i64 ((i16 : Int))), [], [], [], fun _ h_ => h_⟩, ⟨some 54, [0, 1], [2], fun vs_ T_ => fr0 vs_ 0 = (elemPtr (Value.slice z6 m6 k6) ((i16 : Int)) (Enc.sz (List Int))), [0], [], [], fun _ h_ => h_⟩, ⟨some 55, [0, 1, 2], [3], fun vs_ T_ => RV T_ (fr0 vs_ 0) x305, [0], [], [], fun hle_ h_ => h_.mono hle_⟩, ⟨some 56, [0, 1, 2, 3], [4], fun vs_ T_ => fr0 vs_ 0 = (Value.int .i64 ((x305.length : Int))), [], [], [], fun _ h_ => h_⟩, ⟨some 57, [], [5], fun vs_ T_ => fr0 vs_ 0 = (fieldPtr (Value.pointer (some ⟨g1, 0, none⟩)) 0), [], [], [], fun _ h_ => h_⟩, ⟨some 58, [5], [6], fun vs_ T_ => fr0 vs_ 0 = (Value.int .i64 (a0.Sensors)), [], [], [], fun _ h_ => h_⟩, ⟨some 59, [0, 1, 2, 3, 4, 5, 6], [7], fun vs_ T_ => fr0 vs_ 0 = (Value.bool ((x305.length : Int) != a0.Sensors)), [], [], [], fun _ h_ => h_⟩, ⟨some 60, [0, 1, 2, 3, 4, 5, 6, 7], [8], fun vs_ T_ => fr0 vs_ 0 = (Value.bool ((x305.length : Int) != a0.Sensors)), [], [], [], fun _ h_ => h_⟩, ⟨some 61, [0, 1, 2, 3, 4, 5, 6, 7, 8], [9], fun vs_ T_ => fr0 vs_ 0 = undef, [], [], [], fun _ h_ => h_⟩, ⟨some 62, [0, 1, 2, 3, 4, 5, 6, 7, 8], [10], fun vs_ T_ => fr0 vs_ 0 = undef, [], [], [], fun _ h_ => h_⟩, ⟨some 63, [0, 1, 2, 3, 4, 5, 6, 7, 8, 9, 10], [11], fun vs_ T_ => fr0 vs_ 0 = undef, [], [], [], fun _ h_ => h_⟩, ⟨some 64, [0, 1, 2, 3, 4, 5, 6, 7, 8, 9, 10, 11], [12], fun vs_ T_ => fr0 vs_ 0 = undef, [], [], [], fun _ h_ => h_⟩, ⟨some 65, [0, 1, 2, 3, 4, 5, 6, 7, 8, 9, 10, 11, 12], [13], fun vs_ T_ => fr0 vs_ 0 = undef, [], [], [], fun _ h_ => h_⟩, ⟨some 66, [0, 1, 2, 3, 4, 5, 6, 7, 8], [14], fun vs_ T_ => fr0 vs_ 0 = undef, [], [], [], fun _ h_ => h_⟩, ⟨some 67, [0, 1, 2, 3, 4, 5, 6, 7, 8, 14], [15], fun vs_ T_ => fr0 vs_ 0 = undef, [], [], [], fun _ h_ => h_⟩, ⟨some 68, [0, 1, 2, 3, 4, 5, 6, 7, 8, 9, 10, 11, 12, 13, 14, 15], [16], fun vs_ T_ => fr0 vs_ 0 = undef, [], [], [], fun _ h_ => h_⟩, ⟨some 69, [0, 1, 2, 3, 4, 5, 6, 7, 8, 9, 10, 11, 12, 13, 14, 15, 16], [17], fun vs_ T_ => fr0 vs_ 0 = (Value.bool (true)), [], [], [], fun _ h_ => h_⟩]) (tks := [⟨none, none, [], fun vs_ => Row (α := (List Int)) 34 (Value.slice z6 m6 k6) (x9.1)⟩]) (O := Row (α := (List Int)) 34 (Value.slice z7 m7 k7) (x9.2.1) :: Fr) rfl (by kernel_rfl) I1455 ⟨?_, ?_, ?_, ?_, ?_, ?_, ?_, ?_, ?_, ?_, ?_, ?_, ?_, ?_, ?_, ?_, ?_, ?_, trivial⟩ ?_
                · intro vs1275 f w1371 S1334 X1225 le1334 hA1225 hK1275 hI1306
                  have I1494 : Inv w1371 S1334 (X1225) := hI1306
                  refine opg_plain rfl rfl (op_move (v := (Value.slice z6 m6 k6)) rfl ((hK1275 7 (keep_of rfl)).trans e1680) ?_)
                  refine ⟨_, _, rfl, PH.Le.refl _, ?_, ?_⟩
                  · exact rfl
                  · exact I1494
                · intro vs1276 f w1372 S1335 X1226 le1335 hA1226 hK1276 hI1307
                  have I1495 : Inv w1372 S1335 (X1226) := hI1307
                  refine opg_plain rfl rfl (op_move (v := (Value.int .i64 ((i16 : Int)))) rfl ((hK1276 10 (keep_of rfl)).trans e1682) ?_)
                  refine ⟨_, _, rfl, PH.Le.refl _, ?_, ?_⟩
                  · exact rfl
                  · exact I1495
                · intro vs1277 f w1373 S1336 X1227 le1336 hA1227 hK1277 hI1308
                  have I1496 : Inv w1373 S1336 (Row (α := (List Int)) 34 (Value.slice z6 m6 k6) (x9.1) :: X1227) := hI1308
                  have q2033 : f 52 = (Value.slice z6 m6 k6) := vt (hA1227.at_ 0 rfl _ rfl) rfl
                  have q2034 : f 53 = (Value.int .i64 ((i16 : Int))) := vt (hA1227.at_ 1 rfl _ rfl) rfl
                  refine opg_plain rfl rfl (op_indexAddr_src (v := (Value.slice z6 m6 k6)) (i := (i16 : Int)) (e := x305) rfl Try.underlying53 sh34 q2033 (Inv.rowSrc (I1496.nth 0 rfl)) q2034 hx305 ?_)
                  refine ⟨_, _, rfl, PH.Le.refl _, ?_, ?_⟩
                  · exact rfl
                  · exact I1496
                · intro vs1278 f w1374 S1337 X1228 le1337 hA1228 hK1278 hI1309
                  have I1497 : Inv w1374 S1337 (Row (α := (List Int)) 34 (Value.slice z6 m6 k6) (x9.1) :: X1228) := hI1309
                  have q2035 : f 54 = (elemPtr (Value.slice z6 m6 k6) ((i16 : Int)) (Enc.sz (List Int))) := vt (hA1228.at_ 2 rfl _ rfl) rfl
                  refine opg_plain rfl rfl (op_load (v := (elemPtr (Value.slice z6 m6 k6) ((i16 : Int)) (Enc.sz (List Int)))) (e := x305) rfl sh34 q2035 ((I1497.nth 0 rfl).rowElem hx305) (fun u388 hu388 => ?_))
                  obtain ⟨z290, m290, k290, e1701⟩ := rv_form hu388
                  subst e1701
                  refine ⟨_, _, rfl, PH.Le.refl _, ?_, ?_⟩
                  · exact hu388
                  · exact I1497
                · intro vs1279 f w1375 S1338 X1229 le1338 hA1229 hK1279 hI1310
                  have I1498 : Inv w1375 S1338 (X1229) := hI1310
                  have q2036 : f 55 = vs1279 3 := (hA1229.at_ 3 rfl _ rfl).1 _ rfl
                  have r170 : RV S1338 (vs1279 3) x305 := (hA1229.at_ 3 rfl _ rfl).2
                  obtain ⟨u389, hu389⟩ : ∃ u, vs1279 3 = u := ⟨_, rfl⟩
                  rw [hu389] at q2036 r170
                  obtain ⟨z291, m291, k291, e1702⟩ := rv_form r170
                  subst e1702
                  refine opg_plain rfl rfl (op_len_rv rfl Try.underlying34 q2036 r170 ?_)
                  refine ⟨_, _, rfl, PH.Le.refl _, ?_, ?_⟩
                  · exact rfl
                  · exact I1498
                · intro vs1280 f w1376 S1339 X1230 le1339 hA1230 hK1280 hI1311
                  have I1499 : Inv w1376 S1339 (X1230) := hI1311
                  refine opg_plain rfl rfl (op_fieldAddr_t (v := (Value.pointer (some ⟨g1, 0, none⟩))) rfl fa24_0 ((hK1280 3 (keep_of rfl)).trans e1679) ((p1.mono ((le2.trans le1295).trans le1339)).at_ I1499) ?_)
                  refine ⟨_, _, rfl, PH.Le.refl _, ?_, ?_⟩
                  · exact rfl
                  · exact I1499
                · intro vs1281 f w1377 S1340 X1231 le1340 hA1231 hK1281 hI1312
                  have I1500 : Inv w1377 S1340 (X1231) := hI1312
                  have q2037 : f 57 = (fieldPtr (Value.pointer (some ⟨g1, 0, none⟩)) 0) := vt (hA1231.at_ 0 rfl _ rfl) rfl
                  refine opg_plain rfl rfl (op_load_int (v := (fieldPtr (Value.pointer (some ⟨g1, 0, none⟩)) 0)) (e := a0.Sensors) rfl sh3 q2037 (((p1.mono ((le2.trans le1295).trans le1340)).at_ I1500).fld Panel.fld0) ?_)
                  refine ⟨_, _, rfl, PH.Le.refl _, ?_, ?_⟩
                  · exact rfl
                  · exact I1500
                · intro vs1282 f w1378 S1341 X1232 le1341 hA1232 hK1282 hI1313
                  have I1501 : Inv w1378 S1341 (X1232) := hI1313
                  have q2038 : f 56 = (Value.int .i64 ((x305.length : Int))) := vt (hA1232.at_ 4 rfl _ rfl) rfl
                  have q2039 : f 58 = (Value.int .i64 (a0.Sensors)) := vt (hA1232.at_ 6 rfl _ rfl) rfl
                  refine opg_plain rfl rfl (op_neq (a := (x305.length : Int)) (b := a0.Sensors) rfl q2038 q2039 ?_)
                  refine ⟨_, _, rfl, PH.Le.refl _, ?_, ?_⟩
                  · exact rfl
                  · exact I1501
                · intro vs1283 f w1379 S1342 X1233 le1342 hA1233 hK1283 hI1314
                  have I1502 : Inv w1379 S1342 (X1233) := hI1314
                  have q2040 : f 59 = (Value.bool ((x305.length : Int) != a0.Sensors)) := vt (hA1233.at_ 7 rfl _ rfl) rfl
                  refine opg_plain rfl rfl (op_move (v := (Value.bool ((x305.length : Int) != a0.Sensors))) rfl q2040 ?_)
                  refine ⟨_, _, rfl, PH.Le.refl _, ?_, ?_⟩
                  · exact rfl
                  · exact I1502
                · intro vs1284 f w1380 S1343 X1234 le1343 hA1234 hK1284 hI1315
                  have I1503 : Inv w1380 S1343 (X1234) := hI1315
                  have q2041 : f 60 = (Value.bool ((x305.length : Int) != a0.Sensors)) := vt (hA1234.at_ 8 rfl _ rfl) rfl
                  exact opg_skip (c := (x305.length : Int) != a0.Sensors) rfl rfl rfl rfl q2041 hc276 rfl ⟨_, _, rfl, PH.Le.refl _, rfl, I1503⟩
                · intro vs1285 f w1381 S1344 X1235 le1344 hA1235 hK1285 hI1316
                  have I1504 : Inv w1381 S1344 (X1235) := hI1316
                  have q2042 : f 60 = (Value.bool ((x305.length : Int) != a0.Sensors)) := vt (hA1235.at_ 8 rfl _ rfl) rfl
                  exact opg_skip (c := (x305.length : Int) != a0.Sensors) rfl rfl rfl rfl q2042 hc276 rfl ⟨_, _, rfl, PH.Le.refl _, rfl, I1504⟩
                · intro vs1286 f w1382 S1345 X1236 le1345 hA1236 hK1286 hI1317
                  have I1505 : Inv w1382 S1345 (X1236) := hI1317
                  have q2043 : f 60 = (Value.bool ((x305.length : Int) != a0.Sensors)) := vt (hA1236.at_ 8 rfl _ rfl) rfl
                  have q2044 : f 61 = undef := vt (hA1236.at_ 9 rfl _ rfl) rfl
                  have q2045 : f 62 = undef := vt (hA1236.at_ 10 rfl _ rfl) rfl
                  exact opg_skip (c := (x305.length : Int) != a0.Sensors) rfl rfl rfl rfl q2043 hc276 rfl ⟨_, _, rfl, PH.Le.refl _, rfl, I1505⟩
                · intro vs1287 f w1383 S1346 X1237 le1346 hA1237 hK1287 hI1318
                  have I1506 : Inv w1383 S1346 (X1237) := hI1318
                  have q2046 : f 60 = (Value.bool ((x305.length : Int) != a0.Sensors)) := vt (hA1237.at_ 8 rfl _ rfl) rfl
                  have q2047 : f 63 = undef := vt (hA1237.at_ 11 rfl _ rfl) rfl
                  exact opg_skip (c := (x305.length : Int) != a0.Sensors) rfl rfl rfl rfl q2046 hc276 rfl ⟨_, _, rfl, PH.Le.refl _, rfl, I1506⟩
                · intro vs1288 f w1384 S1347 X1238 le1347 hA1238 hK1288 hI1319
                  have I1507 : Inv w1384 S1347 (X1238) := hI1319
                  have q2048 : f 60 = (Value.bool ((x305.length : Int) != a0.Sensors)) := vt (hA1238.at_ 8 rfl _ rfl) rfl
                  have q2049 : f 64 = undef := vt (hA1238.at_ 12 rfl _ rfl) rfl
                  exact opg_skip (c := (x305.length : Int) != a0.Sensors) rfl rfl rfl rfl q2048 hc276 rfl ⟨_, _, rfl, PH.Le.refl _, rfl, I1507⟩
                · intro vs1289 f w1385 S1348 X1239 le1348 hA1239 hK1289 hI1320
                  have I1508 : Inv w1385 S1348 (X1239) := hI1320
                  have q2050 : f 60 = (Value.bool ((x305.length : Int) != a0.Sensors)) := vt (hA1239.at_ 8 rfl _ rfl) rfl
                  exact opg_skip (c := (x305.length : Int) != a0.Sensors) rfl rfl rfl rfl q2050 hc276 rfl ⟨_, _, rfl, PH.Le.refl _, rfl, I1508⟩
                · intro vs1290 f w1386 S1349 X1240 le1349 hA1240 hK1290 hI1321
                  have I1509 : Inv w1386 S1349 (X1240) := hI1321
                  have q2051 : f 60 = (Value.bool ((x305.length : Int) != a0.Sensors)) := vt (hA1240.at_ 8 rfl _ rfl) rfl
                  have q2052 : f 66 = undef := vt (hA1240.at_ 9 rfl _ rfl) rfl
                  exact opg_skip (c := (x305.length : Int) != a0.Sensors) rfl rfl rfl rfl q2051 hc276 rfl ⟨_, _, rfl, PH.Le.refl _, rfl, I1509⟩
                · intro vs1291 f w1387 S1350 X1241 le1350 hA1241 hK1291 hI1322
                  have I1510 : Inv w1387 S1350 (X1241) := hI1322
                  have q2053 : f 60 = (Value.bool ((x305.length : Int) != a0.Sensors)) := vt (hA1241.at_ 8 rfl _ rfl) rfl
                  have q2054 : f 65 = undef := vt (hA1241.at_ 13 rfl _ rfl) rfl
                  have q2055 : f 67 = undef := vt (hA1241.at_ 15 rfl _ rfl) rfl
                  exact opg_skip (c := (x305.length : Int) != a0.Sensors) rfl rfl rfl rfl q2053 hc276 rfl ⟨_, _, rfl, PH.Le.refl _, rfl, I1510⟩
                · intro vs1292 f w1388 S1351 X1242 le1351 hA1242 hK1292 hI1323
                  have I1511 : Inv w1388 S1351 (X1242) := hI1323
                  have q2056 : f 60 = (Value.bool ((x305.length : Int) != a0.Sensors)) := vt (hA1242.at_ 8 rfl _ rfl) rfl
                  have q2057 : f 68 = undef := vt (hA1242.at_ 16 rfl _ rfl) rfl
                  refine opg_plain rfl rfl (op_pick_t (c := (x305.length : Int) != a0.Sensors) (a := (Value.bool (true))) rfl q2056 hc276 rfl ?_)
                  refine ⟨_, _, rfl, PH.Le.refl _, ?_, ?_⟩
                  · exact rfl
                  · exact I1511
                · intro vs1293 f w1389 S1352 le1352 hF51 hK1293 hI1324
                  have e1703 : f 1 = (Value.int .i64 (a1)) := (hK1293 1 (keep_all rfl)).trans e1677
                  have e1704 : f 2 = (Value.slice z2 m2 k2) := (hK1293 2 (keep_all rfl)).trans e1678
                  have e1705 : f 3 = (Value.pointer (some ⟨g1, 0, none⟩)) := (hK1293 3 (keep_all rfl)).trans e1679
                  have e1706 : f 7 = (Value.slice z6 m6 k6) := (hK1293 7 (keep_all rfl)).trans e1680
                  have e1707 : f 8 = (Value.slice z7 m7 k7) := (hK1293 8 (keep_all rfl)).trans e1681
                  have e1708 : f 10 = (Value.int .i64 ((i16 : Int))) := (hK1293 10 (keep_all rfl)).trans e1682
                  have I1512 : Inv w1389 S1352 (Row (α := (List Int)) 34 (Value.slice z6 m6 k6) (x9.1) :: Row (α := (List Int)) 34 (Value.slice z7 m7 k7) (x9.2.1) :: Fr) := hI1324
                  have q2058 : f 69 = (Value.bool (true)) := vt (hF51.at_ 17 rfl _ rfl) rfl
                  refine wp_cond_t (b := true) q2058 rfl ?_
                  refine wp_seq' ?_
                  refine wp_region' ?_
                  refine wl_op rfl (op_assign (v := (Value.bool (false))) rfl rfl ?_)
                  refine wl_nil ?_
                  refine wp_ret' ?_
                  obtain rfl := Option.some.inj h121
                  have h122 := h118
                  obtain rfl := Option.some.inj h122
                  obtain rfl := (hout16 _ rfl)
                  have h119 := h
                  obtain rfl := Option.some.inj h119
                  exact ⟨(Value.bool (false)), (res1 rfl rfl), _, [], (((le1.trans le2).trans le1295).trans le1352), ((I1512).drop).drop, rfl, rfl⟩
              · obtain ⟨x306, hx306, h121⟩ := bnd h121
                refine wp_draw (sps := [⟨some 52, [], [0], fun vs_ T_ => fr0 vs_ 0 = (Value.slice z6 m6 k6), [], [], [], fun _ h_ => h_⟩, ⟨some 53, [], [1], fun vs_ T_ => fr0 vs_ 0 = (Value.int .i64 ((i16 : Int))), [], [], [], fun _ h_ => h_⟩, ⟨some 54, [0, 1], [2], fun vs_ T_ => fr0 vs_ 0 = (elemPtr (Value.slice z6 m6 k6) ((i16 : Int)) (Enc.sz (List Int))), [0], [], [], fun _ h_ => h_⟩, ⟨some 55, [0, 1, 2], [3], fun vs_ T_ => RV T_ (fr0 vs_ 0) x305, [0], [], [], fun hle_ h_ => h_.mono hle_⟩, ⟨some 56, [0, 1, 2, 3], [4], fun vs_ T_ => fr0 vs_ 0 = (Value.int .i64 ((x305.length : Int))), [], [], [], fun _ h_ => h_⟩, ⟨some 57, [], [5], fun vs_ T_ => fr0 vs_ 0 = (fieldPtr (Value.pointer (some ⟨g1, 0, none⟩)) 0), [], [], [], fun _ h_ => h_⟩, ⟨some 58, [5], [6], fun vs_ T_ => fr0 vs_ 0 = (Value.int .i64 (a0.Sensors)), [], [], [], fun _ h_ => h_⟩, ⟨some 59, [0, 1, 2, 3, 4, 5, 6], [7], fun vs_ T_ => fr0 vs_ 0 = (Value.bool ((x305.length : Int) != a0.Sensors)), [], [], [], fun _ h_ => h_⟩, ⟨some 60, [0, 1, 2, 3, 4, 5, 6, 7], [8], fun vs_ T_ => fr0 vs_ 0 = (Value.bool ((x305.length : Int) != a0.Sensors)), [], [], [], fun _ h_ => h_⟩, ⟨some 61, [0, 1, 2, 3, 4, 5, 6, 7, 8], [9], fun vs_ T_ => fr0 vs_ 0 = (Value.slice z7 m7 k7), [], [], [], fun _ h_ => h_⟩, ⟨some 62, [0, 1, 2, 3, 4, 5, 6, 7, 8], [10], fun vs_ T_ => fr0 vs_ 0 = (Value.int .i64 ((i16 : Int))), [], [], [], fun _ h_ => h_⟩, ⟨some 63, [0, 1, 2, 3, 4, 5, 6, 7, 8, 9, 10], [11], fun vs_ T_ => fr0 vs_ 0 = (elemPtr (Value.slice z7 m7 k7) ((i16 : Int)) (Enc.sz (List Int))), [1], [], [], fun _ h_ => h_⟩, ⟨some 64, [0, 1, 2, 3, 4, 5, 6, 7, 8, 9, 10, 11], [12], fun vs_ T_ => RV T_ (fr0 vs_ 0) x306, [1], [], [], fun hle_ h_ => h_.mono hle_⟩, ⟨some 65, [0, 1, 2, 3, 4, 5, 6, 7, 8, 9, 10, 11, 12], [13], fun vs_ T_ => fr0 vs_ 0 = (Value.int .i64 ((x306.length : Int))), [], [], [], fun _ h_ => h_⟩, ⟨some 66, [0, 1, 2, 3, 4, 5, 6, 7, 8], [14], fun vs_ T_ => fr0 vs_ 0 = (fieldPtr (Value.pointer (some ⟨g1, 0, none⟩)) 0), [], [], [], fun _ h_ => h_⟩, ⟨some 67, [0, 1, 2, 3, 4, 5, 6, 7, 8, 14], [15], fun vs_ T_ => fr0 vs_ 0 = (Value.int .i64 (a0.Sensors)), [], [], [], fun _ h_ => h_⟩, ⟨some 68, [0, 1, 2, 3, 4, 5, 6, 7, 8, 9, 10, 11, 12, 13, 14, 15], [16], fun vs_ T_ => fr0 vs_ 0 = (Value.bool ((x306.length : Int) != a0.Sensors)), [], [], [], fun _ h_ => h_⟩, ⟨some 69, [0, 1, 2, 3, 4, 5, 6, 7, 8, 9, 10, 11, 12, 13, 14, 15, 16], [17], fun vs_ T_ => fr0 vs_ 0 = (Value.bool ((x306.length : Int) != a0.Sensors)), [], [], [], fun _ h_ => h_⟩]) (tks := [⟨none, none, [], fun vs_ => Row (α := (List Int)) 34 (Value.slice z6 m6 k6) (x9.1)⟩, ⟨none, none, [], fun vs_ => Row (α := (List Int)) 34 (Value.slice z7 m7 k7) (x9.2.1)⟩]) (O := Fr) rfl (by kernel_rfl) ((I1455.pull 1).pull 1) ⟨?_, ?_, ?_, ?_, ?_, ?_, ?_, ?_, ?_, ?_, ?_, ?_, ?_, ?_, ?_, ?_, ?_, ?_, trivial⟩ ?_
                · intro vs1294 f w1390 S1353 X1243 le1353 hA1243 hK1294 hI1325
                  have I1513 : Inv w1390 S1353 (X1243) := hI1325
                  refine opg_plain rfl rfl (op_move (v := (Value.slice z6 m6 k6)) rfl ((hK1294 7 (keep_of rfl)).trans e1680) ?_)
                  refine ⟨_, _, rfl, PH.Le.refl _, ?_, ?_⟩
                  · exact rfl
                  · exact I1513
                · intro vs1295 f w1391 S1354 X1244 le1354 hA1244 hK1295 hI1326
                  have I1514 : Inv w1391 S1354 (X1244) := hI1326
                  refine opg_plain rfl rfl (op_move (v := (Value.int .i64 ((i16 : Int)))) rfl ((hK1295 10 (keep_of rfl)).trans e1682) ?_)
                  refine ⟨_, _, rfl, PH.Le.refl _, ?_, ?_⟩
                  · exact rfl
                  · exact I1514
                · intro vs1296 f w1392 S1355 X1245 le1355 hA1245 hK1296 hI1327
                  have I1515 : Inv w1392 S1355 (Row (α := (List Int)) 34 (Value.slice z6 m6 k6) (x9.1) :: X1245) := hI1327
                  have q2059 : f 52 = (Value.slice z6 m6 k6) := vt (hA1245.at_ 0 rfl _ rfl) rfl
                  have q2060 : f 53 = (Value.int .i64 ((i16 : Int))) := vt (hA1245.at_ 1 rfl _ rfl) rfl
                  refine opg_plain rfl rfl (op_indexAddr_src (v := (Value.slice z6 m6 k6)) (i := (i16 : Int)) (e := x305) rfl Try.underlying53 sh34 q2059 (Inv.rowSrc (I1515.nth 0 rfl)) q2060 hx305 ?_)
                  refine ⟨_, _, rfl, PH.Le.refl _, ?_, ?_⟩
                  · exact rfl
                  · exact I1515
                · intro vs1297 f w1393 S1356 X1246 le1356 hA1246 hK1297 hI1328
                  have I1516 : Inv w1393 S1356 (Row (α := (List Int)) 34 (Value.slice z6 m6 k6) (x9.1) :: X1246) := hI1328
                  have q2061 : f 54 = (elemPtr (Value.slice z6 m6 k6) ((i16 : Int)) (Enc.sz (List Int))) := vt (hA1246.at_ 2 rfl _ rfl) rfl
                  refine opg_plain rfl rfl (op_load (v := (elemPtr (Value.slice z6 m6 k6) ((i16 : Int)) (Enc.sz (List Int)))) (e := x305) rfl sh34 q2061 ((I1516.nth 0 rfl).rowElem hx305) (fun u392 hu392 => ?_))
                  obtain ⟨z292, m292, k292, e1709⟩ := rv_form hu392
                  subst e1709
                  refine ⟨_, _, rfl, PH.Le.refl _, ?_, ?_⟩
                  · exact hu392
                  · exact I1516
                · intro vs1298 f w1394 S1357 X1247 le1357 hA1247 hK1298 hI1329
                  have I1517 : Inv w1394 S1357 (X1247) := hI1329
                  have q2062 : f 55 = vs1298 3 := (hA1247.at_ 3 rfl _ rfl).1 _ rfl
                  have r171 : RV S1357 (vs1298 3) x305 := (hA1247.at_ 3 rfl _ rfl).2
                  obtain ⟨u393, hu393⟩ : ∃ u, vs1298 3 = u := ⟨_, rfl⟩
                  rw [hu393] at q2062 r171
                  obtain ⟨z293, m293, k293, e1710⟩ := rv_form r171
                  subst e1710
                  refine opg_plain rfl rfl (op_len_rv rfl Try.underlying34 q2062 r171 ?_)
                  refine ⟨_, _, rfl, PH.Le.refl _, ?_, ?_⟩
                  · exact rfl
                  · exact I1517
                · intro vs1299 f w1395 S1358 X1248 le1358 hA1248 hK1299 hI1330
                  have I1518 : Inv w1395 S1358 (X1248) := hI1330
                  refine opg_plain rfl rfl (op_fieldAddr_t (v := (Value.pointer (some ⟨g1, 0, none⟩))) rfl fa24_0 ((hK1299 3 (keep_of rfl)).trans e1679) ((p1.mono ((le2.trans le1295).trans le1358)).at_ I1518) ?_)
                  refine ⟨_, _, rfl, PH.Le.refl _, ?_, ?_⟩
                  · exact rfl
                  · exact I1518
                · intro vs1300 f w1396 S1359 X1249 le1359 hA1249 hK1300 hI1331
                  have I1519 : Inv w1396 S1359 (X1249) := hI1331
                  have q2063 : f 57 = (fieldPtr (Value.pointer (some ⟨g1, 0, none⟩)) 0) := vt (hA1249.at_ 0 rfl _ rfl) rfl
                  refine opg_plain rfl rfl (op_load_int (v := (fieldPtr (Value.pointer (some ⟨g1, 0, none⟩)) 0)) (e := a0.Sensors) rfl sh3 q2063 (((p1.mono ((le2.trans le1295).trans le1359)).at_ I1519).fld Panel.fld0) ?_)
                  refine ⟨_, _, rfl, PH.Le.refl _, ?_, ?_⟩
                  · exact rfl
                  · exact I1519
                · intro vs1301 f w1397 S1360 X1250 le1360 hA1250 hK1301 hI1332
                  have I1520 : Inv w1397 S1360 (X1250) := hI1332
                  have q2064 : f 56 = (Value.int .i64 ((x305.length : Int))) := vt (hA1250.at_ 4 rfl _ rfl) rfl
                  have q2065 : f 58 = (Value.int .i64 (a0.Sensors)) := vt (hA1250.at_ 6 rfl _ rfl) rfl
                  refine opg_plain rfl rfl (op_neq (a := (x305.length : Int)) (b := a0.Sensors) rfl q2064 q2065 ?_)
                  refine ⟨_, _, rfl, PH.Le.refl _, ?_, ?_⟩
                  · exact rfl
                  · exact I1520
                · intro vs1302 f w1398 S1361 X1251 le1361 hA1251 hK1302 hI1333
                  have I1521 : Inv w1398 S1361 (X1251) := hI1333
                  have q2066 : f 59 = (Value.bool ((x305.length : Int) != a0.Sensors)) := vt (hA1251.at_ 7 rfl _ rfl) rfl
                  refine opg_plain rfl rfl (op_move (v := (Value.bool ((x305.length : Int) != a0.Sensors))) rfl q2066 ?_)
                  refine ⟨_, _, rfl, PH.Le.refl _, ?_, ?_⟩
                  · exact rfl
                  · exact I1521
                · intro vs1303 f w1399 S1362 X1252 le1362 hA1252 hK1303 hI1334
                  have I1522 : Inv w1399 S1362 (X1252) := hI1334
                  have q2067 : f 60 = (Value.bool ((x305.length : Int) != a0.Sensors)) := vt (hA1252.at_ 8 rfl _ rfl) rfl
                  refine opg_taken (c := (x305.length : Int) != a0.Sensors) rfl rfl rfl rfl q2067 hc276 (op_move (v := (Value.slice z7 m7 k7)) rfl ((hK1303 8 (keep_of rfl)).trans e1681) ?_)
                  refine ⟨_, _, rfl, PH.Le.refl _, ?_, ?_⟩
                  · exact rfl
                  · exact I1522
                · intro vs1304 f w1400 S1363 X1253 le1363 hA1253 hK1304 hI1335
                  have I1523 : Inv w1400 S1363 (X1253) := hI1335
                  have q2068 : f 60 = (Value.bool ((x305.length : Int) != a0.Sensors)) := vt (hA1253.at_ 8 rfl _ rfl) rfl
                  refine opg_taken (c := (x305.length : Int) != a0.Sensors) rfl rfl rfl rfl q2068 hc276 (op_move (v := (Value.int .i64 ((i16 : Int)))) rfl ((hK1304 10 (keep_of rfl)).trans e1682) ?_)
                  refine ⟨_, _, rfl, PH.Le.refl _, ?_, ?_⟩
                  · exact rfl
                  · exact I1523
                · intro vs1305 f w1401 S1364 X1254 le1364 hA1254 hK1305 hI1336
                  have I1524 : Inv w1401 S1364 (Row (α := (List Int)) 34 (Value.slice z7 m7 k7) (x9.2.1) :: X1254) := hI1336
                  have q2069 : f 60 = (Value.bool ((x305.length : Int) != a0.Sensors)) := vt (hA1254.at_ 8 rfl _ rfl) rfl
                  have q2070 : f 61 = (Value.slice z7 m7 k7) := vt (hA1254.at_ 9 rfl _ rfl) rfl
                  have q2071 : f 62 = (Value.int .i64 ((i16 : Int))) := vt (hA1254.at_ 10 rfl _ rfl) rfl
                  refine opg_taken (c := (x305.length : Int) != a0.Sensors) rfl rfl rfl rfl q2069 hc276 (op_indexAddr_src (v := (Value.slice z7 m7 k7)) (i := (i16 : Int)) (e := x306) rfl Try.underlying53 sh34 q2070 (Inv.rowSrc (I1524.nth 0 rfl)) q2071 hx306 ?_)
                  refine ⟨_, _, rfl, PH.Le.refl _, ?_, ?_⟩
                  · exact rfl
                  · exact I1524
                · intro vs1306 f w1402 S1365 X1255 le1365 hA1255 hK1306 hI1337
                  have I1525 : Inv w1402 S1365 (Row (α := (List Int)) 34 (Value.slice z7 m7 k7) (x9.2.1) :: X1255) := hI1337
                  have q2072 : f 60 = (Value.bool ((x305.length : Int) != a0.Sensors)) := vt (hA1255.at_ 8 rfl _ rfl) rfl
                  have q2073 : f 63 = (elemPtr (Value.slice z7 m7 k7) ((i16 : Int)) (Enc.sz (List Int))) := vt (hA1255.at_ 11 rfl _ rfl) rfl
                  refine opg_taken (c := (x305.length : Int) != a0.Sensors) rfl rfl rfl rfl q2072 hc276 (op_load (v := (elemPtr (Value.slice z7 m7 k7) ((i16 : Int)) (Enc.sz (List Int)))) (e := x306) rfl sh34 q2073 ((I1525.nth 0 rfl).rowElem hx306) (fun u394 hu394 => ?_))
                  obtain ⟨z294, m294, k294, e1711⟩ := rv_form hu394
                  subst e1711
                  refine ⟨_, _, rfl, PH.Le.refl _, ?_, ?_⟩
                  · exact hu394
                  · exact I1525
                · intro vs1307 f w1403 S1366 X1256 le1366 hA1256 hK1307 hI1338
                  have I1526 : Inv w1403 S1366 (X1256) := hI1338
                  have q2074 : f 60 = (Value.bool ((x305.length : Int) != a0.Sensors)) := vt (hA1256.at_ 8 rfl _ rfl) rfl
                  have q2075 : f 64 = vs1307 12 := (hA1256.at_ 12 rfl _ rfl).1 _ rfl
                  have r172 : RV S1366 (vs1307 12) x306 := (hA1256.at_ 12 rfl _ rfl).2
                  obtain ⟨u395, hu395⟩ : ∃ u, vs1307 12 = u := ⟨_, rfl⟩
                  rw [hu395] at q2075 r172
                  obtain ⟨z295, m295, k295, e1712⟩ := rv_form r172
                  subst e1712
                  refine opg_taken (c := (x305.length : Int) != a0.Sensors) rfl rfl rfl rfl q2074 hc276 (op_len_rv rfl Try.underlying34 q2075 r172 ?_)
                  refine ⟨_, _, rfl, PH.Le.refl _, ?_, ?_⟩
                  · exact rfl
                  · exact I1526
                · intro vs1308 f w1404 S1367 X1257 le1367 hA1257 hK1308 hI1339
                  have I1527 : Inv w1404 S1367 (X1257) := hI1339
                  have q2076 : f 60 = (Value.bool ((x305.length : Int) != a0.Sensors)) := vt (hA1257.at_ 8 rfl _ rfl) rfl
                  refine opg_taken (c := (x305.length : Int) != a0.Sensors) rfl rfl rfl rfl q2076 hc276 (op_fieldAddr_t (v := (Value.pointer (some ⟨g1, 0, none⟩))) rfl fa24_0 ((hK1308 3 (keep_of rfl)).trans e1679) ((p1.mono ((le2.trans le1295).trans le1367)).at_ I1527) ?_)
                  refine ⟨_, _, rfl, PH.Le.refl _, ?_, ?_⟩
                  · exact rfl
                  · exact I1527
                · intro vs1309 f w1405 S1368 X1258 le1368 hA1258 hK1309 hI1340
                  have I1528 : Inv w1405 S1368 (X1258) := hI1340
                  have q2077 : f 60 = (Value.bool ((x305.length : Int) != a0.Sensors)) := vt (hA1258.at_ 8 rfl _ rfl) rfl
                  have q2078 : f 66 = (fieldPtr (Value.pointer (some ⟨g1, 0, none⟩)) 0) := vt (hA1258.at_ 9 rfl _ rfl) rfl
                  refine opg_taken (c := (x305.length : Int) != a0.Sensors) rfl rfl rfl rfl q2077 hc276 (op_load_int (v := (fieldPtr (Value.pointer (some ⟨g1, 0, none⟩)) 0)) (e := a0.Sensors) rfl sh3 q2078 (((p1.mono ((le2.trans le1295).trans le1368)).at_ I1528).fld Panel.fld0) ?_)
                  refine ⟨_, _, rfl, PH.Le.refl _, ?_, ?_⟩
                  · exact rfl
                  · exact I1528
                · intro vs1310 f w1406 S1369 X1259 le1369 hA1259 hK1310 hI1341
                  have I1529 : Inv w1406 S1369 (X1259) := hI1341
                  have q2079 : f 60 = (Value.bool ((x305.length : Int) != a0.Sensors)) := vt (hA1259.at_ 8 rfl _ rfl) rfl
                  have q2080 : f 65 = (Value.int .i64 ((x306.length : Int))) := vt (hA1259.at_ 13 rfl _ rfl) rfl
                  have q2081 : f 67 = (Value.int .i64 (a0.Sensors)) := vt (hA1259.at_ 15 rfl _ rfl) rfl
                  refine opg_taken (c := (x305.length : Int) != a0.Sensors) rfl rfl rfl rfl q2079 hc276 (op_neq (a := (x306.length : Int)) (b := a0.Sensors) rfl q2080 q2081 ?_)
                  refine ⟨_, _, rfl, PH.Le.refl _, ?_, ?_⟩
                  · exact rfl
                  · exact I1529
                · intro vs1311 f w1407 S1370 X1260 le1370 hA1260 hK1311 hI1342
                  have I1530 : Inv w1407 S1370 (X1260) := hI1342
                  have q2082 : f 60 = (Value.bool ((x305.length : Int) != a0.Sensors)) := vt (hA1260.at_ 8 rfl _ rfl) rfl
                  have q2083 : f 68 = (Value.bool ((x306.length : Int) != a0.Sensors)) := vt (hA1260.at_ 16 rfl _ rfl) rfl
                  refine opg_plain rfl rfl (op_pick_f (c := (x305.length : Int) != a0.Sensors) (b := (Value.bool ((x306.length : Int) != a0.Sensors))) rfl q2082 hc276 q2083 ?_)
                  refine ⟨_, _, rfl, PH.Le.refl _, ?_, ?_⟩
                  · exact rfl
                  · exact I1530
                · intro vs1312 f w1408 S1371 le1371 hF52 hK1312 hI1343
                  have e1713 : f 1 = (Value.int .i64 (a1)) := (hK1312 1 (keep_all rfl)).trans e1677
                  have e1714 : f 2 = (Value.slice z2 m2 k2) := (hK1312 2 (keep_all rfl)).trans e1678
                  have e1715 : f 3 = (Value.pointer (some ⟨g1, 0, none⟩)) := (hK1312 3 (keep_all rfl)).trans e1679
                  have e1716 : f 7 = (Value.slice z6 m6 k6) := (hK1312 7 (keep_all rfl)).trans e1680
                  have e1717 : f 8 = (Value.slice z7 m7 k7) := (hK1312 8 (keep_all rfl)).trans e1681
                  have e1718 : f 10 = (Value.int .i64 ((i16 : Int))) := (hK1312 10 (keep_all rfl)).trans e1682
                  have I1531 : Inv w1408 S1371 (Row (α := (List Int)) 34 (Value.slice z6 m6 k6) (x9.1) :: Row (α := (List Int)) 34 (Value.slice z7 m7 k7) (x9.2.1) :: Fr) := hI1343
                  have q2084 : f 69 = (Value.bool ((x306.length : Int) != a0.Sensors)) := vt (hF52.at_ 17 rfl _ rfl) rfl
                  rcases ifs h121 with ⟨hc277, h121⟩ | ⟨hc277, h121⟩
                  · refine wp_cond_t (b := (x306.length : Int) != a0.Sensors) q2084 hc277 ?_
                    refine wp_seq' ?_
                    refine wp_region' ?_
                    refine wl_op rfl (op_assign (v := (Value.bool (false))) rfl rfl ?_)
                    refine wl_nil ?_
                    refine wp_ret' ?_
                    obtain rfl := Option.some.inj h121
                    have h122 := h118
                    obtain rfl := Option.some.inj h122
                    obtain rfl := (hout16 _ rfl)
                    have h119 := h
                    obtain rfl := Option.some.inj h119
                    exact ⟨(Value.bool (false)), (res1 rfl rfl), _, [], (((le1.trans le2).trans le1295).trans le1371), ((I1531).drop).drop, rfl, rfl⟩
                  · refine wp_cond_f (b := (x306.length : Int) != a0.Sensors) q2084 hc277 ?_
                    refine wp_skip' ?_
                    obtain rfl := Option.some.inj h121
                    exact ⟨_, rfl, _, le1371, ((I1531.pull 1).pull 1), e1713, e1714, e1715, e1716, e1717, e1718⟩
            · rintro f w ⟨v55, rfl, S1372, le1372, I1532, e1719, e1720, e1721, e1722, e1723, e1724⟩
              have h118 := onL_inl h118
              refine wp_seq' ?_
              refine wp_region' ?_
              refine wl_op rfl (op_assign (v := (Value.int .i64 (0))) rfl rfl ?_)
              refine wl_nil ?_
              obtain ⟨x376, hx376, h118⟩ := bnd h118
              obtain ⟨o25, hrun20, h118⟩ := bnd h118
              refine wp_cutN (fun f w => ∃ out20, o25 = Sum.inl out20 ∧ ∃ (S_ : PH), S1372.Le S_ ∧ Inv w S_ (Row (α := (List Int)) 34 (Value.slice z6 m6 k6) (x9.1) :: Row (α := (List Int)) 34 (Value.slice z7 m7 k7) (x9.2.1) :: Fr) ∧ f 1 = (Value.int .i64 (a1)) ∧ f 2 = (Value.slice z2 m2 k2) ∧ f 3 = (Value.pointer (some ⟨g1, 0, none⟩)) ∧ f 7 = (Value.slice z6 m6 k6) ∧ f 8 = (Value.slice z7 m7 k7) ∧ f 10 = (Value.int .i64 ((i16 : Int)))) ?_ ?_
              · refine wp_block' ?_
                refine wp_forN (I := fun (i20 : Nat) (s23 : Unit) (f : Frm) (w : World) => ∃ (S_ : PH), S1372.Le S_ ∧ Inv w S_ (Row (α := (List Int)) 34 (Value.slice z6 m6 k6) (x9.1) :: Row (α := (List Int)) 34 (Value.slice z7 m7 k7) (x9.2.1) :: Fr) ∧ f 1 = (Value.int .i64 (a1)) ∧ f 2 = (Value.slice z2 m2 k2) ∧ f 3 = (Value.pointer (some ⟨g1, 0, none⟩)) ∧ f 7 = (Value.slice z6 m6 k6) ∧ f 8 = (Value.slice z7 m7 k7) ∧ f 10 = (Value.int .i64 ((i16 : Int))) ∧ f 11 = (Value.int .i64 (i20 : Int))) hrun20 ⟨_, (PH.Le.refl _), ((I1532.pull 1).pull 1), e1719, e1720, e1721, e1722, e1723, e1724, rfl⟩ ?_ ?_
                · rintro i20 s23 f w o24 hlt20 hI1602 h147 hout20
                  obtain ⟨S1636, le1636, I1833, e2094, e2095, e2096, e2097, e2098, e2099, e2100⟩ := hI1602
                  refine wp_seq' ?_
                  refine wp_seq' ?_
                  refine wp_region' ?_
                  refine wl_op rfl (op_move (v := (Value.int .i64 ((i20 : Int)))) rfl e2100 ?_)
                  refine wl_op rfl (op_fieldAddr_t (v := (Value.pointer (some ⟨g1, 0, none⟩))) rfl fa24_0 e2096 ((p1.mono (((le2.trans le1295).trans le1372).trans le1636)).at_ I1833) ?_)
                  refine wl_op rfl (op_load_int (v := (fieldPtr (Value.pointer (some ⟨g1, 0, none⟩)) 0)) (e := a0.Sensors) rfl sh3 rfl (((p1.mono (((le2.trans le1295).trans le1372).trans le1636)).at_ I1833).fld Panel.fld0) ?_)
                  refine wl_op rfl (op_lss (a := (i20 : Int)) (b := a0.Sensors) rfl rfl rfl ?_)
                  refine wl_nil ?_
                  refine wp_cond_t (b := decide ((i20 : Int) < a0.Sensors)) rfl (cnt_t hx376 hlt20) ?_
                  refine wp_skip' ?_
                  refine wp_seq' ?_
                  refine wp_block' ?_
                  refine wp_seq' ?_
                  refine wp_region' ?_
                  refine wl_op rfl (op_move (v := (Value.int .i64 ((i16 : Int)))) rfl e2099 ?_)
                  refine wl_op rfl (op_move (v := (Value.slice z7 m7 k7)) rfl e2098 ?_)
                  refine wl_op rfl (op_move (v := (Value.int .i64 ((i16 : Int)))) rfl e2099 ?_)
                  obtain ⟨x377, hx377, h147⟩ := bnd h147
                  refine wl_op rfl (op_indexAddr_src (v := (Value.slice z7 m7 k7)) (i := (i16 : Int)) (e := x377) rfl Try.underlying53 sh34 rfl (Inv.rowSrc (I1833.nth 1 rfl)) rfl hx377 ?_)
                  refine wl_op rfl (op_load (v := (elemPtr (Value.slice z7 m7 k7) ((i16 : Int)) (Enc.sz (List Int)))) (e := x377) rfl sh34 rfl ((I1833.nth 1 rfl).rowElem hx377) (fun u474 hu474 => ?_))
                  obtain ⟨z356, m356, k356, e2101⟩ := rv_form hu474
                  subst e2101
                  refine wl_op rfl (op_move (v := (Value.int .i64 ((i20 : Int)))) rfl e2100 ?_)
                  obtain ⟨x378, hx378, h147⟩ := bnd h147
                  refine wl_op rfl (op_indexAddr_rv (v := (Value.slice z356 m356 k356)) (i := (i20 : Int)) (e := x378) rfl Try.underlying34 sh3 rfl hu474 rfl hx378 ?_)
                  refine wl_op rfl (op_load_int (v := (elemPtr (Value.slice z356 m356 k356) ((i20 : Int)) (Enc.sz Int))) (e := x378) rfl sh3 rfl (hu474.elem I1833.in_ hx378) ?_)
                  refine wl_op rfl (op_sub (a := (i16 : Int)) (b := x378) rfl rfl rfl ?_)
                  refine wl_op rfl (op_assign (v := (Value.int .i64 (w64 ((i16 : Int) - x378)))) rfl rfl ?_)
                  refine wl_nil ?_
                  obtain ⟨ov68, h150, h147⟩ := bnd h147
                  refine wp_cut (fun f w => ∃ v68, ov68 = Sum.inl v68 ∧ Inv w S1636 (Row (α := (List Int)) 34 (Value.slice z6 m6 k6) (x9.1) :: Row (α := (List Int)) 34 (Value.slice z7 m7 k7) (x9.2.1) :: Fr) ∧ f 1 = (Value.int .i64 (a1)) ∧ f 2 = (Value.slice z2 m2 k2) ∧ f 3 = (Value.pointer (some ⟨g1, 0, none⟩)) ∧ f 7 = (Value.slice z6 m6 k6) ∧ f 8 = (Value.slice z7 m7 k7) ∧ f 10 = (Value.int .i64 ((i16 : Int))) ∧ f 11 = (Value.int .i64 ((i20 : Int))) ∧ f 12 = (Value.int .i64 (w64 ((i16 : Int) - x378)))) ?_ ?_
                  · refine wp_seq' ?_
                    refine wp_region' ?_
                    refine wl_op rfl (op_move (v := (Value.int .i64 (w64 ((i16 : Int) - x378)))) rfl rfl ?_)
                    refine wl_op rfl (op_lss (a := w64 ((i16 : Int) - x378)) (b := (-1)) rfl rfl rfl ?_)
                    refine wl_op rfl (op_move (v := (Value.bool (decide ((w64 ((i16 : Int) - x378)) < (-1))))) rfl rfl ?_)
                    rcases ifs h150 with ⟨hc343, h150⟩ | ⟨hc343, h150⟩
                    · refine wl_skip (c := decide ((w64 ((i16 : Int) - x378)) < (-1))) rfl rfl rfl rfl hc343 rfl ?_
                      refine wl_skip (c := decide ((w64 ((i16 : Int) - x378)) < (-1))) rfl rfl rfl rfl hc343 rfl ?_
                      refine wl_skip (c := decide ((w64 ((i16 : Int) - x378)) < (-1))) rfl rfl rfl rfl hc343 rfl ?_
                      refine wl_op rfl (op_pick_t (c := decide ((w64 ((i16 : Int) - x378)) < (-1))) (a := (Value.bool (true))) rfl rfl hc343 rfl ?_)
                      refine wl_nil ?_
                      refine wp_cond_t (b := true) rfl rfl ?_
                      refine wp_seq' ?_
                      refine wp_region' ?_
                      refine wl_op rfl (op_assign (v := (Value.bool (false))) rfl rfl ?_)
                      refine wl_nil ?_
                      refine wp_ret' ?_
                      obtain rfl := Option.some.inj h150
                      have h151 := h147
                      obtain rfl := Option.some.inj h151
                      obtain rfl := (hout20 _ rfl)
                      have h148 := h118
                      obtain rfl := Option.some.inj h148
                      obtain rfl := (hout16 _ rfl)
                      have h119 := h
                      obtain rfl := Option.some.inj h119
                      exact ⟨(Value.bool (false)), (res1 rfl rfl), _, [], ((((le1.trans le2).trans le1295).trans le1372).trans le1636), ((I1833).drop).drop, rfl, rfl⟩
                    · refine wl_taken (c := decide ((w64 ((i16 : Int) - x378)) < (-1))) rfl rfl rfl rfl hc343 (op_move (v := (Value.int .i64 (w64 ((i16 : Int) - x378)))) rfl rfl ?_)
                      refine wl_taken (c := decide ((w64 ((i16 : Int) - x378)) < (-1))) rfl rfl rfl rfl hc343 (op_move (v := (Value.int .i64 ((i16 : Int)))) rfl e2099 ?_)
                      refine wl_taken (c := decide ((w64 ((i16 : Int) - x378)) < (-1))) rfl rfl rfl rfl hc343 (op_gtr (a := w64 ((i16 : Int) - x378)) (b := (i16 : Int)) rfl rfl rfl ?_)
                      refine wl_op rfl (op_pick_f (c := decide ((w64 ((i16 : Int) - x378)) < (-1))) (b := (Value.bool (decide ((i16 : Int) < (w64 ((i16 : Int) - x378)))))) rfl rfl hc343 rfl ?_)
                      refine wl_nil ?_
                      rcases ifs h150 with ⟨hc344, h150⟩ | ⟨hc344, h150⟩
                      · refine wp_cond_t (b := decide ((i16 : Int) < (w64 ((i16 : Int) - x378)))) rfl hc344 ?_
                        refine wp_seq' ?_
                        refine wp_region' ?_
                        refine wl_op rfl (op_assign (v := (Value.bool (false))) rfl rfl ?_)
                        refine wl_nil ?_
                        refine wp_ret' ?_
                        obtain rfl := Option.some.inj h150
                        have h151 := h147
                        obtain rfl := Option.some.inj h151
                        obtain rfl := (hout20 _ rfl)
                        have h148 := h118
                        obtain rfl := Option.some.inj h148
                        obtain rfl := (hout16 _ rfl)
                        have h119 := h
                        obtain rfl := Option.some.inj h119
                        exact ⟨(Value.bool (false)), (res1 rfl rfl), _, [], ((((le1.trans le2).trans le1295).trans le1372).trans le1636), ((I1833).drop).drop, rfl, rfl⟩
                      · refine wp_cond_f (b := decide ((i16 : Int) < (w64 ((i16 : Int) - x378)))) rfl hc344 ?_
                        refine wp_skip' ?_
                        obtain rfl := Option.some.inj h150
                        exact ⟨_, rfl, ((I1833.pull 1).pull 1), e2094, e2095, e2096, e2097, e2098, e2099, e2100, rfl⟩
                  · rintro f w ⟨v68, rfl, I1834, e2102, e2103, e2104, e2105, e2106, e2107, e2108, e2109⟩
                    have h147 := onL_inl h147
                    refine wp_seq' ?_
                    refine wp_region' ?_
                    refine wl_op rfl (op_assign (v := (Value.int .i64 (0))) rfl rfl ?_)
                    refine wl_nil ?_
                    obtain ⟨v70, h153, h147⟩ := bnd h147
                    refine wp_cut (fun f w => ∃ (S_ : PH), S1636.Le S_ ∧ Inv w S_ (Row (α := (List Int)) 34 (Value.slice z6 m6 k6) (x9.1) :: Row (α := (List Int)) 34 (Value.slice z7 m7 k7) (x9.2.1) :: Fr) ∧ f 1 = (Value.int .i64 (a1)) ∧ f 2 = (Value.slice z2 m2 k2) ∧ f 3 = (Value.pointer (some ⟨g1, 0, none⟩)) ∧ f 7 = (Value.slice z6 m6 k6) ∧ f 8 = (Value.slice z7 m7 k7) ∧ f 10 = (Value.int .i64 ((i16 : Int))) ∧ f 11 = (Value.int .i64 ((i20 : Int))) ∧ f 13 = (Value.int .i64 (v70))) ?_ ?_
                    · refine wp_seq' ?_
                      refine wp_region' ?_
                      refine wl_op rfl (op_move (v := (Value.int .i64 (w64 ((i16 : Int) - x378)))) rfl e2109 ?_)
                      refine wl_op rfl (op_geq (a := w64 ((i16 : Int) - x378)) (b := 0) rfl rfl rfl ?_)
                      refine wl_nil ?_
                      rcases ifs h153 with ⟨hc346, h153⟩ | ⟨hc346, h153⟩
                      · refine wp_cond_t (b := decide (0 ≤ (w64 ((i16 : Int) - x378)))) rfl hc346 ?_
                        refine wp_region' ?_
                        refine wl_op rfl (op_load (v := (Value.pointer (some ⟨g1, 0, none⟩))) (e := a0) rfl sh24 e2104 ((p1.mono (((le2.trans le1295).trans le1372).trans le1636)).at_ I1834) (fun u476 hu476 => ?_))
                        obtain ⟨c36, e2112, r210⟩ := Panel.inv hu476
                        subst e2112
                        obtain ⟨z359, m359, k359, e2113⟩ := rv_form r210
                        subst e2113
                        refine wl_op rfl (op_move (v := (Value.int .i64 (w64 ((i16 : Int) - x378)))) rfl e2109 ?_)
                        refine wl_op rfl (op_move (v := (Value.slice z2 m2 k2)) rfl e2103 ?_)
                        obtain ⟨x381, hx381, h153⟩ := bnd h153
                        refine wl_op rfl (op_call (vs := [(Value.agg #[(Value.int .i64 (a0.Sensors)), (Value.slice z359 m359 k359), (Value.int .i64 (a0.Stale)), (Value.int .i64 (a0.Limit))]), (Value.int .i64 (w64 ((i16 : Int) - x378))), (Value.slice z2 m2 k2)]) rfl ca24 rfl (args3 rfl rfl rfl) (F24_ok I1834 (Panel.rv (s := a0) r210) (h2_.mono ((((le1.trans le2).trans le1295).trans le1372).trans le1636)) hx381) (fun v71 w1683 S1638 O33 le1638 I1836 hv33 => ?_))
                        obtain ⟨z360, m360, k360, rfl, rfl⟩ := hv33
                        refine wl_op rfl (op_move (v := (Value.int .i64 ((i20 : Int)))) rfl e2108 ?_)
                        obtain ⟨x382, hx382, h153⟩ := bnd h153
                        refine wl_op rfl (op_indexAddr_src (v := (Value.slice z360 m360 k360)) (i := (i20 : Int)) (e := x382) rfl Try.underlying34 sh3 rfl (Inv.rowSrc (I1836.nth 0 rfl)) rfl hx382 ?_)
                        refine wl_op rfl (op_load_int (v := (elemPtr (Value.slice z360 m360 k360) ((i20 : Int)) (Enc.sz Int))) (e := x382) rfl sh3 rfl ((I1836.nth 0 rfl).rowElem hx382) ?_)
                        refine wl_op rfl (op_assign (v := (Value.int .i64 (x382))) rfl rfl ?_)
                        refine wl_nil ?_
                        obtain rfl := Option.some.inj h153
                        exact ⟨_, le1638, (((I1836).drop.pull 1).pull 1), e2102, e2103, e2104, e2105, e2106, e2107, e2108, rfl⟩
                      · refine wp_cond_f (b := decide (0 ≤ (w64 ((i16 : Int) - x378)))) rfl hc346 ?_
                        refine wp_skip' ?_
                        obtain rfl := Option.some.inj h153
                        exact ⟨_, (PH.Le.refl _), ((I1834.pull 1).pull 1), e2102, e2103, e2104, e2105, e2106, e2107, e2108, rfl⟩
                    · rintro f w ⟨S1639, le1639, I1837, e2114, e2115, e2116, e2117, e2118, e2119, e2120, e2121⟩
                      refine wp_seq' ?_
                      refine wp_region' ?_
                      refine wl_op rfl (op_assign (v := (Value.bool (false))) rfl rfl ?_)
                      refine wl_nil ?_
                      refine wp_seq' ?_
                      refine wp_seq' ?_
                      refine wp_region' ?_
                      refine wl_op rfl (op_assign (v := (Value.int .i64 (0))) rfl rfl ?_)
                      refine wl_nil ?_
                      have hk16 : a2.length ≤ 9223372036854775807 := (rv_len h2_)
                      obtain ⟨out21, hrun21, h147⟩ := bnd h147
                      refine wp_cutN (fun f w => Inv w S1639 (Row (α := (List Int)) 34 (Value.slice z6 m6 k6) (x9.1) :: Row (α := (List Int)) 34 (Value.slice z7 m7 k7) (x9.2.1) :: Fr) ∧ f 1 = (Value.int .i64 (a1)) ∧ f 2 = (Value.slice z2 m2 k2) ∧ f 3 = (Value.pointer (some ⟨g1, 0, none⟩)) ∧ f 7 = (Value.slice z6 m6 k6) ∧ f 8 = (Value.slice z7 m7 k7) ∧ f 10 = (Value.int .i64 ((i16 : Int))) ∧ f 11 = (Value.int .i64 ((i20 : Int))) ∧ f 13 = (Value.int .i64 (v70)) ∧ f 14 = (Value.bool (out21))) ?_ ?_
                      · refine wp_block' ?_
                        refine wp_forS (I := fun (i21 : Nat) (s24 : (Bool)) (f : Frm) (w : World) => Inv w S1639 (Row (α := (List Int)) 34 (Value.slice z6 m6 k6) (x9.1) :: Row (α := (List Int)) 34 (Value.slice z7 m7 k7) (x9.2.1) :: Fr) ∧ f 1 = (Value.int .i64 (a1)) ∧ f 2 = (Value.slice z2 m2 k2) ∧ f 3 = (Value.pointer (some ⟨g1, 0, none⟩)) ∧ f 7 = (Value.slice z6 m6 k6) ∧ f 8 = (Value.slice z7 m7 k7) ∧ f 10 = (Value.int .i64 ((i16 : Int))) ∧ f 11 = (Value.int .i64 ((i20 : Int))) ∧ f 13 = (Value.int .i64 (v70)) ∧ f 14 = (Value.bool (s24)) ∧ f 15 = (Value.int .i64 (i21 : Int))) hrun21 ⟨((I1837.pull 1).pull 1), e2114, e2115, e2116, e2117, e2118, e2119, e2120, e2121, rfl, rfl⟩ ?_ ?_
                        · rintro i21 s24 f w o26 hlt21 hI1603 h155
                          obtain ⟨I1841, e2152, e2153, e2154, e2155, e2156, e2157, e2158, e2159, e2160, e2161⟩ := hI1603
                          refine wp_seq' ?_
                          refine wp_seq' ?_
                          refine wp_region' ?_
                          refine wl_op rfl (op_move (v := (Value.int .i64 ((i21 : Int)))) rfl e2161 ?_)
                          refine wl_op rfl (op_move (v := (Value.slice z2 m2 k2)) rfl e2153 ?_)
                          refine wl_op rfl (op_len_rv rfl Try.underlying25 rfl (h2_.mono (((((le1.trans le2).trans le1295).trans le1372).trans le1636).trans le1639)) ?_)
                          refine wl_op rfl (op_lss (a := (i21 : Int)) (b := (a2.length : Int)) rfl rfl rfl ?_)
                          refine wl_nil ?_
                          refine wp_cond_t (b := decide ((i21 : Int) < (a2.length : Int))) rfl (len_t hlt21) ?_
                          refine wp_skip' ?_
                          refine wp_seq' ?_
                          refine wp_block' ?_
                          refine wp_region' ?_
                          refine wl_op rfl (op_move (v := (Value.bool (s24))) rfl e2160 ?_)
                          refine wl_op rfl (op_move (v := (Value.bool (s24))) rfl rfl ?_)
                          rcases ifs h155 with ⟨hc355, h155⟩ | ⟨hc355, h155⟩
                          · refine wl_skip (c := s24) rfl rfl rfl rfl hc355 rfl ?_
                            refine wl_skip (c := s24) rfl rfl rfl rfl hc355 rfl ?_
                            refine wl_skip (c := s24) rfl rfl rfl rfl hc355 rfl ?_
                            refine wl_skip (c := s24) rfl rfl rfl rfl hc355 rfl ?_
                            refine wl_skip (c := s24) rfl rfl rfl rfl hc355 rfl ?_
                            refine wl_skip (c := s24) rfl rfl rfl rfl hc355 rfl ?_
                            refine wl_skip (c := s24) rfl rfl rfl rfl hc355 rfl ?_
                            refine wl_skip_u rfl rfl rfl rfl rfl ?_
                            refine wl_skip_u rfl rfl rfl rfl rfl ?_
                            refine wl_skip_u rfl rfl rfl rfl rfl ?_
                            refine wl_skip_u rfl rfl rfl rfl rfl ?_
                            refine wl_skip_u rfl rfl rfl rfl rfl ?_
                            refine wl_skip_u rfl rfl rfl rfl rfl ?_
                            refine wl_skip_u rfl rfl rfl rfl rfl ?_
                            refine wl_skip (c := s24) rfl rfl rfl rfl hc355 rfl ?_
                            refine wl_skip (c := s24) rfl rfl rfl rfl hc355 rfl ?_
                            refine wl_skip_u rfl rfl rfl rfl rfl ?_
                            refine wl_skip_u rfl rfl rfl rfl rfl ?_
                            refine wl_skip_u rfl rfl rfl rfl rfl ?_
                            refine wl_skip_u rfl rfl rfl rfl rfl ?_
                            refine wl_skip_u rfl rfl rfl rfl rfl ?_
                            refine wl_skip_u rfl rfl rfl rfl rfl ?_
                            refine wl_skip_u rfl rfl rfl rfl rfl ?_
                            refine wl_skip (c := s24) rfl rfl rfl rfl hc355 rfl ?_
                            refine wl_op rfl (op_pick_t (c := s24) (a := (Value.bool (true))) rfl rfl hc355 rfl ?_)
                            refine wl_op rfl (op_assign (v := (Value.bool (true))) rfl rfl ?_)
                            refine wl_nil ?_
                            refine wp_region' ?_
                            refine wl_op rfl (op_move (v := (Value.int .i64 ((i21 : Int)))) rfl e2161 ?_)
                            refine wl_op rfl (op_add (a := (i21 : Int)) (b := 1) rfl rfl rfl ?_)
                            refine wl_op rfl (op_assign (v := (Value.int .i64 (w64 ((i21 : Int) + 1)))) rfl rfl ?_)
                            refine wl_nil ?_
                            obtain rfl := Option.some.inj h155
                            exact ⟨((I1841.pull 1).pull 1), e2152, e2153, e2154, e2155, e2156, e2157, e2158, e2159, rfl, (idx_next hlt21 hk16)⟩
                          · refine wl_taken (c := s24) rfl rfl rfl rfl hc355 (op_move (v := (Value.slice z2 m2 k2)) rfl e2153 ?_)
                            refine wl_taken (c := s24) rfl rfl rfl rfl hc355 (op_move (v := (Value.int .i64 ((i21 : Int)))) rfl e2161 ?_)
                            obtain ⟨x392, hx392, h155⟩ := bnd h155
                            refine wl_taken (c := s24) rfl rfl rfl rfl hc355 (op_indexAddr_rv (v := (Value.slice z2 m2 k2)) (i := (i21 : Int)) (e := x392) rfl Try.underlying25 sh46 rfl (h2_.mono (((((le1.trans le2).trans le1295).trans le1372).trans le1636).trans le1639)) rfl hx392 ?_)
                            refine wl_taken (c := s24) rfl rfl rfl rfl hc355 (op_fieldAddr_t (v := (elemPtr (Value.slice z2 m2 k2) ((i21 : Int)) (Enc.sz Signal))) rfl fa46_1 rfl ((h2_.mono (((((le1.trans le2).trans le1295).trans le1372).trans le1636).trans le1639)).elem I1841.in_ hx392) ?_)
                            refine wl_taken (c := s24) rfl rfl rfl rfl hc355 (op_load_int (v := (fieldPtr (elemPtr (Value.slice z2 m2 k2) ((i21 : Int)) (Enc.sz Signal)) 1)) (e := x392.Kind) rfl sh3 rfl (((h2_.mono (((((le1.trans le2).trans le1295).trans le1372).trans le1636).trans le1639)).elem I1841.in_ hx392).fld Signal.fld1) ?_)
                            refine wl_taken (c := s24) rfl rfl rfl rfl hc355 (op_eql (a := x392.Kind) (b := 2) rfl rfl rfl ?_)
                            refine wl_taken (c := s24) rfl rfl rfl rfl hc355 (op_move (v := (Value.bool (x392.Kind == 2))) rfl rfl ?_)
                            rcases ifs h155 with ⟨hc356, h155⟩ | ⟨hc356, h155⟩
                            · refine wl_taken (c := x392.Kind == 2) rfl rfl rfl rfl hc356 (op_move (v := (Value.slice z2 m2 k2)) rfl e2153 ?_)
                              refine wl_taken (c := x392.Kind == 2) rfl rfl rfl rfl hc356 (op_move (v := (Value.int .i64 ((i21 : Int)))) rfl e2161 ?_)
                              obtain ⟨x393, hx393, h155⟩ := bnd h155
                              refine wl_taken (c := x392.Kind == 2) rfl rfl rfl rfl hc356 (op_indexAddr_rv (v := (Value.slice z2 m2 k2)) (i := (i21 : Int)) (e := x393) rfl Try.underlying25 sh46 rfl (h2_.mono (((((le1.trans le2).trans le1295).trans le1372).trans le1636).trans le1639)) rfl hx393 ?_)
                              refine wl_taken (c := x392.Kind == 2) rfl rfl rfl rfl hc356 (op_fieldAddr_t (v := (elemPtr (Value.slice z2 m2 k2) ((i21 : Int)) (Enc.sz Signal))) rfl fa46_0 rfl ((h2_.mono (((((le1.trans le2).trans le1295).trans le1372).trans le1636).trans le1639)).elem I1841.in_ hx393) ?_)
                              refine wl_taken (c := x392.Kind == 2) rfl rfl rfl rfl hc356 (op_load_int (v := (fieldPtr (elemPtr (Value.slice z2 m2 k2) ((i21 : Int)) (Enc.sz Signal)) 0)) (e := x393.At) rfl sh3 rfl (((h2_.mono (((((le1.trans le2).trans le1295).trans le1372).trans le1636).trans le1639)).elem I1841.in_ hx393).fld Signal.fld0) ?_)
                              refine wl_taken (c := x392.Kind == 2) rfl rfl rfl rfl hc356 (op_move (v := (Value.int .i64 ((i16 : Int)))) rfl e2157 ?_)
                              refine wl_taken (c := x392.Kind == 2) rfl rfl rfl rfl hc356 (op_eql (a := x393.At) (b := (i16 : Int)) rfl rfl rfl ?_)
                              refine wl_taken (c := s24) rfl rfl rfl rfl hc355 (op_pick_t (c := x392.Kind == 2) (a := (Value.bool (x393.At == (i16 : Int)))) rfl rfl hc356 rfl ?_)
                              refine wl_taken (c := s24) rfl rfl rfl rfl hc355 (op_move (v := (Value.bool (x393.At == (i16 : Int)))) rfl rfl ?_)
                              rcases ifs h155 with ⟨hc357, h155⟩ | ⟨hc357, h155⟩
                              · refine wl_taken (c := x393.At == (i16 : Int)) rfl rfl rfl rfl hc357 (op_move (v := (Value.slice z2 m2 k2)) rfl e2153 ?_)
                                refine wl_taken (c := x393.At == (i16 : Int)) rfl rfl rfl rfl hc357 (op_move (v := (Value.int .i64 ((i21 : Int)))) rfl e2161 ?_)
                                obtain ⟨x394, hx394, h155⟩ := bnd h155
                                refine wl_taken (c := x393.At == (i16 : Int)) rfl rfl rfl rfl hc357 (op_indexAddr_rv (v := (Value.slice z2 m2 k2)) (i := (i21 : Int)) (e := x394) rfl Try.underlying25 sh46 rfl (h2_.mono (((((le1.trans le2).trans le1295).trans le1372).trans le1636).trans le1639)) rfl hx394 ?_)
                                refine wl_taken (c := x393.At == (i16 : Int)) rfl rfl rfl rfl hc357 (op_fieldAddr_t (v := (elemPtr (Value.slice z2 m2 k2) ((i21 : Int)) (Enc.sz Signal))) rfl fa46_2 rfl ((h2_.mono (((((le1.trans le2).trans le1295).trans le1372).trans le1636).trans le1639)).elem I1841.in_ hx394) ?_)
                                refine wl_taken (c := x393.At == (i16 : Int)) rfl rfl rfl rfl hc357 (op_load_int (v := (fieldPtr (elemPtr (Value.slice z2 m2 k2) ((i21 : Int)) (Enc.sz Signal)) 2)) (e := x394.Number) rfl sh3 rfl (((h2_.mono (((((le1.trans le2).trans le1295).trans le1372).trans le1636).trans le1639)).elem I1841.in_ hx394).fld Signal.fld2) ?_)
                                refine wl_taken (c := x393.At == (i16 : Int)) rfl rfl rfl rfl hc357 (op_move (v := (Value.int .i64 ((i20 : Int)))) rfl e2158 ?_)
                                refine wl_taken (c := x393.At == (i16 : Int)) rfl rfl rfl rfl hc357 (op_eql (a := x394.Number) (b := (i20 : Int)) rfl rfl rfl ?_)
                                refine wl_taken (c := s24) rfl rfl rfl rfl hc355 (op_pick_t (c := x393.At == (i16 : Int)) (a := (Value.bool (x394.Number == (i20 : Int)))) rfl rfl hc357 rfl ?_)
                                refine wl_op rfl (op_pick_f (c := s24) (b := (Value.bool (x394.Number == (i20 : Int)))) rfl rfl hc355 rfl ?_)
                                refine wl_op rfl (op_assign (v := (Value.bool (x394.Number == (i20 : Int)))) rfl rfl ?_)
                                refine wl_nil ?_
                                refine wp_region' ?_
                                refine wl_op rfl (op_move (v := (Value.int .i64 ((i21 : Int)))) rfl e2161 ?_)
                                refine wl_op rfl (op_add (a := (i21 : Int)) (b := 1) rfl rfl rfl ?_)
                                refine wl_op rfl (op_assign (v := (Value.int .i64 (w64 ((i21 : Int) + 1)))) rfl rfl ?_)
                                refine wl_nil ?_
                                obtain rfl := Option.some.inj h155
                                exact ⟨((I1841.pull 1).pull 1), e2152, e2153, e2154, e2155, e2156, e2157, e2158, e2159, rfl, (idx_next hlt21 hk16)⟩
                              · refine wl_skip (c := x393.At == (i16 : Int)) rfl rfl rfl rfl hc357 rfl ?_
                                refine wl_skip (c := x393.At == (i16 : Int)) rfl rfl rfl rfl hc357 rfl ?_
                                refine wl_skip (c := x393.At == (i16 : Int)) rfl rfl rfl rfl hc357 rfl ?_
                                refine wl_skip (c := x393.At == (i16 : Int)) rfl rfl rfl rfl hc357 rfl ?_
                                refine wl_skip (c := x393.At == (i16 : Int)) rfl rfl rfl rfl hc357 rfl ?_
                                refine wl_skip (c := x393.At == (i16 : Int)) rfl rfl rfl rfl hc357 rfl ?_
                                refine wl_skip (c := x393.At == (i16 : Int)) rfl rfl rfl rfl hc357 rfl ?_
                                refine wl_taken (c := s24) rfl rfl rfl rfl hc355 (op_pick_f (c := x393.At == (i16 : Int)) (b := (Value.bool (false))) rfl rfl hc357 rfl ?_)
                                refine wl_op rfl (op_pick_f (c := s24) (b := (Value.bool (false))) rfl rfl hc355 rfl ?_)
                                refine wl_op rfl (op_assign (v := (Value.bool (false))) rfl rfl ?_)
                                refine wl_nil ?_
                                refine wp_region' ?_
                                refine wl_op rfl (op_move (v := (Value.int .i64 ((i21 : Int)))) rfl e2161 ?_)
                                refine wl_op rfl (op_add (a := (i21 : Int)) (b := 1) rfl rfl rfl ?_)
                                refine wl_op rfl (op_assign (v := (Value.int .i64 (w64 ((i21 : Int) + 1)))) rfl rfl ?_)
                                refine wl_nil ?_
                                obtain rfl := Option.some.inj h155
                                exact ⟨((I1841.pull 1).pull 1), e2152, e2153, e2154, e2155, e2156, e2157, e2158, e2159, rfl, (idx_next hlt21 hk16)⟩
                            · refine wl_skip (c := x392.Kind == 2) rfl rfl rfl rfl hc356 rfl ?_
                              refine wl_skip (c := x392.Kind == 2) rfl rfl rfl rfl hc356 rfl ?_
                              refine wl_skip (c := x392.Kind == 2) rfl rfl rfl rfl hc356 rfl ?_
                              refine wl_skip (c := x392.Kind == 2) rfl rfl rfl rfl hc356 rfl ?_
                              refine wl_skip (c := x392.Kind == 2) rfl rfl rfl rfl hc356 rfl ?_
                              refine wl_skip (c := x392.Kind == 2) rfl rfl rfl rfl hc356 rfl ?_
                              refine wl_skip (c := x392.Kind == 2) rfl rfl rfl rfl hc356 rfl ?_
                              refine wl_taken (c := s24) rfl rfl rfl rfl hc355 (op_pick_f (c := x392.Kind == 2) (b := (Value.bool (false))) rfl rfl hc356 rfl ?_)
                              refine wl_taken (c := s24) rfl rfl rfl rfl hc355 (op_move (v := (Value.bool (false))) rfl rfl ?_)
                              refine wl_skip (c := false) rfl rfl rfl rfl rfl rfl ?_
                              refine wl_skip (c := false) rfl rfl rfl rfl rfl rfl ?_
                              refine wl_skip (c := false) rfl rfl rfl rfl rfl rfl ?_
                              refine wl_skip (c := false) rfl rfl rfl rfl rfl rfl ?_
                              refine wl_skip (c := false) rfl rfl rfl rfl rfl rfl ?_
                              refine wl_skip (c := false) rfl rfl rfl rfl rfl rfl ?_
                              refine wl_skip (c := false) rfl rfl rfl rfl rfl rfl ?_
                              refine wl_taken (c := s24) rfl rfl rfl rfl hc355 (op_pick_f (c := false) (b := (Value.bool (false))) rfl rfl rfl rfl ?_)
                              refine wl_op rfl (op_pick_f (c := s24) (b := (Value.bool (false))) rfl rfl hc355 rfl ?_)
                              refine wl_op rfl (op_assign (v := (Value.bool (false))) rfl rfl ?_)
                              refine wl_nil ?_
                              refine wp_region' ?_
                              refine wl_op rfl (op_move (v := (Value.int .i64 ((i21 : Int)))) rfl e2161 ?_)
                              refine wl_op rfl (op_add (a := (i21 : Int)) (b := 1) rfl rfl rfl ?_)
                              refine wl_op rfl (op_assign (v := (Value.int .i64 (w64 ((i21 : Int) + 1)))) rfl rfl ?_)
                              refine wl_nil ?_
                              obtain rfl := Option.some.inj h155
                              exact ⟨((I1841.pull 1).pull 1), e2152, e2153, e2154, e2155, e2156, e2157, e2158, e2159, rfl, (idx_next hlt21 hk16)⟩
                        · rintro f w hI1604
                          obtain ⟨I1842, e2162, e2163, e2164, e2165, e2166, e2167, e2168, e2169, e2170, e2171⟩ := hI1604
                          refine wp_seq' ?_
                          refine wp_seq' ?_
                          refine wp_region' ?_
                          refine wl_op rfl (op_move (v := (Value.int .i64 ((a2.length : Int)))) rfl e2171 ?_)
                          refine wl_op rfl (op_move (v := (Value.slice z2 m2 k2)) rfl e2163 ?_)
                          refine wl_op rfl (op_len_rv rfl Try.underlying25 rfl (h2_.mono (((((le1.trans le2).trans le1295).trans le1372).trans le1636).trans le1639)) ?_)
                          refine wl_op rfl (op_lss (a := (a2.length : Int)) (b := (a2.length : Int)) rfl rfl rfl ?_)
                          refine wl_nil ?_
                          refine wp_cond_f (b := decide ((a2.length : Int) < (a2.length : Int))) rfl (len_f _) ?_
                          refine wp_exit' ?_
                          exact ⟨((I1842.pull 1).pull 1), e2162, e2163, e2164, e2165, e2166, e2167, e2168, e2169, e2170⟩
                      · rintro f w ⟨I1843, e2172, e2173, e2174, e2175, e2176, e2177, e2178, e2179, e2180⟩
                        refine wp_seq' ?_
                        obtain ⟨x395, hx395, h147⟩ := bnd h147
                        obtain ⟨x396, hx396, h147⟩ := bnd h147
                        rcases ifs h147 with ⟨hc358, h147⟩ | ⟨hc358, h147⟩
                        · refine wp_draw (sps := [⟨some 134, [], [0], fun vs_ T_ => fr0 vs_ 0 = (Value.slice z6 m6 k6), [], [], [], fun _ h_ => h_⟩, ⟨some 135, [], [1], fun vs_ T_ => fr0 vs_ 0 = (Value.int .i64 ((i16 : Int))), [], [], [], fun _ h_ => h_⟩, ⟨some 136, [0, 1], [2], fun vs_ T_ => fr0 vs_ 0 = (elemPtr (Value.slice z6 m6 k6) ((i16 : Int)) (Enc.sz (List Int))), [0], [], [], fun _ h_ => h_⟩, ⟨some 137, [0, 1, 2], [3], fun vs_ T_ => RV T_ (fr0 vs_ 0) x395, [0], [], [], fun hle_ h_ => h_.mono hle_⟩, ⟨some 138, [], [4], fun vs_ T_ => fr0 vs_ 0 = (Value.int .i64 ((i20 : Int))), [], [], [], fun _ h_ => h_⟩, ⟨some 139, [0, 1, 2, 3, 4], [5, 3], fun vs_ T_ => fr0 vs_ 0 = (elemPtr (fr0 vs_ 1) ((i20 : Int)) (Enc.sz Int)), [], [], [], fun _ h_ => h_⟩, ⟨some 140, [0, 1, 2, 3, 4, 5], [6], fun vs_ T_ => fr0 vs_ 0 = (Value.int .i64 (x396)), [], [], [], fun _ h_ => h_⟩, ⟨some 141, [], [7], fun vs_ T_ => fr0 vs_ 0 = (Value.int .i64 (v70)), [], [], [], fun _ h_ => h_⟩, ⟨some 142, [0, 1, 2, 3, 4, 5, 6, 7], [8], fun vs_ T_ => fr0 vs_ 0 = (Value.bool (x396 != v70)), [], [], [], fun _ h_ => h_⟩, ⟨some 143, [0, 1, 2, 3, 4, 5, 6, 7, 8], [9], fun vs_ T_ => fr0 vs_ 0 = (Value.bool (x396 != v70)), [], [], [], fun _ h_ => h_⟩, ⟨some 144, [0, 1, 2, 3, 4, 5, 6, 7, 8, 9], [10], fun vs_ T_ => fr0 vs_ 0 = undef, [], [], [], fun _ h_ => h_⟩, ⟨some 145, [0, 1, 2, 3, 4, 5, 6, 7, 8, 9], [11], fun vs_ T_ => fr0 vs_ 0 = undef, [], [], [], fun _ h_ => h_⟩, ⟨some 146, [0, 1, 2, 3, 4, 5, 6, 7, 8, 9, 10, 11], [12], fun vs_ T_ => fr0 vs_ 0 = undef, [], [], [], fun _ h_ => h_⟩, ⟨some 147, [0, 1, 2, 3, 4, 5, 6, 7, 8, 9, 10, 11, 12], [13], fun vs_ T_ => fr0 vs_ 0 = undef, [], [], [], fun _ h_ => h_⟩, ⟨some 148, [0, 1, 2, 3, 4, 5, 6, 7, 8, 9], [14], fun vs_ T_ => fr0 vs_ 0 = undef, [], [], [], fun _ h_ => h_⟩, ⟨some 149, [0, 1, 2, 3, 4, 5, 6, 7, 8, 9, 10, 11, 12, 13, 14], [15], fun vs_ T_ => fr0 vs_ 0 = undef, [], [], [], fun _ h_ => h_⟩, ⟨some 150, [0, 1, 2, 3, 4, 5, 6, 7, 8, 9, 10, 11, 12, 13, 14, 15], [16], fun vs_ T_ => fr0 vs_ 0 = undef, [], [], [], fun _ h_ => h_⟩, ⟨some 151, [0, 1, 2, 3, 4, 5, 6, 7, 8, 9, 10, 11, 12, 13, 14, 15, 16], [17], fun vs_ T_ => fr0 vs_ 0 = undef, [], [], [], fun _ h_ => h_⟩, ⟨some 152, [0, 1, 2, 3, 4, 5, 6, 7, 8, 9], [18], fun vs_ T_ => fr0 vs_ 0 = undef, [], [], [], fun _ h_ => h_⟩, ⟨some 153, [0, 1, 2, 3, 4, 5, 6, 7, 8, 9], [19], fun vs_ T_ => fr0 vs_ 0 = undef, [], [], [], fun _ h_ => h_⟩, ⟨some 154, [0, 1, 2, 3, 4, 5, 6, 7, 8, 9, 18, 19], [20], fun vs_ T_ => fr0 vs_ 0 = undef, [], [], [], fun _ h_ => h_⟩, ⟨some 155, [0, 1, 2, 3, 4, 5, 6, 7, 8, 9, 18, 19, 20], [21], fun vs_ T_ => fr0 vs_ 0 = undef, [], [], [], fun _ h_ => h_⟩, ⟨some 156, [0, 1, 2, 3, 4, 5, 6, 7, 8, 9, 18, 19, 20, 21], [22], fun vs_ T_ => fr0 vs_ 0 = undef, [], [], [], fun _ h_ => h_⟩, ⟨some 157, [0, 1, 2, 3, 4, 5, 6, 7, 8, 9, 18, 19, 20, 21, 22], [23], fun vs_ T_ => fr0 vs_ 0 = undef, [], [], [], fun _ h_ => h_⟩, ⟨some 158, [0, 1, 2, 3, 4, 5, 6, 7, 8, 9, 18, 19, 20, 21, 22, 23], [24], fun vs_ T_ => fr0 vs_ 0 = undef, [], [], [], fun _ h_ => h_⟩, ⟨some 159, [0, 1, 2, 3, 4, 5, 6, 7, 8, 9, 10, 11, 12, 13, 14, 15, 16, 17, 18, 19, 20, 21, 22, 23, 24], [25], fun vs_ T_ => fr0 vs_ 0 = undef, [], [], [], fun _ h_ => h_⟩, ⟨some 160, [0, 1, 2, 3, 4, 5, 6, 7, 8, 9, 10, 11, 12, 13, 14, 15, 16, 17, 18, 19, 20, 21, 22, 23, 24, 25], [26], fun vs_ T_ => fr0 vs_ 0 = (Value.bool (true)), [], [], [], fun _ h_ => h_⟩]) (tks := [⟨none, none, [], fun vs_ => Row (α := (List Int)) 34 (Value.slice z6 m6 k6) (x9.1)⟩]) (O := Row (α := (List Int)) 34 (Value.slice z7 m7 k7) (x9.2.1) :: Fr) rfl (by kernel_rfl) I1843 ⟨?_, ?_, ?_, ?_, ?_, ?_, ?_, ?_, ?_, ?_, ?_, ?_, ?_, ?_, ?_, ?_, ?_, ?_, ?_, ?_, ?_, ?_, ?_, ?_, ?_, ?_, ?_, trivial⟩ ?_
                          · intro vs1565 f w1684 S1640 X1504 le1640 hA1504 hK1565 hI1605
                            have I1844 : Inv w1684 S1640 (X1504) := hI1605
                            refine opg_plain rfl rfl (op_move (v := (Value.slice z6 m6 k6)) rfl ((hK1565 7 (keep_of rfl)).trans e2175) ?_)
                            refine ⟨_, _, rfl, PH.Le.refl _, ?_, ?_⟩
                            · exact rfl
                            · exact I1844
                          · intro vs1566 f w1685 S1641 X1505 le1641 hA1505 hK1566 hI1606
                            have I1845 : Inv w1685 S1641 (X1505) := hI1606
                            refine opg_plain rfl rfl (op_move (v := (Value.int .i64 ((i16 : Int)))) rfl ((hK1566 10 (keep_of rfl)).trans e2177) ?_)
                            refine ⟨_, _, rfl, PH.Le.refl _, ?_, ?_⟩
                            · exact rfl
                            · exact I1845
                          · intro vs1567 f w1686 S1642 X1506 le1642 hA1506 hK1567 hI1607
                            have I1846 : Inv w1686 S1642 (Row (α := (List Int)) 34 (Value.slice z6 m6 k6) (x9.1) :: X1506) := hI1607
                            have q2502 : f 134 = (Value.slice z6 m6 k6) := vt (hA1506.at_ 0 rfl _ rfl) rfl
                            have q2503 : f 135 = (Value.int .i64 ((i16 : Int))) := vt (hA1506.at_ 1 rfl _ rfl) rfl
                            refine opg_plain rfl rfl (op_indexAddr_src (v := (Value.slice z6 m6 k6)) (i := (i16 : Int)) (e := x395) rfl Try.underlying53 sh34 q2502 (Inv.rowSrc (I1846.nth 0 rfl)) q2503 hx395 ?_)
                            refine ⟨_, _, rfl, PH.Le.refl _, ?_, ?_⟩
                            · exact rfl
                            · exact I1846
                          · intro vs1568 f w1687 S1643 X1507 le1643 hA1507 hK1568 hI1608
                            have I1847 : Inv w1687 S1643 (Row (α := (List Int)) 34 (Value.slice z6 m6 k6) (x9.1) :: X1507) := hI1608
                            have q2504 : f 136 = (elemPtr (Value.slice z6 m6 k6) ((i16 : Int)) (Enc.sz (List Int))) := vt (hA1507.at_ 2 rfl _ rfl) rfl
                            refine opg_plain rfl rfl (op_load (v := (elemPtr (Value.slice z6 m6 k6) ((i16 : Int)) (Enc.sz (List Int)))) (e := x395) rfl sh34 q2504 ((I1847.nth 0 rfl).rowElem hx395) (fun u479 hu479 => ?_))
                            obtain ⟨z361, m361, k361, e2181⟩ := rv_form hu479
                            subst e2181
                            refine ⟨_, _, rfl, PH.Le.refl _, ?_, ?_⟩
                            · exact hu479
                            · exact I1847
                          · intro vs1569 f w1688 S1644 X1508 le1644 hA1508 hK1569 hI1609
                            have I1848 : Inv w1688 S1644 (X1508) := hI1609
                            refine opg_plain rfl rfl (op_move (v := (Value.int .i64 ((i20 : Int)))) rfl ((hK1569 11 (keep_of rfl)).trans e2178) ?_)
                            refine ⟨_, _, rfl, PH.Le.refl _, ?_, ?_⟩
                            · exact rfl
                            · exact I1848
                          · intro vs1570 f w1689 S1645 X1509 le1645 hA1509 hK1570 hI1610
                            have I1849 : Inv w1689 S1645 (X1509) := hI1610
                            have q2505 : f 137 = vs1570 3 := (hA1509.at_ 3 rfl _ rfl).1 _ rfl
                            have r211 : RV S1645 (vs1570 3) x395 := (hA1509.at_ 3 rfl _ rfl).2
                            obtain ⟨u480, hu480⟩ : ∃ u, vs1570 3 = u := ⟨_, rfl⟩
                            rw [hu480] at q2505 r211
                            obtain ⟨z362, m362, k362, e2182⟩ := rv_form r211
                            subst e2182
                            have q2506 : f 138 = (Value.int .i64 ((i20 : Int))) := vt (hA1509.at_ 4 rfl _ rfl) rfl
                            refine opg_plain rfl rfl (op_indexAddr_rv (v := (Value.slice z362 m362 k362)) (i := (i20 : Int)) (e := x396) rfl Try.underlying34 sh3 q2505 r211 q2506 hx396 ?_)
                            refine ⟨_, _, rfl, PH.Le.refl _, ?_, ?_⟩
                            · show (elemPtr (Value.slice z362 m362 k362) ((i20 : Int)) (Enc.sz Int)) = (elemPtr (vs1570 3) ((i20 : Int)) (Enc.sz Int))
                              simp only [hu480] <;> rfl
                            · exact I1849
                          · intro vs1571 f w1690 S1646 X1510 le1646 hA1510 hK1571 hI1611
                            have I1850 : Inv w1690 S1646 (X1510) := hI1611
                            have q2507 : f 137 = vs1571 3 := (hA1510.at_ 3 rfl _ rfl).1 _ rfl
                            have r212 : RV S1646 (vs1571 3) x395 := (hA1510.at_ 3 rfl _ rfl).2
                            obtain ⟨u481, hu481⟩ : ∃ u, vs1571 3 = u := ⟨_, rfl⟩
                            rw [hu481] at q2507 r212
                            obtain ⟨z363, m363, k363, e2183⟩ := rv_form r212
                            subst e2183
                            have q2508 : f 138 = (Value.int .i64 ((i20 : Int))) := vt (hA1510.at_ 4 rfl _ rfl) rfl
                            have q2509 : f 139 = (elemPtr (vs1571 3) ((i20 : Int)) (Enc.sz Int)) := vt (hA1510.at_ 5 rfl _ rfl) rfl
                            simp only [hu481] at q2509
                            have q2509 : f 139 = (elemPtr (Value.slice z363 m363 k363) ((i20 : Int)) (Enc.sz Int)) := q2509
                            refine opg_plain rfl rfl (op_load_int (v := (elemPtr (Value.slice z363 m363 k363) ((i20 : Int)) (Enc.sz Int))) (e := x396) rfl sh3 q2509 (r212.elem I1850.in_ hx396) ?_)
                            refine ⟨_, _, rfl, PH.Le.refl _, ?_, ?_⟩
                            · exact rfl
                            · exact I1850
                          · intro vs1572 f w1691 S1647 X1511 le1647 hA1511 hK1572 hI1612
                            have I1851 : Inv w1691 S1647 (X1511) := hI1612
                            refine opg_plain rfl rfl (op_move (v := (Value.int .i64 (v70))) rfl ((hK1572 13 (keep_of rfl)).trans e2179) ?_)
                            refine ⟨_, _, rfl, PH.Le.refl _, ?_, ?_⟩
                            · exact rfl
                            · exact I1851
                          · intro vs1573 f w1692 S1648 X1512 le1648 hA1512 hK1573 hI1613
                            have I1852 : Inv w1692 S1648 (X1512) := hI1613
                            have q2510 : f 140 = (Value.int .i64 (x396)) := vt (hA1512.at_ 6 rfl _ rfl) rfl
                            have q2511 : f 141 = (Value.int .i64 (v70)) := vt (hA1512.at_ 7 rfl _ rfl) rfl
                            refine opg_plain rfl rfl (op_neq (a := x396) (b := v70) rfl q2510 q2511 ?_)
                            refine ⟨_, _, rfl, PH.Le.refl _, ?_, ?_⟩
                            · exact rfl
                            · exact I1852
                          · intro vs1574 f w1693 S1649 X1513 le1649 hA1513 hK1574 hI1614
                            have I1853 : Inv w1693 S1649 (X1513) := hI1614
                            have q2512 : f 142 = (Value.bool (x396 != v70)) := vt (hA1513.at_ 8 rfl _ rfl) rfl
                            refine opg_plain rfl rfl (op_move (v := (Value.bool (x396 != v70))) rfl q2512 ?_)
                            refine ⟨_, _, rfl, PH.Le.refl _, ?_, ?_⟩
                            · exact rfl
                            · exact I1853
                          · intro vs1575 f w1694 S1650 X1514 le1650 hA1514 hK1575 hI1615
                            have I1854 : Inv w1694 S1650 (X1514) := hI1615
                            have q2513 : f 143 = (Value.bool (x396 != v70)) := vt (hA1514.at_ 9 rfl _ rfl) rfl
                            exact opg_skip (c := x396 != v70) rfl rfl rfl rfl q2513 hc358 rfl ⟨_, _, rfl, PH.Le.refl _, rfl, I1854⟩
                          · intro vs1576 f w1695 S1651 X1515 le1651 hA1515 hK1576 hI1616
                            have I1855 : Inv w1695 S1651 (X1515) := hI1616
                            have q2514 : f 143 = (Value.bool (x396 != v70)) := vt (hA1515.at_ 9 rfl _ rfl) rfl
                            exact opg_skip (c := x396 != v70) rfl rfl rfl rfl q2514 hc358 rfl ⟨_, _, rfl, PH.Le.refl _, rfl, I1855⟩
                          · intro vs1577 f w1696 S1652 X1516 le1652 hA1516 hK1577 hI1617
                            have I1856 : Inv w1696 S1652 (X1516) := hI1617
                            have q2515 : f 143 = (Value.bool (x396 != v70)) := vt (hA1516.at_ 9 rfl _ rfl) rfl
                            have q2516 : f 144 = undef := vt (hA1516.at_ 10 rfl _ rfl) rfl
                            have q2517 : f 145 = undef := vt (hA1516.at_ 11 rfl _ rfl) rfl
                            exact opg_skip (c := x396 != v70) rfl rfl rfl rfl q2515 hc358 rfl ⟨_, _, rfl, PH.Le.refl _, rfl, I1856⟩
                          · intro vs1578 f w1697 S1653 X1517 le1653 hA1517 hK1578 hI1618
                            have I1857 : Inv w1697 S1653 (X1517) := hI1618
                            have q2518 : f 143 = (Value.bool (x396 != v70)) := vt (hA1517.at_ 9 rfl _ rfl) rfl
                            have q2519 : f 146 = undef := vt (hA1517.at_ 12 rfl _ rfl) rfl
                            exact opg_skip (c := x396 != v70) rfl rfl rfl rfl q2518 hc358 rfl ⟨_, _, rfl, PH.Le.refl _, rfl, I1857⟩
                          · intro vs1579 f w1698 S1654 X1518 le1654 hA1518 hK1579 hI1619
                            have I1858 : Inv w1698 S1654 (X1518) := hI1619
                            have q2520 : f 143 = (Value.bool (x396 != v70)) := vt (hA1518.at_ 9 rfl _ rfl) rfl
                            exact opg_skip (c := x396 != v70) rfl rfl rfl rfl q2520 hc358 rfl ⟨_, _, rfl, PH.Le.refl _, rfl, I1858⟩
                          · intro vs1580 f w1699 S1655 X1519 le1655 hA1519 hK1580 hI1620
                            have I1859 : Inv w1699 S1655 (X1519) := hI1620
                            have q2521 : f 143 = (Value.bool (x396 != v70)) := vt (hA1519.at_ 9 rfl _ rfl) rfl
                            have q2522 : f 147 = undef := vt (hA1519.at_ 13 rfl _ rfl) rfl
                            have q2523 : f 148 = undef := vt (hA1519.at_ 14 rfl _ rfl) rfl
                            exact opg_skip (c := x396 != v70) rfl rfl rfl rfl q2521 hc358 rfl ⟨_, _, rfl, PH.Le.refl _, rfl, I1859⟩
                          · intro vs1581 f w1700 S1656 X1520 le1656 hA1520 hK1581 hI1621
                            have I1860 : Inv w1700 S1656 (X1520) := hI1621
                            have q2524 : f 143 = (Value.bool (x396 != v70)) := vt (hA1520.at_ 9 rfl _ rfl) rfl
                            have q2525 : f 149 = undef := vt (hA1520.at_ 15 rfl _ rfl) rfl
                            exact opg_skip (c := x396 != v70) rfl rfl rfl rfl q2524 hc358 rfl ⟨_, _, rfl, PH.Le.refl _, rfl, I1860⟩
                          · intro vs1582 f w1701 S1657 X1521 le1657 hA1521 hK1582 hI1622
                            have I1861 : Inv w1701 S1657 (X1521) := hI1622
                            have q2526 : f 143 = (Value.bool (x396 != v70)) := vt (hA1521.at_ 9 rfl _ rfl) rfl
                            have q2527 : f 150 = undef := vt (hA1521.at_ 16 rfl _ rfl) rfl
                            exact opg_skip (c := x396 != v70) rfl rfl rfl rfl q2526 hc358 rfl ⟨_, _, rfl, PH.Le.refl _, rfl, I1861⟩
                          · intro vs1583 f w1702 S1658 X1522 le1658 hA1522 hK1583 hI1623
                            have I1862 : Inv w1702 S1658 (X1522) := hI1623
                            have q2528 : f 143 = (Value.bool (x396 != v70)) := vt (hA1522.at_ 9 rfl _ rfl) rfl
                            exact opg_skip (c := x396 != v70) rfl rfl rfl rfl q2528 hc358 rfl ⟨_, _, rfl, PH.Le.refl _, rfl, I1862⟩
                          · intro vs1584 f w1703 S1659 X1523 le1659 hA1523 hK1584 hI1624
                            have I1863 : Inv w1703 S1659 (X1523) := hI1624
                            have q2529 : f 143 = (Value.bool (x396 != v70)) := vt (hA1523.at_ 9 rfl _ rfl) rfl
                            exact opg_skip (c := x396 != v70) rfl rfl rfl rfl q2529 hc358 rfl ⟨_, _, rfl, PH.Le.refl _, rfl, I1863⟩
                          · intro vs1585 f w1704 S1660 X1524 le1660 hA1524 hK1585 hI1625
                            have I1864 : Inv w1704 S1660 (X1524) := hI1625
                            have q2530 : f 143 = (Value.bool (x396 != v70)) := vt (hA1524.at_ 9 rfl _ rfl) rfl
                            have q2531 : f 152 = undef := vt (hA1524.at_ 10 rfl _ rfl) rfl
                            have q2532 : f 153 = undef := vt (hA1524.at_ 11 rfl _ rfl) rfl
                            exact opg_skip (c := x396 != v70) rfl rfl rfl rfl q2530 hc358 rfl ⟨_, _, rfl, PH.Le.refl _, rfl, I1864⟩
                          · intro vs1586 f w1705 S1661 X1525 le1661 hA1525 hK1586 hI1626
                            have I1865 : Inv w1705 S1661 (X1525) := hI1626
                            have q2533 : f 143 = (Value.bool (x396 != v70)) := vt (hA1525.at_ 9 rfl _ rfl) rfl
                            have q2534 : f 154 = undef := vt (hA1525.at_ 12 rfl _ rfl) rfl
                            exact opg_skip (c := x396 != v70) rfl rfl rfl rfl q2533 hc358 rfl ⟨_, _, rfl, PH.Le.refl _, rfl, I1865⟩
                          · intro vs1587 f w1706 S1662 X1526 le1662 hA1526 hK1587 hI1627
                            have I1866 : Inv w1706 S1662 (X1526) := hI1627
                            have q2535 : f 155 = undef := vt (hA1526.at_ 13 rfl _ rfl) rfl
                            exact opg_skip_u rfl rfl rfl rfl q2535 rfl ⟨_, _, rfl, PH.Le.refl _, rfl, I1866⟩
                          · intro vs1588 f w1707 S1663 X1527 le1663 hA1527 hK1588 hI1628
                            have I1867 : Inv w1707 S1663 (X1527) := hI1628
                            have q2536 : f 155 = undef := vt (hA1527.at_ 13 rfl _ rfl) rfl
                            have q2537 : f 156 = undef := vt (hA1527.at_ 14 rfl _ rfl) rfl
                            exact opg_skip_u rfl rfl rfl rfl q2536 rfl ⟨_, _, rfl, PH.Le.refl _, rfl, I1867⟩
                          · intro vs1589 f w1708 S1664 X1528 le1664 hA1528 hK1589 hI1629
                            have I1868 : Inv w1708 S1664 (X1528) := hI1629
                            have q2538 : f 143 = (Value.bool (x396 != v70)) := vt (hA1528.at_ 9 rfl _ rfl) rfl
                            have q2539 : f 155 = undef := vt (hA1528.at_ 13 rfl _ rfl) rfl
                            have q2540 : f 157 = undef := vt (hA1528.at_ 15 rfl _ rfl) rfl
                            exact opg_skip (c := x396 != v70) rfl rfl rfl rfl q2538 hc358 rfl ⟨_, _, rfl, PH.Le.refl _, rfl, I1868⟩
                          · intro vs1590 f w1709 S1665 X1529 le1665 hA1529 hK1590 hI1630
                            have I1869 : Inv w1709 S1665 (X1529) := hI1630
                            have q2541 : f 143 = (Value.bool (x396 != v70)) := vt (hA1529.at_ 9 rfl _ rfl) rfl
                            have q2542 : f 151 = undef := vt (hA1529.at_ 17 rfl _ rfl) rfl
                            have q2543 : f 158 = undef := vt (hA1529.at_ 24 rfl _ rfl) rfl
                            exact opg_skip (c := x396 != v70) rfl rfl rfl rfl q2541 hc358 rfl ⟨_, _, rfl, PH.Le.refl _, rfl, I1869⟩
                          · intro vs1591 f w1710 S1666 X1530 le1666 hA1530 hK1591 hI1631
                            have I1870 : Inv w1710 S1666 (X1530) := hI1631
                            have q2544 : f 143 = (Value.bool (x396 != v70)) := vt (hA1530.at_ 9 rfl _ rfl) rfl
                            have q2545 : f 159 = undef := vt (hA1530.at_ 25 rfl _ rfl) rfl
                            refine opg_plain rfl rfl (op_pick_t (c := x396 != v70) (a := (Value.bool (true))) rfl q2544 hc358 rfl ?_)
                            refine ⟨_, _, rfl, PH.Le.refl _, ?_, ?_⟩
                            · exact rfl
                            · exact I1870
                          · intro vs1592 f w1711 S1667 le1667 hF62 hK1592 hI1632
                            have e2184 : f 1 = (Value.int .i64 (a1)) := (hK1592 1 (keep_all rfl)).trans e2172
                            have e2185 : f 2 = (Value.slice z2 m2 k2) := (hK1592 2 (keep_all rfl)).trans e2173
                            have e2186 : f 3 = (Value.pointer (some ⟨g1, 0, none⟩)) := (hK1592 3 (keep_all rfl)).trans e2174
                            have e2187 : f 7 = (Value.slice z6 m6 k6) := (hK1592 7 (keep_all rfl)).trans e2175
                            have e2188 : f 8 = (Value.slice z7 m7 k7) := (hK1592 8 (keep_all rfl)).trans e2176
                            have e2189 : f 10 = (Value.int .i64 ((i16 : Int))) := (hK1592 10 (keep_all rfl)).trans e2177
                            have e2190 : f 11 = (Value.int .i64 ((i20 : Int))) := (hK1592 11 (keep_all rfl)).trans e2178
                            have I1871 : Inv w1711 S1667 (Row (α := (List Int)) 34 (Value.slice z6 m6 k6) (x9.1) :: Row (α := (List Int)) 34 (Value.slice z7 m7 k7) (x9.2.1) :: Fr) := hI1632
                            have q2546 : f 160 = (Value.bool (true)) := vt (hF62.at_ 26 rfl _ rfl) rfl
                            refine wp_cond_t (b := true) q2546 rfl ?_
                            refine wp_seq' ?_
                            refine wp_region' ?_
                            refine wl_op rfl (op_assign (v := (Value.bool (false))) rfl rfl ?_)
                            refine wl_nil ?_
                            refine wp_ret' ?_
                            obtain rfl := Option.some.inj h147
                            obtain rfl := (hout20 _ rfl)
                            have h148 := h118
                            obtain rfl := Option.some.inj h148
                            obtain rfl := (hout16 _ rfl)
                            have h119 := h
                            obtain rfl := Option.some.inj h119
                            exact ⟨(Value.bool (false)), (res1 rfl rfl), _, [], ((((((le1.trans le2).trans le1295).trans le1372).trans le1636).trans le1639).trans le1667), ((I1871).drop).drop, rfl, rfl⟩
                        · obtain ⟨x397, hx397, h147⟩ := bnd h147
                          obtain ⟨x398, hx398, h147⟩ := bnd h147
                          obtain ⟨x399, hx399, h147⟩ := bnd h147
                          rcases ifs h147 with ⟨hc359, h147⟩ | ⟨hc359, h147⟩
                          · refine wp_draw (sps := [⟨some 134, [], [0], fun vs_ T_ => fr0 vs_ 0 = (Value.slice z6 m6 k6), [], [], [], fun _ h_ => h_⟩, ⟨some 135, [], [1], fun vs_ T_ => fr0 vs_ 0 = (Value.int .i64 ((i16 : Int))), [], [], [], fun _ h_ => h_⟩, ⟨some 136, [0, 1], [2], fun vs_ T_ => fr0 vs_ 0 = (elemPtr (Value.slice z6 m6 k6) ((i16 : Int)) (Enc.sz (List Int))), [0], [], [], fun _ h_ => h_⟩, ⟨some 137, [0, 1, 2], [3], fun vs_ T_ => RV T_ (fr0 vs_ 0) x395, [0], [], [], fun hle_ h_ => h_.mono hle_⟩, ⟨some 138, [], [4], fun vs_ T_ => fr0 vs_ 0 = (Value.int .i64 ((i20 : Int))), [], [], [], fun _ h_ => h_⟩, ⟨some 139, [0, 1, 2, 3, 4], [5, 3], fun vs_ T_ => fr0 vs_ 0 = (elemPtr (fr0 vs_ 1) ((i20 : Int)) (Enc.sz Int)), [], [], [], fun _ h_ => h_⟩, ⟨some 140, [0, 1, 2, 3, 4, 5], [6], fun vs_ T_ => fr0 vs_ 0 = (Value.int .i64 (x396)), [], [], [], fun _ h_ => h_⟩, ⟨some 141, [], [7], fun vs_ T_ => fr0 vs_ 0 = (Value.int .i64 (v70)), [], [], [], fun _ h_ => h_⟩, ⟨some 142, [0, 1, 2, 3, 4, 5, 6, 7], [8], fun vs_ T_ => fr0 vs_ 0 = (Value.bool (x396 != v70)), [], [], [], fun _ h_ => h_⟩, ⟨some 143, [0, 1, 2, 3, 4, 5, 6, 7, 8], [9], fun vs_ T_ => fr0 vs_ 0 = (Value.bool (x396 != v70)), [], [], [], fun _ h_ => h_⟩, ⟨some 144, [0, 1, 2, 3, 4, 5, 6, 7, 8, 9], [10], fun vs_ T_ => fr0 vs_ 0 = (Value.slice z7 m7 k7), [], [], [], fun _ h_ => h_⟩, ⟨some 145, [0, 1, 2, 3, 4, 5, 6, 7, 8, 9], [11], fun vs_ T_ => fr0 vs_ 0 = (Value.int .i64 ((i16 : Int))), [], [], [], fun _ h_ => h_⟩, ⟨some 146, [0, 1, 2, 3, 4, 5, 6, 7, 8, 9, 10, 11], [12], fun vs_ T_ => fr0 vs_ 0 = (elemPtr (Value.slice z7 m7 k7) ((i16 : Int)) (Enc.sz (List Int))), [1], [], [], fun _ h_ => h_⟩, ⟨some 147, [0, 1, 2, 3, 4, 5, 6, 7, 8, 9, 10, 11, 12], [13], fun vs_ T_ => RV T_ (fr0 vs_ 0) x397, [1], [], [], fun hle_ h_ => h_.mono hle_⟩, ⟨some 148, [0, 1, 2, 3, 4, 5, 6, 7, 8, 9], [14], fun vs_ T_ => fr0 vs_ 0 = (Value.int .i64 ((i20 : Int))), [], [], [], fun _ h_ => h_⟩, ⟨some 149, [0, 1, 2, 3, 4, 5, 6, 7, 8, 9, 10, 11, 12, 13, 14], [15, 13], fun vs_ T_ => fr0 vs_ 0 = (elemPtr (fr0 vs_ 1) ((i20 : Int)) (Enc.sz Int)), [], [], [], fun _ h_ => h_⟩, ⟨some 150, [0, 1, 2, 3, 4, 5, 6, 7, 8, 9, 10, 11, 12, 13, 14, 15], [16], fun vs_ T_ => fr0 vs_ 0 = (Value.int .i64 (x398)), [], [], [], fun _ h_ => h_⟩, ⟨some 151, [0, 1, 2, 3, 4, 5, 6, 7, 8, 9, 10, 11, 12, 13, 14, 15, 16], [17], fun vs_ T_ => fr0 vs_ 0 = (Value.bool (x398 == 0)), [], [], [], fun _ h_ => h_⟩, ⟨some 152, [0, 1, 2, 3, 4, 5, 6, 7, 8, 9], [18], fun vs_ T_ => fr0 vs_ 0 = (Value.int .i64 ((i16 : Int))), [], [], [], fun _ h_ => h_⟩, ⟨some 153, [0, 1, 2, 3, 4, 5, 6, 7, 8, 9], [19], fun vs_ T_ => fr0 vs_ 0 = (Value.slice z2 m2 k2), [], [], [], fun _ h_ => h_⟩, ⟨some 154, [0, 1, 2, 3, 4, 5, 6, 7, 8, 9, 18, 19], [20], fun vs_ T_ => fr0 vs_ 0 = (Value.bool (x399)), [], [], [], fun _ h_ => h_⟩, ⟨some 155, [0, 1, 2, 3, 4, 5, 6, 7, 8, 9, 18, 19, 20], [21], fun vs_ T_ => fr0 vs_ 0 = (Value.bool (x399)), [], [], [], fun _ h_ => h_⟩, ⟨some 156, [0, 1, 2, 3, 4, 5, 6, 7, 8, 9, 18, 19, 20, 21], [22], fun vs_ T_ => fr0 vs_ 0 = (Value.bool (out21)), [], [], [], fun _ h_ => h_⟩, ⟨some 157, [0, 1, 2, 3, 4, 5, 6, 7, 8, 9, 18, 19, 20, 21, 22], [23], fun vs_ T_ => fr0 vs_ 0 = (Value.bool (!out21)), [], [], [], fun _ h_ => h_⟩, ⟨some 158, [0, 1, 2, 3, 4, 5, 6, 7, 8, 9, 18, 19, 20, 21, 22, 23], [24], fun vs_ T_ => fr0 vs_ 0 = (Value.bool (!out21)), [], [], [], fun _ h_ => h_⟩, ⟨some 159, [0, 1, 2, 3, 4, 5, 6, 7, 8, 9, 10, 11, 12, 13, 14, 15, 16, 17, 18, 19, 20, 21, 22, 23, 24], [25], fun vs_ T_ => fr0 vs_ 0 = (Value.bool ((x398 == 0) != (!out21))), [], [], [], fun _ h_ => h_⟩, ⟨some 160, [0, 1, 2, 3, 4, 5, 6, 7, 8, 9, 10, 11, 12, 13, 14, 15, 16, 17, 18, 19, 20, 21, 22, 23, 24, 25], [26], fun vs_ T_ => fr0 vs_ 0 = (Value.bool ((x398 == 0) != (!out21))), [], [], [], fun _ h_ => h_⟩]) (tks := [⟨none, none, [], fun vs_ => Row (α := (List Int)) 34 (Value.slice z6 m6 k6) (x9.1)⟩, ⟨none, none, [], fun vs_ => Row (α := (List Int)) 34 (Value.slice z7 m7 k7) (x9.2.1)⟩]) (O := Fr) rfl (by kernel_rfl) ((I1843.pull 1).pull 1) ⟨?_, ?_, ?_, ?_, ?_, ?_, ?_, ?_, ?_, ?_, ?_, ?_, ?_, ?_, ?_, ?_, ?_, ?_, ?_, ?_, ?_, ?_, ?_, ?_, ?_, ?_, ?_, trivial⟩ ?_
                            · intro vs1593 f w1714 S1668 X1531 le1668 hA1531 hK1593 hI1633
                              have I1874 : Inv w1714 S1668 (X1531) := hI1633
                              refine opg_plain rfl rfl (op_move (v := (Value.slice z6 m6 k6)) rfl ((hK1593 7 (keep_of rfl)).trans e2175) ?_)
                              refine ⟨_, _, rfl, PH.Le.refl _, ?_, ?_⟩
                              · exact rfl
                              · exact I1874
                            · intro vs1594 f w1715 S1669 X1532 le1669 hA1532 hK1594 hI1634
                              have I1875 : Inv w1715 S1669 (X1532) := hI1634
                              refine opg_plain rfl rfl (op_move (v := (Value.int .i64 ((i16 : Int)))) rfl ((hK1594 10 (keep_of rfl)).trans e2177) ?_)
                              refine ⟨_, _, rfl, PH.Le.refl _, ?_, ?_⟩
                              · exact rfl
                              · exact I1875
                            · intro vs1595 f w1716 S1670 X1533 le1670 hA1533 hK1595 hI1635
                              have I1876 : Inv w1716 S1670 (Row (α := (List Int)) 34 (Value.slice z6 m6 k6) (x9.1) :: X1533) := hI1635
                              have q2547 : f 134 = (Value.slice z6 m6 k6) := vt (hA1533.at_ 0 rfl _ rfl) rfl
                              have q2548 : f 135 = (Value.int .i64 ((i16 : Int))) := vt (hA1533.at_ 1 rfl _ rfl) rfl
                              refine opg_plain rfl rfl (op_indexAddr_src (v := (Value.slice z6 m6 k6)) (i := (i16 : Int)) (e := x395) rfl Try.underlying53 sh34 q2547 (Inv.rowSrc (I1876.nth 0 rfl)) q2548 hx395 ?_)
                              refine ⟨_, _, rfl, PH.Le.refl _, ?_, ?_⟩
                              · exact rfl
                              · exact I1876
                            · intro vs1596 f w1717 S1671 X1534 le1671 hA1534 hK1596 hI1636
                              have I1877 : Inv w1717 S1671 (Row (α := (List Int)) 34 (Value.slice z6 m6 k6) (x9.1) :: X1534) := hI1636
                              have q2549 : f 136 = (elemPtr (Value.slice z6 m6 k6) ((i16 : Int)) (Enc.sz (List Int))) := vt (hA1534.at_ 2 rfl _ rfl) rfl
                              refine opg_plain rfl rfl (op_load (v := (elemPtr (Value.slice z6 m6 k6) ((i16 : Int)) (Enc.sz (List Int)))) (e := x395) rfl sh34 q2549 ((I1877.nth 0 rfl).rowElem hx395) (fun u486 hu486 => ?_))
                              obtain ⟨z364, m364, k364, e2191⟩ := rv_form hu486
                              subst e2191
                              refine ⟨_, _, rfl, PH.Le.refl _, ?_, ?_⟩
                              · exact hu486
                              · exact I1877
                            · intro vs1597 f w1718 S1672 X1535 le1672 hA1535 hK1597 hI1637
                              have I1878 : Inv w1718 S1672 (X1535) := hI1637
                              refine opg_plain rfl rfl (op_move (v := (Value.int .i64 ((i20 : Int)))) rfl ((hK1597 11 (keep_of rfl)).trans e2178) ?_)
                              refine ⟨_, _, rfl, PH.Le.refl _, ?_, ?_⟩
                              · exact rfl
                              · exact I1878
                            · intro vs1598 f w1719 S1673 X1536 le1673 hA1536 hK1598 hI1638
                              have I1879 : Inv w1719 S1673 (X1536) := hI1638
                              have q2550 : f 137 = vs1598 3 := (hA1536.at_ 3 rfl _ rfl).1 _ rfl
                              have r213 : RV S1673 (vs1598 3) x395 := (hA1536.at_ 3 rfl _ rfl).2
                              obtain ⟨u487, hu487⟩ : ∃ u, vs1598 3 = u := ⟨_, rfl⟩
                              rw [hu487] at q2550 r213
                              obtain ⟨z365, m365, k365, e2192⟩ := rv_form r213
                              subst e2192
                              have q2551 : f 138 = (Value.int .i64 ((i20 : Int))) := vt (hA1536.at_ 4 rfl _ rfl) rfl
                              refine opg_plain rfl rfl (op_indexAddr_rv (v := (Value.slice z365 m365 k365)) (i := (i20 : Int)) (e := x396) rfl Try.underlying34 sh3 q2550 r213 q2551 hx396 ?_)
                              refine ⟨_, _, rfl, PH.Le.refl _, ?_, ?_⟩
                              · show (elemPtr (Value.slice z365 m365 k365) ((i20 : Int)) (Enc.sz Int)) = (elemPtr (vs1598 3) ((i20 : Int)) (Enc.sz Int))
                                simp only [hu487] <;> rfl
                              · exact I1879
                            · intro vs1599 f w1720 S1674 X1537 le1674 hA1537 hK1599 hI1639
                              have I1880 : Inv w1720 S1674 (X1537) := hI1639
                              have q2552 : f 137 = vs1599 3 := (hA1537.at_ 3 rfl _ rfl).1 _ rfl
                              have r214 : RV S1674 (vs1599 3) x395 := (hA1537.at_ 3 rfl _ rfl).2
                              obtain ⟨u488, hu488⟩ : ∃ u, vs1599 3 = u := ⟨_, rfl⟩
                              rw [hu488] at q2552 r214
                              obtain ⟨z366, m366, k366, e2193⟩ := rv_form r214
                              subst e2193
                              have q2553 : f 138 = (Value.int .i64 ((i20 : Int))) := vt (hA1537.at_ 4 rfl _ rfl) rfl
                              have q2554 : f 139 = (elemPtr (vs1599 3) ((i20 : Int)) (Enc.sz Int)) := vt (hA1537.at_ 5 rfl _ rfl) rfl
                              simp only [hu488] at q2554
                              have q2554 : f 139 = (elemPtr (Value.slice z366 m366 k366) ((i20 : Int)) (Enc.sz Int)) := q2554
                              refine opg_plain rfl rfl (op_load_int (v := (elemPtr (Value.slice z366 m366 k366) ((i20 : Int)) (Enc.sz Int))) (e := x396) rfl sh3 q2554 (r214.elem I1880.in_ hx396) ?_)
                              refine ⟨_, _, rfl, PH.Le.refl _, ?_, ?_⟩
                              · exact rfl
                              · exact I1880
                            · intro vs1600 f w1721 S1675 X1538 le1675 hA1538 hK1600 hI1640
                              have I1881 : Inv w1721 S1675 (X1538) := hI1640
                              refine opg_plain rfl rfl (op_move (v := (Value.int .i64 (v70))) rfl ((hK1600 13 (keep_of rfl)).trans e2179) ?_)
                              refine ⟨_, _, rfl, PH.Le.refl _, ?_, ?_⟩
                              · exact rfl
                              · exact I1881
                            · intro vs1601 f w1722 S1676 X1539 le1676 hA1539 hK1601 hI1641
                              have I1882 : Inv w1722 S1676 (X1539) := hI1641
                              have q2555 : f 140 = (Value.int .i64 (x396)) := vt (hA1539.at_ 6 rfl _ rfl) rfl
                              have q2556 : f 141 = (Value.int .i64 (v70)) := vt (hA1539.at_ 7 rfl _ rfl) rfl
                              refine opg_plain rfl rfl (op_neq (a := x396) (b := v70) rfl q2555 q2556 ?_)
                              refine ⟨_, _, rfl, PH.Le.refl _, ?_, ?_⟩
                              · exact rfl
                              · exact I1882
                            · intro vs1602 f w1723 S1677 X1540 le1677 hA1540 hK1602 hI1642
                              have I1883 : Inv w1723 S1677 (X1540) := hI1642
                              have q2557 : f 142 = (Value.bool (x396 != v70)) := vt (hA1540.at_ 8 rfl _ rfl) rfl
                              refine opg_plain rfl rfl (op_move (v := (Value.bool (x396 != v70))) rfl q2557 ?_)
                              refine ⟨_, _, rfl, PH.Le.refl _, ?_, ?_⟩
                              · exact rfl
                              · exact I1883
                            · intro vs1603 f w1724 S1678 X1541 le1678 hA1541 hK1603 hI1643
                              have I1884 : Inv w1724 S1678 (X1541) := hI1643
                              have q2558 : f 143 = (Value.bool (x396 != v70)) := vt (hA1541.at_ 9 rfl _ rfl) rfl
                              refine opg_taken (c := x396 != v70) rfl rfl rfl rfl q2558 hc358 (op_move (v := (Value.slice z7 m7 k7)) rfl ((hK1603 8 (keep_of rfl)).trans e2176) ?_)
                              refine ⟨_, _, rfl, PH.Le.refl _, ?_, ?_⟩
                              · exact rfl
                              · exact I1884
                            · intro vs1604 f w1725 S1679 X1542 le1679 hA1542 hK1604 hI1644
                              have I1885 : Inv w1725 S1679 (X1542) := hI1644
                              have q2559 : f 143 = (Value.bool (x396 != v70)) := vt (hA1542.at_ 9 rfl _ rfl) rfl
                              refine opg_taken (c := x396 != v70) rfl rfl rfl rfl q2559 hc358 (op_move (v := (Value.int .i64 ((i16 : Int)))) rfl ((hK1604 10 (keep_of rfl)).trans e2177) ?_)
                              refine ⟨_, _, rfl, PH.Le.refl _, ?_, ?_⟩
                              · exact rfl
                              · exact I1885
                            · intro vs1605 f w1726 S1680 X1543 le1680 hA1543 hK1605 hI1645
                              have I1886 : Inv w1726 S1680 (Row (α := (List Int)) 34 (Value.slice z7 m7 k7) (x9.2.1) :: X1543) := hI1645
                              have q2560 : f 143 = (Value.bool (x396 != v70)) := vt (hA1543.at_ 9 rfl _ rfl) rfl
                              have q2561 : f 144 = (Value.slice z7 m7 k7) := vt (hA1543.at_ 10 rfl _ rfl) rfl
                              have q2562 : f 145 = (Value.int .i64 ((i16 : Int))) := vt (hA1543.at_ 11 rfl _ rfl) rfl
                              refine opg_taken (c := x396 != v70) rfl rfl rfl rfl q2560 hc358 (op_indexAddr_src (v := (Value.slice z7 m7 k7)) (i := (i16 : Int)) (e := x397) rfl Try.underlying53 sh34 q2561 (Inv.rowSrc (I1886.nth 0 rfl)) q2562 hx397 ?_)
                              refine ⟨_, _, rfl, PH.Le.refl _, ?_, ?_⟩
                              · exact rfl
                              · exact I1886
                            · intro vs1606 f w1727 S1681 X1544 le1681 hA1544 hK1606 hI1646
                              have I1887 : Inv w1727 S1681 (Row (α := (List Int)) 34 (Value.slice z7 m7 k7) (x9.2.1) :: X1544) := hI1646
                              have q2563 : f 143 = (Value.bool (x396 != v70)) := vt (hA1544.at_ 9 rfl _ rfl) rfl
                              have q2564 : f 146 = (elemPtr (Value.slice z7 m7 k7) ((i16 : Int)) (Enc.sz (List Int))) := vt (hA1544.at_ 12 rfl _ rfl) rfl
                              refine opg_taken (c := x396 != v70) rfl rfl rfl rfl q2563 hc358 (op_load (v := (elemPtr (Value.slice z7 m7 k7) ((i16 : Int)) (Enc.sz (List Int)))) (e := x397) rfl sh34 q2564 ((I1887.nth 0 rfl).rowElem hx397) (fun u489 hu489 => ?_))
                              obtain ⟨z367, m367, k367, e2194⟩ := rv_form hu489
                              subst e2194
                              refine ⟨_, _, rfl, PH.Le.refl _, ?_, ?_⟩
                              · exact hu489
                              · exact I1887
                            · intro vs1607 f w1728 S1682 X1545 le1682 hA1545 hK1607 hI1647
                              have I1888 : Inv w1728 S1682 (X1545) := hI1647
                              have q2565 : f 143 = (Value.bool (x396 != v70)) := vt (hA1545.at_ 9 rfl _ rfl) rfl
                              refine opg_taken (c := x396 != v70) rfl rfl rfl rfl q2565 hc358 (op_move (v := (Value.int .i64 ((i20 : Int)))) rfl ((hK1607 11 (keep_of rfl)).trans e2178) ?_)
                              refine ⟨_, _, rfl, PH.Le.refl _, ?_, ?_⟩
                              · exact rfl
                              · exact I1888
                            · intro vs1608 f w1729 S1683 X1546 le1683 hA1546 hK1608 hI1648
                              have I1889 : Inv w1729 S1683 (X1546) := hI1648
                              have q2566 : f 143 = (Value.bool (x396 != v70)) := vt (hA1546.at_ 9 rfl _ rfl) rfl
                              have q2567 : f 147 = vs1608 13 := (hA1546.at_ 13 rfl _ rfl).1 _ rfl
                              have r215 : RV S1683 (vs1608 13) x397 := (hA1546.at_ 13 rfl _ rfl).2
                              obtain ⟨u490, hu490⟩ : ∃ u, vs1608 13 = u := ⟨_, rfl⟩
                              rw [hu490] at q2567 r215
                              obtain ⟨z368, m368, k368, e2195⟩ := rv_form r215
                              subst e2195
                              have q2568 : f 148 = (Value.int .i64 ((i20 : Int))) := vt (hA1546.at_ 14 rfl _ rfl) rfl
                              refine opg_taken (c := x396 != v70) rfl rfl rfl rfl q2566 hc358 (op_indexAddr_rv (v := (Value.slice z368 m368 k368)) (i := (i20 : Int)) (e := x398) rfl Try.underlying34 sh3 q2567 r215 q2568 hx398 ?_)
                              refine ⟨_, _, rfl, PH.Le.refl _, ?_, ?_⟩
                              · show (elemPtr (Value.slice z368 m368 k368) ((i20 : Int)) (Enc.sz Int)) = (elemPtr (vs1608 13) ((i20 : Int)) (Enc.sz Int))
                                simp only [hu490] <;> rfl
                              · exact I1889
                            · intro vs1609 f w1730 S1684 X1547 le1684 hA1547 hK1609 hI1649
                              have I1890 : Inv w1730 S1684 (X1547) := hI1649
                              have q2569 : f 143 = (Value.bool (x396 != v70)) := vt (hA1547.at_ 9 rfl _ rfl) rfl
                              have q2570 : f 147 = vs1609 13 := (hA1547.at_ 13 rfl _ rfl).1 _ rfl
                              have r216 : RV S1684 (vs1609 13) x397 := (hA1547.at_ 13 rfl _ rfl).2
                              obtain ⟨u491, hu491⟩ : ∃ u, vs1609 13 = u := ⟨_, rfl⟩
                              rw [hu491] at q2570 r216
                              obtain ⟨z369, m369, k369, e2196⟩ := rv_form r216
                              subst e2196
                              have q2571 : f 148 = (Value.int .i64 ((i20 : Int))) := vt (hA1547.at_ 14 rfl _ rfl) rfl
                              have q2572 : f 149 = (elemPtr (vs1609 13) ((i20 : Int)) (Enc.sz Int)) := vt (hA1547.at_ 15 rfl _ rfl) rfl
                              simp only [hu491] at q2572
                              have q2572 : f 149 = (elemPtr (Value.slice z369 m369 k369) ((i20 : Int)) (Enc.sz Int)) := q2572
                              refine opg_taken (c := x396 != v70) rfl rfl rfl rfl q2569 hc358 (op_load_int (v := (elemPtr (Value.slice z369 m369 k369) ((i20 : Int)) (Enc.sz Int))) (e := x398) rfl sh3 q2572 (r216.elem I1890.in_ hx398) ?_)
                              refine ⟨_, _, rfl, PH.Le.refl _, ?_, ?_⟩
                              · exact rfl
                              · exact I1890
                            · intro vs1610 f w1731 S1685 X1548 le1685 hA1548 hK1610 hI1650
                              have I1891 : Inv w1731 S1685 (X1548) := hI1650
                              have q2573 : f 143 = (Value.bool (x396 != v70)) := vt (hA1548.at_ 9 rfl _ rfl) rfl
                              have q2574 : f 150 = (Value.int .i64 (x398)) := vt (hA1548.at_ 16 rfl _ rfl) rfl
                              refine opg_taken (c := x396 != v70) rfl rfl rfl rfl q2573 hc358 (op_eql (a := x398) (b := 0) rfl q2574 rfl ?_)
                              refine ⟨_, _, rfl, PH.Le.refl _, ?_, ?_⟩
                              · exact rfl
                              · exact I1891
                            · intro vs1611 f w1732 S1686 X1549 le1686 hA1549 hK1611 hI1651
                              have I1892 : Inv w1732 S1686 (X1549) := hI1651
                              have q2575 : f 143 = (Value.bool (x396 != v70)) := vt (hA1549.at_ 9 rfl _ rfl) rfl
                              refine opg_taken (c := x396 != v70) rfl rfl rfl rfl q2575 hc358 (op_move (v := (Value.int .i64 ((i16 : Int)))) rfl ((hK1611 10 (keep_of rfl)).trans e2177) ?_)
                              refine ⟨_, _, rfl, PH.Le.refl _, ?_, ?_⟩
                              · exact rfl
                              · exact I1892
                            · intro vs1612 f w1733 S1687 X1550 le1687 hA1550 hK1612 hI1652
                              have I1893 : Inv w1733 S1687 (X1550) := hI1652
                              have q2576 : f 143 = (Value.bool (x396 != v70)) := vt (hA1550.at_ 9 rfl _ rfl) rfl
                              refine opg_taken (c := x396 != v70) rfl rfl rfl rfl q2576 hc358 (op_move (v := (Value.slice z2 m2 k2)) rfl ((hK1612 2 (keep_of rfl)).trans e2173) ?_)
                              refine ⟨_, _, rfl, PH.Le.refl _, ?_, ?_⟩
                              · exact rfl
                              · exact I1893
                            · intro vs1613 f w1734 S1688 X1551 le1688 hA1551 hK1613 hI1653
                              have I1894 : Inv w1734 S1688 (X1551) := hI1653
                              have q2577 : f 143 = (Value.bool (x396 != v70)) := vt (hA1551.at_ 9 rfl _ rfl) rfl
                              have q2578 : f 152 = (Value.int .i64 ((i16 : Int))) := vt (hA1551.at_ 10 rfl _ rfl) rfl
                              have q2579 : f 153 = (Value.slice z2 m2 k2) := vt (hA1551.at_ 11 rfl _ rfl) rfl
                              refine opg_taken (c := x396 != v70) rfl rfl rfl rfl q2577 hc358 (op_call_v (vs := [(Value.int .i64 ((i16 : Int))), (Value.slice z2 m2 k2)]) (r := (Value.bool (x399))) rfl ca33 rfl (args2 q2578 q2579) I1894 (fun Fr_ hF_ => F33_ok hF_ (h2_.mono ((((((le1.trans le2).trans le1295).trans le1372).trans le1636).trans le1639).trans le1688)) hx399) (fun w1735 I1895 => ?_))
                              refine ⟨_, _, rfl, PH.Le.refl _, ?_, ?_⟩
                              · exact rfl
                              · exact I1895
                            · intro vs1614 f w1736 S1689 X1552 le1689 hA1552 hK1614 hI1654
                              have I1896 : Inv w1736 S1689 (X1552) := hI1654
                              have q2580 : f 143 = (Value.bool (x396 != v70)) := vt (hA1552.at_ 9 rfl _ rfl) rfl
                              have q2581 : f 154 = (Value.bool (x399)) := vt (hA1552.at_ 12 rfl _ rfl) rfl
                              refine opg_taken (c := x396 != v70) rfl rfl rfl rfl q2580 hc358 (op_move (v := (Value.bool (x399))) rfl q2581 ?_)
                              refine ⟨_, _, rfl, PH.Le.refl _, ?_, ?_⟩
                              · exact rfl
                              · exact I1896
                            · intro vs1615 f w1737 S1690 X1553 le1690 hA1553 hK1615 hI1655
                              have I1897 : Inv w1737 S1690 (X1553) := hI1655
                              have q2582 : f 155 = (Value.bool (x399)) := vt (hA1553.at_ 13 rfl _ rfl) rfl
                              refine opg_taken (c := x399) rfl rfl rfl rfl q2582 hc359 (op_move (v := (Value.bool (out21))) rfl ((hK1615 14 (keep_of rfl)).trans e2180) ?_)
                              refine ⟨_, _, rfl, PH.Le.refl _, ?_, ?_⟩
                              · exact rfl
                              · exact I1897
                            · intro vs1616 f w1738 S1691 X1554 le1691 hA1554 hK1616 hI1656
                              have I1898 : Inv w1738 S1691 (X1554) := hI1656
                              have q2583 : f 155 = (Value.bool (x399)) := vt (hA1554.at_ 13 rfl _ rfl) rfl
                              have q2584 : f 156 = (Value.bool (out21)) := vt (hA1554.at_ 14 rfl _ rfl) rfl
                              refine opg_taken (c := x399) rfl rfl rfl rfl q2583 hc359 (op_not (b := out21) rfl q2584 ?_)
                              refine ⟨_, _, rfl, PH.Le.refl _, ?_, ?_⟩
                              · exact rfl
                              · exact I1898
                            · intro vs1617 f w1739 S1692 X1555 le1692 hA1555 hK1617 hI1657
                              have I1899 : Inv w1739 S1692 (X1555) := hI1657
                              have q2585 : f 143 = (Value.bool (x396 != v70)) := vt (hA1555.at_ 9 rfl _ rfl) rfl
                              have q2586 : f 155 = (Value.bool (x399)) := vt (hA1555.at_ 13 rfl _ rfl) rfl
                              have q2587 : f 157 = (Value.bool (!out21)) := vt (hA1555.at_ 15 rfl _ rfl) rfl
                              refine opg_taken (c := x396 != v70) rfl rfl rfl rfl q2585 hc358 (op_pick_t (c := x399) (a := (Value.bool (!out21))) rfl q2586 hc359 q2587 ?_)
                              refine ⟨_, _, rfl, PH.Le.refl _, ?_, ?_⟩
                              · exact rfl
                              · exact I1899
                            · intro vs1618 f w1740 S1693 X1556 le1693 hA1556 hK1618 hI1658
                              have I1900 : Inv w1740 S1693 (X1556) := hI1658
                              have q2588 : f 143 = (Value.bool (x396 != v70)) := vt (hA1556.at_ 9 rfl _ rfl) rfl
                              have q2589 : f 151 = (Value.bool (x398 == 0)) := vt (hA1556.at_ 17 rfl _ rfl) rfl
                              have q2590 : f 158 = (Value.bool (!out21)) := vt (hA1556.at_ 24 rfl _ rfl) rfl
                              refine opg_taken (c := x396 != v70) rfl rfl rfl rfl q2588 hc358 (op_bneq (a := x398 == 0) (b := !out21) rfl Try.underlying4 q2589 q2590 ?_)
                              refine ⟨_, _, rfl, PH.Le.refl _, ?_, ?_⟩
                              · exact rfl
                              · exact I1900
                            · intro vs1619 f w1741 S1694 X1557 le1694 hA1557 hK1619 hI1659
                              have I1901 : Inv w1741 S1694 (X1557) := hI1659
                              have q2591 : f 143 = (Value.bool (x396 != v70)) := vt (hA1557.at_ 9 rfl _ rfl) rfl
                              have q2592 : f 159 = (Value.bool ((x398 == 0) != (!out21))) := vt (hA1557.at_ 25 rfl _ rfl) rfl
                              refine opg_plain rfl rfl (op_pick_f (c := x396 != v70) (b := (Value.bool ((x398 == 0) != (!out21)))) rfl q2591 hc358 q2592 ?_)
                              refine ⟨_, _, rfl, PH.Le.refl _, ?_, ?_⟩
                              · exact rfl
                              · exact I1901
                            · intro vs1620 f w1742 S1695 le1695 hF63 hK1620 hI1660
                              have e2197 : f 1 = (Value.int .i64 (a1)) := (hK1620 1 (keep_all rfl)).trans e2172
                              have e2198 : f 2 = (Value.slice z2 m2 k2) := (hK1620 2 (keep_all rfl)).trans e2173
                              have e2199 : f 3 = (Value.pointer (some ⟨g1, 0, none⟩)) := (hK1620 3 (keep_all rfl)).trans e2174
                              have e2200 : f 7 = (Value.slice z6 m6 k6) := (hK1620 7 (keep_all rfl)).trans e2175
                              have e2201 : f 8 = (Value.slice z7 m7 k7) := (hK1620 8 (keep_all rfl)).trans e2176
                              have e2202 : f 10 = (Value.int .i64 ((i16 : Int))) := (hK1620 10 (keep_all rfl)).trans e2177
                              have e2203 : f 11 = (Value.int .i64 ((i20 : Int))) := (hK1620 11 (keep_all rfl)).trans e2178
                              have I1902 : Inv w1742 S1695 (Row (α := (List Int)) 34 (Value.slice z6 m6 k6) (x9.1) :: Row (α := (List Int)) 34 (Value.slice z7 m7 k7) (x9.2.1) :: Fr) := hI1660
                              have q2593 : f 160 = (Value.bool ((x398 == 0) != (!out21))) := vt (hF63.at_ 26 rfl _ rfl) rfl
                              rcases ifs h147 with ⟨hc360, h147⟩ | ⟨hc360, h147⟩
                              · refine wp_cond_t (b := (x398 == 0) != (!out21)) q2593 hc360 ?_
                                refine wp_seq' ?_
                                refine wp_region' ?_
                                refine wl_op rfl (op_assign (v := (Value.bool (false))) rfl rfl ?_)
                                refine wl_nil ?_
                                refine wp_ret' ?_
                                obtain rfl := Option.some.inj h147
                                obtain rfl := (hout20 _ rfl)
                                have h148 := h118
                                obtain rfl := Option.some.inj h148
                                obtain rfl := (hout16 _ rfl)
                                have h119 := h
                                obtain rfl := Option.some.inj h119
                                exact ⟨(Value.bool (false)), (res1 rfl rfl), _, [], ((((((le1.trans le2).trans le1295).trans le1372).trans le1636).trans le1639).trans le1695), ((I1902).drop).drop, rfl, rfl⟩
                              · refine wp_cond_f (b := (x398 == 0) != (!out21)) q2593 hc360 ?_
                                refine wp_skip' ?_
                                refine wp_region' ?_
                                refine wl_op rfl (op_move (v := (Value.int .i64 ((i20 : Int)))) rfl e2203 ?_)
                                refine wl_op rfl (op_add (a := (i20 : Int)) (b := 1) rfl rfl rfl ?_)
                                refine wl_op rfl (op_assign (v := (Value.int .i64 (w64 ((i20 : Int) + 1)))) rfl rfl ?_)
                                refine wl_nil ?_
                                obtain rfl := Option.some.inj h147
                                exact ⟨_, rfl, _, ((le1636.trans le1639).trans le1695), ((I1902.pull 1).pull 1), e2197, e2198, e2199, e2200, e2201, e2202, (idx_next hlt20 (cnt_le hx376))⟩
                          · refine wp_draw (sps := [⟨some 134, [], [0], fun vs_ T_ => fr0 vs_ 0 = (Value.slice z6 m6 k6), [], [], [], fun _ h_ => h_⟩, ⟨some 135, [], [1], fun vs_ T_ => fr0 vs_ 0 = (Value.int .i64 ((i16 : Int))), [], [], [], fun _ h_ => h_⟩, ⟨some 136, [0, 1], [2], fun vs_ T_ => fr0 vs_ 0 = (elemPtr (Value.slice z6 m6 k6) ((i16 : Int)) (Enc.sz (List Int))), [0], [], [], fun _ h_ => h_⟩, ⟨some 137, [0, 1, 2], [3], fun vs_ T_ => RV T_ (fr0 vs_ 0) x395, [0], [], [], fun hle_ h_ => h_.mono hle_⟩, ⟨some 138, [], [4], fun vs_ T_ => fr0 vs_ 0 = (Value.int .i64 ((i20 : Int))), [], [], [], fun _ h_ => h_⟩, ⟨some 139, [0, 1, 2, 3, 4], [5, 3], fun vs_ T_ => fr0 vs_ 0 = (elemPtr (fr0 vs_ 1) ((i20 : Int)) (Enc.sz Int)), [], [], [], fun _ h_ => h_⟩, ⟨some 140, [0, 1, 2, 3, 4, 5], [6], fun vs_ T_ => fr0 vs_ 0 = (Value.int .i64 (x396)), [], [], [], fun _ h_ => h_⟩, ⟨some 141, [], [7], fun vs_ T_ => fr0 vs_ 0 = (Value.int .i64 (v70)), [], [], [], fun _ h_ => h_⟩, ⟨some 142, [0, 1, 2, 3, 4, 5, 6, 7], [8], fun vs_ T_ => fr0 vs_ 0 = (Value.bool (x396 != v70)), [], [], [], fun _ h_ => h_⟩, ⟨some 143, [0, 1, 2, 3, 4, 5, 6, 7, 8], [9], fun vs_ T_ => fr0 vs_ 0 = (Value.bool (x396 != v70)), [], [], [], fun _ h_ => h_⟩, ⟨some 144, [0, 1, 2, 3, 4, 5, 6, 7, 8, 9], [10], fun vs_ T_ => fr0 vs_ 0 = (Value.slice z7 m7 k7), [], [], [], fun _ h_ => h_⟩, ⟨some 145, [0, 1, 2, 3, 4, 5, 6, 7, 8, 9], [11], fun vs_ T_ => fr0 vs_ 0 = (Value.int .i64 ((i16 : Int))), [], [], [], fun _ h_ => h_⟩, ⟨some 146, [0, 1, 2, 3, 4, 5, 6, 7, 8, 9, 10, 11], [12], fun vs_ T_ => fr0 vs_ 0 = (elemPtr (Value.slice z7 m7 k7) ((i16 : Int)) (Enc.sz (List Int))), [1], [], [], fun _ h_ => h_⟩, ⟨some 147, [0, 1, 2, 3, 4, 5, 6, 7, 8, 9, 10, 11, 12], [13], fun vs_ T_ => RV T_ (fr0 vs_ 0) x397, [1], [], [], fun hle_ h_ => h_.mono hle_⟩, ⟨some 148, [0, 1, 2, 3, 4, 5, 6, 7, 8, 9], [14], fun vs_ T_ => fr0 vs_ 0 = (Value.int .i64 ((i20 : Int))), [], [], [], fun _ h_ => h_⟩, ⟨some 149, [0, 1, 2, 3, 4, 5, 6, 7, 8, 9, 10, 11, 12, 13, 14], [15, 13], fun vs_ T_ => fr0 vs_ 0 = (elemPtr (fr0 vs_ 1) ((i20 : Int)) (Enc.sz Int)), [], [], [], fun _ h_ => h_⟩, ⟨some 150, [0, 1, 2, 3, 4, 5, 6, 7, 8, 9, 10, 11, 12, 13, 14, 15], [16], fun vs_ T_ => fr0 vs_ 0 = (Value.int .i64 (x398)), [], [], [], fun _ h_ => h_⟩, ⟨some 151, [0, 1, 2, 3, 4, 5, 6, 7, 8, 9, 10, 11, 12, 13, 14, 15, 16], [17], fun vs_ T_ => fr0 vs_ 0 = (Value.bool (x398 == 0)), [], [], [], fun _ h_ => h_⟩, ⟨some 152, [0, 1, 2, 3, 4, 5, 6, 7, 8, 9], [18], fun vs_ T_ => fr0 vs_ 0 = (Value.int .i64 ((i16 : Int))), [], [], [], fun _ h_ => h_⟩, ⟨some 153, [0, 1, 2, 3, 4, 5, 6, 7, 8, 9], [19], fun vs_ T_ => fr0 vs_ 0 = (Value.slice z2 m2 k2), [], [], [], fun _ h_ => h_⟩, ⟨some 154, [0, 1, 2, 3, 4, 5, 6, 7, 8, 9, 18, 19], [20], fun vs_ T_ => fr0 vs_ 0 = (Value.bool (x399)), [], [], [], fun _ h_ => h_⟩, ⟨some 155, [0, 1, 2, 3, 4, 5, 6, 7, 8, 9, 18, 19, 20], [21], fun vs_ T_ => fr0 vs_ 0 = (Value.bool (x399)), [], [], [], fun _ h_ => h_⟩, ⟨some 156, [0, 1, 2, 3, 4, 5, 6, 7, 8, 9, 18, 19, 20, 21], [22], fun vs_ T_ => fr0 vs_ 0 = undef, [], [], [], fun _ h_ => h_⟩, ⟨some 157, [0, 1, 2, 3, 4, 5, 6, 7, 8, 9, 18, 19, 20, 21, 22], [23], fun vs_ T_ => fr0 vs_ 0 = undef, [], [], [], fun _ h_ => h_⟩, ⟨some 158, [0, 1, 2, 3, 4, 5, 6, 7, 8, 9, 18, 19, 20, 21, 22, 23], [24], fun vs_ T_ => fr0 vs_ 0 = (Value.bool (false)), [], [], [], fun _ h_ => h_⟩, ⟨some 159, [0, 1, 2, 3, 4, 5, 6, 7, 8, 9, 10, 11, 12, 13, 14, 15, 16, 17, 18, 19, 20, 21, 22, 23, 24], [25], fun vs_ T_ => fr0 vs_ 0 = (Value.bool ((x398 == 0) != false)), [], [], [], fun _ h_ => h_⟩, ⟨some 160, [0, 1, 2, 3, 4, 5, 6, 7, 8, 9, 10, 11, 12, 13, 14, 15, 16, 17, 18, 19, 20, 21, 22, 23, 24, 25], [26], fun vs_ T_ => fr0 vs_ 0 = (Value.bool ((x398 == 0) != false)), [], [], [], fun _ h_ => h_⟩]) (tks := [⟨none, none, [], fun vs_ => Row (α := (List Int)) 34 (Value.slice z6 m6 k6) (x9.1)⟩, ⟨none, none, [], fun vs_ => Row (α := (List Int)) 34 (Value.slice z7 m7 k7) (x9.2.1)⟩]) (O := Fr) rfl (by kernel_rfl) ((I1843.pull 1).pull 1) ⟨?_, ?_, ?_, ?_, ?_, ?_, ?_, ?_, ?_, ?_, ?_, ?_, ?_, ?_, ?_, ?_, ?_, ?_, ?_, ?_, ?_, ?_, ?_, ?_, ?_, ?_, ?_, trivial⟩ ?_
                            · intro vs1621 f w1744 S1696 X1558 le1696 hA1558 hK1621 hI1661
                              have I1904 : Inv w1744 S1696 (X1558) := hI1661
                              refine opg_plain rfl rfl (op_move (v := (Value.slice z6 m6 k6)) rfl ((hK1621 7 (keep_of rfl)).trans e2175) ?_)
                              refine ⟨_, _, rfl, PH.Le.refl _, ?_, ?_⟩
                              · exact rfl
                              · exact I1904
                            · intro vs1622 f w1745 S1697 X1559 le1697 hA1559 hK1622 hI1662
                              have I1905 : Inv w1745 S1697 (X1559) := hI1662
                              refine opg_plain rfl rfl (op_move (v := (Value.int .i64 ((i16 : Int)))) rfl ((hK1622 10 (keep_of rfl)).trans e2177) ?_)
                              refine ⟨_, _, rfl, PH.Le.refl _, ?_, ?_⟩
                              · exact rfl
                              · exact I1905
                            · intro vs1623 f w1746 S1698 X1560 le1698 hA1560 hK1623 hI1663
                              have I1906 : Inv w1746 S1698 (Row (α := (List Int)) 34 (Value.slice z6 m6 k6) (x9.1) :: X1560) := hI1663
                              have q2594 : f 134 = (Value.slice z6 m6 k6) := vt (hA1560.at_ 0 rfl _ rfl) rfl
                              have q2595 : f 135 = (Value.int .i64 ((i16 : Int))) := vt (hA1560.at_ 1 rfl _ rfl) rfl
                              refine opg_plain rfl rfl (op_indexAddr_src (v := (Value.slice z6 m6 k6)) (i := (i16 : Int)) (e := x395) rfl Try.underlying53 sh34 q2594 (Inv.rowSrc (I1906.nth 0 rfl)) q2595 hx395 ?_)
                              refine ⟨_, _, rfl, PH.Le.refl _, ?_, ?_⟩
                              · exact rfl
                              · exact I1906
                            · intro vs1624 f w1747 S1699 X1561 le1699 hA1561 hK1624 hI1664
                              have I1907 : Inv w1747 S1699 (Row (α := (List Int)) 34 (Value.slice z6 m6 k6) (x9.1) :: X1561) := hI1664
                              have q2596 : f 136 = (elemPtr (Value.slice z6 m6 k6) ((i16 : Int)) (Enc.sz (List Int))) := vt (hA1561.at_ 2 rfl _ rfl) rfl
                              refine opg_plain rfl rfl (op_load (v := (elemPtr (Value.slice z6 m6 k6) ((i16 : Int)) (Enc.sz (List Int)))) (e := x395) rfl sh34 q2596 ((I1907.nth 0 rfl).rowElem hx395) (fun u494 hu494 => ?_))
                              obtain ⟨z370, m370, k370, e2204⟩ := rv_form hu494
                              subst e2204
                              refine ⟨_, _, rfl, PH.Le.refl _, ?_, ?_⟩
                              · exact hu494
                              · exact I1907
                            · intro vs1625 f w1748 S1700 X1562 le1700 hA1562 hK1625 hI1665
                              have I1908 : Inv w1748 S1700 (X1562) := hI1665
                              refine opg_plain rfl rfl (op_move (v := (Value.int .i64 ((i20 : Int)))) rfl ((hK1625 11 (keep_of rfl)).trans e2178) ?_)
                              refine ⟨_, _, rfl, PH.Le.refl _, ?_, ?_⟩
                              · exact rfl
                              · exact I1908
                            · intro vs1626 f w1749 S1701 X1563 le1701 hA1563 hK1626 hI1666
                              have I1909 : Inv w1749 S1701 (X1563) := hI1666
                              have q2597 : f 137 = vs1626 3 := (hA1563.at_ 3 rfl _ rfl).1 _ rfl
                              have r217 : RV S1701 (vs1626 3) x395 := (hA1563.at_ 3 rfl _ rfl).2
                              obtain ⟨u495, hu495⟩ : ∃ u, vs1626 3 = u := ⟨_, rfl⟩
                              rw [hu495] at q2597 r217
                              obtain ⟨z371, m371, k371, e2205⟩ := rv_form r217
                              subst e2205
                              have q2598 : f 138 = (Value.int .i64 ((i20 : Int))) := vt (hA1563.at_ 4 rfl _ rfl) rfl
                              refine opg_plain rfl rfl (op_indexAddr_rv (v := (Value.slice z371 m371 k371)) (i := (i20 : Int)) (e := x396) rfl Try.underlying34 sh3 q2597 r217 q2598 hx396 ?_)
                              refine ⟨_, _, rfl, PH.Le.refl _, ?_, ?_⟩
                              · show (elemPtr (Value.slice z371 m371 k371) ((i20 : Int)) (Enc.sz Int)) = (elemPtr (vs1626 3) ((i20 : Int)) (Enc.sz Int))
                                simp only [hu495] <;> rfl
                              · exact I1909
                            · intro vs1627 f w1750 S1702 X1564 le1702 hA1564 hK1627 hI1667
                              have I1910 : Inv w1750 S1702 (X1564) := hI1667
                              have q2599 : f 137 = vs1627 3 := (hA1564.at_ 3 rfl _ rfl).1 _ rfl
                              have r218 : RV S1702 (vs1627 3) x395 := (hA1564.at_ 3 rfl _ rfl).2
                              obtain ⟨u496, hu496⟩ : ∃ u, vs1627 3 = u := ⟨_, rfl⟩
                              rw [hu496] at q2599 r218
                              obtain ⟨z372, m372, k372, e2206⟩ := rv_form r218
                              subst e2206
                              have q2600 : f 138 = (Value.int .i64 ((i20 : Int))) := vt (hA1564.at_ 4 rfl _ rfl) rfl
                              have q2601 : f 139 = (elemPtr (vs1627 3) ((i20 : Int)) (Enc.sz Int)) := vt (hA1564.at_ 5 rfl _ rfl) rfl
                              simp only [hu496] at q2601
                              have q2601 : f 139 = (elemPtr (Value.slice z372 m372 k372) ((i20 : Int)) (Enc.sz Int)) := q2601
                              refine opg_plain rfl rfl (op_load_int (v := (elemPtr (Value.slice z372 m372 k372) ((i20 : Int)) (Enc.sz Int))) (e := x396) rfl sh3 q2601 (r218.elem I1910.in_ hx396) ?_)
                              refine ⟨_, _, rfl, PH.Le.refl _, ?_, ?_⟩
                              · exact rfl
                              · exact I1910
                            · intro vs1628 f w1751 S1703 X1565 le1703 hA1565 hK1628 hI1668
                              have I1911 : Inv w1751 S1703 (X1565) := hI1668
                              refine opg_plain rfl rfl (op_move (v := (Value.int .i64 (v70))) rfl ((hK1628 13 (keep_of rfl)).trans e2179) ?_)
                              refine ⟨_, _, rfl, PH.Le.refl _, ?_, ?_⟩
                              · exact rfl
                              · exact I1911
                            · intro vs1629 f w1752 S1704 X1566 le1704 hA1566 hK1629 hI1669
                              have I1912 : Inv w1752 S1704 (X1566) := hI1669
                              have q2602 : f 140 = (Value.int .i64 (x396)) := vt (hA1566.at_ 6 rfl _ rfl) rfl
                              have q2603 : f 141 = (Value.int .i64 (v70)) := vt (hA1566.at_ 7 rfl _ rfl) rfl
                              refine opg_plain rfl rfl (op_neq (a := x396) (b := v70) rfl q2602 q2603 ?_)
                              refine ⟨_, _, rfl, PH.Le.refl _, ?_, ?_⟩
                              · exact rfl
                              · exact I1912
                            · intro vs1630 f w1753 S1705 X1567 le1705 hA1567 hK1630 hI1670
                              have I1913 : Inv w1753 S1705 (X1567) := hI1670
                              have q2604 : f 142 = (Value.bool (x396 != v70)) := vt (hA1567.at_ 8 rfl _ rfl) rfl
                              refine opg_plain rfl rfl (op_move (v := (Value.bool (x396 != v70))) rfl q2604 ?_)
                              refine ⟨_, _, rfl, PH.Le.refl _, ?_, ?_⟩
                              · exact rfl
                              · exact I1913
                            · intro vs1631 f w1754 S1706 X1568 le1706 hA1568 hK1631 hI1671
                              have I1914 : Inv w1754 S1706 (X1568) := hI1671
                              have q2605 : f 143 = (Value.bool (x396 != v70)) := vt (hA1568.at_ 9 rfl _ rfl) rfl
                              refine opg_taken (c := x396 != v70) rfl rfl rfl rfl q2605 hc358 (op_move (v := (Value.slice z7 m7 k7)) rfl ((hK1631 8 (keep_of rfl)).trans e2176) ?_)
                              refine ⟨_, _, rfl, PH.Le.refl _, ?_, ?_⟩
                              · exact rfl
                              · exact I1914
                            · intro vs1632 f w1755 S1707 X1569 le1707 hA1569 hK1632 hI1672
                              have I1915 : Inv w1755 S1707 (X1569) := hI1672
                              have q2606 : f 143 = (Value.bool (x396 != v70)) := vt (hA1569.at_ 9 rfl _ rfl) rfl
                              refine opg_taken (c := x396 != v70) rfl rfl rfl rfl q2606 hc358 (op_move (v := (Value.int .i64 ((i16 : Int)))) rfl ((hK1632 10 (keep_of rfl)).trans e2177) ?_)
                              refine ⟨_, _, rfl, PH.Le.refl _, ?_, ?_⟩
                              · exact rfl
                              · exact I1915
                            · intro vs1633 f w1756 S1708 X1570 le1708 hA1570 hK1633 hI1673
                              have I1916 : Inv w1756 S1708 (Row (α := (List Int)) 34 (Value.slice z7 m7 k7) (x9.2.1) :: X1570) := hI1673
                              have q2607 : f 143 = (Value.bool (x396 != v70)) := vt (hA1570.at_ 9 rfl _ rfl) rfl
                              have q2608 : f 144 = (Value.slice z7 m7 k7) := vt (hA1570.at_ 10 rfl _ rfl) rfl
                              have q2609 : f 145 = (Value.int .i64 ((i16 : Int))) := vt (hA1570.at_ 11 rfl _ rfl) rfl
                              refine opg_taken (c := x396 != v70) rfl rfl rfl rfl q2607 hc358 (op_indexAddr_src (v := (Value.slice z7 m7 k7)) (i := (i16 : Int)) (e := x397) rfl Try.underlying53 sh34 q2608 (Inv.rowSrc (I1916.nth 0 rfl)) q2609 hx397 ?_)
                              refine ⟨_, _, rfl, PH.Le.refl _, ?_, ?_⟩
                              · exact rfl
                              · exact I1916
                            · intro vs1634 f w1757 S1709 X1571 le1709 hA1571 hK1634 hI1674
                              have I1917 : Inv w1757 S1709 (Row (α := (List Int)) 34 (Value.slice z7 m7 k7) (x9.2.1) :: X1571) := hI1674
                              have q2610 : f 143 = (Value.bool (x396 != v70)) := vt (hA1571.at_ 9 rfl _ rfl) rfl
                              have q2611 : f 146 = (elemPtr (Value.slice z7 m7 k7) ((i16 : Int)) (Enc.sz (List Int))) := vt (hA1571.at_ 12 rfl _ rfl) rfl
                              refine opg_taken (c := x396 != v70) rfl rfl rfl rfl q2610 hc358 (op_load (v := (elemPtr (Value.slice z7 m7 k7) ((i16 : Int)) (Enc.sz (List Int)))) (e := x397) rfl sh34 q2611 ((I1917.nth 0 rfl).rowElem hx397) (fun u497 hu497 => ?_))
                              obtain ⟨z373, m373, k373, e2207⟩ := rv_form hu497
                              subst e2207
                              refine ⟨_, _, rfl, PH.Le.refl _, ?_, ?_⟩
                              · exact hu497
                              · exact I1917
                            · intro vs1635 f w1758 S1710 X1572 le1710 hA1572 hK1635 hI1675
                              have I1918 : Inv w1758 S1710 (X1572) := hI1675
                              have q2612 : f 143 = (Value.bool (x396 != v70)) := vt (hA1572.at_ 9 rfl _ rfl) rfl
                              refine opg_taken (c := x396 != v70) rfl rfl rfl rfl q2612 hc358 (op_move (v := (Value.int .i64 ((i20 : Int)))) rfl ((hK1635 11 (keep_of rfl)).trans e2178) ?_)
                              refine ⟨_, _, rfl, PH.Le.refl _, ?_, ?_⟩
                              · exact rfl
                              · exact I1918
                            · intro vs1636 f w1759 S1711 X1573 le1711 hA1573 hK1636 hI1676
                              have I1919 : Inv w1759 S1711 (X1573) := hI1676
                              have q2613 : f 143 = (Value.bool (x396 != v70)) := vt (hA1573.at_ 9 rfl _ rfl) rfl
                              have q2614 : f 147 = vs1636 13 := (hA1573.at_ 13 rfl _ rfl).1 _ rfl
                              have r219 : RV S1711 (vs1636 13) x397 := (hA1573.at_ 13 rfl _ rfl).2
                              obtain ⟨u498, hu498⟩ : ∃ u, vs1636 13 = u := ⟨_, rfl⟩
                              rw [hu498] at q2614 r219
                              obtain ⟨z374, m374, k374, e2208⟩ := rv_form r219
                              subst e2208
                              have q2615 : f 148 = (Value.int .i64 ((i20 : Int))) := vt (hA1573.at_ 14 rfl _ rfl) rfl
                              refine opg_taken (c := x396 != v70) rfl rfl rfl rfl q2613 hc358 (op_indexAddr_rv (v := (Value.slice z374 m374 k374)) (i := (i20 : Int)) (e := x398) rfl Try.underlying34 sh3 q2614 r219 q2615 hx398 ?_)
                              refine ⟨_, _, rfl, PH.Le.refl _, ?_, ?_⟩
                              · show (elemPtr (Value.slice z374 m374 k374) ((i20 : Int)) (Enc.sz Int)) = (elemPtr (vs1636 13) ((i20 : Int)) (Enc.sz Int))
                                simp only [hu498] <;> rfl
                              · exact I1919
                            · intro vs1637 f w1760 S1712 X1574 le1712 hA1574 hK1637 hI1677
                              have I1920 : Inv w1760 S1712 (X1574) := hI1677
                              have q2616 : f 143 = (Value.bool (x396 != v70)) := vt (hA1574.at_ 9 rfl _ rfl) rfl
                              have q2617 : f 147 = vs1637 13 := (hA1574.at_ 13 rfl _ rfl).1 _ rfl
                              have r220 : RV S1712 (vs1637 13) x397 := (hA1574.at_ 13 rfl _ rfl).2
                              obtain ⟨u499, hu499⟩ : ∃ u, vs1637 13 = u := ⟨_, rfl⟩
                              rw [hu499] at q2617 r220
                              obtain ⟨z375, m375, k375, e2209⟩ := rv_form r220
                              subst e2209
                              have q2618 : f 148 = (Value.int .i64 ((i20 : Int))) := vt (hA1574.at_ 14 rfl _ rfl) rfl
                              have q2619 : f 149 = (elemPtr (vs1637 13) ((i20 : Int)) (Enc.sz Int)) := vt (hA1574.at_ 15 rfl _ rfl) rfl
                              simp only [hu499] at q2619
                              have q2619 : f 149 = (elemPtr (Value.slice z375 m375 k375) ((i20 : Int)) (Enc.sz Int)) := q2619
                              refine opg_taken (c := x396 != v70) rfl rfl rfl rfl q2616 hc358 (op_load_int (v := (elemPtr (Value.slice z375 m375 k375) ((i20 : Int)) (Enc.sz Int))) (e := x398) rfl sh3 q2619 (r220.elem I1920.in_ hx398) ?_)
                              refine ⟨_, _, rfl, PH.Le.refl _, ?_, ?_⟩
                              · exact rfl
                              · exact I1920
                            · intro vs1638 f w1761 S1713 X1575 le1713 hA1575 hK1638 hI1678
                              have I1921 : Inv w1761 S1713 (X1575) := hI1678
                              have q2620 : f 143 = (Value.bool (x396 != v70)) := vt (hA1575.at_ 9 rfl _ rfl) rfl
                              have q2621 : f 150 = (Value.int .i64 (x398)) := vt (hA1575.at_ 16 rfl _ rfl) rfl
                              refine opg_taken (c := x396 != v70) rfl rfl rfl rfl q2620 hc358 (op_eql (a := x398) (b := 0) rfl q2621 rfl ?_)
                              refine ⟨_, _, rfl, PH.Le.refl _, ?_, ?_⟩
                              · exact rfl
                              · exact I1921
                            · intro vs1639 f w1762 S1714 X1576 le1714 hA1576 hK1639 hI1679
                              have I1922 : Inv w1762 S1714 (X1576) := hI1679
                              have q2622 : f 143 = (Value.bool (x396 != v70)) := vt (hA1576.at_ 9 rfl _ rfl) rfl
                              refine opg_taken (c := x396 != v70) rfl rfl rfl rfl q2622 hc358 (op_move (v := (Value.int .i64 ((i16 : Int)))) rfl ((hK1639 10 (keep_of rfl)).trans e2177) ?_)
                              refine ⟨_, _, rfl, PH.Le.refl _, ?_, ?_⟩
                              · exact rfl
                              · exact I1922
                            · intro vs1640 f w1763 S1715 X1577 le1715 hA1577 hK1640 hI1680
                              have I1923 : Inv w1763 S1715 (X1577) := hI1680
                              have q2623 : f 143 = (Value.bool (x396 != v70)) := vt (hA1577.at_ 9 rfl _ rfl) rfl
                              refine opg_taken (c := x396 != v70) rfl rfl rfl rfl q2623 hc358 (op_move (v := (Value.slice z2 m2 k2)) rfl ((hK1640 2 (keep_of rfl)).trans e2173) ?_)
                              refine ⟨_, _, rfl, PH.Le.refl _, ?_, ?_⟩
                              · exact rfl
                              · exact I1923
                            · intro vs1641 f w1764 S1716 X1578 le1716 hA1578 hK1641 hI1681
                              have I1924 : Inv w1764 S1716 (X1578) := hI1681
                              have q2624 : f 143 = (Value.bool (x396 != v70)) := vt (hA1578.at_ 9 rfl _ rfl) rfl
                              have q2625 : f 152 = (Value.int .i64 ((i16 : Int))) := vt (hA1578.at_ 10 rfl _ rfl) rfl
                              have q2626 : f 153 = (Value.slice z2 m2 k2) := vt (hA1578.at_ 11 rfl _ rfl) rfl
                              refine opg_taken (c := x396 != v70) rfl rfl rfl rfl q2624 hc358 (op_call_v (vs := [(Value.int .i64 ((i16 : Int))), (Value.slice z2 m2 k2)]) (r := (Value.bool (x399))) rfl ca33 rfl (args2 q2625 q2626) I1924 (fun Fr_ hF_ => F33_ok hF_ (h2_.mono ((((((le1.trans le2).trans le1295).trans le1372).trans le1636).trans le1639).trans le1716)) hx399) (fun w1765 I1925 => ?_))
                              refine ⟨_, _, rfl, PH.Le.refl _, ?_, ?_⟩
                              · exact rfl
                              · exact I1925
                            · intro vs1642 f w1766 S1717 X1579 le1717 hA1579 hK1642 hI1682
                              have I1926 : Inv w1766 S1717 (X1579) := hI1682
                              have q2627 : f 143 = (Value.bool (x396 != v70)) := vt (hA1579.at_ 9 rfl _ rfl) rfl
                              have q2628 : f 154 = (Value.bool (x399)) := vt (hA1579.at_ 12 rfl _ rfl) rfl
                              refine opg_taken (c := x396 != v70) rfl rfl rfl rfl q2627 hc358 (op_move (v := (Value.bool (x399))) rfl q2628 ?_)
                              refine ⟨_, _, rfl, PH.Le.refl _, ?_, ?_⟩
                              · exact rfl
                              · exact I1926
                            · intro vs1643 f w1767 S1718 X1580 le1718 hA1580 hK1643 hI1683
                              have I1927 : Inv w1767 S1718 (X1580) := hI1683
                              have q2629 : f 155 = (Value.bool (x399)) := vt (hA1580.at_ 13 rfl _ rfl) rfl
                              exact opg_skip (c := x399) rfl rfl rfl rfl q2629 hc359 rfl ⟨_, _, rfl, PH.Le.refl _, rfl, I1927⟩
                            · intro vs1644 f w1768 S1719 X1581 le1719 hA1581 hK1644 hI1684
                              have I1928 : Inv w1768 S1719 (X1581) := hI1684
                              have q2630 : f 155 = (Value.bool (x399)) := vt (hA1581.at_ 13 rfl _ rfl) rfl
                              have q2631 : f 156 = undef := vt (hA1581.at_ 14 rfl _ rfl) rfl
                              exact opg_skip (c := x399) rfl rfl rfl rfl q2630 hc359 rfl ⟨_, _, rfl, PH.Le.refl _, rfl, I1928⟩
                            · intro vs1645 f w1769 S1720 X1582 le1720 hA1582 hK1645 hI1685
                              have I1929 : Inv w1769 S1720 (X1582) := hI1685
                              have q2632 : f 143 = (Value.bool (x396 != v70)) := vt (hA1582.at_ 9 rfl _ rfl) rfl
                              have q2633 : f 155 = (Value.bool (x399)) := vt (hA1582.at_ 13 rfl _ rfl) rfl
                              have q2634 : f 157 = undef := vt (hA1582.at_ 15 rfl _ rfl) rfl
                              refine opg_taken (c := x396 != v70) rfl rfl rfl rfl q2632 hc358 (op_pick_f (c := x399) (b := (Value.bool (false))) rfl q2633 hc359 rfl ?_)
                              refine ⟨_, _, rfl, PH.Le.refl _, ?_, ?_⟩
                              · exact rfl
                              · exact I1929
                            · intro vs1646 f w1770 S1721 X1583 le1721 hA1583 hK1646 hI1686
                              have I1930 : Inv w1770 S1721 (X1583) := hI1686
                              have q2635 : f 143 = (Value.bool (x396 != v70)) := vt (hA1583.at_ 9 rfl _ rfl) rfl
                              have q2636 : f 151 = (Value.bool (x398 == 0)) := vt (hA1583.at_ 17 rfl _ rfl) rfl
                              have q2637 : f 158 = (Value.bool (false)) := vt (hA1583.at_ 24 rfl _ rfl) rfl
                              refine opg_taken (c := x396 != v70) rfl rfl rfl rfl q2635 hc358 (op_bneq (a := x398 == 0) (b := false) rfl Try.underlying4 q2636 q2637 ?_)
                              refine ⟨_, _, rfl, PH.Le.refl _, ?_, ?_⟩
                              · exact rfl
                              · exact I1930
                            · intro vs1647 f w1771 S1722 X1584 le1722 hA1584 hK1647 hI1687
                              have I1931 : Inv w1771 S1722 (X1584) := hI1687
                              have q2638 : f 143 = (Value.bool (x396 != v70)) := vt (hA1584.at_ 9 rfl _ rfl) rfl
                              have q2639 : f 159 = (Value.bool ((x398 == 0) != false)) := vt (hA1584.at_ 25 rfl _ rfl) rfl
                              refine opg_plain rfl rfl (op_pick_f (c := x396 != v70) (b := (Value.bool ((x398 == 0) != false))) rfl q2638 hc358 q2639 ?_)
                              refine ⟨_, _, rfl, PH.Le.refl _, ?_, ?_⟩
                              · exact rfl
                              · exact I1931
                            · intro vs1648 f w1772 S1723 le1723 hF64 hK1648 hI1688
                              have e2210 : f 1 = (Value.int .i64 (a1)) := (hK1648 1 (keep_all rfl)).trans e2172
                              have e2211 : f 2 = (Value.slice z2 m2 k2) := (hK1648 2 (keep_all rfl)).trans e2173
                              have e2212 : f 3 = (Value.pointer (some ⟨g1, 0, none⟩)) := (hK1648 3 (keep_all rfl)).trans e2174
                              have e2213 : f 7 = (Value.slice z6 m6 k6) := (hK1648 7 (keep_all rfl)).trans e2175
                              have e2214 : f 8 = (Value.slice z7 m7 k7) := (hK1648 8 (keep_all rfl)).trans e2176
                              have e2215 : f 10 = (Value.int .i64 ((i16 : Int))) := (hK1648 10 (keep_all rfl)).trans e2177
                              have e2216 : f 11 = (Value.int .i64 ((i20 : Int))) := (hK1648 11 (keep_all rfl)).trans e2178
                              have I1932 : Inv w1772 S1723 (Row (α := (List Int)) 34 (Value.slice z6 m6 k6) (x9.1) :: Row (α := (List Int)) 34 (Value.slice z7 m7 k7) (x9.2.1) :: Fr) := hI1688
                              have q2640 : f 160 = (Value.bool ((x398 == 0) != false)) := vt (hF64.at_ 26 rfl _ rfl) rfl
                              rcases ifs h147 with ⟨hc361, h147⟩ | ⟨hc361, h147⟩
                              · refine wp_cond_t (b := (x398 == 0) != false) q2640 hc361 ?_
                                refine wp_seq' ?_
                                refine wp_region' ?_
                                refine wl_op rfl (op_assign (v := (Value.bool (false))) rfl rfl ?_)
                                refine wl_nil ?_
                                refine wp_ret' ?_
                                obtain rfl := Option.some.inj h147
                                obtain rfl := (hout20 _ rfl)
                                have h148 := h118
                                obtain rfl := Option.some.inj h148
                                obtain rfl := (hout16 _ rfl)
                                have h119 := h
                                obtain rfl := Option.some.inj h119
                                exact ⟨(Value.bool (false)), (res1 rfl rfl), _, [], ((((((le1.trans le2).trans le1295).trans le1372).trans le1636).trans le1639).trans le1723), ((I1932).drop).drop, rfl, rfl⟩
                              · refine wp_cond_f (b := (x398 == 0) != false) q2640 hc361 ?_
                                refine wp_skip' ?_
                                refine wp_region' ?_
                                refine wl_op rfl (op_move (v := (Value.int .i64 ((i20 : Int)))) rfl e2216 ?_)
                                refine wl_op rfl (op_add (a := (i20 : Int)) (b := 1) rfl rfl rfl ?_)
                                refine wl_op rfl (op_assign (v := (Value.int .i64 (w64 ((i20 : Int) + 1)))) rfl rfl ?_)
                                refine wl_nil ?_
                                obtain rfl := Option.some.inj h147
                                exact ⟨_, rfl, _, ((le1636.trans le1639).trans le1723), ((I1932.pull 1).pull 1), e2210, e2211, e2212, e2213, e2214, e2215, (idx_next hlt20 (cnt_le hx376))⟩
                · rintro s25 f w hs4 hI1689
                  obtain ⟨S1724, le1724, I1933, e2217, e2218, e2219, e2220, e2221, e2222, e2223⟩ := hI1689
                  refine wp_seq' ?_
                  refine wp_seq' ?_
                  refine wp_region' ?_
                  refine wl_op rfl (op_move (v := (Value.int .i64 ((x376 : Int)))) rfl e2223 ?_)
                  refine wl_op rfl (op_fieldAddr_t (v := (Value.pointer (some ⟨g1, 0, none⟩))) rfl fa24_0 e2219 ((p1.mono (((le2.trans le1295).trans le1372).trans le1724)).at_ I1933) ?_)
                  refine wl_op rfl (op_load_int (v := (fieldPtr (Value.pointer (some ⟨g1, 0, none⟩)) 0)) (e := a0.Sensors) rfl sh3 rfl (((p1.mono (((le2.trans le1295).trans le1372).trans le1724)).at_ I1933).fld Panel.fld0) ?_)
                  refine wl_op rfl (op_lss (a := (x376 : Int)) (b := a0.Sensors) rfl rfl rfl ?_)
                  refine wl_nil ?_
                  refine wp_cond_f (b := decide ((x376 : Int) < a0.Sensors)) rfl (cnt_f hx376) ?_
                  refine wp_exit' ?_
                  exact ⟨s25, hs4, _, le1724, ((I1933.pull 1).pull 1), e2217, e2218, e2219, e2220, e2221, e2222⟩
              · rintro f w ⟨out20, rfl, S1725, le1725, I1934, e2224, e2225, e2226, e2227, e2228, e2229⟩
                have h118 := onL_inl h118
                refine wp_region' ?_
                refine wl_op rfl (op_move (v := (Value.int .i64 ((i16 : Int)))) rfl e2229 ?_)
                refine wl_op rfl (op_add (a := (i16 : Int)) (b := 1) rfl rfl rfl ?_)
                refine wl_op rfl (op_assign (v := (Value.int .i64 (w64 ((i16 : Int) + 1)))) rfl rfl ?_)
                refine wl_nil ?_
                obtain rfl := Option.some.inj h118
                exact ⟨_, rfl, _, ((le1295.trans le1372).trans le1725), ((I1934.pull 1).pull 1), e2224, e2225, e2226, e2227, e2228, (idx_next hlt16 (cnt_le hx302))⟩
          · rintro s26 f w hs5 hI1690
            obtain ⟨S1726, le1726, I1935, e2230, e2231, e2232, e2233, e2234, e2235⟩ := hI1690
            refine wp_seq' ?_
            refine wp_seq' ?_
            refine wp_region' ?_
            refine wl_op rfl (op_move (v := (Value.int .i64 ((x302 : Int)))) rfl e2235 ?_)
            refine wl_op rfl (op_move (v := (Value.int .i64 (a1))) rfl e2230 ?_)
            refine wl_op rfl (op_lss (a := (x302 : Int)) (b := a1) rfl rfl rfl ?_)
            refine wl_nil ?_
            refine wp_cond_f (b := decide ((x302 : Int) < a1)) rfl (cnt_f hx302) ?_
            refine wp_exit' ?_
            exact ⟨s26, hs5, _, le1726, ((I1935.pull 1).pull 1), e2230, e2231, e2232, e2233, e2234⟩
        · rintro f w ⟨out16, rfl, S1727, le1727, I1936, e2236, e2237, e2238, e2239, e2240⟩
          have h := onL_inl h
          refine wp_seq' ?_
          refine wp_region' ?_
          obtain ⟨x400, hx400, h⟩ := bnd h
          refine wl_op rfl (op_call_v (vs := []) (r := (Value.bool (x400))) rfl ca16 rfl args0 I1936 (fun Fr_ hF_ => F16_ok hF_  hx400) (fun w1773 I1937 => ?_))
          refine wl_op rfl (op_assign (v := (Value.bool (x400))) rfl rfl ?_)
          refine wl_nil ?_
          refine wp_ret' ?_
          obtain rfl := Option.some.inj h
          exact ⟨(Value.bool (x400)), (res1 rfl rfl), _, [], ((le1.trans le2).trans le1727), ((I1937).drop).drop, rfl, rfl⟩
end Go.Proofs.Ytfeomcdhhgeilaa.Pad
