/- A part of the proof: what the functions of the program compute, shown over the model. -/
import Derived.Test.YtfeomcdhhgeilaaPadSP
import Derived.Test.YtfeomcdhhgeilaaPadSW4
import Derived.Test.YtfeomcdhhgeilaaPadSW11
import Derived.Test.YtfeomcdhhgeilaaPadSW12
import Derived.Test.YtfeomcdhhgeilaaPadSW13
import Derived.Test.YtfeomcdhhgeilaaPadSW17
import Derived.KernelRfl
set_option linter.unusedVariables false
namespace Go.Proofs.Ytfeomcdhhgeilaa.Pad
open Go Go.Proofs
set_option maxHeartbeats 4000000 in
set_option maxRecDepth 100000 in
theorem F8_ok {w : World} {S : PH} {Fr : List HP} {a0 : Panel} {v0 : Value} {a1 : Int} {a2 : (List Signal)} {v2 : Value} {r : Bool} (hI : Inv w S Fr) (h0_ : RV S v0 a0) (h2_ : RV S v2 a2) (h : F8 a0 a1 a2 = some r) :
    Calls Try.prog 8 [v0, (Value.int .i64 (a1)), v2].toArray w (DoneV S Fr (Value.bool (r))) := by
  unfold F8 at h
  obtain ⟨c1, e1, r1⟩ := Panel.inv h0_
  subst e1
  obtain ⟨z1, m1, k1, e2⟩ := rv_form r1
  subst e2
  obtain ⟨z2, m2, k2, e3⟩ := rv_form h2_
  subst e3
  refine calls_enter (n := 78) (vs := [(Value.agg #[(Value.int .i64 (a0.Sensors)), (Value.slice z1 m1 k1), (Value.int .i64 (a0.Stale)), (Value.int .i64 (a0.Limit))]), (Value.int .i64 (a1)), (Value.slice z2 m2 k2)]) Try.func8 rfl rfl rfl ?_
  refine wp_seq' ?_
  refine wp_region' ?_
  refine wl_op rfl (op_box (v := (Value.agg #[(Value.int .i64 (a0.Sensors)), (Value.slice z1 m1 k1), (Value.int .i64 (a0.Stale)), (Value.int .i64 (a0.Limit))])) rfl hI rfl (fun g1 w1 I1 => ?_))
  obtain ⟨S1, le1, I2, p1⟩ := Inv.boxFreeze (x := a0) I1 (Panel.rv (s := a0) r1)
  refine wl_op rfl (op_assign (v := (Value.bool (false))) rfl rfl ?_)
  refine wl_nil ?_
  refine wp_seq' ?_
  refine wp_seq' ?_
  refine wp_region' ?_
  refine wl_op rfl (op_move (v := (Value.int .i64 (a1))) rfl rfl ?_)
  obtain ⟨x1, hx1, h⟩ := bnd h
  refine wl_op rfl (op_call_v (vs := [(Value.int .i64 (a1))]) (r := (Value.bool (x1))) rfl ca20 rfl (args1 rfl) I2 (fun Fr_ hF_ => F20_ok hF_  hx1) (fun w2 I3 => ?_))
  refine wl_nil ?_
  rcases ifs h with ⟨hc1, h⟩ | ⟨hc1, h⟩
  · refine wp_cond_t (b := x1) rfl hc1 ?_
    refine wp_seq' ?_
    refine wp_region' ?_
    obtain ⟨x2, hx2, h⟩ := bnd h
    refine wl_op rfl (op_call_v (vs := []) (r := (Value.bool (x2))) rfl ca16 rfl args0 I3 (fun Fr_ hF_ => F16_ok hF_  hx2) (fun w3 I4 => ?_))
    refine wl_op rfl (op_assign (v := (Value.bool (x2))) rfl rfl ?_)
    refine wl_nil ?_
    refine wp_ret' ?_
    obtain rfl := Option.some.inj h
    exact ⟨(Value.bool (x2)), (res1 rfl rfl), _, [], le1, I4, rfl, rfl⟩
  · refine wp_cond_f (b := x1) rfl hc1 ?_
    refine wp_skip' ?_
    refine wp_seq' ?_
    refine wp_seq' ?_
    obtain ⟨x3, hx3, h⟩ := bnd h
    obtain ⟨x4, hx4, h⟩ := bnd h
    refine wp_draw (sps := [⟨some 18, [], [0], fun vs_ T_ => RV T_ (fr0 vs_ 0) a0, [], [], [], fun hle_ h_ => h_.mono hle_⟩, ⟨some 19, [0], [1], fun vs_ T_ => fr0 vs_ 0 = (Value.int .i64 (x3)), [], [], [], fun _ h_ => h_⟩, ⟨some 20, [], [2], fun vs_ T_ => RV T_ (fr0 vs_ 0) a0, [], [], [], fun hle_ h_ => h_.mono hle_⟩, ⟨some 21, [0, 1, 2], [3], fun vs_ T_ => fr0 vs_ 0 = (Value.int .i64 (x4)), [], [], [], fun _ h_ => h_⟩, ⟨some 22, [0, 1, 2, 3], [4], fun vs_ T_ => fr0 vs_ 0 = (Value.bool (x3 != x4)), [], [], [], fun _ h_ => h_⟩]) (tks := []) (O := Fr) rfl (by kernel_rfl) I3 ⟨?_, ?_, ?_, ?_, ?_, trivial⟩ ?_
    · intro vs1 f w6 S2 X1 le2 hA1 hK1 hI1
      have I7 : Inv w6 S2 (X1) := hI1
      refine opg_plain rfl rfl (op_load (v := (Value.pointer (some ⟨g1, 0, none⟩))) (e := a0) rfl sh24 (hK1 3 (keep_of rfl)) ((p1.mono le2).at_ I7) (fun u3 hu3 => ?_))
      obtain ⟨c2, e4, r2⟩ := Panel.inv hu3
      subst e4
      obtain ⟨z3, m3, k3, e5⟩ := rv_form r2
      subst e5
      refine ⟨_, _, rfl, PH.Le.refl _, ?_, ?_⟩
      · exact (Panel.rv (s := a0) r2)
      · exact I7
    · intro vs2 f w7 S3 X2 le3 hA2 hK2 hI2
      have I8 : Inv w7 S3 (X2) := hI2
      have q1 : f 18 = vs2 0 := (hA2.at_ 0 rfl _ rfl).1 _ rfl
      have r3 : RV S3 (vs2 0) a0 := (hA2.at_ 0 rfl _ rfl).2
      obtain ⟨u4, hu4⟩ : ∃ u, vs2 0 = u := ⟨_, rfl⟩
      rw [hu4] at q1 r3
      obtain ⟨c3, e6, r4⟩ := Panel.inv r3
      subst e6
      obtain ⟨z4, m4, k4, e7⟩ := rv_form r4
      subst e7
      refine opg_plain rfl rfl (op_call_v (vs := [(Value.agg #[(Value.int .i64 (a0.Sensors)), (Value.slice z4 m4 k4), (Value.int .i64 (a0.Stale)), (Value.int .i64 (a0.Limit))])]) (r := (Value.int .i64 (x3))) rfl ca27 rfl (args1 q1) I8 (fun Fr_ hF_ => F27_ok hF_ (Panel.rv (s := a0) r4) hx3) (fun w8 I9 => ?_))
      refine ⟨_, _, rfl, PH.Le.refl _, ?_, ?_⟩
      · exact rfl
      · exact I9
    · intro vs3 f w9 S4 X3 le4 hA3 hK3 hI3
      have I10 : Inv w9 S4 (X3) := hI3
      refine opg_plain rfl rfl (op_load (v := (Value.pointer (some ⟨g1, 0, none⟩))) (e := a0) rfl sh24 (hK3 3 (keep_of rfl)) ((p1.mono le4).at_ I10) (fun u5 hu5 => ?_))
      obtain ⟨c4, e8, r5⟩ := Panel.inv hu5
      subst e8
      obtain ⟨z5, m5, k5, e9⟩ := rv_form r5
      subst e9
      refine ⟨_, _, rfl, PH.Le.refl _, ?_, ?_⟩
      · exact (Panel.rv (s := a0) r5)
      · exact I10
    · intro vs4 f w10 S5 X4 le5 hA4 hK4 hI4
      have I11 : Inv w10 S5 (X4) := hI4
      have q2 : f 20 = vs4 2 := (hA4.at_ 2 rfl _ rfl).1 _ rfl
      have r6 : RV S5 (vs4 2) a0 := (hA4.at_ 2 rfl _ rfl).2
      obtain ⟨u6, hu6⟩ : ∃ u, vs4 2 = u := ⟨_, rfl⟩
      rw [hu6] at q2 r6
      obtain ⟨c5, e10, r7⟩ := Panel.inv r6
      subst e10
      obtain ⟨z6, m6, k6, e11⟩ := rv_form r7
      subst e11
      refine opg_plain rfl rfl (op_call_v (vs := [(Value.agg #[(Value.int .i64 (a0.Sensors)), (Value.slice z6 m6 k6), (Value.int .i64 (a0.Stale)), (Value.int .i64 (a0.Limit))])]) (r := (Value.int .i64 (x4))) rfl ca15 rfl (args1 q2) I11 (fun Fr_ hF_ => F15_ok hF_ (Panel.rv (s := a0) r7) hx4) (fun w11 I12 => ?_))
      refine ⟨_, _, rfl, PH.Le.refl _, ?_, ?_⟩
      · exact rfl
      · exact I12
    · intro vs5 f w12 S6 X5 le6 hA5 hK5 hI5
      have I13 : Inv w12 S6 (X5) := hI5
      have q3 : f 19 = (Value.int .i64 (x3)) := vt (hA5.at_ 1 rfl _ rfl) rfl
      have q4 : f 21 = (Value.int .i64 (x4)) := vt (hA5.at_ 3 rfl _ rfl) rfl
      refine opg_plain rfl rfl (op_neq (a := x3) (b := x4) rfl q3 q4 ?_)
      refine ⟨_, _, rfl, PH.Le.refl _, ?_, ?_⟩
      · exact rfl
      · exact I13
    · intro vs6 f w13 S7 le7 hF1 hK6 hI6
      have e12 : f 1 = (Value.int .i64 (a1)) := (hK6 1 (keep_all rfl)).trans rfl
      have e13 : f 2 = (Value.slice z2 m2 k2) := (hK6 2 (keep_all rfl)).trans rfl
      have e14 : f 3 = (Value.pointer (some ⟨g1, 0, none⟩)) := (hK6 3 (keep_all rfl)).trans rfl
      have I14 : Inv w13 S7 (Fr) := hI6
      have q5 : f 22 = (Value.bool (x3 != x4)) := vt (hF1.at_ 4 rfl _ rfl) rfl
      rcases ifs h with ⟨hc2, h⟩ | ⟨hc2, h⟩
      · refine wp_cond_t (b := x3 != x4) q5 hc2 ?_
        refine wp_seq' ?_
        refine wp_region' ?_
        refine wl_op rfl (op_assign (v := (Value.bool (false))) rfl rfl ?_)
        refine wl_nil ?_
        refine wp_ret' ?_
        obtain rfl := Option.some.inj h
        exact ⟨(Value.bool (false)), (res1 rfl rfl), _, [], (le1.trans le7), I14, rfl, rfl⟩
      · refine wp_cond_f (b := x3 != x4) q5 hc2 ?_
        refine wp_skip' ?_
        refine wp_seq' ?_
        refine wp_region' ?_
        refine wl_op rfl (op_load (v := (Value.pointer (some ⟨g1, 0, none⟩))) (e := a0) rfl sh24 e14 ((p1.mono le7).at_ I14) (fun u7 hu7 => ?_))
        obtain ⟨c6, e15, r8⟩ := Panel.inv hu7
        subst e15
        obtain ⟨z7, m7, k7, e16⟩ := rv_form r8
        subst e16
        refine wl_op rfl (op_move (v := (Value.int .i64 (a1))) rfl e12 ?_)
        refine wl_op rfl (op_move (v := (Value.slice z2 m2 k2)) rfl e13 ?_)
        obtain ⟨x5, hx5, h⟩ := bnd h
        refine wl_op rfl (op_call (vs := [(Value.agg #[(Value.int .i64 (a0.Sensors)), (Value.slice z7 m7 k7), (Value.int .i64 (a0.Stale)), (Value.int .i64 (a0.Limit))]), (Value.int .i64 (a1)), (Value.slice z2 m2 k2)]) rfl ca17 rfl (args3 rfl rfl rfl) (F17_ok I14 (Panel.rv (s := a0) r8) (h2_.mono (le1.trans le7)) hx5) (fun v1 w14 S8 O1 le8 I15 hv1 => ?_))
        obtain ⟨z8, m8, k8, rfl, rfl⟩ := hv1
        refine wl_op rfl (op_move (v := (Value.tuple #[(Value.slice z8 m8 k8), (Value.int .i64 (x5.2))])) rfl rfl ?_)
        refine wl_op rfl (op_extract (v := (Value.slice z8 m8 k8)) rfl rfl rfl ?_)
        refine wl_op rfl (op_extract (v := (Value.int .i64 (x5.2))) rfl rfl rfl ?_)
        refine wl_op rfl (op_assign (v := (Value.slice z8 m8 k8)) rfl rfl ?_)
        refine wl_op rfl (op_assign (v := (Value.int .i64 (x5.2))) rfl rfl ?_)
        refine wl_nil ?_
        refine wp_seq' ?_
        refine wp_region' ?_
        refine wl_op rfl (op_load (v := (Value.pointer (some ⟨g1, 0, none⟩))) (e := a0) rfl sh24 e14 ((p1.mono (le7.trans le8)).at_ I15) (fun u8 hu8 => ?_))
        obtain ⟨c7, e17, r9⟩ := Panel.inv hu8
        subst e17
        obtain ⟨z9, m9, k9, e18⟩ := rv_form r9
        subst e18
        refine wl_op rfl (op_move (v := (Value.int .i64 (a1))) rfl e12 ?_)
        refine wl_op rfl (op_move (v := (Value.slice z2 m2 k2)) rfl e13 ?_)
        obtain ⟨x6, hx6, h⟩ := bnd h
        refine wl_op rfl (op_call (vs := [(Value.agg #[(Value.int .i64 (a0.Sensors)), (Value.slice z9 m9 k9), (Value.int .i64 (a0.Stale)), (Value.int .i64 (a0.Limit))]), (Value.int .i64 (a1)), (Value.slice z2 m2 k2)]) rfl ca28 rfl (args3 rfl rfl rfl) (F28_ok I15 (Panel.rv (s := a0) r9) (h2_.mono ((le1.trans le7).trans le8)) hx6) (fun v2 w15 S9 O2 le9 I16 hv2 => ?_))
        obtain ⟨z10, m10, k10, rfl, rfl⟩ := hv2
        refine wl_op rfl (op_move (v := (Value.tuple #[(Value.slice z10 m10 k10), (Value.int .i64 (x6.2))])) rfl rfl ?_)
        refine wl_op rfl (op_extract (v := (Value.slice z10 m10 k10)) rfl rfl rfl ?_)
        refine wl_op rfl (op_extract (v := (Value.int .i64 (x6.2))) rfl rfl rfl ?_)
        refine wl_op rfl (op_assign (v := (Value.slice z10 m10 k10)) rfl rfl ?_)
        refine wl_op rfl (op_assign (v := (Value.int .i64 (x6.2))) rfl rfl ?_)
        refine wl_nil ?_
        obtain ⟨ov4, h2, h⟩ := bnd h
        refine wp_cut (fun f w => ∃ v4, ov4 = Sum.inl v4 ∧ Inv w S9 (Fr) ∧ f 1 = (Value.int .i64 (a1)) ∧ f 2 = (Value.slice z2 m2 k2) ∧ f 3 = (Value.pointer (some ⟨g1, 0, none⟩))) ?_ ?_
        · refine wp_seq' ?_
          refine wp_region' ?_
          refine wl_op rfl (op_move (v := (Value.int .i64 (x5.2))) rfl rfl ?_)
          refine wl_op rfl (op_move (v := (Value.int .i64 (x6.2))) rfl rfl ?_)
          refine wl_op rfl (op_neq (a := x5.2) (b := x6.2) rfl rfl rfl ?_)
          refine wl_op rfl (op_move (v := (Value.bool (x5.2 != x6.2))) rfl rfl ?_)
          rcases ifs h2 with ⟨hc5, h2⟩ | ⟨hc5, h2⟩
          · refine wl_skip (c := x5.2 != x6.2) rfl rfl rfl rfl hc5 rfl ?_
            refine wl_skip (c := x5.2 != x6.2) rfl rfl rfl rfl hc5 rfl ?_
            refine wl_skip (c := x5.2 != x6.2) rfl rfl rfl rfl hc5 rfl ?_
            refine wl_skip (c := x5.2 != x6.2) rfl rfl rfl rfl hc5 rfl ?_
            refine wl_op rfl (op_pick_t (c := x5.2 != x6.2) (a := (Value.bool (true))) rfl rfl hc5 rfl ?_)
            refine wl_nil ?_
            refine wp_cond_t (b := true) rfl rfl ?_
            refine wp_seq' ?_
            refine wp_region' ?_
            refine wl_op rfl (op_assign (v := (Value.bool (false))) rfl rfl ?_)
            refine wl_nil ?_
            refine wp_ret' ?_
            obtain rfl := Option.some.inj h2
            have h3 := h
            obtain rfl := Option.some.inj h3
            exact ⟨(Value.bool (false)), (res1 rfl rfl), _, [], (((le1.trans le7).trans le8).trans le9), ((I16).drop).drop, rfl, rfl⟩
          · refine wl_taken (c := x5.2 != x6.2) rfl rfl rfl rfl hc5 (op_move (v := (Value.slice z8 m8 k8)) rfl rfl ?_)
            refine wl_taken (c := x5.2 != x6.2) rfl rfl rfl rfl hc5 (op_move (v := (Value.slice z10 m10 k10)) rfl rfl ?_)
            obtain ⟨x8, hx8, h2⟩ := bnd h2
            obtain ⟨S12, Fr2, le12, I20, r12, r13, bk2⟩ := Inv.lend2 (I16.pull 1)
            refine wl_taken (c := x5.2 != x6.2) rfl rfl rfl rfl hc5 (op_call (vs := [(Value.slice z8 m8 k8), (Value.slice z10 m10 k10)]) rfl ca29 rfl (args2 rfl rfl) (F29_ok I20 r12 r13 hx8) (fun v5 w17 S13 O4 le13 I22 hv4 => ?_))
            obtain ⟨rfl, rfl⟩ := hv4
            have I21 := bk2 [] trivial I22 le13
            refine wl_taken (c := x5.2 != x6.2) rfl rfl rfl rfl hc5 (op_not (b := x8) rfl rfl ?_)
            refine wl_op rfl (op_pick_f (c := x5.2 != x6.2) (b := (Value.bool (!x8))) rfl rfl hc5 rfl ?_)
            refine wl_nil ?_
            rcases ifs h2 with ⟨hc6, h2⟩ | ⟨hc6, h2⟩
            · refine wp_cond_t (b := !x8) rfl hc6 ?_
              refine wp_seq' ?_
              refine wp_region' ?_
              refine wl_op rfl (op_assign (v := (Value.bool (false))) rfl rfl ?_)
              refine wl_nil ?_
              refine wp_ret' ?_
              obtain rfl := Option.some.inj h2
              have h3 := h
              obtain rfl := Option.some.inj h3
              exact ⟨(Value.bool (false)), (res1 rfl rfl), _, [], (((le1.trans le7).trans le8).trans le9), ((I21).drop).drop, rfl, rfl⟩
            · refine wp_cond_f (b := !x8) rfl hc6 ?_
              refine wp_skip' ?_
              obtain rfl := Option.some.inj h2
              exact ⟨_, rfl, ((I21).drop).drop, e12, e13, e14⟩
        · rintro f w ⟨v4, rfl, I23, e19, e20, e21⟩
          have h := onL_inl h
          refine wp_seq' ?_
          refine wp_region' ?_
          refine wl_op rfl (op_load (v := (Value.pointer (some ⟨g1, 0, none⟩))) (e := a0) rfl sh24 e21 ((p1.mono ((le7.trans le8).trans le9)).at_ I23) (fun u9 hu9 => ?_))
          obtain ⟨c8, e22, r14⟩ := Panel.inv hu9
          subst e22
          obtain ⟨z11, m11, k11, e23⟩ := rv_form r14
          subst e23
          refine wl_op rfl (op_move (v := (Value.int .i64 (a1))) rfl e19 ?_)
          refine wl_op rfl (op_move (v := (Value.slice z2 m2 k2)) rfl e20 ?_)
          obtain ⟨x9, hx9, h⟩ := bnd h
          refine wl_op rfl (op_call (vs := [(Value.agg #[(Value.int .i64 (a0.Sensors)), (Value.slice z11 m11 k11), (Value.int .i64 (a0.Stale)), (Value.int .i64 (a0.Limit))]), (Value.int .i64 (a1)), (Value.slice z2 m2 k2)]) rfl ca30 rfl (args3 rfl rfl rfl) (F30_ok I23 (Panel.rv (s := a0) r14) (h2_.mono (((le1.trans le7).trans le8).trans le9)) hx9) (fun v6 w18 S14 O5 le14 I24 hv5 => ?_))
          obtain ⟨z12, m12, k12, z13, m13, k13, rfl, rfl⟩ := hv5
          refine wl_op rfl (op_move (v := (Value.tuple #[(Value.slice z12 m12 k12), (Value.slice z13 m13 k13), (Value.int .i64 (x9.2.2))])) rfl rfl ?_)
          refine wl_op rfl (op_extract (v := (Value.slice z12 m12 k12)) rfl rfl rfl ?_)
          refine wl_op rfl (op_extract (v := (Value.slice z13 m13 k13)) rfl rfl rfl ?_)
          refine wl_op rfl (op_extract (v := (Value.int .i64 (x9.2.2))) rfl rfl rfl ?_)
          refine wl_op rfl (op_assign (v := (Value.slice z12 m12 k12)) rfl rfl ?_)
          refine wl_op rfl (op_assign (v := (Value.slice z13 m13 k13)) rfl rfl ?_)
          refine wl_op rfl (op_assign (v := (Value.int .i64 (x9.2.2))) rfl rfl ?_)
          refine wl_nil ?_
          refine wp_seq' ?_
          refine wp_region' ?_
          refine wl_op rfl (op_load (v := (Value.pointer (some ⟨g1, 0, none⟩))) (e := a0) rfl sh24 e21 ((p1.mono (((le7.trans le8).trans le9).trans le14)).at_ I24) (fun u10 hu10 => ?_))
          obtain ⟨c9, e24, r15⟩ := Panel.inv hu10
          subst e24
          obtain ⟨z14, m14, k14, e25⟩ := rv_form r15
          subst e25
          refine wl_op rfl (op_move (v := (Value.int .i64 (a1))) rfl e19 ?_)
          refine wl_op rfl (op_move (v := (Value.slice z2 m2 k2)) rfl e20 ?_)
          obtain ⟨x10, hx10, h⟩ := bnd h
          refine wl_op rfl (op_call (vs := [(Value.agg #[(Value.int .i64 (a0.Sensors)), (Value.slice z14 m14 k14), (Value.int .i64 (a0.Stale)), (Value.int .i64 (a0.Limit))]), (Value.int .i64 (a1)), (Value.slice z2 m2 k2)]) rfl ca31 rfl (args3 rfl rfl rfl) (F31_ok I24 (Panel.rv (s := a0) r15) (h2_.mono ((((le1.trans le7).trans le8).trans le9).trans le14)) hx10) (fun v7 w19 S15 O6 le15 I25 hv6 => ?_))
          obtain ⟨z15, m15, k15, z16, m16, k16, rfl, rfl⟩ := hv6
          refine wl_op rfl (op_move (v := (Value.tuple #[(Value.slice z15 m15 k15), (Value.slice z16 m16 k16), (Value.int .i64 (x10.2.2))])) rfl rfl ?_)
          refine wl_op rfl (op_extract (v := (Value.slice z15 m15 k15)) rfl rfl rfl ?_)
          refine wl_op rfl (op_extract (v := (Value.slice z16 m16 k16)) rfl rfl rfl ?_)
          refine wl_op rfl (op_extract (v := (Value.int .i64 (x10.2.2))) rfl rfl rfl ?_)
          refine wl_op rfl (op_assign (v := (Value.slice z15 m15 k15)) rfl rfl ?_)
          refine wl_op rfl (op_assign (v := (Value.slice z16 m16 k16)) rfl rfl ?_)
          refine wl_op rfl (op_assign (v := (Value.int .i64 (x10.2.2))) rfl rfl ?_)
          refine wl_nil ?_
          refine wp_seq' ?_
          refine wp_region' ?_
          refine wl_op rfl (op_move (v := (Value.int .i64 (x9.2.2))) rfl rfl ?_)
          refine wl_op rfl (op_move (v := (Value.int .i64 (x10.2.2))) rfl rfl ?_)
          refine wl_op rfl (op_eql (a := x9.2.2) (b := x10.2.2) rfl rfl rfl ?_)
          refine wl_op rfl (op_move (v := (Value.bool (x9.2.2 == x10.2.2))) rfl rfl ?_)
          rcases ifs h with ⟨hc7, h⟩ | ⟨hc7, h⟩
          · refine wl_taken (c := x9.2.2 == x10.2.2) rfl rfl rfl rfl hc7 (op_move (v := (Value.slice z12 m12 k12)) rfl rfl ?_)
            refine wl_taken (c := x9.2.2 == x10.2.2) rfl rfl rfl rfl hc7 (op_move (v := (Value.slice z15 m15 k15)) rfl rfl ?_)
            obtain ⟨x11, hx11, h⟩ := bnd h
            obtain ⟨S16, Fr3, le16, I26, r16, r17, bk3⟩ := Inv.lend2 (I25.pull 2)
            refine wl_taken (c := x9.2.2 == x10.2.2) rfl rfl rfl rfl hc7 (op_call (vs := [(Value.slice z12 m12 k12), (Value.slice z15 m15 k15)]) rfl ca32 rfl (args2 rfl rfl) (F32_ok I26 r16 r17 hx11) (fun v8 w20 S17 O7 le17 I28 hv7 => ?_))
            obtain ⟨rfl, rfl⟩ := hv7
            have I27 := bk3 [] trivial I28 le17
            refine wl_op rfl (op_pick_t (c := x9.2.2 == x10.2.2) (a := (Value.bool (x11))) rfl rfl hc7 rfl ?_)
            refine wl_op rfl (op_move (v := (Value.bool (x11))) rfl rfl ?_)
            rcases ifs h with ⟨hc8, h⟩ | ⟨hc8, h⟩
            · refine wl_taken (c := x11) rfl rfl rfl rfl hc8 (op_move (v := (Value.slice z13 m13 k13)) rfl rfl ?_)
              refine wl_taken (c := x11) rfl rfl rfl rfl hc8 (op_move (v := (Value.slice z16 m16 k16)) rfl rfl ?_)
              obtain ⟨x12, hx12, h⟩ := bnd h
              obtain ⟨S18, Fr4, le18, I29, r18, r19, bk4⟩ := Inv.lend2 ((I27.pull 2).pull 3)
              refine wl_taken (c := x11) rfl rfl rfl rfl hc8 (op_call (vs := [(Value.slice z13 m13 k13), (Value.slice z16 m16 k16)]) rfl ca32 rfl (args2 rfl rfl) (F32_ok I29 r18 r19 hx12) (fun v9 w21 S19 O8 le19 I31 hv8 => ?_))
              obtain ⟨rfl, rfl⟩ := hv8
              have I30 := bk4 [] trivial I31 le19
              refine wl_op rfl (op_pick_t (c := x11) (a := (Value.bool (x12))) rfl rfl hc8 rfl ?_)
              refine wl_op rfl (op_move (v := (Value.bool (x12))) rfl rfl ?_)
              rcases ifs h with ⟨hc9, h⟩ | ⟨hc9, h⟩
              · obtain ⟨x13, hx13, h⟩ := bnd h
                refine wl_taken (c := x12) rfl rfl rfl rfl hc9 (op_call_v (vs := []) (r := (Value.bool (x13))) rfl ca16 rfl args0 I30 (fun Fr_ hF_ => F16_ok hF_  hx13) (fun w22 I32 => ?_))
                refine wl_op rfl (op_pick_t (c := x12) (a := (Value.bool (x13))) rfl rfl hc9 rfl ?_)
                refine wl_op rfl (op_assign (v := (Value.bool (x13))) rfl rfl ?_)
                refine wl_nil ?_
                refine wp_ret' ?_
                obtain rfl := Option.some.inj h
                exact ⟨(Value.bool (x13)), (res1 rfl rfl), _, [], (((((le1.trans le7).trans le8).trans le9).trans le14).trans le15), ((((I32).drop).drop).drop).drop, rfl, rfl⟩
              · refine wl_skip (c := x12) rfl rfl rfl rfl hc9 rfl ?_
                refine wl_op rfl (op_pick_f (c := x12) (b := (Value.bool (false))) rfl rfl hc9 rfl ?_)
                refine wl_op rfl (op_assign (v := (Value.bool (false))) rfl rfl ?_)
                refine wl_nil ?_
                refine wp_ret' ?_
                obtain rfl := Option.some.inj h
                exact ⟨(Value.bool (false)), (res1 rfl rfl), _, [], (((((le1.trans le7).trans le8).trans le9).trans le14).trans le15), ((((I30).drop).drop).drop).drop, rfl, rfl⟩
            · refine wl_skip (c := x11) rfl rfl rfl rfl hc8 rfl ?_
              refine wl_skip (c := x11) rfl rfl rfl rfl hc8 rfl ?_
              refine wl_skip (c := x11) rfl rfl rfl rfl hc8 rfl ?_
              refine wl_op rfl (op_pick_f (c := x11) (b := (Value.bool (false))) rfl rfl hc8 rfl ?_)
              refine wl_op rfl (op_move (v := (Value.bool (false))) rfl rfl ?_)
              refine wl_skip (c := false) rfl rfl rfl rfl rfl rfl ?_
              refine wl_op rfl (op_pick_f (c := false) (b := (Value.bool (false))) rfl rfl rfl rfl ?_)
              refine wl_op rfl (op_assign (v := (Value.bool (false))) rfl rfl ?_)
              refine wl_nil ?_
              refine wp_ret' ?_
              obtain rfl := Option.some.inj h
              exact ⟨(Value.bool (false)), (res1 rfl rfl), _, [], (((((le1.trans le7).trans le8).trans le9).trans le14).trans le15), ((((I27).drop).drop).drop).drop, rfl, rfl⟩
          · refine wl_skip (c := x9.2.2 == x10.2.2) rfl rfl rfl rfl hc7 rfl ?_
            refine wl_skip (c := x9.2.2 == x10.2.2) rfl rfl rfl rfl hc7 rfl ?_
            refine wl_skip (c := x9.2.2 == x10.2.2) rfl rfl rfl rfl hc7 rfl ?_
            refine wl_op rfl (op_pick_f (c := x9.2.2 == x10.2.2) (b := (Value.bool (false))) rfl rfl hc7 rfl ?_)
            refine wl_op rfl (op_move (v := (Value.bool (false))) rfl rfl ?_)
            refine wl_skip (c := false) rfl rfl rfl rfl rfl rfl ?_
            refine wl_skip (c := false) rfl rfl rfl rfl rfl rfl ?_
            refine wl_skip (c := false) rfl rfl rfl rfl rfl rfl ?_
            refine wl_op rfl (op_pick_f (c := false) (b := (Value.bool (false))) rfl rfl rfl rfl ?_)
            refine wl_op rfl (op_move (v := (Value.bool (false))) rfl rfl ?_)
            refine wl_skip (c := false) rfl rfl rfl rfl rfl rfl ?_
            refine wl_op rfl (op_pick_f (c := false) (b := (Value.bool (false))) rfl rfl rfl rfl ?_)
            refine wl_op rfl (op_assign (v := (Value.bool (false))) rfl rfl ?_)
            refine wl_nil ?_
            refine wp_ret' ?_
            obtain rfl := Option.some.inj h
            exact ⟨(Value.bool (false)), (res1 rfl rfl), _, [], (((((le1.trans le7).trans le8).trans le9).trans le14).trans le15), ((((I25).drop).drop).drop).drop, rfl, rfl⟩
end Go.Proofs.Ytfeomcdhhgeilaa.Pad
