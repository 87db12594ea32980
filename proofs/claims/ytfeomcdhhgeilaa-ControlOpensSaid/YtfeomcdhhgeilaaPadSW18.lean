/- A part of the proof: what the functions of the program compute, shown over the model. -/
import Derived.Test.YtfeomcdhhgeilaaPadSP
import Derived.Test.YtfeomcdhhgeilaaPadSW4
import Derived.Test.YtfeomcdhhgeilaaPadSW11
import Derived.Test.YtfeomcdhhgeilaaPadSW17
import Derived.KernelRfl
set_option linter.unusedVariables false
namespace Go.Proofs.Ytfeomcdhhgeilaa.Pad
open Go Go.Proofs
set_option maxHeartbeats 4000000 in
set_option maxRecDepth 100000 in
theorem F5_ok {w : World} {S : PH} {Fr : List HP} {a0 : Panel} {v0 : Value} {a1 : Int} {a2 : (List Signal)} {v2 : Value} {r : Bool} (hI : Inv w S Fr) (h0_ : RV S v0 a0) (h2_ : RV S v2 a2) (h : F5 a0 a1 a2 = some r) :
    Calls Try.prog 5 [v0, (Value.int .i64 (a1)), v2].toArray w (DoneV S Fr (Value.bool (r))) := by
  unfold F5 at h
  obtain ⟨c1, e1, r1⟩ := Panel.inv h0_
  subst e1
  obtain ⟨z1, m1, k1, e2⟩ := rv_form r1
  subst e2
  obtain ⟨z2, m2, k2, e3⟩ := rv_form h2_
  subst e3
  refine calls_enter (n := 82) (vs := [(Value.agg #[(Value.int .i64 (a0.Sensors)), (Value.slice z1 m1 k1), (Value.int .i64 (a0.Stale)), (Value.int .i64 (a0.Limit))]), (Value.int .i64 (a1)), (Value.slice z2 m2 k2)]) Try.func5 rfl rfl rfl ?_
  refine wp_seq' ?_
  refine wp_region' ?_
  refine wl_op rfl (op_box (v := (Value.agg #[(Value.int .i64 (a0.Sensors)), (Value.slice z1 m1 k1), (Value.int .i64 (a0.Stale)), (Value.int .i64 (a0.Limit))])) rfl hI rfl (fun g1 w1 I1 => ?_))
  obtain ⟨S1, le1, I2, p1⟩ := Inv.boxFreeze (x := a0) I1 (Panel.rv (s := a0) r1)
  refine wl_op rfl (op_assign (v := (Value.bool (false))) rfl rfl ?_)
  refine wl_nil ?_
  obtain ⟨ov1, h2, h⟩ := bnd h
  refine wp_cut (fun f w => ∃ v1, ov1 = Sum.inl v1 ∧ Inv w S1 (Fr) ∧ f 1 = (Value.int .i64 (a1)) ∧ f 2 = (Value.slice z2 m2 k2) ∧ f 3 = (Value.pointer (some ⟨g1, 0, none⟩))) ?_ ?_
  · refine wp_seq' ?_
    refine wp_region' ?_
    refine wl_op rfl (op_move (v := (Value.int .i64 (a1))) rfl rfl ?_)
    obtain ⟨x5, hx5, h2⟩ := bnd h2
    refine wl_op rfl (op_call_v (vs := [(Value.int .i64 (a1))]) (r := (Value.bool (x5))) rfl ca20 rfl (args1 rfl) I2 (fun Fr_ hF_ => F20_ok hF_  hx5) (fun w6 I7 => ?_))
    refine wl_op rfl (op_move (v := (Value.bool (x5))) rfl rfl ?_)
    rcases ifs h2 with ⟨hc3, h2⟩ | ⟨hc3, h2⟩
    · refine wl_skip (c := x5) rfl rfl rfl rfl hc3 rfl ?_
      refine wl_skip (c := x5) rfl rfl rfl rfl hc3 rfl ?_
      refine wl_skip (c := x5) rfl rfl rfl rfl hc3 rfl ?_
      refine wl_skip (c := x5) rfl rfl rfl rfl hc3 rfl ?_
      refine wl_skip (c := x5) rfl rfl rfl rfl hc3 rfl ?_
      refine wl_op rfl (op_pick_t (c := x5) (a := (Value.bool (true))) rfl rfl hc3 rfl ?_)
      refine wl_nil ?_
      refine wp_cond_t (b := true) rfl rfl ?_
      refine wp_seq' ?_
      refine wp_region' ?_
      obtain ⟨x6, hx6, h2⟩ := bnd h2
      refine wl_op rfl (op_call_v (vs := []) (r := (Value.bool (x6))) rfl ca16 rfl args0 I7 (fun Fr_ hF_ => F16_ok hF_  hx6) (fun w7 I8 => ?_))
      refine wl_op rfl (op_assign (v := (Value.bool (x6))) rfl rfl ?_)
      refine wl_nil ?_
      refine wp_ret' ?_
      obtain rfl := Option.some.inj h2
      have h3 := h
      obtain rfl := Option.some.inj h3
      exact ⟨(Value.bool (x6)), (res1 rfl rfl), _, [], le1, I8, rfl, rfl⟩
    · refine wl_taken (c := x5) rfl rfl rfl rfl hc3 (op_load (v := (Value.pointer (some ⟨g1, 0, none⟩))) (e := a0) rfl sh24 rfl (p1.at_ I7) (fun u2 hu2 => ?_))
      obtain ⟨c3, e6, r3⟩ := Panel.inv hu2
      subst e6
      obtain ⟨z4, m4, k4, e7⟩ := rv_form r3
      subst e7
      refine wl_taken (c := x5) rfl rfl rfl rfl hc3 (op_move (v := (Value.int .i64 (a1))) rfl rfl ?_)
      refine wl_taken (c := x5) rfl rfl rfl rfl hc3 (op_move (v := (Value.slice z2 m2 k2)) rfl rfl ?_)
      obtain ⟨x7, hx7, h2⟩ := bnd h2
      refine wl_taken (c := x5) rfl rfl rfl rfl hc3 (op_call_v (vs := [(Value.agg #[(Value.int .i64 (a0.Sensors)), (Value.slice z4 m4 k4), (Value.int .i64 (a0.Stale)), (Value.int .i64 (a0.Limit))]), (Value.int .i64 (a1)), (Value.slice z2 m2 k2)]) (r := (Value.bool (x7))) rfl ca22 rfl (args3 rfl rfl rfl) I7 (fun Fr_ hF_ => F22_ok hF_ (Panel.rv (s := a0) r3) (h2_.mono le1) hx7) (fun w8 I9 => ?_))
      refine wl_taken (c := x5) rfl rfl rfl rfl hc3 (op_not (b := x7) rfl rfl ?_)
      refine wl_op rfl (op_pick_f (c := x5) (b := (Value.bool (!x7))) rfl rfl hc3 rfl ?_)
      refine wl_nil ?_
      rcases ifs h2 with ⟨hc4, h2⟩ | ⟨hc4, h2⟩
      · refine wp_cond_t (b := !x7) rfl hc4 ?_
        refine wp_seq' ?_
        refine wp_region' ?_
        obtain ⟨x8, hx8, h2⟩ := bnd h2
        refine wl_op rfl (op_call_v (vs := []) (r := (Value.bool (x8))) rfl ca16 rfl args0 I9 (fun Fr_ hF_ => F16_ok hF_  hx8) (fun w9 I10 => ?_))
        refine wl_op rfl (op_assign (v := (Value.bool (x8))) rfl rfl ?_)
        refine wl_nil ?_
        refine wp_ret' ?_
        obtain rfl := Option.some.inj h2
        have h3 := h
        obtain rfl := Option.some.inj h3
        exact ⟨(Value.bool (x8)), (res1 rfl rfl), _, [], le1, I10, rfl, rfl⟩
      · refine wp_cond_f (b := !x7) rfl hc4 ?_
        refine wp_skip' ?_
        obtain rfl := Option.some.inj h2
        exact ⟨_, rfl, I9, rfl, rfl, rfl⟩
  · rintro f w ⟨v1, rfl, I11, e8, e9, e10⟩
    have h := onL_inl h
    refine wp_seq' ?_
    refine wp_region' ?_
    refine wl_op rfl (op_load (v := (Value.pointer (some ⟨g1, 0, none⟩))) (e := a0) rfl sh24 e10 (p1.at_ I11) (fun u3 hu3 => ?_))
    obtain ⟨c4, e11, r4⟩ := Panel.inv hu3
    subst e11
    obtain ⟨z5, m5, k5, e12⟩ := rv_form r4
    subst e12
    refine wl_op rfl (op_move (v := (Value.int .i64 (a1))) rfl e8 ?_)
    refine wl_op rfl (op_move (v := (Value.slice z2 m2 k2)) rfl e9 ?_)
    obtain ⟨x9, hx9, h⟩ := bnd h
    refine wl_op rfl (op_call (vs := [(Value.agg #[(Value.int .i64 (a0.Sensors)), (Value.slice z5 m5 k5), (Value.int .i64 (a0.Stale)), (Value.int .i64 (a0.Limit))]), (Value.int .i64 (a1)), (Value.slice z2 m2 k2)]) rfl ca17 rfl (args3 rfl rfl rfl) (F17_ok I11 (Panel.rv (s := a0) r4) (h2_.mono le1) hx9) (fun v2 w10 S2 O1 le2 I12 hv1 => ?_))
    obtain ⟨z6, m6, k6, rfl, rfl⟩ := hv1
    refine wl_op rfl (op_move (v := (Value.tuple #[(Value.slice z6 m6 k6), (Value.int .i64 (x9.2))])) rfl rfl ?_)
    refine wl_op rfl (op_extract (v := (Value.slice z6 m6 k6)) rfl rfl rfl ?_)
    refine wl_op rfl (op_extract (v := (Value.int .i64 (x9.2))) rfl rfl rfl ?_)
    refine wl_op rfl (op_assign (v := (Value.slice z6 m6 k6)) rfl rfl ?_)
    refine wl_op rfl (op_assign (v := (Value.int .i64 (x9.2))) rfl rfl ?_)
    refine wl_nil ?_
    refine wp_seq' ?_
    refine wp_seq' ?_
    refine wp_region' ?_
    refine wl_op rfl (op_move (v := (Value.int .i64 (x9.2))) rfl rfl ?_)
    refine wl_op rfl (op_neq (a := x9.2) (b := 0) rfl rfl rfl ?_)
    refine wl_nil ?_
    rcases ifs h with ⟨hc5, h⟩ | ⟨hc5, h⟩
    · refine wp_cond_t (b := x9.2 != 0) rfl hc5 ?_
      refine wp_seq' ?_
      refine wp_region' ?_
      obtain ⟨x10, hx10, h⟩ := bnd h
      refine wl_op rfl (op_call_v (vs := []) (r := (Value.bool (x10))) rfl ca16 rfl args0 I12 (fun Fr_ hF_ => F16_ok hF_  hx10) (fun w11 I13 => ?_))
      refine wl_op rfl (op_assign (v := (Value.bool (x10))) rfl rfl ?_)
      refine wl_nil ?_
      refine wp_ret' ?_
      obtain rfl := Option.some.inj h
      exact ⟨(Value.bool (x10)), (res1 rfl rfl), _, [], (le1.trans le2), (I13).drop, rfl, rfl⟩
    · refine wp_cond_f (b := x9.2 != 0) rfl hc5 ?_
      refine wp_skip' ?_
      refine wp_seq' ?_
      refine wp_seq' ?_
      refine wp_region' ?_
      refine wl_op rfl (op_move (v := (Value.slice z6 m6 k6)) rfl rfl ?_)
      refine wl_op rfl (op_len_row (α := Int) rfl Try.underlying34 rfl (I12.nth 0 rfl) ?_)
      refine wl_op rfl (op_move (v := (Value.int .i64 (a1))) rfl e8 ?_)
      refine wl_op rfl (op_neq (a := (x9.1.length : Int)) (b := a1) rfl rfl rfl ?_)
      refine wl_nil ?_
      rcases ifs h with ⟨hc6, h⟩ | ⟨hc6, h⟩
      · refine wp_cond_t (b := (x9.1.length : Int) != a1) rfl hc6 ?_
        refine wp_seq' ?_
        refine wp_region' ?_
        refine wl_op rfl (op_assign (v := (Value.bool (false))) rfl rfl ?_)
        refine wl_nil ?_
        refine wp_ret' ?_
        obtain rfl := Option.some.inj h
        exact ⟨(Value.bool (false)), (res1 rfl rfl), _, [], (le1.trans le2), (I12).drop, rfl, rfl⟩
      · refine wp_cond_f (b := (x9.1.length : Int) != a1) rfl hc6 ?_
        refine wp_skip' ?_
        refine wp_seq' ?_
        refine wp_seq' ?_
        refine wp_region' ?_
        refine wl_op rfl (op_assign (v := (Value.int .i64 (0))) rfl rfl ?_)
        refine wl_nil ?_
        have hk1 : a0.Doors.length ≤ 9223372036854775807 := (rv_len r4)
        obtain ⟨o8, hrun4, h⟩ := bnd h
        refine wp_cutN (fun f w => ∃ out4, o8 = Sum.inl out4 ∧ ∃ (S_ : PH), S2.Le S_ ∧ Inv w S_ (Row (α := Int) 3 (Value.slice z6 m6 k6) (x9.1) :: Fr) ∧ f 1 = (Value.int .i64 (a1)) ∧ f 2 = (Value.slice z2 m2 k2) ∧ f 3 = (Value.pointer (some ⟨g1, 0, none⟩)) ∧ f 7 = (Value.slice z6 m6 k6)) ?_ ?_
        · refine wp_block' ?_
          refine wp_forN (I := fun (i4 : Nat) (s7 : Unit) (f : Frm) (w : World) => ∃ (S_ : PH), S2.Le S_ ∧ Inv w S_ (Row (α := Int) 3 (Value.slice z6 m6 k6) (x9.1) :: Fr) ∧ f 1 = (Value.int .i64 (a1)) ∧ f 2 = (Value.slice z2 m2 k2) ∧ f 3 = (Value.pointer (some ⟨g1, 0, none⟩)) ∧ f 7 = (Value.slice z6 m6 k6) ∧ f 9 = (Value.int .i64 (i4 : Int))) hrun4 ⟨_, (PH.Le.refl _), I12, e8, e9, e10, rfl, rfl⟩ ?_ ?_
          · rintro i4 s7 f w o7 hlt4 hI799 h46 hout4
            obtain ⟨S944, le944, I1079, e963, e964, e965, e966, e967⟩ := hI799
            refine wp_seq' ?_
            refine wp_seq' ?_
            refine wp_region' ?_
            refine wl_op rfl (op_move (v := (Value.int .i64 ((i4 : Int)))) rfl e967 ?_)
            refine wl_op rfl (op_fieldAddr_t (v := (Value.pointer (some ⟨g1, 0, none⟩))) rfl fa24_1 e965 ((p1.mono (le2.trans le944)).at_ I1079) ?_)
            refine wl_op rfl (op_load (v := (fieldPtr (Value.pointer (some ⟨g1, 0, none⟩)) 1)) (e := a0.Doors) rfl sh22 rfl (((p1.mono (le2.trans le944)).at_ I1079).fld Panel.fld1) (fun u409 hu409 => ?_))
            obtain ⟨z376, m376, k376, e969⟩ := rv_form hu409
            subst e969
            refine wl_op rfl (op_len_rv rfl Try.underlying22 rfl hu409 ?_)
            refine wl_op rfl (op_lss (a := (i4 : Int)) (b := (a0.Doors.length : Int)) rfl rfl rfl ?_)
            refine wl_nil ?_
            refine wp_cond_t (b := decide ((i4 : Int) < (a0.Doors.length : Int))) rfl (len_t hlt4) ?_
            refine wp_skip' ?_
            refine wp_seq' ?_
            refine wp_block' ?_
            refine wp_seq' ?_
            refine wp_region' ?_
            refine wl_op rfl (op_assign (v := (Value.int .i64 (0))) rfl rfl ?_)
            refine wl_nil ?_
            refine wp_seq' ?_
            refine wp_region' ?_
            refine wl_op rfl (op_assign (v := (Value.int .i64 (0))) rfl rfl ?_)
            refine wl_nil ?_
            obtain ⟨x149, hx149, h46⟩ := bnd h46
            obtain ⟨o10, hrun5, h46⟩ := bnd h46
            refine wp_cutN (fun f w => ∃ out5, o10 = Sum.inl out5 ∧ ∃ (S_ : PH), S944.Le S_ ∧ Inv w S_ (Row (α := Int) 3 (Value.slice z6 m6 k6) (x9.1) :: Fr) ∧ f 1 = (Value.int .i64 (a1)) ∧ f 2 = (Value.slice z2 m2 k2) ∧ f 3 = (Value.pointer (some ⟨g1, 0, none⟩)) ∧ f 7 = (Value.slice z6 m6 k6) ∧ f 9 = (Value.int .i64 ((i4 : Int))) ∧ f 10 = (Value.int .i64 (out5))) ?_ ?_
            · refine wp_block' ?_
              refine wp_forN (I := fun (i5 : Nat) (s8 : (Int)) (f : Frm) (w : World) => ∃ (S_ : PH), S944.Le S_ ∧ Inv w S_ (Row (α := Int) 3 (Value.slice z6 m6 k6) (x9.1) :: Fr) ∧ f 1 = (Value.int .i64 (a1)) ∧ f 2 = (Value.slice z2 m2 k2) ∧ f 3 = (Value.pointer (some ⟨g1, 0, none⟩)) ∧ f 7 = (Value.slice z6 m6 k6) ∧ f 9 = (Value.int .i64 ((i4 : Int))) ∧ f 10 = (Value.int .i64 (s8)) ∧ f 11 = (Value.int .i64 (i5 : Int))) hrun5 ⟨_, (PH.Le.refl _), I1079, e963, e964, e965, e966, e967, rfl, rfl⟩ ?_ ?_
              · rintro i5 s8 f w o9 hlt5 hI998 h57 hout5
                obtain ⟨S1178, le1178, I1344, e1192, e1193, e1194, e1195, e1196, e1197, e1198⟩ := hI998
                refine wp_seq' ?_
                refine wp_seq' ?_
                refine wp_region' ?_
                refine wl_op rfl (op_move (v := (Value.int .i64 ((i5 : Int)))) rfl e1198 ?_)
                refine wl_op rfl (op_move (v := (Value.int .i64 (a1))) rfl e1192 ?_)
                refine wl_op rfl (op_lss (a := (i5 : Int)) (b := a1) rfl rfl rfl ?_)
                refine wl_nil ?_
                refine wp_cond_t (b := decide ((i5 : Int) < a1)) rfl (cnt_t hx149 hlt5) ?_
                refine wp_skip' ?_
                refine wp_seq' ?_
                refine wp_block' ?_
                obtain ⟨v111, h60, h57⟩ := bnd h57
                refine wp_cut (fun f w => ∃ (S_ : PH), S1178.Le S_ ∧ Inv w S_ (Row (α := Int) 3 (Value.slice z6 m6 k6) (x9.1) :: Fr) ∧ f 1 = (Value.int .i64 (a1)) ∧ f 2 = (Value.slice z2 m2 k2) ∧ f 3 = (Value.pointer (some ⟨g1, 0, none⟩)) ∧ f 7 = (Value.slice z6 m6 k6) ∧ f 9 = (Value.int .i64 ((i4 : Int))) ∧ f 10 = (Value.int .i64 (v111)) ∧ f 11 = (Value.int .i64 ((i5 : Int)))) ?_ ?_
                · refine wp_seq' ?_
                  obtain ⟨x153, hx153, h60⟩ := bnd h60
                  obtain ⟨x154, hx154, h60⟩ := bnd h60
                  obtain ⟨x155, hx155, h60⟩ := bnd h60
                  refine wp_draw (sps := [⟨some 48, [], [0], fun vs_ T_ => fr0 vs_ 0 = (fieldPtr (Value.pointer (some ⟨g1, 0, none⟩)) 1), [], [], [], fun _ h_ => h_⟩, ⟨some 49, [0], [1], fun vs_ T_ => RV T_ (fr0 vs_ 0) a0.Doors, [], [], [], fun hle_ h_ => h_.mono hle_⟩, ⟨some 50, [], [2], fun vs_ T_ => fr0 vs_ 0 = (Value.int .i64 ((i4 : Int))), [], [], [], fun _ h_ => h_⟩, ⟨some 51, [0, 1, 2], [3, 1], fun vs_ T_ => fr0 vs_ 0 = (elemPtr (fr0 vs_ 1) ((i4 : Int)) (Enc.sz Gate)), [], [], [], fun _ h_ => h_⟩, ⟨some 52, [0, 1, 2, 3], [4, 1], fun vs_ T_ => fr0 vs_ 0 = (fieldPtr (elemPtr (fr0 vs_ 1) ((i4 : Int)) (Enc.sz Gate)) 1), [], [], [], fun _ h_ => h_⟩, ⟨some 53, [0, 1, 2, 3, 4], [5], fun vs_ T_ => RV T_ (fr0 vs_ 0) x153.When, [], [], [], fun hle_ h_ => h_.mono hle_⟩, ⟨some 54, [], [6], fun vs_ T_ => RV T_ (fr0 vs_ 0) a0, [], [], [], fun hle_ h_ => h_.mono hle_⟩, ⟨some 55, [], [7], fun vs_ T_ => fr0 vs_ 0 = (Value.int .i64 ((i5 : Int))), [], [], [], fun _ h_ => h_⟩, ⟨some 56, [], [8], fun vs_ T_ => fr0 vs_ 0 = (Value.slice z2 m2 k2), [], [], [], fun _ h_ => h_⟩, ⟨some 57, [6, 7, 8], [9], fun vs_ T_ => ∃ (a0_ : Option Addr) (n0_ k0_ : Nat), fr0 vs_ 0 = (Value.slice a0_ n0_ k0_), [], [], [0], fun _ h_ => h_⟩, ⟨some 58, [0, 1, 2, 3, 4, 5, 6, 7, 8, 9], [10], fun vs_ T_ => fr0 vs_ 0 = (Value.bool (x155)), [0], [], [], fun _ h_ => h_⟩]) (tks := [⟨some 9, none, [9], fun vs_ => Row (α := Int) 3 (fr0 vs_ 0) (x154)⟩]) (O := Row (α := Int) 3 (Value.slice z6 m6 k6) (x9.1) :: Fr) rfl (by kernel_rfl) I1344 ⟨?_, ?_, ?_, ?_, ?_, ?_, ?_, ?_, ?_, ?_, ?_, trivial⟩ ?_
                  · intro vs1003 f w1139 S1198 X942 le1198 hA942 hK1003 hI1011
                    have I1369 : Inv w1139 S1198 (X942) := hI1011
                    refine opg_plain rfl rfl (op_fieldAddr_t (v := (Value.pointer (some ⟨g1, 0, none⟩))) rfl fa24_1 ((hK1003 3 (keep_of rfl)).trans e1194) ((p1.mono (((le2.trans le944).trans le1178).trans le1198)).at_ I1369) ?_)
                    refine ⟨_, _, rfl, PH.Le.refl _, ?_, ?_⟩
                    · exact rfl
                    · exact I1369
                  · intro vs1004 f w1140 S1199 X943 le1199 hA943 hK1004 hI1012
                    have I1370 : Inv w1140 S1199 (X943) := hI1012
                    have q1458 : f 48 = (fieldPtr (Value.pointer (some ⟨g1, 0, none⟩)) 1) := vt (hA943.at_ 0 rfl _ rfl) rfl
                    refine opg_plain rfl rfl (op_load (v := (fieldPtr (Value.pointer (some ⟨g1, 0, none⟩)) 1)) (e := a0.Doors) rfl sh22 q1458 (((p1.mono (((le2.trans le944).trans le1178).trans le1199)).at_ I1370).fld Panel.fld1) (fun u523 hu523 => ?_))
                    obtain ⟨z478, m478, k478, e1218⟩ := rv_form hu523
                    subst e1218
                    refine ⟨_, _, rfl, PH.Le.refl _, ?_, ?_⟩
                    · exact hu523
                    · exact I1370
                  · intro vs1005 f w1141 S1200 X944 le1200 hA944 hK1005 hI1013
                    have I1371 : Inv w1141 S1200 (X944) := hI1013
                    refine opg_plain rfl rfl (op_move (v := (Value.int .i64 ((i4 : Int)))) rfl ((hK1005 9 (keep_of rfl)).trans e1196) ?_)
                    refine ⟨_, _, rfl, PH.Le.refl _, ?_, ?_⟩
                    · exact rfl
                    · exact I1371
                  · intro vs1006 f w1142 S1201 X945 le1201 hA945 hK1006 hI1014
                    have I1372 : Inv w1142 S1201 (X945) := hI1014
                    have q1459 : f 49 = vs1006 1 := (hA945.at_ 1 rfl _ rfl).1 _ rfl
                    have r375 : RV S1201 (vs1006 1) a0.Doors := (hA945.at_ 1 rfl _ rfl).2
                    obtain ⟨u524, hu524⟩ : ∃ u, vs1006 1 = u := ⟨_, rfl⟩
                    rw [hu524] at q1459 r375
                    obtain ⟨z479, m479, k479, e1219⟩ := rv_form r375
                    subst e1219
                    have q1460 : f 50 = (Value.int .i64 ((i4 : Int))) := vt (hA945.at_ 2 rfl _ rfl) rfl
                    refine opg_plain rfl rfl (op_indexAddr_rv (v := (Value.slice z479 m479 k479)) (i := (i4 : Int)) (e := x153) rfl Try.underlying22 sh33 q1459 r375 q1460 hx153 ?_)
                    refine ⟨_, _, rfl, PH.Le.refl _, ?_, ?_⟩
                    · show (elemPtr (Value.slice z479 m479 k479) ((i4 : Int)) (Enc.sz Gate)) = (elemPtr (vs1006 1) ((i4 : Int)) (Enc.sz Gate))
                      simp only [hu524] <;> rfl
                    · exact I1372
                  · intro vs1007 f w1143 S1202 X946 le1202 hA946 hK1007 hI1015
                    have I1373 : Inv w1143 S1202 (X946) := hI1015
                    have q1461 : f 49 = vs1007 1 := (hA946.at_ 1 rfl _ rfl).1 _ rfl
                    have r376 : RV S1202 (vs1007 1) a0.Doors := (hA946.at_ 1 rfl _ rfl).2
                    obtain ⟨u525, hu525⟩ : ∃ u, vs1007 1 = u := ⟨_, rfl⟩
                    rw [hu525] at q1461 r376
                    obtain ⟨z480, m480, k480, e1220⟩ := rv_form r376
                    subst e1220
                    have q1462 : f 50 = (Value.int .i64 ((i4 : Int))) := vt (hA946.at_ 2 rfl _ rfl) rfl
                    have q1463 : f 51 = (elemPtr (vs1007 1) ((i4 : Int)) (Enc.sz Gate)) := vt (hA946.at_ 3 rfl _ rfl) rfl
                    simp only [hu525] at q1463
                    have q1463 : f 51 = (elemPtr (Value.slice z480 m480 k480) ((i4 : Int)) (Enc.sz Gate)) := q1463
                    refine opg_plain rfl rfl (op_fieldAddr_t (v := (elemPtr (Value.slice z480 m480 k480) ((i4 : Int)) (Enc.sz Gate))) rfl fa33_1 q1463 (r376.elem I1373.in_ hx153) ?_)
                    refine ⟨_, _, rfl, PH.Le.refl _, ?_, ?_⟩
                    · show (fieldPtr (elemPtr (Value.slice z480 m480 k480) ((i4 : Int)) (Enc.sz Gate)) 1) = (fieldPtr (elemPtr (vs1007 1) ((i4 : Int)) (Enc.sz Gate)) 1)
                      simp only [hu525] <;> rfl
                    · exact I1373
                  · intro vs1008 f w1144 S1203 X947 le1203 hA947 hK1008 hI1016
                    have I1374 : Inv w1144 S1203 (X947) := hI1016
                    have q1464 : f 49 = vs1008 1 := (hA947.at_ 1 rfl _ rfl).1 _ rfl
                    have r377 : RV S1203 (vs1008 1) a0.Doors := (hA947.at_ 1 rfl _ rfl).2
                    obtain ⟨u526, hu526⟩ : ∃ u, vs1008 1 = u := ⟨_, rfl⟩
                    rw [hu526] at q1464 r377
                    obtain ⟨z481, m481, k481, e1221⟩ := rv_form r377
                    subst e1221
                    have q1465 : f 50 = (Value.int .i64 ((i4 : Int))) := vt (hA947.at_ 2 rfl _ rfl) rfl
                    have q1466 : f 51 = (elemPtr (vs1008 1) ((i4 : Int)) (Enc.sz Gate)) := vt (hA947.at_ 3 rfl _ rfl) rfl
                    simp only [hu526] at q1466
                    have q1466 : f 51 = (elemPtr (Value.slice z481 m481 k481) ((i4 : Int)) (Enc.sz Gate)) := q1466
                    have q1467 : f 52 = (fieldPtr (elemPtr (vs1008 1) ((i4 : Int)) (Enc.sz Gate)) 1) := vt (hA947.at_ 4 rfl _ rfl) rfl
                    simp only [hu526] at q1467
                    have q1467 : f 52 = (fieldPtr (elemPtr (Value.slice z481 m481 k481) ((i4 : Int)) (Enc.sz Gate)) 1) := q1467
                    refine opg_plain rfl rfl (op_load (v := (fieldPtr (elemPtr (Value.slice z481 m481 k481) ((i4 : Int)) (Enc.sz Gate)) 1)) (e := x153.When) rfl sh31 q1467 ((r377.elem I1374.in_ hx153).fld Gate.fld1) (fun u527 hu527 => ?_))
                    obtain ⟨z482, m482, k482, e1222⟩ := rv_form hu527
                    subst e1222
                    refine ⟨_, _, rfl, PH.Le.refl _, ?_, ?_⟩
                    · exact hu527
                    · exact I1374
                  · intro vs1009 f w1145 S1204 X948 le1204 hA948 hK1009 hI1017
                    have I1375 : Inv w1145 S1204 (X948) := hI1017
                    refine opg_plain rfl rfl (op_load (v := (Value.pointer (some ⟨g1, 0, none⟩))) (e := a0) rfl sh24 ((hK1009 3 (keep_of rfl)).trans e1194) ((p1.mono (((le2.trans le944).trans le1178).trans le1204)).at_ I1375) (fun u528 hu528 => ?_))
                    obtain ⟨c67, e1223, r378⟩ := Panel.inv hu528
                    subst e1223
                    obtain ⟨z483, m483, k483, e1224⟩ := rv_form r378
                    subst e1224
                    refine ⟨_, _, rfl, PH.Le.refl _, ?_, ?_⟩
                    · exact (Panel.rv (s := a0) r378)
                    · exact I1375
                  · intro vs1010 f w1146 S1205 X949 le1205 hA949 hK1010 hI1018
                    have I1376 : Inv w1146 S1205 (X949) := hI1018
                    refine opg_plain rfl rfl (op_move (v := (Value.int .i64 ((i5 : Int)))) rfl ((hK1010 11 (keep_of rfl)).trans e1198) ?_)
                    refine ⟨_, _, rfl, PH.Le.refl _, ?_, ?_⟩
                    · exact rfl
                    · exact I1376
                  · intro vs1011 f w1147 S1206 X950 le1206 hA950 hK1011 hI1019
                    have I1377 : Inv w1147 S1206 (X950) := hI1019
                    refine opg_plain rfl rfl (op_move (v := (Value.slice z2 m2 k2)) rfl ((hK1011 2 (keep_of rfl)).trans e1193) ?_)
                    refine ⟨_, _, rfl, PH.Le.refl _, ?_, ?_⟩
                    · exact rfl
                    · exact I1377
                  · intro vs1012 f w1148 S1207 X951 le1207 hA951 hK1012 hI1020
                    have I1378 : Inv w1148 S1207 (X951) := hI1020
                    have q1468 : f 54 = vs1012 6 := (hA951.at_ 0 rfl _ rfl).1 _ rfl
                    have r379 : RV S1207 (vs1012 6) a0 := (hA951.at_ 0 rfl _ rfl).2
                    obtain ⟨u529, hu529⟩ : ∃ u, vs1012 6 = u := ⟨_, rfl⟩
                    rw [hu529] at q1468 r379
                    obtain ⟨c68, e1225, r380⟩ := Panel.inv r379
                    subst e1225
                    obtain ⟨z484, m484, k484, e1226⟩ := rv_form r380
                    subst e1226
                    have q1469 : f 55 = (Value.int .i64 ((i5 : Int))) := vt (hA951.at_ 1 rfl _ rfl) rfl
                    have q1470 : f 56 = (Value.slice z2 m2 k2) := vt (hA951.at_ 2 rfl _ rfl) rfl
                    refine opg_plain rfl rfl (op_call (vs := [(Value.agg #[(Value.int .i64 (a0.Sensors)), (Value.slice z484 m484 k484), (Value.int .i64 (a0.Stale)), (Value.int .i64 (a0.Limit))]), (Value.int .i64 ((i5 : Int))), (Value.slice z2 m2 k2)]) rfl ca24 rfl (args3 q1468 q1469 q1470) (F24_ok I1378 (Panel.rv (s := a0) r380) (h2_.mono ((((le1.trans le2).trans le944).trans le1178).trans le1207)) hx154) (fun v113 w1149 S1208 O96 le1208 I1379 hv96 => ?_))
                    obtain ⟨z485, m485, k485, rfl, rfl⟩ := hv96
                    refine ⟨_, _, rfl, le1208, ?_, ?_⟩
                    · exact ⟨_, _, _, rfl⟩
                    · exact I1379
                  · intro vs1013 f w1150 S1209 X952 le1209 hA952 hK1013 hI1021
                    have I1380 : Inv w1150 S1209 (Row (α := Int) 3 (vs1013 9) (x154) :: X952) := hI1021
                    have q1471 : f 53 = vs1013 5 := (hA952.at_ 5 rfl _ rfl).1 _ rfl
                    have r381 : RV S1209 (vs1013 5) x153.When := (hA952.at_ 5 rfl _ rfl).2
                    obtain ⟨u530, hu530⟩ : ∃ u, vs1013 5 = u := ⟨_, rfl⟩
                    rw [hu530] at q1471 r381
                    obtain ⟨z486, m486, k486, e1227⟩ := rv_form r381
                    subst e1227
                    obtain ⟨z487, m487, k487, e1228⟩ := (hA952.at_ 9 rfl _ rfl).2
                    have e1228 : vs1013 9 = (Value.slice z487 m487 k487) := e1228
                    have q1472 : f 57 = (Value.slice z487 m487 k487) := ((hA952.at_ 9 rfl _ rfl).1 _ rfl).trans e1228
                    have I1381 := I1380
                    rw [e1228] at I1381
                    obtain ⟨S1210, Fr64, le1210, I1382, r382, bk64⟩ := Inv.lend1 I1381
                    refine opg_plain rfl rfl (op_call (vs := [(Value.slice z486 m486 k486), (Value.slice z487 m487 k487)]) rfl ca23 rfl (args2 q1471 q1472) (F23_ok I1382 (r381.mono le1210) r382 hx155) (fun v114 w1151 S1211 O97 le1211 I1384 hv97 => ?_))
                    obtain ⟨rfl, rfl⟩ := hv97
                    have I1383 := bk64 [] trivial I1384 le1211
                    refine ⟨_, _, rfl, PH.Le.refl _, ?_, ?_⟩
                    · exact rfl
                    · show Inv _ _ (Row (α := Int) 3 (vs1013 9) (x154) :: X952)
                      simp only [e1228]
                      exact I1383
                  · intro vs1014 f w1152 S1212 le1212 hF62 hK1014 hI1022
                    have e1229 : f 1 = (Value.int .i64 (a1)) := (hK1014 1 (keep_all rfl)).trans e1192
                    have e1230 : f 2 = (Value.slice z2 m2 k2) := (hK1014 2 (keep_all rfl)).trans e1193
                    have e1231 : f 3 = (Value.pointer (some ⟨g1, 0, none⟩)) := (hK1014 3 (keep_all rfl)).trans e1194
                    have e1232 : f 7 = (Value.slice z6 m6 k6) := (hK1014 7 (keep_all rfl)).trans e1195
                    have e1233 : f 9 = (Value.int .i64 ((i4 : Int))) := (hK1014 9 (keep_all rfl)).trans e1196
                    have e1234 : f 10 = (Value.int .i64 (s8)) := (hK1014 10 (keep_all rfl)).trans e1197
                    have e1235 : f 11 = (Value.int .i64 ((i5 : Int))) := (hK1014 11 (keep_all rfl)).trans e1198
                    have I1385 : Inv w1152 S1212 (Row (α := Int) 3 (vs1014 9) (x154) :: Row (α := Int) 3 (Value.slice z6 m6 k6) (x9.1) :: Fr) := hI1022
                    obtain ⟨z488, m488, k488, e1236⟩ := (hF62.at_ 9 rfl _ rfl).2
                    have e1236 : vs1014 9 = (Value.slice z488 m488 k488) := e1236
                    have q1473 : f 57 = (Value.slice z488 m488 k488) := ((hF62.at_ 9 rfl _ rfl).1 _ rfl).trans e1236
                    have I1386 := I1385
                    rw [e1236] at I1386
                    have q1474 : f 58 = (Value.bool (x155)) := vt (hF62.at_ 10 rfl _ rfl) rfl
                    rcases ifs h60 with ⟨hc68, h60⟩ | ⟨hc68, h60⟩
                    · refine wp_cond_t (b := x155) q1474 hc68 ?_
                      refine wp_region' ?_
                      refine wl_op rfl (op_move (v := (Value.int .i64 (s8))) rfl e1234 ?_)
                      refine wl_op rfl (op_add (a := s8) (b := 1) rfl rfl rfl ?_)
                      refine wl_op rfl (op_assign (v := (Value.int .i64 (w64 (s8 + 1)))) rfl rfl ?_)
                      refine wl_nil ?_
                      obtain rfl := Option.some.inj h60
                      exact ⟨_, le1212, (I1386).drop, e1229, e1230, e1231, e1232, e1233, rfl, e1235⟩
                    · refine wp_cond_f (b := x155) q1474 hc68 ?_
                      refine wp_region' ?_
                      refine wl_op rfl (op_assign (v := (Value.int .i64 (0))) rfl rfl ?_)
                      refine wl_nil ?_
                      obtain rfl := Option.some.inj h60
                      exact ⟨_, le1212, (I1386).drop, e1229, e1230, e1231, e1232, e1233, rfl, e1235⟩
                · rintro f w ⟨S1213, le1213, I1387, e1237, e1238, e1239, e1240, e1241, e1242, e1243⟩
                  refine wp_seq' ?_
                  obtain ⟨x156, hx156, h57⟩ := bnd h57
                  rcases ifs h57 with ⟨hc69, h57⟩ | ⟨hc69, h57⟩
                  · obtain ⟨x157, hx157, h57⟩ := bnd h57
                    obtain ⟨x158, hx158, h57⟩ := bnd h57
                    refine wp_draw (sps := [⟨some 61, [], [0], fun vs_ T_ => fr0 vs_ 0 = (Value.int .i64 (v111)), [], [], [], fun _ h_ => h_⟩, ⟨some 62, [], [1], fun vs_ T_ => fr0 vs_ 0 = (fieldPtr (Value.pointer (some ⟨g1, 0, none⟩)) 2), [], [], [], fun _ h_ => h_⟩, ⟨some 63, [1], [2], fun vs_ T_ => fr0 vs_ 0 = (Value.int .i64 (a0.Stale)), [], [], [], fun _ h_ => h_⟩, ⟨some 64, [], [3], fun vs_ T_ => fr0 vs_ 0 = (fieldPtr (Value.pointer (some ⟨g1, 0, none⟩)) 1), [], [], [], fun _ h_ => h_⟩, ⟨some 65, [3], [4], fun vs_ T_ => RV T_ (fr0 vs_ 0) a0.Doors, [], [], [], fun hle_ h_ => h_.mono hle_⟩, ⟨some 66, [], [5], fun vs_ T_ => fr0 vs_ 0 = (Value.int .i64 ((i4 : Int))), [], [], [], fun _ h_ => h_⟩, ⟨some 67, [3, 4, 5], [6, 4], fun vs_ T_ => fr0 vs_ 0 = (elemPtr (fr0 vs_ 1) ((i4 : Int)) (Enc.sz Gate)), [], [], [], fun _ h_ => h_⟩, ⟨some 68, [3, 4, 5, 6], [7, 4], fun vs_ T_ => fr0 vs_ 0 = (fieldPtr (elemPtr (fr0 vs_ 1) ((i4 : Int)) (Enc.sz Gate)) 0), [], [], [], fun _ h_ => h_⟩, ⟨some 69, [3, 4, 5, 6, 7], [8], fun vs_ T_ => fr0 vs_ 0 = (Value.int .i64 (x156.Wait)), [], [], [], fun _ h_ => h_⟩, ⟨some 70, [1, 2, 3, 4, 5, 6, 7, 8], [9], fun vs_ T_ => fr0 vs_ 0 = (Value.int .i64 (w64 (a0.Stale + x156.Wait))), [], [], [], fun _ h_ => h_⟩, ⟨some 71, [1, 2, 3, 4, 5, 6, 7, 8, 9], [10], fun vs_ T_ => fr0 vs_ 0 = (Value.int .i64 (w64 ((w64 (a0.Stale + x156.Wait)) - 1))), [], [], [], fun _ h_ => h_⟩, ⟨some 72, [0, 1, 2, 3, 4, 5, 6, 7, 8, 9, 10], [11], fun vs_ T_ => fr0 vs_ 0 = (Value.bool (decide ((w64 ((w64 (a0.Stale + x156.Wait)) - 1)) ≤ v111))), [], [], [], fun _ h_ => h_⟩, ⟨some 73, [0, 1, 2, 3, 4, 5, 6, 7, 8, 9, 10, 11], [12], fun vs_ T_ => fr0 vs_ 0 = (Value.bool (decide ((w64 ((w64 (a0.Stale + x156.Wait)) - 1)) ≤ v111))), [], [], [], fun _ h_ => h_⟩, ⟨some 74, [0, 1, 2, 3, 4, 5, 6, 7, 8, 9, 10, 11, 12], [13], fun vs_ T_ => fr0 vs_ 0 = (Value.slice z6 m6 k6), [], [], [], fun _ h_ => h_⟩, ⟨some 75, [0, 1, 2, 3, 4, 5, 6, 7, 8, 9, 10, 11, 12], [14], fun vs_ T_ => fr0 vs_ 0 = (Value.int .i64 ((i5 : Int))), [], [], [], fun _ h_ => h_⟩, ⟨some 76, [0, 1, 2, 3, 4, 5, 6, 7, 8, 9, 10, 11, 12, 13, 14], [15], fun vs_ T_ => fr0 vs_ 0 = (elemPtr (Value.slice z6 m6 k6) ((i5 : Int)) (Enc.sz Int)), [0], [], [], fun _ h_ => h_⟩, ⟨some 77, [0, 1, 2, 3, 4, 5, 6, 7, 8, 9, 10, 11, 12, 13, 14, 15], [16], fun vs_ T_ => fr0 vs_ 0 = (Value.int .i64 (x157)), [0], [], [], fun _ h_ => h_⟩, ⟨some 78, [0, 1, 2, 3, 4, 5, 6, 7, 8, 9, 10, 11, 12], [17], fun vs_ T_ => fr0 vs_ 0 = (Value.int .i64 ((i4 : Int))), [], [], [], fun _ h_ => h_⟩, ⟨some 79, [0, 1, 2, 3, 4, 5, 6, 7, 8, 9, 10, 11, 12, 13, 14, 15, 16, 17], [18], fun vs_ T_ => fr0 vs_ 0 = (Value.bool (x158)), [], [], [], fun _ h_ => h_⟩, ⟨some 80, [0, 1, 2, 3, 4, 5, 6, 7, 8, 9, 10, 11, 12, 13, 14, 15, 16, 17, 18], [19], fun vs_ T_ => fr0 vs_ 0 = (Value.bool (x158)), [], [], [], fun _ h_ => h_⟩]) (tks := [⟨none, none, [], fun vs_ => Row (α := Int) 3 (Value.slice z6 m6 k6) (x9.1)⟩]) (O := Fr) rfl (by kernel_rfl) I1387 ⟨?_, ?_, ?_, ?_, ?_, ?_, ?_, ?_, ?_, ?_, ?_, ?_, ?_, ?_, ?_, ?_, ?_, ?_, ?_, ?_, trivial⟩ ?_
                    · intro vs1015 f w1154 S1214 X953 le1214 hA953 hK1015 hI1023
                      have I1389 : Inv w1154 S1214 (X953) := hI1023
                      refine opg_plain rfl rfl (op_move (v := (Value.int .i64 (v111))) rfl ((hK1015 10 (keep_of rfl)).trans e1242) ?_)
                      refine ⟨_, _, rfl, PH.Le.refl _, ?_, ?_⟩
                      · exact rfl
                      · exact I1389
                    · intro vs1016 f w1155 S1215 X954 le1215 hA954 hK1016 hI1024
                      have I1390 : Inv w1155 S1215 (X954) := hI1024
                      refine opg_plain rfl rfl (op_fieldAddr_t (v := (Value.pointer (some ⟨g1, 0, none⟩))) rfl fa24_2 ((hK1016 3 (keep_of rfl)).trans e1239) ((p1.mono ((((le2.trans le944).trans le1178).trans le1213).trans le1215)).at_ I1390) ?_)
                      refine ⟨_, _, rfl, PH.Le.refl _, ?_, ?_⟩
                      · exact rfl
                      · exact I1390
                    · intro vs1017 f w1156 S1216 X955 le1216 hA955 hK1017 hI1025
                      have I1391 : Inv w1156 S1216 (X955) := hI1025
                      have q1475 : f 62 = (fieldPtr (Value.pointer (some ⟨g1, 0, none⟩)) 2) := vt (hA955.at_ 0 rfl _ rfl) rfl
                      refine opg_plain rfl rfl (op_load_int (v := (fieldPtr (Value.pointer (some ⟨g1, 0, none⟩)) 2)) (e := a0.Stale) rfl sh3 q1475 (((p1.mono ((((le2.trans le944).trans le1178).trans le1213).trans le1216)).at_ I1391).fld Panel.fld2) ?_)
                      refine ⟨_, _, rfl, PH.Le.refl _, ?_, ?_⟩
                      · exact rfl
                      · exact I1391
                    · intro vs1018 f w1157 S1217 X956 le1217 hA956 hK1018 hI1026
                      have I1392 : Inv w1157 S1217 (X956) := hI1026
                      refine opg_plain rfl rfl (op_fieldAddr_t (v := (Value.pointer (some ⟨g1, 0, none⟩))) rfl fa24_1 ((hK1018 3 (keep_of rfl)).trans e1239) ((p1.mono ((((le2.trans le944).trans le1178).trans le1213).trans le1217)).at_ I1392) ?_)
                      refine ⟨_, _, rfl, PH.Le.refl _, ?_, ?_⟩
                      · exact rfl
                      · exact I1392
                    · intro vs1019 f w1158 S1218 X957 le1218 hA957 hK1019 hI1027
                      have I1393 : Inv w1158 S1218 (X957) := hI1027
                      have q1476 : f 64 = (fieldPtr (Value.pointer (some ⟨g1, 0, none⟩)) 1) := vt (hA957.at_ 0 rfl _ rfl) rfl
                      refine opg_plain rfl rfl (op_load (v := (fieldPtr (Value.pointer (some ⟨g1, 0, none⟩)) 1)) (e := a0.Doors) rfl sh22 q1476 (((p1.mono ((((le2.trans le944).trans le1178).trans le1213).trans le1218)).at_ I1393).fld Panel.fld1) (fun u533 hu533 => ?_))
                      obtain ⟨z489, m489, k489, e1244⟩ := rv_form hu533
                      subst e1244
                      refine ⟨_, _, rfl, PH.Le.refl _, ?_, ?_⟩
                      · exact hu533
                      · exact I1393
                    · intro vs1020 f w1159 S1219 X958 le1219 hA958 hK1020 hI1028
                      have I1394 : Inv w1159 S1219 (X958) := hI1028
                      refine opg_plain rfl rfl (op_move (v := (Value.int .i64 ((i4 : Int)))) rfl ((hK1020 9 (keep_of rfl)).trans e1241) ?_)
                      refine ⟨_, _, rfl, PH.Le.refl _, ?_, ?_⟩
                      · exact rfl
                      · exact I1394
                    · intro vs1021 f w1160 S1220 X959 le1220 hA959 hK1021 hI1029
                      have I1395 : Inv w1160 S1220 (X959) := hI1029
                      have q1477 : f 65 = vs1021 4 := (hA959.at_ 1 rfl _ rfl).1 _ rfl
                      have r383 : RV S1220 (vs1021 4) a0.Doors := (hA959.at_ 1 rfl _ rfl).2
                      obtain ⟨u534, hu534⟩ : ∃ u, vs1021 4 = u := ⟨_, rfl⟩
                      rw [hu534] at q1477 r383
                      obtain ⟨z490, m490, k490, e1245⟩ := rv_form r383
                      subst e1245
                      have q1478 : f 66 = (Value.int .i64 ((i4 : Int))) := vt (hA959.at_ 2 rfl _ rfl) rfl
                      refine opg_plain rfl rfl (op_indexAddr_rv (v := (Value.slice z490 m490 k490)) (i := (i4 : Int)) (e := x156) rfl Try.underlying22 sh33 q1477 r383 q1478 hx156 ?_)
                      refine ⟨_, _, rfl, PH.Le.refl _, ?_, ?_⟩
                      · show (elemPtr (Value.slice z490 m490 k490) ((i4 : Int)) (Enc.sz Gate)) = (elemPtr (vs1021 4) ((i4 : Int)) (Enc.sz Gate))
                        simp only [hu534] <;> rfl
                      · exact I1395
                    · intro vs1022 f w1161 S1221 X960 le1221 hA960 hK1022 hI1030
                      have I1396 : Inv w1161 S1221 (X960) := hI1030
                      have q1479 : f 65 = vs1022 4 := (hA960.at_ 1 rfl _ rfl).1 _ rfl
                      have r384 : RV S1221 (vs1022 4) a0.Doors := (hA960.at_ 1 rfl _ rfl).2
                      obtain ⟨u535, hu535⟩ : ∃ u, vs1022 4 = u := ⟨_, rfl⟩
                      rw [hu535] at q1479 r384
                      obtain ⟨z491, m491, k491, e1246⟩ := rv_form r384
                      subst e1246
                      have q1480 : f 66 = (Value.int .i64 ((i4 : Int))) := vt (hA960.at_ 2 rfl _ rfl) rfl
                      have q1481 : f 67 = (elemPtr (vs1022 4) ((i4 : Int)) (Enc.sz Gate)) := vt (hA960.at_ 3 rfl _ rfl) rfl
                      simp only [hu535] at q1481
                      have q1481 : f 67 = (elemPtr (Value.slice z491 m491 k491) ((i4 : Int)) (Enc.sz Gate)) := q1481
                      refine opg_plain rfl rfl (op_fieldAddr_t (v := (elemPtr (Value.slice z491 m491 k491) ((i4 : Int)) (Enc.sz Gate))) rfl fa33_0 q1481 (r384.elem I1396.in_ hx156) ?_)
                      refine ⟨_, _, rfl, PH.Le.refl _, ?_, ?_⟩
                      · show (fieldPtr (elemPtr (Value.slice z491 m491 k491) ((i4 : Int)) (Enc.sz Gate)) 0) = (fieldPtr (elemPtr (vs1022 4) ((i4 : Int)) (Enc.sz Gate)) 0)
                        simp only [hu535] <;> rfl
                      · exact I1396
                    · intro vs1023 f w1162 S1222 X961 le1222 hA961 hK1023 hI1031
                      have I1397 : Inv w1162 S1222 (X961) := hI1031
                      have q1482 : f 65 = vs1023 4 := (hA961.at_ 1 rfl _ rfl).1 _ rfl
                      have r385 : RV S1222 (vs1023 4) a0.Doors := (hA961.at_ 1 rfl _ rfl).2
                      obtain ⟨u536, hu536⟩ : ∃ u, vs1023 4 = u := ⟨_, rfl⟩
                      rw [hu536] at q1482 r385
                      obtain ⟨z492, m492, k492, e1247⟩ := rv_form r385
                      subst e1247
                      have q1483 : f 66 = (Value.int .i64 ((i4 : Int))) := vt (hA961.at_ 2 rfl _ rfl) rfl
                      have q1484 : f 67 = (elemPtr (vs1023 4) ((i4 : Int)) (Enc.sz Gate)) := vt (hA961.at_ 3 rfl _ rfl) rfl
                      simp only [hu536] at q1484
                      have q1484 : f 67 = (elemPtr (Value.slice z492 m492 k492) ((i4 : Int)) (Enc.sz Gate)) := q1484
                      have q1485 : f 68 = (fieldPtr (elemPtr (vs1023 4) ((i4 : Int)) (Enc.sz Gate)) 0) := vt (hA961.at_ 4 rfl _ rfl) rfl
                      simp only [hu536] at q1485
                      have q1485 : f 68 = (fieldPtr (elemPtr (Value.slice z492 m492 k492) ((i4 : Int)) (Enc.sz Gate)) 0) := q1485
                      refine opg_plain rfl rfl (op_load_int (v := (fieldPtr (elemPtr (Value.slice z492 m492 k492) ((i4 : Int)) (Enc.sz Gate)) 0)) (e := x156.Wait) rfl sh3 q1485 ((r385.elem I1397.in_ hx156).fld Gate.fld0) ?_)
                      refine ⟨_, _, rfl, PH.Le.refl _, ?_, ?_⟩
                      · exact rfl
                      · exact I1397
                    · intro vs1024 f w1163 S1223 X962 le1223 hA962 hK1024 hI1032
                      have I1398 : Inv w1163 S1223 (X962) := hI1032
                      have q1486 : f 63 = (Value.int .i64 (a0.Stale)) := vt (hA962.at_ 1 rfl _ rfl) rfl
                      have q1487 : f 69 = (Value.int .i64 (x156.Wait)) := vt (hA962.at_ 7 rfl _ rfl) rfl
                      refine opg_plain rfl rfl (op_add (a := a0.Stale) (b := x156.Wait) rfl q1486 q1487 ?_)
                      refine ⟨_, _, rfl, PH.Le.refl _, ?_, ?_⟩
                      · exact rfl
                      · exact I1398
                    · intro vs1025 f w1164 S1224 X963 le1224 hA963 hK1025 hI1033
                      have I1399 : Inv w1164 S1224 (X963) := hI1033
                      have q1488 : f 70 = (Value.int .i64 (w64 (a0.Stale + x156.Wait))) := vt (hA963.at_ 8 rfl _ rfl) rfl
                      refine opg_plain rfl rfl (op_sub (a := w64 (a0.Stale + x156.Wait)) (b := 1) rfl q1488 rfl ?_)
                      refine ⟨_, _, rfl, PH.Le.refl _, ?_, ?_⟩
                      · exact rfl
                      · exact I1399
                    · intro vs1026 f w1165 S1225 X964 le1225 hA964 hK1026 hI1034
                      have I1400 : Inv w1165 S1225 (X964) := hI1034
                      have q1489 : f 61 = (Value.int .i64 (v111)) := vt (hA964.at_ 0 rfl _ rfl) rfl
                      have q1490 : f 71 = (Value.int .i64 (w64 ((w64 (a0.Stale + x156.Wait)) - 1))) := vt (hA964.at_ 10 rfl _ rfl) rfl
                      refine opg_plain rfl rfl (op_geq (a := v111) (b := w64 ((w64 (a0.Stale + x156.Wait)) - 1)) rfl q1489 q1490 ?_)
                      refine ⟨_, _, rfl, PH.Le.refl _, ?_, ?_⟩
                      · exact rfl
                      · exact I1400
                    · intro vs1027 f w1166 S1226 X965 le1226 hA965 hK1027 hI1035
                      have I1401 : Inv w1166 S1226 (X965) := hI1035
                      have q1491 : f 72 = (Value.bool (decide ((w64 ((w64 (a0.Stale + x156.Wait)) - 1)) ≤ v111))) := vt (hA965.at_ 11 rfl _ rfl) rfl
                      refine opg_plain rfl rfl (op_move (v := (Value.bool (decide ((w64 ((w64 (a0.Stale + x156.Wait)) - 1)) ≤ v111)))) rfl q1491 ?_)
                      refine ⟨_, _, rfl, PH.Le.refl _, ?_, ?_⟩
                      · exact rfl
                      · exact I1401
                    · intro vs1028 f w1167 S1227 X966 le1227 hA966 hK1028 hI1036
                      have I1402 : Inv w1167 S1227 (X966) := hI1036
                      have q1492 : f 73 = (Value.bool (decide ((w64 ((w64 (a0.Stale + x156.Wait)) - 1)) ≤ v111))) := vt (hA966.at_ 12 rfl _ rfl) rfl
                      refine opg_taken (c := decide ((w64 ((w64 (a0.Stale + x156.Wait)) - 1)) ≤ v111)) rfl rfl rfl rfl q1492 hc69 (op_move (v := (Value.slice z6 m6 k6)) rfl ((hK1028 7 (keep_of rfl)).trans e1240) ?_)
                      refine ⟨_, _, rfl, PH.Le.refl _, ?_, ?_⟩
                      · exact rfl
                      · exact I1402
                    · intro vs1029 f w1168 S1228 X967 le1228 hA967 hK1029 hI1037
                      have I1403 : Inv w1168 S1228 (X967) := hI1037
                      have q1493 : f 73 = (Value.bool (decide ((w64 ((w64 (a0.Stale + x156.Wait)) - 1)) ≤ v111))) := vt (hA967.at_ 12 rfl _ rfl) rfl
                      refine opg_taken (c := decide ((w64 ((w64 (a0.Stale + x156.Wait)) - 1)) ≤ v111)) rfl rfl rfl rfl q1493 hc69 (op_move (v := (Value.int .i64 ((i5 : Int)))) rfl ((hK1029 11 (keep_of rfl)).trans e1243) ?_)
                      refine ⟨_, _, rfl, PH.Le.refl _, ?_, ?_⟩
                      · exact rfl
                      · exact I1403
                    · intro vs1030 f w1169 S1229 X968 le1229 hA968 hK1030 hI1038
                      have I1404 : Inv w1169 S1229 (Row (α := Int) 3 (Value.slice z6 m6 k6) (x9.1) :: X968) := hI1038
                      have q1494 : f 73 = (Value.bool (decide ((w64 ((w64 (a0.Stale + x156.Wait)) - 1)) ≤ v111))) := vt (hA968.at_ 12 rfl _ rfl) rfl
                      have q1495 : f 74 = (Value.slice z6 m6 k6) := vt (hA968.at_ 13 rfl _ rfl) rfl
                      have q1496 : f 75 = (Value.int .i64 ((i5 : Int))) := vt (hA968.at_ 14 rfl _ rfl) rfl
                      refine opg_taken (c := decide ((w64 ((w64 (a0.Stale + x156.Wait)) - 1)) ≤ v111)) rfl rfl rfl rfl q1494 hc69 (op_indexAddr_src (v := (Value.slice z6 m6 k6)) (i := (i5 : Int)) (e := x157) rfl Try.underlying34 sh3 q1495 (Inv.rowSrc (I1404.nth 0 rfl)) q1496 hx157 ?_)
                      refine ⟨_, _, rfl, PH.Le.refl _, ?_, ?_⟩
                      · exact rfl
                      · exact I1404
                    · intro vs1031 f w1170 S1230 X969 le1230 hA969 hK1031 hI1039
                      have I1405 : Inv w1170 S1230 (Row (α := Int) 3 (Value.slice z6 m6 k6) (x9.1) :: X969) := hI1039
                      have q1497 : f 73 = (Value.bool (decide ((w64 ((w64 (a0.Stale + x156.Wait)) - 1)) ≤ v111))) := vt (hA969.at_ 12 rfl _ rfl) rfl
                      have q1498 : f 76 = (elemPtr (Value.slice z6 m6 k6) ((i5 : Int)) (Enc.sz Int)) := vt (hA969.at_ 15 rfl _ rfl) rfl
                      refine opg_taken (c := decide ((w64 ((w64 (a0.Stale + x156.Wait)) - 1)) ≤ v111)) rfl rfl rfl rfl q1497 hc69 (op_load_int (v := (elemPtr (Value.slice z6 m6 k6) ((i5 : Int)) (Enc.sz Int))) (e := x157) rfl sh3 q1498 ((I1405.nth 0 rfl).rowElem hx157) ?_)
                      refine ⟨_, _, rfl, PH.Le.refl _, ?_, ?_⟩
                      · exact rfl
                      · exact I1405
                    · intro vs1032 f w1171 S1231 X970 le1231 hA970 hK1032 hI1040
                      have I1406 : Inv w1171 S1231 (X970) := hI1040
                      have q1499 : f 73 = (Value.bool (decide ((w64 ((w64 (a0.Stale + x156.Wait)) - 1)) ≤ v111))) := vt (hA970.at_ 12 rfl _ rfl) rfl
                      refine opg_taken (c := decide ((w64 ((w64 (a0.Stale + x156.Wait)) - 1)) ≤ v111)) rfl rfl rfl rfl q1499 hc69 (op_move (v := (Value.int .i64 ((i4 : Int)))) rfl ((hK1032 9 (keep_of rfl)).trans e1241) ?_)
                      refine ⟨_, _, rfl, PH.Le.refl _, ?_, ?_⟩
                      · exact rfl
                      · exact I1406
                    · intro vs1033 f w1172 S1232 X971 le1232 hA971 hK1033 hI1041
                      have I1407 : Inv w1172 S1232 (X971) := hI1041
                      have q1500 : f 73 = (Value.bool (decide ((w64 ((w64 (a0.Stale + x156.Wait)) - 1)) ≤ v111))) := vt (hA971.at_ 12 rfl _ rfl) rfl
                      have q1501 : f 77 = (Value.int .i64 (x157)) := vt (hA971.at_ 16 rfl _ rfl) rfl
                      have q1502 : f 78 = (Value.int .i64 ((i4 : Int))) := vt (hA971.at_ 17 rfl _ rfl) rfl
                      refine opg_taken (c := decide ((w64 ((w64 (a0.Stale + x156.Wait)) - 1)) ≤ v111)) rfl rfl rfl rfl q1500 hc69 (op_call_v (vs := [(Value.int .i64 (x157)), (Value.int .i64 ((i4 : Int)))]) (r := (Value.bool (x158))) rfl ca19 rfl (args2 q1501 q1502) I1407 (fun Fr_ hF_ => F19_ok hF_  hx158) (fun w1173 I1408 => ?_))
                      refine ⟨_, _, rfl, PH.Le.refl _, ?_, ?_⟩
                      · exact rfl
                      · exact I1408
                    · intro vs1034 f w1174 S1233 X972 le1233 hA972 hK1034 hI1042
                      have I1409 : Inv w1174 S1233 (X972) := hI1042
                      have q1503 : f 73 = (Value.bool (decide ((w64 ((w64 (a0.Stale + x156.Wait)) - 1)) ≤ v111))) := vt (hA972.at_ 12 rfl _ rfl) rfl
                      have q1504 : f 79 = (Value.bool (x158)) := vt (hA972.at_ 18 rfl _ rfl) rfl
                      refine opg_plain rfl rfl (op_pick_t (c := decide ((w64 ((w64 (a0.Stale + x156.Wait)) - 1)) ≤ v111)) (a := (Value.bool (x158))) rfl q1503 hc69 q1504 ?_)
                      refine ⟨_, _, rfl, PH.Le.refl _, ?_, ?_⟩
                      · exact rfl
                      · exact I1409
                    · intro vs1035 f w1175 S1234 le1234 hF63 hK1035 hI1043
                      have e1248 : f 1 = (Value.int .i64 (a1)) := (hK1035 1 (keep_all rfl)).trans e1237
                      have e1249 : f 2 = (Value.slice z2 m2 k2) := (hK1035 2 (keep_all rfl)).trans e1238
                      have e1250 : f 3 = (Value.pointer (some ⟨g1, 0, none⟩)) := (hK1035 3 (keep_all rfl)).trans e1239
                      have e1251 : f 7 = (Value.slice z6 m6 k6) := (hK1035 7 (keep_all rfl)).trans e1240
                      have e1252 : f 9 = (Value.int .i64 ((i4 : Int))) := (hK1035 9 (keep_all rfl)).trans e1241
                      have e1253 : f 10 = (Value.int .i64 (v111)) := (hK1035 10 (keep_all rfl)).trans e1242
                      have e1254 : f 11 = (Value.int .i64 ((i5 : Int))) := (hK1035 11 (keep_all rfl)).trans e1243
                      have I1410 : Inv w1175 S1234 (Row (α := Int) 3 (Value.slice z6 m6 k6) (x9.1) :: Fr) := hI1043
                      have q1505 : f 80 = (Value.bool (x158)) := vt (hF63.at_ 19 rfl _ rfl) rfl
                      rcases ifs h57 with ⟨hc70, h57⟩ | ⟨hc70, h57⟩
                      · refine wp_cond_t (b := x158) q1505 hc70 ?_
                        refine wp_seq' ?_
                        refine wp_region' ?_
                        refine wl_op rfl (op_assign (v := (Value.bool (false))) rfl rfl ?_)
                        refine wl_nil ?_
                        refine wp_ret' ?_
                        obtain rfl := Option.some.inj h57
                        obtain rfl := (hout5 _ rfl)
                        have h58 := h46
                        obtain rfl := Option.some.inj h58
                        obtain rfl := (hout4 _ rfl)
                        have h47 := h
                        obtain rfl := Option.some.inj h47
                        exact ⟨(Value.bool (false)), (res1 rfl rfl), _, [], (((((le1.trans le2).trans le944).trans le1178).trans le1213).trans le1234), (I1410).drop, rfl, rfl⟩
                      · refine wp_cond_f (b := x158) q1505 hc70 ?_
                        refine wp_skip' ?_
                        refine wp_region' ?_
                        refine wl_op rfl (op_move (v := (Value.int .i64 ((i5 : Int)))) rfl e1254 ?_)
                        refine wl_op rfl (op_add (a := (i5 : Int)) (b := 1) rfl rfl rfl ?_)
                        refine wl_op rfl (op_assign (v := (Value.int .i64 (w64 ((i5 : Int) + 1)))) rfl rfl ?_)
                        refine wl_nil ?_
                        obtain rfl := Option.some.inj h57
                        exact ⟨_, rfl, _, ((le1178.trans le1213).trans le1234), I1410, e1248, e1249, e1250, e1251, e1252, e1253, (idx_next hlt5 (cnt_le hx149))⟩
                  · refine wp_draw (sps := [⟨some 61, [], [0], fun vs_ T_ => fr0 vs_ 0 = (Value.int .i64 (v111)), [], [], [], fun _ h_ => h_⟩, ⟨some 62, [], [1], fun vs_ T_ => fr0 vs_ 0 = (fieldPtr (Value.pointer (some ⟨g1, 0, none⟩)) 2), [], [], [], fun _ h_ => h_⟩, ⟨some 63, [1], [2], fun vs_ T_ => fr0 vs_ 0 = (Value.int .i64 (a0.Stale)), [], [], [], fun _ h_ => h_⟩, ⟨some 64, [], [3], fun vs_ T_ => fr0 vs_ 0 = (fieldPtr (Value.pointer (some ⟨g1, 0, none⟩)) 1), [], [], [], fun _ h_ => h_⟩, ⟨some 65, [3], [4], fun vs_ T_ => RV T_ (fr0 vs_ 0) a0.Doors, [], [], [], fun hle_ h_ => h_.mono hle_⟩, ⟨some 66, [], [5], fun vs_ T_ => fr0 vs_ 0 = (Value.int .i64 ((i4 : Int))), [], [], [], fun _ h_ => h_⟩, ⟨some 67, [3, 4, 5], [6, 4], fun vs_ T_ => fr0 vs_ 0 = (elemPtr (fr0 vs_ 1) ((i4 : Int)) (Enc.sz Gate)), [], [], [], fun _ h_ => h_⟩, ⟨some 68, [3, 4, 5, 6], [7, 4], fun vs_ T_ => fr0 vs_ 0 = (fieldPtr (elemPtr (fr0 vs_ 1) ((i4 : Int)) (Enc.sz Gate)) 0), [], [], [], fun _ h_ => h_⟩, ⟨some 69, [3, 4, 5, 6, 7], [8], fun vs_ T_ => fr0 vs_ 0 = (Value.int .i64 (x156.Wait)), [], [], [], fun _ h_ => h_⟩, ⟨some 70, [1, 2, 3, 4, 5, 6, 7, 8], [9], fun vs_ T_ => fr0 vs_ 0 = (Value.int .i64 (w64 (a0.Stale + x156.Wait))), [], [], [], fun _ h_ => h_⟩, ⟨some 71, [1, 2, 3, 4, 5, 6, 7, 8, 9], [10], fun vs_ T_ => fr0 vs_ 0 = (Value.int .i64 (w64 ((w64 (a0.Stale + x156.Wait)) - 1))), [], [], [], fun _ h_ => h_⟩, ⟨some 72, [0, 1, 2, 3, 4, 5, 6, 7, 8, 9, 10], [11], fun vs_ T_ => fr0 vs_ 0 = (Value.bool (decide ((w64 ((w64 (a0.Stale + x156.Wait)) - 1)) ≤ v111))), [], [], [], fun _ h_ => h_⟩, ⟨some 73, [0, 1, 2, 3, 4, 5, 6, 7, 8, 9, 10, 11], [12], fun vs_ T_ => fr0 vs_ 0 = (Value.bool (decide ((w64 ((w64 (a0.Stale + x156.Wait)) - 1)) ≤ v111))), [], [], [], fun _ h_ => h_⟩, ⟨some 74, [0, 1, 2, 3, 4, 5, 6, 7, 8, 9, 10, 11, 12], [13], fun vs_ T_ => fr0 vs_ 0 = undef, [], [], [], fun _ h_ => h_⟩, ⟨some 75, [0, 1, 2, 3, 4, 5, 6, 7, 8, 9, 10, 11, 12], [14], fun vs_ T_ => fr0 vs_ 0 = undef, [], [], [], fun _ h_ => h_⟩, ⟨some 76, [0, 1, 2, 3, 4, 5, 6, 7, 8, 9, 10, 11, 12, 13, 14], [15], fun vs_ T_ => fr0 vs_ 0 = undef, [], [], [], fun _ h_ => h_⟩, ⟨some 77, [0, 1, 2, 3, 4, 5, 6, 7, 8, 9, 10, 11, 12, 13, 14, 15], [16], fun vs_ T_ => fr0 vs_ 0 = undef, [], [], [], fun _ h_ => h_⟩, ⟨some 78, [0, 1, 2, 3, 4, 5, 6, 7, 8, 9, 10, 11, 12], [17], fun vs_ T_ => fr0 vs_ 0 = undef, [], [], [], fun _ h_ => h_⟩, ⟨some 79, [0, 1, 2, 3, 4, 5, 6, 7, 8, 9, 10, 11, 12, 13, 14, 15, 16, 17], [18], fun vs_ T_ => fr0 vs_ 0 = undef, [], [], [], fun _ h_ => h_⟩, ⟨some 80, [0, 1, 2, 3, 4, 5, 6, 7, 8, 9, 10, 11, 12, 13, 14, 15, 16, 17, 18], [19], fun vs_ T_ => fr0 vs_ 0 = (Value.bool (false)), [], [], [], fun _ h_ => h_⟩]) (tks := []) (O := Row (α := Int) 3 (Value.slice z6 m6 k6) (x9.1) :: Fr) rfl (by kernel_rfl) I1387 ⟨?_, ?_, ?_, ?_, ?_, ?_, ?_, ?_, ?_, ?_, ?_, ?_, ?_, ?_, ?_, ?_, ?_, ?_, ?_, ?_, trivial⟩ ?_
                    · intro vs1036 f w1176 S1235 X973 le1235 hA973 hK1036 hI1044
                      have I1411 : Inv w1176 S1235 (X973) := hI1044
                      refine opg_plain rfl rfl (op_move (v := (Value.int .i64 (v111))) rfl ((hK1036 10 (keep_of rfl)).trans e1242) ?_)
                      refine ⟨_, _, rfl, PH.Le.refl _, ?_, ?_⟩
                      · exact rfl
                      · exact I1411
                    · intro vs1037 f w1177 S1236 X974 le1236 hA974 hK1037 hI1045
                      have I1412 : Inv w1177 S1236 (X974) := hI1045
                      refine opg_plain rfl rfl (op_fieldAddr_t (v := (Value.pointer (some ⟨g1, 0, none⟩))) rfl fa24_2 ((hK1037 3 (keep_of rfl)).trans e1239) ((p1.mono ((((le2.trans le944).trans le1178).trans le1213).trans le1236)).at_ I1412) ?_)
                      refine ⟨_, _, rfl, PH.Le.refl _, ?_, ?_⟩
                      · exact rfl
                      · exact I1412
                    · intro vs1038 f w1178 S1237 X975 le1237 hA975 hK1038 hI1046
                      have I1413 : Inv w1178 S1237 (X975) := hI1046
                      have q1506 : f 62 = (fieldPtr (Value.pointer (some ⟨g1, 0, none⟩)) 2) := vt (hA975.at_ 0 rfl _ rfl) rfl
                      refine opg_plain rfl rfl (op_load_int (v := (fieldPtr (Value.pointer (some ⟨g1, 0, none⟩)) 2)) (e := a0.Stale) rfl sh3 q1506 (((p1.mono ((((le2.trans le944).trans le1178).trans le1213).trans le1237)).at_ I1413).fld Panel.fld2) ?_)
                      refine ⟨_, _, rfl, PH.Le.refl _, ?_, ?_⟩
                      · exact rfl
                      · exact I1413
                    · intro vs1039 f w1179 S1238 X976 le1238 hA976 hK1039 hI1047
                      have I1414 : Inv w1179 S1238 (X976) := hI1047
                      refine opg_plain rfl rfl (op_fieldAddr_t (v := (Value.pointer (some ⟨g1, 0, none⟩))) rfl fa24_1 ((hK1039 3 (keep_of rfl)).trans e1239) ((p1.mono ((((le2.trans le944).trans le1178).trans le1213).trans le1238)).at_ I1414) ?_)
                      refine ⟨_, _, rfl, PH.Le.refl _, ?_, ?_⟩
                      · exact rfl
                      · exact I1414
                    · intro vs1040 f w1180 S1239 X977 le1239 hA977 hK1040 hI1048
                      have I1415 : Inv w1180 S1239 (X977) := hI1048
                      have q1507 : f 64 = (fieldPtr (Value.pointer (some ⟨g1, 0, none⟩)) 1) := vt (hA977.at_ 0 rfl _ rfl) rfl
                      refine opg_plain rfl rfl (op_load (v := (fieldPtr (Value.pointer (some ⟨g1, 0, none⟩)) 1)) (e := a0.Doors) rfl sh22 q1507 (((p1.mono ((((le2.trans le944).trans le1178).trans le1213).trans le1239)).at_ I1415).fld Panel.fld1) (fun u538 hu538 => ?_))
                      obtain ⟨z493, m493, k493, e1255⟩ := rv_form hu538
                      subst e1255
                      refine ⟨_, _, rfl, PH.Le.refl _, ?_, ?_⟩
                      · exact hu538
                      · exact I1415
                    · intro vs1041 f w1181 S1240 X978 le1240 hA978 hK1041 hI1049
                      have I1416 : Inv w1181 S1240 (X978) := hI1049
                      refine opg_plain rfl rfl (op_move (v := (Value.int .i64 ((i4 : Int)))) rfl ((hK1041 9 (keep_of rfl)).trans e1241) ?_)
                      refine ⟨_, _, rfl, PH.Le.refl _, ?_, ?_⟩
                      · exact rfl
                      · exact I1416
                    · intro vs1042 f w1182 S1241 X979 le1241 hA979 hK1042 hI1050
                      have I1417 : Inv w1182 S1241 (X979) := hI1050
                      have q1508 : f 65 = vs1042 4 := (hA979.at_ 1 rfl _ rfl).1 _ rfl
                      have r386 : RV S1241 (vs1042 4) a0.Doors := (hA979.at_ 1 rfl _ rfl).2
                      obtain ⟨u539, hu539⟩ : ∃ u, vs1042 4 = u := ⟨_, rfl⟩
                      rw [hu539] at q1508 r386
                      obtain ⟨z494, m494, k494, e1256⟩ := rv_form r386
                      subst e1256
                      have q1509 : f 66 = (Value.int .i64 ((i4 : Int))) := vt (hA979.at_ 2 rfl _ rfl) rfl
                      refine opg_plain rfl rfl (op_indexAddr_rv (v := (Value.slice z494 m494 k494)) (i := (i4 : Int)) (e := x156) rfl Try.underlying22 sh33 q1508 r386 q1509 hx156 ?_)
                      refine ⟨_, _, rfl, PH.Le.refl _, ?_, ?_⟩
                      · show (elemPtr (Value.slice z494 m494 k494) ((i4 : Int)) (Enc.sz Gate)) = (elemPtr (vs1042 4) ((i4 : Int)) (Enc.sz Gate))
                        simp only [hu539] <;> rfl
                      · exact I1417
                    · intro vs1043 f w1183 S1242 X980 le1242 hA980 hK1043 hI1051
                      have I1418 : Inv w1183 S1242 (X980) := hI1051
                      have q1510 : f 65 = vs1043 4 := (hA980.at_ 1 rfl _ rfl).1 _ rfl
                      have r387 : RV S1242 (vs1043 4) a0.Doors := (hA980.at_ 1 rfl _ rfl).2
                      obtain ⟨u540, hu540⟩ : ∃ u, vs1043 4 = u := ⟨_, rfl⟩
                      rw [hu540] at q1510 r387
                      obtain ⟨z495, m495, k495, e1257⟩ := rv_form r387
                      subst e1257
                      have q1511 : f 66 = (Value.int .i64 ((i4 : Int))) := vt (hA980.at_ 2 rfl _ rfl) rfl
                      have q1512 : f 67 = (elemPtr (vs1043 4) ((i4 : Int)) (Enc.sz Gate)) := vt (hA980.at_ 3 rfl _ rfl) rfl
                      simp only [hu540] at q1512
                      have q1512 : f 67 = (elemPtr (Value.slice z495 m495 k495) ((i4 : Int)) (Enc.sz Gate)) := q1512
                      refine opg_plain rfl rfl (op_fieldAddr_t (v := (elemPtr (Value.slice z495 m495 k495) ((i4 : Int)) (Enc.sz Gate))) rfl fa33_0 q1512 (r387.elem I1418.in_ hx156) ?_)
                      refine ⟨_, _, rfl, PH.Le.refl _, ?_, ?_⟩
                      · show (fieldPtr (elemPtr (Value.slice z495 m495 k495) ((i4 : Int)) (Enc.sz Gate)) 0) = (fieldPtr (elemPtr (vs1043 4) ((i4 : Int)) (Enc.sz Gate)) 0)
                        simp only [hu540] <;> rfl
                      · exact I1418
                    · intro vs1044 f w1184 S1243 X981 le1243 hA981 hK1044 hI1052
                      have I1419 : Inv w1184 S1243 (X981) := hI1052
                      have q1513 : f 65 = vs1044 4 := (hA981.at_ 1 rfl _ rfl).1 _ rfl
                      have r388 : RV S1243 (vs1044 4) a0.Doors := (hA981.at_ 1 rfl _ rfl).2
                      obtain ⟨u541, hu541⟩ : ∃ u, vs1044 4 = u := ⟨_, rfl⟩
                      rw [hu541] at q1513 r388
                      obtain ⟨z496, m496, k496, e1258⟩ := rv_form r388
                      subst e1258
                      have q1514 : f 66 = (Value.int .i64 ((i4 : Int))) := vt (hA981.at_ 2 rfl _ rfl) rfl
                      have q1515 : f 67 = (elemPtr (vs1044 4) ((i4 : Int)) (Enc.sz Gate)) := vt (hA981.at_ 3 rfl _ rfl) rfl
                      simp only [hu541] at q1515
                      have q1515 : f 67 = (elemPtr (Value.slice z496 m496 k496) ((i4 : Int)) (Enc.sz Gate)) := q1515
                      have q1516 : f 68 = (fieldPtr (elemPtr (vs1044 4) ((i4 : Int)) (Enc.sz Gate)) 0) := vt (hA981.at_ 4 rfl _ rfl) rfl
                      simp only [hu541] at q1516
                      have q1516 : f 68 = (fieldPtr (elemPtr (Value.slice z496 m496 k496) ((i4 : Int)) (Enc.sz Gate)) 0) := q1516
                      refine opg_plain rfl rfl (op_load_int (v := (fieldPtr (elemPtr (Value.slice z496 m496 k496) ((i4 : Int)) (Enc.sz Gate)) 0)) (e := x156.Wait) rfl sh3 q1516 ((r388.elem I1419.in_ hx156).fld Gate.fld0) ?_)
                      refine ⟨_, _, rfl, PH.Le.refl _, ?_, ?_⟩
                      · exact rfl
                      · exact I1419
                    · intro vs1045 f w1185 S1244 X982 le1244 hA982 hK1045 hI1053
                      have I1420 : Inv w1185 S1244 (X982) := hI1053
                      have q1517 : f 63 = (Value.int .i64 (a0.Stale)) := vt (hA982.at_ 1 rfl _ rfl) rfl
                      have q1518 : f 69 = (Value.int .i64 (x156.Wait)) := vt (hA982.at_ 7 rfl _ rfl) rfl
                      refine opg_plain rfl rfl (op_add (a := a0.Stale) (b := x156.Wait) rfl q1517 q1518 ?_)
                      refine ⟨_, _, rfl, PH.Le.refl _, ?_, ?_⟩
                      · exact rfl
                      · exact I1420
                    · intro vs1046 f w1186 S1245 X983 le1245 hA983 hK1046 hI1054
                      have I1421 : Inv w1186 S1245 (X983) := hI1054
                      have q1519 : f 70 = (Value.int .i64 (w64 (a0.Stale + x156.Wait))) := vt (hA983.at_ 8 rfl _ rfl) rfl
                      refine opg_plain rfl rfl (op_sub (a := w64 (a0.Stale + x156.Wait)) (b := 1) rfl q1519 rfl ?_)
                      refine ⟨_, _, rfl, PH.Le.refl _, ?_, ?_⟩
                      · exact rfl
                      · exact I1421
                    · intro vs1047 f w1187 S1246 X984 le1246 hA984 hK1047 hI1055
                      have I1422 : Inv w1187 S1246 (X984) := hI1055
                      have q1520 : f 61 = (Value.int .i64 (v111)) := vt (hA984.at_ 0 rfl _ rfl) rfl
                      have q1521 : f 71 = (Value.int .i64 (w64 ((w64 (a0.Stale + x156.Wait)) - 1))) := vt (hA984.at_ 10 rfl _ rfl) rfl
                      refine opg_plain rfl rfl (op_geq (a := v111) (b := w64 ((w64 (a0.Stale + x156.Wait)) - 1)) rfl q1520 q1521 ?_)
                      refine ⟨_, _, rfl, PH.Le.refl _, ?_, ?_⟩
                      · exact rfl
                      · exact I1422
                    · intro vs1048 f w1188 S1247 X985 le1247 hA985 hK1048 hI1056
                      have I1423 : Inv w1188 S1247 (X985) := hI1056
                      have q1522 : f 72 = (Value.bool (decide ((w64 ((w64 (a0.Stale + x156.Wait)) - 1)) ≤ v111))) := vt (hA985.at_ 11 rfl _ rfl) rfl
                      refine opg_plain rfl rfl (op_move (v := (Value.bool (decide ((w64 ((w64 (a0.Stale + x156.Wait)) - 1)) ≤ v111)))) rfl q1522 ?_)
                      refine ⟨_, _, rfl, PH.Le.refl _, ?_, ?_⟩
                      · exact rfl
                      · exact I1423
                    · intro vs1049 f w1189 S1248 X986 le1248 hA986 hK1049 hI1057
                      have I1424 : Inv w1189 S1248 (X986) := hI1057
                      have q1523 : f 73 = (Value.bool (decide ((w64 ((w64 (a0.Stale + x156.Wait)) - 1)) ≤ v111))) := vt (hA986.at_ 12 rfl _ rfl) rfl
                      exact opg_skip (c := decide ((w64 ((w64 (a0.Stale + x156.Wait)) - 1)) ≤ v111)) rfl rfl rfl rfl q1523 hc69 rfl ⟨_, _, rfl, PH.Le.refl _, rfl, I1424⟩
                    · intro vs1050 f w1190 S1249 X987 le1249 hA987 hK1050 hI1058
                      have I1425 : Inv w1190 S1249 (X987) := hI1058
                      have q1524 : f 73 = (Value.bool (decide ((w64 ((w64 (a0.Stale + x156.Wait)) - 1)) ≤ v111))) := vt (hA987.at_ 12 rfl _ rfl) rfl
                      exact opg_skip (c := decide ((w64 ((w64 (a0.Stale + x156.Wait)) - 1)) ≤ v111)) rfl rfl rfl rfl q1524 hc69 rfl ⟨_, _, rfl, PH.Le.refl _, rfl, I1425⟩
                    · intro vs1051 f w1191 S1250 X988 le1250 hA988 hK1051 hI1059
                      have I1426 : Inv w1191 S1250 (X988) := hI1059
                      have q1525 : f 73 = (Value.bool (decide ((w64 ((w64 (a0.Stale + x156.Wait)) - 1)) ≤ v111))) := vt (hA988.at_ 12 rfl _ rfl) rfl
                      have q1526 : f 74 = undef := vt (hA988.at_ 13 rfl _ rfl) rfl
                      have q1527 : f 75 = undef := vt (hA988.at_ 14 rfl _ rfl) rfl
                      exact opg_skip (c := decide ((w64 ((w64 (a0.Stale + x156.Wait)) - 1)) ≤ v111)) rfl rfl rfl rfl q1525 hc69 rfl ⟨_, _, rfl, PH.Le.refl _, rfl, I1426⟩
                    · intro vs1052 f w1192 S1251 X989 le1251 hA989 hK1052 hI1060
                      have I1427 : Inv w1192 S1251 (X989) := hI1060
                      have q1528 : f 73 = (Value.bool (decide ((w64 ((w64 (a0.Stale + x156.Wait)) - 1)) ≤ v111))) := vt (hA989.at_ 12 rfl _ rfl) rfl
                      have q1529 : f 76 = undef := vt (hA989.at_ 15 rfl _ rfl) rfl
                      exact opg_skip (c := decide ((w64 ((w64 (a0.Stale + x156.Wait)) - 1)) ≤ v111)) rfl rfl rfl rfl q1528 hc69 rfl ⟨_, _, rfl, PH.Le.refl _, rfl, I1427⟩
                    · intro vs1053 f w1193 S1252 X990 le1252 hA990 hK1053 hI1061
                      have I1428 : Inv w1193 S1252 (X990) := hI1061
                      have q1530 : f 73 = (Value.bool (decide ((w64 ((w64 (a0.Stale + x156.Wait)) - 1)) ≤ v111))) := vt (hA990.at_ 12 rfl _ rfl) rfl
                      exact opg_skip (c := decide ((w64 ((w64 (a0.Stale + x156.Wait)) - 1)) ≤ v111)) rfl rfl rfl rfl q1530 hc69 rfl ⟨_, _, rfl, PH.Le.refl _, rfl, I1428⟩
                    · intro vs1054 f w1194 S1253 X991 le1253 hA991 hK1054 hI1062
                      have I1429 : Inv w1194 S1253 (X991) := hI1062
                      have q1531 : f 73 = (Value.bool (decide ((w64 ((w64 (a0.Stale + x156.Wait)) - 1)) ≤ v111))) := vt (hA991.at_ 12 rfl _ rfl) rfl
                      have q1532 : f 77 = undef := vt (hA991.at_ 16 rfl _ rfl) rfl
                      have q1533 : f 78 = undef := vt (hA991.at_ 17 rfl _ rfl) rfl
                      exact opg_skip (c := decide ((w64 ((w64 (a0.Stale + x156.Wait)) - 1)) ≤ v111)) rfl rfl rfl rfl q1531 hc69 rfl ⟨_, _, rfl, PH.Le.refl _, rfl, I1429⟩
                    · intro vs1055 f w1195 S1254 X992 le1254 hA992 hK1055 hI1063
                      have I1430 : Inv w1195 S1254 (X992) := hI1063
                      have q1534 : f 73 = (Value.bool (decide ((w64 ((w64 (a0.Stale + x156.Wait)) - 1)) ≤ v111))) := vt (hA992.at_ 12 rfl _ rfl) rfl
                      have q1535 : f 79 = undef := vt (hA992.at_ 18 rfl _ rfl) rfl
                      refine opg_plain rfl rfl (op_pick_f (c := decide ((w64 ((w64 (a0.Stale + x156.Wait)) - 1)) ≤ v111)) (b := (Value.bool (false))) rfl q1534 hc69 rfl ?_)
                      refine ⟨_, _, rfl, PH.Le.refl _, ?_, ?_⟩
                      · exact rfl
                      · exact I1430
                    · intro vs1056 f w1196 S1255 le1255 hF64 hK1056 hI1064
                      have e1259 : f 1 = (Value.int .i64 (a1)) := (hK1056 1 (keep_all rfl)).trans e1237
                      have e1260 : f 2 = (Value.slice z2 m2 k2) := (hK1056 2 (keep_all rfl)).trans e1238
                      have e1261 : f 3 = (Value.pointer (some ⟨g1, 0, none⟩)) := (hK1056 3 (keep_all rfl)).trans e1239
                      have e1262 : f 7 = (Value.slice z6 m6 k6) := (hK1056 7 (keep_all rfl)).trans e1240
                      have e1263 : f 9 = (Value.int .i64 ((i4 : Int))) := (hK1056 9 (keep_all rfl)).trans e1241
                      have e1264 : f 10 = (Value.int .i64 (v111)) := (hK1056 10 (keep_all rfl)).trans e1242
                      have e1265 : f 11 = (Value.int .i64 ((i5 : Int))) := (hK1056 11 (keep_all rfl)).trans e1243
                      have I1431 : Inv w1196 S1255 (Row (α := Int) 3 (Value.slice z6 m6 k6) (x9.1) :: Fr) := hI1064
                      have q1536 : f 80 = (Value.bool (false)) := vt (hF64.at_ 19 rfl _ rfl) rfl
                      refine wp_cond_f (b := false) q1536 rfl ?_
                      refine wp_skip' ?_
                      refine wp_region' ?_
                      refine wl_op rfl (op_move (v := (Value.int .i64 ((i5 : Int)))) rfl e1265 ?_)
                      refine wl_op rfl (op_add (a := (i5 : Int)) (b := 1) rfl rfl rfl ?_)
                      refine wl_op rfl (op_assign (v := (Value.int .i64 (w64 ((i5 : Int) + 1)))) rfl rfl ?_)
                      refine wl_nil ?_
                      obtain rfl := Option.some.inj h57
                      exact ⟨_, rfl, _, ((le1178.trans le1213).trans le1255), I1431, e1259, e1260, e1261, e1262, e1263, e1264, (idx_next hlt5 (cnt_le hx149))⟩
              · rintro s9 f w hs4 hI1065
                obtain ⟨S1256, le1256, I1432, e1266, e1267, e1268, e1269, e1270, e1271, e1272⟩ := hI1065
                refine wp_seq' ?_
                refine wp_seq' ?_
                refine wp_region' ?_
                refine wl_op rfl (op_move (v := (Value.int .i64 ((x149 : Int)))) rfl e1272 ?_)
                refine wl_op rfl (op_move (v := (Value.int .i64 (a1))) rfl e1266 ?_)
                refine wl_op rfl (op_lss (a := (x149 : Int)) (b := a1) rfl rfl rfl ?_)
                refine wl_nil ?_
                refine wp_cond_f (b := decide ((x149 : Int) < a1)) rfl (cnt_f hx149) ?_
                refine wp_exit' ?_
                exact ⟨s9, hs4, _, le1256, I1432, e1266, e1267, e1268, e1269, e1270, e1271⟩
            · rintro f w ⟨out5, rfl, S1257, le1257, I1433, e1273, e1274, e1275, e1276, e1277, e1278⟩
              have h46 := onL_inl h46
              refine wp_region' ?_
              refine wl_op rfl (op_move (v := (Value.int .i64 ((i4 : Int)))) rfl e1277 ?_)
              refine wl_op rfl (op_add (a := (i4 : Int)) (b := 1) rfl rfl rfl ?_)
              refine wl_op rfl (op_assign (v := (Value.int .i64 (w64 ((i4 : Int) + 1)))) rfl rfl ?_)
              refine wl_nil ?_
              obtain rfl := Option.some.inj h46
              exact ⟨_, rfl, _, (le944.trans le1257), I1433, e1273, e1274, e1275, e1276, (idx_next hlt4 hk1)⟩
          · rintro s10 f w hs5 hI1066
            obtain ⟨S1258, le1258, I1434, e1279, e1280, e1281, e1282, e1283⟩ := hI1066
            refine wp_seq' ?_
            refine wp_seq' ?_
            refine wp_region' ?_
            refine wl_op rfl (op_move (v := (Value.int .i64 ((a0.Doors.length : Int)))) rfl e1283 ?_)
            refine wl_op rfl (op_fieldAddr_t (v := (Value.pointer (some ⟨g1, 0, none⟩))) rfl fa24_1 e1281 ((p1.mono (le2.trans le1258)).at_ I1434) ?_)
            refine wl_op rfl (op_load (v := (fieldPtr (Value.pointer (some ⟨g1, 0, none⟩)) 1)) (e := a0.Doors) rfl sh22 rfl (((p1.mono (le2.trans le1258)).at_ I1434).fld Panel.fld1) (fun u543 hu543 => ?_))
            obtain ⟨z498, m498, k498, e1285⟩ := rv_form hu543
            subst e1285
            refine wl_op rfl (op_len_rv rfl Try.underlying22 rfl hu543 ?_)
            refine wl_op rfl (op_lss (a := (a0.Doors.length : Int)) (b := (a0.Doors.length : Int)) rfl rfl rfl ?_)
            refine wl_nil ?_
            refine wp_cond_f (b := decide ((a0.Doors.length : Int) < (a0.Doors.length : Int))) rfl (len_f _) ?_
            refine wp_exit' ?_
            exact ⟨s10, hs5, _, le1258, I1434, e1279, e1280, e1281, e1282⟩
        · rintro f w ⟨out4, rfl, S1259, le1259, I1435, e1286, e1287, e1288, e1289⟩
          have h := onL_inl h
          refine wp_seq' ?_
          refine wp_region' ?_
          obtain ⟨x159, hx159, h⟩ := bnd h
          refine wl_op rfl (op_call_v (vs := []) (r := (Value.bool (x159))) rfl ca16 rfl args0 I1435 (fun Fr_ hF_ => F16_ok hF_  hx159) (fun w1197 I1436 => ?_))
          refine wl_op rfl (op_assign (v := (Value.bool (x159))) rfl rfl ?_)
          refine wl_nil ?_
          refine wp_ret' ?_
          obtain rfl := Option.some.inj h
          exact ⟨(Value.bool (x159)), (res1 rfl rfl), _, [], ((le1.trans le2).trans le1259), (I1436).drop, rfl, rfl⟩
end Go.Proofs.Ytfeomcdhhgeilaa.Pad
