/- A part of the proof: what the functions of the program compute, shown over the model. -/
import Derived.Test.YtfeomcdhhgeilaaPadSP
import Derived.Test.YtfeomcdhhgeilaaPadSW4
import Derived.Test.YtfeomcdhhgeilaaPadSW7
import Derived.KernelRfl
set_option linter.unusedVariables false
namespace Go.Proofs.Ytfeomcdhhgeilaa.Pad
open Go Go.Proofs
/-- A value off a drawn region. -/
theorem vt {f : Fr} {d : Nat} {v x : Value} {o : Option Nat} (h : (∀ e, o = some e → f e = v) ∧ v = x) (ho : o = some d) : f d = x := (h.1 d ho).trans h.2
set_option maxHeartbeats 4000000 in
set_option maxRecDepth 100000 in
theorem F11_ok {w : World} {S : PH} {Fr : List HP} {a0 : Panel} {v0 : Value} {a1 : Int} {a2 : (List Signal)} {v2 : Value} {r : Bool} (hI : Inv w S Fr) (h0_ : RV S v0 a0) (h2_ : RV S v2 a2) (h : F11 a0 a1 a2 = some r) :
    Calls Try.prog 11 [v0, (Value.int .i64 (a1)), v2].toArray w (DoneV S Fr (Value.bool (r))) := by
  unfold F11 at h
  obtain ⟨c1, e1, r1⟩ := Panel.inv h0_
  subst e1
  obtain ⟨z1, m1, k1, e2⟩ := rv_form r1
  subst e2
  obtain ⟨z2, m2, k2, e3⟩ := rv_form h2_
  subst e3
  refine calls_enter (n := 86) (vs := [(Value.agg #[(Value.int .i64 (a0.Sensors)), (Value.slice z1 m1 k1), (Value.int .i64 (a0.Stale)), (Value.int .i64 (a0.Limit))]), (Value.int .i64 (a1)), (Value.slice z2 m2 k2)]) Try.func11 rfl rfl rfl ?_
  refine wp_seq' ?_
  refine wp_region' ?_
  refine wl_op rfl (op_box (v := (Value.agg #[(Value.int .i64 (a0.Sensors)), (Value.slice z1 m1 k1), (Value.int .i64 (a0.Stale)), (Value.int .i64 (a0.Limit))])) rfl hI rfl (fun g1 w1 I1 => ?_))
  obtain ⟨S1, le1, I2, p1⟩ := Inv.boxFreeze (x := a0) I1 (Panel.rv (s := a0) r1)
  refine wl_op rfl (op_assign (v := (Value.bool (false))) rfl rfl ?_)
  refine wl_nil ?_
  refine wp_seq' ?_
  refine wp_seq' ?_
  refine wp_region' ?_
  refine wl_op rfl (op_move (v := (Value.int .i64 (a1))) rfl rfl ?_)
  obtain ⟨x1, hx1, h⟩ := bnd h
  refine wl_op rfl (op_call_v (vs := [(Value.int .i64 (a1))]) (r := (Value.bool (x1))) rfl ca20 rfl (args1 rfl) I2 (fun Fr_ hF_ => F20_ok hF_  hx1) (fun w2 I3 => ?_))
  refine wl_nil ?_
  rcases ifs h with ⟨hc1, h⟩ | ⟨hc1, h⟩
  · refine wp_cond_t (b := x1) rfl hc1 ?_
    refine wp_seq' ?_
    refine wp_region' ?_
    obtain ⟨x2, hx2, h⟩ := bnd h
    refine wl_op rfl (op_call_v (vs := []) (r := (Value.bool (x2))) rfl ca16 rfl args0 I3 (fun Fr_ hF_ => F16_ok hF_  hx2) (fun w3 I4 => ?_))
    refine wl_op rfl (op_assign (v := (Value.bool (x2))) rfl rfl ?_)
    refine wl_nil ?_
    refine wp_ret' ?_
    obtain rfl := Option.some.inj h
    exact ⟨(Value.bool (x2)), (res1 rfl rfl), _, [], le1, I4, rfl, rfl⟩
  · refine wp_cond_f (b := x1) rfl hc1 ?_
    refine wp_skip' ?_
    refine wp_seq' ?_
    refine wp_region' ?_
    refine wl_op rfl (op_load (v := (Value.pointer (some ⟨g1, 0, none⟩))) (e := a0) rfl sh24 rfl (p1.at_ I3) (fun u1 hu1 => ?_))
    obtain ⟨c2, e4, r2⟩ := Panel.inv hu1
    subst e4
    obtain ⟨z3, m3, k3, e5⟩ := rv_form r2
    subst e5
    refine wl_op rfl (op_move (v := (Value.int .i64 (a1))) rfl rfl ?_)
    refine wl_op rfl (op_move (v := (Value.slice z2 m2 k2)) rfl rfl ?_)
    obtain ⟨x3, hx3, h⟩ := bnd h
    refine wl_op rfl (op_call (vs := [(Value.agg #[(Value.int .i64 (a0.Sensors)), (Value.slice z3 m3 k3), (Value.int .i64 (a0.Stale)), (Value.int .i64 (a0.Limit))]), (Value.int .i64 (a1)), (Value.slice z2 m2 k2)]) rfl ca17 rfl (args3 rfl rfl rfl) (F17_ok I3 (Panel.rv (s := a0) r2) (h2_.mono le1) hx3) (fun v1 w4 S2 O1 le2 I5 hv1 => ?_))
    obtain ⟨z4, m4, k4, rfl, rfl⟩ := hv1
    refine wl_op rfl (op_move (v := (Value.tuple #[(Value.slice z4 m4 k4), (Value.int .i64 (x3.2))])) rfl rfl ?_)
    refine wl_op rfl (op_extract (v := (Value.slice z4 m4 k4)) rfl rfl rfl ?_)
    refine wl_op rfl (op_extract (v := (Value.int .i64 (x3.2))) rfl rfl rfl ?_)
    refine wl_op rfl (op_assign (v := (Value.slice z4 m4 k4)) rfl rfl ?_)
    refine wl_op rfl (op_assign (v := (Value.int .i64 (x3.2))) rfl rfl ?_)
    refine wl_nil ?_
    refine wp_seq' ?_
    refine wp_seq' ?_
    refine wp_region' ?_
    refine wl_op rfl (op_move (v := (Value.int .i64 (x3.2))) rfl rfl ?_)
    refine wl_op rfl (op_neq (a := x3.2) (b := 0) rfl rfl rfl ?_)
    refine wl_nil ?_
    rcases ifs h with ⟨hc2, h⟩ | ⟨hc2, h⟩
    · refine wp_cond_t (b := x3.2 != 0) rfl hc2 ?_
      refine wp_seq' ?_
      refine wp_region' ?_
      obtain ⟨x4, hx4, h⟩ := bnd h
      refine wl_op rfl (op_call_v (vs := []) (r := (Value.bool (x4))) rfl ca16 rfl args0 I5 (fun Fr_ hF_ => F16_ok hF_  hx4) (fun w5 I6 => ?_))
      refine wl_op rfl (op_assign (v := (Value.bool (x4))) rfl rfl ?_)
      refine wl_nil ?_
      refine wp_ret' ?_
      obtain rfl := Option.some.inj h
      exact ⟨(Value.bool (x4)), (res1 rfl rfl), _, [], (le1.trans le2), (I6).drop, rfl, rfl⟩
    · refine wp_cond_f (b := x3.2 != 0) rfl hc2 ?_
      refine wp_skip' ?_
      refine wp_seq' ?_
      refine wp_seq' ?_
      refine wp_region' ?_
      refine wl_op rfl (op_move (v := (Value.slice z4 m4 k4)) rfl rfl ?_)
      refine wl_op rfl (op_len_row (α := Int) rfl Try.underlying34 rfl (I5.nth 0 rfl) ?_)
      refine wl_op rfl (op_move (v := (Value.int .i64 (a1))) rfl rfl ?_)
      refine wl_op rfl (op_neq (a := (x3.1.length : Int)) (b := a1) rfl rfl rfl ?_)
      refine wl_nil ?_
      rcases ifs h with ⟨hc3, h⟩ | ⟨hc3, h⟩
      · refine wp_cond_t (b := (x3.1.length : Int) != a1) rfl hc3 ?_
        refine wp_seq' ?_
        refine wp_region' ?_
        refine wl_op rfl (op_assign (v := (Value.bool (false))) rfl rfl ?_)
        refine wl_nil ?_
        refine wp_ret' ?_
        obtain rfl := Option.some.inj h
        exact ⟨(Value.bool (false)), (res1 rfl rfl), _, [], (le1.trans le2), (I5).drop, rfl, rfl⟩
      · refine wp_cond_f (b := (x3.1.length : Int) != a1) rfl hc3 ?_
        refine wp_skip' ?_
        refine wp_seq' ?_
        refine wp_seq' ?_
        refine wp_region' ?_
        refine wl_op rfl (op_assign (v := (Value.int .i64 (0))) rfl rfl ?_)
        refine wl_nil ?_
        obtain ⟨x11, hx11, h⟩ := bnd h
        obtain ⟨o2, hrun1, h⟩ := bnd h
        refine wp_cutN (fun f w => ∃ out1, o2 = Sum.inl out1 ∧ ∃ (S_ : PH), S2.Le S_ ∧ Inv w S_ (Row (α := Int) 3 (Value.slice z4 m4 k4) (x3.1) :: Fr) ∧ f 1 = (Value.int .i64 (a1)) ∧ f 2 = (Value.slice z2 m2 k2) ∧ f 3 = (Value.pointer (some ⟨g1, 0, none⟩)) ∧ f 7 = (Value.slice z4 m4 k4)) ?_ ?_
        · refine wp_block' ?_
          refine wp_forN (I := fun (i1 : Nat) (s1 : Unit) (f : Frm) (w : World) => ∃ (S_ : PH), S2.Le S_ ∧ Inv w S_ (Row (α := Int) 3 (Value.slice z4 m4 k4) (x3.1) :: Fr) ∧ f 1 = (Value.int .i64 (a1)) ∧ f 2 = (Value.slice z2 m2 k2) ∧ f 3 = (Value.pointer (some ⟨g1, 0, none⟩)) ∧ f 7 = (Value.slice z4 m4 k4) ∧ f 9 = (Value.int .i64 (i1 : Int))) hrun1 ⟨_, (PH.Le.refl _), I5, rfl, rfl, rfl, rfl, rfl⟩ ?_ ?_
          · rintro i1 s1 f w o1 hlt1 hI373 h1 hout1
            obtain ⟨S377, le377, I388, e225, e226, e227, e228, e229⟩ := hI373
            refine wp_seq' ?_
            refine wp_seq' ?_
            refine wp_region' ?_
            refine wl_op rfl (op_move (v := (Value.int .i64 ((i1 : Int)))) rfl e229 ?_)
            refine wl_op rfl (op_move (v := (Value.int .i64 (a1))) rfl e225 ?_)
            refine wl_op rfl (op_lss (a := (i1 : Int)) (b := a1) rfl rfl rfl ?_)
            refine wl_nil ?_
            refine wp_cond_t (b := decide ((i1 : Int) < a1)) rfl (cnt_t hx11 hlt1) ?_
            refine wp_skip' ?_
            refine wp_seq' ?_
            refine wp_block' ?_
            refine wp_seq' ?_
            obtain ⟨x12, hx12, h1⟩ := bnd h1
            rcases ifs h1 with ⟨hc16, h1⟩ | ⟨hc16, h1⟩
            · refine wp_draw (sps := [⟨some 34, [], [0], fun vs_ T_ => fr0 vs_ 0 = (Value.slice z4 m4 k4), [], [], [], fun _ h_ => h_⟩, ⟨some 35, [], [1], fun vs_ T_ => fr0 vs_ 0 = (Value.int .i64 ((i1 : Int))), [], [], [], fun _ h_ => h_⟩, ⟨some 36, [0, 1], [2], fun vs_ T_ => fr0 vs_ 0 = (elemPtr (Value.slice z4 m4 k4) ((i1 : Int)) (Enc.sz Int)), [0], [], [], fun _ h_ => h_⟩, ⟨some 37, [0, 1, 2], [3], fun vs_ T_ => fr0 vs_ 0 = (Value.int .i64 (x12)), [0], [], [], fun _ h_ => h_⟩, ⟨some 38, [0, 1, 2, 3], [4], fun vs_ T_ => fr0 vs_ 0 = (Value.bool (decide (x12 < 0))), [], [], [], fun _ h_ => h_⟩, ⟨some 39, [0, 1, 2, 3, 4], [5], fun vs_ T_ => fr0 vs_ 0 = (Value.bool (decide (x12 < 0))), [], [], [], fun _ h_ => h_⟩, ⟨some 40, [0, 1, 2, 3, 4, 5], [6], fun vs_ T_ => fr0 vs_ 0 = undef, [], [], [], fun _ h_ => h_⟩, ⟨some 41, [0, 1, 2, 3, 4, 5], [7], fun vs_ T_ => fr0 vs_ 0 = undef, [], [], [], fun _ h_ => h_⟩, ⟨some 42, [0, 1, 2, 3, 4, 5, 6, 7], [8], fun vs_ T_ => fr0 vs_ 0 = undef, [], [], [], fun _ h_ => h_⟩, ⟨some 43, [0, 1, 2, 3, 4, 5, 6, 7, 8], [9], fun vs_ T_ => fr0 vs_ 0 = undef, [], [], [], fun _ h_ => h_⟩, ⟨some 44, [0, 1, 2, 3, 4, 5], [10], fun vs_ T_ => fr0 vs_ 0 = undef, [], [], [], fun _ h_ => h_⟩, ⟨some 45, [0, 1, 2, 3, 4, 5, 10], [11], fun vs_ T_ => fr0 vs_ 0 = undef, [], [], [], fun _ h_ => h_⟩, ⟨some 46, [0, 1, 2, 3, 4, 5, 10, 11], [12], fun vs_ T_ => fr0 vs_ 0 = undef, [], [], [], fun _ h_ => h_⟩, ⟨some 47, [0, 1, 2, 3, 4, 5, 10, 11, 12], [13], fun vs_ T_ => fr0 vs_ 0 = undef, [], [], [], fun _ h_ => h_⟩, ⟨some 48, [0, 1, 2, 3, 4, 5, 10, 11, 12, 13], [14], fun vs_ T_ => fr0 vs_ 0 = undef, [], [], [], fun _ h_ => h_⟩, ⟨some 49, [0, 1, 2, 3, 4, 5, 6, 7, 8, 9, 10, 11, 12, 13, 14], [15], fun vs_ T_ => fr0 vs_ 0 = undef, [], [], [], fun _ h_ => h_⟩, ⟨some 50, [0, 1, 2, 3, 4, 5, 6, 7, 8, 9, 10, 11, 12, 13, 14, 15], [16], fun vs_ T_ => fr0 vs_ 0 = (Value.bool (true)), [], [], [], fun _ h_ => h_⟩, ⟨some 51, [0, 1, 2, 3, 4, 5, 6, 7, 8, 9, 10, 11, 12, 13, 14, 15, 16], [17], fun vs_ T_ => fr0 vs_ 0 = (Value.bool (true)), [], [], [], fun _ h_ => h_⟩, ⟨some 52, [0, 1, 2, 3, 4, 5, 6, 7, 8, 9, 10, 11, 12, 13, 14, 15, 16, 17], [18], fun vs_ T_ => fr0 vs_ 0 = undef, [], [], [], fun _ h_ => h_⟩, ⟨some 53, [0, 1, 2, 3, 4, 5, 6, 7, 8, 9, 10, 11, 12, 13, 14, 15, 16, 17], [19], fun vs_ T_ => fr0 vs_ 0 = undef, [], [], [], fun _ h_ => h_⟩, ⟨some 54, [0, 1, 2, 3, 4, 5, 6, 7, 8, 9, 10, 11, 12, 13, 14, 15, 16, 17, 18, 19], [20], fun vs_ T_ => fr0 vs_ 0 = undef, [], [], [], fun _ h_ => h_⟩, ⟨some 55, [0, 1, 2, 3, 4, 5, 6, 7, 8, 9, 10, 11, 12, 13, 14, 15, 16, 17, 18, 19, 20], [21], fun vs_ T_ => fr0 vs_ 0 = undef, [], [], [], fun _ h_ => h_⟩, ⟨some 56, [0, 1, 2, 3, 4, 5, 6, 7, 8, 9, 10, 11, 12, 13, 14, 15, 16, 17, 18, 19, 20, 21], [22], fun vs_ T_ => fr0 vs_ 0 = undef, [], [], [], fun _ h_ => h_⟩, ⟨some 57, [0, 1, 2, 3, 4, 5, 6, 7, 8, 9, 10, 11, 12, 13, 14, 15, 16, 17, 18, 19, 20, 21, 22], [23], fun vs_ T_ => fr0 vs_ 0 = undef, [], [], [], fun _ h_ => h_⟩, ⟨some 58, [0, 1, 2, 3, 4, 5, 6, 7, 8, 9, 10, 11, 12, 13, 14, 15, 16, 17, 18, 19, 20, 21, 22, 23], [24], fun vs_ T_ => fr0 vs_ 0 = undef, [], [], [], fun _ h_ => h_⟩, ⟨some 59, [0, 1, 2, 3, 4, 5, 6, 7, 8, 9, 10, 11, 12, 13, 14, 15, 16, 17, 18, 19, 20, 21, 22, 23], [25], fun vs_ T_ => fr0 vs_ 0 = undef, [], [], [], fun _ h_ => h_⟩, ⟨some 60, [0, 1, 2, 3, 4, 5, 6, 7, 8, 9, 10, 11, 12, 13, 14, 15, 16, 17, 18, 19, 20, 21, 22, 23, 24, 25], [26], fun vs_ T_ => fr0 vs_ 0 = undef, [], [], [], fun _ h_ => h_⟩, ⟨some 61, [0, 1, 2, 3, 4, 5, 6, 7, 8, 9, 10, 11, 12, 13, 14, 15, 16, 17, 18, 19, 20, 21, 22, 23, 24, 25, 26], [27], fun vs_ T_ => fr0 vs_ 0 = undef, [], [], [], fun _ h_ => h_⟩, ⟨some 62, [0, 1, 2, 3, 4, 5, 6, 7, 8, 9, 10, 11, 12, 13, 14, 15, 16, 17, 18, 19, 20, 21, 22, 23, 24, 25, 26, 27], [28], fun vs_ T_ => fr0 vs_ 0 = undef, [], [], [], fun _ h_ => h_⟩, ⟨some 63, [0, 1, 2, 3, 4, 5, 6, 7, 8, 9, 10, 11, 12, 13, 14, 15, 16, 17, 18, 19, 20, 21, 22, 23, 24, 25, 26, 27, 28], [29], fun vs_ T_ => fr0 vs_ 0 = (Value.bool (true)), [], [], [], fun _ h_ => h_⟩]) (tks := [⟨none, none, [], fun vs_ => Row (α := Int) 3 (Value.slice z4 m4 k4) (x3.1)⟩]) (O := Fr) rfl (by kernel_rfl) I388 ⟨?_, ?_, ?_, ?_, ?_, ?_, ?_, ?_, ?_, ?_, ?_, ?_, ?_, ?_, ?_, ?_, ?_, ?_, ?_, ?_, ?_, ?_, ?_, ?_, ?_, ?_, ?_, ?_, ?_, ?_, trivial⟩ ?_
              · intro vs373 f w384 S378 X361 le378 hA361 hK373 hI374
                have I389 : Inv w384 S378 (X361) := hI374
                refine opg_plain rfl rfl (op_move (v := (Value.slice z4 m4 k4)) rfl ((hK373 7 (keep_of rfl)).trans e228) ?_)
                refine ⟨_, _, rfl, PH.Le.refl _, ?_, ?_⟩
                · exact rfl
                · exact I389
              · intro vs374 f w385 S379 X362 le379 hA362 hK374 hI375
                have I390 : Inv w385 S379 (X362) := hI375
                refine opg_plain rfl rfl (op_move (v := (Value.int .i64 ((i1 : Int)))) rfl ((hK374 9 (keep_of rfl)).trans e229) ?_)
                refine ⟨_, _, rfl, PH.Le.refl _, ?_, ?_⟩
                · exact rfl
                · exact I390
              · intro vs375 f w386 S380 X363 le380 hA363 hK375 hI376
                have I391 : Inv w386 S380 (Row (α := Int) 3 (Value.slice z4 m4 k4) (x3.1) :: X363) := hI376
                have q4429 : f 34 = (Value.slice z4 m4 k4) := vt (hA363.1 _ rfl) rfl
                have q4430 : f 35 = (Value.int .i64 ((i1 : Int))) := vt (hA363.2.1 _ rfl) rfl
                refine opg_plain rfl rfl (op_indexAddr_src (v := (Value.slice z4 m4 k4)) (i := (i1 : Int)) (e := x12) rfl Try.underlying34 sh3 q4429 (Inv.rowSrc (I391.nth 0 rfl)) q4430 hx12 ?_)
                refine ⟨_, _, rfl, PH.Le.refl _, ?_, ?_⟩
                · exact rfl
                · exact I391
              · intro vs376 f w387 S381 X364 le381 hA364 hK376 hI377
                have I392 : Inv w387 S381 (Row (α := Int) 3 (Value.slice z4 m4 k4) (x3.1) :: X364) := hI377
                have q4431 : f 34 = (Value.slice z4 m4 k4) := vt (hA364.1 _ rfl) rfl
                have q4432 : f 35 = (Value.int .i64 ((i1 : Int))) := vt (hA364.2.1 _ rfl) rfl
                have q4433 : f 36 = (elemPtr (Value.slice z4 m4 k4) ((i1 : Int)) (Enc.sz Int)) := vt (hA364.2.2.1 _ rfl) rfl
                refine opg_plain rfl rfl (op_load_int (v := (elemPtr (Value.slice z4 m4 k4) ((i1 : Int)) (Enc.sz Int))) (e := x12) rfl sh3 q4433 ((I392.nth 0 rfl).rowElem hx12) ?_)
                refine ⟨_, _, rfl, PH.Le.refl _, ?_, ?_⟩
                · exact rfl
                · exact I392
              · intro vs377 f w388 S382 X365 le382 hA365 hK377 hI378
                have I393 : Inv w388 S382 (X365) := hI378
                have q4434 : f 34 = (Value.slice z4 m4 k4) := vt (hA365.1 _ rfl) rfl
                have q4435 : f 35 = (Value.int .i64 ((i1 : Int))) := vt (hA365.2.1 _ rfl) rfl
                have q4436 : f 36 = (elemPtr (Value.slice z4 m4 k4) ((i1 : Int)) (Enc.sz Int)) := vt (hA365.2.2.1 _ rfl) rfl
                have q4437 : f 37 = (Value.int .i64 (x12)) := vt (hA365.2.2.2.1 _ rfl) rfl
                refine opg_plain rfl rfl (op_lss (a := x12) (b := 0) rfl q4437 rfl ?_)
                refine ⟨_, _, rfl, PH.Le.refl _, ?_, ?_⟩
                · exact rfl
                · exact I393
              · intro vs378 f w389 S383 X366 le383 hA366 hK378 hI379
                have I394 : Inv w389 S383 (X366) := hI379
                have q4438 : f 34 = (Value.slice z4 m4 k4) := vt (hA366.1 _ rfl) rfl
                have q4439 : f 35 = (Value.int .i64 ((i1 : Int))) := vt (hA366.2.1 _ rfl) rfl
                have q4440 : f 36 = (elemPtr (Value.slice z4 m4 k4) ((i1 : Int)) (Enc.sz Int)) := vt (hA366.2.2.1 _ rfl) rfl
                have q4441 : f 37 = (Value.int .i64 (x12)) := vt (hA366.2.2.2.1 _ rfl) rfl
                have q4442 : f 38 = (Value.bool (decide (x12 < 0))) := vt (hA366.2.2.2.2.1 _ rfl) rfl
                refine opg_plain rfl rfl (op_move (v := (Value.bool (decide (x12 < 0)))) rfl q4442 ?_)
                refine ⟨_, _, rfl, PH.Le.refl _, ?_, ?_⟩
                · exact rfl
                · exact I394
              · intro vs379 f w390 S384 X367 le384 hA367 hK379 hI380
                have I395 : Inv w390 S384 (X367) := hI380
                have q4443 : f 34 = (Value.slice z4 m4 k4) := vt (hA367.1 _ rfl) rfl
                have q4444 : f 35 = (Value.int .i64 ((i1 : Int))) := vt (hA367.2.1 _ rfl) rfl
                have q4445 : f 36 = (elemPtr (Value.slice z4 m4 k4) ((i1 : Int)) (Enc.sz Int)) := vt (hA367.2.2.1 _ rfl) rfl
                have q4446 : f 37 = (Value.int .i64 (x12)) := vt (hA367.2.2.2.1 _ rfl) rfl
                have q4447 : f 38 = (Value.bool (decide (x12 < 0))) := vt (hA367.2.2.2.2.1 _ rfl) rfl
                have q4448 : f 39 = (Value.bool (decide (x12 < 0))) := vt (hA367.2.2.2.2.2.1 _ rfl) rfl
                exact opg_skip (c := decide (x12 < 0)) rfl rfl rfl rfl q4448 hc16 rfl ⟨_, _, rfl, PH.Le.refl _, rfl, I395⟩
              · intro vs380 f w391 S385 X368 le385 hA368 hK380 hI381
                have I396 : Inv w391 S385 (X368) := hI381
                have q4449 : f 34 = (Value.slice z4 m4 k4) := vt (hA368.1 _ rfl) rfl
                have q4450 : f 35 = (Value.int .i64 ((i1 : Int))) := vt (hA368.2.1 _ rfl) rfl
                have q4451 : f 36 = (elemPtr (Value.slice z4 m4 k4) ((i1 : Int)) (Enc.sz Int)) := vt (hA368.2.2.1 _ rfl) rfl
                have q4452 : f 37 = (Value.int .i64 (x12)) := vt (hA368.2.2.2.1 _ rfl) rfl
                have q4453 : f 38 = (Value.bool (decide (x12 < 0))) := vt (hA368.2.2.2.2.1 _ rfl) rfl
                have q4454 : f 39 = (Value.bool (decide (x12 < 0))) := vt (hA368.2.2.2.2.2.1 _ rfl) rfl
                exact opg_skip (c := decide (x12 < 0)) rfl rfl rfl rfl q4454 hc16 rfl ⟨_, _, rfl, PH.Le.refl _, rfl, I396⟩
              · intro vs381 f w392 S386 X369 le386 hA369 hK381 hI382
                have I397 : Inv w392 S386 (X369) := hI382
                have q4455 : f 34 = (Value.slice z4 m4 k4) := vt (hA369.1 _ rfl) rfl
                have q4456 : f 35 = (Value.int .i64 ((i1 : Int))) := vt (hA369.2.1 _ rfl) rfl
                have q4457 : f 36 = (elemPtr (Value.slice z4 m4 k4) ((i1 : Int)) (Enc.sz Int)) := vt (hA369.2.2.1 _ rfl) rfl
                have q4458 : f 37 = (Value.int .i64 (x12)) := vt (hA369.2.2.2.1 _ rfl) rfl
                have q4459 : f 38 = (Value.bool (decide (x12 < 0))) := vt (hA369.2.2.2.2.1 _ rfl) rfl
                have q4460 : f 39 = (Value.bool (decide (x12 < 0))) := vt (hA369.2.2.2.2.2.1 _ rfl) rfl
                have q4461 : f 40 = undef := vt (hA369.2.2.2.2.2.2.1 _ rfl) rfl
                have q4462 : f 41 = undef := vt (hA369.2.2.2.2.2.2.2.1 _ rfl) rfl
                exact opg_skip (c := decide (x12 < 0)) rfl rfl rfl rfl q4460 hc16 rfl ⟨_, _, rfl, PH.Le.refl _, rfl, I397⟩
              · intro vs382 f w393 S387 X370 le387 hA370 hK382 hI383
                have I398 : Inv w393 S387 (X370) := hI383
                have q4463 : f 34 = (Value.slice z4 m4 k4) := vt (hA370.1 _ rfl) rfl
                have q4464 : f 35 = (Value.int .i64 ((i1 : Int))) := vt (hA370.2.1 _ rfl) rfl
                have q4465 : f 36 = (elemPtr (Value.slice z4 m4 k4) ((i1 : Int)) (Enc.sz Int)) := vt (hA370.2.2.1 _ rfl) rfl
                have q4466 : f 37 = (Value.int .i64 (x12)) := vt (hA370.2.2.2.1 _ rfl) rfl
                have q4467 : f 38 = (Value.bool (decide (x12 < 0))) := vt (hA370.2.2.2.2.1 _ rfl) rfl
                have q4468 : f 39 = (Value.bool (decide (x12 < 0))) := vt (hA370.2.2.2.2.2.1 _ rfl) rfl
                have q4469 : f 40 = undef := vt (hA370.2.2.2.2.2.2.1 _ rfl) rfl
                have q4470 : f 41 = undef := vt (hA370.2.2.2.2.2.2.2.1 _ rfl) rfl
                have q4471 : f 42 = undef := vt (hA370.2.2.2.2.2.2.2.2.1 _ rfl) rfl
                exact opg_skip (c := decide (x12 < 0)) rfl rfl rfl rfl q4468 hc16 rfl ⟨_, _, rfl, PH.Le.refl _, rfl, I398⟩
              · intro vs383 f w394 S388 X371 le388 hA371 hK383 hI384
                have I399 : Inv w394 S388 (X371) := hI384
                have q4472 : f 34 = (Value.slice z4 m4 k4) := vt (hA371.1 _ rfl) rfl
                have q4473 : f 35 = (Value.int .i64 ((i1 : Int))) := vt (hA371.2.1 _ rfl) rfl
                have q4474 : f 36 = (elemPtr (Value.slice z4 m4 k4) ((i1 : Int)) (Enc.sz Int)) := vt (hA371.2.2.1 _ rfl) rfl
                have q4475 : f 37 = (Value.int .i64 (x12)) := vt (hA371.2.2.2.1 _ rfl) rfl
                have q4476 : f 38 = (Value.bool (decide (x12 < 0))) := vt (hA371.2.2.2.2.1 _ rfl) rfl
                have q4477 : f 39 = (Value.bool (decide (x12 < 0))) := vt (hA371.2.2.2.2.2.1 _ rfl) rfl
                exact opg_skip (c := decide (x12 < 0)) rfl rfl rfl rfl q4477 hc16 rfl ⟨_, _, rfl, PH.Le.refl _, rfl, I399⟩
              · intro vs384 f w395 S389 X372 le389 hA372 hK384 hI385
                have I400 : Inv w395 S389 (X372) := hI385
                have q4478 : f 34 = (Value.slice z4 m4 k4) := vt (hA372.1 _ rfl) rfl
                have q4479 : f 35 = (Value.int .i64 ((i1 : Int))) := vt (hA372.2.1 _ rfl) rfl
                have q4480 : f 36 = (elemPtr (Value.slice z4 m4 k4) ((i1 : Int)) (Enc.sz Int)) := vt (hA372.2.2.1 _ rfl) rfl
                have q4481 : f 37 = (Value.int .i64 (x12)) := vt (hA372.2.2.2.1 _ rfl) rfl
                have q4482 : f 38 = (Value.bool (decide (x12 < 0))) := vt (hA372.2.2.2.2.1 _ rfl) rfl
                have q4483 : f 39 = (Value.bool (decide (x12 < 0))) := vt (hA372.2.2.2.2.2.1 _ rfl) rfl
                have q4484 : f 44 = undef := vt (hA372.2.2.2.2.2.2.1 _ rfl) rfl
                exact opg_skip (c := decide (x12 < 0)) rfl rfl rfl rfl q4483 hc16 rfl ⟨_, _, rfl, PH.Le.refl _, rfl, I400⟩
              · intro vs385 f w396 S390 X373 le390 hA373 hK385 hI386
                have I401 : Inv w396 S390 (X373) := hI386
                have q4485 : f 34 = (Value.slice z4 m4 k4) := vt (hA373.1 _ rfl) rfl
                have q4486 : f 35 = (Value.int .i64 ((i1 : Int))) := vt (hA373.2.1 _ rfl) rfl
                have q4487 : f 36 = (elemPtr (Value.slice z4 m4 k4) ((i1 : Int)) (Enc.sz Int)) := vt (hA373.2.2.1 _ rfl) rfl
                have q4488 : f 37 = (Value.int .i64 (x12)) := vt (hA373.2.2.2.1 _ rfl) rfl
                have q4489 : f 38 = (Value.bool (decide (x12 < 0))) := vt (hA373.2.2.2.2.1 _ rfl) rfl
                have q4490 : f 39 = (Value.bool (decide (x12 < 0))) := vt (hA373.2.2.2.2.2.1 _ rfl) rfl
                have q4491 : f 44 = undef := vt (hA373.2.2.2.2.2.2.1 _ rfl) rfl
                have q4492 : f 45 = undef := vt (hA373.2.2.2.2.2.2.2.1 _ rfl) rfl
                exact opg_skip (c := decide (x12 < 0)) rfl rfl rfl rfl q4490 hc16 rfl ⟨_, _, rfl, PH.Le.refl _, rfl, I401⟩
              · intro vs386 f w397 S391 X374 le391 hA374 hK386 hI387
                have I402 : Inv w397 S391 (X374) := hI387
                have q4493 : f 34 = (Value.slice z4 m4 k4) := vt (hA374.1 _ rfl) rfl
                have q4494 : f 35 = (Value.int .i64 ((i1 : Int))) := vt (hA374.2.1 _ rfl) rfl
                have q4495 : f 36 = (elemPtr (Value.slice z4 m4 k4) ((i1 : Int)) (Enc.sz Int)) := vt (hA374.2.2.1 _ rfl) rfl
                have q4496 : f 37 = (Value.int .i64 (x12)) := vt (hA374.2.2.2.1 _ rfl) rfl
                have q4497 : f 38 = (Value.bool (decide (x12 < 0))) := vt (hA374.2.2.2.2.1 _ rfl) rfl
                have q4498 : f 39 = (Value.bool (decide (x12 < 0))) := vt (hA374.2.2.2.2.2.1 _ rfl) rfl
                have q4499 : f 44 = undef := vt (hA374.2.2.2.2.2.2.1 _ rfl) rfl
                have q4500 : f 45 = undef := vt (hA374.2.2.2.2.2.2.2.1 _ rfl) rfl
                have q4501 : f 46 = undef := vt (hA374.2.2.2.2.2.2.2.2.1 _ rfl) rfl
                exact opg_skip (c := decide (x12 < 0)) rfl rfl rfl rfl q4498 hc16 rfl ⟨_, _, rfl, PH.Le.refl _, rfl, I402⟩
              · intro vs387 f w398 S392 X375 le392 hA375 hK387 hI388
                have I403 : Inv w398 S392 (X375) := hI388
                have q4502 : f 34 = (Value.slice z4 m4 k4) := vt (hA375.1 _ rfl) rfl
                have q4503 : f 35 = (Value.int .i64 ((i1 : Int))) := vt (hA375.2.1 _ rfl) rfl
                have q4504 : f 36 = (elemPtr (Value.slice z4 m4 k4) ((i1 : Int)) (Enc.sz Int)) := vt (hA375.2.2.1 _ rfl) rfl
                have q4505 : f 37 = (Value.int .i64 (x12)) := vt (hA375.2.2.2.1 _ rfl) rfl
                have q4506 : f 38 = (Value.bool (decide (x12 < 0))) := vt (hA375.2.2.2.2.1 _ rfl) rfl
                have q4507 : f 39 = (Value.bool (decide (x12 < 0))) := vt (hA375.2.2.2.2.2.1 _ rfl) rfl
                have q4508 : f 44 = undef := vt (hA375.2.2.2.2.2.2.1 _ rfl) rfl
                have q4509 : f 45 = undef := vt (hA375.2.2.2.2.2.2.2.1 _ rfl) rfl
                have q4510 : f 46 = undef := vt (hA375.2.2.2.2.2.2.2.2.1 _ rfl) rfl
                have q4511 : f 47 = undef := vt (hA375.2.2.2.2.2.2.2.2.2.1 _ rfl) rfl
                exact opg_skip (c := decide (x12 < 0)) rfl rfl rfl rfl q4507 hc16 rfl ⟨_, _, rfl, PH.Le.refl _, rfl, I403⟩
              · intro vs388 f w399 S393 X376 le393 hA376 hK388 hI389
                have I404 : Inv w399 S393 (X376) := hI389
                have q4512 : f 34 = (Value.slice z4 m4 k4) := vt (hA376.1 _ rfl) rfl
                have q4513 : f 35 = (Value.int .i64 ((i1 : Int))) := vt (hA376.2.1 _ rfl) rfl
                have q4514 : f 36 = (elemPtr (Value.slice z4 m4 k4) ((i1 : Int)) (Enc.sz Int)) := vt (hA376.2.2.1 _ rfl) rfl
                have q4515 : f 37 = (Value.int .i64 (x12)) := vt (hA376.2.2.2.1 _ rfl) rfl
                have q4516 : f 38 = (Value.bool (decide (x12 < 0))) := vt (hA376.2.2.2.2.1 _ rfl) rfl
                have q4517 : f 39 = (Value.bool (decide (x12 < 0))) := vt (hA376.2.2.2.2.2.1 _ rfl) rfl
                have q4518 : f 40 = undef := vt (hA376.2.2.2.2.2.2.1 _ rfl) rfl
                have q4519 : f 41 = undef := vt (hA376.2.2.2.2.2.2.2.1 _ rfl) rfl
                have q4520 : f 42 = undef := vt (hA376.2.2.2.2.2.2.2.2.1 _ rfl) rfl
                have q4521 : f 43 = undef := vt (hA376.2.2.2.2.2.2.2.2.2.1 _ rfl) rfl
                have q4522 : f 44 = undef := vt (hA376.2.2.2.2.2.2.2.2.2.2.1 _ rfl) rfl
                have q4523 : f 45 = undef := vt (hA376.2.2.2.2.2.2.2.2.2.2.2.1 _ rfl) rfl
                have q4524 : f 46 = undef := vt (hA376.2.2.2.2.2.2.2.2.2.2.2.2.1 _ rfl) rfl
                have q4525 : f 47 = undef := vt (hA376.2.2.2.2.2.2.2.2.2.2.2.2.2.1 _ rfl) rfl
                have q4526 : f 48 = undef := vt (hA376.2.2.2.2.2.2.2.2.2.2.2.2.2.2.1 _ rfl) rfl
                exact opg_skip (c := decide (x12 < 0)) rfl rfl rfl rfl q4517 hc16 rfl ⟨_, _, rfl, PH.Le.refl _, rfl, I404⟩
              · intro vs389 f w400 S394 X377 le394 hA377 hK389 hI390
                have I405 : Inv w400 S394 (X377) := hI390
                have q4527 : f 34 = (Value.slice z4 m4 k4) := vt (hA377.1 _ rfl) rfl
                have q4528 : f 35 = (Value.int .i64 ((i1 : Int))) := vt (hA377.2.1 _ rfl) rfl
                have q4529 : f 36 = (elemPtr (Value.slice z4 m4 k4) ((i1 : Int)) (Enc.sz Int)) := vt (hA377.2.2.1 _ rfl) rfl
                have q4530 : f 37 = (Value.int .i64 (x12)) := vt (hA377.2.2.2.1 _ rfl) rfl
                have q4531 : f 38 = (Value.bool (decide (x12 < 0))) := vt (hA377.2.2.2.2.1 _ rfl) rfl
                have q4532 : f 39 = (Value.bool (decide (x12 < 0))) := vt (hA377.2.2.2.2.2.1 _ rfl) rfl
                have q4533 : f 40 = undef := vt (hA377.2.2.2.2.2.2.1 _ rfl) rfl
                have q4534 : f 41 = undef := vt (hA377.2.2.2.2.2.2.2.1 _ rfl) rfl
                have q4535 : f 42 = undef := vt (hA377.2.2.2.2.2.2.2.2.1 _ rfl) rfl
                have q4536 : f 43 = undef := vt (hA377.2.2.2.2.2.2.2.2.2.1 _ rfl) rfl
                have q4537 : f 44 = undef := vt (hA377.2.2.2.2.2.2.2.2.2.2.1 _ rfl) rfl
                have q4538 : f 45 = undef := vt (hA377.2.2.2.2.2.2.2.2.2.2.2.1 _ rfl) rfl
                have q4539 : f 46 = undef := vt (hA377.2.2.2.2.2.2.2.2.2.2.2.2.1 _ rfl) rfl
                have q4540 : f 47 = undef := vt (hA377.2.2.2.2.2.2.2.2.2.2.2.2.2.1 _ rfl) rfl
                have q4541 : f 48 = undef := vt (hA377.2.2.2.2.2.2.2.2.2.2.2.2.2.2.1 _ rfl) rfl
                have q4542 : f 49 = undef := vt (hA377.2.2.2.2.2.2.2.2.2.2.2.2.2.2.2.1 _ rfl) rfl
                refine opg_plain rfl rfl (op_pick_t (c := decide (x12 < 0)) (a := (Value.bool (true))) rfl q4532 hc16 rfl ?_)
                refine ⟨_, _, rfl, PH.Le.refl _, ?_, ?_⟩
                · exact rfl
                · exact I405
              · intro vs390 f w401 S395 X378 le395 hA378 hK390 hI391
                have I406 : Inv w401 S395 (X378) := hI391
                have q4543 : f 34 = (Value.slice z4 m4 k4) := vt (hA378.1 _ rfl) rfl
                have q4544 : f 35 = (Value.int .i64 ((i1 : Int))) := vt (hA378.2.1 _ rfl) rfl
                have q4545 : f 36 = (elemPtr (Value.slice z4 m4 k4) ((i1 : Int)) (Enc.sz Int)) := vt (hA378.2.2.1 _ rfl) rfl
                have q4546 : f 37 = (Value.int .i64 (x12)) := vt (hA378.2.2.2.1 _ rfl) rfl
                have q4547 : f 38 = (Value.bool (decide (x12 < 0))) := vt (hA378.2.2.2.2.1 _ rfl) rfl
                have q4548 : f 39 = (Value.bool (decide (x12 < 0))) := vt (hA378.2.2.2.2.2.1 _ rfl) rfl
                have q4549 : f 40 = undef := vt (hA378.2.2.2.2.2.2.1 _ rfl) rfl
                have q4550 : f 41 = undef := vt (hA378.2.2.2.2.2.2.2.1 _ rfl) rfl
                have q4551 : f 42 = undef := vt (hA378.2.2.2.2.2.2.2.2.1 _ rfl) rfl
                have q4552 : f 43 = undef := vt (hA378.2.2.2.2.2.2.2.2.2.1 _ rfl) rfl
                have q4553 : f 44 = undef := vt (hA378.2.2.2.2.2.2.2.2.2.2.1 _ rfl) rfl
                have q4554 : f 45 = undef := vt (hA378.2.2.2.2.2.2.2.2.2.2.2.1 _ rfl) rfl
                have q4555 : f 46 = undef := vt (hA378.2.2.2.2.2.2.2.2.2.2.2.2.1 _ rfl) rfl
                have q4556 : f 47 = undef := vt (hA378.2.2.2.2.2.2.2.2.2.2.2.2.2.1 _ rfl) rfl
                have q4557 : f 48 = undef := vt (hA378.2.2.2.2.2.2.2.2.2.2.2.2.2.2.1 _ rfl) rfl
                have q4558 : f 49 = undef := vt (hA378.2.2.2.2.2.2.2.2.2.2.2.2.2.2.2.1 _ rfl) rfl
                have q4559 : f 50 = (Value.bool (true)) := vt (hA378.2.2.2.2.2.2.2.2.2.2.2.2.2.2.2.2.1 _ rfl) rfl
                refine opg_plain rfl rfl (op_move (v := (Value.bool (true))) rfl q4559 ?_)
                refine ⟨_, _, rfl, PH.Le.refl _, ?_, ?_⟩
                · exact rfl
                · exact I406
              · intro vs391 f w402 S396 X379 le396 hA379 hK391 hI392
                have I407 : Inv w402 S396 (X379) := hI392
                have q4560 : f 34 = (Value.slice z4 m4 k4) := vt (hA379.1 _ rfl) rfl
                have q4561 : f 35 = (Value.int .i64 ((i1 : Int))) := vt (hA379.2.1 _ rfl) rfl
                have q4562 : f 36 = (elemPtr (Value.slice z4 m4 k4) ((i1 : Int)) (Enc.sz Int)) := vt (hA379.2.2.1 _ rfl) rfl
                have q4563 : f 37 = (Value.int .i64 (x12)) := vt (hA379.2.2.2.1 _ rfl) rfl
                have q4564 : f 38 = (Value.bool (decide (x12 < 0))) := vt (hA379.2.2.2.2.1 _ rfl) rfl
                have q4565 : f 39 = (Value.bool (decide (x12 < 0))) := vt (hA379.2.2.2.2.2.1 _ rfl) rfl
                have q4566 : f 40 = undef := vt (hA379.2.2.2.2.2.2.1 _ rfl) rfl
                have q4567 : f 41 = undef := vt (hA379.2.2.2.2.2.2.2.1 _ rfl) rfl
                have q4568 : f 42 = undef := vt (hA379.2.2.2.2.2.2.2.2.1 _ rfl) rfl
                have q4569 : f 43 = undef := vt (hA379.2.2.2.2.2.2.2.2.2.1 _ rfl) rfl
                have q4570 : f 44 = undef := vt (hA379.2.2.2.2.2.2.2.2.2.2.1 _ rfl) rfl
                have q4571 : f 45 = undef := vt (hA379.2.2.2.2.2.2.2.2.2.2.2.1 _ rfl) rfl
                have q4572 : f 46 = undef := vt (hA379.2.2.2.2.2.2.2.2.2.2.2.2.1 _ rfl) rfl
                have q4573 : f 47 = undef := vt (hA379.2.2.2.2.2.2.2.2.2.2.2.2.2.1 _ rfl) rfl
                have q4574 : f 48 = undef := vt (hA379.2.2.2.2.2.2.2.2.2.2.2.2.2.2.1 _ rfl) rfl
                have q4575 : f 49 = undef := vt (hA379.2.2.2.2.2.2.2.2.2.2.2.2.2.2.2.1 _ rfl) rfl
                have q4576 : f 50 = (Value.bool (true)) := vt (hA379.2.2.2.2.2.2.2.2.2.2.2.2.2.2.2.2.1 _ rfl) rfl
                have q4577 : f 51 = (Value.bool (true)) := vt (hA379.2.2.2.2.2.2.2.2.2.2.2.2.2.2.2.2.2.1 _ rfl) rfl
                exact opg_skip (c := true) rfl rfl rfl rfl q4577 rfl rfl ⟨_, _, rfl, PH.Le.refl _, rfl, I407⟩
              · intro vs392 f w403 S397 X380 le397 hA380 hK392 hI393
                have I408 : Inv w403 S397 (X380) := hI393
                have q4578 : f 34 = (Value.slice z4 m4 k4) := vt (hA380.1 _ rfl) rfl
                have q4579 : f 35 = (Value.int .i64 ((i1 : Int))) := vt (hA380.2.1 _ rfl) rfl
                have q4580 : f 36 = (elemPtr (Value.slice z4 m4 k4) ((i1 : Int)) (Enc.sz Int)) := vt (hA380.2.2.1 _ rfl) rfl
                have q4581 : f 37 = (Value.int .i64 (x12)) := vt (hA380.2.2.2.1 _ rfl) rfl
                have q4582 : f 38 = (Value.bool (decide (x12 < 0))) := vt (hA380.2.2.2.2.1 _ rfl) rfl
                have q4583 : f 39 = (Value.bool (decide (x12 < 0))) := vt (hA380.2.2.2.2.2.1 _ rfl) rfl
                have q4584 : f 40 = undef := vt (hA380.2.2.2.2.2.2.1 _ rfl) rfl
                have q4585 : f 41 = undef := vt (hA380.2.2.2.2.2.2.2.1 _ rfl) rfl
                have q4586 : f 42 = undef := vt (hA380.2.2.2.2.2.2.2.2.1 _ rfl) rfl
                have q4587 : f 43 = undef := vt (hA380.2.2.2.2.2.2.2.2.2.1 _ rfl) rfl
                have q4588 : f 44 = undef := vt (hA380.2.2.2.2.2.2.2.2.2.2.1 _ rfl) rfl
                have q4589 : f 45 = undef := vt (hA380.2.2.2.2.2.2.2.2.2.2.2.1 _ rfl) rfl
                have q4590 : f 46 = undef := vt (hA380.2.2.2.2.2.2.2.2.2.2.2.2.1 _ rfl) rfl
                have q4591 : f 47 = undef := vt (hA380.2.2.2.2.2.2.2.2.2.2.2.2.2.1 _ rfl) rfl
                have q4592 : f 48 = undef := vt (hA380.2.2.2.2.2.2.2.2.2.2.2.2.2.2.1 _ rfl) rfl
                have q4593 : f 49 = undef := vt (hA380.2.2.2.2.2.2.2.2.2.2.2.2.2.2.2.1 _ rfl) rfl
                have q4594 : f 50 = (Value.bool (true)) := vt (hA380.2.2.2.2.2.2.2.2.2.2.2.2.2.2.2.2.1 _ rfl) rfl
                have q4595 : f 51 = (Value.bool (true)) := vt (hA380.2.2.2.2.2.2.2.2.2.2.2.2.2.2.2.2.2.1 _ rfl) rfl
                exact opg_skip (c := true) rfl rfl rfl rfl q4595 rfl rfl ⟨_, _, rfl, PH.Le.refl _, rfl, I408⟩
              · intro vs393 f w404 S398 X381 le398 hA381 hK393 hI394
                have I409 : Inv w404 S398 (X381) := hI394
                have q4596 : f 34 = (Value.slice z4 m4 k4) := vt (hA381.1 _ rfl) rfl
                have q4597 : f 35 = (Value.int .i64 ((i1 : Int))) := vt (hA381.2.1 _ rfl) rfl
                have q4598 : f 36 = (elemPtr (Value.slice z4 m4 k4) ((i1 : Int)) (Enc.sz Int)) := vt (hA381.2.2.1 _ rfl) rfl
                have q4599 : f 37 = (Value.int .i64 (x12)) := vt (hA381.2.2.2.1 _ rfl) rfl
                have q4600 : f 38 = (Value.bool (decide (x12 < 0))) := vt (hA381.2.2.2.2.1 _ rfl) rfl
                have q4601 : f 39 = (Value.bool (decide (x12 < 0))) := vt (hA381.2.2.2.2.2.1 _ rfl) rfl
                have q4602 : f 40 = undef := vt (hA381.2.2.2.2.2.2.1 _ rfl) rfl
                have q4603 : f 41 = undef := vt (hA381.2.2.2.2.2.2.2.1 _ rfl) rfl
                have q4604 : f 42 = undef := vt (hA381.2.2.2.2.2.2.2.2.1 _ rfl) rfl
                have q4605 : f 43 = undef := vt (hA381.2.2.2.2.2.2.2.2.2.1 _ rfl) rfl
                have q4606 : f 44 = undef := vt (hA381.2.2.2.2.2.2.2.2.2.2.1 _ rfl) rfl
                have q4607 : f 45 = undef := vt (hA381.2.2.2.2.2.2.2.2.2.2.2.1 _ rfl) rfl
                have q4608 : f 46 = undef := vt (hA381.2.2.2.2.2.2.2.2.2.2.2.2.1 _ rfl) rfl
                have q4609 : f 47 = undef := vt (hA381.2.2.2.2.2.2.2.2.2.2.2.2.2.1 _ rfl) rfl
                have q4610 : f 48 = undef := vt (hA381.2.2.2.2.2.2.2.2.2.2.2.2.2.2.1 _ rfl) rfl
                have q4611 : f 49 = undef := vt (hA381.2.2.2.2.2.2.2.2.2.2.2.2.2.2.2.1 _ rfl) rfl
                have q4612 : f 50 = (Value.bool (true)) := vt (hA381.2.2.2.2.2.2.2.2.2.2.2.2.2.2.2.2.1 _ rfl) rfl
                have q4613 : f 51 = (Value.bool (true)) := vt (hA381.2.2.2.2.2.2.2.2.2.2.2.2.2.2.2.2.2.1 _ rfl) rfl
                have q4614 : f 52 = undef := vt (hA381.2.2.2.2.2.2.2.2.2.2.2.2.2.2.2.2.2.2.1 _ rfl) rfl
                have q4615 : f 53 = undef := vt (hA381.2.2.2.2.2.2.2.2.2.2.2.2.2.2.2.2.2.2.2.1 _ rfl) rfl
                exact opg_skip (c := true) rfl rfl rfl rfl q4613 rfl rfl ⟨_, _, rfl, PH.Le.refl _, rfl, I409⟩
              · intro vs394 f w405 S399 X382 le399 hA382 hK394 hI395
                have I410 : Inv w405 S399 (X382) := hI395
                have q4616 : f 34 = (Value.slice z4 m4 k4) := vt (hA382.1 _ rfl) rfl
                have q4617 : f 35 = (Value.int .i64 ((i1 : Int))) := vt (hA382.2.1 _ rfl) rfl
                have q4618 : f 36 = (elemPtr (Value.slice z4 m4 k4) ((i1 : Int)) (Enc.sz Int)) := vt (hA382.2.2.1 _ rfl) rfl
                have q4619 : f 37 = (Value.int .i64 (x12)) := vt (hA382.2.2.2.1 _ rfl) rfl
                have q4620 : f 38 = (Value.bool (decide (x12 < 0))) := vt (hA382.2.2.2.2.1 _ rfl) rfl
                have q4621 : f 39 = (Value.bool (decide (x12 < 0))) := vt (hA382.2.2.2.2.2.1 _ rfl) rfl
                have q4622 : f 40 = undef := vt (hA382.2.2.2.2.2.2.1 _ rfl) rfl
                have q4623 : f 41 = undef := vt (hA382.2.2.2.2.2.2.2.1 _ rfl) rfl
                have q4624 : f 42 = undef := vt (hA382.2.2.2.2.2.2.2.2.1 _ rfl) rfl
                have q4625 : f 43 = undef := vt (hA382.2.2.2.2.2.2.2.2.2.1 _ rfl) rfl
                have q4626 : f 44 = undef := vt (hA382.2.2.2.2.2.2.2.2.2.2.1 _ rfl) rfl
                have q4627 : f 45 = undef := vt (hA382.2.2.2.2.2.2.2.2.2.2.2.1 _ rfl) rfl
                have q4628 : f 46 = undef := vt (hA382.2.2.2.2.2.2.2.2.2.2.2.2.1 _ rfl) rfl
                have q4629 : f 47 = undef := vt (hA382.2.2.2.2.2.2.2.2.2.2.2.2.2.1 _ rfl) rfl
                have q4630 : f 48 = undef := vt (hA382.2.2.2.2.2.2.2.2.2.2.2.2.2.2.1 _ rfl) rfl
                have q4631 : f 49 = undef := vt (hA382.2.2.2.2.2.2.2.2.2.2.2.2.2.2.2.1 _ rfl) rfl
                have q4632 : f 50 = (Value.bool (true)) := vt (hA382.2.2.2.2.2.2.2.2.2.2.2.2.2.2.2.2.1 _ rfl) rfl
                have q4633 : f 51 = (Value.bool (true)) := vt (hA382.2.2.2.2.2.2.2.2.2.2.2.2.2.2.2.2.2.1 _ rfl) rfl
                have q4634 : f 52 = undef := vt (hA382.2.2.2.2.2.2.2.2.2.2.2.2.2.2.2.2.2.2.1 _ rfl) rfl
                have q4635 : f 53 = undef := vt (hA382.2.2.2.2.2.2.2.2.2.2.2.2.2.2.2.2.2.2.2.1 _ rfl) rfl
                have q4636 : f 54 = undef := vt (hA382.2.2.2.2.2.2.2.2.2.2.2.2.2.2.2.2.2.2.2.2.1 _ rfl) rfl
                exact opg_skip (c := true) rfl rfl rfl rfl q4633 rfl rfl ⟨_, _, rfl, PH.Le.refl _, rfl, I410⟩
              · intro vs395 f w406 S400 X383 le400 hA383 hK395 hI396
                have I411 : Inv w406 S400 (X383) := hI396
                have q4637 : f 34 = (Value.slice z4 m4 k4) := vt (hA383.1 _ rfl) rfl
                have q4638 : f 35 = (Value.int .i64 ((i1 : Int))) := vt (hA383.2.1 _ rfl) rfl
                have q4639 : f 36 = (elemPtr (Value.slice z4 m4 k4) ((i1 : Int)) (Enc.sz Int)) := vt (hA383.2.2.1 _ rfl) rfl
                have q4640 : f 37 = (Value.int .i64 (x12)) := vt (hA383.2.2.2.1 _ rfl) rfl
                have q4641 : f 38 = (Value.bool (decide (x12 < 0))) := vt (hA383.2.2.2.2.1 _ rfl) rfl
                have q4642 : f 39 = (Value.bool (decide (x12 < 0))) := vt (hA383.2.2.2.2.2.1 _ rfl) rfl
                have q4643 : f 40 = undef := vt (hA383.2.2.2.2.2.2.1 _ rfl) rfl
                have q4644 : f 41 = undef := vt (hA383.2.2.2.2.2.2.2.1 _ rfl) rfl
                have q4645 : f 42 = undef := vt (hA383.2.2.2.2.2.2.2.2.1 _ rfl) rfl
                have q4646 : f 43 = undef := vt (hA383.2.2.2.2.2.2.2.2.2.1 _ rfl) rfl
                have q4647 : f 44 = undef := vt (hA383.2.2.2.2.2.2.2.2.2.2.1 _ rfl) rfl
                have q4648 : f 45 = undef := vt (hA383.2.2.2.2.2.2.2.2.2.2.2.1 _ rfl) rfl
                have q4649 : f 46 = undef := vt (hA383.2.2.2.2.2.2.2.2.2.2.2.2.1 _ rfl) rfl
                have q4650 : f 47 = undef := vt (hA383.2.2.2.2.2.2.2.2.2.2.2.2.2.1 _ rfl) rfl
                have q4651 : f 48 = undef := vt (hA383.2.2.2.2.2.2.2.2.2.2.2.2.2.2.1 _ rfl) rfl
                have q4652 : f 49 = undef := vt (hA383.2.2.2.2.2.2.2.2.2.2.2.2.2.2.2.1 _ rfl) rfl
                have q4653 : f 50 = (Value.bool (true)) := vt (hA383.2.2.2.2.2.2.2.2.2.2.2.2.2.2.2.2.1 _ rfl) rfl
                have q4654 : f 51 = (Value.bool (true)) := vt (hA383.2.2.2.2.2.2.2.2.2.2.2.2.2.2.2.2.2.1 _ rfl) rfl
                have q4655 : f 52 = undef := vt (hA383.2.2.2.2.2.2.2.2.2.2.2.2.2.2.2.2.2.2.1 _ rfl) rfl
                have q4656 : f 53 = undef := vt (hA383.2.2.2.2.2.2.2.2.2.2.2.2.2.2.2.2.2.2.2.1 _ rfl) rfl
                have q4657 : f 54 = undef := vt (hA383.2.2.2.2.2.2.2.2.2.2.2.2.2.2.2.2.2.2.2.2.1 _ rfl) rfl
                have q4658 : f 55 = undef := vt (hA383.2.2.2.2.2.2.2.2.2.2.2.2.2.2.2.2.2.2.2.2.2.1 _ rfl) rfl
                exact opg_skip (c := true) rfl rfl rfl rfl q4654 rfl rfl ⟨_, _, rfl, PH.Le.refl _, rfl, I411⟩
              · intro vs396 f w407 S401 X384 le401 hA384 hK396 hI397
                have I412 : Inv w407 S401 (X384) := hI397
                have q4659 : f 34 = (Value.slice z4 m4 k4) := vt (hA384.1 _ rfl) rfl
                have q4660 : f 35 = (Value.int .i64 ((i1 : Int))) := vt (hA384.2.1 _ rfl) rfl
                have q4661 : f 36 = (elemPtr (Value.slice z4 m4 k4) ((i1 : Int)) (Enc.sz Int)) := vt (hA384.2.2.1 _ rfl) rfl
                have q4662 : f 37 = (Value.int .i64 (x12)) := vt (hA384.2.2.2.1 _ rfl) rfl
                have q4663 : f 38 = (Value.bool (decide (x12 < 0))) := vt (hA384.2.2.2.2.1 _ rfl) rfl
                have q4664 : f 39 = (Value.bool (decide (x12 < 0))) := vt (hA384.2.2.2.2.2.1 _ rfl) rfl
                have q4665 : f 40 = undef := vt (hA384.2.2.2.2.2.2.1 _ rfl) rfl
                have q4666 : f 41 = undef := vt (hA384.2.2.2.2.2.2.2.1 _ rfl) rfl
                have q4667 : f 42 = undef := vt (hA384.2.2.2.2.2.2.2.2.1 _ rfl) rfl
                have q4668 : f 43 = undef := vt (hA384.2.2.2.2.2.2.2.2.2.1 _ rfl) rfl
                have q4669 : f 44 = undef := vt (hA384.2.2.2.2.2.2.2.2.2.2.1 _ rfl) rfl
                have q4670 : f 45 = undef := vt (hA384.2.2.2.2.2.2.2.2.2.2.2.1 _ rfl) rfl
                have q4671 : f 46 = undef := vt (hA384.2.2.2.2.2.2.2.2.2.2.2.2.1 _ rfl) rfl
                have q4672 : f 47 = undef := vt (hA384.2.2.2.2.2.2.2.2.2.2.2.2.2.1 _ rfl) rfl
                have q4673 : f 48 = undef := vt (hA384.2.2.2.2.2.2.2.2.2.2.2.2.2.2.1 _ rfl) rfl
                have q4674 : f 49 = undef := vt (hA384.2.2.2.2.2.2.2.2.2.2.2.2.2.2.2.1 _ rfl) rfl
                have q4675 : f 50 = (Value.bool (true)) := vt (hA384.2.2.2.2.2.2.2.2.2.2.2.2.2.2.2.2.1 _ rfl) rfl
                have q4676 : f 51 = (Value.bool (true)) := vt (hA384.2.2.2.2.2.2.2.2.2.2.2.2.2.2.2.2.2.1 _ rfl) rfl
                have q4677 : f 52 = undef := vt (hA384.2.2.2.2.2.2.2.2.2.2.2.2.2.2.2.2.2.2.1 _ rfl) rfl
                have q4678 : f 53 = undef := vt (hA384.2.2.2.2.2.2.2.2.2.2.2.2.2.2.2.2.2.2.2.1 _ rfl) rfl
                have q4679 : f 54 = undef := vt (hA384.2.2.2.2.2.2.2.2.2.2.2.2.2.2.2.2.2.2.2.2.1 _ rfl) rfl
                have q4680 : f 55 = undef := vt (hA384.2.2.2.2.2.2.2.2.2.2.2.2.2.2.2.2.2.2.2.2.2.1 _ rfl) rfl
                have q4681 : f 56 = undef := vt (hA384.2.2.2.2.2.2.2.2.2.2.2.2.2.2.2.2.2.2.2.2.2.2.1 _ rfl) rfl
                exact opg_skip (c := true) rfl rfl rfl rfl q4676 rfl rfl ⟨_, _, rfl, PH.Le.refl _, rfl, I412⟩
              · intro vs397 f w408 S402 X385 le402 hA385 hK397 hI398
                have I413 : Inv w408 S402 (X385) := hI398
                have q4682 : f 52 = undef := vt (hA385.2.2.2.2.2.2.2.2.2.2.2.2.2.2.2.2.2.2.1 _ rfl) rfl
                have q4683 : f 53 = undef := vt (hA385.2.2.2.2.2.2.2.2.2.2.2.2.2.2.2.2.2.2.2.1 _ rfl) rfl
                have q4684 : f 54 = undef := vt (hA385.2.2.2.2.2.2.2.2.2.2.2.2.2.2.2.2.2.2.2.2.1 _ rfl) rfl
                have q4685 : f 55 = undef := vt (hA385.2.2.2.2.2.2.2.2.2.2.2.2.2.2.2.2.2.2.2.2.2.1 _ rfl) rfl
                have q4686 : f 56 = undef := vt (hA385.2.2.2.2.2.2.2.2.2.2.2.2.2.2.2.2.2.2.2.2.2.2.1 _ rfl) rfl
                have q4687 : f 57 = undef := vt (hA385.2.2.2.2.2.2.2.2.2.2.2.2.2.2.2.2.2.2.2.2.2.2.2.1 _ rfl) rfl
                exact opg_skip_u rfl rfl rfl rfl q4687 rfl ⟨_, _, rfl, PH.Le.refl _, rfl, I413⟩
              · intro vs398 f w409 S403 X386 le403 hA386 hK398 hI399
                have I414 : Inv w409 S403 (X386) := hI399
                have q4688 : f 52 = undef := vt (hA386.2.2.2.2.2.2.2.2.2.2.2.2.2.2.2.2.2.2.1 _ rfl) rfl
                have q4689 : f 53 = undef := vt (hA386.2.2.2.2.2.2.2.2.2.2.2.2.2.2.2.2.2.2.2.1 _ rfl) rfl
                have q4690 : f 54 = undef := vt (hA386.2.2.2.2.2.2.2.2.2.2.2.2.2.2.2.2.2.2.2.2.1 _ rfl) rfl
                have q4691 : f 55 = undef := vt (hA386.2.2.2.2.2.2.2.2.2.2.2.2.2.2.2.2.2.2.2.2.2.1 _ rfl) rfl
                have q4692 : f 56 = undef := vt (hA386.2.2.2.2.2.2.2.2.2.2.2.2.2.2.2.2.2.2.2.2.2.2.1 _ rfl) rfl
                have q4693 : f 57 = undef := vt (hA386.2.2.2.2.2.2.2.2.2.2.2.2.2.2.2.2.2.2.2.2.2.2.2.1 _ rfl) rfl
                exact opg_skip_u rfl rfl rfl rfl q4693 rfl ⟨_, _, rfl, PH.Le.refl _, rfl, I414⟩
              · intro vs399 f w410 S404 X387 le404 hA387 hK399 hI400
                have I415 : Inv w410 S404 (X387) := hI400
                have q4694 : f 52 = undef := vt (hA387.2.2.2.2.2.2.2.2.2.2.2.2.2.2.2.2.2.2.1 _ rfl) rfl
                have q4695 : f 53 = undef := vt (hA387.2.2.2.2.2.2.2.2.2.2.2.2.2.2.2.2.2.2.2.1 _ rfl) rfl
                have q4696 : f 54 = undef := vt (hA387.2.2.2.2.2.2.2.2.2.2.2.2.2.2.2.2.2.2.2.2.1 _ rfl) rfl
                have q4697 : f 55 = undef := vt (hA387.2.2.2.2.2.2.2.2.2.2.2.2.2.2.2.2.2.2.2.2.2.1 _ rfl) rfl
                have q4698 : f 56 = undef := vt (hA387.2.2.2.2.2.2.2.2.2.2.2.2.2.2.2.2.2.2.2.2.2.2.1 _ rfl) rfl
                have q4699 : f 57 = undef := vt (hA387.2.2.2.2.2.2.2.2.2.2.2.2.2.2.2.2.2.2.2.2.2.2.2.1 _ rfl) rfl
                have q4700 : f 58 = undef := vt (hA387.2.2.2.2.2.2.2.2.2.2.2.2.2.2.2.2.2.2.2.2.2.2.2.2.1 _ rfl) rfl
                have q4701 : f 59 = undef := vt (hA387.2.2.2.2.2.2.2.2.2.2.2.2.2.2.2.2.2.2.2.2.2.2.2.2.2.1 _ rfl) rfl
                exact opg_skip_u rfl rfl rfl rfl q4699 rfl ⟨_, _, rfl, PH.Le.refl _, rfl, I415⟩
              · intro vs400 f w411 S405 X388 le405 hA388 hK400 hI401
                have I416 : Inv w411 S405 (X388) := hI401
                have q4702 : f 52 = undef := vt (hA388.2.2.2.2.2.2.2.2.2.2.2.2.2.2.2.2.2.2.1 _ rfl) rfl
                have q4703 : f 53 = undef := vt (hA388.2.2.2.2.2.2.2.2.2.2.2.2.2.2.2.2.2.2.2.1 _ rfl) rfl
                have q4704 : f 54 = undef := vt (hA388.2.2.2.2.2.2.2.2.2.2.2.2.2.2.2.2.2.2.2.2.1 _ rfl) rfl
                have q4705 : f 55 = undef := vt (hA388.2.2.2.2.2.2.2.2.2.2.2.2.2.2.2.2.2.2.2.2.2.1 _ rfl) rfl
                have q4706 : f 56 = undef := vt (hA388.2.2.2.2.2.2.2.2.2.2.2.2.2.2.2.2.2.2.2.2.2.2.1 _ rfl) rfl
                have q4707 : f 57 = undef := vt (hA388.2.2.2.2.2.2.2.2.2.2.2.2.2.2.2.2.2.2.2.2.2.2.2.1 _ rfl) rfl
                have q4708 : f 58 = undef := vt (hA388.2.2.2.2.2.2.2.2.2.2.2.2.2.2.2.2.2.2.2.2.2.2.2.2.1 _ rfl) rfl
                have q4709 : f 59 = undef := vt (hA388.2.2.2.2.2.2.2.2.2.2.2.2.2.2.2.2.2.2.2.2.2.2.2.2.2.1 _ rfl) rfl
                have q4710 : f 60 = undef := vt (hA388.2.2.2.2.2.2.2.2.2.2.2.2.2.2.2.2.2.2.2.2.2.2.2.2.2.2.1 _ rfl) rfl
                exact opg_skip_u rfl rfl rfl rfl q4707 rfl ⟨_, _, rfl, PH.Le.refl _, rfl, I416⟩
              · intro vs401 f w412 S406 X389 le406 hA389 hK401 hI402
                have I417 : Inv w412 S406 (X389) := hI402
                have q4711 : f 34 = (Value.slice z4 m4 k4) := vt (hA389.1 _ rfl) rfl
                have q4712 : f 35 = (Value.int .i64 ((i1 : Int))) := vt (hA389.2.1 _ rfl) rfl
                have q4713 : f 36 = (elemPtr (Value.slice z4 m4 k4) ((i1 : Int)) (Enc.sz Int)) := vt (hA389.2.2.1 _ rfl) rfl
                have q4714 : f 37 = (Value.int .i64 (x12)) := vt (hA389.2.2.2.1 _ rfl) rfl
                have q4715 : f 38 = (Value.bool (decide (x12 < 0))) := vt (hA389.2.2.2.2.1 _ rfl) rfl
                have q4716 : f 39 = (Value.bool (decide (x12 < 0))) := vt (hA389.2.2.2.2.2.1 _ rfl) rfl
                have q4717 : f 40 = undef := vt (hA389.2.2.2.2.2.2.1 _ rfl) rfl
                have q4718 : f 41 = undef := vt (hA389.2.2.2.2.2.2.2.1 _ rfl) rfl
                have q4719 : f 42 = undef := vt (hA389.2.2.2.2.2.2.2.2.1 _ rfl) rfl
                have q4720 : f 43 = undef := vt (hA389.2.2.2.2.2.2.2.2.2.1 _ rfl) rfl
                have q4721 : f 44 = undef := vt (hA389.2.2.2.2.2.2.2.2.2.2.1 _ rfl) rfl
                have q4722 : f 45 = undef := vt (hA389.2.2.2.2.2.2.2.2.2.2.2.1 _ rfl) rfl
                have q4723 : f 46 = undef := vt (hA389.2.2.2.2.2.2.2.2.2.2.2.2.1 _ rfl) rfl
                have q4724 : f 47 = undef := vt (hA389.2.2.2.2.2.2.2.2.2.2.2.2.2.1 _ rfl) rfl
                have q4725 : f 48 = undef := vt (hA389.2.2.2.2.2.2.2.2.2.2.2.2.2.2.1 _ rfl) rfl
                have q4726 : f 49 = undef := vt (hA389.2.2.2.2.2.2.2.2.2.2.2.2.2.2.2.1 _ rfl) rfl
                have q4727 : f 50 = (Value.bool (true)) := vt (hA389.2.2.2.2.2.2.2.2.2.2.2.2.2.2.2.2.1 _ rfl) rfl
                have q4728 : f 51 = (Value.bool (true)) := vt (hA389.2.2.2.2.2.2.2.2.2.2.2.2.2.2.2.2.2.1 _ rfl) rfl
                have q4729 : f 52 = undef := vt (hA389.2.2.2.2.2.2.2.2.2.2.2.2.2.2.2.2.2.2.1 _ rfl) rfl
                have q4730 : f 53 = undef := vt (hA389.2.2.2.2.2.2.2.2.2.2.2.2.2.2.2.2.2.2.2.1 _ rfl) rfl
                have q4731 : f 54 = undef := vt (hA389.2.2.2.2.2.2.2.2.2.2.2.2.2.2.2.2.2.2.2.2.1 _ rfl) rfl
                have q4732 : f 55 = undef := vt (hA389.2.2.2.2.2.2.2.2.2.2.2.2.2.2.2.2.2.2.2.2.2.1 _ rfl) rfl
                have q4733 : f 56 = undef := vt (hA389.2.2.2.2.2.2.2.2.2.2.2.2.2.2.2.2.2.2.2.2.2.2.1 _ rfl) rfl
                have q4734 : f 57 = undef := vt (hA389.2.2.2.2.2.2.2.2.2.2.2.2.2.2.2.2.2.2.2.2.2.2.2.1 _ rfl) rfl
                have q4735 : f 58 = undef := vt (hA389.2.2.2.2.2.2.2.2.2.2.2.2.2.2.2.2.2.2.2.2.2.2.2.2.1 _ rfl) rfl
                have q4736 : f 59 = undef := vt (hA389.2.2.2.2.2.2.2.2.2.2.2.2.2.2.2.2.2.2.2.2.2.2.2.2.2.1 _ rfl) rfl
                have q4737 : f 60 = undef := vt (hA389.2.2.2.2.2.2.2.2.2.2.2.2.2.2.2.2.2.2.2.2.2.2.2.2.2.2.1 _ rfl) rfl
                have q4738 : f 61 = undef := vt (hA389.2.2.2.2.2.2.2.2.2.2.2.2.2.2.2.2.2.2.2.2.2.2.2.2.2.2.2.1 _ rfl) rfl
                exact opg_skip (c := true) rfl rfl rfl rfl q4728 rfl rfl ⟨_, _, rfl, PH.Le.refl _, rfl, I417⟩
              · intro vs402 f w413 S407 X390 le407 hA390 hK402 hI403
                have I418 : Inv w413 S407 (X390) := hI403
                have q4739 : f 34 = (Value.slice z4 m4 k4) := vt (hA390.1 _ rfl) rfl
                have q4740 : f 35 = (Value.int .i64 ((i1 : Int))) := vt (hA390.2.1 _ rfl) rfl
                have q4741 : f 36 = (elemPtr (Value.slice z4 m4 k4) ((i1 : Int)) (Enc.sz Int)) := vt (hA390.2.2.1 _ rfl) rfl
                have q4742 : f 37 = (Value.int .i64 (x12)) := vt (hA390.2.2.2.1 _ rfl) rfl
                have q4743 : f 38 = (Value.bool (decide (x12 < 0))) := vt (hA390.2.2.2.2.1 _ rfl) rfl
                have q4744 : f 39 = (Value.bool (decide (x12 < 0))) := vt (hA390.2.2.2.2.2.1 _ rfl) rfl
                have q4745 : f 40 = undef := vt (hA390.2.2.2.2.2.2.1 _ rfl) rfl
                have q4746 : f 41 = undef := vt (hA390.2.2.2.2.2.2.2.1 _ rfl) rfl
                have q4747 : f 42 = undef := vt (hA390.2.2.2.2.2.2.2.2.1 _ rfl) rfl
                have q4748 : f 43 = undef := vt (hA390.2.2.2.2.2.2.2.2.2.1 _ rfl) rfl
                have q4749 : f 44 = undef := vt (hA390.2.2.2.2.2.2.2.2.2.2.1 _ rfl) rfl
                have q4750 : f 45 = undef := vt (hA390.2.2.2.2.2.2.2.2.2.2.2.1 _ rfl) rfl
                have q4751 : f 46 = undef := vt (hA390.2.2.2.2.2.2.2.2.2.2.2.2.1 _ rfl) rfl
                have q4752 : f 47 = undef := vt (hA390.2.2.2.2.2.2.2.2.2.2.2.2.2.1 _ rfl) rfl
                have q4753 : f 48 = undef := vt (hA390.2.2.2.2.2.2.2.2.2.2.2.2.2.2.1 _ rfl) rfl
                have q4754 : f 49 = undef := vt (hA390.2.2.2.2.2.2.2.2.2.2.2.2.2.2.2.1 _ rfl) rfl
                have q4755 : f 50 = (Value.bool (true)) := vt (hA390.2.2.2.2.2.2.2.2.2.2.2.2.2.2.2.2.1 _ rfl) rfl
                have q4756 : f 51 = (Value.bool (true)) := vt (hA390.2.2.2.2.2.2.2.2.2.2.2.2.2.2.2.2.2.1 _ rfl) rfl
                have q4757 : f 52 = undef := vt (hA390.2.2.2.2.2.2.2.2.2.2.2.2.2.2.2.2.2.2.1 _ rfl) rfl
                have q4758 : f 53 = undef := vt (hA390.2.2.2.2.2.2.2.2.2.2.2.2.2.2.2.2.2.2.2.1 _ rfl) rfl
                have q4759 : f 54 = undef := vt (hA390.2.2.2.2.2.2.2.2.2.2.2.2.2.2.2.2.2.2.2.2.1 _ rfl) rfl
                have q4760 : f 55 = undef := vt (hA390.2.2.2.2.2.2.2.2.2.2.2.2.2.2.2.2.2.2.2.2.2.1 _ rfl) rfl
                have q4761 : f 56 = undef := vt (hA390.2.2.2.2.2.2.2.2.2.2.2.2.2.2.2.2.2.2.2.2.2.2.1 _ rfl) rfl
                have q4762 : f 57 = undef := vt (hA390.2.2.2.2.2.2.2.2.2.2.2.2.2.2.2.2.2.2.2.2.2.2.2.1 _ rfl) rfl
                have q4763 : f 58 = undef := vt (hA390.2.2.2.2.2.2.2.2.2.2.2.2.2.2.2.2.2.2.2.2.2.2.2.2.1 _ rfl) rfl
                have q4764 : f 59 = undef := vt (hA390.2.2.2.2.2.2.2.2.2.2.2.2.2.2.2.2.2.2.2.2.2.2.2.2.2.1 _ rfl) rfl
                have q4765 : f 60 = undef := vt (hA390.2.2.2.2.2.2.2.2.2.2.2.2.2.2.2.2.2.2.2.2.2.2.2.2.2.2.1 _ rfl) rfl
                have q4766 : f 61 = undef := vt (hA390.2.2.2.2.2.2.2.2.2.2.2.2.2.2.2.2.2.2.2.2.2.2.2.2.2.2.2.1 _ rfl) rfl
                have q4767 : f 62 = undef := vt (hA390.2.2.2.2.2.2.2.2.2.2.2.2.2.2.2.2.2.2.2.2.2.2.2.2.2.2.2.2.1 _ rfl) rfl
                refine opg_plain rfl rfl (op_pick_t (c := true) (a := (Value.bool (true))) rfl q4756 rfl rfl ?_)
                refine ⟨_, _, rfl, PH.Le.refl _, ?_, ?_⟩
                · exact rfl
                · exact I418
              · intro vs403 f w414 S408 le408 hF13 hK403 hI404
                have e230 : f 1 = (Value.int .i64 (a1)) := (hK403 1 (keep_all rfl)).trans e225
                have e231 : f 2 = (Value.slice z2 m2 k2) := (hK403 2 (keep_all rfl)).trans e226
                have e232 : f 3 = (Value.pointer (some ⟨g1, 0, none⟩)) := (hK403 3 (keep_all rfl)).trans e227
                have e233 : f 7 = (Value.slice z4 m4 k4) := (hK403 7 (keep_all rfl)).trans e228
                have e234 : f 9 = (Value.int .i64 ((i1 : Int))) := (hK403 9 (keep_all rfl)).trans e229
                have I419 : Inv w414 S408 (Row (α := Int) 3 (Value.slice z4 m4 k4) (x3.1) :: Fr) := hI404
                have q4768 : f 34 = (Value.slice z4 m4 k4) := vt (hF13.1 _ rfl) rfl
                have q4769 : f 35 = (Value.int .i64 ((i1 : Int))) := vt (hF13.2.1 _ rfl) rfl
                have q4770 : f 36 = (elemPtr (Value.slice z4 m4 k4) ((i1 : Int)) (Enc.sz Int)) := vt (hF13.2.2.1 _ rfl) rfl
                have q4771 : f 37 = (Value.int .i64 (x12)) := vt (hF13.2.2.2.1 _ rfl) rfl
                have q4772 : f 38 = (Value.bool (decide (x12 < 0))) := vt (hF13.2.2.2.2.1 _ rfl) rfl
                have q4773 : f 39 = (Value.bool (decide (x12 < 0))) := vt (hF13.2.2.2.2.2.1 _ rfl) rfl
                have q4774 : f 40 = undef := vt (hF13.2.2.2.2.2.2.1 _ rfl) rfl
                have q4775 : f 41 = undef := vt (hF13.2.2.2.2.2.2.2.1 _ rfl) rfl
                have q4776 : f 42 = undef := vt (hF13.2.2.2.2.2.2.2.2.1 _ rfl) rfl
                have q4777 : f 43 = undef := vt (hF13.2.2.2.2.2.2.2.2.2.1 _ rfl) rfl
                have q4778 : f 44 = undef := vt (hF13.2.2.2.2.2.2.2.2.2.2.1 _ rfl) rfl
                have q4779 : f 45 = undef := vt (hF13.2.2.2.2.2.2.2.2.2.2.2.1 _ rfl) rfl
                have q4780 : f 46 = undef := vt (hF13.2.2.2.2.2.2.2.2.2.2.2.2.1 _ rfl) rfl
                have q4781 : f 47 = undef := vt (hF13.2.2.2.2.2.2.2.2.2.2.2.2.2.1 _ rfl) rfl
                have q4782 : f 48 = undef := vt (hF13.2.2.2.2.2.2.2.2.2.2.2.2.2.2.1 _ rfl) rfl
                have q4783 : f 49 = undef := vt (hF13.2.2.2.2.2.2.2.2.2.2.2.2.2.2.2.1 _ rfl) rfl
                have q4784 : f 50 = (Value.bool (true)) := vt (hF13.2.2.2.2.2.2.2.2.2.2.2.2.2.2.2.2.1 _ rfl) rfl
                have q4785 : f 51 = (Value.bool (true)) := vt (hF13.2.2.2.2.2.2.2.2.2.2.2.2.2.2.2.2.2.1 _ rfl) rfl
                have q4786 : f 52 = undef := vt (hF13.2.2.2.2.2.2.2.2.2.2.2.2.2.2.2.2.2.2.1 _ rfl) rfl
                have q4787 : f 53 = undef := vt (hF13.2.2.2.2.2.2.2.2.2.2.2.2.2.2.2.2.2.2.2.1 _ rfl) rfl
                have q4788 : f 54 = undef := vt (hF13.2.2.2.2.2.2.2.2.2.2.2.2.2.2.2.2.2.2.2.2.1 _ rfl) rfl
                have q4789 : f 55 = undef := vt (hF13.2.2.2.2.2.2.2.2.2.2.2.2.2.2.2.2.2.2.2.2.2.1 _ rfl) rfl
                have q4790 : f 56 = undef := vt (hF13.2.2.2.2.2.2.2.2.2.2.2.2.2.2.2.2.2.2.2.2.2.2.1 _ rfl) rfl
                have q4791 : f 57 = undef := vt (hF13.2.2.2.2.2.2.2.2.2.2.2.2.2.2.2.2.2.2.2.2.2.2.2.1 _ rfl) rfl
                have q4792 : f 58 = undef := vt (hF13.2.2.2.2.2.2.2.2.2.2.2.2.2.2.2.2.2.2.2.2.2.2.2.2.1 _ rfl) rfl
                have q4793 : f 59 = undef := vt (hF13.2.2.2.2.2.2.2.2.2.2.2.2.2.2.2.2.2.2.2.2.2.2.2.2.2.1 _ rfl) rfl
                have q4794 : f 60 = undef := vt (hF13.2.2.2.2.2.2.2.2.2.2.2.2.2.2.2.2.2.2.2.2.2.2.2.2.2.2.1 _ rfl) rfl
                have q4795 : f 61 = undef := vt (hF13.2.2.2.2.2.2.2.2.2.2.2.2.2.2.2.2.2.2.2.2.2.2.2.2.2.2.2.1 _ rfl) rfl
                have q4796 : f 62 = undef := vt (hF13.2.2.2.2.2.2.2.2.2.2.2.2.2.2.2.2.2.2.2.2.2.2.2.2.2.2.2.2.1 _ rfl) rfl
                have q4797 : f 63 = (Value.bool (true)) := vt (hF13.2.2.2.2.2.2.2.2.2.2.2.2.2.2.2.2.2.2.2.2.2.2.2.2.2.2.2.2.2.1 _ rfl) rfl
                refine wp_cond_t (b := true) q4797 rfl ?_
                refine wp_seq' ?_
                refine wp_region' ?_
                refine wl_op rfl (op_assign (v := (Value.bool (false))) rfl rfl ?_)
                refine wl_nil ?_
                refine wp_ret' ?_
                obtain rfl := Option.some.inj h1
                obtain rfl := (hout1 _ rfl)
                have h2 := h
                obtain rfl := Option.some.inj h2
                exact ⟨(Value.bool (false)), (res1 rfl rfl), _, [], (((le1.trans le2).trans le377).trans le408), (I419).drop, rfl, rfl⟩
            · rcases ifs h1 with ⟨hc17, h1⟩ | ⟨hc17, h1⟩
              · refine wp_draw (sps := [⟨some 34, [], [0], fun vs_ T_ => fr0 vs_ 0 = (Value.slice z4 m4 k4), [], [], [], fun _ h_ => h_⟩, ⟨some 35, [], [1], fun vs_ T_ => fr0 vs_ 0 = (Value.int .i64 ((i1 : Int))), [], [], [], fun _ h_ => h_⟩, ⟨some 36, [0, 1], [2], fun vs_ T_ => fr0 vs_ 0 = (elemPtr (Value.slice z4 m4 k4) ((i1 : Int)) (Enc.sz Int)), [0], [], [], fun _ h_ => h_⟩, ⟨some 37, [0, 1, 2], [3], fun vs_ T_ => fr0 vs_ 0 = (Value.int .i64 (x12)), [0], [], [], fun _ h_ => h_⟩, ⟨some 38, [0, 1, 2, 3], [4], fun vs_ T_ => fr0 vs_ 0 = (Value.bool (decide (x12 < 0))), [], [], [], fun _ h_ => h_⟩, ⟨some 39, [0, 1, 2, 3, 4], [5], fun vs_ T_ => fr0 vs_ 0 = (Value.bool (decide (x12 < 0))), [], [], [], fun _ h_ => h_⟩, ⟨some 40, [0, 1, 2, 3, 4, 5], [6], fun vs_ T_ => fr0 vs_ 0 = (Value.slice z4 m4 k4), [], [], [], fun _ h_ => h_⟩, ⟨some 41, [0, 1, 2, 3, 4, 5], [7], fun vs_ T_ => fr0 vs_ 0 = (Value.int .i64 ((i1 : Int))), [], [], [], fun _ h_ => h_⟩, ⟨some 42, [0, 1, 2, 3, 4, 5, 6, 7], [8], fun vs_ T_ => fr0 vs_ 0 = (elemPtr (Value.slice z4 m4 k4) ((i1 : Int)) (Enc.sz Int)), [0], [], [], fun _ h_ => h_⟩, ⟨some 43, [0, 1, 2, 3, 4, 5, 6, 7, 8], [9], fun vs_ T_ => fr0 vs_ 0 = (Value.int .i64 (x12)), [0], [], [], fun _ h_ => h_⟩, ⟨some 44, [0, 1, 2, 3, 4, 5], [10], fun vs_ T_ => fr0 vs_ 0 = (fieldPtr (Value.pointer (some ⟨g1, 0, none⟩)) 1), [], [], [], fun _ h_ => h_⟩, ⟨some 45, [0, 1, 2, 3, 4, 5, 10], [11], fun vs_ T_ => RV T_ (fr0 vs_ 0) a0.Doors, [], [], [], fun hle_ h_ => h_.mono hle_⟩, ⟨some 46, [0, 1, 2, 3, 4, 5, 10, 11], [12], fun vs_ T_ => fr0 vs_ 0 = (Value.int .i64 ((a0.Doors.length : Int))), [], [], [], fun _ h_ => h_⟩, ⟨some 47, [0, 1, 2, 3, 4, 5, 10, 11, 12], [13], fun vs_ T_ => fr0 vs_ 0 = (Value.int .u64 (wu64 (a0.Doors.length : Int))), [], [], [], fun _ h_ => h_⟩, ⟨some 48, [0, 1, 2, 3, 4, 5, 10, 11, 12, 13], [14], fun vs_ T_ => fr0 vs_ 0 = (Value.int .i64 (shlI 1 (wu64 (a0.Doors.length : Int)))), [], [], [], fun _ h_ => h_⟩, ⟨some 49, [0, 1, 2, 3, 4, 5, 6, 7, 8, 9, 10, 11, 12, 13, 14], [15], fun vs_ T_ => fr0 vs_ 0 = (Value.bool (decide ((shlI 1 (wu64 (a0.Doors.length : Int))) ≤ x12))), [], [], [], fun _ h_ => h_⟩, ⟨some 50, [0, 1, 2, 3, 4, 5, 6, 7, 8, 9, 10, 11, 12, 13, 14, 15], [16], fun vs_ T_ => fr0 vs_ 0 = (Value.bool (decide ((shlI 1 (wu64 (a0.Doors.length : Int))) ≤ x12))), [], [], [], fun _ h_ => h_⟩, ⟨some 51, [0, 1, 2, 3, 4, 5, 6, 7, 8, 9, 10, 11, 12, 13, 14, 15, 16], [17], fun vs_ T_ => fr0 vs_ 0 = (Value.bool (decide ((shlI 1 (wu64 (a0.Doors.length : Int))) ≤ x12))), [], [], [], fun _ h_ => h_⟩, ⟨some 52, [0, 1, 2, 3, 4, 5, 6, 7, 8, 9, 10, 11, 12, 13, 14, 15, 16, 17], [18], fun vs_ T_ => fr0 vs_ 0 = undef, [], [], [], fun _ h_ => h_⟩, ⟨some 53, [0, 1, 2, 3, 4, 5, 6, 7, 8, 9, 10, 11, 12, 13, 14, 15, 16, 17], [19], fun vs_ T_ => fr0 vs_ 0 = undef, [], [], [], fun _ h_ => h_⟩, ⟨some 54, [0, 1, 2, 3, 4, 5, 6, 7, 8, 9, 10, 11, 12, 13, 14, 15, 16, 17, 18, 19], [20], fun vs_ T_ => fr0 vs_ 0 = undef, [], [], [], fun _ h_ => h_⟩, ⟨some 55, [0, 1, 2, 3, 4, 5, 6, 7, 8, 9, 10, 11, 12, 13, 14, 15, 16, 17, 18, 19, 20], [21], fun vs_ T_ => fr0 vs_ 0 = undef, [], [], [], fun _ h_ => h_⟩, ⟨some 56, [0, 1, 2, 3, 4, 5, 6, 7, 8, 9, 10, 11, 12, 13, 14, 15, 16, 17, 18, 19, 20, 21], [22], fun vs_ T_ => fr0 vs_ 0 = undef, [], [], [], fun _ h_ => h_⟩, ⟨some 57, [0, 1, 2, 3, 4, 5, 6, 7, 8, 9, 10, 11, 12, 13, 14, 15, 16, 17, 18, 19, 20, 21, 22], [23], fun vs_ T_ => fr0 vs_ 0 = undef, [], [], [], fun _ h_ => h_⟩, ⟨some 58, [0, 1, 2, 3, 4, 5, 6, 7, 8, 9, 10, 11, 12, 13, 14, 15, 16, 17, 18, 19, 20, 21, 22, 23], [24], fun vs_ T_ => fr0 vs_ 0 = undef, [], [], [], fun _ h_ => h_⟩, ⟨some 59, [0, 1, 2, 3, 4, 5, 6, 7, 8, 9, 10, 11, 12, 13, 14, 15, 16, 17, 18, 19, 20, 21, 22, 23], [25], fun vs_ T_ => fr0 vs_ 0 = undef, [], [], [], fun _ h_ => h_⟩, ⟨some 60, [0, 1, 2, 3, 4, 5, 6, 7, 8, 9, 10, 11, 12, 13, 14, 15, 16, 17, 18, 19, 20, 21, 22, 23, 24, 25], [26], fun vs_ T_ => fr0 vs_ 0 = undef, [], [], [], fun _ h_ => h_⟩, ⟨some 61, [0, 1, 2, 3, 4, 5, 6, 7, 8, 9, 10, 11, 12, 13, 14, 15, 16, 17, 18, 19, 20, 21, 22, 23, 24, 25, 26], [27], fun vs_ T_ => fr0 vs_ 0 = undef, [], [], [], fun _ h_ => h_⟩, ⟨some 62, [0, 1, 2, 3, 4, 5, 6, 7, 8, 9, 10, 11, 12, 13, 14, 15, 16, 17, 18, 19, 20, 21, 22, 23, 24, 25, 26, 27], [28], fun vs_ T_ => fr0 vs_ 0 = undef, [], [], [], fun _ h_ => h_⟩, ⟨some 63, [0, 1, 2, 3, 4, 5, 6, 7, 8, 9, 10, 11, 12, 13, 14, 15, 16, 17, 18, 19, 20, 21, 22, 23, 24, 25, 26, 27, 28], [29], fun vs_ T_ => fr0 vs_ 0 = (Value.bool (true)), [], [], [], fun _ h_ => h_⟩]) (tks := [⟨none, none, [], fun vs_ => Row (α := Int) 3 (Value.slice z4 m4 k4) (x3.1)⟩]) (O := Fr) rfl (by kernel_rfl) I388 ⟨?_, ?_, ?_, ?_, ?_, ?_, ?_, ?_, ?_, ?_, ?_, ?_, ?_, ?_, ?_, ?_, ?_, ?_, ?_, ?_, ?_, ?_, ?_, ?_, ?_, ?_, ?_, ?_, ?_, ?_, trivial⟩ ?_
                · intro vs404 f w415 S409 X391 le409 hA391 hK404 hI405
                  have I420 : Inv w415 S409 (X391) := hI405
                  refine opg_plain rfl rfl (op_move (v := (Value.slice z4 m4 k4)) rfl ((hK404 7 (keep_of rfl)).trans e228) ?_)
                  refine ⟨_, _, rfl, PH.Le.refl _, ?_, ?_⟩
                  · exact rfl
                  · exact I420
                · intro vs405 f w416 S410 X392 le410 hA392 hK405 hI406
                  have I421 : Inv w416 S410 (X392) := hI406
                  refine opg_plain rfl rfl (op_move (v := (Value.int .i64 ((i1 : Int)))) rfl ((hK405 9 (keep_of rfl)).trans e229) ?_)
                  refine ⟨_, _, rfl, PH.Le.refl _, ?_, ?_⟩
                  · exact rfl
                  · exact I421
                · intro vs406 f w417 S411 X393 le411 hA393 hK406 hI407
                  have I422 : Inv w417 S411 (Row (α := Int) 3 (Value.slice z4 m4 k4) (x3.1) :: X393) := hI407
                  have q4798 : f 34 = (Value.slice z4 m4 k4) := vt (hA393.1 _ rfl) rfl
                  have q4799 : f 35 = (Value.int .i64 ((i1 : Int))) := vt (hA393.2.1 _ rfl) rfl
                  refine opg_plain rfl rfl (op_indexAddr_src (v := (Value.slice z4 m4 k4)) (i := (i1 : Int)) (e := x12) rfl Try.underlying34 sh3 q4798 (Inv.rowSrc (I422.nth 0 rfl)) q4799 hx12 ?_)
                  refine ⟨_, _, rfl, PH.Le.refl _, ?_, ?_⟩
                  · exact rfl
                  · exact I422
                · intro vs407 f w418 S412 X394 le412 hA394 hK407 hI408
                  have I423 : Inv w418 S412 (Row (α := Int) 3 (Value.slice z4 m4 k4) (x3.1) :: X394) := hI408
                  have q4800 : f 34 = (Value.slice z4 m4 k4) := vt (hA394.1 _ rfl) rfl
                  have q4801 : f 35 = (Value.int .i64 ((i1 : Int))) := vt (hA394.2.1 _ rfl) rfl
                  have q4802 : f 36 = (elemPtr (Value.slice z4 m4 k4) ((i1 : Int)) (Enc.sz Int)) := vt (hA394.2.2.1 _ rfl) rfl
                  refine opg_plain rfl rfl (op_load_int (v := (elemPtr (Value.slice z4 m4 k4) ((i1 : Int)) (Enc.sz Int))) (e := x12) rfl sh3 q4802 ((I423.nth 0 rfl).rowElem hx12) ?_)
                  refine ⟨_, _, rfl, PH.Le.refl _, ?_, ?_⟩
                  · exact rfl
                  · exact I423
                · intro vs408 f w419 S413 X395 le413 hA395 hK408 hI409
                  have I424 : Inv w419 S413 (X395) := hI409
                  have q4803 : f 34 = (Value.slice z4 m4 k4) := vt (hA395.1 _ rfl) rfl
                  have q4804 : f 35 = (Value.int .i64 ((i1 : Int))) := vt (hA395.2.1 _ rfl) rfl
                  have q4805 : f 36 = (elemPtr (Value.slice z4 m4 k4) ((i1 : Int)) (Enc.sz Int)) := vt (hA395.2.2.1 _ rfl) rfl
                  have q4806 : f 37 = (Value.int .i64 (x12)) := vt (hA395.2.2.2.1 _ rfl) rfl
                  refine opg_plain rfl rfl (op_lss (a := x12) (b := 0) rfl q4806 rfl ?_)
                  refine ⟨_, _, rfl, PH.Le.refl _, ?_, ?_⟩
                  · exact rfl
                  · exact I424
                · intro vs409 f w420 S414 X396 le414 hA396 hK409 hI410
                  have I425 : Inv w420 S414 (X396) := hI410
                  have q4807 : f 34 = (Value.slice z4 m4 k4) := vt (hA396.1 _ rfl) rfl
                  have q4808 : f 35 = (Value.int .i64 ((i1 : Int))) := vt (hA396.2.1 _ rfl) rfl
                  have q4809 : f 36 = (elemPtr (Value.slice z4 m4 k4) ((i1 : Int)) (Enc.sz Int)) := vt (hA396.2.2.1 _ rfl) rfl
                  have q4810 : f 37 = (Value.int .i64 (x12)) := vt (hA396.2.2.2.1 _ rfl) rfl
                  have q4811 : f 38 = (Value.bool (decide (x12 < 0))) := vt (hA396.2.2.2.2.1 _ rfl) rfl
                  refine opg_plain rfl rfl (op_move (v := (Value.bool (decide (x12 < 0)))) rfl q4811 ?_)
                  refine ⟨_, _, rfl, PH.Le.refl _, ?_, ?_⟩
                  · exact rfl
                  · exact I425
                · intro vs410 f w421 S415 X397 le415 hA397 hK410 hI411
                  have I426 : Inv w421 S415 (X397) := hI411
                  have q4812 : f 34 = (Value.slice z4 m4 k4) := vt (hA397.1 _ rfl) rfl
                  have q4813 : f 35 = (Value.int .i64 ((i1 : Int))) := vt (hA397.2.1 _ rfl) rfl
                  have q4814 : f 36 = (elemPtr (Value.slice z4 m4 k4) ((i1 : Int)) (Enc.sz Int)) := vt (hA397.2.2.1 _ rfl) rfl
                  have q4815 : f 37 = (Value.int .i64 (x12)) := vt (hA397.2.2.2.1 _ rfl) rfl
                  have q4816 : f 38 = (Value.bool (decide (x12 < 0))) := vt (hA397.2.2.2.2.1 _ rfl) rfl
                  have q4817 : f 39 = (Value.bool (decide (x12 < 0))) := vt (hA397.2.2.2.2.2.1 _ rfl) rfl
                  refine opg_taken (c := decide (x12 < 0)) rfl rfl rfl rfl q4817 hc16 (op_move (v := (Value.slice z4 m4 k4)) rfl ((hK410 7 (keep_of rfl)).trans e228) ?_)
                  refine ⟨_, _, rfl, PH.Le.refl _, ?_, ?_⟩
                  · exact rfl
                  · exact I426
                · intro vs411 f w422 S416 X398 le416 hA398 hK411 hI412
                  have I427 : Inv w422 S416 (X398) := hI412
                  have q4818 : f 34 = (Value.slice z4 m4 k4) := vt (hA398.1 _ rfl) rfl
                  have q4819 : f 35 = (Value.int .i64 ((i1 : Int))) := vt (hA398.2.1 _ rfl) rfl
                  have q4820 : f 36 = (elemPtr (Value.slice z4 m4 k4) ((i1 : Int)) (Enc.sz Int)) := vt (hA398.2.2.1 _ rfl) rfl
                  have q4821 : f 37 = (Value.int .i64 (x12)) := vt (hA398.2.2.2.1 _ rfl) rfl
                  have q4822 : f 38 = (Value.bool (decide (x12 < 0))) := vt (hA398.2.2.2.2.1 _ rfl) rfl
                  have q4823 : f 39 = (Value.bool (decide (x12 < 0))) := vt (hA398.2.2.2.2.2.1 _ rfl) rfl
                  refine opg_taken (c := decide (x12 < 0)) rfl rfl rfl rfl q4823 hc16 (op_move (v := (Value.int .i64 ((i1 : Int)))) rfl ((hK411 9 (keep_of rfl)).trans e229) ?_)
                  refine ⟨_, _, rfl, PH.Le.refl _, ?_, ?_⟩
                  · exact rfl
                  · exact I427
                · intro vs412 f w423 S417 X399 le417 hA399 hK412 hI413
                  have I428 : Inv w423 S417 (Row (α := Int) 3 (Value.slice z4 m4 k4) (x3.1) :: X399) := hI413
                  have q4824 : f 34 = (Value.slice z4 m4 k4) := vt (hA399.1 _ rfl) rfl
                  have q4825 : f 35 = (Value.int .i64 ((i1 : Int))) := vt (hA399.2.1 _ rfl) rfl
                  have q4826 : f 36 = (elemPtr (Value.slice z4 m4 k4) ((i1 : Int)) (Enc.sz Int)) := vt (hA399.2.2.1 _ rfl) rfl
                  have q4827 : f 37 = (Value.int .i64 (x12)) := vt (hA399.2.2.2.1 _ rfl) rfl
                  have q4828 : f 38 = (Value.bool (decide (x12 < 0))) := vt (hA399.2.2.2.2.1 _ rfl) rfl
                  have q4829 : f 39 = (Value.bool (decide (x12 < 0))) := vt (hA399.2.2.2.2.2.1 _ rfl) rfl
                  have q4830 : f 40 = (Value.slice z4 m4 k4) := vt (hA399.2.2.2.2.2.2.1 _ rfl) rfl
                  have q4831 : f 41 = (Value.int .i64 ((i1 : Int))) := vt (hA399.2.2.2.2.2.2.2.1 _ rfl) rfl
                  refine opg_taken (c := decide (x12 < 0)) rfl rfl rfl rfl q4829 hc16 (op_indexAddr_src (v := (Value.slice z4 m4 k4)) (i := (i1 : Int)) (e := x12) rfl Try.underlying34 sh3 q4830 (Inv.rowSrc (I428.nth 0 rfl)) q4831 hx12 ?_)
                  refine ⟨_, _, rfl, PH.Le.refl _, ?_, ?_⟩
                  · exact rfl
                  · exact I428
                · intro vs413 f w424 S418 X400 le418 hA400 hK413 hI414
                  have I429 : Inv w424 S418 (Row (α := Int) 3 (Value.slice z4 m4 k4) (x3.1) :: X400) := hI414
                  have q4832 : f 34 = (Value.slice z4 m4 k4) := vt (hA400.1 _ rfl) rfl
                  have q4833 : f 35 = (Value.int .i64 ((i1 : Int))) := vt (hA400.2.1 _ rfl) rfl
                  have q4834 : f 36 = (elemPtr (Value.slice z4 m4 k4) ((i1 : Int)) (Enc.sz Int)) := vt (hA400.2.2.1 _ rfl) rfl
                  have q4835 : f 37 = (Value.int .i64 (x12)) := vt (hA400.2.2.2.1 _ rfl) rfl
                  have q4836 : f 38 = (Value.bool (decide (x12 < 0))) := vt (hA400.2.2.2.2.1 _ rfl) rfl
                  have q4837 : f 39 = (Value.bool (decide (x12 < 0))) := vt (hA400.2.2.2.2.2.1 _ rfl) rfl
                  have q4838 : f 40 = (Value.slice z4 m4 k4) := vt (hA400.2.2.2.2.2.2.1 _ rfl) rfl
                  have q4839 : f 41 = (Value.int .i64 ((i1 : Int))) := vt (hA400.2.2.2.2.2.2.2.1 _ rfl) rfl
                  have q4840 : f 42 = (elemPtr (Value.slice z4 m4 k4) ((i1 : Int)) (Enc.sz Int)) := vt (hA400.2.2.2.2.2.2.2.2.1 _ rfl) rfl
                  refine opg_taken (c := decide (x12 < 0)) rfl rfl rfl rfl q4837 hc16 (op_load_int (v := (elemPtr (Value.slice z4 m4 k4) ((i1 : Int)) (Enc.sz Int))) (e := x12) rfl sh3 q4840 ((I429.nth 0 rfl).rowElem hx12) ?_)
                  refine ⟨_, _, rfl, PH.Le.refl _, ?_, ?_⟩
                  · exact rfl
                  · exact I429
                · intro vs414 f w425 S419 X401 le419 hA401 hK414 hI415
                  have I430 : Inv w425 S419 (X401) := hI415
                  have q4841 : f 34 = (Value.slice z4 m4 k4) := vt (hA401.1 _ rfl) rfl
                  have q4842 : f 35 = (Value.int .i64 ((i1 : Int))) := vt (hA401.2.1 _ rfl) rfl
                  have q4843 : f 36 = (elemPtr (Value.slice z4 m4 k4) ((i1 : Int)) (Enc.sz Int)) := vt (hA401.2.2.1 _ rfl) rfl
                  have q4844 : f 37 = (Value.int .i64 (x12)) := vt (hA401.2.2.2.1 _ rfl) rfl
                  have q4845 : f 38 = (Value.bool (decide (x12 < 0))) := vt (hA401.2.2.2.2.1 _ rfl) rfl
                  have q4846 : f 39 = (Value.bool (decide (x12 < 0))) := vt (hA401.2.2.2.2.2.1 _ rfl) rfl
                  refine opg_taken (c := decide (x12 < 0)) rfl rfl rfl rfl q4846 hc16 (op_fieldAddr_t (v := (Value.pointer (some ⟨g1, 0, none⟩))) rfl fa24_1 ((hK414 3 (keep_of rfl)).trans e227) ((p1.mono ((le2.trans le377).trans le419)).at_ I430) ?_)
                  refine ⟨_, _, rfl, PH.Le.refl _, ?_, ?_⟩
                  · exact rfl
                  · exact I430
                · intro vs415 f w426 S420 X402 le420 hA402 hK415 hI416
                  have I431 : Inv w426 S420 (X402) := hI416
                  have q4847 : f 34 = (Value.slice z4 m4 k4) := vt (hA402.1 _ rfl) rfl
                  have q4848 : f 35 = (Value.int .i64 ((i1 : Int))) := vt (hA402.2.1 _ rfl) rfl
                  have q4849 : f 36 = (elemPtr (Value.slice z4 m4 k4) ((i1 : Int)) (Enc.sz Int)) := vt (hA402.2.2.1 _ rfl) rfl
                  have q4850 : f 37 = (Value.int .i64 (x12)) := vt (hA402.2.2.2.1 _ rfl) rfl
                  have q4851 : f 38 = (Value.bool (decide (x12 < 0))) := vt (hA402.2.2.2.2.1 _ rfl) rfl
                  have q4852 : f 39 = (Value.bool (decide (x12 < 0))) := vt (hA402.2.2.2.2.2.1 _ rfl) rfl
                  have q4853 : f 44 = (fieldPtr (Value.pointer (some ⟨g1, 0, none⟩)) 1) := vt (hA402.2.2.2.2.2.2.1 _ rfl) rfl
                  refine opg_taken (c := decide (x12 < 0)) rfl rfl rfl rfl q4852 hc16 (op_load (v := (fieldPtr (Value.pointer (some ⟨g1, 0, none⟩)) 1)) (e := a0.Doors) rfl sh22 q4853 (((p1.mono ((le2.trans le377).trans le420)).at_ I431).fld Panel.fld1) (fun u163 hu163 => ?_))
                  obtain ⟨z149, m149, k149, e235⟩ := rv_form hu163
                  subst e235
                  refine ⟨_, _, rfl, PH.Le.refl _, ?_, ?_⟩
                  · exact hu163
                  · exact I431
                · intro vs416 f w427 S421 X403 le421 hA403 hK416 hI417
                  have I432 : Inv w427 S421 (X403) := hI417
                  have q4854 : f 34 = (Value.slice z4 m4 k4) := vt (hA403.1 _ rfl) rfl
                  have q4855 : f 35 = (Value.int .i64 ((i1 : Int))) := vt (hA403.2.1 _ rfl) rfl
                  have q4856 : f 36 = (elemPtr (Value.slice z4 m4 k4) ((i1 : Int)) (Enc.sz Int)) := vt (hA403.2.2.1 _ rfl) rfl
                  have q4857 : f 37 = (Value.int .i64 (x12)) := vt (hA403.2.2.2.1 _ rfl) rfl
                  have q4858 : f 38 = (Value.bool (decide (x12 < 0))) := vt (hA403.2.2.2.2.1 _ rfl) rfl
                  have q4859 : f 39 = (Value.bool (decide (x12 < 0))) := vt (hA403.2.2.2.2.2.1 _ rfl) rfl
                  have q4860 : f 44 = (fieldPtr (Value.pointer (some ⟨g1, 0, none⟩)) 1) := vt (hA403.2.2.2.2.2.2.1 _ rfl) rfl
                  have q4861 : f 45 = vs416 11 := (hA403.2.2.2.2.2.2.2.1 _ rfl).1 _ rfl
                  have r138 : RV S421 (vs416 11) a0.Doors := (hA403.2.2.2.2.2.2.2.1 _ rfl).2
                  obtain ⟨u164, hu164⟩ : ∃ u, vs416 11 = u := ⟨_, rfl⟩
                  rw [hu164] at q4861 r138
                  obtain ⟨z150, m150, k150, e236⟩ := rv_form r138
                  subst e236
                  refine opg_taken (c := decide (x12 < 0)) rfl rfl rfl rfl q4859 hc16 (op_len_rv rfl Try.underlying22 q4861 r138 ?_)
                  refine ⟨_, _, rfl, PH.Le.refl _, ?_, ?_⟩
                  · exact rfl
                  · exact I432
                · intro vs417 f w428 S422 X404 le422 hA404 hK417 hI418
                  have I433 : Inv w428 S422 (X404) := hI418
                  have q4862 : f 34 = (Value.slice z4 m4 k4) := vt (hA404.1 _ rfl) rfl
                  have q4863 : f 35 = (Value.int .i64 ((i1 : Int))) := vt (hA404.2.1 _ rfl) rfl
                  have q4864 : f 36 = (elemPtr (Value.slice z4 m4 k4) ((i1 : Int)) (Enc.sz Int)) := vt (hA404.2.2.1 _ rfl) rfl
                  have q4865 : f 37 = (Value.int .i64 (x12)) := vt (hA404.2.2.2.1 _ rfl) rfl
                  have q4866 : f 38 = (Value.bool (decide (x12 < 0))) := vt (hA404.2.2.2.2.1 _ rfl) rfl
                  have q4867 : f 39 = (Value.bool (decide (x12 < 0))) := vt (hA404.2.2.2.2.2.1 _ rfl) rfl
                  have q4868 : f 44 = (fieldPtr (Value.pointer (some ⟨g1, 0, none⟩)) 1) := vt (hA404.2.2.2.2.2.2.1 _ rfl) rfl
                  have q4869 : f 45 = vs417 11 := (hA404.2.2.2.2.2.2.2.1 _ rfl).1 _ rfl
                  have r139 : RV S422 (vs417 11) a0.Doors := (hA404.2.2.2.2.2.2.2.1 _ rfl).2
                  obtain ⟨u165, hu165⟩ : ∃ u, vs417 11 = u := ⟨_, rfl⟩
                  rw [hu165] at q4869 r139
                  obtain ⟨z151, m151, k151, e237⟩ := rv_form r139
                  subst e237
                  have q4870 : f 46 = (Value.int .i64 ((a0.Doors.length : Int))) := vt (hA404.2.2.2.2.2.2.2.2.1 _ rfl) rfl
                  refine opg_taken (c := decide (x12 < 0)) rfl rfl rfl rfl q4867 hc16 (op_toU (a := (a0.Doors.length : Int)) rfl q4870 Try.underlying3 Try.underlying63 ?_)
                  refine ⟨_, _, rfl, PH.Le.refl _, ?_, ?_⟩
                  · exact rfl
                  · exact I433
                · intro vs418 f w429 S423 X405 le423 hA405 hK418 hI419
                  have I434 : Inv w429 S423 (X405) := hI419
                  have q4871 : f 34 = (Value.slice z4 m4 k4) := vt (hA405.1 _ rfl) rfl
                  have q4872 : f 35 = (Value.int .i64 ((i1 : Int))) := vt (hA405.2.1 _ rfl) rfl
                  have q4873 : f 36 = (elemPtr (Value.slice z4 m4 k4) ((i1 : Int)) (Enc.sz Int)) := vt (hA405.2.2.1 _ rfl) rfl
                  have q4874 : f 37 = (Value.int .i64 (x12)) := vt (hA405.2.2.2.1 _ rfl) rfl
                  have q4875 : f 38 = (Value.bool (decide (x12 < 0))) := vt (hA405.2.2.2.2.1 _ rfl) rfl
                  have q4876 : f 39 = (Value.bool (decide (x12 < 0))) := vt (hA405.2.2.2.2.2.1 _ rfl) rfl
                  have q4877 : f 44 = (fieldPtr (Value.pointer (some ⟨g1, 0, none⟩)) 1) := vt (hA405.2.2.2.2.2.2.1 _ rfl) rfl
                  have q4878 : f 45 = vs418 11 := (hA405.2.2.2.2.2.2.2.1 _ rfl).1 _ rfl
                  have r140 : RV S423 (vs418 11) a0.Doors := (hA405.2.2.2.2.2.2.2.1 _ rfl).2
                  obtain ⟨u166, hu166⟩ : ∃ u, vs418 11 = u := ⟨_, rfl⟩
                  rw [hu166] at q4878 r140
                  obtain ⟨z152, m152, k152, e238⟩ := rv_form r140
                  subst e238
                  have q4879 : f 46 = (Value.int .i64 ((a0.Doors.length : Int))) := vt (hA405.2.2.2.2.2.2.2.2.1 _ rfl) rfl
                  have q4880 : f 47 = (Value.int .u64 (wu64 (a0.Doors.length : Int))) := vt (hA405.2.2.2.2.2.2.2.2.2.1 _ rfl) rfl
                  refine opg_taken (c := decide (x12 < 0)) rfl rfl rfl rfl q4876 hc16 (op_shl (a := 1) (b := wu64 (a0.Doors.length : Int)) rfl rfl q4880 (wu64_nonneg _) ?_)
                  refine ⟨_, _, rfl, PH.Le.refl _, ?_, ?_⟩
                  · exact rfl
                  · exact I434
                · intro vs419 f w430 S424 X406 le424 hA406 hK419 hI420
                  have I435 : Inv w430 S424 (X406) := hI420
                  have q4881 : f 34 = (Value.slice z4 m4 k4) := vt (hA406.1 _ rfl) rfl
                  have q4882 : f 35 = (Value.int .i64 ((i1 : Int))) := vt (hA406.2.1 _ rfl) rfl
                  have q4883 : f 36 = (elemPtr (Value.slice z4 m4 k4) ((i1 : Int)) (Enc.sz Int)) := vt (hA406.2.2.1 _ rfl) rfl
                  have q4884 : f 37 = (Value.int .i64 (x12)) := vt (hA406.2.2.2.1 _ rfl) rfl
                  have q4885 : f 38 = (Value.bool (decide (x12 < 0))) := vt (hA406.2.2.2.2.1 _ rfl) rfl
                  have q4886 : f 39 = (Value.bool (decide (x12 < 0))) := vt (hA406.2.2.2.2.2.1 _ rfl) rfl
                  have q4887 : f 40 = (Value.slice z4 m4 k4) := vt (hA406.2.2.2.2.2.2.1 _ rfl) rfl
                  have q4888 : f 41 = (Value.int .i64 ((i1 : Int))) := vt (hA406.2.2.2.2.2.2.2.1 _ rfl) rfl
                  have q4889 : f 42 = (elemPtr (Value.slice z4 m4 k4) ((i1 : Int)) (Enc.sz Int)) := vt (hA406.2.2.2.2.2.2.2.2.1 _ rfl) rfl
                  have q4890 : f 43 = (Value.int .i64 (x12)) := vt (hA406.2.2.2.2.2.2.2.2.2.1 _ rfl) rfl
                  have q4891 : f 44 = (fieldPtr (Value.pointer (some ⟨g1, 0, none⟩)) 1) := vt (hA406.2.2.2.2.2.2.2.2.2.2.1 _ rfl) rfl
                  have q4892 : f 45 = vs419 11 := (hA406.2.2.2.2.2.2.2.2.2.2.2.1 _ rfl).1 _ rfl
                  have r141 : RV S424 (vs419 11) a0.Doors := (hA406.2.2.2.2.2.2.2.2.2.2.2.1 _ rfl).2
                  obtain ⟨u167, hu167⟩ : ∃ u, vs419 11 = u := ⟨_, rfl⟩
                  rw [hu167] at q4892 r141
                  obtain ⟨z153, m153, k153, e239⟩ := rv_form r141
                  subst e239
                  have q4893 : f 46 = (Value.int .i64 ((a0.Doors.length : Int))) := vt (hA406.2.2.2.2.2.2.2.2.2.2.2.2.1 _ rfl) rfl
                  have q4894 : f 47 = (Value.int .u64 (wu64 (a0.Doors.length : Int))) := vt (hA406.2.2.2.2.2.2.2.2.2.2.2.2.2.1 _ rfl) rfl
                  have q4895 : f 48 = (Value.int .i64 (shlI 1 (wu64 (a0.Doors.length : Int)))) := vt (hA406.2.2.2.2.2.2.2.2.2.2.2.2.2.2.1 _ rfl) rfl
                  refine opg_taken (c := decide (x12 < 0)) rfl rfl rfl rfl q4886 hc16 (op_geq (a := x12) (b := shlI 1 (wu64 (a0.Doors.length : Int))) rfl q4890 q4895 ?_)
                  refine ⟨_, _, rfl, PH.Le.refl _, ?_, ?_⟩
                  · exact rfl
                  · exact I435
                · intro vs420 f w431 S425 X407 le425 hA407 hK420 hI421
                  have I436 : Inv w431 S425 (X407) := hI421
                  have q4896 : f 34 = (Value.slice z4 m4 k4) := vt (hA407.1 _ rfl) rfl
                  have q4897 : f 35 = (Value.int .i64 ((i1 : Int))) := vt (hA407.2.1 _ rfl) rfl
                  have q4898 : f 36 = (elemPtr (Value.slice z4 m4 k4) ((i1 : Int)) (Enc.sz Int)) := vt (hA407.2.2.1 _ rfl) rfl
                  have q4899 : f 37 = (Value.int .i64 (x12)) := vt (hA407.2.2.2.1 _ rfl) rfl
                  have q4900 : f 38 = (Value.bool (decide (x12 < 0))) := vt (hA407.2.2.2.2.1 _ rfl) rfl
                  have q4901 : f 39 = (Value.bool (decide (x12 < 0))) := vt (hA407.2.2.2.2.2.1 _ rfl) rfl
                  have q4902 : f 40 = (Value.slice z4 m4 k4) := vt (hA407.2.2.2.2.2.2.1 _ rfl) rfl
                  have q4903 : f 41 = (Value.int .i64 ((i1 : Int))) := vt (hA407.2.2.2.2.2.2.2.1 _ rfl) rfl
                  have q4904 : f 42 = (elemPtr (Value.slice z4 m4 k4) ((i1 : Int)) (Enc.sz Int)) := vt (hA407.2.2.2.2.2.2.2.2.1 _ rfl) rfl
                  have q4905 : f 43 = (Value.int .i64 (x12)) := vt (hA407.2.2.2.2.2.2.2.2.2.1 _ rfl) rfl
                  have q4906 : f 44 = (fieldPtr (Value.pointer (some ⟨g1, 0, none⟩)) 1) := vt (hA407.2.2.2.2.2.2.2.2.2.2.1 _ rfl) rfl
                  have q4907 : f 45 = vs420 11 := (hA407.2.2.2.2.2.2.2.2.2.2.2.1 _ rfl).1 _ rfl
                  have r142 : RV S425 (vs420 11) a0.Doors := (hA407.2.2.2.2.2.2.2.2.2.2.2.1 _ rfl).2
                  obtain ⟨u168, hu168⟩ : ∃ u, vs420 11 = u := ⟨_, rfl⟩
                  rw [hu168] at q4907 r142
                  obtain ⟨z154, m154, k154, e240⟩ := rv_form r142
                  subst e240
                  have q4908 : f 46 = (Value.int .i64 ((a0.Doors.length : Int))) := vt (hA407.2.2.2.2.2.2.2.2.2.2.2.2.1 _ rfl) rfl
                  have q4909 : f 47 = (Value.int .u64 (wu64 (a0.Doors.length : Int))) := vt (hA407.2.2.2.2.2.2.2.2.2.2.2.2.2.1 _ rfl) rfl
                  have q4910 : f 48 = (Value.int .i64 (shlI 1 (wu64 (a0.Doors.length : Int)))) := vt (hA407.2.2.2.2.2.2.2.2.2.2.2.2.2.2.1 _ rfl) rfl
                  have q4911 : f 49 = (Value.bool (decide ((shlI 1 (wu64 (a0.Doors.length : Int))) ≤ x12))) := vt (hA407.2.2.2.2.2.2.2.2.2.2.2.2.2.2.2.1 _ rfl) rfl
                  refine opg_plain rfl rfl (op_pick_f (c := decide (x12 < 0)) (b := (Value.bool (decide ((shlI 1 (wu64 (a0.Doors.length : Int))) ≤ x12)))) rfl q4901 hc16 q4911 ?_)
                  refine ⟨_, _, rfl, PH.Le.refl _, ?_, ?_⟩
                  · exact rfl
                  · exact I436
                · intro vs421 f w432 S426 X408 le426 hA408 hK421 hI422
                  have I437 : Inv w432 S426 (X408) := hI422
                  have q4912 : f 34 = (Value.slice z4 m4 k4) := vt (hA408.1 _ rfl) rfl
                  have q4913 : f 35 = (Value.int .i64 ((i1 : Int))) := vt (hA408.2.1 _ rfl) rfl
                  have q4914 : f 36 = (elemPtr (Value.slice z4 m4 k4) ((i1 : Int)) (Enc.sz Int)) := vt (hA408.2.2.1 _ rfl) rfl
                  have q4915 : f 37 = (Value.int .i64 (x12)) := vt (hA408.2.2.2.1 _ rfl) rfl
                  have q4916 : f 38 = (Value.bool (decide (x12 < 0))) := vt (hA408.2.2.2.2.1 _ rfl) rfl
                  have q4917 : f 39 = (Value.bool (decide (x12 < 0))) := vt (hA408.2.2.2.2.2.1 _ rfl) rfl
                  have q4918 : f 40 = (Value.slice z4 m4 k4) := vt (hA408.2.2.2.2.2.2.1 _ rfl) rfl
                  have q4919 : f 41 = (Value.int .i64 ((i1 : Int))) := vt (hA408.2.2.2.2.2.2.2.1 _ rfl) rfl
                  have q4920 : f 42 = (elemPtr (Value.slice z4 m4 k4) ((i1 : Int)) (Enc.sz Int)) := vt (hA408.2.2.2.2.2.2.2.2.1 _ rfl) rfl
                  have q4921 : f 43 = (Value.int .i64 (x12)) := vt (hA408.2.2.2.2.2.2.2.2.2.1 _ rfl) rfl
                  have q4922 : f 44 = (fieldPtr (Value.pointer (some ⟨g1, 0, none⟩)) 1) := vt (hA408.2.2.2.2.2.2.2.2.2.2.1 _ rfl) rfl
                  have q4923 : f 45 = vs421 11 := (hA408.2.2.2.2.2.2.2.2.2.2.2.1 _ rfl).1 _ rfl
                  have r143 : RV S426 (vs421 11) a0.Doors := (hA408.2.2.2.2.2.2.2.2.2.2.2.1 _ rfl).2
                  obtain ⟨u169, hu169⟩ : ∃ u, vs421 11 = u := ⟨_, rfl⟩
                  rw [hu169] at q4923 r143
                  obtain ⟨z155, m155, k155, e241⟩ := rv_form r143
                  subst e241
                  have q4924 : f 46 = (Value.int .i64 ((a0.Doors.length : Int))) := vt (hA408.2.2.2.2.2.2.2.2.2.2.2.2.1 _ rfl) rfl
                  have q4925 : f 47 = (Value.int .u64 (wu64 (a0.Doors.length : Int))) := vt (hA408.2.2.2.2.2.2.2.2.2.2.2.2.2.1 _ rfl) rfl
                  have q4926 : f 48 = (Value.int .i64 (shlI 1 (wu64 (a0.Doors.length : Int)))) := vt (hA408.2.2.2.2.2.2.2.2.2.2.2.2.2.2.1 _ rfl) rfl
                  have q4927 : f 49 = (Value.bool (decide ((shlI 1 (wu64 (a0.Doors.length : Int))) ≤ x12))) := vt (hA408.2.2.2.2.2.2.2.2.2.2.2.2.2.2.2.1 _ rfl) rfl
                  have q4928 : f 50 = (Value.bool (decide ((shlI 1 (wu64 (a0.Doors.length : Int))) ≤ x12))) := vt (hA408.2.2.2.2.2.2.2.2.2.2.2.2.2.2.2.2.1 _ rfl) rfl
                  refine opg_plain rfl rfl (op_move (v := (Value.bool (decide ((shlI 1 (wu64 (a0.Doors.length : Int))) ≤ x12)))) rfl q4928 ?_)
                  refine ⟨_, _, rfl, PH.Le.refl _, ?_, ?_⟩
                  · exact rfl
                  · exact I437
                · intro vs422 f w433 S427 X409 le427 hA409 hK422 hI423
                  have I438 : Inv w433 S427 (X409) := hI423
                  have q4929 : f 34 = (Value.slice z4 m4 k4) := vt (hA409.1 _ rfl) rfl
                  have q4930 : f 35 = (Value.int .i64 ((i1 : Int))) := vt (hA409.2.1 _ rfl) rfl
                  have q4931 : f 36 = (elemPtr (Value.slice z4 m4 k4) ((i1 : Int)) (Enc.sz Int)) := vt (hA409.2.2.1 _ rfl) rfl
                  have q4932 : f 37 = (Value.int .i64 (x12)) := vt (hA409.2.2.2.1 _ rfl) rfl
                  have q4933 : f 38 = (Value.bool (decide (x12 < 0))) := vt (hA409.2.2.2.2.1 _ rfl) rfl
                  have q4934 : f 39 = (Value.bool (decide (x12 < 0))) := vt (hA409.2.2.2.2.2.1 _ rfl) rfl
                  have q4935 : f 40 = (Value.slice z4 m4 k4) := vt (hA409.2.2.2.2.2.2.1 _ rfl) rfl
                  have q4936 : f 41 = (Value.int .i64 ((i1 : Int))) := vt (hA409.2.2.2.2.2.2.2.1 _ rfl) rfl
                  have q4937 : f 42 = (elemPtr (Value.slice z4 m4 k4) ((i1 : Int)) (Enc.sz Int)) := vt (hA409.2.2.2.2.2.2.2.2.1 _ rfl) rfl
                  have q4938 : f 43 = (Value.int .i64 (x12)) := vt (hA409.2.2.2.2.2.2.2.2.2.1 _ rfl) rfl
                  have q4939 : f 44 = (fieldPtr (Value.pointer (some ⟨g1, 0, none⟩)) 1) := vt (hA409.2.2.2.2.2.2.2.2.2.2.1 _ rfl) rfl
                  have q4940 : f 45 = vs422 11 := (hA409.2.2.2.2.2.2.2.2.2.2.2.1 _ rfl).1 _ rfl
                  have r144 : RV S427 (vs422 11) a0.Doors := (hA409.2.2.2.2.2.2.2.2.2.2.2.1 _ rfl).2
                  obtain ⟨u170, hu170⟩ : ∃ u, vs422 11 = u := ⟨_, rfl⟩
                  rw [hu170] at q4940 r144
                  obtain ⟨z156, m156, k156, e242⟩ := rv_form r144
                  subst e242
                  have q4941 : f 46 = (Value.int .i64 ((a0.Doors.length : Int))) := vt (hA409.2.2.2.2.2.2.2.2.2.2.2.2.1 _ rfl) rfl
                  have q4942 : f 47 = (Value.int .u64 (wu64 (a0.Doors.length : Int))) := vt (hA409.2.2.2.2.2.2.2.2.2.2.2.2.2.1 _ rfl) rfl
                  have q4943 : f 48 = (Value.int .i64 (shlI 1 (wu64 (a0.Doors.length : Int)))) := vt (hA409.2.2.2.2.2.2.2.2.2.2.2.2.2.2.1 _ rfl) rfl
                  have q4944 : f 49 = (Value.bool (decide ((shlI 1 (wu64 (a0.Doors.length : Int))) ≤ x12))) := vt (hA409.2.2.2.2.2.2.2.2.2.2.2.2.2.2.2.1 _ rfl) rfl
                  have q4945 : f 50 = (Value.bool (decide ((shlI 1 (wu64 (a0.Doors.length : Int))) ≤ x12))) := vt (hA409.2.2.2.2.2.2.2.2.2.2.2.2.2.2.2.2.1 _ rfl) rfl
                  have q4946 : f 51 = (Value.bool (decide ((shlI 1 (wu64 (a0.Doors.length : Int))) ≤ x12))) := vt (hA409.2.2.2.2.2.2.2.2.2.2.2.2.2.2.2.2.2.1 _ rfl) rfl
                  exact opg_skip (c := decide ((shlI 1 (wu64 (a0.Doors.length : Int))) ≤ x12)) rfl rfl rfl rfl q4946 hc17 rfl ⟨_, _, rfl, PH.Le.refl _, rfl, I438⟩
                · intro vs423 f w434 S428 X410 le428 hA410 hK423 hI424
                  have I439 : Inv w434 S428 (X410) := hI424
                  have q4947 : f 34 = (Value.slice z4 m4 k4) := vt (hA410.1 _ rfl) rfl
                  have q4948 : f 35 = (Value.int .i64 ((i1 : Int))) := vt (hA410.2.1 _ rfl) rfl
                  have q4949 : f 36 = (elemPtr (Value.slice z4 m4 k4) ((i1 : Int)) (Enc.sz Int)) := vt (hA410.2.2.1 _ rfl) rfl
                  have q4950 : f 37 = (Value.int .i64 (x12)) := vt (hA410.2.2.2.1 _ rfl) rfl
                  have q4951 : f 38 = (Value.bool (decide (x12 < 0))) := vt (hA410.2.2.2.2.1 _ rfl) rfl
                  have q4952 : f 39 = (Value.bool (decide (x12 < 0))) := vt (hA410.2.2.2.2.2.1 _ rfl) rfl
                  have q4953 : f 40 = (Value.slice z4 m4 k4) := vt (hA410.2.2.2.2.2.2.1 _ rfl) rfl
                  have q4954 : f 41 = (Value.int .i64 ((i1 : Int))) := vt (hA410.2.2.2.2.2.2.2.1 _ rfl) rfl
                  have q4955 : f 42 = (elemPtr (Value.slice z4 m4 k4) ((i1 : Int)) (Enc.sz Int)) := vt (hA410.2.2.2.2.2.2.2.2.1 _ rfl) rfl
                  have q4956 : f 43 = (Value.int .i64 (x12)) := vt (hA410.2.2.2.2.2.2.2.2.2.1 _ rfl) rfl
                  have q4957 : f 44 = (fieldPtr (Value.pointer (some ⟨g1, 0, none⟩)) 1) := vt (hA410.2.2.2.2.2.2.2.2.2.2.1 _ rfl) rfl
                  have q4958 : f 45 = vs423 11 := (hA410.2.2.2.2.2.2.2.2.2.2.2.1 _ rfl).1 _ rfl
                  have r145 : RV S428 (vs423 11) a0.Doors := (hA410.2.2.2.2.2.2.2.2.2.2.2.1 _ rfl).2
                  obtain ⟨u171, hu171⟩ : ∃ u, vs423 11 = u := ⟨_, rfl⟩
                  rw [hu171] at q4958 r145
                  obtain ⟨z157, m157, k157, e243⟩ := rv_form r145
                  subst e243
                  have q4959 : f 46 = (Value.int .i64 ((a0.Doors.length : Int))) := vt (hA410.2.2.2.2.2.2.2.2.2.2.2.2.1 _ rfl) rfl
                  have q4960 : f 47 = (Value.int .u64 (wu64 (a0.Doors.length : Int))) := vt (hA410.2.2.2.2.2.2.2.2.2.2.2.2.2.1 _ rfl) rfl
                  have q4961 : f 48 = (Value.int .i64 (shlI 1 (wu64 (a0.Doors.length : Int)))) := vt (hA410.2.2.2.2.2.2.2.2.2.2.2.2.2.2.1 _ rfl) rfl
                  have q4962 : f 49 = (Value.bool (decide ((shlI 1 (wu64 (a0.Doors.length : Int))) ≤ x12))) := vt (hA410.2.2.2.2.2.2.2.2.2.2.2.2.2.2.2.1 _ rfl) rfl
                  have q4963 : f 50 = (Value.bool (decide ((shlI 1 (wu64 (a0.Doors.length : Int))) ≤ x12))) := vt (hA410.2.2.2.2.2.2.2.2.2.2.2.2.2.2.2.2.1 _ rfl) rfl
                  have q4964 : f 51 = (Value.bool (decide ((shlI 1 (wu64 (a0.Doors.length : Int))) ≤ x12))) := vt (hA410.2.2.2.2.2.2.2.2.2.2.2.2.2.2.2.2.2.1 _ rfl) rfl
                  exact opg_skip (c := decide ((shlI 1 (wu64 (a0.Doors.length : Int))) ≤ x12)) rfl rfl rfl rfl q4964 hc17 rfl ⟨_, _, rfl, PH.Le.refl _, rfl, I439⟩
                · intro vs424 f w435 S429 X411 le429 hA411 hK424 hI425
                  have I440 : Inv w435 S429 (X411) := hI425
                  have q4965 : f 34 = (Value.slice z4 m4 k4) := vt (hA411.1 _ rfl) rfl
                  have q4966 : f 35 = (Value.int .i64 ((i1 : Int))) := vt (hA411.2.1 _ rfl) rfl
                  have q4967 : f 36 = (elemPtr (Value.slice z4 m4 k4) ((i1 : Int)) (Enc.sz Int)) := vt (hA411.2.2.1 _ rfl) rfl
                  have q4968 : f 37 = (Value.int .i64 (x12)) := vt (hA411.2.2.2.1 _ rfl) rfl
                  have q4969 : f 38 = (Value.bool (decide (x12 < 0))) := vt (hA411.2.2.2.2.1 _ rfl) rfl
                  have q4970 : f 39 = (Value.bool (decide (x12 < 0))) := vt (hA411.2.2.2.2.2.1 _ rfl) rfl
                  have q4971 : f 40 = (Value.slice z4 m4 k4) := vt (hA411.2.2.2.2.2.2.1 _ rfl) rfl
                  have q4972 : f 41 = (Value.int .i64 ((i1 : Int))) := vt (hA411.2.2.2.2.2.2.2.1 _ rfl) rfl
                  have q4973 : f 42 = (elemPtr (Value.slice z4 m4 k4) ((i1 : Int)) (Enc.sz Int)) := vt (hA411.2.2.2.2.2.2.2.2.1 _ rfl) rfl
                  have q4974 : f 43 = (Value.int .i64 (x12)) := vt (hA411.2.2.2.2.2.2.2.2.2.1 _ rfl) rfl
                  have q4975 : f 44 = (fieldPtr (Value.pointer (some ⟨g1, 0, none⟩)) 1) := vt (hA411.2.2.2.2.2.2.2.2.2.2.1 _ rfl) rfl
                  have q4976 : f 45 = vs424 11 := (hA411.2.2.2.2.2.2.2.2.2.2.2.1 _ rfl).1 _ rfl
                  have r146 : RV S429 (vs424 11) a0.Doors := (hA411.2.2.2.2.2.2.2.2.2.2.2.1 _ rfl).2
                  obtain ⟨u172, hu172⟩ : ∃ u, vs424 11 = u := ⟨_, rfl⟩
                  rw [hu172] at q4976 r146
                  obtain ⟨z158, m158, k158, e244⟩ := rv_form r146
                  subst e244
                  have q4977 : f 46 = (Value.int .i64 ((a0.Doors.length : Int))) := vt (hA411.2.2.2.2.2.2.2.2.2.2.2.2.1 _ rfl) rfl
                  have q4978 : f 47 = (Value.int .u64 (wu64 (a0.Doors.length : Int))) := vt (hA411.2.2.2.2.2.2.2.2.2.2.2.2.2.1 _ rfl) rfl
                  have q4979 : f 48 = (Value.int .i64 (shlI 1 (wu64 (a0.Doors.length : Int)))) := vt (hA411.2.2.2.2.2.2.2.2.2.2.2.2.2.2.1 _ rfl) rfl
                  have q4980 : f 49 = (Value.bool (decide ((shlI 1 (wu64 (a0.Doors.length : Int))) ≤ x12))) := vt (hA411.2.2.2.2.2.2.2.2.2.2.2.2.2.2.2.1 _ rfl) rfl
                  have q4981 : f 50 = (Value.bool (decide ((shlI 1 (wu64 (a0.Doors.length : Int))) ≤ x12))) := vt (hA411.2.2.2.2.2.2.2.2.2.2.2.2.2.2.2.2.1 _ rfl) rfl
                  have q4982 : f 51 = (Value.bool (decide ((shlI 1 (wu64 (a0.Doors.length : Int))) ≤ x12))) := vt (hA411.2.2.2.2.2.2.2.2.2.2.2.2.2.2.2.2.2.1 _ rfl) rfl
                  have q4983 : f 52 = undef := vt (hA411.2.2.2.2.2.2.2.2.2.2.2.2.2.2.2.2.2.2.1 _ rfl) rfl
                  have q4984 : f 53 = undef := vt (hA411.2.2.2.2.2.2.2.2.2.2.2.2.2.2.2.2.2.2.2.1 _ rfl) rfl
                  exact opg_skip (c := decide ((shlI 1 (wu64 (a0.Doors.length : Int))) ≤ x12)) rfl rfl rfl rfl q4982 hc17 rfl ⟨_, _, rfl, PH.Le.refl _, rfl, I440⟩
                · intro vs425 f w436 S430 X412 le430 hA412 hK425 hI426
                  have I441 : Inv w436 S430 (X412) := hI426
                  have q4985 : f 34 = (Value.slice z4 m4 k4) := vt (hA412.1 _ rfl) rfl
                  have q4986 : f 35 = (Value.int .i64 ((i1 : Int))) := vt (hA412.2.1 _ rfl) rfl
                  have q4987 : f 36 = (elemPtr (Value.slice z4 m4 k4) ((i1 : Int)) (Enc.sz Int)) := vt (hA412.2.2.1 _ rfl) rfl
                  have q4988 : f 37 = (Value.int .i64 (x12)) := vt (hA412.2.2.2.1 _ rfl) rfl
                  have q4989 : f 38 = (Value.bool (decide (x12 < 0))) := vt (hA412.2.2.2.2.1 _ rfl) rfl
                  have q4990 : f 39 = (Value.bool (decide (x12 < 0))) := vt (hA412.2.2.2.2.2.1 _ rfl) rfl
                  have q4991 : f 40 = (Value.slice z4 m4 k4) := vt (hA412.2.2.2.2.2.2.1 _ rfl) rfl
                  have q4992 : f 41 = (Value.int .i64 ((i1 : Int))) := vt (hA412.2.2.2.2.2.2.2.1 _ rfl) rfl
                  have q4993 : f 42 = (elemPtr (Value.slice z4 m4 k4) ((i1 : Int)) (Enc.sz Int)) := vt (hA412.2.2.2.2.2.2.2.2.1 _ rfl) rfl
                  have q4994 : f 43 = (Value.int .i64 (x12)) := vt (hA412.2.2.2.2.2.2.2.2.2.1 _ rfl) rfl
                  have q4995 : f 44 = (fieldPtr (Value.pointer (some ⟨g1, 0, none⟩)) 1) := vt (hA412.2.2.2.2.2.2.2.2.2.2.1 _ rfl) rfl
                  have q4996 : f 45 = vs425 11 := (hA412.2.2.2.2.2.2.2.2.2.2.2.1 _ rfl).1 _ rfl
                  have r147 : RV S430 (vs425 11) a0.Doors := (hA412.2.2.2.2.2.2.2.2.2.2.2.1 _ rfl).2
                  obtain ⟨u173, hu173⟩ : ∃ u, vs425 11 = u := ⟨_, rfl⟩
                  rw [hu173] at q4996 r147
                  obtain ⟨z159, m159, k159, e245⟩ := rv_form r147
                  subst e245
                  have q4997 : f 46 = (Value.int .i64 ((a0.Doors.length : Int))) := vt (hA412.2.2.2.2.2.2.2.2.2.2.2.2.1 _ rfl) rfl
                  have q4998 : f 47 = (Value.int .u64 (wu64 (a0.Doors.length : Int))) := vt (hA412.2.2.2.2.2.2.2.2.2.2.2.2.2.1 _ rfl) rfl
                  have q4999 : f 48 = (Value.int .i64 (shlI 1 (wu64 (a0.Doors.length : Int)))) := vt (hA412.2.2.2.2.2.2.2.2.2.2.2.2.2.2.1 _ rfl) rfl
                  have q5000 : f 49 = (Value.bool (decide ((shlI 1 (wu64 (a0.Doors.length : Int))) ≤ x12))) := vt (hA412.2.2.2.2.2.2.2.2.2.2.2.2.2.2.2.1 _ rfl) rfl
                  have q5001 : f 50 = (Value.bool (decide ((shlI 1 (wu64 (a0.Doors.length : Int))) ≤ x12))) := vt (hA412.2.2.2.2.2.2.2.2.2.2.2.2.2.2.2.2.1 _ rfl) rfl
                  have q5002 : f 51 = (Value.bool (decide ((shlI 1 (wu64 (a0.Doors.length : Int))) ≤ x12))) := vt (hA412.2.2.2.2.2.2.2.2.2.2.2.2.2.2.2.2.2.1 _ rfl) rfl
                  have q5003 : f 52 = undef := vt (hA412.2.2.2.2.2.2.2.2.2.2.2.2.2.2.2.2.2.2.1 _ rfl) rfl
                  have q5004 : f 53 = undef := vt (hA412.2.2.2.2.2.2.2.2.2.2.2.2.2.2.2.2.2.2.2.1 _ rfl) rfl
                  have q5005 : f 54 = undef := vt (hA412.2.2.2.2.2.2.2.2.2.2.2.2.2.2.2.2.2.2.2.2.1 _ rfl) rfl
                  exact opg_skip (c := decide ((shlI 1 (wu64 (a0.Doors.length : Int))) ≤ x12)) rfl rfl rfl rfl q5002 hc17 rfl ⟨_, _, rfl, PH.Le.refl _, rfl, I441⟩
                · intro vs426 f w437 S431 X413 le431 hA413 hK426 hI427
                  have I442 : Inv w437 S431 (X413) := hI427
                  have q5006 : f 34 = (Value.slice z4 m4 k4) := vt (hA413.1 _ rfl) rfl
                  have q5007 : f 35 = (Value.int .i64 ((i1 : Int))) := vt (hA413.2.1 _ rfl) rfl
                  have q5008 : f 36 = (elemPtr (Value.slice z4 m4 k4) ((i1 : Int)) (Enc.sz Int)) := vt (hA413.2.2.1 _ rfl) rfl
                  have q5009 : f 37 = (Value.int .i64 (x12)) := vt (hA413.2.2.2.1 _ rfl) rfl
                  have q5010 : f 38 = (Value.bool (decide (x12 < 0))) := vt (hA413.2.2.2.2.1 _ rfl) rfl
                  have q5011 : f 39 = (Value.bool (decide (x12 < 0))) := vt (hA413.2.2.2.2.2.1 _ rfl) rfl
                  have q5012 : f 40 = (Value.slice z4 m4 k4) := vt (hA413.2.2.2.2.2.2.1 _ rfl) rfl
                  have q5013 : f 41 = (Value.int .i64 ((i1 : Int))) := vt (hA413.2.2.2.2.2.2.2.1 _ rfl) rfl
                  have q5014 : f 42 = (elemPtr (Value.slice z4 m4 k4) ((i1 : Int)) (Enc.sz Int)) := vt (hA413.2.2.2.2.2.2.2.2.1 _ rfl) rfl
                  have q5015 : f 43 = (Value.int .i64 (x12)) := vt (hA413.2.2.2.2.2.2.2.2.2.1 _ rfl) rfl
                  have q5016 : f 44 = (fieldPtr (Value.pointer (some ⟨g1, 0, none⟩)) 1) := vt (hA413.2.2.2.2.2.2.2.2.2.2.1 _ rfl) rfl
                  have q5017 : f 45 = vs426 11 := (hA413.2.2.2.2.2.2.2.2.2.2.2.1 _ rfl).1 _ rfl
                  have r148 : RV S431 (vs426 11) a0.Doors := (hA413.2.2.2.2.2.2.2.2.2.2.2.1 _ rfl).2
                  obtain ⟨u174, hu174⟩ : ∃ u, vs426 11 = u := ⟨_, rfl⟩
                  rw [hu174] at q5017 r148
                  obtain ⟨z160, m160, k160, e246⟩ := rv_form r148
                  subst e246
                  have q5018 : f 46 = (Value.int .i64 ((a0.Doors.length : Int))) := vt (hA413.2.2.2.2.2.2.2.2.2.2.2.2.1 _ rfl) rfl
                  have q5019 : f 47 = (Value.int .u64 (wu64 (a0.Doors.length : Int))) := vt (hA413.2.2.2.2.2.2.2.2.2.2.2.2.2.1 _ rfl) rfl
                  have q5020 : f 48 = (Value.int .i64 (shlI 1 (wu64 (a0.Doors.length : Int)))) := vt (hA413.2.2.2.2.2.2.2.2.2.2.2.2.2.2.1 _ rfl) rfl
                  have q5021 : f 49 = (Value.bool (decide ((shlI 1 (wu64 (a0.Doors.length : Int))) ≤ x12))) := vt (hA413.2.2.2.2.2.2.2.2.2.2.2.2.2.2.2.1 _ rfl) rfl
                  have q5022 : f 50 = (Value.bool (decide ((shlI 1 (wu64 (a0.Doors.length : Int))) ≤ x12))) := vt (hA413.2.2.2.2.2.2.2.2.2.2.2.2.2.2.2.2.1 _ rfl) rfl
                  have q5023 : f 51 = (Value.bool (decide ((shlI 1 (wu64 (a0.Doors.length : Int))) ≤ x12))) := vt (hA413.2.2.2.2.2.2.2.2.2.2.2.2.2.2.2.2.2.1 _ rfl) rfl
                  have q5024 : f 52 = undef := vt (hA413.2.2.2.2.2.2.2.2.2.2.2.2.2.2.2.2.2.2.1 _ rfl) rfl
                  have q5025 : f 53 = undef := vt (hA413.2.2.2.2.2.2.2.2.2.2.2.2.2.2.2.2.2.2.2.1 _ rfl) rfl
                  have q5026 : f 54 = undef := vt (hA413.2.2.2.2.2.2.2.2.2.2.2.2.2.2.2.2.2.2.2.2.1 _ rfl) rfl
                  have q5027 : f 55 = undef := vt (hA413.2.2.2.2.2.2.2.2.2.2.2.2.2.2.2.2.2.2.2.2.2.1 _ rfl) rfl
                  exact opg_skip (c := decide ((shlI 1 (wu64 (a0.Doors.length : Int))) ≤ x12)) rfl rfl rfl rfl q5023 hc17 rfl ⟨_, _, rfl, PH.Le.refl _, rfl, I442⟩
                · intro vs427 f w438 S432 X414 le432 hA414 hK427 hI428
                  have I443 : Inv w438 S432 (X414) := hI428
                  have q5028 : f 34 = (Value.slice z4 m4 k4) := vt (hA414.1 _ rfl) rfl
                  have q5029 : f 35 = (Value.int .i64 ((i1 : Int))) := vt (hA414.2.1 _ rfl) rfl
                  have q5030 : f 36 = (elemPtr (Value.slice z4 m4 k4) ((i1 : Int)) (Enc.sz Int)) := vt (hA414.2.2.1 _ rfl) rfl
                  have q5031 : f 37 = (Value.int .i64 (x12)) := vt (hA414.2.2.2.1 _ rfl) rfl
                  have q5032 : f 38 = (Value.bool (decide (x12 < 0))) := vt (hA414.2.2.2.2.1 _ rfl) rfl
                  have q5033 : f 39 = (Value.bool (decide (x12 < 0))) := vt (hA414.2.2.2.2.2.1 _ rfl) rfl
                  have q5034 : f 40 = (Value.slice z4 m4 k4) := vt (hA414.2.2.2.2.2.2.1 _ rfl) rfl
                  have q5035 : f 41 = (Value.int .i64 ((i1 : Int))) := vt (hA414.2.2.2.2.2.2.2.1 _ rfl) rfl
                  have q5036 : f 42 = (elemPtr (Value.slice z4 m4 k4) ((i1 : Int)) (Enc.sz Int)) := vt (hA414.2.2.2.2.2.2.2.2.1 _ rfl) rfl
                  have q5037 : f 43 = (Value.int .i64 (x12)) := vt (hA414.2.2.2.2.2.2.2.2.2.1 _ rfl) rfl
                  have q5038 : f 44 = (fieldPtr (Value.pointer (some ⟨g1, 0, none⟩)) 1) := vt (hA414.2.2.2.2.2.2.2.2.2.2.1 _ rfl) rfl
                  have q5039 : f 45 = vs427 11 := (hA414.2.2.2.2.2.2.2.2.2.2.2.1 _ rfl).1 _ rfl
                  have r149 : RV S432 (vs427 11) a0.Doors := (hA414.2.2.2.2.2.2.2.2.2.2.2.1 _ rfl).2
                  obtain ⟨u175, hu175⟩ : ∃ u, vs427 11 = u := ⟨_, rfl⟩
                  rw [hu175] at q5039 r149
                  obtain ⟨z161, m161, k161, e247⟩ := rv_form r149
                  subst e247
                  have q5040 : f 46 = (Value.int .i64 ((a0.Doors.length : Int))) := vt (hA414.2.2.2.2.2.2.2.2.2.2.2.2.1 _ rfl) rfl
                  have q5041 : f 47 = (Value.int .u64 (wu64 (a0.Doors.length : Int))) := vt (hA414.2.2.2.2.2.2.2.2.2.2.2.2.2.1 _ rfl) rfl
                  have q5042 : f 48 = (Value.int .i64 (shlI 1 (wu64 (a0.Doors.length : Int)))) := vt (hA414.2.2.2.2.2.2.2.2.2.2.2.2.2.2.1 _ rfl) rfl
                  have q5043 : f 49 = (Value.bool (decide ((shlI 1 (wu64 (a0.Doors.length : Int))) ≤ x12))) := vt (hA414.2.2.2.2.2.2.2.2.2.2.2.2.2.2.2.1 _ rfl) rfl
                  have q5044 : f 50 = (Value.bool (decide ((shlI 1 (wu64 (a0.Doors.length : Int))) ≤ x12))) := vt (hA414.2.2.2.2.2.2.2.2.2.2.2.2.2.2.2.2.1 _ rfl) rfl
                  have q5045 : f 51 = (Value.bool (decide ((shlI 1 (wu64 (a0.Doors.length : Int))) ≤ x12))) := vt (hA414.2.2.2.2.2.2.2.2.2.2.2.2.2.2.2.2.2.1 _ rfl) rfl
                  have q5046 : f 52 = undef := vt (hA414.2.2.2.2.2.2.2.2.2.2.2.2.2.2.2.2.2.2.1 _ rfl) rfl
                  have q5047 : f 53 = undef := vt (hA414.2.2.2.2.2.2.2.2.2.2.2.2.2.2.2.2.2.2.2.1 _ rfl) rfl
                  have q5048 : f 54 = undef := vt (hA414.2.2.2.2.2.2.2.2.2.2.2.2.2.2.2.2.2.2.2.2.1 _ rfl) rfl
                  have q5049 : f 55 = undef := vt (hA414.2.2.2.2.2.2.2.2.2.2.2.2.2.2.2.2.2.2.2.2.2.1 _ rfl) rfl
                  have q5050 : f 56 = undef := vt (hA414.2.2.2.2.2.2.2.2.2.2.2.2.2.2.2.2.2.2.2.2.2.2.1 _ rfl) rfl
                  exact opg_skip (c := decide ((shlI 1 (wu64 (a0.Doors.length : Int))) ≤ x12)) rfl rfl rfl rfl q5045 hc17 rfl ⟨_, _, rfl, PH.Le.refl _, rfl, I443⟩
                · intro vs428 f w439 S433 X415 le433 hA415 hK428 hI429
                  have I444 : Inv w439 S433 (X415) := hI429
                  have q5051 : f 52 = undef := vt (hA415.2.2.2.2.2.2.2.2.2.2.2.2.2.2.2.2.2.2.1 _ rfl) rfl
                  have q5052 : f 53 = undef := vt (hA415.2.2.2.2.2.2.2.2.2.2.2.2.2.2.2.2.2.2.2.1 _ rfl) rfl
                  have q5053 : f 54 = undef := vt (hA415.2.2.2.2.2.2.2.2.2.2.2.2.2.2.2.2.2.2.2.2.1 _ rfl) rfl
                  have q5054 : f 55 = undef := vt (hA415.2.2.2.2.2.2.2.2.2.2.2.2.2.2.2.2.2.2.2.2.2.1 _ rfl) rfl
                  have q5055 : f 56 = undef := vt (hA415.2.2.2.2.2.2.2.2.2.2.2.2.2.2.2.2.2.2.2.2.2.2.1 _ rfl) rfl
                  have q5056 : f 57 = undef := vt (hA415.2.2.2.2.2.2.2.2.2.2.2.2.2.2.2.2.2.2.2.2.2.2.2.1 _ rfl) rfl
                  exact opg_skip_u rfl rfl rfl rfl q5056 rfl ⟨_, _, rfl, PH.Le.refl _, rfl, I444⟩
                · intro vs429 f w440 S434 X416 le434 hA416 hK429 hI430
                  have I445 : Inv w440 S434 (X416) := hI430
                  have q5057 : f 52 = undef := vt (hA416.2.2.2.2.2.2.2.2.2.2.2.2.2.2.2.2.2.2.1 _ rfl) rfl
                  have q5058 : f 53 = undef := vt (hA416.2.2.2.2.2.2.2.2.2.2.2.2.2.2.2.2.2.2.2.1 _ rfl) rfl
                  have q5059 : f 54 = undef := vt (hA416.2.2.2.2.2.2.2.2.2.2.2.2.2.2.2.2.2.2.2.2.1 _ rfl) rfl
                  have q5060 : f 55 = undef := vt (hA416.2.2.2.2.2.2.2.2.2.2.2.2.2.2.2.2.2.2.2.2.2.1 _ rfl) rfl
                  have q5061 : f 56 = undef := vt (hA416.2.2.2.2.2.2.2.2.2.2.2.2.2.2.2.2.2.2.2.2.2.2.1 _ rfl) rfl
                  have q5062 : f 57 = undef := vt (hA416.2.2.2.2.2.2.2.2.2.2.2.2.2.2.2.2.2.2.2.2.2.2.2.1 _ rfl) rfl
                  exact opg_skip_u rfl rfl rfl rfl q5062 rfl ⟨_, _, rfl, PH.Le.refl _, rfl, I445⟩
                · intro vs430 f w441 S435 X417 le435 hA417 hK430 hI431
                  have I446 : Inv w441 S435 (X417) := hI431
                  have q5063 : f 52 = undef := vt (hA417.2.2.2.2.2.2.2.2.2.2.2.2.2.2.2.2.2.2.1 _ rfl) rfl
                  have q5064 : f 53 = undef := vt (hA417.2.2.2.2.2.2.2.2.2.2.2.2.2.2.2.2.2.2.2.1 _ rfl) rfl
                  have q5065 : f 54 = undef := vt (hA417.2.2.2.2.2.2.2.2.2.2.2.2.2.2.2.2.2.2.2.2.1 _ rfl) rfl
                  have q5066 : f 55 = undef := vt (hA417.2.2.2.2.2.2.2.2.2.2.2.2.2.2.2.2.2.2.2.2.2.1 _ rfl) rfl
                  have q5067 : f 56 = undef := vt (hA417.2.2.2.2.2.2.2.2.2.2.2.2.2.2.2.2.2.2.2.2.2.2.1 _ rfl) rfl
                  have q5068 : f 57 = undef := vt (hA417.2.2.2.2.2.2.2.2.2.2.2.2.2.2.2.2.2.2.2.2.2.2.2.1 _ rfl) rfl
                  have q5069 : f 58 = undef := vt (hA417.2.2.2.2.2.2.2.2.2.2.2.2.2.2.2.2.2.2.2.2.2.2.2.2.1 _ rfl) rfl
                  have q5070 : f 59 = undef := vt (hA417.2.2.2.2.2.2.2.2.2.2.2.2.2.2.2.2.2.2.2.2.2.2.2.2.2.1 _ rfl) rfl
                  exact opg_skip_u rfl rfl rfl rfl q5068 rfl ⟨_, _, rfl, PH.Le.refl _, rfl, I446⟩
                · intro vs431 f w442 S436 X418 le436 hA418 hK431 hI432
                  have I447 : Inv w442 S436 (X418) := hI432
                  have q5071 : f 52 = undef := vt (hA418.2.2.2.2.2.2.2.2.2.2.2.2.2.2.2.2.2.2.1 _ rfl) rfl
                  have q5072 : f 53 = undef := vt (hA418.2.2.2.2.2.2.2.2.2.2.2.2.2.2.2.2.2.2.2.1 _ rfl) rfl
                  have q5073 : f 54 = undef := vt (hA418.2.2.2.2.2.2.2.2.2.2.2.2.2.2.2.2.2.2.2.2.1 _ rfl) rfl
                  have q5074 : f 55 = undef := vt (hA418.2.2.2.2.2.2.2.2.2.2.2.2.2.2.2.2.2.2.2.2.2.1 _ rfl) rfl
                  have q5075 : f 56 = undef := vt (hA418.2.2.2.2.2.2.2.2.2.2.2.2.2.2.2.2.2.2.2.2.2.2.1 _ rfl) rfl
                  have q5076 : f 57 = undef := vt (hA418.2.2.2.2.2.2.2.2.2.2.2.2.2.2.2.2.2.2.2.2.2.2.2.1 _ rfl) rfl
                  have q5077 : f 58 = undef := vt (hA418.2.2.2.2.2.2.2.2.2.2.2.2.2.2.2.2.2.2.2.2.2.2.2.2.1 _ rfl) rfl
                  have q5078 : f 59 = undef := vt (hA418.2.2.2.2.2.2.2.2.2.2.2.2.2.2.2.2.2.2.2.2.2.2.2.2.2.1 _ rfl) rfl
                  have q5079 : f 60 = undef := vt (hA418.2.2.2.2.2.2.2.2.2.2.2.2.2.2.2.2.2.2.2.2.2.2.2.2.2.2.1 _ rfl) rfl
                  exact opg_skip_u rfl rfl rfl rfl q5076 rfl ⟨_, _, rfl, PH.Le.refl _, rfl, I447⟩
                · intro vs432 f w443 S437 X419 le437 hA419 hK432 hI433
                  have I448 : Inv w443 S437 (X419) := hI433
                  have q5080 : f 34 = (Value.slice z4 m4 k4) := vt (hA419.1 _ rfl) rfl
                  have q5081 : f 35 = (Value.int .i64 ((i1 : Int))) := vt (hA419.2.1 _ rfl) rfl
                  have q5082 : f 36 = (elemPtr (Value.slice z4 m4 k4) ((i1 : Int)) (Enc.sz Int)) := vt (hA419.2.2.1 _ rfl) rfl
                  have q5083 : f 37 = (Value.int .i64 (x12)) := vt (hA419.2.2.2.1 _ rfl) rfl
                  have q5084 : f 38 = (Value.bool (decide (x12 < 0))) := vt (hA419.2.2.2.2.1 _ rfl) rfl
                  have q5085 : f 39 = (Value.bool (decide (x12 < 0))) := vt (hA419.2.2.2.2.2.1 _ rfl) rfl
                  have q5086 : f 40 = (Value.slice z4 m4 k4) := vt (hA419.2.2.2.2.2.2.1 _ rfl) rfl
                  have q5087 : f 41 = (Value.int .i64 ((i1 : Int))) := vt (hA419.2.2.2.2.2.2.2.1 _ rfl) rfl
                  have q5088 : f 42 = (elemPtr (Value.slice z4 m4 k4) ((i1 : Int)) (Enc.sz Int)) := vt (hA419.2.2.2.2.2.2.2.2.1 _ rfl) rfl
                  have q5089 : f 43 = (Value.int .i64 (x12)) := vt (hA419.2.2.2.2.2.2.2.2.2.1 _ rfl) rfl
                  have q5090 : f 44 = (fieldPtr (Value.pointer (some ⟨g1, 0, none⟩)) 1) := vt (hA419.2.2.2.2.2.2.2.2.2.2.1 _ rfl) rfl
                  have q5091 : f 45 = vs432 11 := (hA419.2.2.2.2.2.2.2.2.2.2.2.1 _ rfl).1 _ rfl
                  have r150 : RV S437 (vs432 11) a0.Doors := (hA419.2.2.2.2.2.2.2.2.2.2.2.1 _ rfl).2
                  obtain ⟨u176, hu176⟩ : ∃ u, vs432 11 = u := ⟨_, rfl⟩
                  rw [hu176] at q5091 r150
                  obtain ⟨z162, m162, k162, e248⟩ := rv_form r150
                  subst e248
                  have q5092 : f 46 = (Value.int .i64 ((a0.Doors.length : Int))) := vt (hA419.2.2.2.2.2.2.2.2.2.2.2.2.1 _ rfl) rfl
                  have q5093 : f 47 = (Value.int .u64 (wu64 (a0.Doors.length : Int))) := vt (hA419.2.2.2.2.2.2.2.2.2.2.2.2.2.1 _ rfl) rfl
                  have q5094 : f 48 = (Value.int .i64 (shlI 1 (wu64 (a0.Doors.length : Int)))) := vt (hA419.2.2.2.2.2.2.2.2.2.2.2.2.2.2.1 _ rfl) rfl
                  have q5095 : f 49 = (Value.bool (decide ((shlI 1 (wu64 (a0.Doors.length : Int))) ≤ x12))) := vt (hA419.2.2.2.2.2.2.2.2.2.2.2.2.2.2.2.1 _ rfl) rfl
                  have q5096 : f 50 = (Value.bool (decide ((shlI 1 (wu64 (a0.Doors.length : Int))) ≤ x12))) := vt (hA419.2.2.2.2.2.2.2.2.2.2.2.2.2.2.2.2.1 _ rfl) rfl
                  have q5097 : f 51 = (Value.bool (decide ((shlI 1 (wu64 (a0.Doors.length : Int))) ≤ x12))) := vt (hA419.2.2.2.2.2.2.2.2.2.2.2.2.2.2.2.2.2.1 _ rfl) rfl
                  have q5098 : f 52 = undef := vt (hA419.2.2.2.2.2.2.2.2.2.2.2.2.2.2.2.2.2.2.1 _ rfl) rfl
                  have q5099 : f 53 = undef := vt (hA419.2.2.2.2.2.2.2.2.2.2.2.2.2.2.2.2.2.2.2.1 _ rfl) rfl
                  have q5100 : f 54 = undef := vt (hA419.2.2.2.2.2.2.2.2.2.2.2.2.2.2.2.2.2.2.2.2.1 _ rfl) rfl
                  have q5101 : f 55 = undef := vt (hA419.2.2.2.2.2.2.2.2.2.2.2.2.2.2.2.2.2.2.2.2.2.1 _ rfl) rfl
                  have q5102 : f 56 = undef := vt (hA419.2.2.2.2.2.2.2.2.2.2.2.2.2.2.2.2.2.2.2.2.2.2.1 _ rfl) rfl
                  have q5103 : f 57 = undef := vt (hA419.2.2.2.2.2.2.2.2.2.2.2.2.2.2.2.2.2.2.2.2.2.2.2.1 _ rfl) rfl
                  have q5104 : f 58 = undef := vt (hA419.2.2.2.2.2.2.2.2.2.2.2.2.2.2.2.2.2.2.2.2.2.2.2.2.1 _ rfl) rfl
                  have q5105 : f 59 = undef := vt (hA419.2.2.2.2.2.2.2.2.2.2.2.2.2.2.2.2.2.2.2.2.2.2.2.2.2.1 _ rfl) rfl
                  have q5106 : f 60 = undef := vt (hA419.2.2.2.2.2.2.2.2.2.2.2.2.2.2.2.2.2.2.2.2.2.2.2.2.2.2.1 _ rfl) rfl
                  have q5107 : f 61 = undef := vt (hA419.2.2.2.2.2.2.2.2.2.2.2.2.2.2.2.2.2.2.2.2.2.2.2.2.2.2.2.1 _ rfl) rfl
                  exact opg_skip (c := decide ((shlI 1 (wu64 (a0.Doors.length : Int))) ≤ x12)) rfl rfl rfl rfl q5097 hc17 rfl ⟨_, _, rfl, PH.Le.refl _, rfl, I448⟩
                · intro vs433 f w444 S438 X420 le438 hA420 hK433 hI434
                  have I449 : Inv w444 S438 (X420) := hI434
                  have q5108 : f 34 = (Value.slice z4 m4 k4) := vt (hA420.1 _ rfl) rfl
                  have q5109 : f 35 = (Value.int .i64 ((i1 : Int))) := vt (hA420.2.1 _ rfl) rfl
                  have q5110 : f 36 = (elemPtr (Value.slice z4 m4 k4) ((i1 : Int)) (Enc.sz Int)) := vt (hA420.2.2.1 _ rfl) rfl
                  have q5111 : f 37 = (Value.int .i64 (x12)) := vt (hA420.2.2.2.1 _ rfl) rfl
                  have q5112 : f 38 = (Value.bool (decide (x12 < 0))) := vt (hA420.2.2.2.2.1 _ rfl) rfl
                  have q5113 : f 39 = (Value.bool (decide (x12 < 0))) := vt (hA420.2.2.2.2.2.1 _ rfl) rfl
                  have q5114 : f 40 = (Value.slice z4 m4 k4) := vt (hA420.2.2.2.2.2.2.1 _ rfl) rfl
                  have q5115 : f 41 = (Value.int .i64 ((i1 : Int))) := vt (hA420.2.2.2.2.2.2.2.1 _ rfl) rfl
                  have q5116 : f 42 = (elemPtr (Value.slice z4 m4 k4) ((i1 : Int)) (Enc.sz Int)) := vt (hA420.2.2.2.2.2.2.2.2.1 _ rfl) rfl
                  have q5117 : f 43 = (Value.int .i64 (x12)) := vt (hA420.2.2.2.2.2.2.2.2.2.1 _ rfl) rfl
                  have q5118 : f 44 = (fieldPtr (Value.pointer (some ⟨g1, 0, none⟩)) 1) := vt (hA420.2.2.2.2.2.2.2.2.2.2.1 _ rfl) rfl
                  have q5119 : f 45 = vs433 11 := (hA420.2.2.2.2.2.2.2.2.2.2.2.1 _ rfl).1 _ rfl
                  have r151 : RV S438 (vs433 11) a0.Doors := (hA420.2.2.2.2.2.2.2.2.2.2.2.1 _ rfl).2
                  obtain ⟨u177, hu177⟩ : ∃ u, vs433 11 = u := ⟨_, rfl⟩
                  rw [hu177] at q5119 r151
                  obtain ⟨z163, m163, k163, e249⟩ := rv_form r151
                  subst e249
                  have q5120 : f 46 = (Value.int .i64 ((a0.Doors.length : Int))) := vt (hA420.2.2.2.2.2.2.2.2.2.2.2.2.1 _ rfl) rfl
                  have q5121 : f 47 = (Value.int .u64 (wu64 (a0.Doors.length : Int))) := vt (hA420.2.2.2.2.2.2.2.2.2.2.2.2.2.1 _ rfl) rfl
                  have q5122 : f 48 = (Value.int .i64 (shlI 1 (wu64 (a0.Doors.length : Int)))) := vt (hA420.2.2.2.2.2.2.2.2.2.2.2.2.2.2.1 _ rfl) rfl
                  have q5123 : f 49 = (Value.bool (decide ((shlI 1 (wu64 (a0.Doors.length : Int))) ≤ x12))) := vt (hA420.2.2.2.2.2.2.2.2.2.2.2.2.2.2.2.1 _ rfl) rfl
                  have q5124 : f 50 = (Value.bool (decide ((shlI 1 (wu64 (a0.Doors.length : Int))) ≤ x12))) := vt (hA420.2.2.2.2.2.2.2.2.2.2.2.2.2.2.2.2.1 _ rfl) rfl
                  have q5125 : f 51 = (Value.bool (decide ((shlI 1 (wu64 (a0.Doors.length : Int))) ≤ x12))) := vt (hA420.2.2.2.2.2.2.2.2.2.2.2.2.2.2.2.2.2.1 _ rfl) rfl
                  have q5126 : f 52 = undef := vt (hA420.2.2.2.2.2.2.2.2.2.2.2.2.2.2.2.2.2.2.1 _ rfl) rfl
                  have q5127 : f 53 = undef := vt (hA420.2.2.2.2.2.2.2.2.2.2.2.2.2.2.2.2.2.2.2.1 _ rfl) rfl
                  have q5128 : f 54 = undef := vt (hA420.2.2.2.2.2.2.2.2.2.2.2.2.2.2.2.2.2.2.2.2.1 _ rfl) rfl
                  have q5129 : f 55 = undef := vt (hA420.2.2.2.2.2.2.2.2.2.2.2.2.2.2.2.2.2.2.2.2.2.1 _ rfl) rfl
                  have q5130 : f 56 = undef := vt (hA420.2.2.2.2.2.2.2.2.2.2.2.2.2.2.2.2.2.2.2.2.2.2.1 _ rfl) rfl
                  have q5131 : f 57 = undef := vt (hA420.2.2.2.2.2.2.2.2.2.2.2.2.2.2.2.2.2.2.2.2.2.2.2.1 _ rfl) rfl
                  have q5132 : f 58 = undef := vt (hA420.2.2.2.2.2.2.2.2.2.2.2.2.2.2.2.2.2.2.2.2.2.2.2.2.1 _ rfl) rfl
                  have q5133 : f 59 = undef := vt (hA420.2.2.2.2.2.2.2.2.2.2.2.2.2.2.2.2.2.2.2.2.2.2.2.2.2.1 _ rfl) rfl
                  have q5134 : f 60 = undef := vt (hA420.2.2.2.2.2.2.2.2.2.2.2.2.2.2.2.2.2.2.2.2.2.2.2.2.2.2.1 _ rfl) rfl
                  have q5135 : f 61 = undef := vt (hA420.2.2.2.2.2.2.2.2.2.2.2.2.2.2.2.2.2.2.2.2.2.2.2.2.2.2.2.1 _ rfl) rfl
                  have q5136 : f 62 = undef := vt (hA420.2.2.2.2.2.2.2.2.2.2.2.2.2.2.2.2.2.2.2.2.2.2.2.2.2.2.2.2.1 _ rfl) rfl
                  refine opg_plain rfl rfl (op_pick_t (c := decide ((shlI 1 (wu64 (a0.Doors.length : Int))) ≤ x12)) (a := (Value.bool (true))) rfl q5125 hc17 rfl ?_)
                  refine ⟨_, _, rfl, PH.Le.refl _, ?_, ?_⟩
                  · exact rfl
                  · exact I449
                · intro vs434 f w445 S439 le439 hF14 hK434 hI435
                  have e250 : f 1 = (Value.int .i64 (a1)) := (hK434 1 (keep_all rfl)).trans e225
                  have e251 : f 2 = (Value.slice z2 m2 k2) := (hK434 2 (keep_all rfl)).trans e226
                  have e252 : f 3 = (Value.pointer (some ⟨g1, 0, none⟩)) := (hK434 3 (keep_all rfl)).trans e227
                  have e253 : f 7 = (Value.slice z4 m4 k4) := (hK434 7 (keep_all rfl)).trans e228
                  have e254 : f 9 = (Value.int .i64 ((i1 : Int))) := (hK434 9 (keep_all rfl)).trans e229
                  have I450 : Inv w445 S439 (Row (α := Int) 3 (Value.slice z4 m4 k4) (x3.1) :: Fr) := hI435
                  have q5137 : f 34 = (Value.slice z4 m4 k4) := vt (hF14.1 _ rfl) rfl
                  have q5138 : f 35 = (Value.int .i64 ((i1 : Int))) := vt (hF14.2.1 _ rfl) rfl
                  have q5139 : f 36 = (elemPtr (Value.slice z4 m4 k4) ((i1 : Int)) (Enc.sz Int)) := vt (hF14.2.2.1 _ rfl) rfl
                  have q5140 : f 37 = (Value.int .i64 (x12)) := vt (hF14.2.2.2.1 _ rfl) rfl
                  have q5141 : f 38 = (Value.bool (decide (x12 < 0))) := vt (hF14.2.2.2.2.1 _ rfl) rfl
                  have q5142 : f 39 = (Value.bool (decide (x12 < 0))) := vt (hF14.2.2.2.2.2.1 _ rfl) rfl
                  have q5143 : f 40 = (Value.slice z4 m4 k4) := vt (hF14.2.2.2.2.2.2.1 _ rfl) rfl
                  have q5144 : f 41 = (Value.int .i64 ((i1 : Int))) := vt (hF14.2.2.2.2.2.2.2.1 _ rfl) rfl
                  have q5145 : f 42 = (elemPtr (Value.slice z4 m4 k4) ((i1 : Int)) (Enc.sz Int)) := vt (hF14.2.2.2.2.2.2.2.2.1 _ rfl) rfl
                  have q5146 : f 43 = (Value.int .i64 (x12)) := vt (hF14.2.2.2.2.2.2.2.2.2.1 _ rfl) rfl
                  have q5147 : f 44 = (fieldPtr (Value.pointer (some ⟨g1, 0, none⟩)) 1) := vt (hF14.2.2.2.2.2.2.2.2.2.2.1 _ rfl) rfl
                  have q5148 : f 45 = vs434 11 := (hF14.2.2.2.2.2.2.2.2.2.2.2.1 _ rfl).1 _ rfl
                  have r152 : RV S439 (vs434 11) a0.Doors := (hF14.2.2.2.2.2.2.2.2.2.2.2.1 _ rfl).2
                  obtain ⟨u178, hu178⟩ : ∃ u, vs434 11 = u := ⟨_, rfl⟩
                  rw [hu178] at q5148 r152
                  obtain ⟨z164, m164, k164, e255⟩ := rv_form r152
                  subst e255
                  have q5149 : f 46 = (Value.int .i64 ((a0.Doors.length : Int))) := vt (hF14.2.2.2.2.2.2.2.2.2.2.2.2.1 _ rfl) rfl
                  have q5150 : f 47 = (Value.int .u64 (wu64 (a0.Doors.length : Int))) := vt (hF14.2.2.2.2.2.2.2.2.2.2.2.2.2.1 _ rfl) rfl
                  have q5151 : f 48 = (Value.int .i64 (shlI 1 (wu64 (a0.Doors.length : Int)))) := vt (hF14.2.2.2.2.2.2.2.2.2.2.2.2.2.2.1 _ rfl) rfl
                  have q5152 : f 49 = (Value.bool (decide ((shlI 1 (wu64 (a0.Doors.length : Int))) ≤ x12))) := vt (hF14.2.2.2.2.2.2.2.2.2.2.2.2.2.2.2.1 _ rfl) rfl
                  have q5153 : f 50 = (Value.bool (decide ((shlI 1 (wu64 (a0.Doors.length : Int))) ≤ x12))) := vt (hF14.2.2.2.2.2.2.2.2.2.2.2.2.2.2.2.2.1 _ rfl) rfl
                  have q5154 : f 51 = (Value.bool (decide ((shlI 1 (wu64 (a0.Doors.length : Int))) ≤ x12))) := vt (hF14.2.2.2.2.2.2.2.2.2.2.2.2.2.2.2.2.2.1 _ rfl) rfl
                  have q5155 : f 52 = undef := vt (hF14.2.2.2.2.2.2.2.2.2.2.2.2.2.2.2.2.2.2.1 _ rfl) rfl
                  have q5156 : f 53 = undef := vt (hF14.2.2.2.2.2.2.2.2.2.2.2.2.2.2.2.2.2.2.2.1 _ rfl) rfl
                  have q5157 : f 54 = undef := vt (hF14.2.2.2.2.2.2.2.2.2.2.2.2.2.2.2.2.2.2.2.2.1 _ rfl) rfl
                  have q5158 : f 55 = undef := vt (hF14.2.2.2.2.2.2.2.2.2.2.2.2.2.2.2.2.2.2.2.2.2.1 _ rfl) rfl
                  have q5159 : f 56 = undef := vt (hF14.2.2.2.2.2.2.2.2.2.2.2.2.2.2.2.2.2.2.2.2.2.2.1 _ rfl) rfl
                  have q5160 : f 57 = undef := vt (hF14.2.2.2.2.2.2.2.2.2.2.2.2.2.2.2.2.2.2.2.2.2.2.2.1 _ rfl) rfl
                  have q5161 : f 58 = undef := vt (hF14.2.2.2.2.2.2.2.2.2.2.2.2.2.2.2.2.2.2.2.2.2.2.2.2.1 _ rfl) rfl
                  have q5162 : f 59 = undef := vt (hF14.2.2.2.2.2.2.2.2.2.2.2.2.2.2.2.2.2.2.2.2.2.2.2.2.2.1 _ rfl) rfl
                  have q5163 : f 60 = undef := vt (hF14.2.2.2.2.2.2.2.2.2.2.2.2.2.2.2.2.2.2.2.2.2.2.2.2.2.2.1 _ rfl) rfl
                  have q5164 : f 61 = undef := vt (hF14.2.2.2.2.2.2.2.2.2.2.2.2.2.2.2.2.2.2.2.2.2.2.2.2.2.2.2.1 _ rfl) rfl
                  have q5165 : f 62 = undef := vt (hF14.2.2.2.2.2.2.2.2.2.2.2.2.2.2.2.2.2.2.2.2.2.2.2.2.2.2.2.2.1 _ rfl) rfl
                  have q5166 : f 63 = (Value.bool (true)) := vt (hF14.2.2.2.2.2.2.2.2.2.2.2.2.2.2.2.2.2.2.2.2.2.2.2.2.2.2.2.2.2.1 _ rfl) rfl
                  refine wp_cond_t (b := true) q5166 rfl ?_
                  refine wp_seq' ?_
                  refine wp_region' ?_
                  refine wl_op rfl (op_assign (v := (Value.bool (false))) rfl rfl ?_)
                  refine wl_nil ?_
                  refine wp_ret' ?_
                  obtain rfl := Option.some.inj h1
                  obtain rfl := (hout1 _ rfl)
                  have h2 := h
                  obtain rfl := Option.some.inj h2
                  exact ⟨(Value.bool (false)), (res1 rfl rfl), _, [], (((le1.trans le2).trans le377).trans le439), (I450).drop, rfl, rfl⟩
              · rcases ifs h1 with ⟨hc18, h1⟩ | ⟨hc18, h1⟩
                · obtain ⟨x13, hx13, h1⟩ := bnd h1
                  refine wp_draw (sps := [⟨some 34, [], [0], fun vs_ T_ => fr0 vs_ 0 = (Value.slice z4 m4 k4), [], [], [], fun _ h_ => h_⟩, ⟨some 35, [], [1], fun vs_ T_ => fr0 vs_ 0 = (Value.int .i64 ((i1 : Int))), [], [], [], fun _ h_ => h_⟩, ⟨some 36, [0, 1], [2], fun vs_ T_ => fr0 vs_ 0 = (elemPtr (Value.slice z4 m4 k4) ((i1 : Int)) (Enc.sz Int)), [0], [], [], fun _ h_ => h_⟩, ⟨some 37, [0, 1, 2], [3], fun vs_ T_ => fr0 vs_ 0 = (Value.int .i64 (x12)), [0], [], [], fun _ h_ => h_⟩, ⟨some 38, [0, 1, 2, 3], [4], fun vs_ T_ => fr0 vs_ 0 = (Value.bool (decide (x12 < 0))), [], [], [], fun _ h_ => h_⟩, ⟨some 39, [0, 1, 2, 3, 4], [5], fun vs_ T_ => fr0 vs_ 0 = (Value.bool (decide (x12 < 0))), [], [], [], fun _ h_ => h_⟩, ⟨some 40, [0, 1, 2, 3, 4, 5], [6], fun vs_ T_ => fr0 vs_ 0 = (Value.slice z4 m4 k4), [], [], [], fun _ h_ => h_⟩, ⟨some 41, [0, 1, 2, 3, 4, 5], [7], fun vs_ T_ => fr0 vs_ 0 = (Value.int .i64 ((i1 : Int))), [], [], [], fun _ h_ => h_⟩, ⟨some 42, [0, 1, 2, 3, 4, 5, 6, 7], [8], fun vs_ T_ => fr0 vs_ 0 = (elemPtr (Value.slice z4 m4 k4) ((i1 : Int)) (Enc.sz Int)), [0], [], [], fun _ h_ => h_⟩, ⟨some 43, [0, 1, 2, 3, 4, 5, 6, 7, 8], [9], fun vs_ T_ => fr0 vs_ 0 = (Value.int .i64 (x12)), [0], [], [], fun _ h_ => h_⟩, ⟨some 44, [0, 1, 2, 3, 4, 5], [10], fun vs_ T_ => fr0 vs_ 0 = (fieldPtr (Value.pointer (some ⟨g1, 0, none⟩)) 1), [], [], [], fun _ h_ => h_⟩, ⟨some 45, [0, 1, 2, 3, 4, 5, 10], [11], fun vs_ T_ => RV T_ (fr0 vs_ 0) a0.Doors, [], [], [], fun hle_ h_ => h_.mono hle_⟩, ⟨some 46, [0, 1, 2, 3, 4, 5, 10, 11], [12], fun vs_ T_ => fr0 vs_ 0 = (Value.int .i64 ((a0.Doors.length : Int))), [], [], [], fun _ h_ => h_⟩, ⟨some 47, [0, 1, 2, 3, 4, 5, 10, 11, 12], [13], fun vs_ T_ => fr0 vs_ 0 = (Value.int .u64 (wu64 (a0.Doors.length : Int))), [], [], [], fun _ h_ => h_⟩, ⟨some 48, [0, 1, 2, 3, 4, 5, 10, 11, 12, 13], [14], fun vs_ T_ => fr0 vs_ 0 = (Value.int .i64 (shlI 1 (wu64 (a0.Doors.length : Int)))), [], [], [], fun _ h_ => h_⟩, ⟨some 49, [0, 1, 2, 3, 4, 5, 6, 7, 8, 9, 10, 11, 12, 13, 14], [15], fun vs_ T_ => fr0 vs_ 0 = (Value.bool (decide ((shlI 1 (wu64 (a0.Doors.length : Int))) ≤ x12))), [], [], [], fun _ h_ => h_⟩, ⟨some 50, [0, 1, 2, 3, 4, 5, 6, 7, 8, 9, 10, 11, 12, 13, 14, 15], [16], fun vs_ T_ => fr0 vs_ 0 = (Value.bool (decide ((shlI 1 (wu64 (a0.Doors.length : Int))) ≤ x12))), [], [], [], fun _ h_ => h_⟩, ⟨some 51, [0, 1, 2, 3, 4, 5, 6, 7, 8, 9, 10, 11, 12, 13, 14, 15, 16], [17], fun vs_ T_ => fr0 vs_ 0 = (Value.bool (decide ((shlI 1 (wu64 (a0.Doors.length : Int))) ≤ x12))), [], [], [], fun _ h_ => h_⟩, ⟨some 52, [0, 1, 2, 3, 4, 5, 6, 7, 8, 9, 10, 11, 12, 13, 14, 15, 16, 17], [18], fun vs_ T_ => fr0 vs_ 0 = (Value.slice z4 m4 k4), [], [], [], fun _ h_ => h_⟩, ⟨some 53, [0, 1, 2, 3, 4, 5, 6, 7, 8, 9, 10, 11, 12, 13, 14, 15, 16, 17], [19], fun vs_ T_ => fr0 vs_ 0 = (Value.int .i64 ((i1 : Int))), [], [], [], fun _ h_ => h_⟩, ⟨some 54, [0, 1, 2, 3, 4, 5, 6, 7, 8, 9, 10, 11, 12, 13, 14, 15, 16, 17, 18, 19], [20], fun vs_ T_ => fr0 vs_ 0 = (elemPtr (Value.slice z4 m4 k4) ((i1 : Int)) (Enc.sz Int)), [0], [], [], fun _ h_ => h_⟩, ⟨some 55, [0, 1, 2, 3, 4, 5, 6, 7, 8, 9, 10, 11, 12, 13, 14, 15, 16, 17, 18, 19, 20], [21], fun vs_ T_ => fr0 vs_ 0 = (Value.int .i64 (x12)), [0], [], [], fun _ h_ => h_⟩, ⟨some 56, [0, 1, 2, 3, 4, 5, 6, 7, 8, 9, 10, 11, 12, 13, 14, 15, 16, 17, 18, 19, 20, 21], [22], fun vs_ T_ => fr0 vs_ 0 = (Value.bool (decide (0 < x12))), [], [], [], fun _ h_ => h_⟩, ⟨some 57, [0, 1, 2, 3, 4, 5, 6, 7, 8, 9, 10, 11, 12, 13, 14, 15, 16, 17, 18, 19, 20, 21, 22], [23], fun vs_ T_ => fr0 vs_ 0 = (Value.bool (decide (0 < x12))), [], [], [], fun _ h_ => h_⟩, ⟨some 58, [0, 1, 2, 3, 4, 5, 6, 7, 8, 9, 10, 11, 12, 13, 14, 15, 16, 17, 18, 19, 20, 21, 22, 23], [24], fun vs_ T_ => fr0 vs_ 0 = (Value.int .i64 ((i1 : Int))), [], [], [], fun _ h_ => h_⟩, ⟨some 59, [0, 1, 2, 3, 4, 5, 6, 7, 8, 9, 10, 11, 12, 13, 14, 15, 16, 17, 18, 19, 20, 21, 22, 23], [25], fun vs_ T_ => fr0 vs_ 0 = (Value.slice z2 m2 k2), [], [], [], fun _ h_ => h_⟩, ⟨some 60, [0, 1, 2, 3, 4, 5, 6, 7, 8, 9, 10, 11, 12, 13, 14, 15, 16, 17, 18, 19, 20, 21, 22, 23, 24, 25], [26], fun vs_ T_ => fr0 vs_ 0 = (Value.bool (x13)), [], [], [], fun _ h_ => h_⟩, ⟨some 61, [0, 1, 2, 3, 4, 5, 6, 7, 8, 9, 10, 11, 12, 13, 14, 15, 16, 17, 18, 19, 20, 21, 22, 23, 24, 25, 26], [27], fun vs_ T_ => fr0 vs_ 0 = (Value.bool (!x13)), [], [], [], fun _ h_ => h_⟩, ⟨some 62, [0, 1, 2, 3, 4, 5, 6, 7, 8, 9, 10, 11, 12, 13, 14, 15, 16, 17, 18, 19, 20, 21, 22, 23, 24, 25, 26, 27], [28], fun vs_ T_ => fr0 vs_ 0 = (Value.bool (!x13)), [], [], [], fun _ h_ => h_⟩, ⟨some 63, [0, 1, 2, 3, 4, 5, 6, 7, 8, 9, 10, 11, 12, 13, 14, 15, 16, 17, 18, 19, 20, 21, 22, 23, 24, 25, 26, 27, 28], [29], fun vs_ T_ => fr0 vs_ 0 = (Value.bool (!x13)), [], [], [], fun _ h_ => h_⟩]) (tks := [⟨none, none, [], fun vs_ => Row (α := Int) 3 (Value.slice z4 m4 k4) (x3.1)⟩]) (O := Fr) rfl (by kernel_rfl) I388 ⟨?_, ?_, ?_, ?_, ?_, ?_, ?_, ?_, ?_, ?_, ?_, ?_, ?_, ?_, ?_, ?_, ?_, ?_, ?_, ?_, ?_, ?_, ?_, ?_, ?_, ?_, ?_, ?_, ?_, ?_, trivial⟩ ?_
                  · intro vs435 f w447 S440 X421 le440 hA421 hK435 hI436
                    have I452 : Inv w447 S440 (X421) := hI436
                    refine opg_plain rfl rfl (op_move (v := (Value.slice z4 m4 k4)) rfl ((hK435 7 (keep_of rfl)).trans e228) ?_)
                    refine ⟨_, _, rfl, PH.Le.refl _, ?_, ?_⟩
                    · exact rfl
                    · exact I452
                  · intro vs436 f w448 S441 X422 le441 hA422 hK436 hI437
                    have I453 : Inv w448 S441 (X422) := hI437
                    refine opg_plain rfl rfl (op_move (v := (Value.int .i64 ((i1 : Int)))) rfl ((hK436 9 (keep_of rfl)).trans e229) ?_)
                    refine ⟨_, _, rfl, PH.Le.refl _, ?_, ?_⟩
                    · exact rfl
                    · exact I453
                  · intro vs437 f w449 S442 X423 le442 hA423 hK437 hI438
                    have I454 : Inv w449 S442 (Row (α := Int) 3 (Value.slice z4 m4 k4) (x3.1) :: X423) := hI438
                    have q5167 : f 34 = (Value.slice z4 m4 k4) := vt (hA423.1 _ rfl) rfl
                    have q5168 : f 35 = (Value.int .i64 ((i1 : Int))) := vt (hA423.2.1 _ rfl) rfl
                    refine opg_plain rfl rfl (op_indexAddr_src (v := (Value.slice z4 m4 k4)) (i := (i1 : Int)) (e := x12) rfl Try.underlying34 sh3 q5167 (Inv.rowSrc (I454.nth 0 rfl)) q5168 hx12 ?_)
                    refine ⟨_, _, rfl, PH.Le.refl _, ?_, ?_⟩
                    · exact rfl
                    · exact I454
                  · intro vs438 f w450 S443 X424 le443 hA424 hK438 hI439
                    have I455 : Inv w450 S443 (Row (α := Int) 3 (Value.slice z4 m4 k4) (x3.1) :: X424) := hI439
                    have q5169 : f 34 = (Value.slice z4 m4 k4) := vt (hA424.1 _ rfl) rfl
                    have q5170 : f 35 = (Value.int .i64 ((i1 : Int))) := vt (hA424.2.1 _ rfl) rfl
                    have q5171 : f 36 = (elemPtr (Value.slice z4 m4 k4) ((i1 : Int)) (Enc.sz Int)) := vt (hA424.2.2.1 _ rfl) rfl
                    refine opg_plain rfl rfl (op_load_int (v := (elemPtr (Value.slice z4 m4 k4) ((i1 : Int)) (Enc.sz Int))) (e := x12) rfl sh3 q5171 ((I455.nth 0 rfl).rowElem hx12) ?_)
                    refine ⟨_, _, rfl, PH.Le.refl _, ?_, ?_⟩
                    · exact rfl
                    · exact I455
                  · intro vs439 f w451 S444 X425 le444 hA425 hK439 hI440
                    have I456 : Inv w451 S444 (X425) := hI440
                    have q5172 : f 34 = (Value.slice z4 m4 k4) := vt (hA425.1 _ rfl) rfl
                    have q5173 : f 35 = (Value.int .i64 ((i1 : Int))) := vt (hA425.2.1 _ rfl) rfl
                    have q5174 : f 36 = (elemPtr (Value.slice z4 m4 k4) ((i1 : Int)) (Enc.sz Int)) := vt (hA425.2.2.1 _ rfl) rfl
                    have q5175 : f 37 = (Value.int .i64 (x12)) := vt (hA425.2.2.2.1 _ rfl) rfl
                    refine opg_plain rfl rfl (op_lss (a := x12) (b := 0) rfl q5175 rfl ?_)
                    refine ⟨_, _, rfl, PH.Le.refl _, ?_, ?_⟩
                    · exact rfl
                    · exact I456
                  · intro vs440 f w452 S445 X426 le445 hA426 hK440 hI441
                    have I457 : Inv w452 S445 (X426) := hI441
                    have q5176 : f 34 = (Value.slice z4 m4 k4) := vt (hA426.1 _ rfl) rfl
                    have q5177 : f 35 = (Value.int .i64 ((i1 : Int))) := vt (hA426.2.1 _ rfl) rfl
                    have q5178 : f 36 = (elemPtr (Value.slice z4 m4 k4) ((i1 : Int)) (Enc.sz Int)) := vt (hA426.2.2.1 _ rfl) rfl
                    have q5179 : f 37 = (Value.int .i64 (x12)) := vt (hA426.2.2.2.1 _ rfl) rfl
                    have q5180 : f 38 = (Value.bool (decide (x12 < 0))) := vt (hA426.2.2.2.2.1 _ rfl) rfl
                    refine opg_plain rfl rfl (op_move (v := (Value.bool (decide (x12 < 0)))) rfl q5180 ?_)
                    refine ⟨_, _, rfl, PH.Le.refl _, ?_, ?_⟩
                    · exact rfl
                    · exact I457
                  · intro vs441 f w453 S446 X427 le446 hA427 hK441 hI442
                    have I458 : Inv w453 S446 (X427) := hI442
                    have q5181 : f 34 = (Value.slice z4 m4 k4) := vt (hA427.1 _ rfl) rfl
                    have q5182 : f 35 = (Value.int .i64 ((i1 : Int))) := vt (hA427.2.1 _ rfl) rfl
                    have q5183 : f 36 = (elemPtr (Value.slice z4 m4 k4) ((i1 : Int)) (Enc.sz Int)) := vt (hA427.2.2.1 _ rfl) rfl
                    have q5184 : f 37 = (Value.int .i64 (x12)) := vt (hA427.2.2.2.1 _ rfl) rfl
                    have q5185 : f 38 = (Value.bool (decide (x12 < 0))) := vt (hA427.2.2.2.2.1 _ rfl) rfl
                    have q5186 : f 39 = (Value.bool (decide (x12 < 0))) := vt (hA427.2.2.2.2.2.1 _ rfl) rfl
                    refine opg_taken (c := decide (x12 < 0)) rfl rfl rfl rfl q5186 hc16 (op_move (v := (Value.slice z4 m4 k4)) rfl ((hK441 7 (keep_of rfl)).trans e228) ?_)
                    refine ⟨_, _, rfl, PH.Le.refl _, ?_, ?_⟩
                    · exact rfl
                    · exact I458
                  · intro vs442 f w454 S447 X428 le447 hA428 hK442 hI443
                    have I459 : Inv w454 S447 (X428) := hI443
                    have q5187 : f 34 = (Value.slice z4 m4 k4) := vt (hA428.1 _ rfl) rfl
                    have q5188 : f 35 = (Value.int .i64 ((i1 : Int))) := vt (hA428.2.1 _ rfl) rfl
                    have q5189 : f 36 = (elemPtr (Value.slice z4 m4 k4) ((i1 : Int)) (Enc.sz Int)) := vt (hA428.2.2.1 _ rfl) rfl
                    have q5190 : f 37 = (Value.int .i64 (x12)) := vt (hA428.2.2.2.1 _ rfl) rfl
                    have q5191 : f 38 = (Value.bool (decide (x12 < 0))) := vt (hA428.2.2.2.2.1 _ rfl) rfl
                    have q5192 : f 39 = (Value.bool (decide (x12 < 0))) := vt (hA428.2.2.2.2.2.1 _ rfl) rfl
                    refine opg_taken (c := decide (x12 < 0)) rfl rfl rfl rfl q5192 hc16 (op_move (v := (Value.int .i64 ((i1 : Int)))) rfl ((hK442 9 (keep_of rfl)).trans e229) ?_)
                    refine ⟨_, _, rfl, PH.Le.refl _, ?_, ?_⟩
                    · exact rfl
                    · exact I459
                  · intro vs443 f w455 S448 X429 le448 hA429 hK443 hI444
                    have I460 : Inv w455 S448 (Row (α := Int) 3 (Value.slice z4 m4 k4) (x3.1) :: X429) := hI444
                    have q5193 : f 34 = (Value.slice z4 m4 k4) := vt (hA429.1 _ rfl) rfl
                    have q5194 : f 35 = (Value.int .i64 ((i1 : Int))) := vt (hA429.2.1 _ rfl) rfl
                    have q5195 : f 36 = (elemPtr (Value.slice z4 m4 k4) ((i1 : Int)) (Enc.sz Int)) := vt (hA429.2.2.1 _ rfl) rfl
                    have q5196 : f 37 = (Value.int .i64 (x12)) := vt (hA429.2.2.2.1 _ rfl) rfl
                    have q5197 : f 38 = (Value.bool (decide (x12 < 0))) := vt (hA429.2.2.2.2.1 _ rfl) rfl
                    have q5198 : f 39 = (Value.bool (decide (x12 < 0))) := vt (hA429.2.2.2.2.2.1 _ rfl) rfl
                    have q5199 : f 40 = (Value.slice z4 m4 k4) := vt (hA429.2.2.2.2.2.2.1 _ rfl) rfl
                    have q5200 : f 41 = (Value.int .i64 ((i1 : Int))) := vt (hA429.2.2.2.2.2.2.2.1 _ rfl) rfl
                    refine opg_taken (c := decide (x12 < 0)) rfl rfl rfl rfl q5198 hc16 (op_indexAddr_src (v := (Value.slice z4 m4 k4)) (i := (i1 : Int)) (e := x12) rfl Try.underlying34 sh3 q5199 (Inv.rowSrc (I460.nth 0 rfl)) q5200 hx12 ?_)
                    refine ⟨_, _, rfl, PH.Le.refl _, ?_, ?_⟩
                    · exact rfl
                    · exact I460
                  · intro vs444 f w456 S449 X430 le449 hA430 hK444 hI445
                    have I461 : Inv w456 S449 (Row (α := Int) 3 (Value.slice z4 m4 k4) (x3.1) :: X430) := hI445
                    have q5201 : f 34 = (Value.slice z4 m4 k4) := vt (hA430.1 _ rfl) rfl
                    have q5202 : f 35 = (Value.int .i64 ((i1 : Int))) := vt (hA430.2.1 _ rfl) rfl
                    have q5203 : f 36 = (elemPtr (Value.slice z4 m4 k4) ((i1 : Int)) (Enc.sz Int)) := vt (hA430.2.2.1 _ rfl) rfl
                    have q5204 : f 37 = (Value.int .i64 (x12)) := vt (hA430.2.2.2.1 _ rfl) rfl
                    have q5205 : f 38 = (Value.bool (decide (x12 < 0))) := vt (hA430.2.2.2.2.1 _ rfl) rfl
                    have q5206 : f 39 = (Value.bool (decide (x12 < 0))) := vt (hA430.2.2.2.2.2.1 _ rfl) rfl
                    have q5207 : f 40 = (Value.slice z4 m4 k4) := vt (hA430.2.2.2.2.2.2.1 _ rfl) rfl
                    have q5208 : f 41 = (Value.int .i64 ((i1 : Int))) := vt (hA430.2.2.2.2.2.2.2.1 _ rfl) rfl
                    have q5209 : f 42 = (elemPtr (Value.slice z4 m4 k4) ((i1 : Int)) (Enc.sz Int)) := vt (hA430.2.2.2.2.2.2.2.2.1 _ rfl) rfl
                    refine opg_taken (c := decide (x12 < 0)) rfl rfl rfl rfl q5206 hc16 (op_load_int (v := (elemPtr (Value.slice z4 m4 k4) ((i1 : Int)) (Enc.sz Int))) (e := x12) rfl sh3 q5209 ((I461.nth 0 rfl).rowElem hx12) ?_)
                    refine ⟨_, _, rfl, PH.Le.refl _, ?_, ?_⟩
                    · exact rfl
                    · exact I461
                  · intro vs445 f w457 S450 X431 le450 hA431 hK445 hI446
                    have I462 : Inv w457 S450 (X431) := hI446
                    have q5210 : f 34 = (Value.slice z4 m4 k4) := vt (hA431.1 _ rfl) rfl
                    have q5211 : f 35 = (Value.int .i64 ((i1 : Int))) := vt (hA431.2.1 _ rfl) rfl
                    have q5212 : f 36 = (elemPtr (Value.slice z4 m4 k4) ((i1 : Int)) (Enc.sz Int)) := vt (hA431.2.2.1 _ rfl) rfl
                    have q5213 : f 37 = (Value.int .i64 (x12)) := vt (hA431.2.2.2.1 _ rfl) rfl
                    have q5214 : f 38 = (Value.bool (decide (x12 < 0))) := vt (hA431.2.2.2.2.1 _ rfl) rfl
                    have q5215 : f 39 = (Value.bool (decide (x12 < 0))) := vt (hA431.2.2.2.2.2.1 _ rfl) rfl
                    refine opg_taken (c := decide (x12 < 0)) rfl rfl rfl rfl q5215 hc16 (op_fieldAddr_t (v := (Value.pointer (some ⟨g1, 0, none⟩))) rfl fa24_1 ((hK445 3 (keep_of rfl)).trans e227) ((p1.mono ((le2.trans le377).trans le450)).at_ I462) ?_)
                    refine ⟨_, _, rfl, PH.Le.refl _, ?_, ?_⟩
                    · exact rfl
                    · exact I462
                  · intro vs446 f w458 S451 X432 le451 hA432 hK446 hI447
                    have I463 : Inv w458 S451 (X432) := hI447
                    have q5216 : f 34 = (Value.slice z4 m4 k4) := vt (hA432.1 _ rfl) rfl
                    have q5217 : f 35 = (Value.int .i64 ((i1 : Int))) := vt (hA432.2.1 _ rfl) rfl
                    have q5218 : f 36 = (elemPtr (Value.slice z4 m4 k4) ((i1 : Int)) (Enc.sz Int)) := vt (hA432.2.2.1 _ rfl) rfl
                    have q5219 : f 37 = (Value.int .i64 (x12)) := vt (hA432.2.2.2.1 _ rfl) rfl
                    have q5220 : f 38 = (Value.bool (decide (x12 < 0))) := vt (hA432.2.2.2.2.1 _ rfl) rfl
                    have q5221 : f 39 = (Value.bool (decide (x12 < 0))) := vt (hA432.2.2.2.2.2.1 _ rfl) rfl
                    have q5222 : f 44 = (fieldPtr (Value.pointer (some ⟨g1, 0, none⟩)) 1) := vt (hA432.2.2.2.2.2.2.1 _ rfl) rfl
                    refine opg_taken (c := decide (x12 < 0)) rfl rfl rfl rfl q5221 hc16 (op_load (v := (fieldPtr (Value.pointer (some ⟨g1, 0, none⟩)) 1)) (e := a0.Doors) rfl sh22 q5222 (((p1.mono ((le2.trans le377).trans le451)).at_ I463).fld Panel.fld1) (fun u181 hu181 => ?_))
                    obtain ⟨z165, m165, k165, e256⟩ := rv_form hu181
                    subst e256
                    refine ⟨_, _, rfl, PH.Le.refl _, ?_, ?_⟩
                    · exact hu181
                    · exact I463
                  · intro vs447 f w459 S452 X433 le452 hA433 hK447 hI448
                    have I464 : Inv w459 S452 (X433) := hI448
                    have q5223 : f 34 = (Value.slice z4 m4 k4) := vt (hA433.1 _ rfl) rfl
                    have q5224 : f 35 = (Value.int .i64 ((i1 : Int))) := vt (hA433.2.1 _ rfl) rfl
                    have q5225 : f 36 = (elemPtr (Value.slice z4 m4 k4) ((i1 : Int)) (Enc.sz Int)) := vt (hA433.2.2.1 _ rfl) rfl
                    have q5226 : f 37 = (Value.int .i64 (x12)) := vt (hA433.2.2.2.1 _ rfl) rfl
                    have q5227 : f 38 = (Value.bool (decide (x12 < 0))) := vt (hA433.2.2.2.2.1 _ rfl) rfl
                    have q5228 : f 39 = (Value.bool (decide (x12 < 0))) := vt (hA433.2.2.2.2.2.1 _ rfl) rfl
                    have q5229 : f 44 = (fieldPtr (Value.pointer (some ⟨g1, 0, none⟩)) 1) := vt (hA433.2.2.2.2.2.2.1 _ rfl) rfl
                    have q5230 : f 45 = vs447 11 := (hA433.2.2.2.2.2.2.2.1 _ rfl).1 _ rfl
                    have r153 : RV S452 (vs447 11) a0.Doors := (hA433.2.2.2.2.2.2.2.1 _ rfl).2
                    obtain ⟨u182, hu182⟩ : ∃ u, vs447 11 = u := ⟨_, rfl⟩
                    rw [hu182] at q5230 r153
                    obtain ⟨z166, m166, k166, e257⟩ := rv_form r153
                    subst e257
                    refine opg_taken (c := decide (x12 < 0)) rfl rfl rfl rfl q5228 hc16 (op_len_rv rfl Try.underlying22 q5230 r153 ?_)
                    refine ⟨_, _, rfl, PH.Le.refl _, ?_, ?_⟩
                    · exact rfl
                    · exact I464
                  · intro vs448 f w460 S453 X434 le453 hA434 hK448 hI449
                    have I465 : Inv w460 S453 (X434) := hI449
                    have q5231 : f 34 = (Value.slice z4 m4 k4) := vt (hA434.1 _ rfl) rfl
                    have q5232 : f 35 = (Value.int .i64 ((i1 : Int))) := vt (hA434.2.1 _ rfl) rfl
                    have q5233 : f 36 = (elemPtr (Value.slice z4 m4 k4) ((i1 : Int)) (Enc.sz Int)) := vt (hA434.2.2.1 _ rfl) rfl
                    have q5234 : f 37 = (Value.int .i64 (x12)) := vt (hA434.2.2.2.1 _ rfl) rfl
                    have q5235 : f 38 = (Value.bool (decide (x12 < 0))) := vt (hA434.2.2.2.2.1 _ rfl) rfl
                    have q5236 : f 39 = (Value.bool (decide (x12 < 0))) := vt (hA434.2.2.2.2.2.1 _ rfl) rfl
                    have q5237 : f 44 = (fieldPtr (Value.pointer (some ⟨g1, 0, none⟩)) 1) := vt (hA434.2.2.2.2.2.2.1 _ rfl) rfl
                    have q5238 : f 45 = vs448 11 := (hA434.2.2.2.2.2.2.2.1 _ rfl).1 _ rfl
                    have r154 : RV S453 (vs448 11) a0.Doors := (hA434.2.2.2.2.2.2.2.1 _ rfl).2
                    obtain ⟨u183, hu183⟩ : ∃ u, vs448 11 = u := ⟨_, rfl⟩
                    rw [hu183] at q5238 r154
                    obtain ⟨z167, m167, k167, e258⟩ := rv_form r154
                    subst e258
                    have q5239 : f 46 = (Value.int .i64 ((a0.Doors.length : Int))) := vt (hA434.2.2.2.2.2.2.2.2.1 _ rfl) rfl
                    refine opg_taken (c := decide (x12 < 0)) rfl rfl rfl rfl q5236 hc16 (op_toU (a := (a0.Doors.length : Int)) rfl q5239 Try.underlying3 Try.underlying63 ?_)
                    refine ⟨_, _, rfl, PH.Le.refl _, ?_, ?_⟩
                    · exact rfl
                    · exact I465
                  · intro vs449 f w461 S454 X435 le454 hA435 hK449 hI450
                    have I466 : Inv w461 S454 (X435) := hI450
                    have q5240 : f 34 = (Value.slice z4 m4 k4) := vt (hA435.1 _ rfl) rfl
                    have q5241 : f 35 = (Value.int .i64 ((i1 : Int))) := vt (hA435.2.1 _ rfl) rfl
                    have q5242 : f 36 = (elemPtr (Value.slice z4 m4 k4) ((i1 : Int)) (Enc.sz Int)) := vt (hA435.2.2.1 _ rfl) rfl
                    have q5243 : f 37 = (Value.int .i64 (x12)) := vt (hA435.2.2.2.1 _ rfl) rfl
                    have q5244 : f 38 = (Value.bool (decide (x12 < 0))) := vt (hA435.2.2.2.2.1 _ rfl) rfl
                    have q5245 : f 39 = (Value.bool (decide (x12 < 0))) := vt (hA435.2.2.2.2.2.1 _ rfl) rfl
                    have q5246 : f 44 = (fieldPtr (Value.pointer (some ⟨g1, 0, none⟩)) 1) := vt (hA435.2.2.2.2.2.2.1 _ rfl) rfl
                    have q5247 : f 45 = vs449 11 := (hA435.2.2.2.2.2.2.2.1 _ rfl).1 _ rfl
                    have r155 : RV S454 (vs449 11) a0.Doors := (hA435.2.2.2.2.2.2.2.1 _ rfl).2
                    obtain ⟨u184, hu184⟩ : ∃ u, vs449 11 = u := ⟨_, rfl⟩
                    rw [hu184] at q5247 r155
                    obtain ⟨z168, m168, k168, e259⟩ := rv_form r155
                    subst e259
                    have q5248 : f 46 = (Value.int .i64 ((a0.Doors.length : Int))) := vt (hA435.2.2.2.2.2.2.2.2.1 _ rfl) rfl
                    have q5249 : f 47 = (Value.int .u64 (wu64 (a0.Doors.length : Int))) := vt (hA435.2.2.2.2.2.2.2.2.2.1 _ rfl) rfl
                    refine opg_taken (c := decide (x12 < 0)) rfl rfl rfl rfl q5245 hc16 (op_shl (a := 1) (b := wu64 (a0.Doors.length : Int)) rfl rfl q5249 (wu64_nonneg _) ?_)
                    refine ⟨_, _, rfl, PH.Le.refl _, ?_, ?_⟩
                    · exact rfl
                    · exact I466
                  · intro vs450 f w462 S455 X436 le455 hA436 hK450 hI451
                    have I467 : Inv w462 S455 (X436) := hI451
                    have q5250 : f 34 = (Value.slice z4 m4 k4) := vt (hA436.1 _ rfl) rfl
                    have q5251 : f 35 = (Value.int .i64 ((i1 : Int))) := vt (hA436.2.1 _ rfl) rfl
                    have q5252 : f 36 = (elemPtr (Value.slice z4 m4 k4) ((i1 : Int)) (Enc.sz Int)) := vt (hA436.2.2.1 _ rfl) rfl
                    have q5253 : f 37 = (Value.int .i64 (x12)) := vt (hA436.2.2.2.1 _ rfl) rfl
                    have q5254 : f 38 = (Value.bool (decide (x12 < 0))) := vt (hA436.2.2.2.2.1 _ rfl) rfl
                    have q5255 : f 39 = (Value.bool (decide (x12 < 0))) := vt (hA436.2.2.2.2.2.1 _ rfl) rfl
                    have q5256 : f 40 = (Value.slice z4 m4 k4) := vt (hA436.2.2.2.2.2.2.1 _ rfl) rfl
                    have q5257 : f 41 = (Value.int .i64 ((i1 : Int))) := vt (hA436.2.2.2.2.2.2.2.1 _ rfl) rfl
                    have q5258 : f 42 = (elemPtr (Value.slice z4 m4 k4) ((i1 : Int)) (Enc.sz Int)) := vt (hA436.2.2.2.2.2.2.2.2.1 _ rfl) rfl
                    have q5259 : f 43 = (Value.int .i64 (x12)) := vt (hA436.2.2.2.2.2.2.2.2.2.1 _ rfl) rfl
                    have q5260 : f 44 = (fieldPtr (Value.pointer (some ⟨g1, 0, none⟩)) 1) := vt (hA436.2.2.2.2.2.2.2.2.2.2.1 _ rfl) rfl
                    have q5261 : f 45 = vs450 11 := (hA436.2.2.2.2.2.2.2.2.2.2.2.1 _ rfl).1 _ rfl
                    have r156 : RV S455 (vs450 11) a0.Doors := (hA436.2.2.2.2.2.2.2.2.2.2.2.1 _ rfl).2
                    obtain ⟨u185, hu185⟩ : ∃ u, vs450 11 = u := ⟨_, rfl⟩
                    rw [hu185] at q5261 r156
                    obtain ⟨z169, m169, k169, e260⟩ := rv_form r156
                    subst e260
                    have q5262 : f 46 = (Value.int .i64 ((a0.Doors.length : Int))) := vt (hA436.2.2.2.2.2.2.2.2.2.2.2.2.1 _ rfl) rfl
                    have q5263 : f 47 = (Value.int .u64 (wu64 (a0.Doors.length : Int))) := vt (hA436.2.2.2.2.2.2.2.2.2.2.2.2.2.1 _ rfl) rfl
                    have q5264 : f 48 = (Value.int .i64 (shlI 1 (wu64 (a0.Doors.length : Int)))) := vt (hA436.2.2.2.2.2.2.2.2.2.2.2.2.2.2.1 _ rfl) rfl
                    refine opg_taken (c := decide (x12 < 0)) rfl rfl rfl rfl q5255 hc16 (op_geq (a := x12) (b := shlI 1 (wu64 (a0.Doors.length : Int))) rfl q5259 q5264 ?_)
                    refine ⟨_, _, rfl, PH.Le.refl _, ?_, ?_⟩
                    · exact rfl
                    · exact I467
                  · intro vs451 f w463 S456 X437 le456 hA437 hK451 hI452
                    have I468 : Inv w463 S456 (X437) := hI452
                    have q5265 : f 34 = (Value.slice z4 m4 k4) := vt (hA437.1 _ rfl) rfl
                    have q5266 : f 35 = (Value.int .i64 ((i1 : Int))) := vt (hA437.2.1 _ rfl) rfl
                    have q5267 : f 36 = (elemPtr (Value.slice z4 m4 k4) ((i1 : Int)) (Enc.sz Int)) := vt (hA437.2.2.1 _ rfl) rfl
                    have q5268 : f 37 = (Value.int .i64 (x12)) := vt (hA437.2.2.2.1 _ rfl) rfl
                    have q5269 : f 38 = (Value.bool (decide (x12 < 0))) := vt (hA437.2.2.2.2.1 _ rfl) rfl
                    have q5270 : f 39 = (Value.bool (decide (x12 < 0))) := vt (hA437.2.2.2.2.2.1 _ rfl) rfl
                    have q5271 : f 40 = (Value.slice z4 m4 k4) := vt (hA437.2.2.2.2.2.2.1 _ rfl) rfl
                    have q5272 : f 41 = (Value.int .i64 ((i1 : Int))) := vt (hA437.2.2.2.2.2.2.2.1 _ rfl) rfl
                    have q5273 : f 42 = (elemPtr (Value.slice z4 m4 k4) ((i1 : Int)) (Enc.sz Int)) := vt (hA437.2.2.2.2.2.2.2.2.1 _ rfl) rfl
                    have q5274 : f 43 = (Value.int .i64 (x12)) := vt (hA437.2.2.2.2.2.2.2.2.2.1 _ rfl) rfl
                    have q5275 : f 44 = (fieldPtr (Value.pointer (some ⟨g1, 0, none⟩)) 1) := vt (hA437.2.2.2.2.2.2.2.2.2.2.1 _ rfl) rfl
                    have q5276 : f 45 = vs451 11 := (hA437.2.2.2.2.2.2.2.2.2.2.2.1 _ rfl).1 _ rfl
                    have r157 : RV S456 (vs451 11) a0.Doors := (hA437.2.2.2.2.2.2.2.2.2.2.2.1 _ rfl).2
                    obtain ⟨u186, hu186⟩ : ∃ u, vs451 11 = u := ⟨_, rfl⟩
                    rw [hu186] at q5276 r157
                    obtain ⟨z170, m170, k170, e261⟩ := rv_form r157
                    subst e261
                    have q5277 : f 46 = (Value.int .i64 ((a0.Doors.length : Int))) := vt (hA437.2.2.2.2.2.2.2.2.2.2.2.2.1 _ rfl) rfl
                    have q5278 : f 47 = (Value.int .u64 (wu64 (a0.Doors.length : Int))) := vt (hA437.2.2.2.2.2.2.2.2.2.2.2.2.2.1 _ rfl) rfl
                    have q5279 : f 48 = (Value.int .i64 (shlI 1 (wu64 (a0.Doors.length : Int)))) := vt (hA437.2.2.2.2.2.2.2.2.2.2.2.2.2.2.1 _ rfl) rfl
                    have q5280 : f 49 = (Value.bool (decide ((shlI 1 (wu64 (a0.Doors.length : Int))) ≤ x12))) := vt (hA437.2.2.2.2.2.2.2.2.2.2.2.2.2.2.2.1 _ rfl) rfl
                    refine opg_plain rfl rfl (op_pick_f (c := decide (x12 < 0)) (b := (Value.bool (decide ((shlI 1 (wu64 (a0.Doors.length : Int))) ≤ x12)))) rfl q5270 hc16 q5280 ?_)
                    refine ⟨_, _, rfl, PH.Le.refl _, ?_, ?_⟩
                    · exact rfl
                    · exact I468
                  · intro vs452 f w464 S457 X438 le457 hA438 hK452 hI453
                    have I469 : Inv w464 S457 (X438) := hI453
                    have q5281 : f 34 = (Value.slice z4 m4 k4) := vt (hA438.1 _ rfl) rfl
                    have q5282 : f 35 = (Value.int .i64 ((i1 : Int))) := vt (hA438.2.1 _ rfl) rfl
                    have q5283 : f 36 = (elemPtr (Value.slice z4 m4 k4) ((i1 : Int)) (Enc.sz Int)) := vt (hA438.2.2.1 _ rfl) rfl
                    have q5284 : f 37 = (Value.int .i64 (x12)) := vt (hA438.2.2.2.1 _ rfl) rfl
                    have q5285 : f 38 = (Value.bool (decide (x12 < 0))) := vt (hA438.2.2.2.2.1 _ rfl) rfl
                    have q5286 : f 39 = (Value.bool (decide (x12 < 0))) := vt (hA438.2.2.2.2.2.1 _ rfl) rfl
                    have q5287 : f 40 = (Value.slice z4 m4 k4) := vt (hA438.2.2.2.2.2.2.1 _ rfl) rfl
                    have q5288 : f 41 = (Value.int .i64 ((i1 : Int))) := vt (hA438.2.2.2.2.2.2.2.1 _ rfl) rfl
                    have q5289 : f 42 = (elemPtr (Value.slice z4 m4 k4) ((i1 : Int)) (Enc.sz Int)) := vt (hA438.2.2.2.2.2.2.2.2.1 _ rfl) rfl
                    have q5290 : f 43 = (Value.int .i64 (x12)) := vt (hA438.2.2.2.2.2.2.2.2.2.1 _ rfl) rfl
                    have q5291 : f 44 = (fieldPtr (Value.pointer (some ⟨g1, 0, none⟩)) 1) := vt (hA438.2.2.2.2.2.2.2.2.2.2.1 _ rfl) rfl
                    have q5292 : f 45 = vs452 11 := (hA438.2.2.2.2.2.2.2.2.2.2.2.1 _ rfl).1 _ rfl
                    have r158 : RV S457 (vs452 11) a0.Doors := (hA438.2.2.2.2.2.2.2.2.2.2.2.1 _ rfl).2
                    obtain ⟨u187, hu187⟩ : ∃ u, vs452 11 = u := ⟨_, rfl⟩
                    rw [hu187] at q5292 r158
                    obtain ⟨z171, m171, k171, e262⟩ := rv_form r158
                    subst e262
                    have q5293 : f 46 = (Value.int .i64 ((a0.Doors.length : Int))) := vt (hA438.2.2.2.2.2.2.2.2.2.2.2.2.1 _ rfl) rfl
                    have q5294 : f 47 = (Value.int .u64 (wu64 (a0.Doors.length : Int))) := vt (hA438.2.2.2.2.2.2.2.2.2.2.2.2.2.1 _ rfl) rfl
                    have q5295 : f 48 = (Value.int .i64 (shlI 1 (wu64 (a0.Doors.length : Int)))) := vt (hA438.2.2.2.2.2.2.2.2.2.2.2.2.2.2.1 _ rfl) rfl
                    have q5296 : f 49 = (Value.bool (decide ((shlI 1 (wu64 (a0.Doors.length : Int))) ≤ x12))) := vt (hA438.2.2.2.2.2.2.2.2.2.2.2.2.2.2.2.1 _ rfl) rfl
                    have q5297 : f 50 = (Value.bool (decide ((shlI 1 (wu64 (a0.Doors.length : Int))) ≤ x12))) := vt (hA438.2.2.2.2.2.2.2.2.2.2.2.2.2.2.2.2.1 _ rfl) rfl
                    refine opg_plain rfl rfl (op_move (v := (Value.bool (decide ((shlI 1 (wu64 (a0.Doors.length : Int))) ≤ x12)))) rfl q5297 ?_)
                    refine ⟨_, _, rfl, PH.Le.refl _, ?_, ?_⟩
                    · exact rfl
                    · exact I469
                  · intro vs453 f w465 S458 X439 le458 hA439 hK453 hI454
                    have I470 : Inv w465 S458 (X439) := hI454
                    have q5298 : f 34 = (Value.slice z4 m4 k4) := vt (hA439.1 _ rfl) rfl
                    have q5299 : f 35 = (Value.int .i64 ((i1 : Int))) := vt (hA439.2.1 _ rfl) rfl
                    have q5300 : f 36 = (elemPtr (Value.slice z4 m4 k4) ((i1 : Int)) (Enc.sz Int)) := vt (hA439.2.2.1 _ rfl) rfl
                    have q5301 : f 37 = (Value.int .i64 (x12)) := vt (hA439.2.2.2.1 _ rfl) rfl
                    have q5302 : f 38 = (Value.bool (decide (x12 < 0))) := vt (hA439.2.2.2.2.1 _ rfl) rfl
                    have q5303 : f 39 = (Value.bool (decide (x12 < 0))) := vt (hA439.2.2.2.2.2.1 _ rfl) rfl
                    have q5304 : f 40 = (Value.slice z4 m4 k4) := vt (hA439.2.2.2.2.2.2.1 _ rfl) rfl
                    have q5305 : f 41 = (Value.int .i64 ((i1 : Int))) := vt (hA439.2.2.2.2.2.2.2.1 _ rfl) rfl
                    have q5306 : f 42 = (elemPtr (Value.slice z4 m4 k4) ((i1 : Int)) (Enc.sz Int)) := vt (hA439.2.2.2.2.2.2.2.2.1 _ rfl) rfl
                    have q5307 : f 43 = (Value.int .i64 (x12)) := vt (hA439.2.2.2.2.2.2.2.2.2.1 _ rfl) rfl
                    have q5308 : f 44 = (fieldPtr (Value.pointer (some ⟨g1, 0, none⟩)) 1) := vt (hA439.2.2.2.2.2.2.2.2.2.2.1 _ rfl) rfl
                    have q5309 : f 45 = vs453 11 := (hA439.2.2.2.2.2.2.2.2.2.2.2.1 _ rfl).1 _ rfl
                    have r159 : RV S458 (vs453 11) a0.Doors := (hA439.2.2.2.2.2.2.2.2.2.2.2.1 _ rfl).2
                    obtain ⟨u188, hu188⟩ : ∃ u, vs453 11 = u := ⟨_, rfl⟩
                    rw [hu188] at q5309 r159
                    obtain ⟨z172, m172, k172, e263⟩ := rv_form r159
                    subst e263
                    have q5310 : f 46 = (Value.int .i64 ((a0.Doors.length : Int))) := vt (hA439.2.2.2.2.2.2.2.2.2.2.2.2.1 _ rfl) rfl
                    have q5311 : f 47 = (Value.int .u64 (wu64 (a0.Doors.length : Int))) := vt (hA439.2.2.2.2.2.2.2.2.2.2.2.2.2.1 _ rfl) rfl
                    have q5312 : f 48 = (Value.int .i64 (shlI 1 (wu64 (a0.Doors.length : Int)))) := vt (hA439.2.2.2.2.2.2.2.2.2.2.2.2.2.2.1 _ rfl) rfl
                    have q5313 : f 49 = (Value.bool (decide ((shlI 1 (wu64 (a0.Doors.length : Int))) ≤ x12))) := vt (hA439.2.2.2.2.2.2.2.2.2.2.2.2.2.2.2.1 _ rfl) rfl
                    have q5314 : f 50 = (Value.bool (decide ((shlI 1 (wu64 (a0.Doors.length : Int))) ≤ x12))) := vt (hA439.2.2.2.2.2.2.2.2.2.2.2.2.2.2.2.2.1 _ rfl) rfl
                    have q5315 : f 51 = (Value.bool (decide ((shlI 1 (wu64 (a0.Doors.length : Int))) ≤ x12))) := vt (hA439.2.2.2.2.2.2.2.2.2.2.2.2.2.2.2.2.2.1 _ rfl) rfl
                    refine opg_taken (c := decide ((shlI 1 (wu64 (a0.Doors.length : Int))) ≤ x12)) rfl rfl rfl rfl q5315 hc17 (op_move (v := (Value.slice z4 m4 k4)) rfl ((hK453 7 (keep_of rfl)).trans e228) ?_)
                    refine ⟨_, _, rfl, PH.Le.refl _, ?_, ?_⟩
                    · exact rfl
                    · exact I470
                  · intro vs454 f w466 S459 X440 le459 hA440 hK454 hI455
                    have I471 : Inv w466 S459 (X440) := hI455
                    have q5316 : f 34 = (Value.slice z4 m4 k4) := vt (hA440.1 _ rfl) rfl
                    have q5317 : f 35 = (Value.int .i64 ((i1 : Int))) := vt (hA440.2.1 _ rfl) rfl
                    have q5318 : f 36 = (elemPtr (Value.slice z4 m4 k4) ((i1 : Int)) (Enc.sz Int)) := vt (hA440.2.2.1 _ rfl) rfl
                    have q5319 : f 37 = (Value.int .i64 (x12)) := vt (hA440.2.2.2.1 _ rfl) rfl
                    have q5320 : f 38 = (Value.bool (decide (x12 < 0))) := vt (hA440.2.2.2.2.1 _ rfl) rfl
                    have q5321 : f 39 = (Value.bool (decide (x12 < 0))) := vt (hA440.2.2.2.2.2.1 _ rfl) rfl
                    have q5322 : f 40 = (Value.slice z4 m4 k4) := vt (hA440.2.2.2.2.2.2.1 _ rfl) rfl
                    have q5323 : f 41 = (Value.int .i64 ((i1 : Int))) := vt (hA440.2.2.2.2.2.2.2.1 _ rfl) rfl
                    have q5324 : f 42 = (elemPtr (Value.slice z4 m4 k4) ((i1 : Int)) (Enc.sz Int)) := vt (hA440.2.2.2.2.2.2.2.2.1 _ rfl) rfl
                    have q5325 : f 43 = (Value.int .i64 (x12)) := vt (hA440.2.2.2.2.2.2.2.2.2.1 _ rfl) rfl
                    have q5326 : f 44 = (fieldPtr (Value.pointer (some ⟨g1, 0, none⟩)) 1) := vt (hA440.2.2.2.2.2.2.2.2.2.2.1 _ rfl) rfl
                    have q5327 : f 45 = vs454 11 := (hA440.2.2.2.2.2.2.2.2.2.2.2.1 _ rfl).1 _ rfl
                    have r160 : RV S459 (vs454 11) a0.Doors := (hA440.2.2.2.2.2.2.2.2.2.2.2.1 _ rfl).2
                    obtain ⟨u189, hu189⟩ : ∃ u, vs454 11 = u := ⟨_, rfl⟩
                    rw [hu189] at q5327 r160
                    obtain ⟨z173, m173, k173, e264⟩ := rv_form r160
                    subst e264
                    have q5328 : f 46 = (Value.int .i64 ((a0.Doors.length : Int))) := vt (hA440.2.2.2.2.2.2.2.2.2.2.2.2.1 _ rfl) rfl
                    have q5329 : f 47 = (Value.int .u64 (wu64 (a0.Doors.length : Int))) := vt (hA440.2.2.2.2.2.2.2.2.2.2.2.2.2.1 _ rfl) rfl
                    have q5330 : f 48 = (Value.int .i64 (shlI 1 (wu64 (a0.Doors.length : Int)))) := vt (hA440.2.2.2.2.2.2.2.2.2.2.2.2.2.2.1 _ rfl) rfl
                    have q5331 : f 49 = (Value.bool (decide ((shlI 1 (wu64 (a0.Doors.length : Int))) ≤ x12))) := vt (hA440.2.2.2.2.2.2.2.2.2.2.2.2.2.2.2.1 _ rfl) rfl
                    have q5332 : f 50 = (Value.bool (decide ((shlI 1 (wu64 (a0.Doors.length : Int))) ≤ x12))) := vt (hA440.2.2.2.2.2.2.2.2.2.2.2.2.2.2.2.2.1 _ rfl) rfl
                    have q5333 : f 51 = (Value.bool (decide ((shlI 1 (wu64 (a0.Doors.length : Int))) ≤ x12))) := vt (hA440.2.2.2.2.2.2.2.2.2.2.2.2.2.2.2.2.2.1 _ rfl) rfl
                    refine opg_taken (c := decide ((shlI 1 (wu64 (a0.Doors.length : Int))) ≤ x12)) rfl rfl rfl rfl q5333 hc17 (op_move (v := (Value.int .i64 ((i1 : Int)))) rfl ((hK454 9 (keep_of rfl)).trans e229) ?_)
                    refine ⟨_, _, rfl, PH.Le.refl _, ?_, ?_⟩
                    · exact rfl
                    · exact I471
                  · intro vs455 f w467 S460 X441 le460 hA441 hK455 hI456
                    have I472 : Inv w467 S460 (Row (α := Int) 3 (Value.slice z4 m4 k4) (x3.1) :: X441) := hI456
                    have q5334 : f 34 = (Value.slice z4 m4 k4) := vt (hA441.1 _ rfl) rfl
                    have q5335 : f 35 = (Value.int .i64 ((i1 : Int))) := vt (hA441.2.1 _ rfl) rfl
                    have q5336 : f 36 = (elemPtr (Value.slice z4 m4 k4) ((i1 : Int)) (Enc.sz Int)) := vt (hA441.2.2.1 _ rfl) rfl
                    have q5337 : f 37 = (Value.int .i64 (x12)) := vt (hA441.2.2.2.1 _ rfl) rfl
                    have q5338 : f 38 = (Value.bool (decide (x12 < 0))) := vt (hA441.2.2.2.2.1 _ rfl) rfl
                    have q5339 : f 39 = (Value.bool (decide (x12 < 0))) := vt (hA441.2.2.2.2.2.1 _ rfl) rfl
                    have q5340 : f 40 = (Value.slice z4 m4 k4) := vt (hA441.2.2.2.2.2.2.1 _ rfl) rfl
                    have q5341 : f 41 = (Value.int .i64 ((i1 : Int))) := vt (hA441.2.2.2.2.2.2.2.1 _ rfl) rfl
                    have q5342 : f 42 = (elemPtr (Value.slice z4 m4 k4) ((i1 : Int)) (Enc.sz Int)) := vt (hA441.2.2.2.2.2.2.2.2.1 _ rfl) rfl
                    have q5343 : f 43 = (Value.int .i64 (x12)) := vt (hA441.2.2.2.2.2.2.2.2.2.1 _ rfl) rfl
                    have q5344 : f 44 = (fieldPtr (Value.pointer (some ⟨g1, 0, none⟩)) 1) := vt (hA441.2.2.2.2.2.2.2.2.2.2.1 _ rfl) rfl
                    have q5345 : f 45 = vs455 11 := (hA441.2.2.2.2.2.2.2.2.2.2.2.1 _ rfl).1 _ rfl
                    have r161 : RV S460 (vs455 11) a0.Doors := (hA441.2.2.2.2.2.2.2.2.2.2.2.1 _ rfl).2
                    obtain ⟨u190, hu190⟩ : ∃ u, vs455 11 = u := ⟨_, rfl⟩
                    rw [hu190] at q5345 r161
                    obtain ⟨z174, m174, k174, e265⟩ := rv_form r161
                    subst e265
                    have q5346 : f 46 = (Value.int .i64 ((a0.Doors.length : Int))) := vt (hA441.2.2.2.2.2.2.2.2.2.2.2.2.1 _ rfl) rfl
                    have q5347 : f 47 = (Value.int .u64 (wu64 (a0.Doors.length : Int))) := vt (hA441.2.2.2.2.2.2.2.2.2.2.2.2.2.1 _ rfl) rfl
                    have q5348 : f 48 = (Value.int .i64 (shlI 1 (wu64 (a0.Doors.length : Int)))) := vt (hA441.2.2.2.2.2.2.2.2.2.2.2.2.2.2.1 _ rfl) rfl
                    have q5349 : f 49 = (Value.bool (decide ((shlI 1 (wu64 (a0.Doors.length : Int))) ≤ x12))) := vt (hA441.2.2.2.2.2.2.2.2.2.2.2.2.2.2.2.1 _ rfl) rfl
                    have q5350 : f 50 = (Value.bool (decide ((shlI 1 (wu64 (a0.Doors.length : Int))) ≤ x12))) := vt (hA441.2.2.2.2.2.2.2.2.2.2.2.2.2.2.2.2.1 _ rfl) rfl
                    have q5351 : f 51 = (Value.bool (decide ((shlI 1 (wu64 (a0.Doors.length : Int))) ≤ x12))) := vt (hA441.2.2.2.2.2.2.2.2.2.2.2.2.2.2.2.2.2.1 _ rfl) rfl
                    have q5352 : f 52 = (Value.slice z4 m4 k4) := vt (hA441.2.2.2.2.2.2.2.2.2.2.2.2.2.2.2.2.2.2.1 _ rfl) rfl
                    have q5353 : f 53 = (Value.int .i64 ((i1 : Int))) := vt (hA441.2.2.2.2.2.2.2.2.2.2.2.2.2.2.2.2.2.2.2.1 _ rfl) rfl
                    refine opg_taken (c := decide ((shlI 1 (wu64 (a0.Doors.length : Int))) ≤ x12)) rfl rfl rfl rfl q5351 hc17 (op_indexAddr_src (v := (Value.slice z4 m4 k4)) (i := (i1 : Int)) (e := x12) rfl Try.underlying34 sh3 q5352 (Inv.rowSrc (I472.nth 0 rfl)) q5353 hx12 ?_)
                    refine ⟨_, _, rfl, PH.Le.refl _, ?_, ?_⟩
                    · exact rfl
                    · exact I472
                  · intro vs456 f w468 S461 X442 le461 hA442 hK456 hI457
                    have I473 : Inv w468 S461 (Row (α := Int) 3 (Value.slice z4 m4 k4) (x3.1) :: X442) := hI457
                    have q5354 : f 34 = (Value.slice z4 m4 k4) := vt (hA442.1 _ rfl) rfl
                    have q5355 : f 35 = (Value.int .i64 ((i1 : Int))) := vt (hA442.2.1 _ rfl) rfl
                    have q5356 : f 36 = (elemPtr (Value.slice z4 m4 k4) ((i1 : Int)) (Enc.sz Int)) := vt (hA442.2.2.1 _ rfl) rfl
                    have q5357 : f 37 = (Value.int .i64 (x12)) := vt (hA442.2.2.2.1 _ rfl) rfl
                    have q5358 : f 38 = (Value.bool (decide (x12 < 0))) := vt (hA442.2.2.2.2.1 _ rfl) rfl
                    have q5359 : f 39 = (Value.bool (decide (x12 < 0))) := vt (hA442.2.2.2.2.2.1 _ rfl) rfl
                    have q5360 : f 40 = (Value.slice z4 m4 k4) := vt (hA442.2.2.2.2.2.2.1 _ rfl) rfl
                    have q5361 : f 41 = (Value.int .i64 ((i1 : Int))) := vt (hA442.2.2.2.2.2.2.2.1 _ rfl) rfl
                    have q5362 : f 42 = (elemPtr (Value.slice z4 m4 k4) ((i1 : Int)) (Enc.sz Int)) := vt (hA442.2.2.2.2.2.2.2.2.1 _ rfl) rfl
                    have q5363 : f 43 = (Value.int .i64 (x12)) := vt (hA442.2.2.2.2.2.2.2.2.2.1 _ rfl) rfl
                    have q5364 : f 44 = (fieldPtr (Value.pointer (some ⟨g1, 0, none⟩)) 1) := vt (hA442.2.2.2.2.2.2.2.2.2.2.1 _ rfl) rfl
                    have q5365 : f 45 = vs456 11 := (hA442.2.2.2.2.2.2.2.2.2.2.2.1 _ rfl).1 _ rfl
                    have r162 : RV S461 (vs456 11) a0.Doors := (hA442.2.2.2.2.2.2.2.2.2.2.2.1 _ rfl).2
                    obtain ⟨u191, hu191⟩ : ∃ u, vs456 11 = u := ⟨_, rfl⟩
                    rw [hu191] at q5365 r162
                    obtain ⟨z175, m175, k175, e266⟩ := rv_form r162
                    subst e266
                    have q5366 : f 46 = (Value.int .i64 ((a0.Doors.length : Int))) := vt (hA442.2.2.2.2.2.2.2.2.2.2.2.2.1 _ rfl) rfl
                    have q5367 : f 47 = (Value.int .u64 (wu64 (a0.Doors.length : Int))) := vt (hA442.2.2.2.2.2.2.2.2.2.2.2.2.2.1 _ rfl) rfl
                    have q5368 : f 48 = (Value.int .i64 (shlI 1 (wu64 (a0.Doors.length : Int)))) := vt (hA442.2.2.2.2.2.2.2.2.2.2.2.2.2.2.1 _ rfl) rfl
                    have q5369 : f 49 = (Value.bool (decide ((shlI 1 (wu64 (a0.Doors.length : Int))) ≤ x12))) := vt (hA442.2.2.2.2.2.2.2.2.2.2.2.2.2.2.2.1 _ rfl) rfl
                    have q5370 : f 50 = (Value.bool (decide ((shlI 1 (wu64 (a0.Doors.length : Int))) ≤ x12))) := vt (hA442.2.2.2.2.2.2.2.2.2.2.2.2.2.2.2.2.1 _ rfl) rfl
                    have q5371 : f 51 = (Value.bool (decide ((shlI 1 (wu64 (a0.Doors.length : Int))) ≤ x12))) := vt (hA442.2.2.2.2.2.2.2.2.2.2.2.2.2.2.2.2.2.1 _ rfl) rfl
                    have q5372 : f 52 = (Value.slice z4 m4 k4) := vt (hA442.2.2.2.2.2.2.2.2.2.2.2.2.2.2.2.2.2.2.1 _ rfl) rfl
                    have q5373 : f 53 = (Value.int .i64 ((i1 : Int))) := vt (hA442.2.2.2.2.2.2.2.2.2.2.2.2.2.2.2.2.2.2.2.1 _ rfl) rfl
                    have q5374 : f 54 = (elemPtr (Value.slice z4 m4 k4) ((i1 : Int)) (Enc.sz Int)) := vt (hA442.2.2.2.2.2.2.2.2.2.2.2.2.2.2.2.2.2.2.2.2.1 _ rfl) rfl
                    refine opg_taken (c := decide ((shlI 1 (wu64 (a0.Doors.length : Int))) ≤ x12)) rfl rfl rfl rfl q5371 hc17 (op_load_int (v := (elemPtr (Value.slice z4 m4 k4) ((i1 : Int)) (Enc.sz Int))) (e := x12) rfl sh3 q5374 ((I473.nth 0 rfl).rowElem hx12) ?_)
                    refine ⟨_, _, rfl, PH.Le.refl _, ?_, ?_⟩
                    · exact rfl
                    · exact I473
                  · intro vs457 f w469 S462 X443 le462 hA443 hK457 hI458
                    have I474 : Inv w469 S462 (X443) := hI458
                    have q5375 : f 34 = (Value.slice z4 m4 k4) := vt (hA443.1 _ rfl) rfl
                    have q5376 : f 35 = (Value.int .i64 ((i1 : Int))) := vt (hA443.2.1 _ rfl) rfl
                    have q5377 : f 36 = (elemPtr (Value.slice z4 m4 k4) ((i1 : Int)) (Enc.sz Int)) := vt (hA443.2.2.1 _ rfl) rfl
                    have q5378 : f 37 = (Value.int .i64 (x12)) := vt (hA443.2.2.2.1 _ rfl) rfl
                    have q5379 : f 38 = (Value.bool (decide (x12 < 0))) := vt (hA443.2.2.2.2.1 _ rfl) rfl
                    have q5380 : f 39 = (Value.bool (decide (x12 < 0))) := vt (hA443.2.2.2.2.2.1 _ rfl) rfl
                    have q5381 : f 40 = (Value.slice z4 m4 k4) := vt (hA443.2.2.2.2.2.2.1 _ rfl) rfl
                    have q5382 : f 41 = (Value.int .i64 ((i1 : Int))) := vt (hA443.2.2.2.2.2.2.2.1 _ rfl) rfl
                    have q5383 : f 42 = (elemPtr (Value.slice z4 m4 k4) ((i1 : Int)) (Enc.sz Int)) := vt (hA443.2.2.2.2.2.2.2.2.1 _ rfl) rfl
                    have q5384 : f 43 = (Value.int .i64 (x12)) := vt (hA443.2.2.2.2.2.2.2.2.2.1 _ rfl) rfl
                    have q5385 : f 44 = (fieldPtr (Value.pointer (some ⟨g1, 0, none⟩)) 1) := vt (hA443.2.2.2.2.2.2.2.2.2.2.1 _ rfl) rfl
                    have q5386 : f 45 = vs457 11 := (hA443.2.2.2.2.2.2.2.2.2.2.2.1 _ rfl).1 _ rfl
                    have r163 : RV S462 (vs457 11) a0.Doors := (hA443.2.2.2.2.2.2.2.2.2.2.2.1 _ rfl).2
                    obtain ⟨u192, hu192⟩ : ∃ u, vs457 11 = u := ⟨_, rfl⟩
                    rw [hu192] at q5386 r163
                    obtain ⟨z176, m176, k176, e267⟩ := rv_form r163
                    subst e267
                    have q5387 : f 46 = (Value.int .i64 ((a0.Doors.length : Int))) := vt (hA443.2.2.2.2.2.2.2.2.2.2.2.2.1 _ rfl) rfl
                    have q5388 : f 47 = (Value.int .u64 (wu64 (a0.Doors.length : Int))) := vt (hA443.2.2.2.2.2.2.2.2.2.2.2.2.2.1 _ rfl) rfl
                    have q5389 : f 48 = (Value.int .i64 (shlI 1 (wu64 (a0.Doors.length : Int)))) := vt (hA443.2.2.2.2.2.2.2.2.2.2.2.2.2.2.1 _ rfl) rfl
                    have q5390 : f 49 = (Value.bool (decide ((shlI 1 (wu64 (a0.Doors.length : Int))) ≤ x12))) := vt (hA443.2.2.2.2.2.2.2.2.2.2.2.2.2.2.2.1 _ rfl) rfl
                    have q5391 : f 50 = (Value.bool (decide ((shlI 1 (wu64 (a0.Doors.length : Int))) ≤ x12))) := vt (hA443.2.2.2.2.2.2.2.2.2.2.2.2.2.2.2.2.1 _ rfl) rfl
                    have q5392 : f 51 = (Value.bool (decide ((shlI 1 (wu64 (a0.Doors.length : Int))) ≤ x12))) := vt (hA443.2.2.2.2.2.2.2.2.2.2.2.2.2.2.2.2.2.1 _ rfl) rfl
                    have q5393 : f 52 = (Value.slice z4 m4 k4) := vt (hA443.2.2.2.2.2.2.2.2.2.2.2.2.2.2.2.2.2.2.1 _ rfl) rfl
                    have q5394 : f 53 = (Value.int .i64 ((i1 : Int))) := vt (hA443.2.2.2.2.2.2.2.2.2.2.2.2.2.2.2.2.2.2.2.1 _ rfl) rfl
                    have q5395 : f 54 = (elemPtr (Value.slice z4 m4 k4) ((i1 : Int)) (Enc.sz Int)) := vt (hA443.2.2.2.2.2.2.2.2.2.2.2.2.2.2.2.2.2.2.2.2.1 _ rfl) rfl
                    have q5396 : f 55 = (Value.int .i64 (x12)) := vt (hA443.2.2.2.2.2.2.2.2.2.2.2.2.2.2.2.2.2.2.2.2.2.1 _ rfl) rfl
                    refine opg_taken (c := decide ((shlI 1 (wu64 (a0.Doors.length : Int))) ≤ x12)) rfl rfl rfl rfl q5392 hc17 (op_gtr (a := x12) (b := 0) rfl q5396 rfl ?_)
                    refine ⟨_, _, rfl, PH.Le.refl _, ?_, ?_⟩
                    · exact rfl
                    · exact I474
                  · intro vs458 f w470 S463 X444 le463 hA444 hK458 hI459
                    have I475 : Inv w470 S463 (X444) := hI459
                    have q5397 : f 34 = (Value.slice z4 m4 k4) := vt (hA444.1 _ rfl) rfl
                    have q5398 : f 35 = (Value.int .i64 ((i1 : Int))) := vt (hA444.2.1 _ rfl) rfl
                    have q5399 : f 36 = (elemPtr (Value.slice z4 m4 k4) ((i1 : Int)) (Enc.sz Int)) := vt (hA444.2.2.1 _ rfl) rfl
                    have q5400 : f 37 = (Value.int .i64 (x12)) := vt (hA444.2.2.2.1 _ rfl) rfl
                    have q5401 : f 38 = (Value.bool (decide (x12 < 0))) := vt (hA444.2.2.2.2.1 _ rfl) rfl
                    have q5402 : f 39 = (Value.bool (decide (x12 < 0))) := vt (hA444.2.2.2.2.2.1 _ rfl) rfl
                    have q5403 : f 40 = (Value.slice z4 m4 k4) := vt (hA444.2.2.2.2.2.2.1 _ rfl) rfl
                    have q5404 : f 41 = (Value.int .i64 ((i1 : Int))) := vt (hA444.2.2.2.2.2.2.2.1 _ rfl) rfl
                    have q5405 : f 42 = (elemPtr (Value.slice z4 m4 k4) ((i1 : Int)) (Enc.sz Int)) := vt (hA444.2.2.2.2.2.2.2.2.1 _ rfl) rfl
                    have q5406 : f 43 = (Value.int .i64 (x12)) := vt (hA444.2.2.2.2.2.2.2.2.2.1 _ rfl) rfl
                    have q5407 : f 44 = (fieldPtr (Value.pointer (some ⟨g1, 0, none⟩)) 1) := vt (hA444.2.2.2.2.2.2.2.2.2.2.1 _ rfl) rfl
                    have q5408 : f 45 = vs458 11 := (hA444.2.2.2.2.2.2.2.2.2.2.2.1 _ rfl).1 _ rfl
                    have r164 : RV S463 (vs458 11) a0.Doors := (hA444.2.2.2.2.2.2.2.2.2.2.2.1 _ rfl).2
                    obtain ⟨u193, hu193⟩ : ∃ u, vs458 11 = u := ⟨_, rfl⟩
                    rw [hu193] at q5408 r164
                    obtain ⟨z177, m177, k177, e268⟩ := rv_form r164
                    subst e268
                    have q5409 : f 46 = (Value.int .i64 ((a0.Doors.length : Int))) := vt (hA444.2.2.2.2.2.2.2.2.2.2.2.2.1 _ rfl) rfl
                    have q5410 : f 47 = (Value.int .u64 (wu64 (a0.Doors.length : Int))) := vt (hA444.2.2.2.2.2.2.2.2.2.2.2.2.2.1 _ rfl) rfl
                    have q5411 : f 48 = (Value.int .i64 (shlI 1 (wu64 (a0.Doors.length : Int)))) := vt (hA444.2.2.2.2.2.2.2.2.2.2.2.2.2.2.1 _ rfl) rfl
                    have q5412 : f 49 = (Value.bool (decide ((shlI 1 (wu64 (a0.Doors.length : Int))) ≤ x12))) := vt (hA444.2.2.2.2.2.2.2.2.2.2.2.2.2.2.2.1 _ rfl) rfl
                    have q5413 : f 50 = (Value.bool (decide ((shlI 1 (wu64 (a0.Doors.length : Int))) ≤ x12))) := vt (hA444.2.2.2.2.2.2.2.2.2.2.2.2.2.2.2.2.1 _ rfl) rfl
                    have q5414 : f 51 = (Value.bool (decide ((shlI 1 (wu64 (a0.Doors.length : Int))) ≤ x12))) := vt (hA444.2.2.2.2.2.2.2.2.2.2.2.2.2.2.2.2.2.1 _ rfl) rfl
                    have q5415 : f 52 = (Value.slice z4 m4 k4) := vt (hA444.2.2.2.2.2.2.2.2.2.2.2.2.2.2.2.2.2.2.1 _ rfl) rfl
                    have q5416 : f 53 = (Value.int .i64 ((i1 : Int))) := vt (hA444.2.2.2.2.2.2.2.2.2.2.2.2.2.2.2.2.2.2.2.1 _ rfl) rfl
                    have q5417 : f 54 = (elemPtr (Value.slice z4 m4 k4) ((i1 : Int)) (Enc.sz Int)) := vt (hA444.2.2.2.2.2.2.2.2.2.2.2.2.2.2.2.2.2.2.2.2.1 _ rfl) rfl
                    have q5418 : f 55 = (Value.int .i64 (x12)) := vt (hA444.2.2.2.2.2.2.2.2.2.2.2.2.2.2.2.2.2.2.2.2.2.1 _ rfl) rfl
                    have q5419 : f 56 = (Value.bool (decide (0 < x12))) := vt (hA444.2.2.2.2.2.2.2.2.2.2.2.2.2.2.2.2.2.2.2.2.2.2.1 _ rfl) rfl
                    refine opg_taken (c := decide ((shlI 1 (wu64 (a0.Doors.length : Int))) ≤ x12)) rfl rfl rfl rfl q5414 hc17 (op_move (v := (Value.bool (decide (0 < x12)))) rfl q5419 ?_)
                    refine ⟨_, _, rfl, PH.Le.refl _, ?_, ?_⟩
                    · exact rfl
                    · exact I475
                  · intro vs459 f w471 S464 X445 le464 hA445 hK459 hI460
                    have I476 : Inv w471 S464 (X445) := hI460
                    have q5420 : f 52 = (Value.slice z4 m4 k4) := vt (hA445.2.2.2.2.2.2.2.2.2.2.2.2.2.2.2.2.2.2.1 _ rfl) rfl
                    have q5421 : f 53 = (Value.int .i64 ((i1 : Int))) := vt (hA445.2.2.2.2.2.2.2.2.2.2.2.2.2.2.2.2.2.2.2.1 _ rfl) rfl
                    have q5422 : f 54 = (elemPtr (Value.slice z4 m4 k4) ((i1 : Int)) (Enc.sz Int)) := vt (hA445.2.2.2.2.2.2.2.2.2.2.2.2.2.2.2.2.2.2.2.2.1 _ rfl) rfl
                    have q5423 : f 55 = (Value.int .i64 (x12)) := vt (hA445.2.2.2.2.2.2.2.2.2.2.2.2.2.2.2.2.2.2.2.2.2.1 _ rfl) rfl
                    have q5424 : f 56 = (Value.bool (decide (0 < x12))) := vt (hA445.2.2.2.2.2.2.2.2.2.2.2.2.2.2.2.2.2.2.2.2.2.2.1 _ rfl) rfl
                    have q5425 : f 57 = (Value.bool (decide (0 < x12))) := vt (hA445.2.2.2.2.2.2.2.2.2.2.2.2.2.2.2.2.2.2.2.2.2.2.2.1 _ rfl) rfl
                    refine opg_taken (c := decide (0 < x12)) rfl rfl rfl rfl q5425 hc18 (op_move (v := (Value.int .i64 ((i1 : Int)))) rfl ((hK459 9 (keep_of rfl)).trans e229) ?_)
                    refine ⟨_, _, rfl, PH.Le.refl _, ?_, ?_⟩
                    · exact rfl
                    · exact I476
                  · intro vs460 f w472 S465 X446 le465 hA446 hK460 hI461
                    have I477 : Inv w472 S465 (X446) := hI461
                    have q5426 : f 52 = (Value.slice z4 m4 k4) := vt (hA446.2.2.2.2.2.2.2.2.2.2.2.2.2.2.2.2.2.2.1 _ rfl) rfl
                    have q5427 : f 53 = (Value.int .i64 ((i1 : Int))) := vt (hA446.2.2.2.2.2.2.2.2.2.2.2.2.2.2.2.2.2.2.2.1 _ rfl) rfl
                    have q5428 : f 54 = (elemPtr (Value.slice z4 m4 k4) ((i1 : Int)) (Enc.sz Int)) := vt (hA446.2.2.2.2.2.2.2.2.2.2.2.2.2.2.2.2.2.2.2.2.1 _ rfl) rfl
                    have q5429 : f 55 = (Value.int .i64 (x12)) := vt (hA446.2.2.2.2.2.2.2.2.2.2.2.2.2.2.2.2.2.2.2.2.2.1 _ rfl) rfl
                    have q5430 : f 56 = (Value.bool (decide (0 < x12))) := vt (hA446.2.2.2.2.2.2.2.2.2.2.2.2.2.2.2.2.2.2.2.2.2.2.1 _ rfl) rfl
                    have q5431 : f 57 = (Value.bool (decide (0 < x12))) := vt (hA446.2.2.2.2.2.2.2.2.2.2.2.2.2.2.2.2.2.2.2.2.2.2.2.1 _ rfl) rfl
                    refine opg_taken (c := decide (0 < x12)) rfl rfl rfl rfl q5431 hc18 (op_move (v := (Value.slice z2 m2 k2)) rfl ((hK460 2 (keep_of rfl)).trans e226) ?_)
                    refine ⟨_, _, rfl, PH.Le.refl _, ?_, ?_⟩
                    · exact rfl
                    · exact I477
                  · intro vs461 f w473 S466 X447 le466 hA447 hK461 hI462
                    have I478 : Inv w473 S466 (X447) := hI462
                    have q5432 : f 52 = (Value.slice z4 m4 k4) := vt (hA447.2.2.2.2.2.2.2.2.2.2.2.2.2.2.2.2.2.2.1 _ rfl) rfl
                    have q5433 : f 53 = (Value.int .i64 ((i1 : Int))) := vt (hA447.2.2.2.2.2.2.2.2.2.2.2.2.2.2.2.2.2.2.2.1 _ rfl) rfl
                    have q5434 : f 54 = (elemPtr (Value.slice z4 m4 k4) ((i1 : Int)) (Enc.sz Int)) := vt (hA447.2.2.2.2.2.2.2.2.2.2.2.2.2.2.2.2.2.2.2.2.1 _ rfl) rfl
                    have q5435 : f 55 = (Value.int .i64 (x12)) := vt (hA447.2.2.2.2.2.2.2.2.2.2.2.2.2.2.2.2.2.2.2.2.2.1 _ rfl) rfl
                    have q5436 : f 56 = (Value.bool (decide (0 < x12))) := vt (hA447.2.2.2.2.2.2.2.2.2.2.2.2.2.2.2.2.2.2.2.2.2.2.1 _ rfl) rfl
                    have q5437 : f 57 = (Value.bool (decide (0 < x12))) := vt (hA447.2.2.2.2.2.2.2.2.2.2.2.2.2.2.2.2.2.2.2.2.2.2.2.1 _ rfl) rfl
                    have q5438 : f 58 = (Value.int .i64 ((i1 : Int))) := vt (hA447.2.2.2.2.2.2.2.2.2.2.2.2.2.2.2.2.2.2.2.2.2.2.2.2.1 _ rfl) rfl
                    have q5439 : f 59 = (Value.slice z2 m2 k2) := vt (hA447.2.2.2.2.2.2.2.2.2.2.2.2.2.2.2.2.2.2.2.2.2.2.2.2.2.1 _ rfl) rfl
                    refine opg_taken (c := decide (0 < x12)) rfl rfl rfl rfl q5437 hc18 (op_call_v (vs := [(Value.int .i64 ((i1 : Int))), (Value.slice z2 m2 k2)]) (r := (Value.bool (x13))) rfl ca33 rfl (args2 q5438 q5439) I478 (fun Fr_ hF_ => F33_ok hF_ (h2_.mono (((le1.trans le2).trans le377).trans le466)) hx13) (fun w474 I479 => ?_))
                    refine ⟨_, _, rfl, PH.Le.refl _, ?_, ?_⟩
                    · exact rfl
                    · exact I479
                  · intro vs462 f w475 S467 X448 le467 hA448 hK462 hI463
                    have I480 : Inv w475 S467 (X448) := hI463
                    have q5440 : f 52 = (Value.slice z4 m4 k4) := vt (hA448.2.2.2.2.2.2.2.2.2.2.2.2.2.2.2.2.2.2.1 _ rfl) rfl
                    have q5441 : f 53 = (Value.int .i64 ((i1 : Int))) := vt (hA448.2.2.2.2.2.2.2.2.2.2.2.2.2.2.2.2.2.2.2.1 _ rfl) rfl
                    have q5442 : f 54 = (elemPtr (Value.slice z4 m4 k4) ((i1 : Int)) (Enc.sz Int)) := vt (hA448.2.2.2.2.2.2.2.2.2.2.2.2.2.2.2.2.2.2.2.2.1 _ rfl) rfl
                    have q5443 : f 55 = (Value.int .i64 (x12)) := vt (hA448.2.2.2.2.2.2.2.2.2.2.2.2.2.2.2.2.2.2.2.2.2.1 _ rfl) rfl
                    have q5444 : f 56 = (Value.bool (decide (0 < x12))) := vt (hA448.2.2.2.2.2.2.2.2.2.2.2.2.2.2.2.2.2.2.2.2.2.2.1 _ rfl) rfl
                    have q5445 : f 57 = (Value.bool (decide (0 < x12))) := vt (hA448.2.2.2.2.2.2.2.2.2.2.2.2.2.2.2.2.2.2.2.2.2.2.2.1 _ rfl) rfl
                    have q5446 : f 58 = (Value.int .i64 ((i1 : Int))) := vt (hA448.2.2.2.2.2.2.2.2.2.2.2.2.2.2.2.2.2.2.2.2.2.2.2.2.1 _ rfl) rfl
                    have q5447 : f 59 = (Value.slice z2 m2 k2) := vt (hA448.2.2.2.2.2.2.2.2.2.2.2.2.2.2.2.2.2.2.2.2.2.2.2.2.2.1 _ rfl) rfl
                    have q5448 : f 60 = (Value.bool (x13)) := vt (hA448.2.2.2.2.2.2.2.2.2.2.2.2.2.2.2.2.2.2.2.2.2.2.2.2.2.2.1 _ rfl) rfl
                    refine opg_taken (c := decide (0 < x12)) rfl rfl rfl rfl q5445 hc18 (op_not (b := x13) rfl q5448 ?_)
                    refine ⟨_, _, rfl, PH.Le.refl _, ?_, ?_⟩
                    · exact rfl
                    · exact I480
                  · intro vs463 f w476 S468 X449 le468 hA449 hK463 hI464
                    have I481 : Inv w476 S468 (X449) := hI464
                    have q5449 : f 34 = (Value.slice z4 m4 k4) := vt (hA449.1 _ rfl) rfl
                    have q5450 : f 35 = (Value.int .i64 ((i1 : Int))) := vt (hA449.2.1 _ rfl) rfl
                    have q5451 : f 36 = (elemPtr (Value.slice z4 m4 k4) ((i1 : Int)) (Enc.sz Int)) := vt (hA449.2.2.1 _ rfl) rfl
                    have q5452 : f 37 = (Value.int .i64 (x12)) := vt (hA449.2.2.2.1 _ rfl) rfl
                    have q5453 : f 38 = (Value.bool (decide (x12 < 0))) := vt (hA449.2.2.2.2.1 _ rfl) rfl
                    have q5454 : f 39 = (Value.bool (decide (x12 < 0))) := vt (hA449.2.2.2.2.2.1 _ rfl) rfl
                    have q5455 : f 40 = (Value.slice z4 m4 k4) := vt (hA449.2.2.2.2.2.2.1 _ rfl) rfl
                    have q5456 : f 41 = (Value.int .i64 ((i1 : Int))) := vt (hA449.2.2.2.2.2.2.2.1 _ rfl) rfl
                    have q5457 : f 42 = (elemPtr (Value.slice z4 m4 k4) ((i1 : Int)) (Enc.sz Int)) := vt (hA449.2.2.2.2.2.2.2.2.1 _ rfl) rfl
                    have q5458 : f 43 = (Value.int .i64 (x12)) := vt (hA449.2.2.2.2.2.2.2.2.2.1 _ rfl) rfl
                    have q5459 : f 44 = (fieldPtr (Value.pointer (some ⟨g1, 0, none⟩)) 1) := vt (hA449.2.2.2.2.2.2.2.2.2.2.1 _ rfl) rfl
                    have q5460 : f 45 = vs463 11 := (hA449.2.2.2.2.2.2.2.2.2.2.2.1 _ rfl).1 _ rfl
                    have r165 : RV S468 (vs463 11) a0.Doors := (hA449.2.2.2.2.2.2.2.2.2.2.2.1 _ rfl).2
                    obtain ⟨u194, hu194⟩ : ∃ u, vs463 11 = u := ⟨_, rfl⟩
                    rw [hu194] at q5460 r165
                    obtain ⟨z178, m178, k178, e269⟩ := rv_form r165
                    subst e269
                    have q5461 : f 46 = (Value.int .i64 ((a0.Doors.length : Int))) := vt (hA449.2.2.2.2.2.2.2.2.2.2.2.2.1 _ rfl) rfl
                    have q5462 : f 47 = (Value.int .u64 (wu64 (a0.Doors.length : Int))) := vt (hA449.2.2.2.2.2.2.2.2.2.2.2.2.2.1 _ rfl) rfl
                    have q5463 : f 48 = (Value.int .i64 (shlI 1 (wu64 (a0.Doors.length : Int)))) := vt (hA449.2.2.2.2.2.2.2.2.2.2.2.2.2.2.1 _ rfl) rfl
                    have q5464 : f 49 = (Value.bool (decide ((shlI 1 (wu64 (a0.Doors.length : Int))) ≤ x12))) := vt (hA449.2.2.2.2.2.2.2.2.2.2.2.2.2.2.2.1 _ rfl) rfl
                    have q5465 : f 50 = (Value.bool (decide ((shlI 1 (wu64 (a0.Doors.length : Int))) ≤ x12))) := vt (hA449.2.2.2.2.2.2.2.2.2.2.2.2.2.2.2.2.1 _ rfl) rfl
                    have q5466 : f 51 = (Value.bool (decide ((shlI 1 (wu64 (a0.Doors.length : Int))) ≤ x12))) := vt (hA449.2.2.2.2.2.2.2.2.2.2.2.2.2.2.2.2.2.1 _ rfl) rfl
                    have q5467 : f 52 = (Value.slice z4 m4 k4) := vt (hA449.2.2.2.2.2.2.2.2.2.2.2.2.2.2.2.2.2.2.1 _ rfl) rfl
                    have q5468 : f 53 = (Value.int .i64 ((i1 : Int))) := vt (hA449.2.2.2.2.2.2.2.2.2.2.2.2.2.2.2.2.2.2.2.1 _ rfl) rfl
                    have q5469 : f 54 = (elemPtr (Value.slice z4 m4 k4) ((i1 : Int)) (Enc.sz Int)) := vt (hA449.2.2.2.2.2.2.2.2.2.2.2.2.2.2.2.2.2.2.2.2.1 _ rfl) rfl
                    have q5470 : f 55 = (Value.int .i64 (x12)) := vt (hA449.2.2.2.2.2.2.2.2.2.2.2.2.2.2.2.2.2.2.2.2.2.1 _ rfl) rfl
                    have q5471 : f 56 = (Value.bool (decide (0 < x12))) := vt (hA449.2.2.2.2.2.2.2.2.2.2.2.2.2.2.2.2.2.2.2.2.2.2.1 _ rfl) rfl
                    have q5472 : f 57 = (Value.bool (decide (0 < x12))) := vt (hA449.2.2.2.2.2.2.2.2.2.2.2.2.2.2.2.2.2.2.2.2.2.2.2.1 _ rfl) rfl
                    have q5473 : f 58 = (Value.int .i64 ((i1 : Int))) := vt (hA449.2.2.2.2.2.2.2.2.2.2.2.2.2.2.2.2.2.2.2.2.2.2.2.2.1 _ rfl) rfl
                    have q5474 : f 59 = (Value.slice z2 m2 k2) := vt (hA449.2.2.2.2.2.2.2.2.2.2.2.2.2.2.2.2.2.2.2.2.2.2.2.2.2.1 _ rfl) rfl
                    have q5475 : f 60 = (Value.bool (x13)) := vt (hA449.2.2.2.2.2.2.2.2.2.2.2.2.2.2.2.2.2.2.2.2.2.2.2.2.2.2.1 _ rfl) rfl
                    have q5476 : f 61 = (Value.bool (!x13)) := vt (hA449.2.2.2.2.2.2.2.2.2.2.2.2.2.2.2.2.2.2.2.2.2.2.2.2.2.2.2.1 _ rfl) rfl
                    refine opg_taken (c := decide ((shlI 1 (wu64 (a0.Doors.length : Int))) ≤ x12)) rfl rfl rfl rfl q5466 hc17 (op_pick_t (c := decide (0 < x12)) (a := (Value.bool (!x13))) rfl q5472 hc18 q5476 ?_)
                    refine ⟨_, _, rfl, PH.Le.refl _, ?_, ?_⟩
                    · exact rfl
                    · exact I481
                  · intro vs464 f w477 S469 X450 le469 hA450 hK464 hI465
                    have I482 : Inv w477 S469 (X450) := hI465
                    have q5477 : f 34 = (Value.slice z4 m4 k4) := vt (hA450.1 _ rfl) rfl
                    have q5478 : f 35 = (Value.int .i64 ((i1 : Int))) := vt (hA450.2.1 _ rfl) rfl
                    have q5479 : f 36 = (elemPtr (Value.slice z4 m4 k4) ((i1 : Int)) (Enc.sz Int)) := vt (hA450.2.2.1 _ rfl) rfl
                    have q5480 : f 37 = (Value.int .i64 (x12)) := vt (hA450.2.2.2.1 _ rfl) rfl
                    have q5481 : f 38 = (Value.bool (decide (x12 < 0))) := vt (hA450.2.2.2.2.1 _ rfl) rfl
                    have q5482 : f 39 = (Value.bool (decide (x12 < 0))) := vt (hA450.2.2.2.2.2.1 _ rfl) rfl
                    have q5483 : f 40 = (Value.slice z4 m4 k4) := vt (hA450.2.2.2.2.2.2.1 _ rfl) rfl
                    have q5484 : f 41 = (Value.int .i64 ((i1 : Int))) := vt (hA450.2.2.2.2.2.2.2.1 _ rfl) rfl
                    have q5485 : f 42 = (elemPtr (Value.slice z4 m4 k4) ((i1 : Int)) (Enc.sz Int)) := vt (hA450.2.2.2.2.2.2.2.2.1 _ rfl) rfl
                    have q5486 : f 43 = (Value.int .i64 (x12)) := vt (hA450.2.2.2.2.2.2.2.2.2.1 _ rfl) rfl
                    have q5487 : f 44 = (fieldPtr (Value.pointer (some ⟨g1, 0, none⟩)) 1) := vt (hA450.2.2.2.2.2.2.2.2.2.2.1 _ rfl) rfl
                    have q5488 : f 45 = vs464 11 := (hA450.2.2.2.2.2.2.2.2.2.2.2.1 _ rfl).1 _ rfl
                    have r166 : RV S469 (vs464 11) a0.Doors := (hA450.2.2.2.2.2.2.2.2.2.2.2.1 _ rfl).2
                    obtain ⟨u195, hu195⟩ : ∃ u, vs464 11 = u := ⟨_, rfl⟩
                    rw [hu195] at q5488 r166
                    obtain ⟨z179, m179, k179, e270⟩ := rv_form r166
                    subst e270
                    have q5489 : f 46 = (Value.int .i64 ((a0.Doors.length : Int))) := vt (hA450.2.2.2.2.2.2.2.2.2.2.2.2.1 _ rfl) rfl
                    have q5490 : f 47 = (Value.int .u64 (wu64 (a0.Doors.length : Int))) := vt (hA450.2.2.2.2.2.2.2.2.2.2.2.2.2.1 _ rfl) rfl
                    have q5491 : f 48 = (Value.int .i64 (shlI 1 (wu64 (a0.Doors.length : Int)))) := vt (hA450.2.2.2.2.2.2.2.2.2.2.2.2.2.2.1 _ rfl) rfl
                    have q5492 : f 49 = (Value.bool (decide ((shlI 1 (wu64 (a0.Doors.length : Int))) ≤ x12))) := vt (hA450.2.2.2.2.2.2.2.2.2.2.2.2.2.2.2.1 _ rfl) rfl
                    have q5493 : f 50 = (Value.bool (decide ((shlI 1 (wu64 (a0.Doors.length : Int))) ≤ x12))) := vt (hA450.2.2.2.2.2.2.2.2.2.2.2.2.2.2.2.2.1 _ rfl) rfl
                    have q5494 : f 51 = (Value.bool (decide ((shlI 1 (wu64 (a0.Doors.length : Int))) ≤ x12))) := vt (hA450.2.2.2.2.2.2.2.2.2.2.2.2.2.2.2.2.2.1 _ rfl) rfl
                    have q5495 : f 52 = (Value.slice z4 m4 k4) := vt (hA450.2.2.2.2.2.2.2.2.2.2.2.2.2.2.2.2.2.2.1 _ rfl) rfl
                    have q5496 : f 53 = (Value.int .i64 ((i1 : Int))) := vt (hA450.2.2.2.2.2.2.2.2.2.2.2.2.2.2.2.2.2.2.2.1 _ rfl) rfl
                    have q5497 : f 54 = (elemPtr (Value.slice z4 m4 k4) ((i1 : Int)) (Enc.sz Int)) := vt (hA450.2.2.2.2.2.2.2.2.2.2.2.2.2.2.2.2.2.2.2.2.1 _ rfl) rfl
                    have q5498 : f 55 = (Value.int .i64 (x12)) := vt (hA450.2.2.2.2.2.2.2.2.2.2.2.2.2.2.2.2.2.2.2.2.2.1 _ rfl) rfl
                    have q5499 : f 56 = (Value.bool (decide (0 < x12))) := vt (hA450.2.2.2.2.2.2.2.2.2.2.2.2.2.2.2.2.2.2.2.2.2.2.1 _ rfl) rfl
                    have q5500 : f 57 = (Value.bool (decide (0 < x12))) := vt (hA450.2.2.2.2.2.2.2.2.2.2.2.2.2.2.2.2.2.2.2.2.2.2.2.1 _ rfl) rfl
                    have q5501 : f 58 = (Value.int .i64 ((i1 : Int))) := vt (hA450.2.2.2.2.2.2.2.2.2.2.2.2.2.2.2.2.2.2.2.2.2.2.2.2.1 _ rfl) rfl
                    have q5502 : f 59 = (Value.slice z2 m2 k2) := vt (hA450.2.2.2.2.2.2.2.2.2.2.2.2.2.2.2.2.2.2.2.2.2.2.2.2.2.1 _ rfl) rfl
                    have q5503 : f 60 = (Value.bool (x13)) := vt (hA450.2.2.2.2.2.2.2.2.2.2.2.2.2.2.2.2.2.2.2.2.2.2.2.2.2.2.1 _ rfl) rfl
                    have q5504 : f 61 = (Value.bool (!x13)) := vt (hA450.2.2.2.2.2.2.2.2.2.2.2.2.2.2.2.2.2.2.2.2.2.2.2.2.2.2.2.1 _ rfl) rfl
                    have q5505 : f 62 = (Value.bool (!x13)) := vt (hA450.2.2.2.2.2.2.2.2.2.2.2.2.2.2.2.2.2.2.2.2.2.2.2.2.2.2.2.2.1 _ rfl) rfl
                    refine opg_plain rfl rfl (op_pick_f (c := decide ((shlI 1 (wu64 (a0.Doors.length : Int))) ≤ x12)) (b := (Value.bool (!x13))) rfl q5494 hc17 q5505 ?_)
                    refine ⟨_, _, rfl, PH.Le.refl _, ?_, ?_⟩
                    · exact rfl
                    · exact I482
                  · intro vs465 f w478 S470 le470 hF15 hK465 hI466
                    have e271 : f 1 = (Value.int .i64 (a1)) := (hK465 1 (keep_all rfl)).trans e225
                    have e272 : f 2 = (Value.slice z2 m2 k2) := (hK465 2 (keep_all rfl)).trans e226
                    have e273 : f 3 = (Value.pointer (some ⟨g1, 0, none⟩)) := (hK465 3 (keep_all rfl)).trans e227
                    have e274 : f 7 = (Value.slice z4 m4 k4) := (hK465 7 (keep_all rfl)).trans e228
                    have e275 : f 9 = (Value.int .i64 ((i1 : Int))) := (hK465 9 (keep_all rfl)).trans e229
                    have I483 : Inv w478 S470 (Row (α := Int) 3 (Value.slice z4 m4 k4) (x3.1) :: Fr) := hI466
                    have q5506 : f 34 = (Value.slice z4 m4 k4) := vt (hF15.1 _ rfl) rfl
                    have q5507 : f 35 = (Value.int .i64 ((i1 : Int))) := vt (hF15.2.1 _ rfl) rfl
                    have q5508 : f 36 = (elemPtr (Value.slice z4 m4 k4) ((i1 : Int)) (Enc.sz Int)) := vt (hF15.2.2.1 _ rfl) rfl
                    have q5509 : f 37 = (Value.int .i64 (x12)) := vt (hF15.2.2.2.1 _ rfl) rfl
                    have q5510 : f 38 = (Value.bool (decide (x12 < 0))) := vt (hF15.2.2.2.2.1 _ rfl) rfl
                    have q5511 : f 39 = (Value.bool (decide (x12 < 0))) := vt (hF15.2.2.2.2.2.1 _ rfl) rfl
                    have q5512 : f 40 = (Value.slice z4 m4 k4) := vt (hF15.2.2.2.2.2.2.1 _ rfl) rfl
                    have q5513 : f 41 = (Value.int .i64 ((i1 : Int))) := vt (hF15.2.2.2.2.2.2.2.1 _ rfl) rfl
                    have q5514 : f 42 = (elemPtr (Value.slice z4 m4 k4) ((i1 : Int)) (Enc.sz Int)) := vt (hF15.2.2.2.2.2.2.2.2.1 _ rfl) rfl
                    have q5515 : f 43 = (Value.int .i64 (x12)) := vt (hF15.2.2.2.2.2.2.2.2.2.1 _ rfl) rfl
                    have q5516 : f 44 = (fieldPtr (Value.pointer (some ⟨g1, 0, none⟩)) 1) := vt (hF15.2.2.2.2.2.2.2.2.2.2.1 _ rfl) rfl
                    have q5517 : f 45 = vs465 11 := (hF15.2.2.2.2.2.2.2.2.2.2.2.1 _ rfl).1 _ rfl
                    have r167 : RV S470 (vs465 11) a0.Doors := (hF15.2.2.2.2.2.2.2.2.2.2.2.1 _ rfl).2
                    obtain ⟨u196, hu196⟩ : ∃ u, vs465 11 = u := ⟨_, rfl⟩
                    rw [hu196] at q5517 r167
                    obtain ⟨z180, m180, k180, e276⟩ := rv_form r167
                    subst e276
                    have q5518 : f 46 = (Value.int .i64 ((a0.Doors.length : Int))) := vt (hF15.2.2.2.2.2.2.2.2.2.2.2.2.1 _ rfl) rfl
                    have q5519 : f 47 = (Value.int .u64 (wu64 (a0.Doors.length : Int))) := vt (hF15.2.2.2.2.2.2.2.2.2.2.2.2.2.1 _ rfl) rfl
                    have q5520 : f 48 = (Value.int .i64 (shlI 1 (wu64 (a0.Doors.length : Int)))) := vt (hF15.2.2.2.2.2.2.2.2.2.2.2.2.2.2.1 _ rfl) rfl
                    have q5521 : f 49 = (Value.bool (decide ((shlI 1 (wu64 (a0.Doors.length : Int))) ≤ x12))) := vt (hF15.2.2.2.2.2.2.2.2.2.2.2.2.2.2.2.1 _ rfl) rfl
                    have q5522 : f 50 = (Value.bool (decide ((shlI 1 (wu64 (a0.Doors.length : Int))) ≤ x12))) := vt (hF15.2.2.2.2.2.2.2.2.2.2.2.2.2.2.2.2.1 _ rfl) rfl
                    have q5523 : f 51 = (Value.bool (decide ((shlI 1 (wu64 (a0.Doors.length : Int))) ≤ x12))) := vt (hF15.2.2.2.2.2.2.2.2.2.2.2.2.2.2.2.2.2.1 _ rfl) rfl
                    have q5524 : f 52 = (Value.slice z4 m4 k4) := vt (hF15.2.2.2.2.2.2.2.2.2.2.2.2.2.2.2.2.2.2.1 _ rfl) rfl
                    have q5525 : f 53 = (Value.int .i64 ((i1 : Int))) := vt (hF15.2.2.2.2.2.2.2.2.2.2.2.2.2.2.2.2.2.2.2.1 _ rfl) rfl
                    have q5526 : f 54 = (elemPtr (Value.slice z4 m4 k4) ((i1 : Int)) (Enc.sz Int)) := vt (hF15.2.2.2.2.2.2.2.2.2.2.2.2.2.2.2.2.2.2.2.2.1 _ rfl) rfl
                    have q5527 : f 55 = (Value.int .i64 (x12)) := vt (hF15.2.2.2.2.2.2.2.2.2.2.2.2.2.2.2.2.2.2.2.2.2.1 _ rfl) rfl
                    have q5528 : f 56 = (Value.bool (decide (0 < x12))) := vt (hF15.2.2.2.2.2.2.2.2.2.2.2.2.2.2.2.2.2.2.2.2.2.2.1 _ rfl) rfl
                    have q5529 : f 57 = (Value.bool (decide (0 < x12))) := vt (hF15.2.2.2.2.2.2.2.2.2.2.2.2.2.2.2.2.2.2.2.2.2.2.2.1 _ rfl) rfl
                    have q5530 : f 58 = (Value.int .i64 ((i1 : Int))) := vt (hF15.2.2.2.2.2.2.2.2.2.2.2.2.2.2.2.2.2.2.2.2.2.2.2.2.1 _ rfl) rfl
                    have q5531 : f 59 = (Value.slice z2 m2 k2) := vt (hF15.2.2.2.2.2.2.2.2.2.2.2.2.2.2.2.2.2.2.2.2.2.2.2.2.2.1 _ rfl) rfl
                    have q5532 : f 60 = (Value.bool (x13)) := vt (hF15.2.2.2.2.2.2.2.2.2.2.2.2.2.2.2.2.2.2.2.2.2.2.2.2.2.2.1 _ rfl) rfl
                    have q5533 : f 61 = (Value.bool (!x13)) := vt (hF15.2.2.2.2.2.2.2.2.2.2.2.2.2.2.2.2.2.2.2.2.2.2.2.2.2.2.2.1 _ rfl) rfl
                    have q5534 : f 62 = (Value.bool (!x13)) := vt (hF15.2.2.2.2.2.2.2.2.2.2.2.2.2.2.2.2.2.2.2.2.2.2.2.2.2.2.2.2.1 _ rfl) rfl
                    have q5535 : f 63 = (Value.bool (!x13)) := vt (hF15.2.2.2.2.2.2.2.2.2.2.2.2.2.2.2.2.2.2.2.2.2.2.2.2.2.2.2.2.2.1 _ rfl) rfl
                    rcases ifs h1 with ⟨hc19, h1⟩ | ⟨hc19, h1⟩
                    · refine wp_cond_t (b := !x13) q5535 hc19 ?_
                      refine wp_seq' ?_
                      refine wp_region' ?_
                      refine wl_op rfl (op_assign (v := (Value.bool (false))) rfl rfl ?_)
                      refine wl_nil ?_
                      refine wp_ret' ?_
                      obtain rfl := Option.some.inj h1
                      obtain rfl := (hout1 _ rfl)
                      have h2 := h
                      obtain rfl := Option.some.inj h2
                      exact ⟨(Value.bool (false)), (res1 rfl rfl), _, [], (((le1.trans le2).trans le377).trans le470), (I483).drop, rfl, rfl⟩
                    · refine wp_cond_f (b := !x13) q5535 hc19 ?_
                      refine wp_skip' ?_
                      refine wp_region' ?_
                      refine wl_op rfl (op_move (v := (Value.int .i64 ((i1 : Int)))) rfl e275 ?_)
                      refine wl_op rfl (op_add (a := (i1 : Int)) (b := 1) rfl rfl rfl ?_)
                      refine wl_op rfl (op_assign (v := (Value.int .i64 (w64 ((i1 : Int) + 1)))) rfl rfl ?_)
                      refine wl_nil ?_
                      obtain rfl := Option.some.inj h1
                      exact ⟨_, rfl, _, (le377.trans le470), I483, e271, e272, e273, e274, (idx_next hlt1 (cnt_le hx11))⟩
                · refine wp_draw (sps := [⟨some 34, [], [0], fun vs_ T_ => fr0 vs_ 0 = (Value.slice z4 m4 k4), [], [], [], fun _ h_ => h_⟩, ⟨some 35, [], [1], fun vs_ T_ => fr0 vs_ 0 = (Value.int .i64 ((i1 : Int))), [], [], [], fun _ h_ => h_⟩, ⟨some 36, [0, 1], [2], fun vs_ T_ => fr0 vs_ 0 = (elemPtr (Value.slice z4 m4 k4) ((i1 : Int)) (Enc.sz Int)), [0], [], [], fun _ h_ => h_⟩, ⟨some 37, [0, 1, 2], [3], fun vs_ T_ => fr0 vs_ 0 = (Value.int .i64 (x12)), [0], [], [], fun _ h_ => h_⟩, ⟨some 38, [0, 1, 2, 3], [4], fun vs_ T_ => fr0 vs_ 0 = (Value.bool (decide (x12 < 0))), [], [], [], fun _ h_ => h_⟩, ⟨some 39, [0, 1, 2, 3, 4], [5], fun vs_ T_ => fr0 vs_ 0 = (Value.bool (decide (x12 < 0))), [], [], [], fun _ h_ => h_⟩, ⟨some 40, [0, 1, 2, 3, 4, 5], [6], fun vs_ T_ => fr0 vs_ 0 = (Value.slice z4 m4 k4), [], [], [], fun _ h_ => h_⟩, ⟨some 41, [0, 1, 2, 3, 4, 5], [7], fun vs_ T_ => fr0 vs_ 0 = (Value.int .i64 ((i1 : Int))), [], [], [], fun _ h_ => h_⟩, ⟨some 42, [0, 1, 2, 3, 4, 5, 6, 7], [8], fun vs_ T_ => fr0 vs_ 0 = (elemPtr (Value.slice z4 m4 k4) ((i1 : Int)) (Enc.sz Int)), [0], [], [], fun _ h_ => h_⟩, ⟨some 43, [0, 1, 2, 3, 4, 5, 6, 7, 8], [9], fun vs_ T_ => fr0 vs_ 0 = (Value.int .i64 (x12)), [0], [], [], fun _ h_ => h_⟩, ⟨some 44, [0, 1, 2, 3, 4, 5], [10], fun vs_ T_ => fr0 vs_ 0 = (fieldPtr (Value.pointer (some ⟨g1, 0, none⟩)) 1), [], [], [], fun _ h_ => h_⟩, ⟨some 45, [0, 1, 2, 3, 4, 5, 10], [11], fun vs_ T_ => RV T_ (fr0 vs_ 0) a0.Doors, [], [], [], fun hle_ h_ => h_.mono hle_⟩, ⟨some 46, [0, 1, 2, 3, 4, 5, 10, 11], [12], fun vs_ T_ => fr0 vs_ 0 = (Value.int .i64 ((a0.Doors.length : Int))), [], [], [], fun _ h_ => h_⟩, ⟨some 47, [0, 1, 2, 3, 4, 5, 10, 11, 12], [13], fun vs_ T_ => fr0 vs_ 0 = (Value.int .u64 (wu64 (a0.Doors.length : Int))), [], [], [], fun _ h_ => h_⟩, ⟨some 48, [0, 1, 2, 3, 4, 5, 10, 11, 12, 13], [14], fun vs_ T_ => fr0 vs_ 0 = (Value.int .i64 (shlI 1 (wu64 (a0.Doors.length : Int)))), [], [], [], fun _ h_ => h_⟩, ⟨some 49, [0, 1, 2, 3, 4, 5, 6, 7, 8, 9, 10, 11, 12, 13, 14], [15], fun vs_ T_ => fr0 vs_ 0 = (Value.bool (decide ((shlI 1 (wu64 (a0.Doors.length : Int))) ≤ x12))), [], [], [], fun _ h_ => h_⟩, ⟨some 50, [0, 1, 2, 3, 4, 5, 6, 7, 8, 9, 10, 11, 12, 13, 14, 15], [16], fun vs_ T_ => fr0 vs_ 0 = (Value.bool (decide ((shlI 1 (wu64 (a0.Doors.length : Int))) ≤ x12))), [], [], [], fun _ h_ => h_⟩, ⟨some 51, [0, 1, 2, 3, 4, 5, 6, 7, 8, 9, 10, 11, 12, 13, 14, 15, 16], [17], fun vs_ T_ => fr0 vs_ 0 = (Value.bool (decide ((shlI 1 (wu64 (a0.Doors.length : Int))) ≤ x12))), [], [], [], fun _ h_ => h_⟩, ⟨some 52, [0, 1, 2, 3, 4, 5, 6, 7, 8, 9, 10, 11, 12, 13, 14, 15, 16, 17], [18], fun vs_ T_ => fr0 vs_ 0 = (Value.slice z4 m4 k4), [], [], [], fun _ h_ => h_⟩, ⟨some 53, [0, 1, 2, 3, 4, 5, 6, 7, 8, 9, 10, 11, 12, 13, 14, 15, 16, 17], [19], fun vs_ T_ => fr0 vs_ 0 = (Value.int .i64 ((i1 : Int))), [], [], [], fun _ h_ => h_⟩, ⟨some 54, [0, 1, 2, 3, 4, 5, 6, 7, 8, 9, 10, 11, 12, 13, 14, 15, 16, 17, 18, 19], [20], fun vs_ T_ => fr0 vs_ 0 = (elemPtr (Value.slice z4 m4 k4) ((i1 : Int)) (Enc.sz Int)), [0], [], [], fun _ h_ => h_⟩, ⟨some 55, [0, 1, 2, 3, 4, 5, 6, 7, 8, 9, 10, 11, 12, 13, 14, 15, 16, 17, 18, 19, 20], [21], fun vs_ T_ => fr0 vs_ 0 = (Value.int .i64 (x12)), [0], [], [], fun _ h_ => h_⟩, ⟨some 56, [0, 1, 2, 3, 4, 5, 6, 7, 8, 9, 10, 11, 12, 13, 14, 15, 16, 17, 18, 19, 20, 21], [22], fun vs_ T_ => fr0 vs_ 0 = (Value.bool (decide (0 < x12))), [], [], [], fun _ h_ => h_⟩, ⟨some 57, [0, 1, 2, 3, 4, 5, 6, 7, 8, 9, 10, 11, 12, 13, 14, 15, 16, 17, 18, 19, 20, 21, 22], [23], fun vs_ T_ => fr0 vs_ 0 = (Value.bool (decide (0 < x12))), [], [], [], fun _ h_ => h_⟩, ⟨some 58, [0, 1, 2, 3, 4, 5, 6, 7, 8, 9, 10, 11, 12, 13, 14, 15, 16, 17, 18, 19, 20, 21, 22, 23], [24], fun vs_ T_ => fr0 vs_ 0 = undef, [], [], [], fun _ h_ => h_⟩, ⟨some 59, [0, 1, 2, 3, 4, 5, 6, 7, 8, 9, 10, 11, 12, 13, 14, 15, 16, 17, 18, 19, 20, 21, 22, 23], [25], fun vs_ T_ => fr0 vs_ 0 = undef, [], [], [], fun _ h_ => h_⟩, ⟨some 60, [0, 1, 2, 3, 4, 5, 6, 7, 8, 9, 10, 11, 12, 13, 14, 15, 16, 17, 18, 19, 20, 21, 22, 23, 24, 25], [26], fun vs_ T_ => fr0 vs_ 0 = undef, [], [], [], fun _ h_ => h_⟩, ⟨some 61, [0, 1, 2, 3, 4, 5, 6, 7, 8, 9, 10, 11, 12, 13, 14, 15, 16, 17, 18, 19, 20, 21, 22, 23, 24, 25, 26], [27], fun vs_ T_ => fr0 vs_ 0 = undef, [], [], [], fun _ h_ => h_⟩, ⟨some 62, [0, 1, 2, 3, 4, 5, 6, 7, 8, 9, 10, 11, 12, 13, 14, 15, 16, 17, 18, 19, 20, 21, 22, 23, 24, 25, 26, 27], [28], fun vs_ T_ => fr0 vs_ 0 = (Value.bool (false)), [], [], [], fun _ h_ => h_⟩, ⟨some 63, [0, 1, 2, 3, 4, 5, 6, 7, 8, 9, 10, 11, 12, 13, 14, 15, 16, 17, 18, 19, 20, 21, 22, 23, 24, 25, 26, 27, 28], [29], fun vs_ T_ => fr0 vs_ 0 = (Value.bool (false)), [], [], [], fun _ h_ => h_⟩]) (tks := [⟨none, none, [], fun vs_ => Row (α := Int) 3 (Value.slice z4 m4 k4) (x3.1)⟩]) (O := Fr) rfl (by kernel_rfl) I388 ⟨?_, ?_, ?_, ?_, ?_, ?_, ?_, ?_, ?_, ?_, ?_, ?_, ?_, ?_, ?_, ?_, ?_, ?_, ?_, ?_, ?_, ?_, ?_, ?_, ?_, ?_, ?_, ?_, ?_, ?_, trivial⟩ ?_
                  · intro vs466 f w479 S471 X451 le471 hA451 hK466 hI467
                    have I484 : Inv w479 S471 (X451) := hI467
                    refine opg_plain rfl rfl (op_move (v := (Value.slice z4 m4 k4)) rfl ((hK466 7 (keep_of rfl)).trans e228) ?_)
                    refine ⟨_, _, rfl, PH.Le.refl _, ?_, ?_⟩
                    · exact rfl
                    · exact I484
                  · intro vs467 f w480 S472 X452 le472 hA452 hK467 hI468
                    have I485 : Inv w480 S472 (X452) := hI468
                    refine opg_plain rfl rfl (op_move (v := (Value.int .i64 ((i1 : Int)))) rfl ((hK467 9 (keep_of rfl)).trans e229) ?_)
                    refine ⟨_, _, rfl, PH.Le.refl _, ?_, ?_⟩
                    · exact rfl
                    · exact I485
                  · intro vs468 f w481 S473 X453 le473 hA453 hK468 hI469
                    have I486 : Inv w481 S473 (Row (α := Int) 3 (Value.slice z4 m4 k4) (x3.1) :: X453) := hI469
                    have q5536 : f 34 = (Value.slice z4 m4 k4) := vt (hA453.1 _ rfl) rfl
                    have q5537 : f 35 = (Value.int .i64 ((i1 : Int))) := vt (hA453.2.1 _ rfl) rfl
                    refine opg_plain rfl rfl (op_indexAddr_src (v := (Value.slice z4 m4 k4)) (i := (i1 : Int)) (e := x12) rfl Try.underlying34 sh3 q5536 (Inv.rowSrc (I486.nth 0 rfl)) q5537 hx12 ?_)
                    refine ⟨_, _, rfl, PH.Le.refl _, ?_, ?_⟩
                    · exact rfl
                    · exact I486
                  · intro vs469 f w482 S474 X454 le474 hA454 hK469 hI470
                    have I487 : Inv w482 S474 (Row (α := Int) 3 (Value.slice z4 m4 k4) (x3.1) :: X454) := hI470
                    have q5538 : f 34 = (Value.slice z4 m4 k4) := vt (hA454.1 _ rfl) rfl
                    have q5539 : f 35 = (Value.int .i64 ((i1 : Int))) := vt (hA454.2.1 _ rfl) rfl
                    have q5540 : f 36 = (elemPtr (Value.slice z4 m4 k4) ((i1 : Int)) (Enc.sz Int)) := vt (hA454.2.2.1 _ rfl) rfl
                    refine opg_plain rfl rfl (op_load_int (v := (elemPtr (Value.slice z4 m4 k4) ((i1 : Int)) (Enc.sz Int))) (e := x12) rfl sh3 q5540 ((I487.nth 0 rfl).rowElem hx12) ?_)
                    refine ⟨_, _, rfl, PH.Le.refl _, ?_, ?_⟩
                    · exact rfl
                    · exact I487
                  · intro vs470 f w483 S475 X455 le475 hA455 hK470 hI471
                    have I488 : Inv w483 S475 (X455) := hI471
                    have q5541 : f 34 = (Value.slice z4 m4 k4) := vt (hA455.1 _ rfl) rfl
                    have q5542 : f 35 = (Value.int .i64 ((i1 : Int))) := vt (hA455.2.1 _ rfl) rfl
                    have q5543 : f 36 = (elemPtr (Value.slice z4 m4 k4) ((i1 : Int)) (Enc.sz Int)) := vt (hA455.2.2.1 _ rfl) rfl
                    have q5544 : f 37 = (Value.int .i64 (x12)) := vt (hA455.2.2.2.1 _ rfl) rfl
                    refine opg_plain rfl rfl (op_lss (a := x12) (b := 0) rfl q5544 rfl ?_)
                    refine ⟨_, _, rfl, PH.Le.refl _, ?_, ?_⟩
                    · exact rfl
                    · exact I488
                  · intro vs471 f w484 S476 X456 le476 hA456 hK471 hI472
                    have I489 : Inv w484 S476 (X456) := hI472
                    have q5545 : f 34 = (Value.slice z4 m4 k4) := vt (hA456.1 _ rfl) rfl
                    have q5546 : f 35 = (Value.int .i64 ((i1 : Int))) := vt (hA456.2.1 _ rfl) rfl
                    have q5547 : f 36 = (elemPtr (Value.slice z4 m4 k4) ((i1 : Int)) (Enc.sz Int)) := vt (hA456.2.2.1 _ rfl) rfl
                    have q5548 : f 37 = (Value.int .i64 (x12)) := vt (hA456.2.2.2.1 _ rfl) rfl
                    have q5549 : f 38 = (Value.bool (decide (x12 < 0))) := vt (hA456.2.2.2.2.1 _ rfl) rfl
                    refine opg_plain rfl rfl (op_move (v := (Value.bool (decide (x12 < 0)))) rfl q5549 ?_)
                    refine ⟨_, _, rfl, PH.Le.refl _, ?_, ?_⟩
                    · exact rfl
                    · exact I489
                  · intro vs472 f w485 S477 X457 le477 hA457 hK472 hI473
                    have I490 : Inv w485 S477 (X457) := hI473
                    have q5550 : f 34 = (Value.slice z4 m4 k4) := vt (hA457.1 _ rfl) rfl
                    have q5551 : f 35 = (Value.int .i64 ((i1 : Int))) := vt (hA457.2.1 _ rfl) rfl
                    have q5552 : f 36 = (elemPtr (Value.slice z4 m4 k4) ((i1 : Int)) (Enc.sz Int)) := vt (hA457.2.2.1 _ rfl) rfl
                    have q5553 : f 37 = (Value.int .i64 (x12)) := vt (hA457.2.2.2.1 _ rfl) rfl
                    have q5554 : f 38 = (Value.bool (decide (x12 < 0))) := vt (hA457.2.2.2.2.1 _ rfl) rfl
                    have q5555 : f 39 = (Value.bool (decide (x12 < 0))) := vt (hA457.2.2.2.2.2.1 _ rfl) rfl
                    refine opg_taken (c := decide (x12 < 0)) rfl rfl rfl rfl q5555 hc16 (op_move (v := (Value.slice z4 m4 k4)) rfl ((hK472 7 (keep_of rfl)).trans e228) ?_)
                    refine ⟨_, _, rfl, PH.Le.refl _, ?_, ?_⟩
                    · exact rfl
                    · exact I490
                  · intro vs473 f w486 S478 X458 le478 hA458 hK473 hI474
                    have I491 : Inv w486 S478 (X458) := hI474
                    have q5556 : f 34 = (Value.slice z4 m4 k4) := vt (hA458.1 _ rfl) rfl
                    have q5557 : f 35 = (Value.int .i64 ((i1 : Int))) := vt (hA458.2.1 _ rfl) rfl
                    have q5558 : f 36 = (elemPtr (Value.slice z4 m4 k4) ((i1 : Int)) (Enc.sz Int)) := vt (hA458.2.2.1 _ rfl) rfl
                    have q5559 : f 37 = (Value.int .i64 (x12)) := vt (hA458.2.2.2.1 _ rfl) rfl
                    have q5560 : f 38 = (Value.bool (decide (x12 < 0))) := vt (hA458.2.2.2.2.1 _ rfl) rfl
                    have q5561 : f 39 = (Value.bool (decide (x12 < 0))) := vt (hA458.2.2.2.2.2.1 _ rfl) rfl
                    refine opg_taken (c := decide (x12 < 0)) rfl rfl rfl rfl q5561 hc16 (op_move (v := (Value.int .i64 ((i1 : Int)))) rfl ((hK473 9 (keep_of rfl)).trans e229) ?_)
                    refine ⟨_, _, rfl, PH.Le.refl _, ?_, ?_⟩
                    · exact rfl
                    · exact I491
                  · intro vs474 f w487 S479 X459 le479 hA459 hK474 hI475
                    have I492 : Inv w487 S479 (Row (α := Int) 3 (Value.slice z4 m4 k4) (x3.1) :: X459) := hI475
                    have q5562 : f 34 = (Value.slice z4 m4 k4) := vt (hA459.1 _ rfl) rfl
                    have q5563 : f 35 = (Value.int .i64 ((i1 : Int))) := vt (hA459.2.1 _ rfl) rfl
                    have q5564 : f 36 = (elemPtr (Value.slice z4 m4 k4) ((i1 : Int)) (Enc.sz Int)) := vt (hA459.2.2.1 _ rfl) rfl
                    have q5565 : f 37 = (Value.int .i64 (x12)) := vt (hA459.2.2.2.1 _ rfl) rfl
                    have q5566 : f 38 = (Value.bool (decide (x12 < 0))) := vt (hA459.2.2.2.2.1 _ rfl) rfl
                    have q5567 : f 39 = (Value.bool (decide (x12 < 0))) := vt (hA459.2.2.2.2.2.1 _ rfl) rfl
                    have q5568 : f 40 = (Value.slice z4 m4 k4) := vt (hA459.2.2.2.2.2.2.1 _ rfl) rfl
                    have q5569 : f 41 = (Value.int .i64 ((i1 : Int))) := vt (hA459.2.2.2.2.2.2.2.1 _ rfl) rfl
                    refine opg_taken (c := decide (x12 < 0)) rfl rfl rfl rfl q5567 hc16 (op_indexAddr_src (v := (Value.slice z4 m4 k4)) (i := (i1 : Int)) (e := x12) rfl Try.underlying34 sh3 q5568 (Inv.rowSrc (I492.nth 0 rfl)) q5569 hx12 ?_)
                    refine ⟨_, _, rfl, PH.Le.refl _, ?_, ?_⟩
                    · exact rfl
                    · exact I492
                  · intro vs475 f w488 S480 X460 le480 hA460 hK475 hI476
                    have I493 : Inv w488 S480 (Row (α := Int) 3 (Value.slice z4 m4 k4) (x3.1) :: X460) := hI476
                    have q5570 : f 34 = (Value.slice z4 m4 k4) := vt (hA460.1 _ rfl) rfl
                    have q5571 : f 35 = (Value.int .i64 ((i1 : Int))) := vt (hA460.2.1 _ rfl) rfl
                    have q5572 : f 36 = (elemPtr (Value.slice z4 m4 k4) ((i1 : Int)) (Enc.sz Int)) := vt (hA460.2.2.1 _ rfl) rfl
                    have q5573 : f 37 = (Value.int .i64 (x12)) := vt (hA460.2.2.2.1 _ rfl) rfl
                    have q5574 : f 38 = (Value.bool (decide (x12 < 0))) := vt (hA460.2.2.2.2.1 _ rfl) rfl
                    have q5575 : f 39 = (Value.bool (decide (x12 < 0))) := vt (hA460.2.2.2.2.2.1 _ rfl) rfl
                    have q5576 : f 40 = (Value.slice z4 m4 k4) := vt (hA460.2.2.2.2.2.2.1 _ rfl) rfl
                    have q5577 : f 41 = (Value.int .i64 ((i1 : Int))) := vt (hA460.2.2.2.2.2.2.2.1 _ rfl) rfl
                    have q5578 : f 42 = (elemPtr (Value.slice z4 m4 k4) ((i1 : Int)) (Enc.sz Int)) := vt (hA460.2.2.2.2.2.2.2.2.1 _ rfl) rfl
                    refine opg_taken (c := decide (x12 < 0)) rfl rfl rfl rfl q5575 hc16 (op_load_int (v := (elemPtr (Value.slice z4 m4 k4) ((i1 : Int)) (Enc.sz Int))) (e := x12) rfl sh3 q5578 ((I493.nth 0 rfl).rowElem hx12) ?_)
                    refine ⟨_, _, rfl, PH.Le.refl _, ?_, ?_⟩
                    · exact rfl
                    · exact I493
                  · intro vs476 f w489 S481 X461 le481 hA461 hK476 hI477
                    have I494 : Inv w489 S481 (X461) := hI477
                    have q5579 : f 34 = (Value.slice z4 m4 k4) := vt (hA461.1 _ rfl) rfl
                    have q5580 : f 35 = (Value.int .i64 ((i1 : Int))) := vt (hA461.2.1 _ rfl) rfl
                    have q5581 : f 36 = (elemPtr (Value.slice z4 m4 k4) ((i1 : Int)) (Enc.sz Int)) := vt (hA461.2.2.1 _ rfl) rfl
                    have q5582 : f 37 = (Value.int .i64 (x12)) := vt (hA461.2.2.2.1 _ rfl) rfl
                    have q5583 : f 38 = (Value.bool (decide (x12 < 0))) := vt (hA461.2.2.2.2.1 _ rfl) rfl
                    have q5584 : f 39 = (Value.bool (decide (x12 < 0))) := vt (hA461.2.2.2.2.2.1 _ rfl) rfl
                    refine opg_taken (c := decide (x12 < 0)) rfl rfl rfl rfl q5584 hc16 (op_fieldAddr_t (v := (Value.pointer (some ⟨g1, 0, none⟩))) rfl fa24_1 ((hK476 3 (keep_of rfl)).trans e227) ((p1.mono ((le2.trans le377).trans le481)).at_ I494) ?_)
                    refine ⟨_, _, rfl, PH.Le.refl _, ?_, ?_⟩
                    · exact rfl
                    · exact I494
                  · intro vs477 f w490 S482 X462 le482 hA462 hK477 hI478
                    have I495 : Inv w490 S482 (X462) := hI478
                    have q5585 : f 34 = (Value.slice z4 m4 k4) := vt (hA462.1 _ rfl) rfl
                    have q5586 : f 35 = (Value.int .i64 ((i1 : Int))) := vt (hA462.2.1 _ rfl) rfl
                    have q5587 : f 36 = (elemPtr (Value.slice z4 m4 k4) ((i1 : Int)) (Enc.sz Int)) := vt (hA462.2.2.1 _ rfl) rfl
                    have q5588 : f 37 = (Value.int .i64 (x12)) := vt (hA462.2.2.2.1 _ rfl) rfl
                    have q5589 : f 38 = (Value.bool (decide (x12 < 0))) := vt (hA462.2.2.2.2.1 _ rfl) rfl
                    have q5590 : f 39 = (Value.bool (decide (x12 < 0))) := vt (hA462.2.2.2.2.2.1 _ rfl) rfl
                    have q5591 : f 44 = (fieldPtr (Value.pointer (some ⟨g1, 0, none⟩)) 1) := vt (hA462.2.2.2.2.2.2.1 _ rfl) rfl
                    refine opg_taken (c := decide (x12 < 0)) rfl rfl rfl rfl q5590 hc16 (op_load (v := (fieldPtr (Value.pointer (some ⟨g1, 0, none⟩)) 1)) (e := a0.Doors) rfl sh22 q5591 (((p1.mono ((le2.trans le377).trans le482)).at_ I495).fld Panel.fld1) (fun u198 hu198 => ?_))
                    obtain ⟨z181, m181, k181, e277⟩ := rv_form hu198
                    subst e277
                    refine ⟨_, _, rfl, PH.Le.refl _, ?_, ?_⟩
                    · exact hu198
                    · exact I495
                  · intro vs478 f w491 S483 X463 le483 hA463 hK478 hI479
                    have I496 : Inv w491 S483 (X463) := hI479
                    have q5592 : f 34 = (Value.slice z4 m4 k4) := vt (hA463.1 _ rfl) rfl
                    have q5593 : f 35 = (Value.int .i64 ((i1 : Int))) := vt (hA463.2.1 _ rfl) rfl
                    have q5594 : f 36 = (elemPtr (Value.slice z4 m4 k4) ((i1 : Int)) (Enc.sz Int)) := vt (hA463.2.2.1 _ rfl) rfl
                    have q5595 : f 37 = (Value.int .i64 (x12)) := vt (hA463.2.2.2.1 _ rfl) rfl
                    have q5596 : f 38 = (Value.bool (decide (x12 < 0))) := vt (hA463.2.2.2.2.1 _ rfl) rfl
                    have q5597 : f 39 = (Value.bool (decide (x12 < 0))) := vt (hA463.2.2.2.2.2.1 _ rfl) rfl
                    have q5598 : f 44 = (fieldPtr (Value.pointer (some ⟨g1, 0, none⟩)) 1) := vt (hA463.2.2.2.2.2.2.1 _ rfl) rfl
                    have q5599 : f 45 = vs478 11 := (hA463.2.2.2.2.2.2.2.1 _ rfl).1 _ rfl
                    have r168 : RV S483 (vs478 11) a0.Doors := (hA463.2.2.2.2.2.2.2.1 _ rfl).2
                    obtain ⟨u199, hu199⟩ : ∃ u, vs478 11 = u := ⟨_, rfl⟩
                    rw [hu199] at q5599 r168
                    obtain ⟨z182, m182, k182, e278⟩ := rv_form r168
                    subst e278
                    refine opg_taken (c := decide (x12 < 0)) rfl rfl rfl rfl q5597 hc16 (op_len_rv rfl Try.underlying22 q5599 r168 ?_)
                    refine ⟨_, _, rfl, PH.Le.refl _, ?_, ?_⟩
                    · exact rfl
                    · exact I496
                  · intro vs479 f w492 S484 X464 le484 hA464 hK479 hI480
                    have I497 : Inv w492 S484 (X464) := hI480
                    have q5600 : f 34 = (Value.slice z4 m4 k4) := vt (hA464.1 _ rfl) rfl
                    have q5601 : f 35 = (Value.int .i64 ((i1 : Int))) := vt (hA464.2.1 _ rfl) rfl
                    have q5602 : f 36 = (elemPtr (Value.slice z4 m4 k4) ((i1 : Int)) (Enc.sz Int)) := vt (hA464.2.2.1 _ rfl) rfl
                    have q5603 : f 37 = (Value.int .i64 (x12)) := vt (hA464.2.2.2.1 _ rfl) rfl
                    have q5604 : f 38 = (Value.bool (decide (x12 < 0))) := vt (hA464.2.2.2.2.1 _ rfl) rfl
                    have q5605 : f 39 = (Value.bool (decide (x12 < 0))) := vt (hA464.2.2.2.2.2.1 _ rfl) rfl
                    have q5606 : f 44 = (fieldPtr (Value.pointer (some ⟨g1, 0, none⟩)) 1) := vt (hA464.2.2.2.2.2.2.1 _ rfl) rfl
                    have q5607 : f 45 = vs479 11 := (hA464.2.2.2.2.2.2.2.1 _ rfl).1 _ rfl
                    have r169 : RV S484 (vs479 11) a0.Doors := (hA464.2.2.2.2.2.2.2.1 _ rfl).2
                    obtain ⟨u200, hu200⟩ : ∃ u, vs479 11 = u := ⟨_, rfl⟩
                    rw [hu200] at q5607 r169
                    obtain ⟨z183, m183, k183, e279⟩ := rv_form r169
                    subst e279
                    have q5608 : f 46 = (Value.int .i64 ((a0.Doors.length : Int))) := vt (hA464.2.2.2.2.2.2.2.2.1 _ rfl) rfl
                    refine opg_taken (c := decide (x12 < 0)) rfl rfl rfl rfl q5605 hc16 (op_toU (a := (a0.Doors.length : Int)) rfl q5608 Try.underlying3 Try.underlying63 ?_)
                    refine ⟨_, _, rfl, PH.Le.refl _, ?_, ?_⟩
                    · exact rfl
                    · exact I497
                  · intro vs480 f w493 S485 X465 le485 hA465 hK480 hI481
                    have I498 : Inv w493 S485 (X465) := hI481
                    have q5609 : f 34 = (Value.slice z4 m4 k4) := vt (hA465.1 _ rfl) rfl
                    have q5610 : f 35 = (Value.int .i64 ((i1 : Int))) := vt (hA465.2.1 _ rfl) rfl
                    have q5611 : f 36 = (elemPtr (Value.slice z4 m4 k4) ((i1 : Int)) (Enc.sz Int)) := vt (hA465.2.2.1 _ rfl) rfl
                    have q5612 : f 37 = (Value.int .i64 (x12)) := vt (hA465.2.2.2.1 _ rfl) rfl
                    have q5613 : f 38 = (Value.bool (decide (x12 < 0))) := vt (hA465.2.2.2.2.1 _ rfl) rfl
                    have q5614 : f 39 = (Value.bool (decide (x12 < 0))) := vt (hA465.2.2.2.2.2.1 _ rfl) rfl
                    have q5615 : f 44 = (fieldPtr (Value.pointer (some ⟨g1, 0, none⟩)) 1) := vt (hA465.2.2.2.2.2.2.1 _ rfl) rfl
                    have q5616 : f 45 = vs480 11 := (hA465.2.2.2.2.2.2.2.1 _ rfl).1 _ rfl
                    have r170 : RV S485 (vs480 11) a0.Doors := (hA465.2.2.2.2.2.2.2.1 _ rfl).2
                    obtain ⟨u201, hu201⟩ : ∃ u, vs480 11 = u := ⟨_, rfl⟩
                    rw [hu201] at q5616 r170
                    obtain ⟨z184, m184, k184, e280⟩ := rv_form r170
                    subst e280
                    have q5617 : f 46 = (Value.int .i64 ((a0.Doors.length : Int))) := vt (hA465.2.2.2.2.2.2.2.2.1 _ rfl) rfl
                    have q5618 : f 47 = (Value.int .u64 (wu64 (a0.Doors.length : Int))) := vt (hA465.2.2.2.2.2.2.2.2.2.1 _ rfl) rfl
                    refine opg_taken (c := decide (x12 < 0)) rfl rfl rfl rfl q5614 hc16 (op_shl (a := 1) (b := wu64 (a0.Doors.length : Int)) rfl rfl q5618 (wu64_nonneg _) ?_)
                    refine ⟨_, _, rfl, PH.Le.refl _, ?_, ?_⟩
                    · exact rfl
                    · exact I498
                  · intro vs481 f w494 S486 X466 le486 hA466 hK481 hI482
                    have I499 : Inv w494 S486 (X466) := hI482
                    have q5619 : f 34 = (Value.slice z4 m4 k4) := vt (hA466.1 _ rfl) rfl
                    have q5620 : f 35 = (Value.int .i64 ((i1 : Int))) := vt (hA466.2.1 _ rfl) rfl
                    have q5621 : f 36 = (elemPtr (Value.slice z4 m4 k4) ((i1 : Int)) (Enc.sz Int)) := vt (hA466.2.2.1 _ rfl) rfl
                    have q5622 : f 37 = (Value.int .i64 (x12)) := vt (hA466.2.2.2.1 _ rfl) rfl
                    have q5623 : f 38 = (Value.bool (decide (x12 < 0))) := vt (hA466.2.2.2.2.1 _ rfl) rfl
                    have q5624 : f 39 = (Value.bool (decide (x12 < 0))) := vt (hA466.2.2.2.2.2.1 _ rfl) rfl
                    have q5625 : f 40 = (Value.slice z4 m4 k4) := vt (hA466.2.2.2.2.2.2.1 _ rfl) rfl
                    have q5626 : f 41 = (Value.int .i64 ((i1 : Int))) := vt (hA466.2.2.2.2.2.2.2.1 _ rfl) rfl
                    have q5627 : f 42 = (elemPtr (Value.slice z4 m4 k4) ((i1 : Int)) (Enc.sz Int)) := vt (hA466.2.2.2.2.2.2.2.2.1 _ rfl) rfl
                    have q5628 : f 43 = (Value.int .i64 (x12)) := vt (hA466.2.2.2.2.2.2.2.2.2.1 _ rfl) rfl
                    have q5629 : f 44 = (fieldPtr (Value.pointer (some ⟨g1, 0, none⟩)) 1) := vt (hA466.2.2.2.2.2.2.2.2.2.2.1 _ rfl) rfl
                    have q5630 : f 45 = vs481 11 := (hA466.2.2.2.2.2.2.2.2.2.2.2.1 _ rfl).1 _ rfl
                    have r171 : RV S486 (vs481 11) a0.Doors := (hA466.2.2.2.2.2.2.2.2.2.2.2.1 _ rfl).2
                    obtain ⟨u202, hu202⟩ : ∃ u, vs481 11 = u := ⟨_, rfl⟩
                    rw [hu202] at q5630 r171
                    obtain ⟨z185, m185, k185, e281⟩ := rv_form r171
                    subst e281
                    have q5631 : f 46 = (Value.int .i64 ((a0.Doors.length : Int))) := vt (hA466.2.2.2.2.2.2.2.2.2.2.2.2.1 _ rfl) rfl
                    have q5632 : f 47 = (Value.int .u64 (wu64 (a0.Doors.length : Int))) := vt (hA466.2.2.2.2.2.2.2.2.2.2.2.2.2.1 _ rfl) rfl
                    have q5633 : f 48 = (Value.int .i64 (shlI 1 (wu64 (a0.Doors.length : Int)))) := vt (hA466.2.2.2.2.2.2.2.2.2.2.2.2.2.2.1 _ rfl) rfl
                    refine opg_taken (c := decide (x12 < 0)) rfl rfl rfl rfl q5624 hc16 (op_geq (a := x12) (b := shlI 1 (wu64 (a0.Doors.length : Int))) rfl q5628 q5633 ?_)
                    refine ⟨_, _, rfl, PH.Le.refl _, ?_, ?_⟩
                    · exact rfl
                    · exact I499
                  · intro vs482 f w495 S487 X467 le487 hA467 hK482 hI483
                    have I500 : Inv w495 S487 (X467) := hI483
                    have q5634 : f 34 = (Value.slice z4 m4 k4) := vt (hA467.1 _ rfl) rfl
                    have q5635 : f 35 = (Value.int .i64 ((i1 : Int))) := vt (hA467.2.1 _ rfl) rfl
                    have q5636 : f 36 = (elemPtr (Value.slice z4 m4 k4) ((i1 : Int)) (Enc.sz Int)) := vt (hA467.2.2.1 _ rfl) rfl
                    have q5637 : f 37 = (Value.int .i64 (x12)) := vt (hA467.2.2.2.1 _ rfl) rfl
                    have q5638 : f 38 = (Value.bool (decide (x12 < 0))) := vt (hA467.2.2.2.2.1 _ rfl) rfl
                    have q5639 : f 39 = (Value.bool (decide (x12 < 0))) := vt (hA467.2.2.2.2.2.1 _ rfl) rfl
                    have q5640 : f 40 = (Value.slice z4 m4 k4) := vt (hA467.2.2.2.2.2.2.1 _ rfl) rfl
                    have q5641 : f 41 = (Value.int .i64 ((i1 : Int))) := vt (hA467.2.2.2.2.2.2.2.1 _ rfl) rfl
                    have q5642 : f 42 = (elemPtr (Value.slice z4 m4 k4) ((i1 : Int)) (Enc.sz Int)) := vt (hA467.2.2.2.2.2.2.2.2.1 _ rfl) rfl
                    have q5643 : f 43 = (Value.int .i64 (x12)) := vt (hA467.2.2.2.2.2.2.2.2.2.1 _ rfl) rfl
                    have q5644 : f 44 = (fieldPtr (Value.pointer (some ⟨g1, 0, none⟩)) 1) := vt (hA467.2.2.2.2.2.2.2.2.2.2.1 _ rfl) rfl
                    have q5645 : f 45 = vs482 11 := (hA467.2.2.2.2.2.2.2.2.2.2.2.1 _ rfl).1 _ rfl
                    have r172 : RV S487 (vs482 11) a0.Doors := (hA467.2.2.2.2.2.2.2.2.2.2.2.1 _ rfl).2
                    obtain ⟨u203, hu203⟩ : ∃ u, vs482 11 = u := ⟨_, rfl⟩
                    rw [hu203] at q5645 r172
                    obtain ⟨z186, m186, k186, e282⟩ := rv_form r172
                    subst e282
                    have q5646 : f 46 = (Value.int .i64 ((a0.Doors.length : Int))) := vt (hA467.2.2.2.2.2.2.2.2.2.2.2.2.1 _ rfl) rfl
                    have q5647 : f 47 = (Value.int .u64 (wu64 (a0.Doors.length : Int))) := vt (hA467.2.2.2.2.2.2.2.2.2.2.2.2.2.1 _ rfl) rfl
                    have q5648 : f 48 = (Value.int .i64 (shlI 1 (wu64 (a0.Doors.length : Int)))) := vt (hA467.2.2.2.2.2.2.2.2.2.2.2.2.2.2.1 _ rfl) rfl
                    have q5649 : f 49 = (Value.bool (decide ((shlI 1 (wu64 (a0.Doors.length : Int))) ≤ x12))) := vt (hA467.2.2.2.2.2.2.2.2.2.2.2.2.2.2.2.1 _ rfl) rfl
                    refine opg_plain rfl rfl (op_pick_f (c := decide (x12 < 0)) (b := (Value.bool (decide ((shlI 1 (wu64 (a0.Doors.length : Int))) ≤ x12)))) rfl q5639 hc16 q5649 ?_)
                    refine ⟨_, _, rfl, PH.Le.refl _, ?_, ?_⟩
                    · exact rfl
                    · exact I500
                  · intro vs483 f w496 S488 X468 le488 hA468 hK483 hI484
                    have I501 : Inv w496 S488 (X468) := hI484
                    have q5650 : f 34 = (Value.slice z4 m4 k4) := vt (hA468.1 _ rfl) rfl
                    have q5651 : f 35 = (Value.int .i64 ((i1 : Int))) := vt (hA468.2.1 _ rfl) rfl
                    have q5652 : f 36 = (elemPtr (Value.slice z4 m4 k4) ((i1 : Int)) (Enc.sz Int)) := vt (hA468.2.2.1 _ rfl) rfl
                    have q5653 : f 37 = (Value.int .i64 (x12)) := vt (hA468.2.2.2.1 _ rfl) rfl
                    have q5654 : f 38 = (Value.bool (decide (x12 < 0))) := vt (hA468.2.2.2.2.1 _ rfl) rfl
                    have q5655 : f 39 = (Value.bool (decide (x12 < 0))) := vt (hA468.2.2.2.2.2.1 _ rfl) rfl
                    have q5656 : f 40 = (Value.slice z4 m4 k4) := vt (hA468.2.2.2.2.2.2.1 _ rfl) rfl
                    have q5657 : f 41 = (Value.int .i64 ((i1 : Int))) := vt (hA468.2.2.2.2.2.2.2.1 _ rfl) rfl
                    have q5658 : f 42 = (elemPtr (Value.slice z4 m4 k4) ((i1 : Int)) (Enc.sz Int)) := vt (hA468.2.2.2.2.2.2.2.2.1 _ rfl) rfl
                    have q5659 : f 43 = (Value.int .i64 (x12)) := vt (hA468.2.2.2.2.2.2.2.2.2.1 _ rfl) rfl
                    have q5660 : f 44 = (fieldPtr (Value.pointer (some ⟨g1, 0, none⟩)) 1) := vt (hA468.2.2.2.2.2.2.2.2.2.2.1 _ rfl) rfl
                    have q5661 : f 45 = vs483 11 := (hA468.2.2.2.2.2.2.2.2.2.2.2.1 _ rfl).1 _ rfl
                    have r173 : RV S488 (vs483 11) a0.Doors := (hA468.2.2.2.2.2.2.2.2.2.2.2.1 _ rfl).2
                    obtain ⟨u204, hu204⟩ : ∃ u, vs483 11 = u := ⟨_, rfl⟩
                    rw [hu204] at q5661 r173
                    obtain ⟨z187, m187, k187, e283⟩ := rv_form r173
                    subst e283
                    have q5662 : f 46 = (Value.int .i64 ((a0.Doors.length : Int))) := vt (hA468.2.2.2.2.2.2.2.2.2.2.2.2.1 _ rfl) rfl
                    have q5663 : f 47 = (Value.int .u64 (wu64 (a0.Doors.length : Int))) := vt (hA468.2.2.2.2.2.2.2.2.2.2.2.2.2.1 _ rfl) rfl
                    have q5664 : f 48 = (Value.int .i64 (shlI 1 (wu64 (a0.Doors.length : Int)))) := vt (hA468.2.2.2.2.2.2.2.2.2.2.2.2.2.2.1 _ rfl) rfl
                    have q5665 : f 49 = (Value.bool (decide ((shlI 1 (wu64 (a0.Doors.length : Int))) ≤ x12))) := vt (hA468.2.2.2.2.2.2.2.2.2.2.2.2.2.2.2.1 _ rfl) rfl
                    have q5666 : f 50 = (Value.bool (decide ((shlI 1 (wu64 (a0.Doors.length : Int))) ≤ x12))) := vt (hA468.2.2.2.2.2.2.2.2.2.2.2.2.2.2.2.2.1 _ rfl) rfl
                    refine opg_plain rfl rfl (op_move (v := (Value.bool (decide ((shlI 1 (wu64 (a0.Doors.length : Int))) ≤ x12)))) rfl q5666 ?_)
                    refine ⟨_, _, rfl, PH.Le.refl _, ?_, ?_⟩
                    · exact rfl
                    · exact I501
                  · intro vs484 f w497 S489 X469 le489 hA469 hK484 hI485
                    have I502 : Inv w497 S489 (X469) := hI485
                    have q5667 : f 34 = (Value.slice z4 m4 k4) := vt (hA469.1 _ rfl) rfl
                    have q5668 : f 35 = (Value.int .i64 ((i1 : Int))) := vt (hA469.2.1 _ rfl) rfl
                    have q5669 : f 36 = (elemPtr (Value.slice z4 m4 k4) ((i1 : Int)) (Enc.sz Int)) := vt (hA469.2.2.1 _ rfl) rfl
                    have q5670 : f 37 = (Value.int .i64 (x12)) := vt (hA469.2.2.2.1 _ rfl) rfl
                    have q5671 : f 38 = (Value.bool (decide (x12 < 0))) := vt (hA469.2.2.2.2.1 _ rfl) rfl
                    have q5672 : f 39 = (Value.bool (decide (x12 < 0))) := vt (hA469.2.2.2.2.2.1 _ rfl) rfl
                    have q5673 : f 40 = (Value.slice z4 m4 k4) := vt (hA469.2.2.2.2.2.2.1 _ rfl) rfl
                    have q5674 : f 41 = (Value.int .i64 ((i1 : Int))) := vt (hA469.2.2.2.2.2.2.2.1 _ rfl) rfl
                    have q5675 : f 42 = (elemPtr (Value.slice z4 m4 k4) ((i1 : Int)) (Enc.sz Int)) := vt (hA469.2.2.2.2.2.2.2.2.1 _ rfl) rfl
                    have q5676 : f 43 = (Value.int .i64 (x12)) := vt (hA469.2.2.2.2.2.2.2.2.2.1 _ rfl) rfl
                    have q5677 : f 44 = (fieldPtr (Value.pointer (some ⟨g1, 0, none⟩)) 1) := vt (hA469.2.2.2.2.2.2.2.2.2.2.1 _ rfl) rfl
                    have q5678 : f 45 = vs484 11 := (hA469.2.2.2.2.2.2.2.2.2.2.2.1 _ rfl).1 _ rfl
                    have r174 : RV S489 (vs484 11) a0.Doors := (hA469.2.2.2.2.2.2.2.2.2.2.2.1 _ rfl).2
                    obtain ⟨u205, hu205⟩ : ∃ u, vs484 11 = u := ⟨_, rfl⟩
                    rw [hu205] at q5678 r174
                    obtain ⟨z188, m188, k188, e284⟩ := rv_form r174
                    subst e284
                    have q5679 : f 46 = (Value.int .i64 ((a0.Doors.length : Int))) := vt (hA469.2.2.2.2.2.2.2.2.2.2.2.2.1 _ rfl) rfl
                    have q5680 : f 47 = (Value.int .u64 (wu64 (a0.Doors.length : Int))) := vt (hA469.2.2.2.2.2.2.2.2.2.2.2.2.2.1 _ rfl) rfl
                    have q5681 : f 48 = (Value.int .i64 (shlI 1 (wu64 (a0.Doors.length : Int)))) := vt (hA469.2.2.2.2.2.2.2.2.2.2.2.2.2.2.1 _ rfl) rfl
                    have q5682 : f 49 = (Value.bool (decide ((shlI 1 (wu64 (a0.Doors.length : Int))) ≤ x12))) := vt (hA469.2.2.2.2.2.2.2.2.2.2.2.2.2.2.2.1 _ rfl) rfl
                    have q5683 : f 50 = (Value.bool (decide ((shlI 1 (wu64 (a0.Doors.length : Int))) ≤ x12))) := vt (hA469.2.2.2.2.2.2.2.2.2.2.2.2.2.2.2.2.1 _ rfl) rfl
                    have q5684 : f 51 = (Value.bool (decide ((shlI 1 (wu64 (a0.Doors.length : Int))) ≤ x12))) := vt (hA469.2.2.2.2.2.2.2.2.2.2.2.2.2.2.2.2.2.1 _ rfl) rfl
                    refine opg_taken (c := decide ((shlI 1 (wu64 (a0.Doors.length : Int))) ≤ x12)) rfl rfl rfl rfl q5684 hc17 (op_move (v := (Value.slice z4 m4 k4)) rfl ((hK484 7 (keep_of rfl)).trans e228) ?_)
                    refine ⟨_, _, rfl, PH.Le.refl _, ?_, ?_⟩
                    · exact rfl
                    · exact I502
                  · intro vs485 f w498 S490 X470 le490 hA470 hK485 hI486
                    have I503 : Inv w498 S490 (X470) := hI486
                    have q5685 : f 34 = (Value.slice z4 m4 k4) := vt (hA470.1 _ rfl) rfl
                    have q5686 : f 35 = (Value.int .i64 ((i1 : Int))) := vt (hA470.2.1 _ rfl) rfl
                    have q5687 : f 36 = (elemPtr (Value.slice z4 m4 k4) ((i1 : Int)) (Enc.sz Int)) := vt (hA470.2.2.1 _ rfl) rfl
                    have q5688 : f 37 = (Value.int .i64 (x12)) := vt (hA470.2.2.2.1 _ rfl) rfl
                    have q5689 : f 38 = (Value.bool (decide (x12 < 0))) := vt (hA470.2.2.2.2.1 _ rfl) rfl
                    have q5690 : f 39 = (Value.bool (decide (x12 < 0))) := vt (hA470.2.2.2.2.2.1 _ rfl) rfl
                    have q5691 : f 40 = (Value.slice z4 m4 k4) := vt (hA470.2.2.2.2.2.2.1 _ rfl) rfl
                    have q5692 : f 41 = (Value.int .i64 ((i1 : Int))) := vt (hA470.2.2.2.2.2.2.2.1 _ rfl) rfl
                    have q5693 : f 42 = (elemPtr (Value.slice z4 m4 k4) ((i1 : Int)) (Enc.sz Int)) := vt (hA470.2.2.2.2.2.2.2.2.1 _ rfl) rfl
                    have q5694 : f 43 = (Value.int .i64 (x12)) := vt (hA470.2.2.2.2.2.2.2.2.2.1 _ rfl) rfl
                    have q5695 : f 44 = (fieldPtr (Value.pointer (some ⟨g1, 0, none⟩)) 1) := vt (hA470.2.2.2.2.2.2.2.2.2.2.1 _ rfl) rfl
                    have q5696 : f 45 = vs485 11 := (hA470.2.2.2.2.2.2.2.2.2.2.2.1 _ rfl).1 _ rfl
                    have r175 : RV S490 (vs485 11) a0.Doors := (hA470.2.2.2.2.2.2.2.2.2.2.2.1 _ rfl).2
                    obtain ⟨u206, hu206⟩ : ∃ u, vs485 11 = u := ⟨_, rfl⟩
                    rw [hu206] at q5696 r175
                    obtain ⟨z189, m189, k189, e285⟩ := rv_form r175
                    subst e285
                    have q5697 : f 46 = (Value.int .i64 ((a0.Doors.length : Int))) := vt (hA470.2.2.2.2.2.2.2.2.2.2.2.2.1 _ rfl) rfl
                    have q5698 : f 47 = (Value.int .u64 (wu64 (a0.Doors.length : Int))) := vt (hA470.2.2.2.2.2.2.2.2.2.2.2.2.2.1 _ rfl) rfl
                    have q5699 : f 48 = (Value.int .i64 (shlI 1 (wu64 (a0.Doors.length : Int)))) := vt (hA470.2.2.2.2.2.2.2.2.2.2.2.2.2.2.1 _ rfl) rfl
                    have q5700 : f 49 = (Value.bool (decide ((shlI 1 (wu64 (a0.Doors.length : Int))) ≤ x12))) := vt (hA470.2.2.2.2.2.2.2.2.2.2.2.2.2.2.2.1 _ rfl) rfl
                    have q5701 : f 50 = (Value.bool (decide ((shlI 1 (wu64 (a0.Doors.length : Int))) ≤ x12))) := vt (hA470.2.2.2.2.2.2.2.2.2.2.2.2.2.2.2.2.1 _ rfl) rfl
                    have q5702 : f 51 = (Value.bool (decide ((shlI 1 (wu64 (a0.Doors.length : Int))) ≤ x12))) := vt (hA470.2.2.2.2.2.2.2.2.2.2.2.2.2.2.2.2.2.1 _ rfl) rfl
                    refine opg_taken (c := decide ((shlI 1 (wu64 (a0.Doors.length : Int))) ≤ x12)) rfl rfl rfl rfl q5702 hc17 (op_move (v := (Value.int .i64 ((i1 : Int)))) rfl ((hK485 9 (keep_of rfl)).trans e229) ?_)
                    refine ⟨_, _, rfl, PH.Le.refl _, ?_, ?_⟩
                    · exact rfl
                    · exact I503
                  · intro vs486 f w499 S491 X471 le491 hA471 hK486 hI487
                    have I504 : Inv w499 S491 (Row (α := Int) 3 (Value.slice z4 m4 k4) (x3.1) :: X471) := hI487
                    have q5703 : f 34 = (Value.slice z4 m4 k4) := vt (hA471.1 _ rfl) rfl
                    have q5704 : f 35 = (Value.int .i64 ((i1 : Int))) := vt (hA471.2.1 _ rfl) rfl
                    have q5705 : f 36 = (elemPtr (Value.slice z4 m4 k4) ((i1 : Int)) (Enc.sz Int)) := vt (hA471.2.2.1 _ rfl) rfl
                    have q5706 : f 37 = (Value.int .i64 (x12)) := vt (hA471.2.2.2.1 _ rfl) rfl
                    have q5707 : f 38 = (Value.bool (decide (x12 < 0))) := vt (hA471.2.2.2.2.1 _ rfl) rfl
                    have q5708 : f 39 = (Value.bool (decide (x12 < 0))) := vt (hA471.2.2.2.2.2.1 _ rfl) rfl
                    have q5709 : f 40 = (Value.slice z4 m4 k4) := vt (hA471.2.2.2.2.2.2.1 _ rfl) rfl
                    have q5710 : f 41 = (Value.int .i64 ((i1 : Int))) := vt (hA471.2.2.2.2.2.2.2.1 _ rfl) rfl
                    have q5711 : f 42 = (elemPtr (Value.slice z4 m4 k4) ((i1 : Int)) (Enc.sz Int)) := vt (hA471.2.2.2.2.2.2.2.2.1 _ rfl) rfl
                    have q5712 : f 43 = (Value.int .i64 (x12)) := vt (hA471.2.2.2.2.2.2.2.2.2.1 _ rfl) rfl
                    have q5713 : f 44 = (fieldPtr (Value.pointer (some ⟨g1, 0, none⟩)) 1) := vt (hA471.2.2.2.2.2.2.2.2.2.2.1 _ rfl) rfl
                    have q5714 : f 45 = vs486 11 := (hA471.2.2.2.2.2.2.2.2.2.2.2.1 _ rfl).1 _ rfl
                    have r176 : RV S491 (vs486 11) a0.Doors := (hA471.2.2.2.2.2.2.2.2.2.2.2.1 _ rfl).2
                    obtain ⟨u207, hu207⟩ : ∃ u, vs486 11 = u := ⟨_, rfl⟩
                    rw [hu207] at q5714 r176
                    obtain ⟨z190, m190, k190, e286⟩ := rv_form r176
                    subst e286
                    have q5715 : f 46 = (Value.int .i64 ((a0.Doors.length : Int))) := vt (hA471.2.2.2.2.2.2.2.2.2.2.2.2.1 _ rfl) rfl
                    have q5716 : f 47 = (Value.int .u64 (wu64 (a0.Doors.length : Int))) := vt (hA471.2.2.2.2.2.2.2.2.2.2.2.2.2.1 _ rfl) rfl
                    have q5717 : f 48 = (Value.int .i64 (shlI 1 (wu64 (a0.Doors.length : Int)))) := vt (hA471.2.2.2.2.2.2.2.2.2.2.2.2.2.2.1 _ rfl) rfl
                    have q5718 : f 49 = (Value.bool (decide ((shlI 1 (wu64 (a0.Doors.length : Int))) ≤ x12))) := vt (hA471.2.2.2.2.2.2.2.2.2.2.2.2.2.2.2.1 _ rfl) rfl
                    have q5719 : f 50 = (Value.bool (decide ((shlI 1 (wu64 (a0.Doors.length : Int))) ≤ x12))) := vt (hA471.2.2.2.2.2.2.2.2.2.2.2.2.2.2.2.2.1 _ rfl) rfl
                    have q5720 : f 51 = (Value.bool (decide ((shlI 1 (wu64 (a0.Doors.length : Int))) ≤ x12))) := vt (hA471.2.2.2.2.2.2.2.2.2.2.2.2.2.2.2.2.2.1 _ rfl) rfl
                    have q5721 : f 52 = (Value.slice z4 m4 k4) := vt (hA471.2.2.2.2.2.2.2.2.2.2.2.2.2.2.2.2.2.2.1 _ rfl) rfl
                    have q5722 : f 53 = (Value.int .i64 ((i1 : Int))) := vt (hA471.2.2.2.2.2.2.2.2.2.2.2.2.2.2.2.2.2.2.2.1 _ rfl) rfl
                    refine opg_taken (c := decide ((shlI 1 (wu64 (a0.Doors.length : Int))) ≤ x12)) rfl rfl rfl rfl q5720 hc17 (op_indexAddr_src (v := (Value.slice z4 m4 k4)) (i := (i1 : Int)) (e := x12) rfl Try.underlying34 sh3 q5721 (Inv.rowSrc (I504.nth 0 rfl)) q5722 hx12 ?_)
                    refine ⟨_, _, rfl, PH.Le.refl _, ?_, ?_⟩
                    · exact rfl
                    · exact I504
                  · intro vs487 f w500 S492 X472 le492 hA472 hK487 hI488
                    have I505 : Inv w500 S492 (Row (α := Int) 3 (Value.slice z4 m4 k4) (x3.1) :: X472) := hI488
                    have q5723 : f 34 = (Value.slice z4 m4 k4) := vt (hA472.1 _ rfl) rfl
                    have q5724 : f 35 = (Value.int .i64 ((i1 : Int))) := vt (hA472.2.1 _ rfl) rfl
                    have q5725 : f 36 = (elemPtr (Value.slice z4 m4 k4) ((i1 : Int)) (Enc.sz Int)) := vt (hA472.2.2.1 _ rfl) rfl
                    have q5726 : f 37 = (Value.int .i64 (x12)) := vt (hA472.2.2.2.1 _ rfl) rfl
                    have q5727 : f 38 = (Value.bool (decide (x12 < 0))) := vt (hA472.2.2.2.2.1 _ rfl) rfl
                    have q5728 : f 39 = (Value.bool (decide (x12 < 0))) := vt (hA472.2.2.2.2.2.1 _ rfl) rfl
                    have q5729 : f 40 = (Value.slice z4 m4 k4) := vt (hA472.2.2.2.2.2.2.1 _ rfl) rfl
                    have q5730 : f 41 = (Value.int .i64 ((i1 : Int))) := vt (hA472.2.2.2.2.2.2.2.1 _ rfl) rfl
                    have q5731 : f 42 = (elemPtr (Value.slice z4 m4 k4) ((i1 : Int)) (Enc.sz Int)) := vt (hA472.2.2.2.2.2.2.2.2.1 _ rfl) rfl
                    have q5732 : f 43 = (Value.int .i64 (x12)) := vt (hA472.2.2.2.2.2.2.2.2.2.1 _ rfl) rfl
                    have q5733 : f 44 = (fieldPtr (Value.pointer (some ⟨g1, 0, none⟩)) 1) := vt (hA472.2.2.2.2.2.2.2.2.2.2.1 _ rfl) rfl
                    have q5734 : f 45 = vs487 11 := (hA472.2.2.2.2.2.2.2.2.2.2.2.1 _ rfl).1 _ rfl
                    have r177 : RV S492 (vs487 11) a0.Doors := (hA472.2.2.2.2.2.2.2.2.2.2.2.1 _ rfl).2
                    obtain ⟨u208, hu208⟩ : ∃ u, vs487 11 = u := ⟨_, rfl⟩
                    rw [hu208] at q5734 r177
                    obtain ⟨z191, m191, k191, e287⟩ := rv_form r177
                    subst e287
                    have q5735 : f 46 = (Value.int .i64 ((a0.Doors.length : Int))) := vt (hA472.2.2.2.2.2.2.2.2.2.2.2.2.1 _ rfl) rfl
                    have q5736 : f 47 = (Value.int .u64 (wu64 (a0.Doors.length : Int))) := vt (hA472.2.2.2.2.2.2.2.2.2.2.2.2.2.1 _ rfl) rfl
                    have q5737 : f 48 = (Value.int .i64 (shlI 1 (wu64 (a0.Doors.length : Int)))) := vt (hA472.2.2.2.2.2.2.2.2.2.2.2.2.2.2.1 _ rfl) rfl
                    have q5738 : f 49 = (Value.bool (decide ((shlI 1 (wu64 (a0.Doors.length : Int))) ≤ x12))) := vt (hA472.2.2.2.2.2.2.2.2.2.2.2.2.2.2.2.1 _ rfl) rfl
                    have q5739 : f 50 = (Value.bool (decide ((shlI 1 (wu64 (a0.Doors.length : Int))) ≤ x12))) := vt (hA472.2.2.2.2.2.2.2.2.2.2.2.2.2.2.2.2.1 _ rfl) rfl
                    have q5740 : f 51 = (Value.bool (decide ((shlI 1 (wu64 (a0.Doors.length : Int))) ≤ x12))) := vt (hA472.2.2.2.2.2.2.2.2.2.2.2.2.2.2.2.2.2.1 _ rfl) rfl
                    have q5741 : f 52 = (Value.slice z4 m4 k4) := vt (hA472.2.2.2.2.2.2.2.2.2.2.2.2.2.2.2.2.2.2.1 _ rfl) rfl
                    have q5742 : f 53 = (Value.int .i64 ((i1 : Int))) := vt (hA472.2.2.2.2.2.2.2.2.2.2.2.2.2.2.2.2.2.2.2.1 _ rfl) rfl
                    have q5743 : f 54 = (elemPtr (Value.slice z4 m4 k4) ((i1 : Int)) (Enc.sz Int)) := vt (hA472.2.2.2.2.2.2.2.2.2.2.2.2.2.2.2.2.2.2.2.2.1 _ rfl) rfl
                    refine opg_taken (c := decide ((shlI 1 (wu64 (a0.Doors.length : Int))) ≤ x12)) rfl rfl rfl rfl q5740 hc17 (op_load_int (v := (elemPtr (Value.slice z4 m4 k4) ((i1 : Int)) (Enc.sz Int))) (e := x12) rfl sh3 q5743 ((I505.nth 0 rfl).rowElem hx12) ?_)
                    refine ⟨_, _, rfl, PH.Le.refl _, ?_, ?_⟩
                    · exact rfl
                    · exact I505
                  · intro vs488 f w501 S493 X473 le493 hA473 hK488 hI489
                    have I506 : Inv w501 S493 (X473) := hI489
                    have q5744 : f 34 = (Value.slice z4 m4 k4) := vt (hA473.1 _ rfl) rfl
                    have q5745 : f 35 = (Value.int .i64 ((i1 : Int))) := vt (hA473.2.1 _ rfl) rfl
                    have q5746 : f 36 = (elemPtr (Value.slice z4 m4 k4) ((i1 : Int)) (Enc.sz Int)) := vt (hA473.2.2.1 _ rfl) rfl
                    have q5747 : f 37 = (Value.int .i64 (x12)) := vt (hA473.2.2.2.1 _ rfl) rfl
                    have q5748 : f 38 = (Value.bool (decide (x12 < 0))) := vt (hA473.2.2.2.2.1 _ rfl) rfl
                    have q5749 : f 39 = (Value.bool (decide (x12 < 0))) := vt (hA473.2.2.2.2.2.1 _ rfl) rfl
                    have q5750 : f 40 = (Value.slice z4 m4 k4) := vt (hA473.2.2.2.2.2.2.1 _ rfl) rfl
                    have q5751 : f 41 = (Value.int .i64 ((i1 : Int))) := vt (hA473.2.2.2.2.2.2.2.1 _ rfl) rfl
                    have q5752 : f 42 = (elemPtr (Value.slice z4 m4 k4) ((i1 : Int)) (Enc.sz Int)) := vt (hA473.2.2.2.2.2.2.2.2.1 _ rfl) rfl
                    have q5753 : f 43 = (Value.int .i64 (x12)) := vt (hA473.2.2.2.2.2.2.2.2.2.1 _ rfl) rfl
                    have q5754 : f 44 = (fieldPtr (Value.pointer (some ⟨g1, 0, none⟩)) 1) := vt (hA473.2.2.2.2.2.2.2.2.2.2.1 _ rfl) rfl
                    have q5755 : f 45 = vs488 11 := (hA473.2.2.2.2.2.2.2.2.2.2.2.1 _ rfl).1 _ rfl
                    have r178 : RV S493 (vs488 11) a0.Doors := (hA473.2.2.2.2.2.2.2.2.2.2.2.1 _ rfl).2
                    obtain ⟨u209, hu209⟩ : ∃ u, vs488 11 = u := ⟨_, rfl⟩
                    rw [hu209] at q5755 r178
                    obtain ⟨z192, m192, k192, e288⟩ := rv_form r178
                    subst e288
                    have q5756 : f 46 = (Value.int .i64 ((a0.Doors.length : Int))) := vt (hA473.2.2.2.2.2.2.2.2.2.2.2.2.1 _ rfl) rfl
                    have q5757 : f 47 = (Value.int .u64 (wu64 (a0.Doors.length : Int))) := vt (hA473.2.2.2.2.2.2.2.2.2.2.2.2.2.1 _ rfl) rfl
                    have q5758 : f 48 = (Value.int .i64 (shlI 1 (wu64 (a0.Doors.length : Int)))) := vt (hA473.2.2.2.2.2.2.2.2.2.2.2.2.2.2.1 _ rfl) rfl
                    have q5759 : f 49 = (Value.bool (decide ((shlI 1 (wu64 (a0.Doors.length : Int))) ≤ x12))) := vt (hA473.2.2.2.2.2.2.2.2.2.2.2.2.2.2.2.1 _ rfl) rfl
                    have q5760 : f 50 = (Value.bool (decide ((shlI 1 (wu64 (a0.Doors.length : Int))) ≤ x12))) := vt (hA473.2.2.2.2.2.2.2.2.2.2.2.2.2.2.2.2.1 _ rfl) rfl
                    have q5761 : f 51 = (Value.bool (decide ((shlI 1 (wu64 (a0.Doors.length : Int))) ≤ x12))) := vt (hA473.2.2.2.2.2.2.2.2.2.2.2.2.2.2.2.2.2.1 _ rfl) rfl
                    have q5762 : f 52 = (Value.slice z4 m4 k4) := vt (hA473.2.2.2.2.2.2.2.2.2.2.2.2.2.2.2.2.2.2.1 _ rfl) rfl
                    have q5763 : f 53 = (Value.int .i64 ((i1 : Int))) := vt (hA473.2.2.2.2.2.2.2.2.2.2.2.2.2.2.2.2.2.2.2.1 _ rfl) rfl
                    have q5764 : f 54 = (elemPtr (Value.slice z4 m4 k4) ((i1 : Int)) (Enc.sz Int)) := vt (hA473.2.2.2.2.2.2.2.2.2.2.2.2.2.2.2.2.2.2.2.2.1 _ rfl) rfl
                    have q5765 : f 55 = (Value.int .i64 (x12)) := vt (hA473.2.2.2.2.2.2.2.2.2.2.2.2.2.2.2.2.2.2.2.2.2.1 _ rfl) rfl
                    refine opg_taken (c := decide ((shlI 1 (wu64 (a0.Doors.length : Int))) ≤ x12)) rfl rfl rfl rfl q5761 hc17 (op_gtr (a := x12) (b := 0) rfl q5765 rfl ?_)
                    refine ⟨_, _, rfl, PH.Le.refl _, ?_, ?_⟩
                    · exact rfl
                    · exact I506
                  · intro vs489 f w502 S494 X474 le494 hA474 hK489 hI490
                    have I507 : Inv w502 S494 (X474) := hI490
                    have q5766 : f 34 = (Value.slice z4 m4 k4) := vt (hA474.1 _ rfl) rfl
                    have q5767 : f 35 = (Value.int .i64 ((i1 : Int))) := vt (hA474.2.1 _ rfl) rfl
                    have q5768 : f 36 = (elemPtr (Value.slice z4 m4 k4) ((i1 : Int)) (Enc.sz Int)) := vt (hA474.2.2.1 _ rfl) rfl
                    have q5769 : f 37 = (Value.int .i64 (x12)) := vt (hA474.2.2.2.1 _ rfl) rfl
                    have q5770 : f 38 = (Value.bool (decide (x12 < 0))) := vt (hA474.2.2.2.2.1 _ rfl) rfl
                    have q5771 : f 39 = (Value.bool (decide (x12 < 0))) := vt (hA474.2.2.2.2.2.1 _ rfl) rfl
                    have q5772 : f 40 = (Value.slice z4 m4 k4) := vt (hA474.2.2.2.2.2.2.1 _ rfl) rfl
                    have q5773 : f 41 = (Value.int .i64 ((i1 : Int))) := vt (hA474.2.2.2.2.2.2.2.1 _ rfl) rfl
                    have q5774 : f 42 = (elemPtr (Value.slice z4 m4 k4) ((i1 : Int)) (Enc.sz Int)) := vt (hA474.2.2.2.2.2.2.2.2.1 _ rfl) rfl
                    have q5775 : f 43 = (Value.int .i64 (x12)) := vt (hA474.2.2.2.2.2.2.2.2.2.1 _ rfl) rfl
                    have q5776 : f 44 = (fieldPtr (Value.pointer (some ⟨g1, 0, none⟩)) 1) := vt (hA474.2.2.2.2.2.2.2.2.2.2.1 _ rfl) rfl
                    have q5777 : f 45 = vs489 11 := (hA474.2.2.2.2.2.2.2.2.2.2.2.1 _ rfl).1 _ rfl
                    have r179 : RV S494 (vs489 11) a0.Doors := (hA474.2.2.2.2.2.2.2.2.2.2.2.1 _ rfl).2
                    obtain ⟨u210, hu210⟩ : ∃ u, vs489 11 = u := ⟨_, rfl⟩
                    rw [hu210] at q5777 r179
                    obtain ⟨z193, m193, k193, e289⟩ := rv_form r179
                    subst e289
                    have q5778 : f 46 = (Value.int .i64 ((a0.Doors.length : Int))) := vt (hA474.2.2.2.2.2.2.2.2.2.2.2.2.1 _ rfl) rfl
                    have q5779 : f 47 = (Value.int .u64 (wu64 (a0.Doors.length : Int))) := vt (hA474.2.2.2.2.2.2.2.2.2.2.2.2.2.1 _ rfl) rfl
                    have q5780 : f 48 = (Value.int .i64 (shlI 1 (wu64 (a0.Doors.length : Int)))) := vt (hA474.2.2.2.2.2.2.2.2.2.2.2.2.2.2.1 _ rfl) rfl
                    have q5781 : f 49 = (Value.bool (decide ((shlI 1 (wu64 (a0.Doors.length : Int))) ≤ x12))) := vt (hA474.2.2.2.2.2.2.2.2.2.2.2.2.2.2.2.1 _ rfl) rfl
                    have q5782 : f 50 = (Value.bool (decide ((shlI 1 (wu64 (a0.Doors.length : Int))) ≤ x12))) := vt (hA474.2.2.2.2.2.2.2.2.2.2.2.2.2.2.2.2.1 _ rfl) rfl
                    have q5783 : f 51 = (Value.bool (decide ((shlI 1 (wu64 (a0.Doors.length : Int))) ≤ x12))) := vt (hA474.2.2.2.2.2.2.2.2.2.2.2.2.2.2.2.2.2.1 _ rfl) rfl
                    have q5784 : f 52 = (Value.slice z4 m4 k4) := vt (hA474.2.2.2.2.2.2.2.2.2.2.2.2.2.2.2.2.2.2.1 _ rfl) rfl
                    have q5785 : f 53 = (Value.int .i64 ((i1 : Int))) := vt (hA474.2.2.2.2.2.2.2.2.2.2.2.2.2.2.2.2.2.2.2.1 _ rfl) rfl
                    have q5786 : f 54 = (elemPtr (Value.slice z4 m4 k4) ((i1 : Int)) (Enc.sz Int)) := vt (hA474.2.2.2.2.2.2.2.2.2.2.2.2.2.2.2.2.2.2.2.2.1 _ rfl) rfl
                    have q5787 : f 55 = (Value.int .i64 (x12)) := vt (hA474.2.2.2.2.2.2.2.2.2.2.2.2.2.2.2.2.2.2.2.2.2.1 _ rfl) rfl
                    have q5788 : f 56 = (Value.bool (decide (0 < x12))) := vt (hA474.2.2.2.2.2.2.2.2.2.2.2.2.2.2.2.2.2.2.2.2.2.2.1 _ rfl) rfl
                    refine opg_taken (c := decide ((shlI 1 (wu64 (a0.Doors.length : Int))) ≤ x12)) rfl rfl rfl rfl q5783 hc17 (op_move (v := (Value.bool (decide (0 < x12)))) rfl q5788 ?_)
                    refine ⟨_, _, rfl, PH.Le.refl _, ?_, ?_⟩
                    · exact rfl
                    · exact I507
                  · intro vs490 f w503 S495 X475 le495 hA475 hK490 hI491
                    have I508 : Inv w503 S495 (X475) := hI491
                    have q5789 : f 52 = (Value.slice z4 m4 k4) := vt (hA475.2.2.2.2.2.2.2.2.2.2.2.2.2.2.2.2.2.2.1 _ rfl) rfl
                    have q5790 : f 53 = (Value.int .i64 ((i1 : Int))) := vt (hA475.2.2.2.2.2.2.2.2.2.2.2.2.2.2.2.2.2.2.2.1 _ rfl) rfl
                    have q5791 : f 54 = (elemPtr (Value.slice z4 m4 k4) ((i1 : Int)) (Enc.sz Int)) := vt (hA475.2.2.2.2.2.2.2.2.2.2.2.2.2.2.2.2.2.2.2.2.1 _ rfl) rfl
                    have q5792 : f 55 = (Value.int .i64 (x12)) := vt (hA475.2.2.2.2.2.2.2.2.2.2.2.2.2.2.2.2.2.2.2.2.2.1 _ rfl) rfl
                    have q5793 : f 56 = (Value.bool (decide (0 < x12))) := vt (hA475.2.2.2.2.2.2.2.2.2.2.2.2.2.2.2.2.2.2.2.2.2.2.1 _ rfl) rfl
                    have q5794 : f 57 = (Value.bool (decide (0 < x12))) := vt (hA475.2.2.2.2.2.2.2.2.2.2.2.2.2.2.2.2.2.2.2.2.2.2.2.1 _ rfl) rfl
                    exact opg_skip (c := decide (0 < x12)) rfl rfl rfl rfl q5794 hc18 rfl ⟨_, _, rfl, PH.Le.refl _, rfl, I508⟩
                  · intro vs491 f w504 S496 X476 le496 hA476 hK491 hI492
                    have I509 : Inv w504 S496 (X476) := hI492
                    have q5795 : f 52 = (Value.slice z4 m4 k4) := vt (hA476.2.2.2.2.2.2.2.2.2.2.2.2.2.2.2.2.2.2.1 _ rfl) rfl
                    have q5796 : f 53 = (Value.int .i64 ((i1 : Int))) := vt (hA476.2.2.2.2.2.2.2.2.2.2.2.2.2.2.2.2.2.2.2.1 _ rfl) rfl
                    have q5797 : f 54 = (elemPtr (Value.slice z4 m4 k4) ((i1 : Int)) (Enc.sz Int)) := vt (hA476.2.2.2.2.2.2.2.2.2.2.2.2.2.2.2.2.2.2.2.2.1 _ rfl) rfl
                    have q5798 : f 55 = (Value.int .i64 (x12)) := vt (hA476.2.2.2.2.2.2.2.2.2.2.2.2.2.2.2.2.2.2.2.2.2.1 _ rfl) rfl
                    have q5799 : f 56 = (Value.bool (decide (0 < x12))) := vt (hA476.2.2.2.2.2.2.2.2.2.2.2.2.2.2.2.2.2.2.2.2.2.2.1 _ rfl) rfl
                    have q5800 : f 57 = (Value.bool (decide (0 < x12))) := vt (hA476.2.2.2.2.2.2.2.2.2.2.2.2.2.2.2.2.2.2.2.2.2.2.2.1 _ rfl) rfl
                    exact opg_skip (c := decide (0 < x12)) rfl rfl rfl rfl q5800 hc18 rfl ⟨_, _, rfl, PH.Le.refl _, rfl, I509⟩
                  · intro vs492 f w505 S497 X477 le497 hA477 hK492 hI493
                    have I510 : Inv w505 S497 (X477) := hI493
                    have q5801 : f 52 = (Value.slice z4 m4 k4) := vt (hA477.2.2.2.2.2.2.2.2.2.2.2.2.2.2.2.2.2.2.1 _ rfl) rfl
                    have q5802 : f 53 = (Value.int .i64 ((i1 : Int))) := vt (hA477.2.2.2.2.2.2.2.2.2.2.2.2.2.2.2.2.2.2.2.1 _ rfl) rfl
                    have q5803 : f 54 = (elemPtr (Value.slice z4 m4 k4) ((i1 : Int)) (Enc.sz Int)) := vt (hA477.2.2.2.2.2.2.2.2.2.2.2.2.2.2.2.2.2.2.2.2.1 _ rfl) rfl
                    have q5804 : f 55 = (Value.int .i64 (x12)) := vt (hA477.2.2.2.2.2.2.2.2.2.2.2.2.2.2.2.2.2.2.2.2.2.1 _ rfl) rfl
                    have q5805 : f 56 = (Value.bool (decide (0 < x12))) := vt (hA477.2.2.2.2.2.2.2.2.2.2.2.2.2.2.2.2.2.2.2.2.2.2.1 _ rfl) rfl
                    have q5806 : f 57 = (Value.bool (decide (0 < x12))) := vt (hA477.2.2.2.2.2.2.2.2.2.2.2.2.2.2.2.2.2.2.2.2.2.2.2.1 _ rfl) rfl
                    have q5807 : f 58 = undef := vt (hA477.2.2.2.2.2.2.2.2.2.2.2.2.2.2.2.2.2.2.2.2.2.2.2.2.1 _ rfl) rfl
                    have q5808 : f 59 = undef := vt (hA477.2.2.2.2.2.2.2.2.2.2.2.2.2.2.2.2.2.2.2.2.2.2.2.2.2.1 _ rfl) rfl
                    exact opg_skip (c := decide (0 < x12)) rfl rfl rfl rfl q5806 hc18 rfl ⟨_, _, rfl, PH.Le.refl _, rfl, I510⟩
                  · intro vs493 f w506 S498 X478 le498 hA478 hK493 hI494
                    have I511 : Inv w506 S498 (X478) := hI494
                    have q5809 : f 52 = (Value.slice z4 m4 k4) := vt (hA478.2.2.2.2.2.2.2.2.2.2.2.2.2.2.2.2.2.2.1 _ rfl) rfl
                    have q5810 : f 53 = (Value.int .i64 ((i1 : Int))) := vt (hA478.2.2.2.2.2.2.2.2.2.2.2.2.2.2.2.2.2.2.2.1 _ rfl) rfl
                    have q5811 : f 54 = (elemPtr (Value.slice z4 m4 k4) ((i1 : Int)) (Enc.sz Int)) := vt (hA478.2.2.2.2.2.2.2.2.2.2.2.2.2.2.2.2.2.2.2.2.1 _ rfl) rfl
                    have q5812 : f 55 = (Value.int .i64 (x12)) := vt (hA478.2.2.2.2.2.2.2.2.2.2.2.2.2.2.2.2.2.2.2.2.2.1 _ rfl) rfl
                    have q5813 : f 56 = (Value.bool (decide (0 < x12))) := vt (hA478.2.2.2.2.2.2.2.2.2.2.2.2.2.2.2.2.2.2.2.2.2.2.1 _ rfl) rfl
                    have q5814 : f 57 = (Value.bool (decide (0 < x12))) := vt (hA478.2.2.2.2.2.2.2.2.2.2.2.2.2.2.2.2.2.2.2.2.2.2.2.1 _ rfl) rfl
                    have q5815 : f 58 = undef := vt (hA478.2.2.2.2.2.2.2.2.2.2.2.2.2.2.2.2.2.2.2.2.2.2.2.2.1 _ rfl) rfl
                    have q5816 : f 59 = undef := vt (hA478.2.2.2.2.2.2.2.2.2.2.2.2.2.2.2.2.2.2.2.2.2.2.2.2.2.1 _ rfl) rfl
                    have q5817 : f 60 = undef := vt (hA478.2.2.2.2.2.2.2.2.2.2.2.2.2.2.2.2.2.2.2.2.2.2.2.2.2.2.1 _ rfl) rfl
                    exact opg_skip (c := decide (0 < x12)) rfl rfl rfl rfl q5814 hc18 rfl ⟨_, _, rfl, PH.Le.refl _, rfl, I511⟩
                  · intro vs494 f w507 S499 X479 le499 hA479 hK494 hI495
                    have I512 : Inv w507 S499 (X479) := hI495
                    have q5818 : f 34 = (Value.slice z4 m4 k4) := vt (hA479.1 _ rfl) rfl
                    have q5819 : f 35 = (Value.int .i64 ((i1 : Int))) := vt (hA479.2.1 _ rfl) rfl
                    have q5820 : f 36 = (elemPtr (Value.slice z4 m4 k4) ((i1 : Int)) (Enc.sz Int)) := vt (hA479.2.2.1 _ rfl) rfl
                    have q5821 : f 37 = (Value.int .i64 (x12)) := vt (hA479.2.2.2.1 _ rfl) rfl
                    have q5822 : f 38 = (Value.bool (decide (x12 < 0))) := vt (hA479.2.2.2.2.1 _ rfl) rfl
                    have q5823 : f 39 = (Value.bool (decide (x12 < 0))) := vt (hA479.2.2.2.2.2.1 _ rfl) rfl
                    have q5824 : f 40 = (Value.slice z4 m4 k4) := vt (hA479.2.2.2.2.2.2.1 _ rfl) rfl
                    have q5825 : f 41 = (Value.int .i64 ((i1 : Int))) := vt (hA479.2.2.2.2.2.2.2.1 _ rfl) rfl
                    have q5826 : f 42 = (elemPtr (Value.slice z4 m4 k4) ((i1 : Int)) (Enc.sz Int)) := vt (hA479.2.2.2.2.2.2.2.2.1 _ rfl) rfl
                    have q5827 : f 43 = (Value.int .i64 (x12)) := vt (hA479.2.2.2.2.2.2.2.2.2.1 _ rfl) rfl
                    have q5828 : f 44 = (fieldPtr (Value.pointer (some ⟨g1, 0, none⟩)) 1) := vt (hA479.2.2.2.2.2.2.2.2.2.2.1 _ rfl) rfl
                    have q5829 : f 45 = vs494 11 := (hA479.2.2.2.2.2.2.2.2.2.2.2.1 _ rfl).1 _ rfl
                    have r180 : RV S499 (vs494 11) a0.Doors := (hA479.2.2.2.2.2.2.2.2.2.2.2.1 _ rfl).2
                    obtain ⟨u211, hu211⟩ : ∃ u, vs494 11 = u := ⟨_, rfl⟩
                    rw [hu211] at q5829 r180
                    obtain ⟨z194, m194, k194, e290⟩ := rv_form r180
                    subst e290
                    have q5830 : f 46 = (Value.int .i64 ((a0.Doors.length : Int))) := vt (hA479.2.2.2.2.2.2.2.2.2.2.2.2.1 _ rfl) rfl
                    have q5831 : f 47 = (Value.int .u64 (wu64 (a0.Doors.length : Int))) := vt (hA479.2.2.2.2.2.2.2.2.2.2.2.2.2.1 _ rfl) rfl
                    have q5832 : f 48 = (Value.int .i64 (shlI 1 (wu64 (a0.Doors.length : Int)))) := vt (hA479.2.2.2.2.2.2.2.2.2.2.2.2.2.2.1 _ rfl) rfl
                    have q5833 : f 49 = (Value.bool (decide ((shlI 1 (wu64 (a0.Doors.length : Int))) ≤ x12))) := vt (hA479.2.2.2.2.2.2.2.2.2.2.2.2.2.2.2.1 _ rfl) rfl
                    have q5834 : f 50 = (Value.bool (decide ((shlI 1 (wu64 (a0.Doors.length : Int))) ≤ x12))) := vt (hA479.2.2.2.2.2.2.2.2.2.2.2.2.2.2.2.2.1 _ rfl) rfl
                    have q5835 : f 51 = (Value.bool (decide ((shlI 1 (wu64 (a0.Doors.length : Int))) ≤ x12))) := vt (hA479.2.2.2.2.2.2.2.2.2.2.2.2.2.2.2.2.2.1 _ rfl) rfl
                    have q5836 : f 52 = (Value.slice z4 m4 k4) := vt (hA479.2.2.2.2.2.2.2.2.2.2.2.2.2.2.2.2.2.2.1 _ rfl) rfl
                    have q5837 : f 53 = (Value.int .i64 ((i1 : Int))) := vt (hA479.2.2.2.2.2.2.2.2.2.2.2.2.2.2.2.2.2.2.2.1 _ rfl) rfl
                    have q5838 : f 54 = (elemPtr (Value.slice z4 m4 k4) ((i1 : Int)) (Enc.sz Int)) := vt (hA479.2.2.2.2.2.2.2.2.2.2.2.2.2.2.2.2.2.2.2.2.1 _ rfl) rfl
                    have q5839 : f 55 = (Value.int .i64 (x12)) := vt (hA479.2.2.2.2.2.2.2.2.2.2.2.2.2.2.2.2.2.2.2.2.2.1 _ rfl) rfl
                    have q5840 : f 56 = (Value.bool (decide (0 < x12))) := vt (hA479.2.2.2.2.2.2.2.2.2.2.2.2.2.2.2.2.2.2.2.2.2.2.1 _ rfl) rfl
                    have q5841 : f 57 = (Value.bool (decide (0 < x12))) := vt (hA479.2.2.2.2.2.2.2.2.2.2.2.2.2.2.2.2.2.2.2.2.2.2.2.1 _ rfl) rfl
                    have q5842 : f 58 = undef := vt (hA479.2.2.2.2.2.2.2.2.2.2.2.2.2.2.2.2.2.2.2.2.2.2.2.2.1 _ rfl) rfl
                    have q5843 : f 59 = undef := vt (hA479.2.2.2.2.2.2.2.2.2.2.2.2.2.2.2.2.2.2.2.2.2.2.2.2.2.1 _ rfl) rfl
                    have q5844 : f 60 = undef := vt (hA479.2.2.2.2.2.2.2.2.2.2.2.2.2.2.2.2.2.2.2.2.2.2.2.2.2.2.1 _ rfl) rfl
                    have q5845 : f 61 = undef := vt (hA479.2.2.2.2.2.2.2.2.2.2.2.2.2.2.2.2.2.2.2.2.2.2.2.2.2.2.2.1 _ rfl) rfl
                    refine opg_taken (c := decide ((shlI 1 (wu64 (a0.Doors.length : Int))) ≤ x12)) rfl rfl rfl rfl q5835 hc17 (op_pick_f (c := decide (0 < x12)) (b := (Value.bool (false))) rfl q5841 hc18 rfl ?_)
                    refine ⟨_, _, rfl, PH.Le.refl _, ?_, ?_⟩
                    · exact rfl
                    · exact I512
                  · intro vs495 f w508 S500 X480 le500 hA480 hK495 hI496
                    have I513 : Inv w508 S500 (X480) := hI496
                    have q5846 : f 34 = (Value.slice z4 m4 k4) := vt (hA480.1 _ rfl) rfl
                    have q5847 : f 35 = (Value.int .i64 ((i1 : Int))) := vt (hA480.2.1 _ rfl) rfl
                    have q5848 : f 36 = (elemPtr (Value.slice z4 m4 k4) ((i1 : Int)) (Enc.sz Int)) := vt (hA480.2.2.1 _ rfl) rfl
                    have q5849 : f 37 = (Value.int .i64 (x12)) := vt (hA480.2.2.2.1 _ rfl) rfl
                    have q5850 : f 38 = (Value.bool (decide (x12 < 0))) := vt (hA480.2.2.2.2.1 _ rfl) rfl
                    have q5851 : f 39 = (Value.bool (decide (x12 < 0))) := vt (hA480.2.2.2.2.2.1 _ rfl) rfl
                    have q5852 : f 40 = (Value.slice z4 m4 k4) := vt (hA480.2.2.2.2.2.2.1 _ rfl) rfl
                    have q5853 : f 41 = (Value.int .i64 ((i1 : Int))) := vt (hA480.2.2.2.2.2.2.2.1 _ rfl) rfl
                    have q5854 : f 42 = (elemPtr (Value.slice z4 m4 k4) ((i1 : Int)) (Enc.sz Int)) := vt (hA480.2.2.2.2.2.2.2.2.1 _ rfl) rfl
                    have q5855 : f 43 = (Value.int .i64 (x12)) := vt (hA480.2.2.2.2.2.2.2.2.2.1 _ rfl) rfl
                    have q5856 : f 44 = (fieldPtr (Value.pointer (some ⟨g1, 0, none⟩)) 1) := vt (hA480.2.2.2.2.2.2.2.2.2.2.1 _ rfl) rfl
                    have q5857 : f 45 = vs495 11 := (hA480.2.2.2.2.2.2.2.2.2.2.2.1 _ rfl).1 _ rfl
                    have r181 : RV S500 (vs495 11) a0.Doors := (hA480.2.2.2.2.2.2.2.2.2.2.2.1 _ rfl).2
                    obtain ⟨u212, hu212⟩ : ∃ u, vs495 11 = u := ⟨_, rfl⟩
                    rw [hu212] at q5857 r181
                    obtain ⟨z195, m195, k195, e291⟩ := rv_form r181
                    subst e291
                    have q5858 : f 46 = (Value.int .i64 ((a0.Doors.length : Int))) := vt (hA480.2.2.2.2.2.2.2.2.2.2.2.2.1 _ rfl) rfl
                    have q5859 : f 47 = (Value.int .u64 (wu64 (a0.Doors.length : Int))) := vt (hA480.2.2.2.2.2.2.2.2.2.2.2.2.2.1 _ rfl) rfl
                    have q5860 : f 48 = (Value.int .i64 (shlI 1 (wu64 (a0.Doors.length : Int)))) := vt (hA480.2.2.2.2.2.2.2.2.2.2.2.2.2.2.1 _ rfl) rfl
                    have q5861 : f 49 = (Value.bool (decide ((shlI 1 (wu64 (a0.Doors.length : Int))) ≤ x12))) := vt (hA480.2.2.2.2.2.2.2.2.2.2.2.2.2.2.2.1 _ rfl) rfl
                    have q5862 : f 50 = (Value.bool (decide ((shlI 1 (wu64 (a0.Doors.length : Int))) ≤ x12))) := vt (hA480.2.2.2.2.2.2.2.2.2.2.2.2.2.2.2.2.1 _ rfl) rfl
                    have q5863 : f 51 = (Value.bool (decide ((shlI 1 (wu64 (a0.Doors.length : Int))) ≤ x12))) := vt (hA480.2.2.2.2.2.2.2.2.2.2.2.2.2.2.2.2.2.1 _ rfl) rfl
                    have q5864 : f 52 = (Value.slice z4 m4 k4) := vt (hA480.2.2.2.2.2.2.2.2.2.2.2.2.2.2.2.2.2.2.1 _ rfl) rfl
                    have q5865 : f 53 = (Value.int .i64 ((i1 : Int))) := vt (hA480.2.2.2.2.2.2.2.2.2.2.2.2.2.2.2.2.2.2.2.1 _ rfl) rfl
                    have q5866 : f 54 = (elemPtr (Value.slice z4 m4 k4) ((i1 : Int)) (Enc.sz Int)) := vt (hA480.2.2.2.2.2.2.2.2.2.2.2.2.2.2.2.2.2.2.2.2.1 _ rfl) rfl
                    have q5867 : f 55 = (Value.int .i64 (x12)) := vt (hA480.2.2.2.2.2.2.2.2.2.2.2.2.2.2.2.2.2.2.2.2.2.1 _ rfl) rfl
                    have q5868 : f 56 = (Value.bool (decide (0 < x12))) := vt (hA480.2.2.2.2.2.2.2.2.2.2.2.2.2.2.2.2.2.2.2.2.2.2.1 _ rfl) rfl
                    have q5869 : f 57 = (Value.bool (decide (0 < x12))) := vt (hA480.2.2.2.2.2.2.2.2.2.2.2.2.2.2.2.2.2.2.2.2.2.2.2.1 _ rfl) rfl
                    have q5870 : f 58 = undef := vt (hA480.2.2.2.2.2.2.2.2.2.2.2.2.2.2.2.2.2.2.2.2.2.2.2.2.1 _ rfl) rfl
                    have q5871 : f 59 = undef := vt (hA480.2.2.2.2.2.2.2.2.2.2.2.2.2.2.2.2.2.2.2.2.2.2.2.2.2.1 _ rfl) rfl
                    have q5872 : f 60 = undef := vt (hA480.2.2.2.2.2.2.2.2.2.2.2.2.2.2.2.2.2.2.2.2.2.2.2.2.2.2.1 _ rfl) rfl
                    have q5873 : f 61 = undef := vt (hA480.2.2.2.2.2.2.2.2.2.2.2.2.2.2.2.2.2.2.2.2.2.2.2.2.2.2.2.1 _ rfl) rfl
                    have q5874 : f 62 = (Value.bool (false)) := vt (hA480.2.2.2.2.2.2.2.2.2.2.2.2.2.2.2.2.2.2.2.2.2.2.2.2.2.2.2.2.1 _ rfl) rfl
                    refine opg_plain rfl rfl (op_pick_f (c := decide ((shlI 1 (wu64 (a0.Doors.length : Int))) ≤ x12)) (b := (Value.bool (false))) rfl q5863 hc17 q5874 ?_)
                    refine ⟨_, _, rfl, PH.Le.refl _, ?_, ?_⟩
                    · exact rfl
                    · exact I513
                  · intro vs496 f w509 S501 le501 hF16 hK496 hI497
                    have e292 : f 1 = (Value.int .i64 (a1)) := (hK496 1 (keep_all rfl)).trans e225
                    have e293 : f 2 = (Value.slice z2 m2 k2) := (hK496 2 (keep_all rfl)).trans e226
                    have e294 : f 3 = (Value.pointer (some ⟨g1, 0, none⟩)) := (hK496 3 (keep_all rfl)).trans e227
                    have e295 : f 7 = (Value.slice z4 m4 k4) := (hK496 7 (keep_all rfl)).trans e228
                    have e296 : f 9 = (Value.int .i64 ((i1 : Int))) := (hK496 9 (keep_all rfl)).trans e229
                    have I514 : Inv w509 S501 (Row (α := Int) 3 (Value.slice z4 m4 k4) (x3.1) :: Fr) := hI497
                    have q5875 : f 34 = (Value.slice z4 m4 k4) := vt (hF16.1 _ rfl) rfl
                    have q5876 : f 35 = (Value.int .i64 ((i1 : Int))) := vt (hF16.2.1 _ rfl) rfl
                    have q5877 : f 36 = (elemPtr (Value.slice z4 m4 k4) ((i1 : Int)) (Enc.sz Int)) := vt (hF16.2.2.1 _ rfl) rfl
                    have q5878 : f 37 = (Value.int .i64 (x12)) := vt (hF16.2.2.2.1 _ rfl) rfl
                    have q5879 : f 38 = (Value.bool (decide (x12 < 0))) := vt (hF16.2.2.2.2.1 _ rfl) rfl
                    have q5880 : f 39 = (Value.bool (decide (x12 < 0))) := vt (hF16.2.2.2.2.2.1 _ rfl) rfl
                    have q5881 : f 40 = (Value.slice z4 m4 k4) := vt (hF16.2.2.2.2.2.2.1 _ rfl) rfl
                    have q5882 : f 41 = (Value.int .i64 ((i1 : Int))) := vt (hF16.2.2.2.2.2.2.2.1 _ rfl) rfl
                    have q5883 : f 42 = (elemPtr (Value.slice z4 m4 k4) ((i1 : Int)) (Enc.sz Int)) := vt (hF16.2.2.2.2.2.2.2.2.1 _ rfl) rfl
                    have q5884 : f 43 = (Value.int .i64 (x12)) := vt (hF16.2.2.2.2.2.2.2.2.2.1 _ rfl) rfl
                    have q5885 : f 44 = (fieldPtr (Value.pointer (some ⟨g1, 0, none⟩)) 1) := vt (hF16.2.2.2.2.2.2.2.2.2.2.1 _ rfl) rfl
                    have q5886 : f 45 = vs496 11 := (hF16.2.2.2.2.2.2.2.2.2.2.2.1 _ rfl).1 _ rfl
                    have r182 : RV S501 (vs496 11) a0.Doors := (hF16.2.2.2.2.2.2.2.2.2.2.2.1 _ rfl).2
                    obtain ⟨u213, hu213⟩ : ∃ u, vs496 11 = u := ⟨_, rfl⟩
                    rw [hu213] at q5886 r182
                    obtain ⟨z196, m196, k196, e297⟩ := rv_form r182
                    subst e297
                    have q5887 : f 46 = (Value.int .i64 ((a0.Doors.length : Int))) := vt (hF16.2.2.2.2.2.2.2.2.2.2.2.2.1 _ rfl) rfl
                    have q5888 : f 47 = (Value.int .u64 (wu64 (a0.Doors.length : Int))) := vt (hF16.2.2.2.2.2.2.2.2.2.2.2.2.2.1 _ rfl) rfl
                    have q5889 : f 48 = (Value.int .i64 (shlI 1 (wu64 (a0.Doors.length : Int)))) := vt (hF16.2.2.2.2.2.2.2.2.2.2.2.2.2.2.1 _ rfl) rfl
                    have q5890 : f 49 = (Value.bool (decide ((shlI 1 (wu64 (a0.Doors.length : Int))) ≤ x12))) := vt (hF16.2.2.2.2.2.2.2.2.2.2.2.2.2.2.2.1 _ rfl) rfl
                    have q5891 : f 50 = (Value.bool (decide ((shlI 1 (wu64 (a0.Doors.length : Int))) ≤ x12))) := vt (hF16.2.2.2.2.2.2.2.2.2.2.2.2.2.2.2.2.1 _ rfl) rfl
                    have q5892 : f 51 = (Value.bool (decide ((shlI 1 (wu64 (a0.Doors.length : Int))) ≤ x12))) := vt (hF16.2.2.2.2.2.2.2.2.2.2.2.2.2.2.2.2.2.1 _ rfl) rfl
                    have q5893 : f 52 = (Value.slice z4 m4 k4) := vt (hF16.2.2.2.2.2.2.2.2.2.2.2.2.2.2.2.2.2.2.1 _ rfl) rfl
                    have q5894 : f 53 = (Value.int .i64 ((i1 : Int))) := vt (hF16.2.2.2.2.2.2.2.2.2.2.2.2.2.2.2.2.2.2.2.1 _ rfl) rfl
                    have q5895 : f 54 = (elemPtr (Value.slice z4 m4 k4) ((i1 : Int)) (Enc.sz Int)) := vt (hF16.2.2.2.2.2.2.2.2.2.2.2.2.2.2.2.2.2.2.2.2.1 _ rfl) rfl
                    have q5896 : f 55 = (Value.int .i64 (x12)) := vt (hF16.2.2.2.2.2.2.2.2.2.2.2.2.2.2.2.2.2.2.2.2.2.1 _ rfl) rfl
                    have q5897 : f 56 = (Value.bool (decide (0 < x12))) := vt (hF16.2.2.2.2.2.2.2.2.2.2.2.2.2.2.2.2.2.2.2.2.2.2.1 _ rfl) rfl
                    have q5898 : f 57 = (Value.bool (decide (0 < x12))) := vt (hF16.2.2.2.2.2.2.2.2.2.2.2.2.2.2.2.2.2.2.2.2.2.2.2.1 _ rfl) rfl
                    have q5899 : f 58 = undef := vt (hF16.2.2.2.2.2.2.2.2.2.2.2.2.2.2.2.2.2.2.2.2.2.2.2.2.1 _ rfl) rfl
                    have q5900 : f 59 = undef := vt (hF16.2.2.2.2.2.2.2.2.2.2.2.2.2.2.2.2.2.2.2.2.2.2.2.2.2.1 _ rfl) rfl
                    have q5901 : f 60 = undef := vt (hF16.2.2.2.2.2.2.2.2.2.2.2.2.2.2.2.2.2.2.2.2.2.2.2.2.2.2.1 _ rfl) rfl
                    have q5902 : f 61 = undef := vt (hF16.2.2.2.2.2.2.2.2.2.2.2.2.2.2.2.2.2.2.2.2.2.2.2.2.2.2.2.1 _ rfl) rfl
                    have q5903 : f 62 = (Value.bool (false)) := vt (hF16.2.2.2.2.2.2.2.2.2.2.2.2.2.2.2.2.2.2.2.2.2.2.2.2.2.2.2.2.1 _ rfl) rfl
                    have q5904 : f 63 = (Value.bool (false)) := vt (hF16.2.2.2.2.2.2.2.2.2.2.2.2.2.2.2.2.2.2.2.2.2.2.2.2.2.2.2.2.2.1 _ rfl) rfl
                    refine wp_cond_f (b := false) q5904 rfl ?_
                    refine wp_skip' ?_
                    refine wp_region' ?_
                    refine wl_op rfl (op_move (v := (Value.int .i64 ((i1 : Int)))) rfl e296 ?_)
                    refine wl_op rfl (op_add (a := (i1 : Int)) (b := 1) rfl rfl rfl ?_)
                    refine wl_op rfl (op_assign (v := (Value.int .i64 (w64 ((i1 : Int) + 1)))) rfl rfl ?_)
                    refine wl_nil ?_
                    obtain rfl := Option.some.inj h1
                    exact ⟨_, rfl, _, (le377.trans le501), I514, e292, e293, e294, e295, (idx_next hlt1 (cnt_le hx11))⟩
          · rintro s2 f w hs1 hI498
            obtain ⟨S502, le502, I515, e298, e299, e300, e301, e302⟩ := hI498
            refine wp_seq' ?_
            refine wp_seq' ?_
            refine wp_region' ?_
            refine wl_op rfl (op_move (v := (Value.int .i64 ((x11 : Int)))) rfl e302 ?_)
            refine wl_op rfl (op_move (v := (Value.int .i64 (a1))) rfl e298 ?_)
            refine wl_op rfl (op_lss (a := (x11 : Int)) (b := a1) rfl rfl rfl ?_)
            refine wl_nil ?_
            refine wp_cond_f (b := decide ((x11 : Int) < a1)) rfl (cnt_f hx11) ?_
            refine wp_exit' ?_
            exact ⟨s2, hs1, _, le502, I515, e298, e299, e300, e301⟩
        · rintro f w ⟨out1, rfl, S503, le503, I516, e303, e304, e305, e306⟩
          refine wp_seq' ?_
          refine wp_region' ?_
          refine wl_op rfl (op_load (v := (Value.pointer (some ⟨g1, 0, none⟩))) (e := a0) rfl sh24 e305 ((p1.mono (le2.trans le503)).at_ I516) (fun u214 hu214 => ?_))
          obtain ⟨c3, e307, r183⟩ := Panel.inv hu214
          subst e307
          obtain ⟨z197, m197, k197, e308⟩ := rv_form r183
          subst e308
          refine wl_op rfl (op_move (v := (Value.int .i64 (a1))) rfl e303 ?_)
          refine wl_op rfl (op_move (v := (Value.slice z2 m2 k2)) rfl e304 ?_)
          refine wl_op rfl (op_move (v := (Value.slice z4 m4 k4)) rfl e306 ?_)
          obtain ⟨x14, hx14, h⟩ := bnd h
          obtain ⟨S504, Fr1, le504, I517, r184, bk1⟩ := Inv.lend1 I516
          refine wl_op rfl (op_call (vs := [(Value.agg #[(Value.int .i64 (a0.Sensors)), (Value.slice z197 m197 k197), (Value.int .i64 (a0.Stale)), (Value.int .i64 (a0.Limit))]), (Value.int .i64 (a1)), (Value.slice z2 m2 k2), (Value.slice z4 m4 k4)]) rfl ca34 rfl (args4 rfl rfl rfl rfl) (F34_ok I517 (Panel.rv (s := a0) (r183.mono le504)) (h2_.mono (((le1.trans le2).trans le503).trans le504)) r184 hx14) (fun v2 w510 S505 O2 le505 I519 hv2 => ?_))
          obtain ⟨rfl, rfl⟩ := hv2
          have I518 := bk1 [] trivial I519 le505
          refine wl_op rfl (op_move (v := (Value.tuple #[(Value.int .i64 (x14.1)), (Value.int .i64 (x14.2.1)), (Value.int .i64 (x14.2.2))])) rfl rfl ?_)
          refine wl_op rfl (op_extract (v := (Value.int .i64 (x14.1))) rfl rfl rfl ?_)
          refine wl_op rfl (op_extract (v := (Value.int .i64 (x14.2.1))) rfl rfl rfl ?_)
          refine wl_op rfl (op_extract (v := (Value.int .i64 (x14.2.2))) rfl rfl rfl ?_)
          refine wl_op rfl (op_assign (v := (Value.int .i64 (x14.1))) rfl rfl ?_)
          refine wl_op rfl (op_assign (v := (Value.int .i64 (x14.2.1))) rfl rfl ?_)
          refine wl_op rfl (op_assign (v := (Value.int .i64 (x14.2.2))) rfl rfl ?_)
          refine wl_nil ?_
          refine wp_seq' ?_
          refine wp_region' ?_
          refine wl_op rfl (op_move (v := (Value.int .i64 (x14.2.2))) rfl rfl ?_)
          refine wl_op rfl (op_eql (a := x14.2.2) (b := 0) rfl rfl rfl ?_)
          refine wl_op rfl (op_move (v := (Value.bool (x14.2.2 == 0))) rfl rfl ?_)
          rcases ifs h with ⟨hc20, h⟩ | ⟨hc20, h⟩
          · refine wl_taken (c := x14.2.2 == 0) rfl rfl rfl rfl hc20 (op_move (v := (Value.int .i64 (x14.1))) rfl rfl ?_)
            refine wl_taken (c := x14.2.2 == 0) rfl rfl rfl rfl hc20 (op_eql (a := x14.1) (b := (-1)) rfl rfl rfl ?_)
            refine wl_op rfl (op_pick_t (c := x14.2.2 == 0) (a := (Value.bool (x14.1 == (-1)))) rfl rfl hc20 rfl ?_)
            refine wl_op rfl (op_move (v := (Value.bool (x14.1 == (-1)))) rfl rfl ?_)
            rcases ifs h with ⟨hc21, h⟩ | ⟨hc21, h⟩
            · refine wl_taken (c := x14.1 == (-1)) rfl rfl rfl rfl hc21 (op_move (v := (Value.int .i64 (x14.2.1))) rfl rfl ?_)
              refine wl_taken (c := x14.1 == (-1)) rfl rfl rfl rfl hc21 (op_eql (a := x14.2.1) (b := (-1)) rfl rfl rfl ?_)
              refine wl_op rfl (op_pick_t (c := x14.1 == (-1)) (a := (Value.bool (x14.2.1 == (-1)))) rfl rfl hc21 rfl ?_)
              refine wl_op rfl (op_move (v := (Value.bool (x14.2.1 == (-1)))) rfl rfl ?_)
              rcases ifs h with ⟨hc22, h⟩ | ⟨hc22, h⟩
              · obtain ⟨x15, hx15, h⟩ := bnd h
                refine wl_taken (c := x14.2.1 == (-1)) rfl rfl rfl rfl hc22 (op_call_v (vs := []) (r := (Value.bool (x15))) rfl ca16 rfl args0 I518 (fun Fr_ hF_ => F16_ok hF_  hx15) (fun w511 I520 => ?_))
                refine wl_op rfl (op_pick_t (c := x14.2.1 == (-1)) (a := (Value.bool (x15))) rfl rfl hc22 rfl ?_)
                refine wl_op rfl (op_assign (v := (Value.bool (x15))) rfl rfl ?_)
                refine wl_nil ?_
                refine wp_ret' ?_
                obtain rfl := Option.some.inj h
                exact ⟨(Value.bool (x15)), (res1 rfl rfl), _, [], ((le1.trans le2).trans le503), (I520).drop, rfl, rfl⟩
              · refine wl_skip (c := x14.2.1 == (-1)) rfl rfl rfl rfl hc22 rfl ?_
                refine wl_op rfl (op_pick_f (c := x14.2.1 == (-1)) (b := (Value.bool (false))) rfl rfl hc22 rfl ?_)
                refine wl_op rfl (op_assign (v := (Value.bool (false))) rfl rfl ?_)
                refine wl_nil ?_
                refine wp_ret' ?_
                obtain rfl := Option.some.inj h
                exact ⟨(Value.bool (false)), (res1 rfl rfl), _, [], ((le1.trans le2).trans le503), (I518).drop, rfl, rfl⟩
            · refine wl_skip (c := x14.1 == (-1)) rfl rfl rfl rfl hc21 rfl ?_
              refine wl_skip (c := x14.1 == (-1)) rfl rfl rfl rfl hc21 rfl ?_
              refine wl_op rfl (op_pick_f (c := x14.1 == (-1)) (b := (Value.bool (false))) rfl rfl hc21 rfl ?_)
              refine wl_op rfl (op_move (v := (Value.bool (false))) rfl rfl ?_)
              refine wl_skip (c := false) rfl rfl rfl rfl rfl rfl ?_
              refine wl_op rfl (op_pick_f (c := false) (b := (Value.bool (false))) rfl rfl rfl rfl ?_)
              refine wl_op rfl (op_assign (v := (Value.bool (false))) rfl rfl ?_)
              refine wl_nil ?_
              refine wp_ret' ?_
              obtain rfl := Option.some.inj h
              exact ⟨(Value.bool (false)), (res1 rfl rfl), _, [], ((le1.trans le2).trans le503), (I518).drop, rfl, rfl⟩
          · refine wl_skip (c := x14.2.2 == 0) rfl rfl rfl rfl hc20 rfl ?_
            refine wl_skip (c := x14.2.2 == 0) rfl rfl rfl rfl hc20 rfl ?_
            refine wl_op rfl (op_pick_f (c := x14.2.2 == 0) (b := (Value.bool (false))) rfl rfl hc20 rfl ?_)
            refine wl_op rfl (op_move (v := (Value.bool (false))) rfl rfl ?_)
            refine wl_skip (c := false) rfl rfl rfl rfl rfl rfl ?_
            refine wl_skip (c := false) rfl rfl rfl rfl rfl rfl ?_
            refine wl_op rfl (op_pick_f (c := false) (b := (Value.bool (false))) rfl rfl rfl rfl ?_)
            refine wl_op rfl (op_move (v := (Value.bool (false))) rfl rfl ?_)
            refine wl_skip (c := false) rfl rfl rfl rfl rfl rfl ?_
            refine wl_op rfl (op_pick_f (c := false) (b := (Value.bool (false))) rfl rfl rfl rfl ?_)
            refine wl_op rfl (op_assign (v := (Value.bool (false))) rfl rfl ?_)
            refine wl_nil ?_
            refine wp_ret' ?_
            obtain rfl := Option.some.inj h
            exact ⟨(Value.bool (false)), (res1 rfl rfl), _, [], ((le1.trans le2).trans le503), (I518).drop, rfl, rfl⟩
end Go.Proofs.Ytfeomcdhhgeilaa.Pad
