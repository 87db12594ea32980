/- A part of the proof: what the functions of the program compute, shown over the model. -/
import Derived.Test.YtfeomcdhhgeilaaPadSP
import Derived.Test.YtfeomcdhhgeilaaPadSW1
import Derived.Test.YtfeomcdhhgeilaaPadSW2
import Derived.Test.YtfeomcdhhgeilaaPadSW3
import Derived.KernelRfl
set_option linter.unusedVariables false
namespace Go.Proofs.Ytfeomcdhhgeilaa.Pad
open Go Go.Proofs
set_option maxHeartbeats 4000000 in
set_option maxRecDepth 100000 in
theorem F36_ok {w : World} {S : PH} {Fr : List HP} {a0 : Panel} {v0 : Value} {a1 : Int} {a2 : (List Signal)} {v2 : Value} {a3 : Int} {r : Int × Int × Int} (hI : Inv w S Fr) (h0_ : RV S v0 a0) (h2_ : RV S v2 a2) (h : F36 a0 a1 a2 a3 = some r) :
    Calls Try.prog 36 [v0, (Value.int .i64 (a1)), v2, (Value.int .i64 (a3))].toArray w (DoneV S Fr (Value.tuple #[(Value.int .i64 (r.1)), (Value.int .i64 (r.2.1)), (Value.int .i64 (r.2.2))])) := by
  unfold F36 at h
  obtain ⟨c1, e1, r1⟩ := Panel.inv h0_
  subst e1
  obtain ⟨z1, m1, k1, e2⟩ := rv_form r1
  subst e2
  obtain ⟨z2, m2, k2, e3⟩ := rv_form h2_
  subst e3
  refine calls_enter (n := 57) (vs := [(Value.agg #[(Value.int .i64 (a0.Sensors)), (Value.slice z1 m1 k1), (Value.int .i64 (a0.Stale)), (Value.int .i64 (a0.Limit))]), (Value.int .i64 (a1)), (Value.slice z2 m2 k2), (Value.int .i64 (a3))]) Try.func36 rfl rfl rfl ?_
  refine wp_seq' ?_
  refine wp_region' ?_
  refine wl_op rfl (op_box (v := (Value.agg #[(Value.int .i64 (a0.Sensors)), (Value.slice z1 m1 k1), (Value.int .i64 (a0.Stale)), (Value.int .i64 (a0.Limit))])) rfl hI rfl (fun g1 w1 I1 => ?_))
  obtain ⟨S1, le1, I2, p1⟩ := Inv.boxFreeze (x := a0) I1 (Panel.rv (s := a0) r1)
  refine wl_op rfl (op_assign (v := (Value.int .i64 (0))) rfl rfl ?_)
  refine wl_op rfl (op_assign (v := (Value.int .i64 (0))) rfl rfl ?_)
  refine wl_op rfl (op_assign (v := (Value.int .i64 (0))) rfl rfl ?_)
  refine wl_nil ?_
  refine wp_seq' ?_
  refine wp_region' ?_
  refine wl_op rfl (op_load (v := (Value.pointer (some ⟨g1, 0, none⟩))) (e := a0) rfl sh24 rfl (p1.at_ I2) (fun u1 hu1 => ?_))
  obtain ⟨c2, e4, r2⟩ := Panel.inv hu1
  subst e4
  obtain ⟨z3, m3, k3, e5⟩ := rv_form r2
  subst e5
  refine wl_op rfl (op_move (v := (Value.int .i64 (a1))) rfl rfl ?_)
  refine wl_op rfl (op_move (v := (Value.slice z2 m2 k2)) rfl rfl ?_)
  obtain ⟨x1, hx1, h⟩ := bnd h
  refine wl_op rfl (op_call (vs := [(Value.agg #[(Value.int .i64 (a0.Sensors)), (Value.slice z3 m3 k3), (Value.int .i64 (a0.Stale)), (Value.int .i64 (a0.Limit))]), (Value.int .i64 (a1)), (Value.slice z2 m2 k2)]) rfl ca45 rfl (args3 rfl rfl rfl) (F45_ok I2 (Panel.rv (s := a0) r2) (h2_.mono le1) hx1) (fun v1 w2 S2 O1 le2 I3 hv1 => ?_))
  obtain ⟨z4, m4, k4, rfl, rfl⟩ := hv1
  refine wl_op rfl (op_move (v := (Value.tuple #[(Value.slice z4 m4 k4), (Value.int .i64 (x1.2))])) rfl rfl ?_)
  refine wl_op rfl (op_extract (v := (Value.slice z4 m4 k4)) rfl rfl rfl ?_)
  refine wl_op rfl (op_extract (v := (Value.int .i64 (x1.2))) rfl rfl rfl ?_)
  refine wl_op rfl (op_assign (v := (Value.slice z4 m4 k4)) rfl rfl ?_)
  refine wl_op rfl (op_assign (v := (Value.int .i64 (x1.2))) rfl rfl ?_)
  refine wl_nil ?_
  refine wp_seq' ?_
  refine wp_seq' ?_
  refine wp_region' ?_
  refine wl_op rfl (op_move (v := (Value.int .i64 (x1.2))) rfl rfl ?_)
  refine wl_op rfl (op_neq (a := x1.2) (b := 0) rfl rfl rfl ?_)
  refine wl_nil ?_
  rcases ifs h with ⟨hc1, h⟩ | ⟨hc1, h⟩
  · refine wp_cond_t (b := x1.2 != 0) rfl hc1 ?_
    refine wp_seq' ?_
    refine wp_region' ?_
    refine wl_op rfl (op_move (v := (Value.int .i64 (x1.2))) rfl rfl ?_)
    refine wl_op rfl (op_assign (v := (Value.int .i64 (0))) rfl rfl ?_)
    refine wl_op rfl (op_assign (v := (Value.int .i64 (0))) rfl rfl ?_)
    refine wl_op rfl (op_assign (v := (Value.int .i64 (x1.2))) rfl rfl ?_)
    refine wl_nil ?_
    refine wp_ret' ?_
    obtain rfl := Option.some.inj h
    exact ⟨(Value.tuple #[(Value.int .i64 (0)), (Value.int .i64 (0)), (Value.int .i64 (x1.2))]), (res3 rfl rfl rfl rfl), _, [], (le1.trans le2), (I3).drop, rfl, rfl⟩
  · refine wp_cond_f (b := x1.2 != 0) rfl hc1 ?_
    refine wp_skip' ?_
    refine wp_seq' ?_
    refine wp_seq' ?_
    refine wp_region' ?_
    refine wl_op rfl (op_move (v := (Value.int .i64 (a3))) rfl rfl ?_)
    refine wl_op rfl (op_fieldAddr_t (v := (Value.pointer (some ⟨g1, 0, none⟩))) rfl fa24_1 rfl ((p1.mono le2).at_ I3) ?_)
    refine wl_op rfl (op_load (v := (fieldPtr (Value.pointer (some ⟨g1, 0, none⟩)) 1)) (e := a0.Doors) rfl sh22 rfl (((p1.mono le2).at_ I3).fld Panel.fld1) (fun u2 hu2 => ?_))
    obtain ⟨z5, m5, k5, e6⟩ := rv_form hu2
    subst e6
    refine wl_op rfl (op_len_rv rfl Try.underlying22 rfl hu2 ?_)
    refine wl_op rfl (op_sub (a := (a0.Doors.length : Int)) (b := 1) rfl rfl rfl ?_)
    obtain ⟨x2, hx2, h⟩ := bnd h
    refine wl_op rfl (op_call_v (vs := [(Value.int .i64 (a3)), (Value.int .i64 (0)), (Value.int .i64 (w64 ((a0.Doors.length : Int) - 1)))]) (r := (Value.bool (x2))) rfl ca48 rfl (args3 rfl rfl rfl) I3 (fun Fr_ hF_ => F48_ok hF_  hx2) (fun w3 I4 => ?_))
    refine wl_op rfl (op_not (b := x2) rfl rfl ?_)
    refine wl_nil ?_
    rcases ifs h with ⟨hc2, h⟩ | ⟨hc2, h⟩
    · refine wp_cond_t (b := !x2) rfl hc2 ?_
      refine wp_seq' ?_
      refine wp_region' ?_
      refine wl_op rfl (op_assign (v := (Value.int .i64 (0))) rfl rfl ?_)
      refine wl_op rfl (op_assign (v := (Value.int .i64 (0))) rfl rfl ?_)
      refine wl_op rfl (op_assign (v := (Value.int .i64 (1))) rfl rfl ?_)
      refine wl_nil ?_
      refine wp_ret' ?_
      obtain rfl := Option.some.inj h
      exact ⟨(Value.tuple #[(Value.int .i64 (0)), (Value.int .i64 (0)), (Value.int .i64 (1))]), (res3 rfl rfl rfl rfl), _, [], (le1.trans le2), (I4).drop, rfl, rfl⟩
    · refine wp_cond_f (b := !x2) rfl hc2 ?_
      refine wp_skip' ?_
      refine wp_seq' ?_
      refine wp_region' ?_
      refine wl_op rfl (op_assign (v := (Value.int .i64 ((-1)))) rfl rfl ?_)
      refine wl_nil ?_
      refine wp_seq' ?_
      refine wp_region' ?_
      refine wl_op rfl (op_assign (v := (Value.int .i64 (0))) rfl rfl ?_)
      refine wl_nil ?_
      refine wp_seq' ?_
      refine wp_seq' ?_
      refine wp_region' ?_
      refine wl_op rfl (op_load (v := (Value.pointer (some ⟨g1, 0, none⟩))) (e := a0) rfl sh24 rfl ((p1.mono le2).at_ I4) (fun u3 hu3 => ?_))
      obtain ⟨c3, e7, r3⟩ := Panel.inv hu3
      subst e7
      obtain ⟨z6, m6, k6, e8⟩ := rv_form r3
      subst e8
      refine wl_op rfl (op_move (v := (Value.slice z4 m4 k4)) rfl rfl ?_)
      obtain ⟨x3, hx3, h⟩ := bnd h
      obtain ⟨S3, Fr1, le3, I5, r4, bk1⟩ := Inv.lend1 I4
      refine wl_op rfl (op_call (vs := [(Value.agg #[(Value.int .i64 (a0.Sensors)), (Value.slice z6 m6 k6), (Value.int .i64 (a0.Stale)), (Value.int .i64 (a0.Limit))]), (Value.slice z4 m4 k4)]) rfl ca46 rfl (args2 rfl rfl) (F46_ok I5 (Panel.rv (s := a0) (r3.mono le3)) r4 hx3) (fun v2 w4 S4 O2 le4 I7 hv2 => ?_))
      obtain ⟨z7, m7, k7, rfl, rfl⟩ := hv2
      have I6 := bk1 [Row (α := Int) 3 (Value.slice z7 m7 k7) (x3)] ⟨Row.free, trivial⟩ I7 le4
      refine wl_op rfl (op_len_row (α := Int) rfl Try.underlying34 rfl (I6.nth 0 rfl) ?_)
      refine wl_op rfl (op_move (v := (Value.int .i64 (0))) rfl rfl ?_)
      refine wl_nil ?_
      have hk1 : x3.length ≤ 9223372036854775807 := (row_len (I6.nth 0 rfl))
      obtain ⟨out1, hrun1, h⟩ := bnd h
      refine wp_cutN (fun f w => Inv w S2 (Row (α := Int) 3 (Value.slice z7 m7 k7) (x3) :: Fr) ∧ f 3 = (Value.int .i64 (a3)) ∧ f 8 = (Value.int .i64 (out1.1)) ∧ f 9 = (Value.int .i64 (out1.2.1)) ∧ f 12 = (Value.int .i64 (out1.2.2)) ∧ f 34 = (Value.slice z7 m7 k7) ∧ f 35 = (Value.int .i64 ((x3.length : Int)))) ?_ ?_
      · refine wp_block' ?_
        refine wp_forS (I := fun (i1 : Nat) (s1 : (Int × Int × Int)) (f : Frm) (w : World) => Inv w S2 (Row (α := Int) 3 (Value.slice z7 m7 k7) (x3) :: Fr) ∧ f 3 = (Value.int .i64 (a3)) ∧ f 8 = (Value.int .i64 (s1.1)) ∧ f 9 = (Value.int .i64 (s1.2.1)) ∧ f 12 = (Value.int .i64 (s1.2.2)) ∧ f 34 = (Value.slice z7 m7 k7) ∧ f 35 = (Value.int .i64 ((x3.length : Int))) ∧ f 36 = (Value.int .i64 (i1 : Int))) hrun1 ⟨(I6.pull 1).drop, rfl, rfl, rfl, rfl, rfl, rfl, rfl⟩ ?_ ?_
        · rintro i1 s1 f w o1 hlt1 hI1 h1
          obtain ⟨I11, e30, e31, e32, e33, e34, e35, e36⟩ := hI1
          refine wp_seq' ?_
          refine wp_region' ?_
          refine wl_op rfl (op_lss (a := (i1 : Int)) (b := (x3.length : Int)) rfl e36 e35 ?_)
          refine wl_nil ?_
          refine wp_seq' ?_
          refine wp_cond_t (b := decide ((i1 : Int) < (x3.length : Int))) rfl (len_t hlt1) ?_
          refine wp_skip' ?_
          refine wp_seq' ?_
          refine wp_block' ?_
          refine wp_seq' ?_
          refine wp_region' ?_
          refine wl_op rfl (op_move (v := (Value.int .i64 ((i1 : Int)))) rfl e36 ?_)
          obtain ⟨x10, hx10, h1⟩ := bnd h1
          refine wl_op rfl (op_indexAddr_src (v := (Value.slice z7 m7 k7)) (i := (i1 : Int)) (e := x10) rfl Try.underlying34 sh3 e34 (Inv.rowSrc (I11.nth 0 rfl)) e36 hx10 ?_)
          refine wl_op rfl (op_load_int (v := (elemPtr (Value.slice z7 m7 k7) ((i1 : Int)) (Enc.sz Int))) (e := x10) rfl sh3 rfl ((I11.nth 0 rfl).rowElem hx10) ?_)
          refine wl_op rfl (op_assign (v := (Value.int .i64 ((i1 : Int)))) rfl rfl ?_)
          refine wl_op rfl (op_assign (v := (Value.int .i64 (x10))) rfl rfl ?_)
          refine wl_nil ?_
          refine wp_seq' ?_
          refine wp_region' ?_
          refine wl_op rfl (op_move (v := (Value.int .i64 (s1.2.2))) rfl e33 ?_)
          refine wl_op rfl (op_add (a := s1.2.2) (b := 1) rfl rfl rfl ?_)
          refine wl_op rfl (op_assign (v := (Value.int .i64 (w64 (s1.2.2 + 1)))) rfl rfl ?_)
          refine wl_nil ?_
          refine wp_seq' ?_
          refine wp_seq' ?_
          refine wp_region' ?_
          refine wl_op rfl (op_move (v := (Value.int .i64 (x10))) rfl rfl ?_)
          refine wl_op rfl (op_move (v := (Value.int .i64 (a3))) rfl e30 ?_)
          obtain ⟨x11, hx11, h1⟩ := bnd h1
          refine wl_op rfl (op_shr (a := x10) (b := a3) rfl rfl rfl (nn?_some hx11) ?_)
          refine wl_op rfl (op_and (a := shrI x10 a3) (b := 1) rfl rfl rfl ?_)
          refine wl_op rfl (op_eql (a := andI (shrI x10 a3) 1) (b := 0) rfl rfl rfl ?_)
          refine wl_nil ?_
          rcases ifs h1 with ⟨hc9, h1⟩ | ⟨hc9, h1⟩
          · refine wp_cond_t (b := (andI (shrI x10 a3) 1) == 0) rfl hc9 ?_
            refine wp_seq' ?_
            refine wp_region' ?_
            refine wl_op rfl (op_assign (v := (Value.int .i64 (0))) rfl rfl ?_)
            refine wl_nil ?_
            refine wp_exit' ?_
            refine wp_region' ?_
            refine wl_op rfl (op_add (a := (i1 : Int)) (b := 1) rfl e36 rfl ?_)
            refine wl_op rfl (op_move (v := (Value.int .i64 (w64 ((i1 : Int) + 1)))) rfl rfl ?_)
            refine wl_nil ?_
            obtain rfl := Option.some.inj h1
            exact ⟨I11, e30, e31, e32, rfl, e34, e35, (idx_next hlt1 hk1)⟩
          · refine wp_cond_f (b := (andI (shrI x10 a3) 1) == 0) rfl hc9 ?_
            refine wp_skip' ?_
            refine wp_seq' ?_
            refine wp_seq' ?_
            refine wp_region' ?_
            refine wl_op rfl (op_move (v := (Value.int .i64 (s1.1))) rfl e31 ?_)
            refine wl_op rfl (op_lss (a := s1.1) (b := 0) rfl rfl rfl ?_)
            refine wl_nil ?_
            rcases ifs h1 with ⟨hc10, h1⟩ | ⟨hc10, h1⟩
            · refine wp_cond_t (b := decide (s1.1 < 0)) rfl hc10 ?_
              refine wp_region' ?_
              refine wl_op rfl (op_move (v := (Value.int .i64 ((i1 : Int)))) rfl rfl ?_)
              refine wl_op rfl (op_assign (v := (Value.int .i64 ((i1 : Int)))) rfl rfl ?_)
              refine wl_nil ?_
              refine wp_region' ?_
              refine wl_op rfl (op_move (v := (Value.int .i64 (s1.2.1))) rfl e32 ?_)
              refine wl_op rfl (op_move (v := (Value.int .i64 (w64 (s1.2.2 + 1)))) rfl rfl ?_)
              refine wl_op rfl (op_max (a := s1.2.1) (b := w64 (s1.2.2 + 1)) rfl rfl rfl ?_)
              refine wl_op rfl (op_assign (v := (Value.int .i64 (maxI s1.2.1 (w64 (s1.2.2 + 1))))) rfl rfl ?_)
              refine wl_nil ?_
              refine wp_region' ?_
              refine wl_op rfl (op_add (a := (i1 : Int)) (b := 1) rfl e36 rfl ?_)
              refine wl_op rfl (op_move (v := (Value.int .i64 (w64 ((i1 : Int) + 1)))) rfl rfl ?_)
              refine wl_nil ?_
              obtain rfl := Option.some.inj h1
              exact ⟨I11, e30, rfl, rfl, rfl, e34, e35, (idx_next hlt1 hk1)⟩
            · refine wp_cond_f (b := decide (s1.1 < 0)) rfl hc10 ?_
              refine wp_skip' ?_
              refine wp_region' ?_
              refine wl_op rfl (op_move (v := (Value.int .i64 (s1.2.1))) rfl e32 ?_)
              refine wl_op rfl (op_move (v := (Value.int .i64 (w64 (s1.2.2 + 1)))) rfl rfl ?_)
              refine wl_op rfl (op_max (a := s1.2.1) (b := w64 (s1.2.2 + 1)) rfl rfl rfl ?_)
              refine wl_op rfl (op_assign (v := (Value.int .i64 (maxI s1.2.1 (w64 (s1.2.2 + 1))))) rfl rfl ?_)
              refine wl_nil ?_
              refine wp_region' ?_
              refine wl_op rfl (op_add (a := (i1 : Int)) (b := 1) rfl e36 rfl ?_)
              refine wl_op rfl (op_move (v := (Value.int .i64 (w64 ((i1 : Int) + 1)))) rfl rfl ?_)
              refine wl_nil ?_
              obtain rfl := Option.some.inj h1
              exact ⟨I11, e30, e31, rfl, rfl, e34, e35, (idx_next hlt1 hk1)⟩
        · rintro f w hI2
          obtain ⟨I12, e37, e38, e39, e40, e41, e42, e43⟩ := hI2
          refine wp_seq' ?_
          refine wp_region' ?_
          refine wl_op rfl (op_lss (a := (x3.length : Int)) (b := (x3.length : Int)) rfl e43 e42 ?_)
          refine wl_nil ?_
          refine wp_seq' ?_
          refine wp_cond_f (b := decide ((x3.length : Int) < (x3.length : Int))) rfl (len_f _) ?_
          refine wp_exit' ?_
          exact ⟨I12, e37, e38, e39, e40, e41, e42⟩
      · rintro f w ⟨I13, e44, e45, e46, e47, e48, e49⟩
        refine wp_seq' ?_
        refine wp_region' ?_
        refine wl_op rfl (op_move (v := (Value.int .i64 (out1.1))) rfl e45 ?_)
        refine wl_op rfl (op_move (v := (Value.int .i64 (out1.2.1))) rfl e46 ?_)
        refine wl_op rfl (op_assign (v := (Value.int .i64 (out1.1))) rfl rfl ?_)
        refine wl_op rfl (op_assign (v := (Value.int .i64 (out1.2.1))) rfl rfl ?_)
        refine wl_op rfl (op_assign (v := (Value.int .i64 (0))) rfl rfl ?_)
        refine wl_nil ?_
        refine wp_ret' ?_
        obtain rfl := Option.some.inj h
        exact ⟨(Value.tuple #[(Value.int .i64 (out1.1)), (Value.int .i64 (out1.2.1)), (Value.int .i64 (0))]), (res3 rfl rfl rfl rfl), _, [], (le1.trans le2), (I13).drop, rfl, rfl⟩

set_option maxHeartbeats 4000000 in
set_option maxRecDepth 100000 in
theorem F39_ok {w : World} {S : PH} {Fr : List HP} {a0 : Panel} {v0 : Value} {a1 : Int} {r : Int × Int} (hI : Inv w S Fr) (h0_ : RV S v0 a0) (h : F39 a0 a1 = some r) :
    Calls Try.prog 39 [v0, (Value.int .i64 (a1))].toArray w (DoneV S Fr (Value.tuple #[(Value.int .i64 (r.1)), (Value.int .i64 (r.2))])) := by
  unfold F39 at h
  obtain ⟨c1, e1, r1⟩ := Panel.inv h0_
  subst e1
  obtain ⟨z1, m1, k1, e2⟩ := rv_form r1
  subst e2
  refine calls_enter (n := 26) (vs := [(Value.agg #[(Value.int .i64 (a0.Sensors)), (Value.slice z1 m1 k1), (Value.int .i64 (a0.Stale)), (Value.int .i64 (a0.Limit))]), (Value.int .i64 (a1))]) Try.func39 rfl rfl rfl ?_
  refine wp_seq' ?_
  refine wp_region' ?_
  refine wl_op rfl (op_box (v := (Value.agg #[(Value.int .i64 (a0.Sensors)), (Value.slice z1 m1 k1), (Value.int .i64 (a0.Stale)), (Value.int .i64 (a0.Limit))])) rfl hI rfl (fun g1 w1 I1 => ?_))
  obtain ⟨S1, le1, I2, p1⟩ := Inv.boxFreeze (x := a0) I1 (Panel.rv (s := a0) r1)
  refine wl_op rfl (op_assign (v := (Value.int .i64 (0))) rfl rfl ?_)
  refine wl_op rfl (op_assign (v := (Value.int .i64 (0))) rfl rfl ?_)
  refine wl_nil ?_
  refine wp_seq' ?_
  refine wp_seq' ?_
  refine wp_region' ?_
  refine wl_op rfl (op_load (v := (Value.pointer (some ⟨g1, 0, none⟩))) (e := a0) rfl sh24 rfl (p1.at_ I2) (fun u1 hu1 => ?_))
  obtain ⟨c2, e3, r2⟩ := Panel.inv hu1
  subst e3
  obtain ⟨z2, m2, k2, e4⟩ := rv_form r2
  subst e4
  obtain ⟨x1, hx1, h⟩ := bnd h
  refine wl_op rfl (op_call_v (vs := [(Value.agg #[(Value.int .i64 (a0.Sensors)), (Value.slice z2 m2 k2), (Value.int .i64 (a0.Stale)), (Value.int .i64 (a0.Limit))])]) (r := (Value.int .i64 (x1))) rfl ca27 rfl (args1 rfl) I2 (fun Fr_ hF_ => F27_ok hF_ (Panel.rv (s := a0) r2) hx1) (fun w2 I3 => ?_))
  refine wl_op rfl (op_assign (v := (Value.int .i64 (x1))) rfl rfl ?_)
  refine wl_nil ?_
  refine wp_seq' ?_
  refine wp_region' ?_
  refine wl_op rfl (op_move (v := (Value.int .i64 (x1))) rfl rfl ?_)
  refine wl_op rfl (op_neq (a := x1) (b := 0) rfl rfl rfl ?_)
  refine wl_nil ?_
  rcases ifs h with ⟨hc1, h⟩ | ⟨hc1, h⟩
  · refine wp_cond_t (b := x1 != 0) rfl hc1 ?_
    refine wp_seq' ?_
    refine wp_region' ?_
    refine wl_op rfl (op_move (v := (Value.int .i64 (x1))) rfl rfl ?_)
    refine wl_op rfl (op_assign (v := (Value.int .i64 (0))) rfl rfl ?_)
    refine wl_op rfl (op_assign (v := (Value.int .i64 (x1))) rfl rfl ?_)
    refine wl_nil ?_
    refine wp_ret' ?_
    obtain rfl := Option.some.inj h
    exact ⟨(Value.tuple #[(Value.int .i64 (0)), (Value.int .i64 (x1))]), (res2 rfl rfl rfl), _, [], le1, I3, rfl, rfl⟩
  · refine wp_cond_f (b := x1 != 0) rfl hc1 ?_
    refine wp_skip' ?_
    refine wp_seq' ?_
    refine wp_seq' ?_
    refine wp_region' ?_
    refine wl_op rfl (op_move (v := (Value.int .i64 (a1))) rfl rfl ?_)
    refine wl_op rfl (op_fieldAddr_t (v := (Value.pointer (some ⟨g1, 0, none⟩))) rfl fa24_1 rfl (p1.at_ I3) ?_)
    refine wl_op rfl (op_load (v := (fieldPtr (Value.pointer (some ⟨g1, 0, none⟩)) 1)) (e := a0.Doors) rfl sh22 rfl ((p1.at_ I3).fld Panel.fld1) (fun u2 hu2 => ?_))
    obtain ⟨z3, m3, k3, e5⟩ := rv_form hu2
    subst e5
    refine wl_op rfl (op_len_rv rfl Try.underlying22 rfl hu2 ?_)
    refine wl_op rfl (op_sub (a := (a0.Doors.length : Int)) (b := 1) rfl rfl rfl ?_)
    obtain ⟨x2, hx2, h⟩ := bnd h
    refine wl_op rfl (op_call_v (vs := [(Value.int .i64 (a1)), (Value.int .i64 (0)), (Value.int .i64 (w64 ((a0.Doors.length : Int) - 1)))]) (r := (Value.bool (x2))) rfl ca48 rfl (args3 rfl rfl rfl) I3 (fun Fr_ hF_ => F48_ok hF_  hx2) (fun w3 I4 => ?_))
    refine wl_op rfl (op_not (b := x2) rfl rfl ?_)
    refine wl_nil ?_
    rcases ifs h with ⟨hc2, h⟩ | ⟨hc2, h⟩
    · refine wp_cond_t (b := !x2) rfl hc2 ?_
      refine wp_seq' ?_
      refine wp_region' ?_
      refine wl_op rfl (op_assign (v := (Value.int .i64 (0))) rfl rfl ?_)
      refine wl_op rfl (op_assign (v := (Value.int .i64 (1))) rfl rfl ?_)
      refine wl_nil ?_
      refine wp_ret' ?_
      obtain rfl := Option.some.inj h
      exact ⟨(Value.tuple #[(Value.int .i64 (0)), (Value.int .i64 (1))]), (res2 rfl rfl rfl), _, [], le1, I4, rfl, rfl⟩
    · refine wp_cond_f (b := !x2) rfl hc2 ?_
      refine wp_skip' ?_
      refine wp_seq' ?_
      refine wp_region' ?_
      refine wl_op rfl (op_fieldAddr_t (v := (Value.pointer (some ⟨g1, 0, none⟩))) rfl fa24_1 rfl (p1.at_ I4) ?_)
      refine wl_op rfl (op_load (v := (fieldPtr (Value.pointer (some ⟨g1, 0, none⟩)) 1)) (e := a0.Doors) rfl sh22 rfl ((p1.at_ I4).fld Panel.fld1) (fun u3 hu3 => ?_))
      obtain ⟨z4, m4, k4, e6⟩ := rv_form hu3
      subst e6
      refine wl_op rfl (op_move (v := (Value.int .i64 (a1))) rfl rfl ?_)
      obtain ⟨x3, hx3, h⟩ := bnd h
      refine wl_op rfl (op_indexAddr_rv (v := (Value.slice z4 m4 k4)) (i := a1) (e := x3) rfl Try.underlying22 sh33 rfl hu3 rfl hx3 ?_)
      refine wl_op rfl (op_fieldAddr_t (v := (elemPtr (Value.slice z4 m4 k4) (a1) (Enc.sz Gate))) rfl fa33_0 rfl (hu3.elem I4.in_ hx3) ?_)
      refine wl_op rfl (op_load_int (v := (fieldPtr (elemPtr (Value.slice z4 m4 k4) (a1) (Enc.sz Gate)) 0)) (e := x3.Wait) rfl sh3 rfl ((hu3.elem I4.in_ hx3).fld Gate.fld0) ?_)
      refine wl_op rfl (op_sub (a := x3.Wait) (b := 1) rfl rfl rfl ?_)
      refine wl_op rfl (op_assign (v := (Value.int .i64 (w64 (x3.Wait - 1)))) rfl rfl ?_)
      refine wl_op rfl (op_assign (v := (Value.int .i64 (0))) rfl rfl ?_)
      refine wl_nil ?_
      refine wp_ret' ?_
      obtain rfl := Option.some.inj h
      exact ⟨(Value.tuple #[(Value.int .i64 (w64 (x3.Wait - 1))), (Value.int .i64 (0))]), (res2 rfl rfl rfl), _, [], le1, I4, rfl, rfl⟩

set_option maxHeartbeats 4000000 in
set_option maxRecDepth 100000 in
theorem F40_ok {w : World} {S : PH} {Fr : List HP} {a0 : Panel} {v0 : Value} {a1 : Int} {r : Int × Int} (hI : Inv w S Fr) (h0_ : RV S v0 a0) (h : F40 a0 a1 = some r) :
    Calls Try.prog 40 [v0, (Value.int .i64 (a1))].toArray w (DoneV S Fr (Value.tuple #[(Value.int .i64 (r.1)), (Value.int .i64 (r.2))])) := by
  unfold F40 at h
  obtain ⟨c1, e1, r1⟩ := Panel.inv h0_
  subst e1
  obtain ⟨z1, m1, k1, e2⟩ := rv_form r1
  subst e2
  refine calls_enter (n := 26) (vs := [(Value.agg #[(Value.int .i64 (a0.Sensors)), (Value.slice z1 m1 k1), (Value.int .i64 (a0.Stale)), (Value.int .i64 (a0.Limit))]), (Value.int .i64 (a1))]) Try.func40 rfl rfl rfl ?_
  refine wp_seq' ?_
  refine wp_region' ?_
  refine wl_op rfl (op_box (v := (Value.agg #[(Value.int .i64 (a0.Sensors)), (Value.slice z1 m1 k1), (Value.int .i64 (a0.Stale)), (Value.int .i64 (a0.Limit))])) rfl hI rfl (fun g1 w1 I1 => ?_))
  obtain ⟨S1, le1, I2, p1⟩ := Inv.boxFreeze (x := a0) I1 (Panel.rv (s := a0) r1)
  refine wl_op rfl (op_assign (v := (Value.int .i64 (0))) rfl rfl ?_)
  refine wl_op rfl (op_assign (v := (Value.int .i64 (0))) rfl rfl ?_)
  refine wl_nil ?_
  refine wp_seq' ?_
  refine wp_seq' ?_
  refine wp_region' ?_
  refine wl_op rfl (op_load (v := (Value.pointer (some ⟨g1, 0, none⟩))) (e := a0) rfl sh24 rfl (p1.at_ I2) (fun u1 hu1 => ?_))
  obtain ⟨c2, e3, r2⟩ := Panel.inv hu1
  subst e3
  obtain ⟨z2, m2, k2, e4⟩ := rv_form r2
  subst e4
  obtain ⟨x1, hx1, h⟩ := bnd h
  refine wl_op rfl (op_call_v (vs := [(Value.agg #[(Value.int .i64 (a0.Sensors)), (Value.slice z2 m2 k2), (Value.int .i64 (a0.Stale)), (Value.int .i64 (a0.Limit))])]) (r := (Value.int .i64 (x1))) rfl ca15 rfl (args1 rfl) I2 (fun Fr_ hF_ => F15_ok hF_ (Panel.rv (s := a0) r2) hx1) (fun w2 I3 => ?_))
  refine wl_op rfl (op_assign (v := (Value.int .i64 (x1))) rfl rfl ?_)
  refine wl_nil ?_
  refine wp_seq' ?_
  refine wp_region' ?_
  refine wl_op rfl (op_move (v := (Value.int .i64 (x1))) rfl rfl ?_)
  refine wl_op rfl (op_neq (a := x1) (b := 0) rfl rfl rfl ?_)
  refine wl_nil ?_
  rcases ifs h with ⟨hc1, h⟩ | ⟨hc1, h⟩
  · refine wp_cond_t (b := x1 != 0) rfl hc1 ?_
    refine wp_seq' ?_
    refine wp_region' ?_
    refine wl_op rfl (op_move (v := (Value.int .i64 (x1))) rfl rfl ?_)
    refine wl_op rfl (op_assign (v := (Value.int .i64 (0))) rfl rfl ?_)
    refine wl_op rfl (op_assign (v := (Value.int .i64 (x1))) rfl rfl ?_)
    refine wl_nil ?_
    refine wp_ret' ?_
    obtain rfl := Option.some.inj h
    exact ⟨(Value.tuple #[(Value.int .i64 (0)), (Value.int .i64 (x1))]), (res2 rfl rfl rfl), _, [], le1, I3, rfl, rfl⟩
  · refine wp_cond_f (b := x1 != 0) rfl hc1 ?_
    refine wp_skip' ?_
    refine wp_seq' ?_
    refine wp_seq' ?_
    refine wp_region' ?_
    refine wl_op rfl (op_move (v := (Value.int .i64 (a1))) rfl rfl ?_)
    refine wl_op rfl (op_fieldAddr_t (v := (Value.pointer (some ⟨g1, 0, none⟩))) rfl fa24_1 rfl (p1.at_ I3) ?_)
    refine wl_op rfl (op_load (v := (fieldPtr (Value.pointer (some ⟨g1, 0, none⟩)) 1)) (e := a0.Doors) rfl sh22 rfl ((p1.at_ I3).fld Panel.fld1) (fun u2 hu2 => ?_))
    obtain ⟨z3, m3, k3, e5⟩ := rv_form hu2
    subst e5
    refine wl_op rfl (op_len_rv rfl Try.underlying22 rfl hu2 ?_)
    refine wl_op rfl (op_sub (a := (a0.Doors.length : Int)) (b := 1) rfl rfl rfl ?_)
    obtain ⟨x2, hx2, h⟩ := bnd h
    refine wl_op rfl (op_call_v (vs := [(Value.int .i64 (a1)), (Value.int .i64 (0)), (Value.int .i64 (w64 ((a0.Doors.length : Int) - 1)))]) (r := (Value.bool (x2))) rfl ca43 rfl (args3 rfl rfl rfl) I3 (fun Fr_ hF_ => F43_ok hF_  hx2) (fun w3 I4 => ?_))
    refine wl_op rfl (op_not (b := x2) rfl rfl ?_)
    refine wl_nil ?_
    rcases ifs h with ⟨hc2, h⟩ | ⟨hc2, h⟩
    · refine wp_cond_t (b := !x2) rfl hc2 ?_
      refine wp_seq' ?_
      refine wp_region' ?_
      refine wl_op rfl (op_assign (v := (Value.int .i64 (0))) rfl rfl ?_)
      refine wl_op rfl (op_assign (v := (Value.int .i64 (1))) rfl rfl ?_)
      refine wl_nil ?_
      refine wp_ret' ?_
      obtain rfl := Option.some.inj h
      exact ⟨(Value.tuple #[(Value.int .i64 (0)), (Value.int .i64 (1))]), (res2 rfl rfl rfl), _, [], le1, I4, rfl, rfl⟩
    · refine wp_cond_f (b := !x2) rfl hc2 ?_
      refine wp_skip' ?_
      refine wp_seq' ?_
      refine wp_region' ?_
      refine wl_op rfl (op_fieldAddr_t (v := (Value.pointer (some ⟨g1, 0, none⟩))) rfl fa24_1 rfl (p1.at_ I4) ?_)
      refine wl_op rfl (op_load (v := (fieldPtr (Value.pointer (some ⟨g1, 0, none⟩)) 1)) (e := a0.Doors) rfl sh22 rfl ((p1.at_ I4).fld Panel.fld1) (fun u3 hu3 => ?_))
      obtain ⟨z4, m4, k4, e6⟩ := rv_form hu3
      subst e6
      refine wl_op rfl (op_move (v := (Value.int .i64 (a1))) rfl rfl ?_)
      obtain ⟨x3, hx3, h⟩ := bnd h
      refine wl_op rfl (op_indexAddr_rv (v := (Value.slice z4 m4 k4)) (i := a1) (e := x3) rfl Try.underlying22 sh33 rfl hu3 rfl hx3 ?_)
      refine wl_op rfl (op_fieldAddr_t (v := (elemPtr (Value.slice z4 m4 k4) (a1) (Enc.sz Gate))) rfl fa33_0 rfl (hu3.elem I4.in_ hx3) ?_)
      refine wl_op rfl (op_load_int (v := (fieldPtr (elemPtr (Value.slice z4 m4 k4) (a1) (Enc.sz Gate)) 0)) (e := x3.Wait) rfl sh3 rfl ((hu3.elem I4.in_ hx3).fld Gate.fld0) ?_)
      refine wl_op rfl (op_sub (a := x3.Wait) (b := 1) rfl rfl rfl ?_)
      refine wl_op rfl (op_assign (v := (Value.int .i64 (w64 (x3.Wait - 1)))) rfl rfl ?_)
      refine wl_op rfl (op_assign (v := (Value.int .i64 (0))) rfl rfl ?_)
      refine wl_nil ?_
      refine wp_ret' ?_
      obtain rfl := Option.some.inj h
      exact ⟨(Value.tuple #[(Value.int .i64 (w64 (x3.Wait - 1))), (Value.int .i64 (0))]), (res2 rfl rfl rfl), _, [], le1, I4, rfl, rfl⟩
end Go.Proofs.Ytfeomcdhhgeilaa.Pad
