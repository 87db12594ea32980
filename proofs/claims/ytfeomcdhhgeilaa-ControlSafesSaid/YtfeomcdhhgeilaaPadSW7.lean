/- A part of the proof: what the functions of the program compute, shown over the model. -/
import Derived.Test.YtfeomcdhhgeilaaPadSP
import Derived.Test.YtfeomcdhhgeilaaPadSW1
import Derived.Test.YtfeomcdhhgeilaaPadSW2
import Derived.Test.YtfeomcdhhgeilaaPadSW3
import Derived.KernelRfl
set_option linter.unusedVariables false
namespace Go.Proofs.Ytfeomcdhhgeilaa.Pad
open Go Go.Proofs
set_option maxHeartbeats 4000000 in
set_option maxRecDepth 100000 in
theorem F73_ok {w : World} {S : PH} {Fr : List HP} {a0 : (List Int)} {v0 : Value} {a1 : Int → Option Bool} {v1 : Value} {r : Int} (hI : Inv w S Fr) (h0_ : RV S v0 a0) (h1_ : FnV Try.prog S v1 a1) (h : F73 a0 a1 = some r) :
    Calls Try.prog 73 [v0, v1].toArray w (DoneV S Fr (Value.int .i64 (r))) := by
  unfold F73 at h
  obtain ⟨z1, m1, k1, e1⟩ := rv_form h0_
  subst e1
  refine calls_enter (n := 19) (vs := [(Value.slice z1 m1 k1), v1]) Try.func73 rfl rfl rfl ?_
  refine wp_seq' ?_
  refine wp_region' ?_
  refine wl_op rfl (op_assign (v := (Value.int .i64 (0))) rfl rfl ?_)
  refine wl_nil ?_
  refine wp_seq' ?_
  refine wp_seq' ?_
  refine wp_region' ?_
  refine wl_op rfl (op_move (v := (Value.slice z1 m1 k1)) rfl rfl ?_)
  refine wl_op rfl (op_len_rv rfl Try.underlying34 rfl h0_ ?_)
  refine wl_op rfl (op_move (v := (Value.int .i64 (0))) rfl rfl ?_)
  refine wl_nil ?_
  have hk1 : a0.length ≤ 9223372036854775807 := (rv_len h0_)
  obtain ⟨o2, hrun1, h⟩ := bnd h
  refine wp_cutN (fun f w => ∃ out1, o2 = Sum.inl out1 ∧ Inv w S (Fr) ∧ f 0 = (Value.slice z1 m1 k1) ∧ f 1 = v1 ∧ f 7 = (Value.int .i64 ((a0.length : Int)))) ?_ ?_
  · refine wp_block' ?_
    refine wp_forN (I := fun (i1 : Nat) (s1 : Unit) (f : Frm) (w : World) => Inv w S (Fr) ∧ f 0 = (Value.slice z1 m1 k1) ∧ f 1 = v1 ∧ f 7 = (Value.int .i64 ((a0.length : Int))) ∧ f 8 = (Value.int .i64 (i1 : Int))) hrun1 ⟨hI, rfl, rfl, rfl, rfl⟩ ?_ ?_
    · rintro i1 s1 f w o1 hlt1 hI1 h1 hout1
      obtain ⟨I5, e10, e11, e12, e13⟩ := hI1
      refine wp_seq' ?_
      refine wp_region' ?_
      refine wl_op rfl (op_lss (a := (i1 : Int)) (b := (a0.length : Int)) rfl e13 e12 ?_)
      refine wl_nil ?_
      refine wp_seq' ?_
      refine wp_cond_t (b := decide ((i1 : Int) < (a0.length : Int))) rfl (len_t hlt1) ?_
      refine wp_skip' ?_
      refine wp_seq' ?_
      refine wp_block' ?_
      refine wp_seq' ?_
      refine wp_region' ?_
      refine wl_op rfl (op_move (v := (Value.int .i64 ((i1 : Int)))) rfl e13 ?_)
      refine wl_op rfl (op_assign (v := (Value.int .i64 ((i1 : Int)))) rfl rfl ?_)
      refine wl_nil ?_
      refine wp_seq' ?_
      refine wp_region' ?_
      refine wl_op rfl (op_move (v := v1) rfl e11 ?_)
      refine wl_op rfl (op_move (v := (Value.slice z1 m1 k1)) rfl e10 ?_)
      refine wl_op rfl (op_move (v := (Value.int .i64 ((i1 : Int)))) rfl rfl ?_)
      obtain ⟨x5, hx5, h1⟩ := bnd h1
      refine wl_op rfl (op_indexAddr_rv (v := (Value.slice z1 m1 k1)) (i := (i1 : Int)) (e := x5) rfl Try.underlying34 sh3 rfl h0_ rfl hx5 ?_)
      refine wl_op rfl (op_load_int (v := (elemPtr (Value.slice z1 m1 k1) ((i1 : Int)) (Enc.sz Int))) (e := x5) rfl sh3 rfl (h0_.elem I5.in_ hx5) ?_)
      obtain ⟨x6, hx6, h1⟩ := bnd h1
      refine wl_op rfl (op_call_fn (v := v1) (u := (Value.int .i64 (x5))) (r := x6) rfl rfl h1_ rfl (rv_int' _) hx6 I5 (fun w3 I6 => ?_))
      refine wl_nil ?_
      rcases ifs h1 with ⟨hc3, h1⟩ | ⟨hc3, h1⟩
      · refine wp_cond_t (b := x6) rfl hc3 ?_
        refine wp_seq' ?_
        refine wp_region' ?_
        refine wl_op rfl (op_move (v := (Value.int .i64 ((i1 : Int)))) rfl rfl ?_)
        refine wl_op rfl (op_assign (v := (Value.int .i64 ((i1 : Int)))) rfl rfl ?_)
        refine wl_nil ?_
        refine wp_ret' ?_
        obtain rfl := Option.some.inj h1
        obtain rfl := (hout1 _ rfl)
        have h2 := h
        obtain rfl := Option.some.inj h2
        exact ⟨(Value.int .i64 ((i1 : Int))), (res1 rfl rfl), _, [], (PH.Le.refl _), I6, rfl, rfl⟩
      · refine wp_cond_f (b := x6) rfl hc3 ?_
        refine wp_skip' ?_
        refine wp_region' ?_
        refine wl_op rfl (op_add (a := (i1 : Int)) (b := 1) rfl e13 rfl ?_)
        refine wl_op rfl (op_move (v := (Value.int .i64 (w64 ((i1 : Int) + 1)))) rfl rfl ?_)
        refine wl_nil ?_
        obtain rfl := Option.some.inj h1
        exact ⟨_, rfl, I6, e10, e11, e12, (idx_next hlt1 hk1)⟩
    · rintro s2 f w hs1 hI2
      obtain ⟨I7, e14, e15, e16, e17⟩ := hI2
      refine wp_seq' ?_
      refine wp_region' ?_
      refine wl_op rfl (op_lss (a := (a0.length : Int)) (b := (a0.length : Int)) rfl e17 e16 ?_)
      refine wl_nil ?_
      refine wp_seq' ?_
      refine wp_cond_f (b := decide ((a0.length : Int) < (a0.length : Int))) rfl (len_f _) ?_
      refine wp_exit' ?_
      exact ⟨s2, hs1, I7, e14, e15, e16⟩
  · rintro f w ⟨out1, rfl, I8, e18, e19, e20⟩
    have h := onL_inl h
    refine wp_seq' ?_
    refine wp_region' ?_
    refine wl_op rfl (op_assign (v := (Value.int .i64 ((-1)))) rfl rfl ?_)
    refine wl_nil ?_
    refine wp_ret' ?_
    obtain rfl := Option.some.inj h
    exact ⟨(Value.int .i64 ((-1))), (res1 rfl rfl), _, [], (PH.Le.refl _), I8, rfl, rfl⟩

set_option maxHeartbeats 4000000 in
set_option maxRecDepth 100000 in
theorem F54_ok {w : World} {S : PH} {Fr : List HP} {a0 : (List Int)} {v0 : Value} {a1 : Int → Option Bool} {v1 : Value} {r : Bool} (hI : Inv w S Fr) (h0_ : RV S v0 a0) (h1_ : FnV Try.prog S v1 a1) (h : F54 a0 a1 = some r) :
    Calls Try.prog 54 [v0, v1].toArray w (DoneV S Fr (Value.bool (r))) := by
  unfold F54 at h
  obtain ⟨z1, m1, k1, e1⟩ := rv_form h0_
  subst e1
  refine calls_enter (n := 9) (vs := [(Value.slice z1 m1 k1), v1]) Try.func54 rfl rfl rfl ?_
  refine wp_seq' ?_
  refine wp_region' ?_
  refine wl_op rfl (op_assign (v := (Value.bool (false))) rfl rfl ?_)
  refine wl_nil ?_
  refine wp_seq' ?_
  refine wp_region' ?_
  refine wl_op rfl (op_move (v := (Value.slice z1 m1 k1)) rfl rfl ?_)
  refine wl_op rfl (op_move (v := v1) rfl rfl ?_)
  obtain ⟨x1, hx1, h⟩ := bnd h
  refine wl_op rfl (op_call_v (vs := [(Value.slice z1 m1 k1), v1]) (r := (Value.int .i64 (x1))) rfl ca73 rfl (args2 rfl rfl) hI (fun Fr_ hF_ => F73_ok hF_ h0_ h1_ hx1) (fun w1 I1 => ?_))
  refine wl_op rfl (op_geq (a := x1) (b := 0) rfl rfl rfl ?_)
  refine wl_op rfl (op_assign (v := (Value.bool (decide (0 ≤ x1)))) rfl rfl ?_)
  refine wl_nil ?_
  refine wp_ret' ?_
  obtain rfl := Option.some.inj h
  exact ⟨(Value.bool (decide (0 ≤ x1))), (res1 rfl rfl), _, [], (PH.Le.refl _), I1, rfl, rfl⟩

set_option maxHeartbeats 4000000 in
set_option maxRecDepth 100000 in
theorem F74_ok {w : World} {S : PH} {Fr : List HP} {a0 : (List Control_tick)} {v0 : Value} {a1 : Control_tick → Option Bool} {v1 : Value} {r : Int} (hI : Inv w S Fr) (h0_ : RV S v0 a0) (h1_ : FnV Try.prog S v1 a1) (h : F74 a0 a1 = some r) :
    Calls Try.prog 74 [v0, v1].toArray w (DoneV S Fr (Value.int .i64 (r))) := by
  unfold F74 at h
  obtain ⟨z1, m1, k1, e1⟩ := rv_form h0_
  subst e1
  refine calls_enter (n := 19) (vs := [(Value.slice z1 m1 k1), v1]) Try.func74 rfl rfl rfl ?_
  refine wp_seq' ?_
  refine wp_region' ?_
  refine wl_op rfl (op_assign (v := (Value.int .i64 (0))) rfl rfl ?_)
  refine wl_nil ?_
  refine wp_seq' ?_
  refine wp_seq' ?_
  refine wp_region' ?_
  refine wl_op rfl (op_move (v := (Value.slice z1 m1 k1)) rfl rfl ?_)
  refine wl_op rfl (op_len_rv rfl Try.underlying72 rfl h0_ ?_)
  refine wl_op rfl (op_move (v := (Value.int .i64 (0))) rfl rfl ?_)
  refine wl_nil ?_
  have hk1 : a0.length ≤ 9223372036854775807 := (rv_len h0_)
  obtain ⟨o2, hrun1, h⟩ := bnd h
  refine wp_cutN (fun f w => ∃ out1, o2 = Sum.inl out1 ∧ Inv w S (Fr) ∧ f 0 = (Value.slice z1 m1 k1) ∧ f 1 = v1 ∧ f 7 = (Value.int .i64 ((a0.length : Int)))) ?_ ?_
  · refine wp_block' ?_
    refine wp_forN (I := fun (i1 : Nat) (s1 : Unit) (f : Frm) (w : World) => Inv w S (Fr) ∧ f 0 = (Value.slice z1 m1 k1) ∧ f 1 = v1 ∧ f 7 = (Value.int .i64 ((a0.length : Int))) ∧ f 8 = (Value.int .i64 (i1 : Int))) hrun1 ⟨hI, rfl, rfl, rfl, rfl⟩ ?_ ?_
    · rintro i1 s1 f w o1 hlt1 hI1 h1 hout1
      obtain ⟨I5, e22, e23, e24, e25⟩ := hI1
      refine wp_seq' ?_
      refine wp_region' ?_
      refine wl_op rfl (op_lss (a := (i1 : Int)) (b := (a0.length : Int)) rfl e25 e24 ?_)
      refine wl_nil ?_
      refine wp_seq' ?_
      refine wp_cond_t (b := decide ((i1 : Int) < (a0.length : Int))) rfl (len_t hlt1) ?_
      refine wp_skip' ?_
      refine wp_seq' ?_
      refine wp_block' ?_
      refine wp_seq' ?_
      refine wp_region' ?_
      refine wl_op rfl (op_move (v := (Value.int .i64 ((i1 : Int)))) rfl e25 ?_)
      refine wl_op rfl (op_assign (v := (Value.int .i64 ((i1 : Int)))) rfl rfl ?_)
      refine wl_nil ?_
      refine wp_seq' ?_
      refine wp_region' ?_
      refine wl_op rfl (op_move (v := v1) rfl e23 ?_)
      refine wl_op rfl (op_move (v := (Value.slice z1 m1 k1)) rfl e22 ?_)
      refine wl_op rfl (op_move (v := (Value.int .i64 ((i1 : Int)))) rfl rfl ?_)
      obtain ⟨x5, hx5, h1⟩ := bnd h1
      refine wl_op rfl (op_indexAddr_rv (v := (Value.slice z1 m1 k1)) (i := (i1 : Int)) (e := x5) rfl Try.underlying72 sh87 rfl h0_ rfl hx5 ?_)
      refine wl_op rfl (op_load (v := (elemPtr (Value.slice z1 m1 k1) ((i1 : Int)) (Enc.sz Control_tick))) (e := x5) rfl sh87 rfl (h0_.elem I5.in_ hx5) (fun u3 hu3 => ?_))
      obtain ⟨c11, c12, c13, c14, c15, e26, r11, r12, r13, r14, r15⟩ := Control_tick.inv hu3
      subst e26
      obtain ⟨z12, m12, k12, e27⟩ := rv_form r11
      subst e27
      obtain ⟨z13, m13, k13, e28⟩ := rv_form r12
      subst e28
      obtain ⟨z14, m14, k14, e29⟩ := rv_form r13
      subst e29
      obtain ⟨z15, m15, k15, e30⟩ := rv_form r14
      subst e30
      obtain ⟨z16, m16, k16, e31⟩ := rv_form r15
      subst e31
      obtain ⟨x6, hx6, h1⟩ := bnd h1
      refine wl_op rfl (op_call_fn (v := v1) (u := (Value.agg #[(Value.bool (x5.power)), (Value.slice z12 m12 k12), (Value.slice z13 m13 k13), (Value.slice z14 m14 k14), (Value.slice z15 m15 k15), (Value.slice z16 m16 k16)])) (r := x6) rfl rfl h1_ rfl (Control_tick.rv (s := x5) r11 r12 r13 r14 r15) hx6 I5 (fun w3 I6 => ?_))
      refine wl_nil ?_
      rcases ifs h1 with ⟨hc3, h1⟩ | ⟨hc3, h1⟩
      · refine wp_cond_t (b := x6) rfl hc3 ?_
        refine wp_seq' ?_
        refine wp_region' ?_
        refine wl_op rfl (op_move (v := (Value.int .i64 ((i1 : Int)))) rfl rfl ?_)
        refine wl_op rfl (op_assign (v := (Value.int .i64 ((i1 : Int)))) rfl rfl ?_)
        refine wl_nil ?_
        refine wp_ret' ?_
        obtain rfl := Option.some.inj h1
        obtain rfl := (hout1 _ rfl)
        have h2 := h
        obtain rfl := Option.some.inj h2
        exact ⟨(Value.int .i64 ((i1 : Int))), (res1 rfl rfl), _, [], (PH.Le.refl _), I6, rfl, rfl⟩
      · refine wp_cond_f (b := x6) rfl hc3 ?_
        refine wp_skip' ?_
        refine wp_region' ?_
        refine wl_op rfl (op_add (a := (i1 : Int)) (b := 1) rfl e25 rfl ?_)
        refine wl_op rfl (op_move (v := (Value.int .i64 (w64 ((i1 : Int) + 1)))) rfl rfl ?_)
        refine wl_nil ?_
        obtain rfl := Option.some.inj h1
        exact ⟨_, rfl, I6, e22, e23, e24, (idx_next hlt1 hk1)⟩
    · rintro s2 f w hs1 hI2
      obtain ⟨I7, e32, e33, e34, e35⟩ := hI2
      refine wp_seq' ?_
      refine wp_region' ?_
      refine wl_op rfl (op_lss (a := (a0.length : Int)) (b := (a0.length : Int)) rfl e35 e34 ?_)
      refine wl_nil ?_
      refine wp_seq' ?_
      refine wp_cond_f (b := decide ((a0.length : Int) < (a0.length : Int))) rfl (len_f _) ?_
      refine wp_exit' ?_
      exact ⟨s2, hs1, I7, e32, e33, e34⟩
  · rintro f w ⟨out1, rfl, I8, e36, e37, e38⟩
    have h := onL_inl h
    refine wp_seq' ?_
    refine wp_region' ?_
    refine wl_op rfl (op_assign (v := (Value.int .i64 ((-1)))) rfl rfl ?_)
    refine wl_nil ?_
    refine wp_ret' ?_
    obtain rfl := Option.some.inj h
    exact ⟨(Value.int .i64 ((-1))), (res1 rfl rfl), _, [], (PH.Le.refl _), I8, rfl, rfl⟩

set_option maxHeartbeats 4000000 in
set_option maxRecDepth 100000 in
theorem F56_ok {w : World} {S : PH} {Fr : List HP} {a0 : (List Control_tick)} {v0 : Value} {a1 : Control_tick → Option Bool} {v1 : Value} {r : Bool} (hI : Inv w S Fr) (h0_ : RV S v0 a0) (h1_ : FnV Try.prog S v1 a1) (h : F56 a0 a1 = some r) :
    Calls Try.prog 56 [v0, v1].toArray w (DoneV S Fr (Value.bool (r))) := by
  unfold F56 at h
  obtain ⟨z1, m1, k1, e1⟩ := rv_form h0_
  subst e1
  refine calls_enter (n := 9) (vs := [(Value.slice z1 m1 k1), v1]) Try.func56 rfl rfl rfl ?_
  refine wp_seq' ?_
  refine wp_region' ?_
  refine wl_op rfl (op_assign (v := (Value.bool (false))) rfl rfl ?_)
  refine wl_nil ?_
  refine wp_seq' ?_
  refine wp_region' ?_
  refine wl_op rfl (op_move (v := (Value.slice z1 m1 k1)) rfl rfl ?_)
  refine wl_op rfl (op_move (v := v1) rfl rfl ?_)
  obtain ⟨x1, hx1, h⟩ := bnd h
  refine wl_op rfl (op_call_v (vs := [(Value.slice z1 m1 k1), v1]) (r := (Value.int .i64 (x1))) rfl ca74 rfl (args2 rfl rfl) hI (fun Fr_ hF_ => F74_ok hF_ h0_ h1_ hx1) (fun w1 I1 => ?_))
  refine wl_op rfl (op_geq (a := x1) (b := 0) rfl rfl rfl ?_)
  refine wl_op rfl (op_assign (v := (Value.bool (decide (0 ≤ x1)))) rfl rfl ?_)
  refine wl_nil ?_
  refine wp_ret' ?_
  obtain rfl := Option.some.inj h
  exact ⟨(Value.bool (decide (0 ≤ x1))), (res1 rfl rfl), _, [], (PH.Le.refl _), I1, rfl, rfl⟩

set_option maxHeartbeats 4000000 in
set_option maxRecDepth 100000 in
theorem F55_ok {w : World} {S : PH} {Fr : List HP} {a0 : Int} {a1 : Panel} {v1 : Value} {r : Bool} (hI : Inv w S Fr) (h1_ : PtS S v1 a1) (h : F55 a0 a1 = some r) :
    Calls Try.prog 55 [(Value.int .i64 (a0)), v1].toArray w (DoneV S Fr (Value.bool (r))) := by
  unfold F55 at h
  refine calls_enter (n := 12) (vs := [(Value.int .i64 (a0)), v1]) Try.func55 rfl rfl rfl ?_
  refine wp_seq' ?_
  refine wp_region' ?_
  refine wl_op rfl (op_assign (v := (Value.bool (false))) rfl rfl ?_)
  refine wl_nil ?_
  refine wp_seq' ?_
  refine wp_region' ?_
  refine wl_op rfl (op_move (v := (Value.int .i64 (a0))) rfl rfl ?_)
  refine wl_op rfl (op_fieldAddr_t (v := v1) rfl fa24_1 rfl (h1_.at_ hI) ?_)
  refine wl_op rfl (op_load (v := (fieldPtr v1 1)) (e := a1.Doors) rfl sh22 rfl ((h1_.at_ hI).fld Panel.fld1) (fun u1 hu1 => ?_))
  obtain ⟨z1, m1, k1, e1⟩ := rv_form hu1
  subst e1
  refine wl_op rfl (op_len_rv rfl Try.underlying22 rfl hu1 ?_)
  obtain ⟨x1, hx1, h⟩ := bnd h
  refine wl_op rfl (op_shl (a := 1) (b := (a1.Doors.length : Int)) rfl rfl rfl (nn?_some hx1) ?_)
  refine wl_op rfl (op_sub (a := shlI 1 (a1.Doors.length : Int)) (b := 1) rfl rfl rfl ?_)
  obtain ⟨x2, hx2, h⟩ := bnd h
  refine wl_op rfl (op_call_v (vs := [(Value.int .i64 (a0)), (Value.int .i64 (0)), (Value.int .i64 (w64 ((shlI 1 (a1.Doors.length : Int)) - 1)))]) (r := (Value.bool (x2))) rfl ca48 rfl (args3 rfl rfl rfl) hI (fun Fr_ hF_ => F48_ok hF_  hx2) (fun w1 I1 => ?_))
  refine wl_op rfl (op_not (b := x2) rfl rfl ?_)
  refine wl_op rfl (op_assign (v := (Value.bool (!x2))) rfl rfl ?_)
  refine wl_nil ?_
  refine wp_ret' ?_
  obtain rfl := Option.some.inj h
  exact ⟨(Value.bool (!x2)), (res1 rfl rfl), _, [], (PH.Le.refl _), I1, rfl, rfl⟩

set_option maxHeartbeats 4000000 in
set_option maxRecDepth 100000 in
theorem F57_ok {w : World} {S : PH} {Fr : List HP} {a0 : Control_tick} {v0 : Value} {a1 : Int} {v1 : Value} {r : Bool} (hI : Inv w S Fr) (h0_ : RV S v0 a0) (h1_ : PtS S v1 a1) (h : F57 a0 a1 = some r) :
    Calls Try.prog 57 [v0, v1].toArray w (DoneV S Fr (Value.bool (r))) := by
  unfold F57 at h
  obtain ⟨c1, c2, c3, c4, c5, e1, r1, r2, r3, r4, r5⟩ := Control_tick.inv h0_
  subst e1
  obtain ⟨z1, m1, k1, e2⟩ := rv_form r1
  subst e2
  obtain ⟨z2, m2, k2, e3⟩ := rv_form r2
  subst e3
  obtain ⟨z3, m3, k3, e4⟩ := rv_form r3
  subst e4
  obtain ⟨z4, m4, k4, e5⟩ := rv_form r4
  subst e5
  obtain ⟨z5, m5, k5, e6⟩ := rv_form r5
  subst e6
  refine calls_enter (n := 10) (vs := [(Value.agg #[(Value.bool (a0.power)), (Value.slice z1 m1 k1), (Value.slice z2 m2 k2), (Value.slice z3 m3 k3), (Value.slice z4 m4 k4), (Value.slice z5 m5 k5)]), v1]) Try.func57 rfl rfl rfl ?_
  refine wp_seq' ?_
  refine wp_region' ?_
  refine wl_op rfl (op_box (v := (Value.agg #[(Value.bool (a0.power)), (Value.slice z1 m1 k1), (Value.slice z2 m2 k2), (Value.slice z3 m3 k3), (Value.slice z4 m4 k4), (Value.slice z5 m5 k5)])) rfl hI rfl (fun g1 w1 I1 => ?_))
  obtain ⟨S1, le1, I2, p1⟩ := Inv.boxFreeze (x := a0) I1 (Control_tick.rv (s := a0) r1 r2 r3 r4 r5)
  refine wl_op rfl (op_assign (v := (Value.bool (false))) rfl rfl ?_)
  refine wl_nil ?_
  refine wp_seq' ?_
  refine wp_region' ?_
  refine wl_op rfl (op_fieldAddr_t (v := (Value.pointer (some ⟨g1, 0, none⟩))) rfl fa87_3 rfl (p1.at_ I2) ?_)
  refine wl_op rfl (op_load (v := (fieldPtr (Value.pointer (some ⟨g1, 0, none⟩)) 3)) (e := a0.said) rfl sh34 rfl ((p1.at_ I2).fld Control_tick.fld3) (fun u1 hu1 => ?_))
  obtain ⟨z6, m6, k6, e7⟩ := rv_form hu1
  subst e7
  refine wl_op rfl (op_load_int (v := v1) (e := a1) rfl sh3 rfl ((h1_.mono le1).at_ I2) ?_)
  obtain ⟨x1, hx1, h⟩ := bnd h
  refine wl_op rfl (op_indexAddr_rv (v := (Value.slice z6 m6 k6)) (i := a1) (e := x1) rfl Try.underlying34 sh3 rfl hu1 rfl hx1 ?_)
  refine wl_op rfl (op_load_int (v := (elemPtr (Value.slice z6 m6 k6) (a1) (Enc.sz Int))) (e := x1) rfl sh3 rfl (hu1.elem I2.in_ hx1) ?_)
  refine wl_op rfl (op_eql (a := x1) (b := 1) rfl rfl rfl ?_)
  refine wl_op rfl (op_assign (v := (Value.bool (x1 == 1))) rfl rfl ?_)
  refine wl_nil ?_
  refine wp_ret' ?_
  obtain rfl := Option.some.inj h
  exact ⟨(Value.bool (x1 == 1)), (res1 rfl rfl), _, [], le1, I2, rfl, rfl⟩

set_option maxHeartbeats 4000000 in
set_option maxRecDepth 100000 in
theorem F34_ok {w : World} {S : PH} {Fr : List HP} {a0 : Panel} {v0 : Value} {a1 : Int} {a2 : (List Signal)} {v2 : Value} {a3 : (List Int)} {v3 : Value} {r : Int × Int × Int} (hI : Inv w S Fr) (h0_ : RV S v0 a0) (h2_ : RV S v2 a2) (h3_ : RV S v3 a3) (h : F34 a0 a1 a2 a3 = some r) :
    Calls Try.prog 34 [v0, (Value.int .i64 (a1)), v2, v3].toArray w (DoneV S Fr (Value.tuple #[(Value.int .i64 (r.1)), (Value.int .i64 (r.2.1)), (Value.int .i64 (r.2.2))])) := by
  unfold F34 at h
  obtain ⟨c1, e1, r1⟩ := Panel.inv h0_
  subst e1
  obtain ⟨z1, m1, k1, e2⟩ := rv_form r1
  subst e2
  obtain ⟨z2, m2, k2, e3⟩ := rv_form h2_
  subst e3
  obtain ⟨z3, m3, k3, e4⟩ := rv_form h3_
  subst e4
  refine calls_enter (n := 90) (vs := [(Value.agg #[(Value.int .i64 (a0.Sensors)), (Value.slice z1 m1 k1), (Value.int .i64 (a0.Stale)), (Value.int .i64 (a0.Limit))]), (Value.int .i64 (a1)), (Value.slice z2 m2 k2), (Value.slice z3 m3 k3)]) Try.func34 rfl rfl rfl ?_
  refine wp_seq' ?_
  refine wp_region' ?_
  refine wl_op rfl (op_box (v := (Value.agg #[(Value.int .i64 (a0.Sensors)), (Value.slice z1 m1 k1), (Value.int .i64 (a0.Stale)), (Value.int .i64 (a0.Limit))])) rfl hI rfl (fun g1 w1 I1 => ?_))
  obtain ⟨S1, le1, I2, p1⟩ := Inv.boxFreeze (x := a0) I1 (Panel.rv (s := a0) r1)
  refine wl_op rfl (op_assign (v := (Value.int .i64 (0))) rfl rfl ?_)
  refine wl_op rfl (op_assign (v := (Value.int .i64 (0))) rfl rfl ?_)
  refine wl_op rfl (op_assign (v := (Value.int .i64 (0))) rfl rfl ?_)
  refine wl_nil ?_
  refine wp_seq' ?_
  refine wp_region' ?_
  refine wl_op rfl (op_load (v := (Value.pointer (some ⟨g1, 0, none⟩))) (e := a0) rfl sh24 rfl (p1.at_ I2) (fun u1 hu1 => ?_))
  obtain ⟨c2, e5, r2⟩ := Panel.inv hu1
  subst e5
  obtain ⟨z4, m4, k4, e6⟩ := rv_form r2
  subst e6
  refine wl_op rfl (op_move (v := (Value.int .i64 (a1))) rfl rfl ?_)
  refine wl_op rfl (op_move (v := (Value.slice z2 m2 k2)) rfl rfl ?_)
  obtain ⟨x1, hx1, h⟩ := bnd h
  refine wl_op rfl (op_call (vs := [(Value.agg #[(Value.int .i64 (a0.Sensors)), (Value.slice z4 m4 k4), (Value.int .i64 (a0.Stale)), (Value.int .i64 (a0.Limit))]), (Value.int .i64 (a1)), (Value.slice z2 m2 k2)]) rfl ca45 rfl (args3 rfl rfl rfl) (F45_ok I2 (Panel.rv (s := a0) r2) (h2_.mono le1) hx1) (fun v1 w2 S2 O1 le2 I3 hv1 => ?_))
  obtain ⟨z5, m5, k5, rfl, rfl⟩ := hv1
  obtain ⟨S3, le3, I4, r3⟩ := Inv.rowFreeze I3
  refine wl_op rfl (op_move (v := (Value.tuple #[(Value.slice z5 m5 k5), (Value.int .i64 (x1.2))])) rfl rfl ?_)
  refine wl_op rfl (op_extract (v := (Value.slice z5 m5 k5)) rfl rfl rfl ?_)
  refine wl_op rfl (op_extract (v := (Value.int .i64 (x1.2))) rfl rfl rfl ?_)
  refine wl_op rfl (op_assign (v := (Value.slice z5 m5 k5)) rfl rfl ?_)
  refine wl_op rfl (op_assign (v := (Value.int .i64 (x1.2))) rfl rfl ?_)
  refine wl_nil ?_
  refine wp_seq' ?_
  refine wp_seq' ?_
  refine wp_region' ?_
  refine wl_op rfl (op_move (v := (Value.int .i64 (x1.2))) rfl rfl ?_)
  refine wl_op rfl (op_neq (a := x1.2) (b := 0) rfl rfl rfl ?_)
  refine wl_nil ?_
  rcases ifs h with ⟨hc1, h⟩ | ⟨hc1, h⟩
  · refine wp_cond_t (b := x1.2 != 0) rfl hc1 ?_
    refine wp_seq' ?_
    refine wp_region' ?_
    refine wl_op rfl (op_move (v := (Value.int .i64 (x1.2))) rfl rfl ?_)
    refine wl_op rfl (op_assign (v := (Value.int .i64 (0))) rfl rfl ?_)
    refine wl_op rfl (op_assign (v := (Value.int .i64 (0))) rfl rfl ?_)
    refine wl_op rfl (op_assign (v := (Value.int .i64 (x1.2))) rfl rfl ?_)
    refine wl_nil ?_
    refine wp_ret' ?_
    obtain rfl := Option.some.inj h
    exact ⟨(Value.tuple #[(Value.int .i64 (0)), (Value.int .i64 (0)), (Value.int .i64 (x1.2))]), (res3 rfl rfl rfl rfl), _, [], ((le1.trans le2).trans le3), I4, rfl, rfl⟩
  · refine wp_cond_f (b := x1.2 != 0) rfl hc1 ?_
    refine wp_skip' ?_
    obtain ⟨ov2, h2, h⟩ := bnd h
    refine wp_cut (fun f w => ∃ v2, ov2 = Sum.inl v2 ∧ Inv w S3 (Fr) ∧ f 3 = (Value.slice z3 m3 k3) ∧ f 4 = (Value.pointer (some ⟨g1, 0, none⟩)) ∧ f 11 = (Value.slice z5 m5 k5)) ?_ ?_
    · refine wp_seq' ?_
      refine wp_region' ?_
      refine wl_op rfl (op_move (v := (Value.slice z3 m3 k3)) rfl rfl ?_)
      refine wl_op rfl (op_len_rv rfl Try.underlying34 rfl (h3_.mono ((le1.trans le2).trans le3)) ?_)
      refine wl_op rfl (op_move (v := (Value.int .i64 (a1))) rfl rfl ?_)
      refine wl_op rfl (op_neq (a := (a3.length : Int)) (b := a1) rfl rfl rfl ?_)
      refine wl_op rfl (op_move (v := (Value.bool ((a3.length : Int) != a1))) rfl rfl ?_)
      rcases ifs h2 with ⟨hc4, h2⟩ | ⟨hc4, h2⟩
      · refine wl_skip (c := (a3.length : Int) != a1) rfl rfl rfl rfl hc4 rfl ?_
        refine wl_skip (c := (a3.length : Int) != a1) rfl rfl rfl rfl hc4 rfl ?_
        refine wl_skip (c := (a3.length : Int) != a1) rfl rfl rfl rfl hc4 rfl ?_
        refine wl_op rfl (op_pick_t (c := (a3.length : Int) != a1) (a := (Value.bool (true))) rfl rfl hc4 rfl ?_)
        refine wl_nil ?_
        refine wp_cond_t (b := true) rfl rfl ?_
        refine wp_seq' ?_
        refine wp_region' ?_
        refine wl_op rfl (op_assign (v := (Value.int .i64 (0))) rfl rfl ?_)
        refine wl_op rfl (op_assign (v := (Value.int .i64 (0))) rfl rfl ?_)
        refine wl_op rfl (op_assign (v := (Value.int .i64 (1))) rfl rfl ?_)
        refine wl_nil ?_
        refine wp_ret' ?_
        obtain rfl := Option.some.inj h2
        have h3 := h
        obtain rfl := Option.some.inj h3
        exact ⟨(Value.tuple #[(Value.int .i64 (0)), (Value.int .i64 (0)), (Value.int .i64 (1))]), (res3 rfl rfl rfl rfl), _, [], ((le1.trans le2).trans le3), I4, rfl, rfl⟩
      · refine wl_taken (c := (a3.length : Int) != a1) rfl rfl rfl rfl hc4 (op_move (v := (Value.slice z3 m3 k3)) rfl rfl ?_)
        refine wl_taken (c := (a3.length : Int) != a1) rfl rfl rfl rfl hc4 (op_makeFunc (fv := #[]) (cv := #[(Value.pointer (some ⟨g1, 0, none⟩))]) rfl arr0 (arr1 rfl) ?_)
        obtain ⟨x3, hx3, h2⟩ := bnd h2
        refine wl_taken (c := (a3.length : Int) != a1) rfl rfl rfl rfl hc4 (op_call_v (vs := [(Value.slice z3 m3 k3), (Value.func (.func 55) #[] #[(Value.pointer (some ⟨g1, 0, none⟩))])]) (r := (Value.bool (x3))) rfl ca54 rfl (args2 rfl rfl) I4 (fun Fr_ hF_ => F54_ok hF_ (h3_.mono ((le1.trans le2).trans le3)) ⟨55, [(Value.pointer (some ⟨g1, 0, none⟩))], rfl, ca55, fun T_ w_ Fr_ u_ x_ r_ hle_ hI_ hu_ hr_ => by have e_ := rv_int hu_; subst e_; exact F55_ok hI_ ((p1.mono (le2.trans le3)).mono hle_) hr_⟩ hx3) (fun w4 I6 => ?_))
        refine wl_op rfl (op_pick_f (c := (a3.length : Int) != a1) (b := (Value.bool (x3))) rfl rfl hc4 rfl ?_)
        refine wl_nil ?_
        rcases ifs h2 with ⟨hc5, h2⟩ | ⟨hc5, h2⟩
        · refine wp_cond_t (b := x3) rfl hc5 ?_
          refine wp_seq' ?_
          refine wp_region' ?_
          refine wl_op rfl (op_assign (v := (Value.int .i64 (0))) rfl rfl ?_)
          refine wl_op rfl (op_assign (v := (Value.int .i64 (0))) rfl rfl ?_)
          refine wl_op rfl (op_assign (v := (Value.int .i64 (1))) rfl rfl ?_)
          refine wl_nil ?_
          refine wp_ret' ?_
          obtain rfl := Option.some.inj h2
          have h3 := h
          obtain rfl := Option.some.inj h3
          exact ⟨(Value.tuple #[(Value.int .i64 (0)), (Value.int .i64 (0)), (Value.int .i64 (1))]), (res3 rfl rfl rfl rfl), _, [], ((le1.trans le2).trans le3), I6, rfl, rfl⟩
        · refine wp_cond_f (b := x3) rfl hc5 ?_
          refine wp_skip' ?_
          obtain rfl := Option.some.inj h2
          exact ⟨_, rfl, I6, rfl, rfl, rfl⟩
    · rintro f w ⟨v2, rfl, I7, e7, e8, e9⟩
      have h := onL_inl h
      refine wp_seq' ?_
      refine wp_seq' ?_
      refine wp_region' ?_
      refine wl_op rfl (op_move (v := (Value.slice z3 m3 k3)) rfl e7 ?_)
      refine wl_op rfl (op_len_rv rfl Try.underlying34 rfl (h3_.mono ((le1.trans le2).trans le3)) ?_)
      refine wl_op rfl (op_move (v := (Value.int .i64 (0))) rfl rfl ?_)
      refine wl_nil ?_
      have hk4 : a3.length ≤ 9223372036854775807 := (rv_len h3_)
      obtain ⟨o8, hrun4, h⟩ := bnd h
      refine wp_cutN (fun f w => ∃ out4, o8 = Sum.inl out4 ∧ ∃ (S_ : PH), S3.Le S_ ∧ Inv w S_ (Fr) ∧ f 4 = (Value.pointer (some ⟨g1, 0, none⟩)) ∧ f 11 = (Value.slice z5 m5 k5) ∧ f 36 = (Value.slice z3 m3 k3) ∧ f 37 = (Value.int .i64 ((a3.length : Int)))) ?_ ?_
      · refine wp_block' ?_
        refine wp_forN (I := fun (i4 : Nat) (s7 : Unit) (f : Frm) (w : World) => ∃ (S_ : PH), S3.Le S_ ∧ Inv w S_ (Fr) ∧ f 4 = (Value.pointer (some ⟨g1, 0, none⟩)) ∧ f 11 = (Value.slice z5 m5 k5) ∧ f 36 = (Value.slice z3 m3 k3) ∧ f 37 = (Value.int .i64 ((a3.length : Int))) ∧ f 38 = (Value.int .i64 (i4 : Int))) hrun4 ⟨_, (PH.Le.refl _), I7, e8, e9, rfl, rfl, rfl⟩ ?_ ?_
        · rintro i4 s7 f w o7 hlt4 hI79 h46 hout4
          obtain ⟨S105, le105, I209, e433, e434, e435, e436, e437⟩ := hI79
          refine wp_seq' ?_
          refine wp_region' ?_
          refine wl_op rfl (op_lss (a := (i4 : Int)) (b := (a3.length : Int)) rfl e437 e436 ?_)
          refine wl_nil ?_
          refine wp_seq' ?_
          refine wp_cond_t (b := decide ((i4 : Int) < (a3.length : Int))) rfl (len_t hlt4) ?_
          refine wp_skip' ?_
          refine wp_seq' ?_
          refine wp_block' ?_
          refine wp_seq' ?_
          refine wp_region' ?_
          refine wl_op rfl (op_move (v := (Value.int .i64 ((i4 : Int)))) rfl e437 ?_)
          obtain ⟨x115, hx115, h46⟩ := bnd h46
          refine wl_op rfl (op_indexAddr_rv (v := (Value.slice z3 m3 k3)) (i := (i4 : Int)) (e := x115) rfl Try.underlying34 sh3 e435 (h3_.mono (((le1.trans le2).trans le3).trans le105)) e437 hx115 ?_)
          refine wl_op rfl (op_load_int (v := (elemPtr (Value.slice z3 m3 k3) ((i4 : Int)) (Enc.sz Int))) (e := x115) rfl sh3 rfl ((h3_.mono (((le1.trans le2).trans le3).trans le105)).elem I209.in_ hx115) ?_)
          refine wl_op rfl (op_assign (v := (Value.int .i64 ((i4 : Int)))) rfl rfl ?_)
          refine wl_op rfl (op_assign (v := (Value.int .i64 (x115))) rfl rfl ?_)
          refine wl_nil ?_
          refine wp_seq' ?_
          refine wp_region' ?_
          refine wl_op rfl (op_fieldAddr_t (v := (Value.pointer (some ⟨g1, 0, none⟩))) rfl fa24_1 e433 ((p1.mono ((le2.trans le3).trans le105)).at_ I209) ?_)
          refine wl_op rfl (op_load (v := (fieldPtr (Value.pointer (some ⟨g1, 0, none⟩)) 1)) (e := a0.Doors) rfl sh22 rfl (((p1.mono ((le2.trans le3).trans le105)).at_ I209).fld Panel.fld1) (fun u53 hu53 => ?_))
          obtain ⟨z57, m57, k57, e438⟩ := rv_form hu53
          subst e438
          refine wl_op rfl (op_len_rv rfl Try.underlying22 rfl hu53 ?_)
          refine wl_op rfl (op_move (v := (Value.int .i64 (0))) rfl rfl ?_)
          refine wl_nil ?_
          have hk5 : a0.Doors.length ≤ 9223372036854775807 := (rv_len hu53)
          obtain ⟨o10, hrun5, h46⟩ := bnd h46
          refine wp_cutN (fun f w => ∃ out5, o10 = Sum.inl out5 ∧ ∃ (S_ : PH), S105.Le S_ ∧ Inv w S_ (Fr) ∧ f 4 = (Value.pointer (some ⟨g1, 0, none⟩)) ∧ f 11 = (Value.slice z5 m5 k5) ∧ f 12 = (Value.int .i64 ((i4 : Int))) ∧ f 13 = (Value.int .i64 (x115)) ∧ f 36 = (Value.slice z3 m3 k3) ∧ f 37 = (Value.int .i64 ((a3.length : Int))) ∧ f 38 = (Value.int .i64 ((i4 : Int))) ∧ f 44 = (Value.slice z57 m57 k57) ∧ f 45 = (Value.int .i64 ((a0.Doors.length : Int)))) ?_ ?_
          · refine wp_block' ?_
            refine wp_forN (I := fun (i5 : Nat) (s8 : Unit) (f : Frm) (w : World) => ∃ (S_ : PH), S105.Le S_ ∧ Inv w S_ (Fr) ∧ f 4 = (Value.pointer (some ⟨g1, 0, none⟩)) ∧ f 11 = (Value.slice z5 m5 k5) ∧ f 12 = (Value.int .i64 ((i4 : Int))) ∧ f 13 = (Value.int .i64 (x115)) ∧ f 36 = (Value.slice z3 m3 k3) ∧ f 37 = (Value.int .i64 ((a3.length : Int))) ∧ f 38 = (Value.int .i64 ((i4 : Int))) ∧ f 44 = (Value.slice z57 m57 k57) ∧ f 45 = (Value.int .i64 ((a0.Doors.length : Int))) ∧ f 46 = (Value.int .i64 (i5 : Int))) hrun5 ⟨_, (PH.Le.refl _), I209, e433, e434, rfl, rfl, e435, e436, e437, rfl, rfl, rfl⟩ ?_ ?_
            · rintro i5 s8 f w o9 hlt5 hI98 h57 hout5
              obtain ⟨S129, le129, I258, e526, e527, e528, e529, e530, e531, e532, e533, e534, e535⟩ := hI98
              refine wp_seq' ?_
              refine wp_region' ?_
              refine wl_op rfl (op_lss (a := (i5 : Int)) (b := (a0.Doors.length : Int)) rfl e535 e534 ?_)
              refine wl_nil ?_
              refine wp_seq' ?_
              refine wp_cond_t (b := decide ((i5 : Int) < (a0.Doors.length : Int))) rfl (len_t hlt5) ?_
              refine wp_skip' ?_
              refine wp_seq' ?_
              refine wp_block' ?_
              refine wp_seq' ?_
              refine wp_region' ?_
              refine wl_op rfl (op_move (v := (Value.int .i64 ((i5 : Int)))) rfl e535 ?_)
              obtain ⟨x143, hx143, h57⟩ := bnd h57
              refine wl_op rfl (op_indexAddr_rv (v := (Value.slice z57 m57 k57)) (i := (i5 : Int)) (e := x143) rfl Try.underlying22 sh33 e533 (hu53.mono le129) e535 hx143 ?_)
              refine wl_op rfl (op_load (v := (elemPtr (Value.slice z57 m57 k57) ((i5 : Int)) (Enc.sz Gate))) (e := x143) rfl sh33 rfl ((hu53.mono le129).elem I258.in_ hx143) (fun u66 hu66 => ?_))
              obtain ⟨c48, e536, r49⟩ := Gate.inv hu66
              subst e536
              obtain ⟨z70, m70, k70, e537⟩ := rv_form r49
              subst e537
              refine wl_op rfl (op_alloc (z := (Value.int .i64 (0))) rfl I258 zo3 (fun g32 w201 (I259 : Inv w201 S129 (Cells g32 3 #[(Value.int .i64 (0))] :: Fr)) => ?_))
              refine wl_op rfl (op_alloc (z := (Value.agg #[(Value.int .i64 (0)), (Value.slice none 0 0)])) rfl I259 zo33 (fun g33 w202 (I260 : Inv w202 S129 (Cells g33 33 #[(Value.int .i64 (0)), (Value.slice none 0 0)] :: Cells g32 3 #[(Value.int .i64 (0))] :: Fr)) => ?_))
              refine wl_op rfl (op_store (v := (Value.int .i64 ((i5 : Int)))) (cs := #[(Value.int .i64 (0))]) sh3 (I260.pull 1) rfl rfl rfl (Nat.le_of_ble_eq_true rfl) rfl (fun w203 (I261 : Inv w203 S129 (Cells g32 3 #[(Value.int .i64 ((i5 : Int)))] :: Cells g33 33 #[(Value.int .i64 (0)), (Value.slice none 0 0)] :: Fr)) => ?_))
              refine wl_op rfl (op_store (v := (Value.agg #[(Value.int .i64 (x143.Wait)), (Value.slice z70 m70 k70)])) (cs := #[(Value.int .i64 (0)), (Value.slice none 0 0)]) sh33 (I261.pull 1) rfl rfl rfl (Nat.le_of_ble_eq_true rfl) rfl (fun w204 (I262 : Inv w204 S129 (Cells g33 33 #[(Value.int .i64 (x143.Wait)), (Value.slice z70 m70 k70)] :: Cells g32 3 #[(Value.int .i64 ((i5 : Int)))] :: Fr)) => ?_))
              refine wl_nil ?_
              refine wp_seq' ?_
              refine wp_region' ?_
              refine wl_op rfl (op_move (v := (Value.slice z5 m5 k5)) rfl e527 ?_)
              refine wl_op rfl (op_move (v := (Value.int .i64 ((i4 : Int)))) rfl e528 ?_)
              refine wl_op rfl (op_fieldAddr (v := (Value.pointer (some ⟨g33, 0, none⟩))) rfl fa33_0 rfl rfl ?_)
              refine wl_op rfl (op_load1 (c := (Value.int .i64 (x143.Wait))) rfl sh3 (I262.nth 0 rfl) rfl rfl ?_)
              refine wl_op rfl (op_sub (a := (i4 : Int)) (b := x143.Wait) rfl rfl rfl ?_)
              refine wl_op rfl (op_add (a := w64 ((i4 : Int) - x143.Wait)) (b := 1) rfl rfl rfl ?_)
              refine wl_op rfl (op_max (a := 0) (b := w64 ((w64 ((i4 : Int) - x143.Wait)) + 1)) rfl rfl rfl ?_)
              refine wl_op rfl (op_move (v := (Value.int .i64 ((i4 : Int)))) rfl e528 ?_)
              refine wl_op rfl (op_add (a := (i4 : Int)) (b := 1) rfl rfl rfl ?_)
              obtain ⟨x144, hx144, h57⟩ := bnd h57
              refine wl_op rfl (op_sliceLH (v := (Value.slice z5 m5 k5)) (lo := maxI 0 (w64 ((w64 ((i4 : Int) - x143.Wait)) + 1))) (hi := w64 ((i4 : Int) + 1)) rfl Try.underlying72 sh87 rfl (r3.mono (le105.trans le129)) rfl rfl hx144 (fun u67 hu67 => ?_))
              obtain ⟨z71, m71, k71, e538⟩ := rv_form hu67
              subst e538
              obtain ⟨S130, le130, I263, p17⟩ := Inv.boxFreeze (u := (Value.int .i64 ((i5 : Int)))) (x := (i5 : Int)) (I262.pull 1) (rv_int' _)
              refine wl_op rfl (op_makeFunc (fv := #[]) (cv := #[(Value.pointer (some ⟨g32, 0, none⟩))]) rfl arr0 (arr1 rfl) ?_)
              obtain ⟨x145, hx145, h57⟩ := bnd h57
              refine wl_op rfl (op_call_v (vs := [(Value.slice z71 m71 k71), (Value.func (.func 57) #[] #[(Value.pointer (some ⟨g32, 0, none⟩))])]) (r := (Value.bool (x145))) rfl ca56 rfl (args2 rfl rfl) I263 (fun Fr_ hF_ => F56_ok hF_ (hu67.mono le130) ⟨57, [(Value.pointer (some ⟨g32, 0, none⟩))], rfl, ca57, fun T_ w_ Fr_ u_ x_ r_ hle_ hI_ hu_ hr_ => F57_ok hI_ hu_ (p17.mono hle_) hr_⟩ hx145) (fun w205 I264 => ?_))
              refine wl_op rfl (op_assign (v := (Value.bool (x145))) rfl rfl ?_)
              refine wl_nil ?_
              obtain ⟨v18, h60, h57⟩ := bnd h57
              refine wp_cut (fun f w => Inv w S130 (Fr) ∧ f 4 = (Value.pointer (some ⟨g1, 0, none⟩)) ∧ f 11 = (Value.slice z5 m5 k5) ∧ f 12 = (Value.int .i64 ((i4 : Int))) ∧ f 13 = (Value.int .i64 (x115)) ∧ f 14 = (Value.pointer (some ⟨g32, 0, none⟩)) ∧ f 36 = (Value.slice z3 m3 k3) ∧ f 37 = (Value.int .i64 ((a3.length : Int))) ∧ f 38 = (Value.int .i64 ((i4 : Int))) ∧ f 44 = (Value.slice z57 m57 k57) ∧ f 45 = (Value.int .i64 ((a0.Doors.length : Int))) ∧ f 46 = (Value.int .i64 ((i5 : Int))) ∧ f 85 = (Value.bool (v18))) ?_ ?_
              · refine wp_region' ?_
                refine wl_op rfl (op_move (v := (Value.int .i64 (x115))) rfl e529 ?_)
                refine wl_op rfl (op_load_int (v := (Value.pointer (some ⟨g32, 0, none⟩))) (e := (i5 : Int)) rfl sh3 rfl (p17.at_ I264) ?_)
                obtain ⟨x149, hx149, h60⟩ := bnd h60
                refine wl_op rfl (op_shr (a := x115) (b := (i5 : Int)) rfl rfl rfl (nn?_some hx149) ?_)
                refine wl_op rfl (op_and (a := shrI x115 (i5 : Int)) (b := 1) rfl rfl rfl ?_)
                refine wl_op rfl (op_eql (a := andI (shrI x115 (i5 : Int)) 1) (b := 1) rfl rfl rfl ?_)
                refine wl_op rfl (op_move (v := (Value.bool ((andI (shrI x115 (i5 : Int)) 1) == 1))) rfl rfl ?_)
                rcases ifs h60 with ⟨hc114, h60⟩ | ⟨hc114, h60⟩
                · refine wl_taken (c := (andI (shrI x115 (i5 : Int)) 1) == 1) rfl rfl rfl rfl hc114 (op_move (v := (Value.slice z5 m5 k5)) rfl e527 ?_)
                  refine wl_taken (c := (andI (shrI x115 (i5 : Int)) 1) == 1) rfl rfl rfl rfl hc114 (op_move (v := (Value.int .i64 ((i4 : Int)))) rfl e528 ?_)
                  obtain ⟨x150, hx150, h60⟩ := bnd h60
                  refine wl_taken (c := (andI (shrI x115 (i5 : Int)) 1) == 1) rfl rfl rfl rfl hc114 (op_indexAddr_rv (v := (Value.slice z5 m5 k5)) (i := (i4 : Int)) (e := x150) rfl Try.underlying72 sh87 rfl (r3.mono ((le105.trans le129).trans le130)) rfl hx150 ?_)
                  refine wl_taken (c := (andI (shrI x115 (i5 : Int)) 1) == 1) rfl rfl rfl rfl hc114 (op_fieldAddr_t (v := (elemPtr (Value.slice z5 m5 k5) ((i4 : Int)) (Enc.sz Control_tick))) rfl fa87_0 rfl ((r3.mono ((le105.trans le129).trans le130)).elem I264.in_ hx150) ?_)
                  refine wl_taken (c := (andI (shrI x115 (i5 : Int)) 1) == 1) rfl rfl rfl rfl hc114 (op_load_bool (v := (fieldPtr (elemPtr (Value.slice z5 m5 k5) ((i4 : Int)) (Enc.sz Control_tick)) 0)) (e := x150.power) rfl sh4 rfl (((r3.mono ((le105.trans le129).trans le130)).elem I264.in_ hx150).fld Control_tick.fld0) ?_)
                  refine wl_taken (c := (andI (shrI x115 (i5 : Int)) 1) == 1) rfl rfl rfl rfl hc114 (op_not (b := x150.power) rfl rfl ?_)
                  refine wl_taken (c := (andI (shrI x115 (i5 : Int)) 1) == 1) rfl rfl rfl rfl hc114 (op_move (v := (Value.bool (!x150.power))) rfl rfl ?_)
                  rcases ifs h60 with ⟨hc115, h60⟩ | ⟨hc115, h60⟩
                  · refine wl_skip (c := !x150.power) rfl rfl rfl rfl hc115 rfl ?_
                    refine wl_skip (c := !x150.power) rfl rfl rfl rfl hc115 rfl ?_
                    refine wl_skip (c := !x150.power) rfl rfl rfl rfl hc115 rfl ?_
                    refine wl_skip (c := !x150.power) rfl rfl rfl rfl hc115 rfl ?_
                    refine wl_taken (c := (andI (shrI x115 (i5 : Int)) 1) == 1) rfl rfl rfl rfl hc114 (op_pick_t (c := !x150.power) (a := (Value.bool (true))) rfl rfl hc115 rfl ?_)
                    refine wl_taken (c := (andI (shrI x115 (i5 : Int)) 1) == 1) rfl rfl rfl rfl hc114 (op_move (v := (Value.bool (true))) rfl rfl ?_)
                    refine wl_skip (c := true) rfl rfl rfl rfl rfl rfl ?_
                    refine wl_skip (c := true) rfl rfl rfl rfl rfl rfl ?_
                    refine wl_taken (c := (andI (shrI x115 (i5 : Int)) 1) == 1) rfl rfl rfl rfl hc114 (op_pick_t (c := true) (a := (Value.bool (true))) rfl rfl rfl rfl ?_)
                    refine wl_op rfl (op_pick_t (c := (andI (shrI x115 (i5 : Int)) 1) == 1) (a := (Value.bool (true))) rfl rfl hc114 rfl ?_)
                    refine wl_nil ?_
                    obtain rfl := Option.some.inj h60
                    exact ⟨(I264).drop, e526, e527, e528, e529, rfl, e530, e531, e532, e533, e534, e535, rfl⟩
                  · refine wl_taken (c := !x150.power) rfl rfl rfl rfl hc115 (op_move (v := (Value.int .i64 ((i4 : Int)))) rfl e528 ?_)
                    refine wl_taken (c := !x150.power) rfl rfl rfl rfl hc115 (op_load (v := (Value.pointer (some ⟨g1, 0, none⟩))) (e := a0) rfl sh24 e526 ((p1.mono ((((le2.trans le3).trans le105).trans le129).trans le130)).at_ I264) (fun u69 hu69 => ?_))
                    obtain ⟨c50, e541, r51⟩ := Panel.inv hu69
                    subst e541
                    obtain ⟨z73, m73, k73, e542⟩ := rv_form r51
                    subst e542
                    obtain ⟨x151, hx151, h60⟩ := bnd h60
                    refine wl_taken (c := !x150.power) rfl rfl rfl rfl hc115 (op_call_v (vs := [(Value.agg #[(Value.int .i64 (a0.Sensors)), (Value.slice z73 m73 k73), (Value.int .i64 (a0.Stale)), (Value.int .i64 (a0.Limit))])]) (r := (Value.int .i64 (x151))) rfl ca47 rfl (args1 rfl) I264 (fun Fr_ hF_ => F47_ok hF_ (Panel.rv (s := a0) r51) hx151) (fun w207 I266 => ?_))
                    refine wl_taken (c := !x150.power) rfl rfl rfl rfl hc115 (op_geq (a := (i4 : Int)) (b := x151) rfl rfl rfl ?_)
                    refine wl_taken (c := (andI (shrI x115 (i5 : Int)) 1) == 1) rfl rfl rfl rfl hc114 (op_pick_f (c := !x150.power) (b := (Value.bool (decide (x151 ≤ (i4 : Int))))) rfl rfl hc115 rfl ?_)
                    refine wl_taken (c := (andI (shrI x115 (i5 : Int)) 1) == 1) rfl rfl rfl rfl hc114 (op_move (v := (Value.bool (decide (x151 ≤ (i4 : Int))))) rfl rfl ?_)
                    rcases ifs h60 with ⟨hc116, h60⟩ | ⟨hc116, h60⟩
                    · refine wl_skip (c := decide (x151 ≤ (i4 : Int))) rfl rfl rfl rfl hc116 rfl ?_
                      refine wl_skip (c := decide (x151 ≤ (i4 : Int))) rfl rfl rfl rfl hc116 rfl ?_
                      refine wl_taken (c := (andI (shrI x115 (i5 : Int)) 1) == 1) rfl rfl rfl rfl hc114 (op_pick_t (c := decide (x151 ≤ (i4 : Int))) (a := (Value.bool (true))) rfl rfl hc116 rfl ?_)
                      refine wl_op rfl (op_pick_t (c := (andI (shrI x115 (i5 : Int)) 1) == 1) (a := (Value.bool (true))) rfl rfl hc114 rfl ?_)
                      refine wl_nil ?_
                      obtain rfl := Option.some.inj h60
                      exact ⟨(I266).drop, e526, e527, e528, e529, rfl, e530, e531, e532, e533, e534, e535, rfl⟩
                    · refine wl_taken (c := decide (x151 ≤ (i4 : Int))) rfl rfl rfl rfl hc116 (op_move (v := (Value.bool (x145))) rfl rfl ?_)
                      refine wl_taken (c := decide (x151 ≤ (i4 : Int))) rfl rfl rfl rfl hc116 (op_not (b := x145) rfl rfl ?_)
                      refine wl_taken (c := (andI (shrI x115 (i5 : Int)) 1) == 1) rfl rfl rfl rfl hc114 (op_pick_f (c := decide (x151 ≤ (i4 : Int))) (b := (Value.bool (!x145))) rfl rfl hc116 rfl ?_)
                      refine wl_op rfl (op_pick_t (c := (andI (shrI x115 (i5 : Int)) 1) == 1) (a := (Value.bool (!x145))) rfl rfl hc114 rfl ?_)
                      refine wl_nil ?_
                      obtain rfl := Option.some.inj h60
                      exact ⟨(I266).drop, e526, e527, e528, e529, rfl, e530, e531, e532, e533, e534, e535, rfl⟩
                · refine wl_skip (c := (andI (shrI x115 (i5 : Int)) 1) == 1) rfl rfl rfl rfl hc114 rfl ?_
                  refine wl_skip (c := (andI (shrI x115 (i5 : Int)) 1) == 1) rfl rfl rfl rfl hc114 rfl ?_
                  refine wl_skip (c := (andI (shrI x115 (i5 : Int)) 1) == 1) rfl rfl rfl rfl hc114 rfl ?_
                  refine wl_skip (c := (andI (shrI x115 (i5 : Int)) 1) == 1) rfl rfl rfl rfl hc114 rfl ?_
                  refine wl_skip (c := (andI (shrI x115 (i5 : Int)) 1) == 1) rfl rfl rfl rfl hc114 rfl ?_
                  refine wl_skip (c := (andI (shrI x115 (i5 : Int)) 1) == 1) rfl rfl rfl rfl hc114 rfl ?_
                  refine wl_skip (c := (andI (shrI x115 (i5 : Int)) 1) == 1) rfl rfl rfl rfl hc114 rfl ?_
                  refine wl_skip_u rfl rfl rfl rfl rfl ?_
                  refine wl_skip_u rfl rfl rfl rfl rfl ?_
                  refine wl_skip_u rfl rfl rfl rfl rfl ?_
                  refine wl_skip_u rfl rfl rfl rfl rfl ?_
                  refine wl_skip (c := (andI (shrI x115 (i5 : Int)) 1) == 1) rfl rfl rfl rfl hc114 rfl ?_
                  refine wl_skip (c := (andI (shrI x115 (i5 : Int)) 1) == 1) rfl rfl rfl rfl hc114 rfl ?_
                  refine wl_skip_u rfl rfl rfl rfl rfl ?_
                  refine wl_skip_u rfl rfl rfl rfl rfl ?_
                  refine wl_skip (c := (andI (shrI x115 (i5 : Int)) 1) == 1) rfl rfl rfl rfl hc114 rfl ?_
                  refine wl_op rfl (op_pick_f (c := (andI (shrI x115 (i5 : Int)) 1) == 1) (b := (Value.bool (false))) rfl rfl hc114 rfl ?_)
                  refine wl_nil ?_
                  obtain rfl := Option.some.inj h60
                  exact ⟨(I264).drop, e526, e527, e528, e529, rfl, e530, e531, e532, e533, e534, e535, rfl⟩
              · rintro f w ⟨I267, e543, e544, e545, e546, e547, e548, e549, e550, e551, e552, e553, e554⟩
                rcases ifs h57 with ⟨hc117, h57⟩ | ⟨hc117, h57⟩
                · refine wp_cond_t (b := v18) e554 hc117 ?_
                  refine wp_seq' ?_
                  refine wp_draw (sps := [⟨some 86, [], [0], fun vs_ T_ => fr0 vs_ 0 = (Value.int .i64 ((i4 : Int))), [], [], [], fun _ h_ => h_⟩, ⟨some 87, [], [1], fun vs_ T_ => fr0 vs_ 0 = (Value.int .i64 ((i5 : Int))), [], [], [], fun _ h_ => h_⟩, ⟨some 8, [0], [2], fun vs_ T_ => fr0 vs_ 0 = (Value.int .i64 ((i4 : Int))), [], [], [], fun _ h_ => h_⟩, ⟨some 9, [0, 1, 2], [3], fun vs_ T_ => fr0 vs_ 0 = (Value.int .i64 ((i5 : Int))), [], [], [], fun _ h_ => h_⟩, ⟨some 10, [0, 1, 2, 3], [4], fun vs_ T_ => fr0 vs_ 0 = (Value.int .i64 (0)), [], [], [], fun _ h_ => h_⟩]) (tks := []) (O := Fr) rfl (by kernel_rfl) I267 ⟨?_, ?_, ?_, ?_, ?_, trivial⟩ ?_
                  · intro vs91 f w208 S131 X76 le131 hA76 hK91 hI99
                    have I268 : Inv w208 S131 (X76) := hI99
                    refine opg_plain rfl rfl (op_move (v := (Value.int .i64 ((i4 : Int)))) rfl ((hK91 12 (keep_of rfl)).trans e545) ?_)
                    refine ⟨_, _, rfl, PH.Le.refl _, ?_, ?_⟩
                    · exact rfl
                    · exact I268
                  · intro vs92 f w209 S132 X77 le132 hA77 hK92 hI100
                    have I269 : Inv w209 S132 (X77) := hI100
                    refine opg_plain rfl rfl (op_load_int (v := (Value.pointer (some ⟨g32, 0, none⟩))) (e := (i5 : Int)) rfl sh3 ((hK92 14 (keep_of rfl)).trans e547) ((p17.mono le132).at_ I269) ?_)
                    refine ⟨_, _, rfl, PH.Le.refl _, ?_, ?_⟩
                    · exact rfl
                    · exact I269
                  · intro vs93 f w210 S133 X78 le133 hA78 hK93 hI101
                    have I270 : Inv w210 S133 (X78) := hI101
                    have q76 : f 86 = (Value.int .i64 ((i4 : Int))) := vt (hA78.at_ 0 rfl _ rfl) rfl
                    refine opg_plain rfl rfl (op_assign (v := (Value.int .i64 ((i4 : Int)))) rfl q76 ?_)
                    refine ⟨_, _, rfl, PH.Le.refl _, ?_, ?_⟩
                    · exact rfl
                    · exact I270
                  · intro vs94 f w211 S134 X79 le134 hA79 hK94 hI102
                    have I271 : Inv w211 S134 (X79) := hI102
                    have q77 : f 87 = (Value.int .i64 ((i5 : Int))) := vt (hA79.at_ 1 rfl _ rfl) rfl
                    refine opg_plain rfl rfl (op_assign (v := (Value.int .i64 ((i5 : Int)))) rfl q77 ?_)
                    refine ⟨_, _, rfl, PH.Le.refl _, ?_, ?_⟩
                    · exact rfl
                    · exact I271
                  · intro vs95 f w212 S135 X80 le135 hA80 hK95 hI103
                    have I272 : Inv w212 S135 (X80) := hI103
                    refine opg_plain rfl rfl (op_assign (v := (Value.int .i64 (0))) rfl rfl ?_)
                    refine ⟨_, _, rfl, PH.Le.refl _, ?_, ?_⟩
                    · exact rfl
                    · exact I272
                  · intro vs96 f w213 S136 le136 hF16 hK96 hI104
                    have I273 : Inv w213 S136 (Fr) := hI104
                    have q78 : f 8 = (Value.int .i64 ((i4 : Int))) := vt (hF16.at_ 2 rfl _ rfl) rfl
                    have q79 : f 9 = (Value.int .i64 ((i5 : Int))) := vt (hF16.at_ 3 rfl _ rfl) rfl
                    have q80 : f 10 = (Value.int .i64 (0)) := vt (hF16.at_ 4 rfl _ rfl) rfl
                    refine wp_ret' ?_
                    obtain rfl := Option.some.inj h57
                    obtain rfl := (hout5 _ rfl)
                    have h58 := h46
                    obtain rfl := Option.some.inj h58
                    obtain rfl := (hout4 _ rfl)
                    have h47 := h
                    obtain rfl := Option.some.inj h47
                    exact ⟨(Value.tuple #[(Value.int .i64 ((i4 : Int))), (Value.int .i64 ((i5 : Int))), (Value.int .i64 (0))]), (res3 rfl q78 q79 q80), _, [], ((((((le1.trans le2).trans le3).trans le105).trans le129).trans le130).trans le136), I273, rfl, rfl⟩
                · refine wp_cond_f (b := v18) e554 hc117 ?_
                  refine wp_skip' ?_
                  refine wp_region' ?_
                  refine wl_op rfl (op_add (a := (i5 : Int)) (b := 1) rfl e553 rfl ?_)
                  refine wl_op rfl (op_move (v := (Value.int .i64 (w64 ((i5 : Int) + 1)))) rfl rfl ?_)
                  refine wl_nil ?_
                  obtain rfl := Option.some.inj h57
                  exact ⟨_, rfl, _, (le129.trans le130), I267, e543, e544, e545, e546, e548, e549, e550, e551, e552, (idx_next hlt5 hk5)⟩
            · rintro s9 f w hs4 hI105
              obtain ⟨S137, le137, I274, e555, e556, e557, e558, e559, e560, e561, e562, e563, e564⟩ := hI105
              refine wp_seq' ?_
              refine wp_region' ?_
              refine wl_op rfl (op_lss (a := (a0.Doors.length : Int)) (b := (a0.Doors.length : Int)) rfl e564 e563 ?_)
              refine wl_nil ?_
              refine wp_seq' ?_
              refine wp_cond_f (b := decide ((a0.Doors.length : Int) < (a0.Doors.length : Int))) rfl (len_f _) ?_
              refine wp_exit' ?_
              exact ⟨s9, hs4, _, le137, I274, e555, e556, e557, e558, e559, e560, e561, e562, e563⟩
          · rintro f w ⟨out5, rfl, S138, le138, I275, e565, e566, e567, e568, e569, e570, e571, e572, e573⟩
            have h46 := onL_inl h46
            refine wp_region' ?_
            refine wl_op rfl (op_add (a := (i4 : Int)) (b := 1) rfl e571 rfl ?_)
            refine wl_op rfl (op_move (v := (Value.int .i64 (w64 ((i4 : Int) + 1)))) rfl rfl ?_)
            refine wl_nil ?_
            obtain rfl := Option.some.inj h46
            exact ⟨_, rfl, _, (le105.trans le138), I275, e565, e566, e569, e570, (idx_next hlt4 hk4)⟩
        · rintro s10 f w hs5 hI106
          obtain ⟨S139, le139, I276, e574, e575, e576, e577, e578⟩ := hI106
          refine wp_seq' ?_
          refine wp_region' ?_
          refine wl_op rfl (op_lss (a := (a3.length : Int)) (b := (a3.length : Int)) rfl e578 e577 ?_)
          refine wl_nil ?_
          refine wp_seq' ?_
          refine wp_cond_f (b := decide ((a3.length : Int) < (a3.length : Int))) rfl (len_f _) ?_
          refine wp_exit' ?_
          exact ⟨s10, hs5, _, le139, I276, e574, e575, e576, e577⟩
      · rintro f w ⟨out4, rfl, S140, le140, I277, e579, e580, e581, e582⟩
        have h := onL_inl h
        refine wp_seq' ?_
        refine wp_region' ?_
        refine wl_op rfl (op_assign (v := (Value.int .i64 ((-1)))) rfl rfl ?_)
        refine wl_op rfl (op_assign (v := (Value.int .i64 ((-1)))) rfl rfl ?_)
        refine wl_op rfl (op_assign (v := (Value.int .i64 (0))) rfl rfl ?_)
        refine wl_nil ?_
        refine wp_ret' ?_
        obtain rfl := Option.some.inj h
        exact ⟨(Value.tuple #[(Value.int .i64 ((-1))), (Value.int .i64 ((-1))), (Value.int .i64 (0))]), (res3 rfl rfl rfl rfl), _, [], (((le1.trans le2).trans le3).trans le140), I277, rfl, rfl⟩
end Go.Proofs.Ytfeomcdhhgeilaa.Pad
