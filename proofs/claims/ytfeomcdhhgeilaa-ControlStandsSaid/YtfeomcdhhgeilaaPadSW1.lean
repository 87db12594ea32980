/- A part of the proof: what the functions of the program compute, shown over the model. -/
import Derived.Test.YtfeomcdhhgeilaaPadSP
import Derived.KernelRfl
set_option linter.unusedVariables false
namespace Go.Proofs.Ytfeomcdhhgeilaa.Pad
open Go Go.Proofs
set_option maxHeartbeats 4000000 in
set_option maxRecDepth 100000 in
theorem F48_ok {w : World} {S : PH} {Fr : List HP} {a0 : Int} {a1 : Int} {a2 : Int} {r : Bool} (hI : Inv w S (Fr))  (h : F48 a0 a1 a2 = some r) :
    Calls Try.prog 48 [(Value.int .i64 (a0)), (Value.int .i64 (a1)), (Value.int .i64 (a2))].toArray w (DoneV S Fr (Value.bool (r))) := by
 unfold F48 at h
 refine calls_enter (n := 15) (vs := [(Value.int .i64 (a0)), (Value.int .i64 (a1)), (Value.int .i64 (a2))]) Try.func48 rfl rfl rfl ?_
 refine wp_seq' ?_
 refine wp_region' ?_
 refine wl_op rfl (op_assign (v := (Value.bool (false))) rfl rfl ?_)
 refine wl_nil ?_
 refine wp_seq' ?_
 refine wp_region' ?_
 refine wl_op rfl (op_move (v := (Value.int .i64 (a0))) rfl rfl ?_)
 refine wl_op rfl (op_move (v := (Value.int .i64 (a1))) rfl rfl ?_)
 refine wl_op rfl (op_geq (a := a0) (b := a1) rfl rfl rfl ?_)
 refine wl_op rfl (op_move (v := (Value.bool (decide (a1 ≤ a0)))) rfl rfl ?_)
 rcases ifs h with ⟨hc1, h⟩ | ⟨hc1, h⟩
 ·
  refine wl_taken (c := decide (a1 ≤ a0)) rfl rfl rfl rfl hc1 (op_move (v := (Value.int .i64 (a0))) rfl rfl ?_)
  refine wl_taken (c := decide (a1 ≤ a0)) rfl rfl rfl rfl hc1 (op_move (v := (Value.int .i64 (a2))) rfl rfl ?_)
  refine wl_taken (c := decide (a1 ≤ a0)) rfl rfl rfl rfl hc1 (op_leq (a := a0) (b := a2) rfl rfl rfl ?_)
  refine wl_op rfl (op_pick_t (c := decide (a1 ≤ a0)) (a := (Value.bool (decide (a0 ≤ a2)))) rfl rfl hc1 rfl ?_)
  refine wl_op rfl (op_assign (v := (Value.bool (decide (a0 ≤ a2)))) rfl rfl ?_)
  refine wl_nil ?_
  refine wp_ret' ?_
  obtain rfl := Option.some.inj h
  exact ⟨(Value.bool (decide (a0 ≤ a2))), (res1 rfl rfl), _, [], (PH.Le.refl _), hI, rfl, rfl⟩
 ·
  refine wl_skip (c := decide (a1 ≤ a0)) rfl rfl rfl rfl hc1 rfl ?_
  refine wl_skip (c := decide (a1 ≤ a0)) rfl rfl rfl rfl hc1 rfl ?_
  refine wl_skip (c := decide (a1 ≤ a0)) rfl rfl rfl rfl hc1 rfl ?_
  refine wl_op rfl (op_pick_f (c := decide (a1 ≤ a0)) (b := (Value.bool (false))) rfl rfl hc1 rfl ?_)
  refine wl_op rfl (op_assign (v := (Value.bool (false))) rfl rfl ?_)
  refine wl_nil ?_
  refine wp_ret' ?_
  obtain rfl := Option.some.inj h
  exact ⟨(Value.bool (false)), (res1 rfl rfl), _, [], (PH.Le.refl _), hI, rfl, rfl⟩

set_option maxHeartbeats 4000000 in
set_option maxRecDepth 100000 in
theorem F75_ok {w : World} {S : PH} {Fr : List HP} {a0 : (List Signal)} {v0 : Value} {a1 : Signal → Option Bool} {v1 : Value} {r : Int} (hI : Inv w S (Fr)) (h0_ : RV S v0 a0) (h1_ : FnV Try.prog S v1 a1) (h : F75 a0 a1 = some r) :
    Calls Try.prog 75 [v0, v1].toArray w (DoneV S Fr (Value.int .i64 (r))) := by
 unfold F75 at h
 obtain ⟨z1, m1, k1, e1⟩ := rv_form h0_
 subst e1
 refine calls_enter (n := 19) (vs := [(Value.slice z1 m1 k1), v1]) Try.func75 rfl rfl rfl ?_
 refine wp_seq' ?_
 refine wp_region' ?_
 refine wl_op rfl (op_assign (v := (Value.int .i64 (0))) rfl rfl ?_)
 refine wl_nil ?_
 refine wp_seq' ?_
 refine wp_seq' ?_
 refine wp_region' ?_
 refine wl_op rfl (op_move (v := (Value.slice z1 m1 k1)) rfl rfl ?_)
 refine wl_op rfl (op_len_rv rfl Try.underlying25 rfl h0_ ?_)
 refine wl_op rfl (op_move (v := (Value.int .i64 (0))) rfl rfl ?_)
 refine wl_nil ?_
 have hk1 : a0.length ≤ 9223372036854775807 := (rv_len h0_)
 obtain ⟨o2, hrun1, h⟩ := bnd h
 refine wp_cutN (fun f w => ∃ out1, o2 = Sum.inl out1 ∧ Inv w S (Fr) ∧ f 0 = (Value.slice z1 m1 k1) ∧ f 1 = v1 ∧ f 7 = (Value.int .i64 ((a0.length : Int)))) ?_ ?_
 ·
  refine wp_block' ?_
  refine wp_forN (I := fun (i1 : Nat) (s1 : Unit) (f : Frm) (w : World) => Inv w S (Fr) ∧ f 0 = (Value.slice z1 m1 k1) ∧ f 1 = v1 ∧ f 7 = (Value.int .i64 ((a0.length : Int))) ∧ f 8 = (Value.int .i64 (i1 : Int))) hrun1 ⟨hI, rfl, rfl, rfl, rfl⟩ ?_ ?_
  ·
   rintro i1 s1 f w o1 hlt1 hI1 h1 hout1
   obtain ⟨I5, e12, e13, e14, e15⟩ := hI1
   refine wp_seq' ?_
   refine wp_region' ?_
   refine wl_op rfl (op_lss (a := (i1 : Int)) (b := (a0.length : Int)) rfl e15 e14 ?_)
   refine wl_nil ?_
   refine wp_seq' ?_
   refine wp_cond_t (b := decide ((i1 : Int) < (a0.length : Int))) rfl (len_t hlt1) ?_
   refine wp_skip' ?_
   refine wp_seq' ?_
   refine wp_block' ?_
   refine wp_seq' ?_
   refine wp_region' ?_
   refine wl_op rfl (op_move (v := (Value.int .i64 ((i1 : Int)))) rfl e15 ?_)
   refine wl_op rfl (op_assign (v := (Value.int .i64 ((i1 : Int)))) rfl rfl ?_)
   refine wl_nil ?_
   refine wp_seq' ?_
   refine wp_region' ?_
   refine wl_op rfl (op_move (v := v1) rfl e13 ?_)
   refine wl_op rfl (op_move (v := (Value.slice z1 m1 k1)) rfl e12 ?_)
   refine wl_op rfl (op_move (v := (Value.int .i64 ((i1 : Int)))) rfl rfl ?_)
   obtain ⟨x5, hx5, h1⟩ := bnd h1
   refine wl_op rfl (op_indexAddr_rv (v := (Value.slice z1 m1 k1)) (i := (i1 : Int)) (e := x5) rfl Try.underlying25 sh46 rfl h0_ rfl hx5 ?_)
   refine wl_op rfl (op_load (v := (elemPtr (Value.slice z1 m1 k1) ((i1 : Int)) (Enc.sz Signal))) (e := x5) rfl sh46 rfl (h0_.elem I5.in_ hx5) (fun u3 hu3 => ?_))
   have e16 := Signal.inv hu3
   subst e16
   obtain ⟨x6, hx6, h1⟩ := bnd h1
   refine wl_op rfl (op_call_fn (v := v1) (u := (Value.agg #[(Value.int .i64 (x5.At)), (Value.int .i64 (x5.Kind)), (Value.int .i64 (x5.Number)), (Value.int .i64 (x5.Value))])) (r := x6) rfl rfl h1_ rfl (Signal.rv (s := x5)) hx6 I5 (fun w3 I6 => ?_))
   refine wl_nil ?_
   rcases ifs h1 with ⟨hc3, h1⟩ | ⟨hc3, h1⟩
   ·
    refine wp_cond_t (b := x6) rfl hc3 ?_
    refine wp_seq' ?_
    refine wp_region' ?_
    refine wl_op rfl (op_move (v := (Value.int .i64 ((i1 : Int)))) rfl rfl ?_)
    refine wl_op rfl (op_assign (v := (Value.int .i64 ((i1 : Int)))) rfl rfl ?_)
    refine wl_nil ?_
    refine wp_ret' ?_
    obtain rfl := Option.some.inj h1
    obtain rfl := (hout1 _ rfl)
    have h2 := h
    obtain rfl := Option.some.inj h2
    exact ⟨(Value.int .i64 ((i1 : Int))), (res1 rfl rfl), _, [], (PH.Le.refl _), I6, rfl, rfl⟩
   ·
    refine wp_cond_f (b := x6) rfl hc3 ?_
    refine wp_skip' ?_
    refine wp_region' ?_
    refine wl_op rfl (op_add (a := (i1 : Int)) (b := 1) rfl e15 rfl ?_)
    refine wl_op rfl (op_move (v := (Value.int .i64 (w64 ((i1 : Int) + 1)))) rfl rfl ?_)
    refine wl_nil ?_
    obtain rfl := Option.some.inj h1
    exact ⟨_, rfl, I6, e12, e13, e14, (idx_next hlt1 hk1)⟩
  ·
   rintro s2 f w hs1 hI2
   obtain ⟨I7, e17, e18, e19, e20⟩ := hI2
   refine wp_seq' ?_
   refine wp_region' ?_
   refine wl_op rfl (op_lss (a := (a0.length : Int)) (b := (a0.length : Int)) rfl e20 e19 ?_)
   refine wl_nil ?_
   refine wp_seq' ?_
   refine wp_cond_f (b := decide ((a0.length : Int) < (a0.length : Int))) rfl (len_f _) ?_
   refine wp_exit' ?_
   exact ⟨s2, hs1, I7, e17, e18, e19⟩
 ·
  rintro f w ⟨out1, rfl, I8, e21, e22, e23⟩
  have h := onL_inl h
  refine wp_seq' ?_
  refine wp_region' ?_
  refine wl_op rfl (op_assign (v := (Value.int .i64 ((-1)))) rfl rfl ?_)
  refine wl_nil ?_
  refine wp_ret' ?_
  obtain rfl := Option.some.inj h
  exact ⟨(Value.int .i64 ((-1))), (res1 rfl rfl), _, [], (PH.Le.refl _), I8, rfl, rfl⟩

set_option maxHeartbeats 4000000 in
set_option maxRecDepth 100000 in
theorem F62_ok {w : World} {S : PH} {Fr : List HP} {a0 : (List Signal)} {v0 : Value} {a1 : Signal → Option Bool} {v1 : Value} {r : Bool} (hI : Inv w S (Fr)) (h0_ : RV S v0 a0) (h1_ : FnV Try.prog S v1 a1) (h : F62 a0 a1 = some r) :
    Calls Try.prog 62 [v0, v1].toArray w (DoneV S Fr (Value.bool (r))) := by
 unfold F62 at h
 obtain ⟨z1, m1, k1, e1⟩ := rv_form h0_
 subst e1
 refine calls_enter (n := 9) (vs := [(Value.slice z1 m1 k1), v1]) Try.func62 rfl rfl rfl ?_
 refine wp_seq' ?_
 refine wp_region' ?_
 refine wl_op rfl (op_assign (v := (Value.bool (false))) rfl rfl ?_)
 refine wl_nil ?_
 refine wp_seq' ?_
 refine wp_region' ?_
 refine wl_op rfl (op_move (v := (Value.slice z1 m1 k1)) rfl rfl ?_)
 refine wl_op rfl (op_move (v := v1) rfl rfl ?_)
 obtain ⟨x1, hx1, h⟩ := bnd h
 refine wl_op rfl (op_call_v (vs := [(Value.slice z1 m1 k1), v1]) (r := (Value.int .i64 (x1))) rfl ca75 rfl (args2 rfl rfl) hI (fun Fr_ hF_ => F75_ok hF_ h0_ h1_ hx1) (fun w1 I1 => ?_))
 refine wl_op rfl (op_geq (a := x1) (b := 0) rfl rfl rfl ?_)
 refine wl_op rfl (op_assign (v := (Value.bool (decide (0 ≤ x1)))) rfl rfl ?_)
 refine wl_nil ?_
 refine wp_ret' ?_
 obtain rfl := Option.some.inj h
 exact ⟨(Value.bool (decide (0 ≤ x1))), (res1 rfl rfl), _, [], (PH.Le.refl _), I1, rfl, rfl⟩

set_option maxHeartbeats 4000000 in
set_option maxRecDepth 100000 in
theorem F64_ok {w : World} {S : PH} {Fr : List HP} {a0 : Panel} {v0 : Value} {a1 : Int} {a2 : Signal} {v2 : Value} {r : Bool} (hI : Inv w S (Fr)) (h0_ : RV S v0 a0) (h2_ : RV S v2 a2) (h : F64 a0 a1 a2 = some r) :
    Calls Try.prog 64 [v0, (Value.int .i64 (a1)), v2].toArray w (DoneV S Fr (Value.bool (r))) := by
 unfold F64 at h
 obtain ⟨c1, e1, r1⟩ := Panel.inv h0_
 subst e1
 obtain ⟨z1, m1, k1, e2⟩ := rv_form r1
 subst e2
 have e3 := Signal.inv h2_
 subst e3
 refine calls_enter (n := 67) (vs := [(Value.agg #[(Value.int .i64 (a0.Sensors)), (Value.slice z1 m1 k1), (Value.int .i64 (a0.Stale)), (Value.int .i64 (a0.Limit))]), (Value.int .i64 (a1)), (Value.agg #[(Value.int .i64 (a2.At)), (Value.int .i64 (a2.Kind)), (Value.int .i64 (a2.Number)), (Value.int .i64 (a2.Value))])]) Try.func64 rfl rfl rfl ?_
 refine wp_seq' ?_
 refine wp_region' ?_
 refine wl_op rfl (op_box (v := (Value.agg #[(Value.int .i64 (a0.Sensors)), (Value.slice z1 m1 k1), (Value.int .i64 (a0.Stale)), (Value.int .i64 (a0.Limit))])) rfl hI rfl (fun g1 w1 I1 => ?_))
 obtain ⟨S1, le1, I2, p1⟩ := Inv.boxFreeze (x := a0) I1 (Panel.rv (s := a0) r1)
 refine wl_op rfl (op_box (v := (Value.agg #[(Value.int .i64 (a2.At)), (Value.int .i64 (a2.Kind)), (Value.int .i64 (a2.Number)), (Value.int .i64 (a2.Value))])) rfl I2 rfl (fun g2 w2 I3 => ?_))
 obtain ⟨S2, le2, I4, p2⟩ := Inv.boxFreeze (x := a2) I3 (Signal.rv (s := a2))
 refine wl_op rfl (op_assign (v := (Value.bool (false))) rfl rfl ?_)
 refine wl_nil ?_
 refine wp_seq' ?_
 refine wp_seq' ?_
 refine wp_region' ?_
 refine wl_op rfl (op_fieldAddr_t (v := (Value.pointer (some ⟨g2, 0, none⟩))) rfl fa46_0 rfl (p2.at_ I4) ?_)
 refine wl_op rfl (op_load_int (v := (fieldPtr (Value.pointer (some ⟨g2, 0, none⟩)) 0)) (e := a2.At) rfl sh3 rfl ((p2.at_ I4).fld Signal.fld0) ?_)
 refine wl_op rfl (op_move (v := (Value.int .i64 (a1))) rfl rfl ?_)
 refine wl_op rfl (op_sub (a := a1) (b := 1) rfl rfl rfl ?_)
 obtain ⟨x1, hx1, h⟩ := bnd h
 refine wl_op rfl (op_call_v (vs := [(Value.int .i64 (a2.At)), (Value.int .i64 (0)), (Value.int .i64 (w64 (a1 - 1)))]) (r := (Value.bool (x1))) rfl ca48 rfl (args3 rfl rfl rfl) I4 (fun Fr_ hF_ => F48_ok hF_  hx1) (fun w3 I5 => ?_))
 refine wl_op rfl (op_not (b := x1) rfl rfl ?_)
 refine wl_nil ?_
 rcases ifs h with ⟨hc1, h⟩ | ⟨hc1, h⟩
 ·
  refine wp_cond_t (b := !x1) rfl hc1 ?_
  refine wp_seq' ?_
  refine wp_region' ?_
  refine wl_op rfl (op_assign (v := (Value.bool (false))) rfl rfl ?_)
  refine wl_nil ?_
  refine wp_ret' ?_
  obtain rfl := Option.some.inj h
  exact ⟨(Value.bool (false)), (res1 rfl rfl), _, [], (le1.trans le2), I5, rfl, rfl⟩
 ·
  refine wp_cond_f (b := !x1) rfl hc1 ?_
  refine wp_skip' ?_
  refine wp_seq' ?_
  refine wp_seq' ?_
  refine wp_region' ?_
  refine wl_op rfl (op_fieldAddr_t (v := (Value.pointer (some ⟨g2, 0, none⟩))) rfl fa46_1 rfl (p2.at_ I5) ?_)
  refine wl_op rfl (op_load_int (v := (fieldPtr (Value.pointer (some ⟨g2, 0, none⟩)) 1)) (e := a2.Kind) rfl sh3 rfl ((p2.at_ I5).fld Signal.fld1) ?_)
  refine wl_nil ?_
  refine wp_block' ?_
  refine wp_seq' ?_
  refine wp_region' ?_
  refine wl_op rfl (op_eql (a := a2.Kind) (b := 1) rfl rfl rfl ?_)
  refine wl_op rfl (op_assign (v := (Value.bool (a2.Kind == 1))) rfl rfl ?_)
  refine wl_nil ?_
  rcases ifs h with ⟨hc2, h⟩ | ⟨hc2, h⟩
  ·
   refine wp_cond_t (b := a2.Kind == 1) rfl hc2 ?_
   refine wp_seq' ?_
   refine wp_region' ?_
   refine wl_op rfl (op_fieldAddr_t (v := (Value.pointer (some ⟨g2, 0, none⟩))) rfl fa46_2 rfl (p2.at_ I5) ?_)
   refine wl_op rfl (op_load_int (v := (fieldPtr (Value.pointer (some ⟨g2, 0, none⟩)) 2)) (e := a2.Number) rfl sh3 rfl ((p2.at_ I5).fld Signal.fld2) ?_)
   refine wl_op rfl (op_fieldAddr_t (v := (Value.pointer (some ⟨g1, 0, none⟩))) rfl fa24_0 rfl ((p1.mono le2).at_ I5) ?_)
   refine wl_op rfl (op_load_int (v := (fieldPtr (Value.pointer (some ⟨g1, 0, none⟩)) 0)) (e := a0.Sensors) rfl sh3 rfl (((p1.mono le2).at_ I5).fld Panel.fld0) ?_)
   refine wl_op rfl (op_sub (a := a0.Sensors) (b := 1) rfl rfl rfl ?_)
   obtain ⟨x2, hx2, h⟩ := bnd h
   refine wl_op rfl (op_call_v (vs := [(Value.int .i64 (a2.Number)), (Value.int .i64 (0)), (Value.int .i64 (w64 (a0.Sensors - 1)))]) (r := (Value.bool (x2))) rfl ca48 rfl (args3 rfl rfl rfl) I5 (fun Fr_ hF_ => F48_ok hF_  hx2) (fun w4 I6 => ?_))
   refine wl_op rfl (op_move (v := (Value.bool (x2))) rfl rfl ?_)
   rcases ifs h with ⟨hc3, h⟩ | ⟨hc3, h⟩
   ·
    refine wl_taken (c := x2) rfl rfl rfl rfl hc3 (op_fieldAddr_t (v := (Value.pointer (some ⟨g2, 0, none⟩))) rfl fa46_3 rfl (p2.at_ I6) ?_)
    refine wl_taken (c := x2) rfl rfl rfl rfl hc3 (op_load_int (v := (fieldPtr (Value.pointer (some ⟨g2, 0, none⟩)) 3)) (e := a2.Value) rfl sh3 rfl ((p2.at_ I6).fld Signal.fld3) ?_)
    obtain ⟨x3, hx3, h⟩ := bnd h
    refine wl_taken (c := x2) rfl rfl rfl rfl hc3 (op_call_v (vs := [(Value.int .i64 (a2.Value)), (Value.int .i64 (0)), (Value.int .i64 (9))]) (r := (Value.bool (x3))) rfl ca48 rfl (args3 rfl rfl rfl) I6 (fun Fr_ hF_ => F48_ok hF_  hx3) (fun w5 I7 => ?_))
    refine wl_op rfl (op_pick_t (c := x2) (a := (Value.bool (x3))) rfl rfl hc3 rfl ?_)
    refine wl_op rfl (op_assign (v := (Value.bool (x3))) rfl rfl ?_)
    refine wl_nil ?_
    refine wp_ret' ?_
    obtain rfl := Option.some.inj h
    exact ⟨(Value.bool (x3)), (res1 rfl rfl), _, [], (le1.trans le2), I7, rfl, rfl⟩
   ·
    refine wl_skip (c := x2) rfl rfl rfl rfl hc3 rfl ?_
    refine wl_skip (c := x2) rfl rfl rfl rfl hc3 rfl ?_
    refine wl_skip (c := x2) rfl rfl rfl rfl hc3 rfl ?_
    refine wl_op rfl (op_pick_f (c := x2) (b := (Value.bool (false))) rfl rfl hc3 rfl ?_)
    refine wl_op rfl (op_assign (v := (Value.bool (false))) rfl rfl ?_)
    refine wl_nil ?_
    refine wp_ret' ?_
    obtain rfl := Option.some.inj h
    exact ⟨(Value.bool (false)), (res1 rfl rfl), _, [], (le1.trans le2), I6, rfl, rfl⟩
  ·
   refine wp_cond_f (b := a2.Kind == 1) rfl hc2 ?_
   refine wp_seq' ?_
   refine wp_region' ?_
   refine wl_op rfl (op_eql (a := a2.Kind) (b := 2) rfl rfl rfl ?_)
   refine wl_op rfl (op_assign (v := (Value.bool (a2.Kind == 2))) rfl rfl ?_)
   refine wl_nil ?_
   rcases ifs h with ⟨hc4, h⟩ | ⟨hc4, h⟩
   ·
    refine wp_cond_t (b := a2.Kind == 2) rfl hc4 ?_
    refine wp_seq' ?_
    refine wp_region' ?_
    refine wl_op rfl (op_fieldAddr_t (v := (Value.pointer (some ⟨g2, 0, none⟩))) rfl fa46_2 rfl (p2.at_ I5) ?_)
    refine wl_op rfl (op_load_int (v := (fieldPtr (Value.pointer (some ⟨g2, 0, none⟩)) 2)) (e := a2.Number) rfl sh3 rfl ((p2.at_ I5).fld Signal.fld2) ?_)
    refine wl_op rfl (op_fieldAddr_t (v := (Value.pointer (some ⟨g1, 0, none⟩))) rfl fa24_0 rfl ((p1.mono le2).at_ I5) ?_)
    refine wl_op rfl (op_load_int (v := (fieldPtr (Value.pointer (some ⟨g1, 0, none⟩)) 0)) (e := a0.Sensors) rfl sh3 rfl (((p1.mono le2).at_ I5).fld Panel.fld0) ?_)
    refine wl_op rfl (op_sub (a := a0.Sensors) (b := 1) rfl rfl rfl ?_)
    obtain ⟨x4, hx4, h⟩ := bnd h
    refine wl_op rfl (op_call_v (vs := [(Value.int .i64 (a2.Number)), (Value.int .i64 (0)), (Value.int .i64 (w64 (a0.Sensors - 1)))]) (r := (Value.bool (x4))) rfl ca48 rfl (args3 rfl rfl rfl) I5 (fun Fr_ hF_ => F48_ok hF_  hx4) (fun w6 I8 => ?_))
    refine wl_op rfl (op_move (v := (Value.bool (x4))) rfl rfl ?_)
    rcases ifs h with ⟨hc5, h⟩ | ⟨hc5, h⟩
    ·
     refine wl_taken (c := x4) rfl rfl rfl rfl hc5 (op_fieldAddr_t (v := (Value.pointer (some ⟨g2, 0, none⟩))) rfl fa46_3 rfl (p2.at_ I8) ?_)
     refine wl_taken (c := x4) rfl rfl rfl rfl hc5 (op_load_int (v := (fieldPtr (Value.pointer (some ⟨g2, 0, none⟩)) 3)) (e := a2.Value) rfl sh3 rfl ((p2.at_ I8).fld Signal.fld3) ?_)
     refine wl_taken (c := x4) rfl rfl rfl rfl hc5 (op_eql (a := a2.Value) (b := 0) rfl rfl rfl ?_)
     refine wl_op rfl (op_pick_t (c := x4) (a := (Value.bool (a2.Value == 0))) rfl rfl hc5 rfl ?_)
     refine wl_op rfl (op_assign (v := (Value.bool (a2.Value == 0))) rfl rfl ?_)
     refine wl_nil ?_
     refine wp_ret' ?_
     obtain rfl := Option.some.inj h
     exact ⟨(Value.bool (a2.Value == 0)), (res1 rfl rfl), _, [], (le1.trans le2), I8, rfl, rfl⟩
    ·
     refine wl_skip (c := x4) rfl rfl rfl rfl hc5 rfl ?_
     refine wl_skip (c := x4) rfl rfl rfl rfl hc5 rfl ?_
     refine wl_skip (c := x4) rfl rfl rfl rfl hc5 rfl ?_
     refine wl_op rfl (op_pick_f (c := x4) (b := (Value.bool (false))) rfl rfl hc5 rfl ?_)
     refine wl_op rfl (op_assign (v := (Value.bool (false))) rfl rfl ?_)
     refine wl_nil ?_
     refine wp_ret' ?_
     obtain rfl := Option.some.inj h
     exact ⟨(Value.bool (false)), (res1 rfl rfl), _, [], (le1.trans le2), I8, rfl, rfl⟩
   ·
    refine wp_cond_f (b := a2.Kind == 2) rfl hc4 ?_
    obtain ⟨v1, h2, h⟩ := bnd h
    refine wp_cut (fun f w => Inv w S2 (Fr) ∧ f 3 = (Value.pointer (some ⟨g1, 0, none⟩)) ∧ f 5 = (Value.pointer (some ⟨g2, 0, none⟩)) ∧ f 14 = (Value.int .i64 (a2.Kind)) ∧ f 41 = (Value.bool (v1))) ?_ ?_
    ·
     refine wp_seq' ?_
     refine wp_region' ?_
     refine wl_op rfl (op_eql (a := a2.Kind) (b := 3) rfl rfl rfl ?_)
     refine wl_op rfl (op_assign (v := (Value.bool (a2.Kind == 3))) rfl rfl ?_)
     refine wl_nil ?_
     rcases ifs h2 with ⟨hc7, h2⟩ | ⟨hc7, h2⟩
     ·
      refine wp_cond_t (b := a2.Kind == 3) rfl hc7 ?_
      refine wp_skip' ?_
      obtain rfl := Option.some.inj h2
      exact ⟨I5, rfl, rfl, rfl, rfl⟩
     ·
      refine wp_cond_f (b := a2.Kind == 3) rfl hc7 ?_
      refine wp_region' ?_
      refine wl_op rfl (op_eql (a := a2.Kind) (b := 6) rfl rfl rfl ?_)
      refine wl_op rfl (op_assign (v := (Value.bool (a2.Kind == 6))) rfl rfl ?_)
      refine wl_nil ?_
      obtain rfl := Option.some.inj h2
      exact ⟨I5, rfl, rfl, rfl, rfl⟩
    ·
     rintro f w ⟨I9, e4, e5, e6, e7⟩
     rcases ifs h with ⟨hc8, h⟩ | ⟨hc8, h⟩
     ·
      refine wp_cond_t (b := v1) e7 hc8 ?_
      refine wp_seq' ?_
      refine wp_region' ?_
      refine wl_op rfl (op_fieldAddr_t (v := (Value.pointer (some ⟨g2, 0, none⟩))) rfl fa46_2 e5 (p2.at_ I9) ?_)
      refine wl_op rfl (op_load_int (v := (fieldPtr (Value.pointer (some ⟨g2, 0, none⟩)) 2)) (e := a2.Number) rfl sh3 rfl ((p2.at_ I9).fld Signal.fld2) ?_)
      refine wl_op rfl (op_fieldAddr_t (v := (Value.pointer (some ⟨g1, 0, none⟩))) rfl fa24_1 e4 ((p1.mono le2).at_ I9) ?_)
      refine wl_op rfl (op_load (v := (fieldPtr (Value.pointer (some ⟨g1, 0, none⟩)) 1)) (e := a0.Doors) rfl sh22 rfl (((p1.mono le2).at_ I9).fld Panel.fld1) (fun u1 hu1 => ?_))
      obtain ⟨z2, m2, k2, e8⟩ := rv_form hu1
      subst e8
      refine wl_op rfl (op_len_rv rfl Try.underlying22 rfl hu1 ?_)
      refine wl_op rfl (op_sub (a := (a0.Doors.length : Int)) (b := 1) rfl rfl rfl ?_)
      obtain ⟨x5, hx5, h⟩ := bnd h
      refine wl_op rfl (op_call_v (vs := [(Value.int .i64 (a2.Number)), (Value.int .i64 (0)), (Value.int .i64 (w64 ((a0.Doors.length : Int) - 1)))]) (r := (Value.bool (x5))) rfl ca48 rfl (args3 rfl rfl rfl) I9 (fun Fr_ hF_ => F48_ok hF_  hx5) (fun w7 I10 => ?_))
      refine wl_op rfl (op_move (v := (Value.bool (x5))) rfl rfl ?_)
      rcases ifs h with ⟨hc9, h⟩ | ⟨hc9, h⟩
      ·
       refine wl_taken (c := x5) rfl rfl rfl rfl hc9 (op_fieldAddr_t (v := (Value.pointer (some ⟨g2, 0, none⟩))) rfl fa46_3 e5 (p2.at_ I10) ?_)
       refine wl_taken (c := x5) rfl rfl rfl rfl hc9 (op_load_int (v := (fieldPtr (Value.pointer (some ⟨g2, 0, none⟩)) 3)) (e := a2.Value) rfl sh3 rfl ((p2.at_ I10).fld Signal.fld3) ?_)
       refine wl_taken (c := x5) rfl rfl rfl rfl hc9 (op_eql (a := a2.Value) (b := 0) rfl rfl rfl ?_)
       refine wl_op rfl (op_pick_t (c := x5) (a := (Value.bool (a2.Value == 0))) rfl rfl hc9 rfl ?_)
       refine wl_op rfl (op_assign (v := (Value.bool (a2.Value == 0))) rfl rfl ?_)
       refine wl_nil ?_
       refine wp_ret' ?_
       obtain rfl := Option.some.inj h
       exact ⟨(Value.bool (a2.Value == 0)), (res1 rfl rfl), _, [], (le1.trans le2), I10, rfl, rfl⟩
      ·
       refine wl_skip (c := x5) rfl rfl rfl rfl hc9 rfl ?_
       refine wl_skip (c := x5) rfl rfl rfl rfl hc9 rfl ?_
       refine wl_skip (c := x5) rfl rfl rfl rfl hc9 rfl ?_
       refine wl_op rfl (op_pick_f (c := x5) (b := (Value.bool (false))) rfl rfl hc9 rfl ?_)
       refine wl_op rfl (op_assign (v := (Value.bool (false))) rfl rfl ?_)
       refine wl_nil ?_
       refine wp_ret' ?_
       obtain rfl := Option.some.inj h
       exact ⟨(Value.bool (false)), (res1 rfl rfl), _, [], (le1.trans le2), I10, rfl, rfl⟩
     ·
      refine wp_cond_f (b := v1) e7 hc8 ?_
      obtain ⟨v2, h5, h⟩ := bnd h
      refine wp_cut (fun f w => Inv w S2 (Fr) ∧ f 5 = (Value.pointer (some ⟨g2, 0, none⟩)) ∧ f 56 = (Value.bool (v2))) ?_ ?_
      ·
       refine wp_seq' ?_
       refine wp_region' ?_
       refine wl_op rfl (op_eql (a := a2.Kind) (b := 4) rfl e6 rfl ?_)
       refine wl_op rfl (op_assign (v := (Value.bool (a2.Kind == 4))) rfl rfl ?_)
       refine wl_nil ?_
       rcases ifs h5 with ⟨hc11, h5⟩ | ⟨hc11, h5⟩
       ·
        refine wp_cond_t (b := a2.Kind == 4) rfl hc11 ?_
        refine wp_skip' ?_
        obtain rfl := Option.some.inj h5
        exact ⟨I9, e5, rfl⟩
       ·
        refine wp_cond_f (b := a2.Kind == 4) rfl hc11 ?_
        refine wp_region' ?_
        refine wl_op rfl (op_eql (a := a2.Kind) (b := 5) rfl e6 rfl ?_)
        refine wl_op rfl (op_assign (v := (Value.bool (a2.Kind == 5))) rfl rfl ?_)
        refine wl_nil ?_
        obtain rfl := Option.some.inj h5
        exact ⟨I9, e5, rfl⟩
      ·
       rintro f w ⟨I11, e9, e10⟩
       rcases ifs h with ⟨hc12, h⟩ | ⟨hc12, h⟩
       ·
        refine wp_cond_t (b := v2) e10 hc12 ?_
        refine wp_seq' ?_
        refine wp_region' ?_
        refine wl_op rfl (op_fieldAddr_t (v := (Value.pointer (some ⟨g2, 0, none⟩))) rfl fa46_2 e9 (p2.at_ I11) ?_)
        refine wl_op rfl (op_load_int (v := (fieldPtr (Value.pointer (some ⟨g2, 0, none⟩)) 2)) (e := a2.Number) rfl sh3 rfl ((p2.at_ I11).fld Signal.fld2) ?_)
        refine wl_op rfl (op_eql (a := a2.Number) (b := 0) rfl rfl rfl ?_)
        refine wl_op rfl (op_move (v := (Value.bool (a2.Number == 0))) rfl rfl ?_)
        rcases ifs h with ⟨hc13, h⟩ | ⟨hc13, h⟩
        ·
         refine wl_taken (c := a2.Number == 0) rfl rfl rfl rfl hc13 (op_fieldAddr_t (v := (Value.pointer (some ⟨g2, 0, none⟩))) rfl fa46_3 e9 (p2.at_ I11) ?_)
         refine wl_taken (c := a2.Number == 0) rfl rfl rfl rfl hc13 (op_load_int (v := (fieldPtr (Value.pointer (some ⟨g2, 0, none⟩)) 3)) (e := a2.Value) rfl sh3 rfl ((p2.at_ I11).fld Signal.fld3) ?_)
         refine wl_taken (c := a2.Number == 0) rfl rfl rfl rfl hc13 (op_eql (a := a2.Value) (b := 0) rfl rfl rfl ?_)
         refine wl_op rfl (op_pick_t (c := a2.Number == 0) (a := (Value.bool (a2.Value == 0))) rfl rfl hc13 rfl ?_)
         refine wl_op rfl (op_assign (v := (Value.bool (a2.Value == 0))) rfl rfl ?_)
         refine wl_nil ?_
         refine wp_ret' ?_
         obtain rfl := Option.some.inj h
         exact ⟨(Value.bool (a2.Value == 0)), (res1 rfl rfl), _, [], (le1.trans le2), I11, rfl, rfl⟩
        ·
         refine wl_skip (c := a2.Number == 0) rfl rfl rfl rfl hc13 rfl ?_
         refine wl_skip (c := a2.Number == 0) rfl rfl rfl rfl hc13 rfl ?_
         refine wl_skip (c := a2.Number == 0) rfl rfl rfl rfl hc13 rfl ?_
         refine wl_op rfl (op_pick_f (c := a2.Number == 0) (b := (Value.bool (false))) rfl rfl hc13 rfl ?_)
         refine wl_op rfl (op_assign (v := (Value.bool (false))) rfl rfl ?_)
         refine wl_nil ?_
         refine wp_ret' ?_
         obtain rfl := Option.some.inj h
         exact ⟨(Value.bool (false)), (res1 rfl rfl), _, [], (le1.trans le2), I11, rfl, rfl⟩
       ·
        refine wp_cond_f (b := v2) e10 hc12 ?_
        refine wp_skip' ?_
        refine wp_seq' ?_
        refine wp_region' ?_
        refine wl_op rfl (op_assign (v := (Value.bool (false))) rfl rfl ?_)
        refine wl_nil ?_
        refine wp_ret' ?_
        obtain rfl := Option.some.inj h
        exact ⟨(Value.bool (false)), (res1 rfl rfl), _, [], (le1.trans le2), I11, rfl, rfl⟩

set_option maxHeartbeats 4000000 in
set_option maxRecDepth 100000 in
theorem F63_ok {w : World} {S : PH} {Fr : List HP} {a0 : Signal} {v0 : Value} {a1 : Panel} {v1 : Value} {a2 : Int} {v2 : Value} {r : Bool} (hI : Inv w S (Fr)) (h0_ : RV S v0 a0) (h1_ : PtS S v1 a1) (h2_ : PtS S v2 a2) (h : F63 a0 a1 a2 = some r) :
    Calls Try.prog 63 [v0, v1, v2].toArray w (DoneV S Fr (Value.bool (r))) := by
 unfold F63 at h
 have e1 := Signal.inv h0_
 subst e1
 refine calls_enter (n := 10) (vs := [(Value.agg #[(Value.int .i64 (a0.At)), (Value.int .i64 (a0.Kind)), (Value.int .i64 (a0.Number)), (Value.int .i64 (a0.Value))]), v1, v2]) Try.func63 rfl rfl rfl ?_
 refine wp_seq' ?_
 refine wp_region' ?_
 refine wl_op rfl (op_box (v := (Value.agg #[(Value.int .i64 (a0.At)), (Value.int .i64 (a0.Kind)), (Value.int .i64 (a0.Number)), (Value.int .i64 (a0.Value))])) rfl hI rfl (fun g1 w1 I1 => ?_))
 obtain ⟨S1, le1, I2, p1⟩ := Inv.boxFreeze (x := a0) I1 (Signal.rv (s := a0))
 refine wl_op rfl (op_assign (v := (Value.bool (false))) rfl rfl ?_)
 refine wl_nil ?_
 refine wp_seq' ?_
 refine wp_region' ?_
 refine wl_op rfl (op_load (v := v1) (e := a1) rfl sh24 rfl ((h1_.mono le1).at_ I2) (fun u1 hu1 => ?_))
 obtain ⟨c1, e2, r1⟩ := Panel.inv hu1
 subst e2
 obtain ⟨z1, m1, k1, e3⟩ := rv_form r1
 subst e3
 refine wl_op rfl (op_load_int (v := v2) (e := a2) rfl sh3 rfl ((h2_.mono le1).at_ I2) ?_)
 refine wl_op rfl (op_load (v := (Value.pointer (some ⟨g1, 0, none⟩))) (e := a0) rfl sh46 rfl (p1.at_ I2) (fun u2 hu2 => ?_))
 have e4 := Signal.inv hu2
 subst e4
 obtain ⟨x1, hx1, h⟩ := bnd h
 refine wl_op rfl (op_call_v (vs := [(Value.agg #[(Value.int .i64 (a1.Sensors)), (Value.slice z1 m1 k1), (Value.int .i64 (a1.Stale)), (Value.int .i64 (a1.Limit))]), (Value.int .i64 (a2)), (Value.agg #[(Value.int .i64 (a0.At)), (Value.int .i64 (a0.Kind)), (Value.int .i64 (a0.Number)), (Value.int .i64 (a0.Value))])]) (r := (Value.bool (x1))) rfl ca64 rfl (args3 rfl rfl rfl) I2 (fun Fr_ hF_ => F64_ok hF_ (Panel.rv (s := a1) r1) (Signal.rv (s := a0)) hx1) (fun w2 I3 => ?_))
 refine wl_op rfl (op_not (b := x1) rfl rfl ?_)
 refine wl_op rfl (op_assign (v := (Value.bool (!x1))) rfl rfl ?_)
 refine wl_nil ?_
 refine wp_ret' ?_
 obtain rfl := Option.some.inj h
 exact ⟨(Value.bool (!x1)), (res1 rfl rfl), _, [], le1, I3, rfl, rfl⟩

set_option maxHeartbeats 4000000 in
set_option maxRecDepth 100000 in
theorem F68_ok {w : World} {S : PH} {Fr : List HP} {a0 : (List Sense)} {v0 : Value} {a1 : Sense → Option Bool} {v1 : Value} {r : Int} (hI : Inv w S (Fr)) (h0_ : RV S v0 a0) (h1_ : FnV Try.prog S v1 a1) (h : F68 a0 a1 = some r) :
    Calls Try.prog 68 [v0, v1].toArray w (DoneV S Fr (Value.int .i64 (r))) := by
 unfold F68 at h
 obtain ⟨z1, m1, k1, e1⟩ := rv_form h0_
 subst e1
 refine calls_enter (n := 19) (vs := [(Value.slice z1 m1 k1), v1]) Try.func68 rfl rfl rfl ?_
 refine wp_seq' ?_
 refine wp_region' ?_
 refine wl_op rfl (op_assign (v := (Value.int .i64 (0))) rfl rfl ?_)
 refine wl_nil ?_
 refine wp_seq' ?_
 refine wp_seq' ?_
 refine wp_region' ?_
 refine wl_op rfl (op_move (v := (Value.slice z1 m1 k1)) rfl rfl ?_)
 refine wl_op rfl (op_len_rv rfl Try.underlying31 rfl h0_ ?_)
 refine wl_op rfl (op_move (v := (Value.int .i64 (0))) rfl rfl ?_)
 refine wl_nil ?_
 have hk1 : a0.length ≤ 9223372036854775807 := (rv_len h0_)
 obtain ⟨o2, hrun1, h⟩ := bnd h
 refine wp_cutN (fun f w => ∃ out1, o2 = Sum.inl out1 ∧ Inv w S (Fr) ∧ f 0 = (Value.slice z1 m1 k1) ∧ f 1 = v1 ∧ f 7 = (Value.int .i64 ((a0.length : Int)))) ?_ ?_
 ·
  refine wp_block' ?_
  refine wp_forN (I := fun (i1 : Nat) (s1 : Unit) (f : Frm) (w : World) => Inv w S (Fr) ∧ f 0 = (Value.slice z1 m1 k1) ∧ f 1 = v1 ∧ f 7 = (Value.int .i64 ((a0.length : Int))) ∧ f 8 = (Value.int .i64 (i1 : Int))) hrun1 ⟨hI, rfl, rfl, rfl, rfl⟩ ?_ ?_
  ·
   rintro i1 s1 f w o1 hlt1 hI1 h1 hout1
   obtain ⟨I5, e12, e13, e14, e15⟩ := hI1
   refine wp_seq' ?_
   refine wp_region' ?_
   refine wl_op rfl (op_lss (a := (i1 : Int)) (b := (a0.length : Int)) rfl e15 e14 ?_)
   refine wl_nil ?_
   refine wp_seq' ?_
   refine wp_cond_t (b := decide ((i1 : Int) < (a0.length : Int))) rfl (len_t hlt1) ?_
   refine wp_skip' ?_
   refine wp_seq' ?_
   refine wp_block' ?_
   refine wp_seq' ?_
   refine wp_region' ?_
   refine wl_op rfl (op_move (v := (Value.int .i64 ((i1 : Int)))) rfl e15 ?_)
   refine wl_op rfl (op_assign (v := (Value.int .i64 ((i1 : Int)))) rfl rfl ?_)
   refine wl_nil ?_
   refine wp_seq' ?_
   refine wp_region' ?_
   refine wl_op rfl (op_move (v := v1) rfl e13 ?_)
   refine wl_op rfl (op_move (v := (Value.slice z1 m1 k1)) rfl e12 ?_)
   refine wl_op rfl (op_move (v := (Value.int .i64 ((i1 : Int)))) rfl rfl ?_)
   obtain ⟨x5, hx5, h1⟩ := bnd h1
   refine wl_op rfl (op_indexAddr_rv (v := (Value.slice z1 m1 k1)) (i := (i1 : Int)) (e := x5) rfl Try.underlying31 sh44 rfl h0_ rfl hx5 ?_)
   refine wl_op rfl (op_load (v := (elemPtr (Value.slice z1 m1 k1) ((i1 : Int)) (Enc.sz Sense))) (e := x5) rfl sh44 rfl (h0_.elem I5.in_ hx5) (fun u3 hu3 => ?_))
   have e16 := Sense.inv hu3
   subst e16
   obtain ⟨x6, hx6, h1⟩ := bnd h1
   refine wl_op rfl (op_call_fn (v := v1) (u := (Value.agg #[(Value.int .i64 (x5.Sensor)), (Value.int .i64 (x5.Value)), (Value.bool (x5.Not))])) (r := x6) rfl rfl h1_ rfl (Sense.rv (s := x5)) hx6 I5 (fun w3 I6 => ?_))
   refine wl_nil ?_
   rcases ifs h1 with ⟨hc3, h1⟩ | ⟨hc3, h1⟩
   ·
    refine wp_cond_t (b := x6) rfl hc3 ?_
    refine wp_seq' ?_
    refine wp_region' ?_
    refine wl_op rfl (op_move (v := (Value.int .i64 ((i1 : Int)))) rfl rfl ?_)
    refine wl_op rfl (op_assign (v := (Value.int .i64 ((i1 : Int)))) rfl rfl ?_)
    refine wl_nil ?_
    refine wp_ret' ?_
    obtain rfl := Option.some.inj h1
    obtain rfl := (hout1 _ rfl)
    have h2 := h
    obtain rfl := Option.some.inj h2
    exact ⟨(Value.int .i64 ((i1 : Int))), (res1 rfl rfl), _, [], (PH.Le.refl _), I6, rfl, rfl⟩
   ·
    refine wp_cond_f (b := x6) rfl hc3 ?_
    refine wp_skip' ?_
    refine wp_region' ?_
    refine wl_op rfl (op_add (a := (i1 : Int)) (b := 1) rfl e15 rfl ?_)
    refine wl_op rfl (op_move (v := (Value.int .i64 (w64 ((i1 : Int) + 1)))) rfl rfl ?_)
    refine wl_nil ?_
    obtain rfl := Option.some.inj h1
    exact ⟨_, rfl, I6, e12, e13, e14, (idx_next hlt1 hk1)⟩
  ·
   rintro s2 f w hs1 hI2
   obtain ⟨I7, e17, e18, e19, e20⟩ := hI2
   refine wp_seq' ?_
   refine wp_region' ?_
   refine wl_op rfl (op_lss (a := (a0.length : Int)) (b := (a0.length : Int)) rfl e20 e19 ?_)
   refine wl_nil ?_
   refine wp_seq' ?_
   refine wp_cond_f (b := decide ((a0.length : Int) < (a0.length : Int))) rfl (len_f _) ?_
   refine wp_exit' ?_
   exact ⟨s2, hs1, I7, e17, e18, e19⟩
 ·
  rintro f w ⟨out1, rfl, I8, e21, e22, e23⟩
  have h := onL_inl h
  refine wp_seq' ?_
  refine wp_region' ?_
  refine wl_op rfl (op_assign (v := (Value.int .i64 ((-1)))) rfl rfl ?_)
  refine wl_nil ?_
  refine wp_ret' ?_
  obtain rfl := Option.some.inj h
  exact ⟨(Value.int .i64 ((-1))), (res1 rfl rfl), _, [], (PH.Le.refl _), I8, rfl, rfl⟩

set_option maxHeartbeats 4000000 in
set_option maxRecDepth 100000 in
theorem F50_ok {w : World} {S : PH} {Fr : List HP} {a0 : (List Sense)} {v0 : Value} {a1 : Sense → Option Bool} {v1 : Value} {r : Bool} (hI : Inv w S (Fr)) (h0_ : RV S v0 a0) (h1_ : FnV Try.prog S v1 a1) (h : F50 a0 a1 = some r) :
    Calls Try.prog 50 [v0, v1].toArray w (DoneV S Fr (Value.bool (r))) := by
 unfold F50 at h
 obtain ⟨z1, m1, k1, e1⟩ := rv_form h0_
 subst e1
 refine calls_enter (n := 9) (vs := [(Value.slice z1 m1 k1), v1]) Try.func50 rfl rfl rfl ?_
 refine wp_seq' ?_
 refine wp_region' ?_
 refine wl_op rfl (op_assign (v := (Value.bool (false))) rfl rfl ?_)
 refine wl_nil ?_
 refine wp_seq' ?_
 refine wp_region' ?_
 refine wl_op rfl (op_move (v := (Value.slice z1 m1 k1)) rfl rfl ?_)
 refine wl_op rfl (op_move (v := v1) rfl rfl ?_)
 obtain ⟨x1, hx1, h⟩ := bnd h
 refine wl_op rfl (op_call_v (vs := [(Value.slice z1 m1 k1), v1]) (r := (Value.int .i64 (x1))) rfl ca68 rfl (args2 rfl rfl) hI (fun Fr_ hF_ => F68_ok hF_ h0_ h1_ hx1) (fun w1 I1 => ?_))
 refine wl_op rfl (op_geq (a := x1) (b := 0) rfl rfl rfl ?_)
 refine wl_op rfl (op_assign (v := (Value.bool (decide (0 ≤ x1)))) rfl rfl ?_)
 refine wl_nil ?_
 refine wp_ret' ?_
 obtain rfl := Option.some.inj h
 exact ⟨(Value.bool (decide (0 ≤ x1))), (res1 rfl rfl), _, [], (PH.Le.refl _), I1, rfl, rfl⟩

set_option maxHeartbeats 4000000 in
set_option maxRecDepth 100000 in
theorem F49_ok {w : World} {S : PH} {Fr : List HP} {a0 : Sense} {v0 : Value} {a1 : Panel} {v1 : Value} {r : Bool} (hI : Inv w S (Fr)) (h0_ : RV S v0 a0) (h1_ : PtS S v1 a1) (h : F49 a0 a1 = some r) :
    Calls Try.prog 49 [v0, v1].toArray w (DoneV S Fr (Value.bool (r))) := by
 unfold F49 at h
 have e1 := Sense.inv h0_
 subst e1
 refine calls_enter (n := 17) (vs := [(Value.agg #[(Value.int .i64 (a0.Sensor)), (Value.int .i64 (a0.Value)), (Value.bool (a0.Not))]), v1]) Try.func49 rfl rfl rfl ?_
 refine wp_seq' ?_
 refine wp_region' ?_
 refine wl_op rfl (op_box (v := (Value.agg #[(Value.int .i64 (a0.Sensor)), (Value.int .i64 (a0.Value)), (Value.bool (a0.Not))])) rfl hI rfl (fun g1 w1 I1 => ?_))
 obtain ⟨S1, le1, I2, p1⟩ := Inv.boxFreeze (x := a0) I1 (Sense.rv (s := a0))
 refine wl_op rfl (op_assign (v := (Value.bool (false))) rfl rfl ?_)
 refine wl_nil ?_
 refine wp_seq' ?_
 refine wp_region' ?_
 refine wl_op rfl (op_fieldAddr_t (v := (Value.pointer (some ⟨g1, 0, none⟩))) rfl fa44_0 rfl (p1.at_ I2) ?_)
 refine wl_op rfl (op_load_int (v := (fieldPtr (Value.pointer (some ⟨g1, 0, none⟩)) 0)) (e := a0.Sensor) rfl sh3 rfl ((p1.at_ I2).fld Sense.fld0) ?_)
 refine wl_op rfl (op_fieldAddr_t (v := v1) rfl fa24_0 rfl ((h1_.mono le1).at_ I2) ?_)
 refine wl_op rfl (op_load_int (v := (fieldPtr v1 0)) (e := a1.Sensors) rfl sh3 rfl (((h1_.mono le1).at_ I2).fld Panel.fld0) ?_)
 refine wl_op rfl (op_sub (a := a1.Sensors) (b := 1) rfl rfl rfl ?_)
 obtain ⟨x1, hx1, h⟩ := bnd h
 refine wl_op rfl (op_call_v (vs := [(Value.int .i64 (a0.Sensor)), (Value.int .i64 (0)), (Value.int .i64 (w64 (a1.Sensors - 1)))]) (r := (Value.bool (x1))) rfl ca48 rfl (args3 rfl rfl rfl) I2 (fun Fr_ hF_ => F48_ok hF_  hx1) (fun w2 I3 => ?_))
 refine wl_op rfl (op_not (b := x1) rfl rfl ?_)
 refine wl_op rfl (op_move (v := (Value.bool (!x1))) rfl rfl ?_)
 rcases ifs h with ⟨hc1, h⟩ | ⟨hc1, h⟩
 ·
  refine wl_skip (c := !x1) rfl rfl rfl rfl hc1 rfl ?_
  refine wl_skip (c := !x1) rfl rfl rfl rfl hc1 rfl ?_
  refine wl_skip (c := !x1) rfl rfl rfl rfl hc1 rfl ?_
  refine wl_skip (c := !x1) rfl rfl rfl rfl hc1 rfl ?_
  refine wl_op rfl (op_pick_t (c := !x1) (a := (Value.bool (true))) rfl rfl hc1 rfl ?_)
  refine wl_op rfl (op_assign (v := (Value.bool (true))) rfl rfl ?_)
  refine wl_nil ?_
  refine wp_ret' ?_
  obtain rfl := Option.some.inj h
  exact ⟨(Value.bool (true)), (res1 rfl rfl), _, [], le1, I3, rfl, rfl⟩
 ·
  refine wl_taken (c := !x1) rfl rfl rfl rfl hc1 (op_fieldAddr_t (v := (Value.pointer (some ⟨g1, 0, none⟩))) rfl fa44_1 rfl (p1.at_ I3) ?_)
  refine wl_taken (c := !x1) rfl rfl rfl rfl hc1 (op_load_int (v := (fieldPtr (Value.pointer (some ⟨g1, 0, none⟩)) 1)) (e := a0.Value) rfl sh3 rfl ((p1.at_ I3).fld Sense.fld1) ?_)
  obtain ⟨x2, hx2, h⟩ := bnd h
  refine wl_taken (c := !x1) rfl rfl rfl rfl hc1 (op_call_v (vs := [(Value.int .i64 (a0.Value)), (Value.int .i64 (0)), (Value.int .i64 (9))]) (r := (Value.bool (x2))) rfl ca48 rfl (args3 rfl rfl rfl) I3 (fun Fr_ hF_ => F48_ok hF_  hx2) (fun w3 I4 => ?_))
  refine wl_taken (c := !x1) rfl rfl rfl rfl hc1 (op_not (b := x2) rfl rfl ?_)
  refine wl_op rfl (op_pick_f (c := !x1) (b := (Value.bool (!x2))) rfl rfl hc1 rfl ?_)
  refine wl_op rfl (op_assign (v := (Value.bool (!x2))) rfl rfl ?_)
  refine wl_nil ?_
  refine wp_ret' ?_
  obtain rfl := Option.some.inj h
  exact ⟨(Value.bool (!x2)), (res1 rfl rfl), _, [], le1, I4, rfl, rfl⟩

set_option maxHeartbeats 4000000 in
set_option maxRecDepth 100000 in
theorem F27_ok {w : World} {S : PH} {Fr : List HP} {a0 : Panel} {v0 : Value} {r : Int} (hI : Inv w S (Fr)) (h0_ : RV S v0 a0) (h : F27 a0 = some r) :
    Calls Try.prog 27 [v0].toArray w (DoneV S Fr (Value.int .i64 (r))) := by
 unfold F27 at h
 obtain ⟨c1, e1, r1⟩ := Panel.inv h0_
 subst e1
 obtain ⟨z1, m1, k1, e2⟩ := rv_form r1
 subst e2
 refine calls_enter (n := 53) (vs := [(Value.agg #[(Value.int .i64 (a0.Sensors)), (Value.slice z1 m1 k1), (Value.int .i64 (a0.Stale)), (Value.int .i64 (a0.Limit))])]) Try.func27 rfl rfl rfl ?_
 refine wp_seq' ?_
 refine wp_region' ?_
 refine wl_op rfl (op_box (v := (Value.agg #[(Value.int .i64 (a0.Sensors)), (Value.slice z1 m1 k1), (Value.int .i64 (a0.Stale)), (Value.int .i64 (a0.Limit))])) rfl hI rfl (fun g1 w1 I1 => ?_))
 obtain ⟨S1, le1, I2, p1⟩ := Inv.boxFreeze (x := a0) I1 (Panel.rv (s := a0) r1)
 refine wl_op rfl (op_assign (v := (Value.int .i64 (0))) rfl rfl ?_)
 refine wl_nil ?_
 obtain ⟨ov1, h2, h⟩ := bnd h
 refine wp_cut (fun f w => ∃ v1, ov1 = Sum.inl v1 ∧ Inv w S1 (Fr) ∧ f 1 = (Value.pointer (some ⟨g1, 0, none⟩))) ?_ ?_
 ·
  refine wp_seq' ?_
  refine wp_region' ?_
  refine wl_op rfl (op_fieldAddr_t (v := (Value.pointer (some ⟨g1, 0, none⟩))) rfl fa24_0 rfl (p1.at_ I2) ?_)
  refine wl_op rfl (op_load_int (v := (fieldPtr (Value.pointer (some ⟨g1, 0, none⟩)) 0)) (e := a0.Sensors) rfl sh3 rfl ((p1.at_ I2).fld Panel.fld0) ?_)
  obtain ⟨x4, hx4, h2⟩ := bnd h2
  refine wl_op rfl (op_call_v (vs := [(Value.int .i64 (a0.Sensors)), (Value.int .i64 (0)), (Value.int .i64 (12))]) (r := (Value.bool (x4))) rfl ca48 rfl (args3 rfl rfl rfl) I2 (fun Fr_ hF_ => F48_ok hF_  hx4) (fun w5 I6 => ?_))
  refine wl_op rfl (op_not (b := x4) rfl rfl ?_)
  refine wl_op rfl (op_move (v := (Value.bool (!x4))) rfl rfl ?_)
  rcases ifs h2 with ⟨hc5, h2⟩ | ⟨hc5, h2⟩
  ·
   refine wl_skip (c := !x4) rfl rfl rfl rfl hc5 rfl ?_
   refine wl_skip (c := !x4) rfl rfl rfl rfl hc5 rfl ?_
   refine wl_skip (c := !x4) rfl rfl rfl rfl hc5 rfl ?_
   refine wl_skip (c := !x4) rfl rfl rfl rfl hc5 rfl ?_
   refine wl_op rfl (op_pick_t (c := !x4) (a := (Value.bool (true))) rfl rfl hc5 rfl ?_)
   refine wl_op rfl (op_move (v := (Value.bool (true))) rfl rfl ?_)
   refine wl_skip (c := true) rfl rfl rfl rfl rfl rfl ?_
   refine wl_skip (c := true) rfl rfl rfl rfl rfl rfl ?_
   refine wl_skip (c := true) rfl rfl rfl rfl rfl rfl ?_
   refine wl_skip (c := true) rfl rfl rfl rfl rfl rfl ?_
   refine wl_op rfl (op_pick_t (c := true) (a := (Value.bool (true))) rfl rfl rfl rfl ?_)
   refine wl_op rfl (op_move (v := (Value.bool (true))) rfl rfl ?_)
   refine wl_skip (c := true) rfl rfl rfl rfl rfl rfl ?_
   refine wl_skip (c := true) rfl rfl rfl rfl rfl rfl ?_
   refine wl_skip (c := true) rfl rfl rfl rfl rfl rfl ?_
   refine wl_skip (c := true) rfl rfl rfl rfl rfl rfl ?_
   refine wl_op rfl (op_pick_t (c := true) (a := (Value.bool (true))) rfl rfl rfl rfl ?_)
   refine wl_nil ?_
   refine wp_cond_t (b := true) rfl rfl ?_
   refine wp_seq' ?_
   refine wp_region' ?_
   refine wl_op rfl (op_assign (v := (Value.int .i64 (80))) rfl rfl ?_)
   refine wl_nil ?_
   refine wp_ret' ?_
   obtain rfl := Option.some.inj h2
   have h3 := h
   obtain rfl := Option.some.inj h3
   exact ⟨(Value.int .i64 (80)), (res1 rfl rfl), _, [], le1, I6, rfl, rfl⟩
  ·
   refine wl_taken (c := !x4) rfl rfl rfl rfl hc5 (op_fieldAddr_t (v := (Value.pointer (some ⟨g1, 0, none⟩))) rfl fa24_1 rfl (p1.at_ I6) ?_)
   refine wl_taken (c := !x4) rfl rfl rfl rfl hc5 (op_load (v := (fieldPtr (Value.pointer (some ⟨g1, 0, none⟩)) 1)) (e := a0.Doors) rfl sh22 rfl ((p1.at_ I6).fld Panel.fld1) (fun u2 hu2 => ?_))
   obtain ⟨z3, m3, k3, e4⟩ := rv_form hu2
   subst e4
   refine wl_taken (c := !x4) rfl rfl rfl rfl hc5 (op_len_rv rfl Try.underlying22 rfl hu2 ?_)
   refine wl_taken (c := !x4) rfl rfl rfl rfl hc5 (op_gtr (a := (a0.Doors.length : Int)) (b := 8) rfl rfl rfl ?_)
   refine wl_op rfl (op_pick_f (c := !x4) (b := (Value.bool (decide (8 < (a0.Doors.length : Int))))) rfl rfl hc5 rfl ?_)
   refine wl_op rfl (op_move (v := (Value.bool (decide (8 < (a0.Doors.length : Int))))) rfl rfl ?_)
   rcases ifs h2 with ⟨hc6, h2⟩ | ⟨hc6, h2⟩
   ·
    refine wl_skip (c := decide (8 < (a0.Doors.length : Int))) rfl rfl rfl rfl hc6 rfl ?_
    refine wl_skip (c := decide (8 < (a0.Doors.length : Int))) rfl rfl rfl rfl hc6 rfl ?_
    refine wl_skip (c := decide (8 < (a0.Doors.length : Int))) rfl rfl rfl rfl hc6 rfl ?_
    refine wl_skip (c := decide (8 < (a0.Doors.length : Int))) rfl rfl rfl rfl hc6 rfl ?_
    refine wl_op rfl (op_pick_t (c := decide (8 < (a0.Doors.length : Int))) (a := (Value.bool (true))) rfl rfl hc6 rfl ?_)
    refine wl_op rfl (op_move (v := (Value.bool (true))) rfl rfl ?_)
    refine wl_skip (c := true) rfl rfl rfl rfl rfl rfl ?_
    refine wl_skip (c := true) rfl rfl rfl rfl rfl rfl ?_
    refine wl_skip (c := true) rfl rfl rfl rfl rfl rfl ?_
    refine wl_skip (c := true) rfl rfl rfl rfl rfl rfl ?_
    refine wl_op rfl (op_pick_t (c := true) (a := (Value.bool (true))) rfl rfl rfl rfl ?_)
    refine wl_nil ?_
    refine wp_cond_t (b := true) rfl rfl ?_
    refine wp_seq' ?_
    refine wp_region' ?_
    refine wl_op rfl (op_assign (v := (Value.int .i64 (80))) rfl rfl ?_)
    refine wl_nil ?_
    refine wp_ret' ?_
    obtain rfl := Option.some.inj h2
    have h3 := h
    obtain rfl := Option.some.inj h3
    exact ⟨(Value.int .i64 (80)), (res1 rfl rfl), _, [], le1, I6, rfl, rfl⟩
   ·
    refine wl_taken (c := decide (8 < (a0.Doors.length : Int))) rfl rfl rfl rfl hc6 (op_fieldAddr_t (v := (Value.pointer (some ⟨g1, 0, none⟩))) rfl fa24_2 rfl (p1.at_ I6) ?_)
    refine wl_taken (c := decide (8 < (a0.Doors.length : Int))) rfl rfl rfl rfl hc6 (op_load_int (v := (fieldPtr (Value.pointer (some ⟨g1, 0, none⟩)) 2)) (e := a0.Stale) rfl sh3 rfl ((p1.at_ I6).fld Panel.fld2) ?_)
    obtain ⟨x5, hx5, h2⟩ := bnd h2
    refine wl_taken (c := decide (8 < (a0.Doors.length : Int))) rfl rfl rfl rfl hc6 (op_call_v (vs := [(Value.int .i64 (a0.Stale)), (Value.int .i64 (1)), (Value.int .i64 (50))]) (r := (Value.bool (x5))) rfl ca48 rfl (args3 rfl rfl rfl) I6 (fun Fr_ hF_ => F48_ok hF_  hx5) (fun w6 I7 => ?_))
    refine wl_taken (c := decide (8 < (a0.Doors.length : Int))) rfl rfl rfl rfl hc6 (op_not (b := x5) rfl rfl ?_)
    refine wl_op rfl (op_pick_f (c := decide (8 < (a0.Doors.length : Int))) (b := (Value.bool (!x5))) rfl rfl hc6 rfl ?_)
    refine wl_op rfl (op_move (v := (Value.bool (!x5))) rfl rfl ?_)
    rcases ifs h2 with ⟨hc7, h2⟩ | ⟨hc7, h2⟩
    ·
     refine wl_skip (c := !x5) rfl rfl rfl rfl hc7 rfl ?_
     refine wl_skip (c := !x5) rfl rfl rfl rfl hc7 rfl ?_
     refine wl_skip (c := !x5) rfl rfl rfl rfl hc7 rfl ?_
     refine wl_skip (c := !x5) rfl rfl rfl rfl hc7 rfl ?_
     refine wl_op rfl (op_pick_t (c := !x5) (a := (Value.bool (true))) rfl rfl hc7 rfl ?_)
     refine wl_nil ?_
     refine wp_cond_t (b := true) rfl rfl ?_
     refine wp_seq' ?_
     refine wp_region' ?_
     refine wl_op rfl (op_assign (v := (Value.int .i64 (80))) rfl rfl ?_)
     refine wl_nil ?_
     refine wp_ret' ?_
     obtain rfl := Option.some.inj h2
     have h3 := h
     obtain rfl := Option.some.inj h3
     exact ⟨(Value.int .i64 (80)), (res1 rfl rfl), _, [], le1, I7, rfl, rfl⟩
    ·
     refine wl_taken (c := !x5) rfl rfl rfl rfl hc7 (op_fieldAddr_t (v := (Value.pointer (some ⟨g1, 0, none⟩))) rfl fa24_3 rfl (p1.at_ I7) ?_)
     refine wl_taken (c := !x5) rfl rfl rfl rfl hc7 (op_load_int (v := (fieldPtr (Value.pointer (some ⟨g1, 0, none⟩)) 3)) (e := a0.Limit) rfl sh3 rfl ((p1.at_ I7).fld Panel.fld3) ?_)
     obtain ⟨x6, hx6, h2⟩ := bnd h2
     refine wl_taken (c := !x5) rfl rfl rfl rfl hc7 (op_call_v (vs := [(Value.int .i64 (a0.Limit)), (Value.int .i64 (1)), (Value.int .i64 (1000))]) (r := (Value.bool (x6))) rfl ca48 rfl (args3 rfl rfl rfl) I7 (fun Fr_ hF_ => F48_ok hF_  hx6) (fun w7 I8 => ?_))
     refine wl_taken (c := !x5) rfl rfl rfl rfl hc7 (op_not (b := x6) rfl rfl ?_)
     refine wl_op rfl (op_pick_f (c := !x5) (b := (Value.bool (!x6))) rfl rfl hc7 rfl ?_)
     refine wl_nil ?_
     rcases ifs h2 with ⟨hc8, h2⟩ | ⟨hc8, h2⟩
     ·
      refine wp_cond_t (b := !x6) rfl hc8 ?_
      refine wp_seq' ?_
      refine wp_region' ?_
      refine wl_op rfl (op_assign (v := (Value.int .i64 (80))) rfl rfl ?_)
      refine wl_nil ?_
      refine wp_ret' ?_
      obtain rfl := Option.some.inj h2
      have h3 := h
      obtain rfl := Option.some.inj h3
      exact ⟨(Value.int .i64 (80)), (res1 rfl rfl), _, [], le1, I8, rfl, rfl⟩
     ·
      refine wp_cond_f (b := !x6) rfl hc8 ?_
      refine wp_skip' ?_
      obtain rfl := Option.some.inj h2
      exact ⟨_, rfl, I8, rfl⟩
 ·
  rintro f w ⟨v1, rfl, I9, e5⟩
  have h := onL_inl h
  refine wp_seq' ?_
  refine wp_seq' ?_
  refine wp_region' ?_
  refine wl_op rfl (op_fieldAddr_t (v := (Value.pointer (some ⟨g1, 0, none⟩))) rfl fa24_1 e5 (p1.at_ I9) ?_)
  refine wl_op rfl (op_load (v := (fieldPtr (Value.pointer (some ⟨g1, 0, none⟩)) 1)) (e := a0.Doors) rfl sh22 rfl ((p1.at_ I9).fld Panel.fld1) (fun u3 hu3 => ?_))
  obtain ⟨z4, m4, k4, e6⟩ := rv_form hu3
  subst e6
  refine wl_op rfl (op_len_rv rfl Try.underlying22 rfl hu3 ?_)
  refine wl_op rfl (op_move (v := (Value.int .i64 (0))) rfl rfl ?_)
  refine wl_nil ?_
  have hk1 : a0.Doors.length ≤ 9223372036854775807 := (rv_len hu3)
  obtain ⟨o2, hrun1, h⟩ := bnd h
  refine wp_cutN (fun f w => ∃ out1, o2 = Sum.inl out1 ∧ Inv w S1 (Fr) ∧ f 1 = (Value.pointer (some ⟨g1, 0, none⟩)) ∧ f 29 = (Value.slice z4 m4 k4) ∧ f 30 = (Value.int .i64 ((a0.Doors.length : Int)))) ?_ ?_
  ·
   refine wp_block' ?_
   refine wp_forN (I := fun (i1 : Nat) (s1 : Unit) (f : Frm) (w : World) => Inv w S1 (Fr) ∧ f 1 = (Value.pointer (some ⟨g1, 0, none⟩)) ∧ f 29 = (Value.slice z4 m4 k4) ∧ f 30 = (Value.int .i64 ((a0.Doors.length : Int))) ∧ f 31 = (Value.int .i64 (i1 : Int))) hrun1 ⟨I9, e5, rfl, rfl, rfl⟩ ?_ ?_
   ·
    rintro i1 s1 f w o1 hlt1 hI1 h4 hout1
    obtain ⟨I20, e19, e20, e21, e22⟩ := hI1
    refine wp_seq' ?_
    refine wp_region' ?_
    refine wl_op rfl (op_lss (a := (i1 : Int)) (b := (a0.Doors.length : Int)) rfl e22 e21 ?_)
    refine wl_nil ?_
    refine wp_seq' ?_
    refine wp_cond_t (b := decide ((i1 : Int) < (a0.Doors.length : Int))) rfl (len_t hlt1) ?_
    refine wp_skip' ?_
    refine wp_seq' ?_
    refine wp_block' ?_
    refine wp_seq' ?_
    refine wp_region' ?_
    obtain ⟨x13, hx13, h4⟩ := bnd h4
    refine wl_op rfl (op_indexAddr_rv (v := (Value.slice z4 m4 k4)) (i := (i1 : Int)) (e := x13) rfl Try.underlying22 sh33 e20 hu3 e22 hx13 ?_)
    refine wl_op rfl (op_load (v := (elemPtr (Value.slice z4 m4 k4) ((i1 : Int)) (Enc.sz Gate))) (e := x13) rfl sh33 rfl (hu3.elem I20.in_ hx13) (fun u6 hu6 => ?_))
    obtain ⟨c4, e23, r4⟩ := Gate.inv hu6
    subst e23
    obtain ⟨z7, m7, k7, e24⟩ := rv_form r4
    subst e24
    refine wl_op rfl (op_alloc (z := (Value.agg #[(Value.int .i64 (0)), (Value.slice none 0 0)])) rfl I20 zo33 (fun g4 w16 (I21 : Inv w16 S1 (Cells g4 33 #[(Value.int .i64 (0)), (Value.slice none 0 0)] :: Fr)) => ?_))
    refine wl_op rfl (op_store (v := (Value.agg #[(Value.int .i64 (x13.Wait)), (Value.slice z7 m7 k7)])) (cs := #[(Value.int .i64 (0)), (Value.slice none 0 0)]) sh33 I21 rfl rfl rfl (Nat.le_of_ble_eq_true rfl) rfl (fun w17 (I22 : Inv w17 S1 (Cells g4 33 #[(Value.int .i64 (x13.Wait)), (Value.slice z7 m7 k7)] :: Fr)) => ?_))
    refine wl_nil ?_
    refine wp_seq' ?_
    refine wp_region' ?_
    refine wl_op rfl (op_makeFunc (fv := #[]) (cv := #[(Value.pointer (some ⟨g1, 0, none⟩))]) rfl arr0 (arr1 e19) ?_)
    refine wl_op rfl (op_assign (v := (Value.func (.func 49) #[] #[(Value.pointer (some ⟨g1, 0, none⟩))])) rfl rfl ?_)
    refine wl_nil ?_
    refine wp_seq' ?_
    refine wp_region' ?_
    refine wl_op rfl (op_fieldAddr (v := (Value.pointer (some ⟨g4, 0, none⟩))) rfl fa33_0 rfl rfl ?_)
    refine wl_op rfl (op_load1 (c := (Value.int .i64 (x13.Wait))) rfl sh3 (I22.nth 0 rfl) rfl rfl ?_)
    obtain ⟨x14, hx14, h4⟩ := bnd h4
    refine wl_op rfl (op_call_v (vs := [(Value.int .i64 (x13.Wait)), (Value.int .i64 (1)), (Value.int .i64 (50))]) (r := (Value.bool (x14))) rfl ca48 rfl (args3 rfl rfl rfl) I22 (fun Fr_ hF_ => F48_ok hF_  hx14) (fun w18 I23 => ?_))
    refine wl_op rfl (op_not (b := x14) rfl rfl ?_)
    refine wl_op rfl (op_move (v := (Value.bool (!x14))) rfl rfl ?_)
    rcases ifs h4 with ⟨hc15, h4⟩ | ⟨hc15, h4⟩
    ·
     refine wl_skip (c := !x14) rfl rfl rfl rfl hc15 rfl ?_
     refine wl_skip (c := !x14) rfl rfl rfl rfl hc15 rfl ?_
     refine wl_skip (c := !x14) rfl rfl rfl rfl hc15 rfl ?_
     refine wl_skip (c := !x14) rfl rfl rfl rfl hc15 rfl ?_
     refine wl_op rfl (op_pick_t (c := !x14) (a := (Value.bool (true))) rfl rfl hc15 rfl ?_)
     refine wl_op rfl (op_move (v := (Value.bool (true))) rfl rfl ?_)
     refine wl_skip (c := true) rfl rfl rfl rfl rfl rfl ?_
     refine wl_skip (c := true) rfl rfl rfl rfl rfl rfl ?_
     refine wl_skip (c := true) rfl rfl rfl rfl rfl rfl ?_
     refine wl_skip (c := true) rfl rfl rfl rfl rfl rfl ?_
     refine wl_op rfl (op_pick_t (c := true) (a := (Value.bool (true))) rfl rfl rfl rfl ?_)
     refine wl_nil ?_
     refine wp_cond_t (b := true) rfl rfl ?_
     refine wp_seq' ?_
     refine wp_region' ?_
     refine wl_op rfl (op_assign (v := (Value.int .i64 (80))) rfl rfl ?_)
     refine wl_nil ?_
     refine wp_ret' ?_
     obtain rfl := Option.some.inj h4
     obtain rfl := (hout1 _ rfl)
     have h5 := h
     obtain rfl := Option.some.inj h5
     exact ⟨(Value.int .i64 (80)), (res1 rfl rfl), _, [], le1, (I23).drop, rfl, rfl⟩
    ·
     refine wl_taken (c := !x14) rfl rfl rfl rfl hc15 (op_fieldAddr (v := (Value.pointer (some ⟨g4, 0, none⟩))) rfl fa33_1 rfl rfl ?_)
     refine wl_taken (c := !x14) rfl rfl rfl rfl hc15 (op_load1 (c := (Value.slice z7 m7 k7)) rfl sh31 (I23.nth 0 rfl) rfl rfl ?_)
     refine wl_taken (c := !x14) rfl rfl rfl rfl hc15 (op_len_rv rfl Try.underlying31 rfl r4 ?_)
     refine wl_taken (c := !x14) rfl rfl rfl rfl hc15 (op_gtr (a := (x13.When.length : Int)) (b := 8) rfl rfl rfl ?_)
     refine wl_op rfl (op_pick_f (c := !x14) (b := (Value.bool (decide (8 < (x13.When.length : Int))))) rfl rfl hc15 rfl ?_)
     refine wl_op rfl (op_move (v := (Value.bool (decide (8 < (x13.When.length : Int))))) rfl rfl ?_)
     rcases ifs h4 with ⟨hc16, h4⟩ | ⟨hc16, h4⟩
     ·
      refine wl_skip (c := decide (8 < (x13.When.length : Int))) rfl rfl rfl rfl hc16 rfl ?_
      refine wl_skip (c := decide (8 < (x13.When.length : Int))) rfl rfl rfl rfl hc16 rfl ?_
      refine wl_skip (c := decide (8 < (x13.When.length : Int))) rfl rfl rfl rfl hc16 rfl ?_
      refine wl_skip (c := decide (8 < (x13.When.length : Int))) rfl rfl rfl rfl hc16 rfl ?_
      refine wl_op rfl (op_pick_t (c := decide (8 < (x13.When.length : Int))) (a := (Value.bool (true))) rfl rfl hc16 rfl ?_)
      refine wl_nil ?_
      refine wp_cond_t (b := true) rfl rfl ?_
      refine wp_seq' ?_
      refine wp_region' ?_
      refine wl_op rfl (op_assign (v := (Value.int .i64 (80))) rfl rfl ?_)
      refine wl_nil ?_
      refine wp_ret' ?_
      obtain rfl := Option.some.inj h4
      obtain rfl := (hout1 _ rfl)
      have h5 := h
      obtain rfl := Option.some.inj h5
      exact ⟨(Value.int .i64 (80)), (res1 rfl rfl), _, [], le1, (I23).drop, rfl, rfl⟩
     ·
      refine wl_taken (c := decide (8 < (x13.When.length : Int))) rfl rfl rfl rfl hc16 (op_fieldAddr (v := (Value.pointer (some ⟨g4, 0, none⟩))) rfl fa33_1 rfl rfl ?_)
      refine wl_taken (c := decide (8 < (x13.When.length : Int))) rfl rfl rfl rfl hc16 (op_load1 (c := (Value.slice z7 m7 k7)) rfl sh31 (I23.nth 0 rfl) rfl rfl ?_)
      refine wl_taken (c := decide (8 < (x13.When.length : Int))) rfl rfl rfl rfl hc16 (op_move (v := (Value.func (.func 49) #[] #[(Value.pointer (some ⟨g1, 0, none⟩))])) rfl rfl ?_)
      obtain ⟨x15, hx15, h4⟩ := bnd h4
      refine wl_taken (c := decide (8 < (x13.When.length : Int))) rfl rfl rfl rfl hc16 (op_call_v (vs := [(Value.slice z7 m7 k7), (Value.func (.func 49) #[] #[(Value.pointer (some ⟨g1, 0, none⟩))])]) (r := (Value.bool (x15))) rfl ca50 rfl (args2 rfl rfl) I23 (fun Fr_ hF_ => F50_ok hF_ r4 ⟨49, [(Value.pointer (some ⟨g1, 0, none⟩))], rfl, ca49, fun T_ w_ Fr_ u_ x_ r_ hle_ hI_ hu_ hr_ => F49_ok hI_ hu_ (p1.mono hle_) hr_⟩ hx15) (fun w19 I24 => ?_))
      refine wl_op rfl (op_pick_f (c := decide (8 < (x13.When.length : Int))) (b := (Value.bool (x15))) rfl rfl hc16 rfl ?_)
      refine wl_nil ?_
      rcases ifs h4 with ⟨hc17, h4⟩ | ⟨hc17, h4⟩
      ·
       refine wp_cond_t (b := x15) rfl hc17 ?_
       refine wp_seq' ?_
       refine wp_region' ?_
       refine wl_op rfl (op_assign (v := (Value.int .i64 (80))) rfl rfl ?_)
       refine wl_nil ?_
       refine wp_ret' ?_
       obtain rfl := Option.some.inj h4
       obtain rfl := (hout1 _ rfl)
       have h5 := h
       obtain rfl := Option.some.inj h5
       exact ⟨(Value.int .i64 (80)), (res1 rfl rfl), _, [], le1, (I24).drop, rfl, rfl⟩
      ·
       refine wp_cond_f (b := x15) rfl hc17 ?_
       refine wp_skip' ?_
       refine wp_region' ?_
       refine wl_op rfl (op_add (a := (i1 : Int)) (b := 1) rfl e22 rfl ?_)
       refine wl_op rfl (op_move (v := (Value.int .i64 (w64 ((i1 : Int) + 1)))) rfl rfl ?_)
       refine wl_nil ?_
       obtain rfl := Option.some.inj h4
       exact ⟨_, rfl, (I24).drop, e19, e20, e21, (idx_next hlt1 hk1)⟩
   ·
    rintro s2 f w hs1 hI2
    obtain ⟨I25, e25, e26, e27, e28⟩ := hI2
    refine wp_seq' ?_
    refine wp_region' ?_
    refine wl_op rfl (op_lss (a := (a0.Doors.length : Int)) (b := (a0.Doors.length : Int)) rfl e28 e27 ?_)
    refine wl_nil ?_
    refine wp_seq' ?_
    refine wp_cond_f (b := decide ((a0.Doors.length : Int) < (a0.Doors.length : Int))) rfl (len_f _) ?_
    refine wp_exit' ?_
    exact ⟨s2, hs1, I25, e25, e26, e27⟩
  ·
   rintro f w ⟨out1, rfl, I26, e29, e30, e31⟩
   have h := onL_inl h
   refine wp_seq' ?_
   refine wp_region' ?_
   refine wl_op rfl (op_assign (v := (Value.int .i64 (0))) rfl rfl ?_)
   refine wl_nil ?_
   refine wp_ret' ?_
   obtain rfl := Option.some.inj h
   exact ⟨(Value.int .i64 (0)), (res1 rfl rfl), _, [], le1, I26, rfl, rfl⟩

set_option maxHeartbeats 1000000 in
theorem F65_ok {w : World} {S : PH} {Fr : List HP} {a0 : List Int} {v0 : Value} {r : List Int} (hI : Inv w S Fr) (h0_ : RV S v0 a0) (h : F65 a0 = some r) :
    Calls Try.prog 65 [v0].toArray w (Done S Fr (fun T_ v_ O_ => ∃ (a0_ : Option Addr) (n0_ k0_ : Nat), v_ = (Value.slice a0_ n0_ k0_) ∧ O_ = [Row (α := Int) 3 (Value.slice a0_ n0_ k0_) r])) := by
  unfold F65 at h
  obtain ⟨z1, cp1, e1, _, _, hn, _⟩ := rv_list h0_
  subst e1
  refine calls_enter (n := 8) (vs := [.slice z1 a0.length cp1]) Try.func65 rfl rfl rfl ?_
  refine wp_seq' (wp_region' (wl_op rfl (op_assign (v := .slice none 0 0) rfl rfl (wl_nil ?_))))
  refine wp_seq' (wp_seq' (wp_region' (wl_op rfl (op_move (v := .slice z1 a0.length cp1) rfl rfl (wl_op rfl (op_eqnil rfl Try.underlying34 rfl rfl (wl_nil ?_)))))))
  cases z1 with
  | none =>
    refine wp_cond_t (b := true) rfl rfl ?_
    refine wp_seq' (wp_region' (wl_op rfl (op_assign (v := .slice none 0 0) rfl rfl (wl_nil ?_))))
    refine wp_ret' ?_
    have hl := (hn rfl).1
    subst hl
    obtain rfl := Option.some.inj h
    exact ⟨_, res1 rfl rfl, S, [Row (α := Int) 3 (.slice none 0 0) []], PH.Le.refl _, hI.rowNil, _, _, _, rfl, rfl⟩
  | some ad =>
    refine wp_cond_f (b := false) rfl rfl (wp_skip' ?_)
    refine wp_seq' (wp_region' ?_)
    set_option maxRecDepth 100000 in
    refine wl_op rfl (op_buildSlice (vs := []) (r := ([] : List Int)) rfl Try.underlying34 el3 parts0 rfl (by decide) (by decide) trivial hI (fun u1 w1 I1 => ?_))
    obtain ⟨z2, m2, k2, e2⟩ := row_form I1
    subst e2
    refine wl_op rfl (op_move (v := .slice (some ad) a0.length cp1) rfl rfl ?_)
    refine wl_op rfl (op_append (α := Int) (v := .slice z2 m2 k2) (u := .slice (some ad) a0.length cp1) rfl rfl Try.underlying34 el3 (by decide) (by decide) rfl rfl I1 (h0_.src I1.in_) h (fun u2 w2 I2 => ?_))
    obtain ⟨z3, m3, k3, e3⟩ := row_form I2
    subst e3
    refine wl_op rfl (op_assign (v := .slice z3 m3 k3) rfl rfl ?_)
    refine wl_nil ?_
    refine wp_ret' ?_
    exact ⟨_, res1 rfl rfl, S, [Row (α := Int) 3 (.slice z3 m3 k3) r], PH.Le.refl _, I2, _, _, _, rfl, rfl⟩

set_option maxHeartbeats 4000000 in
set_option maxRecDepth 100000 in
theorem F76_ok {w : World} {S : PH} {Fr : List HP} {a0 : Sense} {v0 : Value} {a1 : Control_tick} {v1 : Value} {a2 : Panel} {v2 : Value} {r : Bool} (hI : Inv w S (Fr)) (h0_ : RV S v0 a0) (h1_ : PtS S v1 a1) (h2_ : PtS S v2 a2) (h : F76 a0 a1 a2 = some r) :
    Calls Try.prog 76 [v0, v1, v2].toArray w (DoneV S Fr (Value.bool (r))) := by
 unfold F76 at h
 have e1 := Sense.inv h0_
 subst e1
 refine calls_enter (n := 14) (vs := [(Value.agg #[(Value.int .i64 (a0.Sensor)), (Value.int .i64 (a0.Value)), (Value.bool (a0.Not))]), v1, v2]) Try.func76 rfl rfl rfl ?_
 refine wp_seq' ?_
 refine wp_region' ?_
 refine wl_op rfl (op_box (v := (Value.agg #[(Value.int .i64 (a0.Sensor)), (Value.int .i64 (a0.Value)), (Value.bool (a0.Not))])) rfl hI rfl (fun g1 w1 I1 => ?_))
 obtain ⟨S1, le1, I2, p1⟩ := Inv.boxFreeze (x := a0) I1 (Sense.rv (s := a0))
 refine wl_op rfl (op_assign (v := (Value.bool (false))) rfl rfl ?_)
 refine wl_nil ?_
 refine wp_seq' ?_
 obtain ⟨x1, hx1, h⟩ := bnd h
 refine wp_draw (sps := [⟨some 5, [], [0], fun vs_ T_ => fr0 vs_ 0 = (fieldPtr v1 2), [], [], [], fun _ h_ => h_⟩, ⟨some 6, [0], [1], fun vs_ T_ => RV T_ (fr0 vs_ 0) a1.ages, [], [], [], fun hle_ h_ => h_.mono hle_⟩, ⟨some 7, [], [2], fun vs_ T_ => fr0 vs_ 0 = (fieldPtr (Value.pointer (some ⟨g1, 0, none⟩)) 0), [], [], [], fun _ h_ => h_⟩, ⟨some 8, [2], [3], fun vs_ T_ => fr0 vs_ 0 = (Value.int .i64 (a0.Sensor)), [], [], [], fun _ h_ => h_⟩, ⟨some 9, [0, 1, 2, 3], [4, 1], fun vs_ T_ => fr0 vs_ 0 = (elemPtr (fr0 vs_ 1) (a0.Sensor) (Enc.sz Int)), [], [], [], fun _ h_ => h_⟩, ⟨some 10, [0, 1, 2, 3, 4], [5], fun vs_ T_ => fr0 vs_ 0 = (Value.int .i64 (x1)), [], [], [], fun _ h_ => h_⟩, ⟨some 11, [], [6], fun vs_ T_ => fr0 vs_ 0 = (fieldPtr v2 2), [], [], [], fun _ h_ => h_⟩, ⟨some 12, [6], [7], fun vs_ T_ => fr0 vs_ 0 = (Value.int .i64 (a2.Stale)), [], [], [], fun _ h_ => h_⟩, ⟨some 13, [0, 1, 2, 3, 4, 5, 6, 7], [8], fun vs_ T_ => fr0 vs_ 0 = (Value.bool (decide (a2.Stale ≤ x1))), [], [], [], fun _ h_ => h_⟩, ⟨some 4, [0, 1, 2, 3, 4, 5, 6, 7, 8], [9], fun vs_ T_ => fr0 vs_ 0 = (Value.bool (decide (a2.Stale ≤ x1))), [], [], [], fun _ h_ => h_⟩]) (tks := []) (O := Fr) rfl (by kernel_rfl) I2 ⟨?_, ?_, ?_, ?_, ?_, ?_, ?_, ?_, ?_, ?_, trivial⟩ ?_
 ·
  intro vs1 f w2 S2 X1 le2 hA1 hK1 hI1
  have I3 : Inv w2 S2 (X1) := hI1
  refine opg_plain rfl rfl (op_fieldAddr_t (v := v1) rfl fa87_2 (hK1 1 (keep_of rfl)) ((h1_.mono (le1.trans le2)).at_ I3) ?_)
  refine ⟨_, _, rfl, PH.Le.refl _, ?_, ?_⟩
  ·
   exact rfl
  ·
   exact I3
 ·
  intro vs2 f w3 S3 X2 le3 hA2 hK2 hI2
  have I4 : Inv w3 S3 (X2) := hI2
  have q1 : f 5 = (fieldPtr v1 2) := vt (hA2.at_ 0 rfl _ rfl) rfl
  refine opg_plain rfl rfl (op_load (v := (fieldPtr v1 2)) (e := a1.ages) rfl sh34 q1 (((h1_.mono (le1.trans le3)).at_ I4).fld Control_tick.fld2) (fun u2 hu2 => ?_))
  obtain ⟨z1, m1, k1, e2⟩ := rv_form hu2
  subst e2
  refine ⟨_, _, rfl, PH.Le.refl _, ?_, ?_⟩
  ·
   exact hu2
  ·
   exact I4
 ·
  intro vs3 f w4 S4 X3 le4 hA3 hK3 hI3
  have I5 : Inv w4 S4 (X3) := hI3
  refine opg_plain rfl rfl (op_fieldAddr_t (v := (Value.pointer (some ⟨g1, 0, none⟩))) rfl fa44_0 (hK3 3 (keep_of rfl)) ((p1.mono le4).at_ I5) ?_)
  refine ⟨_, _, rfl, PH.Le.refl _, ?_, ?_⟩
  ·
   exact rfl
  ·
   exact I5
 ·
  intro vs4 f w5 S5 X4 le5 hA4 hK4 hI4
  have I6 : Inv w5 S5 (X4) := hI4
  have q2 : f 7 = (fieldPtr (Value.pointer (some ⟨g1, 0, none⟩)) 0) := vt (hA4.at_ 0 rfl _ rfl) rfl
  refine opg_plain rfl rfl (op_load_int (v := (fieldPtr (Value.pointer (some ⟨g1, 0, none⟩)) 0)) (e := a0.Sensor) rfl sh3 q2 (((p1.mono le5).at_ I6).fld Sense.fld0) ?_)
  refine ⟨_, _, rfl, PH.Le.refl _, ?_, ?_⟩
  ·
   exact rfl
  ·
   exact I6
 ·
  intro vs5 f w6 S6 X5 le6 hA5 hK5 hI5
  have I7 : Inv w6 S6 (X5) := hI5
  have q3 : f 6 = vs5 1 := (hA5.at_ 1 rfl _ rfl).1 _ rfl
  have r1 : RV S6 (vs5 1) a1.ages := (hA5.at_ 1 rfl _ rfl).2
  obtain ⟨u3, hu3⟩ : ∃ u, vs5 1 = u := ⟨_, rfl⟩
  rw [hu3] at q3 r1
  obtain ⟨z2, m2, k2, e3⟩ := rv_form r1
  subst e3
  have q4 : f 8 = (Value.int .i64 (a0.Sensor)) := vt (hA5.at_ 3 rfl _ rfl) rfl
  refine opg_plain rfl rfl (op_indexAddr_rv (v := (Value.slice z2 m2 k2)) (i := a0.Sensor) (e := x1) rfl Try.underlying34 sh3 q3 r1 q4 hx1 ?_)
  refine ⟨_, _, rfl, PH.Le.refl _, ?_, ?_⟩
  ·
   show (elemPtr (Value.slice z2 m2 k2) (a0.Sensor) (Enc.sz Int)) = (elemPtr (vs5 1) (a0.Sensor) (Enc.sz Int))
   simp only [hu3] <;> rfl
  ·
   exact I7
 ·
  intro vs6 f w7 S7 X6 le7 hA6 hK6 hI6
  have I8 : Inv w7 S7 (X6) := hI6
  have q5 : f 6 = vs6 1 := (hA6.at_ 1 rfl _ rfl).1 _ rfl
  have r2 : RV S7 (vs6 1) a1.ages := (hA6.at_ 1 rfl _ rfl).2
  obtain ⟨u4, hu4⟩ : ∃ u, vs6 1 = u := ⟨_, rfl⟩
  rw [hu4] at q5 r2
  obtain ⟨z3, m3, k3, e4⟩ := rv_form r2
  subst e4
  have q6 : f 8 = (Value.int .i64 (a0.Sensor)) := vt (hA6.at_ 3 rfl _ rfl) rfl
  have q7 : f 9 = (elemPtr (vs6 1) (a0.Sensor) (Enc.sz Int)) := vt (hA6.at_ 4 rfl _ rfl) rfl
  simp only [hu4] at q7
  have q7 : f 9 = (elemPtr (Value.slice z3 m3 k3) (a0.Sensor) (Enc.sz Int)) := q7
  refine opg_plain rfl rfl (op_load_int (v := (elemPtr (Value.slice z3 m3 k3) (a0.Sensor) (Enc.sz Int))) (e := x1) rfl sh3 q7 (r2.elem I8.in_ hx1) ?_)
  refine ⟨_, _, rfl, PH.Le.refl _, ?_, ?_⟩
  ·
   exact rfl
  ·
   exact I8
 ·
  intro vs7 f w8 S8 X7 le8 hA7 hK7 hI7
  have I9 : Inv w8 S8 (X7) := hI7
  refine opg_plain rfl rfl (op_fieldAddr_t (v := v2) rfl fa24_2 (hK7 2 (keep_of rfl)) ((h2_.mono (le1.trans le8)).at_ I9) ?_)
  refine ⟨_, _, rfl, PH.Le.refl _, ?_, ?_⟩
  ·
   exact rfl
  ·
   exact I9
 ·
  intro vs8 f w9 S9 X8 le9 hA8 hK8 hI8
  have I10 : Inv w9 S9 (X8) := hI8
  have q8 : f 11 = (fieldPtr v2 2) := vt (hA8.at_ 0 rfl _ rfl) rfl
  refine opg_plain rfl rfl (op_load_int (v := (fieldPtr v2 2)) (e := a2.Stale) rfl sh3 q8 (((h2_.mono (le1.trans le9)).at_ I10).fld Panel.fld2) ?_)
  refine ⟨_, _, rfl, PH.Le.refl _, ?_, ?_⟩
  ·
   exact rfl
  ·
   exact I10
 ·
  intro vs9 f w10 S10 X9 le10 hA9 hK9 hI9
  have I11 : Inv w10 S10 (X9) := hI9
  have q9 : f 10 = (Value.int .i64 (x1)) := vt (hA9.at_ 5 rfl _ rfl) rfl
  have q10 : f 12 = (Value.int .i64 (a2.Stale)) := vt (hA9.at_ 7 rfl _ rfl) rfl
  refine opg_plain rfl rfl (op_geq (a := x1) (b := a2.Stale) rfl q9 q10 ?_)
  refine ⟨_, _, rfl, PH.Le.refl _, ?_, ?_⟩
  ·
   exact rfl
  ·
   exact I11
 ·
  intro vs10 f w11 S11 X10 le11 hA10 hK10 hI10
  have I12 : Inv w11 S11 (X10) := hI10
  have q11 : f 13 = (Value.bool (decide (a2.Stale ≤ x1))) := vt (hA10.at_ 8 rfl _ rfl) rfl
  refine opg_plain rfl rfl (op_assign (v := (Value.bool (decide (a2.Stale ≤ x1)))) rfl q11 ?_)
  refine ⟨_, _, rfl, PH.Le.refl _, ?_, ?_⟩
  ·
   exact rfl
  ·
   exact I12
 ·
  intro vs11 f w12 S12 le12 hF1 hK11 hI11
  have I13 : Inv w12 S12 (Fr) := hI11
  have q12 : f 4 = (Value.bool (decide (a2.Stale ≤ x1))) := vt (hF1.at_ 9 rfl _ rfl) rfl
  refine wp_ret' ?_
  obtain rfl := Option.some.inj h
  exact ⟨(Value.bool (decide (a2.Stale ≤ x1))), (res1 rfl q12), _, [], (le1.trans le12), I13, rfl, rfl⟩

set_option maxHeartbeats 4000000 in
set_option maxRecDepth 100000 in
theorem F77_ok {w : World} {S : PH} {Fr : List HP} {a0 : Sense} {v0 : Value} {a1 : Control_tick} {v1 : Value} {r : Bool} (hI : Inv w S (Fr)) (h0_ : RV S v0 a0) (h1_ : PtS S v1 a1) (h : F77 a0 a1 = some r) :
    Calls Try.prog 77 [v0, v1].toArray w (DoneV S Fr (Value.bool (r))) := by
 unfold F77 at h
 have e1 := Sense.inv h0_
 subst e1
 refine calls_enter (n := 16) (vs := [(Value.agg #[(Value.int .i64 (a0.Sensor)), (Value.int .i64 (a0.Value)), (Value.bool (a0.Not))]), v1]) Try.func77 rfl rfl rfl ?_
 refine wp_seq' ?_
 refine wp_region' ?_
 refine wl_op rfl (op_box (v := (Value.agg #[(Value.int .i64 (a0.Sensor)), (Value.int .i64 (a0.Value)), (Value.bool (a0.Not))])) rfl hI rfl (fun g1 w1 I1 => ?_))
 obtain ⟨S1, le1, I2, p1⟩ := Inv.boxFreeze (x := a0) I1 (Sense.rv (s := a0))
 refine wl_op rfl (op_assign (v := (Value.bool (false))) rfl rfl ?_)
 refine wl_nil ?_
 refine wp_seq' ?_
 obtain ⟨x1, hx1, h⟩ := bnd h
 refine wp_draw (sps := [⟨some 4, [], [0], fun vs_ T_ => fr0 vs_ 0 = (fieldPtr v1 1), [], [], [], fun _ h_ => h_⟩, ⟨some 5, [0], [1], fun vs_ T_ => RV T_ (fr0 vs_ 0) a1.values, [], [], [], fun hle_ h_ => h_.mono hle_⟩, ⟨some 6, [], [2], fun vs_ T_ => fr0 vs_ 0 = (fieldPtr (Value.pointer (some ⟨g1, 0, none⟩)) 0), [], [], [], fun _ h_ => h_⟩, ⟨some 7, [2], [3], fun vs_ T_ => fr0 vs_ 0 = (Value.int .i64 (a0.Sensor)), [], [], [], fun _ h_ => h_⟩, ⟨some 8, [0, 1, 2, 3], [4, 1], fun vs_ T_ => fr0 vs_ 0 = (elemPtr (fr0 vs_ 1) (a0.Sensor) (Enc.sz Int)), [], [], [], fun _ h_ => h_⟩, ⟨some 9, [0, 1, 2, 3, 4], [5], fun vs_ T_ => fr0 vs_ 0 = (Value.int .i64 (x1)), [], [], [], fun _ h_ => h_⟩, ⟨some 10, [], [6], fun vs_ T_ => fr0 vs_ 0 = (fieldPtr (Value.pointer (some ⟨g1, 0, none⟩)) 1), [], [], [], fun _ h_ => h_⟩, ⟨some 11, [6], [7], fun vs_ T_ => fr0 vs_ 0 = (Value.int .i64 (a0.Value)), [], [], [], fun _ h_ => h_⟩, ⟨some 12, [0, 1, 2, 3, 4, 5, 6, 7], [8], fun vs_ T_ => fr0 vs_ 0 = (Value.bool (x1 == a0.Value)), [], [], [], fun _ h_ => h_⟩, ⟨some 13, [], [9], fun vs_ T_ => fr0 vs_ 0 = (fieldPtr (Value.pointer (some ⟨g1, 0, none⟩)) 2), [], [], [], fun _ h_ => h_⟩, ⟨some 14, [9], [10], fun vs_ T_ => fr0 vs_ 0 = (Value.bool (a0.Not)), [], [], [], fun _ h_ => h_⟩, ⟨some 15, [0, 1, 2, 3, 4, 5, 6, 7, 8, 9, 10], [11], fun vs_ T_ => fr0 vs_ 0 = (Value.bool ((x1 == a0.Value) == a0.Not)), [], [], [], fun _ h_ => h_⟩, ⟨some 3, [0, 1, 2, 3, 4, 5, 6, 7, 8, 9, 10, 11], [12], fun vs_ T_ => fr0 vs_ 0 = (Value.bool ((x1 == a0.Value) == a0.Not)), [], [], [], fun _ h_ => h_⟩]) (tks := []) (O := Fr) rfl (by kernel_rfl) I2 ⟨?_, ?_, ?_, ?_, ?_, ?_, ?_, ?_, ?_, ?_, ?_, ?_, ?_, trivial⟩ ?_
 ·
  intro vs1 f w2 S2 X1 le2 hA1 hK1 hI1
  have I3 : Inv w2 S2 (X1) := hI1
  refine opg_plain rfl rfl (op_fieldAddr_t (v := v1) rfl fa87_1 (hK1 1 (keep_of rfl)) ((h1_.mono (le1.trans le2)).at_ I3) ?_)
  refine ⟨_, _, rfl, PH.Le.refl _, ?_, ?_⟩
  ·
   exact rfl
  ·
   exact I3
 ·
  intro vs2 f w3 S3 X2 le3 hA2 hK2 hI2
  have I4 : Inv w3 S3 (X2) := hI2
  have q1 : f 4 = (fieldPtr v1 1) := vt (hA2.at_ 0 rfl _ rfl) rfl
  refine opg_plain rfl rfl (op_load (v := (fieldPtr v1 1)) (e := a1.values) rfl sh34 q1 (((h1_.mono (le1.trans le3)).at_ I4).fld Control_tick.fld1) (fun u2 hu2 => ?_))
  obtain ⟨z1, m1, k1, e2⟩ := rv_form hu2
  subst e2
  refine ⟨_, _, rfl, PH.Le.refl _, ?_, ?_⟩
  ·
   exact hu2
  ·
   exact I4
 ·
  intro vs3 f w4 S4 X3 le4 hA3 hK3 hI3
  have I5 : Inv w4 S4 (X3) := hI3
  refine opg_plain rfl rfl (op_fieldAddr_t (v := (Value.pointer (some ⟨g1, 0, none⟩))) rfl fa44_0 (hK3 2 (keep_of rfl)) ((p1.mono le4).at_ I5) ?_)
  refine ⟨_, _, rfl, PH.Le.refl _, ?_, ?_⟩
  ·
   exact rfl
  ·
   exact I5
 ·
  intro vs4 f w5 S5 X4 le5 hA4 hK4 hI4
  have I6 : Inv w5 S5 (X4) := hI4
  have q2 : f 6 = (fieldPtr (Value.pointer (some ⟨g1, 0, none⟩)) 0) := vt (hA4.at_ 0 rfl _ rfl) rfl
  refine opg_plain rfl rfl (op_load_int (v := (fieldPtr (Value.pointer (some ⟨g1, 0, none⟩)) 0)) (e := a0.Sensor) rfl sh3 q2 (((p1.mono le5).at_ I6).fld Sense.fld0) ?_)
  refine ⟨_, _, rfl, PH.Le.refl _, ?_, ?_⟩
  ·
   exact rfl
  ·
   exact I6
 ·
  intro vs5 f w6 S6 X5 le6 hA5 hK5 hI5
  have I7 : Inv w6 S6 (X5) := hI5
  have q3 : f 5 = vs5 1 := (hA5.at_ 1 rfl _ rfl).1 _ rfl
  have r1 : RV S6 (vs5 1) a1.values := (hA5.at_ 1 rfl _ rfl).2
  obtain ⟨u3, hu3⟩ : ∃ u, vs5 1 = u := ⟨_, rfl⟩
  rw [hu3] at q3 r1
  obtain ⟨z2, m2, k2, e3⟩ := rv_form r1
  subst e3
  have q4 : f 7 = (Value.int .i64 (a0.Sensor)) := vt (hA5.at_ 3 rfl _ rfl) rfl
  refine opg_plain rfl rfl (op_indexAddr_rv (v := (Value.slice z2 m2 k2)) (i := a0.Sensor) (e := x1) rfl Try.underlying34 sh3 q3 r1 q4 hx1 ?_)
  refine ⟨_, _, rfl, PH.Le.refl _, ?_, ?_⟩
  ·
   show (elemPtr (Value.slice z2 m2 k2) (a0.Sensor) (Enc.sz Int)) = (elemPtr (vs5 1) (a0.Sensor) (Enc.sz Int))
   simp only [hu3] <;> rfl
  ·
   exact I7
 ·
  intro vs6 f w7 S7 X6 le7 hA6 hK6 hI6
  have I8 : Inv w7 S7 (X6) := hI6
  have q5 : f 5 = vs6 1 := (hA6.at_ 1 rfl _ rfl).1 _ rfl
  have r2 : RV S7 (vs6 1) a1.values := (hA6.at_ 1 rfl _ rfl).2
  obtain ⟨u4, hu4⟩ : ∃ u, vs6 1 = u := ⟨_, rfl⟩
  rw [hu4] at q5 r2
  obtain ⟨z3, m3, k3, e4⟩ := rv_form r2
  subst e4
  have q6 : f 7 = (Value.int .i64 (a0.Sensor)) := vt (hA6.at_ 3 rfl _ rfl) rfl
  have q7 : f 8 = (elemPtr (vs6 1) (a0.Sensor) (Enc.sz Int)) := vt (hA6.at_ 4 rfl _ rfl) rfl
  simp only [hu4] at q7
  have q7 : f 8 = (elemPtr (Value.slice z3 m3 k3) (a0.Sensor) (Enc.sz Int)) := q7
  refine opg_plain rfl rfl (op_load_int (v := (elemPtr (Value.slice z3 m3 k3) (a0.Sensor) (Enc.sz Int))) (e := x1) rfl sh3 q7 (r2.elem I8.in_ hx1) ?_)
  refine ⟨_, _, rfl, PH.Le.refl _, ?_, ?_⟩
  ·
   exact rfl
  ·
   exact I8
 ·
  intro vs7 f w8 S8 X7 le8 hA7 hK7 hI7
  have I9 : Inv w8 S8 (X7) := hI7
  refine opg_plain rfl rfl (op_fieldAddr_t (v := (Value.pointer (some ⟨g1, 0, none⟩))) rfl fa44_1 (hK7 2 (keep_of rfl)) ((p1.mono le8).at_ I9) ?_)
  refine ⟨_, _, rfl, PH.Le.refl _, ?_, ?_⟩
  ·
   exact rfl
  ·
   exact I9
 ·
  intro vs8 f w9 S9 X8 le9 hA8 hK8 hI8
  have I10 : Inv w9 S9 (X8) := hI8
  have q8 : f 10 = (fieldPtr (Value.pointer (some ⟨g1, 0, none⟩)) 1) := vt (hA8.at_ 0 rfl _ rfl) rfl
  refine opg_plain rfl rfl (op_load_int (v := (fieldPtr (Value.pointer (some ⟨g1, 0, none⟩)) 1)) (e := a0.Value) rfl sh3 q8 (((p1.mono le9).at_ I10).fld Sense.fld1) ?_)
  refine ⟨_, _, rfl, PH.Le.refl _, ?_, ?_⟩
  ·
   exact rfl
  ·
   exact I10
 ·
  intro vs9 f w10 S10 X9 le10 hA9 hK9 hI9
  have I11 : Inv w10 S10 (X9) := hI9
  have q9 : f 9 = (Value.int .i64 (x1)) := vt (hA9.at_ 5 rfl _ rfl) rfl
  have q10 : f 11 = (Value.int .i64 (a0.Value)) := vt (hA9.at_ 7 rfl _ rfl) rfl
  refine opg_plain rfl rfl (op_eql (a := x1) (b := a0.Value) rfl q9 q10 ?_)
  refine ⟨_, _, rfl, PH.Le.refl _, ?_, ?_⟩
  ·
   exact rfl
  ·
   exact I11
 ·
  intro vs10 f w11 S11 X10 le11 hA10 hK10 hI10
  have I12 : Inv w11 S11 (X10) := hI10
  refine opg_plain rfl rfl (op_fieldAddr_t (v := (Value.pointer (some ⟨g1, 0, none⟩))) rfl fa44_2 (hK10 2 (keep_of rfl)) ((p1.mono le11).at_ I12) ?_)
  refine ⟨_, _, rfl, PH.Le.refl _, ?_, ?_⟩
  ·
   exact rfl
  ·
   exact I12
 ·
  intro vs11 f w12 S12 X11 le12 hA11 hK11 hI11
  have I13 : Inv w12 S12 (X11) := hI11
  have q11 : f 13 = (fieldPtr (Value.pointer (some ⟨g1, 0, none⟩)) 2) := vt (hA11.at_ 0 rfl _ rfl) rfl
  refine opg_plain rfl rfl (op_load_bool (v := (fieldPtr (Value.pointer (some ⟨g1, 0, none⟩)) 2)) (e := a0.Not) rfl sh4 q11 (((p1.mono le12).at_ I13).fld Sense.fld2) ?_)
  refine ⟨_, _, rfl, PH.Le.refl _, ?_, ?_⟩
  ·
   exact rfl
  ·
   exact I13
 ·
  intro vs12 f w13 S13 X12 le13 hA12 hK12 hI12
  have I14 : Inv w13 S13 (X12) := hI12
  have q12 : f 12 = (Value.bool (x1 == a0.Value)) := vt (hA12.at_ 8 rfl _ rfl) rfl
  have q13 : f 14 = (Value.bool (a0.Not)) := vt (hA12.at_ 10 rfl _ rfl) rfl
  refine opg_plain rfl rfl (op_beql (a := x1 == a0.Value) (b := a0.Not) rfl Try.underlying4 q12 q13 ?_)
  refine ⟨_, _, rfl, PH.Le.refl _, ?_, ?_⟩
  ·
   exact rfl
  ·
   exact I14
 ·
  intro vs13 f w14 S14 X13 le14 hA13 hK13 hI13
  have I15 : Inv w14 S14 (X13) := hI13
  have q14 : f 15 = (Value.bool ((x1 == a0.Value) == a0.Not)) := vt (hA13.at_ 11 rfl _ rfl) rfl
  refine opg_plain rfl rfl (op_assign (v := (Value.bool ((x1 == a0.Value) == a0.Not))) rfl q14 ?_)
  refine ⟨_, _, rfl, PH.Le.refl _, ?_, ?_⟩
  ·
   exact rfl
  ·
   exact I15
 ·
  intro vs14 f w15 S15 le15 hF1 hK14 hI14
  have I16 : Inv w15 S15 (Fr) := hI14
  have q15 : f 3 = (Value.bool ((x1 == a0.Value) == a0.Not)) := vt (hF1.at_ 12 rfl _ rfl) rfl
  refine wp_ret' ?_
  obtain rfl := Option.some.inj h
  exact ⟨(Value.bool ((x1 == a0.Value) == a0.Not)), (res1 rfl q15), _, [], (le1.trans le15), I16, rfl, rfl⟩

set_option maxHeartbeats 4000000 in
set_option maxRecDepth 100000 in
theorem F66_ok {w : World} {S : PH} {Fr : List HP} {a0 : Control_tick} {v0 : Value} {a1 : Panel} {v1 : Value} {a2 : Int} {a3 : Gate} {v3 : Value} {r : Int} (hI : Inv w S (Fr)) (h0_ : RV S v0 a0) (h1_ : RV S v1 a1) (h3_ : RV S v3 a3) (h : F66 a0 a1 a2 a3 = some r) :
    Calls Try.prog 66 [v0, v1, (Value.int .i64 (a2)), v3].toArray w (DoneV S Fr (Value.int .i64 (r))) := by
 unfold F66 at h
 obtain ⟨c1, c2, c3, c4, c5, e1, r1, r2, r3, r4, r5⟩ := Control_tick.inv h0_
 subst e1
 obtain ⟨z1, m1, k1, e2⟩ := rv_form r1
 subst e2
 obtain ⟨z2, m2, k2, e3⟩ := rv_form r2
 subst e3
 obtain ⟨z3, m3, k3, e4⟩ := rv_form r3
 subst e4
 obtain ⟨z4, m4, k4, e5⟩ := rv_form r4
 subst e5
 obtain ⟨z5, m5, k5, e6⟩ := rv_form r5
 subst e6
 obtain ⟨c6, e7, r6⟩ := Panel.inv h1_
 subst e7
 obtain ⟨z6, m6, k6, e8⟩ := rv_form r6
 subst e8
 obtain ⟨c7, e9, r7⟩ := Gate.inv h3_
 subst e9
 obtain ⟨z7, m7, k7, e10⟩ := rv_form r7
 subst e10
 refine calls_enter (n := 30) (vs := [(Value.agg #[(Value.bool (a0.power)), (Value.slice z1 m1 k1), (Value.slice z2 m2 k2), (Value.slice z3 m3 k3), (Value.slice z4 m4 k4), (Value.slice z5 m5 k5)]), (Value.agg #[(Value.int .i64 (a1.Sensors)), (Value.slice z6 m6 k6), (Value.int .i64 (a1.Stale)), (Value.int .i64 (a1.Limit))]), (Value.int .i64 (a2)), (Value.agg #[(Value.int .i64 (a3.Wait)), (Value.slice z7 m7 k7)])]) Try.func66 rfl rfl rfl ?_
 refine wp_seq' ?_
 refine wp_region' ?_
 refine wl_op rfl (op_box (v := (Value.agg #[(Value.bool (a0.power)), (Value.slice z1 m1 k1), (Value.slice z2 m2 k2), (Value.slice z3 m3 k3), (Value.slice z4 m4 k4), (Value.slice z5 m5 k5)])) rfl hI rfl (fun g1 w1 I1 => ?_))
 obtain ⟨S1, le1, I2, p1⟩ := Inv.boxFreeze (x := a0) I1 (Control_tick.rv (s := a0) r1 r2 r3 r4 r5)
 refine wl_op rfl (op_box (v := (Value.agg #[(Value.int .i64 (a1.Sensors)), (Value.slice z6 m6 k6), (Value.int .i64 (a1.Stale)), (Value.int .i64 (a1.Limit))])) rfl I2 rfl (fun g2 w2 I3 => ?_))
 obtain ⟨S2, le2, I4, p2⟩ := Inv.boxFreeze (x := a1) I3 (Panel.rv (s := a1) (r6.mono le1))
 refine wl_op rfl (op_box (v := (Value.agg #[(Value.int .i64 (a3.Wait)), (Value.slice z7 m7 k7)])) rfl I4 rfl (fun g3 w3 I5 => ?_))
 obtain ⟨S3, le3, I6, p3⟩ := Inv.boxFreeze (x := a3) I5 (Gate.rv (s := a3) (r7.mono (le1.trans le2)))
 refine wl_op rfl (op_assign (v := (Value.int .i64 (0))) rfl rfl ?_)
 refine wl_nil ?_
 refine wp_seq' ?_
 refine wp_region' ?_
 refine wl_op rfl (op_makeFunc (fv := #[]) (cv := #[(Value.pointer (some ⟨g1, 0, none⟩)), (Value.pointer (some ⟨g2, 0, none⟩))]) rfl arr0 (arr2 rfl rfl) ?_)
 refine wl_op rfl (op_assign (v := (Value.func (.func 76) #[] #[(Value.pointer (some ⟨g1, 0, none⟩)), (Value.pointer (some ⟨g2, 0, none⟩))])) rfl rfl ?_)
 refine wl_nil ?_
 refine wp_seq' ?_
 refine wp_region' ?_
 refine wl_op rfl (op_makeFunc (fv := #[]) (cv := #[(Value.pointer (some ⟨g1, 0, none⟩))]) rfl arr0 (arr1 rfl) ?_)
 refine wl_op rfl (op_assign (v := (Value.func (.func 77) #[] #[(Value.pointer (some ⟨g1, 0, none⟩))])) rfl rfl ?_)
 refine wl_nil ?_
 refine wp_seq' ?_
 refine wp_seq' ?_
 refine wp_region' ?_
 refine wl_op rfl (op_move (v := (Value.int .i64 (a2))) rfl rfl ?_)
 refine wl_op rfl (op_fieldAddr_t (v := (Value.pointer (some ⟨g2, 0, none⟩))) rfl fa24_3 rfl ((p2.mono le3).at_ I6) ?_)
 refine wl_op rfl (op_load_int (v := (fieldPtr (Value.pointer (some ⟨g2, 0, none⟩)) 3)) (e := a1.Limit) rfl sh3 rfl (((p2.mono le3).at_ I6).fld Panel.fld3) ?_)
 refine wl_op rfl (op_geq (a := a2) (b := a1.Limit) rfl rfl rfl ?_)
 refine wl_op rfl (op_move (v := (Value.bool (decide (a1.Limit ≤ a2)))) rfl rfl ?_)
 rcases ifs h with ⟨hc1, h⟩ | ⟨hc1, h⟩
 ·
  refine wl_skip (c := decide (a1.Limit ≤ a2)) rfl rfl rfl rfl hc1 rfl ?_
  refine wl_skip (c := decide (a1.Limit ≤ a2)) rfl rfl rfl rfl hc1 rfl ?_
  refine wl_skip (c := decide (a1.Limit ≤ a2)) rfl rfl rfl rfl hc1 rfl ?_
  refine wl_skip (c := decide (a1.Limit ≤ a2)) rfl rfl rfl rfl hc1 rfl ?_
  refine wl_op rfl (op_pick_t (c := decide (a1.Limit ≤ a2)) (a := (Value.bool (true))) rfl rfl hc1 rfl ?_)
  refine wl_op rfl (op_move (v := (Value.bool (true))) rfl rfl ?_)
  refine wl_skip (c := true) rfl rfl rfl rfl rfl rfl ?_
  refine wl_skip (c := true) rfl rfl rfl rfl rfl rfl ?_
  refine wl_skip (c := true) rfl rfl rfl rfl rfl rfl ?_
  refine wl_skip (c := true) rfl rfl rfl rfl rfl rfl ?_
  refine wl_skip (c := true) rfl rfl rfl rfl rfl rfl ?_
  refine wl_op rfl (op_pick_t (c := true) (a := (Value.bool (true))) rfl rfl rfl rfl ?_)
  refine wl_nil ?_
  refine wp_cond_t (b := true) rfl rfl ?_
  refine wp_seq' ?_
  refine wp_region' ?_
  refine wl_op rfl (op_assign (v := (Value.int .i64 (2))) rfl rfl ?_)
  refine wl_nil ?_
  refine wp_ret' ?_
  obtain rfl := Option.some.inj h
  exact ⟨(Value.int .i64 (2)), (res1 rfl rfl), _, [], ((le1.trans le2).trans le3), I6, rfl, rfl⟩
 ·
  refine wl_taken (c := decide (a1.Limit ≤ a2)) rfl rfl rfl rfl hc1 (op_fieldAddr_t (v := (Value.pointer (some ⟨g3, 0, none⟩))) rfl fa33_1 rfl (p3.at_ I6) ?_)
  refine wl_taken (c := decide (a1.Limit ≤ a2)) rfl rfl rfl rfl hc1 (op_load (v := (fieldPtr (Value.pointer (some ⟨g3, 0, none⟩)) 1)) (e := a3.When) rfl sh31 rfl ((p3.at_ I6).fld Gate.fld1) (fun u1 hu1 => ?_))
  obtain ⟨z8, m8, k8, e11⟩ := rv_form hu1
  subst e11
  refine wl_taken (c := decide (a1.Limit ≤ a2)) rfl rfl rfl rfl hc1 (op_move (v := (Value.func (.func 76) #[] #[(Value.pointer (some ⟨g1, 0, none⟩)), (Value.pointer (some ⟨g2, 0, none⟩))])) rfl rfl ?_)
  obtain ⟨x1, hx1, h⟩ := bnd h
  refine wl_taken (c := decide (a1.Limit ≤ a2)) rfl rfl rfl rfl hc1 (op_call_v (vs := [(Value.slice z8 m8 k8), (Value.func (.func 76) #[] #[(Value.pointer (some ⟨g1, 0, none⟩)), (Value.pointer (some ⟨g2, 0, none⟩))])]) (r := (Value.bool (x1))) rfl ca50 rfl (args2 rfl rfl) I6 (fun Fr_ hF_ => F50_ok hF_ hu1 ⟨76, [(Value.pointer (some ⟨g1, 0, none⟩)), (Value.pointer (some ⟨g2, 0, none⟩))], rfl, ca76, fun T_ w_ Fr_ u_ x_ r_ hle_ hI_ hu_ hr_ => F76_ok hI_ hu_ ((p1.mono (le2.trans le3)).mono hle_) ((p2.mono le3).mono hle_) hr_⟩ hx1) (fun w4 I7 => ?_))
  refine wl_op rfl (op_pick_f (c := decide (a1.Limit ≤ a2)) (b := (Value.bool (x1))) rfl rfl hc1 rfl ?_)
  refine wl_op rfl (op_move (v := (Value.bool (x1))) rfl rfl ?_)
  rcases ifs h with ⟨hc2, h⟩ | ⟨hc2, h⟩
  ·
   refine wl_skip (c := x1) rfl rfl rfl rfl hc2 rfl ?_
   refine wl_skip (c := x1) rfl rfl rfl rfl hc2 rfl ?_
   refine wl_skip (c := x1) rfl rfl rfl rfl hc2 rfl ?_
   refine wl_skip (c := x1) rfl rfl rfl rfl hc2 rfl ?_
   refine wl_skip (c := x1) rfl rfl rfl rfl hc2 rfl ?_
   refine wl_op rfl (op_pick_t (c := x1) (a := (Value.bool (true))) rfl rfl hc2 rfl ?_)
   refine wl_nil ?_
   refine wp_cond_t (b := true) rfl rfl ?_
   refine wp_seq' ?_
   refine wp_region' ?_
   refine wl_op rfl (op_assign (v := (Value.int .i64 (2))) rfl rfl ?_)
   refine wl_nil ?_
   refine wp_ret' ?_
   obtain rfl := Option.some.inj h
   exact ⟨(Value.int .i64 (2)), (res1 rfl rfl), _, [], ((le1.trans le2).trans le3), I7, rfl, rfl⟩
  ·
   refine wl_taken (c := x1) rfl rfl rfl rfl hc2 (op_fieldAddr_t (v := (Value.pointer (some ⟨g3, 0, none⟩))) rfl fa33_1 rfl (p3.at_ I7) ?_)
   refine wl_taken (c := x1) rfl rfl rfl rfl hc2 (op_load (v := (fieldPtr (Value.pointer (some ⟨g3, 0, none⟩)) 1)) (e := a3.When) rfl sh31 rfl ((p3.at_ I7).fld Gate.fld1) (fun u2 hu2 => ?_))
   obtain ⟨z9, m9, k9, e12⟩ := rv_form hu2
   subst e12
   refine wl_taken (c := x1) rfl rfl rfl rfl hc2 (op_move (v := (Value.func (.func 77) #[] #[(Value.pointer (some ⟨g1, 0, none⟩))])) rfl rfl ?_)
   obtain ⟨x2, hx2, h⟩ := bnd h
   refine wl_taken (c := x1) rfl rfl rfl rfl hc2 (op_call_v (vs := [(Value.slice z9 m9 k9), (Value.func (.func 77) #[] #[(Value.pointer (some ⟨g1, 0, none⟩))])]) (r := (Value.bool (x2))) rfl ca50 rfl (args2 rfl rfl) I7 (fun Fr_ hF_ => F50_ok hF_ hu2 ⟨77, [(Value.pointer (some ⟨g1, 0, none⟩))], rfl, ca77, fun T_ w_ Fr_ u_ x_ r_ hle_ hI_ hu_ hr_ => F77_ok hI_ hu_ ((p1.mono (le2.trans le3)).mono hle_) hr_⟩ hx2) (fun w5 I8 => ?_))
   refine wl_taken (c := x1) rfl rfl rfl rfl hc2 (op_not (b := x2) rfl rfl ?_)
   refine wl_op rfl (op_pick_f (c := x1) (b := (Value.bool (!x2))) rfl rfl hc2 rfl ?_)
   refine wl_nil ?_
   rcases ifs h with ⟨hc3, h⟩ | ⟨hc3, h⟩
   ·
    refine wp_cond_t (b := !x2) rfl hc3 ?_
    refine wp_seq' ?_
    refine wp_region' ?_
    refine wl_op rfl (op_assign (v := (Value.int .i64 (2))) rfl rfl ?_)
    refine wl_nil ?_
    refine wp_ret' ?_
    obtain rfl := Option.some.inj h
    exact ⟨(Value.int .i64 (2)), (res1 rfl rfl), _, [], ((le1.trans le2).trans le3), I8, rfl, rfl⟩
   ·
    refine wp_cond_f (b := !x2) rfl hc3 ?_
    refine wp_skip' ?_
    refine wp_seq' ?_
    refine wp_region' ?_
    refine wl_op rfl (op_assign (v := (Value.int .i64 (1))) rfl rfl ?_)
    refine wl_nil ?_
    refine wp_ret' ?_
    obtain rfl := Option.some.inj h
    exact ⟨(Value.int .i64 (1)), (res1 rfl rfl), _, [], ((le1.trans le2).trans le3), I8, rfl, rfl⟩

set_option maxHeartbeats 4000000 in
set_option maxRecDepth 100000 in
theorem F67_ok {w : World} {S : PH} {Fr : List HP} {a0 : Control_door} {v0 : Value} {a1 : Int} {a2 : Bool} {a3 : Bool} {a4 : Int} {r : Control_door} (hI : Inv w S (Fr)) (h0_ : RV S v0 a0) (h : F67 a0 a1 a2 a3 a4 = some r) :
    Calls Try.prog 67 [v0, (Value.int .i64 (a1)), (Value.bool (a2)), (Value.bool (a3)), (Value.int .i64 (a4))].toArray w (DoneV S Fr (Value.agg #[(Value.int .i64 (r.left)), (Value.bool (r.shut))])) := by
 unfold F67 at h
 have e1 := Control_door.inv h0_
 subst e1
 refine calls_enter (n := 43) (vs := [(Value.agg #[(Value.int .i64 (a0.left)), (Value.bool (a0.shut))]), (Value.int .i64 (a1)), (Value.bool (a2)), (Value.bool (a3)), (Value.int .i64 (a4))]) Try.func67 rfl rfl rfl ?_
 refine wp_seq' ?_
 refine wp_region' ?_
 refine wl_op rfl (op_box (v := (Value.agg #[(Value.int .i64 (a0.left)), (Value.bool (a0.shut))])) rfl hI rfl (fun g1 w1 I1 => ?_))
 refine wl_op rfl (op_alloc (z := (Value.agg #[(Value.int .i64 (0)), (Value.bool (false))])) rfl I1 zo97 (fun g2 w2 (I2 : Inv w2 S (Cells g2 97 #[(Value.int .i64 (0)), (Value.bool (false))] :: Cells g1 97 #[(Value.int .i64 (a0.left)), (Value.bool (a0.shut))] :: Fr)) => ?_))
 refine wl_nil ?_
 refine wp_seq' ?_
 refine wp_region' ?_
 refine wl_op rfl (op_fieldAddr (v := (Value.pointer (some ⟨g1, 0, none⟩))) rfl fa97_0 rfl rfl ?_)
 refine wl_op rfl (op_load1 (c := (Value.int .i64 (a0.left))) rfl sh3 (I2.nth 1 rfl) rfl rfl ?_)
 refine wl_op rfl (op_sub (a := a0.left) (b := 1) rfl rfl rfl ?_)
 refine wl_op rfl (op_max (a := 0) (b := w64 (a0.left - 1)) rfl rfl rfl ?_)
 refine wl_op rfl (op_fieldAddr (v := (Value.pointer (some ⟨g1, 0, none⟩))) rfl fa97_0 rfl rfl ?_)
 refine wl_op rfl (op_store (v := (Value.int .i64 (maxI 0 (w64 (a0.left - 1))))) (cs := #[(Value.int .i64 (a0.left)), (Value.bool (a0.shut))]) sh3 (I2.pull 1) rfl rfl rfl (Nat.le_of_ble_eq_true rfl) rfl (fun w3 (I3 : Inv w3 S (Cells g1 97 #[(Value.int .i64 (maxI 0 (w64 (a0.left - 1)))), (Value.bool (a0.shut))] :: Cells g2 97 #[(Value.int .i64 (0)), (Value.bool (false))] :: Fr)) => ?_))
 refine wl_nil ?_
 obtain ⟨v2, h5, h⟩ := bnd h
 refine wp_cut (fun f w => Inv w S (Cells g1 97 #[(Value.int .i64 (v2)), (Value.bool (a0.shut))] :: Cells g2 97 #[(Value.int .i64 (0)), (Value.bool (false))] :: Fr) ∧ f 2 = (Value.bool (a2)) ∧ f 3 = (Value.bool (a3)) ∧ f 5 = (Value.pointer (some ⟨g1, 0, none⟩)) ∧ f 10 = (Value.pointer (some ⟨g2, 0, none⟩))) ?_ ?_
 ·
  refine wp_block' ?_
  obtain ⟨v3, h8, h5⟩ := bnd h5
  refine wp_cut (fun f w => Inv w S (Cells g1 97 #[(Value.int .i64 (maxI 0 (w64 (a0.left - 1)))), (Value.bool (a0.shut))] :: Cells g2 97 #[(Value.int .i64 (0)), (Value.bool (false))] :: Fr) ∧ f 1 = (Value.int .i64 (a1)) ∧ f 2 = (Value.bool (a2)) ∧ f 3 = (Value.bool (a3)) ∧ f 4 = (Value.int .i64 (a4)) ∧ f 5 = (Value.pointer (some ⟨g1, 0, none⟩)) ∧ f 10 = (Value.pointer (some ⟨g2, 0, none⟩)) ∧ f 16 = (Value.bool (v3))) ?_ ?_
  ·
   refine wp_seq' ?_
   refine wp_region' ?_
   refine wl_op rfl (op_move (v := (Value.bool (a2))) rfl rfl ?_)
   refine wl_op rfl (op_not (b := a2) rfl rfl ?_)
   refine wl_op rfl (op_assign (v := (Value.bool (!a2))) rfl rfl ?_)
   refine wl_nil ?_
   rcases ifs h8 with ⟨hc6, h8⟩ | ⟨hc6, h8⟩
   ·
    refine wp_cond_t (b := !a2) rfl hc6 ?_
    refine wp_skip' ?_
    obtain rfl := Option.some.inj h8
    exact ⟨((I3.pull 1).pull 1), rfl, rfl, rfl, rfl, rfl, rfl, rfl⟩
   ·
    refine wp_cond_f (b := !a2) rfl hc6 ?_
    refine wp_region' ?_
    refine wl_op rfl (op_move (v := (Value.int .i64 (a4))) rfl rfl ?_)
    refine wl_op rfl (op_eql (a := a4) (b := 2) rfl rfl rfl ?_)
    refine wl_op rfl (op_assign (v := (Value.bool (a4 == 2))) rfl rfl ?_)
    refine wl_nil ?_
    obtain rfl := Option.some.inj h8
    exact ⟨((I3.pull 1).pull 1), rfl, rfl, rfl, rfl, rfl, rfl, rfl⟩
  ·
   rintro f w ⟨I7, e9, e10, e11, e12, e13, e14, e15⟩
   rcases ifs h5 with ⟨hc7, h5⟩ | ⟨hc7, h5⟩
   ·
    refine wp_cond_t (b := v3) e15 hc7 ?_
    refine wp_region' ?_
    refine wl_op rfl (op_fieldAddr (v := (Value.pointer (some ⟨g1, 0, none⟩))) rfl fa97_0 e13 rfl ?_)
    refine wl_op rfl (op_store (v := (Value.int .i64 (0))) (cs := #[(Value.int .i64 (maxI 0 (w64 (a0.left - 1)))), (Value.bool (a0.shut))]) sh3 I7 rfl rfl rfl (Nat.le_of_ble_eq_true rfl) rfl (fun w6 (I8 : Inv w6 S (Cells g1 97 #[(Value.int .i64 (0)), (Value.bool (a0.shut))] :: Cells g2 97 #[(Value.int .i64 (0)), (Value.bool (false))] :: Fr)) => ?_))
    refine wl_nil ?_
    obtain rfl := Option.some.inj h5
    exact ⟨((I8.pull 1).pull 1), e10, e11, e13, e14⟩
   ·
    refine wp_cond_f (b := v3) e15 hc7 ?_
    refine wp_seq' ?_
    refine wp_region' ?_
    refine wl_op rfl (op_move (v := (Value.int .i64 (a4))) rfl e12 ?_)
    refine wl_op rfl (op_eql (a := a4) (b := 1) rfl rfl rfl ?_)
    refine wl_op rfl (op_assign (v := (Value.bool (a4 == 1))) rfl rfl ?_)
    refine wl_nil ?_
    rcases ifs h5 with ⟨hc8, h5⟩ | ⟨hc8, h5⟩
    ·
     refine wp_cond_t (b := a4 == 1) rfl hc8 ?_
     refine wp_region' ?_
     refine wl_op rfl (op_move (v := (Value.int .i64 (a1))) rfl e9 ?_)
     refine wl_op rfl (op_fieldAddr (v := (Value.pointer (some ⟨g1, 0, none⟩))) rfl fa97_0 e13 rfl ?_)
     refine wl_op rfl (op_store (v := (Value.int .i64 (a1))) (cs := #[(Value.int .i64 (maxI 0 (w64 (a0.left - 1)))), (Value.bool (a0.shut))]) sh3 I7 rfl rfl rfl (Nat.le_of_ble_eq_true rfl) rfl (fun w7 (I9 : Inv w7 S (Cells g1 97 #[(Value.int .i64 (a1)), (Value.bool (a0.shut))] :: Cells g2 97 #[(Value.int .i64 (0)), (Value.bool (false))] :: Fr)) => ?_))
     refine wl_nil ?_
     obtain rfl := Option.some.inj h5
     exact ⟨((I9.pull 1).pull 1), e10, e11, e13, e14⟩
    ·
     refine wp_cond_f (b := a4 == 1) rfl hc8 ?_
     refine wp_skip' ?_
     obtain rfl := Option.some.inj h5
     exact ⟨((I7.pull 1).pull 1), e10, e11, e13, e14⟩
 ·
  rintro f w ⟨I10, e16, e17, e18, e19⟩
  refine wp_seq' ?_
  refine wp_region' ?_
  refine wl_op rfl (op_move (v := (Value.bool (a2))) rfl e16 ?_)
  refine wl_op rfl (op_move (v := (Value.bool (a2))) rfl rfl ?_)
  rcases ifs h with ⟨hc9, h⟩ | ⟨hc9, h⟩
  ·
   refine wl_taken (c := a2) rfl rfl rfl rfl hc9 (op_fieldAddr (v := (Value.pointer (some ⟨g1, 0, none⟩))) rfl fa97_0 e18 rfl ?_)
   refine wl_taken (c := a2) rfl rfl rfl rfl hc9 (op_load1 (c := (Value.int .i64 (v2))) rfl sh3 (I10.nth 0 rfl) rfl rfl ?_)
   refine wl_taken (c := a2) rfl rfl rfl rfl hc9 (op_gtr (a := v2) (b := 0) rfl rfl rfl ?_)
   refine wl_op rfl (op_pick_t (c := a2) (a := (Value.bool (decide (0 < v2)))) rfl rfl hc9 rfl ?_)
   refine wl_op rfl (op_move (v := (Value.bool (decide (0 < v2)))) rfl rfl ?_)
   rcases ifs h with ⟨hc10, h⟩ | ⟨hc10, h⟩
   ·
    refine wl_taken (c := decide (0 < v2)) rfl rfl rfl rfl hc10 (op_move (v := (Value.bool (a3))) rfl e17 ?_)
    refine wl_taken (c := decide (0 < v2)) rfl rfl rfl rfl hc10 (op_not (b := a3) rfl rfl ?_)
    refine wl_taken (c := decide (0 < v2)) rfl rfl rfl rfl hc10 (op_move (v := (Value.bool (!a3))) rfl rfl ?_)
    rcases ifs h with ⟨hc11, h⟩ | ⟨hc11, h⟩
    ·
     refine wl_skip (c := !a3) rfl rfl rfl rfl hc11 rfl ?_
     refine wl_skip (c := !a3) rfl rfl rfl rfl hc11 rfl ?_
     refine wl_taken (c := decide (0 < v2)) rfl rfl rfl rfl hc10 (op_pick_t (c := !a3) (a := (Value.bool (true))) rfl rfl hc11 rfl ?_)
     refine wl_op rfl (op_pick_t (c := decide (0 < v2)) (a := (Value.bool (true))) rfl rfl hc10 rfl ?_)
     refine wl_op rfl (op_fieldAddr (v := (Value.pointer (some ⟨g1, 0, none⟩))) rfl fa97_1 e18 rfl ?_)
     refine wl_op rfl (op_store (v := (Value.bool (true))) (cs := #[(Value.int .i64 (v2)), (Value.bool (a0.shut))]) sh4 I10 rfl rfl rfl (Nat.le_of_ble_eq_true rfl) rfl (fun w8 (I11 : Inv w8 S (Cells g1 97 #[(Value.int .i64 (v2)), (Value.bool (true))] :: Cells g2 97 #[(Value.int .i64 (0)), (Value.bool (false))] :: Fr)) => ?_))
     refine wl_nil ?_
     refine wp_seq' ?_
     refine wp_region' ?_
     refine wl_op rfl (op_loadN (l := [(Value.int .i64 (v2)), (Value.bool (true))]) rfl sh97 (I11.nth 0 rfl) e18 rfl rfl ?_)
     refine wl_op rfl (op_store (v := (Value.agg #[(Value.int .i64 (v2)), (Value.bool (true))])) (cs := #[(Value.int .i64 (0)), (Value.bool (false))]) sh97 (I11.pull 1) e19 rfl rfl (Nat.le_of_ble_eq_true rfl) rfl (fun w9 (I12 : Inv w9 S (Cells g2 97 #[(Value.int .i64 (v2)), (Value.bool (true))] :: Cells g1 97 #[(Value.int .i64 (v2)), (Value.bool (true))] :: Fr)) => ?_))
     refine wl_nil ?_
     refine wp_ret' ?_
     obtain rfl := Option.some.inj h
     exact ⟨(Value.agg #[(Value.int .i64 (v2)), (Value.bool (true))]), (resC (cs := #[(Value.int .i64 (v2)), (Value.bool (true))]) rfl e19 sh97 I12), _, [], (PH.Le.refl _), ((I12).drop).drop, rfl, rfl⟩
    ·
     refine wl_taken (c := !a3) rfl rfl rfl rfl hc11 (op_fieldAddr (v := (Value.pointer (some ⟨g1, 0, none⟩))) rfl fa97_1 e18 rfl ?_)
     refine wl_taken (c := !a3) rfl rfl rfl rfl hc11 (op_load1 (c := (Value.bool (a0.shut))) rfl sh4 (I10.nth 0 rfl) rfl rfl ?_)
     refine wl_taken (c := decide (0 < v2)) rfl rfl rfl rfl hc10 (op_pick_f (c := !a3) (b := (Value.bool (a0.shut))) rfl rfl hc11 rfl ?_)
     refine wl_op rfl (op_pick_t (c := decide (0 < v2)) (a := (Value.bool (a0.shut))) rfl rfl hc10 rfl ?_)
     refine wl_op rfl (op_fieldAddr (v := (Value.pointer (some ⟨g1, 0, none⟩))) rfl fa97_1 e18 rfl ?_)
     refine wl_op rfl (op_store (v := (Value.bool (a0.shut))) (cs := #[(Value.int .i64 (v2)), (Value.bool (a0.shut))]) sh4 I10 rfl rfl rfl (Nat.le_of_ble_eq_true rfl) rfl (fun w10 (I13 : Inv w10 S (Cells g1 97 #[(Value.int .i64 (v2)), (Value.bool (a0.shut))] :: Cells g2 97 #[(Value.int .i64 (0)), (Value.bool (false))] :: Fr)) => ?_))
     refine wl_nil ?_
     refine wp_seq' ?_
     refine wp_region' ?_
     refine wl_op rfl (op_loadN (l := [(Value.int .i64 (v2)), (Value.bool (a0.shut))]) rfl sh97 (I13.nth 0 rfl) e18 rfl rfl ?_)
     refine wl_op rfl (op_store (v := (Value.agg #[(Value.int .i64 (v2)), (Value.bool (a0.shut))])) (cs := #[(Value.int .i64 (0)), (Value.bool (false))]) sh97 (I13.pull 1) e19 rfl rfl (Nat.le_of_ble_eq_true rfl) rfl (fun w11 (I14 : Inv w11 S (Cells g2 97 #[(Value.int .i64 (v2)), (Value.bool (a0.shut))] :: Cells g1 97 #[(Value.int .i64 (v2)), (Value.bool (a0.shut))] :: Fr)) => ?_))
     refine wl_nil ?_
     refine wp_ret' ?_
     obtain rfl := Option.some.inj h
     exact ⟨(Value.agg #[(Value.int .i64 (v2)), (Value.bool (a0.shut))]), (resC (cs := #[(Value.int .i64 (v2)), (Value.bool (a0.shut))]) rfl e19 sh97 I14), _, [], (PH.Le.refl _), ((I14).drop).drop, rfl, rfl⟩
   ·
    refine wl_skip (c := decide (0 < v2)) rfl rfl rfl rfl hc10 rfl ?_
    refine wl_skip (c := decide (0 < v2)) rfl rfl rfl rfl hc10 rfl ?_
    refine wl_skip (c := decide (0 < v2)) rfl rfl rfl rfl hc10 rfl ?_
    refine wl_skip_u rfl rfl rfl rfl rfl ?_
    refine wl_skip_u rfl rfl rfl rfl rfl ?_
    refine wl_skip (c := decide (0 < v2)) rfl rfl rfl rfl hc10 rfl ?_
    refine wl_op rfl (op_pick_f (c := decide (0 < v2)) (b := (Value.bool (false))) rfl rfl hc10 rfl ?_)
    refine wl_op rfl (op_fieldAddr (v := (Value.pointer (some ⟨g1, 0, none⟩))) rfl fa97_1 e18 rfl ?_)
    refine wl_op rfl (op_store (v := (Value.bool (false))) (cs := #[(Value.int .i64 (v2)), (Value.bool (a0.shut))]) sh4 I10 rfl rfl rfl (Nat.le_of_ble_eq_true rfl) rfl (fun w12 (I15 : Inv w12 S (Cells g1 97 #[(Value.int .i64 (v2)), (Value.bool (false))] :: Cells g2 97 #[(Value.int .i64 (0)), (Value.bool (false))] :: Fr)) => ?_))
    refine wl_nil ?_
    refine wp_seq' ?_
    refine wp_region' ?_
    refine wl_op rfl (op_loadN (l := [(Value.int .i64 (v2)), (Value.bool (false))]) rfl sh97 (I15.nth 0 rfl) e18 rfl rfl ?_)
    refine wl_op rfl (op_store (v := (Value.agg #[(Value.int .i64 (v2)), (Value.bool (false))])) (cs := #[(Value.int .i64 (0)), (Value.bool (false))]) sh97 (I15.pull 1) e19 rfl rfl (Nat.le_of_ble_eq_true rfl) rfl (fun w13 (I16 : Inv w13 S (Cells g2 97 #[(Value.int .i64 (v2)), (Value.bool (false))] :: Cells g1 97 #[(Value.int .i64 (v2)), (Value.bool (false))] :: Fr)) => ?_))
    refine wl_nil ?_
    refine wp_ret' ?_
    obtain rfl := Option.some.inj h
    exact ⟨(Value.agg #[(Value.int .i64 (v2)), (Value.bool (false))]), (resC (cs := #[(Value.int .i64 (v2)), (Value.bool (false))]) rfl e19 sh97 I16), _, [], (PH.Le.refl _), ((I16).drop).drop, rfl, rfl⟩
  ·
   refine wl_skip (c := a2) rfl rfl rfl rfl hc9 rfl ?_
   refine wl_skip (c := a2) rfl rfl rfl rfl hc9 rfl ?_
   refine wl_skip (c := a2) rfl rfl rfl rfl hc9 rfl ?_
   refine wl_op rfl (op_pick_f (c := a2) (b := (Value.bool (false))) rfl rfl hc9 rfl ?_)
   refine wl_op rfl (op_move (v := (Value.bool (false))) rfl rfl ?_)
   refine wl_skip (c := false) rfl rfl rfl rfl rfl rfl ?_
   refine wl_skip (c := false) rfl rfl rfl rfl rfl rfl ?_
   refine wl_skip (c := false) rfl rfl rfl rfl rfl rfl ?_
   refine wl_skip_u rfl rfl rfl rfl rfl ?_
   refine wl_skip_u rfl rfl rfl rfl rfl ?_
   refine wl_skip (c := false) rfl rfl rfl rfl rfl rfl ?_
   refine wl_op rfl (op_pick_f (c := false) (b := (Value.bool (false))) rfl rfl rfl rfl ?_)
   refine wl_op rfl (op_fieldAddr (v := (Value.pointer (some ⟨g1, 0, none⟩))) rfl fa97_1 e18 rfl ?_)
   refine wl_op rfl (op_store (v := (Value.bool (false))) (cs := #[(Value.int .i64 (v2)), (Value.bool (a0.shut))]) sh4 I10 rfl rfl rfl (Nat.le_of_ble_eq_true rfl) rfl (fun w14 (I17 : Inv w14 S (Cells g1 97 #[(Value.int .i64 (v2)), (Value.bool (false))] :: Cells g2 97 #[(Value.int .i64 (0)), (Value.bool (false))] :: Fr)) => ?_))
   refine wl_nil ?_
   refine wp_seq' ?_
   refine wp_region' ?_
   refine wl_op rfl (op_loadN (l := [(Value.int .i64 (v2)), (Value.bool (false))]) rfl sh97 (I17.nth 0 rfl) e18 rfl rfl ?_)
   refine wl_op rfl (op_store (v := (Value.agg #[(Value.int .i64 (v2)), (Value.bool (false))])) (cs := #[(Value.int .i64 (0)), (Value.bool (false))]) sh97 (I17.pull 1) e19 rfl rfl (Nat.le_of_ble_eq_true rfl) rfl (fun w15 (I18 : Inv w15 S (Cells g2 97 #[(Value.int .i64 (v2)), (Value.bool (false))] :: Cells g1 97 #[(Value.int .i64 (v2)), (Value.bool (false))] :: Fr)) => ?_))
   refine wl_nil ?_
   refine wp_ret' ?_
   obtain rfl := Option.some.inj h
   exact ⟨(Value.agg #[(Value.int .i64 (v2)), (Value.bool (false))]), (resC (cs := #[(Value.int .i64 (v2)), (Value.bool (false))]) rfl e19 sh97 I18), _, [], (PH.Le.refl _), ((I18).drop).drop, rfl, rfl⟩

set_option maxHeartbeats 4000000 in
set_option maxRecDepth 100000 in
theorem F47_ok {w : World} {S : PH} {Fr : List HP} {a0 : Panel} {v0 : Value} {r : Int} (hI : Inv w S (Fr)) (h0_ : RV S v0 a0) (h : F47 a0 = some r) :
    Calls Try.prog 47 [v0].toArray w (DoneV S Fr (Value.int .i64 (r))) := by
 unfold F47 at h
 obtain ⟨c1, e1, r1⟩ := Panel.inv h0_
 subst e1
 obtain ⟨z1, m1, k1, e2⟩ := rv_form r1
 subst e2
 refine calls_enter (n := 29) (vs := [(Value.agg #[(Value.int .i64 (a0.Sensors)), (Value.slice z1 m1 k1), (Value.int .i64 (a0.Stale)), (Value.int .i64 (a0.Limit))])]) Try.func47 rfl rfl rfl ?_
 refine wp_seq' ?_
 refine wp_region' ?_
 refine wl_op rfl (op_box (v := (Value.agg #[(Value.int .i64 (a0.Sensors)), (Value.slice z1 m1 k1), (Value.int .i64 (a0.Stale)), (Value.int .i64 (a0.Limit))])) rfl hI rfl (fun g1 w1 I1 => ?_))
 obtain ⟨S1, le1, I2, p1⟩ := Inv.boxFreeze (x := a0) I1 (Panel.rv (s := a0) r1)
 refine wl_op rfl (op_assign (v := (Value.int .i64 (0))) rfl rfl ?_)
 refine wl_nil ?_
 refine wp_seq' ?_
 refine wp_region' ?_
 refine wl_op rfl (op_assign (v := (Value.int .i64 (0))) rfl rfl ?_)
 refine wl_nil ?_
 refine wp_seq' ?_
 refine wp_seq' ?_
 refine wp_region' ?_
 refine wl_op rfl (op_fieldAddr_t (v := (Value.pointer (some ⟨g1, 0, none⟩))) rfl fa24_1 rfl (p1.at_ I2) ?_)
 refine wl_op rfl (op_load (v := (fieldPtr (Value.pointer (some ⟨g1, 0, none⟩)) 1)) (e := a0.Doors) rfl sh22 rfl ((p1.at_ I2).fld Panel.fld1) (fun u1 hu1 => ?_))
 obtain ⟨z2, m2, k2, e3⟩ := rv_form hu1
 subst e3
 refine wl_op rfl (op_len_rv rfl Try.underlying22 rfl hu1 ?_)
 refine wl_op rfl (op_move (v := (Value.int .i64 (0))) rfl rfl ?_)
 refine wl_nil ?_
 have hk1 : a0.Doors.length ≤ 9223372036854775807 := (rv_len r1)
 obtain ⟨out1, hrun1, h⟩ := bnd h
 refine wp_cutN (fun f w => Inv w S1 (Fr) ∧ f 1 = (Value.pointer (some ⟨g1, 0, none⟩)) ∧ f 3 = (Value.int .i64 (out1)) ∧ f 7 = (Value.slice z2 m2 k2) ∧ f 8 = (Value.int .i64 ((a0.Doors.length : Int)))) ?_ ?_
 ·
  refine wp_block' ?_
  refine wp_forS (I := fun (i1 : Nat) (s1 : (Int)) (f : Frm) (w : World) => Inv w S1 (Fr) ∧ f 1 = (Value.pointer (some ⟨g1, 0, none⟩)) ∧ f 3 = (Value.int .i64 (s1)) ∧ f 7 = (Value.slice z2 m2 k2) ∧ f 8 = (Value.int .i64 ((a0.Doors.length : Int))) ∧ f 9 = (Value.int .i64 (i1 : Int))) hrun1 ⟨I2, rfl, rfl, rfl, rfl, rfl⟩ ?_ ?_
  ·
   rintro i1 s1 f w o1 hlt1 hI1 h1
   obtain ⟨I12, e25, e26, e27, e28, e29⟩ := hI1
   refine wp_seq' ?_
   refine wp_region' ?_
   refine wl_op rfl (op_lss (a := (i1 : Int)) (b := (a0.Doors.length : Int)) rfl e29 e28 ?_)
   refine wl_nil ?_
   refine wp_seq' ?_
   refine wp_cond_t (b := decide ((i1 : Int) < (a0.Doors.length : Int))) rfl (len_t hlt1) ?_
   refine wp_skip' ?_
   refine wp_seq' ?_
   refine wp_block' ?_
   refine wp_seq' ?_
   refine wp_region' ?_
   obtain ⟨x4, hx4, h1⟩ := bnd h1
   refine wl_op rfl (op_indexAddr_rv (v := (Value.slice z2 m2 k2)) (i := (i1 : Int)) (e := x4) rfl Try.underlying22 sh33 e27 hu1 e29 hx4 ?_)
   refine wl_op rfl (op_load (v := (elemPtr (Value.slice z2 m2 k2) ((i1 : Int)) (Enc.sz Gate))) (e := x4) rfl sh33 rfl (hu1.elem I12.in_ hx4) (fun u5 hu5 => ?_))
   obtain ⟨c5, e30, r5⟩ := Gate.inv hu5
   subst e30
   obtain ⟨z6, m6, k6, e31⟩ := rv_form r5
   subst e31
   refine wl_op rfl (op_alloc (z := (Value.agg #[(Value.int .i64 (0)), (Value.slice none 0 0)])) rfl I12 zo33 (fun g5 w8 (I13 : Inv w8 S1 (Cells g5 33 #[(Value.int .i64 (0)), (Value.slice none 0 0)] :: Fr)) => ?_))
   refine wl_op rfl (op_store (v := (Value.agg #[(Value.int .i64 (x4.Wait)), (Value.slice z6 m6 k6)])) (cs := #[(Value.int .i64 (0)), (Value.slice none 0 0)]) sh33 I13 rfl rfl rfl (Nat.le_of_ble_eq_true rfl) rfl (fun w9 (I14 : Inv w9 S1 (Cells g5 33 #[(Value.int .i64 (x4.Wait)), (Value.slice z6 m6 k6)] :: Fr)) => ?_))
   refine wl_nil ?_
   refine wp_seq' ?_
   refine wp_region' ?_
   refine wl_op rfl (op_fieldAddr (v := (Value.pointer (some ⟨g5, 0, none⟩))) rfl fa33_1 rfl rfl ?_)
   refine wl_op rfl (op_load1 (c := (Value.slice z6 m6 k6)) rfl sh31 (I14.nth 0 rfl) rfl rfl ?_)
   refine wl_op rfl (op_len_rv rfl Try.underlying31 rfl r5 ?_)
   refine wl_op rfl (op_gtr (a := (x4.When.length : Int)) (b := 0) rfl rfl rfl ?_)
   refine wl_nil ?_
   rcases ifs h1 with ⟨hc4, h1⟩ | ⟨hc4, h1⟩
   ·
    refine wp_cond_t (b := decide (0 < (x4.When.length : Int))) rfl hc4 ?_
    refine wp_region' ?_
    refine wl_op rfl (op_move (v := (Value.int .i64 (s1))) rfl e26 ?_)
    refine wl_op rfl (op_fieldAddr (v := (Value.pointer (some ⟨g5, 0, none⟩))) rfl fa33_0 rfl rfl ?_)
    refine wl_op rfl (op_load1 (c := (Value.int .i64 (x4.Wait))) rfl sh3 (I14.nth 0 rfl) rfl rfl ?_)
    refine wl_op rfl (op_max (a := s1) (b := x4.Wait) rfl rfl rfl ?_)
    refine wl_op rfl (op_assign (v := (Value.int .i64 (maxI s1 x4.Wait))) rfl rfl ?_)
    refine wl_nil ?_
    refine wp_region' ?_
    refine wl_op rfl (op_add (a := (i1 : Int)) (b := 1) rfl e29 rfl ?_)
    refine wl_op rfl (op_move (v := (Value.int .i64 (w64 ((i1 : Int) + 1)))) rfl rfl ?_)
    refine wl_nil ?_
    obtain rfl := Option.some.inj h1
    exact ⟨(I14).drop, e25, rfl, e27, e28, (idx_next hlt1 hk1)⟩
   ·
    refine wp_cond_f (b := decide (0 < (x4.When.length : Int))) rfl hc4 ?_
    refine wp_skip' ?_
    refine wp_region' ?_
    refine wl_op rfl (op_add (a := (i1 : Int)) (b := 1) rfl e29 rfl ?_)
    refine wl_op rfl (op_move (v := (Value.int .i64 (w64 ((i1 : Int) + 1)))) rfl rfl ?_)
    refine wl_nil ?_
    obtain rfl := Option.some.inj h1
    exact ⟨(I14).drop, e25, e26, e27, e28, (idx_next hlt1 hk1)⟩
  ·
   rintro f w hI2
   obtain ⟨I15, e32, e33, e34, e35, e36⟩ := hI2
   refine wp_seq' ?_
   refine wp_region' ?_
   refine wl_op rfl (op_lss (a := (a0.Doors.length : Int)) (b := (a0.Doors.length : Int)) rfl e36 e35 ?_)
   refine wl_nil ?_
   refine wp_seq' ?_
   refine wp_cond_f (b := decide ((a0.Doors.length : Int) < (a0.Doors.length : Int))) rfl (len_f _) ?_
   refine wp_exit' ?_
   exact ⟨I15, e32, e33, e34, e35⟩
 ·
  rintro f w ⟨I16, e37, e38, e39, e40⟩
  refine wp_seq' ?_
  refine wp_seq' ?_
  refine wp_region' ?_
  refine wl_op rfl (op_move (v := (Value.int .i64 (out1))) rfl e38 ?_)
  refine wl_op rfl (op_eql (a := out1) (b := 0) rfl rfl rfl ?_)
  refine wl_nil ?_
  rcases ifs h with ⟨hc5, h⟩ | ⟨hc5, h⟩
  ·
   refine wp_cond_t (b := out1 == 0) rfl hc5 ?_
   refine wp_seq' ?_
   refine wp_region' ?_
   refine wl_op rfl (op_assign (v := (Value.int .i64 (0))) rfl rfl ?_)
   refine wl_nil ?_
   refine wp_ret' ?_
   obtain rfl := Option.some.inj h
   exact ⟨(Value.int .i64 (0)), (res1 rfl rfl), _, [], le1, I16, rfl, rfl⟩
  ·
   refine wp_cond_f (b := out1 == 0) rfl hc5 ?_
   refine wp_skip' ?_
   refine wp_seq' ?_
   refine wp_region' ?_
   refine wl_op rfl (op_fieldAddr_t (v := (Value.pointer (some ⟨g1, 0, none⟩))) rfl fa24_3 e37 (p1.at_ I16) ?_)
   refine wl_op rfl (op_load_int (v := (fieldPtr (Value.pointer (some ⟨g1, 0, none⟩)) 3)) (e := a0.Limit) rfl sh3 rfl ((p1.at_ I16).fld Panel.fld3) ?_)
   refine wl_op rfl (op_move (v := (Value.int .i64 (out1))) rfl e38 ?_)
   refine wl_op rfl (op_add (a := a0.Limit) (b := out1) rfl rfl rfl ?_)
   refine wl_op rfl (op_sub (a := w64 (a0.Limit + out1)) (b := 1) rfl rfl rfl ?_)
   refine wl_op rfl (op_assign (v := (Value.int .i64 (w64 ((w64 (a0.Limit + out1)) - 1)))) rfl rfl ?_)
   refine wl_nil ?_
   refine wp_ret' ?_
   obtain rfl := Option.some.inj h
   exact ⟨(Value.int .i64 (w64 ((w64 (a0.Limit + out1)) - 1))), (res1 rfl rfl), _, [], le1, I16, rfl, rfl⟩

set_option maxHeartbeats 4000000 in
set_option maxRecDepth 100000 in
theorem F21_ok {w : World} {S : PH} {Fr : List HP} {a0 : Panel} {v0 : Value} {r : Int × Int} (hI : Inv w S (Fr)) (h0_ : RV S v0 a0) (h : F21 a0 = some r) :
    Calls Try.prog 21 [v0].toArray w (DoneV S Fr (Value.tuple #[(Value.int .i64 (r.1)), (Value.int .i64 (r.2))])) := by
 unfold F21 at h
 obtain ⟨c1, e1, r1⟩ := Panel.inv h0_
 subst e1
 obtain ⟨z1, m1, k1, e2⟩ := rv_form r1
 subst e2
 refine calls_enter (n := 12) (vs := [(Value.agg #[(Value.int .i64 (a0.Sensors)), (Value.slice z1 m1 k1), (Value.int .i64 (a0.Stale)), (Value.int .i64 (a0.Limit))])]) Try.func21 rfl rfl rfl ?_
 refine wp_seq' ?_
 refine wp_region' ?_
 refine wl_op rfl (op_box (v := (Value.agg #[(Value.int .i64 (a0.Sensors)), (Value.slice z1 m1 k1), (Value.int .i64 (a0.Stale)), (Value.int .i64 (a0.Limit))])) rfl hI rfl (fun g1 w1 I1 => ?_))
 obtain ⟨S1, le1, I2, p1⟩ := Inv.boxFreeze (x := a0) I1 (Panel.rv (s := a0) r1)
 refine wl_op rfl (op_assign (v := (Value.int .i64 (0))) rfl rfl ?_)
 refine wl_op rfl (op_assign (v := (Value.int .i64 (0))) rfl rfl ?_)
 refine wl_nil ?_
 refine wp_seq' ?_
 refine wp_seq' ?_
 refine wp_region' ?_
 refine wl_op rfl (op_load (v := (Value.pointer (some ⟨g1, 0, none⟩))) (e := a0) rfl sh24 rfl (p1.at_ I2) (fun u1 hu1 => ?_))
 obtain ⟨c2, e3, r2⟩ := Panel.inv hu1
 subst e3
 obtain ⟨z2, m2, k2, e4⟩ := rv_form r2
 subst e4
 obtain ⟨x1, hx1, h⟩ := bnd h
 refine wl_op rfl (op_call_v (vs := [(Value.agg #[(Value.int .i64 (a0.Sensors)), (Value.slice z2 m2 k2), (Value.int .i64 (a0.Stale)), (Value.int .i64 (a0.Limit))])]) (r := (Value.int .i64 (x1))) rfl ca27 rfl (args1 rfl) I2 (fun Fr_ hF_ => F27_ok hF_ (Panel.rv (s := a0) r2) hx1) (fun w2 I3 => ?_))
 refine wl_op rfl (op_assign (v := (Value.int .i64 (x1))) rfl rfl ?_)
 refine wl_nil ?_
 refine wp_seq' ?_
 refine wp_region' ?_
 refine wl_op rfl (op_move (v := (Value.int .i64 (x1))) rfl rfl ?_)
 refine wl_op rfl (op_neq (a := x1) (b := 0) rfl rfl rfl ?_)
 refine wl_nil ?_
 rcases ifs h with ⟨hc1, h⟩ | ⟨hc1, h⟩
 ·
  refine wp_cond_t (b := x1 != 0) rfl hc1 ?_
  refine wp_seq' ?_
  refine wp_region' ?_
  refine wl_op rfl (op_move (v := (Value.int .i64 (x1))) rfl rfl ?_)
  refine wl_op rfl (op_assign (v := (Value.int .i64 (0))) rfl rfl ?_)
  refine wl_op rfl (op_assign (v := (Value.int .i64 (x1))) rfl rfl ?_)
  refine wl_nil ?_
  refine wp_ret' ?_
  obtain rfl := Option.some.inj h
  exact ⟨(Value.tuple #[(Value.int .i64 (0)), (Value.int .i64 (x1))]), (res2 rfl rfl rfl), _, [], le1, I3, rfl, rfl⟩
 ·
  refine wp_cond_f (b := x1 != 0) rfl hc1 ?_
  refine wp_skip' ?_
  refine wp_seq' ?_
  refine wp_region' ?_
  refine wl_op rfl (op_load (v := (Value.pointer (some ⟨g1, 0, none⟩))) (e := a0) rfl sh24 rfl (p1.at_ I3) (fun u2 hu2 => ?_))
  obtain ⟨c3, e5, r3⟩ := Panel.inv hu2
  subst e5
  obtain ⟨z3, m3, k3, e6⟩ := rv_form r3
  subst e6
  obtain ⟨x2, hx2, h⟩ := bnd h
  refine wl_op rfl (op_call_v (vs := [(Value.agg #[(Value.int .i64 (a0.Sensors)), (Value.slice z3 m3 k3), (Value.int .i64 (a0.Stale)), (Value.int .i64 (a0.Limit))])]) (r := (Value.int .i64 (x2))) rfl ca47 rfl (args1 rfl) I3 (fun Fr_ hF_ => F47_ok hF_ (Panel.rv (s := a0) r3) hx2) (fun w3 I4 => ?_))
  refine wl_op rfl (op_assign (v := (Value.int .i64 (x2))) rfl rfl ?_)
  refine wl_op rfl (op_assign (v := (Value.int .i64 (0))) rfl rfl ?_)
  refine wl_nil ?_
  refine wp_ret' ?_
  obtain rfl := Option.some.inj h
  exact ⟨(Value.tuple #[(Value.int .i64 (x2)), (Value.int .i64 (0))]), (res2 rfl rfl rfl), _, [], le1, I4, rfl, rfl⟩

set_option maxHeartbeats 4000000 in
set_option maxRecDepth 100000 in
theorem F43_ok {w : World} {S : PH} {Fr : List HP} {a0 : Int} {a1 : Int} {a2 : Int} {r : Bool} (hI : Inv w S (Fr))  (h : F43 a0 a1 a2 = some r) :
    Calls Try.prog 43 [(Value.int .i64 (a0)), (Value.int .i64 (a1)), (Value.int .i64 (a2))].toArray w (DoneV S Fr (Value.bool (r))) := by
 unfold F43 at h
 refine calls_enter (n := 15) (vs := [(Value.int .i64 (a0)), (Value.int .i64 (a1)), (Value.int .i64 (a2))]) Try.func43 rfl rfl rfl ?_
 refine wp_seq' ?_
 refine wp_region' ?_
 refine wl_op rfl (op_assign (v := (Value.bool (false))) rfl rfl ?_)
 refine wl_nil ?_
 refine wp_seq' ?_
 refine wp_region' ?_
 refine wl_op rfl (op_move (v := (Value.int .i64 (a0))) rfl rfl ?_)
 refine wl_op rfl (op_move (v := (Value.int .i64 (a1))) rfl rfl ?_)
 refine wl_op rfl (op_geq (a := a0) (b := a1) rfl rfl rfl ?_)
 refine wl_op rfl (op_move (v := (Value.bool (decide (a1 ≤ a0)))) rfl rfl ?_)
 rcases ifs h with ⟨hc1, h⟩ | ⟨hc1, h⟩
 ·
  refine wl_taken (c := decide (a1 ≤ a0)) rfl rfl rfl rfl hc1 (op_move (v := (Value.int .i64 (a0))) rfl rfl ?_)
  refine wl_taken (c := decide (a1 ≤ a0)) rfl rfl rfl rfl hc1 (op_move (v := (Value.int .i64 (a2))) rfl rfl ?_)
  refine wl_taken (c := decide (a1 ≤ a0)) rfl rfl rfl rfl hc1 (op_leq (a := a0) (b := a2) rfl rfl rfl ?_)
  refine wl_op rfl (op_pick_t (c := decide (a1 ≤ a0)) (a := (Value.bool (decide (a0 ≤ a2)))) rfl rfl hc1 rfl ?_)
  refine wl_op rfl (op_assign (v := (Value.bool (decide (a0 ≤ a2)))) rfl rfl ?_)
  refine wl_nil ?_
  refine wp_ret' ?_
  obtain rfl := Option.some.inj h
  exact ⟨(Value.bool (decide (a0 ≤ a2))), (res1 rfl rfl), _, [], (PH.Le.refl _), hI, rfl, rfl⟩
 ·
  refine wl_skip (c := decide (a1 ≤ a0)) rfl rfl rfl rfl hc1 rfl ?_
  refine wl_skip (c := decide (a1 ≤ a0)) rfl rfl rfl rfl hc1 rfl ?_
  refine wl_skip (c := decide (a1 ≤ a0)) rfl rfl rfl rfl hc1 rfl ?_
  refine wl_op rfl (op_pick_f (c := decide (a1 ≤ a0)) (b := (Value.bool (false))) rfl rfl hc1 rfl ?_)
  refine wl_op rfl (op_assign (v := (Value.bool (false))) rfl rfl ?_)
  refine wl_nil ?_
  refine wp_ret' ?_
  obtain rfl := Option.some.inj h
  exact ⟨(Value.bool (false)), (res1 rfl rfl), _, [], (PH.Le.refl _), hI, rfl, rfl⟩

set_option maxHeartbeats 4000000 in
set_option maxRecDepth 100000 in
theorem F15_ok {w : World} {S : PH} {Fr : List HP} {a0 : Panel} {v0 : Value} {r : Int} (hI : Inv w S (Fr)) (h0_ : RV S v0 a0) (h : F15 a0 = some r) :
    Calls Try.prog 15 [v0].toArray w (DoneV S Fr (Value.int .i64 (r))) := by
 unfold F15 at h
 obtain ⟨c1, e1, r1⟩ := Panel.inv h0_
 subst e1
 obtain ⟨z1, m1, k1, e2⟩ := rv_form r1
 subst e2
 refine calls_enter (n := 78) (vs := [(Value.agg #[(Value.int .i64 (a0.Sensors)), (Value.slice z1 m1 k1), (Value.int .i64 (a0.Stale)), (Value.int .i64 (a0.Limit))])]) Try.func15 rfl rfl rfl ?_
 refine wp_seq' ?_
 refine wp_region' ?_
 refine wl_op rfl (op_box (v := (Value.agg #[(Value.int .i64 (a0.Sensors)), (Value.slice z1 m1 k1), (Value.int .i64 (a0.Stale)), (Value.int .i64 (a0.Limit))])) rfl hI rfl (fun g1 w1 I1 => ?_))
 obtain ⟨S1, le1, I2, p1⟩ := Inv.boxFreeze (x := a0) I1 (Panel.rv (s := a0) r1)
 refine wl_op rfl (op_assign (v := (Value.int .i64 (0))) rfl rfl ?_)
 refine wl_nil ?_
 obtain ⟨ov1, h2, h⟩ := bnd h
 refine wp_cut (fun f w => ∃ v1, ov1 = Sum.inl v1 ∧ Inv w S1 (Fr) ∧ f 1 = (Value.pointer (some ⟨g1, 0, none⟩))) ?_ ?_
 ·
  refine wp_seq' ?_
  refine wp_region' ?_
  refine wl_op rfl (op_fieldAddr_t (v := (Value.pointer (some ⟨g1, 0, none⟩))) rfl fa24_0 rfl (p1.at_ I2) ?_)
  refine wl_op rfl (op_load_int (v := (fieldPtr (Value.pointer (some ⟨g1, 0, none⟩)) 0)) (e := a0.Sensors) rfl sh3 rfl ((p1.at_ I2).fld Panel.fld0) ?_)
  obtain ⟨x4, hx4, h2⟩ := bnd h2
  refine wl_op rfl (op_call_v (vs := [(Value.int .i64 (a0.Sensors)), (Value.int .i64 (0)), (Value.int .i64 (12))]) (r := (Value.bool (x4))) rfl ca43 rfl (args3 rfl rfl rfl) I2 (fun Fr_ hF_ => F43_ok hF_  hx4) (fun w5 I6 => ?_))
  refine wl_op rfl (op_not (b := x4) rfl rfl ?_)
  refine wl_op rfl (op_move (v := (Value.bool (!x4))) rfl rfl ?_)
  rcases ifs h2 with ⟨hc5, h2⟩ | ⟨hc5, h2⟩
  ·
   refine wl_skip (c := !x4) rfl rfl rfl rfl hc5 rfl ?_
   refine wl_skip (c := !x4) rfl rfl rfl rfl hc5 rfl ?_
   refine wl_skip (c := !x4) rfl rfl rfl rfl hc5 rfl ?_
   refine wl_skip (c := !x4) rfl rfl rfl rfl hc5 rfl ?_
   refine wl_op rfl (op_pick_t (c := !x4) (a := (Value.bool (true))) rfl rfl hc5 rfl ?_)
   refine wl_op rfl (op_move (v := (Value.bool (true))) rfl rfl ?_)
   refine wl_skip (c := true) rfl rfl rfl rfl rfl rfl ?_
   refine wl_skip (c := true) rfl rfl rfl rfl rfl rfl ?_
   refine wl_skip (c := true) rfl rfl rfl rfl rfl rfl ?_
   refine wl_skip (c := true) rfl rfl rfl rfl rfl rfl ?_
   refine wl_op rfl (op_pick_t (c := true) (a := (Value.bool (true))) rfl rfl rfl rfl ?_)
   refine wl_op rfl (op_move (v := (Value.bool (true))) rfl rfl ?_)
   refine wl_skip (c := true) rfl rfl rfl rfl rfl rfl ?_
   refine wl_skip (c := true) rfl rfl rfl rfl rfl rfl ?_
   refine wl_skip (c := true) rfl rfl rfl rfl rfl rfl ?_
   refine wl_skip (c := true) rfl rfl rfl rfl rfl rfl ?_
   refine wl_op rfl (op_pick_t (c := true) (a := (Value.bool (true))) rfl rfl rfl rfl ?_)
   refine wl_nil ?_
   refine wp_cond_t (b := true) rfl rfl ?_
   refine wp_seq' ?_
   refine wp_region' ?_
   refine wl_op rfl (op_assign (v := (Value.int .i64 (80))) rfl rfl ?_)
   refine wl_nil ?_
   refine wp_ret' ?_
   obtain rfl := Option.some.inj h2
   have h3 := h
   obtain rfl := Option.some.inj h3
   exact ⟨(Value.int .i64 (80)), (res1 rfl rfl), _, [], le1, I6, rfl, rfl⟩
  ·
   refine wl_taken (c := !x4) rfl rfl rfl rfl hc5 (op_fieldAddr_t (v := (Value.pointer (some ⟨g1, 0, none⟩))) rfl fa24_1 rfl (p1.at_ I6) ?_)
   refine wl_taken (c := !x4) rfl rfl rfl rfl hc5 (op_load (v := (fieldPtr (Value.pointer (some ⟨g1, 0, none⟩)) 1)) (e := a0.Doors) rfl sh22 rfl ((p1.at_ I6).fld Panel.fld1) (fun u2 hu2 => ?_))
   obtain ⟨z3, m3, k3, e4⟩ := rv_form hu2
   subst e4
   refine wl_taken (c := !x4) rfl rfl rfl rfl hc5 (op_len_rv rfl Try.underlying22 rfl hu2 ?_)
   refine wl_taken (c := !x4) rfl rfl rfl rfl hc5 (op_gtr (a := (a0.Doors.length : Int)) (b := 8) rfl rfl rfl ?_)
   refine wl_op rfl (op_pick_f (c := !x4) (b := (Value.bool (decide (8 < (a0.Doors.length : Int))))) rfl rfl hc5 rfl ?_)
   refine wl_op rfl (op_move (v := (Value.bool (decide (8 < (a0.Doors.length : Int))))) rfl rfl ?_)
   rcases ifs h2 with ⟨hc6, h2⟩ | ⟨hc6, h2⟩
   ·
    refine wl_skip (c := decide (8 < (a0.Doors.length : Int))) rfl rfl rfl rfl hc6 rfl ?_
    refine wl_skip (c := decide (8 < (a0.Doors.length : Int))) rfl rfl rfl rfl hc6 rfl ?_
    refine wl_skip (c := decide (8 < (a0.Doors.length : Int))) rfl rfl rfl rfl hc6 rfl ?_
    refine wl_skip (c := decide (8 < (a0.Doors.length : Int))) rfl rfl rfl rfl hc6 rfl ?_
    refine wl_op rfl (op_pick_t (c := decide (8 < (a0.Doors.length : Int))) (a := (Value.bool (true))) rfl rfl hc6 rfl ?_)
    refine wl_op rfl (op_move (v := (Value.bool (true))) rfl rfl ?_)
    refine wl_skip (c := true) rfl rfl rfl rfl rfl rfl ?_
    refine wl_skip (c := true) rfl rfl rfl rfl rfl rfl ?_
    refine wl_skip (c := true) rfl rfl rfl rfl rfl rfl ?_
    refine wl_skip (c := true) rfl rfl rfl rfl rfl rfl ?_
    refine wl_op rfl (op_pick_t (c := true) (a := (Value.bool (true))) rfl rfl rfl rfl ?_)
    refine wl_nil ?_
    refine wp_cond_t (b := true) rfl rfl ?_
    refine wp_seq' ?_
    refine wp_region' ?_
    refine wl_op rfl (op_assign (v := (Value.int .i64 (80))) rfl rfl ?_)
    refine wl_nil ?_
    refine wp_ret' ?_
    obtain rfl := Option.some.inj h2
    have h3 := h
    obtain rfl := Option.some.inj h3
    exact ⟨(Value.int .i64 (80)), (res1 rfl rfl), _, [], le1, I6, rfl, rfl⟩
   ·
    refine wl_taken (c := decide (8 < (a0.Doors.length : Int))) rfl rfl rfl rfl hc6 (op_fieldAddr_t (v := (Value.pointer (some ⟨g1, 0, none⟩))) rfl fa24_2 rfl (p1.at_ I6) ?_)
    refine wl_taken (c := decide (8 < (a0.Doors.length : Int))) rfl rfl rfl rfl hc6 (op_load_int (v := (fieldPtr (Value.pointer (some ⟨g1, 0, none⟩)) 2)) (e := a0.Stale) rfl sh3 rfl ((p1.at_ I6).fld Panel.fld2) ?_)
    obtain ⟨x5, hx5, h2⟩ := bnd h2
    refine wl_taken (c := decide (8 < (a0.Doors.length : Int))) rfl rfl rfl rfl hc6 (op_call_v (vs := [(Value.int .i64 (a0.Stale)), (Value.int .i64 (1)), (Value.int .i64 (50))]) (r := (Value.bool (x5))) rfl ca43 rfl (args3 rfl rfl rfl) I6 (fun Fr_ hF_ => F43_ok hF_  hx5) (fun w6 I7 => ?_))
    refine wl_taken (c := decide (8 < (a0.Doors.length : Int))) rfl rfl rfl rfl hc6 (op_not (b := x5) rfl rfl ?_)
    refine wl_op rfl (op_pick_f (c := decide (8 < (a0.Doors.length : Int))) (b := (Value.bool (!x5))) rfl rfl hc6 rfl ?_)
    refine wl_op rfl (op_move (v := (Value.bool (!x5))) rfl rfl ?_)
    rcases ifs h2 with ⟨hc7, h2⟩ | ⟨hc7, h2⟩
    ·
     refine wl_skip (c := !x5) rfl rfl rfl rfl hc7 rfl ?_
     refine wl_skip (c := !x5) rfl rfl rfl rfl hc7 rfl ?_
     refine wl_skip (c := !x5) rfl rfl rfl rfl hc7 rfl ?_
     refine wl_skip (c := !x5) rfl rfl rfl rfl hc7 rfl ?_
     refine wl_op rfl (op_pick_t (c := !x5) (a := (Value.bool (true))) rfl rfl hc7 rfl ?_)
     refine wl_nil ?_
     refine wp_cond_t (b := true) rfl rfl ?_
     refine wp_seq' ?_
     refine wp_region' ?_
     refine wl_op rfl (op_assign (v := (Value.int .i64 (80))) rfl rfl ?_)
     refine wl_nil ?_
     refine wp_ret' ?_
     obtain rfl := Option.some.inj h2
     have h3 := h
     obtain rfl := Option.some.inj h3
     exact ⟨(Value.int .i64 (80)), (res1 rfl rfl), _, [], le1, I7, rfl, rfl⟩
    ·
     refine wl_taken (c := !x5) rfl rfl rfl rfl hc7 (op_fieldAddr_t (v := (Value.pointer (some ⟨g1, 0, none⟩))) rfl fa24_3 rfl (p1.at_ I7) ?_)
     refine wl_taken (c := !x5) rfl rfl rfl rfl hc7 (op_load_int (v := (fieldPtr (Value.pointer (some ⟨g1, 0, none⟩)) 3)) (e := a0.Limit) rfl sh3 rfl ((p1.at_ I7).fld Panel.fld3) ?_)
     obtain ⟨x6, hx6, h2⟩ := bnd h2
     refine wl_taken (c := !x5) rfl rfl rfl rfl hc7 (op_call_v (vs := [(Value.int .i64 (a0.Limit)), (Value.int .i64 (1)), (Value.int .i64 (1000))]) (r := (Value.bool (x6))) rfl ca43 rfl (args3 rfl rfl rfl) I7 (fun Fr_ hF_ => F43_ok hF_  hx6) (fun w7 I8 => ?_))
     refine wl_taken (c := !x5) rfl rfl rfl rfl hc7 (op_not (b := x6) rfl rfl ?_)
     refine wl_op rfl (op_pick_f (c := !x5) (b := (Value.bool (!x6))) rfl rfl hc7 rfl ?_)
     refine wl_nil ?_
     rcases ifs h2 with ⟨hc8, h2⟩ | ⟨hc8, h2⟩
     ·
      refine wp_cond_t (b := !x6) rfl hc8 ?_
      refine wp_seq' ?_
      refine wp_region' ?_
      refine wl_op rfl (op_assign (v := (Value.int .i64 (80))) rfl rfl ?_)
      refine wl_nil ?_
      refine wp_ret' ?_
      obtain rfl := Option.some.inj h2
      have h3 := h
      obtain rfl := Option.some.inj h3
      exact ⟨(Value.int .i64 (80)), (res1 rfl rfl), _, [], le1, I8, rfl, rfl⟩
     ·
      refine wp_cond_f (b := !x6) rfl hc8 ?_
      refine wp_skip' ?_
      obtain rfl := Option.some.inj h2
      exact ⟨_, rfl, I8, rfl⟩
 ·
  rintro f w ⟨v1, rfl, I9, e5⟩
  have h := onL_inl h
  refine wp_seq' ?_
  refine wp_seq' ?_
  refine wp_region' ?_
  refine wl_op rfl (op_assign (v := (Value.int .i64 (0))) rfl rfl ?_)
  refine wl_nil ?_
  have hk4 : a0.Doors.length ≤ 9223372036854775807 := (rv_len r1)
  obtain ⟨o8, hrun4, h⟩ := bnd h
  refine wp_cutN (fun f w => ∃ out4, o8 = Sum.inl out4 ∧ ∃ (S_ : PH), S1.Le S_ ∧ Inv w S_ (Fr) ∧ f 1 = (Value.pointer (some ⟨g1, 0, none⟩))) ?_ ?_
  ·
   refine wp_block' ?_
   refine wp_forN (I := fun (i4 : Nat) (s7 : Unit) (f : Frm) (w : World) => ∃ (S_ : PH), S1.Le S_ ∧ Inv w S_ (Fr) ∧ f 1 = (Value.pointer (some ⟨g1, 0, none⟩)) ∧ f 3 = (Value.int .i64 (i4 : Int))) hrun4 ⟨_, (PH.Le.refl _), I9, e5, rfl⟩ ?_ ?_
   ·
    rintro i4 s7 f w o7 hlt4 hI535 h19 hout4
    obtain ⟨S547, le547, I658, e203, e204⟩ := hI535
    refine wp_seq' ?_
    refine wp_seq' ?_
    refine wp_region' ?_
    refine wl_op rfl (op_move (v := (Value.int .i64 ((i4 : Int)))) rfl e204 ?_)
    refine wl_op rfl (op_fieldAddr_t (v := (Value.pointer (some ⟨g1, 0, none⟩))) rfl fa24_1 e203 ((p1.mono le547).at_ I658) ?_)
    refine wl_op rfl (op_load (v := (fieldPtr (Value.pointer (some ⟨g1, 0, none⟩)) 1)) (e := a0.Doors) rfl sh22 rfl (((p1.mono le547).at_ I658).fld Panel.fld1) (fun u18 hu18 => ?_))
    obtain ⟨z19, m19, k19, e206⟩ := rv_form hu18
    subst e206
    refine wl_op rfl (op_len_rv rfl Try.underlying22 rfl hu18 ?_)
    refine wl_op rfl (op_lss (a := (i4 : Int)) (b := (a0.Doors.length : Int)) rfl rfl rfl ?_)
    refine wl_nil ?_
    refine wp_cond_t (b := decide ((i4 : Int) < (a0.Doors.length : Int))) rfl (len_t hlt4) ?_
    refine wp_skip' ?_
    refine wp_seq' ?_
    refine wp_block' ?_
    refine wp_seq' ?_
    refine wp_region' ?_
    refine wl_op rfl (op_fieldAddr_t (v := (Value.pointer (some ⟨g1, 0, none⟩))) rfl fa24_1 e203 ((p1.mono le547).at_ I658) ?_)
    refine wl_op rfl (op_load (v := (fieldPtr (Value.pointer (some ⟨g1, 0, none⟩)) 1)) (e := a0.Doors) rfl sh22 rfl (((p1.mono le547).at_ I658).fld Panel.fld1) (fun u19 hu19 => ?_))
    obtain ⟨z20, m20, k20, e207⟩ := rv_form hu19
    subst e207
    refine wl_op rfl (op_move (v := (Value.int .i64 ((i4 : Int)))) rfl e204 ?_)
    obtain ⟨x52, hx52, h19⟩ := bnd h19
    refine wl_op rfl (op_indexAddr_rv (v := (Value.slice z20 m20 k20)) (i := (i4 : Int)) (e := x52) rfl Try.underlying22 sh33 rfl hu19 rfl hx52 ?_)
    refine wl_op rfl (op_load (v := (elemPtr (Value.slice z20 m20 k20) ((i4 : Int)) (Enc.sz Gate))) (e := x52) rfl sh33 rfl (hu19.elem I658.in_ hx52) (fun u20 hu20 => ?_))
    obtain ⟨c5, e208, r5⟩ := Gate.inv hu20
    subst e208
    obtain ⟨z21, m21, k21, e209⟩ := rv_form r5
    subst e209
    refine wl_op rfl (op_alloc (z := (Value.agg #[(Value.int .i64 (0)), (Value.slice none 0 0)])) rfl I658 zo33 (fun g5 w633 (I659 : Inv w633 S547 (Cells g5 33 #[(Value.int .i64 (0)), (Value.slice none 0 0)] :: Fr)) => ?_))
    refine wl_op rfl (op_store (v := (Value.agg #[(Value.int .i64 (x52.Wait)), (Value.slice z21 m21 k21)])) (cs := #[(Value.int .i64 (0)), (Value.slice none 0 0)]) sh33 I659 rfl rfl rfl (Nat.le_of_ble_eq_true rfl) rfl (fun w634 (I660 : Inv w634 S547 (Cells g5 33 #[(Value.int .i64 (x52.Wait)), (Value.slice z21 m21 k21)] :: Fr)) => ?_))
    refine wl_nil ?_
    obtain ⟨ov5, h22, h19⟩ := bnd h19
    refine wp_cut (fun f w => ∃ v5, ov5 = Sum.inl v5 ∧ Inv w S547 (Cells g5 33 #[(Value.int .i64 (x52.Wait)), (Value.slice z21 m21 k21)] :: Fr) ∧ f 1 = (Value.pointer (some ⟨g1, 0, none⟩)) ∧ f 3 = (Value.int .i64 ((i4 : Int))) ∧ f 4 = (Value.pointer (some ⟨g5, 0, none⟩))) ?_ ?_
    ·
     refine wp_seq' ?_
     refine wp_region' ?_
     refine wl_op rfl (op_fieldAddr (v := (Value.pointer (some ⟨g5, 0, none⟩))) rfl fa33_0 rfl rfl ?_)
     refine wl_op rfl (op_load1 (c := (Value.int .i64 (x52.Wait))) rfl sh3 (I660.nth 0 rfl) rfl rfl ?_)
     obtain ⟨x54, hx54, h22⟩ := bnd h22
     refine wl_op rfl (op_call_v (vs := [(Value.int .i64 (x52.Wait)), (Value.int .i64 (1)), (Value.int .i64 (50))]) (r := (Value.bool (x54))) rfl ca43 rfl (args3 rfl rfl rfl) I660 (fun Fr_ hF_ => F43_ok hF_  hx54) (fun w636 I662 => ?_))
     refine wl_op rfl (op_not (b := x54) rfl rfl ?_)
     refine wl_op rfl (op_move (v := (Value.bool (!x54))) rfl rfl ?_)
     rcases ifs h22 with ⟨hc47, h22⟩ | ⟨hc47, h22⟩
     ·
      refine wl_skip (c := !x54) rfl rfl rfl rfl hc47 rfl ?_
      refine wl_skip (c := !x54) rfl rfl rfl rfl hc47 rfl ?_
      refine wl_skip (c := !x54) rfl rfl rfl rfl hc47 rfl ?_
      refine wl_skip (c := !x54) rfl rfl rfl rfl hc47 rfl ?_
      refine wl_op rfl (op_pick_t (c := !x54) (a := (Value.bool (true))) rfl rfl hc47 rfl ?_)
      refine wl_nil ?_
      refine wp_cond_t (b := true) rfl rfl ?_
      refine wp_seq' ?_
      refine wp_region' ?_
      refine wl_op rfl (op_assign (v := (Value.int .i64 (80))) rfl rfl ?_)
      refine wl_nil ?_
      refine wp_ret' ?_
      obtain rfl := Option.some.inj h22
      have h23 := h19
      obtain rfl := Option.some.inj h23
      obtain rfl := (hout4 _ rfl)
      have h20 := h
      obtain rfl := Option.some.inj h20
      exact ⟨(Value.int .i64 (80)), (res1 rfl rfl), _, [], (le1.trans le547), (I662).drop, rfl, rfl⟩
     ·
      refine wl_taken (c := !x54) rfl rfl rfl rfl hc47 (op_fieldAddr (v := (Value.pointer (some ⟨g5, 0, none⟩))) rfl fa33_1 rfl rfl ?_)
      refine wl_taken (c := !x54) rfl rfl rfl rfl hc47 (op_load1 (c := (Value.slice z21 m21 k21)) rfl sh31 (I662.nth 0 rfl) rfl rfl ?_)
      refine wl_taken (c := !x54) rfl rfl rfl rfl hc47 (op_len_rv rfl Try.underlying31 rfl r5 ?_)
      refine wl_taken (c := !x54) rfl rfl rfl rfl hc47 (op_gtr (a := (x52.When.length : Int)) (b := 8) rfl rfl rfl ?_)
      refine wl_op rfl (op_pick_f (c := !x54) (b := (Value.bool (decide (8 < (x52.When.length : Int))))) rfl rfl hc47 rfl ?_)
      refine wl_nil ?_
      rcases ifs h22 with ⟨hc48, h22⟩ | ⟨hc48, h22⟩
      ·
       refine wp_cond_t (b := decide (8 < (x52.When.length : Int))) rfl hc48 ?_
       refine wp_seq' ?_
       refine wp_region' ?_
       refine wl_op rfl (op_assign (v := (Value.int .i64 (80))) rfl rfl ?_)
       refine wl_nil ?_
       refine wp_ret' ?_
       obtain rfl := Option.some.inj h22
       have h23 := h19
       obtain rfl := Option.some.inj h23
       obtain rfl := (hout4 _ rfl)
       have h20 := h
       obtain rfl := Option.some.inj h20
       exact ⟨(Value.int .i64 (80)), (res1 rfl rfl), _, [], (le1.trans le547), (I662).drop, rfl, rfl⟩
      ·
       refine wp_cond_f (b := decide (8 < (x52.When.length : Int))) rfl hc48 ?_
       refine wp_skip' ?_
       obtain rfl := Option.some.inj h22
       exact ⟨_, rfl, I662, e203, e204, rfl⟩
    ·
     rintro f w ⟨v5, rfl, I663, e210, e211, e212⟩
     have h19 := onL_inl h19
     refine wp_seq' ?_
     refine wp_region' ?_
     refine wl_op rfl (op_assign (v := (Value.int .i64 (0))) rfl rfl ?_)
     refine wl_nil ?_
     have hk5 : x52.When.length ≤ 9223372036854775807 := (rv_len r5)
     obtain ⟨o10, hrun5, h19⟩ := bnd h19
     refine wp_cutN (fun f w => ∃ out5, o10 = Sum.inl out5 ∧ ∃ (S_ : PH), S547.Le S_ ∧ Inv w S_ (Cells g5 33 #[(Value.int .i64 (x52.Wait)), (Value.slice z21 m21 k21)] :: Fr) ∧ f 1 = (Value.pointer (some ⟨g1, 0, none⟩)) ∧ f 3 = (Value.int .i64 ((i4 : Int))) ∧ f 4 = (Value.pointer (some ⟨g5, 0, none⟩))) ?_ ?_
     ·
      refine wp_block' ?_
      refine wp_forN (I := fun (i5 : Nat) (s8 : Unit) (f : Frm) (w : World) => ∃ (S_ : PH), S547.Le S_ ∧ Inv w S_ (Cells g5 33 #[(Value.int .i64 (x52.Wait)), (Value.slice z21 m21 k21)] :: Fr) ∧ f 1 = (Value.pointer (some ⟨g1, 0, none⟩)) ∧ f 3 = (Value.int .i64 ((i4 : Int))) ∧ f 4 = (Value.pointer (some ⟨g5, 0, none⟩)) ∧ f 5 = (Value.int .i64 (i5 : Int))) hrun5 ⟨_, (PH.Le.refl _), I663, e210, e211, e212, rfl⟩ ?_ ?_
      ·
       rintro i5 s8 f w o9 hlt5 hI668 h24 hout5
       obtain ⟨S682, le682, I820, e249, e250, e251, e252⟩ := hI668
       refine wp_seq' ?_
       refine wp_seq' ?_
       refine wp_region' ?_
       refine wl_op rfl (op_move (v := (Value.int .i64 ((i5 : Int)))) rfl e252 ?_)
       refine wl_op rfl (op_fieldAddr (v := (Value.pointer (some ⟨g5, 0, none⟩))) rfl fa33_1 e251 rfl ?_)
       refine wl_op rfl (op_load1 (c := (Value.slice z21 m21 k21)) rfl sh31 (I820.nth 0 rfl) rfl rfl ?_)
       refine wl_op rfl (op_len_rv rfl Try.underlying31 rfl (r5.mono le682) ?_)
       refine wl_op rfl (op_lss (a := (i5 : Int)) (b := (x52.When.length : Int)) rfl rfl rfl ?_)
       refine wl_nil ?_
       refine wp_cond_t (b := decide ((i5 : Int) < (x52.When.length : Int))) rfl (len_t hlt5) ?_
       refine wp_skip' ?_
       refine wp_seq' ?_
       refine wp_block' ?_
       refine wp_seq' ?_
       obtain ⟨x64, hx64, h24⟩ := bnd h24
       obtain ⟨x65, hx65, h24⟩ := bnd h24
       rcases ifs h24 with ⟨hc55, h24⟩ | ⟨hc55, h24⟩
       ·
        refine wp_draw (sps := [⟨some 57, [], [0], fun vs_ T_ => fr0 vs_ 0 = (Value.pointer (some ⟨g5, 1, none⟩)), [], [], [], fun _ h_ => h_⟩, ⟨some 58, [0], [1], fun vs_ T_ => fr0 vs_ 0 = (Value.slice z21 m21 k21), [0], [], [], fun _ h_ => h_⟩, ⟨some 59, [], [2], fun vs_ T_ => fr0 vs_ 0 = (Value.int .i64 ((i5 : Int))), [], [], [], fun _ h_ => h_⟩, ⟨some 60, [0, 1, 2], [3], fun vs_ T_ => fr0 vs_ 0 = (elemPtr (Value.slice z21 m21 k21) ((i5 : Int)) (Enc.sz Sense)), [], [], [], fun _ h_ => h_⟩, ⟨some 61, [0, 1, 2, 3], [4], fun vs_ T_ => fr0 vs_ 0 = (fieldPtr (elemPtr (Value.slice z21 m21 k21) ((i5 : Int)) (Enc.sz Sense)) 0), [], [], [], fun _ h_ => h_⟩, ⟨some 62, [0, 1, 2, 3, 4], [5], fun vs_ T_ => fr0 vs_ 0 = (Value.int .i64 (x64.Sensor)), [], [], [], fun _ h_ => h_⟩, ⟨some 63, [], [6], fun vs_ T_ => fr0 vs_ 0 = (fieldPtr (Value.pointer (some ⟨g1, 0, none⟩)) 0), [], [], [], fun _ h_ => h_⟩, ⟨some 64, [6], [7], fun vs_ T_ => fr0 vs_ 0 = (Value.int .i64 (a0.Sensors)), [], [], [], fun _ h_ => h_⟩, ⟨some 65, [6, 7], [8], fun vs_ T_ => fr0 vs_ 0 = (Value.int .i64 (w64 (a0.Sensors - 1))), [], [], [], fun _ h_ => h_⟩, ⟨some 66, [0, 1, 2, 3, 4, 5, 6, 7, 8], [9], fun vs_ T_ => fr0 vs_ 0 = (Value.bool (x65)), [], [], [], fun _ h_ => h_⟩, ⟨some 67, [0, 1, 2, 3, 4, 5, 6, 7, 8, 9], [10], fun vs_ T_ => fr0 vs_ 0 = (Value.bool (!x65)), [], [], [], fun _ h_ => h_⟩, ⟨some 68, [0, 1, 2, 3, 4, 5, 6, 7, 8, 9, 10], [11], fun vs_ T_ => fr0 vs_ 0 = (Value.bool (!x65)), [], [], [], fun _ h_ => h_⟩, ⟨some 69, [0, 1, 2, 3, 4, 5, 6, 7, 8, 9, 10, 11], [12], fun vs_ T_ => fr0 vs_ 0 = undef, [], [], [], fun _ h_ => h_⟩, ⟨some 70, [0, 1, 2, 3, 4, 5, 6, 7, 8, 9, 10, 11, 12], [13], fun vs_ T_ => fr0 vs_ 0 = undef, [], [], [], fun _ h_ => h_⟩, ⟨some 71, [0, 1, 2, 3, 4, 5, 6, 7, 8, 9, 10, 11], [14], fun vs_ T_ => fr0 vs_ 0 = undef, [], [], [], fun _ h_ => h_⟩, ⟨some 72, [0, 1, 2, 3, 4, 5, 6, 7, 8, 9, 10, 11, 12, 13, 14], [15], fun vs_ T_ => fr0 vs_ 0 = undef, [], [], [], fun _ h_ => h_⟩, ⟨some 73, [0, 1, 2, 3, 4, 5, 6, 7, 8, 9, 10, 11, 12, 13, 14, 15], [16], fun vs_ T_ => fr0 vs_ 0 = undef, [], [], [], fun _ h_ => h_⟩, ⟨some 74, [0, 1, 2, 3, 4, 5, 6, 7, 8, 9, 10, 11, 12, 13, 14, 15, 16], [17], fun vs_ T_ => fr0 vs_ 0 = undef, [], [], [], fun _ h_ => h_⟩, ⟨some 75, [0, 1, 2, 3, 4, 5, 6, 7, 8, 9, 10, 11, 12, 13, 14, 15, 16, 17], [18], fun vs_ T_ => fr0 vs_ 0 = undef, [], [], [], fun _ h_ => h_⟩, ⟨some 76, [0, 1, 2, 3, 4, 5, 6, 7, 8, 9, 10, 11, 12, 13, 14, 15, 16, 17, 18], [19], fun vs_ T_ => fr0 vs_ 0 = undef, [], [], [], fun _ h_ => h_⟩, ⟨some 77, [0, 1, 2, 3, 4, 5, 6, 7, 8, 9, 10, 11, 12, 13, 14, 15, 16, 17, 18, 19], [20], fun vs_ T_ => fr0 vs_ 0 = (Value.bool (true)), [], [], [], fun _ h_ => h_⟩]) (tks := [⟨none, none, [], fun vs_ => Cells g5 33 #[(Value.int .i64 (x52.Wait)), (Value.slice z21 m21 k21)]⟩]) (O := Fr) rfl (by kernel_rfl) I820 ⟨?_, ?_, ?_, ?_, ?_, ?_, ?_, ?_, ?_, ?_, ?_, ?_, ?_, ?_, ?_, ?_, ?_, ?_, ?_, ?_, ?_, trivial⟩ ?_
        ·
         intro vs661 f w792 S683 X631 le683 hA631 hK661 hI669
         have I823 : Inv w792 S683 (X631) := hI669
         refine opg_plain rfl rfl (op_fieldAddr (v := (Value.pointer (some ⟨g5, 0, none⟩))) rfl fa33_1 ((hK661 4 (keep_of rfl)).trans e251) rfl ?_)
         refine ⟨_, _, rfl, PH.Le.refl _, ?_, ?_⟩
         ·
          exact rfl
         ·
          exact I823
        ·
         intro vs662 f w793 S684 X632 le684 hA632 hK662 hI670
         have I824 : Inv w793 S684 (Cells g5 33 #[(Value.int .i64 (x52.Wait)), (Value.slice z21 m21 k21)] :: X632) := hI670
         have q871 : f 57 = (Value.pointer (some ⟨g5, 1, none⟩)) := vt (hA632.at_ 0 rfl _ rfl) rfl
         refine opg_plain rfl rfl (op_load1 (c := (Value.slice z21 m21 k21)) rfl sh31 (I824.nth 0 rfl) q871 rfl ?_)
         refine ⟨_, _, rfl, PH.Le.refl _, ?_, ?_⟩
         ·
          exact rfl
         ·
          exact I824
        ·
         intro vs663 f w794 S685 X633 le685 hA633 hK663 hI671
         have I825 : Inv w794 S685 (X633) := hI671
         refine opg_plain rfl rfl (op_move (v := (Value.int .i64 ((i5 : Int)))) rfl ((hK663 5 (keep_of rfl)).trans e252) ?_)
         refine ⟨_, _, rfl, PH.Le.refl _, ?_, ?_⟩
         ·
          exact rfl
         ·
          exact I825
        ·
         intro vs664 f w795 S686 X634 le686 hA634 hK664 hI672
         have I826 : Inv w795 S686 (X634) := hI672
         have q872 : f 58 = (Value.slice z21 m21 k21) := vt (hA634.at_ 1 rfl _ rfl) rfl
         have q873 : f 59 = (Value.int .i64 ((i5 : Int))) := vt (hA634.at_ 2 rfl _ rfl) rfl
         refine opg_plain rfl rfl (op_indexAddr_rv (v := (Value.slice z21 m21 k21)) (i := (i5 : Int)) (e := x64) rfl Try.underlying31 sh44 q872 (r5.mono (le682.trans le686)) q873 hx64 ?_)
         refine ⟨_, _, rfl, PH.Le.refl _, ?_, ?_⟩
         ·
          exact rfl
         ·
          exact I826
        ·
         intro vs665 f w796 S687 X635 le687 hA635 hK665 hI673
         have I827 : Inv w796 S687 (X635) := hI673
         have q874 : f 60 = (elemPtr (Value.slice z21 m21 k21) ((i5 : Int)) (Enc.sz Sense)) := vt (hA635.at_ 3 rfl _ rfl) rfl
         refine opg_plain rfl rfl (op_fieldAddr_t (v := (elemPtr (Value.slice z21 m21 k21) ((i5 : Int)) (Enc.sz Sense))) rfl fa44_0 q874 ((r5.mono (le682.trans le687)).elem I827.in_ hx64) ?_)
         refine ⟨_, _, rfl, PH.Le.refl _, ?_, ?_⟩
         ·
          exact rfl
         ·
          exact I827
        ·
         intro vs666 f w797 S688 X636 le688 hA636 hK666 hI674
         have I828 : Inv w797 S688 (X636) := hI674
         have q875 : f 61 = (fieldPtr (elemPtr (Value.slice z21 m21 k21) ((i5 : Int)) (Enc.sz Sense)) 0) := vt (hA636.at_ 4 rfl _ rfl) rfl
         refine opg_plain rfl rfl (op_load_int (v := (fieldPtr (elemPtr (Value.slice z21 m21 k21) ((i5 : Int)) (Enc.sz Sense)) 0)) (e := x64.Sensor) rfl sh3 q875 (((r5.mono (le682.trans le688)).elem I828.in_ hx64).fld Sense.fld0) ?_)
         refine ⟨_, _, rfl, PH.Le.refl _, ?_, ?_⟩
         ·
          exact rfl
         ·
          exact I828
        ·
         intro vs667 f w798 S689 X637 le689 hA637 hK667 hI675
         have I829 : Inv w798 S689 (X637) := hI675
         refine opg_plain rfl rfl (op_fieldAddr_t (v := (Value.pointer (some ⟨g1, 0, none⟩))) rfl fa24_0 ((hK667 1 (keep_of rfl)).trans e249) ((p1.mono ((le547.trans le682).trans le689)).at_ I829) ?_)
         refine ⟨_, _, rfl, PH.Le.refl _, ?_, ?_⟩
         ·
          exact rfl
         ·
          exact I829
        ·
         intro vs668 f w799 S690 X638 le690 hA638 hK668 hI676
         have I830 : Inv w799 S690 (X638) := hI676
         have q876 : f 63 = (fieldPtr (Value.pointer (some ⟨g1, 0, none⟩)) 0) := vt (hA638.at_ 0 rfl _ rfl) rfl
         refine opg_plain rfl rfl (op_load_int (v := (fieldPtr (Value.pointer (some ⟨g1, 0, none⟩)) 0)) (e := a0.Sensors) rfl sh3 q876 (((p1.mono ((le547.trans le682).trans le690)).at_ I830).fld Panel.fld0) ?_)
         refine ⟨_, _, rfl, PH.Le.refl _, ?_, ?_⟩
         ·
          exact rfl
         ·
          exact I830
        ·
         intro vs669 f w800 S691 X639 le691 hA639 hK669 hI677
         have I831 : Inv w800 S691 (X639) := hI677
         have q877 : f 64 = (Value.int .i64 (a0.Sensors)) := vt (hA639.at_ 1 rfl _ rfl) rfl
         refine opg_plain rfl rfl (op_sub (a := a0.Sensors) (b := 1) rfl q877 rfl ?_)
         refine ⟨_, _, rfl, PH.Le.refl _, ?_, ?_⟩
         ·
          exact rfl
         ·
          exact I831
        ·
         intro vs670 f w801 S692 X640 le692 hA640 hK670 hI678
         have I832 : Inv w801 S692 (X640) := hI678
         have q878 : f 62 = (Value.int .i64 (x64.Sensor)) := vt (hA640.at_ 5 rfl _ rfl) rfl
         have q879 : f 65 = (Value.int .i64 (w64 (a0.Sensors - 1))) := vt (hA640.at_ 8 rfl _ rfl) rfl
         refine opg_plain rfl rfl (op_call_v (vs := [(Value.int .i64 (x64.Sensor)), (Value.int .i64 (0)), (Value.int .i64 (w64 (a0.Sensors - 1)))]) (r := (Value.bool (x65))) rfl ca43 rfl (args3 q878 rfl q879) I832 (fun Fr_ hF_ => F43_ok hF_  hx65) (fun w802 I833 => ?_))
         refine ⟨_, _, rfl, PH.Le.refl _, ?_, ?_⟩
         ·
          exact rfl
         ·
          exact I833
        ·
         intro vs671 f w803 S693 X641 le693 hA641 hK671 hI679
         have I834 : Inv w803 S693 (X641) := hI679
         have q880 : f 66 = (Value.bool (x65)) := vt (hA641.at_ 9 rfl _ rfl) rfl
         refine opg_plain rfl rfl (op_not (b := x65) rfl q880 ?_)
         refine ⟨_, _, rfl, PH.Le.refl _, ?_, ?_⟩
         ·
          exact rfl
         ·
          exact I834
        ·
         intro vs672 f w804 S694 X642 le694 hA642 hK672 hI680
         have I835 : Inv w804 S694 (X642) := hI680
         have q881 : f 67 = (Value.bool (!x65)) := vt (hA642.at_ 10 rfl _ rfl) rfl
         refine opg_plain rfl rfl (op_move (v := (Value.bool (!x65))) rfl q881 ?_)
         refine ⟨_, _, rfl, PH.Le.refl _, ?_, ?_⟩
         ·
          exact rfl
         ·
          exact I835
        ·
         intro vs673 f w805 S695 X643 le695 hA643 hK673 hI681
         have I836 : Inv w805 S695 (X643) := hI681
         have q882 : f 68 = (Value.bool (!x65)) := vt (hA643.at_ 11 rfl _ rfl) rfl
         exact opg_skip (c := !x65) rfl rfl rfl rfl q882 hc55 rfl ⟨_, _, rfl, PH.Le.refl _, rfl, I836⟩
        ·
         intro vs674 f w806 S696 X644 le696 hA644 hK674 hI682
         have I837 : Inv w806 S696 (X644) := hI682
         have q883 : f 68 = (Value.bool (!x65)) := vt (hA644.at_ 11 rfl _ rfl) rfl
         have q884 : f 69 = undef := vt (hA644.at_ 12 rfl _ rfl) rfl
         exact opg_skip (c := !x65) rfl rfl rfl rfl q883 hc55 rfl ⟨_, _, rfl, PH.Le.refl _, rfl, I837⟩
        ·
         intro vs675 f w807 S697 X645 le697 hA645 hK675 hI683
         have I838 : Inv w807 S697 (X645) := hI683
         have q885 : f 68 = (Value.bool (!x65)) := vt (hA645.at_ 11 rfl _ rfl) rfl
         exact opg_skip (c := !x65) rfl rfl rfl rfl q885 hc55 rfl ⟨_, _, rfl, PH.Le.refl _, rfl, I838⟩
        ·
         intro vs676 f w808 S698 X646 le698 hA646 hK676 hI684
         have I839 : Inv w808 S698 (X646) := hI684
         have q886 : f 68 = (Value.bool (!x65)) := vt (hA646.at_ 11 rfl _ rfl) rfl
         have q887 : f 70 = undef := vt (hA646.at_ 13 rfl _ rfl) rfl
         have q888 : f 71 = undef := vt (hA646.at_ 14 rfl _ rfl) rfl
         exact opg_skip (c := !x65) rfl rfl rfl rfl q886 hc55 rfl ⟨_, _, rfl, PH.Le.refl _, rfl, I839⟩
        ·
         intro vs677 f w809 S699 X647 le699 hA647 hK677 hI685
         have I840 : Inv w809 S699 (X647) := hI685
         have q889 : f 68 = (Value.bool (!x65)) := vt (hA647.at_ 11 rfl _ rfl) rfl
         have q890 : f 72 = undef := vt (hA647.at_ 15 rfl _ rfl) rfl
         exact opg_skip (c := !x65) rfl rfl rfl rfl q889 hc55 rfl ⟨_, _, rfl, PH.Le.refl _, rfl, I840⟩
        ·
         intro vs678 f w810 S700 X648 le700 hA648 hK678 hI686
         have I841 : Inv w810 S700 (X648) := hI686
         have q891 : f 68 = (Value.bool (!x65)) := vt (hA648.at_ 11 rfl _ rfl) rfl
         have q892 : f 73 = undef := vt (hA648.at_ 16 rfl _ rfl) rfl
         exact opg_skip (c := !x65) rfl rfl rfl rfl q891 hc55 rfl ⟨_, _, rfl, PH.Le.refl _, rfl, I841⟩
        ·
         intro vs679 f w811 S701 X649 le701 hA649 hK679 hI687
         have I842 : Inv w811 S701 (X649) := hI687
         have q893 : f 68 = (Value.bool (!x65)) := vt (hA649.at_ 11 rfl _ rfl) rfl
         have q894 : f 74 = undef := vt (hA649.at_ 17 rfl _ rfl) rfl
         exact opg_skip (c := !x65) rfl rfl rfl rfl q893 hc55 rfl ⟨_, _, rfl, PH.Le.refl _, rfl, I842⟩
        ·
         intro vs680 f w812 S702 X650 le702 hA650 hK680 hI688
         have I843 : Inv w812 S702 (X650) := hI688
         have q895 : f 68 = (Value.bool (!x65)) := vt (hA650.at_ 11 rfl _ rfl) rfl
         have q896 : f 75 = undef := vt (hA650.at_ 18 rfl _ rfl) rfl
         exact opg_skip (c := !x65) rfl rfl rfl rfl q895 hc55 rfl ⟨_, _, rfl, PH.Le.refl _, rfl, I843⟩
        ·
         intro vs681 f w813 S703 X651 le703 hA651 hK681 hI689
         have I844 : Inv w813 S703 (X651) := hI689
         have q897 : f 68 = (Value.bool (!x65)) := vt (hA651.at_ 11 rfl _ rfl) rfl
         have q898 : f 76 = undef := vt (hA651.at_ 19 rfl _ rfl) rfl
         refine opg_plain rfl rfl (op_pick_t (c := !x65) (a := (Value.bool (true))) rfl q897 hc55 rfl ?_)
         refine ⟨_, _, rfl, PH.Le.refl _, ?_, ?_⟩
         ·
          exact rfl
         ·
          exact I844
        ·
         intro vs682 f w814 S704 le704 hF31 hK682 hI690
         have e253 : f 1 = (Value.pointer (some ⟨g1, 0, none⟩)) := (hK682 1 (keep_all rfl)).trans e249
         have e254 : f 3 = (Value.int .i64 ((i4 : Int))) := (hK682 3 (keep_all rfl)).trans e250
         have e255 : f 4 = (Value.pointer (some ⟨g5, 0, none⟩)) := (hK682 4 (keep_all rfl)).trans e251
         have e256 : f 5 = (Value.int .i64 ((i5 : Int))) := (hK682 5 (keep_all rfl)).trans e252
         have I845 : Inv w814 S704 (Cells g5 33 #[(Value.int .i64 (x52.Wait)), (Value.slice z21 m21 k21)] :: Fr) := hI690
         have q899 : f 77 = (Value.bool (true)) := vt (hF31.at_ 20 rfl _ rfl) rfl
         refine wp_cond_t (b := true) q899 rfl ?_
         refine wp_seq' ?_
         refine wp_region' ?_
         refine wl_op rfl (op_assign (v := (Value.int .i64 (80))) rfl rfl ?_)
         refine wl_nil ?_
         refine wp_ret' ?_
         obtain rfl := Option.some.inj h24
         obtain rfl := (hout5 _ rfl)
         have h25 := h19
         obtain rfl := Option.some.inj h25
         obtain rfl := (hout4 _ rfl)
         have h20 := h
         obtain rfl := Option.some.inj h20
         exact ⟨(Value.int .i64 (80)), (res1 rfl rfl), _, [], (((le1.trans le547).trans le682).trans le704), (I845).drop, rfl, rfl⟩
       ·
        obtain ⟨x66, hx66, h24⟩ := bnd h24
        refine wp_draw (sps := [⟨some 57, [], [0], fun vs_ T_ => fr0 vs_ 0 = (Value.pointer (some ⟨g5, 1, none⟩)), [], [], [], fun _ h_ => h_⟩, ⟨some 58, [0], [1], fun vs_ T_ => fr0 vs_ 0 = (Value.slice z21 m21 k21), [0], [], [], fun _ h_ => h_⟩, ⟨some 59, [], [2], fun vs_ T_ => fr0 vs_ 0 = (Value.int .i64 ((i5 : Int))), [], [], [], fun _ h_ => h_⟩, ⟨some 60, [0, 1, 2], [3], fun vs_ T_ => fr0 vs_ 0 = (elemPtr (Value.slice z21 m21 k21) ((i5 : Int)) (Enc.sz Sense)), [], [], [], fun _ h_ => h_⟩, ⟨some 61, [0, 1, 2, 3], [4], fun vs_ T_ => fr0 vs_ 0 = (fieldPtr (elemPtr (Value.slice z21 m21 k21) ((i5 : Int)) (Enc.sz Sense)) 0), [], [], [], fun _ h_ => h_⟩, ⟨some 62, [0, 1, 2, 3, 4], [5], fun vs_ T_ => fr0 vs_ 0 = (Value.int .i64 (x64.Sensor)), [], [], [], fun _ h_ => h_⟩, ⟨some 63, [], [6], fun vs_ T_ => fr0 vs_ 0 = (fieldPtr (Value.pointer (some ⟨g1, 0, none⟩)) 0), [], [], [], fun _ h_ => h_⟩, ⟨some 64, [6], [7], fun vs_ T_ => fr0 vs_ 0 = (Value.int .i64 (a0.Sensors)), [], [], [], fun _ h_ => h_⟩, ⟨some 65, [6, 7], [8], fun vs_ T_ => fr0 vs_ 0 = (Value.int .i64 (w64 (a0.Sensors - 1))), [], [], [], fun _ h_ => h_⟩, ⟨some 66, [0, 1, 2, 3, 4, 5, 6, 7, 8], [9], fun vs_ T_ => fr0 vs_ 0 = (Value.bool (x65)), [], [], [], fun _ h_ => h_⟩, ⟨some 67, [0, 1, 2, 3, 4, 5, 6, 7, 8, 9], [10], fun vs_ T_ => fr0 vs_ 0 = (Value.bool (!x65)), [], [], [], fun _ h_ => h_⟩, ⟨some 68, [0, 1, 2, 3, 4, 5, 6, 7, 8, 9, 10], [11], fun vs_ T_ => fr0 vs_ 0 = (Value.bool (!x65)), [], [], [], fun _ h_ => h_⟩, ⟨some 69, [0, 1, 2, 3, 4, 5, 6, 7, 8, 9, 10, 11], [12], fun vs_ T_ => fr0 vs_ 0 = (Value.pointer (some ⟨g5, 1, none⟩)), [], [], [], fun _ h_ => h_⟩, ⟨some 70, [0, 1, 2, 3, 4, 5, 6, 7, 8, 9, 10, 11, 12], [13], fun vs_ T_ => fr0 vs_ 0 = (Value.slice z21 m21 k21), [0], [], [], fun _ h_ => h_⟩, ⟨some 71, [0, 1, 2, 3, 4, 5, 6, 7, 8, 9, 10, 11], [14], fun vs_ T_ => fr0 vs_ 0 = (Value.int .i64 ((i5 : Int))), [], [], [], fun _ h_ => h_⟩, ⟨some 72, [0, 1, 2, 3, 4, 5, 6, 7, 8, 9, 10, 11, 12, 13, 14], [15], fun vs_ T_ => fr0 vs_ 0 = (elemPtr (Value.slice z21 m21 k21) ((i5 : Int)) (Enc.sz Sense)), [], [], [], fun _ h_ => h_⟩, ⟨some 73, [0, 1, 2, 3, 4, 5, 6, 7, 8, 9, 10, 11, 12, 13, 14, 15], [16], fun vs_ T_ => fr0 vs_ 0 = (fieldPtr (elemPtr (Value.slice z21 m21 k21) ((i5 : Int)) (Enc.sz Sense)) 1), [], [], [], fun _ h_ => h_⟩, ⟨some 74, [0, 1, 2, 3, 4, 5, 6, 7, 8, 9, 10, 11, 12, 13, 14, 15, 16], [17], fun vs_ T_ => fr0 vs_ 0 = (Value.int .i64 (x64.Value)), [], [], [], fun _ h_ => h_⟩, ⟨some 75, [0, 1, 2, 3, 4, 5, 6, 7, 8, 9, 10, 11, 12, 13, 14, 15, 16, 17], [18], fun vs_ T_ => fr0 vs_ 0 = (Value.bool (x66)), [], [], [], fun _ h_ => h_⟩, ⟨some 76, [0, 1, 2, 3, 4, 5, 6, 7, 8, 9, 10, 11, 12, 13, 14, 15, 16, 17, 18], [19], fun vs_ T_ => fr0 vs_ 0 = (Value.bool (!x66)), [], [], [], fun _ h_ => h_⟩, ⟨some 77, [0, 1, 2, 3, 4, 5, 6, 7, 8, 9, 10, 11, 12, 13, 14, 15, 16, 17, 18, 19], [20], fun vs_ T_ => fr0 vs_ 0 = (Value.bool (!x66)), [], [], [], fun _ h_ => h_⟩]) (tks := [⟨none, none, [], fun vs_ => Cells g5 33 #[(Value.int .i64 (x52.Wait)), (Value.slice z21 m21 k21)]⟩]) (O := Fr) rfl (by kernel_rfl) I820 ⟨?_, ?_, ?_, ?_, ?_, ?_, ?_, ?_, ?_, ?_, ?_, ?_, ?_, ?_, ?_, ?_, ?_, ?_, ?_, ?_, ?_, trivial⟩ ?_
        ·
         intro vs683 f w817 S705 X652 le705 hA652 hK683 hI691
         have I848 : Inv w817 S705 (X652) := hI691
         refine opg_plain rfl rfl (op_fieldAddr (v := (Value.pointer (some ⟨g5, 0, none⟩))) rfl fa33_1 ((hK683 4 (keep_of rfl)).trans e251) rfl ?_)
         refine ⟨_, _, rfl, PH.Le.refl _, ?_, ?_⟩
         ·
          exact rfl
         ·
          exact I848
        ·
         intro vs684 f w818 S706 X653 le706 hA653 hK684 hI692
         have I849 : Inv w818 S706 (Cells g5 33 #[(Value.int .i64 (x52.Wait)), (Value.slice z21 m21 k21)] :: X653) := hI692
         have q900 : f 57 = (Value.pointer (some ⟨g5, 1, none⟩)) := vt (hA653.at_ 0 rfl _ rfl) rfl
         refine opg_plain rfl rfl (op_load1 (c := (Value.slice z21 m21 k21)) rfl sh31 (I849.nth 0 rfl) q900 rfl ?_)
         refine ⟨_, _, rfl, PH.Le.refl _, ?_, ?_⟩
         ·
          exact rfl
         ·
          exact I849
        ·
         intro vs685 f w819 S707 X654 le707 hA654 hK685 hI693
         have I850 : Inv w819 S707 (X654) := hI693
         refine opg_plain rfl rfl (op_move (v := (Value.int .i64 ((i5 : Int)))) rfl ((hK685 5 (keep_of rfl)).trans e252) ?_)
         refine ⟨_, _, rfl, PH.Le.refl _, ?_, ?_⟩
         ·
          exact rfl
         ·
          exact I850
        ·
         intro vs686 f w820 S708 X655 le708 hA655 hK686 hI694
         have I851 : Inv w820 S708 (X655) := hI694
         have q901 : f 58 = (Value.slice z21 m21 k21) := vt (hA655.at_ 1 rfl _ rfl) rfl
         have q902 : f 59 = (Value.int .i64 ((i5 : Int))) := vt (hA655.at_ 2 rfl _ rfl) rfl
         refine opg_plain rfl rfl (op_indexAddr_rv (v := (Value.slice z21 m21 k21)) (i := (i5 : Int)) (e := x64) rfl Try.underlying31 sh44 q901 (r5.mono (le682.trans le708)) q902 hx64 ?_)
         refine ⟨_, _, rfl, PH.Le.refl _, ?_, ?_⟩
         ·
          exact rfl
         ·
          exact I851
        ·
         intro vs687 f w821 S709 X656 le709 hA656 hK687 hI695
         have I852 : Inv w821 S709 (X656) := hI695
         have q903 : f 60 = (elemPtr (Value.slice z21 m21 k21) ((i5 : Int)) (Enc.sz Sense)) := vt (hA656.at_ 3 rfl _ rfl) rfl
         refine opg_plain rfl rfl (op_fieldAddr_t (v := (elemPtr (Value.slice z21 m21 k21) ((i5 : Int)) (Enc.sz Sense))) rfl fa44_0 q903 ((r5.mono (le682.trans le709)).elem I852.in_ hx64) ?_)
         refine ⟨_, _, rfl, PH.Le.refl _, ?_, ?_⟩
         ·
          exact rfl
         ·
          exact I852
        ·
         intro vs688 f w822 S710 X657 le710 hA657 hK688 hI696
         have I853 : Inv w822 S710 (X657) := hI696
         have q904 : f 61 = (fieldPtr (elemPtr (Value.slice z21 m21 k21) ((i5 : Int)) (Enc.sz Sense)) 0) := vt (hA657.at_ 4 rfl _ rfl) rfl
         refine opg_plain rfl rfl (op_load_int (v := (fieldPtr (elemPtr (Value.slice z21 m21 k21) ((i5 : Int)) (Enc.sz Sense)) 0)) (e := x64.Sensor) rfl sh3 q904 (((r5.mono (le682.trans le710)).elem I853.in_ hx64).fld Sense.fld0) ?_)
         refine ⟨_, _, rfl, PH.Le.refl _, ?_, ?_⟩
         ·
          exact rfl
         ·
          exact I853
        ·
         intro vs689 f w823 S711 X658 le711 hA658 hK689 hI697
         have I854 : Inv w823 S711 (X658) := hI697
         refine opg_plain rfl rfl (op_fieldAddr_t (v := (Value.pointer (some ⟨g1, 0, none⟩))) rfl fa24_0 ((hK689 1 (keep_of rfl)).trans e249) ((p1.mono ((le547.trans le682).trans le711)).at_ I854) ?_)
         refine ⟨_, _, rfl, PH.Le.refl _, ?_, ?_⟩
         ·
          exact rfl
         ·
          exact I854
        ·
         intro vs690 f w824 S712 X659 le712 hA659 hK690 hI698
         have I855 : Inv w824 S712 (X659) := hI698
         have q905 : f 63 = (fieldPtr (Value.pointer (some ⟨g1, 0, none⟩)) 0) := vt (hA659.at_ 0 rfl _ rfl) rfl
         refine opg_plain rfl rfl (op_load_int (v := (fieldPtr (Value.pointer (some ⟨g1, 0, none⟩)) 0)) (e := a0.Sensors) rfl sh3 q905 (((p1.mono ((le547.trans le682).trans le712)).at_ I855).fld Panel.fld0) ?_)
         refine ⟨_, _, rfl, PH.Le.refl _, ?_, ?_⟩
         ·
          exact rfl
         ·
          exact I855
        ·
         intro vs691 f w825 S713 X660 le713 hA660 hK691 hI699
         have I856 : Inv w825 S713 (X660) := hI699
         have q906 : f 64 = (Value.int .i64 (a0.Sensors)) := vt (hA660.at_ 1 rfl _ rfl) rfl
         refine opg_plain rfl rfl (op_sub (a := a0.Sensors) (b := 1) rfl q906 rfl ?_)
         refine ⟨_, _, rfl, PH.Le.refl _, ?_, ?_⟩
         ·
          exact rfl
         ·
          exact I856
        ·
         intro vs692 f w826 S714 X661 le714 hA661 hK692 hI700
         have I857 : Inv w826 S714 (X661) := hI700
         have q907 : f 62 = (Value.int .i64 (x64.Sensor)) := vt (hA661.at_ 5 rfl _ rfl) rfl
         have q908 : f 65 = (Value.int .i64 (w64 (a0.Sensors - 1))) := vt (hA661.at_ 8 rfl _ rfl) rfl
         refine opg_plain rfl rfl (op_call_v (vs := [(Value.int .i64 (x64.Sensor)), (Value.int .i64 (0)), (Value.int .i64 (w64 (a0.Sensors - 1)))]) (r := (Value.bool (x65))) rfl ca43 rfl (args3 q907 rfl q908) I857 (fun Fr_ hF_ => F43_ok hF_  hx65) (fun w827 I858 => ?_))
         refine ⟨_, _, rfl, PH.Le.refl _, ?_, ?_⟩
         ·
          exact rfl
         ·
          exact I858
        ·
         intro vs693 f w828 S715 X662 le715 hA662 hK693 hI701
         have I859 : Inv w828 S715 (X662) := hI701
         have q909 : f 66 = (Value.bool (x65)) := vt (hA662.at_ 9 rfl _ rfl) rfl
         refine opg_plain rfl rfl (op_not (b := x65) rfl q909 ?_)
         refine ⟨_, _, rfl, PH.Le.refl _, ?_, ?_⟩
         ·
          exact rfl
         ·
          exact I859
        ·
         intro vs694 f w829 S716 X663 le716 hA663 hK694 hI702
         have I860 : Inv w829 S716 (X663) := hI702
         have q910 : f 67 = (Value.bool (!x65)) := vt (hA663.at_ 10 rfl _ rfl) rfl
         refine opg_plain rfl rfl (op_move (v := (Value.bool (!x65))) rfl q910 ?_)
         refine ⟨_, _, rfl, PH.Le.refl _, ?_, ?_⟩
         ·
          exact rfl
         ·
          exact I860
        ·
         intro vs695 f w830 S717 X664 le717 hA664 hK695 hI703
         have I861 : Inv w830 S717 (X664) := hI703
         have q911 : f 68 = (Value.bool (!x65)) := vt (hA664.at_ 11 rfl _ rfl) rfl
         refine opg_taken (c := !x65) rfl rfl rfl rfl q911 hc55 (op_fieldAddr (v := (Value.pointer (some ⟨g5, 0, none⟩))) rfl fa33_1 ((hK695 4 (keep_of rfl)).trans e251) rfl ?_)
         refine ⟨_, _, rfl, PH.Le.refl _, ?_, ?_⟩
         ·
          exact rfl
         ·
          exact I861
        ·
         intro vs696 f w831 S718 X665 le718 hA665 hK696 hI704
         have I862 : Inv w831 S718 (Cells g5 33 #[(Value.int .i64 (x52.Wait)), (Value.slice z21 m21 k21)] :: X665) := hI704
         have q912 : f 68 = (Value.bool (!x65)) := vt (hA665.at_ 11 rfl _ rfl) rfl
         have q913 : f 69 = (Value.pointer (some ⟨g5, 1, none⟩)) := vt (hA665.at_ 12 rfl _ rfl) rfl
         refine opg_taken (c := !x65) rfl rfl rfl rfl q912 hc55 (op_load1 (c := (Value.slice z21 m21 k21)) rfl sh31 (I862.nth 0 rfl) q913 rfl ?_)
         refine ⟨_, _, rfl, PH.Le.refl _, ?_, ?_⟩
         ·
          exact rfl
         ·
          exact I862
        ·
         intro vs697 f w832 S719 X666 le719 hA666 hK697 hI705
         have I863 : Inv w832 S719 (X666) := hI705
         have q914 : f 68 = (Value.bool (!x65)) := vt (hA666.at_ 11 rfl _ rfl) rfl
         refine opg_taken (c := !x65) rfl rfl rfl rfl q914 hc55 (op_move (v := (Value.int .i64 ((i5 : Int)))) rfl ((hK697 5 (keep_of rfl)).trans e252) ?_)
         refine ⟨_, _, rfl, PH.Le.refl _, ?_, ?_⟩
         ·
          exact rfl
         ·
          exact I863
        ·
         intro vs698 f w833 S720 X667 le720 hA667 hK698 hI706
         have I864 : Inv w833 S720 (X667) := hI706
         have q915 : f 68 = (Value.bool (!x65)) := vt (hA667.at_ 11 rfl _ rfl) rfl
         have q916 : f 70 = (Value.slice z21 m21 k21) := vt (hA667.at_ 13 rfl _ rfl) rfl
         have q917 : f 71 = (Value.int .i64 ((i5 : Int))) := vt (hA667.at_ 14 rfl _ rfl) rfl
         refine opg_taken (c := !x65) rfl rfl rfl rfl q915 hc55 (op_indexAddr_rv (v := (Value.slice z21 m21 k21)) (i := (i5 : Int)) (e := x64) rfl Try.underlying31 sh44 q916 (r5.mono (le682.trans le720)) q917 hx64 ?_)
         refine ⟨_, _, rfl, PH.Le.refl _, ?_, ?_⟩
         ·
          exact rfl
         ·
          exact I864
        ·
         intro vs699 f w834 S721 X668 le721 hA668 hK699 hI707
         have I865 : Inv w834 S721 (X668) := hI707
         have q918 : f 68 = (Value.bool (!x65)) := vt (hA668.at_ 11 rfl _ rfl) rfl
         have q919 : f 72 = (elemPtr (Value.slice z21 m21 k21) ((i5 : Int)) (Enc.sz Sense)) := vt (hA668.at_ 15 rfl _ rfl) rfl
         refine opg_taken (c := !x65) rfl rfl rfl rfl q918 hc55 (op_fieldAddr_t (v := (elemPtr (Value.slice z21 m21 k21) ((i5 : Int)) (Enc.sz Sense))) rfl fa44_1 q919 ((r5.mono (le682.trans le721)).elem I865.in_ hx64) ?_)
         refine ⟨_, _, rfl, PH.Le.refl _, ?_, ?_⟩
         ·
          exact rfl
         ·
          exact I865
        ·
         intro vs700 f w835 S722 X669 le722 hA669 hK700 hI708
         have I866 : Inv w835 S722 (X669) := hI708
         have q920 : f 68 = (Value.bool (!x65)) := vt (hA669.at_ 11 rfl _ rfl) rfl
         have q921 : f 73 = (fieldPtr (elemPtr (Value.slice z21 m21 k21) ((i5 : Int)) (Enc.sz Sense)) 1) := vt (hA669.at_ 16 rfl _ rfl) rfl
         refine opg_taken (c := !x65) rfl rfl rfl rfl q920 hc55 (op_load_int (v := (fieldPtr (elemPtr (Value.slice z21 m21 k21) ((i5 : Int)) (Enc.sz Sense)) 1)) (e := x64.Value) rfl sh3 q921 (((r5.mono (le682.trans le722)).elem I866.in_ hx64).fld Sense.fld1) ?_)
         refine ⟨_, _, rfl, PH.Le.refl _, ?_, ?_⟩
         ·
          exact rfl
         ·
          exact I866
        ·
         intro vs701 f w836 S723 X670 le723 hA670 hK701 hI709
         have I867 : Inv w836 S723 (X670) := hI709
         have q922 : f 68 = (Value.bool (!x65)) := vt (hA670.at_ 11 rfl _ rfl) rfl
         have q923 : f 74 = (Value.int .i64 (x64.Value)) := vt (hA670.at_ 17 rfl _ rfl) rfl
         refine opg_taken (c := !x65) rfl rfl rfl rfl q922 hc55 (op_call_v (vs := [(Value.int .i64 (x64.Value)), (Value.int .i64 (0)), (Value.int .i64 (9))]) (r := (Value.bool (x66))) rfl ca43 rfl (args3 q923 rfl rfl) I867 (fun Fr_ hF_ => F43_ok hF_  hx66) (fun w837 I868 => ?_))
         refine ⟨_, _, rfl, PH.Le.refl _, ?_, ?_⟩
         ·
          exact rfl
         ·
          exact I868
        ·
         intro vs702 f w838 S724 X671 le724 hA671 hK702 hI710
         have I869 : Inv w838 S724 (X671) := hI710
         have q924 : f 68 = (Value.bool (!x65)) := vt (hA671.at_ 11 rfl _ rfl) rfl
         have q925 : f 75 = (Value.bool (x66)) := vt (hA671.at_ 18 rfl _ rfl) rfl
         refine opg_taken (c := !x65) rfl rfl rfl rfl q924 hc55 (op_not (b := x66) rfl q925 ?_)
         refine ⟨_, _, rfl, PH.Le.refl _, ?_, ?_⟩
         ·
          exact rfl
         ·
          exact I869
        ·
         intro vs703 f w839 S725 X672 le725 hA672 hK703 hI711
         have I870 : Inv w839 S725 (X672) := hI711
         have q926 : f 68 = (Value.bool (!x65)) := vt (hA672.at_ 11 rfl _ rfl) rfl
         have q927 : f 76 = (Value.bool (!x66)) := vt (hA672.at_ 19 rfl _ rfl) rfl
         refine opg_plain rfl rfl (op_pick_f (c := !x65) (b := (Value.bool (!x66))) rfl q926 hc55 q927 ?_)
         refine ⟨_, _, rfl, PH.Le.refl _, ?_, ?_⟩
         ·
          exact rfl
         ·
          exact I870
        ·
         intro vs704 f w840 S726 le726 hF32 hK704 hI712
         have e257 : f 1 = (Value.pointer (some ⟨g1, 0, none⟩)) := (hK704 1 (keep_all rfl)).trans e249
         have e258 : f 3 = (Value.int .i64 ((i4 : Int))) := (hK704 3 (keep_all rfl)).trans e250
         have e259 : f 4 = (Value.pointer (some ⟨g5, 0, none⟩)) := (hK704 4 (keep_all rfl)).trans e251
         have e260 : f 5 = (Value.int .i64 ((i5 : Int))) := (hK704 5 (keep_all rfl)).trans e252
         have I871 : Inv w840 S726 (Cells g5 33 #[(Value.int .i64 (x52.Wait)), (Value.slice z21 m21 k21)] :: Fr) := hI712
         have q928 : f 77 = (Value.bool (!x66)) := vt (hF32.at_ 20 rfl _ rfl) rfl
         rcases ifs h24 with ⟨hc56, h24⟩ | ⟨hc56, h24⟩
         ·
          refine wp_cond_t (b := !x66) q928 hc56 ?_
          refine wp_seq' ?_
          refine wp_region' ?_
          refine wl_op rfl (op_assign (v := (Value.int .i64 (80))) rfl rfl ?_)
          refine wl_nil ?_
          refine wp_ret' ?_
          obtain rfl := Option.some.inj h24
          obtain rfl := (hout5 _ rfl)
          have h25 := h19
          obtain rfl := Option.some.inj h25
          obtain rfl := (hout4 _ rfl)
          have h20 := h
          obtain rfl := Option.some.inj h20
          exact ⟨(Value.int .i64 (80)), (res1 rfl rfl), _, [], (((le1.trans le547).trans le682).trans le726), (I871).drop, rfl, rfl⟩
         ·
          refine wp_cond_f (b := !x66) q928 hc56 ?_
          refine wp_skip' ?_
          refine wp_region' ?_
          refine wl_op rfl (op_move (v := (Value.int .i64 ((i5 : Int)))) rfl e260 ?_)
          refine wl_op rfl (op_add (a := (i5 : Int)) (b := 1) rfl rfl rfl ?_)
          refine wl_op rfl (op_assign (v := (Value.int .i64 (w64 ((i5 : Int) + 1)))) rfl rfl ?_)
          refine wl_nil ?_
          obtain rfl := Option.some.inj h24
          exact ⟨_, rfl, _, (le682.trans le726), I871, e257, e258, e259, (idx_next hlt5 hk5)⟩
      ·
       rintro s9 f w hs4 hI713
       obtain ⟨S727, le727, I872, e261, e262, e263, e264⟩ := hI713
       refine wp_seq' ?_
       refine wp_seq' ?_
       refine wp_region' ?_
       refine wl_op rfl (op_move (v := (Value.int .i64 ((x52.When.length : Int)))) rfl e264 ?_)
       refine wl_op rfl (op_fieldAddr (v := (Value.pointer (some ⟨g5, 0, none⟩))) rfl fa33_1 e263 rfl ?_)
       refine wl_op rfl (op_load1 (c := (Value.slice z21 m21 k21)) rfl sh31 (I872.nth 0 rfl) rfl rfl ?_)
       refine wl_op rfl (op_len_rv rfl Try.underlying31 rfl (r5.mono le727) ?_)
       refine wl_op rfl (op_lss (a := (x52.When.length : Int)) (b := (x52.When.length : Int)) rfl rfl rfl ?_)
       refine wl_nil ?_
       refine wp_cond_f (b := decide ((x52.When.length : Int) < (x52.When.length : Int))) rfl (len_f _) ?_
       refine wp_exit' ?_
       exact ⟨s9, hs4, _, le727, I872, e261, e262, e263⟩
     ·
      rintro f w ⟨out5, rfl, S728, le728, I873, e265, e266, e267⟩
      have h19 := onL_inl h19
      refine wp_region' ?_
      refine wl_op rfl (op_move (v := (Value.int .i64 ((i4 : Int)))) rfl e266 ?_)
      refine wl_op rfl (op_add (a := (i4 : Int)) (b := 1) rfl rfl rfl ?_)
      refine wl_op rfl (op_assign (v := (Value.int .i64 (w64 ((i4 : Int) + 1)))) rfl rfl ?_)
      refine wl_nil ?_
      obtain rfl := Option.some.inj h19
      exact ⟨_, rfl, _, (le547.trans le728), (I873).drop, e265, (idx_next hlt4 hk4)⟩
   ·
    rintro s10 f w hs5 hI714
    obtain ⟨S729, le729, I874, e268, e269⟩ := hI714
    refine wp_seq' ?_
    refine wp_seq' ?_
    refine wp_region' ?_
    refine wl_op rfl (op_move (v := (Value.int .i64 ((a0.Doors.length : Int)))) rfl e269 ?_)
    refine wl_op rfl (op_fieldAddr_t (v := (Value.pointer (some ⟨g1, 0, none⟩))) rfl fa24_1 e268 ((p1.mono le729).at_ I874) ?_)
    refine wl_op rfl (op_load (v := (fieldPtr (Value.pointer (some ⟨g1, 0, none⟩)) 1)) (e := a0.Doors) rfl sh22 rfl (((p1.mono le729).at_ I874).fld Panel.fld1) (fun u22 hu22 => ?_))
    obtain ⟨z23, m23, k23, e271⟩ := rv_form hu22
    subst e271
    refine wl_op rfl (op_len_rv rfl Try.underlying22 rfl hu22 ?_)
    refine wl_op rfl (op_lss (a := (a0.Doors.length : Int)) (b := (a0.Doors.length : Int)) rfl rfl rfl ?_)
    refine wl_nil ?_
    refine wp_cond_f (b := decide ((a0.Doors.length : Int) < (a0.Doors.length : Int))) rfl (len_f _) ?_
    refine wp_exit' ?_
    exact ⟨s10, hs5, _, le729, I874, e268⟩
  ·
   rintro f w ⟨out4, rfl, S730, le730, I875, e272⟩
   have h := onL_inl h
   refine wp_seq' ?_
   refine wp_region' ?_
   refine wl_op rfl (op_assign (v := (Value.int .i64 (0))) rfl rfl ?_)
   refine wl_nil ?_
   refine wp_ret' ?_
   obtain rfl := Option.some.inj h
   exact ⟨(Value.int .i64 (0)), (res1 rfl rfl), _, [], (le1.trans le730), I875, rfl, rfl⟩

set_option maxHeartbeats 4000000 in
set_option maxRecDepth 100000 in
theorem F18_ok {w : World} {S : PH} {Fr : List HP} {a0 : (List Signal)} {v0 : Value} {a1 : Int} {a2 : (List Int)} {v2 : Value} {r : (List Signal)} (hI : Inv w S (Fr)) (h0_ : RV S v0 a0) (h2_ : RV S v2 a2) (h : F18 a0 a1 a2 = some r) :
    Calls Try.prog 18 [v0, (Value.int .i64 (a1)), v2].toArray w (Done S Fr (fun T_ v_ O_ => ∃ (a0_ : Option Addr) (n0_ k0_ : Nat), v_ = (Value.slice a0_ n0_ k0_) ∧ O_ = [Row (α := Signal) 46 (Value.slice a0_ n0_ k0_) (r)])) := by
 unfold F18 at h
 obtain ⟨z1, m1, k1, e1⟩ := rv_form h0_
 subst e1
 obtain ⟨z2, m2, k2, e2⟩ := rv_form h2_
 subst e2
 refine calls_enter (n := 27) (vs := [(Value.slice z1 m1 k1), (Value.int .i64 (a1)), (Value.slice z2 m2 k2)]) Try.func18 rfl rfl rfl ?_
 refine wp_seq' ?_
 refine wp_region' ?_
 refine wl_op rfl (op_assign (v := (Value.slice none 0 0)) rfl rfl ?_)
 refine wl_nil ?_
 refine wp_seq' ?_
 refine wp_region' ?_
 refine wl_op rfl (op_move (v := (Value.slice z1 m1 k1)) rfl rfl ?_)
 have I1 := Inv.rowNil (α := Signal) (T := 46) hI
 obtain ⟨x1, hx1, h⟩ := bnd h
 refine wl_op rfl (op_append (α := Signal) (v := (Value.slice none 0 0)) (u := (Value.slice z1 m1 k1)) rfl rfl Try.underlying25 el46 (by decide) (by decide) rfl rfl I1 (h0_.src I1.in_) hx1 (fun u1 w1 I2 => ?_))
 obtain ⟨z3, m3, k3, e3⟩ := row_form I2
 subst e3
 refine wl_op rfl (op_assign (v := (Value.slice z3 m3 k3)) rfl rfl ?_)
 refine wl_nil ?_
 refine wp_seq' ?_
 refine wp_seq' ?_
 refine wp_region' ?_
 refine wl_op rfl (op_assign (v := (Value.int .i64 (0))) rfl rfl ?_)
 refine wl_nil ?_
 have hk1 : a2.length ≤ 9223372036854775807 := (rv_len h2_)
 obtain ⟨out1, hrun1, h⟩ := bnd h
 refine wp_cutN (fun f w => ∃ (z13 : Option Addr) (m13 k13 : Nat), Inv w S (Row (α := Signal) 46 (Value.slice z13 m13 k13) (out1) :: Fr) ∧ f 1 = (Value.int .i64 (a1)) ∧ f 2 = (Value.slice z2 m2 k2) ∧ f 7 = (Value.slice z13 m13 k13)) ?_ ?_
 ·
  refine wp_block' ?_
  refine wp_forS (I := fun (i1 : Nat) (s1 : (List Signal)) (f : Frm) (w : World) => ∃ (z12 : Option Addr) (m12 k12 : Nat), Inv w S (Row (α := Signal) 46 (Value.slice z12 m12 k12) (s1) :: Fr) ∧ f 1 = (Value.int .i64 (a1)) ∧ f 2 = (Value.slice z2 m2 k2) ∧ f 7 = (Value.slice z12 m12 k12) ∧ f 8 = (Value.int .i64 (i1 : Int))) hrun1 ⟨_, _, _, I2, rfl, rfl, rfl, rfl⟩ ?_ ?_
  ·
   rintro i1 s1 f w o1 hlt1 hI1 h1
   obtain ⟨z12, m12, k12, I12, e22, e23, e24, e25⟩ := hI1
   refine wp_seq' ?_
   refine wp_seq' ?_
   refine wp_region' ?_
   refine wl_op rfl (op_move (v := (Value.int .i64 ((i1 : Int)))) rfl e25 ?_)
   refine wl_op rfl (op_move (v := (Value.slice z2 m2 k2)) rfl e23 ?_)
   refine wl_op rfl (op_len_rv rfl Try.underlying34 rfl h2_ ?_)
   refine wl_op rfl (op_lss (a := (i1 : Int)) (b := (a2.length : Int)) rfl rfl rfl ?_)
   refine wl_nil ?_
   refine wp_cond_t (b := decide ((i1 : Int) < (a2.length : Int))) rfl (len_t hlt1) ?_
   refine wp_skip' ?_
   refine wp_seq' ?_
   refine wp_block' ?_
   refine wp_region' ?_
   refine wl_op rfl (op_move (v := (Value.slice z12 m12 k12)) rfl e24 ?_)
   refine wl_op rfl (op_move (v := (Value.slice z2 m2 k2)) rfl e23 ?_)
   refine wl_op rfl (op_move (v := (Value.int .i64 ((i1 : Int)))) rfl e25 ?_)
   obtain ⟨x8, hx8, h1⟩ := bnd h1
   refine wl_op rfl (op_indexAddr_rv (v := (Value.slice z2 m2 k2)) (i := (i1 : Int)) (e := x8) rfl Try.underlying34 sh3 rfl h2_ rfl hx8 ?_)
   refine wl_op rfl (op_load_int (v := (elemPtr (Value.slice z2 m2 k2) ((i1 : Int)) (Enc.sz Int))) (e := x8) rfl sh3 rfl (h2_.elem I12.in_ hx8) ?_)
   refine wl_op rfl (op_move (v := (Value.int .i64 (a1))) rfl e22 ?_)
   refine wl_op rfl (op_build (qs := [(0, #[(Value.int .i64 (x8))]), (1, #[(Value.int .i64 (3))]), (2, #[(Value.int .i64 (a1))])]) (c := #[(Value.int .i64 (x8)), (Value.int .i64 (3)), (Value.int .i64 (a1)), (Value.int .i64 (0))]) rfl st46 ⟨rfl, rfl, ⟨rfl, rfl, ⟨rfl, rfl, trivial⟩⟩⟩ rfl ?_)
   refine wl_op rfl (op_buildSlice (vs := [(Value.agg #[(Value.int .i64 (x8)), (Value.int .i64 (3)), (Value.int .i64 (a1)), (Value.int .i64 (0))])]) (r := ([(⟨x8, 3, a1, 0⟩ : Signal)] : List Signal)) rfl Try.underlying25 el46 (parts1 rfl) rfl (by decide) (by decide) ⟨(Signal.rv (s := (⟨x8, 3, a1, 0⟩ : Signal))), trivial⟩ I12 (fun u8 w8 I13 => ?_))
   obtain ⟨z14, m14, k14, e26⟩ := row_form I13
   subst e26
   obtain ⟨x9, hx9, h1⟩ := bnd h1
   refine wl_op rfl (op_append (α := Signal) (v := (Value.slice z12 m12 k12)) (u := (Value.slice z14 m14 k14)) rfl rfl Try.underlying25 el46 (by decide) (by decide) rfl rfl (I13.pull 1) (Inv.rowSrc (I13.nth 0 rfl)) hx9 (fun u9 w9 I14 => ?_))
   obtain ⟨z15, m15, k15, e27⟩ := row_form I14
   subst e27
   refine wl_op rfl (op_assign (v := (Value.slice z15 m15 k15)) rfl rfl ?_)
   refine wl_nil ?_
   refine wp_region' ?_
   refine wl_op rfl (op_move (v := (Value.int .i64 ((i1 : Int)))) rfl e25 ?_)
   refine wl_op rfl (op_add (a := (i1 : Int)) (b := 1) rfl rfl rfl ?_)
   refine wl_op rfl (op_assign (v := (Value.int .i64 (w64 ((i1 : Int) + 1)))) rfl rfl ?_)
   refine wl_nil ?_
   obtain rfl := Option.some.inj h1
   exact ⟨_, _, _, (I14.pull 1).drop, e22, e23, rfl, (idx_next hlt1 hk1)⟩
  ·
   rintro f w hI2
   obtain ⟨z16, m16, k16, I15, e28, e29, e30, e31⟩ := hI2
   refine wp_seq' ?_
   refine wp_seq' ?_
   refine wp_region' ?_
   refine wl_op rfl (op_move (v := (Value.int .i64 ((a2.length : Int)))) rfl e31 ?_)
   refine wl_op rfl (op_move (v := (Value.slice z2 m2 k2)) rfl e29 ?_)
   refine wl_op rfl (op_len_rv rfl Try.underlying34 rfl h2_ ?_)
   refine wl_op rfl (op_lss (a := (a2.length : Int)) (b := (a2.length : Int)) rfl rfl rfl ?_)
   refine wl_nil ?_
   refine wp_cond_f (b := decide ((a2.length : Int) < (a2.length : Int))) rfl (len_f _) ?_
   refine wp_exit' ?_
   exact ⟨_, _, _, I15, e28, e29, e30⟩
 ·
  rintro f w ⟨z13, m13, k13, I16, e32, e33, e34⟩
  refine wp_seq' ?_
  refine wp_region' ?_
  refine wl_op rfl (op_move (v := (Value.slice z13 m13 k13)) rfl e34 ?_)
  refine wl_op rfl (op_assign (v := (Value.slice z13 m13 k13)) rfl rfl ?_)
  refine wl_nil ?_
  refine wp_ret' ?_
  obtain rfl := Option.some.inj h
  exact ⟨(Value.slice z13 m13 k13), (res1 rfl rfl), _, [Row (α := Signal) 46 (Value.slice z13 m13 k13) (out1)], (PH.Le.refl _), I16, _, _, _, rfl, rfl⟩

set_option maxHeartbeats 4000000 in
set_option maxRecDepth 100000 in
theorem F19_ok {w : World} {S : PH} {Fr : List HP} {a0 : Int} {a1 : Int} {r : Bool} (hI : Inv w S (Fr))  (h : F19 a0 a1 = some r) :
    Calls Try.prog 19 [(Value.int .i64 (a0)), (Value.int .i64 (a1))].toArray w (DoneV S Fr (Value.bool (r))) := by
 unfold F19 at h
 refine calls_enter (n := 11) (vs := [(Value.int .i64 (a0)), (Value.int .i64 (a1))]) Try.func19 rfl rfl rfl ?_
 refine wp_seq' ?_
 refine wp_region' ?_
 refine wl_op rfl (op_assign (v := (Value.bool (false))) rfl rfl ?_)
 refine wl_nil ?_
 refine wp_seq' ?_
 refine wp_region' ?_
 refine wl_op rfl (op_move (v := (Value.int .i64 (a0))) rfl rfl ?_)
 refine wl_op rfl (op_move (v := (Value.int .i64 (a1))) rfl rfl ?_)
 refine wl_op rfl (op_toU (a := a1) rfl rfl Try.underlying3 Try.underlying63 ?_)
 refine wl_op rfl (op_shr (a := a0) (b := wu64 a1) rfl rfl rfl (wu64_nonneg _) ?_)
 refine wl_op rfl (op_and (a := shrI a0 (wu64 a1)) (b := 1) rfl rfl rfl ?_)
 refine wl_op rfl (op_eql (a := andI (shrI a0 (wu64 a1)) 1) (b := 1) rfl rfl rfl ?_)
 refine wl_op rfl (op_assign (v := (Value.bool ((andI (shrI a0 (wu64 a1)) 1) == 1))) rfl rfl ?_)
 refine wl_nil ?_
 refine wp_ret' ?_
 obtain rfl := Option.some.inj h
 exact ⟨(Value.bool ((andI (shrI a0 (wu64 a1)) 1) == 1)), (res1 rfl rfl), _, [], (PH.Le.refl _), hI, rfl, rfl⟩

set_option maxHeartbeats 4000000 in
set_option maxRecDepth 100000 in
theorem F29_ok {w : World} {S : PH} {Fr : List HP} {a0 : (List Int)} {v0 : Value} {a1 : (List Int)} {v1 : Value} {r : Bool} (hI : Inv w S (Fr)) (h0_ : RV S v0 a0) (h1_ : RV S v1 a1) (h : F29 a0 a1 = some r) :
    Calls Try.prog 29 [v0, v1].toArray w (DoneV S Fr (Value.bool (r))) := by
 unfold F29 at h
 obtain ⟨z1, m1, k1, e1⟩ := rv_form h0_
 subst e1
 obtain ⟨z2, m2, k2, e2⟩ := rv_form h1_
 subst e2
 refine calls_enter (n := 26) (vs := [(Value.slice z1 m1 k1), (Value.slice z2 m2 k2)]) Try.func29 rfl rfl rfl ?_
 refine wp_seq' ?_
 refine wp_region' ?_
 refine wl_op rfl (op_assign (v := (Value.bool (false))) rfl rfl ?_)
 refine wl_nil ?_
 refine wp_seq' ?_
 refine wp_seq' ?_
 refine wp_region' ?_
 refine wl_op rfl (op_move (v := (Value.slice z1 m1 k1)) rfl rfl ?_)
 refine wl_op rfl (op_len_rv rfl Try.underlying34 rfl h0_ ?_)
 refine wl_op rfl (op_move (v := (Value.slice z2 m2 k2)) rfl rfl ?_)
 refine wl_op rfl (op_len_rv rfl Try.underlying34 rfl h1_ ?_)
 refine wl_op rfl (op_neq (a := (a0.length : Int)) (b := (a1.length : Int)) rfl rfl rfl ?_)
 refine wl_nil ?_
 rcases ifs h with ⟨hc1, h⟩ | ⟨hc1, h⟩
 ·
  refine wp_cond_t (b := (a0.length : Int) != (a1.length : Int)) rfl hc1 ?_
  refine wp_seq' ?_
  refine wp_region' ?_
  refine wl_op rfl (op_assign (v := (Value.bool (false))) rfl rfl ?_)
  refine wl_nil ?_
  refine wp_ret' ?_
  obtain rfl := Option.some.inj h
  exact ⟨(Value.bool (false)), (res1 rfl rfl), _, [], (PH.Le.refl _), hI, rfl, rfl⟩
 ·
  refine wp_cond_f (b := (a0.length : Int) != (a1.length : Int)) rfl hc1 ?_
  refine wp_skip' ?_
  refine wp_seq' ?_
  refine wp_seq' ?_
  refine wp_region' ?_
  refine wl_op rfl (op_assign (v := (Value.int .i64 (0))) rfl rfl ?_)
  refine wl_nil ?_
  have hk1 : a0.length ≤ 9223372036854775807 := (rv_len h0_)
  obtain ⟨o2, hrun1, h⟩ := bnd h
  refine wp_cutN (fun f w => ∃ out1, o2 = Sum.inl out1 ∧ ∃ (S_ : PH), S.Le S_ ∧ Inv w S_ (Fr) ∧ f 0 = (Value.slice z1 m1 k1) ∧ f 1 = (Value.slice z2 m2 k2)) ?_ ?_
  ·
   refine wp_block' ?_
   refine wp_forN (I := fun (i1 : Nat) (s1 : Unit) (f : Frm) (w : World) => ∃ (S_ : PH), S.Le S_ ∧ Inv w S_ (Fr) ∧ f 0 = (Value.slice z1 m1 k1) ∧ f 1 = (Value.slice z2 m2 k2) ∧ f 5 = (Value.int .i64 (i1 : Int))) hrun1 ⟨_, (PH.Le.refl _), hI, rfl, rfl, rfl⟩ ?_ ?_
   ·
    rintro i1 s1 f w o1 hlt1 hI31 h1 hout1
    obtain ⟨S33, le33, I34, e21, e22, e23⟩ := hI31
    refine wp_seq' ?_
    refine wp_seq' ?_
    refine wp_region' ?_
    refine wl_op rfl (op_move (v := (Value.int .i64 ((i1 : Int)))) rfl e23 ?_)
    refine wl_op rfl (op_move (v := (Value.slice z1 m1 k1)) rfl e21 ?_)
    refine wl_op rfl (op_len_rv rfl Try.underlying34 rfl (h0_.mono le33) ?_)
    refine wl_op rfl (op_lss (a := (i1 : Int)) (b := (a0.length : Int)) rfl rfl rfl ?_)
    refine wl_nil ?_
    refine wp_cond_t (b := decide ((i1 : Int) < (a0.length : Int))) rfl (len_t hlt1) ?_
    refine wp_skip' ?_
    refine wp_seq' ?_
    refine wp_block' ?_
    refine wp_seq' ?_
    obtain ⟨x7, hx7, h1⟩ := bnd h1
    obtain ⟨x8, hx8, h1⟩ := bnd h1
    refine wp_draw (sps := [⟨some 17, [], [0], fun vs_ T_ => fr0 vs_ 0 = (Value.slice z1 m1 k1), [], [], [], fun _ h_ => h_⟩, ⟨some 18, [], [1], fun vs_ T_ => fr0 vs_ 0 = (Value.int .i64 ((i1 : Int))), [], [], [], fun _ h_ => h_⟩, ⟨some 19, [0, 1], [2], fun vs_ T_ => fr0 vs_ 0 = (elemPtr (Value.slice z1 m1 k1) ((i1 : Int)) (Enc.sz Int)), [], [], [], fun _ h_ => h_⟩, ⟨some 20, [0, 1, 2], [3], fun vs_ T_ => fr0 vs_ 0 = (Value.int .i64 (x7)), [], [], [], fun _ h_ => h_⟩, ⟨some 21, [], [4], fun vs_ T_ => fr0 vs_ 0 = (Value.slice z2 m2 k2), [], [], [], fun _ h_ => h_⟩, ⟨some 22, [], [5], fun vs_ T_ => fr0 vs_ 0 = (Value.int .i64 ((i1 : Int))), [], [], [], fun _ h_ => h_⟩, ⟨some 23, [4, 5], [6], fun vs_ T_ => fr0 vs_ 0 = (elemPtr (Value.slice z2 m2 k2) ((i1 : Int)) (Enc.sz Int)), [], [], [], fun _ h_ => h_⟩, ⟨some 24, [4, 5, 6], [7], fun vs_ T_ => fr0 vs_ 0 = (Value.int .i64 (x8)), [], [], [], fun _ h_ => h_⟩, ⟨some 25, [0, 1, 2, 3, 4, 5, 6, 7], [8], fun vs_ T_ => fr0 vs_ 0 = (Value.bool (x7 != x8)), [], [], [], fun _ h_ => h_⟩]) (tks := []) (O := Fr) rfl (by kernel_rfl) I34 ⟨?_, ?_, ?_, ?_, ?_, ?_, ?_, ?_, ?_, trivial⟩ ?_
    ·
     intro vs31 f w31 S34 X28 le34 hA28 hK31 hI32
     have I35 : Inv w31 S34 (X28) := hI32
     refine opg_plain rfl rfl (op_move (v := (Value.slice z1 m1 k1)) rfl ((hK31 0 (keep_of rfl)).trans e21) ?_)
     refine ⟨_, _, rfl, PH.Le.refl _, ?_, ?_⟩
     ·
      exact rfl
     ·
      exact I35
    ·
     intro vs32 f w32 S35 X29 le35 hA29 hK32 hI33
     have I36 : Inv w32 S35 (X29) := hI33
     refine opg_plain rfl rfl (op_move (v := (Value.int .i64 ((i1 : Int)))) rfl ((hK32 5 (keep_of rfl)).trans e23) ?_)
     refine ⟨_, _, rfl, PH.Le.refl _, ?_, ?_⟩
     ·
      exact rfl
     ·
      exact I36
    ·
     intro vs33 f w33 S36 X30 le36 hA30 hK33 hI34
     have I37 : Inv w33 S36 (X30) := hI34
     have q28 : f 17 = (Value.slice z1 m1 k1) := vt (hA30.at_ 0 rfl _ rfl) rfl
     have q29 : f 18 = (Value.int .i64 ((i1 : Int))) := vt (hA30.at_ 1 rfl _ rfl) rfl
     refine opg_plain rfl rfl (op_indexAddr_rv (v := (Value.slice z1 m1 k1)) (i := (i1 : Int)) (e := x7) rfl Try.underlying34 sh3 q28 (h0_.mono (le33.trans le36)) q29 hx7 ?_)
     refine ⟨_, _, rfl, PH.Le.refl _, ?_, ?_⟩
     ·
      exact rfl
     ·
      exact I37
    ·
     intro vs34 f w34 S37 X31 le37 hA31 hK34 hI35
     have I38 : Inv w34 S37 (X31) := hI35
     have q30 : f 19 = (elemPtr (Value.slice z1 m1 k1) ((i1 : Int)) (Enc.sz Int)) := vt (hA31.at_ 2 rfl _ rfl) rfl
     refine opg_plain rfl rfl (op_load_int (v := (elemPtr (Value.slice z1 m1 k1) ((i1 : Int)) (Enc.sz Int))) (e := x7) rfl sh3 q30 ((h0_.mono (le33.trans le37)).elem I38.in_ hx7) ?_)
     refine ⟨_, _, rfl, PH.Le.refl _, ?_, ?_⟩
     ·
      exact rfl
     ·
      exact I38
    ·
     intro vs35 f w35 S38 X32 le38 hA32 hK35 hI36
     have I39 : Inv w35 S38 (X32) := hI36
     refine opg_plain rfl rfl (op_move (v := (Value.slice z2 m2 k2)) rfl ((hK35 1 (keep_of rfl)).trans e22) ?_)
     refine ⟨_, _, rfl, PH.Le.refl _, ?_, ?_⟩
     ·
      exact rfl
     ·
      exact I39
    ·
     intro vs36 f w36 S39 X33 le39 hA33 hK36 hI37
     have I40 : Inv w36 S39 (X33) := hI37
     refine opg_plain rfl rfl (op_move (v := (Value.int .i64 ((i1 : Int)))) rfl ((hK36 5 (keep_of rfl)).trans e23) ?_)
     refine ⟨_, _, rfl, PH.Le.refl _, ?_, ?_⟩
     ·
      exact rfl
     ·
      exact I40
    ·
     intro vs37 f w37 S40 X34 le40 hA34 hK37 hI38
     have I41 : Inv w37 S40 (X34) := hI38
     have q31 : f 21 = (Value.slice z2 m2 k2) := vt (hA34.at_ 0 rfl _ rfl) rfl
     have q32 : f 22 = (Value.int .i64 ((i1 : Int))) := vt (hA34.at_ 1 rfl _ rfl) rfl
     refine opg_plain rfl rfl (op_indexAddr_rv (v := (Value.slice z2 m2 k2)) (i := (i1 : Int)) (e := x8) rfl Try.underlying34 sh3 q31 (h1_.mono (le33.trans le40)) q32 hx8 ?_)
     refine ⟨_, _, rfl, PH.Le.refl _, ?_, ?_⟩
     ·
      exact rfl
     ·
      exact I41
    ·
     intro vs38 f w38 S41 X35 le41 hA35 hK38 hI39
     have I42 : Inv w38 S41 (X35) := hI39
     have q33 : f 23 = (elemPtr (Value.slice z2 m2 k2) ((i1 : Int)) (Enc.sz Int)) := vt (hA35.at_ 2 rfl _ rfl) rfl
     refine opg_plain rfl rfl (op_load_int (v := (elemPtr (Value.slice z2 m2 k2) ((i1 : Int)) (Enc.sz Int))) (e := x8) rfl sh3 q33 ((h1_.mono (le33.trans le41)).elem I42.in_ hx8) ?_)
     refine ⟨_, _, rfl, PH.Le.refl _, ?_, ?_⟩
     ·
      exact rfl
     ·
      exact I42
    ·
     intro vs39 f w39 S42 X36 le42 hA36 hK39 hI40
     have I43 : Inv w39 S42 (X36) := hI40
     have q34 : f 20 = (Value.int .i64 (x7)) := vt (hA36.at_ 3 rfl _ rfl) rfl
     have q35 : f 24 = (Value.int .i64 (x8)) := vt (hA36.at_ 7 rfl _ rfl) rfl
     refine opg_plain rfl rfl (op_neq (a := x7) (b := x8) rfl q34 q35 ?_)
     refine ⟨_, _, rfl, PH.Le.refl _, ?_, ?_⟩
     ·
      exact rfl
     ·
      exact I43
    ·
     intro vs40 f w40 S43 le43 hF4 hK40 hI41
     have e24 : f 0 = (Value.slice z1 m1 k1) := (hK40 0 (keep_all rfl)).trans e21
     have e25 : f 1 = (Value.slice z2 m2 k2) := (hK40 1 (keep_all rfl)).trans e22
     have e26 : f 5 = (Value.int .i64 ((i1 : Int))) := (hK40 5 (keep_all rfl)).trans e23
     have I44 : Inv w40 S43 (Fr) := hI41
     have q36 : f 25 = (Value.bool (x7 != x8)) := vt (hF4.at_ 8 rfl _ rfl) rfl
     rcases ifs h1 with ⟨hc5, h1⟩ | ⟨hc5, h1⟩
     ·
      refine wp_cond_t (b := x7 != x8) q36 hc5 ?_
      refine wp_seq' ?_
      refine wp_region' ?_
      refine wl_op rfl (op_assign (v := (Value.bool (false))) rfl rfl ?_)
      refine wl_nil ?_
      refine wp_ret' ?_
      obtain rfl := Option.some.inj h1
      obtain rfl := (hout1 _ rfl)
      have h2 := h
      obtain rfl := Option.some.inj h2
      exact ⟨(Value.bool (false)), (res1 rfl rfl), _, [], (le33.trans le43), I44, rfl, rfl⟩
     ·
      refine wp_cond_f (b := x7 != x8) q36 hc5 ?_
      refine wp_skip' ?_
      refine wp_region' ?_
      refine wl_op rfl (op_move (v := (Value.int .i64 ((i1 : Int)))) rfl e26 ?_)
      refine wl_op rfl (op_add (a := (i1 : Int)) (b := 1) rfl rfl rfl ?_)
      refine wl_op rfl (op_assign (v := (Value.int .i64 (w64 ((i1 : Int) + 1)))) rfl rfl ?_)
      refine wl_nil ?_
      obtain rfl := Option.some.inj h1
      exact ⟨_, rfl, _, (le33.trans le43), I44, e24, e25, (idx_next hlt1 hk1)⟩
   ·
    rintro s2 f w hs1 hI42
    obtain ⟨S44, le44, I45, e27, e28, e29⟩ := hI42
    refine wp_seq' ?_
    refine wp_seq' ?_
    refine wp_region' ?_
    refine wl_op rfl (op_move (v := (Value.int .i64 ((a0.length : Int)))) rfl e29 ?_)
    refine wl_op rfl (op_move (v := (Value.slice z1 m1 k1)) rfl e27 ?_)
    refine wl_op rfl (op_len_rv rfl Try.underlying34 rfl (h0_.mono le44) ?_)
    refine wl_op rfl (op_lss (a := (a0.length : Int)) (b := (a0.length : Int)) rfl rfl rfl ?_)
    refine wl_nil ?_
    refine wp_cond_f (b := decide ((a0.length : Int) < (a0.length : Int))) rfl (len_f _) ?_
    refine wp_exit' ?_
    exact ⟨s2, hs1, _, le44, I45, e27, e28⟩
  ·
   rintro f w ⟨out1, rfl, S45, le45, I46, e30, e31⟩
   have h := onL_inl h
   refine wp_seq' ?_
   refine wp_region' ?_
   refine wl_op rfl (op_assign (v := (Value.bool (true))) rfl rfl ?_)
   refine wl_nil ?_
   refine wp_ret' ?_
   obtain rfl := Option.some.inj h
   exact ⟨(Value.bool (true)), (res1 rfl rfl), _, [], le45, I46, rfl, rfl⟩

set_option maxHeartbeats 4000000 in
set_option maxRecDepth 100000 in
theorem F44_ok {w : World} {S : PH} {Fr : List HP}  {r : Panel} (hI : Inv w S (Fr))  (h : F44  = some r) :
    Calls Try.prog 44 [].toArray w (Done S Fr (fun T_ v_ O_ => ∃ (c0_ : Value), v_ = c0_ ∧ O_ = [] ∧ RV T_ c0_ r)) := by
 unfold F44 at h
 refine calls_enter (n := 7) (vs := []) Try.func44 rfl rfl rfl ?_
 refine wp_seq' ?_
 refine wp_region' ?_
 refine wl_op rfl (op_alloc (z := (Value.agg #[(Value.int .i64 (0)), (Value.slice none 0 0), (Value.int .i64 (0)), (Value.int .i64 (0))])) rfl hI zo24 (fun g1 w1 (I1 : Inv w1 S (Cells g1 24 #[(Value.int .i64 (0)), (Value.slice none 0 0), (Value.int .i64 (0)), (Value.int .i64 (0))] :: Fr)) => ?_))
 refine wl_nil ?_
 refine wp_seq' ?_
 refine wp_region' ?_
 refine wl_op rfl (op_build (qs := [(1, #[(Value.int .i64 (1))])]) (c := #[(Value.int .i64 (0)), (Value.int .i64 (1)), (Value.bool (false))]) rfl st44 ⟨rfl, rfl, trivial⟩ rfl ?_)
 refine wl_op rfl (op_buildSlice (vs := [(Value.agg #[(Value.int .i64 (0)), (Value.int .i64 (1)), (Value.bool (false))])]) (r := ([(⟨0, 1, false⟩ : Sense)] : List Sense)) rfl Try.underlying31 el44 (parts1 rfl) rfl (by decide) (by decide) ⟨(Sense.rv (s := (⟨0, 1, false⟩ : Sense))), trivial⟩ I1 (fun u1 w2 I2 => ?_))
 obtain ⟨z1, m1, k1, e1⟩ := row_form I2
 subst e1
 refine wl_op rfl (op_build (qs := [(0, #[(Value.int .i64 (3))]), (1, #[(Value.slice z1 m1 k1)])]) (c := #[(Value.int .i64 (3)), (Value.slice z1 m1 k1)]) rfl st33 ⟨rfl, rfl, ⟨rfl, rfl, trivial⟩⟩ rfl ?_)
 refine wl_op rfl (op_build (qs := [(0, #[(Value.int .i64 (1))])]) (c := #[(Value.int .i64 (1)), (Value.slice none 0 0)]) rfl st33 ⟨rfl, rfl, trivial⟩ rfl ?_)
 obtain ⟨S1, le1, I3, r1⟩ := Inv.rowFreeze I2
 refine wl_op rfl (op_buildSlice (vs := [(Value.agg #[(Value.int .i64 (3)), (Value.slice z1 m1 k1)]), (Value.agg #[(Value.int .i64 (1)), (Value.slice none 0 0)])]) (r := ([(⟨3, ([(⟨0, 1, false⟩ : Sense)] : List Sense)⟩ : Gate), (⟨1, ([] : (List Sense))⟩ : Gate)] : List Gate)) rfl Try.underlying22 el33 (parts2 rfl rfl) rfl (by decide) (by decide) ⟨(Gate.rv (s := (⟨3, ([(⟨0, 1, false⟩ : Sense)] : List Sense)⟩ : Gate)) r1), ⟨(Gate.rv (s := (⟨1, ([] : (List Sense))⟩ : Gate)) rv_nil), trivial⟩⟩ I3 (fun u2 w3 I4 => ?_))
 obtain ⟨z2, m2, k2, e2⟩ := row_form I4
 subst e2
 refine wl_op rfl (op_build (qs := [(0, #[(Value.int .i64 (2))]), (1, #[(Value.slice z2 m2 k2)]), (2, #[(Value.int .i64 (2))]), (3, #[(Value.int .i64 (8))])]) (c := #[(Value.int .i64 (2)), (Value.slice z2 m2 k2), (Value.int .i64 (2)), (Value.int .i64 (8))]) rfl st24 ⟨rfl, rfl, ⟨rfl, rfl, ⟨rfl, rfl, ⟨rfl, rfl, trivial⟩⟩⟩⟩ rfl ?_)
 refine wl_op rfl (op_store (v := (Value.agg #[(Value.int .i64 (2)), (Value.slice z2 m2 k2), (Value.int .i64 (2)), (Value.int .i64 (8))])) (cs := #[(Value.int .i64 (0)), (Value.slice none 0 0), (Value.int .i64 (0)), (Value.int .i64 (0))]) sh24 (I4.pull 1) rfl rfl rfl (Nat.le_of_ble_eq_true rfl) rfl (fun w4 (I5 : Inv w4 S1 (Cells g1 24 #[(Value.int .i64 (2)), (Value.slice z2 m2 k2), (Value.int .i64 (2)), (Value.int .i64 (8))] :: Row (α := Gate) 33 (Value.slice z2 m2 k2) (([(⟨3, ([(⟨0, 1, false⟩ : Sense)] : List Sense)⟩ : Gate), (⟨1, ([] : (List Sense))⟩ : Gate)] : List Gate)) :: Fr)) => ?_))
 refine wl_nil ?_
 refine wp_ret' ?_
 obtain ⟨S2, le2, I6, r2⟩ := Inv.rowFreeze (I5.pull 1)
 obtain rfl := Option.some.inj h
 exact ⟨(Value.agg #[(Value.int .i64 (2)), (Value.slice z2 m2 k2), (Value.int .i64 (2)), (Value.int .i64 (8))]), (resC (cs := #[(Value.int .i64 (2)), (Value.slice z2 m2 k2), (Value.int .i64 (2)), (Value.int .i64 (8))]) rfl rfl sh24 I5), _, [], (le1.trans le2), (I6).drop, _, rfl, rfl, (Panel.rv (s := (⟨2, ([(⟨3, ([(⟨0, 1, false⟩ : Sense)] : List Sense)⟩ : Gate), (⟨1, ([] : (List Sense))⟩ : Gate)] : List Gate), 2, 8⟩ : Panel)) r2)⟩

set_option maxHeartbeats 4000000 in
set_option maxRecDepth 100000 in
theorem F20_ok {w : World} {S : PH} {Fr : List HP} {a0 : Int} {r : Bool} (hI : Inv w S (Fr))  (h : F20 a0 = some r) :
    Calls Try.prog 20 [(Value.int .i64 (a0))].toArray w (DoneV S Fr (Value.bool (r))) := by
 unfold F20 at h
 refine calls_enter (n := 9) (vs := [(Value.int .i64 (a0))]) Try.func20 rfl rfl rfl ?_
 refine wp_seq' ?_
 refine wp_region' ?_
 refine wl_op rfl (op_assign (v := (Value.bool (false))) rfl rfl ?_)
 refine wl_nil ?_
 refine wp_seq' ?_
 refine wp_region' ?_
 refine wl_op rfl (op_move (v := (Value.int .i64 (a0))) rfl rfl ?_)
 refine wl_op rfl (op_gtr (a := a0) (b := 60) rfl rfl rfl ?_)
 refine wl_op rfl (op_move (v := (Value.bool (decide (60 < a0)))) rfl rfl ?_)
 rcases ifs h with ⟨hc1, h⟩ | ⟨hc1, h⟩
 ·
  refine wl_taken (c := decide (60 < a0)) rfl rfl rfl rfl hc1 (op_move (v := (Value.int .i64 (a0))) rfl rfl ?_)
  refine wl_taken (c := decide (60 < a0)) rfl rfl rfl rfl hc1 (op_leq (a := a0) (b := 1000) rfl rfl rfl ?_)
  refine wl_op rfl (op_pick_t (c := decide (60 < a0)) (a := (Value.bool (decide (a0 ≤ 1000)))) rfl rfl hc1 rfl ?_)
  refine wl_op rfl (op_assign (v := (Value.bool (decide (a0 ≤ 1000)))) rfl rfl ?_)
  refine wl_nil ?_
  refine wp_ret' ?_
  obtain rfl := Option.some.inj h
  exact ⟨(Value.bool (decide (a0 ≤ 1000))), (res1 rfl rfl), _, [], (PH.Le.refl _), hI, rfl, rfl⟩
 ·
  refine wl_skip (c := decide (60 < a0)) rfl rfl rfl rfl hc1 rfl ?_
  refine wl_skip (c := decide (60 < a0)) rfl rfl rfl rfl hc1 rfl ?_
  refine wl_op rfl (op_pick_f (c := decide (60 < a0)) (b := (Value.bool (false))) rfl rfl hc1 rfl ?_)
  refine wl_op rfl (op_assign (v := (Value.bool (false))) rfl rfl ?_)
  refine wl_nil ?_
  refine wp_ret' ?_
  obtain rfl := Option.some.inj h
  exact ⟨(Value.bool (false)), (res1 rfl rfl), _, [], (PH.Le.refl _), hI, rfl, rfl⟩

set_option maxHeartbeats 4000000 in
set_option maxRecDepth 100000 in
theorem F33_ok {w : World} {S : PH} {Fr : List HP} {a0 : Int} {a1 : (List Signal)} {v1 : Value} {r : Bool} (hI : Inv w S (Fr)) (h1_ : RV S v1 a1) (h : F33 a0 a1 = some r) :
    Calls Try.prog 33 [(Value.int .i64 (a0)), v1].toArray w (DoneV S Fr (Value.bool (r))) := by
 unfold F33 at h
 obtain ⟨z1, m1, k1, e1⟩ := rv_form h1_
 subst e1
 refine calls_enter (n := 49) (vs := [(Value.int .i64 (a0)), (Value.slice z1 m1 k1)]) Try.func33 rfl rfl rfl ?_
 refine wp_seq' ?_
 refine wp_region' ?_
 refine wl_op rfl (op_assign (v := (Value.bool (false))) rfl rfl ?_)
 refine wl_nil ?_
 refine wp_seq' ?_
 refine wp_region' ?_
 refine wl_op rfl (op_assign (v := (Value.bool (true))) rfl rfl ?_)
 refine wl_nil ?_
 refine wp_seq' ?_
 refine wp_seq' ?_
 refine wp_region' ?_
 refine wl_op rfl (op_assign (v := (Value.int .i64 (0))) rfl rfl ?_)
 refine wl_nil ?_
 obtain ⟨out7, hrun7, h⟩ := bnd h
 refine wp_cutN (fun f w => Inv w S (Fr) ∧ f 0 = (Value.int .i64 (a0)) ∧ f 1 = (Value.slice z1 m1 k1) ∧ f 5 = (Value.bool (out7.1)) ∧ f 6 = (Value.int .i64 (out7.2))) ?_ ?_
 ·
  refine wp_block' ?_
  refine wp_whileO (I := fun (s7 : (Bool × Int)) (f : Frm) (w : World) => Inv w S (Fr) ∧ f 0 = (Value.int .i64 (a0)) ∧ f 1 = (Value.slice z1 m1 k1) ∧ f 5 = (Value.bool (s7.1)) ∧ f 6 = (Value.int .i64 (s7.2))) hrun7 ⟨hI, rfl, rfl, rfl, rfl⟩ ?_
  rintro s7 f w o7 hI13 h85 hout7
  obtain ⟨I67, e344, e345, e346, e347⟩ := hI13
  refine wp_seq' ?_
  refine wp_seq' ?_
  refine wp_region' ?_
  refine wl_op rfl (op_move (v := (Value.int .i64 (s7.2))) rfl e347 ?_)
  refine wl_op rfl (op_move (v := (Value.int .i64 (a0))) rfl e344 ?_)
  refine wl_op rfl (op_leq (a := s7.2) (b := a0) rfl rfl rfl ?_)
  refine wl_nil ?_
  rcases ifs h85 with ⟨hc127, h85⟩ | ⟨hc127, h85⟩
  ·
   refine wp_cond_t (b := decide (s7.2 ≤ a0)) rfl hc127 ?_
   refine wp_skip' ?_
   refine wp_seq' ?_
   refine wp_block' ?_
   refine wp_seq' ?_
   refine wp_region' ?_
   refine wl_op rfl (op_assign (v := (Value.int .i64 (0))) rfl rfl ?_)
   refine wl_nil ?_
   have hk7 : a1.length ≤ 9223372036854775807 := (rv_len h1_)
   obtain ⟨out8, hrun8, h85⟩ := bnd h85
   refine wp_cutN (fun f w => Inv w S (Fr) ∧ f 0 = (Value.int .i64 (a0)) ∧ f 1 = (Value.slice z1 m1 k1) ∧ f 5 = (Value.bool (out8)) ∧ f 6 = (Value.int .i64 (s7.2))) ?_ ?_
   ·
    refine wp_block' ?_
    refine wp_forS (I := fun (i7 : Nat) (s8 : (Bool)) (f : Frm) (w : World) => Inv w S (Fr) ∧ f 0 = (Value.int .i64 (a0)) ∧ f 1 = (Value.slice z1 m1 k1) ∧ f 5 = (Value.bool (s8)) ∧ f 6 = (Value.int .i64 (s7.2)) ∧ f 7 = (Value.int .i64 (i7 : Int))) hrun8 ⟨I67, e344, e345, e346, e347, rfl⟩ ?_ ?_
    ·
     rintro i7 s8 f w o8 hlt7 hI14 h96
     obtain ⟨I74, e381, e382, e383, e384, e385⟩ := hI14
     refine wp_seq' ?_
     refine wp_seq' ?_
     refine wp_region' ?_
     refine wl_op rfl (op_move (v := (Value.int .i64 ((i7 : Int)))) rfl e385 ?_)
     refine wl_op rfl (op_move (v := (Value.slice z1 m1 k1)) rfl e382 ?_)
     refine wl_op rfl (op_len_rv rfl Try.underlying25 rfl h1_ ?_)
     refine wl_op rfl (op_lss (a := (i7 : Int)) (b := (a1.length : Int)) rfl rfl rfl ?_)
     refine wl_nil ?_
     refine wp_cond_t (b := decide ((i7 : Int) < (a1.length : Int))) rfl (len_t hlt7) ?_
     refine wp_skip' ?_
     refine wp_seq' ?_
     refine wp_block' ?_
     obtain ⟨v28, h99, h96⟩ := bnd h96
     refine wp_cut (fun f w => Inv w S (Fr) ∧ f 0 = (Value.int .i64 (a0)) ∧ f 1 = (Value.slice z1 m1 k1) ∧ f 5 = (Value.bool (s8)) ∧ f 6 = (Value.int .i64 (s7.2)) ∧ f 7 = (Value.int .i64 ((i7 : Int))) ∧ f 41 = (Value.bool (v28))) ?_ ?_
     ·
      refine wp_region' ?_
      refine wl_op rfl (op_move (v := (Value.slice z1 m1 k1)) rfl e382 ?_)
      refine wl_op rfl (op_move (v := (Value.int .i64 ((i7 : Int)))) rfl e385 ?_)
      obtain ⟨x193, hx193, h99⟩ := bnd h99
      refine wl_op rfl (op_indexAddr_rv (v := (Value.slice z1 m1 k1)) (i := (i7 : Int)) (e := x193) rfl Try.underlying25 sh46 rfl h1_ rfl hx193 ?_)
      refine wl_op rfl (op_fieldAddr_t (v := (elemPtr (Value.slice z1 m1 k1) ((i7 : Int)) (Enc.sz Signal))) rfl fa46_0 rfl (h1_.elem I74.in_ hx193) ?_)
      refine wl_op rfl (op_load_int (v := (fieldPtr (elemPtr (Value.slice z1 m1 k1) ((i7 : Int)) (Enc.sz Signal)) 0)) (e := x193.At) rfl sh3 rfl ((h1_.elem I74.in_ hx193).fld Signal.fld0) ?_)
      refine wl_op rfl (op_move (v := (Value.int .i64 (s7.2))) rfl e384 ?_)
      refine wl_op rfl (op_eql (a := x193.At) (b := s7.2) rfl rfl rfl ?_)
      refine wl_op rfl (op_move (v := (Value.bool (x193.At == s7.2))) rfl rfl ?_)
      rcases ifs h99 with ⟨hc145, h99⟩ | ⟨hc145, h99⟩
      ·
       refine wl_taken (c := x193.At == s7.2) rfl rfl rfl rfl hc145 (op_move (v := (Value.slice z1 m1 k1)) rfl e382 ?_)
       refine wl_taken (c := x193.At == s7.2) rfl rfl rfl rfl hc145 (op_move (v := (Value.int .i64 ((i7 : Int)))) rfl e385 ?_)
       obtain ⟨x194, hx194, h99⟩ := bnd h99
       refine wl_taken (c := x193.At == s7.2) rfl rfl rfl rfl hc145 (op_indexAddr_rv (v := (Value.slice z1 m1 k1)) (i := (i7 : Int)) (e := x194) rfl Try.underlying25 sh46 rfl h1_ rfl hx194 ?_)
       refine wl_taken (c := x193.At == s7.2) rfl rfl rfl rfl hc145 (op_fieldAddr_t (v := (elemPtr (Value.slice z1 m1 k1) ((i7 : Int)) (Enc.sz Signal))) rfl fa46_1 rfl (h1_.elem I74.in_ hx194) ?_)
       refine wl_taken (c := x193.At == s7.2) rfl rfl rfl rfl hc145 (op_load_int (v := (fieldPtr (elemPtr (Value.slice z1 m1 k1) ((i7 : Int)) (Enc.sz Signal)) 1)) (e := x194.Kind) rfl sh3 rfl ((h1_.elem I74.in_ hx194).fld Signal.fld1) ?_)
       refine wl_taken (c := x193.At == s7.2) rfl rfl rfl rfl hc145 (op_eql (a := x194.Kind) (b := 4) rfl rfl rfl ?_)
       refine wl_taken (c := x193.At == s7.2) rfl rfl rfl rfl hc145 (op_move (v := (Value.bool (x194.Kind == 4))) rfl rfl ?_)
       rcases ifs h99 with ⟨hc146, h99⟩ | ⟨hc146, h99⟩
       ·
        refine wl_skip (c := x194.Kind == 4) rfl rfl rfl rfl hc146 rfl ?_
        refine wl_skip (c := x194.Kind == 4) rfl rfl rfl rfl hc146 rfl ?_
        refine wl_skip (c := x194.Kind == 4) rfl rfl rfl rfl hc146 rfl ?_
        refine wl_skip (c := x194.Kind == 4) rfl rfl rfl rfl hc146 rfl ?_
        refine wl_skip (c := x194.Kind == 4) rfl rfl rfl rfl hc146 rfl ?_
        refine wl_skip (c := x194.Kind == 4) rfl rfl rfl rfl hc146 rfl ?_
        refine wl_taken (c := x193.At == s7.2) rfl rfl rfl rfl hc145 (op_pick_t (c := x194.Kind == 4) (a := (Value.bool (true))) rfl rfl hc146 rfl ?_)
        refine wl_op rfl (op_pick_t (c := x193.At == s7.2) (a := (Value.bool (true))) rfl rfl hc145 rfl ?_)
        refine wl_nil ?_
        obtain rfl := Option.some.inj h99
        exact ⟨I74, e381, e382, e383, e384, e385, rfl⟩
       ·
        refine wl_taken (c := x194.Kind == 4) rfl rfl rfl rfl hc146 (op_move (v := (Value.slice z1 m1 k1)) rfl e382 ?_)
        refine wl_taken (c := x194.Kind == 4) rfl rfl rfl rfl hc146 (op_move (v := (Value.int .i64 ((i7 : Int)))) rfl e385 ?_)
        obtain ⟨x195, hx195, h99⟩ := bnd h99
        refine wl_taken (c := x194.Kind == 4) rfl rfl rfl rfl hc146 (op_indexAddr_rv (v := (Value.slice z1 m1 k1)) (i := (i7 : Int)) (e := x195) rfl Try.underlying25 sh46 rfl h1_ rfl hx195 ?_)
        refine wl_taken (c := x194.Kind == 4) rfl rfl rfl rfl hc146 (op_fieldAddr_t (v := (elemPtr (Value.slice z1 m1 k1) ((i7 : Int)) (Enc.sz Signal))) rfl fa46_1 rfl (h1_.elem I74.in_ hx195) ?_)
        refine wl_taken (c := x194.Kind == 4) rfl rfl rfl rfl hc146 (op_load_int (v := (fieldPtr (elemPtr (Value.slice z1 m1 k1) ((i7 : Int)) (Enc.sz Signal)) 1)) (e := x195.Kind) rfl sh3 rfl ((h1_.elem I74.in_ hx195).fld Signal.fld1) ?_)
        refine wl_taken (c := x194.Kind == 4) rfl rfl rfl rfl hc146 (op_eql (a := x195.Kind) (b := 5) rfl rfl rfl ?_)
        refine wl_taken (c := x193.At == s7.2) rfl rfl rfl rfl hc145 (op_pick_f (c := x194.Kind == 4) (b := (Value.bool (x195.Kind == 5))) rfl rfl hc146 rfl ?_)
        refine wl_op rfl (op_pick_t (c := x193.At == s7.2) (a := (Value.bool (x195.Kind == 5))) rfl rfl hc145 rfl ?_)
        refine wl_nil ?_
        obtain rfl := Option.some.inj h99
        exact ⟨I74, e381, e382, e383, e384, e385, rfl⟩
      ·
       refine wl_skip (c := x193.At == s7.2) rfl rfl rfl rfl hc145 rfl ?_
       refine wl_skip (c := x193.At == s7.2) rfl rfl rfl rfl hc145 rfl ?_
       refine wl_skip (c := x193.At == s7.2) rfl rfl rfl rfl hc145 rfl ?_
       refine wl_skip (c := x193.At == s7.2) rfl rfl rfl rfl hc145 rfl ?_
       refine wl_skip (c := x193.At == s7.2) rfl rfl rfl rfl hc145 rfl ?_
       refine wl_skip (c := x193.At == s7.2) rfl rfl rfl rfl hc145 rfl ?_
       refine wl_skip (c := x193.At == s7.2) rfl rfl rfl rfl hc145 rfl ?_
       refine wl_skip_u rfl rfl rfl rfl rfl ?_
       refine wl_skip_u rfl rfl rfl rfl rfl ?_
       refine wl_skip_u rfl rfl rfl rfl rfl ?_
       refine wl_skip_u rfl rfl rfl rfl rfl ?_
       refine wl_skip_u rfl rfl rfl rfl rfl ?_
       refine wl_skip_u rfl rfl rfl rfl rfl ?_
       refine wl_skip (c := x193.At == s7.2) rfl rfl rfl rfl hc145 rfl ?_
       refine wl_op rfl (op_pick_f (c := x193.At == s7.2) (b := (Value.bool (false))) rfl rfl hc145 rfl ?_)
       refine wl_nil ?_
       obtain rfl := Option.some.inj h99
       exact ⟨I74, e381, e382, e383, e384, e385, rfl⟩
     ·
      rintro f w ⟨I75, e386, e387, e388, e389, e390, e391⟩
      rcases ifs h96 with ⟨hc147, h96⟩ | ⟨hc147, h96⟩
      ·
       refine wp_cond_t (b := v28) e391 hc147 ?_
       refine wp_region' ?_
       refine wl_op rfl (op_move (v := (Value.slice z1 m1 k1)) rfl e387 ?_)
       refine wl_op rfl (op_move (v := (Value.int .i64 ((i7 : Int)))) rfl e390 ?_)
       obtain ⟨x196, hx196, h96⟩ := bnd h96
       refine wl_op rfl (op_indexAddr_rv (v := (Value.slice z1 m1 k1)) (i := (i7 : Int)) (e := x196) rfl Try.underlying25 sh46 rfl h1_ rfl hx196 ?_)
       refine wl_op rfl (op_fieldAddr_t (v := (elemPtr (Value.slice z1 m1 k1) ((i7 : Int)) (Enc.sz Signal))) rfl fa46_1 rfl (h1_.elem I75.in_ hx196) ?_)
       refine wl_op rfl (op_load_int (v := (fieldPtr (elemPtr (Value.slice z1 m1 k1) ((i7 : Int)) (Enc.sz Signal)) 1)) (e := x196.Kind) rfl sh3 rfl ((h1_.elem I75.in_ hx196).fld Signal.fld1) ?_)
       refine wl_op rfl (op_eql (a := x196.Kind) (b := 5) rfl rfl rfl ?_)
       refine wl_op rfl (op_assign (v := (Value.bool (x196.Kind == 5))) rfl rfl ?_)
       refine wl_nil ?_
       refine wp_region' ?_
       refine wl_op rfl (op_move (v := (Value.int .i64 ((i7 : Int)))) rfl e390 ?_)
       refine wl_op rfl (op_add (a := (i7 : Int)) (b := 1) rfl rfl rfl ?_)
       refine wl_op rfl (op_assign (v := (Value.int .i64 (w64 ((i7 : Int) + 1)))) rfl rfl ?_)
       refine wl_nil ?_
       obtain rfl := Option.some.inj h96
       exact ⟨I75, e386, e387, rfl, e389, (idx_next hlt7 hk7)⟩
      ·
       refine wp_cond_f (b := v28) e391 hc147 ?_
       refine wp_skip' ?_
       refine wp_region' ?_
       refine wl_op rfl (op_move (v := (Value.int .i64 ((i7 : Int)))) rfl e390 ?_)
       refine wl_op rfl (op_add (a := (i7 : Int)) (b := 1) rfl rfl rfl ?_)
       refine wl_op rfl (op_assign (v := (Value.int .i64 (w64 ((i7 : Int) + 1)))) rfl rfl ?_)
       refine wl_nil ?_
       obtain rfl := Option.some.inj h96
       exact ⟨I75, e386, e387, e388, e389, (idx_next hlt7 hk7)⟩
    ·
     rintro f w hI15
     obtain ⟨I76, e392, e393, e394, e395, e396⟩ := hI15
     refine wp_seq' ?_
     refine wp_seq' ?_
     refine wp_region' ?_
     refine wl_op rfl (op_move (v := (Value.int .i64 ((a1.length : Int)))) rfl e396 ?_)
     refine wl_op rfl (op_move (v := (Value.slice z1 m1 k1)) rfl e393 ?_)
     refine wl_op rfl (op_len_rv rfl Try.underlying25 rfl h1_ ?_)
     refine wl_op rfl (op_lss (a := (a1.length : Int)) (b := (a1.length : Int)) rfl rfl rfl ?_)
     refine wl_nil ?_
     refine wp_cond_f (b := decide ((a1.length : Int) < (a1.length : Int))) rfl (len_f _) ?_
     refine wp_exit' ?_
     exact ⟨I76, e392, e393, e394, e395⟩
   ·
    rintro f w ⟨I77, e397, e398, e399, e400⟩
    refine wp_region' ?_
    refine wl_op rfl (op_move (v := (Value.int .i64 (s7.2))) rfl e400 ?_)
    refine wl_op rfl (op_add (a := s7.2) (b := 1) rfl rfl rfl ?_)
    refine wl_op rfl (op_assign (v := (Value.int .i64 (w64 (s7.2 + 1)))) rfl rfl ?_)
    refine wl_nil ?_
    obtain rfl := Option.some.inj h85
    exact ⟨_, rfl, I77, e397, e398, e399, rfl⟩
  ·
   refine wp_cond_f (b := decide (s7.2 ≤ a0)) rfl hc127 ?_
   refine wp_exit' ?_
   obtain rfl := Option.some.inj h85
   obtain rfl := (hout7 _ rfl)
   exact ⟨I67, e344, e345, e346, e347⟩
 ·
  rintro f w ⟨I78, e401, e402, e403, e404⟩
  refine wp_seq' ?_
  refine wp_region' ?_
  refine wl_op rfl (op_move (v := (Value.bool (out7.1))) rfl e403 ?_)
  refine wl_op rfl (op_assign (v := (Value.bool (out7.1))) rfl rfl ?_)
  refine wl_nil ?_
  refine wp_ret' ?_
  obtain rfl := Option.some.inj h
  exact ⟨(Value.bool (out7.1)), (res1 rfl rfl), _, [], (PH.Le.refl _), I78, rfl, rfl⟩
end Go.Proofs.Ytfeomcdhhgeilaa.Pad
