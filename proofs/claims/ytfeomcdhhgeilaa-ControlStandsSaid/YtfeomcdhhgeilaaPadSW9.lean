/- A part of the proof: what the functions of the program compute, shown over the model. -/
import Derived.Test.YtfeomcdhhgeilaaPadSP
import Derived.Test.YtfeomcdhhgeilaaPadSW1
import Derived.KernelRfl
set_option linter.unusedVariables false
namespace Go.Proofs.Ytfeomcdhhgeilaa.Pad
open Go Go.Proofs
set_option maxHeartbeats 4000000 in
set_option maxRecDepth 100000 in
theorem F69_ok {w : World} {S : PH} {Fr : List HP} {a0 : Panel} {v0 : Value} {a1 : Int} {r : Int} (hI : Inv w S (Fr)) (h0_ : RV S v0 a0) (h : F69 a0 a1 = some r) :
    Calls Try.prog 69 [v0, (Value.int .i64 (a1))].toArray w (DoneV S Fr (Value.int .i64 (r))) := by
 unfold F69 at h
 obtain ⟨c1, e1, r1⟩ := Panel.inv h0_
 subst e1
 obtain ⟨z1, m1, k1, e2⟩ := rv_form r1
 subst e2
 refine calls_enter (n := 14) (vs := [(Value.agg #[(Value.int .i64 (a0.Sensors)), (Value.slice z1 m1 k1), (Value.int .i64 (a0.Stale)), (Value.int .i64 (a0.Limit))]), (Value.int .i64 (a1))]) Try.func69 rfl rfl rfl ?_
 refine wp_seq' ?_
 refine wp_region' ?_
 refine wl_op rfl (op_box (v := (Value.agg #[(Value.int .i64 (a0.Sensors)), (Value.slice z1 m1 k1), (Value.int .i64 (a0.Stale)), (Value.int .i64 (a0.Limit))])) rfl hI rfl (fun g1 w1 I1 => ?_))
 obtain ⟨S1, le1, I2, p1⟩ := Inv.boxFreeze (x := a0) I1 (Panel.rv (s := a0) r1)
 refine wl_op rfl (op_assign (v := (Value.int .i64 (0))) rfl rfl ?_)
 refine wl_nil ?_
 refine wp_seq' ?_
 refine wp_seq' ?_
 refine wp_region' ?_
 refine wl_op rfl (op_load (v := (Value.pointer (some ⟨g1, 0, none⟩))) (e := a0) rfl sh24 rfl (p1.at_ I2) (fun u1 hu1 => ?_))
 obtain ⟨c2, e3, r2⟩ := Panel.inv hu1
 subst e3
 obtain ⟨z2, m2, k2, e4⟩ := rv_form r2
 subst e4
 obtain ⟨x1, hx1, h⟩ := bnd h
 refine wl_op rfl (op_call_v (vs := [(Value.agg #[(Value.int .i64 (a0.Sensors)), (Value.slice z2 m2 k2), (Value.int .i64 (a0.Stale)), (Value.int .i64 (a0.Limit))])]) (r := (Value.int .i64 (x1))) rfl ca15 rfl (args1 rfl) I2 (fun Fr_ hF_ => F15_ok hF_ (Panel.rv (s := a0) r2) hx1) (fun w2 I3 => ?_))
 refine wl_op rfl (op_assign (v := (Value.int .i64 (x1))) rfl rfl ?_)
 refine wl_nil ?_
 refine wp_seq' ?_
 refine wp_region' ?_
 refine wl_op rfl (op_move (v := (Value.int .i64 (x1))) rfl rfl ?_)
 refine wl_op rfl (op_neq (a := x1) (b := 0) rfl rfl rfl ?_)
 refine wl_nil ?_
 rcases ifs h with ⟨hc1, h⟩ | ⟨hc1, h⟩
 ·
  refine wp_cond_t (b := x1 != 0) rfl hc1 ?_
  refine wp_seq' ?_
  refine wp_region' ?_
  refine wl_op rfl (op_move (v := (Value.int .i64 (x1))) rfl rfl ?_)
  refine wl_op rfl (op_assign (v := (Value.int .i64 (x1))) rfl rfl ?_)
  refine wl_nil ?_
  refine wp_ret' ?_
  obtain rfl := Option.some.inj h
  exact ⟨(Value.int .i64 (x1)), (res1 rfl rfl), _, [], le1, I3, rfl, rfl⟩
 ·
  refine wp_cond_f (b := x1 != 0) rfl hc1 ?_
  refine wp_skip' ?_
  refine wp_seq' ?_
  refine wp_seq' ?_
  refine wp_region' ?_
  refine wl_op rfl (op_move (v := (Value.int .i64 (a1))) rfl rfl ?_)
  obtain ⟨x2, hx2, h⟩ := bnd h
  refine wl_op rfl (op_call_v (vs := [(Value.int .i64 (a1)), (Value.int .i64 (0)), (Value.int .i64 (1000))]) (r := (Value.bool (x2))) rfl ca43 rfl (args3 rfl rfl rfl) I3 (fun Fr_ hF_ => F43_ok hF_  hx2) (fun w3 I4 => ?_))
  refine wl_op rfl (op_not (b := x2) rfl rfl ?_)
  refine wl_nil ?_
  rcases ifs h with ⟨hc2, h⟩ | ⟨hc2, h⟩
  ·
   refine wp_cond_t (b := !x2) rfl hc2 ?_
   refine wp_seq' ?_
   refine wp_region' ?_
   refine wl_op rfl (op_assign (v := (Value.int .i64 (1))) rfl rfl ?_)
   refine wl_nil ?_
   refine wp_ret' ?_
   obtain rfl := Option.some.inj h
   exact ⟨(Value.int .i64 (1)), (res1 rfl rfl), _, [], le1, I4, rfl, rfl⟩
  ·
   refine wp_cond_f (b := !x2) rfl hc2 ?_
   refine wp_skip' ?_
   refine wp_seq' ?_
   refine wp_region' ?_
   refine wl_op rfl (op_assign (v := (Value.int .i64 (0))) rfl rfl ?_)
   refine wl_nil ?_
   refine wp_ret' ?_
   obtain rfl := Option.some.inj h
   exact ⟨(Value.int .i64 (0)), (res1 rfl rfl), _, [], le1, I4, rfl, rfl⟩

set_option maxHeartbeats 4000000 in
set_option maxRecDepth 100000 in
theorem F51_ok {w : World} {S : PH} {Fr : List HP} {a0 : Panel} {v0 : Value} {a1 : Int} {a2 : (List Signal)} {v2 : Value} {r : Int} (hI : Inv w S (Fr)) (h0_ : RV S v0 a0) (h2_ : RV S v2 a2) (h : F51 a0 a1 a2 = some r) :
    Calls Try.prog 51 [v0, (Value.int .i64 (a1)), v2].toArray w (DoneV S Fr (Value.int .i64 (r))) := by
 unfold F51 at h
 obtain ⟨c1, e1, r1⟩ := Panel.inv h0_
 subst e1
 obtain ⟨z1, m1, k1, e2⟩ := rv_form r1
 subst e2
 obtain ⟨z2, m2, k2, e3⟩ := rv_form h2_
 subst e3
 refine calls_enter (n := 94) (vs := [(Value.agg #[(Value.int .i64 (a0.Sensors)), (Value.slice z1 m1 k1), (Value.int .i64 (a0.Stale)), (Value.int .i64 (a0.Limit))]), (Value.int .i64 (a1)), (Value.slice z2 m2 k2)]) Try.func51 rfl rfl rfl ?_
 refine wp_seq' ?_
 refine wp_region' ?_
 refine wl_op rfl (op_box (v := (Value.agg #[(Value.int .i64 (a0.Sensors)), (Value.slice z1 m1 k1), (Value.int .i64 (a0.Stale)), (Value.int .i64 (a0.Limit))])) rfl hI rfl (fun g1 w1 I1 => ?_))
 obtain ⟨S1, le1, I2, p1⟩ := Inv.boxFreeze (x := a0) I1 (Panel.rv (s := a0) r1)
 refine wl_op rfl (op_assign (v := (Value.int .i64 (0))) rfl rfl ?_)
 refine wl_nil ?_
 refine wp_seq' ?_
 refine wp_seq' ?_
 refine wp_region' ?_
 refine wl_op rfl (op_load (v := (Value.pointer (some ⟨g1, 0, none⟩))) (e := a0) rfl sh24 rfl (p1.at_ I2) (fun u1 hu1 => ?_))
 obtain ⟨c2, e4, r2⟩ := Panel.inv hu1
 subst e4
 obtain ⟨z3, m3, k3, e5⟩ := rv_form r2
 subst e5
 refine wl_op rfl (op_move (v := (Value.int .i64 (a1))) rfl rfl ?_)
 obtain ⟨x1, hx1, h⟩ := bnd h
 refine wl_op rfl (op_call_v (vs := [(Value.agg #[(Value.int .i64 (a0.Sensors)), (Value.slice z3 m3 k3), (Value.int .i64 (a0.Stale)), (Value.int .i64 (a0.Limit))]), (Value.int .i64 (a1))]) (r := (Value.int .i64 (x1))) rfl ca69 rfl (args2 rfl rfl) I2 (fun Fr_ hF_ => F69_ok hF_ (Panel.rv (s := a0) r2) hx1) (fun w2 I3 => ?_))
 refine wl_op rfl (op_assign (v := (Value.int .i64 (x1))) rfl rfl ?_)
 refine wl_nil ?_
 refine wp_seq' ?_
 refine wp_region' ?_
 refine wl_op rfl (op_move (v := (Value.int .i64 (x1))) rfl rfl ?_)
 refine wl_op rfl (op_neq (a := x1) (b := 0) rfl rfl rfl ?_)
 refine wl_nil ?_
 rcases ifs h with ⟨hc1, h⟩ | ⟨hc1, h⟩
 ·
  refine wp_cond_t (b := x1 != 0) rfl hc1 ?_
  refine wp_seq' ?_
  refine wp_region' ?_
  refine wl_op rfl (op_move (v := (Value.int .i64 (x1))) rfl rfl ?_)
  refine wl_op rfl (op_assign (v := (Value.int .i64 (x1))) rfl rfl ?_)
  refine wl_nil ?_
  refine wp_ret' ?_
  obtain rfl := Option.some.inj h
  exact ⟨(Value.int .i64 (x1)), (res1 rfl rfl), _, [], le1, I3, rfl, rfl⟩
 ·
  refine wp_cond_f (b := x1 != 0) rfl hc1 ?_
  refine wp_skip' ?_
  refine wp_seq' ?_
  refine wp_seq' ?_
  refine wp_region' ?_
  refine wl_op rfl (op_move (v := (Value.slice z2 m2 k2)) rfl rfl ?_)
  refine wl_op rfl (op_len_rv rfl Try.underlying25 rfl (h2_.mono le1) ?_)
  refine wl_op rfl (op_gtr (a := (a2.length : Int)) (b := 200) rfl rfl rfl ?_)
  refine wl_nil ?_
  rcases ifs h with ⟨hc2, h⟩ | ⟨hc2, h⟩
  ·
   refine wp_cond_t (b := decide (200 < (a2.length : Int))) rfl hc2 ?_
   refine wp_seq' ?_
   refine wp_region' ?_
   refine wl_op rfl (op_assign (v := (Value.int .i64 (81))) rfl rfl ?_)
   refine wl_nil ?_
   refine wp_ret' ?_
   obtain rfl := Option.some.inj h
   exact ⟨(Value.int .i64 (81)), (res1 rfl rfl), _, [], le1, I3, rfl, rfl⟩
  ·
   refine wp_cond_f (b := decide (200 < (a2.length : Int))) rfl hc2 ?_
   refine wp_skip' ?_
   refine wp_seq' ?_
   refine wp_seq' ?_
   refine wp_region' ?_
   refine wl_op rfl (op_assign (v := (Value.int .i64 (0))) rfl rfl ?_)
   refine wl_nil ?_
   have hk1 : a2.length ≤ 9223372036854775807 := (rv_len h2_)
   obtain ⟨o2, hrun1, h⟩ := bnd h
   refine wp_cutN (fun f w => ∃ out1, o2 = Sum.inl out1 ∧ Inv w S1 (Fr) ∧ f 1 = (Value.int .i64 (a1)) ∧ f 2 = (Value.slice z2 m2 k2) ∧ f 3 = (Value.pointer (some ⟨g1, 0, none⟩))) ?_ ?_
   ·
    refine wp_block' ?_
    refine wp_forN (I := fun (i1 : Nat) (s1 : Unit) (f : Frm) (w : World) => Inv w S1 (Fr) ∧ f 1 = (Value.int .i64 (a1)) ∧ f 2 = (Value.slice z2 m2 k2) ∧ f 3 = (Value.pointer (some ⟨g1, 0, none⟩)) ∧ f 8 = (Value.int .i64 (i1 : Int))) hrun1 ⟨I3, rfl, rfl, rfl, rfl⟩ ?_ ?_
    ·
     rintro i1 s1 f w o1 hlt1 hI1 h31 hout1
     obtain ⟨I38, e92, e93, e94, e95⟩ := hI1
     refine wp_seq' ?_
     refine wp_seq' ?_
     refine wp_region' ?_
     refine wl_op rfl (op_move (v := (Value.int .i64 ((i1 : Int)))) rfl e95 ?_)
     refine wl_op rfl (op_move (v := (Value.slice z2 m2 k2)) rfl e93 ?_)
     refine wl_op rfl (op_len_rv rfl Try.underlying25 rfl (h2_.mono le1) ?_)
     refine wl_op rfl (op_lss (a := (i1 : Int)) (b := (a2.length : Int)) rfl rfl rfl ?_)
     refine wl_nil ?_
     refine wp_cond_t (b := decide ((i1 : Int) < (a2.length : Int))) rfl (len_t hlt1) ?_
     refine wp_skip' ?_
     refine wp_seq' ?_
     refine wp_block' ?_
     refine wp_seq' ?_
     refine wp_region' ?_
     refine wl_op rfl (op_move (v := (Value.slice z2 m2 k2)) rfl e93 ?_)
     refine wl_op rfl (op_move (v := (Value.int .i64 ((i1 : Int)))) rfl e95 ?_)
     obtain ⟨x22, hx22, h31⟩ := bnd h31
     refine wl_op rfl (op_indexAddr_rv (v := (Value.slice z2 m2 k2)) (i := (i1 : Int)) (e := x22) rfl Try.underlying25 sh46 rfl (h2_.mono le1) rfl hx22 ?_)
     refine wl_op rfl (op_load (v := (elemPtr (Value.slice z2 m2 k2) ((i1 : Int)) (Enc.sz Signal))) (e := x22) rfl sh46 rfl ((h2_.mono le1).elem I38.in_ hx22) (fun u8 hu8 => ?_))
     have e96 := Signal.inv hu8
     subst e96
     refine wl_op rfl (op_alloc (z := (Value.agg #[(Value.int .i64 (0)), (Value.int .i64 (0)), (Value.int .i64 (0)), (Value.int .i64 (0))])) rfl I38 zo46 (fun g4 w25 (I39 : Inv w25 S1 (Cells g4 46 #[(Value.int .i64 (0)), (Value.int .i64 (0)), (Value.int .i64 (0)), (Value.int .i64 (0))] :: Fr)) => ?_))
     refine wl_op rfl (op_store (v := (Value.agg #[(Value.int .i64 (x22.At)), (Value.int .i64 (x22.Kind)), (Value.int .i64 (x22.Number)), (Value.int .i64 (x22.Value))])) (cs := #[(Value.int .i64 (0)), (Value.int .i64 (0)), (Value.int .i64 (0)), (Value.int .i64 (0))]) sh46 I39 rfl rfl rfl (Nat.le_of_ble_eq_true rfl) rfl (fun w26 (I40 : Inv w26 S1 (Cells g4 46 #[(Value.int .i64 (x22.At)), (Value.int .i64 (x22.Kind)), (Value.int .i64 (x22.Number)), (Value.int .i64 (x22.Value))] :: Fr)) => ?_))
     refine wl_nil ?_
     refine wp_seq' ?_
     refine wp_region' ?_
     refine wl_op rfl (op_assign (v := (Value.bool (false))) rfl rfl ?_)
     refine wl_nil ?_
     obtain ⟨v13, h40, h31⟩ := bnd h31
     refine wp_cut (fun f w => Inv w S1 (Cells g4 46 #[(Value.int .i64 (x22.At)), (Value.int .i64 (x22.Kind)), (Value.int .i64 (x22.Number)), (Value.int .i64 (x22.Value))] :: Fr) ∧ f 1 = (Value.int .i64 (a1)) ∧ f 2 = (Value.slice z2 m2 k2) ∧ f 3 = (Value.pointer (some ⟨g1, 0, none⟩)) ∧ f 8 = (Value.int .i64 ((i1 : Int))) ∧ f 9 = (Value.pointer (some ⟨g4, 0, none⟩)) ∧ f 10 = (Value.bool (v13))) ?_ ?_
     ·
      refine wp_seq' ?_
      refine wp_region' ?_
      refine wl_op rfl (op_fieldAddr (v := (Value.pointer (some ⟨g4, 0, none⟩))) rfl fa46_1 rfl rfl ?_)
      refine wl_op rfl (op_load1 (c := (Value.int .i64 (x22.Kind))) rfl sh3 (I40.nth 0 rfl) rfl rfl ?_)
      refine wl_nil ?_
      refine wp_block' ?_
      refine wp_seq' ?_
      refine wp_region' ?_
      refine wl_op rfl (op_eql (a := x22.Kind) (b := 1) rfl rfl rfl ?_)
      refine wl_op rfl (op_assign (v := (Value.bool (x22.Kind == 1))) rfl rfl ?_)
      refine wl_nil ?_
      rcases ifs h40 with ⟨hc67, h40⟩ | ⟨hc67, h40⟩
      ·
       refine wp_cond_t (b := x22.Kind == 1) rfl hc67 ?_
       refine wp_region' ?_
       refine wl_op rfl (op_fieldAddr (v := (Value.pointer (some ⟨g4, 0, none⟩))) rfl fa46_2 rfl rfl ?_)
       refine wl_op rfl (op_load1 (c := (Value.int .i64 (x22.Number))) rfl sh3 (I40.nth 0 rfl) rfl rfl ?_)
       refine wl_op rfl (op_fieldAddr_t (v := (Value.pointer (some ⟨g1, 0, none⟩))) rfl fa24_0 e94 (p1.at_ I40) ?_)
       refine wl_op rfl (op_load_int (v := (fieldPtr (Value.pointer (some ⟨g1, 0, none⟩)) 0)) (e := a0.Sensors) rfl sh3 rfl ((p1.at_ I40).fld Panel.fld0) ?_)
       refine wl_op rfl (op_sub (a := a0.Sensors) (b := 1) rfl rfl rfl ?_)
       obtain ⟨x27, hx27, h40⟩ := bnd h40
       refine wl_op rfl (op_call_v (vs := [(Value.int .i64 (x22.Number)), (Value.int .i64 (0)), (Value.int .i64 (w64 (a0.Sensors - 1)))]) (r := (Value.bool (x27))) rfl ca43 rfl (args3 rfl rfl rfl) I40 (fun Fr_ hF_ => F43_ok hF_  hx27) (fun w31 I47 => ?_))
       refine wl_op rfl (op_move (v := (Value.bool (x27))) rfl rfl ?_)
       rcases ifs h40 with ⟨hc68, h40⟩ | ⟨hc68, h40⟩
       ·
        refine wl_taken (c := x27) rfl rfl rfl rfl hc68 (op_fieldAddr (v := (Value.pointer (some ⟨g4, 0, none⟩))) rfl fa46_3 rfl rfl ?_)
        refine wl_taken (c := x27) rfl rfl rfl rfl hc68 (op_load1 (c := (Value.int .i64 (x22.Value))) rfl sh3 (I47.nth 0 rfl) rfl rfl ?_)
        obtain ⟨x28, hx28, h40⟩ := bnd h40
        refine wl_taken (c := x27) rfl rfl rfl rfl hc68 (op_call_v (vs := [(Value.int .i64 (x22.Value)), (Value.int .i64 (0)), (Value.int .i64 (9))]) (r := (Value.bool (x28))) rfl ca43 rfl (args3 rfl rfl rfl) I47 (fun Fr_ hF_ => F43_ok hF_  hx28) (fun w32 I48 => ?_))
        refine wl_op rfl (op_pick_t (c := x27) (a := (Value.bool (x28))) rfl rfl hc68 rfl ?_)
        refine wl_op rfl (op_assign (v := (Value.bool (x28))) rfl rfl ?_)
        refine wl_nil ?_
        obtain rfl := Option.some.inj h40
        exact ⟨I48, e92, e93, e94, e95, rfl, rfl⟩
       ·
        refine wl_skip (c := x27) rfl rfl rfl rfl hc68 rfl ?_
        refine wl_skip (c := x27) rfl rfl rfl rfl hc68 rfl ?_
        refine wl_skip (c := x27) rfl rfl rfl rfl hc68 rfl ?_
        refine wl_op rfl (op_pick_f (c := x27) (b := (Value.bool (false))) rfl rfl hc68 rfl ?_)
        refine wl_op rfl (op_assign (v := (Value.bool (false))) rfl rfl ?_)
        refine wl_nil ?_
        obtain rfl := Option.some.inj h40
        exact ⟨I47, e92, e93, e94, e95, rfl, rfl⟩
      ·
       refine wp_cond_f (b := x22.Kind == 1) rfl hc67 ?_
       refine wp_seq' ?_
       refine wp_region' ?_
       refine wl_op rfl (op_eql (a := x22.Kind) (b := 2) rfl rfl rfl ?_)
       refine wl_op rfl (op_assign (v := (Value.bool (x22.Kind == 2))) rfl rfl ?_)
       refine wl_nil ?_
       rcases ifs h40 with ⟨hc69, h40⟩ | ⟨hc69, h40⟩
       ·
        refine wp_cond_t (b := x22.Kind == 2) rfl hc69 ?_
        refine wp_region' ?_
        refine wl_op rfl (op_fieldAddr (v := (Value.pointer (some ⟨g4, 0, none⟩))) rfl fa46_2 rfl rfl ?_)
        refine wl_op rfl (op_load1 (c := (Value.int .i64 (x22.Number))) rfl sh3 (I40.nth 0 rfl) rfl rfl ?_)
        refine wl_op rfl (op_fieldAddr_t (v := (Value.pointer (some ⟨g1, 0, none⟩))) rfl fa24_0 e94 (p1.at_ I40) ?_)
        refine wl_op rfl (op_load_int (v := (fieldPtr (Value.pointer (some ⟨g1, 0, none⟩)) 0)) (e := a0.Sensors) rfl sh3 rfl ((p1.at_ I40).fld Panel.fld0) ?_)
        refine wl_op rfl (op_sub (a := a0.Sensors) (b := 1) rfl rfl rfl ?_)
        obtain ⟨x29, hx29, h40⟩ := bnd h40
        refine wl_op rfl (op_call_v (vs := [(Value.int .i64 (x22.Number)), (Value.int .i64 (0)), (Value.int .i64 (w64 (a0.Sensors - 1)))]) (r := (Value.bool (x29))) rfl ca43 rfl (args3 rfl rfl rfl) I40 (fun Fr_ hF_ => F43_ok hF_  hx29) (fun w33 I49 => ?_))
        refine wl_op rfl (op_move (v := (Value.bool (x29))) rfl rfl ?_)
        rcases ifs h40 with ⟨hc70, h40⟩ | ⟨hc70, h40⟩
        ·
         refine wl_taken (c := x29) rfl rfl rfl rfl hc70 (op_fieldAddr (v := (Value.pointer (some ⟨g4, 0, none⟩))) rfl fa46_3 rfl rfl ?_)
         refine wl_taken (c := x29) rfl rfl rfl rfl hc70 (op_load1 (c := (Value.int .i64 (x22.Value))) rfl sh3 (I49.nth 0 rfl) rfl rfl ?_)
         refine wl_taken (c := x29) rfl rfl rfl rfl hc70 (op_eql (a := x22.Value) (b := 0) rfl rfl rfl ?_)
         refine wl_op rfl (op_pick_t (c := x29) (a := (Value.bool (x22.Value == 0))) rfl rfl hc70 rfl ?_)
         refine wl_op rfl (op_assign (v := (Value.bool (x22.Value == 0))) rfl rfl ?_)
         refine wl_nil ?_
         obtain rfl := Option.some.inj h40
         exact ⟨I49, e92, e93, e94, e95, rfl, rfl⟩
        ·
         refine wl_skip (c := x29) rfl rfl rfl rfl hc70 rfl ?_
         refine wl_skip (c := x29) rfl rfl rfl rfl hc70 rfl ?_
         refine wl_skip (c := x29) rfl rfl rfl rfl hc70 rfl ?_
         refine wl_op rfl (op_pick_f (c := x29) (b := (Value.bool (false))) rfl rfl hc70 rfl ?_)
         refine wl_op rfl (op_assign (v := (Value.bool (false))) rfl rfl ?_)
         refine wl_nil ?_
         obtain rfl := Option.some.inj h40
         exact ⟨I49, e92, e93, e94, e95, rfl, rfl⟩
       ·
        refine wp_cond_f (b := x22.Kind == 2) rfl hc69 ?_
        obtain ⟨v14, h43, h40⟩ := bnd h40
        refine wp_cut (fun f w => Inv w S1 (Cells g4 46 #[(Value.int .i64 (x22.At)), (Value.int .i64 (x22.Kind)), (Value.int .i64 (x22.Number)), (Value.int .i64 (x22.Value))] :: Fr) ∧ f 1 = (Value.int .i64 (a1)) ∧ f 2 = (Value.slice z2 m2 k2) ∧ f 3 = (Value.pointer (some ⟨g1, 0, none⟩)) ∧ f 8 = (Value.int .i64 ((i1 : Int))) ∧ f 9 = (Value.pointer (some ⟨g4, 0, none⟩)) ∧ f 10 = (Value.bool (false)) ∧ f 31 = (Value.int .i64 (x22.Kind)) ∧ f 58 = (Value.bool (v14))) ?_ ?_
        ·
         refine wp_seq' ?_
         refine wp_region' ?_
         refine wl_op rfl (op_eql (a := x22.Kind) (b := 3) rfl rfl rfl ?_)
         refine wl_op rfl (op_assign (v := (Value.bool (x22.Kind == 3))) rfl rfl ?_)
         refine wl_nil ?_
         rcases ifs h43 with ⟨hc72, h43⟩ | ⟨hc72, h43⟩
         ·
          refine wp_cond_t (b := x22.Kind == 3) rfl hc72 ?_
          refine wp_skip' ?_
          obtain rfl := Option.some.inj h43
          exact ⟨I40, e92, e93, e94, e95, rfl, rfl, rfl, rfl⟩
         ·
          refine wp_cond_f (b := x22.Kind == 3) rfl hc72 ?_
          refine wp_region' ?_
          refine wl_op rfl (op_eql (a := x22.Kind) (b := 6) rfl rfl rfl ?_)
          refine wl_op rfl (op_assign (v := (Value.bool (x22.Kind == 6))) rfl rfl ?_)
          refine wl_nil ?_
          obtain rfl := Option.some.inj h43
          exact ⟨I40, e92, e93, e94, e95, rfl, rfl, rfl, rfl⟩
        ·
         rintro f w ⟨I50, e113, e114, e115, e116, e117, e118, e119, e120⟩
         rcases ifs h40 with ⟨hc73, h40⟩ | ⟨hc73, h40⟩
         ·
          refine wp_cond_t (b := v14) e120 hc73 ?_
          refine wp_region' ?_
          refine wl_op rfl (op_fieldAddr (v := (Value.pointer (some ⟨g4, 0, none⟩))) rfl fa46_2 e117 rfl ?_)
          refine wl_op rfl (op_load1 (c := (Value.int .i64 (x22.Number))) rfl sh3 (I50.nth 0 rfl) rfl rfl ?_)
          refine wl_op rfl (op_fieldAddr_t (v := (Value.pointer (some ⟨g1, 0, none⟩))) rfl fa24_1 e115 (p1.at_ I50) ?_)
          refine wl_op rfl (op_load (v := (fieldPtr (Value.pointer (some ⟨g1, 0, none⟩)) 1)) (e := a0.Doors) rfl sh22 rfl ((p1.at_ I50).fld Panel.fld1) (fun u10 hu10 => ?_))
          obtain ⟨z9, m9, k9, e121⟩ := rv_form hu10
          subst e121
          refine wl_op rfl (op_len_rv rfl Try.underlying22 rfl hu10 ?_)
          refine wl_op rfl (op_sub (a := (a0.Doors.length : Int)) (b := 1) rfl rfl rfl ?_)
          obtain ⟨x30, hx30, h40⟩ := bnd h40
          refine wl_op rfl (op_call_v (vs := [(Value.int .i64 (x22.Number)), (Value.int .i64 (0)), (Value.int .i64 (w64 ((a0.Doors.length : Int) - 1)))]) (r := (Value.bool (x30))) rfl ca43 rfl (args3 rfl rfl rfl) I50 (fun Fr_ hF_ => F43_ok hF_  hx30) (fun w34 I51 => ?_))
          refine wl_op rfl (op_move (v := (Value.bool (x30))) rfl rfl ?_)
          rcases ifs h40 with ⟨hc74, h40⟩ | ⟨hc74, h40⟩
          ·
           refine wl_taken (c := x30) rfl rfl rfl rfl hc74 (op_fieldAddr (v := (Value.pointer (some ⟨g4, 0, none⟩))) rfl fa46_3 e117 rfl ?_)
           refine wl_taken (c := x30) rfl rfl rfl rfl hc74 (op_load1 (c := (Value.int .i64 (x22.Value))) rfl sh3 (I51.nth 0 rfl) rfl rfl ?_)
           refine wl_taken (c := x30) rfl rfl rfl rfl hc74 (op_eql (a := x22.Value) (b := 0) rfl rfl rfl ?_)
           refine wl_op rfl (op_pick_t (c := x30) (a := (Value.bool (x22.Value == 0))) rfl rfl hc74 rfl ?_)
           refine wl_op rfl (op_assign (v := (Value.bool (x22.Value == 0))) rfl rfl ?_)
           refine wl_nil ?_
           obtain rfl := Option.some.inj h40
           exact ⟨I51, e113, e114, e115, e116, e117, rfl⟩
          ·
           refine wl_skip (c := x30) rfl rfl rfl rfl hc74 rfl ?_
           refine wl_skip (c := x30) rfl rfl rfl rfl hc74 rfl ?_
           refine wl_skip (c := x30) rfl rfl rfl rfl hc74 rfl ?_
           refine wl_op rfl (op_pick_f (c := x30) (b := (Value.bool (false))) rfl rfl hc74 rfl ?_)
           refine wl_op rfl (op_assign (v := (Value.bool (false))) rfl rfl ?_)
           refine wl_nil ?_
           obtain rfl := Option.some.inj h40
           exact ⟨I51, e113, e114, e115, e116, e117, rfl⟩
         ·
          refine wp_cond_f (b := v14) e120 hc73 ?_
          obtain ⟨v15, h46, h40⟩ := bnd h40
          refine wp_cut (fun f w => Inv w S1 (Cells g4 46 #[(Value.int .i64 (x22.At)), (Value.int .i64 (x22.Kind)), (Value.int .i64 (x22.Number)), (Value.int .i64 (x22.Value))] :: Fr) ∧ f 1 = (Value.int .i64 (a1)) ∧ f 2 = (Value.slice z2 m2 k2) ∧ f 3 = (Value.pointer (some ⟨g1, 0, none⟩)) ∧ f 8 = (Value.int .i64 ((i1 : Int))) ∧ f 9 = (Value.pointer (some ⟨g4, 0, none⟩)) ∧ f 10 = (Value.bool (false)) ∧ f 73 = (Value.bool (v15))) ?_ ?_
          ·
           refine wp_seq' ?_
           refine wp_region' ?_
           refine wl_op rfl (op_eql (a := x22.Kind) (b := 4) rfl e119 rfl ?_)
           refine wl_op rfl (op_assign (v := (Value.bool (x22.Kind == 4))) rfl rfl ?_)
           refine wl_nil ?_
           rcases ifs h46 with ⟨hc76, h46⟩ | ⟨hc76, h46⟩
           ·
            refine wp_cond_t (b := x22.Kind == 4) rfl hc76 ?_
            refine wp_skip' ?_
            obtain rfl := Option.some.inj h46
            exact ⟨I50, e113, e114, e115, e116, e117, e118, rfl⟩
           ·
            refine wp_cond_f (b := x22.Kind == 4) rfl hc76 ?_
            refine wp_region' ?_
            refine wl_op rfl (op_eql (a := x22.Kind) (b := 5) rfl e119 rfl ?_)
            refine wl_op rfl (op_assign (v := (Value.bool (x22.Kind == 5))) rfl rfl ?_)
            refine wl_nil ?_
            obtain rfl := Option.some.inj h46
            exact ⟨I50, e113, e114, e115, e116, e117, e118, rfl⟩
          ·
           rintro f w ⟨I52, e122, e123, e124, e125, e126, e127, e128⟩
           rcases ifs h40 with ⟨hc77, h40⟩ | ⟨hc77, h40⟩
           ·
            refine wp_cond_t (b := v15) e128 hc77 ?_
            refine wp_region' ?_
            refine wl_op rfl (op_fieldAddr (v := (Value.pointer (some ⟨g4, 0, none⟩))) rfl fa46_2 e126 rfl ?_)
            refine wl_op rfl (op_load1 (c := (Value.int .i64 (x22.Number))) rfl sh3 (I52.nth 0 rfl) rfl rfl ?_)
            refine wl_op rfl (op_eql (a := x22.Number) (b := 0) rfl rfl rfl ?_)
            refine wl_op rfl (op_move (v := (Value.bool (x22.Number == 0))) rfl rfl ?_)
            rcases ifs h40 with ⟨hc78, h40⟩ | ⟨hc78, h40⟩
            ·
             refine wl_taken (c := x22.Number == 0) rfl rfl rfl rfl hc78 (op_fieldAddr (v := (Value.pointer (some ⟨g4, 0, none⟩))) rfl fa46_3 e126 rfl ?_)
             refine wl_taken (c := x22.Number == 0) rfl rfl rfl rfl hc78 (op_load1 (c := (Value.int .i64 (x22.Value))) rfl sh3 (I52.nth 0 rfl) rfl rfl ?_)
             refine wl_taken (c := x22.Number == 0) rfl rfl rfl rfl hc78 (op_eql (a := x22.Value) (b := 0) rfl rfl rfl ?_)
             refine wl_op rfl (op_pick_t (c := x22.Number == 0) (a := (Value.bool (x22.Value == 0))) rfl rfl hc78 rfl ?_)
             refine wl_op rfl (op_assign (v := (Value.bool (x22.Value == 0))) rfl rfl ?_)
             refine wl_nil ?_
             obtain rfl := Option.some.inj h40
             exact ⟨I52, e122, e123, e124, e125, e126, rfl⟩
            ·
             refine wl_skip (c := x22.Number == 0) rfl rfl rfl rfl hc78 rfl ?_
             refine wl_skip (c := x22.Number == 0) rfl rfl rfl rfl hc78 rfl ?_
             refine wl_skip (c := x22.Number == 0) rfl rfl rfl rfl hc78 rfl ?_
             refine wl_op rfl (op_pick_f (c := x22.Number == 0) (b := (Value.bool (false))) rfl rfl hc78 rfl ?_)
             refine wl_op rfl (op_assign (v := (Value.bool (false))) rfl rfl ?_)
             refine wl_nil ?_
             obtain rfl := Option.some.inj h40
             exact ⟨I52, e122, e123, e124, e125, e126, rfl⟩
           ·
            refine wp_cond_f (b := v15) e128 hc77 ?_
            refine wp_skip' ?_
            obtain rfl := Option.some.inj h40
            exact ⟨I52, e122, e123, e124, e125, e126, e127⟩
     ·
      rintro f w ⟨I53, e129, e130, e131, e132, e133, e134⟩
      refine wp_seq' ?_
      refine wp_region' ?_
      refine wl_op rfl (op_move (v := (Value.bool (v13))) rfl e134 ?_)
      refine wl_op rfl (op_not (b := v13) rfl rfl ?_)
      refine wl_op rfl (op_move (v := (Value.bool (!v13))) rfl rfl ?_)
      rcases ifs h31 with ⟨hc79, h31⟩ | ⟨hc79, h31⟩
      ·
       refine wl_skip (c := !v13) rfl rfl rfl rfl hc79 rfl ?_
       refine wl_skip (c := !v13) rfl rfl rfl rfl hc79 rfl ?_
       refine wl_skip (c := !v13) rfl rfl rfl rfl hc79 rfl ?_
       refine wl_skip (c := !v13) rfl rfl rfl rfl hc79 rfl ?_
       refine wl_skip (c := !v13) rfl rfl rfl rfl hc79 rfl ?_
       refine wl_skip (c := !v13) rfl rfl rfl rfl hc79 rfl ?_
       refine wl_op rfl (op_pick_t (c := !v13) (a := (Value.bool (true))) rfl rfl hc79 rfl ?_)
       refine wl_nil ?_
       refine wp_cond_t (b := true) rfl rfl ?_
       refine wp_seq' ?_
       refine wp_region' ?_
       refine wl_op rfl (op_assign (v := (Value.int .i64 (81))) rfl rfl ?_)
       refine wl_nil ?_
       refine wp_ret' ?_
       obtain rfl := Option.some.inj h31
       obtain rfl := (hout1 _ rfl)
       have h32 := h
       obtain rfl := Option.some.inj h32
       exact ⟨(Value.int .i64 (81)), (res1 rfl rfl), _, [], le1, (I53).drop, rfl, rfl⟩
      ·
       refine wl_taken (c := !v13) rfl rfl rfl rfl hc79 (op_fieldAddr (v := (Value.pointer (some ⟨g4, 0, none⟩))) rfl fa46_0 e133 rfl ?_)
       refine wl_taken (c := !v13) rfl rfl rfl rfl hc79 (op_load1 (c := (Value.int .i64 (x22.At))) rfl sh3 (I53.nth 0 rfl) rfl rfl ?_)
       refine wl_taken (c := !v13) rfl rfl rfl rfl hc79 (op_move (v := (Value.int .i64 (a1))) rfl e129 ?_)
       refine wl_taken (c := !v13) rfl rfl rfl rfl hc79 (op_sub (a := a1) (b := 1) rfl rfl rfl ?_)
       obtain ⟨x31, hx31, h31⟩ := bnd h31
       refine wl_taken (c := !v13) rfl rfl rfl rfl hc79 (op_call_v (vs := [(Value.int .i64 (x22.At)), (Value.int .i64 (0)), (Value.int .i64 (w64 (a1 - 1)))]) (r := (Value.bool (x31))) rfl ca43 rfl (args3 rfl rfl rfl) I53 (fun Fr_ hF_ => F43_ok hF_  hx31) (fun w35 I54 => ?_))
       refine wl_taken (c := !v13) rfl rfl rfl rfl hc79 (op_not (b := x31) rfl rfl ?_)
       refine wl_op rfl (op_pick_f (c := !v13) (b := (Value.bool (!x31))) rfl rfl hc79 rfl ?_)
       refine wl_nil ?_
       rcases ifs h31 with ⟨hc80, h31⟩ | ⟨hc80, h31⟩
       ·
        refine wp_cond_t (b := !x31) rfl hc80 ?_
        refine wp_seq' ?_
        refine wp_region' ?_
        refine wl_op rfl (op_assign (v := (Value.int .i64 (81))) rfl rfl ?_)
        refine wl_nil ?_
        refine wp_ret' ?_
        obtain rfl := Option.some.inj h31
        obtain rfl := (hout1 _ rfl)
        have h32 := h
        obtain rfl := Option.some.inj h32
        exact ⟨(Value.int .i64 (81)), (res1 rfl rfl), _, [], le1, (I54).drop, rfl, rfl⟩
       ·
        refine wp_cond_f (b := !x31) rfl hc80 ?_
        refine wp_skip' ?_
        refine wp_region' ?_
        refine wl_op rfl (op_move (v := (Value.int .i64 ((i1 : Int)))) rfl e132 ?_)
        refine wl_op rfl (op_add (a := (i1 : Int)) (b := 1) rfl rfl rfl ?_)
        refine wl_op rfl (op_assign (v := (Value.int .i64 (w64 ((i1 : Int) + 1)))) rfl rfl ?_)
        refine wl_nil ?_
        obtain rfl := Option.some.inj h31
        exact ⟨_, rfl, (I54).drop, e129, e130, e131, (idx_next hlt1 hk1)⟩
    ·
     rintro s2 f w hs1 hI2
     obtain ⟨I55, e135, e136, e137, e138⟩ := hI2
     refine wp_seq' ?_
     refine wp_seq' ?_
     refine wp_region' ?_
     refine wl_op rfl (op_move (v := (Value.int .i64 ((a2.length : Int)))) rfl e138 ?_)
     refine wl_op rfl (op_move (v := (Value.slice z2 m2 k2)) rfl e136 ?_)
     refine wl_op rfl (op_len_rv rfl Try.underlying25 rfl (h2_.mono le1) ?_)
     refine wl_op rfl (op_lss (a := (a2.length : Int)) (b := (a2.length : Int)) rfl rfl rfl ?_)
     refine wl_nil ?_
     refine wp_cond_f (b := decide ((a2.length : Int) < (a2.length : Int))) rfl (len_f _) ?_
     refine wp_exit' ?_
     exact ⟨s2, hs1, I55, e135, e136, e137⟩
   ·
    rintro f w ⟨out1, rfl, I56, e139, e140, e141⟩
    have h := onL_inl h
    refine wp_seq' ?_
    refine wp_region' ?_
    refine wl_op rfl (op_assign (v := (Value.int .i64 (0))) rfl rfl ?_)
    refine wl_nil ?_
    refine wp_ret' ?_
    obtain rfl := Option.some.inj h
    exact ⟨(Value.int .i64 (0)), (res1 rfl rfl), _, [], le1, I56, rfl, rfl⟩

set_option maxHeartbeats 4000000 in
set_option maxRecDepth 100000 in
theorem F70_ok {w : World} {S : PH} {Fr : List HP} {a0 : (List Signal)} {v0 : Value} {a1 : Int} {a2 : Int} {a3 : Int} {r : Bool} (hI : Inv w S (Fr)) (h0_ : RV S v0 a0) (h : F70 a0 a1 a2 a3 = some r) :
    Calls Try.prog 70 [v0, (Value.int .i64 (a1)), (Value.int .i64 (a2)), (Value.int .i64 (a3))].toArray w (DoneV S Fr (Value.bool (r))) := by
 unfold F70 at h
 obtain ⟨z1, m1, k1, e1⟩ := rv_form h0_
 subst e1
 refine calls_enter (n := 41) (vs := [(Value.slice z1 m1 k1), (Value.int .i64 (a1)), (Value.int .i64 (a2)), (Value.int .i64 (a3))]) Try.func70 rfl rfl rfl ?_
 refine wp_seq' ?_
 refine wp_region' ?_
 refine wl_op rfl (op_assign (v := (Value.bool (false))) rfl rfl ?_)
 refine wl_nil ?_
 refine wp_seq' ?_
 refine wp_seq' ?_
 refine wp_region' ?_
 refine wl_op rfl (op_assign (v := (Value.int .i64 (0))) rfl rfl ?_)
 refine wl_nil ?_
 have hk1 : a0.length ≤ 9223372036854775807 := (rv_len h0_)
 obtain ⟨o2, hrun1, h⟩ := bnd h
 refine wp_cutN (fun f w => ∃ out1, o2 = Sum.inl out1 ∧ Inv w S (Fr) ∧ f 0 = (Value.slice z1 m1 k1) ∧ f 1 = (Value.int .i64 (a1)) ∧ f 2 = (Value.int .i64 (a2)) ∧ f 3 = (Value.int .i64 (a3))) ?_ ?_
 ·
  refine wp_block' ?_
  refine wp_forN (I := fun (i1 : Nat) (s1 : Unit) (f : Frm) (w : World) => Inv w S (Fr) ∧ f 0 = (Value.slice z1 m1 k1) ∧ f 1 = (Value.int .i64 (a1)) ∧ f 2 = (Value.int .i64 (a2)) ∧ f 3 = (Value.int .i64 (a3)) ∧ f 9 = (Value.int .i64 (i1 : Int))) hrun1 ⟨hI, rfl, rfl, rfl, rfl, rfl⟩ ?_ ?_
  ·
   rintro i1 s1 f w o1 hlt1 hI1 h1 hout1
   obtain ⟨I3, e12, e13, e14, e15, e16⟩ := hI1
   refine wp_seq' ?_
   refine wp_seq' ?_
   refine wp_region' ?_
   refine wl_op rfl (op_move (v := (Value.int .i64 ((i1 : Int)))) rfl e16 ?_)
   refine wl_op rfl (op_move (v := (Value.slice z1 m1 k1)) rfl e12 ?_)
   refine wl_op rfl (op_len_rv rfl Try.underlying25 rfl h0_ ?_)
   refine wl_op rfl (op_lss (a := (i1 : Int)) (b := (a0.length : Int)) rfl rfl rfl ?_)
   refine wl_nil ?_
   refine wp_cond_t (b := decide ((i1 : Int) < (a0.length : Int))) rfl (len_t hlt1) ?_
   refine wp_skip' ?_
   refine wp_seq' ?_
   refine wp_block' ?_
   refine wp_seq' ?_
   refine wp_region' ?_
   refine wl_op rfl (op_move (v := (Value.slice z1 m1 k1)) rfl e12 ?_)
   refine wl_op rfl (op_move (v := (Value.int .i64 ((i1 : Int)))) rfl e16 ?_)
   obtain ⟨x7, hx7, h1⟩ := bnd h1
   refine wl_op rfl (op_indexAddr_rv (v := (Value.slice z1 m1 k1)) (i := (i1 : Int)) (e := x7) rfl Try.underlying25 sh46 rfl h0_ rfl hx7 ?_)
   refine wl_op rfl (op_fieldAddr_t (v := (elemPtr (Value.slice z1 m1 k1) ((i1 : Int)) (Enc.sz Signal))) rfl fa46_0 rfl (h0_.elem I3.in_ hx7) ?_)
   refine wl_op rfl (op_load_int (v := (fieldPtr (elemPtr (Value.slice z1 m1 k1) ((i1 : Int)) (Enc.sz Signal)) 0)) (e := x7.At) rfl sh3 rfl ((h0_.elem I3.in_ hx7).fld Signal.fld0) ?_)
   refine wl_op rfl (op_move (v := (Value.int .i64 (a1))) rfl e13 ?_)
   refine wl_op rfl (op_eql (a := x7.At) (b := a1) rfl rfl rfl ?_)
   refine wl_op rfl (op_move (v := (Value.bool (x7.At == a1))) rfl rfl ?_)
   rcases ifs h1 with ⟨hc7, h1⟩ | ⟨hc7, h1⟩
   ·
    refine wl_taken (c := x7.At == a1) rfl rfl rfl rfl hc7 (op_move (v := (Value.slice z1 m1 k1)) rfl e12 ?_)
    refine wl_taken (c := x7.At == a1) rfl rfl rfl rfl hc7 (op_move (v := (Value.int .i64 ((i1 : Int)))) rfl e16 ?_)
    obtain ⟨x8, hx8, h1⟩ := bnd h1
    refine wl_taken (c := x7.At == a1) rfl rfl rfl rfl hc7 (op_indexAddr_rv (v := (Value.slice z1 m1 k1)) (i := (i1 : Int)) (e := x8) rfl Try.underlying25 sh46 rfl h0_ rfl hx8 ?_)
    refine wl_taken (c := x7.At == a1) rfl rfl rfl rfl hc7 (op_fieldAddr_t (v := (elemPtr (Value.slice z1 m1 k1) ((i1 : Int)) (Enc.sz Signal))) rfl fa46_1 rfl (h0_.elem I3.in_ hx8) ?_)
    refine wl_taken (c := x7.At == a1) rfl rfl rfl rfl hc7 (op_load_int (v := (fieldPtr (elemPtr (Value.slice z1 m1 k1) ((i1 : Int)) (Enc.sz Signal)) 1)) (e := x8.Kind) rfl sh3 rfl ((h0_.elem I3.in_ hx8).fld Signal.fld1) ?_)
    refine wl_taken (c := x7.At == a1) rfl rfl rfl rfl hc7 (op_move (v := (Value.int .i64 (a2))) rfl e14 ?_)
    refine wl_taken (c := x7.At == a1) rfl rfl rfl rfl hc7 (op_eql (a := x8.Kind) (b := a2) rfl rfl rfl ?_)
    refine wl_op rfl (op_pick_t (c := x7.At == a1) (a := (Value.bool (x8.Kind == a2))) rfl rfl hc7 rfl ?_)
    refine wl_op rfl (op_move (v := (Value.bool (x8.Kind == a2))) rfl rfl ?_)
    rcases ifs h1 with ⟨hc8, h1⟩ | ⟨hc8, h1⟩
    ·
     refine wl_taken (c := x8.Kind == a2) rfl rfl rfl rfl hc8 (op_move (v := (Value.slice z1 m1 k1)) rfl e12 ?_)
     refine wl_taken (c := x8.Kind == a2) rfl rfl rfl rfl hc8 (op_move (v := (Value.int .i64 ((i1 : Int)))) rfl e16 ?_)
     obtain ⟨x9, hx9, h1⟩ := bnd h1
     refine wl_taken (c := x8.Kind == a2) rfl rfl rfl rfl hc8 (op_indexAddr_rv (v := (Value.slice z1 m1 k1)) (i := (i1 : Int)) (e := x9) rfl Try.underlying25 sh46 rfl h0_ rfl hx9 ?_)
     refine wl_taken (c := x8.Kind == a2) rfl rfl rfl rfl hc8 (op_fieldAddr_t (v := (elemPtr (Value.slice z1 m1 k1) ((i1 : Int)) (Enc.sz Signal))) rfl fa46_2 rfl (h0_.elem I3.in_ hx9) ?_)
     refine wl_taken (c := x8.Kind == a2) rfl rfl rfl rfl hc8 (op_load_int (v := (fieldPtr (elemPtr (Value.slice z1 m1 k1) ((i1 : Int)) (Enc.sz Signal)) 2)) (e := x9.Number) rfl sh3 rfl ((h0_.elem I3.in_ hx9).fld Signal.fld2) ?_)
     refine wl_taken (c := x8.Kind == a2) rfl rfl rfl rfl hc8 (op_move (v := (Value.int .i64 (a3))) rfl e15 ?_)
     refine wl_taken (c := x8.Kind == a2) rfl rfl rfl rfl hc8 (op_eql (a := x9.Number) (b := a3) rfl rfl rfl ?_)
     refine wl_op rfl (op_pick_t (c := x8.Kind == a2) (a := (Value.bool (x9.Number == a3))) rfl rfl hc8 rfl ?_)
     refine wl_nil ?_
     rcases ifs h1 with ⟨hc9, h1⟩ | ⟨hc9, h1⟩
     ·
      refine wp_cond_t (b := x9.Number == a3) rfl hc9 ?_
      refine wp_seq' ?_
      refine wp_region' ?_
      refine wl_op rfl (op_assign (v := (Value.bool (true))) rfl rfl ?_)
      refine wl_nil ?_
      refine wp_ret' ?_
      obtain rfl := Option.some.inj h1
      obtain rfl := (hout1 _ rfl)
      have h2 := h
      obtain rfl := Option.some.inj h2
      exact ⟨(Value.bool (true)), (res1 rfl rfl), _, [], (PH.Le.refl _), I3, rfl, rfl⟩
     ·
      refine wp_cond_f (b := x9.Number == a3) rfl hc9 ?_
      refine wp_skip' ?_
      refine wp_region' ?_
      refine wl_op rfl (op_move (v := (Value.int .i64 ((i1 : Int)))) rfl e16 ?_)
      refine wl_op rfl (op_add (a := (i1 : Int)) (b := 1) rfl rfl rfl ?_)
      refine wl_op rfl (op_assign (v := (Value.int .i64 (w64 ((i1 : Int) + 1)))) rfl rfl ?_)
      refine wl_nil ?_
      obtain rfl := Option.some.inj h1
      exact ⟨_, rfl, I3, e12, e13, e14, e15, (idx_next hlt1 hk1)⟩
    ·
     refine wl_skip (c := x8.Kind == a2) rfl rfl rfl rfl hc8 rfl ?_
     refine wl_skip (c := x8.Kind == a2) rfl rfl rfl rfl hc8 rfl ?_
     refine wl_skip (c := x8.Kind == a2) rfl rfl rfl rfl hc8 rfl ?_
     refine wl_skip (c := x8.Kind == a2) rfl rfl rfl rfl hc8 rfl ?_
     refine wl_skip (c := x8.Kind == a2) rfl rfl rfl rfl hc8 rfl ?_
     refine wl_skip (c := x8.Kind == a2) rfl rfl rfl rfl hc8 rfl ?_
     refine wl_skip (c := x8.Kind == a2) rfl rfl rfl rfl hc8 rfl ?_
     refine wl_op rfl (op_pick_f (c := x8.Kind == a2) (b := (Value.bool (false))) rfl rfl hc8 rfl ?_)
     refine wl_nil ?_
     refine wp_cond_f (b := false) rfl rfl ?_
     refine wp_skip' ?_
     refine wp_region' ?_
     refine wl_op rfl (op_move (v := (Value.int .i64 ((i1 : Int)))) rfl e16 ?_)
     refine wl_op rfl (op_add (a := (i1 : Int)) (b := 1) rfl rfl rfl ?_)
     refine wl_op rfl (op_assign (v := (Value.int .i64 (w64 ((i1 : Int) + 1)))) rfl rfl ?_)
     refine wl_nil ?_
     obtain rfl := Option.some.inj h1
     exact ⟨_, rfl, I3, e12, e13, e14, e15, (idx_next hlt1 hk1)⟩
   ·
    refine wl_skip (c := x7.At == a1) rfl rfl rfl rfl hc7 rfl ?_
    refine wl_skip (c := x7.At == a1) rfl rfl rfl rfl hc7 rfl ?_
    refine wl_skip (c := x7.At == a1) rfl rfl rfl rfl hc7 rfl ?_
    refine wl_skip (c := x7.At == a1) rfl rfl rfl rfl hc7 rfl ?_
    refine wl_skip (c := x7.At == a1) rfl rfl rfl rfl hc7 rfl ?_
    refine wl_skip (c := x7.At == a1) rfl rfl rfl rfl hc7 rfl ?_
    refine wl_skip (c := x7.At == a1) rfl rfl rfl rfl hc7 rfl ?_
    refine wl_op rfl (op_pick_f (c := x7.At == a1) (b := (Value.bool (false))) rfl rfl hc7 rfl ?_)
    refine wl_op rfl (op_move (v := (Value.bool (false))) rfl rfl ?_)
    refine wl_skip (c := false) rfl rfl rfl rfl rfl rfl ?_
    refine wl_skip (c := false) rfl rfl rfl rfl rfl rfl ?_
    refine wl_skip (c := false) rfl rfl rfl rfl rfl rfl ?_
    refine wl_skip (c := false) rfl rfl rfl rfl rfl rfl ?_
    refine wl_skip (c := false) rfl rfl rfl rfl rfl rfl ?_
    refine wl_skip (c := false) rfl rfl rfl rfl rfl rfl ?_
    refine wl_skip (c := false) rfl rfl rfl rfl rfl rfl ?_
    refine wl_op rfl (op_pick_f (c := false) (b := (Value.bool (false))) rfl rfl rfl rfl ?_)
    refine wl_nil ?_
    refine wp_cond_f (b := false) rfl rfl ?_
    refine wp_skip' ?_
    refine wp_region' ?_
    refine wl_op rfl (op_move (v := (Value.int .i64 ((i1 : Int)))) rfl e16 ?_)
    refine wl_op rfl (op_add (a := (i1 : Int)) (b := 1) rfl rfl rfl ?_)
    refine wl_op rfl (op_assign (v := (Value.int .i64 (w64 ((i1 : Int) + 1)))) rfl rfl ?_)
    refine wl_nil ?_
    obtain rfl := Option.some.inj h1
    exact ⟨_, rfl, I3, e12, e13, e14, e15, (idx_next hlt1 hk1)⟩
  ·
   rintro s2 f w hs1 hI2
   obtain ⟨I4, e17, e18, e19, e20, e21⟩ := hI2
   refine wp_seq' ?_
   refine wp_seq' ?_
   refine wp_region' ?_
   refine wl_op rfl (op_move (v := (Value.int .i64 ((a0.length : Int)))) rfl e21 ?_)
   refine wl_op rfl (op_move (v := (Value.slice z1 m1 k1)) rfl e17 ?_)
   refine wl_op rfl (op_len_rv rfl Try.underlying25 rfl h0_ ?_)
   refine wl_op rfl (op_lss (a := (a0.length : Int)) (b := (a0.length : Int)) rfl rfl rfl ?_)
   refine wl_nil ?_
   refine wp_cond_f (b := decide ((a0.length : Int) < (a0.length : Int))) rfl (len_f _) ?_
   refine wp_exit' ?_
   exact ⟨s2, hs1, I4, e17, e18, e19, e20⟩
 ·
  rintro f w ⟨out1, rfl, I5, e22, e23, e24, e25⟩
  have h := onL_inl h
  refine wp_seq' ?_
  refine wp_region' ?_
  refine wl_op rfl (op_assign (v := (Value.bool (false))) rfl rfl ?_)
  refine wl_nil ?_
  refine wp_ret' ?_
  obtain rfl := Option.some.inj h
  exact ⟨(Value.bool (false)), (res1 rfl rfl), _, [], (PH.Le.refl _), I5, rfl, rfl⟩

set_option maxHeartbeats 4000000 in
set_option maxRecDepth 100000 in
theorem F24_ok {w : World} {S : PH} {Fr : List HP} {a0 : Panel} {v0 : Value} {a1 : Int} {a2 : (List Signal)} {v2 : Value} {r : (List Int)} (hI : Inv w S (Fr)) (h0_ : RV S v0 a0) (h2_ : RV S v2 a2) (h : F24 a0 a1 a2 = some r) :
    Calls Try.prog 24 [v0, (Value.int .i64 (a1)), v2].toArray w (Done S Fr (fun T_ v_ O_ => ∃ (a0_ : Option Addr) (n0_ k0_ : Nat), v_ = (Value.slice a0_ n0_ k0_) ∧ O_ = [Row (α := Int) 3 (Value.slice a0_ n0_ k0_) (r)])) := by
 unfold F24 at h
 obtain ⟨c1, e1, r1⟩ := Panel.inv h0_
 subst e1
 obtain ⟨z1, m1, k1, e2⟩ := rv_form r1
 subst e2
 obtain ⟨z2, m2, k2, e3⟩ := rv_form h2_
 subst e3
 refine calls_enter (n := 52) (vs := [(Value.agg #[(Value.int .i64 (a0.Sensors)), (Value.slice z1 m1 k1), (Value.int .i64 (a0.Stale)), (Value.int .i64 (a0.Limit))]), (Value.int .i64 (a1)), (Value.slice z2 m2 k2)]) Try.func24 rfl rfl rfl ?_
 refine wp_seq' ?_
 refine wp_region' ?_
 refine wl_op rfl (op_box (v := (Value.agg #[(Value.int .i64 (a0.Sensors)), (Value.slice z1 m1 k1), (Value.int .i64 (a0.Stale)), (Value.int .i64 (a0.Limit))])) rfl hI rfl (fun g1 w1 I1 => ?_))
 obtain ⟨S1, le1, I2, p1⟩ := Inv.boxFreeze (x := a0) I1 (Panel.rv (s := a0) r1)
 refine wl_op rfl (op_assign (v := (Value.slice none 0 0)) rfl rfl ?_)
 refine wl_nil ?_
 refine wp_seq' ?_
 refine wp_region' ?_
 refine wl_op rfl (op_fieldAddr_t (v := (Value.pointer (some ⟨g1, 0, none⟩))) rfl fa24_0 rfl (p1.at_ I2) ?_)
 refine wl_op rfl (op_load_int (v := (fieldPtr (Value.pointer (some ⟨g1, 0, none⟩)) 0)) (e := a0.Sensors) rfl sh3 rfl ((p1.at_ I2).fld Panel.fld0) ?_)
 obtain ⟨x1, hx1, h⟩ := bnd h
 refine wl_op rfl (op_makeSlice (c := a0.Sensors) rfl Try.underlying34 el3 (by decide) rfl rfl I2 hx1 (fun u1 w2 I3 => ?_))
 obtain ⟨z3, m3, k3, e4⟩ := row_form I3
 subst e4
 refine wl_op rfl (op_assign (v := (Value.slice z3 m3 k3)) rfl rfl ?_)
 refine wl_nil ?_
 refine wp_seq' ?_
 refine wp_seq' ?_
 refine wp_region' ?_
 refine wl_op rfl (op_assign (v := (Value.int .i64 (0))) rfl rfl ?_)
 refine wl_nil ?_
 obtain ⟨out7, hrun7, h⟩ := bnd h
 refine wp_cutN (fun f w => ∃ (S_ : PH), S1.Le S_ ∧ Inv w S_ (Row (α := Int) 3 (Value.slice z3 m3 k3) (out7.1) :: Fr) ∧ f 1 = (Value.int .i64 (a1)) ∧ f 2 = (Value.slice z2 m2 k2) ∧ f 7 = (Value.slice z3 m3 k3) ∧ f 8 = (Value.int .i64 (out7.2))) ?_ ?_
 ·
  refine wp_block' ?_
  refine wp_whileO (I := fun (s7 : (List Int × Int)) (f : Frm) (w : World) => ∃ (S_ : PH), S1.Le S_ ∧ Inv w S_ (Row (α := Int) 3 (Value.slice z3 m3 k3) (s7.1) :: Fr) ∧ f 1 = (Value.int .i64 (a1)) ∧ f 2 = (Value.slice z2 m2 k2) ∧ f 7 = (Value.slice z3 m3 k3) ∧ f 8 = (Value.int .i64 (s7.2))) hrun7 ⟨_, (PH.Le.refl _), I3, rfl, rfl, rfl, rfl⟩ ?_
  rintro s7 f w o7 hI349 h85 hout7
  obtain ⟨S372, le372, I454, e467, e468, e469, e470⟩ := hI349
  refine wp_seq' ?_
  refine wp_seq' ?_
  refine wp_region' ?_
  refine wl_op rfl (op_move (v := (Value.int .i64 (s7.2))) rfl e470 ?_)
  refine wl_op rfl (op_move (v := (Value.int .i64 (a1))) rfl e467 ?_)
  refine wl_op rfl (op_leq (a := s7.2) (b := a1) rfl rfl rfl ?_)
  refine wl_nil ?_
  rcases ifs h85 with ⟨hc79, h85⟩ | ⟨hc79, h85⟩
  ·
   refine wp_cond_t (b := decide (s7.2 ≤ a1)) rfl hc79 ?_
   refine wp_skip' ?_
   refine wp_seq' ?_
   refine wp_block' ?_
   refine wp_seq' ?_
   refine wp_region' ?_
   refine wl_op rfl (op_assign (v := (Value.int .i64 (0))) rfl rfl ?_)
   refine wl_nil ?_
   have hk7 : a2.length ≤ 9223372036854775807 := (rv_len h2_)
   obtain ⟨out8, hrun8, h85⟩ := bnd h85
   refine wp_cutN (fun f w => ∃ (S_ : PH), S372.Le S_ ∧ Inv w S_ (Row (α := Int) 3 (Value.slice z3 m3 k3) (out8) :: Fr) ∧ f 1 = (Value.int .i64 (a1)) ∧ f 2 = (Value.slice z2 m2 k2) ∧ f 7 = (Value.slice z3 m3 k3) ∧ f 8 = (Value.int .i64 (s7.2))) ?_ ?_
   ·
    refine wp_block' ?_
    refine wp_forS (I := fun (i7 : Nat) (s8 : (List Int)) (f : Frm) (w : World) => ∃ (S_ : PH), S372.Le S_ ∧ Inv w S_ (Row (α := Int) 3 (Value.slice z3 m3 k3) (s8) :: Fr) ∧ f 1 = (Value.int .i64 (a1)) ∧ f 2 = (Value.slice z2 m2 k2) ∧ f 7 = (Value.slice z3 m3 k3) ∧ f 8 = (Value.int .i64 (s7.2)) ∧ f 9 = (Value.int .i64 (i7 : Int))) hrun8 ⟨_, (PH.Le.refl _), I454, e467, e468, e469, e470, rfl⟩ ?_ ?_
    ·
     rintro i7 s8 f w o8 hlt7 hI392 h96
     obtain ⟨S417, le417, I509, e519, e520, e521, e522, e523⟩ := hI392
     refine wp_seq' ?_
     refine wp_seq' ?_
     refine wp_region' ?_
     refine wl_op rfl (op_move (v := (Value.int .i64 ((i7 : Int)))) rfl e523 ?_)
     refine wl_op rfl (op_move (v := (Value.slice z2 m2 k2)) rfl e520 ?_)
     refine wl_op rfl (op_len_rv rfl Try.underlying25 rfl (h2_.mono ((le1.trans le372).trans le417)) ?_)
     refine wl_op rfl (op_lss (a := (i7 : Int)) (b := (a2.length : Int)) rfl rfl rfl ?_)
     refine wl_nil ?_
     refine wp_cond_t (b := decide ((i7 : Int) < (a2.length : Int))) rfl (len_t hlt7) ?_
     refine wp_skip' ?_
     refine wp_seq' ?_
     refine wp_block' ?_
     obtain ⟨v28, h99, h96⟩ := bnd h96
     refine wp_cut (fun f w => Inv w S417 (Row (α := Int) 3 (Value.slice z3 m3 k3) (s8) :: Fr) ∧ f 1 = (Value.int .i64 (a1)) ∧ f 2 = (Value.slice z2 m2 k2) ∧ f 7 = (Value.slice z3 m3 k3) ∧ f 8 = (Value.int .i64 (s7.2)) ∧ f 9 = (Value.int .i64 ((i7 : Int))) ∧ f 38 = (Value.bool (v28))) ?_ ?_
     ·
      refine wp_region' ?_
      refine wl_op rfl (op_move (v := (Value.slice z2 m2 k2)) rfl e520 ?_)
      refine wl_op rfl (op_move (v := (Value.int .i64 ((i7 : Int)))) rfl e523 ?_)
      obtain ⟨x166, hx166, h99⟩ := bnd h99
      refine wl_op rfl (op_indexAddr_rv (v := (Value.slice z2 m2 k2)) (i := (i7 : Int)) (e := x166) rfl Try.underlying25 sh46 rfl (h2_.mono ((le1.trans le372).trans le417)) rfl hx166 ?_)
      refine wl_op rfl (op_fieldAddr_t (v := (elemPtr (Value.slice z2 m2 k2) ((i7 : Int)) (Enc.sz Signal))) rfl fa46_0 rfl ((h2_.mono ((le1.trans le372).trans le417)).elem I509.in_ hx166) ?_)
      refine wl_op rfl (op_load_int (v := (fieldPtr (elemPtr (Value.slice z2 m2 k2) ((i7 : Int)) (Enc.sz Signal)) 0)) (e := x166.At) rfl sh3 rfl (((h2_.mono ((le1.trans le372).trans le417)).elem I509.in_ hx166).fld Signal.fld0) ?_)
      refine wl_op rfl (op_move (v := (Value.int .i64 (s7.2))) rfl e522 ?_)
      refine wl_op rfl (op_eql (a := x166.At) (b := s7.2) rfl rfl rfl ?_)
      refine wl_op rfl (op_move (v := (Value.bool (x166.At == s7.2))) rfl rfl ?_)
      rcases ifs h99 with ⟨hc90, h99⟩ | ⟨hc90, h99⟩
      ·
       refine wl_taken (c := x166.At == s7.2) rfl rfl rfl rfl hc90 (op_move (v := (Value.slice z2 m2 k2)) rfl e520 ?_)
       refine wl_taken (c := x166.At == s7.2) rfl rfl rfl rfl hc90 (op_move (v := (Value.int .i64 ((i7 : Int)))) rfl e523 ?_)
       obtain ⟨x167, hx167, h99⟩ := bnd h99
       refine wl_taken (c := x166.At == s7.2) rfl rfl rfl rfl hc90 (op_indexAddr_rv (v := (Value.slice z2 m2 k2)) (i := (i7 : Int)) (e := x167) rfl Try.underlying25 sh46 rfl (h2_.mono ((le1.trans le372).trans le417)) rfl hx167 ?_)
       refine wl_taken (c := x166.At == s7.2) rfl rfl rfl rfl hc90 (op_fieldAddr_t (v := (elemPtr (Value.slice z2 m2 k2) ((i7 : Int)) (Enc.sz Signal))) rfl fa46_1 rfl ((h2_.mono ((le1.trans le372).trans le417)).elem I509.in_ hx167) ?_)
       refine wl_taken (c := x166.At == s7.2) rfl rfl rfl rfl hc90 (op_load_int (v := (fieldPtr (elemPtr (Value.slice z2 m2 k2) ((i7 : Int)) (Enc.sz Signal)) 1)) (e := x167.Kind) rfl sh3 rfl (((h2_.mono ((le1.trans le372).trans le417)).elem I509.in_ hx167).fld Signal.fld1) ?_)
       refine wl_taken (c := x166.At == s7.2) rfl rfl rfl rfl hc90 (op_eql (a := x167.Kind) (b := 1) rfl rfl rfl ?_)
       refine wl_op rfl (op_pick_t (c := x166.At == s7.2) (a := (Value.bool (x167.Kind == 1))) rfl rfl hc90 rfl ?_)
       refine wl_nil ?_
       obtain rfl := Option.some.inj h99
       exact ⟨I509, e519, e520, e521, e522, e523, rfl⟩
      ·
       refine wl_skip (c := x166.At == s7.2) rfl rfl rfl rfl hc90 rfl ?_
       refine wl_skip (c := x166.At == s7.2) rfl rfl rfl rfl hc90 rfl ?_
       refine wl_skip (c := x166.At == s7.2) rfl rfl rfl rfl hc90 rfl ?_
       refine wl_skip (c := x166.At == s7.2) rfl rfl rfl rfl hc90 rfl ?_
       refine wl_skip (c := x166.At == s7.2) rfl rfl rfl rfl hc90 rfl ?_
       refine wl_skip (c := x166.At == s7.2) rfl rfl rfl rfl hc90 rfl ?_
       refine wl_op rfl (op_pick_f (c := x166.At == s7.2) (b := (Value.bool (false))) rfl rfl hc90 rfl ?_)
       refine wl_nil ?_
       obtain rfl := Option.some.inj h99
       exact ⟨I509, e519, e520, e521, e522, e523, rfl⟩
     ·
      rintro f w ⟨I510, e524, e525, e526, e527, e528, e529⟩
      rcases ifs h96 with ⟨hc91, h96⟩ | ⟨hc91, h96⟩
      ·
       refine wp_cond_t (b := v28) e529 hc91 ?_
       obtain ⟨x168, hx168, h96⟩ := bnd h96
       obtain ⟨x169, hx169, h96⟩ := bnd h96
       refine wp_draw (sps := [⟨some 39, [], [0], fun vs_ T_ => fr0 vs_ 0 = (Value.slice z3 m3 k3), [], [], [], fun _ h_ => h_⟩, ⟨some 40, [], [1], fun vs_ T_ => fr0 vs_ 0 = (Value.slice z2 m2 k2), [], [], [], fun _ h_ => h_⟩, ⟨some 41, [], [2], fun vs_ T_ => fr0 vs_ 0 = (Value.int .i64 ((i7 : Int))), [], [], [], fun _ h_ => h_⟩, ⟨some 42, [1, 2], [3], fun vs_ T_ => fr0 vs_ 0 = (elemPtr (Value.slice z2 m2 k2) ((i7 : Int)) (Enc.sz Signal)), [], [], [], fun _ h_ => h_⟩, ⟨some 43, [1, 2, 3], [4], fun vs_ T_ => fr0 vs_ 0 = (fieldPtr (elemPtr (Value.slice z2 m2 k2) ((i7 : Int)) (Enc.sz Signal)) 2), [], [], [], fun _ h_ => h_⟩, ⟨some 44, [1, 2, 3, 4], [5], fun vs_ T_ => fr0 vs_ 0 = (Value.int .i64 (x168.Number)), [], [], [], fun _ h_ => h_⟩, ⟨some 45, [], [6], fun vs_ T_ => fr0 vs_ 0 = (Value.slice z2 m2 k2), [], [], [], fun _ h_ => h_⟩, ⟨some 46, [], [7], fun vs_ T_ => fr0 vs_ 0 = (Value.int .i64 ((i7 : Int))), [], [], [], fun _ h_ => h_⟩, ⟨some 47, [6, 7], [8], fun vs_ T_ => fr0 vs_ 0 = (elemPtr (Value.slice z2 m2 k2) ((i7 : Int)) (Enc.sz Signal)), [], [], [], fun _ h_ => h_⟩, ⟨some 48, [6, 7, 8], [9], fun vs_ T_ => fr0 vs_ 0 = (fieldPtr (elemPtr (Value.slice z2 m2 k2) ((i7 : Int)) (Enc.sz Signal)) 3), [], [], [], fun _ h_ => h_⟩, ⟨some 49, [6, 7, 8, 9], [10], fun vs_ T_ => fr0 vs_ 0 = (Value.int .i64 (x168.Value)), [], [], [], fun _ h_ => h_⟩, ⟨some 50, [0, 1, 2, 3, 4, 5, 6, 7, 8, 9, 10], [11], fun vs_ T_ => fr0 vs_ 0 = (elemPtr (Value.slice z3 m3 k3) (x168.Number) (Enc.sz Int)), [0], [], [], fun _ h_ => h_⟩, ⟨none, [0, 1, 2, 3, 4, 5, 6, 7, 8, 9, 10, 11], [], fun vs_ T_ => True, [], [0], [1], fun _ h_ => h_⟩]) (tks := [⟨none, some 12, [], fun vs_ => Row (α := Int) 3 (Value.slice z3 m3 k3) (s8)⟩, ⟨some 12, none, [], fun vs_ => Row (α := Int) 3 (Value.slice z3 m3 k3) (s8.set (x168.Number).toNat x168.Value)⟩]) (O := Fr) rfl (by kernel_rfl) I510 ⟨?_, ?_, ?_, ?_, ?_, ?_, ?_, ?_, ?_, ?_, ?_, ?_, ?_, trivial⟩ ?_
       ·
        intro vs379 f w437 S418 X352 le418 hA352 hK379 hI393
        have I512 : Inv w437 S418 (X352) := hI393
        refine opg_plain rfl rfl (op_move (v := (Value.slice z3 m3 k3)) rfl ((hK379 7 (keep_of rfl)).trans e526) ?_)
        refine ⟨_, _, rfl, PH.Le.refl _, ?_, ?_⟩
        ·
         exact rfl
        ·
         exact I512
       ·
        intro vs380 f w438 S419 X353 le419 hA353 hK380 hI394
        have I513 : Inv w438 S419 (X353) := hI394
        refine opg_plain rfl rfl (op_move (v := (Value.slice z2 m2 k2)) rfl ((hK380 2 (keep_of rfl)).trans e525) ?_)
        refine ⟨_, _, rfl, PH.Le.refl _, ?_, ?_⟩
        ·
         exact rfl
        ·
         exact I513
       ·
        intro vs381 f w439 S420 X354 le420 hA354 hK381 hI395
        have I514 : Inv w439 S420 (X354) := hI395
        refine opg_plain rfl rfl (op_move (v := (Value.int .i64 ((i7 : Int)))) rfl ((hK381 9 (keep_of rfl)).trans e528) ?_)
        refine ⟨_, _, rfl, PH.Le.refl _, ?_, ?_⟩
        ·
         exact rfl
        ·
         exact I514
       ·
        intro vs382 f w440 S421 X355 le421 hA355 hK382 hI396
        have I515 : Inv w440 S421 (X355) := hI396
        have q325 : f 40 = (Value.slice z2 m2 k2) := vt (hA355.at_ 0 rfl _ rfl) rfl
        have q326 : f 41 = (Value.int .i64 ((i7 : Int))) := vt (hA355.at_ 1 rfl _ rfl) rfl
        refine opg_plain rfl rfl (op_indexAddr_rv (v := (Value.slice z2 m2 k2)) (i := (i7 : Int)) (e := x168) rfl Try.underlying25 sh46 q325 (h2_.mono (((le1.trans le372).trans le417).trans le421)) q326 hx168 ?_)
        refine ⟨_, _, rfl, PH.Le.refl _, ?_, ?_⟩
        ·
         exact rfl
        ·
         exact I515
       ·
        intro vs383 f w441 S422 X356 le422 hA356 hK383 hI397
        have I516 : Inv w441 S422 (X356) := hI397
        have q327 : f 42 = (elemPtr (Value.slice z2 m2 k2) ((i7 : Int)) (Enc.sz Signal)) := vt (hA356.at_ 2 rfl _ rfl) rfl
        refine opg_plain rfl rfl (op_fieldAddr_t (v := (elemPtr (Value.slice z2 m2 k2) ((i7 : Int)) (Enc.sz Signal))) rfl fa46_2 q327 ((h2_.mono (((le1.trans le372).trans le417).trans le422)).elem I516.in_ hx168) ?_)
        refine ⟨_, _, rfl, PH.Le.refl _, ?_, ?_⟩
        ·
         exact rfl
        ·
         exact I516
       ·
        intro vs384 f w442 S423 X357 le423 hA357 hK384 hI398
        have I517 : Inv w442 S423 (X357) := hI398
        have q328 : f 43 = (fieldPtr (elemPtr (Value.slice z2 m2 k2) ((i7 : Int)) (Enc.sz Signal)) 2) := vt (hA357.at_ 3 rfl _ rfl) rfl
        refine opg_plain rfl rfl (op_load_int (v := (fieldPtr (elemPtr (Value.slice z2 m2 k2) ((i7 : Int)) (Enc.sz Signal)) 2)) (e := x168.Number) rfl sh3 q328 (((h2_.mono (((le1.trans le372).trans le417).trans le423)).elem I517.in_ hx168).fld Signal.fld2) ?_)
        refine ⟨_, _, rfl, PH.Le.refl _, ?_, ?_⟩
        ·
         exact rfl
        ·
         exact I517
       ·
        intro vs385 f w443 S424 X358 le424 hA358 hK385 hI399
        have I518 : Inv w443 S424 (X358) := hI399
        refine opg_plain rfl rfl (op_move (v := (Value.slice z2 m2 k2)) rfl ((hK385 2 (keep_of rfl)).trans e525) ?_)
        refine ⟨_, _, rfl, PH.Le.refl _, ?_, ?_⟩
        ·
         exact rfl
        ·
         exact I518
       ·
        intro vs386 f w444 S425 X359 le425 hA359 hK386 hI400
        have I519 : Inv w444 S425 (X359) := hI400
        refine opg_plain rfl rfl (op_move (v := (Value.int .i64 ((i7 : Int)))) rfl ((hK386 9 (keep_of rfl)).trans e528) ?_)
        refine ⟨_, _, rfl, PH.Le.refl _, ?_, ?_⟩
        ·
         exact rfl
        ·
         exact I519
       ·
        intro vs387 f w445 S426 X360 le426 hA360 hK387 hI401
        have I520 : Inv w445 S426 (X360) := hI401
        have q329 : f 45 = (Value.slice z2 m2 k2) := vt (hA360.at_ 0 rfl _ rfl) rfl
        have q330 : f 46 = (Value.int .i64 ((i7 : Int))) := vt (hA360.at_ 1 rfl _ rfl) rfl
        refine opg_plain rfl rfl (op_indexAddr_rv (v := (Value.slice z2 m2 k2)) (i := (i7 : Int)) (e := x168) rfl Try.underlying25 sh46 q329 (h2_.mono (((le1.trans le372).trans le417).trans le426)) q330 hx168 ?_)
        refine ⟨_, _, rfl, PH.Le.refl _, ?_, ?_⟩
        ·
         exact rfl
        ·
         exact I520
       ·
        intro vs388 f w446 S427 X361 le427 hA361 hK388 hI402
        have I521 : Inv w446 S427 (X361) := hI402
        have q331 : f 47 = (elemPtr (Value.slice z2 m2 k2) ((i7 : Int)) (Enc.sz Signal)) := vt (hA361.at_ 2 rfl _ rfl) rfl
        refine opg_plain rfl rfl (op_fieldAddr_t (v := (elemPtr (Value.slice z2 m2 k2) ((i7 : Int)) (Enc.sz Signal))) rfl fa46_3 q331 ((h2_.mono (((le1.trans le372).trans le417).trans le427)).elem I521.in_ hx168) ?_)
        refine ⟨_, _, rfl, PH.Le.refl _, ?_, ?_⟩
        ·
         exact rfl
        ·
         exact I521
       ·
        intro vs389 f w447 S428 X362 le428 hA362 hK389 hI403
        have I522 : Inv w447 S428 (X362) := hI403
        have q332 : f 48 = (fieldPtr (elemPtr (Value.slice z2 m2 k2) ((i7 : Int)) (Enc.sz Signal)) 3) := vt (hA362.at_ 3 rfl _ rfl) rfl
        refine opg_plain rfl rfl (op_load_int (v := (fieldPtr (elemPtr (Value.slice z2 m2 k2) ((i7 : Int)) (Enc.sz Signal)) 3)) (e := x168.Value) rfl sh3 q332 (((h2_.mono (((le1.trans le372).trans le417).trans le428)).elem I522.in_ hx168).fld Signal.fld3) ?_)
        refine ⟨_, _, rfl, PH.Le.refl _, ?_, ?_⟩
        ·
         exact rfl
        ·
         exact I522
       ·
        intro vs390 f w448 S429 X363 le429 hA363 hK390 hI404
        have I523 : Inv w448 S429 (Row (α := Int) 3 (Value.slice z3 m3 k3) (s8) :: X363) := hI404
        have q333 : f 39 = (Value.slice z3 m3 k3) := vt (hA363.at_ 0 rfl _ rfl) rfl
        have q334 : f 44 = (Value.int .i64 (x168.Number)) := vt (hA363.at_ 5 rfl _ rfl) rfl
        refine opg_plain rfl rfl (op_indexAddr_src (v := (Value.slice z3 m3 k3)) (i := x168.Number) (e := x169) rfl Try.underlying34 sh3 q333 (Inv.rowSrc (I523.nth 0 rfl)) q334 hx169 ?_)
        refine ⟨_, _, rfl, PH.Le.refl _, ?_, ?_⟩
        ·
         exact rfl
        ·
         exact I523
       ·
        intro vs391 f w449 S430 X364 le430 hA364 hK391 hI405
        have I524 : Inv w449 S430 (Row (α := Int) 3 (Value.slice z3 m3 k3) (s8) :: X364) := hI405
        have q335 : f 49 = (Value.int .i64 (x168.Value)) := vt (hA364.at_ 10 rfl _ rfl) rfl
        have q336 : f 50 = (elemPtr (Value.slice z3 m3 k3) (x168.Number) (Enc.sz Int)) := vt (hA364.at_ 11 rfl _ rfl) rfl
        refine opg_plain rfl rfl (op_storeRow (u := (Value.int .i64 (x168.Value))) (e' := x168.Value) sh3 I524 q336 q335 hx169 (rv_int' _) (fun w450 I525 => ?_))
        refine ⟨undef, _, rfl, PH.Le.refl _, ?_, ?_⟩
        ·
         exact trivial
        ·
         exact I525
       ·
        intro vs392 f w451 S431 le431 hF28 hK392 hI406
        have e530 : f 1 = (Value.int .i64 (a1)) := (hK392 1 (keep_all rfl)).trans e524
        have e531 : f 2 = (Value.slice z2 m2 k2) := (hK392 2 (keep_all rfl)).trans e525
        have e532 : f 7 = (Value.slice z3 m3 k3) := (hK392 7 (keep_all rfl)).trans e526
        have e533 : f 8 = (Value.int .i64 (s7.2)) := (hK392 8 (keep_all rfl)).trans e527
        have e534 : f 9 = (Value.int .i64 ((i7 : Int))) := (hK392 9 (keep_all rfl)).trans e528
        have I526 : Inv w451 S431 (Row (α := Int) 3 (Value.slice z3 m3 k3) (s8.set (x168.Number).toNat x168.Value) :: Fr) := hI406
        refine wp_region' ?_
        refine wl_op rfl (op_move (v := (Value.int .i64 ((i7 : Int)))) rfl e534 ?_)
        refine wl_op rfl (op_add (a := (i7 : Int)) (b := 1) rfl rfl rfl ?_)
        refine wl_op rfl (op_assign (v := (Value.int .i64 (w64 ((i7 : Int) + 1)))) rfl rfl ?_)
        refine wl_nil ?_
        obtain rfl := Option.some.inj h96
        exact ⟨_, (le417.trans le431), I526, e530, e531, e532, e533, (idx_next hlt7 hk7)⟩
      ·
       refine wp_cond_f (b := v28) e529 hc91 ?_
       refine wp_skip' ?_
       refine wp_region' ?_
       refine wl_op rfl (op_move (v := (Value.int .i64 ((i7 : Int)))) rfl e528 ?_)
       refine wl_op rfl (op_add (a := (i7 : Int)) (b := 1) rfl rfl rfl ?_)
       refine wl_op rfl (op_assign (v := (Value.int .i64 (w64 ((i7 : Int) + 1)))) rfl rfl ?_)
       refine wl_nil ?_
       obtain rfl := Option.some.inj h96
       exact ⟨_, le417, I510, e524, e525, e526, e527, (idx_next hlt7 hk7)⟩
    ·
     rintro f w hI407
     obtain ⟨S432, le432, I527, e535, e536, e537, e538, e539⟩ := hI407
     refine wp_seq' ?_
     refine wp_seq' ?_
     refine wp_region' ?_
     refine wl_op rfl (op_move (v := (Value.int .i64 ((a2.length : Int)))) rfl e539 ?_)
     refine wl_op rfl (op_move (v := (Value.slice z2 m2 k2)) rfl e536 ?_)
     refine wl_op rfl (op_len_rv rfl Try.underlying25 rfl (h2_.mono ((le1.trans le372).trans le432)) ?_)
     refine wl_op rfl (op_lss (a := (a2.length : Int)) (b := (a2.length : Int)) rfl rfl rfl ?_)
     refine wl_nil ?_
     refine wp_cond_f (b := decide ((a2.length : Int) < (a2.length : Int))) rfl (len_f _) ?_
     refine wp_exit' ?_
     exact ⟨_, le432, I527, e535, e536, e537, e538⟩
   ·
    rintro f w ⟨S433, le433, I528, e540, e541, e542, e543⟩
    refine wp_region' ?_
    refine wl_op rfl (op_move (v := (Value.int .i64 (s7.2))) rfl e543 ?_)
    refine wl_op rfl (op_add (a := s7.2) (b := 1) rfl rfl rfl ?_)
    refine wl_op rfl (op_assign (v := (Value.int .i64 (w64 (s7.2 + 1)))) rfl rfl ?_)
    refine wl_nil ?_
    obtain rfl := Option.some.inj h85
    exact ⟨_, rfl, _, (le372.trans le433), I528, e540, e541, e542, rfl⟩
  ·
   refine wp_cond_f (b := decide (s7.2 ≤ a1)) rfl hc79 ?_
   refine wp_exit' ?_
   obtain rfl := Option.some.inj h85
   obtain rfl := (hout7 _ rfl)
   exact ⟨_, le372, I454, e467, e468, e469, e470⟩
 ·
  rintro f w ⟨S434, le434, I529, e544, e545, e546, e547⟩
  refine wp_seq' ?_
  refine wp_region' ?_
  refine wl_op rfl (op_move (v := (Value.slice z3 m3 k3)) rfl e546 ?_)
  refine wl_op rfl (op_assign (v := (Value.slice z3 m3 k3)) rfl rfl ?_)
  refine wl_nil ?_
  refine wp_ret' ?_
  obtain rfl := Option.some.inj h
  exact ⟨(Value.slice z3 m3 k3), (res1 rfl rfl), _, [Row (α := Int) 3 (Value.slice z3 m3 k3) (out7.1)], (le1.trans le434), I529, _, _, _, rfl, rfl⟩

set_option maxHeartbeats 4000000 in
set_option maxRecDepth 100000 in
theorem F23_ok {w : World} {S : PH} {Fr : List HP} {a0 : (List Sense)} {v0 : Value} {a1 : (List Int)} {v1 : Value} {r : Bool} (hI : Inv w S (Fr)) (h0_ : RV S v0 a0) (h1_ : RV S v1 a1) (h : F23 a0 a1 = some r) :
    Calls Try.prog 23 [v0, v1].toArray w (DoneV S Fr (Value.bool (r))) := by
 unfold F23 at h
 obtain ⟨z1, m1, k1, e1⟩ := rv_form h0_
 subst e1
 obtain ⟨z2, m2, k2, e2⟩ := rv_form h1_
 subst e2
 refine calls_enter (n := 32) (vs := [(Value.slice z1 m1 k1), (Value.slice z2 m2 k2)]) Try.func23 rfl rfl rfl ?_
 refine wp_seq' ?_
 refine wp_region' ?_
 refine wl_op rfl (op_assign (v := (Value.bool (false))) rfl rfl ?_)
 refine wl_nil ?_
 refine wp_seq' ?_
 refine wp_seq' ?_
 refine wp_region' ?_
 refine wl_op rfl (op_assign (v := (Value.int .i64 (0))) rfl rfl ?_)
 refine wl_nil ?_
 have hk1 : a0.length ≤ 9223372036854775807 := (rv_len h0_)
 obtain ⟨o2, hrun1, h⟩ := bnd h
 refine wp_cutN (fun f w => ∃ out1, o2 = Sum.inl out1 ∧ ∃ (S_ : PH), S.Le S_ ∧ Inv w S_ (Fr) ∧ f 0 = (Value.slice z1 m1 k1) ∧ f 1 = (Value.slice z2 m2 k2)) ?_ ?_
 ·
  refine wp_block' ?_
  refine wp_forN (I := fun (i1 : Nat) (s1 : Unit) (f : Frm) (w : World) => ∃ (S_ : PH), S.Le S_ ∧ Inv w S_ (Fr) ∧ f 0 = (Value.slice z1 m1 k1) ∧ f 1 = (Value.slice z2 m2 k2) ∧ f 5 = (Value.int .i64 (i1 : Int))) hrun1 ⟨_, (PH.Le.refl _), hI, rfl, rfl, rfl⟩ ?_ ?_
  ·
   rintro i1 s1 f w o1 hlt1 hI64 h1 hout1
   obtain ⟨S66, le66, I67, e21, e22, e23⟩ := hI64
   refine wp_seq' ?_
   refine wp_seq' ?_
   refine wp_region' ?_
   refine wl_op rfl (op_move (v := (Value.int .i64 ((i1 : Int)))) rfl e23 ?_)
   refine wl_op rfl (op_move (v := (Value.slice z1 m1 k1)) rfl e21 ?_)
   refine wl_op rfl (op_len_rv rfl Try.underlying31 rfl (h0_.mono le66) ?_)
   refine wl_op rfl (op_lss (a := (i1 : Int)) (b := (a0.length : Int)) rfl rfl rfl ?_)
   refine wl_nil ?_
   refine wp_cond_t (b := decide ((i1 : Int) < (a0.length : Int))) rfl (len_t hlt1) ?_
   refine wp_skip' ?_
   refine wp_seq' ?_
   refine wp_block' ?_
   refine wp_seq' ?_
   obtain ⟨x7, hx7, h1⟩ := bnd h1
   obtain ⟨x8, hx8, h1⟩ := bnd h1
   refine wp_draw (sps := [⟨some 12, [], [0], fun vs_ T_ => fr0 vs_ 0 = (Value.slice z2 m2 k2), [], [], [], fun _ h_ => h_⟩, ⟨some 13, [], [1], fun vs_ T_ => fr0 vs_ 0 = (Value.slice z1 m1 k1), [], [], [], fun _ h_ => h_⟩, ⟨some 14, [], [2], fun vs_ T_ => fr0 vs_ 0 = (Value.int .i64 ((i1 : Int))), [], [], [], fun _ h_ => h_⟩, ⟨some 15, [1, 2], [3], fun vs_ T_ => fr0 vs_ 0 = (elemPtr (Value.slice z1 m1 k1) ((i1 : Int)) (Enc.sz Sense)), [], [], [], fun _ h_ => h_⟩, ⟨some 16, [1, 2, 3], [4], fun vs_ T_ => fr0 vs_ 0 = (fieldPtr (elemPtr (Value.slice z1 m1 k1) ((i1 : Int)) (Enc.sz Sense)) 0), [], [], [], fun _ h_ => h_⟩, ⟨some 17, [1, 2, 3, 4], [5], fun vs_ T_ => fr0 vs_ 0 = (Value.int .i64 (x7.Sensor)), [], [], [], fun _ h_ => h_⟩, ⟨some 18, [0, 1, 2, 3, 4, 5], [6], fun vs_ T_ => fr0 vs_ 0 = (elemPtr (Value.slice z2 m2 k2) (x7.Sensor) (Enc.sz Int)), [], [], [], fun _ h_ => h_⟩, ⟨some 19, [0, 1, 2, 3, 4, 5, 6], [7], fun vs_ T_ => fr0 vs_ 0 = (Value.int .i64 (x8)), [], [], [], fun _ h_ => h_⟩, ⟨some 20, [], [8], fun vs_ T_ => fr0 vs_ 0 = (Value.slice z1 m1 k1), [], [], [], fun _ h_ => h_⟩, ⟨some 21, [], [9], fun vs_ T_ => fr0 vs_ 0 = (Value.int .i64 ((i1 : Int))), [], [], [], fun _ h_ => h_⟩, ⟨some 22, [8, 9], [10], fun vs_ T_ => fr0 vs_ 0 = (elemPtr (Value.slice z1 m1 k1) ((i1 : Int)) (Enc.sz Sense)), [], [], [], fun _ h_ => h_⟩, ⟨some 23, [8, 9, 10], [11], fun vs_ T_ => fr0 vs_ 0 = (fieldPtr (elemPtr (Value.slice z1 m1 k1) ((i1 : Int)) (Enc.sz Sense)) 1), [], [], [], fun _ h_ => h_⟩, ⟨some 24, [8, 9, 10, 11], [12], fun vs_ T_ => fr0 vs_ 0 = (Value.int .i64 (x7.Value)), [], [], [], fun _ h_ => h_⟩, ⟨some 25, [0, 1, 2, 3, 4, 5, 6, 7, 8, 9, 10, 11, 12], [13], fun vs_ T_ => fr0 vs_ 0 = (Value.bool (x8 == x7.Value)), [], [], [], fun _ h_ => h_⟩, ⟨some 26, [], [14], fun vs_ T_ => fr0 vs_ 0 = (Value.slice z1 m1 k1), [], [], [], fun _ h_ => h_⟩, ⟨some 27, [], [15], fun vs_ T_ => fr0 vs_ 0 = (Value.int .i64 ((i1 : Int))), [], [], [], fun _ h_ => h_⟩, ⟨some 28, [14, 15], [16], fun vs_ T_ => fr0 vs_ 0 = (elemPtr (Value.slice z1 m1 k1) ((i1 : Int)) (Enc.sz Sense)), [], [], [], fun _ h_ => h_⟩, ⟨some 29, [14, 15, 16], [17], fun vs_ T_ => fr0 vs_ 0 = (fieldPtr (elemPtr (Value.slice z1 m1 k1) ((i1 : Int)) (Enc.sz Sense)) 2), [], [], [], fun _ h_ => h_⟩, ⟨some 30, [14, 15, 16, 17], [18], fun vs_ T_ => fr0 vs_ 0 = (Value.bool (x7.Not)), [], [], [], fun _ h_ => h_⟩, ⟨some 31, [0, 1, 2, 3, 4, 5, 6, 7, 8, 9, 10, 11, 12, 13, 14, 15, 16, 17, 18], [19], fun vs_ T_ => fr0 vs_ 0 = (Value.bool ((x8 == x7.Value) == x7.Not)), [], [], [], fun _ h_ => h_⟩]) (tks := []) (O := Fr) rfl (by kernel_rfl) I67 ⟨?_, ?_, ?_, ?_, ?_, ?_, ?_, ?_, ?_, ?_, ?_, ?_, ?_, ?_, ?_, ?_, ?_, ?_, ?_, ?_, trivial⟩ ?_
   ·
    intro vs64 f w65 S67 X61 le67 hA61 hK64 hI65
    have I68 : Inv w65 S67 (X61) := hI65
    refine opg_plain rfl rfl (op_move (v := (Value.slice z2 m2 k2)) rfl ((hK64 1 (keep_of rfl)).trans e22) ?_)
    refine ⟨_, _, rfl, PH.Le.refl _, ?_, ?_⟩
    ·
     exact rfl
    ·
     exact I68
   ·
    intro vs65 f w66 S68 X62 le68 hA62 hK65 hI66
    have I69 : Inv w66 S68 (X62) := hI66
    refine opg_plain rfl rfl (op_move (v := (Value.slice z1 m1 k1)) rfl ((hK65 0 (keep_of rfl)).trans e21) ?_)
    refine ⟨_, _, rfl, PH.Le.refl _, ?_, ?_⟩
    ·
     exact rfl
    ·
     exact I69
   ·
    intro vs66 f w67 S69 X63 le69 hA63 hK66 hI67
    have I70 : Inv w67 S69 (X63) := hI67
    refine opg_plain rfl rfl (op_move (v := (Value.int .i64 ((i1 : Int)))) rfl ((hK66 5 (keep_of rfl)).trans e23) ?_)
    refine ⟨_, _, rfl, PH.Le.refl _, ?_, ?_⟩
    ·
     exact rfl
    ·
     exact I70
   ·
    intro vs67 f w68 S70 X64 le70 hA64 hK67 hI68
    have I71 : Inv w68 S70 (X64) := hI68
    have q61 : f 13 = (Value.slice z1 m1 k1) := vt (hA64.at_ 0 rfl _ rfl) rfl
    have q62 : f 14 = (Value.int .i64 ((i1 : Int))) := vt (hA64.at_ 1 rfl _ rfl) rfl
    refine opg_plain rfl rfl (op_indexAddr_rv (v := (Value.slice z1 m1 k1)) (i := (i1 : Int)) (e := x7) rfl Try.underlying31 sh44 q61 (h0_.mono (le66.trans le70)) q62 hx7 ?_)
    refine ⟨_, _, rfl, PH.Le.refl _, ?_, ?_⟩
    ·
     exact rfl
    ·
     exact I71
   ·
    intro vs68 f w69 S71 X65 le71 hA65 hK68 hI69
    have I72 : Inv w69 S71 (X65) := hI69
    have q63 : f 15 = (elemPtr (Value.slice z1 m1 k1) ((i1 : Int)) (Enc.sz Sense)) := vt (hA65.at_ 2 rfl _ rfl) rfl
    refine opg_plain rfl rfl (op_fieldAddr_t (v := (elemPtr (Value.slice z1 m1 k1) ((i1 : Int)) (Enc.sz Sense))) rfl fa44_0 q63 ((h0_.mono (le66.trans le71)).elem I72.in_ hx7) ?_)
    refine ⟨_, _, rfl, PH.Le.refl _, ?_, ?_⟩
    ·
     exact rfl
    ·
     exact I72
   ·
    intro vs69 f w70 S72 X66 le72 hA66 hK69 hI70
    have I73 : Inv w70 S72 (X66) := hI70
    have q64 : f 16 = (fieldPtr (elemPtr (Value.slice z1 m1 k1) ((i1 : Int)) (Enc.sz Sense)) 0) := vt (hA66.at_ 3 rfl _ rfl) rfl
    refine opg_plain rfl rfl (op_load_int (v := (fieldPtr (elemPtr (Value.slice z1 m1 k1) ((i1 : Int)) (Enc.sz Sense)) 0)) (e := x7.Sensor) rfl sh3 q64 (((h0_.mono (le66.trans le72)).elem I73.in_ hx7).fld Sense.fld0) ?_)
    refine ⟨_, _, rfl, PH.Le.refl _, ?_, ?_⟩
    ·
     exact rfl
    ·
     exact I73
   ·
    intro vs70 f w71 S73 X67 le73 hA67 hK70 hI71
    have I74 : Inv w71 S73 (X67) := hI71
    have q65 : f 12 = (Value.slice z2 m2 k2) := vt (hA67.at_ 0 rfl _ rfl) rfl
    have q66 : f 17 = (Value.int .i64 (x7.Sensor)) := vt (hA67.at_ 5 rfl _ rfl) rfl
    refine opg_plain rfl rfl (op_indexAddr_rv (v := (Value.slice z2 m2 k2)) (i := x7.Sensor) (e := x8) rfl Try.underlying34 sh3 q65 (h1_.mono (le66.trans le73)) q66 hx8 ?_)
    refine ⟨_, _, rfl, PH.Le.refl _, ?_, ?_⟩
    ·
     exact rfl
    ·
     exact I74
   ·
    intro vs71 f w72 S74 X68 le74 hA68 hK71 hI72
    have I75 : Inv w72 S74 (X68) := hI72
    have q67 : f 18 = (elemPtr (Value.slice z2 m2 k2) (x7.Sensor) (Enc.sz Int)) := vt (hA68.at_ 6 rfl _ rfl) rfl
    refine opg_plain rfl rfl (op_load_int (v := (elemPtr (Value.slice z2 m2 k2) (x7.Sensor) (Enc.sz Int))) (e := x8) rfl sh3 q67 ((h1_.mono (le66.trans le74)).elem I75.in_ hx8) ?_)
    refine ⟨_, _, rfl, PH.Le.refl _, ?_, ?_⟩
    ·
     exact rfl
    ·
     exact I75
   ·
    intro vs72 f w73 S75 X69 le75 hA69 hK72 hI73
    have I76 : Inv w73 S75 (X69) := hI73
    refine opg_plain rfl rfl (op_move (v := (Value.slice z1 m1 k1)) rfl ((hK72 0 (keep_of rfl)).trans e21) ?_)
    refine ⟨_, _, rfl, PH.Le.refl _, ?_, ?_⟩
    ·
     exact rfl
    ·
     exact I76
   ·
    intro vs73 f w74 S76 X70 le76 hA70 hK73 hI74
    have I77 : Inv w74 S76 (X70) := hI74
    refine opg_plain rfl rfl (op_move (v := (Value.int .i64 ((i1 : Int)))) rfl ((hK73 5 (keep_of rfl)).trans e23) ?_)
    refine ⟨_, _, rfl, PH.Le.refl _, ?_, ?_⟩
    ·
     exact rfl
    ·
     exact I77
   ·
    intro vs74 f w75 S77 X71 le77 hA71 hK74 hI75
    have I78 : Inv w75 S77 (X71) := hI75
    have q68 : f 20 = (Value.slice z1 m1 k1) := vt (hA71.at_ 0 rfl _ rfl) rfl
    have q69 : f 21 = (Value.int .i64 ((i1 : Int))) := vt (hA71.at_ 1 rfl _ rfl) rfl
    refine opg_plain rfl rfl (op_indexAddr_rv (v := (Value.slice z1 m1 k1)) (i := (i1 : Int)) (e := x7) rfl Try.underlying31 sh44 q68 (h0_.mono (le66.trans le77)) q69 hx7 ?_)
    refine ⟨_, _, rfl, PH.Le.refl _, ?_, ?_⟩
    ·
     exact rfl
    ·
     exact I78
   ·
    intro vs75 f w76 S78 X72 le78 hA72 hK75 hI76
    have I79 : Inv w76 S78 (X72) := hI76
    have q70 : f 22 = (elemPtr (Value.slice z1 m1 k1) ((i1 : Int)) (Enc.sz Sense)) := vt (hA72.at_ 2 rfl _ rfl) rfl
    refine opg_plain rfl rfl (op_fieldAddr_t (v := (elemPtr (Value.slice z1 m1 k1) ((i1 : Int)) (Enc.sz Sense))) rfl fa44_1 q70 ((h0_.mono (le66.trans le78)).elem I79.in_ hx7) ?_)
    refine ⟨_, _, rfl, PH.Le.refl _, ?_, ?_⟩
    ·
     exact rfl
    ·
     exact I79
   ·
    intro vs76 f w77 S79 X73 le79 hA73 hK76 hI77
    have I80 : Inv w77 S79 (X73) := hI77
    have q71 : f 23 = (fieldPtr (elemPtr (Value.slice z1 m1 k1) ((i1 : Int)) (Enc.sz Sense)) 1) := vt (hA73.at_ 3 rfl _ rfl) rfl
    refine opg_plain rfl rfl (op_load_int (v := (fieldPtr (elemPtr (Value.slice z1 m1 k1) ((i1 : Int)) (Enc.sz Sense)) 1)) (e := x7.Value) rfl sh3 q71 (((h0_.mono (le66.trans le79)).elem I80.in_ hx7).fld Sense.fld1) ?_)
    refine ⟨_, _, rfl, PH.Le.refl _, ?_, ?_⟩
    ·
     exact rfl
    ·
     exact I80
   ·
    intro vs77 f w78 S80 X74 le80 hA74 hK77 hI78
    have I81 : Inv w78 S80 (X74) := hI78
    have q72 : f 19 = (Value.int .i64 (x8)) := vt (hA74.at_ 7 rfl _ rfl) rfl
    have q73 : f 24 = (Value.int .i64 (x7.Value)) := vt (hA74.at_ 12 rfl _ rfl) rfl
    refine opg_plain rfl rfl (op_eql (a := x8) (b := x7.Value) rfl q72 q73 ?_)
    refine ⟨_, _, rfl, PH.Le.refl _, ?_, ?_⟩
    ·
     exact rfl
    ·
     exact I81
   ·
    intro vs78 f w79 S81 X75 le81 hA75 hK78 hI79
    have I82 : Inv w79 S81 (X75) := hI79
    refine opg_plain rfl rfl (op_move (v := (Value.slice z1 m1 k1)) rfl ((hK78 0 (keep_of rfl)).trans e21) ?_)
    refine ⟨_, _, rfl, PH.Le.refl _, ?_, ?_⟩
    ·
     exact rfl
    ·
     exact I82
   ·
    intro vs79 f w80 S82 X76 le82 hA76 hK79 hI80
    have I83 : Inv w80 S82 (X76) := hI80
    refine opg_plain rfl rfl (op_move (v := (Value.int .i64 ((i1 : Int)))) rfl ((hK79 5 (keep_of rfl)).trans e23) ?_)
    refine ⟨_, _, rfl, PH.Le.refl _, ?_, ?_⟩
    ·
     exact rfl
    ·
     exact I83
   ·
    intro vs80 f w81 S83 X77 le83 hA77 hK80 hI81
    have I84 : Inv w81 S83 (X77) := hI81
    have q74 : f 26 = (Value.slice z1 m1 k1) := vt (hA77.at_ 0 rfl _ rfl) rfl
    have q75 : f 27 = (Value.int .i64 ((i1 : Int))) := vt (hA77.at_ 1 rfl _ rfl) rfl
    refine opg_plain rfl rfl (op_indexAddr_rv (v := (Value.slice z1 m1 k1)) (i := (i1 : Int)) (e := x7) rfl Try.underlying31 sh44 q74 (h0_.mono (le66.trans le83)) q75 hx7 ?_)
    refine ⟨_, _, rfl, PH.Le.refl _, ?_, ?_⟩
    ·
     exact rfl
    ·
     exact I84
   ·
    intro vs81 f w82 S84 X78 le84 hA78 hK81 hI82
    have I85 : Inv w82 S84 (X78) := hI82
    have q76 : f 28 = (elemPtr (Value.slice z1 m1 k1) ((i1 : Int)) (Enc.sz Sense)) := vt (hA78.at_ 2 rfl _ rfl) rfl
    refine opg_plain rfl rfl (op_fieldAddr_t (v := (elemPtr (Value.slice z1 m1 k1) ((i1 : Int)) (Enc.sz Sense))) rfl fa44_2 q76 ((h0_.mono (le66.trans le84)).elem I85.in_ hx7) ?_)
    refine ⟨_, _, rfl, PH.Le.refl _, ?_, ?_⟩
    ·
     exact rfl
    ·
     exact I85
   ·
    intro vs82 f w83 S85 X79 le85 hA79 hK82 hI83
    have I86 : Inv w83 S85 (X79) := hI83
    have q77 : f 29 = (fieldPtr (elemPtr (Value.slice z1 m1 k1) ((i1 : Int)) (Enc.sz Sense)) 2) := vt (hA79.at_ 3 rfl _ rfl) rfl
    refine opg_plain rfl rfl (op_load_bool (v := (fieldPtr (elemPtr (Value.slice z1 m1 k1) ((i1 : Int)) (Enc.sz Sense)) 2)) (e := x7.Not) rfl sh4 q77 (((h0_.mono (le66.trans le85)).elem I86.in_ hx7).fld Sense.fld2) ?_)
    refine ⟨_, _, rfl, PH.Le.refl _, ?_, ?_⟩
    ·
     exact rfl
    ·
     exact I86
   ·
    intro vs83 f w84 S86 X80 le86 hA80 hK83 hI84
    have I87 : Inv w84 S86 (X80) := hI84
    have q78 : f 25 = (Value.bool (x8 == x7.Value)) := vt (hA80.at_ 13 rfl _ rfl) rfl
    have q79 : f 30 = (Value.bool (x7.Not)) := vt (hA80.at_ 18 rfl _ rfl) rfl
    refine opg_plain rfl rfl (op_beql (a := x8 == x7.Value) (b := x7.Not) rfl Try.underlying4 q78 q79 ?_)
    refine ⟨_, _, rfl, PH.Le.refl _, ?_, ?_⟩
    ·
     exact rfl
    ·
     exact I87
   ·
    intro vs84 f w85 S87 le87 hF4 hK84 hI85
    have e24 : f 0 = (Value.slice z1 m1 k1) := (hK84 0 (keep_all rfl)).trans e21
    have e25 : f 1 = (Value.slice z2 m2 k2) := (hK84 1 (keep_all rfl)).trans e22
    have e26 : f 5 = (Value.int .i64 ((i1 : Int))) := (hK84 5 (keep_all rfl)).trans e23
    have I88 : Inv w85 S87 (Fr) := hI85
    have q80 : f 31 = (Value.bool ((x8 == x7.Value) == x7.Not)) := vt (hF4.at_ 19 rfl _ rfl) rfl
    rcases ifs h1 with ⟨hc4, h1⟩ | ⟨hc4, h1⟩
    ·
     refine wp_cond_t (b := (x8 == x7.Value) == x7.Not) q80 hc4 ?_
     refine wp_seq' ?_
     refine wp_region' ?_
     refine wl_op rfl (op_assign (v := (Value.bool (false))) rfl rfl ?_)
     refine wl_nil ?_
     refine wp_ret' ?_
     obtain rfl := Option.some.inj h1
     obtain rfl := (hout1 _ rfl)
     have h2 := h
     obtain rfl := Option.some.inj h2
     exact ⟨(Value.bool (false)), (res1 rfl rfl), _, [], (le66.trans le87), I88, rfl, rfl⟩
    ·
     refine wp_cond_f (b := (x8 == x7.Value) == x7.Not) q80 hc4 ?_
     refine wp_skip' ?_
     refine wp_region' ?_
     refine wl_op rfl (op_move (v := (Value.int .i64 ((i1 : Int)))) rfl e26 ?_)
     refine wl_op rfl (op_add (a := (i1 : Int)) (b := 1) rfl rfl rfl ?_)
     refine wl_op rfl (op_assign (v := (Value.int .i64 (w64 ((i1 : Int) + 1)))) rfl rfl ?_)
     refine wl_nil ?_
     obtain rfl := Option.some.inj h1
     exact ⟨_, rfl, _, (le66.trans le87), I88, e24, e25, (idx_next hlt1 hk1)⟩
  ·
   rintro s2 f w hs1 hI86
   obtain ⟨S88, le88, I89, e27, e28, e29⟩ := hI86
   refine wp_seq' ?_
   refine wp_seq' ?_
   refine wp_region' ?_
   refine wl_op rfl (op_move (v := (Value.int .i64 ((a0.length : Int)))) rfl e29 ?_)
   refine wl_op rfl (op_move (v := (Value.slice z1 m1 k1)) rfl e27 ?_)
   refine wl_op rfl (op_len_rv rfl Try.underlying31 rfl (h0_.mono le88) ?_)
   refine wl_op rfl (op_lss (a := (a0.length : Int)) (b := (a0.length : Int)) rfl rfl rfl ?_)
   refine wl_nil ?_
   refine wp_cond_f (b := decide ((a0.length : Int) < (a0.length : Int))) rfl (len_f _) ?_
   refine wp_exit' ?_
   exact ⟨s2, hs1, _, le88, I89, e27, e28⟩
 ·
  rintro f w ⟨out1, rfl, S89, le89, I90, e30, e31⟩
  have h := onL_inl h
  refine wp_seq' ?_
  refine wp_region' ?_
  refine wl_op rfl (op_assign (v := (Value.bool (true))) rfl rfl ?_)
  refine wl_nil ?_
  refine wp_ret' ?_
  obtain rfl := Option.some.inj h
  exact ⟨(Value.bool (true)), (res1 rfl rfl), _, [], le89, I90, rfl, rfl⟩

set_option maxHeartbeats 4000000 in
set_option maxRecDepth 100000 in
theorem F71_ok {w : World} {S : PH} {Fr : List HP} {a0 : Panel} {v0 : Value} {a1 : Int} {a2 : Int} {a3 : Ref08_Frame} {v3 : Value} {r : Int} (hI : Inv w S (Fr)) (h0_ : RV S v0 a0) (h3_ : RV S v3 a3) (h : F71 a0 a1 a2 a3 = some r) :
    Calls Try.prog 71 [v0, (Value.int .i64 (a1)), (Value.int .i64 (a2)), v3].toArray w (DoneV S Fr (Value.int .i64 (r))) := by
 unfold F71 at h
 obtain ⟨c1, e1, r1⟩ := Panel.inv h0_
 subst e1
 obtain ⟨z1, m1, k1, e2⟩ := rv_form r1
 subst e2
 obtain ⟨c2, c3, c4, c5, e3, r2, r3, r4, r5⟩ := Ref08_Frame.inv h3_
 subst e3
 obtain ⟨z2, m2, k2, e4⟩ := rv_form r2
 subst e4
 obtain ⟨z3, m3, k3, e5⟩ := rv_form r3
 subst e5
 obtain ⟨z4, m4, k4, e6⟩ := rv_form r4
 subst e6
 obtain ⟨z5, m5, k5, e7⟩ := rv_form r5
 subst e7
 refine calls_enter (n := 43) (vs := [(Value.agg #[(Value.int .i64 (a0.Sensors)), (Value.slice z1 m1 k1), (Value.int .i64 (a0.Stale)), (Value.int .i64 (a0.Limit))]), (Value.int .i64 (a1)), (Value.int .i64 (a2)), (Value.agg #[(Value.bool (a3.Power)), (Value.slice z2 m2 k2), (Value.slice z3 m3 k3), (Value.slice z4 m4 k4), (Value.slice z5 m5 k5)])]) Try.func71 rfl rfl rfl ?_
 refine wp_seq' ?_
 refine wp_region' ?_
 refine wl_op rfl (op_box (v := (Value.agg #[(Value.int .i64 (a0.Sensors)), (Value.slice z1 m1 k1), (Value.int .i64 (a0.Stale)), (Value.int .i64 (a0.Limit))])) rfl hI rfl (fun g1 w1 I1 => ?_))
 obtain ⟨S1, le1, I2, p1⟩ := Inv.boxFreeze (x := a0) I1 (Panel.rv (s := a0) r1)
 refine wl_op rfl (op_box (v := (Value.agg #[(Value.bool (a3.Power)), (Value.slice z2 m2 k2), (Value.slice z3 m3 k3), (Value.slice z4 m4 k4), (Value.slice z5 m5 k5)])) rfl I2 rfl (fun g2 w2 I3 => ?_))
 obtain ⟨S2, le2, I4, p2⟩ := Inv.boxFreeze (x := a3) I3 (Ref08_Frame.rv (s := a3) (r2.mono le1) (r3.mono le1) (r4.mono le1) (r5.mono le1))
 refine wl_op rfl (op_assign (v := (Value.int .i64 (0))) rfl rfl ?_)
 refine wl_nil ?_
 refine wp_seq' ?_
 refine wp_region' ?_
 refine wl_op rfl (op_fieldAddr_t (v := (Value.pointer (some ⟨g1, 0, none⟩))) rfl fa24_1 rfl ((p1.mono le2).at_ I4) ?_)
 refine wl_op rfl (op_load (v := (fieldPtr (Value.pointer (some ⟨g1, 0, none⟩)) 1)) (e := a0.Doors) rfl sh22 rfl (((p1.mono le2).at_ I4).fld Panel.fld1) (fun u1 hu1 => ?_))
 obtain ⟨z6, m6, k6, e8⟩ := rv_form hu1
 subst e8
 refine wl_op rfl (op_move (v := (Value.int .i64 (a2))) rfl rfl ?_)
 obtain ⟨x1, hx1, h⟩ := bnd h
 refine wl_op rfl (op_indexAddr_rv (v := (Value.slice z6 m6 k6)) (i := a2) (e := x1) rfl Try.underlying22 sh33 rfl hu1 rfl hx1 ?_)
 refine wl_op rfl (op_fieldAddr_t (v := (elemPtr (Value.slice z6 m6 k6) (a2) (Enc.sz Gate))) rfl fa33_1 rfl (hu1.elem I4.in_ hx1) ?_)
 refine wl_op rfl (op_load (v := (fieldPtr (elemPtr (Value.slice z6 m6 k6) (a2) (Enc.sz Gate)) 1)) (e := x1.When) rfl sh31 rfl ((hu1.elem I4.in_ hx1).fld Gate.fld1) (fun u2 hu2 => ?_))
 obtain ⟨z7, m7, k7, e9⟩ := rv_form hu2
 subst e9
 refine wl_op rfl (op_assign (v := (Value.slice z7 m7 k7)) rfl rfl ?_)
 refine wl_nil ?_
 refine wp_seq' ?_
 refine wp_seq' ?_
 refine wp_region' ?_
 refine wl_op rfl (op_move (v := (Value.int .i64 (a1))) rfl rfl ?_)
 refine wl_op rfl (op_fieldAddr_t (v := (Value.pointer (some ⟨g1, 0, none⟩))) rfl fa24_3 rfl ((p1.mono le2).at_ I4) ?_)
 refine wl_op rfl (op_load_int (v := (fieldPtr (Value.pointer (some ⟨g1, 0, none⟩)) 3)) (e := a0.Limit) rfl sh3 rfl (((p1.mono le2).at_ I4).fld Panel.fld3) ?_)
 refine wl_op rfl (op_geq (a := a1) (b := a0.Limit) rfl rfl rfl ?_)
 refine wl_nil ?_
 rcases ifs h with ⟨hc1, h⟩ | ⟨hc1, h⟩
 ·
  refine wp_cond_t (b := decide (a0.Limit ≤ a1)) rfl hc1 ?_
  refine wp_seq' ?_
  refine wp_region' ?_
  refine wl_op rfl (op_assign (v := (Value.int .i64 (2))) rfl rfl ?_)
  refine wl_nil ?_
  refine wp_ret' ?_
  obtain rfl := Option.some.inj h
  exact ⟨(Value.int .i64 (2)), (res1 rfl rfl), _, [], (le1.trans le2), I4, rfl, rfl⟩
 ·
  refine wp_cond_f (b := decide (a0.Limit ≤ a1)) rfl hc1 ?_
  refine wp_skip' ?_
  refine wp_seq' ?_
  refine wp_seq' ?_
  refine wp_region' ?_
  refine wl_op rfl (op_assign (v := (Value.int .i64 (0))) rfl rfl ?_)
  refine wl_nil ?_
  have hk1 : x1.When.length ≤ 9223372036854775807 := (rv_len hu2)
  obtain ⟨o2, hrun1, h⟩ := bnd h
  refine wp_cutN (fun f w => ∃ out1, o2 = Sum.inl out1 ∧ ∃ (S_ : PH), S2.Le S_ ∧ Inv w S_ (Fr) ∧ f 4 = (Value.pointer (some ⟨g1, 0, none⟩)) ∧ f 7 = (Value.pointer (some ⟨g2, 0, none⟩)) ∧ f 9 = (Value.slice z7 m7 k7)) ?_ ?_
  ·
   refine wp_block' ?_
   refine wp_forN (I := fun (i1 : Nat) (s1 : Unit) (f : Frm) (w : World) => ∃ (S_ : PH), S2.Le S_ ∧ Inv w S_ (Fr) ∧ f 4 = (Value.pointer (some ⟨g1, 0, none⟩)) ∧ f 7 = (Value.pointer (some ⟨g2, 0, none⟩)) ∧ f 9 = (Value.slice z7 m7 k7) ∧ f 10 = (Value.int .i64 (i1 : Int))) hrun1 ⟨_, (PH.Le.refl _), I4, rfl, rfl, rfl, rfl⟩ ?_ ?_
   ·
    rintro i1 s1 f w o1 hlt1 hI40 h1 hout1
    obtain ⟨S44, le44, I47, e43, e44, e45, e46⟩ := hI40
    refine wp_seq' ?_
    refine wp_seq' ?_
    refine wp_region' ?_
    refine wl_op rfl (op_move (v := (Value.int .i64 ((i1 : Int)))) rfl e46 ?_)
    refine wl_op rfl (op_move (v := (Value.slice z7 m7 k7)) rfl e45 ?_)
    refine wl_op rfl (op_len_rv rfl Try.underlying31 rfl (hu2.mono le44) ?_)
    refine wl_op rfl (op_lss (a := (i1 : Int)) (b := (x1.When.length : Int)) rfl rfl rfl ?_)
    refine wl_nil ?_
    refine wp_cond_t (b := decide ((i1 : Int) < (x1.When.length : Int))) rfl (len_t hlt1) ?_
    refine wp_skip' ?_
    refine wp_seq' ?_
    refine wp_block' ?_
    refine wp_seq' ?_
    obtain ⟨x8, hx8, h1⟩ := bnd h1
    obtain ⟨x9, hx9, h1⟩ := bnd h1
    refine wp_draw (sps := [⟨some 27, [], [0], fun vs_ T_ => fr0 vs_ 0 = (fieldPtr (Value.pointer (some ⟨g2, 0, none⟩)) 2), [], [], [], fun _ h_ => h_⟩, ⟨some 28, [0], [1], fun vs_ T_ => RV T_ (fr0 vs_ 0) a3.Ages, [], [], [], fun hle_ h_ => h_.mono hle_⟩, ⟨some 29, [], [2], fun vs_ T_ => fr0 vs_ 0 = (Value.slice z7 m7 k7), [], [], [], fun _ h_ => h_⟩, ⟨some 30, [], [3], fun vs_ T_ => fr0 vs_ 0 = (Value.int .i64 ((i1 : Int))), [], [], [], fun _ h_ => h_⟩, ⟨some 31, [2, 3], [4], fun vs_ T_ => fr0 vs_ 0 = (elemPtr (Value.slice z7 m7 k7) ((i1 : Int)) (Enc.sz Sense)), [], [], [], fun _ h_ => h_⟩, ⟨some 32, [2, 3, 4], [5], fun vs_ T_ => fr0 vs_ 0 = (fieldPtr (elemPtr (Value.slice z7 m7 k7) ((i1 : Int)) (Enc.sz Sense)) 0), [], [], [], fun _ h_ => h_⟩, ⟨some 33, [2, 3, 4, 5], [6], fun vs_ T_ => fr0 vs_ 0 = (Value.int .i64 (x8.Sensor)), [], [], [], fun _ h_ => h_⟩, ⟨some 34, [0, 1, 2, 3, 4, 5, 6], [7, 1], fun vs_ T_ => fr0 vs_ 0 = (elemPtr (fr0 vs_ 1) (x8.Sensor) (Enc.sz Int)), [], [], [], fun _ h_ => h_⟩, ⟨some 35, [0, 1, 2, 3, 4, 5, 6, 7], [8], fun vs_ T_ => fr0 vs_ 0 = (Value.int .i64 (x9)), [], [], [], fun _ h_ => h_⟩, ⟨some 36, [], [9], fun vs_ T_ => fr0 vs_ 0 = (fieldPtr (Value.pointer (some ⟨g1, 0, none⟩)) 2), [], [], [], fun _ h_ => h_⟩, ⟨some 37, [9], [10], fun vs_ T_ => fr0 vs_ 0 = (Value.int .i64 (a0.Stale)), [], [], [], fun _ h_ => h_⟩, ⟨some 38, [0, 1, 2, 3, 4, 5, 6, 7, 8, 9, 10], [11], fun vs_ T_ => fr0 vs_ 0 = (Value.bool (decide (a0.Stale ≤ x9))), [], [], [], fun _ h_ => h_⟩]) (tks := []) (O := Fr) rfl (by kernel_rfl) I47 ⟨?_, ?_, ?_, ?_, ?_, ?_, ?_, ?_, ?_, ?_, ?_, ?_, trivial⟩ ?_
    ·
     intro vs40 f w42 S45 X37 le45 hA37 hK40 hI41
     have I48 : Inv w42 S45 (X37) := hI41
     refine opg_plain rfl rfl (op_fieldAddr_t (v := (Value.pointer (some ⟨g2, 0, none⟩))) rfl fa85_2 ((hK40 7 (keep_of rfl)).trans e44) ((p2.mono (le44.trans le45)).at_ I48) ?_)
     refine ⟨_, _, rfl, PH.Le.refl _, ?_, ?_⟩
     ·
      exact rfl
     ·
      exact I48
    ·
     intro vs41 f w43 S46 X38 le46 hA38 hK41 hI42
     have I49 : Inv w43 S46 (X38) := hI42
     have q43 : f 27 = (fieldPtr (Value.pointer (some ⟨g2, 0, none⟩)) 2) := vt (hA38.at_ 0 rfl _ rfl) rfl
     refine opg_plain rfl rfl (op_load (v := (fieldPtr (Value.pointer (some ⟨g2, 0, none⟩)) 2)) (e := a3.Ages) rfl sh34 q43 (((p2.mono (le44.trans le46)).at_ I49).fld Ref08_Frame.fld2) (fun u16 hu16 => ?_))
     obtain ⟨z17, m17, k17, e47⟩ := rv_form hu16
     subst e47
     refine ⟨_, _, rfl, PH.Le.refl _, ?_, ?_⟩
     ·
      exact hu16
     ·
      exact I49
    ·
     intro vs42 f w44 S47 X39 le47 hA39 hK42 hI43
     have I50 : Inv w44 S47 (X39) := hI43
     refine opg_plain rfl rfl (op_move (v := (Value.slice z7 m7 k7)) rfl ((hK42 9 (keep_of rfl)).trans e45) ?_)
     refine ⟨_, _, rfl, PH.Le.refl _, ?_, ?_⟩
     ·
      exact rfl
     ·
      exact I50
    ·
     intro vs43 f w45 S48 X40 le48 hA40 hK43 hI44
     have I51 : Inv w45 S48 (X40) := hI44
     refine opg_plain rfl rfl (op_move (v := (Value.int .i64 ((i1 : Int)))) rfl ((hK43 10 (keep_of rfl)).trans e46) ?_)
     refine ⟨_, _, rfl, PH.Le.refl _, ?_, ?_⟩
     ·
      exact rfl
     ·
      exact I51
    ·
     intro vs44 f w46 S49 X41 le49 hA41 hK44 hI45
     have I52 : Inv w46 S49 (X41) := hI45
     have q44 : f 29 = (Value.slice z7 m7 k7) := vt (hA41.at_ 0 rfl _ rfl) rfl
     have q45 : f 30 = (Value.int .i64 ((i1 : Int))) := vt (hA41.at_ 1 rfl _ rfl) rfl
     refine opg_plain rfl rfl (op_indexAddr_rv (v := (Value.slice z7 m7 k7)) (i := (i1 : Int)) (e := x8) rfl Try.underlying31 sh44 q44 (hu2.mono (le44.trans le49)) q45 hx8 ?_)
     refine ⟨_, _, rfl, PH.Le.refl _, ?_, ?_⟩
     ·
      exact rfl
     ·
      exact I52
    ·
     intro vs45 f w47 S50 X42 le50 hA42 hK45 hI46
     have I53 : Inv w47 S50 (X42) := hI46
     have q46 : f 31 = (elemPtr (Value.slice z7 m7 k7) ((i1 : Int)) (Enc.sz Sense)) := vt (hA42.at_ 2 rfl _ rfl) rfl
     refine opg_plain rfl rfl (op_fieldAddr_t (v := (elemPtr (Value.slice z7 m7 k7) ((i1 : Int)) (Enc.sz Sense))) rfl fa44_0 q46 ((hu2.mono (le44.trans le50)).elem I53.in_ hx8) ?_)
     refine ⟨_, _, rfl, PH.Le.refl _, ?_, ?_⟩
     ·
      exact rfl
     ·
      exact I53
    ·
     intro vs46 f w48 S51 X43 le51 hA43 hK46 hI47
     have I54 : Inv w48 S51 (X43) := hI47
     have q47 : f 32 = (fieldPtr (elemPtr (Value.slice z7 m7 k7) ((i1 : Int)) (Enc.sz Sense)) 0) := vt (hA43.at_ 3 rfl _ rfl) rfl
     refine opg_plain rfl rfl (op_load_int (v := (fieldPtr (elemPtr (Value.slice z7 m7 k7) ((i1 : Int)) (Enc.sz Sense)) 0)) (e := x8.Sensor) rfl sh3 q47 (((hu2.mono (le44.trans le51)).elem I54.in_ hx8).fld Sense.fld0) ?_)
     refine ⟨_, _, rfl, PH.Le.refl _, ?_, ?_⟩
     ·
      exact rfl
     ·
      exact I54
    ·
     intro vs47 f w49 S52 X44 le52 hA44 hK47 hI48
     have I55 : Inv w49 S52 (X44) := hI48
     have q48 : f 28 = vs47 1 := (hA44.at_ 1 rfl _ rfl).1 _ rfl
     have r12 : RV S52 (vs47 1) a3.Ages := (hA44.at_ 1 rfl _ rfl).2
     obtain ⟨u17, hu17⟩ : ∃ u, vs47 1 = u := ⟨_, rfl⟩
     rw [hu17] at q48 r12
     obtain ⟨z18, m18, k18, e48⟩ := rv_form r12
     subst e48
     have q49 : f 33 = (Value.int .i64 (x8.Sensor)) := vt (hA44.at_ 6 rfl _ rfl) rfl
     refine opg_plain rfl rfl (op_indexAddr_rv (v := (Value.slice z18 m18 k18)) (i := x8.Sensor) (e := x9) rfl Try.underlying34 sh3 q48 r12 q49 hx9 ?_)
     refine ⟨_, _, rfl, PH.Le.refl _, ?_, ?_⟩
     ·
      show (elemPtr (Value.slice z18 m18 k18) (x8.Sensor) (Enc.sz Int)) = (elemPtr (vs47 1) (x8.Sensor) (Enc.sz Int))
      simp only [hu17] <;> rfl
     ·
      exact I55
    ·
     intro vs48 f w50 S53 X45 le53 hA45 hK48 hI49
     have I56 : Inv w50 S53 (X45) := hI49
     have q50 : f 28 = vs48 1 := (hA45.at_ 1 rfl _ rfl).1 _ rfl
     have r13 : RV S53 (vs48 1) a3.Ages := (hA45.at_ 1 rfl _ rfl).2
     obtain ⟨u18, hu18⟩ : ∃ u, vs48 1 = u := ⟨_, rfl⟩
     rw [hu18] at q50 r13
     obtain ⟨z19, m19, k19, e49⟩ := rv_form r13
     subst e49
     have q51 : f 33 = (Value.int .i64 (x8.Sensor)) := vt (hA45.at_ 6 rfl _ rfl) rfl
     have q52 : f 34 = (elemPtr (vs48 1) (x8.Sensor) (Enc.sz Int)) := vt (hA45.at_ 7 rfl _ rfl) rfl
     simp only [hu18] at q52
     have q52 : f 34 = (elemPtr (Value.slice z19 m19 k19) (x8.Sensor) (Enc.sz Int)) := q52
     refine opg_plain rfl rfl (op_load_int (v := (elemPtr (Value.slice z19 m19 k19) (x8.Sensor) (Enc.sz Int))) (e := x9) rfl sh3 q52 (r13.elem I56.in_ hx9) ?_)
     refine ⟨_, _, rfl, PH.Le.refl _, ?_, ?_⟩
     ·
      exact rfl
     ·
      exact I56
    ·
     intro vs49 f w51 S54 X46 le54 hA46 hK49 hI50
     have I57 : Inv w51 S54 (X46) := hI50
     refine opg_plain rfl rfl (op_fieldAddr_t (v := (Value.pointer (some ⟨g1, 0, none⟩))) rfl fa24_2 ((hK49 4 (keep_of rfl)).trans e43) ((p1.mono ((le2.trans le44).trans le54)).at_ I57) ?_)
     refine ⟨_, _, rfl, PH.Le.refl _, ?_, ?_⟩
     ·
      exact rfl
     ·
      exact I57
    ·
     intro vs50 f w52 S55 X47 le55 hA47 hK50 hI51
     have I58 : Inv w52 S55 (X47) := hI51
     have q53 : f 36 = (fieldPtr (Value.pointer (some ⟨g1, 0, none⟩)) 2) := vt (hA47.at_ 0 rfl _ rfl) rfl
     refine opg_plain rfl rfl (op_load_int (v := (fieldPtr (Value.pointer (some ⟨g1, 0, none⟩)) 2)) (e := a0.Stale) rfl sh3 q53 (((p1.mono ((le2.trans le44).trans le55)).at_ I58).fld Panel.fld2) ?_)
     refine ⟨_, _, rfl, PH.Le.refl _, ?_, ?_⟩
     ·
      exact rfl
     ·
      exact I58
    ·
     intro vs51 f w53 S56 X48 le56 hA48 hK51 hI52
     have I59 : Inv w53 S56 (X48) := hI52
     have q54 : f 35 = (Value.int .i64 (x9)) := vt (hA48.at_ 8 rfl _ rfl) rfl
     have q55 : f 37 = (Value.int .i64 (a0.Stale)) := vt (hA48.at_ 10 rfl _ rfl) rfl
     refine opg_plain rfl rfl (op_geq (a := x9) (b := a0.Stale) rfl q54 q55 ?_)
     refine ⟨_, _, rfl, PH.Le.refl _, ?_, ?_⟩
     ·
      exact rfl
     ·
      exact I59
    ·
     intro vs52 f w54 S57 le57 hF4 hK52 hI53
     have e50 : f 4 = (Value.pointer (some ⟨g1, 0, none⟩)) := (hK52 4 (keep_all rfl)).trans e43
     have e51 : f 7 = (Value.pointer (some ⟨g2, 0, none⟩)) := (hK52 7 (keep_all rfl)).trans e44
     have e52 : f 9 = (Value.slice z7 m7 k7) := (hK52 9 (keep_all rfl)).trans e45
     have e53 : f 10 = (Value.int .i64 ((i1 : Int))) := (hK52 10 (keep_all rfl)).trans e46
     have I60 : Inv w54 S57 (Fr) := hI53
     have q56 : f 38 = (Value.bool (decide (a0.Stale ≤ x9))) := vt (hF4.at_ 11 rfl _ rfl) rfl
     rcases ifs h1 with ⟨hc5, h1⟩ | ⟨hc5, h1⟩
     ·
      refine wp_cond_t (b := decide (a0.Stale ≤ x9)) q56 hc5 ?_
      refine wp_seq' ?_
      refine wp_region' ?_
      refine wl_op rfl (op_assign (v := (Value.int .i64 (2))) rfl rfl ?_)
      refine wl_nil ?_
      refine wp_ret' ?_
      obtain rfl := Option.some.inj h1
      obtain rfl := (hout1 _ rfl)
      have h2 := h
      obtain rfl := Option.some.inj h2
      exact ⟨(Value.int .i64 (2)), (res1 rfl rfl), _, [], (((le1.trans le2).trans le44).trans le57), I60, rfl, rfl⟩
     ·
      refine wp_cond_f (b := decide (a0.Stale ≤ x9)) q56 hc5 ?_
      refine wp_skip' ?_
      refine wp_region' ?_
      refine wl_op rfl (op_move (v := (Value.int .i64 ((i1 : Int)))) rfl e53 ?_)
      refine wl_op rfl (op_add (a := (i1 : Int)) (b := 1) rfl rfl rfl ?_)
      refine wl_op rfl (op_assign (v := (Value.int .i64 (w64 ((i1 : Int) + 1)))) rfl rfl ?_)
      refine wl_nil ?_
      obtain rfl := Option.some.inj h1
      exact ⟨_, rfl, _, (le44.trans le57), I60, e50, e51, e52, (idx_next hlt1 hk1)⟩
   ·
    rintro s2 f w hs1 hI54
    obtain ⟨S58, le58, I61, e54, e55, e56, e57⟩ := hI54
    refine wp_seq' ?_
    refine wp_seq' ?_
    refine wp_region' ?_
    refine wl_op rfl (op_move (v := (Value.int .i64 ((x1.When.length : Int)))) rfl e57 ?_)
    refine wl_op rfl (op_move (v := (Value.slice z7 m7 k7)) rfl e56 ?_)
    refine wl_op rfl (op_len_rv rfl Try.underlying31 rfl (hu2.mono le58) ?_)
    refine wl_op rfl (op_lss (a := (x1.When.length : Int)) (b := (x1.When.length : Int)) rfl rfl rfl ?_)
    refine wl_nil ?_
    refine wp_cond_f (b := decide ((x1.When.length : Int) < (x1.When.length : Int))) rfl (len_f _) ?_
    refine wp_exit' ?_
    exact ⟨s2, hs1, _, le58, I61, e54, e55, e56⟩
  ·
   rintro f w ⟨out1, rfl, S59, le59, I62, e58, e59, e60⟩
   have h := onL_inl h
   refine wp_seq' ?_
   refine wp_seq' ?_
   refine wp_region' ?_
   refine wl_op rfl (op_move (v := (Value.slice z7 m7 k7)) rfl e60 ?_)
   refine wl_op rfl (op_fieldAddr_t (v := (Value.pointer (some ⟨g2, 0, none⟩))) rfl fa85_1 e59 ((p2.mono le59).at_ I62) ?_)
   refine wl_op rfl (op_load (v := (fieldPtr (Value.pointer (some ⟨g2, 0, none⟩)) 1)) (e := a3.Values) rfl sh34 rfl (((p2.mono le59).at_ I62).fld Ref08_Frame.fld1) (fun u19 hu19 => ?_))
   obtain ⟨z20, m20, k20, e61⟩ := rv_form hu19
   subst e61
   obtain ⟨x10, hx10, h⟩ := bnd h
   refine wl_op rfl (op_call_v (vs := [(Value.slice z7 m7 k7), (Value.slice z20 m20 k20)]) (r := (Value.bool (x10))) rfl ca23 rfl (args2 rfl rfl) I62 (fun Fr_ hF_ => F23_ok hF_ (hu2.mono le59) hu19 hx10) (fun w55 I63 => ?_))
   refine wl_nil ?_
   rcases ifs h with ⟨hc6, h⟩ | ⟨hc6, h⟩
   ·
    refine wp_cond_t (b := x10) rfl hc6 ?_
    refine wp_seq' ?_
    refine wp_region' ?_
    refine wl_op rfl (op_assign (v := (Value.int .i64 (2))) rfl rfl ?_)
    refine wl_nil ?_
    refine wp_ret' ?_
    obtain rfl := Option.some.inj h
    exact ⟨(Value.int .i64 (2)), (res1 rfl rfl), _, [], ((le1.trans le2).trans le59), I63, rfl, rfl⟩
   ·
    refine wp_cond_f (b := x10) rfl hc6 ?_
    refine wp_skip' ?_
    refine wp_seq' ?_
    refine wp_region' ?_
    refine wl_op rfl (op_assign (v := (Value.int .i64 (1))) rfl rfl ?_)
    refine wl_nil ?_
    refine wp_ret' ?_
    obtain rfl := Option.some.inj h
    exact ⟨(Value.int .i64 (1)), (res1 rfl rfl), _, [], ((le1.trans le2).trans le59), I63, rfl, rfl⟩

set_option maxHeartbeats 4000000 in
set_option maxRecDepth 100000 in
theorem F72_ok {w : World} {S : PH} {Fr : List HP} {a0 : Panel} {v0 : Value} {a1 : (List Signal)} {v1 : Value} {a2 : Int} {a3 : (List Ref08_Frame)} {v3 : Value} {r : Bool} (hI : Inv w S (Fr)) (h0_ : RV S v0 a0) (h1_ : RV S v1 a1) (h3_ : RV S v3 a3) (h : F72 a0 a1 a2 a3 = some r) :
    Calls Try.prog 72 [v0, v1, (Value.int .i64 (a2)), v3].toArray w (DoneV S Fr (Value.bool (r))) := by
 unfold F72 at h
 obtain ⟨c1, e1, r1⟩ := Panel.inv h0_
 subst e1
 obtain ⟨z1, m1, k1, e2⟩ := rv_form r1
 subst e2
 obtain ⟨z2, m2, k2, e3⟩ := rv_form h1_
 subst e3
 obtain ⟨z3, m3, k3, e4⟩ := rv_form h3_
 subst e4
 refine calls_enter (n := 55) (vs := [(Value.agg #[(Value.int .i64 (a0.Sensors)), (Value.slice z1 m1 k1), (Value.int .i64 (a0.Stale)), (Value.int .i64 (a0.Limit))]), (Value.slice z2 m2 k2), (Value.int .i64 (a2)), (Value.slice z3 m3 k3)]) Try.func72 rfl rfl rfl ?_
 refine wp_seq' ?_
 refine wp_region' ?_
 refine wl_op rfl (op_box (v := (Value.agg #[(Value.int .i64 (a0.Sensors)), (Value.slice z1 m1 k1), (Value.int .i64 (a0.Stale)), (Value.int .i64 (a0.Limit))])) rfl hI rfl (fun g1 w1 I1 => ?_))
 obtain ⟨S1, le1, I2, p1⟩ := Inv.boxFreeze (x := a0) I1 (Panel.rv (s := a0) r1)
 refine wl_op rfl (op_assign (v := (Value.bool (false))) rfl rfl ?_)
 refine wl_nil ?_
 refine wp_seq' ?_
 refine wp_region' ?_
 refine wl_op rfl (op_move (v := (Value.slice z3 m3 k3)) rfl rfl ?_)
 refine wl_op rfl (op_len_rv rfl Try.underlying80 rfl (h3_.mono le1) ?_)
 refine wl_op rfl (op_sub (a := (a3.length : Int)) (b := 1) rfl rfl rfl ?_)
 refine wl_op rfl (op_assign (v := (Value.int .i64 (w64 ((a3.length : Int) - 1)))) rfl rfl ?_)
 refine wl_nil ?_
 refine wp_seq' ?_
 refine wp_seq' ?_
 refine wp_region' ?_
 refine wl_op rfl (op_move (v := (Value.int .i64 (w64 ((a3.length : Int) - 1)))) rfl rfl ?_)
 refine wl_op rfl (op_assign (v := (Value.int .i64 (w64 ((a3.length : Int) - 1)))) rfl rfl ?_)
 refine wl_nil ?_
 obtain ⟨o2, hrun1, h⟩ := bnd h
 refine wp_cutN (fun f w => ∃ out1, o2 = Sum.inl out1 ∧ Inv w S1 (Fr) ∧ f 1 = (Value.slice z2 m2 k2) ∧ f 2 = (Value.int .i64 (a2)) ∧ f 3 = (Value.slice z3 m3 k3) ∧ f 4 = (Value.pointer (some ⟨g1, 0, none⟩)) ∧ f 9 = (Value.int .i64 (w64 ((a3.length : Int) - 1))) ∧ f 10 = (Value.int .i64 (out1))) ?_ ?_
 ·
  refine wp_block' ?_
  refine wp_whileO (I := fun (s1 : (Int)) (f : Frm) (w : World) => Inv w S1 (Fr) ∧ f 1 = (Value.slice z2 m2 k2) ∧ f 2 = (Value.int .i64 (a2)) ∧ f 3 = (Value.slice z3 m3 k3) ∧ f 4 = (Value.pointer (some ⟨g1, 0, none⟩)) ∧ f 9 = (Value.int .i64 (w64 ((a3.length : Int) - 1))) ∧ f 10 = (Value.int .i64 (s1))) hrun1 ⟨I2, rfl, rfl, rfl, rfl, rfl, rfl⟩ ?_
  rintro s1 f w o1 hI1 h19 hout1
  obtain ⟨I33, e119, e120, e121, e122, e123, e124⟩ := hI1
  obtain ⟨ov7, h22, h19⟩ := bnd h19
  refine wp_cut (fun f w => ∃ v7, ov7 = Sum.inl v7 ∧ Inv w S1 (Fr) ∧ f 1 = (Value.slice z2 m2 k2) ∧ f 2 = (Value.int .i64 (a2)) ∧ f 3 = (Value.slice z3 m3 k3) ∧ f 4 = (Value.pointer (some ⟨g1, 0, none⟩)) ∧ f 9 = (Value.int .i64 (w64 ((a3.length : Int) - 1))) ∧ f 10 = (Value.int .i64 (s1))) ?_ ?_
  ·
   refine wp_seq' ?_
   refine wp_region' ?_
   refine wl_op rfl (op_move (v := (Value.int .i64 (s1))) rfl e124 ?_)
   refine wl_op rfl (op_geq (a := s1) (b := 0) rfl rfl rfl ?_)
   refine wl_op rfl (op_move (v := (Value.bool (decide (0 ≤ s1)))) rfl rfl ?_)
   rcases ifs h22 with ⟨hc51, h22⟩ | ⟨hc51, h22⟩
   ·
    refine wl_taken (c := decide (0 ≤ s1)) rfl rfl rfl rfl hc51 (op_move (v := (Value.int .i64 (s1))) rfl e124 ?_)
    refine wl_taken (c := decide (0 ≤ s1)) rfl rfl rfl rfl hc51 (op_move (v := (Value.int .i64 (w64 ((a3.length : Int) - 1)))) rfl e123 ?_)
    refine wl_taken (c := decide (0 ≤ s1)) rfl rfl rfl rfl hc51 (op_fieldAddr_t (v := (Value.pointer (some ⟨g1, 0, none⟩))) rfl fa24_1 e122 (p1.at_ I33) ?_)
    refine wl_taken (c := decide (0 ≤ s1)) rfl rfl rfl rfl hc51 (op_load (v := (fieldPtr (Value.pointer (some ⟨g1, 0, none⟩)) 1)) (e := a0.Doors) rfl sh22 rfl ((p1.at_ I33).fld Panel.fld1) (fun u20 hu20 => ?_))
    obtain ⟨z41, m41, k41, e126⟩ := rv_form hu20
    subst e126
    refine wl_taken (c := decide (0 ≤ s1)) rfl rfl rfl rfl hc51 (op_move (v := (Value.int .i64 (a2))) rfl e120 ?_)
    obtain ⟨x38, hx38, h22⟩ := bnd h22
    refine wl_taken (c := decide (0 ≤ s1)) rfl rfl rfl rfl hc51 (op_indexAddr_rv (v := (Value.slice z41 m41 k41)) (i := a2) (e := x38) rfl Try.underlying22 sh33 rfl hu20 rfl hx38 ?_)
    refine wl_taken (c := decide (0 ≤ s1)) rfl rfl rfl rfl hc51 (op_fieldAddr_t (v := (elemPtr (Value.slice z41 m41 k41) (a2) (Enc.sz Gate))) rfl fa33_0 rfl (hu20.elem I33.in_ hx38) ?_)
    refine wl_taken (c := decide (0 ≤ s1)) rfl rfl rfl rfl hc51 (op_load_int (v := (fieldPtr (elemPtr (Value.slice z41 m41 k41) (a2) (Enc.sz Gate)) 0)) (e := x38.Wait) rfl sh3 rfl ((hu20.elem I33.in_ hx38).fld Gate.fld0) ?_)
    refine wl_taken (c := decide (0 ≤ s1)) rfl rfl rfl rfl hc51 (op_sub (a := w64 ((a3.length : Int) - 1)) (b := x38.Wait) rfl rfl rfl ?_)
    refine wl_taken (c := decide (0 ≤ s1)) rfl rfl rfl rfl hc51 (op_gtr (a := s1) (b := w64 ((w64 ((a3.length : Int) - 1)) - x38.Wait)) rfl rfl rfl ?_)
    refine wl_op rfl (op_pick_t (c := decide (0 ≤ s1)) (a := (Value.bool (decide ((w64 ((w64 ((a3.length : Int) - 1)) - x38.Wait)) < s1)))) rfl rfl hc51 rfl ?_)
    refine wl_nil ?_
    rcases ifs h22 with ⟨hc52, h22⟩ | ⟨hc52, h22⟩
    ·
     refine wp_cond_t (b := decide ((w64 ((w64 ((a3.length : Int) - 1)) - x38.Wait)) < s1)) rfl hc52 ?_
     refine wp_skip' ?_
     obtain rfl := Option.some.inj h22
     exact ⟨_, rfl, I33, e119, e120, e121, e122, e123, e124⟩
    ·
     refine wp_cond_f (b := decide ((w64 ((w64 ((a3.length : Int) - 1)) - x38.Wait)) < s1)) rfl hc52 ?_
     refine wp_exit' ?_
     obtain rfl := Option.some.inj h22
     have h23 := h19
     obtain rfl := Option.some.inj h23
     obtain rfl := (hout1 _ rfl)
     exact ⟨_, rfl, I33, e119, e120, e121, e122, e123, e124⟩
   ·
    refine wl_skip (c := decide (0 ≤ s1)) rfl rfl rfl rfl hc51 rfl ?_
    refine wl_skip (c := decide (0 ≤ s1)) rfl rfl rfl rfl hc51 rfl ?_
    refine wl_skip (c := decide (0 ≤ s1)) rfl rfl rfl rfl hc51 rfl ?_
    refine wl_skip (c := decide (0 ≤ s1)) rfl rfl rfl rfl hc51 rfl ?_
    refine wl_skip (c := decide (0 ≤ s1)) rfl rfl rfl rfl hc51 rfl ?_
    refine wl_skip (c := decide (0 ≤ s1)) rfl rfl rfl rfl hc51 rfl ?_
    refine wl_skip (c := decide (0 ≤ s1)) rfl rfl rfl rfl hc51 rfl ?_
    refine wl_skip (c := decide (0 ≤ s1)) rfl rfl rfl rfl hc51 rfl ?_
    refine wl_skip (c := decide (0 ≤ s1)) rfl rfl rfl rfl hc51 rfl ?_
    refine wl_skip (c := decide (0 ≤ s1)) rfl rfl rfl rfl hc51 rfl ?_
    refine wl_op rfl (op_pick_f (c := decide (0 ≤ s1)) (b := (Value.bool (false))) rfl rfl hc51 rfl ?_)
    refine wl_nil ?_
    refine wp_cond_f (b := false) rfl rfl ?_
    refine wp_exit' ?_
    obtain rfl := Option.some.inj h22
    have h23 := h19
    obtain rfl := Option.some.inj h23
    obtain rfl := (hout1 _ rfl)
    exact ⟨_, rfl, I33, e119, e120, e121, e122, e123, e124⟩
  ·
   rintro f w ⟨v7, rfl, I34, e127, e128, e129, e130, e131, e132⟩
   have h19 := onL_inl h19
   refine wp_seq' ?_
   refine wp_block' ?_
   refine wp_seq' ?_
   refine wp_region' ?_
   refine wl_op rfl (op_move (v := (Value.slice z3 m3 k3)) rfl e129 ?_)
   refine wl_op rfl (op_move (v := (Value.int .i64 (s1))) rfl e132 ?_)
   obtain ⟨x39, hx39, h19⟩ := bnd h19
   refine wl_op rfl (op_indexAddr_rv (v := (Value.slice z3 m3 k3)) (i := s1) (e := x39) rfl Try.underlying80 sh85 rfl (h3_.mono le1) rfl hx39 ?_)
   refine wl_op rfl (op_load (v := (elemPtr (Value.slice z3 m3 k3) (s1) (Enc.sz Ref08_Frame))) (e := x39) rfl sh85 rfl ((h3_.mono le1).elem I34.in_ hx39) (fun u21 hu21 => ?_))
   obtain ⟨c26, c27, c28, c29, e133, r26, r27, r28, r29⟩ := Ref08_Frame.inv hu21
   subst e133
   obtain ⟨z42, m42, k42, e134⟩ := rv_form r26
   subst e134
   obtain ⟨z43, m43, k43, e135⟩ := rv_form r27
   subst e135
   obtain ⟨z44, m44, k44, e136⟩ := rv_form r28
   subst e136
   obtain ⟨z45, m45, k45, e137⟩ := rv_form r29
   subst e137
   refine wl_op rfl (op_alloc (z := (Value.agg #[(Value.bool (false)), (Value.slice none 0 0), (Value.slice none 0 0), (Value.slice none 0 0), (Value.slice none 0 0)])) rfl I34 zo85 (fun g8 w20 (I35 : Inv w20 S1 (Cells g8 85 #[(Value.bool (false)), (Value.slice none 0 0), (Value.slice none 0 0), (Value.slice none 0 0), (Value.slice none 0 0)] :: Fr)) => ?_))
   refine wl_op rfl (op_store (v := (Value.agg #[(Value.bool (x39.Power)), (Value.slice z42 m42 k42), (Value.slice z43 m43 k43), (Value.slice z44 m44 k44), (Value.slice z45 m45 k45)])) (cs := #[(Value.bool (false)), (Value.slice none 0 0), (Value.slice none 0 0), (Value.slice none 0 0), (Value.slice none 0 0)]) sh85 I35 rfl rfl rfl (Nat.le_of_ble_eq_true rfl) rfl (fun w21 (I36 : Inv w21 S1 (Cells g8 85 #[(Value.bool (x39.Power)), (Value.slice z42 m42 k42), (Value.slice z43 m43 k43), (Value.slice z44 m44 k44), (Value.slice z45 m45 k45)] :: Fr)) => ?_))
   refine wl_nil ?_
   refine wp_seq' ?_
   refine wp_seq' ?_
   refine wp_region' ?_
   refine wl_op rfl (op_fieldAddr (v := (Value.pointer (some ⟨g8, 0, none⟩))) rfl fa85_0 rfl rfl ?_)
   refine wl_op rfl (op_load1 (c := (Value.bool (x39.Power))) rfl sh4 (I36.nth 0 rfl) rfl rfl ?_)
   refine wl_op rfl (op_not (b := x39.Power) rfl rfl ?_)
   refine wl_nil ?_
   rcases ifs h19 with ⟨hc53, h19⟩ | ⟨hc53, h19⟩
   ·
    refine wp_cond_t (b := !x39.Power) rfl hc53 ?_
    refine wp_seq' ?_
    refine wp_region' ?_
    refine wl_op rfl (op_assign (v := (Value.bool (false))) rfl rfl ?_)
    refine wl_nil ?_
    refine wp_ret' ?_
    obtain rfl := Option.some.inj h19
    obtain rfl := (hout1 _ rfl)
    have h20 := h
    obtain rfl := Option.some.inj h20
    exact ⟨(Value.bool (false)), (res1 rfl rfl), _, [], le1, (I36).drop, rfl, rfl⟩
   ·
    refine wp_cond_f (b := !x39.Power) rfl hc53 ?_
    refine wp_skip' ?_
    refine wp_seq' ?_
    refine wp_seq' ?_
    refine wp_region' ?_
    refine wl_op rfl (op_move (v := (Value.slice z2 m2 k2)) rfl e127 ?_)
    refine wl_op rfl (op_move (v := (Value.int .i64 (s1))) rfl e132 ?_)
    refine wl_op rfl (op_move (v := (Value.int .i64 (a2))) rfl e128 ?_)
    obtain ⟨x40, hx40, h19⟩ := bnd h19
    refine wl_op rfl (op_call_v (vs := [(Value.slice z2 m2 k2), (Value.int .i64 (s1)), (Value.int .i64 (3)), (Value.int .i64 (a2))]) (r := (Value.bool (x40))) rfl ca70 rfl (args4 rfl rfl rfl rfl) I36 (fun Fr_ hF_ => F70_ok hF_ (h1_.mono le1) hx40) (fun w22 I37 => ?_))
    refine wl_nil ?_
    rcases ifs h19 with ⟨hc54, h19⟩ | ⟨hc54, h19⟩
    ·
     refine wp_cond_t (b := x40) rfl hc54 ?_
     refine wp_exit' ?_
     refine wp_region' ?_
     refine wl_op rfl (op_move (v := (Value.int .i64 (s1))) rfl e132 ?_)
     refine wl_op rfl (op_sub (a := s1) (b := 1) rfl rfl rfl ?_)
     refine wl_op rfl (op_assign (v := (Value.int .i64 (w64 (s1 - 1)))) rfl rfl ?_)
     refine wl_nil ?_
     obtain rfl := Option.some.inj h19
     exact ⟨_, rfl, (I37).drop, e127, e128, e129, e130, e131, rfl⟩
    ·
     refine wp_cond_f (b := x40) rfl hc54 ?_
     refine wp_skip' ?_
     refine wp_seq' ?_
     refine wp_seq' ?_
     refine wp_region' ?_
     refine wl_op rfl (op_fieldAddr (v := (Value.pointer (some ⟨g8, 0, none⟩))) rfl fa85_3 rfl rfl ?_)
     refine wl_op rfl (op_load1 (c := (Value.slice z44 m44 k44)) rfl sh34 (I37.nth 0 rfl) rfl rfl ?_)
     refine wl_op rfl (op_move (v := (Value.int .i64 (a2))) rfl e128 ?_)
     obtain ⟨x41, hx41, h19⟩ := bnd h19
     refine wl_op rfl (op_indexAddr_rv (v := (Value.slice z44 m44 k44)) (i := a2) (e := x41) rfl Try.underlying34 sh3 rfl r28 rfl hx41 ?_)
     refine wl_op rfl (op_load_int (v := (elemPtr (Value.slice z44 m44 k44) (a2) (Enc.sz Int))) (e := x41) rfl sh3 rfl (r28.elem I37.in_ hx41) ?_)
     refine wl_op rfl (op_eql (a := x41) (b := 2) rfl rfl rfl ?_)
     refine wl_nil ?_
     rcases ifs h19 with ⟨hc55, h19⟩ | ⟨hc55, h19⟩
     ·
      refine wp_cond_t (b := x41 == 2) rfl hc55 ?_
      refine wp_seq' ?_
      refine wp_region' ?_
      refine wl_op rfl (op_assign (v := (Value.bool (false))) rfl rfl ?_)
      refine wl_nil ?_
      refine wp_ret' ?_
      obtain rfl := Option.some.inj h19
      obtain rfl := (hout1 _ rfl)
      have h20 := h
      obtain rfl := Option.some.inj h20
      exact ⟨(Value.bool (false)), (res1 rfl rfl), _, [], le1, (I37).drop, rfl, rfl⟩
     ·
      refine wp_cond_f (b := x41 == 2) rfl hc55 ?_
      refine wp_skip' ?_
      refine wp_seq' ?_
      refine wp_region' ?_
      refine wl_op rfl (op_fieldAddr (v := (Value.pointer (some ⟨g8, 0, none⟩))) rfl fa85_3 rfl rfl ?_)
      refine wl_op rfl (op_load1 (c := (Value.slice z44 m44 k44)) rfl sh34 (I37.nth 0 rfl) rfl rfl ?_)
      refine wl_op rfl (op_move (v := (Value.int .i64 (a2))) rfl e128 ?_)
      obtain ⟨x42, hx42, h19⟩ := bnd h19
      refine wl_op rfl (op_indexAddr_rv (v := (Value.slice z44 m44 k44)) (i := a2) (e := x42) rfl Try.underlying34 sh3 rfl r28 rfl hx42 ?_)
      refine wl_op rfl (op_load_int (v := (elemPtr (Value.slice z44 m44 k44) (a2) (Enc.sz Int))) (e := x42) rfl sh3 rfl (r28.elem I37.in_ hx42) ?_)
      refine wl_op rfl (op_eql (a := x42) (b := 1) rfl rfl rfl ?_)
      refine wl_nil ?_
      rcases ifs h19 with ⟨hc56, h19⟩ | ⟨hc56, h19⟩
      ·
       refine wp_cond_t (b := x42 == 1) rfl hc56 ?_
       refine wp_seq' ?_
       refine wp_region' ?_
       refine wl_op rfl (op_assign (v := (Value.bool (true))) rfl rfl ?_)
       refine wl_nil ?_
       refine wp_ret' ?_
       obtain rfl := Option.some.inj h19
       obtain rfl := (hout1 _ rfl)
       have h20 := h
       obtain rfl := Option.some.inj h20
       exact ⟨(Value.bool (true)), (res1 rfl rfl), _, [], le1, (I37).drop, rfl, rfl⟩
      ·
       refine wp_cond_f (b := x42 == 1) rfl hc56 ?_
       refine wp_skip' ?_
       refine wp_region' ?_
       refine wl_op rfl (op_move (v := (Value.int .i64 (s1))) rfl e132 ?_)
       refine wl_op rfl (op_sub (a := s1) (b := 1) rfl rfl rfl ?_)
       refine wl_op rfl (op_assign (v := (Value.int .i64 (w64 (s1 - 1)))) rfl rfl ?_)
       refine wl_nil ?_
       obtain rfl := Option.some.inj h19
       exact ⟨_, rfl, (I37).drop, e127, e128, e129, e130, e131, rfl⟩
 ·
  rintro f w ⟨out1, rfl, I38, e138, e139, e140, e141, e142, e143⟩
  have h := onL_inl h
  refine wp_seq' ?_
  refine wp_region' ?_
  refine wl_op rfl (op_assign (v := (Value.bool (false))) rfl rfl ?_)
  refine wl_nil ?_
  refine wp_ret' ?_
  obtain rfl := Option.some.inj h
  exact ⟨(Value.bool (false)), (res1 rfl rfl), _, [], le1, I38, rfl, rfl⟩
end Go.Proofs.Ytfeomcdhhgeilaa.Pad
