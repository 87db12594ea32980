/- A part of the proof: what the functions of the program compute, shown over the model. -/
import Derived.Test.YtogfongmnkmegaaSeaXP
import Derived.Test.YtogfongmnkmegaaSeaXW3
import Derived.Test.YtogfongmnkmegaaSeaXW4
import Derived.Test.YtogfongmnkmegaaSeaXW5
import Derived.Test.YtogfongmnkmegaaSeaXW11
import Derived.Test.YtogfongmnkmegaaSeaXW15
import Derived.KernelRfl
set_option linter.unusedVariables false
namespace Go.Proofs.Ytogfongmnkmegaa.Pad
open Go Go.Proofs
set_option maxHeartbeats 4000000 in
set_option maxRecDepth 100000 in
theorem F37_ok {w : World} {S : PH} {Fr : List HP} {a0 : Graph} {v0 : Value} {a1 : (List Int)} {v1 : Value} {a2 : Int} {r : Int × Int × Int} (hI : Inv w S (Fr)) (h0_ : RV S v0 a0) (h1_ : RV S v1 a1) (h : F37 a0 a1 a2 = some r) :
    Calls Try.prog 37 [v0, v1, (Value.int .i64 (a2))].toArray w (DoneV S Fr (Value.tuple #[(Value.int .i64 (r.1)), (Value.int .i64 (r.2.1)), (Value.int .i64 (r.2.2))])) := by
 unfold F37 at h
 obtain ⟨c1, c2, e1, r1, r2⟩ := Graph.inv h0_
 subst e1
 obtain ⟨z1, m1, k1, e2⟩ := rv_form r1
 subst e2
 obtain ⟨z2, m2, k2, e3⟩ := rv_form r2
 subst e3
 obtain ⟨z3, m3, k3, e4⟩ := rv_form h1_
 subst e4
 refine calls_enter (n := 176) (vs := [(Value.agg #[(Value.slice z1 m1 k1), (Value.slice z2 m2 k2)]), (Value.slice z3 m3 k3), (Value.int .i64 (a2))]) Try.func37 rfl rfl rfl ?_
 refine wp_seq' ?_
 refine wp_region' ?_
 refine wl_op rfl (op_box (v := (Value.agg #[(Value.slice z1 m1 k1), (Value.slice z2 m2 k2)])) rfl hI rfl (fun g1 w1 I1 => ?_))
 obtain ⟨S1, le1, I2, p1⟩ := Inv.boxFreeze (x := a0) I1 (Graph.rv (s := a0) r1 r2)
 refine wl_op rfl (op_assign (v := (Value.int .i64 (0))) rfl rfl ?_)
 refine wl_op rfl (op_assign (v := (Value.int .i64 (0))) rfl rfl ?_)
 refine wl_op rfl (op_assign (v := (Value.int .i64 (0))) rfl rfl ?_)
 refine wl_nil ?_
 refine wp_seq' ?_
 refine wp_seq' ?_
 refine wp_region' ?_
 refine wl_op rfl (op_load (v := (Value.pointer (some ⟨g1, 0, none⟩))) (e := a0) rfl sh25 rfl (p1.at_ I2) (fun u1 hu1 => ?_))
 obtain ⟨c3, c4, e5, r3, r4⟩ := Graph.inv hu1
 subst e5
 obtain ⟨z4, m4, k4, e6⟩ := rv_form r3
 subst e6
 obtain ⟨z5, m5, k5, e7⟩ := rv_form r4
 subst e7
 refine wl_op rfl (op_move (v := (Value.slice z3 m3 k3)) rfl rfl ?_)
 obtain ⟨x1, hx1, h⟩ := bnd h
 refine wl_op rfl (op_call_v (vs := [(Value.agg #[(Value.slice z4 m4 k4), (Value.slice z5 m5 k5)]), (Value.slice z3 m3 k3)]) (r := (Value.int .i64 (x1))) rfl ca21 rfl (args2 rfl rfl) I2 (fun Fr_ hF_ => F21_ok hF_ (Graph.rv (s := a0) r3 r4) (h1_.mono le1) hx1) (fun w2 I3 => ?_))
 refine wl_op rfl (op_assign (v := (Value.int .i64 (x1))) rfl rfl ?_)
 refine wl_nil ?_
 refine wp_seq' ?_
 refine wp_region' ?_
 refine wl_op rfl (op_move (v := (Value.int .i64 (x1))) rfl rfl ?_)
 refine wl_op rfl (op_neq (a := x1) (b := 0) rfl rfl rfl ?_)
 refine wl_nil ?_
 rcases ifs h with ⟨hc1, h⟩ | ⟨hc1, h⟩
 ·
  refine wp_cond_t (b := x1 != 0) rfl hc1 ?_
  refine wp_seq' ?_
  refine wp_region' ?_
  refine wl_op rfl (op_move (v := (Value.int .i64 (x1))) rfl rfl ?_)
  refine wl_op rfl (op_assign (v := (Value.int .i64 (0))) rfl rfl ?_)
  refine wl_op rfl (op_assign (v := (Value.int .i64 (0))) rfl rfl ?_)
  refine wl_op rfl (op_assign (v := (Value.int .i64 (x1))) rfl rfl ?_)
  refine wl_nil ?_
  refine wp_ret' ?_
  obtain rfl := Option.some.inj h
  exact ⟨(Value.tuple #[(Value.int .i64 (0)), (Value.int .i64 (0)), (Value.int .i64 (x1))]), (res3 rfl rfl rfl rfl), _, [], le1, I3, rfl, rfl⟩
 ·
  refine wp_cond_f (b := x1 != 0) rfl hc1 ?_
  refine wp_skip' ?_
  refine wp_seq' ?_
  refine wp_seq' ?_
  refine wp_region' ?_
  refine wl_op rfl (op_move (v := (Value.int .i64 (a2))) rfl rfl ?_)
  obtain ⟨x2, hx2, h⟩ := bnd h
  refine wl_op rfl (op_call_v (vs := [(Value.int .i64 (a2)), (Value.int .i64 (0)), (Value.int .i64 (20))]) (r := (Value.bool (x2))) rfl ca49 rfl (args3 rfl rfl rfl) I3 (fun Fr_ hF_ => F49_ok hF_  hx2) (fun w3 I4 => ?_))
  refine wl_op rfl (op_not (b := x2) rfl rfl ?_)
  refine wl_nil ?_
  rcases ifs h with ⟨hc2, h⟩ | ⟨hc2, h⟩
  ·
   refine wp_cond_t (b := !x2) rfl hc2 ?_
   refine wp_seq' ?_
   refine wp_region' ?_
   refine wl_op rfl (op_assign (v := (Value.int .i64 (0))) rfl rfl ?_)
   refine wl_op rfl (op_assign (v := (Value.int .i64 (0))) rfl rfl ?_)
   refine wl_op rfl (op_assign (v := (Value.int .i64 (1))) rfl rfl ?_)
   refine wl_nil ?_
   refine wp_ret' ?_
   obtain rfl := Option.some.inj h
   exact ⟨(Value.tuple #[(Value.int .i64 (0)), (Value.int .i64 (0)), (Value.int .i64 (1))]), (res3 rfl rfl rfl rfl), _, [], le1, I4, rfl, rfl⟩
  ·
   refine wp_cond_f (b := !x2) rfl hc2 ?_
   refine wp_skip' ?_
   refine wp_seq' ?_
   refine wp_region' ?_
   refine wl_op rfl (op_assign (v := (Value.int .i64 (1))) rfl rfl ?_)
   refine wl_nil ?_
   refine wp_seq' ?_
   refine wp_seq' ?_
   refine wp_region' ?_
   refine wl_op rfl (op_assign (v := (Value.int .i64 (0))) rfl rfl ?_)
   refine wl_nil ?_
   have hk1 : a1.length ≤ 9223372036854775807 := (rv_len h1_)
   obtain ⟨o2, hrun1, h⟩ := bnd h
   refine wp_cutN (fun f w => ∃ out1, o2 = Sum.inl out1 ∧ Inv w S1 (Fr) ∧ f 1 = (Value.slice z3 m3 k3) ∧ f 2 = (Value.int .i64 (a2)) ∧ f 3 = (Value.pointer (some ⟨g1, 0, none⟩)) ∧ f 10 = (Value.int .i64 (out1))) ?_ ?_
   ·
    refine wp_block' ?_
    refine wp_forN (I := fun (i1 : Nat) (s1 : (Int)) (f : Frm) (w : World) => Inv w S1 (Fr) ∧ f 1 = (Value.slice z3 m3 k3) ∧ f 2 = (Value.int .i64 (a2)) ∧ f 3 = (Value.pointer (some ⟨g1, 0, none⟩)) ∧ f 10 = (Value.int .i64 (s1)) ∧ f 11 = (Value.int .i64 (i1 : Int))) hrun1 ⟨I4, rfl, rfl, rfl, rfl, rfl⟩ ?_ ?_
    ·
     rintro i1 s1 f w o1 hlt1 hI1 h10 hout1
     obtain ⟨I14, e50, e51, e52, e53, e54⟩ := hI1
     refine wp_seq' ?_
     refine wp_seq' ?_
     refine wp_region' ?_
     refine wl_op rfl (op_move (v := (Value.int .i64 ((i1 : Int)))) rfl e54 ?_)
     refine wl_op rfl (op_move (v := (Value.slice z3 m3 k3)) rfl e50 ?_)
     refine wl_op rfl (op_len_rv rfl Try.underlying26 rfl (h1_.mono le1) ?_)
     refine wl_op rfl (op_lss (a := (i1 : Int)) (b := (a1.length : Int)) rfl rfl rfl ?_)
     refine wl_nil ?_
     refine wp_cond_t (b := decide ((i1 : Int) < (a1.length : Int))) rfl (len_t hlt1) ?_
     refine wp_skip' ?_
     refine wp_seq' ?_
     refine wp_block' ?_
     refine wp_seq' ?_
     refine wp_region' ?_
     refine wl_op rfl (op_fieldAddr_t (v := (Value.pointer (some ⟨g1, 0, none⟩))) rfl fa25_1 e52 (p1.at_ I14) ?_)
     refine wl_op rfl (op_load (v := (fieldPtr (Value.pointer (some ⟨g1, 0, none⟩)) 1)) (e := a0.Edges) rfl sh23 rfl ((p1.at_ I14).fld Graph.fld1) (fun u8 hu8 => ?_))
     obtain ⟨z12, m12, k12, e55⟩ := rv_form hu8
     subst e55
     refine wl_op rfl (op_move (v := (Value.int .i64 ((i1 : Int)))) rfl e54 ?_)
     obtain ⟨x18, hx18, h10⟩ := bnd h10
     refine wl_op rfl (op_indexAddr_rv (v := (Value.slice z12 m12 k12)) (i := (i1 : Int)) (e := x18) rfl Try.underlying23 sh40 rfl hu8 rfl hx18 ?_)
     refine wl_op rfl (op_load (v := (elemPtr (Value.slice z12 m12 k12) ((i1 : Int)) (Enc.sz (List Edge)))) (e := x18) rfl sh40 rfl (hu8.elem I14.in_ hx18) (fun u9 hu9 => ?_))
     obtain ⟨z13, m13, k13, e56⟩ := rv_form hu9
     subst e56
     refine wl_op rfl (op_len_rv rfl Try.underlying40 rfl hu9 ?_)
     refine wl_op rfl (op_assign (v := (Value.int .i64 ((x18.length : Int)))) rfl rfl ?_)
     refine wl_nil ?_
     obtain ⟨v4, h13, h10⟩ := bnd h10
     refine wp_cut (fun f w => Inv w S1 (Fr) ∧ f 1 = (Value.slice z3 m3 k3) ∧ f 2 = (Value.int .i64 (a2)) ∧ f 3 = (Value.pointer (some ⟨g1, 0, none⟩)) ∧ f 10 = (Value.int .i64 (s1)) ∧ f 11 = (Value.int .i64 ((i1 : Int))) ∧ f 12 = (Value.int .i64 ((x18.length : Int))) ∧ f 57 = (Value.bool (v4))) ?_ ?_
     ·
      refine wp_region' ?_
      refine wl_op rfl (op_move (v := (Value.int .i64 (a2))) rfl e51 ?_)
      refine wl_op rfl (op_gtr (a := a2) (b := 0) rfl rfl rfl ?_)
      refine wl_op rfl (op_move (v := (Value.bool (decide (0 < a2)))) rfl rfl ?_)
      rcases ifs h13 with ⟨hc23, h13⟩ | ⟨hc23, h13⟩
      ·
       refine wl_taken (c := decide (0 < a2)) rfl rfl rfl rfl hc23 (op_move (v := (Value.slice z3 m3 k3)) rfl e50 ?_)
       refine wl_taken (c := decide (0 < a2)) rfl rfl rfl rfl hc23 (op_move (v := (Value.int .i64 ((i1 : Int)))) rfl e54 ?_)
       obtain ⟨x20, hx20, h13⟩ := bnd h13
       refine wl_taken (c := decide (0 < a2)) rfl rfl rfl rfl hc23 (op_indexAddr_rv (v := (Value.slice z3 m3 k3)) (i := (i1 : Int)) (e := x20) rfl Try.underlying26 sh3 rfl (h1_.mono le1) rfl hx20 ?_)
       refine wl_taken (c := decide (0 < a2)) rfl rfl rfl rfl hc23 (op_load_int (v := (elemPtr (Value.slice z3 m3 k3) ((i1 : Int)) (Enc.sz Int))) (e := x20) rfl sh3 rfl ((h1_.mono le1).elem I14.in_ hx20) ?_)
       refine wl_taken (c := decide (0 < a2)) rfl rfl rfl rfl hc23 (op_neq (a := x20) (b := 0) rfl rfl rfl ?_)
       refine wl_op rfl (op_pick_t (c := decide (0 < a2)) (a := (Value.bool (x20 != 0))) rfl rfl hc23 rfl ?_)
       refine wl_op rfl (op_move (v := (Value.bool (x20 != 0))) rfl rfl ?_)
       rcases ifs h13 with ⟨hc24, h13⟩ | ⟨hc24, h13⟩
       ·
        refine wl_taken (c := x20 != 0) rfl rfl rfl rfl hc24 (op_move (v := (Value.int .i64 ((x18.length : Int)))) rfl rfl ?_)
        refine wl_taken (c := x20 != 0) rfl rfl rfl rfl hc24 (op_gtr (a := (x18.length : Int)) (b := 0) rfl rfl rfl ?_)
        refine wl_op rfl (op_pick_t (c := x20 != 0) (a := (Value.bool (decide (0 < (x18.length : Int))))) rfl rfl hc24 rfl ?_)
        refine wl_nil ?_
        obtain rfl := Option.some.inj h13
        exact ⟨I14, e50, e51, e52, e53, e54, rfl, rfl⟩
       ·
        refine wl_skip (c := x20 != 0) rfl rfl rfl rfl hc24 rfl ?_
        refine wl_skip (c := x20 != 0) rfl rfl rfl rfl hc24 rfl ?_
        refine wl_op rfl (op_pick_f (c := x20 != 0) (b := (Value.bool (false))) rfl rfl hc24 rfl ?_)
        refine wl_nil ?_
        obtain rfl := Option.some.inj h13
        exact ⟨I14, e50, e51, e52, e53, e54, rfl, rfl⟩
      ·
       refine wl_skip (c := decide (0 < a2)) rfl rfl rfl rfl hc23 rfl ?_
       refine wl_skip (c := decide (0 < a2)) rfl rfl rfl rfl hc23 rfl ?_
       refine wl_skip (c := decide (0 < a2)) rfl rfl rfl rfl hc23 rfl ?_
       refine wl_skip (c := decide (0 < a2)) rfl rfl rfl rfl hc23 rfl ?_
       refine wl_skip (c := decide (0 < a2)) rfl rfl rfl rfl hc23 rfl ?_
       refine wl_op rfl (op_pick_f (c := decide (0 < a2)) (b := (Value.bool (false))) rfl rfl hc23 rfl ?_)
       refine wl_op rfl (op_move (v := (Value.bool (false))) rfl rfl ?_)
       refine wl_skip (c := false) rfl rfl rfl rfl rfl rfl ?_
       refine wl_skip (c := false) rfl rfl rfl rfl rfl rfl ?_
       refine wl_op rfl (op_pick_f (c := false) (b := (Value.bool (false))) rfl rfl rfl rfl ?_)
       refine wl_nil ?_
       obtain rfl := Option.some.inj h13
       exact ⟨I14, e50, e51, e52, e53, e54, rfl, rfl⟩
     ·
      rintro f w ⟨I15, e57, e58, e59, e60, e61, e62, e63⟩
      rcases ifs h10 with ⟨hc25, h10⟩ | ⟨hc25, h10⟩
      ·
       refine wp_cond_t (b := v4) e63 hc25 ?_
       refine wp_seq' ?_
       refine wp_region' ?_
       refine wl_op rfl (op_move (v := (Value.int .i64 (s1))) rfl e60 ?_)
       refine wl_op rfl (op_move (v := (Value.int .i64 (s1))) rfl e60 ?_)
       refine wl_op rfl (op_move (v := (Value.int .i64 ((x18.length : Int)))) rfl e62 ?_)
       obtain ⟨x21, hx21, h10⟩ := bnd h10
       refine wl_op rfl (op_call_v (vs := [(Value.int .i64 (s1)), (Value.int .i64 ((x18.length : Int)))]) (r := (Value.int .i64 (x21))) rfl ca55 rfl (args2 rfl rfl) I15 (fun Fr_ hF_ => F55_ok hF_  hx21) (fun w7 I16 => ?_))
       obtain ⟨x22, hx22, h10⟩ := bnd h10
       refine wl_op rfl (op_quo (a := s1) (b := x21) rfl rfl rfl hx22 ?_)
       refine wl_op rfl (op_move (v := (Value.int .i64 ((x18.length : Int)))) rfl e62 ?_)
       refine wl_op rfl (op_mul (a := x22) (b := (x18.length : Int)) rfl rfl rfl ?_)
       refine wl_op rfl (op_assign (v := (Value.int .i64 (w64 (x22 * (x18.length : Int))))) rfl rfl ?_)
       refine wl_nil ?_
       refine wp_seq' ?_
       refine wp_region' ?_
       refine wl_op rfl (op_move (v := (Value.int .i64 (w64 (x22 * (x18.length : Int))))) rfl rfl ?_)
       refine wl_op rfl (op_gtr (a := w64 (x22 * (x18.length : Int))) (b := 1000000000000000) rfl rfl rfl ?_)
       refine wl_nil ?_
       rcases ifs h10 with ⟨hc26, h10⟩ | ⟨hc26, h10⟩
       ·
        refine wp_cond_t (b := decide (1000000000000000 < (w64 (x22 * (x18.length : Int))))) rfl hc26 ?_
        refine wp_seq' ?_
        refine wp_region' ?_
        refine wl_op rfl (op_assign (v := (Value.int .i64 (0))) rfl rfl ?_)
        refine wl_op rfl (op_assign (v := (Value.int .i64 (0))) rfl rfl ?_)
        refine wl_op rfl (op_assign (v := (Value.int .i64 (2))) rfl rfl ?_)
        refine wl_nil ?_
        refine wp_ret' ?_
        obtain rfl := Option.some.inj h10
        obtain rfl := (hout1 _ rfl)
        have h11 := h
        obtain rfl := Option.some.inj h11
        exact ⟨(Value.tuple #[(Value.int .i64 (0)), (Value.int .i64 (0)), (Value.int .i64 (2))]), (res3 rfl rfl rfl rfl), _, [], le1, I16, rfl, rfl⟩
       ·
        refine wp_cond_f (b := decide (1000000000000000 < (w64 (x22 * (x18.length : Int))))) rfl hc26 ?_
        refine wp_skip' ?_
        refine wp_region' ?_
        refine wl_op rfl (op_move (v := (Value.int .i64 ((i1 : Int)))) rfl e61 ?_)
        refine wl_op rfl (op_add (a := (i1 : Int)) (b := 1) rfl rfl rfl ?_)
        refine wl_op rfl (op_assign (v := (Value.int .i64 (w64 ((i1 : Int) + 1)))) rfl rfl ?_)
        refine wl_nil ?_
        obtain rfl := Option.some.inj h10
        exact ⟨_, rfl, I16, e57, e58, e59, rfl, (idx_next hlt1 hk1)⟩
      ·
       refine wp_cond_f (b := v4) e63 hc25 ?_
       refine wp_skip' ?_
       refine wp_region' ?_
       refine wl_op rfl (op_move (v := (Value.int .i64 ((i1 : Int)))) rfl e61 ?_)
       refine wl_op rfl (op_add (a := (i1 : Int)) (b := 1) rfl rfl rfl ?_)
       refine wl_op rfl (op_assign (v := (Value.int .i64 (w64 ((i1 : Int) + 1)))) rfl rfl ?_)
       refine wl_nil ?_
       obtain rfl := Option.some.inj h10
       exact ⟨_, rfl, I15, e57, e58, e59, e60, (idx_next hlt1 hk1)⟩
    ·
     rintro s2 f w hs1 hI2
     obtain ⟨I17, e64, e65, e66, e67, e68⟩ := hI2
     refine wp_seq' ?_
     refine wp_seq' ?_
     refine wp_region' ?_
     refine wl_op rfl (op_move (v := (Value.int .i64 ((a1.length : Int)))) rfl e68 ?_)
     refine wl_op rfl (op_move (v := (Value.slice z3 m3 k3)) rfl e64 ?_)
     refine wl_op rfl (op_len_rv rfl Try.underlying26 rfl (h1_.mono le1) ?_)
     refine wl_op rfl (op_lss (a := (a1.length : Int)) (b := (a1.length : Int)) rfl rfl rfl ?_)
     refine wl_nil ?_
     refine wp_cond_f (b := decide ((a1.length : Int) < (a1.length : Int))) rfl (len_f _) ?_
     refine wp_exit' ?_
     exact ⟨s2, hs1, I17, e64, e65, e66, e67⟩
   ·
    rintro f w ⟨out1, rfl, I18, e69, e70, e71, e72⟩
    have h := onL_inl h
    refine wp_seq' ?_
    refine wp_region' ?_
    refine wl_op rfl (op_assign (v := (Value.int .i64 (1))) rfl rfl ?_)
    refine wl_nil ?_
    refine wp_seq' ?_
    refine wp_seq' ?_
    refine wp_region' ?_
    refine wl_op rfl (op_assign (v := (Value.int .i64 (0))) rfl rfl ?_)
    refine wl_nil ?_
    obtain ⟨x26, hx26, h⟩ := bnd h
    obtain ⟨o4, hrun2, h⟩ := bnd h
    refine wp_cutN (fun f w => ∃ out2, o4 = Sum.inl out2 ∧ Inv w S1 (Fr) ∧ f 1 = (Value.slice z3 m3 k3) ∧ f 2 = (Value.int .i64 (a2)) ∧ f 3 = (Value.pointer (some ⟨g1, 0, none⟩)) ∧ f 10 = (Value.int .i64 (out1)) ∧ f 13 = (Value.int .i64 (out2))) ?_ ?_
    ·
     refine wp_block' ?_
     refine wp_forN (I := fun (i2 : Nat) (s3 : (Int)) (f : Frm) (w : World) => Inv w S1 (Fr) ∧ f 1 = (Value.slice z3 m3 k3) ∧ f 2 = (Value.int .i64 (a2)) ∧ f 3 = (Value.pointer (some ⟨g1, 0, none⟩)) ∧ f 10 = (Value.int .i64 (out1)) ∧ f 13 = (Value.int .i64 (s3)) ∧ f 14 = (Value.int .i64 (i2 : Int))) hrun2 ⟨I18, e69, e70, e71, e72, rfl, rfl⟩ ?_ ?_
     ·
      rintro i2 s3 f w o3 hlt2 hI3 h15 hout2
      obtain ⟨I22, e91, e92, e93, e94, e95, e96⟩ := hI3
      refine wp_seq' ?_
      refine wp_seq' ?_
      refine wp_region' ?_
      refine wl_op rfl (op_move (v := (Value.int .i64 ((i2 : Int)))) rfl e96 ?_)
      refine wl_op rfl (op_move (v := (Value.int .i64 (a2))) rfl e92 ?_)
      refine wl_op rfl (op_lss (a := (i2 : Int)) (b := a2) rfl rfl rfl ?_)
      refine wl_nil ?_
      refine wp_cond_t (b := decide ((i2 : Int) < a2)) rfl (cnt_t hx26 hlt2) ?_
      refine wp_skip' ?_
      refine wp_seq' ?_
      refine wp_block' ?_
      refine wp_seq' ?_
      refine wp_seq' ?_
      refine wp_region' ?_
      refine wl_op rfl (op_move (v := (Value.int .i64 (s3))) rfl e95 ?_)
      refine wl_op rfl (op_move (v := (Value.int .i64 (out1))) rfl e94 ?_)
      obtain ⟨x27, hx27, h15⟩ := bnd h15
      refine wl_op rfl (op_quo (a := 1000000000000000) (b := out1) rfl rfl rfl hx27 ?_)
      refine wl_op rfl (op_gtr (a := s3) (b := x27) rfl rfl rfl ?_)
      refine wl_nil ?_
      rcases ifs h15 with ⟨hc30, h15⟩ | ⟨hc30, h15⟩
      ·
       refine wp_cond_t (b := decide (x27 < s3)) rfl hc30 ?_
       refine wp_seq' ?_
       refine wp_region' ?_
       refine wl_op rfl (op_assign (v := (Value.int .i64 (0))) rfl rfl ?_)
       refine wl_op rfl (op_assign (v := (Value.int .i64 (0))) rfl rfl ?_)
       refine wl_op rfl (op_assign (v := (Value.int .i64 (2))) rfl rfl ?_)
       refine wl_nil ?_
       refine wp_ret' ?_
       obtain rfl := Option.some.inj h15
       obtain rfl := (hout2 _ rfl)
       have h16 := h
       obtain rfl := Option.some.inj h16
       exact ⟨(Value.tuple #[(Value.int .i64 (0)), (Value.int .i64 (0)), (Value.int .i64 (2))]), (res3 rfl rfl rfl rfl), _, [], le1, I22, rfl, rfl⟩
      ·
       refine wp_cond_f (b := decide (x27 < s3)) rfl hc30 ?_
       refine wp_skip' ?_
       refine wp_region' ?_
       refine wl_op rfl (op_move (v := (Value.int .i64 (s3))) rfl e95 ?_)
       refine wl_op rfl (op_move (v := (Value.int .i64 (out1))) rfl e94 ?_)
       refine wl_op rfl (op_mul (a := s3) (b := out1) rfl rfl rfl ?_)
       refine wl_op rfl (op_assign (v := (Value.int .i64 (w64 (s3 * out1)))) rfl rfl ?_)
       refine wl_nil ?_
       refine wp_region' ?_
       refine wl_op rfl (op_move (v := (Value.int .i64 ((i2 : Int)))) rfl e96 ?_)
       refine wl_op rfl (op_add (a := (i2 : Int)) (b := 1) rfl rfl rfl ?_)
       refine wl_op rfl (op_assign (v := (Value.int .i64 (w64 ((i2 : Int) + 1)))) rfl rfl ?_)
       refine wl_nil ?_
       obtain rfl := Option.some.inj h15
       exact ⟨_, rfl, I22, e91, e92, e93, e94, rfl, (idx_next hlt2 (cnt_le hx26))⟩
     ·
      rintro s4 f w hs2 hI4
      obtain ⟨I23, e97, e98, e99, e100, e101, e102⟩ := hI4
      refine wp_seq' ?_
      refine wp_seq' ?_
      refine wp_region' ?_
      refine wl_op rfl (op_move (v := (Value.int .i64 ((x26 : Int)))) rfl e102 ?_)
      refine wl_op rfl (op_move (v := (Value.int .i64 (a2))) rfl e98 ?_)
      refine wl_op rfl (op_lss (a := (x26 : Int)) (b := a2) rfl rfl rfl ?_)
      refine wl_nil ?_
      refine wp_cond_f (b := decide ((x26 : Int) < a2)) rfl (cnt_f hx26) ?_
      refine wp_exit' ?_
      exact ⟨s4, hs2, I23, e97, e98, e99, e100, e101⟩
    ·
     rintro f w ⟨out2, rfl, I24, e103, e104, e105, e106, e107⟩
     have h := onL_inl h
     refine wp_seq' ?_
     refine wp_region' ?_
     refine wl_op rfl (op_move (v := (Value.slice z3 m3 k3)) rfl e103 ?_)
     refine wl_op rfl (op_len_rv rfl Try.underlying26 rfl (h1_.mono le1) ?_)
     obtain ⟨x28, hx28, h⟩ := bnd h
     refine wl_op rfl (op_makeSlice (c := (a1.length : Int)) rfl Try.underlying26 el3 (by decide) rfl rfl I24 hx28 (fun u10 w8 I25 => ?_))
     obtain ⟨z14, m14, k14, e108⟩ := row_form I25
     subst e108
     refine wl_op rfl (op_assign (v := (Value.slice z14 m14 k14)) rfl rfl ?_)
     refine wl_nil ?_
     refine wp_seq' ?_
     refine wp_region' ?_
     refine wl_op rfl (op_move (v := (Value.slice z14 m14 k14)) rfl rfl ?_)
     refine wl_op rfl (op_move (v := (Value.int .i64 (out2))) rfl e107 ?_)
     obtain ⟨x29, hx29, h⟩ := bnd h
     refine wl_op rfl (op_indexAddr_src (v := (Value.slice z14 m14 k14)) (i := 0) (e := x29) rfl Try.underlying26 sh3 rfl (Inv.rowSrc (I25.nth 0 rfl)) rfl hx29 ?_)
     refine wl_op rfl (op_storeRow (u := (Value.int .i64 (out2))) (e' := out2) sh3 I25 rfl rfl hx29 (rv_int' _) (fun w9 I26 => ?_))
     refine wl_nil ?_
     refine wp_seq' ?_
     refine wp_seq' ?_
     refine wp_region' ?_
     refine wl_op rfl (op_assign (v := (Value.int .i64 (0))) rfl rfl ?_)
     refine wl_nil ?_
     obtain ⟨x373, hx373, h⟩ := bnd h
     obtain ⟨out18, hrun18, h⟩ := bnd h
     refine wp_cutN (fun f w => ∃ (S_ : PH) (z381 : Option Addr) (m381 k381 : Nat), S1.Le S_ ∧ Inv w S_ (Row (α := Int) 3 (Value.slice z381 m381 k381) (out18) :: Fr) ∧ f 1 = (Value.slice z3 m3 k3) ∧ f 2 = (Value.int .i64 (a2)) ∧ f 3 = (Value.pointer (some ⟨g1, 0, none⟩)) ∧ f 13 = (Value.int .i64 (out2)) ∧ f 15 = (Value.slice z381 m381 k381)) ?_ ?_
     ·
      refine wp_block' ?_
      refine wp_forS (I := fun (i18 : Nat) (s20 : (List Int)) (f : Frm) (w : World) => ∃ (S_ : PH) (z380 : Option Addr) (m380 k380 : Nat), S1.Le S_ ∧ Inv w S_ (Row (α := Int) 3 (Value.slice z380 m380 k380) (s20) :: Fr) ∧ f 1 = (Value.slice z3 m3 k3) ∧ f 2 = (Value.int .i64 (a2)) ∧ f 3 = (Value.pointer (some ⟨g1, 0, none⟩)) ∧ f 13 = (Value.int .i64 (out2)) ∧ f 15 = (Value.slice z380 m380 k380) ∧ f 16 = (Value.int .i64 (i18 : Int))) hrun18 ⟨_, _, _, _, (PH.Le.refl _), I26, e103, e104, e105, e107, rfl, rfl⟩ ?_ ?_
      ·
       rintro i18 s20 f w o20 hlt18 hI1379 h155
       obtain ⟨S1423, z380, m380, k380, le1423, I1647, e2359, e2360, e2361, e2362, e2363, e2364⟩ := hI1379
       refine wp_seq' ?_
       refine wp_seq' ?_
       refine wp_region' ?_
       refine wl_op rfl (op_move (v := (Value.int .i64 ((i18 : Int)))) rfl e2364 ?_)
       refine wl_op rfl (op_move (v := (Value.int .i64 (a2))) rfl e2360 ?_)
       refine wl_op rfl (op_lss (a := (i18 : Int)) (b := a2) rfl rfl rfl ?_)
       refine wl_nil ?_
       refine wp_cond_t (b := decide ((i18 : Int) < a2)) rfl (cnt_t hx373 hlt18) ?_
       refine wp_skip' ?_
       refine wp_seq' ?_
       refine wp_block' ?_
       refine wp_seq' ?_
       refine wp_region' ?_
       refine wl_op rfl (op_move (v := (Value.slice z3 m3 k3)) rfl e2359 ?_)
       refine wl_op rfl (op_len_rv rfl Try.underlying26 rfl (h1_.mono (le1.trans le1423)) ?_)
       obtain ⟨x374, hx374, h155⟩ := bnd h155
       refine wl_op rfl (op_makeSlice (c := (a1.length : Int)) rfl Try.underlying26 el3 (by decide) rfl rfl I1647 hx374 (fun u470 w1502 I1648 => ?_))
       obtain ⟨z382, m382, k382, e2365⟩ := row_form I1648
       subst e2365
       refine wl_op rfl (op_assign (v := (Value.slice z382 m382 k382)) rfl rfl ?_)
       refine wl_nil ?_
       refine wp_seq' ?_
       refine wp_seq' ?_
       refine wp_region' ?_
       refine wl_op rfl (op_assign (v := (Value.int .i64 (0))) rfl rfl ?_)
       refine wl_nil ?_
       have hk20 : a1.length ≤ 9223372036854775807 := (rv_len h1_)
       obtain ⟨out22, hrun22, h155⟩ := bnd h155
       refine wp_cutN (fun f w => ∃ (S_ : PH), S1423.Le S_ ∧ Inv w S_ (Row (α := Int) 3 (Value.slice z380 m380 k380) (s20) :: Row (α := Int) 3 (Value.slice z382 m382 k382) (out22) :: Fr) ∧ f 1 = (Value.slice z3 m3 k3) ∧ f 2 = (Value.int .i64 (a2)) ∧ f 3 = (Value.pointer (some ⟨g1, 0, none⟩)) ∧ f 13 = (Value.int .i64 (out2)) ∧ f 15 = (Value.slice z380 m380 k380) ∧ f 16 = (Value.int .i64 ((i18 : Int))) ∧ f 17 = (Value.slice z382 m382 k382)) ?_ ?_
       ·
        refine wp_block' ?_
        refine wp_forS (I := fun (i22 : Nat) (s24 : (List Int)) (f : Frm) (w : World) => ∃ (S_ : PH), S1423.Le S_ ∧ Inv w S_ (Row (α := Int) 3 (Value.slice z380 m380 k380) (s20) :: Row (α := Int) 3 (Value.slice z382 m382 k382) (s24) :: Fr) ∧ f 1 = (Value.slice z3 m3 k3) ∧ f 2 = (Value.int .i64 (a2)) ∧ f 3 = (Value.pointer (some ⟨g1, 0, none⟩)) ∧ f 13 = (Value.int .i64 (out2)) ∧ f 15 = (Value.slice z380 m380 k380) ∧ f 16 = (Value.int .i64 ((i18 : Int))) ∧ f 17 = (Value.slice z382 m382 k382) ∧ f 18 = (Value.int .i64 (i22 : Int))) hrun22 ⟨_, (PH.Le.refl _), (I1648.pull 1), e2359, e2360, e2361, e2362, e2363, e2364, rfl, rfl⟩ ?_ ?_
        ·
         rintro i22 s24 f w o24 hlt22 hI1722 h190
         obtain ⟨S1777, le1777, I2051, e2912, e2913, e2914, e2915, e2916, e2917, e2918, e2919⟩ := hI1722
         refine wp_seq' ?_
         refine wp_seq' ?_
         refine wp_region' ?_
         refine wl_op rfl (op_move (v := (Value.int .i64 ((i22 : Int)))) rfl e2919 ?_)
         refine wl_op rfl (op_move (v := (Value.slice z3 m3 k3)) rfl e2912 ?_)
         refine wl_op rfl (op_len_rv rfl Try.underlying26 rfl (h1_.mono ((le1.trans le1423).trans le1777)) ?_)
         refine wl_op rfl (op_lss (a := (i22 : Int)) (b := (a1.length : Int)) rfl rfl rfl ?_)
         refine wl_nil ?_
         refine wp_cond_t (b := decide ((i22 : Int) < (a1.length : Int))) rfl (len_t hlt22) ?_
         refine wp_skip' ?_
         refine wp_seq' ?_
         refine wp_block' ?_
         refine wp_seq' ?_
         refine wp_region' ?_
         refine wl_op rfl (op_fieldAddr_t (v := (Value.pointer (some ⟨g1, 0, none⟩))) rfl fa25_1 e2914 ((p1.mono (le1423.trans le1777)).at_ I2051) ?_)
         refine wl_op rfl (op_load (v := (fieldPtr (Value.pointer (some ⟨g1, 0, none⟩)) 1)) (e := a0.Edges) rfl sh23 rfl (((p1.mono (le1423.trans le1777)).at_ I2051).fld Graph.fld1) (fun u585 hu580 => ?_))
         obtain ⟨z473, m473, k473, e2920⟩ := rv_form hu580
         subst e2920
         refine wl_op rfl (op_move (v := (Value.int .i64 ((i22 : Int)))) rfl e2919 ?_)
         obtain ⟨x462, hx462, h190⟩ := bnd h190
         refine wl_op rfl (op_indexAddr_rv (v := (Value.slice z473 m473 k473)) (i := (i22 : Int)) (e := x462) rfl Try.underlying23 sh40 rfl hu580 rfl hx462 ?_)
         refine wl_op rfl (op_load (v := (elemPtr (Value.slice z473 m473 k473) ((i22 : Int)) (Enc.sz (List Edge)))) (e := x462) rfl sh40 rfl (hu580.elem I2051.in_ hx462) (fun u586 hu581 => ?_))
         obtain ⟨z474, m474, k474, e2921⟩ := rv_form hu581
         subst e2921
         refine wl_op rfl (op_len_rv rfl Try.underlying40 rfl hu581 ?_)
         refine wl_op rfl (op_assign (v := (Value.int .i64 ((x462.length : Int)))) rfl rfl ?_)
         refine wl_nil ?_
         obtain ⟨ov51, h196, h190⟩ := bnd h190
         refine wp_cut (fun f w => ∃ v51, ov51 = Sum.inl v51 ∧ Inv w S1777 (Row (α := Int) 3 (Value.slice z380 m380 k380) (s20) :: Row (α := Int) 3 (Value.slice z382 m382 k382) (s24) :: Fr) ∧ f 1 = (Value.slice z3 m3 k3) ∧ f 2 = (Value.int .i64 (a2)) ∧ f 3 = (Value.pointer (some ⟨g1, 0, none⟩)) ∧ f 13 = (Value.int .i64 (out2)) ∧ f 15 = (Value.slice z380 m380 k380) ∧ f 16 = (Value.int .i64 ((i18 : Int))) ∧ f 17 = (Value.slice z382 m382 k382) ∧ f 18 = (Value.int .i64 ((i22 : Int))) ∧ f 19 = (Value.int .i64 ((x462.length : Int)))) ?_ ?_
         ·
          obtain ⟨v52, h199, h196⟩ := bnd h196
          refine wp_cut (fun f w => Inv w S1777 (Row (α := Int) 3 (Value.slice z380 m380 k380) (s20) :: Row (α := Int) 3 (Value.slice z382 m382 k382) (s24) :: Fr) ∧ f 1 = (Value.slice z3 m3 k3) ∧ f 2 = (Value.int .i64 (a2)) ∧ f 3 = (Value.pointer (some ⟨g1, 0, none⟩)) ∧ f 13 = (Value.int .i64 (out2)) ∧ f 15 = (Value.slice z380 m380 k380) ∧ f 16 = (Value.int .i64 ((i18 : Int))) ∧ f 17 = (Value.slice z382 m382 k382) ∧ f 18 = (Value.int .i64 ((i22 : Int))) ∧ f 19 = (Value.int .i64 ((x462.length : Int))) ∧ f 113 = (Value.bool (v52))) ?_ ?_
          ·
           refine wp_region' ?_
           refine wl_op rfl (op_move (v := (Value.slice z3 m3 k3)) rfl e2912 ?_)
           refine wl_op rfl (op_move (v := (Value.int .i64 ((i22 : Int)))) rfl e2919 ?_)
           obtain ⟨x468, hx468, h199⟩ := bnd h199
           refine wl_op rfl (op_indexAddr_rv (v := (Value.slice z3 m3 k3)) (i := (i22 : Int)) (e := x468) rfl Try.underlying26 sh3 rfl (h1_.mono ((le1.trans le1423).trans le1777)) rfl hx468 ?_)
           refine wl_op rfl (op_load_int (v := (elemPtr (Value.slice z3 m3 k3) ((i22 : Int)) (Enc.sz Int))) (e := x468) rfl sh3 rfl ((h1_.mono ((le1.trans le1423).trans le1777)).elem I2051.in_ hx468) ?_)
           refine wl_op rfl (op_eql (a := x468) (b := 0) rfl rfl rfl ?_)
           refine wl_op rfl (op_move (v := (Value.bool (x468 == 0))) rfl rfl ?_)
           rcases ifs h199 with ⟨hc125, h199⟩ | ⟨hc125, h199⟩
           ·
            refine wl_skip (c := x468 == 0) rfl rfl rfl rfl hc125 rfl ?_
            refine wl_skip (c := x468 == 0) rfl rfl rfl rfl hc125 rfl ?_
            refine wl_op rfl (op_pick_t (c := x468 == 0) (a := (Value.bool (true))) rfl rfl hc125 rfl ?_)
            refine wl_nil ?_
            obtain rfl := Option.some.inj h199
            exact ⟨((I2051.pull 1).pull 1), e2912, e2913, e2914, e2915, e2916, e2917, e2918, e2919, rfl, rfl⟩
           ·
            refine wl_taken (c := x468 == 0) rfl rfl rfl rfl hc125 (op_move (v := (Value.int .i64 ((x462.length : Int)))) rfl rfl ?_)
            refine wl_taken (c := x468 == 0) rfl rfl rfl rfl hc125 (op_eql (a := (x462.length : Int)) (b := 0) rfl rfl rfl ?_)
            refine wl_op rfl (op_pick_f (c := x468 == 0) (b := (Value.bool ((x462.length : Int) == 0))) rfl rfl hc125 rfl ?_)
            refine wl_nil ?_
            obtain rfl := Option.some.inj h199
            exact ⟨((I2051.pull 1).pull 1), e2912, e2913, e2914, e2915, e2916, e2917, e2918, e2919, rfl, rfl⟩
          ·
           rintro f w ⟨I2067, e2940, e2941, e2942, e2943, e2944, e2945, e2946, e2947, e2948, e2949⟩
           rcases ifs h196 with ⟨hc126, h196⟩ | ⟨hc126, h196⟩
           ·
            refine wp_cond_t (b := v52) e2949 hc126 ?_
            refine wp_seq' ?_
            obtain ⟨x469, hx469, h196⟩ := bnd h196
            obtain ⟨x470, hx470, h196⟩ := bnd h196
            refine wp_draw (sps := [⟨some 114, [], [0], fun vs_ T_ => fr0 vs_ 0 = (Value.slice z382 m382 k382), [], [], [], fun _ h_ => h_⟩, ⟨some 115, [], [1], fun vs_ T_ => fr0 vs_ 0 = (Value.int .i64 ((i22 : Int))), [], [], [], fun _ h_ => h_⟩, ⟨some 116, [0, 1], [2], fun vs_ T_ => fr0 vs_ 0 = (elemPtr (Value.slice z382 m382 k382) ((i22 : Int)) (Enc.sz Int)), [0], [], [], fun _ h_ => h_⟩, ⟨some 117, [0, 1, 2], [3], fun vs_ T_ => fr0 vs_ 0 = (Value.int .i64 (x469)), [0], [], [], fun _ h_ => h_⟩, ⟨some 118, [], [4], fun vs_ T_ => fr0 vs_ 0 = (Value.slice z380 m380 k380), [], [], [], fun _ h_ => h_⟩, ⟨some 119, [], [5], fun vs_ T_ => fr0 vs_ 0 = (Value.int .i64 ((i22 : Int))), [], [], [], fun _ h_ => h_⟩, ⟨some 120, [4, 5], [6], fun vs_ T_ => fr0 vs_ 0 = (elemPtr (Value.slice z380 m380 k380) ((i22 : Int)) (Enc.sz Int)), [1], [], [], fun _ h_ => h_⟩, ⟨some 121, [4, 5, 6], [7], fun vs_ T_ => fr0 vs_ 0 = (Value.int .i64 (x470)), [1], [], [], fun _ h_ => h_⟩, ⟨some 122, [0, 1, 2, 3, 4, 5, 6, 7], [8], fun vs_ T_ => fr0 vs_ 0 = (Value.int .i64 (w64 (x469 + x470))), [], [], [], fun _ h_ => h_⟩, ⟨some 123, [0, 1, 2, 3, 4, 5, 6, 7, 8], [9], fun vs_ T_ => fr0 vs_ 0 = (elemPtr (Value.slice z382 m382 k382) ((i22 : Int)) (Enc.sz Int)), [0], [], [], fun _ h_ => h_⟩, ⟨none, [0, 1, 2, 3, 4, 5, 6, 7, 8, 9], [], fun vs_ T_ => True, [], [0], [2], fun _ h_ => h_⟩]) (tks := [⟨none, some 10, [], fun vs_ => Row (α := Int) 3 (Value.slice z382 m382 k382) (s24)⟩, ⟨none, none, [], fun vs_ => Row (α := Int) 3 (Value.slice z380 m380 k380) (s20)⟩, ⟨some 10, none, [], fun vs_ => Row (α := Int) 3 (Value.slice z382 m382 k382) (s24.set ((i22 : Int)).toNat (w64 (x469 + x470)))⟩]) (O := Fr) rfl (by kernel_rfl) (I2067.pull 1) ⟨?_, ?_, ?_, ?_, ?_, ?_, ?_, ?_, ?_, ?_, ?_, trivial⟩ ?_
            ·
             intro vs1693 f w1890 S1790 X1602 le1790 hA1602 hK1693 hI1735
             have I2069 : Inv w1890 S1790 (X1602) := hI1735
             refine opg_plain rfl rfl (op_move (v := (Value.slice z382 m382 k382)) rfl ((hK1693 17 (keep_of rfl)).trans e2946) ?_)
             refine ⟨_, _, rfl, PH.Le.refl _, ?_, ?_⟩
             ·
              exact rfl
             ·
              exact I2069
            ·
             intro vs1694 f w1891 S1791 X1603 le1791 hA1603 hK1694 hI1736
             have I2070 : Inv w1891 S1791 (X1603) := hI1736
             refine opg_plain rfl rfl (op_move (v := (Value.int .i64 ((i22 : Int)))) rfl ((hK1694 18 (keep_of rfl)).trans e2947) ?_)
             refine ⟨_, _, rfl, PH.Le.refl _, ?_, ?_⟩
             ·
              exact rfl
             ·
              exact I2070
            ·
             intro vs1695 f w1892 S1792 X1604 le1792 hA1604 hK1695 hI1737
             have I2071 : Inv w1892 S1792 (Row (α := Int) 3 (Value.slice z382 m382 k382) (s24) :: X1604) := hI1737
             have q2113 : f 114 = (Value.slice z382 m382 k382) := vt (hA1604.at_ 0 rfl _ rfl) rfl
             have q2114 : f 115 = (Value.int .i64 ((i22 : Int))) := vt (hA1604.at_ 1 rfl _ rfl) rfl
             refine opg_plain rfl rfl (op_indexAddr_src (v := (Value.slice z382 m382 k382)) (i := (i22 : Int)) (e := x469) rfl Try.underlying26 sh3 q2113 (Inv.rowSrc (I2071.nth 0 rfl)) q2114 hx469 ?_)
             refine ⟨_, _, rfl, PH.Le.refl _, ?_, ?_⟩
             ·
              exact rfl
             ·
              exact I2071
            ·
             intro vs1696 f w1893 S1793 X1605 le1793 hA1605 hK1696 hI1738
             have I2072 : Inv w1893 S1793 (Row (α := Int) 3 (Value.slice z382 m382 k382) (s24) :: X1605) := hI1738
             have q2115 : f 116 = (elemPtr (Value.slice z382 m382 k382) ((i22 : Int)) (Enc.sz Int)) := vt (hA1605.at_ 2 rfl _ rfl) rfl
             refine opg_plain rfl rfl (op_load_int (v := (elemPtr (Value.slice z382 m382 k382) ((i22 : Int)) (Enc.sz Int))) (e := x469) rfl sh3 q2115 ((I2072.nth 0 rfl).rowElem hx469) ?_)
             refine ⟨_, _, rfl, PH.Le.refl _, ?_, ?_⟩
             ·
              exact rfl
             ·
              exact I2072
            ·
             intro vs1697 f w1894 S1794 X1606 le1794 hA1606 hK1697 hI1739
             have I2073 : Inv w1894 S1794 (X1606) := hI1739
             refine opg_plain rfl rfl (op_move (v := (Value.slice z380 m380 k380)) rfl ((hK1697 15 (keep_of rfl)).trans e2944) ?_)
             refine ⟨_, _, rfl, PH.Le.refl _, ?_, ?_⟩
             ·
              exact rfl
             ·
              exact I2073
            ·
             intro vs1698 f w1895 S1795 X1607 le1795 hA1607 hK1698 hI1740
             have I2074 : Inv w1895 S1795 (X1607) := hI1740
             refine opg_plain rfl rfl (op_move (v := (Value.int .i64 ((i22 : Int)))) rfl ((hK1698 18 (keep_of rfl)).trans e2947) ?_)
             refine ⟨_, _, rfl, PH.Le.refl _, ?_, ?_⟩
             ·
              exact rfl
             ·
              exact I2074
            ·
             intro vs1699 f w1896 S1796 X1608 le1796 hA1608 hK1699 hI1741
             have I2075 : Inv w1896 S1796 (Row (α := Int) 3 (Value.slice z380 m380 k380) (s20) :: X1608) := hI1741
             have q2116 : f 118 = (Value.slice z380 m380 k380) := vt (hA1608.at_ 0 rfl _ rfl) rfl
             have q2117 : f 119 = (Value.int .i64 ((i22 : Int))) := vt (hA1608.at_ 1 rfl _ rfl) rfl
             refine opg_plain rfl rfl (op_indexAddr_src (v := (Value.slice z380 m380 k380)) (i := (i22 : Int)) (e := x470) rfl Try.underlying26 sh3 q2116 (Inv.rowSrc (I2075.nth 0 rfl)) q2117 hx470 ?_)
             refine ⟨_, _, rfl, PH.Le.refl _, ?_, ?_⟩
             ·
              exact rfl
             ·
              exact I2075
            ·
             intro vs1700 f w1897 S1797 X1609 le1797 hA1609 hK1700 hI1742
             have I2076 : Inv w1897 S1797 (Row (α := Int) 3 (Value.slice z380 m380 k380) (s20) :: X1609) := hI1742
             have q2118 : f 120 = (elemPtr (Value.slice z380 m380 k380) ((i22 : Int)) (Enc.sz Int)) := vt (hA1609.at_ 2 rfl _ rfl) rfl
             refine opg_plain rfl rfl (op_load_int (v := (elemPtr (Value.slice z380 m380 k380) ((i22 : Int)) (Enc.sz Int))) (e := x470) rfl sh3 q2118 ((I2076.nth 0 rfl).rowElem hx470) ?_)
             refine ⟨_, _, rfl, PH.Le.refl _, ?_, ?_⟩
             ·
              exact rfl
             ·
              exact I2076
            ·
             intro vs1701 f w1898 S1798 X1610 le1798 hA1610 hK1701 hI1743
             have I2077 : Inv w1898 S1798 (X1610) := hI1743
             have q2119 : f 117 = (Value.int .i64 (x469)) := vt (hA1610.at_ 3 rfl _ rfl) rfl
             have q2120 : f 121 = (Value.int .i64 (x470)) := vt (hA1610.at_ 7 rfl _ rfl) rfl
             refine opg_plain rfl rfl (op_add (a := x469) (b := x470) rfl q2119 q2120 ?_)
             refine ⟨_, _, rfl, PH.Le.refl _, ?_, ?_⟩
             ·
              exact rfl
             ·
              exact I2077
            ·
             intro vs1702 f w1899 S1799 X1611 le1799 hA1611 hK1702 hI1744
             have I2078 : Inv w1899 S1799 (Row (α := Int) 3 (Value.slice z382 m382 k382) (s24) :: X1611) := hI1744
             have q2121 : f 114 = (Value.slice z382 m382 k382) := vt (hA1611.at_ 0 rfl _ rfl) rfl
             have q2122 : f 115 = (Value.int .i64 ((i22 : Int))) := vt (hA1611.at_ 1 rfl _ rfl) rfl
             refine opg_plain rfl rfl (op_indexAddr_src (v := (Value.slice z382 m382 k382)) (i := (i22 : Int)) (e := x469) rfl Try.underlying26 sh3 q2121 (Inv.rowSrc (I2078.nth 0 rfl)) q2122 hx469 ?_)
             refine ⟨_, _, rfl, PH.Le.refl _, ?_, ?_⟩
             ·
              exact rfl
             ·
              exact I2078
            ·
             intro vs1703 f w1900 S1800 X1612 le1800 hA1612 hK1703 hI1745
             have I2079 : Inv w1900 S1800 (Row (α := Int) 3 (Value.slice z382 m382 k382) (s24) :: X1612) := hI1745
             have q2123 : f 122 = (Value.int .i64 (w64 (x469 + x470))) := vt (hA1612.at_ 8 rfl _ rfl) rfl
             have q2124 : f 123 = (elemPtr (Value.slice z382 m382 k382) ((i22 : Int)) (Enc.sz Int)) := vt (hA1612.at_ 9 rfl _ rfl) rfl
             refine opg_plain rfl rfl (op_storeRow (u := (Value.int .i64 (w64 (x469 + x470)))) (e' := w64 (x469 + x470)) sh3 I2079 q2124 q2123 hx469 (rv_int' _) (fun w1901 I2080 => ?_))
             refine ⟨undef, _, rfl, PH.Le.refl _, ?_, ?_⟩
             ·
              exact trivial
             ·
              exact I2080
            ·
             intro vs1704 f w1902 S1801 le1801 hF92 hK1704 hI1746
             have e2950 : f 1 = (Value.slice z3 m3 k3) := (hK1704 1 (keep_all rfl)).trans e2940
             have e2951 : f 2 = (Value.int .i64 (a2)) := (hK1704 2 (keep_all rfl)).trans e2941
             have e2952 : f 3 = (Value.pointer (some ⟨g1, 0, none⟩)) := (hK1704 3 (keep_all rfl)).trans e2942
             have e2953 : f 13 = (Value.int .i64 (out2)) := (hK1704 13 (keep_all rfl)).trans e2943
             have e2954 : f 15 = (Value.slice z380 m380 k380) := (hK1704 15 (keep_all rfl)).trans e2944
             have e2955 : f 16 = (Value.int .i64 ((i18 : Int))) := (hK1704 16 (keep_all rfl)).trans e2945
             have e2956 : f 17 = (Value.slice z382 m382 k382) := (hK1704 17 (keep_all rfl)).trans e2946
             have e2957 : f 18 = (Value.int .i64 ((i22 : Int))) := (hK1704 18 (keep_all rfl)).trans e2947
             have I2081 : Inv w1902 S1801 (Row (α := Int) 3 (Value.slice z380 m380 k380) (s20) :: Row (α := Int) 3 (Value.slice z382 m382 k382) (s24.set ((i22 : Int)).toNat (w64 (x469 + x470))) :: Fr) := hI1746
             refine wp_exit' ?_
             refine wp_region' ?_
             refine wl_op rfl (op_move (v := (Value.int .i64 ((i22 : Int)))) rfl e2957 ?_)
             refine wl_op rfl (op_add (a := (i22 : Int)) (b := 1) rfl rfl rfl ?_)
             refine wl_op rfl (op_assign (v := (Value.int .i64 (w64 ((i22 : Int) + 1)))) rfl rfl ?_)
             refine wl_nil ?_
             obtain rfl := Option.some.inj h196
             have h197 := h190
             obtain rfl := Option.some.inj h197
             exact ⟨_, (le1777.trans le1801), ((I2081.pull 1).pull 1), e2950, e2951, e2952, e2953, e2954, e2955, e2956, (idx_next hlt22 hk20)⟩
           ·
            refine wp_cond_f (b := v52) e2949 hc126 ?_
            refine wp_skip' ?_
            obtain rfl := Option.some.inj h196
            exact ⟨_, rfl, ((I2067.pull 1).pull 1), e2940, e2941, e2942, e2943, e2944, e2945, e2946, e2947, e2948⟩
         ·
          rintro f w ⟨v51, rfl, I2082, e2958, e2959, e2960, e2961, e2962, e2963, e2964, e2965, e2966⟩
          have h190 := onL_inl h190
          refine wp_seq' ?_
          refine wp_region' ?_
          refine wl_op rfl (op_assign (v := (Value.int .i64 (0))) rfl rfl ?_)
          refine wl_nil ?_
          have hk21 : x462.length ≤ 9223372036854775807 := (rv_len hu581)
          obtain ⟨out23, hrun23, h190⟩ := bnd h190
          refine wp_cutN (fun f w => ∃ (S_ : PH), S1777.Le S_ ∧ Inv w S_ (Row (α := Int) 3 (Value.slice z380 m380 k380) (s20) :: Row (α := Int) 3 (Value.slice z382 m382 k382) (out23) :: Fr) ∧ f 1 = (Value.slice z3 m3 k3) ∧ f 2 = (Value.int .i64 (a2)) ∧ f 3 = (Value.pointer (some ⟨g1, 0, none⟩)) ∧ f 13 = (Value.int .i64 (out2)) ∧ f 15 = (Value.slice z380 m380 k380) ∧ f 16 = (Value.int .i64 ((i18 : Int))) ∧ f 17 = (Value.slice z382 m382 k382) ∧ f 18 = (Value.int .i64 ((i22 : Int))) ∧ f 19 = (Value.int .i64 ((x462.length : Int)))) ?_ ?_
          ·
           refine wp_block' ?_
           refine wp_forS (I := fun (i23 : Nat) (s25 : (List Int)) (f : Frm) (w : World) => ∃ (S_ : PH), S1777.Le S_ ∧ Inv w S_ (Row (α := Int) 3 (Value.slice z380 m380 k380) (s20) :: Row (α := Int) 3 (Value.slice z382 m382 k382) (s25) :: Fr) ∧ f 1 = (Value.slice z3 m3 k3) ∧ f 2 = (Value.int .i64 (a2)) ∧ f 3 = (Value.pointer (some ⟨g1, 0, none⟩)) ∧ f 13 = (Value.int .i64 (out2)) ∧ f 15 = (Value.slice z380 m380 k380) ∧ f 16 = (Value.int .i64 ((i18 : Int))) ∧ f 17 = (Value.slice z382 m382 k382) ∧ f 18 = (Value.int .i64 ((i22 : Int))) ∧ f 19 = (Value.int .i64 ((x462.length : Int))) ∧ f 20 = (Value.int .i64 (i23 : Int))) hrun23 ⟨_, (PH.Le.refl _), ((I2082.pull 1).pull 1), e2958, e2959, e2960, e2961, e2962, e2963, e2964, e2965, e2966, rfl⟩ ?_ ?_
           ·
            rintro i23 s25 f w o25 hlt23 hI1813 h201
            obtain ⟨S1870, le1870, I2158, e3048, e3049, e3050, e3051, e3052, e3053, e3054, e3055, e3056, e3057⟩ := hI1813
            refine wp_seq' ?_
            refine wp_seq' ?_
            refine wp_region' ?_
            refine wl_op rfl (op_move (v := (Value.int .i64 ((i23 : Int)))) rfl e3057 ?_)
            refine wl_op rfl (op_move (v := (Value.int .i64 ((x462.length : Int)))) rfl e3056 ?_)
            refine wl_op rfl (op_lss (a := (i23 : Int)) (b := (x462.length : Int)) rfl rfl rfl ?_)
            refine wl_nil ?_
            refine wp_cond_t (b := decide ((i23 : Int) < (x462.length : Int))) rfl (len_t hlt23) ?_
            refine wp_skip' ?_
            refine wp_seq' ?_
            refine wp_block' ?_
            obtain ⟨x486, hx486, h201⟩ := bnd h201
            obtain ⟨x487, hx487, h201⟩ := bnd h201
            obtain ⟨x488, hx488, h201⟩ := bnd h201
            obtain ⟨x489, hx489, h201⟩ := bnd h201
            obtain ⟨x490, hx490, h201⟩ := bnd h201
            refine wp_draw (sps := [⟨some 129, [], [0], fun vs_ T_ => fr0 vs_ 0 = (Value.slice z382 m382 k382), [], [], [], fun _ h_ => h_⟩, ⟨some 130, [], [1], fun vs_ T_ => fr0 vs_ 0 = (fieldPtr (Value.pointer (some ⟨g1, 0, none⟩)) 1), [], [], [], fun _ h_ => h_⟩, ⟨some 131, [1], [2], fun vs_ T_ => RV T_ (fr0 vs_ 0) a0.Edges, [], [], [], fun hle_ h_ => h_.mono hle_⟩, ⟨some 132, [], [3], fun vs_ T_ => fr0 vs_ 0 = (Value.int .i64 ((i22 : Int))), [], [], [], fun _ h_ => h_⟩, ⟨some 133, [1, 2, 3], [4, 2], fun vs_ T_ => fr0 vs_ 0 = (elemPtr (fr0 vs_ 1) ((i22 : Int)) (Enc.sz (List Edge))), [], [], [], fun _ h_ => h_⟩, ⟨some 134, [1, 2, 3, 4], [5], fun vs_ T_ => RV T_ (fr0 vs_ 0) x486, [], [], [], fun hle_ h_ => h_.mono hle_⟩, ⟨some 135, [], [6], fun vs_ T_ => fr0 vs_ 0 = (Value.int .i64 ((i23 : Int))), [], [], [], fun _ h_ => h_⟩, ⟨some 136, [1, 2, 3, 4, 5, 6], [7, 5], fun vs_ T_ => fr0 vs_ 0 = (elemPtr (fr0 vs_ 1) ((i23 : Int)) (Enc.sz Edge)), [], [], [], fun _ h_ => h_⟩, ⟨some 137, [1, 2, 3, 4, 5, 6, 7], [8, 5], fun vs_ T_ => fr0 vs_ 0 = (fieldPtr (elemPtr (fr0 vs_ 1) ((i23 : Int)) (Enc.sz Edge)) 3), [], [], [], fun _ h_ => h_⟩, ⟨some 138, [1, 2, 3, 4, 5, 6, 7, 8], [9], fun vs_ T_ => fr0 vs_ 0 = (Value.int .i64 (x487.To)), [], [], [], fun _ h_ => h_⟩, ⟨some 139, [0, 1, 2, 3, 4, 5, 6, 7, 8, 9], [10], fun vs_ T_ => fr0 vs_ 0 = (elemPtr (Value.slice z382 m382 k382) (x487.To) (Enc.sz Int)), [0], [], [], fun _ h_ => h_⟩, ⟨some 140, [0, 1, 2, 3, 4, 5, 6, 7, 8, 9, 10], [11], fun vs_ T_ => fr0 vs_ 0 = (Value.int .i64 (x488)), [0], [], [], fun _ h_ => h_⟩, ⟨some 141, [], [12], fun vs_ T_ => fr0 vs_ 0 = (Value.slice z380 m380 k380), [], [], [], fun _ h_ => h_⟩, ⟨some 142, [], [13], fun vs_ T_ => fr0 vs_ 0 = (Value.int .i64 ((i22 : Int))), [], [], [], fun _ h_ => h_⟩, ⟨some 143, [12, 13], [14], fun vs_ T_ => fr0 vs_ 0 = (elemPtr (Value.slice z380 m380 k380) ((i22 : Int)) (Enc.sz Int)), [1], [], [], fun _ h_ => h_⟩, ⟨some 144, [12, 13, 14], [15], fun vs_ T_ => fr0 vs_ 0 = (Value.int .i64 (x489)), [1], [], [], fun _ h_ => h_⟩, ⟨some 145, [], [16], fun vs_ T_ => fr0 vs_ 0 = (Value.int .i64 ((x462.length : Int))), [], [], [], fun _ h_ => h_⟩, ⟨some 146, [12, 13, 14, 15, 16], [17], fun vs_ T_ => fr0 vs_ 0 = (Value.int .i64 (x490)), [], [], [], fun _ h_ => h_⟩, ⟨some 147, [0, 1, 2, 3, 4, 5, 6, 7, 8, 9, 10, 11, 12, 13, 14, 15, 16, 17], [18], fun vs_ T_ => fr0 vs_ 0 = (Value.int .i64 (w64 (x488 + x490))), [], [], [], fun _ h_ => h_⟩, ⟨some 148, [0, 1, 2, 3, 4, 5, 6, 7, 8, 9, 10, 11, 12, 13, 14, 15, 16, 17, 18], [19], fun vs_ T_ => fr0 vs_ 0 = (elemPtr (Value.slice z382 m382 k382) (x487.To) (Enc.sz Int)), [0], [], [], fun _ h_ => h_⟩, ⟨none, [0, 1, 2, 3, 4, 5, 6, 7, 8, 9, 10, 11, 12, 13, 14, 15, 16, 17, 18, 19], [], fun vs_ T_ => True, [], [0], [2], fun _ h_ => h_⟩]) (tks := [⟨none, some 20, [], fun vs_ => Row (α := Int) 3 (Value.slice z382 m382 k382) (s25)⟩, ⟨none, none, [], fun vs_ => Row (α := Int) 3 (Value.slice z380 m380 k380) (s20)⟩, ⟨some 20, none, [], fun vs_ => Row (α := Int) 3 (Value.slice z382 m382 k382) (s25.set (x487.To).toNat (w64 (x488 + x490)))⟩]) (O := Fr) rfl (by kernel_rfl) (I2158.pull 1) ⟨?_, ?_, ?_, ?_, ?_, ?_, ?_, ?_, ?_, ?_, ?_, ?_, ?_, ?_, ?_, ?_, ?_, ?_, ?_, ?_, ?_, trivial⟩ ?_
            ·
             intro vs1771 f w1976 S1871 X1676 le1871 hA1676 hK1771 hI1814
             have I2160 : Inv w1976 S1871 (X1676) := hI1814
             refine opg_plain rfl rfl (op_move (v := (Value.slice z382 m382 k382)) rfl ((hK1771 17 (keep_of rfl)).trans e3054) ?_)
             refine ⟨_, _, rfl, PH.Le.refl _, ?_, ?_⟩
             ·
              exact rfl
             ·
              exact I2160
            ·
             intro vs1772 f w1977 S1872 X1677 le1872 hA1677 hK1772 hI1815
             have I2161 : Inv w1977 S1872 (X1677) := hI1815
             refine opg_plain rfl rfl (op_fieldAddr_t (v := (Value.pointer (some ⟨g1, 0, none⟩))) rfl fa25_1 ((hK1772 3 (keep_of rfl)).trans e3050) ((p1.mono (((le1423.trans le1777).trans le1870).trans le1872)).at_ I2161) ?_)
             refine ⟨_, _, rfl, PH.Le.refl _, ?_, ?_⟩
             ·
              exact rfl
             ·
              exact I2161
            ·
             intro vs1773 f w1978 S1873 X1678 le1873 hA1678 hK1773 hI1816
             have I2162 : Inv w1978 S1873 (X1678) := hI1816
             have q2212 : f 130 = (fieldPtr (Value.pointer (some ⟨g1, 0, none⟩)) 1) := vt (hA1678.at_ 0 rfl _ rfl) rfl
             refine opg_plain rfl rfl (op_load (v := (fieldPtr (Value.pointer (some ⟨g1, 0, none⟩)) 1)) (e := a0.Edges) rfl sh23 q2212 (((p1.mono (((le1423.trans le1777).trans le1870).trans le1873)).at_ I2162).fld Graph.fld1) (fun u616 hu611 => ?_))
             obtain ⟨z496, m496, k496, e3058⟩ := rv_form hu611
             subst e3058
             refine ⟨_, _, rfl, PH.Le.refl _, ?_, ?_⟩
             ·
              exact hu611
             ·
              exact I2162
            ·
             intro vs1774 f w1979 S1874 X1679 le1874 hA1679 hK1774 hI1817
             have I2163 : Inv w1979 S1874 (X1679) := hI1817
             refine opg_plain rfl rfl (op_move (v := (Value.int .i64 ((i22 : Int)))) rfl ((hK1774 18 (keep_of rfl)).trans e3055) ?_)
             refine ⟨_, _, rfl, PH.Le.refl _, ?_, ?_⟩
             ·
              exact rfl
             ·
              exact I2163
            ·
             intro vs1775 f w1980 S1875 X1680 le1875 hA1680 hK1775 hI1818
             have I2164 : Inv w1980 S1875 (X1680) := hI1818
             have q2213 : f 131 = vs1775 2 := (hA1680.at_ 1 rfl _ rfl).1 _ rfl
             have r320 : RV S1875 (vs1775 2) a0.Edges := (hA1680.at_ 1 rfl _ rfl).2
             obtain ⟨u617, hu612⟩ : ∃ u, vs1775 2 = u := ⟨_, rfl⟩
             rw [hu612] at q2213 r320
             obtain ⟨z497, m497, k497, e3059⟩ := rv_form r320
             subst e3059
             have q2214 : f 132 = (Value.int .i64 ((i22 : Int))) := vt (hA1680.at_ 2 rfl _ rfl) rfl
             refine opg_plain rfl rfl (op_indexAddr_rv (v := (Value.slice z497 m497 k497)) (i := (i22 : Int)) (e := x486) rfl Try.underlying23 sh40 q2213 r320 q2214 hx486 ?_)
             refine ⟨_, _, rfl, PH.Le.refl _, ?_, ?_⟩
             ·
              show (elemPtr (Value.slice z497 m497 k497) ((i22 : Int)) (Enc.sz (List Edge))) = (elemPtr (vs1775 2) ((i22 : Int)) (Enc.sz (List Edge)))
              simp only [hu612] <;> rfl
             ·
              exact I2164
            ·
             intro vs1776 f w1981 S1876 X1681 le1876 hA1681 hK1776 hI1819
             have I2165 : Inv w1981 S1876 (X1681) := hI1819
             have q2215 : f 131 = vs1776 2 := (hA1681.at_ 1 rfl _ rfl).1 _ rfl
             have r321 : RV S1876 (vs1776 2) a0.Edges := (hA1681.at_ 1 rfl _ rfl).2
             obtain ⟨u618, hu613⟩ : ∃ u, vs1776 2 = u := ⟨_, rfl⟩
             rw [hu613] at q2215 r321
             obtain ⟨z498, m498, k498, e3060⟩ := rv_form r321
             subst e3060
             have q2216 : f 132 = (Value.int .i64 ((i22 : Int))) := vt (hA1681.at_ 2 rfl _ rfl) rfl
             have q2217 : f 133 = (elemPtr (vs1776 2) ((i22 : Int)) (Enc.sz (List Edge))) := vt (hA1681.at_ 3 rfl _ rfl) rfl
             simp only [hu613] at q2217
             have q2217 : f 133 = (elemPtr (Value.slice z498 m498 k498) ((i22 : Int)) (Enc.sz (List Edge))) := q2217
             refine opg_plain rfl rfl (op_load (v := (elemPtr (Value.slice z498 m498 k498) ((i22 : Int)) (Enc.sz (List Edge)))) (e := x486) rfl sh40 q2217 (r321.elem I2165.in_ hx486) (fun u619 hu614 => ?_))
             obtain ⟨z499, m499, k499, e3061⟩ := rv_form hu614
             subst e3061
             refine ⟨_, _, rfl, PH.Le.refl _, ?_, ?_⟩
             ·
              exact hu614
             ·
              exact I2165
            ·
             intro vs1777 f w1982 S1877 X1682 le1877 hA1682 hK1777 hI1820
             have I2166 : Inv w1982 S1877 (X1682) := hI1820
             refine opg_plain rfl rfl (op_move (v := (Value.int .i64 ((i23 : Int)))) rfl ((hK1777 20 (keep_of rfl)).trans e3057) ?_)
             refine ⟨_, _, rfl, PH.Le.refl _, ?_, ?_⟩
             ·
              exact rfl
             ·
              exact I2166
            ·
             intro vs1778 f w1983 S1878 X1683 le1878 hA1683 hK1778 hI1821
             have I2167 : Inv w1983 S1878 (X1683) := hI1821
             have q2218 : f 134 = vs1778 5 := (hA1683.at_ 4 rfl _ rfl).1 _ rfl
             have r322 : RV S1878 (vs1778 5) x486 := (hA1683.at_ 4 rfl _ rfl).2
             obtain ⟨u620, hu615⟩ : ∃ u, vs1778 5 = u := ⟨_, rfl⟩
             rw [hu615] at q2218 r322
             obtain ⟨z500, m500, k500, e3062⟩ := rv_form r322
             subst e3062
             have q2219 : f 135 = (Value.int .i64 ((i23 : Int))) := vt (hA1683.at_ 5 rfl _ rfl) rfl
             refine opg_plain rfl rfl (op_indexAddr_rv (v := (Value.slice z500 m500 k500)) (i := (i23 : Int)) (e := x487) rfl Try.underlying40 sh44 q2218 r322 q2219 hx487 ?_)
             refine ⟨_, _, rfl, PH.Le.refl _, ?_, ?_⟩
             ·
              show (elemPtr (Value.slice z500 m500 k500) ((i23 : Int)) (Enc.sz Edge)) = (elemPtr (vs1778 5) ((i23 : Int)) (Enc.sz Edge))
              simp only [hu615] <;> rfl
             ·
              exact I2167
            ·
             intro vs1779 f w1984 S1879 X1684 le1879 hA1684 hK1779 hI1822
             have I2168 : Inv w1984 S1879 (X1684) := hI1822
             have q2220 : f 134 = vs1779 5 := (hA1684.at_ 4 rfl _ rfl).1 _ rfl
             have r323 : RV S1879 (vs1779 5) x486 := (hA1684.at_ 4 rfl _ rfl).2
             obtain ⟨u621, hu616⟩ : ∃ u, vs1779 5 = u := ⟨_, rfl⟩
             rw [hu616] at q2220 r323
             obtain ⟨z501, m501, k501, e3063⟩ := rv_form r323
             subst e3063
             have q2221 : f 135 = (Value.int .i64 ((i23 : Int))) := vt (hA1684.at_ 5 rfl _ rfl) rfl
             have q2222 : f 136 = (elemPtr (vs1779 5) ((i23 : Int)) (Enc.sz Edge)) := vt (hA1684.at_ 6 rfl _ rfl) rfl
             simp only [hu616] at q2222
             have q2222 : f 136 = (elemPtr (Value.slice z501 m501 k501) ((i23 : Int)) (Enc.sz Edge)) := q2222
             refine opg_plain rfl rfl (op_fieldAddr_t (v := (elemPtr (Value.slice z501 m501 k501) ((i23 : Int)) (Enc.sz Edge))) rfl fa44_1 q2222 (r323.elem I2168.in_ hx487) ?_)
             refine ⟨_, _, rfl, PH.Le.refl _, ?_, ?_⟩
             ·
              show (fieldPtr (elemPtr (Value.slice z501 m501 k501) ((i23 : Int)) (Enc.sz Edge)) 3) = (fieldPtr (elemPtr (vs1779 5) ((i23 : Int)) (Enc.sz Edge)) 3)
              simp only [hu616] <;> rfl
             ·
              exact I2168
            ·
             intro vs1780 f w1985 S1880 X1685 le1880 hA1685 hK1780 hI1823
             have I2169 : Inv w1985 S1880 (X1685) := hI1823
             have q2223 : f 134 = vs1780 5 := (hA1685.at_ 4 rfl _ rfl).1 _ rfl
             have r324 : RV S1880 (vs1780 5) x486 := (hA1685.at_ 4 rfl _ rfl).2
             obtain ⟨u622, hu617⟩ : ∃ u, vs1780 5 = u := ⟨_, rfl⟩
             rw [hu617] at q2223 r324
             obtain ⟨z502, m502, k502, e3064⟩ := rv_form r324
             subst e3064
             have q2224 : f 135 = (Value.int .i64 ((i23 : Int))) := vt (hA1685.at_ 5 rfl _ rfl) rfl
             have q2225 : f 136 = (elemPtr (vs1780 5) ((i23 : Int)) (Enc.sz Edge)) := vt (hA1685.at_ 6 rfl _ rfl) rfl
             simp only [hu617] at q2225
             have q2225 : f 136 = (elemPtr (Value.slice z502 m502 k502) ((i23 : Int)) (Enc.sz Edge)) := q2225
             have q2226 : f 137 = (fieldPtr (elemPtr (vs1780 5) ((i23 : Int)) (Enc.sz Edge)) 3) := vt (hA1685.at_ 7 rfl _ rfl) rfl
             simp only [hu617] at q2226
             have q2226 : f 137 = (fieldPtr (elemPtr (Value.slice z502 m502 k502) ((i23 : Int)) (Enc.sz Edge)) 3) := q2226
             refine opg_plain rfl rfl (op_load_int (v := (fieldPtr (elemPtr (Value.slice z502 m502 k502) ((i23 : Int)) (Enc.sz Edge)) 3)) (e := x487.To) rfl sh3 q2226 ((r324.elem I2169.in_ hx487).fld Edge.fld1) ?_)
             refine ⟨_, _, rfl, PH.Le.refl _, ?_, ?_⟩
             ·
              exact rfl
             ·
              exact I2169
            ·
             intro vs1781 f w1986 S1881 X1686 le1881 hA1686 hK1781 hI1824
             have I2170 : Inv w1986 S1881 (Row (α := Int) 3 (Value.slice z382 m382 k382) (s25) :: X1686) := hI1824
             have q2227 : f 129 = (Value.slice z382 m382 k382) := vt (hA1686.at_ 0 rfl _ rfl) rfl
             have q2228 : f 138 = (Value.int .i64 (x487.To)) := vt (hA1686.at_ 9 rfl _ rfl) rfl
             refine opg_plain rfl rfl (op_indexAddr_src (v := (Value.slice z382 m382 k382)) (i := x487.To) (e := x488) rfl Try.underlying26 sh3 q2227 (Inv.rowSrc (I2170.nth 0 rfl)) q2228 hx488 ?_)
             refine ⟨_, _, rfl, PH.Le.refl _, ?_, ?_⟩
             ·
              exact rfl
             ·
              exact I2170
            ·
             intro vs1782 f w1987 S1882 X1687 le1882 hA1687 hK1782 hI1825
             have I2171 : Inv w1987 S1882 (Row (α := Int) 3 (Value.slice z382 m382 k382) (s25) :: X1687) := hI1825
             have q2229 : f 139 = (elemPtr (Value.slice z382 m382 k382) (x487.To) (Enc.sz Int)) := vt (hA1687.at_ 10 rfl _ rfl) rfl
             refine opg_plain rfl rfl (op_load_int (v := (elemPtr (Value.slice z382 m382 k382) (x487.To) (Enc.sz Int))) (e := x488) rfl sh3 q2229 ((I2171.nth 0 rfl).rowElem hx488) ?_)
             refine ⟨_, _, rfl, PH.Le.refl _, ?_, ?_⟩
             ·
              exact rfl
             ·
              exact I2171
            ·
             intro vs1783 f w1988 S1883 X1688 le1883 hA1688 hK1783 hI1826
             have I2172 : Inv w1988 S1883 (X1688) := hI1826
             refine opg_plain rfl rfl (op_move (v := (Value.slice z380 m380 k380)) rfl ((hK1783 15 (keep_of rfl)).trans e3052) ?_)
             refine ⟨_, _, rfl, PH.Le.refl _, ?_, ?_⟩
             ·
              exact rfl
             ·
              exact I2172
            ·
             intro vs1784 f w1989 S1884 X1689 le1884 hA1689 hK1784 hI1827
             have I2173 : Inv w1989 S1884 (X1689) := hI1827
             refine opg_plain rfl rfl (op_move (v := (Value.int .i64 ((i22 : Int)))) rfl ((hK1784 18 (keep_of rfl)).trans e3055) ?_)
             refine ⟨_, _, rfl, PH.Le.refl _, ?_, ?_⟩
             ·
              exact rfl
             ·
              exact I2173
            ·
             intro vs1785 f w1990 S1885 X1690 le1885 hA1690 hK1785 hI1828
             have I2174 : Inv w1990 S1885 (Row (α := Int) 3 (Value.slice z380 m380 k380) (s20) :: X1690) := hI1828
             have q2230 : f 141 = (Value.slice z380 m380 k380) := vt (hA1690.at_ 0 rfl _ rfl) rfl
             have q2231 : f 142 = (Value.int .i64 ((i22 : Int))) := vt (hA1690.at_ 1 rfl _ rfl) rfl
             refine opg_plain rfl rfl (op_indexAddr_src (v := (Value.slice z380 m380 k380)) (i := (i22 : Int)) (e := x489) rfl Try.underlying26 sh3 q2230 (Inv.rowSrc (I2174.nth 0 rfl)) q2231 hx489 ?_)
             refine ⟨_, _, rfl, PH.Le.refl _, ?_, ?_⟩
             ·
              exact rfl
             ·
              exact I2174
            ·
             intro vs1786 f w1991 S1886 X1691 le1886 hA1691 hK1786 hI1829
             have I2175 : Inv w1991 S1886 (Row (α := Int) 3 (Value.slice z380 m380 k380) (s20) :: X1691) := hI1829
             have q2232 : f 143 = (elemPtr (Value.slice z380 m380 k380) ((i22 : Int)) (Enc.sz Int)) := vt (hA1691.at_ 2 rfl _ rfl) rfl
             refine opg_plain rfl rfl (op_load_int (v := (elemPtr (Value.slice z380 m380 k380) ((i22 : Int)) (Enc.sz Int))) (e := x489) rfl sh3 q2232 ((I2175.nth 0 rfl).rowElem hx489) ?_)
             refine ⟨_, _, rfl, PH.Le.refl _, ?_, ?_⟩
             ·
              exact rfl
             ·
              exact I2175
            ·
             intro vs1787 f w1992 S1887 X1692 le1887 hA1692 hK1787 hI1830
             have I2176 : Inv w1992 S1887 (X1692) := hI1830
             refine opg_plain rfl rfl (op_move (v := (Value.int .i64 ((x462.length : Int)))) rfl ((hK1787 19 (keep_of rfl)).trans e3056) ?_)
             refine ⟨_, _, rfl, PH.Le.refl _, ?_, ?_⟩
             ·
              exact rfl
             ·
              exact I2176
            ·
             intro vs1788 f w1993 S1888 X1693 le1888 hA1693 hK1788 hI1831
             have I2177 : Inv w1993 S1888 (X1693) := hI1831
             have q2233 : f 144 = (Value.int .i64 (x489)) := vt (hA1693.at_ 3 rfl _ rfl) rfl
             have q2234 : f 145 = (Value.int .i64 ((x462.length : Int))) := vt (hA1693.at_ 4 rfl _ rfl) rfl
             refine opg_plain rfl rfl (op_quo (a := x489) (b := (x462.length : Int)) rfl q2233 q2234 hx490 ?_)
             refine ⟨_, _, rfl, PH.Le.refl _, ?_, ?_⟩
             ·
              exact rfl
             ·
              exact I2177
            ·
             intro vs1789 f w1994 S1889 X1694 le1889 hA1694 hK1789 hI1832
             have I2178 : Inv w1994 S1889 (X1694) := hI1832
             have q2235 : f 140 = (Value.int .i64 (x488)) := vt (hA1694.at_ 11 rfl _ rfl) rfl
             have q2236 : f 146 = (Value.int .i64 (x490)) := vt (hA1694.at_ 17 rfl _ rfl) rfl
             refine opg_plain rfl rfl (op_add (a := x488) (b := x490) rfl q2235 q2236 ?_)
             refine ⟨_, _, rfl, PH.Le.refl _, ?_, ?_⟩
             ·
              exact rfl
             ·
              exact I2178
            ·
             intro vs1790 f w1995 S1890 X1695 le1890 hA1695 hK1790 hI1833
             have I2179 : Inv w1995 S1890 (Row (α := Int) 3 (Value.slice z382 m382 k382) (s25) :: X1695) := hI1833
             have q2237 : f 129 = (Value.slice z382 m382 k382) := vt (hA1695.at_ 0 rfl _ rfl) rfl
             have q2238 : f 138 = (Value.int .i64 (x487.To)) := vt (hA1695.at_ 9 rfl _ rfl) rfl
             refine opg_plain rfl rfl (op_indexAddr_src (v := (Value.slice z382 m382 k382)) (i := x487.To) (e := x488) rfl Try.underlying26 sh3 q2237 (Inv.rowSrc (I2179.nth 0 rfl)) q2238 hx488 ?_)
             refine ⟨_, _, rfl, PH.Le.refl _, ?_, ?_⟩
             ·
              exact rfl
             ·
              exact I2179
            ·
             intro vs1791 f w1996 S1891 X1696 le1891 hA1696 hK1791 hI1834
             have I2180 : Inv w1996 S1891 (Row (α := Int) 3 (Value.slice z382 m382 k382) (s25) :: X1696) := hI1834
             have q2239 : f 147 = (Value.int .i64 (w64 (x488 + x490))) := vt (hA1696.at_ 18 rfl _ rfl) rfl
             have q2240 : f 148 = (elemPtr (Value.slice z382 m382 k382) (x487.To) (Enc.sz Int)) := vt (hA1696.at_ 19 rfl _ rfl) rfl
             refine opg_plain rfl rfl (op_storeRow (u := (Value.int .i64 (w64 (x488 + x490)))) (e' := w64 (x488 + x490)) sh3 I2180 q2240 q2239 hx488 (rv_int' _) (fun w1997 I2181 => ?_))
             refine ⟨undef, _, rfl, PH.Le.refl _, ?_, ?_⟩
             ·
              exact trivial
             ·
              exact I2181
            ·
             intro vs1792 f w1998 S1892 le1892 hF96 hK1792 hI1835
             have e3065 : f 1 = (Value.slice z3 m3 k3) := (hK1792 1 (keep_all rfl)).trans e3048
             have e3066 : f 2 = (Value.int .i64 (a2)) := (hK1792 2 (keep_all rfl)).trans e3049
             have e3067 : f 3 = (Value.pointer (some ⟨g1, 0, none⟩)) := (hK1792 3 (keep_all rfl)).trans e3050
             have e3068 : f 13 = (Value.int .i64 (out2)) := (hK1792 13 (keep_all rfl)).trans e3051
             have e3069 : f 15 = (Value.slice z380 m380 k380) := (hK1792 15 (keep_all rfl)).trans e3052
             have e3070 : f 16 = (Value.int .i64 ((i18 : Int))) := (hK1792 16 (keep_all rfl)).trans e3053
             have e3071 : f 17 = (Value.slice z382 m382 k382) := (hK1792 17 (keep_all rfl)).trans e3054
             have e3072 : f 18 = (Value.int .i64 ((i22 : Int))) := (hK1792 18 (keep_all rfl)).trans e3055
             have e3073 : f 19 = (Value.int .i64 ((x462.length : Int))) := (hK1792 19 (keep_all rfl)).trans e3056
             have e3074 : f 20 = (Value.int .i64 ((i23 : Int))) := (hK1792 20 (keep_all rfl)).trans e3057
             have I2182 : Inv w1998 S1892 (Row (α := Int) 3 (Value.slice z380 m380 k380) (s20) :: Row (α := Int) 3 (Value.slice z382 m382 k382) (s25.set (x487.To).toNat (w64 (x488 + x490))) :: Fr) := hI1835
             refine wp_region' ?_
             refine wl_op rfl (op_move (v := (Value.int .i64 ((i23 : Int)))) rfl e3074 ?_)
             refine wl_op rfl (op_add (a := (i23 : Int)) (b := 1) rfl rfl rfl ?_)
             refine wl_op rfl (op_assign (v := (Value.int .i64 (w64 ((i23 : Int) + 1)))) rfl rfl ?_)
             refine wl_nil ?_
             obtain rfl := Option.some.inj h201
             exact ⟨_, (le1870.trans le1892), ((I2182.pull 1).pull 1), e3065, e3066, e3067, e3068, e3069, e3070, e3071, e3072, e3073, (idx_next hlt23 hk21)⟩
           ·
            rintro f w hI1836
            obtain ⟨S1893, le1893, I2183, e3075, e3076, e3077, e3078, e3079, e3080, e3081, e3082, e3083, e3084⟩ := hI1836
            refine wp_seq' ?_
            refine wp_seq' ?_
            refine wp_region' ?_
            refine wl_op rfl (op_move (v := (Value.int .i64 ((x462.length : Int)))) rfl e3084 ?_)
            refine wl_op rfl (op_move (v := (Value.int .i64 ((x462.length : Int)))) rfl e3083 ?_)
            refine wl_op rfl (op_lss (a := (x462.length : Int)) (b := (x462.length : Int)) rfl rfl rfl ?_)
            refine wl_nil ?_
            refine wp_cond_f (b := decide ((x462.length : Int) < (x462.length : Int))) rfl (len_f _) ?_
            refine wp_exit' ?_
            exact ⟨_, le1893, ((I2183.pull 1).pull 1), e3075, e3076, e3077, e3078, e3079, e3080, e3081, e3082, e3083⟩
          ·
           rintro f w ⟨S1894, le1894, I2184, e3085, e3086, e3087, e3088, e3089, e3090, e3091, e3092, e3093⟩
           refine wp_region' ?_
           refine wl_op rfl (op_move (v := (Value.int .i64 ((i22 : Int)))) rfl e3092 ?_)
           refine wl_op rfl (op_add (a := (i22 : Int)) (b := 1) rfl rfl rfl ?_)
           refine wl_op rfl (op_assign (v := (Value.int .i64 (w64 ((i22 : Int) + 1)))) rfl rfl ?_)
           refine wl_nil ?_
           obtain rfl := Option.some.inj h190
           exact ⟨_, (le1777.trans le1894), ((I2184.pull 1).pull 1), e3085, e3086, e3087, e3088, e3089, e3090, e3091, (idx_next hlt22 hk20)⟩
        ·
         rintro f w hI1837
         obtain ⟨S1895, le1895, I2185, e3094, e3095, e3096, e3097, e3098, e3099, e3100, e3101⟩ := hI1837
         refine wp_seq' ?_
         refine wp_seq' ?_
         refine wp_region' ?_
         refine wl_op rfl (op_move (v := (Value.int .i64 ((a1.length : Int)))) rfl e3101 ?_)
         refine wl_op rfl (op_move (v := (Value.slice z3 m3 k3)) rfl e3094 ?_)
         refine wl_op rfl (op_len_rv rfl Try.underlying26 rfl (h1_.mono ((le1.trans le1423).trans le1895)) ?_)
         refine wl_op rfl (op_lss (a := (a1.length : Int)) (b := (a1.length : Int)) rfl rfl rfl ?_)
         refine wl_nil ?_
         refine wp_cond_f (b := decide ((a1.length : Int) < (a1.length : Int))) rfl (len_f _) ?_
         refine wp_exit' ?_
         exact ⟨_, le1895, ((I2185.pull 1).pull 1), e3094, e3095, e3096, e3097, e3098, e3099, e3100⟩
       ·
        rintro f w ⟨S1896, le1896, I2186, e3102, e3103, e3104, e3105, e3106, e3107, e3108⟩
        refine wp_region' ?_
        refine wl_op rfl (op_move (v := (Value.slice z382 m382 k382)) rfl e3108 ?_)
        refine wl_op rfl (op_assign (v := (Value.slice z382 m382 k382)) rfl rfl ?_)
        refine wl_nil ?_
        refine wp_region' ?_
        refine wl_op rfl (op_move (v := (Value.int .i64 ((i18 : Int)))) rfl e3107 ?_)
        refine wl_op rfl (op_add (a := (i18 : Int)) (b := 1) rfl rfl rfl ?_)
        refine wl_op rfl (op_assign (v := (Value.int .i64 (w64 ((i18 : Int) + 1)))) rfl rfl ?_)
        refine wl_nil ?_
        obtain rfl := Option.some.inj h155
        exact ⟨_, _, _, _, (le1423.trans le1896), (I2186).drop, e3102, e3103, e3104, e3105, rfl, (idx_next hlt18 (cnt_le hx373))⟩
      ·
       rintro f w hI1838
       obtain ⟨S1897, z503, m503, k503, le1897, I2187, e3109, e3110, e3111, e3112, e3113, e3114⟩ := hI1838
       refine wp_seq' ?_
       refine wp_seq' ?_
       refine wp_region' ?_
       refine wl_op rfl (op_move (v := (Value.int .i64 ((x373 : Int)))) rfl e3114 ?_)
       refine wl_op rfl (op_move (v := (Value.int .i64 (a2))) rfl e3110 ?_)
       refine wl_op rfl (op_lss (a := (x373 : Int)) (b := a2) rfl rfl rfl ?_)
       refine wl_nil ?_
       refine wp_cond_f (b := decide ((x373 : Int) < a2)) rfl (cnt_f hx373) ?_
       refine wp_exit' ?_
       exact ⟨_, _, _, _, le1897, I2187, e3109, e3110, e3111, e3112, e3113⟩
     ·
      rintro f w ⟨S1898, z381, m381, k381, le1898, I2188, e3115, e3116, e3117, e3118, e3119⟩
      refine wp_seq' ?_
      refine wp_region' ?_
      refine wl_op rfl (op_assign (v := (Value.int .i64 (0))) rfl rfl ?_)
      refine wl_nil ?_
      refine wp_seq' ?_
      refine wp_seq' ?_
      refine wp_region' ?_
      refine wl_op rfl (op_assign (v := (Value.int .i64 (0))) rfl rfl ?_)
      refine wl_nil ?_
      have hk22 : a1.length ≤ 9223372036854775807 := (rv_len h1_)
      obtain ⟨out24, hrun24, h⟩ := bnd h
      refine wp_cutN (fun f w => Inv w S1898 (Row (α := Int) 3 (Value.slice z381 m381 k381) (out18) :: Fr) ∧ f 1 = (Value.slice z3 m3 k3) ∧ f 13 = (Value.int .i64 (out2)) ∧ f 15 = (Value.slice z381 m381 k381) ∧ f 21 = (Value.int .i64 (out24))) ?_ ?_
      ·
       refine wp_block' ?_
       refine wp_forS (I := fun (i24 : Nat) (s26 : (Int)) (f : Frm) (w : World) => Inv w S1898 (Row (α := Int) 3 (Value.slice z381 m381 k381) (out18) :: Fr) ∧ f 1 = (Value.slice z3 m3 k3) ∧ f 13 = (Value.int .i64 (out2)) ∧ f 15 = (Value.slice z381 m381 k381) ∧ f 21 = (Value.int .i64 (s26)) ∧ f 22 = (Value.int .i64 (i24 : Int))) hrun24 ⟨I2188, e3115, e3118, e3119, rfl, rfl⟩ ?_ ?_
       ·
        rintro i24 s26 f w o26 hlt24 hI1839 h203
        obtain ⟨I2192, e3135, e3136, e3137, e3138, e3139⟩ := hI1839
        refine wp_seq' ?_
        refine wp_seq' ?_
        refine wp_region' ?_
        refine wl_op rfl (op_move (v := (Value.int .i64 ((i24 : Int)))) rfl e3139 ?_)
        refine wl_op rfl (op_move (v := (Value.slice z3 m3 k3)) rfl e3135 ?_)
        refine wl_op rfl (op_len_rv rfl Try.underlying26 rfl (h1_.mono (le1.trans le1898)) ?_)
        refine wl_op rfl (op_lss (a := (i24 : Int)) (b := (a1.length : Int)) rfl rfl rfl ?_)
        refine wl_nil ?_
        refine wp_cond_t (b := decide ((i24 : Int) < (a1.length : Int))) rfl (len_t hlt24) ?_
        refine wp_skip' ?_
        refine wp_seq' ?_
        refine wp_block' ?_
        refine wp_seq' ?_
        refine wp_region' ?_
        refine wl_op rfl (op_move (v := (Value.slice z3 m3 k3)) rfl e3135 ?_)
        refine wl_op rfl (op_move (v := (Value.int .i64 ((i24 : Int)))) rfl e3139 ?_)
        obtain ⟨x497, hx497, h203⟩ := bnd h203
        refine wl_op rfl (op_indexAddr_rv (v := (Value.slice z3 m3 k3)) (i := (i24 : Int)) (e := x497) rfl Try.underlying26 sh3 rfl (h1_.mono (le1.trans le1898)) rfl hx497 ?_)
        refine wl_op rfl (op_load_int (v := (elemPtr (Value.slice z3 m3 k3) ((i24 : Int)) (Enc.sz Int))) (e := x497) rfl sh3 rfl ((h1_.mono (le1.trans le1898)).elem I2192.in_ hx497) ?_)
        refine wl_op rfl (op_eql (a := x497) (b := 0) rfl rfl rfl ?_)
        refine wl_nil ?_
        rcases ifs h203 with ⟨hc130, h203⟩ | ⟨hc130, h203⟩
        ·
         refine wp_cond_t (b := x497 == 0) rfl hc130 ?_
         refine wp_region' ?_
         refine wl_op rfl (op_move (v := (Value.int .i64 (s26))) rfl e3138 ?_)
         refine wl_op rfl (op_move (v := (Value.slice z381 m381 k381)) rfl e3137 ?_)
         refine wl_op rfl (op_move (v := (Value.int .i64 ((i24 : Int)))) rfl e3139 ?_)
         obtain ⟨x498, hx498, h203⟩ := bnd h203
         refine wl_op rfl (op_indexAddr_src (v := (Value.slice z381 m381 k381)) (i := (i24 : Int)) (e := x498) rfl Try.underlying26 sh3 rfl (Inv.rowSrc (I2192.nth 0 rfl)) rfl hx498 ?_)
         refine wl_op rfl (op_load_int (v := (elemPtr (Value.slice z381 m381 k381) ((i24 : Int)) (Enc.sz Int))) (e := x498) rfl sh3 rfl ((I2192.nth 0 rfl).rowElem hx498) ?_)
         refine wl_op rfl (op_add (a := s26) (b := x498) rfl rfl rfl ?_)
         refine wl_op rfl (op_assign (v := (Value.int .i64 (w64 (s26 + x498)))) rfl rfl ?_)
         refine wl_nil ?_
         refine wp_region' ?_
         refine wl_op rfl (op_move (v := (Value.int .i64 ((i24 : Int)))) rfl e3139 ?_)
         refine wl_op rfl (op_add (a := (i24 : Int)) (b := 1) rfl rfl rfl ?_)
         refine wl_op rfl (op_assign (v := (Value.int .i64 (w64 ((i24 : Int) + 1)))) rfl rfl ?_)
         refine wl_nil ?_
         obtain rfl := Option.some.inj h203
         exact ⟨I2192, e3135, e3136, e3137, rfl, (idx_next hlt24 hk22)⟩
        ·
         refine wp_cond_f (b := x497 == 0) rfl hc130 ?_
         refine wp_skip' ?_
         refine wp_region' ?_
         refine wl_op rfl (op_move (v := (Value.int .i64 ((i24 : Int)))) rfl e3139 ?_)
         refine wl_op rfl (op_add (a := (i24 : Int)) (b := 1) rfl rfl rfl ?_)
         refine wl_op rfl (op_assign (v := (Value.int .i64 (w64 ((i24 : Int) + 1)))) rfl rfl ?_)
         refine wl_nil ?_
         obtain rfl := Option.some.inj h203
         exact ⟨I2192, e3135, e3136, e3137, e3138, (idx_next hlt24 hk22)⟩
       ·
        rintro f w hI1840
        obtain ⟨I2193, e3140, e3141, e3142, e3143, e3144⟩ := hI1840
        refine wp_seq' ?_
        refine wp_seq' ?_
        refine wp_region' ?_
        refine wl_op rfl (op_move (v := (Value.int .i64 ((a1.length : Int)))) rfl e3144 ?_)
        refine wl_op rfl (op_move (v := (Value.slice z3 m3 k3)) rfl e3140 ?_)
        refine wl_op rfl (op_len_rv rfl Try.underlying26 rfl (h1_.mono (le1.trans le1898)) ?_)
        refine wl_op rfl (op_lss (a := (a1.length : Int)) (b := (a1.length : Int)) rfl rfl rfl ?_)
        refine wl_nil ?_
        refine wp_cond_f (b := decide ((a1.length : Int) < (a1.length : Int))) rfl (len_f _) ?_
        refine wp_exit' ?_
        exact ⟨I2193, e3140, e3141, e3142, e3143⟩
      ·
       rintro f w ⟨I2194, e3145, e3146, e3147, e3148⟩
       refine wp_seq' ?_
       refine wp_region' ?_
       refine wl_op rfl (op_move (v := (Value.int .i64 (out2))) rfl e3146 ?_)
       refine wl_op rfl (op_move (v := (Value.int .i64 (out24))) rfl e3148 ?_)
       obtain ⟨x499, hx499, h⟩ := bnd h
       refine wl_op rfl (op_call_v (vs := [(Value.int .i64 (out2)), (Value.int .i64 (out24))]) (r := (Value.int .i64 (x499))) rfl ca55 rfl (args2 rfl rfl) I2194 (fun Fr_ hF_ => F55_ok hF_  hx499) (fun w1999 I2195 => ?_))
       refine wl_op rfl (op_assign (v := (Value.int .i64 (x499))) rfl rfl ?_)
       refine wl_nil ?_
       refine wp_seq' ?_
       obtain ⟨x500, hx500, h⟩ := bnd h
       obtain ⟨x501, hx501, h⟩ := bnd h
       refine wp_draw (sps := [⟨some 170, [], [0], fun vs_ T_ => fr0 vs_ 0 = (Value.int .i64 (out24)), [], [], [], fun _ h_ => h_⟩, ⟨some 171, [], [1], fun vs_ T_ => fr0 vs_ 0 = (Value.int .i64 (x499)), [], [], [], fun _ h_ => h_⟩, ⟨some 172, [0, 1], [2], fun vs_ T_ => fr0 vs_ 0 = (Value.int .i64 (x500)), [], [], [], fun _ h_ => h_⟩, ⟨some 173, [], [3], fun vs_ T_ => fr0 vs_ 0 = (Value.int .i64 (out2)), [], [], [], fun _ h_ => h_⟩, ⟨some 174, [], [4], fun vs_ T_ => fr0 vs_ 0 = (Value.int .i64 (x499)), [], [], [], fun _ h_ => h_⟩, ⟨some 175, [3, 4], [5], fun vs_ T_ => fr0 vs_ 0 = (Value.int .i64 (x501)), [], [], [], fun _ h_ => h_⟩, ⟨some 6, [0, 1, 2], [6], fun vs_ T_ => fr0 vs_ 0 = (Value.int .i64 (x500)), [], [], [], fun _ h_ => h_⟩, ⟨some 7, [0, 1, 2, 3, 4, 5, 6], [7], fun vs_ T_ => fr0 vs_ 0 = (Value.int .i64 (x501)), [], [], [], fun _ h_ => h_⟩, ⟨some 8, [0, 1, 2, 3, 4, 5, 6, 7], [8], fun vs_ T_ => fr0 vs_ 0 = (Value.int .i64 (0)), [], [], [], fun _ h_ => h_⟩]) (tks := []) (O := Row (α := Int) 3 (Value.slice z381 m381 k381) (out18) :: Fr) rfl (by kernel_rfl) I2195 ⟨?_, ?_, ?_, ?_, ?_, ?_, ?_, ?_, ?_, trivial⟩ ?_
       ·
        intro vs1793 f w2000 S1899 X1697 le1899 hA1697 hK1793 hI1841
        have I2196 : Inv w2000 S1899 (X1697) := hI1841
        refine opg_plain rfl rfl (op_move (v := (Value.int .i64 (out24))) rfl ((hK1793 21 (keep_of rfl)).trans e3148) ?_)
        refine ⟨_, _, rfl, PH.Le.refl _, ?_, ?_⟩
        ·
         exact rfl
        ·
         exact I2196
       ·
        intro vs1794 f w2001 S1900 X1698 le1900 hA1698 hK1794 hI1842
        have I2197 : Inv w2001 S1900 (X1698) := hI1842
        refine opg_plain rfl rfl (op_move (v := (Value.int .i64 (x499))) rfl (hK1794 23 (keep_of rfl)) ?_)
        refine ⟨_, _, rfl, PH.Le.refl _, ?_, ?_⟩
        ·
         exact rfl
        ·
         exact I2197
       ·
        intro vs1795 f w2002 S1901 X1699 le1901 hA1699 hK1795 hI1843
        have I2198 : Inv w2002 S1901 (X1699) := hI1843
        have q2241 : f 170 = (Value.int .i64 (out24)) := vt (hA1699.at_ 0 rfl _ rfl) rfl
        have q2242 : f 171 = (Value.int .i64 (x499)) := vt (hA1699.at_ 1 rfl _ rfl) rfl
        refine opg_plain rfl rfl (op_quo (a := out24) (b := x499) rfl q2241 q2242 hx500 ?_)
        refine ⟨_, _, rfl, PH.Le.refl _, ?_, ?_⟩
        ·
         exact rfl
        ·
         exact I2198
       ·
        intro vs1796 f w2003 S1902 X1700 le1902 hA1700 hK1796 hI1844
        have I2199 : Inv w2003 S1902 (X1700) := hI1844
        refine opg_plain rfl rfl (op_move (v := (Value.int .i64 (out2))) rfl ((hK1796 13 (keep_of rfl)).trans e3146) ?_)
        refine ⟨_, _, rfl, PH.Le.refl _, ?_, ?_⟩
        ·
         exact rfl
        ·
         exact I2199
       ·
        intro vs1797 f w2004 S1903 X1701 le1903 hA1701 hK1797 hI1845
        have I2200 : Inv w2004 S1903 (X1701) := hI1845
        refine opg_plain rfl rfl (op_move (v := (Value.int .i64 (x499))) rfl (hK1797 23 (keep_of rfl)) ?_)
        refine ⟨_, _, rfl, PH.Le.refl _, ?_, ?_⟩
        ·
         exact rfl
        ·
         exact I2200
       ·
        intro vs1798 f w2005 S1904 X1702 le1904 hA1702 hK1798 hI1846
        have I2201 : Inv w2005 S1904 (X1702) := hI1846
        have q2243 : f 173 = (Value.int .i64 (out2)) := vt (hA1702.at_ 0 rfl _ rfl) rfl
        have q2244 : f 174 = (Value.int .i64 (x499)) := vt (hA1702.at_ 1 rfl _ rfl) rfl
        refine opg_plain rfl rfl (op_quo (a := out2) (b := x499) rfl q2243 q2244 hx501 ?_)
        refine ⟨_, _, rfl, PH.Le.refl _, ?_, ?_⟩
        ·
         exact rfl
        ·
         exact I2201
       ·
        intro vs1799 f w2006 S1905 X1703 le1905 hA1703 hK1799 hI1847
        have I2202 : Inv w2006 S1905 (X1703) := hI1847
        have q2245 : f 172 = (Value.int .i64 (x500)) := vt (hA1703.at_ 2 rfl _ rfl) rfl
        refine opg_plain rfl rfl (op_assign (v := (Value.int .i64 (x500))) rfl q2245 ?_)
        refine ⟨_, _, rfl, PH.Le.refl _, ?_, ?_⟩
        ·
         exact rfl
        ·
         exact I2202
       ·
        intro vs1800 f w2007 S1906 X1704 le1906 hA1704 hK1800 hI1848
        have I2203 : Inv w2007 S1906 (X1704) := hI1848
        have q2246 : f 175 = (Value.int .i64 (x501)) := vt (hA1704.at_ 5 rfl _ rfl) rfl
        refine opg_plain rfl rfl (op_assign (v := (Value.int .i64 (x501))) rfl q2246 ?_)
        refine ⟨_, _, rfl, PH.Le.refl _, ?_, ?_⟩
        ·
         exact rfl
        ·
         exact I2203
       ·
        intro vs1801 f w2008 S1907 X1705 le1907 hA1705 hK1801 hI1849
        have I2204 : Inv w2008 S1907 (X1705) := hI1849
        refine opg_plain rfl rfl (op_assign (v := (Value.int .i64 (0))) rfl rfl ?_)
        refine ⟨_, _, rfl, PH.Le.refl _, ?_, ?_⟩
        ·
         exact rfl
        ·
         exact I2204
       ·
        intro vs1802 f w2009 S1908 le1908 hF97 hK1802 hI1850
        have I2205 : Inv w2009 S1908 (Row (α := Int) 3 (Value.slice z381 m381 k381) (out18) :: Fr) := hI1850
        have q2247 : f 6 = (Value.int .i64 (x500)) := vt (hF97.at_ 6 rfl _ rfl) rfl
        have q2248 : f 7 = (Value.int .i64 (x501)) := vt (hF97.at_ 7 rfl _ rfl) rfl
        have q2249 : f 8 = (Value.int .i64 (0)) := vt (hF97.at_ 8 rfl _ rfl) rfl
        refine wp_ret' ?_
        obtain rfl := Option.some.inj h
        exact ⟨(Value.tuple #[(Value.int .i64 (x500)), (Value.int .i64 (x501)), (Value.int .i64 (0))]), (res3 rfl q2247 q2248 q2249), _, [], ((le1.trans le1898).trans le1908), (I2205).drop, rfl, rfl⟩

set_option maxHeartbeats 4000000 in
set_option maxRecDepth 100000 in
theorem F12_ok {w : World} {S : PH} {Fr : List HP} {a0 : Graph} {v0 : Value} {a1 : (List Int)} {v1 : Value} {a2 : Int} {r : Bool} (hI : Inv w S (Fr)) (h0_ : RV S v0 a0) (h1_ : RV S v1 a1) (h : F12 a0 a1 a2 = some r) :
    Calls Try.prog 12 [v0, v1, (Value.int .i64 (a2))].toArray w (DoneV S Fr (Value.bool (r))) := by
 unfold F12 at h
 obtain ⟨c1, c2, e1, r1, r2⟩ := Graph.inv h0_
 subst e1
 obtain ⟨z1, m1, k1, e2⟩ := rv_form r1
 subst e2
 obtain ⟨z2, m2, k2, e3⟩ := rv_form r2
 subst e3
 obtain ⟨z3, m3, k3, e4⟩ := rv_form h1_
 subst e4
 refine calls_enter (n := 48) (vs := [(Value.agg #[(Value.slice z1 m1 k1), (Value.slice z2 m2 k2)]), (Value.slice z3 m3 k3), (Value.int .i64 (a2))]) Try.func12 rfl rfl rfl ?_
 refine wp_seq' ?_
 refine wp_region' ?_
 refine wl_op rfl (op_box (v := (Value.agg #[(Value.slice z1 m1 k1), (Value.slice z2 m2 k2)])) rfl hI rfl (fun g1 w1 I1 => ?_))
 obtain ⟨S1, le1, I2, p1⟩ := Inv.boxFreeze (x := a0) I1 (Graph.rv (s := a0) r1 r2)
 refine wl_op rfl (op_assign (v := (Value.bool (false))) rfl rfl ?_)
 refine wl_nil ?_
 refine wp_seq' ?_
 refine wp_seq' ?_
 refine wp_region' ?_
 refine wl_op rfl (op_load (v := (Value.pointer (some ⟨g1, 0, none⟩))) (e := a0) rfl sh25 rfl (p1.at_ I2) (fun u1 hu1 => ?_))
 obtain ⟨c3, c4, e5, r3, r4⟩ := Graph.inv hu1
 subst e5
 obtain ⟨z4, m4, k4, e6⟩ := rv_form r3
 subst e6
 obtain ⟨z5, m5, k5, e7⟩ := rv_form r4
 subst e7
 obtain ⟨x1, hx1, h⟩ := bnd h
 refine wl_op rfl (op_call_v (vs := [(Value.agg #[(Value.slice z4 m4 k4), (Value.slice z5 m5 k5)])]) (r := (Value.bool (x1))) rfl ca15 rfl (args1 rfl) I2 (fun Fr_ hF_ => F15_ok hF_ (Graph.rv (s := a0) r3 r4) hx1) (fun w2 I3 => ?_))
 refine wl_nil ?_
 rcases ifs h with ⟨hc1, h⟩ | ⟨hc1, h⟩
 ·
  refine wp_cond_t (b := x1) rfl hc1 ?_
  refine wp_seq' ?_
  refine wp_region' ?_
  obtain ⟨x2, hx2, h⟩ := bnd h
  refine wl_op rfl (op_call_v (vs := []) (r := (Value.bool (x2))) rfl ca17 rfl args0 I3 (fun Fr_ hF_ => F17_ok hF_  hx2) (fun w3 I4 => ?_))
  refine wl_op rfl (op_assign (v := (Value.bool (x2))) rfl rfl ?_)
  refine wl_nil ?_
  refine wp_ret' ?_
  obtain rfl := Option.some.inj h
  exact ⟨(Value.bool (x2)), (res1 rfl rfl), _, [], le1, I4, rfl, rfl⟩
 ·
  refine wp_cond_f (b := x1) rfl hc1 ?_
  refine wp_skip' ?_
  refine wp_seq' ?_
  refine wp_region' ?_
  refine wl_op rfl (op_load (v := (Value.pointer (some ⟨g1, 0, none⟩))) (e := a0) rfl sh25 rfl (p1.at_ I3) (fun u2 hu2 => ?_))
  obtain ⟨c5, c6, e8, r5, r6⟩ := Graph.inv hu2
  subst e8
  obtain ⟨z6, m6, k6, e9⟩ := rv_form r5
  subst e9
  obtain ⟨z7, m7, k7, e10⟩ := rv_form r6
  subst e10
  refine wl_op rfl (op_move (v := (Value.slice z3 m3 k3)) rfl rfl ?_)
  refine wl_op rfl (op_move (v := (Value.int .i64 (a2))) rfl rfl ?_)
  obtain ⟨x3, hx3, h⟩ := bnd h
  refine wl_op rfl (op_call_v (vs := [(Value.agg #[(Value.slice z6 m6 k6), (Value.slice z7 m7 k7)]), (Value.slice z3 m3 k3), (Value.int .i64 (a2))]) (r := (Value.tuple #[(Value.int .i64 (x3.1)), (Value.int .i64 (x3.2.1)), (Value.int .i64 (x3.2.2))])) rfl ca36 rfl (args3 rfl rfl rfl) I3 (fun Fr_ hF_ => F36_ok hF_ (Graph.rv (s := a0) r5 r6) (h1_.mono le1) hx3) (fun w4 I5 => ?_))
  refine wl_op rfl (op_move (v := (Value.tuple #[(Value.int .i64 (x3.1)), (Value.int .i64 (x3.2.1)), (Value.int .i64 (x3.2.2))])) rfl rfl ?_)
  refine wl_op rfl (op_extract (v := (Value.int .i64 (x3.1))) rfl rfl rfl ?_)
  refine wl_op rfl (op_extract (v := (Value.int .i64 (x3.2.1))) rfl rfl rfl ?_)
  refine wl_op rfl (op_extract (v := (Value.int .i64 (x3.2.2))) rfl rfl rfl ?_)
  refine wl_op rfl (op_assign (v := (Value.int .i64 (x3.1))) rfl rfl ?_)
  refine wl_op rfl (op_assign (v := (Value.int .i64 (x3.2.1))) rfl rfl ?_)
  refine wl_op rfl (op_assign (v := (Value.int .i64 (x3.2.2))) rfl rfl ?_)
  refine wl_nil ?_
  refine wp_seq' ?_
  refine wp_region' ?_
  refine wl_op rfl (op_load (v := (Value.pointer (some ⟨g1, 0, none⟩))) (e := a0) rfl sh25 rfl (p1.at_ I5) (fun u3 hu3 => ?_))
  obtain ⟨c7, c8, e11, r7, r8⟩ := Graph.inv hu3
  subst e11
  obtain ⟨z8, m8, k8, e12⟩ := rv_form r7
  subst e12
  obtain ⟨z9, m9, k9, e13⟩ := rv_form r8
  subst e13
  refine wl_op rfl (op_move (v := (Value.slice z3 m3 k3)) rfl rfl ?_)
  refine wl_op rfl (op_move (v := (Value.int .i64 (a2))) rfl rfl ?_)
  obtain ⟨x4, hx4, h⟩ := bnd h
  refine wl_op rfl (op_call_v (vs := [(Value.agg #[(Value.slice z8 m8 k8), (Value.slice z9 m9 k9)]), (Value.slice z3 m3 k3), (Value.int .i64 (a2))]) (r := (Value.tuple #[(Value.int .i64 (x4.1)), (Value.int .i64 (x4.2.1)), (Value.int .i64 (x4.2.2))])) rfl ca37 rfl (args3 rfl rfl rfl) I5 (fun Fr_ hF_ => F37_ok hF_ (Graph.rv (s := a0) r7 r8) (h1_.mono le1) hx4) (fun w5 I6 => ?_))
  refine wl_op rfl (op_move (v := (Value.tuple #[(Value.int .i64 (x4.1)), (Value.int .i64 (x4.2.1)), (Value.int .i64 (x4.2.2))])) rfl rfl ?_)
  refine wl_op rfl (op_extract (v := (Value.int .i64 (x4.1))) rfl rfl rfl ?_)
  refine wl_op rfl (op_extract (v := (Value.int .i64 (x4.2.1))) rfl rfl rfl ?_)
  refine wl_op rfl (op_extract (v := (Value.int .i64 (x4.2.2))) rfl rfl rfl ?_)
  refine wl_op rfl (op_assign (v := (Value.int .i64 (x4.1))) rfl rfl ?_)
  refine wl_op rfl (op_assign (v := (Value.int .i64 (x4.2.1))) rfl rfl ?_)
  refine wl_op rfl (op_assign (v := (Value.int .i64 (x4.2.2))) rfl rfl ?_)
  refine wl_nil ?_
  refine wp_seq' ?_
  refine wp_region' ?_
  refine wl_op rfl (op_move (v := (Value.int .i64 (x3.1))) rfl rfl ?_)
  refine wl_op rfl (op_move (v := (Value.int .i64 (x4.1))) rfl rfl ?_)
  refine wl_op rfl (op_eql (a := x3.1) (b := x4.1) rfl rfl rfl ?_)
  refine wl_op rfl (op_move (v := (Value.bool (x3.1 == x4.1))) rfl rfl ?_)
  rcases ifs h with ⟨hc2, h⟩ | ⟨hc2, h⟩
  ·
   refine wl_taken (c := x3.1 == x4.1) rfl rfl rfl rfl hc2 (op_move (v := (Value.int .i64 (x3.2.1))) rfl rfl ?_)
   refine wl_taken (c := x3.1 == x4.1) rfl rfl rfl rfl hc2 (op_move (v := (Value.int .i64 (x4.2.1))) rfl rfl ?_)
   refine wl_taken (c := x3.1 == x4.1) rfl rfl rfl rfl hc2 (op_eql (a := x3.2.1) (b := x4.2.1) rfl rfl rfl ?_)
   refine wl_op rfl (op_pick_t (c := x3.1 == x4.1) (a := (Value.bool (x3.2.1 == x4.2.1))) rfl rfl hc2 rfl ?_)
   refine wl_op rfl (op_move (v := (Value.bool (x3.2.1 == x4.2.1))) rfl rfl ?_)
   rcases ifs h with ⟨hc3, h⟩ | ⟨hc3, h⟩
   ·
    refine wl_taken (c := x3.2.1 == x4.2.1) rfl rfl rfl rfl hc3 (op_move (v := (Value.int .i64 (x3.2.2))) rfl rfl ?_)
    refine wl_taken (c := x3.2.1 == x4.2.1) rfl rfl rfl rfl hc3 (op_move (v := (Value.int .i64 (x4.2.2))) rfl rfl ?_)
    refine wl_taken (c := x3.2.1 == x4.2.1) rfl rfl rfl rfl hc3 (op_eql (a := x3.2.2) (b := x4.2.2) rfl rfl rfl ?_)
    refine wl_op rfl (op_pick_t (c := x3.2.1 == x4.2.1) (a := (Value.bool (x3.2.2 == x4.2.2))) rfl rfl hc3 rfl ?_)
    refine wl_op rfl (op_move (v := (Value.bool (x3.2.2 == x4.2.2))) rfl rfl ?_)
    rcases ifs h with ⟨hc4, h⟩ | ⟨hc4, h⟩
    ·
     obtain ⟨x5, hx5, h⟩ := bnd h
     refine wl_taken (c := x3.2.2 == x4.2.2) rfl rfl rfl rfl hc4 (op_call_v (vs := []) (r := (Value.bool (x5))) rfl ca17 rfl args0 I6 (fun Fr_ hF_ => F17_ok hF_  hx5) (fun w6 I7 => ?_))
     refine wl_op rfl (op_pick_t (c := x3.2.2 == x4.2.2) (a := (Value.bool (x5))) rfl rfl hc4 rfl ?_)
     refine wl_op rfl (op_assign (v := (Value.bool (x5))) rfl rfl ?_)
     refine wl_nil ?_
     refine wp_ret' ?_
     obtain rfl := Option.some.inj h
     exact ⟨(Value.bool (x5)), (res1 rfl rfl), _, [], le1, I7, rfl, rfl⟩
    ·
     refine wl_skip (c := x3.2.2 == x4.2.2) rfl rfl rfl rfl hc4 rfl ?_
     refine wl_op rfl (op_pick_f (c := x3.2.2 == x4.2.2) (b := (Value.bool (false))) rfl rfl hc4 rfl ?_)
     refine wl_op rfl (op_assign (v := (Value.bool (false))) rfl rfl ?_)
     refine wl_nil ?_
     refine wp_ret' ?_
     obtain rfl := Option.some.inj h
     exact ⟨(Value.bool (false)), (res1 rfl rfl), _, [], le1, I6, rfl, rfl⟩
   ·
    refine wl_skip (c := x3.2.1 == x4.2.1) rfl rfl rfl rfl hc3 rfl ?_
    refine wl_skip (c := x3.2.1 == x4.2.1) rfl rfl rfl rfl hc3 rfl ?_
    refine wl_skip (c := x3.2.1 == x4.2.1) rfl rfl rfl rfl hc3 rfl ?_
    refine wl_op rfl (op_pick_f (c := x3.2.1 == x4.2.1) (b := (Value.bool (false))) rfl rfl hc3 rfl ?_)
    refine wl_op rfl (op_move (v := (Value.bool (false))) rfl rfl ?_)
    refine wl_skip (c := false) rfl rfl rfl rfl rfl rfl ?_
    refine wl_op rfl (op_pick_f (c := false) (b := (Value.bool (false))) rfl rfl rfl rfl ?_)
    refine wl_op rfl (op_assign (v := (Value.bool (false))) rfl rfl ?_)
    refine wl_nil ?_
    refine wp_ret' ?_
    obtain rfl := Option.some.inj h
    exact ⟨(Value.bool (false)), (res1 rfl rfl), _, [], le1, I6, rfl, rfl⟩
  ·
   refine wl_skip (c := x3.1 == x4.1) rfl rfl rfl rfl hc2 rfl ?_
   refine wl_skip (c := x3.1 == x4.1) rfl rfl rfl rfl hc2 rfl ?_
   refine wl_skip (c := x3.1 == x4.1) rfl rfl rfl rfl hc2 rfl ?_
   refine wl_op rfl (op_pick_f (c := x3.1 == x4.1) (b := (Value.bool (false))) rfl rfl hc2 rfl ?_)
   refine wl_op rfl (op_move (v := (Value.bool (false))) rfl rfl ?_)
   refine wl_skip (c := false) rfl rfl rfl rfl rfl rfl ?_
   refine wl_skip (c := false) rfl rfl rfl rfl rfl rfl ?_
   refine wl_skip (c := false) rfl rfl rfl rfl rfl rfl ?_
   refine wl_op rfl (op_pick_f (c := false) (b := (Value.bool (false))) rfl rfl rfl rfl ?_)
   refine wl_op rfl (op_move (v := (Value.bool (false))) rfl rfl ?_)
   refine wl_skip (c := false) rfl rfl rfl rfl rfl rfl ?_
   refine wl_op rfl (op_pick_f (c := false) (b := (Value.bool (false))) rfl rfl rfl rfl ?_)
   refine wl_op rfl (op_assign (v := (Value.bool (false))) rfl rfl ?_)
   refine wl_nil ?_
   refine wp_ret' ?_
   obtain rfl := Option.some.inj h
   exact ⟨(Value.bool (false)), (res1 rfl rfl), _, [], le1, I6, rfl, rfl⟩
end Go.Proofs.Ytogfongmnkmegaa.Pad
