/- A part of the proof: what the functions of the program compute, shown over the model. -/
import Derived.Test.YtogfongmnkmegaaSeaXP
import Derived.Test.YtogfongmnkmegaaSeaXW1
import Derived.Test.YtogfongmnkmegaaSeaXW3
import Derived.KernelRfl
set_option linter.unusedVariables false
namespace Go.Proofs.Ytogfongmnkmegaa.Pad
open Go Go.Proofs
set_option maxHeartbeats 4000000 in
set_option maxRecDepth 100000 in
theorem F63_ok {w : World} {S : PH} {Fr : List HP} {a0 : Search_view} {v0 : Value} {a1 : Int} {r : Int} (hI : Inv w S (Fr)) (h0_ : RV S v0 a0) (h : F63 a0 a1 = some r) :
    Calls Try.prog 63 [v0, (Value.int .i64 (a1))].toArray w (DoneV S Fr (Value.int .i64 (r))) := by
 unfold F63 at h
 obtain ⟨c1, c2, e1, r1, r2⟩ := Search_view.inv h0_
 subst e1
 obtain ⟨z1, m1, k1, e2⟩ := rv_form r1
 subst e2
 obtain ⟨z2, m2, k2, e3⟩ := rv_form r2
 subst e3
 refine calls_enter (n := 43) (vs := [(Value.agg #[(Value.slice z1 m1 k1), (Value.slice z2 m2 k2)]), (Value.int .i64 (a1))]) Try.func63 rfl rfl rfl ?_
 refine wp_seq' ?_
 refine wp_region' ?_
 refine wl_op rfl (op_box (v := (Value.agg #[(Value.slice z1 m1 k1), (Value.slice z2 m2 k2)])) rfl hI rfl (fun g1 w1 I1 => ?_))
 obtain ⟨S1, le1, I2, p1⟩ := Inv.boxFreeze (x := a0) I1 (Search_view.rv (s := a0) r1 r2)
 refine wl_op rfl (op_assign (v := (Value.int .i64 (0))) rfl rfl ?_)
 refine wl_nil ?_
 refine wp_seq' ?_
 refine wp_region' ?_
 refine wl_op rfl (op_assign (v := (Value.int .i64 (1))) rfl rfl ?_)
 refine wl_nil ?_
 refine wp_seq' ?_
 refine wp_seq' ?_
 refine wp_region' ?_
 refine wl_op rfl (op_fieldAddr_t (v := (Value.pointer (some ⟨g1, 0, none⟩))) rfl fa64_0 rfl (p1.at_ I2) ?_)
 refine wl_op rfl (op_load (v := (fieldPtr (Value.pointer (some ⟨g1, 0, none⟩)) 0)) (e := a0.edges) rfl sh23 rfl ((p1.at_ I2).fld Search_view.fld0) (fun u1 hu1 => ?_))
 obtain ⟨z3, m3, k3, e4⟩ := rv_form hu1
 subst e4
 refine wl_op rfl (op_len_rv rfl Try.underlying23 rfl hu1 ?_)
 refine wl_op rfl (op_move (v := (Value.int .i64 (0))) rfl rfl ?_)
 refine wl_nil ?_
 have hk1 : a0.edges.length ≤ 9223372036854775807 := (rv_len r1)
 obtain ⟨out1, hrun1, h⟩ := bnd h
 refine wp_cutN (fun f w => Inv w S1 (Fr) ∧ f 1 = (Value.int .i64 (a1)) ∧ f 2 = (Value.pointer (some ⟨g1, 0, none⟩)) ∧ f 5 = (Value.int .i64 (out1)) ∧ f 9 = (Value.slice z3 m3 k3) ∧ f 10 = (Value.int .i64 ((a0.edges.length : Int)))) ?_ ?_
 ·
  refine wp_block' ?_
  refine wp_forS (I := fun (i1 : Nat) (s1 : (Int)) (f : Frm) (w : World) => Inv w S1 (Fr) ∧ f 1 = (Value.int .i64 (a1)) ∧ f 2 = (Value.pointer (some ⟨g1, 0, none⟩)) ∧ f 5 = (Value.int .i64 (s1)) ∧ f 9 = (Value.slice z3 m3 k3) ∧ f 10 = (Value.int .i64 ((a0.edges.length : Int))) ∧ f 11 = (Value.int .i64 (i1 : Int))) hrun1 ⟨I2, rfl, rfl, rfl, rfl, rfl, rfl⟩ ?_ ?_
  ·
   rintro i1 s1 f w o1 hlt1 hI1 h10
   obtain ⟨I12, e56, e57, e58, e59, e60, e61⟩ := hI1
   refine wp_seq' ?_
   refine wp_region' ?_
   refine wl_op rfl (op_lss (a := (i1 : Int)) (b := (a0.edges.length : Int)) rfl e61 e60 ?_)
   refine wl_nil ?_
   refine wp_seq' ?_
   refine wp_cond_t (b := decide ((i1 : Int) < (a0.edges.length : Int))) rfl (len_t hlt1) ?_
   refine wp_skip' ?_
   refine wp_seq' ?_
   refine wp_block' ?_
   refine wp_seq' ?_
   refine wp_region' ?_
   refine wl_op rfl (op_move (v := (Value.int .i64 ((i1 : Int)))) rfl e61 ?_)
   obtain ⟨x16, hx16, h10⟩ := bnd h10
   refine wl_op rfl (op_indexAddr_rv (v := (Value.slice z3 m3 k3)) (i := (i1 : Int)) (e := x16) rfl Try.underlying23 sh40 e59 hu1 e61 hx16 ?_)
   refine wl_op rfl (op_load (v := (elemPtr (Value.slice z3 m3 k3) ((i1 : Int)) (Enc.sz (List Edge)))) (e := x16) rfl sh40 rfl (hu1.elem I12.in_ hx16) (fun u11 hu11 => ?_))
   obtain ⟨z13, m13, k13, e62⟩ := rv_form hu11
   subst e62
   refine wl_op rfl (op_assign (v := (Value.int .i64 ((i1 : Int)))) rfl rfl ?_)
   refine wl_op rfl (op_assign (v := (Value.slice z13 m13 k13)) rfl rfl ?_)
   refine wl_nil ?_
   obtain ⟨v4, h13, h10⟩ := bnd h10
   refine wp_cut (fun f w => Inv w S1 (Fr) ∧ f 1 = (Value.int .i64 (a1)) ∧ f 2 = (Value.pointer (some ⟨g1, 0, none⟩)) ∧ f 5 = (Value.int .i64 (s1)) ∧ f 7 = (Value.slice z13 m13 k13) ∧ f 9 = (Value.slice z3 m3 k3) ∧ f 10 = (Value.int .i64 ((a0.edges.length : Int))) ∧ f 11 = (Value.int .i64 ((i1 : Int))) ∧ f 31 = (Value.bool (v4))) ?_ ?_
   ·
    refine wp_region' ?_
    refine wl_op rfl (op_move (v := (Value.slice z13 m13 k13)) rfl rfl ?_)
    refine wl_op rfl (op_len_rv rfl Try.underlying40 rfl hu11 ?_)
    refine wl_op rfl (op_gtr (a := (x16.length : Int)) (b := 0) rfl rfl rfl ?_)
    refine wl_op rfl (op_move (v := (Value.bool (decide (0 < (x16.length : Int))))) rfl rfl ?_)
    rcases ifs h13 with ⟨hc18, h13⟩ | ⟨hc18, h13⟩
    ·
     refine wl_taken (c := decide (0 < (x16.length : Int))) rfl rfl rfl rfl hc18 (op_fieldAddr_t (v := (Value.pointer (some ⟨g1, 0, none⟩))) rfl fa64_1 e57 (p1.at_ I12) ?_)
     refine wl_taken (c := decide (0 < (x16.length : Int))) rfl rfl rfl rfl hc18 (op_load (v := (fieldPtr (Value.pointer (some ⟨g1, 0, none⟩)) 1)) (e := a0.distances) rfl sh26 rfl ((p1.at_ I12).fld Search_view.fld1) (fun u13 hu13 => ?_))
     obtain ⟨z15, m15, k15, e64⟩ := rv_form hu13
     subst e64
     refine wl_taken (c := decide (0 < (x16.length : Int))) rfl rfl rfl rfl hc18 (op_move (v := (Value.int .i64 ((i1 : Int)))) rfl rfl ?_)
     obtain ⟨x18, hx18, h13⟩ := bnd h13
     refine wl_taken (c := decide (0 < (x16.length : Int))) rfl rfl rfl rfl hc18 (op_indexAddr_rv (v := (Value.slice z15 m15 k15)) (i := (i1 : Int)) (e := x18) rfl Try.underlying26 sh3 rfl hu13 rfl hx18 ?_)
     refine wl_taken (c := decide (0 < (x16.length : Int))) rfl rfl rfl rfl hc18 (op_load_int (v := (elemPtr (Value.slice z15 m15 k15) ((i1 : Int)) (Enc.sz Int))) (e := x18) rfl sh3 rfl (hu13.elem I12.in_ hx18) ?_)
     refine wl_taken (c := decide (0 < (x16.length : Int))) rfl rfl rfl rfl hc18 (op_neq (a := x18) (b := 0) rfl rfl rfl ?_)
     refine wl_op rfl (op_pick_t (c := decide (0 < (x16.length : Int))) (a := (Value.bool (x18 != 0))) rfl rfl hc18 rfl ?_)
     refine wl_op rfl (op_move (v := (Value.bool (x18 != 0))) rfl rfl ?_)
     rcases ifs h13 with ⟨hc19, h13⟩ | ⟨hc19, h13⟩
     ·
      refine wl_taken (c := x18 != 0) rfl rfl rfl rfl hc19 (op_move (v := (Value.int .i64 (s1))) rfl e58 ?_)
      refine wl_taken (c := x18 != 0) rfl rfl rfl rfl hc19 (op_move (v := (Value.int .i64 (a1))) rfl e56 ?_)
      refine wl_taken (c := x18 != 0) rfl rfl rfl rfl hc19 (op_leq (a := s1) (b := a1) rfl rfl rfl ?_)
      refine wl_op rfl (op_pick_t (c := x18 != 0) (a := (Value.bool (decide (s1 ≤ a1)))) rfl rfl hc19 rfl ?_)
      refine wl_nil ?_
      obtain rfl := Option.some.inj h13
      exact ⟨I12, e56, e57, e58, rfl, e59, e60, e61, rfl⟩
     ·
      refine wl_skip (c := x18 != 0) rfl rfl rfl rfl hc19 rfl ?_
      refine wl_skip (c := x18 != 0) rfl rfl rfl rfl hc19 rfl ?_
      refine wl_skip (c := x18 != 0) rfl rfl rfl rfl hc19 rfl ?_
      refine wl_op rfl (op_pick_f (c := x18 != 0) (b := (Value.bool (false))) rfl rfl hc19 rfl ?_)
      refine wl_nil ?_
      obtain rfl := Option.some.inj h13
      exact ⟨I12, e56, e57, e58, rfl, e59, e60, e61, rfl⟩
    ·
     refine wl_skip (c := decide (0 < (x16.length : Int))) rfl rfl rfl rfl hc18 rfl ?_
     refine wl_skip (c := decide (0 < (x16.length : Int))) rfl rfl rfl rfl hc18 rfl ?_
     refine wl_skip (c := decide (0 < (x16.length : Int))) rfl rfl rfl rfl hc18 rfl ?_
     refine wl_skip (c := decide (0 < (x16.length : Int))) rfl rfl rfl rfl hc18 rfl ?_
     refine wl_skip (c := decide (0 < (x16.length : Int))) rfl rfl rfl rfl hc18 rfl ?_
     refine wl_skip (c := decide (0 < (x16.length : Int))) rfl rfl rfl rfl hc18 rfl ?_
     refine wl_op rfl (op_pick_f (c := decide (0 < (x16.length : Int))) (b := (Value.bool (false))) rfl rfl hc18 rfl ?_)
     refine wl_op rfl (op_move (v := (Value.bool (false))) rfl rfl ?_)
     refine wl_skip (c := false) rfl rfl rfl rfl rfl rfl ?_
     refine wl_skip (c := false) rfl rfl rfl rfl rfl rfl ?_
     refine wl_skip (c := false) rfl rfl rfl rfl rfl rfl ?_
     refine wl_op rfl (op_pick_f (c := false) (b := (Value.bool (false))) rfl rfl rfl rfl ?_)
     refine wl_nil ?_
     obtain rfl := Option.some.inj h13
     exact ⟨I12, e56, e57, e58, rfl, e59, e60, e61, rfl⟩
   ·
    rintro f w ⟨I13, e65, e66, e67, e68, e69, e70, e71, e72⟩
    rcases ifs h10 with ⟨hc20, h10⟩ | ⟨hc20, h10⟩
    ·
     refine wp_cond_t (b := v4) e72 hc20 ?_
     refine wp_region' ?_
     refine wl_op rfl (op_move (v := (Value.int .i64 (s1))) rfl e67 ?_)
     refine wl_op rfl (op_move (v := (Value.slice z13 m13 k13)) rfl e68 ?_)
     refine wl_op rfl (op_len_rv rfl Try.underlying40 rfl hu11 ?_)
     refine wl_op rfl (op_move (v := (Value.int .i64 (s1))) rfl e67 ?_)
     refine wl_op rfl (op_move (v := (Value.slice z13 m13 k13)) rfl e68 ?_)
     refine wl_op rfl (op_len_rv rfl Try.underlying40 rfl hu11 ?_)
     obtain ⟨x19, hx19, h10⟩ := bnd h10
     refine wl_op rfl (op_call_v (vs := [(Value.int .i64 (s1)), (Value.int .i64 ((x16.length : Int)))]) (r := (Value.int .i64 (x19))) rfl ca54 rfl (args2 rfl rfl) I13 (fun Fr_ hF_ => F54_ok hF_  hx19) (fun w5 I14 => ?_))
     obtain ⟨x20, hx20, h10⟩ := bnd h10
     refine wl_op rfl (op_quo (a := (x16.length : Int)) (b := x19) rfl rfl rfl hx20 ?_)
     refine wl_op rfl (op_mul (a := s1) (b := x20) rfl rfl rfl ?_)
     refine wl_op rfl (op_assign (v := (Value.int .i64 (w64 (s1 * x20)))) rfl rfl ?_)
     refine wl_nil ?_
     refine wp_region' ?_
     refine wl_op rfl (op_add (a := (i1 : Int)) (b := 1) rfl e71 rfl ?_)
     refine wl_op rfl (op_move (v := (Value.int .i64 (w64 ((i1 : Int) + 1)))) rfl rfl ?_)
     refine wl_nil ?_
     obtain rfl := Option.some.inj h10
     exact ⟨I14, e65, e66, rfl, e69, e70, (idx_next hlt1 hk1)⟩
    ·
     refine wp_cond_f (b := v4) e72 hc20 ?_
     refine wp_skip' ?_
     refine wp_region' ?_
     refine wl_op rfl (op_add (a := (i1 : Int)) (b := 1) rfl e71 rfl ?_)
     refine wl_op rfl (op_move (v := (Value.int .i64 (w64 ((i1 : Int) + 1)))) rfl rfl ?_)
     refine wl_nil ?_
     obtain rfl := Option.some.inj h10
     exact ⟨I13, e65, e66, e67, e69, e70, (idx_next hlt1 hk1)⟩
  ·
   rintro f w hI2
   obtain ⟨I15, e73, e74, e75, e76, e77, e78⟩ := hI2
   refine wp_seq' ?_
   refine wp_region' ?_
   refine wl_op rfl (op_lss (a := (a0.edges.length : Int)) (b := (a0.edges.length : Int)) rfl e78 e77 ?_)
   refine wl_nil ?_
   refine wp_seq' ?_
   refine wp_cond_f (b := decide ((a0.edges.length : Int) < (a0.edges.length : Int))) rfl (len_f _) ?_
   refine wp_exit' ?_
   exact ⟨I15, e73, e74, e75, e76, e77⟩
 ·
  rintro f w ⟨I16, e79, e80, e81, e82, e83⟩
  refine wp_seq' ?_
  refine wp_region' ?_
  refine wl_op rfl (op_move (v := (Value.int .i64 (out1))) rfl e81 ?_)
  refine wl_op rfl (op_assign (v := (Value.int .i64 (out1))) rfl rfl ?_)
  refine wl_nil ?_
  refine wp_ret' ?_
  obtain rfl := Option.some.inj h
  exact ⟨(Value.int .i64 (out1)), (res1 rfl rfl), _, [], le1, I16, rfl, rfl⟩

set_option maxHeartbeats 4000000 in
set_option maxRecDepth 100000 in
theorem F62_ok {w : World} {S : PH} {Fr : List HP} {a0 : Int} {a1 : Int} {a2 : Int} {r : Int × Bool} (hI : Inv w S (Fr))  (h : F62 a0 a1 a2 = some r) :
    Calls Try.prog 62 [(Value.int .i64 (a0)), (Value.int .i64 (a1)), (Value.int .i64 (a2))].toArray w (DoneV S Fr (Value.tuple #[(Value.int .i64 (r.1)), (Value.bool (r.2))])) := by
 unfold F62 at h
 refine calls_enter (n := 22) (vs := [(Value.int .i64 (a0)), (Value.int .i64 (a1)), (Value.int .i64 (a2))]) Try.func62 rfl rfl rfl ?_
 refine wp_seq' ?_
 refine wp_region' ?_
 refine wl_op rfl (op_assign (v := (Value.int .i64 (0))) rfl rfl ?_)
 refine wl_op rfl (op_assign (v := (Value.bool (false))) rfl rfl ?_)
 refine wl_nil ?_
 refine wp_seq' ?_
 refine wp_region' ?_
 refine wl_op rfl (op_assign (v := (Value.int .i64 (1))) rfl rfl ?_)
 refine wl_nil ?_
 refine wp_seq' ?_
 refine wp_seq' ?_
 refine wp_region' ?_
 refine wl_op rfl (op_move (v := (Value.int .i64 (a1))) rfl rfl ?_)
 refine wl_op rfl (op_move (v := (Value.int .i64 (0))) rfl rfl ?_)
 refine wl_nil ?_
 obtain ⟨x4, hx4, h⟩ := bnd h
 obtain ⟨o2, hrun1, h⟩ := bnd h
 refine wp_cutN (fun f w => ∃ out1, o2 = Sum.inl out1 ∧ Inv w S (Fr) ∧ f 0 = (Value.int .i64 (a0)) ∧ f 2 = (Value.int .i64 (a2)) ∧ f 8 = (Value.int .i64 (out1)) ∧ f 9 = (Value.int .i64 (a1))) ?_ ?_
 ·
  refine wp_block' ?_
  refine wp_forN (I := fun (i1 : Nat) (s1 : (Int)) (f : Frm) (w : World) => Inv w S (Fr) ∧ f 0 = (Value.int .i64 (a0)) ∧ f 2 = (Value.int .i64 (a2)) ∧ f 8 = (Value.int .i64 (s1)) ∧ f 9 = (Value.int .i64 (a1)) ∧ f 10 = (Value.int .i64 (i1 : Int))) hrun1 ⟨hI, rfl, rfl, rfl, rfl, rfl⟩ ?_ ?_
  ·
   rintro i1 s1 f w o1 hlt1 hI1 h1 hout1
   obtain ⟨I4, e16, e17, e18, e19, e20⟩ := hI1
   refine wp_seq' ?_
   refine wp_region' ?_
   refine wl_op rfl (op_lss (a := (i1 : Int)) (b := a1) rfl e20 e19 ?_)
   refine wl_nil ?_
   refine wp_seq' ?_
   refine wp_cond_t (b := decide ((i1 : Int) < a1)) rfl (cnt_t hx4 hlt1) ?_
   refine wp_skip' ?_
   refine wp_seq' ?_
   refine wp_block' ?_
   refine wp_seq' ?_
   refine wp_seq' ?_
   refine wp_region' ?_
   refine wl_op rfl (op_move (v := (Value.int .i64 (s1))) rfl e18 ?_)
   refine wl_op rfl (op_move (v := (Value.int .i64 (a2))) rfl e17 ?_)
   refine wl_op rfl (op_move (v := (Value.int .i64 (a0))) rfl e16 ?_)
   obtain ⟨x5, hx5, h1⟩ := bnd h1
   refine wl_op rfl (op_quo (a := a2) (b := a0) rfl rfl rfl hx5 ?_)
   refine wl_op rfl (op_gtr (a := s1) (b := x5) rfl rfl rfl ?_)
   refine wl_nil ?_
   rcases ifs h1 with ⟨hc4, h1⟩ | ⟨hc4, h1⟩
   ·
    refine wp_cond_t (b := decide (x5 < s1)) rfl hc4 ?_
    refine wp_seq' ?_
    refine wp_region' ?_
    refine wl_op rfl (op_assign (v := (Value.int .i64 (0))) rfl rfl ?_)
    refine wl_op rfl (op_assign (v := (Value.bool (false))) rfl rfl ?_)
    refine wl_nil ?_
    refine wp_ret' ?_
    obtain rfl := Option.some.inj h1
    obtain rfl := (hout1 _ rfl)
    have h2 := h
    obtain rfl := Option.some.inj h2
    exact ⟨(Value.tuple #[(Value.int .i64 (0)), (Value.bool (false))]), (res2 rfl rfl rfl), _, [], (PH.Le.refl _), I4, rfl, rfl⟩
   ·
    refine wp_cond_f (b := decide (x5 < s1)) rfl hc4 ?_
    refine wp_skip' ?_
    refine wp_region' ?_
    refine wl_op rfl (op_move (v := (Value.int .i64 (s1))) rfl e18 ?_)
    refine wl_op rfl (op_move (v := (Value.int .i64 (a0))) rfl e16 ?_)
    refine wl_op rfl (op_mul (a := s1) (b := a0) rfl rfl rfl ?_)
    refine wl_op rfl (op_assign (v := (Value.int .i64 (w64 (s1 * a0)))) rfl rfl ?_)
    refine wl_nil ?_
    refine wp_region' ?_
    refine wl_op rfl (op_add (a := (i1 : Int)) (b := 1) rfl e20 rfl ?_)
    refine wl_op rfl (op_move (v := (Value.int .i64 (w64 ((i1 : Int) + 1)))) rfl rfl ?_)
    refine wl_nil ?_
    obtain rfl := Option.some.inj h1
    exact ⟨_, rfl, I4, e16, e17, rfl, e19, (idx_next hlt1 (cnt_le hx4))⟩
  ·
   rintro s2 f w hs1 hI2
   obtain ⟨I5, e21, e22, e23, e24, e25⟩ := hI2
   refine wp_seq' ?_
   refine wp_region' ?_
   refine wl_op rfl (op_lss (a := (x4 : Int)) (b := a1) rfl e25 e24 ?_)
   refine wl_nil ?_
   refine wp_seq' ?_
   refine wp_cond_f (b := decide ((x4 : Int) < a1)) rfl (cnt_f hx4) ?_
   refine wp_exit' ?_
   exact ⟨s2, hs1, I5, e21, e22, e23, e24⟩
 ·
  rintro f w ⟨out1, rfl, I6, e26, e27, e28, e29⟩
  have h := onL_inl h
  refine wp_seq' ?_
  refine wp_region' ?_
  refine wl_op rfl (op_move (v := (Value.int .i64 (out1))) rfl e28 ?_)
  refine wl_op rfl (op_assign (v := (Value.int .i64 (out1))) rfl rfl ?_)
  refine wl_op rfl (op_assign (v := (Value.bool (true))) rfl rfl ?_)
  refine wl_nil ?_
  refine wp_ret' ?_
  obtain rfl := Option.some.inj h
  exact ⟨(Value.tuple #[(Value.int .i64 (out1)), (Value.bool (true))]), (res2 rfl rfl rfl), _, [], (PH.Le.refl _), I6, rfl, rfl⟩

set_option maxHeartbeats 4000000 in
set_option maxRecDepth 100000 in
theorem F36_ok {w : World} {S : PH} {Fr : List HP} {a0 : Graph} {v0 : Value} {a1 : (List Int)} {v1 : Value} {a2 : Int} {r : Int × Int × Int} (hI : Inv w S (Fr)) (h0_ : RV S v0 a0) (h1_ : RV S v1 a1) (h : F36 a0 a1 a2 = some r) :
    Calls Try.prog 36 [v0, v1, (Value.int .i64 (a2))].toArray w (DoneV S Fr (Value.tuple #[(Value.int .i64 (r.1)), (Value.int .i64 (r.2.1)), (Value.int .i64 (r.2.2))])) := by
 unfold F36 at h
 obtain ⟨c1, c2, e1, r1, r2⟩ := Graph.inv h0_
 subst e1
 obtain ⟨z1, m1, k1, e2⟩ := rv_form r1
 subst e2
 obtain ⟨z2, m2, k2, e3⟩ := rv_form r2
 subst e3
 obtain ⟨z3, m3, k3, e4⟩ := rv_form h1_
 subst e4
 refine calls_enter (n := 129) (vs := [(Value.agg #[(Value.slice z1 m1 k1), (Value.slice z2 m2 k2)]), (Value.slice z3 m3 k3), (Value.int .i64 (a2))]) Try.func36 rfl rfl rfl ?_
 refine wp_seq' ?_
 refine wp_region' ?_
 refine wl_op rfl (op_box (v := (Value.agg #[(Value.slice z1 m1 k1), (Value.slice z2 m2 k2)])) rfl hI rfl (fun g1 w1 I1 => ?_))
 obtain ⟨S1, le1, I2, p1⟩ := Inv.boxFreeze (x := a0) I1 (Graph.rv (s := a0) r1 r2)
 refine wl_op rfl (op_assign (v := (Value.int .i64 (0))) rfl rfl ?_)
 refine wl_op rfl (op_assign (v := (Value.int .i64 (0))) rfl rfl ?_)
 refine wl_op rfl (op_assign (v := (Value.int .i64 (0))) rfl rfl ?_)
 refine wl_nil ?_
 refine wp_seq' ?_
 refine wp_region' ?_
 refine wl_op rfl (op_load (v := (Value.pointer (some ⟨g1, 0, none⟩))) (e := a0) rfl sh25 rfl (p1.at_ I2) (fun u1 hu1 => ?_))
 obtain ⟨c3, c4, e5, r3, r4⟩ := Graph.inv hu1
 subst e5
 obtain ⟨z4, m4, k4, e6⟩ := rv_form r3
 subst e6
 obtain ⟨z5, m5, k5, e7⟩ := rv_form r4
 subst e7
 refine wl_op rfl (op_move (v := (Value.slice z3 m3 k3)) rfl rfl ?_)
 obtain ⟨x1, hx1, h⟩ := bnd h
 refine wl_op rfl (op_call (vs := [(Value.agg #[(Value.slice z4 m4 k4), (Value.slice z5 m5 k5)]), (Value.slice z3 m3 k3)]) rfl ca57 rfl (args2 rfl rfl) (F57_ok I2 (Graph.rv (s := a0) r3 r4) (h1_.mono le1) hx1) (fun v1 w2 S2 O1 le2 I3 hv1 => ?_))
 obtain ⟨c5, rfl, rfl, r5⟩ := hv1
 obtain ⟨c6, c7, e8, r6, r7⟩ := Search_view.inv r5
 subst e8
 obtain ⟨z6, m6, k6, e9⟩ := rv_form r6
 subst e9
 obtain ⟨z7, m7, k7, e10⟩ := rv_form r7
 subst e10
 refine wl_op rfl (op_move (v := (Value.tuple #[(Value.agg #[(Value.slice z6 m6 k6), (Value.slice z7 m7 k7)]), (Value.int .i64 (x1.2))])) rfl rfl ?_)
 refine wl_op rfl (op_extract (v := (Value.agg #[(Value.slice z6 m6 k6), (Value.slice z7 m7 k7)])) rfl rfl rfl ?_)
 refine wl_op rfl (op_extract (v := (Value.int .i64 (x1.2))) rfl rfl rfl ?_)
 refine wl_op rfl (op_alloc (z := (Value.agg #[(Value.slice none 0 0), (Value.slice none 0 0)])) rfl I3 zo64 (fun g2 w3 (I4 : Inv w3 S2 (Cells g2 64 #[(Value.slice none 0 0), (Value.slice none 0 0)] :: Fr)) => ?_))
 refine wl_op rfl (op_store (v := (Value.agg #[(Value.slice z6 m6 k6), (Value.slice z7 m7 k7)])) (cs := #[(Value.slice none 0 0), (Value.slice none 0 0)]) sh64 I4 rfl rfl rfl (Nat.le_of_ble_eq_true rfl) rfl (fun w4 (I5 : Inv w4 S2 (Cells g2 64 #[(Value.slice z6 m6 k6), (Value.slice z7 m7 k7)] :: Fr)) => ?_))
 refine wl_op rfl (op_assign (v := (Value.int .i64 (x1.2))) rfl rfl ?_)
 refine wl_nil ?_
 refine wp_seq' ?_
 refine wp_seq' ?_
 refine wp_region' ?_
 refine wl_op rfl (op_move (v := (Value.int .i64 (x1.2))) rfl rfl ?_)
 refine wl_op rfl (op_neq (a := x1.2) (b := 0) rfl rfl rfl ?_)
 refine wl_nil ?_
 rcases ifs h with ⟨hc1, h⟩ | ⟨hc1, h⟩
 ·
  refine wp_cond_t (b := x1.2 != 0) rfl hc1 ?_
  refine wp_seq' ?_
  refine wp_region' ?_
  refine wl_op rfl (op_move (v := (Value.int .i64 (x1.2))) rfl rfl ?_)
  refine wl_op rfl (op_assign (v := (Value.int .i64 (0))) rfl rfl ?_)
  refine wl_op rfl (op_assign (v := (Value.int .i64 (0))) rfl rfl ?_)
  refine wl_op rfl (op_assign (v := (Value.int .i64 (x1.2))) rfl rfl ?_)
  refine wl_nil ?_
  refine wp_ret' ?_
  obtain rfl := Option.some.inj h
  exact ⟨(Value.tuple #[(Value.int .i64 (0)), (Value.int .i64 (0)), (Value.int .i64 (x1.2))]), (res3 rfl rfl rfl rfl), _, [], (le1.trans le2), (I5).drop, rfl, rfl⟩
 ·
  refine wp_cond_f (b := x1.2 != 0) rfl hc1 ?_
  refine wp_skip' ?_
  refine wp_seq' ?_
  refine wp_seq' ?_
  refine wp_region' ?_
  refine wl_op rfl (op_move (v := (Value.int .i64 (a2))) rfl rfl ?_)
  obtain ⟨x2, hx2, h⟩ := bnd h
  refine wl_op rfl (op_call_v (vs := [(Value.int .i64 (a2)), (Value.int .i64 (0)), (Value.int .i64 (20))]) (r := (Value.bool (x2))) rfl ca61 rfl (args3 rfl rfl rfl) I5 (fun Fr_ hF_ => F61_ok hF_  hx2) (fun w5 I6 => ?_))
  refine wl_op rfl (op_not (b := x2) rfl rfl ?_)
  refine wl_nil ?_
  rcases ifs h with ⟨hc2, h⟩ | ⟨hc2, h⟩
  ·
   refine wp_cond_t (b := !x2) rfl hc2 ?_
   refine wp_seq' ?_
   refine wp_region' ?_
   refine wl_op rfl (op_assign (v := (Value.int .i64 (0))) rfl rfl ?_)
   refine wl_op rfl (op_assign (v := (Value.int .i64 (0))) rfl rfl ?_)
   refine wl_op rfl (op_assign (v := (Value.int .i64 (1))) rfl rfl ?_)
   refine wl_nil ?_
   refine wp_ret' ?_
   obtain rfl := Option.some.inj h
   exact ⟨(Value.tuple #[(Value.int .i64 (0)), (Value.int .i64 (0)), (Value.int .i64 (1))]), (res3 rfl rfl rfl rfl), _, [], (le1.trans le2), (I6).drop, rfl, rfl⟩
  ·
   refine wp_cond_f (b := !x2) rfl hc2 ?_
   refine wp_skip' ?_
   refine wp_seq' ?_
   refine wp_region' ?_
   refine wl_op rfl (op_loadN (l := [(Value.slice z6 m6 k6), (Value.slice z7 m7 k7)]) rfl sh64 (I6.nth 0 rfl) rfl rfl rfl ?_)
   obtain ⟨x3, hx3, h⟩ := bnd h
   refine wl_op rfl (op_call_v (vs := [(Value.agg #[(Value.slice z6 m6 k6), (Value.slice z7 m7 k7)]), (Value.int .i64 (1000000000000000))]) (r := (Value.int .i64 (x3))) rfl ca63 rfl (args2 rfl rfl) I6 (fun Fr_ hF_ => F63_ok hF_ (Search_view.rv (s := x1.1) r6 r7) hx3) (fun w6 I7 => ?_))
   refine wl_op rfl (op_move (v := (Value.int .i64 (a2))) rfl rfl ?_)
   obtain ⟨x4, hx4, h⟩ := bnd h
   refine wl_op rfl (op_call_v (vs := [(Value.int .i64 (x3)), (Value.int .i64 (a2)), (Value.int .i64 (1000000000000000))]) (r := (Value.tuple #[(Value.int .i64 (x4.1)), (Value.bool (x4.2))])) rfl ca62 rfl (args3 rfl rfl rfl) I7 (fun Fr_ hF_ => F62_ok hF_  hx4) (fun w7 I8 => ?_))
   refine wl_op rfl (op_move (v := (Value.tuple #[(Value.int .i64 (x4.1)), (Value.bool (x4.2))])) rfl rfl ?_)
   refine wl_op rfl (op_extract (v := (Value.int .i64 (x4.1))) rfl rfl rfl ?_)
   refine wl_op rfl (op_extract (v := (Value.bool (x4.2))) rfl rfl rfl ?_)
   refine wl_op rfl (op_assign (v := (Value.int .i64 (x4.1))) rfl rfl ?_)
   refine wl_op rfl (op_assign (v := (Value.bool (x4.2))) rfl rfl ?_)
   refine wl_nil ?_
   refine wp_seq' ?_
   refine wp_seq' ?_
   refine wp_region' ?_
   refine wl_op rfl (op_move (v := (Value.bool (x4.2))) rfl rfl ?_)
   refine wl_op rfl (op_not (b := x4.2) rfl rfl ?_)
   refine wl_nil ?_
   rcases ifs h with ⟨hc3, h⟩ | ⟨hc3, h⟩
   ·
    refine wp_cond_t (b := !x4.2) rfl hc3 ?_
    refine wp_seq' ?_
    refine wp_region' ?_
    refine wl_op rfl (op_assign (v := (Value.int .i64 (0))) rfl rfl ?_)
    refine wl_op rfl (op_assign (v := (Value.int .i64 (0))) rfl rfl ?_)
    refine wl_op rfl (op_assign (v := (Value.int .i64 (2))) rfl rfl ?_)
    refine wl_nil ?_
    refine wp_ret' ?_
    obtain rfl := Option.some.inj h
    exact ⟨(Value.tuple #[(Value.int .i64 (0)), (Value.int .i64 (0)), (Value.int .i64 (2))]), (res3 rfl rfl rfl rfl), _, [], (le1.trans le2), (I8).drop, rfl, rfl⟩
   ·
    refine wp_cond_f (b := !x4.2) rfl hc3 ?_
    refine wp_skip' ?_
    refine wp_seq' ?_
    refine wp_region' ?_
    refine wl_op rfl (op_move (v := (Value.slice z3 m3 k3)) rfl rfl ?_)
    refine wl_op rfl (op_len_rv rfl Try.underlying26 rfl (h1_.mono (le1.trans le2)) ?_)
    obtain ⟨x5, hx5, h⟩ := bnd h
    refine wl_op rfl (op_makeSlice (c := (a1.length : Int)) rfl Try.underlying26 el3 (by decide) rfl rfl I8 hx5 (fun u2 w8 I9 => ?_))
    obtain ⟨z8, m8, k8, e11⟩ := row_form I9
    subst e11
    refine wl_op rfl (op_assign (v := (Value.slice z8 m8 k8)) rfl rfl ?_)
    refine wl_nil ?_
    refine wp_seq' ?_
    refine wp_region' ?_
    refine wl_op rfl (op_move (v := (Value.slice z8 m8 k8)) rfl rfl ?_)
    refine wl_op rfl (op_move (v := (Value.int .i64 (x4.1))) rfl rfl ?_)
    obtain ⟨x6, hx6, h⟩ := bnd h
    refine wl_op rfl (op_indexAddr_src (v := (Value.slice z8 m8 k8)) (i := 0) (e := x6) rfl Try.underlying26 sh3 rfl (Inv.rowSrc (I9.nth 0 rfl)) rfl hx6 ?_)
    refine wl_op rfl (op_storeRow (u := (Value.int .i64 (x4.1))) (e' := x4.1) sh3 I9 rfl rfl hx6 (rv_int' _) (fun w9 I10 => ?_))
    refine wl_nil ?_
    refine wp_seq' ?_
    refine wp_seq' ?_
    refine wp_region' ?_
    refine wl_op rfl (op_move (v := (Value.int .i64 (a2))) rfl rfl ?_)
    refine wl_op rfl (op_move (v := (Value.int .i64 (0))) rfl rfl ?_)
    refine wl_nil ?_
    obtain ⟨x406, hx406, h⟩ := bnd h
    obtain ⟨out22, hrun22, h⟩ := bnd h
    refine wp_cutN (fun f w => ∃ (S_ : PH) (z33 : Option Addr) (m33 k33 : Nat), S2.Le S_ ∧ Inv w S_ (Cells g2 64 #[(Value.slice z6 m6 k6), (Value.slice z7 m7 k7)] :: Row (α := Int) 3 (Value.slice z33 m33 k33) (out22) :: Fr) ∧ f 1 = (Value.slice z3 m3 k3) ∧ f 6 = (Value.int .i64 (0)) ∧ f 7 = (Value.int .i64 (x4.1)) ∧ f 9 = (Value.pointer (some ⟨g2, 0, none⟩)) ∧ f 11 = (Value.slice z33 m33 k33) ∧ f 48 = (Value.int .i64 (a2))) ?_ ?_
    ·
     refine wp_block' ?_
     refine wp_forS (I := fun (i20 : Nat) (s22 : (List Int)) (f : Frm) (w : World) => ∃ (S_ : PH) (z32 : Option Addr) (m32 k32 : Nat), S2.Le S_ ∧ Inv w S_ (Cells g2 64 #[(Value.slice z6 m6 k6), (Value.slice z7 m7 k7)] :: Row (α := Int) 3 (Value.slice z32 m32 k32) (s22) :: Fr) ∧ f 1 = (Value.slice z3 m3 k3) ∧ f 6 = (Value.int .i64 (0)) ∧ f 7 = (Value.int .i64 (x4.1)) ∧ f 9 = (Value.pointer (some ⟨g2, 0, none⟩)) ∧ f 11 = (Value.slice z32 m32 k32) ∧ f 48 = (Value.int .i64 (a2)) ∧ f 49 = (Value.int .i64 (i20 : Int))) hrun22 ⟨_, _, _, _, (PH.Le.refl _), (I10.pull 1), rfl, rfl, rfl, rfl, rfl, rfl, rfl⟩ ?_ ?_
     ·
      rintro i20 s22 f w o22 hlt20 hI977 h205
      obtain ⟨S1048, z32, m32, k32, le1048, I1461, e3747, e3748, e3749, e3750, e3751, e3752, e3753⟩ := hI977
      refine wp_seq' ?_
      refine wp_region' ?_
      refine wl_op rfl (op_lss (a := (i20 : Int)) (b := a2) rfl e3753 e3752 ?_)
      refine wl_nil ?_
      refine wp_seq' ?_
      refine wp_cond_t (b := decide ((i20 : Int) < a2)) rfl (cnt_t hx406 hlt20) ?_
      refine wp_skip' ?_
      refine wp_seq' ?_
      refine wp_block' ?_
      refine wp_seq' ?_
      refine wp_region' ?_
      refine wl_op rfl (op_move (v := (Value.slice z32 m32 k32)) rfl e3751 ?_)
      refine wl_op rfl (op_len_row (α := Int) rfl Try.underlying26 rfl (I1461.nth 1 rfl) ?_)
      obtain ⟨x407, hx407, h205⟩ := bnd h205
      refine wl_op rfl (op_makeSlice (c := (s22.length : Int)) rfl Try.underlying26 el3 (by decide) rfl rfl I1461 hx407 (fun u96 w1274 I1462 => ?_))
      obtain ⟨z34, m34, k34, e3754⟩ := row_form I1462
      subst e3754
      refine wl_op rfl (op_assign (v := (Value.slice z34 m34 k34)) rfl rfl ?_)
      refine wl_nil ?_
      refine wp_seq' ?_
      refine wp_seq' ?_
      refine wp_region' ?_
      refine wl_op rfl (op_move (v := (Value.slice z32 m32 k32)) rfl e3751 ?_)
      refine wl_op rfl (op_len_row (α := Int) rfl Try.underlying26 rfl (I1462.nth 2 rfl) ?_)
      refine wl_op rfl (op_move (v := (Value.int .i64 (0))) rfl rfl ?_)
      refine wl_nil ?_
      have hk23 : s22.length ≤ 9223372036854775807 := (row_len (I1462.nth 2 rfl))
      obtain ⟨out26, hrun26, h205⟩ := bnd h205
      refine wp_cutN (fun f w => ∃ (S_ : PH), S1048.Le S_ ∧ Inv w S_ (Cells g2 64 #[(Value.slice z6 m6 k6), (Value.slice z7 m7 k7)] :: Row (α := Int) 3 (Value.slice z34 m34 k34) (out26) :: Row (α := Int) 3 (Value.slice z32 m32 k32) (s22) :: Fr) ∧ f 1 = (Value.slice z3 m3 k3) ∧ f 6 = (Value.int .i64 (0)) ∧ f 7 = (Value.int .i64 (x4.1)) ∧ f 9 = (Value.pointer (some ⟨g2, 0, none⟩)) ∧ f 12 = (Value.slice z34 m34 k34) ∧ f 48 = (Value.int .i64 (a2)) ∧ f 49 = (Value.int .i64 ((i20 : Int))) ∧ f 54 = (Value.slice z32 m32 k32) ∧ f 55 = (Value.int .i64 ((s22.length : Int)))) ?_ ?_
      ·
       refine wp_block' ?_
       refine wp_forS (I := fun (i24 : Nat) (s26 : (List Int)) (f : Frm) (w : World) => ∃ (S_ : PH), S1048.Le S_ ∧ Inv w S_ (Cells g2 64 #[(Value.slice z6 m6 k6), (Value.slice z7 m7 k7)] :: Row (α := Int) 3 (Value.slice z34 m34 k34) (s26) :: Row (α := Int) 3 (Value.slice z32 m32 k32) (s22) :: Fr) ∧ f 1 = (Value.slice z3 m3 k3) ∧ f 6 = (Value.int .i64 (0)) ∧ f 7 = (Value.int .i64 (x4.1)) ∧ f 9 = (Value.pointer (some ⟨g2, 0, none⟩)) ∧ f 12 = (Value.slice z34 m34 k34) ∧ f 48 = (Value.int .i64 (a2)) ∧ f 49 = (Value.int .i64 ((i20 : Int))) ∧ f 54 = (Value.slice z32 m32 k32) ∧ f 55 = (Value.int .i64 ((s22.length : Int))) ∧ f 56 = (Value.int .i64 (i24 : Int))) hrun26 ⟨_, (PH.Le.refl _), (((I1462.pull 2).pull 1).pull 2), e3747, e3748, e3749, e3750, rfl, e3752, e3753, rfl, rfl, rfl⟩ ?_ ?_
       ·
        rintro i24 s26 f w o26 hlt24 hI1140 h240
        obtain ⟨S1222, le1222, I1703, e4367, e4368, e4369, e4370, e4371, e4372, e4373, e4374, e4375, e4376⟩ := hI1140
        refine wp_seq' ?_
        refine wp_region' ?_
        refine wl_op rfl (op_lss (a := (i24 : Int)) (b := (s22.length : Int)) rfl e4376 e4375 ?_)
        refine wl_nil ?_
        refine wp_seq' ?_
        refine wp_cond_t (b := decide ((i24 : Int) < (s22.length : Int))) rfl (len_t hlt24) ?_
        refine wp_skip' ?_
        refine wp_seq' ?_
        refine wp_block' ?_
        refine wp_seq' ?_
        refine wp_region' ?_
        refine wl_op rfl (op_move (v := (Value.int .i64 ((i24 : Int)))) rfl e4376 ?_)
        obtain ⟨x474, hx474, h240⟩ := bnd h240
        refine wl_op rfl (op_indexAddr_src (v := (Value.slice z32 m32 k32)) (i := (i24 : Int)) (e := x474) rfl Try.underlying26 sh3 e4374 (Inv.rowSrc (I1703.nth 2 rfl)) e4376 hx474 ?_)
        refine wl_op rfl (op_load_int (v := (elemPtr (Value.slice z32 m32 k32) ((i24 : Int)) (Enc.sz Int))) (e := x474) rfl sh3 rfl ((I1703.nth 2 rfl).rowElem hx474) ?_)
        refine wl_op rfl (op_assign (v := (Value.int .i64 ((i24 : Int)))) rfl rfl ?_)
        refine wl_op rfl (op_assign (v := (Value.int .i64 (x474))) rfl rfl ?_)
        refine wl_nil ?_
        refine wp_seq' ?_
        refine wp_region' ?_
        refine wl_op rfl (op_fieldAddr (v := (Value.pointer (some ⟨g2, 0, none⟩))) rfl fa64_0 e4370 rfl ?_)
        refine wl_op rfl (op_load1 (c := (Value.slice z6 m6 k6)) rfl sh23 (I1703.nth 0 rfl) rfl rfl ?_)
        refine wl_op rfl (op_move (v := (Value.int .i64 ((i24 : Int)))) rfl rfl ?_)
        obtain ⟨x475, hx475, h240⟩ := bnd h240
        refine wl_op rfl (op_indexAddr_rv (v := (Value.slice z6 m6 k6)) (i := (i24 : Int)) (e := x475) rfl Try.underlying23 sh40 rfl (r6.mono (le1048.trans le1222)) rfl hx475 ?_)
        refine wl_op rfl (op_load (v := (elemPtr (Value.slice z6 m6 k6) ((i24 : Int)) (Enc.sz (List Edge)))) (e := x475) rfl sh40 rfl ((r6.mono (le1048.trans le1222)).elem I1703.in_ hx475) (fun u112 hu107 => ?_))
        obtain ⟨z38, m38, k38, e4377⟩ := rv_form hu107
        subst e4377
        refine wl_op rfl (op_assign (v := (Value.slice z38 m38 k38)) rfl rfl ?_)
        refine wl_nil ?_
        obtain ⟨ov66, h246, h240⟩ := bnd h240
        refine wp_cut (fun f w => ∃ v66, ov66 = Sum.inl v66 ∧ Inv w S1222 (Cells g2 64 #[(Value.slice z6 m6 k6), (Value.slice z7 m7 k7)] :: Row (α := Int) 3 (Value.slice z34 m34 k34) (s26) :: Row (α := Int) 3 (Value.slice z32 m32 k32) (s22) :: Fr) ∧ f 1 = (Value.slice z3 m3 k3) ∧ f 6 = (Value.int .i64 (0)) ∧ f 7 = (Value.int .i64 (x4.1)) ∧ f 9 = (Value.pointer (some ⟨g2, 0, none⟩)) ∧ f 12 = (Value.slice z34 m34 k34) ∧ f 14 = (Value.int .i64 (x474)) ∧ f 15 = (Value.slice z38 m38 k38) ∧ f 48 = (Value.int .i64 (a2)) ∧ f 49 = (Value.int .i64 ((i20 : Int))) ∧ f 54 = (Value.slice z32 m32 k32) ∧ f 55 = (Value.int .i64 ((s22.length : Int))) ∧ f 56 = (Value.int .i64 ((i24 : Int)))) ?_ ?_
        ·
         obtain ⟨v67, h249, h246⟩ := bnd h246
         refine wp_cut (fun f w => Inv w S1222 (Cells g2 64 #[(Value.slice z6 m6 k6), (Value.slice z7 m7 k7)] :: Row (α := Int) 3 (Value.slice z34 m34 k34) (s26) :: Row (α := Int) 3 (Value.slice z32 m32 k32) (s22) :: Fr) ∧ f 1 = (Value.slice z3 m3 k3) ∧ f 6 = (Value.int .i64 (0)) ∧ f 7 = (Value.int .i64 (x4.1)) ∧ f 9 = (Value.pointer (some ⟨g2, 0, none⟩)) ∧ f 12 = (Value.slice z34 m34 k34) ∧ f 13 = (Value.int .i64 ((i24 : Int))) ∧ f 14 = (Value.int .i64 (x474)) ∧ f 15 = (Value.slice z38 m38 k38) ∧ f 48 = (Value.int .i64 (a2)) ∧ f 49 = (Value.int .i64 ((i20 : Int))) ∧ f 54 = (Value.slice z32 m32 k32) ∧ f 55 = (Value.int .i64 ((s22.length : Int))) ∧ f 56 = (Value.int .i64 ((i24 : Int))) ∧ f 75 = (Value.bool (v67))) ?_ ?_
         ·
          refine wp_region' ?_
          refine wl_op rfl (op_move (v := (Value.slice z3 m3 k3)) rfl e4367 ?_)
          refine wl_op rfl (op_move (v := (Value.int .i64 ((i24 : Int)))) rfl rfl ?_)
          obtain ⟨x481, hx481, h249⟩ := bnd h249
          refine wl_op rfl (op_indexAddr_rv (v := (Value.slice z3 m3 k3)) (i := (i24 : Int)) (e := x481) rfl Try.underlying26 sh3 rfl (h1_.mono (((le1.trans le2).trans le1048).trans le1222)) rfl hx481 ?_)
          refine wl_op rfl (op_load_int (v := (elemPtr (Value.slice z3 m3 k3) ((i24 : Int)) (Enc.sz Int))) (e := x481) rfl sh3 rfl ((h1_.mono (((le1.trans le2).trans le1048).trans le1222)).elem I1703.in_ hx481) ?_)
          refine wl_op rfl (op_eql (a := x481) (b := 0) rfl rfl rfl ?_)
          refine wl_op rfl (op_move (v := (Value.bool (x481 == 0))) rfl rfl ?_)
          rcases ifs h249 with ⟨hc142, h249⟩ | ⟨hc142, h249⟩
          ·
           refine wl_skip (c := x481 == 0) rfl rfl rfl rfl hc142 rfl ?_
           refine wl_skip (c := x481 == 0) rfl rfl rfl rfl hc142 rfl ?_
           refine wl_skip (c := x481 == 0) rfl rfl rfl rfl hc142 rfl ?_
           refine wl_op rfl (op_pick_t (c := x481 == 0) (a := (Value.bool (true))) rfl rfl hc142 rfl ?_)
           refine wl_nil ?_
           obtain rfl := Option.some.inj h249
           exact ⟨(((I1703.pull 2).pull 2).pull 2), e4367, e4368, e4369, e4370, e4371, rfl, rfl, rfl, e4372, e4373, e4374, e4375, e4376, rfl⟩
          ·
           refine wl_taken (c := x481 == 0) rfl rfl rfl rfl hc142 (op_move (v := (Value.slice z38 m38 k38)) rfl rfl ?_)
           refine wl_taken (c := x481 == 0) rfl rfl rfl rfl hc142 (op_len_rv rfl Try.underlying40 rfl hu107 ?_)
           refine wl_taken (c := x481 == 0) rfl rfl rfl rfl hc142 (op_eql (a := (x475.length : Int)) (b := 0) rfl rfl rfl ?_)
           refine wl_op rfl (op_pick_f (c := x481 == 0) (b := (Value.bool ((x475.length : Int) == 0))) rfl rfl hc142 rfl ?_)
           refine wl_nil ?_
           obtain rfl := Option.some.inj h249
           exact ⟨(((I1703.pull 2).pull 2).pull 2), e4367, e4368, e4369, e4370, e4371, rfl, rfl, rfl, e4372, e4373, e4374, e4375, e4376, rfl⟩
         ·
          rintro f w ⟨I1706, e4392, e4393, e4394, e4395, e4396, e4397, e4398, e4399, e4400, e4401, e4402, e4403, e4404, e4405⟩
          rcases ifs h246 with ⟨hc143, h246⟩ | ⟨hc143, h246⟩
          ·
           refine wp_cond_t (b := v67) e4405 hc143 ?_
           refine wp_seq' ?_
           refine wp_region' ?_
           refine wl_op rfl (op_move (v := (Value.slice z34 m34 k34)) rfl e4396 ?_)
           refine wl_op rfl (op_move (v := (Value.int .i64 ((i24 : Int)))) rfl e4397 ?_)
           obtain ⟨x482, hx482, h246⟩ := bnd h246
           refine wl_op rfl (op_indexAddr_src (v := (Value.slice z34 m34 k34)) (i := (i24 : Int)) (e := x482) rfl Try.underlying26 sh3 rfl (Inv.rowSrc (I1706.nth 1 rfl)) rfl hx482 ?_)
           refine wl_op rfl (op_load_int (v := (elemPtr (Value.slice z34 m34 k34) ((i24 : Int)) (Enc.sz Int))) (e := x482) rfl sh3 rfl ((I1706.nth 1 rfl).rowElem hx482) ?_)
           refine wl_op rfl (op_move (v := (Value.int .i64 (x474))) rfl e4398 ?_)
           refine wl_op rfl (op_add (a := x482) (b := x474) rfl rfl rfl ?_)
           obtain ⟨x483, hx483, h246⟩ := bnd h246
           refine wl_op rfl (op_indexAddr_src (v := (Value.slice z34 m34 k34)) (i := (i24 : Int)) (e := x483) rfl Try.underlying26 sh3 rfl (Inv.rowSrc (I1706.nth 1 rfl)) rfl hx483 ?_)
           refine wl_op rfl (op_storeRow (u := (Value.int .i64 (w64 (x482 + x474)))) (e' := w64 (x482 + x474)) sh3 (I1706.pull 1) rfl rfl hx483 (rv_int' _) (fun w1486 I1707 => ?_))
           refine wl_nil ?_
           refine wp_exit' ?_
           refine wp_region' ?_
           refine wl_op rfl (op_add (a := (i24 : Int)) (b := 1) rfl e4404 rfl ?_)
           refine wl_op rfl (op_move (v := (Value.int .i64 (w64 ((i24 : Int) + 1)))) rfl rfl ?_)
           refine wl_nil ?_
           obtain rfl := Option.some.inj h246
           have h247 := h240
           obtain rfl := Option.some.inj h247
           exact ⟨_, le1222, (((I1707.pull 2).pull 1).pull 2), e4392, e4393, e4394, e4395, e4396, e4400, e4401, e4402, e4403, (idx_next hlt24 hk23)⟩
          ·
           refine wp_cond_f (b := v67) e4405 hc143 ?_
           refine wp_skip' ?_
           obtain rfl := Option.some.inj h246
           exact ⟨_, rfl, (((I1706.pull 2).pull 2).pull 2), e4392, e4393, e4394, e4395, e4396, e4398, e4399, e4400, e4401, e4402, e4403, e4404⟩
        ·
         rintro f w ⟨v66, rfl, I1708, e4406, e4407, e4408, e4409, e4410, e4411, e4412, e4413, e4414, e4415, e4416, e4417⟩
         have h240 := onL_inl h240
         refine wp_seq' ?_
         refine wp_region' ?_
         refine wl_op rfl (op_move (v := (Value.slice z38 m38 k38)) rfl e4412 ?_)
         refine wl_op rfl (op_len_rv rfl Try.underlying40 rfl hu107 ?_)
         refine wl_op rfl (op_move (v := (Value.int .i64 (0))) rfl rfl ?_)
         refine wl_nil ?_
         have hk24 : x475.length ≤ 9223372036854775807 := (rv_len hu107)
         obtain ⟨out27, hrun27, h240⟩ := bnd h240
         refine wp_cutN (fun f w => ∃ (S_ : PH), S1222.Le S_ ∧ Inv w S_ (Cells g2 64 #[(Value.slice z6 m6 k6), (Value.slice z7 m7 k7)] :: Row (α := Int) 3 (Value.slice z34 m34 k34) (out27) :: Row (α := Int) 3 (Value.slice z32 m32 k32) (s22) :: Fr) ∧ f 1 = (Value.slice z3 m3 k3) ∧ f 6 = (Value.int .i64 (0)) ∧ f 7 = (Value.int .i64 (x4.1)) ∧ f 9 = (Value.pointer (some ⟨g2, 0, none⟩)) ∧ f 12 = (Value.slice z34 m34 k34) ∧ f 14 = (Value.int .i64 (x474)) ∧ f 15 = (Value.slice z38 m38 k38) ∧ f 48 = (Value.int .i64 (a2)) ∧ f 49 = (Value.int .i64 ((i20 : Int))) ∧ f 54 = (Value.slice z32 m32 k32) ∧ f 55 = (Value.int .i64 ((s22.length : Int))) ∧ f 56 = (Value.int .i64 ((i24 : Int))) ∧ f 83 = (Value.slice z38 m38 k38) ∧ f 84 = (Value.int .i64 ((x475.length : Int)))) ?_ ?_
         ·
          refine wp_block' ?_
          refine wp_forS (I := fun (i25 : Nat) (s27 : (List Int)) (f : Frm) (w : World) => ∃ (S_ : PH), S1222.Le S_ ∧ Inv w S_ (Cells g2 64 #[(Value.slice z6 m6 k6), (Value.slice z7 m7 k7)] :: Row (α := Int) 3 (Value.slice z34 m34 k34) (s27) :: Row (α := Int) 3 (Value.slice z32 m32 k32) (s22) :: Fr) ∧ f 1 = (Value.slice z3 m3 k3) ∧ f 6 = (Value.int .i64 (0)) ∧ f 7 = (Value.int .i64 (x4.1)) ∧ f 9 = (Value.pointer (some ⟨g2, 0, none⟩)) ∧ f 12 = (Value.slice z34 m34 k34) ∧ f 14 = (Value.int .i64 (x474)) ∧ f 15 = (Value.slice z38 m38 k38) ∧ f 48 = (Value.int .i64 (a2)) ∧ f 49 = (Value.int .i64 ((i20 : Int))) ∧ f 54 = (Value.slice z32 m32 k32) ∧ f 55 = (Value.int .i64 ((s22.length : Int))) ∧ f 56 = (Value.int .i64 ((i24 : Int))) ∧ f 83 = (Value.slice z38 m38 k38) ∧ f 84 = (Value.int .i64 ((x475.length : Int))) ∧ f 85 = (Value.int .i64 (i25 : Int))) hrun27 ⟨_, (PH.Le.refl _), (((I1708.pull 2).pull 2).pull 2), e4406, e4407, e4408, e4409, e4410, e4411, e4412, e4413, e4414, e4415, e4416, e4417, rfl, rfl, rfl⟩ ?_ ?_
          ·
           rintro i25 s27 f w o27 hlt25 hI1180 h251
           obtain ⟨S1264, le1264, I1763, e4511, e4512, e4513, e4514, e4515, e4516, e4517, e4518, e4519, e4520, e4521, e4522, e4523, e4524, e4525⟩ := hI1180
           refine wp_seq' ?_
           refine wp_region' ?_
           refine wl_op rfl (op_lss (a := (i25 : Int)) (b := (x475.length : Int)) rfl e4525 e4524 ?_)
           refine wl_nil ?_
           refine wp_seq' ?_
           refine wp_cond_t (b := decide ((i25 : Int) < (x475.length : Int))) rfl (len_t hlt25) ?_
           refine wp_skip' ?_
           refine wp_seq' ?_
           refine wp_block' ?_
           refine wp_seq' ?_
           refine wp_region' ?_
           obtain ⟨x493, hx493, h251⟩ := bnd h251
           refine wl_op rfl (op_indexAddr_rv (v := (Value.slice z38 m38 k38)) (i := (i25 : Int)) (e := x493) rfl Try.underlying40 sh44 e4523 (hu107.mono le1264) e4525 hx493 ?_)
           refine wl_op rfl (op_load (v := (elemPtr (Value.slice z38 m38 k38) ((i25 : Int)) (Enc.sz Edge))) (e := x493) rfl sh44 rfl ((hu107.mono le1264).elem I1763.in_ hx493) (fun u116 hu111 => ?_))
           have e4526 := Edge.inv hu111
           subst e4526
           refine wl_op rfl (op_alloc (z := (Value.agg #[(Value.int .i64 (0)), (Value.int .i64 (0)), (Value.int .i64 (0)), (Value.int .i64 (0))])) rfl I1763 zo44 (fun g90 w1538 (I1764 : Inv w1538 S1264 (Cells g90 44 #[(Value.int .i64 (0)), (Value.int .i64 (0)), (Value.int .i64 (0)), (Value.int .i64 (0))] :: Cells g2 64 #[(Value.slice z6 m6 k6), (Value.slice z7 m7 k7)] :: Row (α := Int) 3 (Value.slice z34 m34 k34) (s27) :: Row (α := Int) 3 (Value.slice z32 m32 k32) (s22) :: Fr)) => ?_))
           refine wl_op rfl (op_store (v := (Value.agg #[(Value.int .i64 (x493.Move.Player)), (Value.int .i64 (x493.Move.Kind)), (Value.int .i64 (x493.Move.Number)), (Value.int .i64 (x493.To))])) (cs := #[(Value.int .i64 (0)), (Value.int .i64 (0)), (Value.int .i64 (0)), (Value.int .i64 (0))]) sh44 I1764 rfl rfl rfl (Nat.le_of_ble_eq_true rfl) rfl (fun w1539 (I1765 : Inv w1539 S1264 (Cells g90 44 #[(Value.int .i64 (x493.Move.Player)), (Value.int .i64 (x493.Move.Kind)), (Value.int .i64 (x493.Move.Number)), (Value.int .i64 (x493.To))] :: Cells g2 64 #[(Value.slice z6 m6 k6), (Value.slice z7 m7 k7)] :: Row (α := Int) 3 (Value.slice z34 m34 k34) (s27) :: Row (α := Int) 3 (Value.slice z32 m32 k32) (s22) :: Fr)) => ?_))
           refine wl_nil ?_
           obtain ⟨x494, hx494, h251⟩ := bnd h251
           obtain ⟨x495, hx495, h251⟩ := bnd h251
           refine wp_draw (sps := [⟨some 89, [], [0], fun vs_ T_ => fr0 vs_ 0 = (Value.slice z34 m34 k34), [], [], [], fun _ h_ => h_⟩, ⟨some 90, [], [1], fun vs_ T_ => fr0 vs_ 0 = (Value.pointer (some ⟨g90, 3, none⟩)), [], [], [], fun _ h_ => h_⟩, ⟨some 91, [1], [2], fun vs_ T_ => fr0 vs_ 0 = (Value.int .i64 (x493.To)), [0], [], [], fun _ h_ => h_⟩, ⟨some 92, [0, 1, 2], [3], fun vs_ T_ => fr0 vs_ 0 = (elemPtr (Value.slice z34 m34 k34) (x493.To) (Enc.sz Int)), [1], [], [], fun _ h_ => h_⟩, ⟨some 93, [0, 1, 2, 3], [4], fun vs_ T_ => fr0 vs_ 0 = (Value.int .i64 (x494)), [1], [], [], fun _ h_ => h_⟩, ⟨some 94, [], [5], fun vs_ T_ => fr0 vs_ 0 = (Value.int .i64 (x474)), [], [], [], fun _ h_ => h_⟩, ⟨some 95, [], [6], fun vs_ T_ => fr0 vs_ 0 = (Value.slice z38 m38 k38), [], [], [], fun _ h_ => h_⟩, ⟨some 96, [6], [7], fun vs_ T_ => fr0 vs_ 0 = (Value.int .i64 ((x475.length : Int))), [], [], [], fun _ h_ => h_⟩, ⟨some 97, [5, 6, 7], [8], fun vs_ T_ => fr0 vs_ 0 = (Value.int .i64 (x495)), [], [], [], fun _ h_ => h_⟩, ⟨some 98, [0, 1, 2, 3, 4, 5, 6, 7, 8], [9], fun vs_ T_ => fr0 vs_ 0 = (Value.int .i64 (w64 (x494 + x495))), [], [], [], fun _ h_ => h_⟩, ⟨some 99, [0, 1, 2, 3, 4, 5, 6, 7, 8, 9], [10], fun vs_ T_ => fr0 vs_ 0 = (elemPtr (Value.slice z34 m34 k34) (x493.To) (Enc.sz Int)), [1], [], [], fun _ h_ => h_⟩, ⟨none, [0, 1, 2, 3, 4, 5, 6, 7, 8, 9, 10], [], fun vs_ T_ => True, [], [1], [2], fun _ h_ => h_⟩]) (tks := [⟨none, none, [], fun vs_ => Cells g90 44 #[(Value.int .i64 (x493.Move.Player)), (Value.int .i64 (x493.Move.Kind)), (Value.int .i64 (x493.Move.Number)), (Value.int .i64 (x493.To))]⟩, ⟨none, some 11, [], fun vs_ => Row (α := Int) 3 (Value.slice z34 m34 k34) (s27)⟩, ⟨some 11, none, [], fun vs_ => Row (α := Int) 3 (Value.slice z34 m34 k34) (s27.set (x493.To).toNat (w64 (x494 + x495)))⟩]) (O := Cells g2 64 #[(Value.slice z6 m6 k6), (Value.slice z7 m7 k7)] :: Row (α := Int) 3 (Value.slice z32 m32 k32) (s22) :: Fr) rfl (by kernel_rfl) ((I1765.pull 2).pull 1) ⟨?_, ?_, ?_, ?_, ?_, ?_, ?_, ?_, ?_, ?_, ?_, ?_, trivial⟩ ?_
           ·
            intro vs1132 f w1541 S1265 X1045 le1265 hA1045 hK1132 hI1181
            have I1767 : Inv w1541 S1265 (X1045) := hI1181
            refine opg_plain rfl rfl (op_move (v := (Value.slice z34 m34 k34)) rfl ((hK1132 12 (keep_of rfl)).trans e4515) ?_)
            refine ⟨_, _, rfl, PH.Le.refl _, ?_, ?_⟩
            ·
             exact rfl
            ·
             exact I1767
           ·
            intro vs1133 f w1542 S1266 X1046 le1266 hA1046 hK1133 hI1182
            have I1768 : Inv w1542 S1266 (X1046) := hI1182
            refine opg_plain rfl rfl (op_fieldAddr (v := (Value.pointer (some ⟨g90, 0, none⟩))) rfl fa44_1 (hK1133 17 (keep_of rfl)) rfl ?_)
            refine ⟨_, _, rfl, PH.Le.refl _, ?_, ?_⟩
            ·
             exact rfl
            ·
             exact I1768
           ·
            intro vs1134 f w1543 S1267 X1047 le1267 hA1047 hK1134 hI1183
            have I1769 : Inv w1543 S1267 (Cells g90 44 #[(Value.int .i64 (x493.Move.Player)), (Value.int .i64 (x493.Move.Kind)), (Value.int .i64 (x493.Move.Number)), (Value.int .i64 (x493.To))] :: X1047) := hI1183
            have q1132 : f 90 = (Value.pointer (some ⟨g90, 3, none⟩)) := vt (hA1047.at_ 0 rfl _ rfl) rfl
            refine opg_plain rfl rfl (op_load1 (c := (Value.int .i64 (x493.To))) rfl sh3 (I1769.nth 0 rfl) q1132 rfl ?_)
            refine ⟨_, _, rfl, PH.Le.refl _, ?_, ?_⟩
            ·
             exact rfl
            ·
             exact I1769
           ·
            intro vs1135 f w1544 S1268 X1048 le1268 hA1048 hK1135 hI1184
            have I1770 : Inv w1544 S1268 (Row (α := Int) 3 (Value.slice z34 m34 k34) (s27) :: X1048) := hI1184
            have q1133 : f 89 = (Value.slice z34 m34 k34) := vt (hA1048.at_ 0 rfl _ rfl) rfl
            have q1134 : f 91 = (Value.int .i64 (x493.To)) := vt (hA1048.at_ 2 rfl _ rfl) rfl
            refine opg_plain rfl rfl (op_indexAddr_src (v := (Value.slice z34 m34 k34)) (i := x493.To) (e := x494) rfl Try.underlying26 sh3 q1133 (Inv.rowSrc (I1770.nth 0 rfl)) q1134 hx494 ?_)
            refine ⟨_, _, rfl, PH.Le.refl _, ?_, ?_⟩
            ·
             exact rfl
            ·
             exact I1770
           ·
            intro vs1136 f w1545 S1269 X1049 le1269 hA1049 hK1136 hI1185
            have I1771 : Inv w1545 S1269 (Row (α := Int) 3 (Value.slice z34 m34 k34) (s27) :: X1049) := hI1185
            have q1135 : f 92 = (elemPtr (Value.slice z34 m34 k34) (x493.To) (Enc.sz Int)) := vt (hA1049.at_ 3 rfl _ rfl) rfl
            refine opg_plain rfl rfl (op_load_int (v := (elemPtr (Value.slice z34 m34 k34) (x493.To) (Enc.sz Int))) (e := x494) rfl sh3 q1135 ((I1771.nth 0 rfl).rowElem hx494) ?_)
            refine ⟨_, _, rfl, PH.Le.refl _, ?_, ?_⟩
            ·
             exact rfl
            ·
             exact I1771
           ·
            intro vs1137 f w1546 S1270 X1050 le1270 hA1050 hK1137 hI1186
            have I1772 : Inv w1546 S1270 (X1050) := hI1186
            refine opg_plain rfl rfl (op_move (v := (Value.int .i64 (x474))) rfl ((hK1137 14 (keep_of rfl)).trans e4516) ?_)
            refine ⟨_, _, rfl, PH.Le.refl _, ?_, ?_⟩
            ·
             exact rfl
            ·
             exact I1772
           ·
            intro vs1138 f w1547 S1271 X1051 le1271 hA1051 hK1138 hI1187
            have I1773 : Inv w1547 S1271 (X1051) := hI1187
            refine opg_plain rfl rfl (op_move (v := (Value.slice z38 m38 k38)) rfl ((hK1138 15 (keep_of rfl)).trans e4517) ?_)
            refine ⟨_, _, rfl, PH.Le.refl _, ?_, ?_⟩
            ·
             exact rfl
            ·
             exact I1773
           ·
            intro vs1139 f w1548 S1272 X1052 le1272 hA1052 hK1139 hI1188
            have I1774 : Inv w1548 S1272 (X1052) := hI1188
            have q1136 : f 95 = (Value.slice z38 m38 k38) := vt (hA1052.at_ 0 rfl _ rfl) rfl
            refine opg_plain rfl rfl (op_len_rv rfl Try.underlying40 q1136 (hu107.mono (le1264.trans le1272)) ?_)
            refine ⟨_, _, rfl, PH.Le.refl _, ?_, ?_⟩
            ·
             exact rfl
            ·
             exact I1774
           ·
            intro vs1140 f w1549 S1273 X1053 le1273 hA1053 hK1140 hI1189
            have I1775 : Inv w1549 S1273 (X1053) := hI1189
            have q1137 : f 94 = (Value.int .i64 (x474)) := vt (hA1053.at_ 0 rfl _ rfl) rfl
            have q1138 : f 96 = (Value.int .i64 ((x475.length : Int))) := vt (hA1053.at_ 2 rfl _ rfl) rfl
            refine opg_plain rfl rfl (op_quo (a := x474) (b := (x475.length : Int)) rfl q1137 q1138 hx495 ?_)
            refine ⟨_, _, rfl, PH.Le.refl _, ?_, ?_⟩
            ·
             exact rfl
            ·
             exact I1775
           ·
            intro vs1141 f w1550 S1274 X1054 le1274 hA1054 hK1141 hI1190
            have I1776 : Inv w1550 S1274 (X1054) := hI1190
            have q1139 : f 93 = (Value.int .i64 (x494)) := vt (hA1054.at_ 4 rfl _ rfl) rfl
            have q1140 : f 97 = (Value.int .i64 (x495)) := vt (hA1054.at_ 8 rfl _ rfl) rfl
            refine opg_plain rfl rfl (op_add (a := x494) (b := x495) rfl q1139 q1140 ?_)
            refine ⟨_, _, rfl, PH.Le.refl _, ?_, ?_⟩
            ·
             exact rfl
            ·
             exact I1776
           ·
            intro vs1142 f w1551 S1275 X1055 le1275 hA1055 hK1142 hI1191
            have I1777 : Inv w1551 S1275 (Row (α := Int) 3 (Value.slice z34 m34 k34) (s27) :: X1055) := hI1191
            have q1141 : f 89 = (Value.slice z34 m34 k34) := vt (hA1055.at_ 0 rfl _ rfl) rfl
            have q1142 : f 91 = (Value.int .i64 (x493.To)) := vt (hA1055.at_ 2 rfl _ rfl) rfl
            refine opg_plain rfl rfl (op_indexAddr_src (v := (Value.slice z34 m34 k34)) (i := x493.To) (e := x494) rfl Try.underlying26 sh3 q1141 (Inv.rowSrc (I1777.nth 0 rfl)) q1142 hx494 ?_)
            refine ⟨_, _, rfl, PH.Le.refl _, ?_, ?_⟩
            ·
             exact rfl
            ·
             exact I1777
           ·
            intro vs1143 f w1552 S1276 X1056 le1276 hA1056 hK1143 hI1192
            have I1778 : Inv w1552 S1276 (Row (α := Int) 3 (Value.slice z34 m34 k34) (s27) :: X1056) := hI1192
            have q1143 : f 98 = (Value.int .i64 (w64 (x494 + x495))) := vt (hA1056.at_ 9 rfl _ rfl) rfl
            have q1144 : f 99 = (elemPtr (Value.slice z34 m34 k34) (x493.To) (Enc.sz Int)) := vt (hA1056.at_ 10 rfl _ rfl) rfl
            refine opg_plain rfl rfl (op_storeRow (u := (Value.int .i64 (w64 (x494 + x495)))) (e' := w64 (x494 + x495)) sh3 I1778 q1144 q1143 hx494 (rv_int' _) (fun w1553 I1779 => ?_))
            refine ⟨undef, _, rfl, PH.Le.refl _, ?_, ?_⟩
            ·
             exact trivial
            ·
             exact I1779
           ·
            intro vs1144 f w1554 S1277 le1277 hF88 hK1144 hI1193
            have e4527 : f 1 = (Value.slice z3 m3 k3) := (hK1144 1 (keep_all rfl)).trans e4511
            have e4528 : f 6 = (Value.int .i64 (0)) := (hK1144 6 (keep_all rfl)).trans e4512
            have e4529 : f 7 = (Value.int .i64 (x4.1)) := (hK1144 7 (keep_all rfl)).trans e4513
            have e4530 : f 9 = (Value.pointer (some ⟨g2, 0, none⟩)) := (hK1144 9 (keep_all rfl)).trans e4514
            have e4531 : f 12 = (Value.slice z34 m34 k34) := (hK1144 12 (keep_all rfl)).trans e4515
            have e4532 : f 14 = (Value.int .i64 (x474)) := (hK1144 14 (keep_all rfl)).trans e4516
            have e4533 : f 15 = (Value.slice z38 m38 k38) := (hK1144 15 (keep_all rfl)).trans e4517
            have e4534 : f 48 = (Value.int .i64 (a2)) := (hK1144 48 (keep_all rfl)).trans e4518
            have e4535 : f 49 = (Value.int .i64 ((i20 : Int))) := (hK1144 49 (keep_all rfl)).trans e4519
            have e4536 : f 54 = (Value.slice z32 m32 k32) := (hK1144 54 (keep_all rfl)).trans e4520
            have e4537 : f 55 = (Value.int .i64 ((s22.length : Int))) := (hK1144 55 (keep_all rfl)).trans e4521
            have e4538 : f 56 = (Value.int .i64 ((i24 : Int))) := (hK1144 56 (keep_all rfl)).trans e4522
            have e4539 : f 83 = (Value.slice z38 m38 k38) := (hK1144 83 (keep_all rfl)).trans e4523
            have e4540 : f 84 = (Value.int .i64 ((x475.length : Int))) := (hK1144 84 (keep_all rfl)).trans e4524
            have e4541 : f 85 = (Value.int .i64 ((i25 : Int))) := (hK1144 85 (keep_all rfl)).trans e4525
            have I1780 : Inv w1554 S1277 (Cells g90 44 #[(Value.int .i64 (x493.Move.Player)), (Value.int .i64 (x493.Move.Kind)), (Value.int .i64 (x493.Move.Number)), (Value.int .i64 (x493.To))] :: Row (α := Int) 3 (Value.slice z34 m34 k34) (s27.set (x493.To).toNat (w64 (x494 + x495))) :: Cells g2 64 #[(Value.slice z6 m6 k6), (Value.slice z7 m7 k7)] :: Row (α := Int) 3 (Value.slice z32 m32 k32) (s22) :: Fr) := hI1193
            refine wp_region' ?_
            refine wl_op rfl (op_add (a := (i25 : Int)) (b := 1) rfl e4541 rfl ?_)
            refine wl_op rfl (op_move (v := (Value.int .i64 (w64 ((i25 : Int) + 1)))) rfl rfl ?_)
            refine wl_nil ?_
            obtain rfl := Option.some.inj h251
            exact ⟨_, (le1264.trans le1277), ((((I1780).drop.pull 2).pull 1).pull 2), e4527, e4528, e4529, e4530, e4531, e4532, e4533, e4534, e4535, e4536, e4537, e4538, e4539, e4540, (idx_next hlt25 hk24)⟩
          ·
           rintro f w hI1194
           obtain ⟨S1278, le1278, I1781, e4542, e4543, e4544, e4545, e4546, e4547, e4548, e4549, e4550, e4551, e4552, e4553, e4554, e4555, e4556⟩ := hI1194
           refine wp_seq' ?_
           refine wp_region' ?_
           refine wl_op rfl (op_lss (a := (x475.length : Int)) (b := (x475.length : Int)) rfl e4556 e4555 ?_)
           refine wl_nil ?_
           refine wp_seq' ?_
           refine wp_cond_f (b := decide ((x475.length : Int) < (x475.length : Int))) rfl (len_f _) ?_
           refine wp_exit' ?_
           exact ⟨_, le1278, (((I1781.pull 2).pull 2).pull 2), e4542, e4543, e4544, e4545, e4546, e4547, e4548, e4549, e4550, e4551, e4552, e4553, e4554, e4555⟩
         ·
          rintro f w ⟨S1279, le1279, I1782, e4557, e4558, e4559, e4560, e4561, e4562, e4563, e4564, e4565, e4566, e4567, e4568, e4569, e4570⟩
          refine wp_region' ?_
          refine wl_op rfl (op_add (a := (i24 : Int)) (b := 1) rfl e4568 rfl ?_)
          refine wl_op rfl (op_move (v := (Value.int .i64 (w64 ((i24 : Int) + 1)))) rfl rfl ?_)
          refine wl_nil ?_
          obtain rfl := Option.some.inj h240
          exact ⟨_, (le1222.trans le1279), (((I1782.pull 2).pull 2).pull 2), e4557, e4558, e4559, e4560, e4561, e4564, e4565, e4566, e4567, (idx_next hlt24 hk23)⟩
       ·
        rintro f w hI1195
        obtain ⟨S1280, le1280, I1783, e4571, e4572, e4573, e4574, e4575, e4576, e4577, e4578, e4579, e4580⟩ := hI1195
        refine wp_seq' ?_
        refine wp_region' ?_
        refine wl_op rfl (op_lss (a := (s22.length : Int)) (b := (s22.length : Int)) rfl e4580 e4579 ?_)
        refine wl_nil ?_
        refine wp_seq' ?_
        refine wp_cond_f (b := decide ((s22.length : Int) < (s22.length : Int))) rfl (len_f _) ?_
        refine wp_exit' ?_
        exact ⟨_, le1280, (((I1783.pull 2).pull 2).pull 2), e4571, e4572, e4573, e4574, e4575, e4576, e4577, e4578, e4579⟩
      ·
       rintro f w ⟨S1281, le1281, I1784, e4581, e4582, e4583, e4584, e4585, e4586, e4587, e4588, e4589⟩
       refine wp_region' ?_
       refine wl_op rfl (op_move (v := (Value.slice z34 m34 k34)) rfl e4585 ?_)
       refine wl_op rfl (op_assign (v := (Value.slice z34 m34 k34)) rfl rfl ?_)
       refine wl_nil ?_
       refine wp_region' ?_
       refine wl_op rfl (op_add (a := (i20 : Int)) (b := 1) rfl e4587 rfl ?_)
       refine wl_op rfl (op_move (v := (Value.int .i64 (w64 ((i20 : Int) + 1)))) rfl rfl ?_)
       refine wl_nil ?_
       obtain rfl := Option.some.inj h205
       exact ⟨_, _, _, _, (le1048.trans le1281), (((I1784.pull 2).drop.pull 1).pull 1), e4581, e4582, e4583, e4584, rfl, e4586, (idx_next hlt20 (cnt_le hx406))⟩
     ·
      rintro f w hI1196
      obtain ⟨S1282, z39, m39, k39, le1282, I1785, e4590, e4591, e4592, e4593, e4594, e4595, e4596⟩ := hI1196
      refine wp_seq' ?_
      refine wp_region' ?_
      refine wl_op rfl (op_lss (a := (x406 : Int)) (b := a2) rfl e4596 e4595 ?_)
      refine wl_nil ?_
      refine wp_seq' ?_
      refine wp_cond_f (b := decide ((x406 : Int) < a2)) rfl (cnt_f hx406) ?_
      refine wp_exit' ?_
      exact ⟨_, _, _, _, le1282, ((I1785.pull 1).pull 1), e4590, e4591, e4592, e4593, e4594, e4595⟩
    ·
     rintro f w ⟨S1283, z33, m33, k33, le1283, I1786, e4597, e4598, e4599, e4600, e4601, e4602⟩
     refine wp_seq' ?_
     refine wp_seq' ?_
     refine wp_region' ?_
     refine wl_op rfl (op_move (v := (Value.slice z33 m33 k33)) rfl e4601 ?_)
     refine wl_op rfl (op_len_row (α := Int) rfl Try.underlying26 rfl (I1786.nth 1 rfl) ?_)
     refine wl_op rfl (op_move (v := (Value.int .i64 (0))) rfl rfl ?_)
     refine wl_nil ?_
     have hk25 : out22.length ≤ 9223372036854775807 := (row_len (I1786.nth 1 rfl))
     obtain ⟨out28, hrun28, h⟩ := bnd h
     refine wp_cutN (fun f w => Inv w S1283 (Row (α := Int) 3 (Value.slice z33 m33 k33) (out22) :: Fr) ∧ f 1 = (Value.slice z3 m3 k3) ∧ f 6 = (Value.int .i64 (out28)) ∧ f 7 = (Value.int .i64 (x4.1)) ∧ f 104 = (Value.slice z33 m33 k33) ∧ f 105 = (Value.int .i64 ((out22.length : Int)))) ?_ ?_
     ·
      refine wp_block' ?_
      refine wp_forS (I := fun (i26 : Nat) (s28 : (Int)) (f : Frm) (w : World) => Inv w S1283 (Row (α := Int) 3 (Value.slice z33 m33 k33) (out22) :: Fr) ∧ f 1 = (Value.slice z3 m3 k3) ∧ f 6 = (Value.int .i64 (s28)) ∧ f 7 = (Value.int .i64 (x4.1)) ∧ f 104 = (Value.slice z33 m33 k33) ∧ f 105 = (Value.int .i64 ((out22.length : Int))) ∧ f 106 = (Value.int .i64 (i26 : Int))) hrun28 ⟨(I1786).drop, e4597, e4598, e4599, rfl, rfl, rfl⟩ ?_ ?_
      ·
       rintro i26 s28 f w o28 hlt26 hI1197 h253
       obtain ⟨I1790, e4621, e4622, e4623, e4624, e4625, e4626⟩ := hI1197
       refine wp_seq' ?_
       refine wp_region' ?_
       refine wl_op rfl (op_lss (a := (i26 : Int)) (b := (out22.length : Int)) rfl e4626 e4625 ?_)
       refine wl_nil ?_
       refine wp_seq' ?_
       refine wp_cond_t (b := decide ((i26 : Int) < (out22.length : Int))) rfl (len_t hlt26) ?_
       refine wp_skip' ?_
       refine wp_seq' ?_
       refine wp_block' ?_
       refine wp_seq' ?_
       refine wp_region' ?_
       refine wl_op rfl (op_move (v := (Value.int .i64 ((i26 : Int)))) rfl e4626 ?_)
       obtain ⟨x502, hx502, h253⟩ := bnd h253
       refine wl_op rfl (op_indexAddr_src (v := (Value.slice z33 m33 k33)) (i := (i26 : Int)) (e := x502) rfl Try.underlying26 sh3 e4624 (Inv.rowSrc (I1790.nth 0 rfl)) e4626 hx502 ?_)
       refine wl_op rfl (op_load_int (v := (elemPtr (Value.slice z33 m33 k33) ((i26 : Int)) (Enc.sz Int))) (e := x502) rfl sh3 rfl ((I1790.nth 0 rfl).rowElem hx502) ?_)
       refine wl_op rfl (op_assign (v := (Value.int .i64 ((i26 : Int)))) rfl rfl ?_)
       refine wl_op rfl (op_assign (v := (Value.int .i64 (x502))) rfl rfl ?_)
       refine wl_nil ?_
       refine wp_seq' ?_
       refine wp_region' ?_
       refine wl_op rfl (op_move (v := (Value.slice z3 m3 k3)) rfl e4621 ?_)
       refine wl_op rfl (op_move (v := (Value.int .i64 ((i26 : Int)))) rfl rfl ?_)
       obtain ⟨x503, hx503, h253⟩ := bnd h253
       refine wl_op rfl (op_indexAddr_rv (v := (Value.slice z3 m3 k3)) (i := (i26 : Int)) (e := x503) rfl Try.underlying26 sh3 rfl (h1_.mono ((le1.trans le2).trans le1283)) rfl hx503 ?_)
       refine wl_op rfl (op_load_int (v := (elemPtr (Value.slice z3 m3 k3) ((i26 : Int)) (Enc.sz Int))) (e := x503) rfl sh3 rfl ((h1_.mono ((le1.trans le2).trans le1283)).elem I1790.in_ hx503) ?_)
       refine wl_op rfl (op_eql (a := x503) (b := 0) rfl rfl rfl ?_)
       refine wl_nil ?_
       rcases ifs h253 with ⟨hc147, h253⟩ | ⟨hc147, h253⟩
       ·
        refine wp_cond_t (b := x503 == 0) rfl hc147 ?_
        refine wp_region' ?_
        refine wl_op rfl (op_move (v := (Value.int .i64 (s28))) rfl e4622 ?_)
        refine wl_op rfl (op_move (v := (Value.int .i64 (x502))) rfl rfl ?_)
        refine wl_op rfl (op_add (a := s28) (b := x502) rfl rfl rfl ?_)
        refine wl_op rfl (op_assign (v := (Value.int .i64 (w64 (s28 + x502)))) rfl rfl ?_)
        refine wl_nil ?_
        refine wp_region' ?_
        refine wl_op rfl (op_add (a := (i26 : Int)) (b := 1) rfl e4626 rfl ?_)
        refine wl_op rfl (op_move (v := (Value.int .i64 (w64 ((i26 : Int) + 1)))) rfl rfl ?_)
        refine wl_nil ?_
        obtain rfl := Option.some.inj h253
        exact ⟨I1790, e4621, rfl, e4623, e4624, e4625, (idx_next hlt26 hk25)⟩
       ·
        refine wp_cond_f (b := x503 == 0) rfl hc147 ?_
        refine wp_skip' ?_
        refine wp_region' ?_
        refine wl_op rfl (op_add (a := (i26 : Int)) (b := 1) rfl e4626 rfl ?_)
        refine wl_op rfl (op_move (v := (Value.int .i64 (w64 ((i26 : Int) + 1)))) rfl rfl ?_)
        refine wl_nil ?_
        obtain rfl := Option.some.inj h253
        exact ⟨I1790, e4621, e4622, e4623, e4624, e4625, (idx_next hlt26 hk25)⟩
      ·
       rintro f w hI1198
       obtain ⟨I1791, e4627, e4628, e4629, e4630, e4631, e4632⟩ := hI1198
       refine wp_seq' ?_
       refine wp_region' ?_
       refine wl_op rfl (op_lss (a := (out22.length : Int)) (b := (out22.length : Int)) rfl e4632 e4631 ?_)
       refine wl_nil ?_
       refine wp_seq' ?_
       refine wp_cond_f (b := decide ((out22.length : Int) < (out22.length : Int))) rfl (len_f _) ?_
       refine wp_exit' ?_
       exact ⟨I1791, e4627, e4628, e4629, e4630, e4631⟩
     ·
      rintro f w ⟨I1792, e4633, e4634, e4635, e4636, e4637⟩
      refine wp_seq' ?_
      refine wp_region' ?_
      refine wl_op rfl (op_move (v := (Value.int .i64 (out28))) rfl e4634 ?_)
      refine wl_op rfl (op_move (v := (Value.int .i64 (x4.1))) rfl e4635 ?_)
      obtain ⟨x504, hx504, h⟩ := bnd h
      refine wl_op rfl (op_call_v (vs := [(Value.int .i64 (out28)), (Value.int .i64 (x4.1))]) (r := (Value.int .i64 (x504))) rfl ca54 rfl (args2 rfl rfl) I1792 (fun Fr_ hF_ => F54_ok hF_  hx504) (fun w1555 I1793 => ?_))
      refine wl_op rfl (op_assign (v := (Value.int .i64 (x504))) rfl rfl ?_)
      refine wl_nil ?_
      refine wp_seq' ?_
      obtain ⟨x505, hx505, h⟩ := bnd h
      obtain ⟨x506, hx506, h⟩ := bnd h
      refine wp_draw (sps := [⟨some 123, [], [0], fun vs_ T_ => fr0 vs_ 0 = (Value.int .i64 (out28)), [], [], [], fun _ h_ => h_⟩, ⟨some 124, [], [1], fun vs_ T_ => fr0 vs_ 0 = (Value.int .i64 (x504)), [], [], [], fun _ h_ => h_⟩, ⟨some 125, [0, 1], [2], fun vs_ T_ => fr0 vs_ 0 = (Value.int .i64 (x505)), [], [], [], fun _ h_ => h_⟩, ⟨some 126, [], [3], fun vs_ T_ => fr0 vs_ 0 = (Value.int .i64 (x4.1)), [], [], [], fun _ h_ => h_⟩, ⟨some 127, [], [4], fun vs_ T_ => fr0 vs_ 0 = (Value.int .i64 (x504)), [], [], [], fun _ h_ => h_⟩, ⟨some 128, [3, 4], [5], fun vs_ T_ => fr0 vs_ 0 = (Value.int .i64 (x506)), [], [], [], fun _ h_ => h_⟩, ⟨some 6, [0, 1, 2], [6], fun vs_ T_ => fr0 vs_ 0 = (Value.int .i64 (x505)), [], [], [], fun _ h_ => h_⟩, ⟨some 7, [0, 1, 2, 3, 4, 5, 6], [7], fun vs_ T_ => fr0 vs_ 0 = (Value.int .i64 (x506)), [], [], [], fun _ h_ => h_⟩, ⟨some 8, [0, 1, 2, 3, 4, 5, 6, 7], [8], fun vs_ T_ => fr0 vs_ 0 = (Value.int .i64 (0)), [], [], [], fun _ h_ => h_⟩]) (tks := []) (O := Row (α := Int) 3 (Value.slice z33 m33 k33) (out22) :: Fr) rfl (by kernel_rfl) I1793 ⟨?_, ?_, ?_, ?_, ?_, ?_, ?_, ?_, ?_, trivial⟩ ?_
      ·
       intro vs1145 f w1556 S1284 X1057 le1284 hA1057 hK1145 hI1199
       have I1794 : Inv w1556 S1284 (X1057) := hI1199
       refine opg_plain rfl rfl (op_move (v := (Value.int .i64 (out28))) rfl ((hK1145 6 (keep_of rfl)).trans e4634) ?_)
       refine ⟨_, _, rfl, PH.Le.refl _, ?_, ?_⟩
       ·
        exact rfl
       ·
        exact I1794
      ·
       intro vs1146 f w1557 S1285 X1058 le1285 hA1058 hK1146 hI1200
       have I1795 : Inv w1557 S1285 (X1058) := hI1200
       refine opg_plain rfl rfl (op_move (v := (Value.int .i64 (x504))) rfl (hK1146 20 (keep_of rfl)) ?_)
       refine ⟨_, _, rfl, PH.Le.refl _, ?_, ?_⟩
       ·
        exact rfl
       ·
        exact I1795
      ·
       intro vs1147 f w1558 S1286 X1059 le1286 hA1059 hK1147 hI1201
       have I1796 : Inv w1558 S1286 (X1059) := hI1201
       have q1145 : f 123 = (Value.int .i64 (out28)) := vt (hA1059.at_ 0 rfl _ rfl) rfl
       have q1146 : f 124 = (Value.int .i64 (x504)) := vt (hA1059.at_ 1 rfl _ rfl) rfl
       refine opg_plain rfl rfl (op_quo (a := out28) (b := x504) rfl q1145 q1146 hx505 ?_)
       refine ⟨_, _, rfl, PH.Le.refl _, ?_, ?_⟩
       ·
        exact rfl
       ·
        exact I1796
      ·
       intro vs1148 f w1559 S1287 X1060 le1287 hA1060 hK1148 hI1202
       have I1797 : Inv w1559 S1287 (X1060) := hI1202
       refine opg_plain rfl rfl (op_move (v := (Value.int .i64 (x4.1))) rfl ((hK1148 7 (keep_of rfl)).trans e4635) ?_)
       refine ⟨_, _, rfl, PH.Le.refl _, ?_, ?_⟩
       ·
        exact rfl
       ·
        exact I1797
      ·
       intro vs1149 f w1560 S1288 X1061 le1288 hA1061 hK1149 hI1203
       have I1798 : Inv w1560 S1288 (X1061) := hI1203
       refine opg_plain rfl rfl (op_move (v := (Value.int .i64 (x504))) rfl (hK1149 20 (keep_of rfl)) ?_)
       refine ⟨_, _, rfl, PH.Le.refl _, ?_, ?_⟩
       ·
        exact rfl
       ·
        exact I1798
      ·
       intro vs1150 f w1561 S1289 X1062 le1289 hA1062 hK1150 hI1204
       have I1799 : Inv w1561 S1289 (X1062) := hI1204
       have q1147 : f 126 = (Value.int .i64 (x4.1)) := vt (hA1062.at_ 0 rfl _ rfl) rfl
       have q1148 : f 127 = (Value.int .i64 (x504)) := vt (hA1062.at_ 1 rfl _ rfl) rfl
       refine opg_plain rfl rfl (op_quo (a := x4.1) (b := x504) rfl q1147 q1148 hx506 ?_)
       refine ⟨_, _, rfl, PH.Le.refl _, ?_, ?_⟩
       ·
        exact rfl
       ·
        exact I1799
      ·
       intro vs1151 f w1562 S1290 X1063 le1290 hA1063 hK1151 hI1205
       have I1800 : Inv w1562 S1290 (X1063) := hI1205
       have q1149 : f 125 = (Value.int .i64 (x505)) := vt (hA1063.at_ 2 rfl _ rfl) rfl
       refine opg_plain rfl rfl (op_assign (v := (Value.int .i64 (x505))) rfl q1149 ?_)
       refine ⟨_, _, rfl, PH.Le.refl _, ?_, ?_⟩
       ·
        exact rfl
       ·
        exact I1800
      ·
       intro vs1152 f w1563 S1291 X1064 le1291 hA1064 hK1152 hI1206
       have I1801 : Inv w1563 S1291 (X1064) := hI1206
       have q1150 : f 128 = (Value.int .i64 (x506)) := vt (hA1064.at_ 5 rfl _ rfl) rfl
       refine opg_plain rfl rfl (op_assign (v := (Value.int .i64 (x506))) rfl q1150 ?_)
       refine ⟨_, _, rfl, PH.Le.refl _, ?_, ?_⟩
       ·
        exact rfl
       ·
        exact I1801
      ·
       intro vs1153 f w1564 S1292 X1065 le1292 hA1065 hK1153 hI1207
       have I1802 : Inv w1564 S1292 (X1065) := hI1207
       refine opg_plain rfl rfl (op_assign (v := (Value.int .i64 (0))) rfl rfl ?_)
       refine ⟨_, _, rfl, PH.Le.refl _, ?_, ?_⟩
       ·
        exact rfl
       ·
        exact I1802
      ·
       intro vs1154 f w1565 S1293 le1293 hF89 hK1154 hI1208
       have I1803 : Inv w1565 S1293 (Row (α := Int) 3 (Value.slice z33 m33 k33) (out22) :: Fr) := hI1208
       have q1151 : f 6 = (Value.int .i64 (x505)) := vt (hF89.at_ 6 rfl _ rfl) rfl
       have q1152 : f 7 = (Value.int .i64 (x506)) := vt (hF89.at_ 7 rfl _ rfl) rfl
       have q1153 : f 8 = (Value.int .i64 (0)) := vt (hF89.at_ 8 rfl _ rfl) rfl
       refine wp_ret' ?_
       obtain rfl := Option.some.inj h
       exact ⟨(Value.tuple #[(Value.int .i64 (x505)), (Value.int .i64 (x506)), (Value.int .i64 (0))]), (res3 rfl q1151 q1152 q1153), _, [], (((le1.trans le2).trans le1283).trans le1293), (I1803).drop, rfl, rfl⟩
end Go.Proofs.Ytogfongmnkmegaa.Pad
