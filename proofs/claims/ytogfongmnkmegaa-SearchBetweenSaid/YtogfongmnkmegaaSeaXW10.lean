/- A part of the proof: what the functions of the program compute, shown over the model. -/
import Derived.Test.YtogfongmnkmegaaSeaXP
import Derived.Test.YtogfongmnkmegaaSeaXW1
import Derived.Test.YtogfongmnkmegaaSeaXW3
import Derived.Test.YtogfongmnkmegaaSeaXW7
import Derived.KernelRfl
set_option linter.unusedVariables false
namespace Go.Proofs.Ytogfongmnkmegaa.Pad
open Go Go.Proofs
set_option maxHeartbeats 4000000 in
set_option maxRecDepth 100000 in
theorem F53_ok {w : World} {S : PH} {Fr : List HP} {a0 : (List Int)} {v0 : Value} {a1 : Int} {r : Int} (hI : Inv w S (Fr)) (h0_ : RV S v0 a0) (h : F53 a0 a1 = some r) :
    Calls Try.prog 53 [v0, (Value.int .i64 (a1))].toArray w (DoneV S Fr (Value.int .i64 (r))) := by
 unfold F53 at h
 obtain ⟨z1, m1, k1, e1⟩ := rv_form h0_
 subst e1
 refine calls_enter (n := 19) (vs := [(Value.slice z1 m1 k1), (Value.int .i64 (a1))]) Try.func53 rfl rfl rfl ?_
 refine wp_seq' ?_
 refine wp_region' ?_
 refine wl_op rfl (op_assign (v := (Value.int .i64 (0))) rfl rfl ?_)
 refine wl_nil ?_
 refine wp_seq' ?_
 refine wp_seq' ?_
 refine wp_region' ?_
 refine wl_op rfl (op_move (v := (Value.slice z1 m1 k1)) rfl rfl ?_)
 refine wl_op rfl (op_len_rv rfl Try.underlying26 rfl h0_ ?_)
 refine wl_op rfl (op_move (v := (Value.int .i64 (0))) rfl rfl ?_)
 refine wl_nil ?_
 have hk1 : a0.length ≤ 9223372036854775807 := (rv_len h0_)
 obtain ⟨o2, hrun1, h⟩ := bnd h
 refine wp_cutN (fun f w => ∃ out1, o2 = Sum.inl out1 ∧ Inv w S (Fr) ∧ f 0 = (Value.slice z1 m1 k1) ∧ f 1 = (Value.int .i64 (a1)) ∧ f 7 = (Value.int .i64 ((a0.length : Int)))) ?_ ?_
 ·
  refine wp_block' ?_
  refine wp_forN (I := fun (i1 : Nat) (s1 : Unit) (f : Frm) (w : World) => Inv w S (Fr) ∧ f 0 = (Value.slice z1 m1 k1) ∧ f 1 = (Value.int .i64 (a1)) ∧ f 7 = (Value.int .i64 ((a0.length : Int))) ∧ f 8 = (Value.int .i64 (i1 : Int))) hrun1 ⟨hI, rfl, rfl, rfl, rfl⟩ ?_ ?_
  ·
   rintro i1 s1 f w o1 hlt1 hI1 h1 hout1
   obtain ⟨I3, e10, e11, e12, e13⟩ := hI1
   refine wp_seq' ?_
   refine wp_region' ?_
   refine wl_op rfl (op_lss (a := (i1 : Int)) (b := (a0.length : Int)) rfl e13 e12 ?_)
   refine wl_nil ?_
   refine wp_seq' ?_
   refine wp_cond_t (b := decide ((i1 : Int) < (a0.length : Int))) rfl (len_t hlt1) ?_
   refine wp_skip' ?_
   refine wp_seq' ?_
   refine wp_block' ?_
   refine wp_seq' ?_
   refine wp_region' ?_
   refine wl_op rfl (op_move (v := (Value.int .i64 ((i1 : Int)))) rfl e13 ?_)
   refine wl_op rfl (op_assign (v := (Value.int .i64 ((i1 : Int)))) rfl rfl ?_)
   refine wl_nil ?_
   refine wp_seq' ?_
   refine wp_region' ?_
   refine wl_op rfl (op_move (v := (Value.int .i64 (a1))) rfl e11 ?_)
   refine wl_op rfl (op_move (v := (Value.slice z1 m1 k1)) rfl e10 ?_)
   refine wl_op rfl (op_move (v := (Value.int .i64 ((i1 : Int)))) rfl rfl ?_)
   obtain ⟨x3, hx3, h1⟩ := bnd h1
   refine wl_op rfl (op_indexAddr_rv (v := (Value.slice z1 m1 k1)) (i := (i1 : Int)) (e := x3) rfl Try.underlying26 sh3 rfl h0_ rfl hx3 ?_)
   refine wl_op rfl (op_load_int (v := (elemPtr (Value.slice z1 m1 k1) ((i1 : Int)) (Enc.sz Int))) (e := x3) rfl sh3 rfl (h0_.elem I3.in_ hx3) ?_)
   refine wl_op rfl (op_eql (a := a1) (b := x3) rfl rfl rfl ?_)
   refine wl_nil ?_
   rcases ifs h1 with ⟨hc3, h1⟩ | ⟨hc3, h1⟩
   ·
    refine wp_cond_t (b := a1 == x3) rfl hc3 ?_
    refine wp_seq' ?_
    refine wp_region' ?_
    refine wl_op rfl (op_move (v := (Value.int .i64 ((i1 : Int)))) rfl rfl ?_)
    refine wl_op rfl (op_assign (v := (Value.int .i64 ((i1 : Int)))) rfl rfl ?_)
    refine wl_nil ?_
    refine wp_ret' ?_
    obtain rfl := Option.some.inj h1
    obtain rfl := (hout1 _ rfl)
    have h2 := h
    obtain rfl := Option.some.inj h2
    exact ⟨(Value.int .i64 ((i1 : Int))), (res1 rfl rfl), _, [], (PH.Le.refl _), I3, rfl, rfl⟩
   ·
    refine wp_cond_f (b := a1 == x3) rfl hc3 ?_
    refine wp_skip' ?_
    refine wp_region' ?_
    refine wl_op rfl (op_add (a := (i1 : Int)) (b := 1) rfl e13 rfl ?_)
    refine wl_op rfl (op_move (v := (Value.int .i64 (w64 ((i1 : Int) + 1)))) rfl rfl ?_)
    refine wl_nil ?_
    obtain rfl := Option.some.inj h1
    exact ⟨_, rfl, I3, e10, e11, e12, (idx_next hlt1 hk1)⟩
  ·
   rintro s2 f w hs1 hI2
   obtain ⟨I4, e14, e15, e16, e17⟩ := hI2
   refine wp_seq' ?_
   refine wp_region' ?_
   refine wl_op rfl (op_lss (a := (a0.length : Int)) (b := (a0.length : Int)) rfl e17 e16 ?_)
   refine wl_nil ?_
   refine wp_seq' ?_
   refine wp_cond_f (b := decide ((a0.length : Int) < (a0.length : Int))) rfl (len_f _) ?_
   refine wp_exit' ?_
   exact ⟨s2, hs1, I4, e14, e15, e16⟩
 ·
  rintro f w ⟨out1, rfl, I5, e18, e19, e20⟩
  have h := onL_inl h
  refine wp_seq' ?_
  refine wp_region' ?_
  refine wl_op rfl (op_assign (v := (Value.int .i64 ((-1)))) rfl rfl ?_)
  refine wl_nil ?_
  refine wp_ret' ?_
  obtain rfl := Option.some.inj h
  exact ⟨(Value.int .i64 ((-1))), (res1 rfl rfl), _, [], (PH.Le.refl _), I5, rfl, rfl⟩

set_option maxHeartbeats 4000000 in
set_option maxRecDepth 100000 in
theorem F27_ok {w : World} {S : PH} {Fr : List HP} {a0 : Graph} {v0 : Value} {a1 : (List Int)} {v1 : Value} {a2 : Int} {a3 : Int} {r : Int × Int × Int} (hI : Inv w S (Fr)) (h0_ : RV S v0 a0) (h1_ : RV S v1 a1) (h : F27 a0 a1 a2 a3 = some r) :
    Calls Try.prog 27 [v0, v1, (Value.int .i64 (a2)), (Value.int .i64 (a3))].toArray w (DoneV S Fr (Value.tuple #[(Value.int .i64 (r.1)), (Value.int .i64 (r.2.1)), (Value.int .i64 (r.2.2))])) := by
 unfold F27 at h
 obtain ⟨c1, c2, e1, r1, r2⟩ := Graph.inv h0_
 subst e1
 obtain ⟨z1, m1, k1, e2⟩ := rv_form r1
 subst e2
 obtain ⟨z2, m2, k2, e3⟩ := rv_form r2
 subst e3
 obtain ⟨z3, m3, k3, e4⟩ := rv_form h1_
 subst e4
 refine calls_enter (n := 41) (vs := [(Value.agg #[(Value.slice z1 m1 k1), (Value.slice z2 m2 k2)]), (Value.slice z3 m3 k3), (Value.int .i64 (a2)), (Value.int .i64 (a3))]) Try.func27 rfl rfl rfl ?_
 refine wp_seq' ?_
 refine wp_region' ?_
 refine wl_op rfl (op_box (v := (Value.agg #[(Value.slice z1 m1 k1), (Value.slice z2 m2 k2)])) rfl hI rfl (fun g1 w1 I1 => ?_))
 obtain ⟨S1, le1, I2, p1⟩ := Inv.boxFreeze (x := a0) I1 (Graph.rv (s := a0) r1 r2)
 refine wl_op rfl (op_assign (v := (Value.int .i64 (0))) rfl rfl ?_)
 refine wl_op rfl (op_assign (v := (Value.int .i64 (0))) rfl rfl ?_)
 refine wl_op rfl (op_assign (v := (Value.int .i64 (0))) rfl rfl ?_)
 refine wl_nil ?_
 refine wp_seq' ?_
 refine wp_region' ?_
 refine wl_op rfl (op_load (v := (Value.pointer (some ⟨g1, 0, none⟩))) (e := a0) rfl sh25 rfl (p1.at_ I2) (fun u1 hu1 => ?_))
 obtain ⟨c3, c4, e5, r3, r4⟩ := Graph.inv hu1
 subst e5
 obtain ⟨z4, m4, k4, e6⟩ := rv_form r3
 subst e6
 obtain ⟨z5, m5, k5, e7⟩ := rv_form r4
 subst e7
 refine wl_op rfl (op_move (v := (Value.slice z3 m3 k3)) rfl rfl ?_)
 refine wl_op rfl (op_move (v := (Value.int .i64 (a2))) rfl rfl ?_)
 refine wl_op rfl (op_build (qs := [(0, #[(Value.int .i64 (a2))])]) (c := #[(Value.int .i64 (a2)), (Value.int .i64 (0))]) rfl st28 ⟨rfl, rfl, trivial⟩ rfl ?_)
 refine wl_op rfl (op_move (v := (Value.int .i64 (a3))) rfl rfl ?_)
 obtain ⟨x1, hx1, h⟩ := bnd h
 refine wl_op rfl (op_call (vs := [(Value.agg #[(Value.slice z4 m4 k4), (Value.slice z5 m5 k5)]), (Value.slice z3 m3 k3), (Value.agg #[(Value.int .i64 (a2)), (Value.int .i64 (0))]), (Value.int .i64 (a3))]) rfl ca45 rfl (args4 rfl rfl rfl rfl) (F45_ok I2 (Graph.rv (s := a0) r3 r4) (h1_.mono le1) (Mind.rv (s := (⟨a2, 0⟩ : Mind))) hx1) (fun v1 w2 S2 O1 le2 I3 hv1 => ?_))
 obtain ⟨c5, rfl, rfl, r5⟩ := hv1
 obtain ⟨c6, c7, e8, r6, r7⟩ := Search_view.inv r5
 subst e8
 obtain ⟨z6, m6, k6, e9⟩ := rv_form r6
 subst e9
 obtain ⟨z7, m7, k7, e10⟩ := rv_form r7
 subst e10
 refine wl_op rfl (op_move (v := (Value.tuple #[(Value.agg #[(Value.slice z6 m6 k6), (Value.slice z7 m7 k7)]), (Value.int .i64 (x1.2))])) rfl rfl ?_)
 refine wl_op rfl (op_extract (v := (Value.agg #[(Value.slice z6 m6 k6), (Value.slice z7 m7 k7)])) rfl rfl rfl ?_)
 refine wl_op rfl (op_extract (v := (Value.int .i64 (x1.2))) rfl rfl rfl ?_)
 refine wl_op rfl (op_alloc (z := (Value.agg #[(Value.slice none 0 0), (Value.slice none 0 0)])) rfl I3 zo64 (fun g2 w3 (I4 : Inv w3 S2 (Cells g2 64 #[(Value.slice none 0 0), (Value.slice none 0 0)] :: Fr)) => ?_))
 refine wl_op rfl (op_store (v := (Value.agg #[(Value.slice z6 m6 k6), (Value.slice z7 m7 k7)])) (cs := #[(Value.slice none 0 0), (Value.slice none 0 0)]) sh64 I4 rfl rfl rfl (Nat.le_of_ble_eq_true rfl) rfl (fun w4 (I5 : Inv w4 S2 (Cells g2 64 #[(Value.slice z6 m6 k6), (Value.slice z7 m7 k7)] :: Fr)) => ?_))
 refine wl_op rfl (op_assign (v := (Value.int .i64 (x1.2))) rfl rfl ?_)
 refine wl_nil ?_
 refine wp_seq' ?_
 refine wp_seq' ?_
 refine wp_region' ?_
 refine wl_op rfl (op_move (v := (Value.int .i64 (x1.2))) rfl rfl ?_)
 refine wl_op rfl (op_neq (a := x1.2) (b := 0) rfl rfl rfl ?_)
 refine wl_nil ?_
 rcases ifs h with ⟨hc1, h⟩ | ⟨hc1, h⟩
 ·
  refine wp_cond_t (b := x1.2 != 0) rfl hc1 ?_
  refine wp_seq' ?_
  refine wp_region' ?_
  refine wl_op rfl (op_move (v := (Value.int .i64 (x1.2))) rfl rfl ?_)
  refine wl_op rfl (op_assign (v := (Value.int .i64 (0))) rfl rfl ?_)
  refine wl_op rfl (op_assign (v := (Value.int .i64 (0))) rfl rfl ?_)
  refine wl_op rfl (op_assign (v := (Value.int .i64 (x1.2))) rfl rfl ?_)
  refine wl_nil ?_
  refine wp_ret' ?_
  obtain rfl := Option.some.inj h
  exact ⟨(Value.tuple #[(Value.int .i64 (0)), (Value.int .i64 (0)), (Value.int .i64 (x1.2))]), (res3 rfl rfl rfl rfl), _, [], (le1.trans le2), (I5).drop, rfl, rfl⟩
 ·
  refine wp_cond_f (b := x1.2 != 0) rfl hc1 ?_
  refine wp_skip' ?_
  refine wp_seq' ?_
  refine wp_region' ?_
  refine wl_op rfl (op_loadN (l := [(Value.slice z6 m6 k6), (Value.slice z7 m7 k7)]) rfl sh64 (I5.nth 0 rfl) rfl rfl rfl ?_)
  refine wl_op rfl (op_move (v := (Value.int .i64 (a2))) rfl rfl ?_)
  refine wl_op rfl (op_move (v := (Value.int .i64 (a3))) rfl rfl ?_)
  obtain ⟨x2, hx2, h⟩ := bnd h
  refine wl_op rfl (op_call (vs := [(Value.agg #[(Value.slice z6 m6 k6), (Value.slice z7 m7 k7)]), (Value.int .i64 (a2)), (Value.int .i64 (a3))]) rfl ca50 rfl (args3 rfl rfl rfl) (F50_ok I5 (Search_view.rv (s := x1.1) r6 r7) hx2) (fun v2 w5 S3 O2 le3 I6 hv2 => ?_))
  obtain ⟨z8, m8, k8, rfl, rfl⟩ := hv2
  refine wl_op rfl (op_move (v := (Value.tuple #[(Value.slice z8 m8 k8), (Value.bool (x2.2))])) rfl rfl ?_)
  refine wl_op rfl (op_extract (v := (Value.slice z8 m8 k8)) rfl rfl rfl ?_)
  refine wl_op rfl (op_extract (v := (Value.bool (x2.2))) rfl rfl rfl ?_)
  refine wl_op rfl (op_assign (v := (Value.slice z8 m8 k8)) rfl rfl ?_)
  refine wl_op rfl (op_assign (v := (Value.bool (x2.2))) rfl rfl ?_)
  refine wl_nil ?_
  refine wp_seq' ?_
  refine wp_seq' ?_
  refine wp_region' ?_
  refine wl_op rfl (op_move (v := (Value.bool (x2.2))) rfl rfl ?_)
  refine wl_op rfl (op_not (b := x2.2) rfl rfl ?_)
  refine wl_nil ?_
  rcases ifs h with ⟨hc2, h⟩ | ⟨hc2, h⟩
  ·
   refine wp_cond_t (b := !x2.2) rfl hc2 ?_
   refine wp_seq' ?_
   refine wp_region' ?_
   refine wl_op rfl (op_assign (v := (Value.int .i64 (0))) rfl rfl ?_)
   refine wl_op rfl (op_assign (v := (Value.int .i64 (0))) rfl rfl ?_)
   refine wl_op rfl (op_assign (v := (Value.int .i64 (3))) rfl rfl ?_)
   refine wl_nil ?_
   refine wp_ret' ?_
   obtain rfl := Option.some.inj h
   exact ⟨(Value.tuple #[(Value.int .i64 (0)), (Value.int .i64 (0)), (Value.int .i64 (3))]), (res3 rfl rfl rfl rfl), _, [], ((le1.trans le2).trans le3), ((I6).drop).drop, rfl, rfl⟩
  ·
   refine wp_cond_f (b := !x2.2) rfl hc2 ?_
   refine wp_skip' ?_
   refine wp_seq' ?_
   refine wp_region' ?_
   refine wl_op rfl (op_move (v := (Value.slice z8 m8 k8)) rfl rfl ?_)
   obtain ⟨x3, hx3, h⟩ := bnd h
   obtain ⟨S4, Fr1, le4, I7, r8, bk1⟩ := Inv.lend1 I6
   refine wl_op rfl (op_call (vs := [(Value.slice z8 m8 k8)]) rfl ca52 rfl (args1 rfl) (F52_ok I7 r8 hx3) (fun v3 w6 S5 O3 le5 I9 hv3 => ?_))
   obtain ⟨rfl, rfl⟩ := hv3
   have I8 := bk1 [] trivial I9 le5
   refine wl_op rfl (op_assign (v := (Value.int .i64 (x3))) rfl rfl ?_)
   refine wl_nil ?_
   refine wp_seq' ?_
   refine wp_region' ?_
   refine wl_op rfl (op_move (v := (Value.int .i64 (x3))) rfl rfl ?_)
   refine wl_op rfl (op_move (v := (Value.slice z8 m8 k8)) rfl rfl ?_)
   refine wl_op rfl (op_move (v := (Value.int .i64 (x3))) rfl rfl ?_)
   obtain ⟨x4, hx4, h⟩ := bnd h
   obtain ⟨S6, Fr2, le6, I10, r9, bk2⟩ := Inv.lend1 I8
   refine wl_op rfl (op_call (vs := [(Value.slice z8 m8 k8), (Value.int .i64 (x3))]) rfl ca53 rfl (args2 rfl rfl) (F53_ok I10 r9 hx4) (fun v4 w7 S7 O4 le7 I12 hv4 => ?_))
   obtain ⟨rfl, rfl⟩ := hv4
   have I11 := bk2 [] trivial I12 le7
   refine wl_op rfl (op_assign (v := (Value.int .i64 (x3))) rfl rfl ?_)
   refine wl_op rfl (op_assign (v := (Value.int .i64 (x4))) rfl rfl ?_)
   refine wl_op rfl (op_assign (v := (Value.int .i64 (0))) rfl rfl ?_)
   refine wl_nil ?_
   refine wp_ret' ?_
   obtain rfl := Option.some.inj h
   exact ⟨(Value.tuple #[(Value.int .i64 (x3)), (Value.int .i64 (x4)), (Value.int .i64 (0))]), (res3 rfl rfl rfl rfl), _, [], ((le1.trans le2).trans le3), ((I11).drop).drop, rfl, rfl⟩
end Go.Proofs.Ytogfongmnkmegaa.Pad
