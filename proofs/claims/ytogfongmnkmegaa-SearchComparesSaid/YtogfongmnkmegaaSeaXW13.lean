/- A part of the proof: what the functions of the program compute, shown over the model. -/
import Derived.Test.YtogfongmnkmegaaSeaXP
import Derived.Test.YtogfongmnkmegaaSeaXW8
import Derived.Test.YtogfongmnkmegaaSeaXW9
import Derived.Test.YtogfongmnkmegaaSeaXW11
import Derived.KernelRfl
set_option linter.unusedVariables false
namespace Go.Proofs.Ytogfongmnkmegaa.Pad
open Go Go.Proofs
set_option maxHeartbeats 4000000 in
set_option maxRecDepth 100000 in
theorem F30_ok {w : World} {S : PH} {Fr : List HP} {a0 : Graph} {v0 : Value} {a1 : (List Int)} {v1 : Value} {a2 : Int} {a3 : Int} {r : Int × Int × Int} (hI : Inv w S (Fr)) (h0_ : RV S v0 a0) (h1_ : RV S v1 a1) (h : F30 a0 a1 a2 a3 = some r) :
    Calls Try.prog 30 [v0, v1, (Value.int .i64 (a2)), (Value.int .i64 (a3))].toArray w (DoneV S Fr (Value.tuple #[(Value.int .i64 (r.1)), (Value.int .i64 (r.2.1)), (Value.int .i64 (r.2.2))])) := by
 unfold F30 at h
 obtain ⟨c1, c2, e1, r1, r2⟩ := Graph.inv h0_
 subst e1
 obtain ⟨z1, m1, k1, e2⟩ := rv_form r1
 subst e2
 obtain ⟨z2, m2, k2, e3⟩ := rv_form r2
 subst e3
 obtain ⟨z3, m3, k3, e4⟩ := rv_form h1_
 subst e4
 refine calls_enter (n := 59) (vs := [(Value.agg #[(Value.slice z1 m1 k1), (Value.slice z2 m2 k2)]), (Value.slice z3 m3 k3), (Value.int .i64 (a2)), (Value.int .i64 (a3))]) Try.func30 rfl rfl rfl ?_
 refine wp_seq' ?_
 refine wp_region' ?_
 refine wl_op rfl (op_box (v := (Value.agg #[(Value.slice z1 m1 k1), (Value.slice z2 m2 k2)])) rfl hI rfl (fun g1 w1 I1 => ?_))
 obtain ⟨S1, le1, I2, p1⟩ := Inv.boxFreeze (x := a0) I1 (Graph.rv (s := a0) r1 r2)
 refine wl_op rfl (op_assign (v := (Value.int .i64 (0))) rfl rfl ?_)
 refine wl_op rfl (op_assign (v := (Value.int .i64 (0))) rfl rfl ?_)
 refine wl_op rfl (op_assign (v := (Value.int .i64 (0))) rfl rfl ?_)
 refine wl_nil ?_
 refine wp_seq' ?_
 refine wp_seq' ?_
 refine wp_region' ?_
 refine wl_op rfl (op_load (v := (Value.pointer (some ⟨g1, 0, none⟩))) (e := a0) rfl sh25 rfl (p1.at_ I2) (fun u1 hu1 => ?_))
 obtain ⟨c3, c4, e5, r3, r4⟩ := Graph.inv hu1
 subst e5
 obtain ⟨z4, m4, k4, e6⟩ := rv_form r3
 subst e6
 obtain ⟨z5, m5, k5, e7⟩ := rv_form r4
 subst e7
 refine wl_op rfl (op_move (v := (Value.slice z3 m3 k3)) rfl rfl ?_)
 refine wl_op rfl (op_move (v := (Value.int .i64 (a2))) rfl rfl ?_)
 refine wl_op rfl (op_build (qs := [(0, #[(Value.int .i64 (a2))])]) (c := #[(Value.int .i64 (a2)), (Value.int .i64 (0))]) rfl st28 ⟨rfl, rfl, trivial⟩ rfl ?_)
 refine wl_op rfl (op_move (v := (Value.int .i64 (a3))) rfl rfl ?_)
 obtain ⟨x1, hx1, h⟩ := bnd h
 refine wl_op rfl (op_call_v (vs := [(Value.agg #[(Value.slice z4 m4 k4), (Value.slice z5 m5 k5)]), (Value.slice z3 m3 k3), (Value.agg #[(Value.int .i64 (a2)), (Value.int .i64 (0))]), (Value.int .i64 (a3))]) (r := (Value.int .i64 (x1))) rfl ca47 rfl (args4 rfl rfl rfl rfl) I2 (fun Fr_ hF_ => F47_ok hF_ (Graph.rv (s := a0) r3 r4) (h1_.mono le1) (Mind.rv (s := (⟨a2, 0⟩ : Mind))) hx1) (fun w2 I3 => ?_))
 refine wl_op rfl (op_assign (v := (Value.int .i64 (x1))) rfl rfl ?_)
 refine wl_nil ?_
 refine wp_seq' ?_
 refine wp_region' ?_
 refine wl_op rfl (op_move (v := (Value.int .i64 (x1))) rfl rfl ?_)
 refine wl_op rfl (op_neq (a := x1) (b := 0) rfl rfl rfl ?_)
 refine wl_nil ?_
 rcases ifs h with ⟨hc1, h⟩ | ⟨hc1, h⟩
 ·
  refine wp_cond_t (b := x1 != 0) rfl hc1 ?_
  refine wp_seq' ?_
  refine wp_region' ?_
  refine wl_op rfl (op_move (v := (Value.int .i64 (x1))) rfl rfl ?_)
  refine wl_op rfl (op_assign (v := (Value.int .i64 (0))) rfl rfl ?_)
  refine wl_op rfl (op_assign (v := (Value.int .i64 (0))) rfl rfl ?_)
  refine wl_op rfl (op_assign (v := (Value.int .i64 (x1))) rfl rfl ?_)
  refine wl_nil ?_
  refine wp_ret' ?_
  obtain rfl := Option.some.inj h
  exact ⟨(Value.tuple #[(Value.int .i64 (0)), (Value.int .i64 (0)), (Value.int .i64 (x1))]), (res3 rfl rfl rfl rfl), _, [], le1, I3, rfl, rfl⟩
 ·
  refine wp_cond_f (b := x1 != 0) rfl hc1 ?_
  refine wp_skip' ?_
  refine wp_seq' ?_
  refine wp_region' ?_
  refine wl_op rfl (op_load (v := (Value.pointer (some ⟨g1, 0, none⟩))) (e := a0) rfl sh25 rfl (p1.at_ I3) (fun u2 hu2 => ?_))
  obtain ⟨c5, c6, e8, r5, r6⟩ := Graph.inv hu2
  subst e8
  obtain ⟨z6, m6, k6, e9⟩ := rv_form r5
  subst e9
  obtain ⟨z7, m7, k7, e10⟩ := rv_form r6
  subst e10
  refine wl_op rfl (op_move (v := (Value.slice z3 m3 k3)) rfl rfl ?_)
  refine wl_op rfl (op_move (v := (Value.int .i64 (a2))) rfl rfl ?_)
  refine wl_op rfl (op_move (v := (Value.int .i64 (a3))) rfl rfl ?_)
  obtain ⟨x2, hx2, h⟩ := bnd h
  refine wl_op rfl (op_call (vs := [(Value.agg #[(Value.slice z6 m6 k6), (Value.slice z7 m7 k7)]), (Value.slice z3 m3 k3), (Value.int .i64 (a2)), (Value.int .i64 (a3))]) rfl ca51 rfl (args4 rfl rfl rfl rfl) (F51_ok I3 (Graph.rv (s := a0) r5 r6) (h1_.mono le1) hx2) (fun v1 w3 S2 O1 le2 I4 hv1 => ?_))
  obtain ⟨z8, m8, k8, rfl, rfl⟩ := hv1
  refine wl_op rfl (op_move (v := (Value.tuple #[(Value.slice z8 m8 k8), (Value.bool (x2.2))])) rfl rfl ?_)
  refine wl_op rfl (op_extract (v := (Value.slice z8 m8 k8)) rfl rfl rfl ?_)
  refine wl_op rfl (op_extract (v := (Value.bool (x2.2))) rfl rfl rfl ?_)
  refine wl_op rfl (op_assign (v := (Value.slice z8 m8 k8)) rfl rfl ?_)
  refine wl_op rfl (op_assign (v := (Value.bool (x2.2))) rfl rfl ?_)
  refine wl_nil ?_
  refine wp_seq' ?_
  refine wp_seq' ?_
  refine wp_region' ?_
  refine wl_op rfl (op_move (v := (Value.bool (x2.2))) rfl rfl ?_)
  refine wl_op rfl (op_not (b := x2.2) rfl rfl ?_)
  refine wl_nil ?_
  rcases ifs h with ⟨hc2, h⟩ | ⟨hc2, h⟩
  ·
   refine wp_cond_t (b := !x2.2) rfl hc2 ?_
   refine wp_seq' ?_
   refine wp_region' ?_
   refine wl_op rfl (op_assign (v := (Value.int .i64 (0))) rfl rfl ?_)
   refine wl_op rfl (op_assign (v := (Value.int .i64 (0))) rfl rfl ?_)
   refine wl_op rfl (op_assign (v := (Value.int .i64 (3))) rfl rfl ?_)
   refine wl_nil ?_
   refine wp_ret' ?_
   obtain rfl := Option.some.inj h
   exact ⟨(Value.tuple #[(Value.int .i64 (0)), (Value.int .i64 (0)), (Value.int .i64 (3))]), (res3 rfl rfl rfl rfl), _, [], (le1.trans le2), (I4).drop, rfl, rfl⟩
  ·
   refine wp_cond_f (b := !x2.2) rfl hc2 ?_
   refine wp_skip' ?_
   refine wp_seq' ?_
   refine wp_region' ?_
   refine wl_op rfl (op_assign (v := (Value.int .i64 (0))) rfl rfl ?_)
   refine wl_nil ?_
   refine wp_seq' ?_
   refine wp_seq' ?_
   refine wp_region' ?_
   refine wl_op rfl (op_assign (v := (Value.int .i64 (0))) rfl rfl ?_)
   refine wl_nil ?_
   have hk1 : x2.1.length ≤ 9223372036854775807 := (row_len (I4.nth 0 rfl))
   obtain ⟨out1, hrun1, h⟩ := bnd h
   refine wp_cutN (fun f w => Inv w S2 (Row (α := Int) 3 (Value.slice z8 m8 k8) (x2.1) :: Fr) ∧ f 12 = (Value.slice z8 m8 k8) ∧ f 14 = (Value.int .i64 (out1))) ?_ ?_
   ·
    refine wp_block' ?_
    refine wp_forS (I := fun (i1 : Nat) (s1 : (Int)) (f : Frm) (w : World) => Inv w S2 (Row (α := Int) 3 (Value.slice z8 m8 k8) (x2.1) :: Fr) ∧ f 12 = (Value.slice z8 m8 k8) ∧ f 14 = (Value.int .i64 (s1)) ∧ f 15 = (Value.int .i64 (i1 : Int))) hrun1 ⟨I4, rfl, rfl, rfl⟩ ?_ ?_
    ·
     rintro i1 s1 f w o1 hlt1 hI1 h1
     obtain ⟨I8, e20, e21, e22⟩ := hI1
     refine wp_seq' ?_
     refine wp_seq' ?_
     refine wp_region' ?_
     refine wl_op rfl (op_move (v := (Value.int .i64 ((i1 : Int)))) rfl e22 ?_)
     refine wl_op rfl (op_move (v := (Value.slice z8 m8 k8)) rfl e20 ?_)
     refine wl_op rfl (op_len_row (α := Int) rfl Try.underlying26 rfl (I8.nth 0 rfl) ?_)
     refine wl_op rfl (op_lss (a := (i1 : Int)) (b := (x2.1.length : Int)) rfl rfl rfl ?_)
     refine wl_nil ?_
     refine wp_cond_t (b := decide ((i1 : Int) < (x2.1.length : Int))) rfl (len_t hlt1) ?_
     refine wp_skip' ?_
     refine wp_seq' ?_
     refine wp_block' ?_
     refine wp_region' ?_
     refine wl_op rfl (op_move (v := (Value.int .i64 (s1))) rfl e21 ?_)
     refine wl_op rfl (op_move (v := (Value.slice z8 m8 k8)) rfl e20 ?_)
     refine wl_op rfl (op_move (v := (Value.int .i64 ((i1 : Int)))) rfl e22 ?_)
     obtain ⟨x6, hx6, h1⟩ := bnd h1
     refine wl_op rfl (op_indexAddr_src (v := (Value.slice z8 m8 k8)) (i := (i1 : Int)) (e := x6) rfl Try.underlying26 sh3 rfl (Inv.rowSrc (I8.nth 0 rfl)) rfl hx6 ?_)
     refine wl_op rfl (op_load_int (v := (elemPtr (Value.slice z8 m8 k8) ((i1 : Int)) (Enc.sz Int))) (e := x6) rfl sh3 rfl ((I8.nth 0 rfl).rowElem hx6) ?_)
     refine wl_op rfl (op_add (a := s1) (b := x6) rfl rfl rfl ?_)
     refine wl_op rfl (op_assign (v := (Value.int .i64 (w64 (s1 + x6)))) rfl rfl ?_)
     refine wl_nil ?_
     refine wp_region' ?_
     refine wl_op rfl (op_move (v := (Value.int .i64 ((i1 : Int)))) rfl e22 ?_)
     refine wl_op rfl (op_add (a := (i1 : Int)) (b := 1) rfl rfl rfl ?_)
     refine wl_op rfl (op_assign (v := (Value.int .i64 (w64 ((i1 : Int) + 1)))) rfl rfl ?_)
     refine wl_nil ?_
     obtain rfl := Option.some.inj h1
     exact ⟨I8, e20, rfl, (idx_next hlt1 hk1)⟩
    ·
     rintro f w hI2
     obtain ⟨I9, e23, e24, e25⟩ := hI2
     refine wp_seq' ?_
     refine wp_seq' ?_
     refine wp_region' ?_
     refine wl_op rfl (op_move (v := (Value.int .i64 ((x2.1.length : Int)))) rfl e25 ?_)
     refine wl_op rfl (op_move (v := (Value.slice z8 m8 k8)) rfl e23 ?_)
     refine wl_op rfl (op_len_row (α := Int) rfl Try.underlying26 rfl (I9.nth 0 rfl) ?_)
     refine wl_op rfl (op_lss (a := (x2.1.length : Int)) (b := (x2.1.length : Int)) rfl rfl rfl ?_)
     refine wl_nil ?_
     refine wp_cond_f (b := decide ((x2.1.length : Int) < (x2.1.length : Int))) rfl (len_f _) ?_
     refine wp_exit' ?_
     exact ⟨I9, e23, e24⟩
   ·
    rintro f w ⟨I10, e26, e27⟩
    refine wp_seq' ?_
    refine wp_region' ?_
    refine wl_op rfl (op_move (v := (Value.slice z8 m8 k8)) rfl e26 ?_)
    refine wl_op rfl (op_len_row (α := Int) rfl Try.underlying26 rfl (I10.nth 0 rfl) ?_)
    refine wl_op rfl (op_move (v := (Value.int .i64 (out1))) rfl e27 ?_)
    obtain ⟨x7, hx7, h⟩ := bnd h
    refine wl_op rfl (op_call_v (vs := [(Value.int .i64 ((x2.1.length : Int))), (Value.int .i64 (out1))]) (r := (Value.int .i64 (x7))) rfl ca55 rfl (args2 rfl rfl) I10 (fun Fr_ hF_ => F55_ok hF_  hx7) (fun w4 I11 => ?_))
    refine wl_op rfl (op_assign (v := (Value.int .i64 (x7))) rfl rfl ?_)
    refine wl_nil ?_
    refine wp_seq' ?_
    obtain ⟨x8, hx8, h⟩ := bnd h
    obtain ⟨x9, hx9, h⟩ := bnd h
    refine wp_draw (sps := [⟨some 52, [], [0], fun vs_ T_ => fr0 vs_ 0 = (Value.int .i64 (out1)), [], [], [], fun _ h_ => h_⟩, ⟨some 53, [], [1], fun vs_ T_ => fr0 vs_ 0 = (Value.int .i64 (x7)), [], [], [], fun _ h_ => h_⟩, ⟨some 54, [0, 1], [2], fun vs_ T_ => fr0 vs_ 0 = (Value.int .i64 (x8)), [], [], [], fun _ h_ => h_⟩, ⟨some 55, [], [3], fun vs_ T_ => fr0 vs_ 0 = (Value.slice z8 m8 k8), [], [], [], fun _ h_ => h_⟩, ⟨some 56, [3], [4], fun vs_ T_ => fr0 vs_ 0 = (Value.int .i64 ((x2.1.length : Int))), [0], [], [], fun _ h_ => h_⟩, ⟨some 57, [], [5], fun vs_ T_ => fr0 vs_ 0 = (Value.int .i64 (x7)), [], [], [], fun _ h_ => h_⟩, ⟨some 58, [3, 4, 5], [6], fun vs_ T_ => fr0 vs_ 0 = (Value.int .i64 (x9)), [], [], [], fun _ h_ => h_⟩, ⟨some 8, [0, 1, 2], [7], fun vs_ T_ => fr0 vs_ 0 = (Value.int .i64 (x8)), [], [], [], fun _ h_ => h_⟩, ⟨some 9, [0, 1, 2, 3, 4, 5, 6, 7], [8], fun vs_ T_ => fr0 vs_ 0 = (Value.int .i64 (x9)), [], [], [], fun _ h_ => h_⟩, ⟨some 10, [0, 1, 2, 3, 4, 5, 6, 7, 8], [9], fun vs_ T_ => fr0 vs_ 0 = (Value.int .i64 (0)), [], [], [], fun _ h_ => h_⟩]) (tks := [⟨none, none, [], fun vs_ => Row (α := Int) 3 (Value.slice z8 m8 k8) (x2.1)⟩]) (O := Fr) rfl (by kernel_rfl) I11 ⟨?_, ?_, ?_, ?_, ?_, ?_, ?_, ?_, ?_, ?_, trivial⟩ ?_
    ·
     intro vs1 f w5 S3 X1 le3 hA1 hK1 hI3
     have I12 : Inv w5 S3 (X1) := hI3
     refine opg_plain rfl rfl (op_move (v := (Value.int .i64 (out1))) rfl ((hK1 14 (keep_of rfl)).trans e27) ?_)
     refine ⟨_, _, rfl, PH.Le.refl _, ?_, ?_⟩
     ·
      exact rfl
     ·
      exact I12
    ·
     intro vs2 f w6 S4 X2 le4 hA2 hK2 hI4
     have I13 : Inv w6 S4 (X2) := hI4
     refine opg_plain rfl rfl (op_move (v := (Value.int .i64 (x7))) rfl (hK2 16 (keep_of rfl)) ?_)
     refine ⟨_, _, rfl, PH.Le.refl _, ?_, ?_⟩
     ·
      exact rfl
     ·
      exact I13
    ·
     intro vs3 f w7 S5 X3 le5 hA3 hK3 hI5
     have I14 : Inv w7 S5 (X3) := hI5
     have q1 : f 52 = (Value.int .i64 (out1)) := vt (hA3.at_ 0 rfl _ rfl) rfl
     have q2 : f 53 = (Value.int .i64 (x7)) := vt (hA3.at_ 1 rfl _ rfl) rfl
     refine opg_plain rfl rfl (op_quo (a := out1) (b := x7) rfl q1 q2 hx8 ?_)
     refine ⟨_, _, rfl, PH.Le.refl _, ?_, ?_⟩
     ·
      exact rfl
     ·
      exact I14
    ·
     intro vs4 f w8 S6 X4 le6 hA4 hK4 hI6
     have I15 : Inv w8 S6 (X4) := hI6
     refine opg_plain rfl rfl (op_move (v := (Value.slice z8 m8 k8)) rfl ((hK4 12 (keep_of rfl)).trans e26) ?_)
     refine ⟨_, _, rfl, PH.Le.refl _, ?_, ?_⟩
     ·
      exact rfl
     ·
      exact I15
    ·
     intro vs5 f w9 S7 X5 le7 hA5 hK5 hI7
     have I16 : Inv w9 S7 (Row (α := Int) 3 (Value.slice z8 m8 k8) (x2.1) :: X5) := hI7
     have q3 : f 55 = (Value.slice z8 m8 k8) := vt (hA5.at_ 0 rfl _ rfl) rfl
     refine opg_plain rfl rfl (op_len_row (α := Int) rfl Try.underlying26 q3 (I16.nth 0 rfl) ?_)
     refine ⟨_, _, rfl, PH.Le.refl _, ?_, ?_⟩
     ·
      exact rfl
     ·
      exact I16
    ·
     intro vs6 f w10 S8 X6 le8 hA6 hK6 hI8
     have I17 : Inv w10 S8 (X6) := hI8
     refine opg_plain rfl rfl (op_move (v := (Value.int .i64 (x7))) rfl (hK6 16 (keep_of rfl)) ?_)
     refine ⟨_, _, rfl, PH.Le.refl _, ?_, ?_⟩
     ·
      exact rfl
     ·
      exact I17
    ·
     intro vs7 f w11 S9 X7 le9 hA7 hK7 hI9
     have I18 : Inv w11 S9 (X7) := hI9
     have q4 : f 56 = (Value.int .i64 ((x2.1.length : Int))) := vt (hA7.at_ 1 rfl _ rfl) rfl
     have q5 : f 57 = (Value.int .i64 (x7)) := vt (hA7.at_ 2 rfl _ rfl) rfl
     refine opg_plain rfl rfl (op_quo (a := (x2.1.length : Int)) (b := x7) rfl q4 q5 hx9 ?_)
     refine ⟨_, _, rfl, PH.Le.refl _, ?_, ?_⟩
     ·
      exact rfl
     ·
      exact I18
    ·
     intro vs8 f w12 S10 X8 le10 hA8 hK8 hI10
     have I19 : Inv w12 S10 (X8) := hI10
     have q6 : f 54 = (Value.int .i64 (x8)) := vt (hA8.at_ 2 rfl _ rfl) rfl
     refine opg_plain rfl rfl (op_assign (v := (Value.int .i64 (x8))) rfl q6 ?_)
     refine ⟨_, _, rfl, PH.Le.refl _, ?_, ?_⟩
     ·
      exact rfl
     ·
      exact I19
    ·
     intro vs9 f w13 S11 X9 le11 hA9 hK9 hI11
     have I20 : Inv w13 S11 (X9) := hI11
     have q7 : f 58 = (Value.int .i64 (x9)) := vt (hA9.at_ 6 rfl _ rfl) rfl
     refine opg_plain rfl rfl (op_assign (v := (Value.int .i64 (x9))) rfl q7 ?_)
     refine ⟨_, _, rfl, PH.Le.refl _, ?_, ?_⟩
     ·
      exact rfl
     ·
      exact I20
    ·
     intro vs10 f w14 S12 X10 le12 hA10 hK10 hI12
     have I21 : Inv w14 S12 (X10) := hI12
     refine opg_plain rfl rfl (op_assign (v := (Value.int .i64 (0))) rfl rfl ?_)
     refine ⟨_, _, rfl, PH.Le.refl _, ?_, ?_⟩
     ·
      exact rfl
     ·
      exact I21
    ·
     intro vs11 f w15 S13 le13 hF1 hK11 hI13
     have I22 : Inv w15 S13 (Row (α := Int) 3 (Value.slice z8 m8 k8) (x2.1) :: Fr) := hI13
     have q8 : f 8 = (Value.int .i64 (x8)) := vt (hF1.at_ 7 rfl _ rfl) rfl
     have q9 : f 9 = (Value.int .i64 (x9)) := vt (hF1.at_ 8 rfl _ rfl) rfl
     have q10 : f 10 = (Value.int .i64 (0)) := vt (hF1.at_ 9 rfl _ rfl) rfl
     refine wp_ret' ?_
     obtain rfl := Option.some.inj h
     exact ⟨(Value.tuple #[(Value.int .i64 (x8)), (Value.int .i64 (x9)), (Value.int .i64 (0))]), (res3 rfl q8 q9 q10), _, [], ((le1.trans le2).trans le13), (I22).drop, rfl, rfl⟩
end Go.Proofs.Ytogfongmnkmegaa.Pad
