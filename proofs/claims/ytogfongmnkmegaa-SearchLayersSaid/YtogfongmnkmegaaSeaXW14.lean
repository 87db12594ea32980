/- A part of the proof: what the functions of the program compute, shown over the model. -/
import Derived.Test.YtogfongmnkmegaaSeaXP
import Derived.Test.YtogfongmnkmegaaSeaXW1
import Derived.Test.YtogfongmnkmegaaSeaXW7
import Derived.KernelRfl
set_option linter.unusedVariables false
namespace Go.Proofs.Ytogfongmnkmegaa.Pad
open Go Go.Proofs
set_option maxHeartbeats 4000000 in
set_option maxRecDepth 100000 in
theorem F33_ok {w : World} {S : PH} {Fr : List HP} {a0 : Graph} {v0 : Value} {a1 : (List Int)} {v1 : Value} {r : (List Int) × Int} (hI : Inv w S (Fr)) (h0_ : RV S v0 a0) (h1_ : RV S v1 a1) (h : F33 a0 a1 = some r) :
    Calls Try.prog 33 [v0, v1].toArray w (Done S Fr (fun T_ v_ O_ => ∃ (a0_ : Option Addr) (n0_ k0_ : Nat), v_ = (Value.tuple #[(Value.slice a0_ n0_ k0_), (Value.int .i64 (r.2))]) ∧ O_ = [Row (α := Int) 3 (Value.slice a0_ n0_ k0_) (r.1)])) := by
 unfold F33 at h
 obtain ⟨c1, c2, e1, r1, r2⟩ := Graph.inv h0_
 subst e1
 obtain ⟨z1, m1, k1, e2⟩ := rv_form r1
 subst e2
 obtain ⟨z2, m2, k2, e3⟩ := rv_form r2
 subst e3
 obtain ⟨z3, m3, k3, e4⟩ := rv_form h1_
 subst e4
 refine calls_enter (n := 40) (vs := [(Value.agg #[(Value.slice z1 m1 k1), (Value.slice z2 m2 k2)]), (Value.slice z3 m3 k3)]) Try.func33 rfl rfl rfl ?_
 refine wp_seq' ?_
 refine wp_region' ?_
 refine wl_op rfl (op_box (v := (Value.agg #[(Value.slice z1 m1 k1), (Value.slice z2 m2 k2)])) rfl hI rfl (fun g1 w1 I1 => ?_))
 obtain ⟨S1, le1, I2, p1⟩ := Inv.boxFreeze (x := a0) I1 (Graph.rv (s := a0) r1 r2)
 refine wl_op rfl (op_assign (v := (Value.slice none 0 0)) rfl rfl ?_)
 refine wl_op rfl (op_assign (v := (Value.int .i64 (0))) rfl rfl ?_)
 refine wl_nil ?_
 refine wp_seq' ?_
 refine wp_seq' ?_
 refine wp_region' ?_
 refine wl_op rfl (op_load (v := (Value.pointer (some ⟨g1, 0, none⟩))) (e := a0) rfl sh25 rfl (p1.at_ I2) (fun u1 hu1 => ?_))
 obtain ⟨c3, c4, e5, r3, r4⟩ := Graph.inv hu1
 subst e5
 obtain ⟨z4, m4, k4, e6⟩ := rv_form r3
 subst e6
 obtain ⟨z5, m5, k5, e7⟩ := rv_form r4
 subst e7
 refine wl_op rfl (op_move (v := (Value.slice z3 m3 k3)) rfl rfl ?_)
 obtain ⟨x1, hx1, h⟩ := bnd h
 refine wl_op rfl (op_call (vs := [(Value.agg #[(Value.slice z4 m4 k4), (Value.slice z5 m5 k5)]), (Value.slice z3 m3 k3)]) rfl ca57 rfl (args2 rfl rfl) (F57_ok I2 (Graph.rv (s := a0) r3 r4) (h1_.mono le1) hx1) (fun v1 w2 S2 O1 le2 I3 hv1 => ?_))
 obtain ⟨c5, rfl, rfl, r5⟩ := hv1
 obtain ⟨c6, c7, e8, r6, r7⟩ := Search_view.inv r5
 subst e8
 obtain ⟨z6, m6, k6, e9⟩ := rv_form r6
 subst e9
 obtain ⟨z7, m7, k7, e10⟩ := rv_form r7
 subst e10
 refine wl_op rfl (op_move (v := (Value.tuple #[(Value.agg #[(Value.slice z6 m6 k6), (Value.slice z7 m7 k7)]), (Value.int .i64 (x1.2))])) rfl rfl ?_)
 refine wl_op rfl (op_extract (v := (Value.agg #[(Value.slice z6 m6 k6), (Value.slice z7 m7 k7)])) rfl rfl rfl ?_)
 refine wl_op rfl (op_extract (v := (Value.int .i64 (x1.2))) rfl rfl rfl ?_)
 refine wl_op rfl (op_alloc (z := (Value.agg #[(Value.slice none 0 0), (Value.slice none 0 0)])) rfl I3 zo64 (fun g2 w3 (I4 : Inv w3 S2 (Cells g2 64 #[(Value.slice none 0 0), (Value.slice none 0 0)] :: Fr)) => ?_))
 refine wl_op rfl (op_store (v := (Value.agg #[(Value.slice z6 m6 k6), (Value.slice z7 m7 k7)])) (cs := #[(Value.slice none 0 0), (Value.slice none 0 0)]) sh64 I4 rfl rfl rfl (Nat.le_of_ble_eq_true rfl) rfl (fun w4 (I5 : Inv w4 S2 (Cells g2 64 #[(Value.slice z6 m6 k6), (Value.slice z7 m7 k7)] :: Fr)) => ?_))
 refine wl_op rfl (op_assign (v := (Value.int .i64 (x1.2))) rfl rfl ?_)
 refine wl_nil ?_
 refine wp_seq' ?_
 refine wp_region' ?_
 refine wl_op rfl (op_move (v := (Value.int .i64 (x1.2))) rfl rfl ?_)
 refine wl_op rfl (op_neq (a := x1.2) (b := 0) rfl rfl rfl ?_)
 refine wl_nil ?_
 rcases ifs h with ⟨hc1, h⟩ | ⟨hc1, h⟩
 ·
  refine wp_cond_t (b := x1.2 != 0) rfl hc1 ?_
  refine wp_seq' ?_
  refine wp_region' ?_
  refine wl_op rfl (op_move (v := (Value.int .i64 (x1.2))) rfl rfl ?_)
  refine wl_op rfl (op_assign (v := (Value.slice none 0 0)) rfl rfl ?_)
  refine wl_op rfl (op_assign (v := (Value.int .i64 (x1.2))) rfl rfl ?_)
  refine wl_nil ?_
  refine wp_ret' ?_
  have I6 := Inv.rowNil (α := Int) (T := 3) I5
  obtain rfl := Option.some.inj h
  exact ⟨(Value.tuple #[(Value.slice none 0 0), (Value.int .i64 (x1.2))]), (res2 rfl rfl rfl), _, [Row (α := Int) 3 (Value.slice none 0 0) (([] : List Int))], (le1.trans le2), (I6.pull 1).drop, _, _, _, rfl, rfl⟩
 ·
  refine wp_cond_f (b := x1.2 != 0) rfl hc1 ?_
  refine wp_skip' ?_
  refine wp_seq' ?_
  refine wp_region' ?_
  refine wl_op rfl (op_move (v := (Value.slice z3 m3 k3)) rfl rfl ?_)
  obtain ⟨x2, hx2, h⟩ := bnd h
  refine wl_op rfl (op_call_v (vs := [(Value.slice z3 m3 k3)]) (r := (Value.int .i64 (x2))) rfl ca52 rfl (args1 rfl) I5 (fun Fr_ hF_ => F52_ok hF_ (h1_.mono (le1.trans le2)) hx2) (fun w5 I7 => ?_))
  refine wl_op rfl (op_add (a := x2) (b := 1) rfl rfl rfl ?_)
  obtain ⟨x3, hx3, h⟩ := bnd h
  refine wl_op rfl (op_makeSlice (c := w64 (x2 + 1)) rfl Try.underlying26 el3 (by decide) rfl rfl I7 hx3 (fun u2 w6 I8 => ?_))
  obtain ⟨z8, m8, k8, e11⟩ := row_form I8
  subst e11
  refine wl_op rfl (op_assign (v := (Value.slice z8 m8 k8)) rfl rfl ?_)
  refine wl_nil ?_
  refine wp_seq' ?_
  refine wp_seq' ?_
  refine wp_region' ?_
  refine wl_op rfl (op_move (v := (Value.slice z3 m3 k3)) rfl rfl ?_)
  refine wl_op rfl (op_len_rv rfl Try.underlying26 rfl (h1_.mono (le1.trans le2)) ?_)
  refine wl_op rfl (op_move (v := (Value.int .i64 (0))) rfl rfl ?_)
  refine wl_nil ?_
  have hk1 : a1.length ≤ 9223372036854775807 := (rv_len h1_)
  obtain ⟨out1, hrun1, h⟩ := bnd h
  refine wp_cutN (fun f w => Inv w S2 (Row (α := Int) 3 (Value.slice z8 m8 k8) (out1) :: Fr) ∧ f 8 = (Value.slice z8 m8 k8) ∧ f 24 = (Value.slice z3 m3 k3) ∧ f 25 = (Value.int .i64 ((a1.length : Int)))) ?_ ?_
  ·
   refine wp_block' ?_
   refine wp_forS (I := fun (i1 : Nat) (s1 : (List Int)) (f : Frm) (w : World) => Inv w S2 (Row (α := Int) 3 (Value.slice z8 m8 k8) (s1) :: Fr) ∧ f 8 = (Value.slice z8 m8 k8) ∧ f 24 = (Value.slice z3 m3 k3) ∧ f 25 = (Value.int .i64 ((a1.length : Int))) ∧ f 26 = (Value.int .i64 (i1 : Int))) hrun1 ⟨(I8.pull 1).drop, rfl, rfl, rfl, rfl⟩ ?_ ?_
   ·
    rintro i1 s1 f w o1 hlt1 hI1 h1
    obtain ⟨I15, e24, e25, e26, e27⟩ := hI1
    refine wp_seq' ?_
    refine wp_region' ?_
    refine wl_op rfl (op_lss (a := (i1 : Int)) (b := (a1.length : Int)) rfl e27 e26 ?_)
    refine wl_nil ?_
    refine wp_seq' ?_
    refine wp_cond_t (b := decide ((i1 : Int) < (a1.length : Int))) rfl (len_t hlt1) ?_
    refine wp_skip' ?_
    refine wp_seq' ?_
    refine wp_block' ?_
    refine wp_seq' ?_
    refine wp_region' ?_
    obtain ⟨x13, hx13, h1⟩ := bnd h1
    refine wl_op rfl (op_indexAddr_rv (v := (Value.slice z3 m3 k3)) (i := (i1 : Int)) (e := x13) rfl Try.underlying26 sh3 e25 (h1_.mono (le1.trans le2)) e27 hx13 ?_)
    refine wl_op rfl (op_load_int (v := (elemPtr (Value.slice z3 m3 k3) ((i1 : Int)) (Enc.sz Int))) (e := x13) rfl sh3 rfl ((h1_.mono (le1.trans le2)).elem I15.in_ hx13) ?_)
    refine wl_op rfl (op_assign (v := (Value.int .i64 (x13))) rfl rfl ?_)
    refine wl_nil ?_
    refine wp_seq' ?_
    refine wp_region' ?_
    refine wl_op rfl (op_move (v := (Value.int .i64 (x13))) rfl rfl ?_)
    refine wl_op rfl (op_geq (a := x13) (b := 0) rfl rfl rfl ?_)
    refine wl_nil ?_
    rcases ifs h1 with ⟨hc5, h1⟩ | ⟨hc5, h1⟩
    ·
     refine wp_cond_t (b := decide (0 ≤ x13)) rfl hc5 ?_
     refine wp_region' ?_
     refine wl_op rfl (op_move (v := (Value.slice z8 m8 k8)) rfl e24 ?_)
     refine wl_op rfl (op_move (v := (Value.int .i64 (x13))) rfl rfl ?_)
     obtain ⟨x14, hx14, h1⟩ := bnd h1
     refine wl_op rfl (op_indexAddr_src (v := (Value.slice z8 m8 k8)) (i := x13) (e := x14) rfl Try.underlying26 sh3 rfl (Inv.rowSrc (I15.nth 0 rfl)) rfl hx14 ?_)
     refine wl_op rfl (op_load_int (v := (elemPtr (Value.slice z8 m8 k8) (x13) (Enc.sz Int))) (e := x14) rfl sh3 rfl ((I15.nth 0 rfl).rowElem hx14) ?_)
     refine wl_op rfl (op_add (a := x14) (b := 1) rfl rfl rfl ?_)
     obtain ⟨x15, hx15, h1⟩ := bnd h1
     refine wl_op rfl (op_indexAddr_src (v := (Value.slice z8 m8 k8)) (i := x13) (e := x15) rfl Try.underlying26 sh3 rfl (Inv.rowSrc (I15.nth 0 rfl)) rfl hx15 ?_)
     refine wl_op rfl (op_storeRow (u := (Value.int .i64 (w64 (x14 + 1)))) (e' := w64 (x14 + 1)) sh3 I15 rfl rfl hx15 (rv_int' _) (fun w10 I16 => ?_))
     refine wl_nil ?_
     refine wp_region' ?_
     refine wl_op rfl (op_add (a := (i1 : Int)) (b := 1) rfl e27 rfl ?_)
     refine wl_op rfl (op_move (v := (Value.int .i64 (w64 ((i1 : Int) + 1)))) rfl rfl ?_)
     refine wl_nil ?_
     obtain rfl := Option.some.inj h1
     exact ⟨I16, e24, e25, e26, (idx_next hlt1 hk1)⟩
    ·
     refine wp_cond_f (b := decide (0 ≤ x13)) rfl hc5 ?_
     refine wp_skip' ?_
     refine wp_region' ?_
     refine wl_op rfl (op_add (a := (i1 : Int)) (b := 1) rfl e27 rfl ?_)
     refine wl_op rfl (op_move (v := (Value.int .i64 (w64 ((i1 : Int) + 1)))) rfl rfl ?_)
     refine wl_nil ?_
     obtain rfl := Option.some.inj h1
     exact ⟨I15, e24, e25, e26, (idx_next hlt1 hk1)⟩
   ·
    rintro f w hI2
    obtain ⟨I17, e28, e29, e30, e31⟩ := hI2
    refine wp_seq' ?_
    refine wp_region' ?_
    refine wl_op rfl (op_lss (a := (a1.length : Int)) (b := (a1.length : Int)) rfl e31 e30 ?_)
    refine wl_nil ?_
    refine wp_seq' ?_
    refine wp_cond_f (b := decide ((a1.length : Int) < (a1.length : Int))) rfl (len_f _) ?_
    refine wp_exit' ?_
    exact ⟨I17, e28, e29, e30⟩
  ·
   rintro f w ⟨I18, e32, e33, e34⟩
   refine wp_seq' ?_
   refine wp_region' ?_
   refine wl_op rfl (op_move (v := (Value.slice z8 m8 k8)) rfl e32 ?_)
   refine wl_op rfl (op_assign (v := (Value.slice z8 m8 k8)) rfl rfl ?_)
   refine wl_op rfl (op_assign (v := (Value.int .i64 (0))) rfl rfl ?_)
   refine wl_nil ?_
   refine wp_ret' ?_
   obtain rfl := Option.some.inj h
   exact ⟨(Value.tuple #[(Value.slice z8 m8 k8), (Value.int .i64 (0))]), (res2 rfl rfl rfl), _, [Row (α := Int) 3 (Value.slice z8 m8 k8) (out1)], (le1.trans le2), I18, _, _, _, rfl, rfl⟩

set_option maxHeartbeats 4000000 in
set_option maxRecDepth 100000 in
theorem F58_ok {w : World} {S : PH} {Fr : List HP} {a0 : Search_view} {v0 : Value} {a1 : Int} {a2 : Edge} {v2 : Value} {r : Bool} (hI : Inv w S (Fr)) (h0_ : RV S v0 a0) (h2_ : RV S v2 a2) (h : F58 a0 a1 a2 = some r) :
    Calls Try.prog 58 [v0, (Value.int .i64 (a1)), v2].toArray w (DoneV S Fr (Value.bool (r))) := by
 unfold F58 at h
 obtain ⟨c1, c2, e1, r1, r2⟩ := Search_view.inv h0_
 subst e1
 obtain ⟨z1, m1, k1, e2⟩ := rv_form r1
 subst e2
 obtain ⟨z2, m2, k2, e3⟩ := rv_form r2
 subst e3
 have e4 := Edge.inv h2_
 subst e4
 refine calls_enter (n := 28) (vs := [(Value.agg #[(Value.slice z1 m1 k1), (Value.slice z2 m2 k2)]), (Value.int .i64 (a1)), (Value.agg #[(Value.int .i64 (a2.Move.Player)), (Value.int .i64 (a2.Move.Kind)), (Value.int .i64 (a2.Move.Number)), (Value.int .i64 (a2.To))])]) Try.func58 rfl rfl rfl ?_
 refine wp_seq' ?_
 refine wp_region' ?_
 refine wl_op rfl (op_box (v := (Value.agg #[(Value.slice z1 m1 k1), (Value.slice z2 m2 k2)])) rfl hI rfl (fun g1 w1 I1 => ?_))
 obtain ⟨S1, le1, I2, p1⟩ := Inv.boxFreeze (x := a0) I1 (Search_view.rv (s := a0) r1 r2)
 refine wl_op rfl (op_box (v := (Value.agg #[(Value.int .i64 (a2.Move.Player)), (Value.int .i64 (a2.Move.Kind)), (Value.int .i64 (a2.Move.Number)), (Value.int .i64 (a2.To))])) rfl I2 rfl (fun g2 w2 I3 => ?_))
 obtain ⟨S2, le2, I4, p2⟩ := Inv.boxFreeze (x := a2) I3 (Edge.rv (s := a2))
 refine wl_op rfl (op_assign (v := (Value.bool (false))) rfl rfl ?_)
 refine wl_nil ?_
 refine wp_seq' ?_
 obtain ⟨x1, hx1, h⟩ := bnd h
 rcases ifs h with ⟨hc1, h⟩ | ⟨hc1, h⟩
 ·
  obtain ⟨x2, hx2, h⟩ := bnd h
  refine wp_draw (sps := [⟨some 7, [], [0], fun vs_ T_ => fr0 vs_ 0 = (fieldPtr (Value.pointer (some ⟨g1, 0, none⟩)) 1), [], [], [], fun _ h_ => h_⟩, ⟨some 8, [0], [1], fun vs_ T_ => RV T_ (fr0 vs_ 0) a0.distances, [], [], [], fun hle_ h_ => h_.mono hle_⟩, ⟨some 9, [], [2], fun vs_ T_ => fr0 vs_ 0 = (Value.int .i64 (a1)), [], [], [], fun _ h_ => h_⟩, ⟨some 10, [0, 1, 2], [3, 1], fun vs_ T_ => fr0 vs_ 0 = (elemPtr (fr0 vs_ 1) (a1) (Enc.sz Int)), [], [], [], fun _ h_ => h_⟩, ⟨some 11, [0, 1, 2, 3], [4], fun vs_ T_ => fr0 vs_ 0 = (Value.int .i64 (x1)), [], [], [], fun _ h_ => h_⟩, ⟨some 12, [0, 1, 2, 3, 4], [5], fun vs_ T_ => fr0 vs_ 0 = (Value.bool (decide (0 < x1))), [], [], [], fun _ h_ => h_⟩, ⟨some 13, [0, 1, 2, 3, 4, 5], [6], fun vs_ T_ => fr0 vs_ 0 = (Value.bool (decide (0 < x1))), [], [], [], fun _ h_ => h_⟩, ⟨some 14, [0, 1, 2, 3, 4, 5, 6], [7], fun vs_ T_ => fr0 vs_ 0 = (fieldPtr (Value.pointer (some ⟨g1, 0, none⟩)) 1), [], [], [], fun _ h_ => h_⟩, ⟨some 15, [0, 1, 2, 3, 4, 5, 6, 7], [8], fun vs_ T_ => RV T_ (fr0 vs_ 0) a0.distances, [], [], [], fun hle_ h_ => h_.mono hle_⟩, ⟨some 16, [0, 1, 2, 3, 4, 5, 6], [9], fun vs_ T_ => fr0 vs_ 0 = (fieldPtr (Value.pointer (some ⟨g2, 0, none⟩)) 3), [], [], [], fun _ h_ => h_⟩, ⟨some 17, [0, 1, 2, 3, 4, 5, 6, 9], [10], fun vs_ T_ => fr0 vs_ 0 = (Value.int .i64 (a2.To)), [], [], [], fun _ h_ => h_⟩, ⟨some 18, [0, 1, 2, 3, 4, 5, 6, 7, 8, 9, 10], [11, 8], fun vs_ T_ => fr0 vs_ 0 = (elemPtr (fr0 vs_ 1) (a2.To) (Enc.sz Int)), [], [], [], fun _ h_ => h_⟩, ⟨some 19, [0, 1, 2, 3, 4, 5, 6, 7, 8, 9, 10, 11], [12], fun vs_ T_ => fr0 vs_ 0 = (Value.int .i64 (x2)), [], [], [], fun _ h_ => h_⟩, ⟨some 20, [0, 1, 2, 3, 4, 5, 6], [13], fun vs_ T_ => fr0 vs_ 0 = (fieldPtr (Value.pointer (some ⟨g1, 0, none⟩)) 1), [], [], [], fun _ h_ => h_⟩, ⟨some 21, [0, 1, 2, 3, 4, 5, 6, 13], [14], fun vs_ T_ => RV T_ (fr0 vs_ 0) a0.distances, [], [], [], fun hle_ h_ => h_.mono hle_⟩, ⟨some 22, [0, 1, 2, 3, 4, 5, 6], [15], fun vs_ T_ => fr0 vs_ 0 = (Value.int .i64 (a1)), [], [], [], fun _ h_ => h_⟩, ⟨some 23, [0, 1, 2, 3, 4, 5, 6, 13, 14, 15], [16, 14], fun vs_ T_ => fr0 vs_ 0 = (elemPtr (fr0 vs_ 1) (a1) (Enc.sz Int)), [], [], [], fun _ h_ => h_⟩, ⟨some 24, [0, 1, 2, 3, 4, 5, 6, 13, 14, 15, 16], [17], fun vs_ T_ => fr0 vs_ 0 = (Value.int .i64 (x1)), [], [], [], fun _ h_ => h_⟩, ⟨some 25, [0, 1, 2, 3, 4, 5, 6, 13, 14, 15, 16, 17], [18], fun vs_ T_ => fr0 vs_ 0 = (Value.int .i64 (w64 (x1 - 1))), [], [], [], fun _ h_ => h_⟩, ⟨some 26, [0, 1, 2, 3, 4, 5, 6, 7, 8, 9, 10, 11, 12, 13, 14, 15, 16, 17, 18], [19], fun vs_ T_ => fr0 vs_ 0 = (Value.bool (x2 == (w64 (x1 - 1)))), [], [], [], fun _ h_ => h_⟩, ⟨some 27, [0, 1, 2, 3, 4, 5, 6, 7, 8, 9, 10, 11, 12, 13, 14, 15, 16, 17, 18, 19], [20], fun vs_ T_ => fr0 vs_ 0 = (Value.bool (x2 == (w64 (x1 - 1)))), [], [], [], fun _ h_ => h_⟩, ⟨some 6, [0, 1, 2, 3, 4, 5, 6, 7, 8, 9, 10, 11, 12, 13, 14, 15, 16, 17, 18, 19, 20], [21], fun vs_ T_ => fr0 vs_ 0 = (Value.bool (x2 == (w64 (x1 - 1)))), [], [], [], fun _ h_ => h_⟩]) (tks := []) (O := Fr) rfl (by kernel_rfl) I4 ⟨?_, ?_, ?_, ?_, ?_, ?_, ?_, ?_, ?_, ?_, ?_, ?_, ?_, ?_, ?_, ?_, ?_, ?_, ?_, ?_, ?_, ?_, trivial⟩ ?_
  ·
   intro vs1 f w3 S3 X1 le3 hA1 hK1 hI1
   have I5 : Inv w3 S3 (X1) := hI1
   refine opg_plain rfl rfl (op_fieldAddr_t (v := (Value.pointer (some ⟨g1, 0, none⟩))) rfl fa64_1 (hK1 3 (keep_of rfl)) ((p1.mono (le2.trans le3)).at_ I5) ?_)
   refine ⟨_, _, rfl, PH.Le.refl _, ?_, ?_⟩
   ·
    exact rfl
   ·
    exact I5
  ·
   intro vs2 f w4 S4 X2 le4 hA2 hK2 hI2
   have I6 : Inv w4 S4 (X2) := hI2
   have q1 : f 7 = (fieldPtr (Value.pointer (some ⟨g1, 0, none⟩)) 1) := vt (hA2.at_ 0 rfl _ rfl) rfl
   refine opg_plain rfl rfl (op_load (v := (fieldPtr (Value.pointer (some ⟨g1, 0, none⟩)) 1)) (e := a0.distances) rfl sh26 q1 (((p1.mono (le2.trans le4)).at_ I6).fld Search_view.fld1) (fun u5 hu5 => ?_))
   obtain ⟨z3, m3, k3, e5⟩ := rv_form hu5
   subst e5
   refine ⟨_, _, rfl, PH.Le.refl _, ?_, ?_⟩
   ·
    exact hu5
   ·
    exact I6
  ·
   intro vs3 f w5 S5 X3 le5 hA3 hK3 hI3
   have I7 : Inv w5 S5 (X3) := hI3
   refine opg_plain rfl rfl (op_move (v := (Value.int .i64 (a1))) rfl (hK3 1 (keep_of rfl)) ?_)
   refine ⟨_, _, rfl, PH.Le.refl _, ?_, ?_⟩
   ·
    exact rfl
   ·
    exact I7
  ·
   intro vs4 f w6 S6 X4 le6 hA4 hK4 hI4
   have I8 : Inv w6 S6 (X4) := hI4
   have q2 : f 8 = vs4 1 := (hA4.at_ 1 rfl _ rfl).1 _ rfl
   have r3 : RV S6 (vs4 1) a0.distances := (hA4.at_ 1 rfl _ rfl).2
   obtain ⟨u6, hu6⟩ : ∃ u, vs4 1 = u := ⟨_, rfl⟩
   rw [hu6] at q2 r3
   obtain ⟨z4, m4, k4, e6⟩ := rv_form r3
   subst e6
   have q3 : f 9 = (Value.int .i64 (a1)) := vt (hA4.at_ 2 rfl _ rfl) rfl
   refine opg_plain rfl rfl (op_indexAddr_rv (v := (Value.slice z4 m4 k4)) (i := a1) (e := x1) rfl Try.underlying26 sh3 q2 r3 q3 hx1 ?_)
   refine ⟨_, _, rfl, PH.Le.refl _, ?_, ?_⟩
   ·
    show (elemPtr (Value.slice z4 m4 k4) (a1) (Enc.sz Int)) = (elemPtr (vs4 1) (a1) (Enc.sz Int))
    simp only [hu6] <;> rfl
   ·
    exact I8
  ·
   intro vs5 f w7 S7 X5 le7 hA5 hK5 hI5
   have I9 : Inv w7 S7 (X5) := hI5
   have q4 : f 8 = vs5 1 := (hA5.at_ 1 rfl _ rfl).1 _ rfl
   have r4 : RV S7 (vs5 1) a0.distances := (hA5.at_ 1 rfl _ rfl).2
   obtain ⟨u7, hu7⟩ : ∃ u, vs5 1 = u := ⟨_, rfl⟩
   rw [hu7] at q4 r4
   obtain ⟨z5, m5, k5, e7⟩ := rv_form r4
   subst e7
   have q5 : f 9 = (Value.int .i64 (a1)) := vt (hA5.at_ 2 rfl _ rfl) rfl
   have q6 : f 10 = (elemPtr (vs5 1) (a1) (Enc.sz Int)) := vt (hA5.at_ 3 rfl _ rfl) rfl
   simp only [hu7] at q6
   have q6 : f 10 = (elemPtr (Value.slice z5 m5 k5) (a1) (Enc.sz Int)) := q6
   refine opg_plain rfl rfl (op_load_int (v := (elemPtr (Value.slice z5 m5 k5) (a1) (Enc.sz Int))) (e := x1) rfl sh3 q6 (r4.elem I9.in_ hx1) ?_)
   refine ⟨_, _, rfl, PH.Le.refl _, ?_, ?_⟩
   ·
    exact rfl
   ·
    exact I9
  ·
   intro vs6 f w8 S8 X6 le8 hA6 hK6 hI6
   have I10 : Inv w8 S8 (X6) := hI6
   have q7 : f 11 = (Value.int .i64 (x1)) := vt (hA6.at_ 4 rfl _ rfl) rfl
   refine opg_plain rfl rfl (op_gtr (a := x1) (b := 0) rfl q7 rfl ?_)
   refine ⟨_, _, rfl, PH.Le.refl _, ?_, ?_⟩
   ·
    exact rfl
   ·
    exact I10
  ·
   intro vs7 f w9 S9 X7 le9 hA7 hK7 hI7
   have I11 : Inv w9 S9 (X7) := hI7
   have q8 : f 12 = (Value.bool (decide (0 < x1))) := vt (hA7.at_ 5 rfl _ rfl) rfl
   refine opg_plain rfl rfl (op_move (v := (Value.bool (decide (0 < x1)))) rfl q8 ?_)
   refine ⟨_, _, rfl, PH.Le.refl _, ?_, ?_⟩
   ·
    exact rfl
   ·
    exact I11
  ·
   intro vs8 f w10 S10 X8 le10 hA8 hK8 hI8
   have I12 : Inv w10 S10 (X8) := hI8
   have q9 : f 13 = (Value.bool (decide (0 < x1))) := vt (hA8.at_ 6 rfl _ rfl) rfl
   refine opg_taken (c := decide (0 < x1)) rfl rfl rfl rfl q9 hc1 (op_fieldAddr_t (v := (Value.pointer (some ⟨g1, 0, none⟩))) rfl fa64_1 (hK8 3 (keep_of rfl)) ((p1.mono (le2.trans le10)).at_ I12) ?_)
   refine ⟨_, _, rfl, PH.Le.refl _, ?_, ?_⟩
   ·
    exact rfl
   ·
    exact I12
  ·
   intro vs9 f w11 S11 X9 le11 hA9 hK9 hI9
   have I13 : Inv w11 S11 (X9) := hI9
   have q10 : f 13 = (Value.bool (decide (0 < x1))) := vt (hA9.at_ 6 rfl _ rfl) rfl
   have q11 : f 14 = (fieldPtr (Value.pointer (some ⟨g1, 0, none⟩)) 1) := vt (hA9.at_ 7 rfl _ rfl) rfl
   refine opg_taken (c := decide (0 < x1)) rfl rfl rfl rfl q10 hc1 (op_load (v := (fieldPtr (Value.pointer (some ⟨g1, 0, none⟩)) 1)) (e := a0.distances) rfl sh26 q11 (((p1.mono (le2.trans le11)).at_ I13).fld Search_view.fld1) (fun u8 hu8 => ?_))
   obtain ⟨z6, m6, k6, e8⟩ := rv_form hu8
   subst e8
   refine ⟨_, _, rfl, PH.Le.refl _, ?_, ?_⟩
   ·
    exact hu8
   ·
    exact I13
  ·
   intro vs10 f w12 S12 X10 le12 hA10 hK10 hI10
   have I14 : Inv w12 S12 (X10) := hI10
   have q12 : f 13 = (Value.bool (decide (0 < x1))) := vt (hA10.at_ 6 rfl _ rfl) rfl
   refine opg_taken (c := decide (0 < x1)) rfl rfl rfl rfl q12 hc1 (op_fieldAddr_t (v := (Value.pointer (some ⟨g2, 0, none⟩))) rfl fa44_1 (hK10 5 (keep_of rfl)) ((p2.mono le12).at_ I14) ?_)
   refine ⟨_, _, rfl, PH.Le.refl _, ?_, ?_⟩
   ·
    exact rfl
   ·
    exact I14
  ·
   intro vs11 f w13 S13 X11 le13 hA11 hK11 hI11
   have I15 : Inv w13 S13 (X11) := hI11
   have q13 : f 13 = (Value.bool (decide (0 < x1))) := vt (hA11.at_ 6 rfl _ rfl) rfl
   have q14 : f 16 = (fieldPtr (Value.pointer (some ⟨g2, 0, none⟩)) 3) := vt (hA11.at_ 7 rfl _ rfl) rfl
   refine opg_taken (c := decide (0 < x1)) rfl rfl rfl rfl q13 hc1 (op_load_int (v := (fieldPtr (Value.pointer (some ⟨g2, 0, none⟩)) 3)) (e := a2.To) rfl sh3 q14 (((p2.mono le13).at_ I15).fld Edge.fld1) ?_)
   refine ⟨_, _, rfl, PH.Le.refl _, ?_, ?_⟩
   ·
    exact rfl
   ·
    exact I15
  ·
   intro vs12 f w14 S14 X12 le14 hA12 hK12 hI12
   have I16 : Inv w14 S14 (X12) := hI12
   have q15 : f 13 = (Value.bool (decide (0 < x1))) := vt (hA12.at_ 6 rfl _ rfl) rfl
   have q16 : f 15 = vs12 8 := (hA12.at_ 8 rfl _ rfl).1 _ rfl
   have r5 : RV S14 (vs12 8) a0.distances := (hA12.at_ 8 rfl _ rfl).2
   obtain ⟨u9, hu9⟩ : ∃ u, vs12 8 = u := ⟨_, rfl⟩
   rw [hu9] at q16 r5
   obtain ⟨z7, m7, k7, e9⟩ := rv_form r5
   subst e9
   have q17 : f 17 = (Value.int .i64 (a2.To)) := vt (hA12.at_ 10 rfl _ rfl) rfl
   refine opg_taken (c := decide (0 < x1)) rfl rfl rfl rfl q15 hc1 (op_indexAddr_rv (v := (Value.slice z7 m7 k7)) (i := a2.To) (e := x2) rfl Try.underlying26 sh3 q16 r5 q17 hx2 ?_)
   refine ⟨_, _, rfl, PH.Le.refl _, ?_, ?_⟩
   ·
    show (elemPtr (Value.slice z7 m7 k7) (a2.To) (Enc.sz Int)) = (elemPtr (vs12 8) (a2.To) (Enc.sz Int))
    simp only [hu9] <;> rfl
   ·
    exact I16
  ·
   intro vs13 f w15 S15 X13 le15 hA13 hK13 hI13
   have I17 : Inv w15 S15 (X13) := hI13
   have q18 : f 13 = (Value.bool (decide (0 < x1))) := vt (hA13.at_ 6 rfl _ rfl) rfl
   have q19 : f 15 = vs13 8 := (hA13.at_ 8 rfl _ rfl).1 _ rfl
   have r6 : RV S15 (vs13 8) a0.distances := (hA13.at_ 8 rfl _ rfl).2
   obtain ⟨u10, hu10⟩ : ∃ u, vs13 8 = u := ⟨_, rfl⟩
   rw [hu10] at q19 r6
   obtain ⟨z8, m8, k8, e10⟩ := rv_form r6
   subst e10
   have q20 : f 17 = (Value.int .i64 (a2.To)) := vt (hA13.at_ 10 rfl _ rfl) rfl
   have q21 : f 18 = (elemPtr (vs13 8) (a2.To) (Enc.sz Int)) := vt (hA13.at_ 11 rfl _ rfl) rfl
   simp only [hu10] at q21
   have q21 : f 18 = (elemPtr (Value.slice z8 m8 k8) (a2.To) (Enc.sz Int)) := q21
   refine opg_taken (c := decide (0 < x1)) rfl rfl rfl rfl q18 hc1 (op_load_int (v := (elemPtr (Value.slice z8 m8 k8) (a2.To) (Enc.sz Int))) (e := x2) rfl sh3 q21 (r6.elem I17.in_ hx2) ?_)
   refine ⟨_, _, rfl, PH.Le.refl _, ?_, ?_⟩
   ·
    exact rfl
   ·
    exact I17
  ·
   intro vs14 f w16 S16 X14 le16 hA14 hK14 hI14
   have I18 : Inv w16 S16 (X14) := hI14
   have q22 : f 13 = (Value.bool (decide (0 < x1))) := vt (hA14.at_ 6 rfl _ rfl) rfl
   refine opg_taken (c := decide (0 < x1)) rfl rfl rfl rfl q22 hc1 (op_fieldAddr_t (v := (Value.pointer (some ⟨g1, 0, none⟩))) rfl fa64_1 (hK14 3 (keep_of rfl)) ((p1.mono (le2.trans le16)).at_ I18) ?_)
   refine ⟨_, _, rfl, PH.Le.refl _, ?_, ?_⟩
   ·
    exact rfl
   ·
    exact I18
  ·
   intro vs15 f w17 S17 X15 le17 hA15 hK15 hI15
   have I19 : Inv w17 S17 (X15) := hI15
   have q23 : f 13 = (Value.bool (decide (0 < x1))) := vt (hA15.at_ 6 rfl _ rfl) rfl
   have q24 : f 20 = (fieldPtr (Value.pointer (some ⟨g1, 0, none⟩)) 1) := vt (hA15.at_ 7 rfl _ rfl) rfl
   refine opg_taken (c := decide (0 < x1)) rfl rfl rfl rfl q23 hc1 (op_load (v := (fieldPtr (Value.pointer (some ⟨g1, 0, none⟩)) 1)) (e := a0.distances) rfl sh26 q24 (((p1.mono (le2.trans le17)).at_ I19).fld Search_view.fld1) (fun u11 hu11 => ?_))
   obtain ⟨z9, m9, k9, e11⟩ := rv_form hu11
   subst e11
   refine ⟨_, _, rfl, PH.Le.refl _, ?_, ?_⟩
   ·
    exact hu11
   ·
    exact I19
  ·
   intro vs16 f w18 S18 X16 le18 hA16 hK16 hI16
   have I20 : Inv w18 S18 (X16) := hI16
   have q25 : f 13 = (Value.bool (decide (0 < x1))) := vt (hA16.at_ 6 rfl _ rfl) rfl
   refine opg_taken (c := decide (0 < x1)) rfl rfl rfl rfl q25 hc1 (op_move (v := (Value.int .i64 (a1))) rfl (hK16 1 (keep_of rfl)) ?_)
   refine ⟨_, _, rfl, PH.Le.refl _, ?_, ?_⟩
   ·
    exact rfl
   ·
    exact I20
  ·
   intro vs17 f w19 S19 X17 le19 hA17 hK17 hI17
   have I21 : Inv w19 S19 (X17) := hI17
   have q26 : f 13 = (Value.bool (decide (0 < x1))) := vt (hA17.at_ 6 rfl _ rfl) rfl
   have q27 : f 21 = vs17 14 := (hA17.at_ 8 rfl _ rfl).1 _ rfl
   have r7 : RV S19 (vs17 14) a0.distances := (hA17.at_ 8 rfl _ rfl).2
   obtain ⟨u12, hu12⟩ : ∃ u, vs17 14 = u := ⟨_, rfl⟩
   rw [hu12] at q27 r7
   obtain ⟨z10, m10, k10, e12⟩ := rv_form r7
   subst e12
   have q28 : f 22 = (Value.int .i64 (a1)) := vt (hA17.at_ 9 rfl _ rfl) rfl
   refine opg_taken (c := decide (0 < x1)) rfl rfl rfl rfl q26 hc1 (op_indexAddr_rv (v := (Value.slice z10 m10 k10)) (i := a1) (e := x1) rfl Try.underlying26 sh3 q27 r7 q28 hx1 ?_)
   refine ⟨_, _, rfl, PH.Le.refl _, ?_, ?_⟩
   ·
    show (elemPtr (Value.slice z10 m10 k10) (a1) (Enc.sz Int)) = (elemPtr (vs17 14) (a1) (Enc.sz Int))
    simp only [hu12] <;> rfl
   ·
    exact I21
  ·
   intro vs18 f w20 S20 X18 le20 hA18 hK18 hI18
   have I22 : Inv w20 S20 (X18) := hI18
   have q29 : f 13 = (Value.bool (decide (0 < x1))) := vt (hA18.at_ 6 rfl _ rfl) rfl
   have q30 : f 21 = vs18 14 := (hA18.at_ 8 rfl _ rfl).1 _ rfl
   have r8 : RV S20 (vs18 14) a0.distances := (hA18.at_ 8 rfl _ rfl).2
   obtain ⟨u13, hu13⟩ : ∃ u, vs18 14 = u := ⟨_, rfl⟩
   rw [hu13] at q30 r8
   obtain ⟨z11, m11, k11, e13⟩ := rv_form r8
   subst e13
   have q31 : f 22 = (Value.int .i64 (a1)) := vt (hA18.at_ 9 rfl _ rfl) rfl
   have q32 : f 23 = (elemPtr (vs18 14) (a1) (Enc.sz Int)) := vt (hA18.at_ 10 rfl _ rfl) rfl
   simp only [hu13] at q32
   have q32 : f 23 = (elemPtr (Value.slice z11 m11 k11) (a1) (Enc.sz Int)) := q32
   refine opg_taken (c := decide (0 < x1)) rfl rfl rfl rfl q29 hc1 (op_load_int (v := (elemPtr (Value.slice z11 m11 k11) (a1) (Enc.sz Int))) (e := x1) rfl sh3 q32 (r8.elem I22.in_ hx1) ?_)
   refine ⟨_, _, rfl, PH.Le.refl _, ?_, ?_⟩
   ·
    exact rfl
   ·
    exact I22
  ·
   intro vs19 f w21 S21 X19 le21 hA19 hK19 hI19
   have I23 : Inv w21 S21 (X19) := hI19
   have q33 : f 13 = (Value.bool (decide (0 < x1))) := vt (hA19.at_ 6 rfl _ rfl) rfl
   have q34 : f 24 = (Value.int .i64 (x1)) := vt (hA19.at_ 11 rfl _ rfl) rfl
   refine opg_taken (c := decide (0 < x1)) rfl rfl rfl rfl q33 hc1 (op_sub (a := x1) (b := 1) rfl q34 rfl ?_)
   refine ⟨_, _, rfl, PH.Le.refl _, ?_, ?_⟩
   ·
    exact rfl
   ·
    exact I23
  ·
   intro vs20 f w22 S22 X20 le22 hA20 hK20 hI20
   have I24 : Inv w22 S22 (X20) := hI20
   have q35 : f 13 = (Value.bool (decide (0 < x1))) := vt (hA20.at_ 6 rfl _ rfl) rfl
   have q36 : f 19 = (Value.int .i64 (x2)) := vt (hA20.at_ 12 rfl _ rfl) rfl
   have q37 : f 25 = (Value.int .i64 (w64 (x1 - 1))) := vt (hA20.at_ 18 rfl _ rfl) rfl
   refine opg_taken (c := decide (0 < x1)) rfl rfl rfl rfl q35 hc1 (op_eql (a := x2) (b := w64 (x1 - 1)) rfl q36 q37 ?_)
   refine ⟨_, _, rfl, PH.Le.refl _, ?_, ?_⟩
   ·
    exact rfl
   ·
    exact I24
  ·
   intro vs21 f w23 S23 X21 le23 hA21 hK21 hI21
   have I25 : Inv w23 S23 (X21) := hI21
   have q38 : f 13 = (Value.bool (decide (0 < x1))) := vt (hA21.at_ 6 rfl _ rfl) rfl
   have q39 : f 26 = (Value.bool (x2 == (w64 (x1 - 1)))) := vt (hA21.at_ 19 rfl _ rfl) rfl
   refine opg_plain rfl rfl (op_pick_t (c := decide (0 < x1)) (a := (Value.bool (x2 == (w64 (x1 - 1))))) rfl q38 hc1 q39 ?_)
   refine ⟨_, _, rfl, PH.Le.refl _, ?_, ?_⟩
   ·
    exact rfl
   ·
    exact I25
  ·
   intro vs22 f w24 S24 X22 le24 hA22 hK22 hI22
   have I26 : Inv w24 S24 (X22) := hI22
   have q40 : f 27 = (Value.bool (x2 == (w64 (x1 - 1)))) := vt (hA22.at_ 20 rfl _ rfl) rfl
   refine opg_plain rfl rfl (op_assign (v := (Value.bool (x2 == (w64 (x1 - 1))))) rfl q40 ?_)
   refine ⟨_, _, rfl, PH.Le.refl _, ?_, ?_⟩
   ·
    exact rfl
   ·
    exact I26
  ·
   intro vs23 f w25 S25 le25 hF1 hK23 hI23
   have I27 : Inv w25 S25 (Fr) := hI23
   have q41 : f 6 = (Value.bool (x2 == (w64 (x1 - 1)))) := vt (hF1.at_ 21 rfl _ rfl) rfl
   refine wp_ret' ?_
   obtain rfl := Option.some.inj h
   exact ⟨(Value.bool (x2 == (w64 (x1 - 1)))), (res1 rfl q41), _, [], ((le1.trans le2).trans le25), I27, rfl, rfl⟩
 ·
  refine wp_draw (sps := [⟨some 7, [], [0], fun vs_ T_ => fr0 vs_ 0 = (fieldPtr (Value.pointer (some ⟨g1, 0, none⟩)) 1), [], [], [], fun _ h_ => h_⟩, ⟨some 8, [0], [1], fun vs_ T_ => RV T_ (fr0 vs_ 0) a0.distances, [], [], [], fun hle_ h_ => h_.mono hle_⟩, ⟨some 9, [], [2], fun vs_ T_ => fr0 vs_ 0 = (Value.int .i64 (a1)), [], [], [], fun _ h_ => h_⟩, ⟨some 10, [0, 1, 2], [3, 1], fun vs_ T_ => fr0 vs_ 0 = (elemPtr (fr0 vs_ 1) (a1) (Enc.sz Int)), [], [], [], fun _ h_ => h_⟩, ⟨some 11, [0, 1, 2, 3], [4], fun vs_ T_ => fr0 vs_ 0 = (Value.int .i64 (x1)), [], [], [], fun _ h_ => h_⟩, ⟨some 12, [0, 1, 2, 3, 4], [5], fun vs_ T_ => fr0 vs_ 0 = (Value.bool (decide (0 < x1))), [], [], [], fun _ h_ => h_⟩, ⟨some 13, [0, 1, 2, 3, 4, 5], [6], fun vs_ T_ => fr0 vs_ 0 = (Value.bool (decide (0 < x1))), [], [], [], fun _ h_ => h_⟩, ⟨some 14, [0, 1, 2, 3, 4, 5, 6], [7], fun vs_ T_ => fr0 vs_ 0 = undef, [], [], [], fun _ h_ => h_⟩, ⟨some 15, [0, 1, 2, 3, 4, 5, 6, 7], [8], fun vs_ T_ => fr0 vs_ 0 = undef, [], [], [], fun _ h_ => h_⟩, ⟨some 16, [0, 1, 2, 3, 4, 5, 6], [9], fun vs_ T_ => fr0 vs_ 0 = undef, [], [], [], fun _ h_ => h_⟩, ⟨some 17, [0, 1, 2, 3, 4, 5, 6, 9], [10], fun vs_ T_ => fr0 vs_ 0 = undef, [], [], [], fun _ h_ => h_⟩, ⟨some 18, [0, 1, 2, 3, 4, 5, 6, 7, 8, 9, 10], [11], fun vs_ T_ => fr0 vs_ 0 = undef, [], [], [], fun _ h_ => h_⟩, ⟨some 19, [0, 1, 2, 3, 4, 5, 6, 7, 8, 9, 10, 11], [12], fun vs_ T_ => fr0 vs_ 0 = undef, [], [], [], fun _ h_ => h_⟩, ⟨some 20, [0, 1, 2, 3, 4, 5, 6], [13], fun vs_ T_ => fr0 vs_ 0 = undef, [], [], [], fun _ h_ => h_⟩, ⟨some 21, [0, 1, 2, 3, 4, 5, 6, 13], [14], fun vs_ T_ => fr0 vs_ 0 = undef, [], [], [], fun _ h_ => h_⟩, ⟨some 22, [0, 1, 2, 3, 4, 5, 6], [15], fun vs_ T_ => fr0 vs_ 0 = undef, [], [], [], fun _ h_ => h_⟩, ⟨some 23, [0, 1, 2, 3, 4, 5, 6, 13, 14, 15], [16], fun vs_ T_ => fr0 vs_ 0 = undef, [], [], [], fun _ h_ => h_⟩, ⟨some 24, [0, 1, 2, 3, 4, 5, 6, 13, 14, 15, 16], [17], fun vs_ T_ => fr0 vs_ 0 = undef, [], [], [], fun _ h_ => h_⟩, ⟨some 25, [0, 1, 2, 3, 4, 5, 6, 13, 14, 15, 16, 17], [18], fun vs_ T_ => fr0 vs_ 0 = undef, [], [], [], fun _ h_ => h_⟩, ⟨some 26, [0, 1, 2, 3, 4, 5, 6, 7, 8, 9, 10, 11, 12, 13, 14, 15, 16, 17, 18], [19], fun vs_ T_ => fr0 vs_ 0 = undef, [], [], [], fun _ h_ => h_⟩, ⟨some 27, [0, 1, 2, 3, 4, 5, 6, 7, 8, 9, 10, 11, 12, 13, 14, 15, 16, 17, 18, 19], [20], fun vs_ T_ => fr0 vs_ 0 = (Value.bool (false)), [], [], [], fun _ h_ => h_⟩, ⟨some 6, [0, 1, 2, 3, 4, 5, 6, 7, 8, 9, 10, 11, 12, 13, 14, 15, 16, 17, 18, 19, 20], [21], fun vs_ T_ => fr0 vs_ 0 = (Value.bool (false)), [], [], [], fun _ h_ => h_⟩]) (tks := []) (O := Fr) rfl (by kernel_rfl) I4 ⟨?_, ?_, ?_, ?_, ?_, ?_, ?_, ?_, ?_, ?_, ?_, ?_, ?_, ?_, ?_, ?_, ?_, ?_, ?_, ?_, ?_, ?_, trivial⟩ ?_
  ·
   intro vs24 f w26 S26 X23 le26 hA23 hK24 hI24
   have I28 : Inv w26 S26 (X23) := hI24
   refine opg_plain rfl rfl (op_fieldAddr_t (v := (Value.pointer (some ⟨g1, 0, none⟩))) rfl fa64_1 (hK24 3 (keep_of rfl)) ((p1.mono (le2.trans le26)).at_ I28) ?_)
   refine ⟨_, _, rfl, PH.Le.refl _, ?_, ?_⟩
   ·
    exact rfl
   ·
    exact I28
  ·
   intro vs25 f w27 S27 X24 le27 hA24 hK25 hI25
   have I29 : Inv w27 S27 (X24) := hI25
   have q42 : f 7 = (fieldPtr (Value.pointer (some ⟨g1, 0, none⟩)) 1) := vt (hA24.at_ 0 rfl _ rfl) rfl
   refine opg_plain rfl rfl (op_load (v := (fieldPtr (Value.pointer (some ⟨g1, 0, none⟩)) 1)) (e := a0.distances) rfl sh26 q42 (((p1.mono (le2.trans le27)).at_ I29).fld Search_view.fld1) (fun u15 hu15 => ?_))
   obtain ⟨z12, m12, k12, e14⟩ := rv_form hu15
   subst e14
   refine ⟨_, _, rfl, PH.Le.refl _, ?_, ?_⟩
   ·
    exact hu15
   ·
    exact I29
  ·
   intro vs26 f w28 S28 X25 le28 hA25 hK26 hI26
   have I30 : Inv w28 S28 (X25) := hI26
   refine opg_plain rfl rfl (op_move (v := (Value.int .i64 (a1))) rfl (hK26 1 (keep_of rfl)) ?_)
   refine ⟨_, _, rfl, PH.Le.refl _, ?_, ?_⟩
   ·
    exact rfl
   ·
    exact I30
  ·
   intro vs27 f w29 S29 X26 le29 hA26 hK27 hI27
   have I31 : Inv w29 S29 (X26) := hI27
   have q43 : f 8 = vs27 1 := (hA26.at_ 1 rfl _ rfl).1 _ rfl
   have r9 : RV S29 (vs27 1) a0.distances := (hA26.at_ 1 rfl _ rfl).2
   obtain ⟨u16, hu16⟩ : ∃ u, vs27 1 = u := ⟨_, rfl⟩
   rw [hu16] at q43 r9
   obtain ⟨z13, m13, k13, e15⟩ := rv_form r9
   subst e15
   have q44 : f 9 = (Value.int .i64 (a1)) := vt (hA26.at_ 2 rfl _ rfl) rfl
   refine opg_plain rfl rfl (op_indexAddr_rv (v := (Value.slice z13 m13 k13)) (i := a1) (e := x1) rfl Try.underlying26 sh3 q43 r9 q44 hx1 ?_)
   refine ⟨_, _, rfl, PH.Le.refl _, ?_, ?_⟩
   ·
    show (elemPtr (Value.slice z13 m13 k13) (a1) (Enc.sz Int)) = (elemPtr (vs27 1) (a1) (Enc.sz Int))
    simp only [hu16] <;> rfl
   ·
    exact I31
  ·
   intro vs28 f w30 S30 X27 le30 hA27 hK28 hI28
   have I32 : Inv w30 S30 (X27) := hI28
   have q45 : f 8 = vs28 1 := (hA27.at_ 1 rfl _ rfl).1 _ rfl
   have r10 : RV S30 (vs28 1) a0.distances := (hA27.at_ 1 rfl _ rfl).2
   obtain ⟨u17, hu17⟩ : ∃ u, vs28 1 = u := ⟨_, rfl⟩
   rw [hu17] at q45 r10
   obtain ⟨z14, m14, k14, e16⟩ := rv_form r10
   subst e16
   have q46 : f 9 = (Value.int .i64 (a1)) := vt (hA27.at_ 2 rfl _ rfl) rfl
   have q47 : f 10 = (elemPtr (vs28 1) (a1) (Enc.sz Int)) := vt (hA27.at_ 3 rfl _ rfl) rfl
   simp only [hu17] at q47
   have q47 : f 10 = (elemPtr (Value.slice z14 m14 k14) (a1) (Enc.sz Int)) := q47
   refine opg_plain rfl rfl (op_load_int (v := (elemPtr (Value.slice z14 m14 k14) (a1) (Enc.sz Int))) (e := x1) rfl sh3 q47 (r10.elem I32.in_ hx1) ?_)
   refine ⟨_, _, rfl, PH.Le.refl _, ?_, ?_⟩
   ·
    exact rfl
   ·
    exact I32
  ·
   intro vs29 f w31 S31 X28 le31 hA28 hK29 hI29
   have I33 : Inv w31 S31 (X28) := hI29
   have q48 : f 11 = (Value.int .i64 (x1)) := vt (hA28.at_ 4 rfl _ rfl) rfl
   refine opg_plain rfl rfl (op_gtr (a := x1) (b := 0) rfl q48 rfl ?_)
   refine ⟨_, _, rfl, PH.Le.refl _, ?_, ?_⟩
   ·
    exact rfl
   ·
    exact I33
  ·
   intro vs30 f w32 S32 X29 le32 hA29 hK30 hI30
   have I34 : Inv w32 S32 (X29) := hI30
   have q49 : f 12 = (Value.bool (decide (0 < x1))) := vt (hA29.at_ 5 rfl _ rfl) rfl
   refine opg_plain rfl rfl (op_move (v := (Value.bool (decide (0 < x1)))) rfl q49 ?_)
   refine ⟨_, _, rfl, PH.Le.refl _, ?_, ?_⟩
   ·
    exact rfl
   ·
    exact I34
  ·
   intro vs31 f w33 S33 X30 le33 hA30 hK31 hI31
   have I35 : Inv w33 S33 (X30) := hI31
   have q50 : f 13 = (Value.bool (decide (0 < x1))) := vt (hA30.at_ 6 rfl _ rfl) rfl
   exact opg_skip (c := decide (0 < x1)) rfl rfl rfl rfl q50 hc1 rfl ⟨_, _, rfl, PH.Le.refl _, rfl, I35⟩
  ·
   intro vs32 f w34 S34 X31 le34 hA31 hK32 hI32
   have I36 : Inv w34 S34 (X31) := hI32
   have q51 : f 13 = (Value.bool (decide (0 < x1))) := vt (hA31.at_ 6 rfl _ rfl) rfl
   have q52 : f 14 = undef := vt (hA31.at_ 7 rfl _ rfl) rfl
   exact opg_skip (c := decide (0 < x1)) rfl rfl rfl rfl q51 hc1 rfl ⟨_, _, rfl, PH.Le.refl _, rfl, I36⟩
  ·
   intro vs33 f w35 S35 X32 le35 hA32 hK33 hI33
   have I37 : Inv w35 S35 (X32) := hI33
   have q53 : f 13 = (Value.bool (decide (0 < x1))) := vt (hA32.at_ 6 rfl _ rfl) rfl
   exact opg_skip (c := decide (0 < x1)) rfl rfl rfl rfl q53 hc1 rfl ⟨_, _, rfl, PH.Le.refl _, rfl, I37⟩
  ·
   intro vs34 f w36 S36 X33 le36 hA33 hK34 hI34
   have I38 : Inv w36 S36 (X33) := hI34
   have q54 : f 13 = (Value.bool (decide (0 < x1))) := vt (hA33.at_ 6 rfl _ rfl) rfl
   have q55 : f 16 = undef := vt (hA33.at_ 7 rfl _ rfl) rfl
   exact opg_skip (c := decide (0 < x1)) rfl rfl rfl rfl q54 hc1 rfl ⟨_, _, rfl, PH.Le.refl _, rfl, I38⟩
  ·
   intro vs35 f w37 S37 X34 le37 hA34 hK35 hI35
   have I39 : Inv w37 S37 (X34) := hI35
   have q56 : f 13 = (Value.bool (decide (0 < x1))) := vt (hA34.at_ 6 rfl _ rfl) rfl
   have q57 : f 15 = undef := vt (hA34.at_ 8 rfl _ rfl) rfl
   have q58 : f 17 = undef := vt (hA34.at_ 10 rfl _ rfl) rfl
   exact opg_skip (c := decide (0 < x1)) rfl rfl rfl rfl q56 hc1 rfl ⟨_, _, rfl, PH.Le.refl _, rfl, I39⟩
  ·
   intro vs36 f w38 S38 X35 le38 hA35 hK36 hI36
   have I40 : Inv w38 S38 (X35) := hI36
   have q59 : f 13 = (Value.bool (decide (0 < x1))) := vt (hA35.at_ 6 rfl _ rfl) rfl
   have q60 : f 18 = undef := vt (hA35.at_ 11 rfl _ rfl) rfl
   exact opg_skip (c := decide (0 < x1)) rfl rfl rfl rfl q59 hc1 rfl ⟨_, _, rfl, PH.Le.refl _, rfl, I40⟩
  ·
   intro vs37 f w39 S39 X36 le39 hA36 hK37 hI37
   have I41 : Inv w39 S39 (X36) := hI37
   have q61 : f 13 = (Value.bool (decide (0 < x1))) := vt (hA36.at_ 6 rfl _ rfl) rfl
   exact opg_skip (c := decide (0 < x1)) rfl rfl rfl rfl q61 hc1 rfl ⟨_, _, rfl, PH.Le.refl _, rfl, I41⟩
  ·
   intro vs38 f w40 S40 X37 le40 hA37 hK38 hI38
   have I42 : Inv w40 S40 (X37) := hI38
   have q62 : f 13 = (Value.bool (decide (0 < x1))) := vt (hA37.at_ 6 rfl _ rfl) rfl
   have q63 : f 20 = undef := vt (hA37.at_ 7 rfl _ rfl) rfl
   exact opg_skip (c := decide (0 < x1)) rfl rfl rfl rfl q62 hc1 rfl ⟨_, _, rfl, PH.Le.refl _, rfl, I42⟩
  ·
   intro vs39 f w41 S41 X38 le41 hA38 hK39 hI39
   have I43 : Inv w41 S41 (X38) := hI39
   have q64 : f 13 = (Value.bool (decide (0 < x1))) := vt (hA38.at_ 6 rfl _ rfl) rfl
   exact opg_skip (c := decide (0 < x1)) rfl rfl rfl rfl q64 hc1 rfl ⟨_, _, rfl, PH.Le.refl _, rfl, I43⟩
  ·
   intro vs40 f w42 S42 X39 le42 hA39 hK40 hI40
   have I44 : Inv w42 S42 (X39) := hI40
   have q65 : f 13 = (Value.bool (decide (0 < x1))) := vt (hA39.at_ 6 rfl _ rfl) rfl
   have q66 : f 21 = undef := vt (hA39.at_ 8 rfl _ rfl) rfl
   have q67 : f 22 = undef := vt (hA39.at_ 9 rfl _ rfl) rfl
   exact opg_skip (c := decide (0 < x1)) rfl rfl rfl rfl q65 hc1 rfl ⟨_, _, rfl, PH.Le.refl _, rfl, I44⟩
  ·
   intro vs41 f w43 S43 X40 le43 hA40 hK41 hI41
   have I45 : Inv w43 S43 (X40) := hI41
   have q68 : f 13 = (Value.bool (decide (0 < x1))) := vt (hA40.at_ 6 rfl _ rfl) rfl
   have q69 : f 23 = undef := vt (hA40.at_ 10 rfl _ rfl) rfl
   exact opg_skip (c := decide (0 < x1)) rfl rfl rfl rfl q68 hc1 rfl ⟨_, _, rfl, PH.Le.refl _, rfl, I45⟩
  ·
   intro vs42 f w44 S44 X41 le44 hA41 hK42 hI42
   have I46 : Inv w44 S44 (X41) := hI42
   have q70 : f 13 = (Value.bool (decide (0 < x1))) := vt (hA41.at_ 6 rfl _ rfl) rfl
   have q71 : f 24 = undef := vt (hA41.at_ 11 rfl _ rfl) rfl
   exact opg_skip (c := decide (0 < x1)) rfl rfl rfl rfl q70 hc1 rfl ⟨_, _, rfl, PH.Le.refl _, rfl, I46⟩
  ·
   intro vs43 f w45 S45 X42 le45 hA42 hK43 hI43
   have I47 : Inv w45 S45 (X42) := hI43
   have q72 : f 13 = (Value.bool (decide (0 < x1))) := vt (hA42.at_ 6 rfl _ rfl) rfl
   have q73 : f 19 = undef := vt (hA42.at_ 12 rfl _ rfl) rfl
   have q74 : f 25 = undef := vt (hA42.at_ 18 rfl _ rfl) rfl
   exact opg_skip (c := decide (0 < x1)) rfl rfl rfl rfl q72 hc1 rfl ⟨_, _, rfl, PH.Le.refl _, rfl, I47⟩
  ·
   intro vs44 f w46 S46 X43 le46 hA43 hK44 hI44
   have I48 : Inv w46 S46 (X43) := hI44
   have q75 : f 13 = (Value.bool (decide (0 < x1))) := vt (hA43.at_ 6 rfl _ rfl) rfl
   have q76 : f 26 = undef := vt (hA43.at_ 19 rfl _ rfl) rfl
   refine opg_plain rfl rfl (op_pick_f (c := decide (0 < x1)) (b := (Value.bool (false))) rfl q75 hc1 rfl ?_)
   refine ⟨_, _, rfl, PH.Le.refl _, ?_, ?_⟩
   ·
    exact rfl
   ·
    exact I48
  ·
   intro vs45 f w47 S47 X44 le47 hA44 hK45 hI45
   have I49 : Inv w47 S47 (X44) := hI45
   have q77 : f 27 = (Value.bool (false)) := vt (hA44.at_ 20 rfl _ rfl) rfl
   refine opg_plain rfl rfl (op_assign (v := (Value.bool (false))) rfl q77 ?_)
   refine ⟨_, _, rfl, PH.Le.refl _, ?_, ?_⟩
   ·
    exact rfl
   ·
    exact I49
  ·
   intro vs46 f w48 S48 le48 hF2 hK46 hI46
   have I50 : Inv w48 S48 (Fr) := hI46
   have q78 : f 6 = (Value.bool (false)) := vt (hF2.at_ 21 rfl _ rfl) rfl
   refine wp_ret' ?_
   obtain rfl := Option.some.inj h
   exact ⟨(Value.bool (false)), (res1 rfl q78), _, [], ((le1.trans le2).trans le48), I50, rfl, rfl⟩

set_option maxHeartbeats 4000000 in
set_option maxRecDepth 100000 in
theorem F34_ok {w : World} {S : PH} {Fr : List HP} {a0 : Graph} {v0 : Value} {a1 : (List Int)} {v1 : Value} {r : (List Int) × Int} (hI : Inv w S (Fr)) (h0_ : RV S v0 a0) (h1_ : RV S v1 a1) (h : F34 a0 a1 = some r) :
    Calls Try.prog 34 [v0, v1].toArray w (Done S Fr (fun T_ v_ O_ => ∃ (a0_ : Option Addr) (n0_ k0_ : Nat), v_ = (Value.tuple #[(Value.slice a0_ n0_ k0_), (Value.int .i64 (r.2))]) ∧ O_ = [Row (α := Int) 3 (Value.slice a0_ n0_ k0_) (r.1)])) := by
 unfold F34 at h
 obtain ⟨c1, c2, e1, r1, r2⟩ := Graph.inv h0_
 subst e1
 obtain ⟨z1, m1, k1, e2⟩ := rv_form r1
 subst e2
 obtain ⟨z2, m2, k2, e3⟩ := rv_form r2
 subst e3
 obtain ⟨z3, m3, k3, e4⟩ := rv_form h1_
 subst e4
 refine calls_enter (n := 53) (vs := [(Value.agg #[(Value.slice z1 m1 k1), (Value.slice z2 m2 k2)]), (Value.slice z3 m3 k3)]) Try.func34 rfl rfl rfl ?_
 refine wp_seq' ?_
 refine wp_region' ?_
 refine wl_op rfl (op_box (v := (Value.agg #[(Value.slice z1 m1 k1), (Value.slice z2 m2 k2)])) rfl hI rfl (fun g1 w1 I1 => ?_))
 obtain ⟨S1, le1, I2, p1⟩ := Inv.boxFreeze (x := a0) I1 (Graph.rv (s := a0) r1 r2)
 refine wl_op rfl (op_assign (v := (Value.slice none 0 0)) rfl rfl ?_)
 refine wl_op rfl (op_assign (v := (Value.int .i64 (0))) rfl rfl ?_)
 refine wl_nil ?_
 refine wp_seq' ?_
 refine wp_region' ?_
 refine wl_op rfl (op_load (v := (Value.pointer (some ⟨g1, 0, none⟩))) (e := a0) rfl sh25 rfl (p1.at_ I2) (fun u1 hu1 => ?_))
 obtain ⟨c3, c4, e5, r3, r4⟩ := Graph.inv hu1
 subst e5
 obtain ⟨z4, m4, k4, e6⟩ := rv_form r3
 subst e6
 obtain ⟨z5, m5, k5, e7⟩ := rv_form r4
 subst e7
 refine wl_op rfl (op_move (v := (Value.slice z3 m3 k3)) rfl rfl ?_)
 obtain ⟨x1, hx1, h⟩ := bnd h
 refine wl_op rfl (op_call (vs := [(Value.agg #[(Value.slice z4 m4 k4), (Value.slice z5 m5 k5)]), (Value.slice z3 m3 k3)]) rfl ca57 rfl (args2 rfl rfl) (F57_ok I2 (Graph.rv (s := a0) r3 r4) (h1_.mono le1) hx1) (fun v1 w2 S2 O1 le2 I3 hv1 => ?_))
 obtain ⟨c5, rfl, rfl, r5⟩ := hv1
 obtain ⟨c6, c7, e8, r6, r7⟩ := Search_view.inv r5
 subst e8
 obtain ⟨z6, m6, k6, e9⟩ := rv_form r6
 subst e9
 obtain ⟨z7, m7, k7, e10⟩ := rv_form r7
 subst e10
 refine wl_op rfl (op_move (v := (Value.tuple #[(Value.agg #[(Value.slice z6 m6 k6), (Value.slice z7 m7 k7)]), (Value.int .i64 (x1.2))])) rfl rfl ?_)
 refine wl_op rfl (op_extract (v := (Value.agg #[(Value.slice z6 m6 k6), (Value.slice z7 m7 k7)])) rfl rfl rfl ?_)
 refine wl_op rfl (op_extract (v := (Value.int .i64 (x1.2))) rfl rfl rfl ?_)
 refine wl_op rfl (op_alloc (z := (Value.agg #[(Value.slice none 0 0), (Value.slice none 0 0)])) rfl I3 zo64 (fun g2 w3 (I4 : Inv w3 S2 (Cells g2 64 #[(Value.slice none 0 0), (Value.slice none 0 0)] :: Fr)) => ?_))
 refine wl_op rfl (op_store (v := (Value.agg #[(Value.slice z6 m6 k6), (Value.slice z7 m7 k7)])) (cs := #[(Value.slice none 0 0), (Value.slice none 0 0)]) sh64 I4 rfl rfl rfl (Nat.le_of_ble_eq_true rfl) rfl (fun w4 (I5 : Inv w4 S2 (Cells g2 64 #[(Value.slice z6 m6 k6), (Value.slice z7 m7 k7)] :: Fr)) => ?_))
 refine wl_op rfl (op_assign (v := (Value.int .i64 (x1.2))) rfl rfl ?_)
 refine wl_nil ?_
 refine wp_seq' ?_
 refine wp_seq' ?_
 refine wp_region' ?_
 refine wl_op rfl (op_move (v := (Value.int .i64 (x1.2))) rfl rfl ?_)
 refine wl_op rfl (op_neq (a := x1.2) (b := 0) rfl rfl rfl ?_)
 refine wl_nil ?_
 rcases ifs h with ⟨hc1, h⟩ | ⟨hc1, h⟩
 ·
  refine wp_cond_t (b := x1.2 != 0) rfl hc1 ?_
  refine wp_seq' ?_
  refine wp_region' ?_
  refine wl_op rfl (op_move (v := (Value.int .i64 (x1.2))) rfl rfl ?_)
  refine wl_op rfl (op_assign (v := (Value.slice none 0 0)) rfl rfl ?_)
  refine wl_op rfl (op_assign (v := (Value.int .i64 (x1.2))) rfl rfl ?_)
  refine wl_nil ?_
  refine wp_ret' ?_
  have I6 := Inv.rowNil (α := Int) (T := 3) I5
  obtain rfl := Option.some.inj h
  exact ⟨(Value.tuple #[(Value.slice none 0 0), (Value.int .i64 (x1.2))]), (res2 rfl rfl rfl), _, [Row (α := Int) 3 (Value.slice none 0 0) (([] : List Int))], (le1.trans le2), (I6.pull 1).drop, _, _, _, rfl, rfl⟩
 ·
  refine wp_cond_f (b := x1.2 != 0) rfl hc1 ?_
  refine wp_skip' ?_
  refine wp_seq' ?_
  refine wp_region' ?_
  refine wl_op rfl (op_move (v := (Value.slice z3 m3 k3)) rfl rfl ?_)
  refine wl_op rfl (op_len_rv rfl Try.underlying26 rfl (h1_.mono (le1.trans le2)) ?_)
  obtain ⟨x2, hx2, h⟩ := bnd h
  refine wl_op rfl (op_makeSlice (c := (a1.length : Int)) rfl Try.underlying26 el3 (by decide) rfl rfl I5 hx2 (fun u2 w5 I7 => ?_))
  obtain ⟨z8, m8, k8, e11⟩ := row_form I7
  subst e11
  refine wl_op rfl (op_assign (v := (Value.slice z8 m8 k8)) rfl rfl ?_)
  refine wl_nil ?_
  refine wp_seq' ?_
  refine wp_seq' ?_
  refine wp_region' ?_
  refine wl_op rfl (op_fieldAddr (v := (Value.pointer (some ⟨g2, 0, none⟩))) rfl fa64_0 rfl rfl ?_)
  refine wl_op rfl (op_load1 (c := (Value.slice z6 m6 k6)) rfl sh23 (I7.nth 1 rfl) rfl rfl ?_)
  refine wl_op rfl (op_len_rv rfl Try.underlying23 rfl r6 ?_)
  refine wl_op rfl (op_move (v := (Value.int .i64 (0))) rfl rfl ?_)
  refine wl_nil ?_
  have hk4 : x1.1.edges.length ≤ 9223372036854775807 := (rv_len r6)
  obtain ⟨out4, hrun4, h⟩ := bnd h
  refine wp_cutN (fun f w => Inv w S2 (Cells g2 64 #[(Value.slice z6 m6 k6), (Value.slice z7 m7 k7)] :: Row (α := Int) 3 (Value.slice z8 m8 k8) (out4) :: Fr) ∧ f 6 = (Value.pointer (some ⟨g2, 0, none⟩)) ∧ f 8 = (Value.slice z8 m8 k8) ∧ f 26 = (Value.slice z6 m6 k6) ∧ f 27 = (Value.int .i64 ((x1.1.edges.length : Int)))) ?_ ?_
  ·
   refine wp_block' ?_
   refine wp_forS (I := fun (i4 : Nat) (s4 : (List Int)) (f : Frm) (w : World) => Inv w S2 (Cells g2 64 #[(Value.slice z6 m6 k6), (Value.slice z7 m7 k7)] :: Row (α := Int) 3 (Value.slice z8 m8 k8) (s4) :: Fr) ∧ f 6 = (Value.pointer (some ⟨g2, 0, none⟩)) ∧ f 8 = (Value.slice z8 m8 k8) ∧ f 26 = (Value.slice z6 m6 k6) ∧ f 27 = (Value.int .i64 ((x1.1.edges.length : Int))) ∧ f 28 = (Value.int .i64 (i4 : Int))) hrun4 ⟨(I7.pull 1), rfl, rfl, rfl, rfl, rfl⟩ ?_ ?_
   ·
    rintro i4 s4 f w o4 hlt4 hI7 h7
    obtain ⟨I77, e201, e202, e203, e204, e205⟩ := hI7
    refine wp_seq' ?_
    refine wp_region' ?_
    refine wl_op rfl (op_lss (a := (i4 : Int)) (b := (x1.1.edges.length : Int)) rfl e205 e204 ?_)
    refine wl_nil ?_
    refine wp_seq' ?_
    refine wp_cond_t (b := decide ((i4 : Int) < (x1.1.edges.length : Int))) rfl (len_t hlt4) ?_
    refine wp_skip' ?_
    refine wp_seq' ?_
    refine wp_block' ?_
    refine wp_seq' ?_
    refine wp_region' ?_
    refine wl_op rfl (op_move (v := (Value.int .i64 ((i4 : Int)))) rfl e205 ?_)
    obtain ⟨x54, hx54, h7⟩ := bnd h7
    refine wl_op rfl (op_indexAddr_rv (v := (Value.slice z6 m6 k6)) (i := (i4 : Int)) (e := x54) rfl Try.underlying23 sh40 e203 r6 e205 hx54 ?_)
    refine wl_op rfl (op_load (v := (elemPtr (Value.slice z6 m6 k6) ((i4 : Int)) (Enc.sz (List Edge)))) (e := x54) rfl sh40 rfl (r6.elem I77.in_ hx54) (fun u18 hu17 => ?_))
    obtain ⟨z12, m12, k12, e206⟩ := rv_form hu17
    subst e206
    refine wl_op rfl (op_assign (v := (Value.int .i64 ((i4 : Int)))) rfl rfl ?_)
    refine wl_op rfl (op_assign (v := (Value.slice z12 m12 k12)) rfl rfl ?_)
    refine wl_nil ?_
    refine wp_seq' ?_
    refine wp_region' ?_
    refine wl_op rfl (op_move (v := (Value.slice z12 m12 k12)) rfl rfl ?_)
    refine wl_op rfl (op_len_rv rfl Try.underlying40 rfl hu17 ?_)
    refine wl_op rfl (op_move (v := (Value.int .i64 (0))) rfl rfl ?_)
    refine wl_nil ?_
    have hk5 : x54.length ≤ 9223372036854775807 := (rv_len hu17)
    obtain ⟨out5, hrun5, h7⟩ := bnd h7
    refine wp_cutN (fun f w => Inv w S2 (Cells g2 64 #[(Value.slice z6 m6 k6), (Value.slice z7 m7 k7)] :: Row (α := Int) 3 (Value.slice z8 m8 k8) (out5) :: Fr) ∧ f 6 = (Value.pointer (some ⟨g2, 0, none⟩)) ∧ f 8 = (Value.slice z8 m8 k8) ∧ f 9 = (Value.int .i64 ((i4 : Int))) ∧ f 26 = (Value.slice z6 m6 k6) ∧ f 27 = (Value.int .i64 ((x1.1.edges.length : Int))) ∧ f 28 = (Value.int .i64 ((i4 : Int))) ∧ f 33 = (Value.slice z12 m12 k12) ∧ f 34 = (Value.int .i64 ((x54.length : Int)))) ?_ ?_
    ·
     refine wp_block' ?_
     refine wp_forS (I := fun (i5 : Nat) (s5 : (List Int)) (f : Frm) (w : World) => Inv w S2 (Cells g2 64 #[(Value.slice z6 m6 k6), (Value.slice z7 m7 k7)] :: Row (α := Int) 3 (Value.slice z8 m8 k8) (s5) :: Fr) ∧ f 6 = (Value.pointer (some ⟨g2, 0, none⟩)) ∧ f 8 = (Value.slice z8 m8 k8) ∧ f 9 = (Value.int .i64 ((i4 : Int))) ∧ f 26 = (Value.slice z6 m6 k6) ∧ f 27 = (Value.int .i64 ((x1.1.edges.length : Int))) ∧ f 28 = (Value.int .i64 ((i4 : Int))) ∧ f 33 = (Value.slice z12 m12 k12) ∧ f 34 = (Value.int .i64 ((x54.length : Int))) ∧ f 35 = (Value.int .i64 (i5 : Int))) hrun5 ⟨((I77.pull 1).pull 1), e201, e202, rfl, e203, e204, e205, rfl, rfl, rfl⟩ ?_ ?_
     ·
      rintro i5 s5 f w o5 hlt5 hI8 h9
      obtain ⟨I93, e237, e238, e239, e240, e241, e242, e243, e244, e245⟩ := hI8
      refine wp_seq' ?_
      refine wp_region' ?_
      refine wl_op rfl (op_lss (a := (i5 : Int)) (b := (x54.length : Int)) rfl e245 e244 ?_)
      refine wl_nil ?_
      refine wp_seq' ?_
      refine wp_cond_t (b := decide ((i5 : Int) < (x54.length : Int))) rfl (len_t hlt5) ?_
      refine wp_skip' ?_
      refine wp_seq' ?_
      refine wp_block' ?_
      refine wp_seq' ?_
      refine wp_region' ?_
      obtain ⟨x67, hx67, h9⟩ := bnd h9
      refine wl_op rfl (op_indexAddr_rv (v := (Value.slice z12 m12 k12)) (i := (i5 : Int)) (e := x67) rfl Try.underlying40 sh44 e243 hu17 e245 hx67 ?_)
      refine wl_op rfl (op_load (v := (elemPtr (Value.slice z12 m12 k12) ((i5 : Int)) (Enc.sz Edge))) (e := x67) rfl sh44 rfl (hu17.elem I93.in_ hx67) (fun u22 hu21 => ?_))
      have e246 := Edge.inv hu21
      subst e246
      refine wl_op rfl (op_alloc (z := (Value.agg #[(Value.int .i64 (0)), (Value.int .i64 (0)), (Value.int .i64 (0)), (Value.int .i64 (0))])) rfl I93 zo44 (fun g18 w67 (I94 : Inv w67 S2 (Cells g18 44 #[(Value.int .i64 (0)), (Value.int .i64 (0)), (Value.int .i64 (0)), (Value.int .i64 (0))] :: Cells g2 64 #[(Value.slice z6 m6 k6), (Value.slice z7 m7 k7)] :: Row (α := Int) 3 (Value.slice z8 m8 k8) (s5) :: Fr)) => ?_))
      refine wl_op rfl (op_store (v := (Value.agg #[(Value.int .i64 (x67.Move.Player)), (Value.int .i64 (x67.Move.Kind)), (Value.int .i64 (x67.Move.Number)), (Value.int .i64 (x67.To))])) (cs := #[(Value.int .i64 (0)), (Value.int .i64 (0)), (Value.int .i64 (0)), (Value.int .i64 (0))]) sh44 I94 rfl rfl rfl (Nat.le_of_ble_eq_true rfl) rfl (fun w68 (I95 : Inv w68 S2 (Cells g18 44 #[(Value.int .i64 (x67.Move.Player)), (Value.int .i64 (x67.Move.Kind)), (Value.int .i64 (x67.Move.Number)), (Value.int .i64 (x67.To))] :: Cells g2 64 #[(Value.slice z6 m6 k6), (Value.slice z7 m7 k7)] :: Row (α := Int) 3 (Value.slice z8 m8 k8) (s5) :: Fr)) => ?_))
      refine wl_nil ?_
      refine wp_seq' ?_
      refine wp_region' ?_
      refine wl_op rfl (op_loadN (l := [(Value.slice z6 m6 k6), (Value.slice z7 m7 k7)]) rfl sh64 (I95.nth 1 rfl) e237 rfl rfl ?_)
      refine wl_op rfl (op_move (v := (Value.int .i64 ((i4 : Int)))) rfl e239 ?_)
      refine wl_op rfl (op_loadN (l := [(Value.int .i64 (x67.Move.Player)), (Value.int .i64 (x67.Move.Kind)), (Value.int .i64 (x67.Move.Number)), (Value.int .i64 (x67.To))]) rfl sh44 (I95.nth 0 rfl) rfl rfl rfl ?_)
      obtain ⟨x68, hx68, h9⟩ := bnd h9
      refine wl_op rfl (op_call_v (vs := [(Value.agg #[(Value.slice z6 m6 k6), (Value.slice z7 m7 k7)]), (Value.int .i64 ((i4 : Int))), (Value.agg #[(Value.int .i64 (x67.Move.Player)), (Value.int .i64 (x67.Move.Kind)), (Value.int .i64 (x67.Move.Number)), (Value.int .i64 (x67.To))])]) (r := (Value.bool (x68))) rfl ca58 rfl (args3 rfl rfl rfl) I95 (fun Fr_ hF_ => F58_ok hF_ (Search_view.rv (s := x1.1) r6 r7) (Edge.rv (s := x67)) hx68) (fun w69 I96 => ?_))
      refine wl_op rfl (op_not (b := x68) rfl rfl ?_)
      refine wl_nil ?_
      rcases ifs h9 with ⟨hc17, h9⟩ | ⟨hc17, h9⟩
      ·
       refine wp_cond_t (b := !x68) rfl hc17 ?_
       refine wp_region' ?_
       refine wl_op rfl (op_move (v := (Value.slice z8 m8 k8)) rfl e238 ?_)
       refine wl_op rfl (op_move (v := (Value.int .i64 ((i4 : Int)))) rfl e239 ?_)
       obtain ⟨x69, hx69, h9⟩ := bnd h9
       refine wl_op rfl (op_indexAddr_src (v := (Value.slice z8 m8 k8)) (i := (i4 : Int)) (e := x69) rfl Try.underlying26 sh3 rfl (Inv.rowSrc (I96.nth 2 rfl)) rfl hx69 ?_)
       refine wl_op rfl (op_load_int (v := (elemPtr (Value.slice z8 m8 k8) ((i4 : Int)) (Enc.sz Int))) (e := x69) rfl sh3 rfl ((I96.nth 2 rfl).rowElem hx69) ?_)
       refine wl_op rfl (op_add (a := x69) (b := 1) rfl rfl rfl ?_)
       obtain ⟨x70, hx70, h9⟩ := bnd h9
       refine wl_op rfl (op_indexAddr_src (v := (Value.slice z8 m8 k8)) (i := (i4 : Int)) (e := x70) rfl Try.underlying26 sh3 rfl (Inv.rowSrc (I96.nth 2 rfl)) rfl hx70 ?_)
       refine wl_op rfl (op_storeRow (u := (Value.int .i64 (w64 (x69 + 1)))) (e' := w64 (x69 + 1)) sh3 (I96.pull 2) rfl rfl hx70 (rv_int' _) (fun w70 I97 => ?_))
       refine wl_nil ?_
       refine wp_region' ?_
       refine wl_op rfl (op_add (a := (i5 : Int)) (b := 1) rfl e245 rfl ?_)
       refine wl_op rfl (op_move (v := (Value.int .i64 (w64 ((i5 : Int) + 1)))) rfl rfl ?_)
       refine wl_nil ?_
       obtain rfl := Option.some.inj h9
       exact ⟨((I97.pull 1).drop.pull 1), e237, e238, e239, e240, e241, e242, e243, e244, (idx_next hlt5 hk5)⟩
      ·
       refine wp_cond_f (b := !x68) rfl hc17 ?_
       refine wp_skip' ?_
       refine wp_region' ?_
       refine wl_op rfl (op_add (a := (i5 : Int)) (b := 1) rfl e245 rfl ?_)
       refine wl_op rfl (op_move (v := (Value.int .i64 (w64 ((i5 : Int) + 1)))) rfl rfl ?_)
       refine wl_nil ?_
       obtain rfl := Option.some.inj h9
       exact ⟨(((I96).drop.pull 1).pull 1), e237, e238, e239, e240, e241, e242, e243, e244, (idx_next hlt5 hk5)⟩
     ·
      rintro f w hI9
      obtain ⟨I98, e247, e248, e249, e250, e251, e252, e253, e254, e255⟩ := hI9
      refine wp_seq' ?_
      refine wp_region' ?_
      refine wl_op rfl (op_lss (a := (x54.length : Int)) (b := (x54.length : Int)) rfl e255 e254 ?_)
      refine wl_nil ?_
      refine wp_seq' ?_
      refine wp_cond_f (b := decide ((x54.length : Int) < (x54.length : Int))) rfl (len_f _) ?_
      refine wp_exit' ?_
      exact ⟨((I98.pull 1).pull 1), e247, e248, e249, e250, e251, e252, e253, e254⟩
    ·
     rintro f w ⟨I99, e256, e257, e258, e259, e260, e261, e262, e263⟩
     refine wp_region' ?_
     refine wl_op rfl (op_add (a := (i4 : Int)) (b := 1) rfl e261 rfl ?_)
     refine wl_op rfl (op_move (v := (Value.int .i64 (w64 ((i4 : Int) + 1)))) rfl rfl ?_)
     refine wl_nil ?_
     obtain rfl := Option.some.inj h7
     exact ⟨((I99.pull 1).pull 1), e256, e257, e259, e260, (idx_next hlt4 hk4)⟩
   ·
    rintro f w hI10
    obtain ⟨I100, e264, e265, e266, e267, e268⟩ := hI10
    refine wp_seq' ?_
    refine wp_region' ?_
    refine wl_op rfl (op_lss (a := (x1.1.edges.length : Int)) (b := (x1.1.edges.length : Int)) rfl e268 e267 ?_)
    refine wl_nil ?_
    refine wp_seq' ?_
    refine wp_cond_f (b := decide ((x1.1.edges.length : Int) < (x1.1.edges.length : Int))) rfl (len_f _) ?_
    refine wp_exit' ?_
    exact ⟨((I100.pull 1).pull 1), e264, e265, e266, e267⟩
  ·
   rintro f w ⟨I101, e269, e270, e271, e272⟩
   refine wp_seq' ?_
   refine wp_region' ?_
   refine wl_op rfl (op_move (v := (Value.slice z8 m8 k8)) rfl e270 ?_)
   refine wl_op rfl (op_assign (v := (Value.slice z8 m8 k8)) rfl rfl ?_)
   refine wl_op rfl (op_assign (v := (Value.int .i64 (0))) rfl rfl ?_)
   refine wl_nil ?_
   refine wp_ret' ?_
   obtain rfl := Option.some.inj h
   exact ⟨(Value.tuple #[(Value.slice z8 m8 k8), (Value.int .i64 (0))]), (res2 rfl rfl rfl), _, [Row (α := Int) 3 (Value.slice z8 m8 k8) (out4)], (le1.trans le2), (I101).drop, _, _, _, rfl, rfl⟩

set_option maxHeartbeats 4000000 in
set_option maxRecDepth 100000 in
theorem F60_ok {w : World} {S : PH} {Fr : List HP} {a0 : Edge} {v0 : Value} {a1 : Search_view} {v1 : Value} {a2 : Int} {v2 : Value} {r : Bool} (hI : Inv w S (Fr)) (h0_ : RV S v0 a0) (h1_ : PtS S v1 a1) (h2_ : PtS S v2 a2) (h : F60 a0 a1 a2 = some r) :
    Calls Try.prog 60 [v0, v1, v2].toArray w (DoneV S Fr (Value.bool (r))) := by
 unfold F60 at h
 have e1 := Edge.inv h0_
 subst e1
 refine calls_enter (n := 9) (vs := [(Value.agg #[(Value.int .i64 (a0.Move.Player)), (Value.int .i64 (a0.Move.Kind)), (Value.int .i64 (a0.Move.Number)), (Value.int .i64 (a0.To))]), v1, v2]) Try.func60 rfl rfl rfl ?_
 refine wp_seq' ?_
 refine wp_region' ?_
 refine wl_op rfl (op_box (v := (Value.agg #[(Value.int .i64 (a0.Move.Player)), (Value.int .i64 (a0.Move.Kind)), (Value.int .i64 (a0.Move.Number)), (Value.int .i64 (a0.To))])) rfl hI rfl (fun g1 w1 I1 => ?_))
 obtain ⟨S1, le1, I2, p1⟩ := Inv.boxFreeze (x := a0) I1 (Edge.rv (s := a0))
 refine wl_op rfl (op_assign (v := (Value.bool (false))) rfl rfl ?_)
 refine wl_nil ?_
 refine wp_seq' ?_
 refine wp_region' ?_
 refine wl_op rfl (op_load (v := v1) (e := a1) rfl sh64 rfl ((h1_.mono le1).at_ I2) (fun u1 hu1 => ?_))
 obtain ⟨c1, c2, e2, r1, r2⟩ := Search_view.inv hu1
 subst e2
 obtain ⟨z1, m1, k1, e3⟩ := rv_form r1
 subst e3
 obtain ⟨z2, m2, k2, e4⟩ := rv_form r2
 subst e4
 refine wl_op rfl (op_load_int (v := v2) (e := a2) rfl sh3 rfl ((h2_.mono le1).at_ I2) ?_)
 refine wl_op rfl (op_load (v := (Value.pointer (some ⟨g1, 0, none⟩))) (e := a0) rfl sh44 rfl (p1.at_ I2) (fun u2 hu2 => ?_))
 have e5 := Edge.inv hu2
 subst e5
 obtain ⟨x1, hx1, h⟩ := bnd h
 refine wl_op rfl (op_call_v (vs := [(Value.agg #[(Value.slice z1 m1 k1), (Value.slice z2 m2 k2)]), (Value.int .i64 (a2)), (Value.agg #[(Value.int .i64 (a0.Move.Player)), (Value.int .i64 (a0.Move.Kind)), (Value.int .i64 (a0.Move.Number)), (Value.int .i64 (a0.To))])]) (r := (Value.bool (x1))) rfl ca58 rfl (args3 rfl rfl rfl) I2 (fun Fr_ hF_ => F58_ok hF_ (Search_view.rv (s := a1) r1 r2) (Edge.rv (s := a0)) hx1) (fun w2 I3 => ?_))
 refine wl_op rfl (op_assign (v := (Value.bool (x1))) rfl rfl ?_)
 refine wl_nil ?_
 refine wp_ret' ?_
 obtain rfl := Option.some.inj h
 exact ⟨(Value.bool (x1)), (res1 rfl rfl), _, [], le1, I3, rfl, rfl⟩

set_option maxHeartbeats 4000000 in
set_option maxRecDepth 100000 in
theorem F35_ok {w : World} {S : PH} {Fr : List HP} {a0 : Graph} {v0 : Value} {a1 : (List Int)} {v1 : Value} {r : (List Int) × Int} (hI : Inv w S (Fr)) (h0_ : RV S v0 a0) (h1_ : RV S v1 a1) (h : F35 a0 a1 = some r) :
    Calls Try.prog 35 [v0, v1].toArray w (Done S Fr (fun T_ v_ O_ => ∃ (a0_ : Option Addr) (n0_ k0_ : Nat), v_ = (Value.tuple #[(Value.slice a0_ n0_ k0_), (Value.int .i64 (r.2))]) ∧ O_ = [Row (α := Int) 3 (Value.slice a0_ n0_ k0_) (r.1)])) := by
 unfold F35 at h
 obtain ⟨c1, c2, e1, r1, r2⟩ := Graph.inv h0_
 subst e1
 obtain ⟨z1, m1, k1, e2⟩ := rv_form r1
 subst e2
 obtain ⟨z2, m2, k2, e3⟩ := rv_form r2
 subst e3
 obtain ⟨z3, m3, k3, e4⟩ := rv_form h1_
 subst e4
 refine calls_enter (n := 46) (vs := [(Value.agg #[(Value.slice z1 m1 k1), (Value.slice z2 m2 k2)]), (Value.slice z3 m3 k3)]) Try.func35 rfl rfl rfl ?_
 refine wp_seq' ?_
 refine wp_region' ?_
 refine wl_op rfl (op_box (v := (Value.agg #[(Value.slice z1 m1 k1), (Value.slice z2 m2 k2)])) rfl hI rfl (fun g1 w1 I1 => ?_))
 obtain ⟨S1, le1, I2, p1⟩ := Inv.boxFreeze (x := a0) I1 (Graph.rv (s := a0) r1 r2)
 refine wl_op rfl (op_assign (v := (Value.slice none 0 0)) rfl rfl ?_)
 refine wl_op rfl (op_assign (v := (Value.int .i64 (0))) rfl rfl ?_)
 refine wl_nil ?_
 refine wp_seq' ?_
 refine wp_region' ?_
 refine wl_op rfl (op_load (v := (Value.pointer (some ⟨g1, 0, none⟩))) (e := a0) rfl sh25 rfl (p1.at_ I2) (fun u1 hu1 => ?_))
 obtain ⟨c3, c4, e5, r3, r4⟩ := Graph.inv hu1
 subst e5
 obtain ⟨z4, m4, k4, e6⟩ := rv_form r3
 subst e6
 obtain ⟨z5, m5, k5, e7⟩ := rv_form r4
 subst e7
 refine wl_op rfl (op_move (v := (Value.slice z3 m3 k3)) rfl rfl ?_)
 obtain ⟨x1, hx1, h⟩ := bnd h
 refine wl_op rfl (op_call (vs := [(Value.agg #[(Value.slice z4 m4 k4), (Value.slice z5 m5 k5)]), (Value.slice z3 m3 k3)]) rfl ca57 rfl (args2 rfl rfl) (F57_ok I2 (Graph.rv (s := a0) r3 r4) (h1_.mono le1) hx1) (fun v1 w2 S2 O1 le2 I3 hv1 => ?_))
 obtain ⟨c5, rfl, rfl, r5⟩ := hv1
 obtain ⟨c6, c7, e8, r6, r7⟩ := Search_view.inv r5
 subst e8
 obtain ⟨z6, m6, k6, e9⟩ := rv_form r6
 subst e9
 obtain ⟨z7, m7, k7, e10⟩ := rv_form r7
 subst e10
 refine wl_op rfl (op_move (v := (Value.tuple #[(Value.agg #[(Value.slice z6 m6 k6), (Value.slice z7 m7 k7)]), (Value.int .i64 (x1.2))])) rfl rfl ?_)
 refine wl_op rfl (op_extract (v := (Value.agg #[(Value.slice z6 m6 k6), (Value.slice z7 m7 k7)])) rfl rfl rfl ?_)
 refine wl_op rfl (op_extract (v := (Value.int .i64 (x1.2))) rfl rfl rfl ?_)
 refine wl_op rfl (op_alloc (z := (Value.agg #[(Value.slice none 0 0), (Value.slice none 0 0)])) rfl I3 zo64 (fun g2 w3 (I4 : Inv w3 S2 (Cells g2 64 #[(Value.slice none 0 0), (Value.slice none 0 0)] :: Fr)) => ?_))
 refine wl_op rfl (op_store (v := (Value.agg #[(Value.slice z6 m6 k6), (Value.slice z7 m7 k7)])) (cs := #[(Value.slice none 0 0), (Value.slice none 0 0)]) sh64 I4 rfl rfl rfl (Nat.le_of_ble_eq_true rfl) rfl (fun w4 (I5 : Inv w4 S2 (Cells g2 64 #[(Value.slice z6 m6 k6), (Value.slice z7 m7 k7)] :: Fr)) => ?_))
 obtain ⟨S3, le3, I6, p2⟩ := Inv.boxFreeze (u := (Value.agg #[(Value.slice z6 m6 k6), (Value.slice z7 m7 k7)])) (x := x1.1) I5 (Search_view.rv (s := x1.1) r6 r7)
 refine wl_op rfl (op_assign (v := (Value.int .i64 (x1.2))) rfl rfl ?_)
 refine wl_nil ?_
 refine wp_seq' ?_
 refine wp_seq' ?_
 refine wp_region' ?_
 refine wl_op rfl (op_move (v := (Value.int .i64 (x1.2))) rfl rfl ?_)
 refine wl_op rfl (op_neq (a := x1.2) (b := 0) rfl rfl rfl ?_)
 refine wl_nil ?_
 rcases ifs h with ⟨hc1, h⟩ | ⟨hc1, h⟩
 ·
  refine wp_cond_t (b := x1.2 != 0) rfl hc1 ?_
  refine wp_seq' ?_
  refine wp_region' ?_
  refine wl_op rfl (op_move (v := (Value.int .i64 (x1.2))) rfl rfl ?_)
  refine wl_op rfl (op_assign (v := (Value.slice none 0 0)) rfl rfl ?_)
  refine wl_op rfl (op_assign (v := (Value.int .i64 (x1.2))) rfl rfl ?_)
  refine wl_nil ?_
  refine wp_ret' ?_
  have I7 := Inv.rowNil (α := Int) (T := 3) I6
  obtain rfl := Option.some.inj h
  exact ⟨(Value.tuple #[(Value.slice none 0 0), (Value.int .i64 (x1.2))]), (res2 rfl rfl rfl), _, [Row (α := Int) 3 (Value.slice none 0 0) (([] : List Int))], ((le1.trans le2).trans le3), I7, _, _, _, rfl, rfl⟩
 ·
  refine wp_cond_f (b := x1.2 != 0) rfl hc1 ?_
  refine wp_skip' ?_
  refine wp_seq' ?_
  refine wp_seq' ?_
  refine wp_region' ?_
  refine wl_op rfl (op_move (v := (Value.slice z3 m3 k3)) rfl rfl ?_)
  obtain ⟨x2, hx2, h⟩ := bnd h
  refine wl_op rfl (op_indexAddr_rv (v := (Value.slice z3 m3 k3)) (i := 0) (e := x2) rfl Try.underlying26 sh3 rfl (h1_.mono ((le1.trans le2).trans le3)) rfl hx2 ?_)
  refine wl_op rfl (op_load_int (v := (elemPtr (Value.slice z3 m3 k3) (0) (Enc.sz Int))) (e := x2) rfl sh3 rfl ((h1_.mono ((le1.trans le2).trans le3)).elem I6.in_ hx2) ?_)
  refine wl_op rfl (op_eql (a := x2) (b := (-1)) rfl rfl rfl ?_)
  refine wl_nil ?_
  rcases ifs h with ⟨hc2, h⟩ | ⟨hc2, h⟩
  ·
   refine wp_cond_t (b := x2 == (-1)) rfl hc2 ?_
   refine wp_seq' ?_
   refine wp_region' ?_
   refine wl_op rfl (op_assign (v := (Value.slice none 0 0)) rfl rfl ?_)
   refine wl_op rfl (op_assign (v := (Value.int .i64 (3))) rfl rfl ?_)
   refine wl_nil ?_
   refine wp_ret' ?_
   have I8 := Inv.rowNil (α := Int) (T := 3) I6
   obtain rfl := Option.some.inj h
   exact ⟨(Value.tuple #[(Value.slice none 0 0), (Value.int .i64 (3))]), (res2 rfl rfl rfl), _, [Row (α := Int) 3 (Value.slice none 0 0) (([] : List Int))], ((le1.trans le2).trans le3), I8, _, _, _, rfl, rfl⟩
  ·
   refine wp_cond_f (b := x2 == (-1)) rfl hc2 ?_
   refine wp_skip' ?_
   refine wp_seq' ?_
   refine wp_seq' ?_
   refine wp_region' ?_
   refine wl_op rfl (op_alloc (z := (Value.int .i64 (0))) rfl I6 zo3 (fun g3 w5 (I9 : Inv w5 S3 (Cells g3 3 #[(Value.int .i64 (0))] :: Fr)) => ?_))
   refine wl_op rfl (op_store (v := (Value.int .i64 (0))) (cs := #[(Value.int .i64 (0))]) sh3 I9 rfl rfl rfl (Nat.le_of_ble_eq_true rfl) rfl (fun w6 (I10 : Inv w6 S3 (Cells g3 3 #[(Value.int .i64 (0))] :: Fr)) => ?_))
   refine wl_nil ?_
   have I67 := Inv.rowNil (α := Int) (T := 3) I10
   obtain ⟨out1, hrun1, h⟩ := bnd h
   refine wp_cutN (fun f w => ∃ (z37 : Option Addr) (m37 k37 : Nat) (g15 : Nat), Inv w S3 (Row (α := Int) 3 (Value.slice z37 m37 k37) (out1.1) :: Cells g15 3 #[(Value.int .i64 (out1.2))] :: Fr) ∧ f 1 = (Value.slice z3 m3 k3) ∧ f 4 = (Value.slice z37 m37 k37) ∧ f 6 = (Value.pointer (some ⟨g2, 0, none⟩)) ∧ f 7 = (Value.pointer (some ⟨g15, 0, none⟩))) ?_ ?_
   ·
    refine wp_block' ?_
    refine wp_whileO (I := fun (s1 : (List Int × Int)) (f : Frm) (w : World) => ∃ (z36 : Option Addr) (m36 k36 : Nat) (g14 : Nat), Inv w S3 (Row (α := Int) 3 (Value.slice z36 m36 k36) (s1.1) :: Cells g14 3 #[(Value.int .i64 (s1.2))] :: Fr) ∧ f 1 = (Value.slice z3 m3 k3) ∧ f 4 = (Value.slice z36 m36 k36) ∧ f 6 = (Value.pointer (some ⟨g2, 0, none⟩)) ∧ f 7 = (Value.pointer (some ⟨g14, 0, none⟩))) hrun1 ⟨_, _, _, _, ((I67.pull 1).pull 1), rfl, rfl, rfl, rfl⟩ ?_
    rintro s1 f w o1 hI1 h1 hout1
    obtain ⟨z36, m36, k36, g14, I68, e59, e60, e61, e62⟩ := hI1
    refine wp_seq' ?_
    refine wp_seq' ?_
    refine wp_region' ?_
    refine wl_op rfl (op_move (v := (Value.slice z3 m3 k3)) rfl e59 ?_)
    refine wl_op rfl (op_load1 (c := (Value.int .i64 (s1.2))) rfl sh3 (I68.nth 1 rfl) e62 rfl ?_)
    obtain ⟨x33, hx33, h1⟩ := bnd h1
    refine wl_op rfl (op_indexAddr_rv (v := (Value.slice z3 m3 k3)) (i := s1.2) (e := x33) rfl Try.underlying26 sh3 rfl (h1_.mono ((le1.trans le2).trans le3)) rfl hx33 ?_)
    refine wl_op rfl (op_load_int (v := (elemPtr (Value.slice z3 m3 k3) (s1.2) (Enc.sz Int))) (e := x33) rfl sh3 rfl ((h1_.mono ((le1.trans le2).trans le3)).elem I68.in_ hx33) ?_)
    refine wl_op rfl (op_gtr (a := x33) (b := 0) rfl rfl rfl ?_)
    refine wl_nil ?_
    rcases ifs h1 with ⟨hc9, h1⟩ | ⟨hc9, h1⟩
    ·
     refine wp_cond_t (b := decide (0 < x33)) rfl hc9 ?_
     refine wp_skip' ?_
     refine wp_seq' ?_
     refine wp_block' ?_
     refine wp_seq' ?_
     refine wp_region' ?_
     refine wl_op rfl (op_fieldAddr_t (v := (Value.pointer (some ⟨g2, 0, none⟩))) rfl fa64_0 e61 (p2.at_ I68) ?_)
     refine wl_op rfl (op_load (v := (fieldPtr (Value.pointer (some ⟨g2, 0, none⟩)) 0)) (e := x1.1.edges) rfl sh23 rfl ((p2.at_ I68).fld Search_view.fld0) (fun u26 hu14 => ?_))
     obtain ⟨z38, m38, k38, e63⟩ := rv_form hu14
     subst e63
     refine wl_op rfl (op_load1 (c := (Value.int .i64 (s1.2))) rfl sh3 (I68.nth 1 rfl) e62 rfl ?_)
     obtain ⟨x34, hx34, h1⟩ := bnd h1
     refine wl_op rfl (op_indexAddr_rv (v := (Value.slice z38 m38 k38)) (i := s1.2) (e := x34) rfl Try.underlying23 sh40 rfl hu14 rfl hx34 ?_)
     refine wl_op rfl (op_load (v := (elemPtr (Value.slice z38 m38 k38) (s1.2) (Enc.sz (List Edge)))) (e := x34) rfl sh40 rfl (hu14.elem I68.in_ hx34) (fun u27 hu15 => ?_))
     obtain ⟨z39, m39, k39, e64⟩ := rv_form hu15
     subst e64
     refine wl_op rfl (op_assign (v := (Value.slice z39 m39 k39)) rfl rfl ?_)
     refine wl_nil ?_
     refine wp_seq' ?_
     refine wp_region' ?_
     refine wl_op rfl (op_move (v := (Value.slice z36 m36 k36)) rfl e60 ?_)
     refine wl_op rfl (op_move (v := (Value.slice z39 m39 k39)) rfl rfl ?_)
     refine wl_op rfl (op_len_rv rfl Try.underlying40 rfl hu15 ?_)
     refine wl_op rfl (op_buildSlice (vs := [(Value.int .i64 ((x34.length : Int)))]) (r := ([(x34.length : Int)] : List Int)) rfl Try.underlying26 el3 (parts1 rfl) rfl (by decide) (by decide) ⟨(rv_int' _), trivial⟩ I68 (fun u28 w43 I69 => ?_))
     obtain ⟨z40, m40, k40, e65⟩ := row_form I69
     subst e65
     obtain ⟨x35, hx35, h1⟩ := bnd h1
     refine wl_op rfl (op_append (α := Int) (v := (Value.slice z36 m36 k36)) (u := (Value.slice z40 m40 k40)) rfl rfl Try.underlying26 el3 (by decide) (by decide) rfl rfl (I69.pull 1) (Inv.rowSrc (I69.nth 0 rfl)) hx35 (fun u29 w44 I70 => ?_))
     obtain ⟨z41, m41, k41, e66⟩ := row_form I70
     subst e66
     refine wl_op rfl (op_assign (v := (Value.slice z41 m41 k41)) rfl rfl ?_)
     refine wl_nil ?_
     refine wp_region' ?_
     refine wl_op rfl (op_move (v := (Value.slice z39 m39 k39)) rfl rfl ?_)
     refine wl_op rfl (op_move (v := (Value.slice z39 m39 k39)) rfl rfl ?_)
     refine wl_op rfl (op_makeFunc (fv := #[]) (cv := #[(Value.pointer (some ⟨g2, 0, none⟩)), (Value.pointer (some ⟨g14, 0, none⟩))]) rfl arr0 (arr2 e61 e62) ?_)
     obtain ⟨x36, hx36, h1⟩ := bnd h1
     obtain ⟨S16, Fr7, le16, I71, r14, bk7⟩ := Inv.lendB0 (x := s1.2) (I70.pull 2) (fun T_ hle_  => ((rv_int' _)).cells)
     refine wl_op rfl (op_call (vs := [(Value.slice z39 m39 k39), (Value.func (.func 60) #[] #[(Value.pointer (some ⟨g2, 0, none⟩)), (Value.pointer (some ⟨g14, 0, none⟩))])]) rfl ca59 rfl (args2 rfl rfl) (F59_ok I71 (hu15.mono le16) ⟨60, [(Value.pointer (some ⟨g2, 0, none⟩)), (Value.pointer (some ⟨g14, 0, none⟩))], rfl, ca60, fun T_ w_ Fr_ u_ x_ r_ hle_ hI_ hu_ hr_ => F60_ok hI_ hu_ ((p2.mono le16).mono hle_) (r14.mono hle_) hr_⟩ hx36) (fun v8 w45 S17 O8 le17 I73 hv8 => ?_))
     obtain ⟨rfl, rfl⟩ := hv8
     have I72 := bk7 [] trivial I73 le17
     obtain ⟨x37, hx37, h1⟩ := bnd h1
     refine wl_op rfl (op_indexAddr_rv (v := (Value.slice z39 m39 k39)) (i := x36) (e := x37) rfl Try.underlying40 sh44 rfl hu15 rfl hx37 ?_)
     refine wl_op rfl (op_fieldAddr_t (v := (elemPtr (Value.slice z39 m39 k39) (x36) (Enc.sz Edge))) rfl fa44_1 rfl (hu15.elem I72.in_ hx37) ?_)
     refine wl_op rfl (op_load_int (v := (fieldPtr (elemPtr (Value.slice z39 m39 k39) (x36) (Enc.sz Edge)) 3)) (e := x37.To) rfl sh3 rfl ((hu15.elem I72.in_ hx37).fld Edge.fld1) ?_)
     refine wl_op rfl (op_store (v := (Value.int .i64 (x37.To))) (cs := #[(Value.int .i64 (s1.2))]) sh3 I72 e62 rfl rfl (Nat.le_of_ble_eq_true rfl) rfl (fun w46 (I74 : Inv w46 S3 (Cells g14 3 #[(Value.int .i64 (x37.To))] :: Row (α := Int) 3 (Value.slice z41 m41 k41) (x35) :: Row (α := Int) 3 (Value.slice z40 m40 k40) (([(x34.length : Int)] : List Int)) :: Fr)) => ?_))
     refine wl_nil ?_
     refine wp_seq' ?_
     refine wp_region' ?_
     refine wl_op rfl (op_load1 (c := (Value.int .i64 (x37.To))) rfl sh3 (I74.nth 0 rfl) e62 rfl ?_)
     refine wl_nil ?_
     refine wp_region' ?_
     refine wl_op rfl (op_alloc (z := (Value.int .i64 (0))) rfl I74 zo3 (fun g16 w47 (I75 : Inv w47 S3 (Cells g16 3 #[(Value.int .i64 (0))] :: Cells g14 3 #[(Value.int .i64 (x37.To))] :: Row (α := Int) 3 (Value.slice z41 m41 k41) (x35) :: Row (α := Int) 3 (Value.slice z40 m40 k40) (([(x34.length : Int)] : List Int)) :: Fr)) => ?_))
     refine wl_op rfl (op_store (v := (Value.int .i64 (x37.To))) (cs := #[(Value.int .i64 (0))]) sh3 I75 rfl rfl rfl (Nat.le_of_ble_eq_true rfl) rfl (fun w48 (I76 : Inv w48 S3 (Cells g16 3 #[(Value.int .i64 (x37.To))] :: Cells g14 3 #[(Value.int .i64 (x37.To))] :: Row (α := Int) 3 (Value.slice z41 m41 k41) (x35) :: Row (α := Int) 3 (Value.slice z40 m40 k40) (([(x34.length : Int)] : List Int)) :: Fr)) => ?_))
     refine wl_nil ?_
     obtain rfl := Option.some.inj h1
     exact ⟨_, rfl, _, _, _, _, (((I76.pull 1).drop.pull 2).drop.pull 1), e59, rfl, e61, rfl⟩
    ·
     refine wp_cond_f (b := decide (0 < x33)) rfl hc9 ?_
     refine wp_exit' ?_
     obtain rfl := Option.some.inj h1
     obtain rfl := (hout1 _ rfl)
     exact ⟨_, _, _, _, ((I68.pull 1).pull 1), e59, e60, e61, e62⟩
   ·
    rintro f w ⟨z37, m37, k37, g15, I77, e67, e68, e69, e70⟩
    refine wp_seq' ?_
    refine wp_region' ?_
    refine wl_op rfl (op_move (v := (Value.slice z37 m37 k37)) rfl e68 ?_)
    refine wl_op rfl (op_assign (v := (Value.slice z37 m37 k37)) rfl rfl ?_)
    refine wl_op rfl (op_assign (v := (Value.int .i64 (0))) rfl rfl ?_)
    refine wl_nil ?_
    refine wp_ret' ?_
    obtain rfl := Option.some.inj h
    exact ⟨(Value.tuple #[(Value.slice z37 m37 k37), (Value.int .i64 (0))]), (res2 rfl rfl rfl), _, [Row (α := Int) 3 (Value.slice z37 m37 k37) (out1.1)], ((le1.trans le2).trans le3), (I77.pull 1).drop, _, _, _, rfl, rfl⟩
end Go.Proofs.Ytogfongmnkmegaa.Pad
