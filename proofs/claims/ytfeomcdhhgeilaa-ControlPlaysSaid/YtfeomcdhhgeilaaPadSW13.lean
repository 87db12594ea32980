/- A part of the proof: what the functions of the program compute, shown over the model. -/
import Derived.Test.YtfeomcdhhgeilaaPadSP
import Derived.Test.YtfeomcdhhgeilaaPadSW10
import Derived.KernelRfl
set_option linter.unusedVariables false
namespace Go.Proofs.Ytfeomcdhhgeilaa.Pad
open Go Go.Proofs
set_option maxHeartbeats 4000000 in
set_option maxRecDepth 100000 in
theorem F31_ok {w : World} {S : PH} {Fr : List HP} {a0 : Panel} {v0 : Value} {a1 : Int} {a2 : (List Signal)} {v2 : Value} {r : (List (List Int)) × (List (List Int)) × Int} (hI : Inv w S Fr) (h0_ : RV S v0 a0) (h2_ : RV S v2 a2) (h : F31 a0 a1 a2 = some r) :
    Calls Try.prog 31 [v0, (Value.int .i64 (a1)), v2].toArray w (Done S Fr (fun T_ v_ O_ => ∃ (a0_ : Option Addr) (n0_ k0_ : Nat) (a1_ : Option Addr) (n1_ k1_ : Nat), v_ = (Value.tuple #[(Value.slice a0_ n0_ k0_), (Value.slice a1_ n1_ k1_), (Value.int .i64 (r.2.2))]) ∧ O_ = [Row (α := (List Int)) 34 (Value.slice a0_ n0_ k0_) (r.1), Row (α := (List Int)) 34 (Value.slice a1_ n1_ k1_) (r.2.1)])) := by
  unfold F31 at h
  obtain ⟨c1, e1, r1⟩ := Panel.inv h0_
  subst e1
  obtain ⟨z1, m1, k1, e2⟩ := rv_form r1
  subst e2
  obtain ⟨z2, m2, k2, e3⟩ := rv_form h2_
  subst e3
  refine calls_enter (n := 48) (vs := [(Value.agg #[(Value.int .i64 (a0.Sensors)), (Value.slice z1 m1 k1), (Value.int .i64 (a0.Stale)), (Value.int .i64 (a0.Limit))]), (Value.int .i64 (a1)), (Value.slice z2 m2 k2)]) Try.func31 rfl rfl rfl ?_
  refine wp_seq' ?_
  refine wp_region' ?_
  refine wl_op rfl (op_box (v := (Value.agg #[(Value.int .i64 (a0.Sensors)), (Value.slice z1 m1 k1), (Value.int .i64 (a0.Stale)), (Value.int .i64 (a0.Limit))])) rfl hI rfl (fun g1 w1 I1 => ?_))
  obtain ⟨S1, le1, I2, p1⟩ := Inv.boxFreeze (x := a0) I1 (Panel.rv (s := a0) r1)
  refine wl_op rfl (op_assign (v := (Value.slice none 0 0)) rfl rfl ?_)
  refine wl_op rfl (op_assign (v := (Value.slice none 0 0)) rfl rfl ?_)
  refine wl_op rfl (op_assign (v := (Value.int .i64 (0))) rfl rfl ?_)
  refine wl_nil ?_
  refine wp_seq' ?_
  refine wp_seq' ?_
  refine wp_region' ?_
  refine wl_op rfl (op_load (v := (Value.pointer (some ⟨g1, 0, none⟩))) (e := a0) rfl sh24 rfl (p1.at_ I2) (fun u1 hu1 => ?_))
  obtain ⟨c2, e4, r2⟩ := Panel.inv hu1
  subst e4
  obtain ⟨z3, m3, k3, e5⟩ := rv_form r2
  subst e5
  refine wl_op rfl (op_move (v := (Value.int .i64 (a1))) rfl rfl ?_)
  refine wl_op rfl (op_move (v := (Value.slice z2 m2 k2)) rfl rfl ?_)
  obtain ⟨x1, hx1, h⟩ := bnd h
  refine wl_op rfl (op_call_v (vs := [(Value.agg #[(Value.int .i64 (a0.Sensors)), (Value.slice z3 m3 k3), (Value.int .i64 (a0.Stale)), (Value.int .i64 (a0.Limit))]), (Value.int .i64 (a1)), (Value.slice z2 m2 k2)]) (r := (Value.int .i64 (x1))) rfl ca51 rfl (args3 rfl rfl rfl) I2 (fun Fr_ hF_ => F51_ok hF_ (Panel.rv (s := a0) r2) (h2_.mono le1) hx1) (fun w2 I3 => ?_))
  refine wl_op rfl (op_assign (v := (Value.int .i64 (x1))) rfl rfl ?_)
  refine wl_nil ?_
  refine wp_seq' ?_
  refine wp_region' ?_
  refine wl_op rfl (op_move (v := (Value.int .i64 (x1))) rfl rfl ?_)
  refine wl_op rfl (op_neq (a := x1) (b := 0) rfl rfl rfl ?_)
  refine wl_nil ?_
  rcases ifs h with ⟨hc1, h⟩ | ⟨hc1, h⟩
  · refine wp_cond_t (b := x1 != 0) rfl hc1 ?_
    refine wp_seq' ?_
    refine wp_region' ?_
    refine wl_op rfl (op_move (v := (Value.int .i64 (x1))) rfl rfl ?_)
    refine wl_op rfl (op_assign (v := (Value.slice none 0 0)) rfl rfl ?_)
    refine wl_op rfl (op_assign (v := (Value.slice none 0 0)) rfl rfl ?_)
    refine wl_op rfl (op_assign (v := (Value.int .i64 (x1))) rfl rfl ?_)
    refine wl_nil ?_
    refine wp_ret' ?_
    have I4 := Inv.rowNil (α := (List Int)) (T := 34) I3
    have I5 := Inv.rowNil (α := (List Int)) (T := 34) I4
    obtain rfl := Option.some.inj h
    exact ⟨(Value.tuple #[(Value.slice none 0 0), (Value.slice none 0 0), (Value.int .i64 (x1))]), (res3 rfl rfl rfl rfl), _, [Row (α := (List Int)) 34 (Value.slice none 0 0) (([] : List (List Int))), Row (α := (List Int)) 34 (Value.slice none 0 0) (([] : List (List Int)))], le1, (I5.pull 1), _, _, _, _, _, _, rfl, rfl⟩
  · refine wp_cond_f (b := x1 != 0) rfl hc1 ?_
    refine wp_skip' ?_
    refine wp_seq' ?_
    refine wp_region' ?_
    refine wl_op rfl (op_load (v := (Value.pointer (some ⟨g1, 0, none⟩))) (e := a0) rfl sh24 rfl (p1.at_ I3) (fun u2 hu2 => ?_))
    obtain ⟨c3, e6, r3⟩ := Panel.inv hu2
    subst e6
    obtain ⟨z4, m4, k4, e7⟩ := rv_form r3
    subst e7
    refine wl_op rfl (op_move (v := (Value.int .i64 (a1))) rfl rfl ?_)
    refine wl_op rfl (op_move (v := (Value.slice z2 m2 k2)) rfl rfl ?_)
    obtain ⟨x2, hx2, h⟩ := bnd h
    refine wl_op rfl (op_call (vs := [(Value.agg #[(Value.int .i64 (a0.Sensors)), (Value.slice z4 m4 k4), (Value.int .i64 (a0.Stale)), (Value.int .i64 (a0.Limit))]), (Value.int .i64 (a1)), (Value.slice z2 m2 k2)]) rfl ca52 rfl (args3 rfl rfl rfl) (F52_ok I3 (Panel.rv (s := a0) r3) (h2_.mono le1) hx2) (fun v1 w3 S2 O1 le2 I6 hv1 => ?_))
    obtain ⟨z5, m5, k5, rfl, rfl⟩ := hv1
    refine wl_op rfl (op_assign (v := (Value.slice z5 m5 k5)) rfl rfl ?_)
    refine wl_nil ?_
    refine wp_seq' ?_
    refine wp_region' ?_
    refine wl_op rfl (op_assign (v := (Value.slice none 0 0)) rfl rfl ?_)
    refine wl_op rfl (op_assign (v := (Value.slice none 0 0)) rfl rfl ?_)
    refine wl_nil ?_
    refine wp_seq' ?_
    refine wp_seq' ?_
    refine wp_region' ?_
    refine wl_op rfl (op_assign (v := (Value.int .i64 (0))) rfl rfl ?_)
    refine wl_nil ?_
    obtain ⟨x15, hx15, h⟩ := bnd h
    have I24 := Inv.rowNil (α := (List Int)) (T := 34) I6
    have I25 := Inv.rowNil (α := (List Int)) (T := 34) I24
    obtain ⟨out1, hrun1, h⟩ := bnd h
    refine wp_cutN (fun f w => ∃ (z30 : Option Addr) (m30 k30 : Nat) (z31 : Option Addr) (m31 k31 : Nat), Inv w S2 (Row (α := Ref08_Frame) 85 (Value.slice z5 m5 k5) (x2) :: Row (α := (List Int)) 34 (Value.slice z30 m30 k30) (out1.1) :: Row (α := (List Int)) 34 (Value.slice z31 m31 k31) (out1.2) :: Fr) ∧ f 1 = (Value.int .i64 (a1)) ∧ f 10 = (Value.slice z5 m5 k5) ∧ f 11 = (Value.slice z30 m30 k30) ∧ f 12 = (Value.slice z31 m31 k31)) ?_ ?_
    · refine wp_block' ?_
      refine wp_forS (I := fun (i1 : Nat) (s1 : (List (List Int) × List (List Int))) (f : Frm) (w : World) => ∃ (z28 : Option Addr) (m28 k28 : Nat) (z29 : Option Addr) (m29 k29 : Nat), Inv w S2 (Row (α := Ref08_Frame) 85 (Value.slice z5 m5 k5) (x2) :: Row (α := (List Int)) 34 (Value.slice z28 m28 k28) (s1.1) :: Row (α := (List Int)) 34 (Value.slice z29 m29 k29) (s1.2) :: Fr) ∧ f 1 = (Value.int .i64 (a1)) ∧ f 10 = (Value.slice z5 m5 k5) ∧ f 11 = (Value.slice z28 m28 k28) ∧ f 12 = (Value.slice z29 m29 k29) ∧ f 13 = (Value.int .i64 (i1 : Int))) hrun1 ⟨_, _, _, _, _, _, ((I25.pull 1).pull 2), rfl, rfl, rfl, rfl, rfl⟩ ?_ ?_
      · rintro i1 s1 f w o1 hlt1 hI1 h1
        obtain ⟨z28, m28, k28, z29, m29, k29, I26, e41, e42, e43, e44, e45⟩ := hI1
        refine wp_seq' ?_
        refine wp_seq' ?_
        refine wp_region' ?_
        refine wl_op rfl (op_move (v := (Value.int .i64 ((i1 : Int)))) rfl e45 ?_)
        refine wl_op rfl (op_move (v := (Value.int .i64 (a1))) rfl e41 ?_)
        refine wl_op rfl (op_lss (a := (i1 : Int)) (b := a1) rfl rfl rfl ?_)
        refine wl_nil ?_
        refine wp_cond_t (b := decide ((i1 : Int) < a1)) rfl (cnt_t hx15 hlt1) ?_
        refine wp_skip' ?_
        refine wp_seq' ?_
        refine wp_block' ?_
        refine wp_seq' ?_
        refine wp_region' ?_
        refine wl_op rfl (op_move (v := (Value.slice z28 m28 k28)) rfl e43 ?_)
        refine wl_op rfl (op_move (v := (Value.slice z5 m5 k5)) rfl e42 ?_)
        refine wl_op rfl (op_move (v := (Value.int .i64 ((i1 : Int)))) rfl e45 ?_)
        obtain ⟨x16, hx16, h1⟩ := bnd h1
        refine wl_op rfl (op_indexAddr_src (v := (Value.slice z5 m5 k5)) (i := (i1 : Int)) (e := x16) rfl Try.underlying80 sh85 rfl (Inv.rowSrc (I26.nth 0 rfl)) rfl hx16 ?_)
        refine wl_op rfl (op_fieldAddr_t (v := (elemPtr (Value.slice z5 m5 k5) ((i1 : Int)) (Enc.sz Ref08_Frame))) rfl fa85_1 rfl ((I26.nth 0 rfl).rowElem hx16) ?_)
        refine wl_op rfl (op_load (v := (fieldPtr (elemPtr (Value.slice z5 m5 k5) ((i1 : Int)) (Enc.sz Ref08_Frame)) 1)) (e := x16.Values) rfl sh34 rfl (((I26.nth 0 rfl).rowElem hx16).fld Ref08_Frame.fld1) (fun u21 hu9 => ?_))
        obtain ⟨z32, m32, k32, e46⟩ := rv_form hu9
        subst e46
        refine wl_op rfl (op_buildSlice (vs := [(Value.slice z32 m32 k32)]) (r := ([x16.Values] : List (List Int))) rfl Try.underlying53 el34 (parts1 rfl) rfl (by decide) (by decide) ⟨hu9, trivial⟩ I26 (fun u22 w16 I27 => ?_))
        obtain ⟨z33, m33, k33, e47⟩ := row_form I27
        subst e47
        obtain ⟨x17, hx17, h1⟩ := bnd h1
        refine wl_op rfl (op_append (α := (List Int)) (v := (Value.slice z28 m28 k28)) (u := (Value.slice z33 m33 k33)) rfl rfl Try.underlying53 el34 (by decide) (by decide) rfl rfl (I27.pull 2) (Inv.rowSrc (I27.nth 0 rfl)) hx17 (fun u23 w17 I28 => ?_))
        obtain ⟨z34, m34, k34, e48⟩ := row_form I28
        subst e48
        refine wl_op rfl (op_assign (v := (Value.slice z34 m34 k34)) rfl rfl ?_)
        refine wl_nil ?_
        refine wp_region' ?_
        refine wl_op rfl (op_move (v := (Value.slice z29 m29 k29)) rfl e44 ?_)
        refine wl_op rfl (op_move (v := (Value.slice z5 m5 k5)) rfl e42 ?_)
        refine wl_op rfl (op_move (v := (Value.int .i64 ((i1 : Int)))) rfl e45 ?_)
        obtain ⟨x18, hx18, h1⟩ := bnd h1
        refine wl_op rfl (op_indexAddr_src (v := (Value.slice z5 m5 k5)) (i := (i1 : Int)) (e := x18) rfl Try.underlying80 sh85 rfl (Inv.rowSrc (I28.nth 2 rfl)) rfl hx18 ?_)
        refine wl_op rfl (op_fieldAddr_t (v := (elemPtr (Value.slice z5 m5 k5) ((i1 : Int)) (Enc.sz Ref08_Frame))) rfl fa85_2 rfl ((I28.nth 2 rfl).rowElem hx18) ?_)
        refine wl_op rfl (op_load (v := (fieldPtr (elemPtr (Value.slice z5 m5 k5) ((i1 : Int)) (Enc.sz Ref08_Frame)) 2)) (e := x18.Ages) rfl sh34 rfl (((I28.nth 2 rfl).rowElem hx18).fld Ref08_Frame.fld2) (fun u24 hu10 => ?_))
        obtain ⟨z35, m35, k35, e49⟩ := rv_form hu10
        subst e49
        refine wl_op rfl (op_buildSlice (vs := [(Value.slice z35 m35 k35)]) (r := ([x18.Ages] : List (List Int))) rfl Try.underlying53 el34 (parts1 rfl) rfl (by decide) (by decide) ⟨hu10, trivial⟩ I28 (fun u25 w18 I29 => ?_))
        obtain ⟨z36, m36, k36, e50⟩ := row_form I29
        subst e50
        obtain ⟨x19, hx19, h1⟩ := bnd h1
        refine wl_op rfl (op_append (α := (List Int)) (v := (Value.slice z29 m29 k29)) (u := (Value.slice z36 m36 k36)) rfl rfl Try.underlying53 el34 (by decide) (by decide) rfl rfl (I29.pull 4) (Inv.rowSrc (I29.nth 0 rfl)) hx19 (fun u26 w19 I30 => ?_))
        obtain ⟨z37, m37, k37, e51⟩ := row_form I30
        subst e51
        refine wl_op rfl (op_assign (v := (Value.slice z37 m37 k37)) rfl rfl ?_)
        refine wl_nil ?_
        refine wp_region' ?_
        refine wl_op rfl (op_move (v := (Value.int .i64 ((i1 : Int)))) rfl e45 ?_)
        refine wl_op rfl (op_add (a := (i1 : Int)) (b := 1) rfl rfl rfl ?_)
        refine wl_op rfl (op_assign (v := (Value.int .i64 (w64 ((i1 : Int) + 1)))) rfl rfl ?_)
        refine wl_nil ?_
        obtain rfl := Option.some.inj h1
        exact ⟨_, _, _, _, _, _, ((((I30.pull 1).drop.pull 2).drop.pull 1).pull 2), e41, e42, rfl, rfl, (idx_next hlt1 (cnt_le hx15))⟩
      · rintro f w hI2
        obtain ⟨z38, m38, k38, z39, m39, k39, I31, e52, e53, e54, e55, e56⟩ := hI2
        refine wp_seq' ?_
        refine wp_seq' ?_
        refine wp_region' ?_
        refine wl_op rfl (op_move (v := (Value.int .i64 ((x15 : Int)))) rfl e56 ?_)
        refine wl_op rfl (op_move (v := (Value.int .i64 (a1))) rfl e52 ?_)
        refine wl_op rfl (op_lss (a := (x15 : Int)) (b := a1) rfl rfl rfl ?_)
        refine wl_nil ?_
        refine wp_cond_f (b := decide ((x15 : Int) < a1)) rfl (cnt_f hx15) ?_
        refine wp_exit' ?_
        exact ⟨_, _, _, _, _, _, (((I31.pull 2).pull 2).pull 2), e52, e53, e54, e55⟩
    · rintro f w ⟨z30, m30, k30, z31, m31, k31, I32, e57, e58, e59, e60⟩
      refine wp_seq' ?_
      refine wp_region' ?_
      refine wl_op rfl (op_move (v := (Value.slice z30 m30 k30)) rfl e59 ?_)
      refine wl_op rfl (op_move (v := (Value.slice z31 m31 k31)) rfl e60 ?_)
      refine wl_op rfl (op_assign (v := (Value.slice z30 m30 k30)) rfl rfl ?_)
      refine wl_op rfl (op_assign (v := (Value.slice z31 m31 k31)) rfl rfl ?_)
      refine wl_op rfl (op_assign (v := (Value.int .i64 (0))) rfl rfl ?_)
      refine wl_nil ?_
      refine wp_ret' ?_
      obtain rfl := Option.some.inj h
      exact ⟨(Value.tuple #[(Value.slice z30 m30 k30), (Value.slice z31 m31 k31), (Value.int .i64 (0))]), (res3 rfl rfl rfl rfl), _, [Row (α := (List Int)) 34 (Value.slice z30 m30 k30) (out1.1), Row (α := (List Int)) 34 (Value.slice z31 m31 k31) (out1.2)], (le1.trans le2), (((I32).drop.pull 1).pull 1), _, _, _, _, _, _, rfl, rfl⟩
end Go.Proofs.Ytfeomcdhhgeilaa.Pad
