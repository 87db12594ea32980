/- A part of the proof: what the functions of the program compute, shown over the model. -/
import Derived.Test.YtfeomcdhhgeilaaPadSP
import Derived.Test.YtfeomcdhhgeilaaPadSW10
import Derived.KernelRfl
set_option linter.unusedVariables false
namespace Go.Proofs.Ytfeomcdhhgeilaa.Pad
open Go Go.Proofs
set_option maxHeartbeats 4000000 in
set_option maxRecDepth 100000 in
theorem F53_ok {w : World} {S : PH} {Fr : List HP} {a0 : Ref08_Frame} {v0 : Value} {r : Int} (hI : Inv w S (Fr)) (h0_ : RV S v0 a0) (h : F53 a0 = some r) :
    Calls Try.prog 53 [v0].toArray w (DoneV S Fr (Value.int .i64 (r))) := by
 unfold F53 at h
 obtain ⟨c1, c2, c3, c4, e1, r1, r2, r3, r4⟩ := Ref08_Frame.inv h0_
 subst e1
 obtain ⟨z1, m1, k1, e2⟩ := rv_form r1
 subst e2
 obtain ⟨z2, m2, k2, e3⟩ := rv_form r2
 subst e3
 obtain ⟨z3, m3, k3, e4⟩ := rv_form r3
 subst e4
 obtain ⟨z4, m4, k4, e5⟩ := rv_form r4
 subst e5
 refine calls_enter (n := 23) (vs := [(Value.agg #[(Value.bool (a0.Power)), (Value.slice z1 m1 k1), (Value.slice z2 m2 k2), (Value.slice z3 m3 k3), (Value.slice z4 m4 k4)])]) Try.func53 rfl rfl rfl ?_
 refine wp_seq' ?_
 refine wp_region' ?_
 refine wl_op rfl (op_box (v := (Value.agg #[(Value.bool (a0.Power)), (Value.slice z1 m1 k1), (Value.slice z2 m2 k2), (Value.slice z3 m3 k3), (Value.slice z4 m4 k4)])) rfl hI rfl (fun g1 w1 I1 => ?_))
 obtain ⟨S1, le1, I2, p1⟩ := Inv.boxFreeze (x := a0) I1 (Ref08_Frame.rv (s := a0) r1 r2 r3 r4)
 refine wl_op rfl (op_assign (v := (Value.int .i64 (0))) rfl rfl ?_)
 refine wl_nil ?_
 refine wp_seq' ?_
 refine wp_region' ?_
 refine wl_op rfl (op_assign (v := (Value.int .i64 (0))) rfl rfl ?_)
 refine wl_nil ?_
 refine wp_seq' ?_
 refine wp_seq' ?_
 refine wp_region' ?_
 refine wl_op rfl (op_assign (v := (Value.int .i64 (0))) rfl rfl ?_)
 refine wl_nil ?_
 have hk1 : a0.Shut.length ≤ 9223372036854775807 := (rv_len r4)
 obtain ⟨out1, hrun1, h⟩ := bnd h
 refine wp_cutN (fun f w => Inv w S1 (Fr) ∧ f 1 = (Value.pointer (some ⟨g1, 0, none⟩)) ∧ f 3 = (Value.int .i64 (out1))) ?_ ?_
 ·
  refine wp_block' ?_
  refine wp_forS (I := fun (i1 : Nat) (s1 : (Int)) (f : Frm) (w : World) => Inv w S1 (Fr) ∧ f 1 = (Value.pointer (some ⟨g1, 0, none⟩)) ∧ f 3 = (Value.int .i64 (s1)) ∧ f 4 = (Value.int .i64 (i1 : Int))) hrun1 ⟨I2, rfl, rfl, rfl⟩ ?_ ?_
  ·
   rintro i1 s1 f w o1 hlt1 hI1 h1
   obtain ⟨I6, e26, e27, e28⟩ := hI1
   refine wp_seq' ?_
   refine wp_seq' ?_
   refine wp_region' ?_
   refine wl_op rfl (op_move (v := (Value.int .i64 ((i1 : Int)))) rfl e28 ?_)
   refine wl_op rfl (op_fieldAddr_t (v := (Value.pointer (some ⟨g1, 0, none⟩))) rfl fa85_4 e26 (p1.at_ I6) ?_)
   refine wl_op rfl (op_load (v := (fieldPtr (Value.pointer (some ⟨g1, 0, none⟩)) 4)) (e := a0.Shut) rfl sh83 rfl ((p1.at_ I6).fld Ref08_Frame.fld4) (fun u13 hu13 => ?_))
   obtain ⟨z17, m17, k17, e30⟩ := rv_form hu13
   subst e30
   refine wl_op rfl (op_len_rv rfl Try.underlying83 rfl hu13 ?_)
   refine wl_op rfl (op_lss (a := (i1 : Int)) (b := (a0.Shut.length : Int)) rfl rfl rfl ?_)
   refine wl_nil ?_
   refine wp_cond_t (b := decide ((i1 : Int) < (a0.Shut.length : Int))) rfl (len_t hlt1) ?_
   refine wp_skip' ?_
   refine wp_seq' ?_
   refine wp_block' ?_
   refine wp_seq' ?_
   refine wp_region' ?_
   refine wl_op rfl (op_fieldAddr_t (v := (Value.pointer (some ⟨g1, 0, none⟩))) rfl fa85_4 e26 (p1.at_ I6) ?_)
   refine wl_op rfl (op_load (v := (fieldPtr (Value.pointer (some ⟨g1, 0, none⟩)) 4)) (e := a0.Shut) rfl sh83 rfl ((p1.at_ I6).fld Ref08_Frame.fld4) (fun u14 hu14 => ?_))
   obtain ⟨z18, m18, k18, e31⟩ := rv_form hu14
   subst e31
   refine wl_op rfl (op_move (v := (Value.int .i64 ((i1 : Int)))) rfl e28 ?_)
   obtain ⟨x4, hx4, h1⟩ := bnd h1
   refine wl_op rfl (op_indexAddr_rv (v := (Value.slice z18 m18 k18)) (i := (i1 : Int)) (e := x4) rfl Try.underlying83 sh4 rfl hu14 rfl hx4 ?_)
   refine wl_op rfl (op_load_bool (v := (elemPtr (Value.slice z18 m18 k18) ((i1 : Int)) (Enc.sz Bool))) (e := x4) rfl sh4 rfl (hu14.elem I6.in_ hx4) ?_)
   refine wl_nil ?_
   rcases ifs h1 with ⟨hc4, h1⟩ | ⟨hc4, h1⟩
   ·
    refine wp_cond_t (b := x4) rfl hc4 ?_
    refine wp_region' ?_
    refine wl_op rfl (op_move (v := (Value.int .i64 (s1))) rfl e27 ?_)
    refine wl_op rfl (op_move (v := (Value.int .i64 ((i1 : Int)))) rfl e28 ?_)
    refine wl_op rfl (op_toU (a := (i1 : Int)) rfl rfl Try.underlying3 Try.underlying63 ?_)
    refine wl_op rfl (op_shl (a := 1) (b := wu64 (i1 : Int)) rfl rfl rfl (wu64_nonneg _) ?_)
    refine wl_op rfl (op_or (a := s1) (b := shlI 1 (wu64 (i1 : Int))) rfl rfl rfl ?_)
    refine wl_op rfl (op_assign (v := (Value.int .i64 (orI s1 (shlI 1 (wu64 (i1 : Int)))))) rfl rfl ?_)
    refine wl_nil ?_
    refine wp_region' ?_
    refine wl_op rfl (op_move (v := (Value.int .i64 ((i1 : Int)))) rfl e28 ?_)
    refine wl_op rfl (op_add (a := (i1 : Int)) (b := 1) rfl rfl rfl ?_)
    refine wl_op rfl (op_assign (v := (Value.int .i64 (w64 ((i1 : Int) + 1)))) rfl rfl ?_)
    refine wl_nil ?_
    obtain rfl := Option.some.inj h1
    exact ⟨I6, e26, rfl, (idx_next hlt1 hk1)⟩
   ·
    refine wp_cond_f (b := x4) rfl hc4 ?_
    refine wp_skip' ?_
    refine wp_region' ?_
    refine wl_op rfl (op_move (v := (Value.int .i64 ((i1 : Int)))) rfl e28 ?_)
    refine wl_op rfl (op_add (a := (i1 : Int)) (b := 1) rfl rfl rfl ?_)
    refine wl_op rfl (op_assign (v := (Value.int .i64 (w64 ((i1 : Int) + 1)))) rfl rfl ?_)
    refine wl_nil ?_
    obtain rfl := Option.some.inj h1
    exact ⟨I6, e26, e27, (idx_next hlt1 hk1)⟩
  ·
   rintro f w hI2
   obtain ⟨I7, e32, e33, e34⟩ := hI2
   refine wp_seq' ?_
   refine wp_seq' ?_
   refine wp_region' ?_
   refine wl_op rfl (op_move (v := (Value.int .i64 ((a0.Shut.length : Int)))) rfl e34 ?_)
   refine wl_op rfl (op_fieldAddr_t (v := (Value.pointer (some ⟨g1, 0, none⟩))) rfl fa85_4 e32 (p1.at_ I7) ?_)
   refine wl_op rfl (op_load (v := (fieldPtr (Value.pointer (some ⟨g1, 0, none⟩)) 4)) (e := a0.Shut) rfl sh83 rfl ((p1.at_ I7).fld Ref08_Frame.fld4) (fun u16 hu16 => ?_))
   obtain ⟨z20, m20, k20, e36⟩ := rv_form hu16
   subst e36
   refine wl_op rfl (op_len_rv rfl Try.underlying83 rfl hu16 ?_)
   refine wl_op rfl (op_lss (a := (a0.Shut.length : Int)) (b := (a0.Shut.length : Int)) rfl rfl rfl ?_)
   refine wl_nil ?_
   refine wp_cond_f (b := decide ((a0.Shut.length : Int) < (a0.Shut.length : Int))) rfl (len_f _) ?_
   refine wp_exit' ?_
   exact ⟨I7, e32, e33⟩
 ·
  rintro f w ⟨I8, e37, e38⟩
  refine wp_seq' ?_
  refine wp_region' ?_
  refine wl_op rfl (op_move (v := (Value.int .i64 (out1))) rfl e38 ?_)
  refine wl_op rfl (op_assign (v := (Value.int .i64 (out1))) rfl rfl ?_)
  refine wl_nil ?_
  refine wp_ret' ?_
  obtain rfl := Option.some.inj h
  exact ⟨(Value.int .i64 (out1)), (res1 rfl rfl), _, [], le1, I8, rfl, rfl⟩

set_option maxHeartbeats 4000000 in
set_option maxRecDepth 100000 in
theorem F28_ok {w : World} {S : PH} {Fr : List HP} {a0 : Panel} {v0 : Value} {a1 : Int} {a2 : (List Signal)} {v2 : Value} {r : (List Int) × Int} (hI : Inv w S (Fr)) (h0_ : RV S v0 a0) (h2_ : RV S v2 a2) (h : F28 a0 a1 a2 = some r) :
    Calls Try.prog 28 [v0, (Value.int .i64 (a1)), v2].toArray w (Done S Fr (fun T_ v_ O_ => ∃ (a0_ : Option Addr) (n0_ k0_ : Nat), v_ = (Value.tuple #[(Value.slice a0_ n0_ k0_), (Value.int .i64 (r.2))]) ∧ O_ = [Row (α := Int) 3 (Value.slice a0_ n0_ k0_) (r.1)])) := by
 unfold F28 at h
 obtain ⟨c1, e1, r1⟩ := Panel.inv h0_
 subst e1
 obtain ⟨z1, m1, k1, e2⟩ := rv_form r1
 subst e2
 obtain ⟨z2, m2, k2, e3⟩ := rv_form h2_
 subst e3
 refine calls_enter (n := 37) (vs := [(Value.agg #[(Value.int .i64 (a0.Sensors)), (Value.slice z1 m1 k1), (Value.int .i64 (a0.Stale)), (Value.int .i64 (a0.Limit))]), (Value.int .i64 (a1)), (Value.slice z2 m2 k2)]) Try.func28 rfl rfl rfl ?_
 refine wp_seq' ?_
 refine wp_region' ?_
 refine wl_op rfl (op_box (v := (Value.agg #[(Value.int .i64 (a0.Sensors)), (Value.slice z1 m1 k1), (Value.int .i64 (a0.Stale)), (Value.int .i64 (a0.Limit))])) rfl hI rfl (fun g1 w1 I1 => ?_))
 obtain ⟨S1, le1, I2, p1⟩ := Inv.boxFreeze (x := a0) I1 (Panel.rv (s := a0) r1)
 refine wl_op rfl (op_assign (v := (Value.slice none 0 0)) rfl rfl ?_)
 refine wl_op rfl (op_assign (v := (Value.int .i64 (0))) rfl rfl ?_)
 refine wl_nil ?_
 refine wp_seq' ?_
 refine wp_seq' ?_
 refine wp_region' ?_
 refine wl_op rfl (op_load (v := (Value.pointer (some ⟨g1, 0, none⟩))) (e := a0) rfl sh24 rfl (p1.at_ I2) (fun u1 hu1 => ?_))
 obtain ⟨c2, e4, r2⟩ := Panel.inv hu1
 subst e4
 obtain ⟨z3, m3, k3, e5⟩ := rv_form r2
 subst e5
 refine wl_op rfl (op_move (v := (Value.int .i64 (a1))) rfl rfl ?_)
 refine wl_op rfl (op_move (v := (Value.slice z2 m2 k2)) rfl rfl ?_)
 obtain ⟨x1, hx1, h⟩ := bnd h
 refine wl_op rfl (op_call_v (vs := [(Value.agg #[(Value.int .i64 (a0.Sensors)), (Value.slice z3 m3 k3), (Value.int .i64 (a0.Stale)), (Value.int .i64 (a0.Limit))]), (Value.int .i64 (a1)), (Value.slice z2 m2 k2)]) (r := (Value.int .i64 (x1))) rfl ca51 rfl (args3 rfl rfl rfl) I2 (fun Fr_ hF_ => F51_ok hF_ (Panel.rv (s := a0) r2) (h2_.mono le1) hx1) (fun w2 I3 => ?_))
 refine wl_op rfl (op_assign (v := (Value.int .i64 (x1))) rfl rfl ?_)
 refine wl_nil ?_
 refine wp_seq' ?_
 refine wp_region' ?_
 refine wl_op rfl (op_move (v := (Value.int .i64 (x1))) rfl rfl ?_)
 refine wl_op rfl (op_neq (a := x1) (b := 0) rfl rfl rfl ?_)
 refine wl_nil ?_
 rcases ifs h with ⟨hc1, h⟩ | ⟨hc1, h⟩
 ·
  refine wp_cond_t (b := x1 != 0) rfl hc1 ?_
  refine wp_seq' ?_
  refine wp_region' ?_
  refine wl_op rfl (op_move (v := (Value.int .i64 (x1))) rfl rfl ?_)
  refine wl_op rfl (op_assign (v := (Value.slice none 0 0)) rfl rfl ?_)
  refine wl_op rfl (op_assign (v := (Value.int .i64 (x1))) rfl rfl ?_)
  refine wl_nil ?_
  refine wp_ret' ?_
  have I4 := Inv.rowNil (α := Int) (T := 3) I3
  obtain rfl := Option.some.inj h
  exact ⟨(Value.tuple #[(Value.slice none 0 0), (Value.int .i64 (x1))]), (res2 rfl rfl rfl), _, [Row (α := Int) 3 (Value.slice none 0 0) (([] : List Int))], le1, I4, _, _, _, rfl, rfl⟩
 ·
  refine wp_cond_f (b := x1 != 0) rfl hc1 ?_
  refine wp_skip' ?_
  refine wp_seq' ?_
  refine wp_region' ?_
  refine wl_op rfl (op_load (v := (Value.pointer (some ⟨g1, 0, none⟩))) (e := a0) rfl sh24 rfl (p1.at_ I3) (fun u2 hu2 => ?_))
  obtain ⟨c3, e6, r3⟩ := Panel.inv hu2
  subst e6
  obtain ⟨z4, m4, k4, e7⟩ := rv_form r3
  subst e7
  refine wl_op rfl (op_move (v := (Value.int .i64 (a1))) rfl rfl ?_)
  refine wl_op rfl (op_move (v := (Value.slice z2 m2 k2)) rfl rfl ?_)
  obtain ⟨x2, hx2, h⟩ := bnd h
  refine wl_op rfl (op_call (vs := [(Value.agg #[(Value.int .i64 (a0.Sensors)), (Value.slice z4 m4 k4), (Value.int .i64 (a0.Stale)), (Value.int .i64 (a0.Limit))]), (Value.int .i64 (a1)), (Value.slice z2 m2 k2)]) rfl ca52 rfl (args3 rfl rfl rfl) (F52_ok I3 (Panel.rv (s := a0) r3) (h2_.mono le1) hx2) (fun v1 w3 S2 O1 le2 I5 hv1 => ?_))
  obtain ⟨z5, m5, k5, rfl, rfl⟩ := hv1
  refine wl_op rfl (op_assign (v := (Value.slice z5 m5 k5)) rfl rfl ?_)
  refine wl_nil ?_
  refine wp_seq' ?_
  refine wp_region' ?_
  refine wl_op rfl (op_assign (v := (Value.slice none 0 0)) rfl rfl ?_)
  refine wl_nil ?_
  refine wp_seq' ?_
  refine wp_seq' ?_
  refine wp_region' ?_
  refine wl_op rfl (op_assign (v := (Value.int .i64 (0))) rfl rfl ?_)
  refine wl_nil ?_
  obtain ⟨x12, hx12, h⟩ := bnd h
  have I19 := Inv.rowNil (α := Int) (T := 3) I5
  obtain ⟨out1, hrun1, h⟩ := bnd h
  refine wp_cutN (fun f w => ∃ (z27 : Option Addr) (m27 k27 : Nat), Inv w S2 (Row (α := Ref08_Frame) 85 (Value.slice z5 m5 k5) (x2) :: Row (α := Int) 3 (Value.slice z27 m27 k27) (out1) :: Fr) ∧ f 1 = (Value.int .i64 (a1)) ∧ f 9 = (Value.slice z5 m5 k5) ∧ f 10 = (Value.slice z27 m27 k27)) ?_ ?_
  ·
   refine wp_block' ?_
   refine wp_forS (I := fun (i1 : Nat) (s1 : (List Int)) (f : Frm) (w : World) => ∃ (z26 : Option Addr) (m26 k26 : Nat), Inv w S2 (Row (α := Ref08_Frame) 85 (Value.slice z5 m5 k5) (x2) :: Row (α := Int) 3 (Value.slice z26 m26 k26) (s1) :: Fr) ∧ f 1 = (Value.int .i64 (a1)) ∧ f 9 = (Value.slice z5 m5 k5) ∧ f 10 = (Value.slice z26 m26 k26) ∧ f 11 = (Value.int .i64 (i1 : Int))) hrun1 ⟨_, _, _, (I19.pull 1), rfl, rfl, rfl, rfl⟩ ?_ ?_
   ·
    rintro i1 s1 f w o1 hlt1 hI1 h1
    obtain ⟨z26, m26, k26, I20, e41, e42, e43, e44⟩ := hI1
    refine wp_seq' ?_
    refine wp_seq' ?_
    refine wp_region' ?_
    refine wl_op rfl (op_move (v := (Value.int .i64 ((i1 : Int)))) rfl e44 ?_)
    refine wl_op rfl (op_move (v := (Value.int .i64 (a1))) rfl e41 ?_)
    refine wl_op rfl (op_lss (a := (i1 : Int)) (b := a1) rfl rfl rfl ?_)
    refine wl_nil ?_
    refine wp_cond_t (b := decide ((i1 : Int) < a1)) rfl (cnt_t hx12 hlt1) ?_
    refine wp_skip' ?_
    refine wp_seq' ?_
    refine wp_block' ?_
    refine wp_region' ?_
    refine wl_op rfl (op_move (v := (Value.slice z26 m26 k26)) rfl e43 ?_)
    refine wl_op rfl (op_move (v := (Value.slice z5 m5 k5)) rfl e42 ?_)
    refine wl_op rfl (op_move (v := (Value.int .i64 ((i1 : Int)))) rfl e44 ?_)
    obtain ⟨x13, hx13, h1⟩ := bnd h1
    refine wl_op rfl (op_indexAddr_src (v := (Value.slice z5 m5 k5)) (i := (i1 : Int)) (e := x13) rfl Try.underlying80 sh85 rfl (Inv.rowSrc (I20.nth 0 rfl)) rfl hx13 ?_)
    refine wl_op rfl (op_load (v := (elemPtr (Value.slice z5 m5 k5) ((i1 : Int)) (Enc.sz Ref08_Frame))) (e := x13) rfl sh85 rfl ((I20.nth 0 rfl).rowElem hx13) (fun u12 hu6 => ?_))
    obtain ⟨c16, c17, c18, c19, e45, r16, r17, r18, r19⟩ := Ref08_Frame.inv hu6
    subst e45
    obtain ⟨z28, m28, k28, e46⟩ := rv_form r16
    subst e46
    obtain ⟨z29, m29, k29, e47⟩ := rv_form r17
    subst e47
    obtain ⟨z30, m30, k30, e48⟩ := rv_form r18
    subst e48
    obtain ⟨z31, m31, k31, e49⟩ := rv_form r19
    subst e49
    obtain ⟨x14, hx14, h1⟩ := bnd h1
    refine wl_op rfl (op_call_v (vs := [(Value.agg #[(Value.bool (x13.Power)), (Value.slice z28 m28 k28), (Value.slice z29 m29 k29), (Value.slice z30 m30 k30), (Value.slice z31 m31 k31)])]) (r := (Value.int .i64 (x14))) rfl ca53 rfl (args1 rfl) I20 (fun Fr_ hF_ => F53_ok hF_ (Ref08_Frame.rv (s := x13) r16 r17 r18 r19) hx14) (fun w13 I21 => ?_))
    refine wl_op rfl (op_buildSlice (vs := [(Value.int .i64 (x14))]) (r := ([x14] : List Int)) rfl Try.underlying34 el3 (parts1 rfl) rfl (by decide) (by decide) ⟨(rv_int' _), trivial⟩ I21 (fun u13 w14 I22 => ?_))
    obtain ⟨z32, m32, k32, e50⟩ := row_form I22
    subst e50
    obtain ⟨x15, hx15, h1⟩ := bnd h1
    refine wl_op rfl (op_append (α := Int) (v := (Value.slice z26 m26 k26)) (u := (Value.slice z32 m32 k32)) rfl rfl Try.underlying34 el3 (by decide) (by decide) rfl rfl (I22.pull 2) (Inv.rowSrc (I22.nth 0 rfl)) hx15 (fun u14 w15 I23 => ?_))
    obtain ⟨z33, m33, k33, e51⟩ := row_form I23
    subst e51
    refine wl_op rfl (op_assign (v := (Value.slice z33 m33 k33)) rfl rfl ?_)
    refine wl_nil ?_
    refine wp_region' ?_
    refine wl_op rfl (op_move (v := (Value.int .i64 ((i1 : Int)))) rfl e44 ?_)
    refine wl_op rfl (op_add (a := (i1 : Int)) (b := 1) rfl rfl rfl ?_)
    refine wl_op rfl (op_assign (v := (Value.int .i64 (w64 ((i1 : Int) + 1)))) rfl rfl ?_)
    refine wl_nil ?_
    obtain rfl := Option.some.inj h1
    exact ⟨_, _, _, ((I23.pull 1).drop.pull 1), e41, e42, rfl, (idx_next hlt1 (cnt_le hx12))⟩
   ·
    rintro f w hI2
    obtain ⟨z34, m34, k34, I24, e52, e53, e54, e55⟩ := hI2
    refine wp_seq' ?_
    refine wp_seq' ?_
    refine wp_region' ?_
    refine wl_op rfl (op_move (v := (Value.int .i64 ((x12 : Int)))) rfl e55 ?_)
    refine wl_op rfl (op_move (v := (Value.int .i64 (a1))) rfl e52 ?_)
    refine wl_op rfl (op_lss (a := (x12 : Int)) (b := a1) rfl rfl rfl ?_)
    refine wl_nil ?_
    refine wp_cond_f (b := decide ((x12 : Int) < a1)) rfl (cnt_f hx12) ?_
    refine wp_exit' ?_
    exact ⟨_, _, _, ((I24.pull 1).pull 1), e52, e53, e54⟩
  ·
   rintro f w ⟨z27, m27, k27, I25, e56, e57, e58⟩
   refine wp_seq' ?_
   refine wp_region' ?_
   refine wl_op rfl (op_move (v := (Value.slice z27 m27 k27)) rfl e58 ?_)
   refine wl_op rfl (op_assign (v := (Value.slice z27 m27 k27)) rfl rfl ?_)
   refine wl_op rfl (op_assign (v := (Value.int .i64 (0))) rfl rfl ?_)
   refine wl_nil ?_
   refine wp_ret' ?_
   obtain rfl := Option.some.inj h
   exact ⟨(Value.tuple #[(Value.slice z27 m27 k27), (Value.int .i64 (0))]), (res2 rfl rfl rfl), _, [Row (α := Int) 3 (Value.slice z27 m27 k27) (out1)], (le1.trans le2), (I25).drop, _, _, _, rfl, rfl⟩

set_option maxHeartbeats 4000000 in
set_option maxRecDepth 100000 in
theorem F22_ok {w : World} {S : PH} {Fr : List HP} {a0 : Panel} {v0 : Value} {a1 : Int} {a2 : (List Signal)} {v2 : Value} {r : Bool} (hI : Inv w S (Fr)) (h0_ : RV S v0 a0) (h2_ : RV S v2 a2) (h : F22 a0 a1 a2 = some r) :
    Calls Try.prog 22 [v0, (Value.int .i64 (a1)), v2].toArray w (DoneV S Fr (Value.bool (r))) := by
 unfold F22 at h
 obtain ⟨c1, e1, r1⟩ := Panel.inv h0_
 subst e1
 obtain ⟨z1, m1, k1, e2⟩ := rv_form r1
 subst e2
 obtain ⟨z2, m2, k2, e3⟩ := rv_form h2_
 subst e3
 refine calls_enter (n := 18) (vs := [(Value.agg #[(Value.int .i64 (a0.Sensors)), (Value.slice z1 m1 k1), (Value.int .i64 (a0.Stale)), (Value.int .i64 (a0.Limit))]), (Value.int .i64 (a1)), (Value.slice z2 m2 k2)]) Try.func22 rfl rfl rfl ?_
 refine wp_seq' ?_
 refine wp_region' ?_
 refine wl_op rfl (op_box (v := (Value.agg #[(Value.int .i64 (a0.Sensors)), (Value.slice z1 m1 k1), (Value.int .i64 (a0.Stale)), (Value.int .i64 (a0.Limit))])) rfl hI rfl (fun g1 w1 I1 => ?_))
 obtain ⟨S1, le1, I2, p1⟩ := Inv.boxFreeze (x := a0) I1 (Panel.rv (s := a0) r1)
 refine wl_op rfl (op_assign (v := (Value.bool (false))) rfl rfl ?_)
 refine wl_nil ?_
 refine wp_seq' ?_
 refine wp_region' ?_
 refine wl_op rfl (op_load (v := (Value.pointer (some ⟨g1, 0, none⟩))) (e := a0) rfl sh24 rfl (p1.at_ I2) (fun u1 hu1 => ?_))
 obtain ⟨c2, e4, r2⟩ := Panel.inv hu1
 subst e4
 obtain ⟨z3, m3, k3, e5⟩ := rv_form r2
 subst e5
 refine wl_op rfl (op_move (v := (Value.int .i64 (a1))) rfl rfl ?_)
 refine wl_op rfl (op_move (v := (Value.slice z2 m2 k2)) rfl rfl ?_)
 obtain ⟨x1, hx1, h⟩ := bnd h
 refine wl_op rfl (op_call (vs := [(Value.agg #[(Value.int .i64 (a0.Sensors)), (Value.slice z3 m3 k3), (Value.int .i64 (a0.Stale)), (Value.int .i64 (a0.Limit))]), (Value.int .i64 (a1)), (Value.slice z2 m2 k2)]) rfl ca28 rfl (args3 rfl rfl rfl) (F28_ok I2 (Panel.rv (s := a0) r2) (h2_.mono le1) hx1) (fun v1 w2 S2 O1 le2 I3 hv1 => ?_))
 obtain ⟨z4, m4, k4, rfl, rfl⟩ := hv1
 refine wl_op rfl (op_move (v := (Value.tuple #[(Value.slice z4 m4 k4), (Value.int .i64 (x1.2))])) rfl rfl ?_)
 refine wl_op rfl (op_extract (v := (Value.slice z4 m4 k4)) rfl rfl rfl ?_)
 refine wl_op rfl (op_extract (v := (Value.int .i64 (x1.2))) rfl rfl rfl ?_)
 refine wl_op rfl (op_assign (v := (Value.slice z4 m4 k4)) rfl rfl ?_)
 refine wl_op rfl (op_assign (v := (Value.int .i64 (x1.2))) rfl rfl ?_)
 refine wl_nil ?_
 refine wp_seq' ?_
 refine wp_region' ?_
 refine wl_op rfl (op_move (v := (Value.int .i64 (x1.2))) rfl rfl ?_)
 refine wl_op rfl (op_eql (a := x1.2) (b := 0) rfl rfl rfl ?_)
 refine wl_op rfl (op_assign (v := (Value.bool (x1.2 == 0))) rfl rfl ?_)
 refine wl_nil ?_
 refine wp_ret' ?_
 obtain rfl := Option.some.inj h
 exact ⟨(Value.bool (x1.2 == 0)), (res1 rfl rfl), _, [], (le1.trans le2), (I3).drop, rfl, rfl⟩

set_option maxHeartbeats 4000000 in
set_option maxRecDepth 100000 in
theorem F26_ok {w : World} {S : PH} {Fr : List HP} {a0 : (List Signal)} {v0 : Value} {a1 : Int} {a2 : Int} {r : Bool} (hI : Inv w S (Fr)) (h0_ : RV S v0 a0) (h : F26 a0 a1 a2 = some r) :
    Calls Try.prog 26 [v0, (Value.int .i64 (a1)), (Value.int .i64 (a2))].toArray w (DoneV S Fr (Value.bool (r))) := by
 unfold F26 at h
 obtain ⟨z1, m1, k1, e1⟩ := rv_form h0_
 subst e1
 refine calls_enter (n := 38) (vs := [(Value.slice z1 m1 k1), (Value.int .i64 (a1)), (Value.int .i64 (a2))]) Try.func26 rfl rfl rfl ?_
 refine wp_seq' ?_
 refine wp_region' ?_
 refine wl_op rfl (op_assign (v := (Value.bool (false))) rfl rfl ?_)
 refine wl_nil ?_
 refine wp_seq' ?_
 refine wp_seq' ?_
 refine wp_region' ?_
 refine wl_op rfl (op_assign (v := (Value.int .i64 (0))) rfl rfl ?_)
 refine wl_nil ?_
 have hk1 : a0.length ≤ 9223372036854775807 := (rv_len h0_)
 obtain ⟨o2, hrun1, h⟩ := bnd h
 refine wp_cutN (fun f w => ∃ out1, o2 = Sum.inl out1 ∧ Inv w S (Fr) ∧ f 0 = (Value.slice z1 m1 k1) ∧ f 1 = (Value.int .i64 (a1)) ∧ f 2 = (Value.int .i64 (a2))) ?_ ?_
 ·
  refine wp_block' ?_
  refine wp_forN (I := fun (i1 : Nat) (s1 : Unit) (f : Frm) (w : World) => Inv w S (Fr) ∧ f 0 = (Value.slice z1 m1 k1) ∧ f 1 = (Value.int .i64 (a1)) ∧ f 2 = (Value.int .i64 (a2)) ∧ f 7 = (Value.int .i64 (i1 : Int))) hrun1 ⟨hI, rfl, rfl, rfl, rfl⟩ ?_ ?_
  ·
   rintro i1 s1 f w o1 hlt1 hI1 h1 hout1
   obtain ⟨I3, e10, e11, e12, e13⟩ := hI1
   refine wp_seq' ?_
   refine wp_seq' ?_
   refine wp_region' ?_
   refine wl_op rfl (op_move (v := (Value.int .i64 ((i1 : Int)))) rfl e13 ?_)
   refine wl_op rfl (op_move (v := (Value.slice z1 m1 k1)) rfl e10 ?_)
   refine wl_op rfl (op_len_rv rfl Try.underlying25 rfl h0_ ?_)
   refine wl_op rfl (op_lss (a := (i1 : Int)) (b := (a0.length : Int)) rfl rfl rfl ?_)
   refine wl_nil ?_
   refine wp_cond_t (b := decide ((i1 : Int) < (a0.length : Int))) rfl (len_t hlt1) ?_
   refine wp_skip' ?_
   refine wp_seq' ?_
   refine wp_block' ?_
   refine wp_seq' ?_
   refine wp_region' ?_
   refine wl_op rfl (op_move (v := (Value.slice z1 m1 k1)) rfl e10 ?_)
   refine wl_op rfl (op_move (v := (Value.int .i64 ((i1 : Int)))) rfl e13 ?_)
   obtain ⟨x7, hx7, h1⟩ := bnd h1
   refine wl_op rfl (op_indexAddr_rv (v := (Value.slice z1 m1 k1)) (i := (i1 : Int)) (e := x7) rfl Try.underlying25 sh46 rfl h0_ rfl hx7 ?_)
   refine wl_op rfl (op_fieldAddr_t (v := (elemPtr (Value.slice z1 m1 k1) ((i1 : Int)) (Enc.sz Signal))) rfl fa46_1 rfl (h0_.elem I3.in_ hx7) ?_)
   refine wl_op rfl (op_load_int (v := (fieldPtr (elemPtr (Value.slice z1 m1 k1) ((i1 : Int)) (Enc.sz Signal)) 1)) (e := x7.Kind) rfl sh3 rfl ((h0_.elem I3.in_ hx7).fld Signal.fld1) ?_)
   refine wl_op rfl (op_eql (a := x7.Kind) (b := 6) rfl rfl rfl ?_)
   refine wl_op rfl (op_move (v := (Value.bool (x7.Kind == 6))) rfl rfl ?_)
   rcases ifs h1 with ⟨hc7, h1⟩ | ⟨hc7, h1⟩
   ·
    refine wl_taken (c := x7.Kind == 6) rfl rfl rfl rfl hc7 (op_move (v := (Value.slice z1 m1 k1)) rfl e10 ?_)
    refine wl_taken (c := x7.Kind == 6) rfl rfl rfl rfl hc7 (op_move (v := (Value.int .i64 ((i1 : Int)))) rfl e13 ?_)
    obtain ⟨x8, hx8, h1⟩ := bnd h1
    refine wl_taken (c := x7.Kind == 6) rfl rfl rfl rfl hc7 (op_indexAddr_rv (v := (Value.slice z1 m1 k1)) (i := (i1 : Int)) (e := x8) rfl Try.underlying25 sh46 rfl h0_ rfl hx8 ?_)
    refine wl_taken (c := x7.Kind == 6) rfl rfl rfl rfl hc7 (op_fieldAddr_t (v := (elemPtr (Value.slice z1 m1 k1) ((i1 : Int)) (Enc.sz Signal))) rfl fa46_0 rfl (h0_.elem I3.in_ hx8) ?_)
    refine wl_taken (c := x7.Kind == 6) rfl rfl rfl rfl hc7 (op_load_int (v := (fieldPtr (elemPtr (Value.slice z1 m1 k1) ((i1 : Int)) (Enc.sz Signal)) 0)) (e := x8.At) rfl sh3 rfl ((h0_.elem I3.in_ hx8).fld Signal.fld0) ?_)
    refine wl_taken (c := x7.Kind == 6) rfl rfl rfl rfl hc7 (op_move (v := (Value.int .i64 (a1))) rfl e11 ?_)
    refine wl_taken (c := x7.Kind == 6) rfl rfl rfl rfl hc7 (op_eql (a := x8.At) (b := a1) rfl rfl rfl ?_)
    refine wl_op rfl (op_pick_t (c := x7.Kind == 6) (a := (Value.bool (x8.At == a1))) rfl rfl hc7 rfl ?_)
    refine wl_op rfl (op_move (v := (Value.bool (x8.At == a1))) rfl rfl ?_)
    rcases ifs h1 with ⟨hc8, h1⟩ | ⟨hc8, h1⟩
    ·
     refine wl_taken (c := x8.At == a1) rfl rfl rfl rfl hc8 (op_move (v := (Value.slice z1 m1 k1)) rfl e10 ?_)
     refine wl_taken (c := x8.At == a1) rfl rfl rfl rfl hc8 (op_move (v := (Value.int .i64 ((i1 : Int)))) rfl e13 ?_)
     obtain ⟨x9, hx9, h1⟩ := bnd h1
     refine wl_taken (c := x8.At == a1) rfl rfl rfl rfl hc8 (op_indexAddr_rv (v := (Value.slice z1 m1 k1)) (i := (i1 : Int)) (e := x9) rfl Try.underlying25 sh46 rfl h0_ rfl hx9 ?_)
     refine wl_taken (c := x8.At == a1) rfl rfl rfl rfl hc8 (op_fieldAddr_t (v := (elemPtr (Value.slice z1 m1 k1) ((i1 : Int)) (Enc.sz Signal))) rfl fa46_2 rfl (h0_.elem I3.in_ hx9) ?_)
     refine wl_taken (c := x8.At == a1) rfl rfl rfl rfl hc8 (op_load_int (v := (fieldPtr (elemPtr (Value.slice z1 m1 k1) ((i1 : Int)) (Enc.sz Signal)) 2)) (e := x9.Number) rfl sh3 rfl ((h0_.elem I3.in_ hx9).fld Signal.fld2) ?_)
     refine wl_taken (c := x8.At == a1) rfl rfl rfl rfl hc8 (op_move (v := (Value.int .i64 (a2))) rfl e12 ?_)
     refine wl_taken (c := x8.At == a1) rfl rfl rfl rfl hc8 (op_eql (a := x9.Number) (b := a2) rfl rfl rfl ?_)
     refine wl_op rfl (op_pick_t (c := x8.At == a1) (a := (Value.bool (x9.Number == a2))) rfl rfl hc8 rfl ?_)
     refine wl_nil ?_
     rcases ifs h1 with ⟨hc9, h1⟩ | ⟨hc9, h1⟩
     ·
      refine wp_cond_t (b := x9.Number == a2) rfl hc9 ?_
      refine wp_seq' ?_
      refine wp_region' ?_
      refine wl_op rfl (op_assign (v := (Value.bool (true))) rfl rfl ?_)
      refine wl_nil ?_
      refine wp_ret' ?_
      obtain rfl := Option.some.inj h1
      obtain rfl := (hout1 _ rfl)
      have h2 := h
      obtain rfl := Option.some.inj h2
      exact ⟨(Value.bool (true)), (res1 rfl rfl), _, [], (PH.Le.refl _), I3, rfl, rfl⟩
     ·
      refine wp_cond_f (b := x9.Number == a2) rfl hc9 ?_
      refine wp_skip' ?_
      refine wp_region' ?_
      refine wl_op rfl (op_move (v := (Value.int .i64 ((i1 : Int)))) rfl e13 ?_)
      refine wl_op rfl (op_add (a := (i1 : Int)) (b := 1) rfl rfl rfl ?_)
      refine wl_op rfl (op_assign (v := (Value.int .i64 (w64 ((i1 : Int) + 1)))) rfl rfl ?_)
      refine wl_nil ?_
      obtain rfl := Option.some.inj h1
      exact ⟨_, rfl, I3, e10, e11, e12, (idx_next hlt1 hk1)⟩
    ·
     refine wl_skip (c := x8.At == a1) rfl rfl rfl rfl hc8 rfl ?_
     refine wl_skip (c := x8.At == a1) rfl rfl rfl rfl hc8 rfl ?_
     refine wl_skip (c := x8.At == a1) rfl rfl rfl rfl hc8 rfl ?_
     refine wl_skip (c := x8.At == a1) rfl rfl rfl rfl hc8 rfl ?_
     refine wl_skip (c := x8.At == a1) rfl rfl rfl rfl hc8 rfl ?_
     refine wl_skip (c := x8.At == a1) rfl rfl rfl rfl hc8 rfl ?_
     refine wl_skip (c := x8.At == a1) rfl rfl rfl rfl hc8 rfl ?_
     refine wl_op rfl (op_pick_f (c := x8.At == a1) (b := (Value.bool (false))) rfl rfl hc8 rfl ?_)
     refine wl_nil ?_
     refine wp_cond_f (b := false) rfl rfl ?_
     refine wp_skip' ?_
     refine wp_region' ?_
     refine wl_op rfl (op_move (v := (Value.int .i64 ((i1 : Int)))) rfl e13 ?_)
     refine wl_op rfl (op_add (a := (i1 : Int)) (b := 1) rfl rfl rfl ?_)
     refine wl_op rfl (op_assign (v := (Value.int .i64 (w64 ((i1 : Int) + 1)))) rfl rfl ?_)
     refine wl_nil ?_
     obtain rfl := Option.some.inj h1
     exact ⟨_, rfl, I3, e10, e11, e12, (idx_next hlt1 hk1)⟩
   ·
    refine wl_skip (c := x7.Kind == 6) rfl rfl rfl rfl hc7 rfl ?_
    refine wl_skip (c := x7.Kind == 6) rfl rfl rfl rfl hc7 rfl ?_
    refine wl_skip (c := x7.Kind == 6) rfl rfl rfl rfl hc7 rfl ?_
    refine wl_skip (c := x7.Kind == 6) rfl rfl rfl rfl hc7 rfl ?_
    refine wl_skip (c := x7.Kind == 6) rfl rfl rfl rfl hc7 rfl ?_
    refine wl_skip (c := x7.Kind == 6) rfl rfl rfl rfl hc7 rfl ?_
    refine wl_skip (c := x7.Kind == 6) rfl rfl rfl rfl hc7 rfl ?_
    refine wl_op rfl (op_pick_f (c := x7.Kind == 6) (b := (Value.bool (false))) rfl rfl hc7 rfl ?_)
    refine wl_op rfl (op_move (v := (Value.bool (false))) rfl rfl ?_)
    refine wl_skip (c := false) rfl rfl rfl rfl rfl rfl ?_
    refine wl_skip (c := false) rfl rfl rfl rfl rfl rfl ?_
    refine wl_skip (c := false) rfl rfl rfl rfl rfl rfl ?_
    refine wl_skip (c := false) rfl rfl rfl rfl rfl rfl ?_
    refine wl_skip (c := false) rfl rfl rfl rfl rfl rfl ?_
    refine wl_skip (c := false) rfl rfl rfl rfl rfl rfl ?_
    refine wl_skip (c := false) rfl rfl rfl rfl rfl rfl ?_
    refine wl_op rfl (op_pick_f (c := false) (b := (Value.bool (false))) rfl rfl rfl rfl ?_)
    refine wl_nil ?_
    refine wp_cond_f (b := false) rfl rfl ?_
    refine wp_skip' ?_
    refine wp_region' ?_
    refine wl_op rfl (op_move (v := (Value.int .i64 ((i1 : Int)))) rfl e13 ?_)
    refine wl_op rfl (op_add (a := (i1 : Int)) (b := 1) rfl rfl rfl ?_)
    refine wl_op rfl (op_assign (v := (Value.int .i64 (w64 ((i1 : Int) + 1)))) rfl rfl ?_)
    refine wl_nil ?_
    obtain rfl := Option.some.inj h1
    exact ⟨_, rfl, I3, e10, e11, e12, (idx_next hlt1 hk1)⟩
  ·
   rintro s2 f w hs1 hI2
   obtain ⟨I4, e14, e15, e16, e17⟩ := hI2
   refine wp_seq' ?_
   refine wp_seq' ?_
   refine wp_region' ?_
   refine wl_op rfl (op_move (v := (Value.int .i64 ((a0.length : Int)))) rfl e17 ?_)
   refine wl_op rfl (op_move (v := (Value.slice z1 m1 k1)) rfl e14 ?_)
   refine wl_op rfl (op_len_rv rfl Try.underlying25 rfl h0_ ?_)
   refine wl_op rfl (op_lss (a := (a0.length : Int)) (b := (a0.length : Int)) rfl rfl rfl ?_)
   refine wl_nil ?_
   refine wp_cond_f (b := decide ((a0.length : Int) < (a0.length : Int))) rfl (len_f _) ?_
   refine wp_exit' ?_
   exact ⟨s2, hs1, I4, e14, e15, e16⟩
 ·
  rintro f w ⟨out1, rfl, I5, e18, e19, e20⟩
  have h := onL_inl h
  refine wp_seq' ?_
  refine wp_region' ?_
  refine wl_op rfl (op_assign (v := (Value.bool (false))) rfl rfl ?_)
  refine wl_nil ?_
  refine wp_ret' ?_
  obtain rfl := Option.some.inj h
  exact ⟨(Value.bool (false)), (res1 rfl rfl), _, [], (PH.Le.refl _), I5, rfl, rfl⟩
end Go.Proofs.Ytfeomcdhhgeilaa.Pad
