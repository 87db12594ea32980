/- A part of the proof: what the functions of the program compute, shown over the model. -/
import Derived.Test.YtfeomcdhhgeilaaPadSP
import Derived.Test.YtfeomcdhhgeilaaPadSW10
import Derived.Test.YtfeomcdhhgeilaaPadSW14
import Derived.KernelRfl
set_option linter.unusedVariables false
namespace Go.Proofs.Ytfeomcdhhgeilaa.Pad
open Go Go.Proofs
set_option maxHeartbeats 4000000 in
set_option maxRecDepth 100000 in
theorem F61_ok (n_ : Nat) : ∀ {w : World} {S : PH} {Fr : List HP} {a0 : Panel} {v0 : Value} {a1 : Int} {a2 : (List Signal)} {v2 : Value} {a3 : Int} {a4 : (List Int)} {v4 : Value} {a5 : Int} {a6 : Int} {r : (List Int) × Bool} (hI : Inv w S (Fr)) (h0_ : RV S v0 a0) (h2_ : RV S v2 a2) (h4_ : RV S v4 a4) (h : F61 n_ a0 a1 a2 a3 a4 a5 a6 = some r),
    Calls Try.prog 61 [v0, (Value.int .i64 (a1)), v2, (Value.int .i64 (a3)), v4, (Value.int .i64 (a5)), (Value.int .i64 (a6))].toArray w (Done S Fr (fun T_ v_ O_ => ∃ (a0_ : Option Addr) (n0_ k0_ : Nat), v_ = (Value.tuple #[(Value.slice a0_ n0_ k0_), (Value.bool (r.2))]) ∧ O_ = [] ∧ RV T_ (Value.slice a0_ n0_ k0_) r.1)) := by
  induction n_ with
  | zero => intros; rename_i h; cases h
  | succ n_ ih =>
   intro w S Fr a0 v0 a1 a2 v2 a3 a4 v4 a5 a6 r hI h0_ h2_ h4_ h
   rw [F61] at h
   obtain ⟨c1, e1, r1⟩ := Panel.inv h0_
   subst e1
   obtain ⟨z1, m1, k1, e2⟩ := rv_form r1
   subst e2
   obtain ⟨z2, m2, k2, e3⟩ := rv_form h2_
   subst e3
   obtain ⟨z3, m3, k3, e4⟩ := rv_form h4_
   subst e4
   refine calls_enter (n := 63) (vs := [(Value.agg #[(Value.int .i64 (a0.Sensors)), (Value.slice z1 m1 k1), (Value.int .i64 (a0.Stale)), (Value.int .i64 (a0.Limit))]), (Value.int .i64 (a1)), (Value.slice z2 m2 k2), (Value.int .i64 (a3)), (Value.slice z3 m3 k3), (Value.int .i64 (a5)), (Value.int .i64 (a6))]) Try.func61 rfl rfl rfl ?_
   refine wp_seq' ?_
   refine wp_region' ?_
   refine wl_op rfl (op_box (v := (Value.agg #[(Value.int .i64 (a0.Sensors)), (Value.slice z1 m1 k1), (Value.int .i64 (a0.Stale)), (Value.int .i64 (a0.Limit))])) rfl hI rfl (fun g1 w1 I1 => ?_))
   obtain ⟨S1, le1, I2, p1⟩ := Inv.boxFreeze (x := a0) I1 (Panel.rv (s := a0) r1)
   refine wl_op rfl (op_assign (v := (Value.slice none 0 0)) rfl rfl ?_)
   refine wl_op rfl (op_assign (v := (Value.bool (false))) rfl rfl ?_)
   refine wl_nil ?_
   refine wp_seq' ?_
   refine wp_seq' ?_
   refine wp_region' ?_
   refine wl_op rfl (op_move (v := (Value.int .i64 (a6))) rfl rfl ?_)
   refine wl_op rfl (op_eql (a := a6) (b := 0) rfl rfl rfl ?_)
   refine wl_nil ?_
   rcases ifs h with ⟨hc1, h⟩ | ⟨hc1, h⟩
   ·
    refine wp_cond_t (b := a6 == 0) rfl hc1 ?_
    refine wp_seq' ?_
    obtain ⟨x1, hx1, h⟩ := bnd h
    obtain ⟨x2, hx2, h⟩ := bnd h
    obtain ⟨x3, hx3, h⟩ := bnd h
    obtain ⟨x4, hx4, h⟩ := bnd h
    refine wp_draw (sps := [⟨some 21, [], [0], fun vs_ T_ => fr0 vs_ 0 = (Value.slice z3 m3 k3), [], [], [], fun _ h_ => h_⟩, ⟨some 22, [], [1], fun vs_ T_ => RV T_ (fr0 vs_ 0) a0, [], [], [], fun hle_ h_ => h_.mono hle_⟩, ⟨some 23, [], [2], fun vs_ T_ => fr0 vs_ 0 = (Value.int .i64 (a1)), [], [], [], fun _ h_ => h_⟩, ⟨some 24, [], [3], fun vs_ T_ => fr0 vs_ 0 = (Value.slice z2 m2 k2), [], [], [], fun _ h_ => h_⟩, ⟨some 25, [], [4], fun vs_ T_ => fr0 vs_ 0 = (Value.int .i64 (a3)), [], [], [], fun _ h_ => h_⟩, ⟨some 26, [], [5], fun vs_ T_ => fr0 vs_ 0 = (Value.slice z3 m3 k3), [], [], [], fun _ h_ => h_⟩, ⟨some 27, [3, 4, 5], [6], fun vs_ T_ => ∃ (a0_ : Option Addr) (n0_ k0_ : Nat), fr0 vs_ 0 = (Value.slice a0_ n0_ k0_), [], [], [0], fun _ h_ => h_⟩, ⟨some 28, [1, 2, 3, 4, 5, 6], [7], fun vs_ T_ => ∃ (a0_ : Option Addr) (n0_ k0_ : Nat), fr0 vs_ 0 = (Value.slice a0_ n0_ k0_), [], [0], [1], fun _ h_ => h_⟩, ⟨some 29, [], [8], fun vs_ T_ => fr0 vs_ 0 = (Value.int .i64 (a1)), [], [], [], fun _ h_ => h_⟩, ⟨some 30, [8], [9], fun vs_ T_ => fr0 vs_ 0 = (Value.int .i64 (w64 (a1 - 1))), [], [], [], fun _ h_ => h_⟩, ⟨some 31, [1, 2, 3, 4, 5, 6, 7, 8, 9], [10, 7], fun vs_ T_ => fr0 vs_ 0 = (elemPtr (fr0 vs_ 1) (w64 (a1 - 1)) (Enc.sz Ref08_Frame)), [1], [], [], fun _ h_ => h_⟩, ⟨some 32, [1, 2, 3, 4, 5, 6, 7, 8, 9, 10], [11, 7], fun vs_ T_ => fr0 vs_ 0 = (fieldPtr (elemPtr (fr0 vs_ 1) (w64 (a1 - 1)) (Enc.sz Ref08_Frame)) 4), [1], [], [], fun _ h_ => h_⟩, ⟨some 33, [1, 2, 3, 4, 5, 6, 7, 8, 9, 10, 11], [12], fun vs_ T_ => RV T_ (fr0 vs_ 0) x3.Shut, [1], [], [], fun hle_ h_ => h_.mono hle_⟩, ⟨some 34, [], [13], fun vs_ T_ => fr0 vs_ 0 = (Value.int .i64 (a3)), [], [], [], fun _ h_ => h_⟩, ⟨some 35, [1, 2, 3, 4, 5, 6, 7, 8, 9, 10, 11, 12, 13], [14, 12], fun vs_ T_ => fr0 vs_ 0 = (elemPtr (fr0 vs_ 1) (a3) (Enc.sz Bool)), [], [], [], fun _ h_ => h_⟩, ⟨some 36, [1, 2, 3, 4, 5, 6, 7, 8, 9, 10, 11, 12, 13, 14], [15], fun vs_ T_ => fr0 vs_ 0 = (Value.bool (x4)), [], [], [], fun _ h_ => h_⟩, ⟨some 37, [1, 2, 3, 4, 5, 6, 7, 8, 9, 10, 11, 12, 13, 14, 15], [16], fun vs_ T_ => fr0 vs_ 0 = (Value.bool (!x4)), [], [], [], fun _ h_ => h_⟩, ⟨some 14, [0, 1, 2, 3, 4, 5, 6, 7], [17], fun vs_ T_ => fr0 vs_ 0 = (Value.slice z3 m3 k3), [], [], [], fun _ h_ => h_⟩, ⟨some 15, [0, 1, 2, 3, 4, 5, 6, 7, 8, 9, 10, 11, 12, 13, 14, 15, 16, 17], [18], fun vs_ T_ => fr0 vs_ 0 = (Value.bool (!x4)), [], [], [], fun _ h_ => h_⟩]) (tks := [⟨some 6, some 7, [6], fun vs_ => Row (α := Signal) 46 (fr0 vs_ 0) (x1)⟩, ⟨some 7, none, [7], fun vs_ => Row (α := Ref08_Frame) 85 (fr0 vs_ 0) (x2)⟩]) (O := Fr) rfl (by kernel_rfl) I2 ⟨?_, ?_, ?_, ?_, ?_, ?_, ?_, ?_, ?_, ?_, ?_, ?_, ?_, ?_, ?_, ?_, ?_, ?_, ?_, trivial⟩ ?_
    ·
     intro vs1 f w2 S2 X1 le2 hA1 hK1 hI1
     have I3 : Inv w2 S2 (X1) := hI1
     refine opg_plain rfl rfl (op_move (v := (Value.slice z3 m3 k3)) rfl (hK1 4 (keep_of rfl)) ?_)
     refine ⟨_, _, rfl, PH.Le.refl _, ?_, ?_⟩
     ·
      exact rfl
     ·
      exact I3
    ·
     intro vs2 f w3 S3 X2 le3 hA2 hK2 hI2
     have I4 : Inv w3 S3 (X2) := hI2
     refine opg_plain rfl rfl (op_load (v := (Value.pointer (some ⟨g1, 0, none⟩))) (e := a0) rfl sh24 (hK2 7 (keep_of rfl)) ((p1.mono le3).at_ I4) (fun u3 hu3 => ?_))
     obtain ⟨c2, e5, r2⟩ := Panel.inv hu3
     subst e5
     obtain ⟨z4, m4, k4, e6⟩ := rv_form r2
     subst e6
     refine ⟨_, _, rfl, PH.Le.refl _, ?_, ?_⟩
     ·
      exact (Panel.rv (s := a0) r2)
     ·
      exact I4
    ·
     intro vs3 f w4 S4 X3 le4 hA3 hK3 hI3
     have I5 : Inv w4 S4 (X3) := hI3
     refine opg_plain rfl rfl (op_move (v := (Value.int .i64 (a1))) rfl (hK3 1 (keep_of rfl)) ?_)
     refine ⟨_, _, rfl, PH.Le.refl _, ?_, ?_⟩
     ·
      exact rfl
     ·
      exact I5
    ·
     intro vs4 f w5 S5 X4 le5 hA4 hK4 hI4
     have I6 : Inv w5 S5 (X4) := hI4
     refine opg_plain rfl rfl (op_move (v := (Value.slice z2 m2 k2)) rfl (hK4 2 (keep_of rfl)) ?_)
     refine ⟨_, _, rfl, PH.Le.refl _, ?_, ?_⟩
     ·
      exact rfl
     ·
      exact I6
    ·
     intro vs5 f w6 S6 X5 le6 hA5 hK5 hI5
     have I7 : Inv w6 S6 (X5) := hI5
     refine opg_plain rfl rfl (op_move (v := (Value.int .i64 (a3))) rfl (hK5 3 (keep_of rfl)) ?_)
     refine ⟨_, _, rfl, PH.Le.refl _, ?_, ?_⟩
     ·
      exact rfl
     ·
      exact I7
    ·
     intro vs6 f w7 S7 X6 le7 hA6 hK6 hI6
     have I8 : Inv w7 S7 (X6) := hI6
     refine opg_plain rfl rfl (op_move (v := (Value.slice z3 m3 k3)) rfl (hK6 4 (keep_of rfl)) ?_)
     refine ⟨_, _, rfl, PH.Le.refl _, ?_, ?_⟩
     ·
      exact rfl
     ·
      exact I8
    ·
     intro vs7 f w8 S8 X7 le8 hA7 hK7 hI7
     have I9 : Inv w8 S8 (X7) := hI7
     have q1 : f 24 = (Value.slice z2 m2 k2) := vt (hA7.at_ 0 rfl _ rfl) rfl
     have q2 : f 25 = (Value.int .i64 (a3)) := vt (hA7.at_ 1 rfl _ rfl) rfl
     have q3 : f 26 = (Value.slice z3 m3 k3) := vt (hA7.at_ 2 rfl _ rfl) rfl
     refine opg_plain rfl rfl (op_call (vs := [(Value.slice z2 m2 k2), (Value.int .i64 (a3)), (Value.slice z3 m3 k3)]) rfl ca18 rfl (args3 q1 q2 q3) (F18_ok I9 (h2_.mono (le1.trans le8)) (h4_.mono (le1.trans le8)) hx1) (fun v1 w9 S9 O1 le9 I10 hv1 => ?_))
     obtain ⟨z5, m5, k5, rfl, rfl⟩ := hv1
     refine ⟨_, _, rfl, le9, ?_, ?_⟩
     ·
      exact ⟨_, _, _, rfl⟩
     ·
      exact I10
    ·
     intro vs8 f w10 S10 X8 le10 hA8 hK8 hI8
     have I11 : Inv w10 S10 (Row (α := Signal) 46 (vs8 6) (x1) :: X8) := hI8
     have q4 : f 22 = vs8 1 := (hA8.at_ 0 rfl _ rfl).1 _ rfl
     have r3 : RV S10 (vs8 1) a0 := (hA8.at_ 0 rfl _ rfl).2
     obtain ⟨u4, hu4⟩ : ∃ u, vs8 1 = u := ⟨_, rfl⟩
     rw [hu4] at q4 r3
     obtain ⟨c3, e7, r4⟩ := Panel.inv r3
     subst e7
     obtain ⟨z6, m6, k6, e8⟩ := rv_form r4
     subst e8
     have q5 : f 23 = (Value.int .i64 (a1)) := vt (hA8.at_ 1 rfl _ rfl) rfl
     obtain ⟨z7, m7, k7, e9⟩ := (hA8.at_ 5 rfl _ rfl).2
     have e9 : vs8 6 = (Value.slice z7 m7 k7) := e9
     have q6 : f 27 = (Value.slice z7 m7 k7) := ((hA8.at_ 5 rfl _ rfl).1 _ rfl).trans e9
     have I12 := I11
     rw [e9] at I12
     obtain ⟨S11, le11, I13, r5⟩ := Inv.rowFreeze I12
     refine opg_plain rfl rfl (op_call (vs := [(Value.agg #[(Value.int .i64 (a0.Sensors)), (Value.slice z6 m6 k6), (Value.int .i64 (a0.Stale)), (Value.int .i64 (a0.Limit))]), (Value.int .i64 (a1)), (Value.slice z7 m7 k7)]) rfl ca52 rfl (args3 q4 q5 q6) (F52_ok I13 (Panel.rv (s := a0) (r4.mono le11)) r5 hx2) (fun v2 w11 S12 O2 le12 I14 hv2 => ?_))
     obtain ⟨z8, m8, k8, rfl, rfl⟩ := hv2
     refine ⟨_, _, rfl, (le11.trans le12), ?_, ?_⟩
     ·
      exact ⟨_, _, _, rfl⟩
     ·
      exact I14
    ·
     intro vs9 f w12 S13 X9 le13 hA9 hK9 hI9
     have I15 : Inv w12 S13 (X9) := hI9
     refine opg_plain rfl rfl (op_move (v := (Value.int .i64 (a1))) rfl (hK9 1 (keep_of rfl)) ?_)
     refine ⟨_, _, rfl, PH.Le.refl _, ?_, ?_⟩
     ·
      exact rfl
     ·
      exact I15
    ·
     intro vs10 f w13 S14 X10 le14 hA10 hK10 hI10
     have I16 : Inv w13 S14 (X10) := hI10
     have q7 : f 29 = (Value.int .i64 (a1)) := vt (hA10.at_ 0 rfl _ rfl) rfl
     refine opg_plain rfl rfl (op_sub (a := a1) (b := 1) rfl q7 rfl ?_)
     refine ⟨_, _, rfl, PH.Le.refl _, ?_, ?_⟩
     ·
      exact rfl
     ·
      exact I16
    ·
     intro vs11 f w14 S15 X11 le15 hA11 hK11 hI11
     have I17 : Inv w14 S15 (Row (α := Ref08_Frame) 85 (vs11 7) (x2) :: X11) := hI11
     obtain ⟨z9, m9, k9, e10⟩ := (hA11.at_ 6 rfl _ rfl).2
     have e10 : vs11 7 = (Value.slice z9 m9 k9) := e10
     have q8 : f 28 = (Value.slice z9 m9 k9) := ((hA11.at_ 6 rfl _ rfl).1 _ rfl).trans e10
     have I18 := I17
     rw [e10] at I18
     have q9 : f 30 = (Value.int .i64 (w64 (a1 - 1))) := vt (hA11.at_ 8 rfl _ rfl) rfl
     refine opg_plain rfl rfl (op_indexAddr_src (v := (Value.slice z9 m9 k9)) (i := w64 (a1 - 1)) (e := x3) rfl Try.underlying80 sh85 q8 (Inv.rowSrc (I18.nth 0 rfl)) q9 hx3 ?_)
     refine ⟨_, _, rfl, PH.Le.refl _, ?_, ?_⟩
     ·
      show (elemPtr (Value.slice z9 m9 k9) (w64 (a1 - 1)) (Enc.sz Ref08_Frame)) = (elemPtr (vs11 7) (w64 (a1 - 1)) (Enc.sz Ref08_Frame))
      simp only [e10] <;> rfl
     ·
      show Inv _ _ (Row (α := Ref08_Frame) 85 (vs11 7) (x2) :: X11)
      simp only [e10]
      exact I18
    ·
     intro vs12 f w15 S16 X12 le16 hA12 hK12 hI12
     have I19 : Inv w15 S16 (Row (α := Ref08_Frame) 85 (vs12 7) (x2) :: X12) := hI12
     obtain ⟨z10, m10, k10, e11⟩ := (hA12.at_ 6 rfl _ rfl).2
     have e11 : vs12 7 = (Value.slice z10 m10 k10) := e11
     have q10 : f 28 = (Value.slice z10 m10 k10) := ((hA12.at_ 6 rfl _ rfl).1 _ rfl).trans e11
     have I20 := I19
     rw [e11] at I20
     have q11 : f 30 = (Value.int .i64 (w64 (a1 - 1))) := vt (hA12.at_ 8 rfl _ rfl) rfl
     have q12 : f 31 = (elemPtr (vs12 7) (w64 (a1 - 1)) (Enc.sz Ref08_Frame)) := vt (hA12.at_ 9 rfl _ rfl) rfl
     simp only [e11] at q12
     have q12 : f 31 = (elemPtr (Value.slice z10 m10 k10) (w64 (a1 - 1)) (Enc.sz Ref08_Frame)) := q12
     refine opg_plain rfl rfl (op_fieldAddr_t (v := (elemPtr (Value.slice z10 m10 k10) (w64 (a1 - 1)) (Enc.sz Ref08_Frame))) rfl fa85_4 q12 ((I20.nth 0 rfl).rowElem hx3) ?_)
     refine ⟨_, _, rfl, PH.Le.refl _, ?_, ?_⟩
     ·
      show (fieldPtr (elemPtr (Value.slice z10 m10 k10) (w64 (a1 - 1)) (Enc.sz Ref08_Frame)) 4) = (fieldPtr (elemPtr (vs12 7) (w64 (a1 - 1)) (Enc.sz Ref08_Frame)) 4)
      simp only [e11] <;> rfl
     ·
      show Inv _ _ (Row (α := Ref08_Frame) 85 (vs12 7) (x2) :: X12)
      simp only [e11]
      exact I20
    ·
     intro vs13 f w16 S17 X13 le17 hA13 hK13 hI13
     have I21 : Inv w16 S17 (Row (α := Ref08_Frame) 85 (vs13 7) (x2) :: X13) := hI13
     obtain ⟨z11, m11, k11, e12⟩ := (hA13.at_ 6 rfl _ rfl).2
     have e12 : vs13 7 = (Value.slice z11 m11 k11) := e12
     have q13 : f 28 = (Value.slice z11 m11 k11) := ((hA13.at_ 6 rfl _ rfl).1 _ rfl).trans e12
     have I22 := I21
     rw [e12] at I22
     have q14 : f 30 = (Value.int .i64 (w64 (a1 - 1))) := vt (hA13.at_ 8 rfl _ rfl) rfl
     have q15 : f 31 = (elemPtr (vs13 7) (w64 (a1 - 1)) (Enc.sz Ref08_Frame)) := vt (hA13.at_ 9 rfl _ rfl) rfl
     simp only [e12] at q15
     have q15 : f 31 = (elemPtr (Value.slice z11 m11 k11) (w64 (a1 - 1)) (Enc.sz Ref08_Frame)) := q15
     have q16 : f 32 = (fieldPtr (elemPtr (vs13 7) (w64 (a1 - 1)) (Enc.sz Ref08_Frame)) 4) := vt (hA13.at_ 10 rfl _ rfl) rfl
     simp only [e12] at q16
     have q16 : f 32 = (fieldPtr (elemPtr (Value.slice z11 m11 k11) (w64 (a1 - 1)) (Enc.sz Ref08_Frame)) 4) := q16
     refine opg_plain rfl rfl (op_load (v := (fieldPtr (elemPtr (Value.slice z11 m11 k11) (w64 (a1 - 1)) (Enc.sz Ref08_Frame)) 4)) (e := x3.Shut) rfl sh83 q16 (((I22.nth 0 rfl).rowElem hx3).fld Ref08_Frame.fld4) (fun u5 hu5 => ?_))
     obtain ⟨z12, m12, k12, e13⟩ := rv_form hu5
     subst e13
     refine ⟨_, _, rfl, PH.Le.refl _, ?_, ?_⟩
     ·
      exact hu5
     ·
      show Inv _ _ (Row (α := Ref08_Frame) 85 (vs13 7) (x2) :: X13)
      simp only [e12]
      exact I22
    ·
     intro vs14 f w17 S18 X14 le18 hA14 hK14 hI14
     have I23 : Inv w17 S18 (X14) := hI14
     refine opg_plain rfl rfl (op_move (v := (Value.int .i64 (a3))) rfl (hK14 3 (keep_of rfl)) ?_)
     refine ⟨_, _, rfl, PH.Le.refl _, ?_, ?_⟩
     ·
      exact rfl
     ·
      exact I23
    ·
     intro vs15 f w18 S19 X15 le19 hA15 hK15 hI15
     have I24 : Inv w18 S19 (X15) := hI15
     have q17 : f 33 = vs15 12 := (hA15.at_ 11 rfl _ rfl).1 _ rfl
     have r6 : RV S19 (vs15 12) x3.Shut := (hA15.at_ 11 rfl _ rfl).2
     obtain ⟨u6, hu6⟩ : ∃ u, vs15 12 = u := ⟨_, rfl⟩
     rw [hu6] at q17 r6
     obtain ⟨z13, m13, k13, e14⟩ := rv_form r6
     subst e14
     have q18 : f 34 = (Value.int .i64 (a3)) := vt (hA15.at_ 12 rfl _ rfl) rfl
     refine opg_plain rfl rfl (op_indexAddr_rv (v := (Value.slice z13 m13 k13)) (i := a3) (e := x4) rfl Try.underlying83 sh4 q17 r6 q18 hx4 ?_)
     refine ⟨_, _, rfl, PH.Le.refl _, ?_, ?_⟩
     ·
      show (elemPtr (Value.slice z13 m13 k13) (a3) (Enc.sz Bool)) = (elemPtr (vs15 12) (a3) (Enc.sz Bool))
      simp only [hu6] <;> rfl
     ·
      exact I24
    ·
     intro vs16 f w19 S20 X16 le20 hA16 hK16 hI16
     have I25 : Inv w19 S20 (X16) := hI16
     have q19 : f 33 = vs16 12 := (hA16.at_ 11 rfl _ rfl).1 _ rfl
     have r7 : RV S20 (vs16 12) x3.Shut := (hA16.at_ 11 rfl _ rfl).2
     obtain ⟨u7, hu7⟩ : ∃ u, vs16 12 = u := ⟨_, rfl⟩
     rw [hu7] at q19 r7
     obtain ⟨z14, m14, k14, e15⟩ := rv_form r7
     subst e15
     have q20 : f 34 = (Value.int .i64 (a3)) := vt (hA16.at_ 12 rfl _ rfl) rfl
     have q21 : f 35 = (elemPtr (vs16 12) (a3) (Enc.sz Bool)) := vt (hA16.at_ 13 rfl _ rfl) rfl
     simp only [hu7] at q21
     have q21 : f 35 = (elemPtr (Value.slice z14 m14 k14) (a3) (Enc.sz Bool)) := q21
     refine opg_plain rfl rfl (op_load_bool (v := (elemPtr (Value.slice z14 m14 k14) (a3) (Enc.sz Bool))) (e := x4) rfl sh4 q21 (r7.elem I25.in_ hx4) ?_)
     refine ⟨_, _, rfl, PH.Le.refl _, ?_, ?_⟩
     ·
      exact rfl
     ·
      exact I25
    ·
     intro vs17 f w20 S21 X17 le21 hA17 hK17 hI17
     have I26 : Inv w20 S21 (X17) := hI17
     have q22 : f 36 = (Value.bool (x4)) := vt (hA17.at_ 14 rfl _ rfl) rfl
     refine opg_plain rfl rfl (op_not (b := x4) rfl q22 ?_)
     refine ⟨_, _, rfl, PH.Le.refl _, ?_, ?_⟩
     ·
      exact rfl
     ·
      exact I26
    ·
     intro vs18 f w21 S22 X18 le22 hA18 hK18 hI18
     have I27 : Inv w21 S22 (X18) := hI18
     have q23 : f 21 = (Value.slice z3 m3 k3) := vt (hA18.at_ 0 rfl _ rfl) rfl
     refine opg_plain rfl rfl (op_assign (v := (Value.slice z3 m3 k3)) rfl q23 ?_)
     refine ⟨_, _, rfl, PH.Le.refl _, ?_, ?_⟩
     ·
      exact rfl
     ·
      exact I27
    ·
     intro vs19 f w22 S23 X19 le23 hA19 hK19 hI19
     have I28 : Inv w22 S23 (X19) := hI19
     have q24 : f 37 = (Value.bool (!x4)) := vt (hA19.at_ 16 rfl _ rfl) rfl
     refine opg_plain rfl rfl (op_assign (v := (Value.bool (!x4))) rfl q24 ?_)
     refine ⟨_, _, rfl, PH.Le.refl _, ?_, ?_⟩
     ·
      exact rfl
     ·
      exact I28
    ·
     intro vs20 f w23 S24 le24 hF1 hK20 hI20
     have I29 : Inv w23 S24 (Row (α := Ref08_Frame) 85 (vs20 7) (x2) :: Fr) := hI20
     obtain ⟨z15, m15, k15, e16⟩ := (hF1.at_ 7 rfl _ rfl).2
     have e16 : vs20 7 = (Value.slice z15 m15 k15) := e16
     have q25 : f 28 = (Value.slice z15 m15 k15) := ((hF1.at_ 7 rfl _ rfl).1 _ rfl).trans e16
     have I30 := I29
     rw [e16] at I30
     have q26 : f 14 = (Value.slice z3 m3 k3) := vt (hF1.at_ 17 rfl _ rfl) rfl
     have q27 : f 15 = (Value.bool (!x4)) := vt (hF1.at_ 18 rfl _ rfl) rfl
     refine wp_ret' ?_
     obtain rfl := Option.some.inj h
     exact ⟨(Value.tuple #[(Value.slice z3 m3 k3), (Value.bool (!x4))]), (res2 rfl q26 q27), _, [], (le1.trans le24), (I30).drop, _, _, _, rfl, rfl, (h4_.mono (le1.trans le24))⟩
   ·
    refine wp_cond_f (b := a6 == 0) rfl hc1 ?_
    refine wp_skip' ?_
    refine wp_seq' ?_
    refine wp_seq' ?_
    refine wp_region' ?_
    refine wl_op rfl (op_move (v := (Value.int .i64 (a5))) rfl rfl ?_)
    refine wl_op rfl (op_assign (v := (Value.int .i64 (a5))) rfl rfl ?_)
    refine wl_nil ?_
    obtain ⟨o2, hrun1, h⟩ := bnd h
    refine wp_cutN (fun f w => ∃ out1, o2 = Sum.inl out1 ∧ ∃ (S_ : PH), S1.Le S_ ∧ Inv w S_ (Fr) ∧ f 1 = (Value.int .i64 (a1)) ∧ f 2 = (Value.slice z2 m2 k2) ∧ f 3 = (Value.int .i64 (a3)) ∧ f 4 = (Value.slice z3 m3 k3) ∧ f 6 = (Value.int .i64 (a6)) ∧ f 7 = (Value.pointer (some ⟨g1, 0, none⟩)) ∧ f 16 = (Value.int .i64 (out1))) ?_ ?_
    ·
     refine wp_block' ?_
     refine wp_whileO (I := fun (s1 : (Int)) (f : Frm) (w : World) => ∃ (S_ : PH), S1.Le S_ ∧ Inv w S_ (Fr) ∧ f 1 = (Value.int .i64 (a1)) ∧ f 2 = (Value.slice z2 m2 k2) ∧ f 3 = (Value.int .i64 (a3)) ∧ f 4 = (Value.slice z3 m3 k3) ∧ f 6 = (Value.int .i64 (a6)) ∧ f 7 = (Value.pointer (some ⟨g1, 0, none⟩)) ∧ f 16 = (Value.int .i64 (s1))) hrun1 ⟨_, (PH.Le.refl _), I2, rfl, rfl, rfl, rfl, rfl, rfl, rfl⟩ ?_
     rintro s1 f w o1 hI141 h1 hout1
     obtain ⟨S161, le161, I241, e197, e198, e199, e200, e201, e202, e203⟩ := hI141
     refine wp_seq' ?_
     refine wp_seq' ?_
     refine wp_region' ?_
     refine wl_op rfl (op_move (v := (Value.int .i64 (s1))) rfl e203 ?_)
     refine wl_op rfl (op_move (v := (Value.int .i64 (a1))) rfl e197 ?_)
     refine wl_op rfl (op_lss (a := s1) (b := a1) rfl rfl rfl ?_)
     refine wl_nil ?_
     rcases ifs h1 with ⟨hc14, h1⟩ | ⟨hc14, h1⟩
     ·
      refine wp_cond_t (b := decide (s1 < a1)) rfl hc14 ?_
      refine wp_skip' ?_
      refine wp_seq' ?_
      refine wp_block' ?_
      refine wp_seq' ?_
      obtain ⟨x23, hx23, h1⟩ := bnd h1
      obtain ⟨x24, hx24, h1⟩ := bnd h1
      obtain ⟨x25, hx25, h1⟩ := bnd h1
      refine wp_draw (sps := [⟨some 45, [], [0], fun vs_ T_ => RV T_ (fr0 vs_ 0) a0, [], [], [], fun hle_ h_ => h_.mono hle_⟩, ⟨some 46, [], [1], fun vs_ T_ => fr0 vs_ 0 = (Value.int .i64 (a1)), [], [], [], fun _ h_ => h_⟩, ⟨some 47, [], [2], fun vs_ T_ => fr0 vs_ 0 = (Value.slice z2 m2 k2), [], [], [], fun _ h_ => h_⟩, ⟨some 48, [], [3], fun vs_ T_ => fr0 vs_ 0 = (Value.int .i64 (a3)), [], [], [], fun _ h_ => h_⟩, ⟨some 49, [], [4], fun vs_ T_ => fr0 vs_ 0 = (Value.slice z3 m3 k3), [], [], [], fun _ h_ => h_⟩, ⟨some 50, [4], [5], fun vs_ T_ => ∃ a_ n_ k_, fr0 vs_ 0 = Value.slice a_ n_ k_, [], [], [0], fun _ h_ => h_⟩, ⟨some 51, [], [6], fun vs_ T_ => fr0 vs_ 0 = (Value.int .i64 (s1)), [], [], [], fun _ h_ => h_⟩, ⟨some 52, [6], [7], fun vs_ T_ => ∃ a_ n_ k_, fr0 vs_ 0 = Value.slice a_ n_ k_, [], [], [1], fun _ h_ => h_⟩, ⟨some 53, [4, 5, 6, 7], [8], fun vs_ T_ => ∃ a_ n_ k_, fr0 vs_ 0 = Value.slice a_ n_ k_, [1], [0], [2], fun _ h_ => h_⟩, ⟨some 54, [], [9], fun vs_ T_ => fr0 vs_ 0 = (Value.int .i64 (s1)), [], [], [], fun _ h_ => h_⟩, ⟨some 55, [9], [10], fun vs_ T_ => fr0 vs_ 0 = (Value.int .i64 (w64 (s1 + 1))), [], [], [], fun _ h_ => h_⟩, ⟨some 56, [], [11], fun vs_ T_ => fr0 vs_ 0 = (Value.int .i64 (a6)), [], [], [], fun _ h_ => h_⟩, ⟨some 57, [11], [12], fun vs_ T_ => fr0 vs_ 0 = (Value.int .i64 (w64 (a6 - 1))), [], [], [], fun _ h_ => h_⟩, ⟨some 58, [0, 1, 2, 3, 4, 5, 6, 7, 8, 9, 10, 11, 12], [13], fun vs_ T_ => ∃ (a0_ : Option Addr) (n0_ k0_ : Nat), fr0 vs_ 0 = (Value.tuple #[(Value.slice a0_ n0_ k0_), (Value.bool (x25.2))]) ∧ RV T_ (Value.slice a0_ n0_ k0_) x25.1, [], [2], [], fun hle_ h_ => by obtain ⟨a0_, n0_, k0_, e_, r0_⟩ := h_; exact ⟨a0_, n0_, k0_, e_, r0_.mono hle_⟩⟩, ⟨some 44, [0, 1, 2, 3, 4, 5, 6, 7, 8, 9, 10, 11, 12, 13], [14, 13], fun vs_ T_ => fr0 vs_ 0 = (Value.tuple #[(tupAt (fr0 vs_ 1) 0), (Value.bool (x25.2))]), [], [], [], fun _ h_ => h_⟩, ⟨some 59, [0, 1, 2, 3, 4, 5, 6, 7, 8, 9, 10, 11, 12, 13, 14], [15, 13], fun vs_ T_ => fr0 vs_ 0 = (tupAt (fr0 vs_ 1) 0), [], [], [], fun _ h_ => h_⟩, ⟨some 60, [0, 1, 2, 3, 4, 5, 6, 7, 8, 9, 10, 11, 12, 13, 14], [16], fun vs_ T_ => fr0 vs_ 0 = (Value.bool (x25.2)), [], [], [], fun _ h_ => h_⟩, ⟨some 17, [0, 1, 2, 3, 4, 5, 6, 7, 8, 9, 10, 11, 12, 13, 14, 15], [17, 13], fun vs_ T_ => fr0 vs_ 0 = (tupAt (fr0 vs_ 1) 0), [], [], [], fun _ h_ => h_⟩, ⟨some 18, [0, 1, 2, 3, 4, 5, 6, 7, 8, 9, 10, 11, 12, 13, 14, 15, 16, 17], [18], fun vs_ T_ => fr0 vs_ 0 = (Value.bool (x25.2)), [], [], [], fun _ h_ => h_⟩]) (tks := [⟨some 5, some 8, [5], fun vs_ => Row (α := Int) 3 (fr0 vs_ 0) (x23)⟩, ⟨some 7, none, [7], fun vs_ => Row (α := Int) 3 (fr0 vs_ 0) (([s1] : List Int))⟩, ⟨some 8, some 13, [8], fun vs_ => Row (α := Int) 3 (fr0 vs_ 0) (x24)⟩]) (O := Fr) rfl (by kernel_rfl) I241 ⟨?_, ?_, ?_, ?_, ?_, ?_, ?_, ?_, ?_, ?_, ?_, ?_, ?_, ?_, ?_, ?_, ?_, ?_, ?_, trivial⟩ ?_
      ·
       intro vs141 f w190 S162 X134 le162 hA134 hK141 hI142
       have I246 : Inv w190 S162 (X134) := hI142
       refine opg_plain rfl rfl (op_load (v := (Value.pointer (some ⟨g1, 0, none⟩))) (e := a0) rfl sh24 ((hK141 7 (keep_of rfl)).trans e202) ((p1.mono (le161.trans le162)).at_ I246) (fun u66 hu27 => ?_))
       obtain ⟨c16, e204, r68⟩ := Panel.inv hu27
       subst e204
       obtain ⟨z106, m106, k106, e205⟩ := rv_form r68
       subst e205
       refine ⟨_, _, rfl, PH.Le.refl _, ?_, ?_⟩
       ·
        exact (Panel.rv (s := a0) r68)
       ·
        exact I246
      ·
       intro vs142 f w191 S163 X135 le163 hA135 hK142 hI143
       have I247 : Inv w191 S163 (X135) := hI143
       refine opg_plain rfl rfl (op_move (v := (Value.int .i64 (a1))) rfl ((hK142 1 (keep_of rfl)).trans e197) ?_)
       refine ⟨_, _, rfl, PH.Le.refl _, ?_, ?_⟩
       ·
        exact rfl
       ·
        exact I247
      ·
       intro vs143 f w192 S164 X136 le164 hA136 hK143 hI144
       have I248 : Inv w192 S164 (X136) := hI144
       refine opg_plain rfl rfl (op_move (v := (Value.slice z2 m2 k2)) rfl ((hK143 2 (keep_of rfl)).trans e198) ?_)
       refine ⟨_, _, rfl, PH.Le.refl _, ?_, ?_⟩
       ·
        exact rfl
       ·
        exact I248
      ·
       intro vs144 f w193 S165 X137 le165 hA137 hK144 hI145
       have I249 : Inv w193 S165 (X137) := hI145
       refine opg_plain rfl rfl (op_move (v := (Value.int .i64 (a3))) rfl ((hK144 3 (keep_of rfl)).trans e199) ?_)
       refine ⟨_, _, rfl, PH.Le.refl _, ?_, ?_⟩
       ·
        exact rfl
       ·
        exact I249
      ·
       intro vs145 f w194 S166 X138 le166 hA138 hK145 hI146
       have I250 : Inv w194 S166 (X138) := hI146
       refine opg_plain rfl rfl (op_move (v := (Value.slice z3 m3 k3)) rfl ((hK145 4 (keep_of rfl)).trans e200) ?_)
       refine ⟨_, _, rfl, PH.Le.refl _, ?_, ?_⟩
       ·
        exact rfl
       ·
        exact I250
      ·
       intro vs146 f w195 S167 X139 le167 hA139 hK146 hI147
       have I251 : Inv w195 S167 (X139) := hI147
       have q196 : f 49 = (Value.slice z3 m3 k3) := vt (hA139.at_ 0 rfl _ rfl) rfl
       have I252 := Inv.rowNil (α := Int) (T := 3) I251
       refine opg_plain rfl rfl (op_append (α := Int) (v := (Value.slice none 0 0)) (u := (Value.slice z3 m3 k3)) rfl rfl Try.underlying34 el3 (by decide) (by decide) rfl q196 I252 ((h4_.mono ((le1.trans le161).trans le167)).src I252.in_) hx23 (fun u67 w196 I253 => ?_))
       obtain ⟨z107, m107, k107, e206⟩ := row_form I253
       subst e206
       refine ⟨_, _, rfl, PH.Le.refl _, ?_, ?_⟩
       ·
        exact ⟨_, _, _, rfl⟩
       ·
        exact I253
      ·
       intro vs147 f w197 S168 X140 le168 hA140 hK147 hI148
       have I254 : Inv w197 S168 (X140) := hI148
       refine opg_plain rfl rfl (op_move (v := (Value.int .i64 (s1))) rfl ((hK147 16 (keep_of rfl)).trans e203) ?_)
       refine ⟨_, _, rfl, PH.Le.refl _, ?_, ?_⟩
       ·
        exact rfl
       ·
        exact I254
      ·
       intro vs148 f w198 S169 X141 le169 hA141 hK148 hI149
       have I255 : Inv w198 S169 (X141) := hI149
       have q197 : f 51 = (Value.int .i64 (s1)) := vt (hA141.at_ 0 rfl _ rfl) rfl
       refine opg_plain rfl rfl (op_buildSlice (vs := [(Value.int .i64 (s1))]) (r := ([s1] : List Int)) rfl Try.underlying34 el3 (parts1 q197) rfl (by decide) (by decide) ⟨(rv_int' _), trivial⟩ I255 (fun u68 w199 I256 => ?_))
       obtain ⟨z108, m108, k108, e207⟩ := row_form I256
       subst e207
       refine ⟨_, _, rfl, PH.Le.refl _, ?_, ?_⟩
       ·
        exact ⟨_, _, _, rfl⟩
       ·
        exact I256
      ·
       intro vs149 f w200 S170 X142 le170 hA142 hK149 hI150
       have I257 : Inv w200 S170 (Row (α := Int) 3 (vs149 5) (x23) :: Row (α := Int) 3 (vs149 7) (([s1] : List Int)) :: X142) := hI150
       obtain ⟨z109, m109, k109, e208⟩ := (hA142.at_ 1 rfl _ rfl).2
       have q198 : f 50 = Value.slice z109 m109 k109 := ((hA142.at_ 1 rfl _ rfl).1 _ rfl).trans e208
       have e208 : vs149 5 = (Value.slice z109 m109 k109) := e208
       have I258 := I257
       rw [e208] at I258
       obtain ⟨z110, m110, k110, e209⟩ := (hA142.at_ 3 rfl _ rfl).2
       have q199 : f 52 = Value.slice z110 m110 k110 := ((hA142.at_ 3 rfl _ rfl).1 _ rfl).trans e209
       have e209 : vs149 7 = (Value.slice z110 m110 k110) := e209
       have I259 := I258
       rw [e209] at I259
       refine opg_plain rfl rfl (op_append (α := Int) (v := (Value.slice z109 m109 k109)) (u := (Value.slice z110 m110 k110)) rfl rfl Try.underlying34 el3 (by decide) (by decide) q198 q199 I259 (Inv.rowSrc (I259.nth 1 rfl)) hx24 (fun u69 w201 I260 => ?_))
       obtain ⟨z111, m111, k111, e210⟩ := row_form I260
       subst e210
       refine ⟨_, _, rfl, PH.Le.refl _, ?_, ?_⟩
       ·
        exact ⟨_, _, _, rfl⟩
       ·
        show Inv _ _ (Row (α := Int) 3 ((Value.slice z111 m111 k111)) (x24) :: Row (α := Int) 3 (vs149 7) (([s1] : List Int)) :: X142)
        simp only [e209]
        exact ((I260.pull 1).pull 1)
      ·
       intro vs150 f w202 S171 X143 le171 hA143 hK150 hI151
       have I261 : Inv w202 S171 (X143) := hI151
       refine opg_plain rfl rfl (op_move (v := (Value.int .i64 (s1))) rfl ((hK150 16 (keep_of rfl)).trans e203) ?_)
       refine ⟨_, _, rfl, PH.Le.refl _, ?_, ?_⟩
       ·
        exact rfl
       ·
        exact I261
      ·
       intro vs151 f w203 S172 X144 le172 hA144 hK151 hI152
       have I262 : Inv w203 S172 (X144) := hI152
       have q200 : f 54 = (Value.int .i64 (s1)) := vt (hA144.at_ 0 rfl _ rfl) rfl
       refine opg_plain rfl rfl (op_add (a := s1) (b := 1) rfl q200 rfl ?_)
       refine ⟨_, _, rfl, PH.Le.refl _, ?_, ?_⟩
       ·
        exact rfl
       ·
        exact I262
      ·
       intro vs152 f w204 S173 X145 le173 hA145 hK152 hI153
       have I263 : Inv w204 S173 (X145) := hI153
       refine opg_plain rfl rfl (op_move (v := (Value.int .i64 (a6))) rfl ((hK152 6 (keep_of rfl)).trans e201) ?_)
       refine ⟨_, _, rfl, PH.Le.refl _, ?_, ?_⟩
       ·
        exact rfl
       ·
        exact I263
      ·
       intro vs153 f w205 S174 X146 le174 hA146 hK153 hI154
       have I264 : Inv w205 S174 (X146) := hI154
       have q201 : f 56 = (Value.int .i64 (a6)) := vt (hA146.at_ 0 rfl _ rfl) rfl
       refine opg_plain rfl rfl (op_sub (a := a6) (b := 1) rfl q201 rfl ?_)
       refine ⟨_, _, rfl, PH.Le.refl _, ?_, ?_⟩
       ·
        exact rfl
       ·
        exact I264
      ·
       intro vs154 f w206 S175 X147 le175 hA147 hK154 hI155
       have I265 : Inv w206 S175 (Row (α := Int) 3 (vs154 8) (x24) :: X147) := hI155
       have q202 : f 45 = vs154 0 := (hA147.at_ 0 rfl _ rfl).1 _ rfl
       have r69 : RV S175 (vs154 0) a0 := (hA147.at_ 0 rfl _ rfl).2
       obtain ⟨u70, hu28⟩ : ∃ u, vs154 0 = u := ⟨_, rfl⟩
       rw [hu28] at q202 r69
       obtain ⟨c17, e211, r70⟩ := Panel.inv r69
       subst e211
       obtain ⟨z112, m112, k112, e212⟩ := rv_form r70
       subst e212
       have q203 : f 46 = (Value.int .i64 (a1)) := vt (hA147.at_ 1 rfl _ rfl) rfl
       have q204 : f 47 = (Value.slice z2 m2 k2) := vt (hA147.at_ 2 rfl _ rfl) rfl
       have q205 : f 48 = (Value.int .i64 (a3)) := vt (hA147.at_ 3 rfl _ rfl) rfl
       obtain ⟨z113, m113, k113, e213⟩ := (hA147.at_ 8 rfl _ rfl).2
       have q206 : f 53 = Value.slice z113 m113 k113 := ((hA147.at_ 8 rfl _ rfl).1 _ rfl).trans e213
       have e213 : vs154 8 = (Value.slice z113 m113 k113) := e213
       have I266 := I265
       rw [e213] at I266
       have q207 : f 55 = (Value.int .i64 (w64 (s1 + 1))) := vt (hA147.at_ 10 rfl _ rfl) rfl
       have q208 : f 57 = (Value.int .i64 (w64 (a6 - 1))) := vt (hA147.at_ 12 rfl _ rfl) rfl
       obtain ⟨S176, le176, I267, r71⟩ := Inv.rowFreeze I266
       refine opg_plain rfl rfl (op_call (vs := [(Value.agg #[(Value.int .i64 (a0.Sensors)), (Value.slice z112 m112 k112), (Value.int .i64 (a0.Stale)), (Value.int .i64 (a0.Limit))]), (Value.int .i64 (a1)), (Value.slice z2 m2 k2), (Value.int .i64 (a3)), (Value.slice z113 m113 k113), (Value.int .i64 (w64 (s1 + 1))), (Value.int .i64 (w64 (a6 - 1)))]) rfl ca61 rfl (args7 q202 q203 q204 q205 q206 q207 q208) (ih I267 (Panel.rv (s := a0) (r70.mono le176)) (h2_.mono (((le1.trans le161).trans le175).trans le176)) r71 hx25) (fun v9 w207 S177 O9 le177 I268 hv9 => ?_))
       obtain ⟨z114, m114, k114, rfl, rfl, r72⟩ := hv9
       refine ⟨_, _, rfl, (le176.trans le177), ?_, ?_⟩
       ·
        exact ⟨_, _, _, rfl, r72⟩
       ·
        exact I268
      ·
       intro vs155 f w208 S178 X148 le178 hA148 hK155 hI156
       have I269 : Inv w208 S178 (X148) := hI156
       obtain ⟨z115, m115, k115, e214, r73⟩ := (hA148.at_ 13 rfl _ rfl).2
       have e214 : vs155 13 = (Value.tuple #[(Value.slice z115 m115 k115), (Value.bool (x25.2))]) := e214
       have q209 : f 58 = (Value.tuple #[(Value.slice z115 m115 k115), (Value.bool (x25.2))]) := ((hA148.at_ 13 rfl _ rfl).1 _ rfl).trans e214
       refine opg_plain rfl rfl (op_move (v := (Value.tuple #[(Value.slice z115 m115 k115), (Value.bool (x25.2))])) rfl q209 ?_)
       refine ⟨_, _, rfl, PH.Le.refl _, ?_, ?_⟩
       ·
        show (Value.tuple #[(Value.slice z115 m115 k115), (Value.bool (x25.2))]) = (Value.tuple #[(tupAt (vs155 13) 0), (Value.bool (x25.2))])
        simp only [e214] <;> rfl
       ·
        exact I269
      ·
       intro vs156 f w209 S179 X149 le179 hA149 hK156 hI157
       have I270 : Inv w209 S179 (X149) := hI157
       obtain ⟨z116, m116, k116, e215, r74⟩ := (hA149.at_ 13 rfl _ rfl).2
       have e215 : vs156 13 = (Value.tuple #[(Value.slice z116 m116 k116), (Value.bool (x25.2))]) := e215
       have q210 : f 58 = (Value.tuple #[(Value.slice z116 m116 k116), (Value.bool (x25.2))]) := ((hA149.at_ 13 rfl _ rfl).1 _ rfl).trans e215
       have q211 : f 44 = (Value.tuple #[(tupAt (vs156 13) 0), (Value.bool (x25.2))]) := vt (hA149.at_ 14 rfl _ rfl) rfl
       simp only [e215] at q211
       have q211 : f 44 = (Value.tuple #[(Value.slice z116 m116 k116), (Value.bool (x25.2))]) := q211
       refine opg_plain rfl rfl (op_extract (v := (Value.slice z116 m116 k116)) rfl q211 rfl ?_)
       refine ⟨_, _, rfl, PH.Le.refl _, ?_, ?_⟩
       ·
        show (Value.slice z116 m116 k116) = (tupAt (vs156 13) 0)
        simp only [e215] <;> rfl
       ·
        exact I270
      ·
       intro vs157 f w210 S180 X150 le180 hA150 hK157 hI158
       have I271 : Inv w210 S180 (X150) := hI158
       obtain ⟨z117, m117, k117, e216, r75⟩ := (hA150.at_ 13 rfl _ rfl).2
       have e216 : vs157 13 = (Value.tuple #[(Value.slice z117 m117 k117), (Value.bool (x25.2))]) := e216
       have q212 : f 58 = (Value.tuple #[(Value.slice z117 m117 k117), (Value.bool (x25.2))]) := ((hA150.at_ 13 rfl _ rfl).1 _ rfl).trans e216
       have q213 : f 44 = (Value.tuple #[(tupAt (vs157 13) 0), (Value.bool (x25.2))]) := vt (hA150.at_ 14 rfl _ rfl) rfl
       simp only [e216] at q213
       have q213 : f 44 = (Value.tuple #[(Value.slice z117 m117 k117), (Value.bool (x25.2))]) := q213
       refine opg_plain rfl rfl (op_extract (v := (Value.bool (x25.2))) rfl q213 rfl ?_)
       refine ⟨_, _, rfl, PH.Le.refl _, ?_, ?_⟩
       ·
        exact rfl
       ·
        exact I271
      ·
       intro vs158 f w211 S181 X151 le181 hA151 hK158 hI159
       have I272 : Inv w211 S181 (X151) := hI159
       obtain ⟨z118, m118, k118, e217, r76⟩ := (hA151.at_ 13 rfl _ rfl).2
       have e217 : vs158 13 = (Value.tuple #[(Value.slice z118 m118 k118), (Value.bool (x25.2))]) := e217
       have q214 : f 58 = (Value.tuple #[(Value.slice z118 m118 k118), (Value.bool (x25.2))]) := ((hA151.at_ 13 rfl _ rfl).1 _ rfl).trans e217
       have q215 : f 44 = (Value.tuple #[(tupAt (vs158 13) 0), (Value.bool (x25.2))]) := vt (hA151.at_ 14 rfl _ rfl) rfl
       simp only [e217] at q215
       have q215 : f 44 = (Value.tuple #[(Value.slice z118 m118 k118), (Value.bool (x25.2))]) := q215
       have q216 : f 59 = (tupAt (vs158 13) 0) := vt (hA151.at_ 15 rfl _ rfl) rfl
       simp only [e217] at q216
       have q216 : f 59 = (Value.slice z118 m118 k118) := q216
       refine opg_plain rfl rfl (op_assign (v := (Value.slice z118 m118 k118)) rfl q216 ?_)
       refine ⟨_, _, rfl, PH.Le.refl _, ?_, ?_⟩
       ·
        show (Value.slice z118 m118 k118) = (tupAt (vs158 13) 0)
        simp only [e217] <;> rfl
       ·
        exact I272
      ·
       intro vs159 f w212 S182 X152 le182 hA152 hK159 hI160
       have I273 : Inv w212 S182 (X152) := hI160
       have q217 : f 60 = (Value.bool (x25.2)) := vt (hA152.at_ 16 rfl _ rfl) rfl
       refine opg_plain rfl rfl (op_assign (v := (Value.bool (x25.2))) rfl q217 ?_)
       refine ⟨_, _, rfl, PH.Le.refl _, ?_, ?_⟩
       ·
        exact rfl
       ·
        exact I273
      ·
       intro vs160 f w213 S183 le183 hF8 hK160 hI161
       have e218 : f 1 = (Value.int .i64 (a1)) := (hK160 1 (keep_all rfl)).trans e197
       have e219 : f 2 = (Value.slice z2 m2 k2) := (hK160 2 (keep_all rfl)).trans e198
       have e220 : f 3 = (Value.int .i64 (a3)) := (hK160 3 (keep_all rfl)).trans e199
       have e221 : f 4 = (Value.slice z3 m3 k3) := (hK160 4 (keep_all rfl)).trans e200
       have e222 : f 6 = (Value.int .i64 (a6)) := (hK160 6 (keep_all rfl)).trans e201
       have e223 : f 7 = (Value.pointer (some ⟨g1, 0, none⟩)) := (hK160 7 (keep_all rfl)).trans e202
       have e224 : f 16 = (Value.int .i64 (s1)) := (hK160 16 (keep_all rfl)).trans e203
       have I274 : Inv w213 S183 (Row (α := Int) 3 (vs160 7) (([s1] : List Int)) :: Fr) := hI161
       obtain ⟨z119, m119, k119, e225⟩ := (hF8.at_ 7 rfl _ rfl).2
       have q218 : f 52 = Value.slice z119 m119 k119 := ((hF8.at_ 7 rfl _ rfl).1 _ rfl).trans e225
       have e225 : vs160 7 = (Value.slice z119 m119 k119) := e225
       have I275 := I274
       rw [e225] at I275
       obtain ⟨z120, m120, k120, e226, r77⟩ := (hF8.at_ 13 rfl _ rfl).2
       have e226 : vs160 13 = (Value.tuple #[(Value.slice z120 m120 k120), (Value.bool (x25.2))]) := e226
       have q219 : f 58 = (Value.tuple #[(Value.slice z120 m120 k120), (Value.bool (x25.2))]) := ((hF8.at_ 13 rfl _ rfl).1 _ rfl).trans e226
       have q220 : f 44 = (Value.tuple #[(tupAt (vs160 13) 0), (Value.bool (x25.2))]) := vt (hF8.at_ 14 rfl _ rfl) rfl
       simp only [e226] at q220
       have q220 : f 44 = (Value.tuple #[(Value.slice z120 m120 k120), (Value.bool (x25.2))]) := q220
       have q221 : f 59 = (tupAt (vs160 13) 0) := vt (hF8.at_ 15 rfl _ rfl) rfl
       simp only [e226] at q221
       have q221 : f 59 = (Value.slice z120 m120 k120) := q221
       have q222 : f 17 = (tupAt (vs160 13) 0) := vt (hF8.at_ 17 rfl _ rfl) rfl
       simp only [e226] at q222
       have q222 : f 17 = (Value.slice z120 m120 k120) := q222
       have q223 : f 18 = (Value.bool (x25.2)) := vt (hF8.at_ 18 rfl _ rfl) rfl
       refine wp_seq' ?_
       refine wp_region' ?_
       refine wl_op rfl (op_move (v := (Value.bool (x25.2))) rfl q223 ?_)
       refine wl_nil ?_
       rcases ifs h1 with ⟨hc15, h1⟩ | ⟨hc15, h1⟩
       ·
        refine wp_cond_t (b := x25.2) rfl hc15 ?_
        refine wp_seq' ?_
        refine wp_region' ?_
        refine wl_op rfl (op_move (v := (Value.slice z120 m120 k120)) rfl q222 ?_)
        refine wl_op rfl (op_assign (v := (Value.slice z120 m120 k120)) rfl rfl ?_)
        refine wl_op rfl (op_assign (v := (Value.bool (true))) rfl rfl ?_)
        refine wl_nil ?_
        refine wp_ret' ?_
        obtain rfl := Option.some.inj h1
        obtain rfl := (hout1 _ rfl)
        have h2 := h
        obtain rfl := Option.some.inj h2
        exact ⟨(Value.tuple #[(Value.slice z120 m120 k120), (Value.bool (true))]), (res2 rfl rfl rfl), _, [], ((le1.trans le161).trans le183), (I275).drop, _, _, _, rfl, rfl, r77⟩
       ·
        refine wp_cond_f (b := x25.2) rfl hc15 ?_
        refine wp_skip' ?_
        refine wp_region' ?_
        refine wl_op rfl (op_move (v := (Value.int .i64 (s1))) rfl e224 ?_)
        refine wl_op rfl (op_add (a := s1) (b := 1) rfl rfl rfl ?_)
        refine wl_op rfl (op_assign (v := (Value.int .i64 (w64 (s1 + 1)))) rfl rfl ?_)
        refine wl_nil ?_
        obtain rfl := Option.some.inj h1
        exact ⟨_, rfl, _, (le161.trans le183), (I275).drop, e218, e219, e220, e221, e222, e223, rfl⟩
     ·
      refine wp_cond_f (b := decide (s1 < a1)) rfl hc14 ?_
      refine wp_exit' ?_
      obtain rfl := Option.some.inj h1
      obtain rfl := (hout1 _ rfl)
      exact ⟨_, rfl, _, le161, I241, e197, e198, e199, e200, e201, e202, e203⟩
    ·
     rintro f w ⟨out1, rfl, S184, le184, I276, e227, e228, e229, e230, e231, e232, e233⟩
     have h := onL_inl h
     refine wp_seq' ?_
     refine wp_region' ?_
     refine wl_op rfl (op_assign (v := (Value.slice none 0 0)) rfl rfl ?_)
     refine wl_op rfl (op_assign (v := (Value.bool (false))) rfl rfl ?_)
     refine wl_nil ?_
     refine wp_ret' ?_
     obtain rfl := Option.some.inj h
     exact ⟨(Value.tuple #[(Value.slice none 0 0), (Value.bool (false))]), (res2 rfl rfl rfl), _, [], (le1.trans le184), I276, _, _, _, rfl, rfl, rv_nil⟩

set_option maxHeartbeats 4000000 in
set_option maxRecDepth 100000 in
theorem F42_ok {w : World} {S : PH} {Fr : List HP} {a0 : Panel} {v0 : Value} {a1 : Int} {a2 : (List Signal)} {v2 : Value} {a3 : Int} {r : (List Int) × Int} (hI : Inv w S (Fr)) (h0_ : RV S v0 a0) (h2_ : RV S v2 a2) (h : F42 a0 a1 a2 a3 = some r) :
    Calls Try.prog 42 [v0, (Value.int .i64 (a1)), v2, (Value.int .i64 (a3))].toArray w (Done S Fr (fun T_ v_ O_ => ∃ (a0_ : Option Addr) (n0_ k0_ : Nat), v_ = (Value.tuple #[(Value.slice a0_ n0_ k0_), (Value.int .i64 (r.2))]) ∧ O_ = [] ∧ RV T_ (Value.slice a0_ n0_ k0_) r.1)) := by
 unfold F42 at h
 obtain ⟨c1, e1, r1⟩ := Panel.inv h0_
 subst e1
 obtain ⟨z1, m1, k1, e2⟩ := rv_form r1
 subst e2
 obtain ⟨z2, m2, k2, e3⟩ := rv_form h2_
 subst e3
 refine calls_enter (n := 52) (vs := [(Value.agg #[(Value.int .i64 (a0.Sensors)), (Value.slice z1 m1 k1), (Value.int .i64 (a0.Stale)), (Value.int .i64 (a0.Limit))]), (Value.int .i64 (a1)), (Value.slice z2 m2 k2), (Value.int .i64 (a3))]) Try.func42 rfl rfl rfl ?_
 refine wp_seq' ?_
 refine wp_region' ?_
 refine wl_op rfl (op_box (v := (Value.agg #[(Value.int .i64 (a0.Sensors)), (Value.slice z1 m1 k1), (Value.int .i64 (a0.Stale)), (Value.int .i64 (a0.Limit))])) rfl hI rfl (fun g1 w1 I1 => ?_))
 obtain ⟨S1, le1, I2, p1⟩ := Inv.boxFreeze (x := a0) I1 (Panel.rv (s := a0) r1)
 refine wl_op rfl (op_assign (v := (Value.slice none 0 0)) rfl rfl ?_)
 refine wl_op rfl (op_assign (v := (Value.int .i64 (0))) rfl rfl ?_)
 refine wl_nil ?_
 refine wp_seq' ?_
 refine wp_seq' ?_
 refine wp_region' ?_
 refine wl_op rfl (op_load (v := (Value.pointer (some ⟨g1, 0, none⟩))) (e := a0) rfl sh24 rfl (p1.at_ I2) (fun u1 hu1 => ?_))
 obtain ⟨c2, e4, r2⟩ := Panel.inv hu1
 subst e4
 obtain ⟨z3, m3, k3, e5⟩ := rv_form r2
 subst e5
 refine wl_op rfl (op_move (v := (Value.int .i64 (a1))) rfl rfl ?_)
 refine wl_op rfl (op_move (v := (Value.slice z2 m2 k2)) rfl rfl ?_)
 refine wl_op rfl (op_move (v := (Value.int .i64 (a3))) rfl rfl ?_)
 obtain ⟨x1, hx1, h⟩ := bnd h
 refine wl_op rfl (op_call_v (vs := [(Value.agg #[(Value.int .i64 (a0.Sensors)), (Value.slice z3 m3 k3), (Value.int .i64 (a0.Stale)), (Value.int .i64 (a0.Limit))]), (Value.int .i64 (a1)), (Value.slice z2 m2 k2), (Value.int .i64 (a3))]) (r := (Value.int .i64 (x1))) rfl ca58 rfl (args4 rfl rfl rfl rfl) I2 (fun Fr_ hF_ => F58_ok hF_ (Panel.rv (s := a0) r2) (h2_.mono le1) hx1) (fun w2 I3 => ?_))
 refine wl_op rfl (op_assign (v := (Value.int .i64 (x1))) rfl rfl ?_)
 refine wl_nil ?_
 refine wp_seq' ?_
 refine wp_region' ?_
 refine wl_op rfl (op_move (v := (Value.int .i64 (x1))) rfl rfl ?_)
 refine wl_op rfl (op_neq (a := x1) (b := 0) rfl rfl rfl ?_)
 refine wl_nil ?_
 rcases ifs h with ⟨hc1, h⟩ | ⟨hc1, h⟩
 ·
  refine wp_cond_t (b := x1 != 0) rfl hc1 ?_
  refine wp_seq' ?_
  refine wp_region' ?_
  refine wl_op rfl (op_move (v := (Value.int .i64 (x1))) rfl rfl ?_)
  refine wl_op rfl (op_assign (v := (Value.slice none 0 0)) rfl rfl ?_)
  refine wl_op rfl (op_assign (v := (Value.int .i64 (x1))) rfl rfl ?_)
  refine wl_nil ?_
  refine wp_ret' ?_
  obtain rfl := Option.some.inj h
  exact ⟨(Value.tuple #[(Value.slice none 0 0), (Value.int .i64 (x1))]), (res2 rfl rfl rfl), _, [], le1, I3, _, _, _, rfl, rfl, rv_nil⟩
 ·
  refine wp_cond_f (b := x1 != 0) rfl hc1 ?_
  refine wp_skip' ?_
  refine wp_seq' ?_
  refine wp_seq' ?_
  refine wp_region' ?_
  refine wl_op rfl (op_move (v := (Value.int .i64 (a1))) rfl rfl ?_)
  refine wl_op rfl (op_eql (a := a1) (b := 0) rfl rfl rfl ?_)
  refine wl_nil ?_
  rcases ifs h with ⟨hc2, h⟩ | ⟨hc2, h⟩
  ·
   refine wp_cond_t (b := a1 == 0) rfl hc2 ?_
   refine wp_seq' ?_
   refine wp_region' ?_
   refine wl_op rfl (op_assign (v := (Value.slice none 0 0)) rfl rfl ?_)
   refine wl_op rfl (op_assign (v := (Value.int .i64 (3))) rfl rfl ?_)
   refine wl_nil ?_
   refine wp_ret' ?_
   obtain rfl := Option.some.inj h
   exact ⟨(Value.tuple #[(Value.slice none 0 0), (Value.int .i64 (3))]), (res2 rfl rfl rfl), _, [], le1, I3, _, _, _, rfl, rfl, rv_nil⟩
  ·
   refine wp_cond_f (b := a1 == 0) rfl hc2 ?_
   refine wp_skip' ?_
   refine wp_seq' ?_
   refine wp_seq' ?_
   refine wp_region' ?_
   refine wl_op rfl (op_assign (v := (Value.int .i64 (0))) rfl rfl ?_)
   refine wl_nil ?_
   obtain ⟨x5, hx5, h⟩ := bnd h
   obtain ⟨o2, hrun1, h⟩ := bnd h
   refine wp_cutN (fun f w => ∃ out1, o2 = Sum.inl out1 ∧ ∃ (S_ : PH), S1.Le S_ ∧ Inv w S_ (Fr) ∧ f 1 = (Value.int .i64 (a1)) ∧ f 2 = (Value.slice z2 m2 k2) ∧ f 3 = (Value.int .i64 (a3)) ∧ f 4 = (Value.pointer (some ⟨g1, 0, none⟩))) ?_ ?_
   ·
    refine wp_block' ?_
    refine wp_forN (I := fun (i1 : Nat) (s1 : Unit) (f : Frm) (w : World) => ∃ (S_ : PH), S1.Le S_ ∧ Inv w S_ (Fr) ∧ f 1 = (Value.int .i64 (a1)) ∧ f 2 = (Value.slice z2 m2 k2) ∧ f 3 = (Value.int .i64 (a3)) ∧ f 4 = (Value.pointer (some ⟨g1, 0, none⟩)) ∧ f 11 = (Value.int .i64 (i1 : Int))) hrun1 ⟨_, (PH.Le.refl _), I3, rfl, rfl, rfl, rfl, rfl⟩ ?_ ?_
    ·
     rintro i1 s1 f w o1 hlt1 hI1 h1 hout1
     obtain ⟨S7, le7, I10, e27, e28, e29, e30, e31⟩ := hI1
     refine wp_seq' ?_
     refine wp_seq' ?_
     refine wp_region' ?_
     refine wl_op rfl (op_move (v := (Value.int .i64 ((i1 : Int)))) rfl e31 ?_)
     refine wl_op rfl (op_move (v := (Value.int .i64 (a1))) rfl e27 ?_)
     refine wl_op rfl (op_lss (a := (i1 : Int)) (b := a1) rfl rfl rfl ?_)
     refine wl_nil ?_
     refine wp_cond_t (b := decide ((i1 : Int) < a1)) rfl (cnt_t hx5 hlt1) ?_
     refine wp_skip' ?_
     refine wp_seq' ?_
     refine wp_block' ?_
     refine wp_seq' ?_
     refine wp_region' ?_
     refine wl_op rfl (op_load (v := (Value.pointer (some ⟨g1, 0, none⟩))) (e := a0) rfl sh24 e30 ((p1.mono le7).at_ I10) (fun u5 hu5 => ?_))
     obtain ⟨c6, e32, r9⟩ := Panel.inv hu5
     subst e32
     obtain ⟨z10, m10, k10, e33⟩ := rv_form r9
     subst e33
     refine wl_op rfl (op_move (v := (Value.int .i64 (a1))) rfl e27 ?_)
     refine wl_op rfl (op_move (v := (Value.slice z2 m2 k2)) rfl e28 ?_)
     refine wl_op rfl (op_move (v := (Value.int .i64 (a3))) rfl e29 ?_)
     refine wl_op rfl (op_move (v := (Value.int .i64 ((i1 : Int)))) rfl e31 ?_)
     obtain ⟨x6, hx6, h1⟩ := bnd h1
     refine wl_op rfl (op_call (vs := [(Value.agg #[(Value.int .i64 (a0.Sensors)), (Value.slice z10 m10 k10), (Value.int .i64 (a0.Stale)), (Value.int .i64 (a0.Limit))]), (Value.int .i64 (a1)), (Value.slice z2 m2 k2), (Value.int .i64 (a3)), (Value.slice none 0 0), (Value.int .i64 (0)), (Value.int .i64 ((i1 : Int)))]) rfl ca61 rfl (args7 rfl rfl rfl rfl rfl rfl rfl) (F61_ok fuel_ I10 (Panel.rv (s := a0) r9) (h2_.mono (le1.trans le7)) rv_nil hx6) (fun v4 w6 S8 O4 le8 I11 hv4 => ?_))
     obtain ⟨z11, m11, k11, rfl, rfl, r10⟩ := hv4
     refine wl_op rfl (op_move (v := (Value.tuple #[(Value.slice z11 m11 k11), (Value.bool (x6.2))])) rfl rfl ?_)
     refine wl_op rfl (op_extract (v := (Value.slice z11 m11 k11)) rfl rfl rfl ?_)
     refine wl_op rfl (op_extract (v := (Value.bool (x6.2))) rfl rfl rfl ?_)
     refine wl_op rfl (op_assign (v := (Value.slice z11 m11 k11)) rfl rfl ?_)
     refine wl_op rfl (op_assign (v := (Value.bool (x6.2))) rfl rfl ?_)
     refine wl_nil ?_
     refine wp_seq' ?_
     refine wp_region' ?_
     refine wl_op rfl (op_move (v := (Value.bool (x6.2))) rfl rfl ?_)
     refine wl_nil ?_
     rcases ifs h1 with ⟨hc6, h1⟩ | ⟨hc6, h1⟩
     ·
      refine wp_cond_t (b := x6.2) rfl hc6 ?_
      refine wp_seq' ?_
      refine wp_region' ?_
      refine wl_op rfl (op_move (v := (Value.slice z11 m11 k11)) rfl rfl ?_)
      refine wl_op rfl (op_assign (v := (Value.slice z11 m11 k11)) rfl rfl ?_)
      refine wl_op rfl (op_assign (v := (Value.int .i64 (0))) rfl rfl ?_)
      refine wl_nil ?_
      refine wp_ret' ?_
      obtain rfl := Option.some.inj h1
      obtain rfl := (hout1 _ rfl)
      have h2 := h
      obtain rfl := Option.some.inj h2
      exact ⟨(Value.tuple #[(Value.slice z11 m11 k11), (Value.int .i64 (0))]), (res2 rfl rfl rfl), _, [], ((le1.trans le7).trans le8), I11, _, _, _, rfl, rfl, r10⟩
     ·
      refine wp_cond_f (b := x6.2) rfl hc6 ?_
      refine wp_skip' ?_
      refine wp_region' ?_
      refine wl_op rfl (op_move (v := (Value.int .i64 ((i1 : Int)))) rfl e31 ?_)
      refine wl_op rfl (op_add (a := (i1 : Int)) (b := 1) rfl rfl rfl ?_)
      refine wl_op rfl (op_assign (v := (Value.int .i64 (w64 ((i1 : Int) + 1)))) rfl rfl ?_)
      refine wl_nil ?_
      obtain rfl := Option.some.inj h1
      exact ⟨_, rfl, _, (le7.trans le8), I11, e27, e28, e29, e30, (idx_next hlt1 (cnt_le hx5))⟩
    ·
     rintro s2 f w hs1 hI2
     obtain ⟨S9, le9, I12, e34, e35, e36, e37, e38⟩ := hI2
     refine wp_seq' ?_
     refine wp_seq' ?_
     refine wp_region' ?_
     refine wl_op rfl (op_move (v := (Value.int .i64 ((x5 : Int)))) rfl e38 ?_)
     refine wl_op rfl (op_move (v := (Value.int .i64 (a1))) rfl e34 ?_)
     refine wl_op rfl (op_lss (a := (x5 : Int)) (b := a1) rfl rfl rfl ?_)
     refine wl_nil ?_
     refine wp_cond_f (b := decide ((x5 : Int) < a1)) rfl (cnt_f hx5) ?_
     refine wp_exit' ?_
     exact ⟨s2, hs1, _, le9, I12, e34, e35, e36, e37⟩
   ·
    rintro f w ⟨out1, rfl, S10, le10, I13, e39, e40, e41, e42⟩
    have h := onL_inl h
    refine wp_seq' ?_
    refine wp_region' ?_
    refine wl_op rfl (op_load (v := (Value.pointer (some ⟨g1, 0, none⟩))) (e := a0) rfl sh24 e42 ((p1.mono le10).at_ I13) (fun u6 hu6 => ?_))
    obtain ⟨c7, e43, r11⟩ := Panel.inv hu6
    subst e43
    obtain ⟨z12, m12, k12, e44⟩ := rv_form r11
    subst e44
    refine wl_op rfl (op_move (v := (Value.int .i64 (a1))) rfl e39 ?_)
    refine wl_op rfl (op_move (v := (Value.slice z2 m2 k2)) rfl e40 ?_)
    refine wl_op rfl (op_move (v := (Value.int .i64 (a3))) rfl e41 ?_)
    refine wl_op rfl (op_move (v := (Value.int .i64 (a1))) rfl e39 ?_)
    obtain ⟨x7, hx7, h⟩ := bnd h
    refine wl_op rfl (op_call (vs := [(Value.agg #[(Value.int .i64 (a0.Sensors)), (Value.slice z12 m12 k12), (Value.int .i64 (a0.Stale)), (Value.int .i64 (a0.Limit))]), (Value.int .i64 (a1)), (Value.slice z2 m2 k2), (Value.int .i64 (a3)), (Value.slice none 0 0), (Value.int .i64 (0)), (Value.int .i64 (a1))]) rfl ca61 rfl (args7 rfl rfl rfl rfl rfl rfl rfl) (F61_ok fuel_ I13 (Panel.rv (s := a0) r11) (h2_.mono (le1.trans le10)) rv_nil hx7) (fun v5 w7 S11 O5 le11 I14 hv5 => ?_))
    obtain ⟨z13, m13, k13, rfl, rfl, r12⟩ := hv5
    refine wl_op rfl (op_move (v := (Value.tuple #[(Value.slice z13 m13 k13), (Value.bool (x7.2))])) rfl rfl ?_)
    refine wl_op rfl (op_extract (v := (Value.slice z13 m13 k13)) rfl rfl rfl ?_)
    refine wl_op rfl (op_extract (v := (Value.bool (x7.2))) rfl rfl rfl ?_)
    refine wl_op rfl (op_assign (v := (Value.slice z13 m13 k13)) rfl rfl ?_)
    refine wl_op rfl (op_assign (v := (Value.bool (x7.2))) rfl rfl ?_)
    refine wl_nil ?_
    refine wp_seq' ?_
    refine wp_region' ?_
    refine wl_op rfl (op_move (v := (Value.slice z13 m13 k13)) rfl rfl ?_)
    refine wl_op rfl (op_assign (v := (Value.slice z13 m13 k13)) rfl rfl ?_)
    refine wl_op rfl (op_assign (v := (Value.int .i64 (0))) rfl rfl ?_)
    refine wl_nil ?_
    refine wp_ret' ?_
    obtain rfl := Option.some.inj h
    exact ⟨(Value.tuple #[(Value.slice z13 m13 k13), (Value.int .i64 (0))]), (res2 rfl rfl rfl), _, [], ((le1.trans le10).trans le11), I14, _, _, _, rfl, rfl, r12⟩
end Go.Proofs.Ytfeomcdhhgeilaa.Pad
