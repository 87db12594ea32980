/- A part of the proof: what the functions of the program compute, shown over the model. -/
import Derived.Test.YtfeomcdhhgeilaaPadSP
import Derived.Test.YtfeomcdhhgeilaaPadSW4
import Derived.Test.YtfeomcdhhgeilaaPadSW11
import Derived.KernelRfl
set_option linter.unusedVariables false
namespace Go.Proofs.Ytfeomcdhhgeilaa.Pad
open Go Go.Proofs
set_option maxHeartbeats 4000000 in
set_option maxRecDepth 100000 in
theorem F7_ok {w : World} {S : PH} {Fr : List HP} {a0 : Panel} {v0 : Value} {a1 : Int} {a2 : (List Signal)} {v2 : Value} {r : Bool} (hI : Inv w S (Fr)) (h0_ : RV S v0 a0) (h2_ : RV S v2 a2) (h : F7 a0 a1 a2 = some r) :
    Calls Try.prog 7 [v0, (Value.int .i64 (a1)), v2].toArray w (DoneV S Fr (Value.bool (r))) := by
 unfold F7 at h
 obtain ⟨c1, e1, r1⟩ := Panel.inv h0_
 subst e1
 obtain ⟨z1, m1, k1, e2⟩ := rv_form r1
 subst e2
 obtain ⟨z2, m2, k2, e3⟩ := rv_form h2_
 subst e3
 refine calls_enter (n := 156) (vs := [(Value.agg #[(Value.int .i64 (a0.Sensors)), (Value.slice z1 m1 k1), (Value.int .i64 (a0.Stale)), (Value.int .i64 (a0.Limit))]), (Value.int .i64 (a1)), (Value.slice z2 m2 k2)]) Try.func7 rfl rfl rfl ?_
 refine wp_seq' ?_
 refine wp_region' ?_
 refine wl_op rfl (op_box (v := (Value.agg #[(Value.int .i64 (a0.Sensors)), (Value.slice z1 m1 k1), (Value.int .i64 (a0.Stale)), (Value.int .i64 (a0.Limit))])) rfl hI rfl (fun g1 w1 I1 => ?_))
 obtain ⟨S1, le1, I2, p1⟩ := Inv.boxFreeze (x := a0) I1 (Panel.rv (s := a0) r1)
 refine wl_op rfl (op_assign (v := (Value.bool (false))) rfl rfl ?_)
 refine wl_nil ?_
 obtain ⟨ov1, h2, h⟩ := bnd h
 refine wp_cut (fun f w => ∃ v1, ov1 = Sum.inl v1 ∧ Inv w S1 (Fr) ∧ f 1 = (Value.int .i64 (a1)) ∧ f 2 = (Value.slice z2 m2 k2) ∧ f 3 = (Value.pointer (some ⟨g1, 0, none⟩))) ?_ ?_
 ·
  refine wp_seq' ?_
  refine wp_region' ?_
  refine wl_op rfl (op_move (v := (Value.int .i64 (a1))) rfl rfl ?_)
  obtain ⟨x5, hx5, h2⟩ := bnd h2
  refine wl_op rfl (op_call_v (vs := [(Value.int .i64 (a1))]) (r := (Value.bool (x5))) rfl ca20 rfl (args1 rfl) I2 (fun Fr_ hF_ => F20_ok hF_  hx5) (fun w6 I7 => ?_))
  refine wl_op rfl (op_move (v := (Value.bool (x5))) rfl rfl ?_)
  rcases ifs h2 with ⟨hc3, h2⟩ | ⟨hc3, h2⟩
  ·
   refine wl_skip (c := x5) rfl rfl rfl rfl hc3 rfl ?_
   refine wl_skip (c := x5) rfl rfl rfl rfl hc3 rfl ?_
   refine wl_skip (c := x5) rfl rfl rfl rfl hc3 rfl ?_
   refine wl_skip (c := x5) rfl rfl rfl rfl hc3 rfl ?_
   refine wl_skip (c := x5) rfl rfl rfl rfl hc3 rfl ?_
   refine wl_op rfl (op_pick_t (c := x5) (a := (Value.bool (true))) rfl rfl hc3 rfl ?_)
   refine wl_nil ?_
   refine wp_cond_t (b := true) rfl rfl ?_
   refine wp_seq' ?_
   refine wp_region' ?_
   obtain ⟨x6, hx6, h2⟩ := bnd h2
   refine wl_op rfl (op_call_v (vs := []) (r := (Value.bool (x6))) rfl ca16 rfl args0 I7 (fun Fr_ hF_ => F16_ok hF_  hx6) (fun w7 I8 => ?_))
   refine wl_op rfl (op_assign (v := (Value.bool (x6))) rfl rfl ?_)
   refine wl_nil ?_
   refine wp_ret' ?_
   obtain rfl := Option.some.inj h2
   have h3 := h
   obtain rfl := Option.some.inj h3
   exact ⟨(Value.bool (x6)), (res1 rfl rfl), _, [], le1, I8, rfl, rfl⟩
  ·
   refine wl_taken (c := x5) rfl rfl rfl rfl hc3 (op_load (v := (Value.pointer (some ⟨g1, 0, none⟩))) (e := a0) rfl sh24 rfl (p1.at_ I7) (fun u2 hu2 => ?_))
   obtain ⟨c3, e6, r3⟩ := Panel.inv hu2
   subst e6
   obtain ⟨z4, m4, k4, e7⟩ := rv_form r3
   subst e7
   refine wl_taken (c := x5) rfl rfl rfl rfl hc3 (op_move (v := (Value.int .i64 (a1))) rfl rfl ?_)
   refine wl_taken (c := x5) rfl rfl rfl rfl hc3 (op_move (v := (Value.slice z2 m2 k2)) rfl rfl ?_)
   obtain ⟨x7, hx7, h2⟩ := bnd h2
   refine wl_taken (c := x5) rfl rfl rfl rfl hc3 (op_call_v (vs := [(Value.agg #[(Value.int .i64 (a0.Sensors)), (Value.slice z4 m4 k4), (Value.int .i64 (a0.Stale)), (Value.int .i64 (a0.Limit))]), (Value.int .i64 (a1)), (Value.slice z2 m2 k2)]) (r := (Value.bool (x7))) rfl ca22 rfl (args3 rfl rfl rfl) I7 (fun Fr_ hF_ => F22_ok hF_ (Panel.rv (s := a0) r3) (h2_.mono le1) hx7) (fun w8 I9 => ?_))
   refine wl_taken (c := x5) rfl rfl rfl rfl hc3 (op_not (b := x7) rfl rfl ?_)
   refine wl_op rfl (op_pick_f (c := x5) (b := (Value.bool (!x7))) rfl rfl hc3 rfl ?_)
   refine wl_nil ?_
   rcases ifs h2 with ⟨hc4, h2⟩ | ⟨hc4, h2⟩
   ·
    refine wp_cond_t (b := !x7) rfl hc4 ?_
    refine wp_seq' ?_
    refine wp_region' ?_
    obtain ⟨x8, hx8, h2⟩ := bnd h2
    refine wl_op rfl (op_call_v (vs := []) (r := (Value.bool (x8))) rfl ca16 rfl args0 I9 (fun Fr_ hF_ => F16_ok hF_  hx8) (fun w9 I10 => ?_))
    refine wl_op rfl (op_assign (v := (Value.bool (x8))) rfl rfl ?_)
    refine wl_nil ?_
    refine wp_ret' ?_
    obtain rfl := Option.some.inj h2
    have h3 := h
    obtain rfl := Option.some.inj h3
    exact ⟨(Value.bool (x8)), (res1 rfl rfl), _, [], le1, I10, rfl, rfl⟩
   ·
    refine wp_cond_f (b := !x7) rfl hc4 ?_
    refine wp_skip' ?_
    obtain rfl := Option.some.inj h2
    exact ⟨_, rfl, I9, rfl, rfl, rfl⟩
 ·
  rintro f w ⟨v1, rfl, I11, e8, e9, e10⟩
  have h := onL_inl h
  refine wp_seq' ?_
  refine wp_region' ?_
  refine wl_op rfl (op_load (v := (Value.pointer (some ⟨g1, 0, none⟩))) (e := a0) rfl sh24 e10 (p1.at_ I11) (fun u3 hu3 => ?_))
  obtain ⟨c4, e11, r4⟩ := Panel.inv hu3
  subst e11
  obtain ⟨z5, m5, k5, e12⟩ := rv_form r4
  subst e12
  refine wl_op rfl (op_move (v := (Value.int .i64 (a1))) rfl e8 ?_)
  refine wl_op rfl (op_move (v := (Value.slice z2 m2 k2)) rfl e9 ?_)
  obtain ⟨x9, hx9, h⟩ := bnd h
  refine wl_op rfl (op_call (vs := [(Value.agg #[(Value.int .i64 (a0.Sensors)), (Value.slice z5 m5 k5), (Value.int .i64 (a0.Stale)), (Value.int .i64 (a0.Limit))]), (Value.int .i64 (a1)), (Value.slice z2 m2 k2)]) rfl ca17 rfl (args3 rfl rfl rfl) (F17_ok I11 (Panel.rv (s := a0) r4) (h2_.mono le1) hx9) (fun v2 w10 S2 O1 le2 I12 hv1 => ?_))
  obtain ⟨z6, m6, k6, rfl, rfl⟩ := hv1
  refine wl_op rfl (op_move (v := (Value.tuple #[(Value.slice z6 m6 k6), (Value.int .i64 (x9.2))])) rfl rfl ?_)
  refine wl_op rfl (op_extract (v := (Value.slice z6 m6 k6)) rfl rfl rfl ?_)
  refine wl_op rfl (op_extract (v := (Value.int .i64 (x9.2))) rfl rfl rfl ?_)
  refine wl_op rfl (op_assign (v := (Value.slice z6 m6 k6)) rfl rfl ?_)
  refine wl_op rfl (op_assign (v := (Value.int .i64 (x9.2))) rfl rfl ?_)
  refine wl_nil ?_
  refine wp_seq' ?_
  refine wp_seq' ?_
  refine wp_region' ?_
  refine wl_op rfl (op_move (v := (Value.int .i64 (x9.2))) rfl rfl ?_)
  refine wl_op rfl (op_neq (a := x9.2) (b := 0) rfl rfl rfl ?_)
  refine wl_nil ?_
  rcases ifs h with ⟨hc5, h⟩ | ⟨hc5, h⟩
  ·
   refine wp_cond_t (b := x9.2 != 0) rfl hc5 ?_
   refine wp_seq' ?_
   refine wp_region' ?_
   obtain ⟨x10, hx10, h⟩ := bnd h
   refine wl_op rfl (op_call_v (vs := []) (r := (Value.bool (x10))) rfl ca16 rfl args0 I12 (fun Fr_ hF_ => F16_ok hF_  hx10) (fun w11 I13 => ?_))
   refine wl_op rfl (op_assign (v := (Value.bool (x10))) rfl rfl ?_)
   refine wl_nil ?_
   refine wp_ret' ?_
   obtain rfl := Option.some.inj h
   exact ⟨(Value.bool (x10)), (res1 rfl rfl), _, [], (le1.trans le2), (I13).drop, rfl, rfl⟩
  ·
   refine wp_cond_f (b := x9.2 != 0) rfl hc5 ?_
   refine wp_skip' ?_
   refine wp_seq' ?_
   refine wp_region' ?_
   refine wl_op rfl (op_assign (v := (Value.slice none 0 0)) rfl rfl ?_)
   refine wl_nil ?_
   refine wp_seq' ?_
   refine wp_seq' ?_
   refine wp_region' ?_
   refine wl_op rfl (op_assign (v := (Value.int .i64 (0))) rfl rfl ?_)
   refine wl_nil ?_
   have hk1 : a2.length ≤ 9223372036854775807 := (rv_len h2_)
   have I24 := Inv.rowNil (α := Signal) (T := 46) I12
   obtain ⟨out1, hrun1, h⟩ := bnd h
   refine wp_cutN (fun f w => ∃ (z16 : Option Addr) (m16 k16 : Nat), Inv w S2 (Row (α := Int) 3 (Value.slice z6 m6 k6) (x9.1) :: Row (α := Signal) 46 (Value.slice z16 m16 k16) (out1) :: Fr) ∧ f 1 = (Value.int .i64 (a1)) ∧ f 2 = (Value.slice z2 m2 k2) ∧ f 3 = (Value.pointer (some ⟨g1, 0, none⟩)) ∧ f 7 = (Value.slice z6 m6 k6) ∧ f 9 = (Value.slice z16 m16 k16)) ?_ ?_
   ·
    refine wp_block' ?_
    refine wp_forS (I := fun (i1 : Nat) (s1 : (List Signal)) (f : Frm) (w : World) => ∃ (z15 : Option Addr) (m15 k15 : Nat), Inv w S2 (Row (α := Int) 3 (Value.slice z6 m6 k6) (x9.1) :: Row (α := Signal) 46 (Value.slice z15 m15 k15) (s1) :: Fr) ∧ f 1 = (Value.int .i64 (a1)) ∧ f 2 = (Value.slice z2 m2 k2) ∧ f 3 = (Value.pointer (some ⟨g1, 0, none⟩)) ∧ f 7 = (Value.slice z6 m6 k6) ∧ f 9 = (Value.slice z15 m15 k15) ∧ f 10 = (Value.int .i64 (i1 : Int))) hrun1 ⟨_, _, _, (I24.pull 1), e8, e9, e10, rfl, rfl, rfl⟩ ?_ ?_
    ·
     rintro i1 s1 f w o1 hlt1 hI1 h4
     obtain ⟨z15, m15, k15, I25, e40, e41, e42, e43, e44, e45⟩ := hI1
     refine wp_seq' ?_
     refine wp_seq' ?_
     refine wp_region' ?_
     refine wl_op rfl (op_move (v := (Value.int .i64 ((i1 : Int)))) rfl e45 ?_)
     refine wl_op rfl (op_move (v := (Value.slice z2 m2 k2)) rfl e41 ?_)
     refine wl_op rfl (op_len_rv rfl Try.underlying25 rfl (h2_.mono (le1.trans le2)) ?_)
     refine wl_op rfl (op_lss (a := (i1 : Int)) (b := (a2.length : Int)) rfl rfl rfl ?_)
     refine wl_nil ?_
     refine wp_cond_t (b := decide ((i1 : Int) < (a2.length : Int))) rfl (len_t hlt1) ?_
     refine wp_skip' ?_
     refine wp_seq' ?_
     refine wp_block' ?_
     refine wp_seq' ?_
     refine wp_region' ?_
     refine wl_op rfl (op_move (v := (Value.slice z2 m2 k2)) rfl e41 ?_)
     refine wl_op rfl (op_move (v := (Value.int .i64 ((i1 : Int)))) rfl e45 ?_)
     obtain ⟨x20, hx20, h4⟩ := bnd h4
     refine wl_op rfl (op_indexAddr_rv (v := (Value.slice z2 m2 k2)) (i := (i1 : Int)) (e := x20) rfl Try.underlying25 sh46 rfl (h2_.mono (le1.trans le2)) rfl hx20 ?_)
     refine wl_op rfl (op_fieldAddr_t (v := (elemPtr (Value.slice z2 m2 k2) ((i1 : Int)) (Enc.sz Signal))) rfl fa46_1 rfl ((h2_.mono (le1.trans le2)).elem I25.in_ hx20) ?_)
     refine wl_op rfl (op_load_int (v := (fieldPtr (elemPtr (Value.slice z2 m2 k2) ((i1 : Int)) (Enc.sz Signal)) 1)) (e := x20.Kind) rfl sh3 rfl (((h2_.mono (le1.trans le2)).elem I25.in_ hx20).fld Signal.fld1) ?_)
     refine wl_op rfl (op_neq (a := x20.Kind) (b := 6) rfl rfl rfl ?_)
     refine wl_nil ?_
     rcases ifs h4 with ⟨hc9, h4⟩ | ⟨hc9, h4⟩
     ·
      refine wp_cond_t (b := x20.Kind != 6) rfl hc9 ?_
      refine wp_region' ?_
      refine wl_op rfl (op_move (v := (Value.slice z15 m15 k15)) rfl e44 ?_)
      refine wl_op rfl (op_move (v := (Value.slice z2 m2 k2)) rfl e41 ?_)
      refine wl_op rfl (op_move (v := (Value.int .i64 ((i1 : Int)))) rfl e45 ?_)
      obtain ⟨x21, hx21, h4⟩ := bnd h4
      refine wl_op rfl (op_indexAddr_rv (v := (Value.slice z2 m2 k2)) (i := (i1 : Int)) (e := x21) rfl Try.underlying25 sh46 rfl (h2_.mono (le1.trans le2)) rfl hx21 ?_)
      refine wl_op rfl (op_load (v := (elemPtr (Value.slice z2 m2 k2) ((i1 : Int)) (Enc.sz Signal))) (e := x21) rfl sh46 rfl ((h2_.mono (le1.trans le2)).elem I25.in_ hx21) (fun u13 hu7 => ?_))
      have e46 := Signal.inv hu7
      subst e46
      refine wl_op rfl (op_buildSlice (vs := [(Value.agg #[(Value.int .i64 (x21.At)), (Value.int .i64 (x21.Kind)), (Value.int .i64 (x21.Number)), (Value.int .i64 (x21.Value))])]) (r := ([x21] : List Signal)) rfl Try.underlying25 el46 (parts1 rfl) rfl (by decide) (by decide) ⟨(Signal.rv (s := x21)), trivial⟩ I25 (fun u14 w18 I26 => ?_))
      obtain ⟨z17, m17, k17, e47⟩ := row_form I26
      subst e47
      obtain ⟨x22, hx22, h4⟩ := bnd h4
      refine wl_op rfl (op_append (α := Signal) (v := (Value.slice z15 m15 k15)) (u := (Value.slice z17 m17 k17)) rfl rfl Try.underlying25 el46 (by decide) (by decide) rfl rfl (I26.pull 2) (Inv.rowSrc (I26.nth 0 rfl)) hx22 (fun u15 w19 I27 => ?_))
      obtain ⟨z18, m18, k18, e48⟩ := row_form I27
      subst e48
      refine wl_op rfl (op_assign (v := (Value.slice z18 m18 k18)) rfl rfl ?_)
      refine wl_nil ?_
      refine wp_region' ?_
      refine wl_op rfl (op_move (v := (Value.int .i64 ((i1 : Int)))) rfl e45 ?_)
      refine wl_op rfl (op_add (a := (i1 : Int)) (b := 1) rfl rfl rfl ?_)
      refine wl_op rfl (op_assign (v := (Value.int .i64 (w64 ((i1 : Int) + 1)))) rfl rfl ?_)
      refine wl_nil ?_
      obtain rfl := Option.some.inj h4
      exact ⟨_, _, _, ((I27.pull 1).drop.pull 1), e40, e41, e42, e43, rfl, (idx_next hlt1 hk1)⟩
     ·
      refine wp_cond_f (b := x20.Kind != 6) rfl hc9 ?_
      refine wp_skip' ?_
      refine wp_region' ?_
      refine wl_op rfl (op_move (v := (Value.int .i64 ((i1 : Int)))) rfl e45 ?_)
      refine wl_op rfl (op_add (a := (i1 : Int)) (b := 1) rfl rfl rfl ?_)
      refine wl_op rfl (op_assign (v := (Value.int .i64 (w64 ((i1 : Int) + 1)))) rfl rfl ?_)
      refine wl_nil ?_
      obtain rfl := Option.some.inj h4
      exact ⟨_, _, _, ((I25.pull 1).pull 1), e40, e41, e42, e43, e44, (idx_next hlt1 hk1)⟩
    ·
     rintro f w hI2
     obtain ⟨z19, m19, k19, I28, e49, e50, e51, e52, e53, e54⟩ := hI2
     refine wp_seq' ?_
     refine wp_seq' ?_
     refine wp_region' ?_
     refine wl_op rfl (op_move (v := (Value.int .i64 ((a2.length : Int)))) rfl e54 ?_)
     refine wl_op rfl (op_move (v := (Value.slice z2 m2 k2)) rfl e50 ?_)
     refine wl_op rfl (op_len_rv rfl Try.underlying25 rfl (h2_.mono (le1.trans le2)) ?_)
     refine wl_op rfl (op_lss (a := (a2.length : Int)) (b := (a2.length : Int)) rfl rfl rfl ?_)
     refine wl_nil ?_
     refine wp_cond_f (b := decide ((a2.length : Int) < (a2.length : Int))) rfl (len_f _) ?_
     refine wp_exit' ?_
     exact ⟨_, _, _, ((I28.pull 1).pull 1), e49, e50, e51, e52, e53⟩
   ·
    rintro f w ⟨z16, m16, k16, I29, e55, e56, e57, e58, e59⟩
    refine wp_seq' ?_
    refine wp_region' ?_
    refine wl_op rfl (op_load (v := (Value.pointer (some ⟨g1, 0, none⟩))) (e := a0) rfl sh24 e57 ((p1.mono le2).at_ I29) (fun u16 hu8 => ?_))
    obtain ⟨c5, e60, r5⟩ := Panel.inv hu8
    subst e60
    obtain ⟨z20, m20, k20, e61⟩ := rv_form r5
    subst e61
    refine wl_op rfl (op_move (v := (Value.int .i64 (a1))) rfl e55 ?_)
    refine wl_op rfl (op_move (v := (Value.slice z16 m16 k16)) rfl e59 ?_)
    obtain ⟨x23, hx23, h⟩ := bnd h
    obtain ⟨S3, Fr1, le3, I30, r6, bk1⟩ := Inv.lend1 (I29.pull 1)
    refine wl_op rfl (op_call (vs := [(Value.agg #[(Value.int .i64 (a0.Sensors)), (Value.slice z20 m20 k20), (Value.int .i64 (a0.Stale)), (Value.int .i64 (a0.Limit))]), (Value.int .i64 (a1)), (Value.slice z16 m16 k16)]) rfl ca17 rfl (args3 rfl rfl rfl) (F17_ok I30 (Panel.rv (s := a0) (r5.mono le3)) r6 hx23) (fun v3 w20 S4 O2 le4 I32 hv2 => ?_))
    obtain ⟨z21, m21, k21, rfl, rfl⟩ := hv2
    have I31 := bk1 [Row (α := Int) 3 (Value.slice z21 m21 k21) (x23.1)] ⟨Row.free, trivial⟩ I32 le4
    refine wl_op rfl (op_move (v := (Value.tuple #[(Value.slice z21 m21 k21), (Value.int .i64 (x23.2))])) rfl rfl ?_)
    refine wl_op rfl (op_extract (v := (Value.slice z21 m21 k21)) rfl rfl rfl ?_)
    refine wl_op rfl (op_extract (v := (Value.int .i64 (x23.2))) rfl rfl rfl ?_)
    refine wl_op rfl (op_assign (v := (Value.slice z21 m21 k21)) rfl rfl ?_)
    refine wl_op rfl (op_assign (v := (Value.int .i64 (x23.2))) rfl rfl ?_)
    refine wl_nil ?_
    obtain ⟨ov4, h7, h⟩ := bnd h
    refine wp_cut (fun f w => ∃ v4, ov4 = Sum.inl v4 ∧ Inv w S2 (Row (α := Int) 3 (Value.slice z6 m6 k6) (x9.1) :: Row (α := Int) 3 (Value.slice z21 m21 k21) (x23.1) :: Fr) ∧ f 1 = (Value.int .i64 (a1)) ∧ f 2 = (Value.slice z2 m2 k2) ∧ f 3 = (Value.pointer (some ⟨g1, 0, none⟩)) ∧ f 7 = (Value.slice z6 m6 k6) ∧ f 11 = (Value.slice z21 m21 k21)) ?_ ?_
    ·
     refine wp_seq' ?_
     refine wp_region' ?_
     refine wl_op rfl (op_move (v := (Value.int .i64 (x23.2))) rfl rfl ?_)
     refine wl_op rfl (op_neq (a := x23.2) (b := 0) rfl rfl rfl ?_)
     refine wl_op rfl (op_move (v := (Value.bool (x23.2 != 0))) rfl rfl ?_)
     rcases ifs h7 with ⟨hc13, h7⟩ | ⟨hc13, h7⟩
     ·
      refine wl_skip (c := x23.2 != 0) rfl rfl rfl rfl hc13 rfl ?_
      refine wl_skip (c := x23.2 != 0) rfl rfl rfl rfl hc13 rfl ?_
      refine wl_skip (c := x23.2 != 0) rfl rfl rfl rfl hc13 rfl ?_
      refine wl_skip (c := x23.2 != 0) rfl rfl rfl rfl hc13 rfl ?_
      refine wl_op rfl (op_pick_t (c := x23.2 != 0) (a := (Value.bool (true))) rfl rfl hc13 rfl ?_)
      refine wl_op rfl (op_move (v := (Value.bool (true))) rfl rfl ?_)
      refine wl_skip (c := true) rfl rfl rfl rfl rfl rfl ?_
      refine wl_skip (c := true) rfl rfl rfl rfl rfl rfl ?_
      refine wl_skip (c := true) rfl rfl rfl rfl rfl rfl ?_
      refine wl_skip (c := true) rfl rfl rfl rfl rfl rfl ?_
      refine wl_op rfl (op_pick_t (c := true) (a := (Value.bool (true))) rfl rfl rfl rfl ?_)
      refine wl_nil ?_
      refine wp_cond_t (b := true) rfl rfl ?_
      refine wp_seq' ?_
      refine wp_region' ?_
      refine wl_op rfl (op_assign (v := (Value.bool (false))) rfl rfl ?_)
      refine wl_nil ?_
      refine wp_ret' ?_
      obtain rfl := Option.some.inj h7
      have h8 := h
      obtain rfl := Option.some.inj h8
      exact ⟨(Value.bool (false)), (res1 rfl rfl), _, [], (le1.trans le2), (((I31).drop).drop).drop, rfl, rfl⟩
     ·
      refine wl_taken (c := x23.2 != 0) rfl rfl rfl rfl hc13 (op_move (v := (Value.slice z6 m6 k6)) rfl e58 ?_)
      refine wl_taken (c := x23.2 != 0) rfl rfl rfl rfl hc13 (op_len_row (α := Int) rfl Try.underlying34 rfl (I31.nth 2 rfl) ?_)
      refine wl_taken (c := x23.2 != 0) rfl rfl rfl rfl hc13 (op_move (v := (Value.int .i64 (a1))) rfl e55 ?_)
      refine wl_taken (c := x23.2 != 0) rfl rfl rfl rfl hc13 (op_neq (a := (x9.1.length : Int)) (b := a1) rfl rfl rfl ?_)
      refine wl_op rfl (op_pick_f (c := x23.2 != 0) (b := (Value.bool ((x9.1.length : Int) != a1))) rfl rfl hc13 rfl ?_)
      refine wl_op rfl (op_move (v := (Value.bool ((x9.1.length : Int) != a1))) rfl rfl ?_)
      rcases ifs h7 with ⟨hc14, h7⟩ | ⟨hc14, h7⟩
      ·
       refine wl_skip (c := (x9.1.length : Int) != a1) rfl rfl rfl rfl hc14 rfl ?_
       refine wl_skip (c := (x9.1.length : Int) != a1) rfl rfl rfl rfl hc14 rfl ?_
       refine wl_skip (c := (x9.1.length : Int) != a1) rfl rfl rfl rfl hc14 rfl ?_
       refine wl_skip (c := (x9.1.length : Int) != a1) rfl rfl rfl rfl hc14 rfl ?_
       refine wl_op rfl (op_pick_t (c := (x9.1.length : Int) != a1) (a := (Value.bool (true))) rfl rfl hc14 rfl ?_)
       refine wl_nil ?_
       refine wp_cond_t (b := true) rfl rfl ?_
       refine wp_seq' ?_
       refine wp_region' ?_
       refine wl_op rfl (op_assign (v := (Value.bool (false))) rfl rfl ?_)
       refine wl_nil ?_
       refine wp_ret' ?_
       obtain rfl := Option.some.inj h7
       have h8 := h
       obtain rfl := Option.some.inj h8
       exact ⟨(Value.bool (false)), (res1 rfl rfl), _, [], (le1.trans le2), (((I31).drop).drop).drop, rfl, rfl⟩
      ·
       refine wl_taken (c := (x9.1.length : Int) != a1) rfl rfl rfl rfl hc14 (op_move (v := (Value.slice z21 m21 k21)) rfl rfl ?_)
       refine wl_taken (c := (x9.1.length : Int) != a1) rfl rfl rfl rfl hc14 (op_len_row (α := Int) rfl Try.underlying34 rfl (I31.nth 0 rfl) ?_)
       refine wl_taken (c := (x9.1.length : Int) != a1) rfl rfl rfl rfl hc14 (op_move (v := (Value.int .i64 (a1))) rfl e55 ?_)
       refine wl_taken (c := (x9.1.length : Int) != a1) rfl rfl rfl rfl hc14 (op_neq (a := (x23.1.length : Int)) (b := a1) rfl rfl rfl ?_)
       refine wl_op rfl (op_pick_f (c := (x9.1.length : Int) != a1) (b := (Value.bool ((x23.1.length : Int) != a1))) rfl rfl hc14 rfl ?_)
       refine wl_nil ?_
       rcases ifs h7 with ⟨hc15, h7⟩ | ⟨hc15, h7⟩
       ·
        refine wp_cond_t (b := (x23.1.length : Int) != a1) rfl hc15 ?_
        refine wp_seq' ?_
        refine wp_region' ?_
        refine wl_op rfl (op_assign (v := (Value.bool (false))) rfl rfl ?_)
        refine wl_nil ?_
        refine wp_ret' ?_
        obtain rfl := Option.some.inj h7
        have h8 := h
        obtain rfl := Option.some.inj h8
        exact ⟨(Value.bool (false)), (res1 rfl rfl), _, [], (le1.trans le2), (((I31).drop).drop).drop, rfl, rfl⟩
       ·
        refine wp_cond_f (b := (x23.1.length : Int) != a1) rfl hc15 ?_
        refine wp_skip' ?_
        obtain rfl := Option.some.inj h7
        exact ⟨_, rfl, ((I31.pull 1).drop.pull 1), e55, e56, e57, e58, rfl⟩
    ·
     rintro f w ⟨v4, rfl, I33, e62, e63, e64, e65, e66⟩
     have h := onL_inl h
     refine wp_seq' ?_
     refine wp_seq' ?_
     refine wp_region' ?_
     refine wl_op rfl (op_assign (v := (Value.int .i64 (0))) rfl rfl ?_)
     refine wl_nil ?_
     obtain ⟨x264, hx264, h⟩ := bnd h
     obtain ⟨o9, hrun5, h⟩ := bnd h
     refine wp_cutN (fun f w => ∃ out5, o9 = Sum.inl out5 ∧ ∃ (S_ : PH), S2.Le S_ ∧ Inv w S_ (Row (α := Int) 3 (Value.slice z6 m6 k6) (x9.1) :: Row (α := Int) 3 (Value.slice z21 m21 k21) (x23.1) :: Fr) ∧ f 1 = (Value.int .i64 (a1)) ∧ f 2 = (Value.slice z2 m2 k2) ∧ f 3 = (Value.pointer (some ⟨g1, 0, none⟩)) ∧ f 7 = (Value.slice z6 m6 k6) ∧ f 11 = (Value.slice z21 m21 k21)) ?_ ?_
     ·
      refine wp_block' ?_
      refine wp_forN (I := fun (i5 : Nat) (s8 : Unit) (f : Frm) (w : World) => ∃ (S_ : PH), S2.Le S_ ∧ Inv w S_ (Row (α := Int) 3 (Value.slice z6 m6 k6) (x9.1) :: Row (α := Int) 3 (Value.slice z21 m21 k21) (x23.1) :: Fr) ∧ f 1 = (Value.int .i64 (a1)) ∧ f 2 = (Value.slice z2 m2 k2) ∧ f 3 = (Value.pointer (some ⟨g1, 0, none⟩)) ∧ f 7 = (Value.slice z6 m6 k6) ∧ f 11 = (Value.slice z21 m21 k21) ∧ f 13 = (Value.int .i64 (i5 : Int))) hrun5 ⟨_, (PH.Le.refl _), ((I33.pull 1).pull 1), e62, e63, e64, e65, e66, rfl⟩ ?_ ?_
      ·
       rintro i5 s8 f w o8 hlt5 hI3453 h87 hout5
       obtain ⟨S3466, le3466, I4279, e1024, e1025, e1026, e1027, e1028, e1029⟩ := hI3453
       refine wp_seq' ?_
       refine wp_seq' ?_
       refine wp_region' ?_
       refine wl_op rfl (op_move (v := (Value.int .i64 ((i5 : Int)))) rfl e1029 ?_)
       refine wl_op rfl (op_move (v := (Value.int .i64 (a1))) rfl e1024 ?_)
       refine wl_op rfl (op_lss (a := (i5 : Int)) (b := a1) rfl rfl rfl ?_)
       refine wl_nil ?_
       refine wp_cond_t (b := decide ((i5 : Int) < a1)) rfl (cnt_t hx264 hlt5) ?_
       refine wp_skip' ?_
       refine wp_seq' ?_
       refine wp_block' ?_
       refine wp_seq' ?_
       refine wp_region' ?_
       refine wl_op rfl (op_assign (v := (Value.int .i64 (0))) rfl rfl ?_)
       refine wl_nil ?_
       have hk5 : a0.Doors.length ≤ 9223372036854775807 := (rv_len r5)
       obtain ⟨o11, hrun6, h87⟩ := bnd h87
       refine wp_cutN (fun f w => ∃ out6, o11 = Sum.inl out6 ∧ ∃ (S_ : PH), S3466.Le S_ ∧ Inv w S_ (Row (α := Int) 3 (Value.slice z6 m6 k6) (x9.1) :: Row (α := Int) 3 (Value.slice z21 m21 k21) (x23.1) :: Fr) ∧ f 1 = (Value.int .i64 (a1)) ∧ f 2 = (Value.slice z2 m2 k2) ∧ f 3 = (Value.pointer (some ⟨g1, 0, none⟩)) ∧ f 7 = (Value.slice z6 m6 k6) ∧ f 11 = (Value.slice z21 m21 k21) ∧ f 13 = (Value.int .i64 ((i5 : Int)))) ?_ ?_
       ·
        refine wp_block' ?_
        refine wp_forN (I := fun (i6 : Nat) (s9 : Unit) (f : Frm) (w : World) => ∃ (S_ : PH), S3466.Le S_ ∧ Inv w S_ (Row (α := Int) 3 (Value.slice z6 m6 k6) (x9.1) :: Row (α := Int) 3 (Value.slice z21 m21 k21) (x23.1) :: Fr) ∧ f 1 = (Value.int .i64 (a1)) ∧ f 2 = (Value.slice z2 m2 k2) ∧ f 3 = (Value.pointer (some ⟨g1, 0, none⟩)) ∧ f 7 = (Value.slice z6 m6 k6) ∧ f 11 = (Value.slice z21 m21 k21) ∧ f 13 = (Value.int .i64 ((i5 : Int))) ∧ f 14 = (Value.int .i64 (i6 : Int))) hrun6 ⟨_, (PH.Le.refl _), ((I4279.pull 1).pull 1), e1024, e1025, e1026, e1027, e1028, e1029, rfl⟩ ?_ ?_
        ·
         rintro i6 s9 f w o10 hlt6 hI4315 h107 hout6
         obtain ⟨S4330, le4330, I5339, e1254, e1255, e1256, e1257, e1258, e1259, e1260⟩ := hI4315
         refine wp_seq' ?_
         refine wp_seq' ?_
         refine wp_region' ?_
         refine wl_op rfl (op_move (v := (Value.int .i64 ((i6 : Int)))) rfl e1260 ?_)
         refine wl_op rfl (op_fieldAddr_t (v := (Value.pointer (some ⟨g1, 0, none⟩))) rfl fa24_1 e1256 ((p1.mono ((le2.trans le3466).trans le4330)).at_ I5339) ?_)
         refine wl_op rfl (op_load (v := (fieldPtr (Value.pointer (some ⟨g1, 0, none⟩)) 1)) (e := a0.Doors) rfl sh22 rfl (((p1.mono ((le2.trans le3466).trans le4330)).at_ I5339).fld Panel.fld1) (fun u62 hu54 => ?_))
         obtain ⟨z67, m67, k67, e1262⟩ := rv_form hu54
         subst e1262
         refine wl_op rfl (op_len_rv rfl Try.underlying22 rfl hu54 ?_)
         refine wl_op rfl (op_lss (a := (i6 : Int)) (b := (a0.Doors.length : Int)) rfl rfl rfl ?_)
         refine wl_nil ?_
         refine wp_cond_t (b := decide ((i6 : Int) < (a0.Doors.length : Int))) rfl (len_t hlt6) ?_
         refine wp_skip' ?_
         refine wp_seq' ?_
         refine wp_block' ?_
         obtain ⟨v35, h110, h107⟩ := bnd h107
         refine wp_cut (fun f w => Inv w S4330 (Row (α := Int) 3 (Value.slice z6 m6 k6) (x9.1) :: Row (α := Int) 3 (Value.slice z21 m21 k21) (x23.1) :: Fr) ∧ f 1 = (Value.int .i64 (a1)) ∧ f 2 = (Value.slice z2 m2 k2) ∧ f 3 = (Value.pointer (some ⟨g1, 0, none⟩)) ∧ f 7 = (Value.slice z6 m6 k6) ∧ f 11 = (Value.slice z21 m21 k21) ∧ f 13 = (Value.int .i64 ((i5 : Int))) ∧ f 14 = (Value.int .i64 ((i6 : Int))) ∧ f 15 = (Value.bool (v35))) ?_ ?_
         ·
          refine wp_region' ?_
          refine wl_op rfl (op_move (v := (Value.int .i64 ((i5 : Int)))) rfl e1259 ?_)
          refine wl_op rfl (op_gtr (a := (i5 : Int)) (b := 0) rfl rfl rfl ?_)
          refine wl_op rfl (op_move (v := (Value.bool (decide (0 < (i5 : Int))))) rfl rfl ?_)
          rcases ifs h110 with ⟨hc287, h110⟩ | ⟨hc287, h110⟩
          ·
           refine wl_taken (c := decide (0 < (i5 : Int))) rfl rfl rfl rfl hc287 (op_move (v := (Value.slice z6 m6 k6)) rfl e1257 ?_)
           refine wl_taken (c := decide (0 < (i5 : Int))) rfl rfl rfl rfl hc287 (op_move (v := (Value.int .i64 ((i5 : Int)))) rfl e1259 ?_)
           refine wl_taken (c := decide (0 < (i5 : Int))) rfl rfl rfl rfl hc287 (op_sub (a := (i5 : Int)) (b := 1) rfl rfl rfl ?_)
           obtain ⟨x327, hx327, h110⟩ := bnd h110
           refine wl_taken (c := decide (0 < (i5 : Int))) rfl rfl rfl rfl hc287 (op_indexAddr_src (v := (Value.slice z6 m6 k6)) (i := w64 ((i5 : Int) - 1)) (e := x327) rfl Try.underlying34 sh3 rfl (Inv.rowSrc (I5339.nth 0 rfl)) rfl hx327 ?_)
           refine wl_taken (c := decide (0 < (i5 : Int))) rfl rfl rfl rfl hc287 (op_load_int (v := (elemPtr (Value.slice z6 m6 k6) (w64 ((i5 : Int) - 1)) (Enc.sz Int))) (e := x327) rfl sh3 rfl ((I5339.nth 0 rfl).rowElem hx327) ?_)
           refine wl_taken (c := decide (0 < (i5 : Int))) rfl rfl rfl rfl hc287 (op_move (v := (Value.int .i64 ((i6 : Int)))) rfl e1260 ?_)
           obtain ⟨x328, hx328, h110⟩ := bnd h110
           refine wl_taken (c := decide (0 < (i5 : Int))) rfl rfl rfl rfl hc287 (op_call_v (vs := [(Value.int .i64 (x327)), (Value.int .i64 ((i6 : Int)))]) (r := (Value.bool (x328))) rfl ca19 rfl (args2 rfl rfl) I5339 (fun Fr_ hF_ => F19_ok hF_  hx328) (fun w5273 I5341 => ?_))
           refine wl_op rfl (op_pick_t (c := decide (0 < (i5 : Int))) (a := (Value.bool (x328))) rfl rfl hc287 rfl ?_)
           refine wl_op rfl (op_assign (v := (Value.bool (x328))) rfl rfl ?_)
           refine wl_nil ?_
           obtain rfl := Option.some.inj h110
           exact ⟨((I5341.pull 1).pull 1), e1254, e1255, e1256, e1257, e1258, e1259, e1260, rfl⟩
          ·
           refine wl_skip (c := decide (0 < (i5 : Int))) rfl rfl rfl rfl hc287 rfl ?_
           refine wl_skip (c := decide (0 < (i5 : Int))) rfl rfl rfl rfl hc287 rfl ?_
           refine wl_skip (c := decide (0 < (i5 : Int))) rfl rfl rfl rfl hc287 rfl ?_
           refine wl_skip (c := decide (0 < (i5 : Int))) rfl rfl rfl rfl hc287 rfl ?_
           refine wl_skip (c := decide (0 < (i5 : Int))) rfl rfl rfl rfl hc287 rfl ?_
           refine wl_skip (c := decide (0 < (i5 : Int))) rfl rfl rfl rfl hc287 rfl ?_
           refine wl_skip (c := decide (0 < (i5 : Int))) rfl rfl rfl rfl hc287 rfl ?_
           refine wl_op rfl (op_pick_f (c := decide (0 < (i5 : Int))) (b := (Value.bool (false))) rfl rfl hc287 rfl ?_)
           refine wl_op rfl (op_assign (v := (Value.bool (false))) rfl rfl ?_)
           refine wl_nil ?_
           obtain rfl := Option.some.inj h110
           exact ⟨((I5339.pull 1).pull 1), e1254, e1255, e1256, e1257, e1258, e1259, e1260, rfl⟩
         ·
          rintro f w ⟨I5342, e1263, e1264, e1265, e1266, e1267, e1268, e1269, e1270⟩
          obtain ⟨ov36, h113, h107⟩ := bnd h107
          refine wp_cut (fun f w => ∃ v36, ov36 = Sum.inl v36 ∧ Inv w S4330 (Row (α := Int) 3 (Value.slice z6 m6 k6) (x9.1) :: Row (α := Int) 3 (Value.slice z21 m21 k21) (x23.1) :: Fr) ∧ f 1 = (Value.int .i64 (a1)) ∧ f 2 = (Value.slice z2 m2 k2) ∧ f 3 = (Value.pointer (some ⟨g1, 0, none⟩)) ∧ f 7 = (Value.slice z6 m6 k6) ∧ f 11 = (Value.slice z21 m21 k21) ∧ f 13 = (Value.int .i64 ((i5 : Int))) ∧ f 14 = (Value.int .i64 ((i6 : Int))) ∧ f 15 = (Value.bool (v35))) ?_ ?_
          ·
           refine wp_seq' ?_
           refine wp_region' ?_
           refine wl_op rfl (op_move (v := (Value.slice z2 m2 k2)) rfl e1264 ?_)
           refine wl_op rfl (op_move (v := (Value.int .i64 ((i5 : Int)))) rfl e1268 ?_)
           refine wl_op rfl (op_move (v := (Value.int .i64 ((i6 : Int)))) rfl e1269 ?_)
           obtain ⟨x332, hx332, h113⟩ := bnd h113
           refine wl_op rfl (op_call_v (vs := [(Value.slice z2 m2 k2), (Value.int .i64 ((i5 : Int))), (Value.int .i64 ((i6 : Int)))]) (r := (Value.bool (x332))) rfl ca26 rfl (args3 rfl rfl rfl) I5342 (fun Fr_ hF_ => F26_ok hF_ (h2_.mono (((le1.trans le2).trans le3466).trans le4330)) hx332) (fun w5276 I5345 => ?_))
           refine wl_op rfl (op_move (v := (Value.bool (x332))) rfl rfl ?_)
           rcases ifs h113 with ⟨hc291, h113⟩ | ⟨hc291, h113⟩
           ·
            refine wl_taken (c := x332) rfl rfl rfl rfl hc291 (op_move (v := (Value.bool (v35))) rfl e1270 ?_)
            refine wl_taken (c := x332) rfl rfl rfl rfl hc291 (op_not (b := v35) rfl rfl ?_)
            refine wl_op rfl (op_pick_t (c := x332) (a := (Value.bool (!v35))) rfl rfl hc291 rfl ?_)
            refine wl_op rfl (op_move (v := (Value.bool (!v35))) rfl rfl ?_)
            rcases ifs h113 with ⟨hc292, h113⟩ | ⟨hc292, h113⟩
            ·
             refine wl_taken (c := !v35) rfl rfl rfl rfl hc292 (op_move (v := (Value.slice z6 m6 k6)) rfl e1266 ?_)
             refine wl_taken (c := !v35) rfl rfl rfl rfl hc292 (op_move (v := (Value.int .i64 ((i5 : Int)))) rfl e1268 ?_)
             obtain ⟨x333, hx333, h113⟩ := bnd h113
             refine wl_taken (c := !v35) rfl rfl rfl rfl hc292 (op_indexAddr_src (v := (Value.slice z6 m6 k6)) (i := (i5 : Int)) (e := x333) rfl Try.underlying34 sh3 rfl (Inv.rowSrc (I5345.nth 0 rfl)) rfl hx333 ?_)
             refine wl_taken (c := !v35) rfl rfl rfl rfl hc292 (op_load_int (v := (elemPtr (Value.slice z6 m6 k6) ((i5 : Int)) (Enc.sz Int))) (e := x333) rfl sh3 rfl ((I5345.nth 0 rfl).rowElem hx333) ?_)
             refine wl_taken (c := !v35) rfl rfl rfl rfl hc292 (op_move (v := (Value.int .i64 ((i6 : Int)))) rfl e1269 ?_)
             obtain ⟨x334, hx334, h113⟩ := bnd h113
             refine wl_taken (c := !v35) rfl rfl rfl rfl hc292 (op_call_v (vs := [(Value.int .i64 (x333)), (Value.int .i64 ((i6 : Int)))]) (r := (Value.bool (x334))) rfl ca19 rfl (args2 rfl rfl) I5345 (fun Fr_ hF_ => F19_ok hF_  hx334) (fun w5277 I5346 => ?_))
             refine wl_op rfl (op_pick_t (c := !v35) (a := (Value.bool (x334))) rfl rfl hc292 rfl ?_)
             refine wl_nil ?_
             rcases ifs h113 with ⟨hc293, h113⟩ | ⟨hc293, h113⟩
             ·
              refine wp_cond_t (b := x334) rfl hc293 ?_
              refine wp_seq' ?_
              refine wp_region' ?_
              refine wl_op rfl (op_assign (v := (Value.bool (false))) rfl rfl ?_)
              refine wl_nil ?_
              refine wp_ret' ?_
              obtain rfl := Option.some.inj h113
              have h114 := h107
              obtain rfl := Option.some.inj h114
              obtain rfl := (hout6 _ rfl)
              have h108 := h87
              obtain rfl := Option.some.inj h108
              obtain rfl := (hout5 _ rfl)
              have h88 := h
              obtain rfl := Option.some.inj h88
              exact ⟨(Value.bool (false)), (res1 rfl rfl), _, [], (((le1.trans le2).trans le3466).trans le4330), ((I5346).drop).drop, rfl, rfl⟩
             ·
              refine wp_cond_f (b := x334) rfl hc293 ?_
              refine wp_skip' ?_
              obtain rfl := Option.some.inj h113
              exact ⟨_, rfl, ((I5346.pull 1).pull 1), e1263, e1264, e1265, e1266, e1267, e1268, e1269, e1270⟩
            ·
             refine wl_skip (c := !v35) rfl rfl rfl rfl hc292 rfl ?_
             refine wl_skip (c := !v35) rfl rfl rfl rfl hc292 rfl ?_
             refine wl_skip (c := !v35) rfl rfl rfl rfl hc292 rfl ?_
             refine wl_skip (c := !v35) rfl rfl rfl rfl hc292 rfl ?_
             refine wl_skip (c := !v35) rfl rfl rfl rfl hc292 rfl ?_
             refine wl_skip (c := !v35) rfl rfl rfl rfl hc292 rfl ?_
             refine wl_op rfl (op_pick_f (c := !v35) (b := (Value.bool (false))) rfl rfl hc292 rfl ?_)
             refine wl_nil ?_
             refine wp_cond_f (b := false) rfl rfl ?_
             refine wp_skip' ?_
             obtain rfl := Option.some.inj h113
             exact ⟨_, rfl, ((I5345.pull 1).pull 1), e1263, e1264, e1265, e1266, e1267, e1268, e1269, e1270⟩
           ·
            refine wl_skip (c := x332) rfl rfl rfl rfl hc291 rfl ?_
            refine wl_skip (c := x332) rfl rfl rfl rfl hc291 rfl ?_
            refine wl_op rfl (op_pick_f (c := x332) (b := (Value.bool (false))) rfl rfl hc291 rfl ?_)
            refine wl_op rfl (op_move (v := (Value.bool (false))) rfl rfl ?_)
            refine wl_skip (c := false) rfl rfl rfl rfl rfl rfl ?_
            refine wl_skip (c := false) rfl rfl rfl rfl rfl rfl ?_
            refine wl_skip (c := false) rfl rfl rfl rfl rfl rfl ?_
            refine wl_skip (c := false) rfl rfl rfl rfl rfl rfl ?_
            refine wl_skip (c := false) rfl rfl rfl rfl rfl rfl ?_
            refine wl_skip (c := false) rfl rfl rfl rfl rfl rfl ?_
            refine wl_op rfl (op_pick_f (c := false) (b := (Value.bool (false))) rfl rfl rfl rfl ?_)
            refine wl_nil ?_
            refine wp_cond_f (b := false) rfl rfl ?_
            refine wp_skip' ?_
            obtain rfl := Option.some.inj h113
            exact ⟨_, rfl, ((I5345.pull 1).pull 1), e1263, e1264, e1265, e1266, e1267, e1268, e1269, e1270⟩
          ·
           rintro f w ⟨v36, rfl, I5347, e1271, e1272, e1273, e1274, e1275, e1276, e1277, e1278⟩
           have h107 := onL_inl h107
           refine wp_seq' ?_
           obtain ⟨x335, hx335, h107⟩ := bnd h107
           obtain ⟨x336, hx336, h107⟩ := bnd h107
           rcases ifs h107 with ⟨hc294, h107⟩ | ⟨hc294, h107⟩
           ·
            obtain ⟨x337, hx337, h107⟩ := bnd h107
            obtain ⟨x338, hx338, h107⟩ := bnd h107
            rcases ifs h107 with ⟨hc295, h107⟩ | ⟨hc295, h107⟩
            ·
             refine wp_draw (sps := [⟨some 115, [], [0], fun vs_ T_ => fr0 vs_ 0 = (Value.slice z6 m6 k6), [], [], [], fun _ h_ => h_⟩, ⟨some 116, [], [1], fun vs_ T_ => fr0 vs_ 0 = (Value.int .i64 ((i5 : Int))), [], [], [], fun _ h_ => h_⟩, ⟨some 117, [0, 1], [2], fun vs_ T_ => fr0 vs_ 0 = (elemPtr (Value.slice z6 m6 k6) ((i5 : Int)) (Enc.sz Int)), [0], [], [], fun _ h_ => h_⟩, ⟨some 118, [0, 1, 2], [3], fun vs_ T_ => fr0 vs_ 0 = (Value.int .i64 (x335)), [0], [], [], fun _ h_ => h_⟩, ⟨some 119, [], [4], fun vs_ T_ => fr0 vs_ 0 = (Value.int .i64 ((i6 : Int))), [], [], [], fun _ h_ => h_⟩, ⟨some 120, [0, 1, 2, 3, 4], [5], fun vs_ T_ => fr0 vs_ 0 = (Value.bool (x336)), [], [], [], fun _ h_ => h_⟩, ⟨some 121, [0, 1, 2, 3, 4, 5], [6], fun vs_ T_ => fr0 vs_ 0 = (Value.bool (x336)), [], [], [], fun _ h_ => h_⟩, ⟨some 122, [0, 1, 2, 3, 4, 5, 6], [7], fun vs_ T_ => fr0 vs_ 0 = (Value.slice z21 m21 k21), [], [], [], fun _ h_ => h_⟩, ⟨some 123, [0, 1, 2, 3, 4, 5, 6], [8], fun vs_ T_ => fr0 vs_ 0 = (Value.int .i64 ((i5 : Int))), [], [], [], fun _ h_ => h_⟩, ⟨some 124, [0, 1, 2, 3, 4, 5, 6, 7, 8], [9], fun vs_ T_ => fr0 vs_ 0 = (elemPtr (Value.slice z21 m21 k21) ((i5 : Int)) (Enc.sz Int)), [1], [], [], fun _ h_ => h_⟩, ⟨some 125, [0, 1, 2, 3, 4, 5, 6, 7, 8, 9], [10], fun vs_ T_ => fr0 vs_ 0 = (Value.int .i64 (x337)), [1], [], [], fun _ h_ => h_⟩, ⟨some 126, [0, 1, 2, 3, 4, 5, 6], [11], fun vs_ T_ => fr0 vs_ 0 = (Value.int .i64 ((i6 : Int))), [], [], [], fun _ h_ => h_⟩, ⟨some 127, [0, 1, 2, 3, 4, 5, 6, 7, 8, 9, 10, 11], [12], fun vs_ T_ => fr0 vs_ 0 = (Value.bool (x338)), [], [], [], fun _ h_ => h_⟩, ⟨some 128, [0, 1, 2, 3, 4, 5, 6, 7, 8, 9, 10, 11, 12], [13], fun vs_ T_ => fr0 vs_ 0 = (Value.bool (!x338)), [], [], [], fun _ h_ => h_⟩, ⟨some 129, [0, 1, 2, 3, 4, 5, 6, 7, 8, 9, 10, 11, 12, 13], [14], fun vs_ T_ => fr0 vs_ 0 = (Value.bool (!x338)), [], [], [], fun _ h_ => h_⟩, ⟨some 130, [0, 1, 2, 3, 4, 5, 6, 7, 8, 9, 10, 11, 12, 13, 14], [15], fun vs_ T_ => fr0 vs_ 0 = (Value.bool (!x338)), [], [], [], fun _ h_ => h_⟩, ⟨some 131, [0, 1, 2, 3, 4, 5, 6, 7, 8, 9, 10, 11, 12, 13, 14, 15], [16], fun vs_ T_ => fr0 vs_ 0 = undef, [], [], [], fun _ h_ => h_⟩, ⟨some 132, [0, 1, 2, 3, 4, 5, 6, 7, 8, 9, 10, 11, 12, 13, 14, 15, 16], [17], fun vs_ T_ => fr0 vs_ 0 = undef, [], [], [], fun _ h_ => h_⟩, ⟨some 133, [0, 1, 2, 3, 4, 5, 6, 7, 8, 9, 10, 11, 12, 13, 14, 15, 16, 17], [18], fun vs_ T_ => fr0 vs_ 0 = undef, [], [], [], fun _ h_ => h_⟩, ⟨some 134, [0, 1, 2, 3, 4, 5, 6, 7, 8, 9, 10, 11, 12, 13, 14, 15, 16, 17], [19], fun vs_ T_ => fr0 vs_ 0 = undef, [], [], [], fun _ h_ => h_⟩, ⟨some 135, [0, 1, 2, 3, 4, 5, 6, 7, 8, 9, 10, 11, 12, 13, 14, 15, 16, 17], [20], fun vs_ T_ => fr0 vs_ 0 = undef, [], [], [], fun _ h_ => h_⟩, ⟨some 136, [0, 1, 2, 3, 4, 5, 6, 7, 8, 9, 10, 11, 12, 13, 14, 15, 16, 17, 18, 19, 20], [21], fun vs_ T_ => fr0 vs_ 0 = undef, [], [], [], fun _ h_ => h_⟩, ⟨some 137, [0, 1, 2, 3, 4, 5, 6, 7, 8, 9, 10, 11, 12, 13, 14, 15, 16, 17, 18, 19, 20, 21], [22], fun vs_ T_ => fr0 vs_ 0 = undef, [], [], [], fun _ h_ => h_⟩, ⟨some 138, [0, 1, 2, 3, 4, 5, 6, 7, 8, 9, 10, 11, 12, 13, 14, 15, 16, 17, 18, 19, 20, 21, 22], [23], fun vs_ T_ => fr0 vs_ 0 = undef, [], [], [], fun _ h_ => h_⟩, ⟨some 139, [0, 1, 2, 3, 4, 5, 6, 7, 8, 9, 10, 11, 12, 13, 14, 15, 16, 17, 18, 19, 20, 21, 22, 23], [24], fun vs_ T_ => fr0 vs_ 0 = undef, [], [], [], fun _ h_ => h_⟩, ⟨some 140, [0, 1, 2, 3, 4, 5, 6, 7, 8, 9, 10, 11, 12, 13, 14, 15, 16, 17, 18, 19, 20, 21, 22, 23, 24], [25], fun vs_ T_ => fr0 vs_ 0 = undef, [], [], [], fun _ h_ => h_⟩, ⟨some 141, [0, 1, 2, 3, 4, 5, 6, 7, 8, 9, 10, 11, 12, 13, 14, 15, 16, 17, 18, 19, 20, 21, 22, 23, 24], [26], fun vs_ T_ => fr0 vs_ 0 = undef, [], [], [], fun _ h_ => h_⟩, ⟨some 142, [0, 1, 2, 3, 4, 5, 6, 7, 8, 9, 10, 11, 12, 13, 14, 15, 16, 17, 18, 19, 20, 21, 22, 23, 24, 25, 26], [27], fun vs_ T_ => fr0 vs_ 0 = undef, [], [], [], fun _ h_ => h_⟩, ⟨some 143, [0, 1, 2, 3, 4, 5, 6, 7, 8, 9, 10, 11, 12, 13, 14, 15, 16, 17, 18, 19, 20, 21, 22, 23, 24, 25, 26, 27], [28], fun vs_ T_ => fr0 vs_ 0 = undef, [], [], [], fun _ h_ => h_⟩, ⟨some 144, [0, 1, 2, 3, 4, 5, 6, 7, 8, 9, 10, 11, 12, 13, 14, 15, 16, 17, 18, 19, 20, 21, 22, 23, 24], [29], fun vs_ T_ => fr0 vs_ 0 = undef, [], [], [], fun _ h_ => h_⟩, ⟨some 145, [0, 1, 2, 3, 4, 5, 6, 7, 8, 9, 10, 11, 12, 13, 14, 15, 16, 17, 18, 19, 20, 21, 22, 23, 24, 25, 26, 27, 28, 29], [30], fun vs_ T_ => fr0 vs_ 0 = undef, [], [], [], fun _ h_ => h_⟩, ⟨some 146, [0, 1, 2, 3, 4, 5, 6, 7, 8, 9, 10, 11, 12, 13, 14, 15, 16, 17, 18, 19, 20, 21, 22, 23, 24], [31], fun vs_ T_ => fr0 vs_ 0 = undef, [], [], [], fun _ h_ => h_⟩, ⟨some 147, [0, 1, 2, 3, 4, 5, 6, 7, 8, 9, 10, 11, 12, 13, 14, 15, 16, 17, 18, 19, 20, 21, 22, 23, 24], [32], fun vs_ T_ => fr0 vs_ 0 = undef, [], [], [], fun _ h_ => h_⟩, ⟨some 148, [0, 1, 2, 3, 4, 5, 6, 7, 8, 9, 10, 11, 12, 13, 14, 15, 16, 17, 18, 19, 20, 21, 22, 23, 24, 31, 32], [33], fun vs_ T_ => fr0 vs_ 0 = undef, [], [], [], fun _ h_ => h_⟩, ⟨some 149, [0, 1, 2, 3, 4, 5, 6, 7, 8, 9, 10, 11, 12, 13, 14, 15, 16, 17, 18, 19, 20, 21, 22, 23, 24, 31, 32, 33], [34], fun vs_ T_ => fr0 vs_ 0 = undef, [], [], [], fun _ h_ => h_⟩, ⟨some 150, [0, 1, 2, 3, 4, 5, 6, 7, 8, 9, 10, 11, 12, 13, 14, 15, 16, 17, 18, 19, 20, 21, 22, 23, 24], [35], fun vs_ T_ => fr0 vs_ 0 = undef, [], [], [], fun _ h_ => h_⟩, ⟨some 151, [0, 1, 2, 3, 4, 5, 6, 7, 8, 9, 10, 11, 12, 13, 14, 15, 16, 17, 18, 19, 20, 21, 22, 23, 24, 25, 26, 27, 28, 29, 30, 31, 32, 33, 34, 35], [36], fun vs_ T_ => fr0 vs_ 0 = undef, [], [], [], fun _ h_ => h_⟩, ⟨some 152, [0, 1, 2, 3, 4, 5, 6, 7, 8, 9, 10, 11, 12, 13, 14, 15, 16, 17, 18, 19, 20, 21, 22, 23, 24, 25, 26, 27, 28, 29, 30, 31, 32, 33, 34, 35, 36], [37], fun vs_ T_ => fr0 vs_ 0 = undef, [], [], [], fun _ h_ => h_⟩, ⟨some 153, [0, 1, 2, 3, 4, 5, 6, 7, 8, 9, 10, 11, 12, 13, 14, 15, 16, 17, 18, 19, 20, 21, 22, 23, 24, 25, 26, 27, 28, 29, 30, 31, 32, 33, 34, 35, 36, 37], [38], fun vs_ T_ => fr0 vs_ 0 = undef, [], [], [], fun _ h_ => h_⟩, ⟨some 154, [0, 1, 2, 3, 4, 5, 6, 7, 8, 9, 10, 11, 12, 13, 14, 15, 16, 17, 18, 19, 20, 21, 22, 23, 24, 25, 26, 27, 28, 29, 30, 31, 32, 33, 34, 35, 36, 37, 38], [39], fun vs_ T_ => fr0 vs_ 0 = (Value.bool (true)), [], [], [], fun _ h_ => h_⟩]) (tks := [⟨none, none, [], fun vs_ => Row (α := Int) 3 (Value.slice z6 m6 k6) (x9.1)⟩, ⟨none, none, [], fun vs_ => Row (α := Int) 3 (Value.slice z21 m21 k21) (x23.1)⟩]) (O := Fr) rfl (by kernel_rfl) ((I5347.pull 1).pull 1) ⟨?_, ?_, ?_, ?_, ?_, ?_, ?_, ?_, ?_, ?_, ?_, ?_, ?_, ?_, ?_, ?_, ?_, ?_, ?_, ?_, ?_, ?_, ?_, ?_, ?_, ?_, ?_, ?_, ?_, ?_, ?_, ?_, ?_, ?_, ?_, ?_, ?_, ?_, ?_, ?_, trivial⟩ ?_
             ·
              intro vs4306 f w5283 S4331 X4201 le4331 hA4201 hK4306 hI4316
              have I5353 : Inv w5283 S4331 (X4201) := hI4316
              refine opg_plain rfl rfl (op_move (v := (Value.slice z6 m6 k6)) rfl ((hK4306 7 (keep_of rfl)).trans e1274) ?_)
              refine ⟨_, _, rfl, PH.Le.refl _, ?_, ?_⟩
              ·
               exact rfl
              ·
               exact I5353
             ·
              intro vs4307 f w5284 S4332 X4202 le4332 hA4202 hK4307 hI4317
              have I5354 : Inv w5284 S4332 (X4202) := hI4317
              refine opg_plain rfl rfl (op_move (v := (Value.int .i64 ((i5 : Int)))) rfl ((hK4307 13 (keep_of rfl)).trans e1276) ?_)
              refine ⟨_, _, rfl, PH.Le.refl _, ?_, ?_⟩
              ·
               exact rfl
              ·
               exact I5354
             ·
              intro vs4308 f w5285 S4333 X4203 le4333 hA4203 hK4308 hI4318
              have I5355 : Inv w5285 S4333 (Row (α := Int) 3 (Value.slice z6 m6 k6) (x9.1) :: X4203) := hI4318
              have q7351 : f 115 = (Value.slice z6 m6 k6) := vt (hA4203.at_ 0 rfl _ rfl) rfl
              have q7352 : f 116 = (Value.int .i64 ((i5 : Int))) := vt (hA4203.at_ 1 rfl _ rfl) rfl
              refine opg_plain rfl rfl (op_indexAddr_src (v := (Value.slice z6 m6 k6)) (i := (i5 : Int)) (e := x335) rfl Try.underlying34 sh3 q7351 (Inv.rowSrc (I5355.nth 0 rfl)) q7352 hx335 ?_)
              refine ⟨_, _, rfl, PH.Le.refl _, ?_, ?_⟩
              ·
               exact rfl
              ·
               exact I5355
             ·
              intro vs4309 f w5286 S4334 X4204 le4334 hA4204 hK4309 hI4319
              have I5356 : Inv w5286 S4334 (Row (α := Int) 3 (Value.slice z6 m6 k6) (x9.1) :: X4204) := hI4319
              have q7353 : f 117 = (elemPtr (Value.slice z6 m6 k6) ((i5 : Int)) (Enc.sz Int)) := vt (hA4204.at_ 2 rfl _ rfl) rfl
              refine opg_plain rfl rfl (op_load_int (v := (elemPtr (Value.slice z6 m6 k6) ((i5 : Int)) (Enc.sz Int))) (e := x335) rfl sh3 q7353 ((I5356.nth 0 rfl).rowElem hx335) ?_)
              refine ⟨_, _, rfl, PH.Le.refl _, ?_, ?_⟩
              ·
               exact rfl
              ·
               exact I5356
             ·
              intro vs4310 f w5287 S4335 X4205 le4335 hA4205 hK4310 hI4320
              have I5357 : Inv w5287 S4335 (X4205) := hI4320
              refine opg_plain rfl rfl (op_move (v := (Value.int .i64 ((i6 : Int)))) rfl ((hK4310 14 (keep_of rfl)).trans e1277) ?_)
              refine ⟨_, _, rfl, PH.Le.refl _, ?_, ?_⟩
              ·
               exact rfl
              ·
               exact I5357
             ·
              intro vs4311 f w5288 S4336 X4206 le4336 hA4206 hK4311 hI4321
              have I5358 : Inv w5288 S4336 (X4206) := hI4321
              have q7354 : f 118 = (Value.int .i64 (x335)) := vt (hA4206.at_ 3 rfl _ rfl) rfl
              have q7355 : f 119 = (Value.int .i64 ((i6 : Int))) := vt (hA4206.at_ 4 rfl _ rfl) rfl
              refine opg_plain rfl rfl (op_call_v (vs := [(Value.int .i64 (x335)), (Value.int .i64 ((i6 : Int)))]) (r := (Value.bool (x336))) rfl ca19 rfl (args2 q7354 q7355) I5358 (fun Fr_ hF_ => F19_ok hF_  hx336) (fun w5289 I5359 => ?_))
              refine ⟨_, _, rfl, PH.Le.refl _, ?_, ?_⟩
              ·
               exact rfl
              ·
               exact I5359
             ·
              intro vs4312 f w5290 S4337 X4207 le4337 hA4207 hK4312 hI4322
              have I5360 : Inv w5290 S4337 (X4207) := hI4322
              have q7356 : f 120 = (Value.bool (x336)) := vt (hA4207.at_ 5 rfl _ rfl) rfl
              refine opg_plain rfl rfl (op_move (v := (Value.bool (x336))) rfl q7356 ?_)
              refine ⟨_, _, rfl, PH.Le.refl _, ?_, ?_⟩
              ·
               exact rfl
              ·
               exact I5360
             ·
              intro vs4313 f w5291 S4338 X4208 le4338 hA4208 hK4313 hI4323
              have I5361 : Inv w5291 S4338 (X4208) := hI4323
              have q7357 : f 121 = (Value.bool (x336)) := vt (hA4208.at_ 6 rfl _ rfl) rfl
              refine opg_taken (c := x336) rfl rfl rfl rfl q7357 hc294 (op_move (v := (Value.slice z21 m21 k21)) rfl ((hK4313 11 (keep_of rfl)).trans e1275) ?_)
              refine ⟨_, _, rfl, PH.Le.refl _, ?_, ?_⟩
              ·
               exact rfl
              ·
               exact I5361
             ·
              intro vs4314 f w5292 S4339 X4209 le4339 hA4209 hK4314 hI4324
              have I5362 : Inv w5292 S4339 (X4209) := hI4324
              have q7358 : f 121 = (Value.bool (x336)) := vt (hA4209.at_ 6 rfl _ rfl) rfl
              refine opg_taken (c := x336) rfl rfl rfl rfl q7358 hc294 (op_move (v := (Value.int .i64 ((i5 : Int)))) rfl ((hK4314 13 (keep_of rfl)).trans e1276) ?_)
              refine ⟨_, _, rfl, PH.Le.refl _, ?_, ?_⟩
              ·
               exact rfl
              ·
               exact I5362
             ·
              intro vs4315 f w5293 S4340 X4210 le4340 hA4210 hK4315 hI4325
              have I5363 : Inv w5293 S4340 (Row (α := Int) 3 (Value.slice z21 m21 k21) (x23.1) :: X4210) := hI4325
              have q7359 : f 121 = (Value.bool (x336)) := vt (hA4210.at_ 6 rfl _ rfl) rfl
              have q7360 : f 122 = (Value.slice z21 m21 k21) := vt (hA4210.at_ 7 rfl _ rfl) rfl
              have q7361 : f 123 = (Value.int .i64 ((i5 : Int))) := vt (hA4210.at_ 8 rfl _ rfl) rfl
              refine opg_taken (c := x336) rfl rfl rfl rfl q7359 hc294 (op_indexAddr_src (v := (Value.slice z21 m21 k21)) (i := (i5 : Int)) (e := x337) rfl Try.underlying34 sh3 q7360 (Inv.rowSrc (I5363.nth 0 rfl)) q7361 hx337 ?_)
              refine ⟨_, _, rfl, PH.Le.refl _, ?_, ?_⟩
              ·
               exact rfl
              ·
               exact I5363
             ·
              intro vs4316 f w5294 S4341 X4211 le4341 hA4211 hK4316 hI4326
              have I5364 : Inv w5294 S4341 (Row (α := Int) 3 (Value.slice z21 m21 k21) (x23.1) :: X4211) := hI4326
              have q7362 : f 121 = (Value.bool (x336)) := vt (hA4211.at_ 6 rfl _ rfl) rfl
              have q7363 : f 124 = (elemPtr (Value.slice z21 m21 k21) ((i5 : Int)) (Enc.sz Int)) := vt (hA4211.at_ 9 rfl _ rfl) rfl
              refine opg_taken (c := x336) rfl rfl rfl rfl q7362 hc294 (op_load_int (v := (elemPtr (Value.slice z21 m21 k21) ((i5 : Int)) (Enc.sz Int))) (e := x337) rfl sh3 q7363 ((I5364.nth 0 rfl).rowElem hx337) ?_)
              refine ⟨_, _, rfl, PH.Le.refl _, ?_, ?_⟩
              ·
               exact rfl
              ·
               exact I5364
             ·
              intro vs4317 f w5295 S4342 X4212 le4342 hA4212 hK4317 hI4327
              have I5365 : Inv w5295 S4342 (X4212) := hI4327
              have q7364 : f 121 = (Value.bool (x336)) := vt (hA4212.at_ 6 rfl _ rfl) rfl
              refine opg_taken (c := x336) rfl rfl rfl rfl q7364 hc294 (op_move (v := (Value.int .i64 ((i6 : Int)))) rfl ((hK4317 14 (keep_of rfl)).trans e1277) ?_)
              refine ⟨_, _, rfl, PH.Le.refl _, ?_, ?_⟩
              ·
               exact rfl
              ·
               exact I5365
             ·
              intro vs4318 f w5296 S4343 X4213 le4343 hA4213 hK4318 hI4328
              have I5366 : Inv w5296 S4343 (X4213) := hI4328
              have q7365 : f 121 = (Value.bool (x336)) := vt (hA4213.at_ 6 rfl _ rfl) rfl
              have q7366 : f 125 = (Value.int .i64 (x337)) := vt (hA4213.at_ 10 rfl _ rfl) rfl
              have q7367 : f 126 = (Value.int .i64 ((i6 : Int))) := vt (hA4213.at_ 11 rfl _ rfl) rfl
              refine opg_taken (c := x336) rfl rfl rfl rfl q7365 hc294 (op_call_v (vs := [(Value.int .i64 (x337)), (Value.int .i64 ((i6 : Int)))]) (r := (Value.bool (x338))) rfl ca19 rfl (args2 q7366 q7367) I5366 (fun Fr_ hF_ => F19_ok hF_  hx338) (fun w5297 I5367 => ?_))
              refine ⟨_, _, rfl, PH.Le.refl _, ?_, ?_⟩
              ·
               exact rfl
              ·
               exact I5367
             ·
              intro vs4319 f w5298 S4344 X4214 le4344 hA4214 hK4319 hI4329
              have I5368 : Inv w5298 S4344 (X4214) := hI4329
              have q7368 : f 121 = (Value.bool (x336)) := vt (hA4214.at_ 6 rfl _ rfl) rfl
              have q7369 : f 127 = (Value.bool (x338)) := vt (hA4214.at_ 12 rfl _ rfl) rfl
              refine opg_taken (c := x336) rfl rfl rfl rfl q7368 hc294 (op_not (b := x338) rfl q7369 ?_)
              refine ⟨_, _, rfl, PH.Le.refl _, ?_, ?_⟩
              ·
               exact rfl
              ·
               exact I5368
             ·
              intro vs4320 f w5299 S4345 X4215 le4345 hA4215 hK4320 hI4330
              have I5369 : Inv w5299 S4345 (X4215) := hI4330
              have q7370 : f 121 = (Value.bool (x336)) := vt (hA4215.at_ 6 rfl _ rfl) rfl
              have q7371 : f 128 = (Value.bool (!x338)) := vt (hA4215.at_ 13 rfl _ rfl) rfl
              refine opg_plain rfl rfl (op_pick_t (c := x336) (a := (Value.bool (!x338))) rfl q7370 hc294 q7371 ?_)
              refine ⟨_, _, rfl, PH.Le.refl _, ?_, ?_⟩
              ·
               exact rfl
              ·
               exact I5369
             ·
              intro vs4321 f w5300 S4346 X4216 le4346 hA4216 hK4321 hI4331
              have I5370 : Inv w5300 S4346 (X4216) := hI4331
              have q7372 : f 129 = (Value.bool (!x338)) := vt (hA4216.at_ 14 rfl _ rfl) rfl
              refine opg_plain rfl rfl (op_move (v := (Value.bool (!x338))) rfl q7372 ?_)
              refine ⟨_, _, rfl, PH.Le.refl _, ?_, ?_⟩
              ·
               exact rfl
              ·
               exact I5370
             ·
              intro vs4322 f w5301 S4347 X4217 le4347 hA4217 hK4322 hI4332
              have I5371 : Inv w5301 S4347 (X4217) := hI4332
              have q7373 : f 130 = (Value.bool (!x338)) := vt (hA4217.at_ 15 rfl _ rfl) rfl
              exact opg_skip (c := !x338) rfl rfl rfl rfl q7373 hc295 rfl ⟨_, _, rfl, PH.Le.refl _, rfl, I5371⟩
             ·
              intro vs4323 f w5302 S4348 X4218 le4348 hA4218 hK4323 hI4333
              have I5372 : Inv w5302 S4348 (X4218) := hI4333
              have q7374 : f 130 = (Value.bool (!x338)) := vt (hA4218.at_ 15 rfl _ rfl) rfl
              have q7375 : f 131 = undef := vt (hA4218.at_ 16 rfl _ rfl) rfl
              exact opg_skip (c := !x338) rfl rfl rfl rfl q7374 hc295 rfl ⟨_, _, rfl, PH.Le.refl _, rfl, I5372⟩
             ·
              intro vs4324 f w5303 S4349 X4219 le4349 hA4219 hK4324 hI4334
              have I5373 : Inv w5303 S4349 (X4219) := hI4334
              have q7376 : f 132 = undef := vt (hA4219.at_ 17 rfl _ rfl) rfl
              exact opg_skip_u rfl rfl rfl rfl q7376 rfl ⟨_, _, rfl, PH.Le.refl _, rfl, I5373⟩
             ·
              intro vs4325 f w5304 S4350 X4220 le4350 hA4220 hK4325 hI4335
              have I5374 : Inv w5304 S4350 (X4220) := hI4335
              have q7377 : f 132 = undef := vt (hA4220.at_ 17 rfl _ rfl) rfl
              exact opg_skip_u rfl rfl rfl rfl q7377 rfl ⟨_, _, rfl, PH.Le.refl _, rfl, I5374⟩
             ·
              intro vs4326 f w5305 S4351 X4221 le4351 hA4221 hK4326 hI4336
              have I5375 : Inv w5305 S4351 (X4221) := hI4336
              have q7378 : f 132 = undef := vt (hA4221.at_ 17 rfl _ rfl) rfl
              exact opg_skip_u rfl rfl rfl rfl q7378 rfl ⟨_, _, rfl, PH.Le.refl _, rfl, I5375⟩
             ·
              intro vs4327 f w5306 S4352 X4222 le4352 hA4222 hK4327 hI4337
              have I5376 : Inv w5306 S4352 (X4222) := hI4337
              have q7379 : f 132 = undef := vt (hA4222.at_ 17 rfl _ rfl) rfl
              have q7380 : f 133 = undef := vt (hA4222.at_ 18 rfl _ rfl) rfl
              have q7381 : f 134 = undef := vt (hA4222.at_ 19 rfl _ rfl) rfl
              have q7382 : f 135 = undef := vt (hA4222.at_ 20 rfl _ rfl) rfl
              exact opg_skip_u rfl rfl rfl rfl q7379 rfl ⟨_, _, rfl, PH.Le.refl _, rfl, I5376⟩
             ·
              intro vs4328 f w5307 S4353 X4223 le4353 hA4223 hK4328 hI4338
              have I5377 : Inv w5307 S4353 (X4223) := hI4338
              have q7383 : f 132 = undef := vt (hA4223.at_ 17 rfl _ rfl) rfl
              have q7384 : f 136 = undef := vt (hA4223.at_ 21 rfl _ rfl) rfl
              exact opg_skip_u rfl rfl rfl rfl q7383 rfl ⟨_, _, rfl, PH.Le.refl _, rfl, I5377⟩
             ·
              intro vs4329 f w5308 S4354 X4224 le4354 hA4224 hK4329 hI4339
              have I5378 : Inv w5308 S4354 (X4224) := hI4339
              have q7385 : f 130 = (Value.bool (!x338)) := vt (hA4224.at_ 15 rfl _ rfl) rfl
              have q7386 : f 132 = undef := vt (hA4224.at_ 17 rfl _ rfl) rfl
              have q7387 : f 137 = undef := vt (hA4224.at_ 22 rfl _ rfl) rfl
              exact opg_skip (c := !x338) rfl rfl rfl rfl q7385 hc295 rfl ⟨_, _, rfl, PH.Le.refl _, rfl, I5378⟩
             ·
              intro vs4330 f w5309 S4355 X4225 le4355 hA4225 hK4330 hI4340
              have I5379 : Inv w5309 S4355 (X4225) := hI4340
              have q7388 : f 130 = (Value.bool (!x338)) := vt (hA4225.at_ 15 rfl _ rfl) rfl
              have q7389 : f 138 = undef := vt (hA4225.at_ 23 rfl _ rfl) rfl
              exact opg_skip (c := !x338) rfl rfl rfl rfl q7388 hc295 rfl ⟨_, _, rfl, PH.Le.refl _, rfl, I5379⟩
             ·
              intro vs4331 f w5310 S4356 X4226 le4356 hA4226 hK4331 hI4341
              have I5380 : Inv w5310 S4356 (X4226) := hI4341
              have q7390 : f 139 = undef := vt (hA4226.at_ 24 rfl _ rfl) rfl
              exact opg_skip_u rfl rfl rfl rfl q7390 rfl ⟨_, _, rfl, PH.Le.refl _, rfl, I5380⟩
             ·
              intro vs4332 f w5311 S4357 X4227 le4357 hA4227 hK4332 hI4342
              have I5381 : Inv w5311 S4357 (X4227) := hI4342
              have q7391 : f 139 = undef := vt (hA4227.at_ 24 rfl _ rfl) rfl
              exact opg_skip_u rfl rfl rfl rfl q7391 rfl ⟨_, _, rfl, PH.Le.refl _, rfl, I5381⟩
             ·
              intro vs4333 f w5312 S4358 X4228 le4358 hA4228 hK4333 hI4343
              have I5382 : Inv w5312 S4358 (X4228) := hI4343
              have q7392 : f 139 = undef := vt (hA4228.at_ 24 rfl _ rfl) rfl
              have q7393 : f 140 = undef := vt (hA4228.at_ 25 rfl _ rfl) rfl
              have q7394 : f 141 = undef := vt (hA4228.at_ 26 rfl _ rfl) rfl
              exact opg_skip_u rfl rfl rfl rfl q7392 rfl ⟨_, _, rfl, PH.Le.refl _, rfl, I5382⟩
             ·
              intro vs4334 f w5313 S4359 X4229 le4359 hA4229 hK4334 hI4344
              have I5383 : Inv w5313 S4359 (X4229) := hI4344
              have q7395 : f 139 = undef := vt (hA4229.at_ 24 rfl _ rfl) rfl
              have q7396 : f 142 = undef := vt (hA4229.at_ 27 rfl _ rfl) rfl
              exact opg_skip_u rfl rfl rfl rfl q7395 rfl ⟨_, _, rfl, PH.Le.refl _, rfl, I5383⟩
             ·
              intro vs4335 f w5314 S4360 X4230 le4360 hA4230 hK4335 hI4345
              have I5384 : Inv w5314 S4360 (X4230) := hI4345
              have q7397 : f 139 = undef := vt (hA4230.at_ 24 rfl _ rfl) rfl
              exact opg_skip_u rfl rfl rfl rfl q7397 rfl ⟨_, _, rfl, PH.Le.refl _, rfl, I5384⟩
             ·
              intro vs4336 f w5315 S4361 X4231 le4361 hA4231 hK4336 hI4346
              have I5385 : Inv w5315 S4361 (X4231) := hI4346
              have q7398 : f 139 = undef := vt (hA4231.at_ 24 rfl _ rfl) rfl
              have q7399 : f 143 = undef := vt (hA4231.at_ 28 rfl _ rfl) rfl
              have q7400 : f 144 = undef := vt (hA4231.at_ 29 rfl _ rfl) rfl
              exact opg_skip_u rfl rfl rfl rfl q7398 rfl ⟨_, _, rfl, PH.Le.refl _, rfl, I5385⟩
             ·
              intro vs4337 f w5316 S4362 X4232 le4362 hA4232 hK4337 hI4347
              have I5386 : Inv w5316 S4362 (X4232) := hI4347
              have q7401 : f 139 = undef := vt (hA4232.at_ 24 rfl _ rfl) rfl
              exact opg_skip_u rfl rfl rfl rfl q7401 rfl ⟨_, _, rfl, PH.Le.refl _, rfl, I5386⟩
             ·
              intro vs4338 f w5317 S4363 X4233 le4363 hA4233 hK4338 hI4348
              have I5387 : Inv w5317 S4363 (X4233) := hI4348
              have q7402 : f 139 = undef := vt (hA4233.at_ 24 rfl _ rfl) rfl
              exact opg_skip_u rfl rfl rfl rfl q7402 rfl ⟨_, _, rfl, PH.Le.refl _, rfl, I5387⟩
             ·
              intro vs4339 f w5318 S4364 X4234 le4364 hA4234 hK4339 hI4349
              have I5388 : Inv w5318 S4364 (X4234) := hI4349
              have q7403 : f 139 = undef := vt (hA4234.at_ 24 rfl _ rfl) rfl
              have q7404 : f 146 = undef := vt (hA4234.at_ 25 rfl _ rfl) rfl
              have q7405 : f 147 = undef := vt (hA4234.at_ 26 rfl _ rfl) rfl
              exact opg_skip_u rfl rfl rfl rfl q7403 rfl ⟨_, _, rfl, PH.Le.refl _, rfl, I5388⟩
             ·
              intro vs4340 f w5319 S4365 X4235 le4365 hA4235 hK4340 hI4350
              have I5389 : Inv w5319 S4365 (X4235) := hI4350
              have q7406 : f 139 = undef := vt (hA4235.at_ 24 rfl _ rfl) rfl
              have q7407 : f 148 = undef := vt (hA4235.at_ 27 rfl _ rfl) rfl
              exact opg_skip_u rfl rfl rfl rfl q7406 rfl ⟨_, _, rfl, PH.Le.refl _, rfl, I5389⟩
             ·
              intro vs4341 f w5320 S4366 X4236 le4366 hA4236 hK4341 hI4351
              have I5390 : Inv w5320 S4366 (X4236) := hI4351
              have q7408 : f 139 = undef := vt (hA4236.at_ 24 rfl _ rfl) rfl
              exact opg_skip_u rfl rfl rfl rfl q7408 rfl ⟨_, _, rfl, PH.Le.refl _, rfl, I5390⟩
             ·
              intro vs4342 f w5321 S4367 X4237 le4367 hA4237 hK4342 hI4352
              have I5391 : Inv w5321 S4367 (X4237) := hI4352
              have q7409 : f 139 = undef := vt (hA4237.at_ 24 rfl _ rfl) rfl
              have q7410 : f 149 = undef := vt (hA4237.at_ 34 rfl _ rfl) rfl
              have q7411 : f 150 = undef := vt (hA4237.at_ 35 rfl _ rfl) rfl
              exact opg_skip_u rfl rfl rfl rfl q7409 rfl ⟨_, _, rfl, PH.Le.refl _, rfl, I5391⟩
             ·
              intro vs4343 f w5322 S4368 X4238 le4368 hA4238 hK4343 hI4353
              have I5392 : Inv w5322 S4368 (X4238) := hI4353
              have q7412 : f 139 = undef := vt (hA4238.at_ 24 rfl _ rfl) rfl
              have q7413 : f 145 = undef := vt (hA4238.at_ 30 rfl _ rfl) rfl
              have q7414 : f 151 = undef := vt (hA4238.at_ 36 rfl _ rfl) rfl
              exact opg_skip_u rfl rfl rfl rfl q7412 rfl ⟨_, _, rfl, PH.Le.refl _, rfl, I5392⟩
             ·
              intro vs4344 f w5323 S4369 X4239 le4369 hA4239 hK4344 hI4354
              have I5393 : Inv w5323 S4369 (X4239) := hI4354
              have q7415 : f 130 = (Value.bool (!x338)) := vt (hA4239.at_ 15 rfl _ rfl) rfl
              have q7416 : f 139 = undef := vt (hA4239.at_ 24 rfl _ rfl) rfl
              have q7417 : f 152 = undef := vt (hA4239.at_ 37 rfl _ rfl) rfl
              exact opg_skip (c := !x338) rfl rfl rfl rfl q7415 hc295 rfl ⟨_, _, rfl, PH.Le.refl _, rfl, I5393⟩
             ·
              intro vs4345 f w5324 S4370 X4240 le4370 hA4240 hK4345 hI4355
              have I5394 : Inv w5324 S4370 (X4240) := hI4355
              have q7418 : f 130 = (Value.bool (!x338)) := vt (hA4240.at_ 15 rfl _ rfl) rfl
              have q7419 : f 153 = undef := vt (hA4240.at_ 38 rfl _ rfl) rfl
              refine opg_plain rfl rfl (op_pick_t (c := !x338) (a := (Value.bool (true))) rfl q7418 hc295 rfl ?_)
              refine ⟨_, _, rfl, PH.Le.refl _, ?_, ?_⟩
              ·
               exact rfl
              ·
               exact I5394
             ·
              intro vs4346 f w5325 S4371 le4371 hF106 hK4346 hI4356
              have e1279 : f 1 = (Value.int .i64 (a1)) := (hK4346 1 (keep_all rfl)).trans e1271
              have e1280 : f 2 = (Value.slice z2 m2 k2) := (hK4346 2 (keep_all rfl)).trans e1272
              have e1281 : f 3 = (Value.pointer (some ⟨g1, 0, none⟩)) := (hK4346 3 (keep_all rfl)).trans e1273
              have e1282 : f 7 = (Value.slice z6 m6 k6) := (hK4346 7 (keep_all rfl)).trans e1274
              have e1283 : f 11 = (Value.slice z21 m21 k21) := (hK4346 11 (keep_all rfl)).trans e1275
              have e1284 : f 13 = (Value.int .i64 ((i5 : Int))) := (hK4346 13 (keep_all rfl)).trans e1276
              have e1285 : f 14 = (Value.int .i64 ((i6 : Int))) := (hK4346 14 (keep_all rfl)).trans e1277
              have I5395 : Inv w5325 S4371 (Row (α := Int) 3 (Value.slice z6 m6 k6) (x9.1) :: Row (α := Int) 3 (Value.slice z21 m21 k21) (x23.1) :: Fr) := hI4356
              have q7420 : f 154 = (Value.bool (true)) := vt (hF106.at_ 39 rfl _ rfl) rfl
              refine wp_cond_t (b := true) q7420 rfl ?_
              refine wp_seq' ?_
              refine wp_region' ?_
              refine wl_op rfl (op_assign (v := (Value.bool (false))) rfl rfl ?_)
              refine wl_nil ?_
              refine wp_ret' ?_
              obtain rfl := Option.some.inj h107
              obtain rfl := (hout6 _ rfl)
              have h108 := h87
              obtain rfl := Option.some.inj h108
              obtain rfl := (hout5 _ rfl)
              have h88 := h
              obtain rfl := Option.some.inj h88
              exact ⟨(Value.bool (false)), (res1 rfl rfl), _, [], ((((le1.trans le2).trans le3466).trans le4330).trans le4371), ((I5395).drop).drop, rfl, rfl⟩
            ·
             rcases ifs h107 with ⟨hc296, h107⟩ | ⟨hc296, h107⟩
             ·
              refine wp_draw (sps := [⟨some 115, [], [0], fun vs_ T_ => fr0 vs_ 0 = (Value.slice z6 m6 k6), [], [], [], fun _ h_ => h_⟩, ⟨some 116, [], [1], fun vs_ T_ => fr0 vs_ 0 = (Value.int .i64 ((i5 : Int))), [], [], [], fun _ h_ => h_⟩, ⟨some 117, [0, 1], [2], fun vs_ T_ => fr0 vs_ 0 = (elemPtr (Value.slice z6 m6 k6) ((i5 : Int)) (Enc.sz Int)), [0], [], [], fun _ h_ => h_⟩, ⟨some 118, [0, 1, 2], [3], fun vs_ T_ => fr0 vs_ 0 = (Value.int .i64 (x335)), [0], [], [], fun _ h_ => h_⟩, ⟨some 119, [], [4], fun vs_ T_ => fr0 vs_ 0 = (Value.int .i64 ((i6 : Int))), [], [], [], fun _ h_ => h_⟩, ⟨some 120, [0, 1, 2, 3, 4], [5], fun vs_ T_ => fr0 vs_ 0 = (Value.bool (x336)), [], [], [], fun _ h_ => h_⟩, ⟨some 121, [0, 1, 2, 3, 4, 5], [6], fun vs_ T_ => fr0 vs_ 0 = (Value.bool (x336)), [], [], [], fun _ h_ => h_⟩, ⟨some 122, [0, 1, 2, 3, 4, 5, 6], [7], fun vs_ T_ => fr0 vs_ 0 = (Value.slice z21 m21 k21), [], [], [], fun _ h_ => h_⟩, ⟨some 123, [0, 1, 2, 3, 4, 5, 6], [8], fun vs_ T_ => fr0 vs_ 0 = (Value.int .i64 ((i5 : Int))), [], [], [], fun _ h_ => h_⟩, ⟨some 124, [0, 1, 2, 3, 4, 5, 6, 7, 8], [9], fun vs_ T_ => fr0 vs_ 0 = (elemPtr (Value.slice z21 m21 k21) ((i5 : Int)) (Enc.sz Int)), [1], [], [], fun _ h_ => h_⟩, ⟨some 125, [0, 1, 2, 3, 4, 5, 6, 7, 8, 9], [10], fun vs_ T_ => fr0 vs_ 0 = (Value.int .i64 (x337)), [1], [], [], fun _ h_ => h_⟩, ⟨some 126, [0, 1, 2, 3, 4, 5, 6], [11], fun vs_ T_ => fr0 vs_ 0 = (Value.int .i64 ((i6 : Int))), [], [], [], fun _ h_ => h_⟩, ⟨some 127, [0, 1, 2, 3, 4, 5, 6, 7, 8, 9, 10, 11], [12], fun vs_ T_ => fr0 vs_ 0 = (Value.bool (x338)), [], [], [], fun _ h_ => h_⟩, ⟨some 128, [0, 1, 2, 3, 4, 5, 6, 7, 8, 9, 10, 11, 12], [13], fun vs_ T_ => fr0 vs_ 0 = (Value.bool (!x338)), [], [], [], fun _ h_ => h_⟩, ⟨some 129, [0, 1, 2, 3, 4, 5, 6, 7, 8, 9, 10, 11, 12, 13], [14], fun vs_ T_ => fr0 vs_ 0 = (Value.bool (!x338)), [], [], [], fun _ h_ => h_⟩, ⟨some 130, [0, 1, 2, 3, 4, 5, 6, 7, 8, 9, 10, 11, 12, 13, 14], [15], fun vs_ T_ => fr0 vs_ 0 = (Value.bool (!x338)), [], [], [], fun _ h_ => h_⟩, ⟨some 131, [0, 1, 2, 3, 4, 5, 6, 7, 8, 9, 10, 11, 12, 13, 14, 15], [16], fun vs_ T_ => fr0 vs_ 0 = (Value.bool (v35)), [], [], [], fun _ h_ => h_⟩, ⟨some 132, [0, 1, 2, 3, 4, 5, 6, 7, 8, 9, 10, 11, 12, 13, 14, 15, 16], [17], fun vs_ T_ => fr0 vs_ 0 = (Value.bool (v35)), [], [], [], fun _ h_ => h_⟩, ⟨some 133, [0, 1, 2, 3, 4, 5, 6, 7, 8, 9, 10, 11, 12, 13, 14, 15, 16, 17], [18], fun vs_ T_ => fr0 vs_ 0 = undef, [], [], [], fun _ h_ => h_⟩, ⟨some 134, [0, 1, 2, 3, 4, 5, 6, 7, 8, 9, 10, 11, 12, 13, 14, 15, 16, 17], [19], fun vs_ T_ => fr0 vs_ 0 = undef, [], [], [], fun _ h_ => h_⟩, ⟨some 135, [0, 1, 2, 3, 4, 5, 6, 7, 8, 9, 10, 11, 12, 13, 14, 15, 16, 17], [20], fun vs_ T_ => fr0 vs_ 0 = undef, [], [], [], fun _ h_ => h_⟩, ⟨some 136, [0, 1, 2, 3, 4, 5, 6, 7, 8, 9, 10, 11, 12, 13, 14, 15, 16, 17, 18, 19, 20], [21], fun vs_ T_ => fr0 vs_ 0 = undef, [], [], [], fun _ h_ => h_⟩, ⟨some 137, [0, 1, 2, 3, 4, 5, 6, 7, 8, 9, 10, 11, 12, 13, 14, 15, 16, 17, 18, 19, 20, 21], [22], fun vs_ T_ => fr0 vs_ 0 = undef, [], [], [], fun _ h_ => h_⟩, ⟨some 138, [0, 1, 2, 3, 4, 5, 6, 7, 8, 9, 10, 11, 12, 13, 14, 15, 16, 17, 18, 19, 20, 21, 22], [23], fun vs_ T_ => fr0 vs_ 0 = (Value.bool (true)), [], [], [], fun _ h_ => h_⟩, ⟨some 139, [0, 1, 2, 3, 4, 5, 6, 7, 8, 9, 10, 11, 12, 13, 14, 15, 16, 17, 18, 19, 20, 21, 22, 23], [24], fun vs_ T_ => fr0 vs_ 0 = (Value.bool (true)), [], [], [], fun _ h_ => h_⟩, ⟨some 140, [0, 1, 2, 3, 4, 5, 6, 7, 8, 9, 10, 11, 12, 13, 14, 15, 16, 17, 18, 19, 20, 21, 22, 23, 24], [25], fun vs_ T_ => fr0 vs_ 0 = (Value.slice z6 m6 k6), [], [], [], fun _ h_ => h_⟩, ⟨some 141, [0, 1, 2, 3, 4, 5, 6, 7, 8, 9, 10, 11, 12, 13, 14, 15, 16, 17, 18, 19, 20, 21, 22, 23, 24], [26], fun vs_ T_ => fr0 vs_ 0 = (Value.int .i64 ((i5 : Int))), [], [], [], fun _ h_ => h_⟩, ⟨some 142, [0, 1, 2, 3, 4, 5, 6, 7, 8, 9, 10, 11, 12, 13, 14, 15, 16, 17, 18, 19, 20, 21, 22, 23, 24, 25, 26], [27], fun vs_ T_ => fr0 vs_ 0 = (elemPtr (Value.slice z6 m6 k6) ((i5 : Int)) (Enc.sz Int)), [0], [], [], fun _ h_ => h_⟩, ⟨some 143, [0, 1, 2, 3, 4, 5, 6, 7, 8, 9, 10, 11, 12, 13, 14, 15, 16, 17, 18, 19, 20, 21, 22, 23, 24, 25, 26, 27], [28], fun vs_ T_ => fr0 vs_ 0 = (Value.int .i64 (x335)), [0], [], [], fun _ h_ => h_⟩, ⟨some 144, [0, 1, 2, 3, 4, 5, 6, 7, 8, 9, 10, 11, 12, 13, 14, 15, 16, 17, 18, 19, 20, 21, 22, 23, 24], [29], fun vs_ T_ => fr0 vs_ 0 = (Value.int .i64 ((i6 : Int))), [], [], [], fun _ h_ => h_⟩, ⟨some 145, [0, 1, 2, 3, 4, 5, 6, 7, 8, 9, 10, 11, 12, 13, 14, 15, 16, 17, 18, 19, 20, 21, 22, 23, 24, 25, 26, 27, 28, 29], [30], fun vs_ T_ => fr0 vs_ 0 = (Value.bool (x336)), [], [], [], fun _ h_ => h_⟩, ⟨some 146, [0, 1, 2, 3, 4, 5, 6, 7, 8, 9, 10, 11, 12, 13, 14, 15, 16, 17, 18, 19, 20, 21, 22, 23, 24], [31], fun vs_ T_ => fr0 vs_ 0 = (Value.slice z21 m21 k21), [], [], [], fun _ h_ => h_⟩, ⟨some 147, [0, 1, 2, 3, 4, 5, 6, 7, 8, 9, 10, 11, 12, 13, 14, 15, 16, 17, 18, 19, 20, 21, 22, 23, 24], [32], fun vs_ T_ => fr0 vs_ 0 = (Value.int .i64 ((i5 : Int))), [], [], [], fun _ h_ => h_⟩, ⟨some 148, [0, 1, 2, 3, 4, 5, 6, 7, 8, 9, 10, 11, 12, 13, 14, 15, 16, 17, 18, 19, 20, 21, 22, 23, 24, 31, 32], [33], fun vs_ T_ => fr0 vs_ 0 = (elemPtr (Value.slice z21 m21 k21) ((i5 : Int)) (Enc.sz Int)), [1], [], [], fun _ h_ => h_⟩, ⟨some 149, [0, 1, 2, 3, 4, 5, 6, 7, 8, 9, 10, 11, 12, 13, 14, 15, 16, 17, 18, 19, 20, 21, 22, 23, 24, 31, 32, 33], [34], fun vs_ T_ => fr0 vs_ 0 = (Value.int .i64 (x337)), [1], [], [], fun _ h_ => h_⟩, ⟨some 150, [0, 1, 2, 3, 4, 5, 6, 7, 8, 9, 10, 11, 12, 13, 14, 15, 16, 17, 18, 19, 20, 21, 22, 23, 24], [35], fun vs_ T_ => fr0 vs_ 0 = (Value.int .i64 ((i6 : Int))), [], [], [], fun _ h_ => h_⟩, ⟨some 151, [0, 1, 2, 3, 4, 5, 6, 7, 8, 9, 10, 11, 12, 13, 14, 15, 16, 17, 18, 19, 20, 21, 22, 23, 24, 25, 26, 27, 28, 29, 30, 31, 32, 33, 34, 35], [36], fun vs_ T_ => fr0 vs_ 0 = (Value.bool (x338)), [], [], [], fun _ h_ => h_⟩, ⟨some 152, [0, 1, 2, 3, 4, 5, 6, 7, 8, 9, 10, 11, 12, 13, 14, 15, 16, 17, 18, 19, 20, 21, 22, 23, 24, 25, 26, 27, 28, 29, 30, 31, 32, 33, 34, 35, 36], [37], fun vs_ T_ => fr0 vs_ 0 = (Value.bool (x336 != x338)), [], [], [], fun _ h_ => h_⟩, ⟨some 153, [0, 1, 2, 3, 4, 5, 6, 7, 8, 9, 10, 11, 12, 13, 14, 15, 16, 17, 18, 19, 20, 21, 22, 23, 24, 25, 26, 27, 28, 29, 30, 31, 32, 33, 34, 35, 36, 37], [38], fun vs_ T_ => fr0 vs_ 0 = (Value.bool (x336 != x338)), [], [], [], fun _ h_ => h_⟩, ⟨some 154, [0, 1, 2, 3, 4, 5, 6, 7, 8, 9, 10, 11, 12, 13, 14, 15, 16, 17, 18, 19, 20, 21, 22, 23, 24, 25, 26, 27, 28, 29, 30, 31, 32, 33, 34, 35, 36, 37, 38], [39], fun vs_ T_ => fr0 vs_ 0 = (Value.bool (x336 != x338)), [], [], [], fun _ h_ => h_⟩]) (tks := [⟨none, none, [], fun vs_ => Row (α := Int) 3 (Value.slice z6 m6 k6) (x9.1)⟩, ⟨none, none, [], fun vs_ => Row (α := Int) 3 (Value.slice z21 m21 k21) (x23.1)⟩]) (O := Fr) rfl (by kernel_rfl) ((I5347.pull 1).pull 1) ⟨?_, ?_, ?_, ?_, ?_, ?_, ?_, ?_, ?_, ?_, ?_, ?_, ?_, ?_, ?_, ?_, ?_, ?_, ?_, ?_, ?_, ?_, ?_, ?_, ?_, ?_, ?_, ?_, ?_, ?_, ?_, ?_, ?_, ?_, ?_, ?_, ?_, ?_, ?_, ?_, trivial⟩ ?_
              ·
               intro vs4347 f w5332 S4372 X4241 le4372 hA4241 hK4347 hI4357
               have I5402 : Inv w5332 S4372 (X4241) := hI4357
               refine opg_plain rfl rfl (op_move (v := (Value.slice z6 m6 k6)) rfl ((hK4347 7 (keep_of rfl)).trans e1274) ?_)
               refine ⟨_, _, rfl, PH.Le.refl _, ?_, ?_⟩
               ·
                exact rfl
               ·
                exact I5402
              ·
               intro vs4348 f w5333 S4373 X4242 le4373 hA4242 hK4348 hI4358
               have I5403 : Inv w5333 S4373 (X4242) := hI4358
               refine opg_plain rfl rfl (op_move (v := (Value.int .i64 ((i5 : Int)))) rfl ((hK4348 13 (keep_of rfl)).trans e1276) ?_)
               refine ⟨_, _, rfl, PH.Le.refl _, ?_, ?_⟩
               ·
                exact rfl
               ·
                exact I5403
              ·
               intro vs4349 f w5334 S4374 X4243 le4374 hA4243 hK4349 hI4359
               have I5404 : Inv w5334 S4374 (Row (α := Int) 3 (Value.slice z6 m6 k6) (x9.1) :: X4243) := hI4359
               have q7421 : f 115 = (Value.slice z6 m6 k6) := vt (hA4243.at_ 0 rfl _ rfl) rfl
               have q7422 : f 116 = (Value.int .i64 ((i5 : Int))) := vt (hA4243.at_ 1 rfl _ rfl) rfl
               refine opg_plain rfl rfl (op_indexAddr_src (v := (Value.slice z6 m6 k6)) (i := (i5 : Int)) (e := x335) rfl Try.underlying34 sh3 q7421 (Inv.rowSrc (I5404.nth 0 rfl)) q7422 hx335 ?_)
               refine ⟨_, _, rfl, PH.Le.refl _, ?_, ?_⟩
               ·
                exact rfl
               ·
                exact I5404
              ·
               intro vs4350 f w5335 S4375 X4244 le4375 hA4244 hK4350 hI4360
               have I5405 : Inv w5335 S4375 (Row (α := Int) 3 (Value.slice z6 m6 k6) (x9.1) :: X4244) := hI4360
               have q7423 : f 117 = (elemPtr (Value.slice z6 m6 k6) ((i5 : Int)) (Enc.sz Int)) := vt (hA4244.at_ 2 rfl _ rfl) rfl
               refine opg_plain rfl rfl (op_load_int (v := (elemPtr (Value.slice z6 m6 k6) ((i5 : Int)) (Enc.sz Int))) (e := x335) rfl sh3 q7423 ((I5405.nth 0 rfl).rowElem hx335) ?_)
               refine ⟨_, _, rfl, PH.Le.refl _, ?_, ?_⟩
               ·
                exact rfl
               ·
                exact I5405
              ·
               intro vs4351 f w5336 S4376 X4245 le4376 hA4245 hK4351 hI4361
               have I5406 : Inv w5336 S4376 (X4245) := hI4361
               refine opg_plain rfl rfl (op_move (v := (Value.int .i64 ((i6 : Int)))) rfl ((hK4351 14 (keep_of rfl)).trans e1277) ?_)
               refine ⟨_, _, rfl, PH.Le.refl _, ?_, ?_⟩
               ·
                exact rfl
               ·
                exact I5406
              ·
               intro vs4352 f w5337 S4377 X4246 le4377 hA4246 hK4352 hI4362
               have I5407 : Inv w5337 S4377 (X4246) := hI4362
               have q7424 : f 118 = (Value.int .i64 (x335)) := vt (hA4246.at_ 3 rfl _ rfl) rfl
               have q7425 : f 119 = (Value.int .i64 ((i6 : Int))) := vt (hA4246.at_ 4 rfl _ rfl) rfl
               refine opg_plain rfl rfl (op_call_v (vs := [(Value.int .i64 (x335)), (Value.int .i64 ((i6 : Int)))]) (r := (Value.bool (x336))) rfl ca19 rfl (args2 q7424 q7425) I5407 (fun Fr_ hF_ => F19_ok hF_  hx336) (fun w5338 I5408 => ?_))
               refine ⟨_, _, rfl, PH.Le.refl _, ?_, ?_⟩
               ·
                exact rfl
               ·
                exact I5408
              ·
               intro vs4353 f w5339 S4378 X4247 le4378 hA4247 hK4353 hI4363
               have I5409 : Inv w5339 S4378 (X4247) := hI4363
               have q7426 : f 120 = (Value.bool (x336)) := vt (hA4247.at_ 5 rfl _ rfl) rfl
               refine opg_plain rfl rfl (op_move (v := (Value.bool (x336))) rfl q7426 ?_)
               refine ⟨_, _, rfl, PH.Le.refl _, ?_, ?_⟩
               ·
                exact rfl
               ·
                exact I5409
              ·
               intro vs4354 f w5340 S4379 X4248 le4379 hA4248 hK4354 hI4364
               have I5410 : Inv w5340 S4379 (X4248) := hI4364
               have q7427 : f 121 = (Value.bool (x336)) := vt (hA4248.at_ 6 rfl _ rfl) rfl
               refine opg_taken (c := x336) rfl rfl rfl rfl q7427 hc294 (op_move (v := (Value.slice z21 m21 k21)) rfl ((hK4354 11 (keep_of rfl)).trans e1275) ?_)
               refine ⟨_, _, rfl, PH.Le.refl _, ?_, ?_⟩
               ·
                exact rfl
               ·
                exact I5410
              ·
               intro vs4355 f w5341 S4380 X4249 le4380 hA4249 hK4355 hI4365
               have I5411 : Inv w5341 S4380 (X4249) := hI4365
               have q7428 : f 121 = (Value.bool (x336)) := vt (hA4249.at_ 6 rfl _ rfl) rfl
               refine opg_taken (c := x336) rfl rfl rfl rfl q7428 hc294 (op_move (v := (Value.int .i64 ((i5 : Int)))) rfl ((hK4355 13 (keep_of rfl)).trans e1276) ?_)
               refine ⟨_, _, rfl, PH.Le.refl _, ?_, ?_⟩
               ·
                exact rfl
               ·
                exact I5411
              ·
               intro vs4356 f w5342 S4381 X4250 le4381 hA4250 hK4356 hI4366
               have I5412 : Inv w5342 S4381 (Row (α := Int) 3 (Value.slice z21 m21 k21) (x23.1) :: X4250) := hI4366
               have q7429 : f 121 = (Value.bool (x336)) := vt (hA4250.at_ 6 rfl _ rfl) rfl
               have q7430 : f 122 = (Value.slice z21 m21 k21) := vt (hA4250.at_ 7 rfl _ rfl) rfl
               have q7431 : f 123 = (Value.int .i64 ((i5 : Int))) := vt (hA4250.at_ 8 rfl _ rfl) rfl
               refine opg_taken (c := x336) rfl rfl rfl rfl q7429 hc294 (op_indexAddr_src (v := (Value.slice z21 m21 k21)) (i := (i5 : Int)) (e := x337) rfl Try.underlying34 sh3 q7430 (Inv.rowSrc (I5412.nth 0 rfl)) q7431 hx337 ?_)
               refine ⟨_, _, rfl, PH.Le.refl _, ?_, ?_⟩
               ·
                exact rfl
               ·
                exact I5412
              ·
               intro vs4357 f w5343 S4382 X4251 le4382 hA4251 hK4357 hI4367
               have I5413 : Inv w5343 S4382 (Row (α := Int) 3 (Value.slice z21 m21 k21) (x23.1) :: X4251) := hI4367
               have q7432 : f 121 = (Value.bool (x336)) := vt (hA4251.at_ 6 rfl _ rfl) rfl
               have q7433 : f 124 = (elemPtr (Value.slice z21 m21 k21) ((i5 : Int)) (Enc.sz Int)) := vt (hA4251.at_ 9 rfl _ rfl) rfl
               refine opg_taken (c := x336) rfl rfl rfl rfl q7432 hc294 (op_load_int (v := (elemPtr (Value.slice z21 m21 k21) ((i5 : Int)) (Enc.sz Int))) (e := x337) rfl sh3 q7433 ((I5413.nth 0 rfl).rowElem hx337) ?_)
               refine ⟨_, _, rfl, PH.Le.refl _, ?_, ?_⟩
               ·
                exact rfl
               ·
                exact I5413
              ·
               intro vs4358 f w5344 S4383 X4252 le4383 hA4252 hK4358 hI4368
               have I5414 : Inv w5344 S4383 (X4252) := hI4368
               have q7434 : f 121 = (Value.bool (x336)) := vt (hA4252.at_ 6 rfl _ rfl) rfl
               refine opg_taken (c := x336) rfl rfl rfl rfl q7434 hc294 (op_move (v := (Value.int .i64 ((i6 : Int)))) rfl ((hK4358 14 (keep_of rfl)).trans e1277) ?_)
               refine ⟨_, _, rfl, PH.Le.refl _, ?_, ?_⟩
               ·
                exact rfl
               ·
                exact I5414
              ·
               intro vs4359 f w5345 S4384 X4253 le4384 hA4253 hK4359 hI4369
               have I5415 : Inv w5345 S4384 (X4253) := hI4369
               have q7435 : f 121 = (Value.bool (x336)) := vt (hA4253.at_ 6 rfl _ rfl) rfl
               have q7436 : f 125 = (Value.int .i64 (x337)) := vt (hA4253.at_ 10 rfl _ rfl) rfl
               have q7437 : f 126 = (Value.int .i64 ((i6 : Int))) := vt (hA4253.at_ 11 rfl _ rfl) rfl
               refine opg_taken (c := x336) rfl rfl rfl rfl q7435 hc294 (op_call_v (vs := [(Value.int .i64 (x337)), (Value.int .i64 ((i6 : Int)))]) (r := (Value.bool (x338))) rfl ca19 rfl (args2 q7436 q7437) I5415 (fun Fr_ hF_ => F19_ok hF_  hx338) (fun w5346 I5416 => ?_))
               refine ⟨_, _, rfl, PH.Le.refl _, ?_, ?_⟩
               ·
                exact rfl
               ·
                exact I5416
              ·
               intro vs4360 f w5347 S4385 X4254 le4385 hA4254 hK4360 hI4370
               have I5417 : Inv w5347 S4385 (X4254) := hI4370
               have q7438 : f 121 = (Value.bool (x336)) := vt (hA4254.at_ 6 rfl _ rfl) rfl
               have q7439 : f 127 = (Value.bool (x338)) := vt (hA4254.at_ 12 rfl _ rfl) rfl
               refine opg_taken (c := x336) rfl rfl rfl rfl q7438 hc294 (op_not (b := x338) rfl q7439 ?_)
               refine ⟨_, _, rfl, PH.Le.refl _, ?_, ?_⟩
               ·
                exact rfl
               ·
                exact I5417
              ·
               intro vs4361 f w5348 S4386 X4255 le4386 hA4255 hK4361 hI4371
               have I5418 : Inv w5348 S4386 (X4255) := hI4371
               have q7440 : f 121 = (Value.bool (x336)) := vt (hA4255.at_ 6 rfl _ rfl) rfl
               have q7441 : f 128 = (Value.bool (!x338)) := vt (hA4255.at_ 13 rfl _ rfl) rfl
               refine opg_plain rfl rfl (op_pick_t (c := x336) (a := (Value.bool (!x338))) rfl q7440 hc294 q7441 ?_)
               refine ⟨_, _, rfl, PH.Le.refl _, ?_, ?_⟩
               ·
                exact rfl
               ·
                exact I5418
              ·
               intro vs4362 f w5349 S4387 X4256 le4387 hA4256 hK4362 hI4372
               have I5419 : Inv w5349 S4387 (X4256) := hI4372
               have q7442 : f 129 = (Value.bool (!x338)) := vt (hA4256.at_ 14 rfl _ rfl) rfl
               refine opg_plain rfl rfl (op_move (v := (Value.bool (!x338))) rfl q7442 ?_)
               refine ⟨_, _, rfl, PH.Le.refl _, ?_, ?_⟩
               ·
                exact rfl
               ·
                exact I5419
              ·
               intro vs4363 f w5350 S4388 X4257 le4388 hA4257 hK4363 hI4373
               have I5420 : Inv w5350 S4388 (X4257) := hI4373
               have q7443 : f 130 = (Value.bool (!x338)) := vt (hA4257.at_ 15 rfl _ rfl) rfl
               refine opg_taken (c := !x338) rfl rfl rfl rfl q7443 hc295 (op_move (v := (Value.bool (v35))) rfl ((hK4363 15 (keep_of rfl)).trans e1278) ?_)
               refine ⟨_, _, rfl, PH.Le.refl _, ?_, ?_⟩
               ·
                exact rfl
               ·
                exact I5420
              ·
               intro vs4364 f w5351 S4389 X4258 le4389 hA4258 hK4364 hI4374
               have I5421 : Inv w5351 S4389 (X4258) := hI4374
               have q7444 : f 130 = (Value.bool (!x338)) := vt (hA4258.at_ 15 rfl _ rfl) rfl
               have q7445 : f 131 = (Value.bool (v35)) := vt (hA4258.at_ 16 rfl _ rfl) rfl
               refine opg_taken (c := !x338) rfl rfl rfl rfl q7444 hc295 (op_move (v := (Value.bool (v35))) rfl q7445 ?_)
               refine ⟨_, _, rfl, PH.Le.refl _, ?_, ?_⟩
               ·
                exact rfl
               ·
                exact I5421
              ·
               intro vs4365 f w5352 S4390 X4259 le4390 hA4259 hK4365 hI4375
               have I5422 : Inv w5352 S4390 (X4259) := hI4375
               have q7446 : f 132 = (Value.bool (v35)) := vt (hA4259.at_ 17 rfl _ rfl) rfl
               exact opg_skip (c := v35) rfl rfl rfl rfl q7446 hc296 rfl ⟨_, _, rfl, PH.Le.refl _, rfl, I5422⟩
              ·
               intro vs4366 f w5353 S4391 X4260 le4391 hA4260 hK4366 hI4376
               have I5423 : Inv w5353 S4391 (X4260) := hI4376
               have q7447 : f 132 = (Value.bool (v35)) := vt (hA4260.at_ 17 rfl _ rfl) rfl
               exact opg_skip (c := v35) rfl rfl rfl rfl q7447 hc296 rfl ⟨_, _, rfl, PH.Le.refl _, rfl, I5423⟩
              ·
               intro vs4367 f w5354 S4392 X4261 le4392 hA4261 hK4367 hI4377
               have I5424 : Inv w5354 S4392 (X4261) := hI4377
               have q7448 : f 132 = (Value.bool (v35)) := vt (hA4261.at_ 17 rfl _ rfl) rfl
               exact opg_skip (c := v35) rfl rfl rfl rfl q7448 hc296 rfl ⟨_, _, rfl, PH.Le.refl _, rfl, I5424⟩
              ·
               intro vs4368 f w5355 S4393 X4262 le4393 hA4262 hK4368 hI4378
               have I5425 : Inv w5355 S4393 (X4262) := hI4378
               have q7449 : f 132 = (Value.bool (v35)) := vt (hA4262.at_ 17 rfl _ rfl) rfl
               have q7450 : f 133 = undef := vt (hA4262.at_ 18 rfl _ rfl) rfl
               have q7451 : f 134 = undef := vt (hA4262.at_ 19 rfl _ rfl) rfl
               have q7452 : f 135 = undef := vt (hA4262.at_ 20 rfl _ rfl) rfl
               exact opg_skip (c := v35) rfl rfl rfl rfl q7449 hc296 rfl ⟨_, _, rfl, PH.Le.refl _, rfl, I5425⟩
              ·
               intro vs4369 f w5356 S4394 X4263 le4394 hA4263 hK4369 hI4379
               have I5426 : Inv w5356 S4394 (X4263) := hI4379
               have q7453 : f 132 = (Value.bool (v35)) := vt (hA4263.at_ 17 rfl _ rfl) rfl
               have q7454 : f 136 = undef := vt (hA4263.at_ 21 rfl _ rfl) rfl
               exact opg_skip (c := v35) rfl rfl rfl rfl q7453 hc296 rfl ⟨_, _, rfl, PH.Le.refl _, rfl, I5426⟩
              ·
               intro vs4370 f w5357 S4395 X4264 le4395 hA4264 hK4370 hI4380
               have I5427 : Inv w5357 S4395 (X4264) := hI4380
               have q7455 : f 130 = (Value.bool (!x338)) := vt (hA4264.at_ 15 rfl _ rfl) rfl
               have q7456 : f 132 = (Value.bool (v35)) := vt (hA4264.at_ 17 rfl _ rfl) rfl
               have q7457 : f 137 = undef := vt (hA4264.at_ 22 rfl _ rfl) rfl
               refine opg_taken (c := !x338) rfl rfl rfl rfl q7455 hc295 (op_pick_t (c := v35) (a := (Value.bool (true))) rfl q7456 hc296 rfl ?_)
               refine ⟨_, _, rfl, PH.Le.refl _, ?_, ?_⟩
               ·
                exact rfl
               ·
                exact I5427
              ·
               intro vs4371 f w5358 S4396 X4265 le4396 hA4265 hK4371 hI4381
               have I5428 : Inv w5358 S4396 (X4265) := hI4381
               have q7458 : f 130 = (Value.bool (!x338)) := vt (hA4265.at_ 15 rfl _ rfl) rfl
               have q7459 : f 138 = (Value.bool (true)) := vt (hA4265.at_ 23 rfl _ rfl) rfl
               refine opg_taken (c := !x338) rfl rfl rfl rfl q7458 hc295 (op_move (v := (Value.bool (true))) rfl q7459 ?_)
               refine ⟨_, _, rfl, PH.Le.refl _, ?_, ?_⟩
               ·
                exact rfl
               ·
                exact I5428
              ·
               intro vs4372 f w5359 S4397 X4266 le4397 hA4266 hK4372 hI4382
               have I5429 : Inv w5359 S4397 (X4266) := hI4382
               have q7460 : f 139 = (Value.bool (true)) := vt (hA4266.at_ 24 rfl _ rfl) rfl
               refine opg_taken (c := true) rfl rfl rfl rfl q7460 rfl (op_move (v := (Value.slice z6 m6 k6)) rfl ((hK4372 7 (keep_of rfl)).trans e1274) ?_)
               refine ⟨_, _, rfl, PH.Le.refl _, ?_, ?_⟩
               ·
                exact rfl
               ·
                exact I5429
              ·
               intro vs4373 f w5360 S4398 X4267 le4398 hA4267 hK4373 hI4383
               have I5430 : Inv w5360 S4398 (X4267) := hI4383
               have q7461 : f 139 = (Value.bool (true)) := vt (hA4267.at_ 24 rfl _ rfl) rfl
               refine opg_taken (c := true) rfl rfl rfl rfl q7461 rfl (op_move (v := (Value.int .i64 ((i5 : Int)))) rfl ((hK4373 13 (keep_of rfl)).trans e1276) ?_)
               refine ⟨_, _, rfl, PH.Le.refl _, ?_, ?_⟩
               ·
                exact rfl
               ·
                exact I5430
              ·
               intro vs4374 f w5361 S4399 X4268 le4399 hA4268 hK4374 hI4384
               have I5431 : Inv w5361 S4399 (Row (α := Int) 3 (Value.slice z6 m6 k6) (x9.1) :: X4268) := hI4384
               have q7462 : f 139 = (Value.bool (true)) := vt (hA4268.at_ 24 rfl _ rfl) rfl
               have q7463 : f 140 = (Value.slice z6 m6 k6) := vt (hA4268.at_ 25 rfl _ rfl) rfl
               have q7464 : f 141 = (Value.int .i64 ((i5 : Int))) := vt (hA4268.at_ 26 rfl _ rfl) rfl
               refine opg_taken (c := true) rfl rfl rfl rfl q7462 rfl (op_indexAddr_src (v := (Value.slice z6 m6 k6)) (i := (i5 : Int)) (e := x335) rfl Try.underlying34 sh3 q7463 (Inv.rowSrc (I5431.nth 0 rfl)) q7464 hx335 ?_)
               refine ⟨_, _, rfl, PH.Le.refl _, ?_, ?_⟩
               ·
                exact rfl
               ·
                exact I5431
              ·
               intro vs4375 f w5362 S4400 X4269 le4400 hA4269 hK4375 hI4385
               have I5432 : Inv w5362 S4400 (Row (α := Int) 3 (Value.slice z6 m6 k6) (x9.1) :: X4269) := hI4385
               have q7465 : f 139 = (Value.bool (true)) := vt (hA4269.at_ 24 rfl _ rfl) rfl
               have q7466 : f 142 = (elemPtr (Value.slice z6 m6 k6) ((i5 : Int)) (Enc.sz Int)) := vt (hA4269.at_ 27 rfl _ rfl) rfl
               refine opg_taken (c := true) rfl rfl rfl rfl q7465 rfl (op_load_int (v := (elemPtr (Value.slice z6 m6 k6) ((i5 : Int)) (Enc.sz Int))) (e := x335) rfl sh3 q7466 ((I5432.nth 0 rfl).rowElem hx335) ?_)
               refine ⟨_, _, rfl, PH.Le.refl _, ?_, ?_⟩
               ·
                exact rfl
               ·
                exact I5432
              ·
               intro vs4376 f w5363 S4401 X4270 le4401 hA4270 hK4376 hI4386
               have I5433 : Inv w5363 S4401 (X4270) := hI4386
               have q7467 : f 139 = (Value.bool (true)) := vt (hA4270.at_ 24 rfl _ rfl) rfl
               refine opg_taken (c := true) rfl rfl rfl rfl q7467 rfl (op_move (v := (Value.int .i64 ((i6 : Int)))) rfl ((hK4376 14 (keep_of rfl)).trans e1277) ?_)
               refine ⟨_, _, rfl, PH.Le.refl _, ?_, ?_⟩
               ·
                exact rfl
               ·
                exact I5433
              ·
               intro vs4377 f w5364 S4402 X4271 le4402 hA4271 hK4377 hI4387
               have I5434 : Inv w5364 S4402 (X4271) := hI4387
               have q7468 : f 139 = (Value.bool (true)) := vt (hA4271.at_ 24 rfl _ rfl) rfl
               have q7469 : f 143 = (Value.int .i64 (x335)) := vt (hA4271.at_ 28 rfl _ rfl) rfl
               have q7470 : f 144 = (Value.int .i64 ((i6 : Int))) := vt (hA4271.at_ 29 rfl _ rfl) rfl
               refine opg_taken (c := true) rfl rfl rfl rfl q7468 rfl (op_call_v (vs := [(Value.int .i64 (x335)), (Value.int .i64 ((i6 : Int)))]) (r := (Value.bool (x336))) rfl ca19 rfl (args2 q7469 q7470) I5434 (fun Fr_ hF_ => F19_ok hF_  hx336) (fun w5365 I5435 => ?_))
               refine ⟨_, _, rfl, PH.Le.refl _, ?_, ?_⟩
               ·
                exact rfl
               ·
                exact I5435
              ·
               intro vs4378 f w5366 S4403 X4272 le4403 hA4272 hK4378 hI4388
               have I5436 : Inv w5366 S4403 (X4272) := hI4388
               have q7471 : f 139 = (Value.bool (true)) := vt (hA4272.at_ 24 rfl _ rfl) rfl
               refine opg_taken (c := true) rfl rfl rfl rfl q7471 rfl (op_move (v := (Value.slice z21 m21 k21)) rfl ((hK4378 11 (keep_of rfl)).trans e1275) ?_)
               refine ⟨_, _, rfl, PH.Le.refl _, ?_, ?_⟩
               ·
                exact rfl
               ·
                exact I5436
              ·
               intro vs4379 f w5367 S4404 X4273 le4404 hA4273 hK4379 hI4389
               have I5437 : Inv w5367 S4404 (X4273) := hI4389
               have q7472 : f 139 = (Value.bool (true)) := vt (hA4273.at_ 24 rfl _ rfl) rfl
               refine opg_taken (c := true) rfl rfl rfl rfl q7472 rfl (op_move (v := (Value.int .i64 ((i5 : Int)))) rfl ((hK4379 13 (keep_of rfl)).trans e1276) ?_)
               refine ⟨_, _, rfl, PH.Le.refl _, ?_, ?_⟩
               ·
                exact rfl
               ·
                exact I5437
              ·
               intro vs4380 f w5368 S4405 X4274 le4405 hA4274 hK4380 hI4390
               have I5438 : Inv w5368 S4405 (Row (α := Int) 3 (Value.slice z21 m21 k21) (x23.1) :: X4274) := hI4390
               have q7473 : f 139 = (Value.bool (true)) := vt (hA4274.at_ 24 rfl _ rfl) rfl
               have q7474 : f 146 = (Value.slice z21 m21 k21) := vt (hA4274.at_ 25 rfl _ rfl) rfl
               have q7475 : f 147 = (Value.int .i64 ((i5 : Int))) := vt (hA4274.at_ 26 rfl _ rfl) rfl
               refine opg_taken (c := true) rfl rfl rfl rfl q7473 rfl (op_indexAddr_src (v := (Value.slice z21 m21 k21)) (i := (i5 : Int)) (e := x337) rfl Try.underlying34 sh3 q7474 (Inv.rowSrc (I5438.nth 0 rfl)) q7475 hx337 ?_)
               refine ⟨_, _, rfl, PH.Le.refl _, ?_, ?_⟩
               ·
                exact rfl
               ·
                exact I5438
              ·
               intro vs4381 f w5369 S4406 X4275 le4406 hA4275 hK4381 hI4391
               have I5439 : Inv w5369 S4406 (Row (α := Int) 3 (Value.slice z21 m21 k21) (x23.1) :: X4275) := hI4391
               have q7476 : f 139 = (Value.bool (true)) := vt (hA4275.at_ 24 rfl _ rfl) rfl
               have q7477 : f 148 = (elemPtr (Value.slice z21 m21 k21) ((i5 : Int)) (Enc.sz Int)) := vt (hA4275.at_ 27 rfl _ rfl) rfl
               refine opg_taken (c := true) rfl rfl rfl rfl q7476 rfl (op_load_int (v := (elemPtr (Value.slice z21 m21 k21) ((i5 : Int)) (Enc.sz Int))) (e := x337) rfl sh3 q7477 ((I5439.nth 0 rfl).rowElem hx337) ?_)
               refine ⟨_, _, rfl, PH.Le.refl _, ?_, ?_⟩
               ·
                exact rfl
               ·
                exact I5439
              ·
               intro vs4382 f w5370 S4407 X4276 le4407 hA4276 hK4382 hI4392
               have I5440 : Inv w5370 S4407 (X4276) := hI4392
               have q7478 : f 139 = (Value.bool (true)) := vt (hA4276.at_ 24 rfl _ rfl) rfl
               refine opg_taken (c := true) rfl rfl rfl rfl q7478 rfl (op_move (v := (Value.int .i64 ((i6 : Int)))) rfl ((hK4382 14 (keep_of rfl)).trans e1277) ?_)
               refine ⟨_, _, rfl, PH.Le.refl _, ?_, ?_⟩
               ·
                exact rfl
               ·
                exact I5440
              ·
               intro vs4383 f w5371 S4408 X4277 le4408 hA4277 hK4383 hI4393
               have I5441 : Inv w5371 S4408 (X4277) := hI4393
               have q7479 : f 139 = (Value.bool (true)) := vt (hA4277.at_ 24 rfl _ rfl) rfl
               have q7480 : f 149 = (Value.int .i64 (x337)) := vt (hA4277.at_ 34 rfl _ rfl) rfl
               have q7481 : f 150 = (Value.int .i64 ((i6 : Int))) := vt (hA4277.at_ 35 rfl _ rfl) rfl
               refine opg_taken (c := true) rfl rfl rfl rfl q7479 rfl (op_call_v (vs := [(Value.int .i64 (x337)), (Value.int .i64 ((i6 : Int)))]) (r := (Value.bool (x338))) rfl ca19 rfl (args2 q7480 q7481) I5441 (fun Fr_ hF_ => F19_ok hF_  hx338) (fun w5372 I5442 => ?_))
               refine ⟨_, _, rfl, PH.Le.refl _, ?_, ?_⟩
               ·
                exact rfl
               ·
                exact I5442
              ·
               intro vs4384 f w5373 S4409 X4278 le4409 hA4278 hK4384 hI4394
               have I5443 : Inv w5373 S4409 (X4278) := hI4394
               have q7482 : f 139 = (Value.bool (true)) := vt (hA4278.at_ 24 rfl _ rfl) rfl
               have q7483 : f 145 = (Value.bool (x336)) := vt (hA4278.at_ 30 rfl _ rfl) rfl
               have q7484 : f 151 = (Value.bool (x338)) := vt (hA4278.at_ 36 rfl _ rfl) rfl
               refine opg_taken (c := true) rfl rfl rfl rfl q7482 rfl (op_bneq (a := x336) (b := x338) rfl Try.underlying4 q7483 q7484 ?_)
               refine ⟨_, _, rfl, PH.Le.refl _, ?_, ?_⟩
               ·
                exact rfl
               ·
                exact I5443
              ·
               intro vs4385 f w5374 S4410 X4279 le4410 hA4279 hK4385 hI4395
               have I5444 : Inv w5374 S4410 (X4279) := hI4395
               have q7485 : f 130 = (Value.bool (!x338)) := vt (hA4279.at_ 15 rfl _ rfl) rfl
               have q7486 : f 139 = (Value.bool (true)) := vt (hA4279.at_ 24 rfl _ rfl) rfl
               have q7487 : f 152 = (Value.bool (x336 != x338)) := vt (hA4279.at_ 37 rfl _ rfl) rfl
               refine opg_taken (c := !x338) rfl rfl rfl rfl q7485 hc295 (op_pick_t (c := true) (a := (Value.bool (x336 != x338))) rfl q7486 rfl q7487 ?_)
               refine ⟨_, _, rfl, PH.Le.refl _, ?_, ?_⟩
               ·
                exact rfl
               ·
                exact I5444
              ·
               intro vs4386 f w5375 S4411 X4280 le4411 hA4280 hK4386 hI4396
               have I5445 : Inv w5375 S4411 (X4280) := hI4396
               have q7488 : f 130 = (Value.bool (!x338)) := vt (hA4280.at_ 15 rfl _ rfl) rfl
               have q7489 : f 153 = (Value.bool (x336 != x338)) := vt (hA4280.at_ 38 rfl _ rfl) rfl
               refine opg_plain rfl rfl (op_pick_f (c := !x338) (b := (Value.bool (x336 != x338))) rfl q7488 hc295 q7489 ?_)
               refine ⟨_, _, rfl, PH.Le.refl _, ?_, ?_⟩
               ·
                exact rfl
               ·
                exact I5445
              ·
               intro vs4387 f w5376 S4412 le4412 hF107 hK4387 hI4397
               have e1286 : f 1 = (Value.int .i64 (a1)) := (hK4387 1 (keep_all rfl)).trans e1271
               have e1287 : f 2 = (Value.slice z2 m2 k2) := (hK4387 2 (keep_all rfl)).trans e1272
               have e1288 : f 3 = (Value.pointer (some ⟨g1, 0, none⟩)) := (hK4387 3 (keep_all rfl)).trans e1273
               have e1289 : f 7 = (Value.slice z6 m6 k6) := (hK4387 7 (keep_all rfl)).trans e1274
               have e1290 : f 11 = (Value.slice z21 m21 k21) := (hK4387 11 (keep_all rfl)).trans e1275
               have e1291 : f 13 = (Value.int .i64 ((i5 : Int))) := (hK4387 13 (keep_all rfl)).trans e1276
               have e1292 : f 14 = (Value.int .i64 ((i6 : Int))) := (hK4387 14 (keep_all rfl)).trans e1277
               have I5446 : Inv w5376 S4412 (Row (α := Int) 3 (Value.slice z6 m6 k6) (x9.1) :: Row (α := Int) 3 (Value.slice z21 m21 k21) (x23.1) :: Fr) := hI4397
               have q7490 : f 154 = (Value.bool (x336 != x338)) := vt (hF107.at_ 39 rfl _ rfl) rfl
               rcases ifs h107 with ⟨hc297, h107⟩ | ⟨hc297, h107⟩
               ·
                refine wp_cond_t (b := x336 != x338) q7490 hc297 ?_
                refine wp_seq' ?_
                refine wp_region' ?_
                refine wl_op rfl (op_assign (v := (Value.bool (false))) rfl rfl ?_)
                refine wl_nil ?_
                refine wp_ret' ?_
                obtain rfl := Option.some.inj h107
                obtain rfl := (hout6 _ rfl)
                have h108 := h87
                obtain rfl := Option.some.inj h108
                obtain rfl := (hout5 _ rfl)
                have h88 := h
                obtain rfl := Option.some.inj h88
                exact ⟨(Value.bool (false)), (res1 rfl rfl), _, [], ((((le1.trans le2).trans le3466).trans le4330).trans le4412), ((I5446).drop).drop, rfl, rfl⟩
               ·
                refine wp_cond_f (b := x336 != x338) q7490 hc297 ?_
                refine wp_skip' ?_
                refine wp_region' ?_
                refine wl_op rfl (op_move (v := (Value.int .i64 ((i6 : Int)))) rfl e1292 ?_)
                refine wl_op rfl (op_add (a := (i6 : Int)) (b := 1) rfl rfl rfl ?_)
                refine wl_op rfl (op_assign (v := (Value.int .i64 (w64 ((i6 : Int) + 1)))) rfl rfl ?_)
                refine wl_nil ?_
                obtain rfl := Option.some.inj h107
                exact ⟨_, rfl, _, (le4330.trans le4412), ((I5446.pull 1).pull 1), e1286, e1287, e1288, e1289, e1290, e1291, (idx_next hlt6 hk5)⟩
             ·
              obtain ⟨x339, hx339, h107⟩ := bnd h107
              rcases ifs h107 with ⟨hc298, h107⟩ | ⟨hc298, h107⟩
              ·
               refine wp_draw (sps := [⟨some 115, [], [0], fun vs_ T_ => fr0 vs_ 0 = (Value.slice z6 m6 k6), [], [], [], fun _ h_ => h_⟩, ⟨some 116, [], [1], fun vs_ T_ => fr0 vs_ 0 = (Value.int .i64 ((i5 : Int))), [], [], [], fun _ h_ => h_⟩, ⟨some 117, [0, 1], [2], fun vs_ T_ => fr0 vs_ 0 = (elemPtr (Value.slice z6 m6 k6) ((i5 : Int)) (Enc.sz Int)), [0], [], [], fun _ h_ => h_⟩, ⟨some 118, [0, 1, 2], [3], fun vs_ T_ => fr0 vs_ 0 = (Value.int .i64 (x335)), [0], [], [], fun _ h_ => h_⟩, ⟨some 119, [], [4], fun vs_ T_ => fr0 vs_ 0 = (Value.int .i64 ((i6 : Int))), [], [], [], fun _ h_ => h_⟩, ⟨some 120, [0, 1, 2, 3, 4], [5], fun vs_ T_ => fr0 vs_ 0 = (Value.bool (x336)), [], [], [], fun _ h_ => h_⟩, ⟨some 121, [0, 1, 2, 3, 4, 5], [6], fun vs_ T_ => fr0 vs_ 0 = (Value.bool (x336)), [], [], [], fun _ h_ => h_⟩, ⟨some 122, [0, 1, 2, 3, 4, 5, 6], [7], fun vs_ T_ => fr0 vs_ 0 = (Value.slice z21 m21 k21), [], [], [], fun _ h_ => h_⟩, ⟨some 123, [0, 1, 2, 3, 4, 5, 6], [8], fun vs_ T_ => fr0 vs_ 0 = (Value.int .i64 ((i5 : Int))), [], [], [], fun _ h_ => h_⟩, ⟨some 124, [0, 1, 2, 3, 4, 5, 6, 7, 8], [9], fun vs_ T_ => fr0 vs_ 0 = (elemPtr (Value.slice z21 m21 k21) ((i5 : Int)) (Enc.sz Int)), [1], [], [], fun _ h_ => h_⟩, ⟨some 125, [0, 1, 2, 3, 4, 5, 6, 7, 8, 9], [10], fun vs_ T_ => fr0 vs_ 0 = (Value.int .i64 (x337)), [1], [], [], fun _ h_ => h_⟩, ⟨some 126, [0, 1, 2, 3, 4, 5, 6], [11], fun vs_ T_ => fr0 vs_ 0 = (Value.int .i64 ((i6 : Int))), [], [], [], fun _ h_ => h_⟩, ⟨some 127, [0, 1, 2, 3, 4, 5, 6, 7, 8, 9, 10, 11], [12], fun vs_ T_ => fr0 vs_ 0 = (Value.bool (x338)), [], [], [], fun _ h_ => h_⟩, ⟨some 128, [0, 1, 2, 3, 4, 5, 6, 7, 8, 9, 10, 11, 12], [13], fun vs_ T_ => fr0 vs_ 0 = (Value.bool (!x338)), [], [], [], fun _ h_ => h_⟩, ⟨some 129, [0, 1, 2, 3, 4, 5, 6, 7, 8, 9, 10, 11, 12, 13], [14], fun vs_ T_ => fr0 vs_ 0 = (Value.bool (!x338)), [], [], [], fun _ h_ => h_⟩, ⟨some 130, [0, 1, 2, 3, 4, 5, 6, 7, 8, 9, 10, 11, 12, 13, 14], [15], fun vs_ T_ => fr0 vs_ 0 = (Value.bool (!x338)), [], [], [], fun _ h_ => h_⟩, ⟨some 131, [0, 1, 2, 3, 4, 5, 6, 7, 8, 9, 10, 11, 12, 13, 14, 15], [16], fun vs_ T_ => fr0 vs_ 0 = (Value.bool (v35)), [], [], [], fun _ h_ => h_⟩, ⟨some 132, [0, 1, 2, 3, 4, 5, 6, 7, 8, 9, 10, 11, 12, 13, 14, 15, 16], [17], fun vs_ T_ => fr0 vs_ 0 = (Value.bool (v35)), [], [], [], fun _ h_ => h_⟩, ⟨some 133, [0, 1, 2, 3, 4, 5, 6, 7, 8, 9, 10, 11, 12, 13, 14, 15, 16, 17], [18], fun vs_ T_ => fr0 vs_ 0 = (Value.slice z2 m2 k2), [], [], [], fun _ h_ => h_⟩, ⟨some 134, [0, 1, 2, 3, 4, 5, 6, 7, 8, 9, 10, 11, 12, 13, 14, 15, 16, 17], [19], fun vs_ T_ => fr0 vs_ 0 = (Value.int .i64 ((i5 : Int))), [], [], [], fun _ h_ => h_⟩, ⟨some 135, [0, 1, 2, 3, 4, 5, 6, 7, 8, 9, 10, 11, 12, 13, 14, 15, 16, 17], [20], fun vs_ T_ => fr0 vs_ 0 = (Value.int .i64 ((i6 : Int))), [], [], [], fun _ h_ => h_⟩, ⟨some 136, [0, 1, 2, 3, 4, 5, 6, 7, 8, 9, 10, 11, 12, 13, 14, 15, 16, 17, 18, 19, 20], [21], fun vs_ T_ => fr0 vs_ 0 = (Value.bool (x339)), [], [], [], fun _ h_ => h_⟩, ⟨some 137, [0, 1, 2, 3, 4, 5, 6, 7, 8, 9, 10, 11, 12, 13, 14, 15, 16, 17, 18, 19, 20, 21], [22], fun vs_ T_ => fr0 vs_ 0 = (Value.bool (!x339)), [], [], [], fun _ h_ => h_⟩, ⟨some 138, [0, 1, 2, 3, 4, 5, 6, 7, 8, 9, 10, 11, 12, 13, 14, 15, 16, 17, 18, 19, 20, 21, 22], [23], fun vs_ T_ => fr0 vs_ 0 = (Value.bool (!x339)), [], [], [], fun _ h_ => h_⟩, ⟨some 139, [0, 1, 2, 3, 4, 5, 6, 7, 8, 9, 10, 11, 12, 13, 14, 15, 16, 17, 18, 19, 20, 21, 22, 23], [24], fun vs_ T_ => fr0 vs_ 0 = (Value.bool (!x339)), [], [], [], fun _ h_ => h_⟩, ⟨some 140, [0, 1, 2, 3, 4, 5, 6, 7, 8, 9, 10, 11, 12, 13, 14, 15, 16, 17, 18, 19, 20, 21, 22, 23, 24], [25], fun vs_ T_ => fr0 vs_ 0 = (Value.slice z6 m6 k6), [], [], [], fun _ h_ => h_⟩, ⟨some 141, [0, 1, 2, 3, 4, 5, 6, 7, 8, 9, 10, 11, 12, 13, 14, 15, 16, 17, 18, 19, 20, 21, 22, 23, 24], [26], fun vs_ T_ => fr0 vs_ 0 = (Value.int .i64 ((i5 : Int))), [], [], [], fun _ h_ => h_⟩, ⟨some 142, [0, 1, 2, 3, 4, 5, 6, 7, 8, 9, 10, 11, 12, 13, 14, 15, 16, 17, 18, 19, 20, 21, 22, 23, 24, 25, 26], [27], fun vs_ T_ => fr0 vs_ 0 = (elemPtr (Value.slice z6 m6 k6) ((i5 : Int)) (Enc.sz Int)), [0], [], [], fun _ h_ => h_⟩, ⟨some 143, [0, 1, 2, 3, 4, 5, 6, 7, 8, 9, 10, 11, 12, 13, 14, 15, 16, 17, 18, 19, 20, 21, 22, 23, 24, 25, 26, 27], [28], fun vs_ T_ => fr0 vs_ 0 = (Value.int .i64 (x335)), [0], [], [], fun _ h_ => h_⟩, ⟨some 144, [0, 1, 2, 3, 4, 5, 6, 7, 8, 9, 10, 11, 12, 13, 14, 15, 16, 17, 18, 19, 20, 21, 22, 23, 24], [29], fun vs_ T_ => fr0 vs_ 0 = (Value.int .i64 ((i6 : Int))), [], [], [], fun _ h_ => h_⟩, ⟨some 145, [0, 1, 2, 3, 4, 5, 6, 7, 8, 9, 10, 11, 12, 13, 14, 15, 16, 17, 18, 19, 20, 21, 22, 23, 24, 25, 26, 27, 28, 29], [30], fun vs_ T_ => fr0 vs_ 0 = (Value.bool (x336)), [], [], [], fun _ h_ => h_⟩, ⟨some 146, [0, 1, 2, 3, 4, 5, 6, 7, 8, 9, 10, 11, 12, 13, 14, 15, 16, 17, 18, 19, 20, 21, 22, 23, 24], [31], fun vs_ T_ => fr0 vs_ 0 = (Value.slice z21 m21 k21), [], [], [], fun _ h_ => h_⟩, ⟨some 147, [0, 1, 2, 3, 4, 5, 6, 7, 8, 9, 10, 11, 12, 13, 14, 15, 16, 17, 18, 19, 20, 21, 22, 23, 24], [32], fun vs_ T_ => fr0 vs_ 0 = (Value.int .i64 ((i5 : Int))), [], [], [], fun _ h_ => h_⟩, ⟨some 148, [0, 1, 2, 3, 4, 5, 6, 7, 8, 9, 10, 11, 12, 13, 14, 15, 16, 17, 18, 19, 20, 21, 22, 23, 24, 31, 32], [33], fun vs_ T_ => fr0 vs_ 0 = (elemPtr (Value.slice z21 m21 k21) ((i5 : Int)) (Enc.sz Int)), [1], [], [], fun _ h_ => h_⟩, ⟨some 149, [0, 1, 2, 3, 4, 5, 6, 7, 8, 9, 10, 11, 12, 13, 14, 15, 16, 17, 18, 19, 20, 21, 22, 23, 24, 31, 32, 33], [34], fun vs_ T_ => fr0 vs_ 0 = (Value.int .i64 (x337)), [1], [], [], fun _ h_ => h_⟩, ⟨some 150, [0, 1, 2, 3, 4, 5, 6, 7, 8, 9, 10, 11, 12, 13, 14, 15, 16, 17, 18, 19, 20, 21, 22, 23, 24], [35], fun vs_ T_ => fr0 vs_ 0 = (Value.int .i64 ((i6 : Int))), [], [], [], fun _ h_ => h_⟩, ⟨some 151, [0, 1, 2, 3, 4, 5, 6, 7, 8, 9, 10, 11, 12, 13, 14, 15, 16, 17, 18, 19, 20, 21, 22, 23, 24, 25, 26, 27, 28, 29, 30, 31, 32, 33, 34, 35], [36], fun vs_ T_ => fr0 vs_ 0 = (Value.bool (x338)), [], [], [], fun _ h_ => h_⟩, ⟨some 152, [0, 1, 2, 3, 4, 5, 6, 7, 8, 9, 10, 11, 12, 13, 14, 15, 16, 17, 18, 19, 20, 21, 22, 23, 24, 25, 26, 27, 28, 29, 30, 31, 32, 33, 34, 35, 36], [37], fun vs_ T_ => fr0 vs_ 0 = (Value.bool (x336 != x338)), [], [], [], fun _ h_ => h_⟩, ⟨some 153, [0, 1, 2, 3, 4, 5, 6, 7, 8, 9, 10, 11, 12, 13, 14, 15, 16, 17, 18, 19, 20, 21, 22, 23, 24, 25, 26, 27, 28, 29, 30, 31, 32, 33, 34, 35, 36, 37], [38], fun vs_ T_ => fr0 vs_ 0 = (Value.bool (x336 != x338)), [], [], [], fun _ h_ => h_⟩, ⟨some 154, [0, 1, 2, 3, 4, 5, 6, 7, 8, 9, 10, 11, 12, 13, 14, 15, 16, 17, 18, 19, 20, 21, 22, 23, 24, 25, 26, 27, 28, 29, 30, 31, 32, 33, 34, 35, 36, 37, 38], [39], fun vs_ T_ => fr0 vs_ 0 = (Value.bool (x336 != x338)), [], [], [], fun _ h_ => h_⟩]) (tks := [⟨none, none, [], fun vs_ => Row (α := Int) 3 (Value.slice z6 m6 k6) (x9.1)⟩, ⟨none, none, [], fun vs_ => Row (α := Int) 3 (Value.slice z21 m21 k21) (x23.1)⟩]) (O := Fr) rfl (by kernel_rfl) ((I5347.pull 1).pull 1) ⟨?_, ?_, ?_, ?_, ?_, ?_, ?_, ?_, ?_, ?_, ?_, ?_, ?_, ?_, ?_, ?_, ?_, ?_, ?_, ?_, ?_, ?_, ?_, ?_, ?_, ?_, ?_, ?_, ?_, ?_, ?_, ?_, ?_, ?_, ?_, ?_, ?_, ?_, ?_, ?_, trivial⟩ ?_
               ·
                intro vs4388 f w5385 S4413 X4281 le4413 hA4281 hK4388 hI4398
                have I5455 : Inv w5385 S4413 (X4281) := hI4398
                refine opg_plain rfl rfl (op_move (v := (Value.slice z6 m6 k6)) rfl ((hK4388 7 (keep_of rfl)).trans e1274) ?_)
                refine ⟨_, _, rfl, PH.Le.refl _, ?_, ?_⟩
                ·
                 exact rfl
                ·
                 exact I5455
               ·
                intro vs4389 f w5386 S4414 X4282 le4414 hA4282 hK4389 hI4399
                have I5456 : Inv w5386 S4414 (X4282) := hI4399
                refine opg_plain rfl rfl (op_move (v := (Value.int .i64 ((i5 : Int)))) rfl ((hK4389 13 (keep_of rfl)).trans e1276) ?_)
                refine ⟨_, _, rfl, PH.Le.refl _, ?_, ?_⟩
                ·
                 exact rfl
                ·
                 exact I5456
               ·
                intro vs4390 f w5387 S4415 X4283 le4415 hA4283 hK4390 hI4400
                have I5457 : Inv w5387 S4415 (Row (α := Int) 3 (Value.slice z6 m6 k6) (x9.1) :: X4283) := hI4400
                have q7491 : f 115 = (Value.slice z6 m6 k6) := vt (hA4283.at_ 0 rfl _ rfl) rfl
                have q7492 : f 116 = (Value.int .i64 ((i5 : Int))) := vt (hA4283.at_ 1 rfl _ rfl) rfl
                refine opg_plain rfl rfl (op_indexAddr_src (v := (Value.slice z6 m6 k6)) (i := (i5 : Int)) (e := x335) rfl Try.underlying34 sh3 q7491 (Inv.rowSrc (I5457.nth 0 rfl)) q7492 hx335 ?_)
                refine ⟨_, _, rfl, PH.Le.refl _, ?_, ?_⟩
                ·
                 exact rfl
                ·
                 exact I5457
               ·
                intro vs4391 f w5388 S4416 X4284 le4416 hA4284 hK4391 hI4401
                have I5458 : Inv w5388 S4416 (Row (α := Int) 3 (Value.slice z6 m6 k6) (x9.1) :: X4284) := hI4401
                have q7493 : f 117 = (elemPtr (Value.slice z6 m6 k6) ((i5 : Int)) (Enc.sz Int)) := vt (hA4284.at_ 2 rfl _ rfl) rfl
                refine opg_plain rfl rfl (op_load_int (v := (elemPtr (Value.slice z6 m6 k6) ((i5 : Int)) (Enc.sz Int))) (e := x335) rfl sh3 q7493 ((I5458.nth 0 rfl).rowElem hx335) ?_)
                refine ⟨_, _, rfl, PH.Le.refl _, ?_, ?_⟩
                ·
                 exact rfl
                ·
                 exact I5458
               ·
                intro vs4392 f w5389 S4417 X4285 le4417 hA4285 hK4392 hI4402
                have I5459 : Inv w5389 S4417 (X4285) := hI4402
                refine opg_plain rfl rfl (op_move (v := (Value.int .i64 ((i6 : Int)))) rfl ((hK4392 14 (keep_of rfl)).trans e1277) ?_)
                refine ⟨_, _, rfl, PH.Le.refl _, ?_, ?_⟩
                ·
                 exact rfl
                ·
                 exact I5459
               ·
                intro vs4393 f w5390 S4418 X4286 le4418 hA4286 hK4393 hI4403
                have I5460 : Inv w5390 S4418 (X4286) := hI4403
                have q7494 : f 118 = (Value.int .i64 (x335)) := vt (hA4286.at_ 3 rfl _ rfl) rfl
                have q7495 : f 119 = (Value.int .i64 ((i6 : Int))) := vt (hA4286.at_ 4 rfl _ rfl) rfl
                refine opg_plain rfl rfl (op_call_v (vs := [(Value.int .i64 (x335)), (Value.int .i64 ((i6 : Int)))]) (r := (Value.bool (x336))) rfl ca19 rfl (args2 q7494 q7495) I5460 (fun Fr_ hF_ => F19_ok hF_  hx336) (fun w5391 I5461 => ?_))
                refine ⟨_, _, rfl, PH.Le.refl _, ?_, ?_⟩
                ·
                 exact rfl
                ·
                 exact I5461
               ·
                intro vs4394 f w5392 S4419 X4287 le4419 hA4287 hK4394 hI4404
                have I5462 : Inv w5392 S4419 (X4287) := hI4404
                have q7496 : f 120 = (Value.bool (x336)) := vt (hA4287.at_ 5 rfl _ rfl) rfl
                refine opg_plain rfl rfl (op_move (v := (Value.bool (x336))) rfl q7496 ?_)
                refine ⟨_, _, rfl, PH.Le.refl _, ?_, ?_⟩
                ·
                 exact rfl
                ·
                 exact I5462
               ·
                intro vs4395 f w5393 S4420 X4288 le4420 hA4288 hK4395 hI4405
                have I5463 : Inv w5393 S4420 (X4288) := hI4405
                have q7497 : f 121 = (Value.bool (x336)) := vt (hA4288.at_ 6 rfl _ rfl) rfl
                refine opg_taken (c := x336) rfl rfl rfl rfl q7497 hc294 (op_move (v := (Value.slice z21 m21 k21)) rfl ((hK4395 11 (keep_of rfl)).trans e1275) ?_)
                refine ⟨_, _, rfl, PH.Le.refl _, ?_, ?_⟩
                ·
                 exact rfl
                ·
                 exact I5463
               ·
                intro vs4396 f w5394 S4421 X4289 le4421 hA4289 hK4396 hI4406
                have I5464 : Inv w5394 S4421 (X4289) := hI4406
                have q7498 : f 121 = (Value.bool (x336)) := vt (hA4289.at_ 6 rfl _ rfl) rfl
                refine opg_taken (c := x336) rfl rfl rfl rfl q7498 hc294 (op_move (v := (Value.int .i64 ((i5 : Int)))) rfl ((hK4396 13 (keep_of rfl)).trans e1276) ?_)
                refine ⟨_, _, rfl, PH.Le.refl _, ?_, ?_⟩
                ·
                 exact rfl
                ·
                 exact I5464
               ·
                intro vs4397 f w5395 S4422 X4290 le4422 hA4290 hK4397 hI4407
                have I5465 : Inv w5395 S4422 (Row (α := Int) 3 (Value.slice z21 m21 k21) (x23.1) :: X4290) := hI4407
                have q7499 : f 121 = (Value.bool (x336)) := vt (hA4290.at_ 6 rfl _ rfl) rfl
                have q7500 : f 122 = (Value.slice z21 m21 k21) := vt (hA4290.at_ 7 rfl _ rfl) rfl
                have q7501 : f 123 = (Value.int .i64 ((i5 : Int))) := vt (hA4290.at_ 8 rfl _ rfl) rfl
                refine opg_taken (c := x336) rfl rfl rfl rfl q7499 hc294 (op_indexAddr_src (v := (Value.slice z21 m21 k21)) (i := (i5 : Int)) (e := x337) rfl Try.underlying34 sh3 q7500 (Inv.rowSrc (I5465.nth 0 rfl)) q7501 hx337 ?_)
                refine ⟨_, _, rfl, PH.Le.refl _, ?_, ?_⟩
                ·
                 exact rfl
                ·
                 exact I5465
               ·
                intro vs4398 f w5396 S4423 X4291 le4423 hA4291 hK4398 hI4408
                have I5466 : Inv w5396 S4423 (Row (α := Int) 3 (Value.slice z21 m21 k21) (x23.1) :: X4291) := hI4408
                have q7502 : f 121 = (Value.bool (x336)) := vt (hA4291.at_ 6 rfl _ rfl) rfl
                have q7503 : f 124 = (elemPtr (Value.slice z21 m21 k21) ((i5 : Int)) (Enc.sz Int)) := vt (hA4291.at_ 9 rfl _ rfl) rfl
                refine opg_taken (c := x336) rfl rfl rfl rfl q7502 hc294 (op_load_int (v := (elemPtr (Value.slice z21 m21 k21) ((i5 : Int)) (Enc.sz Int))) (e := x337) rfl sh3 q7503 ((I5466.nth 0 rfl).rowElem hx337) ?_)
                refine ⟨_, _, rfl, PH.Le.refl _, ?_, ?_⟩
                ·
                 exact rfl
                ·
                 exact I5466
               ·
                intro vs4399 f w5397 S4424 X4292 le4424 hA4292 hK4399 hI4409
                have I5467 : Inv w5397 S4424 (X4292) := hI4409
                have q7504 : f 121 = (Value.bool (x336)) := vt (hA4292.at_ 6 rfl _ rfl) rfl
                refine opg_taken (c := x336) rfl rfl rfl rfl q7504 hc294 (op_move (v := (Value.int .i64 ((i6 : Int)))) rfl ((hK4399 14 (keep_of rfl)).trans e1277) ?_)
                refine ⟨_, _, rfl, PH.Le.refl _, ?_, ?_⟩
                ·
                 exact rfl
                ·
                 exact I5467
               ·
                intro vs4400 f w5398 S4425 X4293 le4425 hA4293 hK4400 hI4410
                have I5468 : Inv w5398 S4425 (X4293) := hI4410
                have q7505 : f 121 = (Value.bool (x336)) := vt (hA4293.at_ 6 rfl _ rfl) rfl
                have q7506 : f 125 = (Value.int .i64 (x337)) := vt (hA4293.at_ 10 rfl _ rfl) rfl
                have q7507 : f 126 = (Value.int .i64 ((i6 : Int))) := vt (hA4293.at_ 11 rfl _ rfl) rfl
                refine opg_taken (c := x336) rfl rfl rfl rfl q7505 hc294 (op_call_v (vs := [(Value.int .i64 (x337)), (Value.int .i64 ((i6 : Int)))]) (r := (Value.bool (x338))) rfl ca19 rfl (args2 q7506 q7507) I5468 (fun Fr_ hF_ => F19_ok hF_  hx338) (fun w5399 I5469 => ?_))
                refine ⟨_, _, rfl, PH.Le.refl _, ?_, ?_⟩
                ·
                 exact rfl
                ·
                 exact I5469
               ·
                intro vs4401 f w5400 S4426 X4294 le4426 hA4294 hK4401 hI4411
                have I5470 : Inv w5400 S4426 (X4294) := hI4411
                have q7508 : f 121 = (Value.bool (x336)) := vt (hA4294.at_ 6 rfl _ rfl) rfl
                have q7509 : f 127 = (Value.bool (x338)) := vt (hA4294.at_ 12 rfl _ rfl) rfl
                refine opg_taken (c := x336) rfl rfl rfl rfl q7508 hc294 (op_not (b := x338) rfl q7509 ?_)
                refine ⟨_, _, rfl, PH.Le.refl _, ?_, ?_⟩
                ·
                 exact rfl
                ·
                 exact I5470
               ·
                intro vs4402 f w5401 S4427 X4295 le4427 hA4295 hK4402 hI4412
                have I5471 : Inv w5401 S4427 (X4295) := hI4412
                have q7510 : f 121 = (Value.bool (x336)) := vt (hA4295.at_ 6 rfl _ rfl) rfl
                have q7511 : f 128 = (Value.bool (!x338)) := vt (hA4295.at_ 13 rfl _ rfl) rfl
                refine opg_plain rfl rfl (op_pick_t (c := x336) (a := (Value.bool (!x338))) rfl q7510 hc294 q7511 ?_)
                refine ⟨_, _, rfl, PH.Le.refl _, ?_, ?_⟩
                ·
                 exact rfl
                ·
                 exact I5471
               ·
                intro vs4403 f w5402 S4428 X4296 le4428 hA4296 hK4403 hI4413
                have I5472 : Inv w5402 S4428 (X4296) := hI4413
                have q7512 : f 129 = (Value.bool (!x338)) := vt (hA4296.at_ 14 rfl _ rfl) rfl
                refine opg_plain rfl rfl (op_move (v := (Value.bool (!x338))) rfl q7512 ?_)
                refine ⟨_, _, rfl, PH.Le.refl _, ?_, ?_⟩
                ·
                 exact rfl
                ·
                 exact I5472
               ·
                intro vs4404 f w5403 S4429 X4297 le4429 hA4297 hK4404 hI4414
                have I5473 : Inv w5403 S4429 (X4297) := hI4414
                have q7513 : f 130 = (Value.bool (!x338)) := vt (hA4297.at_ 15 rfl _ rfl) rfl
                refine opg_taken (c := !x338) rfl rfl rfl rfl q7513 hc295 (op_move (v := (Value.bool (v35))) rfl ((hK4404 15 (keep_of rfl)).trans e1278) ?_)
                refine ⟨_, _, rfl, PH.Le.refl _, ?_, ?_⟩
                ·
                 exact rfl
                ·
                 exact I5473
               ·
                intro vs4405 f w5404 S4430 X4298 le4430 hA4298 hK4405 hI4415
                have I5474 : Inv w5404 S4430 (X4298) := hI4415
                have q7514 : f 130 = (Value.bool (!x338)) := vt (hA4298.at_ 15 rfl _ rfl) rfl
                have q7515 : f 131 = (Value.bool (v35)) := vt (hA4298.at_ 16 rfl _ rfl) rfl
                refine opg_taken (c := !x338) rfl rfl rfl rfl q7514 hc295 (op_move (v := (Value.bool (v35))) rfl q7515 ?_)
                refine ⟨_, _, rfl, PH.Le.refl _, ?_, ?_⟩
                ·
                 exact rfl
                ·
                 exact I5474
               ·
                intro vs4406 f w5405 S4431 X4299 le4431 hA4299 hK4406 hI4416
                have I5475 : Inv w5405 S4431 (X4299) := hI4416
                have q7516 : f 132 = (Value.bool (v35)) := vt (hA4299.at_ 17 rfl _ rfl) rfl
                refine opg_taken (c := v35) rfl rfl rfl rfl q7516 hc296 (op_move (v := (Value.slice z2 m2 k2)) rfl ((hK4406 2 (keep_of rfl)).trans e1272) ?_)
                refine ⟨_, _, rfl, PH.Le.refl _, ?_, ?_⟩
                ·
                 exact rfl
                ·
                 exact I5475
               ·
                intro vs4407 f w5406 S4432 X4300 le4432 hA4300 hK4407 hI4417
                have I5476 : Inv w5406 S4432 (X4300) := hI4417
                have q7517 : f 132 = (Value.bool (v35)) := vt (hA4300.at_ 17 rfl _ rfl) rfl
                refine opg_taken (c := v35) rfl rfl rfl rfl q7517 hc296 (op_move (v := (Value.int .i64 ((i5 : Int)))) rfl ((hK4407 13 (keep_of rfl)).trans e1276) ?_)
                refine ⟨_, _, rfl, PH.Le.refl _, ?_, ?_⟩
                ·
                 exact rfl
                ·
                 exact I5476
               ·
                intro vs4408 f w5407 S4433 X4301 le4433 hA4301 hK4408 hI4418
                have I5477 : Inv w5407 S4433 (X4301) := hI4418
                have q7518 : f 132 = (Value.bool (v35)) := vt (hA4301.at_ 17 rfl _ rfl) rfl
                refine opg_taken (c := v35) rfl rfl rfl rfl q7518 hc296 (op_move (v := (Value.int .i64 ((i6 : Int)))) rfl ((hK4408 14 (keep_of rfl)).trans e1277) ?_)
                refine ⟨_, _, rfl, PH.Le.refl _, ?_, ?_⟩
                ·
                 exact rfl
                ·
                 exact I5477
               ·
                intro vs4409 f w5408 S4434 X4302 le4434 hA4302 hK4409 hI4419
                have I5478 : Inv w5408 S4434 (X4302) := hI4419
                have q7519 : f 132 = (Value.bool (v35)) := vt (hA4302.at_ 17 rfl _ rfl) rfl
                have q7520 : f 133 = (Value.slice z2 m2 k2) := vt (hA4302.at_ 18 rfl _ rfl) rfl
                have q7521 : f 134 = (Value.int .i64 ((i5 : Int))) := vt (hA4302.at_ 19 rfl _ rfl) rfl
                have q7522 : f 135 = (Value.int .i64 ((i6 : Int))) := vt (hA4302.at_ 20 rfl _ rfl) rfl
                refine opg_taken (c := v35) rfl rfl rfl rfl q7519 hc296 (op_call_v (vs := [(Value.slice z2 m2 k2), (Value.int .i64 ((i5 : Int))), (Value.int .i64 ((i6 : Int)))]) (r := (Value.bool (x339))) rfl ca26 rfl (args3 q7520 q7521 q7522) I5478 (fun Fr_ hF_ => F26_ok hF_ (h2_.mono ((((le1.trans le2).trans le3466).trans le4330).trans le4434)) hx339) (fun w5409 I5479 => ?_))
                refine ⟨_, _, rfl, PH.Le.refl _, ?_, ?_⟩
                ·
                 exact rfl
                ·
                 exact I5479
               ·
                intro vs4410 f w5410 S4435 X4303 le4435 hA4303 hK4410 hI4420
                have I5480 : Inv w5410 S4435 (X4303) := hI4420
                have q7523 : f 132 = (Value.bool (v35)) := vt (hA4303.at_ 17 rfl _ rfl) rfl
                have q7524 : f 136 = (Value.bool (x339)) := vt (hA4303.at_ 21 rfl _ rfl) rfl
                refine opg_taken (c := v35) rfl rfl rfl rfl q7523 hc296 (op_not (b := x339) rfl q7524 ?_)
                refine ⟨_, _, rfl, PH.Le.refl _, ?_, ?_⟩
                ·
                 exact rfl
                ·
                 exact I5480
               ·
                intro vs4411 f w5411 S4436 X4304 le4436 hA4304 hK4411 hI4421
                have I5481 : Inv w5411 S4436 (X4304) := hI4421
                have q7525 : f 130 = (Value.bool (!x338)) := vt (hA4304.at_ 15 rfl _ rfl) rfl
                have q7526 : f 132 = (Value.bool (v35)) := vt (hA4304.at_ 17 rfl _ rfl) rfl
                have q7527 : f 137 = (Value.bool (!x339)) := vt (hA4304.at_ 22 rfl _ rfl) rfl
                refine opg_taken (c := !x338) rfl rfl rfl rfl q7525 hc295 (op_pick_f (c := v35) (b := (Value.bool (!x339))) rfl q7526 hc296 q7527 ?_)
                refine ⟨_, _, rfl, PH.Le.refl _, ?_, ?_⟩
                ·
                 exact rfl
                ·
                 exact I5481
               ·
                intro vs4412 f w5412 S4437 X4305 le4437 hA4305 hK4412 hI4422
                have I5482 : Inv w5412 S4437 (X4305) := hI4422
                have q7528 : f 130 = (Value.bool (!x338)) := vt (hA4305.at_ 15 rfl _ rfl) rfl
                have q7529 : f 138 = (Value.bool (!x339)) := vt (hA4305.at_ 23 rfl _ rfl) rfl
                refine opg_taken (c := !x338) rfl rfl rfl rfl q7528 hc295 (op_move (v := (Value.bool (!x339))) rfl q7529 ?_)
                refine ⟨_, _, rfl, PH.Le.refl _, ?_, ?_⟩
                ·
                 exact rfl
                ·
                 exact I5482
               ·
                intro vs4413 f w5413 S4438 X4306 le4438 hA4306 hK4413 hI4423
                have I5483 : Inv w5413 S4438 (X4306) := hI4423
                have q7530 : f 139 = (Value.bool (!x339)) := vt (hA4306.at_ 24 rfl _ rfl) rfl
                refine opg_taken (c := !x339) rfl rfl rfl rfl q7530 hc298 (op_move (v := (Value.slice z6 m6 k6)) rfl ((hK4413 7 (keep_of rfl)).trans e1274) ?_)
                refine ⟨_, _, rfl, PH.Le.refl _, ?_, ?_⟩
                ·
                 exact rfl
                ·
                 exact I5483
               ·
                intro vs4414 f w5414 S4439 X4307 le4439 hA4307 hK4414 hI4424
                have I5484 : Inv w5414 S4439 (X4307) := hI4424
                have q7531 : f 139 = (Value.bool (!x339)) := vt (hA4307.at_ 24 rfl _ rfl) rfl
                refine opg_taken (c := !x339) rfl rfl rfl rfl q7531 hc298 (op_move (v := (Value.int .i64 ((i5 : Int)))) rfl ((hK4414 13 (keep_of rfl)).trans e1276) ?_)
                refine ⟨_, _, rfl, PH.Le.refl _, ?_, ?_⟩
                ·
                 exact rfl
                ·
                 exact I5484
               ·
                intro vs4415 f w5415 S4440 X4308 le4440 hA4308 hK4415 hI4425
                have I5485 : Inv w5415 S4440 (Row (α := Int) 3 (Value.slice z6 m6 k6) (x9.1) :: X4308) := hI4425
                have q7532 : f 139 = (Value.bool (!x339)) := vt (hA4308.at_ 24 rfl _ rfl) rfl
                have q7533 : f 140 = (Value.slice z6 m6 k6) := vt (hA4308.at_ 25 rfl _ rfl) rfl
                have q7534 : f 141 = (Value.int .i64 ((i5 : Int))) := vt (hA4308.at_ 26 rfl _ rfl) rfl
                refine opg_taken (c := !x339) rfl rfl rfl rfl q7532 hc298 (op_indexAddr_src (v := (Value.slice z6 m6 k6)) (i := (i5 : Int)) (e := x335) rfl Try.underlying34 sh3 q7533 (Inv.rowSrc (I5485.nth 0 rfl)) q7534 hx335 ?_)
                refine ⟨_, _, rfl, PH.Le.refl _, ?_, ?_⟩
                ·
                 exact rfl
                ·
                 exact I5485
               ·
                intro vs4416 f w5416 S4441 X4309 le4441 hA4309 hK4416 hI4426
                have I5486 : Inv w5416 S4441 (Row (α := Int) 3 (Value.slice z6 m6 k6) (x9.1) :: X4309) := hI4426
                have q7535 : f 139 = (Value.bool (!x339)) := vt (hA4309.at_ 24 rfl _ rfl) rfl
                have q7536 : f 142 = (elemPtr (Value.slice z6 m6 k6) ((i5 : Int)) (Enc.sz Int)) := vt (hA4309.at_ 27 rfl _ rfl) rfl
                refine opg_taken (c := !x339) rfl rfl rfl rfl q7535 hc298 (op_load_int (v := (elemPtr (Value.slice z6 m6 k6) ((i5 : Int)) (Enc.sz Int))) (e := x335) rfl sh3 q7536 ((I5486.nth 0 rfl).rowElem hx335) ?_)
                refine ⟨_, _, rfl, PH.Le.refl _, ?_, ?_⟩
                ·
                 exact rfl
                ·
                 exact I5486
               ·
                intro vs4417 f w5417 S4442 X4310 le4442 hA4310 hK4417 hI4427
                have I5487 : Inv w5417 S4442 (X4310) := hI4427
                have q7537 : f 139 = (Value.bool (!x339)) := vt (hA4310.at_ 24 rfl _ rfl) rfl
                refine opg_taken (c := !x339) rfl rfl rfl rfl q7537 hc298 (op_move (v := (Value.int .i64 ((i6 : Int)))) rfl ((hK4417 14 (keep_of rfl)).trans e1277) ?_)
                refine ⟨_, _, rfl, PH.Le.refl _, ?_, ?_⟩
                ·
                 exact rfl
                ·
                 exact I5487
               ·
                intro vs4418 f w5418 S4443 X4311 le4443 hA4311 hK4418 hI4428
                have I5488 : Inv w5418 S4443 (X4311) := hI4428
                have q7538 : f 139 = (Value.bool (!x339)) := vt (hA4311.at_ 24 rfl _ rfl) rfl
                have q7539 : f 143 = (Value.int .i64 (x335)) := vt (hA4311.at_ 28 rfl _ rfl) rfl
                have q7540 : f 144 = (Value.int .i64 ((i6 : Int))) := vt (hA4311.at_ 29 rfl _ rfl) rfl
                refine opg_taken (c := !x339) rfl rfl rfl rfl q7538 hc298 (op_call_v (vs := [(Value.int .i64 (x335)), (Value.int .i64 ((i6 : Int)))]) (r := (Value.bool (x336))) rfl ca19 rfl (args2 q7539 q7540) I5488 (fun Fr_ hF_ => F19_ok hF_  hx336) (fun w5419 I5489 => ?_))
                refine ⟨_, _, rfl, PH.Le.refl _, ?_, ?_⟩
                ·
                 exact rfl
                ·
                 exact I5489
               ·
                intro vs4419 f w5420 S4444 X4312 le4444 hA4312 hK4419 hI4429
                have I5490 : Inv w5420 S4444 (X4312) := hI4429
                have q7541 : f 139 = (Value.bool (!x339)) := vt (hA4312.at_ 24 rfl _ rfl) rfl
                refine opg_taken (c := !x339) rfl rfl rfl rfl q7541 hc298 (op_move (v := (Value.slice z21 m21 k21)) rfl ((hK4419 11 (keep_of rfl)).trans e1275) ?_)
                refine ⟨_, _, rfl, PH.Le.refl _, ?_, ?_⟩
                ·
                 exact rfl
                ·
                 exact I5490
               ·
                intro vs4420 f w5421 S4445 X4313 le4445 hA4313 hK4420 hI4430
                have I5491 : Inv w5421 S4445 (X4313) := hI4430
                have q7542 : f 139 = (Value.bool (!x339)) := vt (hA4313.at_ 24 rfl _ rfl) rfl
                refine opg_taken (c := !x339) rfl rfl rfl rfl q7542 hc298 (op_move (v := (Value.int .i64 ((i5 : Int)))) rfl ((hK4420 13 (keep_of rfl)).trans e1276) ?_)
                refine ⟨_, _, rfl, PH.Le.refl _, ?_, ?_⟩
                ·
                 exact rfl
                ·
                 exact I5491
               ·
                intro vs4421 f w5422 S4446 X4314 le4446 hA4314 hK4421 hI4431
                have I5492 : Inv w5422 S4446 (Row (α := Int) 3 (Value.slice z21 m21 k21) (x23.1) :: X4314) := hI4431
                have q7543 : f 139 = (Value.bool (!x339)) := vt (hA4314.at_ 24 rfl _ rfl) rfl
                have q7544 : f 146 = (Value.slice z21 m21 k21) := vt (hA4314.at_ 25 rfl _ rfl) rfl
                have q7545 : f 147 = (Value.int .i64 ((i5 : Int))) := vt (hA4314.at_ 26 rfl _ rfl) rfl
                refine opg_taken (c := !x339) rfl rfl rfl rfl q7543 hc298 (op_indexAddr_src (v := (Value.slice z21 m21 k21)) (i := (i5 : Int)) (e := x337) rfl Try.underlying34 sh3 q7544 (Inv.rowSrc (I5492.nth 0 rfl)) q7545 hx337 ?_)
                refine ⟨_, _, rfl, PH.Le.refl _, ?_, ?_⟩
                ·
                 exact rfl
                ·
                 exact I5492
               ·
                intro vs4422 f w5423 S4447 X4315 le4447 hA4315 hK4422 hI4432
                have I5493 : Inv w5423 S4447 (Row (α := Int) 3 (Value.slice z21 m21 k21) (x23.1) :: X4315) := hI4432
                have q7546 : f 139 = (Value.bool (!x339)) := vt (hA4315.at_ 24 rfl _ rfl) rfl
                have q7547 : f 148 = (elemPtr (Value.slice z21 m21 k21) ((i5 : Int)) (Enc.sz Int)) := vt (hA4315.at_ 27 rfl _ rfl) rfl
                refine opg_taken (c := !x339) rfl rfl rfl rfl q7546 hc298 (op_load_int (v := (elemPtr (Value.slice z21 m21 k21) ((i5 : Int)) (Enc.sz Int))) (e := x337) rfl sh3 q7547 ((I5493.nth 0 rfl).rowElem hx337) ?_)
                refine ⟨_, _, rfl, PH.Le.refl _, ?_, ?_⟩
                ·
                 exact rfl
                ·
                 exact I5493
               ·
                intro vs4423 f w5424 S4448 X4316 le4448 hA4316 hK4423 hI4433
                have I5494 : Inv w5424 S4448 (X4316) := hI4433
                have q7548 : f 139 = (Value.bool (!x339)) := vt (hA4316.at_ 24 rfl _ rfl) rfl
                refine opg_taken (c := !x339) rfl rfl rfl rfl q7548 hc298 (op_move (v := (Value.int .i64 ((i6 : Int)))) rfl ((hK4423 14 (keep_of rfl)).trans e1277) ?_)
                refine ⟨_, _, rfl, PH.Le.refl _, ?_, ?_⟩
                ·
                 exact rfl
                ·
                 exact I5494
               ·
                intro vs4424 f w5425 S4449 X4317 le4449 hA4317 hK4424 hI4434
                have I5495 : Inv w5425 S4449 (X4317) := hI4434
                have q7549 : f 139 = (Value.bool (!x339)) := vt (hA4317.at_ 24 rfl _ rfl) rfl
                have q7550 : f 149 = (Value.int .i64 (x337)) := vt (hA4317.at_ 34 rfl _ rfl) rfl
                have q7551 : f 150 = (Value.int .i64 ((i6 : Int))) := vt (hA4317.at_ 35 rfl _ rfl) rfl
                refine opg_taken (c := !x339) rfl rfl rfl rfl q7549 hc298 (op_call_v (vs := [(Value.int .i64 (x337)), (Value.int .i64 ((i6 : Int)))]) (r := (Value.bool (x338))) rfl ca19 rfl (args2 q7550 q7551) I5495 (fun Fr_ hF_ => F19_ok hF_  hx338) (fun w5426 I5496 => ?_))
                refine ⟨_, _, rfl, PH.Le.refl _, ?_, ?_⟩
                ·
                 exact rfl
                ·
                 exact I5496
               ·
                intro vs4425 f w5427 S4450 X4318 le4450 hA4318 hK4425 hI4435
                have I5497 : Inv w5427 S4450 (X4318) := hI4435
                have q7552 : f 139 = (Value.bool (!x339)) := vt (hA4318.at_ 24 rfl _ rfl) rfl
                have q7553 : f 145 = (Value.bool (x336)) := vt (hA4318.at_ 30 rfl _ rfl) rfl
                have q7554 : f 151 = (Value.bool (x338)) := vt (hA4318.at_ 36 rfl _ rfl) rfl
                refine opg_taken (c := !x339) rfl rfl rfl rfl q7552 hc298 (op_bneq (a := x336) (b := x338) rfl Try.underlying4 q7553 q7554 ?_)
                refine ⟨_, _, rfl, PH.Le.refl _, ?_, ?_⟩
                ·
                 exact rfl
                ·
                 exact I5497
               ·
                intro vs4426 f w5428 S4451 X4319 le4451 hA4319 hK4426 hI4436
                have I5498 : Inv w5428 S4451 (X4319) := hI4436
                have q7555 : f 130 = (Value.bool (!x338)) := vt (hA4319.at_ 15 rfl _ rfl) rfl
                have q7556 : f 139 = (Value.bool (!x339)) := vt (hA4319.at_ 24 rfl _ rfl) rfl
                have q7557 : f 152 = (Value.bool (x336 != x338)) := vt (hA4319.at_ 37 rfl _ rfl) rfl
                refine opg_taken (c := !x338) rfl rfl rfl rfl q7555 hc295 (op_pick_t (c := !x339) (a := (Value.bool (x336 != x338))) rfl q7556 hc298 q7557 ?_)
                refine ⟨_, _, rfl, PH.Le.refl _, ?_, ?_⟩
                ·
                 exact rfl
                ·
                 exact I5498
               ·
                intro vs4427 f w5429 S4452 X4320 le4452 hA4320 hK4427 hI4437
                have I5499 : Inv w5429 S4452 (X4320) := hI4437
                have q7558 : f 130 = (Value.bool (!x338)) := vt (hA4320.at_ 15 rfl _ rfl) rfl
                have q7559 : f 153 = (Value.bool (x336 != x338)) := vt (hA4320.at_ 38 rfl _ rfl) rfl
                refine opg_plain rfl rfl (op_pick_f (c := !x338) (b := (Value.bool (x336 != x338))) rfl q7558 hc295 q7559 ?_)
                refine ⟨_, _, rfl, PH.Le.refl _, ?_, ?_⟩
                ·
                 exact rfl
                ·
                 exact I5499
               ·
                intro vs4428 f w5430 S4453 le4453 hF108 hK4428 hI4438
                have e1293 : f 1 = (Value.int .i64 (a1)) := (hK4428 1 (keep_all rfl)).trans e1271
                have e1294 : f 2 = (Value.slice z2 m2 k2) := (hK4428 2 (keep_all rfl)).trans e1272
                have e1295 : f 3 = (Value.pointer (some ⟨g1, 0, none⟩)) := (hK4428 3 (keep_all rfl)).trans e1273
                have e1296 : f 7 = (Value.slice z6 m6 k6) := (hK4428 7 (keep_all rfl)).trans e1274
                have e1297 : f 11 = (Value.slice z21 m21 k21) := (hK4428 11 (keep_all rfl)).trans e1275
                have e1298 : f 13 = (Value.int .i64 ((i5 : Int))) := (hK4428 13 (keep_all rfl)).trans e1276
                have e1299 : f 14 = (Value.int .i64 ((i6 : Int))) := (hK4428 14 (keep_all rfl)).trans e1277
                have I5500 : Inv w5430 S4453 (Row (α := Int) 3 (Value.slice z6 m6 k6) (x9.1) :: Row (α := Int) 3 (Value.slice z21 m21 k21) (x23.1) :: Fr) := hI4438
                have q7560 : f 154 = (Value.bool (x336 != x338)) := vt (hF108.at_ 39 rfl _ rfl) rfl
                rcases ifs h107 with ⟨hc299, h107⟩ | ⟨hc299, h107⟩
                ·
                 refine wp_cond_t (b := x336 != x338) q7560 hc299 ?_
                 refine wp_seq' ?_
                 refine wp_region' ?_
                 refine wl_op rfl (op_assign (v := (Value.bool (false))) rfl rfl ?_)
                 refine wl_nil ?_
                 refine wp_ret' ?_
                 obtain rfl := Option.some.inj h107
                 obtain rfl := (hout6 _ rfl)
                 have h108 := h87
                 obtain rfl := Option.some.inj h108
                 obtain rfl := (hout5 _ rfl)
                 have h88 := h
                 obtain rfl := Option.some.inj h88
                 exact ⟨(Value.bool (false)), (res1 rfl rfl), _, [], ((((le1.trans le2).trans le3466).trans le4330).trans le4453), ((I5500).drop).drop, rfl, rfl⟩
                ·
                 refine wp_cond_f (b := x336 != x338) q7560 hc299 ?_
                 refine wp_skip' ?_
                 refine wp_region' ?_
                 refine wl_op rfl (op_move (v := (Value.int .i64 ((i6 : Int)))) rfl e1299 ?_)
                 refine wl_op rfl (op_add (a := (i6 : Int)) (b := 1) rfl rfl rfl ?_)
                 refine wl_op rfl (op_assign (v := (Value.int .i64 (w64 ((i6 : Int) + 1)))) rfl rfl ?_)
                 refine wl_nil ?_
                 obtain rfl := Option.some.inj h107
                 exact ⟨_, rfl, _, (le4330.trans le4453), ((I5500.pull 1).pull 1), e1293, e1294, e1295, e1296, e1297, e1298, (idx_next hlt6 hk5)⟩
              ·
               refine wp_draw (sps := [⟨some 115, [], [0], fun vs_ T_ => fr0 vs_ 0 = (Value.slice z6 m6 k6), [], [], [], fun _ h_ => h_⟩, ⟨some 116, [], [1], fun vs_ T_ => fr0 vs_ 0 = (Value.int .i64 ((i5 : Int))), [], [], [], fun _ h_ => h_⟩, ⟨some 117, [0, 1], [2], fun vs_ T_ => fr0 vs_ 0 = (elemPtr (Value.slice z6 m6 k6) ((i5 : Int)) (Enc.sz Int)), [0], [], [], fun _ h_ => h_⟩, ⟨some 118, [0, 1, 2], [3], fun vs_ T_ => fr0 vs_ 0 = (Value.int .i64 (x335)), [0], [], [], fun _ h_ => h_⟩, ⟨some 119, [], [4], fun vs_ T_ => fr0 vs_ 0 = (Value.int .i64 ((i6 : Int))), [], [], [], fun _ h_ => h_⟩, ⟨some 120, [0, 1, 2, 3, 4], [5], fun vs_ T_ => fr0 vs_ 0 = (Value.bool (x336)), [], [], [], fun _ h_ => h_⟩, ⟨some 121, [0, 1, 2, 3, 4, 5], [6], fun vs_ T_ => fr0 vs_ 0 = (Value.bool (x336)), [], [], [], fun _ h_ => h_⟩, ⟨some 122, [0, 1, 2, 3, 4, 5, 6], [7], fun vs_ T_ => fr0 vs_ 0 = (Value.slice z21 m21 k21), [], [], [], fun _ h_ => h_⟩, ⟨some 123, [0, 1, 2, 3, 4, 5, 6], [8], fun vs_ T_ => fr0 vs_ 0 = (Value.int .i64 ((i5 : Int))), [], [], [], fun _ h_ => h_⟩, ⟨some 124, [0, 1, 2, 3, 4, 5, 6, 7, 8], [9], fun vs_ T_ => fr0 vs_ 0 = (elemPtr (Value.slice z21 m21 k21) ((i5 : Int)) (Enc.sz Int)), [1], [], [], fun _ h_ => h_⟩, ⟨some 125, [0, 1, 2, 3, 4, 5, 6, 7, 8, 9], [10], fun vs_ T_ => fr0 vs_ 0 = (Value.int .i64 (x337)), [1], [], [], fun _ h_ => h_⟩, ⟨some 126, [0, 1, 2, 3, 4, 5, 6], [11], fun vs_ T_ => fr0 vs_ 0 = (Value.int .i64 ((i6 : Int))), [], [], [], fun _ h_ => h_⟩, ⟨some 127, [0, 1, 2, 3, 4, 5, 6, 7, 8, 9, 10, 11], [12], fun vs_ T_ => fr0 vs_ 0 = (Value.bool (x338)), [], [], [], fun _ h_ => h_⟩, ⟨some 128, [0, 1, 2, 3, 4, 5, 6, 7, 8, 9, 10, 11, 12], [13], fun vs_ T_ => fr0 vs_ 0 = (Value.bool (!x338)), [], [], [], fun _ h_ => h_⟩, ⟨some 129, [0, 1, 2, 3, 4, 5, 6, 7, 8, 9, 10, 11, 12, 13], [14], fun vs_ T_ => fr0 vs_ 0 = (Value.bool (!x338)), [], [], [], fun _ h_ => h_⟩, ⟨some 130, [0, 1, 2, 3, 4, 5, 6, 7, 8, 9, 10, 11, 12, 13, 14], [15], fun vs_ T_ => fr0 vs_ 0 = (Value.bool (!x338)), [], [], [], fun _ h_ => h_⟩, ⟨some 131, [0, 1, 2, 3, 4, 5, 6, 7, 8, 9, 10, 11, 12, 13, 14, 15], [16], fun vs_ T_ => fr0 vs_ 0 = (Value.bool (v35)), [], [], [], fun _ h_ => h_⟩, ⟨some 132, [0, 1, 2, 3, 4, 5, 6, 7, 8, 9, 10, 11, 12, 13, 14, 15, 16], [17], fun vs_ T_ => fr0 vs_ 0 = (Value.bool (v35)), [], [], [], fun _ h_ => h_⟩, ⟨some 133, [0, 1, 2, 3, 4, 5, 6, 7, 8, 9, 10, 11, 12, 13, 14, 15, 16, 17], [18], fun vs_ T_ => fr0 vs_ 0 = (Value.slice z2 m2 k2), [], [], [], fun _ h_ => h_⟩, ⟨some 134, [0, 1, 2, 3, 4, 5, 6, 7, 8, 9, 10, 11, 12, 13, 14, 15, 16, 17], [19], fun vs_ T_ => fr0 vs_ 0 = (Value.int .i64 ((i5 : Int))), [], [], [], fun _ h_ => h_⟩, ⟨some 135, [0, 1, 2, 3, 4, 5, 6, 7, 8, 9, 10, 11, 12, 13, 14, 15, 16, 17], [20], fun vs_ T_ => fr0 vs_ 0 = (Value.int .i64 ((i6 : Int))), [], [], [], fun _ h_ => h_⟩, ⟨some 136, [0, 1, 2, 3, 4, 5, 6, 7, 8, 9, 10, 11, 12, 13, 14, 15, 16, 17, 18, 19, 20], [21], fun vs_ T_ => fr0 vs_ 0 = (Value.bool (x339)), [], [], [], fun _ h_ => h_⟩, ⟨some 137, [0, 1, 2, 3, 4, 5, 6, 7, 8, 9, 10, 11, 12, 13, 14, 15, 16, 17, 18, 19, 20, 21], [22], fun vs_ T_ => fr0 vs_ 0 = (Value.bool (!x339)), [], [], [], fun _ h_ => h_⟩, ⟨some 138, [0, 1, 2, 3, 4, 5, 6, 7, 8, 9, 10, 11, 12, 13, 14, 15, 16, 17, 18, 19, 20, 21, 22], [23], fun vs_ T_ => fr0 vs_ 0 = (Value.bool (!x339)), [], [], [], fun _ h_ => h_⟩, ⟨some 139, [0, 1, 2, 3, 4, 5, 6, 7, 8, 9, 10, 11, 12, 13, 14, 15, 16, 17, 18, 19, 20, 21, 22, 23], [24], fun vs_ T_ => fr0 vs_ 0 = (Value.bool (!x339)), [], [], [], fun _ h_ => h_⟩, ⟨some 140, [0, 1, 2, 3, 4, 5, 6, 7, 8, 9, 10, 11, 12, 13, 14, 15, 16, 17, 18, 19, 20, 21, 22, 23, 24], [25], fun vs_ T_ => fr0 vs_ 0 = undef, [], [], [], fun _ h_ => h_⟩, ⟨some 141, [0, 1, 2, 3, 4, 5, 6, 7, 8, 9, 10, 11, 12, 13, 14, 15, 16, 17, 18, 19, 20, 21, 22, 23, 24], [26], fun vs_ T_ => fr0 vs_ 0 = undef, [], [], [], fun _ h_ => h_⟩, ⟨some 142, [0, 1, 2, 3, 4, 5, 6, 7, 8, 9, 10, 11, 12, 13, 14, 15, 16, 17, 18, 19, 20, 21, 22, 23, 24, 25, 26], [27], fun vs_ T_ => fr0 vs_ 0 = undef, [], [], [], fun _ h_ => h_⟩, ⟨some 143, [0, 1, 2, 3, 4, 5, 6, 7, 8, 9, 10, 11, 12, 13, 14, 15, 16, 17, 18, 19, 20, 21, 22, 23, 24, 25, 26, 27], [28], fun vs_ T_ => fr0 vs_ 0 = undef, [], [], [], fun _ h_ => h_⟩, ⟨some 144, [0, 1, 2, 3, 4, 5, 6, 7, 8, 9, 10, 11, 12, 13, 14, 15, 16, 17, 18, 19, 20, 21, 22, 23, 24], [29], fun vs_ T_ => fr0 vs_ 0 = undef, [], [], [], fun _ h_ => h_⟩, ⟨some 145, [0, 1, 2, 3, 4, 5, 6, 7, 8, 9, 10, 11, 12, 13, 14, 15, 16, 17, 18, 19, 20, 21, 22, 23, 24, 25, 26, 27, 28, 29], [30], fun vs_ T_ => fr0 vs_ 0 = undef, [], [], [], fun _ h_ => h_⟩, ⟨some 146, [0, 1, 2, 3, 4, 5, 6, 7, 8, 9, 10, 11, 12, 13, 14, 15, 16, 17, 18, 19, 20, 21, 22, 23, 24], [31], fun vs_ T_ => fr0 vs_ 0 = undef, [], [], [], fun _ h_ => h_⟩, ⟨some 147, [0, 1, 2, 3, 4, 5, 6, 7, 8, 9, 10, 11, 12, 13, 14, 15, 16, 17, 18, 19, 20, 21, 22, 23, 24], [32], fun vs_ T_ => fr0 vs_ 0 = undef, [], [], [], fun _ h_ => h_⟩, ⟨some 148, [0, 1, 2, 3, 4, 5, 6, 7, 8, 9, 10, 11, 12, 13, 14, 15, 16, 17, 18, 19, 20, 21, 22, 23, 24, 31, 32], [33], fun vs_ T_ => fr0 vs_ 0 = undef, [], [], [], fun _ h_ => h_⟩, ⟨some 149, [0, 1, 2, 3, 4, 5, 6, 7, 8, 9, 10, 11, 12, 13, 14, 15, 16, 17, 18, 19, 20, 21, 22, 23, 24, 31, 32, 33], [34], fun vs_ T_ => fr0 vs_ 0 = undef, [], [], [], fun _ h_ => h_⟩, ⟨some 150, [0, 1, 2, 3, 4, 5, 6, 7, 8, 9, 10, 11, 12, 13, 14, 15, 16, 17, 18, 19, 20, 21, 22, 23, 24], [35], fun vs_ T_ => fr0 vs_ 0 = undef, [], [], [], fun _ h_ => h_⟩, ⟨some 151, [0, 1, 2, 3, 4, 5, 6, 7, 8, 9, 10, 11, 12, 13, 14, 15, 16, 17, 18, 19, 20, 21, 22, 23, 24, 25, 26, 27, 28, 29, 30, 31, 32, 33, 34, 35], [36], fun vs_ T_ => fr0 vs_ 0 = undef, [], [], [], fun _ h_ => h_⟩, ⟨some 152, [0, 1, 2, 3, 4, 5, 6, 7, 8, 9, 10, 11, 12, 13, 14, 15, 16, 17, 18, 19, 20, 21, 22, 23, 24, 25, 26, 27, 28, 29, 30, 31, 32, 33, 34, 35, 36], [37], fun vs_ T_ => fr0 vs_ 0 = undef, [], [], [], fun _ h_ => h_⟩, ⟨some 153, [0, 1, 2, 3, 4, 5, 6, 7, 8, 9, 10, 11, 12, 13, 14, 15, 16, 17, 18, 19, 20, 21, 22, 23, 24, 25, 26, 27, 28, 29, 30, 31, 32, 33, 34, 35, 36, 37], [38], fun vs_ T_ => fr0 vs_ 0 = (Value.bool (false)), [], [], [], fun _ h_ => h_⟩, ⟨some 154, [0, 1, 2, 3, 4, 5, 6, 7, 8, 9, 10, 11, 12, 13, 14, 15, 16, 17, 18, 19, 20, 21, 22, 23, 24, 25, 26, 27, 28, 29, 30, 31, 32, 33, 34, 35, 36, 37, 38], [39], fun vs_ T_ => fr0 vs_ 0 = (Value.bool (false)), [], [], [], fun _ h_ => h_⟩]) (tks := [⟨none, none, [], fun vs_ => Row (α := Int) 3 (Value.slice z6 m6 k6) (x9.1)⟩, ⟨none, none, [], fun vs_ => Row (α := Int) 3 (Value.slice z21 m21 k21) (x23.1)⟩]) (O := Fr) rfl (by kernel_rfl) ((I5347.pull 1).pull 1) ⟨?_, ?_, ?_, ?_, ?_, ?_, ?_, ?_, ?_, ?_, ?_, ?_, ?_, ?_, ?_, ?_, ?_, ?_, ?_, ?_, ?_, ?_, ?_, ?_, ?_, ?_, ?_, ?_, ?_, ?_, ?_, ?_, ?_, ?_, ?_, ?_, ?_, ?_, ?_, ?_, trivial⟩ ?_
               ·
                intro vs4429 f w5434 S4454 X4321 le4454 hA4321 hK4429 hI4439
                have I5504 : Inv w5434 S4454 (X4321) := hI4439
                refine opg_plain rfl rfl (op_move (v := (Value.slice z6 m6 k6)) rfl ((hK4429 7 (keep_of rfl)).trans e1274) ?_)
                refine ⟨_, _, rfl, PH.Le.refl _, ?_, ?_⟩
                ·
                 exact rfl
                ·
                 exact I5504
               ·
                intro vs4430 f w5435 S4455 X4322 le4455 hA4322 hK4430 hI4440
                have I5505 : Inv w5435 S4455 (X4322) := hI4440
                refine opg_plain rfl rfl (op_move (v := (Value.int .i64 ((i5 : Int)))) rfl ((hK4430 13 (keep_of rfl)).trans e1276) ?_)
                refine ⟨_, _, rfl, PH.Le.refl _, ?_, ?_⟩
                ·
                 exact rfl
                ·
                 exact I5505
               ·
                intro vs4431 f w5436 S4456 X4323 le4456 hA4323 hK4431 hI4441
                have I5506 : Inv w5436 S4456 (Row (α := Int) 3 (Value.slice z6 m6 k6) (x9.1) :: X4323) := hI4441
                have q7561 : f 115 = (Value.slice z6 m6 k6) := vt (hA4323.at_ 0 rfl _ rfl) rfl
                have q7562 : f 116 = (Value.int .i64 ((i5 : Int))) := vt (hA4323.at_ 1 rfl _ rfl) rfl
                refine opg_plain rfl rfl (op_indexAddr_src (v := (Value.slice z6 m6 k6)) (i := (i5 : Int)) (e := x335) rfl Try.underlying34 sh3 q7561 (Inv.rowSrc (I5506.nth 0 rfl)) q7562 hx335 ?_)
                refine ⟨_, _, rfl, PH.Le.refl _, ?_, ?_⟩
                ·
                 exact rfl
                ·
                 exact I5506
               ·
                intro vs4432 f w5437 S4457 X4324 le4457 hA4324 hK4432 hI4442
                have I5507 : Inv w5437 S4457 (Row (α := Int) 3 (Value.slice z6 m6 k6) (x9.1) :: X4324) := hI4442
                have q7563 : f 117 = (elemPtr (Value.slice z6 m6 k6) ((i5 : Int)) (Enc.sz Int)) := vt (hA4324.at_ 2 rfl _ rfl) rfl
                refine opg_plain rfl rfl (op_load_int (v := (elemPtr (Value.slice z6 m6 k6) ((i5 : Int)) (Enc.sz Int))) (e := x335) rfl sh3 q7563 ((I5507.nth 0 rfl).rowElem hx335) ?_)
                refine ⟨_, _, rfl, PH.Le.refl _, ?_, ?_⟩
                ·
                 exact rfl
                ·
                 exact I5507
               ·
                intro vs4433 f w5438 S4458 X4325 le4458 hA4325 hK4433 hI4443
                have I5508 : Inv w5438 S4458 (X4325) := hI4443
                refine opg_plain rfl rfl (op_move (v := (Value.int .i64 ((i6 : Int)))) rfl ((hK4433 14 (keep_of rfl)).trans e1277) ?_)
                refine ⟨_, _, rfl, PH.Le.refl _, ?_, ?_⟩
                ·
                 exact rfl
                ·
                 exact I5508
               ·
                intro vs4434 f w5439 S4459 X4326 le4459 hA4326 hK4434 hI4444
                have I5509 : Inv w5439 S4459 (X4326) := hI4444
                have q7564 : f 118 = (Value.int .i64 (x335)) := vt (hA4326.at_ 3 rfl _ rfl) rfl
                have q7565 : f 119 = (Value.int .i64 ((i6 : Int))) := vt (hA4326.at_ 4 rfl _ rfl) rfl
                refine opg_plain rfl rfl (op_call_v (vs := [(Value.int .i64 (x335)), (Value.int .i64 ((i6 : Int)))]) (r := (Value.bool (x336))) rfl ca19 rfl (args2 q7564 q7565) I5509 (fun Fr_ hF_ => F19_ok hF_  hx336) (fun w5440 I5510 => ?_))
                refine ⟨_, _, rfl, PH.Le.refl _, ?_, ?_⟩
                ·
                 exact rfl
                ·
                 exact I5510
               ·
                intro vs4435 f w5441 S4460 X4327 le4460 hA4327 hK4435 hI4445
                have I5511 : Inv w5441 S4460 (X4327) := hI4445
                have q7566 : f 120 = (Value.bool (x336)) := vt (hA4327.at_ 5 rfl _ rfl) rfl
                refine opg_plain rfl rfl (op_move (v := (Value.bool (x336))) rfl q7566 ?_)
                refine ⟨_, _, rfl, PH.Le.refl _, ?_, ?_⟩
                ·
                 exact rfl
                ·
                 exact I5511
               ·
                intro vs4436 f w5442 S4461 X4328 le4461 hA4328 hK4436 hI4446
                have I5512 : Inv w5442 S4461 (X4328) := hI4446
                have q7567 : f 121 = (Value.bool (x336)) := vt (hA4328.at_ 6 rfl _ rfl) rfl
                refine opg_taken (c := x336) rfl rfl rfl rfl q7567 hc294 (op_move (v := (Value.slice z21 m21 k21)) rfl ((hK4436 11 (keep_of rfl)).trans e1275) ?_)
                refine ⟨_, _, rfl, PH.Le.refl _, ?_, ?_⟩
                ·
                 exact rfl
                ·
                 exact I5512
               ·
                intro vs4437 f w5443 S4462 X4329 le4462 hA4329 hK4437 hI4447
                have I5513 : Inv w5443 S4462 (X4329) := hI4447
                have q7568 : f 121 = (Value.bool (x336)) := vt (hA4329.at_ 6 rfl _ rfl) rfl
                refine opg_taken (c := x336) rfl rfl rfl rfl q7568 hc294 (op_move (v := (Value.int .i64 ((i5 : Int)))) rfl ((hK4437 13 (keep_of rfl)).trans e1276) ?_)
                refine ⟨_, _, rfl, PH.Le.refl _, ?_, ?_⟩
                ·
                 exact rfl
                ·
                 exact I5513
               ·
                intro vs4438 f w5444 S4463 X4330 le4463 hA4330 hK4438 hI4448
                have I5514 : Inv w5444 S4463 (Row (α := Int) 3 (Value.slice z21 m21 k21) (x23.1) :: X4330) := hI4448
                have q7569 : f 121 = (Value.bool (x336)) := vt (hA4330.at_ 6 rfl _ rfl) rfl
                have q7570 : f 122 = (Value.slice z21 m21 k21) := vt (hA4330.at_ 7 rfl _ rfl) rfl
                have q7571 : f 123 = (Value.int .i64 ((i5 : Int))) := vt (hA4330.at_ 8 rfl _ rfl) rfl
                refine opg_taken (c := x336) rfl rfl rfl rfl q7569 hc294 (op_indexAddr_src (v := (Value.slice z21 m21 k21)) (i := (i5 : Int)) (e := x337) rfl Try.underlying34 sh3 q7570 (Inv.rowSrc (I5514.nth 0 rfl)) q7571 hx337 ?_)
                refine ⟨_, _, rfl, PH.Le.refl _, ?_, ?_⟩
                ·
                 exact rfl
                ·
                 exact I5514
               ·
                intro vs4439 f w5445 S4464 X4331 le4464 hA4331 hK4439 hI4449
                have I5515 : Inv w5445 S4464 (Row (α := Int) 3 (Value.slice z21 m21 k21) (x23.1) :: X4331) := hI4449
                have q7572 : f 121 = (Value.bool (x336)) := vt (hA4331.at_ 6 rfl _ rfl) rfl
                have q7573 : f 124 = (elemPtr (Value.slice z21 m21 k21) ((i5 : Int)) (Enc.sz Int)) := vt (hA4331.at_ 9 rfl _ rfl) rfl
                refine opg_taken (c := x336) rfl rfl rfl rfl q7572 hc294 (op_load_int (v := (elemPtr (Value.slice z21 m21 k21) ((i5 : Int)) (Enc.sz Int))) (e := x337) rfl sh3 q7573 ((I5515.nth 0 rfl).rowElem hx337) ?_)
                refine ⟨_, _, rfl, PH.Le.refl _, ?_, ?_⟩
                ·
                 exact rfl
                ·
                 exact I5515
               ·
                intro vs4440 f w5446 S4465 X4332 le4465 hA4332 hK4440 hI4450
                have I5516 : Inv w5446 S4465 (X4332) := hI4450
                have q7574 : f 121 = (Value.bool (x336)) := vt (hA4332.at_ 6 rfl _ rfl) rfl
                refine opg_taken (c := x336) rfl rfl rfl rfl q7574 hc294 (op_move (v := (Value.int .i64 ((i6 : Int)))) rfl ((hK4440 14 (keep_of rfl)).trans e1277) ?_)
                refine ⟨_, _, rfl, PH.Le.refl _, ?_, ?_⟩
                ·
                 exact rfl
                ·
                 exact I5516
               ·
                intro vs4441 f w5447 S4466 X4333 le4466 hA4333 hK4441 hI4451
                have I5517 : Inv w5447 S4466 (X4333) := hI4451
                have q7575 : f 121 = (Value.bool (x336)) := vt (hA4333.at_ 6 rfl _ rfl) rfl
                have q7576 : f 125 = (Value.int .i64 (x337)) := vt (hA4333.at_ 10 rfl _ rfl) rfl
                have q7577 : f 126 = (Value.int .i64 ((i6 : Int))) := vt (hA4333.at_ 11 rfl _ rfl) rfl
                refine opg_taken (c := x336) rfl rfl rfl rfl q7575 hc294 (op_call_v (vs := [(Value.int .i64 (x337)), (Value.int .i64 ((i6 : Int)))]) (r := (Value.bool (x338))) rfl ca19 rfl (args2 q7576 q7577) I5517 (fun Fr_ hF_ => F19_ok hF_  hx338) (fun w5448 I5518 => ?_))
                refine ⟨_, _, rfl, PH.Le.refl _, ?_, ?_⟩
                ·
                 exact rfl
                ·
                 exact I5518
               ·
                intro vs4442 f w5449 S4467 X4334 le4467 hA4334 hK4442 hI4452
                have I5519 : Inv w5449 S4467 (X4334) := hI4452
                have q7578 : f 121 = (Value.bool (x336)) := vt (hA4334.at_ 6 rfl _ rfl) rfl
                have q7579 : f 127 = (Value.bool (x338)) := vt (hA4334.at_ 12 rfl _ rfl) rfl
                refine opg_taken (c := x336) rfl rfl rfl rfl q7578 hc294 (op_not (b := x338) rfl q7579 ?_)
                refine ⟨_, _, rfl, PH.Le.refl _, ?_, ?_⟩
                ·
                 exact rfl
                ·
                 exact I5519
               ·
                intro vs4443 f w5450 S4468 X4335 le4468 hA4335 hK4443 hI4453
                have I5520 : Inv w5450 S4468 (X4335) := hI4453
                have q7580 : f 121 = (Value.bool (x336)) := vt (hA4335.at_ 6 rfl _ rfl) rfl
                have q7581 : f 128 = (Value.bool (!x338)) := vt (hA4335.at_ 13 rfl _ rfl) rfl
                refine opg_plain rfl rfl (op_pick_t (c := x336) (a := (Value.bool (!x338))) rfl q7580 hc294 q7581 ?_)
                refine ⟨_, _, rfl, PH.Le.refl _, ?_, ?_⟩
                ·
                 exact rfl
                ·
                 exact I5520
               ·
                intro vs4444 f w5451 S4469 X4336 le4469 hA4336 hK4444 hI4454
                have I5521 : Inv w5451 S4469 (X4336) := hI4454
                have q7582 : f 129 = (Value.bool (!x338)) := vt (hA4336.at_ 14 rfl _ rfl) rfl
                refine opg_plain rfl rfl (op_move (v := (Value.bool (!x338))) rfl q7582 ?_)
                refine ⟨_, _, rfl, PH.Le.refl _, ?_, ?_⟩
                ·
                 exact rfl
                ·
                 exact I5521
               ·
                intro vs4445 f w5452 S4470 X4337 le4470 hA4337 hK4445 hI4455
                have I5522 : Inv w5452 S4470 (X4337) := hI4455
                have q7583 : f 130 = (Value.bool (!x338)) := vt (hA4337.at_ 15 rfl _ rfl) rfl
                refine opg_taken (c := !x338) rfl rfl rfl rfl q7583 hc295 (op_move (v := (Value.bool (v35))) rfl ((hK4445 15 (keep_of rfl)).trans e1278) ?_)
                refine ⟨_, _, rfl, PH.Le.refl _, ?_, ?_⟩
                ·
                 exact rfl
                ·
                 exact I5522
               ·
                intro vs4446 f w5453 S4471 X4338 le4471 hA4338 hK4446 hI4456
                have I5523 : Inv w5453 S4471 (X4338) := hI4456
                have q7584 : f 130 = (Value.bool (!x338)) := vt (hA4338.at_ 15 rfl _ rfl) rfl
                have q7585 : f 131 = (Value.bool (v35)) := vt (hA4338.at_ 16 rfl _ rfl) rfl
                refine opg_taken (c := !x338) rfl rfl rfl rfl q7584 hc295 (op_move (v := (Value.bool (v35))) rfl q7585 ?_)
                refine ⟨_, _, rfl, PH.Le.refl _, ?_, ?_⟩
                ·
                 exact rfl
                ·
                 exact I5523
               ·
                intro vs4447 f w5454 S4472 X4339 le4472 hA4339 hK4447 hI4457
                have I5524 : Inv w5454 S4472 (X4339) := hI4457
                have q7586 : f 132 = (Value.bool (v35)) := vt (hA4339.at_ 17 rfl _ rfl) rfl
                refine opg_taken (c := v35) rfl rfl rfl rfl q7586 hc296 (op_move (v := (Value.slice z2 m2 k2)) rfl ((hK4447 2 (keep_of rfl)).trans e1272) ?_)
                refine ⟨_, _, rfl, PH.Le.refl _, ?_, ?_⟩
                ·
                 exact rfl
                ·
                 exact I5524
               ·
                intro vs4448 f w5455 S4473 X4340 le4473 hA4340 hK4448 hI4458
                have I5525 : Inv w5455 S4473 (X4340) := hI4458
                have q7587 : f 132 = (Value.bool (v35)) := vt (hA4340.at_ 17 rfl _ rfl) rfl
                refine opg_taken (c := v35) rfl rfl rfl rfl q7587 hc296 (op_move (v := (Value.int .i64 ((i5 : Int)))) rfl ((hK4448 13 (keep_of rfl)).trans e1276) ?_)
                refine ⟨_, _, rfl, PH.Le.refl _, ?_, ?_⟩
                ·
                 exact rfl
                ·
                 exact I5525
               ·
                intro vs4449 f w5456 S4474 X4341 le4474 hA4341 hK4449 hI4459
                have I5526 : Inv w5456 S4474 (X4341) := hI4459
                have q7588 : f 132 = (Value.bool (v35)) := vt (hA4341.at_ 17 rfl _ rfl) rfl
                refine opg_taken (c := v35) rfl rfl rfl rfl q7588 hc296 (op_move (v := (Value.int .i64 ((i6 : Int)))) rfl ((hK4449 14 (keep_of rfl)).trans e1277) ?_)
                refine ⟨_, _, rfl, PH.Le.refl _, ?_, ?_⟩
                ·
                 exact rfl
                ·
                 exact I5526
               ·
                intro vs4450 f w5457 S4475 X4342 le4475 hA4342 hK4450 hI4460
                have I5527 : Inv w5457 S4475 (X4342) := hI4460
                have q7589 : f 132 = (Value.bool (v35)) := vt (hA4342.at_ 17 rfl _ rfl) rfl
                have q7590 : f 133 = (Value.slice z2 m2 k2) := vt (hA4342.at_ 18 rfl _ rfl) rfl
                have q7591 : f 134 = (Value.int .i64 ((i5 : Int))) := vt (hA4342.at_ 19 rfl _ rfl) rfl
                have q7592 : f 135 = (Value.int .i64 ((i6 : Int))) := vt (hA4342.at_ 20 rfl _ rfl) rfl
                refine opg_taken (c := v35) rfl rfl rfl rfl q7589 hc296 (op_call_v (vs := [(Value.slice z2 m2 k2), (Value.int .i64 ((i5 : Int))), (Value.int .i64 ((i6 : Int)))]) (r := (Value.bool (x339))) rfl ca26 rfl (args3 q7590 q7591 q7592) I5527 (fun Fr_ hF_ => F26_ok hF_ (h2_.mono ((((le1.trans le2).trans le3466).trans le4330).trans le4475)) hx339) (fun w5458 I5528 => ?_))
                refine ⟨_, _, rfl, PH.Le.refl _, ?_, ?_⟩
                ·
                 exact rfl
                ·
                 exact I5528
               ·
                intro vs4451 f w5459 S4476 X4343 le4476 hA4343 hK4451 hI4461
                have I5529 : Inv w5459 S4476 (X4343) := hI4461
                have q7593 : f 132 = (Value.bool (v35)) := vt (hA4343.at_ 17 rfl _ rfl) rfl
                have q7594 : f 136 = (Value.bool (x339)) := vt (hA4343.at_ 21 rfl _ rfl) rfl
                refine opg_taken (c := v35) rfl rfl rfl rfl q7593 hc296 (op_not (b := x339) rfl q7594 ?_)
                refine ⟨_, _, rfl, PH.Le.refl _, ?_, ?_⟩
                ·
                 exact rfl
                ·
                 exact I5529
               ·
                intro vs4452 f w5460 S4477 X4344 le4477 hA4344 hK4452 hI4462
                have I5530 : Inv w5460 S4477 (X4344) := hI4462
                have q7595 : f 130 = (Value.bool (!x338)) := vt (hA4344.at_ 15 rfl _ rfl) rfl
                have q7596 : f 132 = (Value.bool (v35)) := vt (hA4344.at_ 17 rfl _ rfl) rfl
                have q7597 : f 137 = (Value.bool (!x339)) := vt (hA4344.at_ 22 rfl _ rfl) rfl
                refine opg_taken (c := !x338) rfl rfl rfl rfl q7595 hc295 (op_pick_f (c := v35) (b := (Value.bool (!x339))) rfl q7596 hc296 q7597 ?_)
                refine ⟨_, _, rfl, PH.Le.refl _, ?_, ?_⟩
                ·
                 exact rfl
                ·
                 exact I5530
               ·
                intro vs4453 f w5461 S4478 X4345 le4478 hA4345 hK4453 hI4463
                have I5531 : Inv w5461 S4478 (X4345) := hI4463
                have q7598 : f 130 = (Value.bool (!x338)) := vt (hA4345.at_ 15 rfl _ rfl) rfl
                have q7599 : f 138 = (Value.bool (!x339)) := vt (hA4345.at_ 23 rfl _ rfl) rfl
                refine opg_taken (c := !x338) rfl rfl rfl rfl q7598 hc295 (op_move (v := (Value.bool (!x339))) rfl q7599 ?_)
                refine ⟨_, _, rfl, PH.Le.refl _, ?_, ?_⟩
                ·
                 exact rfl
                ·
                 exact I5531
               ·
                intro vs4454 f w5462 S4479 X4346 le4479 hA4346 hK4454 hI4464
                have I5532 : Inv w5462 S4479 (X4346) := hI4464
                have q7600 : f 139 = (Value.bool (!x339)) := vt (hA4346.at_ 24 rfl _ rfl) rfl
                exact opg_skip (c := !x339) rfl rfl rfl rfl q7600 hc298 rfl ⟨_, _, rfl, PH.Le.refl _, rfl, I5532⟩
               ·
                intro vs4455 f w5463 S4480 X4347 le4480 hA4347 hK4455 hI4465
                have I5533 : Inv w5463 S4480 (X4347) := hI4465
                have q7601 : f 139 = (Value.bool (!x339)) := vt (hA4347.at_ 24 rfl _ rfl) rfl
                exact opg_skip (c := !x339) rfl rfl rfl rfl q7601 hc298 rfl ⟨_, _, rfl, PH.Le.refl _, rfl, I5533⟩
               ·
                intro vs4456 f w5464 S4481 X4348 le4481 hA4348 hK4456 hI4466
                have I5534 : Inv w5464 S4481 (X4348) := hI4466
                have q7602 : f 139 = (Value.bool (!x339)) := vt (hA4348.at_ 24 rfl _ rfl) rfl
                have q7603 : f 140 = undef := vt (hA4348.at_ 25 rfl _ rfl) rfl
                have q7604 : f 141 = undef := vt (hA4348.at_ 26 rfl _ rfl) rfl
                exact opg_skip (c := !x339) rfl rfl rfl rfl q7602 hc298 rfl ⟨_, _, rfl, PH.Le.refl _, rfl, I5534⟩
               ·
                intro vs4457 f w5465 S4482 X4349 le4482 hA4349 hK4457 hI4467
                have I5535 : Inv w5465 S4482 (X4349) := hI4467
                have q7605 : f 139 = (Value.bool (!x339)) := vt (hA4349.at_ 24 rfl _ rfl) rfl
                have q7606 : f 142 = undef := vt (hA4349.at_ 27 rfl _ rfl) rfl
                exact opg_skip (c := !x339) rfl rfl rfl rfl q7605 hc298 rfl ⟨_, _, rfl, PH.Le.refl _, rfl, I5535⟩
               ·
                intro vs4458 f w5466 S4483 X4350 le4483 hA4350 hK4458 hI4468
                have I5536 : Inv w5466 S4483 (X4350) := hI4468
                have q7607 : f 139 = (Value.bool (!x339)) := vt (hA4350.at_ 24 rfl _ rfl) rfl
                exact opg_skip (c := !x339) rfl rfl rfl rfl q7607 hc298 rfl ⟨_, _, rfl, PH.Le.refl _, rfl, I5536⟩
               ·
                intro vs4459 f w5467 S4484 X4351 le4484 hA4351 hK4459 hI4469
                have I5537 : Inv w5467 S4484 (X4351) := hI4469
                have q7608 : f 139 = (Value.bool (!x339)) := vt (hA4351.at_ 24 rfl _ rfl) rfl
                have q7609 : f 143 = undef := vt (hA4351.at_ 28 rfl _ rfl) rfl
                have q7610 : f 144 = undef := vt (hA4351.at_ 29 rfl _ rfl) rfl
                exact opg_skip (c := !x339) rfl rfl rfl rfl q7608 hc298 rfl ⟨_, _, rfl, PH.Le.refl _, rfl, I5537⟩
               ·
                intro vs4460 f w5468 S4485 X4352 le4485 hA4352 hK4460 hI4470
                have I5538 : Inv w5468 S4485 (X4352) := hI4470
                have q7611 : f 139 = (Value.bool (!x339)) := vt (hA4352.at_ 24 rfl _ rfl) rfl
                exact opg_skip (c := !x339) rfl rfl rfl rfl q7611 hc298 rfl ⟨_, _, rfl, PH.Le.refl _, rfl, I5538⟩
               ·
                intro vs4461 f w5469 S4486 X4353 le4486 hA4353 hK4461 hI4471
                have I5539 : Inv w5469 S4486 (X4353) := hI4471
                have q7612 : f 139 = (Value.bool (!x339)) := vt (hA4353.at_ 24 rfl _ rfl) rfl
                exact opg_skip (c := !x339) rfl rfl rfl rfl q7612 hc298 rfl ⟨_, _, rfl, PH.Le.refl _, rfl, I5539⟩
               ·
                intro vs4462 f w5470 S4487 X4354 le4487 hA4354 hK4462 hI4472
                have I5540 : Inv w5470 S4487 (X4354) := hI4472
                have q7613 : f 139 = (Value.bool (!x339)) := vt (hA4354.at_ 24 rfl _ rfl) rfl
                have q7614 : f 146 = undef := vt (hA4354.at_ 25 rfl _ rfl) rfl
                have q7615 : f 147 = undef := vt (hA4354.at_ 26 rfl _ rfl) rfl
                exact opg_skip (c := !x339) rfl rfl rfl rfl q7613 hc298 rfl ⟨_, _, rfl, PH.Le.refl _, rfl, I5540⟩
               ·
                intro vs4463 f w5471 S4488 X4355 le4488 hA4355 hK4463 hI4473
                have I5541 : Inv w5471 S4488 (X4355) := hI4473
                have q7616 : f 139 = (Value.bool (!x339)) := vt (hA4355.at_ 24 rfl _ rfl) rfl
                have q7617 : f 148 = undef := vt (hA4355.at_ 27 rfl _ rfl) rfl
                exact opg_skip (c := !x339) rfl rfl rfl rfl q7616 hc298 rfl ⟨_, _, rfl, PH.Le.refl _, rfl, I5541⟩
               ·
                intro vs4464 f w5472 S4489 X4356 le4489 hA4356 hK4464 hI4474
                have I5542 : Inv w5472 S4489 (X4356) := hI4474
                have q7618 : f 139 = (Value.bool (!x339)) := vt (hA4356.at_ 24 rfl _ rfl) rfl
                exact opg_skip (c := !x339) rfl rfl rfl rfl q7618 hc298 rfl ⟨_, _, rfl, PH.Le.refl _, rfl, I5542⟩
               ·
                intro vs4465 f w5473 S4490 X4357 le4490 hA4357 hK4465 hI4475
                have I5543 : Inv w5473 S4490 (X4357) := hI4475
                have q7619 : f 139 = (Value.bool (!x339)) := vt (hA4357.at_ 24 rfl _ rfl) rfl
                have q7620 : f 149 = undef := vt (hA4357.at_ 34 rfl _ rfl) rfl
                have q7621 : f 150 = undef := vt (hA4357.at_ 35 rfl _ rfl) rfl
                exact opg_skip (c := !x339) rfl rfl rfl rfl q7619 hc298 rfl ⟨_, _, rfl, PH.Le.refl _, rfl, I5543⟩
               ·
                intro vs4466 f w5474 S4491 X4358 le4491 hA4358 hK4466 hI4476
                have I5544 : Inv w5474 S4491 (X4358) := hI4476
                have q7622 : f 139 = (Value.bool (!x339)) := vt (hA4358.at_ 24 rfl _ rfl) rfl
                have q7623 : f 145 = undef := vt (hA4358.at_ 30 rfl _ rfl) rfl
                have q7624 : f 151 = undef := vt (hA4358.at_ 36 rfl _ rfl) rfl
                exact opg_skip (c := !x339) rfl rfl rfl rfl q7622 hc298 rfl ⟨_, _, rfl, PH.Le.refl _, rfl, I5544⟩
               ·
                intro vs4467 f w5475 S4492 X4359 le4492 hA4359 hK4467 hI4477
                have I5545 : Inv w5475 S4492 (X4359) := hI4477
                have q7625 : f 130 = (Value.bool (!x338)) := vt (hA4359.at_ 15 rfl _ rfl) rfl
                have q7626 : f 139 = (Value.bool (!x339)) := vt (hA4359.at_ 24 rfl _ rfl) rfl
                have q7627 : f 152 = undef := vt (hA4359.at_ 37 rfl _ rfl) rfl
                refine opg_taken (c := !x338) rfl rfl rfl rfl q7625 hc295 (op_pick_f (c := !x339) (b := (Value.bool (false))) rfl q7626 hc298 rfl ?_)
                refine ⟨_, _, rfl, PH.Le.refl _, ?_, ?_⟩
                ·
                 exact rfl
                ·
                 exact I5545
               ·
                intro vs4468 f w5476 S4493 X4360 le4493 hA4360 hK4468 hI4478
                have I5546 : Inv w5476 S4493 (X4360) := hI4478
                have q7628 : f 130 = (Value.bool (!x338)) := vt (hA4360.at_ 15 rfl _ rfl) rfl
                have q7629 : f 153 = (Value.bool (false)) := vt (hA4360.at_ 38 rfl _ rfl) rfl
                refine opg_plain rfl rfl (op_pick_f (c := !x338) (b := (Value.bool (false))) rfl q7628 hc295 q7629 ?_)
                refine ⟨_, _, rfl, PH.Le.refl _, ?_, ?_⟩
                ·
                 exact rfl
                ·
                 exact I5546
               ·
                intro vs4469 f w5477 S4494 le4494 hF109 hK4469 hI4479
                have e1300 : f 1 = (Value.int .i64 (a1)) := (hK4469 1 (keep_all rfl)).trans e1271
                have e1301 : f 2 = (Value.slice z2 m2 k2) := (hK4469 2 (keep_all rfl)).trans e1272
                have e1302 : f 3 = (Value.pointer (some ⟨g1, 0, none⟩)) := (hK4469 3 (keep_all rfl)).trans e1273
                have e1303 : f 7 = (Value.slice z6 m6 k6) := (hK4469 7 (keep_all rfl)).trans e1274
                have e1304 : f 11 = (Value.slice z21 m21 k21) := (hK4469 11 (keep_all rfl)).trans e1275
                have e1305 : f 13 = (Value.int .i64 ((i5 : Int))) := (hK4469 13 (keep_all rfl)).trans e1276
                have e1306 : f 14 = (Value.int .i64 ((i6 : Int))) := (hK4469 14 (keep_all rfl)).trans e1277
                have I5547 : Inv w5477 S4494 (Row (α := Int) 3 (Value.slice z6 m6 k6) (x9.1) :: Row (α := Int) 3 (Value.slice z21 m21 k21) (x23.1) :: Fr) := hI4479
                have q7630 : f 154 = (Value.bool (false)) := vt (hF109.at_ 39 rfl _ rfl) rfl
                refine wp_cond_f (b := false) q7630 rfl ?_
                refine wp_skip' ?_
                refine wp_region' ?_
                refine wl_op rfl (op_move (v := (Value.int .i64 ((i6 : Int)))) rfl e1306 ?_)
                refine wl_op rfl (op_add (a := (i6 : Int)) (b := 1) rfl rfl rfl ?_)
                refine wl_op rfl (op_assign (v := (Value.int .i64 (w64 ((i6 : Int) + 1)))) rfl rfl ?_)
                refine wl_nil ?_
                obtain rfl := Option.some.inj h107
                exact ⟨_, rfl, _, (le4330.trans le4494), ((I5547.pull 1).pull 1), e1300, e1301, e1302, e1303, e1304, e1305, (idx_next hlt6 hk5)⟩
           ·
            rcases ifs h107 with ⟨hc300, h107⟩ | ⟨hc300, h107⟩
            ·
             obtain ⟨x340, hx340, h107⟩ := bnd h107
             obtain ⟨x341, hx341, h107⟩ := bnd h107
             refine wp_draw (sps := [⟨some 115, [], [0], fun vs_ T_ => fr0 vs_ 0 = (Value.slice z6 m6 k6), [], [], [], fun _ h_ => h_⟩, ⟨some 116, [], [1], fun vs_ T_ => fr0 vs_ 0 = (Value.int .i64 ((i5 : Int))), [], [], [], fun _ h_ => h_⟩, ⟨some 117, [0, 1], [2], fun vs_ T_ => fr0 vs_ 0 = (elemPtr (Value.slice z6 m6 k6) ((i5 : Int)) (Enc.sz Int)), [0], [], [], fun _ h_ => h_⟩, ⟨some 118, [0, 1, 2], [3], fun vs_ T_ => fr0 vs_ 0 = (Value.int .i64 (x335)), [0], [], [], fun _ h_ => h_⟩, ⟨some 119, [], [4], fun vs_ T_ => fr0 vs_ 0 = (Value.int .i64 ((i6 : Int))), [], [], [], fun _ h_ => h_⟩, ⟨some 120, [0, 1, 2, 3, 4], [5], fun vs_ T_ => fr0 vs_ 0 = (Value.bool (x336)), [], [], [], fun _ h_ => h_⟩, ⟨some 121, [0, 1, 2, 3, 4, 5], [6], fun vs_ T_ => fr0 vs_ 0 = (Value.bool (x336)), [], [], [], fun _ h_ => h_⟩, ⟨some 122, [0, 1, 2, 3, 4, 5, 6], [7], fun vs_ T_ => fr0 vs_ 0 = undef, [], [], [], fun _ h_ => h_⟩, ⟨some 123, [0, 1, 2, 3, 4, 5, 6], [8], fun vs_ T_ => fr0 vs_ 0 = undef, [], [], [], fun _ h_ => h_⟩, ⟨some 124, [0, 1, 2, 3, 4, 5, 6, 7, 8], [9], fun vs_ T_ => fr0 vs_ 0 = undef, [], [], [], fun _ h_ => h_⟩, ⟨some 125, [0, 1, 2, 3, 4, 5, 6, 7, 8, 9], [10], fun vs_ T_ => fr0 vs_ 0 = undef, [], [], [], fun _ h_ => h_⟩, ⟨some 126, [0, 1, 2, 3, 4, 5, 6], [11], fun vs_ T_ => fr0 vs_ 0 = undef, [], [], [], fun _ h_ => h_⟩, ⟨some 127, [0, 1, 2, 3, 4, 5, 6, 7, 8, 9, 10, 11], [12], fun vs_ T_ => fr0 vs_ 0 = undef, [], [], [], fun _ h_ => h_⟩, ⟨some 128, [0, 1, 2, 3, 4, 5, 6, 7, 8, 9, 10, 11, 12], [13], fun vs_ T_ => fr0 vs_ 0 = undef, [], [], [], fun _ h_ => h_⟩, ⟨some 129, [0, 1, 2, 3, 4, 5, 6, 7, 8, 9, 10, 11, 12, 13], [14], fun vs_ T_ => fr0 vs_ 0 = (Value.bool (false)), [], [], [], fun _ h_ => h_⟩, ⟨some 130, [0, 1, 2, 3, 4, 5, 6, 7, 8, 9, 10, 11, 12, 13, 14], [15], fun vs_ T_ => fr0 vs_ 0 = (Value.bool (false)), [], [], [], fun _ h_ => h_⟩, ⟨some 131, [0, 1, 2, 3, 4, 5, 6, 7, 8, 9, 10, 11, 12, 13, 14, 15], [16], fun vs_ T_ => fr0 vs_ 0 = (Value.bool (v35)), [], [], [], fun _ h_ => h_⟩, ⟨some 132, [0, 1, 2, 3, 4, 5, 6, 7, 8, 9, 10, 11, 12, 13, 14, 15, 16], [17], fun vs_ T_ => fr0 vs_ 0 = (Value.bool (v35)), [], [], [], fun _ h_ => h_⟩, ⟨some 133, [0, 1, 2, 3, 4, 5, 6, 7, 8, 9, 10, 11, 12, 13, 14, 15, 16, 17], [18], fun vs_ T_ => fr0 vs_ 0 = undef, [], [], [], fun _ h_ => h_⟩, ⟨some 134, [0, 1, 2, 3, 4, 5, 6, 7, 8, 9, 10, 11, 12, 13, 14, 15, 16, 17], [19], fun vs_ T_ => fr0 vs_ 0 = undef, [], [], [], fun _ h_ => h_⟩, ⟨some 135, [0, 1, 2, 3, 4, 5, 6, 7, 8, 9, 10, 11, 12, 13, 14, 15, 16, 17], [20], fun vs_ T_ => fr0 vs_ 0 = undef, [], [], [], fun _ h_ => h_⟩, ⟨some 136, [0, 1, 2, 3, 4, 5, 6, 7, 8, 9, 10, 11, 12, 13, 14, 15, 16, 17, 18, 19, 20], [21], fun vs_ T_ => fr0 vs_ 0 = undef, [], [], [], fun _ h_ => h_⟩, ⟨some 137, [0, 1, 2, 3, 4, 5, 6, 7, 8, 9, 10, 11, 12, 13, 14, 15, 16, 17, 18, 19, 20, 21], [22], fun vs_ T_ => fr0 vs_ 0 = undef, [], [], [], fun _ h_ => h_⟩, ⟨some 138, [0, 1, 2, 3, 4, 5, 6, 7, 8, 9, 10, 11, 12, 13, 14, 15, 16, 17, 18, 19, 20, 21, 22], [23], fun vs_ T_ => fr0 vs_ 0 = (Value.bool (true)), [], [], [], fun _ h_ => h_⟩, ⟨some 139, [0, 1, 2, 3, 4, 5, 6, 7, 8, 9, 10, 11, 12, 13, 14, 15, 16, 17, 18, 19, 20, 21, 22, 23], [24], fun vs_ T_ => fr0 vs_ 0 = (Value.bool (true)), [], [], [], fun _ h_ => h_⟩, ⟨some 140, [0, 1, 2, 3, 4, 5, 6, 7, 8, 9, 10, 11, 12, 13, 14, 15, 16, 17, 18, 19, 20, 21, 22, 23, 24], [25], fun vs_ T_ => fr0 vs_ 0 = (Value.slice z6 m6 k6), [], [], [], fun _ h_ => h_⟩, ⟨some 141, [0, 1, 2, 3, 4, 5, 6, 7, 8, 9, 10, 11, 12, 13, 14, 15, 16, 17, 18, 19, 20, 21, 22, 23, 24], [26], fun vs_ T_ => fr0 vs_ 0 = (Value.int .i64 ((i5 : Int))), [], [], [], fun _ h_ => h_⟩, ⟨some 142, [0, 1, 2, 3, 4, 5, 6, 7, 8, 9, 10, 11, 12, 13, 14, 15, 16, 17, 18, 19, 20, 21, 22, 23, 24, 25, 26], [27], fun vs_ T_ => fr0 vs_ 0 = (elemPtr (Value.slice z6 m6 k6) ((i5 : Int)) (Enc.sz Int)), [0], [], [], fun _ h_ => h_⟩, ⟨some 143, [0, 1, 2, 3, 4, 5, 6, 7, 8, 9, 10, 11, 12, 13, 14, 15, 16, 17, 18, 19, 20, 21, 22, 23, 24, 25, 26, 27], [28], fun vs_ T_ => fr0 vs_ 0 = (Value.int .i64 (x335)), [0], [], [], fun _ h_ => h_⟩, ⟨some 144, [0, 1, 2, 3, 4, 5, 6, 7, 8, 9, 10, 11, 12, 13, 14, 15, 16, 17, 18, 19, 20, 21, 22, 23, 24], [29], fun vs_ T_ => fr0 vs_ 0 = (Value.int .i64 ((i6 : Int))), [], [], [], fun _ h_ => h_⟩, ⟨some 145, [0, 1, 2, 3, 4, 5, 6, 7, 8, 9, 10, 11, 12, 13, 14, 15, 16, 17, 18, 19, 20, 21, 22, 23, 24, 25, 26, 27, 28, 29], [30], fun vs_ T_ => fr0 vs_ 0 = (Value.bool (x336)), [], [], [], fun _ h_ => h_⟩, ⟨some 146, [0, 1, 2, 3, 4, 5, 6, 7, 8, 9, 10, 11, 12, 13, 14, 15, 16, 17, 18, 19, 20, 21, 22, 23, 24], [31], fun vs_ T_ => fr0 vs_ 0 = (Value.slice z21 m21 k21), [], [], [], fun _ h_ => h_⟩, ⟨some 147, [0, 1, 2, 3, 4, 5, 6, 7, 8, 9, 10, 11, 12, 13, 14, 15, 16, 17, 18, 19, 20, 21, 22, 23, 24], [32], fun vs_ T_ => fr0 vs_ 0 = (Value.int .i64 ((i5 : Int))), [], [], [], fun _ h_ => h_⟩, ⟨some 148, [0, 1, 2, 3, 4, 5, 6, 7, 8, 9, 10, 11, 12, 13, 14, 15, 16, 17, 18, 19, 20, 21, 22, 23, 24, 31, 32], [33], fun vs_ T_ => fr0 vs_ 0 = (elemPtr (Value.slice z21 m21 k21) ((i5 : Int)) (Enc.sz Int)), [1], [], [], fun _ h_ => h_⟩, ⟨some 149, [0, 1, 2, 3, 4, 5, 6, 7, 8, 9, 10, 11, 12, 13, 14, 15, 16, 17, 18, 19, 20, 21, 22, 23, 24, 31, 32, 33], [34], fun vs_ T_ => fr0 vs_ 0 = (Value.int .i64 (x340)), [1], [], [], fun _ h_ => h_⟩, ⟨some 150, [0, 1, 2, 3, 4, 5, 6, 7, 8, 9, 10, 11, 12, 13, 14, 15, 16, 17, 18, 19, 20, 21, 22, 23, 24], [35], fun vs_ T_ => fr0 vs_ 0 = (Value.int .i64 ((i6 : Int))), [], [], [], fun _ h_ => h_⟩, ⟨some 151, [0, 1, 2, 3, 4, 5, 6, 7, 8, 9, 10, 11, 12, 13, 14, 15, 16, 17, 18, 19, 20, 21, 22, 23, 24, 25, 26, 27, 28, 29, 30, 31, 32, 33, 34, 35], [36], fun vs_ T_ => fr0 vs_ 0 = (Value.bool (x341)), [], [], [], fun _ h_ => h_⟩, ⟨some 152, [0, 1, 2, 3, 4, 5, 6, 7, 8, 9, 10, 11, 12, 13, 14, 15, 16, 17, 18, 19, 20, 21, 22, 23, 24, 25, 26, 27, 28, 29, 30, 31, 32, 33, 34, 35, 36], [37], fun vs_ T_ => fr0 vs_ 0 = (Value.bool (x336 != x341)), [], [], [], fun _ h_ => h_⟩, ⟨some 153, [0, 1, 2, 3, 4, 5, 6, 7, 8, 9, 10, 11, 12, 13, 14, 15, 16, 17, 18, 19, 20, 21, 22, 23, 24, 25, 26, 27, 28, 29, 30, 31, 32, 33, 34, 35, 36, 37], [38], fun vs_ T_ => fr0 vs_ 0 = (Value.bool (x336 != x341)), [], [], [], fun _ h_ => h_⟩, ⟨some 154, [0, 1, 2, 3, 4, 5, 6, 7, 8, 9, 10, 11, 12, 13, 14, 15, 16, 17, 18, 19, 20, 21, 22, 23, 24, 25, 26, 27, 28, 29, 30, 31, 32, 33, 34, 35, 36, 37, 38], [39], fun vs_ T_ => fr0 vs_ 0 = (Value.bool (x336 != x341)), [], [], [], fun _ h_ => h_⟩]) (tks := [⟨none, none, [], fun vs_ => Row (α := Int) 3 (Value.slice z6 m6 k6) (x9.1)⟩, ⟨none, none, [], fun vs_ => Row (α := Int) 3 (Value.slice z21 m21 k21) (x23.1)⟩]) (O := Fr) rfl (by kernel_rfl) ((I5347.pull 1).pull 1) ⟨?_, ?_, ?_, ?_, ?_, ?_, ?_, ?_, ?_, ?_, ?_, ?_, ?_, ?_, ?_, ?_, ?_, ?_, ?_, ?_, ?_, ?_, ?_, ?_, ?_, ?_, ?_, ?_, ?_, ?_, ?_, ?_, ?_, ?_, ?_, ?_, ?_, ?_, ?_, ?_, trivial⟩ ?_
             ·
              intro vs4470 f w5482 S4495 X4361 le4495 hA4361 hK4470 hI4480
              have I5552 : Inv w5482 S4495 (X4361) := hI4480
              refine opg_plain rfl rfl (op_move (v := (Value.slice z6 m6 k6)) rfl ((hK4470 7 (keep_of rfl)).trans e1274) ?_)
              refine ⟨_, _, rfl, PH.Le.refl _, ?_, ?_⟩
              ·
               exact rfl
              ·
               exact I5552
             ·
              intro vs4471 f w5483 S4496 X4362 le4496 hA4362 hK4471 hI4481
              have I5553 : Inv w5483 S4496 (X4362) := hI4481
              refine opg_plain rfl rfl (op_move (v := (Value.int .i64 ((i5 : Int)))) rfl ((hK4471 13 (keep_of rfl)).trans e1276) ?_)
              refine ⟨_, _, rfl, PH.Le.refl _, ?_, ?_⟩
              ·
               exact rfl
              ·
               exact I5553
             ·
              intro vs4472 f w5484 S4497 X4363 le4497 hA4363 hK4472 hI4482
              have I5554 : Inv w5484 S4497 (Row (α := Int) 3 (Value.slice z6 m6 k6) (x9.1) :: X4363) := hI4482
              have q7631 : f 115 = (Value.slice z6 m6 k6) := vt (hA4363.at_ 0 rfl _ rfl) rfl
              have q7632 : f 116 = (Value.int .i64 ((i5 : Int))) := vt (hA4363.at_ 1 rfl _ rfl) rfl
              refine opg_plain rfl rfl (op_indexAddr_src (v := (Value.slice z6 m6 k6)) (i := (i5 : Int)) (e := x335) rfl Try.underlying34 sh3 q7631 (Inv.rowSrc (I5554.nth 0 rfl)) q7632 hx335 ?_)
              refine ⟨_, _, rfl, PH.Le.refl _, ?_, ?_⟩
              ·
               exact rfl
              ·
               exact I5554
             ·
              intro vs4473 f w5485 S4498 X4364 le4498 hA4364 hK4473 hI4483
              have I5555 : Inv w5485 S4498 (Row (α := Int) 3 (Value.slice z6 m6 k6) (x9.1) :: X4364) := hI4483
              have q7633 : f 117 = (elemPtr (Value.slice z6 m6 k6) ((i5 : Int)) (Enc.sz Int)) := vt (hA4364.at_ 2 rfl _ rfl) rfl
              refine opg_plain rfl rfl (op_load_int (v := (elemPtr (Value.slice z6 m6 k6) ((i5 : Int)) (Enc.sz Int))) (e := x335) rfl sh3 q7633 ((I5555.nth 0 rfl).rowElem hx335) ?_)
              refine ⟨_, _, rfl, PH.Le.refl _, ?_, ?_⟩
              ·
               exact rfl
              ·
               exact I5555
             ·
              intro vs4474 f w5486 S4499 X4365 le4499 hA4365 hK4474 hI4484
              have I5556 : Inv w5486 S4499 (X4365) := hI4484
              refine opg_plain rfl rfl (op_move (v := (Value.int .i64 ((i6 : Int)))) rfl ((hK4474 14 (keep_of rfl)).trans e1277) ?_)
              refine ⟨_, _, rfl, PH.Le.refl _, ?_, ?_⟩
              ·
               exact rfl
              ·
               exact I5556
             ·
              intro vs4475 f w5487 S4500 X4366 le4500 hA4366 hK4475 hI4485
              have I5557 : Inv w5487 S4500 (X4366) := hI4485
              have q7634 : f 118 = (Value.int .i64 (x335)) := vt (hA4366.at_ 3 rfl _ rfl) rfl
              have q7635 : f 119 = (Value.int .i64 ((i6 : Int))) := vt (hA4366.at_ 4 rfl _ rfl) rfl
              refine opg_plain rfl rfl (op_call_v (vs := [(Value.int .i64 (x335)), (Value.int .i64 ((i6 : Int)))]) (r := (Value.bool (x336))) rfl ca19 rfl (args2 q7634 q7635) I5557 (fun Fr_ hF_ => F19_ok hF_  hx336) (fun w5488 I5558 => ?_))
              refine ⟨_, _, rfl, PH.Le.refl _, ?_, ?_⟩
              ·
               exact rfl
              ·
               exact I5558
             ·
              intro vs4476 f w5489 S4501 X4367 le4501 hA4367 hK4476 hI4486
              have I5559 : Inv w5489 S4501 (X4367) := hI4486
              have q7636 : f 120 = (Value.bool (x336)) := vt (hA4367.at_ 5 rfl _ rfl) rfl
              refine opg_plain rfl rfl (op_move (v := (Value.bool (x336))) rfl q7636 ?_)
              refine ⟨_, _, rfl, PH.Le.refl _, ?_, ?_⟩
              ·
               exact rfl
              ·
               exact I5559
             ·
              intro vs4477 f w5490 S4502 X4368 le4502 hA4368 hK4477 hI4487
              have I5560 : Inv w5490 S4502 (X4368) := hI4487
              have q7637 : f 121 = (Value.bool (x336)) := vt (hA4368.at_ 6 rfl _ rfl) rfl
              exact opg_skip (c := x336) rfl rfl rfl rfl q7637 hc294 rfl ⟨_, _, rfl, PH.Le.refl _, rfl, I5560⟩
             ·
              intro vs4478 f w5491 S4503 X4369 le4503 hA4369 hK4478 hI4488
              have I5561 : Inv w5491 S4503 (X4369) := hI4488
              have q7638 : f 121 = (Value.bool (x336)) := vt (hA4369.at_ 6 rfl _ rfl) rfl
              exact opg_skip (c := x336) rfl rfl rfl rfl q7638 hc294 rfl ⟨_, _, rfl, PH.Le.refl _, rfl, I5561⟩
             ·
              intro vs4479 f w5492 S4504 X4370 le4504 hA4370 hK4479 hI4489
              have I5562 : Inv w5492 S4504 (X4370) := hI4489
              have q7639 : f 121 = (Value.bool (x336)) := vt (hA4370.at_ 6 rfl _ rfl) rfl
              have q7640 : f 122 = undef := vt (hA4370.at_ 7 rfl _ rfl) rfl
              have q7641 : f 123 = undef := vt (hA4370.at_ 8 rfl _ rfl) rfl
              exact opg_skip (c := x336) rfl rfl rfl rfl q7639 hc294 rfl ⟨_, _, rfl, PH.Le.refl _, rfl, I5562⟩
             ·
              intro vs4480 f w5493 S4505 X4371 le4505 hA4371 hK4480 hI4490
              have I5563 : Inv w5493 S4505 (X4371) := hI4490
              have q7642 : f 121 = (Value.bool (x336)) := vt (hA4371.at_ 6 rfl _ rfl) rfl
              have q7643 : f 124 = undef := vt (hA4371.at_ 9 rfl _ rfl) rfl
              exact opg_skip (c := x336) rfl rfl rfl rfl q7642 hc294 rfl ⟨_, _, rfl, PH.Le.refl _, rfl, I5563⟩
             ·
              intro vs4481 f w5494 S4506 X4372 le4506 hA4372 hK4481 hI4491
              have I5564 : Inv w5494 S4506 (X4372) := hI4491
              have q7644 : f 121 = (Value.bool (x336)) := vt (hA4372.at_ 6 rfl _ rfl) rfl
              exact opg_skip (c := x336) rfl rfl rfl rfl q7644 hc294 rfl ⟨_, _, rfl, PH.Le.refl _, rfl, I5564⟩
             ·
              intro vs4482 f w5495 S4507 X4373 le4507 hA4373 hK4482 hI4492
              have I5565 : Inv w5495 S4507 (X4373) := hI4492
              have q7645 : f 121 = (Value.bool (x336)) := vt (hA4373.at_ 6 rfl _ rfl) rfl
              have q7646 : f 125 = undef := vt (hA4373.at_ 10 rfl _ rfl) rfl
              have q7647 : f 126 = undef := vt (hA4373.at_ 11 rfl _ rfl) rfl
              exact opg_skip (c := x336) rfl rfl rfl rfl q7645 hc294 rfl ⟨_, _, rfl, PH.Le.refl _, rfl, I5565⟩
             ·
              intro vs4483 f w5496 S4508 X4374 le4508 hA4374 hK4483 hI4493
              have I5566 : Inv w5496 S4508 (X4374) := hI4493
              have q7648 : f 121 = (Value.bool (x336)) := vt (hA4374.at_ 6 rfl _ rfl) rfl
              have q7649 : f 127 = undef := vt (hA4374.at_ 12 rfl _ rfl) rfl
              exact opg_skip (c := x336) rfl rfl rfl rfl q7648 hc294 rfl ⟨_, _, rfl, PH.Le.refl _, rfl, I5566⟩
             ·
              intro vs4484 f w5497 S4509 X4375 le4509 hA4375 hK4484 hI4494
              have I5567 : Inv w5497 S4509 (X4375) := hI4494
              have q7650 : f 121 = (Value.bool (x336)) := vt (hA4375.at_ 6 rfl _ rfl) rfl
              have q7651 : f 128 = undef := vt (hA4375.at_ 13 rfl _ rfl) rfl
              refine opg_plain rfl rfl (op_pick_f (c := x336) (b := (Value.bool (false))) rfl q7650 hc294 rfl ?_)
              refine ⟨_, _, rfl, PH.Le.refl _, ?_, ?_⟩
              ·
               exact rfl
              ·
               exact I5567
             ·
              intro vs4485 f w5498 S4510 X4376 le4510 hA4376 hK4485 hI4495
              have I5568 : Inv w5498 S4510 (X4376) := hI4495
              have q7652 : f 129 = (Value.bool (false)) := vt (hA4376.at_ 14 rfl _ rfl) rfl
              refine opg_plain rfl rfl (op_move (v := (Value.bool (false))) rfl q7652 ?_)
              refine ⟨_, _, rfl, PH.Le.refl _, ?_, ?_⟩
              ·
               exact rfl
              ·
               exact I5568
             ·
              intro vs4486 f w5499 S4511 X4377 le4511 hA4377 hK4486 hI4496
              have I5569 : Inv w5499 S4511 (X4377) := hI4496
              have q7653 : f 130 = (Value.bool (false)) := vt (hA4377.at_ 15 rfl _ rfl) rfl
              refine opg_taken (c := false) rfl rfl rfl rfl q7653 rfl (op_move (v := (Value.bool (v35))) rfl ((hK4486 15 (keep_of rfl)).trans e1278) ?_)
              refine ⟨_, _, rfl, PH.Le.refl _, ?_, ?_⟩
              ·
               exact rfl
              ·
               exact I5569
             ·
              intro vs4487 f w5500 S4512 X4378 le4512 hA4378 hK4487 hI4497
              have I5570 : Inv w5500 S4512 (X4378) := hI4497
              have q7654 : f 130 = (Value.bool (false)) := vt (hA4378.at_ 15 rfl _ rfl) rfl
              have q7655 : f 131 = (Value.bool (v35)) := vt (hA4378.at_ 16 rfl _ rfl) rfl
              refine opg_taken (c := false) rfl rfl rfl rfl q7654 rfl (op_move (v := (Value.bool (v35))) rfl q7655 ?_)
              refine ⟨_, _, rfl, PH.Le.refl _, ?_, ?_⟩
              ·
               exact rfl
              ·
               exact I5570
             ·
              intro vs4488 f w5501 S4513 X4379 le4513 hA4379 hK4488 hI4498
              have I5571 : Inv w5501 S4513 (X4379) := hI4498
              have q7656 : f 132 = (Value.bool (v35)) := vt (hA4379.at_ 17 rfl _ rfl) rfl
              exact opg_skip (c := v35) rfl rfl rfl rfl q7656 hc300 rfl ⟨_, _, rfl, PH.Le.refl _, rfl, I5571⟩
             ·
              intro vs4489 f w5502 S4514 X4380 le4514 hA4380 hK4489 hI4499
              have I5572 : Inv w5502 S4514 (X4380) := hI4499
              have q7657 : f 132 = (Value.bool (v35)) := vt (hA4380.at_ 17 rfl _ rfl) rfl
              exact opg_skip (c := v35) rfl rfl rfl rfl q7657 hc300 rfl ⟨_, _, rfl, PH.Le.refl _, rfl, I5572⟩
             ·
              intro vs4490 f w5503 S4515 X4381 le4515 hA4381 hK4490 hI4500
              have I5573 : Inv w5503 S4515 (X4381) := hI4500
              have q7658 : f 132 = (Value.bool (v35)) := vt (hA4381.at_ 17 rfl _ rfl) rfl
              exact opg_skip (c := v35) rfl rfl rfl rfl q7658 hc300 rfl ⟨_, _, rfl, PH.Le.refl _, rfl, I5573⟩
             ·
              intro vs4491 f w5504 S4516 X4382 le4516 hA4382 hK4491 hI4501
              have I5574 : Inv w5504 S4516 (X4382) := hI4501
              have q7659 : f 132 = (Value.bool (v35)) := vt (hA4382.at_ 17 rfl _ rfl) rfl
              have q7660 : f 133 = undef := vt (hA4382.at_ 18 rfl _ rfl) rfl
              have q7661 : f 134 = undef := vt (hA4382.at_ 19 rfl _ rfl) rfl
              have q7662 : f 135 = undef := vt (hA4382.at_ 20 rfl _ rfl) rfl
              exact opg_skip (c := v35) rfl rfl rfl rfl q7659 hc300 rfl ⟨_, _, rfl, PH.Le.refl _, rfl, I5574⟩
             ·
              intro vs4492 f w5505 S4517 X4383 le4517 hA4383 hK4492 hI4502
              have I5575 : Inv w5505 S4517 (X4383) := hI4502
              have q7663 : f 132 = (Value.bool (v35)) := vt (hA4383.at_ 17 rfl _ rfl) rfl
              have q7664 : f 136 = undef := vt (hA4383.at_ 21 rfl _ rfl) rfl
              exact opg_skip (c := v35) rfl rfl rfl rfl q7663 hc300 rfl ⟨_, _, rfl, PH.Le.refl _, rfl, I5575⟩
             ·
              intro vs4493 f w5506 S4518 X4384 le4518 hA4384 hK4493 hI4503
              have I5576 : Inv w5506 S4518 (X4384) := hI4503
              have q7665 : f 130 = (Value.bool (false)) := vt (hA4384.at_ 15 rfl _ rfl) rfl
              have q7666 : f 132 = (Value.bool (v35)) := vt (hA4384.at_ 17 rfl _ rfl) rfl
              have q7667 : f 137 = undef := vt (hA4384.at_ 22 rfl _ rfl) rfl
              refine opg_taken (c := false) rfl rfl rfl rfl q7665 rfl (op_pick_t (c := v35) (a := (Value.bool (true))) rfl q7666 hc300 rfl ?_)
              refine ⟨_, _, rfl, PH.Le.refl _, ?_, ?_⟩
              ·
               exact rfl
              ·
               exact I5576
             ·
              intro vs4494 f w5507 S4519 X4385 le4519 hA4385 hK4494 hI4504
              have I5577 : Inv w5507 S4519 (X4385) := hI4504
              have q7668 : f 130 = (Value.bool (false)) := vt (hA4385.at_ 15 rfl _ rfl) rfl
              have q7669 : f 138 = (Value.bool (true)) := vt (hA4385.at_ 23 rfl _ rfl) rfl
              refine opg_taken (c := false) rfl rfl rfl rfl q7668 rfl (op_move (v := (Value.bool (true))) rfl q7669 ?_)
              refine ⟨_, _, rfl, PH.Le.refl _, ?_, ?_⟩
              ·
               exact rfl
              ·
               exact I5577
             ·
              intro vs4495 f w5508 S4520 X4386 le4520 hA4386 hK4495 hI4505
              have I5578 : Inv w5508 S4520 (X4386) := hI4505
              have q7670 : f 139 = (Value.bool (true)) := vt (hA4386.at_ 24 rfl _ rfl) rfl
              refine opg_taken (c := true) rfl rfl rfl rfl q7670 rfl (op_move (v := (Value.slice z6 m6 k6)) rfl ((hK4495 7 (keep_of rfl)).trans e1274) ?_)
              refine ⟨_, _, rfl, PH.Le.refl _, ?_, ?_⟩
              ·
               exact rfl
              ·
               exact I5578
             ·
              intro vs4496 f w5509 S4521 X4387 le4521 hA4387 hK4496 hI4506
              have I5579 : Inv w5509 S4521 (X4387) := hI4506
              have q7671 : f 139 = (Value.bool (true)) := vt (hA4387.at_ 24 rfl _ rfl) rfl
              refine opg_taken (c := true) rfl rfl rfl rfl q7671 rfl (op_move (v := (Value.int .i64 ((i5 : Int)))) rfl ((hK4496 13 (keep_of rfl)).trans e1276) ?_)
              refine ⟨_, _, rfl, PH.Le.refl _, ?_, ?_⟩
              ·
               exact rfl
              ·
               exact I5579
             ·
              intro vs4497 f w5510 S4522 X4388 le4522 hA4388 hK4497 hI4507
              have I5580 : Inv w5510 S4522 (Row (α := Int) 3 (Value.slice z6 m6 k6) (x9.1) :: X4388) := hI4507
              have q7672 : f 139 = (Value.bool (true)) := vt (hA4388.at_ 24 rfl _ rfl) rfl
              have q7673 : f 140 = (Value.slice z6 m6 k6) := vt (hA4388.at_ 25 rfl _ rfl) rfl
              have q7674 : f 141 = (Value.int .i64 ((i5 : Int))) := vt (hA4388.at_ 26 rfl _ rfl) rfl
              refine opg_taken (c := true) rfl rfl rfl rfl q7672 rfl (op_indexAddr_src (v := (Value.slice z6 m6 k6)) (i := (i5 : Int)) (e := x335) rfl Try.underlying34 sh3 q7673 (Inv.rowSrc (I5580.nth 0 rfl)) q7674 hx335 ?_)
              refine ⟨_, _, rfl, PH.Le.refl _, ?_, ?_⟩
              ·
               exact rfl
              ·
               exact I5580
             ·
              intro vs4498 f w5511 S4523 X4389 le4523 hA4389 hK4498 hI4508
              have I5581 : Inv w5511 S4523 (Row (α := Int) 3 (Value.slice z6 m6 k6) (x9.1) :: X4389) := hI4508
              have q7675 : f 139 = (Value.bool (true)) := vt (hA4389.at_ 24 rfl _ rfl) rfl
              have q7676 : f 142 = (elemPtr (Value.slice z6 m6 k6) ((i5 : Int)) (Enc.sz Int)) := vt (hA4389.at_ 27 rfl _ rfl) rfl
              refine opg_taken (c := true) rfl rfl rfl rfl q7675 rfl (op_load_int (v := (elemPtr (Value.slice z6 m6 k6) ((i5 : Int)) (Enc.sz Int))) (e := x335) rfl sh3 q7676 ((I5581.nth 0 rfl).rowElem hx335) ?_)
              refine ⟨_, _, rfl, PH.Le.refl _, ?_, ?_⟩
              ·
               exact rfl
              ·
               exact I5581
             ·
              intro vs4499 f w5512 S4524 X4390 le4524 hA4390 hK4499 hI4509
              have I5582 : Inv w5512 S4524 (X4390) := hI4509
              have q7677 : f 139 = (Value.bool (true)) := vt (hA4390.at_ 24 rfl _ rfl) rfl
              refine opg_taken (c := true) rfl rfl rfl rfl q7677 rfl (op_move (v := (Value.int .i64 ((i6 : Int)))) rfl ((hK4499 14 (keep_of rfl)).trans e1277) ?_)
              refine ⟨_, _, rfl, PH.Le.refl _, ?_, ?_⟩
              ·
               exact rfl
              ·
               exact I5582
             ·
              intro vs4500 f w5513 S4525 X4391 le4525 hA4391 hK4500 hI4510
              have I5583 : Inv w5513 S4525 (X4391) := hI4510
              have q7678 : f 139 = (Value.bool (true)) := vt (hA4391.at_ 24 rfl _ rfl) rfl
              have q7679 : f 143 = (Value.int .i64 (x335)) := vt (hA4391.at_ 28 rfl _ rfl) rfl
              have q7680 : f 144 = (Value.int .i64 ((i6 : Int))) := vt (hA4391.at_ 29 rfl _ rfl) rfl
              refine opg_taken (c := true) rfl rfl rfl rfl q7678 rfl (op_call_v (vs := [(Value.int .i64 (x335)), (Value.int .i64 ((i6 : Int)))]) (r := (Value.bool (x336))) rfl ca19 rfl (args2 q7679 q7680) I5583 (fun Fr_ hF_ => F19_ok hF_  hx336) (fun w5514 I5584 => ?_))
              refine ⟨_, _, rfl, PH.Le.refl _, ?_, ?_⟩
              ·
               exact rfl
              ·
               exact I5584
             ·
              intro vs4501 f w5515 S4526 X4392 le4526 hA4392 hK4501 hI4511
              have I5585 : Inv w5515 S4526 (X4392) := hI4511
              have q7681 : f 139 = (Value.bool (true)) := vt (hA4392.at_ 24 rfl _ rfl) rfl
              refine opg_taken (c := true) rfl rfl rfl rfl q7681 rfl (op_move (v := (Value.slice z21 m21 k21)) rfl ((hK4501 11 (keep_of rfl)).trans e1275) ?_)
              refine ⟨_, _, rfl, PH.Le.refl _, ?_, ?_⟩
              ·
               exact rfl
              ·
               exact I5585
             ·
              intro vs4502 f w5516 S4527 X4393 le4527 hA4393 hK4502 hI4512
              have I5586 : Inv w5516 S4527 (X4393) := hI4512
              have q7682 : f 139 = (Value.bool (true)) := vt (hA4393.at_ 24 rfl _ rfl) rfl
              refine opg_taken (c := true) rfl rfl rfl rfl q7682 rfl (op_move (v := (Value.int .i64 ((i5 : Int)))) rfl ((hK4502 13 (keep_of rfl)).trans e1276) ?_)
              refine ⟨_, _, rfl, PH.Le.refl _, ?_, ?_⟩
              ·
               exact rfl
              ·
               exact I5586
             ·
              intro vs4503 f w5517 S4528 X4394 le4528 hA4394 hK4503 hI4513
              have I5587 : Inv w5517 S4528 (Row (α := Int) 3 (Value.slice z21 m21 k21) (x23.1) :: X4394) := hI4513
              have q7683 : f 139 = (Value.bool (true)) := vt (hA4394.at_ 24 rfl _ rfl) rfl
              have q7684 : f 146 = (Value.slice z21 m21 k21) := vt (hA4394.at_ 25 rfl _ rfl) rfl
              have q7685 : f 147 = (Value.int .i64 ((i5 : Int))) := vt (hA4394.at_ 26 rfl _ rfl) rfl
              refine opg_taken (c := true) rfl rfl rfl rfl q7683 rfl (op_indexAddr_src (v := (Value.slice z21 m21 k21)) (i := (i5 : Int)) (e := x340) rfl Try.underlying34 sh3 q7684 (Inv.rowSrc (I5587.nth 0 rfl)) q7685 hx340 ?_)
              refine ⟨_, _, rfl, PH.Le.refl _, ?_, ?_⟩
              ·
               exact rfl
              ·
               exact I5587
             ·
              intro vs4504 f w5518 S4529 X4395 le4529 hA4395 hK4504 hI4514
              have I5588 : Inv w5518 S4529 (Row (α := Int) 3 (Value.slice z21 m21 k21) (x23.1) :: X4395) := hI4514
              have q7686 : f 139 = (Value.bool (true)) := vt (hA4395.at_ 24 rfl _ rfl) rfl
              have q7687 : f 148 = (elemPtr (Value.slice z21 m21 k21) ((i5 : Int)) (Enc.sz Int)) := vt (hA4395.at_ 27 rfl _ rfl) rfl
              refine opg_taken (c := true) rfl rfl rfl rfl q7686 rfl (op_load_int (v := (elemPtr (Value.slice z21 m21 k21) ((i5 : Int)) (Enc.sz Int))) (e := x340) rfl sh3 q7687 ((I5588.nth 0 rfl).rowElem hx340) ?_)
              refine ⟨_, _, rfl, PH.Le.refl _, ?_, ?_⟩
              ·
               exact rfl
              ·
               exact I5588
             ·
              intro vs4505 f w5519 S4530 X4396 le4530 hA4396 hK4505 hI4515
              have I5589 : Inv w5519 S4530 (X4396) := hI4515
              have q7688 : f 139 = (Value.bool (true)) := vt (hA4396.at_ 24 rfl _ rfl) rfl
              refine opg_taken (c := true) rfl rfl rfl rfl q7688 rfl (op_move (v := (Value.int .i64 ((i6 : Int)))) rfl ((hK4505 14 (keep_of rfl)).trans e1277) ?_)
              refine ⟨_, _, rfl, PH.Le.refl _, ?_, ?_⟩
              ·
               exact rfl
              ·
               exact I5589
             ·
              intro vs4506 f w5520 S4531 X4397 le4531 hA4397 hK4506 hI4516
              have I5590 : Inv w5520 S4531 (X4397) := hI4516
              have q7689 : f 139 = (Value.bool (true)) := vt (hA4397.at_ 24 rfl _ rfl) rfl
              have q7690 : f 149 = (Value.int .i64 (x340)) := vt (hA4397.at_ 34 rfl _ rfl) rfl
              have q7691 : f 150 = (Value.int .i64 ((i6 : Int))) := vt (hA4397.at_ 35 rfl _ rfl) rfl
              refine opg_taken (c := true) rfl rfl rfl rfl q7689 rfl (op_call_v (vs := [(Value.int .i64 (x340)), (Value.int .i64 ((i6 : Int)))]) (r := (Value.bool (x341))) rfl ca19 rfl (args2 q7690 q7691) I5590 (fun Fr_ hF_ => F19_ok hF_  hx341) (fun w5521 I5591 => ?_))
              refine ⟨_, _, rfl, PH.Le.refl _, ?_, ?_⟩
              ·
               exact rfl
              ·
               exact I5591
             ·
              intro vs4507 f w5522 S4532 X4398 le4532 hA4398 hK4507 hI4517
              have I5592 : Inv w5522 S4532 (X4398) := hI4517
              have q7692 : f 139 = (Value.bool (true)) := vt (hA4398.at_ 24 rfl _ rfl) rfl
              have q7693 : f 145 = (Value.bool (x336)) := vt (hA4398.at_ 30 rfl _ rfl) rfl
              have q7694 : f 151 = (Value.bool (x341)) := vt (hA4398.at_ 36 rfl _ rfl) rfl
              refine opg_taken (c := true) rfl rfl rfl rfl q7692 rfl (op_bneq (a := x336) (b := x341) rfl Try.underlying4 q7693 q7694 ?_)
              refine ⟨_, _, rfl, PH.Le.refl _, ?_, ?_⟩
              ·
               exact rfl
              ·
               exact I5592
             ·
              intro vs4508 f w5523 S4533 X4399 le4533 hA4399 hK4508 hI4518
              have I5593 : Inv w5523 S4533 (X4399) := hI4518
              have q7695 : f 130 = (Value.bool (false)) := vt (hA4399.at_ 15 rfl _ rfl) rfl
              have q7696 : f 139 = (Value.bool (true)) := vt (hA4399.at_ 24 rfl _ rfl) rfl
              have q7697 : f 152 = (Value.bool (x336 != x341)) := vt (hA4399.at_ 37 rfl _ rfl) rfl
              refine opg_taken (c := false) rfl rfl rfl rfl q7695 rfl (op_pick_t (c := true) (a := (Value.bool (x336 != x341))) rfl q7696 rfl q7697 ?_)
              refine ⟨_, _, rfl, PH.Le.refl _, ?_, ?_⟩
              ·
               exact rfl
              ·
               exact I5593
             ·
              intro vs4509 f w5524 S4534 X4400 le4534 hA4400 hK4509 hI4519
              have I5594 : Inv w5524 S4534 (X4400) := hI4519
              have q7698 : f 130 = (Value.bool (false)) := vt (hA4400.at_ 15 rfl _ rfl) rfl
              have q7699 : f 153 = (Value.bool (x336 != x341)) := vt (hA4400.at_ 38 rfl _ rfl) rfl
              refine opg_plain rfl rfl (op_pick_f (c := false) (b := (Value.bool (x336 != x341))) rfl q7698 rfl q7699 ?_)
              refine ⟨_, _, rfl, PH.Le.refl _, ?_, ?_⟩
              ·
               exact rfl
              ·
               exact I5594
             ·
              intro vs4510 f w5525 S4535 le4535 hF110 hK4510 hI4520
              have e1307 : f 1 = (Value.int .i64 (a1)) := (hK4510 1 (keep_all rfl)).trans e1271
              have e1308 : f 2 = (Value.slice z2 m2 k2) := (hK4510 2 (keep_all rfl)).trans e1272
              have e1309 : f 3 = (Value.pointer (some ⟨g1, 0, none⟩)) := (hK4510 3 (keep_all rfl)).trans e1273
              have e1310 : f 7 = (Value.slice z6 m6 k6) := (hK4510 7 (keep_all rfl)).trans e1274
              have e1311 : f 11 = (Value.slice z21 m21 k21) := (hK4510 11 (keep_all rfl)).trans e1275
              have e1312 : f 13 = (Value.int .i64 ((i5 : Int))) := (hK4510 13 (keep_all rfl)).trans e1276
              have e1313 : f 14 = (Value.int .i64 ((i6 : Int))) := (hK4510 14 (keep_all rfl)).trans e1277
              have I5595 : Inv w5525 S4535 (Row (α := Int) 3 (Value.slice z6 m6 k6) (x9.1) :: Row (α := Int) 3 (Value.slice z21 m21 k21) (x23.1) :: Fr) := hI4520
              have q7700 : f 154 = (Value.bool (x336 != x341)) := vt (hF110.at_ 39 rfl _ rfl) rfl
              rcases ifs h107 with ⟨hc301, h107⟩ | ⟨hc301, h107⟩
              ·
               refine wp_cond_t (b := x336 != x341) q7700 hc301 ?_
               refine wp_seq' ?_
               refine wp_region' ?_
               refine wl_op rfl (op_assign (v := (Value.bool (false))) rfl rfl ?_)
               refine wl_nil ?_
               refine wp_ret' ?_
               obtain rfl := Option.some.inj h107
               obtain rfl := (hout6 _ rfl)
               have h108 := h87
               obtain rfl := Option.some.inj h108
               obtain rfl := (hout5 _ rfl)
               have h88 := h
               obtain rfl := Option.some.inj h88
               exact ⟨(Value.bool (false)), (res1 rfl rfl), _, [], ((((le1.trans le2).trans le3466).trans le4330).trans le4535), ((I5595).drop).drop, rfl, rfl⟩
              ·
               refine wp_cond_f (b := x336 != x341) q7700 hc301 ?_
               refine wp_skip' ?_
               refine wp_region' ?_
               refine wl_op rfl (op_move (v := (Value.int .i64 ((i6 : Int)))) rfl e1313 ?_)
               refine wl_op rfl (op_add (a := (i6 : Int)) (b := 1) rfl rfl rfl ?_)
               refine wl_op rfl (op_assign (v := (Value.int .i64 (w64 ((i6 : Int) + 1)))) rfl rfl ?_)
               refine wl_nil ?_
               obtain rfl := Option.some.inj h107
               exact ⟨_, rfl, _, (le4330.trans le4535), ((I5595.pull 1).pull 1), e1307, e1308, e1309, e1310, e1311, e1312, (idx_next hlt6 hk5)⟩
            ·
             obtain ⟨x342, hx342, h107⟩ := bnd h107
             rcases ifs h107 with ⟨hc302, h107⟩ | ⟨hc302, h107⟩
             ·
              obtain ⟨x343, hx343, h107⟩ := bnd h107
              obtain ⟨x344, hx344, h107⟩ := bnd h107
              refine wp_draw (sps := [⟨some 115, [], [0], fun vs_ T_ => fr0 vs_ 0 = (Value.slice z6 m6 k6), [], [], [], fun _ h_ => h_⟩, ⟨some 116, [], [1], fun vs_ T_ => fr0 vs_ 0 = (Value.int .i64 ((i5 : Int))), [], [], [], fun _ h_ => h_⟩, ⟨some 117, [0, 1], [2], fun vs_ T_ => fr0 vs_ 0 = (elemPtr (Value.slice z6 m6 k6) ((i5 : Int)) (Enc.sz Int)), [0], [], [], fun _ h_ => h_⟩, ⟨some 118, [0, 1, 2], [3], fun vs_ T_ => fr0 vs_ 0 = (Value.int .i64 (x335)), [0], [], [], fun _ h_ => h_⟩, ⟨some 119, [], [4], fun vs_ T_ => fr0 vs_ 0 = (Value.int .i64 ((i6 : Int))), [], [], [], fun _ h_ => h_⟩, ⟨some 120, [0, 1, 2, 3, 4], [5], fun vs_ T_ => fr0 vs_ 0 = (Value.bool (x336)), [], [], [], fun _ h_ => h_⟩, ⟨some 121, [0, 1, 2, 3, 4, 5], [6], fun vs_ T_ => fr0 vs_ 0 = (Value.bool (x336)), [], [], [], fun _ h_ => h_⟩, ⟨some 122, [0, 1, 2, 3, 4, 5, 6], [7], fun vs_ T_ => fr0 vs_ 0 = undef, [], [], [], fun _ h_ => h_⟩, ⟨some 123, [0, 1, 2, 3, 4, 5, 6], [8], fun vs_ T_ => fr0 vs_ 0 = undef, [], [], [], fun _ h_ => h_⟩, ⟨some 124, [0, 1, 2, 3, 4, 5, 6, 7, 8], [9], fun vs_ T_ => fr0 vs_ 0 = undef, [], [], [], fun _ h_ => h_⟩, ⟨some 125, [0, 1, 2, 3, 4, 5, 6, 7, 8, 9], [10], fun vs_ T_ => fr0 vs_ 0 = undef, [], [], [], fun _ h_ => h_⟩, ⟨some 126, [0, 1, 2, 3, 4, 5, 6], [11], fun vs_ T_ => fr0 vs_ 0 = undef, [], [], [], fun _ h_ => h_⟩, ⟨some 127, [0, 1, 2, 3, 4, 5, 6, 7, 8, 9, 10, 11], [12], fun vs_ T_ => fr0 vs_ 0 = undef, [], [], [], fun _ h_ => h_⟩, ⟨some 128, [0, 1, 2, 3, 4, 5, 6, 7, 8, 9, 10, 11, 12], [13], fun vs_ T_ => fr0 vs_ 0 = undef, [], [], [], fun _ h_ => h_⟩, ⟨some 129, [0, 1, 2, 3, 4, 5, 6, 7, 8, 9, 10, 11, 12, 13], [14], fun vs_ T_ => fr0 vs_ 0 = (Value.bool (false)), [], [], [], fun _ h_ => h_⟩, ⟨some 130, [0, 1, 2, 3, 4, 5, 6, 7, 8, 9, 10, 11, 12, 13, 14], [15], fun vs_ T_ => fr0 vs_ 0 = (Value.bool (false)), [], [], [], fun _ h_ => h_⟩, ⟨some 131, [0, 1, 2, 3, 4, 5, 6, 7, 8, 9, 10, 11, 12, 13, 14, 15], [16], fun vs_ T_ => fr0 vs_ 0 = (Value.bool (v35)), [], [], [], fun _ h_ => h_⟩, ⟨some 132, [0, 1, 2, 3, 4, 5, 6, 7, 8, 9, 10, 11, 12, 13, 14, 15, 16], [17], fun vs_ T_ => fr0 vs_ 0 = (Value.bool (v35)), [], [], [], fun _ h_ => h_⟩, ⟨some 133, [0, 1, 2, 3, 4, 5, 6, 7, 8, 9, 10, 11, 12, 13, 14, 15, 16, 17], [18], fun vs_ T_ => fr0 vs_ 0 = (Value.slice z2 m2 k2), [], [], [], fun _ h_ => h_⟩, ⟨some 134, [0, 1, 2, 3, 4, 5, 6, 7, 8, 9, 10, 11, 12, 13, 14, 15, 16, 17], [19], fun vs_ T_ => fr0 vs_ 0 = (Value.int .i64 ((i5 : Int))), [], [], [], fun _ h_ => h_⟩, ⟨some 135, [0, 1, 2, 3, 4, 5, 6, 7, 8, 9, 10, 11, 12, 13, 14, 15, 16, 17], [20], fun vs_ T_ => fr0 vs_ 0 = (Value.int .i64 ((i6 : Int))), [], [], [], fun _ h_ => h_⟩, ⟨some 136, [0, 1, 2, 3, 4, 5, 6, 7, 8, 9, 10, 11, 12, 13, 14, 15, 16, 17, 18, 19, 20], [21], fun vs_ T_ => fr0 vs_ 0 = (Value.bool (x342)), [], [], [], fun _ h_ => h_⟩, ⟨some 137, [0, 1, 2, 3, 4, 5, 6, 7, 8, 9, 10, 11, 12, 13, 14, 15, 16, 17, 18, 19, 20, 21], [22], fun vs_ T_ => fr0 vs_ 0 = (Value.bool (!x342)), [], [], [], fun _ h_ => h_⟩, ⟨some 138, [0, 1, 2, 3, 4, 5, 6, 7, 8, 9, 10, 11, 12, 13, 14, 15, 16, 17, 18, 19, 20, 21, 22], [23], fun vs_ T_ => fr0 vs_ 0 = (Value.bool (!x342)), [], [], [], fun _ h_ => h_⟩, ⟨some 139, [0, 1, 2, 3, 4, 5, 6, 7, 8, 9, 10, 11, 12, 13, 14, 15, 16, 17, 18, 19, 20, 21, 22, 23], [24], fun vs_ T_ => fr0 vs_ 0 = (Value.bool (!x342)), [], [], [], fun _ h_ => h_⟩, ⟨some 140, [0, 1, 2, 3, 4, 5, 6, 7, 8, 9, 10, 11, 12, 13, 14, 15, 16, 17, 18, 19, 20, 21, 22, 23, 24], [25], fun vs_ T_ => fr0 vs_ 0 = (Value.slice z6 m6 k6), [], [], [], fun _ h_ => h_⟩, ⟨some 141, [0, 1, 2, 3, 4, 5, 6, 7, 8, 9, 10, 11, 12, 13, 14, 15, 16, 17, 18, 19, 20, 21, 22, 23, 24], [26], fun vs_ T_ => fr0 vs_ 0 = (Value.int .i64 ((i5 : Int))), [], [], [], fun _ h_ => h_⟩, ⟨some 142, [0, 1, 2, 3, 4, 5, 6, 7, 8, 9, 10, 11, 12, 13, 14, 15, 16, 17, 18, 19, 20, 21, 22, 23, 24, 25, 26], [27], fun vs_ T_ => fr0 vs_ 0 = (elemPtr (Value.slice z6 m6 k6) ((i5 : Int)) (Enc.sz Int)), [0], [], [], fun _ h_ => h_⟩, ⟨some 143, [0, 1, 2, 3, 4, 5, 6, 7, 8, 9, 10, 11, 12, 13, 14, 15, 16, 17, 18, 19, 20, 21, 22, 23, 24, 25, 26, 27], [28], fun vs_ T_ => fr0 vs_ 0 = (Value.int .i64 (x335)), [0], [], [], fun _ h_ => h_⟩, ⟨some 144, [0, 1, 2, 3, 4, 5, 6, 7, 8, 9, 10, 11, 12, 13, 14, 15, 16, 17, 18, 19, 20, 21, 22, 23, 24], [29], fun vs_ T_ => fr0 vs_ 0 = (Value.int .i64 ((i6 : Int))), [], [], [], fun _ h_ => h_⟩, ⟨some 145, [0, 1, 2, 3, 4, 5, 6, 7, 8, 9, 10, 11, 12, 13, 14, 15, 16, 17, 18, 19, 20, 21, 22, 23, 24, 25, 26, 27, 28, 29], [30], fun vs_ T_ => fr0 vs_ 0 = (Value.bool (x336)), [], [], [], fun _ h_ => h_⟩, ⟨some 146, [0, 1, 2, 3, 4, 5, 6, 7, 8, 9, 10, 11, 12, 13, 14, 15, 16, 17, 18, 19, 20, 21, 22, 23, 24], [31], fun vs_ T_ => fr0 vs_ 0 = (Value.slice z21 m21 k21), [], [], [], fun _ h_ => h_⟩, ⟨some 147, [0, 1, 2, 3, 4, 5, 6, 7, 8, 9, 10, 11, 12, 13, 14, 15, 16, 17, 18, 19, 20, 21, 22, 23, 24], [32], fun vs_ T_ => fr0 vs_ 0 = (Value.int .i64 ((i5 : Int))), [], [], [], fun _ h_ => h_⟩, ⟨some 148, [0, 1, 2, 3, 4, 5, 6, 7, 8, 9, 10, 11, 12, 13, 14, 15, 16, 17, 18, 19, 20, 21, 22, 23, 24, 31, 32], [33], fun vs_ T_ => fr0 vs_ 0 = (elemPtr (Value.slice z21 m21 k21) ((i5 : Int)) (Enc.sz Int)), [1], [], [], fun _ h_ => h_⟩, ⟨some 149, [0, 1, 2, 3, 4, 5, 6, 7, 8, 9, 10, 11, 12, 13, 14, 15, 16, 17, 18, 19, 20, 21, 22, 23, 24, 31, 32, 33], [34], fun vs_ T_ => fr0 vs_ 0 = (Value.int .i64 (x343)), [1], [], [], fun _ h_ => h_⟩, ⟨some 150, [0, 1, 2, 3, 4, 5, 6, 7, 8, 9, 10, 11, 12, 13, 14, 15, 16, 17, 18, 19, 20, 21, 22, 23, 24], [35], fun vs_ T_ => fr0 vs_ 0 = (Value.int .i64 ((i6 : Int))), [], [], [], fun _ h_ => h_⟩, ⟨some 151, [0, 1, 2, 3, 4, 5, 6, 7, 8, 9, 10, 11, 12, 13, 14, 15, 16, 17, 18, 19, 20, 21, 22, 23, 24, 25, 26, 27, 28, 29, 30, 31, 32, 33, 34, 35], [36], fun vs_ T_ => fr0 vs_ 0 = (Value.bool (x344)), [], [], [], fun _ h_ => h_⟩, ⟨some 152, [0, 1, 2, 3, 4, 5, 6, 7, 8, 9, 10, 11, 12, 13, 14, 15, 16, 17, 18, 19, 20, 21, 22, 23, 24, 25, 26, 27, 28, 29, 30, 31, 32, 33, 34, 35, 36], [37], fun vs_ T_ => fr0 vs_ 0 = (Value.bool (x336 != x344)), [], [], [], fun _ h_ => h_⟩, ⟨some 153, [0, 1, 2, 3, 4, 5, 6, 7, 8, 9, 10, 11, 12, 13, 14, 15, 16, 17, 18, 19, 20, 21, 22, 23, 24, 25, 26, 27, 28, 29, 30, 31, 32, 33, 34, 35, 36, 37], [38], fun vs_ T_ => fr0 vs_ 0 = (Value.bool (x336 != x344)), [], [], [], fun _ h_ => h_⟩, ⟨some 154, [0, 1, 2, 3, 4, 5, 6, 7, 8, 9, 10, 11, 12, 13, 14, 15, 16, 17, 18, 19, 20, 21, 22, 23, 24, 25, 26, 27, 28, 29, 30, 31, 32, 33, 34, 35, 36, 37, 38], [39], fun vs_ T_ => fr0 vs_ 0 = (Value.bool (x336 != x344)), [], [], [], fun _ h_ => h_⟩]) (tks := [⟨none, none, [], fun vs_ => Row (α := Int) 3 (Value.slice z6 m6 k6) (x9.1)⟩, ⟨none, none, [], fun vs_ => Row (α := Int) 3 (Value.slice z21 m21 k21) (x23.1)⟩]) (O := Fr) rfl (by kernel_rfl) ((I5347.pull 1).pull 1) ⟨?_, ?_, ?_, ?_, ?_, ?_, ?_, ?_, ?_, ?_, ?_, ?_, ?_, ?_, ?_, ?_, ?_, ?_, ?_, ?_, ?_, ?_, ?_, ?_, ?_, ?_, ?_, ?_, ?_, ?_, ?_, ?_, ?_, ?_, ?_, ?_, ?_, ?_, ?_, ?_, trivial⟩ ?_
              ·
               intro vs4511 f w5532 S4536 X4401 le4536 hA4401 hK4511 hI4521
               have I5602 : Inv w5532 S4536 (X4401) := hI4521
               refine opg_plain rfl rfl (op_move (v := (Value.slice z6 m6 k6)) rfl ((hK4511 7 (keep_of rfl)).trans e1274) ?_)
               refine ⟨_, _, rfl, PH.Le.refl _, ?_, ?_⟩
               ·
                exact rfl
               ·
                exact I5602
              ·
               intro vs4512 f w5533 S4537 X4402 le4537 hA4402 hK4512 hI4522
               have I5603 : Inv w5533 S4537 (X4402) := hI4522
               refine opg_plain rfl rfl (op_move (v := (Value.int .i64 ((i5 : Int)))) rfl ((hK4512 13 (keep_of rfl)).trans e1276) ?_)
               refine ⟨_, _, rfl, PH.Le.refl _, ?_, ?_⟩
               ·
                exact rfl
               ·
                exact I5603
              ·
               intro vs4513 f w5534 S4538 X4403 le4538 hA4403 hK4513 hI4523
               have I5604 : Inv w5534 S4538 (Row (α := Int) 3 (Value.slice z6 m6 k6) (x9.1) :: X4403) := hI4523
               have q7701 : f 115 = (Value.slice z6 m6 k6) := vt (hA4403.at_ 0 rfl _ rfl) rfl
               have q7702 : f 116 = (Value.int .i64 ((i5 : Int))) := vt (hA4403.at_ 1 rfl _ rfl) rfl
               refine opg_plain rfl rfl (op_indexAddr_src (v := (Value.slice z6 m6 k6)) (i := (i5 : Int)) (e := x335) rfl Try.underlying34 sh3 q7701 (Inv.rowSrc (I5604.nth 0 rfl)) q7702 hx335 ?_)
               refine ⟨_, _, rfl, PH.Le.refl _, ?_, ?_⟩
               ·
                exact rfl
               ·
                exact I5604
              ·
               intro vs4514 f w5535 S4539 X4404 le4539 hA4404 hK4514 hI4524
               have I5605 : Inv w5535 S4539 (Row (α := Int) 3 (Value.slice z6 m6 k6) (x9.1) :: X4404) := hI4524
               have q7703 : f 117 = (elemPtr (Value.slice z6 m6 k6) ((i5 : Int)) (Enc.sz Int)) := vt (hA4404.at_ 2 rfl _ rfl) rfl
               refine opg_plain rfl rfl (op_load_int (v := (elemPtr (Value.slice z6 m6 k6) ((i5 : Int)) (Enc.sz Int))) (e := x335) rfl sh3 q7703 ((I5605.nth 0 rfl).rowElem hx335) ?_)
               refine ⟨_, _, rfl, PH.Le.refl _, ?_, ?_⟩
               ·
                exact rfl
               ·
                exact I5605
              ·
               intro vs4515 f w5536 S4540 X4405 le4540 hA4405 hK4515 hI4525
               have I5606 : Inv w5536 S4540 (X4405) := hI4525
               refine opg_plain rfl rfl (op_move (v := (Value.int .i64 ((i6 : Int)))) rfl ((hK4515 14 (keep_of rfl)).trans e1277) ?_)
               refine ⟨_, _, rfl, PH.Le.refl _, ?_, ?_⟩
               ·
                exact rfl
               ·
                exact I5606
              ·
               intro vs4516 f w5537 S4541 X4406 le4541 hA4406 hK4516 hI4526
               have I5607 : Inv w5537 S4541 (X4406) := hI4526
               have q7704 : f 118 = (Value.int .i64 (x335)) := vt (hA4406.at_ 3 rfl _ rfl) rfl
               have q7705 : f 119 = (Value.int .i64 ((i6 : Int))) := vt (hA4406.at_ 4 rfl _ rfl) rfl
               refine opg_plain rfl rfl (op_call_v (vs := [(Value.int .i64 (x335)), (Value.int .i64 ((i6 : Int)))]) (r := (Value.bool (x336))) rfl ca19 rfl (args2 q7704 q7705) I5607 (fun Fr_ hF_ => F19_ok hF_  hx336) (fun w5538 I5608 => ?_))
               refine ⟨_, _, rfl, PH.Le.refl _, ?_, ?_⟩
               ·
                exact rfl
               ·
                exact I5608
              ·
               intro vs4517 f w5539 S4542 X4407 le4542 hA4407 hK4517 hI4527
               have I5609 : Inv w5539 S4542 (X4407) := hI4527
               have q7706 : f 120 = (Value.bool (x336)) := vt (hA4407.at_ 5 rfl _ rfl) rfl
               refine opg_plain rfl rfl (op_move (v := (Value.bool (x336))) rfl q7706 ?_)
               refine ⟨_, _, rfl, PH.Le.refl _, ?_, ?_⟩
               ·
                exact rfl
               ·
                exact I5609
              ·
               intro vs4518 f w5540 S4543 X4408 le4543 hA4408 hK4518 hI4528
               have I5610 : Inv w5540 S4543 (X4408) := hI4528
               have q7707 : f 121 = (Value.bool (x336)) := vt (hA4408.at_ 6 rfl _ rfl) rfl
               exact opg_skip (c := x336) rfl rfl rfl rfl q7707 hc294 rfl ⟨_, _, rfl, PH.Le.refl _, rfl, I5610⟩
              ·
               intro vs4519 f w5541 S4544 X4409 le4544 hA4409 hK4519 hI4529
               have I5611 : Inv w5541 S4544 (X4409) := hI4529
               have q7708 : f 121 = (Value.bool (x336)) := vt (hA4409.at_ 6 rfl _ rfl) rfl
               exact opg_skip (c := x336) rfl rfl rfl rfl q7708 hc294 rfl ⟨_, _, rfl, PH.Le.refl _, rfl, I5611⟩
              ·
               intro vs4520 f w5542 S4545 X4410 le4545 hA4410 hK4520 hI4530
               have I5612 : Inv w5542 S4545 (X4410) := hI4530
               have q7709 : f 121 = (Value.bool (x336)) := vt (hA4410.at_ 6 rfl _ rfl) rfl
               have q7710 : f 122 = undef := vt (hA4410.at_ 7 rfl _ rfl) rfl
               have q7711 : f 123 = undef := vt (hA4410.at_ 8 rfl _ rfl) rfl
               exact opg_skip (c := x336) rfl rfl rfl rfl q7709 hc294 rfl ⟨_, _, rfl, PH.Le.refl _, rfl, I5612⟩
              ·
               intro vs4521 f w5543 S4546 X4411 le4546 hA4411 hK4521 hI4531
               have I5613 : Inv w5543 S4546 (X4411) := hI4531
               have q7712 : f 121 = (Value.bool (x336)) := vt (hA4411.at_ 6 rfl _ rfl) rfl
               have q7713 : f 124 = undef := vt (hA4411.at_ 9 rfl _ rfl) rfl
               exact opg_skip (c := x336) rfl rfl rfl rfl q7712 hc294 rfl ⟨_, _, rfl, PH.Le.refl _, rfl, I5613⟩
              ·
               intro vs4522 f w5544 S4547 X4412 le4547 hA4412 hK4522 hI4532
               have I5614 : Inv w5544 S4547 (X4412) := hI4532
               have q7714 : f 121 = (Value.bool (x336)) := vt (hA4412.at_ 6 rfl _ rfl) rfl
               exact opg_skip (c := x336) rfl rfl rfl rfl q7714 hc294 rfl ⟨_, _, rfl, PH.Le.refl _, rfl, I5614⟩
              ·
               intro vs4523 f w5545 S4548 X4413 le4548 hA4413 hK4523 hI4533
               have I5615 : Inv w5545 S4548 (X4413) := hI4533
               have q7715 : f 121 = (Value.bool (x336)) := vt (hA4413.at_ 6 rfl _ rfl) rfl
               have q7716 : f 125 = undef := vt (hA4413.at_ 10 rfl _ rfl) rfl
               have q7717 : f 126 = undef := vt (hA4413.at_ 11 rfl _ rfl) rfl
               exact opg_skip (c := x336) rfl rfl rfl rfl q7715 hc294 rfl ⟨_, _, rfl, PH.Le.refl _, rfl, I5615⟩
              ·
               intro vs4524 f w5546 S4549 X4414 le4549 hA4414 hK4524 hI4534
               have I5616 : Inv w5546 S4549 (X4414) := hI4534
               have q7718 : f 121 = (Value.bool (x336)) := vt (hA4414.at_ 6 rfl _ rfl) rfl
               have q7719 : f 127 = undef := vt (hA4414.at_ 12 rfl _ rfl) rfl
               exact opg_skip (c := x336) rfl rfl rfl rfl q7718 hc294 rfl ⟨_, _, rfl, PH.Le.refl _, rfl, I5616⟩
              ·
               intro vs4525 f w5547 S4550 X4415 le4550 hA4415 hK4525 hI4535
               have I5617 : Inv w5547 S4550 (X4415) := hI4535
               have q7720 : f 121 = (Value.bool (x336)) := vt (hA4415.at_ 6 rfl _ rfl) rfl
               have q7721 : f 128 = undef := vt (hA4415.at_ 13 rfl _ rfl) rfl
               refine opg_plain rfl rfl (op_pick_f (c := x336) (b := (Value.bool (false))) rfl q7720 hc294 rfl ?_)
               refine ⟨_, _, rfl, PH.Le.refl _, ?_, ?_⟩
               ·
                exact rfl
               ·
                exact I5617
              ·
               intro vs4526 f w5548 S4551 X4416 le4551 hA4416 hK4526 hI4536
               have I5618 : Inv w5548 S4551 (X4416) := hI4536
               have q7722 : f 129 = (Value.bool (false)) := vt (hA4416.at_ 14 rfl _ rfl) rfl
               refine opg_plain rfl rfl (op_move (v := (Value.bool (false))) rfl q7722 ?_)
               refine ⟨_, _, rfl, PH.Le.refl _, ?_, ?_⟩
               ·
                exact rfl
               ·
                exact I5618
              ·
               intro vs4527 f w5549 S4552 X4417 le4552 hA4417 hK4527 hI4537
               have I5619 : Inv w5549 S4552 (X4417) := hI4537
               have q7723 : f 130 = (Value.bool (false)) := vt (hA4417.at_ 15 rfl _ rfl) rfl
               refine opg_taken (c := false) rfl rfl rfl rfl q7723 rfl (op_move (v := (Value.bool (v35))) rfl ((hK4527 15 (keep_of rfl)).trans e1278) ?_)
               refine ⟨_, _, rfl, PH.Le.refl _, ?_, ?_⟩
               ·
                exact rfl
               ·
                exact I5619
              ·
               intro vs4528 f w5550 S4553 X4418 le4553 hA4418 hK4528 hI4538
               have I5620 : Inv w5550 S4553 (X4418) := hI4538
               have q7724 : f 130 = (Value.bool (false)) := vt (hA4418.at_ 15 rfl _ rfl) rfl
               have q7725 : f 131 = (Value.bool (v35)) := vt (hA4418.at_ 16 rfl _ rfl) rfl
               refine opg_taken (c := false) rfl rfl rfl rfl q7724 rfl (op_move (v := (Value.bool (v35))) rfl q7725 ?_)
               refine ⟨_, _, rfl, PH.Le.refl _, ?_, ?_⟩
               ·
                exact rfl
               ·
                exact I5620
              ·
               intro vs4529 f w5551 S4554 X4419 le4554 hA4419 hK4529 hI4539
               have I5621 : Inv w5551 S4554 (X4419) := hI4539
               have q7726 : f 132 = (Value.bool (v35)) := vt (hA4419.at_ 17 rfl _ rfl) rfl
               refine opg_taken (c := v35) rfl rfl rfl rfl q7726 hc300 (op_move (v := (Value.slice z2 m2 k2)) rfl ((hK4529 2 (keep_of rfl)).trans e1272) ?_)
               refine ⟨_, _, rfl, PH.Le.refl _, ?_, ?_⟩
               ·
                exact rfl
               ·
                exact I5621
              ·
               intro vs4530 f w5552 S4555 X4420 le4555 hA4420 hK4530 hI4540
               have I5622 : Inv w5552 S4555 (X4420) := hI4540
               have q7727 : f 132 = (Value.bool (v35)) := vt (hA4420.at_ 17 rfl _ rfl) rfl
               refine opg_taken (c := v35) rfl rfl rfl rfl q7727 hc300 (op_move (v := (Value.int .i64 ((i5 : Int)))) rfl ((hK4530 13 (keep_of rfl)).trans e1276) ?_)
               refine ⟨_, _, rfl, PH.Le.refl _, ?_, ?_⟩
               ·
                exact rfl
               ·
                exact I5622
              ·
               intro vs4531 f w5553 S4556 X4421 le4556 hA4421 hK4531 hI4541
               have I5623 : Inv w5553 S4556 (X4421) := hI4541
               have q7728 : f 132 = (Value.bool (v35)) := vt (hA4421.at_ 17 rfl _ rfl) rfl
               refine opg_taken (c := v35) rfl rfl rfl rfl q7728 hc300 (op_move (v := (Value.int .i64 ((i6 : Int)))) rfl ((hK4531 14 (keep_of rfl)).trans e1277) ?_)
               refine ⟨_, _, rfl, PH.Le.refl _, ?_, ?_⟩
               ·
                exact rfl
               ·
                exact I5623
              ·
               intro vs4532 f w5554 S4557 X4422 le4557 hA4422 hK4532 hI4542
               have I5624 : Inv w5554 S4557 (X4422) := hI4542
               have q7729 : f 132 = (Value.bool (v35)) := vt (hA4422.at_ 17 rfl _ rfl) rfl
               have q7730 : f 133 = (Value.slice z2 m2 k2) := vt (hA4422.at_ 18 rfl _ rfl) rfl
               have q7731 : f 134 = (Value.int .i64 ((i5 : Int))) := vt (hA4422.at_ 19 rfl _ rfl) rfl
               have q7732 : f 135 = (Value.int .i64 ((i6 : Int))) := vt (hA4422.at_ 20 rfl _ rfl) rfl
               refine opg_taken (c := v35) rfl rfl rfl rfl q7729 hc300 (op_call_v (vs := [(Value.slice z2 m2 k2), (Value.int .i64 ((i5 : Int))), (Value.int .i64 ((i6 : Int)))]) (r := (Value.bool (x342))) rfl ca26 rfl (args3 q7730 q7731 q7732) I5624 (fun Fr_ hF_ => F26_ok hF_ (h2_.mono ((((le1.trans le2).trans le3466).trans le4330).trans le4557)) hx342) (fun w5555 I5625 => ?_))
               refine ⟨_, _, rfl, PH.Le.refl _, ?_, ?_⟩
               ·
                exact rfl
               ·
                exact I5625
              ·
               intro vs4533 f w5556 S4558 X4423 le4558 hA4423 hK4533 hI4543
               have I5626 : Inv w5556 S4558 (X4423) := hI4543
               have q7733 : f 132 = (Value.bool (v35)) := vt (hA4423.at_ 17 rfl _ rfl) rfl
               have q7734 : f 136 = (Value.bool (x342)) := vt (hA4423.at_ 21 rfl _ rfl) rfl
               refine opg_taken (c := v35) rfl rfl rfl rfl q7733 hc300 (op_not (b := x342) rfl q7734 ?_)
               refine ⟨_, _, rfl, PH.Le.refl _, ?_, ?_⟩
               ·
                exact rfl
               ·
                exact I5626
              ·
               intro vs4534 f w5557 S4559 X4424 le4559 hA4424 hK4534 hI4544
               have I5627 : Inv w5557 S4559 (X4424) := hI4544
               have q7735 : f 130 = (Value.bool (false)) := vt (hA4424.at_ 15 rfl _ rfl) rfl
               have q7736 : f 132 = (Value.bool (v35)) := vt (hA4424.at_ 17 rfl _ rfl) rfl
               have q7737 : f 137 = (Value.bool (!x342)) := vt (hA4424.at_ 22 rfl _ rfl) rfl
               refine opg_taken (c := false) rfl rfl rfl rfl q7735 rfl (op_pick_f (c := v35) (b := (Value.bool (!x342))) rfl q7736 hc300 q7737 ?_)
               refine ⟨_, _, rfl, PH.Le.refl _, ?_, ?_⟩
               ·
                exact rfl
               ·
                exact I5627
              ·
               intro vs4535 f w5558 S4560 X4425 le4560 hA4425 hK4535 hI4545
               have I5628 : Inv w5558 S4560 (X4425) := hI4545
               have q7738 : f 130 = (Value.bool (false)) := vt (hA4425.at_ 15 rfl _ rfl) rfl
               have q7739 : f 138 = (Value.bool (!x342)) := vt (hA4425.at_ 23 rfl _ rfl) rfl
               refine opg_taken (c := false) rfl rfl rfl rfl q7738 rfl (op_move (v := (Value.bool (!x342))) rfl q7739 ?_)
               refine ⟨_, _, rfl, PH.Le.refl _, ?_, ?_⟩
               ·
                exact rfl
               ·
                exact I5628
              ·
               intro vs4536 f w5559 S4561 X4426 le4561 hA4426 hK4536 hI4546
               have I5629 : Inv w5559 S4561 (X4426) := hI4546
               have q7740 : f 139 = (Value.bool (!x342)) := vt (hA4426.at_ 24 rfl _ rfl) rfl
               refine opg_taken (c := !x342) rfl rfl rfl rfl q7740 hc302 (op_move (v := (Value.slice z6 m6 k6)) rfl ((hK4536 7 (keep_of rfl)).trans e1274) ?_)
               refine ⟨_, _, rfl, PH.Le.refl _, ?_, ?_⟩
               ·
                exact rfl
               ·
                exact I5629
              ·
               intro vs4537 f w5560 S4562 X4427 le4562 hA4427 hK4537 hI4547
               have I5630 : Inv w5560 S4562 (X4427) := hI4547
               have q7741 : f 139 = (Value.bool (!x342)) := vt (hA4427.at_ 24 rfl _ rfl) rfl
               refine opg_taken (c := !x342) rfl rfl rfl rfl q7741 hc302 (op_move (v := (Value.int .i64 ((i5 : Int)))) rfl ((hK4537 13 (keep_of rfl)).trans e1276) ?_)
               refine ⟨_, _, rfl, PH.Le.refl _, ?_, ?_⟩
               ·
                exact rfl
               ·
                exact I5630
              ·
               intro vs4538 f w5561 S4563 X4428 le4563 hA4428 hK4538 hI4548
               have I5631 : Inv w5561 S4563 (Row (α := Int) 3 (Value.slice z6 m6 k6) (x9.1) :: X4428) := hI4548
               have q7742 : f 139 = (Value.bool (!x342)) := vt (hA4428.at_ 24 rfl _ rfl) rfl
               have q7743 : f 140 = (Value.slice z6 m6 k6) := vt (hA4428.at_ 25 rfl _ rfl) rfl
               have q7744 : f 141 = (Value.int .i64 ((i5 : Int))) := vt (hA4428.at_ 26 rfl _ rfl) rfl
               refine opg_taken (c := !x342) rfl rfl rfl rfl q7742 hc302 (op_indexAddr_src (v := (Value.slice z6 m6 k6)) (i := (i5 : Int)) (e := x335) rfl Try.underlying34 sh3 q7743 (Inv.rowSrc (I5631.nth 0 rfl)) q7744 hx335 ?_)
               refine ⟨_, _, rfl, PH.Le.refl _, ?_, ?_⟩
               ·
                exact rfl
               ·
                exact I5631
              ·
               intro vs4539 f w5562 S4564 X4429 le4564 hA4429 hK4539 hI4549
               have I5632 : Inv w5562 S4564 (Row (α := Int) 3 (Value.slice z6 m6 k6) (x9.1) :: X4429) := hI4549
               have q7745 : f 139 = (Value.bool (!x342)) := vt (hA4429.at_ 24 rfl _ rfl) rfl
               have q7746 : f 142 = (elemPtr (Value.slice z6 m6 k6) ((i5 : Int)) (Enc.sz Int)) := vt (hA4429.at_ 27 rfl _ rfl) rfl
               refine opg_taken (c := !x342) rfl rfl rfl rfl q7745 hc302 (op_load_int (v := (elemPtr (Value.slice z6 m6 k6) ((i5 : Int)) (Enc.sz Int))) (e := x335) rfl sh3 q7746 ((I5632.nth 0 rfl).rowElem hx335) ?_)
               refine ⟨_, _, rfl, PH.Le.refl _, ?_, ?_⟩
               ·
                exact rfl
               ·
                exact I5632
              ·
               intro vs4540 f w5563 S4565 X4430 le4565 hA4430 hK4540 hI4550
               have I5633 : Inv w5563 S4565 (X4430) := hI4550
               have q7747 : f 139 = (Value.bool (!x342)) := vt (hA4430.at_ 24 rfl _ rfl) rfl
               refine opg_taken (c := !x342) rfl rfl rfl rfl q7747 hc302 (op_move (v := (Value.int .i64 ((i6 : Int)))) rfl ((hK4540 14 (keep_of rfl)).trans e1277) ?_)
               refine ⟨_, _, rfl, PH.Le.refl _, ?_, ?_⟩
               ·
                exact rfl
               ·
                exact I5633
              ·
               intro vs4541 f w5564 S4566 X4431 le4566 hA4431 hK4541 hI4551
               have I5634 : Inv w5564 S4566 (X4431) := hI4551
               have q7748 : f 139 = (Value.bool (!x342)) := vt (hA4431.at_ 24 rfl _ rfl) rfl
               have q7749 : f 143 = (Value.int .i64 (x335)) := vt (hA4431.at_ 28 rfl _ rfl) rfl
               have q7750 : f 144 = (Value.int .i64 ((i6 : Int))) := vt (hA4431.at_ 29 rfl _ rfl) rfl
               refine opg_taken (c := !x342) rfl rfl rfl rfl q7748 hc302 (op_call_v (vs := [(Value.int .i64 (x335)), (Value.int .i64 ((i6 : Int)))]) (r := (Value.bool (x336))) rfl ca19 rfl (args2 q7749 q7750) I5634 (fun Fr_ hF_ => F19_ok hF_  hx336) (fun w5565 I5635 => ?_))
               refine ⟨_, _, rfl, PH.Le.refl _, ?_, ?_⟩
               ·
                exact rfl
               ·
                exact I5635
              ·
               intro vs4542 f w5566 S4567 X4432 le4567 hA4432 hK4542 hI4552
               have I5636 : Inv w5566 S4567 (X4432) := hI4552
               have q7751 : f 139 = (Value.bool (!x342)) := vt (hA4432.at_ 24 rfl _ rfl) rfl
               refine opg_taken (c := !x342) rfl rfl rfl rfl q7751 hc302 (op_move (v := (Value.slice z21 m21 k21)) rfl ((hK4542 11 (keep_of rfl)).trans e1275) ?_)
               refine ⟨_, _, rfl, PH.Le.refl _, ?_, ?_⟩
               ·
                exact rfl
               ·
                exact I5636
              ·
               intro vs4543 f w5567 S4568 X4433 le4568 hA4433 hK4543 hI4553
               have I5637 : Inv w5567 S4568 (X4433) := hI4553
               have q7752 : f 139 = (Value.bool (!x342)) := vt (hA4433.at_ 24 rfl _ rfl) rfl
               refine opg_taken (c := !x342) rfl rfl rfl rfl q7752 hc302 (op_move (v := (Value.int .i64 ((i5 : Int)))) rfl ((hK4543 13 (keep_of rfl)).trans e1276) ?_)
               refine ⟨_, _, rfl, PH.Le.refl _, ?_, ?_⟩
               ·
                exact rfl
               ·
                exact I5637
              ·
               intro vs4544 f w5568 S4569 X4434 le4569 hA4434 hK4544 hI4554
               have I5638 : Inv w5568 S4569 (Row (α := Int) 3 (Value.slice z21 m21 k21) (x23.1) :: X4434) := hI4554
               have q7753 : f 139 = (Value.bool (!x342)) := vt (hA4434.at_ 24 rfl _ rfl) rfl
               have q7754 : f 146 = (Value.slice z21 m21 k21) := vt (hA4434.at_ 25 rfl _ rfl) rfl
               have q7755 : f 147 = (Value.int .i64 ((i5 : Int))) := vt (hA4434.at_ 26 rfl _ rfl) rfl
               refine opg_taken (c := !x342) rfl rfl rfl rfl q7753 hc302 (op_indexAddr_src (v := (Value.slice z21 m21 k21)) (i := (i5 : Int)) (e := x343) rfl Try.underlying34 sh3 q7754 (Inv.rowSrc (I5638.nth 0 rfl)) q7755 hx343 ?_)
               refine ⟨_, _, rfl, PH.Le.refl _, ?_, ?_⟩
               ·
                exact rfl
               ·
                exact I5638
              ·
               intro vs4545 f w5569 S4570 X4435 le4570 hA4435 hK4545 hI4555
               have I5639 : Inv w5569 S4570 (Row (α := Int) 3 (Value.slice z21 m21 k21) (x23.1) :: X4435) := hI4555
               have q7756 : f 139 = (Value.bool (!x342)) := vt (hA4435.at_ 24 rfl _ rfl) rfl
               have q7757 : f 148 = (elemPtr (Value.slice z21 m21 k21) ((i5 : Int)) (Enc.sz Int)) := vt (hA4435.at_ 27 rfl _ rfl) rfl
               refine opg_taken (c := !x342) rfl rfl rfl rfl q7756 hc302 (op_load_int (v := (elemPtr (Value.slice z21 m21 k21) ((i5 : Int)) (Enc.sz Int))) (e := x343) rfl sh3 q7757 ((I5639.nth 0 rfl).rowElem hx343) ?_)
               refine ⟨_, _, rfl, PH.Le.refl _, ?_, ?_⟩
               ·
                exact rfl
               ·
                exact I5639
              ·
               intro vs4546 f w5570 S4571 X4436 le4571 hA4436 hK4546 hI4556
               have I5640 : Inv w5570 S4571 (X4436) := hI4556
               have q7758 : f 139 = (Value.bool (!x342)) := vt (hA4436.at_ 24 rfl _ rfl) rfl
               refine opg_taken (c := !x342) rfl rfl rfl rfl q7758 hc302 (op_move (v := (Value.int .i64 ((i6 : Int)))) rfl ((hK4546 14 (keep_of rfl)).trans e1277) ?_)
               refine ⟨_, _, rfl, PH.Le.refl _, ?_, ?_⟩
               ·
                exact rfl
               ·
                exact I5640
              ·
               intro vs4547 f w5571 S4572 X4437 le4572 hA4437 hK4547 hI4557
               have I5641 : Inv w5571 S4572 (X4437) := hI4557
               have q7759 : f 139 = (Value.bool (!x342)) := vt (hA4437.at_ 24 rfl _ rfl) rfl
               have q7760 : f 149 = (Value.int .i64 (x343)) := vt (hA4437.at_ 34 rfl _ rfl) rfl
               have q7761 : f 150 = (Value.int .i64 ((i6 : Int))) := vt (hA4437.at_ 35 rfl _ rfl) rfl
               refine opg_taken (c := !x342) rfl rfl rfl rfl q7759 hc302 (op_call_v (vs := [(Value.int .i64 (x343)), (Value.int .i64 ((i6 : Int)))]) (r := (Value.bool (x344))) rfl ca19 rfl (args2 q7760 q7761) I5641 (fun Fr_ hF_ => F19_ok hF_  hx344) (fun w5572 I5642 => ?_))
               refine ⟨_, _, rfl, PH.Le.refl _, ?_, ?_⟩
               ·
                exact rfl
               ·
                exact I5642
              ·
               intro vs4548 f w5573 S4573 X4438 le4573 hA4438 hK4548 hI4558
               have I5643 : Inv w5573 S4573 (X4438) := hI4558
               have q7762 : f 139 = (Value.bool (!x342)) := vt (hA4438.at_ 24 rfl _ rfl) rfl
               have q7763 : f 145 = (Value.bool (x336)) := vt (hA4438.at_ 30 rfl _ rfl) rfl
               have q7764 : f 151 = (Value.bool (x344)) := vt (hA4438.at_ 36 rfl _ rfl) rfl
               refine opg_taken (c := !x342) rfl rfl rfl rfl q7762 hc302 (op_bneq (a := x336) (b := x344) rfl Try.underlying4 q7763 q7764 ?_)
               refine ⟨_, _, rfl, PH.Le.refl _, ?_, ?_⟩
               ·
                exact rfl
               ·
                exact I5643
              ·
               intro vs4549 f w5574 S4574 X4439 le4574 hA4439 hK4549 hI4559
               have I5644 : Inv w5574 S4574 (X4439) := hI4559
               have q7765 : f 130 = (Value.bool (false)) := vt (hA4439.at_ 15 rfl _ rfl) rfl
               have q7766 : f 139 = (Value.bool (!x342)) := vt (hA4439.at_ 24 rfl _ rfl) rfl
               have q7767 : f 152 = (Value.bool (x336 != x344)) := vt (hA4439.at_ 37 rfl _ rfl) rfl
               refine opg_taken (c := false) rfl rfl rfl rfl q7765 rfl (op_pick_t (c := !x342) (a := (Value.bool (x336 != x344))) rfl q7766 hc302 q7767 ?_)
               refine ⟨_, _, rfl, PH.Le.refl _, ?_, ?_⟩
               ·
                exact rfl
               ·
                exact I5644
              ·
               intro vs4550 f w5575 S4575 X4440 le4575 hA4440 hK4550 hI4560
               have I5645 : Inv w5575 S4575 (X4440) := hI4560
               have q7768 : f 130 = (Value.bool (false)) := vt (hA4440.at_ 15 rfl _ rfl) rfl
               have q7769 : f 153 = (Value.bool (x336 != x344)) := vt (hA4440.at_ 38 rfl _ rfl) rfl
               refine opg_plain rfl rfl (op_pick_f (c := false) (b := (Value.bool (x336 != x344))) rfl q7768 rfl q7769 ?_)
               refine ⟨_, _, rfl, PH.Le.refl _, ?_, ?_⟩
               ·
                exact rfl
               ·
                exact I5645
              ·
               intro vs4551 f w5576 S4576 le4576 hF111 hK4551 hI4561
               have e1314 : f 1 = (Value.int .i64 (a1)) := (hK4551 1 (keep_all rfl)).trans e1271
               have e1315 : f 2 = (Value.slice z2 m2 k2) := (hK4551 2 (keep_all rfl)).trans e1272
               have e1316 : f 3 = (Value.pointer (some ⟨g1, 0, none⟩)) := (hK4551 3 (keep_all rfl)).trans e1273
               have e1317 : f 7 = (Value.slice z6 m6 k6) := (hK4551 7 (keep_all rfl)).trans e1274
               have e1318 : f 11 = (Value.slice z21 m21 k21) := (hK4551 11 (keep_all rfl)).trans e1275
               have e1319 : f 13 = (Value.int .i64 ((i5 : Int))) := (hK4551 13 (keep_all rfl)).trans e1276
               have e1320 : f 14 = (Value.int .i64 ((i6 : Int))) := (hK4551 14 (keep_all rfl)).trans e1277
               have I5646 : Inv w5576 S4576 (Row (α := Int) 3 (Value.slice z6 m6 k6) (x9.1) :: Row (α := Int) 3 (Value.slice z21 m21 k21) (x23.1) :: Fr) := hI4561
               have q7770 : f 154 = (Value.bool (x336 != x344)) := vt (hF111.at_ 39 rfl _ rfl) rfl
               rcases ifs h107 with ⟨hc303, h107⟩ | ⟨hc303, h107⟩
               ·
                refine wp_cond_t (b := x336 != x344) q7770 hc303 ?_
                refine wp_seq' ?_
                refine wp_region' ?_
                refine wl_op rfl (op_assign (v := (Value.bool (false))) rfl rfl ?_)
                refine wl_nil ?_
                refine wp_ret' ?_
                obtain rfl := Option.some.inj h107
                obtain rfl := (hout6 _ rfl)
                have h108 := h87
                obtain rfl := Option.some.inj h108
                obtain rfl := (hout5 _ rfl)
                have h88 := h
                obtain rfl := Option.some.inj h88
                exact ⟨(Value.bool (false)), (res1 rfl rfl), _, [], ((((le1.trans le2).trans le3466).trans le4330).trans le4576), ((I5646).drop).drop, rfl, rfl⟩
               ·
                refine wp_cond_f (b := x336 != x344) q7770 hc303 ?_
                refine wp_skip' ?_
                refine wp_region' ?_
                refine wl_op rfl (op_move (v := (Value.int .i64 ((i6 : Int)))) rfl e1320 ?_)
                refine wl_op rfl (op_add (a := (i6 : Int)) (b := 1) rfl rfl rfl ?_)
                refine wl_op rfl (op_assign (v := (Value.int .i64 (w64 ((i6 : Int) + 1)))) rfl rfl ?_)
                refine wl_nil ?_
                obtain rfl := Option.some.inj h107
                exact ⟨_, rfl, _, (le4330.trans le4576), ((I5646.pull 1).pull 1), e1314, e1315, e1316, e1317, e1318, e1319, (idx_next hlt6 hk5)⟩
             ·
              refine wp_draw (sps := [⟨some 115, [], [0], fun vs_ T_ => fr0 vs_ 0 = (Value.slice z6 m6 k6), [], [], [], fun _ h_ => h_⟩, ⟨some 116, [], [1], fun vs_ T_ => fr0 vs_ 0 = (Value.int .i64 ((i5 : Int))), [], [], [], fun _ h_ => h_⟩, ⟨some 117, [0, 1], [2], fun vs_ T_ => fr0 vs_ 0 = (elemPtr (Value.slice z6 m6 k6) ((i5 : Int)) (Enc.sz Int)), [0], [], [], fun _ h_ => h_⟩, ⟨some 118, [0, 1, 2], [3], fun vs_ T_ => fr0 vs_ 0 = (Value.int .i64 (x335)), [0], [], [], fun _ h_ => h_⟩, ⟨some 119, [], [4], fun vs_ T_ => fr0 vs_ 0 = (Value.int .i64 ((i6 : Int))), [], [], [], fun _ h_ => h_⟩, ⟨some 120, [0, 1, 2, 3, 4], [5], fun vs_ T_ => fr0 vs_ 0 = (Value.bool (x336)), [], [], [], fun _ h_ => h_⟩, ⟨some 121, [0, 1, 2, 3, 4, 5], [6], fun vs_ T_ => fr0 vs_ 0 = (Value.bool (x336)), [], [], [], fun _ h_ => h_⟩, ⟨some 122, [0, 1, 2, 3, 4, 5, 6], [7], fun vs_ T_ => fr0 vs_ 0 = undef, [], [], [], fun _ h_ => h_⟩, ⟨some 123, [0, 1, 2, 3, 4, 5, 6], [8], fun vs_ T_ => fr0 vs_ 0 = undef, [], [], [], fun _ h_ => h_⟩, ⟨some 124, [0, 1, 2, 3, 4, 5, 6, 7, 8], [9], fun vs_ T_ => fr0 vs_ 0 = undef, [], [], [], fun _ h_ => h_⟩, ⟨some 125, [0, 1, 2, 3, 4, 5, 6, 7, 8, 9], [10], fun vs_ T_ => fr0 vs_ 0 = undef, [], [], [], fun _ h_ => h_⟩, ⟨some 126, [0, 1, 2, 3, 4, 5, 6], [11], fun vs_ T_ => fr0 vs_ 0 = undef, [], [], [], fun _ h_ => h_⟩, ⟨some 127, [0, 1, 2, 3, 4, 5, 6, 7, 8, 9, 10, 11], [12], fun vs_ T_ => fr0 vs_ 0 = undef, [], [], [], fun _ h_ => h_⟩, ⟨some 128, [0, 1, 2, 3, 4, 5, 6, 7, 8, 9, 10, 11, 12], [13], fun vs_ T_ => fr0 vs_ 0 = undef, [], [], [], fun _ h_ => h_⟩, ⟨some 129, [0, 1, 2, 3, 4, 5, 6, 7, 8, 9, 10, 11, 12, 13], [14], fun vs_ T_ => fr0 vs_ 0 = (Value.bool (false)), [], [], [], fun _ h_ => h_⟩, ⟨some 130, [0, 1, 2, 3, 4, 5, 6, 7, 8, 9, 10, 11, 12, 13, 14], [15], fun vs_ T_ => fr0 vs_ 0 = (Value.bool (false)), [], [], [], fun _ h_ => h_⟩, ⟨some 131, [0, 1, 2, 3, 4, 5, 6, 7, 8, 9, 10, 11, 12, 13, 14, 15], [16], fun vs_ T_ => fr0 vs_ 0 = (Value.bool (v35)), [], [], [], fun _ h_ => h_⟩, ⟨some 132, [0, 1, 2, 3, 4, 5, 6, 7, 8, 9, 10, 11, 12, 13, 14, 15, 16], [17], fun vs_ T_ => fr0 vs_ 0 = (Value.bool (v35)), [], [], [], fun _ h_ => h_⟩, ⟨some 133, [0, 1, 2, 3, 4, 5, 6, 7, 8, 9, 10, 11, 12, 13, 14, 15, 16, 17], [18], fun vs_ T_ => fr0 vs_ 0 = (Value.slice z2 m2 k2), [], [], [], fun _ h_ => h_⟩, ⟨some 134, [0, 1, 2, 3, 4, 5, 6, 7, 8, 9, 10, 11, 12, 13, 14, 15, 16, 17], [19], fun vs_ T_ => fr0 vs_ 0 = (Value.int .i64 ((i5 : Int))), [], [], [], fun _ h_ => h_⟩, ⟨some 135, [0, 1, 2, 3, 4, 5, 6, 7, 8, 9, 10, 11, 12, 13, 14, 15, 16, 17], [20], fun vs_ T_ => fr0 vs_ 0 = (Value.int .i64 ((i6 : Int))), [], [], [], fun _ h_ => h_⟩, ⟨some 136, [0, 1, 2, 3, 4, 5, 6, 7, 8, 9, 10, 11, 12, 13, 14, 15, 16, 17, 18, 19, 20], [21], fun vs_ T_ => fr0 vs_ 0 = (Value.bool (x342)), [], [], [], fun _ h_ => h_⟩, ⟨some 137, [0, 1, 2, 3, 4, 5, 6, 7, 8, 9, 10, 11, 12, 13, 14, 15, 16, 17, 18, 19, 20, 21], [22], fun vs_ T_ => fr0 vs_ 0 = (Value.bool (!x342)), [], [], [], fun _ h_ => h_⟩, ⟨some 138, [0, 1, 2, 3, 4, 5, 6, 7, 8, 9, 10, 11, 12, 13, 14, 15, 16, 17, 18, 19, 20, 21, 22], [23], fun vs_ T_ => fr0 vs_ 0 = (Value.bool (!x342)), [], [], [], fun _ h_ => h_⟩, ⟨some 139, [0, 1, 2, 3, 4, 5, 6, 7, 8, 9, 10, 11, 12, 13, 14, 15, 16, 17, 18, 19, 20, 21, 22, 23], [24], fun vs_ T_ => fr0 vs_ 0 = (Value.bool (!x342)), [], [], [], fun _ h_ => h_⟩, ⟨some 140, [0, 1, 2, 3, 4, 5, 6, 7, 8, 9, 10, 11, 12, 13, 14, 15, 16, 17, 18, 19, 20, 21, 22, 23, 24], [25], fun vs_ T_ => fr0 vs_ 0 = undef, [], [], [], fun _ h_ => h_⟩, ⟨some 141, [0, 1, 2, 3, 4, 5, 6, 7, 8, 9, 10, 11, 12, 13, 14, 15, 16, 17, 18, 19, 20, 21, 22, 23, 24], [26], fun vs_ T_ => fr0 vs_ 0 = undef, [], [], [], fun _ h_ => h_⟩, ⟨some 142, [0, 1, 2, 3, 4, 5, 6, 7, 8, 9, 10, 11, 12, 13, 14, 15, 16, 17, 18, 19, 20, 21, 22, 23, 24, 25, 26], [27], fun vs_ T_ => fr0 vs_ 0 = undef, [], [], [], fun _ h_ => h_⟩, ⟨some 143, [0, 1, 2, 3, 4, 5, 6, 7, 8, 9, 10, 11, 12, 13, 14, 15, 16, 17, 18, 19, 20, 21, 22, 23, 24, 25, 26, 27], [28], fun vs_ T_ => fr0 vs_ 0 = undef, [], [], [], fun _ h_ => h_⟩, ⟨some 144, [0, 1, 2, 3, 4, 5, 6, 7, 8, 9, 10, 11, 12, 13, 14, 15, 16, 17, 18, 19, 20, 21, 22, 23, 24], [29], fun vs_ T_ => fr0 vs_ 0 = undef, [], [], [], fun _ h_ => h_⟩, ⟨some 145, [0, 1, 2, 3, 4, 5, 6, 7, 8, 9, 10, 11, 12, 13, 14, 15, 16, 17, 18, 19, 20, 21, 22, 23, 24, 25, 26, 27, 28, 29], [30], fun vs_ T_ => fr0 vs_ 0 = undef, [], [], [], fun _ h_ => h_⟩, ⟨some 146, [0, 1, 2, 3, 4, 5, 6, 7, 8, 9, 10, 11, 12, 13, 14, 15, 16, 17, 18, 19, 20, 21, 22, 23, 24], [31], fun vs_ T_ => fr0 vs_ 0 = undef, [], [], [], fun _ h_ => h_⟩, ⟨some 147, [0, 1, 2, 3, 4, 5, 6, 7, 8, 9, 10, 11, 12, 13, 14, 15, 16, 17, 18, 19, 20, 21, 22, 23, 24], [32], fun vs_ T_ => fr0 vs_ 0 = undef, [], [], [], fun _ h_ => h_⟩, ⟨some 148, [0, 1, 2, 3, 4, 5, 6, 7, 8, 9, 10, 11, 12, 13, 14, 15, 16, 17, 18, 19, 20, 21, 22, 23, 24, 31, 32], [33], fun vs_ T_ => fr0 vs_ 0 = undef, [], [], [], fun _ h_ => h_⟩, ⟨some 149, [0, 1, 2, 3, 4, 5, 6, 7, 8, 9, 10, 11, 12, 13, 14, 15, 16, 17, 18, 19, 20, 21, 22, 23, 24, 31, 32, 33], [34], fun vs_ T_ => fr0 vs_ 0 = undef, [], [], [], fun _ h_ => h_⟩, ⟨some 150, [0, 1, 2, 3, 4, 5, 6, 7, 8, 9, 10, 11, 12, 13, 14, 15, 16, 17, 18, 19, 20, 21, 22, 23, 24], [35], fun vs_ T_ => fr0 vs_ 0 = undef, [], [], [], fun _ h_ => h_⟩, ⟨some 151, [0, 1, 2, 3, 4, 5, 6, 7, 8, 9, 10, 11, 12, 13, 14, 15, 16, 17, 18, 19, 20, 21, 22, 23, 24, 25, 26, 27, 28, 29, 30, 31, 32, 33, 34, 35], [36], fun vs_ T_ => fr0 vs_ 0 = undef, [], [], [], fun _ h_ => h_⟩, ⟨some 152, [0, 1, 2, 3, 4, 5, 6, 7, 8, 9, 10, 11, 12, 13, 14, 15, 16, 17, 18, 19, 20, 21, 22, 23, 24, 25, 26, 27, 28, 29, 30, 31, 32, 33, 34, 35, 36], [37], fun vs_ T_ => fr0 vs_ 0 = undef, [], [], [], fun _ h_ => h_⟩, ⟨some 153, [0, 1, 2, 3, 4, 5, 6, 7, 8, 9, 10, 11, 12, 13, 14, 15, 16, 17, 18, 19, 20, 21, 22, 23, 24, 25, 26, 27, 28, 29, 30, 31, 32, 33, 34, 35, 36, 37], [38], fun vs_ T_ => fr0 vs_ 0 = (Value.bool (false)), [], [], [], fun _ h_ => h_⟩, ⟨some 154, [0, 1, 2, 3, 4, 5, 6, 7, 8, 9, 10, 11, 12, 13, 14, 15, 16, 17, 18, 19, 20, 21, 22, 23, 24, 25, 26, 27, 28, 29, 30, 31, 32, 33, 34, 35, 36, 37, 38], [39], fun vs_ T_ => fr0 vs_ 0 = (Value.bool (false)), [], [], [], fun _ h_ => h_⟩]) (tks := [⟨none, none, [], fun vs_ => Row (α := Int) 3 (Value.slice z6 m6 k6) (x9.1)⟩]) (O := Row (α := Int) 3 (Value.slice z21 m21 k21) (x23.1) :: Fr) rfl (by kernel_rfl) I5347 ⟨?_, ?_, ?_, ?_, ?_, ?_, ?_, ?_, ?_, ?_, ?_, ?_, ?_, ?_, ?_, ?_, ?_, ?_, ?_, ?_, ?_, ?_, ?_, ?_, ?_, ?_, ?_, ?_, ?_, ?_, ?_, ?_, ?_, ?_, ?_, ?_, ?_, ?_, ?_, ?_, trivial⟩ ?_
              ·
               intro vs4552 f w5579 S4577 X4441 le4577 hA4441 hK4552 hI4562
               have I5649 : Inv w5579 S4577 (X4441) := hI4562
               refine opg_plain rfl rfl (op_move (v := (Value.slice z6 m6 k6)) rfl ((hK4552 7 (keep_of rfl)).trans e1274) ?_)
               refine ⟨_, _, rfl, PH.Le.refl _, ?_, ?_⟩
               ·
                exact rfl
               ·
                exact I5649
              ·
               intro vs4553 f w5580 S4578 X4442 le4578 hA4442 hK4553 hI4563
               have I5650 : Inv w5580 S4578 (X4442) := hI4563
               refine opg_plain rfl rfl (op_move (v := (Value.int .i64 ((i5 : Int)))) rfl ((hK4553 13 (keep_of rfl)).trans e1276) ?_)
               refine ⟨_, _, rfl, PH.Le.refl _, ?_, ?_⟩
               ·
                exact rfl
               ·
                exact I5650
              ·
               intro vs4554 f w5581 S4579 X4443 le4579 hA4443 hK4554 hI4564
               have I5651 : Inv w5581 S4579 (Row (α := Int) 3 (Value.slice z6 m6 k6) (x9.1) :: X4443) := hI4564
               have q7771 : f 115 = (Value.slice z6 m6 k6) := vt (hA4443.at_ 0 rfl _ rfl) rfl
               have q7772 : f 116 = (Value.int .i64 ((i5 : Int))) := vt (hA4443.at_ 1 rfl _ rfl) rfl
               refine opg_plain rfl rfl (op_indexAddr_src (v := (Value.slice z6 m6 k6)) (i := (i5 : Int)) (e := x335) rfl Try.underlying34 sh3 q7771 (Inv.rowSrc (I5651.nth 0 rfl)) q7772 hx335 ?_)
               refine ⟨_, _, rfl, PH.Le.refl _, ?_, ?_⟩
               ·
                exact rfl
               ·
                exact I5651
              ·
               intro vs4555 f w5582 S4580 X4444 le4580 hA4444 hK4555 hI4565
               have I5652 : Inv w5582 S4580 (Row (α := Int) 3 (Value.slice z6 m6 k6) (x9.1) :: X4444) := hI4565
               have q7773 : f 117 = (elemPtr (Value.slice z6 m6 k6) ((i5 : Int)) (Enc.sz Int)) := vt (hA4444.at_ 2 rfl _ rfl) rfl
               refine opg_plain rfl rfl (op_load_int (v := (elemPtr (Value.slice z6 m6 k6) ((i5 : Int)) (Enc.sz Int))) (e := x335) rfl sh3 q7773 ((I5652.nth 0 rfl).rowElem hx335) ?_)
               refine ⟨_, _, rfl, PH.Le.refl _, ?_, ?_⟩
               ·
                exact rfl
               ·
                exact I5652
              ·
               intro vs4556 f w5583 S4581 X4445 le4581 hA4445 hK4556 hI4566
               have I5653 : Inv w5583 S4581 (X4445) := hI4566
               refine opg_plain rfl rfl (op_move (v := (Value.int .i64 ((i6 : Int)))) rfl ((hK4556 14 (keep_of rfl)).trans e1277) ?_)
               refine ⟨_, _, rfl, PH.Le.refl _, ?_, ?_⟩
               ·
                exact rfl
               ·
                exact I5653
              ·
               intro vs4557 f w5584 S4582 X4446 le4582 hA4446 hK4557 hI4567
               have I5654 : Inv w5584 S4582 (X4446) := hI4567
               have q7774 : f 118 = (Value.int .i64 (x335)) := vt (hA4446.at_ 3 rfl _ rfl) rfl
               have q7775 : f 119 = (Value.int .i64 ((i6 : Int))) := vt (hA4446.at_ 4 rfl _ rfl) rfl
               refine opg_plain rfl rfl (op_call_v (vs := [(Value.int .i64 (x335)), (Value.int .i64 ((i6 : Int)))]) (r := (Value.bool (x336))) rfl ca19 rfl (args2 q7774 q7775) I5654 (fun Fr_ hF_ => F19_ok hF_  hx336) (fun w5585 I5655 => ?_))
               refine ⟨_, _, rfl, PH.Le.refl _, ?_, ?_⟩
               ·
                exact rfl
               ·
                exact I5655
              ·
               intro vs4558 f w5586 S4583 X4447 le4583 hA4447 hK4558 hI4568
               have I5656 : Inv w5586 S4583 (X4447) := hI4568
               have q7776 : f 120 = (Value.bool (x336)) := vt (hA4447.at_ 5 rfl _ rfl) rfl
               refine opg_plain rfl rfl (op_move (v := (Value.bool (x336))) rfl q7776 ?_)
               refine ⟨_, _, rfl, PH.Le.refl _, ?_, ?_⟩
               ·
                exact rfl
               ·
                exact I5656
              ·
               intro vs4559 f w5587 S4584 X4448 le4584 hA4448 hK4559 hI4569
               have I5657 : Inv w5587 S4584 (X4448) := hI4569
               have q7777 : f 121 = (Value.bool (x336)) := vt (hA4448.at_ 6 rfl _ rfl) rfl
               exact opg_skip (c := x336) rfl rfl rfl rfl q7777 hc294 rfl ⟨_, _, rfl, PH.Le.refl _, rfl, I5657⟩
              ·
               intro vs4560 f w5588 S4585 X4449 le4585 hA4449 hK4560 hI4570
               have I5658 : Inv w5588 S4585 (X4449) := hI4570
               have q7778 : f 121 = (Value.bool (x336)) := vt (hA4449.at_ 6 rfl _ rfl) rfl
               exact opg_skip (c := x336) rfl rfl rfl rfl q7778 hc294 rfl ⟨_, _, rfl, PH.Le.refl _, rfl, I5658⟩
              ·
               intro vs4561 f w5589 S4586 X4450 le4586 hA4450 hK4561 hI4571
               have I5659 : Inv w5589 S4586 (X4450) := hI4571
               have q7779 : f 121 = (Value.bool (x336)) := vt (hA4450.at_ 6 rfl _ rfl) rfl
               have q7780 : f 122 = undef := vt (hA4450.at_ 7 rfl _ rfl) rfl
               have q7781 : f 123 = undef := vt (hA4450.at_ 8 rfl _ rfl) rfl
               exact opg_skip (c := x336) rfl rfl rfl rfl q7779 hc294 rfl ⟨_, _, rfl, PH.Le.refl _, rfl, I5659⟩
              ·
               intro vs4562 f w5590 S4587 X4451 le4587 hA4451 hK4562 hI4572
               have I5660 : Inv w5590 S4587 (X4451) := hI4572
               have q7782 : f 121 = (Value.bool (x336)) := vt (hA4451.at_ 6 rfl _ rfl) rfl
               have q7783 : f 124 = undef := vt (hA4451.at_ 9 rfl _ rfl) rfl
               exact opg_skip (c := x336) rfl rfl rfl rfl q7782 hc294 rfl ⟨_, _, rfl, PH.Le.refl _, rfl, I5660⟩
              ·
               intro vs4563 f w5591 S4588 X4452 le4588 hA4452 hK4563 hI4573
               have I5661 : Inv w5591 S4588 (X4452) := hI4573
               have q7784 : f 121 = (Value.bool (x336)) := vt (hA4452.at_ 6 rfl _ rfl) rfl
               exact opg_skip (c := x336) rfl rfl rfl rfl q7784 hc294 rfl ⟨_, _, rfl, PH.Le.refl _, rfl, I5661⟩
              ·
               intro vs4564 f w5592 S4589 X4453 le4589 hA4453 hK4564 hI4574
               have I5662 : Inv w5592 S4589 (X4453) := hI4574
               have q7785 : f 121 = (Value.bool (x336)) := vt (hA4453.at_ 6 rfl _ rfl) rfl
               have q7786 : f 125 = undef := vt (hA4453.at_ 10 rfl _ rfl) rfl
               have q7787 : f 126 = undef := vt (hA4453.at_ 11 rfl _ rfl) rfl
               exact opg_skip (c := x336) rfl rfl rfl rfl q7785 hc294 rfl ⟨_, _, rfl, PH.Le.refl _, rfl, I5662⟩
              ·
               intro vs4565 f w5593 S4590 X4454 le4590 hA4454 hK4565 hI4575
               have I5663 : Inv w5593 S4590 (X4454) := hI4575
               have q7788 : f 121 = (Value.bool (x336)) := vt (hA4454.at_ 6 rfl _ rfl) rfl
               have q7789 : f 127 = undef := vt (hA4454.at_ 12 rfl _ rfl) rfl
               exact opg_skip (c := x336) rfl rfl rfl rfl q7788 hc294 rfl ⟨_, _, rfl, PH.Le.refl _, rfl, I5663⟩
              ·
               intro vs4566 f w5594 S4591 X4455 le4591 hA4455 hK4566 hI4576
               have I5664 : Inv w5594 S4591 (X4455) := hI4576
               have q7790 : f 121 = (Value.bool (x336)) := vt (hA4455.at_ 6 rfl _ rfl) rfl
               have q7791 : f 128 = undef := vt (hA4455.at_ 13 rfl _ rfl) rfl
               refine opg_plain rfl rfl (op_pick_f (c := x336) (b := (Value.bool (false))) rfl q7790 hc294 rfl ?_)
               refine ⟨_, _, rfl, PH.Le.refl _, ?_, ?_⟩
               ·
                exact rfl
               ·
                exact I5664
              ·
               intro vs4567 f w5595 S4592 X4456 le4592 hA4456 hK4567 hI4577
               have I5665 : Inv w5595 S4592 (X4456) := hI4577
               have q7792 : f 129 = (Value.bool (false)) := vt (hA4456.at_ 14 rfl _ rfl) rfl
               refine opg_plain rfl rfl (op_move (v := (Value.bool (false))) rfl q7792 ?_)
               refine ⟨_, _, rfl, PH.Le.refl _, ?_, ?_⟩
               ·
                exact rfl
               ·
                exact I5665
              ·
               intro vs4568 f w5596 S4593 X4457 le4593 hA4457 hK4568 hI4578
               have I5666 : Inv w5596 S4593 (X4457) := hI4578
               have q7793 : f 130 = (Value.bool (false)) := vt (hA4457.at_ 15 rfl _ rfl) rfl
               refine opg_taken (c := false) rfl rfl rfl rfl q7793 rfl (op_move (v := (Value.bool (v35))) rfl ((hK4568 15 (keep_of rfl)).trans e1278) ?_)
               refine ⟨_, _, rfl, PH.Le.refl _, ?_, ?_⟩
               ·
                exact rfl
               ·
                exact I5666
              ·
               intro vs4569 f w5597 S4594 X4458 le4594 hA4458 hK4569 hI4579
               have I5667 : Inv w5597 S4594 (X4458) := hI4579
               have q7794 : f 130 = (Value.bool (false)) := vt (hA4458.at_ 15 rfl _ rfl) rfl
               have q7795 : f 131 = (Value.bool (v35)) := vt (hA4458.at_ 16 rfl _ rfl) rfl
               refine opg_taken (c := false) rfl rfl rfl rfl q7794 rfl (op_move (v := (Value.bool (v35))) rfl q7795 ?_)
               refine ⟨_, _, rfl, PH.Le.refl _, ?_, ?_⟩
               ·
                exact rfl
               ·
                exact I5667
              ·
               intro vs4570 f w5598 S4595 X4459 le4595 hA4459 hK4570 hI4580
               have I5668 : Inv w5598 S4595 (X4459) := hI4580
               have q7796 : f 132 = (Value.bool (v35)) := vt (hA4459.at_ 17 rfl _ rfl) rfl
               refine opg_taken (c := v35) rfl rfl rfl rfl q7796 hc300 (op_move (v := (Value.slice z2 m2 k2)) rfl ((hK4570 2 (keep_of rfl)).trans e1272) ?_)
               refine ⟨_, _, rfl, PH.Le.refl _, ?_, ?_⟩
               ·
                exact rfl
               ·
                exact I5668
              ·
               intro vs4571 f w5599 S4596 X4460 le4596 hA4460 hK4571 hI4581
               have I5669 : Inv w5599 S4596 (X4460) := hI4581
               have q7797 : f 132 = (Value.bool (v35)) := vt (hA4460.at_ 17 rfl _ rfl) rfl
               refine opg_taken (c := v35) rfl rfl rfl rfl q7797 hc300 (op_move (v := (Value.int .i64 ((i5 : Int)))) rfl ((hK4571 13 (keep_of rfl)).trans e1276) ?_)
               refine ⟨_, _, rfl, PH.Le.refl _, ?_, ?_⟩
               ·
                exact rfl
               ·
                exact I5669
              ·
               intro vs4572 f w5600 S4597 X4461 le4597 hA4461 hK4572 hI4582
               have I5670 : Inv w5600 S4597 (X4461) := hI4582
               have q7798 : f 132 = (Value.bool (v35)) := vt (hA4461.at_ 17 rfl _ rfl) rfl
               refine opg_taken (c := v35) rfl rfl rfl rfl q7798 hc300 (op_move (v := (Value.int .i64 ((i6 : Int)))) rfl ((hK4572 14 (keep_of rfl)).trans e1277) ?_)
               refine ⟨_, _, rfl, PH.Le.refl _, ?_, ?_⟩
               ·
                exact rfl
               ·
                exact I5670
              ·
               intro vs4573 f w5601 S4598 X4462 le4598 hA4462 hK4573 hI4583
               have I5671 : Inv w5601 S4598 (X4462) := hI4583
               have q7799 : f 132 = (Value.bool (v35)) := vt (hA4462.at_ 17 rfl _ rfl) rfl
               have q7800 : f 133 = (Value.slice z2 m2 k2) := vt (hA4462.at_ 18 rfl _ rfl) rfl
               have q7801 : f 134 = (Value.int .i64 ((i5 : Int))) := vt (hA4462.at_ 19 rfl _ rfl) rfl
               have q7802 : f 135 = (Value.int .i64 ((i6 : Int))) := vt (hA4462.at_ 20 rfl _ rfl) rfl
               refine opg_taken (c := v35) rfl rfl rfl rfl q7799 hc300 (op_call_v (vs := [(Value.slice z2 m2 k2), (Value.int .i64 ((i5 : Int))), (Value.int .i64 ((i6 : Int)))]) (r := (Value.bool (x342))) rfl ca26 rfl (args3 q7800 q7801 q7802) I5671 (fun Fr_ hF_ => F26_ok hF_ (h2_.mono ((((le1.trans le2).trans le3466).trans le4330).trans le4598)) hx342) (fun w5602 I5672 => ?_))
               refine ⟨_, _, rfl, PH.Le.refl _, ?_, ?_⟩
               ·
                exact rfl
               ·
                exact I5672
              ·
               intro vs4574 f w5603 S4599 X4463 le4599 hA4463 hK4574 hI4584
               have I5673 : Inv w5603 S4599 (X4463) := hI4584
               have q7803 : f 132 = (Value.bool (v35)) := vt (hA4463.at_ 17 rfl _ rfl) rfl
               have q7804 : f 136 = (Value.bool (x342)) := vt (hA4463.at_ 21 rfl _ rfl) rfl
               refine opg_taken (c := v35) rfl rfl rfl rfl q7803 hc300 (op_not (b := x342) rfl q7804 ?_)
               refine ⟨_, _, rfl, PH.Le.refl _, ?_, ?_⟩
               ·
                exact rfl
               ·
                exact I5673
              ·
               intro vs4575 f w5604 S4600 X4464 le4600 hA4464 hK4575 hI4585
               have I5674 : Inv w5604 S4600 (X4464) := hI4585
               have q7805 : f 130 = (Value.bool (false)) := vt (hA4464.at_ 15 rfl _ rfl) rfl
               have q7806 : f 132 = (Value.bool (v35)) := vt (hA4464.at_ 17 rfl _ rfl) rfl
               have q7807 : f 137 = (Value.bool (!x342)) := vt (hA4464.at_ 22 rfl _ rfl) rfl
               refine opg_taken (c := false) rfl rfl rfl rfl q7805 rfl (op_pick_f (c := v35) (b := (Value.bool (!x342))) rfl q7806 hc300 q7807 ?_)
               refine ⟨_, _, rfl, PH.Le.refl _, ?_, ?_⟩
               ·
                exact rfl
               ·
                exact I5674
              ·
               intro vs4576 f w5605 S4601 X4465 le4601 hA4465 hK4576 hI4586
               have I5675 : Inv w5605 S4601 (X4465) := hI4586
               have q7808 : f 130 = (Value.bool (false)) := vt (hA4465.at_ 15 rfl _ rfl) rfl
               have q7809 : f 138 = (Value.bool (!x342)) := vt (hA4465.at_ 23 rfl _ rfl) rfl
               refine opg_taken (c := false) rfl rfl rfl rfl q7808 rfl (op_move (v := (Value.bool (!x342))) rfl q7809 ?_)
               refine ⟨_, _, rfl, PH.Le.refl _, ?_, ?_⟩
               ·
                exact rfl
               ·
                exact I5675
              ·
               intro vs4577 f w5606 S4602 X4466 le4602 hA4466 hK4577 hI4587
               have I5676 : Inv w5606 S4602 (X4466) := hI4587
               have q7810 : f 139 = (Value.bool (!x342)) := vt (hA4466.at_ 24 rfl _ rfl) rfl
               exact opg_skip (c := !x342) rfl rfl rfl rfl q7810 hc302 rfl ⟨_, _, rfl, PH.Le.refl _, rfl, I5676⟩
              ·
               intro vs4578 f w5607 S4603 X4467 le4603 hA4467 hK4578 hI4588
               have I5677 : Inv w5607 S4603 (X4467) := hI4588
               have q7811 : f 139 = (Value.bool (!x342)) := vt (hA4467.at_ 24 rfl _ rfl) rfl
               exact opg_skip (c := !x342) rfl rfl rfl rfl q7811 hc302 rfl ⟨_, _, rfl, PH.Le.refl _, rfl, I5677⟩
              ·
               intro vs4579 f w5608 S4604 X4468 le4604 hA4468 hK4579 hI4589
               have I5678 : Inv w5608 S4604 (X4468) := hI4589
               have q7812 : f 139 = (Value.bool (!x342)) := vt (hA4468.at_ 24 rfl _ rfl) rfl
               have q7813 : f 140 = undef := vt (hA4468.at_ 25 rfl _ rfl) rfl
               have q7814 : f 141 = undef := vt (hA4468.at_ 26 rfl _ rfl) rfl
               exact opg_skip (c := !x342) rfl rfl rfl rfl q7812 hc302 rfl ⟨_, _, rfl, PH.Le.refl _, rfl, I5678⟩
              ·
               intro vs4580 f w5609 S4605 X4469 le4605 hA4469 hK4580 hI4590
               have I5679 : Inv w5609 S4605 (X4469) := hI4590
               have q7815 : f 139 = (Value.bool (!x342)) := vt (hA4469.at_ 24 rfl _ rfl) rfl
               have q7816 : f 142 = undef := vt (hA4469.at_ 27 rfl _ rfl) rfl
               exact opg_skip (c := !x342) rfl rfl rfl rfl q7815 hc302 rfl ⟨_, _, rfl, PH.Le.refl _, rfl, I5679⟩
              ·
               intro vs4581 f w5610 S4606 X4470 le4606 hA4470 hK4581 hI4591
               have I5680 : Inv w5610 S4606 (X4470) := hI4591
               have q7817 : f 139 = (Value.bool (!x342)) := vt (hA4470.at_ 24 rfl _ rfl) rfl
               exact opg_skip (c := !x342) rfl rfl rfl rfl q7817 hc302 rfl ⟨_, _, rfl, PH.Le.refl _, rfl, I5680⟩
              ·
               intro vs4582 f w5611 S4607 X4471 le4607 hA4471 hK4582 hI4592
               have I5681 : Inv w5611 S4607 (X4471) := hI4592
               have q7818 : f 139 = (Value.bool (!x342)) := vt (hA4471.at_ 24 rfl _ rfl) rfl
               have q7819 : f 143 = undef := vt (hA4471.at_ 28 rfl _ rfl) rfl
               have q7820 : f 144 = undef := vt (hA4471.at_ 29 rfl _ rfl) rfl
               exact opg_skip (c := !x342) rfl rfl rfl rfl q7818 hc302 rfl ⟨_, _, rfl, PH.Le.refl _, rfl, I5681⟩
              ·
               intro vs4583 f w5612 S4608 X4472 le4608 hA4472 hK4583 hI4593
               have I5682 : Inv w5612 S4608 (X4472) := hI4593
               have q7821 : f 139 = (Value.bool (!x342)) := vt (hA4472.at_ 24 rfl _ rfl) rfl
               exact opg_skip (c := !x342) rfl rfl rfl rfl q7821 hc302 rfl ⟨_, _, rfl, PH.Le.refl _, rfl, I5682⟩
              ·
               intro vs4584 f w5613 S4609 X4473 le4609 hA4473 hK4584 hI4594
               have I5683 : Inv w5613 S4609 (X4473) := hI4594
               have q7822 : f 139 = (Value.bool (!x342)) := vt (hA4473.at_ 24 rfl _ rfl) rfl
               exact opg_skip (c := !x342) rfl rfl rfl rfl q7822 hc302 rfl ⟨_, _, rfl, PH.Le.refl _, rfl, I5683⟩
              ·
               intro vs4585 f w5614 S4610 X4474 le4610 hA4474 hK4585 hI4595
               have I5684 : Inv w5614 S4610 (X4474) := hI4595
               have q7823 : f 139 = (Value.bool (!x342)) := vt (hA4474.at_ 24 rfl _ rfl) rfl
               have q7824 : f 146 = undef := vt (hA4474.at_ 25 rfl _ rfl) rfl
               have q7825 : f 147 = undef := vt (hA4474.at_ 26 rfl _ rfl) rfl
               exact opg_skip (c := !x342) rfl rfl rfl rfl q7823 hc302 rfl ⟨_, _, rfl, PH.Le.refl _, rfl, I5684⟩
              ·
               intro vs4586 f w5615 S4611 X4475 le4611 hA4475 hK4586 hI4596
               have I5685 : Inv w5615 S4611 (X4475) := hI4596
               have q7826 : f 139 = (Value.bool (!x342)) := vt (hA4475.at_ 24 rfl _ rfl) rfl
               have q7827 : f 148 = undef := vt (hA4475.at_ 27 rfl _ rfl) rfl
               exact opg_skip (c := !x342) rfl rfl rfl rfl q7826 hc302 rfl ⟨_, _, rfl, PH.Le.refl _, rfl, I5685⟩
              ·
               intro vs4587 f w5616 S4612 X4476 le4612 hA4476 hK4587 hI4597
               have I5686 : Inv w5616 S4612 (X4476) := hI4597
               have q7828 : f 139 = (Value.bool (!x342)) := vt (hA4476.at_ 24 rfl _ rfl) rfl
               exact opg_skip (c := !x342) rfl rfl rfl rfl q7828 hc302 rfl ⟨_, _, rfl, PH.Le.refl _, rfl, I5686⟩
              ·
               intro vs4588 f w5617 S4613 X4477 le4613 hA4477 hK4588 hI4598
               have I5687 : Inv w5617 S4613 (X4477) := hI4598
               have q7829 : f 139 = (Value.bool (!x342)) := vt (hA4477.at_ 24 rfl _ rfl) rfl
               have q7830 : f 149 = undef := vt (hA4477.at_ 34 rfl _ rfl) rfl
               have q7831 : f 150 = undef := vt (hA4477.at_ 35 rfl _ rfl) rfl
               exact opg_skip (c := !x342) rfl rfl rfl rfl q7829 hc302 rfl ⟨_, _, rfl, PH.Le.refl _, rfl, I5687⟩
              ·
               intro vs4589 f w5618 S4614 X4478 le4614 hA4478 hK4589 hI4599
               have I5688 : Inv w5618 S4614 (X4478) := hI4599
               have q7832 : f 139 = (Value.bool (!x342)) := vt (hA4478.at_ 24 rfl _ rfl) rfl
               have q7833 : f 145 = undef := vt (hA4478.at_ 30 rfl _ rfl) rfl
               have q7834 : f 151 = undef := vt (hA4478.at_ 36 rfl _ rfl) rfl
               exact opg_skip (c := !x342) rfl rfl rfl rfl q7832 hc302 rfl ⟨_, _, rfl, PH.Le.refl _, rfl, I5688⟩
              ·
               intro vs4590 f w5619 S4615 X4479 le4615 hA4479 hK4590 hI4600
               have I5689 : Inv w5619 S4615 (X4479) := hI4600
               have q7835 : f 130 = (Value.bool (false)) := vt (hA4479.at_ 15 rfl _ rfl) rfl
               have q7836 : f 139 = (Value.bool (!x342)) := vt (hA4479.at_ 24 rfl _ rfl) rfl
               have q7837 : f 152 = undef := vt (hA4479.at_ 37 rfl _ rfl) rfl
               refine opg_taken (c := false) rfl rfl rfl rfl q7835 rfl (op_pick_f (c := !x342) (b := (Value.bool (false))) rfl q7836 hc302 rfl ?_)
               refine ⟨_, _, rfl, PH.Le.refl _, ?_, ?_⟩
               ·
                exact rfl
               ·
                exact I5689
              ·
               intro vs4591 f w5620 S4616 X4480 le4616 hA4480 hK4591 hI4601
               have I5690 : Inv w5620 S4616 (X4480) := hI4601
               have q7838 : f 130 = (Value.bool (false)) := vt (hA4480.at_ 15 rfl _ rfl) rfl
               have q7839 : f 153 = (Value.bool (false)) := vt (hA4480.at_ 38 rfl _ rfl) rfl
               refine opg_plain rfl rfl (op_pick_f (c := false) (b := (Value.bool (false))) rfl q7838 rfl q7839 ?_)
               refine ⟨_, _, rfl, PH.Le.refl _, ?_, ?_⟩
               ·
                exact rfl
               ·
                exact I5690
              ·
               intro vs4592 f w5621 S4617 le4617 hF112 hK4592 hI4602
               have e1321 : f 1 = (Value.int .i64 (a1)) := (hK4592 1 (keep_all rfl)).trans e1271
               have e1322 : f 2 = (Value.slice z2 m2 k2) := (hK4592 2 (keep_all rfl)).trans e1272
               have e1323 : f 3 = (Value.pointer (some ⟨g1, 0, none⟩)) := (hK4592 3 (keep_all rfl)).trans e1273
               have e1324 : f 7 = (Value.slice z6 m6 k6) := (hK4592 7 (keep_all rfl)).trans e1274
               have e1325 : f 11 = (Value.slice z21 m21 k21) := (hK4592 11 (keep_all rfl)).trans e1275
               have e1326 : f 13 = (Value.int .i64 ((i5 : Int))) := (hK4592 13 (keep_all rfl)).trans e1276
               have e1327 : f 14 = (Value.int .i64 ((i6 : Int))) := (hK4592 14 (keep_all rfl)).trans e1277
               have I5691 : Inv w5621 S4617 (Row (α := Int) 3 (Value.slice z6 m6 k6) (x9.1) :: Row (α := Int) 3 (Value.slice z21 m21 k21) (x23.1) :: Fr) := hI4602
               have q7840 : f 154 = (Value.bool (false)) := vt (hF112.at_ 39 rfl _ rfl) rfl
               refine wp_cond_f (b := false) q7840 rfl ?_
               refine wp_skip' ?_
               refine wp_region' ?_
               refine wl_op rfl (op_move (v := (Value.int .i64 ((i6 : Int)))) rfl e1327 ?_)
               refine wl_op rfl (op_add (a := (i6 : Int)) (b := 1) rfl rfl rfl ?_)
               refine wl_op rfl (op_assign (v := (Value.int .i64 (w64 ((i6 : Int) + 1)))) rfl rfl ?_)
               refine wl_nil ?_
               obtain rfl := Option.some.inj h107
               exact ⟨_, rfl, _, (le4330.trans le4617), ((I5691.pull 1).pull 1), e1321, e1322, e1323, e1324, e1325, e1326, (idx_next hlt6 hk5)⟩
        ·
         rintro s10 f w hs4 hI4603
         obtain ⟨S4618, le4618, I5692, e1328, e1329, e1330, e1331, e1332, e1333, e1334⟩ := hI4603
         refine wp_seq' ?_
         refine wp_seq' ?_
         refine wp_region' ?_
         refine wl_op rfl (op_move (v := (Value.int .i64 ((a0.Doors.length : Int)))) rfl e1334 ?_)
         refine wl_op rfl (op_fieldAddr_t (v := (Value.pointer (some ⟨g1, 0, none⟩))) rfl fa24_1 e1330 ((p1.mono ((le2.trans le3466).trans le4618)).at_ I5692) ?_)
         refine wl_op rfl (op_load (v := (fieldPtr (Value.pointer (some ⟨g1, 0, none⟩)) 1)) (e := a0.Doors) rfl sh22 rfl (((p1.mono ((le2.trans le3466).trans le4618)).at_ I5692).fld Panel.fld1) (fun u64 hu56 => ?_))
         obtain ⟨z69, m69, k69, e1336⟩ := rv_form hu56
         subst e1336
         refine wl_op rfl (op_len_rv rfl Try.underlying22 rfl hu56 ?_)
         refine wl_op rfl (op_lss (a := (a0.Doors.length : Int)) (b := (a0.Doors.length : Int)) rfl rfl rfl ?_)
         refine wl_nil ?_
         refine wp_cond_f (b := decide ((a0.Doors.length : Int) < (a0.Doors.length : Int))) rfl (len_f _) ?_
         refine wp_exit' ?_
         exact ⟨s10, hs4, _, le4618, ((I5692.pull 1).pull 1), e1328, e1329, e1330, e1331, e1332, e1333⟩
       ·
        rintro f w ⟨out6, rfl, S4619, le4619, I5693, e1337, e1338, e1339, e1340, e1341, e1342⟩
        have h87 := onL_inl h87
        refine wp_region' ?_
        refine wl_op rfl (op_move (v := (Value.int .i64 ((i5 : Int)))) rfl e1342 ?_)
        refine wl_op rfl (op_add (a := (i5 : Int)) (b := 1) rfl rfl rfl ?_)
        refine wl_op rfl (op_assign (v := (Value.int .i64 (w64 ((i5 : Int) + 1)))) rfl rfl ?_)
        refine wl_nil ?_
        obtain rfl := Option.some.inj h87
        exact ⟨_, rfl, _, (le3466.trans le4619), ((I5693.pull 1).pull 1), e1337, e1338, e1339, e1340, e1341, (idx_next hlt5 (cnt_le hx264))⟩
      ·
       rintro s11 f w hs5 hI4604
       obtain ⟨S4620, le4620, I5694, e1343, e1344, e1345, e1346, e1347, e1348⟩ := hI4604
       refine wp_seq' ?_
       refine wp_seq' ?_
       refine wp_region' ?_
       refine wl_op rfl (op_move (v := (Value.int .i64 ((x264 : Int)))) rfl e1348 ?_)
       refine wl_op rfl (op_move (v := (Value.int .i64 (a1))) rfl e1343 ?_)
       refine wl_op rfl (op_lss (a := (x264 : Int)) (b := a1) rfl rfl rfl ?_)
       refine wl_nil ?_
       refine wp_cond_f (b := decide ((x264 : Int) < a1)) rfl (cnt_f hx264) ?_
       refine wp_exit' ?_
       exact ⟨s11, hs5, _, le4620, ((I5694.pull 1).pull 1), e1343, e1344, e1345, e1346, e1347⟩
     ·
      rintro f w ⟨out5, rfl, S4621, le4621, I5695, e1349, e1350, e1351, e1352, e1353⟩
      have h := onL_inl h
      refine wp_seq' ?_
      refine wp_region' ?_
      obtain ⟨x345, hx345, h⟩ := bnd h
      refine wl_op rfl (op_call_v (vs := []) (r := (Value.bool (x345))) rfl ca16 rfl args0 I5695 (fun Fr_ hF_ => F16_ok hF_  hx345) (fun w5622 I5696 => ?_))
      refine wl_op rfl (op_assign (v := (Value.bool (x345))) rfl rfl ?_)
      refine wl_nil ?_
      refine wp_ret' ?_
      obtain rfl := Option.some.inj h
      exact ⟨(Value.bool (x345)), (res1 rfl rfl), _, [], ((le1.trans le2).trans le4621), ((I5696).drop).drop, rfl, rfl⟩
end Go.Proofs.Ytfeomcdhhgeilaa.Pad
