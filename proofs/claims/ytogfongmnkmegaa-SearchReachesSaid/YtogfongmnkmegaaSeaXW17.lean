/- A part of the proof: what the functions of the program compute, shown over the model. -/
import Derived.Test.YtogfongmnkmegaaSeaXP
import Derived.Test.YtogfongmnkmegaaSeaXW3
import Derived.Test.YtogfongmnkmegaaSeaXW4
import Derived.Test.YtogfongmnkmegaaSeaXW5
import Derived.Test.YtogfongmnkmegaaSeaXW6
import Derived.KernelRfl
set_option linter.unusedVariables false
namespace Go.Proofs.Ytogfongmnkmegaa.Pad
open Go Go.Proofs
set_option maxHeartbeats 4000000 in
set_option maxRecDepth 100000 in
theorem F4_ok {w : World} {S : PH} {Fr : List HP} {a0 : Graph} {v0 : Value} {a1 : (List Int)} {v1 : Value} {a2 : Law06_Run} {v2 : Value} {r : Bool} (hI : Inv w S (Fr)) (h0_ : RV S v0 a0) (h1_ : RV S v1 a1) (h2_ : RV S v2 a2) (h : F4 a0 a1 a2 = some r) :
    Calls Try.prog 4 [v0, v1, v2].toArray w (DoneV S Fr (Value.bool (r))) := by
 unfold F4 at h
 obtain ⟨c1, c2, e1, r1, r2⟩ := Graph.inv h0_
 subst e1
 obtain ⟨z1, m1, k1, e2⟩ := rv_form r1
 subst e2
 obtain ⟨z2, m2, k2, e3⟩ := rv_form r2
 subst e3
 obtain ⟨z3, m3, k3, e4⟩ := rv_form h1_
 subst e4
 have e5 := Law06_Run.inv h2_
 subst e5
 refine calls_enter (n := 136) (vs := [(Value.agg #[(Value.slice z1 m1 k1), (Value.slice z2 m2 k2)]), (Value.slice z3 m3 k3), (Value.agg #[(Value.int .i64 (a2.Mind.Memory)), (Value.int .i64 (a2.Mind.Turn)), (Value.int .i64 (a2.Most))])]) Try.func4 rfl rfl rfl ?_
 refine wp_seq' ?_
 refine wp_region' ?_
 refine wl_op rfl (op_box (v := (Value.agg #[(Value.slice z1 m1 k1), (Value.slice z2 m2 k2)])) rfl hI rfl (fun g1 w1 I1 => ?_))
 obtain ⟨S1, le1, I2, p1⟩ := Inv.boxFreeze (x := a0) I1 (Graph.rv (s := a0) r1 r2)
 refine wl_op rfl (op_box (v := (Value.agg #[(Value.int .i64 (a2.Mind.Memory)), (Value.int .i64 (a2.Mind.Turn)), (Value.int .i64 (a2.Most))])) rfl I2 rfl (fun g2 w2 I3 => ?_))
 obtain ⟨S2, le2, I4, p2⟩ := Inv.boxFreeze (x := a2) I3 (Law06_Run.rv (s := a2))
 refine wl_op rfl (op_assign (v := (Value.bool (false))) rfl rfl ?_)
 refine wl_nil ?_
 obtain ⟨ov1, h2, h⟩ := bnd h
 refine wp_cut (fun f w => ∃ v1, ov1 = Sum.inl v1 ∧ Inv w S2 (Fr) ∧ f 1 = (Value.slice z3 m3 k3) ∧ f 3 = (Value.pointer (some ⟨g1, 0, none⟩)) ∧ f 5 = (Value.pointer (some ⟨g2, 0, none⟩))) ?_ ?_
 ·
  refine wp_seq' ?_
  refine wp_region' ?_
  refine wl_op rfl (op_load (v := (Value.pointer (some ⟨g1, 0, none⟩))) (e := a0) rfl sh25 rfl ((p1.mono le2).at_ I4) (fun u3 hu3 => ?_))
  obtain ⟨c7, c8, e12, r7, r8⟩ := Graph.inv hu3
  subst e12
  obtain ⟨z8, m8, k8, e13⟩ := rv_form r7
  subst e13
  obtain ⟨z9, m9, k9, e14⟩ := rv_form r8
  subst e14
  obtain ⟨x7, hx7, h2⟩ := bnd h2
  refine wl_op rfl (op_call_v (vs := [(Value.agg #[(Value.slice z8 m8 k8), (Value.slice z9 m9 k9)])]) (r := (Value.bool (x7))) rfl ca15 rfl (args1 rfl) I4 (fun Fr_ hF_ => F15_ok hF_ (Graph.rv (s := a0) r7 r8) hx7) (fun w9 I11 => ?_))
  refine wl_op rfl (op_move (v := (Value.bool (x7))) rfl rfl ?_)
  rcases ifs h2 with ⟨hc4, h2⟩ | ⟨hc4, h2⟩
  ·
   refine wl_skip (c := x7) rfl rfl rfl rfl hc4 rfl ?_
   refine wl_skip (c := x7) rfl rfl rfl rfl hc4 rfl ?_
   refine wl_skip (c := x7) rfl rfl rfl rfl hc4 rfl ?_
   refine wl_skip (c := x7) rfl rfl rfl rfl hc4 rfl ?_
   refine wl_op rfl (op_pick_t (c := x7) (a := (Value.bool (true))) rfl rfl hc4 rfl ?_)
   refine wl_op rfl (op_move (v := (Value.bool (true))) rfl rfl ?_)
   refine wl_skip (c := true) rfl rfl rfl rfl rfl rfl ?_
   refine wl_skip (c := true) rfl rfl rfl rfl rfl rfl ?_
   refine wl_skip (c := true) rfl rfl rfl rfl rfl rfl ?_
   refine wl_op rfl (op_pick_t (c := true) (a := (Value.bool (true))) rfl rfl rfl rfl ?_)
   refine wl_nil ?_
   refine wp_cond_t (b := true) rfl rfl ?_
   refine wp_seq' ?_
   refine wp_region' ?_
   obtain ⟨x8, hx8, h2⟩ := bnd h2
   refine wl_op rfl (op_call_v (vs := []) (r := (Value.bool (x8))) rfl ca17 rfl args0 I11 (fun Fr_ hF_ => F17_ok hF_  hx8) (fun w10 I12 => ?_))
   refine wl_op rfl (op_assign (v := (Value.bool (x8))) rfl rfl ?_)
   refine wl_nil ?_
   refine wp_ret' ?_
   obtain rfl := Option.some.inj h2
   have h3 := h
   obtain rfl := Option.some.inj h3
   exact ⟨(Value.bool (x8)), (res1 rfl rfl), _, [], (le1.trans le2), I12, rfl, rfl⟩
  ·
   refine wl_taken (c := x7) rfl rfl rfl rfl hc4 (op_load (v := (Value.pointer (some ⟨g1, 0, none⟩))) (e := a0) rfl sh25 rfl ((p1.mono le2).at_ I11) (fun u4 hu4 => ?_))
   obtain ⟨c9, c10, e15, r9, r10⟩ := Graph.inv hu4
   subst e15
   obtain ⟨z10, m10, k10, e16⟩ := rv_form r9
   subst e16
   obtain ⟨z11, m11, k11, e17⟩ := rv_form r10
   subst e17
   refine wl_taken (c := x7) rfl rfl rfl rfl hc4 (op_move (v := (Value.slice z3 m3 k3)) rfl rfl ?_)
   obtain ⟨x9, hx9, h2⟩ := bnd h2
   refine wl_taken (c := x7) rfl rfl rfl rfl hc4 (op_call_v (vs := [(Value.agg #[(Value.slice z10 m10 k10), (Value.slice z11 m11 k11)]), (Value.slice z3 m3 k3)]) (r := (Value.int .i64 (x9))) rfl ca21 rfl (args2 rfl rfl) I11 (fun Fr_ hF_ => F21_ok hF_ (Graph.rv (s := a0) r9 r10) (h1_.mono (le1.trans le2)) hx9) (fun w11 I13 => ?_))
   refine wl_taken (c := x7) rfl rfl rfl rfl hc4 (op_neq (a := x9) (b := 0) rfl rfl rfl ?_)
   refine wl_op rfl (op_pick_f (c := x7) (b := (Value.bool (x9 != 0))) rfl rfl hc4 rfl ?_)
   refine wl_op rfl (op_move (v := (Value.bool (x9 != 0))) rfl rfl ?_)
   rcases ifs h2 with ⟨hc5, h2⟩ | ⟨hc5, h2⟩
   ·
    refine wl_skip (c := x9 != 0) rfl rfl rfl rfl hc5 rfl ?_
    refine wl_skip (c := x9 != 0) rfl rfl rfl rfl hc5 rfl ?_
    refine wl_skip (c := x9 != 0) rfl rfl rfl rfl hc5 rfl ?_
    refine wl_op rfl (op_pick_t (c := x9 != 0) (a := (Value.bool (true))) rfl rfl hc5 rfl ?_)
    refine wl_nil ?_
    refine wp_cond_t (b := true) rfl rfl ?_
    refine wp_seq' ?_
    refine wp_region' ?_
    obtain ⟨x10, hx10, h2⟩ := bnd h2
    refine wl_op rfl (op_call_v (vs := []) (r := (Value.bool (x10))) rfl ca17 rfl args0 I13 (fun Fr_ hF_ => F17_ok hF_  hx10) (fun w12 I14 => ?_))
    refine wl_op rfl (op_assign (v := (Value.bool (x10))) rfl rfl ?_)
    refine wl_nil ?_
    refine wp_ret' ?_
    obtain rfl := Option.some.inj h2
    have h3 := h
    obtain rfl := Option.some.inj h3
    exact ⟨(Value.bool (x10)), (res1 rfl rfl), _, [], (le1.trans le2), I14, rfl, rfl⟩
   ·
    refine wl_taken (c := x9 != 0) rfl rfl rfl rfl hc5 (op_fieldAddr_t (v := (Value.pointer (some ⟨g2, 0, none⟩))) rfl fa30_1 rfl (p2.at_ I13) ?_)
    refine wl_taken (c := x9 != 0) rfl rfl rfl rfl hc5 (op_load_int (v := (fieldPtr (Value.pointer (some ⟨g2, 0, none⟩)) 2)) (e := a2.Most) rfl sh3 rfl ((p2.at_ I13).fld Law06_Run.fld1) ?_)
    obtain ⟨x11, hx11, h2⟩ := bnd h2
    refine wl_taken (c := x9 != 0) rfl rfl rfl rfl hc5 (op_call_v (vs := [(Value.int .i64 (a2.Most))]) (r := (Value.bool (x11))) rfl ca16 rfl (args1 rfl) I13 (fun Fr_ hF_ => F16_ok hF_  hx11) (fun w13 I15 => ?_))
    refine wl_op rfl (op_pick_f (c := x9 != 0) (b := (Value.bool (x11))) rfl rfl hc5 rfl ?_)
    refine wl_nil ?_
    rcases ifs h2 with ⟨hc6, h2⟩ | ⟨hc6, h2⟩
    ·
     refine wp_cond_t (b := x11) rfl hc6 ?_
     refine wp_seq' ?_
     refine wp_region' ?_
     obtain ⟨x12, hx12, h2⟩ := bnd h2
     refine wl_op rfl (op_call_v (vs := []) (r := (Value.bool (x12))) rfl ca17 rfl args0 I15 (fun Fr_ hF_ => F17_ok hF_  hx12) (fun w14 I16 => ?_))
     refine wl_op rfl (op_assign (v := (Value.bool (x12))) rfl rfl ?_)
     refine wl_nil ?_
     refine wp_ret' ?_
     obtain rfl := Option.some.inj h2
     have h3 := h
     obtain rfl := Option.some.inj h3
     exact ⟨(Value.bool (x12)), (res1 rfl rfl), _, [], (le1.trans le2), I16, rfl, rfl⟩
    ·
     refine wp_cond_f (b := x11) rfl hc6 ?_
     refine wp_skip' ?_
     obtain rfl := Option.some.inj h2
     exact ⟨_, rfl, I15, rfl, rfl, rfl⟩
 ·
  rintro f w ⟨v1, rfl, I17, e18, e19, e20⟩
  have h := onL_inl h
  refine wp_seq' ?_
  refine wp_region' ?_
  refine wl_op rfl (op_load (v := (Value.pointer (some ⟨g1, 0, none⟩))) (e := a0) rfl sh25 e19 ((p1.mono le2).at_ I17) (fun u5 hu5 => ?_))
  obtain ⟨c11, c12, e21, r11, r12⟩ := Graph.inv hu5
  subst e21
  obtain ⟨z12, m12, k12, e22⟩ := rv_form r11
  subst e22
  obtain ⟨z13, m13, k13, e23⟩ := rv_form r12
  subst e23
  refine wl_op rfl (op_move (v := (Value.slice z3 m3 k3)) rfl e18 ?_)
  refine wl_op rfl (op_fieldAddr_t (v := (Value.pointer (some ⟨g2, 0, none⟩))) rfl fa30_0 e20 (p2.at_ I17) ?_)
  refine wl_op rfl (op_load (v := (fieldPtr (Value.pointer (some ⟨g2, 0, none⟩)) 0)) (e := a2.Mind) rfl sh28 rfl ((p2.at_ I17).fld Law06_Run.fld0) (fun u6 hu6 => ?_))
  have e24 := Mind.inv hu6
  subst e24
  refine wl_op rfl (op_fieldAddr_t (v := (Value.pointer (some ⟨g2, 0, none⟩))) rfl fa30_1 e20 (p2.at_ I17) ?_)
  refine wl_op rfl (op_load_int (v := (fieldPtr (Value.pointer (some ⟨g2, 0, none⟩)) 2)) (e := a2.Most) rfl sh3 rfl ((p2.at_ I17).fld Law06_Run.fld1) ?_)
  obtain ⟨x13, hx13, h⟩ := bnd h
  refine wl_op rfl (op_call (vs := [(Value.agg #[(Value.slice z12 m12 k12), (Value.slice z13 m13 k13)]), (Value.slice z3 m3 k3), (Value.agg #[(Value.int .i64 (a2.Mind.Memory)), (Value.int .i64 (a2.Mind.Turn))]), (Value.int .i64 (a2.Most))]) rfl ca18 rfl (args4 rfl rfl rfl rfl) (F18_ok I17 (Graph.rv (s := a0) r11 r12) (h1_.mono (le1.trans le2)) (Mind.rv (s := a2.Mind)) hx13) (fun v2 w15 S3 O1 le3 I18 hv1 => ?_))
  obtain ⟨z14, m14, k14, rfl, rfl⟩ := hv1
  refine wl_op rfl (op_move (v := (Value.tuple #[(Value.slice z14 m14 k14), (Value.bool (x13.2.1)), (Value.int .i64 (x13.2.2))])) rfl rfl ?_)
  refine wl_op rfl (op_extract (v := (Value.slice z14 m14 k14)) rfl rfl rfl ?_)
  refine wl_op rfl (op_extract (v := (Value.bool (x13.2.1))) rfl rfl rfl ?_)
  refine wl_op rfl (op_extract (v := (Value.int .i64 (x13.2.2))) rfl rfl rfl ?_)
  refine wl_op rfl (op_assign (v := (Value.slice z14 m14 k14)) rfl rfl ?_)
  refine wl_op rfl (op_assign (v := (Value.bool (x13.2.1))) rfl rfl ?_)
  refine wl_op rfl (op_assign (v := (Value.int .i64 (x13.2.2))) rfl rfl ?_)
  refine wl_nil ?_
  refine wp_seq' ?_
  refine wp_seq' ?_
  refine wp_region' ?_
  refine wl_op rfl (op_move (v := (Value.int .i64 (x13.2.2))) rfl rfl ?_)
  refine wl_op rfl (op_neq (a := x13.2.2) (b := 0) rfl rfl rfl ?_)
  refine wl_nil ?_
  rcases ifs h with ⟨hc7, h⟩ | ⟨hc7, h⟩
  ·
   refine wp_cond_t (b := x13.2.2 != 0) rfl hc7 ?_
   refine wp_seq' ?_
   refine wp_region' ?_
   obtain ⟨x14, hx14, h⟩ := bnd h
   refine wl_op rfl (op_call_v (vs := []) (r := (Value.bool (x14))) rfl ca17 rfl args0 I18 (fun Fr_ hF_ => F17_ok hF_  hx14) (fun w16 I19 => ?_))
   refine wl_op rfl (op_assign (v := (Value.bool (x14))) rfl rfl ?_)
   refine wl_nil ?_
   refine wp_ret' ?_
   obtain rfl := Option.some.inj h
   exact ⟨(Value.bool (x14)), (res1 rfl rfl), _, [], ((le1.trans le2).trans le3), (I19).drop, rfl, rfl⟩
  ·
   refine wp_cond_f (b := x13.2.2 != 0) rfl hc7 ?_
   refine wp_skip' ?_
   refine wp_seq' ?_
   refine wp_region' ?_
   refine wl_op rfl (op_assign (v := (Value.int .i64 (0))) rfl rfl ?_)
   refine wl_nil ?_
   refine wp_seq' ?_
   refine wp_seq' ?_
   refine wp_region' ?_
   refine wl_op rfl (op_assign (v := (Value.int .i64 (0))) rfl rfl ?_)
   refine wl_nil ?_
   have hk1 : x13.1.length ≤ 9223372036854775807 := (row_len (I18.nth 0 rfl))
   obtain ⟨o2, hrun1, h⟩ := bnd h
   refine wp_cutN (fun f w => ∃ out1, o2 = Sum.inl out1 ∧ ∃ (S_ : PH), S3.Le S_ ∧ Inv w S_ (Row (α := Int) 3 (Value.slice z14 m14 k14) (x13.1) :: Fr) ∧ f 1 = (Value.slice z3 m3 k3) ∧ f 3 = (Value.pointer (some ⟨g1, 0, none⟩)) ∧ f 5 = (Value.pointer (some ⟨g2, 0, none⟩)) ∧ f 7 = (Value.slice z14 m14 k14) ∧ f 8 = (Value.bool (x13.2.1)) ∧ f 10 = (Value.int .i64 (out1))) ?_ ?_
   ·
    refine wp_block' ?_
    refine wp_forN (I := fun (i1 : Nat) (s1 : (Int)) (f : Frm) (w : World) => ∃ (S_ : PH), S3.Le S_ ∧ Inv w S_ (Row (α := Int) 3 (Value.slice z14 m14 k14) (x13.1) :: Fr) ∧ f 1 = (Value.slice z3 m3 k3) ∧ f 3 = (Value.pointer (some ⟨g1, 0, none⟩)) ∧ f 5 = (Value.pointer (some ⟨g2, 0, none⟩)) ∧ f 7 = (Value.slice z14 m14 k14) ∧ f 8 = (Value.bool (x13.2.1)) ∧ f 10 = (Value.int .i64 (s1)) ∧ f 11 = (Value.int .i64 (i1 : Int))) hrun1 ⟨_, (PH.Le.refl _), I18, e18, e19, e20, rfl, rfl, rfl, rfl⟩ ?_ ?_
    ·
     rintro i1 s1 f w o1 hlt1 hI511 h13 hout1
     obtain ⟨S519, le519, I536, e292, e293, e294, e295, e296, e297, e298⟩ := hI511
     refine wp_seq' ?_
     refine wp_seq' ?_
     refine wp_region' ?_
     refine wl_op rfl (op_move (v := (Value.int .i64 ((i1 : Int)))) rfl e298 ?_)
     refine wl_op rfl (op_move (v := (Value.slice z14 m14 k14)) rfl e295 ?_)
     refine wl_op rfl (op_len_row (α := Int) rfl Try.underlying26 rfl (I536.nth 0 rfl) ?_)
     refine wl_op rfl (op_lss (a := (i1 : Int)) (b := (x13.1.length : Int)) rfl rfl rfl ?_)
     refine wl_nil ?_
     refine wp_cond_t (b := decide ((i1 : Int) < (x13.1.length : Int))) rfl (len_t hlt1) ?_
     refine wp_skip' ?_
     refine wp_seq' ?_
     refine wp_block' ?_
     obtain ⟨ov6, h16, h13⟩ := bnd h13
     refine wp_cut (fun f w => ∃ v6, ov6 = Sum.inl v6 ∧ ∃ (S_ : PH), S519.Le S_ ∧ Inv w S_ (Row (α := Int) 3 (Value.slice z14 m14 k14) (x13.1) :: Fr) ∧ f 1 = (Value.slice z3 m3 k3) ∧ f 3 = (Value.pointer (some ⟨g1, 0, none⟩)) ∧ f 5 = (Value.pointer (some ⟨g2, 0, none⟩)) ∧ f 7 = (Value.slice z14 m14 k14) ∧ f 8 = (Value.bool (x13.2.1)) ∧ f 10 = (Value.int .i64 (s1)) ∧ f 11 = (Value.int .i64 ((i1 : Int)))) ?_ ?_
     ·
      refine wp_seq' ?_
      obtain ⟨x45, hx45, h16⟩ := bnd h16
      rcases ifs h16 with ⟨hc29, h16⟩ | ⟨hc29, h16⟩
      ·
       refine wp_draw (sps := [⟨some 46, [], [0], fun vs_ T_ => fr0 vs_ 0 = (Value.slice z14 m14 k14), [], [], [], fun _ h_ => h_⟩, ⟨some 47, [], [1], fun vs_ T_ => fr0 vs_ 0 = (Value.int .i64 ((i1 : Int))), [], [], [], fun _ h_ => h_⟩, ⟨some 48, [0, 1], [2], fun vs_ T_ => fr0 vs_ 0 = (elemPtr (Value.slice z14 m14 k14) ((i1 : Int)) (Enc.sz Int)), [0], [], [], fun _ h_ => h_⟩, ⟨some 49, [0, 1, 2], [3], fun vs_ T_ => fr0 vs_ 0 = (Value.int .i64 (x45)), [0], [], [], fun _ h_ => h_⟩, ⟨some 50, [0, 1, 2, 3], [4], fun vs_ T_ => fr0 vs_ 0 = (Value.bool (decide (x45 < 0))), [], [], [], fun _ h_ => h_⟩, ⟨some 51, [0, 1, 2, 3, 4], [5], fun vs_ T_ => fr0 vs_ 0 = (Value.bool (decide (x45 < 0))), [], [], [], fun _ h_ => h_⟩, ⟨some 52, [0, 1, 2, 3, 4, 5], [6], fun vs_ T_ => fr0 vs_ 0 = undef, [], [], [], fun _ h_ => h_⟩, ⟨some 53, [0, 1, 2, 3, 4, 5], [7], fun vs_ T_ => fr0 vs_ 0 = undef, [], [], [], fun _ h_ => h_⟩, ⟨some 54, [0, 1, 2, 3, 4, 5, 6, 7], [8], fun vs_ T_ => fr0 vs_ 0 = undef, [], [], [], fun _ h_ => h_⟩, ⟨some 55, [0, 1, 2, 3, 4, 5, 6, 7, 8], [9], fun vs_ T_ => fr0 vs_ 0 = undef, [], [], [], fun _ h_ => h_⟩, ⟨some 56, [0, 1, 2, 3, 4, 5], [10], fun vs_ T_ => fr0 vs_ 0 = undef, [], [], [], fun _ h_ => h_⟩, ⟨some 57, [0, 1, 2, 3, 4, 5, 10], [11], fun vs_ T_ => fr0 vs_ 0 = undef, [], [], [], fun _ h_ => h_⟩, ⟨some 58, [0, 1, 2, 3, 4, 5], [12], fun vs_ T_ => fr0 vs_ 0 = undef, [], [], [], fun _ h_ => h_⟩, ⟨some 59, [0, 1, 2, 3, 4, 5, 10, 11, 12], [13], fun vs_ T_ => fr0 vs_ 0 = undef, [], [], [], fun _ h_ => h_⟩, ⟨some 60, [0, 1, 2, 3, 4, 5, 10, 11, 12, 13], [14], fun vs_ T_ => fr0 vs_ 0 = undef, [], [], [], fun _ h_ => h_⟩, ⟨some 61, [0, 1, 2, 3, 4, 5, 10, 11, 12, 13, 14], [15], fun vs_ T_ => fr0 vs_ 0 = undef, [], [], [], fun _ h_ => h_⟩, ⟨some 62, [0, 1, 2, 3, 4, 5, 6, 7, 8, 9, 10, 11, 12, 13, 14, 15], [16], fun vs_ T_ => fr0 vs_ 0 = undef, [], [], [], fun _ h_ => h_⟩, ⟨some 63, [0, 1, 2, 3, 4, 5, 6, 7, 8, 9, 10, 11, 12, 13, 14, 15, 16], [17], fun vs_ T_ => fr0 vs_ 0 = (Value.bool (true)), [], [], [], fun _ h_ => h_⟩, ⟨some 64, [0, 1, 2, 3, 4, 5, 6, 7, 8, 9, 10, 11, 12, 13, 14, 15, 16, 17], [18], fun vs_ T_ => fr0 vs_ 0 = (Value.bool (true)), [], [], [], fun _ h_ => h_⟩, ⟨some 65, [0, 1, 2, 3, 4, 5, 6, 7, 8, 9, 10, 11, 12, 13, 14, 15, 16, 17, 18], [19], fun vs_ T_ => fr0 vs_ 0 = undef, [], [], [], fun _ h_ => h_⟩, ⟨some 66, [0, 1, 2, 3, 4, 5, 6, 7, 8, 9, 10, 11, 12, 13, 14, 15, 16, 17, 18], [20], fun vs_ T_ => fr0 vs_ 0 = undef, [], [], [], fun _ h_ => h_⟩, ⟨some 67, [0, 1, 2, 3, 4, 5, 6, 7, 8, 9, 10, 11, 12, 13, 14, 15, 16, 17, 18, 19, 20], [21], fun vs_ T_ => fr0 vs_ 0 = undef, [], [], [], fun _ h_ => h_⟩, ⟨some 68, [0, 1, 2, 3, 4, 5, 6, 7, 8, 9, 10, 11, 12, 13, 14, 15, 16, 17, 18, 19, 20, 21], [22], fun vs_ T_ => fr0 vs_ 0 = undef, [], [], [], fun _ h_ => h_⟩, ⟨some 69, [0, 1, 2, 3, 4, 5, 6, 7, 8, 9, 10, 11, 12, 13, 14, 15, 16, 17, 18, 19, 20, 21, 22], [23], fun vs_ T_ => fr0 vs_ 0 = undef, [], [], [], fun _ h_ => h_⟩, ⟨some 70, [0, 1, 2, 3, 4, 5, 6, 7, 8, 9, 10, 11, 12, 13, 14, 15, 16, 17, 18, 19, 20, 21, 22, 23], [24], fun vs_ T_ => fr0 vs_ 0 = (Value.bool (true)), [], [], [], fun _ h_ => h_⟩]) (tks := [⟨none, none, [], fun vs_ => Row (α := Int) 3 (Value.slice z14 m14 k14) (x13.1)⟩]) (O := Fr) rfl (by kernel_rfl) I536 ⟨?_, ?_, ?_, ?_, ?_, ?_, ?_, ?_, ?_, ?_, ?_, ?_, ?_, ?_, ?_, ?_, ?_, ?_, ?_, ?_, ?_, ?_, ?_, ?_, ?_, trivial⟩ ?_
       ·
        intro vs589 f w606 S598 X565 le598 hA565 hK589 hI590
        have I615 : Inv w606 S598 (X565) := hI590
        refine opg_plain rfl rfl (op_move (v := (Value.slice z14 m14 k14)) rfl ((hK589 7 (keep_of rfl)).trans e295) ?_)
        refine ⟨_, _, rfl, PH.Le.refl _, ?_, ?_⟩
        ·
         exact rfl
        ·
         exact I615
       ·
        intro vs590 f w607 S599 X566 le599 hA566 hK590 hI591
        have I616 : Inv w607 S599 (X566) := hI591
        refine opg_plain rfl rfl (op_move (v := (Value.int .i64 ((i1 : Int)))) rfl ((hK590 11 (keep_of rfl)).trans e298) ?_)
        refine ⟨_, _, rfl, PH.Le.refl _, ?_, ?_⟩
        ·
         exact rfl
        ·
         exact I616
       ·
        intro vs591 f w608 S600 X567 le600 hA567 hK591 hI592
        have I617 : Inv w608 S600 (Row (α := Int) 3 (Value.slice z14 m14 k14) (x13.1) :: X567) := hI592
        have q950 : f 46 = (Value.slice z14 m14 k14) := vt (hA567.at_ 0 rfl _ rfl) rfl
        have q951 : f 47 = (Value.int .i64 ((i1 : Int))) := vt (hA567.at_ 1 rfl _ rfl) rfl
        refine opg_plain rfl rfl (op_indexAddr_src (v := (Value.slice z14 m14 k14)) (i := (i1 : Int)) (e := x45) rfl Try.underlying26 sh3 q950 (Inv.rowSrc (I617.nth 0 rfl)) q951 hx45 ?_)
        refine ⟨_, _, rfl, PH.Le.refl _, ?_, ?_⟩
        ·
         exact rfl
        ·
         exact I617
       ·
        intro vs592 f w609 S601 X568 le601 hA568 hK592 hI593
        have I618 : Inv w609 S601 (Row (α := Int) 3 (Value.slice z14 m14 k14) (x13.1) :: X568) := hI593
        have q952 : f 48 = (elemPtr (Value.slice z14 m14 k14) ((i1 : Int)) (Enc.sz Int)) := vt (hA568.at_ 2 rfl _ rfl) rfl
        refine opg_plain rfl rfl (op_load_int (v := (elemPtr (Value.slice z14 m14 k14) ((i1 : Int)) (Enc.sz Int))) (e := x45) rfl sh3 q952 ((I618.nth 0 rfl).rowElem hx45) ?_)
        refine ⟨_, _, rfl, PH.Le.refl _, ?_, ?_⟩
        ·
         exact rfl
        ·
         exact I618
       ·
        intro vs593 f w610 S602 X569 le602 hA569 hK593 hI594
        have I619 : Inv w610 S602 (X569) := hI594
        have q953 : f 49 = (Value.int .i64 (x45)) := vt (hA569.at_ 3 rfl _ rfl) rfl
        refine opg_plain rfl rfl (op_lss (a := x45) (b := 0) rfl q953 rfl ?_)
        refine ⟨_, _, rfl, PH.Le.refl _, ?_, ?_⟩
        ·
         exact rfl
        ·
         exact I619
       ·
        intro vs594 f w611 S603 X570 le603 hA570 hK594 hI595
        have I620 : Inv w611 S603 (X570) := hI595
        have q954 : f 50 = (Value.bool (decide (x45 < 0))) := vt (hA570.at_ 4 rfl _ rfl) rfl
        refine opg_plain rfl rfl (op_move (v := (Value.bool (decide (x45 < 0)))) rfl q954 ?_)
        refine ⟨_, _, rfl, PH.Le.refl _, ?_, ?_⟩
        ·
         exact rfl
        ·
         exact I620
       ·
        intro vs595 f w612 S604 X571 le604 hA571 hK595 hI596
        have I621 : Inv w612 S604 (X571) := hI596
        have q955 : f 51 = (Value.bool (decide (x45 < 0))) := vt (hA571.at_ 5 rfl _ rfl) rfl
        exact opg_skip (c := decide (x45 < 0)) rfl rfl rfl rfl q955 hc29 rfl ⟨_, _, rfl, PH.Le.refl _, rfl, I621⟩
       ·
        intro vs596 f w613 S605 X572 le605 hA572 hK596 hI597
        have I622 : Inv w613 S605 (X572) := hI597
        have q956 : f 51 = (Value.bool (decide (x45 < 0))) := vt (hA572.at_ 5 rfl _ rfl) rfl
        exact opg_skip (c := decide (x45 < 0)) rfl rfl rfl rfl q956 hc29 rfl ⟨_, _, rfl, PH.Le.refl _, rfl, I622⟩
       ·
        intro vs597 f w614 S606 X573 le606 hA573 hK597 hI598
        have I623 : Inv w614 S606 (X573) := hI598
        have q957 : f 51 = (Value.bool (decide (x45 < 0))) := vt (hA573.at_ 5 rfl _ rfl) rfl
        have q958 : f 52 = undef := vt (hA573.at_ 6 rfl _ rfl) rfl
        have q959 : f 53 = undef := vt (hA573.at_ 7 rfl _ rfl) rfl
        exact opg_skip (c := decide (x45 < 0)) rfl rfl rfl rfl q957 hc29 rfl ⟨_, _, rfl, PH.Le.refl _, rfl, I623⟩
       ·
        intro vs598 f w615 S607 X574 le607 hA574 hK598 hI599
        have I624 : Inv w615 S607 (X574) := hI599
        have q960 : f 51 = (Value.bool (decide (x45 < 0))) := vt (hA574.at_ 5 rfl _ rfl) rfl
        have q961 : f 54 = undef := vt (hA574.at_ 8 rfl _ rfl) rfl
        exact opg_skip (c := decide (x45 < 0)) rfl rfl rfl rfl q960 hc29 rfl ⟨_, _, rfl, PH.Le.refl _, rfl, I624⟩
       ·
        intro vs599 f w616 S608 X575 le608 hA575 hK599 hI600
        have I625 : Inv w616 S608 (X575) := hI600
        have q962 : f 51 = (Value.bool (decide (x45 < 0))) := vt (hA575.at_ 5 rfl _ rfl) rfl
        exact opg_skip (c := decide (x45 < 0)) rfl rfl rfl rfl q962 hc29 rfl ⟨_, _, rfl, PH.Le.refl _, rfl, I625⟩
       ·
        intro vs600 f w617 S609 X576 le609 hA576 hK600 hI601
        have I626 : Inv w617 S609 (X576) := hI601
        have q963 : f 51 = (Value.bool (decide (x45 < 0))) := vt (hA576.at_ 5 rfl _ rfl) rfl
        have q964 : f 56 = undef := vt (hA576.at_ 6 rfl _ rfl) rfl
        exact opg_skip (c := decide (x45 < 0)) rfl rfl rfl rfl q963 hc29 rfl ⟨_, _, rfl, PH.Le.refl _, rfl, I626⟩
       ·
        intro vs601 f w618 S610 X577 le610 hA577 hK601 hI602
        have I627 : Inv w618 S610 (X577) := hI602
        have q965 : f 51 = (Value.bool (decide (x45 < 0))) := vt (hA577.at_ 5 rfl _ rfl) rfl
        exact opg_skip (c := decide (x45 < 0)) rfl rfl rfl rfl q965 hc29 rfl ⟨_, _, rfl, PH.Le.refl _, rfl, I627⟩
       ·
        intro vs602 f w619 S611 X578 le611 hA578 hK602 hI603
        have I628 : Inv w619 S611 (X578) := hI603
        have q966 : f 51 = (Value.bool (decide (x45 < 0))) := vt (hA578.at_ 5 rfl _ rfl) rfl
        have q967 : f 57 = undef := vt (hA578.at_ 7 rfl _ rfl) rfl
        have q968 : f 58 = undef := vt (hA578.at_ 8 rfl _ rfl) rfl
        exact opg_skip (c := decide (x45 < 0)) rfl rfl rfl rfl q966 hc29 rfl ⟨_, _, rfl, PH.Le.refl _, rfl, I628⟩
       ·
        intro vs603 f w620 S612 X579 le612 hA579 hK603 hI604
        have I629 : Inv w620 S612 (X579) := hI604
        have q969 : f 51 = (Value.bool (decide (x45 < 0))) := vt (hA579.at_ 5 rfl _ rfl) rfl
        have q970 : f 59 = undef := vt (hA579.at_ 9 rfl _ rfl) rfl
        exact opg_skip (c := decide (x45 < 0)) rfl rfl rfl rfl q969 hc29 rfl ⟨_, _, rfl, PH.Le.refl _, rfl, I629⟩
       ·
        intro vs604 f w621 S613 X580 le613 hA580 hK604 hI605
        have I630 : Inv w621 S613 (X580) := hI605
        have q971 : f 51 = (Value.bool (decide (x45 < 0))) := vt (hA580.at_ 5 rfl _ rfl) rfl
        have q972 : f 60 = undef := vt (hA580.at_ 10 rfl _ rfl) rfl
        exact opg_skip (c := decide (x45 < 0)) rfl rfl rfl rfl q971 hc29 rfl ⟨_, _, rfl, PH.Le.refl _, rfl, I630⟩
       ·
        intro vs605 f w622 S614 X581 le614 hA581 hK605 hI606
        have I631 : Inv w622 S614 (X581) := hI606
        have q973 : f 51 = (Value.bool (decide (x45 < 0))) := vt (hA581.at_ 5 rfl _ rfl) rfl
        have q974 : f 55 = undef := vt (hA581.at_ 9 rfl _ rfl) rfl
        have q975 : f 61 = undef := vt (hA581.at_ 15 rfl _ rfl) rfl
        exact opg_skip (c := decide (x45 < 0)) rfl rfl rfl rfl q973 hc29 rfl ⟨_, _, rfl, PH.Le.refl _, rfl, I631⟩
       ·
        intro vs606 f w623 S615 X582 le615 hA582 hK606 hI607
        have I632 : Inv w623 S615 (X582) := hI607
        have q976 : f 51 = (Value.bool (decide (x45 < 0))) := vt (hA582.at_ 5 rfl _ rfl) rfl
        have q977 : f 62 = undef := vt (hA582.at_ 16 rfl _ rfl) rfl
        refine opg_plain rfl rfl (op_pick_t (c := decide (x45 < 0)) (a := (Value.bool (true))) rfl q976 hc29 rfl ?_)
        refine ⟨_, _, rfl, PH.Le.refl _, ?_, ?_⟩
        ·
         exact rfl
        ·
         exact I632
       ·
        intro vs607 f w624 S616 X583 le616 hA583 hK607 hI608
        have I633 : Inv w624 S616 (X583) := hI608
        have q978 : f 63 = (Value.bool (true)) := vt (hA583.at_ 17 rfl _ rfl) rfl
        refine opg_plain rfl rfl (op_move (v := (Value.bool (true))) rfl q978 ?_)
        refine ⟨_, _, rfl, PH.Le.refl _, ?_, ?_⟩
        ·
         exact rfl
        ·
         exact I633
       ·
        intro vs608 f w625 S617 X584 le617 hA584 hK608 hI609
        have I634 : Inv w625 S617 (X584) := hI609
        have q979 : f 64 = (Value.bool (true)) := vt (hA584.at_ 18 rfl _ rfl) rfl
        exact opg_skip (c := true) rfl rfl rfl rfl q979 rfl rfl ⟨_, _, rfl, PH.Le.refl _, rfl, I634⟩
       ·
        intro vs609 f w626 S618 X585 le618 hA585 hK609 hI610
        have I635 : Inv w626 S618 (X585) := hI610
        have q980 : f 64 = (Value.bool (true)) := vt (hA585.at_ 18 rfl _ rfl) rfl
        exact opg_skip (c := true) rfl rfl rfl rfl q980 rfl rfl ⟨_, _, rfl, PH.Le.refl _, rfl, I635⟩
       ·
        intro vs610 f w627 S619 X586 le619 hA586 hK610 hI611
        have I636 : Inv w627 S619 (X586) := hI611
        have q981 : f 64 = (Value.bool (true)) := vt (hA586.at_ 18 rfl _ rfl) rfl
        have q982 : f 65 = undef := vt (hA586.at_ 19 rfl _ rfl) rfl
        have q983 : f 66 = undef := vt (hA586.at_ 20 rfl _ rfl) rfl
        exact opg_skip (c := true) rfl rfl rfl rfl q981 rfl rfl ⟨_, _, rfl, PH.Le.refl _, rfl, I636⟩
       ·
        intro vs611 f w628 S620 X587 le620 hA587 hK611 hI612
        have I637 : Inv w628 S620 (X587) := hI612
        have q984 : f 64 = (Value.bool (true)) := vt (hA587.at_ 18 rfl _ rfl) rfl
        have q985 : f 67 = undef := vt (hA587.at_ 21 rfl _ rfl) rfl
        exact opg_skip (c := true) rfl rfl rfl rfl q984 rfl rfl ⟨_, _, rfl, PH.Le.refl _, rfl, I637⟩
       ·
        intro vs612 f w629 S621 X588 le621 hA588 hK612 hI613
        have I638 : Inv w629 S621 (X588) := hI613
        have q986 : f 64 = (Value.bool (true)) := vt (hA588.at_ 18 rfl _ rfl) rfl
        have q987 : f 68 = undef := vt (hA588.at_ 22 rfl _ rfl) rfl
        exact opg_skip (c := true) rfl rfl rfl rfl q986 rfl rfl ⟨_, _, rfl, PH.Le.refl _, rfl, I638⟩
       ·
        intro vs613 f w630 S622 X589 le622 hA589 hK613 hI614
        have I639 : Inv w630 S622 (X589) := hI614
        have q988 : f 64 = (Value.bool (true)) := vt (hA589.at_ 18 rfl _ rfl) rfl
        have q989 : f 69 = undef := vt (hA589.at_ 23 rfl _ rfl) rfl
        refine opg_plain rfl rfl (op_pick_t (c := true) (a := (Value.bool (true))) rfl q988 rfl rfl ?_)
        refine ⟨_, _, rfl, PH.Le.refl _, ?_, ?_⟩
        ·
         exact rfl
        ·
         exact I639
       ·
        intro vs614 f w631 S623 le623 hF25 hK614 hI615
        have e330 : f 1 = (Value.slice z3 m3 k3) := (hK614 1 (keep_all rfl)).trans e292
        have e331 : f 3 = (Value.pointer (some ⟨g1, 0, none⟩)) := (hK614 3 (keep_all rfl)).trans e293
        have e332 : f 5 = (Value.pointer (some ⟨g2, 0, none⟩)) := (hK614 5 (keep_all rfl)).trans e294
        have e333 : f 7 = (Value.slice z14 m14 k14) := (hK614 7 (keep_all rfl)).trans e295
        have e334 : f 8 = (Value.bool (x13.2.1)) := (hK614 8 (keep_all rfl)).trans e296
        have e335 : f 10 = (Value.int .i64 (s1)) := (hK614 10 (keep_all rfl)).trans e297
        have e336 : f 11 = (Value.int .i64 ((i1 : Int))) := (hK614 11 (keep_all rfl)).trans e298
        have I640 : Inv w631 S623 (Row (α := Int) 3 (Value.slice z14 m14 k14) (x13.1) :: Fr) := hI615
        have q990 : f 70 = (Value.bool (true)) := vt (hF25.at_ 24 rfl _ rfl) rfl
        refine wp_cond_t (b := true) q990 rfl ?_
        refine wp_seq' ?_
        refine wp_region' ?_
        refine wl_op rfl (op_assign (v := (Value.bool (false))) rfl rfl ?_)
        refine wl_nil ?_
        refine wp_ret' ?_
        obtain rfl := Option.some.inj h16
        have h17 := h13
        obtain rfl := Option.some.inj h17
        obtain rfl := (hout1 _ rfl)
        have h14 := h
        obtain rfl := Option.some.inj h14
        exact ⟨(Value.bool (false)), (res1 rfl rfl), _, [], ((((le1.trans le2).trans le3).trans le519).trans le623), (I640).drop, rfl, rfl⟩
      ·
       obtain ⟨x46, hx46, h16⟩ := bnd h16
       rcases ifs h16 with ⟨hc30, h16⟩ | ⟨hc30, h16⟩
       ·
        refine wp_draw (sps := [⟨some 46, [], [0], fun vs_ T_ => fr0 vs_ 0 = (Value.slice z14 m14 k14), [], [], [], fun _ h_ => h_⟩, ⟨some 47, [], [1], fun vs_ T_ => fr0 vs_ 0 = (Value.int .i64 ((i1 : Int))), [], [], [], fun _ h_ => h_⟩, ⟨some 48, [0, 1], [2], fun vs_ T_ => fr0 vs_ 0 = (elemPtr (Value.slice z14 m14 k14) ((i1 : Int)) (Enc.sz Int)), [0], [], [], fun _ h_ => h_⟩, ⟨some 49, [0, 1, 2], [3], fun vs_ T_ => fr0 vs_ 0 = (Value.int .i64 (x45)), [0], [], [], fun _ h_ => h_⟩, ⟨some 50, [0, 1, 2, 3], [4], fun vs_ T_ => fr0 vs_ 0 = (Value.bool (decide (x45 < 0))), [], [], [], fun _ h_ => h_⟩, ⟨some 51, [0, 1, 2, 3, 4], [5], fun vs_ T_ => fr0 vs_ 0 = (Value.bool (decide (x45 < 0))), [], [], [], fun _ h_ => h_⟩, ⟨some 52, [0, 1, 2, 3, 4, 5], [6], fun vs_ T_ => fr0 vs_ 0 = (Value.slice z14 m14 k14), [], [], [], fun _ h_ => h_⟩, ⟨some 53, [0, 1, 2, 3, 4, 5], [7], fun vs_ T_ => fr0 vs_ 0 = (Value.int .i64 ((i1 : Int))), [], [], [], fun _ h_ => h_⟩, ⟨some 54, [0, 1, 2, 3, 4, 5, 6, 7], [8], fun vs_ T_ => fr0 vs_ 0 = (elemPtr (Value.slice z14 m14 k14) ((i1 : Int)) (Enc.sz Int)), [0], [], [], fun _ h_ => h_⟩, ⟨some 55, [0, 1, 2, 3, 4, 5, 6, 7, 8], [9], fun vs_ T_ => fr0 vs_ 0 = (Value.int .i64 (x45)), [0], [], [], fun _ h_ => h_⟩, ⟨some 56, [0, 1, 2, 3, 4, 5], [10], fun vs_ T_ => fr0 vs_ 0 = (fieldPtr (Value.pointer (some ⟨g1, 0, none⟩)) 1), [], [], [], fun _ h_ => h_⟩, ⟨some 57, [0, 1, 2, 3, 4, 5, 10], [11], fun vs_ T_ => RV T_ (fr0 vs_ 0) a0.Edges, [], [], [], fun hle_ h_ => h_.mono hle_⟩, ⟨some 58, [0, 1, 2, 3, 4, 5], [12], fun vs_ T_ => fr0 vs_ 0 = (Value.int .i64 (s1)), [], [], [], fun _ h_ => h_⟩, ⟨some 59, [0, 1, 2, 3, 4, 5, 10, 11, 12], [13, 11], fun vs_ T_ => fr0 vs_ 0 = (elemPtr (fr0 vs_ 1) (s1) (Enc.sz (List Edge))), [], [], [], fun _ h_ => h_⟩, ⟨some 60, [0, 1, 2, 3, 4, 5, 10, 11, 12, 13], [14], fun vs_ T_ => RV T_ (fr0 vs_ 0) x46, [], [], [], fun hle_ h_ => h_.mono hle_⟩, ⟨some 61, [0, 1, 2, 3, 4, 5, 10, 11, 12, 13, 14], [15], fun vs_ T_ => fr0 vs_ 0 = (Value.int .i64 ((x46.length : Int))), [], [], [], fun _ h_ => h_⟩, ⟨some 62, [0, 1, 2, 3, 4, 5, 6, 7, 8, 9, 10, 11, 12, 13, 14, 15], [16], fun vs_ T_ => fr0 vs_ 0 = (Value.bool (decide ((x46.length : Int) ≤ x45))), [], [], [], fun _ h_ => h_⟩, ⟨some 63, [0, 1, 2, 3, 4, 5, 6, 7, 8, 9, 10, 11, 12, 13, 14, 15, 16], [17], fun vs_ T_ => fr0 vs_ 0 = (Value.bool (decide ((x46.length : Int) ≤ x45))), [], [], [], fun _ h_ => h_⟩, ⟨some 64, [0, 1, 2, 3, 4, 5, 6, 7, 8, 9, 10, 11, 12, 13, 14, 15, 16, 17], [18], fun vs_ T_ => fr0 vs_ 0 = (Value.bool (decide ((x46.length : Int) ≤ x45))), [], [], [], fun _ h_ => h_⟩, ⟨some 65, [0, 1, 2, 3, 4, 5, 6, 7, 8, 9, 10, 11, 12, 13, 14, 15, 16, 17, 18], [19], fun vs_ T_ => fr0 vs_ 0 = undef, [], [], [], fun _ h_ => h_⟩, ⟨some 66, [0, 1, 2, 3, 4, 5, 6, 7, 8, 9, 10, 11, 12, 13, 14, 15, 16, 17, 18], [20], fun vs_ T_ => fr0 vs_ 0 = undef, [], [], [], fun _ h_ => h_⟩, ⟨some 67, [0, 1, 2, 3, 4, 5, 6, 7, 8, 9, 10, 11, 12, 13, 14, 15, 16, 17, 18, 19, 20], [21], fun vs_ T_ => fr0 vs_ 0 = undef, [], [], [], fun _ h_ => h_⟩, ⟨some 68, [0, 1, 2, 3, 4, 5, 6, 7, 8, 9, 10, 11, 12, 13, 14, 15, 16, 17, 18, 19, 20, 21], [22], fun vs_ T_ => fr0 vs_ 0 = undef, [], [], [], fun _ h_ => h_⟩, ⟨some 69, [0, 1, 2, 3, 4, 5, 6, 7, 8, 9, 10, 11, 12, 13, 14, 15, 16, 17, 18, 19, 20, 21, 22], [23], fun vs_ T_ => fr0 vs_ 0 = undef, [], [], [], fun _ h_ => h_⟩, ⟨some 70, [0, 1, 2, 3, 4, 5, 6, 7, 8, 9, 10, 11, 12, 13, 14, 15, 16, 17, 18, 19, 20, 21, 22, 23], [24], fun vs_ T_ => fr0 vs_ 0 = (Value.bool (true)), [], [], [], fun _ h_ => h_⟩]) (tks := [⟨none, none, [], fun vs_ => Row (α := Int) 3 (Value.slice z14 m14 k14) (x13.1)⟩]) (O := Fr) rfl (by kernel_rfl) I536 ⟨?_, ?_, ?_, ?_, ?_, ?_, ?_, ?_, ?_, ?_, ?_, ?_, ?_, ?_, ?_, ?_, ?_, ?_, ?_, ?_, ?_, ?_, ?_, ?_, ?_, trivial⟩ ?_
        ·
         intro vs615 f w632 S624 X590 le624 hA590 hK615 hI616
         have I641 : Inv w632 S624 (X590) := hI616
         refine opg_plain rfl rfl (op_move (v := (Value.slice z14 m14 k14)) rfl ((hK615 7 (keep_of rfl)).trans e295) ?_)
         refine ⟨_, _, rfl, PH.Le.refl _, ?_, ?_⟩
         ·
          exact rfl
         ·
          exact I641
        ·
         intro vs616 f w633 S625 X591 le625 hA591 hK616 hI617
         have I642 : Inv w633 S625 (X591) := hI617
         refine opg_plain rfl rfl (op_move (v := (Value.int .i64 ((i1 : Int)))) rfl ((hK616 11 (keep_of rfl)).trans e298) ?_)
         refine ⟨_, _, rfl, PH.Le.refl _, ?_, ?_⟩
         ·
          exact rfl
         ·
          exact I642
        ·
         intro vs617 f w634 S626 X592 le626 hA592 hK617 hI618
         have I643 : Inv w634 S626 (Row (α := Int) 3 (Value.slice z14 m14 k14) (x13.1) :: X592) := hI618
         have q991 : f 46 = (Value.slice z14 m14 k14) := vt (hA592.at_ 0 rfl _ rfl) rfl
         have q992 : f 47 = (Value.int .i64 ((i1 : Int))) := vt (hA592.at_ 1 rfl _ rfl) rfl
         refine opg_plain rfl rfl (op_indexAddr_src (v := (Value.slice z14 m14 k14)) (i := (i1 : Int)) (e := x45) rfl Try.underlying26 sh3 q991 (Inv.rowSrc (I643.nth 0 rfl)) q992 hx45 ?_)
         refine ⟨_, _, rfl, PH.Le.refl _, ?_, ?_⟩
         ·
          exact rfl
         ·
          exact I643
        ·
         intro vs618 f w635 S627 X593 le627 hA593 hK618 hI619
         have I644 : Inv w635 S627 (Row (α := Int) 3 (Value.slice z14 m14 k14) (x13.1) :: X593) := hI619
         have q993 : f 48 = (elemPtr (Value.slice z14 m14 k14) ((i1 : Int)) (Enc.sz Int)) := vt (hA593.at_ 2 rfl _ rfl) rfl
         refine opg_plain rfl rfl (op_load_int (v := (elemPtr (Value.slice z14 m14 k14) ((i1 : Int)) (Enc.sz Int))) (e := x45) rfl sh3 q993 ((I644.nth 0 rfl).rowElem hx45) ?_)
         refine ⟨_, _, rfl, PH.Le.refl _, ?_, ?_⟩
         ·
          exact rfl
         ·
          exact I644
        ·
         intro vs619 f w636 S628 X594 le628 hA594 hK619 hI620
         have I645 : Inv w636 S628 (X594) := hI620
         have q994 : f 49 = (Value.int .i64 (x45)) := vt (hA594.at_ 3 rfl _ rfl) rfl
         refine opg_plain rfl rfl (op_lss (a := x45) (b := 0) rfl q994 rfl ?_)
         refine ⟨_, _, rfl, PH.Le.refl _, ?_, ?_⟩
         ·
          exact rfl
         ·
          exact I645
        ·
         intro vs620 f w637 S629 X595 le629 hA595 hK620 hI621
         have I646 : Inv w637 S629 (X595) := hI621
         have q995 : f 50 = (Value.bool (decide (x45 < 0))) := vt (hA595.at_ 4 rfl _ rfl) rfl
         refine opg_plain rfl rfl (op_move (v := (Value.bool (decide (x45 < 0)))) rfl q995 ?_)
         refine ⟨_, _, rfl, PH.Le.refl _, ?_, ?_⟩
         ·
          exact rfl
         ·
          exact I646
        ·
         intro vs621 f w638 S630 X596 le630 hA596 hK621 hI622
         have I647 : Inv w638 S630 (X596) := hI622
         have q996 : f 51 = (Value.bool (decide (x45 < 0))) := vt (hA596.at_ 5 rfl _ rfl) rfl
         refine opg_taken (c := decide (x45 < 0)) rfl rfl rfl rfl q996 hc29 (op_move (v := (Value.slice z14 m14 k14)) rfl ((hK621 7 (keep_of rfl)).trans e295) ?_)
         refine ⟨_, _, rfl, PH.Le.refl _, ?_, ?_⟩
         ·
          exact rfl
         ·
          exact I647
        ·
         intro vs622 f w639 S631 X597 le631 hA597 hK622 hI623
         have I648 : Inv w639 S631 (X597) := hI623
         have q997 : f 51 = (Value.bool (decide (x45 < 0))) := vt (hA597.at_ 5 rfl _ rfl) rfl
         refine opg_taken (c := decide (x45 < 0)) rfl rfl rfl rfl q997 hc29 (op_move (v := (Value.int .i64 ((i1 : Int)))) rfl ((hK622 11 (keep_of rfl)).trans e298) ?_)
         refine ⟨_, _, rfl, PH.Le.refl _, ?_, ?_⟩
         ·
          exact rfl
         ·
          exact I648
        ·
         intro vs623 f w640 S632 X598 le632 hA598 hK623 hI624
         have I649 : Inv w640 S632 (Row (α := Int) 3 (Value.slice z14 m14 k14) (x13.1) :: X598) := hI624
         have q998 : f 51 = (Value.bool (decide (x45 < 0))) := vt (hA598.at_ 5 rfl _ rfl) rfl
         have q999 : f 52 = (Value.slice z14 m14 k14) := vt (hA598.at_ 6 rfl _ rfl) rfl
         have q1000 : f 53 = (Value.int .i64 ((i1 : Int))) := vt (hA598.at_ 7 rfl _ rfl) rfl
         refine opg_taken (c := decide (x45 < 0)) rfl rfl rfl rfl q998 hc29 (op_indexAddr_src (v := (Value.slice z14 m14 k14)) (i := (i1 : Int)) (e := x45) rfl Try.underlying26 sh3 q999 (Inv.rowSrc (I649.nth 0 rfl)) q1000 hx45 ?_)
         refine ⟨_, _, rfl, PH.Le.refl _, ?_, ?_⟩
         ·
          exact rfl
         ·
          exact I649
        ·
         intro vs624 f w641 S633 X599 le633 hA599 hK624 hI625
         have I650 : Inv w641 S633 (Row (α := Int) 3 (Value.slice z14 m14 k14) (x13.1) :: X599) := hI625
         have q1001 : f 51 = (Value.bool (decide (x45 < 0))) := vt (hA599.at_ 5 rfl _ rfl) rfl
         have q1002 : f 54 = (elemPtr (Value.slice z14 m14 k14) ((i1 : Int)) (Enc.sz Int)) := vt (hA599.at_ 8 rfl _ rfl) rfl
         refine opg_taken (c := decide (x45 < 0)) rfl rfl rfl rfl q1001 hc29 (op_load_int (v := (elemPtr (Value.slice z14 m14 k14) ((i1 : Int)) (Enc.sz Int))) (e := x45) rfl sh3 q1002 ((I650.nth 0 rfl).rowElem hx45) ?_)
         refine ⟨_, _, rfl, PH.Le.refl _, ?_, ?_⟩
         ·
          exact rfl
         ·
          exact I650
        ·
         intro vs625 f w642 S634 X600 le634 hA600 hK625 hI626
         have I651 : Inv w642 S634 (X600) := hI626
         have q1003 : f 51 = (Value.bool (decide (x45 < 0))) := vt (hA600.at_ 5 rfl _ rfl) rfl
         refine opg_taken (c := decide (x45 < 0)) rfl rfl rfl rfl q1003 hc29 (op_fieldAddr_t (v := (Value.pointer (some ⟨g1, 0, none⟩))) rfl fa25_1 ((hK625 3 (keep_of rfl)).trans e293) ((p1.mono (((le2.trans le3).trans le519).trans le634)).at_ I651) ?_)
         refine ⟨_, _, rfl, PH.Le.refl _, ?_, ?_⟩
         ·
          exact rfl
         ·
          exact I651
        ·
         intro vs626 f w643 S635 X601 le635 hA601 hK626 hI627
         have I652 : Inv w643 S635 (X601) := hI627
         have q1004 : f 51 = (Value.bool (decide (x45 < 0))) := vt (hA601.at_ 5 rfl _ rfl) rfl
         have q1005 : f 56 = (fieldPtr (Value.pointer (some ⟨g1, 0, none⟩)) 1) := vt (hA601.at_ 6 rfl _ rfl) rfl
         refine opg_taken (c := decide (x45 < 0)) rfl rfl rfl rfl q1004 hc29 (op_load (v := (fieldPtr (Value.pointer (some ⟨g1, 0, none⟩)) 1)) (e := a0.Edges) rfl sh23 q1005 (((p1.mono (((le2.trans le3).trans le519).trans le635)).at_ I652).fld Graph.fld1) (fun u150 hu150 => ?_))
         obtain ⟨z106, m106, k106, e337⟩ := rv_form hu150
         subst e337
         refine ⟨_, _, rfl, PH.Le.refl _, ?_, ?_⟩
         ·
          exact hu150
         ·
          exact I652
        ·
         intro vs627 f w644 S636 X602 le636 hA602 hK627 hI628
         have I653 : Inv w644 S636 (X602) := hI628
         have q1006 : f 51 = (Value.bool (decide (x45 < 0))) := vt (hA602.at_ 5 rfl _ rfl) rfl
         refine opg_taken (c := decide (x45 < 0)) rfl rfl rfl rfl q1006 hc29 (op_move (v := (Value.int .i64 (s1))) rfl ((hK627 10 (keep_of rfl)).trans e297) ?_)
         refine ⟨_, _, rfl, PH.Le.refl _, ?_, ?_⟩
         ·
          exact rfl
         ·
          exact I653
        ·
         intro vs628 f w645 S637 X603 le637 hA603 hK628 hI629
         have I654 : Inv w645 S637 (X603) := hI629
         have q1007 : f 51 = (Value.bool (decide (x45 < 0))) := vt (hA603.at_ 5 rfl _ rfl) rfl
         have q1008 : f 57 = vs628 11 := (hA603.at_ 7 rfl _ rfl).1 _ rfl
         have r70 : RV S637 (vs628 11) a0.Edges := (hA603.at_ 7 rfl _ rfl).2
         obtain ⟨u151, hu151⟩ : ∃ u, vs628 11 = u := ⟨_, rfl⟩
         rw [hu151] at q1008 r70
         obtain ⟨z107, m107, k107, e338⟩ := rv_form r70
         subst e338
         have q1009 : f 58 = (Value.int .i64 (s1)) := vt (hA603.at_ 8 rfl _ rfl) rfl
         refine opg_taken (c := decide (x45 < 0)) rfl rfl rfl rfl q1007 hc29 (op_indexAddr_rv (v := (Value.slice z107 m107 k107)) (i := s1) (e := x46) rfl Try.underlying23 sh40 q1008 r70 q1009 hx46 ?_)
         refine ⟨_, _, rfl, PH.Le.refl _, ?_, ?_⟩
         ·
          show (elemPtr (Value.slice z107 m107 k107) (s1) (Enc.sz (List Edge))) = (elemPtr (vs628 11) (s1) (Enc.sz (List Edge)))
          simp only [hu151] <;> rfl
         ·
          exact I654
        ·
         intro vs629 f w646 S638 X604 le638 hA604 hK629 hI630
         have I655 : Inv w646 S638 (X604) := hI630
         have q1010 : f 51 = (Value.bool (decide (x45 < 0))) := vt (hA604.at_ 5 rfl _ rfl) rfl
         have q1011 : f 57 = vs629 11 := (hA604.at_ 7 rfl _ rfl).1 _ rfl
         have r71 : RV S638 (vs629 11) a0.Edges := (hA604.at_ 7 rfl _ rfl).2
         obtain ⟨u152, hu152⟩ : ∃ u, vs629 11 = u := ⟨_, rfl⟩
         rw [hu152] at q1011 r71
         obtain ⟨z108, m108, k108, e339⟩ := rv_form r71
         subst e339
         have q1012 : f 58 = (Value.int .i64 (s1)) := vt (hA604.at_ 8 rfl _ rfl) rfl
         have q1013 : f 59 = (elemPtr (vs629 11) (s1) (Enc.sz (List Edge))) := vt (hA604.at_ 9 rfl _ rfl) rfl
         simp only [hu152] at q1013
         have q1013 : f 59 = (elemPtr (Value.slice z108 m108 k108) (s1) (Enc.sz (List Edge))) := q1013
         refine opg_taken (c := decide (x45 < 0)) rfl rfl rfl rfl q1010 hc29 (op_load (v := (elemPtr (Value.slice z108 m108 k108) (s1) (Enc.sz (List Edge)))) (e := x46) rfl sh40 q1013 (r71.elem I655.in_ hx46) (fun u153 hu153 => ?_))
         obtain ⟨z109, m109, k109, e340⟩ := rv_form hu153
         subst e340
         refine ⟨_, _, rfl, PH.Le.refl _, ?_, ?_⟩
         ·
          exact hu153
         ·
          exact I655
        ·
         intro vs630 f w647 S639 X605 le639 hA605 hK630 hI631
         have I656 : Inv w647 S639 (X605) := hI631
         have q1014 : f 51 = (Value.bool (decide (x45 < 0))) := vt (hA605.at_ 5 rfl _ rfl) rfl
         have q1015 : f 60 = vs630 14 := (hA605.at_ 10 rfl _ rfl).1 _ rfl
         have r72 : RV S639 (vs630 14) x46 := (hA605.at_ 10 rfl _ rfl).2
         obtain ⟨u154, hu154⟩ : ∃ u, vs630 14 = u := ⟨_, rfl⟩
         rw [hu154] at q1015 r72
         obtain ⟨z110, m110, k110, e341⟩ := rv_form r72
         subst e341
         refine opg_taken (c := decide (x45 < 0)) rfl rfl rfl rfl q1014 hc29 (op_len_rv rfl Try.underlying40 q1015 r72 ?_)
         refine ⟨_, _, rfl, PH.Le.refl _, ?_, ?_⟩
         ·
          exact rfl
         ·
          exact I656
        ·
         intro vs631 f w648 S640 X606 le640 hA606 hK631 hI632
         have I657 : Inv w648 S640 (X606) := hI632
         have q1016 : f 51 = (Value.bool (decide (x45 < 0))) := vt (hA606.at_ 5 rfl _ rfl) rfl
         have q1017 : f 55 = (Value.int .i64 (x45)) := vt (hA606.at_ 9 rfl _ rfl) rfl
         have q1018 : f 61 = (Value.int .i64 ((x46.length : Int))) := vt (hA606.at_ 15 rfl _ rfl) rfl
         refine opg_taken (c := decide (x45 < 0)) rfl rfl rfl rfl q1016 hc29 (op_geq (a := x45) (b := (x46.length : Int)) rfl q1017 q1018 ?_)
         refine ⟨_, _, rfl, PH.Le.refl _, ?_, ?_⟩
         ·
          exact rfl
         ·
          exact I657
        ·
         intro vs632 f w649 S641 X607 le641 hA607 hK632 hI633
         have I658 : Inv w649 S641 (X607) := hI633
         have q1019 : f 51 = (Value.bool (decide (x45 < 0))) := vt (hA607.at_ 5 rfl _ rfl) rfl
         have q1020 : f 62 = (Value.bool (decide ((x46.length : Int) ≤ x45))) := vt (hA607.at_ 16 rfl _ rfl) rfl
         refine opg_plain rfl rfl (op_pick_f (c := decide (x45 < 0)) (b := (Value.bool (decide ((x46.length : Int) ≤ x45)))) rfl q1019 hc29 q1020 ?_)
         refine ⟨_, _, rfl, PH.Le.refl _, ?_, ?_⟩
         ·
          exact rfl
         ·
          exact I658
        ·
         intro vs633 f w650 S642 X608 le642 hA608 hK633 hI634
         have I659 : Inv w650 S642 (X608) := hI634
         have q1021 : f 63 = (Value.bool (decide ((x46.length : Int) ≤ x45))) := vt (hA608.at_ 17 rfl _ rfl) rfl
         refine opg_plain rfl rfl (op_move (v := (Value.bool (decide ((x46.length : Int) ≤ x45)))) rfl q1021 ?_)
         refine ⟨_, _, rfl, PH.Le.refl _, ?_, ?_⟩
         ·
          exact rfl
         ·
          exact I659
        ·
         intro vs634 f w651 S643 X609 le643 hA609 hK634 hI635
         have I660 : Inv w651 S643 (X609) := hI635
         have q1022 : f 64 = (Value.bool (decide ((x46.length : Int) ≤ x45))) := vt (hA609.at_ 18 rfl _ rfl) rfl
         exact opg_skip (c := decide ((x46.length : Int) ≤ x45)) rfl rfl rfl rfl q1022 hc30 rfl ⟨_, _, rfl, PH.Le.refl _, rfl, I660⟩
        ·
         intro vs635 f w652 S644 X610 le644 hA610 hK635 hI636
         have I661 : Inv w652 S644 (X610) := hI636
         have q1023 : f 64 = (Value.bool (decide ((x46.length : Int) ≤ x45))) := vt (hA610.at_ 18 rfl _ rfl) rfl
         exact opg_skip (c := decide ((x46.length : Int) ≤ x45)) rfl rfl rfl rfl q1023 hc30 rfl ⟨_, _, rfl, PH.Le.refl _, rfl, I661⟩
        ·
         intro vs636 f w653 S645 X611 le645 hA611 hK636 hI637
         have I662 : Inv w653 S645 (X611) := hI637
         have q1024 : f 64 = (Value.bool (decide ((x46.length : Int) ≤ x45))) := vt (hA611.at_ 18 rfl _ rfl) rfl
         have q1025 : f 65 = undef := vt (hA611.at_ 19 rfl _ rfl) rfl
         have q1026 : f 66 = undef := vt (hA611.at_ 20 rfl _ rfl) rfl
         exact opg_skip (c := decide ((x46.length : Int) ≤ x45)) rfl rfl rfl rfl q1024 hc30 rfl ⟨_, _, rfl, PH.Le.refl _, rfl, I662⟩
        ·
         intro vs637 f w654 S646 X612 le646 hA612 hK637 hI638
         have I663 : Inv w654 S646 (X612) := hI638
         have q1027 : f 64 = (Value.bool (decide ((x46.length : Int) ≤ x45))) := vt (hA612.at_ 18 rfl _ rfl) rfl
         have q1028 : f 67 = undef := vt (hA612.at_ 21 rfl _ rfl) rfl
         exact opg_skip (c := decide ((x46.length : Int) ≤ x45)) rfl rfl rfl rfl q1027 hc30 rfl ⟨_, _, rfl, PH.Le.refl _, rfl, I663⟩
        ·
         intro vs638 f w655 S647 X613 le647 hA613 hK638 hI639
         have I664 : Inv w655 S647 (X613) := hI639
         have q1029 : f 64 = (Value.bool (decide ((x46.length : Int) ≤ x45))) := vt (hA613.at_ 18 rfl _ rfl) rfl
         have q1030 : f 68 = undef := vt (hA613.at_ 22 rfl _ rfl) rfl
         exact opg_skip (c := decide ((x46.length : Int) ≤ x45)) rfl rfl rfl rfl q1029 hc30 rfl ⟨_, _, rfl, PH.Le.refl _, rfl, I664⟩
        ·
         intro vs639 f w656 S648 X614 le648 hA614 hK639 hI640
         have I665 : Inv w656 S648 (X614) := hI640
         have q1031 : f 64 = (Value.bool (decide ((x46.length : Int) ≤ x45))) := vt (hA614.at_ 18 rfl _ rfl) rfl
         have q1032 : f 69 = undef := vt (hA614.at_ 23 rfl _ rfl) rfl
         refine opg_plain rfl rfl (op_pick_t (c := decide ((x46.length : Int) ≤ x45)) (a := (Value.bool (true))) rfl q1031 hc30 rfl ?_)
         refine ⟨_, _, rfl, PH.Le.refl _, ?_, ?_⟩
         ·
          exact rfl
         ·
          exact I665
        ·
         intro vs640 f w657 S649 le649 hF26 hK640 hI641
         have e342 : f 1 = (Value.slice z3 m3 k3) := (hK640 1 (keep_all rfl)).trans e292
         have e343 : f 3 = (Value.pointer (some ⟨g1, 0, none⟩)) := (hK640 3 (keep_all rfl)).trans e293
         have e344 : f 5 = (Value.pointer (some ⟨g2, 0, none⟩)) := (hK640 5 (keep_all rfl)).trans e294
         have e345 : f 7 = (Value.slice z14 m14 k14) := (hK640 7 (keep_all rfl)).trans e295
         have e346 : f 8 = (Value.bool (x13.2.1)) := (hK640 8 (keep_all rfl)).trans e296
         have e347 : f 10 = (Value.int .i64 (s1)) := (hK640 10 (keep_all rfl)).trans e297
         have e348 : f 11 = (Value.int .i64 ((i1 : Int))) := (hK640 11 (keep_all rfl)).trans e298
         have I666 : Inv w657 S649 (Row (α := Int) 3 (Value.slice z14 m14 k14) (x13.1) :: Fr) := hI641
         have q1033 : f 70 = (Value.bool (true)) := vt (hF26.at_ 24 rfl _ rfl) rfl
         refine wp_cond_t (b := true) q1033 rfl ?_
         refine wp_seq' ?_
         refine wp_region' ?_
         refine wl_op rfl (op_assign (v := (Value.bool (false))) rfl rfl ?_)
         refine wl_nil ?_
         refine wp_ret' ?_
         obtain rfl := Option.some.inj h16
         have h17 := h13
         obtain rfl := Option.some.inj h17
         obtain rfl := (hout1 _ rfl)
         have h14 := h
         obtain rfl := Option.some.inj h14
         exact ⟨(Value.bool (false)), (res1 rfl rfl), _, [], ((((le1.trans le2).trans le3).trans le519).trans le649), (I666).drop, rfl, rfl⟩
       ·
        obtain ⟨x47, hx47, h16⟩ := bnd h16
        refine wp_draw (sps := [⟨some 46, [], [0], fun vs_ T_ => fr0 vs_ 0 = (Value.slice z14 m14 k14), [], [], [], fun _ h_ => h_⟩, ⟨some 47, [], [1], fun vs_ T_ => fr0 vs_ 0 = (Value.int .i64 ((i1 : Int))), [], [], [], fun _ h_ => h_⟩, ⟨some 48, [0, 1], [2], fun vs_ T_ => fr0 vs_ 0 = (elemPtr (Value.slice z14 m14 k14) ((i1 : Int)) (Enc.sz Int)), [0], [], [], fun _ h_ => h_⟩, ⟨some 49, [0, 1, 2], [3], fun vs_ T_ => fr0 vs_ 0 = (Value.int .i64 (x45)), [0], [], [], fun _ h_ => h_⟩, ⟨some 50, [0, 1, 2, 3], [4], fun vs_ T_ => fr0 vs_ 0 = (Value.bool (decide (x45 < 0))), [], [], [], fun _ h_ => h_⟩, ⟨some 51, [0, 1, 2, 3, 4], [5], fun vs_ T_ => fr0 vs_ 0 = (Value.bool (decide (x45 < 0))), [], [], [], fun _ h_ => h_⟩, ⟨some 52, [0, 1, 2, 3, 4, 5], [6], fun vs_ T_ => fr0 vs_ 0 = (Value.slice z14 m14 k14), [], [], [], fun _ h_ => h_⟩, ⟨some 53, [0, 1, 2, 3, 4, 5], [7], fun vs_ T_ => fr0 vs_ 0 = (Value.int .i64 ((i1 : Int))), [], [], [], fun _ h_ => h_⟩, ⟨some 54, [0, 1, 2, 3, 4, 5, 6, 7], [8], fun vs_ T_ => fr0 vs_ 0 = (elemPtr (Value.slice z14 m14 k14) ((i1 : Int)) (Enc.sz Int)), [0], [], [], fun _ h_ => h_⟩, ⟨some 55, [0, 1, 2, 3, 4, 5, 6, 7, 8], [9], fun vs_ T_ => fr0 vs_ 0 = (Value.int .i64 (x45)), [0], [], [], fun _ h_ => h_⟩, ⟨some 56, [0, 1, 2, 3, 4, 5], [10], fun vs_ T_ => fr0 vs_ 0 = (fieldPtr (Value.pointer (some ⟨g1, 0, none⟩)) 1), [], [], [], fun _ h_ => h_⟩, ⟨some 57, [0, 1, 2, 3, 4, 5, 10], [11], fun vs_ T_ => RV T_ (fr0 vs_ 0) a0.Edges, [], [], [], fun hle_ h_ => h_.mono hle_⟩, ⟨some 58, [0, 1, 2, 3, 4, 5], [12], fun vs_ T_ => fr0 vs_ 0 = (Value.int .i64 (s1)), [], [], [], fun _ h_ => h_⟩, ⟨some 59, [0, 1, 2, 3, 4, 5, 10, 11, 12], [13, 11], fun vs_ T_ => fr0 vs_ 0 = (elemPtr (fr0 vs_ 1) (s1) (Enc.sz (List Edge))), [], [], [], fun _ h_ => h_⟩, ⟨some 60, [0, 1, 2, 3, 4, 5, 10, 11, 12, 13], [14], fun vs_ T_ => RV T_ (fr0 vs_ 0) x46, [], [], [], fun hle_ h_ => h_.mono hle_⟩, ⟨some 61, [0, 1, 2, 3, 4, 5, 10, 11, 12, 13, 14], [15], fun vs_ T_ => fr0 vs_ 0 = (Value.int .i64 ((x46.length : Int))), [], [], [], fun _ h_ => h_⟩, ⟨some 62, [0, 1, 2, 3, 4, 5, 6, 7, 8, 9, 10, 11, 12, 13, 14, 15], [16], fun vs_ T_ => fr0 vs_ 0 = (Value.bool (decide ((x46.length : Int) ≤ x45))), [], [], [], fun _ h_ => h_⟩, ⟨some 63, [0, 1, 2, 3, 4, 5, 6, 7, 8, 9, 10, 11, 12, 13, 14, 15, 16], [17], fun vs_ T_ => fr0 vs_ 0 = (Value.bool (decide ((x46.length : Int) ≤ x45))), [], [], [], fun _ h_ => h_⟩, ⟨some 64, [0, 1, 2, 3, 4, 5, 6, 7, 8, 9, 10, 11, 12, 13, 14, 15, 16, 17], [18], fun vs_ T_ => fr0 vs_ 0 = (Value.bool (decide ((x46.length : Int) ≤ x45))), [], [], [], fun _ h_ => h_⟩, ⟨some 65, [0, 1, 2, 3, 4, 5, 6, 7, 8, 9, 10, 11, 12, 13, 14, 15, 16, 17, 18], [19], fun vs_ T_ => fr0 vs_ 0 = (Value.slice z3 m3 k3), [], [], [], fun _ h_ => h_⟩, ⟨some 66, [0, 1, 2, 3, 4, 5, 6, 7, 8, 9, 10, 11, 12, 13, 14, 15, 16, 17, 18], [20], fun vs_ T_ => fr0 vs_ 0 = (Value.int .i64 (s1)), [], [], [], fun _ h_ => h_⟩, ⟨some 67, [0, 1, 2, 3, 4, 5, 6, 7, 8, 9, 10, 11, 12, 13, 14, 15, 16, 17, 18, 19, 20], [21], fun vs_ T_ => fr0 vs_ 0 = (elemPtr (Value.slice z3 m3 k3) (s1) (Enc.sz Int)), [], [], [], fun _ h_ => h_⟩, ⟨some 68, [0, 1, 2, 3, 4, 5, 6, 7, 8, 9, 10, 11, 12, 13, 14, 15, 16, 17, 18, 19, 20, 21], [22], fun vs_ T_ => fr0 vs_ 0 = (Value.int .i64 (x47)), [], [], [], fun _ h_ => h_⟩, ⟨some 69, [0, 1, 2, 3, 4, 5, 6, 7, 8, 9, 10, 11, 12, 13, 14, 15, 16, 17, 18, 19, 20, 21, 22], [23], fun vs_ T_ => fr0 vs_ 0 = (Value.bool (x47 == 0)), [], [], [], fun _ h_ => h_⟩, ⟨some 70, [0, 1, 2, 3, 4, 5, 6, 7, 8, 9, 10, 11, 12, 13, 14, 15, 16, 17, 18, 19, 20, 21, 22, 23], [24], fun vs_ T_ => fr0 vs_ 0 = (Value.bool (x47 == 0)), [], [], [], fun _ h_ => h_⟩]) (tks := [⟨none, none, [], fun vs_ => Row (α := Int) 3 (Value.slice z14 m14 k14) (x13.1)⟩]) (O := Fr) rfl (by kernel_rfl) I536 ⟨?_, ?_, ?_, ?_, ?_, ?_, ?_, ?_, ?_, ?_, ?_, ?_, ?_, ?_, ?_, ?_, ?_, ?_, ?_, ?_, ?_, ?_, ?_, ?_, ?_, trivial⟩ ?_
        ·
         intro vs641 f w658 S650 X615 le650 hA615 hK641 hI642
         have I667 : Inv w658 S650 (X615) := hI642
         refine opg_plain rfl rfl (op_move (v := (Value.slice z14 m14 k14)) rfl ((hK641 7 (keep_of rfl)).trans e295) ?_)
         refine ⟨_, _, rfl, PH.Le.refl _, ?_, ?_⟩
         ·
          exact rfl
         ·
          exact I667
        ·
         intro vs642 f w659 S651 X616 le651 hA616 hK642 hI643
         have I668 : Inv w659 S651 (X616) := hI643
         refine opg_plain rfl rfl (op_move (v := (Value.int .i64 ((i1 : Int)))) rfl ((hK642 11 (keep_of rfl)).trans e298) ?_)
         refine ⟨_, _, rfl, PH.Le.refl _, ?_, ?_⟩
         ·
          exact rfl
         ·
          exact I668
        ·
         intro vs643 f w660 S652 X617 le652 hA617 hK643 hI644
         have I669 : Inv w660 S652 (Row (α := Int) 3 (Value.slice z14 m14 k14) (x13.1) :: X617) := hI644
         have q1034 : f 46 = (Value.slice z14 m14 k14) := vt (hA617.at_ 0 rfl _ rfl) rfl
         have q1035 : f 47 = (Value.int .i64 ((i1 : Int))) := vt (hA617.at_ 1 rfl _ rfl) rfl
         refine opg_plain rfl rfl (op_indexAddr_src (v := (Value.slice z14 m14 k14)) (i := (i1 : Int)) (e := x45) rfl Try.underlying26 sh3 q1034 (Inv.rowSrc (I669.nth 0 rfl)) q1035 hx45 ?_)
         refine ⟨_, _, rfl, PH.Le.refl _, ?_, ?_⟩
         ·
          exact rfl
         ·
          exact I669
        ·
         intro vs644 f w661 S653 X618 le653 hA618 hK644 hI645
         have I670 : Inv w661 S653 (Row (α := Int) 3 (Value.slice z14 m14 k14) (x13.1) :: X618) := hI645
         have q1036 : f 48 = (elemPtr (Value.slice z14 m14 k14) ((i1 : Int)) (Enc.sz Int)) := vt (hA618.at_ 2 rfl _ rfl) rfl
         refine opg_plain rfl rfl (op_load_int (v := (elemPtr (Value.slice z14 m14 k14) ((i1 : Int)) (Enc.sz Int))) (e := x45) rfl sh3 q1036 ((I670.nth 0 rfl).rowElem hx45) ?_)
         refine ⟨_, _, rfl, PH.Le.refl _, ?_, ?_⟩
         ·
          exact rfl
         ·
          exact I670
        ·
         intro vs645 f w662 S654 X619 le654 hA619 hK645 hI646
         have I671 : Inv w662 S654 (X619) := hI646
         have q1037 : f 49 = (Value.int .i64 (x45)) := vt (hA619.at_ 3 rfl _ rfl) rfl
         refine opg_plain rfl rfl (op_lss (a := x45) (b := 0) rfl q1037 rfl ?_)
         refine ⟨_, _, rfl, PH.Le.refl _, ?_, ?_⟩
         ·
          exact rfl
         ·
          exact I671
        ·
         intro vs646 f w663 S655 X620 le655 hA620 hK646 hI647
         have I672 : Inv w663 S655 (X620) := hI647
         have q1038 : f 50 = (Value.bool (decide (x45 < 0))) := vt (hA620.at_ 4 rfl _ rfl) rfl
         refine opg_plain rfl rfl (op_move (v := (Value.bool (decide (x45 < 0)))) rfl q1038 ?_)
         refine ⟨_, _, rfl, PH.Le.refl _, ?_, ?_⟩
         ·
          exact rfl
         ·
          exact I672
        ·
         intro vs647 f w664 S656 X621 le656 hA621 hK647 hI648
         have I673 : Inv w664 S656 (X621) := hI648
         have q1039 : f 51 = (Value.bool (decide (x45 < 0))) := vt (hA621.at_ 5 rfl _ rfl) rfl
         refine opg_taken (c := decide (x45 < 0)) rfl rfl rfl rfl q1039 hc29 (op_move (v := (Value.slice z14 m14 k14)) rfl ((hK647 7 (keep_of rfl)).trans e295) ?_)
         refine ⟨_, _, rfl, PH.Le.refl _, ?_, ?_⟩
         ·
          exact rfl
         ·
          exact I673
        ·
         intro vs648 f w665 S657 X622 le657 hA622 hK648 hI649
         have I674 : Inv w665 S657 (X622) := hI649
         have q1040 : f 51 = (Value.bool (decide (x45 < 0))) := vt (hA622.at_ 5 rfl _ rfl) rfl
         refine opg_taken (c := decide (x45 < 0)) rfl rfl rfl rfl q1040 hc29 (op_move (v := (Value.int .i64 ((i1 : Int)))) rfl ((hK648 11 (keep_of rfl)).trans e298) ?_)
         refine ⟨_, _, rfl, PH.Le.refl _, ?_, ?_⟩
         ·
          exact rfl
         ·
          exact I674
        ·
         intro vs649 f w666 S658 X623 le658 hA623 hK649 hI650
         have I675 : Inv w666 S658 (Row (α := Int) 3 (Value.slice z14 m14 k14) (x13.1) :: X623) := hI650
         have q1041 : f 51 = (Value.bool (decide (x45 < 0))) := vt (hA623.at_ 5 rfl _ rfl) rfl
         have q1042 : f 52 = (Value.slice z14 m14 k14) := vt (hA623.at_ 6 rfl _ rfl) rfl
         have q1043 : f 53 = (Value.int .i64 ((i1 : Int))) := vt (hA623.at_ 7 rfl _ rfl) rfl
         refine opg_taken (c := decide (x45 < 0)) rfl rfl rfl rfl q1041 hc29 (op_indexAddr_src (v := (Value.slice z14 m14 k14)) (i := (i1 : Int)) (e := x45) rfl Try.underlying26 sh3 q1042 (Inv.rowSrc (I675.nth 0 rfl)) q1043 hx45 ?_)
         refine ⟨_, _, rfl, PH.Le.refl _, ?_, ?_⟩
         ·
          exact rfl
         ·
          exact I675
        ·
         intro vs650 f w667 S659 X624 le659 hA624 hK650 hI651
         have I676 : Inv w667 S659 (Row (α := Int) 3 (Value.slice z14 m14 k14) (x13.1) :: X624) := hI651
         have q1044 : f 51 = (Value.bool (decide (x45 < 0))) := vt (hA624.at_ 5 rfl _ rfl) rfl
         have q1045 : f 54 = (elemPtr (Value.slice z14 m14 k14) ((i1 : Int)) (Enc.sz Int)) := vt (hA624.at_ 8 rfl _ rfl) rfl
         refine opg_taken (c := decide (x45 < 0)) rfl rfl rfl rfl q1044 hc29 (op_load_int (v := (elemPtr (Value.slice z14 m14 k14) ((i1 : Int)) (Enc.sz Int))) (e := x45) rfl sh3 q1045 ((I676.nth 0 rfl).rowElem hx45) ?_)
         refine ⟨_, _, rfl, PH.Le.refl _, ?_, ?_⟩
         ·
          exact rfl
         ·
          exact I676
        ·
         intro vs651 f w668 S660 X625 le660 hA625 hK651 hI652
         have I677 : Inv w668 S660 (X625) := hI652
         have q1046 : f 51 = (Value.bool (decide (x45 < 0))) := vt (hA625.at_ 5 rfl _ rfl) rfl
         refine opg_taken (c := decide (x45 < 0)) rfl rfl rfl rfl q1046 hc29 (op_fieldAddr_t (v := (Value.pointer (some ⟨g1, 0, none⟩))) rfl fa25_1 ((hK651 3 (keep_of rfl)).trans e293) ((p1.mono (((le2.trans le3).trans le519).trans le660)).at_ I677) ?_)
         refine ⟨_, _, rfl, PH.Le.refl _, ?_, ?_⟩
         ·
          exact rfl
         ·
          exact I677
        ·
         intro vs652 f w669 S661 X626 le661 hA626 hK652 hI653
         have I678 : Inv w669 S661 (X626) := hI653
         have q1047 : f 51 = (Value.bool (decide (x45 < 0))) := vt (hA626.at_ 5 rfl _ rfl) rfl
         have q1048 : f 56 = (fieldPtr (Value.pointer (some ⟨g1, 0, none⟩)) 1) := vt (hA626.at_ 6 rfl _ rfl) rfl
         refine opg_taken (c := decide (x45 < 0)) rfl rfl rfl rfl q1047 hc29 (op_load (v := (fieldPtr (Value.pointer (some ⟨g1, 0, none⟩)) 1)) (e := a0.Edges) rfl sh23 q1048 (((p1.mono (((le2.trans le3).trans le519).trans le661)).at_ I678).fld Graph.fld1) (fun u157 hu157 => ?_))
         obtain ⟨z111, m111, k111, e349⟩ := rv_form hu157
         subst e349
         refine ⟨_, _, rfl, PH.Le.refl _, ?_, ?_⟩
         ·
          exact hu157
         ·
          exact I678
        ·
         intro vs653 f w670 S662 X627 le662 hA627 hK653 hI654
         have I679 : Inv w670 S662 (X627) := hI654
         have q1049 : f 51 = (Value.bool (decide (x45 < 0))) := vt (hA627.at_ 5 rfl _ rfl) rfl
         refine opg_taken (c := decide (x45 < 0)) rfl rfl rfl rfl q1049 hc29 (op_move (v := (Value.int .i64 (s1))) rfl ((hK653 10 (keep_of rfl)).trans e297) ?_)
         refine ⟨_, _, rfl, PH.Le.refl _, ?_, ?_⟩
         ·
          exact rfl
         ·
          exact I679
        ·
         intro vs654 f w671 S663 X628 le663 hA628 hK654 hI655
         have I680 : Inv w671 S663 (X628) := hI655
         have q1050 : f 51 = (Value.bool (decide (x45 < 0))) := vt (hA628.at_ 5 rfl _ rfl) rfl
         have q1051 : f 57 = vs654 11 := (hA628.at_ 7 rfl _ rfl).1 _ rfl
         have r73 : RV S663 (vs654 11) a0.Edges := (hA628.at_ 7 rfl _ rfl).2
         obtain ⟨u158, hu158⟩ : ∃ u, vs654 11 = u := ⟨_, rfl⟩
         rw [hu158] at q1051 r73
         obtain ⟨z112, m112, k112, e350⟩ := rv_form r73
         subst e350
         have q1052 : f 58 = (Value.int .i64 (s1)) := vt (hA628.at_ 8 rfl _ rfl) rfl
         refine opg_taken (c := decide (x45 < 0)) rfl rfl rfl rfl q1050 hc29 (op_indexAddr_rv (v := (Value.slice z112 m112 k112)) (i := s1) (e := x46) rfl Try.underlying23 sh40 q1051 r73 q1052 hx46 ?_)
         refine ⟨_, _, rfl, PH.Le.refl _, ?_, ?_⟩
         ·
          show (elemPtr (Value.slice z112 m112 k112) (s1) (Enc.sz (List Edge))) = (elemPtr (vs654 11) (s1) (Enc.sz (List Edge)))
          simp only [hu158] <;> rfl
         ·
          exact I680
        ·
         intro vs655 f w672 S664 X629 le664 hA629 hK655 hI656
         have I681 : Inv w672 S664 (X629) := hI656
         have q1053 : f 51 = (Value.bool (decide (x45 < 0))) := vt (hA629.at_ 5 rfl _ rfl) rfl
         have q1054 : f 57 = vs655 11 := (hA629.at_ 7 rfl _ rfl).1 _ rfl
         have r74 : RV S664 (vs655 11) a0.Edges := (hA629.at_ 7 rfl _ rfl).2
         obtain ⟨u159, hu159⟩ : ∃ u, vs655 11 = u := ⟨_, rfl⟩
         rw [hu159] at q1054 r74
         obtain ⟨z113, m113, k113, e351⟩ := rv_form r74
         subst e351
         have q1055 : f 58 = (Value.int .i64 (s1)) := vt (hA629.at_ 8 rfl _ rfl) rfl
         have q1056 : f 59 = (elemPtr (vs655 11) (s1) (Enc.sz (List Edge))) := vt (hA629.at_ 9 rfl _ rfl) rfl
         simp only [hu159] at q1056
         have q1056 : f 59 = (elemPtr (Value.slice z113 m113 k113) (s1) (Enc.sz (List Edge))) := q1056
         refine opg_taken (c := decide (x45 < 0)) rfl rfl rfl rfl q1053 hc29 (op_load (v := (elemPtr (Value.slice z113 m113 k113) (s1) (Enc.sz (List Edge)))) (e := x46) rfl sh40 q1056 (r74.elem I681.in_ hx46) (fun u160 hu160 => ?_))
         obtain ⟨z114, m114, k114, e352⟩ := rv_form hu160
         subst e352
         refine ⟨_, _, rfl, PH.Le.refl _, ?_, ?_⟩
         ·
          exact hu160
         ·
          exact I681
        ·
         intro vs656 f w673 S665 X630 le665 hA630 hK656 hI657
         have I682 : Inv w673 S665 (X630) := hI657
         have q1057 : f 51 = (Value.bool (decide (x45 < 0))) := vt (hA630.at_ 5 rfl _ rfl) rfl
         have q1058 : f 60 = vs656 14 := (hA630.at_ 10 rfl _ rfl).1 _ rfl
         have r75 : RV S665 (vs656 14) x46 := (hA630.at_ 10 rfl _ rfl).2
         obtain ⟨u161, hu161⟩ : ∃ u, vs656 14 = u := ⟨_, rfl⟩
         rw [hu161] at q1058 r75
         obtain ⟨z115, m115, k115, e353⟩ := rv_form r75
         subst e353
         refine opg_taken (c := decide (x45 < 0)) rfl rfl rfl rfl q1057 hc29 (op_len_rv rfl Try.underlying40 q1058 r75 ?_)
         refine ⟨_, _, rfl, PH.Le.refl _, ?_, ?_⟩
         ·
          exact rfl
         ·
          exact I682
        ·
         intro vs657 f w674 S666 X631 le666 hA631 hK657 hI658
         have I683 : Inv w674 S666 (X631) := hI658
         have q1059 : f 51 = (Value.bool (decide (x45 < 0))) := vt (hA631.at_ 5 rfl _ rfl) rfl
         have q1060 : f 55 = (Value.int .i64 (x45)) := vt (hA631.at_ 9 rfl _ rfl) rfl
         have q1061 : f 61 = (Value.int .i64 ((x46.length : Int))) := vt (hA631.at_ 15 rfl _ rfl) rfl
         refine opg_taken (c := decide (x45 < 0)) rfl rfl rfl rfl q1059 hc29 (op_geq (a := x45) (b := (x46.length : Int)) rfl q1060 q1061 ?_)
         refine ⟨_, _, rfl, PH.Le.refl _, ?_, ?_⟩
         ·
          exact rfl
         ·
          exact I683
        ·
         intro vs658 f w675 S667 X632 le667 hA632 hK658 hI659
         have I684 : Inv w675 S667 (X632) := hI659
         have q1062 : f 51 = (Value.bool (decide (x45 < 0))) := vt (hA632.at_ 5 rfl _ rfl) rfl
         have q1063 : f 62 = (Value.bool (decide ((x46.length : Int) ≤ x45))) := vt (hA632.at_ 16 rfl _ rfl) rfl
         refine opg_plain rfl rfl (op_pick_f (c := decide (x45 < 0)) (b := (Value.bool (decide ((x46.length : Int) ≤ x45)))) rfl q1062 hc29 q1063 ?_)
         refine ⟨_, _, rfl, PH.Le.refl _, ?_, ?_⟩
         ·
          exact rfl
         ·
          exact I684
        ·
         intro vs659 f w676 S668 X633 le668 hA633 hK659 hI660
         have I685 : Inv w676 S668 (X633) := hI660
         have q1064 : f 63 = (Value.bool (decide ((x46.length : Int) ≤ x45))) := vt (hA633.at_ 17 rfl _ rfl) rfl
         refine opg_plain rfl rfl (op_move (v := (Value.bool (decide ((x46.length : Int) ≤ x45)))) rfl q1064 ?_)
         refine ⟨_, _, rfl, PH.Le.refl _, ?_, ?_⟩
         ·
          exact rfl
         ·
          exact I685
        ·
         intro vs660 f w677 S669 X634 le669 hA634 hK660 hI661
         have I686 : Inv w677 S669 (X634) := hI661
         have q1065 : f 64 = (Value.bool (decide ((x46.length : Int) ≤ x45))) := vt (hA634.at_ 18 rfl _ rfl) rfl
         refine opg_taken (c := decide ((x46.length : Int) ≤ x45)) rfl rfl rfl rfl q1065 hc30 (op_move (v := (Value.slice z3 m3 k3)) rfl ((hK660 1 (keep_of rfl)).trans e292) ?_)
         refine ⟨_, _, rfl, PH.Le.refl _, ?_, ?_⟩
         ·
          exact rfl
         ·
          exact I686
        ·
         intro vs661 f w678 S670 X635 le670 hA635 hK661 hI662
         have I687 : Inv w678 S670 (X635) := hI662
         have q1066 : f 64 = (Value.bool (decide ((x46.length : Int) ≤ x45))) := vt (hA635.at_ 18 rfl _ rfl) rfl
         refine opg_taken (c := decide ((x46.length : Int) ≤ x45)) rfl rfl rfl rfl q1066 hc30 (op_move (v := (Value.int .i64 (s1))) rfl ((hK661 10 (keep_of rfl)).trans e297) ?_)
         refine ⟨_, _, rfl, PH.Le.refl _, ?_, ?_⟩
         ·
          exact rfl
         ·
          exact I687
        ·
         intro vs662 f w679 S671 X636 le671 hA636 hK662 hI663
         have I688 : Inv w679 S671 (X636) := hI663
         have q1067 : f 64 = (Value.bool (decide ((x46.length : Int) ≤ x45))) := vt (hA636.at_ 18 rfl _ rfl) rfl
         have q1068 : f 65 = (Value.slice z3 m3 k3) := vt (hA636.at_ 19 rfl _ rfl) rfl
         have q1069 : f 66 = (Value.int .i64 (s1)) := vt (hA636.at_ 20 rfl _ rfl) rfl
         refine opg_taken (c := decide ((x46.length : Int) ≤ x45)) rfl rfl rfl rfl q1067 hc30 (op_indexAddr_rv (v := (Value.slice z3 m3 k3)) (i := s1) (e := x47) rfl Try.underlying26 sh3 q1068 (h1_.mono ((((le1.trans le2).trans le3).trans le519).trans le671)) q1069 hx47 ?_)
         refine ⟨_, _, rfl, PH.Le.refl _, ?_, ?_⟩
         ·
          exact rfl
         ·
          exact I688
        ·
         intro vs663 f w680 S672 X637 le672 hA637 hK663 hI664
         have I689 : Inv w680 S672 (X637) := hI664
         have q1070 : f 64 = (Value.bool (decide ((x46.length : Int) ≤ x45))) := vt (hA637.at_ 18 rfl _ rfl) rfl
         have q1071 : f 67 = (elemPtr (Value.slice z3 m3 k3) (s1) (Enc.sz Int)) := vt (hA637.at_ 21 rfl _ rfl) rfl
         refine opg_taken (c := decide ((x46.length : Int) ≤ x45)) rfl rfl rfl rfl q1070 hc30 (op_load_int (v := (elemPtr (Value.slice z3 m3 k3) (s1) (Enc.sz Int))) (e := x47) rfl sh3 q1071 ((h1_.mono ((((le1.trans le2).trans le3).trans le519).trans le672)).elem I689.in_ hx47) ?_)
         refine ⟨_, _, rfl, PH.Le.refl _, ?_, ?_⟩
         ·
          exact rfl
         ·
          exact I689
        ·
         intro vs664 f w681 S673 X638 le673 hA638 hK664 hI665
         have I690 : Inv w681 S673 (X638) := hI665
         have q1072 : f 64 = (Value.bool (decide ((x46.length : Int) ≤ x45))) := vt (hA638.at_ 18 rfl _ rfl) rfl
         have q1073 : f 68 = (Value.int .i64 (x47)) := vt (hA638.at_ 22 rfl _ rfl) rfl
         refine opg_taken (c := decide ((x46.length : Int) ≤ x45)) rfl rfl rfl rfl q1072 hc30 (op_eql (a := x47) (b := 0) rfl q1073 rfl ?_)
         refine ⟨_, _, rfl, PH.Le.refl _, ?_, ?_⟩
         ·
          exact rfl
         ·
          exact I690
        ·
         intro vs665 f w682 S674 X639 le674 hA639 hK665 hI666
         have I691 : Inv w682 S674 (X639) := hI666
         have q1074 : f 64 = (Value.bool (decide ((x46.length : Int) ≤ x45))) := vt (hA639.at_ 18 rfl _ rfl) rfl
         have q1075 : f 69 = (Value.bool (x47 == 0)) := vt (hA639.at_ 23 rfl _ rfl) rfl
         refine opg_plain rfl rfl (op_pick_f (c := decide ((x46.length : Int) ≤ x45)) (b := (Value.bool (x47 == 0))) rfl q1074 hc30 q1075 ?_)
         refine ⟨_, _, rfl, PH.Le.refl _, ?_, ?_⟩
         ·
          exact rfl
         ·
          exact I691
        ·
         intro vs666 f w683 S675 le675 hF27 hK666 hI667
         have e354 : f 1 = (Value.slice z3 m3 k3) := (hK666 1 (keep_all rfl)).trans e292
         have e355 : f 3 = (Value.pointer (some ⟨g1, 0, none⟩)) := (hK666 3 (keep_all rfl)).trans e293
         have e356 : f 5 = (Value.pointer (some ⟨g2, 0, none⟩)) := (hK666 5 (keep_all rfl)).trans e294
         have e357 : f 7 = (Value.slice z14 m14 k14) := (hK666 7 (keep_all rfl)).trans e295
         have e358 : f 8 = (Value.bool (x13.2.1)) := (hK666 8 (keep_all rfl)).trans e296
         have e359 : f 10 = (Value.int .i64 (s1)) := (hK666 10 (keep_all rfl)).trans e297
         have e360 : f 11 = (Value.int .i64 ((i1 : Int))) := (hK666 11 (keep_all rfl)).trans e298
         have I692 : Inv w683 S675 (Row (α := Int) 3 (Value.slice z14 m14 k14) (x13.1) :: Fr) := hI667
         have q1076 : f 70 = (Value.bool (x47 == 0)) := vt (hF27.at_ 24 rfl _ rfl) rfl
         rcases ifs h16 with ⟨hc31, h16⟩ | ⟨hc31, h16⟩
         ·
          refine wp_cond_t (b := x47 == 0) q1076 hc31 ?_
          refine wp_seq' ?_
          refine wp_region' ?_
          refine wl_op rfl (op_assign (v := (Value.bool (false))) rfl rfl ?_)
          refine wl_nil ?_
          refine wp_ret' ?_
          obtain rfl := Option.some.inj h16
          have h17 := h13
          obtain rfl := Option.some.inj h17
          obtain rfl := (hout1 _ rfl)
          have h14 := h
          obtain rfl := Option.some.inj h14
          exact ⟨(Value.bool (false)), (res1 rfl rfl), _, [], ((((le1.trans le2).trans le3).trans le519).trans le675), (I692).drop, rfl, rfl⟩
         ·
          refine wp_cond_f (b := x47 == 0) q1076 hc31 ?_
          refine wp_skip' ?_
          obtain rfl := Option.some.inj h16
          exact ⟨_, rfl, _, le675, I692, e354, e355, e356, e357, e358, e359, e360⟩
     ·
      rintro f w ⟨v6, rfl, S676, le676, I693, e361, e362, e363, e364, e365, e366, e367⟩
      have h13 := onL_inl h13
      obtain ⟨x48, hx48, h13⟩ := bnd h13
      obtain ⟨x49, hx49, h13⟩ := bnd h13
      obtain ⟨x50, hx50, h13⟩ := bnd h13
      refine wp_draw (sps := [⟨some 71, [], [0], fun vs_ T_ => fr0 vs_ 0 = (fieldPtr (Value.pointer (some ⟨g1, 0, none⟩)) 1), [], [], [], fun _ h_ => h_⟩, ⟨some 72, [0], [1], fun vs_ T_ => RV T_ (fr0 vs_ 0) a0.Edges, [], [], [], fun hle_ h_ => h_.mono hle_⟩, ⟨some 73, [], [2], fun vs_ T_ => fr0 vs_ 0 = (Value.int .i64 (s1)), [], [], [], fun _ h_ => h_⟩, ⟨some 74, [0, 1, 2], [3, 1], fun vs_ T_ => fr0 vs_ 0 = (elemPtr (fr0 vs_ 1) (s1) (Enc.sz (List Edge))), [], [], [], fun _ h_ => h_⟩, ⟨some 75, [0, 1, 2, 3], [4], fun vs_ T_ => RV T_ (fr0 vs_ 0) x48, [], [], [], fun hle_ h_ => h_.mono hle_⟩, ⟨some 76, [], [5], fun vs_ T_ => fr0 vs_ 0 = (Value.slice z14 m14 k14), [], [], [], fun _ h_ => h_⟩, ⟨some 77, [], [6], fun vs_ T_ => fr0 vs_ 0 = (Value.int .i64 ((i1 : Int))), [], [], [], fun _ h_ => h_⟩, ⟨some 78, [5, 6], [7], fun vs_ T_ => fr0 vs_ 0 = (elemPtr (Value.slice z14 m14 k14) ((i1 : Int)) (Enc.sz Int)), [0], [], [], fun _ h_ => h_⟩, ⟨some 79, [5, 6, 7], [8], fun vs_ T_ => fr0 vs_ 0 = (Value.int .i64 (x49)), [0], [], [], fun _ h_ => h_⟩, ⟨some 80, [0, 1, 2, 3, 4, 5, 6, 7, 8], [9, 4], fun vs_ T_ => fr0 vs_ 0 = (elemPtr (fr0 vs_ 1) (x49) (Enc.sz Edge)), [], [], [], fun _ h_ => h_⟩, ⟨some 81, [0, 1, 2, 3, 4, 5, 6, 7, 8, 9], [10, 4], fun vs_ T_ => fr0 vs_ 0 = (fieldPtr (elemPtr (fr0 vs_ 1) (x49) (Enc.sz Edge)) 3), [], [], [], fun _ h_ => h_⟩, ⟨some 82, [0, 1, 2, 3, 4, 5, 6, 7, 8, 9, 10], [11], fun vs_ T_ => fr0 vs_ 0 = (Value.int .i64 (x50.To)), [], [], [], fun _ h_ => h_⟩, ⟨some 10, [0, 1, 2, 3, 4, 5, 6, 7, 8, 9, 10, 11], [12], fun vs_ T_ => fr0 vs_ 0 = (Value.int .i64 (x50.To)), [], [], [], fun _ h_ => h_⟩]) (tks := [⟨none, none, [], fun vs_ => Row (α := Int) 3 (Value.slice z14 m14 k14) (x13.1)⟩]) (O := Fr) rfl (by kernel_rfl) I693 ⟨?_, ?_, ?_, ?_, ?_, ?_, ?_, ?_, ?_, ?_, ?_, ?_, ?_, trivial⟩ ?_
      ·
       intro vs667 f w684 S677 X640 le677 hA640 hK667 hI668
       have I694 : Inv w684 S677 (X640) := hI668
       refine opg_plain rfl rfl (op_fieldAddr_t (v := (Value.pointer (some ⟨g1, 0, none⟩))) rfl fa25_1 ((hK667 3 (keep_of rfl)).trans e362) ((p1.mono ((((le2.trans le3).trans le519).trans le676).trans le677)).at_ I694) ?_)
       refine ⟨_, _, rfl, PH.Le.refl _, ?_, ?_⟩
       ·
        exact rfl
       ·
        exact I694
      ·
       intro vs668 f w685 S678 X641 le678 hA641 hK668 hI669
       have I695 : Inv w685 S678 (X641) := hI669
       have q1077 : f 71 = (fieldPtr (Value.pointer (some ⟨g1, 0, none⟩)) 1) := vt (hA641.at_ 0 rfl _ rfl) rfl
       refine opg_plain rfl rfl (op_load (v := (fieldPtr (Value.pointer (some ⟨g1, 0, none⟩)) 1)) (e := a0.Edges) rfl sh23 q1077 (((p1.mono ((((le2.trans le3).trans le519).trans le676).trans le678)).at_ I695).fld Graph.fld1) (fun u164 hu164 => ?_))
       obtain ⟨z116, m116, k116, e368⟩ := rv_form hu164
       subst e368
       refine ⟨_, _, rfl, PH.Le.refl _, ?_, ?_⟩
       ·
        exact hu164
       ·
        exact I695
      ·
       intro vs669 f w686 S679 X642 le679 hA642 hK669 hI670
       have I696 : Inv w686 S679 (X642) := hI670
       refine opg_plain rfl rfl (op_move (v := (Value.int .i64 (s1))) rfl ((hK669 10 (keep_of rfl)).trans e366) ?_)
       refine ⟨_, _, rfl, PH.Le.refl _, ?_, ?_⟩
       ·
        exact rfl
       ·
        exact I696
      ·
       intro vs670 f w687 S680 X643 le680 hA643 hK670 hI671
       have I697 : Inv w687 S680 (X643) := hI671
       have q1078 : f 72 = vs670 1 := (hA643.at_ 1 rfl _ rfl).1 _ rfl
       have r76 : RV S680 (vs670 1) a0.Edges := (hA643.at_ 1 rfl _ rfl).2
       obtain ⟨u165, hu165⟩ : ∃ u, vs670 1 = u := ⟨_, rfl⟩
       rw [hu165] at q1078 r76
       obtain ⟨z117, m117, k117, e369⟩ := rv_form r76
       subst e369
       have q1079 : f 73 = (Value.int .i64 (s1)) := vt (hA643.at_ 2 rfl _ rfl) rfl
       refine opg_plain rfl rfl (op_indexAddr_rv (v := (Value.slice z117 m117 k117)) (i := s1) (e := x48) rfl Try.underlying23 sh40 q1078 r76 q1079 hx48 ?_)
       refine ⟨_, _, rfl, PH.Le.refl _, ?_, ?_⟩
       ·
        show (elemPtr (Value.slice z117 m117 k117) (s1) (Enc.sz (List Edge))) = (elemPtr (vs670 1) (s1) (Enc.sz (List Edge)))
        simp only [hu165] <;> rfl
       ·
        exact I697
      ·
       intro vs671 f w688 S681 X644 le681 hA644 hK671 hI672
       have I698 : Inv w688 S681 (X644) := hI672
       have q1080 : f 72 = vs671 1 := (hA644.at_ 1 rfl _ rfl).1 _ rfl
       have r77 : RV S681 (vs671 1) a0.Edges := (hA644.at_ 1 rfl _ rfl).2
       obtain ⟨u166, hu166⟩ : ∃ u, vs671 1 = u := ⟨_, rfl⟩
       rw [hu166] at q1080 r77
       obtain ⟨z118, m118, k118, e370⟩ := rv_form r77
       subst e370
       have q1081 : f 73 = (Value.int .i64 (s1)) := vt (hA644.at_ 2 rfl _ rfl) rfl
       have q1082 : f 74 = (elemPtr (vs671 1) (s1) (Enc.sz (List Edge))) := vt (hA644.at_ 3 rfl _ rfl) rfl
       simp only [hu166] at q1082
       have q1082 : f 74 = (elemPtr (Value.slice z118 m118 k118) (s1) (Enc.sz (List Edge))) := q1082
       refine opg_plain rfl rfl (op_load (v := (elemPtr (Value.slice z118 m118 k118) (s1) (Enc.sz (List Edge)))) (e := x48) rfl sh40 q1082 (r77.elem I698.in_ hx48) (fun u167 hu167 => ?_))
       obtain ⟨z119, m119, k119, e371⟩ := rv_form hu167
       subst e371
       refine ⟨_, _, rfl, PH.Le.refl _, ?_, ?_⟩
       ·
        exact hu167
       ·
        exact I698
      ·
       intro vs672 f w689 S682 X645 le682 hA645 hK672 hI673
       have I699 : Inv w689 S682 (X645) := hI673
       refine opg_plain rfl rfl (op_move (v := (Value.slice z14 m14 k14)) rfl ((hK672 7 (keep_of rfl)).trans e364) ?_)
       refine ⟨_, _, rfl, PH.Le.refl _, ?_, ?_⟩
       ·
        exact rfl
       ·
        exact I699
      ·
       intro vs673 f w690 S683 X646 le683 hA646 hK673 hI674
       have I700 : Inv w690 S683 (X646) := hI674
       refine opg_plain rfl rfl (op_move (v := (Value.int .i64 ((i1 : Int)))) rfl ((hK673 11 (keep_of rfl)).trans e367) ?_)
       refine ⟨_, _, rfl, PH.Le.refl _, ?_, ?_⟩
       ·
        exact rfl
       ·
        exact I700
      ·
       intro vs674 f w691 S684 X647 le684 hA647 hK674 hI675
       have I701 : Inv w691 S684 (Row (α := Int) 3 (Value.slice z14 m14 k14) (x13.1) :: X647) := hI675
       have q1083 : f 76 = (Value.slice z14 m14 k14) := vt (hA647.at_ 0 rfl _ rfl) rfl
       have q1084 : f 77 = (Value.int .i64 ((i1 : Int))) := vt (hA647.at_ 1 rfl _ rfl) rfl
       refine opg_plain rfl rfl (op_indexAddr_src (v := (Value.slice z14 m14 k14)) (i := (i1 : Int)) (e := x49) rfl Try.underlying26 sh3 q1083 (Inv.rowSrc (I701.nth 0 rfl)) q1084 hx49 ?_)
       refine ⟨_, _, rfl, PH.Le.refl _, ?_, ?_⟩
       ·
        exact rfl
       ·
        exact I701
      ·
       intro vs675 f w692 S685 X648 le685 hA648 hK675 hI676
       have I702 : Inv w692 S685 (Row (α := Int) 3 (Value.slice z14 m14 k14) (x13.1) :: X648) := hI676
       have q1085 : f 78 = (elemPtr (Value.slice z14 m14 k14) ((i1 : Int)) (Enc.sz Int)) := vt (hA648.at_ 2 rfl _ rfl) rfl
       refine opg_plain rfl rfl (op_load_int (v := (elemPtr (Value.slice z14 m14 k14) ((i1 : Int)) (Enc.sz Int))) (e := x49) rfl sh3 q1085 ((I702.nth 0 rfl).rowElem hx49) ?_)
       refine ⟨_, _, rfl, PH.Le.refl _, ?_, ?_⟩
       ·
        exact rfl
       ·
        exact I702
      ·
       intro vs676 f w693 S686 X649 le686 hA649 hK676 hI677
       have I703 : Inv w693 S686 (X649) := hI677
       have q1086 : f 75 = vs676 4 := (hA649.at_ 4 rfl _ rfl).1 _ rfl
       have r78 : RV S686 (vs676 4) x48 := (hA649.at_ 4 rfl _ rfl).2
       obtain ⟨u168, hu168⟩ : ∃ u, vs676 4 = u := ⟨_, rfl⟩
       rw [hu168] at q1086 r78
       obtain ⟨z120, m120, k120, e372⟩ := rv_form r78
       subst e372
       have q1087 : f 79 = (Value.int .i64 (x49)) := vt (hA649.at_ 8 rfl _ rfl) rfl
       refine opg_plain rfl rfl (op_indexAddr_rv (v := (Value.slice z120 m120 k120)) (i := x49) (e := x50) rfl Try.underlying40 sh44 q1086 r78 q1087 hx50 ?_)
       refine ⟨_, _, rfl, PH.Le.refl _, ?_, ?_⟩
       ·
        show (elemPtr (Value.slice z120 m120 k120) (x49) (Enc.sz Edge)) = (elemPtr (vs676 4) (x49) (Enc.sz Edge))
        simp only [hu168] <;> rfl
       ·
        exact I703
      ·
       intro vs677 f w694 S687 X650 le687 hA650 hK677 hI678
       have I704 : Inv w694 S687 (X650) := hI678
       have q1088 : f 75 = vs677 4 := (hA650.at_ 4 rfl _ rfl).1 _ rfl
       have r79 : RV S687 (vs677 4) x48 := (hA650.at_ 4 rfl _ rfl).2
       obtain ⟨u169, hu169⟩ : ∃ u, vs677 4 = u := ⟨_, rfl⟩
       rw [hu169] at q1088 r79
       obtain ⟨z121, m121, k121, e373⟩ := rv_form r79
       subst e373
       have q1089 : f 79 = (Value.int .i64 (x49)) := vt (hA650.at_ 8 rfl _ rfl) rfl
       have q1090 : f 80 = (elemPtr (vs677 4) (x49) (Enc.sz Edge)) := vt (hA650.at_ 9 rfl _ rfl) rfl
       simp only [hu169] at q1090
       have q1090 : f 80 = (elemPtr (Value.slice z121 m121 k121) (x49) (Enc.sz Edge)) := q1090
       refine opg_plain rfl rfl (op_fieldAddr_t (v := (elemPtr (Value.slice z121 m121 k121) (x49) (Enc.sz Edge))) rfl fa44_1 q1090 (r79.elem I704.in_ hx50) ?_)
       refine ⟨_, _, rfl, PH.Le.refl _, ?_, ?_⟩
       ·
        show (fieldPtr (elemPtr (Value.slice z121 m121 k121) (x49) (Enc.sz Edge)) 3) = (fieldPtr (elemPtr (vs677 4) (x49) (Enc.sz Edge)) 3)
        simp only [hu169] <;> rfl
       ·
        exact I704
      ·
       intro vs678 f w695 S688 X651 le688 hA651 hK678 hI679
       have I705 : Inv w695 S688 (X651) := hI679
       have q1091 : f 75 = vs678 4 := (hA651.at_ 4 rfl _ rfl).1 _ rfl
       have r80 : RV S688 (vs678 4) x48 := (hA651.at_ 4 rfl _ rfl).2
       obtain ⟨u170, hu170⟩ : ∃ u, vs678 4 = u := ⟨_, rfl⟩
       rw [hu170] at q1091 r80
       obtain ⟨z122, m122, k122, e374⟩ := rv_form r80
       subst e374
       have q1092 : f 79 = (Value.int .i64 (x49)) := vt (hA651.at_ 8 rfl _ rfl) rfl
       have q1093 : f 80 = (elemPtr (vs678 4) (x49) (Enc.sz Edge)) := vt (hA651.at_ 9 rfl _ rfl) rfl
       simp only [hu170] at q1093
       have q1093 : f 80 = (elemPtr (Value.slice z122 m122 k122) (x49) (Enc.sz Edge)) := q1093
       have q1094 : f 81 = (fieldPtr (elemPtr (vs678 4) (x49) (Enc.sz Edge)) 3) := vt (hA651.at_ 10 rfl _ rfl) rfl
       simp only [hu170] at q1094
       have q1094 : f 81 = (fieldPtr (elemPtr (Value.slice z122 m122 k122) (x49) (Enc.sz Edge)) 3) := q1094
       refine opg_plain rfl rfl (op_load_int (v := (fieldPtr (elemPtr (Value.slice z122 m122 k122) (x49) (Enc.sz Edge)) 3)) (e := x50.To) rfl sh3 q1094 ((r80.elem I705.in_ hx50).fld Edge.fld1) ?_)
       refine ⟨_, _, rfl, PH.Le.refl _, ?_, ?_⟩
       ·
        exact rfl
       ·
        exact I705
      ·
       intro vs679 f w696 S689 X652 le689 hA652 hK679 hI680
       have I706 : Inv w696 S689 (X652) := hI680
       have q1095 : f 82 = (Value.int .i64 (x50.To)) := vt (hA652.at_ 11 rfl _ rfl) rfl
       refine opg_plain rfl rfl (op_assign (v := (Value.int .i64 (x50.To))) rfl q1095 ?_)
       refine ⟨_, _, rfl, PH.Le.refl _, ?_, ?_⟩
       ·
        exact rfl
       ·
        exact I706
      ·
       intro vs680 f w697 S690 le690 hF28 hK680 hI681
       have e375 : f 1 = (Value.slice z3 m3 k3) := (hK680 1 (keep_all rfl)).trans e361
       have e376 : f 3 = (Value.pointer (some ⟨g1, 0, none⟩)) := (hK680 3 (keep_all rfl)).trans e362
       have e377 : f 5 = (Value.pointer (some ⟨g2, 0, none⟩)) := (hK680 5 (keep_all rfl)).trans e363
       have e378 : f 7 = (Value.slice z14 m14 k14) := (hK680 7 (keep_all rfl)).trans e364
       have e379 : f 8 = (Value.bool (x13.2.1)) := (hK680 8 (keep_all rfl)).trans e365
       have e380 : f 11 = (Value.int .i64 ((i1 : Int))) := (hK680 11 (keep_all rfl)).trans e367
       have I707 : Inv w697 S690 (Row (α := Int) 3 (Value.slice z14 m14 k14) (x13.1) :: Fr) := hI681
       have q1096 : f 10 = (Value.int .i64 (x50.To)) := vt (hF28.at_ 12 rfl _ rfl) rfl
       refine wp_region' ?_
       refine wl_op rfl (op_move (v := (Value.int .i64 ((i1 : Int)))) rfl e380 ?_)
       refine wl_op rfl (op_add (a := (i1 : Int)) (b := 1) rfl rfl rfl ?_)
       refine wl_op rfl (op_assign (v := (Value.int .i64 (w64 ((i1 : Int) + 1)))) rfl rfl ?_)
       refine wl_nil ?_
       obtain rfl := Option.some.inj h13
       exact ⟨_, rfl, _, ((le519.trans le676).trans le690), I707, e375, e376, e377, e378, e379, q1096, (idx_next hlt1 hk1)⟩
    ·
     rintro s2 f w hs1 hI682
     obtain ⟨S691, le691, I708, e381, e382, e383, e384, e385, e386, e387⟩ := hI682
     refine wp_seq' ?_
     refine wp_seq' ?_
     refine wp_region' ?_
     refine wl_op rfl (op_move (v := (Value.int .i64 ((x13.1.length : Int)))) rfl e387 ?_)
     refine wl_op rfl (op_move (v := (Value.slice z14 m14 k14)) rfl e384 ?_)
     refine wl_op rfl (op_len_row (α := Int) rfl Try.underlying26 rfl (I708.nth 0 rfl) ?_)
     refine wl_op rfl (op_lss (a := (x13.1.length : Int)) (b := (x13.1.length : Int)) rfl rfl rfl ?_)
     refine wl_nil ?_
     refine wp_cond_f (b := decide ((x13.1.length : Int) < (x13.1.length : Int))) rfl (len_f _) ?_
     refine wp_exit' ?_
     exact ⟨s2, hs1, _, le691, I708, e381, e382, e383, e384, e385, e386⟩
   ·
    rintro f w ⟨out1, rfl, S692, le692, I709, e388, e389, e390, e391, e392, e393⟩
    have h := onL_inl h
    obtain ⟨ov7, h19, h⟩ := bnd h
    refine wp_cut (fun f w => ∃ v7, ov7 = Sum.inl v7 ∧ Inv w S692 (Row (α := Int) 3 (Value.slice z14 m14 k14) (x13.1) :: Fr) ∧ f 1 = (Value.slice z3 m3 k3) ∧ f 7 = (Value.slice z14 m14 k14) ∧ f 8 = (Value.bool (x13.2.1))) ?_ ?_
    ·
     refine wp_seq' ?_
     refine wp_region' ?_
     refine wl_op rfl (op_move (v := (Value.bool (x13.2.1))) rfl e392 ?_)
     refine wl_op rfl (op_move (v := (Value.slice z3 m3 k3)) rfl e388 ?_)
     refine wl_op rfl (op_move (v := (Value.int .i64 (out1))) rfl e393 ?_)
     obtain ⟨x53, hx53, h19⟩ := bnd h19
     refine wl_op rfl (op_indexAddr_rv (v := (Value.slice z3 m3 k3)) (i := out1) (e := x53) rfl Try.underlying26 sh3 rfl (h1_.mono (((le1.trans le2).trans le3).trans le692)) rfl hx53 ?_)
     refine wl_op rfl (op_load_int (v := (elemPtr (Value.slice z3 m3 k3) (out1) (Enc.sz Int))) (e := x53) rfl sh3 rfl ((h1_.mono (((le1.trans le2).trans le3).trans le692)).elem I709.in_ hx53) ?_)
     refine wl_op rfl (op_eql (a := x53) (b := 0) rfl rfl rfl ?_)
     refine wl_op rfl (op_bneq (a := x13.2.1) (b := x53 == 0) rfl Try.underlying4 rfl rfl ?_)
     refine wl_op rfl (op_move (v := (Value.bool (x13.2.1 != (x53 == 0)))) rfl rfl ?_)
     rcases ifs h19 with ⟨hc37, h19⟩ | ⟨hc37, h19⟩
     ·
      refine wl_skip (c := x13.2.1 != (x53 == 0)) rfl rfl rfl rfl hc37 rfl ?_
      refine wl_skip (c := x13.2.1 != (x53 == 0)) rfl rfl rfl rfl hc37 rfl ?_
      refine wl_skip (c := x13.2.1 != (x53 == 0)) rfl rfl rfl rfl hc37 rfl ?_
      refine wl_skip (c := x13.2.1 != (x53 == 0)) rfl rfl rfl rfl hc37 rfl ?_
      refine wl_skip (c := x13.2.1 != (x53 == 0)) rfl rfl rfl rfl hc37 rfl ?_
      refine wl_op rfl (op_pick_t (c := x13.2.1 != (x53 == 0)) (a := (Value.bool (true))) rfl rfl hc37 rfl ?_)
      refine wl_op rfl (op_move (v := (Value.bool (true))) rfl rfl ?_)
      refine wl_skip (c := true) rfl rfl rfl rfl rfl rfl ?_
      refine wl_skip (c := true) rfl rfl rfl rfl rfl rfl ?_
      refine wl_skip (c := true) rfl rfl rfl rfl rfl rfl ?_
      refine wl_skip_u rfl rfl rfl rfl rfl ?_
      refine wl_skip_u rfl rfl rfl rfl rfl ?_
      refine wl_skip_u rfl rfl rfl rfl rfl ?_
      refine wl_skip_u rfl rfl rfl rfl rfl ?_
      refine wl_skip_u rfl rfl rfl rfl rfl ?_
      refine wl_skip (c := true) rfl rfl rfl rfl rfl rfl ?_
      refine wl_skip (c := true) rfl rfl rfl rfl rfl rfl ?_
      refine wl_skip_u rfl rfl rfl rfl rfl ?_
      refine wl_skip_u rfl rfl rfl rfl rfl ?_
      refine wl_skip_u rfl rfl rfl rfl rfl ?_
      refine wl_skip_u rfl rfl rfl rfl rfl ?_
      refine wl_skip_u rfl rfl rfl rfl rfl ?_
      refine wl_skip_u rfl rfl rfl rfl rfl ?_
      refine wl_skip_u rfl rfl rfl rfl rfl ?_
      refine wl_skip (c := true) rfl rfl rfl rfl rfl rfl ?_
      refine wl_op rfl (op_pick_t (c := true) (a := (Value.bool (true))) rfl rfl rfl rfl ?_)
      refine wl_nil ?_
      refine wp_cond_t (b := true) rfl rfl ?_
      refine wp_seq' ?_
      refine wp_region' ?_
      refine wl_op rfl (op_assign (v := (Value.bool (false))) rfl rfl ?_)
      refine wl_nil ?_
      refine wp_ret' ?_
      obtain rfl := Option.some.inj h19
      have h20 := h
      obtain rfl := Option.some.inj h20
      exact ⟨(Value.bool (false)), (res1 rfl rfl), _, [], (((le1.trans le2).trans le3).trans le692), (I709).drop, rfl, rfl⟩
     ·
      refine wl_taken (c := x13.2.1 != (x53 == 0)) rfl rfl rfl rfl hc37 (op_move (v := (Value.slice z14 m14 k14)) rfl e391 ?_)
      refine wl_taken (c := x13.2.1 != (x53 == 0)) rfl rfl rfl rfl hc37 (op_len_row (α := Int) rfl Try.underlying26 rfl (I709.nth 0 rfl) ?_)
      refine wl_taken (c := x13.2.1 != (x53 == 0)) rfl rfl rfl rfl hc37 (op_fieldAddr_t (v := (Value.pointer (some ⟨g2, 0, none⟩))) rfl fa30_1 e390 ((p2.mono (le3.trans le692)).at_ I709) ?_)
      refine wl_taken (c := x13.2.1 != (x53 == 0)) rfl rfl rfl rfl hc37 (op_load_int (v := (fieldPtr (Value.pointer (some ⟨g2, 0, none⟩)) 2)) (e := a2.Most) rfl sh3 rfl (((p2.mono (le3.trans le692)).at_ I709).fld Law06_Run.fld1) ?_)
      refine wl_taken (c := x13.2.1 != (x53 == 0)) rfl rfl rfl rfl hc37 (op_gtr (a := (x13.1.length : Int)) (b := a2.Most) rfl rfl rfl ?_)
      refine wl_op rfl (op_pick_f (c := x13.2.1 != (x53 == 0)) (b := (Value.bool (decide (a2.Most < (x13.1.length : Int))))) rfl rfl hc37 rfl ?_)
      refine wl_op rfl (op_move (v := (Value.bool (decide (a2.Most < (x13.1.length : Int))))) rfl rfl ?_)
      rcases ifs h19 with ⟨hc38, h19⟩ | ⟨hc38, h19⟩
      ·
       refine wl_skip (c := decide (a2.Most < (x13.1.length : Int))) rfl rfl rfl rfl hc38 rfl ?_
       refine wl_skip (c := decide (a2.Most < (x13.1.length : Int))) rfl rfl rfl rfl hc38 rfl ?_
       refine wl_skip (c := decide (a2.Most < (x13.1.length : Int))) rfl rfl rfl rfl hc38 rfl ?_
       refine wl_skip_u rfl rfl rfl rfl rfl ?_
       refine wl_skip_u rfl rfl rfl rfl rfl ?_
       refine wl_skip_u rfl rfl rfl rfl rfl ?_
       refine wl_skip_u rfl rfl rfl rfl rfl ?_
       refine wl_skip_u rfl rfl rfl rfl rfl ?_
       refine wl_skip (c := decide (a2.Most < (x13.1.length : Int))) rfl rfl rfl rfl hc38 rfl ?_
       refine wl_skip (c := decide (a2.Most < (x13.1.length : Int))) rfl rfl rfl rfl hc38 rfl ?_
       refine wl_skip_u rfl rfl rfl rfl rfl ?_
       refine wl_skip_u rfl rfl rfl rfl rfl ?_
       refine wl_skip_u rfl rfl rfl rfl rfl ?_
       refine wl_skip_u rfl rfl rfl rfl rfl ?_
       refine wl_skip_u rfl rfl rfl rfl rfl ?_
       refine wl_skip_u rfl rfl rfl rfl rfl ?_
       refine wl_skip_u rfl rfl rfl rfl rfl ?_
       refine wl_skip (c := decide (a2.Most < (x13.1.length : Int))) rfl rfl rfl rfl hc38 rfl ?_
       refine wl_op rfl (op_pick_t (c := decide (a2.Most < (x13.1.length : Int))) (a := (Value.bool (true))) rfl rfl hc38 rfl ?_)
       refine wl_nil ?_
       refine wp_cond_t (b := true) rfl rfl ?_
       refine wp_seq' ?_
       refine wp_region' ?_
       refine wl_op rfl (op_assign (v := (Value.bool (false))) rfl rfl ?_)
       refine wl_nil ?_
       refine wp_ret' ?_
       obtain rfl := Option.some.inj h19
       have h20 := h
       obtain rfl := Option.some.inj h20
       exact ⟨(Value.bool (false)), (res1 rfl rfl), _, [], (((le1.trans le2).trans le3).trans le692), (I709).drop, rfl, rfl⟩
      ·
       refine wl_taken (c := decide (a2.Most < (x13.1.length : Int))) rfl rfl rfl rfl hc38 (op_move (v := (Value.bool (x13.2.1))) rfl e392 ?_)
       refine wl_taken (c := decide (a2.Most < (x13.1.length : Int))) rfl rfl rfl rfl hc38 (op_not (b := x13.2.1) rfl rfl ?_)
       refine wl_taken (c := decide (a2.Most < (x13.1.length : Int))) rfl rfl rfl rfl hc38 (op_move (v := (Value.bool (!x13.2.1))) rfl rfl ?_)
       rcases ifs h19 with ⟨hc39, h19⟩ | ⟨hc39, h19⟩
       ·
        refine wl_taken (c := !x13.2.1) rfl rfl rfl rfl hc39 (op_move (v := (Value.slice z14 m14 k14)) rfl e391 ?_)
        refine wl_taken (c := !x13.2.1) rfl rfl rfl rfl hc39 (op_len_row (α := Int) rfl Try.underlying26 rfl (I709.nth 0 rfl) ?_)
        refine wl_taken (c := !x13.2.1) rfl rfl rfl rfl hc39 (op_fieldAddr_t (v := (Value.pointer (some ⟨g2, 0, none⟩))) rfl fa30_1 e390 ((p2.mono (le3.trans le692)).at_ I709) ?_)
        refine wl_taken (c := !x13.2.1) rfl rfl rfl rfl hc39 (op_load_int (v := (fieldPtr (Value.pointer (some ⟨g2, 0, none⟩)) 2)) (e := a2.Most) rfl sh3 rfl (((p2.mono (le3.trans le692)).at_ I709).fld Law06_Run.fld1) ?_)
        refine wl_taken (c := !x13.2.1) rfl rfl rfl rfl hc39 (op_lss (a := (x13.1.length : Int)) (b := a2.Most) rfl rfl rfl ?_)
        refine wl_taken (c := decide (a2.Most < (x13.1.length : Int))) rfl rfl rfl rfl hc38 (op_pick_t (c := !x13.2.1) (a := (Value.bool (decide ((x13.1.length : Int) < a2.Most)))) rfl rfl hc39 rfl ?_)
        refine wl_taken (c := decide (a2.Most < (x13.1.length : Int))) rfl rfl rfl rfl hc38 (op_move (v := (Value.bool (decide ((x13.1.length : Int) < a2.Most)))) rfl rfl ?_)
        rcases ifs h19 with ⟨hc40, h19⟩ | ⟨hc40, h19⟩
        ·
         refine wl_taken (c := decide ((x13.1.length : Int) < a2.Most)) rfl rfl rfl rfl hc40 (op_fieldAddr_t (v := (Value.pointer (some ⟨g1, 0, none⟩))) rfl fa25_1 e389 ((p1.mono ((le2.trans le3).trans le692)).at_ I709) ?_)
         refine wl_taken (c := decide ((x13.1.length : Int) < a2.Most)) rfl rfl rfl rfl hc40 (op_load (v := (fieldPtr (Value.pointer (some ⟨g1, 0, none⟩)) 1)) (e := a0.Edges) rfl sh23 rfl (((p1.mono ((le2.trans le3).trans le692)).at_ I709).fld Graph.fld1) (fun u173 hu173 => ?_))
         obtain ⟨z125, m125, k125, e396⟩ := rv_form hu173
         subst e396
         refine wl_taken (c := decide ((x13.1.length : Int) < a2.Most)) rfl rfl rfl rfl hc40 (op_move (v := (Value.int .i64 (out1))) rfl e393 ?_)
         obtain ⟨x54, hx54, h19⟩ := bnd h19
         refine wl_taken (c := decide ((x13.1.length : Int) < a2.Most)) rfl rfl rfl rfl hc40 (op_indexAddr_rv (v := (Value.slice z125 m125 k125)) (i := out1) (e := x54) rfl Try.underlying23 sh40 rfl hu173 rfl hx54 ?_)
         refine wl_taken (c := decide ((x13.1.length : Int) < a2.Most)) rfl rfl rfl rfl hc40 (op_load (v := (elemPtr (Value.slice z125 m125 k125) (out1) (Enc.sz (List Edge)))) (e := x54) rfl sh40 rfl (hu173.elem I709.in_ hx54) (fun u174 hu174 => ?_))
         obtain ⟨z126, m126, k126, e397⟩ := rv_form hu174
         subst e397
         refine wl_taken (c := decide ((x13.1.length : Int) < a2.Most)) rfl rfl rfl rfl hc40 (op_len_rv rfl Try.underlying40 rfl hu174 ?_)
         refine wl_taken (c := decide ((x13.1.length : Int) < a2.Most)) rfl rfl rfl rfl hc40 (op_gtr (a := (x54.length : Int)) (b := 0) rfl rfl rfl ?_)
         refine wl_taken (c := decide (a2.Most < (x13.1.length : Int))) rfl rfl rfl rfl hc38 (op_pick_t (c := decide ((x13.1.length : Int) < a2.Most)) (a := (Value.bool (decide (0 < (x54.length : Int))))) rfl rfl hc40 rfl ?_)
         refine wl_op rfl (op_pick_f (c := decide (a2.Most < (x13.1.length : Int))) (b := (Value.bool (decide (0 < (x54.length : Int))))) rfl rfl hc38 rfl ?_)
         refine wl_nil ?_
         rcases ifs h19 with ⟨hc41, h19⟩ | ⟨hc41, h19⟩
         ·
          refine wp_cond_t (b := decide (0 < (x54.length : Int))) rfl hc41 ?_
          refine wp_seq' ?_
          refine wp_region' ?_
          refine wl_op rfl (op_assign (v := (Value.bool (false))) rfl rfl ?_)
          refine wl_nil ?_
          refine wp_ret' ?_
          obtain rfl := Option.some.inj h19
          have h20 := h
          obtain rfl := Option.some.inj h20
          exact ⟨(Value.bool (false)), (res1 rfl rfl), _, [], (((le1.trans le2).trans le3).trans le692), (I709).drop, rfl, rfl⟩
         ·
          refine wp_cond_f (b := decide (0 < (x54.length : Int))) rfl hc41 ?_
          refine wp_skip' ?_
          obtain rfl := Option.some.inj h19
          exact ⟨_, rfl, I709, e388, e391, e392⟩
        ·
         refine wl_skip (c := decide ((x13.1.length : Int) < a2.Most)) rfl rfl rfl rfl hc40 rfl ?_
         refine wl_skip (c := decide ((x13.1.length : Int) < a2.Most)) rfl rfl rfl rfl hc40 rfl ?_
         refine wl_skip (c := decide ((x13.1.length : Int) < a2.Most)) rfl rfl rfl rfl hc40 rfl ?_
         refine wl_skip (c := decide ((x13.1.length : Int) < a2.Most)) rfl rfl rfl rfl hc40 rfl ?_
         refine wl_skip (c := decide ((x13.1.length : Int) < a2.Most)) rfl rfl rfl rfl hc40 rfl ?_
         refine wl_skip (c := decide ((x13.1.length : Int) < a2.Most)) rfl rfl rfl rfl hc40 rfl ?_
         refine wl_skip (c := decide ((x13.1.length : Int) < a2.Most)) rfl rfl rfl rfl hc40 rfl ?_
         refine wl_taken (c := decide (a2.Most < (x13.1.length : Int))) rfl rfl rfl rfl hc38 (op_pick_f (c := decide ((x13.1.length : Int) < a2.Most)) (b := (Value.bool (false))) rfl rfl hc40 rfl ?_)
         refine wl_op rfl (op_pick_f (c := decide (a2.Most < (x13.1.length : Int))) (b := (Value.bool (false))) rfl rfl hc38 rfl ?_)
         refine wl_nil ?_
         refine wp_cond_f (b := false) rfl rfl ?_
         refine wp_skip' ?_
         obtain rfl := Option.some.inj h19
         exact ⟨_, rfl, I709, e388, e391, e392⟩
       ·
        refine wl_skip (c := !x13.2.1) rfl rfl rfl rfl hc39 rfl ?_
        refine wl_skip (c := !x13.2.1) rfl rfl rfl rfl hc39 rfl ?_
        refine wl_skip (c := !x13.2.1) rfl rfl rfl rfl hc39 rfl ?_
        refine wl_skip (c := !x13.2.1) rfl rfl rfl rfl hc39 rfl ?_
        refine wl_skip (c := !x13.2.1) rfl rfl rfl rfl hc39 rfl ?_
        refine wl_taken (c := decide (a2.Most < (x13.1.length : Int))) rfl rfl rfl rfl hc38 (op_pick_f (c := !x13.2.1) (b := (Value.bool (false))) rfl rfl hc39 rfl ?_)
        refine wl_taken (c := decide (a2.Most < (x13.1.length : Int))) rfl rfl rfl rfl hc38 (op_move (v := (Value.bool (false))) rfl rfl ?_)
        refine wl_skip (c := false) rfl rfl rfl rfl rfl rfl ?_
        refine wl_skip (c := false) rfl rfl rfl rfl rfl rfl ?_
        refine wl_skip (c := false) rfl rfl rfl rfl rfl rfl ?_
        refine wl_skip (c := false) rfl rfl rfl rfl rfl rfl ?_
        refine wl_skip (c := false) rfl rfl rfl rfl rfl rfl ?_
        refine wl_skip (c := false) rfl rfl rfl rfl rfl rfl ?_
        refine wl_skip (c := false) rfl rfl rfl rfl rfl rfl ?_
        refine wl_taken (c := decide (a2.Most < (x13.1.length : Int))) rfl rfl rfl rfl hc38 (op_pick_f (c := false) (b := (Value.bool (false))) rfl rfl rfl rfl ?_)
        refine wl_op rfl (op_pick_f (c := decide (a2.Most < (x13.1.length : Int))) (b := (Value.bool (false))) rfl rfl hc38 rfl ?_)
        refine wl_nil ?_
        refine wp_cond_f (b := false) rfl rfl ?_
        refine wp_skip' ?_
        obtain rfl := Option.some.inj h19
        exact ⟨_, rfl, I709, e388, e391, e392⟩
    ·
     rintro f w ⟨v7, rfl, I710, e398, e399, e400⟩
     have h := onL_inl h
     refine wp_seq' ?_
     refine wp_region' ?_
     refine wl_op rfl (op_move (v := (Value.bool (x13.2.1))) rfl e400 ?_)
     refine wl_op rfl (op_not (b := x13.2.1) rfl rfl ?_)
     refine wl_op rfl (op_move (v := (Value.bool (!x13.2.1))) rfl rfl ?_)
     rcases ifs h with ⟨hc42, h⟩ | ⟨hc42, h⟩
     ·
      refine wl_skip (c := !x13.2.1) rfl rfl rfl rfl hc42 rfl ?_
      refine wl_skip (c := !x13.2.1) rfl rfl rfl rfl hc42 rfl ?_
      refine wl_skip (c := !x13.2.1) rfl rfl rfl rfl hc42 rfl ?_
      refine wl_skip (c := !x13.2.1) rfl rfl rfl rfl hc42 rfl ?_
      refine wl_skip (c := !x13.2.1) rfl rfl rfl rfl hc42 rfl ?_
      refine wl_skip_u rfl rfl rfl rfl rfl ?_
      refine wl_skip_u rfl rfl rfl rfl rfl ?_
      refine wl_skip_u rfl rfl rfl rfl rfl ?_
      refine wl_skip_u rfl rfl rfl rfl rfl ?_
      refine wl_skip_u rfl rfl rfl rfl rfl ?_
      refine wl_skip_u rfl rfl rfl rfl rfl ?_
      refine wl_skip (c := !x13.2.1) rfl rfl rfl rfl hc42 rfl ?_
      refine wl_op rfl (op_pick_t (c := !x13.2.1) (a := (Value.bool (true))) rfl rfl hc42 rfl ?_)
      refine wl_op rfl (op_move (v := (Value.bool (true))) rfl rfl ?_)
      obtain ⟨x55, hx55, h⟩ := bnd h
      refine wl_taken (c := true) rfl rfl rfl rfl rfl (op_call_v (vs := []) (r := (Value.bool (x55))) rfl ca17 rfl args0 I710 (fun Fr_ hF_ => F17_ok hF_  hx55) (fun w698 I711 => ?_))
      refine wl_op rfl (op_pick_t (c := true) (a := (Value.bool (x55))) rfl rfl rfl rfl ?_)
      refine wl_op rfl (op_assign (v := (Value.bool (x55))) rfl rfl ?_)
      refine wl_nil ?_
      refine wp_ret' ?_
      obtain rfl := Option.some.inj h
      exact ⟨(Value.bool (x55)), (res1 rfl rfl), _, [], (((le1.trans le2).trans le3).trans le692), (I711).drop, rfl, rfl⟩
     ·
      refine wl_taken (c := !x13.2.1) rfl rfl rfl rfl hc42 (op_move (v := (Value.slice z3 m3 k3)) rfl e398 ?_)
      obtain ⟨x56, hx56, h⟩ := bnd h
      refine wl_taken (c := !x13.2.1) rfl rfl rfl rfl hc42 (op_indexAddr_rv (v := (Value.slice z3 m3 k3)) (i := 0) (e := x56) rfl Try.underlying26 sh3 rfl (h1_.mono (((le1.trans le2).trans le3).trans le692)) rfl hx56 ?_)
      refine wl_taken (c := !x13.2.1) rfl rfl rfl rfl hc42 (op_load_int (v := (elemPtr (Value.slice z3 m3 k3) (0) (Enc.sz Int))) (e := x56) rfl sh3 rfl ((h1_.mono (((le1.trans le2).trans le3).trans le692)).elem I710.in_ hx56) ?_)
      refine wl_taken (c := !x13.2.1) rfl rfl rfl rfl hc42 (op_geq (a := x56) (b := 0) rfl rfl rfl ?_)
      refine wl_taken (c := !x13.2.1) rfl rfl rfl rfl hc42 (op_move (v := (Value.bool (decide (0 ≤ x56)))) rfl rfl ?_)
      rcases ifs h with ⟨hc43, h⟩ | ⟨hc43, h⟩
      ·
       refine wl_taken (c := decide (0 ≤ x56)) rfl rfl rfl rfl hc43 (op_move (v := (Value.slice z14 m14 k14)) rfl e399 ?_)
       refine wl_taken (c := decide (0 ≤ x56)) rfl rfl rfl rfl hc43 (op_len_row (α := Int) rfl Try.underlying26 rfl (I710.nth 0 rfl) ?_)
       refine wl_taken (c := decide (0 ≤ x56)) rfl rfl rfl rfl hc43 (op_move (v := (Value.slice z3 m3 k3)) rfl e398 ?_)
       obtain ⟨x57, hx57, h⟩ := bnd h
       refine wl_taken (c := decide (0 ≤ x56)) rfl rfl rfl rfl hc43 (op_indexAddr_rv (v := (Value.slice z3 m3 k3)) (i := 0) (e := x57) rfl Try.underlying26 sh3 rfl (h1_.mono (((le1.trans le2).trans le3).trans le692)) rfl hx57 ?_)
       refine wl_taken (c := decide (0 ≤ x56)) rfl rfl rfl rfl hc43 (op_load_int (v := (elemPtr (Value.slice z3 m3 k3) (0) (Enc.sz Int))) (e := x57) rfl sh3 rfl ((h1_.mono (((le1.trans le2).trans le3).trans le692)).elem I710.in_ hx57) ?_)
       refine wl_taken (c := decide (0 ≤ x56)) rfl rfl rfl rfl hc43 (op_geq (a := (x13.1.length : Int)) (b := x57) rfl rfl rfl ?_)
       refine wl_taken (c := !x13.2.1) rfl rfl rfl rfl hc42 (op_pick_t (c := decide (0 ≤ x56)) (a := (Value.bool (decide (x57 ≤ (x13.1.length : Int))))) rfl rfl hc43 rfl ?_)
       refine wl_op rfl (op_pick_f (c := !x13.2.1) (b := (Value.bool (decide (x57 ≤ (x13.1.length : Int))))) rfl rfl hc42 rfl ?_)
       refine wl_op rfl (op_move (v := (Value.bool (decide (x57 ≤ (x13.1.length : Int))))) rfl rfl ?_)
       rcases ifs h with ⟨hc44, h⟩ | ⟨hc44, h⟩
       ·
        obtain ⟨x58, hx58, h⟩ := bnd h
        refine wl_taken (c := decide (x57 ≤ (x13.1.length : Int))) rfl rfl rfl rfl hc44 (op_call_v (vs := []) (r := (Value.bool (x58))) rfl ca17 rfl args0 I710 (fun Fr_ hF_ => F17_ok hF_  hx58) (fun w699 I712 => ?_))
        refine wl_op rfl (op_pick_t (c := decide (x57 ≤ (x13.1.length : Int))) (a := (Value.bool (x58))) rfl rfl hc44 rfl ?_)
        refine wl_op rfl (op_assign (v := (Value.bool (x58))) rfl rfl ?_)
        refine wl_nil ?_
        refine wp_ret' ?_
        obtain rfl := Option.some.inj h
        exact ⟨(Value.bool (x58)), (res1 rfl rfl), _, [], (((le1.trans le2).trans le3).trans le692), (I712).drop, rfl, rfl⟩
       ·
        refine wl_skip (c := decide (x57 ≤ (x13.1.length : Int))) rfl rfl rfl rfl hc44 rfl ?_
        refine wl_op rfl (op_pick_f (c := decide (x57 ≤ (x13.1.length : Int))) (b := (Value.bool (false))) rfl rfl hc44 rfl ?_)
        refine wl_op rfl (op_assign (v := (Value.bool (false))) rfl rfl ?_)
        refine wl_nil ?_
        refine wp_ret' ?_
        obtain rfl := Option.some.inj h
        exact ⟨(Value.bool (false)), (res1 rfl rfl), _, [], (((le1.trans le2).trans le3).trans le692), (I710).drop, rfl, rfl⟩
      ·
       refine wl_skip (c := decide (0 ≤ x56)) rfl rfl rfl rfl hc43 rfl ?_
       refine wl_skip (c := decide (0 ≤ x56)) rfl rfl rfl rfl hc43 rfl ?_
       refine wl_skip (c := decide (0 ≤ x56)) rfl rfl rfl rfl hc43 rfl ?_
       refine wl_skip (c := decide (0 ≤ x56)) rfl rfl rfl rfl hc43 rfl ?_
       refine wl_skip (c := decide (0 ≤ x56)) rfl rfl rfl rfl hc43 rfl ?_
       refine wl_skip (c := decide (0 ≤ x56)) rfl rfl rfl rfl hc43 rfl ?_
       refine wl_taken (c := !x13.2.1) rfl rfl rfl rfl hc42 (op_pick_f (c := decide (0 ≤ x56)) (b := (Value.bool (false))) rfl rfl hc43 rfl ?_)
       refine wl_op rfl (op_pick_f (c := !x13.2.1) (b := (Value.bool (false))) rfl rfl hc42 rfl ?_)
       refine wl_op rfl (op_move (v := (Value.bool (false))) rfl rfl ?_)
       refine wl_skip (c := false) rfl rfl rfl rfl rfl rfl ?_
       refine wl_op rfl (op_pick_f (c := false) (b := (Value.bool (false))) rfl rfl rfl rfl ?_)
       refine wl_op rfl (op_assign (v := (Value.bool (false))) rfl rfl ?_)
       refine wl_nil ?_
       refine wp_ret' ?_
       obtain rfl := Option.some.inj h
       exact ⟨(Value.bool (false)), (res1 rfl rfl), _, [], (((le1.trans le2).trans le3).trans le692), (I710).drop, rfl, rfl⟩
end Go.Proofs.Ytogfongmnkmegaa.Pad
