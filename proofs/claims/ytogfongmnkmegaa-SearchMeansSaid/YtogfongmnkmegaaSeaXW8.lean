/- A part of the proof: what the functions of the program compute, shown over the model. -/
import Derived.Test.YtogfongmnkmegaaSeaXP
import Derived.Test.YtogfongmnkmegaaSeaXW4
import Derived.KernelRfl
set_option linter.unusedVariables false
namespace Go.Proofs.Ytogfongmnkmegaa.Pad
open Go Go.Proofs
set_option maxHeartbeats 4000000 in
set_option maxRecDepth 100000 in
theorem F47_ok {w : World} {S : PH} {Fr : List HP} {a0 : Graph} {v0 : Value} {a1 : (List Int)} {v1 : Value} {a2 : Mind} {v2 : Value} {a3 : Int} {r : Int} (hI : Inv w S (Fr)) (h0_ : RV S v0 a0) (h1_ : RV S v1 a1) (h2_ : RV S v2 a2) (h : F47 a0 a1 a2 a3 = some r) :
    Calls Try.prog 47 [v0, v1, v2, (Value.int .i64 (a3))].toArray w (DoneV S Fr (Value.int .i64 (r))) := by
 unfold F47 at h
 obtain ⟨c1, c2, e1, r1, r2⟩ := Graph.inv h0_
 subst e1
 obtain ⟨z1, m1, k1, e2⟩ := rv_form r1
 subst e2
 obtain ⟨z2, m2, k2, e3⟩ := rv_form r2
 subst e3
 obtain ⟨z3, m3, k3, e4⟩ := rv_form h1_
 subst e4
 have e5 := Mind.inv h2_
 subst e5
 refine calls_enter (n := 31) (vs := [(Value.agg #[(Value.slice z1 m1 k1), (Value.slice z2 m2 k2)]), (Value.slice z3 m3 k3), (Value.agg #[(Value.int .i64 (a2.Memory)), (Value.int .i64 (a2.Turn))]), (Value.int .i64 (a3))]) Try.func47 rfl rfl rfl ?_
 refine wp_seq' ?_
 refine wp_region' ?_
 refine wl_op rfl (op_box (v := (Value.agg #[(Value.slice z1 m1 k1), (Value.slice z2 m2 k2)])) rfl hI rfl (fun g1 w1 I1 => ?_))
 obtain ⟨S1, le1, I2, p1⟩ := Inv.boxFreeze (x := a0) I1 (Graph.rv (s := a0) r1 r2)
 refine wl_op rfl (op_box (v := (Value.agg #[(Value.int .i64 (a2.Memory)), (Value.int .i64 (a2.Turn))])) rfl I2 rfl (fun g2 w2 I3 => ?_))
 obtain ⟨S2, le2, I4, p2⟩ := Inv.boxFreeze (x := a2) I3 (Mind.rv (s := a2))
 refine wl_op rfl (op_assign (v := (Value.int .i64 (0))) rfl rfl ?_)
 refine wl_nil ?_
 refine wp_seq' ?_
 refine wp_seq' ?_
 refine wp_region' ?_
 refine wl_op rfl (op_load (v := (Value.pointer (some ⟨g1, 0, none⟩))) (e := a0) rfl sh25 rfl ((p1.mono le2).at_ I4) (fun u1 hu1 => ?_))
 obtain ⟨c3, c4, e6, r3, r4⟩ := Graph.inv hu1
 subst e6
 obtain ⟨z4, m4, k4, e7⟩ := rv_form r3
 subst e7
 obtain ⟨z5, m5, k5, e8⟩ := rv_form r4
 subst e8
 refine wl_op rfl (op_move (v := (Value.slice z3 m3 k3)) rfl rfl ?_)
 obtain ⟨x1, hx1, h⟩ := bnd h
 refine wl_op rfl (op_call_v (vs := [(Value.agg #[(Value.slice z4 m4 k4), (Value.slice z5 m5 k5)]), (Value.slice z3 m3 k3)]) (r := (Value.int .i64 (x1))) rfl ca21 rfl (args2 rfl rfl) I4 (fun Fr_ hF_ => F21_ok hF_ (Graph.rv (s := a0) r3 r4) (h1_.mono (le1.trans le2)) hx1) (fun w3 I5 => ?_))
 refine wl_op rfl (op_assign (v := (Value.int .i64 (x1))) rfl rfl ?_)
 refine wl_nil ?_
 refine wp_seq' ?_
 refine wp_region' ?_
 refine wl_op rfl (op_move (v := (Value.int .i64 (x1))) rfl rfl ?_)
 refine wl_op rfl (op_neq (a := x1) (b := 0) rfl rfl rfl ?_)
 refine wl_nil ?_
 rcases ifs h with ⟨hc1, h⟩ | ⟨hc1, h⟩
 ·
  refine wp_cond_t (b := x1 != 0) rfl hc1 ?_
  refine wp_seq' ?_
  refine wp_region' ?_
  refine wl_op rfl (op_move (v := (Value.int .i64 (x1))) rfl rfl ?_)
  refine wl_op rfl (op_assign (v := (Value.int .i64 (x1))) rfl rfl ?_)
  refine wl_nil ?_
  refine wp_ret' ?_
  obtain rfl := Option.some.inj h
  exact ⟨(Value.int .i64 (x1)), (res1 rfl rfl), _, [], (le1.trans le2), I5, rfl, rfl⟩
 ·
  refine wp_cond_f (b := x1 != 0) rfl hc1 ?_
  refine wp_skip' ?_
  refine wp_seq' ?_
  refine wp_seq' ?_
  refine wp_region' ?_
  refine wl_op rfl (op_fieldAddr_t (v := (Value.pointer (some ⟨g2, 0, none⟩))) rfl fa28_0 rfl (p2.at_ I5) ?_)
  refine wl_op rfl (op_load_int (v := (fieldPtr (Value.pointer (some ⟨g2, 0, none⟩)) 0)) (e := a2.Memory) rfl sh3 rfl ((p2.at_ I5).fld Mind.fld0) ?_)
  obtain ⟨x2, hx2, h⟩ := bnd h
  refine wl_op rfl (op_call_v (vs := [(Value.int .i64 (a2.Memory)), (Value.int .i64 (0)), (Value.int .i64 (200))]) (r := (Value.bool (x2))) rfl ca49 rfl (args3 rfl rfl rfl) I5 (fun Fr_ hF_ => F49_ok hF_  hx2) (fun w4 I6 => ?_))
  refine wl_op rfl (op_not (b := x2) rfl rfl ?_)
  refine wl_op rfl (op_move (v := (Value.bool (!x2))) rfl rfl ?_)
  rcases ifs h with ⟨hc2, h⟩ | ⟨hc2, h⟩
  ·
   refine wl_skip (c := !x2) rfl rfl rfl rfl hc2 rfl ?_
   refine wl_skip (c := !x2) rfl rfl rfl rfl hc2 rfl ?_
   refine wl_skip (c := !x2) rfl rfl rfl rfl hc2 rfl ?_
   refine wl_skip (c := !x2) rfl rfl rfl rfl hc2 rfl ?_
   refine wl_op rfl (op_pick_t (c := !x2) (a := (Value.bool (true))) rfl rfl hc2 rfl ?_)
   refine wl_op rfl (op_move (v := (Value.bool (true))) rfl rfl ?_)
   refine wl_skip (c := true) rfl rfl rfl rfl rfl rfl ?_
   refine wl_skip (c := true) rfl rfl rfl rfl rfl rfl ?_
   refine wl_skip (c := true) rfl rfl rfl rfl rfl rfl ?_
   refine wl_op rfl (op_pick_t (c := true) (a := (Value.bool (true))) rfl rfl rfl rfl ?_)
   refine wl_nil ?_
   refine wp_cond_t (b := true) rfl rfl ?_
   refine wp_seq' ?_
   refine wp_region' ?_
   refine wl_op rfl (op_assign (v := (Value.int .i64 (1))) rfl rfl ?_)
   refine wl_nil ?_
   refine wp_ret' ?_
   obtain rfl := Option.some.inj h
   exact ⟨(Value.int .i64 (1)), (res1 rfl rfl), _, [], (le1.trans le2), I6, rfl, rfl⟩
  ·
   refine wl_taken (c := !x2) rfl rfl rfl rfl hc2 (op_fieldAddr_t (v := (Value.pointer (some ⟨g2, 0, none⟩))) rfl fa28_1 rfl (p2.at_ I6) ?_)
   refine wl_taken (c := !x2) rfl rfl rfl rfl hc2 (op_load_int (v := (fieldPtr (Value.pointer (some ⟨g2, 0, none⟩)) 1)) (e := a2.Turn) rfl sh3 rfl ((p2.at_ I6).fld Mind.fld1) ?_)
   obtain ⟨x3, hx3, h⟩ := bnd h
   refine wl_taken (c := !x2) rfl rfl rfl rfl hc2 (op_call_v (vs := [(Value.int .i64 (a2.Turn)), (Value.int .i64 (0)), (Value.int .i64 (99))]) (r := (Value.bool (x3))) rfl ca49 rfl (args3 rfl rfl rfl) I6 (fun Fr_ hF_ => F49_ok hF_  hx3) (fun w5 I7 => ?_))
   refine wl_taken (c := !x2) rfl rfl rfl rfl hc2 (op_not (b := x3) rfl rfl ?_)
   refine wl_op rfl (op_pick_f (c := !x2) (b := (Value.bool (!x3))) rfl rfl hc2 rfl ?_)
   refine wl_op rfl (op_move (v := (Value.bool (!x3))) rfl rfl ?_)
   rcases ifs h with ⟨hc3, h⟩ | ⟨hc3, h⟩
   ·
    refine wl_skip (c := !x3) rfl rfl rfl rfl hc3 rfl ?_
    refine wl_skip (c := !x3) rfl rfl rfl rfl hc3 rfl ?_
    refine wl_skip (c := !x3) rfl rfl rfl rfl hc3 rfl ?_
    refine wl_op rfl (op_pick_t (c := !x3) (a := (Value.bool (true))) rfl rfl hc3 rfl ?_)
    refine wl_nil ?_
    refine wp_cond_t (b := true) rfl rfl ?_
    refine wp_seq' ?_
    refine wp_region' ?_
    refine wl_op rfl (op_assign (v := (Value.int .i64 (1))) rfl rfl ?_)
    refine wl_nil ?_
    refine wp_ret' ?_
    obtain rfl := Option.some.inj h
    exact ⟨(Value.int .i64 (1)), (res1 rfl rfl), _, [], (le1.trans le2), I7, rfl, rfl⟩
   ·
    refine wl_taken (c := !x3) rfl rfl rfl rfl hc3 (op_move (v := (Value.int .i64 (a3))) rfl rfl ?_)
    obtain ⟨x4, hx4, h⟩ := bnd h
    refine wl_taken (c := !x3) rfl rfl rfl rfl hc3 (op_call_v (vs := [(Value.int .i64 (a3)), (Value.int .i64 (0)), (Value.int .i64 (2000))]) (r := (Value.bool (x4))) rfl ca49 rfl (args3 rfl rfl rfl) I7 (fun Fr_ hF_ => F49_ok hF_  hx4) (fun w6 I8 => ?_))
    refine wl_taken (c := !x3) rfl rfl rfl rfl hc3 (op_not (b := x4) rfl rfl ?_)
    refine wl_op rfl (op_pick_f (c := !x3) (b := (Value.bool (!x4))) rfl rfl hc3 rfl ?_)
    refine wl_nil ?_
    rcases ifs h with ⟨hc4, h⟩ | ⟨hc4, h⟩
    ·
     refine wp_cond_t (b := !x4) rfl hc4 ?_
     refine wp_seq' ?_
     refine wp_region' ?_
     refine wl_op rfl (op_assign (v := (Value.int .i64 (1))) rfl rfl ?_)
     refine wl_nil ?_
     refine wp_ret' ?_
     obtain rfl := Option.some.inj h
     exact ⟨(Value.int .i64 (1)), (res1 rfl rfl), _, [], (le1.trans le2), I8, rfl, rfl⟩
    ·
     refine wp_cond_f (b := !x4) rfl hc4 ?_
     refine wp_skip' ?_
     refine wp_seq' ?_
     refine wp_region' ?_
     refine wl_op rfl (op_assign (v := (Value.int .i64 (0))) rfl rfl ?_)
     refine wl_nil ?_
     refine wp_ret' ?_
     obtain rfl := Option.some.inj h
     exact ⟨(Value.int .i64 (0)), (res1 rfl rfl), _, [], (le1.trans le2), I8, rfl, rfl⟩

set_option maxHeartbeats 4000000 in
set_option maxRecDepth 100000 in
theorem F73_ok {w : World} {S : PH} {Fr : List HP} {a0 : (List Ref06_gone)} {v0 : Value} {a1 : Ref06_gone} {v1 : Value} {r : Int} (hI : Inv w S (Fr)) (h0_ : RV S v0 a0) (h1_ : RV S v1 a1) (h : F73 a0 a1 = some r) :
    Calls Try.prog 73 [v0, v1].toArray w (DoneV S Fr (Value.int .i64 (r))) := by
 unfold F73 at h
 obtain ⟨z1, m1, k1, e1⟩ := rv_form h0_
 subst e1
 have e2 := Ref06_gone.inv h1_
 subst e2
 refine calls_enter (n := 19) (vs := [(Value.slice z1 m1 k1), (Value.agg #[(Value.int .i64 (a1.position)), (Value.int .i64 (a1.edge))])]) Try.func73 rfl rfl rfl ?_
 refine wp_seq' ?_
 refine wp_region' ?_
 refine wl_op rfl (op_box (v := (Value.agg #[(Value.int .i64 (a1.position)), (Value.int .i64 (a1.edge))])) rfl hI rfl (fun g1 w1 I1 => ?_))
 obtain ⟨S1, le1, I2, p1⟩ := Inv.boxFreeze (x := a1) I1 (Ref06_gone.rv (s := a1))
 refine wl_op rfl (op_assign (v := (Value.int .i64 (0))) rfl rfl ?_)
 refine wl_nil ?_
 refine wp_seq' ?_
 refine wp_seq' ?_
 refine wp_region' ?_
 refine wl_op rfl (op_assign (v := (Value.int .i64 (0))) rfl rfl ?_)
 refine wl_nil ?_
 have hk1 : a0.length ≤ 9223372036854775807 := (rv_len h0_)
 obtain ⟨o2, hrun1, h⟩ := bnd h
 refine wp_cutN (fun f w => ∃ out1, o2 = Sum.inl out1 ∧ ∃ (S_ : PH), S1.Le S_ ∧ Inv w S_ (Fr) ∧ f 0 = (Value.slice z1 m1 k1) ∧ f 3 = (Value.pointer (some ⟨g1, 0, none⟩))) ?_ ?_
 ·
  refine wp_block' ?_
  refine wp_forN (I := fun (i1 : Nat) (s1 : Unit) (f : Frm) (w : World) => ∃ (S_ : PH), S1.Le S_ ∧ Inv w S_ (Fr) ∧ f 0 = (Value.slice z1 m1 k1) ∧ f 3 = (Value.pointer (some ⟨g1, 0, none⟩)) ∧ f 5 = (Value.int .i64 (i1 : Int))) hrun1 ⟨_, (PH.Le.refl _), I2, rfl, rfl, rfl⟩ ?_ ?_
  ·
   rintro i1 s1 f w o1 hlt1 hI22 h1 hout1
   obtain ⟨S25, le25, I27, e27, e28, e29⟩ := hI22
   refine wp_seq' ?_
   refine wp_seq' ?_
   refine wp_region' ?_
   refine wl_op rfl (op_move (v := (Value.int .i64 ((i1 : Int)))) rfl e29 ?_)
   refine wl_op rfl (op_move (v := (Value.slice z1 m1 k1)) rfl e27 ?_)
   refine wl_op rfl (op_len_rv rfl Try.underlying94 rfl (h0_.mono (le1.trans le25)) ?_)
   refine wl_op rfl (op_lss (a := (i1 : Int)) (b := (a0.length : Int)) rfl rfl rfl ?_)
   refine wl_nil ?_
   refine wp_cond_t (b := decide ((i1 : Int) < (a0.length : Int))) rfl (len_t hlt1) ?_
   refine wp_skip' ?_
   refine wp_seq' ?_
   refine wp_block' ?_
   refine wp_seq' ?_
   obtain ⟨x4, hx4, h1⟩ := bnd h1
   refine wp_draw (sps := [⟨some 12, [], [0], fun vs_ T_ => fr0 vs_ 0 = (Value.slice z1 m1 k1), [], [], [], fun _ h_ => h_⟩, ⟨some 13, [], [1], fun vs_ T_ => fr0 vs_ 0 = (Value.int .i64 ((i1 : Int))), [], [], [], fun _ h_ => h_⟩, ⟨some 14, [0, 1], [2], fun vs_ T_ => fr0 vs_ 0 = (elemPtr (Value.slice z1 m1 k1) ((i1 : Int)) (Enc.sz Ref06_gone)), [], [], [], fun _ h_ => h_⟩, ⟨some 15, [0, 1, 2], [3], fun vs_ T_ => fr0 vs_ 0 = (Value.agg #[(Value.int .i64 (x4.position)), (Value.int .i64 (x4.edge))]), [], [], [], fun _ h_ => h_⟩, ⟨some 16, [], [4], fun vs_ T_ => fr0 vs_ 0 = (Value.agg #[(Value.int .i64 (a1.position)), (Value.int .i64 (a1.edge))]), [], [], [], fun _ h_ => h_⟩, ⟨some 17, [0, 1, 2, 3, 4], [5], fun vs_ T_ => fr0 vs_ 0 = (Value.bool (decide (x4 = a1))), [], [], [], fun _ h_ => h_⟩]) (tks := []) (O := Fr) rfl (by kernel_rfl) I27 ⟨?_, ?_, ?_, ?_, ?_, ?_, trivial⟩ ?_
   ·
    intro vs22 f w23 S26 X19 le26 hA19 hK22 hI23
    have I28 : Inv w23 S26 (X19) := hI23
    refine opg_plain rfl rfl (op_move (v := (Value.slice z1 m1 k1)) rfl ((hK22 0 (keep_of rfl)).trans e27) ?_)
    refine ⟨_, _, rfl, PH.Le.refl _, ?_, ?_⟩
    ·
     exact rfl
    ·
     exact I28
   ·
    intro vs23 f w24 S27 X20 le27 hA20 hK23 hI24
    have I29 : Inv w24 S27 (X20) := hI24
    refine opg_plain rfl rfl (op_move (v := (Value.int .i64 ((i1 : Int)))) rfl ((hK23 5 (keep_of rfl)).trans e29) ?_)
    refine ⟨_, _, rfl, PH.Le.refl _, ?_, ?_⟩
    ·
     exact rfl
    ·
     exact I29
   ·
    intro vs24 f w25 S28 X21 le28 hA21 hK24 hI25
    have I30 : Inv w25 S28 (X21) := hI25
    have q19 : f 12 = (Value.slice z1 m1 k1) := vt (hA21.at_ 0 rfl _ rfl) rfl
    have q20 : f 13 = (Value.int .i64 ((i1 : Int))) := vt (hA21.at_ 1 rfl _ rfl) rfl
    refine opg_plain rfl rfl (op_indexAddr_rv (v := (Value.slice z1 m1 k1)) (i := (i1 : Int)) (e := x4) rfl Try.underlying94 sh99 q19 (h0_.mono ((le1.trans le25).trans le28)) q20 hx4 ?_)
    refine ⟨_, _, rfl, PH.Le.refl _, ?_, ?_⟩
    ·
     exact rfl
    ·
     exact I30
   ·
    intro vs25 f w26 S29 X22 le29 hA22 hK25 hI26
    have I31 : Inv w26 S29 (X22) := hI26
    have q21 : f 14 = (elemPtr (Value.slice z1 m1 k1) ((i1 : Int)) (Enc.sz Ref06_gone)) := vt (hA22.at_ 2 rfl _ rfl) rfl
    refine opg_plain rfl rfl (op_load (v := (elemPtr (Value.slice z1 m1 k1) ((i1 : Int)) (Enc.sz Ref06_gone))) (e := x4) rfl sh99 q21 ((h0_.mono ((le1.trans le25).trans le29)).elem I31.in_ hx4) (fun u15 hu15 => ?_))
    have e30 := Ref06_gone.inv hu15
    subst e30
    refine ⟨_, _, rfl, PH.Le.refl _, ?_, ?_⟩
    ·
     exact rfl
    ·
     exact I31
   ·
    intro vs26 f w27 S30 X23 le30 hA23 hK26 hI27
    have I32 : Inv w27 S30 (X23) := hI27
    refine opg_plain rfl rfl (op_load (v := (Value.pointer (some ⟨g1, 0, none⟩))) (e := a1) rfl sh99 ((hK26 3 (keep_of rfl)).trans e28) ((p1.mono (le25.trans le30)).at_ I32) (fun u16 hu16 => ?_))
    have e31 := Ref06_gone.inv hu16
    subst e31
    refine ⟨_, _, rfl, PH.Le.refl _, ?_, ?_⟩
    ·
     exact rfl
    ·
     exact I32
   ·
    intro vs27 f w28 S31 X24 le31 hA24 hK27 hI28
    have I33 : Inv w28 S31 (X24) := hI28
    have q22 : f 15 = (Value.agg #[(Value.int .i64 (x4.position)), (Value.int .i64 (x4.edge))]) := vt (hA24.at_ 3 rfl _ rfl) rfl
    have q23 : f 16 = (Value.agg #[(Value.int .i64 (a1.position)), (Value.int .i64 (a1.edge))]) := vt (hA24.at_ 4 rfl _ rfl) rfl
    refine opg_plain rfl rfl (op_seql (S := S31) (a := x4) (b := a1) (v := (Value.agg #[(Value.int .i64 (x4.position)), (Value.int .i64 (x4.edge))])) (u := (Value.agg #[(Value.int .i64 (a1.position)), (Value.int .i64 (a1.edge))])) rfl kt99 rfl (by kernel_rfl) q22 q23 (Ref06_gone.rv (s := x4)) (Ref06_gone.rv (s := a1)) ?_)
    refine ⟨_, _, rfl, PH.Le.refl _, ?_, ?_⟩
    ·
     exact rfl
    ·
     exact I33
   ·
    intro vs28 f w29 S32 le32 hF4 hK28 hI29
    have e32 : f 0 = (Value.slice z1 m1 k1) := (hK28 0 (keep_all rfl)).trans e27
    have e33 : f 3 = (Value.pointer (some ⟨g1, 0, none⟩)) := (hK28 3 (keep_all rfl)).trans e28
    have e34 : f 5 = (Value.int .i64 ((i1 : Int))) := (hK28 5 (keep_all rfl)).trans e29
    have I34 : Inv w29 S32 (Fr) := hI29
    have q24 : f 17 = (Value.bool (decide (x4 = a1))) := vt (hF4.at_ 5 rfl _ rfl) rfl
    rcases ifs h1 with ⟨hc4, h1⟩ | ⟨hc4, h1⟩
    ·
     refine wp_cond_t (b := decide (x4 = a1)) q24 hc4 ?_
     refine wp_seq' ?_
     refine wp_region' ?_
     refine wl_op rfl (op_move (v := (Value.int .i64 ((i1 : Int)))) rfl e34 ?_)
     refine wl_op rfl (op_assign (v := (Value.int .i64 ((i1 : Int)))) rfl rfl ?_)
     refine wl_nil ?_
     refine wp_ret' ?_
     obtain rfl := Option.some.inj h1
     obtain rfl := (hout1 _ rfl)
     have h2 := h
     obtain rfl := Option.some.inj h2
     exact ⟨(Value.int .i64 ((i1 : Int))), (res1 rfl rfl), _, [], ((le1.trans le25).trans le32), I34, rfl, rfl⟩
    ·
     refine wp_cond_f (b := decide (x4 = a1)) q24 hc4 ?_
     refine wp_skip' ?_
     refine wp_region' ?_
     refine wl_op rfl (op_move (v := (Value.int .i64 ((i1 : Int)))) rfl e34 ?_)
     refine wl_op rfl (op_add (a := (i1 : Int)) (b := 1) rfl rfl rfl ?_)
     refine wl_op rfl (op_assign (v := (Value.int .i64 (w64 ((i1 : Int) + 1)))) rfl rfl ?_)
     refine wl_nil ?_
     obtain rfl := Option.some.inj h1
     exact ⟨_, rfl, _, (le25.trans le32), I34, e32, e33, (idx_next hlt1 hk1)⟩
  ·
   rintro s2 f w hs1 hI30
   obtain ⟨S33, le33, I35, e35, e36, e37⟩ := hI30
   refine wp_seq' ?_
   refine wp_seq' ?_
   refine wp_region' ?_
   refine wl_op rfl (op_move (v := (Value.int .i64 ((a0.length : Int)))) rfl e37 ?_)
   refine wl_op rfl (op_move (v := (Value.slice z1 m1 k1)) rfl e35 ?_)
   refine wl_op rfl (op_len_rv rfl Try.underlying94 rfl (h0_.mono (le1.trans le33)) ?_)
   refine wl_op rfl (op_lss (a := (a0.length : Int)) (b := (a0.length : Int)) rfl rfl rfl ?_)
   refine wl_nil ?_
   refine wp_cond_f (b := decide ((a0.length : Int) < (a0.length : Int))) rfl (len_f _) ?_
   refine wp_exit' ?_
   exact ⟨s2, hs1, _, le33, I35, e35, e36⟩
 ·
  rintro f w ⟨out1, rfl, S34, le34, I36, e38, e39⟩
  have h := onL_inl h
  refine wp_seq' ?_
  refine wp_region' ?_
  refine wl_op rfl (op_assign (v := (Value.int .i64 ((-1)))) rfl rfl ?_)
  refine wl_nil ?_
  refine wp_ret' ?_
  obtain rfl := Option.some.inj h
  exact ⟨(Value.int .i64 ((-1))), (res1 rfl rfl), _, [], (le1.trans le34), I36, rfl, rfl⟩

set_option maxHeartbeats 4000000 in
set_option maxRecDepth 100000 in
theorem F70_ok {w : World} {S : PH} {Fr : List HP} {a0 : Graph} {v0 : Value} {a1 : (List Ref06_gone)} {v1 : Value} {a2 : Int} {a3 : Int} {r : Int} (hI : Inv w S (Fr)) (h0_ : RV S v0 a0) (h1_ : RV S v1 a1) (h : F70 a0 a1 a2 a3 = some r) :
    Calls Try.prog 70 [v0, v1, (Value.int .i64 (a2)), (Value.int .i64 (a3))].toArray w (DoneV S Fr (Value.int .i64 (r))) := by
 unfold F70 at h
 obtain ⟨c1, c2, e1, r1, r2⟩ := Graph.inv h0_
 subst e1
 obtain ⟨z1, m1, k1, e2⟩ := rv_form r1
 subst e2
 obtain ⟨z2, m2, k2, e3⟩ := rv_form r2
 subst e3
 obtain ⟨z3, m3, k3, e4⟩ := rv_form h1_
 subst e4
 refine calls_enter (n := 35) (vs := [(Value.agg #[(Value.slice z1 m1 k1), (Value.slice z2 m2 k2)]), (Value.slice z3 m3 k3), (Value.int .i64 (a2)), (Value.int .i64 (a3))]) Try.func70 rfl rfl rfl ?_
 refine wp_seq' ?_
 refine wp_region' ?_
 refine wl_op rfl (op_box (v := (Value.agg #[(Value.slice z1 m1 k1), (Value.slice z2 m2 k2)])) rfl hI rfl (fun g1 w1 I1 => ?_))
 obtain ⟨S1, le1, I2, p1⟩ := Inv.boxFreeze (x := a0) I1 (Graph.rv (s := a0) r1 r2)
 refine wl_op rfl (op_assign (v := (Value.int .i64 (0))) rfl rfl ?_)
 refine wl_nil ?_
 refine wp_seq' ?_
 refine wp_region' ?_
 refine wl_op rfl (op_fieldAddr_t (v := (Value.pointer (some ⟨g1, 0, none⟩))) rfl fa25_1 rfl (p1.at_ I2) ?_)
 refine wl_op rfl (op_load (v := (fieldPtr (Value.pointer (some ⟨g1, 0, none⟩)) 1)) (e := a0.Edges) rfl sh23 rfl ((p1.at_ I2).fld Graph.fld1) (fun u1 hu1 => ?_))
 obtain ⟨z4, m4, k4, e5⟩ := rv_form hu1
 subst e5
 refine wl_op rfl (op_move (v := (Value.int .i64 (a2))) rfl rfl ?_)
 obtain ⟨x1, hx1, h⟩ := bnd h
 refine wl_op rfl (op_indexAddr_rv (v := (Value.slice z4 m4 k4)) (i := a2) (e := x1) rfl Try.underlying23 sh40 rfl hu1 rfl hx1 ?_)
 refine wl_op rfl (op_load (v := (elemPtr (Value.slice z4 m4 k4) (a2) (Enc.sz (List Edge)))) (e := x1) rfl sh40 rfl (hu1.elem I2.in_ hx1) (fun u2 hu2 => ?_))
 obtain ⟨z5, m5, k5, e6⟩ := rv_form hu2
 subst e6
 refine wl_op rfl (op_len_rv rfl Try.underlying40 rfl hu2 ?_)
 refine wl_op rfl (op_assign (v := (Value.int .i64 ((x1.length : Int)))) rfl rfl ?_)
 refine wl_nil ?_
 refine wp_seq' ?_
 refine wp_seq' ?_
 refine wp_region' ?_
 refine wl_op rfl (op_assign (v := (Value.int .i64 (0))) rfl rfl ?_)
 refine wl_nil ?_
 have hk1 : x1.length ≤ 9223372036854775807 := (rv_len hu2)
 obtain ⟨o2, hrun1, h⟩ := bnd h
 refine wp_cutN (fun f w => ∃ out1, o2 = Sum.inl out1 ∧ Inv w S1 (Fr) ∧ f 1 = (Value.slice z3 m3 k3) ∧ f 2 = (Value.int .i64 (a2)) ∧ f 3 = (Value.int .i64 (a3)) ∧ f 9 = (Value.int .i64 ((x1.length : Int)))) ?_ ?_
 ·
  refine wp_block' ?_
  refine wp_forN (I := fun (i1 : Nat) (s1 : Unit) (f : Frm) (w : World) => Inv w S1 (Fr) ∧ f 1 = (Value.slice z3 m3 k3) ∧ f 2 = (Value.int .i64 (a2)) ∧ f 3 = (Value.int .i64 (a3)) ∧ f 9 = (Value.int .i64 ((x1.length : Int))) ∧ f 10 = (Value.int .i64 (i1 : Int))) hrun1 ⟨I2, rfl, rfl, rfl, rfl, rfl⟩ ?_ ?_
  ·
   rintro i1 s1 f w o1 hlt1 hI1 h1 hout1
   obtain ⟨I7, e17, e18, e19, e20, e21⟩ := hI1
   refine wp_seq' ?_
   refine wp_seq' ?_
   refine wp_region' ?_
   refine wl_op rfl (op_move (v := (Value.int .i64 ((i1 : Int)))) rfl e21 ?_)
   refine wl_op rfl (op_move (v := (Value.int .i64 ((x1.length : Int)))) rfl e20 ?_)
   refine wl_op rfl (op_lss (a := (i1 : Int)) (b := (x1.length : Int)) rfl rfl rfl ?_)
   refine wl_nil ?_
   refine wp_cond_t (b := decide ((i1 : Int) < (x1.length : Int))) rfl (len_t hlt1) ?_
   refine wp_skip' ?_
   refine wp_seq' ?_
   refine wp_block' ?_
   refine wp_seq' ?_
   refine wp_region' ?_
   refine wl_op rfl (op_move (v := (Value.int .i64 (a3))) rfl e19 ?_)
   refine wl_op rfl (op_move (v := (Value.int .i64 ((i1 : Int)))) rfl e21 ?_)
   refine wl_op rfl (op_add (a := a3) (b := (i1 : Int)) rfl rfl rfl ?_)
   refine wl_op rfl (op_move (v := (Value.int .i64 ((x1.length : Int)))) rfl e20 ?_)
   obtain ⟨x6, hx6, h1⟩ := bnd h1
   refine wl_op rfl (op_rem (a := w64 (a3 + (i1 : Int))) (b := (x1.length : Int)) rfl rfl rfl hx6 ?_)
   refine wl_op rfl (op_assign (v := (Value.int .i64 (x6))) rfl rfl ?_)
   refine wl_nil ?_
   refine wp_seq' ?_
   refine wp_region' ?_
   refine wl_op rfl (op_move (v := (Value.slice z3 m3 k3)) rfl e17 ?_)
   refine wl_op rfl (op_move (v := (Value.int .i64 (a2))) rfl e18 ?_)
   refine wl_op rfl (op_move (v := (Value.int .i64 (x6))) rfl rfl ?_)
   refine wl_op rfl (op_build (qs := [(0, #[(Value.int .i64 (a2))]), (1, #[(Value.int .i64 (x6))])]) (c := #[(Value.int .i64 (a2)), (Value.int .i64 (x6))]) rfl st99 ⟨rfl, rfl, ⟨rfl, rfl, trivial⟩⟩ rfl ?_)
   obtain ⟨x7, hx7, h1⟩ := bnd h1
   refine wl_op rfl (op_call_v (vs := [(Value.slice z3 m3 k3), (Value.agg #[(Value.int .i64 (a2)), (Value.int .i64 (x6))])]) (r := (Value.int .i64 (x7))) rfl ca73 rfl (args2 rfl rfl) I7 (fun Fr_ hF_ => F73_ok hF_ (h1_.mono le1) (Ref06_gone.rv (s := (⟨a2, x6⟩ : Ref06_gone))) hx7) (fun w4 I8 => ?_))
   refine wl_op rfl (op_lss (a := x7) (b := 0) rfl rfl rfl ?_)
   refine wl_nil ?_
   rcases ifs h1 with ⟨hc3, h1⟩ | ⟨hc3, h1⟩
   ·
    refine wp_cond_t (b := decide (x7 < 0)) rfl hc3 ?_
    refine wp_seq' ?_
    refine wp_region' ?_
    refine wl_op rfl (op_move (v := (Value.int .i64 (x6))) rfl rfl ?_)
    refine wl_op rfl (op_assign (v := (Value.int .i64 (x6))) rfl rfl ?_)
    refine wl_nil ?_
    refine wp_ret' ?_
    obtain rfl := Option.some.inj h1
    obtain rfl := (hout1 _ rfl)
    have h2 := h
    obtain rfl := Option.some.inj h2
    exact ⟨(Value.int .i64 (x6)), (res1 rfl rfl), _, [], le1, I8, rfl, rfl⟩
   ·
    refine wp_cond_f (b := decide (x7 < 0)) rfl hc3 ?_
    refine wp_skip' ?_
    refine wp_region' ?_
    refine wl_op rfl (op_move (v := (Value.int .i64 ((i1 : Int)))) rfl e21 ?_)
    refine wl_op rfl (op_add (a := (i1 : Int)) (b := 1) rfl rfl rfl ?_)
    refine wl_op rfl (op_assign (v := (Value.int .i64 (w64 ((i1 : Int) + 1)))) rfl rfl ?_)
    refine wl_nil ?_
    obtain rfl := Option.some.inj h1
    exact ⟨_, rfl, I8, e17, e18, e19, e20, (idx_next hlt1 hk1)⟩
  ·
   rintro s2 f w hs1 hI2
   obtain ⟨I9, e22, e23, e24, e25, e26⟩ := hI2
   refine wp_seq' ?_
   refine wp_seq' ?_
   refine wp_region' ?_
   refine wl_op rfl (op_move (v := (Value.int .i64 ((x1.length : Int)))) rfl e26 ?_)
   refine wl_op rfl (op_move (v := (Value.int .i64 ((x1.length : Int)))) rfl e25 ?_)
   refine wl_op rfl (op_lss (a := (x1.length : Int)) (b := (x1.length : Int)) rfl rfl rfl ?_)
   refine wl_nil ?_
   refine wp_cond_f (b := decide ((x1.length : Int) < (x1.length : Int))) rfl (len_f _) ?_
   refine wp_exit' ?_
   exact ⟨s2, hs1, I9, e22, e23, e24, e25⟩
 ·
  rintro f w ⟨out1, rfl, I10, e27, e28, e29, e30⟩
  have h := onL_inl h
  refine wp_seq' ?_
  refine wp_region' ?_
  refine wl_op rfl (op_assign (v := (Value.int .i64 ((-1)))) rfl rfl ?_)
  refine wl_nil ?_
  refine wp_ret' ?_
  obtain rfl := Option.some.inj h
  exact ⟨(Value.int .i64 ((-1))), (res1 rfl rfl), _, [], le1, I10, rfl, rfl⟩

set_option maxHeartbeats 4000000 in
set_option maxRecDepth 100000 in
theorem F85_ok {w : World} {S : PH} {Fr : List HP} {a0 : Graph} {v0 : Value} {a1 : (List Ref06_gone)} {v1 : Value} {a2 : Int} {r : (List Int)} (hI : Inv w S (Fr)) (h0_ : RV S v0 a0) (h1_ : RV S v1 a1) (h : F85 a0 a1 a2 = some r) :
    Calls Try.prog 85 [v0, v1, (Value.int .i64 (a2))].toArray w (Done S Fr (fun T_ v_ O_ => ∃ (a0_ : Option Addr) (n0_ k0_ : Nat), v_ = (Value.slice a0_ n0_ k0_) ∧ O_ = [Row (α := Int) 3 (Value.slice a0_ n0_ k0_) (r)])) := by
 unfold F85 at h
 obtain ⟨c1, c2, e1, r1, r2⟩ := Graph.inv h0_
 subst e1
 obtain ⟨z1, m1, k1, e2⟩ := rv_form r1
 subst e2
 obtain ⟨z2, m2, k2, e3⟩ := rv_form r2
 subst e3
 obtain ⟨z3, m3, k3, e4⟩ := rv_form h1_
 subst e4
 refine calls_enter (n := 73) (vs := [(Value.agg #[(Value.slice z1 m1 k1), (Value.slice z2 m2 k2)]), (Value.slice z3 m3 k3), (Value.int .i64 (a2))]) Try.func85 rfl rfl rfl ?_
 refine wp_seq' ?_
 refine wp_region' ?_
 refine wl_op rfl (op_box (v := (Value.agg #[(Value.slice z1 m1 k1), (Value.slice z2 m2 k2)])) rfl hI rfl (fun g1 w1 I1 => ?_))
 obtain ⟨S1, le1, I2, p1⟩ := Inv.boxFreeze (x := a0) I1 (Graph.rv (s := a0) r1 r2)
 refine wl_op rfl (op_assign (v := (Value.slice none 0 0)) rfl rfl ?_)
 refine wl_nil ?_
 refine wp_seq' ?_
 refine wp_region' ?_
 refine wl_op rfl (op_fieldAddr_t (v := (Value.pointer (some ⟨g1, 0, none⟩))) rfl fa25_1 rfl (p1.at_ I2) ?_)
 refine wl_op rfl (op_load (v := (fieldPtr (Value.pointer (some ⟨g1, 0, none⟩)) 1)) (e := a0.Edges) rfl sh23 rfl ((p1.at_ I2).fld Graph.fld1) (fun u1 hu1 => ?_))
 obtain ⟨z4, m4, k4, e5⟩ := rv_form hu1
 subst e5
 refine wl_op rfl (op_len_rv rfl Try.underlying23 rfl hu1 ?_)
 obtain ⟨x1, hx1, h⟩ := bnd h
 refine wl_op rfl (op_makeSlice (c := (a0.Edges.length : Int)) rfl Try.underlying26 el3 (by decide) rfl rfl I2 hx1 (fun u2 w2 I3 => ?_))
 obtain ⟨z5, m5, k5, e6⟩ := row_form I3
 subst e6
 refine wl_op rfl (op_assign (v := (Value.slice z5 m5 k5)) rfl rfl ?_)
 refine wl_nil ?_
 refine wp_seq' ?_
 refine wp_seq' ?_
 refine wp_region' ?_
 refine wl_op rfl (op_assign (v := (Value.int .i64 (0))) rfl rfl ?_)
 refine wl_nil ?_
 obtain ⟨out1, hrun1, h⟩ := bnd h
 refine wp_cutN (fun f w => Inv w S1 (Row (α := Int) 3 (Value.slice z5 m5 k5) (out1.1) :: Fr) ∧ f 1 = (Value.slice z3 m3 k3) ∧ f 2 = (Value.int .i64 (a2)) ∧ f 3 = (Value.pointer (some ⟨g1, 0, none⟩)) ∧ f 7 = (Value.slice z5 m5 k5) ∧ f 8 = (Value.int .i64 (out1.2))) ?_ ?_
 ·
  refine wp_block' ?_
  refine wp_whileO (I := fun (s1 : (List Int × Int)) (f : Frm) (w : World) => Inv w S1 (Row (α := Int) 3 (Value.slice z5 m5 k5) (s1.1) :: Fr) ∧ f 1 = (Value.slice z3 m3 k3) ∧ f 2 = (Value.int .i64 (a2)) ∧ f 3 = (Value.pointer (some ⟨g1, 0, none⟩)) ∧ f 7 = (Value.slice z5 m5 k5) ∧ f 8 = (Value.int .i64 (s1.2))) hrun1 ⟨I3, rfl, rfl, rfl, rfl, rfl⟩ ?_
  rintro s1 f w o1 hI1 h1 hout1
  obtain ⟨I16, e37, e38, e39, e40, e41⟩ := hI1
  refine wp_seq' ?_
  refine wp_seq' ?_
  refine wp_region' ?_
  refine wl_op rfl (op_move (v := (Value.int .i64 (s1.2))) rfl e41 ?_)
  refine wl_op rfl (op_move (v := (Value.slice z5 m5 k5)) rfl e40 ?_)
  refine wl_op rfl (op_len_row (α := Int) rfl Try.underlying26 rfl (I16.nth 0 rfl) ?_)
  refine wl_op rfl (op_lss (a := s1.2) (b := (s1.1.length : Int)) rfl rfl rfl ?_)
  refine wl_nil ?_
  rcases ifs h1 with ⟨hc4, h1⟩ | ⟨hc4, h1⟩
  ·
   refine wp_cond_t (b := decide (s1.2 < (s1.1.length : Int))) rfl hc4 ?_
   refine wp_skip' ?_
   refine wp_seq' ?_
   refine wp_block' ?_
   refine wp_region' ?_
   refine wl_op rfl (op_move (v := (Value.slice z5 m5 k5)) rfl e40 ?_)
   refine wl_op rfl (op_move (v := (Value.int .i64 (s1.2))) rfl e41 ?_)
   obtain ⟨x8, hx8, h1⟩ := bnd h1
   refine wl_op rfl (op_indexAddr_src (v := (Value.slice z5 m5 k5)) (i := s1.2) (e := x8) rfl Try.underlying26 sh3 rfl (Inv.rowSrc (I16.nth 0 rfl)) rfl hx8 ?_)
   refine wl_op rfl (op_storeRow (u := (Value.int .i64 ((-1)))) (e' := (-1)) sh3 I16 rfl rfl hx8 (rv_int' _) (fun w9 I17 => ?_))
   refine wl_nil ?_
   refine wp_region' ?_
   refine wl_op rfl (op_move (v := (Value.int .i64 (s1.2))) rfl e41 ?_)
   refine wl_op rfl (op_add (a := s1.2) (b := 1) rfl rfl rfl ?_)
   refine wl_op rfl (op_assign (v := (Value.int .i64 (w64 (s1.2 + 1)))) rfl rfl ?_)
   refine wl_nil ?_
   obtain rfl := Option.some.inj h1
   exact ⟨_, rfl, I17, e37, e38, e39, e40, rfl⟩
  ·
   refine wp_cond_f (b := decide (s1.2 < (s1.1.length : Int))) rfl hc4 ?_
   refine wp_exit' ?_
   obtain rfl := Option.some.inj h1
   obtain rfl := (hout1 _ rfl)
   exact ⟨I16, e37, e38, e39, e40, e41⟩
 ·
  rintro f w ⟨I18, e42, e43, e44, e45, e46⟩
  refine wp_seq' ?_
  refine wp_region' ?_
  refine wl_op rfl (op_move (v := (Value.slice z5 m5 k5)) rfl e45 ?_)
  refine wl_op rfl (op_move (v := (Value.int .i64 (a2))) rfl e43 ?_)
  obtain ⟨x9, hx9, h⟩ := bnd h
  refine wl_op rfl (op_indexAddr_src (v := (Value.slice z5 m5 k5)) (i := a2) (e := x9) rfl Try.underlying26 sh3 rfl (Inv.rowSrc (I18.nth 0 rfl)) rfl hx9 ?_)
  refine wl_op rfl (op_storeRow (u := (Value.int .i64 (0))) (e' := 0) sh3 I18 rfl rfl hx9 (rv_int' _) (fun w10 I19 => ?_))
  refine wl_nil ?_
  refine wp_seq' ?_
  refine wp_region' ?_
  refine wl_op rfl (op_assign (v := (Value.bool (true))) rfl rfl ?_)
  refine wl_nil ?_
  refine wp_seq' ?_
  refine wp_seq' ?_
  refine wp_region' ?_
  refine wl_op rfl (op_assign (v := (Value.int .i64 (0))) rfl rfl ?_)
  refine wl_nil ?_
  obtain ⟨out8, hrun8, h⟩ := bnd h
  refine wp_cutN (fun f w => ∃ (S_ : PH), S1.Le S_ ∧ Inv w S_ (Row (α := Int) 3 (Value.slice z5 m5 k5) (out8.1) :: Fr) ∧ f 1 = (Value.slice z3 m3 k3) ∧ f 3 = (Value.pointer (some ⟨g1, 0, none⟩)) ∧ f 7 = (Value.slice z5 m5 k5) ∧ f 9 = (Value.bool (out8.2.1)) ∧ f 10 = (Value.int .i64 (out8.2.2))) ?_ ?_
  ·
   refine wp_block' ?_
   refine wp_whileO (I := fun (s8 : (List Int × Bool × Int)) (f : Frm) (w : World) => ∃ (S_ : PH), S1.Le S_ ∧ Inv w S_ (Row (α := Int) 3 (Value.slice z5 m5 k5) (s8.1) :: Fr) ∧ f 1 = (Value.slice z3 m3 k3) ∧ f 3 = (Value.pointer (some ⟨g1, 0, none⟩)) ∧ f 7 = (Value.slice z5 m5 k5) ∧ f 9 = (Value.bool (s8.2.1)) ∧ f 10 = (Value.int .i64 (s8.2.2))) hrun8 ⟨_, (PH.Le.refl _), I19, e42, e44, e45, rfl, rfl⟩ ?_
   rintro s8 f w o8 hI2414 h87 hout8
   obtain ⟨S2460, le2460, I2558, e1511, e1512, e1513, e1514, e1515⟩ := hI2414
   refine wp_seq' ?_
   refine wp_seq' ?_
   refine wp_region' ?_
   refine wl_op rfl (op_move (v := (Value.bool (s8.2.1))) rfl e1514 ?_)
   refine wl_nil ?_
   rcases ifs h87 with ⟨hc81, h87⟩ | ⟨hc81, h87⟩
   ·
    refine wp_cond_t (b := s8.2.1) rfl hc81 ?_
    refine wp_skip' ?_
    refine wp_seq' ?_
    refine wp_block' ?_
    refine wp_seq' ?_
    refine wp_region' ?_
    refine wl_op rfl (op_assign (v := (Value.bool (false))) rfl rfl ?_)
    refine wl_nil ?_
    refine wp_seq' ?_
    refine wp_region' ?_
    refine wl_op rfl (op_assign (v := (Value.int .i64 (0))) rfl rfl ?_)
    refine wl_nil ?_
    have hk7 : a1.length ≤ 9223372036854775807 := (rv_len h1_)
    obtain ⟨out9, hrun9, h87⟩ := bnd h87
    refine wp_cutN (fun f w => ∃ (S_ : PH), S2460.Le S_ ∧ Inv w S_ (Row (α := Int) 3 (Value.slice z5 m5 k5) (out9.1) :: Fr) ∧ f 1 = (Value.slice z3 m3 k3) ∧ f 3 = (Value.pointer (some ⟨g1, 0, none⟩)) ∧ f 7 = (Value.slice z5 m5 k5) ∧ f 9 = (Value.bool (out9.2)) ∧ f 10 = (Value.int .i64 (s8.2.2))) ?_ ?_
    ·
     refine wp_block' ?_
     refine wp_forS (I := fun (i7 : Nat) (s9 : (List Int × Bool)) (f : Frm) (w : World) => ∃ (S_ : PH), S2460.Le S_ ∧ Inv w S_ (Row (α := Int) 3 (Value.slice z5 m5 k5) (s9.1) :: Fr) ∧ f 1 = (Value.slice z3 m3 k3) ∧ f 3 = (Value.pointer (some ⟨g1, 0, none⟩)) ∧ f 7 = (Value.slice z5 m5 k5) ∧ f 9 = (Value.bool (s9.2)) ∧ f 10 = (Value.int .i64 (s8.2.2)) ∧ f 11 = (Value.int .i64 (i7 : Int))) hrun9 ⟨_, (PH.Le.refl _), I2558, e1511, e1512, e1513, rfl, e1515, rfl⟩ ?_ ?_
     ·
      rintro i7 s9 f w o9 hlt7 hI2715 h98
      obtain ⟨S2766, le2766, I2874, e1687, e1688, e1689, e1690, e1691, e1692⟩ := hI2715
      refine wp_seq' ?_
      refine wp_seq' ?_
      refine wp_region' ?_
      refine wl_op rfl (op_move (v := (Value.int .i64 ((i7 : Int)))) rfl e1692 ?_)
      refine wl_op rfl (op_move (v := (Value.slice z3 m3 k3)) rfl e1687 ?_)
      refine wl_op rfl (op_len_rv rfl Try.underlying94 rfl (h1_.mono ((le1.trans le2460).trans le2766)) ?_)
      refine wl_op rfl (op_lss (a := (i7 : Int)) (b := (a1.length : Int)) rfl rfl rfl ?_)
      refine wl_nil ?_
      refine wp_cond_t (b := decide ((i7 : Int) < (a1.length : Int))) rfl (len_t hlt7) ?_
      refine wp_skip' ?_
      refine wp_seq' ?_
      refine wp_block' ?_
      refine wp_seq' ?_
      refine wp_region' ?_
      refine wl_op rfl (op_move (v := (Value.slice z3 m3 k3)) rfl e1687 ?_)
      refine wl_op rfl (op_move (v := (Value.int .i64 ((i7 : Int)))) rfl e1692 ?_)
      obtain ⟨x280, hx280, h98⟩ := bnd h98
      refine wl_op rfl (op_indexAddr_rv (v := (Value.slice z3 m3 k3)) (i := (i7 : Int)) (e := x280) rfl Try.underlying94 sh99 rfl (h1_.mono ((le1.trans le2460).trans le2766)) rfl hx280 ?_)
      refine wl_op rfl (op_load (v := (elemPtr (Value.slice z3 m3 k3) ((i7 : Int)) (Enc.sz Ref06_gone))) (e := x280) rfl sh99 rfl ((h1_.mono ((le1.trans le2460).trans le2766)).elem I2874.in_ hx280) (fun u516 hu515 => ?_))
      have e1693 := Ref06_gone.inv hu515
      subst e1693
      refine wl_op rfl (op_alloc (z := (Value.agg #[(Value.int .i64 (0)), (Value.int .i64 (0))])) rfl I2874 zo99 (fun g29 w2793 (I2875 : Inv w2793 S2766 (Cells g29 99 #[(Value.int .i64 (0)), (Value.int .i64 (0))] :: Row (α := Int) 3 (Value.slice z5 m5 k5) (s9.1) :: Fr)) => ?_))
      refine wl_op rfl (op_store (v := (Value.agg #[(Value.int .i64 (x280.position)), (Value.int .i64 (x280.edge))])) (cs := #[(Value.int .i64 (0)), (Value.int .i64 (0))]) sh99 I2875 rfl rfl rfl (Nat.le_of_ble_eq_true rfl) rfl (fun w2794 (I2876 : Inv w2794 S2766 (Cells g29 99 #[(Value.int .i64 (x280.position)), (Value.int .i64 (x280.edge))] :: Row (α := Int) 3 (Value.slice z5 m5 k5) (s9.1) :: Fr)) => ?_))
      refine wl_nil ?_
      obtain ⟨v28, h101, h98⟩ := bnd h98
      refine wp_cut (fun f w => ∃ (S_ : PH), S2766.Le S_ ∧ Inv w S_ (Row (α := Int) 3 (Value.slice z5 m5 k5) (s9.1) :: Cells g29 99 #[(Value.int .i64 (x280.position)), (Value.int .i64 (x280.edge))] :: Fr) ∧ f 1 = (Value.slice z3 m3 k3) ∧ f 3 = (Value.pointer (some ⟨g1, 0, none⟩)) ∧ f 7 = (Value.slice z5 m5 k5) ∧ f 9 = (Value.bool (s9.2)) ∧ f 10 = (Value.int .i64 (s8.2.2)) ∧ f 11 = (Value.int .i64 ((i7 : Int))) ∧ f 12 = (Value.pointer (some ⟨g29, 0, none⟩)) ∧ f 65 = (Value.bool (v28))) ?_ ?_
      ·
       obtain ⟨x285, hx285, h101⟩ := bnd h101
       rcases ifs h101 with ⟨hc92, h101⟩ | ⟨hc92, h101⟩
       ·
        obtain ⟨x286, hx286, h101⟩ := bnd h101
        obtain ⟨x287, hx287, h101⟩ := bnd h101
        obtain ⟨x288, hx288, h101⟩ := bnd h101
        refine wp_draw (sps := [⟨some 42, [], [0], fun vs_ T_ => fr0 vs_ 0 = (Value.slice z5 m5 k5), [], [], [], fun _ h_ => h_⟩, ⟨some 43, [], [1], fun vs_ T_ => fr0 vs_ 0 = (Value.pointer (some ⟨g29, 0, none⟩)), [], [], [], fun _ h_ => h_⟩, ⟨some 44, [1], [2], fun vs_ T_ => fr0 vs_ 0 = (Value.int .i64 (x280.position)), [0], [], [], fun _ h_ => h_⟩, ⟨some 45, [0, 1, 2], [3], fun vs_ T_ => fr0 vs_ 0 = (elemPtr (Value.slice z5 m5 k5) (x280.position) (Enc.sz Int)), [1], [], [], fun _ h_ => h_⟩, ⟨some 46, [0, 1, 2, 3], [4], fun vs_ T_ => fr0 vs_ 0 = (Value.int .i64 (x285)), [1], [], [], fun _ h_ => h_⟩, ⟨some 47, [0, 1, 2, 3, 4], [5], fun vs_ T_ => fr0 vs_ 0 = (Value.bool (decide (x285 < 0))), [], [], [], fun _ h_ => h_⟩, ⟨some 48, [0, 1, 2, 3, 4, 5], [6], fun vs_ T_ => fr0 vs_ 0 = (Value.bool (decide (x285 < 0))), [], [], [], fun _ h_ => h_⟩, ⟨some 49, [0, 1, 2, 3, 4, 5, 6], [7], fun vs_ T_ => fr0 vs_ 0 = (Value.slice z5 m5 k5), [], [], [], fun _ h_ => h_⟩, ⟨some 50, [0, 1, 2, 3, 4, 5, 6], [8], fun vs_ T_ => fr0 vs_ 0 = (fieldPtr (Value.pointer (some ⟨g1, 0, none⟩)) 1), [], [], [], fun _ h_ => h_⟩, ⟨some 51, [0, 1, 2, 3, 4, 5, 6, 8], [9], fun vs_ T_ => RV T_ (fr0 vs_ 0) a0.Edges, [], [], [], fun hle_ h_ => h_.mono hle_⟩, ⟨some 52, [0, 1, 2, 3, 4, 5, 6], [10], fun vs_ T_ => fr0 vs_ 0 = (Value.pointer (some ⟨g29, 0, none⟩)), [], [], [], fun _ h_ => h_⟩, ⟨some 53, [0, 1, 2, 3, 4, 5, 6, 10], [11], fun vs_ T_ => fr0 vs_ 0 = (Value.int .i64 (x280.position)), [0], [], [], fun _ h_ => h_⟩, ⟨some 54, [0, 1, 2, 3, 4, 5, 6, 8, 9, 10, 11], [12, 9], fun vs_ T_ => fr0 vs_ 0 = (elemPtr (fr0 vs_ 1) (x280.position) (Enc.sz (List Edge))), [], [], [], fun _ h_ => h_⟩, ⟨some 55, [0, 1, 2, 3, 4, 5, 6, 8, 9, 10, 11, 12], [13], fun vs_ T_ => RV T_ (fr0 vs_ 0) x286, [], [], [], fun hle_ h_ => h_.mono hle_⟩, ⟨some 56, [0, 1, 2, 3, 4, 5, 6], [14], fun vs_ T_ => fr0 vs_ 0 = (Value.pointer (some ⟨g29, 1, none⟩)), [], [], [], fun _ h_ => h_⟩, ⟨some 57, [0, 1, 2, 3, 4, 5, 6, 14], [15], fun vs_ T_ => fr0 vs_ 0 = (Value.int .i64 (x280.edge)), [0], [], [], fun _ h_ => h_⟩, ⟨some 58, [0, 1, 2, 3, 4, 5, 6, 8, 9, 10, 11, 12, 13, 14, 15], [16, 13], fun vs_ T_ => fr0 vs_ 0 = (elemPtr (fr0 vs_ 1) (x280.edge) (Enc.sz Edge)), [], [], [], fun _ h_ => h_⟩, ⟨some 59, [0, 1, 2, 3, 4, 5, 6, 8, 9, 10, 11, 12, 13, 14, 15, 16], [17, 13], fun vs_ T_ => fr0 vs_ 0 = (fieldPtr (elemPtr (fr0 vs_ 1) (x280.edge) (Enc.sz Edge)) 3), [], [], [], fun _ h_ => h_⟩, ⟨some 60, [0, 1, 2, 3, 4, 5, 6, 8, 9, 10, 11, 12, 13, 14, 15, 16, 17], [18], fun vs_ T_ => fr0 vs_ 0 = (Value.int .i64 (x287.To)), [], [], [], fun _ h_ => h_⟩, ⟨some 61, [0, 1, 2, 3, 4, 5, 6, 7, 8, 9, 10, 11, 12, 13, 14, 15, 16, 17, 18], [19], fun vs_ T_ => fr0 vs_ 0 = (elemPtr (Value.slice z5 m5 k5) (x287.To) (Enc.sz Int)), [1], [], [], fun _ h_ => h_⟩, ⟨some 62, [0, 1, 2, 3, 4, 5, 6, 7, 8, 9, 10, 11, 12, 13, 14, 15, 16, 17, 18, 19], [20], fun vs_ T_ => fr0 vs_ 0 = (Value.int .i64 (x288)), [1], [], [], fun _ h_ => h_⟩, ⟨some 63, [0, 1, 2, 3, 4, 5, 6], [21], fun vs_ T_ => fr0 vs_ 0 = (Value.int .i64 (s8.2.2)), [], [], [], fun _ h_ => h_⟩, ⟨some 64, [0, 1, 2, 3, 4, 5, 6, 7, 8, 9, 10, 11, 12, 13, 14, 15, 16, 17, 18, 19, 20, 21], [22], fun vs_ T_ => fr0 vs_ 0 = (Value.bool (x288 == s8.2.2)), [], [], [], fun _ h_ => h_⟩, ⟨some 65, [0, 1, 2, 3, 4, 5, 6, 7, 8, 9, 10, 11, 12, 13, 14, 15, 16, 17, 18, 19, 20, 21, 22], [23], fun vs_ T_ => fr0 vs_ 0 = (Value.bool (x288 == s8.2.2)), [], [], [], fun _ h_ => h_⟩]) (tks := [⟨none, none, [], fun vs_ => Cells g29 99 #[(Value.int .i64 (x280.position)), (Value.int .i64 (x280.edge))]⟩, ⟨none, none, [], fun vs_ => Row (α := Int) 3 (Value.slice z5 m5 k5) (s9.1)⟩]) (O := Fr) rfl (by kernel_rfl) ((I2876.pull 1).pull 1) ⟨?_, ?_, ?_, ?_, ?_, ?_, ?_, ?_, ?_, ?_, ?_, ?_, ?_, ?_, ?_, ?_, ?_, ?_, ?_, ?_, ?_, ?_, ?_, ?_, trivial⟩ ?_
        ·
         intro vs2751 f w2845 S2817 X2641 le2817 hA2641 hK2751 hI2766
         have I2927 : Inv w2845 S2817 (X2641) := hI2766
         refine opg_plain rfl rfl (op_move (v := (Value.slice z5 m5 k5)) rfl ((hK2751 7 (keep_of rfl)).trans e1689) ?_)
         refine ⟨_, _, rfl, PH.Le.refl _, ?_, ?_⟩
         ·
          exact rfl
         ·
          exact I2927
        ·
         intro vs2752 f w2846 S2818 X2642 le2818 hA2642 hK2752 hI2767
         have I2928 : Inv w2846 S2818 (X2642) := hI2767
         refine opg_plain rfl rfl (op_fieldAddr (v := (Value.pointer (some ⟨g29, 0, none⟩))) rfl fa99_0 (hK2752 12 (keep_of rfl)) rfl ?_)
         refine ⟨_, _, rfl, PH.Le.refl _, ?_, ?_⟩
         ·
          exact rfl
         ·
          exact I2928
        ·
         intro vs2753 f w2847 S2819 X2643 le2819 hA2643 hK2753 hI2768
         have I2929 : Inv w2847 S2819 (Cells g29 99 #[(Value.int .i64 (x280.position)), (Value.int .i64 (x280.edge))] :: X2643) := hI2768
         have q4786 : f 43 = (Value.pointer (some ⟨g29, 0, none⟩)) := vt (hA2643.at_ 0 rfl _ rfl) rfl
         refine opg_plain rfl rfl (op_load1 (c := (Value.int .i64 (x280.position))) rfl sh3 (I2929.nth 0 rfl) q4786 rfl ?_)
         refine ⟨_, _, rfl, PH.Le.refl _, ?_, ?_⟩
         ·
          exact rfl
         ·
          exact I2929
        ·
         intro vs2754 f w2848 S2820 X2644 le2820 hA2644 hK2754 hI2769
         have I2930 : Inv w2848 S2820 (Row (α := Int) 3 (Value.slice z5 m5 k5) (s9.1) :: X2644) := hI2769
         have q4787 : f 42 = (Value.slice z5 m5 k5) := vt (hA2644.at_ 0 rfl _ rfl) rfl
         have q4788 : f 44 = (Value.int .i64 (x280.position)) := vt (hA2644.at_ 2 rfl _ rfl) rfl
         refine opg_plain rfl rfl (op_indexAddr_src (v := (Value.slice z5 m5 k5)) (i := x280.position) (e := x285) rfl Try.underlying26 sh3 q4787 (Inv.rowSrc (I2930.nth 0 rfl)) q4788 hx285 ?_)
         refine ⟨_, _, rfl, PH.Le.refl _, ?_, ?_⟩
         ·
          exact rfl
         ·
          exact I2930
        ·
         intro vs2755 f w2849 S2821 X2645 le2821 hA2645 hK2755 hI2770
         have I2931 : Inv w2849 S2821 (Row (α := Int) 3 (Value.slice z5 m5 k5) (s9.1) :: X2645) := hI2770
         have q4789 : f 45 = (elemPtr (Value.slice z5 m5 k5) (x280.position) (Enc.sz Int)) := vt (hA2645.at_ 3 rfl _ rfl) rfl
         refine opg_plain rfl rfl (op_load_int (v := (elemPtr (Value.slice z5 m5 k5) (x280.position) (Enc.sz Int))) (e := x285) rfl sh3 q4789 ((I2931.nth 0 rfl).rowElem hx285) ?_)
         refine ⟨_, _, rfl, PH.Le.refl _, ?_, ?_⟩
         ·
          exact rfl
         ·
          exact I2931
        ·
         intro vs2756 f w2850 S2822 X2646 le2822 hA2646 hK2756 hI2771
         have I2932 : Inv w2850 S2822 (X2646) := hI2771
         have q4790 : f 46 = (Value.int .i64 (x285)) := vt (hA2646.at_ 4 rfl _ rfl) rfl
         refine opg_plain rfl rfl (op_lss (a := x285) (b := 0) rfl q4790 rfl ?_)
         refine ⟨_, _, rfl, PH.Le.refl _, ?_, ?_⟩
         ·
          exact rfl
         ·
          exact I2932
        ·
         intro vs2757 f w2851 S2823 X2647 le2823 hA2647 hK2757 hI2772
         have I2933 : Inv w2851 S2823 (X2647) := hI2772
         have q4791 : f 47 = (Value.bool (decide (x285 < 0))) := vt (hA2647.at_ 5 rfl _ rfl) rfl
         refine opg_plain rfl rfl (op_move (v := (Value.bool (decide (x285 < 0)))) rfl q4791 ?_)
         refine ⟨_, _, rfl, PH.Le.refl _, ?_, ?_⟩
         ·
          exact rfl
         ·
          exact I2933
        ·
         intro vs2758 f w2852 S2824 X2648 le2824 hA2648 hK2758 hI2773
         have I2934 : Inv w2852 S2824 (X2648) := hI2773
         have q4792 : f 48 = (Value.bool (decide (x285 < 0))) := vt (hA2648.at_ 6 rfl _ rfl) rfl
         refine opg_taken (c := decide (x285 < 0)) rfl rfl rfl rfl q4792 hc92 (op_move (v := (Value.slice z5 m5 k5)) rfl ((hK2758 7 (keep_of rfl)).trans e1689) ?_)
         refine ⟨_, _, rfl, PH.Le.refl _, ?_, ?_⟩
         ·
          exact rfl
         ·
          exact I2934
        ·
         intro vs2759 f w2853 S2825 X2649 le2825 hA2649 hK2759 hI2774
         have I2935 : Inv w2853 S2825 (X2649) := hI2774
         have q4793 : f 48 = (Value.bool (decide (x285 < 0))) := vt (hA2649.at_ 6 rfl _ rfl) rfl
         refine opg_taken (c := decide (x285 < 0)) rfl rfl rfl rfl q4793 hc92 (op_fieldAddr_t (v := (Value.pointer (some ⟨g1, 0, none⟩))) rfl fa25_1 ((hK2759 3 (keep_of rfl)).trans e1688) ((p1.mono ((le2460.trans le2766).trans le2825)).at_ I2935) ?_)
         refine ⟨_, _, rfl, PH.Le.refl _, ?_, ?_⟩
         ·
          exact rfl
         ·
          exact I2935
        ·
         intro vs2760 f w2854 S2826 X2650 le2826 hA2650 hK2760 hI2775
         have I2936 : Inv w2854 S2826 (X2650) := hI2775
         have q4794 : f 48 = (Value.bool (decide (x285 < 0))) := vt (hA2650.at_ 6 rfl _ rfl) rfl
         have q4795 : f 50 = (fieldPtr (Value.pointer (some ⟨g1, 0, none⟩)) 1) := vt (hA2650.at_ 7 rfl _ rfl) rfl
         refine opg_taken (c := decide (x285 < 0)) rfl rfl rfl rfl q4794 hc92 (op_load (v := (fieldPtr (Value.pointer (some ⟨g1, 0, none⟩)) 1)) (e := a0.Edges) rfl sh23 q4795 (((p1.mono ((le2460.trans le2766).trans le2826)).at_ I2936).fld Graph.fld1) (fun u528 hu527 => ?_))
         obtain ⟨z391, m391, k391, e1715⟩ := rv_form hu527
         subst e1715
         refine ⟨_, _, rfl, PH.Le.refl _, ?_, ?_⟩
         ·
          exact hu527
         ·
          exact I2936
        ·
         intro vs2761 f w2855 S2827 X2651 le2827 hA2651 hK2761 hI2776
         have I2937 : Inv w2855 S2827 (X2651) := hI2776
         have q4796 : f 48 = (Value.bool (decide (x285 < 0))) := vt (hA2651.at_ 6 rfl _ rfl) rfl
         refine opg_taken (c := decide (x285 < 0)) rfl rfl rfl rfl q4796 hc92 (op_fieldAddr (v := (Value.pointer (some ⟨g29, 0, none⟩))) rfl fa99_0 (hK2761 12 (keep_of rfl)) rfl ?_)
         refine ⟨_, _, rfl, PH.Le.refl _, ?_, ?_⟩
         ·
          exact rfl
         ·
          exact I2937
        ·
         intro vs2762 f w2856 S2828 X2652 le2828 hA2652 hK2762 hI2777
         have I2938 : Inv w2856 S2828 (Cells g29 99 #[(Value.int .i64 (x280.position)), (Value.int .i64 (x280.edge))] :: X2652) := hI2777
         have q4797 : f 48 = (Value.bool (decide (x285 < 0))) := vt (hA2652.at_ 6 rfl _ rfl) rfl
         have q4798 : f 52 = (Value.pointer (some ⟨g29, 0, none⟩)) := vt (hA2652.at_ 7 rfl _ rfl) rfl
         refine opg_taken (c := decide (x285 < 0)) rfl rfl rfl rfl q4797 hc92 (op_load1 (c := (Value.int .i64 (x280.position))) rfl sh3 (I2938.nth 0 rfl) q4798 rfl ?_)
         refine ⟨_, _, rfl, PH.Le.refl _, ?_, ?_⟩
         ·
          exact rfl
         ·
          exact I2938
        ·
         intro vs2763 f w2857 S2829 X2653 le2829 hA2653 hK2763 hI2778
         have I2939 : Inv w2857 S2829 (X2653) := hI2778
         have q4799 : f 48 = (Value.bool (decide (x285 < 0))) := vt (hA2653.at_ 6 rfl _ rfl) rfl
         have q4800 : f 51 = vs2763 9 := (hA2653.at_ 8 rfl _ rfl).1 _ rfl
         have r278 : RV S2829 (vs2763 9) a0.Edges := (hA2653.at_ 8 rfl _ rfl).2
         obtain ⟨u529, hu528⟩ : ∃ u, vs2763 9 = u := ⟨_, rfl⟩
         rw [hu528] at q4800 r278
         obtain ⟨z392, m392, k392, e1716⟩ := rv_form r278
         subst e1716
         have q4801 : f 53 = (Value.int .i64 (x280.position)) := vt (hA2653.at_ 10 rfl _ rfl) rfl
         refine opg_taken (c := decide (x285 < 0)) rfl rfl rfl rfl q4799 hc92 (op_indexAddr_rv (v := (Value.slice z392 m392 k392)) (i := x280.position) (e := x286) rfl Try.underlying23 sh40 q4800 r278 q4801 hx286 ?_)
         refine ⟨_, _, rfl, PH.Le.refl _, ?_, ?_⟩
         ·
          show (elemPtr (Value.slice z392 m392 k392) (x280.position) (Enc.sz (List Edge))) = (elemPtr (vs2763 9) (x280.position) (Enc.sz (List Edge)))
          simp only [hu528] <;> rfl
         ·
          exact I2939
        ·
         intro vs2764 f w2858 S2830 X2654 le2830 hA2654 hK2764 hI2779
         have I2940 : Inv w2858 S2830 (X2654) := hI2779
         have q4802 : f 48 = (Value.bool (decide (x285 < 0))) := vt (hA2654.at_ 6 rfl _ rfl) rfl
         have q4803 : f 51 = vs2764 9 := (hA2654.at_ 8 rfl _ rfl).1 _ rfl
         have r279 : RV S2830 (vs2764 9) a0.Edges := (hA2654.at_ 8 rfl _ rfl).2
         obtain ⟨u530, hu529⟩ : ∃ u, vs2764 9 = u := ⟨_, rfl⟩
         rw [hu529] at q4803 r279
         obtain ⟨z393, m393, k393, e1717⟩ := rv_form r279
         subst e1717
         have q4804 : f 53 = (Value.int .i64 (x280.position)) := vt (hA2654.at_ 10 rfl _ rfl) rfl
         have q4805 : f 54 = (elemPtr (vs2764 9) (x280.position) (Enc.sz (List Edge))) := vt (hA2654.at_ 11 rfl _ rfl) rfl
         simp only [hu529] at q4805
         have q4805 : f 54 = (elemPtr (Value.slice z393 m393 k393) (x280.position) (Enc.sz (List Edge))) := q4805
         refine opg_taken (c := decide (x285 < 0)) rfl rfl rfl rfl q4802 hc92 (op_load (v := (elemPtr (Value.slice z393 m393 k393) (x280.position) (Enc.sz (List Edge)))) (e := x286) rfl sh40 q4805 (r279.elem I2940.in_ hx286) (fun u531 hu530 => ?_))
         obtain ⟨z394, m394, k394, e1718⟩ := rv_form hu530
         subst e1718
         refine ⟨_, _, rfl, PH.Le.refl _, ?_, ?_⟩
         ·
          exact hu530
         ·
          exact I2940
        ·
         intro vs2765 f w2859 S2831 X2655 le2831 hA2655 hK2765 hI2780
         have I2941 : Inv w2859 S2831 (X2655) := hI2780
         have q4806 : f 48 = (Value.bool (decide (x285 < 0))) := vt (hA2655.at_ 6 rfl _ rfl) rfl
         refine opg_taken (c := decide (x285 < 0)) rfl rfl rfl rfl q4806 hc92 (op_fieldAddr (v := (Value.pointer (some ⟨g29, 0, none⟩))) rfl fa99_1 (hK2765 12 (keep_of rfl)) rfl ?_)
         refine ⟨_, _, rfl, PH.Le.refl _, ?_, ?_⟩
         ·
          exact rfl
         ·
          exact I2941
        ·
         intro vs2766 f w2860 S2832 X2656 le2832 hA2656 hK2766 hI2781
         have I2942 : Inv w2860 S2832 (Cells g29 99 #[(Value.int .i64 (x280.position)), (Value.int .i64 (x280.edge))] :: X2656) := hI2781
         have q4807 : f 48 = (Value.bool (decide (x285 < 0))) := vt (hA2656.at_ 6 rfl _ rfl) rfl
         have q4808 : f 56 = (Value.pointer (some ⟨g29, 1, none⟩)) := vt (hA2656.at_ 7 rfl _ rfl) rfl
         refine opg_taken (c := decide (x285 < 0)) rfl rfl rfl rfl q4807 hc92 (op_load1 (c := (Value.int .i64 (x280.edge))) rfl sh3 (I2942.nth 0 rfl) q4808 rfl ?_)
         refine ⟨_, _, rfl, PH.Le.refl _, ?_, ?_⟩
         ·
          exact rfl
         ·
          exact I2942
        ·
         intro vs2767 f w2861 S2833 X2657 le2833 hA2657 hK2767 hI2782
         have I2943 : Inv w2861 S2833 (X2657) := hI2782
         have q4809 : f 48 = (Value.bool (decide (x285 < 0))) := vt (hA2657.at_ 6 rfl _ rfl) rfl
         have q4810 : f 55 = vs2767 13 := (hA2657.at_ 12 rfl _ rfl).1 _ rfl
         have r280 : RV S2833 (vs2767 13) x286 := (hA2657.at_ 12 rfl _ rfl).2
         obtain ⟨u532, hu531⟩ : ∃ u, vs2767 13 = u := ⟨_, rfl⟩
         rw [hu531] at q4810 r280
         obtain ⟨z395, m395, k395, e1719⟩ := rv_form r280
         subst e1719
         have q4811 : f 57 = (Value.int .i64 (x280.edge)) := vt (hA2657.at_ 14 rfl _ rfl) rfl
         refine opg_taken (c := decide (x285 < 0)) rfl rfl rfl rfl q4809 hc92 (op_indexAddr_rv (v := (Value.slice z395 m395 k395)) (i := x280.edge) (e := x287) rfl Try.underlying40 sh44 q4810 r280 q4811 hx287 ?_)
         refine ⟨_, _, rfl, PH.Le.refl _, ?_, ?_⟩
         ·
          show (elemPtr (Value.slice z395 m395 k395) (x280.edge) (Enc.sz Edge)) = (elemPtr (vs2767 13) (x280.edge) (Enc.sz Edge))
          simp only [hu531] <;> rfl
         ·
          exact I2943
        ·
         intro vs2768 f w2862 S2834 X2658 le2834 hA2658 hK2768 hI2783
         have I2944 : Inv w2862 S2834 (X2658) := hI2783
         have q4812 : f 48 = (Value.bool (decide (x285 < 0))) := vt (hA2658.at_ 6 rfl _ rfl) rfl
         have q4813 : f 55 = vs2768 13 := (hA2658.at_ 12 rfl _ rfl).1 _ rfl
         have r281 : RV S2834 (vs2768 13) x286 := (hA2658.at_ 12 rfl _ rfl).2
         obtain ⟨u533, hu532⟩ : ∃ u, vs2768 13 = u := ⟨_, rfl⟩
         rw [hu532] at q4813 r281
         obtain ⟨z396, m396, k396, e1720⟩ := rv_form r281
         subst e1720
         have q4814 : f 57 = (Value.int .i64 (x280.edge)) := vt (hA2658.at_ 14 rfl _ rfl) rfl
         have q4815 : f 58 = (elemPtr (vs2768 13) (x280.edge) (Enc.sz Edge)) := vt (hA2658.at_ 15 rfl _ rfl) rfl
         simp only [hu532] at q4815
         have q4815 : f 58 = (elemPtr (Value.slice z396 m396 k396) (x280.edge) (Enc.sz Edge)) := q4815
         refine opg_taken (c := decide (x285 < 0)) rfl rfl rfl rfl q4812 hc92 (op_fieldAddr_t (v := (elemPtr (Value.slice z396 m396 k396) (x280.edge) (Enc.sz Edge))) rfl fa44_1 q4815 (r281.elem I2944.in_ hx287) ?_)
         refine ⟨_, _, rfl, PH.Le.refl _, ?_, ?_⟩
         ·
          show (fieldPtr (elemPtr (Value.slice z396 m396 k396) (x280.edge) (Enc.sz Edge)) 3) = (fieldPtr (elemPtr (vs2768 13) (x280.edge) (Enc.sz Edge)) 3)
          simp only [hu532] <;> rfl
         ·
          exact I2944
        ·
         intro vs2769 f w2863 S2835 X2659 le2835 hA2659 hK2769 hI2784
         have I2945 : Inv w2863 S2835 (X2659) := hI2784
         have q4816 : f 48 = (Value.bool (decide (x285 < 0))) := vt (hA2659.at_ 6 rfl _ rfl) rfl
         have q4817 : f 55 = vs2769 13 := (hA2659.at_ 12 rfl _ rfl).1 _ rfl
         have r282 : RV S2835 (vs2769 13) x286 := (hA2659.at_ 12 rfl _ rfl).2
         obtain ⟨u534, hu533⟩ : ∃ u, vs2769 13 = u := ⟨_, rfl⟩
         rw [hu533] at q4817 r282
         obtain ⟨z397, m397, k397, e1721⟩ := rv_form r282
         subst e1721
         have q4818 : f 57 = (Value.int .i64 (x280.edge)) := vt (hA2659.at_ 14 rfl _ rfl) rfl
         have q4819 : f 58 = (elemPtr (vs2769 13) (x280.edge) (Enc.sz Edge)) := vt (hA2659.at_ 15 rfl _ rfl) rfl
         simp only [hu533] at q4819
         have q4819 : f 58 = (elemPtr (Value.slice z397 m397 k397) (x280.edge) (Enc.sz Edge)) := q4819
         have q4820 : f 59 = (fieldPtr (elemPtr (vs2769 13) (x280.edge) (Enc.sz Edge)) 3) := vt (hA2659.at_ 16 rfl _ rfl) rfl
         simp only [hu533] at q4820
         have q4820 : f 59 = (fieldPtr (elemPtr (Value.slice z397 m397 k397) (x280.edge) (Enc.sz Edge)) 3) := q4820
         refine opg_taken (c := decide (x285 < 0)) rfl rfl rfl rfl q4816 hc92 (op_load_int (v := (fieldPtr (elemPtr (Value.slice z397 m397 k397) (x280.edge) (Enc.sz Edge)) 3)) (e := x287.To) rfl sh3 q4820 ((r282.elem I2945.in_ hx287).fld Edge.fld1) ?_)
         refine ⟨_, _, rfl, PH.Le.refl _, ?_, ?_⟩
         ·
          exact rfl
         ·
          exact I2945
        ·
         intro vs2770 f w2864 S2836 X2660 le2836 hA2660 hK2770 hI2785
         have I2946 : Inv w2864 S2836 (Row (α := Int) 3 (Value.slice z5 m5 k5) (s9.1) :: X2660) := hI2785
         have q4821 : f 48 = (Value.bool (decide (x285 < 0))) := vt (hA2660.at_ 6 rfl _ rfl) rfl
         have q4822 : f 49 = (Value.slice z5 m5 k5) := vt (hA2660.at_ 7 rfl _ rfl) rfl
         have q4823 : f 60 = (Value.int .i64 (x287.To)) := vt (hA2660.at_ 18 rfl _ rfl) rfl
         refine opg_taken (c := decide (x285 < 0)) rfl rfl rfl rfl q4821 hc92 (op_indexAddr_src (v := (Value.slice z5 m5 k5)) (i := x287.To) (e := x288) rfl Try.underlying26 sh3 q4822 (Inv.rowSrc (I2946.nth 0 rfl)) q4823 hx288 ?_)
         refine ⟨_, _, rfl, PH.Le.refl _, ?_, ?_⟩
         ·
          exact rfl
         ·
          exact I2946
        ·
         intro vs2771 f w2865 S2837 X2661 le2837 hA2661 hK2771 hI2786
         have I2947 : Inv w2865 S2837 (Row (α := Int) 3 (Value.slice z5 m5 k5) (s9.1) :: X2661) := hI2786
         have q4824 : f 48 = (Value.bool (decide (x285 < 0))) := vt (hA2661.at_ 6 rfl _ rfl) rfl
         have q4825 : f 61 = (elemPtr (Value.slice z5 m5 k5) (x287.To) (Enc.sz Int)) := vt (hA2661.at_ 19 rfl _ rfl) rfl
         refine opg_taken (c := decide (x285 < 0)) rfl rfl rfl rfl q4824 hc92 (op_load_int (v := (elemPtr (Value.slice z5 m5 k5) (x287.To) (Enc.sz Int))) (e := x288) rfl sh3 q4825 ((I2947.nth 0 rfl).rowElem hx288) ?_)
         refine ⟨_, _, rfl, PH.Le.refl _, ?_, ?_⟩
         ·
          exact rfl
         ·
          exact I2947
        ·
         intro vs2772 f w2866 S2838 X2662 le2838 hA2662 hK2772 hI2787
         have I2948 : Inv w2866 S2838 (X2662) := hI2787
         have q4826 : f 48 = (Value.bool (decide (x285 < 0))) := vt (hA2662.at_ 6 rfl _ rfl) rfl
         refine opg_taken (c := decide (x285 < 0)) rfl rfl rfl rfl q4826 hc92 (op_move (v := (Value.int .i64 (s8.2.2))) rfl ((hK2772 10 (keep_of rfl)).trans e1691) ?_)
         refine ⟨_, _, rfl, PH.Le.refl _, ?_, ?_⟩
         ·
          exact rfl
         ·
          exact I2948
        ·
         intro vs2773 f w2867 S2839 X2663 le2839 hA2663 hK2773 hI2788
         have I2949 : Inv w2867 S2839 (X2663) := hI2788
         have q4827 : f 48 = (Value.bool (decide (x285 < 0))) := vt (hA2663.at_ 6 rfl _ rfl) rfl
         have q4828 : f 62 = (Value.int .i64 (x288)) := vt (hA2663.at_ 20 rfl _ rfl) rfl
         have q4829 : f 63 = (Value.int .i64 (s8.2.2)) := vt (hA2663.at_ 21 rfl _ rfl) rfl
         refine opg_taken (c := decide (x285 < 0)) rfl rfl rfl rfl q4827 hc92 (op_eql (a := x288) (b := s8.2.2) rfl q4828 q4829 ?_)
         refine ⟨_, _, rfl, PH.Le.refl _, ?_, ?_⟩
         ·
          exact rfl
         ·
          exact I2949
        ·
         intro vs2774 f w2868 S2840 X2664 le2840 hA2664 hK2774 hI2789
         have I2950 : Inv w2868 S2840 (X2664) := hI2789
         have q4830 : f 48 = (Value.bool (decide (x285 < 0))) := vt (hA2664.at_ 6 rfl _ rfl) rfl
         have q4831 : f 64 = (Value.bool (x288 == s8.2.2)) := vt (hA2664.at_ 22 rfl _ rfl) rfl
         refine opg_plain rfl rfl (op_pick_t (c := decide (x285 < 0)) (a := (Value.bool (x288 == s8.2.2))) rfl q4830 hc92 q4831 ?_)
         refine ⟨_, _, rfl, PH.Le.refl _, ?_, ?_⟩
         ·
          exact rfl
         ·
          exact I2950
        ·
         intro vs2775 f w2869 S2841 le2841 hF111 hK2775 hI2790
         have e1722 : f 1 = (Value.slice z3 m3 k3) := (hK2775 1 (keep_all rfl)).trans e1687
         have e1723 : f 3 = (Value.pointer (some ⟨g1, 0, none⟩)) := (hK2775 3 (keep_all rfl)).trans e1688
         have e1724 : f 7 = (Value.slice z5 m5 k5) := (hK2775 7 (keep_all rfl)).trans e1689
         have e1725 : f 9 = (Value.bool (s9.2)) := (hK2775 9 (keep_all rfl)).trans e1690
         have e1726 : f 10 = (Value.int .i64 (s8.2.2)) := (hK2775 10 (keep_all rfl)).trans e1691
         have e1727 : f 11 = (Value.int .i64 ((i7 : Int))) := (hK2775 11 (keep_all rfl)).trans e1692
         have e1728 : f 12 = (Value.pointer (some ⟨g29, 0, none⟩)) := (hK2775 12 (keep_all rfl)).trans rfl
         have I2951 : Inv w2869 S2841 (Cells g29 99 #[(Value.int .i64 (x280.position)), (Value.int .i64 (x280.edge))] :: Row (α := Int) 3 (Value.slice z5 m5 k5) (s9.1) :: Fr) := hI2790
         have q4832 : f 65 = (Value.bool (x288 == s8.2.2)) := vt (hF111.at_ 23 rfl _ rfl) rfl
         obtain rfl := Option.some.inj h101
         exact ⟨_, le2841, (I2951.pull 1), e1722, e1723, e1724, e1725, e1726, e1727, e1728, q4832⟩
       ·
        refine wp_draw (sps := [⟨some 42, [], [0], fun vs_ T_ => fr0 vs_ 0 = (Value.slice z5 m5 k5), [], [], [], fun _ h_ => h_⟩, ⟨some 43, [], [1], fun vs_ T_ => fr0 vs_ 0 = (Value.pointer (some ⟨g29, 0, none⟩)), [], [], [], fun _ h_ => h_⟩, ⟨some 44, [1], [2], fun vs_ T_ => fr0 vs_ 0 = (Value.int .i64 (x280.position)), [0], [], [], fun _ h_ => h_⟩, ⟨some 45, [0, 1, 2], [3], fun vs_ T_ => fr0 vs_ 0 = (elemPtr (Value.slice z5 m5 k5) (x280.position) (Enc.sz Int)), [1], [], [], fun _ h_ => h_⟩, ⟨some 46, [0, 1, 2, 3], [4], fun vs_ T_ => fr0 vs_ 0 = (Value.int .i64 (x285)), [1], [], [], fun _ h_ => h_⟩, ⟨some 47, [0, 1, 2, 3, 4], [5], fun vs_ T_ => fr0 vs_ 0 = (Value.bool (decide (x285 < 0))), [], [], [], fun _ h_ => h_⟩, ⟨some 48, [0, 1, 2, 3, 4, 5], [6], fun vs_ T_ => fr0 vs_ 0 = (Value.bool (decide (x285 < 0))), [], [], [], fun _ h_ => h_⟩, ⟨some 49, [0, 1, 2, 3, 4, 5, 6], [7], fun vs_ T_ => fr0 vs_ 0 = undef, [], [], [], fun _ h_ => h_⟩, ⟨some 50, [0, 1, 2, 3, 4, 5, 6], [8], fun vs_ T_ => fr0 vs_ 0 = undef, [], [], [], fun _ h_ => h_⟩, ⟨some 51, [0, 1, 2, 3, 4, 5, 6, 8], [9], fun vs_ T_ => fr0 vs_ 0 = undef, [], [], [], fun _ h_ => h_⟩, ⟨some 52, [0, 1, 2, 3, 4, 5, 6], [10], fun vs_ T_ => fr0 vs_ 0 = undef, [], [], [], fun _ h_ => h_⟩, ⟨some 53, [0, 1, 2, 3, 4, 5, 6, 10], [11], fun vs_ T_ => fr0 vs_ 0 = undef, [], [], [], fun _ h_ => h_⟩, ⟨some 54, [0, 1, 2, 3, 4, 5, 6, 8, 9, 10, 11], [12], fun vs_ T_ => fr0 vs_ 0 = undef, [], [], [], fun _ h_ => h_⟩, ⟨some 55, [0, 1, 2, 3, 4, 5, 6, 8, 9, 10, 11, 12], [13], fun vs_ T_ => fr0 vs_ 0 = undef, [], [], [], fun _ h_ => h_⟩, ⟨some 56, [0, 1, 2, 3, 4, 5, 6], [14], fun vs_ T_ => fr0 vs_ 0 = undef, [], [], [], fun _ h_ => h_⟩, ⟨some 57, [0, 1, 2, 3, 4, 5, 6, 14], [15], fun vs_ T_ => fr0 vs_ 0 = undef, [], [], [], fun _ h_ => h_⟩, ⟨some 58, [0, 1, 2, 3, 4, 5, 6, 8, 9, 10, 11, 12, 13, 14, 15], [16], fun vs_ T_ => fr0 vs_ 0 = undef, [], [], [], fun _ h_ => h_⟩, ⟨some 59, [0, 1, 2, 3, 4, 5, 6, 8, 9, 10, 11, 12, 13, 14, 15, 16], [17], fun vs_ T_ => fr0 vs_ 0 = undef, [], [], [], fun _ h_ => h_⟩, ⟨some 60, [0, 1, 2, 3, 4, 5, 6, 8, 9, 10, 11, 12, 13, 14, 15, 16, 17], [18], fun vs_ T_ => fr0 vs_ 0 = undef, [], [], [], fun _ h_ => h_⟩, ⟨some 61, [0, 1, 2, 3, 4, 5, 6, 7, 8, 9, 10, 11, 12, 13, 14, 15, 16, 17, 18], [19], fun vs_ T_ => fr0 vs_ 0 = undef, [], [], [], fun _ h_ => h_⟩, ⟨some 62, [0, 1, 2, 3, 4, 5, 6, 7, 8, 9, 10, 11, 12, 13, 14, 15, 16, 17, 18, 19], [20], fun vs_ T_ => fr0 vs_ 0 = undef, [], [], [], fun _ h_ => h_⟩, ⟨some 63, [0, 1, 2, 3, 4, 5, 6], [21], fun vs_ T_ => fr0 vs_ 0 = undef, [], [], [], fun _ h_ => h_⟩, ⟨some 64, [0, 1, 2, 3, 4, 5, 6, 7, 8, 9, 10, 11, 12, 13, 14, 15, 16, 17, 18, 19, 20, 21], [22], fun vs_ T_ => fr0 vs_ 0 = undef, [], [], [], fun _ h_ => h_⟩, ⟨some 65, [0, 1, 2, 3, 4, 5, 6, 7, 8, 9, 10, 11, 12, 13, 14, 15, 16, 17, 18, 19, 20, 21, 22], [23], fun vs_ T_ => fr0 vs_ 0 = (Value.bool (false)), [], [], [], fun _ h_ => h_⟩]) (tks := [⟨none, none, [], fun vs_ => Cells g29 99 #[(Value.int .i64 (x280.position)), (Value.int .i64 (x280.edge))]⟩, ⟨none, none, [], fun vs_ => Row (α := Int) 3 (Value.slice z5 m5 k5) (s9.1)⟩]) (O := Fr) rfl (by kernel_rfl) ((I2876.pull 1).pull 1) ⟨?_, ?_, ?_, ?_, ?_, ?_, ?_, ?_, ?_, ?_, ?_, ?_, ?_, ?_, ?_, ?_, ?_, ?_, ?_, ?_, ?_, ?_, ?_, ?_, trivial⟩ ?_
        ·
         intro vs2776 f w2870 S2842 X2665 le2842 hA2665 hK2776 hI2791
         have I2952 : Inv w2870 S2842 (X2665) := hI2791
         refine opg_plain rfl rfl (op_move (v := (Value.slice z5 m5 k5)) rfl ((hK2776 7 (keep_of rfl)).trans e1689) ?_)
         refine ⟨_, _, rfl, PH.Le.refl _, ?_, ?_⟩
         ·
          exact rfl
         ·
          exact I2952
        ·
         intro vs2777 f w2871 S2843 X2666 le2843 hA2666 hK2777 hI2792
         have I2953 : Inv w2871 S2843 (X2666) := hI2792
         refine opg_plain rfl rfl (op_fieldAddr (v := (Value.pointer (some ⟨g29, 0, none⟩))) rfl fa99_0 (hK2777 12 (keep_of rfl)) rfl ?_)
         refine ⟨_, _, rfl, PH.Le.refl _, ?_, ?_⟩
         ·
          exact rfl
         ·
          exact I2953
        ·
         intro vs2778 f w2872 S2844 X2667 le2844 hA2667 hK2778 hI2793
         have I2954 : Inv w2872 S2844 (Cells g29 99 #[(Value.int .i64 (x280.position)), (Value.int .i64 (x280.edge))] :: X2667) := hI2793
         have q4833 : f 43 = (Value.pointer (some ⟨g29, 0, none⟩)) := vt (hA2667.at_ 0 rfl _ rfl) rfl
         refine opg_plain rfl rfl (op_load1 (c := (Value.int .i64 (x280.position))) rfl sh3 (I2954.nth 0 rfl) q4833 rfl ?_)
         refine ⟨_, _, rfl, PH.Le.refl _, ?_, ?_⟩
         ·
          exact rfl
         ·
          exact I2954
        ·
         intro vs2779 f w2873 S2845 X2668 le2845 hA2668 hK2779 hI2794
         have I2955 : Inv w2873 S2845 (Row (α := Int) 3 (Value.slice z5 m5 k5) (s9.1) :: X2668) := hI2794
         have q4834 : f 42 = (Value.slice z5 m5 k5) := vt (hA2668.at_ 0 rfl _ rfl) rfl
         have q4835 : f 44 = (Value.int .i64 (x280.position)) := vt (hA2668.at_ 2 rfl _ rfl) rfl
         refine opg_plain rfl rfl (op_indexAddr_src (v := (Value.slice z5 m5 k5)) (i := x280.position) (e := x285) rfl Try.underlying26 sh3 q4834 (Inv.rowSrc (I2955.nth 0 rfl)) q4835 hx285 ?_)
         refine ⟨_, _, rfl, PH.Le.refl _, ?_, ?_⟩
         ·
          exact rfl
         ·
          exact I2955
        ·
         intro vs2780 f w2874 S2846 X2669 le2846 hA2669 hK2780 hI2795
         have I2956 : Inv w2874 S2846 (Row (α := Int) 3 (Value.slice z5 m5 k5) (s9.1) :: X2669) := hI2795
         have q4836 : f 45 = (elemPtr (Value.slice z5 m5 k5) (x280.position) (Enc.sz Int)) := vt (hA2669.at_ 3 rfl _ rfl) rfl
         refine opg_plain rfl rfl (op_load_int (v := (elemPtr (Value.slice z5 m5 k5) (x280.position) (Enc.sz Int))) (e := x285) rfl sh3 q4836 ((I2956.nth 0 rfl).rowElem hx285) ?_)
         refine ⟨_, _, rfl, PH.Le.refl _, ?_, ?_⟩
         ·
          exact rfl
         ·
          exact I2956
        ·
         intro vs2781 f w2875 S2847 X2670 le2847 hA2670 hK2781 hI2796
         have I2957 : Inv w2875 S2847 (X2670) := hI2796
         have q4837 : f 46 = (Value.int .i64 (x285)) := vt (hA2670.at_ 4 rfl _ rfl) rfl
         refine opg_plain rfl rfl (op_lss (a := x285) (b := 0) rfl q4837 rfl ?_)
         refine ⟨_, _, rfl, PH.Le.refl _, ?_, ?_⟩
         ·
          exact rfl
         ·
          exact I2957
        ·
         intro vs2782 f w2876 S2848 X2671 le2848 hA2671 hK2782 hI2797
         have I2958 : Inv w2876 S2848 (X2671) := hI2797
         have q4838 : f 47 = (Value.bool (decide (x285 < 0))) := vt (hA2671.at_ 5 rfl _ rfl) rfl
         refine opg_plain rfl rfl (op_move (v := (Value.bool (decide (x285 < 0)))) rfl q4838 ?_)
         refine ⟨_, _, rfl, PH.Le.refl _, ?_, ?_⟩
         ·
          exact rfl
         ·
          exact I2958
        ·
         intro vs2783 f w2877 S2849 X2672 le2849 hA2672 hK2783 hI2798
         have I2959 : Inv w2877 S2849 (X2672) := hI2798
         have q4839 : f 48 = (Value.bool (decide (x285 < 0))) := vt (hA2672.at_ 6 rfl _ rfl) rfl
         exact opg_skip (c := decide (x285 < 0)) rfl rfl rfl rfl q4839 hc92 rfl ⟨_, _, rfl, PH.Le.refl _, rfl, I2959⟩
        ·
         intro vs2784 f w2878 S2850 X2673 le2850 hA2673 hK2784 hI2799
         have I2960 : Inv w2878 S2850 (X2673) := hI2799
         have q4840 : f 48 = (Value.bool (decide (x285 < 0))) := vt (hA2673.at_ 6 rfl _ rfl) rfl
         exact opg_skip (c := decide (x285 < 0)) rfl rfl rfl rfl q4840 hc92 rfl ⟨_, _, rfl, PH.Le.refl _, rfl, I2960⟩
        ·
         intro vs2785 f w2879 S2851 X2674 le2851 hA2674 hK2785 hI2800
         have I2961 : Inv w2879 S2851 (X2674) := hI2800
         have q4841 : f 48 = (Value.bool (decide (x285 < 0))) := vt (hA2674.at_ 6 rfl _ rfl) rfl
         have q4842 : f 50 = undef := vt (hA2674.at_ 7 rfl _ rfl) rfl
         exact opg_skip (c := decide (x285 < 0)) rfl rfl rfl rfl q4841 hc92 rfl ⟨_, _, rfl, PH.Le.refl _, rfl, I2961⟩
        ·
         intro vs2786 f w2880 S2852 X2675 le2852 hA2675 hK2786 hI2801
         have I2962 : Inv w2880 S2852 (X2675) := hI2801
         have q4843 : f 48 = (Value.bool (decide (x285 < 0))) := vt (hA2675.at_ 6 rfl _ rfl) rfl
         exact opg_skip (c := decide (x285 < 0)) rfl rfl rfl rfl q4843 hc92 rfl ⟨_, _, rfl, PH.Le.refl _, rfl, I2962⟩
        ·
         intro vs2787 f w2881 S2853 X2676 le2853 hA2676 hK2787 hI2802
         have I2963 : Inv w2881 S2853 (X2676) := hI2802
         have q4844 : f 48 = (Value.bool (decide (x285 < 0))) := vt (hA2676.at_ 6 rfl _ rfl) rfl
         have q4845 : f 52 = undef := vt (hA2676.at_ 7 rfl _ rfl) rfl
         exact opg_skip (c := decide (x285 < 0)) rfl rfl rfl rfl q4844 hc92 rfl ⟨_, _, rfl, PH.Le.refl _, rfl, I2963⟩
        ·
         intro vs2788 f w2882 S2854 X2677 le2854 hA2677 hK2788 hI2803
         have I2964 : Inv w2882 S2854 (X2677) := hI2803
         have q4846 : f 48 = (Value.bool (decide (x285 < 0))) := vt (hA2677.at_ 6 rfl _ rfl) rfl
         have q4847 : f 51 = undef := vt (hA2677.at_ 8 rfl _ rfl) rfl
         have q4848 : f 53 = undef := vt (hA2677.at_ 10 rfl _ rfl) rfl
         exact opg_skip (c := decide (x285 < 0)) rfl rfl rfl rfl q4846 hc92 rfl ⟨_, _, rfl, PH.Le.refl _, rfl, I2964⟩
        ·
         intro vs2789 f w2883 S2855 X2678 le2855 hA2678 hK2789 hI2804
         have I2965 : Inv w2883 S2855 (X2678) := hI2804
         have q4849 : f 48 = (Value.bool (decide (x285 < 0))) := vt (hA2678.at_ 6 rfl _ rfl) rfl
         have q4850 : f 54 = undef := vt (hA2678.at_ 11 rfl _ rfl) rfl
         exact opg_skip (c := decide (x285 < 0)) rfl rfl rfl rfl q4849 hc92 rfl ⟨_, _, rfl, PH.Le.refl _, rfl, I2965⟩
        ·
         intro vs2790 f w2884 S2856 X2679 le2856 hA2679 hK2790 hI2805
         have I2966 : Inv w2884 S2856 (X2679) := hI2805
         have q4851 : f 48 = (Value.bool (decide (x285 < 0))) := vt (hA2679.at_ 6 rfl _ rfl) rfl
         exact opg_skip (c := decide (x285 < 0)) rfl rfl rfl rfl q4851 hc92 rfl ⟨_, _, rfl, PH.Le.refl _, rfl, I2966⟩
        ·
         intro vs2791 f w2885 S2857 X2680 le2857 hA2680 hK2791 hI2806
         have I2967 : Inv w2885 S2857 (X2680) := hI2806
         have q4852 : f 48 = (Value.bool (decide (x285 < 0))) := vt (hA2680.at_ 6 rfl _ rfl) rfl
         have q4853 : f 56 = undef := vt (hA2680.at_ 7 rfl _ rfl) rfl
         exact opg_skip (c := decide (x285 < 0)) rfl rfl rfl rfl q4852 hc92 rfl ⟨_, _, rfl, PH.Le.refl _, rfl, I2967⟩
        ·
         intro vs2792 f w2886 S2858 X2681 le2858 hA2681 hK2792 hI2807
         have I2968 : Inv w2886 S2858 (X2681) := hI2807
         have q4854 : f 48 = (Value.bool (decide (x285 < 0))) := vt (hA2681.at_ 6 rfl _ rfl) rfl
         have q4855 : f 55 = undef := vt (hA2681.at_ 12 rfl _ rfl) rfl
         have q4856 : f 57 = undef := vt (hA2681.at_ 14 rfl _ rfl) rfl
         exact opg_skip (c := decide (x285 < 0)) rfl rfl rfl rfl q4854 hc92 rfl ⟨_, _, rfl, PH.Le.refl _, rfl, I2968⟩
        ·
         intro vs2793 f w2887 S2859 X2682 le2859 hA2682 hK2793 hI2808
         have I2969 : Inv w2887 S2859 (X2682) := hI2808
         have q4857 : f 48 = (Value.bool (decide (x285 < 0))) := vt (hA2682.at_ 6 rfl _ rfl) rfl
         have q4858 : f 58 = undef := vt (hA2682.at_ 15 rfl _ rfl) rfl
         exact opg_skip (c := decide (x285 < 0)) rfl rfl rfl rfl q4857 hc92 rfl ⟨_, _, rfl, PH.Le.refl _, rfl, I2969⟩
        ·
         intro vs2794 f w2888 S2860 X2683 le2860 hA2683 hK2794 hI2809
         have I2970 : Inv w2888 S2860 (X2683) := hI2809
         have q4859 : f 48 = (Value.bool (decide (x285 < 0))) := vt (hA2683.at_ 6 rfl _ rfl) rfl
         have q4860 : f 59 = undef := vt (hA2683.at_ 16 rfl _ rfl) rfl
         exact opg_skip (c := decide (x285 < 0)) rfl rfl rfl rfl q4859 hc92 rfl ⟨_, _, rfl, PH.Le.refl _, rfl, I2970⟩
        ·
         intro vs2795 f w2889 S2861 X2684 le2861 hA2684 hK2795 hI2810
         have I2971 : Inv w2889 S2861 (X2684) := hI2810
         have q4861 : f 48 = (Value.bool (decide (x285 < 0))) := vt (hA2684.at_ 6 rfl _ rfl) rfl
         have q4862 : f 49 = undef := vt (hA2684.at_ 7 rfl _ rfl) rfl
         have q4863 : f 60 = undef := vt (hA2684.at_ 18 rfl _ rfl) rfl
         exact opg_skip (c := decide (x285 < 0)) rfl rfl rfl rfl q4861 hc92 rfl ⟨_, _, rfl, PH.Le.refl _, rfl, I2971⟩
        ·
         intro vs2796 f w2890 S2862 X2685 le2862 hA2685 hK2796 hI2811
         have I2972 : Inv w2890 S2862 (X2685) := hI2811
         have q4864 : f 48 = (Value.bool (decide (x285 < 0))) := vt (hA2685.at_ 6 rfl _ rfl) rfl
         have q4865 : f 61 = undef := vt (hA2685.at_ 19 rfl _ rfl) rfl
         exact opg_skip (c := decide (x285 < 0)) rfl rfl rfl rfl q4864 hc92 rfl ⟨_, _, rfl, PH.Le.refl _, rfl, I2972⟩
        ·
         intro vs2797 f w2891 S2863 X2686 le2863 hA2686 hK2797 hI2812
         have I2973 : Inv w2891 S2863 (X2686) := hI2812
         have q4866 : f 48 = (Value.bool (decide (x285 < 0))) := vt (hA2686.at_ 6 rfl _ rfl) rfl
         exact opg_skip (c := decide (x285 < 0)) rfl rfl rfl rfl q4866 hc92 rfl ⟨_, _, rfl, PH.Le.refl _, rfl, I2973⟩
        ·
         intro vs2798 f w2892 S2864 X2687 le2864 hA2687 hK2798 hI2813
         have I2974 : Inv w2892 S2864 (X2687) := hI2813
         have q4867 : f 48 = (Value.bool (decide (x285 < 0))) := vt (hA2687.at_ 6 rfl _ rfl) rfl
         have q4868 : f 62 = undef := vt (hA2687.at_ 20 rfl _ rfl) rfl
         have q4869 : f 63 = undef := vt (hA2687.at_ 21 rfl _ rfl) rfl
         exact opg_skip (c := decide (x285 < 0)) rfl rfl rfl rfl q4867 hc92 rfl ⟨_, _, rfl, PH.Le.refl _, rfl, I2974⟩
        ·
         intro vs2799 f w2893 S2865 X2688 le2865 hA2688 hK2799 hI2814
         have I2975 : Inv w2893 S2865 (X2688) := hI2814
         have q4870 : f 48 = (Value.bool (decide (x285 < 0))) := vt (hA2688.at_ 6 rfl _ rfl) rfl
         have q4871 : f 64 = undef := vt (hA2688.at_ 22 rfl _ rfl) rfl
         refine opg_plain rfl rfl (op_pick_f (c := decide (x285 < 0)) (b := (Value.bool (false))) rfl q4870 hc92 rfl ?_)
         refine ⟨_, _, rfl, PH.Le.refl _, ?_, ?_⟩
         ·
          exact rfl
         ·
          exact I2975
        ·
         intro vs2800 f w2894 S2866 le2866 hF112 hK2800 hI2815
         have e1729 : f 1 = (Value.slice z3 m3 k3) := (hK2800 1 (keep_all rfl)).trans e1687
         have e1730 : f 3 = (Value.pointer (some ⟨g1, 0, none⟩)) := (hK2800 3 (keep_all rfl)).trans e1688
         have e1731 : f 7 = (Value.slice z5 m5 k5) := (hK2800 7 (keep_all rfl)).trans e1689
         have e1732 : f 9 = (Value.bool (s9.2)) := (hK2800 9 (keep_all rfl)).trans e1690
         have e1733 : f 10 = (Value.int .i64 (s8.2.2)) := (hK2800 10 (keep_all rfl)).trans e1691
         have e1734 : f 11 = (Value.int .i64 ((i7 : Int))) := (hK2800 11 (keep_all rfl)).trans e1692
         have e1735 : f 12 = (Value.pointer (some ⟨g29, 0, none⟩)) := (hK2800 12 (keep_all rfl)).trans rfl
         have I2976 : Inv w2894 S2866 (Cells g29 99 #[(Value.int .i64 (x280.position)), (Value.int .i64 (x280.edge))] :: Row (α := Int) 3 (Value.slice z5 m5 k5) (s9.1) :: Fr) := hI2815
         have q4872 : f 65 = (Value.bool (false)) := vt (hF112.at_ 23 rfl _ rfl) rfl
         obtain rfl := Option.some.inj h101
         exact ⟨_, le2866, (I2976.pull 1), e1729, e1730, e1731, e1732, e1733, e1734, e1735, q4872⟩
      ·
       rintro f w ⟨S2867, le2867, I2977, e1736, e1737, e1738, e1739, e1740, e1741, e1742, e1743⟩
       rcases ifs h98 with ⟨hc93, h98⟩ | ⟨hc93, h98⟩
       ·
        refine wp_cond_t (b := v28) e1743 hc93 ?_
        refine wp_seq' ?_
        refine wp_region' ?_
        refine wl_op rfl (op_move (v := (Value.slice z5 m5 k5)) rfl e1738 ?_)
        refine wl_op rfl (op_fieldAddr (v := (Value.pointer (some ⟨g29, 0, none⟩))) rfl fa99_0 e1742 rfl ?_)
        refine wl_op rfl (op_load1 (c := (Value.int .i64 (x280.position))) rfl sh3 (I2977.nth 1 rfl) rfl rfl ?_)
        refine wl_op rfl (op_move (v := (Value.int .i64 (s8.2.2))) rfl e1740 ?_)
        refine wl_op rfl (op_add (a := s8.2.2) (b := 1) rfl rfl rfl ?_)
        obtain ⟨x289, hx289, h98⟩ := bnd h98
        refine wl_op rfl (op_indexAddr_src (v := (Value.slice z5 m5 k5)) (i := x280.position) (e := x289) rfl Try.underlying26 sh3 rfl (Inv.rowSrc (I2977.nth 0 rfl)) rfl hx289 ?_)
        refine wl_op rfl (op_storeRow (u := (Value.int .i64 (w64 (s8.2.2 + 1)))) (e' := w64 (s8.2.2 + 1)) sh3 I2977 rfl rfl hx289 (rv_int' _) (fun w2895 I2978 => ?_))
        refine wl_nil ?_
        refine wp_region' ?_
        refine wl_op rfl (op_assign (v := (Value.bool (true))) rfl rfl ?_)
        refine wl_nil ?_
        refine wp_region' ?_
        refine wl_op rfl (op_move (v := (Value.int .i64 ((i7 : Int)))) rfl e1741 ?_)
        refine wl_op rfl (op_add (a := (i7 : Int)) (b := 1) rfl rfl rfl ?_)
        refine wl_op rfl (op_assign (v := (Value.int .i64 (w64 ((i7 : Int) + 1)))) rfl rfl ?_)
        refine wl_nil ?_
        obtain rfl := Option.some.inj h98
        exact ⟨_, (le2766.trans le2867), (I2978.pull 1).drop, e1736, e1737, e1738, rfl, e1740, (idx_next hlt7 hk7)⟩
       ·
        refine wp_cond_f (b := v28) e1743 hc93 ?_
        refine wp_skip' ?_
        refine wp_region' ?_
        refine wl_op rfl (op_move (v := (Value.int .i64 ((i7 : Int)))) rfl e1741 ?_)
        refine wl_op rfl (op_add (a := (i7 : Int)) (b := 1) rfl rfl rfl ?_)
        refine wl_op rfl (op_assign (v := (Value.int .i64 (w64 ((i7 : Int) + 1)))) rfl rfl ?_)
        refine wl_nil ?_
        obtain rfl := Option.some.inj h98
        exact ⟨_, (le2766.trans le2867), (I2977.pull 1).drop, e1736, e1737, e1738, e1739, e1740, (idx_next hlt7 hk7)⟩
     ·
      rintro f w hI2816
      obtain ⟨S2868, le2868, I2979, e1744, e1745, e1746, e1747, e1748, e1749⟩ := hI2816
      refine wp_seq' ?_
      refine wp_seq' ?_
      refine wp_region' ?_
      refine wl_op rfl (op_move (v := (Value.int .i64 ((a1.length : Int)))) rfl e1749 ?_)
      refine wl_op rfl (op_move (v := (Value.slice z3 m3 k3)) rfl e1744 ?_)
      refine wl_op rfl (op_len_rv rfl Try.underlying94 rfl (h1_.mono ((le1.trans le2460).trans le2868)) ?_)
      refine wl_op rfl (op_lss (a := (a1.length : Int)) (b := (a1.length : Int)) rfl rfl rfl ?_)
      refine wl_nil ?_
      refine wp_cond_f (b := decide ((a1.length : Int) < (a1.length : Int))) rfl (len_f _) ?_
      refine wp_exit' ?_
      exact ⟨_, le2868, I2979, e1744, e1745, e1746, e1747, e1748⟩
    ·
     rintro f w ⟨S2869, le2869, I2980, e1750, e1751, e1752, e1753, e1754⟩
     refine wp_region' ?_
     refine wl_op rfl (op_move (v := (Value.int .i64 (s8.2.2))) rfl e1754 ?_)
     refine wl_op rfl (op_add (a := s8.2.2) (b := 1) rfl rfl rfl ?_)
     refine wl_op rfl (op_assign (v := (Value.int .i64 (w64 (s8.2.2 + 1)))) rfl rfl ?_)
     refine wl_nil ?_
     obtain rfl := Option.some.inj h87
     exact ⟨_, rfl, _, (le2460.trans le2869), I2980, e1750, e1751, e1752, e1753, rfl⟩
   ·
    refine wp_cond_f (b := s8.2.1) rfl hc81 ?_
    refine wp_exit' ?_
    obtain rfl := Option.some.inj h87
    obtain rfl := (hout8 _ rfl)
    exact ⟨_, le2460, I2558, e1511, e1512, e1513, e1514, e1515⟩
  ·
   rintro f w ⟨S2870, le2870, I2981, e1755, e1756, e1757, e1758, e1759⟩
   refine wp_seq' ?_
   refine wp_region' ?_
   refine wl_op rfl (op_move (v := (Value.slice z5 m5 k5)) rfl e1757 ?_)
   refine wl_op rfl (op_assign (v := (Value.slice z5 m5 k5)) rfl rfl ?_)
   refine wl_nil ?_
   refine wp_ret' ?_
   obtain rfl := Option.some.inj h
   exact ⟨(Value.slice z5 m5 k5), (res1 rfl rfl), _, [Row (α := Int) 3 (Value.slice z5 m5 k5) (out8.1)], (le1.trans le2870), I2981, _, _, _, rfl, rfl⟩

set_option maxHeartbeats 4000000 in
set_option maxRecDepth 100000 in
theorem F71_ok {w : World} {S : PH} {Fr : List HP} {a0 : Graph} {v0 : Value} {a1 : (List Ref06_gone)} {v1 : Value} {a2 : Int} {r : Int} (hI : Inv w S (Fr)) (h0_ : RV S v0 a0) (h1_ : RV S v1 a1) (h : F71 a0 a1 a2 = some r) :
    Calls Try.prog 71 [v0, v1, (Value.int .i64 (a2))].toArray w (DoneV S Fr (Value.int .i64 (r))) := by
 unfold F71 at h
 obtain ⟨c1, c2, e1, r1, r2⟩ := Graph.inv h0_
 subst e1
 obtain ⟨z1, m1, k1, e2⟩ := rv_form r1
 subst e2
 obtain ⟨z2, m2, k2, e3⟩ := rv_form r2
 subst e3
 obtain ⟨z3, m3, k3, e4⟩ := rv_form h1_
 subst e4
 refine calls_enter (n := 85) (vs := [(Value.agg #[(Value.slice z1 m1 k1), (Value.slice z2 m2 k2)]), (Value.slice z3 m3 k3), (Value.int .i64 (a2))]) Try.func71 rfl rfl rfl ?_
 refine wp_seq' ?_
 refine wp_region' ?_
 refine wl_op rfl (op_box (v := (Value.agg #[(Value.slice z1 m1 k1), (Value.slice z2 m2 k2)])) rfl hI rfl (fun g1 w1 I1 => ?_))
 obtain ⟨S1, le1, I2, p1⟩ := Inv.boxFreeze (x := a0) I1 (Graph.rv (s := a0) r1 r2)
 refine wl_op rfl (op_assign (v := (Value.int .i64 (0))) rfl rfl ?_)
 refine wl_nil ?_
 refine wp_seq' ?_
 refine wp_region' ?_
 refine wl_op rfl (op_assign (v := (Value.int .i64 ((-1)))) rfl rfl ?_)
 refine wl_op rfl (op_assign (v := (Value.int .i64 (0))) rfl rfl ?_)
 refine wl_nil ?_
 refine wp_seq' ?_
 refine wp_seq' ?_
 refine wp_region' ?_
 refine wl_op rfl (op_assign (v := (Value.int .i64 (0))) rfl rfl ?_)
 refine wl_nil ?_
 have hk1 : a0.Edges.length ≤ 9223372036854775807 := (rv_len r2)
 obtain ⟨out1, hrun1, h⟩ := bnd h
 refine wp_cutN (fun f w => ∃ (S_ : PH), S1.Le S_ ∧ Inv w S_ (Fr) ∧ f 1 = (Value.slice z3 m3 k3) ∧ f 2 = (Value.int .i64 (a2)) ∧ f 3 = (Value.pointer (some ⟨g1, 0, none⟩)) ∧ f 7 = (Value.int .i64 (out1.1)) ∧ f 8 = (Value.int .i64 (out1.2))) ?_ ?_
 ·
  refine wp_block' ?_
  refine wp_forS (I := fun (i1 : Nat) (s1 : (Int × Int)) (f : Frm) (w : World) => ∃ (S_ : PH), S1.Le S_ ∧ Inv w S_ (Fr) ∧ f 1 = (Value.slice z3 m3 k3) ∧ f 2 = (Value.int .i64 (a2)) ∧ f 3 = (Value.pointer (some ⟨g1, 0, none⟩)) ∧ f 7 = (Value.int .i64 (s1.1)) ∧ f 8 = (Value.int .i64 (s1.2)) ∧ f 9 = (Value.int .i64 (i1 : Int))) hrun1 ⟨_, (PH.Le.refl _), I2, rfl, rfl, rfl, rfl, rfl, rfl⟩ ?_ ?_
  ·
   rintro i1 s1 f w o1 hlt1 hI1 h1
   obtain ⟨S7, le7, I12, e49, e50, e51, e52, e53, e54⟩ := hI1
   refine wp_seq' ?_
   refine wp_seq' ?_
   refine wp_region' ?_
   refine wl_op rfl (op_move (v := (Value.int .i64 ((i1 : Int)))) rfl e54 ?_)
   refine wl_op rfl (op_fieldAddr_t (v := (Value.pointer (some ⟨g1, 0, none⟩))) rfl fa25_1 e51 ((p1.mono le7).at_ I12) ?_)
   refine wl_op rfl (op_load (v := (fieldPtr (Value.pointer (some ⟨g1, 0, none⟩)) 1)) (e := a0.Edges) rfl sh23 rfl (((p1.mono le7).at_ I12).fld Graph.fld1) (fun u16 hu16 => ?_))
   obtain ⟨z28, m28, k28, e56⟩ := rv_form hu16
   subst e56
   refine wl_op rfl (op_len_rv rfl Try.underlying23 rfl hu16 ?_)
   refine wl_op rfl (op_lss (a := (i1 : Int)) (b := (a0.Edges.length : Int)) rfl rfl rfl ?_)
   refine wl_nil ?_
   refine wp_cond_t (b := decide ((i1 : Int) < (a0.Edges.length : Int))) rfl (len_t hlt1) ?_
   refine wp_skip' ?_
   refine wp_seq' ?_
   refine wp_block' ?_
   refine wp_seq' ?_
   refine wp_seq' ?_
   refine wp_region' ?_
   refine wl_op rfl (op_load (v := (Value.pointer (some ⟨g1, 0, none⟩))) (e := a0) rfl sh25 e51 ((p1.mono le7).at_ I12) (fun u17 hu17 => ?_))
   obtain ⟨c15, c16, e57, r15, r16⟩ := Graph.inv hu17
   subst e57
   obtain ⟨z29, m29, k29, e58⟩ := rv_form r15
   subst e58
   obtain ⟨z30, m30, k30, e59⟩ := rv_form r16
   subst e59
   refine wl_op rfl (op_move (v := (Value.slice z3 m3 k3)) rfl e49 ?_)
   refine wl_op rfl (op_move (v := (Value.int .i64 ((i1 : Int)))) rfl e54 ?_)
   obtain ⟨x10, hx10, h1⟩ := bnd h1
   refine wl_op rfl (op_call_v (vs := [(Value.agg #[(Value.slice z29 m29 k29), (Value.slice z30 m30 k30)]), (Value.slice z3 m3 k3), (Value.int .i64 ((i1 : Int))), (Value.int .i64 (0))]) (r := (Value.int .i64 (x10))) rfl ca70 rfl (args4 rfl rfl rfl rfl) I12 (fun Fr_ hF_ => F70_ok hF_ (Graph.rv (s := a0) r15 r16) (h1_.mono (le1.trans le7)) hx10) (fun w8 I13 => ?_))
   refine wl_op rfl (op_lss (a := x10) (b := 0) rfl rfl rfl ?_)
   refine wl_nil ?_
   rcases ifs h1 with ⟨hc13, h1⟩ | ⟨hc13, h1⟩
   ·
    refine wp_cond_t (b := decide (x10 < 0)) rfl hc13 ?_
    refine wp_exit' ?_
    refine wp_region' ?_
    refine wl_op rfl (op_move (v := (Value.int .i64 ((i1 : Int)))) rfl e54 ?_)
    refine wl_op rfl (op_add (a := (i1 : Int)) (b := 1) rfl rfl rfl ?_)
    refine wl_op rfl (op_assign (v := (Value.int .i64 (w64 ((i1 : Int) + 1)))) rfl rfl ?_)
    refine wl_nil ?_
    obtain rfl := Option.some.inj h1
    exact ⟨_, le7, I13, e49, e50, e51, e52, e53, (idx_next hlt1 hk1)⟩
   ·
    refine wp_cond_f (b := decide (x10 < 0)) rfl hc13 ?_
    refine wp_skip' ?_
    refine wp_seq' ?_
    refine wp_region' ?_
    refine wl_op rfl (op_load (v := (Value.pointer (some ⟨g1, 0, none⟩))) (e := a0) rfl sh25 e51 ((p1.mono le7).at_ I13) (fun u18 hu18 => ?_))
    obtain ⟨c17, c18, e60, r17, r18⟩ := Graph.inv hu18
    subst e60
    obtain ⟨z31, m31, k31, e61⟩ := rv_form r17
    subst e61
    obtain ⟨z32, m32, k32, e62⟩ := rv_form r18
    subst e62
    refine wl_op rfl (op_move (v := (Value.slice z3 m3 k3)) rfl e49 ?_)
    refine wl_op rfl (op_move (v := (Value.int .i64 ((i1 : Int)))) rfl e54 ?_)
    obtain ⟨x11, hx11, h1⟩ := bnd h1
    refine wl_op rfl (op_call (vs := [(Value.agg #[(Value.slice z31 m31 k31), (Value.slice z32 m32 k32)]), (Value.slice z3 m3 k3), (Value.int .i64 ((i1 : Int)))]) rfl ca85 rfl (args3 rfl rfl rfl) (F85_ok I13 (Graph.rv (s := a0) r17 r18) (h1_.mono (le1.trans le7)) hx11) (fun v4 w9 S8 O4 le8 I14 hv4 => ?_))
    obtain ⟨z33, m33, k33, rfl, rfl⟩ := hv4
    refine wl_op rfl (op_move (v := (Value.int .i64 (a2))) rfl e50 ?_)
    obtain ⟨x12, hx12, h1⟩ := bnd h1
    refine wl_op rfl (op_indexAddr_src (v := (Value.slice z33 m33 k33)) (i := a2) (e := x12) rfl Try.underlying26 sh3 rfl (Inv.rowSrc (I14.nth 0 rfl)) rfl hx12 ?_)
    refine wl_op rfl (op_load_int (v := (elemPtr (Value.slice z33 m33 k33) (a2) (Enc.sz Int))) (e := x12) rfl sh3 rfl ((I14.nth 0 rfl).rowElem hx12) ?_)
    refine wl_op rfl (op_assign (v := (Value.int .i64 (x12))) rfl rfl ?_)
    refine wl_nil ?_
    refine wp_seq' ?_
    refine wp_region' ?_
    refine wl_op rfl (op_move (v := (Value.int .i64 (x12))) rfl rfl ?_)
    refine wl_op rfl (op_gtr (a := x12) (b := 0) rfl rfl rfl ?_)
    refine wl_op rfl (op_move (v := (Value.bool (decide (0 < x12)))) rfl rfl ?_)
    rcases ifs h1 with ⟨hc14, h1⟩ | ⟨hc14, h1⟩
    ·
     refine wl_taken (c := decide (0 < x12)) rfl rfl rfl rfl hc14 (op_move (v := (Value.int .i64 (s1.1))) rfl e52 ?_)
     refine wl_taken (c := decide (0 < x12)) rfl rfl rfl rfl hc14 (op_lss (a := s1.1) (b := 0) rfl rfl rfl ?_)
     refine wl_taken (c := decide (0 < x12)) rfl rfl rfl rfl hc14 (op_move (v := (Value.bool (decide (s1.1 < 0)))) rfl rfl ?_)
     rcases ifs h1 with ⟨hc15, h1⟩ | ⟨hc15, h1⟩
     ·
      refine wl_skip (c := decide (s1.1 < 0)) rfl rfl rfl rfl hc15 rfl ?_
      refine wl_skip (c := decide (s1.1 < 0)) rfl rfl rfl rfl hc15 rfl ?_
      refine wl_skip (c := decide (s1.1 < 0)) rfl rfl rfl rfl hc15 rfl ?_
      refine wl_taken (c := decide (0 < x12)) rfl rfl rfl rfl hc14 (op_pick_t (c := decide (s1.1 < 0)) (a := (Value.bool (true))) rfl rfl hc15 rfl ?_)
      refine wl_op rfl (op_pick_t (c := decide (0 < x12)) (a := (Value.bool (true))) rfl rfl hc14 rfl ?_)
      refine wl_nil ?_
      refine wp_cond_t (b := true) rfl rfl ?_
      refine wp_seq' ?_
      refine wp_region' ?_
      refine wl_op rfl (op_move (v := (Value.int .i64 ((i1 : Int)))) rfl e54 ?_)
      refine wl_op rfl (op_assign (v := (Value.int .i64 ((i1 : Int)))) rfl rfl ?_)
      refine wl_nil ?_
      refine wp_region' ?_
      refine wl_op rfl (op_move (v := (Value.int .i64 (x12))) rfl rfl ?_)
      refine wl_op rfl (op_assign (v := (Value.int .i64 (x12))) rfl rfl ?_)
      refine wl_nil ?_
      refine wp_region' ?_
      refine wl_op rfl (op_move (v := (Value.int .i64 ((i1 : Int)))) rfl e54 ?_)
      refine wl_op rfl (op_add (a := (i1 : Int)) (b := 1) rfl rfl rfl ?_)
      refine wl_op rfl (op_assign (v := (Value.int .i64 (w64 ((i1 : Int) + 1)))) rfl rfl ?_)
      refine wl_nil ?_
      obtain rfl := Option.some.inj h1
      exact ⟨_, (le7.trans le8), (I14).drop, e49, e50, e51, rfl, rfl, (idx_next hlt1 hk1)⟩
     ·
      refine wl_taken (c := decide (s1.1 < 0)) rfl rfl rfl rfl hc15 (op_move (v := (Value.int .i64 (x12))) rfl rfl ?_)
      refine wl_taken (c := decide (s1.1 < 0)) rfl rfl rfl rfl hc15 (op_move (v := (Value.int .i64 (s1.2))) rfl e53 ?_)
      refine wl_taken (c := decide (s1.1 < 0)) rfl rfl rfl rfl hc15 (op_lss (a := x12) (b := s1.2) rfl rfl rfl ?_)
      refine wl_taken (c := decide (0 < x12)) rfl rfl rfl rfl hc14 (op_pick_f (c := decide (s1.1 < 0)) (b := (Value.bool (decide (x12 < s1.2)))) rfl rfl hc15 rfl ?_)
      refine wl_op rfl (op_pick_t (c := decide (0 < x12)) (a := (Value.bool (decide (x12 < s1.2)))) rfl rfl hc14 rfl ?_)
      refine wl_nil ?_
      rcases ifs h1 with ⟨hc16, h1⟩ | ⟨hc16, h1⟩
      ·
       refine wp_cond_t (b := decide (x12 < s1.2)) rfl hc16 ?_
       refine wp_seq' ?_
       refine wp_region' ?_
       refine wl_op rfl (op_move (v := (Value.int .i64 ((i1 : Int)))) rfl e54 ?_)
       refine wl_op rfl (op_assign (v := (Value.int .i64 ((i1 : Int)))) rfl rfl ?_)
       refine wl_nil ?_
       refine wp_region' ?_
       refine wl_op rfl (op_move (v := (Value.int .i64 (x12))) rfl rfl ?_)
       refine wl_op rfl (op_assign (v := (Value.int .i64 (x12))) rfl rfl ?_)
       refine wl_nil ?_
       refine wp_region' ?_
       refine wl_op rfl (op_move (v := (Value.int .i64 ((i1 : Int)))) rfl e54 ?_)
       refine wl_op rfl (op_add (a := (i1 : Int)) (b := 1) rfl rfl rfl ?_)
       refine wl_op rfl (op_assign (v := (Value.int .i64 (w64 ((i1 : Int) + 1)))) rfl rfl ?_)
       refine wl_nil ?_
       obtain rfl := Option.some.inj h1
       exact ⟨_, (le7.trans le8), (I14).drop, e49, e50, e51, rfl, rfl, (idx_next hlt1 hk1)⟩
      ·
       refine wp_cond_f (b := decide (x12 < s1.2)) rfl hc16 ?_
       refine wp_skip' ?_
       refine wp_region' ?_
       refine wl_op rfl (op_move (v := (Value.int .i64 ((i1 : Int)))) rfl e54 ?_)
       refine wl_op rfl (op_add (a := (i1 : Int)) (b := 1) rfl rfl rfl ?_)
       refine wl_op rfl (op_assign (v := (Value.int .i64 (w64 ((i1 : Int) + 1)))) rfl rfl ?_)
       refine wl_nil ?_
       obtain rfl := Option.some.inj h1
       exact ⟨_, (le7.trans le8), (I14).drop, e49, e50, e51, e52, e53, (idx_next hlt1 hk1)⟩
    ·
     refine wl_skip (c := decide (0 < x12)) rfl rfl rfl rfl hc14 rfl ?_
     refine wl_skip (c := decide (0 < x12)) rfl rfl rfl rfl hc14 rfl ?_
     refine wl_skip (c := decide (0 < x12)) rfl rfl rfl rfl hc14 rfl ?_
     refine wl_skip_u rfl rfl rfl rfl rfl ?_
     refine wl_skip_u rfl rfl rfl rfl rfl ?_
     refine wl_skip_u rfl rfl rfl rfl rfl ?_
     refine wl_skip (c := decide (0 < x12)) rfl rfl rfl rfl hc14 rfl ?_
     refine wl_op rfl (op_pick_f (c := decide (0 < x12)) (b := (Value.bool (false))) rfl rfl hc14 rfl ?_)
     refine wl_nil ?_
     refine wp_cond_f (b := false) rfl rfl ?_
     refine wp_skip' ?_
     refine wp_region' ?_
     refine wl_op rfl (op_move (v := (Value.int .i64 ((i1 : Int)))) rfl e54 ?_)
     refine wl_op rfl (op_add (a := (i1 : Int)) (b := 1) rfl rfl rfl ?_)
     refine wl_op rfl (op_assign (v := (Value.int .i64 (w64 ((i1 : Int) + 1)))) rfl rfl ?_)
     refine wl_nil ?_
     obtain rfl := Option.some.inj h1
     exact ⟨_, (le7.trans le8), (I14).drop, e49, e50, e51, e52, e53, (idx_next hlt1 hk1)⟩
  ·
   rintro f w hI2
   obtain ⟨S9, le9, I15, e63, e64, e65, e66, e67, e68⟩ := hI2
   refine wp_seq' ?_
   refine wp_seq' ?_
   refine wp_region' ?_
   refine wl_op rfl (op_move (v := (Value.int .i64 ((a0.Edges.length : Int)))) rfl e68 ?_)
   refine wl_op rfl (op_fieldAddr_t (v := (Value.pointer (some ⟨g1, 0, none⟩))) rfl fa25_1 e65 ((p1.mono le9).at_ I15) ?_)
   refine wl_op rfl (op_load (v := (fieldPtr (Value.pointer (some ⟨g1, 0, none⟩)) 1)) (e := a0.Edges) rfl sh23 rfl (((p1.mono le9).at_ I15).fld Graph.fld1) (fun u20 hu20 => ?_))
   obtain ⟨z35, m35, k35, e70⟩ := rv_form hu20
   subst e70
   refine wl_op rfl (op_len_rv rfl Try.underlying23 rfl hu20 ?_)
   refine wl_op rfl (op_lss (a := (a0.Edges.length : Int)) (b := (a0.Edges.length : Int)) rfl rfl rfl ?_)
   refine wl_nil ?_
   refine wp_cond_f (b := decide ((a0.Edges.length : Int) < (a0.Edges.length : Int))) rfl (len_f _) ?_
   refine wp_exit' ?_
   exact ⟨_, le9, I15, e63, e64, e65, e66, e67⟩
 ·
  rintro f w ⟨S10, le10, I16, e71, e72, e73, e74, e75⟩
  refine wp_seq' ?_
  refine wp_seq' ?_
  refine wp_region' ?_
  refine wl_op rfl (op_move (v := (Value.int .i64 (out1.1))) rfl e74 ?_)
  refine wl_op rfl (op_lss (a := out1.1) (b := 0) rfl rfl rfl ?_)
  refine wl_nil ?_
  rcases ifs h with ⟨hc17, h⟩ | ⟨hc17, h⟩
  ·
   refine wp_cond_t (b := decide (out1.1 < 0)) rfl hc17 ?_
   refine wp_seq' ?_
   refine wp_region' ?_
   refine wl_op rfl (op_assign (v := (Value.int .i64 ((-1)))) rfl rfl ?_)
   refine wl_nil ?_
   refine wp_ret' ?_
   obtain rfl := Option.some.inj h
   exact ⟨(Value.int .i64 ((-1))), (res1 rfl rfl), _, [], (le1.trans le10), I16, rfl, rfl⟩
  ·
   refine wp_cond_f (b := decide (out1.1 < 0)) rfl hc17 ?_
   refine wp_skip' ?_
   refine wp_seq' ?_
   refine wp_region' ?_
   refine wl_op rfl (op_load (v := (Value.pointer (some ⟨g1, 0, none⟩))) (e := a0) rfl sh25 e73 ((p1.mono le10).at_ I16) (fun u21 hu21 => ?_))
   obtain ⟨c19, c20, e76, r19, r20⟩ := Graph.inv hu21
   subst e76
   obtain ⟨z36, m36, k36, e77⟩ := rv_form r19
   subst e77
   obtain ⟨z37, m37, k37, e78⟩ := rv_form r20
   subst e78
   refine wl_op rfl (op_move (v := (Value.slice z3 m3 k3)) rfl e71 ?_)
   refine wl_op rfl (op_move (v := (Value.int .i64 (out1.1))) rfl e74 ?_)
   obtain ⟨x13, hx13, h⟩ := bnd h
   refine wl_op rfl (op_call (vs := [(Value.agg #[(Value.slice z36 m36 k36), (Value.slice z37 m37 k37)]), (Value.slice z3 m3 k3), (Value.int .i64 (out1.1))]) rfl ca85 rfl (args3 rfl rfl rfl) (F85_ok I16 (Graph.rv (s := a0) r19 r20) (h1_.mono (le1.trans le10)) hx13) (fun v5 w10 S11 O5 le11 I17 hv5 => ?_))
   obtain ⟨z38, m38, k38, rfl, rfl⟩ := hv5
   refine wl_op rfl (op_assign (v := (Value.slice z38 m38 k38)) rfl rfl ?_)
   refine wl_nil ?_
   refine wp_seq' ?_
   refine wp_seq' ?_
   refine wp_region' ?_
   refine wl_op rfl (op_assign (v := (Value.int .i64 (0))) rfl rfl ?_)
   refine wl_nil ?_
   obtain ⟨o3, hrun2, h⟩ := bnd h
   refine wp_cutN (fun f w => ∃ out2, o3 = Sum.inl out2 ∧ Inv w S11 (Row (α := Int) 3 (Value.slice z38 m38 k38) (x13) :: Fr) ∧ f 1 = (Value.slice z3 m3 k3) ∧ f 2 = (Value.int .i64 (a2)) ∧ f 3 = (Value.pointer (some ⟨g1, 0, none⟩)) ∧ f 8 = (Value.int .i64 (out1.2)) ∧ f 11 = (Value.slice z38 m38 k38) ∧ f 12 = (Value.int .i64 (out2))) ?_ ?_
   ·
    refine wp_block' ?_
    refine wp_whileO (I := fun (s2 : (Int)) (f : Frm) (w : World) => Inv w S11 (Row (α := Int) 3 (Value.slice z38 m38 k38) (x13) :: Fr) ∧ f 1 = (Value.slice z3 m3 k3) ∧ f 2 = (Value.int .i64 (a2)) ∧ f 3 = (Value.pointer (some ⟨g1, 0, none⟩)) ∧ f 8 = (Value.int .i64 (out1.2)) ∧ f 11 = (Value.slice z38 m38 k38) ∧ f 12 = (Value.int .i64 (s2))) hrun2 ⟨I17, e71, e72, e73, e75, rfl, rfl⟩ ?_
    rintro s2 f w o2 hI3 h3 hout2
    obtain ⟨I25, e117, e118, e119, e120, e121, e122⟩ := hI3
    refine wp_seq' ?_
    refine wp_seq' ?_
    refine wp_region' ?_
    refine wl_op rfl (op_move (v := (Value.int .i64 (s2))) rfl e122 ?_)
    refine wl_op rfl (op_fieldAddr_t (v := (Value.pointer (some ⟨g1, 0, none⟩))) rfl fa25_1 e119 ((p1.mono (le10.trans le11)).at_ I25) ?_)
    refine wl_op rfl (op_load (v := (fieldPtr (Value.pointer (some ⟨g1, 0, none⟩)) 1)) (e := a0.Edges) rfl sh23 rfl (((p1.mono (le10.trans le11)).at_ I25).fld Graph.fld1) (fun u36 hu36 => ?_))
    obtain ⟨z53, m53, k53, e123⟩ := rv_form hu36
    subst e123
    refine wl_op rfl (op_move (v := (Value.int .i64 (a2))) rfl e118 ?_)
    obtain ⟨x30, hx30, h3⟩ := bnd h3
    refine wl_op rfl (op_indexAddr_rv (v := (Value.slice z53 m53 k53)) (i := a2) (e := x30) rfl Try.underlying23 sh40 rfl hu36 rfl hx30 ?_)
    refine wl_op rfl (op_load (v := (elemPtr (Value.slice z53 m53 k53) (a2) (Enc.sz (List Edge)))) (e := x30) rfl sh40 rfl (hu36.elem I25.in_ hx30) (fun u37 hu37 => ?_))
    obtain ⟨z54, m54, k54, e124⟩ := rv_form hu37
    subst e124
    refine wl_op rfl (op_len_rv rfl Try.underlying40 rfl hu37 ?_)
    refine wl_op rfl (op_lss (a := s2) (b := (x30.length : Int)) rfl rfl rfl ?_)
    refine wl_nil ?_
    rcases ifs h3 with ⟨hc27, h3⟩ | ⟨hc27, h3⟩
    ·
     refine wp_cond_t (b := decide (s2 < (x30.length : Int))) rfl hc27 ?_
     refine wp_skip' ?_
     refine wp_seq' ?_
     refine wp_block' ?_
     refine wp_seq' ?_
     refine wp_region' ?_
     refine wl_op rfl (op_move (v := (Value.slice z3 m3 k3)) rfl e117 ?_)
     refine wl_op rfl (op_move (v := (Value.int .i64 (a2))) rfl e118 ?_)
     refine wl_op rfl (op_move (v := (Value.int .i64 (s2))) rfl e122 ?_)
     refine wl_op rfl (op_build (qs := [(0, #[(Value.int .i64 (a2))]), (1, #[(Value.int .i64 (s2))])]) (c := #[(Value.int .i64 (a2)), (Value.int .i64 (s2))]) rfl st99 ⟨rfl, rfl, ⟨rfl, rfl, trivial⟩⟩ rfl ?_)
     obtain ⟨x31, hx31, h3⟩ := bnd h3
     refine wl_op rfl (op_call_v (vs := [(Value.slice z3 m3 k3), (Value.agg #[(Value.int .i64 (a2)), (Value.int .i64 (s2))])]) (r := (Value.int .i64 (x31))) rfl ca73 rfl (args2 rfl rfl) I25 (fun Fr_ hF_ => F73_ok hF_ (h1_.mono ((le1.trans le10).trans le11)) (Ref06_gone.rv (s := (⟨a2, s2⟩ : Ref06_gone))) hx31) (fun w14 I26 => ?_))
     refine wl_op rfl (op_geq (a := x31) (b := 0) rfl rfl rfl ?_)
     refine wl_op rfl (op_move (v := (Value.bool (decide (0 ≤ x31)))) rfl rfl ?_)
     rcases ifs h3 with ⟨hc28, h3⟩ | ⟨hc28, h3⟩
     ·
      refine wl_taken (c := decide (0 ≤ x31)) rfl rfl rfl rfl hc28 (op_move (v := (Value.slice z38 m38 k38)) rfl e121 ?_)
      refine wl_taken (c := decide (0 ≤ x31)) rfl rfl rfl rfl hc28 (op_fieldAddr_t (v := (Value.pointer (some ⟨g1, 0, none⟩))) rfl fa25_1 e119 ((p1.mono (le10.trans le11)).at_ I26) ?_)
      refine wl_taken (c := decide (0 ≤ x31)) rfl rfl rfl rfl hc28 (op_load (v := (fieldPtr (Value.pointer (some ⟨g1, 0, none⟩)) 1)) (e := a0.Edges) rfl sh23 rfl (((p1.mono (le10.trans le11)).at_ I26).fld Graph.fld1) (fun u38 hu38 => ?_))
      obtain ⟨z55, m55, k55, e125⟩ := rv_form hu38
      subst e125
      refine wl_taken (c := decide (0 ≤ x31)) rfl rfl rfl rfl hc28 (op_move (v := (Value.int .i64 (a2))) rfl e118 ?_)
      obtain ⟨x32, hx32, h3⟩ := bnd h3
      refine wl_taken (c := decide (0 ≤ x31)) rfl rfl rfl rfl hc28 (op_indexAddr_rv (v := (Value.slice z55 m55 k55)) (i := a2) (e := x32) rfl Try.underlying23 sh40 rfl hu38 rfl hx32 ?_)
      refine wl_taken (c := decide (0 ≤ x31)) rfl rfl rfl rfl hc28 (op_load (v := (elemPtr (Value.slice z55 m55 k55) (a2) (Enc.sz (List Edge)))) (e := x32) rfl sh40 rfl (hu38.elem I26.in_ hx32) (fun u39 hu39 => ?_))
      obtain ⟨z56, m56, k56, e126⟩ := rv_form hu39
      subst e126
      refine wl_taken (c := decide (0 ≤ x31)) rfl rfl rfl rfl hc28 (op_move (v := (Value.int .i64 (s2))) rfl e122 ?_)
      obtain ⟨x33, hx33, h3⟩ := bnd h3
      refine wl_taken (c := decide (0 ≤ x31)) rfl rfl rfl rfl hc28 (op_indexAddr_rv (v := (Value.slice z56 m56 k56)) (i := s2) (e := x33) rfl Try.underlying40 sh44 rfl hu39 rfl hx33 ?_)
      refine wl_taken (c := decide (0 ≤ x31)) rfl rfl rfl rfl hc28 (op_fieldAddr_t (v := (elemPtr (Value.slice z56 m56 k56) (s2) (Enc.sz Edge))) rfl fa44_1 rfl (hu39.elem I26.in_ hx33) ?_)
      refine wl_taken (c := decide (0 ≤ x31)) rfl rfl rfl rfl hc28 (op_load_int (v := (fieldPtr (elemPtr (Value.slice z56 m56 k56) (s2) (Enc.sz Edge)) 3)) (e := x33.To) rfl sh3 rfl ((hu39.elem I26.in_ hx33).fld Edge.fld1) ?_)
      obtain ⟨x34, hx34, h3⟩ := bnd h3
      refine wl_taken (c := decide (0 ≤ x31)) rfl rfl rfl rfl hc28 (op_indexAddr_src (v := (Value.slice z38 m38 k38)) (i := x33.To) (e := x34) rfl Try.underlying26 sh3 rfl (Inv.rowSrc (I26.nth 0 rfl)) rfl hx34 ?_)
      refine wl_taken (c := decide (0 ≤ x31)) rfl rfl rfl rfl hc28 (op_load_int (v := (elemPtr (Value.slice z38 m38 k38) (x33.To) (Enc.sz Int))) (e := x34) rfl sh3 rfl ((I26.nth 0 rfl).rowElem hx34) ?_)
      refine wl_taken (c := decide (0 ≤ x31)) rfl rfl rfl rfl hc28 (op_move (v := (Value.int .i64 (out1.2))) rfl e120 ?_)
      refine wl_taken (c := decide (0 ≤ x31)) rfl rfl rfl rfl hc28 (op_sub (a := out1.2) (b := 1) rfl rfl rfl ?_)
      refine wl_taken (c := decide (0 ≤ x31)) rfl rfl rfl rfl hc28 (op_eql (a := x34) (b := w64 (out1.2 - 1)) rfl rfl rfl ?_)
      refine wl_op rfl (op_pick_t (c := decide (0 ≤ x31)) (a := (Value.bool (x34 == (w64 (out1.2 - 1))))) rfl rfl hc28 rfl ?_)
      refine wl_nil ?_
      rcases ifs h3 with ⟨hc29, h3⟩ | ⟨hc29, h3⟩
      ·
       refine wp_cond_t (b := x34 == (w64 (out1.2 - 1))) rfl hc29 ?_
       refine wp_seq' ?_
       refine wp_region' ?_
       refine wl_op rfl (op_move (v := (Value.int .i64 (s2))) rfl e122 ?_)
       refine wl_op rfl (op_assign (v := (Value.int .i64 (s2))) rfl rfl ?_)
       refine wl_nil ?_
       refine wp_ret' ?_
       obtain rfl := Option.some.inj h3
       obtain rfl := (hout2 _ rfl)
       have h4 := h
       obtain rfl := Option.some.inj h4
       exact ⟨(Value.int .i64 (s2)), (res1 rfl rfl), _, [], ((le1.trans le10).trans le11), (I26).drop, rfl, rfl⟩
      ·
       refine wp_cond_f (b := x34 == (w64 (out1.2 - 1))) rfl hc29 ?_
       refine wp_skip' ?_
       refine wp_region' ?_
       refine wl_op rfl (op_move (v := (Value.int .i64 (s2))) rfl e122 ?_)
       refine wl_op rfl (op_add (a := s2) (b := 1) rfl rfl rfl ?_)
       refine wl_op rfl (op_assign (v := (Value.int .i64 (w64 (s2 + 1)))) rfl rfl ?_)
       refine wl_nil ?_
       obtain rfl := Option.some.inj h3
       exact ⟨_, rfl, I26, e117, e118, e119, e120, e121, rfl⟩
     ·
      refine wl_skip (c := decide (0 ≤ x31)) rfl rfl rfl rfl hc28 rfl ?_
      refine wl_skip (c := decide (0 ≤ x31)) rfl rfl rfl rfl hc28 rfl ?_
      refine wl_skip (c := decide (0 ≤ x31)) rfl rfl rfl rfl hc28 rfl ?_
      refine wl_skip (c := decide (0 ≤ x31)) rfl rfl rfl rfl hc28 rfl ?_
      refine wl_skip (c := decide (0 ≤ x31)) rfl rfl rfl rfl hc28 rfl ?_
      refine wl_skip (c := decide (0 ≤ x31)) rfl rfl rfl rfl hc28 rfl ?_
      refine wl_skip (c := decide (0 ≤ x31)) rfl rfl rfl rfl hc28 rfl ?_
      refine wl_skip (c := decide (0 ≤ x31)) rfl rfl rfl rfl hc28 rfl ?_
      refine wl_skip (c := decide (0 ≤ x31)) rfl rfl rfl rfl hc28 rfl ?_
      refine wl_skip (c := decide (0 ≤ x31)) rfl rfl rfl rfl hc28 rfl ?_
      refine wl_skip (c := decide (0 ≤ x31)) rfl rfl rfl rfl hc28 rfl ?_
      refine wl_skip (c := decide (0 ≤ x31)) rfl rfl rfl rfl hc28 rfl ?_
      refine wl_skip (c := decide (0 ≤ x31)) rfl rfl rfl rfl hc28 rfl ?_
      refine wl_skip (c := decide (0 ≤ x31)) rfl rfl rfl rfl hc28 rfl ?_
      refine wl_skip (c := decide (0 ≤ x31)) rfl rfl rfl rfl hc28 rfl ?_
      refine wl_op rfl (op_pick_f (c := decide (0 ≤ x31)) (b := (Value.bool (false))) rfl rfl hc28 rfl ?_)
      refine wl_nil ?_
      refine wp_cond_f (b := false) rfl rfl ?_
      refine wp_skip' ?_
      refine wp_region' ?_
      refine wl_op rfl (op_move (v := (Value.int .i64 (s2))) rfl e122 ?_)
      refine wl_op rfl (op_add (a := s2) (b := 1) rfl rfl rfl ?_)
      refine wl_op rfl (op_assign (v := (Value.int .i64 (w64 (s2 + 1)))) rfl rfl ?_)
      refine wl_nil ?_
      obtain rfl := Option.some.inj h3
      exact ⟨_, rfl, I26, e117, e118, e119, e120, e121, rfl⟩
    ·
     refine wp_cond_f (b := decide (s2 < (x30.length : Int))) rfl hc27 ?_
     refine wp_exit' ?_
     obtain rfl := Option.some.inj h3
     obtain rfl := (hout2 _ rfl)
     exact ⟨_, rfl, I25, e117, e118, e119, e120, e121, e122⟩
   ·
    rintro f w ⟨out2, rfl, I27, e127, e128, e129, e130, e131, e132⟩
    have h := onL_inl h
    refine wp_seq' ?_
    refine wp_region' ?_
    refine wl_op rfl (op_assign (v := (Value.int .i64 ((-1)))) rfl rfl ?_)
    refine wl_nil ?_
    refine wp_ret' ?_
    obtain rfl := Option.some.inj h
    exact ⟨(Value.int .i64 ((-1))), (res1 rfl rfl), _, [], ((le1.trans le10).trans le11), (I27).drop, rfl, rfl⟩

set_option maxHeartbeats 4000000 in
set_option maxRecDepth 100000 in
theorem F72_ok {w : World} {S : PH} {Fr : List HP} {a0 : (List Ref06_gone)} {v0 : Value} {a1 : Int} {r : Int} (hI : Inv w S (Fr)) (h0_ : RV S v0 a0) (h : F72 a0 a1 = some r) :
    Calls Try.prog 72 [v0, (Value.int .i64 (a1))].toArray w (DoneV S Fr (Value.int .i64 (r))) := by
 unfold F72 at h
 obtain ⟨z1, m1, k1, e1⟩ := rv_form h0_
 subst e1
 refine calls_enter (n := 24) (vs := [(Value.slice z1 m1 k1), (Value.int .i64 (a1))]) Try.func72 rfl rfl rfl ?_
 refine wp_seq' ?_
 refine wp_region' ?_
 refine wl_op rfl (op_assign (v := (Value.int .i64 (0))) rfl rfl ?_)
 refine wl_nil ?_
 refine wp_seq' ?_
 refine wp_seq' ?_
 refine wp_region' ?_
 refine wl_op rfl (op_assign (v := (Value.int .i64 (0))) rfl rfl ?_)
 refine wl_nil ?_
 have hk1 : a0.length ≤ 9223372036854775807 := (rv_len h0_)
 obtain ⟨o2, hrun1, h⟩ := bnd h
 refine wp_cutN (fun f w => ∃ out1, o2 = Sum.inl out1 ∧ Inv w S (Fr) ∧ f 0 = (Value.slice z1 m1 k1) ∧ f 1 = (Value.int .i64 (a1))) ?_ ?_
 ·
  refine wp_block' ?_
  refine wp_forN (I := fun (i1 : Nat) (s1 : Unit) (f : Frm) (w : World) => Inv w S (Fr) ∧ f 0 = (Value.slice z1 m1 k1) ∧ f 1 = (Value.int .i64 (a1)) ∧ f 5 = (Value.int .i64 (i1 : Int))) hrun1 ⟨hI, rfl, rfl, rfl⟩ ?_ ?_
  ·
   rintro i1 s1 f w o1 hlt1 hI1 h1 hout1
   obtain ⟨I3, e8, e9, e10⟩ := hI1
   refine wp_seq' ?_
   refine wp_seq' ?_
   refine wp_region' ?_
   refine wl_op rfl (op_move (v := (Value.int .i64 ((i1 : Int)))) rfl e10 ?_)
   refine wl_op rfl (op_move (v := (Value.slice z1 m1 k1)) rfl e8 ?_)
   refine wl_op rfl (op_len_rv rfl Try.underlying94 rfl h0_ ?_)
   refine wl_op rfl (op_lss (a := (i1 : Int)) (b := (a0.length : Int)) rfl rfl rfl ?_)
   refine wl_nil ?_
   refine wp_cond_t (b := decide ((i1 : Int) < (a0.length : Int))) rfl (len_t hlt1) ?_
   refine wp_skip' ?_
   refine wp_seq' ?_
   refine wp_block' ?_
   refine wp_seq' ?_
   refine wp_region' ?_
   refine wl_op rfl (op_move (v := (Value.slice z1 m1 k1)) rfl e8 ?_)
   refine wl_op rfl (op_move (v := (Value.int .i64 ((i1 : Int)))) rfl e10 ?_)
   obtain ⟨x5, hx5, h1⟩ := bnd h1
   refine wl_op rfl (op_indexAddr_rv (v := (Value.slice z1 m1 k1)) (i := (i1 : Int)) (e := x5) rfl Try.underlying94 sh99 rfl h0_ rfl hx5 ?_)
   refine wl_op rfl (op_fieldAddr_t (v := (elemPtr (Value.slice z1 m1 k1) ((i1 : Int)) (Enc.sz Ref06_gone))) rfl fa99_0 rfl (h0_.elem I3.in_ hx5) ?_)
   refine wl_op rfl (op_load_int (v := (fieldPtr (elemPtr (Value.slice z1 m1 k1) ((i1 : Int)) (Enc.sz Ref06_gone)) 0)) (e := x5.position) rfl sh3 rfl ((h0_.elem I3.in_ hx5).fld Ref06_gone.fld0) ?_)
   refine wl_op rfl (op_move (v := (Value.int .i64 (a1))) rfl e9 ?_)
   refine wl_op rfl (op_eql (a := x5.position) (b := a1) rfl rfl rfl ?_)
   refine wl_nil ?_
   rcases ifs h1 with ⟨hc3, h1⟩ | ⟨hc3, h1⟩
   ·
    refine wp_cond_t (b := x5.position == a1) rfl hc3 ?_
    refine wp_seq' ?_
    refine wp_region' ?_
    refine wl_op rfl (op_move (v := (Value.slice z1 m1 k1)) rfl e8 ?_)
    refine wl_op rfl (op_move (v := (Value.int .i64 ((i1 : Int)))) rfl e10 ?_)
    obtain ⟨x6, hx6, h1⟩ := bnd h1
    refine wl_op rfl (op_indexAddr_rv (v := (Value.slice z1 m1 k1)) (i := (i1 : Int)) (e := x6) rfl Try.underlying94 sh99 rfl h0_ rfl hx6 ?_)
    refine wl_op rfl (op_fieldAddr_t (v := (elemPtr (Value.slice z1 m1 k1) ((i1 : Int)) (Enc.sz Ref06_gone))) rfl fa99_1 rfl (h0_.elem I3.in_ hx6) ?_)
    refine wl_op rfl (op_load_int (v := (fieldPtr (elemPtr (Value.slice z1 m1 k1) ((i1 : Int)) (Enc.sz Ref06_gone)) 1)) (e := x6.edge) rfl sh3 rfl ((h0_.elem I3.in_ hx6).fld Ref06_gone.fld1) ?_)
    refine wl_op rfl (op_assign (v := (Value.int .i64 (x6.edge))) rfl rfl ?_)
    refine wl_nil ?_
    refine wp_ret' ?_
    obtain rfl := Option.some.inj h1
    obtain rfl := (hout1 _ rfl)
    have h2 := h
    obtain rfl := Option.some.inj h2
    exact ⟨(Value.int .i64 (x6.edge)), (res1 rfl rfl), _, [], (PH.Le.refl _), I3, rfl, rfl⟩
   ·
    refine wp_cond_f (b := x5.position == a1) rfl hc3 ?_
    refine wp_skip' ?_
    refine wp_region' ?_
    refine wl_op rfl (op_move (v := (Value.int .i64 ((i1 : Int)))) rfl e10 ?_)
    refine wl_op rfl (op_add (a := (i1 : Int)) (b := 1) rfl rfl rfl ?_)
    refine wl_op rfl (op_assign (v := (Value.int .i64 (w64 ((i1 : Int) + 1)))) rfl rfl ?_)
    refine wl_nil ?_
    obtain rfl := Option.some.inj h1
    exact ⟨_, rfl, I3, e8, e9, (idx_next hlt1 hk1)⟩
  ·
   rintro s2 f w hs1 hI2
   obtain ⟨I4, e11, e12, e13⟩ := hI2
   refine wp_seq' ?_
   refine wp_seq' ?_
   refine wp_region' ?_
   refine wl_op rfl (op_move (v := (Value.int .i64 ((a0.length : Int)))) rfl e13 ?_)
   refine wl_op rfl (op_move (v := (Value.slice z1 m1 k1)) rfl e11 ?_)
   refine wl_op rfl (op_len_rv rfl Try.underlying94 rfl h0_ ?_)
   refine wl_op rfl (op_lss (a := (a0.length : Int)) (b := (a0.length : Int)) rfl rfl rfl ?_)
   refine wl_nil ?_
   refine wp_cond_f (b := decide ((a0.length : Int) < (a0.length : Int))) rfl (len_f _) ?_
   refine wp_exit' ?_
   exact ⟨s2, hs1, I4, e11, e12⟩
 ·
  rintro f w ⟨out1, rfl, I5, e14, e15⟩
  have h := onL_inl h
  refine wp_seq' ?_
  refine wp_region' ?_
  refine wl_op rfl (op_assign (v := (Value.int .i64 ((-1)))) rfl rfl ?_)
  refine wl_nil ?_
  refine wp_ret' ?_
  obtain rfl := Option.some.inj h
  exact ⟨(Value.int .i64 ((-1))), (res1 rfl rfl), _, [], (PH.Le.refl _), I5, rfl, rfl⟩

set_option maxHeartbeats 4000000 in
set_option maxRecDepth 100000 in
theorem F48_ok {w : World} {S : PH} {Fr : List HP} {a0 : Graph} {v0 : Value} {a1 : (List Int)} {v1 : Value} {a2 : Mind} {v2 : Value} {a3 : Int} {r : (List Int) × Bool} (hI : Inv w S (Fr)) (h0_ : RV S v0 a0) (h1_ : RV S v1 a1) (h2_ : RV S v2 a2) (h : F48 a0 a1 a2 a3 = some r) :
    Calls Try.prog 48 [v0, v1, v2, (Value.int .i64 (a3))].toArray w (Done S Fr (fun T_ v_ O_ => ∃ (a0_ : Option Addr) (n0_ k0_ : Nat), v_ = (Value.tuple #[(Value.slice a0_ n0_ k0_), (Value.bool (r.2))]) ∧ O_ = [Row (α := Int) 3 (Value.slice a0_ n0_ k0_) (r.1)])) := by
 unfold F48 at h
 obtain ⟨c1, c2, e1, r1, r2⟩ := Graph.inv h0_
 subst e1
 obtain ⟨z1, m1, k1, e2⟩ := rv_form r1
 subst e2
 obtain ⟨z2, m2, k2, e3⟩ := rv_form r2
 subst e3
 obtain ⟨z3, m3, k3, e4⟩ := rv_form h1_
 subst e4
 have e5 := Mind.inv h2_
 subst e5
 refine calls_enter (n := 100) (vs := [(Value.agg #[(Value.slice z1 m1 k1), (Value.slice z2 m2 k2)]), (Value.slice z3 m3 k3), (Value.agg #[(Value.int .i64 (a2.Memory)), (Value.int .i64 (a2.Turn))]), (Value.int .i64 (a3))]) Try.func48 rfl rfl rfl ?_
 refine wp_seq' ?_
 refine wp_region' ?_
 refine wl_op rfl (op_box (v := (Value.agg #[(Value.slice z1 m1 k1), (Value.slice z2 m2 k2)])) rfl hI rfl (fun g1 w1 I1 => ?_))
 obtain ⟨S1, le1, I2, p1⟩ := Inv.boxFreeze (x := a0) I1 (Graph.rv (s := a0) r1 r2)
 refine wl_op rfl (op_box (v := (Value.agg #[(Value.int .i64 (a2.Memory)), (Value.int .i64 (a2.Turn))])) rfl I2 rfl (fun g2 w2 I3 => ?_))
 obtain ⟨S2, le2, I4, p2⟩ := Inv.boxFreeze (x := a2) I3 (Mind.rv (s := a2))
 refine wl_op rfl (op_assign (v := (Value.slice none 0 0)) rfl rfl ?_)
 refine wl_op rfl (op_assign (v := (Value.bool (false))) rfl rfl ?_)
 refine wl_nil ?_
 refine wp_seq' ?_
 refine wp_region' ?_
 refine wl_op rfl (op_assign (v := (Value.slice none 0 0)) rfl rfl ?_)
 refine wl_nil ?_
 refine wp_seq' ?_
 refine wp_region' ?_
 refine wl_op rfl (op_assign (v := (Value.slice none 0 0)) rfl rfl ?_)
 refine wl_nil ?_
 refine wp_seq' ?_
 refine wp_region' ?_
 refine wl_op rfl (op_assign (v := (Value.int .i64 (0))) rfl rfl ?_)
 refine wl_nil ?_
 have I427 := Inv.rowNil (α := Int) (T := 3) I4
 have I428 := Inv.rowNil (α := Ref06_gone) (T := 99) I427
 obtain ⟨out1, hrun1, h⟩ := bnd h
 refine wp_cut (fun f w => ∃ (S_ : PH) (z242 : Option Addr) (m242 k242 : Nat) (z243 : Option Addr) (m243 k243 : Nat), S2.Le S_ ∧ Inv w S_ (Row (α := Int) 3 (Value.slice z242 m242 k242) (out1.1) :: Row (α := Ref06_gone) 99 (Value.slice z243 m243 k243) (out1.2.1) :: Fr) ∧ f 1 = (Value.slice z3 m3 k3) ∧ f 3 = (Value.int .i64 (a3)) ∧ f 4 = (Value.pointer (some ⟨g1, 0, none⟩)) ∧ f 6 = (Value.pointer (some ⟨g2, 0, none⟩)) ∧ f 10 = (Value.slice z242 m242 k242) ∧ f 11 = (Value.slice z243 m243 k243) ∧ f 12 = (Value.int .i64 (out1.2.2))) ?_ ?_
 ·
  refine wp_block' ?_
  refine wp_whileO (I := fun (s1 : (List Int × List Ref06_gone × Int)) (f : Frm) (w : World) => ∃ (S_ : PH) (z240 : Option Addr) (m240 k240 : Nat) (z241 : Option Addr) (m241 k241 : Nat), S2.Le S_ ∧ Inv w S_ (Row (α := Int) 3 (Value.slice z240 m240 k240) (s1.1) :: Row (α := Ref06_gone) 99 (Value.slice z241 m241 k241) (s1.2.1) :: Fr) ∧ f 1 = (Value.slice z3 m3 k3) ∧ f 3 = (Value.int .i64 (a3)) ∧ f 4 = (Value.pointer (some ⟨g1, 0, none⟩)) ∧ f 6 = (Value.pointer (some ⟨g2, 0, none⟩)) ∧ f 10 = (Value.slice z240 m240 k240) ∧ f 11 = (Value.slice z241 m241 k241) ∧ f 12 = (Value.int .i64 (s1.2.2))) hrun1 ⟨_, _, _, _, _, _, _, (PH.Le.refl _), (I428.pull 1), rfl, rfl, rfl, rfl, rfl, rfl, rfl⟩ ?_
  rintro s1 f w o1 hI133 h91 hout1
  obtain ⟨S209, z240, m240, k240, z241, m241, k241, le209, I429, e618, e619, e620, e621, e622, e623, e624⟩ := hI133
  obtain ⟨ov59, h94, h91⟩ := bnd h91
  refine wp_cut (fun f w => ∃ v59, ov59 = Sum.inl v59 ∧ Inv w S209 (Row (α := Int) 3 (Value.slice z240 m240 k240) (s1.1) :: Row (α := Ref06_gone) 99 (Value.slice z241 m241 k241) (s1.2.1) :: Fr) ∧ f 1 = (Value.slice z3 m3 k3) ∧ f 3 = (Value.int .i64 (a3)) ∧ f 4 = (Value.pointer (some ⟨g1, 0, none⟩)) ∧ f 6 = (Value.pointer (some ⟨g2, 0, none⟩)) ∧ f 10 = (Value.slice z240 m240 k240) ∧ f 11 = (Value.slice z241 m241 k241) ∧ f 12 = (Value.int .i64 (s1.2.2))) ?_ ?_
  ·
   refine wp_seq' ?_
   refine wp_region' ?_
   refine wl_op rfl (op_move (v := (Value.slice z3 m3 k3)) rfl e618 ?_)
   refine wl_op rfl (op_move (v := (Value.int .i64 (s1.2.2))) rfl e624 ?_)
   obtain ⟨x153, hx153, h94⟩ := bnd h94
   refine wl_op rfl (op_indexAddr_rv (v := (Value.slice z3 m3 k3)) (i := s1.2.2) (e := x153) rfl Try.underlying26 sh3 rfl (h1_.mono ((le1.trans le2).trans le209)) rfl hx153 ?_)
   refine wl_op rfl (op_load_int (v := (elemPtr (Value.slice z3 m3 k3) (s1.2.2) (Enc.sz Int))) (e := x153) rfl sh3 rfl ((h1_.mono ((le1.trans le2).trans le209)).elem I429.in_ hx153) ?_)
   refine wl_op rfl (op_neq (a := x153) (b := 0) rfl rfl rfl ?_)
   refine wl_op rfl (op_move (v := (Value.bool (x153 != 0))) rfl rfl ?_)
   rcases ifs h94 with ⟨hc88, h94⟩ | ⟨hc88, h94⟩
   ·
    refine wl_taken (c := x153 != 0) rfl rfl rfl rfl hc88 (op_fieldAddr_t (v := (Value.pointer (some ⟨g1, 0, none⟩))) rfl fa25_1 e620 ((p1.mono (le2.trans le209)).at_ I429) ?_)
    refine wl_taken (c := x153 != 0) rfl rfl rfl rfl hc88 (op_load (v := (fieldPtr (Value.pointer (some ⟨g1, 0, none⟩)) 1)) (e := a0.Edges) rfl sh23 rfl (((p1.mono (le2.trans le209)).at_ I429).fld Graph.fld1) (fun u213 hu141 => ?_))
    obtain ⟨z246, m246, k246, e627⟩ := rv_form hu141
    subst e627
    refine wl_taken (c := x153 != 0) rfl rfl rfl rfl hc88 (op_move (v := (Value.int .i64 (s1.2.2))) rfl e624 ?_)
    obtain ⟨x154, hx154, h94⟩ := bnd h94
    refine wl_taken (c := x153 != 0) rfl rfl rfl rfl hc88 (op_indexAddr_rv (v := (Value.slice z246 m246 k246)) (i := s1.2.2) (e := x154) rfl Try.underlying23 sh40 rfl hu141 rfl hx154 ?_)
    refine wl_taken (c := x153 != 0) rfl rfl rfl rfl hc88 (op_load (v := (elemPtr (Value.slice z246 m246 k246) (s1.2.2) (Enc.sz (List Edge)))) (e := x154) rfl sh40 rfl (hu141.elem I429.in_ hx154) (fun u214 hu142 => ?_))
    obtain ⟨z247, m247, k247, e628⟩ := rv_form hu142
    subst e628
    refine wl_taken (c := x153 != 0) rfl rfl rfl rfl hc88 (op_len_rv rfl Try.underlying40 rfl hu142 ?_)
    refine wl_taken (c := x153 != 0) rfl rfl rfl rfl hc88 (op_gtr (a := (x154.length : Int)) (b := 0) rfl rfl rfl ?_)
    refine wl_op rfl (op_pick_t (c := x153 != 0) (a := (Value.bool (decide (0 < (x154.length : Int))))) rfl rfl hc88 rfl ?_)
    refine wl_op rfl (op_move (v := (Value.bool (decide (0 < (x154.length : Int))))) rfl rfl ?_)
    rcases ifs h94 with ⟨hc89, h94⟩ | ⟨hc89, h94⟩
    ·
     refine wl_taken (c := decide (0 < (x154.length : Int))) rfl rfl rfl rfl hc89 (op_move (v := (Value.slice z240 m240 k240)) rfl e622 ?_)
     refine wl_taken (c := decide (0 < (x154.length : Int))) rfl rfl rfl rfl hc89 (op_len_row (α := Int) rfl Try.underlying26 rfl (I429.nth 0 rfl) ?_)
     refine wl_taken (c := decide (0 < (x154.length : Int))) rfl rfl rfl rfl hc89 (op_move (v := (Value.int .i64 (a3))) rfl e619 ?_)
     refine wl_taken (c := decide (0 < (x154.length : Int))) rfl rfl rfl rfl hc89 (op_lss (a := (s1.1.length : Int)) (b := a3) rfl rfl rfl ?_)
     refine wl_op rfl (op_pick_t (c := decide (0 < (x154.length : Int))) (a := (Value.bool (decide ((s1.1.length : Int) < a3)))) rfl rfl hc89 rfl ?_)
     refine wl_nil ?_
     rcases ifs h94 with ⟨hc90, h94⟩ | ⟨hc90, h94⟩
     ·
      refine wp_cond_t (b := decide ((s1.1.length : Int) < a3)) rfl hc90 ?_
      refine wp_skip' ?_
      obtain rfl := Option.some.inj h94
      exact ⟨_, rfl, ((I429.pull 1).pull 1), e618, e619, e620, e621, e622, e623, e624⟩
     ·
      refine wp_cond_f (b := decide ((s1.1.length : Int) < a3)) rfl hc90 ?_
      refine wp_exit' ?_
      obtain rfl := Option.some.inj h94
      have h95 := h91
      obtain rfl := Option.some.inj h95
      obtain rfl := (hout1 _ rfl)
      exact ⟨_, _, _, _, _, _, _, le209, ((I429.pull 1).pull 1), e618, e619, e620, e621, e622, e623, e624⟩
    ·
     refine wl_skip (c := decide (0 < (x154.length : Int))) rfl rfl rfl rfl hc89 rfl ?_
     refine wl_skip (c := decide (0 < (x154.length : Int))) rfl rfl rfl rfl hc89 rfl ?_
     refine wl_skip (c := decide (0 < (x154.length : Int))) rfl rfl rfl rfl hc89 rfl ?_
     refine wl_skip (c := decide (0 < (x154.length : Int))) rfl rfl rfl rfl hc89 rfl ?_
     refine wl_op rfl (op_pick_f (c := decide (0 < (x154.length : Int))) (b := (Value.bool (false))) rfl rfl hc89 rfl ?_)
     refine wl_nil ?_
     refine wp_cond_f (b := false) rfl rfl ?_
     refine wp_exit' ?_
     obtain rfl := Option.some.inj h94
     have h95 := h91
     obtain rfl := Option.some.inj h95
     obtain rfl := (hout1 _ rfl)
     exact ⟨_, _, _, _, _, _, _, le209, ((I429.pull 1).pull 1), e618, e619, e620, e621, e622, e623, e624⟩
   ·
    refine wl_skip (c := x153 != 0) rfl rfl rfl rfl hc88 rfl ?_
    refine wl_skip (c := x153 != 0) rfl rfl rfl rfl hc88 rfl ?_
    refine wl_skip (c := x153 != 0) rfl rfl rfl rfl hc88 rfl ?_
    refine wl_skip (c := x153 != 0) rfl rfl rfl rfl hc88 rfl ?_
    refine wl_skip (c := x153 != 0) rfl rfl rfl rfl hc88 rfl ?_
    refine wl_skip (c := x153 != 0) rfl rfl rfl rfl hc88 rfl ?_
    refine wl_skip (c := x153 != 0) rfl rfl rfl rfl hc88 rfl ?_
    refine wl_op rfl (op_pick_f (c := x153 != 0) (b := (Value.bool (false))) rfl rfl hc88 rfl ?_)
    refine wl_op rfl (op_move (v := (Value.bool (false))) rfl rfl ?_)
    refine wl_skip (c := false) rfl rfl rfl rfl rfl rfl ?_
    refine wl_skip (c := false) rfl rfl rfl rfl rfl rfl ?_
    refine wl_skip (c := false) rfl rfl rfl rfl rfl rfl ?_
    refine wl_skip (c := false) rfl rfl rfl rfl rfl rfl ?_
    refine wl_op rfl (op_pick_f (c := false) (b := (Value.bool (false))) rfl rfl rfl rfl ?_)
    refine wl_nil ?_
    refine wp_cond_f (b := false) rfl rfl ?_
    refine wp_exit' ?_
    obtain rfl := Option.some.inj h94
    have h95 := h91
    obtain rfl := Option.some.inj h95
    obtain rfl := (hout1 _ rfl)
    exact ⟨_, _, _, _, _, _, _, le209, ((I429.pull 1).pull 1), e618, e619, e620, e621, e622, e623, e624⟩
  ·
   rintro f w ⟨v59, rfl, I430, e629, e630, e631, e632, e633, e634, e635⟩
   have h91 := onL_inl h91
   refine wp_block' ?_
   refine wp_seq' ?_
   refine wp_region' ?_
   refine wl_op rfl (op_load (v := (Value.pointer (some ⟨g1, 0, none⟩))) (e := a0) rfl sh25 e631 ((p1.mono (le2.trans le209)).at_ I430) (fun u215 hu143 => ?_))
   obtain ⟨c39, c40, e636, r99, r100⟩ := Graph.inv hu143
   subst e636
   obtain ⟨z248, m248, k248, e637⟩ := rv_form r99
   subst e637
   obtain ⟨z249, m249, k249, e638⟩ := rv_form r100
   subst e638
   refine wl_op rfl (op_move (v := (Value.slice z241 m241 k241)) rfl e634 ?_)
   refine wl_op rfl (op_move (v := (Value.int .i64 (s1.2.2))) rfl e635 ?_)
   refine wl_op rfl (op_fieldAddr_t (v := (Value.pointer (some ⟨g2, 0, none⟩))) rfl fa28_1 e632 ((p2.mono le209).at_ I430) ?_)
   refine wl_op rfl (op_load_int (v := (fieldPtr (Value.pointer (some ⟨g2, 0, none⟩)) 1)) (e := a2.Turn) rfl sh3 rfl (((p2.mono le209).at_ I430).fld Mind.fld1) ?_)
   obtain ⟨x155, hx155, h91⟩ := bnd h91
   obtain ⟨S210, Fr29, le210, I431, r101, bk29⟩ := Inv.lend1 (I430.pull 1)
   refine wl_op rfl (op_call (vs := [(Value.agg #[(Value.slice z248 m248 k248), (Value.slice z249 m249 k249)]), (Value.slice z241 m241 k241), (Value.int .i64 (s1.2.2)), (Value.int .i64 (a2.Turn))]) rfl ca70 rfl (args4 rfl rfl rfl rfl) (F70_ok I431 (Graph.rv (s := a0) (r99.mono le210) (r100.mono le210)) r101 hx155) (fun v60 w262 S211 O29 le211 I433 hv29 => ?_))
   obtain ⟨rfl, rfl⟩ := hv29
   have I432 := bk29 [] trivial I433 le211
   refine wl_op rfl (op_assign (v := (Value.int .i64 (x155))) rfl rfl ?_)
   refine wl_nil ?_
   obtain ⟨v62, h97, h91⟩ := bnd h91
   refine wp_cut (fun f w => Inv w S209 (Row (α := Int) 3 (Value.slice z240 m240 k240) (s1.1) :: Row (α := Ref06_gone) 99 (Value.slice z241 m241 k241) (s1.2.1) :: Fr) ∧ f 1 = (Value.slice z3 m3 k3) ∧ f 3 = (Value.int .i64 (a3)) ∧ f 4 = (Value.pointer (some ⟨g1, 0, none⟩)) ∧ f 6 = (Value.pointer (some ⟨g2, 0, none⟩)) ∧ f 10 = (Value.slice z240 m240 k240) ∧ f 11 = (Value.slice z241 m241 k241) ∧ f 12 = (Value.int .i64 (s1.2.2)) ∧ f 13 = (Value.int .i64 (v62))) ?_ ?_
   ·
    refine wp_seq' ?_
    refine wp_region' ?_
    refine wl_op rfl (op_move (v := (Value.int .i64 (x155))) rfl rfl ?_)
    refine wl_op rfl (op_lss (a := x155) (b := 0) rfl rfl rfl ?_)
    refine wl_nil ?_
    rcases ifs h97 with ⟨hc92, h97⟩ | ⟨hc92, h97⟩
    ·
     refine wp_cond_t (b := decide (x155 < 0)) rfl hc92 ?_
     refine wp_region' ?_
     refine wl_op rfl (op_load (v := (Value.pointer (some ⟨g1, 0, none⟩))) (e := a0) rfl sh25 e631 ((p1.mono (le2.trans le209)).at_ I432) (fun u217 hu145 => ?_))
     obtain ⟨c43, c44, e642, r105, r106⟩ := Graph.inv hu145
     subst e642
     obtain ⟨z252, m252, k252, e643⟩ := rv_form r105
     subst e643
     obtain ⟨z253, m253, k253, e644⟩ := rv_form r106
     subst e644
     refine wl_op rfl (op_move (v := (Value.slice z241 m241 k241)) rfl e634 ?_)
     refine wl_op rfl (op_move (v := (Value.int .i64 (s1.2.2))) rfl e635 ?_)
     obtain ⟨x157, hx157, h97⟩ := bnd h97
     obtain ⟨S214, Fr31, le214, I437, r107, bk31⟩ := Inv.lend1 I432
     refine wl_op rfl (op_call (vs := [(Value.agg #[(Value.slice z252 m252 k252), (Value.slice z253 m253 k253)]), (Value.slice z241 m241 k241), (Value.int .i64 (s1.2.2))]) rfl ca71 rfl (args3 rfl rfl rfl) (F71_ok I437 (Graph.rv (s := a0) (r105.mono le214) (r106.mono le214)) r107 hx157) (fun v63 w264 S215 O31 le215 I439 hv31 => ?_))
     obtain ⟨rfl, rfl⟩ := hv31
     have I438 := bk31 [] trivial I439 le215
     refine wl_op rfl (op_assign (v := (Value.int .i64 (x157))) rfl rfl ?_)
     refine wl_nil ?_
     obtain rfl := Option.some.inj h97
     exact ⟨(I438.pull 1), e629, e630, e631, e632, e633, e634, e635, rfl⟩
    ·
     refine wp_cond_f (b := decide (x155 < 0)) rfl hc92 ?_
     refine wp_skip' ?_
     obtain rfl := Option.some.inj h97
     exact ⟨(I432.pull 1), e629, e630, e631, e632, e633, e634, e635, rfl⟩
   ·
    rintro f w ⟨I440, e645, e646, e647, e648, e649, e650, e651, e652⟩
    obtain ⟨v65, h100, h91⟩ := bnd h91
    refine wp_cut (fun f w => Inv w S209 (Row (α := Int) 3 (Value.slice z240 m240 k240) (s1.1) :: Row (α := Ref06_gone) 99 (Value.slice z241 m241 k241) (s1.2.1) :: Fr) ∧ f 1 = (Value.slice z3 m3 k3) ∧ f 3 = (Value.int .i64 (a3)) ∧ f 4 = (Value.pointer (some ⟨g1, 0, none⟩)) ∧ f 6 = (Value.pointer (some ⟨g2, 0, none⟩)) ∧ f 10 = (Value.slice z240 m240 k240) ∧ f 11 = (Value.slice z241 m241 k241) ∧ f 12 = (Value.int .i64 (s1.2.2)) ∧ f 13 = (Value.int .i64 (v65))) ?_ ?_
    ·
     refine wp_seq' ?_
     refine wp_region' ?_
     refine wl_op rfl (op_move (v := (Value.int .i64 (v62))) rfl e652 ?_)
     refine wl_op rfl (op_lss (a := v62) (b := 0) rfl rfl rfl ?_)
     refine wl_nil ?_
     rcases ifs h100 with ⟨hc94, h100⟩ | ⟨hc94, h100⟩
     ·
      refine wp_cond_t (b := decide (v62 < 0)) rfl hc94 ?_
      refine wp_region' ?_
      refine wl_op rfl (op_move (v := (Value.slice z241 m241 k241)) rfl e650 ?_)
      refine wl_op rfl (op_move (v := (Value.int .i64 (s1.2.2))) rfl e651 ?_)
      obtain ⟨x159, hx159, h100⟩ := bnd h100
      obtain ⟨S218, Fr33, le218, I444, r109, bk33⟩ := Inv.lend1 (I440.pull 1)
      refine wl_op rfl (op_call (vs := [(Value.slice z241 m241 k241), (Value.int .i64 (s1.2.2))]) rfl ca72 rfl (args2 rfl rfl) (F72_ok I444 r109 hx159) (fun v66 w266 S219 O33 le219 I446 hv33 => ?_))
      obtain ⟨rfl, rfl⟩ := hv33
      have I445 := bk33 [] trivial I446 le219
      refine wl_op rfl (op_assign (v := (Value.int .i64 (x159))) rfl rfl ?_)
      refine wl_nil ?_
      obtain rfl := Option.some.inj h100
      exact ⟨(I445.pull 1), e645, e646, e647, e648, e649, e650, e651, rfl⟩
     ·
      refine wp_cond_f (b := decide (v62 < 0)) rfl hc94 ?_
      refine wp_skip' ?_
      obtain rfl := Option.some.inj h100
      exact ⟨((I440.pull 1).pull 1), e645, e646, e647, e648, e649, e650, e651, e652⟩
    ·
     rintro f w ⟨I447, e653, e654, e655, e656, e657, e658, e659, e660⟩
     refine wp_seq' ?_
     refine wp_region' ?_
     refine wl_op rfl (op_move (v := (Value.int .i64 (s1.2.2))) rfl e659 ?_)
     refine wl_op rfl (op_move (v := (Value.int .i64 (v65))) rfl e660 ?_)
     refine wl_op rfl (op_build (qs := [(0, #[(Value.int .i64 (s1.2.2))]), (1, #[(Value.int .i64 (v65))])]) (c := #[(Value.int .i64 (s1.2.2)), (Value.int .i64 (v65))]) rfl st99 ⟨rfl, rfl, ⟨rfl, rfl, trivial⟩⟩ rfl ?_)
     refine wl_op rfl (op_alloc (z := (Value.agg #[(Value.int .i64 (0)), (Value.int .i64 (0))])) rfl I447 zo99 (fun g9 w267 (I448 : Inv w267 S209 (Cells g9 99 #[(Value.int .i64 (0)), (Value.int .i64 (0))] :: Row (α := Int) 3 (Value.slice z240 m240 k240) (s1.1) :: Row (α := Ref06_gone) 99 (Value.slice z241 m241 k241) (s1.2.1) :: Fr)) => ?_))
     refine wl_op rfl (op_store (v := (Value.agg #[(Value.int .i64 (s1.2.2)), (Value.int .i64 (v65))])) (cs := #[(Value.int .i64 (0)), (Value.int .i64 (0))]) sh99 I448 rfl rfl rfl (Nat.le_of_ble_eq_true rfl) rfl (fun w268 (I449 : Inv w268 S209 (Cells g9 99 #[(Value.int .i64 (s1.2.2)), (Value.int .i64 (v65))] :: Row (α := Int) 3 (Value.slice z240 m240 k240) (s1.1) :: Row (α := Ref06_gone) 99 (Value.slice z241 m241 k241) (s1.2.1) :: Fr)) => ?_))
     refine wl_nil ?_
     obtain ⟨v68, h103, h91⟩ := bnd h91
     refine wp_cut (fun f w => ∃ (S_ : PH) (z263 : Option Addr) (m263 k263 : Nat), S209.Le S_ ∧ Inv w S_ (Row (α := Int) 3 (Value.slice z240 m240 k240) (s1.1) :: Row (α := Ref06_gone) 99 (Value.slice z263 m263 k263) (v68) :: Cells g9 99 #[(Value.int .i64 (s1.2.2)), (Value.int .i64 (v65))] :: Fr) ∧ f 1 = (Value.slice z3 m3 k3) ∧ f 3 = (Value.int .i64 (a3)) ∧ f 4 = (Value.pointer (some ⟨g1, 0, none⟩)) ∧ f 6 = (Value.pointer (some ⟨g2, 0, none⟩)) ∧ f 10 = (Value.slice z240 m240 k240) ∧ f 11 = (Value.slice z263 m263 k263) ∧ f 12 = (Value.int .i64 (s1.2.2)) ∧ f 13 = (Value.int .i64 (v65)) ∧ f 14 = (Value.pointer (some ⟨g9, 0, none⟩))) ?_ ?_
     ·
      refine wp_seq' ?_
      refine wp_region' ?_
      refine wl_op rfl (op_move (v := (Value.slice z241 m241 k241)) rfl e658 ?_)
      refine wl_op rfl (op_loadN (l := [(Value.int .i64 (s1.2.2)), (Value.int .i64 (v65))]) rfl sh99 (I449.nth 0 rfl) rfl rfl rfl ?_)
      obtain ⟨x165, hx165, h103⟩ := bnd h103
      obtain ⟨S234, Fr35, le234, I473, r114, bk35⟩ := Inv.lend1 (I449.pull 2)
      refine wl_op rfl (op_call (vs := [(Value.slice z241 m241 k241), (Value.agg #[(Value.int .i64 (s1.2.2)), (Value.int .i64 (v65))])]) rfl ca73 rfl (args2 rfl rfl) (F73_ok I473 r114 (Ref06_gone.rv (s := (⟨s1.2.2, v65⟩ : Ref06_gone))) hx165) (fun v69 w285 S235 O35 le235 I475 hv35 => ?_))
      obtain ⟨rfl, rfl⟩ := hv35
      have I474 := bk35 [] trivial I475 le235
      refine wl_op rfl (op_assign (v := (Value.int .i64 (x165))) rfl rfl ?_)
      refine wl_nil ?_
      refine wp_seq' ?_
      refine wp_region' ?_
      refine wl_op rfl (op_move (v := (Value.int .i64 (x165))) rfl rfl ?_)
      refine wl_op rfl (op_geq (a := x165) (b := 0) rfl rfl rfl ?_)
      refine wl_nil ?_
      rcases ifs h103 with ⟨hc96, h103⟩ | ⟨hc96, h103⟩
      ·
       refine wp_cond_t (b := decide (0 ≤ x165)) rfl hc96 ?_
       obtain ⟨S236, le236, I476, r115⟩ := Inv.rowFreeze I474
       obtain ⟨x166, hx166, h103⟩ := bnd h103
       obtain ⟨x167, hx167, h103⟩ := bnd h103
       obtain ⟨x168, hx168, h103⟩ := bnd h103
       obtain ⟨x169, hx169, h103⟩ := bnd h103
       refine wp_draw (sps := [⟨some 61, [], [0], fun vs_ T_ => fr0 vs_ 0 = (Value.slice z241 m241 k241), [], [], [], fun _ h_ => h_⟩, ⟨some 62, [], [1], fun vs_ T_ => fr0 vs_ 0 = (Value.int .i64 (x165)), [], [], [], fun _ h_ => h_⟩, ⟨some 63, [0, 1], [2], fun vs_ T_ => RV T_ (fr0 vs_ 0) x166, [], [], [], fun hle_ h_ => h_.mono hle_⟩, ⟨some 64, [0, 1, 2], [3], fun vs_ T_ => ∃ a_ n_ k_, fr0 vs_ 0 = Value.slice a_ n_ k_, [], [], [0], fun _ h_ => h_⟩, ⟨some 65, [], [4], fun vs_ T_ => fr0 vs_ 0 = (Value.slice z241 m241 k241), [], [], [], fun _ h_ => h_⟩, ⟨some 66, [], [5], fun vs_ T_ => fr0 vs_ 0 = (Value.int .i64 (x165)), [], [], [], fun _ h_ => h_⟩, ⟨some 67, [5], [6], fun vs_ T_ => fr0 vs_ 0 = (Value.int .i64 (w64 (x165 + 1))), [], [], [], fun _ h_ => h_⟩, ⟨some 68, [4, 5, 6], [7], fun vs_ T_ => RV T_ (fr0 vs_ 0) x168, [], [], [], fun hle_ h_ => h_.mono hle_⟩, ⟨some 69, [0, 1, 2, 3, 4, 5, 6, 7], [8], fun vs_ T_ => ∃ a_ n_ k_, fr0 vs_ 0 = Value.slice a_ n_ k_, [], [0], [1], fun _ h_ => h_⟩, ⟨some 11, [0, 1, 2, 3, 4, 5, 6, 7, 8], [9, 8], fun vs_ T_ => fr0 vs_ 0 = (fr0 vs_ 1), [], [], [], fun _ h_ => h_⟩]) (tks := [⟨some 3, some 8, [3], fun vs_ => Row (α := Ref06_gone) 99 (fr0 vs_ 0) (x167)⟩, ⟨some 8, none, [8], fun vs_ => Row (α := Ref06_gone) 99 (fr0 vs_ 0) (x169)⟩]) (O := Cells g9 99 #[(Value.int .i64 (s1.2.2)), (Value.int .i64 (v65))] :: Row (α := Int) 3 (Value.slice z240 m240 k240) (s1.1) :: Fr) rfl (by kernel_rfl) I476 ⟨?_, ?_, ?_, ?_, ?_, ?_, ?_, ?_, ?_, ?_, trivial⟩ ?_
       ·
        intro vs144 f w288 S237 X131 le237 hA131 hK144 hI145
        have I480 : Inv w288 S237 (X131) := hI145
        refine opg_plain rfl rfl (op_move (v := (Value.slice z241 m241 k241)) rfl ((hK144 11 (keep_of rfl)).trans e658) ?_)
        refine ⟨_, _, rfl, PH.Le.refl _, ?_, ?_⟩
        ·
         exact rfl
        ·
         exact I480
       ·
        intro vs145 f w289 S238 X132 le238 hA132 hK145 hI146
        have I481 : Inv w289 S238 (X132) := hI146
        refine opg_plain rfl rfl (op_move (v := (Value.int .i64 (x165))) rfl (hK145 15 (keep_of rfl)) ?_)
        refine ⟨_, _, rfl, PH.Le.refl _, ?_, ?_⟩
        ·
         exact rfl
        ·
         exact I481
       ·
        intro vs146 f w290 S239 X133 le239 hA133 hK146 hI147
        have I482 : Inv w290 S239 (X133) := hI147
        have q144 : f 61 = (Value.slice z241 m241 k241) := vt (hA133.at_ 0 rfl _ rfl) rfl
        have q145 : f 62 = (Value.int .i64 (x165)) := vt (hA133.at_ 1 rfl _ rfl) rfl
        refine opg_plain rfl rfl (op_sliceH (v := (Value.slice z241 m241 k241)) (hi := x165) rfl Try.underlying94 sh99 q144 (r115.mono le239) q145 hx166 (fun u232 hu154 => ?_))
        obtain ⟨z264, m264, k264, e678⟩ := rv_form hu154
        subst e678
        refine ⟨_, _, rfl, PH.Le.refl _, ?_, ?_⟩
        ·
         exact hu154
        ·
         exact I482
       ·
        intro vs147 f w291 S240 X134 le240 hA134 hK147 hI148
        have I483 : Inv w291 S240 (X134) := hI148
        have q146 : f 63 = vs147 2 := (hA134.at_ 2 rfl _ rfl).1 _ rfl
        have r116 : RV S240 (vs147 2) x166 := (hA134.at_ 2 rfl _ rfl).2
        obtain ⟨u233, hu155⟩ : ∃ u, vs147 2 = u := ⟨_, rfl⟩
        rw [hu155] at q146 r116
        obtain ⟨z265, m265, k265, e679⟩ := rv_form r116
        subst e679
        have I484 := Inv.rowNil (α := Ref06_gone) (T := 99) I483
        refine opg_plain rfl rfl (op_append (α := Ref06_gone) (v := (Value.slice none 0 0)) (u := (Value.slice z265 m265 k265)) rfl rfl Try.underlying94 el99 (by decide) (by decide) rfl q146 I484 (r116.src I484.in_) hx167 (fun u234 w292 I485 => ?_))
        obtain ⟨z266, m266, k266, e680⟩ := row_form I485
        subst e680
        refine ⟨_, _, rfl, PH.Le.refl _, ?_, ?_⟩
        ·
         exact ⟨_, _, _, rfl⟩
        ·
         exact I485
       ·
        intro vs148 f w293 S241 X135 le241 hA135 hK148 hI149
        have I486 : Inv w293 S241 (X135) := hI149
        refine opg_plain rfl rfl (op_move (v := (Value.slice z241 m241 k241)) rfl ((hK148 11 (keep_of rfl)).trans e658) ?_)
        refine ⟨_, _, rfl, PH.Le.refl _, ?_, ?_⟩
        ·
         exact rfl
        ·
         exact I486
       ·
        intro vs149 f w294 S242 X136 le242 hA136 hK149 hI150
        have I487 : Inv w294 S242 (X136) := hI150
        refine opg_plain rfl rfl (op_move (v := (Value.int .i64 (x165))) rfl (hK149 15 (keep_of rfl)) ?_)
        refine ⟨_, _, rfl, PH.Le.refl _, ?_, ?_⟩
        ·
         exact rfl
        ·
         exact I487
       ·
        intro vs150 f w295 S243 X137 le243 hA137 hK150 hI151
        have I488 : Inv w295 S243 (X137) := hI151
        have q147 : f 66 = (Value.int .i64 (x165)) := vt (hA137.at_ 0 rfl _ rfl) rfl
        refine opg_plain rfl rfl (op_add (a := x165) (b := 1) rfl q147 rfl ?_)
        refine ⟨_, _, rfl, PH.Le.refl _, ?_, ?_⟩
        ·
         exact rfl
        ·
         exact I488
       ·
        intro vs151 f w296 S244 X138 le244 hA138 hK151 hI152
        have I489 : Inv w296 S244 (X138) := hI152
        have q148 : f 65 = (Value.slice z241 m241 k241) := vt (hA138.at_ 0 rfl _ rfl) rfl
        have q149 : f 67 = (Value.int .i64 (w64 (x165 + 1))) := vt (hA138.at_ 2 rfl _ rfl) rfl
        refine opg_plain rfl rfl (op_sliceL (v := (Value.slice z241 m241 k241)) (lo := w64 (x165 + 1)) rfl Try.underlying94 sh99 q148 (r115.mono le244) q149 hx168 (fun u235 hu156 => ?_))
        obtain ⟨z267, m267, k267, e681⟩ := rv_form hu156
        subst e681
        refine ⟨_, _, rfl, PH.Le.refl _, ?_, ?_⟩
        ·
         exact hu156
        ·
         exact I489
       ·
        intro vs152 f w297 S245 X139 le245 hA139 hK152 hI153
        have I490 : Inv w297 S245 (Row (α := Ref06_gone) 99 (vs152 3) (x167) :: X139) := hI153
        obtain ⟨z268, m268, k268, e682⟩ := (hA139.at_ 3 rfl _ rfl).2
        have q150 : f 64 = Value.slice z268 m268 k268 := ((hA139.at_ 3 rfl _ rfl).1 _ rfl).trans e682
        have e682 : vs152 3 = (Value.slice z268 m268 k268) := e682
        have I491 := I490
        rw [e682] at I491
        have q151 : f 68 = vs152 7 := (hA139.at_ 7 rfl _ rfl).1 _ rfl
        have r117 : RV S245 (vs152 7) x168 := (hA139.at_ 7 rfl _ rfl).2
        obtain ⟨u236, hu157⟩ : ∃ u, vs152 7 = u := ⟨_, rfl⟩
        rw [hu157] at q151 r117
        obtain ⟨z269, m269, k269, e683⟩ := rv_form r117
        subst e683
        refine opg_plain rfl rfl (op_append (α := Ref06_gone) (v := (Value.slice z268 m268 k268)) (u := (Value.slice z269 m269 k269)) rfl rfl Try.underlying94 el99 (by decide) (by decide) q150 q151 I491 (r117.src I491.in_) hx169 (fun u237 w298 I492 => ?_))
        obtain ⟨z270, m270, k270, e684⟩ := row_form I492
        subst e684
        refine ⟨_, _, rfl, PH.Le.refl _, ?_, ?_⟩
        ·
         exact ⟨_, _, _, rfl⟩
        ·
         exact I492
       ·
        intro vs153 f w299 S246 X140 le246 hA140 hK153 hI154
        have I493 : Inv w299 S246 (X140) := hI154
        obtain ⟨z271, m271, k271, e685⟩ := (hA140.at_ 8 rfl _ rfl).2
        have q152 : f 69 = Value.slice z271 m271 k271 := ((hA140.at_ 8 rfl _ rfl).1 _ rfl).trans e685
        have e685 : vs153 8 = (Value.slice z271 m271 k271) := e685
        refine opg_plain rfl rfl (op_assign (v := (Value.slice z271 m271 k271)) rfl q152 ?_)
        refine ⟨_, _, rfl, PH.Le.refl _, ?_, ?_⟩
        ·
         show (Value.slice z271 m271 k271) = (vs153 8)
         simp only [e685] <;> rfl
        ·
         exact I493
       ·
        intro vs154 f w300 S247 le247 hF14 hK154 hI155
        have e686 : f 1 = (Value.slice z3 m3 k3) := (hK154 1 (keep_all rfl)).trans e653
        have e687 : f 3 = (Value.int .i64 (a3)) := (hK154 3 (keep_all rfl)).trans e654
        have e688 : f 4 = (Value.pointer (some ⟨g1, 0, none⟩)) := (hK154 4 (keep_all rfl)).trans e655
        have e689 : f 6 = (Value.pointer (some ⟨g2, 0, none⟩)) := (hK154 6 (keep_all rfl)).trans e656
        have e690 : f 10 = (Value.slice z240 m240 k240) := (hK154 10 (keep_all rfl)).trans e657
        have e691 : f 12 = (Value.int .i64 (s1.2.2)) := (hK154 12 (keep_all rfl)).trans e659
        have e692 : f 13 = (Value.int .i64 (v65)) := (hK154 13 (keep_all rfl)).trans e660
        have e693 : f 14 = (Value.pointer (some ⟨g9, 0, none⟩)) := (hK154 14 (keep_all rfl)).trans rfl
        have I494 : Inv w300 S247 (Row (α := Ref06_gone) 99 (vs154 8) (x169) :: Cells g9 99 #[(Value.int .i64 (s1.2.2)), (Value.int .i64 (v65))] :: Row (α := Int) 3 (Value.slice z240 m240 k240) (s1.1) :: Fr) := hI155
        obtain ⟨z272, m272, k272, e694⟩ := (hF14.at_ 8 rfl _ rfl).2
        have q153 : f 69 = Value.slice z272 m272 k272 := ((hF14.at_ 8 rfl _ rfl).1 _ rfl).trans e694
        have e694 : vs154 8 = (Value.slice z272 m272 k272) := e694
        have I495 := I494
        rw [e694] at I495
        have q154 : f 11 = (vs154 8) := vt (hF14.at_ 9 rfl _ rfl) rfl
        simp only [e694] at q154
        have q154 : f 11 = (Value.slice z272 m272 k272) := q154
        obtain rfl := Option.some.inj h103
        exact ⟨_, _, _, _, (le236.trans le247), (((I495.pull 1).pull 1).pull 2), e686, e687, e688, e689, e690, q154, e691, e692, e693⟩
      ·
       refine wp_cond_f (b := decide (0 ≤ x165)) rfl hc96 ?_
       refine wp_skip' ?_
       obtain rfl := Option.some.inj h103
       exact ⟨_, _, _, _, (PH.Le.refl _), (((I474.pull 1).pull 1).pull 2), e653, e654, e655, e656, e657, e658, e659, e660, rfl⟩
     ·
      rintro f w ⟨S248, z263, m263, k263, le248, I496, e695, e696, e697, e698, e699, e700, e701, e702, e703⟩
      refine wp_seq' ?_
      refine wp_region' ?_
      refine wl_op rfl (op_move (v := (Value.slice z263 m263 k263)) rfl e700 ?_)
      refine wl_op rfl (op_loadN (l := [(Value.int .i64 (s1.2.2)), (Value.int .i64 (v65))]) rfl sh99 (I496.nth 2 rfl) e703 rfl rfl ?_)
      refine wl_op rfl (op_buildSlice (vs := [(Value.agg #[(Value.int .i64 (s1.2.2)), (Value.int .i64 (v65))])]) (r := ([(⟨s1.2.2, v65⟩ : Ref06_gone)] : List Ref06_gone)) rfl Try.underlying94 el99 (parts1 rfl) rfl (by decide) (by decide) ⟨(Ref06_gone.rv (s := (⟨s1.2.2, v65⟩ : Ref06_gone))), trivial⟩ I496 (fun u238 w301 I497 => ?_))
      obtain ⟨z273, m273, k273, e704⟩ := row_form I497
      subst e704
      obtain ⟨x170, hx170, h91⟩ := bnd h91
      refine wl_op rfl (op_append (α := Ref06_gone) (v := (Value.slice z263 m263 k263)) (u := (Value.slice z273 m273 k273)) rfl rfl Try.underlying94 el99 (by decide) (by decide) rfl rfl (I497.pull 2) (Inv.rowSrc (I497.nth 0 rfl)) hx170 (fun u239 w302 I498 => ?_))
      obtain ⟨z274, m274, k274, e705⟩ := row_form I498
      subst e705
      refine wl_op rfl (op_assign (v := (Value.slice z274 m274 k274)) rfl rfl ?_)
      refine wl_nil ?_
      obtain ⟨v70, h106, h91⟩ := bnd h91
      refine wp_cut (fun f w => ∃ (z276 : Option Addr) (m276 k276 : Nat), Inv w S248 (Row (α := Int) 3 (Value.slice z240 m240 k240) (s1.1) :: Row (α := Ref06_gone) 99 (Value.slice z276 m276 k276) (v70) :: Fr) ∧ f 1 = (Value.slice z3 m3 k3) ∧ f 3 = (Value.int .i64 (a3)) ∧ f 4 = (Value.pointer (some ⟨g1, 0, none⟩)) ∧ f 6 = (Value.pointer (some ⟨g2, 0, none⟩)) ∧ f 10 = (Value.slice z240 m240 k240) ∧ f 11 = (Value.slice z276 m276 k276) ∧ f 12 = (Value.int .i64 (s1.2.2)) ∧ f 13 = (Value.int .i64 (v65))) ?_ ?_
      ·
       refine wp_seq' ?_
       refine wp_region' ?_
       refine wl_op rfl (op_move (v := (Value.slice z274 m274 k274)) rfl rfl ?_)
       refine wl_op rfl (op_len_row (α := Ref06_gone) rfl Try.underlying94 rfl (I498.nth 0 rfl) ?_)
       refine wl_op rfl (op_fieldAddr_t (v := (Value.pointer (some ⟨g2, 0, none⟩))) rfl fa28_0 e698 ((p2.mono (le209.trans le248)).at_ I498) ?_)
       refine wl_op rfl (op_load_int (v := (fieldPtr (Value.pointer (some ⟨g2, 0, none⟩)) 0)) (e := a2.Memory) rfl sh3 rfl (((p2.mono (le209.trans le248)).at_ I498).fld Mind.fld0) ?_)
       refine wl_op rfl (op_gtr (a := (x170.length : Int)) (b := a2.Memory) rfl rfl rfl ?_)
       refine wl_nil ?_
       rcases ifs h106 with ⟨hc98, h106⟩ | ⟨hc98, h106⟩
       ·
        refine wp_cond_t (b := decide (a2.Memory < (x170.length : Int))) rfl hc98 ?_
        refine wp_region' ?_
        refine wl_op rfl (op_move (v := (Value.slice z274 m274 k274)) rfl rfl ?_)
        obtain ⟨x172, hx172, h106⟩ := bnd h106
        refine wl_op rfl (op_sliceL_row (v := (Value.slice z274 m274 k274)) (lo := 1) rfl Try.underlying94 sh99 rfl I498 rfl hx172 (fun u241 I500 => ?_))
        obtain ⟨z277, m277, k277, e707⟩ := row_form I500
        subst e707
        refine wl_op rfl (op_assign (v := (Value.slice z277 m277 k277)) rfl rfl ?_)
        refine wl_nil ?_
        obtain rfl := Option.some.inj h106
        exact ⟨_, _, _, (((I500.pull 1).drop.pull 2).drop.pull 1), e695, e696, e697, e698, e699, rfl, e701, e702⟩
       ·
        refine wp_cond_f (b := decide (a2.Memory < (x170.length : Int))) rfl hc98 ?_
        refine wp_skip' ?_
        obtain rfl := Option.some.inj h106
        exact ⟨_, _, _, (((I498.pull 1).drop.pull 2).drop.pull 1), e695, e696, e697, e698, e699, rfl, e701, e702⟩
      ·
       rintro f w ⟨z276, m276, k276, I501, e708, e709, e710, e711, e712, e713, e714, e715⟩
       refine wp_seq' ?_
       refine wp_region' ?_
       refine wl_op rfl (op_move (v := (Value.slice z240 m240 k240)) rfl e712 ?_)
       refine wl_op rfl (op_move (v := (Value.int .i64 (v65))) rfl e715 ?_)
       refine wl_op rfl (op_buildSlice (vs := [(Value.int .i64 (v65))]) (r := ([v65] : List Int)) rfl Try.underlying26 el3 (parts1 rfl) rfl (by decide) (by decide) ⟨(rv_int' _), trivial⟩ I501 (fun u242 w303 I502 => ?_))
       obtain ⟨z278, m278, k278, e716⟩ := row_form I502
       subst e716
       obtain ⟨x173, hx173, h91⟩ := bnd h91
       refine wl_op rfl (op_append (α := Int) (v := (Value.slice z240 m240 k240)) (u := (Value.slice z278 m278 k278)) rfl rfl Try.underlying26 el3 (by decide) (by decide) rfl rfl (I502.pull 1) (Inv.rowSrc (I502.nth 0 rfl)) hx173 (fun u243 w304 I503 => ?_))
       obtain ⟨z279, m279, k279, e717⟩ := row_form I503
       subst e717
       refine wl_op rfl (op_assign (v := (Value.slice z279 m279 k279)) rfl rfl ?_)
       refine wl_nil ?_
       refine wp_region' ?_
       refine wl_op rfl (op_fieldAddr_t (v := (Value.pointer (some ⟨g1, 0, none⟩))) rfl fa25_1 e710 ((p1.mono ((le2.trans le209).trans le248)).at_ I503) ?_)
       refine wl_op rfl (op_load (v := (fieldPtr (Value.pointer (some ⟨g1, 0, none⟩)) 1)) (e := a0.Edges) rfl sh23 rfl (((p1.mono ((le2.trans le209).trans le248)).at_ I503).fld Graph.fld1) (fun u244 hu160 => ?_))
       obtain ⟨z280, m280, k280, e718⟩ := rv_form hu160
       subst e718
       refine wl_op rfl (op_move (v := (Value.int .i64 (s1.2.2))) rfl e714 ?_)
       obtain ⟨x174, hx174, h91⟩ := bnd h91
       refine wl_op rfl (op_indexAddr_rv (v := (Value.slice z280 m280 k280)) (i := s1.2.2) (e := x174) rfl Try.underlying23 sh40 rfl hu160 rfl hx174 ?_)
       refine wl_op rfl (op_load (v := (elemPtr (Value.slice z280 m280 k280) (s1.2.2) (Enc.sz (List Edge)))) (e := x174) rfl sh40 rfl (hu160.elem I503.in_ hx174) (fun u245 hu161 => ?_))
       obtain ⟨z281, m281, k281, e719⟩ := rv_form hu161
       subst e719
       refine wl_op rfl (op_move (v := (Value.int .i64 (v65))) rfl e715 ?_)
       obtain ⟨x175, hx175, h91⟩ := bnd h91
       refine wl_op rfl (op_indexAddr_rv (v := (Value.slice z281 m281 k281)) (i := v65) (e := x175) rfl Try.underlying40 sh44 rfl hu161 rfl hx175 ?_)
       refine wl_op rfl (op_fieldAddr_t (v := (elemPtr (Value.slice z281 m281 k281) (v65) (Enc.sz Edge))) rfl fa44_1 rfl (hu161.elem I503.in_ hx175) ?_)
       refine wl_op rfl (op_load_int (v := (fieldPtr (elemPtr (Value.slice z281 m281 k281) (v65) (Enc.sz Edge)) 3)) (e := x175.To) rfl sh3 rfl ((hu161.elem I503.in_ hx175).fld Edge.fld1) ?_)
       refine wl_op rfl (op_assign (v := (Value.int .i64 (x175.To))) rfl rfl ?_)
       refine wl_nil ?_
       obtain rfl := Option.some.inj h91
       exact ⟨_, rfl, _, _, _, _, _, _, _, (le209.trans le248), (((I503.pull 1).drop.pull 1).pull 1), e708, e709, e710, e711, rfl, e713, rfl⟩
 ·
  rintro f w ⟨S249, z242, m242, k242, z243, m243, k243, le249, I504, e720, e721, e722, e723, e724, e725, e726⟩
  refine wp_seq' ?_
  obtain ⟨x176, hx176, h⟩ := bnd h
  refine wp_draw (sps := [⟨some 94, [], [0], fun vs_ T_ => fr0 vs_ 0 = (Value.slice z242 m242 k242), [], [], [], fun _ h_ => h_⟩, ⟨some 95, [], [1], fun vs_ T_ => fr0 vs_ 0 = (Value.slice z3 m3 k3), [], [], [], fun _ h_ => h_⟩, ⟨some 96, [], [2], fun vs_ T_ => fr0 vs_ 0 = (Value.int .i64 (out1.2.2)), [], [], [], fun _ h_ => h_⟩, ⟨some 97, [1, 2], [3], fun vs_ T_ => fr0 vs_ 0 = (elemPtr (Value.slice z3 m3 k3) (out1.2.2) (Enc.sz Int)), [], [], [], fun _ h_ => h_⟩, ⟨some 98, [1, 2, 3], [4], fun vs_ T_ => fr0 vs_ 0 = (Value.int .i64 (x176)), [], [], [], fun _ h_ => h_⟩, ⟨some 99, [1, 2, 3, 4], [5], fun vs_ T_ => fr0 vs_ 0 = (Value.bool (x176 == 0)), [], [], [], fun _ h_ => h_⟩, ⟨some 8, [0], [6], fun vs_ T_ => fr0 vs_ 0 = (Value.slice z242 m242 k242), [], [], [], fun _ h_ => h_⟩, ⟨some 9, [0, 1, 2, 3, 4, 5, 6], [7], fun vs_ T_ => fr0 vs_ 0 = (Value.bool (x176 == 0)), [], [], [], fun _ h_ => h_⟩]) (tks := []) (O := Row (α := Int) 3 (Value.slice z242 m242 k242) (out1.1) :: Row (α := Ref06_gone) 99 (Value.slice z243 m243 k243) (out1.2.1) :: Fr) rfl (by kernel_rfl) I504 ⟨?_, ?_, ?_, ?_, ?_, ?_, ?_, ?_, trivial⟩ ?_
  ·
   intro vs155 f w305 S250 X141 le250 hA141 hK155 hI156
   have I505 : Inv w305 S250 (X141) := hI156
   refine opg_plain rfl rfl (op_move (v := (Value.slice z242 m242 k242)) rfl ((hK155 10 (keep_of rfl)).trans e724) ?_)
   refine ⟨_, _, rfl, PH.Le.refl _, ?_, ?_⟩
   ·
    exact rfl
   ·
    exact I505
  ·
   intro vs156 f w306 S251 X142 le251 hA142 hK156 hI157
   have I506 : Inv w306 S251 (X142) := hI157
   refine opg_plain rfl rfl (op_move (v := (Value.slice z3 m3 k3)) rfl ((hK156 1 (keep_of rfl)).trans e720) ?_)
   refine ⟨_, _, rfl, PH.Le.refl _, ?_, ?_⟩
   ·
    exact rfl
   ·
    exact I506
  ·
   intro vs157 f w307 S252 X143 le252 hA143 hK157 hI158
   have I507 : Inv w307 S252 (X143) := hI158
   refine opg_plain rfl rfl (op_move (v := (Value.int .i64 (out1.2.2))) rfl ((hK157 12 (keep_of rfl)).trans e726) ?_)
   refine ⟨_, _, rfl, PH.Le.refl _, ?_, ?_⟩
   ·
    exact rfl
   ·
    exact I507
  ·
   intro vs158 f w308 S253 X144 le253 hA144 hK158 hI159
   have I508 : Inv w308 S253 (X144) := hI159
   have q155 : f 95 = (Value.slice z3 m3 k3) := vt (hA144.at_ 0 rfl _ rfl) rfl
   have q156 : f 96 = (Value.int .i64 (out1.2.2)) := vt (hA144.at_ 1 rfl _ rfl) rfl
   refine opg_plain rfl rfl (op_indexAddr_rv (v := (Value.slice z3 m3 k3)) (i := out1.2.2) (e := x176) rfl Try.underlying26 sh3 q155 (h1_.mono (((le1.trans le2).trans le249).trans le253)) q156 hx176 ?_)
   refine ⟨_, _, rfl, PH.Le.refl _, ?_, ?_⟩
   ·
    exact rfl
   ·
    exact I508
  ·
   intro vs159 f w309 S254 X145 le254 hA145 hK159 hI160
   have I509 : Inv w309 S254 (X145) := hI160
   have q157 : f 97 = (elemPtr (Value.slice z3 m3 k3) (out1.2.2) (Enc.sz Int)) := vt (hA145.at_ 2 rfl _ rfl) rfl
   refine opg_plain rfl rfl (op_load_int (v := (elemPtr (Value.slice z3 m3 k3) (out1.2.2) (Enc.sz Int))) (e := x176) rfl sh3 q157 ((h1_.mono (((le1.trans le2).trans le249).trans le254)).elem I509.in_ hx176) ?_)
   refine ⟨_, _, rfl, PH.Le.refl _, ?_, ?_⟩
   ·
    exact rfl
   ·
    exact I509
  ·
   intro vs160 f w310 S255 X146 le255 hA146 hK160 hI161
   have I510 : Inv w310 S255 (X146) := hI161
   have q158 : f 98 = (Value.int .i64 (x176)) := vt (hA146.at_ 3 rfl _ rfl) rfl
   refine opg_plain rfl rfl (op_eql (a := x176) (b := 0) rfl q158 rfl ?_)
   refine ⟨_, _, rfl, PH.Le.refl _, ?_, ?_⟩
   ·
    exact rfl
   ·
    exact I510
  ·
   intro vs161 f w311 S256 X147 le256 hA147 hK161 hI162
   have I511 : Inv w311 S256 (X147) := hI162
   have q159 : f 94 = (Value.slice z242 m242 k242) := vt (hA147.at_ 0 rfl _ rfl) rfl
   refine opg_plain rfl rfl (op_assign (v := (Value.slice z242 m242 k242)) rfl q159 ?_)
   refine ⟨_, _, rfl, PH.Le.refl _, ?_, ?_⟩
   ·
    exact rfl
   ·
    exact I511
  ·
   intro vs162 f w312 S257 X148 le257 hA148 hK162 hI163
   have I512 : Inv w312 S257 (X148) := hI163
   have q160 : f 99 = (Value.bool (x176 == 0)) := vt (hA148.at_ 5 rfl _ rfl) rfl
   refine opg_plain rfl rfl (op_assign (v := (Value.bool (x176 == 0))) rfl q160 ?_)
   refine ⟨_, _, rfl, PH.Le.refl _, ?_, ?_⟩
   ·
    exact rfl
   ·
    exact I512
  ·
   intro vs163 f w313 S258 le258 hF15 hK163 hI164
   have I513 : Inv w313 S258 (Row (α := Int) 3 (Value.slice z242 m242 k242) (out1.1) :: Row (α := Ref06_gone) 99 (Value.slice z243 m243 k243) (out1.2.1) :: Fr) := hI164
   have q161 : f 8 = (Value.slice z242 m242 k242) := vt (hF15.at_ 6 rfl _ rfl) rfl
   have q162 : f 9 = (Value.bool (x176 == 0)) := vt (hF15.at_ 7 rfl _ rfl) rfl
   refine wp_ret' ?_
   obtain rfl := Option.some.inj h
   exact ⟨(Value.tuple #[(Value.slice z242 m242 k242), (Value.bool (x176 == 0))]), (res2 rfl q161 q162), _, [Row (α := Int) 3 (Value.slice z242 m242 k242) (out1.1)], (((le1.trans le2).trans le249).trans le258), (I513.pull 1).drop, _, _, _, rfl, rfl⟩
end Go.Proofs.Ytogfongmnkmegaa.Pad
