/- A part of the proof: what the functions of the program compute, shown over the model. -/
import Derived.Test.YtogfongmnkmegaaSeaXP
import Derived.Test.YtogfongmnkmegaaSeaXW3
import Derived.Test.YtogfongmnkmegaaSeaXW4
import Derived.Test.YtogfongmnkmegaaSeaXW5
import Derived.Test.YtogfongmnkmegaaSeaXW14
import Derived.KernelRfl
set_option linter.unusedVariables false
namespace Go.Proofs.Ytogfongmnkmegaa.Pad
open Go Go.Proofs
abbrev spV (d : Nat) (l : List Nat) (k : Nat) (v : Value) : Sp := ⟨some d, l, [k], fun vs_ T_ => fr0 vs_ 0 = v, [], [], [], fun _ h_ => h_⟩
set_option maxHeartbeats 4000000 in
set_option maxRecDepth 100000 in
theorem F11_ok {w : World} {S : PH} {Fr : List HP} {a0 : Graph} {v0 : Value} {a1 : (List Int)} {v1 : Value} {r : Bool} (hI : Inv w S (Fr)) (h0_ : RV S v0 a0) (h1_ : RV S v1 a1) (h : F11 a0 a1 = some r) :
    Calls Try.prog 11 [v0, v1].toArray w (DoneV S Fr (Value.bool (r))) := by
 unfold F11 at h
 obtain ⟨c1, c2, e1, r1, r2⟩ := Graph.inv h0_
 subst e1
 obtain ⟨z1, m1, k1, e2⟩ := rv_form r1
 subst e2
 obtain ⟨z2, m2, k2, e3⟩ := rv_form r2
 subst e3
 obtain ⟨z3, m3, k3, e4⟩ := rv_form h1_
 subst e4
 refine calls_enter (n := 182) (vs := [(Value.agg #[(Value.slice z1 m1 k1), (Value.slice z2 m2 k2)]), (Value.slice z3 m3 k3)]) Try.func11 rfl rfl rfl ?_
 refine wp_seq' ?_
 refine wp_region' ?_
 refine wl_op rfl (op_box (v := (Value.agg #[(Value.slice z1 m1 k1), (Value.slice z2 m2 k2)])) rfl hI rfl (fun g1 w1 I1 => ?_))
 obtain ⟨S1, le1, I2, p1⟩ := Inv.boxFreeze (x := a0) I1 (Graph.rv (s := a0) r1 r2)
 refine wl_op rfl (op_assign (v := (Value.bool (false))) rfl rfl ?_)
 refine wl_nil ?_
 obtain ⟨ov1, h2, h⟩ := bnd h
 refine wp_cut (fun f w => ∃ v1, ov1 = Sum.inl v1 ∧ Inv w S1 (Fr) ∧ f 1 = (Value.slice z3 m3 k3) ∧ f 2 = (Value.pointer (some ⟨g1, 0, none⟩))) ?_ ?_
 ·
  refine wp_seq' ?_
  refine wp_region' ?_
  refine wl_op rfl (op_load (v := (Value.pointer (some ⟨g1, 0, none⟩))) (e := a0) rfl sh25 rfl (p1.at_ I2) (fun u3 hu3 => ?_))
  obtain ⟨c7, c8, e11, r7, r8⟩ := Graph.inv hu3
  subst e11
  obtain ⟨z8, m8, k8, e12⟩ := rv_form r7
  subst e12
  obtain ⟨z9, m9, k9, e13⟩ := rv_form r8
  subst e13
  obtain ⟨x5, hx5, h2⟩ := bnd h2
  refine wl_op rfl (op_call_v (vs := [(Value.agg #[(Value.slice z8 m8 k8), (Value.slice z9 m9 k9)])]) (r := (Value.bool (x5))) rfl ca15 rfl (args1 rfl) I2 (fun Fr_ hF_ => F15_ok hF_ (Graph.rv (s := a0) r7 r8) hx5) (fun w6 I7 => ?_))
  refine wl_op rfl (op_move (v := (Value.bool (x5))) rfl rfl ?_)
  rcases ifs h2 with ⟨hc3, h2⟩ | ⟨hc3, h2⟩
  ·
   refine wl_skip (c := x5) rfl rfl rfl rfl hc3 rfl ?_
   refine wl_skip (c := x5) rfl rfl rfl rfl hc3 rfl ?_
   refine wl_skip (c := x5) rfl rfl rfl rfl hc3 rfl ?_
   refine wl_skip (c := x5) rfl rfl rfl rfl hc3 rfl ?_
   refine wl_op rfl (op_pick_t (c := x5) (a := (Value.bool (true))) rfl rfl hc3 rfl ?_)
   refine wl_nil ?_
   refine wp_cond_t (b := true) rfl rfl ?_
   refine wp_seq' ?_
   refine wp_region' ?_
   obtain ⟨x6, hx6, h2⟩ := bnd h2
   refine wl_op rfl (op_call_v (vs := []) (r := (Value.bool (x6))) rfl ca17 rfl args0 I7 (fun Fr_ hF_ => F17_ok hF_  hx6) (fun w7 I8 => ?_))
   refine wl_op rfl (op_assign (v := (Value.bool (x6))) rfl rfl ?_)
   refine wl_nil ?_
   refine wp_ret' ?_
   obtain rfl := Option.some.inj h2
   have h3 := h
   obtain rfl := Option.some.inj h3
   exact ⟨(Value.bool (x6)), (res1 rfl rfl), _, [], le1, I8, rfl, rfl⟩
  ·
   refine wl_taken (c := x5) rfl rfl rfl rfl hc3 (op_load (v := (Value.pointer (some ⟨g1, 0, none⟩))) (e := a0) rfl sh25 rfl (p1.at_ I7) (fun u4 hu4 => ?_))
   obtain ⟨c9, c10, e14, r9, r10⟩ := Graph.inv hu4
   subst e14
   obtain ⟨z10, m10, k10, e15⟩ := rv_form r9
   subst e15
   obtain ⟨z11, m11, k11, e16⟩ := rv_form r10
   subst e16
   refine wl_taken (c := x5) rfl rfl rfl rfl hc3 (op_move (v := (Value.slice z3 m3 k3)) rfl rfl ?_)
   obtain ⟨x7, hx7, h2⟩ := bnd h2
   refine wl_taken (c := x5) rfl rfl rfl rfl hc3 (op_call_v (vs := [(Value.agg #[(Value.slice z10 m10 k10), (Value.slice z11 m11 k11)]), (Value.slice z3 m3 k3)]) (r := (Value.int .i64 (x7))) rfl ca21 rfl (args2 rfl rfl) I7 (fun Fr_ hF_ => F21_ok hF_ (Graph.rv (s := a0) r9 r10) (h1_.mono le1) hx7) (fun w8 I9 => ?_))
   refine wl_taken (c := x5) rfl rfl rfl rfl hc3 (op_neq (a := x7) (b := 0) rfl rfl rfl ?_)
   refine wl_op rfl (op_pick_f (c := x5) (b := (Value.bool (x7 != 0))) rfl rfl hc3 rfl ?_)
   refine wl_nil ?_
   rcases ifs h2 with ⟨hc4, h2⟩ | ⟨hc4, h2⟩
   ·
    refine wp_cond_t (b := x7 != 0) rfl hc4 ?_
    refine wp_seq' ?_
    refine wp_region' ?_
    obtain ⟨x8, hx8, h2⟩ := bnd h2
    refine wl_op rfl (op_call_v (vs := []) (r := (Value.bool (x8))) rfl ca17 rfl args0 I9 (fun Fr_ hF_ => F17_ok hF_  hx8) (fun w9 I10 => ?_))
    refine wl_op rfl (op_assign (v := (Value.bool (x8))) rfl rfl ?_)
    refine wl_nil ?_
    refine wp_ret' ?_
    obtain rfl := Option.some.inj h2
    have h3 := h
    obtain rfl := Option.some.inj h3
    exact ⟨(Value.bool (x8)), (res1 rfl rfl), _, [], le1, I10, rfl, rfl⟩
   ·
    refine wp_cond_f (b := x7 != 0) rfl hc4 ?_
    refine wp_skip' ?_
    obtain rfl := Option.some.inj h2
    exact ⟨_, rfl, I9, rfl, rfl⟩
 ·
  rintro f w ⟨v1, rfl, I11, e17, e18⟩
  have h := onL_inl h
  refine wp_seq' ?_
  refine wp_region' ?_
  refine wl_op rfl (op_load (v := (Value.pointer (some ⟨g1, 0, none⟩))) (e := a0) rfl sh25 e18 (p1.at_ I11) (fun u5 hu5 => ?_))
  obtain ⟨c11, c12, e19, r11, r12⟩ := Graph.inv hu5
  subst e19
  obtain ⟨z12, m12, k12, e20⟩ := rv_form r11
  subst e20
  obtain ⟨z13, m13, k13, e21⟩ := rv_form r12
  subst e21
  refine wl_op rfl (op_move (v := (Value.slice z3 m3 k3)) rfl e17 ?_)
  obtain ⟨x9, hx9, h⟩ := bnd h
  refine wl_op rfl (op_call (vs := [(Value.agg #[(Value.slice z12 m12 k12), (Value.slice z13 m13 k13)]), (Value.slice z3 m3 k3)]) rfl ca33 rfl (args2 rfl rfl) (F33_ok I11 (Graph.rv (s := a0) r11 r12) (h1_.mono le1) hx9) (fun v2 w10 S2 O1 le2 I12 hv1 => ?_))
  obtain ⟨z14, m14, k14, rfl, rfl⟩ := hv1
  refine wl_op rfl (op_move (v := (Value.tuple #[(Value.slice z14 m14 k14), (Value.int .i64 (x9.2))])) rfl rfl ?_)
  refine wl_op rfl (op_extract (v := (Value.slice z14 m14 k14)) rfl rfl rfl ?_)
  refine wl_op rfl (op_extract (v := (Value.int .i64 (x9.2))) rfl rfl rfl ?_)
  refine wl_op rfl (op_assign (v := (Value.slice z14 m14 k14)) rfl rfl ?_)
  refine wl_op rfl (op_assign (v := (Value.int .i64 (x9.2))) rfl rfl ?_)
  refine wl_nil ?_
  refine wp_seq' ?_
  refine wp_region' ?_
  refine wl_op rfl (op_load (v := (Value.pointer (some ⟨g1, 0, none⟩))) (e := a0) rfl sh25 e18 ((p1.mono le2).at_ I12) (fun u6 hu6 => ?_))
  obtain ⟨c13, c14, e22, r13, r14⟩ := Graph.inv hu6
  subst e22
  obtain ⟨z15, m15, k15, e23⟩ := rv_form r13
  subst e23
  obtain ⟨z16, m16, k16, e24⟩ := rv_form r14
  subst e24
  refine wl_op rfl (op_move (v := (Value.slice z3 m3 k3)) rfl e17 ?_)
  obtain ⟨x10, hx10, h⟩ := bnd h
  refine wl_op rfl (op_call (vs := [(Value.agg #[(Value.slice z15 m15 k15), (Value.slice z16 m16 k16)]), (Value.slice z3 m3 k3)]) rfl ca34 rfl (args2 rfl rfl) (F34_ok I12 (Graph.rv (s := a0) r13 r14) (h1_.mono (le1.trans le2)) hx10) (fun v3 w11 S3 O2 le3 I13 hv2 => ?_))
  obtain ⟨z17, m17, k17, rfl, rfl⟩ := hv2
  refine wl_op rfl (op_move (v := (Value.tuple #[(Value.slice z17 m17 k17), (Value.int .i64 (x10.2))])) rfl rfl ?_)
  refine wl_op rfl (op_extract (v := (Value.slice z17 m17 k17)) rfl rfl rfl ?_)
  refine wl_op rfl (op_extract (v := (Value.int .i64 (x10.2))) rfl rfl rfl ?_)
  refine wl_op rfl (op_assign (v := (Value.slice z17 m17 k17)) rfl rfl ?_)
  refine wl_op rfl (op_assign (v := (Value.int .i64 (x10.2))) rfl rfl ?_)
  refine wl_nil ?_
  obtain ⟨ov5, h8, h⟩ := bnd h
  refine wp_cut (fun f w => ∃ v5, ov5 = Sum.inl v5 ∧ Inv w S3 (Row (α := Int) 3 (Value.slice z14 m14 k14) (x9.1) :: Row (α := Int) 3 (Value.slice z17 m17 k17) (x10.1) :: Fr) ∧ f 1 = (Value.slice z3 m3 k3) ∧ f 2 = (Value.pointer (some ⟨g1, 0, none⟩)) ∧ f 5 = (Value.slice z14 m14 k14) ∧ f 7 = (Value.slice z17 m17 k17)) ?_ ?_
  ·
   obtain ⟨v6, h11, h8⟩ := bnd h8
   refine wp_cut (fun f w => Inv w S3 (Row (α := Int) 3 (Value.slice z14 m14 k14) (x9.1) :: Row (α := Int) 3 (Value.slice z17 m17 k17) (x10.1) :: Fr) ∧ f 1 = (Value.slice z3 m3 k3) ∧ f 2 = (Value.pointer (some ⟨g1, 0, none⟩)) ∧ f 5 = (Value.slice z14 m14 k14) ∧ f 6 = (Value.int .i64 (x9.2)) ∧ f 7 = (Value.slice z17 m17 k17) ∧ f 8 = (Value.int .i64 (x10.2)) ∧ f 40 = (Value.bool (v6))) ?_ ?_
   ·
    refine wp_region' ?_
    refine wl_op rfl (op_move (v := (Value.int .i64 (x9.2))) rfl rfl ?_)
    refine wl_op rfl (op_neq (a := x9.2) (b := 0) rfl rfl rfl ?_)
    refine wl_op rfl (op_move (v := (Value.bool (x9.2 != 0))) rfl rfl ?_)
    rcases ifs h11 with ⟨hc10, h11⟩ | ⟨hc10, h11⟩
    ·
     refine wl_skip (c := x9.2 != 0) rfl rfl rfl rfl hc10 rfl ?_
     refine wl_skip (c := x9.2 != 0) rfl rfl rfl rfl hc10 rfl ?_
     refine wl_op rfl (op_pick_t (c := x9.2 != 0) (a := (Value.bool (true))) rfl rfl hc10 rfl ?_)
     refine wl_nil ?_
     obtain rfl := Option.some.inj h11
     exact ⟨(I13.pull 1), e17, e18, rfl, rfl, rfl, rfl, rfl⟩
    ·
     refine wl_taken (c := x9.2 != 0) rfl rfl rfl rfl hc10 (op_move (v := (Value.int .i64 (x10.2))) rfl rfl ?_)
     refine wl_taken (c := x9.2 != 0) rfl rfl rfl rfl hc10 (op_neq (a := x10.2) (b := 0) rfl rfl rfl ?_)
     refine wl_op rfl (op_pick_f (c := x9.2 != 0) (b := (Value.bool (x10.2 != 0))) rfl rfl hc10 rfl ?_)
     refine wl_nil ?_
     obtain rfl := Option.some.inj h11
     exact ⟨(I13.pull 1), e17, e18, rfl, rfl, rfl, rfl, rfl⟩
   ·
    rintro f w ⟨I16, e32, e33, e34, e35, e36, e37, e38⟩
    rcases ifs h8 with ⟨hc11, h8⟩ | ⟨hc11, h8⟩
    ·
     refine wp_cond_t (b := v6) e38 hc11 ?_
     refine wp_seq' ?_
     refine wp_region' ?_
     refine wl_op rfl (op_move (v := (Value.int .i64 (x9.2))) rfl e35 ?_)
     refine wl_op rfl (op_move (v := (Value.int .i64 (x10.2))) rfl e37 ?_)
     refine wl_op rfl (op_eql (a := x9.2) (b := x10.2) rfl rfl rfl ?_)
     refine wl_op rfl (op_move (v := (Value.bool (x9.2 == x10.2))) rfl rfl ?_)
     rcases ifs h8 with ⟨hc12, h8⟩ | ⟨hc12, h8⟩
     ·
      obtain ⟨x12, hx12, h8⟩ := bnd h8
      refine wl_taken (c := x9.2 == x10.2) rfl rfl rfl rfl hc12 (op_call_v (vs := []) (r := (Value.bool (x12))) rfl ca17 rfl args0 I16 (fun Fr_ hF_ => F17_ok hF_  hx12) (fun w13 I17 => ?_))
      refine wl_op rfl (op_pick_t (c := x9.2 == x10.2) (a := (Value.bool (x12))) rfl rfl hc12 rfl ?_)
      refine wl_op rfl (op_assign (v := (Value.bool (x12))) rfl rfl ?_)
      refine wl_nil ?_
      refine wp_ret' ?_
      obtain rfl := Option.some.inj h8
      have h9 := h
      obtain rfl := Option.some.inj h9
      exact ⟨(Value.bool (x12)), (res1 rfl rfl), _, [], ((le1.trans le2).trans le3), ((I17).drop).drop, rfl, rfl⟩
     ·
      refine wl_skip (c := x9.2 == x10.2) rfl rfl rfl rfl hc12 rfl ?_
      refine wl_op rfl (op_pick_f (c := x9.2 == x10.2) (b := (Value.bool (false))) rfl rfl hc12 rfl ?_)
      refine wl_op rfl (op_assign (v := (Value.bool (false))) rfl rfl ?_)
      refine wl_nil ?_
      refine wp_ret' ?_
      obtain rfl := Option.some.inj h8
      have h9 := h
      obtain rfl := Option.some.inj h9
      exact ⟨(Value.bool (false)), (res1 rfl rfl), _, [], ((le1.trans le2).trans le3), ((I16).drop).drop, rfl, rfl⟩
    ·
     refine wp_cond_f (b := v6) e38 hc11 ?_
     refine wp_skip' ?_
     obtain rfl := Option.some.inj h8
     exact ⟨_, rfl, ((I16.pull 1).pull 1), e32, e33, e34, e36⟩
  ·
   rintro f w ⟨v5, rfl, I18, e39, e40, e41, e42⟩
   have h := onL_inl h
   refine wp_seq' ?_
   refine wp_region' ?_
   refine wl_op rfl (op_assign (v := (Value.int .i64 (0))) rfl rfl ?_)
   refine wl_nil ?_
   refine wp_seq' ?_
   refine wp_seq' ?_
   refine wp_region' ?_
   refine wl_op rfl (op_assign (v := (Value.int .i64 (0))) rfl rfl ?_)
   refine wl_nil ?_
   have hk1 : a1.length ≤ 9223372036854775807 := (rv_len h1_)
   obtain ⟨o2, hrun1, h⟩ := bnd h
   refine wp_cutN (fun f w => ∃ out1, o2 = Sum.inl out1 ∧ ∃ (S_ : PH), S3.Le S_ ∧ Inv w S_ (Row (α := Int) 3 (Value.slice z14 m14 k14) (x9.1) :: Row (α := Int) 3 (Value.slice z17 m17 k17) (x10.1) :: Fr) ∧ f 1 = (Value.slice z3 m3 k3) ∧ f 2 = (Value.pointer (some ⟨g1, 0, none⟩)) ∧ f 5 = (Value.slice z14 m14 k14) ∧ f 7 = (Value.slice z17 m17 k17) ∧ f 9 = (Value.int .i64 (out1))) ?_ ?_
   ·
    refine wp_block' ?_
    refine wp_forN (I := fun (i1 : Nat) (s1 : (Int)) (f : Frm) (w : World) => ∃ (S_ : PH), S3.Le S_ ∧ Inv w S_ (Row (α := Int) 3 (Value.slice z14 m14 k14) (x9.1) :: Row (α := Int) 3 (Value.slice z17 m17 k17) (x10.1) :: Fr) ∧ f 1 = (Value.slice z3 m3 k3) ∧ f 2 = (Value.pointer (some ⟨g1, 0, none⟩)) ∧ f 5 = (Value.slice z14 m14 k14) ∧ f 7 = (Value.slice z17 m17 k17) ∧ f 9 = (Value.int .i64 (s1)) ∧ f 10 = (Value.int .i64 (i1 : Int))) hrun1 ⟨_, (PH.Le.refl _), ((I18.pull 1).pull 1), e39, e40, e41, e42, rfl, rfl⟩ ?_ ?_
    ·
     rintro i1 s1 f w o1 hlt1 hI1240 h22 hout1
     obtain ⟨S1245, le1245, I1264, e370, e371, e372, e373, e374, e375⟩ := hI1240
     refine wp_seq' ?_
     refine wp_seq' ?_
     refine wp_region' ?_
     refine wl_op rfl (op_move (v := (Value.int .i64 ((i1 : Int)))) rfl e375 ?_)
     refine wl_op rfl (op_move (v := (Value.slice z3 m3 k3)) rfl e370 ?_)
     refine wl_op rfl (op_len_rv rfl Try.underlying26 rfl (h1_.mono (((le1.trans le2).trans le3).trans le1245)) ?_)
     refine wl_op rfl (op_lss (a := (i1 : Int)) (b := (a1.length : Int)) rfl rfl rfl ?_)
     refine wl_nil ?_
     refine wp_cond_t (b := decide ((i1 : Int) < (a1.length : Int))) rfl (len_t hlt1) ?_
     refine wp_skip' ?_
     refine wp_seq' ?_
     refine wp_block' ?_
     obtain ⟨v10, h25, h22⟩ := bnd h22
     refine wp_cut (fun f w => Inv w S1245 (Row (α := Int) 3 (Value.slice z14 m14 k14) (x9.1) :: Row (α := Int) 3 (Value.slice z17 m17 k17) (x10.1) :: Fr) ∧ f 1 = (Value.slice z3 m3 k3) ∧ f 2 = (Value.pointer (some ⟨g1, 0, none⟩)) ∧ f 5 = (Value.slice z14 m14 k14) ∧ f 7 = (Value.slice z17 m17 k17) ∧ f 9 = (Value.int .i64 (v10)) ∧ f 10 = (Value.int .i64 ((i1 : Int)))) ?_ ?_
     ·
      refine wp_seq' ?_
      refine wp_region' ?_
      refine wl_op rfl (op_move (v := (Value.slice z3 m3 k3)) rfl e370 ?_)
      refine wl_op rfl (op_move (v := (Value.int .i64 ((i1 : Int)))) rfl e375 ?_)
      obtain ⟨x29, hx29, h25⟩ := bnd h25
      refine wl_op rfl (op_indexAddr_rv (v := (Value.slice z3 m3 k3)) (i := (i1 : Int)) (e := x29) rfl Try.underlying26 sh3 rfl (h1_.mono (((le1.trans le2).trans le3).trans le1245)) rfl hx29 ?_)
      refine wl_op rfl (op_load_int (v := (elemPtr (Value.slice z3 m3 k3) ((i1 : Int)) (Enc.sz Int))) (e := x29) rfl sh3 rfl ((h1_.mono (((le1.trans le2).trans le3).trans le1245)).elem I1264.in_ hx29) ?_)
      refine wl_op rfl (op_geq (a := x29) (b := 0) rfl rfl rfl ?_)
      refine wl_nil ?_
      rcases ifs h25 with ⟨hc44, h25⟩ | ⟨hc44, h25⟩
      ·
       refine wp_cond_t (b := decide (0 ≤ x29)) rfl hc44 ?_
       refine wp_region' ?_
       refine wl_op rfl (op_move (v := (Value.int .i64 (s1))) rfl e374 ?_)
       refine wl_op rfl (op_add (a := s1) (b := 1) rfl rfl rfl ?_)
       refine wl_op rfl (op_assign (v := (Value.int .i64 (w64 (s1 + 1)))) rfl rfl ?_)
       refine wl_nil ?_
       obtain rfl := Option.some.inj h25
       exact ⟨((I1264.pull 1).pull 1), e370, e371, e372, e373, rfl, e375⟩
      ·
       refine wp_cond_f (b := decide (0 ≤ x29)) rfl hc44 ?_
       refine wp_skip' ?_
       obtain rfl := Option.some.inj h25
       exact ⟨((I1264.pull 1).pull 1), e370, e371, e372, e373, e374, e375⟩
     ·
      rintro f w ⟨I1265, e376, e377, e378, e379, e380, e381⟩
      refine wp_seq' ?_
      rcases ifs h22 with ⟨hc45, h22⟩ | ⟨hc45, h22⟩
      ·
       refine wp_draw (sps := [spV 60 [] 0 (Value.slice z17 m17 k17), ⟨some 61, [0], [1], fun vs_ T_ => fr0 vs_ 0 = (Value.int .i64 ((x10.1.length : Int))), [0], [], [], fun _ h_ => h_⟩, spV 62 [] 2 (Value.slice z3 m3 k3), spV 63 [2] 3 (Value.int .i64 ((a1.length : Int))), spV 64 [0, 1, 2, 3] 4 (Value.bool ((x10.1.length : Int) != (a1.length : Int))), spV 65 [0, 1, 2, 3, 4] 5 (Value.bool ((x10.1.length : Int) != (a1.length : Int))), spV 66 (List.range 6) 6 undef, spV 67 (List.range 6) 7 undef, spV 68 (List.range 8) 8 undef, spV 69 (List.range 9) 9 undef, spV 70 (List.range 6) 10 undef, spV 71 (List.range 6 ++ [10]) 11 undef, spV 72 (List.range 6) 12 undef, spV 73 (List.range 6 ++ [10, 11, 12]) 13 undef, spV 74 (List.range 6 ++ [10, 11, 12, 13]) 14 undef, spV 75 (List.range 6 ++ [10, 11, 12, 13, 14]) 15 undef, spV 76 (List.range 16) 16 undef, spV 77 (List.range 17) 17 (Value.bool (true)), spV 78 (List.range 18) 18 (Value.bool (true)), spV 79 (List.range 19) 19 undef, spV 80 (List.range 19) 20 undef, spV 81 (List.range 21) 21 undef, spV 82 (List.range 22) 22 undef, spV 83 (List.range 23) 23 undef, spV 84 (List.range 24) 24 undef, spV 85 (List.range 25) 25 undef, spV 86 (List.range 25) 26 undef, spV 87 (List.range 27) 27 undef, spV 88 (List.range 28) 28 undef, spV 89 (List.range 25) 29 undef, spV 90 (List.range 25 ++ [29]) 30 undef, spV 91 (List.range 25) 31 undef, spV 92 (List.range 25 ++ [29, 30, 31]) 32 undef, spV 93 (List.range 25 ++ [29, 30, 31, 32]) 33 undef, spV 94 (List.range 25 ++ [29, 30, 31, 32, 33]) 34 undef, spV 95 (List.range 35) 35 undef, spV 96 (List.range 36) 36 undef, spV 97 (List.range 37) 37 (Value.bool (true)), spV 98 (List.range 38) 38 (Value.bool (true)), spV 99 (List.range 39) 39 undef, spV 100 (List.range 39) 40 undef, spV 101 (List.range 41) 41 undef, spV 102 (List.range 42) 42 undef, spV 103 (List.range 43) 43 undef, spV 104 (List.range 44) 44 undef, spV 105 (List.range 45) 45 undef, spV 106 (List.range 45) 46 undef, spV 107 (List.range 47) 47 undef, spV 108 (List.range 48) 48 undef, spV 109 (List.range 45) 49 undef, spV 110 (List.range 45 ++ [49]) 50 undef, spV 111 (List.range 45) 51 undef, spV 112 (List.range 45 ++ [49, 50, 51]) 52 undef, spV 113 (List.range 45 ++ [49, 50, 51, 52]) 53 undef, spV 114 (List.range 45 ++ [49, 50, 51, 52, 53]) 54 undef, spV 115 (List.range 55) 55 undef, spV 116 (List.range 56) 56 undef, spV 117 (List.range 57) 57 (Value.bool (true))]) (tks := [⟨none, none, [], fun vs_ => Row (α := Int) 3 (Value.slice z17 m17 k17) (x10.1)⟩]) (O := Row (α := Int) 3 (Value.slice z14 m14 k14) (x9.1) :: Fr) rfl (by kernel_rfl) (I1265.pull 1) ⟨?_, ?_, ?_, ?_, ?_, ?_, ?_, ?_, ?_, ?_, ?_, ?_, ?_, ?_, ?_, ?_, ?_, ?_, ?_, ?_, ?_, ?_, ?_, ?_, ?_, ?_, ?_, ?_, ?_, ?_, ?_, ?_, ?_, ?_, ?_, ?_, ?_, ?_, ?_, ?_, ?_, ?_, ?_, ?_, ?_, ?_, ?_, ?_, ?_, ?_, ?_, ?_, ?_, ?_, ?_, ?_, ?_, ?_, trivial⟩ ?_
       ·
        intro vs1240 f w1254 S1246 X1219 le1246 hA1219 hK1240 hI1241
        have I1266 : Inv w1254 S1246 (X1219) := hI1241
        refine opg_plain rfl rfl (op_move (v := (Value.slice z17 m17 k17)) rfl ((hK1240 7 (keep_of rfl)).trans e379) ?_)
        refine ⟨_, _, rfl, PH.Le.refl _, ?_, ?_⟩
        ·
         exact rfl
        ·
         exact I1266
       ·
        intro vs1241 f w1255 S1247 X1220 le1247 hA1220 hK1241 hI1242
        have I1267 : Inv w1255 S1247 (Row (α := Int) 3 (Value.slice z17 m17 k17) (x10.1) :: X1220) := hI1242
        have q2272 := vt (hA1220.at_ 0 rfl _ rfl) rfl
        refine opg_plain rfl rfl (op_len_row (α := Int) rfl Try.underlying26 q2272 (I1267.nth 0 rfl) ?_)
        refine ⟨_, _, rfl, PH.Le.refl _, ?_, ?_⟩
        ·
         exact rfl
        ·
         exact I1267
       ·
        intro vs1242 f w1256 S1248 X1221 le1248 hA1221 hK1242 hI1243
        have I1268 : Inv w1256 S1248 (X1221) := hI1243
        refine opg_plain rfl rfl (op_move (v := (Value.slice z3 m3 k3)) rfl ((hK1242 1 (keep_of rfl)).trans e376) ?_)
        refine ⟨_, _, rfl, PH.Le.refl _, ?_, ?_⟩
        ·
         exact rfl
        ·
         exact I1268
       ·
        intro vs1243 f w1257 S1249 X1222 le1249 hA1222 hK1243 hI1244
        have I1269 : Inv w1257 S1249 (X1222) := hI1244
        have q2273 := vt (hA1222.at_ 0 rfl _ rfl) rfl
        refine opg_plain rfl rfl (op_len_rv rfl Try.underlying26 q2273 (h1_.mono ((((le1.trans le2).trans le3).trans le1245).trans le1249)) ?_)
        refine ⟨_, _, rfl, PH.Le.refl _, ?_, ?_⟩
        ·
         exact rfl
        ·
         exact I1269
       ·
        intro vs1244 f w1258 S1250 X1223 le1250 hA1223 hK1244 hI1245
        have I1270 : Inv w1258 S1250 (X1223) := hI1245
        have q2274 := vt (hA1223.at_ 1 rfl _ rfl) rfl
        have q2275 := vt (hA1223.at_ 3 rfl _ rfl) rfl
        refine opg_plain rfl rfl (op_neq (a := (x10.1.length : Int)) (b := (a1.length : Int)) rfl q2274 q2275 ?_)
        refine ⟨_, _, rfl, PH.Le.refl _, ?_, ?_⟩
        ·
         exact rfl
        ·
         exact I1270
       ·
        intro vs1245 f w1259 S1251 X1224 le1251 hA1224 hK1245 hI1246
        have I1271 : Inv w1259 S1251 (X1224) := hI1246
        have q2276 := vt (hA1224.at_ 4 rfl _ rfl) rfl
        refine opg_plain rfl rfl (op_move (v := (Value.bool ((x10.1.length : Int) != (a1.length : Int)))) rfl q2276 ?_)
        refine ⟨_, _, rfl, PH.Le.refl _, ?_, ?_⟩
        ·
         exact rfl
        ·
         exact I1271
       ·
        intro vs1246 f w1260 S1252 X1225 le1252 hA1225 hK1246 hI1247
        have I1272 : Inv w1260 S1252 (X1225) := hI1247
        have q2277 := vt (hA1225.at_ 5 rfl _ rfl) rfl
        exact opg_skip (c := (x10.1.length : Int) != (a1.length : Int)) rfl rfl rfl rfl q2277 hc45 rfl ⟨_, _, rfl, PH.Le.refl _, rfl, I1272⟩
       ·
        intro vs1247 f w1261 S1253 X1226 le1253 hA1226 hK1247 hI1248
        have I1273 : Inv w1261 S1253 (X1226) := hI1248
        have q2278 := vt (hA1226.at_ 5 rfl _ rfl) rfl
        exact opg_skip (c := (x10.1.length : Int) != (a1.length : Int)) rfl rfl rfl rfl q2278 hc45 rfl ⟨_, _, rfl, PH.Le.refl _, rfl, I1273⟩
       ·
        intro vs1248 f w1262 S1254 X1227 le1254 hA1227 hK1248 hI1249
        have I1274 : Inv w1262 S1254 (X1227) := hI1249
        have q2279 := vt (hA1227.at_ 5 rfl _ rfl) rfl
        have q2280 := vt (hA1227.at_ 6 rfl _ rfl) rfl
        have q2281 := vt (hA1227.at_ 7 rfl _ rfl) rfl
        exact opg_skip (c := (x10.1.length : Int) != (a1.length : Int)) rfl rfl rfl rfl q2279 hc45 rfl ⟨_, _, rfl, PH.Le.refl _, rfl, I1274⟩
       ·
        intro vs1249 f w1263 S1255 X1228 le1255 hA1228 hK1249 hI1250
        have I1275 : Inv w1263 S1255 (X1228) := hI1250
        have q2282 := vt (hA1228.at_ 5 rfl _ rfl) rfl
        have q2283 := vt (hA1228.at_ 8 rfl _ rfl) rfl
        exact opg_skip (c := (x10.1.length : Int) != (a1.length : Int)) rfl rfl rfl rfl q2282 hc45 rfl ⟨_, _, rfl, PH.Le.refl _, rfl, I1275⟩
       ·
        intro vs1250 f w1264 S1256 X1229 le1256 hA1229 hK1250 hI1251
        have I1276 : Inv w1264 S1256 (X1229) := hI1251
        have q2284 := vt (hA1229.at_ 5 rfl _ rfl) rfl
        exact opg_skip (c := (x10.1.length : Int) != (a1.length : Int)) rfl rfl rfl rfl q2284 hc45 rfl ⟨_, _, rfl, PH.Le.refl _, rfl, I1276⟩
       ·
        intro vs1251 f w1265 S1257 X1230 le1257 hA1230 hK1251 hI1252
        have I1277 : Inv w1265 S1257 (X1230) := hI1252
        have q2285 := vt (hA1230.at_ 5 rfl _ rfl) rfl
        have q2286 := vt (hA1230.at_ 6 rfl _ rfl) rfl
        exact opg_skip (c := (x10.1.length : Int) != (a1.length : Int)) rfl rfl rfl rfl q2285 hc45 rfl ⟨_, _, rfl, PH.Le.refl _, rfl, I1277⟩
       ·
        intro vs1252 f w1266 S1258 X1231 le1258 hA1231 hK1252 hI1253
        have I1278 : Inv w1266 S1258 (X1231) := hI1253
        have q2287 := vt (hA1231.at_ 5 rfl _ rfl) rfl
        exact opg_skip (c := (x10.1.length : Int) != (a1.length : Int)) rfl rfl rfl rfl q2287 hc45 rfl ⟨_, _, rfl, PH.Le.refl _, rfl, I1278⟩
       ·
        intro vs1253 f w1267 S1259 X1232 le1259 hA1232 hK1253 hI1254
        have I1279 : Inv w1267 S1259 (X1232) := hI1254
        have q2288 := vt (hA1232.at_ 5 rfl _ rfl) rfl
        have q2289 := vt (hA1232.at_ 7 rfl _ rfl) rfl
        have q2290 := vt (hA1232.at_ 8 rfl _ rfl) rfl
        exact opg_skip (c := (x10.1.length : Int) != (a1.length : Int)) rfl rfl rfl rfl q2288 hc45 rfl ⟨_, _, rfl, PH.Le.refl _, rfl, I1279⟩
       ·
        intro vs1254 f w1268 S1260 X1233 le1260 hA1233 hK1254 hI1255
        have I1280 : Inv w1268 S1260 (X1233) := hI1255
        have q2291 := vt (hA1233.at_ 5 rfl _ rfl) rfl
        have q2292 := vt (hA1233.at_ 9 rfl _ rfl) rfl
        exact opg_skip (c := (x10.1.length : Int) != (a1.length : Int)) rfl rfl rfl rfl q2291 hc45 rfl ⟨_, _, rfl, PH.Le.refl _, rfl, I1280⟩
       ·
        intro vs1255 f w1269 S1261 X1234 le1261 hA1234 hK1255 hI1256
        have I1281 : Inv w1269 S1261 (X1234) := hI1256
        have q2293 := vt (hA1234.at_ 5 rfl _ rfl) rfl
        have q2294 := vt (hA1234.at_ 10 rfl _ rfl) rfl
        exact opg_skip (c := (x10.1.length : Int) != (a1.length : Int)) rfl rfl rfl rfl q2293 hc45 rfl ⟨_, _, rfl, PH.Le.refl _, rfl, I1281⟩
       ·
        intro vs1256 f w1270 S1262 X1235 le1262 hA1235 hK1256 hI1257
        have I1282 : Inv w1270 S1262 (X1235) := hI1257
        have q2295 := vt (hA1235.at_ 5 rfl _ rfl) rfl
        have q2296 := vt (hA1235.at_ 9 rfl _ rfl) rfl
        have q2297 := vt (hA1235.at_ 15 rfl _ rfl) rfl
        exact opg_skip (c := (x10.1.length : Int) != (a1.length : Int)) rfl rfl rfl rfl q2295 hc45 rfl ⟨_, _, rfl, PH.Le.refl _, rfl, I1282⟩
       ·
        intro vs1257 f w1271 S1263 X1236 le1263 hA1236 hK1257 hI1258
        have I1283 : Inv w1271 S1263 (X1236) := hI1258
        have q2298 := vt (hA1236.at_ 5 rfl _ rfl) rfl
        have q2299 := vt (hA1236.at_ 16 rfl _ rfl) rfl
        refine opg_plain rfl rfl (op_pick_t (c := (x10.1.length : Int) != (a1.length : Int)) (a := (Value.bool (true))) rfl q2298 hc45 rfl ?_)
        refine ⟨_, _, rfl, PH.Le.refl _, ?_, ?_⟩
        ·
         exact rfl
        ·
         exact I1283
       ·
        intro vs1258 f w1272 S1264 X1237 le1264 hA1237 hK1258 hI1259
        have I1284 : Inv w1272 S1264 (X1237) := hI1259
        have q2300 := vt (hA1237.at_ 17 rfl _ rfl) rfl
        refine opg_plain rfl rfl (op_move (v := (Value.bool (true))) rfl q2300 ?_)
        refine ⟨_, _, rfl, PH.Le.refl _, ?_, ?_⟩
        ·
         exact rfl
        ·
         exact I1284
       ·
        intro vs1259 f w1273 S1265 X1238 le1265 hA1238 hK1259 hI1260
        have I1285 : Inv w1273 S1265 (X1238) := hI1260
        have q2301 := vt (hA1238.at_ 18 rfl _ rfl) rfl
        exact opg_skip (c := true) rfl rfl rfl rfl q2301 rfl rfl ⟨_, _, rfl, PH.Le.refl _, rfl, I1285⟩
       ·
        intro vs1260 f w1274 S1266 X1239 le1266 hA1239 hK1260 hI1261
        have I1286 : Inv w1274 S1266 (X1239) := hI1261
        have q2302 := vt (hA1239.at_ 18 rfl _ rfl) rfl
        exact opg_skip (c := true) rfl rfl rfl rfl q2302 rfl rfl ⟨_, _, rfl, PH.Le.refl _, rfl, I1286⟩
       ·
        intro vs1261 f w1275 S1267 X1240 le1267 hA1240 hK1261 hI1262
        have I1287 : Inv w1275 S1267 (X1240) := hI1262
        have q2303 := vt (hA1240.at_ 18 rfl _ rfl) rfl
        have q2304 := vt (hA1240.at_ 19 rfl _ rfl) rfl
        have q2305 := vt (hA1240.at_ 20 rfl _ rfl) rfl
        exact opg_skip (c := true) rfl rfl rfl rfl q2303 rfl rfl ⟨_, _, rfl, PH.Le.refl _, rfl, I1287⟩
       ·
        intro vs1262 f w1276 S1268 X1241 le1268 hA1241 hK1262 hI1263
        have I1288 : Inv w1276 S1268 (X1241) := hI1263
        have q2306 := vt (hA1241.at_ 18 rfl _ rfl) rfl
        have q2307 := vt (hA1241.at_ 21 rfl _ rfl) rfl
        exact opg_skip (c := true) rfl rfl rfl rfl q2306 rfl rfl ⟨_, _, rfl, PH.Le.refl _, rfl, I1288⟩
       ·
        intro vs1263 f w1277 S1269 X1242 le1269 hA1242 hK1263 hI1264
        have I1289 : Inv w1277 S1269 (X1242) := hI1264
        have q2308 := vt (hA1242.at_ 18 rfl _ rfl) rfl
        have q2309 := vt (hA1242.at_ 22 rfl _ rfl) rfl
        exact opg_skip (c := true) rfl rfl rfl rfl q2308 rfl rfl ⟨_, _, rfl, PH.Le.refl _, rfl, I1289⟩
       ·
        intro vs1264 f w1278 S1270 X1243 le1270 hA1243 hK1264 hI1265
        have I1290 : Inv w1278 S1270 (X1243) := hI1265
        have q2310 := vt (hA1243.at_ 18 rfl _ rfl) rfl
        have q2311 := vt (hA1243.at_ 23 rfl _ rfl) rfl
        exact opg_skip (c := true) rfl rfl rfl rfl q2310 rfl rfl ⟨_, _, rfl, PH.Le.refl _, rfl, I1290⟩
       ·
        intro vs1265 f w1279 S1271 X1244 le1271 hA1244 hK1265 hI1266
        have I1291 : Inv w1279 S1271 (X1244) := hI1266
        have q2312 := vt (hA1244.at_ 24 rfl _ rfl) rfl
        exact opg_skip_u rfl rfl rfl rfl q2312 rfl ⟨_, _, rfl, PH.Le.refl _, rfl, I1291⟩
       ·
        intro vs1266 f w1280 S1272 X1245 le1272 hA1245 hK1266 hI1267
        have I1292 : Inv w1280 S1272 (X1245) := hI1267
        have q2313 := vt (hA1245.at_ 24 rfl _ rfl) rfl
        exact opg_skip_u rfl rfl rfl rfl q2313 rfl ⟨_, _, rfl, PH.Le.refl _, rfl, I1292⟩
       ·
        intro vs1267 f w1281 S1273 X1246 le1273 hA1246 hK1267 hI1268
        have I1293 : Inv w1281 S1273 (X1246) := hI1268
        have q2314 := vt (hA1246.at_ 24 rfl _ rfl) rfl
        have q2315 := vt (hA1246.at_ 25 rfl _ rfl) rfl
        have q2316 := vt (hA1246.at_ 26 rfl _ rfl) rfl
        exact opg_skip_u rfl rfl rfl rfl q2314 rfl ⟨_, _, rfl, PH.Le.refl _, rfl, I1293⟩
       ·
        intro vs1268 f w1282 S1274 X1247 le1274 hA1247 hK1268 hI1269
        have I1294 : Inv w1282 S1274 (X1247) := hI1269
        have q2317 := vt (hA1247.at_ 24 rfl _ rfl) rfl
        have q2318 := vt (hA1247.at_ 27 rfl _ rfl) rfl
        exact opg_skip_u rfl rfl rfl rfl q2317 rfl ⟨_, _, rfl, PH.Le.refl _, rfl, I1294⟩
       ·
        intro vs1269 f w1283 S1275 X1248 le1275 hA1248 hK1269 hI1270
        have I1295 : Inv w1283 S1275 (X1248) := hI1270
        have q2319 := vt (hA1248.at_ 24 rfl _ rfl) rfl
        exact opg_skip_u rfl rfl rfl rfl q2319 rfl ⟨_, _, rfl, PH.Le.refl _, rfl, I1295⟩
       ·
        intro vs1270 f w1284 S1276 X1249 le1276 hA1249 hK1270 hI1271
        have I1296 : Inv w1284 S1276 (X1249) := hI1271
        have q2320 := vt (hA1249.at_ 24 rfl _ rfl) rfl
        have q2321 := vt (hA1249.at_ 25 rfl _ rfl) rfl
        exact opg_skip_u rfl rfl rfl rfl q2320 rfl ⟨_, _, rfl, PH.Le.refl _, rfl, I1296⟩
       ·
        intro vs1271 f w1285 S1277 X1250 le1277 hA1250 hK1271 hI1272
        have I1297 : Inv w1285 S1277 (X1250) := hI1272
        have q2322 := vt (hA1250.at_ 24 rfl _ rfl) rfl
        exact opg_skip_u rfl rfl rfl rfl q2322 rfl ⟨_, _, rfl, PH.Le.refl _, rfl, I1297⟩
       ·
        intro vs1272 f w1286 S1278 X1251 le1278 hA1251 hK1272 hI1273
        have I1298 : Inv w1286 S1278 (X1251) := hI1273
        have q2323 := vt (hA1251.at_ 24 rfl _ rfl) rfl
        have q2324 := vt (hA1251.at_ 26 rfl _ rfl) rfl
        have q2325 := vt (hA1251.at_ 27 rfl _ rfl) rfl
        exact opg_skip_u rfl rfl rfl rfl q2323 rfl ⟨_, _, rfl, PH.Le.refl _, rfl, I1298⟩
       ·
        intro vs1273 f w1287 S1279 X1252 le1279 hA1252 hK1273 hI1274
        have I1299 : Inv w1287 S1279 (X1252) := hI1274
        have q2326 := vt (hA1252.at_ 24 rfl _ rfl) rfl
        have q2327 := vt (hA1252.at_ 28 rfl _ rfl) rfl
        exact opg_skip_u rfl rfl rfl rfl q2326 rfl ⟨_, _, rfl, PH.Le.refl _, rfl, I1299⟩
       ·
        intro vs1274 f w1288 S1280 X1253 le1280 hA1253 hK1274 hI1275
        have I1300 : Inv w1288 S1280 (X1253) := hI1275
        have q2328 := vt (hA1253.at_ 24 rfl _ rfl) rfl
        have q2329 := vt (hA1253.at_ 29 rfl _ rfl) rfl
        exact opg_skip_u rfl rfl rfl rfl q2328 rfl ⟨_, _, rfl, PH.Le.refl _, rfl, I1300⟩
       ·
        intro vs1275 f w1289 S1281 X1254 le1281 hA1254 hK1275 hI1276
        have I1301 : Inv w1289 S1281 (X1254) := hI1276
        have q2330 := vt (hA1254.at_ 24 rfl _ rfl) rfl
        have q2331 := vt (hA1254.at_ 28 rfl _ rfl) rfl
        have q2332 := vt (hA1254.at_ 34 rfl _ rfl) rfl
        exact opg_skip_u rfl rfl rfl rfl q2330 rfl ⟨_, _, rfl, PH.Le.refl _, rfl, I1301⟩
       ·
        intro vs1276 f w1290 S1282 X1255 le1282 hA1255 hK1276 hI1277
        have I1302 : Inv w1290 S1282 (X1255) := hI1277
        have q2333 := vt (hA1255.at_ 18 rfl _ rfl) rfl
        have q2334 := vt (hA1255.at_ 24 rfl _ rfl) rfl
        have q2335 := vt (hA1255.at_ 35 rfl _ rfl) rfl
        exact opg_skip (c := true) rfl rfl rfl rfl q2333 rfl rfl ⟨_, _, rfl, PH.Le.refl _, rfl, I1302⟩
       ·
        intro vs1277 f w1291 S1283 X1256 le1283 hA1256 hK1277 hI1278
        have I1303 : Inv w1291 S1283 (X1256) := hI1278
        have q2336 := vt (hA1256.at_ 18 rfl _ rfl) rfl
        have q2337 := vt (hA1256.at_ 36 rfl _ rfl) rfl
        refine opg_plain rfl rfl (op_pick_t (c := true) (a := (Value.bool (true))) rfl q2336 rfl rfl ?_)
        refine ⟨_, _, rfl, PH.Le.refl _, ?_, ?_⟩
        ·
         exact rfl
        ·
         exact I1303
       ·
        intro vs1278 f w1292 S1284 X1257 le1284 hA1257 hK1278 hI1279
        have I1304 : Inv w1292 S1284 (X1257) := hI1279
        have q2338 := vt (hA1257.at_ 37 rfl _ rfl) rfl
        refine opg_plain rfl rfl (op_move (v := (Value.bool (true))) rfl q2338 ?_)
        refine ⟨_, _, rfl, PH.Le.refl _, ?_, ?_⟩
        ·
         exact rfl
        ·
         exact I1304
       ·
        intro vs1279 f w1293 S1285 X1258 le1285 hA1258 hK1279 hI1280
        have I1305 : Inv w1293 S1285 (X1258) := hI1280
        have q2339 := vt (hA1258.at_ 38 rfl _ rfl) rfl
        exact opg_skip (c := true) rfl rfl rfl rfl q2339 rfl rfl ⟨_, _, rfl, PH.Le.refl _, rfl, I1305⟩
       ·
        intro vs1280 f w1294 S1286 X1259 le1286 hA1259 hK1280 hI1281
        have I1306 : Inv w1294 S1286 (X1259) := hI1281
        have q2340 := vt (hA1259.at_ 38 rfl _ rfl) rfl
        exact opg_skip (c := true) rfl rfl rfl rfl q2340 rfl rfl ⟨_, _, rfl, PH.Le.refl _, rfl, I1306⟩
       ·
        intro vs1281 f w1295 S1287 X1260 le1287 hA1260 hK1281 hI1282
        have I1307 : Inv w1295 S1287 (X1260) := hI1282
        have q2341 := vt (hA1260.at_ 38 rfl _ rfl) rfl
        have q2342 := vt (hA1260.at_ 39 rfl _ rfl) rfl
        have q2343 := vt (hA1260.at_ 40 rfl _ rfl) rfl
        exact opg_skip (c := true) rfl rfl rfl rfl q2341 rfl rfl ⟨_, _, rfl, PH.Le.refl _, rfl, I1307⟩
       ·
        intro vs1282 f w1296 S1288 X1261 le1288 hA1261 hK1282 hI1283
        have I1308 : Inv w1296 S1288 (X1261) := hI1283
        have q2344 := vt (hA1261.at_ 38 rfl _ rfl) rfl
        have q2345 := vt (hA1261.at_ 41 rfl _ rfl) rfl
        exact opg_skip (c := true) rfl rfl rfl rfl q2344 rfl rfl ⟨_, _, rfl, PH.Le.refl _, rfl, I1308⟩
       ·
        intro vs1283 f w1297 S1289 X1262 le1289 hA1262 hK1283 hI1284
        have I1309 : Inv w1297 S1289 (X1262) := hI1284
        have q2346 := vt (hA1262.at_ 38 rfl _ rfl) rfl
        have q2347 := vt (hA1262.at_ 42 rfl _ rfl) rfl
        exact opg_skip (c := true) rfl rfl rfl rfl q2346 rfl rfl ⟨_, _, rfl, PH.Le.refl _, rfl, I1309⟩
       ·
        intro vs1284 f w1298 S1290 X1263 le1290 hA1263 hK1284 hI1285
        have I1310 : Inv w1298 S1290 (X1263) := hI1285
        have q2348 := vt (hA1263.at_ 38 rfl _ rfl) rfl
        have q2349 := vt (hA1263.at_ 43 rfl _ rfl) rfl
        exact opg_skip (c := true) rfl rfl rfl rfl q2348 rfl rfl ⟨_, _, rfl, PH.Le.refl _, rfl, I1310⟩
       ·
        intro vs1285 f w1299 S1291 X1264 le1291 hA1264 hK1285 hI1286
        have I1311 : Inv w1299 S1291 (X1264) := hI1286
        have q2350 := vt (hA1264.at_ 44 rfl _ rfl) rfl
        exact opg_skip_u rfl rfl rfl rfl q2350 rfl ⟨_, _, rfl, PH.Le.refl _, rfl, I1311⟩
       ·
        intro vs1286 f w1300 S1292 X1265 le1292 hA1265 hK1286 hI1287
        have I1312 : Inv w1300 S1292 (X1265) := hI1287
        have q2351 := vt (hA1265.at_ 44 rfl _ rfl) rfl
        exact opg_skip_u rfl rfl rfl rfl q2351 rfl ⟨_, _, rfl, PH.Le.refl _, rfl, I1312⟩
       ·
        intro vs1287 f w1301 S1293 X1266 le1293 hA1266 hK1287 hI1288
        have I1313 : Inv w1301 S1293 (X1266) := hI1288
        have q2352 := vt (hA1266.at_ 44 rfl _ rfl) rfl
        have q2353 := vt (hA1266.at_ 45 rfl _ rfl) rfl
        have q2354 := vt (hA1266.at_ 46 rfl _ rfl) rfl
        exact opg_skip_u rfl rfl rfl rfl q2352 rfl ⟨_, _, rfl, PH.Le.refl _, rfl, I1313⟩
       ·
        intro vs1288 f w1302 S1294 X1267 le1294 hA1267 hK1288 hI1289
        have I1314 : Inv w1302 S1294 (X1267) := hI1289
        have q2355 := vt (hA1267.at_ 44 rfl _ rfl) rfl
        have q2356 := vt (hA1267.at_ 47 rfl _ rfl) rfl
        exact opg_skip_u rfl rfl rfl rfl q2355 rfl ⟨_, _, rfl, PH.Le.refl _, rfl, I1314⟩
       ·
        intro vs1289 f w1303 S1295 X1268 le1295 hA1268 hK1289 hI1290
        have I1315 : Inv w1303 S1295 (X1268) := hI1290
        have q2357 := vt (hA1268.at_ 44 rfl _ rfl) rfl
        exact opg_skip_u rfl rfl rfl rfl q2357 rfl ⟨_, _, rfl, PH.Le.refl _, rfl, I1315⟩
       ·
        intro vs1290 f w1304 S1296 X1269 le1296 hA1269 hK1290 hI1291
        have I1316 : Inv w1304 S1296 (X1269) := hI1291
        have q2358 := vt (hA1269.at_ 44 rfl _ rfl) rfl
        have q2359 := vt (hA1269.at_ 45 rfl _ rfl) rfl
        exact opg_skip_u rfl rfl rfl rfl q2358 rfl ⟨_, _, rfl, PH.Le.refl _, rfl, I1316⟩
       ·
        intro vs1291 f w1305 S1297 X1270 le1297 hA1270 hK1291 hI1292
        have I1317 : Inv w1305 S1297 (X1270) := hI1292
        have q2360 := vt (hA1270.at_ 44 rfl _ rfl) rfl
        exact opg_skip_u rfl rfl rfl rfl q2360 rfl ⟨_, _, rfl, PH.Le.refl _, rfl, I1317⟩
       ·
        intro vs1292 f w1306 S1298 X1271 le1298 hA1271 hK1292 hI1293
        have I1318 : Inv w1306 S1298 (X1271) := hI1293
        have q2361 := vt (hA1271.at_ 44 rfl _ rfl) rfl
        have q2362 := vt (hA1271.at_ 46 rfl _ rfl) rfl
        have q2363 := vt (hA1271.at_ 47 rfl _ rfl) rfl
        exact opg_skip_u rfl rfl rfl rfl q2361 rfl ⟨_, _, rfl, PH.Le.refl _, rfl, I1318⟩
       ·
        intro vs1293 f w1307 S1299 X1272 le1299 hA1272 hK1293 hI1294
        have I1319 : Inv w1307 S1299 (X1272) := hI1294
        have q2364 := vt (hA1272.at_ 44 rfl _ rfl) rfl
        have q2365 := vt (hA1272.at_ 48 rfl _ rfl) rfl
        exact opg_skip_u rfl rfl rfl rfl q2364 rfl ⟨_, _, rfl, PH.Le.refl _, rfl, I1319⟩
       ·
        intro vs1294 f w1308 S1300 X1273 le1300 hA1273 hK1294 hI1295
        have I1320 : Inv w1308 S1300 (X1273) := hI1295
        have q2366 := vt (hA1273.at_ 44 rfl _ rfl) rfl
        have q2367 := vt (hA1273.at_ 49 rfl _ rfl) rfl
        exact opg_skip_u rfl rfl rfl rfl q2366 rfl ⟨_, _, rfl, PH.Le.refl _, rfl, I1320⟩
       ·
        intro vs1295 f w1309 S1301 X1274 le1301 hA1274 hK1295 hI1296
        have I1321 : Inv w1309 S1301 (X1274) := hI1296
        have q2368 := vt (hA1274.at_ 44 rfl _ rfl) rfl
        have q2369 := vt (hA1274.at_ 48 rfl _ rfl) rfl
        have q2370 := vt (hA1274.at_ 54 rfl _ rfl) rfl
        exact opg_skip_u rfl rfl rfl rfl q2368 rfl ⟨_, _, rfl, PH.Le.refl _, rfl, I1321⟩
       ·
        intro vs1296 f w1310 S1302 X1275 le1302 hA1275 hK1296 hI1297
        have I1322 : Inv w1310 S1302 (X1275) := hI1297
        have q2371 := vt (hA1275.at_ 38 rfl _ rfl) rfl
        have q2372 := vt (hA1275.at_ 44 rfl _ rfl) rfl
        have q2373 := vt (hA1275.at_ 55 rfl _ rfl) rfl
        exact opg_skip (c := true) rfl rfl rfl rfl q2371 rfl rfl ⟨_, _, rfl, PH.Le.refl _, rfl, I1322⟩
       ·
        intro vs1297 f w1311 S1303 X1276 le1303 hA1276 hK1297 hI1298
        have I1323 : Inv w1311 S1303 (X1276) := hI1298
        have q2374 := vt (hA1276.at_ 38 rfl _ rfl) rfl
        have q2375 := vt (hA1276.at_ 56 rfl _ rfl) rfl
        refine opg_plain rfl rfl (op_pick_t (c := true) (a := (Value.bool (true))) rfl q2374 rfl rfl ?_)
        refine ⟨_, _, rfl, PH.Le.refl _, ?_, ?_⟩
        ·
         exact rfl
        ·
         exact I1323
       ·
        intro vs1298 f w1312 S1304 le1304 hF22 hK1298 hI1299
        have e382 : f 1 = (Value.slice z3 m3 k3) := (hK1298 1 (keep_all rfl)).trans e376
        have e383 : f 2 = (Value.pointer (some ⟨g1, 0, none⟩)) := (hK1298 2 (keep_all rfl)).trans e377
        have e384 : f 5 = (Value.slice z14 m14 k14) := (hK1298 5 (keep_all rfl)).trans e378
        have e385 : f 7 = (Value.slice z17 m17 k17) := (hK1298 7 (keep_all rfl)).trans e379
        have e386 : f 9 = (Value.int .i64 (v10)) := (hK1298 9 (keep_all rfl)).trans e380
        have e387 : f 10 = (Value.int .i64 ((i1 : Int))) := (hK1298 10 (keep_all rfl)).trans e381
        have I1324 : Inv w1312 S1304 (Row (α := Int) 3 (Value.slice z17 m17 k17) (x10.1) :: Row (α := Int) 3 (Value.slice z14 m14 k14) (x9.1) :: Fr) := hI1299
        have q2376 := vt (hF22.at_ 57 rfl _ rfl) rfl
        refine wp_cond_t (b := true) q2376 rfl ?_
        refine wp_seq' ?_
        refine wp_region' ?_
        refine wl_op rfl (op_assign (v := (Value.bool (false))) rfl rfl ?_)
        refine wl_nil ?_
        refine wp_ret' ?_
        obtain rfl := Option.some.inj h22
        obtain rfl := (hout1 _ rfl)
        have h23 := h
        obtain rfl := Option.some.inj h23
        exact ⟨(Value.bool (false)), (res1 rfl rfl), _, [], ((((le1.trans le2).trans le3).trans le1245).trans le1304), ((I1324).drop).drop, rfl, rfl⟩
      ·
       obtain ⟨x30, hx30, h22⟩ := bnd h22
       obtain ⟨x31, hx31, h22⟩ := bnd h22
       rcases ifs h22 with ⟨hc46, h22⟩ | ⟨hc46, h22⟩
       ·
        refine wp_draw (sps := [spV 60 [] 0 (Value.slice z17 m17 k17), ⟨some 61, [0], [1], fun vs_ T_ => fr0 vs_ 0 = (Value.int .i64 ((x10.1.length : Int))), [0], [], [], fun _ h_ => h_⟩, spV 62 [] 2 (Value.slice z3 m3 k3), spV 63 [2] 3 (Value.int .i64 ((a1.length : Int))), spV 64 [0, 1, 2, 3] 4 (Value.bool ((x10.1.length : Int) != (a1.length : Int))), spV 65 [0, 1, 2, 3, 4] 5 (Value.bool ((x10.1.length : Int) != (a1.length : Int))), spV 66 (List.range 6) 6 (Value.slice z17 m17 k17), spV 67 (List.range 6) 7 (Value.int .i64 ((i1 : Int))), ⟨some 68, (List.range 8), [8], fun vs_ T_ => fr0 vs_ 0 = (elemPtr (Value.slice z17 m17 k17) ((i1 : Int)) (Enc.sz Int)), [0], [], [], fun _ h_ => h_⟩, ⟨some 69, (List.range 9), [9], fun vs_ T_ => fr0 vs_ 0 = (Value.int .i64 (x30)), [0], [], [], fun _ h_ => h_⟩, ⟨some 70, (List.range 6), [10], fun vs_ T_ => fr0 vs_ 0 = (fieldPtr (Value.pointer (some ⟨g1, 0, none⟩)) 1), [], [], [], fun _ h_ => h_⟩, ⟨some 71, (List.range 6 ++ [10]), [11], fun vs_ T_ => RV T_ (fr0 vs_ 0) a0.Edges, [], [], [], fun hle_ h_ => h_.mono hle_⟩, spV 72 (List.range 6) 12 (Value.int .i64 ((i1 : Int))), ⟨some 73, (List.range 6 ++ [10, 11, 12]), [13, 11], fun vs_ T_ => fr0 vs_ 0 = (elemPtr (fr0 vs_ 1) ((i1 : Int)) (Enc.sz (List Edge))), [], [], [], fun _ h_ => h_⟩, ⟨some 74, (List.range 6 ++ [10, 11, 12, 13]), [14], fun vs_ T_ => RV T_ (fr0 vs_ 0) x31, [], [], [], fun hle_ h_ => h_.mono hle_⟩, spV 75 (List.range 6 ++ [10, 11, 12, 13, 14]) 15 (Value.int .i64 ((x31.length : Int))), spV 76 (List.range 16) 16 (Value.bool (decide ((x31.length : Int) < x30))), spV 77 (List.range 17) 17 (Value.bool (decide ((x31.length : Int) < x30))), spV 78 (List.range 18) 18 (Value.bool (decide ((x31.length : Int) < x30))), spV 79 (List.range 19) 19 undef, spV 80 (List.range 19) 20 undef, spV 81 (List.range 21) 21 undef, spV 82 (List.range 22) 22 undef, spV 83 (List.range 23) 23 undef, spV 84 (List.range 24) 24 undef, spV 85 (List.range 25) 25 undef, spV 86 (List.range 25) 26 undef, spV 87 (List.range 27) 27 undef, spV 88 (List.range 28) 28 undef, spV 89 (List.range 25) 29 undef, spV 90 (List.range 25 ++ [29]) 30 undef, spV 91 (List.range 25) 31 undef, spV 92 (List.range 25 ++ [29, 30, 31]) 32 undef, spV 93 (List.range 25 ++ [29, 30, 31, 32]) 33 undef, spV 94 (List.range 25 ++ [29, 30, 31, 32, 33]) 34 undef, spV 95 (List.range 35) 35 undef, spV 96 (List.range 36) 36 undef, spV 97 (List.range 37) 37 (Value.bool (true)), spV 98 (List.range 38) 38 (Value.bool (true)), spV 99 (List.range 39) 39 undef, spV 100 (List.range 39) 40 undef, spV 101 (List.range 41) 41 undef, spV 102 (List.range 42) 42 undef, spV 103 (List.range 43) 43 undef, spV 104 (List.range 44) 44 undef, spV 105 (List.range 45) 45 undef, spV 106 (List.range 45) 46 undef, spV 107 (List.range 47) 47 undef, spV 108 (List.range 48) 48 undef, spV 109 (List.range 45) 49 undef, spV 110 (List.range 45 ++ [49]) 50 undef, spV 111 (List.range 45) 51 undef, spV 112 (List.range 45 ++ [49, 50, 51]) 52 undef, spV 113 (List.range 45 ++ [49, 50, 51, 52]) 53 undef, spV 114 (List.range 45 ++ [49, 50, 51, 52, 53]) 54 undef, spV 115 (List.range 55) 55 undef, spV 116 (List.range 56) 56 undef, spV 117 (List.range 57) 57 (Value.bool (true))]) (tks := [⟨none, none, [], fun vs_ => Row (α := Int) 3 (Value.slice z17 m17 k17) (x10.1)⟩]) (O := Row (α := Int) 3 (Value.slice z14 m14 k14) (x9.1) :: Fr) rfl (by kernel_rfl) (I1265.pull 1) ⟨?_, ?_, ?_, ?_, ?_, ?_, ?_, ?_, ?_, ?_, ?_, ?_, ?_, ?_, ?_, ?_, ?_, ?_, ?_, ?_, ?_, ?_, ?_, ?_, ?_, ?_, ?_, ?_, ?_, ?_, ?_, ?_, ?_, ?_, ?_, ?_, ?_, ?_, ?_, ?_, ?_, ?_, ?_, ?_, ?_, ?_, ?_, ?_, ?_, ?_, ?_, ?_, ?_, ?_, ?_, ?_, ?_, ?_, trivial⟩ ?_
        ·
         intro vs1299 f w1313 S1305 X1277 le1305 hA1277 hK1299 hI1300
         have I1325 : Inv w1313 S1305 (X1277) := hI1300
         refine opg_plain rfl rfl (op_move (v := (Value.slice z17 m17 k17)) rfl ((hK1299 7 (keep_of rfl)).trans e379) ?_)
         refine ⟨_, _, rfl, PH.Le.refl _, ?_, ?_⟩
         ·
          exact rfl
         ·
          exact I1325
        ·
         intro vs1300 f w1314 S1306 X1278 le1306 hA1278 hK1300 hI1301
         have I1326 : Inv w1314 S1306 (Row (α := Int) 3 (Value.slice z17 m17 k17) (x10.1) :: X1278) := hI1301
         have q2377 := vt (hA1278.at_ 0 rfl _ rfl) rfl
         refine opg_plain rfl rfl (op_len_row (α := Int) rfl Try.underlying26 q2377 (I1326.nth 0 rfl) ?_)
         refine ⟨_, _, rfl, PH.Le.refl _, ?_, ?_⟩
         ·
          exact rfl
         ·
          exact I1326
        ·
         intro vs1301 f w1315 S1307 X1279 le1307 hA1279 hK1301 hI1302
         have I1327 : Inv w1315 S1307 (X1279) := hI1302
         refine opg_plain rfl rfl (op_move (v := (Value.slice z3 m3 k3)) rfl ((hK1301 1 (keep_of rfl)).trans e376) ?_)
         refine ⟨_, _, rfl, PH.Le.refl _, ?_, ?_⟩
         ·
          exact rfl
         ·
          exact I1327
        ·
         intro vs1302 f w1316 S1308 X1280 le1308 hA1280 hK1302 hI1303
         have I1328 : Inv w1316 S1308 (X1280) := hI1303
         have q2378 := vt (hA1280.at_ 0 rfl _ rfl) rfl
         refine opg_plain rfl rfl (op_len_rv rfl Try.underlying26 q2378 (h1_.mono ((((le1.trans le2).trans le3).trans le1245).trans le1308)) ?_)
         refine ⟨_, _, rfl, PH.Le.refl _, ?_, ?_⟩
         ·
          exact rfl
         ·
          exact I1328
        ·
         intro vs1303 f w1317 S1309 X1281 le1309 hA1281 hK1303 hI1304
         have I1329 : Inv w1317 S1309 (X1281) := hI1304
         have q2379 := vt (hA1281.at_ 1 rfl _ rfl) rfl
         have q2380 := vt (hA1281.at_ 3 rfl _ rfl) rfl
         refine opg_plain rfl rfl (op_neq (a := (x10.1.length : Int)) (b := (a1.length : Int)) rfl q2379 q2380 ?_)
         refine ⟨_, _, rfl, PH.Le.refl _, ?_, ?_⟩
         ·
          exact rfl
         ·
          exact I1329
        ·
         intro vs1304 f w1318 S1310 X1282 le1310 hA1282 hK1304 hI1305
         have I1330 : Inv w1318 S1310 (X1282) := hI1305
         have q2381 := vt (hA1282.at_ 4 rfl _ rfl) rfl
         refine opg_plain rfl rfl (op_move (v := (Value.bool ((x10.1.length : Int) != (a1.length : Int)))) rfl q2381 ?_)
         refine ⟨_, _, rfl, PH.Le.refl _, ?_, ?_⟩
         ·
          exact rfl
         ·
          exact I1330
        ·
         intro vs1305 f w1319 S1311 X1283 le1311 hA1283 hK1305 hI1306
         have I1331 : Inv w1319 S1311 (X1283) := hI1306
         have q2382 := vt (hA1283.at_ 5 rfl _ rfl) rfl
         refine opg_taken (c := (x10.1.length : Int) != (a1.length : Int)) rfl rfl rfl rfl q2382 hc45 (op_move (v := (Value.slice z17 m17 k17)) rfl ((hK1305 7 (keep_of rfl)).trans e379) ?_)
         refine ⟨_, _, rfl, PH.Le.refl _, ?_, ?_⟩
         ·
          exact rfl
         ·
          exact I1331
        ·
         intro vs1306 f w1320 S1312 X1284 le1312 hA1284 hK1306 hI1307
         have I1332 : Inv w1320 S1312 (X1284) := hI1307
         have q2383 := vt (hA1284.at_ 5 rfl _ rfl) rfl
         refine opg_taken (c := (x10.1.length : Int) != (a1.length : Int)) rfl rfl rfl rfl q2383 hc45 (op_move (v := (Value.int .i64 ((i1 : Int)))) rfl ((hK1306 10 (keep_of rfl)).trans e381) ?_)
         refine ⟨_, _, rfl, PH.Le.refl _, ?_, ?_⟩
         ·
          exact rfl
         ·
          exact I1332
        ·
         intro vs1307 f w1321 S1313 X1285 le1313 hA1285 hK1307 hI1308
         have I1333 : Inv w1321 S1313 (Row (α := Int) 3 (Value.slice z17 m17 k17) (x10.1) :: X1285) := hI1308
         have q2384 := vt (hA1285.at_ 5 rfl _ rfl) rfl
         have q2385 := vt (hA1285.at_ 6 rfl _ rfl) rfl
         have q2386 := vt (hA1285.at_ 7 rfl _ rfl) rfl
         refine opg_taken (c := (x10.1.length : Int) != (a1.length : Int)) rfl rfl rfl rfl q2384 hc45 (op_indexAddr_src (v := (Value.slice z17 m17 k17)) (i := (i1 : Int)) (e := x30) rfl Try.underlying26 sh3 q2385 (Inv.rowSrc (I1333.nth 0 rfl)) q2386 hx30 ?_)
         refine ⟨_, _, rfl, PH.Le.refl _, ?_, ?_⟩
         ·
          exact rfl
         ·
          exact I1333
        ·
         intro vs1308 f w1322 S1314 X1286 le1314 hA1286 hK1308 hI1309
         have I1334 : Inv w1322 S1314 (Row (α := Int) 3 (Value.slice z17 m17 k17) (x10.1) :: X1286) := hI1309
         have q2387 := vt (hA1286.at_ 5 rfl _ rfl) rfl
         have q2388 := vt (hA1286.at_ 8 rfl _ rfl) rfl
         refine opg_taken (c := (x10.1.length : Int) != (a1.length : Int)) rfl rfl rfl rfl q2387 hc45 (op_load_int (v := (elemPtr (Value.slice z17 m17 k17) ((i1 : Int)) (Enc.sz Int))) (e := x30) rfl sh3 q2388 ((I1334.nth 0 rfl).rowElem hx30) ?_)
         refine ⟨_, _, rfl, PH.Le.refl _, ?_, ?_⟩
         ·
          exact rfl
         ·
          exact I1334
        ·
         intro vs1309 f w1323 S1315 X1287 le1315 hA1287 hK1309 hI1310
         have I1335 : Inv w1323 S1315 (X1287) := hI1310
         have q2389 := vt (hA1287.at_ 5 rfl _ rfl) rfl
         refine opg_taken (c := (x10.1.length : Int) != (a1.length : Int)) rfl rfl rfl rfl q2389 hc45 (op_fieldAddr_t (v := (Value.pointer (some ⟨g1, 0, none⟩))) rfl fa25_1 ((hK1309 2 (keep_of rfl)).trans e377) ((p1.mono (((le2.trans le3).trans le1245).trans le1315)).at_ I1335) ?_)
         refine ⟨_, _, rfl, PH.Le.refl _, ?_, ?_⟩
         ·
          exact rfl
         ·
          exact I1335
        ·
         intro vs1310 f w1324 S1316 X1288 le1316 hA1288 hK1310 hI1311
         have I1336 : Inv w1324 S1316 (X1288) := hI1311
         have q2390 := vt (hA1288.at_ 5 rfl _ rfl) rfl
         have q2391 := vt (hA1288.at_ 6 rfl _ rfl) rfl
         refine opg_taken (c := (x10.1.length : Int) != (a1.length : Int)) rfl rfl rfl rfl q2390 hc45 (op_load (v := (fieldPtr (Value.pointer (some ⟨g1, 0, none⟩)) 1)) (e := a0.Edges) rfl sh23 q2391 (((p1.mono (((le2.trans le3).trans le1245).trans le1316)).at_ I1336).fld Graph.fld1) (fun u284 hu284 => ?_))
         obtain ⟨z183, m183, k183, e388⟩ := rv_form hu284
         subst e388
         refine ⟨_, _, rfl, PH.Le.refl _, ?_, ?_⟩
         ·
          exact hu284
         ·
          exact I1336
        ·
         intro vs1311 f w1325 S1317 X1289 le1317 hA1289 hK1311 hI1312
         have I1337 : Inv w1325 S1317 (X1289) := hI1312
         have q2392 := vt (hA1289.at_ 5 rfl _ rfl) rfl
         refine opg_taken (c := (x10.1.length : Int) != (a1.length : Int)) rfl rfl rfl rfl q2392 hc45 (op_move (v := (Value.int .i64 ((i1 : Int)))) rfl ((hK1311 10 (keep_of rfl)).trans e381) ?_)
         refine ⟨_, _, rfl, PH.Le.refl _, ?_, ?_⟩
         ·
          exact rfl
         ·
          exact I1337
        ·
         intro vs1312 f w1326 S1318 X1290 le1318 hA1290 hK1312 hI1313
         have I1338 : Inv w1326 S1318 (X1290) := hI1313
         have q2393 := vt (hA1290.at_ 5 rfl _ rfl) rfl
         have q2394 : f 71 = vs1312 11 := (hA1290.at_ 7 rfl _ rfl).1 _ rfl
         have r114 : RV S1318 (vs1312 11) a0.Edges := (hA1290.at_ 7 rfl _ rfl).2
         obtain ⟨u285, hu285⟩ : ∃ u, vs1312 11 = u := ⟨_, rfl⟩
         rw [hu285] at q2394 r114
         obtain ⟨z184, m184, k184, e389⟩ := rv_form r114
         subst e389
         have q2395 := vt (hA1290.at_ 8 rfl _ rfl) rfl
         refine opg_taken (c := (x10.1.length : Int) != (a1.length : Int)) rfl rfl rfl rfl q2393 hc45 (op_indexAddr_rv (v := (Value.slice z184 m184 k184)) (i := (i1 : Int)) (e := x31) rfl Try.underlying23 sh40 q2394 r114 q2395 hx31 ?_)
         refine ⟨_, _, rfl, PH.Le.refl _, ?_, ?_⟩
         ·
          show (elemPtr (Value.slice z184 m184 k184) ((i1 : Int)) (Enc.sz (List Edge))) = (elemPtr (vs1312 11) ((i1 : Int)) (Enc.sz (List Edge)))
          simp only [hu285] <;> rfl
         ·
          exact I1338
        ·
         intro vs1313 f w1327 S1319 X1291 le1319 hA1291 hK1313 hI1314
         have I1339 : Inv w1327 S1319 (X1291) := hI1314
         have q2396 := vt (hA1291.at_ 5 rfl _ rfl) rfl
         have q2397 : f 71 = vs1313 11 := (hA1291.at_ 7 rfl _ rfl).1 _ rfl
         have r115 : RV S1319 (vs1313 11) a0.Edges := (hA1291.at_ 7 rfl _ rfl).2
         obtain ⟨u286, hu286⟩ : ∃ u, vs1313 11 = u := ⟨_, rfl⟩
         rw [hu286] at q2397 r115
         obtain ⟨z185, m185, k185, e390⟩ := rv_form r115
         subst e390
         have q2398 := vt (hA1291.at_ 8 rfl _ rfl) rfl
         have q2399 : f 73 = (elemPtr (vs1313 11) ((i1 : Int)) (Enc.sz (List Edge))) := vt (hA1291.at_ 9 rfl _ rfl) rfl
         simp only [hu286] at q2399
         have q2399 : f 73 = (elemPtr (Value.slice z185 m185 k185) ((i1 : Int)) (Enc.sz (List Edge))) := q2399
         refine opg_taken (c := (x10.1.length : Int) != (a1.length : Int)) rfl rfl rfl rfl q2396 hc45 (op_load (v := (elemPtr (Value.slice z185 m185 k185) ((i1 : Int)) (Enc.sz (List Edge)))) (e := x31) rfl sh40 q2399 (r115.elem I1339.in_ hx31) (fun u287 hu287 => ?_))
         obtain ⟨z186, m186, k186, e391⟩ := rv_form hu287
         subst e391
         refine ⟨_, _, rfl, PH.Le.refl _, ?_, ?_⟩
         ·
          exact hu287
         ·
          exact I1339
        ·
         intro vs1314 f w1328 S1320 X1292 le1320 hA1292 hK1314 hI1315
         have I1340 : Inv w1328 S1320 (X1292) := hI1315
         have q2400 := vt (hA1292.at_ 5 rfl _ rfl) rfl
         have q2401 : f 74 = vs1314 14 := (hA1292.at_ 10 rfl _ rfl).1 _ rfl
         have r116 : RV S1320 (vs1314 14) x31 := (hA1292.at_ 10 rfl _ rfl).2
         obtain ⟨u288, hu288⟩ : ∃ u, vs1314 14 = u := ⟨_, rfl⟩
         rw [hu288] at q2401 r116
         obtain ⟨z187, m187, k187, e392⟩ := rv_form r116
         subst e392
         refine opg_taken (c := (x10.1.length : Int) != (a1.length : Int)) rfl rfl rfl rfl q2400 hc45 (op_len_rv rfl Try.underlying40 q2401 r116 ?_)
         refine ⟨_, _, rfl, PH.Le.refl _, ?_, ?_⟩
         ·
          exact rfl
         ·
          exact I1340
        ·
         intro vs1315 f w1329 S1321 X1293 le1321 hA1293 hK1315 hI1316
         have I1341 : Inv w1329 S1321 (X1293) := hI1316
         have q2402 := vt (hA1293.at_ 5 rfl _ rfl) rfl
         have q2403 := vt (hA1293.at_ 9 rfl _ rfl) rfl
         have q2404 := vt (hA1293.at_ 15 rfl _ rfl) rfl
         refine opg_taken (c := (x10.1.length : Int) != (a1.length : Int)) rfl rfl rfl rfl q2402 hc45 (op_gtr (a := x30) (b := (x31.length : Int)) rfl q2403 q2404 ?_)
         refine ⟨_, _, rfl, PH.Le.refl _, ?_, ?_⟩
         ·
          exact rfl
         ·
          exact I1341
        ·
         intro vs1316 f w1330 S1322 X1294 le1322 hA1294 hK1316 hI1317
         have I1342 : Inv w1330 S1322 (X1294) := hI1317
         have q2405 := vt (hA1294.at_ 5 rfl _ rfl) rfl
         have q2406 := vt (hA1294.at_ 16 rfl _ rfl) rfl
         refine opg_plain rfl rfl (op_pick_f (c := (x10.1.length : Int) != (a1.length : Int)) (b := (Value.bool (decide ((x31.length : Int) < x30)))) rfl q2405 hc45 q2406 ?_)
         refine ⟨_, _, rfl, PH.Le.refl _, ?_, ?_⟩
         ·
          exact rfl
         ·
          exact I1342
        ·
         intro vs1317 f w1331 S1323 X1295 le1323 hA1295 hK1317 hI1318
         have I1343 : Inv w1331 S1323 (X1295) := hI1318
         have q2407 := vt (hA1295.at_ 17 rfl _ rfl) rfl
         refine opg_plain rfl rfl (op_move (v := (Value.bool (decide ((x31.length : Int) < x30)))) rfl q2407 ?_)
         refine ⟨_, _, rfl, PH.Le.refl _, ?_, ?_⟩
         ·
          exact rfl
         ·
          exact I1343
        ·
         intro vs1318 f w1332 S1324 X1296 le1324 hA1296 hK1318 hI1319
         have I1344 : Inv w1332 S1324 (X1296) := hI1319
         have q2408 := vt (hA1296.at_ 18 rfl _ rfl) rfl
         exact opg_skip (c := decide ((x31.length : Int) < x30)) rfl rfl rfl rfl q2408 hc46 rfl ⟨_, _, rfl, PH.Le.refl _, rfl, I1344⟩
        ·
         intro vs1319 f w1333 S1325 X1297 le1325 hA1297 hK1319 hI1320
         have I1345 : Inv w1333 S1325 (X1297) := hI1320
         have q2409 := vt (hA1297.at_ 18 rfl _ rfl) rfl
         exact opg_skip (c := decide ((x31.length : Int) < x30)) rfl rfl rfl rfl q2409 hc46 rfl ⟨_, _, rfl, PH.Le.refl _, rfl, I1345⟩
        ·
         intro vs1320 f w1334 S1326 X1298 le1326 hA1298 hK1320 hI1321
         have I1346 : Inv w1334 S1326 (X1298) := hI1321
         have q2410 := vt (hA1298.at_ 18 rfl _ rfl) rfl
         have q2411 := vt (hA1298.at_ 19 rfl _ rfl) rfl
         have q2412 := vt (hA1298.at_ 20 rfl _ rfl) rfl
         exact opg_skip (c := decide ((x31.length : Int) < x30)) rfl rfl rfl rfl q2410 hc46 rfl ⟨_, _, rfl, PH.Le.refl _, rfl, I1346⟩
        ·
         intro vs1321 f w1335 S1327 X1299 le1327 hA1299 hK1321 hI1322
         have I1347 : Inv w1335 S1327 (X1299) := hI1322
         have q2413 := vt (hA1299.at_ 18 rfl _ rfl) rfl
         have q2414 := vt (hA1299.at_ 21 rfl _ rfl) rfl
         exact opg_skip (c := decide ((x31.length : Int) < x30)) rfl rfl rfl rfl q2413 hc46 rfl ⟨_, _, rfl, PH.Le.refl _, rfl, I1347⟩
        ·
         intro vs1322 f w1336 S1328 X1300 le1328 hA1300 hK1322 hI1323
         have I1348 : Inv w1336 S1328 (X1300) := hI1323
         have q2415 := vt (hA1300.at_ 18 rfl _ rfl) rfl
         have q2416 := vt (hA1300.at_ 22 rfl _ rfl) rfl
         exact opg_skip (c := decide ((x31.length : Int) < x30)) rfl rfl rfl rfl q2415 hc46 rfl ⟨_, _, rfl, PH.Le.refl _, rfl, I1348⟩
        ·
         intro vs1323 f w1337 S1329 X1301 le1329 hA1301 hK1323 hI1324
         have I1349 : Inv w1337 S1329 (X1301) := hI1324
         have q2417 := vt (hA1301.at_ 18 rfl _ rfl) rfl
         have q2418 := vt (hA1301.at_ 23 rfl _ rfl) rfl
         exact opg_skip (c := decide ((x31.length : Int) < x30)) rfl rfl rfl rfl q2417 hc46 rfl ⟨_, _, rfl, PH.Le.refl _, rfl, I1349⟩
        ·
         intro vs1324 f w1338 S1330 X1302 le1330 hA1302 hK1324 hI1325
         have I1350 : Inv w1338 S1330 (X1302) := hI1325
         have q2419 := vt (hA1302.at_ 24 rfl _ rfl) rfl
         exact opg_skip_u rfl rfl rfl rfl q2419 rfl ⟨_, _, rfl, PH.Le.refl _, rfl, I1350⟩
        ·
         intro vs1325 f w1339 S1331 X1303 le1331 hA1303 hK1325 hI1326
         have I1351 : Inv w1339 S1331 (X1303) := hI1326
         have q2420 := vt (hA1303.at_ 24 rfl _ rfl) rfl
         exact opg_skip_u rfl rfl rfl rfl q2420 rfl ⟨_, _, rfl, PH.Le.refl _, rfl, I1351⟩
        ·
         intro vs1326 f w1340 S1332 X1304 le1332 hA1304 hK1326 hI1327
         have I1352 : Inv w1340 S1332 (X1304) := hI1327
         have q2421 := vt (hA1304.at_ 24 rfl _ rfl) rfl
         have q2422 := vt (hA1304.at_ 25 rfl _ rfl) rfl
         have q2423 := vt (hA1304.at_ 26 rfl _ rfl) rfl
         exact opg_skip_u rfl rfl rfl rfl q2421 rfl ⟨_, _, rfl, PH.Le.refl _, rfl, I1352⟩
        ·
         intro vs1327 f w1341 S1333 X1305 le1333 hA1305 hK1327 hI1328
         have I1353 : Inv w1341 S1333 (X1305) := hI1328
         have q2424 := vt (hA1305.at_ 24 rfl _ rfl) rfl
         have q2425 := vt (hA1305.at_ 27 rfl _ rfl) rfl
         exact opg_skip_u rfl rfl rfl rfl q2424 rfl ⟨_, _, rfl, PH.Le.refl _, rfl, I1353⟩
        ·
         intro vs1328 f w1342 S1334 X1306 le1334 hA1306 hK1328 hI1329
         have I1354 : Inv w1342 S1334 (X1306) := hI1329
         have q2426 := vt (hA1306.at_ 24 rfl _ rfl) rfl
         exact opg_skip_u rfl rfl rfl rfl q2426 rfl ⟨_, _, rfl, PH.Le.refl _, rfl, I1354⟩
        ·
         intro vs1329 f w1343 S1335 X1307 le1335 hA1307 hK1329 hI1330
         have I1355 : Inv w1343 S1335 (X1307) := hI1330
         have q2427 := vt (hA1307.at_ 24 rfl _ rfl) rfl
         have q2428 := vt (hA1307.at_ 25 rfl _ rfl) rfl
         exact opg_skip_u rfl rfl rfl rfl q2427 rfl ⟨_, _, rfl, PH.Le.refl _, rfl, I1355⟩
        ·
         intro vs1330 f w1344 S1336 X1308 le1336 hA1308 hK1330 hI1331
         have I1356 : Inv w1344 S1336 (X1308) := hI1331
         have q2429 := vt (hA1308.at_ 24 rfl _ rfl) rfl
         exact opg_skip_u rfl rfl rfl rfl q2429 rfl ⟨_, _, rfl, PH.Le.refl _, rfl, I1356⟩
        ·
         intro vs1331 f w1345 S1337 X1309 le1337 hA1309 hK1331 hI1332
         have I1357 : Inv w1345 S1337 (X1309) := hI1332
         have q2430 := vt (hA1309.at_ 24 rfl _ rfl) rfl
         have q2431 := vt (hA1309.at_ 26 rfl _ rfl) rfl
         have q2432 := vt (hA1309.at_ 27 rfl _ rfl) rfl
         exact opg_skip_u rfl rfl rfl rfl q2430 rfl ⟨_, _, rfl, PH.Le.refl _, rfl, I1357⟩
        ·
         intro vs1332 f w1346 S1338 X1310 le1338 hA1310 hK1332 hI1333
         have I1358 : Inv w1346 S1338 (X1310) := hI1333
         have q2433 := vt (hA1310.at_ 24 rfl _ rfl) rfl
         have q2434 := vt (hA1310.at_ 28 rfl _ rfl) rfl
         exact opg_skip_u rfl rfl rfl rfl q2433 rfl ⟨_, _, rfl, PH.Le.refl _, rfl, I1358⟩
        ·
         intro vs1333 f w1347 S1339 X1311 le1339 hA1311 hK1333 hI1334
         have I1359 : Inv w1347 S1339 (X1311) := hI1334
         have q2435 := vt (hA1311.at_ 24 rfl _ rfl) rfl
         have q2436 := vt (hA1311.at_ 29 rfl _ rfl) rfl
         exact opg_skip_u rfl rfl rfl rfl q2435 rfl ⟨_, _, rfl, PH.Le.refl _, rfl, I1359⟩
        ·
         intro vs1334 f w1348 S1340 X1312 le1340 hA1312 hK1334 hI1335
         have I1360 : Inv w1348 S1340 (X1312) := hI1335
         have q2437 := vt (hA1312.at_ 24 rfl _ rfl) rfl
         have q2438 := vt (hA1312.at_ 28 rfl _ rfl) rfl
         have q2439 := vt (hA1312.at_ 34 rfl _ rfl) rfl
         exact opg_skip_u rfl rfl rfl rfl q2437 rfl ⟨_, _, rfl, PH.Le.refl _, rfl, I1360⟩
        ·
         intro vs1335 f w1349 S1341 X1313 le1341 hA1313 hK1335 hI1336
         have I1361 : Inv w1349 S1341 (X1313) := hI1336
         have q2440 := vt (hA1313.at_ 18 rfl _ rfl) rfl
         have q2441 := vt (hA1313.at_ 24 rfl _ rfl) rfl
         have q2442 := vt (hA1313.at_ 35 rfl _ rfl) rfl
         exact opg_skip (c := decide ((x31.length : Int) < x30)) rfl rfl rfl rfl q2440 hc46 rfl ⟨_, _, rfl, PH.Le.refl _, rfl, I1361⟩
        ·
         intro vs1336 f w1350 S1342 X1314 le1342 hA1314 hK1336 hI1337
         have I1362 : Inv w1350 S1342 (X1314) := hI1337
         have q2443 := vt (hA1314.at_ 18 rfl _ rfl) rfl
         have q2444 := vt (hA1314.at_ 36 rfl _ rfl) rfl
         refine opg_plain rfl rfl (op_pick_t (c := decide ((x31.length : Int) < x30)) (a := (Value.bool (true))) rfl q2443 hc46 rfl ?_)
         refine ⟨_, _, rfl, PH.Le.refl _, ?_, ?_⟩
         ·
          exact rfl
         ·
          exact I1362
        ·
         intro vs1337 f w1351 S1343 X1315 le1343 hA1315 hK1337 hI1338
         have I1363 : Inv w1351 S1343 (X1315) := hI1338
         have q2445 := vt (hA1315.at_ 37 rfl _ rfl) rfl
         refine opg_plain rfl rfl (op_move (v := (Value.bool (true))) rfl q2445 ?_)
         refine ⟨_, _, rfl, PH.Le.refl _, ?_, ?_⟩
         ·
          exact rfl
         ·
          exact I1363
        ·
         intro vs1338 f w1352 S1344 X1316 le1344 hA1316 hK1338 hI1339
         have I1364 : Inv w1352 S1344 (X1316) := hI1339
         have q2446 := vt (hA1316.at_ 38 rfl _ rfl) rfl
         exact opg_skip (c := true) rfl rfl rfl rfl q2446 rfl rfl ⟨_, _, rfl, PH.Le.refl _, rfl, I1364⟩
        ·
         intro vs1339 f w1353 S1345 X1317 le1345 hA1317 hK1339 hI1340
         have I1365 : Inv w1353 S1345 (X1317) := hI1340
         have q2447 := vt (hA1317.at_ 38 rfl _ rfl) rfl
         exact opg_skip (c := true) rfl rfl rfl rfl q2447 rfl rfl ⟨_, _, rfl, PH.Le.refl _, rfl, I1365⟩
        ·
         intro vs1340 f w1354 S1346 X1318 le1346 hA1318 hK1340 hI1341
         have I1366 : Inv w1354 S1346 (X1318) := hI1341
         have q2448 := vt (hA1318.at_ 38 rfl _ rfl) rfl
         have q2449 := vt (hA1318.at_ 39 rfl _ rfl) rfl
         have q2450 := vt (hA1318.at_ 40 rfl _ rfl) rfl
         exact opg_skip (c := true) rfl rfl rfl rfl q2448 rfl rfl ⟨_, _, rfl, PH.Le.refl _, rfl, I1366⟩
        ·
         intro vs1341 f w1355 S1347 X1319 le1347 hA1319 hK1341 hI1342
         have I1367 : Inv w1355 S1347 (X1319) := hI1342
         have q2451 := vt (hA1319.at_ 38 rfl _ rfl) rfl
         have q2452 := vt (hA1319.at_ 41 rfl _ rfl) rfl
         exact opg_skip (c := true) rfl rfl rfl rfl q2451 rfl rfl ⟨_, _, rfl, PH.Le.refl _, rfl, I1367⟩
        ·
         intro vs1342 f w1356 S1348 X1320 le1348 hA1320 hK1342 hI1343
         have I1368 : Inv w1356 S1348 (X1320) := hI1343
         have q2453 := vt (hA1320.at_ 38 rfl _ rfl) rfl
         have q2454 := vt (hA1320.at_ 42 rfl _ rfl) rfl
         exact opg_skip (c := true) rfl rfl rfl rfl q2453 rfl rfl ⟨_, _, rfl, PH.Le.refl _, rfl, I1368⟩
        ·
         intro vs1343 f w1357 S1349 X1321 le1349 hA1321 hK1343 hI1344
         have I1369 : Inv w1357 S1349 (X1321) := hI1344
         have q2455 := vt (hA1321.at_ 38 rfl _ rfl) rfl
         have q2456 := vt (hA1321.at_ 43 rfl _ rfl) rfl
         exact opg_skip (c := true) rfl rfl rfl rfl q2455 rfl rfl ⟨_, _, rfl, PH.Le.refl _, rfl, I1369⟩
        ·
         intro vs1344 f w1358 S1350 X1322 le1350 hA1322 hK1344 hI1345
         have I1370 : Inv w1358 S1350 (X1322) := hI1345
         have q2457 := vt (hA1322.at_ 44 rfl _ rfl) rfl
         exact opg_skip_u rfl rfl rfl rfl q2457 rfl ⟨_, _, rfl, PH.Le.refl _, rfl, I1370⟩
        ·
         intro vs1345 f w1359 S1351 X1323 le1351 hA1323 hK1345 hI1346
         have I1371 : Inv w1359 S1351 (X1323) := hI1346
         have q2458 := vt (hA1323.at_ 44 rfl _ rfl) rfl
         exact opg_skip_u rfl rfl rfl rfl q2458 rfl ⟨_, _, rfl, PH.Le.refl _, rfl, I1371⟩
        ·
         intro vs1346 f w1360 S1352 X1324 le1352 hA1324 hK1346 hI1347
         have I1372 : Inv w1360 S1352 (X1324) := hI1347
         have q2459 := vt (hA1324.at_ 44 rfl _ rfl) rfl
         have q2460 := vt (hA1324.at_ 45 rfl _ rfl) rfl
         have q2461 := vt (hA1324.at_ 46 rfl _ rfl) rfl
         exact opg_skip_u rfl rfl rfl rfl q2459 rfl ⟨_, _, rfl, PH.Le.refl _, rfl, I1372⟩
        ·
         intro vs1347 f w1361 S1353 X1325 le1353 hA1325 hK1347 hI1348
         have I1373 : Inv w1361 S1353 (X1325) := hI1348
         have q2462 := vt (hA1325.at_ 44 rfl _ rfl) rfl
         have q2463 := vt (hA1325.at_ 47 rfl _ rfl) rfl
         exact opg_skip_u rfl rfl rfl rfl q2462 rfl ⟨_, _, rfl, PH.Le.refl _, rfl, I1373⟩
        ·
         intro vs1348 f w1362 S1354 X1326 le1354 hA1326 hK1348 hI1349
         have I1374 : Inv w1362 S1354 (X1326) := hI1349
         have q2464 := vt (hA1326.at_ 44 rfl _ rfl) rfl
         exact opg_skip_u rfl rfl rfl rfl q2464 rfl ⟨_, _, rfl, PH.Le.refl _, rfl, I1374⟩
        ·
         intro vs1349 f w1363 S1355 X1327 le1355 hA1327 hK1349 hI1350
         have I1375 : Inv w1363 S1355 (X1327) := hI1350
         have q2465 := vt (hA1327.at_ 44 rfl _ rfl) rfl
         have q2466 := vt (hA1327.at_ 45 rfl _ rfl) rfl
         exact opg_skip_u rfl rfl rfl rfl q2465 rfl ⟨_, _, rfl, PH.Le.refl _, rfl, I1375⟩
        ·
         intro vs1350 f w1364 S1356 X1328 le1356 hA1328 hK1350 hI1351
         have I1376 : Inv w1364 S1356 (X1328) := hI1351
         have q2467 := vt (hA1328.at_ 44 rfl _ rfl) rfl
         exact opg_skip_u rfl rfl rfl rfl q2467 rfl ⟨_, _, rfl, PH.Le.refl _, rfl, I1376⟩
        ·
         intro vs1351 f w1365 S1357 X1329 le1357 hA1329 hK1351 hI1352
         have I1377 : Inv w1365 S1357 (X1329) := hI1352
         have q2468 := vt (hA1329.at_ 44 rfl _ rfl) rfl
         have q2469 := vt (hA1329.at_ 46 rfl _ rfl) rfl
         have q2470 := vt (hA1329.at_ 47 rfl _ rfl) rfl
         exact opg_skip_u rfl rfl rfl rfl q2468 rfl ⟨_, _, rfl, PH.Le.refl _, rfl, I1377⟩
        ·
         intro vs1352 f w1366 S1358 X1330 le1358 hA1330 hK1352 hI1353
         have I1378 : Inv w1366 S1358 (X1330) := hI1353
         have q2471 := vt (hA1330.at_ 44 rfl _ rfl) rfl
         have q2472 := vt (hA1330.at_ 48 rfl _ rfl) rfl
         exact opg_skip_u rfl rfl rfl rfl q2471 rfl ⟨_, _, rfl, PH.Le.refl _, rfl, I1378⟩
        ·
         intro vs1353 f w1367 S1359 X1331 le1359 hA1331 hK1353 hI1354
         have I1379 : Inv w1367 S1359 (X1331) := hI1354
         have q2473 := vt (hA1331.at_ 44 rfl _ rfl) rfl
         have q2474 := vt (hA1331.at_ 49 rfl _ rfl) rfl
         exact opg_skip_u rfl rfl rfl rfl q2473 rfl ⟨_, _, rfl, PH.Le.refl _, rfl, I1379⟩
        ·
         intro vs1354 f w1368 S1360 X1332 le1360 hA1332 hK1354 hI1355
         have I1380 : Inv w1368 S1360 (X1332) := hI1355
         have q2475 := vt (hA1332.at_ 44 rfl _ rfl) rfl
         have q2476 := vt (hA1332.at_ 48 rfl _ rfl) rfl
         have q2477 := vt (hA1332.at_ 54 rfl _ rfl) rfl
         exact opg_skip_u rfl rfl rfl rfl q2475 rfl ⟨_, _, rfl, PH.Le.refl _, rfl, I1380⟩
        ·
         intro vs1355 f w1369 S1361 X1333 le1361 hA1333 hK1355 hI1356
         have I1381 : Inv w1369 S1361 (X1333) := hI1356
         have q2478 := vt (hA1333.at_ 38 rfl _ rfl) rfl
         have q2479 := vt (hA1333.at_ 44 rfl _ rfl) rfl
         have q2480 := vt (hA1333.at_ 55 rfl _ rfl) rfl
         exact opg_skip (c := true) rfl rfl rfl rfl q2478 rfl rfl ⟨_, _, rfl, PH.Le.refl _, rfl, I1381⟩
        ·
         intro vs1356 f w1370 S1362 X1334 le1362 hA1334 hK1356 hI1357
         have I1382 : Inv w1370 S1362 (X1334) := hI1357
         have q2481 := vt (hA1334.at_ 38 rfl _ rfl) rfl
         have q2482 := vt (hA1334.at_ 56 rfl _ rfl) rfl
         refine opg_plain rfl rfl (op_pick_t (c := true) (a := (Value.bool (true))) rfl q2481 rfl rfl ?_)
         refine ⟨_, _, rfl, PH.Le.refl _, ?_, ?_⟩
         ·
          exact rfl
         ·
          exact I1382
        ·
         intro vs1357 f w1371 S1363 le1363 hF23 hK1357 hI1358
         have e393 : f 1 = (Value.slice z3 m3 k3) := (hK1357 1 (keep_all rfl)).trans e376
         have e394 : f 2 = (Value.pointer (some ⟨g1, 0, none⟩)) := (hK1357 2 (keep_all rfl)).trans e377
         have e395 : f 5 = (Value.slice z14 m14 k14) := (hK1357 5 (keep_all rfl)).trans e378
         have e396 : f 7 = (Value.slice z17 m17 k17) := (hK1357 7 (keep_all rfl)).trans e379
         have e397 : f 9 = (Value.int .i64 (v10)) := (hK1357 9 (keep_all rfl)).trans e380
         have e398 : f 10 = (Value.int .i64 ((i1 : Int))) := (hK1357 10 (keep_all rfl)).trans e381
         have I1383 : Inv w1371 S1363 (Row (α := Int) 3 (Value.slice z17 m17 k17) (x10.1) :: Row (α := Int) 3 (Value.slice z14 m14 k14) (x9.1) :: Fr) := hI1358
         have q2483 := vt (hF23.at_ 57 rfl _ rfl) rfl
         refine wp_cond_t (b := true) q2483 rfl ?_
         refine wp_seq' ?_
         refine wp_region' ?_
         refine wl_op rfl (op_assign (v := (Value.bool (false))) rfl rfl ?_)
         refine wl_nil ?_
         refine wp_ret' ?_
         obtain rfl := Option.some.inj h22
         obtain rfl := (hout1 _ rfl)
         have h23 := h
         obtain rfl := Option.some.inj h23
         exact ⟨(Value.bool (false)), (res1 rfl rfl), _, [], ((((le1.trans le2).trans le3).trans le1245).trans le1363), ((I1383).drop).drop, rfl, rfl⟩
       ·
        obtain ⟨x32, hx32, h22⟩ := bnd h22
        rcases ifs h22 with ⟨hc47, h22⟩ | ⟨hc47, h22⟩
        ·
         rcases ifs h22 with ⟨hc48, h22⟩ | ⟨hc48, h22⟩
         ·
          refine wp_draw (sps := [spV 60 [] 0 (Value.slice z17 m17 k17), ⟨some 61, [0], [1], fun vs_ T_ => fr0 vs_ 0 = (Value.int .i64 ((x10.1.length : Int))), [0], [], [], fun _ h_ => h_⟩, spV 62 [] 2 (Value.slice z3 m3 k3), spV 63 [2] 3 (Value.int .i64 ((a1.length : Int))), spV 64 [0, 1, 2, 3] 4 (Value.bool ((x10.1.length : Int) != (a1.length : Int))), spV 65 [0, 1, 2, 3, 4] 5 (Value.bool ((x10.1.length : Int) != (a1.length : Int))), spV 66 (List.range 6) 6 (Value.slice z17 m17 k17), spV 67 (List.range 6) 7 (Value.int .i64 ((i1 : Int))), ⟨some 68, (List.range 8), [8], fun vs_ T_ => fr0 vs_ 0 = (elemPtr (Value.slice z17 m17 k17) ((i1 : Int)) (Enc.sz Int)), [0], [], [], fun _ h_ => h_⟩, ⟨some 69, (List.range 9), [9], fun vs_ T_ => fr0 vs_ 0 = (Value.int .i64 (x30)), [0], [], [], fun _ h_ => h_⟩, ⟨some 70, (List.range 6), [10], fun vs_ T_ => fr0 vs_ 0 = (fieldPtr (Value.pointer (some ⟨g1, 0, none⟩)) 1), [], [], [], fun _ h_ => h_⟩, ⟨some 71, (List.range 6 ++ [10]), [11], fun vs_ T_ => RV T_ (fr0 vs_ 0) a0.Edges, [], [], [], fun hle_ h_ => h_.mono hle_⟩, spV 72 (List.range 6) 12 (Value.int .i64 ((i1 : Int))), ⟨some 73, (List.range 6 ++ [10, 11, 12]), [13, 11], fun vs_ T_ => fr0 vs_ 0 = (elemPtr (fr0 vs_ 1) ((i1 : Int)) (Enc.sz (List Edge))), [], [], [], fun _ h_ => h_⟩, ⟨some 74, (List.range 6 ++ [10, 11, 12, 13]), [14], fun vs_ T_ => RV T_ (fr0 vs_ 0) x31, [], [], [], fun hle_ h_ => h_.mono hle_⟩, spV 75 (List.range 6 ++ [10, 11, 12, 13, 14]) 15 (Value.int .i64 ((x31.length : Int))), spV 76 (List.range 16) 16 (Value.bool (decide ((x31.length : Int) < x30))), spV 77 (List.range 17) 17 (Value.bool (decide ((x31.length : Int) < x30))), spV 78 (List.range 18) 18 (Value.bool (decide ((x31.length : Int) < x30))), spV 79 (List.range 19) 19 (Value.slice z3 m3 k3), spV 80 (List.range 19) 20 (Value.int .i64 ((i1 : Int))), spV 81 (List.range 21) 21 (elemPtr (Value.slice z3 m3 k3) ((i1 : Int)) (Enc.sz Int)), spV 82 (List.range 22) 22 (Value.int .i64 (x32)), spV 83 (List.range 23) 23 (Value.bool (decide (0 < x32))), spV 84 (List.range 24) 24 (Value.bool (decide (0 < x32))), spV 85 (List.range 25) 25 (Value.slice z17 m17 k17), spV 86 (List.range 25) 26 (Value.int .i64 ((i1 : Int))), ⟨some 87, (List.range 27), [27], fun vs_ T_ => fr0 vs_ 0 = (elemPtr (Value.slice z17 m17 k17) ((i1 : Int)) (Enc.sz Int)), [0], [], [], fun _ h_ => h_⟩, ⟨some 88, (List.range 28), [28], fun vs_ T_ => fr0 vs_ 0 = (Value.int .i64 (x30)), [0], [], [], fun _ h_ => h_⟩, ⟨some 89, (List.range 25), [29], fun vs_ T_ => fr0 vs_ 0 = (fieldPtr (Value.pointer (some ⟨g1, 0, none⟩)) 1), [], [], [], fun _ h_ => h_⟩, ⟨some 90, (List.range 25 ++ [29]), [30], fun vs_ T_ => RV T_ (fr0 vs_ 0) a0.Edges, [], [], [], fun hle_ h_ => h_.mono hle_⟩, spV 91 (List.range 25) 31 (Value.int .i64 ((i1 : Int))), ⟨some 92, (List.range 25 ++ [29, 30, 31]), [32, 30], fun vs_ T_ => fr0 vs_ 0 = (elemPtr (fr0 vs_ 1) ((i1 : Int)) (Enc.sz (List Edge))), [], [], [], fun _ h_ => h_⟩, ⟨some 93, (List.range 25 ++ [29, 30, 31, 32]), [33], fun vs_ T_ => RV T_ (fr0 vs_ 0) x31, [], [], [], fun hle_ h_ => h_.mono hle_⟩, spV 94 (List.range 25 ++ [29, 30, 31, 32, 33]) 34 (Value.int .i64 ((x31.length : Int))), spV 95 (List.range 35) 35 (Value.bool (decide ((x31.length : Int) ≤ x30))), spV 96 (List.range 36) 36 (Value.bool (decide ((x31.length : Int) ≤ x30))), spV 97 (List.range 37) 37 (Value.bool (decide ((x31.length : Int) ≤ x30))), spV 98 (List.range 38) 38 (Value.bool (decide ((x31.length : Int) ≤ x30))), spV 99 (List.range 39) 39 undef, spV 100 (List.range 39) 40 undef, spV 101 (List.range 41) 41 undef, spV 102 (List.range 42) 42 undef, spV 103 (List.range 43) 43 undef, spV 104 (List.range 44) 44 undef, spV 105 (List.range 45) 45 undef, spV 106 (List.range 45) 46 undef, spV 107 (List.range 47) 47 undef, spV 108 (List.range 48) 48 undef, spV 109 (List.range 45) 49 undef, spV 110 (List.range 45 ++ [49]) 50 undef, spV 111 (List.range 45) 51 undef, spV 112 (List.range 45 ++ [49, 50, 51]) 52 undef, spV 113 (List.range 45 ++ [49, 50, 51, 52]) 53 undef, spV 114 (List.range 45 ++ [49, 50, 51, 52, 53]) 54 undef, spV 115 (List.range 55) 55 undef, spV 116 (List.range 56) 56 undef, spV 117 (List.range 57) 57 (Value.bool (true))]) (tks := [⟨none, none, [], fun vs_ => Row (α := Int) 3 (Value.slice z17 m17 k17) (x10.1)⟩]) (O := Row (α := Int) 3 (Value.slice z14 m14 k14) (x9.1) :: Fr) rfl (by kernel_rfl) (I1265.pull 1) ⟨?_, ?_, ?_, ?_, ?_, ?_, ?_, ?_, ?_, ?_, ?_, ?_, ?_, ?_, ?_, ?_, ?_, ?_, ?_, ?_, ?_, ?_, ?_, ?_, ?_, ?_, ?_, ?_, ?_, ?_, ?_, ?_, ?_, ?_, ?_, ?_, ?_, ?_, ?_, ?_, ?_, ?_, ?_, ?_, ?_, ?_, ?_, ?_, ?_, ?_, ?_, ?_, ?_, ?_, ?_, ?_, ?_, ?_, trivial⟩ ?_
          ·
           intro vs1358 f w1372 S1364 X1335 le1364 hA1335 hK1358 hI1359
           have I1384 : Inv w1372 S1364 (X1335) := hI1359
           refine opg_plain rfl rfl (op_move (v := (Value.slice z17 m17 k17)) rfl ((hK1358 7 (keep_of rfl)).trans e379) ?_)
           refine ⟨_, _, rfl, PH.Le.refl _, ?_, ?_⟩
           ·
            exact rfl
           ·
            exact I1384
          ·
           intro vs1359 f w1373 S1365 X1336 le1365 hA1336 hK1359 hI1360
           have I1385 : Inv w1373 S1365 (Row (α := Int) 3 (Value.slice z17 m17 k17) (x10.1) :: X1336) := hI1360
           have q2484 := vt (hA1336.at_ 0 rfl _ rfl) rfl
           refine opg_plain rfl rfl (op_len_row (α := Int) rfl Try.underlying26 q2484 (I1385.nth 0 rfl) ?_)
           refine ⟨_, _, rfl, PH.Le.refl _, ?_, ?_⟩
           ·
            exact rfl
           ·
            exact I1385
          ·
           intro vs1360 f w1374 S1366 X1337 le1366 hA1337 hK1360 hI1361
           have I1386 : Inv w1374 S1366 (X1337) := hI1361
           refine opg_plain rfl rfl (op_move (v := (Value.slice z3 m3 k3)) rfl ((hK1360 1 (keep_of rfl)).trans e376) ?_)
           refine ⟨_, _, rfl, PH.Le.refl _, ?_, ?_⟩
           ·
            exact rfl
           ·
            exact I1386
          ·
           intro vs1361 f w1375 S1367 X1338 le1367 hA1338 hK1361 hI1362
           have I1387 : Inv w1375 S1367 (X1338) := hI1362
           have q2485 := vt (hA1338.at_ 0 rfl _ rfl) rfl
           refine opg_plain rfl rfl (op_len_rv rfl Try.underlying26 q2485 (h1_.mono ((((le1.trans le2).trans le3).trans le1245).trans le1367)) ?_)
           refine ⟨_, _, rfl, PH.Le.refl _, ?_, ?_⟩
           ·
            exact rfl
           ·
            exact I1387
          ·
           intro vs1362 f w1376 S1368 X1339 le1368 hA1339 hK1362 hI1363
           have I1388 : Inv w1376 S1368 (X1339) := hI1363
           have q2486 := vt (hA1339.at_ 1 rfl _ rfl) rfl
           have q2487 := vt (hA1339.at_ 3 rfl _ rfl) rfl
           refine opg_plain rfl rfl (op_neq (a := (x10.1.length : Int)) (b := (a1.length : Int)) rfl q2486 q2487 ?_)
           refine ⟨_, _, rfl, PH.Le.refl _, ?_, ?_⟩
           ·
            exact rfl
           ·
            exact I1388
          ·
           intro vs1363 f w1377 S1369 X1340 le1369 hA1340 hK1363 hI1364
           have I1389 : Inv w1377 S1369 (X1340) := hI1364
           have q2488 := vt (hA1340.at_ 4 rfl _ rfl) rfl
           refine opg_plain rfl rfl (op_move (v := (Value.bool ((x10.1.length : Int) != (a1.length : Int)))) rfl q2488 ?_)
           refine ⟨_, _, rfl, PH.Le.refl _, ?_, ?_⟩
           ·
            exact rfl
           ·
            exact I1389
          ·
           intro vs1364 f w1378 S1370 X1341 le1370 hA1341 hK1364 hI1365
           have I1390 : Inv w1378 S1370 (X1341) := hI1365
           have q2489 := vt (hA1341.at_ 5 rfl _ rfl) rfl
           refine opg_taken (c := (x10.1.length : Int) != (a1.length : Int)) rfl rfl rfl rfl q2489 hc45 (op_move (v := (Value.slice z17 m17 k17)) rfl ((hK1364 7 (keep_of rfl)).trans e379) ?_)
           refine ⟨_, _, rfl, PH.Le.refl _, ?_, ?_⟩
           ·
            exact rfl
           ·
            exact I1390
          ·
           intro vs1365 f w1379 S1371 X1342 le1371 hA1342 hK1365 hI1366
           have I1391 : Inv w1379 S1371 (X1342) := hI1366
           have q2490 := vt (hA1342.at_ 5 rfl _ rfl) rfl
           refine opg_taken (c := (x10.1.length : Int) != (a1.length : Int)) rfl rfl rfl rfl q2490 hc45 (op_move (v := (Value.int .i64 ((i1 : Int)))) rfl ((hK1365 10 (keep_of rfl)).trans e381) ?_)
           refine ⟨_, _, rfl, PH.Le.refl _, ?_, ?_⟩
           ·
            exact rfl
           ·
            exact I1391
          ·
           intro vs1366 f w1380 S1372 X1343 le1372 hA1343 hK1366 hI1367
           have I1392 : Inv w1380 S1372 (Row (α := Int) 3 (Value.slice z17 m17 k17) (x10.1) :: X1343) := hI1367
           have q2491 := vt (hA1343.at_ 5 rfl _ rfl) rfl
           have q2492 := vt (hA1343.at_ 6 rfl _ rfl) rfl
           have q2493 := vt (hA1343.at_ 7 rfl _ rfl) rfl
           refine opg_taken (c := (x10.1.length : Int) != (a1.length : Int)) rfl rfl rfl rfl q2491 hc45 (op_indexAddr_src (v := (Value.slice z17 m17 k17)) (i := (i1 : Int)) (e := x30) rfl Try.underlying26 sh3 q2492 (Inv.rowSrc (I1392.nth 0 rfl)) q2493 hx30 ?_)
           refine ⟨_, _, rfl, PH.Le.refl _, ?_, ?_⟩
           ·
            exact rfl
           ·
            exact I1392
          ·
           intro vs1367 f w1381 S1373 X1344 le1373 hA1344 hK1367 hI1368
           have I1393 : Inv w1381 S1373 (Row (α := Int) 3 (Value.slice z17 m17 k17) (x10.1) :: X1344) := hI1368
           have q2494 := vt (hA1344.at_ 5 rfl _ rfl) rfl
           have q2495 := vt (hA1344.at_ 8 rfl _ rfl) rfl
           refine opg_taken (c := (x10.1.length : Int) != (a1.length : Int)) rfl rfl rfl rfl q2494 hc45 (op_load_int (v := (elemPtr (Value.slice z17 m17 k17) ((i1 : Int)) (Enc.sz Int))) (e := x30) rfl sh3 q2495 ((I1393.nth 0 rfl).rowElem hx30) ?_)
           refine ⟨_, _, rfl, PH.Le.refl _, ?_, ?_⟩
           ·
            exact rfl
           ·
            exact I1393
          ·
           intro vs1368 f w1382 S1374 X1345 le1374 hA1345 hK1368 hI1369
           have I1394 : Inv w1382 S1374 (X1345) := hI1369
           have q2496 := vt (hA1345.at_ 5 rfl _ rfl) rfl
           refine opg_taken (c := (x10.1.length : Int) != (a1.length : Int)) rfl rfl rfl rfl q2496 hc45 (op_fieldAddr_t (v := (Value.pointer (some ⟨g1, 0, none⟩))) rfl fa25_1 ((hK1368 2 (keep_of rfl)).trans e377) ((p1.mono (((le2.trans le3).trans le1245).trans le1374)).at_ I1394) ?_)
           refine ⟨_, _, rfl, PH.Le.refl _, ?_, ?_⟩
           ·
            exact rfl
           ·
            exact I1394
          ·
           intro vs1369 f w1383 S1375 X1346 le1375 hA1346 hK1369 hI1370
           have I1395 : Inv w1383 S1375 (X1346) := hI1370
           have q2497 := vt (hA1346.at_ 5 rfl _ rfl) rfl
           have q2498 := vt (hA1346.at_ 6 rfl _ rfl) rfl
           refine opg_taken (c := (x10.1.length : Int) != (a1.length : Int)) rfl rfl rfl rfl q2497 hc45 (op_load (v := (fieldPtr (Value.pointer (some ⟨g1, 0, none⟩)) 1)) (e := a0.Edges) rfl sh23 q2498 (((p1.mono (((le2.trans le3).trans le1245).trans le1375)).at_ I1395).fld Graph.fld1) (fun u299 hu299 => ?_))
           obtain ⟨z188, m188, k188, e399⟩ := rv_form hu299
           subst e399
           refine ⟨_, _, rfl, PH.Le.refl _, ?_, ?_⟩
           ·
            exact hu299
           ·
            exact I1395
          ·
           intro vs1370 f w1384 S1376 X1347 le1376 hA1347 hK1370 hI1371
           have I1396 : Inv w1384 S1376 (X1347) := hI1371
           have q2499 := vt (hA1347.at_ 5 rfl _ rfl) rfl
           refine opg_taken (c := (x10.1.length : Int) != (a1.length : Int)) rfl rfl rfl rfl q2499 hc45 (op_move (v := (Value.int .i64 ((i1 : Int)))) rfl ((hK1370 10 (keep_of rfl)).trans e381) ?_)
           refine ⟨_, _, rfl, PH.Le.refl _, ?_, ?_⟩
           ·
            exact rfl
           ·
            exact I1396
          ·
           intro vs1371 f w1385 S1377 X1348 le1377 hA1348 hK1371 hI1372
           have I1397 : Inv w1385 S1377 (X1348) := hI1372
           have q2500 := vt (hA1348.at_ 5 rfl _ rfl) rfl
           have q2501 : f 71 = vs1371 11 := (hA1348.at_ 7 rfl _ rfl).1 _ rfl
           have r117 : RV S1377 (vs1371 11) a0.Edges := (hA1348.at_ 7 rfl _ rfl).2
           obtain ⟨u300, hu300⟩ : ∃ u, vs1371 11 = u := ⟨_, rfl⟩
           rw [hu300] at q2501 r117
           obtain ⟨z189, m189, k189, e400⟩ := rv_form r117
           subst e400
           have q2502 := vt (hA1348.at_ 8 rfl _ rfl) rfl
           refine opg_taken (c := (x10.1.length : Int) != (a1.length : Int)) rfl rfl rfl rfl q2500 hc45 (op_indexAddr_rv (v := (Value.slice z189 m189 k189)) (i := (i1 : Int)) (e := x31) rfl Try.underlying23 sh40 q2501 r117 q2502 hx31 ?_)
           refine ⟨_, _, rfl, PH.Le.refl _, ?_, ?_⟩
           ·
            show (elemPtr (Value.slice z189 m189 k189) ((i1 : Int)) (Enc.sz (List Edge))) = (elemPtr (vs1371 11) ((i1 : Int)) (Enc.sz (List Edge)))
            simp only [hu300] <;> rfl
           ·
            exact I1397
          ·
           intro vs1372 f w1386 S1378 X1349 le1378 hA1349 hK1372 hI1373
           have I1398 : Inv w1386 S1378 (X1349) := hI1373
           have q2503 := vt (hA1349.at_ 5 rfl _ rfl) rfl
           have q2504 : f 71 = vs1372 11 := (hA1349.at_ 7 rfl _ rfl).1 _ rfl
           have r118 : RV S1378 (vs1372 11) a0.Edges := (hA1349.at_ 7 rfl _ rfl).2
           obtain ⟨u301, hu301⟩ : ∃ u, vs1372 11 = u := ⟨_, rfl⟩
           rw [hu301] at q2504 r118
           obtain ⟨z190, m190, k190, e401⟩ := rv_form r118
           subst e401
           have q2505 := vt (hA1349.at_ 8 rfl _ rfl) rfl
           have q2506 : f 73 = (elemPtr (vs1372 11) ((i1 : Int)) (Enc.sz (List Edge))) := vt (hA1349.at_ 9 rfl _ rfl) rfl
           simp only [hu301] at q2506
           have q2506 : f 73 = (elemPtr (Value.slice z190 m190 k190) ((i1 : Int)) (Enc.sz (List Edge))) := q2506
           refine opg_taken (c := (x10.1.length : Int) != (a1.length : Int)) rfl rfl rfl rfl q2503 hc45 (op_load (v := (elemPtr (Value.slice z190 m190 k190) ((i1 : Int)) (Enc.sz (List Edge)))) (e := x31) rfl sh40 q2506 (r118.elem I1398.in_ hx31) (fun u302 hu302 => ?_))
           obtain ⟨z191, m191, k191, e402⟩ := rv_form hu302
           subst e402
           refine ⟨_, _, rfl, PH.Le.refl _, ?_, ?_⟩
           ·
            exact hu302
           ·
            exact I1398
          ·
           intro vs1373 f w1387 S1379 X1350 le1379 hA1350 hK1373 hI1374
           have I1399 : Inv w1387 S1379 (X1350) := hI1374
           have q2507 := vt (hA1350.at_ 5 rfl _ rfl) rfl
           have q2508 : f 74 = vs1373 14 := (hA1350.at_ 10 rfl _ rfl).1 _ rfl
           have r119 : RV S1379 (vs1373 14) x31 := (hA1350.at_ 10 rfl _ rfl).2
           obtain ⟨u303, hu303⟩ : ∃ u, vs1373 14 = u := ⟨_, rfl⟩
           rw [hu303] at q2508 r119
           obtain ⟨z192, m192, k192, e403⟩ := rv_form r119
           subst e403
           refine opg_taken (c := (x10.1.length : Int) != (a1.length : Int)) rfl rfl rfl rfl q2507 hc45 (op_len_rv rfl Try.underlying40 q2508 r119 ?_)
           refine ⟨_, _, rfl, PH.Le.refl _, ?_, ?_⟩
           ·
            exact rfl
           ·
            exact I1399
          ·
           intro vs1374 f w1388 S1380 X1351 le1380 hA1351 hK1374 hI1375
           have I1400 : Inv w1388 S1380 (X1351) := hI1375
           have q2509 := vt (hA1351.at_ 5 rfl _ rfl) rfl
           have q2510 := vt (hA1351.at_ 9 rfl _ rfl) rfl
           have q2511 := vt (hA1351.at_ 15 rfl _ rfl) rfl
           refine opg_taken (c := (x10.1.length : Int) != (a1.length : Int)) rfl rfl rfl rfl q2509 hc45 (op_gtr (a := x30) (b := (x31.length : Int)) rfl q2510 q2511 ?_)
           refine ⟨_, _, rfl, PH.Le.refl _, ?_, ?_⟩
           ·
            exact rfl
           ·
            exact I1400
          ·
           intro vs1375 f w1389 S1381 X1352 le1381 hA1352 hK1375 hI1376
           have I1401 : Inv w1389 S1381 (X1352) := hI1376
           have q2512 := vt (hA1352.at_ 5 rfl _ rfl) rfl
           have q2513 := vt (hA1352.at_ 16 rfl _ rfl) rfl
           refine opg_plain rfl rfl (op_pick_f (c := (x10.1.length : Int) != (a1.length : Int)) (b := (Value.bool (decide ((x31.length : Int) < x30)))) rfl q2512 hc45 q2513 ?_)
           refine ⟨_, _, rfl, PH.Le.refl _, ?_, ?_⟩
           ·
            exact rfl
           ·
            exact I1401
          ·
           intro vs1376 f w1390 S1382 X1353 le1382 hA1353 hK1376 hI1377
           have I1402 : Inv w1390 S1382 (X1353) := hI1377
           have q2514 := vt (hA1353.at_ 17 rfl _ rfl) rfl
           refine opg_plain rfl rfl (op_move (v := (Value.bool (decide ((x31.length : Int) < x30)))) rfl q2514 ?_)
           refine ⟨_, _, rfl, PH.Le.refl _, ?_, ?_⟩
           ·
            exact rfl
           ·
            exact I1402
          ·
           intro vs1377 f w1391 S1383 X1354 le1383 hA1354 hK1377 hI1378
           have I1403 : Inv w1391 S1383 (X1354) := hI1378
           have q2515 := vt (hA1354.at_ 18 rfl _ rfl) rfl
           refine opg_taken (c := decide ((x31.length : Int) < x30)) rfl rfl rfl rfl q2515 hc46 (op_move (v := (Value.slice z3 m3 k3)) rfl ((hK1377 1 (keep_of rfl)).trans e376) ?_)
           refine ⟨_, _, rfl, PH.Le.refl _, ?_, ?_⟩
           ·
            exact rfl
           ·
            exact I1403
          ·
           intro vs1378 f w1392 S1384 X1355 le1384 hA1355 hK1378 hI1379
           have I1404 : Inv w1392 S1384 (X1355) := hI1379
           have q2516 := vt (hA1355.at_ 18 rfl _ rfl) rfl
           refine opg_taken (c := decide ((x31.length : Int) < x30)) rfl rfl rfl rfl q2516 hc46 (op_move (v := (Value.int .i64 ((i1 : Int)))) rfl ((hK1378 10 (keep_of rfl)).trans e381) ?_)
           refine ⟨_, _, rfl, PH.Le.refl _, ?_, ?_⟩
           ·
            exact rfl
           ·
            exact I1404
          ·
           intro vs1379 f w1393 S1385 X1356 le1385 hA1356 hK1379 hI1380
           have I1405 : Inv w1393 S1385 (X1356) := hI1380
           have q2517 := vt (hA1356.at_ 18 rfl _ rfl) rfl
           have q2518 := vt (hA1356.at_ 19 rfl _ rfl) rfl
           have q2519 := vt (hA1356.at_ 20 rfl _ rfl) rfl
           refine opg_taken (c := decide ((x31.length : Int) < x30)) rfl rfl rfl rfl q2517 hc46 (op_indexAddr_rv (v := (Value.slice z3 m3 k3)) (i := (i1 : Int)) (e := x32) rfl Try.underlying26 sh3 q2518 (h1_.mono ((((le1.trans le2).trans le3).trans le1245).trans le1385)) q2519 hx32 ?_)
           refine ⟨_, _, rfl, PH.Le.refl _, ?_, ?_⟩
           ·
            exact rfl
           ·
            exact I1405
          ·
           intro vs1380 f w1394 S1386 X1357 le1386 hA1357 hK1380 hI1381
           have I1406 : Inv w1394 S1386 (X1357) := hI1381
           have q2520 := vt (hA1357.at_ 18 rfl _ rfl) rfl
           have q2521 := vt (hA1357.at_ 21 rfl _ rfl) rfl
           refine opg_taken (c := decide ((x31.length : Int) < x30)) rfl rfl rfl rfl q2520 hc46 (op_load_int (v := (elemPtr (Value.slice z3 m3 k3) ((i1 : Int)) (Enc.sz Int))) (e := x32) rfl sh3 q2521 ((h1_.mono ((((le1.trans le2).trans le3).trans le1245).trans le1386)).elem I1406.in_ hx32) ?_)
           refine ⟨_, _, rfl, PH.Le.refl _, ?_, ?_⟩
           ·
            exact rfl
           ·
            exact I1406
          ·
           intro vs1381 f w1395 S1387 X1358 le1387 hA1358 hK1381 hI1382
           have I1407 : Inv w1395 S1387 (X1358) := hI1382
           have q2522 := vt (hA1358.at_ 18 rfl _ rfl) rfl
           have q2523 := vt (hA1358.at_ 22 rfl _ rfl) rfl
           refine opg_taken (c := decide ((x31.length : Int) < x30)) rfl rfl rfl rfl q2522 hc46 (op_gtr (a := x32) (b := 0) rfl q2523 rfl ?_)
           refine ⟨_, _, rfl, PH.Le.refl _, ?_, ?_⟩
           ·
            exact rfl
           ·
            exact I1407
          ·
           intro vs1382 f w1396 S1388 X1359 le1388 hA1359 hK1382 hI1383
           have I1408 : Inv w1396 S1388 (X1359) := hI1383
           have q2524 := vt (hA1359.at_ 18 rfl _ rfl) rfl
           have q2525 := vt (hA1359.at_ 23 rfl _ rfl) rfl
           refine opg_taken (c := decide ((x31.length : Int) < x30)) rfl rfl rfl rfl q2524 hc46 (op_move (v := (Value.bool (decide (0 < x32)))) rfl q2525 ?_)
           refine ⟨_, _, rfl, PH.Le.refl _, ?_, ?_⟩
           ·
            exact rfl
           ·
            exact I1408
          ·
           intro vs1383 f w1397 S1389 X1360 le1389 hA1360 hK1383 hI1384
           have I1409 : Inv w1397 S1389 (X1360) := hI1384
           have q2526 := vt (hA1360.at_ 24 rfl _ rfl) rfl
           refine opg_taken (c := decide (0 < x32)) rfl rfl rfl rfl q2526 hc47 (op_move (v := (Value.slice z17 m17 k17)) rfl ((hK1383 7 (keep_of rfl)).trans e379) ?_)
           refine ⟨_, _, rfl, PH.Le.refl _, ?_, ?_⟩
           ·
            exact rfl
           ·
            exact I1409
          ·
           intro vs1384 f w1398 S1390 X1361 le1390 hA1361 hK1384 hI1385
           have I1410 : Inv w1398 S1390 (X1361) := hI1385
           have q2527 := vt (hA1361.at_ 24 rfl _ rfl) rfl
           refine opg_taken (c := decide (0 < x32)) rfl rfl rfl rfl q2527 hc47 (op_move (v := (Value.int .i64 ((i1 : Int)))) rfl ((hK1384 10 (keep_of rfl)).trans e381) ?_)
           refine ⟨_, _, rfl, PH.Le.refl _, ?_, ?_⟩
           ·
            exact rfl
           ·
            exact I1410
          ·
           intro vs1385 f w1399 S1391 X1362 le1391 hA1362 hK1385 hI1386
           have I1411 : Inv w1399 S1391 (Row (α := Int) 3 (Value.slice z17 m17 k17) (x10.1) :: X1362) := hI1386
           have q2528 := vt (hA1362.at_ 24 rfl _ rfl) rfl
           have q2529 := vt (hA1362.at_ 25 rfl _ rfl) rfl
           have q2530 := vt (hA1362.at_ 26 rfl _ rfl) rfl
           refine opg_taken (c := decide (0 < x32)) rfl rfl rfl rfl q2528 hc47 (op_indexAddr_src (v := (Value.slice z17 m17 k17)) (i := (i1 : Int)) (e := x30) rfl Try.underlying26 sh3 q2529 (Inv.rowSrc (I1411.nth 0 rfl)) q2530 hx30 ?_)
           refine ⟨_, _, rfl, PH.Le.refl _, ?_, ?_⟩
           ·
            exact rfl
           ·
            exact I1411
          ·
           intro vs1386 f w1400 S1392 X1363 le1392 hA1363 hK1386 hI1387
           have I1412 : Inv w1400 S1392 (Row (α := Int) 3 (Value.slice z17 m17 k17) (x10.1) :: X1363) := hI1387
           have q2531 := vt (hA1363.at_ 24 rfl _ rfl) rfl
           have q2532 := vt (hA1363.at_ 27 rfl _ rfl) rfl
           refine opg_taken (c := decide (0 < x32)) rfl rfl rfl rfl q2531 hc47 (op_load_int (v := (elemPtr (Value.slice z17 m17 k17) ((i1 : Int)) (Enc.sz Int))) (e := x30) rfl sh3 q2532 ((I1412.nth 0 rfl).rowElem hx30) ?_)
           refine ⟨_, _, rfl, PH.Le.refl _, ?_, ?_⟩
           ·
            exact rfl
           ·
            exact I1412
          ·
           intro vs1387 f w1401 S1393 X1364 le1393 hA1364 hK1387 hI1388
           have I1413 : Inv w1401 S1393 (X1364) := hI1388
           have q2533 := vt (hA1364.at_ 24 rfl _ rfl) rfl
           refine opg_taken (c := decide (0 < x32)) rfl rfl rfl rfl q2533 hc47 (op_fieldAddr_t (v := (Value.pointer (some ⟨g1, 0, none⟩))) rfl fa25_1 ((hK1387 2 (keep_of rfl)).trans e377) ((p1.mono (((le2.trans le3).trans le1245).trans le1393)).at_ I1413) ?_)
           refine ⟨_, _, rfl, PH.Le.refl _, ?_, ?_⟩
           ·
            exact rfl
           ·
            exact I1413
          ·
           intro vs1388 f w1402 S1394 X1365 le1394 hA1365 hK1388 hI1389
           have I1414 : Inv w1402 S1394 (X1365) := hI1389
           have q2534 := vt (hA1365.at_ 24 rfl _ rfl) rfl
           have q2535 := vt (hA1365.at_ 25 rfl _ rfl) rfl
           refine opg_taken (c := decide (0 < x32)) rfl rfl rfl rfl q2534 hc47 (op_load (v := (fieldPtr (Value.pointer (some ⟨g1, 0, none⟩)) 1)) (e := a0.Edges) rfl sh23 q2535 (((p1.mono (((le2.trans le3).trans le1245).trans le1394)).at_ I1414).fld Graph.fld1) (fun u304 hu304 => ?_))
           obtain ⟨z193, m193, k193, e404⟩ := rv_form hu304
           subst e404
           refine ⟨_, _, rfl, PH.Le.refl _, ?_, ?_⟩
           ·
            exact hu304
           ·
            exact I1414
          ·
           intro vs1389 f w1403 S1395 X1366 le1395 hA1366 hK1389 hI1390
           have I1415 : Inv w1403 S1395 (X1366) := hI1390
           have q2536 := vt (hA1366.at_ 24 rfl _ rfl) rfl
           refine opg_taken (c := decide (0 < x32)) rfl rfl rfl rfl q2536 hc47 (op_move (v := (Value.int .i64 ((i1 : Int)))) rfl ((hK1389 10 (keep_of rfl)).trans e381) ?_)
           refine ⟨_, _, rfl, PH.Le.refl _, ?_, ?_⟩
           ·
            exact rfl
           ·
            exact I1415
          ·
           intro vs1390 f w1404 S1396 X1367 le1396 hA1367 hK1390 hI1391
           have I1416 : Inv w1404 S1396 (X1367) := hI1391
           have q2537 := vt (hA1367.at_ 24 rfl _ rfl) rfl
           have q2538 : f 90 = vs1390 30 := (hA1367.at_ 26 rfl _ rfl).1 _ rfl
           have r120 : RV S1396 (vs1390 30) a0.Edges := (hA1367.at_ 26 rfl _ rfl).2
           obtain ⟨u305, hu305⟩ : ∃ u, vs1390 30 = u := ⟨_, rfl⟩
           rw [hu305] at q2538 r120
           obtain ⟨z194, m194, k194, e405⟩ := rv_form r120
           subst e405
           have q2539 := vt (hA1367.at_ 27 rfl _ rfl) rfl
           refine opg_taken (c := decide (0 < x32)) rfl rfl rfl rfl q2537 hc47 (op_indexAddr_rv (v := (Value.slice z194 m194 k194)) (i := (i1 : Int)) (e := x31) rfl Try.underlying23 sh40 q2538 r120 q2539 hx31 ?_)
           refine ⟨_, _, rfl, PH.Le.refl _, ?_, ?_⟩
           ·
            show (elemPtr (Value.slice z194 m194 k194) ((i1 : Int)) (Enc.sz (List Edge))) = (elemPtr (vs1390 30) ((i1 : Int)) (Enc.sz (List Edge)))
            simp only [hu305] <;> rfl
           ·
            exact I1416
          ·
           intro vs1391 f w1405 S1397 X1368 le1397 hA1368 hK1391 hI1392
           have I1417 : Inv w1405 S1397 (X1368) := hI1392
           have q2540 := vt (hA1368.at_ 24 rfl _ rfl) rfl
           have q2541 : f 90 = vs1391 30 := (hA1368.at_ 26 rfl _ rfl).1 _ rfl
           have r121 : RV S1397 (vs1391 30) a0.Edges := (hA1368.at_ 26 rfl _ rfl).2
           obtain ⟨u306, hu306⟩ : ∃ u, vs1391 30 = u := ⟨_, rfl⟩
           rw [hu306] at q2541 r121
           obtain ⟨z195, m195, k195, e406⟩ := rv_form r121
           subst e406
           have q2542 := vt (hA1368.at_ 27 rfl _ rfl) rfl
           have q2543 : f 92 = (elemPtr (vs1391 30) ((i1 : Int)) (Enc.sz (List Edge))) := vt (hA1368.at_ 28 rfl _ rfl) rfl
           simp only [hu306] at q2543
           have q2543 : f 92 = (elemPtr (Value.slice z195 m195 k195) ((i1 : Int)) (Enc.sz (List Edge))) := q2543
           refine opg_taken (c := decide (0 < x32)) rfl rfl rfl rfl q2540 hc47 (op_load (v := (elemPtr (Value.slice z195 m195 k195) ((i1 : Int)) (Enc.sz (List Edge)))) (e := x31) rfl sh40 q2543 (r121.elem I1417.in_ hx31) (fun u307 hu307 => ?_))
           obtain ⟨z196, m196, k196, e407⟩ := rv_form hu307
           subst e407
           refine ⟨_, _, rfl, PH.Le.refl _, ?_, ?_⟩
           ·
            exact hu307
           ·
            exact I1417
          ·
           intro vs1392 f w1406 S1398 X1369 le1398 hA1369 hK1392 hI1393
           have I1418 : Inv w1406 S1398 (X1369) := hI1393
           have q2544 := vt (hA1369.at_ 24 rfl _ rfl) rfl
           have q2545 : f 93 = vs1392 33 := (hA1369.at_ 29 rfl _ rfl).1 _ rfl
           have r122 : RV S1398 (vs1392 33) x31 := (hA1369.at_ 29 rfl _ rfl).2
           obtain ⟨u308, hu308⟩ : ∃ u, vs1392 33 = u := ⟨_, rfl⟩
           rw [hu308] at q2545 r122
           obtain ⟨z197, m197, k197, e408⟩ := rv_form r122
           subst e408
           refine opg_taken (c := decide (0 < x32)) rfl rfl rfl rfl q2544 hc47 (op_len_rv rfl Try.underlying40 q2545 r122 ?_)
           refine ⟨_, _, rfl, PH.Le.refl _, ?_, ?_⟩
           ·
            exact rfl
           ·
            exact I1418
          ·
           intro vs1393 f w1407 S1399 X1370 le1399 hA1370 hK1393 hI1394
           have I1419 : Inv w1407 S1399 (X1370) := hI1394
           have q2546 := vt (hA1370.at_ 24 rfl _ rfl) rfl
           have q2547 := vt (hA1370.at_ 28 rfl _ rfl) rfl
           have q2548 := vt (hA1370.at_ 34 rfl _ rfl) rfl
           refine opg_taken (c := decide (0 < x32)) rfl rfl rfl rfl q2546 hc47 (op_geq (a := x30) (b := (x31.length : Int)) rfl q2547 q2548 ?_)
           refine ⟨_, _, rfl, PH.Le.refl _, ?_, ?_⟩
           ·
            exact rfl
           ·
            exact I1419
          ·
           intro vs1394 f w1408 S1400 X1371 le1400 hA1371 hK1394 hI1395
           have I1420 : Inv w1408 S1400 (X1371) := hI1395
           have q2549 := vt (hA1371.at_ 18 rfl _ rfl) rfl
           have q2550 := vt (hA1371.at_ 24 rfl _ rfl) rfl
           have q2551 := vt (hA1371.at_ 35 rfl _ rfl) rfl
           refine opg_taken (c := decide ((x31.length : Int) < x30)) rfl rfl rfl rfl q2549 hc46 (op_pick_t (c := decide (0 < x32)) (a := (Value.bool (decide ((x31.length : Int) ≤ x30)))) rfl q2550 hc47 q2551 ?_)
           refine ⟨_, _, rfl, PH.Le.refl _, ?_, ?_⟩
           ·
            exact rfl
           ·
            exact I1420
          ·
           intro vs1395 f w1409 S1401 X1372 le1401 hA1372 hK1395 hI1396
           have I1421 : Inv w1409 S1401 (X1372) := hI1396
           have q2552 := vt (hA1372.at_ 18 rfl _ rfl) rfl
           have q2553 := vt (hA1372.at_ 36 rfl _ rfl) rfl
           refine opg_plain rfl rfl (op_pick_f (c := decide ((x31.length : Int) < x30)) (b := (Value.bool (decide ((x31.length : Int) ≤ x30)))) rfl q2552 hc46 q2553 ?_)
           refine ⟨_, _, rfl, PH.Le.refl _, ?_, ?_⟩
           ·
            exact rfl
           ·
            exact I1421
          ·
           intro vs1396 f w1410 S1402 X1373 le1402 hA1373 hK1396 hI1397
           have I1422 : Inv w1410 S1402 (X1373) := hI1397
           have q2554 := vt (hA1373.at_ 37 rfl _ rfl) rfl
           refine opg_plain rfl rfl (op_move (v := (Value.bool (decide ((x31.length : Int) ≤ x30)))) rfl q2554 ?_)
           refine ⟨_, _, rfl, PH.Le.refl _, ?_, ?_⟩
           ·
            exact rfl
           ·
            exact I1422
          ·
           intro vs1397 f w1411 S1403 X1374 le1403 hA1374 hK1397 hI1398
           have I1423 : Inv w1411 S1403 (X1374) := hI1398
           have q2555 := vt (hA1374.at_ 38 rfl _ rfl) rfl
           exact opg_skip (c := decide ((x31.length : Int) ≤ x30)) rfl rfl rfl rfl q2555 hc48 rfl ⟨_, _, rfl, PH.Le.refl _, rfl, I1423⟩
          ·
           intro vs1398 f w1412 S1404 X1375 le1404 hA1375 hK1398 hI1399
           have I1424 : Inv w1412 S1404 (X1375) := hI1399
           have q2556 := vt (hA1375.at_ 38 rfl _ rfl) rfl
           exact opg_skip (c := decide ((x31.length : Int) ≤ x30)) rfl rfl rfl rfl q2556 hc48 rfl ⟨_, _, rfl, PH.Le.refl _, rfl, I1424⟩
          ·
           intro vs1399 f w1413 S1405 X1376 le1405 hA1376 hK1399 hI1400
           have I1425 : Inv w1413 S1405 (X1376) := hI1400
           have q2557 := vt (hA1376.at_ 38 rfl _ rfl) rfl
           have q2558 := vt (hA1376.at_ 39 rfl _ rfl) rfl
           have q2559 := vt (hA1376.at_ 40 rfl _ rfl) rfl
           exact opg_skip (c := decide ((x31.length : Int) ≤ x30)) rfl rfl rfl rfl q2557 hc48 rfl ⟨_, _, rfl, PH.Le.refl _, rfl, I1425⟩
          ·
           intro vs1400 f w1414 S1406 X1377 le1406 hA1377 hK1400 hI1401
           have I1426 : Inv w1414 S1406 (X1377) := hI1401
           have q2560 := vt (hA1377.at_ 38 rfl _ rfl) rfl
           have q2561 := vt (hA1377.at_ 41 rfl _ rfl) rfl
           exact opg_skip (c := decide ((x31.length : Int) ≤ x30)) rfl rfl rfl rfl q2560 hc48 rfl ⟨_, _, rfl, PH.Le.refl _, rfl, I1426⟩
          ·
           intro vs1401 f w1415 S1407 X1378 le1407 hA1378 hK1401 hI1402
           have I1427 : Inv w1415 S1407 (X1378) := hI1402
           have q2562 := vt (hA1378.at_ 38 rfl _ rfl) rfl
           have q2563 := vt (hA1378.at_ 42 rfl _ rfl) rfl
           exact opg_skip (c := decide ((x31.length : Int) ≤ x30)) rfl rfl rfl rfl q2562 hc48 rfl ⟨_, _, rfl, PH.Le.refl _, rfl, I1427⟩
          ·
           intro vs1402 f w1416 S1408 X1379 le1408 hA1379 hK1402 hI1403
           have I1428 : Inv w1416 S1408 (X1379) := hI1403
           have q2564 := vt (hA1379.at_ 38 rfl _ rfl) rfl
           have q2565 := vt (hA1379.at_ 43 rfl _ rfl) rfl
           exact opg_skip (c := decide ((x31.length : Int) ≤ x30)) rfl rfl rfl rfl q2564 hc48 rfl ⟨_, _, rfl, PH.Le.refl _, rfl, I1428⟩
          ·
           intro vs1403 f w1417 S1409 X1380 le1409 hA1380 hK1403 hI1404
           have I1429 : Inv w1417 S1409 (X1380) := hI1404
           have q2566 := vt (hA1380.at_ 44 rfl _ rfl) rfl
           exact opg_skip_u rfl rfl rfl rfl q2566 rfl ⟨_, _, rfl, PH.Le.refl _, rfl, I1429⟩
          ·
           intro vs1404 f w1418 S1410 X1381 le1410 hA1381 hK1404 hI1405
           have I1430 : Inv w1418 S1410 (X1381) := hI1405
           have q2567 := vt (hA1381.at_ 44 rfl _ rfl) rfl
           exact opg_skip_u rfl rfl rfl rfl q2567 rfl ⟨_, _, rfl, PH.Le.refl _, rfl, I1430⟩
          ·
           intro vs1405 f w1419 S1411 X1382 le1411 hA1382 hK1405 hI1406
           have I1431 : Inv w1419 S1411 (X1382) := hI1406
           have q2568 := vt (hA1382.at_ 44 rfl _ rfl) rfl
           have q2569 := vt (hA1382.at_ 45 rfl _ rfl) rfl
           have q2570 := vt (hA1382.at_ 46 rfl _ rfl) rfl
           exact opg_skip_u rfl rfl rfl rfl q2568 rfl ⟨_, _, rfl, PH.Le.refl _, rfl, I1431⟩
          ·
           intro vs1406 f w1420 S1412 X1383 le1412 hA1383 hK1406 hI1407
           have I1432 : Inv w1420 S1412 (X1383) := hI1407
           have q2571 := vt (hA1383.at_ 44 rfl _ rfl) rfl
           have q2572 := vt (hA1383.at_ 47 rfl _ rfl) rfl
           exact opg_skip_u rfl rfl rfl rfl q2571 rfl ⟨_, _, rfl, PH.Le.refl _, rfl, I1432⟩
          ·
           intro vs1407 f w1421 S1413 X1384 le1413 hA1384 hK1407 hI1408
           have I1433 : Inv w1421 S1413 (X1384) := hI1408
           have q2573 := vt (hA1384.at_ 44 rfl _ rfl) rfl
           exact opg_skip_u rfl rfl rfl rfl q2573 rfl ⟨_, _, rfl, PH.Le.refl _, rfl, I1433⟩
          ·
           intro vs1408 f w1422 S1414 X1385 le1414 hA1385 hK1408 hI1409
           have I1434 : Inv w1422 S1414 (X1385) := hI1409
           have q2574 := vt (hA1385.at_ 44 rfl _ rfl) rfl
           have q2575 := vt (hA1385.at_ 45 rfl _ rfl) rfl
           exact opg_skip_u rfl rfl rfl rfl q2574 rfl ⟨_, _, rfl, PH.Le.refl _, rfl, I1434⟩
          ·
           intro vs1409 f w1423 S1415 X1386 le1415 hA1386 hK1409 hI1410
           have I1435 : Inv w1423 S1415 (X1386) := hI1410
           have q2576 := vt (hA1386.at_ 44 rfl _ rfl) rfl
           exact opg_skip_u rfl rfl rfl rfl q2576 rfl ⟨_, _, rfl, PH.Le.refl _, rfl, I1435⟩
          ·
           intro vs1410 f w1424 S1416 X1387 le1416 hA1387 hK1410 hI1411
           have I1436 : Inv w1424 S1416 (X1387) := hI1411
           have q2577 := vt (hA1387.at_ 44 rfl _ rfl) rfl
           have q2578 := vt (hA1387.at_ 46 rfl _ rfl) rfl
           have q2579 := vt (hA1387.at_ 47 rfl _ rfl) rfl
           exact opg_skip_u rfl rfl rfl rfl q2577 rfl ⟨_, _, rfl, PH.Le.refl _, rfl, I1436⟩
          ·
           intro vs1411 f w1425 S1417 X1388 le1417 hA1388 hK1411 hI1412
           have I1437 : Inv w1425 S1417 (X1388) := hI1412
           have q2580 := vt (hA1388.at_ 44 rfl _ rfl) rfl
           have q2581 := vt (hA1388.at_ 48 rfl _ rfl) rfl
           exact opg_skip_u rfl rfl rfl rfl q2580 rfl ⟨_, _, rfl, PH.Le.refl _, rfl, I1437⟩
          ·
           intro vs1412 f w1426 S1418 X1389 le1418 hA1389 hK1412 hI1413
           have I1438 : Inv w1426 S1418 (X1389) := hI1413
           have q2582 := vt (hA1389.at_ 44 rfl _ rfl) rfl
           have q2583 := vt (hA1389.at_ 49 rfl _ rfl) rfl
           exact opg_skip_u rfl rfl rfl rfl q2582 rfl ⟨_, _, rfl, PH.Le.refl _, rfl, I1438⟩
          ·
           intro vs1413 f w1427 S1419 X1390 le1419 hA1390 hK1413 hI1414
           have I1439 : Inv w1427 S1419 (X1390) := hI1414
           have q2584 := vt (hA1390.at_ 44 rfl _ rfl) rfl
           have q2585 := vt (hA1390.at_ 48 rfl _ rfl) rfl
           have q2586 := vt (hA1390.at_ 54 rfl _ rfl) rfl
           exact opg_skip_u rfl rfl rfl rfl q2584 rfl ⟨_, _, rfl, PH.Le.refl _, rfl, I1439⟩
          ·
           intro vs1414 f w1428 S1420 X1391 le1420 hA1391 hK1414 hI1415
           have I1440 : Inv w1428 S1420 (X1391) := hI1415
           have q2587 := vt (hA1391.at_ 38 rfl _ rfl) rfl
           have q2588 := vt (hA1391.at_ 44 rfl _ rfl) rfl
           have q2589 := vt (hA1391.at_ 55 rfl _ rfl) rfl
           exact opg_skip (c := decide ((x31.length : Int) ≤ x30)) rfl rfl rfl rfl q2587 hc48 rfl ⟨_, _, rfl, PH.Le.refl _, rfl, I1440⟩
          ·
           intro vs1415 f w1429 S1421 X1392 le1421 hA1392 hK1415 hI1416
           have I1441 : Inv w1429 S1421 (X1392) := hI1416
           have q2590 := vt (hA1392.at_ 38 rfl _ rfl) rfl
           have q2591 := vt (hA1392.at_ 56 rfl _ rfl) rfl
           refine opg_plain rfl rfl (op_pick_t (c := decide ((x31.length : Int) ≤ x30)) (a := (Value.bool (true))) rfl q2590 hc48 rfl ?_)
           refine ⟨_, _, rfl, PH.Le.refl _, ?_, ?_⟩
           ·
            exact rfl
           ·
            exact I1441
          ·
           intro vs1416 f w1430 S1422 le1422 hF24 hK1416 hI1417
           have e409 : f 1 = (Value.slice z3 m3 k3) := (hK1416 1 (keep_all rfl)).trans e376
           have e410 : f 2 = (Value.pointer (some ⟨g1, 0, none⟩)) := (hK1416 2 (keep_all rfl)).trans e377
           have e411 : f 5 = (Value.slice z14 m14 k14) := (hK1416 5 (keep_all rfl)).trans e378
           have e412 : f 7 = (Value.slice z17 m17 k17) := (hK1416 7 (keep_all rfl)).trans e379
           have e413 : f 9 = (Value.int .i64 (v10)) := (hK1416 9 (keep_all rfl)).trans e380
           have e414 : f 10 = (Value.int .i64 ((i1 : Int))) := (hK1416 10 (keep_all rfl)).trans e381
           have I1442 : Inv w1430 S1422 (Row (α := Int) 3 (Value.slice z17 m17 k17) (x10.1) :: Row (α := Int) 3 (Value.slice z14 m14 k14) (x9.1) :: Fr) := hI1417
           have q2592 := vt (hF24.at_ 57 rfl _ rfl) rfl
           refine wp_cond_t (b := true) q2592 rfl ?_
           refine wp_seq' ?_
           refine wp_region' ?_
           refine wl_op rfl (op_assign (v := (Value.bool (false))) rfl rfl ?_)
           refine wl_nil ?_
           refine wp_ret' ?_
           obtain rfl := Option.some.inj h22
           obtain rfl := (hout1 _ rfl)
           have h23 := h
           obtain rfl := Option.some.inj h23
           exact ⟨(Value.bool (false)), (res1 rfl rfl), _, [], ((((le1.trans le2).trans le3).trans le1245).trans le1422), ((I1442).drop).drop, rfl, rfl⟩
         ·
          rcases ifs h22 with ⟨hc49, h22⟩ | ⟨hc49, h22⟩
          ·
           refine wp_draw (sps := [spV 60 [] 0 (Value.slice z17 m17 k17), ⟨some 61, [0], [1], fun vs_ T_ => fr0 vs_ 0 = (Value.int .i64 ((x10.1.length : Int))), [0], [], [], fun _ h_ => h_⟩, spV 62 [] 2 (Value.slice z3 m3 k3), spV 63 [2] 3 (Value.int .i64 ((a1.length : Int))), spV 64 [0, 1, 2, 3] 4 (Value.bool ((x10.1.length : Int) != (a1.length : Int))), spV 65 [0, 1, 2, 3, 4] 5 (Value.bool ((x10.1.length : Int) != (a1.length : Int))), spV 66 (List.range 6) 6 (Value.slice z17 m17 k17), spV 67 (List.range 6) 7 (Value.int .i64 ((i1 : Int))), ⟨some 68, (List.range 8), [8], fun vs_ T_ => fr0 vs_ 0 = (elemPtr (Value.slice z17 m17 k17) ((i1 : Int)) (Enc.sz Int)), [0], [], [], fun _ h_ => h_⟩, ⟨some 69, (List.range 9), [9], fun vs_ T_ => fr0 vs_ 0 = (Value.int .i64 (x30)), [0], [], [], fun _ h_ => h_⟩, ⟨some 70, (List.range 6), [10], fun vs_ T_ => fr0 vs_ 0 = (fieldPtr (Value.pointer (some ⟨g1, 0, none⟩)) 1), [], [], [], fun _ h_ => h_⟩, ⟨some 71, (List.range 6 ++ [10]), [11], fun vs_ T_ => RV T_ (fr0 vs_ 0) a0.Edges, [], [], [], fun hle_ h_ => h_.mono hle_⟩, spV 72 (List.range 6) 12 (Value.int .i64 ((i1 : Int))), ⟨some 73, (List.range 6 ++ [10, 11, 12]), [13, 11], fun vs_ T_ => fr0 vs_ 0 = (elemPtr (fr0 vs_ 1) ((i1 : Int)) (Enc.sz (List Edge))), [], [], [], fun _ h_ => h_⟩, ⟨some 74, (List.range 6 ++ [10, 11, 12, 13]), [14], fun vs_ T_ => RV T_ (fr0 vs_ 0) x31, [], [], [], fun hle_ h_ => h_.mono hle_⟩, spV 75 (List.range 6 ++ [10, 11, 12, 13, 14]) 15 (Value.int .i64 ((x31.length : Int))), spV 76 (List.range 16) 16 (Value.bool (decide ((x31.length : Int) < x30))), spV 77 (List.range 17) 17 (Value.bool (decide ((x31.length : Int) < x30))), spV 78 (List.range 18) 18 (Value.bool (decide ((x31.length : Int) < x30))), spV 79 (List.range 19) 19 (Value.slice z3 m3 k3), spV 80 (List.range 19) 20 (Value.int .i64 ((i1 : Int))), spV 81 (List.range 21) 21 (elemPtr (Value.slice z3 m3 k3) ((i1 : Int)) (Enc.sz Int)), spV 82 (List.range 22) 22 (Value.int .i64 (x32)), spV 83 (List.range 23) 23 (Value.bool (decide (0 < x32))), spV 84 (List.range 24) 24 (Value.bool (decide (0 < x32))), spV 85 (List.range 25) 25 (Value.slice z17 m17 k17), spV 86 (List.range 25) 26 (Value.int .i64 ((i1 : Int))), ⟨some 87, (List.range 27), [27], fun vs_ T_ => fr0 vs_ 0 = (elemPtr (Value.slice z17 m17 k17) ((i1 : Int)) (Enc.sz Int)), [0], [], [], fun _ h_ => h_⟩, ⟨some 88, (List.range 28), [28], fun vs_ T_ => fr0 vs_ 0 = (Value.int .i64 (x30)), [0], [], [], fun _ h_ => h_⟩, ⟨some 89, (List.range 25), [29], fun vs_ T_ => fr0 vs_ 0 = (fieldPtr (Value.pointer (some ⟨g1, 0, none⟩)) 1), [], [], [], fun _ h_ => h_⟩, ⟨some 90, (List.range 25 ++ [29]), [30], fun vs_ T_ => RV T_ (fr0 vs_ 0) a0.Edges, [], [], [], fun hle_ h_ => h_.mono hle_⟩, spV 91 (List.range 25) 31 (Value.int .i64 ((i1 : Int))), ⟨some 92, (List.range 25 ++ [29, 30, 31]), [32, 30], fun vs_ T_ => fr0 vs_ 0 = (elemPtr (fr0 vs_ 1) ((i1 : Int)) (Enc.sz (List Edge))), [], [], [], fun _ h_ => h_⟩, ⟨some 93, (List.range 25 ++ [29, 30, 31, 32]), [33], fun vs_ T_ => RV T_ (fr0 vs_ 0) x31, [], [], [], fun hle_ h_ => h_.mono hle_⟩, spV 94 (List.range 25 ++ [29, 30, 31, 32, 33]) 34 (Value.int .i64 ((x31.length : Int))), spV 95 (List.range 35) 35 (Value.bool (decide ((x31.length : Int) ≤ x30))), spV 96 (List.range 36) 36 (Value.bool (decide ((x31.length : Int) ≤ x30))), spV 97 (List.range 37) 37 (Value.bool (decide ((x31.length : Int) ≤ x30))), spV 98 (List.range 38) 38 (Value.bool (decide ((x31.length : Int) ≤ x30))), spV 99 (List.range 39) 39 (Value.slice z3 m3 k3), spV 100 (List.range 39) 40 (Value.int .i64 ((i1 : Int))), spV 101 (List.range 41) 41 (elemPtr (Value.slice z3 m3 k3) ((i1 : Int)) (Enc.sz Int)), spV 102 (List.range 42) 42 (Value.int .i64 (x32)), spV 103 (List.range 43) 43 (Value.bool (decide (x32 ≤ 0))), spV 104 (List.range 44) 44 (Value.bool (decide (x32 ≤ 0))), spV 105 (List.range 45) 45 (Value.slice z17 m17 k17), spV 106 (List.range 45) 46 (Value.int .i64 ((i1 : Int))), ⟨some 107, (List.range 47), [47], fun vs_ T_ => fr0 vs_ 0 = (elemPtr (Value.slice z17 m17 k17) ((i1 : Int)) (Enc.sz Int)), [0], [], [], fun _ h_ => h_⟩, ⟨some 108, (List.range 48), [48], fun vs_ T_ => fr0 vs_ 0 = (Value.int .i64 (x30)), [0], [], [], fun _ h_ => h_⟩, ⟨some 109, (List.range 45), [49], fun vs_ T_ => fr0 vs_ 0 = (fieldPtr (Value.pointer (some ⟨g1, 0, none⟩)) 1), [], [], [], fun _ h_ => h_⟩, ⟨some 110, (List.range 45 ++ [49]), [50], fun vs_ T_ => RV T_ (fr0 vs_ 0) a0.Edges, [], [], [], fun hle_ h_ => h_.mono hle_⟩, spV 111 (List.range 45) 51 (Value.int .i64 ((i1 : Int))), ⟨some 112, (List.range 45 ++ [49, 50, 51]), [52, 50], fun vs_ T_ => fr0 vs_ 0 = (elemPtr (fr0 vs_ 1) ((i1 : Int)) (Enc.sz (List Edge))), [], [], [], fun _ h_ => h_⟩, ⟨some 113, (List.range 45 ++ [49, 50, 51, 52]), [53], fun vs_ T_ => RV T_ (fr0 vs_ 0) x31, [], [], [], fun hle_ h_ => h_.mono hle_⟩, spV 114 (List.range 45 ++ [49, 50, 51, 52, 53]) 54 (Value.int .i64 ((x31.length : Int))), spV 115 (List.range 55) 55 (Value.bool (x30 != (x31.length : Int))), spV 116 (List.range 56) 56 (Value.bool (x30 != (x31.length : Int))), spV 117 (List.range 57) 57 (Value.bool (x30 != (x31.length : Int)))]) (tks := [⟨none, none, [], fun vs_ => Row (α := Int) 3 (Value.slice z17 m17 k17) (x10.1)⟩]) (O := Row (α := Int) 3 (Value.slice z14 m14 k14) (x9.1) :: Fr) rfl (by kernel_rfl) (I1265.pull 1) ⟨?_, ?_, ?_, ?_, ?_, ?_, ?_, ?_, ?_, ?_, ?_, ?_, ?_, ?_, ?_, ?_, ?_, ?_, ?_, ?_, ?_, ?_, ?_, ?_, ?_, ?_, ?_, ?_, ?_, ?_, ?_, ?_, ?_, ?_, ?_, ?_, ?_, ?_, ?_, ?_, ?_, ?_, ?_, ?_, ?_, ?_, ?_, ?_, ?_, ?_, ?_, ?_, ?_, ?_, ?_, ?_, ?_, ?_, trivial⟩ ?_
           ·
            intro vs1417 f w1431 S1423 X1393 le1423 hA1393 hK1417 hI1418
            have I1443 : Inv w1431 S1423 (X1393) := hI1418
            refine opg_plain rfl rfl (op_move (v := (Value.slice z17 m17 k17)) rfl ((hK1417 7 (keep_of rfl)).trans e379) ?_)
            refine ⟨_, _, rfl, PH.Le.refl _, ?_, ?_⟩
            ·
             exact rfl
            ·
             exact I1443
           ·
            intro vs1418 f w1432 S1424 X1394 le1424 hA1394 hK1418 hI1419
            have I1444 : Inv w1432 S1424 (Row (α := Int) 3 (Value.slice z17 m17 k17) (x10.1) :: X1394) := hI1419
            have q2593 := vt (hA1394.at_ 0 rfl _ rfl) rfl
            refine opg_plain rfl rfl (op_len_row (α := Int) rfl Try.underlying26 q2593 (I1444.nth 0 rfl) ?_)
            refine ⟨_, _, rfl, PH.Le.refl _, ?_, ?_⟩
            ·
             exact rfl
            ·
             exact I1444
           ·
            intro vs1419 f w1433 S1425 X1395 le1425 hA1395 hK1419 hI1420
            have I1445 : Inv w1433 S1425 (X1395) := hI1420
            refine opg_plain rfl rfl (op_move (v := (Value.slice z3 m3 k3)) rfl ((hK1419 1 (keep_of rfl)).trans e376) ?_)
            refine ⟨_, _, rfl, PH.Le.refl _, ?_, ?_⟩
            ·
             exact rfl
            ·
             exact I1445
           ·
            intro vs1420 f w1434 S1426 X1396 le1426 hA1396 hK1420 hI1421
            have I1446 : Inv w1434 S1426 (X1396) := hI1421
            have q2594 := vt (hA1396.at_ 0 rfl _ rfl) rfl
            refine opg_plain rfl rfl (op_len_rv rfl Try.underlying26 q2594 (h1_.mono ((((le1.trans le2).trans le3).trans le1245).trans le1426)) ?_)
            refine ⟨_, _, rfl, PH.Le.refl _, ?_, ?_⟩
            ·
             exact rfl
            ·
             exact I1446
           ·
            intro vs1421 f w1435 S1427 X1397 le1427 hA1397 hK1421 hI1422
            have I1447 : Inv w1435 S1427 (X1397) := hI1422
            have q2595 := vt (hA1397.at_ 1 rfl _ rfl) rfl
            have q2596 := vt (hA1397.at_ 3 rfl _ rfl) rfl
            refine opg_plain rfl rfl (op_neq (a := (x10.1.length : Int)) (b := (a1.length : Int)) rfl q2595 q2596 ?_)
            refine ⟨_, _, rfl, PH.Le.refl _, ?_, ?_⟩
            ·
             exact rfl
            ·
             exact I1447
           ·
            intro vs1422 f w1436 S1428 X1398 le1428 hA1398 hK1422 hI1423
            have I1448 : Inv w1436 S1428 (X1398) := hI1423
            have q2597 := vt (hA1398.at_ 4 rfl _ rfl) rfl
            refine opg_plain rfl rfl (op_move (v := (Value.bool ((x10.1.length : Int) != (a1.length : Int)))) rfl q2597 ?_)
            refine ⟨_, _, rfl, PH.Le.refl _, ?_, ?_⟩
            ·
             exact rfl
            ·
             exact I1448
           ·
            intro vs1423 f w1437 S1429 X1399 le1429 hA1399 hK1423 hI1424
            have I1449 : Inv w1437 S1429 (X1399) := hI1424
            have q2598 := vt (hA1399.at_ 5 rfl _ rfl) rfl
            refine opg_taken (c := (x10.1.length : Int) != (a1.length : Int)) rfl rfl rfl rfl q2598 hc45 (op_move (v := (Value.slice z17 m17 k17)) rfl ((hK1423 7 (keep_of rfl)).trans e379) ?_)
            refine ⟨_, _, rfl, PH.Le.refl _, ?_, ?_⟩
            ·
             exact rfl
            ·
             exact I1449
           ·
            intro vs1424 f w1438 S1430 X1400 le1430 hA1400 hK1424 hI1425
            have I1450 : Inv w1438 S1430 (X1400) := hI1425
            have q2599 := vt (hA1400.at_ 5 rfl _ rfl) rfl
            refine opg_taken (c := (x10.1.length : Int) != (a1.length : Int)) rfl rfl rfl rfl q2599 hc45 (op_move (v := (Value.int .i64 ((i1 : Int)))) rfl ((hK1424 10 (keep_of rfl)).trans e381) ?_)
            refine ⟨_, _, rfl, PH.Le.refl _, ?_, ?_⟩
            ·
             exact rfl
            ·
             exact I1450
           ·
            intro vs1425 f w1439 S1431 X1401 le1431 hA1401 hK1425 hI1426
            have I1451 : Inv w1439 S1431 (Row (α := Int) 3 (Value.slice z17 m17 k17) (x10.1) :: X1401) := hI1426
            have q2600 := vt (hA1401.at_ 5 rfl _ rfl) rfl
            have q2601 := vt (hA1401.at_ 6 rfl _ rfl) rfl
            have q2602 := vt (hA1401.at_ 7 rfl _ rfl) rfl
            refine opg_taken (c := (x10.1.length : Int) != (a1.length : Int)) rfl rfl rfl rfl q2600 hc45 (op_indexAddr_src (v := (Value.slice z17 m17 k17)) (i := (i1 : Int)) (e := x30) rfl Try.underlying26 sh3 q2601 (Inv.rowSrc (I1451.nth 0 rfl)) q2602 hx30 ?_)
            refine ⟨_, _, rfl, PH.Le.refl _, ?_, ?_⟩
            ·
             exact rfl
            ·
             exact I1451
           ·
            intro vs1426 f w1440 S1432 X1402 le1432 hA1402 hK1426 hI1427
            have I1452 : Inv w1440 S1432 (Row (α := Int) 3 (Value.slice z17 m17 k17) (x10.1) :: X1402) := hI1427
            have q2603 := vt (hA1402.at_ 5 rfl _ rfl) rfl
            have q2604 := vt (hA1402.at_ 8 rfl _ rfl) rfl
            refine opg_taken (c := (x10.1.length : Int) != (a1.length : Int)) rfl rfl rfl rfl q2603 hc45 (op_load_int (v := (elemPtr (Value.slice z17 m17 k17) ((i1 : Int)) (Enc.sz Int))) (e := x30) rfl sh3 q2604 ((I1452.nth 0 rfl).rowElem hx30) ?_)
            refine ⟨_, _, rfl, PH.Le.refl _, ?_, ?_⟩
            ·
             exact rfl
            ·
             exact I1452
           ·
            intro vs1427 f w1441 S1433 X1403 le1433 hA1403 hK1427 hI1428
            have I1453 : Inv w1441 S1433 (X1403) := hI1428
            have q2605 := vt (hA1403.at_ 5 rfl _ rfl) rfl
            refine opg_taken (c := (x10.1.length : Int) != (a1.length : Int)) rfl rfl rfl rfl q2605 hc45 (op_fieldAddr_t (v := (Value.pointer (some ⟨g1, 0, none⟩))) rfl fa25_1 ((hK1427 2 (keep_of rfl)).trans e377) ((p1.mono (((le2.trans le3).trans le1245).trans le1433)).at_ I1453) ?_)
            refine ⟨_, _, rfl, PH.Le.refl _, ?_, ?_⟩
            ·
             exact rfl
            ·
             exact I1453
           ·
            intro vs1428 f w1442 S1434 X1404 le1434 hA1404 hK1428 hI1429
            have I1454 : Inv w1442 S1434 (X1404) := hI1429
            have q2606 := vt (hA1404.at_ 5 rfl _ rfl) rfl
            have q2607 := vt (hA1404.at_ 6 rfl _ rfl) rfl
            refine opg_taken (c := (x10.1.length : Int) != (a1.length : Int)) rfl rfl rfl rfl q2606 hc45 (op_load (v := (fieldPtr (Value.pointer (some ⟨g1, 0, none⟩)) 1)) (e := a0.Edges) rfl sh23 q2607 (((p1.mono (((le2.trans le3).trans le1245).trans le1434)).at_ I1454).fld Graph.fld1) (fun u319 hu319 => ?_))
            obtain ⟨z198, m198, k198, e415⟩ := rv_form hu319
            subst e415
            refine ⟨_, _, rfl, PH.Le.refl _, ?_, ?_⟩
            ·
             exact hu319
            ·
             exact I1454
           ·
            intro vs1429 f w1443 S1435 X1405 le1435 hA1405 hK1429 hI1430
            have I1455 : Inv w1443 S1435 (X1405) := hI1430
            have q2608 := vt (hA1405.at_ 5 rfl _ rfl) rfl
            refine opg_taken (c := (x10.1.length : Int) != (a1.length : Int)) rfl rfl rfl rfl q2608 hc45 (op_move (v := (Value.int .i64 ((i1 : Int)))) rfl ((hK1429 10 (keep_of rfl)).trans e381) ?_)
            refine ⟨_, _, rfl, PH.Le.refl _, ?_, ?_⟩
            ·
             exact rfl
            ·
             exact I1455
           ·
            intro vs1430 f w1444 S1436 X1406 le1436 hA1406 hK1430 hI1431
            have I1456 : Inv w1444 S1436 (X1406) := hI1431
            have q2609 := vt (hA1406.at_ 5 rfl _ rfl) rfl
            have q2610 : f 71 = vs1430 11 := (hA1406.at_ 7 rfl _ rfl).1 _ rfl
            have r123 : RV S1436 (vs1430 11) a0.Edges := (hA1406.at_ 7 rfl _ rfl).2
            obtain ⟨u320, hu320⟩ : ∃ u, vs1430 11 = u := ⟨_, rfl⟩
            rw [hu320] at q2610 r123
            obtain ⟨z199, m199, k199, e416⟩ := rv_form r123
            subst e416
            have q2611 := vt (hA1406.at_ 8 rfl _ rfl) rfl
            refine opg_taken (c := (x10.1.length : Int) != (a1.length : Int)) rfl rfl rfl rfl q2609 hc45 (op_indexAddr_rv (v := (Value.slice z199 m199 k199)) (i := (i1 : Int)) (e := x31) rfl Try.underlying23 sh40 q2610 r123 q2611 hx31 ?_)
            refine ⟨_, _, rfl, PH.Le.refl _, ?_, ?_⟩
            ·
             show (elemPtr (Value.slice z199 m199 k199) ((i1 : Int)) (Enc.sz (List Edge))) = (elemPtr (vs1430 11) ((i1 : Int)) (Enc.sz (List Edge)))
             simp only [hu320] <;> rfl
            ·
             exact I1456
           ·
            intro vs1431 f w1445 S1437 X1407 le1437 hA1407 hK1431 hI1432
            have I1457 : Inv w1445 S1437 (X1407) := hI1432
            have q2612 := vt (hA1407.at_ 5 rfl _ rfl) rfl
            have q2613 : f 71 = vs1431 11 := (hA1407.at_ 7 rfl _ rfl).1 _ rfl
            have r124 : RV S1437 (vs1431 11) a0.Edges := (hA1407.at_ 7 rfl _ rfl).2
            obtain ⟨u321, hu321⟩ : ∃ u, vs1431 11 = u := ⟨_, rfl⟩
            rw [hu321] at q2613 r124
            obtain ⟨z200, m200, k200, e417⟩ := rv_form r124
            subst e417
            have q2614 := vt (hA1407.at_ 8 rfl _ rfl) rfl
            have q2615 : f 73 = (elemPtr (vs1431 11) ((i1 : Int)) (Enc.sz (List Edge))) := vt (hA1407.at_ 9 rfl _ rfl) rfl
            simp only [hu321] at q2615
            have q2615 : f 73 = (elemPtr (Value.slice z200 m200 k200) ((i1 : Int)) (Enc.sz (List Edge))) := q2615
            refine opg_taken (c := (x10.1.length : Int) != (a1.length : Int)) rfl rfl rfl rfl q2612 hc45 (op_load (v := (elemPtr (Value.slice z200 m200 k200) ((i1 : Int)) (Enc.sz (List Edge)))) (e := x31) rfl sh40 q2615 (r124.elem I1457.in_ hx31) (fun u322 hu322 => ?_))
            obtain ⟨z201, m201, k201, e418⟩ := rv_form hu322
            subst e418
            refine ⟨_, _, rfl, PH.Le.refl _, ?_, ?_⟩
            ·
             exact hu322
            ·
             exact I1457
           ·
            intro vs1432 f w1446 S1438 X1408 le1438 hA1408 hK1432 hI1433
            have I1458 : Inv w1446 S1438 (X1408) := hI1433
            have q2616 := vt (hA1408.at_ 5 rfl _ rfl) rfl
            have q2617 : f 74 = vs1432 14 := (hA1408.at_ 10 rfl _ rfl).1 _ rfl
            have r125 : RV S1438 (vs1432 14) x31 := (hA1408.at_ 10 rfl _ rfl).2
            obtain ⟨u323, hu323⟩ : ∃ u, vs1432 14 = u := ⟨_, rfl⟩
            rw [hu323] at q2617 r125
            obtain ⟨z202, m202, k202, e419⟩ := rv_form r125
            subst e419
            refine opg_taken (c := (x10.1.length : Int) != (a1.length : Int)) rfl rfl rfl rfl q2616 hc45 (op_len_rv rfl Try.underlying40 q2617 r125 ?_)
            refine ⟨_, _, rfl, PH.Le.refl _, ?_, ?_⟩
            ·
             exact rfl
            ·
             exact I1458
           ·
            intro vs1433 f w1447 S1439 X1409 le1439 hA1409 hK1433 hI1434
            have I1459 : Inv w1447 S1439 (X1409) := hI1434
            have q2618 := vt (hA1409.at_ 5 rfl _ rfl) rfl
            have q2619 := vt (hA1409.at_ 9 rfl _ rfl) rfl
            have q2620 := vt (hA1409.at_ 15 rfl _ rfl) rfl
            refine opg_taken (c := (x10.1.length : Int) != (a1.length : Int)) rfl rfl rfl rfl q2618 hc45 (op_gtr (a := x30) (b := (x31.length : Int)) rfl q2619 q2620 ?_)
            refine ⟨_, _, rfl, PH.Le.refl _, ?_, ?_⟩
            ·
             exact rfl
            ·
             exact I1459
           ·
            intro vs1434 f w1448 S1440 X1410 le1440 hA1410 hK1434 hI1435
            have I1460 : Inv w1448 S1440 (X1410) := hI1435
            have q2621 := vt (hA1410.at_ 5 rfl _ rfl) rfl
            have q2622 := vt (hA1410.at_ 16 rfl _ rfl) rfl
            refine opg_plain rfl rfl (op_pick_f (c := (x10.1.length : Int) != (a1.length : Int)) (b := (Value.bool (decide ((x31.length : Int) < x30)))) rfl q2621 hc45 q2622 ?_)
            refine ⟨_, _, rfl, PH.Le.refl _, ?_, ?_⟩
            ·
             exact rfl
            ·
             exact I1460
           ·
            intro vs1435 f w1449 S1441 X1411 le1441 hA1411 hK1435 hI1436
            have I1461 : Inv w1449 S1441 (X1411) := hI1436
            have q2623 := vt (hA1411.at_ 17 rfl _ rfl) rfl
            refine opg_plain rfl rfl (op_move (v := (Value.bool (decide ((x31.length : Int) < x30)))) rfl q2623 ?_)
            refine ⟨_, _, rfl, PH.Le.refl _, ?_, ?_⟩
            ·
             exact rfl
            ·
             exact I1461
           ·
            intro vs1436 f w1450 S1442 X1412 le1442 hA1412 hK1436 hI1437
            have I1462 : Inv w1450 S1442 (X1412) := hI1437
            have q2624 := vt (hA1412.at_ 18 rfl _ rfl) rfl
            refine opg_taken (c := decide ((x31.length : Int) < x30)) rfl rfl rfl rfl q2624 hc46 (op_move (v := (Value.slice z3 m3 k3)) rfl ((hK1436 1 (keep_of rfl)).trans e376) ?_)
            refine ⟨_, _, rfl, PH.Le.refl _, ?_, ?_⟩
            ·
             exact rfl
            ·
             exact I1462
           ·
            intro vs1437 f w1451 S1443 X1413 le1443 hA1413 hK1437 hI1438
            have I1463 : Inv w1451 S1443 (X1413) := hI1438
            have q2625 := vt (hA1413.at_ 18 rfl _ rfl) rfl
            refine opg_taken (c := decide ((x31.length : Int) < x30)) rfl rfl rfl rfl q2625 hc46 (op_move (v := (Value.int .i64 ((i1 : Int)))) rfl ((hK1437 10 (keep_of rfl)).trans e381) ?_)
            refine ⟨_, _, rfl, PH.Le.refl _, ?_, ?_⟩
            ·
             exact rfl
            ·
             exact I1463
           ·
            intro vs1438 f w1452 S1444 X1414 le1444 hA1414 hK1438 hI1439
            have I1464 : Inv w1452 S1444 (X1414) := hI1439
            have q2626 := vt (hA1414.at_ 18 rfl _ rfl) rfl
            have q2627 := vt (hA1414.at_ 19 rfl _ rfl) rfl
            have q2628 := vt (hA1414.at_ 20 rfl _ rfl) rfl
            refine opg_taken (c := decide ((x31.length : Int) < x30)) rfl rfl rfl rfl q2626 hc46 (op_indexAddr_rv (v := (Value.slice z3 m3 k3)) (i := (i1 : Int)) (e := x32) rfl Try.underlying26 sh3 q2627 (h1_.mono ((((le1.trans le2).trans le3).trans le1245).trans le1444)) q2628 hx32 ?_)
            refine ⟨_, _, rfl, PH.Le.refl _, ?_, ?_⟩
            ·
             exact rfl
            ·
             exact I1464
           ·
            intro vs1439 f w1453 S1445 X1415 le1445 hA1415 hK1439 hI1440
            have I1465 : Inv w1453 S1445 (X1415) := hI1440
            have q2629 := vt (hA1415.at_ 18 rfl _ rfl) rfl
            have q2630 := vt (hA1415.at_ 21 rfl _ rfl) rfl
            refine opg_taken (c := decide ((x31.length : Int) < x30)) rfl rfl rfl rfl q2629 hc46 (op_load_int (v := (elemPtr (Value.slice z3 m3 k3) ((i1 : Int)) (Enc.sz Int))) (e := x32) rfl sh3 q2630 ((h1_.mono ((((le1.trans le2).trans le3).trans le1245).trans le1445)).elem I1465.in_ hx32) ?_)
            refine ⟨_, _, rfl, PH.Le.refl _, ?_, ?_⟩
            ·
             exact rfl
            ·
             exact I1465
           ·
            intro vs1440 f w1454 S1446 X1416 le1446 hA1416 hK1440 hI1441
            have I1466 : Inv w1454 S1446 (X1416) := hI1441
            have q2631 := vt (hA1416.at_ 18 rfl _ rfl) rfl
            have q2632 := vt (hA1416.at_ 22 rfl _ rfl) rfl
            refine opg_taken (c := decide ((x31.length : Int) < x30)) rfl rfl rfl rfl q2631 hc46 (op_gtr (a := x32) (b := 0) rfl q2632 rfl ?_)
            refine ⟨_, _, rfl, PH.Le.refl _, ?_, ?_⟩
            ·
             exact rfl
            ·
             exact I1466
           ·
            intro vs1441 f w1455 S1447 X1417 le1447 hA1417 hK1441 hI1442
            have I1467 : Inv w1455 S1447 (X1417) := hI1442
            have q2633 := vt (hA1417.at_ 18 rfl _ rfl) rfl
            have q2634 := vt (hA1417.at_ 23 rfl _ rfl) rfl
            refine opg_taken (c := decide ((x31.length : Int) < x30)) rfl rfl rfl rfl q2633 hc46 (op_move (v := (Value.bool (decide (0 < x32)))) rfl q2634 ?_)
            refine ⟨_, _, rfl, PH.Le.refl _, ?_, ?_⟩
            ·
             exact rfl
            ·
             exact I1467
           ·
            intro vs1442 f w1456 S1448 X1418 le1448 hA1418 hK1442 hI1443
            have I1468 : Inv w1456 S1448 (X1418) := hI1443
            have q2635 := vt (hA1418.at_ 24 rfl _ rfl) rfl
            refine opg_taken (c := decide (0 < x32)) rfl rfl rfl rfl q2635 hc47 (op_move (v := (Value.slice z17 m17 k17)) rfl ((hK1442 7 (keep_of rfl)).trans e379) ?_)
            refine ⟨_, _, rfl, PH.Le.refl _, ?_, ?_⟩
            ·
             exact rfl
            ·
             exact I1468
           ·
            intro vs1443 f w1457 S1449 X1419 le1449 hA1419 hK1443 hI1444
            have I1469 : Inv w1457 S1449 (X1419) := hI1444
            have q2636 := vt (hA1419.at_ 24 rfl _ rfl) rfl
            refine opg_taken (c := decide (0 < x32)) rfl rfl rfl rfl q2636 hc47 (op_move (v := (Value.int .i64 ((i1 : Int)))) rfl ((hK1443 10 (keep_of rfl)).trans e381) ?_)
            refine ⟨_, _, rfl, PH.Le.refl _, ?_, ?_⟩
            ·
             exact rfl
            ·
             exact I1469
           ·
            intro vs1444 f w1458 S1450 X1420 le1450 hA1420 hK1444 hI1445
            have I1470 : Inv w1458 S1450 (Row (α := Int) 3 (Value.slice z17 m17 k17) (x10.1) :: X1420) := hI1445
            have q2637 := vt (hA1420.at_ 24 rfl _ rfl) rfl
            have q2638 := vt (hA1420.at_ 25 rfl _ rfl) rfl
            have q2639 := vt (hA1420.at_ 26 rfl _ rfl) rfl
            refine opg_taken (c := decide (0 < x32)) rfl rfl rfl rfl q2637 hc47 (op_indexAddr_src (v := (Value.slice z17 m17 k17)) (i := (i1 : Int)) (e := x30) rfl Try.underlying26 sh3 q2638 (Inv.rowSrc (I1470.nth 0 rfl)) q2639 hx30 ?_)
            refine ⟨_, _, rfl, PH.Le.refl _, ?_, ?_⟩
            ·
             exact rfl
            ·
             exact I1470
           ·
            intro vs1445 f w1459 S1451 X1421 le1451 hA1421 hK1445 hI1446
            have I1471 : Inv w1459 S1451 (Row (α := Int) 3 (Value.slice z17 m17 k17) (x10.1) :: X1421) := hI1446
            have q2640 := vt (hA1421.at_ 24 rfl _ rfl) rfl
            have q2641 := vt (hA1421.at_ 27 rfl _ rfl) rfl
            refine opg_taken (c := decide (0 < x32)) rfl rfl rfl rfl q2640 hc47 (op_load_int (v := (elemPtr (Value.slice z17 m17 k17) ((i1 : Int)) (Enc.sz Int))) (e := x30) rfl sh3 q2641 ((I1471.nth 0 rfl).rowElem hx30) ?_)
            refine ⟨_, _, rfl, PH.Le.refl _, ?_, ?_⟩
            ·
             exact rfl
            ·
             exact I1471
           ·
            intro vs1446 f w1460 S1452 X1422 le1452 hA1422 hK1446 hI1447
            have I1472 : Inv w1460 S1452 (X1422) := hI1447
            have q2642 := vt (hA1422.at_ 24 rfl _ rfl) rfl
            refine opg_taken (c := decide (0 < x32)) rfl rfl rfl rfl q2642 hc47 (op_fieldAddr_t (v := (Value.pointer (some ⟨g1, 0, none⟩))) rfl fa25_1 ((hK1446 2 (keep_of rfl)).trans e377) ((p1.mono (((le2.trans le3).trans le1245).trans le1452)).at_ I1472) ?_)
            refine ⟨_, _, rfl, PH.Le.refl _, ?_, ?_⟩
            ·
             exact rfl
            ·
             exact I1472
           ·
            intro vs1447 f w1461 S1453 X1423 le1453 hA1423 hK1447 hI1448
            have I1473 : Inv w1461 S1453 (X1423) := hI1448
            have q2643 := vt (hA1423.at_ 24 rfl _ rfl) rfl
            have q2644 := vt (hA1423.at_ 25 rfl _ rfl) rfl
            refine opg_taken (c := decide (0 < x32)) rfl rfl rfl rfl q2643 hc47 (op_load (v := (fieldPtr (Value.pointer (some ⟨g1, 0, none⟩)) 1)) (e := a0.Edges) rfl sh23 q2644 (((p1.mono (((le2.trans le3).trans le1245).trans le1453)).at_ I1473).fld Graph.fld1) (fun u324 hu324 => ?_))
            obtain ⟨z203, m203, k203, e420⟩ := rv_form hu324
            subst e420
            refine ⟨_, _, rfl, PH.Le.refl _, ?_, ?_⟩
            ·
             exact hu324
            ·
             exact I1473
           ·
            intro vs1448 f w1462 S1454 X1424 le1454 hA1424 hK1448 hI1449
            have I1474 : Inv w1462 S1454 (X1424) := hI1449
            have q2645 := vt (hA1424.at_ 24 rfl _ rfl) rfl
            refine opg_taken (c := decide (0 < x32)) rfl rfl rfl rfl q2645 hc47 (op_move (v := (Value.int .i64 ((i1 : Int)))) rfl ((hK1448 10 (keep_of rfl)).trans e381) ?_)
            refine ⟨_, _, rfl, PH.Le.refl _, ?_, ?_⟩
            ·
             exact rfl
            ·
             exact I1474
           ·
            intro vs1449 f w1463 S1455 X1425 le1455 hA1425 hK1449 hI1450
            have I1475 : Inv w1463 S1455 (X1425) := hI1450
            have q2646 := vt (hA1425.at_ 24 rfl _ rfl) rfl
            have q2647 : f 90 = vs1449 30 := (hA1425.at_ 26 rfl _ rfl).1 _ rfl
            have r126 : RV S1455 (vs1449 30) a0.Edges := (hA1425.at_ 26 rfl _ rfl).2
            obtain ⟨u325, hu325⟩ : ∃ u, vs1449 30 = u := ⟨_, rfl⟩
            rw [hu325] at q2647 r126
            obtain ⟨z204, m204, k204, e421⟩ := rv_form r126
            subst e421
            have q2648 := vt (hA1425.at_ 27 rfl _ rfl) rfl
            refine opg_taken (c := decide (0 < x32)) rfl rfl rfl rfl q2646 hc47 (op_indexAddr_rv (v := (Value.slice z204 m204 k204)) (i := (i1 : Int)) (e := x31) rfl Try.underlying23 sh40 q2647 r126 q2648 hx31 ?_)
            refine ⟨_, _, rfl, PH.Le.refl _, ?_, ?_⟩
            ·
             show (elemPtr (Value.slice z204 m204 k204) ((i1 : Int)) (Enc.sz (List Edge))) = (elemPtr (vs1449 30) ((i1 : Int)) (Enc.sz (List Edge)))
             simp only [hu325] <;> rfl
            ·
             exact I1475
           ·
            intro vs1450 f w1464 S1456 X1426 le1456 hA1426 hK1450 hI1451
            have I1476 : Inv w1464 S1456 (X1426) := hI1451
            have q2649 := vt (hA1426.at_ 24 rfl _ rfl) rfl
            have q2650 : f 90 = vs1450 30 := (hA1426.at_ 26 rfl _ rfl).1 _ rfl
            have r127 : RV S1456 (vs1450 30) a0.Edges := (hA1426.at_ 26 rfl _ rfl).2
            obtain ⟨u326, hu326⟩ : ∃ u, vs1450 30 = u := ⟨_, rfl⟩
            rw [hu326] at q2650 r127
            obtain ⟨z205, m205, k205, e422⟩ := rv_form r127
            subst e422
            have q2651 := vt (hA1426.at_ 27 rfl _ rfl) rfl
            have q2652 : f 92 = (elemPtr (vs1450 30) ((i1 : Int)) (Enc.sz (List Edge))) := vt (hA1426.at_ 28 rfl _ rfl) rfl
            simp only [hu326] at q2652
            have q2652 : f 92 = (elemPtr (Value.slice z205 m205 k205) ((i1 : Int)) (Enc.sz (List Edge))) := q2652
            refine opg_taken (c := decide (0 < x32)) rfl rfl rfl rfl q2649 hc47 (op_load (v := (elemPtr (Value.slice z205 m205 k205) ((i1 : Int)) (Enc.sz (List Edge)))) (e := x31) rfl sh40 q2652 (r127.elem I1476.in_ hx31) (fun u327 hu327 => ?_))
            obtain ⟨z206, m206, k206, e423⟩ := rv_form hu327
            subst e423
            refine ⟨_, _, rfl, PH.Le.refl _, ?_, ?_⟩
            ·
             exact hu327
            ·
             exact I1476
           ·
            intro vs1451 f w1465 S1457 X1427 le1457 hA1427 hK1451 hI1452
            have I1477 : Inv w1465 S1457 (X1427) := hI1452
            have q2653 := vt (hA1427.at_ 24 rfl _ rfl) rfl
            have q2654 : f 93 = vs1451 33 := (hA1427.at_ 29 rfl _ rfl).1 _ rfl
            have r128 : RV S1457 (vs1451 33) x31 := (hA1427.at_ 29 rfl _ rfl).2
            obtain ⟨u328, hu328⟩ : ∃ u, vs1451 33 = u := ⟨_, rfl⟩
            rw [hu328] at q2654 r128
            obtain ⟨z207, m207, k207, e424⟩ := rv_form r128
            subst e424
            refine opg_taken (c := decide (0 < x32)) rfl rfl rfl rfl q2653 hc47 (op_len_rv rfl Try.underlying40 q2654 r128 ?_)
            refine ⟨_, _, rfl, PH.Le.refl _, ?_, ?_⟩
            ·
             exact rfl
            ·
             exact I1477
           ·
            intro vs1452 f w1466 S1458 X1428 le1458 hA1428 hK1452 hI1453
            have I1478 : Inv w1466 S1458 (X1428) := hI1453
            have q2655 := vt (hA1428.at_ 24 rfl _ rfl) rfl
            have q2656 := vt (hA1428.at_ 28 rfl _ rfl) rfl
            have q2657 := vt (hA1428.at_ 34 rfl _ rfl) rfl
            refine opg_taken (c := decide (0 < x32)) rfl rfl rfl rfl q2655 hc47 (op_geq (a := x30) (b := (x31.length : Int)) rfl q2656 q2657 ?_)
            refine ⟨_, _, rfl, PH.Le.refl _, ?_, ?_⟩
            ·
             exact rfl
            ·
             exact I1478
           ·
            intro vs1453 f w1467 S1459 X1429 le1459 hA1429 hK1453 hI1454
            have I1479 : Inv w1467 S1459 (X1429) := hI1454
            have q2658 := vt (hA1429.at_ 18 rfl _ rfl) rfl
            have q2659 := vt (hA1429.at_ 24 rfl _ rfl) rfl
            have q2660 := vt (hA1429.at_ 35 rfl _ rfl) rfl
            refine opg_taken (c := decide ((x31.length : Int) < x30)) rfl rfl rfl rfl q2658 hc46 (op_pick_t (c := decide (0 < x32)) (a := (Value.bool (decide ((x31.length : Int) ≤ x30)))) rfl q2659 hc47 q2660 ?_)
            refine ⟨_, _, rfl, PH.Le.refl _, ?_, ?_⟩
            ·
             exact rfl
            ·
             exact I1479
           ·
            intro vs1454 f w1468 S1460 X1430 le1460 hA1430 hK1454 hI1455
            have I1480 : Inv w1468 S1460 (X1430) := hI1455
            have q2661 := vt (hA1430.at_ 18 rfl _ rfl) rfl
            have q2662 := vt (hA1430.at_ 36 rfl _ rfl) rfl
            refine opg_plain rfl rfl (op_pick_f (c := decide ((x31.length : Int) < x30)) (b := (Value.bool (decide ((x31.length : Int) ≤ x30)))) rfl q2661 hc46 q2662 ?_)
            refine ⟨_, _, rfl, PH.Le.refl _, ?_, ?_⟩
            ·
             exact rfl
            ·
             exact I1480
           ·
            intro vs1455 f w1469 S1461 X1431 le1461 hA1431 hK1455 hI1456
            have I1481 : Inv w1469 S1461 (X1431) := hI1456
            have q2663 := vt (hA1431.at_ 37 rfl _ rfl) rfl
            refine opg_plain rfl rfl (op_move (v := (Value.bool (decide ((x31.length : Int) ≤ x30)))) rfl q2663 ?_)
            refine ⟨_, _, rfl, PH.Le.refl _, ?_, ?_⟩
            ·
             exact rfl
            ·
             exact I1481
           ·
            intro vs1456 f w1470 S1462 X1432 le1462 hA1432 hK1456 hI1457
            have I1482 : Inv w1470 S1462 (X1432) := hI1457
            have q2664 := vt (hA1432.at_ 38 rfl _ rfl) rfl
            refine opg_taken (c := decide ((x31.length : Int) ≤ x30)) rfl rfl rfl rfl q2664 hc48 (op_move (v := (Value.slice z3 m3 k3)) rfl ((hK1456 1 (keep_of rfl)).trans e376) ?_)
            refine ⟨_, _, rfl, PH.Le.refl _, ?_, ?_⟩
            ·
             exact rfl
            ·
             exact I1482
           ·
            intro vs1457 f w1471 S1463 X1433 le1463 hA1433 hK1457 hI1458
            have I1483 : Inv w1471 S1463 (X1433) := hI1458
            have q2665 := vt (hA1433.at_ 38 rfl _ rfl) rfl
            refine opg_taken (c := decide ((x31.length : Int) ≤ x30)) rfl rfl rfl rfl q2665 hc48 (op_move (v := (Value.int .i64 ((i1 : Int)))) rfl ((hK1457 10 (keep_of rfl)).trans e381) ?_)
            refine ⟨_, _, rfl, PH.Le.refl _, ?_, ?_⟩
            ·
             exact rfl
            ·
             exact I1483
           ·
            intro vs1458 f w1472 S1464 X1434 le1464 hA1434 hK1458 hI1459
            have I1484 : Inv w1472 S1464 (X1434) := hI1459
            have q2666 := vt (hA1434.at_ 38 rfl _ rfl) rfl
            have q2667 := vt (hA1434.at_ 39 rfl _ rfl) rfl
            have q2668 := vt (hA1434.at_ 40 rfl _ rfl) rfl
            refine opg_taken (c := decide ((x31.length : Int) ≤ x30)) rfl rfl rfl rfl q2666 hc48 (op_indexAddr_rv (v := (Value.slice z3 m3 k3)) (i := (i1 : Int)) (e := x32) rfl Try.underlying26 sh3 q2667 (h1_.mono ((((le1.trans le2).trans le3).trans le1245).trans le1464)) q2668 hx32 ?_)
            refine ⟨_, _, rfl, PH.Le.refl _, ?_, ?_⟩
            ·
             exact rfl
            ·
             exact I1484
           ·
            intro vs1459 f w1473 S1465 X1435 le1465 hA1435 hK1459 hI1460
            have I1485 : Inv w1473 S1465 (X1435) := hI1460
            have q2669 := vt (hA1435.at_ 38 rfl _ rfl) rfl
            have q2670 := vt (hA1435.at_ 41 rfl _ rfl) rfl
            refine opg_taken (c := decide ((x31.length : Int) ≤ x30)) rfl rfl rfl rfl q2669 hc48 (op_load_int (v := (elemPtr (Value.slice z3 m3 k3) ((i1 : Int)) (Enc.sz Int))) (e := x32) rfl sh3 q2670 ((h1_.mono ((((le1.trans le2).trans le3).trans le1245).trans le1465)).elem I1485.in_ hx32) ?_)
            refine ⟨_, _, rfl, PH.Le.refl _, ?_, ?_⟩
            ·
             exact rfl
            ·
             exact I1485
           ·
            intro vs1460 f w1474 S1466 X1436 le1466 hA1436 hK1460 hI1461
            have I1486 : Inv w1474 S1466 (X1436) := hI1461
            have q2671 := vt (hA1436.at_ 38 rfl _ rfl) rfl
            have q2672 := vt (hA1436.at_ 42 rfl _ rfl) rfl
            refine opg_taken (c := decide ((x31.length : Int) ≤ x30)) rfl rfl rfl rfl q2671 hc48 (op_leq (a := x32) (b := 0) rfl q2672 rfl ?_)
            refine ⟨_, _, rfl, PH.Le.refl _, ?_, ?_⟩
            ·
             exact rfl
            ·
             exact I1486
           ·
            intro vs1461 f w1475 S1467 X1437 le1467 hA1437 hK1461 hI1462
            have I1487 : Inv w1475 S1467 (X1437) := hI1462
            have q2673 := vt (hA1437.at_ 38 rfl _ rfl) rfl
            have q2674 := vt (hA1437.at_ 43 rfl _ rfl) rfl
            refine opg_taken (c := decide ((x31.length : Int) ≤ x30)) rfl rfl rfl rfl q2673 hc48 (op_move (v := (Value.bool (decide (x32 ≤ 0)))) rfl q2674 ?_)
            refine ⟨_, _, rfl, PH.Le.refl _, ?_, ?_⟩
            ·
             exact rfl
            ·
             exact I1487
           ·
            intro vs1462 f w1476 S1468 X1438 le1468 hA1438 hK1462 hI1463
            have I1488 : Inv w1476 S1468 (X1438) := hI1463
            have q2675 := vt (hA1438.at_ 44 rfl _ rfl) rfl
            refine opg_taken (c := decide (x32 ≤ 0)) rfl rfl rfl rfl q2675 hc49 (op_move (v := (Value.slice z17 m17 k17)) rfl ((hK1462 7 (keep_of rfl)).trans e379) ?_)
            refine ⟨_, _, rfl, PH.Le.refl _, ?_, ?_⟩
            ·
             exact rfl
            ·
             exact I1488
           ·
            intro vs1463 f w1477 S1469 X1439 le1469 hA1439 hK1463 hI1464
            have I1489 : Inv w1477 S1469 (X1439) := hI1464
            have q2676 := vt (hA1439.at_ 44 rfl _ rfl) rfl
            refine opg_taken (c := decide (x32 ≤ 0)) rfl rfl rfl rfl q2676 hc49 (op_move (v := (Value.int .i64 ((i1 : Int)))) rfl ((hK1463 10 (keep_of rfl)).trans e381) ?_)
            refine ⟨_, _, rfl, PH.Le.refl _, ?_, ?_⟩
            ·
             exact rfl
            ·
             exact I1489
           ·
            intro vs1464 f w1478 S1470 X1440 le1470 hA1440 hK1464 hI1465
            have I1490 : Inv w1478 S1470 (Row (α := Int) 3 (Value.slice z17 m17 k17) (x10.1) :: X1440) := hI1465
            have q2677 := vt (hA1440.at_ 44 rfl _ rfl) rfl
            have q2678 := vt (hA1440.at_ 45 rfl _ rfl) rfl
            have q2679 := vt (hA1440.at_ 46 rfl _ rfl) rfl
            refine opg_taken (c := decide (x32 ≤ 0)) rfl rfl rfl rfl q2677 hc49 (op_indexAddr_src (v := (Value.slice z17 m17 k17)) (i := (i1 : Int)) (e := x30) rfl Try.underlying26 sh3 q2678 (Inv.rowSrc (I1490.nth 0 rfl)) q2679 hx30 ?_)
            refine ⟨_, _, rfl, PH.Le.refl _, ?_, ?_⟩
            ·
             exact rfl
            ·
             exact I1490
           ·
            intro vs1465 f w1479 S1471 X1441 le1471 hA1441 hK1465 hI1466
            have I1491 : Inv w1479 S1471 (Row (α := Int) 3 (Value.slice z17 m17 k17) (x10.1) :: X1441) := hI1466
            have q2680 := vt (hA1441.at_ 44 rfl _ rfl) rfl
            have q2681 := vt (hA1441.at_ 47 rfl _ rfl) rfl
            refine opg_taken (c := decide (x32 ≤ 0)) rfl rfl rfl rfl q2680 hc49 (op_load_int (v := (elemPtr (Value.slice z17 m17 k17) ((i1 : Int)) (Enc.sz Int))) (e := x30) rfl sh3 q2681 ((I1491.nth 0 rfl).rowElem hx30) ?_)
            refine ⟨_, _, rfl, PH.Le.refl _, ?_, ?_⟩
            ·
             exact rfl
            ·
             exact I1491
           ·
            intro vs1466 f w1480 S1472 X1442 le1472 hA1442 hK1466 hI1467
            have I1492 : Inv w1480 S1472 (X1442) := hI1467
            have q2682 := vt (hA1442.at_ 44 rfl _ rfl) rfl
            refine opg_taken (c := decide (x32 ≤ 0)) rfl rfl rfl rfl q2682 hc49 (op_fieldAddr_t (v := (Value.pointer (some ⟨g1, 0, none⟩))) rfl fa25_1 ((hK1466 2 (keep_of rfl)).trans e377) ((p1.mono (((le2.trans le3).trans le1245).trans le1472)).at_ I1492) ?_)
            refine ⟨_, _, rfl, PH.Le.refl _, ?_, ?_⟩
            ·
             exact rfl
            ·
             exact I1492
           ·
            intro vs1467 f w1481 S1473 X1443 le1473 hA1443 hK1467 hI1468
            have I1493 : Inv w1481 S1473 (X1443) := hI1468
            have q2683 := vt (hA1443.at_ 44 rfl _ rfl) rfl
            have q2684 := vt (hA1443.at_ 45 rfl _ rfl) rfl
            refine opg_taken (c := decide (x32 ≤ 0)) rfl rfl rfl rfl q2683 hc49 (op_load (v := (fieldPtr (Value.pointer (some ⟨g1, 0, none⟩)) 1)) (e := a0.Edges) rfl sh23 q2684 (((p1.mono (((le2.trans le3).trans le1245).trans le1473)).at_ I1493).fld Graph.fld1) (fun u329 hu329 => ?_))
            obtain ⟨z208, m208, k208, e425⟩ := rv_form hu329
            subst e425
            refine ⟨_, _, rfl, PH.Le.refl _, ?_, ?_⟩
            ·
             exact hu329
            ·
             exact I1493
           ·
            intro vs1468 f w1482 S1474 X1444 le1474 hA1444 hK1468 hI1469
            have I1494 : Inv w1482 S1474 (X1444) := hI1469
            have q2685 := vt (hA1444.at_ 44 rfl _ rfl) rfl
            refine opg_taken (c := decide (x32 ≤ 0)) rfl rfl rfl rfl q2685 hc49 (op_move (v := (Value.int .i64 ((i1 : Int)))) rfl ((hK1468 10 (keep_of rfl)).trans e381) ?_)
            refine ⟨_, _, rfl, PH.Le.refl _, ?_, ?_⟩
            ·
             exact rfl
            ·
             exact I1494
           ·
            intro vs1469 f w1483 S1475 X1445 le1475 hA1445 hK1469 hI1470
            have I1495 : Inv w1483 S1475 (X1445) := hI1470
            have q2686 := vt (hA1445.at_ 44 rfl _ rfl) rfl
            have q2687 : f 110 = vs1469 50 := (hA1445.at_ 46 rfl _ rfl).1 _ rfl
            have r129 : RV S1475 (vs1469 50) a0.Edges := (hA1445.at_ 46 rfl _ rfl).2
            obtain ⟨u330, hu330⟩ : ∃ u, vs1469 50 = u := ⟨_, rfl⟩
            rw [hu330] at q2687 r129
            obtain ⟨z209, m209, k209, e426⟩ := rv_form r129
            subst e426
            have q2688 := vt (hA1445.at_ 47 rfl _ rfl) rfl
            refine opg_taken (c := decide (x32 ≤ 0)) rfl rfl rfl rfl q2686 hc49 (op_indexAddr_rv (v := (Value.slice z209 m209 k209)) (i := (i1 : Int)) (e := x31) rfl Try.underlying23 sh40 q2687 r129 q2688 hx31 ?_)
            refine ⟨_, _, rfl, PH.Le.refl _, ?_, ?_⟩
            ·
             show (elemPtr (Value.slice z209 m209 k209) ((i1 : Int)) (Enc.sz (List Edge))) = (elemPtr (vs1469 50) ((i1 : Int)) (Enc.sz (List Edge)))
             simp only [hu330] <;> rfl
            ·
             exact I1495
           ·
            intro vs1470 f w1484 S1476 X1446 le1476 hA1446 hK1470 hI1471
            have I1496 : Inv w1484 S1476 (X1446) := hI1471
            have q2689 := vt (hA1446.at_ 44 rfl _ rfl) rfl
            have q2690 : f 110 = vs1470 50 := (hA1446.at_ 46 rfl _ rfl).1 _ rfl
            have r130 : RV S1476 (vs1470 50) a0.Edges := (hA1446.at_ 46 rfl _ rfl).2
            obtain ⟨u331, hu331⟩ : ∃ u, vs1470 50 = u := ⟨_, rfl⟩
            rw [hu331] at q2690 r130
            obtain ⟨z210, m210, k210, e427⟩ := rv_form r130
            subst e427
            have q2691 := vt (hA1446.at_ 47 rfl _ rfl) rfl
            have q2692 : f 112 = (elemPtr (vs1470 50) ((i1 : Int)) (Enc.sz (List Edge))) := vt (hA1446.at_ 48 rfl _ rfl) rfl
            simp only [hu331] at q2692
            have q2692 : f 112 = (elemPtr (Value.slice z210 m210 k210) ((i1 : Int)) (Enc.sz (List Edge))) := q2692
            refine opg_taken (c := decide (x32 ≤ 0)) rfl rfl rfl rfl q2689 hc49 (op_load (v := (elemPtr (Value.slice z210 m210 k210) ((i1 : Int)) (Enc.sz (List Edge)))) (e := x31) rfl sh40 q2692 (r130.elem I1496.in_ hx31) (fun u332 hu332 => ?_))
            obtain ⟨z211, m211, k211, e428⟩ := rv_form hu332
            subst e428
            refine ⟨_, _, rfl, PH.Le.refl _, ?_, ?_⟩
            ·
             exact hu332
            ·
             exact I1496
           ·
            intro vs1471 f w1485 S1477 X1447 le1477 hA1447 hK1471 hI1472
            have I1497 : Inv w1485 S1477 (X1447) := hI1472
            have q2693 := vt (hA1447.at_ 44 rfl _ rfl) rfl
            have q2694 : f 113 = vs1471 53 := (hA1447.at_ 49 rfl _ rfl).1 _ rfl
            have r131 : RV S1477 (vs1471 53) x31 := (hA1447.at_ 49 rfl _ rfl).2
            obtain ⟨u333, hu333⟩ : ∃ u, vs1471 53 = u := ⟨_, rfl⟩
            rw [hu333] at q2694 r131
            obtain ⟨z212, m212, k212, e429⟩ := rv_form r131
            subst e429
            refine opg_taken (c := decide (x32 ≤ 0)) rfl rfl rfl rfl q2693 hc49 (op_len_rv rfl Try.underlying40 q2694 r131 ?_)
            refine ⟨_, _, rfl, PH.Le.refl _, ?_, ?_⟩
            ·
             exact rfl
            ·
             exact I1497
           ·
            intro vs1472 f w1486 S1478 X1448 le1478 hA1448 hK1472 hI1473
            have I1498 : Inv w1486 S1478 (X1448) := hI1473
            have q2695 := vt (hA1448.at_ 44 rfl _ rfl) rfl
            have q2696 := vt (hA1448.at_ 48 rfl _ rfl) rfl
            have q2697 := vt (hA1448.at_ 54 rfl _ rfl) rfl
            refine opg_taken (c := decide (x32 ≤ 0)) rfl rfl rfl rfl q2695 hc49 (op_neq (a := x30) (b := (x31.length : Int)) rfl q2696 q2697 ?_)
            refine ⟨_, _, rfl, PH.Le.refl _, ?_, ?_⟩
            ·
             exact rfl
            ·
             exact I1498
           ·
            intro vs1473 f w1487 S1479 X1449 le1479 hA1449 hK1473 hI1474
            have I1499 : Inv w1487 S1479 (X1449) := hI1474
            have q2698 := vt (hA1449.at_ 38 rfl _ rfl) rfl
            have q2699 := vt (hA1449.at_ 44 rfl _ rfl) rfl
            have q2700 := vt (hA1449.at_ 55 rfl _ rfl) rfl
            refine opg_taken (c := decide ((x31.length : Int) ≤ x30)) rfl rfl rfl rfl q2698 hc48 (op_pick_t (c := decide (x32 ≤ 0)) (a := (Value.bool (x30 != (x31.length : Int)))) rfl q2699 hc49 q2700 ?_)
            refine ⟨_, _, rfl, PH.Le.refl _, ?_, ?_⟩
            ·
             exact rfl
            ·
             exact I1499
           ·
            intro vs1474 f w1488 S1480 X1450 le1480 hA1450 hK1474 hI1475
            have I1500 : Inv w1488 S1480 (X1450) := hI1475
            have q2701 := vt (hA1450.at_ 38 rfl _ rfl) rfl
            have q2702 := vt (hA1450.at_ 56 rfl _ rfl) rfl
            refine opg_plain rfl rfl (op_pick_f (c := decide ((x31.length : Int) ≤ x30)) (b := (Value.bool (x30 != (x31.length : Int)))) rfl q2701 hc48 q2702 ?_)
            refine ⟨_, _, rfl, PH.Le.refl _, ?_, ?_⟩
            ·
             exact rfl
            ·
             exact I1500
           ·
            intro vs1475 f w1489 S1481 le1481 hF25 hK1475 hI1476
            have e430 : f 1 = (Value.slice z3 m3 k3) := (hK1475 1 (keep_all rfl)).trans e376
            have e431 : f 2 = (Value.pointer (some ⟨g1, 0, none⟩)) := (hK1475 2 (keep_all rfl)).trans e377
            have e432 : f 5 = (Value.slice z14 m14 k14) := (hK1475 5 (keep_all rfl)).trans e378
            have e433 : f 7 = (Value.slice z17 m17 k17) := (hK1475 7 (keep_all rfl)).trans e379
            have e434 : f 9 = (Value.int .i64 (v10)) := (hK1475 9 (keep_all rfl)).trans e380
            have e435 : f 10 = (Value.int .i64 ((i1 : Int))) := (hK1475 10 (keep_all rfl)).trans e381
            have I1501 : Inv w1489 S1481 (Row (α := Int) 3 (Value.slice z17 m17 k17) (x10.1) :: Row (α := Int) 3 (Value.slice z14 m14 k14) (x9.1) :: Fr) := hI1476
            have q2703 := vt (hF25.at_ 57 rfl _ rfl) rfl
            rcases ifs h22 with ⟨hc50, h22⟩ | ⟨hc50, h22⟩
            ·
             refine wp_cond_t (b := x30 != (x31.length : Int)) q2703 hc50 ?_
             refine wp_seq' ?_
             refine wp_region' ?_
             refine wl_op rfl (op_assign (v := (Value.bool (false))) rfl rfl ?_)
             refine wl_nil ?_
             refine wp_ret' ?_
             obtain rfl := Option.some.inj h22
             obtain rfl := (hout1 _ rfl)
             have h23 := h
             obtain rfl := Option.some.inj h23
             exact ⟨(Value.bool (false)), (res1 rfl rfl), _, [], ((((le1.trans le2).trans le3).trans le1245).trans le1481), ((I1501).drop).drop, rfl, rfl⟩
            ·
             refine wp_cond_f (b := x30 != (x31.length : Int)) q2703 hc50 ?_
             refine wp_skip' ?_
             refine wp_region' ?_
             refine wl_op rfl (op_move (v := (Value.int .i64 ((i1 : Int)))) rfl e435 ?_)
             refine wl_op rfl (op_add (a := (i1 : Int)) (b := 1) rfl rfl rfl ?_)
             refine wl_op rfl (op_assign (v := (Value.int .i64 (w64 ((i1 : Int) + 1)))) rfl rfl ?_)
             refine wl_nil ?_
             obtain rfl := Option.some.inj h22
             exact ⟨_, rfl, _, (le1245.trans le1481), (I1501.pull 1), e430, e431, e432, e433, e434, (idx_next hlt1 hk1)⟩
          ·
           refine wp_draw (sps := [spV 60 [] 0 (Value.slice z17 m17 k17), ⟨some 61, [0], [1], fun vs_ T_ => fr0 vs_ 0 = (Value.int .i64 ((x10.1.length : Int))), [0], [], [], fun _ h_ => h_⟩, spV 62 [] 2 (Value.slice z3 m3 k3), spV 63 [2] 3 (Value.int .i64 ((a1.length : Int))), spV 64 [0, 1, 2, 3] 4 (Value.bool ((x10.1.length : Int) != (a1.length : Int))), spV 65 [0, 1, 2, 3, 4] 5 (Value.bool ((x10.1.length : Int) != (a1.length : Int))), spV 66 (List.range 6) 6 (Value.slice z17 m17 k17), spV 67 (List.range 6) 7 (Value.int .i64 ((i1 : Int))), ⟨some 68, (List.range 8), [8], fun vs_ T_ => fr0 vs_ 0 = (elemPtr (Value.slice z17 m17 k17) ((i1 : Int)) (Enc.sz Int)), [0], [], [], fun _ h_ => h_⟩, ⟨some 69, (List.range 9), [9], fun vs_ T_ => fr0 vs_ 0 = (Value.int .i64 (x30)), [0], [], [], fun _ h_ => h_⟩, ⟨some 70, (List.range 6), [10], fun vs_ T_ => fr0 vs_ 0 = (fieldPtr (Value.pointer (some ⟨g1, 0, none⟩)) 1), [], [], [], fun _ h_ => h_⟩, ⟨some 71, (List.range 6 ++ [10]), [11], fun vs_ T_ => RV T_ (fr0 vs_ 0) a0.Edges, [], [], [], fun hle_ h_ => h_.mono hle_⟩, spV 72 (List.range 6) 12 (Value.int .i64 ((i1 : Int))), ⟨some 73, (List.range 6 ++ [10, 11, 12]), [13, 11], fun vs_ T_ => fr0 vs_ 0 = (elemPtr (fr0 vs_ 1) ((i1 : Int)) (Enc.sz (List Edge))), [], [], [], fun _ h_ => h_⟩, ⟨some 74, (List.range 6 ++ [10, 11, 12, 13]), [14], fun vs_ T_ => RV T_ (fr0 vs_ 0) x31, [], [], [], fun hle_ h_ => h_.mono hle_⟩, spV 75 (List.range 6 ++ [10, 11, 12, 13, 14]) 15 (Value.int .i64 ((x31.length : Int))), spV 76 (List.range 16) 16 (Value.bool (decide ((x31.length : Int) < x30))), spV 77 (List.range 17) 17 (Value.bool (decide ((x31.length : Int) < x30))), spV 78 (List.range 18) 18 (Value.bool (decide ((x31.length : Int) < x30))), spV 79 (List.range 19) 19 (Value.slice z3 m3 k3), spV 80 (List.range 19) 20 (Value.int .i64 ((i1 : Int))), spV 81 (List.range 21) 21 (elemPtr (Value.slice z3 m3 k3) ((i1 : Int)) (Enc.sz Int)), spV 82 (List.range 22) 22 (Value.int .i64 (x32)), spV 83 (List.range 23) 23 (Value.bool (decide (0 < x32))), spV 84 (List.range 24) 24 (Value.bool (decide (0 < x32))), spV 85 (List.range 25) 25 (Value.slice z17 m17 k17), spV 86 (List.range 25) 26 (Value.int .i64 ((i1 : Int))), ⟨some 87, (List.range 27), [27], fun vs_ T_ => fr0 vs_ 0 = (elemPtr (Value.slice z17 m17 k17) ((i1 : Int)) (Enc.sz Int)), [0], [], [], fun _ h_ => h_⟩, ⟨some 88, (List.range 28), [28], fun vs_ T_ => fr0 vs_ 0 = (Value.int .i64 (x30)), [0], [], [], fun _ h_ => h_⟩, ⟨some 89, (List.range 25), [29], fun vs_ T_ => fr0 vs_ 0 = (fieldPtr (Value.pointer (some ⟨g1, 0, none⟩)) 1), [], [], [], fun _ h_ => h_⟩, ⟨some 90, (List.range 25 ++ [29]), [30], fun vs_ T_ => RV T_ (fr0 vs_ 0) a0.Edges, [], [], [], fun hle_ h_ => h_.mono hle_⟩, spV 91 (List.range 25) 31 (Value.int .i64 ((i1 : Int))), ⟨some 92, (List.range 25 ++ [29, 30, 31]), [32, 30], fun vs_ T_ => fr0 vs_ 0 = (elemPtr (fr0 vs_ 1) ((i1 : Int)) (Enc.sz (List Edge))), [], [], [], fun _ h_ => h_⟩, ⟨some 93, (List.range 25 ++ [29, 30, 31, 32]), [33], fun vs_ T_ => RV T_ (fr0 vs_ 0) x31, [], [], [], fun hle_ h_ => h_.mono hle_⟩, spV 94 (List.range 25 ++ [29, 30, 31, 32, 33]) 34 (Value.int .i64 ((x31.length : Int))), spV 95 (List.range 35) 35 (Value.bool (decide ((x31.length : Int) ≤ x30))), spV 96 (List.range 36) 36 (Value.bool (decide ((x31.length : Int) ≤ x30))), spV 97 (List.range 37) 37 (Value.bool (decide ((x31.length : Int) ≤ x30))), spV 98 (List.range 38) 38 (Value.bool (decide ((x31.length : Int) ≤ x30))), spV 99 (List.range 39) 39 (Value.slice z3 m3 k3), spV 100 (List.range 39) 40 (Value.int .i64 ((i1 : Int))), spV 101 (List.range 41) 41 (elemPtr (Value.slice z3 m3 k3) ((i1 : Int)) (Enc.sz Int)), spV 102 (List.range 42) 42 (Value.int .i64 (x32)), spV 103 (List.range 43) 43 (Value.bool (decide (x32 ≤ 0))), spV 104 (List.range 44) 44 (Value.bool (decide (x32 ≤ 0))), spV 105 (List.range 45) 45 undef, spV 106 (List.range 45) 46 undef, spV 107 (List.range 47) 47 undef, spV 108 (List.range 48) 48 undef, spV 109 (List.range 45) 49 undef, spV 110 (List.range 45 ++ [49]) 50 undef, spV 111 (List.range 45) 51 undef, spV 112 (List.range 45 ++ [49, 50, 51]) 52 undef, spV 113 (List.range 45 ++ [49, 50, 51, 52]) 53 undef, spV 114 (List.range 45 ++ [49, 50, 51, 52, 53]) 54 undef, spV 115 (List.range 55) 55 undef, spV 116 (List.range 56) 56 (Value.bool (false)), spV 117 (List.range 57) 57 (Value.bool (false))]) (tks := [⟨none, none, [], fun vs_ => Row (α := Int) 3 (Value.slice z17 m17 k17) (x10.1)⟩]) (O := Row (α := Int) 3 (Value.slice z14 m14 k14) (x9.1) :: Fr) rfl (by kernel_rfl) (I1265.pull 1) ⟨?_, ?_, ?_, ?_, ?_, ?_, ?_, ?_, ?_, ?_, ?_, ?_, ?_, ?_, ?_, ?_, ?_, ?_, ?_, ?_, ?_, ?_, ?_, ?_, ?_, ?_, ?_, ?_, ?_, ?_, ?_, ?_, ?_, ?_, ?_, ?_, ?_, ?_, ?_, ?_, ?_, ?_, ?_, ?_, ?_, ?_, ?_, ?_, ?_, ?_, ?_, ?_, ?_, ?_, ?_, ?_, ?_, ?_, trivial⟩ ?_
           ·
            intro vs1476 f w1490 S1482 X1451 le1482 hA1451 hK1476 hI1477
            have I1502 : Inv w1490 S1482 (X1451) := hI1477
            refine opg_plain rfl rfl (op_move (v := (Value.slice z17 m17 k17)) rfl ((hK1476 7 (keep_of rfl)).trans e379) ?_)
            refine ⟨_, _, rfl, PH.Le.refl _, ?_, ?_⟩
            ·
             exact rfl
            ·
             exact I1502
           ·
            intro vs1477 f w1491 S1483 X1452 le1483 hA1452 hK1477 hI1478
            have I1503 : Inv w1491 S1483 (Row (α := Int) 3 (Value.slice z17 m17 k17) (x10.1) :: X1452) := hI1478
            have q2704 := vt (hA1452.at_ 0 rfl _ rfl) rfl
            refine opg_plain rfl rfl (op_len_row (α := Int) rfl Try.underlying26 q2704 (I1503.nth 0 rfl) ?_)
            refine ⟨_, _, rfl, PH.Le.refl _, ?_, ?_⟩
            ·
             exact rfl
            ·
             exact I1503
           ·
            intro vs1478 f w1492 S1484 X1453 le1484 hA1453 hK1478 hI1479
            have I1504 : Inv w1492 S1484 (X1453) := hI1479
            refine opg_plain rfl rfl (op_move (v := (Value.slice z3 m3 k3)) rfl ((hK1478 1 (keep_of rfl)).trans e376) ?_)
            refine ⟨_, _, rfl, PH.Le.refl _, ?_, ?_⟩
            ·
             exact rfl
            ·
             exact I1504
           ·
            intro vs1479 f w1493 S1485 X1454 le1485 hA1454 hK1479 hI1480
            have I1505 : Inv w1493 S1485 (X1454) := hI1480
            have q2705 := vt (hA1454.at_ 0 rfl _ rfl) rfl
            refine opg_plain rfl rfl (op_len_rv rfl Try.underlying26 q2705 (h1_.mono ((((le1.trans le2).trans le3).trans le1245).trans le1485)) ?_)
            refine ⟨_, _, rfl, PH.Le.refl _, ?_, ?_⟩
            ·
             exact rfl
            ·
             exact I1505
           ·
            intro vs1480 f w1494 S1486 X1455 le1486 hA1455 hK1480 hI1481
            have I1506 : Inv w1494 S1486 (X1455) := hI1481
            have q2706 := vt (hA1455.at_ 1 rfl _ rfl) rfl
            have q2707 := vt (hA1455.at_ 3 rfl _ rfl) rfl
            refine opg_plain rfl rfl (op_neq (a := (x10.1.length : Int)) (b := (a1.length : Int)) rfl q2706 q2707 ?_)
            refine ⟨_, _, rfl, PH.Le.refl _, ?_, ?_⟩
            ·
             exact rfl
            ·
             exact I1506
           ·
            intro vs1481 f w1495 S1487 X1456 le1487 hA1456 hK1481 hI1482
            have I1507 : Inv w1495 S1487 (X1456) := hI1482
            have q2708 := vt (hA1456.at_ 4 rfl _ rfl) rfl
            refine opg_plain rfl rfl (op_move (v := (Value.bool ((x10.1.length : Int) != (a1.length : Int)))) rfl q2708 ?_)
            refine ⟨_, _, rfl, PH.Le.refl _, ?_, ?_⟩
            ·
             exact rfl
            ·
             exact I1507
           ·
            intro vs1482 f w1496 S1488 X1457 le1488 hA1457 hK1482 hI1483
            have I1508 : Inv w1496 S1488 (X1457) := hI1483
            have q2709 := vt (hA1457.at_ 5 rfl _ rfl) rfl
            refine opg_taken (c := (x10.1.length : Int) != (a1.length : Int)) rfl rfl rfl rfl q2709 hc45 (op_move (v := (Value.slice z17 m17 k17)) rfl ((hK1482 7 (keep_of rfl)).trans e379) ?_)
            refine ⟨_, _, rfl, PH.Le.refl _, ?_, ?_⟩
            ·
             exact rfl
            ·
             exact I1508
           ·
            intro vs1483 f w1497 S1489 X1458 le1489 hA1458 hK1483 hI1484
            have I1509 : Inv w1497 S1489 (X1458) := hI1484
            have q2710 := vt (hA1458.at_ 5 rfl _ rfl) rfl
            refine opg_taken (c := (x10.1.length : Int) != (a1.length : Int)) rfl rfl rfl rfl q2710 hc45 (op_move (v := (Value.int .i64 ((i1 : Int)))) rfl ((hK1483 10 (keep_of rfl)).trans e381) ?_)
            refine ⟨_, _, rfl, PH.Le.refl _, ?_, ?_⟩
            ·
             exact rfl
            ·
             exact I1509
           ·
            intro vs1484 f w1498 S1490 X1459 le1490 hA1459 hK1484 hI1485
            have I1510 : Inv w1498 S1490 (Row (α := Int) 3 (Value.slice z17 m17 k17) (x10.1) :: X1459) := hI1485
            have q2711 := vt (hA1459.at_ 5 rfl _ rfl) rfl
            have q2712 := vt (hA1459.at_ 6 rfl _ rfl) rfl
            have q2713 := vt (hA1459.at_ 7 rfl _ rfl) rfl
            refine opg_taken (c := (x10.1.length : Int) != (a1.length : Int)) rfl rfl rfl rfl q2711 hc45 (op_indexAddr_src (v := (Value.slice z17 m17 k17)) (i := (i1 : Int)) (e := x30) rfl Try.underlying26 sh3 q2712 (Inv.rowSrc (I1510.nth 0 rfl)) q2713 hx30 ?_)
            refine ⟨_, _, rfl, PH.Le.refl _, ?_, ?_⟩
            ·
             exact rfl
            ·
             exact I1510
           ·
            intro vs1485 f w1499 S1491 X1460 le1491 hA1460 hK1485 hI1486
            have I1511 : Inv w1499 S1491 (Row (α := Int) 3 (Value.slice z17 m17 k17) (x10.1) :: X1460) := hI1486
            have q2714 := vt (hA1460.at_ 5 rfl _ rfl) rfl
            have q2715 := vt (hA1460.at_ 8 rfl _ rfl) rfl
            refine opg_taken (c := (x10.1.length : Int) != (a1.length : Int)) rfl rfl rfl rfl q2714 hc45 (op_load_int (v := (elemPtr (Value.slice z17 m17 k17) ((i1 : Int)) (Enc.sz Int))) (e := x30) rfl sh3 q2715 ((I1511.nth 0 rfl).rowElem hx30) ?_)
            refine ⟨_, _, rfl, PH.Le.refl _, ?_, ?_⟩
            ·
             exact rfl
            ·
             exact I1511
           ·
            intro vs1486 f w1500 S1492 X1461 le1492 hA1461 hK1486 hI1487
            have I1512 : Inv w1500 S1492 (X1461) := hI1487
            have q2716 := vt (hA1461.at_ 5 rfl _ rfl) rfl
            refine opg_taken (c := (x10.1.length : Int) != (a1.length : Int)) rfl rfl rfl rfl q2716 hc45 (op_fieldAddr_t (v := (Value.pointer (some ⟨g1, 0, none⟩))) rfl fa25_1 ((hK1486 2 (keep_of rfl)).trans e377) ((p1.mono (((le2.trans le3).trans le1245).trans le1492)).at_ I1512) ?_)
            refine ⟨_, _, rfl, PH.Le.refl _, ?_, ?_⟩
            ·
             exact rfl
            ·
             exact I1512
           ·
            intro vs1487 f w1501 S1493 X1462 le1493 hA1462 hK1487 hI1488
            have I1513 : Inv w1501 S1493 (X1462) := hI1488
            have q2717 := vt (hA1462.at_ 5 rfl _ rfl) rfl
            have q2718 := vt (hA1462.at_ 6 rfl _ rfl) rfl
            refine opg_taken (c := (x10.1.length : Int) != (a1.length : Int)) rfl rfl rfl rfl q2717 hc45 (op_load (v := (fieldPtr (Value.pointer (some ⟨g1, 0, none⟩)) 1)) (e := a0.Edges) rfl sh23 q2718 (((p1.mono (((le2.trans le3).trans le1245).trans le1493)).at_ I1513).fld Graph.fld1) (fun u338 hu338 => ?_))
            obtain ⟨z213, m213, k213, e436⟩ := rv_form hu338
            subst e436
            refine ⟨_, _, rfl, PH.Le.refl _, ?_, ?_⟩
            ·
             exact hu338
            ·
             exact I1513
           ·
            intro vs1488 f w1502 S1494 X1463 le1494 hA1463 hK1488 hI1489
            have I1514 : Inv w1502 S1494 (X1463) := hI1489
            have q2719 := vt (hA1463.at_ 5 rfl _ rfl) rfl
            refine opg_taken (c := (x10.1.length : Int) != (a1.length : Int)) rfl rfl rfl rfl q2719 hc45 (op_move (v := (Value.int .i64 ((i1 : Int)))) rfl ((hK1488 10 (keep_of rfl)).trans e381) ?_)
            refine ⟨_, _, rfl, PH.Le.refl _, ?_, ?_⟩
            ·
             exact rfl
            ·
             exact I1514
           ·
            intro vs1489 f w1503 S1495 X1464 le1495 hA1464 hK1489 hI1490
            have I1515 : Inv w1503 S1495 (X1464) := hI1490
            have q2720 := vt (hA1464.at_ 5 rfl _ rfl) rfl
            have q2721 : f 71 = vs1489 11 := (hA1464.at_ 7 rfl _ rfl).1 _ rfl
            have r132 : RV S1495 (vs1489 11) a0.Edges := (hA1464.at_ 7 rfl _ rfl).2
            obtain ⟨u339, hu339⟩ : ∃ u, vs1489 11 = u := ⟨_, rfl⟩
            rw [hu339] at q2721 r132
            obtain ⟨z214, m214, k214, e437⟩ := rv_form r132
            subst e437
            have q2722 := vt (hA1464.at_ 8 rfl _ rfl) rfl
            refine opg_taken (c := (x10.1.length : Int) != (a1.length : Int)) rfl rfl rfl rfl q2720 hc45 (op_indexAddr_rv (v := (Value.slice z214 m214 k214)) (i := (i1 : Int)) (e := x31) rfl Try.underlying23 sh40 q2721 r132 q2722 hx31 ?_)
            refine ⟨_, _, rfl, PH.Le.refl _, ?_, ?_⟩
            ·
             show (elemPtr (Value.slice z214 m214 k214) ((i1 : Int)) (Enc.sz (List Edge))) = (elemPtr (vs1489 11) ((i1 : Int)) (Enc.sz (List Edge)))
             simp only [hu339] <;> rfl
            ·
             exact I1515
           ·
            intro vs1490 f w1504 S1496 X1465 le1496 hA1465 hK1490 hI1491
            have I1516 : Inv w1504 S1496 (X1465) := hI1491
            have q2723 := vt (hA1465.at_ 5 rfl _ rfl) rfl
            have q2724 : f 71 = vs1490 11 := (hA1465.at_ 7 rfl _ rfl).1 _ rfl
            have r133 : RV S1496 (vs1490 11) a0.Edges := (hA1465.at_ 7 rfl _ rfl).2
            obtain ⟨u340, hu340⟩ : ∃ u, vs1490 11 = u := ⟨_, rfl⟩
            rw [hu340] at q2724 r133
            obtain ⟨z215, m215, k215, e438⟩ := rv_form r133
            subst e438
            have q2725 := vt (hA1465.at_ 8 rfl _ rfl) rfl
            have q2726 : f 73 = (elemPtr (vs1490 11) ((i1 : Int)) (Enc.sz (List Edge))) := vt (hA1465.at_ 9 rfl _ rfl) rfl
            simp only [hu340] at q2726
            have q2726 : f 73 = (elemPtr (Value.slice z215 m215 k215) ((i1 : Int)) (Enc.sz (List Edge))) := q2726
            refine opg_taken (c := (x10.1.length : Int) != (a1.length : Int)) rfl rfl rfl rfl q2723 hc45 (op_load (v := (elemPtr (Value.slice z215 m215 k215) ((i1 : Int)) (Enc.sz (List Edge)))) (e := x31) rfl sh40 q2726 (r133.elem I1516.in_ hx31) (fun u341 hu341 => ?_))
            obtain ⟨z216, m216, k216, e439⟩ := rv_form hu341
            subst e439
            refine ⟨_, _, rfl, PH.Le.refl _, ?_, ?_⟩
            ·
             exact hu341
            ·
             exact I1516
           ·
            intro vs1491 f w1505 S1497 X1466 le1497 hA1466 hK1491 hI1492
            have I1517 : Inv w1505 S1497 (X1466) := hI1492
            have q2727 := vt (hA1466.at_ 5 rfl _ rfl) rfl
            have q2728 : f 74 = vs1491 14 := (hA1466.at_ 10 rfl _ rfl).1 _ rfl
            have r134 : RV S1497 (vs1491 14) x31 := (hA1466.at_ 10 rfl _ rfl).2
            obtain ⟨u342, hu342⟩ : ∃ u, vs1491 14 = u := ⟨_, rfl⟩
            rw [hu342] at q2728 r134
            obtain ⟨z217, m217, k217, e440⟩ := rv_form r134
            subst e440
            refine opg_taken (c := (x10.1.length : Int) != (a1.length : Int)) rfl rfl rfl rfl q2727 hc45 (op_len_rv rfl Try.underlying40 q2728 r134 ?_)
            refine ⟨_, _, rfl, PH.Le.refl _, ?_, ?_⟩
            ·
             exact rfl
            ·
             exact I1517
           ·
            intro vs1492 f w1506 S1498 X1467 le1498 hA1467 hK1492 hI1493
            have I1518 : Inv w1506 S1498 (X1467) := hI1493
            have q2729 := vt (hA1467.at_ 5 rfl _ rfl) rfl
            have q2730 := vt (hA1467.at_ 9 rfl _ rfl) rfl
            have q2731 := vt (hA1467.at_ 15 rfl _ rfl) rfl
            refine opg_taken (c := (x10.1.length : Int) != (a1.length : Int)) rfl rfl rfl rfl q2729 hc45 (op_gtr (a := x30) (b := (x31.length : Int)) rfl q2730 q2731 ?_)
            refine ⟨_, _, rfl, PH.Le.refl _, ?_, ?_⟩
            ·
             exact rfl
            ·
             exact I1518
           ·
            intro vs1493 f w1507 S1499 X1468 le1499 hA1468 hK1493 hI1494
            have I1519 : Inv w1507 S1499 (X1468) := hI1494
            have q2732 := vt (hA1468.at_ 5 rfl _ rfl) rfl
            have q2733 := vt (hA1468.at_ 16 rfl _ rfl) rfl
            refine opg_plain rfl rfl (op_pick_f (c := (x10.1.length : Int) != (a1.length : Int)) (b := (Value.bool (decide ((x31.length : Int) < x30)))) rfl q2732 hc45 q2733 ?_)
            refine ⟨_, _, rfl, PH.Le.refl _, ?_, ?_⟩
            ·
             exact rfl
            ·
             exact I1519
           ·
            intro vs1494 f w1508 S1500 X1469 le1500 hA1469 hK1494 hI1495
            have I1520 : Inv w1508 S1500 (X1469) := hI1495
            have q2734 := vt (hA1469.at_ 17 rfl _ rfl) rfl
            refine opg_plain rfl rfl (op_move (v := (Value.bool (decide ((x31.length : Int) < x30)))) rfl q2734 ?_)
            refine ⟨_, _, rfl, PH.Le.refl _, ?_, ?_⟩
            ·
             exact rfl
            ·
             exact I1520
           ·
            intro vs1495 f w1509 S1501 X1470 le1501 hA1470 hK1495 hI1496
            have I1521 : Inv w1509 S1501 (X1470) := hI1496
            have q2735 := vt (hA1470.at_ 18 rfl _ rfl) rfl
            refine opg_taken (c := decide ((x31.length : Int) < x30)) rfl rfl rfl rfl q2735 hc46 (op_move (v := (Value.slice z3 m3 k3)) rfl ((hK1495 1 (keep_of rfl)).trans e376) ?_)
            refine ⟨_, _, rfl, PH.Le.refl _, ?_, ?_⟩
            ·
             exact rfl
            ·
             exact I1521
           ·
            intro vs1496 f w1510 S1502 X1471 le1502 hA1471 hK1496 hI1497
            have I1522 : Inv w1510 S1502 (X1471) := hI1497
            have q2736 := vt (hA1471.at_ 18 rfl _ rfl) rfl
            refine opg_taken (c := decide ((x31.length : Int) < x30)) rfl rfl rfl rfl q2736 hc46 (op_move (v := (Value.int .i64 ((i1 : Int)))) rfl ((hK1496 10 (keep_of rfl)).trans e381) ?_)
            refine ⟨_, _, rfl, PH.Le.refl _, ?_, ?_⟩
            ·
             exact rfl
            ·
             exact I1522
           ·
            intro vs1497 f w1511 S1503 X1472 le1503 hA1472 hK1497 hI1498
            have I1523 : Inv w1511 S1503 (X1472) := hI1498
            have q2737 := vt (hA1472.at_ 18 rfl _ rfl) rfl
            have q2738 := vt (hA1472.at_ 19 rfl _ rfl) rfl
            have q2739 := vt (hA1472.at_ 20 rfl _ rfl) rfl
            refine opg_taken (c := decide ((x31.length : Int) < x30)) rfl rfl rfl rfl q2737 hc46 (op_indexAddr_rv (v := (Value.slice z3 m3 k3)) (i := (i1 : Int)) (e := x32) rfl Try.underlying26 sh3 q2738 (h1_.mono ((((le1.trans le2).trans le3).trans le1245).trans le1503)) q2739 hx32 ?_)
            refine ⟨_, _, rfl, PH.Le.refl _, ?_, ?_⟩
            ·
             exact rfl
            ·
             exact I1523
           ·
            intro vs1498 f w1512 S1504 X1473 le1504 hA1473 hK1498 hI1499
            have I1524 : Inv w1512 S1504 (X1473) := hI1499
            have q2740 := vt (hA1473.at_ 18 rfl _ rfl) rfl
            have q2741 := vt (hA1473.at_ 21 rfl _ rfl) rfl
            refine opg_taken (c := decide ((x31.length : Int) < x30)) rfl rfl rfl rfl q2740 hc46 (op_load_int (v := (elemPtr (Value.slice z3 m3 k3) ((i1 : Int)) (Enc.sz Int))) (e := x32) rfl sh3 q2741 ((h1_.mono ((((le1.trans le2).trans le3).trans le1245).trans le1504)).elem I1524.in_ hx32) ?_)
            refine ⟨_, _, rfl, PH.Le.refl _, ?_, ?_⟩
            ·
             exact rfl
            ·
             exact I1524
           ·
            intro vs1499 f w1513 S1505 X1474 le1505 hA1474 hK1499 hI1500
            have I1525 : Inv w1513 S1505 (X1474) := hI1500
            have q2742 := vt (hA1474.at_ 18 rfl _ rfl) rfl
            have q2743 := vt (hA1474.at_ 22 rfl _ rfl) rfl
            refine opg_taken (c := decide ((x31.length : Int) < x30)) rfl rfl rfl rfl q2742 hc46 (op_gtr (a := x32) (b := 0) rfl q2743 rfl ?_)
            refine ⟨_, _, rfl, PH.Le.refl _, ?_, ?_⟩
            ·
             exact rfl
            ·
             exact I1525
           ·
            intro vs1500 f w1514 S1506 X1475 le1506 hA1475 hK1500 hI1501
            have I1526 : Inv w1514 S1506 (X1475) := hI1501
            have q2744 := vt (hA1475.at_ 18 rfl _ rfl) rfl
            have q2745 := vt (hA1475.at_ 23 rfl _ rfl) rfl
            refine opg_taken (c := decide ((x31.length : Int) < x30)) rfl rfl rfl rfl q2744 hc46 (op_move (v := (Value.bool (decide (0 < x32)))) rfl q2745 ?_)
            refine ⟨_, _, rfl, PH.Le.refl _, ?_, ?_⟩
            ·
             exact rfl
            ·
             exact I1526
           ·
            intro vs1501 f w1515 S1507 X1476 le1507 hA1476 hK1501 hI1502
            have I1527 : Inv w1515 S1507 (X1476) := hI1502
            have q2746 := vt (hA1476.at_ 24 rfl _ rfl) rfl
            refine opg_taken (c := decide (0 < x32)) rfl rfl rfl rfl q2746 hc47 (op_move (v := (Value.slice z17 m17 k17)) rfl ((hK1501 7 (keep_of rfl)).trans e379) ?_)
            refine ⟨_, _, rfl, PH.Le.refl _, ?_, ?_⟩
            ·
             exact rfl
            ·
             exact I1527
           ·
            intro vs1502 f w1516 S1508 X1477 le1508 hA1477 hK1502 hI1503
            have I1528 : Inv w1516 S1508 (X1477) := hI1503
            have q2747 := vt (hA1477.at_ 24 rfl _ rfl) rfl
            refine opg_taken (c := decide (0 < x32)) rfl rfl rfl rfl q2747 hc47 (op_move (v := (Value.int .i64 ((i1 : Int)))) rfl ((hK1502 10 (keep_of rfl)).trans e381) ?_)
            refine ⟨_, _, rfl, PH.Le.refl _, ?_, ?_⟩
            ·
             exact rfl
            ·
             exact I1528
           ·
            intro vs1503 f w1517 S1509 X1478 le1509 hA1478 hK1503 hI1504
            have I1529 : Inv w1517 S1509 (Row (α := Int) 3 (Value.slice z17 m17 k17) (x10.1) :: X1478) := hI1504
            have q2748 := vt (hA1478.at_ 24 rfl _ rfl) rfl
            have q2749 := vt (hA1478.at_ 25 rfl _ rfl) rfl
            have q2750 := vt (hA1478.at_ 26 rfl _ rfl) rfl
            refine opg_taken (c := decide (0 < x32)) rfl rfl rfl rfl q2748 hc47 (op_indexAddr_src (v := (Value.slice z17 m17 k17)) (i := (i1 : Int)) (e := x30) rfl Try.underlying26 sh3 q2749 (Inv.rowSrc (I1529.nth 0 rfl)) q2750 hx30 ?_)
            refine ⟨_, _, rfl, PH.Le.refl _, ?_, ?_⟩
            ·
             exact rfl
            ·
             exact I1529
           ·
            intro vs1504 f w1518 S1510 X1479 le1510 hA1479 hK1504 hI1505
            have I1530 : Inv w1518 S1510 (Row (α := Int) 3 (Value.slice z17 m17 k17) (x10.1) :: X1479) := hI1505
            have q2751 := vt (hA1479.at_ 24 rfl _ rfl) rfl
            have q2752 := vt (hA1479.at_ 27 rfl _ rfl) rfl
            refine opg_taken (c := decide (0 < x32)) rfl rfl rfl rfl q2751 hc47 (op_load_int (v := (elemPtr (Value.slice z17 m17 k17) ((i1 : Int)) (Enc.sz Int))) (e := x30) rfl sh3 q2752 ((I1530.nth 0 rfl).rowElem hx30) ?_)
            refine ⟨_, _, rfl, PH.Le.refl _, ?_, ?_⟩
            ·
             exact rfl
            ·
             exact I1530
           ·
            intro vs1505 f w1519 S1511 X1480 le1511 hA1480 hK1505 hI1506
            have I1531 : Inv w1519 S1511 (X1480) := hI1506
            have q2753 := vt (hA1480.at_ 24 rfl _ rfl) rfl
            refine opg_taken (c := decide (0 < x32)) rfl rfl rfl rfl q2753 hc47 (op_fieldAddr_t (v := (Value.pointer (some ⟨g1, 0, none⟩))) rfl fa25_1 ((hK1505 2 (keep_of rfl)).trans e377) ((p1.mono (((le2.trans le3).trans le1245).trans le1511)).at_ I1531) ?_)
            refine ⟨_, _, rfl, PH.Le.refl _, ?_, ?_⟩
            ·
             exact rfl
            ·
             exact I1531
           ·
            intro vs1506 f w1520 S1512 X1481 le1512 hA1481 hK1506 hI1507
            have I1532 : Inv w1520 S1512 (X1481) := hI1507
            have q2754 := vt (hA1481.at_ 24 rfl _ rfl) rfl
            have q2755 := vt (hA1481.at_ 25 rfl _ rfl) rfl
            refine opg_taken (c := decide (0 < x32)) rfl rfl rfl rfl q2754 hc47 (op_load (v := (fieldPtr (Value.pointer (some ⟨g1, 0, none⟩)) 1)) (e := a0.Edges) rfl sh23 q2755 (((p1.mono (((le2.trans le3).trans le1245).trans le1512)).at_ I1532).fld Graph.fld1) (fun u343 hu343 => ?_))
            obtain ⟨z218, m218, k218, e441⟩ := rv_form hu343
            subst e441
            refine ⟨_, _, rfl, PH.Le.refl _, ?_, ?_⟩
            ·
             exact hu343
            ·
             exact I1532
           ·
            intro vs1507 f w1521 S1513 X1482 le1513 hA1482 hK1507 hI1508
            have I1533 : Inv w1521 S1513 (X1482) := hI1508
            have q2756 := vt (hA1482.at_ 24 rfl _ rfl) rfl
            refine opg_taken (c := decide (0 < x32)) rfl rfl rfl rfl q2756 hc47 (op_move (v := (Value.int .i64 ((i1 : Int)))) rfl ((hK1507 10 (keep_of rfl)).trans e381) ?_)
            refine ⟨_, _, rfl, PH.Le.refl _, ?_, ?_⟩
            ·
             exact rfl
            ·
             exact I1533
           ·
            intro vs1508 f w1522 S1514 X1483 le1514 hA1483 hK1508 hI1509
            have I1534 : Inv w1522 S1514 (X1483) := hI1509
            have q2757 := vt (hA1483.at_ 24 rfl _ rfl) rfl
            have q2758 : f 90 = vs1508 30 := (hA1483.at_ 26 rfl _ rfl).1 _ rfl
            have r135 : RV S1514 (vs1508 30) a0.Edges := (hA1483.at_ 26 rfl _ rfl).2
            obtain ⟨u344, hu344⟩ : ∃ u, vs1508 30 = u := ⟨_, rfl⟩
            rw [hu344] at q2758 r135
            obtain ⟨z219, m219, k219, e442⟩ := rv_form r135
            subst e442
            have q2759 := vt (hA1483.at_ 27 rfl _ rfl) rfl
            refine opg_taken (c := decide (0 < x32)) rfl rfl rfl rfl q2757 hc47 (op_indexAddr_rv (v := (Value.slice z219 m219 k219)) (i := (i1 : Int)) (e := x31) rfl Try.underlying23 sh40 q2758 r135 q2759 hx31 ?_)
            refine ⟨_, _, rfl, PH.Le.refl _, ?_, ?_⟩
            ·
             show (elemPtr (Value.slice z219 m219 k219) ((i1 : Int)) (Enc.sz (List Edge))) = (elemPtr (vs1508 30) ((i1 : Int)) (Enc.sz (List Edge)))
             simp only [hu344] <;> rfl
            ·
             exact I1534
           ·
            intro vs1509 f w1523 S1515 X1484 le1515 hA1484 hK1509 hI1510
            have I1535 : Inv w1523 S1515 (X1484) := hI1510
            have q2760 := vt (hA1484.at_ 24 rfl _ rfl) rfl
            have q2761 : f 90 = vs1509 30 := (hA1484.at_ 26 rfl _ rfl).1 _ rfl
            have r136 : RV S1515 (vs1509 30) a0.Edges := (hA1484.at_ 26 rfl _ rfl).2
            obtain ⟨u345, hu345⟩ : ∃ u, vs1509 30 = u := ⟨_, rfl⟩
            rw [hu345] at q2761 r136
            obtain ⟨z220, m220, k220, e443⟩ := rv_form r136
            subst e443
            have q2762 := vt (hA1484.at_ 27 rfl _ rfl) rfl
            have q2763 : f 92 = (elemPtr (vs1509 30) ((i1 : Int)) (Enc.sz (List Edge))) := vt (hA1484.at_ 28 rfl _ rfl) rfl
            simp only [hu345] at q2763
            have q2763 : f 92 = (elemPtr (Value.slice z220 m220 k220) ((i1 : Int)) (Enc.sz (List Edge))) := q2763
            refine opg_taken (c := decide (0 < x32)) rfl rfl rfl rfl q2760 hc47 (op_load (v := (elemPtr (Value.slice z220 m220 k220) ((i1 : Int)) (Enc.sz (List Edge)))) (e := x31) rfl sh40 q2763 (r136.elem I1535.in_ hx31) (fun u346 hu346 => ?_))
            obtain ⟨z221, m221, k221, e444⟩ := rv_form hu346
            subst e444
            refine ⟨_, _, rfl, PH.Le.refl _, ?_, ?_⟩
            ·
             exact hu346
            ·
             exact I1535
           ·
            intro vs1510 f w1524 S1516 X1485 le1516 hA1485 hK1510 hI1511
            have I1536 : Inv w1524 S1516 (X1485) := hI1511
            have q2764 := vt (hA1485.at_ 24 rfl _ rfl) rfl
            have q2765 : f 93 = vs1510 33 := (hA1485.at_ 29 rfl _ rfl).1 _ rfl
            have r137 : RV S1516 (vs1510 33) x31 := (hA1485.at_ 29 rfl _ rfl).2
            obtain ⟨u347, hu347⟩ : ∃ u, vs1510 33 = u := ⟨_, rfl⟩
            rw [hu347] at q2765 r137
            obtain ⟨z222, m222, k222, e445⟩ := rv_form r137
            subst e445
            refine opg_taken (c := decide (0 < x32)) rfl rfl rfl rfl q2764 hc47 (op_len_rv rfl Try.underlying40 q2765 r137 ?_)
            refine ⟨_, _, rfl, PH.Le.refl _, ?_, ?_⟩
            ·
             exact rfl
            ·
             exact I1536
           ·
            intro vs1511 f w1525 S1517 X1486 le1517 hA1486 hK1511 hI1512
            have I1537 : Inv w1525 S1517 (X1486) := hI1512
            have q2766 := vt (hA1486.at_ 24 rfl _ rfl) rfl
            have q2767 := vt (hA1486.at_ 28 rfl _ rfl) rfl
            have q2768 := vt (hA1486.at_ 34 rfl _ rfl) rfl
            refine opg_taken (c := decide (0 < x32)) rfl rfl rfl rfl q2766 hc47 (op_geq (a := x30) (b := (x31.length : Int)) rfl q2767 q2768 ?_)
            refine ⟨_, _, rfl, PH.Le.refl _, ?_, ?_⟩
            ·
             exact rfl
            ·
             exact I1537
           ·
            intro vs1512 f w1526 S1518 X1487 le1518 hA1487 hK1512 hI1513
            have I1538 : Inv w1526 S1518 (X1487) := hI1513
            have q2769 := vt (hA1487.at_ 18 rfl _ rfl) rfl
            have q2770 := vt (hA1487.at_ 24 rfl _ rfl) rfl
            have q2771 := vt (hA1487.at_ 35 rfl _ rfl) rfl
            refine opg_taken (c := decide ((x31.length : Int) < x30)) rfl rfl rfl rfl q2769 hc46 (op_pick_t (c := decide (0 < x32)) (a := (Value.bool (decide ((x31.length : Int) ≤ x30)))) rfl q2770 hc47 q2771 ?_)
            refine ⟨_, _, rfl, PH.Le.refl _, ?_, ?_⟩
            ·
             exact rfl
            ·
             exact I1538
           ·
            intro vs1513 f w1527 S1519 X1488 le1519 hA1488 hK1513 hI1514
            have I1539 : Inv w1527 S1519 (X1488) := hI1514
            have q2772 := vt (hA1488.at_ 18 rfl _ rfl) rfl
            have q2773 := vt (hA1488.at_ 36 rfl _ rfl) rfl
            refine opg_plain rfl rfl (op_pick_f (c := decide ((x31.length : Int) < x30)) (b := (Value.bool (decide ((x31.length : Int) ≤ x30)))) rfl q2772 hc46 q2773 ?_)
            refine ⟨_, _, rfl, PH.Le.refl _, ?_, ?_⟩
            ·
             exact rfl
            ·
             exact I1539
           ·
            intro vs1514 f w1528 S1520 X1489 le1520 hA1489 hK1514 hI1515
            have I1540 : Inv w1528 S1520 (X1489) := hI1515
            have q2774 := vt (hA1489.at_ 37 rfl _ rfl) rfl
            refine opg_plain rfl rfl (op_move (v := (Value.bool (decide ((x31.length : Int) ≤ x30)))) rfl q2774 ?_)
            refine ⟨_, _, rfl, PH.Le.refl _, ?_, ?_⟩
            ·
             exact rfl
            ·
             exact I1540
           ·
            intro vs1515 f w1529 S1521 X1490 le1521 hA1490 hK1515 hI1516
            have I1541 : Inv w1529 S1521 (X1490) := hI1516
            have q2775 := vt (hA1490.at_ 38 rfl _ rfl) rfl
            refine opg_taken (c := decide ((x31.length : Int) ≤ x30)) rfl rfl rfl rfl q2775 hc48 (op_move (v := (Value.slice z3 m3 k3)) rfl ((hK1515 1 (keep_of rfl)).trans e376) ?_)
            refine ⟨_, _, rfl, PH.Le.refl _, ?_, ?_⟩
            ·
             exact rfl
            ·
             exact I1541
           ·
            intro vs1516 f w1530 S1522 X1491 le1522 hA1491 hK1516 hI1517
            have I1542 : Inv w1530 S1522 (X1491) := hI1517
            have q2776 := vt (hA1491.at_ 38 rfl _ rfl) rfl
            refine opg_taken (c := decide ((x31.length : Int) ≤ x30)) rfl rfl rfl rfl q2776 hc48 (op_move (v := (Value.int .i64 ((i1 : Int)))) rfl ((hK1516 10 (keep_of rfl)).trans e381) ?_)
            refine ⟨_, _, rfl, PH.Le.refl _, ?_, ?_⟩
            ·
             exact rfl
            ·
             exact I1542
           ·
            intro vs1517 f w1531 S1523 X1492 le1523 hA1492 hK1517 hI1518
            have I1543 : Inv w1531 S1523 (X1492) := hI1518
            have q2777 := vt (hA1492.at_ 38 rfl _ rfl) rfl
            have q2778 := vt (hA1492.at_ 39 rfl _ rfl) rfl
            have q2779 := vt (hA1492.at_ 40 rfl _ rfl) rfl
            refine opg_taken (c := decide ((x31.length : Int) ≤ x30)) rfl rfl rfl rfl q2777 hc48 (op_indexAddr_rv (v := (Value.slice z3 m3 k3)) (i := (i1 : Int)) (e := x32) rfl Try.underlying26 sh3 q2778 (h1_.mono ((((le1.trans le2).trans le3).trans le1245).trans le1523)) q2779 hx32 ?_)
            refine ⟨_, _, rfl, PH.Le.refl _, ?_, ?_⟩
            ·
             exact rfl
            ·
             exact I1543
           ·
            intro vs1518 f w1532 S1524 X1493 le1524 hA1493 hK1518 hI1519
            have I1544 : Inv w1532 S1524 (X1493) := hI1519
            have q2780 := vt (hA1493.at_ 38 rfl _ rfl) rfl
            have q2781 := vt (hA1493.at_ 41 rfl _ rfl) rfl
            refine opg_taken (c := decide ((x31.length : Int) ≤ x30)) rfl rfl rfl rfl q2780 hc48 (op_load_int (v := (elemPtr (Value.slice z3 m3 k3) ((i1 : Int)) (Enc.sz Int))) (e := x32) rfl sh3 q2781 ((h1_.mono ((((le1.trans le2).trans le3).trans le1245).trans le1524)).elem I1544.in_ hx32) ?_)
            refine ⟨_, _, rfl, PH.Le.refl _, ?_, ?_⟩
            ·
             exact rfl
            ·
             exact I1544
           ·
            intro vs1519 f w1533 S1525 X1494 le1525 hA1494 hK1519 hI1520
            have I1545 : Inv w1533 S1525 (X1494) := hI1520
            have q2782 := vt (hA1494.at_ 38 rfl _ rfl) rfl
            have q2783 := vt (hA1494.at_ 42 rfl _ rfl) rfl
            refine opg_taken (c := decide ((x31.length : Int) ≤ x30)) rfl rfl rfl rfl q2782 hc48 (op_leq (a := x32) (b := 0) rfl q2783 rfl ?_)
            refine ⟨_, _, rfl, PH.Le.refl _, ?_, ?_⟩
            ·
             exact rfl
            ·
             exact I1545
           ·
            intro vs1520 f w1534 S1526 X1495 le1526 hA1495 hK1520 hI1521
            have I1546 : Inv w1534 S1526 (X1495) := hI1521
            have q2784 := vt (hA1495.at_ 38 rfl _ rfl) rfl
            have q2785 := vt (hA1495.at_ 43 rfl _ rfl) rfl
            refine opg_taken (c := decide ((x31.length : Int) ≤ x30)) rfl rfl rfl rfl q2784 hc48 (op_move (v := (Value.bool (decide (x32 ≤ 0)))) rfl q2785 ?_)
            refine ⟨_, _, rfl, PH.Le.refl _, ?_, ?_⟩
            ·
             exact rfl
            ·
             exact I1546
           ·
            intro vs1521 f w1535 S1527 X1496 le1527 hA1496 hK1521 hI1522
            have I1547 : Inv w1535 S1527 (X1496) := hI1522
            have q2786 := vt (hA1496.at_ 44 rfl _ rfl) rfl
            exact opg_skip (c := decide (x32 ≤ 0)) rfl rfl rfl rfl q2786 hc49 rfl ⟨_, _, rfl, PH.Le.refl _, rfl, I1547⟩
           ·
            intro vs1522 f w1536 S1528 X1497 le1528 hA1497 hK1522 hI1523
            have I1548 : Inv w1536 S1528 (X1497) := hI1523
            have q2787 := vt (hA1497.at_ 44 rfl _ rfl) rfl
            exact opg_skip (c := decide (x32 ≤ 0)) rfl rfl rfl rfl q2787 hc49 rfl ⟨_, _, rfl, PH.Le.refl _, rfl, I1548⟩
           ·
            intro vs1523 f w1537 S1529 X1498 le1529 hA1498 hK1523 hI1524
            have I1549 : Inv w1537 S1529 (X1498) := hI1524
            have q2788 := vt (hA1498.at_ 44 rfl _ rfl) rfl
            have q2789 := vt (hA1498.at_ 45 rfl _ rfl) rfl
            have q2790 := vt (hA1498.at_ 46 rfl _ rfl) rfl
            exact opg_skip (c := decide (x32 ≤ 0)) rfl rfl rfl rfl q2788 hc49 rfl ⟨_, _, rfl, PH.Le.refl _, rfl, I1549⟩
           ·
            intro vs1524 f w1538 S1530 X1499 le1530 hA1499 hK1524 hI1525
            have I1550 : Inv w1538 S1530 (X1499) := hI1525
            have q2791 := vt (hA1499.at_ 44 rfl _ rfl) rfl
            have q2792 := vt (hA1499.at_ 47 rfl _ rfl) rfl
            exact opg_skip (c := decide (x32 ≤ 0)) rfl rfl rfl rfl q2791 hc49 rfl ⟨_, _, rfl, PH.Le.refl _, rfl, I1550⟩
           ·
            intro vs1525 f w1539 S1531 X1500 le1531 hA1500 hK1525 hI1526
            have I1551 : Inv w1539 S1531 (X1500) := hI1526
            have q2793 := vt (hA1500.at_ 44 rfl _ rfl) rfl
            exact opg_skip (c := decide (x32 ≤ 0)) rfl rfl rfl rfl q2793 hc49 rfl ⟨_, _, rfl, PH.Le.refl _, rfl, I1551⟩
           ·
            intro vs1526 f w1540 S1532 X1501 le1532 hA1501 hK1526 hI1527
            have I1552 : Inv w1540 S1532 (X1501) := hI1527
            have q2794 := vt (hA1501.at_ 44 rfl _ rfl) rfl
            have q2795 := vt (hA1501.at_ 45 rfl _ rfl) rfl
            exact opg_skip (c := decide (x32 ≤ 0)) rfl rfl rfl rfl q2794 hc49 rfl ⟨_, _, rfl, PH.Le.refl _, rfl, I1552⟩
           ·
            intro vs1527 f w1541 S1533 X1502 le1533 hA1502 hK1527 hI1528
            have I1553 : Inv w1541 S1533 (X1502) := hI1528
            have q2796 := vt (hA1502.at_ 44 rfl _ rfl) rfl
            exact opg_skip (c := decide (x32 ≤ 0)) rfl rfl rfl rfl q2796 hc49 rfl ⟨_, _, rfl, PH.Le.refl _, rfl, I1553⟩
           ·
            intro vs1528 f w1542 S1534 X1503 le1534 hA1503 hK1528 hI1529
            have I1554 : Inv w1542 S1534 (X1503) := hI1529
            have q2797 := vt (hA1503.at_ 44 rfl _ rfl) rfl
            have q2798 := vt (hA1503.at_ 46 rfl _ rfl) rfl
            have q2799 := vt (hA1503.at_ 47 rfl _ rfl) rfl
            exact opg_skip (c := decide (x32 ≤ 0)) rfl rfl rfl rfl q2797 hc49 rfl ⟨_, _, rfl, PH.Le.refl _, rfl, I1554⟩
           ·
            intro vs1529 f w1543 S1535 X1504 le1535 hA1504 hK1529 hI1530
            have I1555 : Inv w1543 S1535 (X1504) := hI1530
            have q2800 := vt (hA1504.at_ 44 rfl _ rfl) rfl
            have q2801 := vt (hA1504.at_ 48 rfl _ rfl) rfl
            exact opg_skip (c := decide (x32 ≤ 0)) rfl rfl rfl rfl q2800 hc49 rfl ⟨_, _, rfl, PH.Le.refl _, rfl, I1555⟩
           ·
            intro vs1530 f w1544 S1536 X1505 le1536 hA1505 hK1530 hI1531
            have I1556 : Inv w1544 S1536 (X1505) := hI1531
            have q2802 := vt (hA1505.at_ 44 rfl _ rfl) rfl
            have q2803 := vt (hA1505.at_ 49 rfl _ rfl) rfl
            exact opg_skip (c := decide (x32 ≤ 0)) rfl rfl rfl rfl q2802 hc49 rfl ⟨_, _, rfl, PH.Le.refl _, rfl, I1556⟩
           ·
            intro vs1531 f w1545 S1537 X1506 le1537 hA1506 hK1531 hI1532
            have I1557 : Inv w1545 S1537 (X1506) := hI1532
            have q2804 := vt (hA1506.at_ 44 rfl _ rfl) rfl
            have q2805 := vt (hA1506.at_ 48 rfl _ rfl) rfl
            have q2806 := vt (hA1506.at_ 54 rfl _ rfl) rfl
            exact opg_skip (c := decide (x32 ≤ 0)) rfl rfl rfl rfl q2804 hc49 rfl ⟨_, _, rfl, PH.Le.refl _, rfl, I1557⟩
           ·
            intro vs1532 f w1546 S1538 X1507 le1538 hA1507 hK1532 hI1533
            have I1558 : Inv w1546 S1538 (X1507) := hI1533
            have q2807 := vt (hA1507.at_ 38 rfl _ rfl) rfl
            have q2808 := vt (hA1507.at_ 44 rfl _ rfl) rfl
            have q2809 := vt (hA1507.at_ 55 rfl _ rfl) rfl
            refine opg_taken (c := decide ((x31.length : Int) ≤ x30)) rfl rfl rfl rfl q2807 hc48 (op_pick_f (c := decide (x32 ≤ 0)) (b := (Value.bool (false))) rfl q2808 hc49 rfl ?_)
            refine ⟨_, _, rfl, PH.Le.refl _, ?_, ?_⟩
            ·
             exact rfl
            ·
             exact I1558
           ·
            intro vs1533 f w1547 S1539 X1508 le1539 hA1508 hK1533 hI1534
            have I1559 : Inv w1547 S1539 (X1508) := hI1534
            have q2810 := vt (hA1508.at_ 38 rfl _ rfl) rfl
            have q2811 := vt (hA1508.at_ 56 rfl _ rfl) rfl
            refine opg_plain rfl rfl (op_pick_f (c := decide ((x31.length : Int) ≤ x30)) (b := (Value.bool (false))) rfl q2810 hc48 q2811 ?_)
            refine ⟨_, _, rfl, PH.Le.refl _, ?_, ?_⟩
            ·
             exact rfl
            ·
             exact I1559
           ·
            intro vs1534 f w1548 S1540 le1540 hF26 hK1534 hI1535
            have e446 : f 1 = (Value.slice z3 m3 k3) := (hK1534 1 (keep_all rfl)).trans e376
            have e447 : f 2 = (Value.pointer (some ⟨g1, 0, none⟩)) := (hK1534 2 (keep_all rfl)).trans e377
            have e448 : f 5 = (Value.slice z14 m14 k14) := (hK1534 5 (keep_all rfl)).trans e378
            have e449 : f 7 = (Value.slice z17 m17 k17) := (hK1534 7 (keep_all rfl)).trans e379
            have e450 : f 9 = (Value.int .i64 (v10)) := (hK1534 9 (keep_all rfl)).trans e380
            have e451 : f 10 = (Value.int .i64 ((i1 : Int))) := (hK1534 10 (keep_all rfl)).trans e381
            have I1560 : Inv w1548 S1540 (Row (α := Int) 3 (Value.slice z17 m17 k17) (x10.1) :: Row (α := Int) 3 (Value.slice z14 m14 k14) (x9.1) :: Fr) := hI1535
            have q2812 := vt (hF26.at_ 57 rfl _ rfl) rfl
            refine wp_cond_f (b := false) q2812 rfl ?_
            refine wp_skip' ?_
            refine wp_region' ?_
            refine wl_op rfl (op_move (v := (Value.int .i64 ((i1 : Int)))) rfl e451 ?_)
            refine wl_op rfl (op_add (a := (i1 : Int)) (b := 1) rfl rfl rfl ?_)
            refine wl_op rfl (op_assign (v := (Value.int .i64 (w64 ((i1 : Int) + 1)))) rfl rfl ?_)
            refine wl_nil ?_
            obtain rfl := Option.some.inj h22
            exact ⟨_, rfl, _, (le1245.trans le1540), (I1560.pull 1), e446, e447, e448, e449, e450, (idx_next hlt1 hk1)⟩
        ·
         rcases ifs h22 with ⟨hc51, h22⟩ | ⟨hc51, h22⟩
         ·
          refine wp_draw (sps := [spV 60 [] 0 (Value.slice z17 m17 k17), ⟨some 61, [0], [1], fun vs_ T_ => fr0 vs_ 0 = (Value.int .i64 ((x10.1.length : Int))), [0], [], [], fun _ h_ => h_⟩, spV 62 [] 2 (Value.slice z3 m3 k3), spV 63 [2] 3 (Value.int .i64 ((a1.length : Int))), spV 64 [0, 1, 2, 3] 4 (Value.bool ((x10.1.length : Int) != (a1.length : Int))), spV 65 [0, 1, 2, 3, 4] 5 (Value.bool ((x10.1.length : Int) != (a1.length : Int))), spV 66 (List.range 6) 6 (Value.slice z17 m17 k17), spV 67 (List.range 6) 7 (Value.int .i64 ((i1 : Int))), ⟨some 68, (List.range 8), [8], fun vs_ T_ => fr0 vs_ 0 = (elemPtr (Value.slice z17 m17 k17) ((i1 : Int)) (Enc.sz Int)), [0], [], [], fun _ h_ => h_⟩, ⟨some 69, (List.range 9), [9], fun vs_ T_ => fr0 vs_ 0 = (Value.int .i64 (x30)), [0], [], [], fun _ h_ => h_⟩, ⟨some 70, (List.range 6), [10], fun vs_ T_ => fr0 vs_ 0 = (fieldPtr (Value.pointer (some ⟨g1, 0, none⟩)) 1), [], [], [], fun _ h_ => h_⟩, ⟨some 71, (List.range 6 ++ [10]), [11], fun vs_ T_ => RV T_ (fr0 vs_ 0) a0.Edges, [], [], [], fun hle_ h_ => h_.mono hle_⟩, spV 72 (List.range 6) 12 (Value.int .i64 ((i1 : Int))), ⟨some 73, (List.range 6 ++ [10, 11, 12]), [13, 11], fun vs_ T_ => fr0 vs_ 0 = (elemPtr (fr0 vs_ 1) ((i1 : Int)) (Enc.sz (List Edge))), [], [], [], fun _ h_ => h_⟩, ⟨some 74, (List.range 6 ++ [10, 11, 12, 13]), [14], fun vs_ T_ => RV T_ (fr0 vs_ 0) x31, [], [], [], fun hle_ h_ => h_.mono hle_⟩, spV 75 (List.range 6 ++ [10, 11, 12, 13, 14]) 15 (Value.int .i64 ((x31.length : Int))), spV 76 (List.range 16) 16 (Value.bool (decide ((x31.length : Int) < x30))), spV 77 (List.range 17) 17 (Value.bool (decide ((x31.length : Int) < x30))), spV 78 (List.range 18) 18 (Value.bool (decide ((x31.length : Int) < x30))), spV 79 (List.range 19) 19 (Value.slice z3 m3 k3), spV 80 (List.range 19) 20 (Value.int .i64 ((i1 : Int))), spV 81 (List.range 21) 21 (elemPtr (Value.slice z3 m3 k3) ((i1 : Int)) (Enc.sz Int)), spV 82 (List.range 22) 22 (Value.int .i64 (x32)), spV 83 (List.range 23) 23 (Value.bool (decide (0 < x32))), spV 84 (List.range 24) 24 (Value.bool (decide (0 < x32))), spV 85 (List.range 25) 25 undef, spV 86 (List.range 25) 26 undef, spV 87 (List.range 27) 27 undef, spV 88 (List.range 28) 28 undef, spV 89 (List.range 25) 29 undef, spV 90 (List.range 25 ++ [29]) 30 undef, spV 91 (List.range 25) 31 undef, spV 92 (List.range 25 ++ [29, 30, 31]) 32 undef, spV 93 (List.range 25 ++ [29, 30, 31, 32]) 33 undef, spV 94 (List.range 25 ++ [29, 30, 31, 32, 33]) 34 undef, spV 95 (List.range 35) 35 undef, spV 96 (List.range 36) 36 (Value.bool (false)), spV 97 (List.range 37) 37 (Value.bool (false)), spV 98 (List.range 38) 38 (Value.bool (false)), spV 99 (List.range 39) 39 (Value.slice z3 m3 k3), spV 100 (List.range 39) 40 (Value.int .i64 ((i1 : Int))), spV 101 (List.range 41) 41 (elemPtr (Value.slice z3 m3 k3) ((i1 : Int)) (Enc.sz Int)), spV 102 (List.range 42) 42 (Value.int .i64 (x32)), spV 103 (List.range 43) 43 (Value.bool (decide (x32 ≤ 0))), spV 104 (List.range 44) 44 (Value.bool (decide (x32 ≤ 0))), spV 105 (List.range 45) 45 (Value.slice z17 m17 k17), spV 106 (List.range 45) 46 (Value.int .i64 ((i1 : Int))), ⟨some 107, (List.range 47), [47], fun vs_ T_ => fr0 vs_ 0 = (elemPtr (Value.slice z17 m17 k17) ((i1 : Int)) (Enc.sz Int)), [0], [], [], fun _ h_ => h_⟩, ⟨some 108, (List.range 48), [48], fun vs_ T_ => fr0 vs_ 0 = (Value.int .i64 (x30)), [0], [], [], fun _ h_ => h_⟩, ⟨some 109, (List.range 45), [49], fun vs_ T_ => fr0 vs_ 0 = (fieldPtr (Value.pointer (some ⟨g1, 0, none⟩)) 1), [], [], [], fun _ h_ => h_⟩, ⟨some 110, (List.range 45 ++ [49]), [50], fun vs_ T_ => RV T_ (fr0 vs_ 0) a0.Edges, [], [], [], fun hle_ h_ => h_.mono hle_⟩, spV 111 (List.range 45) 51 (Value.int .i64 ((i1 : Int))), ⟨some 112, (List.range 45 ++ [49, 50, 51]), [52, 50], fun vs_ T_ => fr0 vs_ 0 = (elemPtr (fr0 vs_ 1) ((i1 : Int)) (Enc.sz (List Edge))), [], [], [], fun _ h_ => h_⟩, ⟨some 113, (List.range 45 ++ [49, 50, 51, 52]), [53], fun vs_ T_ => RV T_ (fr0 vs_ 0) x31, [], [], [], fun hle_ h_ => h_.mono hle_⟩, spV 114 (List.range 45 ++ [49, 50, 51, 52, 53]) 54 (Value.int .i64 ((x31.length : Int))), spV 115 (List.range 55) 55 (Value.bool (x30 != (x31.length : Int))), spV 116 (List.range 56) 56 (Value.bool (x30 != (x31.length : Int))), spV 117 (List.range 57) 57 (Value.bool (x30 != (x31.length : Int)))]) (tks := [⟨none, none, [], fun vs_ => Row (α := Int) 3 (Value.slice z17 m17 k17) (x10.1)⟩]) (O := Row (α := Int) 3 (Value.slice z14 m14 k14) (x9.1) :: Fr) rfl (by kernel_rfl) (I1265.pull 1) ⟨?_, ?_, ?_, ?_, ?_, ?_, ?_, ?_, ?_, ?_, ?_, ?_, ?_, ?_, ?_, ?_, ?_, ?_, ?_, ?_, ?_, ?_, ?_, ?_, ?_, ?_, ?_, ?_, ?_, ?_, ?_, ?_, ?_, ?_, ?_, ?_, ?_, ?_, ?_, ?_, ?_, ?_, ?_, ?_, ?_, ?_, ?_, ?_, ?_, ?_, ?_, ?_, ?_, ?_, ?_, ?_, ?_, ?_, trivial⟩ ?_
          ·
           intro vs1535 f w1549 S1541 X1509 le1541 hA1509 hK1535 hI1536
           have I1561 : Inv w1549 S1541 (X1509) := hI1536
           refine opg_plain rfl rfl (op_move (v := (Value.slice z17 m17 k17)) rfl ((hK1535 7 (keep_of rfl)).trans e379) ?_)
           refine ⟨_, _, rfl, PH.Le.refl _, ?_, ?_⟩
           ·
            exact rfl
           ·
            exact I1561
          ·
           intro vs1536 f w1550 S1542 X1510 le1542 hA1510 hK1536 hI1537
           have I1562 : Inv w1550 S1542 (Row (α := Int) 3 (Value.slice z17 m17 k17) (x10.1) :: X1510) := hI1537
           have q2813 := vt (hA1510.at_ 0 rfl _ rfl) rfl
           refine opg_plain rfl rfl (op_len_row (α := Int) rfl Try.underlying26 q2813 (I1562.nth 0 rfl) ?_)
           refine ⟨_, _, rfl, PH.Le.refl _, ?_, ?_⟩
           ·
            exact rfl
           ·
            exact I1562
          ·
           intro vs1537 f w1551 S1543 X1511 le1543 hA1511 hK1537 hI1538
           have I1563 : Inv w1551 S1543 (X1511) := hI1538
           refine opg_plain rfl rfl (op_move (v := (Value.slice z3 m3 k3)) rfl ((hK1537 1 (keep_of rfl)).trans e376) ?_)
           refine ⟨_, _, rfl, PH.Le.refl _, ?_, ?_⟩
           ·
            exact rfl
           ·
            exact I1563
          ·
           intro vs1538 f w1552 S1544 X1512 le1544 hA1512 hK1538 hI1539
           have I1564 : Inv w1552 S1544 (X1512) := hI1539
           have q2814 := vt (hA1512.at_ 0 rfl _ rfl) rfl
           refine opg_plain rfl rfl (op_len_rv rfl Try.underlying26 q2814 (h1_.mono ((((le1.trans le2).trans le3).trans le1245).trans le1544)) ?_)
           refine ⟨_, _, rfl, PH.Le.refl _, ?_, ?_⟩
           ·
            exact rfl
           ·
            exact I1564
          ·
           intro vs1539 f w1553 S1545 X1513 le1545 hA1513 hK1539 hI1540
           have I1565 : Inv w1553 S1545 (X1513) := hI1540
           have q2815 := vt (hA1513.at_ 1 rfl _ rfl) rfl
           have q2816 := vt (hA1513.at_ 3 rfl _ rfl) rfl
           refine opg_plain rfl rfl (op_neq (a := (x10.1.length : Int)) (b := (a1.length : Int)) rfl q2815 q2816 ?_)
           refine ⟨_, _, rfl, PH.Le.refl _, ?_, ?_⟩
           ·
            exact rfl
           ·
            exact I1565
          ·
           intro vs1540 f w1554 S1546 X1514 le1546 hA1514 hK1540 hI1541
           have I1566 : Inv w1554 S1546 (X1514) := hI1541
           have q2817 := vt (hA1514.at_ 4 rfl _ rfl) rfl
           refine opg_plain rfl rfl (op_move (v := (Value.bool ((x10.1.length : Int) != (a1.length : Int)))) rfl q2817 ?_)
           refine ⟨_, _, rfl, PH.Le.refl _, ?_, ?_⟩
           ·
            exact rfl
           ·
            exact I1566
          ·
           intro vs1541 f w1555 S1547 X1515 le1547 hA1515 hK1541 hI1542
           have I1567 : Inv w1555 S1547 (X1515) := hI1542
           have q2818 := vt (hA1515.at_ 5 rfl _ rfl) rfl
           refine opg_taken (c := (x10.1.length : Int) != (a1.length : Int)) rfl rfl rfl rfl q2818 hc45 (op_move (v := (Value.slice z17 m17 k17)) rfl ((hK1541 7 (keep_of rfl)).trans e379) ?_)
           refine ⟨_, _, rfl, PH.Le.refl _, ?_, ?_⟩
           ·
            exact rfl
           ·
            exact I1567
          ·
           intro vs1542 f w1556 S1548 X1516 le1548 hA1516 hK1542 hI1543
           have I1568 : Inv w1556 S1548 (X1516) := hI1543
           have q2819 := vt (hA1516.at_ 5 rfl _ rfl) rfl
           refine opg_taken (c := (x10.1.length : Int) != (a1.length : Int)) rfl rfl rfl rfl q2819 hc45 (op_move (v := (Value.int .i64 ((i1 : Int)))) rfl ((hK1542 10 (keep_of rfl)).trans e381) ?_)
           refine ⟨_, _, rfl, PH.Le.refl _, ?_, ?_⟩
           ·
            exact rfl
           ·
            exact I1568
          ·
           intro vs1543 f w1557 S1549 X1517 le1549 hA1517 hK1543 hI1544
           have I1569 : Inv w1557 S1549 (Row (α := Int) 3 (Value.slice z17 m17 k17) (x10.1) :: X1517) := hI1544
           have q2820 := vt (hA1517.at_ 5 rfl _ rfl) rfl
           have q2821 := vt (hA1517.at_ 6 rfl _ rfl) rfl
           have q2822 := vt (hA1517.at_ 7 rfl _ rfl) rfl
           refine opg_taken (c := (x10.1.length : Int) != (a1.length : Int)) rfl rfl rfl rfl q2820 hc45 (op_indexAddr_src (v := (Value.slice z17 m17 k17)) (i := (i1 : Int)) (e := x30) rfl Try.underlying26 sh3 q2821 (Inv.rowSrc (I1569.nth 0 rfl)) q2822 hx30 ?_)
           refine ⟨_, _, rfl, PH.Le.refl _, ?_, ?_⟩
           ·
            exact rfl
           ·
            exact I1569
          ·
           intro vs1544 f w1558 S1550 X1518 le1550 hA1518 hK1544 hI1545
           have I1570 : Inv w1558 S1550 (Row (α := Int) 3 (Value.slice z17 m17 k17) (x10.1) :: X1518) := hI1545
           have q2823 := vt (hA1518.at_ 5 rfl _ rfl) rfl
           have q2824 := vt (hA1518.at_ 8 rfl _ rfl) rfl
           refine opg_taken (c := (x10.1.length : Int) != (a1.length : Int)) rfl rfl rfl rfl q2823 hc45 (op_load_int (v := (elemPtr (Value.slice z17 m17 k17) ((i1 : Int)) (Enc.sz Int))) (e := x30) rfl sh3 q2824 ((I1570.nth 0 rfl).rowElem hx30) ?_)
           refine ⟨_, _, rfl, PH.Le.refl _, ?_, ?_⟩
           ·
            exact rfl
           ·
            exact I1570
          ·
           intro vs1545 f w1559 S1551 X1519 le1551 hA1519 hK1545 hI1546
           have I1571 : Inv w1559 S1551 (X1519) := hI1546
           have q2825 := vt (hA1519.at_ 5 rfl _ rfl) rfl
           refine opg_taken (c := (x10.1.length : Int) != (a1.length : Int)) rfl rfl rfl rfl q2825 hc45 (op_fieldAddr_t (v := (Value.pointer (some ⟨g1, 0, none⟩))) rfl fa25_1 ((hK1545 2 (keep_of rfl)).trans e377) ((p1.mono (((le2.trans le3).trans le1245).trans le1551)).at_ I1571) ?_)
           refine ⟨_, _, rfl, PH.Le.refl _, ?_, ?_⟩
           ·
            exact rfl
           ·
            exact I1571
          ·
           intro vs1546 f w1560 S1552 X1520 le1552 hA1520 hK1546 hI1547
           have I1572 : Inv w1560 S1552 (X1520) := hI1547
           have q2826 := vt (hA1520.at_ 5 rfl _ rfl) rfl
           have q2827 := vt (hA1520.at_ 6 rfl _ rfl) rfl
           refine opg_taken (c := (x10.1.length : Int) != (a1.length : Int)) rfl rfl rfl rfl q2826 hc45 (op_load (v := (fieldPtr (Value.pointer (some ⟨g1, 0, none⟩)) 1)) (e := a0.Edges) rfl sh23 q2827 (((p1.mono (((le2.trans le3).trans le1245).trans le1552)).at_ I1572).fld Graph.fld1) (fun u354 hu354 => ?_))
           obtain ⟨z223, m223, k223, e452⟩ := rv_form hu354
           subst e452
           refine ⟨_, _, rfl, PH.Le.refl _, ?_, ?_⟩
           ·
            exact hu354
           ·
            exact I1572
          ·
           intro vs1547 f w1561 S1553 X1521 le1553 hA1521 hK1547 hI1548
           have I1573 : Inv w1561 S1553 (X1521) := hI1548
           have q2828 := vt (hA1521.at_ 5 rfl _ rfl) rfl
           refine opg_taken (c := (x10.1.length : Int) != (a1.length : Int)) rfl rfl rfl rfl q2828 hc45 (op_move (v := (Value.int .i64 ((i1 : Int)))) rfl ((hK1547 10 (keep_of rfl)).trans e381) ?_)
           refine ⟨_, _, rfl, PH.Le.refl _, ?_, ?_⟩
           ·
            exact rfl
           ·
            exact I1573
          ·
           intro vs1548 f w1562 S1554 X1522 le1554 hA1522 hK1548 hI1549
           have I1574 : Inv w1562 S1554 (X1522) := hI1549
           have q2829 := vt (hA1522.at_ 5 rfl _ rfl) rfl
           have q2830 : f 71 = vs1548 11 := (hA1522.at_ 7 rfl _ rfl).1 _ rfl
           have r138 : RV S1554 (vs1548 11) a0.Edges := (hA1522.at_ 7 rfl _ rfl).2
           obtain ⟨u355, hu355⟩ : ∃ u, vs1548 11 = u := ⟨_, rfl⟩
           rw [hu355] at q2830 r138
           obtain ⟨z224, m224, k224, e453⟩ := rv_form r138
           subst e453
           have q2831 := vt (hA1522.at_ 8 rfl _ rfl) rfl
           refine opg_taken (c := (x10.1.length : Int) != (a1.length : Int)) rfl rfl rfl rfl q2829 hc45 (op_indexAddr_rv (v := (Value.slice z224 m224 k224)) (i := (i1 : Int)) (e := x31) rfl Try.underlying23 sh40 q2830 r138 q2831 hx31 ?_)
           refine ⟨_, _, rfl, PH.Le.refl _, ?_, ?_⟩
           ·
            show (elemPtr (Value.slice z224 m224 k224) ((i1 : Int)) (Enc.sz (List Edge))) = (elemPtr (vs1548 11) ((i1 : Int)) (Enc.sz (List Edge)))
            simp only [hu355] <;> rfl
           ·
            exact I1574
          ·
           intro vs1549 f w1563 S1555 X1523 le1555 hA1523 hK1549 hI1550
           have I1575 : Inv w1563 S1555 (X1523) := hI1550
           have q2832 := vt (hA1523.at_ 5 rfl _ rfl) rfl
           have q2833 : f 71 = vs1549 11 := (hA1523.at_ 7 rfl _ rfl).1 _ rfl
           have r139 : RV S1555 (vs1549 11) a0.Edges := (hA1523.at_ 7 rfl _ rfl).2
           obtain ⟨u356, hu356⟩ : ∃ u, vs1549 11 = u := ⟨_, rfl⟩
           rw [hu356] at q2833 r139
           obtain ⟨z225, m225, k225, e454⟩ := rv_form r139
           subst e454
           have q2834 := vt (hA1523.at_ 8 rfl _ rfl) rfl
           have q2835 : f 73 = (elemPtr (vs1549 11) ((i1 : Int)) (Enc.sz (List Edge))) := vt (hA1523.at_ 9 rfl _ rfl) rfl
           simp only [hu356] at q2835
           have q2835 : f 73 = (elemPtr (Value.slice z225 m225 k225) ((i1 : Int)) (Enc.sz (List Edge))) := q2835
           refine opg_taken (c := (x10.1.length : Int) != (a1.length : Int)) rfl rfl rfl rfl q2832 hc45 (op_load (v := (elemPtr (Value.slice z225 m225 k225) ((i1 : Int)) (Enc.sz (List Edge)))) (e := x31) rfl sh40 q2835 (r139.elem I1575.in_ hx31) (fun u357 hu357 => ?_))
           obtain ⟨z226, m226, k226, e455⟩ := rv_form hu357
           subst e455
           refine ⟨_, _, rfl, PH.Le.refl _, ?_, ?_⟩
           ·
            exact hu357
           ·
            exact I1575
          ·
           intro vs1550 f w1564 S1556 X1524 le1556 hA1524 hK1550 hI1551
           have I1576 : Inv w1564 S1556 (X1524) := hI1551
           have q2836 := vt (hA1524.at_ 5 rfl _ rfl) rfl
           have q2837 : f 74 = vs1550 14 := (hA1524.at_ 10 rfl _ rfl).1 _ rfl
           have r140 : RV S1556 (vs1550 14) x31 := (hA1524.at_ 10 rfl _ rfl).2
           obtain ⟨u358, hu358⟩ : ∃ u, vs1550 14 = u := ⟨_, rfl⟩
           rw [hu358] at q2837 r140
           obtain ⟨z227, m227, k227, e456⟩ := rv_form r140
           subst e456
           refine opg_taken (c := (x10.1.length : Int) != (a1.length : Int)) rfl rfl rfl rfl q2836 hc45 (op_len_rv rfl Try.underlying40 q2837 r140 ?_)
           refine ⟨_, _, rfl, PH.Le.refl _, ?_, ?_⟩
           ·
            exact rfl
           ·
            exact I1576
          ·
           intro vs1551 f w1565 S1557 X1525 le1557 hA1525 hK1551 hI1552
           have I1577 : Inv w1565 S1557 (X1525) := hI1552
           have q2838 := vt (hA1525.at_ 5 rfl _ rfl) rfl
           have q2839 := vt (hA1525.at_ 9 rfl _ rfl) rfl
           have q2840 := vt (hA1525.at_ 15 rfl _ rfl) rfl
           refine opg_taken (c := (x10.1.length : Int) != (a1.length : Int)) rfl rfl rfl rfl q2838 hc45 (op_gtr (a := x30) (b := (x31.length : Int)) rfl q2839 q2840 ?_)
           refine ⟨_, _, rfl, PH.Le.refl _, ?_, ?_⟩
           ·
            exact rfl
           ·
            exact I1577
          ·
           intro vs1552 f w1566 S1558 X1526 le1558 hA1526 hK1552 hI1553
           have I1578 : Inv w1566 S1558 (X1526) := hI1553
           have q2841 := vt (hA1526.at_ 5 rfl _ rfl) rfl
           have q2842 := vt (hA1526.at_ 16 rfl _ rfl) rfl
           refine opg_plain rfl rfl (op_pick_f (c := (x10.1.length : Int) != (a1.length : Int)) (b := (Value.bool (decide ((x31.length : Int) < x30)))) rfl q2841 hc45 q2842 ?_)
           refine ⟨_, _, rfl, PH.Le.refl _, ?_, ?_⟩
           ·
            exact rfl
           ·
            exact I1578
          ·
           intro vs1553 f w1567 S1559 X1527 le1559 hA1527 hK1553 hI1554
           have I1579 : Inv w1567 S1559 (X1527) := hI1554
           have q2843 := vt (hA1527.at_ 17 rfl _ rfl) rfl
           refine opg_plain rfl rfl (op_move (v := (Value.bool (decide ((x31.length : Int) < x30)))) rfl q2843 ?_)
           refine ⟨_, _, rfl, PH.Le.refl _, ?_, ?_⟩
           ·
            exact rfl
           ·
            exact I1579
          ·
           intro vs1554 f w1568 S1560 X1528 le1560 hA1528 hK1554 hI1555
           have I1580 : Inv w1568 S1560 (X1528) := hI1555
           have q2844 := vt (hA1528.at_ 18 rfl _ rfl) rfl
           refine opg_taken (c := decide ((x31.length : Int) < x30)) rfl rfl rfl rfl q2844 hc46 (op_move (v := (Value.slice z3 m3 k3)) rfl ((hK1554 1 (keep_of rfl)).trans e376) ?_)
           refine ⟨_, _, rfl, PH.Le.refl _, ?_, ?_⟩
           ·
            exact rfl
           ·
            exact I1580
          ·
           intro vs1555 f w1569 S1561 X1529 le1561 hA1529 hK1555 hI1556
           have I1581 : Inv w1569 S1561 (X1529) := hI1556
           have q2845 := vt (hA1529.at_ 18 rfl _ rfl) rfl
           refine opg_taken (c := decide ((x31.length : Int) < x30)) rfl rfl rfl rfl q2845 hc46 (op_move (v := (Value.int .i64 ((i1 : Int)))) rfl ((hK1555 10 (keep_of rfl)).trans e381) ?_)
           refine ⟨_, _, rfl, PH.Le.refl _, ?_, ?_⟩
           ·
            exact rfl
           ·
            exact I1581
          ·
           intro vs1556 f w1570 S1562 X1530 le1562 hA1530 hK1556 hI1557
           have I1582 : Inv w1570 S1562 (X1530) := hI1557
           have q2846 := vt (hA1530.at_ 18 rfl _ rfl) rfl
           have q2847 := vt (hA1530.at_ 19 rfl _ rfl) rfl
           have q2848 := vt (hA1530.at_ 20 rfl _ rfl) rfl
           refine opg_taken (c := decide ((x31.length : Int) < x30)) rfl rfl rfl rfl q2846 hc46 (op_indexAddr_rv (v := (Value.slice z3 m3 k3)) (i := (i1 : Int)) (e := x32) rfl Try.underlying26 sh3 q2847 (h1_.mono ((((le1.trans le2).trans le3).trans le1245).trans le1562)) q2848 hx32 ?_)
           refine ⟨_, _, rfl, PH.Le.refl _, ?_, ?_⟩
           ·
            exact rfl
           ·
            exact I1582
          ·
           intro vs1557 f w1571 S1563 X1531 le1563 hA1531 hK1557 hI1558
           have I1583 : Inv w1571 S1563 (X1531) := hI1558
           have q2849 := vt (hA1531.at_ 18 rfl _ rfl) rfl
           have q2850 := vt (hA1531.at_ 21 rfl _ rfl) rfl
           refine opg_taken (c := decide ((x31.length : Int) < x30)) rfl rfl rfl rfl q2849 hc46 (op_load_int (v := (elemPtr (Value.slice z3 m3 k3) ((i1 : Int)) (Enc.sz Int))) (e := x32) rfl sh3 q2850 ((h1_.mono ((((le1.trans le2).trans le3).trans le1245).trans le1563)).elem I1583.in_ hx32) ?_)
           refine ⟨_, _, rfl, PH.Le.refl _, ?_, ?_⟩
           ·
            exact rfl
           ·
            exact I1583
          ·
           intro vs1558 f w1572 S1564 X1532 le1564 hA1532 hK1558 hI1559
           have I1584 : Inv w1572 S1564 (X1532) := hI1559
           have q2851 := vt (hA1532.at_ 18 rfl _ rfl) rfl
           have q2852 := vt (hA1532.at_ 22 rfl _ rfl) rfl
           refine opg_taken (c := decide ((x31.length : Int) < x30)) rfl rfl rfl rfl q2851 hc46 (op_gtr (a := x32) (b := 0) rfl q2852 rfl ?_)
           refine ⟨_, _, rfl, PH.Le.refl _, ?_, ?_⟩
           ·
            exact rfl
           ·
            exact I1584
          ·
           intro vs1559 f w1573 S1565 X1533 le1565 hA1533 hK1559 hI1560
           have I1585 : Inv w1573 S1565 (X1533) := hI1560
           have q2853 := vt (hA1533.at_ 18 rfl _ rfl) rfl
           have q2854 := vt (hA1533.at_ 23 rfl _ rfl) rfl
           refine opg_taken (c := decide ((x31.length : Int) < x30)) rfl rfl rfl rfl q2853 hc46 (op_move (v := (Value.bool (decide (0 < x32)))) rfl q2854 ?_)
           refine ⟨_, _, rfl, PH.Le.refl _, ?_, ?_⟩
           ·
            exact rfl
           ·
            exact I1585
          ·
           intro vs1560 f w1574 S1566 X1534 le1566 hA1534 hK1560 hI1561
           have I1586 : Inv w1574 S1566 (X1534) := hI1561
           have q2855 := vt (hA1534.at_ 24 rfl _ rfl) rfl
           exact opg_skip (c := decide (0 < x32)) rfl rfl rfl rfl q2855 hc47 rfl ⟨_, _, rfl, PH.Le.refl _, rfl, I1586⟩
          ·
           intro vs1561 f w1575 S1567 X1535 le1567 hA1535 hK1561 hI1562
           have I1587 : Inv w1575 S1567 (X1535) := hI1562
           have q2856 := vt (hA1535.at_ 24 rfl _ rfl) rfl
           exact opg_skip (c := decide (0 < x32)) rfl rfl rfl rfl q2856 hc47 rfl ⟨_, _, rfl, PH.Le.refl _, rfl, I1587⟩
          ·
           intro vs1562 f w1576 S1568 X1536 le1568 hA1536 hK1562 hI1563
           have I1588 : Inv w1576 S1568 (X1536) := hI1563
           have q2857 := vt (hA1536.at_ 24 rfl _ rfl) rfl
           have q2858 := vt (hA1536.at_ 25 rfl _ rfl) rfl
           have q2859 := vt (hA1536.at_ 26 rfl _ rfl) rfl
           exact opg_skip (c := decide (0 < x32)) rfl rfl rfl rfl q2857 hc47 rfl ⟨_, _, rfl, PH.Le.refl _, rfl, I1588⟩
          ·
           intro vs1563 f w1577 S1569 X1537 le1569 hA1537 hK1563 hI1564
           have I1589 : Inv w1577 S1569 (X1537) := hI1564
           have q2860 := vt (hA1537.at_ 24 rfl _ rfl) rfl
           have q2861 := vt (hA1537.at_ 27 rfl _ rfl) rfl
           exact opg_skip (c := decide (0 < x32)) rfl rfl rfl rfl q2860 hc47 rfl ⟨_, _, rfl, PH.Le.refl _, rfl, I1589⟩
          ·
           intro vs1564 f w1578 S1570 X1538 le1570 hA1538 hK1564 hI1565
           have I1590 : Inv w1578 S1570 (X1538) := hI1565
           have q2862 := vt (hA1538.at_ 24 rfl _ rfl) rfl
           exact opg_skip (c := decide (0 < x32)) rfl rfl rfl rfl q2862 hc47 rfl ⟨_, _, rfl, PH.Le.refl _, rfl, I1590⟩
          ·
           intro vs1565 f w1579 S1571 X1539 le1571 hA1539 hK1565 hI1566
           have I1591 : Inv w1579 S1571 (X1539) := hI1566
           have q2863 := vt (hA1539.at_ 24 rfl _ rfl) rfl
           have q2864 := vt (hA1539.at_ 25 rfl _ rfl) rfl
           exact opg_skip (c := decide (0 < x32)) rfl rfl rfl rfl q2863 hc47 rfl ⟨_, _, rfl, PH.Le.refl _, rfl, I1591⟩
          ·
           intro vs1566 f w1580 S1572 X1540 le1572 hA1540 hK1566 hI1567
           have I1592 : Inv w1580 S1572 (X1540) := hI1567
           have q2865 := vt (hA1540.at_ 24 rfl _ rfl) rfl
           exact opg_skip (c := decide (0 < x32)) rfl rfl rfl rfl q2865 hc47 rfl ⟨_, _, rfl, PH.Le.refl _, rfl, I1592⟩
          ·
           intro vs1567 f w1581 S1573 X1541 le1573 hA1541 hK1567 hI1568
           have I1593 : Inv w1581 S1573 (X1541) := hI1568
           have q2866 := vt (hA1541.at_ 24 rfl _ rfl) rfl
           have q2867 := vt (hA1541.at_ 26 rfl _ rfl) rfl
           have q2868 := vt (hA1541.at_ 27 rfl _ rfl) rfl
           exact opg_skip (c := decide (0 < x32)) rfl rfl rfl rfl q2866 hc47 rfl ⟨_, _, rfl, PH.Le.refl _, rfl, I1593⟩
          ·
           intro vs1568 f w1582 S1574 X1542 le1574 hA1542 hK1568 hI1569
           have I1594 : Inv w1582 S1574 (X1542) := hI1569
           have q2869 := vt (hA1542.at_ 24 rfl _ rfl) rfl
           have q2870 := vt (hA1542.at_ 28 rfl _ rfl) rfl
           exact opg_skip (c := decide (0 < x32)) rfl rfl rfl rfl q2869 hc47 rfl ⟨_, _, rfl, PH.Le.refl _, rfl, I1594⟩
          ·
           intro vs1569 f w1583 S1575 X1543 le1575 hA1543 hK1569 hI1570
           have I1595 : Inv w1583 S1575 (X1543) := hI1570
           have q2871 := vt (hA1543.at_ 24 rfl _ rfl) rfl
           have q2872 := vt (hA1543.at_ 29 rfl _ rfl) rfl
           exact opg_skip (c := decide (0 < x32)) rfl rfl rfl rfl q2871 hc47 rfl ⟨_, _, rfl, PH.Le.refl _, rfl, I1595⟩
          ·
           intro vs1570 f w1584 S1576 X1544 le1576 hA1544 hK1570 hI1571
           have I1596 : Inv w1584 S1576 (X1544) := hI1571
           have q2873 := vt (hA1544.at_ 24 rfl _ rfl) rfl
           have q2874 := vt (hA1544.at_ 28 rfl _ rfl) rfl
           have q2875 := vt (hA1544.at_ 34 rfl _ rfl) rfl
           exact opg_skip (c := decide (0 < x32)) rfl rfl rfl rfl q2873 hc47 rfl ⟨_, _, rfl, PH.Le.refl _, rfl, I1596⟩
          ·
           intro vs1571 f w1585 S1577 X1545 le1577 hA1545 hK1571 hI1572
           have I1597 : Inv w1585 S1577 (X1545) := hI1572
           have q2876 := vt (hA1545.at_ 18 rfl _ rfl) rfl
           have q2877 := vt (hA1545.at_ 24 rfl _ rfl) rfl
           have q2878 := vt (hA1545.at_ 35 rfl _ rfl) rfl
           refine opg_taken (c := decide ((x31.length : Int) < x30)) rfl rfl rfl rfl q2876 hc46 (op_pick_f (c := decide (0 < x32)) (b := (Value.bool (false))) rfl q2877 hc47 rfl ?_)
           refine ⟨_, _, rfl, PH.Le.refl _, ?_, ?_⟩
           ·
            exact rfl
           ·
            exact I1597
          ·
           intro vs1572 f w1586 S1578 X1546 le1578 hA1546 hK1572 hI1573
           have I1598 : Inv w1586 S1578 (X1546) := hI1573
           have q2879 := vt (hA1546.at_ 18 rfl _ rfl) rfl
           have q2880 := vt (hA1546.at_ 36 rfl _ rfl) rfl
           refine opg_plain rfl rfl (op_pick_f (c := decide ((x31.length : Int) < x30)) (b := (Value.bool (false))) rfl q2879 hc46 q2880 ?_)
           refine ⟨_, _, rfl, PH.Le.refl _, ?_, ?_⟩
           ·
            exact rfl
           ·
            exact I1598
          ·
           intro vs1573 f w1587 S1579 X1547 le1579 hA1547 hK1573 hI1574
           have I1599 : Inv w1587 S1579 (X1547) := hI1574
           have q2881 := vt (hA1547.at_ 37 rfl _ rfl) rfl
           refine opg_plain rfl rfl (op_move (v := (Value.bool (false))) rfl q2881 ?_)
           refine ⟨_, _, rfl, PH.Le.refl _, ?_, ?_⟩
           ·
            exact rfl
           ·
            exact I1599
          ·
           intro vs1574 f w1588 S1580 X1548 le1580 hA1548 hK1574 hI1575
           have I1600 : Inv w1588 S1580 (X1548) := hI1575
           have q2882 := vt (hA1548.at_ 38 rfl _ rfl) rfl
           refine opg_taken (c := false) rfl rfl rfl rfl q2882 rfl (op_move (v := (Value.slice z3 m3 k3)) rfl ((hK1574 1 (keep_of rfl)).trans e376) ?_)
           refine ⟨_, _, rfl, PH.Le.refl _, ?_, ?_⟩
           ·
            exact rfl
           ·
            exact I1600
          ·
           intro vs1575 f w1589 S1581 X1549 le1581 hA1549 hK1575 hI1576
           have I1601 : Inv w1589 S1581 (X1549) := hI1576
           have q2883 := vt (hA1549.at_ 38 rfl _ rfl) rfl
           refine opg_taken (c := false) rfl rfl rfl rfl q2883 rfl (op_move (v := (Value.int .i64 ((i1 : Int)))) rfl ((hK1575 10 (keep_of rfl)).trans e381) ?_)
           refine ⟨_, _, rfl, PH.Le.refl _, ?_, ?_⟩
           ·
            exact rfl
           ·
            exact I1601
          ·
           intro vs1576 f w1590 S1582 X1550 le1582 hA1550 hK1576 hI1577
           have I1602 : Inv w1590 S1582 (X1550) := hI1577
           have q2884 := vt (hA1550.at_ 38 rfl _ rfl) rfl
           have q2885 := vt (hA1550.at_ 39 rfl _ rfl) rfl
           have q2886 := vt (hA1550.at_ 40 rfl _ rfl) rfl
           refine opg_taken (c := false) rfl rfl rfl rfl q2884 rfl (op_indexAddr_rv (v := (Value.slice z3 m3 k3)) (i := (i1 : Int)) (e := x32) rfl Try.underlying26 sh3 q2885 (h1_.mono ((((le1.trans le2).trans le3).trans le1245).trans le1582)) q2886 hx32 ?_)
           refine ⟨_, _, rfl, PH.Le.refl _, ?_, ?_⟩
           ·
            exact rfl
           ·
            exact I1602
          ·
           intro vs1577 f w1591 S1583 X1551 le1583 hA1551 hK1577 hI1578
           have I1603 : Inv w1591 S1583 (X1551) := hI1578
           have q2887 := vt (hA1551.at_ 38 rfl _ rfl) rfl
           have q2888 := vt (hA1551.at_ 41 rfl _ rfl) rfl
           refine opg_taken (c := false) rfl rfl rfl rfl q2887 rfl (op_load_int (v := (elemPtr (Value.slice z3 m3 k3) ((i1 : Int)) (Enc.sz Int))) (e := x32) rfl sh3 q2888 ((h1_.mono ((((le1.trans le2).trans le3).trans le1245).trans le1583)).elem I1603.in_ hx32) ?_)
           refine ⟨_, _, rfl, PH.Le.refl _, ?_, ?_⟩
           ·
            exact rfl
           ·
            exact I1603
          ·
           intro vs1578 f w1592 S1584 X1552 le1584 hA1552 hK1578 hI1579
           have I1604 : Inv w1592 S1584 (X1552) := hI1579
           have q2889 := vt (hA1552.at_ 38 rfl _ rfl) rfl
           have q2890 := vt (hA1552.at_ 42 rfl _ rfl) rfl
           refine opg_taken (c := false) rfl rfl rfl rfl q2889 rfl (op_leq (a := x32) (b := 0) rfl q2890 rfl ?_)
           refine ⟨_, _, rfl, PH.Le.refl _, ?_, ?_⟩
           ·
            exact rfl
           ·
            exact I1604
          ·
           intro vs1579 f w1593 S1585 X1553 le1585 hA1553 hK1579 hI1580
           have I1605 : Inv w1593 S1585 (X1553) := hI1580
           have q2891 := vt (hA1553.at_ 38 rfl _ rfl) rfl
           have q2892 := vt (hA1553.at_ 43 rfl _ rfl) rfl
           refine opg_taken (c := false) rfl rfl rfl rfl q2891 rfl (op_move (v := (Value.bool (decide (x32 ≤ 0)))) rfl q2892 ?_)
           refine ⟨_, _, rfl, PH.Le.refl _, ?_, ?_⟩
           ·
            exact rfl
           ·
            exact I1605
          ·
           intro vs1580 f w1594 S1586 X1554 le1586 hA1554 hK1580 hI1581
           have I1606 : Inv w1594 S1586 (X1554) := hI1581
           have q2893 := vt (hA1554.at_ 44 rfl _ rfl) rfl
           refine opg_taken (c := decide (x32 ≤ 0)) rfl rfl rfl rfl q2893 hc51 (op_move (v := (Value.slice z17 m17 k17)) rfl ((hK1580 7 (keep_of rfl)).trans e379) ?_)
           refine ⟨_, _, rfl, PH.Le.refl _, ?_, ?_⟩
           ·
            exact rfl
           ·
            exact I1606
          ·
           intro vs1581 f w1595 S1587 X1555 le1587 hA1555 hK1581 hI1582
           have I1607 : Inv w1595 S1587 (X1555) := hI1582
           have q2894 := vt (hA1555.at_ 44 rfl _ rfl) rfl
           refine opg_taken (c := decide (x32 ≤ 0)) rfl rfl rfl rfl q2894 hc51 (op_move (v := (Value.int .i64 ((i1 : Int)))) rfl ((hK1581 10 (keep_of rfl)).trans e381) ?_)
           refine ⟨_, _, rfl, PH.Le.refl _, ?_, ?_⟩
           ·
            exact rfl
           ·
            exact I1607
          ·
           intro vs1582 f w1596 S1588 X1556 le1588 hA1556 hK1582 hI1583
           have I1608 : Inv w1596 S1588 (Row (α := Int) 3 (Value.slice z17 m17 k17) (x10.1) :: X1556) := hI1583
           have q2895 := vt (hA1556.at_ 44 rfl _ rfl) rfl
           have q2896 := vt (hA1556.at_ 45 rfl _ rfl) rfl
           have q2897 := vt (hA1556.at_ 46 rfl _ rfl) rfl
           refine opg_taken (c := decide (x32 ≤ 0)) rfl rfl rfl rfl q2895 hc51 (op_indexAddr_src (v := (Value.slice z17 m17 k17)) (i := (i1 : Int)) (e := x30) rfl Try.underlying26 sh3 q2896 (Inv.rowSrc (I1608.nth 0 rfl)) q2897 hx30 ?_)
           refine ⟨_, _, rfl, PH.Le.refl _, ?_, ?_⟩
           ·
            exact rfl
           ·
            exact I1608
          ·
           intro vs1583 f w1597 S1589 X1557 le1589 hA1557 hK1583 hI1584
           have I1609 : Inv w1597 S1589 (Row (α := Int) 3 (Value.slice z17 m17 k17) (x10.1) :: X1557) := hI1584
           have q2898 := vt (hA1557.at_ 44 rfl _ rfl) rfl
           have q2899 := vt (hA1557.at_ 47 rfl _ rfl) rfl
           refine opg_taken (c := decide (x32 ≤ 0)) rfl rfl rfl rfl q2898 hc51 (op_load_int (v := (elemPtr (Value.slice z17 m17 k17) ((i1 : Int)) (Enc.sz Int))) (e := x30) rfl sh3 q2899 ((I1609.nth 0 rfl).rowElem hx30) ?_)
           refine ⟨_, _, rfl, PH.Le.refl _, ?_, ?_⟩
           ·
            exact rfl
           ·
            exact I1609
          ·
           intro vs1584 f w1598 S1590 X1558 le1590 hA1558 hK1584 hI1585
           have I1610 : Inv w1598 S1590 (X1558) := hI1585
           have q2900 := vt (hA1558.at_ 44 rfl _ rfl) rfl
           refine opg_taken (c := decide (x32 ≤ 0)) rfl rfl rfl rfl q2900 hc51 (op_fieldAddr_t (v := (Value.pointer (some ⟨g1, 0, none⟩))) rfl fa25_1 ((hK1584 2 (keep_of rfl)).trans e377) ((p1.mono (((le2.trans le3).trans le1245).trans le1590)).at_ I1610) ?_)
           refine ⟨_, _, rfl, PH.Le.refl _, ?_, ?_⟩
           ·
            exact rfl
           ·
            exact I1610
          ·
           intro vs1585 f w1599 S1591 X1559 le1591 hA1559 hK1585 hI1586
           have I1611 : Inv w1599 S1591 (X1559) := hI1586
           have q2901 := vt (hA1559.at_ 44 rfl _ rfl) rfl
           have q2902 := vt (hA1559.at_ 45 rfl _ rfl) rfl
           refine opg_taken (c := decide (x32 ≤ 0)) rfl rfl rfl rfl q2901 hc51 (op_load (v := (fieldPtr (Value.pointer (some ⟨g1, 0, none⟩)) 1)) (e := a0.Edges) rfl sh23 q2902 (((p1.mono (((le2.trans le3).trans le1245).trans le1591)).at_ I1611).fld Graph.fld1) (fun u359 hu359 => ?_))
           obtain ⟨z228, m228, k228, e457⟩ := rv_form hu359
           subst e457
           refine ⟨_, _, rfl, PH.Le.refl _, ?_, ?_⟩
           ·
            exact hu359
           ·
            exact I1611
          ·
           intro vs1586 f w1600 S1592 X1560 le1592 hA1560 hK1586 hI1587
           have I1612 : Inv w1600 S1592 (X1560) := hI1587
           have q2903 := vt (hA1560.at_ 44 rfl _ rfl) rfl
           refine opg_taken (c := decide (x32 ≤ 0)) rfl rfl rfl rfl q2903 hc51 (op_move (v := (Value.int .i64 ((i1 : Int)))) rfl ((hK1586 10 (keep_of rfl)).trans e381) ?_)
           refine ⟨_, _, rfl, PH.Le.refl _, ?_, ?_⟩
           ·
            exact rfl
           ·
            exact I1612
          ·
           intro vs1587 f w1601 S1593 X1561 le1593 hA1561 hK1587 hI1588
           have I1613 : Inv w1601 S1593 (X1561) := hI1588
           have q2904 := vt (hA1561.at_ 44 rfl _ rfl) rfl
           have q2905 : f 110 = vs1587 50 := (hA1561.at_ 46 rfl _ rfl).1 _ rfl
           have r141 : RV S1593 (vs1587 50) a0.Edges := (hA1561.at_ 46 rfl _ rfl).2
           obtain ⟨u360, hu360⟩ : ∃ u, vs1587 50 = u := ⟨_, rfl⟩
           rw [hu360] at q2905 r141
           obtain ⟨z229, m229, k229, e458⟩ := rv_form r141
           subst e458
           have q2906 := vt (hA1561.at_ 47 rfl _ rfl) rfl
           refine opg_taken (c := decide (x32 ≤ 0)) rfl rfl rfl rfl q2904 hc51 (op_indexAddr_rv (v := (Value.slice z229 m229 k229)) (i := (i1 : Int)) (e := x31) rfl Try.underlying23 sh40 q2905 r141 q2906 hx31 ?_)
           refine ⟨_, _, rfl, PH.Le.refl _, ?_, ?_⟩
           ·
            show (elemPtr (Value.slice z229 m229 k229) ((i1 : Int)) (Enc.sz (List Edge))) = (elemPtr (vs1587 50) ((i1 : Int)) (Enc.sz (List Edge)))
            simp only [hu360] <;> rfl
           ·
            exact I1613
          ·
           intro vs1588 f w1602 S1594 X1562 le1594 hA1562 hK1588 hI1589
           have I1614 : Inv w1602 S1594 (X1562) := hI1589
           have q2907 := vt (hA1562.at_ 44 rfl _ rfl) rfl
           have q2908 : f 110 = vs1588 50 := (hA1562.at_ 46 rfl _ rfl).1 _ rfl
           have r142 : RV S1594 (vs1588 50) a0.Edges := (hA1562.at_ 46 rfl _ rfl).2
           obtain ⟨u361, hu361⟩ : ∃ u, vs1588 50 = u := ⟨_, rfl⟩
           rw [hu361] at q2908 r142
           obtain ⟨z230, m230, k230, e459⟩ := rv_form r142
           subst e459
           have q2909 := vt (hA1562.at_ 47 rfl _ rfl) rfl
           have q2910 : f 112 = (elemPtr (vs1588 50) ((i1 : Int)) (Enc.sz (List Edge))) := vt (hA1562.at_ 48 rfl _ rfl) rfl
           simp only [hu361] at q2910
           have q2910 : f 112 = (elemPtr (Value.slice z230 m230 k230) ((i1 : Int)) (Enc.sz (List Edge))) := q2910
           refine opg_taken (c := decide (x32 ≤ 0)) rfl rfl rfl rfl q2907 hc51 (op_load (v := (elemPtr (Value.slice z230 m230 k230) ((i1 : Int)) (Enc.sz (List Edge)))) (e := x31) rfl sh40 q2910 (r142.elem I1614.in_ hx31) (fun u362 hu362 => ?_))
           obtain ⟨z231, m231, k231, e460⟩ := rv_form hu362
           subst e460
           refine ⟨_, _, rfl, PH.Le.refl _, ?_, ?_⟩
           ·
            exact hu362
           ·
            exact I1614
          ·
           intro vs1589 f w1603 S1595 X1563 le1595 hA1563 hK1589 hI1590
           have I1615 : Inv w1603 S1595 (X1563) := hI1590
           have q2911 := vt (hA1563.at_ 44 rfl _ rfl) rfl
           have q2912 : f 113 = vs1589 53 := (hA1563.at_ 49 rfl _ rfl).1 _ rfl
           have r143 : RV S1595 (vs1589 53) x31 := (hA1563.at_ 49 rfl _ rfl).2
           obtain ⟨u363, hu363⟩ : ∃ u, vs1589 53 = u := ⟨_, rfl⟩
           rw [hu363] at q2912 r143
           obtain ⟨z232, m232, k232, e461⟩ := rv_form r143
           subst e461
           refine opg_taken (c := decide (x32 ≤ 0)) rfl rfl rfl rfl q2911 hc51 (op_len_rv rfl Try.underlying40 q2912 r143 ?_)
           refine ⟨_, _, rfl, PH.Le.refl _, ?_, ?_⟩
           ·
            exact rfl
           ·
            exact I1615
          ·
           intro vs1590 f w1604 S1596 X1564 le1596 hA1564 hK1590 hI1591
           have I1616 : Inv w1604 S1596 (X1564) := hI1591
           have q2913 := vt (hA1564.at_ 44 rfl _ rfl) rfl
           have q2914 := vt (hA1564.at_ 48 rfl _ rfl) rfl
           have q2915 := vt (hA1564.at_ 54 rfl _ rfl) rfl
           refine opg_taken (c := decide (x32 ≤ 0)) rfl rfl rfl rfl q2913 hc51 (op_neq (a := x30) (b := (x31.length : Int)) rfl q2914 q2915 ?_)
           refine ⟨_, _, rfl, PH.Le.refl _, ?_, ?_⟩
           ·
            exact rfl
           ·
            exact I1616
          ·
           intro vs1591 f w1605 S1597 X1565 le1597 hA1565 hK1591 hI1592
           have I1617 : Inv w1605 S1597 (X1565) := hI1592
           have q2916 := vt (hA1565.at_ 38 rfl _ rfl) rfl
           have q2917 := vt (hA1565.at_ 44 rfl _ rfl) rfl
           have q2918 := vt (hA1565.at_ 55 rfl _ rfl) rfl
           refine opg_taken (c := false) rfl rfl rfl rfl q2916 rfl (op_pick_t (c := decide (x32 ≤ 0)) (a := (Value.bool (x30 != (x31.length : Int)))) rfl q2917 hc51 q2918 ?_)
           refine ⟨_, _, rfl, PH.Le.refl _, ?_, ?_⟩
           ·
            exact rfl
           ·
            exact I1617
          ·
           intro vs1592 f w1606 S1598 X1566 le1598 hA1566 hK1592 hI1593
           have I1618 : Inv w1606 S1598 (X1566) := hI1593
           have q2919 := vt (hA1566.at_ 38 rfl _ rfl) rfl
           have q2920 := vt (hA1566.at_ 56 rfl _ rfl) rfl
           refine opg_plain rfl rfl (op_pick_f (c := false) (b := (Value.bool (x30 != (x31.length : Int)))) rfl q2919 rfl q2920 ?_)
           refine ⟨_, _, rfl, PH.Le.refl _, ?_, ?_⟩
           ·
            exact rfl
           ·
            exact I1618
          ·
           intro vs1593 f w1607 S1599 le1599 hF27 hK1593 hI1594
           have e462 : f 1 = (Value.slice z3 m3 k3) := (hK1593 1 (keep_all rfl)).trans e376
           have e463 : f 2 = (Value.pointer (some ⟨g1, 0, none⟩)) := (hK1593 2 (keep_all rfl)).trans e377
           have e464 : f 5 = (Value.slice z14 m14 k14) := (hK1593 5 (keep_all rfl)).trans e378
           have e465 : f 7 = (Value.slice z17 m17 k17) := (hK1593 7 (keep_all rfl)).trans e379
           have e466 : f 9 = (Value.int .i64 (v10)) := (hK1593 9 (keep_all rfl)).trans e380
           have e467 : f 10 = (Value.int .i64 ((i1 : Int))) := (hK1593 10 (keep_all rfl)).trans e381
           have I1619 : Inv w1607 S1599 (Row (α := Int) 3 (Value.slice z17 m17 k17) (x10.1) :: Row (α := Int) 3 (Value.slice z14 m14 k14) (x9.1) :: Fr) := hI1594
           have q2921 := vt (hF27.at_ 57 rfl _ rfl) rfl
           rcases ifs h22 with ⟨hc52, h22⟩ | ⟨hc52, h22⟩
           ·
            refine wp_cond_t (b := x30 != (x31.length : Int)) q2921 hc52 ?_
            refine wp_seq' ?_
            refine wp_region' ?_
            refine wl_op rfl (op_assign (v := (Value.bool (false))) rfl rfl ?_)
            refine wl_nil ?_
            refine wp_ret' ?_
            obtain rfl := Option.some.inj h22
            obtain rfl := (hout1 _ rfl)
            have h23 := h
            obtain rfl := Option.some.inj h23
            exact ⟨(Value.bool (false)), (res1 rfl rfl), _, [], ((((le1.trans le2).trans le3).trans le1245).trans le1599), ((I1619).drop).drop, rfl, rfl⟩
           ·
            refine wp_cond_f (b := x30 != (x31.length : Int)) q2921 hc52 ?_
            refine wp_skip' ?_
            refine wp_region' ?_
            refine wl_op rfl (op_move (v := (Value.int .i64 ((i1 : Int)))) rfl e467 ?_)
            refine wl_op rfl (op_add (a := (i1 : Int)) (b := 1) rfl rfl rfl ?_)
            refine wl_op rfl (op_assign (v := (Value.int .i64 (w64 ((i1 : Int) + 1)))) rfl rfl ?_)
            refine wl_nil ?_
            obtain rfl := Option.some.inj h22
            exact ⟨_, rfl, _, (le1245.trans le1599), (I1619.pull 1), e462, e463, e464, e465, e466, (idx_next hlt1 hk1)⟩
         ·
          refine wp_draw (sps := [spV 60 [] 0 (Value.slice z17 m17 k17), ⟨some 61, [0], [1], fun vs_ T_ => fr0 vs_ 0 = (Value.int .i64 ((x10.1.length : Int))), [0], [], [], fun _ h_ => h_⟩, spV 62 [] 2 (Value.slice z3 m3 k3), spV 63 [2] 3 (Value.int .i64 ((a1.length : Int))), spV 64 [0, 1, 2, 3] 4 (Value.bool ((x10.1.length : Int) != (a1.length : Int))), spV 65 [0, 1, 2, 3, 4] 5 (Value.bool ((x10.1.length : Int) != (a1.length : Int))), spV 66 (List.range 6) 6 (Value.slice z17 m17 k17), spV 67 (List.range 6) 7 (Value.int .i64 ((i1 : Int))), ⟨some 68, (List.range 8), [8], fun vs_ T_ => fr0 vs_ 0 = (elemPtr (Value.slice z17 m17 k17) ((i1 : Int)) (Enc.sz Int)), [0], [], [], fun _ h_ => h_⟩, ⟨some 69, (List.range 9), [9], fun vs_ T_ => fr0 vs_ 0 = (Value.int .i64 (x30)), [0], [], [], fun _ h_ => h_⟩, ⟨some 70, (List.range 6), [10], fun vs_ T_ => fr0 vs_ 0 = (fieldPtr (Value.pointer (some ⟨g1, 0, none⟩)) 1), [], [], [], fun _ h_ => h_⟩, ⟨some 71, (List.range 6 ++ [10]), [11], fun vs_ T_ => RV T_ (fr0 vs_ 0) a0.Edges, [], [], [], fun hle_ h_ => h_.mono hle_⟩, spV 72 (List.range 6) 12 (Value.int .i64 ((i1 : Int))), ⟨some 73, (List.range 6 ++ [10, 11, 12]), [13, 11], fun vs_ T_ => fr0 vs_ 0 = (elemPtr (fr0 vs_ 1) ((i1 : Int)) (Enc.sz (List Edge))), [], [], [], fun _ h_ => h_⟩, ⟨some 74, (List.range 6 ++ [10, 11, 12, 13]), [14], fun vs_ T_ => RV T_ (fr0 vs_ 0) x31, [], [], [], fun hle_ h_ => h_.mono hle_⟩, spV 75 (List.range 6 ++ [10, 11, 12, 13, 14]) 15 (Value.int .i64 ((x31.length : Int))), spV 76 (List.range 16) 16 (Value.bool (decide ((x31.length : Int) < x30))), spV 77 (List.range 17) 17 (Value.bool (decide ((x31.length : Int) < x30))), spV 78 (List.range 18) 18 (Value.bool (decide ((x31.length : Int) < x30))), spV 79 (List.range 19) 19 (Value.slice z3 m3 k3), spV 80 (List.range 19) 20 (Value.int .i64 ((i1 : Int))), spV 81 (List.range 21) 21 (elemPtr (Value.slice z3 m3 k3) ((i1 : Int)) (Enc.sz Int)), spV 82 (List.range 22) 22 (Value.int .i64 (x32)), spV 83 (List.range 23) 23 (Value.bool (decide (0 < x32))), spV 84 (List.range 24) 24 (Value.bool (decide (0 < x32))), spV 85 (List.range 25) 25 undef, spV 86 (List.range 25) 26 undef, spV 87 (List.range 27) 27 undef, spV 88 (List.range 28) 28 undef, spV 89 (List.range 25) 29 undef, spV 90 (List.range 25 ++ [29]) 30 undef, spV 91 (List.range 25) 31 undef, spV 92 (List.range 25 ++ [29, 30, 31]) 32 undef, spV 93 (List.range 25 ++ [29, 30, 31, 32]) 33 undef, spV 94 (List.range 25 ++ [29, 30, 31, 32, 33]) 34 undef, spV 95 (List.range 35) 35 undef, spV 96 (List.range 36) 36 (Value.bool (false)), spV 97 (List.range 37) 37 (Value.bool (false)), spV 98 (List.range 38) 38 (Value.bool (false)), spV 99 (List.range 39) 39 (Value.slice z3 m3 k3), spV 100 (List.range 39) 40 (Value.int .i64 ((i1 : Int))), spV 101 (List.range 41) 41 (elemPtr (Value.slice z3 m3 k3) ((i1 : Int)) (Enc.sz Int)), spV 102 (List.range 42) 42 (Value.int .i64 (x32)), spV 103 (List.range 43) 43 (Value.bool (decide (x32 ≤ 0))), spV 104 (List.range 44) 44 (Value.bool (decide (x32 ≤ 0))), spV 105 (List.range 45) 45 undef, spV 106 (List.range 45) 46 undef, spV 107 (List.range 47) 47 undef, spV 108 (List.range 48) 48 undef, spV 109 (List.range 45) 49 undef, spV 110 (List.range 45 ++ [49]) 50 undef, spV 111 (List.range 45) 51 undef, spV 112 (List.range 45 ++ [49, 50, 51]) 52 undef, spV 113 (List.range 45 ++ [49, 50, 51, 52]) 53 undef, spV 114 (List.range 45 ++ [49, 50, 51, 52, 53]) 54 undef, spV 115 (List.range 55) 55 undef, spV 116 (List.range 56) 56 (Value.bool (false)), spV 117 (List.range 57) 57 (Value.bool (false))]) (tks := [⟨none, none, [], fun vs_ => Row (α := Int) 3 (Value.slice z17 m17 k17) (x10.1)⟩]) (O := Row (α := Int) 3 (Value.slice z14 m14 k14) (x9.1) :: Fr) rfl (by kernel_rfl) (I1265.pull 1) ⟨?_, ?_, ?_, ?_, ?_, ?_, ?_, ?_, ?_, ?_, ?_, ?_, ?_, ?_, ?_, ?_, ?_, ?_, ?_, ?_, ?_, ?_, ?_, ?_, ?_, ?_, ?_, ?_, ?_, ?_, ?_, ?_, ?_, ?_, ?_, ?_, ?_, ?_, ?_, ?_, ?_, ?_, ?_, ?_, ?_, ?_, ?_, ?_, ?_, ?_, ?_, ?_, ?_, ?_, ?_, ?_, ?_, ?_, trivial⟩ ?_
          ·
           intro vs1594 f w1608 S1600 X1567 le1600 hA1567 hK1594 hI1595
           have I1620 : Inv w1608 S1600 (X1567) := hI1595
           refine opg_plain rfl rfl (op_move (v := (Value.slice z17 m17 k17)) rfl ((hK1594 7 (keep_of rfl)).trans e379) ?_)
           refine ⟨_, _, rfl, PH.Le.refl _, ?_, ?_⟩
           ·
            exact rfl
           ·
            exact I1620
          ·
           intro vs1595 f w1609 S1601 X1568 le1601 hA1568 hK1595 hI1596
           have I1621 : Inv w1609 S1601 (Row (α := Int) 3 (Value.slice z17 m17 k17) (x10.1) :: X1568) := hI1596
           have q2922 := vt (hA1568.at_ 0 rfl _ rfl) rfl
           refine opg_plain rfl rfl (op_len_row (α := Int) rfl Try.underlying26 q2922 (I1621.nth 0 rfl) ?_)
           refine ⟨_, _, rfl, PH.Le.refl _, ?_, ?_⟩
           ·
            exact rfl
           ·
            exact I1621
          ·
           intro vs1596 f w1610 S1602 X1569 le1602 hA1569 hK1596 hI1597
           have I1622 : Inv w1610 S1602 (X1569) := hI1597
           refine opg_plain rfl rfl (op_move (v := (Value.slice z3 m3 k3)) rfl ((hK1596 1 (keep_of rfl)).trans e376) ?_)
           refine ⟨_, _, rfl, PH.Le.refl _, ?_, ?_⟩
           ·
            exact rfl
           ·
            exact I1622
          ·
           intro vs1597 f w1611 S1603 X1570 le1603 hA1570 hK1597 hI1598
           have I1623 : Inv w1611 S1603 (X1570) := hI1598
           have q2923 := vt (hA1570.at_ 0 rfl _ rfl) rfl
           refine opg_plain rfl rfl (op_len_rv rfl Try.underlying26 q2923 (h1_.mono ((((le1.trans le2).trans le3).trans le1245).trans le1603)) ?_)
           refine ⟨_, _, rfl, PH.Le.refl _, ?_, ?_⟩
           ·
            exact rfl
           ·
            exact I1623
          ·
           intro vs1598 f w1612 S1604 X1571 le1604 hA1571 hK1598 hI1599
           have I1624 : Inv w1612 S1604 (X1571) := hI1599
           have q2924 := vt (hA1571.at_ 1 rfl _ rfl) rfl
           have q2925 := vt (hA1571.at_ 3 rfl _ rfl) rfl
           refine opg_plain rfl rfl (op_neq (a := (x10.1.length : Int)) (b := (a1.length : Int)) rfl q2924 q2925 ?_)
           refine ⟨_, _, rfl, PH.Le.refl _, ?_, ?_⟩
           ·
            exact rfl
           ·
            exact I1624
          ·
           intro vs1599 f w1613 S1605 X1572 le1605 hA1572 hK1599 hI1600
           have I1625 : Inv w1613 S1605 (X1572) := hI1600
           have q2926 := vt (hA1572.at_ 4 rfl _ rfl) rfl
           refine opg_plain rfl rfl (op_move (v := (Value.bool ((x10.1.length : Int) != (a1.length : Int)))) rfl q2926 ?_)
           refine ⟨_, _, rfl, PH.Le.refl _, ?_, ?_⟩
           ·
            exact rfl
           ·
            exact I1625
          ·
           intro vs1600 f w1614 S1606 X1573 le1606 hA1573 hK1600 hI1601
           have I1626 : Inv w1614 S1606 (X1573) := hI1601
           have q2927 := vt (hA1573.at_ 5 rfl _ rfl) rfl
           refine opg_taken (c := (x10.1.length : Int) != (a1.length : Int)) rfl rfl rfl rfl q2927 hc45 (op_move (v := (Value.slice z17 m17 k17)) rfl ((hK1600 7 (keep_of rfl)).trans e379) ?_)
           refine ⟨_, _, rfl, PH.Le.refl _, ?_, ?_⟩
           ·
            exact rfl
           ·
            exact I1626
          ·
           intro vs1601 f w1615 S1607 X1574 le1607 hA1574 hK1601 hI1602
           have I1627 : Inv w1615 S1607 (X1574) := hI1602
           have q2928 := vt (hA1574.at_ 5 rfl _ rfl) rfl
           refine opg_taken (c := (x10.1.length : Int) != (a1.length : Int)) rfl rfl rfl rfl q2928 hc45 (op_move (v := (Value.int .i64 ((i1 : Int)))) rfl ((hK1601 10 (keep_of rfl)).trans e381) ?_)
           refine ⟨_, _, rfl, PH.Le.refl _, ?_, ?_⟩
           ·
            exact rfl
           ·
            exact I1627
          ·
           intro vs1602 f w1616 S1608 X1575 le1608 hA1575 hK1602 hI1603
           have I1628 : Inv w1616 S1608 (Row (α := Int) 3 (Value.slice z17 m17 k17) (x10.1) :: X1575) := hI1603
           have q2929 := vt (hA1575.at_ 5 rfl _ rfl) rfl
           have q2930 := vt (hA1575.at_ 6 rfl _ rfl) rfl
           have q2931 := vt (hA1575.at_ 7 rfl _ rfl) rfl
           refine opg_taken (c := (x10.1.length : Int) != (a1.length : Int)) rfl rfl rfl rfl q2929 hc45 (op_indexAddr_src (v := (Value.slice z17 m17 k17)) (i := (i1 : Int)) (e := x30) rfl Try.underlying26 sh3 q2930 (Inv.rowSrc (I1628.nth 0 rfl)) q2931 hx30 ?_)
           refine ⟨_, _, rfl, PH.Le.refl _, ?_, ?_⟩
           ·
            exact rfl
           ·
            exact I1628
          ·
           intro vs1603 f w1617 S1609 X1576 le1609 hA1576 hK1603 hI1604
           have I1629 : Inv w1617 S1609 (Row (α := Int) 3 (Value.slice z17 m17 k17) (x10.1) :: X1576) := hI1604
           have q2932 := vt (hA1576.at_ 5 rfl _ rfl) rfl
           have q2933 := vt (hA1576.at_ 8 rfl _ rfl) rfl
           refine opg_taken (c := (x10.1.length : Int) != (a1.length : Int)) rfl rfl rfl rfl q2932 hc45 (op_load_int (v := (elemPtr (Value.slice z17 m17 k17) ((i1 : Int)) (Enc.sz Int))) (e := x30) rfl sh3 q2933 ((I1629.nth 0 rfl).rowElem hx30) ?_)
           refine ⟨_, _, rfl, PH.Le.refl _, ?_, ?_⟩
           ·
            exact rfl
           ·
            exact I1629
          ·
           intro vs1604 f w1618 S1610 X1577 le1610 hA1577 hK1604 hI1605
           have I1630 : Inv w1618 S1610 (X1577) := hI1605
           have q2934 := vt (hA1577.at_ 5 rfl _ rfl) rfl
           refine opg_taken (c := (x10.1.length : Int) != (a1.length : Int)) rfl rfl rfl rfl q2934 hc45 (op_fieldAddr_t (v := (Value.pointer (some ⟨g1, 0, none⟩))) rfl fa25_1 ((hK1604 2 (keep_of rfl)).trans e377) ((p1.mono (((le2.trans le3).trans le1245).trans le1610)).at_ I1630) ?_)
           refine ⟨_, _, rfl, PH.Le.refl _, ?_, ?_⟩
           ·
            exact rfl
           ·
            exact I1630
          ·
           intro vs1605 f w1619 S1611 X1578 le1611 hA1578 hK1605 hI1606
           have I1631 : Inv w1619 S1611 (X1578) := hI1606
           have q2935 := vt (hA1578.at_ 5 rfl _ rfl) rfl
           have q2936 := vt (hA1578.at_ 6 rfl _ rfl) rfl
           refine opg_taken (c := (x10.1.length : Int) != (a1.length : Int)) rfl rfl rfl rfl q2935 hc45 (op_load (v := (fieldPtr (Value.pointer (some ⟨g1, 0, none⟩)) 1)) (e := a0.Edges) rfl sh23 q2936 (((p1.mono (((le2.trans le3).trans le1245).trans le1611)).at_ I1631).fld Graph.fld1) (fun u366 hu366 => ?_))
           obtain ⟨z233, m233, k233, e468⟩ := rv_form hu366
           subst e468
           refine ⟨_, _, rfl, PH.Le.refl _, ?_, ?_⟩
           ·
            exact hu366
           ·
            exact I1631
          ·
           intro vs1606 f w1620 S1612 X1579 le1612 hA1579 hK1606 hI1607
           have I1632 : Inv w1620 S1612 (X1579) := hI1607
           have q2937 := vt (hA1579.at_ 5 rfl _ rfl) rfl
           refine opg_taken (c := (x10.1.length : Int) != (a1.length : Int)) rfl rfl rfl rfl q2937 hc45 (op_move (v := (Value.int .i64 ((i1 : Int)))) rfl ((hK1606 10 (keep_of rfl)).trans e381) ?_)
           refine ⟨_, _, rfl, PH.Le.refl _, ?_, ?_⟩
           ·
            exact rfl
           ·
            exact I1632
          ·
           intro vs1607 f w1621 S1613 X1580 le1613 hA1580 hK1607 hI1608
           have I1633 : Inv w1621 S1613 (X1580) := hI1608
           have q2938 := vt (hA1580.at_ 5 rfl _ rfl) rfl
           have q2939 : f 71 = vs1607 11 := (hA1580.at_ 7 rfl _ rfl).1 _ rfl
           have r144 : RV S1613 (vs1607 11) a0.Edges := (hA1580.at_ 7 rfl _ rfl).2
           obtain ⟨u367, hu367⟩ : ∃ u, vs1607 11 = u := ⟨_, rfl⟩
           rw [hu367] at q2939 r144
           obtain ⟨z234, m234, k234, e469⟩ := rv_form r144
           subst e469
           have q2940 := vt (hA1580.at_ 8 rfl _ rfl) rfl
           refine opg_taken (c := (x10.1.length : Int) != (a1.length : Int)) rfl rfl rfl rfl q2938 hc45 (op_indexAddr_rv (v := (Value.slice z234 m234 k234)) (i := (i1 : Int)) (e := x31) rfl Try.underlying23 sh40 q2939 r144 q2940 hx31 ?_)
           refine ⟨_, _, rfl, PH.Le.refl _, ?_, ?_⟩
           ·
            show (elemPtr (Value.slice z234 m234 k234) ((i1 : Int)) (Enc.sz (List Edge))) = (elemPtr (vs1607 11) ((i1 : Int)) (Enc.sz (List Edge)))
            simp only [hu367] <;> rfl
           ·
            exact I1633
          ·
           intro vs1608 f w1622 S1614 X1581 le1614 hA1581 hK1608 hI1609
           have I1634 : Inv w1622 S1614 (X1581) := hI1609
           have q2941 := vt (hA1581.at_ 5 rfl _ rfl) rfl
           have q2942 : f 71 = vs1608 11 := (hA1581.at_ 7 rfl _ rfl).1 _ rfl
           have r145 : RV S1614 (vs1608 11) a0.Edges := (hA1581.at_ 7 rfl _ rfl).2
           obtain ⟨u368, hu368⟩ : ∃ u, vs1608 11 = u := ⟨_, rfl⟩
           rw [hu368] at q2942 r145
           obtain ⟨z235, m235, k235, e470⟩ := rv_form r145
           subst e470
           have q2943 := vt (hA1581.at_ 8 rfl _ rfl) rfl
           have q2944 : f 73 = (elemPtr (vs1608 11) ((i1 : Int)) (Enc.sz (List Edge))) := vt (hA1581.at_ 9 rfl _ rfl) rfl
           simp only [hu368] at q2944
           have q2944 : f 73 = (elemPtr (Value.slice z235 m235 k235) ((i1 : Int)) (Enc.sz (List Edge))) := q2944
           refine opg_taken (c := (x10.1.length : Int) != (a1.length : Int)) rfl rfl rfl rfl q2941 hc45 (op_load (v := (elemPtr (Value.slice z235 m235 k235) ((i1 : Int)) (Enc.sz (List Edge)))) (e := x31) rfl sh40 q2944 (r145.elem I1634.in_ hx31) (fun u369 hu369 => ?_))
           obtain ⟨z236, m236, k236, e471⟩ := rv_form hu369
           subst e471
           refine ⟨_, _, rfl, PH.Le.refl _, ?_, ?_⟩
           ·
            exact hu369
           ·
            exact I1634
          ·
           intro vs1609 f w1623 S1615 X1582 le1615 hA1582 hK1609 hI1610
           have I1635 : Inv w1623 S1615 (X1582) := hI1610
           have q2945 := vt (hA1582.at_ 5 rfl _ rfl) rfl
           have q2946 : f 74 = vs1609 14 := (hA1582.at_ 10 rfl _ rfl).1 _ rfl
           have r146 : RV S1615 (vs1609 14) x31 := (hA1582.at_ 10 rfl _ rfl).2
           obtain ⟨u370, hu370⟩ : ∃ u, vs1609 14 = u := ⟨_, rfl⟩
           rw [hu370] at q2946 r146
           obtain ⟨z237, m237, k237, e472⟩ := rv_form r146
           subst e472
           refine opg_taken (c := (x10.1.length : Int) != (a1.length : Int)) rfl rfl rfl rfl q2945 hc45 (op_len_rv rfl Try.underlying40 q2946 r146 ?_)
           refine ⟨_, _, rfl, PH.Le.refl _, ?_, ?_⟩
           ·
            exact rfl
           ·
            exact I1635
          ·
           intro vs1610 f w1624 S1616 X1583 le1616 hA1583 hK1610 hI1611
           have I1636 : Inv w1624 S1616 (X1583) := hI1611
           have q2947 := vt (hA1583.at_ 5 rfl _ rfl) rfl
           have q2948 := vt (hA1583.at_ 9 rfl _ rfl) rfl
           have q2949 := vt (hA1583.at_ 15 rfl _ rfl) rfl
           refine opg_taken (c := (x10.1.length : Int) != (a1.length : Int)) rfl rfl rfl rfl q2947 hc45 (op_gtr (a := x30) (b := (x31.length : Int)) rfl q2948 q2949 ?_)
           refine ⟨_, _, rfl, PH.Le.refl _, ?_, ?_⟩
           ·
            exact rfl
           ·
            exact I1636
          ·
           intro vs1611 f w1625 S1617 X1584 le1617 hA1584 hK1611 hI1612
           have I1637 : Inv w1625 S1617 (X1584) := hI1612
           have q2950 := vt (hA1584.at_ 5 rfl _ rfl) rfl
           have q2951 := vt (hA1584.at_ 16 rfl _ rfl) rfl
           refine opg_plain rfl rfl (op_pick_f (c := (x10.1.length : Int) != (a1.length : Int)) (b := (Value.bool (decide ((x31.length : Int) < x30)))) rfl q2950 hc45 q2951 ?_)
           refine ⟨_, _, rfl, PH.Le.refl _, ?_, ?_⟩
           ·
            exact rfl
           ·
            exact I1637
          ·
           intro vs1612 f w1626 S1618 X1585 le1618 hA1585 hK1612 hI1613
           have I1638 : Inv w1626 S1618 (X1585) := hI1613
           have q2952 := vt (hA1585.at_ 17 rfl _ rfl) rfl
           refine opg_plain rfl rfl (op_move (v := (Value.bool (decide ((x31.length : Int) < x30)))) rfl q2952 ?_)
           refine ⟨_, _, rfl, PH.Le.refl _, ?_, ?_⟩
           ·
            exact rfl
           ·
            exact I1638
          ·
           intro vs1613 f w1627 S1619 X1586 le1619 hA1586 hK1613 hI1614
           have I1639 : Inv w1627 S1619 (X1586) := hI1614
           have q2953 := vt (hA1586.at_ 18 rfl _ rfl) rfl
           refine opg_taken (c := decide ((x31.length : Int) < x30)) rfl rfl rfl rfl q2953 hc46 (op_move (v := (Value.slice z3 m3 k3)) rfl ((hK1613 1 (keep_of rfl)).trans e376) ?_)
           refine ⟨_, _, rfl, PH.Le.refl _, ?_, ?_⟩
           ·
            exact rfl
           ·
            exact I1639
          ·
           intro vs1614 f w1628 S1620 X1587 le1620 hA1587 hK1614 hI1615
           have I1640 : Inv w1628 S1620 (X1587) := hI1615
           have q2954 := vt (hA1587.at_ 18 rfl _ rfl) rfl
           refine opg_taken (c := decide ((x31.length : Int) < x30)) rfl rfl rfl rfl q2954 hc46 (op_move (v := (Value.int .i64 ((i1 : Int)))) rfl ((hK1614 10 (keep_of rfl)).trans e381) ?_)
           refine ⟨_, _, rfl, PH.Le.refl _, ?_, ?_⟩
           ·
            exact rfl
           ·
            exact I1640
          ·
           intro vs1615 f w1629 S1621 X1588 le1621 hA1588 hK1615 hI1616
           have I1641 : Inv w1629 S1621 (X1588) := hI1616
           have q2955 := vt (hA1588.at_ 18 rfl _ rfl) rfl
           have q2956 := vt (hA1588.at_ 19 rfl _ rfl) rfl
           have q2957 := vt (hA1588.at_ 20 rfl _ rfl) rfl
           refine opg_taken (c := decide ((x31.length : Int) < x30)) rfl rfl rfl rfl q2955 hc46 (op_indexAddr_rv (v := (Value.slice z3 m3 k3)) (i := (i1 : Int)) (e := x32) rfl Try.underlying26 sh3 q2956 (h1_.mono ((((le1.trans le2).trans le3).trans le1245).trans le1621)) q2957 hx32 ?_)
           refine ⟨_, _, rfl, PH.Le.refl _, ?_, ?_⟩
           ·
            exact rfl
           ·
            exact I1641
          ·
           intro vs1616 f w1630 S1622 X1589 le1622 hA1589 hK1616 hI1617
           have I1642 : Inv w1630 S1622 (X1589) := hI1617
           have q2958 := vt (hA1589.at_ 18 rfl _ rfl) rfl
           have q2959 := vt (hA1589.at_ 21 rfl _ rfl) rfl
           refine opg_taken (c := decide ((x31.length : Int) < x30)) rfl rfl rfl rfl q2958 hc46 (op_load_int (v := (elemPtr (Value.slice z3 m3 k3) ((i1 : Int)) (Enc.sz Int))) (e := x32) rfl sh3 q2959 ((h1_.mono ((((le1.trans le2).trans le3).trans le1245).trans le1622)).elem I1642.in_ hx32) ?_)
           refine ⟨_, _, rfl, PH.Le.refl _, ?_, ?_⟩
           ·
            exact rfl
           ·
            exact I1642
          ·
           intro vs1617 f w1631 S1623 X1590 le1623 hA1590 hK1617 hI1618
           have I1643 : Inv w1631 S1623 (X1590) := hI1618
           have q2960 := vt (hA1590.at_ 18 rfl _ rfl) rfl
           have q2961 := vt (hA1590.at_ 22 rfl _ rfl) rfl
           refine opg_taken (c := decide ((x31.length : Int) < x30)) rfl rfl rfl rfl q2960 hc46 (op_gtr (a := x32) (b := 0) rfl q2961 rfl ?_)
           refine ⟨_, _, rfl, PH.Le.refl _, ?_, ?_⟩
           ·
            exact rfl
           ·
            exact I1643
          ·
           intro vs1618 f w1632 S1624 X1591 le1624 hA1591 hK1618 hI1619
           have I1644 : Inv w1632 S1624 (X1591) := hI1619
           have q2962 := vt (hA1591.at_ 18 rfl _ rfl) rfl
           have q2963 := vt (hA1591.at_ 23 rfl _ rfl) rfl
           refine opg_taken (c := decide ((x31.length : Int) < x30)) rfl rfl rfl rfl q2962 hc46 (op_move (v := (Value.bool (decide (0 < x32)))) rfl q2963 ?_)
           refine ⟨_, _, rfl, PH.Le.refl _, ?_, ?_⟩
           ·
            exact rfl
           ·
            exact I1644
          ·
           intro vs1619 f w1633 S1625 X1592 le1625 hA1592 hK1619 hI1620
           have I1645 : Inv w1633 S1625 (X1592) := hI1620
           have q2964 := vt (hA1592.at_ 24 rfl _ rfl) rfl
           exact opg_skip (c := decide (0 < x32)) rfl rfl rfl rfl q2964 hc47 rfl ⟨_, _, rfl, PH.Le.refl _, rfl, I1645⟩
          ·
           intro vs1620 f w1634 S1626 X1593 le1626 hA1593 hK1620 hI1621
           have I1646 : Inv w1634 S1626 (X1593) := hI1621
           have q2965 := vt (hA1593.at_ 24 rfl _ rfl) rfl
           exact opg_skip (c := decide (0 < x32)) rfl rfl rfl rfl q2965 hc47 rfl ⟨_, _, rfl, PH.Le.refl _, rfl, I1646⟩
          ·
           intro vs1621 f w1635 S1627 X1594 le1627 hA1594 hK1621 hI1622
           have I1647 : Inv w1635 S1627 (X1594) := hI1622
           have q2966 := vt (hA1594.at_ 24 rfl _ rfl) rfl
           have q2967 := vt (hA1594.at_ 25 rfl _ rfl) rfl
           have q2968 := vt (hA1594.at_ 26 rfl _ rfl) rfl
           exact opg_skip (c := decide (0 < x32)) rfl rfl rfl rfl q2966 hc47 rfl ⟨_, _, rfl, PH.Le.refl _, rfl, I1647⟩
          ·
           intro vs1622 f w1636 S1628 X1595 le1628 hA1595 hK1622 hI1623
           have I1648 : Inv w1636 S1628 (X1595) := hI1623
           have q2969 := vt (hA1595.at_ 24 rfl _ rfl) rfl
           have q2970 := vt (hA1595.at_ 27 rfl _ rfl) rfl
           exact opg_skip (c := decide (0 < x32)) rfl rfl rfl rfl q2969 hc47 rfl ⟨_, _, rfl, PH.Le.refl _, rfl, I1648⟩
          ·
           intro vs1623 f w1637 S1629 X1596 le1629 hA1596 hK1623 hI1624
           have I1649 : Inv w1637 S1629 (X1596) := hI1624
           have q2971 := vt (hA1596.at_ 24 rfl _ rfl) rfl
           exact opg_skip (c := decide (0 < x32)) rfl rfl rfl rfl q2971 hc47 rfl ⟨_, _, rfl, PH.Le.refl _, rfl, I1649⟩
          ·
           intro vs1624 f w1638 S1630 X1597 le1630 hA1597 hK1624 hI1625
           have I1650 : Inv w1638 S1630 (X1597) := hI1625
           have q2972 := vt (hA1597.at_ 24 rfl _ rfl) rfl
           have q2973 := vt (hA1597.at_ 25 rfl _ rfl) rfl
           exact opg_skip (c := decide (0 < x32)) rfl rfl rfl rfl q2972 hc47 rfl ⟨_, _, rfl, PH.Le.refl _, rfl, I1650⟩
          ·
           intro vs1625 f w1639 S1631 X1598 le1631 hA1598 hK1625 hI1626
           have I1651 : Inv w1639 S1631 (X1598) := hI1626
           have q2974 := vt (hA1598.at_ 24 rfl _ rfl) rfl
           exact opg_skip (c := decide (0 < x32)) rfl rfl rfl rfl q2974 hc47 rfl ⟨_, _, rfl, PH.Le.refl _, rfl, I1651⟩
          ·
           intro vs1626 f w1640 S1632 X1599 le1632 hA1599 hK1626 hI1627
           have I1652 : Inv w1640 S1632 (X1599) := hI1627
           have q2975 := vt (hA1599.at_ 24 rfl _ rfl) rfl
           have q2976 := vt (hA1599.at_ 26 rfl _ rfl) rfl
           have q2977 := vt (hA1599.at_ 27 rfl _ rfl) rfl
           exact opg_skip (c := decide (0 < x32)) rfl rfl rfl rfl q2975 hc47 rfl ⟨_, _, rfl, PH.Le.refl _, rfl, I1652⟩
          ·
           intro vs1627 f w1641 S1633 X1600 le1633 hA1600 hK1627 hI1628
           have I1653 : Inv w1641 S1633 (X1600) := hI1628
           have q2978 := vt (hA1600.at_ 24 rfl _ rfl) rfl
           have q2979 := vt (hA1600.at_ 28 rfl _ rfl) rfl
           exact opg_skip (c := decide (0 < x32)) rfl rfl rfl rfl q2978 hc47 rfl ⟨_, _, rfl, PH.Le.refl _, rfl, I1653⟩
          ·
           intro vs1628 f w1642 S1634 X1601 le1634 hA1601 hK1628 hI1629
           have I1654 : Inv w1642 S1634 (X1601) := hI1629
           have q2980 := vt (hA1601.at_ 24 rfl _ rfl) rfl
           have q2981 := vt (hA1601.at_ 29 rfl _ rfl) rfl
           exact opg_skip (c := decide (0 < x32)) rfl rfl rfl rfl q2980 hc47 rfl ⟨_, _, rfl, PH.Le.refl _, rfl, I1654⟩
          ·
           intro vs1629 f w1643 S1635 X1602 le1635 hA1602 hK1629 hI1630
           have I1655 : Inv w1643 S1635 (X1602) := hI1630
           have q2982 := vt (hA1602.at_ 24 rfl _ rfl) rfl
           have q2983 := vt (hA1602.at_ 28 rfl _ rfl) rfl
           have q2984 := vt (hA1602.at_ 34 rfl _ rfl) rfl
           exact opg_skip (c := decide (0 < x32)) rfl rfl rfl rfl q2982 hc47 rfl ⟨_, _, rfl, PH.Le.refl _, rfl, I1655⟩
          ·
           intro vs1630 f w1644 S1636 X1603 le1636 hA1603 hK1630 hI1631
           have I1656 : Inv w1644 S1636 (X1603) := hI1631
           have q2985 := vt (hA1603.at_ 18 rfl _ rfl) rfl
           have q2986 := vt (hA1603.at_ 24 rfl _ rfl) rfl
           have q2987 := vt (hA1603.at_ 35 rfl _ rfl) rfl
           refine opg_taken (c := decide ((x31.length : Int) < x30)) rfl rfl rfl rfl q2985 hc46 (op_pick_f (c := decide (0 < x32)) (b := (Value.bool (false))) rfl q2986 hc47 rfl ?_)
           refine ⟨_, _, rfl, PH.Le.refl _, ?_, ?_⟩
           ·
            exact rfl
           ·
            exact I1656
          ·
           intro vs1631 f w1645 S1637 X1604 le1637 hA1604 hK1631 hI1632
           have I1657 : Inv w1645 S1637 (X1604) := hI1632
           have q2988 := vt (hA1604.at_ 18 rfl _ rfl) rfl
           have q2989 := vt (hA1604.at_ 36 rfl _ rfl) rfl
           refine opg_plain rfl rfl (op_pick_f (c := decide ((x31.length : Int) < x30)) (b := (Value.bool (false))) rfl q2988 hc46 q2989 ?_)
           refine ⟨_, _, rfl, PH.Le.refl _, ?_, ?_⟩
           ·
            exact rfl
           ·
            exact I1657
          ·
           intro vs1632 f w1646 S1638 X1605 le1638 hA1605 hK1632 hI1633
           have I1658 : Inv w1646 S1638 (X1605) := hI1633
           have q2990 := vt (hA1605.at_ 37 rfl _ rfl) rfl
           refine opg_plain rfl rfl (op_move (v := (Value.bool (false))) rfl q2990 ?_)
           refine ⟨_, _, rfl, PH.Le.refl _, ?_, ?_⟩
           ·
            exact rfl
           ·
            exact I1658
          ·
           intro vs1633 f w1647 S1639 X1606 le1639 hA1606 hK1633 hI1634
           have I1659 : Inv w1647 S1639 (X1606) := hI1634
           have q2991 := vt (hA1606.at_ 38 rfl _ rfl) rfl
           refine opg_taken (c := false) rfl rfl rfl rfl q2991 rfl (op_move (v := (Value.slice z3 m3 k3)) rfl ((hK1633 1 (keep_of rfl)).trans e376) ?_)
           refine ⟨_, _, rfl, PH.Le.refl _, ?_, ?_⟩
           ·
            exact rfl
           ·
            exact I1659
          ·
           intro vs1634 f w1648 S1640 X1607 le1640 hA1607 hK1634 hI1635
           have I1660 : Inv w1648 S1640 (X1607) := hI1635
           have q2992 := vt (hA1607.at_ 38 rfl _ rfl) rfl
           refine opg_taken (c := false) rfl rfl rfl rfl q2992 rfl (op_move (v := (Value.int .i64 ((i1 : Int)))) rfl ((hK1634 10 (keep_of rfl)).trans e381) ?_)
           refine ⟨_, _, rfl, PH.Le.refl _, ?_, ?_⟩
           ·
            exact rfl
           ·
            exact I1660
          ·
           intro vs1635 f w1649 S1641 X1608 le1641 hA1608 hK1635 hI1636
           have I1661 : Inv w1649 S1641 (X1608) := hI1636
           have q2993 := vt (hA1608.at_ 38 rfl _ rfl) rfl
           have q2994 := vt (hA1608.at_ 39 rfl _ rfl) rfl
           have q2995 := vt (hA1608.at_ 40 rfl _ rfl) rfl
           refine opg_taken (c := false) rfl rfl rfl rfl q2993 rfl (op_indexAddr_rv (v := (Value.slice z3 m3 k3)) (i := (i1 : Int)) (e := x32) rfl Try.underlying26 sh3 q2994 (h1_.mono ((((le1.trans le2).trans le3).trans le1245).trans le1641)) q2995 hx32 ?_)
           refine ⟨_, _, rfl, PH.Le.refl _, ?_, ?_⟩
           ·
            exact rfl
           ·
            exact I1661
          ·
           intro vs1636 f w1650 S1642 X1609 le1642 hA1609 hK1636 hI1637
           have I1662 : Inv w1650 S1642 (X1609) := hI1637
           have q2996 := vt (hA1609.at_ 38 rfl _ rfl) rfl
           have q2997 := vt (hA1609.at_ 41 rfl _ rfl) rfl
           refine opg_taken (c := false) rfl rfl rfl rfl q2996 rfl (op_load_int (v := (elemPtr (Value.slice z3 m3 k3) ((i1 : Int)) (Enc.sz Int))) (e := x32) rfl sh3 q2997 ((h1_.mono ((((le1.trans le2).trans le3).trans le1245).trans le1642)).elem I1662.in_ hx32) ?_)
           refine ⟨_, _, rfl, PH.Le.refl _, ?_, ?_⟩
           ·
            exact rfl
           ·
            exact I1662
          ·
           intro vs1637 f w1651 S1643 X1610 le1643 hA1610 hK1637 hI1638
           have I1663 : Inv w1651 S1643 (X1610) := hI1638
           have q2998 := vt (hA1610.at_ 38 rfl _ rfl) rfl
           have q2999 := vt (hA1610.at_ 42 rfl _ rfl) rfl
           refine opg_taken (c := false) rfl rfl rfl rfl q2998 rfl (op_leq (a := x32) (b := 0) rfl q2999 rfl ?_)
           refine ⟨_, _, rfl, PH.Le.refl _, ?_, ?_⟩
           ·
            exact rfl
           ·
            exact I1663
          ·
           intro vs1638 f w1652 S1644 X1611 le1644 hA1611 hK1638 hI1639
           have I1664 : Inv w1652 S1644 (X1611) := hI1639
           have q3000 := vt (hA1611.at_ 38 rfl _ rfl) rfl
           have q3001 := vt (hA1611.at_ 43 rfl _ rfl) rfl
           refine opg_taken (c := false) rfl rfl rfl rfl q3000 rfl (op_move (v := (Value.bool (decide (x32 ≤ 0)))) rfl q3001 ?_)
           refine ⟨_, _, rfl, PH.Le.refl _, ?_, ?_⟩
           ·
            exact rfl
           ·
            exact I1664
          ·
           intro vs1639 f w1653 S1645 X1612 le1645 hA1612 hK1639 hI1640
           have I1665 : Inv w1653 S1645 (X1612) := hI1640
           have q3002 := vt (hA1612.at_ 44 rfl _ rfl) rfl
           exact opg_skip (c := decide (x32 ≤ 0)) rfl rfl rfl rfl q3002 hc51 rfl ⟨_, _, rfl, PH.Le.refl _, rfl, I1665⟩
          ·
           intro vs1640 f w1654 S1646 X1613 le1646 hA1613 hK1640 hI1641
           have I1666 : Inv w1654 S1646 (X1613) := hI1641
           have q3003 := vt (hA1613.at_ 44 rfl _ rfl) rfl
           exact opg_skip (c := decide (x32 ≤ 0)) rfl rfl rfl rfl q3003 hc51 rfl ⟨_, _, rfl, PH.Le.refl _, rfl, I1666⟩
          ·
           intro vs1641 f w1655 S1647 X1614 le1647 hA1614 hK1641 hI1642
           have I1667 : Inv w1655 S1647 (X1614) := hI1642
           have q3004 := vt (hA1614.at_ 44 rfl _ rfl) rfl
           have q3005 := vt (hA1614.at_ 45 rfl _ rfl) rfl
           have q3006 := vt (hA1614.at_ 46 rfl _ rfl) rfl
           exact opg_skip (c := decide (x32 ≤ 0)) rfl rfl rfl rfl q3004 hc51 rfl ⟨_, _, rfl, PH.Le.refl _, rfl, I1667⟩
          ·
           intro vs1642 f w1656 S1648 X1615 le1648 hA1615 hK1642 hI1643
           have I1668 : Inv w1656 S1648 (X1615) := hI1643
           have q3007 := vt (hA1615.at_ 44 rfl _ rfl) rfl
           have q3008 := vt (hA1615.at_ 47 rfl _ rfl) rfl
           exact opg_skip (c := decide (x32 ≤ 0)) rfl rfl rfl rfl q3007 hc51 rfl ⟨_, _, rfl, PH.Le.refl _, rfl, I1668⟩
          ·
           intro vs1643 f w1657 S1649 X1616 le1649 hA1616 hK1643 hI1644
           have I1669 : Inv w1657 S1649 (X1616) := hI1644
           have q3009 := vt (hA1616.at_ 44 rfl _ rfl) rfl
           exact opg_skip (c := decide (x32 ≤ 0)) rfl rfl rfl rfl q3009 hc51 rfl ⟨_, _, rfl, PH.Le.refl _, rfl, I1669⟩
          ·
           intro vs1644 f w1658 S1650 X1617 le1650 hA1617 hK1644 hI1645
           have I1670 : Inv w1658 S1650 (X1617) := hI1645
           have q3010 := vt (hA1617.at_ 44 rfl _ rfl) rfl
           have q3011 := vt (hA1617.at_ 45 rfl _ rfl) rfl
           exact opg_skip (c := decide (x32 ≤ 0)) rfl rfl rfl rfl q3010 hc51 rfl ⟨_, _, rfl, PH.Le.refl _, rfl, I1670⟩
          ·
           intro vs1645 f w1659 S1651 X1618 le1651 hA1618 hK1645 hI1646
           have I1671 : Inv w1659 S1651 (X1618) := hI1646
           have q3012 := vt (hA1618.at_ 44 rfl _ rfl) rfl
           exact opg_skip (c := decide (x32 ≤ 0)) rfl rfl rfl rfl q3012 hc51 rfl ⟨_, _, rfl, PH.Le.refl _, rfl, I1671⟩
          ·
           intro vs1646 f w1660 S1652 X1619 le1652 hA1619 hK1646 hI1647
           have I1672 : Inv w1660 S1652 (X1619) := hI1647
           have q3013 := vt (hA1619.at_ 44 rfl _ rfl) rfl
           have q3014 := vt (hA1619.at_ 46 rfl _ rfl) rfl
           have q3015 := vt (hA1619.at_ 47 rfl _ rfl) rfl
           exact opg_skip (c := decide (x32 ≤ 0)) rfl rfl rfl rfl q3013 hc51 rfl ⟨_, _, rfl, PH.Le.refl _, rfl, I1672⟩
          ·
           intro vs1647 f w1661 S1653 X1620 le1653 hA1620 hK1647 hI1648
           have I1673 : Inv w1661 S1653 (X1620) := hI1648
           have q3016 := vt (hA1620.at_ 44 rfl _ rfl) rfl
           have q3017 := vt (hA1620.at_ 48 rfl _ rfl) rfl
           exact opg_skip (c := decide (x32 ≤ 0)) rfl rfl rfl rfl q3016 hc51 rfl ⟨_, _, rfl, PH.Le.refl _, rfl, I1673⟩
          ·
           intro vs1648 f w1662 S1654 X1621 le1654 hA1621 hK1648 hI1649
           have I1674 : Inv w1662 S1654 (X1621) := hI1649
           have q3018 := vt (hA1621.at_ 44 rfl _ rfl) rfl
           have q3019 := vt (hA1621.at_ 49 rfl _ rfl) rfl
           exact opg_skip (c := decide (x32 ≤ 0)) rfl rfl rfl rfl q3018 hc51 rfl ⟨_, _, rfl, PH.Le.refl _, rfl, I1674⟩
          ·
           intro vs1649 f w1663 S1655 X1622 le1655 hA1622 hK1649 hI1650
           have I1675 : Inv w1663 S1655 (X1622) := hI1650
           have q3020 := vt (hA1622.at_ 44 rfl _ rfl) rfl
           have q3021 := vt (hA1622.at_ 48 rfl _ rfl) rfl
           have q3022 := vt (hA1622.at_ 54 rfl _ rfl) rfl
           exact opg_skip (c := decide (x32 ≤ 0)) rfl rfl rfl rfl q3020 hc51 rfl ⟨_, _, rfl, PH.Le.refl _, rfl, I1675⟩
          ·
           intro vs1650 f w1664 S1656 X1623 le1656 hA1623 hK1650 hI1651
           have I1676 : Inv w1664 S1656 (X1623) := hI1651
           have q3023 := vt (hA1623.at_ 38 rfl _ rfl) rfl
           have q3024 := vt (hA1623.at_ 44 rfl _ rfl) rfl
           have q3025 := vt (hA1623.at_ 55 rfl _ rfl) rfl
           refine opg_taken (c := false) rfl rfl rfl rfl q3023 rfl (op_pick_f (c := decide (x32 ≤ 0)) (b := (Value.bool (false))) rfl q3024 hc51 rfl ?_)
           refine ⟨_, _, rfl, PH.Le.refl _, ?_, ?_⟩
           ·
            exact rfl
           ·
            exact I1676
          ·
           intro vs1651 f w1665 S1657 X1624 le1657 hA1624 hK1651 hI1652
           have I1677 : Inv w1665 S1657 (X1624) := hI1652
           have q3026 := vt (hA1624.at_ 38 rfl _ rfl) rfl
           have q3027 := vt (hA1624.at_ 56 rfl _ rfl) rfl
           refine opg_plain rfl rfl (op_pick_f (c := false) (b := (Value.bool (false))) rfl q3026 rfl q3027 ?_)
           refine ⟨_, _, rfl, PH.Le.refl _, ?_, ?_⟩
           ·
            exact rfl
           ·
            exact I1677
          ·
           intro vs1652 f w1666 S1658 le1658 hF28 hK1652 hI1653
           have e473 : f 1 = (Value.slice z3 m3 k3) := (hK1652 1 (keep_all rfl)).trans e376
           have e474 : f 2 = (Value.pointer (some ⟨g1, 0, none⟩)) := (hK1652 2 (keep_all rfl)).trans e377
           have e475 : f 5 = (Value.slice z14 m14 k14) := (hK1652 5 (keep_all rfl)).trans e378
           have e476 : f 7 = (Value.slice z17 m17 k17) := (hK1652 7 (keep_all rfl)).trans e379
           have e477 : f 9 = (Value.int .i64 (v10)) := (hK1652 9 (keep_all rfl)).trans e380
           have e478 : f 10 = (Value.int .i64 ((i1 : Int))) := (hK1652 10 (keep_all rfl)).trans e381
           have I1678 : Inv w1666 S1658 (Row (α := Int) 3 (Value.slice z17 m17 k17) (x10.1) :: Row (α := Int) 3 (Value.slice z14 m14 k14) (x9.1) :: Fr) := hI1653
           have q3028 := vt (hF28.at_ 57 rfl _ rfl) rfl
           refine wp_cond_f (b := false) q3028 rfl ?_
           refine wp_skip' ?_
           refine wp_region' ?_
           refine wl_op rfl (op_move (v := (Value.int .i64 ((i1 : Int)))) rfl e478 ?_)
           refine wl_op rfl (op_add (a := (i1 : Int)) (b := 1) rfl rfl rfl ?_)
           refine wl_op rfl (op_assign (v := (Value.int .i64 (w64 ((i1 : Int) + 1)))) rfl rfl ?_)
           refine wl_nil ?_
           obtain rfl := Option.some.inj h22
           exact ⟨_, rfl, _, (le1245.trans le1658), (I1678.pull 1), e473, e474, e475, e476, e477, (idx_next hlt1 hk1)⟩
    ·
     rintro s2 f w hs1 hI1654
     obtain ⟨S1659, le1659, I1679, e479, e480, e481, e482, e483, e484⟩ := hI1654
     refine wp_seq' ?_
     refine wp_seq' ?_
     refine wp_region' ?_
     refine wl_op rfl (op_move (v := (Value.int .i64 ((a1.length : Int)))) rfl e484 ?_)
     refine wl_op rfl (op_move (v := (Value.slice z3 m3 k3)) rfl e479 ?_)
     refine wl_op rfl (op_len_rv rfl Try.underlying26 rfl (h1_.mono (((le1.trans le2).trans le3).trans le1659)) ?_)
     refine wl_op rfl (op_lss (a := (a1.length : Int)) (b := (a1.length : Int)) rfl rfl rfl ?_)
     refine wl_nil ?_
     refine wp_cond_f (b := decide ((a1.length : Int) < (a1.length : Int))) rfl (len_f _) ?_
     refine wp_exit' ?_
     exact ⟨s2, hs1, _, le1659, ((I1679.pull 1).pull 1), e479, e480, e481, e482, e483⟩
   ·
    rintro f w ⟨out1, rfl, S1660, le1660, I1680, e485, e486, e487, e488, e489⟩
    have h := onL_inl h
    refine wp_seq' ?_
    refine wp_seq' ?_
    refine wp_region' ?_
    refine wl_op rfl (op_assign (v := (Value.int .i64 (0))) rfl rfl ?_)
    refine wl_nil ?_
    have hk2 : x9.1.length ≤ 9223372036854775807 := (row_len (I1680.nth 0 rfl))
    obtain ⟨o4, hrun2, h⟩ := bnd h
    refine wp_cutN (fun f w => ∃ out2, o4 = Sum.inl out2 ∧ Inv w S1660 (Row (α := Int) 3 (Value.slice z14 m14 k14) (x9.1) :: Fr) ∧ f 1 = (Value.slice z3 m3 k3) ∧ f 2 = (Value.pointer (some ⟨g1, 0, none⟩)) ∧ f 5 = (Value.slice z14 m14 k14) ∧ f 9 = (Value.int .i64 (out2))) ?_ ?_
    ·
     refine wp_block' ?_
     refine wp_forN (I := fun (i2 : Nat) (s3 : (Int)) (f : Frm) (w : World) => Inv w S1660 (Row (α := Int) 3 (Value.slice z14 m14 k14) (x9.1) :: Fr) ∧ f 1 = (Value.slice z3 m3 k3) ∧ f 2 = (Value.pointer (some ⟨g1, 0, none⟩)) ∧ f 5 = (Value.slice z14 m14 k14) ∧ f 9 = (Value.int .i64 (s3)) ∧ f 11 = (Value.int .i64 (i2 : Int))) hrun2 ⟨(I1680.pull 1).drop, e485, e486, e487, e489, rfl⟩ ?_ ?_
     ·
      rintro i2 s3 f w o3 hlt2 hI1655 h27 hout2
      obtain ⟨I1684, e505, e506, e507, e508, e509⟩ := hI1655
      refine wp_seq' ?_
      refine wp_seq' ?_
      refine wp_region' ?_
      refine wl_op rfl (op_move (v := (Value.int .i64 ((i2 : Int)))) rfl e509 ?_)
      refine wl_op rfl (op_move (v := (Value.slice z14 m14 k14)) rfl e507 ?_)
      refine wl_op rfl (op_len_row (α := Int) rfl Try.underlying26 rfl (I1684.nth 0 rfl) ?_)
      refine wl_op rfl (op_lss (a := (i2 : Int)) (b := (x9.1.length : Int)) rfl rfl rfl ?_)
      refine wl_nil ?_
      refine wp_cond_t (b := decide ((i2 : Int) < (x9.1.length : Int))) rfl (len_t hlt2) ?_
      refine wp_skip' ?_
      refine wp_seq' ?_
      refine wp_block' ?_
      refine wp_seq' ?_
      refine wp_seq' ?_
      refine wp_region' ?_
      refine wl_op rfl (op_move (v := (Value.slice z14 m14 k14)) rfl e507 ?_)
      refine wl_op rfl (op_move (v := (Value.int .i64 ((i2 : Int)))) rfl e509 ?_)
      obtain ⟨x39, hx39, h27⟩ := bnd h27
      refine wl_op rfl (op_indexAddr_src (v := (Value.slice z14 m14 k14)) (i := (i2 : Int)) (e := x39) rfl Try.underlying26 sh3 rfl (Inv.rowSrc (I1684.nth 0 rfl)) rfl hx39 ?_)
      refine wl_op rfl (op_load_int (v := (elemPtr (Value.slice z14 m14 k14) ((i2 : Int)) (Enc.sz Int))) (e := x39) rfl sh3 rfl ((I1684.nth 0 rfl).rowElem hx39) ?_)
      refine wl_op rfl (op_lss (a := x39) (b := 1) rfl rfl rfl ?_)
      refine wl_nil ?_
      rcases ifs h27 with ⟨hc56, h27⟩ | ⟨hc56, h27⟩
      ·
       refine wp_cond_t (b := decide (x39 < 1)) rfl hc56 ?_
       refine wp_seq' ?_
       refine wp_region' ?_
       refine wl_op rfl (op_assign (v := (Value.bool (false))) rfl rfl ?_)
       refine wl_nil ?_
       refine wp_ret' ?_
       obtain rfl := Option.some.inj h27
       obtain rfl := (hout2 _ rfl)
       have h28 := h
       obtain rfl := Option.some.inj h28
       exact ⟨(Value.bool (false)), (res1 rfl rfl), _, [], (((le1.trans le2).trans le3).trans le1660), (I1684).drop, rfl, rfl⟩
      ·
       refine wp_cond_f (b := decide (x39 < 1)) rfl hc56 ?_
       refine wp_skip' ?_
       refine wp_region' ?_
       refine wl_op rfl (op_move (v := (Value.int .i64 (s3))) rfl e508 ?_)
       refine wl_op rfl (op_move (v := (Value.slice z14 m14 k14)) rfl e507 ?_)
       refine wl_op rfl (op_move (v := (Value.int .i64 ((i2 : Int)))) rfl e509 ?_)
       obtain ⟨x40, hx40, h27⟩ := bnd h27
       refine wl_op rfl (op_indexAddr_src (v := (Value.slice z14 m14 k14)) (i := (i2 : Int)) (e := x40) rfl Try.underlying26 sh3 rfl (Inv.rowSrc (I1684.nth 0 rfl)) rfl hx40 ?_)
       refine wl_op rfl (op_load_int (v := (elemPtr (Value.slice z14 m14 k14) ((i2 : Int)) (Enc.sz Int))) (e := x40) rfl sh3 rfl ((I1684.nth 0 rfl).rowElem hx40) ?_)
       refine wl_op rfl (op_sub (a := s3) (b := x40) rfl rfl rfl ?_)
       refine wl_op rfl (op_assign (v := (Value.int .i64 (w64 (s3 - x40)))) rfl rfl ?_)
       refine wl_nil ?_
       refine wp_region' ?_
       refine wl_op rfl (op_move (v := (Value.int .i64 ((i2 : Int)))) rfl e509 ?_)
       refine wl_op rfl (op_add (a := (i2 : Int)) (b := 1) rfl rfl rfl ?_)
       refine wl_op rfl (op_assign (v := (Value.int .i64 (w64 ((i2 : Int) + 1)))) rfl rfl ?_)
       refine wl_nil ?_
       obtain rfl := Option.some.inj h27
       exact ⟨_, rfl, I1684, e505, e506, e507, rfl, (idx_next hlt2 hk2)⟩
     ·
      rintro s4 f w hs2 hI1656
      obtain ⟨I1685, e510, e511, e512, e513, e514⟩ := hI1656
      refine wp_seq' ?_
      refine wp_seq' ?_
      refine wp_region' ?_
      refine wl_op rfl (op_move (v := (Value.int .i64 ((x9.1.length : Int)))) rfl e514 ?_)
      refine wl_op rfl (op_move (v := (Value.slice z14 m14 k14)) rfl e512 ?_)
      refine wl_op rfl (op_len_row (α := Int) rfl Try.underlying26 rfl (I1685.nth 0 rfl) ?_)
      refine wl_op rfl (op_lss (a := (x9.1.length : Int)) (b := (x9.1.length : Int)) rfl rfl rfl ?_)
      refine wl_nil ?_
      refine wp_cond_f (b := decide ((x9.1.length : Int) < (x9.1.length : Int))) rfl (len_f _) ?_
      refine wp_exit' ?_
      exact ⟨s4, hs2, I1685, e510, e511, e512, e513⟩
    ·
     rintro f w ⟨out2, rfl, I1686, e515, e516, e517, e518⟩
     have h := onL_inl h
     refine wp_seq' ?_
     refine wp_region' ?_
     refine wl_op rfl (op_load (v := (Value.pointer (some ⟨g1, 0, none⟩))) (e := a0) rfl sh25 e516 ((p1.mono ((le2.trans le3).trans le1660)).at_ I1686) (fun u371 hu371 => ?_))
     obtain ⟨c15, c16, e519, r147, r148⟩ := Graph.inv hu371
     subst e519
     obtain ⟨z238, m238, k238, e520⟩ := rv_form r147
     subst e520
     obtain ⟨z239, m239, k239, e521⟩ := rv_form r148
     subst e521
     refine wl_op rfl (op_move (v := (Value.slice z3 m3 k3)) rfl e515 ?_)
     obtain ⟨x41, hx41, h⟩ := bnd h
     refine wl_op rfl (op_call (vs := [(Value.agg #[(Value.slice z238 m238 k238), (Value.slice z239 m239 k239)]), (Value.slice z3 m3 k3)]) rfl ca35 rfl (args2 rfl rfl) (F35_ok I1686 (Graph.rv (s := a0) r147 r148) (h1_.mono (((le1.trans le2).trans le3).trans le1660)) hx41) (fun v11 w1667 S1661 O3 le1661 I1687 hv3 => ?_))
     obtain ⟨z240, m240, k240, rfl, rfl⟩ := hv3
     refine wl_op rfl (op_move (v := (Value.tuple #[(Value.slice z240 m240 k240), (Value.int .i64 (x41.2))])) rfl rfl ?_)
     refine wl_op rfl (op_extract (v := (Value.slice z240 m240 k240)) rfl rfl rfl ?_)
     refine wl_op rfl (op_extract (v := (Value.int .i64 (x41.2))) rfl rfl rfl ?_)
     refine wl_op rfl (op_assign (v := (Value.slice z240 m240 k240)) rfl rfl ?_)
     refine wl_op rfl (op_assign (v := (Value.int .i64 (x41.2))) rfl rfl ?_)
     refine wl_nil ?_
     refine wp_seq' ?_
     refine wp_seq' ?_
     refine wp_region' ?_
     refine wl_op rfl (op_move (v := (Value.slice z3 m3 k3)) rfl e515 ?_)
     obtain ⟨x42, hx42, h⟩ := bnd h
     refine wl_op rfl (op_indexAddr_rv (v := (Value.slice z3 m3 k3)) (i := 0) (e := x42) rfl Try.underlying26 sh3 rfl (h1_.mono ((((le1.trans le2).trans le3).trans le1660).trans le1661)) rfl hx42 ?_)
     refine wl_op rfl (op_load_int (v := (elemPtr (Value.slice z3 m3 k3) (0) (Enc.sz Int))) (e := x42) rfl sh3 rfl ((h1_.mono ((((le1.trans le2).trans le3).trans le1660).trans le1661)).elem I1687.in_ hx42) ?_)
     refine wl_op rfl (op_lss (a := x42) (b := 0) rfl rfl rfl ?_)
     refine wl_nil ?_
     rcases ifs h with ⟨hc57, h⟩ | ⟨hc57, h⟩
     ·
      refine wp_cond_t (b := decide (x42 < 0)) rfl hc57 ?_
      refine wp_seq' ?_
      refine wp_region' ?_
      refine wl_op rfl (op_move (v := (Value.int .i64 (x41.2))) rfl rfl ?_)
      refine wl_op rfl (op_eql (a := x41.2) (b := 3) rfl rfl rfl ?_)
      refine wl_op rfl (op_move (v := (Value.bool (x41.2 == 3))) rfl rfl ?_)
      rcases ifs h with ⟨hc58, h⟩ | ⟨hc58, h⟩
      ·
       refine wl_taken (c := x41.2 == 3) rfl rfl rfl rfl hc58 (op_move (v := (Value.int .i64 (out2))) rfl e518 ?_)
       refine wl_taken (c := x41.2 == 3) rfl rfl rfl rfl hc58 (op_eql (a := out2) (b := 0) rfl rfl rfl ?_)
       refine wl_op rfl (op_pick_t (c := x41.2 == 3) (a := (Value.bool (out2 == 0))) rfl rfl hc58 rfl ?_)
       refine wl_op rfl (op_move (v := (Value.bool (out2 == 0))) rfl rfl ?_)
       rcases ifs h with ⟨hc59, h⟩ | ⟨hc59, h⟩
       ·
        obtain ⟨x43, hx43, h⟩ := bnd h
        refine wl_taken (c := out2 == 0) rfl rfl rfl rfl hc59 (op_call_v (vs := []) (r := (Value.bool (x43))) rfl ca17 rfl args0 I1687 (fun Fr_ hF_ => F17_ok hF_  hx43) (fun w1668 I1688 => ?_))
        refine wl_op rfl (op_pick_t (c := out2 == 0) (a := (Value.bool (x43))) rfl rfl hc59 rfl ?_)
        refine wl_op rfl (op_assign (v := (Value.bool (x43))) rfl rfl ?_)
        refine wl_nil ?_
        refine wp_ret' ?_
        obtain rfl := Option.some.inj h
        exact ⟨(Value.bool (x43)), (res1 rfl rfl), _, [], ((((le1.trans le2).trans le3).trans le1660).trans le1661), ((I1688).drop).drop, rfl, rfl⟩
       ·
        refine wl_skip (c := out2 == 0) rfl rfl rfl rfl hc59 rfl ?_
        refine wl_op rfl (op_pick_f (c := out2 == 0) (b := (Value.bool (false))) rfl rfl hc59 rfl ?_)
        refine wl_op rfl (op_assign (v := (Value.bool (false))) rfl rfl ?_)
        refine wl_nil ?_
        refine wp_ret' ?_
        obtain rfl := Option.some.inj h
        exact ⟨(Value.bool (false)), (res1 rfl rfl), _, [], ((((le1.trans le2).trans le3).trans le1660).trans le1661), ((I1687).drop).drop, rfl, rfl⟩
      ·
       refine wl_skip (c := x41.2 == 3) rfl rfl rfl rfl hc58 rfl ?_
       refine wl_skip (c := x41.2 == 3) rfl rfl rfl rfl hc58 rfl ?_
       refine wl_op rfl (op_pick_f (c := x41.2 == 3) (b := (Value.bool (false))) rfl rfl hc58 rfl ?_)
       refine wl_op rfl (op_move (v := (Value.bool (false))) rfl rfl ?_)
       refine wl_skip (c := false) rfl rfl rfl rfl rfl rfl ?_
       refine wl_op rfl (op_pick_f (c := false) (b := (Value.bool (false))) rfl rfl rfl rfl ?_)
       refine wl_op rfl (op_assign (v := (Value.bool (false))) rfl rfl ?_)
       refine wl_nil ?_
       refine wp_ret' ?_
       obtain rfl := Option.some.inj h
       exact ⟨(Value.bool (false)), (res1 rfl rfl), _, [], ((((le1.trans le2).trans le3).trans le1660).trans le1661), ((I1687).drop).drop, rfl, rfl⟩
     ·
      refine wp_cond_f (b := decide (x42 < 0)) rfl hc57 ?_
      refine wp_skip' ?_
      refine wp_seq' ?_
      refine wp_seq' ?_
      refine wp_region' ?_
      refine wl_op rfl (op_assign (v := (Value.int .i64 (0))) rfl rfl ?_)
      refine wl_nil ?_
      have hk3 : x41.1.length ≤ 9223372036854775807 := (row_len (I1687.nth 0 rfl))
      obtain ⟨o6, hrun3, h⟩ := bnd h
      refine wp_cutN (fun f w => ∃ out3, o6 = Sum.inl out3 ∧ Inv w S1661 (Row (α := Int) 3 (Value.slice z240 m240 k240) (x41.1) :: Fr) ∧ f 1 = (Value.slice z3 m3 k3) ∧ f 6 = (Value.int .i64 (x41.2)) ∧ f 9 = (Value.int .i64 (out2)) ∧ f 12 = (Value.slice z240 m240 k240)) ?_ ?_
      ·
       refine wp_block' ?_
       refine wp_forN (I := fun (i3 : Nat) (s5 : Unit) (f : Frm) (w : World) => Inv w S1661 (Row (α := Int) 3 (Value.slice z240 m240 k240) (x41.1) :: Fr) ∧ f 1 = (Value.slice z3 m3 k3) ∧ f 6 = (Value.int .i64 (x41.2)) ∧ f 9 = (Value.int .i64 (out2)) ∧ f 12 = (Value.slice z240 m240 k240) ∧ f 13 = (Value.int .i64 (i3 : Int))) hrun3 ⟨(I1687.pull 1).drop, e515, rfl, e518, rfl, rfl⟩ ?_ ?_
       ·
        rintro i3 s5 f w o5 hlt3 hI1657 h29 hout3
        obtain ⟨I1691, e532, e533, e534, e535, e536⟩ := hI1657
        refine wp_seq' ?_
        refine wp_seq' ?_
        refine wp_region' ?_
        refine wl_op rfl (op_move (v := (Value.int .i64 ((i3 : Int)))) rfl e536 ?_)
        refine wl_op rfl (op_move (v := (Value.slice z240 m240 k240)) rfl e535 ?_)
        refine wl_op rfl (op_len_row (α := Int) rfl Try.underlying26 rfl (I1691.nth 0 rfl) ?_)
        refine wl_op rfl (op_lss (a := (i3 : Int)) (b := (x41.1.length : Int)) rfl rfl rfl ?_)
        refine wl_nil ?_
        refine wp_cond_t (b := decide ((i3 : Int) < (x41.1.length : Int))) rfl (len_t hlt3) ?_
        refine wp_skip' ?_
        refine wp_seq' ?_
        refine wp_block' ?_
        refine wp_seq' ?_
        refine wp_region' ?_
        refine wl_op rfl (op_move (v := (Value.slice z240 m240 k240)) rfl e535 ?_)
        refine wl_op rfl (op_move (v := (Value.int .i64 ((i3 : Int)))) rfl e536 ?_)
        obtain ⟨x46, hx46, h29⟩ := bnd h29
        refine wl_op rfl (op_indexAddr_src (v := (Value.slice z240 m240 k240)) (i := (i3 : Int)) (e := x46) rfl Try.underlying26 sh3 rfl (Inv.rowSrc (I1691.nth 0 rfl)) rfl hx46 ?_)
        refine wl_op rfl (op_load_int (v := (elemPtr (Value.slice z240 m240 k240) ((i3 : Int)) (Enc.sz Int))) (e := x46) rfl sh3 rfl ((I1691.nth 0 rfl).rowElem hx46) ?_)
        refine wl_op rfl (op_lss (a := x46) (b := 1) rfl rfl rfl ?_)
        refine wl_nil ?_
        rcases ifs h29 with ⟨hc62, h29⟩ | ⟨hc62, h29⟩
        ·
         refine wp_cond_t (b := decide (x46 < 1)) rfl hc62 ?_
         refine wp_seq' ?_
         refine wp_region' ?_
         refine wl_op rfl (op_assign (v := (Value.bool (false))) rfl rfl ?_)
         refine wl_nil ?_
         refine wp_ret' ?_
         obtain rfl := Option.some.inj h29
         obtain rfl := (hout3 _ rfl)
         have h30 := h
         obtain rfl := Option.some.inj h30
         exact ⟨(Value.bool (false)), (res1 rfl rfl), _, [], ((((le1.trans le2).trans le3).trans le1660).trans le1661), (I1691).drop, rfl, rfl⟩
        ·
         refine wp_cond_f (b := decide (x46 < 1)) rfl hc62 ?_
         refine wp_skip' ?_
         refine wp_region' ?_
         refine wl_op rfl (op_move (v := (Value.int .i64 ((i3 : Int)))) rfl e536 ?_)
         refine wl_op rfl (op_add (a := (i3 : Int)) (b := 1) rfl rfl rfl ?_)
         refine wl_op rfl (op_assign (v := (Value.int .i64 (w64 ((i3 : Int) + 1)))) rfl rfl ?_)
         refine wl_nil ?_
         obtain rfl := Option.some.inj h29
         exact ⟨_, rfl, I1691, e532, e533, e534, e535, (idx_next hlt3 hk3)⟩
       ·
        rintro s6 f w hs3 hI1658
        obtain ⟨I1692, e537, e538, e539, e540, e541⟩ := hI1658
        refine wp_seq' ?_
        refine wp_seq' ?_
        refine wp_region' ?_
        refine wl_op rfl (op_move (v := (Value.int .i64 ((x41.1.length : Int)))) rfl e541 ?_)
        refine wl_op rfl (op_move (v := (Value.slice z240 m240 k240)) rfl e540 ?_)
        refine wl_op rfl (op_len_row (α := Int) rfl Try.underlying26 rfl (I1692.nth 0 rfl) ?_)
        refine wl_op rfl (op_lss (a := (x41.1.length : Int)) (b := (x41.1.length : Int)) rfl rfl rfl ?_)
        refine wl_nil ?_
        refine wp_cond_f (b := decide ((x41.1.length : Int) < (x41.1.length : Int))) rfl (len_f _) ?_
        refine wp_exit' ?_
        exact ⟨s6, hs3, I1692, e537, e538, e539, e540⟩
      ·
       rintro f w ⟨out3, rfl, I1693, e542, e543, e544, e545⟩
       have h := onL_inl h
       refine wp_seq' ?_
       refine wp_region' ?_
       refine wl_op rfl (op_move (v := (Value.int .i64 (x41.2))) rfl e543 ?_)
       refine wl_op rfl (op_eql (a := x41.2) (b := 0) rfl rfl rfl ?_)
       refine wl_op rfl (op_move (v := (Value.bool (x41.2 == 0))) rfl rfl ?_)
       rcases ifs h with ⟨hc63, h⟩ | ⟨hc63, h⟩
       ·
        refine wl_taken (c := x41.2 == 0) rfl rfl rfl rfl hc63 (op_move (v := (Value.slice z240 m240 k240)) rfl e545 ?_)
        refine wl_taken (c := x41.2 == 0) rfl rfl rfl rfl hc63 (op_len_row (α := Int) rfl Try.underlying26 rfl (I1693.nth 0 rfl) ?_)
        refine wl_taken (c := x41.2 == 0) rfl rfl rfl rfl hc63 (op_move (v := (Value.slice z3 m3 k3)) rfl e542 ?_)
        obtain ⟨x47, hx47, h⟩ := bnd h
        refine wl_taken (c := x41.2 == 0) rfl rfl rfl rfl hc63 (op_indexAddr_rv (v := (Value.slice z3 m3 k3)) (i := 0) (e := x47) rfl Try.underlying26 sh3 rfl (h1_.mono ((((le1.trans le2).trans le3).trans le1660).trans le1661)) rfl hx47 ?_)
        refine wl_taken (c := x41.2 == 0) rfl rfl rfl rfl hc63 (op_load_int (v := (elemPtr (Value.slice z3 m3 k3) (0) (Enc.sz Int))) (e := x47) rfl sh3 rfl ((h1_.mono ((((le1.trans le2).trans le3).trans le1660).trans le1661)).elem I1693.in_ hx47) ?_)
        refine wl_taken (c := x41.2 == 0) rfl rfl rfl rfl hc63 (op_eql (a := (x41.1.length : Int)) (b := x47) rfl rfl rfl ?_)
        refine wl_op rfl (op_pick_t (c := x41.2 == 0) (a := (Value.bool ((x41.1.length : Int) == x47))) rfl rfl hc63 rfl ?_)
        refine wl_op rfl (op_move (v := (Value.bool ((x41.1.length : Int) == x47))) rfl rfl ?_)
        rcases ifs h with ⟨hc64, h⟩ | ⟨hc64, h⟩
        ·
         refine wl_taken (c := (x41.1.length : Int) == x47) rfl rfl rfl rfl hc64 (op_move (v := (Value.int .i64 (out2))) rfl e544 ?_)
         refine wl_taken (c := (x41.1.length : Int) == x47) rfl rfl rfl rfl hc64 (op_eql (a := out2) (b := 0) rfl rfl rfl ?_)
         refine wl_op rfl (op_pick_t (c := (x41.1.length : Int) == x47) (a := (Value.bool (out2 == 0))) rfl rfl hc64 rfl ?_)
         refine wl_op rfl (op_move (v := (Value.bool (out2 == 0))) rfl rfl ?_)
         rcases ifs h with ⟨hc65, h⟩ | ⟨hc65, h⟩
         ·
          obtain ⟨x48, hx48, h⟩ := bnd h
          refine wl_taken (c := out2 == 0) rfl rfl rfl rfl hc65 (op_call_v (vs := []) (r := (Value.bool (x48))) rfl ca17 rfl args0 I1693 (fun Fr_ hF_ => F17_ok hF_  hx48) (fun w1669 I1694 => ?_))
          refine wl_op rfl (op_pick_t (c := out2 == 0) (a := (Value.bool (x48))) rfl rfl hc65 rfl ?_)
          refine wl_op rfl (op_assign (v := (Value.bool (x48))) rfl rfl ?_)
          refine wl_nil ?_
          refine wp_ret' ?_
          obtain rfl := Option.some.inj h
          exact ⟨(Value.bool (x48)), (res1 rfl rfl), _, [], ((((le1.trans le2).trans le3).trans le1660).trans le1661), (I1694).drop, rfl, rfl⟩
         ·
          refine wl_skip (c := out2 == 0) rfl rfl rfl rfl hc65 rfl ?_
          refine wl_op rfl (op_pick_f (c := out2 == 0) (b := (Value.bool (false))) rfl rfl hc65 rfl ?_)
          refine wl_op rfl (op_assign (v := (Value.bool (false))) rfl rfl ?_)
          refine wl_nil ?_
          refine wp_ret' ?_
          obtain rfl := Option.some.inj h
          exact ⟨(Value.bool (false)), (res1 rfl rfl), _, [], ((((le1.trans le2).trans le3).trans le1660).trans le1661), (I1693).drop, rfl, rfl⟩
        ·
         refine wl_skip (c := (x41.1.length : Int) == x47) rfl rfl rfl rfl hc64 rfl ?_
         refine wl_skip (c := (x41.1.length : Int) == x47) rfl rfl rfl rfl hc64 rfl ?_
         refine wl_op rfl (op_pick_f (c := (x41.1.length : Int) == x47) (b := (Value.bool (false))) rfl rfl hc64 rfl ?_)
         refine wl_op rfl (op_move (v := (Value.bool (false))) rfl rfl ?_)
         refine wl_skip (c := false) rfl rfl rfl rfl rfl rfl ?_
         refine wl_op rfl (op_pick_f (c := false) (b := (Value.bool (false))) rfl rfl rfl rfl ?_)
         refine wl_op rfl (op_assign (v := (Value.bool (false))) rfl rfl ?_)
         refine wl_nil ?_
         refine wp_ret' ?_
         obtain rfl := Option.some.inj h
         exact ⟨(Value.bool (false)), (res1 rfl rfl), _, [], ((((le1.trans le2).trans le3).trans le1660).trans le1661), (I1693).drop, rfl, rfl⟩
       ·
        refine wl_skip (c := x41.2 == 0) rfl rfl rfl rfl hc63 rfl ?_
        refine wl_skip (c := x41.2 == 0) rfl rfl rfl rfl hc63 rfl ?_
        refine wl_skip (c := x41.2 == 0) rfl rfl rfl rfl hc63 rfl ?_
        refine wl_skip (c := x41.2 == 0) rfl rfl rfl rfl hc63 rfl ?_
        refine wl_skip (c := x41.2 == 0) rfl rfl rfl rfl hc63 rfl ?_
        refine wl_skip (c := x41.2 == 0) rfl rfl rfl rfl hc63 rfl ?_
        refine wl_op rfl (op_pick_f (c := x41.2 == 0) (b := (Value.bool (false))) rfl rfl hc63 rfl ?_)
        refine wl_op rfl (op_move (v := (Value.bool (false))) rfl rfl ?_)
        refine wl_skip (c := false) rfl rfl rfl rfl rfl rfl ?_
        refine wl_skip (c := false) rfl rfl rfl rfl rfl rfl ?_
        refine wl_op rfl (op_pick_f (c := false) (b := (Value.bool (false))) rfl rfl rfl rfl ?_)
        refine wl_op rfl (op_move (v := (Value.bool (false))) rfl rfl ?_)
        refine wl_skip (c := false) rfl rfl rfl rfl rfl rfl ?_
        refine wl_op rfl (op_pick_f (c := false) (b := (Value.bool (false))) rfl rfl rfl rfl ?_)
        refine wl_op rfl (op_assign (v := (Value.bool (false))) rfl rfl ?_)
        refine wl_nil ?_
        refine wp_ret' ?_
        obtain rfl := Option.some.inj h
        exact ⟨(Value.bool (false)), (res1 rfl rfl), _, [], ((((le1.trans le2).trans le3).trans le1660).trans le1661), (I1693).drop, rfl, rfl⟩
end Go.Proofs.Ytogfongmnkmegaa.Pad
