/- A part of the proof: what the functions of the program compute, shown over the model. -/
import Derived.Test.YtfeomcdhhgeilaaPadSP
import Derived.Test.YtfeomcdhhgeilaaPadSW4
import Derived.Test.YtfeomcdhhgeilaaPadSW25
import Derived.KernelRfl
set_option linter.unusedVariables false
namespace Go.Proofs.Ytfeomcdhhgeilaa.Pad
open Go Go.Proofs
set_option maxHeartbeats 4000000 in
set_option maxRecDepth 100000 in
theorem F14_ok {w : World} {S : PH} {Fr : List HP} {a0 : Panel} {v0 : Value} {a1 : (List Signal)} {v1 : Value} {a2 : Law08_Loss} {v2 : Value} {r : Bool} (hI : Inv w S (Fr)) (h0_ : RV S v0 a0) (h1_ : RV S v1 a1) (h2_ : RV S v2 a2) (h : F14 a0 a1 a2 = some r) :
    Calls Try.prog 14 [v0, v1, v2].toArray w (DoneV S Fr (Value.bool (r))) := by
 unfold F14 at h
 obtain ⟨c1, e1, r1⟩ := Panel.inv h0_
 subst e1
 obtain ⟨z1, m1, k1, e2⟩ := rv_form r1
 subst e2
 obtain ⟨z2, m2, k2, e3⟩ := rv_form h1_
 subst e3
 obtain ⟨c2, e4, r2⟩ := Law08_Loss.inv h2_
 subst e4
 obtain ⟨z3, m3, k3, e5⟩ := rv_form r2
 subst e5
 refine calls_enter (n := 175) (vs := [(Value.agg #[(Value.int .i64 (a0.Sensors)), (Value.slice z1 m1 k1), (Value.int .i64 (a0.Stale)), (Value.int .i64 (a0.Limit))]), (Value.slice z2 m2 k2), (Value.agg #[(Value.int .i64 (a2.Ticks)), (Value.int .i64 (a2.Door)), (Value.slice z3 m3 k3)])]) Try.func14 rfl rfl rfl ?_
 refine wp_seq' ?_
 refine wp_region' ?_
 refine wl_op rfl (op_box (v := (Value.agg #[(Value.int .i64 (a0.Sensors)), (Value.slice z1 m1 k1), (Value.int .i64 (a0.Stale)), (Value.int .i64 (a0.Limit))])) rfl hI rfl (fun g1 w1 I1 => ?_))
 obtain ⟨S1, le1, I2, p1⟩ := Inv.boxFreeze (x := a0) I1 (Panel.rv (s := a0) r1)
 refine wl_op rfl (op_box (v := (Value.agg #[(Value.int .i64 (a2.Ticks)), (Value.int .i64 (a2.Door)), (Value.slice z3 m3 k3)])) rfl I2 rfl (fun g2 w2 I3 => ?_))
 obtain ⟨S2, le2, I4, p2⟩ := Inv.boxFreeze (x := a2) I3 (Law08_Loss.rv (s := a2) (r2.mono le1))
 refine wl_op rfl (op_assign (v := (Value.bool (false))) rfl rfl ?_)
 refine wl_nil ?_
 obtain ⟨ov1, h2, h⟩ := bnd h
 refine wp_cut (fun f w => ∃ v1, ov1 = Sum.inl v1 ∧ Inv w S2 (Fr) ∧ f 1 = (Value.slice z2 m2 k2) ∧ f 3 = (Value.pointer (some ⟨g1, 0, none⟩)) ∧ f 5 = (Value.pointer (some ⟨g2, 0, none⟩))) ?_ ?_
 ·
  refine wp_seq' ?_
  refine wp_region' ?_
  refine wl_op rfl (op_fieldAddr_t (v := (Value.pointer (some ⟨g2, 0, none⟩))) rfl fa68_0 rfl (p2.at_ I4) ?_)
  refine wl_op rfl (op_load_int (v := (fieldPtr (Value.pointer (some ⟨g2, 0, none⟩)) 0)) (e := a2.Ticks) rfl sh3 rfl ((p2.at_ I4).fld Law08_Loss.fld0) ?_)
  refine wl_op rfl (op_lss (a := a2.Ticks) (b := 1) rfl rfl rfl ?_)
  refine wl_op rfl (op_move (v := (Value.bool (decide (a2.Ticks < 1)))) rfl rfl ?_)
  rcases ifs h2 with ⟨hc5, h2⟩ | ⟨hc5, h2⟩
  ·
   refine wl_skip (c := decide (a2.Ticks < 1)) rfl rfl rfl rfl hc5 rfl ?_
   refine wl_skip (c := decide (a2.Ticks < 1)) rfl rfl rfl rfl hc5 rfl ?_
   refine wl_skip (c := decide (a2.Ticks < 1)) rfl rfl rfl rfl hc5 rfl ?_
   refine wl_op rfl (op_pick_t (c := decide (a2.Ticks < 1)) (a := (Value.bool (true))) rfl rfl hc5 rfl ?_)
   refine wl_op rfl (op_move (v := (Value.bool (true))) rfl rfl ?_)
   refine wl_skip (c := true) rfl rfl rfl rfl rfl rfl ?_
   refine wl_skip (c := true) rfl rfl rfl rfl rfl rfl ?_
   refine wl_skip (c := true) rfl rfl rfl rfl rfl rfl ?_
   refine wl_op rfl (op_pick_t (c := true) (a := (Value.bool (true))) rfl rfl rfl rfl ?_)
   refine wl_op rfl (op_move (v := (Value.bool (true))) rfl rfl ?_)
   refine wl_skip (c := true) rfl rfl rfl rfl rfl rfl ?_
   refine wl_skip (c := true) rfl rfl rfl rfl rfl rfl ?_
   refine wl_skip (c := true) rfl rfl rfl rfl rfl rfl ?_
   refine wl_skip (c := true) rfl rfl rfl rfl rfl rfl ?_
   refine wl_op rfl (op_pick_t (c := true) (a := (Value.bool (true))) rfl rfl rfl rfl ?_)
   refine wl_nil ?_
   refine wp_cond_t (b := true) rfl rfl ?_
   refine wp_seq' ?_
   refine wp_region' ?_
   obtain ⟨x5, hx5, h2⟩ := bnd h2
   refine wl_op rfl (op_call_v (vs := []) (r := (Value.bool (x5))) rfl ca16 rfl args0 I4 (fun Fr_ hF_ => F16_ok hF_  hx5) (fun w7 I9 => ?_))
   refine wl_op rfl (op_assign (v := (Value.bool (x5))) rfl rfl ?_)
   refine wl_nil ?_
   refine wp_ret' ?_
   obtain rfl := Option.some.inj h2
   have h3 := h
   obtain rfl := Option.some.inj h3
   exact ⟨(Value.bool (x5)), (res1 rfl rfl), _, [], (le1.trans le2), I9, rfl, rfl⟩
  ·
   refine wl_taken (c := decide (a2.Ticks < 1)) rfl rfl rfl rfl hc5 (op_fieldAddr_t (v := (Value.pointer (some ⟨g2, 0, none⟩))) rfl fa68_0 rfl (p2.at_ I4) ?_)
   refine wl_taken (c := decide (a2.Ticks < 1)) rfl rfl rfl rfl hc5 (op_load_int (v := (fieldPtr (Value.pointer (some ⟨g2, 0, none⟩)) 0)) (e := a2.Ticks) rfl sh3 rfl ((p2.at_ I4).fld Law08_Loss.fld0) ?_)
   refine wl_taken (c := decide (a2.Ticks < 1)) rfl rfl rfl rfl hc5 (op_gtr (a := a2.Ticks) (b := 8) rfl rfl rfl ?_)
   refine wl_op rfl (op_pick_f (c := decide (a2.Ticks < 1)) (b := (Value.bool (decide (8 < a2.Ticks)))) rfl rfl hc5 rfl ?_)
   refine wl_op rfl (op_move (v := (Value.bool (decide (8 < a2.Ticks)))) rfl rfl ?_)
   rcases ifs h2 with ⟨hc6, h2⟩ | ⟨hc6, h2⟩
   ·
    refine wl_skip (c := decide (8 < a2.Ticks)) rfl rfl rfl rfl hc6 rfl ?_
    refine wl_skip (c := decide (8 < a2.Ticks)) rfl rfl rfl rfl hc6 rfl ?_
    refine wl_skip (c := decide (8 < a2.Ticks)) rfl rfl rfl rfl hc6 rfl ?_
    refine wl_op rfl (op_pick_t (c := decide (8 < a2.Ticks)) (a := (Value.bool (true))) rfl rfl hc6 rfl ?_)
    refine wl_op rfl (op_move (v := (Value.bool (true))) rfl rfl ?_)
    refine wl_skip (c := true) rfl rfl rfl rfl rfl rfl ?_
    refine wl_skip (c := true) rfl rfl rfl rfl rfl rfl ?_
    refine wl_skip (c := true) rfl rfl rfl rfl rfl rfl ?_
    refine wl_skip (c := true) rfl rfl rfl rfl rfl rfl ?_
    refine wl_op rfl (op_pick_t (c := true) (a := (Value.bool (true))) rfl rfl rfl rfl ?_)
    refine wl_nil ?_
    refine wp_cond_t (b := true) rfl rfl ?_
    refine wp_seq' ?_
    refine wp_region' ?_
    obtain ⟨x6, hx6, h2⟩ := bnd h2
    refine wl_op rfl (op_call_v (vs := []) (r := (Value.bool (x6))) rfl ca16 rfl args0 I4 (fun Fr_ hF_ => F16_ok hF_  hx6) (fun w8 I10 => ?_))
    refine wl_op rfl (op_assign (v := (Value.bool (x6))) rfl rfl ?_)
    refine wl_nil ?_
    refine wp_ret' ?_
    obtain rfl := Option.some.inj h2
    have h3 := h
    obtain rfl := Option.some.inj h3
    exact ⟨(Value.bool (x6)), (res1 rfl rfl), _, [], (le1.trans le2), I10, rfl, rfl⟩
   ·
    refine wl_taken (c := decide (8 < a2.Ticks)) rfl rfl rfl rfl hc6 (op_move (v := (Value.slice z2 m2 k2)) rfl rfl ?_)
    refine wl_taken (c := decide (8 < a2.Ticks)) rfl rfl rfl rfl hc6 (op_len_rv rfl Try.underlying25 rfl (h1_.mono (le1.trans le2)) ?_)
    refine wl_taken (c := decide (8 < a2.Ticks)) rfl rfl rfl rfl hc6 (op_gtr (a := (a1.length : Int)) (b := 150) rfl rfl rfl ?_)
    refine wl_op rfl (op_pick_f (c := decide (8 < a2.Ticks)) (b := (Value.bool (decide (150 < (a1.length : Int))))) rfl rfl hc6 rfl ?_)
    refine wl_op rfl (op_move (v := (Value.bool (decide (150 < (a1.length : Int))))) rfl rfl ?_)
    rcases ifs h2 with ⟨hc7, h2⟩ | ⟨hc7, h2⟩
    ·
     refine wl_skip (c := decide (150 < (a1.length : Int))) rfl rfl rfl rfl hc7 rfl ?_
     refine wl_skip (c := decide (150 < (a1.length : Int))) rfl rfl rfl rfl hc7 rfl ?_
     refine wl_skip (c := decide (150 < (a1.length : Int))) rfl rfl rfl rfl hc7 rfl ?_
     refine wl_skip (c := decide (150 < (a1.length : Int))) rfl rfl rfl rfl hc7 rfl ?_
     refine wl_op rfl (op_pick_t (c := decide (150 < (a1.length : Int))) (a := (Value.bool (true))) rfl rfl hc7 rfl ?_)
     refine wl_nil ?_
     refine wp_cond_t (b := true) rfl rfl ?_
     refine wp_seq' ?_
     refine wp_region' ?_
     obtain ⟨x7, hx7, h2⟩ := bnd h2
     refine wl_op rfl (op_call_v (vs := []) (r := (Value.bool (x7))) rfl ca16 rfl args0 I4 (fun Fr_ hF_ => F16_ok hF_  hx7) (fun w9 I11 => ?_))
     refine wl_op rfl (op_assign (v := (Value.bool (x7))) rfl rfl ?_)
     refine wl_nil ?_
     refine wp_ret' ?_
     obtain rfl := Option.some.inj h2
     have h3 := h
     obtain rfl := Option.some.inj h3
     exact ⟨(Value.bool (x7)), (res1 rfl rfl), _, [], (le1.trans le2), I11, rfl, rfl⟩
    ·
     refine wl_taken (c := decide (150 < (a1.length : Int))) rfl rfl rfl rfl hc7 (op_fieldAddr_t (v := (Value.pointer (some ⟨g2, 0, none⟩))) rfl fa68_2 rfl (p2.at_ I4) ?_)
     refine wl_taken (c := decide (150 < (a1.length : Int))) rfl rfl rfl rfl hc7 (op_load (v := (fieldPtr (Value.pointer (some ⟨g2, 0, none⟩)) 2)) (e := a2.Losses) rfl sh34 rfl ((p2.at_ I4).fld Law08_Loss.fld2) (fun u2 hu2 => ?_))
     obtain ⟨z5, m5, k5, e7⟩ := rv_form hu2
     subst e7
     refine wl_taken (c := decide (150 < (a1.length : Int))) rfl rfl rfl rfl hc7 (op_len_rv rfl Try.underlying34 rfl hu2 ?_)
     refine wl_taken (c := decide (150 < (a1.length : Int))) rfl rfl rfl rfl hc7 (op_gtr (a := (a2.Losses.length : Int)) (b := 8) rfl rfl rfl ?_)
     refine wl_op rfl (op_pick_f (c := decide (150 < (a1.length : Int))) (b := (Value.bool (decide (8 < (a2.Losses.length : Int))))) rfl rfl hc7 rfl ?_)
     refine wl_nil ?_
     rcases ifs h2 with ⟨hc8, h2⟩ | ⟨hc8, h2⟩
     ·
      refine wp_cond_t (b := decide (8 < (a2.Losses.length : Int))) rfl hc8 ?_
      refine wp_seq' ?_
      refine wp_region' ?_
      obtain ⟨x8, hx8, h2⟩ := bnd h2
      refine wl_op rfl (op_call_v (vs := []) (r := (Value.bool (x8))) rfl ca16 rfl args0 I4 (fun Fr_ hF_ => F16_ok hF_  hx8) (fun w10 I12 => ?_))
      refine wl_op rfl (op_assign (v := (Value.bool (x8))) rfl rfl ?_)
      refine wl_nil ?_
      refine wp_ret' ?_
      obtain rfl := Option.some.inj h2
      have h3 := h
      obtain rfl := Option.some.inj h3
      exact ⟨(Value.bool (x8)), (res1 rfl rfl), _, [], (le1.trans le2), I12, rfl, rfl⟩
     ·
      refine wp_cond_f (b := decide (8 < (a2.Losses.length : Int))) rfl hc8 ?_
      refine wp_skip' ?_
      obtain rfl := Option.some.inj h2
      exact ⟨_, rfl, I4, rfl, rfl, rfl⟩
 ·
  rintro f w ⟨v1, rfl, I13, e8, e9, e10⟩
  have h := onL_inl h
  refine wp_seq' ?_
  refine wp_region' ?_
  refine wl_op rfl (op_load (v := (Value.pointer (some ⟨g1, 0, none⟩))) (e := a0) rfl sh24 e9 ((p1.mono le2).at_ I13) (fun u3 hu3 => ?_))
  obtain ⟨c3, e11, r3⟩ := Panel.inv hu3
  subst e11
  obtain ⟨z6, m6, k6, e12⟩ := rv_form r3
  subst e12
  refine wl_op rfl (op_fieldAddr_t (v := (Value.pointer (some ⟨g2, 0, none⟩))) rfl fa68_0 e10 (p2.at_ I13) ?_)
  refine wl_op rfl (op_load_int (v := (fieldPtr (Value.pointer (some ⟨g2, 0, none⟩)) 0)) (e := a2.Ticks) rfl sh3 rfl ((p2.at_ I13).fld Law08_Loss.fld0) ?_)
  refine wl_op rfl (op_move (v := (Value.slice z2 m2 k2)) rfl e8 ?_)
  refine wl_op rfl (op_fieldAddr_t (v := (Value.pointer (some ⟨g2, 0, none⟩))) rfl fa68_1 e10 (p2.at_ I13) ?_)
  refine wl_op rfl (op_load_int (v := (fieldPtr (Value.pointer (some ⟨g2, 0, none⟩)) 1)) (e := a2.Door) rfl sh3 rfl ((p2.at_ I13).fld Law08_Loss.fld1) ?_)
  obtain ⟨x9, hx9, h⟩ := bnd h
  refine wl_op rfl (op_call (vs := [(Value.agg #[(Value.int .i64 (a0.Sensors)), (Value.slice z6 m6 k6), (Value.int .i64 (a0.Stale)), (Value.int .i64 (a0.Limit))]), (Value.int .i64 (a2.Ticks)), (Value.slice z2 m2 k2), (Value.int .i64 (a2.Door))]) rfl ca41 rfl (args4 rfl rfl rfl rfl) (F41_ok I13 (Panel.rv (s := a0) r3) (h1_.mono (le1.trans le2)) hx9) (fun v2 w11 S3 O1 le3 I14 hv1 => ?_))
  obtain ⟨z7, m7, k7, rfl, rfl⟩ := hv1
  obtain ⟨S4, le4, I15, r4⟩ := Inv.rowFreeze I14
  refine wl_op rfl (op_move (v := (Value.tuple #[(Value.slice z7 m7 k7), (Value.int .i64 (x9.2))])) rfl rfl ?_)
  refine wl_op rfl (op_extract (v := (Value.slice z7 m7 k7)) rfl rfl rfl ?_)
  refine wl_op rfl (op_extract (v := (Value.int .i64 (x9.2))) rfl rfl rfl ?_)
  refine wl_op rfl (op_assign (v := (Value.slice z7 m7 k7)) rfl rfl ?_)
  refine wl_op rfl (op_assign (v := (Value.int .i64 (x9.2))) rfl rfl ?_)
  refine wl_nil ?_
  refine wp_seq' ?_
  refine wp_seq' ?_
  refine wp_region' ?_
  refine wl_op rfl (op_move (v := (Value.int .i64 (x9.2))) rfl rfl ?_)
  refine wl_op rfl (op_neq (a := x9.2) (b := 0) rfl rfl rfl ?_)
  refine wl_nil ?_
  rcases ifs h with ⟨hc9, h⟩ | ⟨hc9, h⟩
  ·
   refine wp_cond_t (b := x9.2 != 0) rfl hc9 ?_
   refine wp_seq' ?_
   refine wp_region' ?_
   obtain ⟨x10, hx10, h⟩ := bnd h
   refine wl_op rfl (op_call_v (vs := []) (r := (Value.bool (x10))) rfl ca16 rfl args0 I15 (fun Fr_ hF_ => F16_ok hF_  hx10) (fun w12 I16 => ?_))
   refine wl_op rfl (op_assign (v := (Value.bool (x10))) rfl rfl ?_)
   refine wl_nil ?_
   refine wp_ret' ?_
   obtain rfl := Option.some.inj h
   exact ⟨(Value.bool (x10)), (res1 rfl rfl), _, [], (((le1.trans le2).trans le3).trans le4), I16, rfl, rfl⟩
  ·
   refine wp_cond_f (b := x9.2 != 0) rfl hc9 ?_
   refine wp_skip' ?_
   refine wp_seq' ?_
   obtain ⟨x11, hx11, h⟩ := bnd h
   obtain ⟨x12, hx12, h⟩ := bnd h
   refine wp_draw (sps := [⟨some 46, [], [0], fun vs_ T_ => RV T_ (fr0 vs_ 0) a0, [], [], [], fun hle_ h_ => h_.mono hle_⟩, ⟨some 47, [], [1], fun vs_ T_ => fr0 vs_ 0 = (fieldPtr (Value.pointer (some ⟨g2, 0, none⟩)) 0), [], [], [], fun _ h_ => h_⟩, ⟨some 48, [1], [2], fun vs_ T_ => fr0 vs_ 0 = (Value.int .i64 (a2.Ticks)), [], [], [], fun _ h_ => h_⟩, ⟨some 49, [], [3], fun vs_ T_ => fr0 vs_ 0 = (Value.slice z2 m2 k2), [], [], [], fun _ h_ => h_⟩, ⟨some 50, [], [4], fun vs_ T_ => fr0 vs_ 0 = (fieldPtr (Value.pointer (some ⟨g2, 0, none⟩)) 1), [], [], [], fun _ h_ => h_⟩, ⟨some 51, [4], [5], fun vs_ T_ => fr0 vs_ 0 = (Value.int .i64 (a2.Door)), [], [], [], fun _ h_ => h_⟩, ⟨some 52, [], [6], fun vs_ T_ => fr0 vs_ 0 = (Value.slice z7 m7 k7), [], [], [], fun _ h_ => h_⟩, ⟨some 53, [3, 4, 5, 6], [7], fun vs_ T_ => ∃ (a0_ : Option Addr) (n0_ k0_ : Nat), fr0 vs_ 0 = (Value.slice a0_ n0_ k0_), [], [], [0], fun _ h_ => h_⟩, ⟨some 54, [0, 1, 2, 3, 4, 5, 6, 7], [8], fun vs_ T_ => ∃ (a0_ : Option Addr) (n0_ k0_ : Nat), fr0 vs_ 0 = (Value.tuple #[(Value.slice a0_ n0_ k0_), (Value.int .i64 (x12.2))]), [], [0], [1], fun _ h_ => h_⟩, ⟨some 45, [0, 1, 2, 3, 4, 5, 6, 7, 8], [9, 8], fun vs_ T_ => fr0 vs_ 0 = (Value.tuple #[(tupAt (fr0 vs_ 1) 0), (Value.int .i64 (x12.2))]), [], [], [], fun _ h_ => h_⟩, ⟨some 55, [0, 1, 2, 3, 4, 5, 6, 7, 8, 9], [10, 8], fun vs_ T_ => fr0 vs_ 0 = (tupAt (fr0 vs_ 1) 0), [], [], [], fun _ h_ => h_⟩, ⟨some 56, [0, 1, 2, 3, 4, 5, 6, 7, 8, 9], [11], fun vs_ T_ => fr0 vs_ 0 = (Value.int .i64 (x12.2)), [], [], [], fun _ h_ => h_⟩, ⟨some 9, [0, 1, 2, 3, 4, 5, 6, 7, 8, 9, 10], [12, 8], fun vs_ T_ => fr0 vs_ 0 = (tupAt (fr0 vs_ 1) 0), [], [], [], fun _ h_ => h_⟩, ⟨some 8, [0, 1, 2, 3, 4, 5, 6, 7, 8, 9, 10, 11, 12], [13], fun vs_ T_ => fr0 vs_ 0 = (Value.int .i64 (x12.2)), [], [], [], fun _ h_ => h_⟩]) (tks := [⟨some 7, some 8, [7], fun vs_ => Row (α := Signal) 46 (fr0 vs_ 0) (x11)⟩, ⟨some 8, none, [8], fun vs_ => Row (α := Int) 3 (tupAt (fr0 vs_ 0) 0) (x12.1)⟩]) (O := Fr) rfl (by kernel_rfl) I15 ⟨?_, ?_, ?_, ?_, ?_, ?_, ?_, ?_, ?_, ?_, ?_, ?_, ?_, ?_, trivial⟩ ?_
   ·
    intro vs1 f w13 S5 X1 le5 hA1 hK1 hI1
    have I17 : Inv w13 S5 (X1) := hI1
    refine opg_plain rfl rfl (op_load (v := (Value.pointer (some ⟨g1, 0, none⟩))) (e := a0) rfl sh24 ((hK1 3 (keep_of rfl)).trans e9) ((p1.mono (((le2.trans le3).trans le4).trans le5)).at_ I17) (fun u5 hu5 => ?_))
    obtain ⟨c4, e13, r5⟩ := Panel.inv hu5
    subst e13
    obtain ⟨z8, m8, k8, e14⟩ := rv_form r5
    subst e14
    refine ⟨_, _, rfl, PH.Le.refl _, ?_, ?_⟩
    ·
     exact (Panel.rv (s := a0) r5)
    ·
     exact I17
   ·
    intro vs2 f w14 S6 X2 le6 hA2 hK2 hI2
    have I18 : Inv w14 S6 (X2) := hI2
    refine opg_plain rfl rfl (op_fieldAddr_t (v := (Value.pointer (some ⟨g2, 0, none⟩))) rfl fa68_0 ((hK2 5 (keep_of rfl)).trans e10) ((p2.mono ((le3.trans le4).trans le6)).at_ I18) ?_)
    refine ⟨_, _, rfl, PH.Le.refl _, ?_, ?_⟩
    ·
     exact rfl
    ·
     exact I18
   ·
    intro vs3 f w15 S7 X3 le7 hA3 hK3 hI3
    have I19 : Inv w15 S7 (X3) := hI3
    have q1 : f 47 = (fieldPtr (Value.pointer (some ⟨g2, 0, none⟩)) 0) := vt (hA3.at_ 0 rfl _ rfl) rfl
    refine opg_plain rfl rfl (op_load_int (v := (fieldPtr (Value.pointer (some ⟨g2, 0, none⟩)) 0)) (e := a2.Ticks) rfl sh3 q1 (((p2.mono ((le3.trans le4).trans le7)).at_ I19).fld Law08_Loss.fld0) ?_)
    refine ⟨_, _, rfl, PH.Le.refl _, ?_, ?_⟩
    ·
     exact rfl
    ·
     exact I19
   ·
    intro vs4 f w16 S8 X4 le8 hA4 hK4 hI4
    have I20 : Inv w16 S8 (X4) := hI4
    refine opg_plain rfl rfl (op_move (v := (Value.slice z2 m2 k2)) rfl ((hK4 1 (keep_of rfl)).trans e8) ?_)
    refine ⟨_, _, rfl, PH.Le.refl _, ?_, ?_⟩
    ·
     exact rfl
    ·
     exact I20
   ·
    intro vs5 f w17 S9 X5 le9 hA5 hK5 hI5
    have I21 : Inv w17 S9 (X5) := hI5
    refine opg_plain rfl rfl (op_fieldAddr_t (v := (Value.pointer (some ⟨g2, 0, none⟩))) rfl fa68_1 ((hK5 5 (keep_of rfl)).trans e10) ((p2.mono ((le3.trans le4).trans le9)).at_ I21) ?_)
    refine ⟨_, _, rfl, PH.Le.refl _, ?_, ?_⟩
    ·
     exact rfl
    ·
     exact I21
   ·
    intro vs6 f w18 S10 X6 le10 hA6 hK6 hI6
    have I22 : Inv w18 S10 (X6) := hI6
    have q2 : f 50 = (fieldPtr (Value.pointer (some ⟨g2, 0, none⟩)) 1) := vt (hA6.at_ 0 rfl _ rfl) rfl
    refine opg_plain rfl rfl (op_load_int (v := (fieldPtr (Value.pointer (some ⟨g2, 0, none⟩)) 1)) (e := a2.Door) rfl sh3 q2 (((p2.mono ((le3.trans le4).trans le10)).at_ I22).fld Law08_Loss.fld1) ?_)
    refine ⟨_, _, rfl, PH.Le.refl _, ?_, ?_⟩
    ·
     exact rfl
    ·
     exact I22
   ·
    intro vs7 f w19 S11 X7 le11 hA7 hK7 hI7
    have I23 : Inv w19 S11 (X7) := hI7
    refine opg_plain rfl rfl (op_move (v := (Value.slice z7 m7 k7)) rfl (hK7 7 (keep_of rfl)) ?_)
    refine ⟨_, _, rfl, PH.Le.refl _, ?_, ?_⟩
    ·
     exact rfl
    ·
     exact I23
   ·
    intro vs8 f w20 S12 X8 le12 hA8 hK8 hI8
    have I24 : Inv w20 S12 (X8) := hI8
    have q3 : f 49 = (Value.slice z2 m2 k2) := vt (hA8.at_ 0 rfl _ rfl) rfl
    have q4 : f 51 = (Value.int .i64 (a2.Door)) := vt (hA8.at_ 2 rfl _ rfl) rfl
    have q5 : f 52 = (Value.slice z7 m7 k7) := vt (hA8.at_ 3 rfl _ rfl) rfl
    refine opg_plain rfl rfl (op_call (vs := [(Value.slice z2 m2 k2), (Value.int .i64 (a2.Door)), (Value.slice z7 m7 k7)]) rfl ca18 rfl (args3 q3 q4 q5) (F18_ok I24 (h1_.mono ((((le1.trans le2).trans le3).trans le4).trans le12)) (r4.mono le12) hx11) (fun v3 w21 S13 O2 le13 I25 hv2 => ?_))
    obtain ⟨z9, m9, k9, rfl, rfl⟩ := hv2
    refine ⟨_, _, rfl, le13, ?_, ?_⟩
    ·
     exact ⟨_, _, _, rfl⟩
    ·
     exact I25
   ·
    intro vs9 f w22 S14 X9 le14 hA9 hK9 hI9
    have I26 : Inv w22 S14 (Row (α := Signal) 46 (vs9 7) (x11) :: X9) := hI9
    have q6 : f 46 = vs9 0 := (hA9.at_ 0 rfl _ rfl).1 _ rfl
    have r6 : RV S14 (vs9 0) a0 := (hA9.at_ 0 rfl _ rfl).2
    obtain ⟨u6, hu6⟩ : ∃ u, vs9 0 = u := ⟨_, rfl⟩
    rw [hu6] at q6 r6
    obtain ⟨c5, e15, r7⟩ := Panel.inv r6
    subst e15
    obtain ⟨z10, m10, k10, e16⟩ := rv_form r7
    subst e16
    have q7 : f 48 = (Value.int .i64 (a2.Ticks)) := vt (hA9.at_ 2 rfl _ rfl) rfl
    obtain ⟨z11, m11, k11, e17⟩ := (hA9.at_ 7 rfl _ rfl).2
    have e17 : vs9 7 = (Value.slice z11 m11 k11) := e17
    have q8 : f 53 = (Value.slice z11 m11 k11) := ((hA9.at_ 7 rfl _ rfl).1 _ rfl).trans e17
    have I27 := I26
    rw [e17] at I27
    obtain ⟨S15, Fr1, le15, I28, r8, bk1⟩ := Inv.lend1 I27
    refine opg_plain rfl rfl (op_call (vs := [(Value.agg #[(Value.int .i64 (a0.Sensors)), (Value.slice z10 m10 k10), (Value.int .i64 (a0.Stale)), (Value.int .i64 (a0.Limit))]), (Value.int .i64 (a2.Ticks)), (Value.slice z11 m11 k11)]) rfl ca17 rfl (args3 q6 q7 q8) (F17_ok I28 (Panel.rv (s := a0) (r7.mono le15)) r8 hx12) (fun v4 w23 S16 O3 le16 I30 hv3 => ?_))
    obtain ⟨z12, m12, k12, rfl, rfl⟩ := hv3
    have I29 := bk1 [Row (α := Int) 3 (Value.slice z12 m12 k12) (x12.1)] ⟨Row.free, trivial⟩ I30 le16
    refine ⟨_, _, rfl, PH.Le.refl _, ?_, ?_⟩
    ·
     exact ⟨_, _, _, rfl⟩
    ·
     exact (I29.pull 1).drop
   ·
    intro vs10 f w24 S17 X10 le17 hA10 hK10 hI10
    have I31 : Inv w24 S17 (X10) := hI10
    obtain ⟨z13, m13, k13, e18⟩ := (hA10.at_ 8 rfl _ rfl).2
    have e18 : vs10 8 = (Value.tuple #[(Value.slice z13 m13 k13), (Value.int .i64 (x12.2))]) := e18
    have q9 : f 54 = (Value.tuple #[(Value.slice z13 m13 k13), (Value.int .i64 (x12.2))]) := ((hA10.at_ 8 rfl _ rfl).1 _ rfl).trans e18
    refine opg_plain rfl rfl (op_move (v := (Value.tuple #[(Value.slice z13 m13 k13), (Value.int .i64 (x12.2))])) rfl q9 ?_)
    refine ⟨_, _, rfl, PH.Le.refl _, ?_, ?_⟩
    ·
     show (Value.tuple #[(Value.slice z13 m13 k13), (Value.int .i64 (x12.2))]) = (Value.tuple #[(tupAt (vs10 8) 0), (Value.int .i64 (x12.2))])
     simp only [e18] <;> rfl
    ·
     exact I31
   ·
    intro vs11 f w25 S18 X11 le18 hA11 hK11 hI11
    have I32 : Inv w25 S18 (X11) := hI11
    obtain ⟨z14, m14, k14, e19⟩ := (hA11.at_ 8 rfl _ rfl).2
    have e19 : vs11 8 = (Value.tuple #[(Value.slice z14 m14 k14), (Value.int .i64 (x12.2))]) := e19
    have q10 : f 54 = (Value.tuple #[(Value.slice z14 m14 k14), (Value.int .i64 (x12.2))]) := ((hA11.at_ 8 rfl _ rfl).1 _ rfl).trans e19
    have q11 : f 45 = (Value.tuple #[(tupAt (vs11 8) 0), (Value.int .i64 (x12.2))]) := vt (hA11.at_ 9 rfl _ rfl) rfl
    simp only [e19] at q11
    have q11 : f 45 = (Value.tuple #[(Value.slice z14 m14 k14), (Value.int .i64 (x12.2))]) := q11
    refine opg_plain rfl rfl (op_extract (v := (Value.slice z14 m14 k14)) rfl q11 rfl ?_)
    refine ⟨_, _, rfl, PH.Le.refl _, ?_, ?_⟩
    ·
     show (Value.slice z14 m14 k14) = (tupAt (vs11 8) 0)
     simp only [e19] <;> rfl
    ·
     exact I32
   ·
    intro vs12 f w26 S19 X12 le19 hA12 hK12 hI12
    have I33 : Inv w26 S19 (X12) := hI12
    obtain ⟨z15, m15, k15, e20⟩ := (hA12.at_ 8 rfl _ rfl).2
    have e20 : vs12 8 = (Value.tuple #[(Value.slice z15 m15 k15), (Value.int .i64 (x12.2))]) := e20
    have q12 : f 54 = (Value.tuple #[(Value.slice z15 m15 k15), (Value.int .i64 (x12.2))]) := ((hA12.at_ 8 rfl _ rfl).1 _ rfl).trans e20
    have q13 : f 45 = (Value.tuple #[(tupAt (vs12 8) 0), (Value.int .i64 (x12.2))]) := vt (hA12.at_ 9 rfl _ rfl) rfl
    simp only [e20] at q13
    have q13 : f 45 = (Value.tuple #[(Value.slice z15 m15 k15), (Value.int .i64 (x12.2))]) := q13
    refine opg_plain rfl rfl (op_extract (v := (Value.int .i64 (x12.2))) rfl q13 rfl ?_)
    refine ⟨_, _, rfl, PH.Le.refl _, ?_, ?_⟩
    ·
     exact rfl
    ·
     exact I33
   ·
    intro vs13 f w27 S20 X13 le20 hA13 hK13 hI13
    have I34 : Inv w27 S20 (X13) := hI13
    obtain ⟨z16, m16, k16, e21⟩ := (hA13.at_ 8 rfl _ rfl).2
    have e21 : vs13 8 = (Value.tuple #[(Value.slice z16 m16 k16), (Value.int .i64 (x12.2))]) := e21
    have q14 : f 54 = (Value.tuple #[(Value.slice z16 m16 k16), (Value.int .i64 (x12.2))]) := ((hA13.at_ 8 rfl _ rfl).1 _ rfl).trans e21
    have q15 : f 45 = (Value.tuple #[(tupAt (vs13 8) 0), (Value.int .i64 (x12.2))]) := vt (hA13.at_ 9 rfl _ rfl) rfl
    simp only [e21] at q15
    have q15 : f 45 = (Value.tuple #[(Value.slice z16 m16 k16), (Value.int .i64 (x12.2))]) := q15
    have q16 : f 55 = (tupAt (vs13 8) 0) := vt (hA13.at_ 10 rfl _ rfl) rfl
    simp only [e21] at q16
    have q16 : f 55 = (Value.slice z16 m16 k16) := q16
    refine opg_plain rfl rfl (op_assign (v := (Value.slice z16 m16 k16)) rfl q16 ?_)
    refine ⟨_, _, rfl, PH.Le.refl _, ?_, ?_⟩
    ·
     show (Value.slice z16 m16 k16) = (tupAt (vs13 8) 0)
     simp only [e21] <;> rfl
    ·
     exact I34
   ·
    intro vs14 f w28 S21 X14 le21 hA14 hK14 hI14
    have I35 : Inv w28 S21 (X14) := hI14
    have q17 : f 56 = (Value.int .i64 (x12.2)) := vt (hA14.at_ 11 rfl _ rfl) rfl
    refine opg_plain rfl rfl (op_assign (v := (Value.int .i64 (x12.2))) rfl q17 ?_)
    refine ⟨_, _, rfl, PH.Le.refl _, ?_, ?_⟩
    ·
     exact rfl
    ·
     exact I35
   ·
    intro vs15 f w29 S22 le22 hF1 hK15 hI15
    have e22 : f 1 = (Value.slice z2 m2 k2) := (hK15 1 (keep_all rfl)).trans e8
    have e23 : f 3 = (Value.pointer (some ⟨g1, 0, none⟩)) := (hK15 3 (keep_all rfl)).trans e9
    have e24 : f 5 = (Value.pointer (some ⟨g2, 0, none⟩)) := (hK15 5 (keep_all rfl)).trans e10
    have e25 : f 7 = (Value.slice z7 m7 k7) := (hK15 7 (keep_all rfl)).trans rfl
    have I36 : Inv w29 S22 (Row (α := Int) 3 (tupAt (vs15 8) 0) (x12.1) :: Fr) := hI15
    obtain ⟨z17, m17, k17, e26⟩ := (hF1.at_ 8 rfl _ rfl).2
    have e26 : vs15 8 = (Value.tuple #[(Value.slice z17 m17 k17), (Value.int .i64 (x12.2))]) := e26
    have q18 : f 54 = (Value.tuple #[(Value.slice z17 m17 k17), (Value.int .i64 (x12.2))]) := ((hF1.at_ 8 rfl _ rfl).1 _ rfl).trans e26
    have I37 := I36
    rw [e26] at I37
    have q19 : f 45 = (Value.tuple #[(tupAt (vs15 8) 0), (Value.int .i64 (x12.2))]) := vt (hF1.at_ 9 rfl _ rfl) rfl
    simp only [e26] at q19
    have q19 : f 45 = (Value.tuple #[(Value.slice z17 m17 k17), (Value.int .i64 (x12.2))]) := q19
    have q20 : f 55 = (tupAt (vs15 8) 0) := vt (hF1.at_ 10 rfl _ rfl) rfl
    simp only [e26] at q20
    have q20 : f 55 = (Value.slice z17 m17 k17) := q20
    have q21 : f 9 = (tupAt (vs15 8) 0) := vt (hF1.at_ 12 rfl _ rfl) rfl
    simp only [e26] at q21
    have q21 : f 9 = (Value.slice z17 m17 k17) := q21
    have q22 : f 8 = (Value.int .i64 (x12.2)) := vt (hF1.at_ 13 rfl _ rfl) rfl
    obtain ⟨ov5, h5, h⟩ := bnd h
    refine wp_cut (fun f w => ∃ v5, ov5 = Sum.inl v5 ∧ ∃ (S_ : PH), S22.Le S_ ∧ Inv w S_ (Fr) ∧ f 1 = (Value.slice z2 m2 k2) ∧ f 3 = (Value.pointer (some ⟨g1, 0, none⟩)) ∧ f 5 = (Value.pointer (some ⟨g2, 0, none⟩)) ∧ f 7 = (Value.slice z7 m7 k7)) ?_ ?_
    ·
     refine wp_seq' ?_
     rcases ifs h5 with ⟨hc13, h5⟩ | ⟨hc13, h5⟩
     ·
      refine wp_draw (sps := [⟨some 57, [], [0], fun vs_ T_ => fr0 vs_ 0 = (Value.int .i64 (x12.2)), [], [], [], fun _ h_ => h_⟩, ⟨some 58, [0], [1], fun vs_ T_ => fr0 vs_ 0 = (Value.bool (x12.2 != 0)), [], [], [], fun _ h_ => h_⟩, ⟨some 59, [0, 1], [2], fun vs_ T_ => fr0 vs_ 0 = (Value.bool (x12.2 != 0)), [], [], [], fun _ h_ => h_⟩, ⟨some 60, [0, 1, 2], [3], fun vs_ T_ => fr0 vs_ 0 = undef, [], [], [], fun _ h_ => h_⟩, ⟨some 61, [0, 1, 2, 3], [4], fun vs_ T_ => fr0 vs_ 0 = undef, [], [], [], fun _ h_ => h_⟩, ⟨some 62, [0, 1, 2], [5], fun vs_ T_ => fr0 vs_ 0 = undef, [], [], [], fun _ h_ => h_⟩, ⟨some 63, [0, 1, 2, 5], [6], fun vs_ T_ => fr0 vs_ 0 = undef, [], [], [], fun _ h_ => h_⟩, ⟨some 64, [0, 1, 2, 3, 4, 5, 6], [7], fun vs_ T_ => fr0 vs_ 0 = undef, [], [], [], fun _ h_ => h_⟩, ⟨some 65, [0, 1, 2, 3, 4, 5, 6, 7], [8], fun vs_ T_ => fr0 vs_ 0 = (Value.bool (true)), [], [], [], fun _ h_ => h_⟩, ⟨some 66, [0, 1, 2, 3, 4, 5, 6, 7, 8], [9], fun vs_ T_ => fr0 vs_ 0 = (Value.bool (true)), [], [], [], fun _ h_ => h_⟩, ⟨some 67, [0, 1, 2, 3, 4, 5, 6, 7, 8, 9], [10], fun vs_ T_ => fr0 vs_ 0 = undef, [], [], [], fun _ h_ => h_⟩, ⟨some 68, [0, 1, 2, 3, 4, 5, 6, 7, 8, 9], [11], fun vs_ T_ => fr0 vs_ 0 = undef, [], [], [], fun _ h_ => h_⟩, ⟨some 69, [0, 1, 2, 3, 4, 5, 6, 7, 8, 9, 11], [12], fun vs_ T_ => fr0 vs_ 0 = undef, [], [], [], fun _ h_ => h_⟩, ⟨some 70, [0, 1, 2, 3, 4, 5, 6, 7, 8, 9, 11, 12], [13], fun vs_ T_ => fr0 vs_ 0 = undef, [], [], [], fun _ h_ => h_⟩, ⟨some 71, [0, 1, 2, 3, 4, 5, 6, 7, 8, 9, 10, 11, 12, 13], [14], fun vs_ T_ => fr0 vs_ 0 = undef, [], [], [], fun _ h_ => h_⟩, ⟨some 72, [0, 1, 2, 3, 4, 5, 6, 7, 8, 9, 10, 11, 12, 13, 14], [15], fun vs_ T_ => fr0 vs_ 0 = undef, [], [], [], fun _ h_ => h_⟩, ⟨some 73, [0, 1, 2, 3, 4, 5, 6, 7, 8, 9], [16], fun vs_ T_ => fr0 vs_ 0 = undef, [], [], [], fun _ h_ => h_⟩, ⟨some 74, [0, 1, 2, 3, 4, 5, 6, 7, 8, 9, 16], [17], fun vs_ T_ => fr0 vs_ 0 = undef, [], [], [], fun _ h_ => h_⟩, ⟨some 75, [0, 1, 2, 3, 4, 5, 6, 7, 8, 9, 10, 11, 12, 13, 14, 15, 16, 17], [18], fun vs_ T_ => fr0 vs_ 0 = undef, [], [], [], fun _ h_ => h_⟩, ⟨some 76, [0, 1, 2, 3, 4, 5, 6, 7, 8, 9, 10, 11, 12, 13, 14, 15, 16, 17, 18], [19], fun vs_ T_ => fr0 vs_ 0 = (Value.bool (true)), [], [], [], fun _ h_ => h_⟩]) (tks := []) (O := Row (α := Int) 3 (Value.slice z17 m17 k17) (x12.1) :: Fr) rfl (by kernel_rfl) I37 ⟨?_, ?_, ?_, ?_, ?_, ?_, ?_, ?_, ?_, ?_, ?_, ?_, ?_, ?_, ?_, ?_, ?_, ?_, ?_, ?_, trivial⟩ ?_
      ·
       intro vs79 f w96 S86 X75 le86 hA75 hK79 hI79
       have I103 : Inv w96 S86 (X75) := hI79
       refine opg_plain rfl rfl (op_move (v := (Value.int .i64 (x12.2))) rfl ((hK79 8 (keep_of rfl)).trans q22) ?_)
       refine ⟨_, _, rfl, PH.Le.refl _, ?_, ?_⟩
       ·
        exact rfl
       ·
        exact I103
      ·
       intro vs80 f w97 S87 X76 le87 hA76 hK80 hI80
       have I104 : Inv w97 S87 (X76) := hI80
       have q125 : f 57 = (Value.int .i64 (x12.2)) := vt (hA76.at_ 0 rfl _ rfl) rfl
       refine opg_plain rfl rfl (op_neq (a := x12.2) (b := 0) rfl q125 rfl ?_)
       refine ⟨_, _, rfl, PH.Le.refl _, ?_, ?_⟩
       ·
        exact rfl
       ·
        exact I104
      ·
       intro vs81 f w98 S88 X77 le88 hA77 hK81 hI81
       have I105 : Inv w98 S88 (X77) := hI81
       have q126 : f 58 = (Value.bool (x12.2 != 0)) := vt (hA77.at_ 1 rfl _ rfl) rfl
       refine opg_plain rfl rfl (op_move (v := (Value.bool (x12.2 != 0))) rfl q126 ?_)
       refine ⟨_, _, rfl, PH.Le.refl _, ?_, ?_⟩
       ·
        exact rfl
       ·
        exact I105
      ·
       intro vs82 f w99 S89 X78 le89 hA78 hK82 hI82
       have I106 : Inv w99 S89 (X78) := hI82
       have q127 : f 59 = (Value.bool (x12.2 != 0)) := vt (hA78.at_ 2 rfl _ rfl) rfl
       exact opg_skip (c := x12.2 != 0) rfl rfl rfl rfl q127 hc13 rfl ⟨_, _, rfl, PH.Le.refl _, rfl, I106⟩
      ·
       intro vs83 f w100 S90 X79 le90 hA79 hK83 hI83
       have I107 : Inv w100 S90 (X79) := hI83
       have q128 : f 59 = (Value.bool (x12.2 != 0)) := vt (hA79.at_ 2 rfl _ rfl) rfl
       have q129 : f 60 = undef := vt (hA79.at_ 3 rfl _ rfl) rfl
       exact opg_skip (c := x12.2 != 0) rfl rfl rfl rfl q128 hc13 rfl ⟨_, _, rfl, PH.Le.refl _, rfl, I107⟩
      ·
       intro vs84 f w101 S91 X80 le91 hA80 hK84 hI84
       have I108 : Inv w101 S91 (X80) := hI84
       have q130 : f 59 = (Value.bool (x12.2 != 0)) := vt (hA80.at_ 2 rfl _ rfl) rfl
       exact opg_skip (c := x12.2 != 0) rfl rfl rfl rfl q130 hc13 rfl ⟨_, _, rfl, PH.Le.refl _, rfl, I108⟩
      ·
       intro vs85 f w102 S92 X81 le92 hA81 hK85 hI85
       have I109 : Inv w102 S92 (X81) := hI85
       have q131 : f 59 = (Value.bool (x12.2 != 0)) := vt (hA81.at_ 2 rfl _ rfl) rfl
       have q132 : f 62 = undef := vt (hA81.at_ 3 rfl _ rfl) rfl
       exact opg_skip (c := x12.2 != 0) rfl rfl rfl rfl q131 hc13 rfl ⟨_, _, rfl, PH.Le.refl _, rfl, I109⟩
      ·
       intro vs86 f w103 S93 X82 le93 hA82 hK86 hI86
       have I110 : Inv w103 S93 (X82) := hI86
       have q133 : f 59 = (Value.bool (x12.2 != 0)) := vt (hA82.at_ 2 rfl _ rfl) rfl
       have q134 : f 61 = undef := vt (hA82.at_ 4 rfl _ rfl) rfl
       have q135 : f 63 = undef := vt (hA82.at_ 6 rfl _ rfl) rfl
       exact opg_skip (c := x12.2 != 0) rfl rfl rfl rfl q133 hc13 rfl ⟨_, _, rfl, PH.Le.refl _, rfl, I110⟩
      ·
       intro vs87 f w104 S94 X83 le94 hA83 hK87 hI87
       have I111 : Inv w104 S94 (X83) := hI87
       have q136 : f 59 = (Value.bool (x12.2 != 0)) := vt (hA83.at_ 2 rfl _ rfl) rfl
       have q137 : f 64 = undef := vt (hA83.at_ 7 rfl _ rfl) rfl
       refine opg_plain rfl rfl (op_pick_t (c := x12.2 != 0) (a := (Value.bool (true))) rfl q136 hc13 rfl ?_)
       refine ⟨_, _, rfl, PH.Le.refl _, ?_, ?_⟩
       ·
        exact rfl
       ·
        exact I111
      ·
       intro vs88 f w105 S95 X84 le95 hA84 hK88 hI88
       have I112 : Inv w105 S95 (X84) := hI88
       have q138 : f 65 = (Value.bool (true)) := vt (hA84.at_ 8 rfl _ rfl) rfl
       refine opg_plain rfl rfl (op_move (v := (Value.bool (true))) rfl q138 ?_)
       refine ⟨_, _, rfl, PH.Le.refl _, ?_, ?_⟩
       ·
        exact rfl
       ·
        exact I112
      ·
       intro vs89 f w106 S96 X85 le96 hA85 hK89 hI89
       have I113 : Inv w106 S96 (X85) := hI89
       have q139 : f 66 = (Value.bool (true)) := vt (hA85.at_ 9 rfl _ rfl) rfl
       exact opg_skip (c := true) rfl rfl rfl rfl q139 rfl rfl ⟨_, _, rfl, PH.Le.refl _, rfl, I113⟩
      ·
       intro vs90 f w107 S97 X86 le97 hA86 hK90 hI90
       have I114 : Inv w107 S97 (X86) := hI90
       have q140 : f 66 = (Value.bool (true)) := vt (hA86.at_ 9 rfl _ rfl) rfl
       exact opg_skip (c := true) rfl rfl rfl rfl q140 rfl rfl ⟨_, _, rfl, PH.Le.refl _, rfl, I114⟩
      ·
       intro vs91 f w108 S98 X87 le98 hA87 hK91 hI91
       have I115 : Inv w108 S98 (X87) := hI91
       have q141 : f 66 = (Value.bool (true)) := vt (hA87.at_ 9 rfl _ rfl) rfl
       have q142 : f 68 = undef := vt (hA87.at_ 10 rfl _ rfl) rfl
       exact opg_skip (c := true) rfl rfl rfl rfl q141 rfl rfl ⟨_, _, rfl, PH.Le.refl _, rfl, I115⟩
      ·
       intro vs92 f w109 S99 X88 le99 hA88 hK92 hI92
       have I116 : Inv w109 S99 (X88) := hI92
       have q143 : f 66 = (Value.bool (true)) := vt (hA88.at_ 9 rfl _ rfl) rfl
       have q144 : f 69 = undef := vt (hA88.at_ 11 rfl _ rfl) rfl
       exact opg_skip (c := true) rfl rfl rfl rfl q143 rfl rfl ⟨_, _, rfl, PH.Le.refl _, rfl, I116⟩
      ·
       intro vs93 f w110 S100 X89 le100 hA89 hK93 hI93
       have I117 : Inv w110 S100 (X89) := hI93
       have q145 : f 66 = (Value.bool (true)) := vt (hA89.at_ 9 rfl _ rfl) rfl
       have q146 : f 67 = undef := vt (hA89.at_ 10 rfl _ rfl) rfl
       have q147 : f 70 = undef := vt (hA89.at_ 13 rfl _ rfl) rfl
       exact opg_skip (c := true) rfl rfl rfl rfl q145 rfl rfl ⟨_, _, rfl, PH.Le.refl _, rfl, I117⟩
      ·
       intro vs94 f w111 S101 X90 le101 hA90 hK94 hI94
       have I118 : Inv w111 S101 (X90) := hI94
       have q148 : f 66 = (Value.bool (true)) := vt (hA90.at_ 9 rfl _ rfl) rfl
       have q149 : f 71 = undef := vt (hA90.at_ 14 rfl _ rfl) rfl
       exact opg_skip (c := true) rfl rfl rfl rfl q148 rfl rfl ⟨_, _, rfl, PH.Le.refl _, rfl, I118⟩
      ·
       intro vs95 f w112 S102 X91 le102 hA91 hK95 hI95
       have I119 : Inv w112 S102 (X91) := hI95
       have q150 : f 66 = (Value.bool (true)) := vt (hA91.at_ 9 rfl _ rfl) rfl
       exact opg_skip (c := true) rfl rfl rfl rfl q150 rfl rfl ⟨_, _, rfl, PH.Le.refl _, rfl, I119⟩
      ·
       intro vs96 f w113 S103 X92 le103 hA92 hK96 hI96
       have I120 : Inv w113 S103 (X92) := hI96
       have q151 : f 66 = (Value.bool (true)) := vt (hA92.at_ 9 rfl _ rfl) rfl
       have q152 : f 73 = undef := vt (hA92.at_ 10 rfl _ rfl) rfl
       exact opg_skip (c := true) rfl rfl rfl rfl q151 rfl rfl ⟨_, _, rfl, PH.Le.refl _, rfl, I120⟩
      ·
       intro vs97 f w114 S104 X93 le104 hA93 hK97 hI97
       have I121 : Inv w114 S104 (X93) := hI97
       have q153 : f 66 = (Value.bool (true)) := vt (hA93.at_ 9 rfl _ rfl) rfl
       have q154 : f 72 = undef := vt (hA93.at_ 15 rfl _ rfl) rfl
       have q155 : f 74 = undef := vt (hA93.at_ 17 rfl _ rfl) rfl
       exact opg_skip (c := true) rfl rfl rfl rfl q153 rfl rfl ⟨_, _, rfl, PH.Le.refl _, rfl, I121⟩
      ·
       intro vs98 f w115 S105 X94 le105 hA94 hK98 hI98
       have I122 : Inv w115 S105 (X94) := hI98
       have q156 : f 66 = (Value.bool (true)) := vt (hA94.at_ 9 rfl _ rfl) rfl
       have q157 : f 75 = undef := vt (hA94.at_ 18 rfl _ rfl) rfl
       refine opg_plain rfl rfl (op_pick_t (c := true) (a := (Value.bool (true))) rfl q156 rfl rfl ?_)
       refine ⟨_, _, rfl, PH.Le.refl _, ?_, ?_⟩
       ·
        exact rfl
       ·
        exact I122
      ·
       intro vs99 f w116 S106 le106 hF5 hK99 hI99
       have e39 : f 1 = (Value.slice z2 m2 k2) := (hK99 1 (keep_all rfl)).trans e22
       have e40 : f 3 = (Value.pointer (some ⟨g1, 0, none⟩)) := (hK99 3 (keep_all rfl)).trans e23
       have e41 : f 5 = (Value.pointer (some ⟨g2, 0, none⟩)) := (hK99 5 (keep_all rfl)).trans e24
       have e42 : f 7 = (Value.slice z7 m7 k7) := (hK99 7 (keep_all rfl)).trans e25
       have I123 : Inv w116 S106 (Row (α := Int) 3 (Value.slice z17 m17 k17) (x12.1) :: Fr) := hI99
       have q158 : f 76 = (Value.bool (true)) := vt (hF5.at_ 19 rfl _ rfl) rfl
       refine wp_cond_t (b := true) q158 rfl ?_
       refine wp_seq' ?_
       refine wp_region' ?_
       refine wl_op rfl (op_assign (v := (Value.bool (false))) rfl rfl ?_)
       refine wl_nil ?_
       refine wp_ret' ?_
       obtain rfl := Option.some.inj h5
       have h6 := h
       obtain rfl := Option.some.inj h6
       exact ⟨(Value.bool (false)), (res1 rfl rfl), _, [], (((((le1.trans le2).trans le3).trans le4).trans le22).trans le106), (I123).drop, rfl, rfl⟩
     ·
      rcases ifs h5 with ⟨hc14, h5⟩ | ⟨hc14, h5⟩
      ·
       refine wp_draw (sps := [⟨some 57, [], [0], fun vs_ T_ => fr0 vs_ 0 = (Value.int .i64 (x12.2)), [], [], [], fun _ h_ => h_⟩, ⟨some 58, [0], [1], fun vs_ T_ => fr0 vs_ 0 = (Value.bool (x12.2 != 0)), [], [], [], fun _ h_ => h_⟩, ⟨some 59, [0, 1], [2], fun vs_ T_ => fr0 vs_ 0 = (Value.bool (x12.2 != 0)), [], [], [], fun _ h_ => h_⟩, ⟨some 60, [0, 1, 2], [3], fun vs_ T_ => fr0 vs_ 0 = (Value.slice z17 m17 k17), [], [], [], fun _ h_ => h_⟩, ⟨some 61, [0, 1, 2, 3], [4], fun vs_ T_ => fr0 vs_ 0 = (Value.int .i64 ((x12.1.length : Int))), [0], [], [], fun _ h_ => h_⟩, ⟨some 62, [0, 1, 2], [5], fun vs_ T_ => fr0 vs_ 0 = (fieldPtr (Value.pointer (some ⟨g2, 0, none⟩)) 0), [], [], [], fun _ h_ => h_⟩, ⟨some 63, [0, 1, 2, 5], [6], fun vs_ T_ => fr0 vs_ 0 = (Value.int .i64 (a2.Ticks)), [], [], [], fun _ h_ => h_⟩, ⟨some 64, [0, 1, 2, 3, 4, 5, 6], [7], fun vs_ T_ => fr0 vs_ 0 = (Value.bool ((x12.1.length : Int) != a2.Ticks)), [], [], [], fun _ h_ => h_⟩, ⟨some 65, [0, 1, 2, 3, 4, 5, 6, 7], [8], fun vs_ T_ => fr0 vs_ 0 = (Value.bool ((x12.1.length : Int) != a2.Ticks)), [], [], [], fun _ h_ => h_⟩, ⟨some 66, [0, 1, 2, 3, 4, 5, 6, 7, 8], [9], fun vs_ T_ => fr0 vs_ 0 = (Value.bool ((x12.1.length : Int) != a2.Ticks)), [], [], [], fun _ h_ => h_⟩, ⟨some 67, [0, 1, 2, 3, 4, 5, 6, 7, 8, 9], [10], fun vs_ T_ => fr0 vs_ 0 = undef, [], [], [], fun _ h_ => h_⟩, ⟨some 68, [0, 1, 2, 3, 4, 5, 6, 7, 8, 9], [11], fun vs_ T_ => fr0 vs_ 0 = undef, [], [], [], fun _ h_ => h_⟩, ⟨some 69, [0, 1, 2, 3, 4, 5, 6, 7, 8, 9, 11], [12], fun vs_ T_ => fr0 vs_ 0 = undef, [], [], [], fun _ h_ => h_⟩, ⟨some 70, [0, 1, 2, 3, 4, 5, 6, 7, 8, 9, 11, 12], [13], fun vs_ T_ => fr0 vs_ 0 = undef, [], [], [], fun _ h_ => h_⟩, ⟨some 71, [0, 1, 2, 3, 4, 5, 6, 7, 8, 9, 10, 11, 12, 13], [14], fun vs_ T_ => fr0 vs_ 0 = undef, [], [], [], fun _ h_ => h_⟩, ⟨some 72, [0, 1, 2, 3, 4, 5, 6, 7, 8, 9, 10, 11, 12, 13, 14], [15], fun vs_ T_ => fr0 vs_ 0 = undef, [], [], [], fun _ h_ => h_⟩, ⟨some 73, [0, 1, 2, 3, 4, 5, 6, 7, 8, 9], [16], fun vs_ T_ => fr0 vs_ 0 = undef, [], [], [], fun _ h_ => h_⟩, ⟨some 74, [0, 1, 2, 3, 4, 5, 6, 7, 8, 9, 16], [17], fun vs_ T_ => fr0 vs_ 0 = undef, [], [], [], fun _ h_ => h_⟩, ⟨some 75, [0, 1, 2, 3, 4, 5, 6, 7, 8, 9, 10, 11, 12, 13, 14, 15, 16, 17], [18], fun vs_ T_ => fr0 vs_ 0 = undef, [], [], [], fun _ h_ => h_⟩, ⟨some 76, [0, 1, 2, 3, 4, 5, 6, 7, 8, 9, 10, 11, 12, 13, 14, 15, 16, 17, 18], [19], fun vs_ T_ => fr0 vs_ 0 = (Value.bool (true)), [], [], [], fun _ h_ => h_⟩]) (tks := [⟨none, none, [], fun vs_ => Row (α := Int) 3 (Value.slice z17 m17 k17) (x12.1)⟩]) (O := Fr) rfl (by kernel_rfl) I37 ⟨?_, ?_, ?_, ?_, ?_, ?_, ?_, ?_, ?_, ?_, ?_, ?_, ?_, ?_, ?_, ?_, ?_, ?_, ?_, ?_, trivial⟩ ?_
       ·
        intro vs100 f w117 S107 X95 le107 hA95 hK100 hI100
        have I124 : Inv w117 S107 (X95) := hI100
        refine opg_plain rfl rfl (op_move (v := (Value.int .i64 (x12.2))) rfl ((hK100 8 (keep_of rfl)).trans q22) ?_)
        refine ⟨_, _, rfl, PH.Le.refl _, ?_, ?_⟩
        ·
         exact rfl
        ·
         exact I124
       ·
        intro vs101 f w118 S108 X96 le108 hA96 hK101 hI101
        have I125 : Inv w118 S108 (X96) := hI101
        have q159 : f 57 = (Value.int .i64 (x12.2)) := vt (hA96.at_ 0 rfl _ rfl) rfl
        refine opg_plain rfl rfl (op_neq (a := x12.2) (b := 0) rfl q159 rfl ?_)
        refine ⟨_, _, rfl, PH.Le.refl _, ?_, ?_⟩
        ·
         exact rfl
        ·
         exact I125
       ·
        intro vs102 f w119 S109 X97 le109 hA97 hK102 hI102
        have I126 : Inv w119 S109 (X97) := hI102
        have q160 : f 58 = (Value.bool (x12.2 != 0)) := vt (hA97.at_ 1 rfl _ rfl) rfl
        refine opg_plain rfl rfl (op_move (v := (Value.bool (x12.2 != 0))) rfl q160 ?_)
        refine ⟨_, _, rfl, PH.Le.refl _, ?_, ?_⟩
        ·
         exact rfl
        ·
         exact I126
       ·
        intro vs103 f w120 S110 X98 le110 hA98 hK103 hI103
        have I127 : Inv w120 S110 (X98) := hI103
        have q161 : f 59 = (Value.bool (x12.2 != 0)) := vt (hA98.at_ 2 rfl _ rfl) rfl
        refine opg_taken (c := x12.2 != 0) rfl rfl rfl rfl q161 hc13 (op_move (v := (Value.slice z17 m17 k17)) rfl ((hK103 9 (keep_of rfl)).trans q21) ?_)
        refine ⟨_, _, rfl, PH.Le.refl _, ?_, ?_⟩
        ·
         exact rfl
        ·
         exact I127
       ·
        intro vs104 f w121 S111 X99 le111 hA99 hK104 hI104
        have I128 : Inv w121 S111 (Row (α := Int) 3 (Value.slice z17 m17 k17) (x12.1) :: X99) := hI104
        have q162 : f 59 = (Value.bool (x12.2 != 0)) := vt (hA99.at_ 2 rfl _ rfl) rfl
        have q163 : f 60 = (Value.slice z17 m17 k17) := vt (hA99.at_ 3 rfl _ rfl) rfl
        refine opg_taken (c := x12.2 != 0) rfl rfl rfl rfl q162 hc13 (op_len_row (α := Int) rfl Try.underlying34 q163 (I128.nth 0 rfl) ?_)
        refine ⟨_, _, rfl, PH.Le.refl _, ?_, ?_⟩
        ·
         exact rfl
        ·
         exact I128
       ·
        intro vs105 f w122 S112 X100 le112 hA100 hK105 hI105
        have I129 : Inv w122 S112 (X100) := hI105
        have q164 : f 59 = (Value.bool (x12.2 != 0)) := vt (hA100.at_ 2 rfl _ rfl) rfl
        refine opg_taken (c := x12.2 != 0) rfl rfl rfl rfl q164 hc13 (op_fieldAddr_t (v := (Value.pointer (some ⟨g2, 0, none⟩))) rfl fa68_0 ((hK105 5 (keep_of rfl)).trans e24) ((p2.mono (((le3.trans le4).trans le22).trans le112)).at_ I129) ?_)
        refine ⟨_, _, rfl, PH.Le.refl _, ?_, ?_⟩
        ·
         exact rfl
        ·
         exact I129
       ·
        intro vs106 f w123 S113 X101 le113 hA101 hK106 hI106
        have I130 : Inv w123 S113 (X101) := hI106
        have q165 : f 59 = (Value.bool (x12.2 != 0)) := vt (hA101.at_ 2 rfl _ rfl) rfl
        have q166 : f 62 = (fieldPtr (Value.pointer (some ⟨g2, 0, none⟩)) 0) := vt (hA101.at_ 3 rfl _ rfl) rfl
        refine opg_taken (c := x12.2 != 0) rfl rfl rfl rfl q165 hc13 (op_load_int (v := (fieldPtr (Value.pointer (some ⟨g2, 0, none⟩)) 0)) (e := a2.Ticks) rfl sh3 q166 (((p2.mono (((le3.trans le4).trans le22).trans le113)).at_ I130).fld Law08_Loss.fld0) ?_)
        refine ⟨_, _, rfl, PH.Le.refl _, ?_, ?_⟩
        ·
         exact rfl
        ·
         exact I130
       ·
        intro vs107 f w124 S114 X102 le114 hA102 hK107 hI107
        have I131 : Inv w124 S114 (X102) := hI107
        have q167 : f 59 = (Value.bool (x12.2 != 0)) := vt (hA102.at_ 2 rfl _ rfl) rfl
        have q168 : f 61 = (Value.int .i64 ((x12.1.length : Int))) := vt (hA102.at_ 4 rfl _ rfl) rfl
        have q169 : f 63 = (Value.int .i64 (a2.Ticks)) := vt (hA102.at_ 6 rfl _ rfl) rfl
        refine opg_taken (c := x12.2 != 0) rfl rfl rfl rfl q167 hc13 (op_neq (a := (x12.1.length : Int)) (b := a2.Ticks) rfl q168 q169 ?_)
        refine ⟨_, _, rfl, PH.Le.refl _, ?_, ?_⟩
        ·
         exact rfl
        ·
         exact I131
       ·
        intro vs108 f w125 S115 X103 le115 hA103 hK108 hI108
        have I132 : Inv w125 S115 (X103) := hI108
        have q170 : f 59 = (Value.bool (x12.2 != 0)) := vt (hA103.at_ 2 rfl _ rfl) rfl
        have q171 : f 64 = (Value.bool ((x12.1.length : Int) != a2.Ticks)) := vt (hA103.at_ 7 rfl _ rfl) rfl
        refine opg_plain rfl rfl (op_pick_f (c := x12.2 != 0) (b := (Value.bool ((x12.1.length : Int) != a2.Ticks))) rfl q170 hc13 q171 ?_)
        refine ⟨_, _, rfl, PH.Le.refl _, ?_, ?_⟩
        ·
         exact rfl
        ·
         exact I132
       ·
        intro vs109 f w126 S116 X104 le116 hA104 hK109 hI109
        have I133 : Inv w126 S116 (X104) := hI109
        have q172 : f 65 = (Value.bool ((x12.1.length : Int) != a2.Ticks)) := vt (hA104.at_ 8 rfl _ rfl) rfl
        refine opg_plain rfl rfl (op_move (v := (Value.bool ((x12.1.length : Int) != a2.Ticks))) rfl q172 ?_)
        refine ⟨_, _, rfl, PH.Le.refl _, ?_, ?_⟩
        ·
         exact rfl
        ·
         exact I133
       ·
        intro vs110 f w127 S117 X105 le117 hA105 hK110 hI110
        have I134 : Inv w127 S117 (X105) := hI110
        have q173 : f 66 = (Value.bool ((x12.1.length : Int) != a2.Ticks)) := vt (hA105.at_ 9 rfl _ rfl) rfl
        exact opg_skip (c := (x12.1.length : Int) != a2.Ticks) rfl rfl rfl rfl q173 hc14 rfl ⟨_, _, rfl, PH.Le.refl _, rfl, I134⟩
       ·
        intro vs111 f w128 S118 X106 le118 hA106 hK111 hI111
        have I135 : Inv w128 S118 (X106) := hI111
        have q174 : f 66 = (Value.bool ((x12.1.length : Int) != a2.Ticks)) := vt (hA106.at_ 9 rfl _ rfl) rfl
        exact opg_skip (c := (x12.1.length : Int) != a2.Ticks) rfl rfl rfl rfl q174 hc14 rfl ⟨_, _, rfl, PH.Le.refl _, rfl, I135⟩
       ·
        intro vs112 f w129 S119 X107 le119 hA107 hK112 hI112
        have I136 : Inv w129 S119 (X107) := hI112
        have q175 : f 66 = (Value.bool ((x12.1.length : Int) != a2.Ticks)) := vt (hA107.at_ 9 rfl _ rfl) rfl
        have q176 : f 68 = undef := vt (hA107.at_ 10 rfl _ rfl) rfl
        exact opg_skip (c := (x12.1.length : Int) != a2.Ticks) rfl rfl rfl rfl q175 hc14 rfl ⟨_, _, rfl, PH.Le.refl _, rfl, I136⟩
       ·
        intro vs113 f w130 S120 X108 le120 hA108 hK113 hI113
        have I137 : Inv w130 S120 (X108) := hI113
        have q177 : f 66 = (Value.bool ((x12.1.length : Int) != a2.Ticks)) := vt (hA108.at_ 9 rfl _ rfl) rfl
        have q178 : f 69 = undef := vt (hA108.at_ 11 rfl _ rfl) rfl
        exact opg_skip (c := (x12.1.length : Int) != a2.Ticks) rfl rfl rfl rfl q177 hc14 rfl ⟨_, _, rfl, PH.Le.refl _, rfl, I137⟩
       ·
        intro vs114 f w131 S121 X109 le121 hA109 hK114 hI114
        have I138 : Inv w131 S121 (X109) := hI114
        have q179 : f 66 = (Value.bool ((x12.1.length : Int) != a2.Ticks)) := vt (hA109.at_ 9 rfl _ rfl) rfl
        have q180 : f 67 = undef := vt (hA109.at_ 10 rfl _ rfl) rfl
        have q181 : f 70 = undef := vt (hA109.at_ 13 rfl _ rfl) rfl
        exact opg_skip (c := (x12.1.length : Int) != a2.Ticks) rfl rfl rfl rfl q179 hc14 rfl ⟨_, _, rfl, PH.Le.refl _, rfl, I138⟩
       ·
        intro vs115 f w132 S122 X110 le122 hA110 hK115 hI115
        have I139 : Inv w132 S122 (X110) := hI115
        have q182 : f 66 = (Value.bool ((x12.1.length : Int) != a2.Ticks)) := vt (hA110.at_ 9 rfl _ rfl) rfl
        have q183 : f 71 = undef := vt (hA110.at_ 14 rfl _ rfl) rfl
        exact opg_skip (c := (x12.1.length : Int) != a2.Ticks) rfl rfl rfl rfl q182 hc14 rfl ⟨_, _, rfl, PH.Le.refl _, rfl, I139⟩
       ·
        intro vs116 f w133 S123 X111 le123 hA111 hK116 hI116
        have I140 : Inv w133 S123 (X111) := hI116
        have q184 : f 66 = (Value.bool ((x12.1.length : Int) != a2.Ticks)) := vt (hA111.at_ 9 rfl _ rfl) rfl
        exact opg_skip (c := (x12.1.length : Int) != a2.Ticks) rfl rfl rfl rfl q184 hc14 rfl ⟨_, _, rfl, PH.Le.refl _, rfl, I140⟩
       ·
        intro vs117 f w134 S124 X112 le124 hA112 hK117 hI117
        have I141 : Inv w134 S124 (X112) := hI117
        have q185 : f 66 = (Value.bool ((x12.1.length : Int) != a2.Ticks)) := vt (hA112.at_ 9 rfl _ rfl) rfl
        have q186 : f 73 = undef := vt (hA112.at_ 10 rfl _ rfl) rfl
        exact opg_skip (c := (x12.1.length : Int) != a2.Ticks) rfl rfl rfl rfl q185 hc14 rfl ⟨_, _, rfl, PH.Le.refl _, rfl, I141⟩
       ·
        intro vs118 f w135 S125 X113 le125 hA113 hK118 hI118
        have I142 : Inv w135 S125 (X113) := hI118
        have q187 : f 66 = (Value.bool ((x12.1.length : Int) != a2.Ticks)) := vt (hA113.at_ 9 rfl _ rfl) rfl
        have q188 : f 72 = undef := vt (hA113.at_ 15 rfl _ rfl) rfl
        have q189 : f 74 = undef := vt (hA113.at_ 17 rfl _ rfl) rfl
        exact opg_skip (c := (x12.1.length : Int) != a2.Ticks) rfl rfl rfl rfl q187 hc14 rfl ⟨_, _, rfl, PH.Le.refl _, rfl, I142⟩
       ·
        intro vs119 f w136 S126 X114 le126 hA114 hK119 hI119
        have I143 : Inv w136 S126 (X114) := hI119
        have q190 : f 66 = (Value.bool ((x12.1.length : Int) != a2.Ticks)) := vt (hA114.at_ 9 rfl _ rfl) rfl
        have q191 : f 75 = undef := vt (hA114.at_ 18 rfl _ rfl) rfl
        refine opg_plain rfl rfl (op_pick_t (c := (x12.1.length : Int) != a2.Ticks) (a := (Value.bool (true))) rfl q190 hc14 rfl ?_)
        refine ⟨_, _, rfl, PH.Le.refl _, ?_, ?_⟩
        ·
         exact rfl
        ·
         exact I143
       ·
        intro vs120 f w137 S127 le127 hF6 hK120 hI120
        have e43 : f 1 = (Value.slice z2 m2 k2) := (hK120 1 (keep_all rfl)).trans e22
        have e44 : f 3 = (Value.pointer (some ⟨g1, 0, none⟩)) := (hK120 3 (keep_all rfl)).trans e23
        have e45 : f 5 = (Value.pointer (some ⟨g2, 0, none⟩)) := (hK120 5 (keep_all rfl)).trans e24
        have e46 : f 7 = (Value.slice z7 m7 k7) := (hK120 7 (keep_all rfl)).trans e25
        have I144 : Inv w137 S127 (Row (α := Int) 3 (Value.slice z17 m17 k17) (x12.1) :: Fr) := hI120
        have q192 : f 76 = (Value.bool (true)) := vt (hF6.at_ 19 rfl _ rfl) rfl
        refine wp_cond_t (b := true) q192 rfl ?_
        refine wp_seq' ?_
        refine wp_region' ?_
        refine wl_op rfl (op_assign (v := (Value.bool (false))) rfl rfl ?_)
        refine wl_nil ?_
        refine wp_ret' ?_
        obtain rfl := Option.some.inj h5
        have h6 := h
        obtain rfl := Option.some.inj h6
        exact ⟨(Value.bool (false)), (res1 rfl rfl), _, [], (((((le1.trans le2).trans le3).trans le4).trans le22).trans le127), (I144).drop, rfl, rfl⟩
      ·
       obtain ⟨x15, hx15, h5⟩ := bnd h5
       obtain ⟨x16, hx16, h5⟩ := bnd h5
       refine wp_draw (sps := [⟨some 57, [], [0], fun vs_ T_ => fr0 vs_ 0 = (Value.int .i64 (x12.2)), [], [], [], fun _ h_ => h_⟩, ⟨some 58, [0], [1], fun vs_ T_ => fr0 vs_ 0 = (Value.bool (x12.2 != 0)), [], [], [], fun _ h_ => h_⟩, ⟨some 59, [0, 1], [2], fun vs_ T_ => fr0 vs_ 0 = (Value.bool (x12.2 != 0)), [], [], [], fun _ h_ => h_⟩, ⟨some 60, [0, 1, 2], [3], fun vs_ T_ => fr0 vs_ 0 = (Value.slice z17 m17 k17), [], [], [], fun _ h_ => h_⟩, ⟨some 61, [0, 1, 2, 3], [4], fun vs_ T_ => fr0 vs_ 0 = (Value.int .i64 ((x12.1.length : Int))), [0], [], [], fun _ h_ => h_⟩, ⟨some 62, [0, 1, 2], [5], fun vs_ T_ => fr0 vs_ 0 = (fieldPtr (Value.pointer (some ⟨g2, 0, none⟩)) 0), [], [], [], fun _ h_ => h_⟩, ⟨some 63, [0, 1, 2, 5], [6], fun vs_ T_ => fr0 vs_ 0 = (Value.int .i64 (a2.Ticks)), [], [], [], fun _ h_ => h_⟩, ⟨some 64, [0, 1, 2, 3, 4, 5, 6], [7], fun vs_ T_ => fr0 vs_ 0 = (Value.bool ((x12.1.length : Int) != a2.Ticks)), [], [], [], fun _ h_ => h_⟩, ⟨some 65, [0, 1, 2, 3, 4, 5, 6, 7], [8], fun vs_ T_ => fr0 vs_ 0 = (Value.bool ((x12.1.length : Int) != a2.Ticks)), [], [], [], fun _ h_ => h_⟩, ⟨some 66, [0, 1, 2, 3, 4, 5, 6, 7, 8], [9], fun vs_ T_ => fr0 vs_ 0 = (Value.bool ((x12.1.length : Int) != a2.Ticks)), [], [], [], fun _ h_ => h_⟩, ⟨some 67, [0, 1, 2, 3, 4, 5, 6, 7, 8, 9], [10], fun vs_ T_ => fr0 vs_ 0 = (Value.slice z17 m17 k17), [], [], [], fun _ h_ => h_⟩, ⟨some 68, [0, 1, 2, 3, 4, 5, 6, 7, 8, 9], [11], fun vs_ T_ => fr0 vs_ 0 = (fieldPtr (Value.pointer (some ⟨g2, 0, none⟩)) 0), [], [], [], fun _ h_ => h_⟩, ⟨some 69, [0, 1, 2, 3, 4, 5, 6, 7, 8, 9, 11], [12], fun vs_ T_ => fr0 vs_ 0 = (Value.int .i64 (a2.Ticks)), [], [], [], fun _ h_ => h_⟩, ⟨some 70, [0, 1, 2, 3, 4, 5, 6, 7, 8, 9, 11, 12], [13], fun vs_ T_ => fr0 vs_ 0 = (Value.int .i64 (w64 (a2.Ticks - 1))), [], [], [], fun _ h_ => h_⟩, ⟨some 71, [0, 1, 2, 3, 4, 5, 6, 7, 8, 9, 10, 11, 12, 13], [14], fun vs_ T_ => fr0 vs_ 0 = (elemPtr (Value.slice z17 m17 k17) (w64 (a2.Ticks - 1)) (Enc.sz Int)), [0], [], [], fun _ h_ => h_⟩, ⟨some 72, [0, 1, 2, 3, 4, 5, 6, 7, 8, 9, 10, 11, 12, 13, 14], [15], fun vs_ T_ => fr0 vs_ 0 = (Value.int .i64 (x15)), [0], [], [], fun _ h_ => h_⟩, ⟨some 73, [0, 1, 2, 3, 4, 5, 6, 7, 8, 9], [16], fun vs_ T_ => fr0 vs_ 0 = (fieldPtr (Value.pointer (some ⟨g2, 0, none⟩)) 1), [], [], [], fun _ h_ => h_⟩, ⟨some 74, [0, 1, 2, 3, 4, 5, 6, 7, 8, 9, 16], [17], fun vs_ T_ => fr0 vs_ 0 = (Value.int .i64 (a2.Door)), [], [], [], fun _ h_ => h_⟩, ⟨some 75, [0, 1, 2, 3, 4, 5, 6, 7, 8, 9, 10, 11, 12, 13, 14, 15, 16, 17], [18], fun vs_ T_ => fr0 vs_ 0 = (Value.bool (x16)), [], [], [], fun _ h_ => h_⟩, ⟨some 76, [0, 1, 2, 3, 4, 5, 6, 7, 8, 9, 10, 11, 12, 13, 14, 15, 16, 17, 18], [19], fun vs_ T_ => fr0 vs_ 0 = (Value.bool (x16)), [], [], [], fun _ h_ => h_⟩]) (tks := [⟨none, none, [], fun vs_ => Row (α := Int) 3 (Value.slice z17 m17 k17) (x12.1)⟩]) (O := Fr) rfl (by kernel_rfl) I37 ⟨?_, ?_, ?_, ?_, ?_, ?_, ?_, ?_, ?_, ?_, ?_, ?_, ?_, ?_, ?_, ?_, ?_, ?_, ?_, ?_, trivial⟩ ?_
       ·
        intro vs121 f w139 S128 X115 le128 hA115 hK121 hI121
        have I146 : Inv w139 S128 (X115) := hI121
        refine opg_plain rfl rfl (op_move (v := (Value.int .i64 (x12.2))) rfl ((hK121 8 (keep_of rfl)).trans q22) ?_)
        refine ⟨_, _, rfl, PH.Le.refl _, ?_, ?_⟩
        ·
         exact rfl
        ·
         exact I146
       ·
        intro vs122 f w140 S129 X116 le129 hA116 hK122 hI122
        have I147 : Inv w140 S129 (X116) := hI122
        have q193 : f 57 = (Value.int .i64 (x12.2)) := vt (hA116.at_ 0 rfl _ rfl) rfl
        refine opg_plain rfl rfl (op_neq (a := x12.2) (b := 0) rfl q193 rfl ?_)
        refine ⟨_, _, rfl, PH.Le.refl _, ?_, ?_⟩
        ·
         exact rfl
        ·
         exact I147
       ·
        intro vs123 f w141 S130 X117 le130 hA117 hK123 hI123
        have I148 : Inv w141 S130 (X117) := hI123
        have q194 : f 58 = (Value.bool (x12.2 != 0)) := vt (hA117.at_ 1 rfl _ rfl) rfl
        refine opg_plain rfl rfl (op_move (v := (Value.bool (x12.2 != 0))) rfl q194 ?_)
        refine ⟨_, _, rfl, PH.Le.refl _, ?_, ?_⟩
        ·
         exact rfl
        ·
         exact I148
       ·
        intro vs124 f w142 S131 X118 le131 hA118 hK124 hI124
        have I149 : Inv w142 S131 (X118) := hI124
        have q195 : f 59 = (Value.bool (x12.2 != 0)) := vt (hA118.at_ 2 rfl _ rfl) rfl
        refine opg_taken (c := x12.2 != 0) rfl rfl rfl rfl q195 hc13 (op_move (v := (Value.slice z17 m17 k17)) rfl ((hK124 9 (keep_of rfl)).trans q21) ?_)
        refine ⟨_, _, rfl, PH.Le.refl _, ?_, ?_⟩
        ·
         exact rfl
        ·
         exact I149
       ·
        intro vs125 f w143 S132 X119 le132 hA119 hK125 hI125
        have I150 : Inv w143 S132 (Row (α := Int) 3 (Value.slice z17 m17 k17) (x12.1) :: X119) := hI125
        have q196 : f 59 = (Value.bool (x12.2 != 0)) := vt (hA119.at_ 2 rfl _ rfl) rfl
        have q197 : f 60 = (Value.slice z17 m17 k17) := vt (hA119.at_ 3 rfl _ rfl) rfl
        refine opg_taken (c := x12.2 != 0) rfl rfl rfl rfl q196 hc13 (op_len_row (α := Int) rfl Try.underlying34 q197 (I150.nth 0 rfl) ?_)
        refine ⟨_, _, rfl, PH.Le.refl _, ?_, ?_⟩
        ·
         exact rfl
        ·
         exact I150
       ·
        intro vs126 f w144 S133 X120 le133 hA120 hK126 hI126
        have I151 : Inv w144 S133 (X120) := hI126
        have q198 : f 59 = (Value.bool (x12.2 != 0)) := vt (hA120.at_ 2 rfl _ rfl) rfl
        refine opg_taken (c := x12.2 != 0) rfl rfl rfl rfl q198 hc13 (op_fieldAddr_t (v := (Value.pointer (some ⟨g2, 0, none⟩))) rfl fa68_0 ((hK126 5 (keep_of rfl)).trans e24) ((p2.mono (((le3.trans le4).trans le22).trans le133)).at_ I151) ?_)
        refine ⟨_, _, rfl, PH.Le.refl _, ?_, ?_⟩
        ·
         exact rfl
        ·
         exact I151
       ·
        intro vs127 f w145 S134 X121 le134 hA121 hK127 hI127
        have I152 : Inv w145 S134 (X121) := hI127
        have q199 : f 59 = (Value.bool (x12.2 != 0)) := vt (hA121.at_ 2 rfl _ rfl) rfl
        have q200 : f 62 = (fieldPtr (Value.pointer (some ⟨g2, 0, none⟩)) 0) := vt (hA121.at_ 3 rfl _ rfl) rfl
        refine opg_taken (c := x12.2 != 0) rfl rfl rfl rfl q199 hc13 (op_load_int (v := (fieldPtr (Value.pointer (some ⟨g2, 0, none⟩)) 0)) (e := a2.Ticks) rfl sh3 q200 (((p2.mono (((le3.trans le4).trans le22).trans le134)).at_ I152).fld Law08_Loss.fld0) ?_)
        refine ⟨_, _, rfl, PH.Le.refl _, ?_, ?_⟩
        ·
         exact rfl
        ·
         exact I152
       ·
        intro vs128 f w146 S135 X122 le135 hA122 hK128 hI128
        have I153 : Inv w146 S135 (X122) := hI128
        have q201 : f 59 = (Value.bool (x12.2 != 0)) := vt (hA122.at_ 2 rfl _ rfl) rfl
        have q202 : f 61 = (Value.int .i64 ((x12.1.length : Int))) := vt (hA122.at_ 4 rfl _ rfl) rfl
        have q203 : f 63 = (Value.int .i64 (a2.Ticks)) := vt (hA122.at_ 6 rfl _ rfl) rfl
        refine opg_taken (c := x12.2 != 0) rfl rfl rfl rfl q201 hc13 (op_neq (a := (x12.1.length : Int)) (b := a2.Ticks) rfl q202 q203 ?_)
        refine ⟨_, _, rfl, PH.Le.refl _, ?_, ?_⟩
        ·
         exact rfl
        ·
         exact I153
       ·
        intro vs129 f w147 S136 X123 le136 hA123 hK129 hI129
        have I154 : Inv w147 S136 (X123) := hI129
        have q204 : f 59 = (Value.bool (x12.2 != 0)) := vt (hA123.at_ 2 rfl _ rfl) rfl
        have q205 : f 64 = (Value.bool ((x12.1.length : Int) != a2.Ticks)) := vt (hA123.at_ 7 rfl _ rfl) rfl
        refine opg_plain rfl rfl (op_pick_f (c := x12.2 != 0) (b := (Value.bool ((x12.1.length : Int) != a2.Ticks))) rfl q204 hc13 q205 ?_)
        refine ⟨_, _, rfl, PH.Le.refl _, ?_, ?_⟩
        ·
         exact rfl
        ·
         exact I154
       ·
        intro vs130 f w148 S137 X124 le137 hA124 hK130 hI130
        have I155 : Inv w148 S137 (X124) := hI130
        have q206 : f 65 = (Value.bool ((x12.1.length : Int) != a2.Ticks)) := vt (hA124.at_ 8 rfl _ rfl) rfl
        refine opg_plain rfl rfl (op_move (v := (Value.bool ((x12.1.length : Int) != a2.Ticks))) rfl q206 ?_)
        refine ⟨_, _, rfl, PH.Le.refl _, ?_, ?_⟩
        ·
         exact rfl
        ·
         exact I155
       ·
        intro vs131 f w149 S138 X125 le138 hA125 hK131 hI131
        have I156 : Inv w149 S138 (X125) := hI131
        have q207 : f 66 = (Value.bool ((x12.1.length : Int) != a2.Ticks)) := vt (hA125.at_ 9 rfl _ rfl) rfl
        refine opg_taken (c := (x12.1.length : Int) != a2.Ticks) rfl rfl rfl rfl q207 hc14 (op_move (v := (Value.slice z17 m17 k17)) rfl ((hK131 9 (keep_of rfl)).trans q21) ?_)
        refine ⟨_, _, rfl, PH.Le.refl _, ?_, ?_⟩
        ·
         exact rfl
        ·
         exact I156
       ·
        intro vs132 f w150 S139 X126 le139 hA126 hK132 hI132
        have I157 : Inv w150 S139 (X126) := hI132
        have q208 : f 66 = (Value.bool ((x12.1.length : Int) != a2.Ticks)) := vt (hA126.at_ 9 rfl _ rfl) rfl
        refine opg_taken (c := (x12.1.length : Int) != a2.Ticks) rfl rfl rfl rfl q208 hc14 (op_fieldAddr_t (v := (Value.pointer (some ⟨g2, 0, none⟩))) rfl fa68_0 ((hK132 5 (keep_of rfl)).trans e24) ((p2.mono (((le3.trans le4).trans le22).trans le139)).at_ I157) ?_)
        refine ⟨_, _, rfl, PH.Le.refl _, ?_, ?_⟩
        ·
         exact rfl
        ·
         exact I157
       ·
        intro vs133 f w151 S140 X127 le140 hA127 hK133 hI133
        have I158 : Inv w151 S140 (X127) := hI133
        have q209 : f 66 = (Value.bool ((x12.1.length : Int) != a2.Ticks)) := vt (hA127.at_ 9 rfl _ rfl) rfl
        have q210 : f 68 = (fieldPtr (Value.pointer (some ⟨g2, 0, none⟩)) 0) := vt (hA127.at_ 10 rfl _ rfl) rfl
        refine opg_taken (c := (x12.1.length : Int) != a2.Ticks) rfl rfl rfl rfl q209 hc14 (op_load_int (v := (fieldPtr (Value.pointer (some ⟨g2, 0, none⟩)) 0)) (e := a2.Ticks) rfl sh3 q210 (((p2.mono (((le3.trans le4).trans le22).trans le140)).at_ I158).fld Law08_Loss.fld0) ?_)
        refine ⟨_, _, rfl, PH.Le.refl _, ?_, ?_⟩
        ·
         exact rfl
        ·
         exact I158
       ·
        intro vs134 f w152 S141 X128 le141 hA128 hK134 hI134
        have I159 : Inv w152 S141 (X128) := hI134
        have q211 : f 66 = (Value.bool ((x12.1.length : Int) != a2.Ticks)) := vt (hA128.at_ 9 rfl _ rfl) rfl
        have q212 : f 69 = (Value.int .i64 (a2.Ticks)) := vt (hA128.at_ 11 rfl _ rfl) rfl
        refine opg_taken (c := (x12.1.length : Int) != a2.Ticks) rfl rfl rfl rfl q211 hc14 (op_sub (a := a2.Ticks) (b := 1) rfl q212 rfl ?_)
        refine ⟨_, _, rfl, PH.Le.refl _, ?_, ?_⟩
        ·
         exact rfl
        ·
         exact I159
       ·
        intro vs135 f w153 S142 X129 le142 hA129 hK135 hI135
        have I160 : Inv w153 S142 (Row (α := Int) 3 (Value.slice z17 m17 k17) (x12.1) :: X129) := hI135
        have q213 : f 66 = (Value.bool ((x12.1.length : Int) != a2.Ticks)) := vt (hA129.at_ 9 rfl _ rfl) rfl
        have q214 : f 67 = (Value.slice z17 m17 k17) := vt (hA129.at_ 10 rfl _ rfl) rfl
        have q215 : f 70 = (Value.int .i64 (w64 (a2.Ticks - 1))) := vt (hA129.at_ 13 rfl _ rfl) rfl
        refine opg_taken (c := (x12.1.length : Int) != a2.Ticks) rfl rfl rfl rfl q213 hc14 (op_indexAddr_src (v := (Value.slice z17 m17 k17)) (i := w64 (a2.Ticks - 1)) (e := x15) rfl Try.underlying34 sh3 q214 (Inv.rowSrc (I160.nth 0 rfl)) q215 hx15 ?_)
        refine ⟨_, _, rfl, PH.Le.refl _, ?_, ?_⟩
        ·
         exact rfl
        ·
         exact I160
       ·
        intro vs136 f w154 S143 X130 le143 hA130 hK136 hI136
        have I161 : Inv w154 S143 (Row (α := Int) 3 (Value.slice z17 m17 k17) (x12.1) :: X130) := hI136
        have q216 : f 66 = (Value.bool ((x12.1.length : Int) != a2.Ticks)) := vt (hA130.at_ 9 rfl _ rfl) rfl
        have q217 : f 71 = (elemPtr (Value.slice z17 m17 k17) (w64 (a2.Ticks - 1)) (Enc.sz Int)) := vt (hA130.at_ 14 rfl _ rfl) rfl
        refine opg_taken (c := (x12.1.length : Int) != a2.Ticks) rfl rfl rfl rfl q216 hc14 (op_load_int (v := (elemPtr (Value.slice z17 m17 k17) (w64 (a2.Ticks - 1)) (Enc.sz Int))) (e := x15) rfl sh3 q217 ((I161.nth 0 rfl).rowElem hx15) ?_)
        refine ⟨_, _, rfl, PH.Le.refl _, ?_, ?_⟩
        ·
         exact rfl
        ·
         exact I161
       ·
        intro vs137 f w155 S144 X131 le144 hA131 hK137 hI137
        have I162 : Inv w155 S144 (X131) := hI137
        have q218 : f 66 = (Value.bool ((x12.1.length : Int) != a2.Ticks)) := vt (hA131.at_ 9 rfl _ rfl) rfl
        refine opg_taken (c := (x12.1.length : Int) != a2.Ticks) rfl rfl rfl rfl q218 hc14 (op_fieldAddr_t (v := (Value.pointer (some ⟨g2, 0, none⟩))) rfl fa68_1 ((hK137 5 (keep_of rfl)).trans e24) ((p2.mono (((le3.trans le4).trans le22).trans le144)).at_ I162) ?_)
        refine ⟨_, _, rfl, PH.Le.refl _, ?_, ?_⟩
        ·
         exact rfl
        ·
         exact I162
       ·
        intro vs138 f w156 S145 X132 le145 hA132 hK138 hI138
        have I163 : Inv w156 S145 (X132) := hI138
        have q219 : f 66 = (Value.bool ((x12.1.length : Int) != a2.Ticks)) := vt (hA132.at_ 9 rfl _ rfl) rfl
        have q220 : f 73 = (fieldPtr (Value.pointer (some ⟨g2, 0, none⟩)) 1) := vt (hA132.at_ 10 rfl _ rfl) rfl
        refine opg_taken (c := (x12.1.length : Int) != a2.Ticks) rfl rfl rfl rfl q219 hc14 (op_load_int (v := (fieldPtr (Value.pointer (some ⟨g2, 0, none⟩)) 1)) (e := a2.Door) rfl sh3 q220 (((p2.mono (((le3.trans le4).trans le22).trans le145)).at_ I163).fld Law08_Loss.fld1) ?_)
        refine ⟨_, _, rfl, PH.Le.refl _, ?_, ?_⟩
        ·
         exact rfl
        ·
         exact I163
       ·
        intro vs139 f w157 S146 X133 le146 hA133 hK139 hI139
        have I164 : Inv w157 S146 (X133) := hI139
        have q221 : f 66 = (Value.bool ((x12.1.length : Int) != a2.Ticks)) := vt (hA133.at_ 9 rfl _ rfl) rfl
        have q222 : f 72 = (Value.int .i64 (x15)) := vt (hA133.at_ 15 rfl _ rfl) rfl
        have q223 : f 74 = (Value.int .i64 (a2.Door)) := vt (hA133.at_ 17 rfl _ rfl) rfl
        refine opg_taken (c := (x12.1.length : Int) != a2.Ticks) rfl rfl rfl rfl q221 hc14 (op_call_v (vs := [(Value.int .i64 (x15)), (Value.int .i64 (a2.Door))]) (r := (Value.bool (x16))) rfl ca19 rfl (args2 q222 q223) I164 (fun Fr_ hF_ => F19_ok hF_  hx16) (fun w158 I165 => ?_))
        refine ⟨_, _, rfl, PH.Le.refl _, ?_, ?_⟩
        ·
         exact rfl
        ·
         exact I165
       ·
        intro vs140 f w159 S147 X134 le147 hA134 hK140 hI140
        have I166 : Inv w159 S147 (X134) := hI140
        have q224 : f 66 = (Value.bool ((x12.1.length : Int) != a2.Ticks)) := vt (hA134.at_ 9 rfl _ rfl) rfl
        have q225 : f 75 = (Value.bool (x16)) := vt (hA134.at_ 18 rfl _ rfl) rfl
        refine opg_plain rfl rfl (op_pick_f (c := (x12.1.length : Int) != a2.Ticks) (b := (Value.bool (x16))) rfl q224 hc14 q225 ?_)
        refine ⟨_, _, rfl, PH.Le.refl _, ?_, ?_⟩
        ·
         exact rfl
        ·
         exact I166
       ·
        intro vs141 f w160 S148 le148 hF7 hK141 hI141
        have e47 : f 1 = (Value.slice z2 m2 k2) := (hK141 1 (keep_all rfl)).trans e22
        have e48 : f 3 = (Value.pointer (some ⟨g1, 0, none⟩)) := (hK141 3 (keep_all rfl)).trans e23
        have e49 : f 5 = (Value.pointer (some ⟨g2, 0, none⟩)) := (hK141 5 (keep_all rfl)).trans e24
        have e50 : f 7 = (Value.slice z7 m7 k7) := (hK141 7 (keep_all rfl)).trans e25
        have I167 : Inv w160 S148 (Row (α := Int) 3 (Value.slice z17 m17 k17) (x12.1) :: Fr) := hI141
        have q226 : f 76 = (Value.bool (x16)) := vt (hF7.at_ 19 rfl _ rfl) rfl
        rcases ifs h5 with ⟨hc15, h5⟩ | ⟨hc15, h5⟩
        ·
         refine wp_cond_t (b := x16) q226 hc15 ?_
         refine wp_seq' ?_
         refine wp_region' ?_
         refine wl_op rfl (op_assign (v := (Value.bool (false))) rfl rfl ?_)
         refine wl_nil ?_
         refine wp_ret' ?_
         obtain rfl := Option.some.inj h5
         have h6 := h
         obtain rfl := Option.some.inj h6
         exact ⟨(Value.bool (false)), (res1 rfl rfl), _, [], (((((le1.trans le2).trans le3).trans le4).trans le22).trans le148), (I167).drop, rfl, rfl⟩
        ·
         refine wp_cond_f (b := x16) q226 hc15 ?_
         refine wp_skip' ?_
         obtain rfl := Option.some.inj h5
         exact ⟨_, rfl, _, le148, (I167).drop, e47, e48, e49, e50⟩
    ·
     rintro f w ⟨v5, rfl, S149, le149, I168, e51, e52, e53, e54⟩
     have h := onL_inl h
     refine wp_seq' ?_
     refine wp_seq' ?_
     refine wp_region' ?_
     refine wl_op rfl (op_assign (v := (Value.int .i64 (1))) rfl rfl ?_)
     refine wl_nil ?_
     obtain ⟨o2, hrun1, h⟩ := bnd h
     refine wp_cutN (fun f w => ∃ out1, o2 = Sum.inl out1 ∧ ∃ (S_ : PH), S149.Le S_ ∧ Inv w S_ (Fr) ∧ f 1 = (Value.slice z2 m2 k2) ∧ f 3 = (Value.pointer (some ⟨g1, 0, none⟩)) ∧ f 5 = (Value.pointer (some ⟨g2, 0, none⟩)) ∧ f 7 = (Value.slice z7 m7 k7) ∧ f 10 = (Value.int .i64 (out1))) ?_ ?_
     ·
      refine wp_block' ?_
      refine wp_whileO (I := fun (s1 : (Int)) (f : Frm) (w : World) => ∃ (S_ : PH), S149.Le S_ ∧ Inv w S_ (Fr) ∧ f 1 = (Value.slice z2 m2 k2) ∧ f 3 = (Value.pointer (some ⟨g1, 0, none⟩)) ∧ f 5 = (Value.pointer (some ⟨g2, 0, none⟩)) ∧ f 7 = (Value.slice z7 m7 k7) ∧ f 10 = (Value.int .i64 (s1))) hrun1 ⟨_, (PH.Le.refl _), I168, e51, e52, e53, e54, rfl⟩ ?_
      rintro s1 f w o1 hI220 h7 hout1
      obtain ⟨S232, le232, I259, e157, e158, e159, e160, e161⟩ := hI220
      refine wp_seq' ?_
      refine wp_seq' ?_
      refine wp_region' ?_
      refine wl_op rfl (op_move (v := (Value.int .i64 (s1))) rfl e161 ?_)
      refine wl_op rfl (op_fieldAddr_t (v := (Value.pointer (some ⟨g2, 0, none⟩))) rfl fa68_2 e159 ((p2.mono ((((le3.trans le4).trans le22).trans le149).trans le232)).at_ I259) ?_)
      refine wl_op rfl (op_load (v := (fieldPtr (Value.pointer (some ⟨g2, 0, none⟩)) 2)) (e := a2.Losses) rfl sh34 rfl (((p2.mono ((((le3.trans le4).trans le22).trans le149).trans le232)).at_ I259).fld Law08_Loss.fld2) (fun u61 hu61 => ?_))
      obtain ⟨z60, m60, k60, e162⟩ := rv_form hu61
      subst e162
      refine wl_op rfl (op_len_rv rfl Try.underlying34 rfl hu61 ?_)
      refine wl_op rfl (op_lss (a := s1) (b := (a2.Losses.length : Int)) rfl rfl rfl ?_)
      refine wl_nil ?_
      rcases ifs h7 with ⟨hc28, h7⟩ | ⟨hc28, h7⟩
      ·
       refine wp_cond_t (b := decide (s1 < (a2.Losses.length : Int))) rfl hc28 ?_
       refine wp_skip' ?_
       refine wp_seq' ?_
       refine wp_block' ?_
       refine wp_seq' ?_
       obtain ⟨x35, hx35, h7⟩ := bnd h7
       obtain ⟨x36, hx36, h7⟩ := bnd h7
       refine wp_draw (sps := [⟨some 84, [], [0], fun vs_ T_ => fr0 vs_ 0 = (fieldPtr (Value.pointer (some ⟨g2, 0, none⟩)) 2), [], [], [], fun _ h_ => h_⟩, ⟨some 85, [0], [1], fun vs_ T_ => RV T_ (fr0 vs_ 0) a2.Losses, [], [], [], fun hle_ h_ => h_.mono hle_⟩, ⟨some 86, [], [2], fun vs_ T_ => fr0 vs_ 0 = (Value.int .i64 (s1)), [], [], [], fun _ h_ => h_⟩, ⟨some 87, [0, 1, 2], [3, 1], fun vs_ T_ => fr0 vs_ 0 = (elemPtr (fr0 vs_ 1) (s1) (Enc.sz Int)), [], [], [], fun _ h_ => h_⟩, ⟨some 88, [0, 1, 2, 3], [4], fun vs_ T_ => fr0 vs_ 0 = (Value.int .i64 (x35)), [], [], [], fun _ h_ => h_⟩, ⟨some 89, [], [5], fun vs_ T_ => fr0 vs_ 0 = (fieldPtr (Value.pointer (some ⟨g2, 0, none⟩)) 2), [], [], [], fun _ h_ => h_⟩, ⟨some 90, [5], [6], fun vs_ T_ => RV T_ (fr0 vs_ 0) a2.Losses, [], [], [], fun hle_ h_ => h_.mono hle_⟩, ⟨some 91, [], [7], fun vs_ T_ => fr0 vs_ 0 = (Value.int .i64 (s1)), [], [], [], fun _ h_ => h_⟩, ⟨some 92, [7], [8], fun vs_ T_ => fr0 vs_ 0 = (Value.int .i64 (w64 (s1 - 1))), [], [], [], fun _ h_ => h_⟩, ⟨some 93, [5, 6, 7, 8], [9, 6], fun vs_ T_ => fr0 vs_ 0 = (elemPtr (fr0 vs_ 1) (w64 (s1 - 1)) (Enc.sz Int)), [], [], [], fun _ h_ => h_⟩, ⟨some 94, [5, 6, 7, 8, 9], [10], fun vs_ T_ => fr0 vs_ 0 = (Value.int .i64 (x36)), [], [], [], fun _ h_ => h_⟩, ⟨some 95, [0, 1, 2, 3, 4, 5, 6, 7, 8, 9, 10], [11], fun vs_ T_ => fr0 vs_ 0 = (Value.bool (decide (x35 ≤ x36))), [], [], [], fun _ h_ => h_⟩]) (tks := []) (O := Fr) rfl (by kernel_rfl) I259 ⟨?_, ?_, ?_, ?_, ?_, ?_, ?_, ?_, ?_, ?_, ?_, ?_, trivial⟩ ?_
       ·
        intro vs220 f w245 S233 X207 le233 hA207 hK220 hI221
        have I260 : Inv w245 S233 (X207) := hI221
        refine opg_plain rfl rfl (op_fieldAddr_t (v := (Value.pointer (some ⟨g2, 0, none⟩))) rfl fa68_2 ((hK220 5 (keep_of rfl)).trans e159) ((p2.mono (((((le3.trans le4).trans le22).trans le149).trans le232).trans le233)).at_ I260) ?_)
        refine ⟨_, _, rfl, PH.Le.refl _, ?_, ?_⟩
        ·
         exact rfl
        ·
         exact I260
       ·
        intro vs221 f w246 S234 X208 le234 hA208 hK221 hI222
        have I261 : Inv w246 S234 (X208) := hI222
        have q323 : f 84 = (fieldPtr (Value.pointer (some ⟨g2, 0, none⟩)) 2) := vt (hA208.at_ 0 rfl _ rfl) rfl
        refine opg_plain rfl rfl (op_load (v := (fieldPtr (Value.pointer (some ⟨g2, 0, none⟩)) 2)) (e := a2.Losses) rfl sh34 q323 (((p2.mono (((((le3.trans le4).trans le22).trans le149).trans le232).trans le234)).at_ I261).fld Law08_Loss.fld2) (fun u64 hu64 => ?_))
        obtain ⟨z61, m61, k61, e163⟩ := rv_form hu64
        subst e163
        refine ⟨_, _, rfl, PH.Le.refl _, ?_, ?_⟩
        ·
         exact hu64
        ·
         exact I261
       ·
        intro vs222 f w247 S235 X209 le235 hA209 hK222 hI223
        have I262 : Inv w247 S235 (X209) := hI223
        refine opg_plain rfl rfl (op_move (v := (Value.int .i64 (s1))) rfl ((hK222 10 (keep_of rfl)).trans e161) ?_)
        refine ⟨_, _, rfl, PH.Le.refl _, ?_, ?_⟩
        ·
         exact rfl
        ·
         exact I262
       ·
        intro vs223 f w248 S236 X210 le236 hA210 hK223 hI224
        have I263 : Inv w248 S236 (X210) := hI224
        have q324 : f 85 = vs223 1 := (hA210.at_ 1 rfl _ rfl).1 _ rfl
        have r33 : RV S236 (vs223 1) a2.Losses := (hA210.at_ 1 rfl _ rfl).2
        obtain ⟨u65, hu65⟩ : ∃ u, vs223 1 = u := ⟨_, rfl⟩
        rw [hu65] at q324 r33
        obtain ⟨z62, m62, k62, e164⟩ := rv_form r33
        subst e164
        have q325 : f 86 = (Value.int .i64 (s1)) := vt (hA210.at_ 2 rfl _ rfl) rfl
        refine opg_plain rfl rfl (op_indexAddr_rv (v := (Value.slice z62 m62 k62)) (i := s1) (e := x35) rfl Try.underlying34 sh3 q324 r33 q325 hx35 ?_)
        refine ⟨_, _, rfl, PH.Le.refl _, ?_, ?_⟩
        ·
         show (elemPtr (Value.slice z62 m62 k62) (s1) (Enc.sz Int)) = (elemPtr (vs223 1) (s1) (Enc.sz Int))
         simp only [hu65] <;> rfl
        ·
         exact I263
       ·
        intro vs224 f w249 S237 X211 le237 hA211 hK224 hI225
        have I264 : Inv w249 S237 (X211) := hI225
        have q326 : f 85 = vs224 1 := (hA211.at_ 1 rfl _ rfl).1 _ rfl
        have r34 : RV S237 (vs224 1) a2.Losses := (hA211.at_ 1 rfl _ rfl).2
        obtain ⟨u66, hu66⟩ : ∃ u, vs224 1 = u := ⟨_, rfl⟩
        rw [hu66] at q326 r34
        obtain ⟨z63, m63, k63, e165⟩ := rv_form r34
        subst e165
        have q327 : f 86 = (Value.int .i64 (s1)) := vt (hA211.at_ 2 rfl _ rfl) rfl
        have q328 : f 87 = (elemPtr (vs224 1) (s1) (Enc.sz Int)) := vt (hA211.at_ 3 rfl _ rfl) rfl
        simp only [hu66] at q328
        have q328 : f 87 = (elemPtr (Value.slice z63 m63 k63) (s1) (Enc.sz Int)) := q328
        refine opg_plain rfl rfl (op_load_int (v := (elemPtr (Value.slice z63 m63 k63) (s1) (Enc.sz Int))) (e := x35) rfl sh3 q328 (r34.elem I264.in_ hx35) ?_)
        refine ⟨_, _, rfl, PH.Le.refl _, ?_, ?_⟩
        ·
         exact rfl
        ·
         exact I264
       ·
        intro vs225 f w250 S238 X212 le238 hA212 hK225 hI226
        have I265 : Inv w250 S238 (X212) := hI226
        refine opg_plain rfl rfl (op_fieldAddr_t (v := (Value.pointer (some ⟨g2, 0, none⟩))) rfl fa68_2 ((hK225 5 (keep_of rfl)).trans e159) ((p2.mono (((((le3.trans le4).trans le22).trans le149).trans le232).trans le238)).at_ I265) ?_)
        refine ⟨_, _, rfl, PH.Le.refl _, ?_, ?_⟩
        ·
         exact rfl
        ·
         exact I265
       ·
        intro vs226 f w251 S239 X213 le239 hA213 hK226 hI227
        have I266 : Inv w251 S239 (X213) := hI227
        have q329 : f 89 = (fieldPtr (Value.pointer (some ⟨g2, 0, none⟩)) 2) := vt (hA213.at_ 0 rfl _ rfl) rfl
        refine opg_plain rfl rfl (op_load (v := (fieldPtr (Value.pointer (some ⟨g2, 0, none⟩)) 2)) (e := a2.Losses) rfl sh34 q329 (((p2.mono (((((le3.trans le4).trans le22).trans le149).trans le232).trans le239)).at_ I266).fld Law08_Loss.fld2) (fun u67 hu67 => ?_))
        obtain ⟨z64, m64, k64, e166⟩ := rv_form hu67
        subst e166
        refine ⟨_, _, rfl, PH.Le.refl _, ?_, ?_⟩
        ·
         exact hu67
        ·
         exact I266
       ·
        intro vs227 f w252 S240 X214 le240 hA214 hK227 hI228
        have I267 : Inv w252 S240 (X214) := hI228
        refine opg_plain rfl rfl (op_move (v := (Value.int .i64 (s1))) rfl ((hK227 10 (keep_of rfl)).trans e161) ?_)
        refine ⟨_, _, rfl, PH.Le.refl _, ?_, ?_⟩
        ·
         exact rfl
        ·
         exact I267
       ·
        intro vs228 f w253 S241 X215 le241 hA215 hK228 hI229
        have I268 : Inv w253 S241 (X215) := hI229
        have q330 : f 91 = (Value.int .i64 (s1)) := vt (hA215.at_ 0 rfl _ rfl) rfl
        refine opg_plain rfl rfl (op_sub (a := s1) (b := 1) rfl q330 rfl ?_)
        refine ⟨_, _, rfl, PH.Le.refl _, ?_, ?_⟩
        ·
         exact rfl
        ·
         exact I268
       ·
        intro vs229 f w254 S242 X216 le242 hA216 hK229 hI230
        have I269 : Inv w254 S242 (X216) := hI230
        have q331 : f 90 = vs229 6 := (hA216.at_ 1 rfl _ rfl).1 _ rfl
        have r35 : RV S242 (vs229 6) a2.Losses := (hA216.at_ 1 rfl _ rfl).2
        obtain ⟨u68, hu68⟩ : ∃ u, vs229 6 = u := ⟨_, rfl⟩
        rw [hu68] at q331 r35
        obtain ⟨z65, m65, k65, e167⟩ := rv_form r35
        subst e167
        have q332 : f 92 = (Value.int .i64 (w64 (s1 - 1))) := vt (hA216.at_ 3 rfl _ rfl) rfl
        refine opg_plain rfl rfl (op_indexAddr_rv (v := (Value.slice z65 m65 k65)) (i := w64 (s1 - 1)) (e := x36) rfl Try.underlying34 sh3 q331 r35 q332 hx36 ?_)
        refine ⟨_, _, rfl, PH.Le.refl _, ?_, ?_⟩
        ·
         show (elemPtr (Value.slice z65 m65 k65) (w64 (s1 - 1)) (Enc.sz Int)) = (elemPtr (vs229 6) (w64 (s1 - 1)) (Enc.sz Int))
         simp only [hu68] <;> rfl
        ·
         exact I269
       ·
        intro vs230 f w255 S243 X217 le243 hA217 hK230 hI231
        have I270 : Inv w255 S243 (X217) := hI231
        have q333 : f 90 = vs230 6 := (hA217.at_ 1 rfl _ rfl).1 _ rfl
        have r36 : RV S243 (vs230 6) a2.Losses := (hA217.at_ 1 rfl _ rfl).2
        obtain ⟨u69, hu69⟩ : ∃ u, vs230 6 = u := ⟨_, rfl⟩
        rw [hu69] at q333 r36
        obtain ⟨z66, m66, k66, e168⟩ := rv_form r36
        subst e168
        have q334 : f 92 = (Value.int .i64 (w64 (s1 - 1))) := vt (hA217.at_ 3 rfl _ rfl) rfl
        have q335 : f 93 = (elemPtr (vs230 6) (w64 (s1 - 1)) (Enc.sz Int)) := vt (hA217.at_ 4 rfl _ rfl) rfl
        simp only [hu69] at q335
        have q335 : f 93 = (elemPtr (Value.slice z66 m66 k66) (w64 (s1 - 1)) (Enc.sz Int)) := q335
        refine opg_plain rfl rfl (op_load_int (v := (elemPtr (Value.slice z66 m66 k66) (w64 (s1 - 1)) (Enc.sz Int))) (e := x36) rfl sh3 q335 (r36.elem I270.in_ hx36) ?_)
        refine ⟨_, _, rfl, PH.Le.refl _, ?_, ?_⟩
        ·
         exact rfl
        ·
         exact I270
       ·
        intro vs231 f w256 S244 X218 le244 hA218 hK231 hI232
        have I271 : Inv w256 S244 (X218) := hI232
        have q336 : f 88 = (Value.int .i64 (x35)) := vt (hA218.at_ 4 rfl _ rfl) rfl
        have q337 : f 94 = (Value.int .i64 (x36)) := vt (hA218.at_ 10 rfl _ rfl) rfl
        refine opg_plain rfl rfl (op_leq (a := x35) (b := x36) rfl q336 q337 ?_)
        refine ⟨_, _, rfl, PH.Le.refl _, ?_, ?_⟩
        ·
         exact rfl
        ·
         exact I271
       ·
        intro vs232 f w257 S245 le245 hF14 hK232 hI233
        have e169 : f 1 = (Value.slice z2 m2 k2) := (hK232 1 (keep_all rfl)).trans e157
        have e170 : f 3 = (Value.pointer (some ⟨g1, 0, none⟩)) := (hK232 3 (keep_all rfl)).trans e158
        have e171 : f 5 = (Value.pointer (some ⟨g2, 0, none⟩)) := (hK232 5 (keep_all rfl)).trans e159
        have e172 : f 7 = (Value.slice z7 m7 k7) := (hK232 7 (keep_all rfl)).trans e160
        have e173 : f 10 = (Value.int .i64 (s1)) := (hK232 10 (keep_all rfl)).trans e161
        have I272 : Inv w257 S245 (Fr) := hI233
        have q338 : f 95 = (Value.bool (decide (x35 ≤ x36))) := vt (hF14.at_ 11 rfl _ rfl) rfl
        rcases ifs h7 with ⟨hc29, h7⟩ | ⟨hc29, h7⟩
        ·
         refine wp_cond_t (b := decide (x35 ≤ x36)) q338 hc29 ?_
         refine wp_seq' ?_
         refine wp_region' ?_
         obtain ⟨x37, hx37, h7⟩ := bnd h7
         refine wl_op rfl (op_call_v (vs := []) (r := (Value.bool (x37))) rfl ca16 rfl args0 I272 (fun Fr_ hF_ => F16_ok hF_  hx37) (fun w258 I273 => ?_))
         refine wl_op rfl (op_assign (v := (Value.bool (x37))) rfl rfl ?_)
         refine wl_nil ?_
         refine wp_ret' ?_
         obtain rfl := Option.some.inj h7
         obtain rfl := (hout1 _ rfl)
         have h8 := h
         obtain rfl := Option.some.inj h8
         exact ⟨(Value.bool (x37)), (res1 rfl rfl), _, [], (((((((le1.trans le2).trans le3).trans le4).trans le22).trans le149).trans le232).trans le245), I273, rfl, rfl⟩
        ·
         refine wp_cond_f (b := decide (x35 ≤ x36)) q338 hc29 ?_
         refine wp_skip' ?_
         refine wp_region' ?_
         refine wl_op rfl (op_move (v := (Value.int .i64 (s1))) rfl e173 ?_)
         refine wl_op rfl (op_add (a := s1) (b := 1) rfl rfl rfl ?_)
         refine wl_op rfl (op_assign (v := (Value.int .i64 (w64 (s1 + 1)))) rfl rfl ?_)
         refine wl_nil ?_
         obtain rfl := Option.some.inj h7
         exact ⟨_, rfl, _, (le232.trans le245), I272, e169, e170, e171, e172, rfl⟩
      ·
       refine wp_cond_f (b := decide (s1 < (a2.Losses.length : Int))) rfl hc28 ?_
       refine wp_exit' ?_
       obtain rfl := Option.some.inj h7
       obtain rfl := (hout1 _ rfl)
       exact ⟨_, rfl, _, le232, I259, e157, e158, e159, e160, e161⟩
     ·
      rintro f w ⟨out1, rfl, S246, le246, I274, e174, e175, e176, e177, e178⟩
      have h := onL_inl h
      refine wp_seq' ?_
      obtain ⟨x38, hx38, h⟩ := bnd h
      obtain ⟨x39, hx39, h⟩ := bnd h
      refine wp_draw (sps := [⟨some 98, [], [0], fun vs_ T_ => RV T_ (fr0 vs_ 0) a0, [], [], [], fun hle_ h_ => h_.mono hle_⟩, ⟨some 99, [], [1], fun vs_ T_ => fr0 vs_ 0 = (fieldPtr (Value.pointer (some ⟨g2, 0, none⟩)) 0), [], [], [], fun _ h_ => h_⟩, ⟨some 100, [1], [2], fun vs_ T_ => fr0 vs_ 0 = (Value.int .i64 (a2.Ticks)), [], [], [], fun _ h_ => h_⟩, ⟨some 101, [], [3], fun vs_ T_ => fr0 vs_ 0 = (Value.slice z2 m2 k2), [], [], [], fun _ h_ => h_⟩, ⟨some 102, [], [4], fun vs_ T_ => fr0 vs_ 0 = (fieldPtr (Value.pointer (some ⟨g2, 0, none⟩)) 1), [], [], [], fun _ h_ => h_⟩, ⟨some 103, [4], [5], fun vs_ T_ => fr0 vs_ 0 = (Value.int .i64 (a2.Door)), [], [], [], fun _ h_ => h_⟩, ⟨some 104, [], [6], fun vs_ T_ => fr0 vs_ 0 = (fieldPtr (Value.pointer (some ⟨g2, 0, none⟩)) 2), [], [], [], fun _ h_ => h_⟩, ⟨some 105, [6], [7], fun vs_ T_ => RV T_ (fr0 vs_ 0) a2.Losses, [], [], [], fun hle_ h_ => h_.mono hle_⟩, ⟨some 106, [3, 4, 5, 6, 7], [8], fun vs_ T_ => ∃ (a0_ : Option Addr) (n0_ k0_ : Nat), fr0 vs_ 0 = (Value.slice a0_ n0_ k0_), [], [], [0], fun _ h_ => h_⟩, ⟨some 107, [0, 1, 2, 3, 4, 5, 6, 7, 8], [9], fun vs_ T_ => ∃ (a0_ : Option Addr) (n0_ k0_ : Nat), fr0 vs_ 0 = (Value.tuple #[(Value.slice a0_ n0_ k0_), (Value.int .i64 (x39.2))]), [], [0], [1], fun _ h_ => h_⟩, ⟨some 97, [0, 1, 2, 3, 4, 5, 6, 7, 8, 9], [10, 9], fun vs_ T_ => fr0 vs_ 0 = (Value.tuple #[(tupAt (fr0 vs_ 1) 0), (Value.int .i64 (x39.2))]), [], [], [], fun _ h_ => h_⟩, ⟨some 108, [0, 1, 2, 3, 4, 5, 6, 7, 8, 9, 10], [11, 9], fun vs_ T_ => fr0 vs_ 0 = (tupAt (fr0 vs_ 1) 0), [], [], [], fun _ h_ => h_⟩, ⟨some 109, [0, 1, 2, 3, 4, 5, 6, 7, 8, 9, 10], [12], fun vs_ T_ => fr0 vs_ 0 = (Value.int .i64 (x39.2)), [], [], [], fun _ h_ => h_⟩, ⟨some 9, [0, 1, 2, 3, 4, 5, 6, 7, 8, 9, 10, 11], [13, 9], fun vs_ T_ => fr0 vs_ 0 = (tupAt (fr0 vs_ 1) 0), [], [], [], fun _ h_ => h_⟩, ⟨some 8, [0, 1, 2, 3, 4, 5, 6, 7, 8, 9, 10, 11, 12, 13], [14], fun vs_ T_ => fr0 vs_ 0 = (Value.int .i64 (x39.2)), [], [], [], fun _ h_ => h_⟩]) (tks := [⟨some 8, some 9, [8], fun vs_ => Row (α := Signal) 46 (fr0 vs_ 0) (x38)⟩, ⟨some 9, none, [9], fun vs_ => Row (α := Int) 3 (tupAt (fr0 vs_ 0) 0) (x39.1)⟩]) (O := Fr) rfl (by kernel_rfl) I274 ⟨?_, ?_, ?_, ?_, ?_, ?_, ?_, ?_, ?_, ?_, ?_, ?_, ?_, ?_, ?_, trivial⟩ ?_
      ·
       intro vs233 f w259 S247 X219 le247 hA219 hK233 hI234
       have I275 : Inv w259 S247 (X219) := hI234
       refine opg_plain rfl rfl (op_load (v := (Value.pointer (some ⟨g1, 0, none⟩))) (e := a0) rfl sh24 ((hK233 3 (keep_of rfl)).trans e175) ((p1.mono ((((((le2.trans le3).trans le4).trans le22).trans le149).trans le246).trans le247)).at_ I275) (fun u72 hu72 => ?_))
       obtain ⟨c6, e179, r37⟩ := Panel.inv hu72
       subst e179
       obtain ⟨z67, m67, k67, e180⟩ := rv_form r37
       subst e180
       refine ⟨_, _, rfl, PH.Le.refl _, ?_, ?_⟩
       ·
        exact (Panel.rv (s := a0) r37)
       ·
        exact I275
      ·
       intro vs234 f w260 S248 X220 le248 hA220 hK234 hI235
       have I276 : Inv w260 S248 (X220) := hI235
       refine opg_plain rfl rfl (op_fieldAddr_t (v := (Value.pointer (some ⟨g2, 0, none⟩))) rfl fa68_0 ((hK234 5 (keep_of rfl)).trans e176) ((p2.mono (((((le3.trans le4).trans le22).trans le149).trans le246).trans le248)).at_ I276) ?_)
       refine ⟨_, _, rfl, PH.Le.refl _, ?_, ?_⟩
       ·
        exact rfl
       ·
        exact I276
      ·
       intro vs235 f w261 S249 X221 le249 hA221 hK235 hI236
       have I277 : Inv w261 S249 (X221) := hI236
       have q339 : f 99 = (fieldPtr (Value.pointer (some ⟨g2, 0, none⟩)) 0) := vt (hA221.at_ 0 rfl _ rfl) rfl
       refine opg_plain rfl rfl (op_load_int (v := (fieldPtr (Value.pointer (some ⟨g2, 0, none⟩)) 0)) (e := a2.Ticks) rfl sh3 q339 (((p2.mono (((((le3.trans le4).trans le22).trans le149).trans le246).trans le249)).at_ I277).fld Law08_Loss.fld0) ?_)
       refine ⟨_, _, rfl, PH.Le.refl _, ?_, ?_⟩
       ·
        exact rfl
       ·
        exact I277
      ·
       intro vs236 f w262 S250 X222 le250 hA222 hK236 hI237
       have I278 : Inv w262 S250 (X222) := hI237
       refine opg_plain rfl rfl (op_move (v := (Value.slice z2 m2 k2)) rfl ((hK236 1 (keep_of rfl)).trans e174) ?_)
       refine ⟨_, _, rfl, PH.Le.refl _, ?_, ?_⟩
       ·
        exact rfl
       ·
        exact I278
      ·
       intro vs237 f w263 S251 X223 le251 hA223 hK237 hI238
       have I279 : Inv w263 S251 (X223) := hI238
       refine opg_plain rfl rfl (op_fieldAddr_t (v := (Value.pointer (some ⟨g2, 0, none⟩))) rfl fa68_1 ((hK237 5 (keep_of rfl)).trans e176) ((p2.mono (((((le3.trans le4).trans le22).trans le149).trans le246).trans le251)).at_ I279) ?_)
       refine ⟨_, _, rfl, PH.Le.refl _, ?_, ?_⟩
       ·
        exact rfl
       ·
        exact I279
      ·
       intro vs238 f w264 S252 X224 le252 hA224 hK238 hI239
       have I280 : Inv w264 S252 (X224) := hI239
       have q340 : f 102 = (fieldPtr (Value.pointer (some ⟨g2, 0, none⟩)) 1) := vt (hA224.at_ 0 rfl _ rfl) rfl
       refine opg_plain rfl rfl (op_load_int (v := (fieldPtr (Value.pointer (some ⟨g2, 0, none⟩)) 1)) (e := a2.Door) rfl sh3 q340 (((p2.mono (((((le3.trans le4).trans le22).trans le149).trans le246).trans le252)).at_ I280).fld Law08_Loss.fld1) ?_)
       refine ⟨_, _, rfl, PH.Le.refl _, ?_, ?_⟩
       ·
        exact rfl
       ·
        exact I280
      ·
       intro vs239 f w265 S253 X225 le253 hA225 hK239 hI240
       have I281 : Inv w265 S253 (X225) := hI240
       refine opg_plain rfl rfl (op_fieldAddr_t (v := (Value.pointer (some ⟨g2, 0, none⟩))) rfl fa68_2 ((hK239 5 (keep_of rfl)).trans e176) ((p2.mono (((((le3.trans le4).trans le22).trans le149).trans le246).trans le253)).at_ I281) ?_)
       refine ⟨_, _, rfl, PH.Le.refl _, ?_, ?_⟩
       ·
        exact rfl
       ·
        exact I281
      ·
       intro vs240 f w266 S254 X226 le254 hA226 hK240 hI241
       have I282 : Inv w266 S254 (X226) := hI241
       have q341 : f 104 = (fieldPtr (Value.pointer (some ⟨g2, 0, none⟩)) 2) := vt (hA226.at_ 0 rfl _ rfl) rfl
       refine opg_plain rfl rfl (op_load (v := (fieldPtr (Value.pointer (some ⟨g2, 0, none⟩)) 2)) (e := a2.Losses) rfl sh34 q341 (((p2.mono (((((le3.trans le4).trans le22).trans le149).trans le246).trans le254)).at_ I282).fld Law08_Loss.fld2) (fun u73 hu73 => ?_))
       obtain ⟨z68, m68, k68, e181⟩ := rv_form hu73
       subst e181
       refine ⟨_, _, rfl, PH.Le.refl _, ?_, ?_⟩
       ·
        exact hu73
       ·
        exact I282
      ·
       intro vs241 f w267 S255 X227 le255 hA227 hK241 hI242
       have I283 : Inv w267 S255 (X227) := hI242
       have q342 : f 101 = (Value.slice z2 m2 k2) := vt (hA227.at_ 0 rfl _ rfl) rfl
       have q343 : f 103 = (Value.int .i64 (a2.Door)) := vt (hA227.at_ 2 rfl _ rfl) rfl
       have q344 : f 105 = vs241 7 := (hA227.at_ 4 rfl _ rfl).1 _ rfl
       have r38 : RV S255 (vs241 7) a2.Losses := (hA227.at_ 4 rfl _ rfl).2
       obtain ⟨u74, hu74⟩ : ∃ u, vs241 7 = u := ⟨_, rfl⟩
       rw [hu74] at q344 r38
       obtain ⟨z69, m69, k69, e182⟩ := rv_form r38
       subst e182
       refine opg_plain rfl rfl (op_call (vs := [(Value.slice z2 m2 k2), (Value.int .i64 (a2.Door)), (Value.slice z69 m69 k69)]) rfl ca18 rfl (args3 q342 q343 q344) (F18_ok I283 (h1_.mono (((((((le1.trans le2).trans le3).trans le4).trans le22).trans le149).trans le246).trans le255)) r38 hx38) (fun v6 w268 S256 O4 le256 I284 hv4 => ?_))
       obtain ⟨z70, m70, k70, rfl, rfl⟩ := hv4
       refine ⟨_, _, rfl, le256, ?_, ?_⟩
       ·
        exact ⟨_, _, _, rfl⟩
       ·
        exact I284
      ·
       intro vs242 f w269 S257 X228 le257 hA228 hK242 hI243
       have I285 : Inv w269 S257 (Row (α := Signal) 46 (vs242 8) (x38) :: X228) := hI243
       have q345 : f 98 = vs242 0 := (hA228.at_ 0 rfl _ rfl).1 _ rfl
       have r39 : RV S257 (vs242 0) a0 := (hA228.at_ 0 rfl _ rfl).2
       obtain ⟨u75, hu75⟩ : ∃ u, vs242 0 = u := ⟨_, rfl⟩
       rw [hu75] at q345 r39
       obtain ⟨c7, e183, r40⟩ := Panel.inv r39
       subst e183
       obtain ⟨z71, m71, k71, e184⟩ := rv_form r40
       subst e184
       have q346 : f 100 = (Value.int .i64 (a2.Ticks)) := vt (hA228.at_ 2 rfl _ rfl) rfl
       obtain ⟨z72, m72, k72, e185⟩ := (hA228.at_ 8 rfl _ rfl).2
       have e185 : vs242 8 = (Value.slice z72 m72 k72) := e185
       have q347 : f 106 = (Value.slice z72 m72 k72) := ((hA228.at_ 8 rfl _ rfl).1 _ rfl).trans e185
       have I286 := I285
       rw [e185] at I286
       obtain ⟨S258, Fr2, le258, I287, r41, bk2⟩ := Inv.lend1 I286
       refine opg_plain rfl rfl (op_call (vs := [(Value.agg #[(Value.int .i64 (a0.Sensors)), (Value.slice z71 m71 k71), (Value.int .i64 (a0.Stale)), (Value.int .i64 (a0.Limit))]), (Value.int .i64 (a2.Ticks)), (Value.slice z72 m72 k72)]) rfl ca17 rfl (args3 q345 q346 q347) (F17_ok I287 (Panel.rv (s := a0) (r40.mono le258)) r41 hx39) (fun v7 w270 S259 O5 le259 I289 hv5 => ?_))
       obtain ⟨z73, m73, k73, rfl, rfl⟩ := hv5
       have I288 := bk2 [Row (α := Int) 3 (Value.slice z73 m73 k73) (x39.1)] ⟨Row.free, trivial⟩ I289 le259
       refine ⟨_, _, rfl, PH.Le.refl _, ?_, ?_⟩
       ·
        exact ⟨_, _, _, rfl⟩
       ·
        exact (I288.pull 1).drop
      ·
       intro vs243 f w271 S260 X229 le260 hA229 hK243 hI244
       have I290 : Inv w271 S260 (X229) := hI244
       obtain ⟨z74, m74, k74, e186⟩ := (hA229.at_ 9 rfl _ rfl).2
       have e186 : vs243 9 = (Value.tuple #[(Value.slice z74 m74 k74), (Value.int .i64 (x39.2))]) := e186
       have q348 : f 107 = (Value.tuple #[(Value.slice z74 m74 k74), (Value.int .i64 (x39.2))]) := ((hA229.at_ 9 rfl _ rfl).1 _ rfl).trans e186
       refine opg_plain rfl rfl (op_move (v := (Value.tuple #[(Value.slice z74 m74 k74), (Value.int .i64 (x39.2))])) rfl q348 ?_)
       refine ⟨_, _, rfl, PH.Le.refl _, ?_, ?_⟩
       ·
        show (Value.tuple #[(Value.slice z74 m74 k74), (Value.int .i64 (x39.2))]) = (Value.tuple #[(tupAt (vs243 9) 0), (Value.int .i64 (x39.2))])
        simp only [e186] <;> rfl
       ·
        exact I290
      ·
       intro vs244 f w272 S261 X230 le261 hA230 hK244 hI245
       have I291 : Inv w272 S261 (X230) := hI245
       obtain ⟨z75, m75, k75, e187⟩ := (hA230.at_ 9 rfl _ rfl).2
       have e187 : vs244 9 = (Value.tuple #[(Value.slice z75 m75 k75), (Value.int .i64 (x39.2))]) := e187
       have q349 : f 107 = (Value.tuple #[(Value.slice z75 m75 k75), (Value.int .i64 (x39.2))]) := ((hA230.at_ 9 rfl _ rfl).1 _ rfl).trans e187
       have q350 : f 97 = (Value.tuple #[(tupAt (vs244 9) 0), (Value.int .i64 (x39.2))]) := vt (hA230.at_ 10 rfl _ rfl) rfl
       simp only [e187] at q350
       have q350 : f 97 = (Value.tuple #[(Value.slice z75 m75 k75), (Value.int .i64 (x39.2))]) := q350
       refine opg_plain rfl rfl (op_extract (v := (Value.slice z75 m75 k75)) rfl q350 rfl ?_)
       refine ⟨_, _, rfl, PH.Le.refl _, ?_, ?_⟩
       ·
        show (Value.slice z75 m75 k75) = (tupAt (vs244 9) 0)
        simp only [e187] <;> rfl
       ·
        exact I291
      ·
       intro vs245 f w273 S262 X231 le262 hA231 hK245 hI246
       have I292 : Inv w273 S262 (X231) := hI246
       obtain ⟨z76, m76, k76, e188⟩ := (hA231.at_ 9 rfl _ rfl).2
       have e188 : vs245 9 = (Value.tuple #[(Value.slice z76 m76 k76), (Value.int .i64 (x39.2))]) := e188
       have q351 : f 107 = (Value.tuple #[(Value.slice z76 m76 k76), (Value.int .i64 (x39.2))]) := ((hA231.at_ 9 rfl _ rfl).1 _ rfl).trans e188
       have q352 : f 97 = (Value.tuple #[(tupAt (vs245 9) 0), (Value.int .i64 (x39.2))]) := vt (hA231.at_ 10 rfl _ rfl) rfl
       simp only [e188] at q352
       have q352 : f 97 = (Value.tuple #[(Value.slice z76 m76 k76), (Value.int .i64 (x39.2))]) := q352
       refine opg_plain rfl rfl (op_extract (v := (Value.int .i64 (x39.2))) rfl q352 rfl ?_)
       refine ⟨_, _, rfl, PH.Le.refl _, ?_, ?_⟩
       ·
        exact rfl
       ·
        exact I292
      ·
       intro vs246 f w274 S263 X232 le263 hA232 hK246 hI247
       have I293 : Inv w274 S263 (X232) := hI247
       obtain ⟨z77, m77, k77, e189⟩ := (hA232.at_ 9 rfl _ rfl).2
       have e189 : vs246 9 = (Value.tuple #[(Value.slice z77 m77 k77), (Value.int .i64 (x39.2))]) := e189
       have q353 : f 107 = (Value.tuple #[(Value.slice z77 m77 k77), (Value.int .i64 (x39.2))]) := ((hA232.at_ 9 rfl _ rfl).1 _ rfl).trans e189
       have q354 : f 97 = (Value.tuple #[(tupAt (vs246 9) 0), (Value.int .i64 (x39.2))]) := vt (hA232.at_ 10 rfl _ rfl) rfl
       simp only [e189] at q354
       have q354 : f 97 = (Value.tuple #[(Value.slice z77 m77 k77), (Value.int .i64 (x39.2))]) := q354
       have q355 : f 108 = (tupAt (vs246 9) 0) := vt (hA232.at_ 11 rfl _ rfl) rfl
       simp only [e189] at q355
       have q355 : f 108 = (Value.slice z77 m77 k77) := q355
       refine opg_plain rfl rfl (op_assign (v := (Value.slice z77 m77 k77)) rfl q355 ?_)
       refine ⟨_, _, rfl, PH.Le.refl _, ?_, ?_⟩
       ·
        show (Value.slice z77 m77 k77) = (tupAt (vs246 9) 0)
        simp only [e189] <;> rfl
       ·
        exact I293
      ·
       intro vs247 f w275 S264 X233 le264 hA233 hK247 hI248
       have I294 : Inv w275 S264 (X233) := hI248
       have q356 : f 109 = (Value.int .i64 (x39.2)) := vt (hA233.at_ 12 rfl _ rfl) rfl
       refine opg_plain rfl rfl (op_assign (v := (Value.int .i64 (x39.2))) rfl q356 ?_)
       refine ⟨_, _, rfl, PH.Le.refl _, ?_, ?_⟩
       ·
        exact rfl
       ·
        exact I294
      ·
       intro vs248 f w276 S265 le265 hF15 hK248 hI249
       have e190 : f 5 = (Value.pointer (some ⟨g2, 0, none⟩)) := (hK248 5 (keep_all rfl)).trans e176
       have e191 : f 7 = (Value.slice z7 m7 k7) := (hK248 7 (keep_all rfl)).trans e177
       have I295 : Inv w276 S265 (Row (α := Int) 3 (tupAt (vs248 9) 0) (x39.1) :: Fr) := hI249
       obtain ⟨z78, m78, k78, e192⟩ := (hF15.at_ 9 rfl _ rfl).2
       have e192 : vs248 9 = (Value.tuple #[(Value.slice z78 m78 k78), (Value.int .i64 (x39.2))]) := e192
       have q357 : f 107 = (Value.tuple #[(Value.slice z78 m78 k78), (Value.int .i64 (x39.2))]) := ((hF15.at_ 9 rfl _ rfl).1 _ rfl).trans e192
       have I296 := I295
       rw [e192] at I296
       have q358 : f 97 = (Value.tuple #[(tupAt (vs248 9) 0), (Value.int .i64 (x39.2))]) := vt (hF15.at_ 10 rfl _ rfl) rfl
       simp only [e192] at q358
       have q358 : f 97 = (Value.tuple #[(Value.slice z78 m78 k78), (Value.int .i64 (x39.2))]) := q358
       have q359 : f 108 = (tupAt (vs248 9) 0) := vt (hF15.at_ 11 rfl _ rfl) rfl
       simp only [e192] at q359
       have q359 : f 108 = (Value.slice z78 m78 k78) := q359
       have q360 : f 9 = (tupAt (vs248 9) 0) := vt (hF15.at_ 13 rfl _ rfl) rfl
       simp only [e192] at q360
       have q360 : f 9 = (Value.slice z78 m78 k78) := q360
       have q361 : f 8 = (Value.int .i64 (x39.2)) := vt (hF15.at_ 14 rfl _ rfl) rfl
       obtain ⟨ov8, h10, h⟩ := bnd h
       refine wp_cut (fun f w => ∃ v8, ov8 = Sum.inl v8 ∧ ∃ (S_ : PH), S265.Le S_ ∧ Inv w S_ (Fr) ∧ f 5 = (Value.pointer (some ⟨g2, 0, none⟩)) ∧ f 7 = (Value.slice z7 m7 k7)) ?_ ?_
       ·
        refine wp_seq' ?_
        rcases ifs h10 with ⟨hc33, h10⟩ | ⟨hc33, h10⟩
        ·
         refine wp_draw (sps := [⟨some 110, [], [0], fun vs_ T_ => fr0 vs_ 0 = (Value.int .i64 (x39.2)), [], [], [], fun _ h_ => h_⟩, ⟨some 111, [0], [1], fun vs_ T_ => fr0 vs_ 0 = (Value.bool (x39.2 != 0)), [], [], [], fun _ h_ => h_⟩, ⟨some 112, [0, 1], [2], fun vs_ T_ => fr0 vs_ 0 = (Value.bool (x39.2 != 0)), [], [], [], fun _ h_ => h_⟩, ⟨some 113, [0, 1, 2], [3], fun vs_ T_ => fr0 vs_ 0 = undef, [], [], [], fun _ h_ => h_⟩, ⟨some 114, [0, 1, 2, 3], [4], fun vs_ T_ => fr0 vs_ 0 = undef, [], [], [], fun _ h_ => h_⟩, ⟨some 115, [0, 1, 2], [5], fun vs_ T_ => fr0 vs_ 0 = undef, [], [], [], fun _ h_ => h_⟩, ⟨some 116, [0, 1, 2, 5], [6], fun vs_ T_ => fr0 vs_ 0 = undef, [], [], [], fun _ h_ => h_⟩, ⟨some 117, [0, 1, 2, 3, 4, 5, 6], [7], fun vs_ T_ => fr0 vs_ 0 = undef, [], [], [], fun _ h_ => h_⟩, ⟨some 118, [0, 1, 2, 3, 4, 5, 6, 7], [8], fun vs_ T_ => fr0 vs_ 0 = (Value.bool (true)), [], [], [], fun _ h_ => h_⟩, ⟨some 119, [0, 1, 2, 3, 4, 5, 6, 7, 8], [9], fun vs_ T_ => fr0 vs_ 0 = (Value.bool (true)), [], [], [], fun _ h_ => h_⟩, ⟨some 120, [0, 1, 2, 3, 4, 5, 6, 7, 8, 9], [10], fun vs_ T_ => fr0 vs_ 0 = undef, [], [], [], fun _ h_ => h_⟩, ⟨some 121, [0, 1, 2, 3, 4, 5, 6, 7, 8, 9], [11], fun vs_ T_ => fr0 vs_ 0 = undef, [], [], [], fun _ h_ => h_⟩, ⟨some 122, [0, 1, 2, 3, 4, 5, 6, 7, 8, 9, 11], [12], fun vs_ T_ => fr0 vs_ 0 = undef, [], [], [], fun _ h_ => h_⟩, ⟨some 123, [0, 1, 2, 3, 4, 5, 6, 7, 8, 9, 11, 12], [13], fun vs_ T_ => fr0 vs_ 0 = undef, [], [], [], fun _ h_ => h_⟩, ⟨some 124, [0, 1, 2, 3, 4, 5, 6, 7, 8, 9, 10, 11, 12, 13], [14], fun vs_ T_ => fr0 vs_ 0 = undef, [], [], [], fun _ h_ => h_⟩, ⟨some 125, [0, 1, 2, 3, 4, 5, 6, 7, 8, 9, 10, 11, 12, 13, 14], [15], fun vs_ T_ => fr0 vs_ 0 = undef, [], [], [], fun _ h_ => h_⟩, ⟨some 126, [0, 1, 2, 3, 4, 5, 6, 7, 8, 9], [16], fun vs_ T_ => fr0 vs_ 0 = undef, [], [], [], fun _ h_ => h_⟩, ⟨some 127, [0, 1, 2, 3, 4, 5, 6, 7, 8, 9, 16], [17], fun vs_ T_ => fr0 vs_ 0 = undef, [], [], [], fun _ h_ => h_⟩, ⟨some 128, [0, 1, 2, 3, 4, 5, 6, 7, 8, 9, 10, 11, 12, 13, 14, 15, 16, 17], [18], fun vs_ T_ => fr0 vs_ 0 = undef, [], [], [], fun _ h_ => h_⟩, ⟨some 129, [0, 1, 2, 3, 4, 5, 6, 7, 8, 9, 10, 11, 12, 13, 14, 15, 16, 17, 18], [19], fun vs_ T_ => fr0 vs_ 0 = (Value.bool (true)), [], [], [], fun _ h_ => h_⟩]) (tks := []) (O := Row (α := Int) 3 (Value.slice z78 m78 k78) (x39.1) :: Fr) rfl (by kernel_rfl) I296 ⟨?_, ?_, ?_, ?_, ?_, ?_, ?_, ?_, ?_, ?_, ?_, ?_, ?_, ?_, ?_, ?_, ?_, ?_, ?_, ?_, trivial⟩ ?_
         ·
          intro vs312 f w345 S329 X294 le329 hA294 hK312 hI313
          have I365 : Inv w345 S329 (X294) := hI313
          refine opg_plain rfl rfl (op_move (v := (Value.int .i64 (x39.2))) rfl ((hK312 8 (keep_of rfl)).trans q361) ?_)
          refine ⟨_, _, rfl, PH.Le.refl _, ?_, ?_⟩
          ·
           exact rfl
          ·
           exact I365
         ·
          intro vs313 f w346 S330 X295 le330 hA295 hK313 hI314
          have I366 : Inv w346 S330 (X295) := hI314
          have q464 : f 110 = (Value.int .i64 (x39.2)) := vt (hA295.at_ 0 rfl _ rfl) rfl
          refine opg_plain rfl rfl (op_neq (a := x39.2) (b := 0) rfl q464 rfl ?_)
          refine ⟨_, _, rfl, PH.Le.refl _, ?_, ?_⟩
          ·
           exact rfl
          ·
           exact I366
         ·
          intro vs314 f w347 S331 X296 le331 hA296 hK314 hI315
          have I367 : Inv w347 S331 (X296) := hI315
          have q465 : f 111 = (Value.bool (x39.2 != 0)) := vt (hA296.at_ 1 rfl _ rfl) rfl
          refine opg_plain rfl rfl (op_move (v := (Value.bool (x39.2 != 0))) rfl q465 ?_)
          refine ⟨_, _, rfl, PH.Le.refl _, ?_, ?_⟩
          ·
           exact rfl
          ·
           exact I367
         ·
          intro vs315 f w348 S332 X297 le332 hA297 hK315 hI316
          have I368 : Inv w348 S332 (X297) := hI316
          have q466 : f 112 = (Value.bool (x39.2 != 0)) := vt (hA297.at_ 2 rfl _ rfl) rfl
          exact opg_skip (c := x39.2 != 0) rfl rfl rfl rfl q466 hc33 rfl ⟨_, _, rfl, PH.Le.refl _, rfl, I368⟩
         ·
          intro vs316 f w349 S333 X298 le333 hA298 hK316 hI317
          have I369 : Inv w349 S333 (X298) := hI317
          have q467 : f 112 = (Value.bool (x39.2 != 0)) := vt (hA298.at_ 2 rfl _ rfl) rfl
          have q468 : f 113 = undef := vt (hA298.at_ 3 rfl _ rfl) rfl
          exact opg_skip (c := x39.2 != 0) rfl rfl rfl rfl q467 hc33 rfl ⟨_, _, rfl, PH.Le.refl _, rfl, I369⟩
         ·
          intro vs317 f w350 S334 X299 le334 hA299 hK317 hI318
          have I370 : Inv w350 S334 (X299) := hI318
          have q469 : f 112 = (Value.bool (x39.2 != 0)) := vt (hA299.at_ 2 rfl _ rfl) rfl
          exact opg_skip (c := x39.2 != 0) rfl rfl rfl rfl q469 hc33 rfl ⟨_, _, rfl, PH.Le.refl _, rfl, I370⟩
         ·
          intro vs318 f w351 S335 X300 le335 hA300 hK318 hI319
          have I371 : Inv w351 S335 (X300) := hI319
          have q470 : f 112 = (Value.bool (x39.2 != 0)) := vt (hA300.at_ 2 rfl _ rfl) rfl
          have q471 : f 115 = undef := vt (hA300.at_ 3 rfl _ rfl) rfl
          exact opg_skip (c := x39.2 != 0) rfl rfl rfl rfl q470 hc33 rfl ⟨_, _, rfl, PH.Le.refl _, rfl, I371⟩
         ·
          intro vs319 f w352 S336 X301 le336 hA301 hK319 hI320
          have I372 : Inv w352 S336 (X301) := hI320
          have q472 : f 112 = (Value.bool (x39.2 != 0)) := vt (hA301.at_ 2 rfl _ rfl) rfl
          have q473 : f 114 = undef := vt (hA301.at_ 4 rfl _ rfl) rfl
          have q474 : f 116 = undef := vt (hA301.at_ 6 rfl _ rfl) rfl
          exact opg_skip (c := x39.2 != 0) rfl rfl rfl rfl q472 hc33 rfl ⟨_, _, rfl, PH.Le.refl _, rfl, I372⟩
         ·
          intro vs320 f w353 S337 X302 le337 hA302 hK320 hI321
          have I373 : Inv w353 S337 (X302) := hI321
          have q475 : f 112 = (Value.bool (x39.2 != 0)) := vt (hA302.at_ 2 rfl _ rfl) rfl
          have q476 : f 117 = undef := vt (hA302.at_ 7 rfl _ rfl) rfl
          refine opg_plain rfl rfl (op_pick_t (c := x39.2 != 0) (a := (Value.bool (true))) rfl q475 hc33 rfl ?_)
          refine ⟨_, _, rfl, PH.Le.refl _, ?_, ?_⟩
          ·
           exact rfl
          ·
           exact I373
         ·
          intro vs321 f w354 S338 X303 le338 hA303 hK321 hI322
          have I374 : Inv w354 S338 (X303) := hI322
          have q477 : f 118 = (Value.bool (true)) := vt (hA303.at_ 8 rfl _ rfl) rfl
          refine opg_plain rfl rfl (op_move (v := (Value.bool (true))) rfl q477 ?_)
          refine ⟨_, _, rfl, PH.Le.refl _, ?_, ?_⟩
          ·
           exact rfl
          ·
           exact I374
         ·
          intro vs322 f w355 S339 X304 le339 hA304 hK322 hI323
          have I375 : Inv w355 S339 (X304) := hI323
          have q478 : f 119 = (Value.bool (true)) := vt (hA304.at_ 9 rfl _ rfl) rfl
          exact opg_skip (c := true) rfl rfl rfl rfl q478 rfl rfl ⟨_, _, rfl, PH.Le.refl _, rfl, I375⟩
         ·
          intro vs323 f w356 S340 X305 le340 hA305 hK323 hI324
          have I376 : Inv w356 S340 (X305) := hI324
          have q479 : f 119 = (Value.bool (true)) := vt (hA305.at_ 9 rfl _ rfl) rfl
          exact opg_skip (c := true) rfl rfl rfl rfl q479 rfl rfl ⟨_, _, rfl, PH.Le.refl _, rfl, I376⟩
         ·
          intro vs324 f w357 S341 X306 le341 hA306 hK324 hI325
          have I377 : Inv w357 S341 (X306) := hI325
          have q480 : f 119 = (Value.bool (true)) := vt (hA306.at_ 9 rfl _ rfl) rfl
          have q481 : f 121 = undef := vt (hA306.at_ 10 rfl _ rfl) rfl
          exact opg_skip (c := true) rfl rfl rfl rfl q480 rfl rfl ⟨_, _, rfl, PH.Le.refl _, rfl, I377⟩
         ·
          intro vs325 f w358 S342 X307 le342 hA307 hK325 hI326
          have I378 : Inv w358 S342 (X307) := hI326
          have q482 : f 119 = (Value.bool (true)) := vt (hA307.at_ 9 rfl _ rfl) rfl
          have q483 : f 122 = undef := vt (hA307.at_ 11 rfl _ rfl) rfl
          exact opg_skip (c := true) rfl rfl rfl rfl q482 rfl rfl ⟨_, _, rfl, PH.Le.refl _, rfl, I378⟩
         ·
          intro vs326 f w359 S343 X308 le343 hA308 hK326 hI327
          have I379 : Inv w359 S343 (X308) := hI327
          have q484 : f 119 = (Value.bool (true)) := vt (hA308.at_ 9 rfl _ rfl) rfl
          have q485 : f 120 = undef := vt (hA308.at_ 10 rfl _ rfl) rfl
          have q486 : f 123 = undef := vt (hA308.at_ 13 rfl _ rfl) rfl
          exact opg_skip (c := true) rfl rfl rfl rfl q484 rfl rfl ⟨_, _, rfl, PH.Le.refl _, rfl, I379⟩
         ·
          intro vs327 f w360 S344 X309 le344 hA309 hK327 hI328
          have I380 : Inv w360 S344 (X309) := hI328
          have q487 : f 119 = (Value.bool (true)) := vt (hA309.at_ 9 rfl _ rfl) rfl
          have q488 : f 124 = undef := vt (hA309.at_ 14 rfl _ rfl) rfl
          exact opg_skip (c := true) rfl rfl rfl rfl q487 rfl rfl ⟨_, _, rfl, PH.Le.refl _, rfl, I380⟩
         ·
          intro vs328 f w361 S345 X310 le345 hA310 hK328 hI329
          have I381 : Inv w361 S345 (X310) := hI329
          have q489 : f 119 = (Value.bool (true)) := vt (hA310.at_ 9 rfl _ rfl) rfl
          exact opg_skip (c := true) rfl rfl rfl rfl q489 rfl rfl ⟨_, _, rfl, PH.Le.refl _, rfl, I381⟩
         ·
          intro vs329 f w362 S346 X311 le346 hA311 hK329 hI330
          have I382 : Inv w362 S346 (X311) := hI330
          have q490 : f 119 = (Value.bool (true)) := vt (hA311.at_ 9 rfl _ rfl) rfl
          have q491 : f 126 = undef := vt (hA311.at_ 10 rfl _ rfl) rfl
          exact opg_skip (c := true) rfl rfl rfl rfl q490 rfl rfl ⟨_, _, rfl, PH.Le.refl _, rfl, I382⟩
         ·
          intro vs330 f w363 S347 X312 le347 hA312 hK330 hI331
          have I383 : Inv w363 S347 (X312) := hI331
          have q492 : f 119 = (Value.bool (true)) := vt (hA312.at_ 9 rfl _ rfl) rfl
          have q493 : f 125 = undef := vt (hA312.at_ 15 rfl _ rfl) rfl
          have q494 : f 127 = undef := vt (hA312.at_ 17 rfl _ rfl) rfl
          exact opg_skip (c := true) rfl rfl rfl rfl q492 rfl rfl ⟨_, _, rfl, PH.Le.refl _, rfl, I383⟩
         ·
          intro vs331 f w364 S348 X313 le348 hA313 hK331 hI332
          have I384 : Inv w364 S348 (X313) := hI332
          have q495 : f 119 = (Value.bool (true)) := vt (hA313.at_ 9 rfl _ rfl) rfl
          have q496 : f 128 = undef := vt (hA313.at_ 18 rfl _ rfl) rfl
          refine opg_plain rfl rfl (op_pick_t (c := true) (a := (Value.bool (true))) rfl q495 rfl rfl ?_)
          refine ⟨_, _, rfl, PH.Le.refl _, ?_, ?_⟩
          ·
           exact rfl
          ·
           exact I384
         ·
          intro vs332 f w365 S349 le349 hF19 hK332 hI333
          have e199 : f 5 = (Value.pointer (some ⟨g2, 0, none⟩)) := (hK332 5 (keep_all rfl)).trans e190
          have e200 : f 7 = (Value.slice z7 m7 k7) := (hK332 7 (keep_all rfl)).trans e191
          have I385 : Inv w365 S349 (Row (α := Int) 3 (Value.slice z78 m78 k78) (x39.1) :: Fr) := hI333
          have q497 : f 129 = (Value.bool (true)) := vt (hF19.at_ 19 rfl _ rfl) rfl
          refine wp_cond_t (b := true) q497 rfl ?_
          refine wp_seq' ?_
          refine wp_region' ?_
          obtain ⟨x45, hx45, h10⟩ := bnd h10
          refine wl_op rfl (op_call_v (vs := []) (r := (Value.bool (x45))) rfl ca16 rfl args0 I385 (fun Fr_ hF_ => F16_ok hF_  hx45) (fun w366 I386 => ?_))
          refine wl_op rfl (op_assign (v := (Value.bool (x45))) rfl rfl ?_)
          refine wl_nil ?_
          refine wp_ret' ?_
          obtain rfl := Option.some.inj h10
          have h11 := h
          obtain rfl := Option.some.inj h11
          exact ⟨(Value.bool (x45)), (res1 rfl rfl), _, [], ((((((((le1.trans le2).trans le3).trans le4).trans le22).trans le149).trans le246).trans le265).trans le349), (I386).drop, rfl, rfl⟩
        ·
         rcases ifs h10 with ⟨hc34, h10⟩ | ⟨hc34, h10⟩
         ·
          refine wp_draw (sps := [⟨some 110, [], [0], fun vs_ T_ => fr0 vs_ 0 = (Value.int .i64 (x39.2)), [], [], [], fun _ h_ => h_⟩, ⟨some 111, [0], [1], fun vs_ T_ => fr0 vs_ 0 = (Value.bool (x39.2 != 0)), [], [], [], fun _ h_ => h_⟩, ⟨some 112, [0, 1], [2], fun vs_ T_ => fr0 vs_ 0 = (Value.bool (x39.2 != 0)), [], [], [], fun _ h_ => h_⟩, ⟨some 113, [0, 1, 2], [3], fun vs_ T_ => fr0 vs_ 0 = (Value.slice z78 m78 k78), [], [], [], fun _ h_ => h_⟩, ⟨some 114, [0, 1, 2, 3], [4], fun vs_ T_ => fr0 vs_ 0 = (Value.int .i64 ((x39.1.length : Int))), [0], [], [], fun _ h_ => h_⟩, ⟨some 115, [0, 1, 2], [5], fun vs_ T_ => fr0 vs_ 0 = (fieldPtr (Value.pointer (some ⟨g2, 0, none⟩)) 0), [], [], [], fun _ h_ => h_⟩, ⟨some 116, [0, 1, 2, 5], [6], fun vs_ T_ => fr0 vs_ 0 = (Value.int .i64 (a2.Ticks)), [], [], [], fun _ h_ => h_⟩, ⟨some 117, [0, 1, 2, 3, 4, 5, 6], [7], fun vs_ T_ => fr0 vs_ 0 = (Value.bool ((x39.1.length : Int) != a2.Ticks)), [], [], [], fun _ h_ => h_⟩, ⟨some 118, [0, 1, 2, 3, 4, 5, 6, 7], [8], fun vs_ T_ => fr0 vs_ 0 = (Value.bool ((x39.1.length : Int) != a2.Ticks)), [], [], [], fun _ h_ => h_⟩, ⟨some 119, [0, 1, 2, 3, 4, 5, 6, 7, 8], [9], fun vs_ T_ => fr0 vs_ 0 = (Value.bool ((x39.1.length : Int) != a2.Ticks)), [], [], [], fun _ h_ => h_⟩, ⟨some 120, [0, 1, 2, 3, 4, 5, 6, 7, 8, 9], [10], fun vs_ T_ => fr0 vs_ 0 = undef, [], [], [], fun _ h_ => h_⟩, ⟨some 121, [0, 1, 2, 3, 4, 5, 6, 7, 8, 9], [11], fun vs_ T_ => fr0 vs_ 0 = undef, [], [], [], fun _ h_ => h_⟩, ⟨some 122, [0, 1, 2, 3, 4, 5, 6, 7, 8, 9, 11], [12], fun vs_ T_ => fr0 vs_ 0 = undef, [], [], [], fun _ h_ => h_⟩, ⟨some 123, [0, 1, 2, 3, 4, 5, 6, 7, 8, 9, 11, 12], [13], fun vs_ T_ => fr0 vs_ 0 = undef, [], [], [], fun _ h_ => h_⟩, ⟨some 124, [0, 1, 2, 3, 4, 5, 6, 7, 8, 9, 10, 11, 12, 13], [14], fun vs_ T_ => fr0 vs_ 0 = undef, [], [], [], fun _ h_ => h_⟩, ⟨some 125, [0, 1, 2, 3, 4, 5, 6, 7, 8, 9, 10, 11, 12, 13, 14], [15], fun vs_ T_ => fr0 vs_ 0 = undef, [], [], [], fun _ h_ => h_⟩, ⟨some 126, [0, 1, 2, 3, 4, 5, 6, 7, 8, 9], [16], fun vs_ T_ => fr0 vs_ 0 = undef, [], [], [], fun _ h_ => h_⟩, ⟨some 127, [0, 1, 2, 3, 4, 5, 6, 7, 8, 9, 16], [17], fun vs_ T_ => fr0 vs_ 0 = undef, [], [], [], fun _ h_ => h_⟩, ⟨some 128, [0, 1, 2, 3, 4, 5, 6, 7, 8, 9, 10, 11, 12, 13, 14, 15, 16, 17], [18], fun vs_ T_ => fr0 vs_ 0 = undef, [], [], [], fun _ h_ => h_⟩, ⟨some 129, [0, 1, 2, 3, 4, 5, 6, 7, 8, 9, 10, 11, 12, 13, 14, 15, 16, 17, 18], [19], fun vs_ T_ => fr0 vs_ 0 = (Value.bool (true)), [], [], [], fun _ h_ => h_⟩]) (tks := [⟨none, none, [], fun vs_ => Row (α := Int) 3 (Value.slice z78 m78 k78) (x39.1)⟩]) (O := Fr) rfl (by kernel_rfl) I296 ⟨?_, ?_, ?_, ?_, ?_, ?_, ?_, ?_, ?_, ?_, ?_, ?_, ?_, ?_, ?_, ?_, ?_, ?_, ?_, ?_, trivial⟩ ?_
          ·
           intro vs333 f w367 S350 X314 le350 hA314 hK333 hI334
           have I387 : Inv w367 S350 (X314) := hI334
           refine opg_plain rfl rfl (op_move (v := (Value.int .i64 (x39.2))) rfl ((hK333 8 (keep_of rfl)).trans q361) ?_)
           refine ⟨_, _, rfl, PH.Le.refl _, ?_, ?_⟩
           ·
            exact rfl
           ·
            exact I387
          ·
           intro vs334 f w368 S351 X315 le351 hA315 hK334 hI335
           have I388 : Inv w368 S351 (X315) := hI335
           have q498 : f 110 = (Value.int .i64 (x39.2)) := vt (hA315.at_ 0 rfl _ rfl) rfl
           refine opg_plain rfl rfl (op_neq (a := x39.2) (b := 0) rfl q498 rfl ?_)
           refine ⟨_, _, rfl, PH.Le.refl _, ?_, ?_⟩
           ·
            exact rfl
           ·
            exact I388
          ·
           intro vs335 f w369 S352 X316 le352 hA316 hK335 hI336
           have I389 : Inv w369 S352 (X316) := hI336
           have q499 : f 111 = (Value.bool (x39.2 != 0)) := vt (hA316.at_ 1 rfl _ rfl) rfl
           refine opg_plain rfl rfl (op_move (v := (Value.bool (x39.2 != 0))) rfl q499 ?_)
           refine ⟨_, _, rfl, PH.Le.refl _, ?_, ?_⟩
           ·
            exact rfl
           ·
            exact I389
          ·
           intro vs336 f w370 S353 X317 le353 hA317 hK336 hI337
           have I390 : Inv w370 S353 (X317) := hI337
           have q500 : f 112 = (Value.bool (x39.2 != 0)) := vt (hA317.at_ 2 rfl _ rfl) rfl
           refine opg_taken (c := x39.2 != 0) rfl rfl rfl rfl q500 hc33 (op_move (v := (Value.slice z78 m78 k78)) rfl ((hK336 9 (keep_of rfl)).trans q360) ?_)
           refine ⟨_, _, rfl, PH.Le.refl _, ?_, ?_⟩
           ·
            exact rfl
           ·
            exact I390
          ·
           intro vs337 f w371 S354 X318 le354 hA318 hK337 hI338
           have I391 : Inv w371 S354 (Row (α := Int) 3 (Value.slice z78 m78 k78) (x39.1) :: X318) := hI338
           have q501 : f 112 = (Value.bool (x39.2 != 0)) := vt (hA318.at_ 2 rfl _ rfl) rfl
           have q502 : f 113 = (Value.slice z78 m78 k78) := vt (hA318.at_ 3 rfl _ rfl) rfl
           refine opg_taken (c := x39.2 != 0) rfl rfl rfl rfl q501 hc33 (op_len_row (α := Int) rfl Try.underlying34 q502 (I391.nth 0 rfl) ?_)
           refine ⟨_, _, rfl, PH.Le.refl _, ?_, ?_⟩
           ·
            exact rfl
           ·
            exact I391
          ·
           intro vs338 f w372 S355 X319 le355 hA319 hK338 hI339
           have I392 : Inv w372 S355 (X319) := hI339
           have q503 : f 112 = (Value.bool (x39.2 != 0)) := vt (hA319.at_ 2 rfl _ rfl) rfl
           refine opg_taken (c := x39.2 != 0) rfl rfl rfl rfl q503 hc33 (op_fieldAddr_t (v := (Value.pointer (some ⟨g2, 0, none⟩))) rfl fa68_0 ((hK338 5 (keep_of rfl)).trans e190) ((p2.mono ((((((le3.trans le4).trans le22).trans le149).trans le246).trans le265).trans le355)).at_ I392) ?_)
           refine ⟨_, _, rfl, PH.Le.refl _, ?_, ?_⟩
           ·
            exact rfl
           ·
            exact I392
          ·
           intro vs339 f w373 S356 X320 le356 hA320 hK339 hI340
           have I393 : Inv w373 S356 (X320) := hI340
           have q504 : f 112 = (Value.bool (x39.2 != 0)) := vt (hA320.at_ 2 rfl _ rfl) rfl
           have q505 : f 115 = (fieldPtr (Value.pointer (some ⟨g2, 0, none⟩)) 0) := vt (hA320.at_ 3 rfl _ rfl) rfl
           refine opg_taken (c := x39.2 != 0) rfl rfl rfl rfl q504 hc33 (op_load_int (v := (fieldPtr (Value.pointer (some ⟨g2, 0, none⟩)) 0)) (e := a2.Ticks) rfl sh3 q505 (((p2.mono ((((((le3.trans le4).trans le22).trans le149).trans le246).trans le265).trans le356)).at_ I393).fld Law08_Loss.fld0) ?_)
           refine ⟨_, _, rfl, PH.Le.refl _, ?_, ?_⟩
           ·
            exact rfl
           ·
            exact I393
          ·
           intro vs340 f w374 S357 X321 le357 hA321 hK340 hI341
           have I394 : Inv w374 S357 (X321) := hI341
           have q506 : f 112 = (Value.bool (x39.2 != 0)) := vt (hA321.at_ 2 rfl _ rfl) rfl
           have q507 : f 114 = (Value.int .i64 ((x39.1.length : Int))) := vt (hA321.at_ 4 rfl _ rfl) rfl
           have q508 : f 116 = (Value.int .i64 (a2.Ticks)) := vt (hA321.at_ 6 rfl _ rfl) rfl
           refine opg_taken (c := x39.2 != 0) rfl rfl rfl rfl q506 hc33 (op_neq (a := (x39.1.length : Int)) (b := a2.Ticks) rfl q507 q508 ?_)
           refine ⟨_, _, rfl, PH.Le.refl _, ?_, ?_⟩
           ·
            exact rfl
           ·
            exact I394
          ·
           intro vs341 f w375 S358 X322 le358 hA322 hK341 hI342
           have I395 : Inv w375 S358 (X322) := hI342
           have q509 : f 112 = (Value.bool (x39.2 != 0)) := vt (hA322.at_ 2 rfl _ rfl) rfl
           have q510 : f 117 = (Value.bool ((x39.1.length : Int) != a2.Ticks)) := vt (hA322.at_ 7 rfl _ rfl) rfl
           refine opg_plain rfl rfl (op_pick_f (c := x39.2 != 0) (b := (Value.bool ((x39.1.length : Int) != a2.Ticks))) rfl q509 hc33 q510 ?_)
           refine ⟨_, _, rfl, PH.Le.refl _, ?_, ?_⟩
           ·
            exact rfl
           ·
            exact I395
          ·
           intro vs342 f w376 S359 X323 le359 hA323 hK342 hI343
           have I396 : Inv w376 S359 (X323) := hI343
           have q511 : f 118 = (Value.bool ((x39.1.length : Int) != a2.Ticks)) := vt (hA323.at_ 8 rfl _ rfl) rfl
           refine opg_plain rfl rfl (op_move (v := (Value.bool ((x39.1.length : Int) != a2.Ticks))) rfl q511 ?_)
           refine ⟨_, _, rfl, PH.Le.refl _, ?_, ?_⟩
           ·
            exact rfl
           ·
            exact I396
          ·
           intro vs343 f w377 S360 X324 le360 hA324 hK343 hI344
           have I397 : Inv w377 S360 (X324) := hI344
           have q512 : f 119 = (Value.bool ((x39.1.length : Int) != a2.Ticks)) := vt (hA324.at_ 9 rfl _ rfl) rfl
           exact opg_skip (c := (x39.1.length : Int) != a2.Ticks) rfl rfl rfl rfl q512 hc34 rfl ⟨_, _, rfl, PH.Le.refl _, rfl, I397⟩
          ·
           intro vs344 f w378 S361 X325 le361 hA325 hK344 hI345
           have I398 : Inv w378 S361 (X325) := hI345
           have q513 : f 119 = (Value.bool ((x39.1.length : Int) != a2.Ticks)) := vt (hA325.at_ 9 rfl _ rfl) rfl
           exact opg_skip (c := (x39.1.length : Int) != a2.Ticks) rfl rfl rfl rfl q513 hc34 rfl ⟨_, _, rfl, PH.Le.refl _, rfl, I398⟩
          ·
           intro vs345 f w379 S362 X326 le362 hA326 hK345 hI346
           have I399 : Inv w379 S362 (X326) := hI346
           have q514 : f 119 = (Value.bool ((x39.1.length : Int) != a2.Ticks)) := vt (hA326.at_ 9 rfl _ rfl) rfl
           have q515 : f 121 = undef := vt (hA326.at_ 10 rfl _ rfl) rfl
           exact opg_skip (c := (x39.1.length : Int) != a2.Ticks) rfl rfl rfl rfl q514 hc34 rfl ⟨_, _, rfl, PH.Le.refl _, rfl, I399⟩
          ·
           intro vs346 f w380 S363 X327 le363 hA327 hK346 hI347
           have I400 : Inv w380 S363 (X327) := hI347
           have q516 : f 119 = (Value.bool ((x39.1.length : Int) != a2.Ticks)) := vt (hA327.at_ 9 rfl _ rfl) rfl
           have q517 : f 122 = undef := vt (hA327.at_ 11 rfl _ rfl) rfl
           exact opg_skip (c := (x39.1.length : Int) != a2.Ticks) rfl rfl rfl rfl q516 hc34 rfl ⟨_, _, rfl, PH.Le.refl _, rfl, I400⟩
          ·
           intro vs347 f w381 S364 X328 le364 hA328 hK347 hI348
           have I401 : Inv w381 S364 (X328) := hI348
           have q518 : f 119 = (Value.bool ((x39.1.length : Int) != a2.Ticks)) := vt (hA328.at_ 9 rfl _ rfl) rfl
           have q519 : f 120 = undef := vt (hA328.at_ 10 rfl _ rfl) rfl
           have q520 : f 123 = undef := vt (hA328.at_ 13 rfl _ rfl) rfl
           exact opg_skip (c := (x39.1.length : Int) != a2.Ticks) rfl rfl rfl rfl q518 hc34 rfl ⟨_, _, rfl, PH.Le.refl _, rfl, I401⟩
          ·
           intro vs348 f w382 S365 X329 le365 hA329 hK348 hI349
           have I402 : Inv w382 S365 (X329) := hI349
           have q521 : f 119 = (Value.bool ((x39.1.length : Int) != a2.Ticks)) := vt (hA329.at_ 9 rfl _ rfl) rfl
           have q522 : f 124 = undef := vt (hA329.at_ 14 rfl _ rfl) rfl
           exact opg_skip (c := (x39.1.length : Int) != a2.Ticks) rfl rfl rfl rfl q521 hc34 rfl ⟨_, _, rfl, PH.Le.refl _, rfl, I402⟩
          ·
           intro vs349 f w383 S366 X330 le366 hA330 hK349 hI350
           have I403 : Inv w383 S366 (X330) := hI350
           have q523 : f 119 = (Value.bool ((x39.1.length : Int) != a2.Ticks)) := vt (hA330.at_ 9 rfl _ rfl) rfl
           exact opg_skip (c := (x39.1.length : Int) != a2.Ticks) rfl rfl rfl rfl q523 hc34 rfl ⟨_, _, rfl, PH.Le.refl _, rfl, I403⟩
          ·
           intro vs350 f w384 S367 X331 le367 hA331 hK350 hI351
           have I404 : Inv w384 S367 (X331) := hI351
           have q524 : f 119 = (Value.bool ((x39.1.length : Int) != a2.Ticks)) := vt (hA331.at_ 9 rfl _ rfl) rfl
           have q525 : f 126 = undef := vt (hA331.at_ 10 rfl _ rfl) rfl
           exact opg_skip (c := (x39.1.length : Int) != a2.Ticks) rfl rfl rfl rfl q524 hc34 rfl ⟨_, _, rfl, PH.Le.refl _, rfl, I404⟩
          ·
           intro vs351 f w385 S368 X332 le368 hA332 hK351 hI352
           have I405 : Inv w385 S368 (X332) := hI352
           have q526 : f 119 = (Value.bool ((x39.1.length : Int) != a2.Ticks)) := vt (hA332.at_ 9 rfl _ rfl) rfl
           have q527 : f 125 = undef := vt (hA332.at_ 15 rfl _ rfl) rfl
           have q528 : f 127 = undef := vt (hA332.at_ 17 rfl _ rfl) rfl
           exact opg_skip (c := (x39.1.length : Int) != a2.Ticks) rfl rfl rfl rfl q526 hc34 rfl ⟨_, _, rfl, PH.Le.refl _, rfl, I405⟩
          ·
           intro vs352 f w386 S369 X333 le369 hA333 hK352 hI353
           have I406 : Inv w386 S369 (X333) := hI353
           have q529 : f 119 = (Value.bool ((x39.1.length : Int) != a2.Ticks)) := vt (hA333.at_ 9 rfl _ rfl) rfl
           have q530 : f 128 = undef := vt (hA333.at_ 18 rfl _ rfl) rfl
           refine opg_plain rfl rfl (op_pick_t (c := (x39.1.length : Int) != a2.Ticks) (a := (Value.bool (true))) rfl q529 hc34 rfl ?_)
           refine ⟨_, _, rfl, PH.Le.refl _, ?_, ?_⟩
           ·
            exact rfl
           ·
            exact I406
          ·
           intro vs353 f w387 S370 le370 hF20 hK353 hI354
           have e201 : f 5 = (Value.pointer (some ⟨g2, 0, none⟩)) := (hK353 5 (keep_all rfl)).trans e190
           have e202 : f 7 = (Value.slice z7 m7 k7) := (hK353 7 (keep_all rfl)).trans e191
           have I407 : Inv w387 S370 (Row (α := Int) 3 (Value.slice z78 m78 k78) (x39.1) :: Fr) := hI354
           have q531 : f 129 = (Value.bool (true)) := vt (hF20.at_ 19 rfl _ rfl) rfl
           refine wp_cond_t (b := true) q531 rfl ?_
           refine wp_seq' ?_
           refine wp_region' ?_
           obtain ⟨x46, hx46, h10⟩ := bnd h10
           refine wl_op rfl (op_call_v (vs := []) (r := (Value.bool (x46))) rfl ca16 rfl args0 I407 (fun Fr_ hF_ => F16_ok hF_  hx46) (fun w388 I408 => ?_))
           refine wl_op rfl (op_assign (v := (Value.bool (x46))) rfl rfl ?_)
           refine wl_nil ?_
           refine wp_ret' ?_
           obtain rfl := Option.some.inj h10
           have h11 := h
           obtain rfl := Option.some.inj h11
           exact ⟨(Value.bool (x46)), (res1 rfl rfl), _, [], ((((((((le1.trans le2).trans le3).trans le4).trans le22).trans le149).trans le246).trans le265).trans le370), (I408).drop, rfl, rfl⟩
         ·
          obtain ⟨x47, hx47, h10⟩ := bnd h10
          obtain ⟨x48, hx48, h10⟩ := bnd h10
          refine wp_draw (sps := [⟨some 110, [], [0], fun vs_ T_ => fr0 vs_ 0 = (Value.int .i64 (x39.2)), [], [], [], fun _ h_ => h_⟩, ⟨some 111, [0], [1], fun vs_ T_ => fr0 vs_ 0 = (Value.bool (x39.2 != 0)), [], [], [], fun _ h_ => h_⟩, ⟨some 112, [0, 1], [2], fun vs_ T_ => fr0 vs_ 0 = (Value.bool (x39.2 != 0)), [], [], [], fun _ h_ => h_⟩, ⟨some 113, [0, 1, 2], [3], fun vs_ T_ => fr0 vs_ 0 = (Value.slice z78 m78 k78), [], [], [], fun _ h_ => h_⟩, ⟨some 114, [0, 1, 2, 3], [4], fun vs_ T_ => fr0 vs_ 0 = (Value.int .i64 ((x39.1.length : Int))), [0], [], [], fun _ h_ => h_⟩, ⟨some 115, [0, 1, 2], [5], fun vs_ T_ => fr0 vs_ 0 = (fieldPtr (Value.pointer (some ⟨g2, 0, none⟩)) 0), [], [], [], fun _ h_ => h_⟩, ⟨some 116, [0, 1, 2, 5], [6], fun vs_ T_ => fr0 vs_ 0 = (Value.int .i64 (a2.Ticks)), [], [], [], fun _ h_ => h_⟩, ⟨some 117, [0, 1, 2, 3, 4, 5, 6], [7], fun vs_ T_ => fr0 vs_ 0 = (Value.bool ((x39.1.length : Int) != a2.Ticks)), [], [], [], fun _ h_ => h_⟩, ⟨some 118, [0, 1, 2, 3, 4, 5, 6, 7], [8], fun vs_ T_ => fr0 vs_ 0 = (Value.bool ((x39.1.length : Int) != a2.Ticks)), [], [], [], fun _ h_ => h_⟩, ⟨some 119, [0, 1, 2, 3, 4, 5, 6, 7, 8], [9], fun vs_ T_ => fr0 vs_ 0 = (Value.bool ((x39.1.length : Int) != a2.Ticks)), [], [], [], fun _ h_ => h_⟩, ⟨some 120, [0, 1, 2, 3, 4, 5, 6, 7, 8, 9], [10], fun vs_ T_ => fr0 vs_ 0 = (Value.slice z78 m78 k78), [], [], [], fun _ h_ => h_⟩, ⟨some 121, [0, 1, 2, 3, 4, 5, 6, 7, 8, 9], [11], fun vs_ T_ => fr0 vs_ 0 = (fieldPtr (Value.pointer (some ⟨g2, 0, none⟩)) 0), [], [], [], fun _ h_ => h_⟩, ⟨some 122, [0, 1, 2, 3, 4, 5, 6, 7, 8, 9, 11], [12], fun vs_ T_ => fr0 vs_ 0 = (Value.int .i64 (a2.Ticks)), [], [], [], fun _ h_ => h_⟩, ⟨some 123, [0, 1, 2, 3, 4, 5, 6, 7, 8, 9, 11, 12], [13], fun vs_ T_ => fr0 vs_ 0 = (Value.int .i64 (w64 (a2.Ticks - 1))), [], [], [], fun _ h_ => h_⟩, ⟨some 124, [0, 1, 2, 3, 4, 5, 6, 7, 8, 9, 10, 11, 12, 13], [14], fun vs_ T_ => fr0 vs_ 0 = (elemPtr (Value.slice z78 m78 k78) (w64 (a2.Ticks - 1)) (Enc.sz Int)), [0], [], [], fun _ h_ => h_⟩, ⟨some 125, [0, 1, 2, 3, 4, 5, 6, 7, 8, 9, 10, 11, 12, 13, 14], [15], fun vs_ T_ => fr0 vs_ 0 = (Value.int .i64 (x47)), [0], [], [], fun _ h_ => h_⟩, ⟨some 126, [0, 1, 2, 3, 4, 5, 6, 7, 8, 9], [16], fun vs_ T_ => fr0 vs_ 0 = (fieldPtr (Value.pointer (some ⟨g2, 0, none⟩)) 1), [], [], [], fun _ h_ => h_⟩, ⟨some 127, [0, 1, 2, 3, 4, 5, 6, 7, 8, 9, 16], [17], fun vs_ T_ => fr0 vs_ 0 = (Value.int .i64 (a2.Door)), [], [], [], fun _ h_ => h_⟩, ⟨some 128, [0, 1, 2, 3, 4, 5, 6, 7, 8, 9, 10, 11, 12, 13, 14, 15, 16, 17], [18], fun vs_ T_ => fr0 vs_ 0 = (Value.bool (x48)), [], [], [], fun _ h_ => h_⟩, ⟨some 129, [0, 1, 2, 3, 4, 5, 6, 7, 8, 9, 10, 11, 12, 13, 14, 15, 16, 17, 18], [19], fun vs_ T_ => fr0 vs_ 0 = (Value.bool (x48)), [], [], [], fun _ h_ => h_⟩]) (tks := [⟨none, none, [], fun vs_ => Row (α := Int) 3 (Value.slice z78 m78 k78) (x39.1)⟩]) (O := Fr) rfl (by kernel_rfl) I296 ⟨?_, ?_, ?_, ?_, ?_, ?_, ?_, ?_, ?_, ?_, ?_, ?_, ?_, ?_, ?_, ?_, ?_, ?_, ?_, ?_, trivial⟩ ?_
          ·
           intro vs354 f w390 S371 X334 le371 hA334 hK354 hI355
           have I410 : Inv w390 S371 (X334) := hI355
           refine opg_plain rfl rfl (op_move (v := (Value.int .i64 (x39.2))) rfl ((hK354 8 (keep_of rfl)).trans q361) ?_)
           refine ⟨_, _, rfl, PH.Le.refl _, ?_, ?_⟩
           ·
            exact rfl
           ·
            exact I410
          ·
           intro vs355 f w391 S372 X335 le372 hA335 hK355 hI356
           have I411 : Inv w391 S372 (X335) := hI356
           have q532 : f 110 = (Value.int .i64 (x39.2)) := vt (hA335.at_ 0 rfl _ rfl) rfl
           refine opg_plain rfl rfl (op_neq (a := x39.2) (b := 0) rfl q532 rfl ?_)
           refine ⟨_, _, rfl, PH.Le.refl _, ?_, ?_⟩
           ·
            exact rfl
           ·
            exact I411
          ·
           intro vs356 f w392 S373 X336 le373 hA336 hK356 hI357
           have I412 : Inv w392 S373 (X336) := hI357
           have q533 : f 111 = (Value.bool (x39.2 != 0)) := vt (hA336.at_ 1 rfl _ rfl) rfl
           refine opg_plain rfl rfl (op_move (v := (Value.bool (x39.2 != 0))) rfl q533 ?_)
           refine ⟨_, _, rfl, PH.Le.refl _, ?_, ?_⟩
           ·
            exact rfl
           ·
            exact I412
          ·
           intro vs357 f w393 S374 X337 le374 hA337 hK357 hI358
           have I413 : Inv w393 S374 (X337) := hI358
           have q534 : f 112 = (Value.bool (x39.2 != 0)) := vt (hA337.at_ 2 rfl _ rfl) rfl
           refine opg_taken (c := x39.2 != 0) rfl rfl rfl rfl q534 hc33 (op_move (v := (Value.slice z78 m78 k78)) rfl ((hK357 9 (keep_of rfl)).trans q360) ?_)
           refine ⟨_, _, rfl, PH.Le.refl _, ?_, ?_⟩
           ·
            exact rfl
           ·
            exact I413
          ·
           intro vs358 f w394 S375 X338 le375 hA338 hK358 hI359
           have I414 : Inv w394 S375 (Row (α := Int) 3 (Value.slice z78 m78 k78) (x39.1) :: X338) := hI359
           have q535 : f 112 = (Value.bool (x39.2 != 0)) := vt (hA338.at_ 2 rfl _ rfl) rfl
           have q536 : f 113 = (Value.slice z78 m78 k78) := vt (hA338.at_ 3 rfl _ rfl) rfl
           refine opg_taken (c := x39.2 != 0) rfl rfl rfl rfl q535 hc33 (op_len_row (α := Int) rfl Try.underlying34 q536 (I414.nth 0 rfl) ?_)
           refine ⟨_, _, rfl, PH.Le.refl _, ?_, ?_⟩
           ·
            exact rfl
           ·
            exact I414
          ·
           intro vs359 f w395 S376 X339 le376 hA339 hK359 hI360
           have I415 : Inv w395 S376 (X339) := hI360
           have q537 : f 112 = (Value.bool (x39.2 != 0)) := vt (hA339.at_ 2 rfl _ rfl) rfl
           refine opg_taken (c := x39.2 != 0) rfl rfl rfl rfl q537 hc33 (op_fieldAddr_t (v := (Value.pointer (some ⟨g2, 0, none⟩))) rfl fa68_0 ((hK359 5 (keep_of rfl)).trans e190) ((p2.mono ((((((le3.trans le4).trans le22).trans le149).trans le246).trans le265).trans le376)).at_ I415) ?_)
           refine ⟨_, _, rfl, PH.Le.refl _, ?_, ?_⟩
           ·
            exact rfl
           ·
            exact I415
          ·
           intro vs360 f w396 S377 X340 le377 hA340 hK360 hI361
           have I416 : Inv w396 S377 (X340) := hI361
           have q538 : f 112 = (Value.bool (x39.2 != 0)) := vt (hA340.at_ 2 rfl _ rfl) rfl
           have q539 : f 115 = (fieldPtr (Value.pointer (some ⟨g2, 0, none⟩)) 0) := vt (hA340.at_ 3 rfl _ rfl) rfl
           refine opg_taken (c := x39.2 != 0) rfl rfl rfl rfl q538 hc33 (op_load_int (v := (fieldPtr (Value.pointer (some ⟨g2, 0, none⟩)) 0)) (e := a2.Ticks) rfl sh3 q539 (((p2.mono ((((((le3.trans le4).trans le22).trans le149).trans le246).trans le265).trans le377)).at_ I416).fld Law08_Loss.fld0) ?_)
           refine ⟨_, _, rfl, PH.Le.refl _, ?_, ?_⟩
           ·
            exact rfl
           ·
            exact I416
          ·
           intro vs361 f w397 S378 X341 le378 hA341 hK361 hI362
           have I417 : Inv w397 S378 (X341) := hI362
           have q540 : f 112 = (Value.bool (x39.2 != 0)) := vt (hA341.at_ 2 rfl _ rfl) rfl
           have q541 : f 114 = (Value.int .i64 ((x39.1.length : Int))) := vt (hA341.at_ 4 rfl _ rfl) rfl
           have q542 : f 116 = (Value.int .i64 (a2.Ticks)) := vt (hA341.at_ 6 rfl _ rfl) rfl
           refine opg_taken (c := x39.2 != 0) rfl rfl rfl rfl q540 hc33 (op_neq (a := (x39.1.length : Int)) (b := a2.Ticks) rfl q541 q542 ?_)
           refine ⟨_, _, rfl, PH.Le.refl _, ?_, ?_⟩
           ·
            exact rfl
           ·
            exact I417
          ·
           intro vs362 f w398 S379 X342 le379 hA342 hK362 hI363
           have I418 : Inv w398 S379 (X342) := hI363
           have q543 : f 112 = (Value.bool (x39.2 != 0)) := vt (hA342.at_ 2 rfl _ rfl) rfl
           have q544 : f 117 = (Value.bool ((x39.1.length : Int) != a2.Ticks)) := vt (hA342.at_ 7 rfl _ rfl) rfl
           refine opg_plain rfl rfl (op_pick_f (c := x39.2 != 0) (b := (Value.bool ((x39.1.length : Int) != a2.Ticks))) rfl q543 hc33 q544 ?_)
           refine ⟨_, _, rfl, PH.Le.refl _, ?_, ?_⟩
           ·
            exact rfl
           ·
            exact I418
          ·
           intro vs363 f w399 S380 X343 le380 hA343 hK363 hI364
           have I419 : Inv w399 S380 (X343) := hI364
           have q545 : f 118 = (Value.bool ((x39.1.length : Int) != a2.Ticks)) := vt (hA343.at_ 8 rfl _ rfl) rfl
           refine opg_plain rfl rfl (op_move (v := (Value.bool ((x39.1.length : Int) != a2.Ticks))) rfl q545 ?_)
           refine ⟨_, _, rfl, PH.Le.refl _, ?_, ?_⟩
           ·
            exact rfl
           ·
            exact I419
          ·
           intro vs364 f w400 S381 X344 le381 hA344 hK364 hI365
           have I420 : Inv w400 S381 (X344) := hI365
           have q546 : f 119 = (Value.bool ((x39.1.length : Int) != a2.Ticks)) := vt (hA344.at_ 9 rfl _ rfl) rfl
           refine opg_taken (c := (x39.1.length : Int) != a2.Ticks) rfl rfl rfl rfl q546 hc34 (op_move (v := (Value.slice z78 m78 k78)) rfl ((hK364 9 (keep_of rfl)).trans q360) ?_)
           refine ⟨_, _, rfl, PH.Le.refl _, ?_, ?_⟩
           ·
            exact rfl
           ·
            exact I420
          ·
           intro vs365 f w401 S382 X345 le382 hA345 hK365 hI366
           have I421 : Inv w401 S382 (X345) := hI366
           have q547 : f 119 = (Value.bool ((x39.1.length : Int) != a2.Ticks)) := vt (hA345.at_ 9 rfl _ rfl) rfl
           refine opg_taken (c := (x39.1.length : Int) != a2.Ticks) rfl rfl rfl rfl q547 hc34 (op_fieldAddr_t (v := (Value.pointer (some ⟨g2, 0, none⟩))) rfl fa68_0 ((hK365 5 (keep_of rfl)).trans e190) ((p2.mono ((((((le3.trans le4).trans le22).trans le149).trans le246).trans le265).trans le382)).at_ I421) ?_)
           refine ⟨_, _, rfl, PH.Le.refl _, ?_, ?_⟩
           ·
            exact rfl
           ·
            exact I421
          ·
           intro vs366 f w402 S383 X346 le383 hA346 hK366 hI367
           have I422 : Inv w402 S383 (X346) := hI367
           have q548 : f 119 = (Value.bool ((x39.1.length : Int) != a2.Ticks)) := vt (hA346.at_ 9 rfl _ rfl) rfl
           have q549 : f 121 = (fieldPtr (Value.pointer (some ⟨g2, 0, none⟩)) 0) := vt (hA346.at_ 10 rfl _ rfl) rfl
           refine opg_taken (c := (x39.1.length : Int) != a2.Ticks) rfl rfl rfl rfl q548 hc34 (op_load_int (v := (fieldPtr (Value.pointer (some ⟨g2, 0, none⟩)) 0)) (e := a2.Ticks) rfl sh3 q549 (((p2.mono ((((((le3.trans le4).trans le22).trans le149).trans le246).trans le265).trans le383)).at_ I422).fld Law08_Loss.fld0) ?_)
           refine ⟨_, _, rfl, PH.Le.refl _, ?_, ?_⟩
           ·
            exact rfl
           ·
            exact I422
          ·
           intro vs367 f w403 S384 X347 le384 hA347 hK367 hI368
           have I423 : Inv w403 S384 (X347) := hI368
           have q550 : f 119 = (Value.bool ((x39.1.length : Int) != a2.Ticks)) := vt (hA347.at_ 9 rfl _ rfl) rfl
           have q551 : f 122 = (Value.int .i64 (a2.Ticks)) := vt (hA347.at_ 11 rfl _ rfl) rfl
           refine opg_taken (c := (x39.1.length : Int) != a2.Ticks) rfl rfl rfl rfl q550 hc34 (op_sub (a := a2.Ticks) (b := 1) rfl q551 rfl ?_)
           refine ⟨_, _, rfl, PH.Le.refl _, ?_, ?_⟩
           ·
            exact rfl
           ·
            exact I423
          ·
           intro vs368 f w404 S385 X348 le385 hA348 hK368 hI369
           have I424 : Inv w404 S385 (Row (α := Int) 3 (Value.slice z78 m78 k78) (x39.1) :: X348) := hI369
           have q552 : f 119 = (Value.bool ((x39.1.length : Int) != a2.Ticks)) := vt (hA348.at_ 9 rfl _ rfl) rfl
           have q553 : f 120 = (Value.slice z78 m78 k78) := vt (hA348.at_ 10 rfl _ rfl) rfl
           have q554 : f 123 = (Value.int .i64 (w64 (a2.Ticks - 1))) := vt (hA348.at_ 13 rfl _ rfl) rfl
           refine opg_taken (c := (x39.1.length : Int) != a2.Ticks) rfl rfl rfl rfl q552 hc34 (op_indexAddr_src (v := (Value.slice z78 m78 k78)) (i := w64 (a2.Ticks - 1)) (e := x47) rfl Try.underlying34 sh3 q553 (Inv.rowSrc (I424.nth 0 rfl)) q554 hx47 ?_)
           refine ⟨_, _, rfl, PH.Le.refl _, ?_, ?_⟩
           ·
            exact rfl
           ·
            exact I424
          ·
           intro vs369 f w405 S386 X349 le386 hA349 hK369 hI370
           have I425 : Inv w405 S386 (Row (α := Int) 3 (Value.slice z78 m78 k78) (x39.1) :: X349) := hI370
           have q555 : f 119 = (Value.bool ((x39.1.length : Int) != a2.Ticks)) := vt (hA349.at_ 9 rfl _ rfl) rfl
           have q556 : f 124 = (elemPtr (Value.slice z78 m78 k78) (w64 (a2.Ticks - 1)) (Enc.sz Int)) := vt (hA349.at_ 14 rfl _ rfl) rfl
           refine opg_taken (c := (x39.1.length : Int) != a2.Ticks) rfl rfl rfl rfl q555 hc34 (op_load_int (v := (elemPtr (Value.slice z78 m78 k78) (w64 (a2.Ticks - 1)) (Enc.sz Int))) (e := x47) rfl sh3 q556 ((I425.nth 0 rfl).rowElem hx47) ?_)
           refine ⟨_, _, rfl, PH.Le.refl _, ?_, ?_⟩
           ·
            exact rfl
           ·
            exact I425
          ·
           intro vs370 f w406 S387 X350 le387 hA350 hK370 hI371
           have I426 : Inv w406 S387 (X350) := hI371
           have q557 : f 119 = (Value.bool ((x39.1.length : Int) != a2.Ticks)) := vt (hA350.at_ 9 rfl _ rfl) rfl
           refine opg_taken (c := (x39.1.length : Int) != a2.Ticks) rfl rfl rfl rfl q557 hc34 (op_fieldAddr_t (v := (Value.pointer (some ⟨g2, 0, none⟩))) rfl fa68_1 ((hK370 5 (keep_of rfl)).trans e190) ((p2.mono ((((((le3.trans le4).trans le22).trans le149).trans le246).trans le265).trans le387)).at_ I426) ?_)
           refine ⟨_, _, rfl, PH.Le.refl _, ?_, ?_⟩
           ·
            exact rfl
           ·
            exact I426
          ·
           intro vs371 f w407 S388 X351 le388 hA351 hK371 hI372
           have I427 : Inv w407 S388 (X351) := hI372
           have q558 : f 119 = (Value.bool ((x39.1.length : Int) != a2.Ticks)) := vt (hA351.at_ 9 rfl _ rfl) rfl
           have q559 : f 126 = (fieldPtr (Value.pointer (some ⟨g2, 0, none⟩)) 1) := vt (hA351.at_ 10 rfl _ rfl) rfl
           refine opg_taken (c := (x39.1.length : Int) != a2.Ticks) rfl rfl rfl rfl q558 hc34 (op_load_int (v := (fieldPtr (Value.pointer (some ⟨g2, 0, none⟩)) 1)) (e := a2.Door) rfl sh3 q559 (((p2.mono ((((((le3.trans le4).trans le22).trans le149).trans le246).trans le265).trans le388)).at_ I427).fld Law08_Loss.fld1) ?_)
           refine ⟨_, _, rfl, PH.Le.refl _, ?_, ?_⟩
           ·
            exact rfl
           ·
            exact I427
          ·
           intro vs372 f w408 S389 X352 le389 hA352 hK372 hI373
           have I428 : Inv w408 S389 (X352) := hI373
           have q560 : f 119 = (Value.bool ((x39.1.length : Int) != a2.Ticks)) := vt (hA352.at_ 9 rfl _ rfl) rfl
           have q561 : f 125 = (Value.int .i64 (x47)) := vt (hA352.at_ 15 rfl _ rfl) rfl
           have q562 : f 127 = (Value.int .i64 (a2.Door)) := vt (hA352.at_ 17 rfl _ rfl) rfl
           refine opg_taken (c := (x39.1.length : Int) != a2.Ticks) rfl rfl rfl rfl q560 hc34 (op_call_v (vs := [(Value.int .i64 (x47)), (Value.int .i64 (a2.Door))]) (r := (Value.bool (x48))) rfl ca19 rfl (args2 q561 q562) I428 (fun Fr_ hF_ => F19_ok hF_  hx48) (fun w409 I429 => ?_))
           refine ⟨_, _, rfl, PH.Le.refl _, ?_, ?_⟩
           ·
            exact rfl
           ·
            exact I429
          ·
           intro vs373 f w410 S390 X353 le390 hA353 hK373 hI374
           have I430 : Inv w410 S390 (X353) := hI374
           have q563 : f 119 = (Value.bool ((x39.1.length : Int) != a2.Ticks)) := vt (hA353.at_ 9 rfl _ rfl) rfl
           have q564 : f 128 = (Value.bool (x48)) := vt (hA353.at_ 18 rfl _ rfl) rfl
           refine opg_plain rfl rfl (op_pick_f (c := (x39.1.length : Int) != a2.Ticks) (b := (Value.bool (x48))) rfl q563 hc34 q564 ?_)
           refine ⟨_, _, rfl, PH.Le.refl _, ?_, ?_⟩
           ·
            exact rfl
           ·
            exact I430
          ·
           intro vs374 f w411 S391 le391 hF21 hK374 hI375
           have e203 : f 5 = (Value.pointer (some ⟨g2, 0, none⟩)) := (hK374 5 (keep_all rfl)).trans e190
           have e204 : f 7 = (Value.slice z7 m7 k7) := (hK374 7 (keep_all rfl)).trans e191
           have I431 : Inv w411 S391 (Row (α := Int) 3 (Value.slice z78 m78 k78) (x39.1) :: Fr) := hI375
           have q565 : f 129 = (Value.bool (x48)) := vt (hF21.at_ 19 rfl _ rfl) rfl
           rcases ifs h10 with ⟨hc35, h10⟩ | ⟨hc35, h10⟩
           ·
            refine wp_cond_t (b := x48) q565 hc35 ?_
            refine wp_seq' ?_
            refine wp_region' ?_
            obtain ⟨x49, hx49, h10⟩ := bnd h10
            refine wl_op rfl (op_call_v (vs := []) (r := (Value.bool (x49))) rfl ca16 rfl args0 I431 (fun Fr_ hF_ => F16_ok hF_  hx49) (fun w412 I432 => ?_))
            refine wl_op rfl (op_assign (v := (Value.bool (x49))) rfl rfl ?_)
            refine wl_nil ?_
            refine wp_ret' ?_
            obtain rfl := Option.some.inj h10
            have h11 := h
            obtain rfl := Option.some.inj h11
            exact ⟨(Value.bool (x49)), (res1 rfl rfl), _, [], ((((((((le1.trans le2).trans le3).trans le4).trans le22).trans le149).trans le246).trans le265).trans le391), (I432).drop, rfl, rfl⟩
           ·
            refine wp_cond_f (b := x48) q565 hc35 ?_
            refine wp_skip' ?_
            obtain rfl := Option.some.inj h10
            exact ⟨_, rfl, _, le391, (I431).drop, e203, e204⟩
       ·
        rintro f w ⟨v8, rfl, S392, le392, I433, e205, e206⟩
        have h := onL_inl h
        refine wp_seq' ?_
        refine wp_seq' ?_
        refine wp_region' ?_
        refine wl_op rfl (op_fieldAddr_t (v := (Value.pointer (some ⟨g2, 0, none⟩))) rfl fa68_2 e205 ((p2.mono ((((((le3.trans le4).trans le22).trans le149).trans le246).trans le265).trans le392)).at_ I433) ?_)
        refine wl_op rfl (op_load (v := (fieldPtr (Value.pointer (some ⟨g2, 0, none⟩)) 2)) (e := a2.Losses) rfl sh34 rfl (((p2.mono ((((((le3.trans le4).trans le22).trans le149).trans le246).trans le265).trans le392)).at_ I433).fld Law08_Loss.fld2) (fun u76 hu76 => ?_))
        obtain ⟨z79, m79, k79, e207⟩ := rv_form hu76
        subst e207
        refine wl_op rfl (op_len_rv rfl Try.underlying34 rfl hu76 ?_)
        refine wl_op rfl (op_move (v := (Value.slice z7 m7 k7)) rfl e206 ?_)
        refine wl_op rfl (op_len_rv rfl Try.underlying34 rfl (r4.mono ((((le22.trans le149).trans le246).trans le265).trans le392)) ?_)
        refine wl_op rfl (op_lss (a := (a2.Losses.length : Int)) (b := (x9.1.length : Int)) rfl rfl rfl ?_)
        refine wl_nil ?_
        rcases ifs h with ⟨hc36, h⟩ | ⟨hc36, h⟩
        ·
         refine wp_cond_t (b := decide ((a2.Losses.length : Int) < (x9.1.length : Int))) rfl hc36 ?_
         refine wp_seq' ?_
         refine wp_region' ?_
         refine wl_op rfl (op_assign (v := (Value.bool (false))) rfl rfl ?_)
         refine wl_nil ?_
         refine wp_ret' ?_
         obtain rfl := Option.some.inj h
         exact ⟨(Value.bool (false)), (res1 rfl rfl), _, [], ((((((((le1.trans le2).trans le3).trans le4).trans le22).trans le149).trans le246).trans le265).trans le392), I433, rfl, rfl⟩
        ·
         refine wp_cond_f (b := decide ((a2.Losses.length : Int) < (x9.1.length : Int))) rfl hc36 ?_
         refine wp_skip' ?_
         refine wp_seq' ?_
         refine wp_seq' ?_
         refine wp_region' ?_
         refine wl_op rfl (op_assign (v := (Value.int .i64 (0))) rfl rfl ?_)
         refine wl_nil ?_
         obtain ⟨o4, hrun2, h⟩ := bnd h
         refine wp_cutN (fun f w => ∃ out2, o4 = Sum.inl out2 ∧ ∃ (S_ : PH), S392.Le S_ ∧ Inv w S_ (Fr) ∧ f 5 = (Value.pointer (some ⟨g2, 0, none⟩)) ∧ f 7 = (Value.slice z7 m7 k7) ∧ f 11 = (Value.int .i64 (out2))) ?_ ?_
         ·
          refine wp_block' ?_
          refine wp_whileO (I := fun (s2 : (Int)) (f : Frm) (w : World) => ∃ (S_ : PH), S392.Le S_ ∧ Inv w S_ (Fr) ∧ f 5 = (Value.pointer (some ⟨g2, 0, none⟩)) ∧ f 7 = (Value.slice z7 m7 k7) ∧ f 11 = (Value.int .i64 (s2))) hrun2 ⟨_, (PH.Le.refl _), I433, e205, e206, rfl⟩ ?_
          rintro s2 f w o3 hI622 h30 hout2
          obtain ⟨S643, le643, I704, e328, e329, e330⟩ := hI622
          obtain ⟨ov15, h33, h30⟩ := bnd h30
          refine wp_cut (fun f w => ∃ v15, ov15 = Sum.inl v15 ∧ Inv w S643 (Fr) ∧ f 5 = (Value.pointer (some ⟨g2, 0, none⟩)) ∧ f 7 = (Value.slice z7 m7 k7) ∧ f 11 = (Value.int .i64 (s2))) ?_ ?_
          ·
           refine wp_seq' ?_
           refine wp_region' ?_
           refine wl_op rfl (op_move (v := (Value.int .i64 (s2))) rfl e330 ?_)
           refine wl_op rfl (op_move (v := (Value.slice z7 m7 k7)) rfl e329 ?_)
           refine wl_op rfl (op_len_rv rfl Try.underlying34 rfl (r4.mono (((((le22.trans le149).trans le246).trans le265).trans le392).trans le643)) ?_)
           refine wl_op rfl (op_lss (a := s2) (b := (x9.1.length : Int)) rfl rfl rfl ?_)
           refine wl_op rfl (op_move (v := (Value.bool (decide (s2 < (x9.1.length : Int))))) rfl rfl ?_)
           rcases ifs h33 with ⟨hc75, h33⟩ | ⟨hc75, h33⟩
           ·
            refine wl_taken (c := decide (s2 < (x9.1.length : Int))) rfl rfl rfl rfl hc75 (op_move (v := (Value.slice z7 m7 k7)) rfl e329 ?_)
            refine wl_taken (c := decide (s2 < (x9.1.length : Int))) rfl rfl rfl rfl hc75 (op_len_rv rfl Try.underlying34 rfl (r4.mono (((((le22.trans le149).trans le246).trans le265).trans le392).trans le643)) ?_)
            refine wl_taken (c := decide (s2 < (x9.1.length : Int))) rfl rfl rfl rfl hc75 (op_fieldAddr_t (v := (Value.pointer (some ⟨g2, 0, none⟩))) rfl fa68_2 e328 ((p2.mono (((((((le3.trans le4).trans le22).trans le149).trans le246).trans le265).trans le392).trans le643)).at_ I704) ?_)
            refine wl_taken (c := decide (s2 < (x9.1.length : Int))) rfl rfl rfl rfl hc75 (op_load (v := (fieldPtr (Value.pointer (some ⟨g2, 0, none⟩)) 2)) (e := a2.Losses) rfl sh34 rfl (((p2.mono (((((((le3.trans le4).trans le22).trans le149).trans le246).trans le265).trans le392).trans le643)).at_ I704).fld Law08_Loss.fld2) (fun u168 hu168 => ?_))
            obtain ⟨z147, m147, k147, e332⟩ := rv_form hu168
            subst e332
            refine wl_taken (c := decide (s2 < (x9.1.length : Int))) rfl rfl rfl rfl hc75 (op_len_rv rfl Try.underlying34 rfl hu168 ?_)
            refine wl_taken (c := decide (s2 < (x9.1.length : Int))) rfl rfl rfl rfl hc75 (op_eql (a := (x9.1.length : Int)) (b := (a2.Losses.length : Int)) rfl rfl rfl ?_)
            refine wl_op rfl (op_pick_t (c := decide (s2 < (x9.1.length : Int))) (a := (Value.bool ((x9.1.length : Int) == (a2.Losses.length : Int)))) rfl rfl hc75 rfl ?_)
            refine wl_nil ?_
            rcases ifs h33 with ⟨hc76, h33⟩ | ⟨hc76, h33⟩
            ·
             refine wp_cond_t (b := (x9.1.length : Int) == (a2.Losses.length : Int)) rfl hc76 ?_
             refine wp_skip' ?_
             obtain rfl := Option.some.inj h33
             exact ⟨_, rfl, I704, e328, e329, e330⟩
            ·
             refine wp_cond_f (b := (x9.1.length : Int) == (a2.Losses.length : Int)) rfl hc76 ?_
             refine wp_exit' ?_
             obtain rfl := Option.some.inj h33
             have h34 := h30
             obtain rfl := Option.some.inj h34
             obtain rfl := (hout2 _ rfl)
             exact ⟨_, rfl, _, le643, I704, e328, e329, e330⟩
           ·
            refine wl_skip (c := decide (s2 < (x9.1.length : Int))) rfl rfl rfl rfl hc75 rfl ?_
            refine wl_skip (c := decide (s2 < (x9.1.length : Int))) rfl rfl rfl rfl hc75 rfl ?_
            refine wl_skip (c := decide (s2 < (x9.1.length : Int))) rfl rfl rfl rfl hc75 rfl ?_
            refine wl_skip (c := decide (s2 < (x9.1.length : Int))) rfl rfl rfl rfl hc75 rfl ?_
            refine wl_skip (c := decide (s2 < (x9.1.length : Int))) rfl rfl rfl rfl hc75 rfl ?_
            refine wl_skip (c := decide (s2 < (x9.1.length : Int))) rfl rfl rfl rfl hc75 rfl ?_
            refine wl_op rfl (op_pick_f (c := decide (s2 < (x9.1.length : Int))) (b := (Value.bool (false))) rfl rfl hc75 rfl ?_)
            refine wl_nil ?_
            refine wp_cond_f (b := false) rfl rfl ?_
            refine wp_exit' ?_
            obtain rfl := Option.some.inj h33
            have h34 := h30
            obtain rfl := Option.some.inj h34
            obtain rfl := (hout2 _ rfl)
            exact ⟨_, rfl, _, le643, I704, e328, e329, e330⟩
          ·
           rintro f w ⟨v15, rfl, I705, e333, e334, e335⟩
           have h30 := onL_inl h30
           refine wp_seq' ?_
           refine wp_block' ?_
           refine wp_seq' ?_
           obtain ⟨x80, hx80, h30⟩ := bnd h30
           obtain ⟨x81, hx81, h30⟩ := bnd h30
           refine wp_draw (sps := [⟨some 151, [], [0], fun vs_ T_ => fr0 vs_ 0 = (Value.slice z7 m7 k7), [], [], [], fun _ h_ => h_⟩, ⟨some 152, [], [1], fun vs_ T_ => fr0 vs_ 0 = (Value.int .i64 (s2)), [], [], [], fun _ h_ => h_⟩, ⟨some 153, [0, 1], [2], fun vs_ T_ => fr0 vs_ 0 = (elemPtr (Value.slice z7 m7 k7) (s2) (Enc.sz Int)), [], [], [], fun _ h_ => h_⟩, ⟨some 154, [0, 1, 2], [3], fun vs_ T_ => fr0 vs_ 0 = (Value.int .i64 (x80)), [], [], [], fun _ h_ => h_⟩, ⟨some 155, [], [4], fun vs_ T_ => fr0 vs_ 0 = (fieldPtr (Value.pointer (some ⟨g2, 0, none⟩)) 2), [], [], [], fun _ h_ => h_⟩, ⟨some 156, [4], [5], fun vs_ T_ => RV T_ (fr0 vs_ 0) a2.Losses, [], [], [], fun hle_ h_ => h_.mono hle_⟩, ⟨some 157, [], [6], fun vs_ T_ => fr0 vs_ 0 = (Value.int .i64 (s2)), [], [], [], fun _ h_ => h_⟩, ⟨some 158, [4, 5, 6], [7, 5], fun vs_ T_ => fr0 vs_ 0 = (elemPtr (fr0 vs_ 1) (s2) (Enc.sz Int)), [], [], [], fun _ h_ => h_⟩, ⟨some 159, [4, 5, 6, 7], [8], fun vs_ T_ => fr0 vs_ 0 = (Value.int .i64 (x81)), [], [], [], fun _ h_ => h_⟩, ⟨some 160, [0, 1, 2, 3, 4, 5, 6, 7, 8], [9], fun vs_ T_ => fr0 vs_ 0 = (Value.bool (x80 != x81)), [], [], [], fun _ h_ => h_⟩]) (tks := []) (O := Fr) rfl (by kernel_rfl) I705 ⟨?_, ?_, ?_, ?_, ?_, ?_, ?_, ?_, ?_, ?_, trivial⟩ ?_
           ·
            intro vs621 f w671 S644 X582 le644 hA582 hK621 hI623
            have I706 : Inv w671 S644 (X582) := hI623
            refine opg_plain rfl rfl (op_move (v := (Value.slice z7 m7 k7)) rfl ((hK621 7 (keep_of rfl)).trans e334) ?_)
            refine ⟨_, _, rfl, PH.Le.refl _, ?_, ?_⟩
            ·
             exact rfl
            ·
             exact I706
           ·
            intro vs622 f w672 S645 X583 le645 hA583 hK622 hI624
            have I707 : Inv w672 S645 (X583) := hI624
            refine opg_plain rfl rfl (op_move (v := (Value.int .i64 (s2))) rfl ((hK622 11 (keep_of rfl)).trans e335) ?_)
            refine ⟨_, _, rfl, PH.Le.refl _, ?_, ?_⟩
            ·
             exact rfl
            ·
             exact I707
           ·
            intro vs623 f w673 S646 X584 le646 hA584 hK623 hI625
            have I708 : Inv w673 S646 (X584) := hI625
            have q842 : f 151 = (Value.slice z7 m7 k7) := vt (hA584.at_ 0 rfl _ rfl) rfl
            have q843 : f 152 = (Value.int .i64 (s2)) := vt (hA584.at_ 1 rfl _ rfl) rfl
            refine opg_plain rfl rfl (op_indexAddr_rv (v := (Value.slice z7 m7 k7)) (i := s2) (e := x80) rfl Try.underlying34 sh3 q842 (r4.mono ((((((le22.trans le149).trans le246).trans le265).trans le392).trans le643).trans le646)) q843 hx80 ?_)
            refine ⟨_, _, rfl, PH.Le.refl _, ?_, ?_⟩
            ·
             exact rfl
            ·
             exact I708
           ·
            intro vs624 f w674 S647 X585 le647 hA585 hK624 hI626
            have I709 : Inv w674 S647 (X585) := hI626
            have q844 : f 153 = (elemPtr (Value.slice z7 m7 k7) (s2) (Enc.sz Int)) := vt (hA585.at_ 2 rfl _ rfl) rfl
            refine opg_plain rfl rfl (op_load_int (v := (elemPtr (Value.slice z7 m7 k7) (s2) (Enc.sz Int))) (e := x80) rfl sh3 q844 ((r4.mono ((((((le22.trans le149).trans le246).trans le265).trans le392).trans le643).trans le647)).elem I709.in_ hx80) ?_)
            refine ⟨_, _, rfl, PH.Le.refl _, ?_, ?_⟩
            ·
             exact rfl
            ·
             exact I709
           ·
            intro vs625 f w675 S648 X586 le648 hA586 hK625 hI627
            have I710 : Inv w675 S648 (X586) := hI627
            refine opg_plain rfl rfl (op_fieldAddr_t (v := (Value.pointer (some ⟨g2, 0, none⟩))) rfl fa68_2 ((hK625 5 (keep_of rfl)).trans e333) ((p2.mono ((((((((le3.trans le4).trans le22).trans le149).trans le246).trans le265).trans le392).trans le643).trans le648)).at_ I710) ?_)
            refine ⟨_, _, rfl, PH.Le.refl _, ?_, ?_⟩
            ·
             exact rfl
            ·
             exact I710
           ·
            intro vs626 f w676 S649 X587 le649 hA587 hK626 hI628
            have I711 : Inv w676 S649 (X587) := hI628
            have q845 : f 155 = (fieldPtr (Value.pointer (some ⟨g2, 0, none⟩)) 2) := vt (hA587.at_ 0 rfl _ rfl) rfl
            refine opg_plain rfl rfl (op_load (v := (fieldPtr (Value.pointer (some ⟨g2, 0, none⟩)) 2)) (e := a2.Losses) rfl sh34 q845 (((p2.mono ((((((((le3.trans le4).trans le22).trans le149).trans le246).trans le265).trans le392).trans le643).trans le649)).at_ I711).fld Law08_Loss.fld2) (fun u170 hu170 => ?_))
            obtain ⟨z148, m148, k148, e336⟩ := rv_form hu170
            subst e336
            refine ⟨_, _, rfl, PH.Le.refl _, ?_, ?_⟩
            ·
             exact hu170
            ·
             exact I711
           ·
            intro vs627 f w677 S650 X588 le650 hA588 hK627 hI629
            have I712 : Inv w677 S650 (X588) := hI629
            refine opg_plain rfl rfl (op_move (v := (Value.int .i64 (s2))) rfl ((hK627 11 (keep_of rfl)).trans e335) ?_)
            refine ⟨_, _, rfl, PH.Le.refl _, ?_, ?_⟩
            ·
             exact rfl
            ·
             exact I712
           ·
            intro vs628 f w678 S651 X589 le651 hA589 hK628 hI630
            have I713 : Inv w678 S651 (X589) := hI630
            have q846 : f 156 = vs628 5 := (hA589.at_ 1 rfl _ rfl).1 _ rfl
            have r78 : RV S651 (vs628 5) a2.Losses := (hA589.at_ 1 rfl _ rfl).2
            obtain ⟨u171, hu171⟩ : ∃ u, vs628 5 = u := ⟨_, rfl⟩
            rw [hu171] at q846 r78
            obtain ⟨z149, m149, k149, e337⟩ := rv_form r78
            subst e337
            have q847 : f 157 = (Value.int .i64 (s2)) := vt (hA589.at_ 2 rfl _ rfl) rfl
            refine opg_plain rfl rfl (op_indexAddr_rv (v := (Value.slice z149 m149 k149)) (i := s2) (e := x81) rfl Try.underlying34 sh3 q846 r78 q847 hx81 ?_)
            refine ⟨_, _, rfl, PH.Le.refl _, ?_, ?_⟩
            ·
             show (elemPtr (Value.slice z149 m149 k149) (s2) (Enc.sz Int)) = (elemPtr (vs628 5) (s2) (Enc.sz Int))
             simp only [hu171] <;> rfl
            ·
             exact I713
           ·
            intro vs629 f w679 S652 X590 le652 hA590 hK629 hI631
            have I714 : Inv w679 S652 (X590) := hI631
            have q848 : f 156 = vs629 5 := (hA590.at_ 1 rfl _ rfl).1 _ rfl
            have r79 : RV S652 (vs629 5) a2.Losses := (hA590.at_ 1 rfl _ rfl).2
            obtain ⟨u172, hu172⟩ : ∃ u, vs629 5 = u := ⟨_, rfl⟩
            rw [hu172] at q848 r79
            obtain ⟨z150, m150, k150, e338⟩ := rv_form r79
            subst e338
            have q849 : f 157 = (Value.int .i64 (s2)) := vt (hA590.at_ 2 rfl _ rfl) rfl
            have q850 : f 158 = (elemPtr (vs629 5) (s2) (Enc.sz Int)) := vt (hA590.at_ 3 rfl _ rfl) rfl
            simp only [hu172] at q850
            have q850 : f 158 = (elemPtr (Value.slice z150 m150 k150) (s2) (Enc.sz Int)) := q850
            refine opg_plain rfl rfl (op_load_int (v := (elemPtr (Value.slice z150 m150 k150) (s2) (Enc.sz Int))) (e := x81) rfl sh3 q850 (r79.elem I714.in_ hx81) ?_)
            refine ⟨_, _, rfl, PH.Le.refl _, ?_, ?_⟩
            ·
             exact rfl
            ·
             exact I714
           ·
            intro vs630 f w680 S653 X591 le653 hA591 hK630 hI632
            have I715 : Inv w680 S653 (X591) := hI632
            have q851 : f 154 = (Value.int .i64 (x80)) := vt (hA591.at_ 3 rfl _ rfl) rfl
            have q852 : f 159 = (Value.int .i64 (x81)) := vt (hA591.at_ 8 rfl _ rfl) rfl
            refine opg_plain rfl rfl (op_neq (a := x80) (b := x81) rfl q851 q852 ?_)
            refine ⟨_, _, rfl, PH.Le.refl _, ?_, ?_⟩
            ·
             exact rfl
            ·
             exact I715
           ·
            intro vs631 f w681 S654 le654 hF40 hK631 hI633
            have e339 : f 5 = (Value.pointer (some ⟨g2, 0, none⟩)) := (hK631 5 (keep_all rfl)).trans e333
            have e340 : f 7 = (Value.slice z7 m7 k7) := (hK631 7 (keep_all rfl)).trans e334
            have e341 : f 11 = (Value.int .i64 (s2)) := (hK631 11 (keep_all rfl)).trans e335
            have I716 : Inv w681 S654 (Fr) := hI633
            have q853 : f 160 = (Value.bool (x80 != x81)) := vt (hF40.at_ 9 rfl _ rfl) rfl
            rcases ifs h30 with ⟨hc77, h30⟩ | ⟨hc77, h30⟩
            ·
             refine wp_cond_t (b := x80 != x81) q853 hc77 ?_
             refine wp_seq' ?_
             obtain ⟨x82, hx82, h30⟩ := bnd h30
             obtain ⟨x83, hx83, h30⟩ := bnd h30
             rcases ifs h30 with ⟨hc78, h30⟩ | ⟨hc78, h30⟩
             ·
              obtain ⟨x84, hx84, h30⟩ := bnd h30
              refine wp_draw (sps := [⟨some 161, [], [0], fun vs_ T_ => fr0 vs_ 0 = (Value.slice z7 m7 k7), [], [], [], fun _ h_ => h_⟩, ⟨some 162, [], [1], fun vs_ T_ => fr0 vs_ 0 = (Value.int .i64 (s2)), [], [], [], fun _ h_ => h_⟩, ⟨some 163, [0, 1], [2], fun vs_ T_ => fr0 vs_ 0 = (elemPtr (Value.slice z7 m7 k7) (s2) (Enc.sz Int)), [], [], [], fun _ h_ => h_⟩, ⟨some 164, [0, 1, 2], [3], fun vs_ T_ => fr0 vs_ 0 = (Value.int .i64 (x82)), [], [], [], fun _ h_ => h_⟩, ⟨some 165, [], [4], fun vs_ T_ => fr0 vs_ 0 = (fieldPtr (Value.pointer (some ⟨g2, 0, none⟩)) 2), [], [], [], fun _ h_ => h_⟩, ⟨some 166, [4], [5], fun vs_ T_ => RV T_ (fr0 vs_ 0) a2.Losses, [], [], [], fun hle_ h_ => h_.mono hle_⟩, ⟨some 167, [], [6], fun vs_ T_ => fr0 vs_ 0 = (Value.int .i64 (s2)), [], [], [], fun _ h_ => h_⟩, ⟨some 168, [4, 5, 6], [7, 5], fun vs_ T_ => fr0 vs_ 0 = (elemPtr (fr0 vs_ 1) (s2) (Enc.sz Int)), [], [], [], fun _ h_ => h_⟩, ⟨some 169, [4, 5, 6, 7], [8], fun vs_ T_ => fr0 vs_ 0 = (Value.int .i64 (x83)), [], [], [], fun _ h_ => h_⟩, ⟨some 170, [0, 1, 2, 3, 4, 5, 6, 7, 8], [9], fun vs_ T_ => fr0 vs_ 0 = (Value.bool (decide (x82 < x83))), [], [], [], fun _ h_ => h_⟩, ⟨some 171, [0, 1, 2, 3, 4, 5, 6, 7, 8, 9], [10], fun vs_ T_ => fr0 vs_ 0 = (Value.bool (decide (x82 < x83))), [], [], [], fun _ h_ => h_⟩, ⟨some 172, [0, 1, 2, 3, 4, 5, 6, 7, 8, 9, 10], [11], fun vs_ T_ => fr0 vs_ 0 = (Value.bool (x84)), [], [], [], fun _ h_ => h_⟩, ⟨some 173, [0, 1, 2, 3, 4, 5, 6, 7, 8, 9, 10, 11], [12], fun vs_ T_ => fr0 vs_ 0 = (Value.bool (x84)), [], [], [], fun _ h_ => h_⟩, ⟨some 6, [0, 1, 2, 3, 4, 5, 6, 7, 8, 9, 10, 11, 12], [13], fun vs_ T_ => fr0 vs_ 0 = (Value.bool (x84)), [], [], [], fun _ h_ => h_⟩]) (tks := []) (O := Fr) rfl (by kernel_rfl) I716 ⟨?_, ?_, ?_, ?_, ?_, ?_, ?_, ?_, ?_, ?_, ?_, ?_, ?_, ?_, trivial⟩ ?_
              ·
               intro vs632 f w683 S655 X592 le655 hA592 hK632 hI634
               have I718 : Inv w683 S655 (X592) := hI634
               refine opg_plain rfl rfl (op_move (v := (Value.slice z7 m7 k7)) rfl ((hK632 7 (keep_of rfl)).trans e340) ?_)
               refine ⟨_, _, rfl, PH.Le.refl _, ?_, ?_⟩
               ·
                exact rfl
               ·
                exact I718
              ·
               intro vs633 f w684 S656 X593 le656 hA593 hK633 hI635
               have I719 : Inv w684 S656 (X593) := hI635
               refine opg_plain rfl rfl (op_move (v := (Value.int .i64 (s2))) rfl ((hK633 11 (keep_of rfl)).trans e341) ?_)
               refine ⟨_, _, rfl, PH.Le.refl _, ?_, ?_⟩
               ·
                exact rfl
               ·
                exact I719
              ·
               intro vs634 f w685 S657 X594 le657 hA594 hK634 hI636
               have I720 : Inv w685 S657 (X594) := hI636
               have q854 : f 161 = (Value.slice z7 m7 k7) := vt (hA594.at_ 0 rfl _ rfl) rfl
               have q855 : f 162 = (Value.int .i64 (s2)) := vt (hA594.at_ 1 rfl _ rfl) rfl
               refine opg_plain rfl rfl (op_indexAddr_rv (v := (Value.slice z7 m7 k7)) (i := s2) (e := x82) rfl Try.underlying34 sh3 q854 (r4.mono (((((((le22.trans le149).trans le246).trans le265).trans le392).trans le643).trans le654).trans le657)) q855 hx82 ?_)
               refine ⟨_, _, rfl, PH.Le.refl _, ?_, ?_⟩
               ·
                exact rfl
               ·
                exact I720
              ·
               intro vs635 f w686 S658 X595 le658 hA595 hK635 hI637
               have I721 : Inv w686 S658 (X595) := hI637
               have q856 : f 163 = (elemPtr (Value.slice z7 m7 k7) (s2) (Enc.sz Int)) := vt (hA595.at_ 2 rfl _ rfl) rfl
               refine opg_plain rfl rfl (op_load_int (v := (elemPtr (Value.slice z7 m7 k7) (s2) (Enc.sz Int))) (e := x82) rfl sh3 q856 ((r4.mono (((((((le22.trans le149).trans le246).trans le265).trans le392).trans le643).trans le654).trans le658)).elem I721.in_ hx82) ?_)
               refine ⟨_, _, rfl, PH.Le.refl _, ?_, ?_⟩
               ·
                exact rfl
               ·
                exact I721
              ·
               intro vs636 f w687 S659 X596 le659 hA596 hK636 hI638
               have I722 : Inv w687 S659 (X596) := hI638
               refine opg_plain rfl rfl (op_fieldAddr_t (v := (Value.pointer (some ⟨g2, 0, none⟩))) rfl fa68_2 ((hK636 5 (keep_of rfl)).trans e339) ((p2.mono (((((((((le3.trans le4).trans le22).trans le149).trans le246).trans le265).trans le392).trans le643).trans le654).trans le659)).at_ I722) ?_)
               refine ⟨_, _, rfl, PH.Le.refl _, ?_, ?_⟩
               ·
                exact rfl
               ·
                exact I722
              ·
               intro vs637 f w688 S660 X597 le660 hA597 hK637 hI639
               have I723 : Inv w688 S660 (X597) := hI639
               have q857 : f 165 = (fieldPtr (Value.pointer (some ⟨g2, 0, none⟩)) 2) := vt (hA597.at_ 0 rfl _ rfl) rfl
               refine opg_plain rfl rfl (op_load (v := (fieldPtr (Value.pointer (some ⟨g2, 0, none⟩)) 2)) (e := a2.Losses) rfl sh34 q857 (((p2.mono (((((((((le3.trans le4).trans le22).trans le149).trans le246).trans le265).trans le392).trans le643).trans le654).trans le660)).at_ I723).fld Law08_Loss.fld2) (fun u175 hu175 => ?_))
               obtain ⟨z151, m151, k151, e342⟩ := rv_form hu175
               subst e342
               refine ⟨_, _, rfl, PH.Le.refl _, ?_, ?_⟩
               ·
                exact hu175
               ·
                exact I723
              ·
               intro vs638 f w689 S661 X598 le661 hA598 hK638 hI640
               have I724 : Inv w689 S661 (X598) := hI640
               refine opg_plain rfl rfl (op_move (v := (Value.int .i64 (s2))) rfl ((hK638 11 (keep_of rfl)).trans e341) ?_)
               refine ⟨_, _, rfl, PH.Le.refl _, ?_, ?_⟩
               ·
                exact rfl
               ·
                exact I724
              ·
               intro vs639 f w690 S662 X599 le662 hA599 hK639 hI641
               have I725 : Inv w690 S662 (X599) := hI641
               have q858 : f 166 = vs639 5 := (hA599.at_ 1 rfl _ rfl).1 _ rfl
               have r80 : RV S662 (vs639 5) a2.Losses := (hA599.at_ 1 rfl _ rfl).2
               obtain ⟨u176, hu176⟩ : ∃ u, vs639 5 = u := ⟨_, rfl⟩
               rw [hu176] at q858 r80
               obtain ⟨z152, m152, k152, e343⟩ := rv_form r80
               subst e343
               have q859 : f 167 = (Value.int .i64 (s2)) := vt (hA599.at_ 2 rfl _ rfl) rfl
               refine opg_plain rfl rfl (op_indexAddr_rv (v := (Value.slice z152 m152 k152)) (i := s2) (e := x83) rfl Try.underlying34 sh3 q858 r80 q859 hx83 ?_)
               refine ⟨_, _, rfl, PH.Le.refl _, ?_, ?_⟩
               ·
                show (elemPtr (Value.slice z152 m152 k152) (s2) (Enc.sz Int)) = (elemPtr (vs639 5) (s2) (Enc.sz Int))
                simp only [hu176] <;> rfl
               ·
                exact I725
              ·
               intro vs640 f w691 S663 X600 le663 hA600 hK640 hI642
               have I726 : Inv w691 S663 (X600) := hI642
               have q860 : f 166 = vs640 5 := (hA600.at_ 1 rfl _ rfl).1 _ rfl
               have r81 : RV S663 (vs640 5) a2.Losses := (hA600.at_ 1 rfl _ rfl).2
               obtain ⟨u177, hu177⟩ : ∃ u, vs640 5 = u := ⟨_, rfl⟩
               rw [hu177] at q860 r81
               obtain ⟨z153, m153, k153, e344⟩ := rv_form r81
               subst e344
               have q861 : f 167 = (Value.int .i64 (s2)) := vt (hA600.at_ 2 rfl _ rfl) rfl
               have q862 : f 168 = (elemPtr (vs640 5) (s2) (Enc.sz Int)) := vt (hA600.at_ 3 rfl _ rfl) rfl
               simp only [hu177] at q862
               have q862 : f 168 = (elemPtr (Value.slice z153 m153 k153) (s2) (Enc.sz Int)) := q862
               refine opg_plain rfl rfl (op_load_int (v := (elemPtr (Value.slice z153 m153 k153) (s2) (Enc.sz Int))) (e := x83) rfl sh3 q862 (r81.elem I726.in_ hx83) ?_)
               refine ⟨_, _, rfl, PH.Le.refl _, ?_, ?_⟩
               ·
                exact rfl
               ·
                exact I726
              ·
               intro vs641 f w692 S664 X601 le664 hA601 hK641 hI643
               have I727 : Inv w692 S664 (X601) := hI643
               have q863 : f 164 = (Value.int .i64 (x82)) := vt (hA601.at_ 3 rfl _ rfl) rfl
               have q864 : f 169 = (Value.int .i64 (x83)) := vt (hA601.at_ 8 rfl _ rfl) rfl
               refine opg_plain rfl rfl (op_lss (a := x82) (b := x83) rfl q863 q864 ?_)
               refine ⟨_, _, rfl, PH.Le.refl _, ?_, ?_⟩
               ·
                exact rfl
               ·
                exact I727
              ·
               intro vs642 f w693 S665 X602 le665 hA602 hK642 hI644
               have I728 : Inv w693 S665 (X602) := hI644
               have q865 : f 170 = (Value.bool (decide (x82 < x83))) := vt (hA602.at_ 9 rfl _ rfl) rfl
               refine opg_plain rfl rfl (op_move (v := (Value.bool (decide (x82 < x83)))) rfl q865 ?_)
               refine ⟨_, _, rfl, PH.Le.refl _, ?_, ?_⟩
               ·
                exact rfl
               ·
                exact I728
              ·
               intro vs643 f w694 S666 X603 le666 hA603 hK643 hI645
               have I729 : Inv w694 S666 (X603) := hI645
               have q866 : f 171 = (Value.bool (decide (x82 < x83))) := vt (hA603.at_ 10 rfl _ rfl) rfl
               refine opg_taken (c := decide (x82 < x83)) rfl rfl rfl rfl q866 hc78 (op_call_v (vs := []) (r := (Value.bool (x84))) rfl ca16 rfl args0 I729 (fun Fr_ hF_ => F16_ok hF_  hx84) (fun w695 I730 => ?_))
               refine ⟨_, _, rfl, PH.Le.refl _, ?_, ?_⟩
               ·
                exact rfl
               ·
                exact I730
              ·
               intro vs644 f w696 S667 X604 le667 hA604 hK644 hI646
               have I731 : Inv w696 S667 (X604) := hI646
               have q867 : f 171 = (Value.bool (decide (x82 < x83))) := vt (hA604.at_ 10 rfl _ rfl) rfl
               have q868 : f 172 = (Value.bool (x84)) := vt (hA604.at_ 11 rfl _ rfl) rfl
               refine opg_plain rfl rfl (op_pick_t (c := decide (x82 < x83)) (a := (Value.bool (x84))) rfl q867 hc78 q868 ?_)
               refine ⟨_, _, rfl, PH.Le.refl _, ?_, ?_⟩
               ·
                exact rfl
               ·
                exact I731
              ·
               intro vs645 f w697 S668 X605 le668 hA605 hK645 hI647
               have I732 : Inv w697 S668 (X605) := hI647
               have q869 : f 173 = (Value.bool (x84)) := vt (hA605.at_ 12 rfl _ rfl) rfl
               refine opg_plain rfl rfl (op_assign (v := (Value.bool (x84))) rfl q869 ?_)
               refine ⟨_, _, rfl, PH.Le.refl _, ?_, ?_⟩
               ·
                exact rfl
               ·
                exact I732
              ·
               intro vs646 f w698 S669 le669 hF41 hK646 hI648
               have I733 : Inv w698 S669 (Fr) := hI648
               have q870 : f 6 = (Value.bool (x84)) := vt (hF41.at_ 13 rfl _ rfl) rfl
               refine wp_ret' ?_
               obtain rfl := Option.some.inj h30
               obtain rfl := (hout2 _ rfl)
               have h31 := h
               obtain rfl := Option.some.inj h31
               exact ⟨(Value.bool (x84)), (res1 rfl q870), _, [], (((((((((((le1.trans le2).trans le3).trans le4).trans le22).trans le149).trans le246).trans le265).trans le392).trans le643).trans le654).trans le669), I733, rfl, rfl⟩
             ·
              refine wp_draw (sps := [⟨some 161, [], [0], fun vs_ T_ => fr0 vs_ 0 = (Value.slice z7 m7 k7), [], [], [], fun _ h_ => h_⟩, ⟨some 162, [], [1], fun vs_ T_ => fr0 vs_ 0 = (Value.int .i64 (s2)), [], [], [], fun _ h_ => h_⟩, ⟨some 163, [0, 1], [2], fun vs_ T_ => fr0 vs_ 0 = (elemPtr (Value.slice z7 m7 k7) (s2) (Enc.sz Int)), [], [], [], fun _ h_ => h_⟩, ⟨some 164, [0, 1, 2], [3], fun vs_ T_ => fr0 vs_ 0 = (Value.int .i64 (x82)), [], [], [], fun _ h_ => h_⟩, ⟨some 165, [], [4], fun vs_ T_ => fr0 vs_ 0 = (fieldPtr (Value.pointer (some ⟨g2, 0, none⟩)) 2), [], [], [], fun _ h_ => h_⟩, ⟨some 166, [4], [5], fun vs_ T_ => RV T_ (fr0 vs_ 0) a2.Losses, [], [], [], fun hle_ h_ => h_.mono hle_⟩, ⟨some 167, [], [6], fun vs_ T_ => fr0 vs_ 0 = (Value.int .i64 (s2)), [], [], [], fun _ h_ => h_⟩, ⟨some 168, [4, 5, 6], [7, 5], fun vs_ T_ => fr0 vs_ 0 = (elemPtr (fr0 vs_ 1) (s2) (Enc.sz Int)), [], [], [], fun _ h_ => h_⟩, ⟨some 169, [4, 5, 6, 7], [8], fun vs_ T_ => fr0 vs_ 0 = (Value.int .i64 (x83)), [], [], [], fun _ h_ => h_⟩, ⟨some 170, [0, 1, 2, 3, 4, 5, 6, 7, 8], [9], fun vs_ T_ => fr0 vs_ 0 = (Value.bool (decide (x82 < x83))), [], [], [], fun _ h_ => h_⟩, ⟨some 171, [0, 1, 2, 3, 4, 5, 6, 7, 8, 9], [10], fun vs_ T_ => fr0 vs_ 0 = (Value.bool (decide (x82 < x83))), [], [], [], fun _ h_ => h_⟩, ⟨some 172, [0, 1, 2, 3, 4, 5, 6, 7, 8, 9, 10], [11], fun vs_ T_ => fr0 vs_ 0 = undef, [], [], [], fun _ h_ => h_⟩, ⟨some 173, [0, 1, 2, 3, 4, 5, 6, 7, 8, 9, 10, 11], [12], fun vs_ T_ => fr0 vs_ 0 = (Value.bool (false)), [], [], [], fun _ h_ => h_⟩, ⟨some 6, [0, 1, 2, 3, 4, 5, 6, 7, 8, 9, 10, 11, 12], [13], fun vs_ T_ => fr0 vs_ 0 = (Value.bool (false)), [], [], [], fun _ h_ => h_⟩]) (tks := []) (O := Fr) rfl (by kernel_rfl) I716 ⟨?_, ?_, ?_, ?_, ?_, ?_, ?_, ?_, ?_, ?_, ?_, ?_, ?_, ?_, trivial⟩ ?_
              ·
               intro vs647 f w699 S670 X606 le670 hA606 hK647 hI649
               have I734 : Inv w699 S670 (X606) := hI649
               refine opg_plain rfl rfl (op_move (v := (Value.slice z7 m7 k7)) rfl ((hK647 7 (keep_of rfl)).trans e340) ?_)
               refine ⟨_, _, rfl, PH.Le.refl _, ?_, ?_⟩
               ·
                exact rfl
               ·
                exact I734
              ·
               intro vs648 f w700 S671 X607 le671 hA607 hK648 hI650
               have I735 : Inv w700 S671 (X607) := hI650
               refine opg_plain rfl rfl (op_move (v := (Value.int .i64 (s2))) rfl ((hK648 11 (keep_of rfl)).trans e341) ?_)
               refine ⟨_, _, rfl, PH.Le.refl _, ?_, ?_⟩
               ·
                exact rfl
               ·
                exact I735
              ·
               intro vs649 f w701 S672 X608 le672 hA608 hK649 hI651
               have I736 : Inv w701 S672 (X608) := hI651
               have q871 : f 161 = (Value.slice z7 m7 k7) := vt (hA608.at_ 0 rfl _ rfl) rfl
               have q872 : f 162 = (Value.int .i64 (s2)) := vt (hA608.at_ 1 rfl _ rfl) rfl
               refine opg_plain rfl rfl (op_indexAddr_rv (v := (Value.slice z7 m7 k7)) (i := s2) (e := x82) rfl Try.underlying34 sh3 q871 (r4.mono (((((((le22.trans le149).trans le246).trans le265).trans le392).trans le643).trans le654).trans le672)) q872 hx82 ?_)
               refine ⟨_, _, rfl, PH.Le.refl _, ?_, ?_⟩
               ·
                exact rfl
               ·
                exact I736
              ·
               intro vs650 f w702 S673 X609 le673 hA609 hK650 hI652
               have I737 : Inv w702 S673 (X609) := hI652
               have q873 : f 163 = (elemPtr (Value.slice z7 m7 k7) (s2) (Enc.sz Int)) := vt (hA609.at_ 2 rfl _ rfl) rfl
               refine opg_plain rfl rfl (op_load_int (v := (elemPtr (Value.slice z7 m7 k7) (s2) (Enc.sz Int))) (e := x82) rfl sh3 q873 ((r4.mono (((((((le22.trans le149).trans le246).trans le265).trans le392).trans le643).trans le654).trans le673)).elem I737.in_ hx82) ?_)
               refine ⟨_, _, rfl, PH.Le.refl _, ?_, ?_⟩
               ·
                exact rfl
               ·
                exact I737
              ·
               intro vs651 f w703 S674 X610 le674 hA610 hK651 hI653
               have I738 : Inv w703 S674 (X610) := hI653
               refine opg_plain rfl rfl (op_fieldAddr_t (v := (Value.pointer (some ⟨g2, 0, none⟩))) rfl fa68_2 ((hK651 5 (keep_of rfl)).trans e339) ((p2.mono (((((((((le3.trans le4).trans le22).trans le149).trans le246).trans le265).trans le392).trans le643).trans le654).trans le674)).at_ I738) ?_)
               refine ⟨_, _, rfl, PH.Le.refl _, ?_, ?_⟩
               ·
                exact rfl
               ·
                exact I738
              ·
               intro vs652 f w704 S675 X611 le675 hA611 hK652 hI654
               have I739 : Inv w704 S675 (X611) := hI654
               have q874 : f 165 = (fieldPtr (Value.pointer (some ⟨g2, 0, none⟩)) 2) := vt (hA611.at_ 0 rfl _ rfl) rfl
               refine opg_plain rfl rfl (op_load (v := (fieldPtr (Value.pointer (some ⟨g2, 0, none⟩)) 2)) (e := a2.Losses) rfl sh34 q874 (((p2.mono (((((((((le3.trans le4).trans le22).trans le149).trans le246).trans le265).trans le392).trans le643).trans le654).trans le675)).at_ I739).fld Law08_Loss.fld2) (fun u179 hu179 => ?_))
               obtain ⟨z154, m154, k154, e345⟩ := rv_form hu179
               subst e345
               refine ⟨_, _, rfl, PH.Le.refl _, ?_, ?_⟩
               ·
                exact hu179
               ·
                exact I739
              ·
               intro vs653 f w705 S676 X612 le676 hA612 hK653 hI655
               have I740 : Inv w705 S676 (X612) := hI655
               refine opg_plain rfl rfl (op_move (v := (Value.int .i64 (s2))) rfl ((hK653 11 (keep_of rfl)).trans e341) ?_)
               refine ⟨_, _, rfl, PH.Le.refl _, ?_, ?_⟩
               ·
                exact rfl
               ·
                exact I740
              ·
               intro vs654 f w706 S677 X613 le677 hA613 hK654 hI656
               have I741 : Inv w706 S677 (X613) := hI656
               have q875 : f 166 = vs654 5 := (hA613.at_ 1 rfl _ rfl).1 _ rfl
               have r82 : RV S677 (vs654 5) a2.Losses := (hA613.at_ 1 rfl _ rfl).2
               obtain ⟨u180, hu180⟩ : ∃ u, vs654 5 = u := ⟨_, rfl⟩
               rw [hu180] at q875 r82
               obtain ⟨z155, m155, k155, e346⟩ := rv_form r82
               subst e346
               have q876 : f 167 = (Value.int .i64 (s2)) := vt (hA613.at_ 2 rfl _ rfl) rfl
               refine opg_plain rfl rfl (op_indexAddr_rv (v := (Value.slice z155 m155 k155)) (i := s2) (e := x83) rfl Try.underlying34 sh3 q875 r82 q876 hx83 ?_)
               refine ⟨_, _, rfl, PH.Le.refl _, ?_, ?_⟩
               ·
                show (elemPtr (Value.slice z155 m155 k155) (s2) (Enc.sz Int)) = (elemPtr (vs654 5) (s2) (Enc.sz Int))
                simp only [hu180] <;> rfl
               ·
                exact I741
              ·
               intro vs655 f w707 S678 X614 le678 hA614 hK655 hI657
               have I742 : Inv w707 S678 (X614) := hI657
               have q877 : f 166 = vs655 5 := (hA614.at_ 1 rfl _ rfl).1 _ rfl
               have r83 : RV S678 (vs655 5) a2.Losses := (hA614.at_ 1 rfl _ rfl).2
               obtain ⟨u181, hu181⟩ : ∃ u, vs655 5 = u := ⟨_, rfl⟩
               rw [hu181] at q877 r83
               obtain ⟨z156, m156, k156, e347⟩ := rv_form r83
               subst e347
               have q878 : f 167 = (Value.int .i64 (s2)) := vt (hA614.at_ 2 rfl _ rfl) rfl
               have q879 : f 168 = (elemPtr (vs655 5) (s2) (Enc.sz Int)) := vt (hA614.at_ 3 rfl _ rfl) rfl
               simp only [hu181] at q879
               have q879 : f 168 = (elemPtr (Value.slice z156 m156 k156) (s2) (Enc.sz Int)) := q879
               refine opg_plain rfl rfl (op_load_int (v := (elemPtr (Value.slice z156 m156 k156) (s2) (Enc.sz Int))) (e := x83) rfl sh3 q879 (r83.elem I742.in_ hx83) ?_)
               refine ⟨_, _, rfl, PH.Le.refl _, ?_, ?_⟩
               ·
                exact rfl
               ·
                exact I742
              ·
               intro vs656 f w708 S679 X615 le679 hA615 hK656 hI658
               have I743 : Inv w708 S679 (X615) := hI658
               have q880 : f 164 = (Value.int .i64 (x82)) := vt (hA615.at_ 3 rfl _ rfl) rfl
               have q881 : f 169 = (Value.int .i64 (x83)) := vt (hA615.at_ 8 rfl _ rfl) rfl
               refine opg_plain rfl rfl (op_lss (a := x82) (b := x83) rfl q880 q881 ?_)
               refine ⟨_, _, rfl, PH.Le.refl _, ?_, ?_⟩
               ·
                exact rfl
               ·
                exact I743
              ·
               intro vs657 f w709 S680 X616 le680 hA616 hK657 hI659
               have I744 : Inv w709 S680 (X616) := hI659
               have q882 : f 170 = (Value.bool (decide (x82 < x83))) := vt (hA616.at_ 9 rfl _ rfl) rfl
               refine opg_plain rfl rfl (op_move (v := (Value.bool (decide (x82 < x83)))) rfl q882 ?_)
               refine ⟨_, _, rfl, PH.Le.refl _, ?_, ?_⟩
               ·
                exact rfl
               ·
                exact I744
              ·
               intro vs658 f w710 S681 X617 le681 hA617 hK658 hI660
               have I745 : Inv w710 S681 (X617) := hI660
               have q883 : f 171 = (Value.bool (decide (x82 < x83))) := vt (hA617.at_ 10 rfl _ rfl) rfl
               exact opg_skip (c := decide (x82 < x83)) rfl rfl rfl rfl q883 hc78 rfl ⟨_, _, rfl, PH.Le.refl _, rfl, I745⟩
              ·
               intro vs659 f w711 S682 X618 le682 hA618 hK659 hI661
               have I746 : Inv w711 S682 (X618) := hI661
               have q884 : f 171 = (Value.bool (decide (x82 < x83))) := vt (hA618.at_ 10 rfl _ rfl) rfl
               have q885 : f 172 = undef := vt (hA618.at_ 11 rfl _ rfl) rfl
               refine opg_plain rfl rfl (op_pick_f (c := decide (x82 < x83)) (b := (Value.bool (false))) rfl q884 hc78 rfl ?_)
               refine ⟨_, _, rfl, PH.Le.refl _, ?_, ?_⟩
               ·
                exact rfl
               ·
                exact I746
              ·
               intro vs660 f w712 S683 X619 le683 hA619 hK660 hI662
               have I747 : Inv w712 S683 (X619) := hI662
               have q886 : f 173 = (Value.bool (false)) := vt (hA619.at_ 12 rfl _ rfl) rfl
               refine opg_plain rfl rfl (op_assign (v := (Value.bool (false))) rfl q886 ?_)
               refine ⟨_, _, rfl, PH.Le.refl _, ?_, ?_⟩
               ·
                exact rfl
               ·
                exact I747
              ·
               intro vs661 f w713 S684 le684 hF42 hK661 hI663
               have I748 : Inv w713 S684 (Fr) := hI663
               have q887 : f 6 = (Value.bool (false)) := vt (hF42.at_ 13 rfl _ rfl) rfl
               refine wp_ret' ?_
               obtain rfl := Option.some.inj h30
               obtain rfl := (hout2 _ rfl)
               have h31 := h
               obtain rfl := Option.some.inj h31
               exact ⟨(Value.bool (false)), (res1 rfl q887), _, [], (((((((((((le1.trans le2).trans le3).trans le4).trans le22).trans le149).trans le246).trans le265).trans le392).trans le643).trans le654).trans le684), I748, rfl, rfl⟩
            ·
             refine wp_cond_f (b := x80 != x81) q853 hc77 ?_
             refine wp_skip' ?_
             refine wp_region' ?_
             refine wl_op rfl (op_move (v := (Value.int .i64 (s2))) rfl e341 ?_)
             refine wl_op rfl (op_add (a := s2) (b := 1) rfl rfl rfl ?_)
             refine wl_op rfl (op_assign (v := (Value.int .i64 (w64 (s2 + 1)))) rfl rfl ?_)
             refine wl_nil ?_
             obtain rfl := Option.some.inj h30
             exact ⟨_, rfl, _, (le643.trans le654), I716, e339, e340, rfl⟩
         ·
          rintro f w ⟨out2, rfl, S685, le685, I749, e348, e349, e350⟩
          have h := onL_inl h
          refine wp_seq' ?_
          refine wp_region' ?_
          obtain ⟨x85, hx85, h⟩ := bnd h
          refine wl_op rfl (op_call_v (vs := []) (r := (Value.bool (x85))) rfl ca16 rfl args0 I749 (fun Fr_ hF_ => F16_ok hF_  hx85) (fun w714 I750 => ?_))
          refine wl_op rfl (op_assign (v := (Value.bool (x85))) rfl rfl ?_)
          refine wl_nil ?_
          refine wp_ret' ?_
          obtain rfl := Option.some.inj h
          exact ⟨(Value.bool (x85)), (res1 rfl rfl), _, [], (((((((((le1.trans le2).trans le3).trans le4).trans le22).trans le149).trans le246).trans le265).trans le392).trans le685), I750, rfl, rfl⟩
end Go.Proofs.Ytfeomcdhhgeilaa.Pad
