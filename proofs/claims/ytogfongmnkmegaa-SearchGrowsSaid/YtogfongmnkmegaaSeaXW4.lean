/- A part of the proof: what the functions of the program compute, shown over the model. -/
import Derived.Test.YtogfongmnkmegaaSeaXP
import Derived.KernelRfl
set_option linter.unusedVariables false
namespace Go.Proofs.Ytogfongmnkmegaa.Pad
open Go Go.Proofs
set_option maxHeartbeats 4000000 in
set_option maxRecDepth 100000 in
theorem F49_ok {w : World} {S : PH} {Fr : List HP} {a0 : Int} {a1 : Int} {a2 : Int} {r : Bool} (hI : Inv w S (Fr))  (h : F49 a0 a1 a2 = some r) :
    Calls Try.prog 49 [(Value.int .i64 (a0)), (Value.int .i64 (a1)), (Value.int .i64 (a2))].toArray w (DoneV S Fr (Value.bool (r))) := by
 unfold F49 at h
 refine calls_enter (n := 15) (vs := [(Value.int .i64 (a0)), (Value.int .i64 (a1)), (Value.int .i64 (a2))]) Try.func49 rfl rfl rfl ?_
 refine wp_seq' ?_
 refine wp_region' ?_
 refine wl_op rfl (op_assign (v := (Value.bool (false))) rfl rfl ?_)
 refine wl_nil ?_
 refine wp_seq' ?_
 refine wp_region' ?_
 refine wl_op rfl (op_move (v := (Value.int .i64 (a0))) rfl rfl ?_)
 refine wl_op rfl (op_move (v := (Value.int .i64 (a1))) rfl rfl ?_)
 refine wl_op rfl (op_geq (a := a0) (b := a1) rfl rfl rfl ?_)
 refine wl_op rfl (op_move (v := (Value.bool (decide (a1 ≤ a0)))) rfl rfl ?_)
 rcases ifs h with ⟨hc1, h⟩ | ⟨hc1, h⟩
 ·
  refine wl_taken (c := decide (a1 ≤ a0)) rfl rfl rfl rfl hc1 (op_move (v := (Value.int .i64 (a0))) rfl rfl ?_)
  refine wl_taken (c := decide (a1 ≤ a0)) rfl rfl rfl rfl hc1 (op_move (v := (Value.int .i64 (a2))) rfl rfl ?_)
  refine wl_taken (c := decide (a1 ≤ a0)) rfl rfl rfl rfl hc1 (op_leq (a := a0) (b := a2) rfl rfl rfl ?_)
  refine wl_op rfl (op_pick_t (c := decide (a1 ≤ a0)) (a := (Value.bool (decide (a0 ≤ a2)))) rfl rfl hc1 rfl ?_)
  refine wl_op rfl (op_assign (v := (Value.bool (decide (a0 ≤ a2)))) rfl rfl ?_)
  refine wl_nil ?_
  refine wp_ret' ?_
  obtain rfl := Option.some.inj h
  exact ⟨(Value.bool (decide (a0 ≤ a2))), (res1 rfl rfl), _, [], (PH.Le.refl _), hI, rfl, rfl⟩
 ·
  refine wl_skip (c := decide (a1 ≤ a0)) rfl rfl rfl rfl hc1 rfl ?_
  refine wl_skip (c := decide (a1 ≤ a0)) rfl rfl rfl rfl hc1 rfl ?_
  refine wl_skip (c := decide (a1 ≤ a0)) rfl rfl rfl rfl hc1 rfl ?_
  refine wl_op rfl (op_pick_f (c := decide (a1 ≤ a0)) (b := (Value.bool (false))) rfl rfl hc1 rfl ?_)
  refine wl_op rfl (op_assign (v := (Value.bool (false))) rfl rfl ?_)
  refine wl_nil ?_
  refine wp_ret' ?_
  obtain rfl := Option.some.inj h
  exact ⟨(Value.bool (false)), (res1 rfl rfl), _, [], (PH.Le.refl _), hI, rfl, rfl⟩

set_option maxHeartbeats 4000000 in
set_option maxRecDepth 100000 in
theorem F21_ok {w : World} {S : PH} {Fr : List HP} {a0 : Graph} {v0 : Value} {a1 : (List Int)} {v1 : Value} {r : Int} (hI : Inv w S (Fr)) (h0_ : RV S v0 a0) (h1_ : RV S v1 a1) (h : F21 a0 a1 = some r) :
    Calls Try.prog 21 [v0, v1].toArray w (DoneV S Fr (Value.int .i64 (r))) := by
 unfold F21 at h
 obtain ⟨c1, c2, e1, r1, r2⟩ := Graph.inv h0_
 subst e1
 obtain ⟨z1, m1, k1, e2⟩ := rv_form r1
 subst e2
 obtain ⟨z2, m2, k2, e3⟩ := rv_form r2
 subst e3
 obtain ⟨z3, m3, k3, e4⟩ := rv_form h1_
 subst e4
 refine calls_enter (n := 100) (vs := [(Value.agg #[(Value.slice z1 m1 k1), (Value.slice z2 m2 k2)]), (Value.slice z3 m3 k3)]) Try.func21 rfl rfl rfl ?_
 refine wp_seq' ?_
 refine wp_region' ?_
 refine wl_op rfl (op_box (v := (Value.agg #[(Value.slice z1 m1 k1), (Value.slice z2 m2 k2)])) rfl hI rfl (fun g1 w1 I1 => ?_))
 obtain ⟨S1, le1, I2, p1⟩ := Inv.boxFreeze (x := a0) I1 (Graph.rv (s := a0) r1 r2)
 refine wl_op rfl (op_assign (v := (Value.int .i64 (0))) rfl rfl ?_)
 refine wl_nil ?_
 refine wp_seq' ?_
 refine wp_region' ?_
 refine wl_op rfl (op_fieldAddr_t (v := (Value.pointer (some ⟨g1, 0, none⟩))) rfl fa25_0 rfl (p1.at_ I2) ?_)
 refine wl_op rfl (op_load (v := (fieldPtr (Value.pointer (some ⟨g1, 0, none⟩)) 0)) (e := a0.Positions) rfl sh22 rfl ((p1.at_ I2).fld Graph.fld0) (fun u1 hu1 => ?_))
 obtain ⟨z4, m4, k4, e5⟩ := rv_form hu1
 subst e5
 refine wl_op rfl (op_len_rv rfl Try.underlying22 rfl hu1 ?_)
 refine wl_op rfl (op_assign (v := (Value.int .i64 ((a0.Positions.length : Int)))) rfl rfl ?_)
 refine wl_nil ?_
 obtain ⟨ov1, h2, h⟩ := bnd h
 refine wp_cut (fun f w => ∃ v1, ov1 = Sum.inl v1 ∧ Inv w S1 (Fr) ∧ f 1 = (Value.slice z3 m3 k3) ∧ f 2 = (Value.pointer (some ⟨g1, 0, none⟩)) ∧ f 5 = (Value.int .i64 ((a0.Positions.length : Int)))) ?_ ?_
 ·
  refine wp_seq' ?_
  refine wp_region' ?_
  refine wl_op rfl (op_move (v := (Value.int .i64 ((a0.Positions.length : Int)))) rfl rfl ?_)
  obtain ⟨x2, hx2, h2⟩ := bnd h2
  refine wl_op rfl (op_call_v (vs := [(Value.int .i64 ((a0.Positions.length : Int))), (Value.int .i64 (1)), (Value.int .i64 (300))]) (r := (Value.bool (x2))) rfl ca49 rfl (args3 rfl rfl rfl) I2 (fun Fr_ hF_ => F49_ok hF_  hx2) (fun w3 I4 => ?_))
  refine wl_op rfl (op_not (b := x2) rfl rfl ?_)
  refine wl_op rfl (op_move (v := (Value.bool (!x2))) rfl rfl ?_)
  rcases ifs h2 with ⟨hc4, h2⟩ | ⟨hc4, h2⟩
  ·
   refine wl_skip (c := !x2) rfl rfl rfl rfl hc4 rfl ?_
   refine wl_skip (c := !x2) rfl rfl rfl rfl hc4 rfl ?_
   refine wl_skip (c := !x2) rfl rfl rfl rfl hc4 rfl ?_
   refine wl_skip (c := !x2) rfl rfl rfl rfl hc4 rfl ?_
   refine wl_skip (c := !x2) rfl rfl rfl rfl hc4 rfl ?_
   refine wl_op rfl (op_pick_t (c := !x2) (a := (Value.bool (true))) rfl rfl hc4 rfl ?_)
   refine wl_op rfl (op_move (v := (Value.bool (true))) rfl rfl ?_)
   refine wl_skip (c := true) rfl rfl rfl rfl rfl rfl ?_
   refine wl_skip (c := true) rfl rfl rfl rfl rfl rfl ?_
   refine wl_skip (c := true) rfl rfl rfl rfl rfl rfl ?_
   refine wl_skip (c := true) rfl rfl rfl rfl rfl rfl ?_
   refine wl_op rfl (op_pick_t (c := true) (a := (Value.bool (true))) rfl rfl rfl rfl ?_)
   refine wl_nil ?_
   refine wp_cond_t (b := true) rfl rfl ?_
   refine wp_seq' ?_
   refine wp_region' ?_
   refine wl_op rfl (op_assign (v := (Value.int .i64 (60))) rfl rfl ?_)
   refine wl_nil ?_
   refine wp_ret' ?_
   obtain rfl := Option.some.inj h2
   have h3 := h
   obtain rfl := Option.some.inj h3
   exact ⟨(Value.int .i64 (60)), (res1 rfl rfl), _, [], le1, I4, rfl, rfl⟩
  ·
   refine wl_taken (c := !x2) rfl rfl rfl rfl hc4 (op_fieldAddr_t (v := (Value.pointer (some ⟨g1, 0, none⟩))) rfl fa25_1 rfl (p1.at_ I4) ?_)
   refine wl_taken (c := !x2) rfl rfl rfl rfl hc4 (op_load (v := (fieldPtr (Value.pointer (some ⟨g1, 0, none⟩)) 1)) (e := a0.Edges) rfl sh23 rfl ((p1.at_ I4).fld Graph.fld1) (fun u3 hu3 => ?_))
   obtain ⟨z6, m6, k6, e7⟩ := rv_form hu3
   subst e7
   refine wl_taken (c := !x2) rfl rfl rfl rfl hc4 (op_len_rv rfl Try.underlying23 rfl hu3 ?_)
   refine wl_taken (c := !x2) rfl rfl rfl rfl hc4 (op_move (v := (Value.int .i64 ((a0.Positions.length : Int)))) rfl rfl ?_)
   refine wl_taken (c := !x2) rfl rfl rfl rfl hc4 (op_neq (a := (a0.Edges.length : Int)) (b := (a0.Positions.length : Int)) rfl rfl rfl ?_)
   refine wl_op rfl (op_pick_f (c := !x2) (b := (Value.bool ((a0.Edges.length : Int) != (a0.Positions.length : Int)))) rfl rfl hc4 rfl ?_)
   refine wl_op rfl (op_move (v := (Value.bool ((a0.Edges.length : Int) != (a0.Positions.length : Int)))) rfl rfl ?_)
   rcases ifs h2 with ⟨hc5, h2⟩ | ⟨hc5, h2⟩
   ·
    refine wl_skip (c := (a0.Edges.length : Int) != (a0.Positions.length : Int)) rfl rfl rfl rfl hc5 rfl ?_
    refine wl_skip (c := (a0.Edges.length : Int) != (a0.Positions.length : Int)) rfl rfl rfl rfl hc5 rfl ?_
    refine wl_skip (c := (a0.Edges.length : Int) != (a0.Positions.length : Int)) rfl rfl rfl rfl hc5 rfl ?_
    refine wl_skip (c := (a0.Edges.length : Int) != (a0.Positions.length : Int)) rfl rfl rfl rfl hc5 rfl ?_
    refine wl_op rfl (op_pick_t (c := (a0.Edges.length : Int) != (a0.Positions.length : Int)) (a := (Value.bool (true))) rfl rfl hc5 rfl ?_)
    refine wl_nil ?_
    refine wp_cond_t (b := true) rfl rfl ?_
    refine wp_seq' ?_
    refine wp_region' ?_
    refine wl_op rfl (op_assign (v := (Value.int .i64 (60))) rfl rfl ?_)
    refine wl_nil ?_
    refine wp_ret' ?_
    obtain rfl := Option.some.inj h2
    have h3 := h
    obtain rfl := Option.some.inj h3
    exact ⟨(Value.int .i64 (60)), (res1 rfl rfl), _, [], le1, I4, rfl, rfl⟩
   ·
    refine wl_taken (c := (a0.Edges.length : Int) != (a0.Positions.length : Int)) rfl rfl rfl rfl hc5 (op_move (v := (Value.slice z3 m3 k3)) rfl rfl ?_)
    refine wl_taken (c := (a0.Edges.length : Int) != (a0.Positions.length : Int)) rfl rfl rfl rfl hc5 (op_len_rv rfl Try.underlying26 rfl (h1_.mono le1) ?_)
    refine wl_taken (c := (a0.Edges.length : Int) != (a0.Positions.length : Int)) rfl rfl rfl rfl hc5 (op_move (v := (Value.int .i64 ((a0.Positions.length : Int)))) rfl rfl ?_)
    refine wl_taken (c := (a0.Edges.length : Int) != (a0.Positions.length : Int)) rfl rfl rfl rfl hc5 (op_neq (a := (a1.length : Int)) (b := (a0.Positions.length : Int)) rfl rfl rfl ?_)
    refine wl_op rfl (op_pick_f (c := (a0.Edges.length : Int) != (a0.Positions.length : Int)) (b := (Value.bool ((a1.length : Int) != (a0.Positions.length : Int)))) rfl rfl hc5 rfl ?_)
    refine wl_nil ?_
    rcases ifs h2 with ⟨hc6, h2⟩ | ⟨hc6, h2⟩
    ·
     refine wp_cond_t (b := (a1.length : Int) != (a0.Positions.length : Int)) rfl hc6 ?_
     refine wp_seq' ?_
     refine wp_region' ?_
     refine wl_op rfl (op_assign (v := (Value.int .i64 (60))) rfl rfl ?_)
     refine wl_nil ?_
     refine wp_ret' ?_
     obtain rfl := Option.some.inj h2
     have h3 := h
     obtain rfl := Option.some.inj h3
     exact ⟨(Value.int .i64 (60)), (res1 rfl rfl), _, [], le1, I4, rfl, rfl⟩
    ·
     refine wp_cond_f (b := (a1.length : Int) != (a0.Positions.length : Int)) rfl hc6 ?_
     refine wp_skip' ?_
     obtain rfl := Option.some.inj h2
     exact ⟨_, rfl, I4, rfl, rfl, rfl⟩
 ·
  rintro f w ⟨v1, rfl, I5, e8, e9, e10⟩
  have h := onL_inl h
  refine wp_seq' ?_
  refine wp_seq' ?_
  refine wp_region' ?_
  refine wl_op rfl (op_assign (v := (Value.int .i64 (0))) rfl rfl ?_)
  refine wl_nil ?_
  have hk1 : a0.Positions.length ≤ 9223372036854775807 := (rv_len hu1)
  obtain ⟨o6, hrun3, h⟩ := bnd h
  refine wp_cutN (fun f w => ∃ out3, o6 = Sum.inl out3 ∧ Inv w S1 (Fr) ∧ f 1 = (Value.slice z3 m3 k3) ∧ f 2 = (Value.pointer (some ⟨g1, 0, none⟩)) ∧ f 5 = (Value.int .i64 ((a0.Positions.length : Int)))) ?_ ?_
  ·
   refine wp_block' ?_
   refine wp_forN (I := fun (i1 : Nat) (s3 : Unit) (f : Frm) (w : World) => Inv w S1 (Fr) ∧ f 1 = (Value.slice z3 m3 k3) ∧ f 2 = (Value.pointer (some ⟨g1, 0, none⟩)) ∧ f 5 = (Value.int .i64 ((a0.Positions.length : Int))) ∧ f 6 = (Value.int .i64 (i1 : Int))) hrun3 ⟨I5, e8, e9, e10, rfl⟩ ?_ ?_
   ·
    rintro i1 s3 f w o5 hlt1 hI3 h14 hout3
    obtain ⟨I30, e141, e142, e143, e144⟩ := hI3
    refine wp_seq' ?_
    refine wp_seq' ?_
    refine wp_region' ?_
    refine wl_op rfl (op_move (v := (Value.int .i64 ((i1 : Int)))) rfl e144 ?_)
    refine wl_op rfl (op_move (v := (Value.int .i64 ((a0.Positions.length : Int)))) rfl e143 ?_)
    refine wl_op rfl (op_lss (a := (i1 : Int)) (b := (a0.Positions.length : Int)) rfl rfl rfl ?_)
    refine wl_nil ?_
    refine wp_cond_t (b := decide ((i1 : Int) < (a0.Positions.length : Int))) rfl (len_t hlt1) ?_
    refine wp_skip' ?_
    refine wp_seq' ?_
    refine wp_block' ?_
    refine wp_seq' ?_
    refine wp_seq' ?_
    refine wp_region' ?_
    refine wl_op rfl (op_fieldAddr_t (v := (Value.pointer (some ⟨g1, 0, none⟩))) rfl fa25_1 e142 (p1.at_ I30) ?_)
    refine wl_op rfl (op_load (v := (fieldPtr (Value.pointer (some ⟨g1, 0, none⟩)) 1)) (e := a0.Edges) rfl sh23 rfl ((p1.at_ I30).fld Graph.fld1) (fun u44 hu44 => ?_))
    obtain ⟨z47, m47, k47, e145⟩ := rv_form hu44
    subst e145
    refine wl_op rfl (op_move (v := (Value.int .i64 ((i1 : Int)))) rfl e144 ?_)
    obtain ⟨x51, hx51, h14⟩ := bnd h14
    refine wl_op rfl (op_indexAddr_rv (v := (Value.slice z47 m47 k47)) (i := (i1 : Int)) (e := x51) rfl Try.underlying23 sh40 rfl hu44 rfl hx51 ?_)
    refine wl_op rfl (op_load (v := (elemPtr (Value.slice z47 m47 k47) ((i1 : Int)) (Enc.sz (List Edge)))) (e := x51) rfl sh40 rfl (hu44.elem I30.in_ hx51) (fun u45 hu45 => ?_))
    obtain ⟨z48, m48, k48, e146⟩ := rv_form hu45
    subst e146
    refine wl_op rfl (op_len_rv rfl Try.underlying40 rfl hu45 ?_)
    refine wl_op rfl (op_gtr (a := (x51.length : Int)) (b := 100) rfl rfl rfl ?_)
    refine wl_nil ?_
    rcases ifs h14 with ⟨hc57, h14⟩ | ⟨hc57, h14⟩
    ·
     refine wp_cond_t (b := decide (100 < (x51.length : Int))) rfl hc57 ?_
     refine wp_seq' ?_
     refine wp_region' ?_
     refine wl_op rfl (op_assign (v := (Value.int .i64 (60))) rfl rfl ?_)
     refine wl_nil ?_
     refine wp_ret' ?_
     obtain rfl := Option.some.inj h14
     obtain rfl := (hout3 _ rfl)
     have h15 := h
     obtain rfl := Option.some.inj h15
     exact ⟨(Value.int .i64 (60)), (res1 rfl rfl), _, [], le1, I30, rfl, rfl⟩
    ·
     refine wp_cond_f (b := decide (100 < (x51.length : Int))) rfl hc57 ?_
     refine wp_skip' ?_
     refine wp_seq' ?_
     refine wp_region' ?_
     refine wl_op rfl (op_assign (v := (Value.int .i64 ((-1)))) rfl rfl ?_)
     refine wl_nil ?_
     refine wp_seq' ?_
     refine wp_seq' ?_
     refine wp_region' ?_
     refine wl_op rfl (op_assign (v := (Value.int .i64 (0))) rfl rfl ?_)
     refine wl_nil ?_
     obtain ⟨o8, hrun4, h14⟩ := bnd h14
     refine wp_cutN (fun f w => ∃ out4, o8 = Sum.inl out4 ∧ Inv w S1 (Fr) ∧ f 1 = (Value.slice z3 m3 k3) ∧ f 2 = (Value.pointer (some ⟨g1, 0, none⟩)) ∧ f 5 = (Value.int .i64 ((a0.Positions.length : Int))) ∧ f 6 = (Value.int .i64 ((i1 : Int))) ∧ f 7 = (Value.int .i64 (out4.1)) ∧ f 8 = (Value.int .i64 (out4.2))) ?_ ?_
     ·
      refine wp_block' ?_
      refine wp_whileO (I := fun (s4 : (Int × Int)) (f : Frm) (w : World) => Inv w S1 (Fr) ∧ f 1 = (Value.slice z3 m3 k3) ∧ f 2 = (Value.pointer (some ⟨g1, 0, none⟩)) ∧ f 5 = (Value.int .i64 ((a0.Positions.length : Int))) ∧ f 6 = (Value.int .i64 ((i1 : Int))) ∧ f 7 = (Value.int .i64 (s4.1)) ∧ f 8 = (Value.int .i64 (s4.2))) hrun4 ⟨I30, e141, e142, e143, e144, rfl, rfl⟩ ?_
      rintro s4 f w o7 hI4 h16 hout4
      obtain ⟨I38, e185, e186, e187, e188, e189, e190⟩ := hI4
      refine wp_seq' ?_
      refine wp_seq' ?_
      refine wp_region' ?_
      refine wl_op rfl (op_move (v := (Value.int .i64 (s4.2))) rfl e190 ?_)
      refine wl_op rfl (op_fieldAddr_t (v := (Value.pointer (some ⟨g1, 0, none⟩))) rfl fa25_1 e186 (p1.at_ I38) ?_)
      refine wl_op rfl (op_load (v := (fieldPtr (Value.pointer (some ⟨g1, 0, none⟩)) 1)) (e := a0.Edges) rfl sh23 rfl ((p1.at_ I38).fld Graph.fld1) (fun u60 hu60 => ?_))
      obtain ⟨z63, m63, k63, e191⟩ := rv_form hu60
      subst e191
      refine wl_op rfl (op_move (v := (Value.int .i64 ((i1 : Int)))) rfl e188 ?_)
      obtain ⟨x68, hx68, h16⟩ := bnd h16
      refine wl_op rfl (op_indexAddr_rv (v := (Value.slice z63 m63 k63)) (i := (i1 : Int)) (e := x68) rfl Try.underlying23 sh40 rfl hu60 rfl hx68 ?_)
      refine wl_op rfl (op_load (v := (elemPtr (Value.slice z63 m63 k63) ((i1 : Int)) (Enc.sz (List Edge)))) (e := x68) rfl sh40 rfl (hu60.elem I38.in_ hx68) (fun u61 hu61 => ?_))
      obtain ⟨z64, m64, k64, e192⟩ := rv_form hu61
      subst e192
      refine wl_op rfl (op_len_rv rfl Try.underlying40 rfl hu61 ?_)
      refine wl_op rfl (op_lss (a := s4.2) (b := (x68.length : Int)) rfl rfl rfl ?_)
      refine wl_nil ?_
      rcases ifs h16 with ⟨hc73, h16⟩ | ⟨hc73, h16⟩
      ·
       refine wp_cond_t (b := decide (s4.2 < (x68.length : Int))) rfl hc73 ?_
       refine wp_skip' ?_
       refine wp_seq' ?_
       refine wp_block' ?_
       refine wp_seq' ?_
       refine wp_region' ?_
       refine wl_op rfl (op_fieldAddr_t (v := (Value.pointer (some ⟨g1, 0, none⟩))) rfl fa25_1 e186 (p1.at_ I38) ?_)
       refine wl_op rfl (op_load (v := (fieldPtr (Value.pointer (some ⟨g1, 0, none⟩)) 1)) (e := a0.Edges) rfl sh23 rfl ((p1.at_ I38).fld Graph.fld1) (fun u62 hu62 => ?_))
       obtain ⟨z65, m65, k65, e193⟩ := rv_form hu62
       subst e193
       refine wl_op rfl (op_move (v := (Value.int .i64 ((i1 : Int)))) rfl e188 ?_)
       obtain ⟨x69, hx69, h16⟩ := bnd h16
       refine wl_op rfl (op_indexAddr_rv (v := (Value.slice z65 m65 k65)) (i := (i1 : Int)) (e := x69) rfl Try.underlying23 sh40 rfl hu62 rfl hx69 ?_)
       refine wl_op rfl (op_load (v := (elemPtr (Value.slice z65 m65 k65) ((i1 : Int)) (Enc.sz (List Edge)))) (e := x69) rfl sh40 rfl (hu62.elem I38.in_ hx69) (fun u63 hu63 => ?_))
       obtain ⟨z66, m66, k66, e194⟩ := rv_form hu63
       subst e194
       refine wl_op rfl (op_move (v := (Value.int .i64 (s4.2))) rfl e190 ?_)
       obtain ⟨x70, hx70, h16⟩ := bnd h16
       refine wl_op rfl (op_indexAddr_rv (v := (Value.slice z66 m66 k66)) (i := s4.2) (e := x70) rfl Try.underlying40 sh44 rfl hu63 rfl hx70 ?_)
       refine wl_op rfl (op_fieldAddr_t (v := (elemPtr (Value.slice z66 m66 k66) (s4.2) (Enc.sz Edge))) rfl fa44_1 rfl (hu63.elem I38.in_ hx70) ?_)
       refine wl_op rfl (op_load_int (v := (fieldPtr (elemPtr (Value.slice z66 m66 k66) (s4.2) (Enc.sz Edge)) 3)) (e := x70.To) rfl sh3 rfl ((hu63.elem I38.in_ hx70).fld Edge.fld1) ?_)
       refine wl_op rfl (op_assign (v := (Value.int .i64 (x70.To))) rfl rfl ?_)
       refine wl_nil ?_
       refine wp_seq' ?_
       refine wp_seq' ?_
       refine wp_region' ?_
       refine wl_op rfl (op_move (v := (Value.int .i64 (x70.To))) rfl rfl ?_)
       refine wl_op rfl (op_move (v := (Value.int .i64 ((a0.Positions.length : Int)))) rfl e187 ?_)
       refine wl_op rfl (op_sub (a := (a0.Positions.length : Int)) (b := 1) rfl rfl rfl ?_)
       obtain ⟨x71, hx71, h16⟩ := bnd h16
       refine wl_op rfl (op_call_v (vs := [(Value.int .i64 (x70.To)), (Value.int .i64 (0)), (Value.int .i64 (w64 ((a0.Positions.length : Int) - 1)))]) (r := (Value.bool (x71))) rfl ca49 rfl (args3 rfl rfl rfl) I38 (fun Fr_ hF_ => F49_ok hF_  hx71) (fun w15 I39 => ?_))
       refine wl_op rfl (op_not (b := x71) rfl rfl ?_)
       refine wl_nil ?_
       rcases ifs h16 with ⟨hc74, h16⟩ | ⟨hc74, h16⟩
       ·
        refine wp_cond_t (b := !x71) rfl hc74 ?_
        refine wp_seq' ?_
        refine wp_region' ?_
        refine wl_op rfl (op_assign (v := (Value.int .i64 (60))) rfl rfl ?_)
        refine wl_nil ?_
        refine wp_ret' ?_
        obtain rfl := Option.some.inj h16
        obtain rfl := (hout4 _ rfl)
        have h17 := h14
        obtain rfl := Option.some.inj h17
        obtain rfl := (hout3 _ rfl)
        have h15 := h
        obtain rfl := Option.some.inj h15
        exact ⟨(Value.int .i64 (60)), (res1 rfl rfl), _, [], le1, I39, rfl, rfl⟩
       ·
        refine wp_cond_f (b := !x71) rfl hc74 ?_
        refine wp_skip' ?_
        refine wp_seq' ?_
        refine wp_region' ?_
        refine wl_op rfl (op_move (v := (Value.slice z3 m3 k3)) rfl e185 ?_)
        refine wl_op rfl (op_move (v := (Value.int .i64 (x70.To))) rfl rfl ?_)
        obtain ⟨x72, hx72, h16⟩ := bnd h16
        refine wl_op rfl (op_indexAddr_rv (v := (Value.slice z3 m3 k3)) (i := x70.To) (e := x72) rfl Try.underlying26 sh3 rfl (h1_.mono le1) rfl hx72 ?_)
        refine wl_op rfl (op_load_int (v := (elemPtr (Value.slice z3 m3 k3) (x70.To) (Enc.sz Int))) (e := x72) rfl sh3 rfl ((h1_.mono le1).elem I39.in_ hx72) ?_)
        refine wl_op rfl (op_assign (v := (Value.int .i64 (x72))) rfl rfl ?_)
        refine wl_nil ?_
        refine wp_seq' ?_
        refine wp_region' ?_
        refine wl_op rfl (op_move (v := (Value.int .i64 (x72))) rfl rfl ?_)
        refine wl_op rfl (op_geq (a := x72) (b := 0) rfl rfl rfl ?_)
        refine wl_op rfl (op_move (v := (Value.bool (decide (0 ≤ x72)))) rfl rfl ?_)
        rcases ifs h16 with ⟨hc75, h16⟩ | ⟨hc75, h16⟩
        ·
         refine wl_taken (c := decide (0 ≤ x72)) rfl rfl rfl rfl hc75 (op_move (v := (Value.int .i64 (s4.1))) rfl e189 ?_)
         refine wl_taken (c := decide (0 ≤ x72)) rfl rfl rfl rfl hc75 (op_lss (a := s4.1) (b := 0) rfl rfl rfl ?_)
         refine wl_taken (c := decide (0 ≤ x72)) rfl rfl rfl rfl hc75 (op_move (v := (Value.bool (decide (s4.1 < 0)))) rfl rfl ?_)
         rcases ifs h16 with ⟨hc76, h16⟩ | ⟨hc76, h16⟩
         ·
          refine wl_skip (c := decide (s4.1 < 0)) rfl rfl rfl rfl hc76 rfl ?_
          refine wl_skip (c := decide (s4.1 < 0)) rfl rfl rfl rfl hc76 rfl ?_
          refine wl_skip (c := decide (s4.1 < 0)) rfl rfl rfl rfl hc76 rfl ?_
          refine wl_taken (c := decide (0 ≤ x72)) rfl rfl rfl rfl hc75 (op_pick_t (c := decide (s4.1 < 0)) (a := (Value.bool (true))) rfl rfl hc76 rfl ?_)
          refine wl_op rfl (op_pick_t (c := decide (0 ≤ x72)) (a := (Value.bool (true))) rfl rfl hc75 rfl ?_)
          refine wl_nil ?_
          refine wp_cond_t (b := true) rfl rfl ?_
          refine wp_region' ?_
          refine wl_op rfl (op_move (v := (Value.int .i64 (x72))) rfl rfl ?_)
          refine wl_op rfl (op_assign (v := (Value.int .i64 (x72))) rfl rfl ?_)
          refine wl_nil ?_
          refine wp_region' ?_
          refine wl_op rfl (op_move (v := (Value.int .i64 (s4.2))) rfl e190 ?_)
          refine wl_op rfl (op_add (a := s4.2) (b := 1) rfl rfl rfl ?_)
          refine wl_op rfl (op_assign (v := (Value.int .i64 (w64 (s4.2 + 1)))) rfl rfl ?_)
          refine wl_nil ?_
          obtain rfl := Option.some.inj h16
          exact ⟨_, rfl, I39, e185, e186, e187, e188, rfl, rfl⟩
         ·
          refine wl_taken (c := decide (s4.1 < 0)) rfl rfl rfl rfl hc76 (op_move (v := (Value.int .i64 (x72))) rfl rfl ?_)
          refine wl_taken (c := decide (s4.1 < 0)) rfl rfl rfl rfl hc76 (op_move (v := (Value.int .i64 (s4.1))) rfl e189 ?_)
          refine wl_taken (c := decide (s4.1 < 0)) rfl rfl rfl rfl hc76 (op_lss (a := x72) (b := s4.1) rfl rfl rfl ?_)
          refine wl_taken (c := decide (0 ≤ x72)) rfl rfl rfl rfl hc75 (op_pick_f (c := decide (s4.1 < 0)) (b := (Value.bool (decide (x72 < s4.1)))) rfl rfl hc76 rfl ?_)
          refine wl_op rfl (op_pick_t (c := decide (0 ≤ x72)) (a := (Value.bool (decide (x72 < s4.1)))) rfl rfl hc75 rfl ?_)
          refine wl_nil ?_
          rcases ifs h16 with ⟨hc77, h16⟩ | ⟨hc77, h16⟩
          ·
           refine wp_cond_t (b := decide (x72 < s4.1)) rfl hc77 ?_
           refine wp_region' ?_
           refine wl_op rfl (op_move (v := (Value.int .i64 (x72))) rfl rfl ?_)
           refine wl_op rfl (op_assign (v := (Value.int .i64 (x72))) rfl rfl ?_)
           refine wl_nil ?_
           refine wp_region' ?_
           refine wl_op rfl (op_move (v := (Value.int .i64 (s4.2))) rfl e190 ?_)
           refine wl_op rfl (op_add (a := s4.2) (b := 1) rfl rfl rfl ?_)
           refine wl_op rfl (op_assign (v := (Value.int .i64 (w64 (s4.2 + 1)))) rfl rfl ?_)
           refine wl_nil ?_
           obtain rfl := Option.some.inj h16
           exact ⟨_, rfl, I39, e185, e186, e187, e188, rfl, rfl⟩
          ·
           refine wp_cond_f (b := decide (x72 < s4.1)) rfl hc77 ?_
           refine wp_skip' ?_
           refine wp_region' ?_
           refine wl_op rfl (op_move (v := (Value.int .i64 (s4.2))) rfl e190 ?_)
           refine wl_op rfl (op_add (a := s4.2) (b := 1) rfl rfl rfl ?_)
           refine wl_op rfl (op_assign (v := (Value.int .i64 (w64 (s4.2 + 1)))) rfl rfl ?_)
           refine wl_nil ?_
           obtain rfl := Option.some.inj h16
           exact ⟨_, rfl, I39, e185, e186, e187, e188, e189, rfl⟩
        ·
         refine wl_skip (c := decide (0 ≤ x72)) rfl rfl rfl rfl hc75 rfl ?_
         refine wl_skip (c := decide (0 ≤ x72)) rfl rfl rfl rfl hc75 rfl ?_
         refine wl_skip (c := decide (0 ≤ x72)) rfl rfl rfl rfl hc75 rfl ?_
         refine wl_skip_u rfl rfl rfl rfl rfl ?_
         refine wl_skip_u rfl rfl rfl rfl rfl ?_
         refine wl_skip_u rfl rfl rfl rfl rfl ?_
         refine wl_skip (c := decide (0 ≤ x72)) rfl rfl rfl rfl hc75 rfl ?_
         refine wl_op rfl (op_pick_f (c := decide (0 ≤ x72)) (b := (Value.bool (false))) rfl rfl hc75 rfl ?_)
         refine wl_nil ?_
         refine wp_cond_f (b := false) rfl rfl ?_
         refine wp_skip' ?_
         refine wp_region' ?_
         refine wl_op rfl (op_move (v := (Value.int .i64 (s4.2))) rfl e190 ?_)
         refine wl_op rfl (op_add (a := s4.2) (b := 1) rfl rfl rfl ?_)
         refine wl_op rfl (op_assign (v := (Value.int .i64 (w64 (s4.2 + 1)))) rfl rfl ?_)
         refine wl_nil ?_
         obtain rfl := Option.some.inj h16
         exact ⟨_, rfl, I39, e185, e186, e187, e188, e189, rfl⟩
      ·
       refine wp_cond_f (b := decide (s4.2 < (x68.length : Int))) rfl hc73 ?_
       refine wp_exit' ?_
       obtain rfl := Option.some.inj h16
       obtain rfl := (hout4 _ rfl)
       exact ⟨_, rfl, I38, e185, e186, e187, e188, e189, e190⟩
     ·
      rintro f w ⟨out4, rfl, I40, e195, e196, e197, e198, e199, e200⟩
      have h14 := onL_inl h14
      refine wp_seq' ?_
      refine wp_region' ?_
      refine wl_op rfl (op_assign (v := (Value.int .i64 ((-1)))) rfl rfl ?_)
      refine wl_nil ?_
      obtain ⟨v4, h19, h14⟩ := bnd h14
      refine wp_cut (fun f w => Inv w S1 (Fr) ∧ f 1 = (Value.slice z3 m3 k3) ∧ f 2 = (Value.pointer (some ⟨g1, 0, none⟩)) ∧ f 5 = (Value.int .i64 ((a0.Positions.length : Int))) ∧ f 6 = (Value.int .i64 ((i1 : Int))) ∧ f 11 = (Value.int .i64 (v4))) ?_ ?_
      ·
       refine wp_seq' ?_
       refine wp_region' ?_
       refine wl_op rfl (op_move (v := (Value.int .i64 (out4.1))) rfl e199 ?_)
       refine wl_op rfl (op_geq (a := out4.1) (b := 0) rfl rfl rfl ?_)
       refine wl_nil ?_
       rcases ifs h19 with ⟨hc79, h19⟩ | ⟨hc79, h19⟩
       ·
        refine wp_cond_t (b := decide (0 ≤ out4.1)) rfl hc79 ?_
        refine wp_region' ?_
        refine wl_op rfl (op_move (v := (Value.int .i64 (out4.1))) rfl e199 ?_)
        refine wl_op rfl (op_add (a := out4.1) (b := 1) rfl rfl rfl ?_)
        refine wl_op rfl (op_assign (v := (Value.int .i64 (w64 (out4.1 + 1)))) rfl rfl ?_)
        refine wl_nil ?_
        obtain rfl := Option.some.inj h19
        exact ⟨I40, e195, e196, e197, e198, rfl⟩
       ·
        refine wp_cond_f (b := decide (0 ≤ out4.1)) rfl hc79 ?_
        refine wp_skip' ?_
        obtain rfl := Option.some.inj h19
        exact ⟨I40, e195, e196, e197, e198, rfl⟩
      ·
       rintro f w ⟨I41, e201, e202, e203, e204, e205⟩
       refine wp_seq' ?_
       refine wp_region' ?_
       refine wl_op rfl (op_move (v := (Value.slice z3 m3 k3)) rfl e201 ?_)
       refine wl_op rfl (op_move (v := (Value.int .i64 ((i1 : Int)))) rfl e204 ?_)
       obtain ⟨x73, hx73, h14⟩ := bnd h14
       refine wl_op rfl (op_indexAddr_rv (v := (Value.slice z3 m3 k3)) (i := (i1 : Int)) (e := x73) rfl Try.underlying26 sh3 rfl (h1_.mono le1) rfl hx73 ?_)
       refine wl_op rfl (op_load_int (v := (elemPtr (Value.slice z3 m3 k3) ((i1 : Int)) (Enc.sz Int))) (e := x73) rfl sh3 rfl ((h1_.mono le1).elem I41.in_ hx73) ?_)
       refine wl_op rfl (op_neq (a := x73) (b := 0) rfl rfl rfl ?_)
       refine wl_op rfl (op_move (v := (Value.bool (x73 != 0))) rfl rfl ?_)
       rcases ifs h14 with ⟨hc80, h14⟩ | ⟨hc80, h14⟩
       ·
        refine wl_taken (c := x73 != 0) rfl rfl rfl rfl hc80 (op_move (v := (Value.slice z3 m3 k3)) rfl e201 ?_)
        refine wl_taken (c := x73 != 0) rfl rfl rfl rfl hc80 (op_move (v := (Value.int .i64 ((i1 : Int)))) rfl e204 ?_)
        obtain ⟨x74, hx74, h14⟩ := bnd h14
        refine wl_taken (c := x73 != 0) rfl rfl rfl rfl hc80 (op_indexAddr_rv (v := (Value.slice z3 m3 k3)) (i := (i1 : Int)) (e := x74) rfl Try.underlying26 sh3 rfl (h1_.mono le1) rfl hx74 ?_)
        refine wl_taken (c := x73 != 0) rfl rfl rfl rfl hc80 (op_load_int (v := (elemPtr (Value.slice z3 m3 k3) ((i1 : Int)) (Enc.sz Int))) (e := x74) rfl sh3 rfl ((h1_.mono le1).elem I41.in_ hx74) ?_)
        refine wl_taken (c := x73 != 0) rfl rfl rfl rfl hc80 (op_move (v := (Value.int .i64 (v4))) rfl e205 ?_)
        refine wl_taken (c := x73 != 0) rfl rfl rfl rfl hc80 (op_neq (a := x74) (b := v4) rfl rfl rfl ?_)
        refine wl_op rfl (op_pick_t (c := x73 != 0) (a := (Value.bool (x74 != v4))) rfl rfl hc80 rfl ?_)
        refine wl_nil ?_
        rcases ifs h14 with ⟨hc81, h14⟩ | ⟨hc81, h14⟩
        ·
         refine wp_cond_t (b := x74 != v4) rfl hc81 ?_
         refine wp_seq' ?_
         refine wp_region' ?_
         refine wl_op rfl (op_assign (v := (Value.int .i64 (60))) rfl rfl ?_)
         refine wl_nil ?_
         refine wp_ret' ?_
         obtain rfl := Option.some.inj h14
         obtain rfl := (hout3 _ rfl)
         have h15 := h
         obtain rfl := Option.some.inj h15
         exact ⟨(Value.int .i64 (60)), (res1 rfl rfl), _, [], le1, I41, rfl, rfl⟩
        ·
         refine wp_cond_f (b := x74 != v4) rfl hc81 ?_
         refine wp_skip' ?_
         refine wp_region' ?_
         refine wl_op rfl (op_move (v := (Value.int .i64 ((i1 : Int)))) rfl e204 ?_)
         refine wl_op rfl (op_add (a := (i1 : Int)) (b := 1) rfl rfl rfl ?_)
         refine wl_op rfl (op_assign (v := (Value.int .i64 (w64 ((i1 : Int) + 1)))) rfl rfl ?_)
         refine wl_nil ?_
         obtain rfl := Option.some.inj h14
         exact ⟨_, rfl, I41, e201, e202, e203, (idx_next hlt1 hk1)⟩
       ·
        refine wl_skip (c := x73 != 0) rfl rfl rfl rfl hc80 rfl ?_
        refine wl_skip (c := x73 != 0) rfl rfl rfl rfl hc80 rfl ?_
        refine wl_skip (c := x73 != 0) rfl rfl rfl rfl hc80 rfl ?_
        refine wl_skip (c := x73 != 0) rfl rfl rfl rfl hc80 rfl ?_
        refine wl_skip (c := x73 != 0) rfl rfl rfl rfl hc80 rfl ?_
        refine wl_skip (c := x73 != 0) rfl rfl rfl rfl hc80 rfl ?_
        refine wl_op rfl (op_pick_f (c := x73 != 0) (b := (Value.bool (false))) rfl rfl hc80 rfl ?_)
        refine wl_nil ?_
        refine wp_cond_f (b := false) rfl rfl ?_
        refine wp_skip' ?_
        refine wp_region' ?_
        refine wl_op rfl (op_move (v := (Value.int .i64 ((i1 : Int)))) rfl e204 ?_)
        refine wl_op rfl (op_add (a := (i1 : Int)) (b := 1) rfl rfl rfl ?_)
        refine wl_op rfl (op_assign (v := (Value.int .i64 (w64 ((i1 : Int) + 1)))) rfl rfl ?_)
        refine wl_nil ?_
        obtain rfl := Option.some.inj h14
        exact ⟨_, rfl, I41, e201, e202, e203, (idx_next hlt1 hk1)⟩
   ·
    rintro s5 f w hs1 hI5
    obtain ⟨I42, e206, e207, e208, e209⟩ := hI5
    refine wp_seq' ?_
    refine wp_seq' ?_
    refine wp_region' ?_
    refine wl_op rfl (op_move (v := (Value.int .i64 ((a0.Positions.length : Int)))) rfl e209 ?_)
    refine wl_op rfl (op_move (v := (Value.int .i64 ((a0.Positions.length : Int)))) rfl e208 ?_)
    refine wl_op rfl (op_lss (a := (a0.Positions.length : Int)) (b := (a0.Positions.length : Int)) rfl rfl rfl ?_)
    refine wl_nil ?_
    refine wp_cond_f (b := decide ((a0.Positions.length : Int) < (a0.Positions.length : Int))) rfl (len_f _) ?_
    refine wp_exit' ?_
    exact ⟨s5, hs1, I42, e206, e207, e208⟩
  ·
   rintro f w ⟨out3, rfl, I43, e210, e211, e212⟩
   have h := onL_inl h
   refine wp_seq' ?_
   refine wp_region' ?_
   refine wl_op rfl (op_assign (v := (Value.int .i64 (0))) rfl rfl ?_)
   refine wl_nil ?_
   refine wp_ret' ?_
   obtain rfl := Option.some.inj h
   exact ⟨(Value.int .i64 (0)), (res1 rfl rfl), _, [], le1, I43, rfl, rfl⟩
end Go.Proofs.Ytogfongmnkmegaa.Pad
