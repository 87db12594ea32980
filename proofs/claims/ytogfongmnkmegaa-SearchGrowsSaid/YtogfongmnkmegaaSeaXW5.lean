/- A part of the proof: what the functions of the program compute, shown over the model. -/
import Derived.Test.YtogfongmnkmegaaSeaXP
import Derived.KernelRfl
set_option linter.unusedVariables false
namespace Go.Proofs.Ytogfongmnkmegaa.Pad
open Go Go.Proofs
set_option maxHeartbeats 4000000 in
set_option maxRecDepth 100000 in
theorem F15_ok {w : World} {S : PH} {Fr : List HP} {a0 : Graph} {v0 : Value} {r : Bool} (hI : Inv w S (Fr)) (h0_ : RV S v0 a0) (h : F15 a0 = some r) :
    Calls Try.prog 15 [v0].toArray w (DoneV S Fr (Value.bool (r))) := by
 unfold F15 at h
 obtain ⟨c1, c2, e1, r1, r2⟩ := Graph.inv h0_
 subst e1
 obtain ⟨z1, m1, k1, e2⟩ := rv_form r1
 subst e2
 obtain ⟨z2, m2, k2, e3⟩ := rv_form r2
 subst e3
 refine calls_enter (n := 44) (vs := [(Value.agg #[(Value.slice z1 m1 k1), (Value.slice z2 m2 k2)])]) Try.func15 rfl rfl rfl ?_
 refine wp_seq' ?_
 refine wp_region' ?_
 refine wl_op rfl (op_box (v := (Value.agg #[(Value.slice z1 m1 k1), (Value.slice z2 m2 k2)])) rfl hI rfl (fun g1 w1 I1 => ?_))
 obtain ⟨S1, le1, I2, p1⟩ := Inv.boxFreeze (x := a0) I1 (Graph.rv (s := a0) r1 r2)
 refine wl_op rfl (op_assign (v := (Value.bool (false))) rfl rfl ?_)
 refine wl_nil ?_
 refine wp_seq' ?_
 refine wp_region' ?_
 refine wl_op rfl (op_assign (v := (Value.int .i64 (0))) rfl rfl ?_)
 refine wl_nil ?_
 refine wp_seq' ?_
 refine wp_seq' ?_
 refine wp_region' ?_
 refine wl_op rfl (op_assign (v := (Value.int .i64 (0))) rfl rfl ?_)
 refine wl_nil ?_
 obtain ⟨out1, hrun1, h⟩ := bnd h
 refine wp_cutN (fun f w => Inv w S1 (Fr) ∧ f 1 = (Value.pointer (some ⟨g1, 0, none⟩)) ∧ f 3 = (Value.int .i64 (out1.1)) ∧ f 4 = (Value.int .i64 (out1.2))) ?_ ?_
 ·
  refine wp_block' ?_
  refine wp_whileO (I := fun (s1 : (Int × Int)) (f : Frm) (w : World) => Inv w S1 (Fr) ∧ f 1 = (Value.pointer (some ⟨g1, 0, none⟩)) ∧ f 3 = (Value.int .i64 (s1.1)) ∧ f 4 = (Value.int .i64 (s1.2))) hrun1 ⟨I2, rfl, rfl, rfl⟩ ?_
  rintro s1 f w o1 hI1 h19 hout1
  obtain ⟨I15, e64, e65, e66⟩ := hI1
  obtain ⟨ov7, h22, h19⟩ := bnd h19
  refine wp_cut (fun f w => ∃ v7, ov7 = Sum.inl v7 ∧ Inv w S1 (Fr) ∧ f 1 = (Value.pointer (some ⟨g1, 0, none⟩)) ∧ f 3 = (Value.int .i64 (s1.1)) ∧ f 4 = (Value.int .i64 (s1.2))) ?_ ?_
  ·
   refine wp_seq' ?_
   refine wp_region' ?_
   refine wl_op rfl (op_move (v := (Value.int .i64 (s1.2))) rfl e66 ?_)
   refine wl_op rfl (op_fieldAddr_t (v := (Value.pointer (some ⟨g1, 0, none⟩))) rfl fa25_1 e64 (p1.at_ I15) ?_)
   refine wl_op rfl (op_load (v := (fieldPtr (Value.pointer (some ⟨g1, 0, none⟩)) 1)) (e := a0.Edges) rfl sh23 rfl ((p1.at_ I15).fld Graph.fld1) (fun u26 hu26 => ?_))
   obtain ⟨z28, m28, k28, e68⟩ := rv_form hu26
   subst e68
   refine wl_op rfl (op_len_rv rfl Try.underlying23 rfl hu26 ?_)
   refine wl_op rfl (op_lss (a := s1.2) (b := (a0.Edges.length : Int)) rfl rfl rfl ?_)
   refine wl_op rfl (op_move (v := (Value.bool (decide (s1.2 < (a0.Edges.length : Int))))) rfl rfl ?_)
   rcases ifs h22 with ⟨hc27, h22⟩ | ⟨hc27, h22⟩
   ·
    refine wl_taken (c := decide (s1.2 < (a0.Edges.length : Int))) rfl rfl rfl rfl hc27 (op_move (v := (Value.int .i64 (s1.2))) rfl e66 ?_)
    refine wl_taken (c := decide (s1.2 < (a0.Edges.length : Int))) rfl rfl rfl rfl hc27 (op_lss (a := s1.2) (b := 400) rfl rfl rfl ?_)
    refine wl_op rfl (op_pick_t (c := decide (s1.2 < (a0.Edges.length : Int))) (a := (Value.bool (decide (s1.2 < 400)))) rfl rfl hc27 rfl ?_)
    refine wl_nil ?_
    rcases ifs h22 with ⟨hc28, h22⟩ | ⟨hc28, h22⟩
    ·
     refine wp_cond_t (b := decide (s1.2 < 400)) rfl hc28 ?_
     refine wp_skip' ?_
     obtain rfl := Option.some.inj h22
     exact ⟨_, rfl, I15, e64, e65, e66⟩
    ·
     refine wp_cond_f (b := decide (s1.2 < 400)) rfl hc28 ?_
     refine wp_exit' ?_
     obtain rfl := Option.some.inj h22
     have h23 := h19
     obtain rfl := Option.some.inj h23
     obtain rfl := (hout1 _ rfl)
     exact ⟨I15, e64, e65, e66⟩
   ·
    refine wl_skip (c := decide (s1.2 < (a0.Edges.length : Int))) rfl rfl rfl rfl hc27 rfl ?_
    refine wl_skip (c := decide (s1.2 < (a0.Edges.length : Int))) rfl rfl rfl rfl hc27 rfl ?_
    refine wl_op rfl (op_pick_f (c := decide (s1.2 < (a0.Edges.length : Int))) (b := (Value.bool (false))) rfl rfl hc27 rfl ?_)
    refine wl_nil ?_
    refine wp_cond_f (b := false) rfl rfl ?_
    refine wp_exit' ?_
    obtain rfl := Option.some.inj h22
    have h23 := h19
    obtain rfl := Option.some.inj h23
    obtain rfl := (hout1 _ rfl)
    exact ⟨I15, e64, e65, e66⟩
  ·
   rintro f w ⟨v7, rfl, I16, e69, e70, e71⟩
   have h19 := onL_inl h19
   refine wp_seq' ?_
   refine wp_block' ?_
   refine wp_region' ?_
   refine wl_op rfl (op_move (v := (Value.int .i64 (s1.1))) rfl e70 ?_)
   refine wl_op rfl (op_fieldAddr_t (v := (Value.pointer (some ⟨g1, 0, none⟩))) rfl fa25_1 e69 (p1.at_ I16) ?_)
   refine wl_op rfl (op_load (v := (fieldPtr (Value.pointer (some ⟨g1, 0, none⟩)) 1)) (e := a0.Edges) rfl sh23 rfl ((p1.at_ I16).fld Graph.fld1) (fun u27 hu27 => ?_))
   obtain ⟨z29, m29, k29, e72⟩ := rv_form hu27
   subst e72
   refine wl_op rfl (op_move (v := (Value.int .i64 (s1.2))) rfl e71 ?_)
   obtain ⟨x7, hx7, h19⟩ := bnd h19
   refine wl_op rfl (op_indexAddr_rv (v := (Value.slice z29 m29 k29)) (i := s1.2) (e := x7) rfl Try.underlying23 sh40 rfl hu27 rfl hx7 ?_)
   refine wl_op rfl (op_load (v := (elemPtr (Value.slice z29 m29 k29) (s1.2) (Enc.sz (List Edge)))) (e := x7) rfl sh40 rfl (hu27.elem I16.in_ hx7) (fun u28 hu28 => ?_))
   obtain ⟨z30, m30, k30, e73⟩ := rv_form hu28
   subst e73
   refine wl_op rfl (op_len_rv rfl Try.underlying40 rfl hu28 ?_)
   refine wl_op rfl (op_add (a := s1.1) (b := (x7.length : Int)) rfl rfl rfl ?_)
   refine wl_op rfl (op_assign (v := (Value.int .i64 (w64 (s1.1 + (x7.length : Int))))) rfl rfl ?_)
   refine wl_nil ?_
   refine wp_region' ?_
   refine wl_op rfl (op_move (v := (Value.int .i64 (s1.2))) rfl e71 ?_)
   refine wl_op rfl (op_add (a := s1.2) (b := 1) rfl rfl rfl ?_)
   refine wl_op rfl (op_assign (v := (Value.int .i64 (w64 (s1.2 + 1)))) rfl rfl ?_)
   refine wl_nil ?_
   obtain rfl := Option.some.inj h19
   exact ⟨_, rfl, I16, e69, rfl, rfl⟩
 ·
  rintro f w ⟨I17, e74, e75, e76⟩
  refine wp_seq' ?_
  refine wp_region' ?_
  refine wl_op rfl (op_fieldAddr_t (v := (Value.pointer (some ⟨g1, 0, none⟩))) rfl fa25_0 e74 (p1.at_ I17) ?_)
  refine wl_op rfl (op_load (v := (fieldPtr (Value.pointer (some ⟨g1, 0, none⟩)) 0)) (e := a0.Positions) rfl sh22 rfl ((p1.at_ I17).fld Graph.fld0) (fun u29 hu29 => ?_))
  obtain ⟨z31, m31, k31, e77⟩ := rv_form hu29
  subst e77
  refine wl_op rfl (op_len_rv rfl Try.underlying22 rfl hu29 ?_)
  refine wl_op rfl (op_gtr (a := (a0.Positions.length : Int)) (b := 20) rfl rfl rfl ?_)
  refine wl_op rfl (op_move (v := (Value.bool (decide (20 < (a0.Positions.length : Int))))) rfl rfl ?_)
  rcases ifs h with ⟨hc29, h⟩ | ⟨hc29, h⟩
  ·
   refine wl_taken (c := decide (20 < (a0.Positions.length : Int))) rfl rfl rfl rfl hc29 (op_fieldAddr_t (v := (Value.pointer (some ⟨g1, 0, none⟩))) rfl fa25_0 e74 (p1.at_ I17) ?_)
   refine wl_taken (c := decide (20 < (a0.Positions.length : Int))) rfl rfl rfl rfl hc29 (op_load (v := (fieldPtr (Value.pointer (some ⟨g1, 0, none⟩)) 0)) (e := a0.Positions) rfl sh22 rfl ((p1.at_ I17).fld Graph.fld0) (fun u30 hu30 => ?_))
   obtain ⟨z32, m32, k32, e78⟩ := rv_form hu30
   subst e78
   refine wl_taken (c := decide (20 < (a0.Positions.length : Int))) rfl rfl rfl rfl hc29 (op_len_rv rfl Try.underlying22 rfl hu30 ?_)
   refine wl_taken (c := decide (20 < (a0.Positions.length : Int))) rfl rfl rfl rfl hc29 (op_leq (a := (a0.Positions.length : Int)) (b := 300) rfl rfl rfl ?_)
   refine wl_op rfl (op_pick_t (c := decide (20 < (a0.Positions.length : Int))) (a := (Value.bool (decide ((a0.Positions.length : Int) ≤ 300)))) rfl rfl hc29 rfl ?_)
   refine wl_op rfl (op_move (v := (Value.bool (decide ((a0.Positions.length : Int) ≤ 300)))) rfl rfl ?_)
   rcases ifs h with ⟨hc30, h⟩ | ⟨hc30, h⟩
   ·
    refine wl_skip (c := decide ((a0.Positions.length : Int) ≤ 300)) rfl rfl rfl rfl hc30 rfl ?_
    refine wl_skip (c := decide ((a0.Positions.length : Int) ≤ 300)) rfl rfl rfl rfl hc30 rfl ?_
    refine wl_op rfl (op_pick_t (c := decide ((a0.Positions.length : Int) ≤ 300)) (a := (Value.bool (true))) rfl rfl hc30 rfl ?_)
    refine wl_op rfl (op_move (v := (Value.bool (true))) rfl rfl ?_)
    refine wl_skip (c := true) rfl rfl rfl rfl rfl rfl ?_
    refine wl_skip (c := true) rfl rfl rfl rfl rfl rfl ?_
    refine wl_skip (c := true) rfl rfl rfl rfl rfl rfl ?_
    refine wl_skip (c := true) rfl rfl rfl rfl rfl rfl ?_
    refine wl_op rfl (op_pick_t (c := true) (a := (Value.bool (true))) rfl rfl rfl rfl ?_)
    refine wl_op rfl (op_assign (v := (Value.bool (true))) rfl rfl ?_)
    refine wl_nil ?_
    refine wp_ret' ?_
    obtain rfl := Option.some.inj h
    exact ⟨(Value.bool (true)), (res1 rfl rfl), _, [], le1, I17, rfl, rfl⟩
   ·
    refine wl_taken (c := decide ((a0.Positions.length : Int) ≤ 300)) rfl rfl rfl rfl hc30 (op_move (v := (Value.int .i64 (out1.1))) rfl e75 ?_)
    refine wl_taken (c := decide ((a0.Positions.length : Int) ≤ 300)) rfl rfl rfl rfl hc30 (op_gtr (a := out1.1) (b := 40) rfl rfl rfl ?_)
    refine wl_op rfl (op_pick_f (c := decide ((a0.Positions.length : Int) ≤ 300)) (b := (Value.bool (decide (40 < out1.1)))) rfl rfl hc30 rfl ?_)
    refine wl_op rfl (op_move (v := (Value.bool (decide (40 < out1.1)))) rfl rfl ?_)
    rcases ifs h with ⟨hc31, h⟩ | ⟨hc31, h⟩
    ·
     refine wl_skip (c := decide (40 < out1.1)) rfl rfl rfl rfl hc31 rfl ?_
     refine wl_skip (c := decide (40 < out1.1)) rfl rfl rfl rfl hc31 rfl ?_
     refine wl_skip (c := decide (40 < out1.1)) rfl rfl rfl rfl hc31 rfl ?_
     refine wl_skip (c := decide (40 < out1.1)) rfl rfl rfl rfl hc31 rfl ?_
     refine wl_op rfl (op_pick_t (c := decide (40 < out1.1)) (a := (Value.bool (true))) rfl rfl hc31 rfl ?_)
     refine wl_op rfl (op_assign (v := (Value.bool (true))) rfl rfl ?_)
     refine wl_nil ?_
     refine wp_ret' ?_
     obtain rfl := Option.some.inj h
     exact ⟨(Value.bool (true)), (res1 rfl rfl), _, [], le1, I17, rfl, rfl⟩
    ·
     refine wl_taken (c := decide (40 < out1.1)) rfl rfl rfl rfl hc31 (op_fieldAddr_t (v := (Value.pointer (some ⟨g1, 0, none⟩))) rfl fa25_1 e74 (p1.at_ I17) ?_)
     refine wl_taken (c := decide (40 < out1.1)) rfl rfl rfl rfl hc31 (op_load (v := (fieldPtr (Value.pointer (some ⟨g1, 0, none⟩)) 1)) (e := a0.Edges) rfl sh23 rfl ((p1.at_ I17).fld Graph.fld1) (fun u31 hu31 => ?_))
     obtain ⟨z33, m33, k33, e79⟩ := rv_form hu31
     subst e79
     refine wl_taken (c := decide (40 < out1.1)) rfl rfl rfl rfl hc31 (op_len_rv rfl Try.underlying23 rfl hu31 ?_)
     refine wl_taken (c := decide (40 < out1.1)) rfl rfl rfl rfl hc31 (op_gtr (a := (a0.Edges.length : Int)) (b := 400) rfl rfl rfl ?_)
     refine wl_op rfl (op_pick_f (c := decide (40 < out1.1)) (b := (Value.bool (decide (400 < (a0.Edges.length : Int))))) rfl rfl hc31 rfl ?_)
     refine wl_op rfl (op_assign (v := (Value.bool (decide (400 < (a0.Edges.length : Int))))) rfl rfl ?_)
     refine wl_nil ?_
     refine wp_ret' ?_
     obtain rfl := Option.some.inj h
     exact ⟨(Value.bool (decide (400 < (a0.Edges.length : Int)))), (res1 rfl rfl), _, [], le1, I17, rfl, rfl⟩
  ·
   refine wl_skip (c := decide (20 < (a0.Positions.length : Int))) rfl rfl rfl rfl hc29 rfl ?_
   refine wl_skip (c := decide (20 < (a0.Positions.length : Int))) rfl rfl rfl rfl hc29 rfl ?_
   refine wl_skip (c := decide (20 < (a0.Positions.length : Int))) rfl rfl rfl rfl hc29 rfl ?_
   refine wl_skip (c := decide (20 < (a0.Positions.length : Int))) rfl rfl rfl rfl hc29 rfl ?_
   refine wl_op rfl (op_pick_f (c := decide (20 < (a0.Positions.length : Int))) (b := (Value.bool (false))) rfl rfl hc29 rfl ?_)
   refine wl_op rfl (op_move (v := (Value.bool (false))) rfl rfl ?_)
   refine wl_taken (c := false) rfl rfl rfl rfl rfl (op_move (v := (Value.int .i64 (out1.1))) rfl e75 ?_)
   refine wl_taken (c := false) rfl rfl rfl rfl rfl (op_gtr (a := out1.1) (b := 40) rfl rfl rfl ?_)
   refine wl_op rfl (op_pick_f (c := false) (b := (Value.bool (decide (40 < out1.1)))) rfl rfl rfl rfl ?_)
   refine wl_op rfl (op_move (v := (Value.bool (decide (40 < out1.1)))) rfl rfl ?_)
   rcases ifs h with ⟨hc32, h⟩ | ⟨hc32, h⟩
   ·
    refine wl_skip (c := decide (40 < out1.1)) rfl rfl rfl rfl hc32 rfl ?_
    refine wl_skip (c := decide (40 < out1.1)) rfl rfl rfl rfl hc32 rfl ?_
    refine wl_skip (c := decide (40 < out1.1)) rfl rfl rfl rfl hc32 rfl ?_
    refine wl_skip (c := decide (40 < out1.1)) rfl rfl rfl rfl hc32 rfl ?_
    refine wl_op rfl (op_pick_t (c := decide (40 < out1.1)) (a := (Value.bool (true))) rfl rfl hc32 rfl ?_)
    refine wl_op rfl (op_assign (v := (Value.bool (true))) rfl rfl ?_)
    refine wl_nil ?_
    refine wp_ret' ?_
    obtain rfl := Option.some.inj h
    exact ⟨(Value.bool (true)), (res1 rfl rfl), _, [], le1, I17, rfl, rfl⟩
   ·
    refine wl_taken (c := decide (40 < out1.1)) rfl rfl rfl rfl hc32 (op_fieldAddr_t (v := (Value.pointer (some ⟨g1, 0, none⟩))) rfl fa25_1 e74 (p1.at_ I17) ?_)
    refine wl_taken (c := decide (40 < out1.1)) rfl rfl rfl rfl hc32 (op_load (v := (fieldPtr (Value.pointer (some ⟨g1, 0, none⟩)) 1)) (e := a0.Edges) rfl sh23 rfl ((p1.at_ I17).fld Graph.fld1) (fun u32 hu32 => ?_))
    obtain ⟨z34, m34, k34, e80⟩ := rv_form hu32
    subst e80
    refine wl_taken (c := decide (40 < out1.1)) rfl rfl rfl rfl hc32 (op_len_rv rfl Try.underlying23 rfl hu32 ?_)
    refine wl_taken (c := decide (40 < out1.1)) rfl rfl rfl rfl hc32 (op_gtr (a := (a0.Edges.length : Int)) (b := 400) rfl rfl rfl ?_)
    refine wl_op rfl (op_pick_f (c := decide (40 < out1.1)) (b := (Value.bool (decide (400 < (a0.Edges.length : Int))))) rfl rfl hc32 rfl ?_)
    refine wl_op rfl (op_assign (v := (Value.bool (decide (400 < (a0.Edges.length : Int))))) rfl rfl ?_)
    refine wl_nil ?_
    refine wp_ret' ?_
    obtain rfl := Option.some.inj h
    exact ⟨(Value.bool (decide (400 < (a0.Edges.length : Int)))), (res1 rfl rfl), _, [], le1, I17, rfl, rfl⟩
end Go.Proofs.Ytogfongmnkmegaa.Pad
