/- A part of the proof: what the functions of the program compute, shown over the model. -/
import Derived.Test.YtogfongmnkmegaaSeaXP
import Derived.Test.YtogfongmnkmegaaSeaXW3
import Derived.Test.YtogfongmnkmegaaSeaXW4
import Derived.Test.YtogfongmnkmegaaSeaXW5
import Derived.Test.YtogfongmnkmegaaSeaXW14
import Derived.Test.YtogfongmnkmegaaSeaXW27
import Derived.KernelRfl
set_option linter.unusedVariables false
namespace Go.Proofs.Ytogfongmnkmegaa.Pad
open Go Go.Proofs
set_option maxHeartbeats 4000000 in
set_option maxRecDepth 100000 in
theorem F43_ok {w : World} {S : PH} {Fr : List HP} {a0 : Graph} {v0 : Value} {a1 : (List Int)} {v1 : Value} {r : Int × Int × Int} (hI : Inv w S (Fr)) (h0_ : RV S v0 a0) (h1_ : RV S v1 a1) (h : F43 a0 a1 = some r) :
    Calls Try.prog 43 [v0, v1].toArray w (DoneV S Fr (Value.tuple #[(Value.int .i64 (r.1)), (Value.int .i64 (r.2.1)), (Value.int .i64 (r.2.2))])) := by
 unfold F43 at h
 obtain ⟨c1, c2, e1, r1, r2⟩ := Graph.inv h0_
 subst e1
 obtain ⟨z1, m1, k1, e2⟩ := rv_form r1
 subst e2
 obtain ⟨z2, m2, k2, e3⟩ := rv_form r2
 subst e3
 obtain ⟨z3, m3, k3, e4⟩ := rv_form h1_
 subst e4
 refine calls_enter (n := 86) (vs := [(Value.agg #[(Value.slice z1 m1 k1), (Value.slice z2 m2 k2)]), (Value.slice z3 m3 k3)]) Try.func43 rfl rfl rfl ?_
 refine wp_seq' ?_
 refine wp_region' ?_
 refine wl_op rfl (op_box (v := (Value.agg #[(Value.slice z1 m1 k1), (Value.slice z2 m2 k2)])) rfl hI rfl (fun g1 w1 I1 => ?_))
 obtain ⟨S1, le1, I2, p1⟩ := Inv.boxFreeze (x := a0) I1 (Graph.rv (s := a0) r1 r2)
 refine wl_op rfl (op_assign (v := (Value.int .i64 (0))) rfl rfl ?_)
 refine wl_op rfl (op_assign (v := (Value.int .i64 (0))) rfl rfl ?_)
 refine wl_op rfl (op_assign (v := (Value.int .i64 (0))) rfl rfl ?_)
 refine wl_nil ?_
 refine wp_seq' ?_
 refine wp_seq' ?_
 refine wp_region' ?_
 refine wl_op rfl (op_load (v := (Value.pointer (some ⟨g1, 0, none⟩))) (e := a0) rfl sh25 rfl (p1.at_ I2) (fun u1 hu1 => ?_))
 obtain ⟨c3, c4, e5, r3, r4⟩ := Graph.inv hu1
 subst e5
 obtain ⟨z4, m4, k4, e6⟩ := rv_form r3
 subst e6
 obtain ⟨z5, m5, k5, e7⟩ := rv_form r4
 subst e7
 refine wl_op rfl (op_move (v := (Value.slice z3 m3 k3)) rfl rfl ?_)
 obtain ⟨x1, hx1, h⟩ := bnd h
 refine wl_op rfl (op_call_v (vs := [(Value.agg #[(Value.slice z4 m4 k4), (Value.slice z5 m5 k5)]), (Value.slice z3 m3 k3)]) (r := (Value.int .i64 (x1))) rfl ca21 rfl (args2 rfl rfl) I2 (fun Fr_ hF_ => F21_ok hF_ (Graph.rv (s := a0) r3 r4) (h1_.mono le1) hx1) (fun w2 I3 => ?_))
 refine wl_op rfl (op_assign (v := (Value.int .i64 (x1))) rfl rfl ?_)
 refine wl_nil ?_
 refine wp_seq' ?_
 refine wp_region' ?_
 refine wl_op rfl (op_move (v := (Value.int .i64 (x1))) rfl rfl ?_)
 refine wl_op rfl (op_neq (a := x1) (b := 0) rfl rfl rfl ?_)
 refine wl_nil ?_
 rcases ifs h with ⟨hc1, h⟩ | ⟨hc1, h⟩
 ·
  refine wp_cond_t (b := x1 != 0) rfl hc1 ?_
  refine wp_seq' ?_
  refine wp_region' ?_
  refine wl_op rfl (op_move (v := (Value.int .i64 (x1))) rfl rfl ?_)
  refine wl_op rfl (op_assign (v := (Value.int .i64 (0))) rfl rfl ?_)
  refine wl_op rfl (op_assign (v := (Value.int .i64 (0))) rfl rfl ?_)
  refine wl_op rfl (op_assign (v := (Value.int .i64 (x1))) rfl rfl ?_)
  refine wl_nil ?_
  refine wp_ret' ?_
  obtain rfl := Option.some.inj h
  exact ⟨(Value.tuple #[(Value.int .i64 (0)), (Value.int .i64 (0)), (Value.int .i64 (x1))]), (res3 rfl rfl rfl rfl), _, [], le1, I3, rfl, rfl⟩
 ·
  refine wp_cond_f (b := x1 != 0) rfl hc1 ?_
  refine wp_skip' ?_
  refine wp_seq' ?_
  refine wp_region' ?_
  refine wl_op rfl (op_load (v := (Value.pointer (some ⟨g1, 0, none⟩))) (e := a0) rfl sh25 rfl (p1.at_ I3) (fun u2 hu2 => ?_))
  obtain ⟨c5, c6, e8, r5, r6⟩ := Graph.inv hu2
  subst e8
  obtain ⟨z6, m6, k6, e9⟩ := rv_form r5
  subst e9
  obtain ⟨z7, m7, k7, e10⟩ := rv_form r6
  subst e10
  obtain ⟨x2, hx2, h⟩ := bnd h
  refine wl_op rfl (op_call (vs := [(Value.agg #[(Value.slice z6 m6 k6), (Value.slice z7 m7 k7)])]) rfl ca67 rfl (args1 rfl) (F67_ok I3 (Graph.rv (s := a0) r5 r6) hx2) (fun v1 w3 S2 O1 le2 I4 hv1 => ?_))
  obtain ⟨z8, m8, k8, rfl, rfl⟩ := hv1
  refine wl_op rfl (op_assign (v := (Value.slice z8 m8 k8)) rfl rfl ?_)
  refine wl_nil ?_
  refine wp_seq' ?_
  refine wp_region' ?_
  refine wl_op rfl (op_assign (v := (Value.int .i64 ((-1)))) rfl rfl ?_)
  refine wl_op rfl (op_assign (v := (Value.int .i64 ((-1)))) rfl rfl ?_)
  refine wl_op rfl (op_assign (v := (Value.int .i64 (0))) rfl rfl ?_)
  refine wl_nil ?_
  refine wp_seq' ?_
  refine wp_seq' ?_
  refine wp_region' ?_
  refine wl_op rfl (op_assign (v := (Value.int .i64 (0))) rfl rfl ?_)
  refine wl_nil ?_
  have hk1 : a1.length ≤ 9223372036854775807 := (rv_len h1_)
  obtain ⟨out4, hrun4, h⟩ := bnd h
  refine wp_cutN (fun f w => Inv w S2 (Row (α := Bool) 4 (Value.slice z8 m8 k8) (x2) :: Fr) ∧ f 1 = (Value.slice z3 m3 k3) ∧ f 2 = (Value.pointer (some ⟨g1, 0, none⟩)) ∧ f 8 = (Value.slice z8 m8 k8) ∧ f 9 = (Value.int .i64 (out4.1)) ∧ f 10 = (Value.int .i64 (out4.2.1)) ∧ f 11 = (Value.int .i64 (out4.2.2))) ?_ ?_
  ·
   refine wp_block' ?_
   refine wp_forS (I := fun (i1 : Nat) (s4 : (Int × Int × Int)) (f : Frm) (w : World) => Inv w S2 (Row (α := Bool) 4 (Value.slice z8 m8 k8) (x2) :: Fr) ∧ f 1 = (Value.slice z3 m3 k3) ∧ f 2 = (Value.pointer (some ⟨g1, 0, none⟩)) ∧ f 8 = (Value.slice z8 m8 k8) ∧ f 9 = (Value.int .i64 (s4.1)) ∧ f 10 = (Value.int .i64 (s4.2.1)) ∧ f 11 = (Value.int .i64 (s4.2.2)) ∧ f 12 = (Value.int .i64 (i1 : Int))) hrun4 ⟨I4, rfl, rfl, rfl, rfl, rfl, rfl, rfl⟩ ?_ ?_
   ·
    rintro i1 s4 f w o4 hlt1 hI4 h196
    obtain ⟨I95, e917, e918, e919, e920, e921, e922, e923⟩ := hI4
    refine wp_seq' ?_
    refine wp_seq' ?_
    refine wp_region' ?_
    refine wl_op rfl (op_move (v := (Value.int .i64 ((i1 : Int)))) rfl e923 ?_)
    refine wl_op rfl (op_move (v := (Value.slice z3 m3 k3)) rfl e917 ?_)
    refine wl_op rfl (op_len_rv rfl Try.underlying26 rfl (h1_.mono (le1.trans le2)) ?_)
    refine wl_op rfl (op_lss (a := (i1 : Int)) (b := (a1.length : Int)) rfl rfl rfl ?_)
    refine wl_nil ?_
    refine wp_cond_t (b := decide ((i1 : Int) < (a1.length : Int))) rfl (len_t hlt1) ?_
    refine wp_skip' ?_
    refine wp_seq' ?_
    refine wp_block' ?_
    refine wp_seq' ?_
    refine wp_region' ?_
    refine wl_op rfl (op_assign (v := (Value.int .i64 (0))) rfl rfl ?_)
    refine wl_nil ?_
    obtain ⟨out5, hrun5, h196⟩ := bnd h196
    refine wp_cutN (fun f w => Inv w S2 (Row (α := Bool) 4 (Value.slice z8 m8 k8) (x2) :: Fr) ∧ f 1 = (Value.slice z3 m3 k3) ∧ f 2 = (Value.pointer (some ⟨g1, 0, none⟩)) ∧ f 8 = (Value.slice z8 m8 k8) ∧ f 9 = (Value.int .i64 (out5.1)) ∧ f 10 = (Value.int .i64 (out5.2.1)) ∧ f 11 = (Value.int .i64 (out5.2.2.1)) ∧ f 12 = (Value.int .i64 ((i1 : Int))) ∧ f 13 = (Value.int .i64 (out5.2.2.2))) ?_ ?_
    ·
     refine wp_block' ?_
     refine wp_whileO (I := fun (s5 : (Int × Int × Int × Int)) (f : Frm) (w : World) => Inv w S2 (Row (α := Bool) 4 (Value.slice z8 m8 k8) (x2) :: Fr) ∧ f 1 = (Value.slice z3 m3 k3) ∧ f 2 = (Value.pointer (some ⟨g1, 0, none⟩)) ∧ f 8 = (Value.slice z8 m8 k8) ∧ f 9 = (Value.int .i64 (s5.1)) ∧ f 10 = (Value.int .i64 (s5.2.1)) ∧ f 11 = (Value.int .i64 (s5.2.2.1)) ∧ f 12 = (Value.int .i64 ((i1 : Int))) ∧ f 13 = (Value.int .i64 (s5.2.2.2))) hrun5 ⟨I95, e917, e918, e919, e920, e921, e922, e923, rfl⟩ ?_
     rintro s5 f w o5 hI5 h252 hout5
     obtain ⟨I120, e1170, e1171, e1172, e1173, e1174, e1175, e1176, e1177⟩ := hI5
     obtain ⟨ov83, h255, h252⟩ := bnd h252
     refine wp_cut (fun f w => ∃ v83, ov83 = Sum.inl v83 ∧ Inv w S2 (Row (α := Bool) 4 (Value.slice z8 m8 k8) (x2) :: Fr) ∧ f 1 = (Value.slice z3 m3 k3) ∧ f 2 = (Value.pointer (some ⟨g1, 0, none⟩)) ∧ f 8 = (Value.slice z8 m8 k8) ∧ f 9 = (Value.int .i64 (s5.1)) ∧ f 10 = (Value.int .i64 (s5.2.1)) ∧ f 11 = (Value.int .i64 (s5.2.2.1)) ∧ f 12 = (Value.int .i64 ((i1 : Int))) ∧ f 13 = (Value.int .i64 (s5.2.2.2))) ?_ ?_
     ·
      refine wp_seq' ?_
      refine wp_region' ?_
      refine wl_op rfl (op_move (v := (Value.int .i64 (s5.2.2.2))) rfl e1177 ?_)
      refine wl_op rfl (op_fieldAddr_t (v := (Value.pointer (some ⟨g1, 0, none⟩))) rfl fa25_1 e1171 ((p1.mono le2).at_ I120) ?_)
      refine wl_op rfl (op_load (v := (fieldPtr (Value.pointer (some ⟨g1, 0, none⟩)) 1)) (e := a0.Edges) rfl sh23 rfl (((p1.mono le2).at_ I120).fld Graph.fld1) (fun u167 hu167 => ?_))
      obtain ⟨z173, m173, k173, e1180⟩ := rv_form hu167
      subst e1180
      refine wl_op rfl (op_move (v := (Value.int .i64 ((i1 : Int)))) rfl e1176 ?_)
      obtain ⟨x303, hx303, h255⟩ := bnd h255
      refine wl_op rfl (op_indexAddr_rv (v := (Value.slice z173 m173 k173)) (i := (i1 : Int)) (e := x303) rfl Try.underlying23 sh40 rfl hu167 rfl hx303 ?_)
      refine wl_op rfl (op_load (v := (elemPtr (Value.slice z173 m173 k173) ((i1 : Int)) (Enc.sz (List Edge)))) (e := x303) rfl sh40 rfl (hu167.elem I120.in_ hx303) (fun u168 hu168 => ?_))
      obtain ⟨z174, m174, k174, e1181⟩ := rv_form hu168
      subst e1181
      refine wl_op rfl (op_len_rv rfl Try.underlying40 rfl hu168 ?_)
      refine wl_op rfl (op_lss (a := s5.2.2.2) (b := (x303.length : Int)) rfl rfl rfl ?_)
      refine wl_op rfl (op_move (v := (Value.bool (decide (s5.2.2.2 < (x303.length : Int))))) rfl rfl ?_)
      rcases ifs h255 with ⟨hc302, h255⟩ | ⟨hc302, h255⟩
      ·
       refine wl_taken (c := decide (s5.2.2.2 < (x303.length : Int))) rfl rfl rfl rfl hc302 (op_move (v := (Value.slice z8 m8 k8)) rfl e1172 ?_)
       refine wl_taken (c := decide (s5.2.2.2 < (x303.length : Int))) rfl rfl rfl rfl hc302 (op_move (v := (Value.int .i64 ((i1 : Int)))) rfl e1176 ?_)
       obtain ⟨x304, hx304, h255⟩ := bnd h255
       refine wl_taken (c := decide (s5.2.2.2 < (x303.length : Int))) rfl rfl rfl rfl hc302 (op_indexAddr_src (v := (Value.slice z8 m8 k8)) (i := (i1 : Int)) (e := x304) rfl Try.underlying72 sh4 rfl (Inv.rowSrc (I120.nth 0 rfl)) rfl hx304 ?_)
       refine wl_taken (c := decide (s5.2.2.2 < (x303.length : Int))) rfl rfl rfl rfl hc302 (op_load_bool (v := (elemPtr (Value.slice z8 m8 k8) ((i1 : Int)) (Enc.sz Bool))) (e := x304) rfl sh4 rfl ((I120.nth 0 rfl).rowElem hx304) ?_)
       refine wl_op rfl (op_pick_t (c := decide (s5.2.2.2 < (x303.length : Int))) (a := (Value.bool (x304))) rfl rfl hc302 rfl ?_)
       refine wl_op rfl (op_move (v := (Value.bool (x304))) rfl rfl ?_)
       rcases ifs h255 with ⟨hc303, h255⟩ | ⟨hc303, h255⟩
       ·
        refine wl_taken (c := x304) rfl rfl rfl rfl hc303 (op_move (v := (Value.slice z3 m3 k3)) rfl e1170 ?_)
        refine wl_taken (c := x304) rfl rfl rfl rfl hc303 (op_move (v := (Value.int .i64 ((i1 : Int)))) rfl e1176 ?_)
        obtain ⟨x305, hx305, h255⟩ := bnd h255
        refine wl_taken (c := x304) rfl rfl rfl rfl hc303 (op_indexAddr_rv (v := (Value.slice z3 m3 k3)) (i := (i1 : Int)) (e := x305) rfl Try.underlying26 sh3 rfl (h1_.mono (le1.trans le2)) rfl hx305 ?_)
        refine wl_taken (c := x304) rfl rfl rfl rfl hc303 (op_load_int (v := (elemPtr (Value.slice z3 m3 k3) ((i1 : Int)) (Enc.sz Int))) (e := x305) rfl sh3 rfl ((h1_.mono (le1.trans le2)).elem I120.in_ hx305) ?_)
        refine wl_taken (c := x304) rfl rfl rfl rfl hc303 (op_gtr (a := x305) (b := 0) rfl rfl rfl ?_)
        refine wl_op rfl (op_pick_t (c := x304) (a := (Value.bool (decide (0 < x305)))) rfl rfl hc303 rfl ?_)
        refine wl_nil ?_
        rcases ifs h255 with ⟨hc304, h255⟩ | ⟨hc304, h255⟩
        ·
         refine wp_cond_t (b := decide (0 < x305)) rfl hc304 ?_
         refine wp_skip' ?_
         obtain rfl := Option.some.inj h255
         exact ⟨_, rfl, I120, e1170, e1171, e1172, e1173, e1174, e1175, e1176, e1177⟩
        ·
         refine wp_cond_f (b := decide (0 < x305)) rfl hc304 ?_
         refine wp_exit' ?_
         obtain rfl := Option.some.inj h255
         have h256 := h252
         obtain rfl := Option.some.inj h256
         obtain rfl := (hout5 _ rfl)
         exact ⟨I120, e1170, e1171, e1172, e1173, e1174, e1175, e1176, e1177⟩
       ·
        refine wl_skip (c := x304) rfl rfl rfl rfl hc303 rfl ?_
        refine wl_skip (c := x304) rfl rfl rfl rfl hc303 rfl ?_
        refine wl_skip (c := x304) rfl rfl rfl rfl hc303 rfl ?_
        refine wl_skip (c := x304) rfl rfl rfl rfl hc303 rfl ?_
        refine wl_skip (c := x304) rfl rfl rfl rfl hc303 rfl ?_
        refine wl_op rfl (op_pick_f (c := x304) (b := (Value.bool (false))) rfl rfl hc303 rfl ?_)
        refine wl_nil ?_
        refine wp_cond_f (b := false) rfl rfl ?_
        refine wp_exit' ?_
        obtain rfl := Option.some.inj h255
        have h256 := h252
        obtain rfl := Option.some.inj h256
        obtain rfl := (hout5 _ rfl)
        exact ⟨I120, e1170, e1171, e1172, e1173, e1174, e1175, e1176, e1177⟩
      ·
       refine wl_skip (c := decide (s5.2.2.2 < (x303.length : Int))) rfl rfl rfl rfl hc302 rfl ?_
       refine wl_skip (c := decide (s5.2.2.2 < (x303.length : Int))) rfl rfl rfl rfl hc302 rfl ?_
       refine wl_skip (c := decide (s5.2.2.2 < (x303.length : Int))) rfl rfl rfl rfl hc302 rfl ?_
       refine wl_skip (c := decide (s5.2.2.2 < (x303.length : Int))) rfl rfl rfl rfl hc302 rfl ?_
       refine wl_op rfl (op_pick_f (c := decide (s5.2.2.2 < (x303.length : Int))) (b := (Value.bool (false))) rfl rfl hc302 rfl ?_)
       refine wl_op rfl (op_move (v := (Value.bool (false))) rfl rfl ?_)
       refine wl_skip (c := false) rfl rfl rfl rfl rfl rfl ?_
       refine wl_skip (c := false) rfl rfl rfl rfl rfl rfl ?_
       refine wl_skip (c := false) rfl rfl rfl rfl rfl rfl ?_
       refine wl_skip (c := false) rfl rfl rfl rfl rfl rfl ?_
       refine wl_skip (c := false) rfl rfl rfl rfl rfl rfl ?_
       refine wl_op rfl (op_pick_f (c := false) (b := (Value.bool (false))) rfl rfl rfl rfl ?_)
       refine wl_nil ?_
       refine wp_cond_f (b := false) rfl rfl ?_
       refine wp_exit' ?_
       obtain rfl := Option.some.inj h255
       have h256 := h252
       obtain rfl := Option.some.inj h256
       obtain rfl := (hout5 _ rfl)
       exact ⟨I120, e1170, e1171, e1172, e1173, e1174, e1175, e1176, e1177⟩
     ·
      rintro f w ⟨v83, rfl, I121, e1182, e1183, e1184, e1185, e1186, e1187, e1188, e1189⟩
      have h252 := onL_inl h252
      refine wp_seq' ?_
      refine wp_block' ?_
      refine wp_seq' ?_
      refine wp_region' ?_
      refine wl_op rfl (op_move (v := (Value.slice z3 m3 k3)) rfl e1182 ?_)
      refine wl_op rfl (op_fieldAddr_t (v := (Value.pointer (some ⟨g1, 0, none⟩))) rfl fa25_1 e1183 ((p1.mono le2).at_ I121) ?_)
      refine wl_op rfl (op_load (v := (fieldPtr (Value.pointer (some ⟨g1, 0, none⟩)) 1)) (e := a0.Edges) rfl sh23 rfl (((p1.mono le2).at_ I121).fld Graph.fld1) (fun u169 hu169 => ?_))
      obtain ⟨z175, m175, k175, e1190⟩ := rv_form hu169
      subst e1190
      refine wl_op rfl (op_move (v := (Value.int .i64 ((i1 : Int)))) rfl e1188 ?_)
      obtain ⟨x306, hx306, h252⟩ := bnd h252
      refine wl_op rfl (op_indexAddr_rv (v := (Value.slice z175 m175 k175)) (i := (i1 : Int)) (e := x306) rfl Try.underlying23 sh40 rfl hu169 rfl hx306 ?_)
      refine wl_op rfl (op_load (v := (elemPtr (Value.slice z175 m175 k175) ((i1 : Int)) (Enc.sz (List Edge)))) (e := x306) rfl sh40 rfl (hu169.elem I121.in_ hx306) (fun u170 hu170 => ?_))
      obtain ⟨z176, m176, k176, e1191⟩ := rv_form hu170
      subst e1191
      refine wl_op rfl (op_move (v := (Value.int .i64 (s5.2.2.2))) rfl e1189 ?_)
      obtain ⟨x307, hx307, h252⟩ := bnd h252
      refine wl_op rfl (op_indexAddr_rv (v := (Value.slice z176 m176 k176)) (i := s5.2.2.2) (e := x307) rfl Try.underlying40 sh44 rfl hu170 rfl hx307 ?_)
      refine wl_op rfl (op_fieldAddr_t (v := (elemPtr (Value.slice z176 m176 k176) (s5.2.2.2) (Enc.sz Edge))) rfl fa44_1 rfl (hu170.elem I121.in_ hx307) ?_)
      refine wl_op rfl (op_load_int (v := (fieldPtr (elemPtr (Value.slice z176 m176 k176) (s5.2.2.2) (Enc.sz Edge)) 3)) (e := x307.To) rfl sh3 rfl ((hu170.elem I121.in_ hx307).fld Edge.fld1) ?_)
      obtain ⟨x308, hx308, h252⟩ := bnd h252
      refine wl_op rfl (op_indexAddr_rv (v := (Value.slice z3 m3 k3)) (i := x307.To) (e := x308) rfl Try.underlying26 sh3 rfl (h1_.mono (le1.trans le2)) rfl hx308 ?_)
      refine wl_op rfl (op_load_int (v := (elemPtr (Value.slice z3 m3 k3) (x307.To) (Enc.sz Int))) (e := x308) rfl sh3 rfl ((h1_.mono (le1.trans le2)).elem I121.in_ hx308) ?_)
      refine wl_op rfl (op_assign (v := (Value.int .i64 (x308))) rfl rfl ?_)
      refine wl_nil ?_
      obtain ⟨v84, h258, h252⟩ := bnd h252
      refine wp_cut (fun f w => Inv w S2 (Row (α := Bool) 4 (Value.slice z8 m8 k8) (x2) :: Fr) ∧ f 1 = (Value.slice z3 m3 k3) ∧ f 2 = (Value.pointer (some ⟨g1, 0, none⟩)) ∧ f 8 = (Value.slice z8 m8 k8) ∧ f 9 = (Value.int .i64 (s5.1)) ∧ f 10 = (Value.int .i64 (s5.2.1)) ∧ f 11 = (Value.int .i64 (s5.2.2.1)) ∧ f 12 = (Value.int .i64 ((i1 : Int))) ∧ f 13 = (Value.int .i64 (s5.2.2.2)) ∧ f 14 = (Value.int .i64 (v84))) ?_ ?_
      ·
       refine wp_seq' ?_
       refine wp_region' ?_
       refine wl_op rfl (op_move (v := (Value.int .i64 (x308))) rfl rfl ?_)
       refine wl_op rfl (op_lss (a := x308) (b := 0) rfl rfl rfl ?_)
       refine wl_nil ?_
       rcases ifs h258 with ⟨hc306, h258⟩ | ⟨hc306, h258⟩
       ·
        refine wp_cond_t (b := decide (x308 < 0)) rfl hc306 ?_
        refine wp_region' ?_
        refine wl_op rfl (op_move (v := (Value.slice z3 m3 k3)) rfl e1182 ?_)
        refine wl_op rfl (op_len_rv rfl Try.underlying26 rfl (h1_.mono (le1.trans le2)) ?_)
        refine wl_op rfl (op_assign (v := (Value.int .i64 ((a1.length : Int)))) rfl rfl ?_)
        refine wl_nil ?_
        obtain rfl := Option.some.inj h258
        exact ⟨I121, e1182, e1183, e1184, e1185, e1186, e1187, e1188, e1189, rfl⟩
       ·
        refine wp_cond_f (b := decide (x308 < 0)) rfl hc306 ?_
        refine wp_skip' ?_
        obtain rfl := Option.some.inj h258
        exact ⟨I121, e1182, e1183, e1184, e1185, e1186, e1187, e1188, e1189, rfl⟩
      ·
       rintro f w ⟨I122, e1192, e1193, e1194, e1195, e1196, e1197, e1198, e1199, e1200⟩
       obtain ⟨v85, h261, h252⟩ := bnd h252
       refine wp_cut (fun f w => Inv w S2 (Row (α := Bool) 4 (Value.slice z8 m8 k8) (x2) :: Fr) ∧ f 1 = (Value.slice z3 m3 k3) ∧ f 2 = (Value.pointer (some ⟨g1, 0, none⟩)) ∧ f 8 = (Value.slice z8 m8 k8) ∧ f 9 = (Value.int .i64 (s5.1)) ∧ f 10 = (Value.int .i64 (s5.2.1)) ∧ f 11 = (Value.int .i64 (s5.2.2.1)) ∧ f 12 = (Value.int .i64 ((i1 : Int))) ∧ f 13 = (Value.int .i64 (s5.2.2.2)) ∧ f 14 = (Value.int .i64 (v84)) ∧ f 78 = (Value.bool (v85))) ?_ ?_
       ·
        refine wp_region' ?_
        refine wl_op rfl (op_move (v := (Value.int .i64 (v84))) rfl e1200 ?_)
        refine wl_op rfl (op_move (v := (Value.slice z3 m3 k3)) rfl e1192 ?_)
        refine wl_op rfl (op_move (v := (Value.int .i64 ((i1 : Int)))) rfl e1198 ?_)
        obtain ⟨x310, hx310, h261⟩ := bnd h261
        refine wl_op rfl (op_indexAddr_rv (v := (Value.slice z3 m3 k3)) (i := (i1 : Int)) (e := x310) rfl Try.underlying26 sh3 rfl (h1_.mono (le1.trans le2)) rfl hx310 ?_)
        refine wl_op rfl (op_load_int (v := (elemPtr (Value.slice z3 m3 k3) ((i1 : Int)) (Enc.sz Int))) (e := x310) rfl sh3 rfl ((h1_.mono (le1.trans le2)).elem I122.in_ hx310) ?_)
        refine wl_op rfl (op_gtr (a := v84) (b := x310) rfl rfl rfl ?_)
        refine wl_op rfl (op_move (v := (Value.bool (decide (x310 < v84)))) rfl rfl ?_)
        rcases ifs h261 with ⟨hc308, h261⟩ | ⟨hc308, h261⟩
        ·
         refine wl_taken (c := decide (x310 < v84)) rfl rfl rfl rfl hc308 (op_move (v := (Value.int .i64 (v84))) rfl e1200 ?_)
         refine wl_taken (c := decide (x310 < v84)) rfl rfl rfl rfl hc308 (op_move (v := (Value.int .i64 (s5.2.2.1))) rfl e1197 ?_)
         refine wl_taken (c := decide (x310 < v84)) rfl rfl rfl rfl hc308 (op_gtr (a := v84) (b := s5.2.2.1) rfl rfl rfl ?_)
         refine wl_op rfl (op_pick_t (c := decide (x310 < v84)) (a := (Value.bool (decide (s5.2.2.1 < v84)))) rfl rfl hc308 rfl ?_)
         refine wl_nil ?_
         obtain rfl := Option.some.inj h261
         exact ⟨I122, e1192, e1193, e1194, e1195, e1196, e1197, e1198, e1199, e1200, rfl⟩
        ·
         refine wl_skip (c := decide (x310 < v84)) rfl rfl rfl rfl hc308 rfl ?_
         refine wl_skip (c := decide (x310 < v84)) rfl rfl rfl rfl hc308 rfl ?_
         refine wl_skip (c := decide (x310 < v84)) rfl rfl rfl rfl hc308 rfl ?_
         refine wl_op rfl (op_pick_f (c := decide (x310 < v84)) (b := (Value.bool (false))) rfl rfl hc308 rfl ?_)
         refine wl_nil ?_
         obtain rfl := Option.some.inj h261
         exact ⟨I122, e1192, e1193, e1194, e1195, e1196, e1197, e1198, e1199, e1200, rfl⟩
       ·
        rintro f w ⟨I123, e1201, e1202, e1203, e1204, e1205, e1206, e1207, e1208, e1209, e1210⟩
        rcases ifs h252 with ⟨hc309, h252⟩ | ⟨hc309, h252⟩
        ·
         refine wp_cond_t (b := v85) e1210 hc309 ?_
         refine wp_seq' ?_
         refine wp_region' ?_
         refine wl_op rfl (op_move (v := (Value.int .i64 ((i1 : Int)))) rfl e1207 ?_)
         refine wl_op rfl (op_assign (v := (Value.int .i64 ((i1 : Int)))) rfl rfl ?_)
         refine wl_nil ?_
         refine wp_seq' ?_
         refine wp_region' ?_
         refine wl_op rfl (op_move (v := (Value.int .i64 (s5.2.2.2))) rfl e1208 ?_)
         refine wl_op rfl (op_assign (v := (Value.int .i64 (s5.2.2.2))) rfl rfl ?_)
         refine wl_nil ?_
         refine wp_region' ?_
         refine wl_op rfl (op_move (v := (Value.int .i64 (v84))) rfl e1209 ?_)
         refine wl_op rfl (op_assign (v := (Value.int .i64 (v84))) rfl rfl ?_)
         refine wl_nil ?_
         refine wp_region' ?_
         refine wl_op rfl (op_move (v := (Value.int .i64 (s5.2.2.2))) rfl e1208 ?_)
         refine wl_op rfl (op_add (a := s5.2.2.2) (b := 1) rfl rfl rfl ?_)
         refine wl_op rfl (op_assign (v := (Value.int .i64 (w64 (s5.2.2.2 + 1)))) rfl rfl ?_)
         refine wl_nil ?_
         obtain rfl := Option.some.inj h252
         exact ⟨_, rfl, I123, e1201, e1202, e1203, rfl, rfl, rfl, e1207, rfl⟩
        ·
         refine wp_cond_f (b := v85) e1210 hc309 ?_
         refine wp_skip' ?_
         refine wp_region' ?_
         refine wl_op rfl (op_move (v := (Value.int .i64 (s5.2.2.2))) rfl e1208 ?_)
         refine wl_op rfl (op_add (a := s5.2.2.2) (b := 1) rfl rfl rfl ?_)
         refine wl_op rfl (op_assign (v := (Value.int .i64 (w64 (s5.2.2.2 + 1)))) rfl rfl ?_)
         refine wl_nil ?_
         obtain rfl := Option.some.inj h252
         exact ⟨_, rfl, I123, e1201, e1202, e1203, e1204, e1205, e1206, e1207, rfl⟩
    ·
     rintro f w ⟨I124, e1211, e1212, e1213, e1214, e1215, e1216, e1217, e1218⟩
     refine wp_region' ?_
     refine wl_op rfl (op_move (v := (Value.int .i64 ((i1 : Int)))) rfl e1217 ?_)
     refine wl_op rfl (op_add (a := (i1 : Int)) (b := 1) rfl rfl rfl ?_)
     refine wl_op rfl (op_assign (v := (Value.int .i64 (w64 ((i1 : Int) + 1)))) rfl rfl ?_)
     refine wl_nil ?_
     obtain rfl := Option.some.inj h196
     exact ⟨I124, e1211, e1212, e1213, e1214, e1215, e1216, (idx_next hlt1 hk1)⟩
   ·
    rintro f w hI6
    obtain ⟨I125, e1219, e1220, e1221, e1222, e1223, e1224, e1225⟩ := hI6
    refine wp_seq' ?_
    refine wp_seq' ?_
    refine wp_region' ?_
    refine wl_op rfl (op_move (v := (Value.int .i64 ((a1.length : Int)))) rfl e1225 ?_)
    refine wl_op rfl (op_move (v := (Value.slice z3 m3 k3)) rfl e1219 ?_)
    refine wl_op rfl (op_len_rv rfl Try.underlying26 rfl (h1_.mono (le1.trans le2)) ?_)
    refine wl_op rfl (op_lss (a := (a1.length : Int)) (b := (a1.length : Int)) rfl rfl rfl ?_)
    refine wl_nil ?_
    refine wp_cond_f (b := decide ((a1.length : Int) < (a1.length : Int))) rfl (len_f _) ?_
    refine wp_exit' ?_
    exact ⟨I125, e1219, e1220, e1221, e1222, e1223, e1224⟩
  ·
   rintro f w ⟨I126, e1226, e1227, e1228, e1229, e1230, e1231⟩
   refine wp_seq' ?_
   refine wp_seq' ?_
   refine wp_region' ?_
   refine wl_op rfl (op_move (v := (Value.int .i64 (out4.1))) rfl e1229 ?_)
   refine wl_op rfl (op_lss (a := out4.1) (b := 0) rfl rfl rfl ?_)
   refine wl_nil ?_
   rcases ifs h with ⟨hc310, h⟩ | ⟨hc310, h⟩
   ·
    refine wp_cond_t (b := decide (out4.1 < 0)) rfl hc310 ?_
    refine wp_seq' ?_
    refine wp_region' ?_
    refine wl_op rfl (op_assign (v := (Value.int .i64 (0))) rfl rfl ?_)
    refine wl_op rfl (op_assign (v := (Value.int .i64 (0))) rfl rfl ?_)
    refine wl_op rfl (op_assign (v := (Value.int .i64 (3))) rfl rfl ?_)
    refine wl_nil ?_
    refine wp_ret' ?_
    obtain rfl := Option.some.inj h
    exact ⟨(Value.tuple #[(Value.int .i64 (0)), (Value.int .i64 (0)), (Value.int .i64 (3))]), (res3 rfl rfl rfl rfl), _, [], (le1.trans le2), (I126).drop, rfl, rfl⟩
   ·
    refine wp_cond_f (b := decide (out4.1 < 0)) rfl hc310 ?_
    refine wp_skip' ?_
    refine wp_seq' ?_
    refine wp_region' ?_
    refine wl_op rfl (op_move (v := (Value.int .i64 (out4.1))) rfl e1229 ?_)
    refine wl_op rfl (op_move (v := (Value.int .i64 (out4.2.1))) rfl e1230 ?_)
    refine wl_op rfl (op_assign (v := (Value.int .i64 (out4.1))) rfl rfl ?_)
    refine wl_op rfl (op_assign (v := (Value.int .i64 (out4.2.1))) rfl rfl ?_)
    refine wl_op rfl (op_assign (v := (Value.int .i64 (0))) rfl rfl ?_)
    refine wl_nil ?_
    refine wp_ret' ?_
    obtain rfl := Option.some.inj h
    exact ⟨(Value.tuple #[(Value.int .i64 (out4.1)), (Value.int .i64 (out4.2.1)), (Value.int .i64 (0))]), (res3 rfl rfl rfl rfl), _, [], (le1.trans le2), (I126).drop, rfl, rfl⟩

set_option maxHeartbeats 4000000 in
set_option maxRecDepth 100000 in
theorem F14_ok {w : World} {S : PH} {Fr : List HP} {a0 : Graph} {v0 : Value} {a1 : (List Int)} {v1 : Value} {r : Bool} (hI : Inv w S (Fr)) (h0_ : RV S v0 a0) (h1_ : RV S v1 a1) (h : F14 a0 a1 = some r) :
    Calls Try.prog 14 [v0, v1].toArray w (DoneV S Fr (Value.bool (r))) := by
 unfold F14 at h
 obtain ⟨c1, c2, e1, r1, r2⟩ := Graph.inv h0_
 subst e1
 obtain ⟨z1, m1, k1, e2⟩ := rv_form r1
 subst e2
 obtain ⟨z2, m2, k2, e3⟩ := rv_form r2
 subst e3
 obtain ⟨z3, m3, k3, e4⟩ := rv_form h1_
 subst e4
 refine calls_enter (n := 116) (vs := [(Value.agg #[(Value.slice z1 m1 k1), (Value.slice z2 m2 k2)]), (Value.slice z3 m3 k3)]) Try.func14 rfl rfl rfl ?_
 refine wp_seq' ?_
 refine wp_region' ?_
 refine wl_op rfl (op_box (v := (Value.agg #[(Value.slice z1 m1 k1), (Value.slice z2 m2 k2)])) rfl hI rfl (fun g1 w1 I1 => ?_))
 obtain ⟨S1, le1, I2, p1⟩ := Inv.boxFreeze (x := a0) I1 (Graph.rv (s := a0) r1 r2)
 refine wl_op rfl (op_assign (v := (Value.bool (false))) rfl rfl ?_)
 refine wl_nil ?_
 refine wp_seq' ?_
 refine wp_seq' ?_
 refine wp_region' ?_
 refine wl_op rfl (op_load (v := (Value.pointer (some ⟨g1, 0, none⟩))) (e := a0) rfl sh25 rfl (p1.at_ I2) (fun u1 hu1 => ?_))
 obtain ⟨c3, c4, e5, r3, r4⟩ := Graph.inv hu1
 subst e5
 obtain ⟨z4, m4, k4, e6⟩ := rv_form r3
 subst e6
 obtain ⟨z5, m5, k5, e7⟩ := rv_form r4
 subst e7
 obtain ⟨x1, hx1, h⟩ := bnd h
 refine wl_op rfl (op_call_v (vs := [(Value.agg #[(Value.slice z4 m4 k4), (Value.slice z5 m5 k5)])]) (r := (Value.bool (x1))) rfl ca15 rfl (args1 rfl) I2 (fun Fr_ hF_ => F15_ok hF_ (Graph.rv (s := a0) r3 r4) hx1) (fun w2 I3 => ?_))
 refine wl_nil ?_
 rcases ifs h with ⟨hc1, h⟩ | ⟨hc1, h⟩
 ·
  refine wp_cond_t (b := x1) rfl hc1 ?_
  refine wp_seq' ?_
  refine wp_region' ?_
  obtain ⟨x2, hx2, h⟩ := bnd h
  refine wl_op rfl (op_call_v (vs := []) (r := (Value.bool (x2))) rfl ca17 rfl args0 I3 (fun Fr_ hF_ => F17_ok hF_  hx2) (fun w3 I4 => ?_))
  refine wl_op rfl (op_assign (v := (Value.bool (x2))) rfl rfl ?_)
  refine wl_nil ?_
  refine wp_ret' ?_
  obtain rfl := Option.some.inj h
  exact ⟨(Value.bool (x2)), (res1 rfl rfl), _, [], le1, I4, rfl, rfl⟩
 ·
  refine wp_cond_f (b := x1) rfl hc1 ?_
  refine wp_skip' ?_
  refine wp_seq' ?_
  refine wp_seq' ?_
  obtain ⟨x3, hx3, h⟩ := bnd h
  obtain ⟨x4, hx4, h⟩ := bnd h
  refine wp_draw (sps := [⟨some 16, [], [0], fun vs_ T_ => RV T_ (fr0 vs_ 0) a0, [], [], [], fun hle_ h_ => h_.mono hle_⟩, ⟨some 17, [], [1], fun vs_ T_ => fr0 vs_ 0 = (Value.slice z3 m3 k3), [], [], [], fun _ h_ => h_⟩, ⟨some 18, [0, 1], [2], fun vs_ T_ => fr0 vs_ 0 = (Value.int .i64 (x3)), [], [], [], fun _ h_ => h_⟩, ⟨some 19, [], [3], fun vs_ T_ => RV T_ (fr0 vs_ 0) a0, [], [], [], fun hle_ h_ => h_.mono hle_⟩, ⟨some 20, [], [4], fun vs_ T_ => fr0 vs_ 0 = (Value.slice z3 m3 k3), [], [], [], fun _ h_ => h_⟩, ⟨some 21, [0, 1, 2, 3, 4], [5], fun vs_ T_ => fr0 vs_ 0 = (Value.int .i64 (x4)), [], [], [], fun _ h_ => h_⟩, ⟨some 22, [0, 1, 2, 3, 4, 5], [6], fun vs_ T_ => fr0 vs_ 0 = (Value.bool (x3 != x4)), [], [], [], fun _ h_ => h_⟩]) (tks := []) (O := Fr) rfl (by kernel_rfl) I3 ⟨?_, ?_, ?_, ?_, ?_, ?_, ?_, trivial⟩ ?_
  ·
   intro vs1 f w6 S2 X1 le2 hA1 hK1 hI1
   have I7 : Inv w6 S2 (X1) := hI1
   refine opg_plain rfl rfl (op_load (v := (Value.pointer (some ⟨g1, 0, none⟩))) (e := a0) rfl sh25 (hK1 2 (keep_of rfl)) ((p1.mono le2).at_ I7) (fun u4 hu4 => ?_))
   obtain ⟨c5, c6, e8, r5, r6⟩ := Graph.inv hu4
   subst e8
   obtain ⟨z6, m6, k6, e9⟩ := rv_form r5
   subst e9
   obtain ⟨z7, m7, k7, e10⟩ := rv_form r6
   subst e10
   refine ⟨_, _, rfl, PH.Le.refl _, ?_, ?_⟩
   ·
    exact (Graph.rv (s := a0) r5 r6)
   ·
    exact I7
  ·
   intro vs2 f w7 S3 X2 le3 hA2 hK2 hI2
   have I8 : Inv w7 S3 (X2) := hI2
   refine opg_plain rfl rfl (op_move (v := (Value.slice z3 m3 k3)) rfl (hK2 1 (keep_of rfl)) ?_)
   refine ⟨_, _, rfl, PH.Le.refl _, ?_, ?_⟩
   ·
    exact rfl
   ·
    exact I8
  ·
   intro vs3 f w8 S4 X3 le4 hA3 hK3 hI3
   have I9 : Inv w8 S4 (X3) := hI3
   have q1 : f 16 = vs3 0 := (hA3.at_ 0 rfl _ rfl).1 _ rfl
   have r7 : RV S4 (vs3 0) a0 := (hA3.at_ 0 rfl _ rfl).2
   obtain ⟨u5, hu5⟩ : ∃ u, vs3 0 = u := ⟨_, rfl⟩
   rw [hu5] at q1 r7
   obtain ⟨c7, c8, e11, r8, r9⟩ := Graph.inv r7
   subst e11
   obtain ⟨z8, m8, k8, e12⟩ := rv_form r8
   subst e12
   obtain ⟨z9, m9, k9, e13⟩ := rv_form r9
   subst e13
   have q2 : f 17 = (Value.slice z3 m3 k3) := vt (hA3.at_ 1 rfl _ rfl) rfl
   refine opg_plain rfl rfl (op_call_v (vs := [(Value.agg #[(Value.slice z8 m8 k8), (Value.slice z9 m9 k9)]), (Value.slice z3 m3 k3)]) (r := (Value.int .i64 (x3))) rfl ca38 rfl (args2 q1 q2) I9 (fun Fr_ hF_ => F38_ok hF_ (Graph.rv (s := a0) r8 r9) (h1_.mono (le1.trans le4)) hx3) (fun w9 I10 => ?_))
   refine ⟨_, _, rfl, PH.Le.refl _, ?_, ?_⟩
   ·
    exact rfl
   ·
    exact I10
  ·
   intro vs4 f w10 S5 X4 le5 hA4 hK4 hI4
   have I11 : Inv w10 S5 (X4) := hI4
   refine opg_plain rfl rfl (op_load (v := (Value.pointer (some ⟨g1, 0, none⟩))) (e := a0) rfl sh25 (hK4 2 (keep_of rfl)) ((p1.mono le5).at_ I11) (fun u6 hu6 => ?_))
   obtain ⟨c9, c10, e14, r10, r11⟩ := Graph.inv hu6
   subst e14
   obtain ⟨z10, m10, k10, e15⟩ := rv_form r10
   subst e15
   obtain ⟨z11, m11, k11, e16⟩ := rv_form r11
   subst e16
   refine ⟨_, _, rfl, PH.Le.refl _, ?_, ?_⟩
   ·
    exact (Graph.rv (s := a0) r10 r11)
   ·
    exact I11
  ·
   intro vs5 f w11 S6 X5 le6 hA5 hK5 hI5
   have I12 : Inv w11 S6 (X5) := hI5
   refine opg_plain rfl rfl (op_move (v := (Value.slice z3 m3 k3)) rfl (hK5 1 (keep_of rfl)) ?_)
   refine ⟨_, _, rfl, PH.Le.refl _, ?_, ?_⟩
   ·
    exact rfl
   ·
    exact I12
  ·
   intro vs6 f w12 S7 X6 le7 hA6 hK6 hI6
   have I13 : Inv w12 S7 (X6) := hI6
   have q3 : f 19 = vs6 3 := (hA6.at_ 3 rfl _ rfl).1 _ rfl
   have r12 : RV S7 (vs6 3) a0 := (hA6.at_ 3 rfl _ rfl).2
   obtain ⟨u7, hu7⟩ : ∃ u, vs6 3 = u := ⟨_, rfl⟩
   rw [hu7] at q3 r12
   obtain ⟨c11, c12, e17, r13, r14⟩ := Graph.inv r12
   subst e17
   obtain ⟨z12, m12, k12, e18⟩ := rv_form r13
   subst e18
   obtain ⟨z13, m13, k13, e19⟩ := rv_form r14
   subst e19
   have q4 : f 20 = (Value.slice z3 m3 k3) := vt (hA6.at_ 4 rfl _ rfl) rfl
   refine opg_plain rfl rfl (op_call_v (vs := [(Value.agg #[(Value.slice z12 m12 k12), (Value.slice z13 m13 k13)]), (Value.slice z3 m3 k3)]) (r := (Value.int .i64 (x4))) rfl ca21 rfl (args2 q3 q4) I13 (fun Fr_ hF_ => F21_ok hF_ (Graph.rv (s := a0) r13 r14) (h1_.mono (le1.trans le7)) hx4) (fun w13 I14 => ?_))
   refine ⟨_, _, rfl, PH.Le.refl _, ?_, ?_⟩
   ·
    exact rfl
   ·
    exact I14
  ·
   intro vs7 f w14 S8 X7 le8 hA7 hK7 hI7
   have I15 : Inv w14 S8 (X7) := hI7
   have q5 : f 18 = (Value.int .i64 (x3)) := vt (hA7.at_ 2 rfl _ rfl) rfl
   have q6 : f 21 = (Value.int .i64 (x4)) := vt (hA7.at_ 5 rfl _ rfl) rfl
   refine opg_plain rfl rfl (op_neq (a := x3) (b := x4) rfl q5 q6 ?_)
   refine ⟨_, _, rfl, PH.Le.refl _, ?_, ?_⟩
   ·
    exact rfl
   ·
    exact I15
  ·
   intro vs8 f w15 S9 le9 hF1 hK8 hI8
   have e20 : f 1 = (Value.slice z3 m3 k3) := (hK8 1 (keep_all rfl)).trans rfl
   have e21 : f 2 = (Value.pointer (some ⟨g1, 0, none⟩)) := (hK8 2 (keep_all rfl)).trans rfl
   have I16 : Inv w15 S9 (Fr) := hI8
   have q7 : f 22 = (Value.bool (x3 != x4)) := vt (hF1.at_ 6 rfl _ rfl) rfl
   rcases ifs h with ⟨hc2, h⟩ | ⟨hc2, h⟩
   ·
    refine wp_cond_t (b := x3 != x4) q7 hc2 ?_
    refine wp_seq' ?_
    refine wp_region' ?_
    refine wl_op rfl (op_assign (v := (Value.bool (false))) rfl rfl ?_)
    refine wl_nil ?_
    refine wp_ret' ?_
    obtain rfl := Option.some.inj h
    exact ⟨(Value.bool (false)), (res1 rfl rfl), _, [], (le1.trans le9), I16, rfl, rfl⟩
   ·
    refine wp_cond_f (b := x3 != x4) q7 hc2 ?_
    refine wp_skip' ?_
    refine wp_seq' ?_
    refine wp_region' ?_
    refine wl_op rfl (op_load (v := (Value.pointer (some ⟨g1, 0, none⟩))) (e := a0) rfl sh25 e21 ((p1.mono le9).at_ I16) (fun u8 hu8 => ?_))
    obtain ⟨c13, c14, e22, r15, r16⟩ := Graph.inv hu8
    subst e22
    obtain ⟨z14, m14, k14, e23⟩ := rv_form r15
    subst e23
    obtain ⟨z15, m15, k15, e24⟩ := rv_form r16
    subst e24
    refine wl_op rfl (op_move (v := (Value.slice z3 m3 k3)) rfl e20 ?_)
    obtain ⟨x5, hx5, h⟩ := bnd h
    refine wl_op rfl (op_call (vs := [(Value.agg #[(Value.slice z14 m14 k14), (Value.slice z15 m15 k15)]), (Value.slice z3 m3 k3)]) rfl ca34 rfl (args2 rfl rfl) (F34_ok I16 (Graph.rv (s := a0) r15 r16) (h1_.mono (le1.trans le9)) hx5) (fun v1 w16 S10 O1 le10 I17 hv1 => ?_))
    obtain ⟨z16, m16, k16, rfl, rfl⟩ := hv1
    refine wl_op rfl (op_move (v := (Value.tuple #[(Value.slice z16 m16 k16), (Value.int .i64 (x5.2))])) rfl rfl ?_)
    refine wl_op rfl (op_extract (v := (Value.slice z16 m16 k16)) rfl rfl rfl ?_)
    refine wl_op rfl (op_extract (v := (Value.int .i64 (x5.2))) rfl rfl rfl ?_)
    refine wl_op rfl (op_assign (v := (Value.slice z16 m16 k16)) rfl rfl ?_)
    refine wl_op rfl (op_assign (v := (Value.int .i64 (x5.2))) rfl rfl ?_)
    refine wl_nil ?_
    refine wp_seq' ?_
    refine wp_region' ?_
    refine wl_op rfl (op_load (v := (Value.pointer (some ⟨g1, 0, none⟩))) (e := a0) rfl sh25 e21 ((p1.mono (le9.trans le10)).at_ I17) (fun u9 hu9 => ?_))
    obtain ⟨c15, c16, e25, r17, r18⟩ := Graph.inv hu9
    subst e25
    obtain ⟨z17, m17, k17, e26⟩ := rv_form r17
    subst e26
    obtain ⟨z18, m18, k18, e27⟩ := rv_form r18
    subst e27
    refine wl_op rfl (op_move (v := (Value.slice z3 m3 k3)) rfl e20 ?_)
    obtain ⟨x6, hx6, h⟩ := bnd h
    refine wl_op rfl (op_call (vs := [(Value.agg #[(Value.slice z17 m17 k17), (Value.slice z18 m18 k18)]), (Value.slice z3 m3 k3)]) rfl ca39 rfl (args2 rfl rfl) (F39_ok I17 (Graph.rv (s := a0) r17 r18) (h1_.mono ((le1.trans le9).trans le10)) hx6) (fun v2 w17 S11 O2 le11 I18 hv2 => ?_))
    obtain ⟨z19, m19, k19, rfl, rfl⟩ := hv2
    refine wl_op rfl (op_move (v := (Value.tuple #[(Value.slice z19 m19 k19), (Value.int .i64 (x6.2))])) rfl rfl ?_)
    refine wl_op rfl (op_extract (v := (Value.slice z19 m19 k19)) rfl rfl rfl ?_)
    refine wl_op rfl (op_extract (v := (Value.int .i64 (x6.2))) rfl rfl rfl ?_)
    refine wl_op rfl (op_assign (v := (Value.slice z19 m19 k19)) rfl rfl ?_)
    refine wl_op rfl (op_assign (v := (Value.int .i64 (x6.2))) rfl rfl ?_)
    refine wl_nil ?_
    obtain ⟨ov4, h2, h⟩ := bnd h
    refine wp_cut (fun f w => ∃ v4, ov4 = Sum.inl v4 ∧ Inv w S11 (Fr) ∧ f 1 = (Value.slice z3 m3 k3) ∧ f 2 = (Value.pointer (some ⟨g1, 0, none⟩))) ?_ ?_
    ·
     refine wp_seq' ?_
     refine wp_region' ?_
     refine wl_op rfl (op_move (v := (Value.int .i64 (x5.2))) rfl rfl ?_)
     refine wl_op rfl (op_move (v := (Value.int .i64 (x6.2))) rfl rfl ?_)
     refine wl_op rfl (op_neq (a := x5.2) (b := x6.2) rfl rfl rfl ?_)
     refine wl_op rfl (op_move (v := (Value.bool (x5.2 != x6.2))) rfl rfl ?_)
     rcases ifs h2 with ⟨hc5, h2⟩ | ⟨hc5, h2⟩
     ·
      refine wl_skip (c := x5.2 != x6.2) rfl rfl rfl rfl hc5 rfl ?_
      refine wl_skip (c := x5.2 != x6.2) rfl rfl rfl rfl hc5 rfl ?_
      refine wl_skip (c := x5.2 != x6.2) rfl rfl rfl rfl hc5 rfl ?_
      refine wl_skip (c := x5.2 != x6.2) rfl rfl rfl rfl hc5 rfl ?_
      refine wl_op rfl (op_pick_t (c := x5.2 != x6.2) (a := (Value.bool (true))) rfl rfl hc5 rfl ?_)
      refine wl_nil ?_
      refine wp_cond_t (b := true) rfl rfl ?_
      refine wp_seq' ?_
      refine wp_region' ?_
      refine wl_op rfl (op_assign (v := (Value.bool (false))) rfl rfl ?_)
      refine wl_nil ?_
      refine wp_ret' ?_
      obtain rfl := Option.some.inj h2
      have h3 := h
      obtain rfl := Option.some.inj h3
      exact ⟨(Value.bool (false)), (res1 rfl rfl), _, [], (((le1.trans le9).trans le10).trans le11), ((I18).drop).drop, rfl, rfl⟩
     ·
      refine wl_taken (c := x5.2 != x6.2) rfl rfl rfl rfl hc5 (op_move (v := (Value.slice z16 m16 k16)) rfl rfl ?_)
      refine wl_taken (c := x5.2 != x6.2) rfl rfl rfl rfl hc5 (op_move (v := (Value.slice z19 m19 k19)) rfl rfl ?_)
      obtain ⟨x8, hx8, h2⟩ := bnd h2
      obtain ⟨S14, Fr2, le14, I22, r21, r22, bk2⟩ := Inv.lend2 (I18.pull 1)
      refine wl_taken (c := x5.2 != x6.2) rfl rfl rfl rfl hc5 (op_call (vs := [(Value.slice z16 m16 k16), (Value.slice z19 m19 k19)]) rfl ca20 rfl (args2 rfl rfl) (F20_ok I22 r21 r22 hx8) (fun v5 w19 S15 O4 le15 I24 hv4 => ?_))
      obtain ⟨rfl, rfl⟩ := hv4
      have I23 := bk2 [] trivial I24 le15
      refine wl_taken (c := x5.2 != x6.2) rfl rfl rfl rfl hc5 (op_not (b := x8) rfl rfl ?_)
      refine wl_op rfl (op_pick_f (c := x5.2 != x6.2) (b := (Value.bool (!x8))) rfl rfl hc5 rfl ?_)
      refine wl_nil ?_
      rcases ifs h2 with ⟨hc6, h2⟩ | ⟨hc6, h2⟩
      ·
       refine wp_cond_t (b := !x8) rfl hc6 ?_
       refine wp_seq' ?_
       refine wp_region' ?_
       refine wl_op rfl (op_assign (v := (Value.bool (false))) rfl rfl ?_)
       refine wl_nil ?_
       refine wp_ret' ?_
       obtain rfl := Option.some.inj h2
       have h3 := h
       obtain rfl := Option.some.inj h3
       exact ⟨(Value.bool (false)), (res1 rfl rfl), _, [], (((le1.trans le9).trans le10).trans le11), ((I23).drop).drop, rfl, rfl⟩
      ·
       refine wp_cond_f (b := !x8) rfl hc6 ?_
       refine wp_skip' ?_
       obtain rfl := Option.some.inj h2
       exact ⟨_, rfl, ((I23).drop).drop, e20, e21⟩
    ·
     rintro f w ⟨v4, rfl, I25, e28, e29⟩
     have h := onL_inl h
     refine wp_seq' ?_
     refine wp_region' ?_
     refine wl_op rfl (op_load (v := (Value.pointer (some ⟨g1, 0, none⟩))) (e := a0) rfl sh25 e29 ((p1.mono ((le9.trans le10).trans le11)).at_ I25) (fun u10 hu10 => ?_))
     obtain ⟨c17, c18, e30, r23, r24⟩ := Graph.inv hu10
     subst e30
     obtain ⟨z20, m20, k20, e31⟩ := rv_form r23
     subst e31
     obtain ⟨z21, m21, k21, e32⟩ := rv_form r24
     subst e32
     refine wl_op rfl (op_move (v := (Value.slice z3 m3 k3)) rfl e28 ?_)
     obtain ⟨x9, hx9, h⟩ := bnd h
     refine wl_op rfl (op_call (vs := [(Value.agg #[(Value.slice z20 m20 k20), (Value.slice z21 m21 k21)]), (Value.slice z3 m3 k3)]) rfl ca33 rfl (args2 rfl rfl) (F33_ok I25 (Graph.rv (s := a0) r23 r24) (h1_.mono (((le1.trans le9).trans le10).trans le11)) hx9) (fun v6 w20 S16 O5 le16 I26 hv5 => ?_))
     obtain ⟨z22, m22, k22, rfl, rfl⟩ := hv5
     refine wl_op rfl (op_move (v := (Value.tuple #[(Value.slice z22 m22 k22), (Value.int .i64 (x9.2))])) rfl rfl ?_)
     refine wl_op rfl (op_extract (v := (Value.slice z22 m22 k22)) rfl rfl rfl ?_)
     refine wl_op rfl (op_extract (v := (Value.int .i64 (x9.2))) rfl rfl rfl ?_)
     refine wl_op rfl (op_assign (v := (Value.slice z22 m22 k22)) rfl rfl ?_)
     refine wl_op rfl (op_assign (v := (Value.int .i64 (x9.2))) rfl rfl ?_)
     refine wl_nil ?_
     refine wp_seq' ?_
     refine wp_region' ?_
     refine wl_op rfl (op_load (v := (Value.pointer (some ⟨g1, 0, none⟩))) (e := a0) rfl sh25 e29 ((p1.mono (((le9.trans le10).trans le11).trans le16)).at_ I26) (fun u11 hu11 => ?_))
     obtain ⟨c19, c20, e33, r25, r26⟩ := Graph.inv hu11
     subst e33
     obtain ⟨z23, m23, k23, e34⟩ := rv_form r25
     subst e34
     obtain ⟨z24, m24, k24, e35⟩ := rv_form r26
     subst e35
     refine wl_op rfl (op_move (v := (Value.slice z3 m3 k3)) rfl e28 ?_)
     obtain ⟨x10, hx10, h⟩ := bnd h
     refine wl_op rfl (op_call (vs := [(Value.agg #[(Value.slice z23 m23 k23), (Value.slice z24 m24 k24)]), (Value.slice z3 m3 k3)]) rfl ca40 rfl (args2 rfl rfl) (F40_ok I26 (Graph.rv (s := a0) r25 r26) (h1_.mono ((((le1.trans le9).trans le10).trans le11).trans le16)) hx10) (fun v7 w21 S17 O6 le17 I27 hv6 => ?_))
     obtain ⟨z25, m25, k25, rfl, rfl⟩ := hv6
     refine wl_op rfl (op_move (v := (Value.tuple #[(Value.slice z25 m25 k25), (Value.int .i64 (x10.2))])) rfl rfl ?_)
     refine wl_op rfl (op_extract (v := (Value.slice z25 m25 k25)) rfl rfl rfl ?_)
     refine wl_op rfl (op_extract (v := (Value.int .i64 (x10.2))) rfl rfl rfl ?_)
     refine wl_op rfl (op_assign (v := (Value.slice z25 m25 k25)) rfl rfl ?_)
     refine wl_op rfl (op_assign (v := (Value.int .i64 (x10.2))) rfl rfl ?_)
     refine wl_nil ?_
     obtain ⟨ov9, h5, h⟩ := bnd h
     refine wp_cut (fun f w => ∃ v9, ov9 = Sum.inl v9 ∧ Inv w S17 (Fr) ∧ f 1 = (Value.slice z3 m3 k3) ∧ f 2 = (Value.pointer (some ⟨g1, 0, none⟩))) ?_ ?_
     ·
      refine wp_seq' ?_
      refine wp_region' ?_
      refine wl_op rfl (op_move (v := (Value.int .i64 (x9.2))) rfl rfl ?_)
      refine wl_op rfl (op_move (v := (Value.int .i64 (x10.2))) rfl rfl ?_)
      refine wl_op rfl (op_neq (a := x9.2) (b := x10.2) rfl rfl rfl ?_)
      refine wl_op rfl (op_move (v := (Value.bool (x9.2 != x10.2))) rfl rfl ?_)
      rcases ifs h5 with ⟨hc9, h5⟩ | ⟨hc9, h5⟩
      ·
       refine wl_skip (c := x9.2 != x10.2) rfl rfl rfl rfl hc9 rfl ?_
       refine wl_skip (c := x9.2 != x10.2) rfl rfl rfl rfl hc9 rfl ?_
       refine wl_skip (c := x9.2 != x10.2) rfl rfl rfl rfl hc9 rfl ?_
       refine wl_skip (c := x9.2 != x10.2) rfl rfl rfl rfl hc9 rfl ?_
       refine wl_op rfl (op_pick_t (c := x9.2 != x10.2) (a := (Value.bool (true))) rfl rfl hc9 rfl ?_)
       refine wl_nil ?_
       refine wp_cond_t (b := true) rfl rfl ?_
       refine wp_seq' ?_
       refine wp_region' ?_
       refine wl_op rfl (op_assign (v := (Value.bool (false))) rfl rfl ?_)
       refine wl_nil ?_
       refine wp_ret' ?_
       obtain rfl := Option.some.inj h5
       have h6 := h
       obtain rfl := Option.some.inj h6
       exact ⟨(Value.bool (false)), (res1 rfl rfl), _, [], (((((le1.trans le9).trans le10).trans le11).trans le16).trans le17), ((I27).drop).drop, rfl, rfl⟩
      ·
       refine wl_taken (c := x9.2 != x10.2) rfl rfl rfl rfl hc9 (op_move (v := (Value.slice z22 m22 k22)) rfl rfl ?_)
       refine wl_taken (c := x9.2 != x10.2) rfl rfl rfl rfl hc9 (op_move (v := (Value.slice z25 m25 k25)) rfl rfl ?_)
       obtain ⟨x12, hx12, h5⟩ := bnd h5
       obtain ⟨S20, Fr4, le20, I31, r29, r30, bk4⟩ := Inv.lend2 (I27.pull 1)
       refine wl_taken (c := x9.2 != x10.2) rfl rfl rfl rfl hc9 (op_call (vs := [(Value.slice z22 m22 k22), (Value.slice z25 m25 k25)]) rfl ca20 rfl (args2 rfl rfl) (F20_ok I31 r29 r30 hx12) (fun v10 w23 S21 O8 le21 I33 hv8 => ?_))
       obtain ⟨rfl, rfl⟩ := hv8
       have I32 := bk4 [] trivial I33 le21
       refine wl_taken (c := x9.2 != x10.2) rfl rfl rfl rfl hc9 (op_not (b := x12) rfl rfl ?_)
       refine wl_op rfl (op_pick_f (c := x9.2 != x10.2) (b := (Value.bool (!x12))) rfl rfl hc9 rfl ?_)
       refine wl_nil ?_
       rcases ifs h5 with ⟨hc10, h5⟩ | ⟨hc10, h5⟩
       ·
        refine wp_cond_t (b := !x12) rfl hc10 ?_
        refine wp_seq' ?_
        refine wp_region' ?_
        refine wl_op rfl (op_assign (v := (Value.bool (false))) rfl rfl ?_)
        refine wl_nil ?_
        refine wp_ret' ?_
        obtain rfl := Option.some.inj h5
        have h6 := h
        obtain rfl := Option.some.inj h6
        exact ⟨(Value.bool (false)), (res1 rfl rfl), _, [], (((((le1.trans le9).trans le10).trans le11).trans le16).trans le17), ((I32).drop).drop, rfl, rfl⟩
       ·
        refine wp_cond_f (b := !x12) rfl hc10 ?_
        refine wp_skip' ?_
        obtain rfl := Option.some.inj h5
        exact ⟨_, rfl, ((I32).drop).drop, e28, e29⟩
     ·
      rintro f w ⟨v9, rfl, I34, e36, e37⟩
      have h := onL_inl h
      refine wp_seq' ?_
      refine wp_region' ?_
      refine wl_op rfl (op_load (v := (Value.pointer (some ⟨g1, 0, none⟩))) (e := a0) rfl sh25 e37 ((p1.mono ((((le9.trans le10).trans le11).trans le16).trans le17)).at_ I34) (fun u12 hu12 => ?_))
      obtain ⟨c21, c22, e38, r31, r32⟩ := Graph.inv hu12
      subst e38
      obtain ⟨z26, m26, k26, e39⟩ := rv_form r31
      subst e39
      obtain ⟨z27, m27, k27, e40⟩ := rv_form r32
      subst e40
      refine wl_op rfl (op_move (v := (Value.slice z3 m3 k3)) rfl e36 ?_)
      obtain ⟨x13, hx13, h⟩ := bnd h
      refine wl_op rfl (op_call (vs := [(Value.agg #[(Value.slice z26 m26 k26), (Value.slice z27 m27 k27)]), (Value.slice z3 m3 k3)]) rfl ca35 rfl (args2 rfl rfl) (F35_ok I34 (Graph.rv (s := a0) r31 r32) (h1_.mono (((((le1.trans le9).trans le10).trans le11).trans le16).trans le17)) hx13) (fun v11 w24 S22 O9 le22 I35 hv9 => ?_))
      obtain ⟨z28, m28, k28, rfl, rfl⟩ := hv9
      refine wl_op rfl (op_move (v := (Value.tuple #[(Value.slice z28 m28 k28), (Value.int .i64 (x13.2))])) rfl rfl ?_)
      refine wl_op rfl (op_extract (v := (Value.slice z28 m28 k28)) rfl rfl rfl ?_)
      refine wl_op rfl (op_extract (v := (Value.int .i64 (x13.2))) rfl rfl rfl ?_)
      refine wl_op rfl (op_assign (v := (Value.slice z28 m28 k28)) rfl rfl ?_)
      refine wl_op rfl (op_assign (v := (Value.int .i64 (x13.2))) rfl rfl ?_)
      refine wl_nil ?_
      refine wp_seq' ?_
      refine wp_region' ?_
      refine wl_op rfl (op_load (v := (Value.pointer (some ⟨g1, 0, none⟩))) (e := a0) rfl sh25 e37 ((p1.mono (((((le9.trans le10).trans le11).trans le16).trans le17).trans le22)).at_ I35) (fun u13 hu13 => ?_))
      obtain ⟨c23, c24, e41, r33, r34⟩ := Graph.inv hu13
      subst e41
      obtain ⟨z29, m29, k29, e42⟩ := rv_form r33
      subst e42
      obtain ⟨z30, m30, k30, e43⟩ := rv_form r34
      subst e43
      refine wl_op rfl (op_move (v := (Value.slice z3 m3 k3)) rfl e36 ?_)
      obtain ⟨x14, hx14, h⟩ := bnd h
      refine wl_op rfl (op_call (vs := [(Value.agg #[(Value.slice z29 m29 k29), (Value.slice z30 m30 k30)]), (Value.slice z3 m3 k3)]) rfl ca41 rfl (args2 rfl rfl) (F41_ok I35 (Graph.rv (s := a0) r33 r34) (h1_.mono ((((((le1.trans le9).trans le10).trans le11).trans le16).trans le17).trans le22)) hx14) (fun v12 w25 S23 O10 le23 I36 hv10 => ?_))
      obtain ⟨z31, m31, k31, rfl, rfl⟩ := hv10
      refine wl_op rfl (op_move (v := (Value.tuple #[(Value.slice z31 m31 k31), (Value.int .i64 (x14.2))])) rfl rfl ?_)
      refine wl_op rfl (op_extract (v := (Value.slice z31 m31 k31)) rfl rfl rfl ?_)
      refine wl_op rfl (op_extract (v := (Value.int .i64 (x14.2))) rfl rfl rfl ?_)
      refine wl_op rfl (op_assign (v := (Value.slice z31 m31 k31)) rfl rfl ?_)
      refine wl_op rfl (op_assign (v := (Value.int .i64 (x14.2))) rfl rfl ?_)
      refine wl_nil ?_
      obtain ⟨ov14, h8, h⟩ := bnd h
      refine wp_cut (fun f w => ∃ v14, ov14 = Sum.inl v14 ∧ Inv w S23 (Fr) ∧ f 1 = (Value.slice z3 m3 k3) ∧ f 2 = (Value.pointer (some ⟨g1, 0, none⟩))) ?_ ?_
      ·
       refine wp_seq' ?_
       refine wp_region' ?_
       refine wl_op rfl (op_move (v := (Value.int .i64 (x13.2))) rfl rfl ?_)
       refine wl_op rfl (op_move (v := (Value.int .i64 (x14.2))) rfl rfl ?_)
       refine wl_op rfl (op_neq (a := x13.2) (b := x14.2) rfl rfl rfl ?_)
       refine wl_op rfl (op_move (v := (Value.bool (x13.2 != x14.2))) rfl rfl ?_)
       rcases ifs h8 with ⟨hc13, h8⟩ | ⟨hc13, h8⟩
       ·
        refine wl_skip (c := x13.2 != x14.2) rfl rfl rfl rfl hc13 rfl ?_
        refine wl_skip (c := x13.2 != x14.2) rfl rfl rfl rfl hc13 rfl ?_
        refine wl_skip (c := x13.2 != x14.2) rfl rfl rfl rfl hc13 rfl ?_
        refine wl_skip (c := x13.2 != x14.2) rfl rfl rfl rfl hc13 rfl ?_
        refine wl_op rfl (op_pick_t (c := x13.2 != x14.2) (a := (Value.bool (true))) rfl rfl hc13 rfl ?_)
        refine wl_nil ?_
        refine wp_cond_t (b := true) rfl rfl ?_
        refine wp_seq' ?_
        refine wp_region' ?_
        refine wl_op rfl (op_assign (v := (Value.bool (false))) rfl rfl ?_)
        refine wl_nil ?_
        refine wp_ret' ?_
        obtain rfl := Option.some.inj h8
        have h9 := h
        obtain rfl := Option.some.inj h9
        exact ⟨(Value.bool (false)), (res1 rfl rfl), _, [], (((((((le1.trans le9).trans le10).trans le11).trans le16).trans le17).trans le22).trans le23), ((I36).drop).drop, rfl, rfl⟩
       ·
        refine wl_taken (c := x13.2 != x14.2) rfl rfl rfl rfl hc13 (op_move (v := (Value.slice z28 m28 k28)) rfl rfl ?_)
        refine wl_taken (c := x13.2 != x14.2) rfl rfl rfl rfl hc13 (op_move (v := (Value.slice z31 m31 k31)) rfl rfl ?_)
        obtain ⟨x16, hx16, h8⟩ := bnd h8
        obtain ⟨S26, Fr6, le26, I40, r37, r38, bk6⟩ := Inv.lend2 (I36.pull 1)
        refine wl_taken (c := x13.2 != x14.2) rfl rfl rfl rfl hc13 (op_call (vs := [(Value.slice z28 m28 k28), (Value.slice z31 m31 k31)]) rfl ca20 rfl (args2 rfl rfl) (F20_ok I40 r37 r38 hx16) (fun v15 w27 S27 O12 le27 I42 hv12 => ?_))
        obtain ⟨rfl, rfl⟩ := hv12
        have I41 := bk6 [] trivial I42 le27
        refine wl_taken (c := x13.2 != x14.2) rfl rfl rfl rfl hc13 (op_not (b := x16) rfl rfl ?_)
        refine wl_op rfl (op_pick_f (c := x13.2 != x14.2) (b := (Value.bool (!x16))) rfl rfl hc13 rfl ?_)
        refine wl_nil ?_
        rcases ifs h8 with ⟨hc14, h8⟩ | ⟨hc14, h8⟩
        ·
         refine wp_cond_t (b := !x16) rfl hc14 ?_
         refine wp_seq' ?_
         refine wp_region' ?_
         refine wl_op rfl (op_assign (v := (Value.bool (false))) rfl rfl ?_)
         refine wl_nil ?_
         refine wp_ret' ?_
         obtain rfl := Option.some.inj h8
         have h9 := h
         obtain rfl := Option.some.inj h9
         exact ⟨(Value.bool (false)), (res1 rfl rfl), _, [], (((((((le1.trans le9).trans le10).trans le11).trans le16).trans le17).trans le22).trans le23), ((I41).drop).drop, rfl, rfl⟩
        ·
         refine wp_cond_f (b := !x16) rfl hc14 ?_
         refine wp_skip' ?_
         obtain rfl := Option.some.inj h8
         exact ⟨_, rfl, ((I41).drop).drop, e36, e37⟩
      ·
       rintro f w ⟨v14, rfl, I43, e44, e45⟩
       have h := onL_inl h
       refine wp_seq' ?_
       refine wp_region' ?_
       refine wl_op rfl (op_load (v := (Value.pointer (some ⟨g1, 0, none⟩))) (e := a0) rfl sh25 e45 ((p1.mono ((((((le9.trans le10).trans le11).trans le16).trans le17).trans le22).trans le23)).at_ I43) (fun u14 hu14 => ?_))
       obtain ⟨c25, c26, e46, r39, r40⟩ := Graph.inv hu14
       subst e46
       obtain ⟨z32, m32, k32, e47⟩ := rv_form r39
       subst e47
       obtain ⟨z33, m33, k33, e48⟩ := rv_form r40
       subst e48
       refine wl_op rfl (op_move (v := (Value.slice z3 m3 k3)) rfl e44 ?_)
       obtain ⟨x17, hx17, h⟩ := bnd h
       refine wl_op rfl (op_call_v (vs := [(Value.agg #[(Value.slice z32 m32 k32), (Value.slice z33 m33 k33)]), (Value.slice z3 m3 k3)]) (r := (Value.tuple #[(Value.int .i64 (x17.1)), (Value.int .i64 (x17.2.1)), (Value.int .i64 (x17.2.2))])) rfl ca42 rfl (args2 rfl rfl) I43 (fun Fr_ hF_ => F42_ok hF_ (Graph.rv (s := a0) r39 r40) (h1_.mono (((((((le1.trans le9).trans le10).trans le11).trans le16).trans le17).trans le22).trans le23)) hx17) (fun w28 I44 => ?_))
       refine wl_op rfl (op_move (v := (Value.tuple #[(Value.int .i64 (x17.1)), (Value.int .i64 (x17.2.1)), (Value.int .i64 (x17.2.2))])) rfl rfl ?_)
       refine wl_op rfl (op_extract (v := (Value.int .i64 (x17.1))) rfl rfl rfl ?_)
       refine wl_op rfl (op_extract (v := (Value.int .i64 (x17.2.1))) rfl rfl rfl ?_)
       refine wl_op rfl (op_extract (v := (Value.int .i64 (x17.2.2))) rfl rfl rfl ?_)
       refine wl_op rfl (op_assign (v := (Value.int .i64 (x17.1))) rfl rfl ?_)
       refine wl_op rfl (op_assign (v := (Value.int .i64 (x17.2.1))) rfl rfl ?_)
       refine wl_op rfl (op_assign (v := (Value.int .i64 (x17.2.2))) rfl rfl ?_)
       refine wl_nil ?_
       refine wp_seq' ?_
       refine wp_region' ?_
       refine wl_op rfl (op_load (v := (Value.pointer (some ⟨g1, 0, none⟩))) (e := a0) rfl sh25 e45 ((p1.mono ((((((le9.trans le10).trans le11).trans le16).trans le17).trans le22).trans le23)).at_ I44) (fun u15 hu15 => ?_))
       obtain ⟨c27, c28, e49, r41, r42⟩ := Graph.inv hu15
       subst e49
       obtain ⟨z34, m34, k34, e50⟩ := rv_form r41
       subst e50
       obtain ⟨z35, m35, k35, e51⟩ := rv_form r42
       subst e51
       refine wl_op rfl (op_move (v := (Value.slice z3 m3 k3)) rfl e44 ?_)
       obtain ⟨x18, hx18, h⟩ := bnd h
       refine wl_op rfl (op_call_v (vs := [(Value.agg #[(Value.slice z34 m34 k34), (Value.slice z35 m35 k35)]), (Value.slice z3 m3 k3)]) (r := (Value.tuple #[(Value.int .i64 (x18.1)), (Value.int .i64 (x18.2.1)), (Value.int .i64 (x18.2.2))])) rfl ca43 rfl (args2 rfl rfl) I44 (fun Fr_ hF_ => F43_ok hF_ (Graph.rv (s := a0) r41 r42) (h1_.mono (((((((le1.trans le9).trans le10).trans le11).trans le16).trans le17).trans le22).trans le23)) hx18) (fun w29 I45 => ?_))
       refine wl_op rfl (op_move (v := (Value.tuple #[(Value.int .i64 (x18.1)), (Value.int .i64 (x18.2.1)), (Value.int .i64 (x18.2.2))])) rfl rfl ?_)
       refine wl_op rfl (op_extract (v := (Value.int .i64 (x18.1))) rfl rfl rfl ?_)
       refine wl_op rfl (op_extract (v := (Value.int .i64 (x18.2.1))) rfl rfl rfl ?_)
       refine wl_op rfl (op_extract (v := (Value.int .i64 (x18.2.2))) rfl rfl rfl ?_)
       refine wl_op rfl (op_assign (v := (Value.int .i64 (x18.1))) rfl rfl ?_)
       refine wl_op rfl (op_assign (v := (Value.int .i64 (x18.2.1))) rfl rfl ?_)
       refine wl_op rfl (op_assign (v := (Value.int .i64 (x18.2.2))) rfl rfl ?_)
       refine wl_nil ?_
       refine wp_seq' ?_
       refine wp_region' ?_
       refine wl_op rfl (op_move (v := (Value.int .i64 (x17.1))) rfl rfl ?_)
       refine wl_op rfl (op_move (v := (Value.int .i64 (x18.1))) rfl rfl ?_)
       refine wl_op rfl (op_eql (a := x17.1) (b := x18.1) rfl rfl rfl ?_)
       refine wl_op rfl (op_move (v := (Value.bool (x17.1 == x18.1))) rfl rfl ?_)
       rcases ifs h with ⟨hc15, h⟩ | ⟨hc15, h⟩
       ·
        refine wl_taken (c := x17.1 == x18.1) rfl rfl rfl rfl hc15 (op_move (v := (Value.int .i64 (x17.2.1))) rfl rfl ?_)
        refine wl_taken (c := x17.1 == x18.1) rfl rfl rfl rfl hc15 (op_move (v := (Value.int .i64 (x18.2.1))) rfl rfl ?_)
        refine wl_taken (c := x17.1 == x18.1) rfl rfl rfl rfl hc15 (op_eql (a := x17.2.1) (b := x18.2.1) rfl rfl rfl ?_)
        refine wl_op rfl (op_pick_t (c := x17.1 == x18.1) (a := (Value.bool (x17.2.1 == x18.2.1))) rfl rfl hc15 rfl ?_)
        refine wl_op rfl (op_move (v := (Value.bool (x17.2.1 == x18.2.1))) rfl rfl ?_)
        rcases ifs h with ⟨hc16, h⟩ | ⟨hc16, h⟩
        ·
         refine wl_taken (c := x17.2.1 == x18.2.1) rfl rfl rfl rfl hc16 (op_move (v := (Value.int .i64 (x17.2.2))) rfl rfl ?_)
         refine wl_taken (c := x17.2.1 == x18.2.1) rfl rfl rfl rfl hc16 (op_move (v := (Value.int .i64 (x18.2.2))) rfl rfl ?_)
         refine wl_taken (c := x17.2.1 == x18.2.1) rfl rfl rfl rfl hc16 (op_eql (a := x17.2.2) (b := x18.2.2) rfl rfl rfl ?_)
         refine wl_op rfl (op_pick_t (c := x17.2.1 == x18.2.1) (a := (Value.bool (x17.2.2 == x18.2.2))) rfl rfl hc16 rfl ?_)
         refine wl_op rfl (op_move (v := (Value.bool (x17.2.2 == x18.2.2))) rfl rfl ?_)
         rcases ifs h with ⟨hc17, h⟩ | ⟨hc17, h⟩
         ·
          obtain ⟨x19, hx19, h⟩ := bnd h
          refine wl_taken (c := x17.2.2 == x18.2.2) rfl rfl rfl rfl hc17 (op_call_v (vs := []) (r := (Value.bool (x19))) rfl ca17 rfl args0 I45 (fun Fr_ hF_ => F17_ok hF_  hx19) (fun w30 I46 => ?_))
          refine wl_op rfl (op_pick_t (c := x17.2.2 == x18.2.2) (a := (Value.bool (x19))) rfl rfl hc17 rfl ?_)
          refine wl_op rfl (op_assign (v := (Value.bool (x19))) rfl rfl ?_)
          refine wl_nil ?_
          refine wp_ret' ?_
          obtain rfl := Option.some.inj h
          exact ⟨(Value.bool (x19)), (res1 rfl rfl), _, [], (((((((le1.trans le9).trans le10).trans le11).trans le16).trans le17).trans le22).trans le23), I46, rfl, rfl⟩
         ·
          refine wl_skip (c := x17.2.2 == x18.2.2) rfl rfl rfl rfl hc17 rfl ?_
          refine wl_op rfl (op_pick_f (c := x17.2.2 == x18.2.2) (b := (Value.bool (false))) rfl rfl hc17 rfl ?_)
          refine wl_op rfl (op_assign (v := (Value.bool (false))) rfl rfl ?_)
          refine wl_nil ?_
          refine wp_ret' ?_
          obtain rfl := Option.some.inj h
          exact ⟨(Value.bool (false)), (res1 rfl rfl), _, [], (((((((le1.trans le9).trans le10).trans le11).trans le16).trans le17).trans le22).trans le23), I45, rfl, rfl⟩
        ·
         refine wl_skip (c := x17.2.1 == x18.2.1) rfl rfl rfl rfl hc16 rfl ?_
         refine wl_skip (c := x17.2.1 == x18.2.1) rfl rfl rfl rfl hc16 rfl ?_
         refine wl_skip (c := x17.2.1 == x18.2.1) rfl rfl rfl rfl hc16 rfl ?_
         refine wl_op rfl (op_pick_f (c := x17.2.1 == x18.2.1) (b := (Value.bool (false))) rfl rfl hc16 rfl ?_)
         refine wl_op rfl (op_move (v := (Value.bool (false))) rfl rfl ?_)
         refine wl_skip (c := false) rfl rfl rfl rfl rfl rfl ?_
         refine wl_op rfl (op_pick_f (c := false) (b := (Value.bool (false))) rfl rfl rfl rfl ?_)
         refine wl_op rfl (op_assign (v := (Value.bool (false))) rfl rfl ?_)
         refine wl_nil ?_
         refine wp_ret' ?_
         obtain rfl := Option.some.inj h
         exact ⟨(Value.bool (false)), (res1 rfl rfl), _, [], (((((((le1.trans le9).trans le10).trans le11).trans le16).trans le17).trans le22).trans le23), I45, rfl, rfl⟩
       ·
        refine wl_skip (c := x17.1 == x18.1) rfl rfl rfl rfl hc15 rfl ?_
        refine wl_skip (c := x17.1 == x18.1) rfl rfl rfl rfl hc15 rfl ?_
        refine wl_skip (c := x17.1 == x18.1) rfl rfl rfl rfl hc15 rfl ?_
        refine wl_op rfl (op_pick_f (c := x17.1 == x18.1) (b := (Value.bool (false))) rfl rfl hc15 rfl ?_)
        refine wl_op rfl (op_move (v := (Value.bool (false))) rfl rfl ?_)
        refine wl_skip (c := false) rfl rfl rfl rfl rfl rfl ?_
        refine wl_skip (c := false) rfl rfl rfl rfl rfl rfl ?_
        refine wl_skip (c := false) rfl rfl rfl rfl rfl rfl ?_
        refine wl_op rfl (op_pick_f (c := false) (b := (Value.bool (false))) rfl rfl rfl rfl ?_)
        refine wl_op rfl (op_move (v := (Value.bool (false))) rfl rfl ?_)
        refine wl_skip (c := false) rfl rfl rfl rfl rfl rfl ?_
        refine wl_op rfl (op_pick_f (c := false) (b := (Value.bool (false))) rfl rfl rfl rfl ?_)
        refine wl_op rfl (op_assign (v := (Value.bool (false))) rfl rfl ?_)
        refine wl_nil ?_
        refine wp_ret' ?_
        obtain rfl := Option.some.inj h
        exact ⟨(Value.bool (false)), (res1 rfl rfl), _, [], (((((((le1.trans le9).trans le10).trans le11).trans le16).trans le17).trans le22).trans le23), I45, rfl, rfl⟩
end Go.Proofs.Ytogfongmnkmegaa.Pad
