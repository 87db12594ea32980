/- A part of the proof: what the functions of the program compute, shown over the model. -/
import Derived.Test.YtogfongmnkmegaaSeaXP
import Derived.Test.YtogfongmnkmegaaSeaXW8
import Derived.KernelRfl
set_option linter.unusedVariables false
namespace Go.Proofs.Ytogfongmnkmegaa.Pad
open Go Go.Proofs
set_option maxHeartbeats 4000000 in
set_option maxRecDepth 100000 in
theorem F75_ok {w : World} {S : PH} {Fr : List HP} {a0 : Graph} {v0 : Value} {r : Int} (hI : Inv w S (Fr)) (h0_ : RV S v0 a0) (h : F75 a0 = some r) :
    Calls Try.prog 75 [v0].toArray w (DoneV S Fr (Value.int .i64 (r))) := by
 unfold F75 at h
 obtain ⟨c1, c2, e1, r1, r2⟩ := Graph.inv h0_
 subst e1
 obtain ⟨z1, m1, k1, e2⟩ := rv_form r1
 subst e2
 obtain ⟨z2, m2, k2, e3⟩ := rv_form r2
 subst e3
 refine calls_enter (n := 21) (vs := [(Value.agg #[(Value.slice z1 m1 k1), (Value.slice z2 m2 k2)])]) Try.func75 rfl rfl rfl ?_
 refine wp_seq' ?_
 refine wp_region' ?_
 refine wl_op rfl (op_box (v := (Value.agg #[(Value.slice z1 m1 k1), (Value.slice z2 m2 k2)])) rfl hI rfl (fun g1 w1 I1 => ?_))
 obtain ⟨S1, le1, I2, p1⟩ := Inv.boxFreeze (x := a0) I1 (Graph.rv (s := a0) r1 r2)
 refine wl_op rfl (op_assign (v := (Value.int .i64 (0))) rfl rfl ?_)
 refine wl_nil ?_
 refine wp_seq' ?_
 refine wp_region' ?_
 refine wl_op rfl (op_assign (v := (Value.int .i64 (1))) rfl rfl ?_)
 refine wl_nil ?_
 refine wp_seq' ?_
 refine wp_seq' ?_
 refine wp_region' ?_
 refine wl_op rfl (op_assign (v := (Value.int .i64 (0))) rfl rfl ?_)
 refine wl_nil ?_
 have hk1 : a0.Edges.length ≤ 9223372036854775807 := (rv_len r2)
 obtain ⟨out1, hrun1, h⟩ := bnd h
 refine wp_cutN (fun f w => Inv w S1 (Fr) ∧ f 1 = (Value.pointer (some ⟨g1, 0, none⟩)) ∧ f 3 = (Value.int .i64 (out1))) ?_ ?_
 ·
  refine wp_block' ?_
  refine wp_forS (I := fun (i1 : Nat) (s1 : (Int)) (f : Frm) (w : World) => Inv w S1 (Fr) ∧ f 1 = (Value.pointer (some ⟨g1, 0, none⟩)) ∧ f 3 = (Value.int .i64 (s1)) ∧ f 4 = (Value.int .i64 (i1 : Int))) hrun1 ⟨I2, rfl, rfl, rfl⟩ ?_ ?_
  ·
   rintro i1 s1 f w o1 hlt1 hI1 h1
   obtain ⟨I6, e27, e28, e29⟩ := hI1
   refine wp_seq' ?_
   refine wp_seq' ?_
   refine wp_region' ?_
   refine wl_op rfl (op_move (v := (Value.int .i64 ((i1 : Int)))) rfl e29 ?_)
   refine wl_op rfl (op_fieldAddr_t (v := (Value.pointer (some ⟨g1, 0, none⟩))) rfl fa25_1 e27 (p1.at_ I6) ?_)
   refine wl_op rfl (op_load (v := (fieldPtr (Value.pointer (some ⟨g1, 0, none⟩)) 1)) (e := a0.Edges) rfl sh23 rfl ((p1.at_ I6).fld Graph.fld1) (fun u16 hu16 => ?_))
   obtain ⟨z18, m18, k18, e31⟩ := rv_form hu16
   subst e31
   refine wl_op rfl (op_len_rv rfl Try.underlying23 rfl hu16 ?_)
   refine wl_op rfl (op_lss (a := (i1 : Int)) (b := (a0.Edges.length : Int)) rfl rfl rfl ?_)
   refine wl_nil ?_
   refine wp_cond_t (b := decide ((i1 : Int) < (a0.Edges.length : Int))) rfl (len_t hlt1) ?_
   refine wp_skip' ?_
   refine wp_seq' ?_
   refine wp_block' ?_
   refine wp_region' ?_
   refine wl_op rfl (op_move (v := (Value.int .i64 (s1))) rfl e28 ?_)
   refine wl_op rfl (op_fieldAddr_t (v := (Value.pointer (some ⟨g1, 0, none⟩))) rfl fa25_1 e27 (p1.at_ I6) ?_)
   refine wl_op rfl (op_load (v := (fieldPtr (Value.pointer (some ⟨g1, 0, none⟩)) 1)) (e := a0.Edges) rfl sh23 rfl ((p1.at_ I6).fld Graph.fld1) (fun u17 hu17 => ?_))
   obtain ⟨z19, m19, k19, e32⟩ := rv_form hu17
   subst e32
   refine wl_op rfl (op_move (v := (Value.int .i64 ((i1 : Int)))) rfl e29 ?_)
   obtain ⟨x4, hx4, h1⟩ := bnd h1
   refine wl_op rfl (op_indexAddr_rv (v := (Value.slice z19 m19 k19)) (i := (i1 : Int)) (e := x4) rfl Try.underlying23 sh40 rfl hu17 rfl hx4 ?_)
   refine wl_op rfl (op_load (v := (elemPtr (Value.slice z19 m19 k19) ((i1 : Int)) (Enc.sz (List Edge)))) (e := x4) rfl sh40 rfl (hu17.elem I6.in_ hx4) (fun u18 hu18 => ?_))
   obtain ⟨z20, m20, k20, e33⟩ := rv_form hu18
   subst e33
   refine wl_op rfl (op_len_rv rfl Try.underlying40 rfl hu18 ?_)
   refine wl_op rfl (op_max (a := s1) (b := (x4.length : Int)) rfl rfl rfl ?_)
   refine wl_op rfl (op_assign (v := (Value.int .i64 (maxI s1 (x4.length : Int)))) rfl rfl ?_)
   refine wl_nil ?_
   refine wp_region' ?_
   refine wl_op rfl (op_move (v := (Value.int .i64 ((i1 : Int)))) rfl e29 ?_)
   refine wl_op rfl (op_add (a := (i1 : Int)) (b := 1) rfl rfl rfl ?_)
   refine wl_op rfl (op_assign (v := (Value.int .i64 (w64 ((i1 : Int) + 1)))) rfl rfl ?_)
   refine wl_nil ?_
   obtain rfl := Option.some.inj h1
   exact ⟨I6, e27, rfl, (idx_next hlt1 hk1)⟩
  ·
   rintro f w hI2
   obtain ⟨I7, e34, e35, e36⟩ := hI2
   refine wp_seq' ?_
   refine wp_seq' ?_
   refine wp_region' ?_
   refine wl_op rfl (op_move (v := (Value.int .i64 ((a0.Edges.length : Int)))) rfl e36 ?_)
   refine wl_op rfl (op_fieldAddr_t (v := (Value.pointer (some ⟨g1, 0, none⟩))) rfl fa25_1 e34 (p1.at_ I7) ?_)
   refine wl_op rfl (op_load (v := (fieldPtr (Value.pointer (some ⟨g1, 0, none⟩)) 1)) (e := a0.Edges) rfl sh23 rfl ((p1.at_ I7).fld Graph.fld1) (fun u20 hu20 => ?_))
   obtain ⟨z22, m22, k22, e38⟩ := rv_form hu20
   subst e38
   refine wl_op rfl (op_len_rv rfl Try.underlying23 rfl hu20 ?_)
   refine wl_op rfl (op_lss (a := (a0.Edges.length : Int)) (b := (a0.Edges.length : Int)) rfl rfl rfl ?_)
   refine wl_nil ?_
   refine wp_cond_f (b := decide ((a0.Edges.length : Int) < (a0.Edges.length : Int))) rfl (len_f _) ?_
   refine wp_exit' ?_
   exact ⟨I7, e34, e35⟩
 ·
  rintro f w ⟨I8, e39, e40⟩
  refine wp_seq' ?_
  refine wp_region' ?_
  refine wl_op rfl (op_move (v := (Value.int .i64 (out1))) rfl e40 ?_)
  refine wl_op rfl (op_assign (v := (Value.int .i64 (out1))) rfl rfl ?_)
  refine wl_nil ?_
  refine wp_ret' ?_
  obtain rfl := Option.some.inj h
  exact ⟨(Value.int .i64 (out1)), (res1 rfl rfl), _, [], le1, I8, rfl, rfl⟩

set_option maxHeartbeats 4000000 in
set_option maxRecDepth 100000 in
theorem F51_ok {w : World} {S : PH} {Fr : List HP} {a0 : Graph} {v0 : Value} {a1 : (List Int)} {v1 : Value} {a2 : Int} {a3 : Int} {r : (List Int) × Bool} (hI : Inv w S (Fr)) (h0_ : RV S v0 a0) (h1_ : RV S v1 a1) (h : F51 a0 a1 a2 a3 = some r) :
    Calls Try.prog 51 [v0, v1, (Value.int .i64 (a2)), (Value.int .i64 (a3))].toArray w (Done S Fr (fun T_ v_ O_ => ∃ (a0_ : Option Addr) (n0_ k0_ : Nat), v_ = (Value.tuple #[(Value.slice a0_ n0_ k0_), (Value.bool (r.2))]) ∧ O_ = [Row (α := Int) 3 (Value.slice a0_ n0_ k0_) (r.1)])) := by
 unfold F51 at h
 obtain ⟨c1, c2, e1, r1, r2⟩ := Graph.inv h0_
 subst e1
 obtain ⟨z1, m1, k1, e2⟩ := rv_form r1
 subst e2
 obtain ⟨z2, m2, k2, e3⟩ := rv_form r2
 subst e3
 obtain ⟨z3, m3, k3, e4⟩ := rv_form h1_
 subst e4
 refine calls_enter (n := 38) (vs := [(Value.agg #[(Value.slice z1 m1 k1), (Value.slice z2 m2 k2)]), (Value.slice z3 m3 k3), (Value.int .i64 (a2)), (Value.int .i64 (a3))]) Try.func51 rfl rfl rfl ?_
 refine wp_seq' ?_
 refine wp_region' ?_
 refine wl_op rfl (op_box (v := (Value.agg #[(Value.slice z1 m1 k1), (Value.slice z2 m2 k2)])) rfl hI rfl (fun g1 w1 I1 => ?_))
 obtain ⟨S1, le1, I2, p1⟩ := Inv.boxFreeze (x := a0) I1 (Graph.rv (s := a0) r1 r2)
 refine wl_op rfl (op_assign (v := (Value.slice none 0 0)) rfl rfl ?_)
 refine wl_op rfl (op_assign (v := (Value.bool (false))) rfl rfl ?_)
 refine wl_nil ?_
 refine wp_seq' ?_
 refine wp_region' ?_
 refine wl_op rfl (op_assign (v := (Value.slice none 0 0)) rfl rfl ?_)
 refine wl_nil ?_
 refine wp_seq' ?_
 refine wp_seq' ?_
 refine wp_region' ?_
 refine wl_op rfl (op_assign (v := (Value.int .i64 (0))) rfl rfl ?_)
 refine wl_nil ?_
 have I21 := Inv.rowNil (α := Int) (T := 3) I2
 obtain ⟨o2, hrun1, h⟩ := bnd h
 refine wp_cutN (fun f w => ∃ out1, o2 = Sum.inl out1 ∧ ∃ (S_ : PH) (z30 : Option Addr) (m30 k30 : Nat), S1.Le S_ ∧ Inv w S_ (Row (α := Int) 3 (Value.slice z30 m30 k30) (out1.1) :: Fr) ∧ f 1 = (Value.slice z3 m3 k3) ∧ f 2 = (Value.int .i64 (a2)) ∧ f 3 = (Value.int .i64 (a3)) ∧ f 4 = (Value.pointer (some ⟨g1, 0, none⟩)) ∧ f 10 = (Value.slice z30 m30 k30) ∧ f 11 = (Value.int .i64 (out1.2))) ?_ ?_
 ·
  refine wp_block' ?_
  refine wp_whileO (I := fun (s1 : (List Int × Int)) (f : Frm) (w : World) => ∃ (S_ : PH) (z29 : Option Addr) (m29 k29 : Nat), S1.Le S_ ∧ Inv w S_ (Row (α := Int) 3 (Value.slice z29 m29 k29) (s1.1) :: Fr) ∧ f 1 = (Value.slice z3 m3 k3) ∧ f 2 = (Value.int .i64 (a2)) ∧ f 3 = (Value.int .i64 (a3)) ∧ f 4 = (Value.pointer (some ⟨g1, 0, none⟩)) ∧ f 10 = (Value.slice z29 m29 k29) ∧ f 11 = (Value.int .i64 (s1.2))) hrun1 ⟨_, _, _, _, (PH.Le.refl _), I21, rfl, rfl, rfl, rfl, rfl, rfl⟩ ?_
  rintro s1 f w o1 hI1 h1 hout1
  obtain ⟨S7, z29, m29, k29, le7, I22, e56, e57, e58, e59, e60, e61⟩ := hI1
  refine wp_seq' ?_
  refine wp_seq' ?_
  refine wp_region' ?_
  refine wl_op rfl (op_move (v := (Value.int .i64 (s1.2))) rfl e61 ?_)
  refine wl_op rfl (op_load (v := (Value.pointer (some ⟨g1, 0, none⟩))) (e := a0) rfl sh25 e59 ((p1.mono le7).at_ I22) (fun u14 hu8 => ?_))
  obtain ⟨c17, c18, e62, r17, r18⟩ := Graph.inv hu8
  subst e62
  obtain ⟨z31, m31, k31, e63⟩ := rv_form r17
  subst e63
  obtain ⟨z32, m32, k32, e64⟩ := rv_form r18
  subst e64
  obtain ⟨x11, hx11, h1⟩ := bnd h1
  refine wl_op rfl (op_call_v (vs := [(Value.agg #[(Value.slice z31 m31 k31), (Value.slice z32 m32 k32)])]) (r := (Value.int .i64 (x11))) rfl ca75 rfl (args1 rfl) I22 (fun Fr_ hF_ => F75_ok hF_ (Graph.rv (s := a0) r17 r18) hx11) (fun w15 I23 => ?_))
  refine wl_op rfl (op_lss (a := s1.2) (b := x11) rfl rfl rfl ?_)
  refine wl_nil ?_
  rcases ifs h1 with ⟨hc7, h1⟩ | ⟨hc7, h1⟩
  ·
   refine wp_cond_t (b := decide (s1.2 < x11)) rfl hc7 ?_
   refine wp_skip' ?_
   refine wp_seq' ?_
   refine wp_block' ?_
   refine wp_seq' ?_
   refine wp_region' ?_
   refine wl_op rfl (op_load (v := (Value.pointer (some ⟨g1, 0, none⟩))) (e := a0) rfl sh25 e59 ((p1.mono le7).at_ I23) (fun u15 hu9 => ?_))
   obtain ⟨c19, c20, e65, r19, r20⟩ := Graph.inv hu9
   subst e65
   obtain ⟨z33, m33, k33, e66⟩ := rv_form r19
   subst e66
   obtain ⟨z34, m34, k34, e67⟩ := rv_form r20
   subst e67
   refine wl_op rfl (op_move (v := (Value.slice z3 m3 k3)) rfl e56 ?_)
   refine wl_op rfl (op_move (v := (Value.int .i64 (a2))) rfl e57 ?_)
   refine wl_op rfl (op_move (v := (Value.int .i64 (s1.2))) rfl e61 ?_)
   refine wl_op rfl (op_build (qs := [(0, #[(Value.int .i64 (a2))]), (1, #[(Value.int .i64 (s1.2))])]) (c := #[(Value.int .i64 (a2)), (Value.int .i64 (s1.2))]) rfl st28 ⟨rfl, rfl, ⟨rfl, rfl, trivial⟩⟩ rfl ?_)
   refine wl_op rfl (op_move (v := (Value.int .i64 (a3))) rfl e58 ?_)
   obtain ⟨x12, hx12, h1⟩ := bnd h1
   refine wl_op rfl (op_call (vs := [(Value.agg #[(Value.slice z33 m33 k33), (Value.slice z34 m34 k34)]), (Value.slice z3 m3 k3), (Value.agg #[(Value.int .i64 (a2)), (Value.int .i64 (s1.2))]), (Value.int .i64 (a3))]) rfl ca48 rfl (args4 rfl rfl rfl rfl) (F48_ok I23 (Graph.rv (s := a0) r19 r20) (h1_.mono (le1.trans le7)) (Mind.rv (s := (⟨a2, s1.2⟩ : Mind))) hx12) (fun v4 w16 S8 O4 le8 I24 hv4 => ?_))
   obtain ⟨z35, m35, k35, rfl, rfl⟩ := hv4
   refine wl_op rfl (op_move (v := (Value.tuple #[(Value.slice z35 m35 k35), (Value.bool (x12.2))])) rfl rfl ?_)
   refine wl_op rfl (op_extract (v := (Value.slice z35 m35 k35)) rfl rfl rfl ?_)
   refine wl_op rfl (op_extract (v := (Value.bool (x12.2))) rfl rfl rfl ?_)
   refine wl_op rfl (op_assign (v := (Value.slice z35 m35 k35)) rfl rfl ?_)
   refine wl_op rfl (op_assign (v := (Value.bool (x12.2))) rfl rfl ?_)
   refine wl_nil ?_
   refine wp_seq' ?_
   refine wp_seq' ?_
   refine wp_region' ?_
   refine wl_op rfl (op_move (v := (Value.bool (x12.2))) rfl rfl ?_)
   refine wl_op rfl (op_not (b := x12.2) rfl rfl ?_)
   refine wl_nil ?_
   rcases ifs h1 with ⟨hc8, h1⟩ | ⟨hc8, h1⟩
   ·
    refine wp_cond_t (b := !x12.2) rfl hc8 ?_
    refine wp_seq' ?_
    refine wp_region' ?_
    refine wl_op rfl (op_assign (v := (Value.slice none 0 0)) rfl rfl ?_)
    refine wl_op rfl (op_assign (v := (Value.bool (false))) rfl rfl ?_)
    refine wl_nil ?_
    refine wp_ret' ?_
    obtain rfl := Option.some.inj h1
    obtain rfl := (hout1 _ rfl)
    have h2 := h
    have I25 := Inv.rowNil (α := Int) (T := 3) I24
    obtain rfl := Option.some.inj h2
    exact ⟨(Value.tuple #[(Value.slice none 0 0), (Value.bool (false))]), (res2 rfl rfl rfl), _, [Row (α := Int) 3 (Value.slice none 0 0) (([] : List Int))], ((le1.trans le7).trans le8), ((I25.pull 1).drop.pull 1).drop, _, _, _, rfl, rfl⟩
   ·
    refine wp_cond_f (b := !x12.2) rfl hc8 ?_
    refine wp_skip' ?_
    refine wp_region' ?_
    refine wl_op rfl (op_move (v := (Value.slice z29 m29 k29)) rfl e60 ?_)
    refine wl_op rfl (op_move (v := (Value.slice z35 m35 k35)) rfl rfl ?_)
    refine wl_op rfl (op_len_row (α := Int) rfl Try.underlying26 rfl (I24.nth 0 rfl) ?_)
    refine wl_op rfl (op_buildSlice (vs := [(Value.int .i64 ((x12.1.length : Int)))]) (r := ([(x12.1.length : Int)] : List Int)) rfl Try.underlying26 el3 (parts1 rfl) rfl (by decide) (by decide) ⟨(rv_int' _), trivial⟩ I24 (fun u16 w17 I26 => ?_))
    obtain ⟨z36, m36, k36, e68⟩ := row_form I26
    subst e68
    obtain ⟨x13, hx13, h1⟩ := bnd h1
    refine wl_op rfl (op_append (α := Int) (v := (Value.slice z29 m29 k29)) (u := (Value.slice z36 m36 k36)) rfl rfl Try.underlying26 el3 (by decide) (by decide) rfl rfl (I26.pull 2) (Inv.rowSrc (I26.nth 0 rfl)) hx13 (fun u17 w18 I27 => ?_))
    obtain ⟨z37, m37, k37, e69⟩ := row_form I27
    subst e69
    refine wl_op rfl (op_assign (v := (Value.slice z37 m37 k37)) rfl rfl ?_)
    refine wl_nil ?_
    refine wp_region' ?_
    refine wl_op rfl (op_move (v := (Value.int .i64 (s1.2))) rfl e61 ?_)
    refine wl_op rfl (op_add (a := s1.2) (b := 1) rfl rfl rfl ?_)
    refine wl_op rfl (op_assign (v := (Value.int .i64 (w64 (s1.2 + 1)))) rfl rfl ?_)
    refine wl_nil ?_
    obtain rfl := Option.some.inj h1
    exact ⟨_, rfl, _, _, _, _, (le7.trans le8), ((I27.pull 1).drop.pull 1).drop, e56, e57, e58, e59, rfl, rfl⟩
  ·
   refine wp_cond_f (b := decide (s1.2 < x11)) rfl hc7 ?_
   refine wp_exit' ?_
   obtain rfl := Option.some.inj h1
   obtain rfl := (hout1 _ rfl)
   exact ⟨_, rfl, _, _, _, _, le7, I23, e56, e57, e58, e59, e60, e61⟩
 ·
  rintro f w ⟨out1, rfl, S9, z30, m30, k30, le9, I28, e70, e71, e72, e73, e74, e75⟩
  have h := onL_inl h
  refine wp_seq' ?_
  refine wp_region' ?_
  refine wl_op rfl (op_move (v := (Value.slice z30 m30 k30)) rfl e74 ?_)
  refine wl_op rfl (op_assign (v := (Value.slice z30 m30 k30)) rfl rfl ?_)
  refine wl_op rfl (op_assign (v := (Value.bool (true))) rfl rfl ?_)
  refine wl_nil ?_
  refine wp_ret' ?_
  obtain rfl := Option.some.inj h
  exact ⟨(Value.tuple #[(Value.slice z30 m30 k30), (Value.bool (true))]), (res2 rfl rfl rfl), _, [Row (α := Int) 3 (Value.slice z30 m30 k30) (out1.1)], (le1.trans le9), I28, _, _, _, rfl, rfl⟩
end Go.Proofs.Ytogfongmnkmegaa.Pad
