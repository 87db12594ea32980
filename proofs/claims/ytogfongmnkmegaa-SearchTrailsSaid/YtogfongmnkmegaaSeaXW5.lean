/- A part of the proof: what the functions of the program compute, shown over the model. -/
import Derived.Test.YtogfongmnkmegaaSeaXP
import Derived.Test.YtogfongmnkmegaaSeaXW1
import Derived.Test.YtogfongmnkmegaaSeaXW3
import Derived.Test.YtogfongmnkmegaaSeaXW4
import Derived.KernelRfl
set_option linter.unusedVariables false
namespace Go.Proofs.Ytogfongmnkmegaa.Pad
open Go Go.Proofs
set_option maxHeartbeats 4000000 in
set_option maxRecDepth 100000 in
theorem F48_ok {w : World} {S : PH} {Fr : List HP} {a0 : Graph} {v0 : Value} {a1 : (List Int)} {v1 : Value} {a2 : Mind} {v2 : Value} {a3 : Int} {r : (List Int) × Bool} (hI : Inv w S (Fr)) (h0_ : RV S v0 a0) (h1_ : RV S v1 a1) (h2_ : RV S v2 a2) (h : F48 a0 a1 a2 a3 = some r) :
    Calls Try.prog 48 [v0, v1, v2, (Value.int .i64 (a3))].toArray w (Done S Fr (fun T_ v_ O_ => ∃ (a0_ : Option Addr) (n0_ k0_ : Nat), v_ = (Value.tuple #[(Value.slice a0_ n0_ k0_), (Value.bool (r.2))]) ∧ O_ = [Row (α := Int) 3 (Value.slice a0_ n0_ k0_) (r.1)])) := by
 unfold F48 at h
 obtain ⟨c1, c2, e1, r1, r2⟩ := Graph.inv h0_
 subst e1
 obtain ⟨z1, m1, k1, e2⟩ := rv_form r1
 subst e2
 obtain ⟨z2, m2, k2, e3⟩ := rv_form r2
 subst e3
 obtain ⟨z3, m3, k3, e4⟩ := rv_form h1_
 subst e4
 have e5 := Mind.inv h2_
 subst e5
 refine calls_enter (n := 100) (vs := [(Value.agg #[(Value.slice z1 m1 k1), (Value.slice z2 m2 k2)]), (Value.slice z3 m3 k3), (Value.agg #[(Value.int .i64 (a2.Memory)), (Value.int .i64 (a2.Turn))]), (Value.int .i64 (a3))]) Try.func48 rfl rfl rfl ?_
 refine wp_seq' ?_
 refine wp_region' ?_
 refine wl_op rfl (op_box (v := (Value.agg #[(Value.slice z1 m1 k1), (Value.slice z2 m2 k2)])) rfl hI rfl (fun g1 w1 I1 => ?_))
 obtain ⟨S1, le1, I2, p1⟩ := Inv.boxFreeze (x := a0) I1 (Graph.rv (s := a0) r1 r2)
 refine wl_op rfl (op_box (v := (Value.agg #[(Value.int .i64 (a2.Memory)), (Value.int .i64 (a2.Turn))])) rfl I2 rfl (fun g2 w2 I3 => ?_))
 obtain ⟨S2, le2, I4, p2⟩ := Inv.boxFreeze (x := a2) I3 (Mind.rv (s := a2))
 refine wl_op rfl (op_assign (v := (Value.slice none 0 0)) rfl rfl ?_)
 refine wl_op rfl (op_assign (v := (Value.bool (false))) rfl rfl ?_)
 refine wl_nil ?_
 refine wp_seq' ?_
 refine wp_region' ?_
 refine wl_op rfl (op_assign (v := (Value.slice none 0 0)) rfl rfl ?_)
 refine wl_nil ?_
 refine wp_seq' ?_
 refine wp_region' ?_
 refine wl_op rfl (op_assign (v := (Value.slice none 0 0)) rfl rfl ?_)
 refine wl_nil ?_
 refine wp_seq' ?_
 refine wp_region' ?_
 refine wl_op rfl (op_assign (v := (Value.int .i64 (0))) rfl rfl ?_)
 refine wl_nil ?_
 have I427 := Inv.rowNil (α := Int) (T := 3) I4
 have I428 := Inv.rowNil (α := Ref06_gone) (T := 99) I427
 obtain ⟨out1, hrun1, h⟩ := bnd h
 refine wp_cut (fun f w => ∃ (S_ : PH) (z242 : Option Addr) (m242 k242 : Nat) (z243 : Option Addr) (m243 k243 : Nat), S2.Le S_ ∧ Inv w S_ (Row (α := Int) 3 (Value.slice z242 m242 k242) (out1.1) :: Row (α := Ref06_gone) 99 (Value.slice z243 m243 k243) (out1.2.1) :: Fr) ∧ f 1 = (Value.slice z3 m3 k3) ∧ f 3 = (Value.int .i64 (a3)) ∧ f 4 = (Value.pointer (some ⟨g1, 0, none⟩)) ∧ f 6 = (Value.pointer (some ⟨g2, 0, none⟩)) ∧ f 10 = (Value.slice z242 m242 k242) ∧ f 11 = (Value.slice z243 m243 k243) ∧ f 12 = (Value.int .i64 (out1.2.2))) ?_ ?_
 ·
  refine wp_block' ?_
  refine wp_whileO (I := fun (s1 : (List Int × List Ref06_gone × Int)) (f : Frm) (w : World) => ∃ (S_ : PH) (z240 : Option Addr) (m240 k240 : Nat) (z241 : Option Addr) (m241 k241 : Nat), S2.Le S_ ∧ Inv w S_ (Row (α := Int) 3 (Value.slice z240 m240 k240) (s1.1) :: Row (α := Ref06_gone) 99 (Value.slice z241 m241 k241) (s1.2.1) :: Fr) ∧ f 1 = (Value.slice z3 m3 k3) ∧ f 3 = (Value.int .i64 (a3)) ∧ f 4 = (Value.pointer (some ⟨g1, 0, none⟩)) ∧ f 6 = (Value.pointer (some ⟨g2, 0, none⟩)) ∧ f 10 = (Value.slice z240 m240 k240) ∧ f 11 = (Value.slice z241 m241 k241) ∧ f 12 = (Value.int .i64 (s1.2.2))) hrun1 ⟨_, _, _, _, _, _, _, (PH.Le.refl _), (I428.pull 1), rfl, rfl, rfl, rfl, rfl, rfl, rfl⟩ ?_
  rintro s1 f w o1 hI133 h91 hout1
  obtain ⟨S209, z240, m240, k240, z241, m241, k241, le209, I429, e618, e619, e620, e621, e622, e623, e624⟩ := hI133
  obtain ⟨ov59, h94, h91⟩ := bnd h91
  refine wp_cut (fun f w => ∃ v59, ov59 = Sum.inl v59 ∧ Inv w S209 (Row (α := Int) 3 (Value.slice z240 m240 k240) (s1.1) :: Row (α := Ref06_gone) 99 (Value.slice z241 m241 k241) (s1.2.1) :: Fr) ∧ f 1 = (Value.slice z3 m3 k3) ∧ f 3 = (Value.int .i64 (a3)) ∧ f 4 = (Value.pointer (some ⟨g1, 0, none⟩)) ∧ f 6 = (Value.pointer (some ⟨g2, 0, none⟩)) ∧ f 10 = (Value.slice z240 m240 k240) ∧ f 11 = (Value.slice z241 m241 k241) ∧ f 12 = (Value.int .i64 (s1.2.2))) ?_ ?_
  ·
   refine wp_seq' ?_
   refine wp_region' ?_
   refine wl_op rfl (op_move (v := (Value.slice z3 m3 k3)) rfl e618 ?_)
   refine wl_op rfl (op_move (v := (Value.int .i64 (s1.2.2))) rfl e624 ?_)
   obtain ⟨x153, hx153, h94⟩ := bnd h94
   refine wl_op rfl (op_indexAddr_rv (v := (Value.slice z3 m3 k3)) (i := s1.2.2) (e := x153) rfl Try.underlying26 sh3 rfl (h1_.mono ((le1.trans le2).trans le209)) rfl hx153 ?_)
   refine wl_op rfl (op_load_int (v := (elemPtr (Value.slice z3 m3 k3) (s1.2.2) (Enc.sz Int))) (e := x153) rfl sh3 rfl ((h1_.mono ((le1.trans le2).trans le209)).elem I429.in_ hx153) ?_)
   refine wl_op rfl (op_neq (a := x153) (b := 0) rfl rfl rfl ?_)
   refine wl_op rfl (op_move (v := (Value.bool (x153 != 0))) rfl rfl ?_)
   rcases ifs h94 with ⟨hc88, h94⟩ | ⟨hc88, h94⟩
   ·
    refine wl_taken (c := x153 != 0) rfl rfl rfl rfl hc88 (op_fieldAddr_t (v := (Value.pointer (some ⟨g1, 0, none⟩))) rfl fa25_1 e620 ((p1.mono (le2.trans le209)).at_ I429) ?_)
    refine wl_taken (c := x153 != 0) rfl rfl rfl rfl hc88 (op_load (v := (fieldPtr (Value.pointer (some ⟨g1, 0, none⟩)) 1)) (e := a0.Edges) rfl sh23 rfl (((p1.mono (le2.trans le209)).at_ I429).fld Graph.fld1) (fun u213 hu141 => ?_))
    obtain ⟨z246, m246, k246, e627⟩ := rv_form hu141
    subst e627
    refine wl_taken (c := x153 != 0) rfl rfl rfl rfl hc88 (op_move (v := (Value.int .i64 (s1.2.2))) rfl e624 ?_)
    obtain ⟨x154, hx154, h94⟩ := bnd h94
    refine wl_taken (c := x153 != 0) rfl rfl rfl rfl hc88 (op_indexAddr_rv (v := (Value.slice z246 m246 k246)) (i := s1.2.2) (e := x154) rfl Try.underlying23 sh40 rfl hu141 rfl hx154 ?_)
    refine wl_taken (c := x153 != 0) rfl rfl rfl rfl hc88 (op_load (v := (elemPtr (Value.slice z246 m246 k246) (s1.2.2) (Enc.sz (List Edge)))) (e := x154) rfl sh40 rfl (hu141.elem I429.in_ hx154) (fun u214 hu142 => ?_))
    obtain ⟨z247, m247, k247, e628⟩ := rv_form hu142
    subst e628
    refine wl_taken (c := x153 != 0) rfl rfl rfl rfl hc88 (op_len_rv rfl Try.underlying40 rfl hu142 ?_)
    refine wl_taken (c := x153 != 0) rfl rfl rfl rfl hc88 (op_gtr (a := (x154.length : Int)) (b := 0) rfl rfl rfl ?_)
    refine wl_op rfl (op_pick_t (c := x153 != 0) (a := (Value.bool (decide (0 < (x154.length : Int))))) rfl rfl hc88 rfl ?_)
    refine wl_op rfl (op_move (v := (Value.bool (decide (0 < (x154.length : Int))))) rfl rfl ?_)
    rcases ifs h94 with ⟨hc89, h94⟩ | ⟨hc89, h94⟩
    ·
     refine wl_taken (c := decide (0 < (x154.length : Int))) rfl rfl rfl rfl hc89 (op_move (v := (Value.slice z240 m240 k240)) rfl e622 ?_)
     refine wl_taken (c := decide (0 < (x154.length : Int))) rfl rfl rfl rfl hc89 (op_len_row (α := Int) rfl Try.underlying26 rfl (I429.nth 0 rfl) ?_)
     refine wl_taken (c := decide (0 < (x154.length : Int))) rfl rfl rfl rfl hc89 (op_move (v := (Value.int .i64 (a3))) rfl e619 ?_)
     refine wl_taken (c := decide (0 < (x154.length : Int))) rfl rfl rfl rfl hc89 (op_lss (a := (s1.1.length : Int)) (b := a3) rfl rfl rfl ?_)
     refine wl_op rfl (op_pick_t (c := decide (0 < (x154.length : Int))) (a := (Value.bool (decide ((s1.1.length : Int) < a3)))) rfl rfl hc89 rfl ?_)
     refine wl_nil ?_
     rcases ifs h94 with ⟨hc90, h94⟩ | ⟨hc90, h94⟩
     ·
      refine wp_cond_t (b := decide ((s1.1.length : Int) < a3)) rfl hc90 ?_
      refine wp_skip' ?_
      obtain rfl := Option.some.inj h94
      exact ⟨_, rfl, ((I429.pull 1).pull 1), e618, e619, e620, e621, e622, e623, e624⟩
     ·
      refine wp_cond_f (b := decide ((s1.1.length : Int) < a3)) rfl hc90 ?_
      refine wp_exit' ?_
      obtain rfl := Option.some.inj h94
      have h95 := h91
      obtain rfl := Option.some.inj h95
      obtain rfl := (hout1 _ rfl)
      exact ⟨_, _, _, _, _, _, _, le209, ((I429.pull 1).pull 1), e618, e619, e620, e621, e622, e623, e624⟩
    ·
     refine wl_skip (c := decide (0 < (x154.length : Int))) rfl rfl rfl rfl hc89 rfl ?_
     refine wl_skip (c := decide (0 < (x154.length : Int))) rfl rfl rfl rfl hc89 rfl ?_
     refine wl_skip (c := decide (0 < (x154.length : Int))) rfl rfl rfl rfl hc89 rfl ?_
     refine wl_skip (c := decide (0 < (x154.length : Int))) rfl rfl rfl rfl hc89 rfl ?_
     refine wl_op rfl (op_pick_f (c := decide (0 < (x154.length : Int))) (b := (Value.bool (false))) rfl rfl hc89 rfl ?_)
     refine wl_nil ?_
     refine wp_cond_f (b := false) rfl rfl ?_
     refine wp_exit' ?_
     obtain rfl := Option.some.inj h94
     have h95 := h91
     obtain rfl := Option.some.inj h95
     obtain rfl := (hout1 _ rfl)
     exact ⟨_, _, _, _, _, _, _, le209, ((I429.pull 1).pull 1), e618, e619, e620, e621, e622, e623, e624⟩
   ·
    refine wl_skip (c := x153 != 0) rfl rfl rfl rfl hc88 rfl ?_
    refine wl_skip (c := x153 != 0) rfl rfl rfl rfl hc88 rfl ?_
    refine wl_skip (c := x153 != 0) rfl rfl rfl rfl hc88 rfl ?_
    refine wl_skip (c := x153 != 0) rfl rfl rfl rfl hc88 rfl ?_
    refine wl_skip (c := x153 != 0) rfl rfl rfl rfl hc88 rfl ?_
    refine wl_skip (c := x153 != 0) rfl rfl rfl rfl hc88 rfl ?_
    refine wl_skip (c := x153 != 0) rfl rfl rfl rfl hc88 rfl ?_
    refine wl_op rfl (op_pick_f (c := x153 != 0) (b := (Value.bool (false))) rfl rfl hc88 rfl ?_)
    refine wl_op rfl (op_move (v := (Value.bool (false))) rfl rfl ?_)
    refine wl_skip (c := false) rfl rfl rfl rfl rfl rfl ?_
    refine wl_skip (c := false) rfl rfl rfl rfl rfl rfl ?_
    refine wl_skip (c := false) rfl rfl rfl rfl rfl rfl ?_
    refine wl_skip (c := false) rfl rfl rfl rfl rfl rfl ?_
    refine wl_op rfl (op_pick_f (c := false) (b := (Value.bool (false))) rfl rfl rfl rfl ?_)
    refine wl_nil ?_
    refine wp_cond_f (b := false) rfl rfl ?_
    refine wp_exit' ?_
    obtain rfl := Option.some.inj h94
    have h95 := h91
    obtain rfl := Option.some.inj h95
    obtain rfl := (hout1 _ rfl)
    exact ⟨_, _, _, _, _, _, _, le209, ((I429.pull 1).pull 1), e618, e619, e620, e621, e622, e623, e624⟩
  ·
   rintro f w ⟨v59, rfl, I430, e629, e630, e631, e632, e633, e634, e635⟩
   have h91 := onL_inl h91
   refine wp_block' ?_
   refine wp_seq' ?_
   refine wp_region' ?_
   refine wl_op rfl (op_load (v := (Value.pointer (some ⟨g1, 0, none⟩))) (e := a0) rfl sh25 e631 ((p1.mono (le2.trans le209)).at_ I430) (fun u215 hu143 => ?_))
   obtain ⟨c39, c40, e636, r99, r100⟩ := Graph.inv hu143
   subst e636
   obtain ⟨z248, m248, k248, e637⟩ := rv_form r99
   subst e637
   obtain ⟨z249, m249, k249, e638⟩ := rv_form r100
   subst e638
   refine wl_op rfl (op_move (v := (Value.slice z241 m241 k241)) rfl e634 ?_)
   refine wl_op rfl (op_move (v := (Value.int .i64 (s1.2.2))) rfl e635 ?_)
   refine wl_op rfl (op_fieldAddr_t (v := (Value.pointer (some ⟨g2, 0, none⟩))) rfl fa28_1 e632 ((p2.mono le209).at_ I430) ?_)
   refine wl_op rfl (op_load_int (v := (fieldPtr (Value.pointer (some ⟨g2, 0, none⟩)) 1)) (e := a2.Turn) rfl sh3 rfl (((p2.mono le209).at_ I430).fld Mind.fld1) ?_)
   obtain ⟨x155, hx155, h91⟩ := bnd h91
   obtain ⟨S210, Fr29, le210, I431, r101, bk29⟩ := Inv.lend1 (I430.pull 1)
   refine wl_op rfl (op_call (vs := [(Value.agg #[(Value.slice z248 m248 k248), (Value.slice z249 m249 k249)]), (Value.slice z241 m241 k241), (Value.int .i64 (s1.2.2)), (Value.int .i64 (a2.Turn))]) rfl ca70 rfl (args4 rfl rfl rfl rfl) (F70_ok I431 (Graph.rv (s := a0) (r99.mono le210) (r100.mono le210)) r101 hx155) (fun v60 w262 S211 O29 le211 I433 hv29 => ?_))
   obtain ⟨rfl, rfl⟩ := hv29
   have I432 := bk29 [] trivial I433 le211
   refine wl_op rfl (op_assign (v := (Value.int .i64 (x155))) rfl rfl ?_)
   refine wl_nil ?_
   obtain ⟨v62, h97, h91⟩ := bnd h91
   refine wp_cut (fun f w => Inv w S209 (Row (α := Int) 3 (Value.slice z240 m240 k240) (s1.1) :: Row (α := Ref06_gone) 99 (Value.slice z241 m241 k241) (s1.2.1) :: Fr) ∧ f 1 = (Value.slice z3 m3 k3) ∧ f 3 = (Value.int .i64 (a3)) ∧ f 4 = (Value.pointer (some ⟨g1, 0, none⟩)) ∧ f 6 = (Value.pointer (some ⟨g2, 0, none⟩)) ∧ f 10 = (Value.slice z240 m240 k240) ∧ f 11 = (Value.slice z241 m241 k241) ∧ f 12 = (Value.int .i64 (s1.2.2)) ∧ f 13 = (Value.int .i64 (v62))) ?_ ?_
   ·
    refine wp_seq' ?_
    refine wp_region' ?_
    refine wl_op rfl (op_move (v := (Value.int .i64 (x155))) rfl rfl ?_)
    refine wl_op rfl (op_lss (a := x155) (b := 0) rfl rfl rfl ?_)
    refine wl_nil ?_
    rcases ifs h97 with ⟨hc92, h97⟩ | ⟨hc92, h97⟩
    ·
     refine wp_cond_t (b := decide (x155 < 0)) rfl hc92 ?_
     refine wp_region' ?_
     refine wl_op rfl (op_load (v := (Value.pointer (some ⟨g1, 0, none⟩))) (e := a0) rfl sh25 e631 ((p1.mono (le2.trans le209)).at_ I432) (fun u217 hu145 => ?_))
     obtain ⟨c43, c44, e642, r105, r106⟩ := Graph.inv hu145
     subst e642
     obtain ⟨z252, m252, k252, e643⟩ := rv_form r105
     subst e643
     obtain ⟨z253, m253, k253, e644⟩ := rv_form r106
     subst e644
     refine wl_op rfl (op_move (v := (Value.slice z241 m241 k241)) rfl e634 ?_)
     refine wl_op rfl (op_move (v := (Value.int .i64 (s1.2.2))) rfl e635 ?_)
     obtain ⟨x157, hx157, h97⟩ := bnd h97
     obtain ⟨S214, Fr31, le214, I437, r107, bk31⟩ := Inv.lend1 I432
     refine wl_op rfl (op_call (vs := [(Value.agg #[(Value.slice z252 m252 k252), (Value.slice z253 m253 k253)]), (Value.slice z241 m241 k241), (Value.int .i64 (s1.2.2))]) rfl ca71 rfl (args3 rfl rfl rfl) (F71_ok I437 (Graph.rv (s := a0) (r105.mono le214) (r106.mono le214)) r107 hx157) (fun v63 w264 S215 O31 le215 I439 hv31 => ?_))
     obtain ⟨rfl, rfl⟩ := hv31
     have I438 := bk31 [] trivial I439 le215
     refine wl_op rfl (op_assign (v := (Value.int .i64 (x157))) rfl rfl ?_)
     refine wl_nil ?_
     obtain rfl := Option.some.inj h97
     exact ⟨(I438.pull 1), e629, e630, e631, e632, e633, e634, e635, rfl⟩
    ·
     refine wp_cond_f (b := decide (x155 < 0)) rfl hc92 ?_
     refine wp_skip' ?_
     obtain rfl := Option.some.inj h97
     exact ⟨(I432.pull 1), e629, e630, e631, e632, e633, e634, e635, rfl⟩
   ·
    rintro f w ⟨I440, e645, e646, e647, e648, e649, e650, e651, e652⟩
    obtain ⟨v65, h100, h91⟩ := bnd h91
    refine wp_cut (fun f w => Inv w S209 (Row (α := Int) 3 (Value.slice z240 m240 k240) (s1.1) :: Row (α := Ref06_gone) 99 (Value.slice z241 m241 k241) (s1.2.1) :: Fr) ∧ f 1 = (Value.slice z3 m3 k3) ∧ f 3 = (Value.int .i64 (a3)) ∧ f 4 = (Value.pointer (some ⟨g1, 0, none⟩)) ∧ f 6 = (Value.pointer (some ⟨g2, 0, none⟩)) ∧ f 10 = (Value.slice z240 m240 k240) ∧ f 11 = (Value.slice z241 m241 k241) ∧ f 12 = (Value.int .i64 (s1.2.2)) ∧ f 13 = (Value.int .i64 (v65))) ?_ ?_
    ·
     refine wp_seq' ?_
     refine wp_region' ?_
     refine wl_op rfl (op_move (v := (Value.int .i64 (v62))) rfl e652 ?_)
     refine wl_op rfl (op_lss (a := v62) (b := 0) rfl rfl rfl ?_)
     refine wl_nil ?_
     rcases ifs h100 with ⟨hc94, h100⟩ | ⟨hc94, h100⟩
     ·
      refine wp_cond_t (b := decide (v62 < 0)) rfl hc94 ?_
      refine wp_region' ?_
      refine wl_op rfl (op_move (v := (Value.slice z241 m241 k241)) rfl e650 ?_)
      refine wl_op rfl (op_move (v := (Value.int .i64 (s1.2.2))) rfl e651 ?_)
      obtain ⟨x159, hx159, h100⟩ := bnd h100
      obtain ⟨S218, Fr33, le218, I444, r109, bk33⟩ := Inv.lend1 (I440.pull 1)
      refine wl_op rfl (op_call (vs := [(Value.slice z241 m241 k241), (Value.int .i64 (s1.2.2))]) rfl ca72 rfl (args2 rfl rfl) (F72_ok I444 r109 hx159) (fun v66 w266 S219 O33 le219 I446 hv33 => ?_))
      obtain ⟨rfl, rfl⟩ := hv33
      have I445 := bk33 [] trivial I446 le219
      refine wl_op rfl (op_assign (v := (Value.int .i64 (x159))) rfl rfl ?_)
      refine wl_nil ?_
      obtain rfl := Option.some.inj h100
      exact ⟨(I445.pull 1), e645, e646, e647, e648, e649, e650, e651, rfl⟩
     ·
      refine wp_cond_f (b := decide (v62 < 0)) rfl hc94 ?_
      refine wp_skip' ?_
      obtain rfl := Option.some.inj h100
      exact ⟨((I440.pull 1).pull 1), e645, e646, e647, e648, e649, e650, e651, e652⟩
    ·
     rintro f w ⟨I447, e653, e654, e655, e656, e657, e658, e659, e660⟩
     refine wp_seq' ?_
     refine wp_region' ?_
     refine wl_op rfl (op_move (v := (Value.int .i64 (s1.2.2))) rfl e659 ?_)
     refine wl_op rfl (op_move (v := (Value.int .i64 (v65))) rfl e660 ?_)
     refine wl_op rfl (op_build (qs := [(0, #[(Value.int .i64 (s1.2.2))]), (1, #[(Value.int .i64 (v65))])]) (c := #[(Value.int .i64 (s1.2.2)), (Value.int .i64 (v65))]) rfl st99 ⟨rfl, rfl, ⟨rfl, rfl, trivial⟩⟩ rfl ?_)
     refine wl_op rfl (op_alloc (z := (Value.agg #[(Value.int .i64 (0)), (Value.int .i64 (0))])) rfl I447 zo99 (fun g9 w267 (I448 : Inv w267 S209 (Cells g9 99 #[(Value.int .i64 (0)), (Value.int .i64 (0))] :: Row (α := Int) 3 (Value.slice z240 m240 k240) (s1.1) :: Row (α := Ref06_gone) 99 (Value.slice z241 m241 k241) (s1.2.1) :: Fr)) => ?_))
     refine wl_op rfl (op_store (v := (Value.agg #[(Value.int .i64 (s1.2.2)), (Value.int .i64 (v65))])) (cs := #[(Value.int .i64 (0)), (Value.int .i64 (0))]) sh99 I448 rfl rfl rfl (Nat.le_of_ble_eq_true rfl) rfl (fun w268 (I449 : Inv w268 S209 (Cells g9 99 #[(Value.int .i64 (s1.2.2)), (Value.int .i64 (v65))] :: Row (α := Int) 3 (Value.slice z240 m240 k240) (s1.1) :: Row (α := Ref06_gone) 99 (Value.slice z241 m241 k241) (s1.2.1) :: Fr)) => ?_))
     refine wl_nil ?_
     obtain ⟨v68, h103, h91⟩ := bnd h91
     refine wp_cut (fun f w => ∃ (S_ : PH) (z263 : Option Addr) (m263 k263 : Nat), S209.Le S_ ∧ Inv w S_ (Row (α := Int) 3 (Value.slice z240 m240 k240) (s1.1) :: Row (α := Ref06_gone) 99 (Value.slice z263 m263 k263) (v68) :: Cells g9 99 #[(Value.int .i64 (s1.2.2)), (Value.int .i64 (v65))] :: Fr) ∧ f 1 = (Value.slice z3 m3 k3) ∧ f 3 = (Value.int .i64 (a3)) ∧ f 4 = (Value.pointer (some ⟨g1, 0, none⟩)) ∧ f 6 = (Value.pointer (some ⟨g2, 0, none⟩)) ∧ f 10 = (Value.slice z240 m240 k240) ∧ f 11 = (Value.slice z263 m263 k263) ∧ f 12 = (Value.int .i64 (s1.2.2)) ∧ f 13 = (Value.int .i64 (v65)) ∧ f 14 = (Value.pointer (some ⟨g9, 0, none⟩))) ?_ ?_
     ·
      refine wp_seq' ?_
      refine wp_region' ?_
      refine wl_op rfl (op_move (v := (Value.slice z241 m241 k241)) rfl e658 ?_)
      refine wl_op rfl (op_loadN (l := [(Value.int .i64 (s1.2.2)), (Value.int .i64 (v65))]) rfl sh99 (I449.nth 0 rfl) rfl rfl rfl ?_)
      obtain ⟨x165, hx165, h103⟩ := bnd h103
      obtain ⟨S234, Fr35, le234, I473, r114, bk35⟩ := Inv.lend1 (I449.pull 2)
      refine wl_op rfl (op_call (vs := [(Value.slice z241 m241 k241), (Value.agg #[(Value.int .i64 (s1.2.2)), (Value.int .i64 (v65))])]) rfl ca73 rfl (args2 rfl rfl) (F73_ok I473 r114 (Ref06_gone.rv (s := (⟨s1.2.2, v65⟩ : Ref06_gone))) hx165) (fun v69 w285 S235 O35 le235 I475 hv35 => ?_))
      obtain ⟨rfl, rfl⟩ := hv35
      have I474 := bk35 [] trivial I475 le235
      refine wl_op rfl (op_assign (v := (Value.int .i64 (x165))) rfl rfl ?_)
      refine wl_nil ?_
      refine wp_seq' ?_
      refine wp_region' ?_
      refine wl_op rfl (op_move (v := (Value.int .i64 (x165))) rfl rfl ?_)
      refine wl_op rfl (op_geq (a := x165) (b := 0) rfl rfl rfl ?_)
      refine wl_nil ?_
      rcases ifs h103 with ⟨hc96, h103⟩ | ⟨hc96, h103⟩
      ·
       refine wp_cond_t (b := decide (0 ≤ x165)) rfl hc96 ?_
       obtain ⟨S236, le236, I476, r115⟩ := Inv.rowFreeze I474
       obtain ⟨x166, hx166, h103⟩ := bnd h103
       obtain ⟨x167, hx167, h103⟩ := bnd h103
       obtain ⟨x168, hx168, h103⟩ := bnd h103
       obtain ⟨x169, hx169, h103⟩ := bnd h103
       refine wp_draw (sps := [⟨some 61, [], [0], fun vs_ T_ => fr0 vs_ 0 = (Value.slice z241 m241 k241), [], [], [], fun _ h_ => h_⟩, ⟨some 62, [], [1], fun vs_ T_ => fr0 vs_ 0 = (Value.int .i64 (x165)), [], [], [], fun _ h_ => h_⟩, ⟨some 63, [0, 1], [2], fun vs_ T_ => RV T_ (fr0 vs_ 0) x166, [], [], [], fun hle_ h_ => h_.mono hle_⟩, ⟨some 64, [0, 1, 2], [3], fun vs_ T_ => ∃ a_ n_ k_, fr0 vs_ 0 = Value.slice a_ n_ k_, [], [], [0], fun _ h_ => h_⟩, ⟨some 65, [], [4], fun vs_ T_ => fr0 vs_ 0 = (Value.slice z241 m241 k241), [], [], [], fun _ h_ => h_⟩, ⟨some 66, [], [5], fun vs_ T_ => fr0 vs_ 0 = (Value.int .i64 (x165)), [], [], [], fun _ h_ => h_⟩, ⟨some 67, [5], [6], fun vs_ T_ => fr0 vs_ 0 = (Value.int .i64 (w64 (x165 + 1))), [], [], [], fun _ h_ => h_⟩, ⟨some 68, [4, 5, 6], [7], fun vs_ T_ => RV T_ (fr0 vs_ 0) x168, [], [], [], fun hle_ h_ => h_.mono hle_⟩, ⟨some 69, [0, 1, 2, 3, 4, 5, 6, 7], [8], fun vs_ T_ => ∃ a_ n_ k_, fr0 vs_ 0 = Value.slice a_ n_ k_, [], [0], [1], fun _ h_ => h_⟩, ⟨some 11, [0, 1, 2, 3, 4, 5, 6, 7, 8], [9, 8], fun vs_ T_ => fr0 vs_ 0 = (fr0 vs_ 1), [], [], [], fun _ h_ => h_⟩]) (tks := [⟨some 3, some 8, [3], fun vs_ => Row (α := Ref06_gone) 99 (fr0 vs_ 0) (x167)⟩, ⟨some 8, none, [8], fun vs_ => Row (α := Ref06_gone) 99 (fr0 vs_ 0) (x169)⟩]) (O := Cells g9 99 #[(Value.int .i64 (s1.2.2)), (Value.int .i64 (v65))] :: Row (α := Int) 3 (Value.slice z240 m240 k240) (s1.1) :: Fr) rfl (by kernel_rfl) I476 ⟨?_, ?_, ?_, ?_, ?_, ?_, ?_, ?_, ?_, ?_, trivial⟩ ?_
       ·
        intro vs144 f w288 S237 X131 le237 hA131 hK144 hI145
        have I480 : Inv w288 S237 (X131) := hI145
        refine opg_plain rfl rfl (op_move (v := (Value.slice z241 m241 k241)) rfl ((hK144 11 (keep_of rfl)).trans e658) ?_)
        refine ⟨_, _, rfl, PH.Le.refl _, ?_, ?_⟩
        ·
         exact rfl
        ·
         exact I480
       ·
        intro vs145 f w289 S238 X132 le238 hA132 hK145 hI146
        have I481 : Inv w289 S238 (X132) := hI146
        refine opg_plain rfl rfl (op_move (v := (Value.int .i64 (x165))) rfl (hK145 15 (keep_of rfl)) ?_)
        refine ⟨_, _, rfl, PH.Le.refl _, ?_, ?_⟩
        ·
         exact rfl
        ·
         exact I481
       ·
        intro vs146 f w290 S239 X133 le239 hA133 hK146 hI147
        have I482 : Inv w290 S239 (X133) := hI147
        have q144 : f 61 = (Value.slice z241 m241 k241) := vt (hA133.at_ 0 rfl _ rfl) rfl
        have q145 : f 62 = (Value.int .i64 (x165)) := vt (hA133.at_ 1 rfl _ rfl) rfl
        refine opg_plain rfl rfl (op_sliceH (v := (Value.slice z241 m241 k241)) (hi := x165) rfl Try.underlying94 sh99 q144 (r115.mono le239) q145 hx166 (fun u232 hu154 => ?_))
        obtain ⟨z264, m264, k264, e678⟩ := rv_form hu154
        subst e678
        refine ⟨_, _, rfl, PH.Le.refl _, ?_, ?_⟩
        ·
         exact hu154
        ·
         exact I482
       ·
        intro vs147 f w291 S240 X134 le240 hA134 hK147 hI148
        have I483 : Inv w291 S240 (X134) := hI148
        have q146 : f 63 = vs147 2 := (hA134.at_ 2 rfl _ rfl).1 _ rfl
        have r116 : RV S240 (vs147 2) x166 := (hA134.at_ 2 rfl _ rfl).2
        obtain ⟨u233, hu155⟩ : ∃ u, vs147 2 = u := ⟨_, rfl⟩
        rw [hu155] at q146 r116
        obtain ⟨z265, m265, k265, e679⟩ := rv_form r116
        subst e679
        have I484 := Inv.rowNil (α := Ref06_gone) (T := 99) I483
        refine opg_plain rfl rfl (op_append (α := Ref06_gone) (v := (Value.slice none 0 0)) (u := (Value.slice z265 m265 k265)) rfl rfl Try.underlying94 el99 (by decide) (by decide) rfl q146 I484 (r116.src I484.in_) hx167 (fun u234 w292 I485 => ?_))
        obtain ⟨z266, m266, k266, e680⟩ := row_form I485
        subst e680
        refine ⟨_, _, rfl, PH.Le.refl _, ?_, ?_⟩
        ·
         exact ⟨_, _, _, rfl⟩
        ·
         exact I485
       ·
        intro vs148 f w293 S241 X135 le241 hA135 hK148 hI149
        have I486 : Inv w293 S241 (X135) := hI149
        refine opg_plain rfl rfl (op_move (v := (Value.slice z241 m241 k241)) rfl ((hK148 11 (keep_of rfl)).trans e658) ?_)
        refine ⟨_, _, rfl, PH.Le.refl _, ?_, ?_⟩
        ·
         exact rfl
        ·
         exact I486
       ·
        intro vs149 f w294 S242 X136 le242 hA136 hK149 hI150
        have I487 : Inv w294 S242 (X136) := hI150
        refine opg_plain rfl rfl (op_move (v := (Value.int .i64 (x165))) rfl (hK149 15 (keep_of rfl)) ?_)
        refine ⟨_, _, rfl, PH.Le.refl _, ?_, ?_⟩
        ·
         exact rfl
        ·
         exact I487
       ·
        intro vs150 f w295 S243 X137 le243 hA137 hK150 hI151
        have I488 : Inv w295 S243 (X137) := hI151
        have q147 : f 66 = (Value.int .i64 (x165)) := vt (hA137.at_ 0 rfl _ rfl) rfl
        refine opg_plain rfl rfl (op_add (a := x165) (b := 1) rfl q147 rfl ?_)
        refine ⟨_, _, rfl, PH.Le.refl _, ?_, ?_⟩
        ·
         exact rfl
        ·
         exact I488
       ·
        intro vs151 f w296 S244 X138 le244 hA138 hK151 hI152
        have I489 : Inv w296 S244 (X138) := hI152
        have q148 : f 65 = (Value.slice z241 m241 k241) := vt (hA138.at_ 0 rfl _ rfl) rfl
        have q149 : f 67 = (Value.int .i64 (w64 (x165 + 1))) := vt (hA138.at_ 2 rfl _ rfl) rfl
        refine opg_plain rfl rfl (op_sliceL (v := (Value.slice z241 m241 k241)) (lo := w64 (x165 + 1)) rfl Try.underlying94 sh99 q148 (r115.mono le244) q149 hx168 (fun u235 hu156 => ?_))
        obtain ⟨z267, m267, k267, e681⟩ := rv_form hu156
        subst e681
        refine ⟨_, _, rfl, PH.Le.refl _, ?_, ?_⟩
        ·
         exact hu156
        ·
         exact I489
       ·
        intro vs152 f w297 S245 X139 le245 hA139 hK152 hI153
        have I490 : Inv w297 S245 (Row (α := Ref06_gone) 99 (vs152 3) (x167) :: X139) := hI153
        obtain ⟨z268, m268, k268, e682⟩ := (hA139.at_ 3 rfl _ rfl).2
        have q150 : f 64 = Value.slice z268 m268 k268 := ((hA139.at_ 3 rfl _ rfl).1 _ rfl).trans e682
        have e682 : vs152 3 = (Value.slice z268 m268 k268) := e682
        have I491 := I490
        rw [e682] at I491
        have q151 : f 68 = vs152 7 := (hA139.at_ 7 rfl _ rfl).1 _ rfl
        have r117 : RV S245 (vs152 7) x168 := (hA139.at_ 7 rfl _ rfl).2
        obtain ⟨u236, hu157⟩ : ∃ u, vs152 7 = u := ⟨_, rfl⟩
        rw [hu157] at q151 r117
        obtain ⟨z269, m269, k269, e683⟩ := rv_form r117
        subst e683
        refine opg_plain rfl rfl (op_append (α := Ref06_gone) (v := (Value.slice z268 m268 k268)) (u := (Value.slice z269 m269 k269)) rfl rfl Try.underlying94 el99 (by decide) (by decide) q150 q151 I491 (r117.src I491.in_) hx169 (fun u237 w298 I492 => ?_))
        obtain ⟨z270, m270, k270, e684⟩ := row_form I492
        subst e684
        refine ⟨_, _, rfl, PH.Le.refl _, ?_, ?_⟩
        ·
         exact ⟨_, _, _, rfl⟩
        ·
         exact I492
       ·
        intro vs153 f w299 S246 X140 le246 hA140 hK153 hI154
        have I493 : Inv w299 S246 (X140) := hI154
        obtain ⟨z271, m271, k271, e685⟩ := (hA140.at_ 8 rfl _ rfl).2
        have q152 : f 69 = Value.slice z271 m271 k271 := ((hA140.at_ 8 rfl _ rfl).1 _ rfl).trans e685
        have e685 : vs153 8 = (Value.slice z271 m271 k271) := e685
        refine opg_plain rfl rfl (op_assign (v := (Value.slice z271 m271 k271)) rfl q152 ?_)
        refine ⟨_, _, rfl, PH.Le.refl _, ?_, ?_⟩
        ·
         show (Value.slice z271 m271 k271) = (vs153 8)
         simp only [e685] <;> rfl
        ·
         exact I493
       ·
        intro vs154 f w300 S247 le247 hF14 hK154 hI155
        have e686 : f 1 = (Value.slice z3 m3 k3) := (hK154 1 (keep_all rfl)).trans e653
        have e687 : f 3 = (Value.int .i64 (a3)) := (hK154 3 (keep_all rfl)).trans e654
        have e688 : f 4 = (Value.pointer (some ⟨g1, 0, none⟩)) := (hK154 4 (keep_all rfl)).trans e655
        have e689 : f 6 = (Value.pointer (some ⟨g2, 0, none⟩)) := (hK154 6 (keep_all rfl)).trans e656
        have e690 : f 10 = (Value.slice z240 m240 k240) := (hK154 10 (keep_all rfl)).trans e657
        have e691 : f 12 = (Value.int .i64 (s1.2.2)) := (hK154 12 (keep_all rfl)).trans e659
        have e692 : f 13 = (Value.int .i64 (v65)) := (hK154 13 (keep_all rfl)).trans e660
        have e693 : f 14 = (Value.pointer (some ⟨g9, 0, none⟩)) := (hK154 14 (keep_all rfl)).trans rfl
        have I494 : Inv w300 S247 (Row (α := Ref06_gone) 99 (vs154 8) (x169) :: Cells g9 99 #[(Value.int .i64 (s1.2.2)), (Value.int .i64 (v65))] :: Row (α := Int) 3 (Value.slice z240 m240 k240) (s1.1) :: Fr) := hI155
        obtain ⟨z272, m272, k272, e694⟩ := (hF14.at_ 8 rfl _ rfl).2
        have q153 : f 69 = Value.slice z272 m272 k272 := ((hF14.at_ 8 rfl _ rfl).1 _ rfl).trans e694
        have e694 : vs154 8 = (Value.slice z272 m272 k272) := e694
        have I495 := I494
        rw [e694] at I495
        have q154 : f 11 = (vs154 8) := vt (hF14.at_ 9 rfl _ rfl) rfl
        simp only [e694] at q154
        have q154 : f 11 = (Value.slice z272 m272 k272) := q154
        obtain rfl := Option.some.inj h103
        exact ⟨_, _, _, _, (le236.trans le247), (((I495.pull 1).pull 1).pull 2), e686, e687, e688, e689, e690, q154, e691, e692, e693⟩
      ·
       refine wp_cond_f (b := decide (0 ≤ x165)) rfl hc96 ?_
       refine wp_skip' ?_
       obtain rfl := Option.some.inj h103
       exact ⟨_, _, _, _, (PH.Le.refl _), (((I474.pull 1).pull 1).pull 2), e653, e654, e655, e656, e657, e658, e659, e660, rfl⟩
     ·
      rintro f w ⟨S248, z263, m263, k263, le248, I496, e695, e696, e697, e698, e699, e700, e701, e702, e703⟩
      refine wp_seq' ?_
      refine wp_region' ?_
      refine wl_op rfl (op_move (v := (Value.slice z263 m263 k263)) rfl e700 ?_)
      refine wl_op rfl (op_loadN (l := [(Value.int .i64 (s1.2.2)), (Value.int .i64 (v65))]) rfl sh99 (I496.nth 2 rfl) e703 rfl rfl ?_)
      refine wl_op rfl (op_buildSlice (vs := [(Value.agg #[(Value.int .i64 (s1.2.2)), (Value.int .i64 (v65))])]) (r := ([(⟨s1.2.2, v65⟩ : Ref06_gone)] : List Ref06_gone)) rfl Try.underlying94 el99 (parts1 rfl) rfl (by decide) (by decide) ⟨(Ref06_gone.rv (s := (⟨s1.2.2, v65⟩ : Ref06_gone))), trivial⟩ I496 (fun u238 w301 I497 => ?_))
      obtain ⟨z273, m273, k273, e704⟩ := row_form I497
      subst e704
      obtain ⟨x170, hx170, h91⟩ := bnd h91
      refine wl_op rfl (op_append (α := Ref06_gone) (v := (Value.slice z263 m263 k263)) (u := (Value.slice z273 m273 k273)) rfl rfl Try.underlying94 el99 (by decide) (by decide) rfl rfl (I497.pull 2) (Inv.rowSrc (I497.nth 0 rfl)) hx170 (fun u239 w302 I498 => ?_))
      obtain ⟨z274, m274, k274, e705⟩ := row_form I498
      subst e705
      refine wl_op rfl (op_assign (v := (Value.slice z274 m274 k274)) rfl rfl ?_)
      refine wl_nil ?_
      obtain ⟨v70, h106, h91⟩ := bnd h91
      refine wp_cut (fun f w => ∃ (z276 : Option Addr) (m276 k276 : Nat), Inv w S248 (Row (α := Int) 3 (Value.slice z240 m240 k240) (s1.1) :: Row (α := Ref06_gone) 99 (Value.slice z276 m276 k276) (v70) :: Fr) ∧ f 1 = (Value.slice z3 m3 k3) ∧ f 3 = (Value.int .i64 (a3)) ∧ f 4 = (Value.pointer (some ⟨g1, 0, none⟩)) ∧ f 6 = (Value.pointer (some ⟨g2, 0, none⟩)) ∧ f 10 = (Value.slice z240 m240 k240) ∧ f 11 = (Value.slice z276 m276 k276) ∧ f 12 = (Value.int .i64 (s1.2.2)) ∧ f 13 = (Value.int .i64 (v65))) ?_ ?_
      ·
       refine wp_seq' ?_
       refine wp_region' ?_
       refine wl_op rfl (op_move (v := (Value.slice z274 m274 k274)) rfl rfl ?_)
       refine wl_op rfl (op_len_row (α := Ref06_gone) rfl Try.underlying94 rfl (I498.nth 0 rfl) ?_)
       refine wl_op rfl (op_fieldAddr_t (v := (Value.pointer (some ⟨g2, 0, none⟩))) rfl fa28_0 e698 ((p2.mono (le209.trans le248)).at_ I498) ?_)
       refine wl_op rfl (op_load_int (v := (fieldPtr (Value.pointer (some ⟨g2, 0, none⟩)) 0)) (e := a2.Memory) rfl sh3 rfl (((p2.mono (le209.trans le248)).at_ I498).fld Mind.fld0) ?_)
       refine wl_op rfl (op_gtr (a := (x170.length : Int)) (b := a2.Memory) rfl rfl rfl ?_)
       refine wl_nil ?_
       rcases ifs h106 with ⟨hc98, h106⟩ | ⟨hc98, h106⟩
       ·
        refine wp_cond_t (b := decide (a2.Memory < (x170.length : Int))) rfl hc98 ?_
        refine wp_region' ?_
        refine wl_op rfl (op_move (v := (Value.slice z274 m274 k274)) rfl rfl ?_)
        obtain ⟨x172, hx172, h106⟩ := bnd h106
        refine wl_op rfl (op_sliceL_row (v := (Value.slice z274 m274 k274)) (lo := 1) rfl Try.underlying94 sh99 rfl I498 rfl hx172 (fun u241 I500 => ?_))
        obtain ⟨z277, m277, k277, e707⟩ := row_form I500
        subst e707
        refine wl_op rfl (op_assign (v := (Value.slice z277 m277 k277)) rfl rfl ?_)
        refine wl_nil ?_
        obtain rfl := Option.some.inj h106
        exact ⟨_, _, _, (((I500.pull 1).drop.pull 2).drop.pull 1), e695, e696, e697, e698, e699, rfl, e701, e702⟩
       ·
        refine wp_cond_f (b := decide (a2.Memory < (x170.length : Int))) rfl hc98 ?_
        refine wp_skip' ?_
        obtain rfl := Option.some.inj h106
        exact ⟨_, _, _, (((I498.pull 1).drop.pull 2).drop.pull 1), e695, e696, e697, e698, e699, rfl, e701, e702⟩
      ·
       rintro f w ⟨z276, m276, k276, I501, e708, e709, e710, e711, e712, e713, e714, e715⟩
       refine wp_seq' ?_
       refine wp_region' ?_
       refine wl_op rfl (op_move (v := (Value.slice z240 m240 k240)) rfl e712 ?_)
       refine wl_op rfl (op_move (v := (Value.int .i64 (v65))) rfl e715 ?_)
       refine wl_op rfl (op_buildSlice (vs := [(Value.int .i64 (v65))]) (r := ([v65] : List Int)) rfl Try.underlying26 el3 (parts1 rfl) rfl (by decide) (by decide) ⟨(rv_int' _), trivial⟩ I501 (fun u242 w303 I502 => ?_))
       obtain ⟨z278, m278, k278, e716⟩ := row_form I502
       subst e716
       obtain ⟨x173, hx173, h91⟩ := bnd h91
       refine wl_op rfl (op_append (α := Int) (v := (Value.slice z240 m240 k240)) (u := (Value.slice z278 m278 k278)) rfl rfl Try.underlying26 el3 (by decide) (by decide) rfl rfl (I502.pull 1) (Inv.rowSrc (I502.nth 0 rfl)) hx173 (fun u243 w304 I503 => ?_))
       obtain ⟨z279, m279, k279, e717⟩ := row_form I503
       subst e717
       refine wl_op rfl (op_assign (v := (Value.slice z279 m279 k279)) rfl rfl ?_)
       refine wl_nil ?_
       refine wp_region' ?_
       refine wl_op rfl (op_fieldAddr_t (v := (Value.pointer (some ⟨g1, 0, none⟩))) rfl fa25_1 e710 ((p1.mono ((le2.trans le209).trans le248)).at_ I503) ?_)
       refine wl_op rfl (op_load (v := (fieldPtr (Value.pointer (some ⟨g1, 0, none⟩)) 1)) (e := a0.Edges) rfl sh23 rfl (((p1.mono ((le2.trans le209).trans le248)).at_ I503).fld Graph.fld1) (fun u244 hu160 => ?_))
       obtain ⟨z280, m280, k280, e718⟩ := rv_form hu160
       subst e718
       refine wl_op rfl (op_move (v := (Value.int .i64 (s1.2.2))) rfl e714 ?_)
       obtain ⟨x174, hx174, h91⟩ := bnd h91
       refine wl_op rfl (op_indexAddr_rv (v := (Value.slice z280 m280 k280)) (i := s1.2.2) (e := x174) rfl Try.underlying23 sh40 rfl hu160 rfl hx174 ?_)
       refine wl_op rfl (op_load (v := (elemPtr (Value.slice z280 m280 k280) (s1.2.2) (Enc.sz (List Edge)))) (e := x174) rfl sh40 rfl (hu160.elem I503.in_ hx174) (fun u245 hu161 => ?_))
       obtain ⟨z281, m281, k281, e719⟩ := rv_form hu161
       subst e719
       refine wl_op rfl (op_move (v := (Value.int .i64 (v65))) rfl e715 ?_)
       obtain ⟨x175, hx175, h91⟩ := bnd h91
       refine wl_op rfl (op_indexAddr_rv (v := (Value.slice z281 m281 k281)) (i := v65) (e := x175) rfl Try.underlying40 sh44 rfl hu161 rfl hx175 ?_)
       refine wl_op rfl (op_fieldAddr_t (v := (elemPtr (Value.slice z281 m281 k281) (v65) (Enc.sz Edge))) rfl fa44_1 rfl (hu161.elem I503.in_ hx175) ?_)
       refine wl_op rfl (op_load_int (v := (fieldPtr (elemPtr (Value.slice z281 m281 k281) (v65) (Enc.sz Edge)) 3)) (e := x175.To) rfl sh3 rfl ((hu161.elem I503.in_ hx175).fld Edge.fld1) ?_)
       refine wl_op rfl (op_assign (v := (Value.int .i64 (x175.To))) rfl rfl ?_)
       refine wl_nil ?_
       obtain rfl := Option.some.inj h91
       exact ⟨_, rfl, _, _, _, _, _, _, _, (le209.trans le248), (((I503.pull 1).drop.pull 1).pull 1), e708, e709, e710, e711, rfl, e713, rfl⟩
 ·
  rintro f w ⟨S249, z242, m242, k242, z243, m243, k243, le249, I504, e720, e721, e722, e723, e724, e725, e726⟩
  refine wp_seq' ?_
  obtain ⟨x176, hx176, h⟩ := bnd h
  refine wp_draw (sps := [⟨some 94, [], [0], fun vs_ T_ => fr0 vs_ 0 = (Value.slice z242 m242 k242), [], [], [], fun _ h_ => h_⟩, ⟨some 95, [], [1], fun vs_ T_ => fr0 vs_ 0 = (Value.slice z3 m3 k3), [], [], [], fun _ h_ => h_⟩, ⟨some 96, [], [2], fun vs_ T_ => fr0 vs_ 0 = (Value.int .i64 (out1.2.2)), [], [], [], fun _ h_ => h_⟩, ⟨some 97, [1, 2], [3], fun vs_ T_ => fr0 vs_ 0 = (elemPtr (Value.slice z3 m3 k3) (out1.2.2) (Enc.sz Int)), [], [], [], fun _ h_ => h_⟩, ⟨some 98, [1, 2, 3], [4], fun vs_ T_ => fr0 vs_ 0 = (Value.int .i64 (x176)), [], [], [], fun _ h_ => h_⟩, ⟨some 99, [1, 2, 3, 4], [5], fun vs_ T_ => fr0 vs_ 0 = (Value.bool (x176 == 0)), [], [], [], fun _ h_ => h_⟩, ⟨some 8, [0], [6], fun vs_ T_ => fr0 vs_ 0 = (Value.slice z242 m242 k242), [], [], [], fun _ h_ => h_⟩, ⟨some 9, [0, 1, 2, 3, 4, 5, 6], [7], fun vs_ T_ => fr0 vs_ 0 = (Value.bool (x176 == 0)), [], [], [], fun _ h_ => h_⟩]) (tks := []) (O := Row (α := Int) 3 (Value.slice z242 m242 k242) (out1.1) :: Row (α := Ref06_gone) 99 (Value.slice z243 m243 k243) (out1.2.1) :: Fr) rfl (by kernel_rfl) I504 ⟨?_, ?_, ?_, ?_, ?_, ?_, ?_, ?_, trivial⟩ ?_
  ·
   intro vs155 f w305 S250 X141 le250 hA141 hK155 hI156
   have I505 : Inv w305 S250 (X141) := hI156
   refine opg_plain rfl rfl (op_move (v := (Value.slice z242 m242 k242)) rfl ((hK155 10 (keep_of rfl)).trans e724) ?_)
   refine ⟨_, _, rfl, PH.Le.refl _, ?_, ?_⟩
   ·
    exact rfl
   ·
    exact I505
  ·
   intro vs156 f w306 S251 X142 le251 hA142 hK156 hI157
   have I506 : Inv w306 S251 (X142) := hI157
   refine opg_plain rfl rfl (op_move (v := (Value.slice z3 m3 k3)) rfl ((hK156 1 (keep_of rfl)).trans e720) ?_)
   refine ⟨_, _, rfl, PH.Le.refl _, ?_, ?_⟩
   ·
    exact rfl
   ·
    exact I506
  ·
   intro vs157 f w307 S252 X143 le252 hA143 hK157 hI158
   have I507 : Inv w307 S252 (X143) := hI158
   refine opg_plain rfl rfl (op_move (v := (Value.int .i64 (out1.2.2))) rfl ((hK157 12 (keep_of rfl)).trans e726) ?_)
   refine ⟨_, _, rfl, PH.Le.refl _, ?_, ?_⟩
   ·
    exact rfl
   ·
    exact I507
  ·
   intro vs158 f w308 S253 X144 le253 hA144 hK158 hI159
   have I508 : Inv w308 S253 (X144) := hI159
   have q155 : f 95 = (Value.slice z3 m3 k3) := vt (hA144.at_ 0 rfl _ rfl) rfl
   have q156 : f 96 = (Value.int .i64 (out1.2.2)) := vt (hA144.at_ 1 rfl _ rfl) rfl
   refine opg_plain rfl rfl (op_indexAddr_rv (v := (Value.slice z3 m3 k3)) (i := out1.2.2) (e := x176) rfl Try.underlying26 sh3 q155 (h1_.mono (((le1.trans le2).trans le249).trans le253)) q156 hx176 ?_)
   refine ⟨_, _, rfl, PH.Le.refl _, ?_, ?_⟩
   ·
    exact rfl
   ·
    exact I508
  ·
   intro vs159 f w309 S254 X145 le254 hA145 hK159 hI160
   have I509 : Inv w309 S254 (X145) := hI160
   have q157 : f 97 = (elemPtr (Value.slice z3 m3 k3) (out1.2.2) (Enc.sz Int)) := vt (hA145.at_ 2 rfl _ rfl) rfl
   refine opg_plain rfl rfl (op_load_int (v := (elemPtr (Value.slice z3 m3 k3) (out1.2.2) (Enc.sz Int))) (e := x176) rfl sh3 q157 ((h1_.mono (((le1.trans le2).trans le249).trans le254)).elem I509.in_ hx176) ?_)
   refine ⟨_, _, rfl, PH.Le.refl _, ?_, ?_⟩
   ·
    exact rfl
   ·
    exact I509
  ·
   intro vs160 f w310 S255 X146 le255 hA146 hK160 hI161
   have I510 : Inv w310 S255 (X146) := hI161
   have q158 : f 98 = (Value.int .i64 (x176)) := vt (hA146.at_ 3 rfl _ rfl) rfl
   refine opg_plain rfl rfl (op_eql (a := x176) (b := 0) rfl q158 rfl ?_)
   refine ⟨_, _, rfl, PH.Le.refl _, ?_, ?_⟩
   ·
    exact rfl
   ·
    exact I510
  ·
   intro vs161 f w311 S256 X147 le256 hA147 hK161 hI162
   have I511 : Inv w311 S256 (X147) := hI162
   have q159 : f 94 = (Value.slice z242 m242 k242) := vt (hA147.at_ 0 rfl _ rfl) rfl
   refine opg_plain rfl rfl (op_assign (v := (Value.slice z242 m242 k242)) rfl q159 ?_)
   refine ⟨_, _, rfl, PH.Le.refl _, ?_, ?_⟩
   ·
    exact rfl
   ·
    exact I511
  ·
   intro vs162 f w312 S257 X148 le257 hA148 hK162 hI163
   have I512 : Inv w312 S257 (X148) := hI163
   have q160 : f 99 = (Value.bool (x176 == 0)) := vt (hA148.at_ 5 rfl _ rfl) rfl
   refine opg_plain rfl rfl (op_assign (v := (Value.bool (x176 == 0))) rfl q160 ?_)
   refine ⟨_, _, rfl, PH.Le.refl _, ?_, ?_⟩
   ·
    exact rfl
   ·
    exact I512
  ·
   intro vs163 f w313 S258 le258 hF15 hK163 hI164
   have I513 : Inv w313 S258 (Row (α := Int) 3 (Value.slice z242 m242 k242) (out1.1) :: Row (α := Ref06_gone) 99 (Value.slice z243 m243 k243) (out1.2.1) :: Fr) := hI164
   have q161 : f 8 = (Value.slice z242 m242 k242) := vt (hF15.at_ 6 rfl _ rfl) rfl
   have q162 : f 9 = (Value.bool (x176 == 0)) := vt (hF15.at_ 7 rfl _ rfl) rfl
   refine wp_ret' ?_
   obtain rfl := Option.some.inj h
   exact ⟨(Value.tuple #[(Value.slice z242 m242 k242), (Value.bool (x176 == 0))]), (res2 rfl q161 q162), _, [Row (α := Int) 3 (Value.slice z242 m242 k242) (out1.1)], (((le1.trans le2).trans le249).trans le258), (I513.pull 1).drop, _, _, _, rfl, rfl⟩

set_option maxHeartbeats 4000000 in
set_option maxRecDepth 100000 in
theorem F19_ok {w : World} {S : PH} {Fr : List HP} {a0 : Graph} {v0 : Value} {a1 : (List Int)} {v1 : Value} {a2 : Mind} {v2 : Value} {a3 : Int} {r : (List Int) × Bool × Int} (hI : Inv w S (Fr)) (h0_ : RV S v0 a0) (h1_ : RV S v1 a1) (h2_ : RV S v2 a2) (h : F19 a0 a1 a2 a3 = some r) :
    Calls Try.prog 19 [v0, v1, v2, (Value.int .i64 (a3))].toArray w (Done S Fr (fun T_ v_ O_ => ∃ (a0_ : Option Addr) (n0_ k0_ : Nat), v_ = (Value.tuple #[(Value.slice a0_ n0_ k0_), (Value.bool (r.2.1)), (Value.int .i64 (r.2.2))]) ∧ O_ = [Row (α := Int) 3 (Value.slice a0_ n0_ k0_) (r.1)])) := by
 unfold F19 at h
 obtain ⟨c1, c2, e1, r1, r2⟩ := Graph.inv h0_
 subst e1
 obtain ⟨z1, m1, k1, e2⟩ := rv_form r1
 subst e2
 obtain ⟨z2, m2, k2, e3⟩ := rv_form r2
 subst e3
 obtain ⟨z3, m3, k3, e4⟩ := rv_form h1_
 subst e4
 have e5 := Mind.inv h2_
 subst e5
 refine calls_enter (n := 32) (vs := [(Value.agg #[(Value.slice z1 m1 k1), (Value.slice z2 m2 k2)]), (Value.slice z3 m3 k3), (Value.agg #[(Value.int .i64 (a2.Memory)), (Value.int .i64 (a2.Turn))]), (Value.int .i64 (a3))]) Try.func19 rfl rfl rfl ?_
 refine wp_seq' ?_
 refine wp_region' ?_
 refine wl_op rfl (op_box (v := (Value.agg #[(Value.slice z1 m1 k1), (Value.slice z2 m2 k2)])) rfl hI rfl (fun g1 w1 I1 => ?_))
 obtain ⟨S1, le1, I2, p1⟩ := Inv.boxFreeze (x := a0) I1 (Graph.rv (s := a0) r1 r2)
 refine wl_op rfl (op_box (v := (Value.agg #[(Value.int .i64 (a2.Memory)), (Value.int .i64 (a2.Turn))])) rfl I2 rfl (fun g2 w2 I3 => ?_))
 obtain ⟨S2, le2, I4, p2⟩ := Inv.boxFreeze (x := a2) I3 (Mind.rv (s := a2))
 refine wl_op rfl (op_assign (v := (Value.slice none 0 0)) rfl rfl ?_)
 refine wl_op rfl (op_assign (v := (Value.bool (false))) rfl rfl ?_)
 refine wl_op rfl (op_assign (v := (Value.int .i64 (0))) rfl rfl ?_)
 refine wl_nil ?_
 refine wp_seq' ?_
 refine wp_seq' ?_
 refine wp_region' ?_
 refine wl_op rfl (op_load (v := (Value.pointer (some ⟨g1, 0, none⟩))) (e := a0) rfl sh25 rfl ((p1.mono le2).at_ I4) (fun u1 hu1 => ?_))
 obtain ⟨c3, c4, e6, r3, r4⟩ := Graph.inv hu1
 subst e6
 obtain ⟨z4, m4, k4, e7⟩ := rv_form r3
 subst e7
 obtain ⟨z5, m5, k5, e8⟩ := rv_form r4
 subst e8
 refine wl_op rfl (op_move (v := (Value.slice z3 m3 k3)) rfl rfl ?_)
 refine wl_op rfl (op_load (v := (Value.pointer (some ⟨g2, 0, none⟩))) (e := a2) rfl sh28 rfl (p2.at_ I4) (fun u2 hu2 => ?_))
 have e9 := Mind.inv hu2
 subst e9
 refine wl_op rfl (op_move (v := (Value.int .i64 (a3))) rfl rfl ?_)
 obtain ⟨x1, hx1, h⟩ := bnd h
 refine wl_op rfl (op_call_v (vs := [(Value.agg #[(Value.slice z4 m4 k4), (Value.slice z5 m5 k5)]), (Value.slice z3 m3 k3), (Value.agg #[(Value.int .i64 (a2.Memory)), (Value.int .i64 (a2.Turn))]), (Value.int .i64 (a3))]) (r := (Value.int .i64 (x1))) rfl ca47 rfl (args4 rfl rfl rfl rfl) I4 (fun Fr_ hF_ => F47_ok hF_ (Graph.rv (s := a0) r3 r4) (h1_.mono (le1.trans le2)) (Mind.rv (s := a2)) hx1) (fun w3 I5 => ?_))
 refine wl_op rfl (op_assign (v := (Value.int .i64 (x1))) rfl rfl ?_)
 refine wl_nil ?_
 refine wp_seq' ?_
 refine wp_region' ?_
 refine wl_op rfl (op_move (v := (Value.int .i64 (x1))) rfl rfl ?_)
 refine wl_op rfl (op_neq (a := x1) (b := 0) rfl rfl rfl ?_)
 refine wl_nil ?_
 rcases ifs h with ⟨hc1, h⟩ | ⟨hc1, h⟩
 ·
  refine wp_cond_t (b := x1 != 0) rfl hc1 ?_
  refine wp_seq' ?_
  refine wp_region' ?_
  refine wl_op rfl (op_move (v := (Value.int .i64 (x1))) rfl rfl ?_)
  refine wl_op rfl (op_assign (v := (Value.slice none 0 0)) rfl rfl ?_)
  refine wl_op rfl (op_assign (v := (Value.bool (false))) rfl rfl ?_)
  refine wl_op rfl (op_assign (v := (Value.int .i64 (x1))) rfl rfl ?_)
  refine wl_nil ?_
  refine wp_ret' ?_
  have I6 := Inv.rowNil (α := Int) (T := 3) I5
  obtain rfl := Option.some.inj h
  exact ⟨(Value.tuple #[(Value.slice none 0 0), (Value.bool (false)), (Value.int .i64 (x1))]), (res3 rfl rfl rfl rfl), _, [Row (α := Int) 3 (Value.slice none 0 0) (([] : List Int))], (le1.trans le2), I6, _, _, _, rfl, rfl⟩
 ·
  refine wp_cond_f (b := x1 != 0) rfl hc1 ?_
  refine wp_skip' ?_
  refine wp_seq' ?_
  refine wp_region' ?_
  refine wl_op rfl (op_load (v := (Value.pointer (some ⟨g1, 0, none⟩))) (e := a0) rfl sh25 rfl ((p1.mono le2).at_ I5) (fun u3 hu3 => ?_))
  obtain ⟨c5, c6, e10, r5, r6⟩ := Graph.inv hu3
  subst e10
  obtain ⟨z6, m6, k6, e11⟩ := rv_form r5
  subst e11
  obtain ⟨z7, m7, k7, e12⟩ := rv_form r6
  subst e12
  refine wl_op rfl (op_move (v := (Value.slice z3 m3 k3)) rfl rfl ?_)
  refine wl_op rfl (op_load (v := (Value.pointer (some ⟨g2, 0, none⟩))) (e := a2) rfl sh28 rfl (p2.at_ I5) (fun u4 hu4 => ?_))
  have e13 := Mind.inv hu4
  subst e13
  refine wl_op rfl (op_move (v := (Value.int .i64 (a3))) rfl rfl ?_)
  obtain ⟨x2, hx2, h⟩ := bnd h
  refine wl_op rfl (op_call (vs := [(Value.agg #[(Value.slice z6 m6 k6), (Value.slice z7 m7 k7)]), (Value.slice z3 m3 k3), (Value.agg #[(Value.int .i64 (a2.Memory)), (Value.int .i64 (a2.Turn))]), (Value.int .i64 (a3))]) rfl ca48 rfl (args4 rfl rfl rfl rfl) (F48_ok I5 (Graph.rv (s := a0) r5 r6) (h1_.mono (le1.trans le2)) (Mind.rv (s := a2)) hx2) (fun v1 w4 S3 O1 le3 I7 hv1 => ?_))
  obtain ⟨z8, m8, k8, rfl, rfl⟩ := hv1
  refine wl_op rfl (op_move (v := (Value.tuple #[(Value.slice z8 m8 k8), (Value.bool (x2.2))])) rfl rfl ?_)
  refine wl_op rfl (op_extract (v := (Value.slice z8 m8 k8)) rfl rfl rfl ?_)
  refine wl_op rfl (op_extract (v := (Value.bool (x2.2))) rfl rfl rfl ?_)
  refine wl_op rfl (op_assign (v := (Value.slice z8 m8 k8)) rfl rfl ?_)
  refine wl_op rfl (op_assign (v := (Value.bool (x2.2))) rfl rfl ?_)
  refine wl_nil ?_
  refine wp_seq' ?_
  refine wp_region' ?_
  refine wl_op rfl (op_move (v := (Value.slice z8 m8 k8)) rfl rfl ?_)
  refine wl_op rfl (op_move (v := (Value.bool (x2.2))) rfl rfl ?_)
  refine wl_op rfl (op_assign (v := (Value.slice z8 m8 k8)) rfl rfl ?_)
  refine wl_op rfl (op_assign (v := (Value.bool (x2.2))) rfl rfl ?_)
  refine wl_op rfl (op_assign (v := (Value.int .i64 (0))) rfl rfl ?_)
  refine wl_nil ?_
  refine wp_ret' ?_
  obtain rfl := Option.some.inj h
  exact ⟨(Value.tuple #[(Value.slice z8 m8 k8), (Value.bool (x2.2)), (Value.int .i64 (0))]), (res3 rfl rfl rfl rfl), _, [Row (α := Int) 3 (Value.slice z8 m8 k8) (x2.1)], ((le1.trans le2).trans le3), I7, _, _, _, rfl, rfl⟩

set_option maxHeartbeats 4000000 in
set_option maxRecDepth 100000 in
theorem F3_ok {w : World} {S : PH} {Fr : List HP} {a0 : Graph} {v0 : Value} {a1 : (List Int)} {v1 : Value} {a2 : Law06_Run} {v2 : Value} {r : Bool} (hI : Inv w S (Fr)) (h0_ : RV S v0 a0) (h1_ : RV S v1 a1) (h2_ : RV S v2 a2) (h : F3 a0 a1 a2 = some r) :
    Calls Try.prog 3 [v0, v1, v2].toArray w (DoneV S Fr (Value.bool (r))) := by
 unfold F3 at h
 obtain ⟨c1, c2, e1, r1, r2⟩ := Graph.inv h0_
 subst e1
 obtain ⟨z1, m1, k1, e2⟩ := rv_form r1
 subst e2
 obtain ⟨z2, m2, k2, e3⟩ := rv_form r2
 subst e3
 obtain ⟨z3, m3, k3, e4⟩ := rv_form h1_
 subst e4
 have e5 := Law06_Run.inv h2_
 subst e5
 refine calls_enter (n := 59) (vs := [(Value.agg #[(Value.slice z1 m1 k1), (Value.slice z2 m2 k2)]), (Value.slice z3 m3 k3), (Value.agg #[(Value.int .i64 (a2.Mind.Memory)), (Value.int .i64 (a2.Mind.Turn)), (Value.int .i64 (a2.Most))])]) Try.func3 rfl rfl rfl ?_
 refine wp_seq' ?_
 refine wp_region' ?_
 refine wl_op rfl (op_box (v := (Value.agg #[(Value.slice z1 m1 k1), (Value.slice z2 m2 k2)])) rfl hI rfl (fun g1 w1 I1 => ?_))
 obtain ⟨S1, le1, I2, p1⟩ := Inv.boxFreeze (x := a0) I1 (Graph.rv (s := a0) r1 r2)
 refine wl_op rfl (op_box (v := (Value.agg #[(Value.int .i64 (a2.Mind.Memory)), (Value.int .i64 (a2.Mind.Turn)), (Value.int .i64 (a2.Most))])) rfl I2 rfl (fun g2 w2 I3 => ?_))
 obtain ⟨S2, le2, I4, p2⟩ := Inv.boxFreeze (x := a2) I3 (Law06_Run.rv (s := a2))
 refine wl_op rfl (op_assign (v := (Value.bool (false))) rfl rfl ?_)
 refine wl_nil ?_
 obtain ⟨ov1, h2, h⟩ := bnd h
 refine wp_cut (fun f w => ∃ v1, ov1 = Sum.inl v1 ∧ Inv w S2 (Fr) ∧ f 1 = (Value.slice z3 m3 k3) ∧ f 3 = (Value.pointer (some ⟨g1, 0, none⟩)) ∧ f 5 = (Value.pointer (some ⟨g2, 0, none⟩))) ?_ ?_
 ·
  refine wp_seq' ?_
  refine wp_region' ?_
  refine wl_op rfl (op_load (v := (Value.pointer (some ⟨g1, 0, none⟩))) (e := a0) rfl sh25 rfl ((p1.mono le2).at_ I4) (fun u2 hu2 => ?_))
  obtain ⟨c5, c6, e9, r5, r6⟩ := Graph.inv hu2
  subst e9
  obtain ⟨z6, m6, k6, e10⟩ := rv_form r5
  subst e10
  obtain ⟨z7, m7, k7, e11⟩ := rv_form r6
  subst e11
  obtain ⟨x5, hx5, h2⟩ := bnd h2
  refine wl_op rfl (op_call_v (vs := [(Value.agg #[(Value.slice z6 m6 k6), (Value.slice z7 m7 k7)])]) (r := (Value.bool (x5))) rfl ca15 rfl (args1 rfl) I4 (fun Fr_ hF_ => F15_ok hF_ (Graph.rv (s := a0) r5 r6) hx5) (fun w7 I9 => ?_))
  refine wl_op rfl (op_move (v := (Value.bool (x5))) rfl rfl ?_)
  rcases ifs h2 with ⟨hc3, h2⟩ | ⟨hc3, h2⟩
  ·
   refine wl_skip (c := x5) rfl rfl rfl rfl hc3 rfl ?_
   refine wl_skip (c := x5) rfl rfl rfl rfl hc3 rfl ?_
   refine wl_skip (c := x5) rfl rfl rfl rfl hc3 rfl ?_
   refine wl_op rfl (op_pick_t (c := x5) (a := (Value.bool (true))) rfl rfl hc3 rfl ?_)
   refine wl_nil ?_
   refine wp_cond_t (b := true) rfl rfl ?_
   refine wp_seq' ?_
   refine wp_region' ?_
   obtain ⟨x6, hx6, h2⟩ := bnd h2
   refine wl_op rfl (op_call_v (vs := []) (r := (Value.bool (x6))) rfl ca17 rfl args0 I9 (fun Fr_ hF_ => F17_ok hF_  hx6) (fun w8 I10 => ?_))
   refine wl_op rfl (op_assign (v := (Value.bool (x6))) rfl rfl ?_)
   refine wl_nil ?_
   refine wp_ret' ?_
   obtain rfl := Option.some.inj h2
   have h3 := h
   obtain rfl := Option.some.inj h3
   exact ⟨(Value.bool (x6)), (res1 rfl rfl), _, [], (le1.trans le2), I10, rfl, rfl⟩
  ·
   refine wl_taken (c := x5) rfl rfl rfl rfl hc3 (op_fieldAddr_t (v := (Value.pointer (some ⟨g2, 0, none⟩))) rfl fa30_1 rfl (p2.at_ I9) ?_)
   refine wl_taken (c := x5) rfl rfl rfl rfl hc3 (op_load_int (v := (fieldPtr (Value.pointer (some ⟨g2, 0, none⟩)) 2)) (e := a2.Most) rfl sh3 rfl ((p2.at_ I9).fld Law06_Run.fld1) ?_)
   obtain ⟨x7, hx7, h2⟩ := bnd h2
   refine wl_taken (c := x5) rfl rfl rfl rfl hc3 (op_call_v (vs := [(Value.int .i64 (a2.Most))]) (r := (Value.bool (x7))) rfl ca16 rfl (args1 rfl) I9 (fun Fr_ hF_ => F16_ok hF_  hx7) (fun w9 I11 => ?_))
   refine wl_op rfl (op_pick_f (c := x5) (b := (Value.bool (x7))) rfl rfl hc3 rfl ?_)
   refine wl_nil ?_
   rcases ifs h2 with ⟨hc4, h2⟩ | ⟨hc4, h2⟩
   ·
    refine wp_cond_t (b := x7) rfl hc4 ?_
    refine wp_seq' ?_
    refine wp_region' ?_
    obtain ⟨x8, hx8, h2⟩ := bnd h2
    refine wl_op rfl (op_call_v (vs := []) (r := (Value.bool (x8))) rfl ca17 rfl args0 I11 (fun Fr_ hF_ => F17_ok hF_  hx8) (fun w10 I12 => ?_))
    refine wl_op rfl (op_assign (v := (Value.bool (x8))) rfl rfl ?_)
    refine wl_nil ?_
    refine wp_ret' ?_
    obtain rfl := Option.some.inj h2
    have h3 := h
    obtain rfl := Option.some.inj h3
    exact ⟨(Value.bool (x8)), (res1 rfl rfl), _, [], (le1.trans le2), I12, rfl, rfl⟩
   ·
    refine wp_cond_f (b := x7) rfl hc4 ?_
    refine wp_skip' ?_
    obtain rfl := Option.some.inj h2
    exact ⟨_, rfl, I11, rfl, rfl, rfl⟩
 ·
  rintro f w ⟨v1, rfl, I13, e12, e13, e14⟩
  have h := onL_inl h
  refine wp_seq' ?_
  refine wp_region' ?_
  refine wl_op rfl (op_load (v := (Value.pointer (some ⟨g1, 0, none⟩))) (e := a0) rfl sh25 e13 ((p1.mono le2).at_ I13) (fun u3 hu3 => ?_))
  obtain ⟨c7, c8, e15, r7, r8⟩ := Graph.inv hu3
  subst e15
  obtain ⟨z8, m8, k8, e16⟩ := rv_form r7
  subst e16
  obtain ⟨z9, m9, k9, e17⟩ := rv_form r8
  subst e17
  refine wl_op rfl (op_move (v := (Value.slice z3 m3 k3)) rfl e12 ?_)
  refine wl_op rfl (op_fieldAddr_t (v := (Value.pointer (some ⟨g2, 0, none⟩))) rfl fa30_0 e14 (p2.at_ I13) ?_)
  refine wl_op rfl (op_load (v := (fieldPtr (Value.pointer (some ⟨g2, 0, none⟩)) 0)) (e := a2.Mind) rfl sh28 rfl ((p2.at_ I13).fld Law06_Run.fld0) (fun u4 hu4 => ?_))
  have e18 := Mind.inv hu4
  subst e18
  refine wl_op rfl (op_fieldAddr_t (v := (Value.pointer (some ⟨g2, 0, none⟩))) rfl fa30_1 e14 (p2.at_ I13) ?_)
  refine wl_op rfl (op_load_int (v := (fieldPtr (Value.pointer (some ⟨g2, 0, none⟩)) 2)) (e := a2.Most) rfl sh3 rfl ((p2.at_ I13).fld Law06_Run.fld1) ?_)
  obtain ⟨x9, hx9, h⟩ := bnd h
  refine wl_op rfl (op_call (vs := [(Value.agg #[(Value.slice z8 m8 k8), (Value.slice z9 m9 k9)]), (Value.slice z3 m3 k3), (Value.agg #[(Value.int .i64 (a2.Mind.Memory)), (Value.int .i64 (a2.Mind.Turn))]), (Value.int .i64 (a2.Most))]) rfl ca18 rfl (args4 rfl rfl rfl rfl) (F18_ok I13 (Graph.rv (s := a0) r7 r8) (h1_.mono (le1.trans le2)) (Mind.rv (s := a2.Mind)) hx9) (fun v2 w11 S3 O1 le3 I14 hv1 => ?_))
  obtain ⟨z10, m10, k10, rfl, rfl⟩ := hv1
  refine wl_op rfl (op_move (v := (Value.tuple #[(Value.slice z10 m10 k10), (Value.bool (x9.2.1)), (Value.int .i64 (x9.2.2))])) rfl rfl ?_)
  refine wl_op rfl (op_extract (v := (Value.slice z10 m10 k10)) rfl rfl rfl ?_)
  refine wl_op rfl (op_extract (v := (Value.bool (x9.2.1))) rfl rfl rfl ?_)
  refine wl_op rfl (op_extract (v := (Value.int .i64 (x9.2.2))) rfl rfl rfl ?_)
  refine wl_op rfl (op_assign (v := (Value.slice z10 m10 k10)) rfl rfl ?_)
  refine wl_op rfl (op_assign (v := (Value.bool (x9.2.1))) rfl rfl ?_)
  refine wl_op rfl (op_assign (v := (Value.int .i64 (x9.2.2))) rfl rfl ?_)
  refine wl_nil ?_
  refine wp_seq' ?_
  refine wp_region' ?_
  refine wl_op rfl (op_load (v := (Value.pointer (some ⟨g1, 0, none⟩))) (e := a0) rfl sh25 e13 ((p1.mono (le2.trans le3)).at_ I14) (fun u5 hu5 => ?_))
  obtain ⟨c9, c10, e19, r9, r10⟩ := Graph.inv hu5
  subst e19
  obtain ⟨z11, m11, k11, e20⟩ := rv_form r9
  subst e20
  obtain ⟨z12, m12, k12, e21⟩ := rv_form r10
  subst e21
  refine wl_op rfl (op_move (v := (Value.slice z3 m3 k3)) rfl e12 ?_)
  refine wl_op rfl (op_fieldAddr_t (v := (Value.pointer (some ⟨g2, 0, none⟩))) rfl fa30_0 e14 ((p2.mono le3).at_ I14) ?_)
  refine wl_op rfl (op_load (v := (fieldPtr (Value.pointer (some ⟨g2, 0, none⟩)) 0)) (e := a2.Mind) rfl sh28 rfl (((p2.mono le3).at_ I14).fld Law06_Run.fld0) (fun u6 hu6 => ?_))
  have e22 := Mind.inv hu6
  subst e22
  refine wl_op rfl (op_fieldAddr_t (v := (Value.pointer (some ⟨g2, 0, none⟩))) rfl fa30_1 e14 ((p2.mono le3).at_ I14) ?_)
  refine wl_op rfl (op_load_int (v := (fieldPtr (Value.pointer (some ⟨g2, 0, none⟩)) 2)) (e := a2.Most) rfl sh3 rfl (((p2.mono le3).at_ I14).fld Law06_Run.fld1) ?_)
  obtain ⟨x10, hx10, h⟩ := bnd h
  refine wl_op rfl (op_call (vs := [(Value.agg #[(Value.slice z11 m11 k11), (Value.slice z12 m12 k12)]), (Value.slice z3 m3 k3), (Value.agg #[(Value.int .i64 (a2.Mind.Memory)), (Value.int .i64 (a2.Mind.Turn))]), (Value.int .i64 (a2.Most))]) rfl ca19 rfl (args4 rfl rfl rfl rfl) (F19_ok I14 (Graph.rv (s := a0) r9 r10) (h1_.mono ((le1.trans le2).trans le3)) (Mind.rv (s := a2.Mind)) hx10) (fun v3 w12 S4 O2 le4 I15 hv2 => ?_))
  obtain ⟨z13, m13, k13, rfl, rfl⟩ := hv2
  refine wl_op rfl (op_move (v := (Value.tuple #[(Value.slice z13 m13 k13), (Value.bool (x10.2.1)), (Value.int .i64 (x10.2.2))])) rfl rfl ?_)
  refine wl_op rfl (op_extract (v := (Value.slice z13 m13 k13)) rfl rfl rfl ?_)
  refine wl_op rfl (op_extract (v := (Value.bool (x10.2.1))) rfl rfl rfl ?_)
  refine wl_op rfl (op_extract (v := (Value.int .i64 (x10.2.2))) rfl rfl rfl ?_)
  refine wl_op rfl (op_assign (v := (Value.slice z13 m13 k13)) rfl rfl ?_)
  refine wl_op rfl (op_assign (v := (Value.bool (x10.2.1))) rfl rfl ?_)
  refine wl_op rfl (op_assign (v := (Value.int .i64 (x10.2.2))) rfl rfl ?_)
  refine wl_nil ?_
  refine wp_seq' ?_
  refine wp_region' ?_
  refine wl_op rfl (op_move (v := (Value.bool (x9.2.1))) rfl rfl ?_)
  refine wl_op rfl (op_move (v := (Value.bool (x10.2.1))) rfl rfl ?_)
  refine wl_op rfl (op_beql (a := x9.2.1) (b := x10.2.1) rfl Try.underlying4 rfl rfl ?_)
  refine wl_op rfl (op_move (v := (Value.bool (x9.2.1 == x10.2.1))) rfl rfl ?_)
  rcases ifs h with ⟨hc5, h⟩ | ⟨hc5, h⟩
  ·
   refine wl_taken (c := x9.2.1 == x10.2.1) rfl rfl rfl rfl hc5 (op_move (v := (Value.int .i64 (x9.2.2))) rfl rfl ?_)
   refine wl_taken (c := x9.2.1 == x10.2.1) rfl rfl rfl rfl hc5 (op_move (v := (Value.int .i64 (x10.2.2))) rfl rfl ?_)
   refine wl_taken (c := x9.2.1 == x10.2.1) rfl rfl rfl rfl hc5 (op_eql (a := x9.2.2) (b := x10.2.2) rfl rfl rfl ?_)
   refine wl_op rfl (op_pick_t (c := x9.2.1 == x10.2.1) (a := (Value.bool (x9.2.2 == x10.2.2))) rfl rfl hc5 rfl ?_)
   refine wl_op rfl (op_move (v := (Value.bool (x9.2.2 == x10.2.2))) rfl rfl ?_)
   rcases ifs h with ⟨hc6, h⟩ | ⟨hc6, h⟩
   ·
    refine wl_taken (c := x9.2.2 == x10.2.2) rfl rfl rfl rfl hc6 (op_move (v := (Value.slice z10 m10 k10)) rfl rfl ?_)
    refine wl_taken (c := x9.2.2 == x10.2.2) rfl rfl rfl rfl hc6 (op_move (v := (Value.slice z13 m13 k13)) rfl rfl ?_)
    obtain ⟨x11, hx11, h⟩ := bnd h
    obtain ⟨S5, Fr1, le5, I16, r11, r12, bk1⟩ := Inv.lend2 (I15.pull 1)
    refine wl_taken (c := x9.2.2 == x10.2.2) rfl rfl rfl rfl hc6 (op_call (vs := [(Value.slice z10 m10 k10), (Value.slice z13 m13 k13)]) rfl ca20 rfl (args2 rfl rfl) (F20_ok I16 r11 r12 hx11) (fun v4 w13 S6 O3 le6 I18 hv3 => ?_))
    obtain ⟨rfl, rfl⟩ := hv3
    have I17 := bk1 [] trivial I18 le6
    refine wl_op rfl (op_pick_t (c := x9.2.2 == x10.2.2) (a := (Value.bool (x11))) rfl rfl hc6 rfl ?_)
    refine wl_op rfl (op_move (v := (Value.bool (x11))) rfl rfl ?_)
    rcases ifs h with ⟨hc7, h⟩ | ⟨hc7, h⟩
    ·
     obtain ⟨x12, hx12, h⟩ := bnd h
     refine wl_taken (c := x11) rfl rfl rfl rfl hc7 (op_call_v (vs := []) (r := (Value.bool (x12))) rfl ca17 rfl args0 I17 (fun Fr_ hF_ => F17_ok hF_  hx12) (fun w14 I19 => ?_))
     refine wl_op rfl (op_pick_t (c := x11) (a := (Value.bool (x12))) rfl rfl hc7 rfl ?_)
     refine wl_op rfl (op_assign (v := (Value.bool (x12))) rfl rfl ?_)
     refine wl_nil ?_
     refine wp_ret' ?_
     obtain rfl := Option.some.inj h
     exact ⟨(Value.bool (x12)), (res1 rfl rfl), _, [], (((le1.trans le2).trans le3).trans le4), ((I19).drop).drop, rfl, rfl⟩
    ·
     refine wl_skip (c := x11) rfl rfl rfl rfl hc7 rfl ?_
     refine wl_op rfl (op_pick_f (c := x11) (b := (Value.bool (false))) rfl rfl hc7 rfl ?_)
     refine wl_op rfl (op_assign (v := (Value.bool (false))) rfl rfl ?_)
     refine wl_nil ?_
     refine wp_ret' ?_
     obtain rfl := Option.some.inj h
     exact ⟨(Value.bool (false)), (res1 rfl rfl), _, [], (((le1.trans le2).trans le3).trans le4), ((I17).drop).drop, rfl, rfl⟩
   ·
    refine wl_skip (c := x9.2.2 == x10.2.2) rfl rfl rfl rfl hc6 rfl ?_
    refine wl_skip (c := x9.2.2 == x10.2.2) rfl rfl rfl rfl hc6 rfl ?_
    refine wl_skip (c := x9.2.2 == x10.2.2) rfl rfl rfl rfl hc6 rfl ?_
    refine wl_op rfl (op_pick_f (c := x9.2.2 == x10.2.2) (b := (Value.bool (false))) rfl rfl hc6 rfl ?_)
    refine wl_op rfl (op_move (v := (Value.bool (false))) rfl rfl ?_)
    refine wl_skip (c := false) rfl rfl rfl rfl rfl rfl ?_
    refine wl_op rfl (op_pick_f (c := false) (b := (Value.bool (false))) rfl rfl rfl rfl ?_)
    refine wl_op rfl (op_assign (v := (Value.bool (false))) rfl rfl ?_)
    refine wl_nil ?_
    refine wp_ret' ?_
    obtain rfl := Option.some.inj h
    exact ⟨(Value.bool (false)), (res1 rfl rfl), _, [], (((le1.trans le2).trans le3).trans le4), ((I15).drop).drop, rfl, rfl⟩
  ·
   refine wl_skip (c := x9.2.1 == x10.2.1) rfl rfl rfl rfl hc5 rfl ?_
   refine wl_skip (c := x9.2.1 == x10.2.1) rfl rfl rfl rfl hc5 rfl ?_
   refine wl_skip (c := x9.2.1 == x10.2.1) rfl rfl rfl rfl hc5 rfl ?_
   refine wl_op rfl (op_pick_f (c := x9.2.1 == x10.2.1) (b := (Value.bool (false))) rfl rfl hc5 rfl ?_)
   refine wl_op rfl (op_move (v := (Value.bool (false))) rfl rfl ?_)
   refine wl_skip (c := false) rfl rfl rfl rfl rfl rfl ?_
   refine wl_skip (c := false) rfl rfl rfl rfl rfl rfl ?_
   refine wl_skip (c := false) rfl rfl rfl rfl rfl rfl ?_
   refine wl_op rfl (op_pick_f (c := false) (b := (Value.bool (false))) rfl rfl rfl rfl ?_)
   refine wl_op rfl (op_move (v := (Value.bool (false))) rfl rfl ?_)
   refine wl_skip (c := false) rfl rfl rfl rfl rfl rfl ?_
   refine wl_op rfl (op_pick_f (c := false) (b := (Value.bool (false))) rfl rfl rfl rfl ?_)
   refine wl_op rfl (op_assign (v := (Value.bool (false))) rfl rfl ?_)
   refine wl_nil ?_
   refine wp_ret' ?_
   obtain rfl := Option.some.inj h
   exact ⟨(Value.bool (false)), (res1 rfl rfl), _, [], (((le1.trans le2).trans le3).trans le4), ((I15).drop).drop, rfl, rfl⟩
end Go.Proofs.Ytogfongmnkmegaa.Pad
