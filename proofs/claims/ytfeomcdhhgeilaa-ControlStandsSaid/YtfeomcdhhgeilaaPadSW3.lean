/- A part of the proof: what the functions of the program compute, shown over the model. -/
import Derived.Test.YtfeomcdhhgeilaaPadSP
import Derived.Test.YtfeomcdhhgeilaaPadSW1
import Derived.KernelRfl
set_option linter.unusedVariables false
namespace Go.Proofs.Ytfeomcdhhgeilaa.Pad
open Go Go.Proofs
set_option maxHeartbeats 4000000 in
set_option maxRecDepth 100000 in
theorem F46_ok {w : World} {S : PH} {Fr : List HP} {a0 : Panel} {v0 : Value} {a1 : (List Control_tick)} {v1 : Value} {r : (List Int)} (hI : Inv w S (Fr)) (h0_ : RV S v0 a0) (h1_ : RV S v1 a1) (h : F46 a0 a1 = some r) :
    Calls Try.prog 46 [v0, v1].toArray w (Done S Fr (fun T_ v_ O_ => ∃ (a0_ : Option Addr) (n0_ k0_ : Nat), v_ = (Value.slice a0_ n0_ k0_) ∧ O_ = [Row (α := Int) 3 (Value.slice a0_ n0_ k0_) (r)])) := by
 unfold F46 at h
 obtain ⟨c1, e1, r1⟩ := Panel.inv h0_
 subst e1
 obtain ⟨z1, m1, k1, e2⟩ := rv_form r1
 subst e2
 obtain ⟨z2, m2, k2, e3⟩ := rv_form h1_
 subst e3
 refine calls_enter (n := 67) (vs := [(Value.agg #[(Value.int .i64 (a0.Sensors)), (Value.slice z1 m1 k1), (Value.int .i64 (a0.Stale)), (Value.int .i64 (a0.Limit))]), (Value.slice z2 m2 k2)]) Try.func46 rfl rfl rfl ?_
 refine wp_seq' ?_
 refine wp_region' ?_
 refine wl_op rfl (op_box (v := (Value.agg #[(Value.int .i64 (a0.Sensors)), (Value.slice z1 m1 k1), (Value.int .i64 (a0.Stale)), (Value.int .i64 (a0.Limit))])) rfl hI rfl (fun g1 w1 I1 => ?_))
 obtain ⟨S1, le1, I2, p1⟩ := Inv.boxFreeze (x := a0) I1 (Panel.rv (s := a0) r1)
 refine wl_op rfl (op_assign (v := (Value.slice none 0 0)) rfl rfl ?_)
 refine wl_nil ?_
 refine wp_seq' ?_
 refine wp_region' ?_
 refine wl_op rfl (op_fieldAddr_t (v := (Value.pointer (some ⟨g1, 0, none⟩))) rfl fa24_1 rfl (p1.at_ I2) ?_)
 refine wl_op rfl (op_load (v := (fieldPtr (Value.pointer (some ⟨g1, 0, none⟩)) 1)) (e := a0.Doors) rfl sh22 rfl ((p1.at_ I2).fld Panel.fld1) (fun u1 hu1 => ?_))
 obtain ⟨z3, m3, k3, e4⟩ := rv_form hu1
 subst e4
 refine wl_op rfl (op_len_rv rfl Try.underlying22 rfl hu1 ?_)
 obtain ⟨x1, hx1, h⟩ := bnd h
 refine wl_op rfl (op_makeSlice (c := (a0.Doors.length : Int)) rfl Try.underlying109 el97 (by decide) rfl rfl I2 hx1 (fun u2 w2 I3 => ?_))
 obtain ⟨z4, m4, k4, e5⟩ := row_form I3
 subst e5
 refine wl_op rfl (op_assign (v := (Value.slice z4 m4 k4)) rfl rfl ?_)
 refine wl_nil ?_
 refine wp_seq' ?_
 refine wp_seq' ?_
 refine wp_region' ?_
 refine wl_op rfl (op_move (v := (Value.slice z2 m2 k2)) rfl rfl ?_)
 refine wl_op rfl (op_len_rv rfl Try.underlying72 rfl (h1_.mono le1) ?_)
 refine wl_op rfl (op_move (v := (Value.int .i64 (0))) rfl rfl ?_)
 refine wl_nil ?_
 have hk2 : a1.length ≤ 9223372036854775807 := (rv_len h1_)
 have I618 := Inv.rowNil (α := Int) (T := 3) I3
 obtain ⟨out4, hrun4, h⟩ := bnd h
 refine wp_cutN (fun f w => ∃ (S_ : PH) (z101 : Option Addr) (m101 k101 : Nat), S1.Le S_ ∧ Inv w S_ (Row (α := Int) 3 (Value.slice z101 m101 k101) (out4.1) :: Row (α := Control_door) 97 (Value.slice z4 m4 k4) (out4.2) :: Fr) ∧ f 2 = (Value.pointer (some ⟨g1, 0, none⟩)) ∧ f 4 = (Value.slice z101 m101 k101) ∧ f 5 = (Value.slice z4 m4 k4) ∧ f 14 = (Value.slice z2 m2 k2) ∧ f 15 = (Value.int .i64 ((a1.length : Int)))) ?_ ?_
 ·
  refine wp_block' ?_
  refine wp_forS (I := fun (i2 : Nat) (s4 : (List Int × List Control_door)) (f : Frm) (w : World) => ∃ (S_ : PH) (z100 : Option Addr) (m100 k100 : Nat), S1.Le S_ ∧ Inv w S_ (Row (α := Int) 3 (Value.slice z100 m100 k100) (s4.1) :: Row (α := Control_door) 97 (Value.slice z4 m4 k4) (s4.2) :: Fr) ∧ f 2 = (Value.pointer (some ⟨g1, 0, none⟩)) ∧ f 4 = (Value.slice z100 m100 k100) ∧ f 5 = (Value.slice z4 m4 k4) ∧ f 14 = (Value.slice z2 m2 k2) ∧ f 15 = (Value.int .i64 ((a1.length : Int))) ∧ f 16 = (Value.int .i64 (i2 : Int))) hrun4 ⟨_, _, _, _, (PH.Le.refl _), ((I618.pull 1).pull 1), rfl, rfl, rfl, rfl, rfl, rfl⟩ ?_ ?_
  ·
   rintro i2 s4 f w o4 hlt2 hI509 h7
   obtain ⟨S525, z100, m100, k100, le525, I619, e555, e556, e557, e558, e559, e560⟩ := hI509
   refine wp_seq' ?_
   refine wp_region' ?_
   refine wl_op rfl (op_lss (a := (i2 : Int)) (b := (a1.length : Int)) rfl e560 e559 ?_)
   refine wl_nil ?_
   refine wp_seq' ?_
   refine wp_cond_t (b := decide ((i2 : Int) < (a1.length : Int))) rfl (len_t hlt2) ?_
   refine wp_skip' ?_
   refine wp_seq' ?_
   refine wp_block' ?_
   refine wp_seq' ?_
   refine wp_region' ?_
   obtain ⟨x134, hx134, h7⟩ := bnd h7
   refine wl_op rfl (op_indexAddr_rv (v := (Value.slice z2 m2 k2)) (i := (i2 : Int)) (e := x134) rfl Try.underlying72 sh87 e558 (h1_.mono (le1.trans le525)) e560 hx134 ?_)
   refine wl_op rfl (op_load (v := (elemPtr (Value.slice z2 m2 k2) ((i2 : Int)) (Enc.sz Control_tick))) (e := x134) rfl sh87 rfl ((h1_.mono (le1.trans le525)).elem I619.in_ hx134) (fun u138 hu131 => ?_))
   obtain ⟨c17, c18, c19, c20, c21, e561, r71, r72, r73, r74, r75⟩ := Control_tick.inv hu131
   subst e561
   obtain ⟨z102, m102, k102, e562⟩ := rv_form r71
   subst e562
   obtain ⟨z103, m103, k103, e563⟩ := rv_form r72
   subst e563
   obtain ⟨z104, m104, k104, e564⟩ := rv_form r73
   subst e564
   obtain ⟨z105, m105, k105, e565⟩ := rv_form r74
   subst e565
   obtain ⟨z106, m106, k106, e566⟩ := rv_form r75
   subst e566
   refine wl_op rfl (op_alloc (z := (Value.agg #[(Value.bool (false)), (Value.slice none 0 0), (Value.slice none 0 0), (Value.slice none 0 0), (Value.slice none 0 0), (Value.slice none 0 0)])) rfl I619 zo87 (fun g5 w592 (I620 : Inv w592 S525 (Cells g5 87 #[(Value.bool (false)), (Value.slice none 0 0), (Value.slice none 0 0), (Value.slice none 0 0), (Value.slice none 0 0), (Value.slice none 0 0)] :: Row (α := Int) 3 (Value.slice z100 m100 k100) (s4.1) :: Row (α := Control_door) 97 (Value.slice z4 m4 k4) (s4.2) :: Fr)) => ?_))
   refine wl_op rfl (op_store (v := (Value.agg #[(Value.bool (x134.power)), (Value.slice z102 m102 k102), (Value.slice z103 m103 k103), (Value.slice z104 m104 k104), (Value.slice z105 m105 k105), (Value.slice z106 m106 k106)])) (cs := #[(Value.bool (false)), (Value.slice none 0 0), (Value.slice none 0 0), (Value.slice none 0 0), (Value.slice none 0 0), (Value.slice none 0 0)]) sh87 I620 rfl rfl rfl (Nat.le_of_ble_eq_true rfl) rfl (fun w593 (I621 : Inv w593 S525 (Cells g5 87 #[(Value.bool (x134.power)), (Value.slice z102 m102 k102), (Value.slice z103 m103 k103), (Value.slice z104 m104 k104), (Value.slice z105 m105 k105), (Value.slice z106 m106 k106)] :: Row (α := Int) 3 (Value.slice z100 m100 k100) (s4.1) :: Row (α := Control_door) 97 (Value.slice z4 m4 k4) (s4.2) :: Fr)) => ?_))
   refine wl_nil ?_
   refine wp_seq' ?_
   refine wp_region' ?_
   refine wl_op rfl (op_assign (v := (Value.int .i64 (0))) rfl rfl ?_)
   refine wl_nil ?_
   refine wp_seq' ?_
   refine wp_seq' ?_
   refine wp_region' ?_
   refine wl_op rfl (op_move (v := (Value.slice z4 m4 k4)) rfl e557 ?_)
   refine wl_op rfl (op_len_row (α := Control_door) rfl Try.underlying109 rfl (I621.nth 2 rfl) ?_)
   refine wl_op rfl (op_move (v := (Value.int .i64 (0))) rfl rfl ?_)
   refine wl_nil ?_
   have hk3 : s4.2.length ≤ 9223372036854775807 := (row_len (I621.nth 2 rfl))
   obtain ⟨out5, hrun5, h7⟩ := bnd h7
   refine wp_cutN (fun f w => ∃ (S_ : PH), S525.Le S_ ∧ Inv w S_ (Row (α := Int) 3 (Value.slice z100 m100 k100) (s4.1) :: Row (α := Control_door) 97 (Value.slice z4 m4 k4) (out5.1) :: Cells g5 87 #[(Value.bool (x134.power)), (Value.slice z102 m102 k102), (Value.slice z103 m103 k103), (Value.slice z104 m104 k104), (Value.slice z105 m105 k105), (Value.slice z106 m106 k106)] :: Fr) ∧ f 2 = (Value.pointer (some ⟨g1, 0, none⟩)) ∧ f 4 = (Value.slice z100 m100 k100) ∧ f 5 = (Value.slice z4 m4 k4) ∧ f 7 = (Value.pointer (some ⟨g5, 0, none⟩)) ∧ f 8 = (Value.int .i64 (out5.2)) ∧ f 14 = (Value.slice z2 m2 k2) ∧ f 15 = (Value.int .i64 ((a1.length : Int))) ∧ f 16 = (Value.int .i64 ((i2 : Int))) ∧ f 21 = (Value.int .i64 ((s4.2.length : Int)))) ?_ ?_
   ·
    refine wp_block' ?_
    refine wp_forS (I := fun (i3 : Nat) (s5 : (List Control_door × Int)) (f : Frm) (w : World) => ∃ (S_ : PH), S525.Le S_ ∧ Inv w S_ (Row (α := Int) 3 (Value.slice z100 m100 k100) (s4.1) :: Row (α := Control_door) 97 (Value.slice z4 m4 k4) (s5.1) :: Cells g5 87 #[(Value.bool (x134.power)), (Value.slice z102 m102 k102), (Value.slice z103 m103 k103), (Value.slice z104 m104 k104), (Value.slice z105 m105 k105), (Value.slice z106 m106 k106)] :: Fr) ∧ f 2 = (Value.pointer (some ⟨g1, 0, none⟩)) ∧ f 4 = (Value.slice z100 m100 k100) ∧ f 5 = (Value.slice z4 m4 k4) ∧ f 7 = (Value.pointer (some ⟨g5, 0, none⟩)) ∧ f 8 = (Value.int .i64 (s5.2)) ∧ f 14 = (Value.slice z2 m2 k2) ∧ f 15 = (Value.int .i64 ((a1.length : Int))) ∧ f 16 = (Value.int .i64 ((i2 : Int))) ∧ f 21 = (Value.int .i64 ((s4.2.length : Int))) ∧ f 22 = (Value.int .i64 (i3 : Int))) hrun5 ⟨_, (PH.Le.refl _), ((I621.pull 2).pull 2), e555, e556, e557, rfl, rfl, e558, e559, e560, rfl, rfl⟩ ?_ ?_
    ·
     rintro i3 s5 f w o5 hlt3 hI594 h9
     obtain ⟨S612, le612, I721, e645, e646, e647, e648, e649, e650, e651, e652, e653, e654⟩ := hI594
     refine wp_seq' ?_
     refine wp_region' ?_
     refine wl_op rfl (op_lss (a := (i3 : Int)) (b := (s4.2.length : Int)) rfl e654 e653 ?_)
     refine wl_nil ?_
     refine wp_seq' ?_
     refine wp_cond_t (b := decide ((i3 : Int) < (s4.2.length : Int))) rfl (len_t hlt3) ?_
     refine wp_skip' ?_
     refine wp_seq' ?_
     refine wp_block' ?_
     refine wp_seq' ?_
     refine wp_region' ?_
     refine wl_op rfl (op_move (v := (Value.int .i64 ((i3 : Int)))) rfl e654 ?_)
     refine wl_op rfl (op_assign (v := (Value.int .i64 ((i3 : Int)))) rfl rfl ?_)
     refine wl_nil ?_
     refine wp_seq' ?_
     obtain ⟨x156, hx156, h9⟩ := bnd h9
     obtain ⟨x157, hx157, h9⟩ := bnd h9
     obtain ⟨x158, hx158, h9⟩ := bnd h9
     obtain ⟨x159, hx159, h9⟩ := bnd h9
     obtain ⟨x160, hx160, h9⟩ := bnd h9
     refine wp_draw (sps := [⟨some 25, [], [0], fun vs_ T_ => fr0 vs_ 0 = (Value.slice z4 m4 k4), [], [], [], fun _ h_ => h_⟩, ⟨some 26, [], [1], fun vs_ T_ => fr0 vs_ 0 = (Value.int .i64 ((i3 : Int))), [], [], [], fun _ h_ => h_⟩, ⟨some 27, [], [2], fun vs_ T_ => fr0 vs_ 0 = (Value.slice z4 m4 k4), [], [], [], fun _ h_ => h_⟩, ⟨some 28, [], [3], fun vs_ T_ => fr0 vs_ 0 = (Value.int .i64 ((i3 : Int))), [], [], [], fun _ h_ => h_⟩, ⟨some 29, [2, 3], [4], fun vs_ T_ => fr0 vs_ 0 = (elemPtr (Value.slice z4 m4 k4) ((i3 : Int)) (Enc.sz Control_door)), [0], [], [], fun _ h_ => h_⟩, ⟨some 30, [2, 3, 4], [5], fun vs_ T_ => fr0 vs_ 0 = (Value.agg #[(Value.int .i64 (x156.left)), (Value.bool (x156.shut))]), [0], [], [], fun _ h_ => h_⟩, ⟨some 31, [], [6], fun vs_ T_ => fr0 vs_ 0 = (fieldPtr (Value.pointer (some ⟨g1, 0, none⟩)) 1), [], [], [], fun _ h_ => h_⟩, ⟨some 32, [6], [7], fun vs_ T_ => RV T_ (fr0 vs_ 0) a0.Doors, [], [], [], fun hle_ h_ => h_.mono hle_⟩, ⟨some 33, [], [8], fun vs_ T_ => fr0 vs_ 0 = (Value.int .i64 ((i3 : Int))), [], [], [], fun _ h_ => h_⟩, ⟨some 34, [6, 7, 8], [9, 7], fun vs_ T_ => fr0 vs_ 0 = (elemPtr (fr0 vs_ 1) ((i3 : Int)) (Enc.sz Gate)), [], [], [], fun _ h_ => h_⟩, ⟨some 35, [6, 7, 8, 9], [10, 7], fun vs_ T_ => fr0 vs_ 0 = (fieldPtr (elemPtr (fr0 vs_ 1) ((i3 : Int)) (Enc.sz Gate)) 0), [], [], [], fun _ h_ => h_⟩, ⟨some 36, [6, 7, 8, 9, 10], [11], fun vs_ T_ => fr0 vs_ 0 = (Value.int .i64 (x157.Wait)), [], [], [], fun _ h_ => h_⟩, ⟨some 37, [], [12], fun vs_ T_ => fr0 vs_ 0 = (Value.pointer (some ⟨g5, 0, none⟩)), [], [], [], fun _ h_ => h_⟩, ⟨some 38, [12], [13], fun vs_ T_ => fr0 vs_ 0 = (Value.bool (x134.power)), [1], [], [], fun _ h_ => h_⟩, ⟨some 39, [], [14], fun vs_ T_ => fr0 vs_ 0 = (Value.pointer (some ⟨g5, 5, none⟩)), [], [], [], fun _ h_ => h_⟩, ⟨some 40, [14], [15], fun vs_ T_ => fr0 vs_ 0 = (Value.slice z106 m106 k106), [1], [], [], fun _ h_ => h_⟩, ⟨some 41, [], [16], fun vs_ T_ => fr0 vs_ 0 = (Value.int .i64 ((i3 : Int))), [], [], [], fun _ h_ => h_⟩, ⟨some 42, [14, 15, 16], [17], fun vs_ T_ => fr0 vs_ 0 = (elemPtr (Value.slice z106 m106 k106) ((i3 : Int)) (Enc.sz Bool)), [], [], [], fun _ h_ => h_⟩, ⟨some 43, [14, 15, 16, 17], [18], fun vs_ T_ => fr0 vs_ 0 = (Value.bool (x158)), [], [], [], fun _ h_ => h_⟩, ⟨some 44, [], [19], fun vs_ T_ => fr0 vs_ 0 = (Value.pointer (some ⟨g5, 4, none⟩)), [], [], [], fun _ h_ => h_⟩, ⟨some 45, [19], [20], fun vs_ T_ => fr0 vs_ 0 = (Value.slice z105 m105 k105), [1], [], [], fun _ h_ => h_⟩, ⟨some 46, [], [21], fun vs_ T_ => fr0 vs_ 0 = (Value.int .i64 ((i3 : Int))), [], [], [], fun _ h_ => h_⟩, ⟨some 47, [19, 20, 21], [22], fun vs_ T_ => fr0 vs_ 0 = (elemPtr (Value.slice z105 m105 k105) ((i3 : Int)) (Enc.sz Int)), [], [], [], fun _ h_ => h_⟩, ⟨some 48, [19, 20, 21, 22], [23], fun vs_ T_ => fr0 vs_ 0 = (Value.int .i64 (x159)), [], [], [], fun _ h_ => h_⟩, ⟨some 49, [2, 3, 4, 5, 6, 7, 8, 9, 10, 11, 12, 13, 14, 15, 16, 17, 18, 19, 20, 21, 22, 23], [24], fun vs_ T_ => fr0 vs_ 0 = (Value.agg #[(Value.int .i64 (x160.left)), (Value.bool (x160.shut))]), [], [], [], fun _ h_ => h_⟩, ⟨some 50, [0, 1, 2, 3, 4, 5, 6, 7, 8, 9, 10, 11, 12, 13, 14, 15, 16, 17, 18, 19, 20, 21, 22, 23, 24], [25], fun vs_ T_ => fr0 vs_ 0 = (elemPtr (Value.slice z4 m4 k4) ((i3 : Int)) (Enc.sz Control_door)), [0], [], [], fun _ h_ => h_⟩, ⟨none, [0, 1, 2, 3, 4, 5, 6, 7, 8, 9, 10, 11, 12, 13, 14, 15, 16, 17, 18, 19, 20, 21, 22, 23, 24, 25], [], fun vs_ T_ => True, [], [0], [2], fun _ h_ => h_⟩]) (tks := [⟨none, some 26, [], fun vs_ => Row (α := Control_door) 97 (Value.slice z4 m4 k4) (s5.1)⟩, ⟨none, none, [], fun vs_ => Cells g5 87 #[(Value.bool (x134.power)), (Value.slice z102 m102 k102), (Value.slice z103 m103 k103), (Value.slice z104 m104 k104), (Value.slice z105 m105 k105), (Value.slice z106 m106 k106)]⟩, ⟨some 26, none, [], fun vs_ => Row (α := Control_door) 97 (Value.slice z4 m4 k4) (s5.1.set ((i3 : Int)).toNat x160)⟩]) (O := Row (α := Int) 3 (Value.slice z100 m100 k100) (s4.1) :: Fr) rfl (by kernel_rfl) ((I721.pull 2).pull 2) ⟨?_, ?_, ?_, ?_, ?_, ?_, ?_, ?_, ?_, ?_, ?_, ?_, ?_, ?_, ?_, ?_, ?_, ?_, ?_, ?_, ?_, ?_, ?_, ?_, ?_, ?_, ?_, trivial⟩ ?_
     ·
      intro vs589 f w692 S613 X568 le613 hA568 hK589 hI595
      have I724 : Inv w692 S613 (X568) := hI595
      refine opg_plain rfl rfl (op_move (v := (Value.slice z4 m4 k4)) rfl ((hK589 5 (keep_of rfl)).trans e647) ?_)
      refine ⟨_, _, rfl, PH.Le.refl _, ?_, ?_⟩
      ·
       exact rfl
      ·
       exact I724
     ·
      intro vs590 f w693 S614 X569 le614 hA569 hK590 hI596
      have I725 : Inv w693 S614 (X569) := hI596
      refine opg_plain rfl rfl (op_move (v := (Value.int .i64 ((i3 : Int)))) rfl (hK590 9 (keep_of rfl)) ?_)
      refine ⟨_, _, rfl, PH.Le.refl _, ?_, ?_⟩
      ·
       exact rfl
      ·
       exact I725
     ·
      intro vs591 f w694 S615 X570 le615 hA570 hK591 hI597
      have I726 : Inv w694 S615 (X570) := hI597
      refine opg_plain rfl rfl (op_move (v := (Value.slice z4 m4 k4)) rfl ((hK591 5 (keep_of rfl)).trans e647) ?_)
      refine ⟨_, _, rfl, PH.Le.refl _, ?_, ?_⟩
      ·
       exact rfl
      ·
       exact I726
     ·
      intro vs592 f w695 S616 X571 le616 hA571 hK592 hI598
      have I727 : Inv w695 S616 (X571) := hI598
      refine opg_plain rfl rfl (op_move (v := (Value.int .i64 ((i3 : Int)))) rfl (hK592 9 (keep_of rfl)) ?_)
      refine ⟨_, _, rfl, PH.Le.refl _, ?_, ?_⟩
      ·
       exact rfl
      ·
       exact I727
     ·
      intro vs593 f w696 S617 X572 le617 hA572 hK593 hI599
      have I728 : Inv w696 S617 (Row (α := Control_door) 97 (Value.slice z4 m4 k4) (s5.1) :: X572) := hI599
      have q652 : f 27 = (Value.slice z4 m4 k4) := vt (hA572.at_ 0 rfl _ rfl) rfl
      have q653 : f 28 = (Value.int .i64 ((i3 : Int))) := vt (hA572.at_ 1 rfl _ rfl) rfl
      refine opg_plain rfl rfl (op_indexAddr_src (v := (Value.slice z4 m4 k4)) (i := (i3 : Int)) (e := x156) rfl Try.underlying109 sh97 q652 (Inv.rowSrc (I728.nth 0 rfl)) q653 hx156 ?_)
      refine ⟨_, _, rfl, PH.Le.refl _, ?_, ?_⟩
      ·
       exact rfl
      ·
       exact I728
     ·
      intro vs594 f w697 S618 X573 le618 hA573 hK594 hI600
      have I729 : Inv w697 S618 (Row (α := Control_door) 97 (Value.slice z4 m4 k4) (s5.1) :: X573) := hI600
      have q654 : f 29 = (elemPtr (Value.slice z4 m4 k4) ((i3 : Int)) (Enc.sz Control_door)) := vt (hA573.at_ 2 rfl _ rfl) rfl
      refine opg_plain rfl rfl (op_load (v := (elemPtr (Value.slice z4 m4 k4) ((i3 : Int)) (Enc.sz Control_door))) (e := x156) rfl sh97 q654 ((I729.nth 0 rfl).rowElem hx156) (fun u162 hu155 => ?_))
      have e655 := Control_door.inv hu155
      subst e655
      refine ⟨_, _, rfl, PH.Le.refl _, ?_, ?_⟩
      ·
       exact rfl
      ·
       exact I729
     ·
      intro vs595 f w698 S619 X574 le619 hA574 hK595 hI601
      have I730 : Inv w698 S619 (X574) := hI601
      refine opg_plain rfl rfl (op_fieldAddr_t (v := (Value.pointer (some ⟨g1, 0, none⟩))) rfl fa24_1 ((hK595 2 (keep_of rfl)).trans e645) ((p1.mono ((le525.trans le612).trans le619)).at_ I730) ?_)
      refine ⟨_, _, rfl, PH.Le.refl _, ?_, ?_⟩
      ·
       exact rfl
      ·
       exact I730
     ·
      intro vs596 f w699 S620 X575 le620 hA575 hK596 hI602
      have I731 : Inv w699 S620 (X575) := hI602
      have q655 : f 31 = (fieldPtr (Value.pointer (some ⟨g1, 0, none⟩)) 1) := vt (hA575.at_ 0 rfl _ rfl) rfl
      refine opg_plain rfl rfl (op_load (v := (fieldPtr (Value.pointer (some ⟨g1, 0, none⟩)) 1)) (e := a0.Doors) rfl sh22 q655 (((p1.mono ((le525.trans le612).trans le620)).at_ I731).fld Panel.fld1) (fun u163 hu156 => ?_))
      obtain ⟨z119, m119, k119, e656⟩ := rv_form hu156
      subst e656
      refine ⟨_, _, rfl, PH.Le.refl _, ?_, ?_⟩
      ·
       exact hu156
      ·
       exact I731
     ·
      intro vs597 f w700 S621 X576 le621 hA576 hK597 hI603
      have I732 : Inv w700 S621 (X576) := hI603
      refine opg_plain rfl rfl (op_move (v := (Value.int .i64 ((i3 : Int)))) rfl (hK597 9 (keep_of rfl)) ?_)
      refine ⟨_, _, rfl, PH.Le.refl _, ?_, ?_⟩
      ·
       exact rfl
      ·
       exact I732
     ·
      intro vs598 f w701 S622 X577 le622 hA577 hK598 hI604
      have I733 : Inv w701 S622 (X577) := hI604
      have q656 : f 32 = vs598 7 := (hA577.at_ 1 rfl _ rfl).1 _ rfl
      have r85 : RV S622 (vs598 7) a0.Doors := (hA577.at_ 1 rfl _ rfl).2
      obtain ⟨u164, hu157⟩ : ∃ u, vs598 7 = u := ⟨_, rfl⟩
      rw [hu157] at q656 r85
      obtain ⟨z120, m120, k120, e657⟩ := rv_form r85
      subst e657
      have q657 : f 33 = (Value.int .i64 ((i3 : Int))) := vt (hA577.at_ 2 rfl _ rfl) rfl
      refine opg_plain rfl rfl (op_indexAddr_rv (v := (Value.slice z120 m120 k120)) (i := (i3 : Int)) (e := x157) rfl Try.underlying22 sh33 q656 r85 q657 hx157 ?_)
      refine ⟨_, _, rfl, PH.Le.refl _, ?_, ?_⟩
      ·
       show (elemPtr (Value.slice z120 m120 k120) ((i3 : Int)) (Enc.sz Gate)) = (elemPtr (vs598 7) ((i3 : Int)) (Enc.sz Gate))
       simp only [hu157] <;> rfl
      ·
       exact I733
     ·
      intro vs599 f w702 S623 X578 le623 hA578 hK599 hI605
      have I734 : Inv w702 S623 (X578) := hI605
      have q658 : f 32 = vs599 7 := (hA578.at_ 1 rfl _ rfl).1 _ rfl
      have r86 : RV S623 (vs599 7) a0.Doors := (hA578.at_ 1 rfl _ rfl).2
      obtain ⟨u165, hu158⟩ : ∃ u, vs599 7 = u := ⟨_, rfl⟩
      rw [hu158] at q658 r86
      obtain ⟨z121, m121, k121, e658⟩ := rv_form r86
      subst e658
      have q659 : f 33 = (Value.int .i64 ((i3 : Int))) := vt (hA578.at_ 2 rfl _ rfl) rfl
      have q660 : f 34 = (elemPtr (vs599 7) ((i3 : Int)) (Enc.sz Gate)) := vt (hA578.at_ 3 rfl _ rfl) rfl
      simp only [hu158] at q660
      have q660 : f 34 = (elemPtr (Value.slice z121 m121 k121) ((i3 : Int)) (Enc.sz Gate)) := q660
      refine opg_plain rfl rfl (op_fieldAddr_t (v := (elemPtr (Value.slice z121 m121 k121) ((i3 : Int)) (Enc.sz Gate))) rfl fa33_0 q660 (r86.elem I734.in_ hx157) ?_)
      refine ⟨_, _, rfl, PH.Le.refl _, ?_, ?_⟩
      ·
       show (fieldPtr (elemPtr (Value.slice z121 m121 k121) ((i3 : Int)) (Enc.sz Gate)) 0) = (fieldPtr (elemPtr (vs599 7) ((i3 : Int)) (Enc.sz Gate)) 0)
       simp only [hu158] <;> rfl
      ·
       exact I734
     ·
      intro vs600 f w703 S624 X579 le624 hA579 hK600 hI606
      have I735 : Inv w703 S624 (X579) := hI606
      have q661 : f 32 = vs600 7 := (hA579.at_ 1 rfl _ rfl).1 _ rfl
      have r87 : RV S624 (vs600 7) a0.Doors := (hA579.at_ 1 rfl _ rfl).2
      obtain ⟨u166, hu159⟩ : ∃ u, vs600 7 = u := ⟨_, rfl⟩
      rw [hu159] at q661 r87
      obtain ⟨z122, m122, k122, e659⟩ := rv_form r87
      subst e659
      have q662 : f 33 = (Value.int .i64 ((i3 : Int))) := vt (hA579.at_ 2 rfl _ rfl) rfl
      have q663 : f 34 = (elemPtr (vs600 7) ((i3 : Int)) (Enc.sz Gate)) := vt (hA579.at_ 3 rfl _ rfl) rfl
      simp only [hu159] at q663
      have q663 : f 34 = (elemPtr (Value.slice z122 m122 k122) ((i3 : Int)) (Enc.sz Gate)) := q663
      have q664 : f 35 = (fieldPtr (elemPtr (vs600 7) ((i3 : Int)) (Enc.sz Gate)) 0) := vt (hA579.at_ 4 rfl _ rfl) rfl
      simp only [hu159] at q664
      have q664 : f 35 = (fieldPtr (elemPtr (Value.slice z122 m122 k122) ((i3 : Int)) (Enc.sz Gate)) 0) := q664
      refine opg_plain rfl rfl (op_load_int (v := (fieldPtr (elemPtr (Value.slice z122 m122 k122) ((i3 : Int)) (Enc.sz Gate)) 0)) (e := x157.Wait) rfl sh3 q664 ((r87.elem I735.in_ hx157).fld Gate.fld0) ?_)
      refine ⟨_, _, rfl, PH.Le.refl _, ?_, ?_⟩
      ·
       exact rfl
      ·
       exact I735
     ·
      intro vs601 f w704 S625 X580 le625 hA580 hK601 hI607
      have I736 : Inv w704 S625 (X580) := hI607
      refine opg_plain rfl rfl (op_fieldAddr (v := (Value.pointer (some ⟨g5, 0, none⟩))) rfl fa87_0 ((hK601 7 (keep_of rfl)).trans e648) rfl ?_)
      refine ⟨_, _, rfl, PH.Le.refl _, ?_, ?_⟩
      ·
       exact rfl
      ·
       exact I736
     ·
      intro vs602 f w705 S626 X581 le626 hA581 hK602 hI608
      have I737 : Inv w705 S626 (Cells g5 87 #[(Value.bool (x134.power)), (Value.slice z102 m102 k102), (Value.slice z103 m103 k103), (Value.slice z104 m104 k104), (Value.slice z105 m105 k105), (Value.slice z106 m106 k106)] :: X581) := hI608
      have q665 : f 37 = (Value.pointer (some ⟨g5, 0, none⟩)) := vt (hA581.at_ 0 rfl _ rfl) rfl
      refine opg_plain rfl rfl (op_load1 (c := (Value.bool (x134.power))) rfl sh4 (I737.nth 0 rfl) q665 rfl ?_)
      refine ⟨_, _, rfl, PH.Le.refl _, ?_, ?_⟩
      ·
       exact rfl
      ·
       exact I737
     ·
      intro vs603 f w706 S627 X582 le627 hA582 hK603 hI609
      have I738 : Inv w706 S627 (X582) := hI609
      refine opg_plain rfl rfl (op_fieldAddr (v := (Value.pointer (some ⟨g5, 0, none⟩))) rfl fa87_5 ((hK603 7 (keep_of rfl)).trans e648) rfl ?_)
      refine ⟨_, _, rfl, PH.Le.refl _, ?_, ?_⟩
      ·
       exact rfl
      ·
       exact I738
     ·
      intro vs604 f w707 S628 X583 le628 hA583 hK604 hI610
      have I739 : Inv w707 S628 (Cells g5 87 #[(Value.bool (x134.power)), (Value.slice z102 m102 k102), (Value.slice z103 m103 k103), (Value.slice z104 m104 k104), (Value.slice z105 m105 k105), (Value.slice z106 m106 k106)] :: X583) := hI610
      have q666 : f 39 = (Value.pointer (some ⟨g5, 5, none⟩)) := vt (hA583.at_ 0 rfl _ rfl) rfl
      refine opg_plain rfl rfl (op_load1 (c := (Value.slice z106 m106 k106)) rfl sh83 (I739.nth 0 rfl) q666 rfl ?_)
      refine ⟨_, _, rfl, PH.Le.refl _, ?_, ?_⟩
      ·
       exact rfl
      ·
       exact I739
     ·
      intro vs605 f w708 S629 X584 le629 hA584 hK605 hI611
      have I740 : Inv w708 S629 (X584) := hI611
      refine opg_plain rfl rfl (op_move (v := (Value.int .i64 ((i3 : Int)))) rfl (hK605 9 (keep_of rfl)) ?_)
      refine ⟨_, _, rfl, PH.Le.refl _, ?_, ?_⟩
      ·
       exact rfl
      ·
       exact I740
     ·
      intro vs606 f w709 S630 X585 le630 hA585 hK606 hI612
      have I741 : Inv w709 S630 (X585) := hI612
      have q667 : f 40 = (Value.slice z106 m106 k106) := vt (hA585.at_ 1 rfl _ rfl) rfl
      have q668 : f 41 = (Value.int .i64 ((i3 : Int))) := vt (hA585.at_ 2 rfl _ rfl) rfl
      refine opg_plain rfl rfl (op_indexAddr_rv (v := (Value.slice z106 m106 k106)) (i := (i3 : Int)) (e := x158) rfl Try.underlying83 sh4 q667 (r75.mono (le612.trans le630)) q668 hx158 ?_)
      refine ⟨_, _, rfl, PH.Le.refl _, ?_, ?_⟩
      ·
       exact rfl
      ·
       exact I741
     ·
      intro vs607 f w710 S631 X586 le631 hA586 hK607 hI613
      have I742 : Inv w710 S631 (X586) := hI613
      have q669 : f 42 = (elemPtr (Value.slice z106 m106 k106) ((i3 : Int)) (Enc.sz Bool)) := vt (hA586.at_ 3 rfl _ rfl) rfl
      refine opg_plain rfl rfl (op_load_bool (v := (elemPtr (Value.slice z106 m106 k106) ((i3 : Int)) (Enc.sz Bool))) (e := x158) rfl sh4 q669 ((r75.mono (le612.trans le631)).elem I742.in_ hx158) ?_)
      refine ⟨_, _, rfl, PH.Le.refl _, ?_, ?_⟩
      ·
       exact rfl
      ·
       exact I742
     ·
      intro vs608 f w711 S632 X587 le632 hA587 hK608 hI614
      have I743 : Inv w711 S632 (X587) := hI614
      refine opg_plain rfl rfl (op_fieldAddr (v := (Value.pointer (some ⟨g5, 0, none⟩))) rfl fa87_4 ((hK608 7 (keep_of rfl)).trans e648) rfl ?_)
      refine ⟨_, _, rfl, PH.Le.refl _, ?_, ?_⟩
      ·
       exact rfl
      ·
       exact I743
     ·
      intro vs609 f w712 S633 X588 le633 hA588 hK609 hI615
      have I744 : Inv w712 S633 (Cells g5 87 #[(Value.bool (x134.power)), (Value.slice z102 m102 k102), (Value.slice z103 m103 k103), (Value.slice z104 m104 k104), (Value.slice z105 m105 k105), (Value.slice z106 m106 k106)] :: X588) := hI615
      have q670 : f 44 = (Value.pointer (some ⟨g5, 4, none⟩)) := vt (hA588.at_ 0 rfl _ rfl) rfl
      refine opg_plain rfl rfl (op_load1 (c := (Value.slice z105 m105 k105)) rfl sh34 (I744.nth 0 rfl) q670 rfl ?_)
      refine ⟨_, _, rfl, PH.Le.refl _, ?_, ?_⟩
      ·
       exact rfl
      ·
       exact I744
     ·
      intro vs610 f w713 S634 X589 le634 hA589 hK610 hI616
      have I745 : Inv w713 S634 (X589) := hI616
      refine opg_plain rfl rfl (op_move (v := (Value.int .i64 ((i3 : Int)))) rfl (hK610 9 (keep_of rfl)) ?_)
      refine ⟨_, _, rfl, PH.Le.refl _, ?_, ?_⟩
      ·
       exact rfl
      ·
       exact I745
     ·
      intro vs611 f w714 S635 X590 le635 hA590 hK611 hI617
      have I746 : Inv w714 S635 (X590) := hI617
      have q671 : f 45 = (Value.slice z105 m105 k105) := vt (hA590.at_ 1 rfl _ rfl) rfl
      have q672 : f 46 = (Value.int .i64 ((i3 : Int))) := vt (hA590.at_ 2 rfl _ rfl) rfl
      refine opg_plain rfl rfl (op_indexAddr_rv (v := (Value.slice z105 m105 k105)) (i := (i3 : Int)) (e := x159) rfl Try.underlying34 sh3 q671 (r74.mono (le612.trans le635)) q672 hx159 ?_)
      refine ⟨_, _, rfl, PH.Le.refl _, ?_, ?_⟩
      ·
       exact rfl
      ·
       exact I746
     ·
      intro vs612 f w715 S636 X591 le636 hA591 hK612 hI618
      have I747 : Inv w715 S636 (X591) := hI618
      have q673 : f 47 = (elemPtr (Value.slice z105 m105 k105) ((i3 : Int)) (Enc.sz Int)) := vt (hA591.at_ 3 rfl _ rfl) rfl
      refine opg_plain rfl rfl (op_load_int (v := (elemPtr (Value.slice z105 m105 k105) ((i3 : Int)) (Enc.sz Int))) (e := x159) rfl sh3 q673 ((r74.mono (le612.trans le636)).elem I747.in_ hx159) ?_)
      refine ⟨_, _, rfl, PH.Le.refl _, ?_, ?_⟩
      ·
       exact rfl
      ·
       exact I747
     ·
      intro vs613 f w716 S637 X592 le637 hA592 hK613 hI619
      have I748 : Inv w716 S637 (X592) := hI619
      have q674 : f 30 = (Value.agg #[(Value.int .i64 (x156.left)), (Value.bool (x156.shut))]) := vt (hA592.at_ 3 rfl _ rfl) rfl
      have q675 : f 36 = (Value.int .i64 (x157.Wait)) := vt (hA592.at_ 9 rfl _ rfl) rfl
      have q676 : f 38 = (Value.bool (x134.power)) := vt (hA592.at_ 11 rfl _ rfl) rfl
      have q677 : f 43 = (Value.bool (x158)) := vt (hA592.at_ 16 rfl _ rfl) rfl
      have q678 : f 48 = (Value.int .i64 (x159)) := vt (hA592.at_ 21 rfl _ rfl) rfl
      refine opg_plain rfl rfl (op_call_v (vs := [(Value.agg #[(Value.int .i64 (x156.left)), (Value.bool (x156.shut))]), (Value.int .i64 (x157.Wait)), (Value.bool (x134.power)), (Value.bool (x158)), (Value.int .i64 (x159))]) (r := (Value.agg #[(Value.int .i64 (x160.left)), (Value.bool (x160.shut))])) rfl ca67 rfl (args5 q674 q675 q676 q677 q678) I748 (fun Fr_ hF_ => F67_ok hF_ (Control_door.rv (s := x156)) hx160) (fun w717 I749 => ?_))
      refine ⟨_, _, rfl, PH.Le.refl _, ?_, ?_⟩
      ·
       exact rfl
      ·
       exact I749
     ·
      intro vs614 f w718 S638 X593 le638 hA593 hK614 hI620
      have I750 : Inv w718 S638 (Row (α := Control_door) 97 (Value.slice z4 m4 k4) (s5.1) :: X593) := hI620
      have q679 : f 25 = (Value.slice z4 m4 k4) := vt (hA593.at_ 0 rfl _ rfl) rfl
      have q680 : f 26 = (Value.int .i64 ((i3 : Int))) := vt (hA593.at_ 1 rfl _ rfl) rfl
      refine opg_plain rfl rfl (op_indexAddr_src (v := (Value.slice z4 m4 k4)) (i := (i3 : Int)) (e := x156) rfl Try.underlying109 sh97 q679 (Inv.rowSrc (I750.nth 0 rfl)) q680 hx156 ?_)
      refine ⟨_, _, rfl, PH.Le.refl _, ?_, ?_⟩
      ·
       exact rfl
      ·
       exact I750
     ·
      intro vs615 f w719 S639 X594 le639 hA594 hK615 hI621
      have I751 : Inv w719 S639 (Row (α := Control_door) 97 (Value.slice z4 m4 k4) (s5.1) :: X594) := hI621
      have q681 : f 49 = (Value.agg #[(Value.int .i64 (x160.left)), (Value.bool (x160.shut))]) := vt (hA594.at_ 24 rfl _ rfl) rfl
      have q682 : f 50 = (elemPtr (Value.slice z4 m4 k4) ((i3 : Int)) (Enc.sz Control_door)) := vt (hA594.at_ 25 rfl _ rfl) rfl
      refine opg_plain rfl rfl (op_storeRow (u := (Value.agg #[(Value.int .i64 (x160.left)), (Value.bool (x160.shut))])) (e' := x160) sh97 I751 q682 q681 hx156 (Control_door.rv (s := x160)) (fun w720 I752 => ?_))
      refine ⟨undef, _, rfl, PH.Le.refl _, ?_, ?_⟩
      ·
       exact trivial
      ·
       exact I752
     ·
      intro vs616 f w721 S640 le640 hF22 hK616 hI622
      have e660 : f 2 = (Value.pointer (some ⟨g1, 0, none⟩)) := (hK616 2 (keep_all rfl)).trans e645
      have e661 : f 4 = (Value.slice z100 m100 k100) := (hK616 4 (keep_all rfl)).trans e646
      have e662 : f 5 = (Value.slice z4 m4 k4) := (hK616 5 (keep_all rfl)).trans e647
      have e663 : f 7 = (Value.pointer (some ⟨g5, 0, none⟩)) := (hK616 7 (keep_all rfl)).trans e648
      have e664 : f 8 = (Value.int .i64 (s5.2)) := (hK616 8 (keep_all rfl)).trans e649
      have e665 : f 9 = (Value.int .i64 ((i3 : Int))) := (hK616 9 (keep_all rfl)).trans rfl
      have e666 : f 14 = (Value.slice z2 m2 k2) := (hK616 14 (keep_all rfl)).trans e650
      have e667 : f 15 = (Value.int .i64 ((a1.length : Int))) := (hK616 15 (keep_all rfl)).trans e651
      have e668 : f 16 = (Value.int .i64 ((i2 : Int))) := (hK616 16 (keep_all rfl)).trans e652
      have e669 : f 21 = (Value.int .i64 ((s4.2.length : Int))) := (hK616 21 (keep_all rfl)).trans e653
      have e670 : f 22 = (Value.int .i64 ((i3 : Int))) := (hK616 22 (keep_all rfl)).trans e654
      have I753 : Inv w721 S640 (Cells g5 87 #[(Value.bool (x134.power)), (Value.slice z102 m102 k102), (Value.slice z103 m103 k103), (Value.slice z104 m104 k104), (Value.slice z105 m105 k105), (Value.slice z106 m106 k106)] :: Row (α := Control_door) 97 (Value.slice z4 m4 k4) (s5.1.set ((i3 : Int)).toNat x160) :: Row (α := Int) 3 (Value.slice z100 m100 k100) (s4.1) :: Fr) := hI622
      refine wp_seq' ?_
      refine wp_region' ?_
      refine wl_op rfl (op_move (v := (Value.slice z4 m4 k4)) rfl e662 ?_)
      refine wl_op rfl (op_move (v := (Value.int .i64 ((i3 : Int)))) rfl e665 ?_)
      obtain ⟨x161, hx161, h9⟩ := bnd h9
      refine wl_op rfl (op_indexAddr_src (v := (Value.slice z4 m4 k4)) (i := (i3 : Int)) (e := x161) rfl Try.underlying109 sh97 rfl (Inv.rowSrc (I753.nth 1 rfl)) rfl hx161 ?_)
      refine wl_op rfl (op_fieldAddr_t (v := (elemPtr (Value.slice z4 m4 k4) ((i3 : Int)) (Enc.sz Control_door))) rfl fa97_1 rfl ((I753.nth 1 rfl).rowElem hx161) ?_)
      refine wl_op rfl (op_load_bool (v := (fieldPtr (elemPtr (Value.slice z4 m4 k4) ((i3 : Int)) (Enc.sz Control_door)) 1)) (e := x161.shut) rfl sh4 rfl (((I753.nth 1 rfl).rowElem hx161).fld Control_door.fld1) ?_)
      refine wl_nil ?_
      rcases ifs h9 with ⟨hc30, h9⟩ | ⟨hc30, h9⟩
      ·
       refine wp_cond_t (b := x161.shut) rfl hc30 ?_
       refine wp_region' ?_
       refine wl_op rfl (op_move (v := (Value.int .i64 (s5.2))) rfl e664 ?_)
       refine wl_op rfl (op_move (v := (Value.int .i64 ((i3 : Int)))) rfl e665 ?_)
       obtain ⟨x162, hx162, h9⟩ := bnd h9
       refine wl_op rfl (op_shl (a := 1) (b := (i3 : Int)) rfl rfl rfl (nn?_some hx162) ?_)
       refine wl_op rfl (op_or (a := s5.2) (b := shlI 1 (i3 : Int)) rfl rfl rfl ?_)
       refine wl_op rfl (op_assign (v := (Value.int .i64 (orI s5.2 (shlI 1 (i3 : Int))))) rfl rfl ?_)
       refine wl_nil ?_
       refine wp_region' ?_
       refine wl_op rfl (op_add (a := (i3 : Int)) (b := 1) rfl e670 rfl ?_)
       refine wl_op rfl (op_move (v := (Value.int .i64 (w64 ((i3 : Int) + 1)))) rfl rfl ?_)
       refine wl_nil ?_
       obtain rfl := Option.some.inj h9
       exact ⟨_, (le612.trans le640), ((I753.pull 1).pull 2), e660, e661, e662, e663, rfl, e666, e667, e668, e669, (idx_next hlt3 hk3)⟩
      ·
       refine wp_cond_f (b := x161.shut) rfl hc30 ?_
       refine wp_skip' ?_
       refine wp_region' ?_
       refine wl_op rfl (op_add (a := (i3 : Int)) (b := 1) rfl e670 rfl ?_)
       refine wl_op rfl (op_move (v := (Value.int .i64 (w64 ((i3 : Int) + 1)))) rfl rfl ?_)
       refine wl_nil ?_
       obtain rfl := Option.some.inj h9
       exact ⟨_, (le612.trans le640), ((I753.pull 1).pull 2), e660, e661, e662, e663, e664, e666, e667, e668, e669, (idx_next hlt3 hk3)⟩
    ·
     rintro f w hI623
     obtain ⟨S641, le641, I754, e671, e672, e673, e674, e675, e676, e677, e678, e679, e680⟩ := hI623
     refine wp_seq' ?_
     refine wp_region' ?_
     refine wl_op rfl (op_lss (a := (s4.2.length : Int)) (b := (s4.2.length : Int)) rfl e680 e679 ?_)
     refine wl_nil ?_
     refine wp_seq' ?_
     refine wp_cond_f (b := decide ((s4.2.length : Int) < (s4.2.length : Int))) rfl (len_f _) ?_
     refine wp_exit' ?_
     exact ⟨_, le641, (((I754.pull 2).pull 2).pull 2), e671, e672, e673, e674, e675, e676, e677, e678, e679⟩
   ·
    rintro f w ⟨S642, le642, I755, e681, e682, e683, e684, e685, e686, e687, e688, e689⟩
    refine wp_region' ?_
    refine wl_op rfl (op_move (v := (Value.slice z100 m100 k100)) rfl e682 ?_)
    refine wl_op rfl (op_move (v := (Value.int .i64 (out5.2))) rfl e685 ?_)
    refine wl_op rfl (op_buildSlice (vs := [(Value.int .i64 (out5.2))]) (r := ([out5.2] : List Int)) rfl Try.underlying34 el3 (parts1 rfl) rfl (by decide) (by decide) ⟨(rv_int' _), trivial⟩ I755 (fun u167 w722 I756 => ?_))
    obtain ⟨z123, m123, k123, e690⟩ := row_form I756
    subst e690
    obtain ⟨x163, hx163, h7⟩ := bnd h7
    refine wl_op rfl (op_append (α := Int) (v := (Value.slice z100 m100 k100)) (u := (Value.slice z123 m123 k123)) rfl rfl Try.underlying34 el3 (by decide) (by decide) rfl rfl (I756.pull 1) (Inv.rowSrc (I756.nth 0 rfl)) hx163 (fun u168 w723 I757 => ?_))
    obtain ⟨z124, m124, k124, e691⟩ := row_form I757
    subst e691
    refine wl_op rfl (op_assign (v := (Value.slice z124 m124 k124)) rfl rfl ?_)
    refine wl_nil ?_
    refine wp_region' ?_
    refine wl_op rfl (op_add (a := (i2 : Int)) (b := 1) rfl e688 rfl ?_)
    refine wl_op rfl (op_move (v := (Value.int .i64 (w64 ((i2 : Int) + 1)))) rfl rfl ?_)
    refine wl_nil ?_
    obtain rfl := Option.some.inj h7
    exact ⟨_, _, _, _, (le525.trans le642), ((((I757.pull 1).drop.pull 2).drop.pull 1).pull 1), e681, rfl, e683, e686, e687, (idx_next hlt2 hk2)⟩
  ·
   rintro f w hI624
   obtain ⟨S643, z125, m125, k125, le643, I758, e692, e693, e694, e695, e696, e697⟩ := hI624
   refine wp_seq' ?_
   refine wp_region' ?_
   refine wl_op rfl (op_lss (a := (a1.length : Int)) (b := (a1.length : Int)) rfl e697 e696 ?_)
   refine wl_nil ?_
   refine wp_seq' ?_
   refine wp_cond_f (b := decide ((a1.length : Int) < (a1.length : Int))) rfl (len_f _) ?_
   refine wp_exit' ?_
   exact ⟨_, _, _, _, le643, ((I758.pull 1).pull 1), e692, e693, e694, e695, e696⟩
 ·
  rintro f w ⟨S644, z101, m101, k101, le644, I759, e698, e699, e700, e701, e702⟩
  refine wp_seq' ?_
  refine wp_region' ?_
  refine wl_op rfl (op_move (v := (Value.slice z101 m101 k101)) rfl e699 ?_)
  refine wl_op rfl (op_assign (v := (Value.slice z101 m101 k101)) rfl rfl ?_)
  refine wl_nil ?_
  refine wp_ret' ?_
  obtain rfl := Option.some.inj h
  exact ⟨(Value.slice z101 m101 k101), (res1 rfl rfl), _, [Row (α := Int) 3 (Value.slice z101 m101 k101) (out4.1)], (le1.trans le644), (I759.pull 1).drop, _, _, _, rfl, rfl⟩
end Go.Proofs.Ytfeomcdhhgeilaa.Pad
