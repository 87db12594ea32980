/- A part of the proof: what the functions of the program compute, shown over the model. -/
import Derived.Test.YtfeomcdhhgeilaaPadSP
import Derived.Test.YtfeomcdhhgeilaaPadSW1
import Derived.KernelRfl
set_option linter.unusedVariables false
namespace Go.Proofs.Ytfeomcdhhgeilaa.Pad
open Go Go.Proofs
set_option maxHeartbeats 4000000 in
set_option maxRecDepth 100000 in
theorem F46_ok {w : World} {S : PH} {Fr : List HP} {a0 : Panel} {v0 : Value} {a1 : (List Control_tick)} {v1 : Value} {r : (List Int)} (hI : Inv w S Fr) (h0_ : RV S v0 a0) (h1_ : RV S v1 a1) (h : F46 a0 a1 = some r) :
    Calls Try.prog 46 [v0, v1].toArray w (Done S Fr (fun T_ v_ O_ => ∃ (a0_ : Option Addr) (n0_ k0_ : Nat), v_ = (Value.slice a0_ n0_ k0_) ∧ O_ = [Row (α := Int) 3 (Value.slice a0_ n0_ k0_) (r)])) := by
  unfold F46 at h
  obtain ⟨c1, e1, r1⟩ := Panel.inv h0_
  subst e1
  obtain ⟨z1, m1, k1, e2⟩ := rv_form r1
  subst e2
  obtain ⟨z2, m2, k2, e3⟩ := rv_form h1_
  subst e3
  refine calls_enter (n := 67) (vs := [(Value.agg #[(Value.int .i64 (a0.Sensors)), (Value.slice z1 m1 k1), (Value.int .i64 (a0.Stale)), (Value.int .i64 (a0.Limit))]), (Value.slice z2 m2 k2)]) Try.func46 rfl rfl rfl ?_
  refine wp_seq' ?_
  refine wp_region' ?_
  refine wl_op rfl (op_box (v := (Value.agg #[(Value.int .i64 (a0.Sensors)), (Value.slice z1 m1 k1), (Value.int .i64 (a0.Stale)), (Value.int .i64 (a0.Limit))])) rfl hI rfl (fun g1 w1 I1 => ?_))
  obtain ⟨S1, le1, I2, p1⟩ := Inv.boxFreeze (x := a0) I1 (Panel.rv (s := a0) r1)
  refine wl_op rfl (op_assign (v := (Value.slice none 0 0)) rfl rfl ?_)
  refine wl_nil ?_
  refine wp_seq' ?_
  refine wp_region' ?_
  refine wl_op rfl (op_fieldAddr_t (v := (Value.pointer (some ⟨g1, 0, none⟩))) rfl fa24_1 rfl (p1.at_ I2) ?_)
  refine wl_op rfl (op_load (v := (fieldPtr (Value.pointer (some ⟨g1, 0, none⟩)) 1)) (e := a0.Doors) rfl sh22 rfl ((p1.at_ I2).fld Panel.fld1) (fun u1 hu1 => ?_))
  obtain ⟨z3, m3, k3, e4⟩ := rv_form hu1
  subst e4
  refine wl_op rfl (op_len_rv rfl Try.underlying22 rfl hu1 ?_)
  obtain ⟨x1, hx1, h⟩ := bnd h
  refine wl_op rfl (op_makeSlice (c := (a0.Doors.length : Int)) rfl Try.underlying109 el97 (by decide) rfl rfl I2 hx1 (fun u2 w2 I3 => ?_))
  obtain ⟨z4, m4, k4, e5⟩ := row_form I3
  subst e5
  refine wl_op rfl (op_assign (v := (Value.slice z4 m4 k4)) rfl rfl ?_)
  refine wl_nil ?_
  refine wp_seq' ?_
  refine wp_seq' ?_
  refine wp_region' ?_
  refine wl_op rfl (op_move (v := (Value.slice z2 m2 k2)) rfl rfl ?_)
  refine wl_op rfl (op_len_rv rfl Try.underlying72 rfl (h1_.mono le1) ?_)
  refine wl_op rfl (op_move (v := (Value.int .i64 (0))) rfl rfl ?_)
  refine wl_nil ?_
  have hk2 : a1.length ≤ 9223372036854775807 := (rv_len h1_)
  have I618 := Inv.rowNil (α := Int) (T := 3) I3
  obtain ⟨out4, hrun4, h⟩ := bnd h
  refine wp_cutN (fun f w => ∃ (S_ : PH) (z137 : Option Addr) (m137 k137 : Nat), S1.Le S_ ∧ Inv w S_ (Row (α := Int) 3 (Value.slice z137 m137 k137) (out4.1) :: Row (α := Control_door) 97 (Value.slice z4 m4 k4) (out4.2) :: Fr) ∧ f 2 = (Value.pointer (some ⟨g1, 0, none⟩)) ∧ f 4 = (Value.slice z137 m137 k137) ∧ f 5 = (Value.slice z4 m4 k4) ∧ f 14 = (Value.slice z2 m2 k2) ∧ f 15 = (Value.int .i64 ((a1.length : Int)))) ?_ ?_
  · refine wp_block' ?_
    refine wp_forS (I := fun (i2 : Nat) (s4 : (List Int × List Control_door)) (f : Frm) (w : World) => ∃ (S_ : PH) (z136 : Option Addr) (m136 k136 : Nat), S1.Le S_ ∧ Inv w S_ (Row (α := Int) 3 (Value.slice z136 m136 k136) (s4.1) :: Row (α := Control_door) 97 (Value.slice z4 m4 k4) (s4.2) :: Fr) ∧ f 2 = (Value.pointer (some ⟨g1, 0, none⟩)) ∧ f 4 = (Value.slice z136 m136 k136) ∧ f 5 = (Value.slice z4 m4 k4) ∧ f 14 = (Value.slice z2 m2 k2) ∧ f 15 = (Value.int .i64 ((a1.length : Int))) ∧ f 16 = (Value.int .i64 (i2 : Int))) hrun4 ⟨_, _, _, _, (PH.Le.refl _), ((I618.pull 1).pull 1), rfl, rfl, rfl, rfl, rfl, rfl⟩ ?_ ?_
    · rintro i2 s4 f w o4 hlt2 hI509 h7
      obtain ⟨S525, z136, m136, k136, le525, I619, e591, e592, e593, e594, e595, e596⟩ := hI509
      refine wp_seq' ?_
      refine wp_region' ?_
      refine wl_op rfl (op_lss (a := (i2 : Int)) (b := (a1.length : Int)) rfl e596 e595 ?_)
      refine wl_nil ?_
      refine wp_seq' ?_
      refine wp_cond_t (b := decide ((i2 : Int) < (a1.length : Int))) rfl (len_t hlt2) ?_
      refine wp_skip' ?_
      refine wp_seq' ?_
      refine wp_block' ?_
      refine wp_seq' ?_
      refine wp_region' ?_
      obtain ⟨x134, hx134, h7⟩ := bnd h7
      refine wl_op rfl (op_indexAddr_rv (v := (Value.slice z2 m2 k2)) (i := (i2 : Int)) (e := x134) rfl Try.underlying72 sh87 e594 (h1_.mono (le1.trans le525)) e596 hx134 ?_)
      refine wl_op rfl (op_load (v := (elemPtr (Value.slice z2 m2 k2) ((i2 : Int)) (Enc.sz Control_tick))) (e := x134) rfl sh87 rfl ((h1_.mono (le1.trans le525)).elem I619.in_ hx134) (fun u174 hu167 => ?_))
      obtain ⟨c17, c18, c19, c20, c21, e597, r107, r108, r109, r110, r111⟩ := Control_tick.inv hu167
      subst e597
      obtain ⟨z138, m138, k138, e598⟩ := rv_form r107
      subst e598
      obtain ⟨z139, m139, k139, e599⟩ := rv_form r108
      subst e599
      obtain ⟨z140, m140, k140, e600⟩ := rv_form r109
      subst e600
      obtain ⟨z141, m141, k141, e601⟩ := rv_form r110
      subst e601
      obtain ⟨z142, m142, k142, e602⟩ := rv_form r111
      subst e602
      refine wl_op rfl (op_alloc (z := (Value.agg #[(Value.bool (false)), (Value.slice none 0 0), (Value.slice none 0 0), (Value.slice none 0 0), (Value.slice none 0 0), (Value.slice none 0 0)])) rfl I619 zo87 (fun g5 w591 (I620 : Inv w591 S525 (Cells g5 87 #[(Value.bool (false)), (Value.slice none 0 0), (Value.slice none 0 0), (Value.slice none 0 0), (Value.slice none 0 0), (Value.slice none 0 0)] :: Row (α := Int) 3 (Value.slice z136 m136 k136) (s4.1) :: Row (α := Control_door) 97 (Value.slice z4 m4 k4) (s4.2) :: Fr)) => ?_))
      refine wl_op rfl (op_store (v := (Value.agg #[(Value.bool (x134.power)), (Value.slice z138 m138 k138), (Value.slice z139 m139 k139), (Value.slice z140 m140 k140), (Value.slice z141 m141 k141), (Value.slice z142 m142 k142)])) (cs := #[(Value.bool (false)), (Value.slice none 0 0), (Value.slice none 0 0), (Value.slice none 0 0), (Value.slice none 0 0), (Value.slice none 0 0)]) sh87 I620 rfl rfl rfl (Nat.le_of_ble_eq_true rfl) rfl (fun w592 (I621 : Inv w592 S525 (Cells g5 87 #[(Value.bool (x134.power)), (Value.slice z138 m138 k138), (Value.slice z139 m139 k139), (Value.slice z140 m140 k140), (Value.slice z141 m141 k141), (Value.slice z142 m142 k142)] :: Row (α := Int) 3 (Value.slice z136 m136 k136) (s4.1) :: Row (α := Control_door) 97 (Value.slice z4 m4 k4) (s4.2) :: Fr)) => ?_))
      refine wl_nil ?_
      refine wp_seq' ?_
      refine wp_region' ?_
      refine wl_op rfl (op_assign (v := (Value.int .i64 (0))) rfl rfl ?_)
      refine wl_nil ?_
      refine wp_seq' ?_
      refine wp_seq' ?_
      refine wp_region' ?_
      refine wl_op rfl (op_move (v := (Value.slice z4 m4 k4)) rfl e593 ?_)
      refine wl_op rfl (op_len_row (α := Control_door) rfl Try.underlying109 rfl (I621.nth 2 rfl) ?_)
      refine wl_op rfl (op_move (v := (Value.int .i64 (0))) rfl rfl ?_)
      refine wl_nil ?_
      have hk3 : s4.2.length ≤ 9223372036854775807 := (row_len (I621.nth 2 rfl))
      obtain ⟨out5, hrun5, h7⟩ := bnd h7
      refine wp_cutN (fun f w => ∃ (S_ : PH), S525.Le S_ ∧ Inv w S_ (Row (α := Int) 3 (Value.slice z136 m136 k136) (s4.1) :: Row (α := Control_door) 97 (Value.slice z4 m4 k4) (out5.1) :: Cells g5 87 #[(Value.bool (x134.power)), (Value.slice z138 m138 k138), (Value.slice z139 m139 k139), (Value.slice z140 m140 k140), (Value.slice z141 m141 k141), (Value.slice z142 m142 k142)] :: Fr) ∧ f 2 = (Value.pointer (some ⟨g1, 0, none⟩)) ∧ f 4 = (Value.slice z136 m136 k136) ∧ f 5 = (Value.slice z4 m4 k4) ∧ f 7 = (Value.pointer (some ⟨g5, 0, none⟩)) ∧ f 8 = (Value.int .i64 (out5.2)) ∧ f 14 = (Value.slice z2 m2 k2) ∧ f 15 = (Value.int .i64 ((a1.length : Int))) ∧ f 16 = (Value.int .i64 ((i2 : Int))) ∧ f 21 = (Value.int .i64 ((s4.2.length : Int)))) ?_ ?_
      · refine wp_block' ?_
        refine wp_forS (I := fun (i3 : Nat) (s5 : (List Control_door × Int)) (f : Frm) (w : World) => ∃ (S_ : PH), S525.Le S_ ∧ Inv w S_ (Row (α := Int) 3 (Value.slice z136 m136 k136) (s4.1) :: Row (α := Control_door) 97 (Value.slice z4 m4 k4) (s5.1) :: Cells g5 87 #[(Value.bool (x134.power)), (Value.slice z138 m138 k138), (Value.slice z139 m139 k139), (Value.slice z140 m140 k140), (Value.slice z141 m141 k141), (Value.slice z142 m142 k142)] :: Fr) ∧ f 2 = (Value.pointer (some ⟨g1, 0, none⟩)) ∧ f 4 = (Value.slice z136 m136 k136) ∧ f 5 = (Value.slice z4 m4 k4) ∧ f 7 = (Value.pointer (some ⟨g5, 0, none⟩)) ∧ f 8 = (Value.int .i64 (s5.2)) ∧ f 14 = (Value.slice z2 m2 k2) ∧ f 15 = (Value.int .i64 ((a1.length : Int))) ∧ f 16 = (Value.int .i64 ((i2 : Int))) ∧ f 21 = (Value.int .i64 ((s4.2.length : Int))) ∧ f 22 = (Value.int .i64 (i3 : Int))) hrun5 ⟨_, (PH.Le.refl _), ((I621.pull 2).pull 2), e591, e592, e593, rfl, rfl, e594, e595, e596, rfl, rfl⟩ ?_ ?_
        · rintro i3 s5 f w o5 hlt3 hI594 h9
          obtain ⟨S612, le612, I721, e687, e688, e689, e690, e691, e692, e693, e694, e695, e696⟩ := hI594
          refine wp_seq' ?_
          refine wp_region' ?_
          refine wl_op rfl (op_lss (a := (i3 : Int)) (b := (s4.2.length : Int)) rfl e696 e695 ?_)
          refine wl_nil ?_
          refine wp_seq' ?_
          refine wp_cond_t (b := decide ((i3 : Int) < (s4.2.length : Int))) rfl (len_t hlt3) ?_
          refine wp_skip' ?_
          refine wp_seq' ?_
          refine wp_block' ?_
          refine wp_seq' ?_
          refine wp_region' ?_
          refine wl_op rfl (op_move (v := (Value.int .i64 ((i3 : Int)))) rfl e696 ?_)
          refine wl_op rfl (op_assign (v := (Value.int .i64 ((i3 : Int)))) rfl rfl ?_)
          refine wl_nil ?_
          refine wp_seq' ?_
          obtain ⟨x156, hx156, h9⟩ := bnd h9
          obtain ⟨x157, hx157, h9⟩ := bnd h9
          obtain ⟨x158, hx158, h9⟩ := bnd h9
          obtain ⟨x159, hx159, h9⟩ := bnd h9
          obtain ⟨x160, hx160, h9⟩ := bnd h9
          refine wp_draw (sps := [⟨some 25, [], [0], fun vs_ T_ => fr0 vs_ 0 = (Value.slice z4 m4 k4), [], [], [], fun _ h_ => h_⟩, ⟨some 26, [], [1], fun vs_ T_ => fr0 vs_ 0 = (Value.int .i64 ((i3 : Int))), [], [], [], fun _ h_ => h_⟩, ⟨some 27, [], [2], fun vs_ T_ => fr0 vs_ 0 = (Value.slice z4 m4 k4), [], [], [], fun _ h_ => h_⟩, ⟨some 28, [], [3], fun vs_ T_ => fr0 vs_ 0 = (Value.int .i64 ((i3 : Int))), [], [], [], fun _ h_ => h_⟩, ⟨some 29, [2, 3], [4], fun vs_ T_ => fr0 vs_ 0 = (elemPtr (Value.slice z4 m4 k4) ((i3 : Int)) (Enc.sz Control_door)), [0], [], [], fun _ h_ => h_⟩, ⟨some 30, [2, 3, 4], [5], fun vs_ T_ => fr0 vs_ 0 = (Value.agg #[(Value.int .i64 (x156.left)), (Value.bool (x156.shut))]), [0], [], [], fun _ h_ => h_⟩, ⟨some 31, [], [6], fun vs_ T_ => fr0 vs_ 0 = (fieldPtr (Value.pointer (some ⟨g1, 0, none⟩)) 1), [], [], [], fun _ h_ => h_⟩, ⟨some 32, [6], [7], fun vs_ T_ => RV T_ (fr0 vs_ 0) a0.Doors, [], [], [], fun hle_ h_ => h_.mono hle_⟩, ⟨some 33, [], [8], fun vs_ T_ => fr0 vs_ 0 = (Value.int .i64 ((i3 : Int))), [], [], [], fun _ h_ => h_⟩, ⟨some 34, [6, 7, 8], [9, 7], fun vs_ T_ => fr0 vs_ 0 = (elemPtr (fr0 vs_ 1) ((i3 : Int)) (Enc.sz Gate)), [], [], [], fun _ h_ => h_⟩, ⟨some 35, [6, 7, 8, 9], [10, 7], fun vs_ T_ => fr0 vs_ 0 = (fieldPtr (elemPtr (fr0 vs_ 1) ((i3 : Int)) (Enc.sz Gate)) 0), [], [], [], fun _ h_ => h_⟩, ⟨some 36, [6, 7, 8, 9, 10], [11], fun vs_ T_ => fr0 vs_ 0 = (Value.int .i64 (x157.Wait)), [], [], [], fun _ h_ => h_⟩, ⟨some 37, [], [12], fun vs_ T_ => fr0 vs_ 0 = (Value.pointer (some ⟨g5, 0, none⟩)), [], [], [], fun _ h_ => h_⟩, ⟨some 38, [12], [13], fun vs_ T_ => fr0 vs_ 0 = (Value.bool (x134.power)), [1], [], [], fun _ h_ => h_⟩, ⟨some 39, [], [14], fun vs_ T_ => fr0 vs_ 0 = (Value.pointer (some ⟨g5, 5, none⟩)), [], [], [], fun _ h_ => h_⟩, ⟨some 40, [14], [15], fun vs_ T_ => fr0 vs_ 0 = (Value.slice z142 m142 k142), [1], [], [], fun _ h_ => h_⟩, ⟨some 41, [], [16], fun vs_ T_ => fr0 vs_ 0 = (Value.int .i64 ((i3 : Int))), [], [], [], fun _ h_ => h_⟩, ⟨some 42, [14, 15, 16], [17], fun vs_ T_ => fr0 vs_ 0 = (elemPtr (Value.slice z142 m142 k142) ((i3 : Int)) (Enc.sz Bool)), [], [], [], fun _ h_ => h_⟩, ⟨some 43, [14, 15, 16, 17], [18], fun vs_ T_ => fr0 vs_ 0 = (Value.bool (x158)), [], [], [], fun _ h_ => h_⟩, ⟨some 44, [], [19], fun vs_ T_ => fr0 vs_ 0 = (Value.pointer (some ⟨g5, 4, none⟩)), [], [], [], fun _ h_ => h_⟩, ⟨some 45, [19], [20], fun vs_ T_ => fr0 vs_ 0 = (Value.slice z141 m141 k141), [1], [], [], fun _ h_ => h_⟩, ⟨some 46, [], [21], fun vs_ T_ => fr0 vs_ 0 = (Value.int .i64 ((i3 : Int))), [], [], [], fun _ h_ => h_⟩, ⟨some 47, [19, 20, 21], [22], fun vs_ T_ => fr0 vs_ 0 = (elemPtr (Value.slice z141 m141 k141) ((i3 : Int)) (Enc.sz Int)), [], [], [], fun _ h_ => h_⟩, ⟨some 48, [19, 20, 21, 22], [23], fun vs_ T_ => fr0 vs_ 0 = (Value.int .i64 (x159)), [], [], [], fun _ h_ => h_⟩, ⟨some 49, [2, 3, 4, 5, 6, 7, 8, 9, 10, 11, 12, 13, 14, 15, 16, 17, 18, 19, 20, 21, 22, 23], [24], fun vs_ T_ => fr0 vs_ 0 = (Value.agg #[(Value.int .i64 (x160.left)), (Value.bool (x160.shut))]), [], [], [], fun _ h_ => h_⟩, ⟨some 50, [0, 1, 2, 3, 4, 5, 6, 7, 8, 9, 10, 11, 12, 13, 14, 15, 16, 17, 18, 19, 20, 21, 22, 23, 24], [25], fun vs_ T_ => fr0 vs_ 0 = (elemPtr (Value.slice z4 m4 k4) ((i3 : Int)) (Enc.sz Control_door)), [0], [], [], fun _ h_ => h_⟩, ⟨none, [0, 1, 2, 3, 4, 5, 6, 7, 8, 9, 10, 11, 12, 13, 14, 15, 16, 17, 18, 19, 20, 21, 22, 23, 24, 25], [], fun vs_ T_ => True, [], [0], [2], fun _ h_ => h_⟩]) (tks := [⟨none, some 26, [], fun vs_ => Row (α := Control_door) 97 (Value.slice z4 m4 k4) (s5.1)⟩, ⟨none, none, [], fun vs_ => Cells g5 87 #[(Value.bool (x134.power)), (Value.slice z138 m138 k138), (Value.slice z139 m139 k139), (Value.slice z140 m140 k140), (Value.slice z141 m141 k141), (Value.slice z142 m142 k142)]⟩, ⟨some 26, none, [], fun vs_ => Row (α := Control_door) 97 (Value.slice z4 m4 k4) (s5.1.set ((i3 : Int)).toNat x160)⟩]) (O := Row (α := Int) 3 (Value.slice z136 m136 k136) (s4.1) :: Fr) rfl (by kernel_rfl) ((I721.pull 2).pull 2) ⟨?_, ?_, ?_, ?_, ?_, ?_, ?_, ?_, ?_, ?_, ?_, ?_, ?_, ?_, ?_, ?_, ?_, ?_, ?_, ?_, ?_, ?_, ?_, ?_, ?_, ?_, ?_, trivial⟩ ?_
          · intro vs589 f w691 S613 X568 le613 hA568 hK589 hI595
            have I724 : Inv w691 S613 (X568) := hI595
            refine opg_plain rfl rfl (op_move (v := (Value.slice z4 m4 k4)) rfl ((hK589 5 (keep_of rfl)).trans e689) ?_)
            refine ⟨_, _, rfl, PH.Le.refl _, ?_, ?_⟩
            · exact rfl
            · exact I724
          · intro vs590 f w692 S614 X569 le614 hA569 hK590 hI596
            have I725 : Inv w692 S614 (X569) := hI596
            refine opg_plain rfl rfl (op_move (v := (Value.int .i64 ((i3 : Int)))) rfl (hK590 9 (keep_of rfl)) ?_)
            refine ⟨_, _, rfl, PH.Le.refl _, ?_, ?_⟩
            · exact rfl
            · exact I725
          · intro vs591 f w693 S615 X570 le615 hA570 hK591 hI597
            have I726 : Inv w693 S615 (X570) := hI597
            refine opg_plain rfl rfl (op_move (v := (Value.slice z4 m4 k4)) rfl ((hK591 5 (keep_of rfl)).trans e689) ?_)
            refine ⟨_, _, rfl, PH.Le.refl _, ?_, ?_⟩
            · exact rfl
            · exact I726
          · intro vs592 f w694 S616 X571 le616 hA571 hK592 hI598
            have I727 : Inv w694 S616 (X571) := hI598
            refine opg_plain rfl rfl (op_move (v := (Value.int .i64 ((i3 : Int)))) rfl (hK592 9 (keep_of rfl)) ?_)
            refine ⟨_, _, rfl, PH.Le.refl _, ?_, ?_⟩
            · exact rfl
            · exact I727
          · intro vs593 f w695 S617 X572 le617 hA572 hK593 hI599
            have I728 : Inv w695 S617 (Row (α := Control_door) 97 (Value.slice z4 m4 k4) (s5.1) :: X572) := hI599
            have q1786 : f 27 = (Value.slice z4 m4 k4) := ((hA572.1 _ rfl).1 _ rfl).trans (hA572.1 _ rfl).2
            have q1787 : f 28 = (Value.int .i64 ((i3 : Int))) := ((hA572.2.1 _ rfl).1 _ rfl).trans (hA572.2.1 _ rfl).2
            refine opg_plain rfl rfl (op_indexAddr_src (v := (Value.slice z4 m4 k4)) (i := (i3 : Int)) (e := x156) rfl Try.underlying109 sh97 q1786 (Inv.rowSrc (I728.nth 0 rfl)) q1787 hx156 ?_)
            refine ⟨_, _, rfl, PH.Le.refl _, ?_, ?_⟩
            · exact rfl
            · exact I728
          · intro vs594 f w696 S618 X573 le618 hA573 hK594 hI600
            have I729 : Inv w696 S618 (Row (α := Control_door) 97 (Value.slice z4 m4 k4) (s5.1) :: X573) := hI600
            have q1788 : f 27 = (Value.slice z4 m4 k4) := ((hA573.1 _ rfl).1 _ rfl).trans (hA573.1 _ rfl).2
            have q1789 : f 28 = (Value.int .i64 ((i3 : Int))) := ((hA573.2.1 _ rfl).1 _ rfl).trans (hA573.2.1 _ rfl).2
            have q1790 : f 29 = (elemPtr (Value.slice z4 m4 k4) ((i3 : Int)) (Enc.sz Control_door)) := ((hA573.2.2.1 _ rfl).1 _ rfl).trans (hA573.2.2.1 _ rfl).2
            refine opg_plain rfl rfl (op_load (v := (elemPtr (Value.slice z4 m4 k4) ((i3 : Int)) (Enc.sz Control_door))) (e := x156) rfl sh97 q1790 ((I729.nth 0 rfl).rowElem hx156) (fun u204 hu197 => ?_))
            have e697 := Control_door.inv hu197
            subst e697
            refine ⟨_, _, rfl, PH.Le.refl _, ?_, ?_⟩
            · exact rfl
            · exact I729
          · intro vs595 f w697 S619 X574 le619 hA574 hK595 hI601
            have I730 : Inv w697 S619 (X574) := hI601
            refine opg_plain rfl rfl (op_fieldAddr_t (v := (Value.pointer (some ⟨g1, 0, none⟩))) rfl fa24_1 ((hK595 2 (keep_of rfl)).trans e687) ((p1.mono ((le525.trans le612).trans le619)).at_ I730) ?_)
            refine ⟨_, _, rfl, PH.Le.refl _, ?_, ?_⟩
            · exact rfl
            · exact I730
          · intro vs596 f w698 S620 X575 le620 hA575 hK596 hI602
            have I731 : Inv w698 S620 (X575) := hI602
            have q1791 : f 31 = (fieldPtr (Value.pointer (some ⟨g1, 0, none⟩)) 1) := ((hA575.1 _ rfl).1 _ rfl).trans (hA575.1 _ rfl).2
            refine opg_plain rfl rfl (op_load (v := (fieldPtr (Value.pointer (some ⟨g1, 0, none⟩)) 1)) (e := a0.Doors) rfl sh22 q1791 (((p1.mono ((le525.trans le612).trans le620)).at_ I731).fld Panel.fld1) (fun u205 hu198 => ?_))
            obtain ⟨z161, m161, k161, e698⟩ := rv_form hu198
            subst e698
            refine ⟨_, _, rfl, PH.Le.refl _, ?_, ?_⟩
            · exact hu198
            · exact I731
          · intro vs597 f w699 S621 X576 le621 hA576 hK597 hI603
            have I732 : Inv w699 S621 (X576) := hI603
            refine opg_plain rfl rfl (op_move (v := (Value.int .i64 ((i3 : Int)))) rfl (hK597 9 (keep_of rfl)) ?_)
            refine ⟨_, _, rfl, PH.Le.refl _, ?_, ?_⟩
            · exact rfl
            · exact I732
          · intro vs598 f w700 S622 X577 le622 hA577 hK598 hI604
            have I733 : Inv w700 S622 (X577) := hI604
            have q1792 : f 31 = (fieldPtr (Value.pointer (some ⟨g1, 0, none⟩)) 1) := ((hA577.1 _ rfl).1 _ rfl).trans (hA577.1 _ rfl).2
            have q1793 : f 32 = vs598 7 := (hA577.2.1 _ rfl).1 _ rfl
            have r127 : RV S622 (vs598 7) a0.Doors := (hA577.2.1 _ rfl).2
            obtain ⟨u206, hu199⟩ : ∃ u, vs598 7 = u := ⟨_, rfl⟩
            rw [hu199] at q1793 r127
            obtain ⟨z162, m162, k162, e699⟩ := rv_form r127
            subst e699
            have q1794 : f 33 = (Value.int .i64 ((i3 : Int))) := ((hA577.2.2.1 _ rfl).1 _ rfl).trans (hA577.2.2.1 _ rfl).2
            refine opg_plain rfl rfl (op_indexAddr_rv (v := (Value.slice z162 m162 k162)) (i := (i3 : Int)) (e := x157) rfl Try.underlying22 sh33 q1793 r127 q1794 hx157 ?_)
            refine ⟨_, _, rfl, PH.Le.refl _, ?_, ?_⟩
            · show (elemPtr (Value.slice z162 m162 k162) ((i3 : Int)) (Enc.sz Gate)) = (elemPtr (vs598 7) ((i3 : Int)) (Enc.sz Gate))
              simp only [hu199] <;> rfl
            · exact I733
          · intro vs599 f w701 S623 X578 le623 hA578 hK599 hI605
            have I734 : Inv w701 S623 (X578) := hI605
            have q1795 : f 31 = (fieldPtr (Value.pointer (some ⟨g1, 0, none⟩)) 1) := ((hA578.1 _ rfl).1 _ rfl).trans (hA578.1 _ rfl).2
            have q1796 : f 32 = vs599 7 := (hA578.2.1 _ rfl).1 _ rfl
            have r128 : RV S623 (vs599 7) a0.Doors := (hA578.2.1 _ rfl).2
            obtain ⟨u207, hu200⟩ : ∃ u, vs599 7 = u := ⟨_, rfl⟩
            rw [hu200] at q1796 r128
            obtain ⟨z163, m163, k163, e700⟩ := rv_form r128
            subst e700
            have q1797 : f 33 = (Value.int .i64 ((i3 : Int))) := ((hA578.2.2.1 _ rfl).1 _ rfl).trans (hA578.2.2.1 _ rfl).2
            have q1798 : f 34 = (elemPtr (vs599 7) ((i3 : Int)) (Enc.sz Gate)) := ((hA578.2.2.2.1 _ rfl).1 _ rfl).trans (hA578.2.2.2.1 _ rfl).2
            simp only [hu200] at q1798
            have q1798 : f 34 = (elemPtr (Value.slice z163 m163 k163) ((i3 : Int)) (Enc.sz Gate)) := q1798
            refine opg_plain rfl rfl (op_fieldAddr_t (v := (elemPtr (Value.slice z163 m163 k163) ((i3 : Int)) (Enc.sz Gate))) rfl fa33_0 q1798 (r128.elem I734.in_ hx157) ?_)
            refine ⟨_, _, rfl, PH.Le.refl _, ?_, ?_⟩
            · show (fieldPtr (elemPtr (Value.slice z163 m163 k163) ((i3 : Int)) (Enc.sz Gate)) 0) = (fieldPtr (elemPtr (vs599 7) ((i3 : Int)) (Enc.sz Gate)) 0)
              simp only [hu200] <;> rfl
            · exact I734
          · intro vs600 f w702 S624 X579 le624 hA579 hK600 hI606
            have I735 : Inv w702 S624 (X579) := hI606
            have q1799 : f 31 = (fieldPtr (Value.pointer (some ⟨g1, 0, none⟩)) 1) := ((hA579.1 _ rfl).1 _ rfl).trans (hA579.1 _ rfl).2
            have q1800 : f 32 = vs600 7 := (hA579.2.1 _ rfl).1 _ rfl
            have r129 : RV S624 (vs600 7) a0.Doors := (hA579.2.1 _ rfl).2
            obtain ⟨u208, hu201⟩ : ∃ u, vs600 7 = u := ⟨_, rfl⟩
            rw [hu201] at q1800 r129
            obtain ⟨z164, m164, k164, e701⟩ := rv_form r129
            subst e701
            have q1801 : f 33 = (Value.int .i64 ((i3 : Int))) := ((hA579.2.2.1 _ rfl).1 _ rfl).trans (hA579.2.2.1 _ rfl).2
            have q1802 : f 34 = (elemPtr (vs600 7) ((i3 : Int)) (Enc.sz Gate)) := ((hA579.2.2.2.1 _ rfl).1 _ rfl).trans (hA579.2.2.2.1 _ rfl).2
            simp only [hu201] at q1802
            have q1802 : f 34 = (elemPtr (Value.slice z164 m164 k164) ((i3 : Int)) (Enc.sz Gate)) := q1802
            have q1803 : f 35 = (fieldPtr (elemPtr (vs600 7) ((i3 : Int)) (Enc.sz Gate)) 0) := ((hA579.2.2.2.2.1 _ rfl).1 _ rfl).trans (hA579.2.2.2.2.1 _ rfl).2
            simp only [hu201] at q1803
            have q1803 : f 35 = (fieldPtr (elemPtr (Value.slice z164 m164 k164) ((i3 : Int)) (Enc.sz Gate)) 0) := q1803
            refine opg_plain rfl rfl (op_load_int (v := (fieldPtr (elemPtr (Value.slice z164 m164 k164) ((i3 : Int)) (Enc.sz Gate)) 0)) (e := x157.Wait) rfl sh3 q1803 ((r129.elem I735.in_ hx157).fld Gate.fld0) ?_)
            refine ⟨_, _, rfl, PH.Le.refl _, ?_, ?_⟩
            · exact rfl
            · exact I735
          · intro vs601 f w703 S625 X580 le625 hA580 hK601 hI607
            have I736 : Inv w703 S625 (X580) := hI607
            refine opg_plain rfl rfl (op_fieldAddr (v := (Value.pointer (some ⟨g5, 0, none⟩))) rfl fa87_0 ((hK601 7 (keep_of rfl)).trans e690) rfl ?_)
            refine ⟨_, _, rfl, PH.Le.refl _, ?_, ?_⟩
            · exact rfl
            · exact I736
          · intro vs602 f w704 S626 X581 le626 hA581 hK602 hI608
            have I737 : Inv w704 S626 (Cells g5 87 #[(Value.bool (x134.power)), (Value.slice z138 m138 k138), (Value.slice z139 m139 k139), (Value.slice z140 m140 k140), (Value.slice z141 m141 k141), (Value.slice z142 m142 k142)] :: X581) := hI608
            have q1804 : f 37 = (Value.pointer (some ⟨g5, 0, none⟩)) := ((hA581.1 _ rfl).1 _ rfl).trans (hA581.1 _ rfl).2
            refine opg_plain rfl rfl (op_load1 (c := (Value.bool (x134.power))) rfl sh4 (I737.nth 0 rfl) q1804 rfl ?_)
            refine ⟨_, _, rfl, PH.Le.refl _, ?_, ?_⟩
            · exact rfl
            · exact I737
          · intro vs603 f w705 S627 X582 le627 hA582 hK603 hI609
            have I738 : Inv w705 S627 (X582) := hI609
            refine opg_plain rfl rfl (op_fieldAddr (v := (Value.pointer (some ⟨g5, 0, none⟩))) rfl fa87_5 ((hK603 7 (keep_of rfl)).trans e690) rfl ?_)
            refine ⟨_, _, rfl, PH.Le.refl _, ?_, ?_⟩
            · exact rfl
            · exact I738
          · intro vs604 f w706 S628 X583 le628 hA583 hK604 hI610
            have I739 : Inv w706 S628 (Cells g5 87 #[(Value.bool (x134.power)), (Value.slice z138 m138 k138), (Value.slice z139 m139 k139), (Value.slice z140 m140 k140), (Value.slice z141 m141 k141), (Value.slice z142 m142 k142)] :: X583) := hI610
            have q1805 : f 39 = (Value.pointer (some ⟨g5, 5, none⟩)) := ((hA583.1 _ rfl).1 _ rfl).trans (hA583.1 _ rfl).2
            refine opg_plain rfl rfl (op_load1 (c := (Value.slice z142 m142 k142)) rfl sh83 (I739.nth 0 rfl) q1805 rfl ?_)
            refine ⟨_, _, rfl, PH.Le.refl _, ?_, ?_⟩
            · exact rfl
            · exact I739
          · intro vs605 f w707 S629 X584 le629 hA584 hK605 hI611
            have I740 : Inv w707 S629 (X584) := hI611
            refine opg_plain rfl rfl (op_move (v := (Value.int .i64 ((i3 : Int)))) rfl (hK605 9 (keep_of rfl)) ?_)
            refine ⟨_, _, rfl, PH.Le.refl _, ?_, ?_⟩
            · exact rfl
            · exact I740
          · intro vs606 f w708 S630 X585 le630 hA585 hK606 hI612
            have I741 : Inv w708 S630 (X585) := hI612
            have q1806 : f 39 = (Value.pointer (some ⟨g5, 5, none⟩)) := ((hA585.1 _ rfl).1 _ rfl).trans (hA585.1 _ rfl).2
            have q1807 : f 40 = (Value.slice z142 m142 k142) := ((hA585.2.1 _ rfl).1 _ rfl).trans (hA585.2.1 _ rfl).2
            have q1808 : f 41 = (Value.int .i64 ((i3 : Int))) := ((hA585.2.2.1 _ rfl).1 _ rfl).trans (hA585.2.2.1 _ rfl).2
            refine opg_plain rfl rfl (op_indexAddr_rv (v := (Value.slice z142 m142 k142)) (i := (i3 : Int)) (e := x158) rfl Try.underlying83 sh4 q1807 (r111.mono (le612.trans le630)) q1808 hx158 ?_)
            refine ⟨_, _, rfl, PH.Le.refl _, ?_, ?_⟩
            · exact rfl
            · exact I741
          · intro vs607 f w709 S631 X586 le631 hA586 hK607 hI613
            have I742 : Inv w709 S631 (X586) := hI613
            have q1809 : f 39 = (Value.pointer (some ⟨g5, 5, none⟩)) := ((hA586.1 _ rfl).1 _ rfl).trans (hA586.1 _ rfl).2
            have q1810 : f 40 = (Value.slice z142 m142 k142) := ((hA586.2.1 _ rfl).1 _ rfl).trans (hA586.2.1 _ rfl).2
            have q1811 : f 41 = (Value.int .i64 ((i3 : Int))) := ((hA586.2.2.1 _ rfl).1 _ rfl).trans (hA586.2.2.1 _ rfl).2
            have q1812 : f 42 = (elemPtr (Value.slice z142 m142 k142) ((i3 : Int)) (Enc.sz Bool)) := ((hA586.2.2.2.1 _ rfl).1 _ rfl).trans (hA586.2.2.2.1 _ rfl).2
            refine opg_plain rfl rfl (op_load_bool (v := (elemPtr (Value.slice z142 m142 k142) ((i3 : Int)) (Enc.sz Bool))) (e := x158) rfl sh4 q1812 ((r111.mono (le612.trans le631)).elem I742.in_ hx158) ?_)
            refine ⟨_, _, rfl, PH.Le.refl _, ?_, ?_⟩
            · exact rfl
            · exact I742
          · intro vs608 f w710 S632 X587 le632 hA587 hK608 hI614
            have I743 : Inv w710 S632 (X587) := hI614
            refine opg_plain rfl rfl (op_fieldAddr (v := (Value.pointer (some ⟨g5, 0, none⟩))) rfl fa87_4 ((hK608 7 (keep_of rfl)).trans e690) rfl ?_)
            refine ⟨_, _, rfl, PH.Le.refl _, ?_, ?_⟩
            · exact rfl
            · exact I743
          · intro vs609 f w711 S633 X588 le633 hA588 hK609 hI615
            have I744 : Inv w711 S633 (Cells g5 87 #[(Value.bool (x134.power)), (Value.slice z138 m138 k138), (Value.slice z139 m139 k139), (Value.slice z140 m140 k140), (Value.slice z141 m141 k141), (Value.slice z142 m142 k142)] :: X588) := hI615
            have q1813 : f 44 = (Value.pointer (some ⟨g5, 4, none⟩)) := ((hA588.1 _ rfl).1 _ rfl).trans (hA588.1 _ rfl).2
            refine opg_plain rfl rfl (op_load1 (c := (Value.slice z141 m141 k141)) rfl sh34 (I744.nth 0 rfl) q1813 rfl ?_)
            refine ⟨_, _, rfl, PH.Le.refl _, ?_, ?_⟩
            · exact rfl
            · exact I744
          · intro vs610 f w712 S634 X589 le634 hA589 hK610 hI616
            have I745 : Inv w712 S634 (X589) := hI616
            refine opg_plain rfl rfl (op_move (v := (Value.int .i64 ((i3 : Int)))) rfl (hK610 9 (keep_of rfl)) ?_)
            refine ⟨_, _, rfl, PH.Le.refl _, ?_, ?_⟩
            · exact rfl
            · exact I745
          · intro vs611 f w713 S635 X590 le635 hA590 hK611 hI617
            have I746 : Inv w713 S635 (X590) := hI617
            have q1814 : f 44 = (Value.pointer (some ⟨g5, 4, none⟩)) := ((hA590.1 _ rfl).1 _ rfl).trans (hA590.1 _ rfl).2
            have q1815 : f 45 = (Value.slice z141 m141 k141) := ((hA590.2.1 _ rfl).1 _ rfl).trans (hA590.2.1 _ rfl).2
            have q1816 : f 46 = (Value.int .i64 ((i3 : Int))) := ((hA590.2.2.1 _ rfl).1 _ rfl).trans (hA590.2.2.1 _ rfl).2
            refine opg_plain rfl rfl (op_indexAddr_rv (v := (Value.slice z141 m141 k141)) (i := (i3 : Int)) (e := x159) rfl Try.underlying34 sh3 q1815 (r110.mono (le612.trans le635)) q1816 hx159 ?_)
            refine ⟨_, _, rfl, PH.Le.refl _, ?_, ?_⟩
            · exact rfl
            · exact I746
          · intro vs612 f w714 S636 X591 le636 hA591 hK612 hI618
            have I747 : Inv w714 S636 (X591) := hI618
            have q1817 : f 44 = (Value.pointer (some ⟨g5, 4, none⟩)) := ((hA591.1 _ rfl).1 _ rfl).trans (hA591.1 _ rfl).2
            have q1818 : f 45 = (Value.slice z141 m141 k141) := ((hA591.2.1 _ rfl).1 _ rfl).trans (hA591.2.1 _ rfl).2
            have q1819 : f 46 = (Value.int .i64 ((i3 : Int))) := ((hA591.2.2.1 _ rfl).1 _ rfl).trans (hA591.2.2.1 _ rfl).2
            have q1820 : f 47 = (elemPtr (Value.slice z141 m141 k141) ((i3 : Int)) (Enc.sz Int)) := ((hA591.2.2.2.1 _ rfl).1 _ rfl).trans (hA591.2.2.2.1 _ rfl).2
            refine opg_plain rfl rfl (op_load_int (v := (elemPtr (Value.slice z141 m141 k141) ((i3 : Int)) (Enc.sz Int))) (e := x159) rfl sh3 q1820 ((r110.mono (le612.trans le636)).elem I747.in_ hx159) ?_)
            refine ⟨_, _, rfl, PH.Le.refl _, ?_, ?_⟩
            · exact rfl
            · exact I747
          · intro vs613 f w715 S637 X592 le637 hA592 hK613 hI619
            have I748 : Inv w715 S637 (X592) := hI619
            have q1821 : f 27 = (Value.slice z4 m4 k4) := ((hA592.1 _ rfl).1 _ rfl).trans (hA592.1 _ rfl).2
            have q1822 : f 28 = (Value.int .i64 ((i3 : Int))) := ((hA592.2.1 _ rfl).1 _ rfl).trans (hA592.2.1 _ rfl).2
            have q1823 : f 29 = (elemPtr (Value.slice z4 m4 k4) ((i3 : Int)) (Enc.sz Control_door)) := ((hA592.2.2.1 _ rfl).1 _ rfl).trans (hA592.2.2.1 _ rfl).2
            have q1824 : f 30 = (Value.agg #[(Value.int .i64 (x156.left)), (Value.bool (x156.shut))]) := ((hA592.2.2.2.1 _ rfl).1 _ rfl).trans (hA592.2.2.2.1 _ rfl).2
            have q1825 : f 31 = (fieldPtr (Value.pointer (some ⟨g1, 0, none⟩)) 1) := ((hA592.2.2.2.2.1 _ rfl).1 _ rfl).trans (hA592.2.2.2.2.1 _ rfl).2
            have q1826 : f 32 = vs613 7 := (hA592.2.2.2.2.2.1 _ rfl).1 _ rfl
            have r130 : RV S637 (vs613 7) a0.Doors := (hA592.2.2.2.2.2.1 _ rfl).2
            obtain ⟨u209, hu202⟩ : ∃ u, vs613 7 = u := ⟨_, rfl⟩
            rw [hu202] at q1826 r130
            obtain ⟨z165, m165, k165, e702⟩ := rv_form r130
            subst e702
            have q1827 : f 33 = (Value.int .i64 ((i3 : Int))) := ((hA592.2.2.2.2.2.2.1 _ rfl).1 _ rfl).trans (hA592.2.2.2.2.2.2.1 _ rfl).2
            have q1828 : f 34 = (elemPtr (vs613 7) ((i3 : Int)) (Enc.sz Gate)) := ((hA592.2.2.2.2.2.2.2.1 _ rfl).1 _ rfl).trans (hA592.2.2.2.2.2.2.2.1 _ rfl).2
            simp only [hu202] at q1828
            have q1828 : f 34 = (elemPtr (Value.slice z165 m165 k165) ((i3 : Int)) (Enc.sz Gate)) := q1828
            have q1829 : f 35 = (fieldPtr (elemPtr (vs613 7) ((i3 : Int)) (Enc.sz Gate)) 0) := ((hA592.2.2.2.2.2.2.2.2.1 _ rfl).1 _ rfl).trans (hA592.2.2.2.2.2.2.2.2.1 _ rfl).2
            simp only [hu202] at q1829
            have q1829 : f 35 = (fieldPtr (elemPtr (Value.slice z165 m165 k165) ((i3 : Int)) (Enc.sz Gate)) 0) := q1829
            have q1830 : f 36 = (Value.int .i64 (x157.Wait)) := ((hA592.2.2.2.2.2.2.2.2.2.1 _ rfl).1 _ rfl).trans (hA592.2.2.2.2.2.2.2.2.2.1 _ rfl).2
            have q1831 : f 37 = (Value.pointer (some ⟨g5, 0, none⟩)) := ((hA592.2.2.2.2.2.2.2.2.2.2.1 _ rfl).1 _ rfl).trans (hA592.2.2.2.2.2.2.2.2.2.2.1 _ rfl).2
            have q1832 : f 38 = (Value.bool (x134.power)) := ((hA592.2.2.2.2.2.2.2.2.2.2.2.1 _ rfl).1 _ rfl).trans (hA592.2.2.2.2.2.2.2.2.2.2.2.1 _ rfl).2
            have q1833 : f 39 = (Value.pointer (some ⟨g5, 5, none⟩)) := ((hA592.2.2.2.2.2.2.2.2.2.2.2.2.1 _ rfl).1 _ rfl).trans (hA592.2.2.2.2.2.2.2.2.2.2.2.2.1 _ rfl).2
            have q1834 : f 40 = (Value.slice z142 m142 k142) := ((hA592.2.2.2.2.2.2.2.2.2.2.2.2.2.1 _ rfl).1 _ rfl).trans (hA592.2.2.2.2.2.2.2.2.2.2.2.2.2.1 _ rfl).2
            have q1835 : f 41 = (Value.int .i64 ((i3 : Int))) := ((hA592.2.2.2.2.2.2.2.2.2.2.2.2.2.2.1 _ rfl).1 _ rfl).trans (hA592.2.2.2.2.2.2.2.2.2.2.2.2.2.2.1 _ rfl).2
            have q1836 : f 42 = (elemPtr (Value.slice z142 m142 k142) ((i3 : Int)) (Enc.sz Bool)) := ((hA592.2.2.2.2.2.2.2.2.2.2.2.2.2.2.2.1 _ rfl).1 _ rfl).trans (hA592.2.2.2.2.2.2.2.2.2.2.2.2.2.2.2.1 _ rfl).2
            have q1837 : f 43 = (Value.bool (x158)) := ((hA592.2.2.2.2.2.2.2.2.2.2.2.2.2.2.2.2.1 _ rfl).1 _ rfl).trans (hA592.2.2.2.2.2.2.2.2.2.2.2.2.2.2.2.2.1 _ rfl).2
            have q1838 : f 44 = (Value.pointer (some ⟨g5, 4, none⟩)) := ((hA592.2.2.2.2.2.2.2.2.2.2.2.2.2.2.2.2.2.1 _ rfl).1 _ rfl).trans (hA592.2.2.2.2.2.2.2.2.2.2.2.2.2.2.2.2.2.1 _ rfl).2
            have q1839 : f 45 = (Value.slice z141 m141 k141) := ((hA592.2.2.2.2.2.2.2.2.2.2.2.2.2.2.2.2.2.2.1 _ rfl).1 _ rfl).trans (hA592.2.2.2.2.2.2.2.2.2.2.2.2.2.2.2.2.2.2.1 _ rfl).2
            have q1840 : f 46 = (Value.int .i64 ((i3 : Int))) := ((hA592.2.2.2.2.2.2.2.2.2.2.2.2.2.2.2.2.2.2.2.1 _ rfl).1 _ rfl).trans (hA592.2.2.2.2.2.2.2.2.2.2.2.2.2.2.2.2.2.2.2.1 _ rfl).2
            have q1841 : f 47 = (elemPtr (Value.slice z141 m141 k141) ((i3 : Int)) (Enc.sz Int)) := ((hA592.2.2.2.2.2.2.2.2.2.2.2.2.2.2.2.2.2.2.2.2.1 _ rfl).1 _ rfl).trans (hA592.2.2.2.2.2.2.2.2.2.2.2.2.2.2.2.2.2.2.2.2.1 _ rfl).2
            have q1842 : f 48 = (Value.int .i64 (x159)) := ((hA592.2.2.2.2.2.2.2.2.2.2.2.2.2.2.2.2.2.2.2.2.2.1 _ rfl).1 _ rfl).trans (hA592.2.2.2.2.2.2.2.2.2.2.2.2.2.2.2.2.2.2.2.2.2.1 _ rfl).2
            refine opg_plain rfl rfl (op_call_v (vs := [(Value.agg #[(Value.int .i64 (x156.left)), (Value.bool (x156.shut))]), (Value.int .i64 (x157.Wait)), (Value.bool (x134.power)), (Value.bool (x158)), (Value.int .i64 (x159))]) (r := (Value.agg #[(Value.int .i64 (x160.left)), (Value.bool (x160.shut))])) rfl ca67 rfl (args5 q1824 q1830 q1832 q1837 q1842) I748 (fun Fr_ hF_ => F67_ok hF_ (Control_door.rv (s := x156)) hx160) (fun w716 I749 => ?_))
            refine ⟨_, _, rfl, PH.Le.refl _, ?_, ?_⟩
            · exact rfl
            · exact I749
          · intro vs614 f w717 S638 X593 le638 hA593 hK614 hI620
            have I750 : Inv w717 S638 (Row (α := Control_door) 97 (Value.slice z4 m4 k4) (s5.1) :: X593) := hI620
            have q1843 : f 25 = (Value.slice z4 m4 k4) := ((hA593.1 _ rfl).1 _ rfl).trans (hA593.1 _ rfl).2
            have q1844 : f 26 = (Value.int .i64 ((i3 : Int))) := ((hA593.2.1 _ rfl).1 _ rfl).trans (hA593.2.1 _ rfl).2
            refine opg_plain rfl rfl (op_indexAddr_src (v := (Value.slice z4 m4 k4)) (i := (i3 : Int)) (e := x156) rfl Try.underlying109 sh97 q1843 (Inv.rowSrc (I750.nth 0 rfl)) q1844 hx156 ?_)
            refine ⟨_, _, rfl, PH.Le.refl _, ?_, ?_⟩
            · exact rfl
            · exact I750
          · intro vs615 f w718 S639 X594 le639 hA594 hK615 hI621
            have I751 : Inv w718 S639 (Row (α := Control_door) 97 (Value.slice z4 m4 k4) (s5.1) :: X594) := hI621
            have q1845 : f 25 = (Value.slice z4 m4 k4) := ((hA594.1 _ rfl).1 _ rfl).trans (hA594.1 _ rfl).2
            have q1846 : f 26 = (Value.int .i64 ((i3 : Int))) := ((hA594.2.1 _ rfl).1 _ rfl).trans (hA594.2.1 _ rfl).2
            have q1847 : f 27 = (Value.slice z4 m4 k4) := ((hA594.2.2.1 _ rfl).1 _ rfl).trans (hA594.2.2.1 _ rfl).2
            have q1848 : f 28 = (Value.int .i64 ((i3 : Int))) := ((hA594.2.2.2.1 _ rfl).1 _ rfl).trans (hA594.2.2.2.1 _ rfl).2
            have q1849 : f 29 = (elemPtr (Value.slice z4 m4 k4) ((i3 : Int)) (Enc.sz Control_door)) := ((hA594.2.2.2.2.1 _ rfl).1 _ rfl).trans (hA594.2.2.2.2.1 _ rfl).2
            have q1850 : f 30 = (Value.agg #[(Value.int .i64 (x156.left)), (Value.bool (x156.shut))]) := ((hA594.2.2.2.2.2.1 _ rfl).1 _ rfl).trans (hA594.2.2.2.2.2.1 _ rfl).2
            have q1851 : f 31 = (fieldPtr (Value.pointer (some ⟨g1, 0, none⟩)) 1) := ((hA594.2.2.2.2.2.2.1 _ rfl).1 _ rfl).trans (hA594.2.2.2.2.2.2.1 _ rfl).2
            have q1852 : f 32 = vs615 7 := (hA594.2.2.2.2.2.2.2.1 _ rfl).1 _ rfl
            have r131 : RV S639 (vs615 7) a0.Doors := (hA594.2.2.2.2.2.2.2.1 _ rfl).2
            obtain ⟨u210, hu203⟩ : ∃ u, vs615 7 = u := ⟨_, rfl⟩
            rw [hu203] at q1852 r131
            obtain ⟨z166, m166, k166, e703⟩ := rv_form r131
            subst e703
            have q1853 : f 33 = (Value.int .i64 ((i3 : Int))) := ((hA594.2.2.2.2.2.2.2.2.1 _ rfl).1 _ rfl).trans (hA594.2.2.2.2.2.2.2.2.1 _ rfl).2
            have q1854 : f 34 = (elemPtr (vs615 7) ((i3 : Int)) (Enc.sz Gate)) := ((hA594.2.2.2.2.2.2.2.2.2.1 _ rfl).1 _ rfl).trans (hA594.2.2.2.2.2.2.2.2.2.1 _ rfl).2
            simp only [hu203] at q1854
            have q1854 : f 34 = (elemPtr (Value.slice z166 m166 k166) ((i3 : Int)) (Enc.sz Gate)) := q1854
            have q1855 : f 35 = (fieldPtr (elemPtr (vs615 7) ((i3 : Int)) (Enc.sz Gate)) 0) := ((hA594.2.2.2.2.2.2.2.2.2.2.1 _ rfl).1 _ rfl).trans (hA594.2.2.2.2.2.2.2.2.2.2.1 _ rfl).2
            simp only [hu203] at q1855
            have q1855 : f 35 = (fieldPtr (elemPtr (Value.slice z166 m166 k166) ((i3 : Int)) (Enc.sz Gate)) 0) := q1855
            have q1856 : f 36 = (Value.int .i64 (x157.Wait)) := ((hA594.2.2.2.2.2.2.2.2.2.2.2.1 _ rfl).1 _ rfl).trans (hA594.2.2.2.2.2.2.2.2.2.2.2.1 _ rfl).2
            have q1857 : f 37 = (Value.pointer (some ⟨g5, 0, none⟩)) := ((hA594.2.2.2.2.2.2.2.2.2.2.2.2.1 _ rfl).1 _ rfl).trans (hA594.2.2.2.2.2.2.2.2.2.2.2.2.1 _ rfl).2
            have q1858 : f 38 = (Value.bool (x134.power)) := ((hA594.2.2.2.2.2.2.2.2.2.2.2.2.2.1 _ rfl).1 _ rfl).trans (hA594.2.2.2.2.2.2.2.2.2.2.2.2.2.1 _ rfl).2
            have q1859 : f 39 = (Value.pointer (some ⟨g5, 5, none⟩)) := ((hA594.2.2.2.2.2.2.2.2.2.2.2.2.2.2.1 _ rfl).1 _ rfl).trans (hA594.2.2.2.2.2.2.2.2.2.2.2.2.2.2.1 _ rfl).2
            have q1860 : f 40 = (Value.slice z142 m142 k142) := ((hA594.2.2.2.2.2.2.2.2.2.2.2.2.2.2.2.1 _ rfl).1 _ rfl).trans (hA594.2.2.2.2.2.2.2.2.2.2.2.2.2.2.2.1 _ rfl).2
            have q1861 : f 41 = (Value.int .i64 ((i3 : Int))) := ((hA594.2.2.2.2.2.2.2.2.2.2.2.2.2.2.2.2.1 _ rfl).1 _ rfl).trans (hA594.2.2.2.2.2.2.2.2.2.2.2.2.2.2.2.2.1 _ rfl).2
            have q1862 : f 42 = (elemPtr (Value.slice z142 m142 k142) ((i3 : Int)) (Enc.sz Bool)) := ((hA594.2.2.2.2.2.2.2.2.2.2.2.2.2.2.2.2.2.1 _ rfl).1 _ rfl).trans (hA594.2.2.2.2.2.2.2.2.2.2.2.2.2.2.2.2.2.1 _ rfl).2
            have q1863 : f 43 = (Value.bool (x158)) := ((hA594.2.2.2.2.2.2.2.2.2.2.2.2.2.2.2.2.2.2.1 _ rfl).1 _ rfl).trans (hA594.2.2.2.2.2.2.2.2.2.2.2.2.2.2.2.2.2.2.1 _ rfl).2
            have q1864 : f 44 = (Value.pointer (some ⟨g5, 4, none⟩)) := ((hA594.2.2.2.2.2.2.2.2.2.2.2.2.2.2.2.2.2.2.2.1 _ rfl).1 _ rfl).trans (hA594.2.2.2.2.2.2.2.2.2.2.2.2.2.2.2.2.2.2.2.1 _ rfl).2
            have q1865 : f 45 = (Value.slice z141 m141 k141) := ((hA594.2.2.2.2.2.2.2.2.2.2.2.2.2.2.2.2.2.2.2.2.1 _ rfl).1 _ rfl).trans (hA594.2.2.2.2.2.2.2.2.2.2.2.2.2.2.2.2.2.2.2.2.1 _ rfl).2
            have q1866 : f 46 = (Value.int .i64 ((i3 : Int))) := ((hA594.2.2.2.2.2.2.2.2.2.2.2.2.2.2.2.2.2.2.2.2.2.1 _ rfl).1 _ rfl).trans (hA594.2.2.2.2.2.2.2.2.2.2.2.2.2.2.2.2.2.2.2.2.2.1 _ rfl).2
            have q1867 : f 47 = (elemPtr (Value.slice z141 m141 k141) ((i3 : Int)) (Enc.sz Int)) := ((hA594.2.2.2.2.2.2.2.2.2.2.2.2.2.2.2.2.2.2.2.2.2.2.1 _ rfl).1 _ rfl).trans (hA594.2.2.2.2.2.2.2.2.2.2.2.2.2.2.2.2.2.2.2.2.2.2.1 _ rfl).2
            have q1868 : f 48 = (Value.int .i64 (x159)) := ((hA594.2.2.2.2.2.2.2.2.2.2.2.2.2.2.2.2.2.2.2.2.2.2.2.1 _ rfl).1 _ rfl).trans (hA594.2.2.2.2.2.2.2.2.2.2.2.2.2.2.2.2.2.2.2.2.2.2.2.1 _ rfl).2
            have q1869 : f 49 = (Value.agg #[(Value.int .i64 (x160.left)), (Value.bool (x160.shut))]) := ((hA594.2.2.2.2.2.2.2.2.2.2.2.2.2.2.2.2.2.2.2.2.2.2.2.2.1 _ rfl).1 _ rfl).trans (hA594.2.2.2.2.2.2.2.2.2.2.2.2.2.2.2.2.2.2.2.2.2.2.2.2.1 _ rfl).2
            have q1870 : f 50 = (elemPtr (Value.slice z4 m4 k4) ((i3 : Int)) (Enc.sz Control_door)) := ((hA594.2.2.2.2.2.2.2.2.2.2.2.2.2.2.2.2.2.2.2.2.2.2.2.2.2.1 _ rfl).1 _ rfl).trans (hA594.2.2.2.2.2.2.2.2.2.2.2.2.2.2.2.2.2.2.2.2.2.2.2.2.2.1 _ rfl).2
            refine opg_plain rfl rfl (op_storeRow (u := (Value.agg #[(Value.int .i64 (x160.left)), (Value.bool (x160.shut))])) (e' := x160) sh97 I751 q1870 q1869 hx156 (Control_door.rv (s := x160)) (fun w719 I752 => ?_))
            refine ⟨undef, _, rfl, PH.Le.refl _, ?_, ?_⟩
            · exact trivial
            · exact I752
          · intro vs616 f w720 S640 le640 hF22 hK616 hI622
            have e704 : f 2 = (Value.pointer (some ⟨g1, 0, none⟩)) := (hK616 2 (keep_all rfl)).trans e687
            have e705 : f 4 = (Value.slice z136 m136 k136) := (hK616 4 (keep_all rfl)).trans e688
            have e706 : f 5 = (Value.slice z4 m4 k4) := (hK616 5 (keep_all rfl)).trans e689
            have e707 : f 7 = (Value.pointer (some ⟨g5, 0, none⟩)) := (hK616 7 (keep_all rfl)).trans e690
            have e708 : f 8 = (Value.int .i64 (s5.2)) := (hK616 8 (keep_all rfl)).trans e691
            have e709 : f 9 = (Value.int .i64 ((i3 : Int))) := (hK616 9 (keep_all rfl)).trans rfl
            have e710 : f 14 = (Value.slice z2 m2 k2) := (hK616 14 (keep_all rfl)).trans e692
            have e711 : f 15 = (Value.int .i64 ((a1.length : Int))) := (hK616 15 (keep_all rfl)).trans e693
            have e712 : f 16 = (Value.int .i64 ((i2 : Int))) := (hK616 16 (keep_all rfl)).trans e694
            have e713 : f 21 = (Value.int .i64 ((s4.2.length : Int))) := (hK616 21 (keep_all rfl)).trans e695
            have e714 : f 22 = (Value.int .i64 ((i3 : Int))) := (hK616 22 (keep_all rfl)).trans e696
            have I753 : Inv w720 S640 (Cells g5 87 #[(Value.bool (x134.power)), (Value.slice z138 m138 k138), (Value.slice z139 m139 k139), (Value.slice z140 m140 k140), (Value.slice z141 m141 k141), (Value.slice z142 m142 k142)] :: Row (α := Control_door) 97 (Value.slice z4 m4 k4) (s5.1.set ((i3 : Int)).toNat x160) :: Row (α := Int) 3 (Value.slice z136 m136 k136) (s4.1) :: Fr) := hI622
            refine wp_seq' ?_
            refine wp_region' ?_
            refine wl_op rfl (op_move (v := (Value.slice z4 m4 k4)) rfl e706 ?_)
            refine wl_op rfl (op_move (v := (Value.int .i64 ((i3 : Int)))) rfl e709 ?_)
            obtain ⟨x161, hx161, h9⟩ := bnd h9
            refine wl_op rfl (op_indexAddr_src (v := (Value.slice z4 m4 k4)) (i := (i3 : Int)) (e := x161) rfl Try.underlying109 sh97 rfl (Inv.rowSrc (I753.nth 1 rfl)) rfl hx161 ?_)
            refine wl_op rfl (op_fieldAddr_t (v := (elemPtr (Value.slice z4 m4 k4) ((i3 : Int)) (Enc.sz Control_door))) rfl fa97_1 rfl ((I753.nth 1 rfl).rowElem hx161) ?_)
            refine wl_op rfl (op_load_bool (v := (fieldPtr (elemPtr (Value.slice z4 m4 k4) ((i3 : Int)) (Enc.sz Control_door)) 1)) (e := x161.shut) rfl sh4 rfl (((I753.nth 1 rfl).rowElem hx161).fld Control_door.fld1) ?_)
            refine wl_nil ?_
            rcases ifs h9 with ⟨hc30, h9⟩ | ⟨hc30, h9⟩
            · refine wp_cond_t (b := x161.shut) rfl hc30 ?_
              refine wp_region' ?_
              refine wl_op rfl (op_move (v := (Value.int .i64 (s5.2))) rfl e708 ?_)
              refine wl_op rfl (op_move (v := (Value.int .i64 ((i3 : Int)))) rfl e709 ?_)
              obtain ⟨x162, hx162, h9⟩ := bnd h9
              refine wl_op rfl (op_shl (a := 1) (b := (i3 : Int)) rfl rfl rfl (nn?_some hx162) ?_)
              refine wl_op rfl (op_or (a := s5.2) (b := shlI 1 (i3 : Int)) rfl rfl rfl ?_)
              refine wl_op rfl (op_assign (v := (Value.int .i64 (orI s5.2 (shlI 1 (i3 : Int))))) rfl rfl ?_)
              refine wl_nil ?_
              refine wp_region' ?_
              refine wl_op rfl (op_add (a := (i3 : Int)) (b := 1) rfl e714 rfl ?_)
              refine wl_op rfl (op_move (v := (Value.int .i64 (w64 ((i3 : Int) + 1)))) rfl rfl ?_)
              refine wl_nil ?_
              obtain rfl := Option.some.inj h9
              exact ⟨_, (le612.trans le640), ((I753.pull 1).pull 2), e704, e705, e706, e707, rfl, e710, e711, e712, e713, (idx_next hlt3 hk3)⟩
            · refine wp_cond_f (b := x161.shut) rfl hc30 ?_
              refine wp_skip' ?_
              refine wp_region' ?_
              refine wl_op rfl (op_add (a := (i3 : Int)) (b := 1) rfl e714 rfl ?_)
              refine wl_op rfl (op_move (v := (Value.int .i64 (w64 ((i3 : Int) + 1)))) rfl rfl ?_)
              refine wl_nil ?_
              obtain rfl := Option.some.inj h9
              exact ⟨_, (le612.trans le640), ((I753.pull 1).pull 2), e704, e705, e706, e707, e708, e710, e711, e712, e713, (idx_next hlt3 hk3)⟩
        · rintro f w hI623
          obtain ⟨S641, le641, I754, e715, e716, e717, e718, e719, e720, e721, e722, e723, e724⟩ := hI623
          refine wp_seq' ?_
          refine wp_region' ?_
          refine wl_op rfl (op_lss (a := (s4.2.length : Int)) (b := (s4.2.length : Int)) rfl e724 e723 ?_)
          refine wl_nil ?_
          refine wp_seq' ?_
          refine wp_cond_f (b := decide ((s4.2.length : Int) < (s4.2.length : Int))) rfl (len_f _) ?_
          refine wp_exit' ?_
          exact ⟨_, le641, (((I754.pull 2).pull 2).pull 2), e715, e716, e717, e718, e719, e720, e721, e722, e723⟩
      · rintro f w ⟨S642, le642, I755, e725, e726, e727, e728, e729, e730, e731, e732, e733⟩
        refine wp_region' ?_
        refine wl_op rfl (op_move (v := (Value.slice z136 m136 k136)) rfl e726 ?_)
        refine wl_op rfl (op_move (v := (Value.int .i64 (out5.2))) rfl e729 ?_)
        refine wl_op rfl (op_buildSlice (vs := [(Value.int .i64 (out5.2))]) (r := ([out5.2] : List Int)) rfl Try.underlying34 el3 (parts1 rfl) rfl (by decide) (by decide) ⟨(rv_int' _), trivial⟩ I755 (fun u211 w721 I756 => ?_))
        obtain ⟨z167, m167, k167, e734⟩ := row_form I756
        subst e734
        obtain ⟨x163, hx163, h7⟩ := bnd h7
        refine wl_op rfl (op_append (α := Int) (v := (Value.slice z136 m136 k136)) (u := (Value.slice z167 m167 k167)) rfl rfl Try.underlying34 el3 (by decide) (by decide) rfl rfl (I756.pull 1) (Inv.rowSrc (I756.nth 0 rfl)) hx163 (fun u212 w722 I757 => ?_))
        obtain ⟨z168, m168, k168, e735⟩ := row_form I757
        subst e735
        refine wl_op rfl (op_assign (v := (Value.slice z168 m168 k168)) rfl rfl ?_)
        refine wl_nil ?_
        refine wp_region' ?_
        refine wl_op rfl (op_add (a := (i2 : Int)) (b := 1) rfl e732 rfl ?_)
        refine wl_op rfl (op_move (v := (Value.int .i64 (w64 ((i2 : Int) + 1)))) rfl rfl ?_)
        refine wl_nil ?_
        obtain rfl := Option.some.inj h7
        exact ⟨_, _, _, _, (le525.trans le642), ((((I757.pull 1).drop.pull 2).drop.pull 1).pull 1), e725, rfl, e727, e730, e731, (idx_next hlt2 hk2)⟩
    · rintro f w hI624
      obtain ⟨S643, z169, m169, k169, le643, I758, e736, e737, e738, e739, e740, e741⟩ := hI624
      refine wp_seq' ?_
      refine wp_region' ?_
      refine wl_op rfl (op_lss (a := (a1.length : Int)) (b := (a1.length : Int)) rfl e741 e740 ?_)
      refine wl_nil ?_
      refine wp_seq' ?_
      refine wp_cond_f (b := decide ((a1.length : Int) < (a1.length : Int))) rfl (len_f _) ?_
      refine wp_exit' ?_
      exact ⟨_, _, _, _, le643, ((I758.pull 1).pull 1), e736, e737, e738, e739, e740⟩
  · rintro f w ⟨S644, z137, m137, k137, le644, I759, e742, e743, e744, e745, e746⟩
    refine wp_seq' ?_
    refine wp_region' ?_
    refine wl_op rfl (op_move (v := (Value.slice z137 m137 k137)) rfl e743 ?_)
    refine wl_op rfl (op_assign (v := (Value.slice z137 m137 k137)) rfl rfl ?_)
    refine wl_nil ?_
    refine wp_ret' ?_
    obtain rfl := Option.some.inj h
    exact ⟨(Value.slice z137 m137 k137), (res1 rfl rfl), _, [Row (α := Int) 3 (Value.slice z137 m137 k137) (out4.1)], (le1.trans le644), (I759.pull 1).drop, _, _, _, rfl, rfl⟩
end Go.Proofs.Ytfeomcdhhgeilaa.Pad
