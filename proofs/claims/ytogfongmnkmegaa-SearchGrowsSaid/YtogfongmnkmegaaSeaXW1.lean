/- A part of the proof: what the functions of the program compute, shown over the model. -/
import Derived.Test.YtogfongmnkmegaaSeaXP
import Derived.KernelRfl
set_option linter.unusedVariables false
namespace Go.Proofs.Ytogfongmnkmegaa.Pad
open Go Go.Proofs
set_option maxHeartbeats 4000000 in
set_option maxRecDepth 100000 in
theorem F44_ok {w : World} {S : PH} {Fr : List HP}  {r : Graph × (List Int)} (hI : Inv w S (Fr))  (h : F44  = some r) :
    Calls Try.prog 44 [].toArray w (Done S Fr (fun T_ v_ O_ => ∃ (c0_ : Value) (a1_ : Option Addr) (n1_ k1_ : Nat), v_ = (Value.tuple #[c0_, (Value.slice a1_ n1_ k1_)]) ∧ O_ = [Row (α := Int) 3 (Value.slice a1_ n1_ k1_) (r.2)] ∧ RV T_ c0_ r.1)) := by
 unfold F44 at h
 refine calls_enter (n := 50) (vs := []) Try.func44 rfl rfl rfl ?_
 refine wp_seq' ?_
 refine wp_region' ?_
 refine wl_op rfl (op_alloc (z := (Value.agg #[(Value.slice none 0 0), (Value.slice none 0 0)])) rfl hI zo25 (fun g1 w1 (I1 : Inv w1 S (Cells g1 25 #[(Value.slice none 0 0), (Value.slice none 0 0)] :: Fr)) => ?_))
 refine wl_op rfl (op_assign (v := (Value.slice none 0 0)) rfl rfl ?_)
 refine wl_nil ?_
 refine wp_seq' ?_
 refine wp_region' ?_
 refine wl_op rfl (op_buildSlice (vs := [(Value.int .i64 (1)), (Value.int .i64 (2))]) (r := ([1, 2] : List Int)) rfl Try.underlying26 el3 (parts2 rfl rfl) rfl (by decide) (by decide) ⟨(rv_int' _), ⟨(rv_int' _), trivial⟩⟩ I1 (fun u1 w2 I2 => ?_))
 obtain ⟨z1, m1, k1, e1⟩ := row_form I2
 subst e1
 refine wl_op rfl (op_buildSlice (vs := [(Value.int .i64 (0)), (Value.int .i64 (3))]) (r := ([0, 3] : List Int)) rfl Try.underlying26 el3 (parts2 rfl rfl) rfl (by decide) (by decide) ⟨(rv_int' _), ⟨(rv_int' _), trivial⟩⟩ I2 (fun u2 w3 I3 => ?_))
 obtain ⟨z2, m2, k2, e2⟩ := row_form I3
 subst e2
 refine wl_op rfl (op_buildSlice (vs := [(Value.int .i64 (0))]) (r := ([0] : List Int)) rfl Try.underlying26 el3 (parts1 rfl) rfl (by decide) (by decide) ⟨(rv_int' _), trivial⟩ I3 (fun u3 w4 I4 => ?_))
 obtain ⟨z3, m3, k3, e3⟩ := row_form I4
 subst e3
 refine wl_op rfl (op_buildSlice (vs := [(Value.int .i64 (4)), (Value.int .i64 (1))]) (r := ([4, 1] : List Int)) rfl Try.underlying26 el3 (parts2 rfl rfl) rfl (by decide) (by decide) ⟨(rv_int' _), ⟨(rv_int' _), trivial⟩⟩ I4 (fun u4 w5 I5 => ?_))
 obtain ⟨z4, m4, k4, e4⟩ := row_form I5
 subst e4
 obtain ⟨S1, le1, I6, r1⟩ := Inv.rowFreeze (I5.pull 3)
 obtain ⟨S2, le2, I7, r2⟩ := Inv.rowFreeze (I6.pull 2)
 obtain ⟨S3, le3, I8, r3⟩ := Inv.rowFreeze (I7.pull 1)
 obtain ⟨S4, le4, I9, r4⟩ := Inv.rowFreeze I8
 refine wl_op rfl (op_buildSlice (vs := [(Value.slice z1 m1 k1), (Value.slice z2 m2 k2), (Value.slice z3 m3 k3), (Value.slice z4 m4 k4), (Value.slice none 0 0)]) (r := ([([1, 2] : List Int), ([0, 3] : List Int), ([0] : List Int), ([4, 1] : List Int), ([] : (List Int))] : List (List Int))) rfl Try.underlying47 el26 (parts5 rfl rfl rfl rfl rfl) rfl (by decide) (by decide) ⟨(r1.mono ((le2.trans le3).trans le4)), ⟨(r2.mono (le3.trans le4)), ⟨(r3.mono le4), ⟨r4, ⟨rv_nil, trivial⟩⟩⟩⟩⟩ I9 (fun u5 w6 I10 => ?_))
 obtain ⟨z5, m5, k5, e5⟩ := row_form I10
 subst e5
 refine wl_op rfl (op_assign (v := (Value.slice z5 m5 k5)) rfl rfl ?_)
 refine wl_nil ?_
 refine wp_seq' ?_
 refine wp_region' ?_
 refine wl_op rfl (op_move (v := (Value.slice z5 m5 k5)) rfl rfl ?_)
 refine wl_op rfl (op_len_row (α := (List Int)) rfl Try.underlying47 rfl (I10.nth 0 rfl) ?_)
 obtain ⟨x1, hx1, h⟩ := bnd h
 refine wl_op rfl (op_makeSlice (c := (([([1, 2] : List Int), ([0, 3] : List Int), ([0] : List Int), ([4, 1] : List Int), ([] : (List Int))] : List (List Int)).length : Int)) rfl Try.underlying22 el133 (by decide) rfl rfl I10 hx1 (fun u6 w7 I11 => ?_))
 obtain ⟨z6, m6, k6, e6⟩ := row_form I11
 subst e6
 refine wl_op rfl (op_build (qs := [(0, #[(Value.slice z6 m6 k6)])]) (c := #[(Value.slice z6 m6 k6), (Value.slice none 0 0)]) rfl st25 ⟨rfl, rfl, trivial⟩ rfl ?_)
 refine wl_op rfl (op_alloc (z := (Value.agg #[(Value.slice none 0 0), (Value.slice none 0 0)])) rfl I11 zo25 (fun g2 w8 (I12 : Inv w8 S4 (Cells g2 25 #[(Value.slice none 0 0), (Value.slice none 0 0)] :: Row (α := Position) 133 (Value.slice z6 m6 k6) (x1) :: Row (α := (List Int)) 26 (Value.slice z5 m5 k5) (([([1, 2] : List Int), ([0, 3] : List Int), ([0] : List Int), ([4, 1] : List Int), ([] : (List Int))] : List (List Int))) :: Cells g1 25 #[(Value.slice none 0 0), (Value.slice none 0 0)] :: Fr)) => ?_))
 refine wl_op rfl (op_store (v := (Value.agg #[(Value.slice z6 m6 k6), (Value.slice none 0 0)])) (cs := #[(Value.slice none 0 0), (Value.slice none 0 0)]) sh25 I12 rfl rfl rfl (Nat.le_of_ble_eq_true rfl) rfl (fun w9 (I13 : Inv w9 S4 (Cells g2 25 #[(Value.slice z6 m6 k6), (Value.slice none 0 0)] :: Row (α := Position) 133 (Value.slice z6 m6 k6) (x1) :: Row (α := (List Int)) 26 (Value.slice z5 m5 k5) (([([1, 2] : List Int), ([0, 3] : List Int), ([0] : List Int), ([4, 1] : List Int), ([] : (List Int))] : List (List Int))) :: Cells g1 25 #[(Value.slice none 0 0), (Value.slice none 0 0)] :: Fr)) => ?_))
 refine wl_nil ?_
 refine wp_seq' ?_
 refine wp_seq' ?_
 refine wp_region' ?_
 refine wl_op rfl (op_assign (v := (Value.int .i64 (0))) rfl rfl ?_)
 refine wl_nil ?_
 have hk1 : ([([1, 2] : List Int), ([0, 3] : List Int), ([0] : List Int), ([4, 1] : List Int), ([] : (List Int))] : List (List Int)).length ≤ 9223372036854775807 := (row_len (I13.nth 2 rfl))
 have I78 := Inv.rowNil (α := (List Edge)) (T := 40) I13
 obtain ⟨out4, hrun4, h⟩ := bnd h
 refine wp_cutN (fun f w => ∃ (S_ : PH) (z79 : Option Addr) (m79 k79 : Nat), S4.Le S_ ∧ Inv w S_ (Cells g1 25 #[(Value.slice none 0 0), (Value.slice none 0 0)] :: Row (α := (List Int)) 26 (Value.slice z5 m5 k5) (([([1, 2] : List Int), ([0, 3] : List Int), ([0] : List Int), ([4, 1] : List Int), ([] : (List Int))] : List (List Int))) :: Cells g2 25 #[(Value.slice z6 m6 k6), (Value.slice z79 m79 k79)] :: Row (α := Position) 133 (Value.slice z6 m6 k6) (x1) :: Row (α := (List Edge)) 40 (Value.slice z79 m79 k79) (out4) :: Fr) ∧ f 0 = (Value.pointer (some ⟨g1, 0, none⟩)) ∧ f 2 = (Value.slice z5 m5 k5) ∧ f 3 = (Value.pointer (some ⟨g2, 0, none⟩))) ?_ ?_
 ·
  refine wp_block' ?_
  refine wp_forS (I := fun (i1 : Nat) (s4 : (List (List Edge))) (f : Frm) (w : World) => ∃ (S_ : PH) (z78 : Option Addr) (m78 k78 : Nat), S4.Le S_ ∧ Inv w S_ (Cells g1 25 #[(Value.slice none 0 0), (Value.slice none 0 0)] :: Row (α := (List Int)) 26 (Value.slice z5 m5 k5) (([([1, 2] : List Int), ([0, 3] : List Int), ([0] : List Int), ([4, 1] : List Int), ([] : (List Int))] : List (List Int))) :: Cells g2 25 #[(Value.slice z6 m6 k6), (Value.slice z78 m78 k78)] :: Row (α := Position) 133 (Value.slice z6 m6 k6) (x1) :: Row (α := (List Edge)) 40 (Value.slice z78 m78 k78) (s4) :: Fr) ∧ f 0 = (Value.pointer (some ⟨g1, 0, none⟩)) ∧ f 2 = (Value.slice z5 m5 k5) ∧ f 3 = (Value.pointer (some ⟨g2, 0, none⟩)) ∧ f 4 = (Value.int .i64 (i1 : Int))) hrun4 ⟨_, _, _, _, (PH.Le.refl _), ((((I78.pull 2).pull 2).pull 3).pull 4), rfl, rfl, rfl, rfl⟩ ?_ ?_
  ·
   rintro i1 s4 f w o4 hlt1 hI4 h7
   obtain ⟨S10, z78, m78, k78, le10, I79, e184, e185, e186, e187⟩ := hI4
   refine wp_seq' ?_
   refine wp_seq' ?_
   refine wp_region' ?_
   refine wl_op rfl (op_move (v := (Value.int .i64 ((i1 : Int)))) rfl e187 ?_)
   refine wl_op rfl (op_move (v := (Value.slice z5 m5 k5)) rfl e185 ?_)
   refine wl_op rfl (op_len_row (α := (List Int)) rfl Try.underlying47 rfl (I79.nth 1 rfl) ?_)
   refine wl_op rfl (op_lss (a := (i1 : Int)) (b := (([([1, 2] : List Int), ([0, 3] : List Int), ([0] : List Int), ([4, 1] : List Int), ([] : (List Int))] : List (List Int)).length : Int)) rfl rfl rfl ?_)
   refine wl_nil ?_
   refine wp_cond_t (b := decide ((i1 : Int) < (([([1, 2] : List Int), ([0, 3] : List Int), ([0] : List Int), ([4, 1] : List Int), ([] : (List Int))] : List (List Int)).length : Int))) rfl (len_t hlt1) ?_
   refine wp_skip' ?_
   refine wp_seq' ?_
   refine wp_block' ?_
   refine wp_seq' ?_
   refine wp_region' ?_
   refine wl_op rfl (op_assign (v := (Value.slice none 0 0)) rfl rfl ?_)
   refine wl_nil ?_
   refine wp_seq' ?_
   refine wp_seq' ?_
   refine wp_region' ?_
   refine wl_op rfl (op_assign (v := (Value.int .i64 (0))) rfl rfl ?_)
   refine wl_nil ?_
   have I91 := Inv.rowNil (α := Edge) (T := 44) I79
   obtain ⟨out5, hrun5, h7⟩ := bnd h7
   refine wp_cutN (fun f w => ∃ (z96 : Option Addr) (m96 k96 : Nat), Inv w S10 (Cells g1 25 #[(Value.slice none 0 0), (Value.slice none 0 0)] :: Row (α := (List Int)) 26 (Value.slice z5 m5 k5) (([([1, 2] : List Int), ([0, 3] : List Int), ([0] : List Int), ([4, 1] : List Int), ([] : (List Int))] : List (List Int))) :: Cells g2 25 #[(Value.slice z6 m6 k6), (Value.slice z78 m78 k78)] :: Row (α := Position) 133 (Value.slice z6 m6 k6) (x1) :: Row (α := (List Edge)) 40 (Value.slice z78 m78 k78) (s4) :: Row (α := Edge) 44 (Value.slice z96 m96 k96) (out5.1) :: Fr) ∧ f 0 = (Value.pointer (some ⟨g1, 0, none⟩)) ∧ f 2 = (Value.slice z5 m5 k5) ∧ f 3 = (Value.pointer (some ⟨g2, 0, none⟩)) ∧ f 4 = (Value.int .i64 ((i1 : Int))) ∧ f 5 = (Value.slice z96 m96 k96) ∧ f 6 = (Value.int .i64 (out5.2))) ?_ ?_
   ·
    refine wp_block' ?_
    refine wp_whileO (I := fun (s5 : (List Edge × Int)) (f : Frm) (w : World) => ∃ (z95 : Option Addr) (m95 k95 : Nat), Inv w S10 (Cells g1 25 #[(Value.slice none 0 0), (Value.slice none 0 0)] :: Row (α := (List Int)) 26 (Value.slice z5 m5 k5) (([([1, 2] : List Int), ([0, 3] : List Int), ([0] : List Int), ([4, 1] : List Int), ([] : (List Int))] : List (List Int))) :: Cells g2 25 #[(Value.slice z6 m6 k6), (Value.slice z78 m78 k78)] :: Row (α := Position) 133 (Value.slice z6 m6 k6) (x1) :: Row (α := (List Edge)) 40 (Value.slice z78 m78 k78) (s4) :: Row (α := Edge) 44 (Value.slice z95 m95 k95) (s5.1) :: Fr) ∧ f 0 = (Value.pointer (some ⟨g1, 0, none⟩)) ∧ f 2 = (Value.slice z5 m5 k5) ∧ f 3 = (Value.pointer (some ⟨g2, 0, none⟩)) ∧ f 4 = (Value.int .i64 ((i1 : Int))) ∧ f 5 = (Value.slice z95 m95 k95) ∧ f 6 = (Value.int .i64 (s5.2))) hrun5 ⟨_, _, _, (((((I91.pull 5).pull 5).pull 5).pull 5).pull 5), e184, e185, e186, e187, rfl, rfl⟩ ?_
    rintro s5 f w o5 hI5 h9 hout5
    obtain ⟨z95, m95, k95, I92, e225, e226, e227, e228, e229, e230⟩ := hI5
    refine wp_seq' ?_
    refine wp_seq' ?_
    refine wp_region' ?_
    refine wl_op rfl (op_move (v := (Value.int .i64 (s5.2))) rfl e230 ?_)
    refine wl_op rfl (op_move (v := (Value.slice z5 m5 k5)) rfl e226 ?_)
    refine wl_op rfl (op_move (v := (Value.int .i64 ((i1 : Int)))) rfl e228 ?_)
    obtain ⟨x69, hx69, h9⟩ := bnd h9
    refine wl_op rfl (op_indexAddr_src (v := (Value.slice z5 m5 k5)) (i := (i1 : Int)) (e := x69) rfl Try.underlying47 sh26 rfl (Inv.rowSrc (I92.nth 1 rfl)) rfl hx69 ?_)
    refine wl_op rfl (op_load (v := (elemPtr (Value.slice z5 m5 k5) ((i1 : Int)) (Enc.sz (List Int)))) (e := x69) rfl sh26 rfl ((I92.nth 1 rfl).rowElem hx69) (fun u77 hu35 => ?_))
    obtain ⟨z97, m97, k97, e231⟩ := rv_form hu35
    subst e231
    refine wl_op rfl (op_len_rv rfl Try.underlying26 rfl hu35 ?_)
    refine wl_op rfl (op_lss (a := s5.2) (b := (x69.length : Int)) rfl rfl rfl ?_)
    refine wl_nil ?_
    rcases ifs h9 with ⟨hc16, h9⟩ | ⟨hc16, h9⟩
    ·
     refine wp_cond_t (b := decide (s5.2 < (x69.length : Int))) rfl hc16 ?_
     refine wp_skip' ?_
     refine wp_seq' ?_
     refine wp_block' ?_
     refine wp_region' ?_
     refine wl_op rfl (op_move (v := (Value.slice z95 m95 k95)) rfl e229 ?_)
     refine wl_op rfl (op_move (v := (Value.slice z5 m5 k5)) rfl e226 ?_)
     refine wl_op rfl (op_move (v := (Value.int .i64 ((i1 : Int)))) rfl e228 ?_)
     obtain ⟨x70, hx70, h9⟩ := bnd h9
     refine wl_op rfl (op_indexAddr_src (v := (Value.slice z5 m5 k5)) (i := (i1 : Int)) (e := x70) rfl Try.underlying47 sh26 rfl (Inv.rowSrc (I92.nth 1 rfl)) rfl hx70 ?_)
     refine wl_op rfl (op_load (v := (elemPtr (Value.slice z5 m5 k5) ((i1 : Int)) (Enc.sz (List Int)))) (e := x70) rfl sh26 rfl ((I92.nth 1 rfl).rowElem hx70) (fun u78 hu36 => ?_))
     obtain ⟨z98, m98, k98, e232⟩ := rv_form hu36
     subst e232
     refine wl_op rfl (op_move (v := (Value.int .i64 (s5.2))) rfl e230 ?_)
     obtain ⟨x71, hx71, h9⟩ := bnd h9
     refine wl_op rfl (op_indexAddr_rv (v := (Value.slice z98 m98 k98)) (i := s5.2) (e := x71) rfl Try.underlying26 sh3 rfl hu36 rfl hx71 ?_)
     refine wl_op rfl (op_load_int (v := (elemPtr (Value.slice z98 m98 k98) (s5.2) (Enc.sz Int))) (e := x71) rfl sh3 rfl (hu36.elem I92.in_ hx71) ?_)
     refine wl_op rfl (op_build (qs := [(1, #[(Value.int .i64 (x71))])]) (c := #[(Value.int .i64 (0)), (Value.int .i64 (0)), (Value.int .i64 (0)), (Value.int .i64 (x71))]) rfl st44 ⟨rfl, rfl, trivial⟩ rfl ?_)
     refine wl_op rfl (op_buildSlice (vs := [(Value.agg #[(Value.int .i64 (0)), (Value.int .i64 (0)), (Value.int .i64 (0)), (Value.int .i64 (x71))])]) (r := ([(⟨(⟨0, 0, 0⟩ : Move), x71⟩ : Edge)] : List Edge)) rfl Try.underlying40 el44 (parts1 rfl) rfl (by decide) (by decide) ⟨(Edge.rv (s := (⟨(⟨0, 0, 0⟩ : Move), x71⟩ : Edge))), trivial⟩ I92 (fun u79 w49 I93 => ?_))
     obtain ⟨z99, m99, k99, e233⟩ := row_form I93
     subst e233
     obtain ⟨x72, hx72, h9⟩ := bnd h9
     refine wl_op rfl (op_append (α := Edge) (v := (Value.slice z95 m95 k95)) (u := (Value.slice z99 m99 k99)) rfl rfl Try.underlying40 el44 (by decide) (by decide) rfl rfl (I93.pull 6) (Inv.rowSrc (I93.nth 0 rfl)) hx72 (fun u80 w50 I94 => ?_))
     obtain ⟨z100, m100, k100, e234⟩ := row_form I94
     subst e234
     refine wl_op rfl (op_assign (v := (Value.slice z100 m100 k100)) rfl rfl ?_)
     refine wl_nil ?_
     refine wp_region' ?_
     refine wl_op rfl (op_move (v := (Value.int .i64 (s5.2))) rfl e230 ?_)
     refine wl_op rfl (op_add (a := s5.2) (b := 1) rfl rfl rfl ?_)
     refine wl_op rfl (op_assign (v := (Value.int .i64 (w64 (s5.2 + 1)))) rfl rfl ?_)
     refine wl_nil ?_
     obtain rfl := Option.some.inj h9
     exact ⟨_, rfl, _, _, _, ((((((I94.pull 1).drop.pull 5).pull 5).pull 5).pull 5).pull 5), e225, e226, e227, e228, rfl, rfl⟩
    ·
     refine wp_cond_f (b := decide (s5.2 < (x69.length : Int))) rfl hc16 ?_
     refine wp_exit' ?_
     obtain rfl := Option.some.inj h9
     obtain rfl := (hout5 _ rfl)
     exact ⟨_, _, _, ((((((I92.pull 5).pull 5).pull 5).pull 5).pull 5).pull 5), e225, e226, e227, e228, e229, e230⟩
   ·
    rintro f w ⟨z96, m96, k96, I95, e235, e236, e237, e238, e239, e240⟩
    refine wp_region' ?_
    refine wl_op rfl (op_fieldAddr (v := (Value.pointer (some ⟨g2, 0, none⟩))) rfl fa25_1 e237 rfl ?_)
    refine wl_op rfl (op_load1 (c := (Value.slice z78 m78 k78)) rfl sh23 (I95.nth 2 rfl) rfl rfl ?_)
    refine wl_op rfl (op_move (v := (Value.slice z96 m96 k96)) rfl e239 ?_)
    obtain ⟨S11, le11, I96, r8⟩ := Inv.rowFreeze (I95.pull 5)
    refine wl_op rfl (op_buildSlice (vs := [(Value.slice z96 m96 k96)]) (r := ([out5.1] : List (List Edge))) rfl Try.underlying23 el40 (parts1 rfl) rfl (by decide) (by decide) ⟨r8, trivial⟩ I96 (fun u81 w51 I97 => ?_))
    obtain ⟨z101, m101, k101, e241⟩ := row_form I97
    subst e241
    obtain ⟨x73, hx73, h7⟩ := bnd h7
    refine wl_op rfl (op_append (α := (List Edge)) (v := (Value.slice z78 m78 k78)) (u := (Value.slice z101 m101 k101)) rfl rfl Try.underlying23 el40 (by decide) (by decide) rfl rfl (I97.pull 5) (Inv.rowSrc (I97.nth 0 rfl)) hx73 (fun u82 w52 I98 => ?_))
    obtain ⟨z102, m102, k102, e242⟩ := row_form I98
    subst e242
    refine wl_op rfl (op_fieldAddr (v := (Value.pointer (some ⟨g2, 0, none⟩))) rfl fa25_1 e237 rfl ?_)
    refine wl_op rfl (op_store (v := (Value.slice z102 m102 k102)) (cs := #[(Value.slice z6 m6 k6), (Value.slice z78 m78 k78)]) sh23 (I98.pull 4) rfl rfl rfl (Nat.le_of_ble_eq_true rfl) rfl (fun w53 (I99 : Inv w53 S11 (Cells g2 25 #[(Value.slice z6 m6 k6), (Value.slice z102 m102 k102)] :: Row (α := (List Edge)) 40 (Value.slice z102 m102 k102) (x73) :: Row (α := (List Edge)) 40 (Value.slice z101 m101 k101) (([out5.1] : List (List Edge))) :: Cells g1 25 #[(Value.slice none 0 0), (Value.slice none 0 0)] :: Row (α := (List Int)) 26 (Value.slice z5 m5 k5) (([([1, 2] : List Int), ([0, 3] : List Int), ([0] : List Int), ([4, 1] : List Int), ([] : (List Int))] : List (List Int))) :: Row (α := Position) 133 (Value.slice z6 m6 k6) (x1) :: Fr)) => ?_))
    refine wl_nil ?_
    refine wp_region' ?_
    refine wl_op rfl (op_move (v := (Value.int .i64 ((i1 : Int)))) rfl e238 ?_)
    refine wl_op rfl (op_add (a := (i1 : Int)) (b := 1) rfl rfl rfl ?_)
    refine wl_op rfl (op_assign (v := (Value.int .i64 (w64 ((i1 : Int) + 1)))) rfl rfl ?_)
    refine wl_nil ?_
    obtain rfl := Option.some.inj h7
    exact ⟨_, _, _, _, (le10.trans le11), ((((((I99.pull 2).drop.pull 1).pull 4).pull 2).pull 4).pull 4), e235, e236, e237, (idx_next hlt1 hk1)⟩
  ·
   rintro f w hI6
   obtain ⟨S12, z103, m103, k103, le12, I100, e243, e244, e245, e246⟩ := hI6
   refine wp_seq' ?_
   refine wp_seq' ?_
   refine wp_region' ?_
   refine wl_op rfl (op_move (v := (Value.int .i64 ((([([1, 2] : List Int), ([0, 3] : List Int), ([0] : List Int), ([4, 1] : List Int), ([] : (List Int))] : List (List Int)).length : Int)))) rfl e246 ?_)
   refine wl_op rfl (op_move (v := (Value.slice z5 m5 k5)) rfl e244 ?_)
   refine wl_op rfl (op_len_row (α := (List Int)) rfl Try.underlying47 rfl (I100.nth 1 rfl) ?_)
   refine wl_op rfl (op_lss (a := (([([1, 2] : List Int), ([0, 3] : List Int), ([0] : List Int), ([4, 1] : List Int), ([] : (List Int))] : List (List Int)).length : Int)) (b := (([([1, 2] : List Int), ([0, 3] : List Int), ([0] : List Int), ([4, 1] : List Int), ([] : (List Int))] : List (List Int)).length : Int)) rfl rfl rfl ?_)
   refine wl_nil ?_
   refine wp_cond_f (b := decide ((([([1, 2] : List Int), ([0, 3] : List Int), ([0] : List Int), ([4, 1] : List Int), ([] : (List Int))] : List (List Int)).length : Int) < (([([1, 2] : List Int), ([0, 3] : List Int), ([0] : List Int), ([4, 1] : List Int), ([] : (List Int))] : List (List Int)).length : Int))) rfl (len_f _) ?_
   refine wp_exit' ?_
   exact ⟨_, _, _, _, le12, (((((I100.pull 4).pull 4).pull 4).pull 4).pull 4), e243, e244, e245⟩
 ·
  rintro f w ⟨S13, z79, m79, k79, le13, I101, e247, e248, e249⟩
  refine wp_seq' ?_
  refine wp_region' ?_
  refine wl_op rfl (op_loadN (l := [(Value.slice z6 m6 k6), (Value.slice z79 m79 k79)]) rfl sh25 (I101.nth 2 rfl) e249 rfl rfl ?_)
  refine wl_op rfl (op_buildSlice (vs := [(Value.int .i64 (3)), (Value.int .i64 (2)), (Value.int .i64 (4)), (Value.int .i64 (1)), (Value.int .i64 (0))]) (r := ([3, 2, 4, 1, 0] : List Int)) rfl Try.underlying26 el3 (parts5 rfl rfl rfl rfl rfl) rfl (by decide) (by decide) ⟨(rv_int' _), ⟨(rv_int' _), ⟨(rv_int' _), ⟨(rv_int' _), ⟨(rv_int' _), trivial⟩⟩⟩⟩⟩ I101 (fun u83 w54 I102 => ?_))
  obtain ⟨z104, m104, k104, e250⟩ := row_form I102
  subst e250
  refine wl_op rfl (op_store (v := (Value.agg #[(Value.slice z6 m6 k6), (Value.slice z79 m79 k79)])) (cs := #[(Value.slice none 0 0), (Value.slice none 0 0)]) sh25 (I102.pull 1) e247 rfl rfl (Nat.le_of_ble_eq_true rfl) rfl (fun w55 (I103 : Inv w55 S13 (Cells g1 25 #[(Value.slice z6 m6 k6), (Value.slice z79 m79 k79)] :: Row (α := Int) 3 (Value.slice z104 m104 k104) (([3, 2, 4, 1, 0] : List Int)) :: Row (α := (List Int)) 26 (Value.slice z5 m5 k5) (([([1, 2] : List Int), ([0, 3] : List Int), ([0] : List Int), ([4, 1] : List Int), ([] : (List Int))] : List (List Int))) :: Cells g2 25 #[(Value.slice z6 m6 k6), (Value.slice z79 m79 k79)] :: Row (α := Position) 133 (Value.slice z6 m6 k6) (x1) :: Row (α := (List Edge)) 40 (Value.slice z79 m79 k79) (out4) :: Fr)) => ?_))
  refine wl_op rfl (op_assign (v := (Value.slice z104 m104 k104)) rfl rfl ?_)
  refine wl_nil ?_
  refine wp_ret' ?_
  obtain ⟨S14, le14, I104, r9⟩ := Inv.rowFreeze (I103.pull 4)
  obtain ⟨S15, le15, I105, r10⟩ := Inv.rowFreeze (I104.pull 4)
  obtain rfl := Option.some.inj h
  exact ⟨(Value.tuple #[(Value.agg #[(Value.slice z6 m6 k6), (Value.slice z79 m79 k79)]), (Value.slice z104 m104 k104)]), (res2c (cs := #[(Value.slice z6 m6 k6), (Value.slice z79 m79 k79)]) rfl e247 sh25 I103 rfl), _, [Row (α := Int) 3 (Value.slice z104 m104 k104) (([3, 2, 4, 1, 0] : List Int))], ((((((le1.trans le2).trans le3).trans le4).trans le13).trans le14).trans le15), (((I105).drop.pull 1).drop.pull 1).drop, _, _, _, _, rfl, rfl, (Graph.rv (s := (⟨x1, out4⟩ : Graph)) (r9.mono le15) r10)⟩

set_option maxHeartbeats 4000000 in
set_option maxRecDepth 100000 in
theorem F61_ok {w : World} {S : PH} {Fr : List HP} {a0 : Int} {a1 : Int} {a2 : Int} {r : Bool} (hI : Inv w S (Fr))  (h : F61 a0 a1 a2 = some r) :
    Calls Try.prog 61 [(Value.int .i64 (a0)), (Value.int .i64 (a1)), (Value.int .i64 (a2))].toArray w (DoneV S Fr (Value.bool (r))) := by
 unfold F61 at h
 refine calls_enter (n := 15) (vs := [(Value.int .i64 (a0)), (Value.int .i64 (a1)), (Value.int .i64 (a2))]) Try.func61 rfl rfl rfl ?_
 refine wp_seq' ?_
 refine wp_region' ?_
 refine wl_op rfl (op_assign (v := (Value.bool (false))) rfl rfl ?_)
 refine wl_nil ?_
 refine wp_seq' ?_
 refine wp_region' ?_
 refine wl_op rfl (op_move (v := (Value.int .i64 (a0))) rfl rfl ?_)
 refine wl_op rfl (op_move (v := (Value.int .i64 (a1))) rfl rfl ?_)
 refine wl_op rfl (op_geq (a := a0) (b := a1) rfl rfl rfl ?_)
 refine wl_op rfl (op_move (v := (Value.bool (decide (a1 ≤ a0)))) rfl rfl ?_)
 rcases ifs h with ⟨hc1, h⟩ | ⟨hc1, h⟩
 ·
  refine wl_taken (c := decide (a1 ≤ a0)) rfl rfl rfl rfl hc1 (op_move (v := (Value.int .i64 (a0))) rfl rfl ?_)
  refine wl_taken (c := decide (a1 ≤ a0)) rfl rfl rfl rfl hc1 (op_move (v := (Value.int .i64 (a2))) rfl rfl ?_)
  refine wl_taken (c := decide (a1 ≤ a0)) rfl rfl rfl rfl hc1 (op_leq (a := a0) (b := a2) rfl rfl rfl ?_)
  refine wl_op rfl (op_pick_t (c := decide (a1 ≤ a0)) (a := (Value.bool (decide (a0 ≤ a2)))) rfl rfl hc1 rfl ?_)
  refine wl_op rfl (op_assign (v := (Value.bool (decide (a0 ≤ a2)))) rfl rfl ?_)
  refine wl_nil ?_
  refine wp_ret' ?_
  obtain rfl := Option.some.inj h
  exact ⟨(Value.bool (decide (a0 ≤ a2))), (res1 rfl rfl), _, [], (PH.Le.refl _), hI, rfl, rfl⟩
 ·
  refine wl_skip (c := decide (a1 ≤ a0)) rfl rfl rfl rfl hc1 rfl ?_
  refine wl_skip (c := decide (a1 ≤ a0)) rfl rfl rfl rfl hc1 rfl ?_
  refine wl_skip (c := decide (a1 ≤ a0)) rfl rfl rfl rfl hc1 rfl ?_
  refine wl_op rfl (op_pick_f (c := decide (a1 ≤ a0)) (b := (Value.bool (false))) rfl rfl hc1 rfl ?_)
  refine wl_op rfl (op_assign (v := (Value.bool (false))) rfl rfl ?_)
  refine wl_nil ?_
  refine wp_ret' ?_
  obtain rfl := Option.some.inj h
  exact ⟨(Value.bool (false)), (res1 rfl rfl), _, [], (PH.Le.refl _), hI, rfl, rfl⟩

set_option maxHeartbeats 4000000 in
set_option maxRecDepth 100000 in
theorem F78_ok {w : World} {S : PH} {Fr : List HP} {a0 : Edge} {v0 : Value} {a1 : Int} {v1 : Value} {r : Bool} (hI : Inv w S (Fr)) (h0_ : RV S v0 a0) (h1_ : PtS S v1 a1) (h : F78 a0 a1 = some r) :
    Calls Try.prog 78 [v0, v1].toArray w (DoneV S Fr (Value.bool (r))) := by
 unfold F78 at h
 have e1 := Edge.inv h0_
 subst e1
 refine calls_enter (n := 10) (vs := [(Value.agg #[(Value.int .i64 (a0.Move.Player)), (Value.int .i64 (a0.Move.Kind)), (Value.int .i64 (a0.Move.Number)), (Value.int .i64 (a0.To))]), v1]) Try.func78 rfl rfl rfl ?_
 refine wp_seq' ?_
 refine wp_region' ?_
 refine wl_op rfl (op_box (v := (Value.agg #[(Value.int .i64 (a0.Move.Player)), (Value.int .i64 (a0.Move.Kind)), (Value.int .i64 (a0.Move.Number)), (Value.int .i64 (a0.To))])) rfl hI rfl (fun g1 w1 I1 => ?_))
 obtain ⟨S1, le1, I2, p1⟩ := Inv.boxFreeze (x := a0) I1 (Edge.rv (s := a0))
 refine wl_op rfl (op_assign (v := (Value.bool (false))) rfl rfl ?_)
 refine wl_nil ?_
 refine wp_seq' ?_
 refine wp_region' ?_
 refine wl_op rfl (op_fieldAddr_t (v := (Value.pointer (some ⟨g1, 0, none⟩))) rfl fa44_1 rfl (p1.at_ I2) ?_)
 refine wl_op rfl (op_load_int (v := (fieldPtr (Value.pointer (some ⟨g1, 0, none⟩)) 3)) (e := a0.To) rfl sh3 rfl ((p1.at_ I2).fld Edge.fld1) ?_)
 refine wl_op rfl (op_load_int (v := v1) (e := a1) rfl sh3 rfl ((h1_.mono le1).at_ I2) ?_)
 refine wl_op rfl (op_sub (a := a1) (b := 1) rfl rfl rfl ?_)
 obtain ⟨x1, hx1, h⟩ := bnd h
 refine wl_op rfl (op_call_v (vs := [(Value.int .i64 (a0.To)), (Value.int .i64 (0)), (Value.int .i64 (w64 (a1 - 1)))]) (r := (Value.bool (x1))) rfl ca61 rfl (args3 rfl rfl rfl) I2 (fun Fr_ hF_ => F61_ok hF_  hx1) (fun w2 I3 => ?_))
 refine wl_op rfl (op_not (b := x1) rfl rfl ?_)
 refine wl_op rfl (op_assign (v := (Value.bool (!x1))) rfl rfl ?_)
 refine wl_nil ?_
 refine wp_ret' ?_
 obtain rfl := Option.some.inj h
 exact ⟨(Value.bool (!x1)), (res1 rfl rfl), _, [], le1, I3, rfl, rfl⟩

set_option maxHeartbeats 4000000 in
set_option maxRecDepth 100000 in
theorem F59_ok {w : World} {S : PH} {Fr : List HP} {a0 : (List Edge)} {v0 : Value} {a1 : Edge → Option Bool} {v1 : Value} {r : Int} (hI : Inv w S (Fr)) (h0_ : RV S v0 a0) (h1_ : FnV Try.prog S v1 a1) (h : F59 a0 a1 = some r) :
    Calls Try.prog 59 [v0, v1].toArray w (DoneV S Fr (Value.int .i64 (r))) := by
 unfold F59 at h
 obtain ⟨z1, m1, k1, e1⟩ := rv_form h0_
 subst e1
 refine calls_enter (n := 19) (vs := [(Value.slice z1 m1 k1), v1]) Try.func59 rfl rfl rfl ?_
 refine wp_seq' ?_
 refine wp_region' ?_
 refine wl_op rfl (op_assign (v := (Value.int .i64 (0))) rfl rfl ?_)
 refine wl_nil ?_
 refine wp_seq' ?_
 refine wp_seq' ?_
 refine wp_region' ?_
 refine wl_op rfl (op_move (v := (Value.slice z1 m1 k1)) rfl rfl ?_)
 refine wl_op rfl (op_len_rv rfl Try.underlying40 rfl h0_ ?_)
 refine wl_op rfl (op_move (v := (Value.int .i64 (0))) rfl rfl ?_)
 refine wl_nil ?_
 have hk1 : a0.length ≤ 9223372036854775807 := (rv_len h0_)
 obtain ⟨o2, hrun1, h⟩ := bnd h
 refine wp_cutN (fun f w => ∃ out1, o2 = Sum.inl out1 ∧ Inv w S (Fr) ∧ f 0 = (Value.slice z1 m1 k1) ∧ f 1 = v1 ∧ f 7 = (Value.int .i64 ((a0.length : Int)))) ?_ ?_
 ·
  refine wp_block' ?_
  refine wp_forN (I := fun (i1 : Nat) (s1 : Unit) (f : Frm) (w : World) => Inv w S (Fr) ∧ f 0 = (Value.slice z1 m1 k1) ∧ f 1 = v1 ∧ f 7 = (Value.int .i64 ((a0.length : Int))) ∧ f 8 = (Value.int .i64 (i1 : Int))) hrun1 ⟨hI, rfl, rfl, rfl, rfl⟩ ?_ ?_
  ·
   rintro i1 s1 f w o1 hlt1 hI1 h1 hout1
   obtain ⟨I5, e12, e13, e14, e15⟩ := hI1
   refine wp_seq' ?_
   refine wp_region' ?_
   refine wl_op rfl (op_lss (a := (i1 : Int)) (b := (a0.length : Int)) rfl e15 e14 ?_)
   refine wl_nil ?_
   refine wp_seq' ?_
   refine wp_cond_t (b := decide ((i1 : Int) < (a0.length : Int))) rfl (len_t hlt1) ?_
   refine wp_skip' ?_
   refine wp_seq' ?_
   refine wp_block' ?_
   refine wp_seq' ?_
   refine wp_region' ?_
   refine wl_op rfl (op_move (v := (Value.int .i64 ((i1 : Int)))) rfl e15 ?_)
   refine wl_op rfl (op_assign (v := (Value.int .i64 ((i1 : Int)))) rfl rfl ?_)
   refine wl_nil ?_
   refine wp_seq' ?_
   refine wp_region' ?_
   refine wl_op rfl (op_move (v := v1) rfl e13 ?_)
   refine wl_op rfl (op_move (v := (Value.slice z1 m1 k1)) rfl e12 ?_)
   refine wl_op rfl (op_move (v := (Value.int .i64 ((i1 : Int)))) rfl rfl ?_)
   obtain ⟨x5, hx5, h1⟩ := bnd h1
   refine wl_op rfl (op_indexAddr_rv (v := (Value.slice z1 m1 k1)) (i := (i1 : Int)) (e := x5) rfl Try.underlying40 sh44 rfl h0_ rfl hx5 ?_)
   refine wl_op rfl (op_load (v := (elemPtr (Value.slice z1 m1 k1) ((i1 : Int)) (Enc.sz Edge))) (e := x5) rfl sh44 rfl (h0_.elem I5.in_ hx5) (fun u3 hu3 => ?_))
   have e16 := Edge.inv hu3
   subst e16
   obtain ⟨x6, hx6, h1⟩ := bnd h1
   refine wl_op rfl (op_call_fn (v := v1) (u := (Value.agg #[(Value.int .i64 (x5.Move.Player)), (Value.int .i64 (x5.Move.Kind)), (Value.int .i64 (x5.Move.Number)), (Value.int .i64 (x5.To))])) (r := x6) rfl rfl h1_ rfl (Edge.rv (s := x5)) hx6 I5 (fun w3 I6 => ?_))
   refine wl_nil ?_
   rcases ifs h1 with ⟨hc3, h1⟩ | ⟨hc3, h1⟩
   ·
    refine wp_cond_t (b := x6) rfl hc3 ?_
    refine wp_seq' ?_
    refine wp_region' ?_
    refine wl_op rfl (op_move (v := (Value.int .i64 ((i1 : Int)))) rfl rfl ?_)
    refine wl_op rfl (op_assign (v := (Value.int .i64 ((i1 : Int)))) rfl rfl ?_)
    refine wl_nil ?_
    refine wp_ret' ?_
    obtain rfl := Option.some.inj h1
    obtain rfl := (hout1 _ rfl)
    have h2 := h
    obtain rfl := Option.some.inj h2
    exact ⟨(Value.int .i64 ((i1 : Int))), (res1 rfl rfl), _, [], (PH.Le.refl _), I6, rfl, rfl⟩
   ·
    refine wp_cond_f (b := x6) rfl hc3 ?_
    refine wp_skip' ?_
    refine wp_region' ?_
    refine wl_op rfl (op_add (a := (i1 : Int)) (b := 1) rfl e15 rfl ?_)
    refine wl_op rfl (op_move (v := (Value.int .i64 (w64 ((i1 : Int) + 1)))) rfl rfl ?_)
    refine wl_nil ?_
    obtain rfl := Option.some.inj h1
    exact ⟨_, rfl, I6, e12, e13, e14, (idx_next hlt1 hk1)⟩
  ·
   rintro s2 f w hs1 hI2
   obtain ⟨I7, e17, e18, e19, e20⟩ := hI2
   refine wp_seq' ?_
   refine wp_region' ?_
   refine wl_op rfl (op_lss (a := (a0.length : Int)) (b := (a0.length : Int)) rfl e20 e19 ?_)
   refine wl_nil ?_
   refine wp_seq' ?_
   refine wp_cond_f (b := decide ((a0.length : Int) < (a0.length : Int))) rfl (len_f _) ?_
   refine wp_exit' ?_
   exact ⟨s2, hs1, I7, e17, e18, e19⟩
 ·
  rintro f w ⟨out1, rfl, I8, e21, e22, e23⟩
  have h := onL_inl h
  refine wp_seq' ?_
  refine wp_region' ?_
  refine wl_op rfl (op_assign (v := (Value.int .i64 ((-1)))) rfl rfl ?_)
  refine wl_nil ?_
  refine wp_ret' ?_
  obtain rfl := Option.some.inj h
  exact ⟨(Value.int .i64 ((-1))), (res1 rfl rfl), _, [], (PH.Le.refl _), I8, rfl, rfl⟩

set_option maxHeartbeats 4000000 in
set_option maxRecDepth 100000 in
theorem F77_ok {w : World} {S : PH} {Fr : List HP} {a0 : (List Edge)} {v0 : Value} {a1 : Edge → Option Bool} {v1 : Value} {r : Bool} (hI : Inv w S (Fr)) (h0_ : RV S v0 a0) (h1_ : FnV Try.prog S v1 a1) (h : F77 a0 a1 = some r) :
    Calls Try.prog 77 [v0, v1].toArray w (DoneV S Fr (Value.bool (r))) := by
 unfold F77 at h
 obtain ⟨z1, m1, k1, e1⟩ := rv_form h0_
 subst e1
 refine calls_enter (n := 9) (vs := [(Value.slice z1 m1 k1), v1]) Try.func77 rfl rfl rfl ?_
 refine wp_seq' ?_
 refine wp_region' ?_
 refine wl_op rfl (op_assign (v := (Value.bool (false))) rfl rfl ?_)
 refine wl_nil ?_
 refine wp_seq' ?_
 refine wp_region' ?_
 refine wl_op rfl (op_move (v := (Value.slice z1 m1 k1)) rfl rfl ?_)
 refine wl_op rfl (op_move (v := v1) rfl rfl ?_)
 obtain ⟨x1, hx1, h⟩ := bnd h
 refine wl_op rfl (op_call_v (vs := [(Value.slice z1 m1 k1), v1]) (r := (Value.int .i64 (x1))) rfl ca59 rfl (args2 rfl rfl) hI (fun Fr_ hF_ => F59_ok hF_ h0_ h1_ hx1) (fun w1 I1 => ?_))
 refine wl_op rfl (op_geq (a := x1) (b := 0) rfl rfl rfl ?_)
 refine wl_op rfl (op_assign (v := (Value.bool (decide (0 ≤ x1)))) rfl rfl ?_)
 refine wl_nil ?_
 refine wp_ret' ?_
 obtain rfl := Option.some.inj h
 exact ⟨(Value.bool (decide (0 ≤ x1))), (res1 rfl rfl), _, [], (PH.Le.refl _), I1, rfl, rfl⟩

set_option maxHeartbeats 4000000 in
set_option maxRecDepth 100000 in
theorem F79_ok {w : World} {S : PH} {Fr : List HP} {a0 : Search_view} {v0 : Value} {a1 : Int} {r : Int} (hI : Inv w S (Fr)) (h0_ : RV S v0 a0) (h : F79 a0 a1 = some r) :
    Calls Try.prog 79 [v0, (Value.int .i64 (a1))].toArray w (DoneV S Fr (Value.int .i64 (r))) := by
 unfold F79 at h
 obtain ⟨c1, c2, e1, r1, r2⟩ := Search_view.inv h0_
 subst e1
 obtain ⟨z1, m1, k1, e2⟩ := rv_form r1
 subst e2
 obtain ⟨z2, m2, k2, e3⟩ := rv_form r2
 subst e3
 refine calls_enter (n := 34) (vs := [(Value.agg #[(Value.slice z1 m1 k1), (Value.slice z2 m2 k2)]), (Value.int .i64 (a1))]) Try.func79 rfl rfl rfl ?_
 refine wp_seq' ?_
 refine wp_region' ?_
 refine wl_op rfl (op_box (v := (Value.agg #[(Value.slice z1 m1 k1), (Value.slice z2 m2 k2)])) rfl hI rfl (fun g1 w1 I1 => ?_))
 obtain ⟨S1, le1, I2, p1⟩ := Inv.boxFreeze (x := a0) I1 (Search_view.rv (s := a0) r1 r2)
 refine wl_op rfl (op_assign (v := (Value.int .i64 (0))) rfl rfl ?_)
 refine wl_nil ?_
 refine wp_seq' ?_
 refine wp_region' ?_
 refine wl_op rfl (op_assign (v := (Value.int .i64 (1099511627776))) rfl rfl ?_)
 refine wl_nil ?_
 refine wp_seq' ?_
 refine wp_seq' ?_
 refine wp_region' ?_
 refine wl_op rfl (op_fieldAddr_t (v := (Value.pointer (some ⟨g1, 0, none⟩))) rfl fa64_0 rfl (p1.at_ I2) ?_)
 refine wl_op rfl (op_load (v := (fieldPtr (Value.pointer (some ⟨g1, 0, none⟩)) 0)) (e := a0.edges) rfl sh23 rfl ((p1.at_ I2).fld Search_view.fld0) (fun u1 hu1 => ?_))
 obtain ⟨z3, m3, k3, e4⟩ := rv_form hu1
 subst e4
 refine wl_op rfl (op_move (v := (Value.int .i64 (a1))) rfl rfl ?_)
 obtain ⟨x1, hx1, h⟩ := bnd h
 refine wl_op rfl (op_indexAddr_rv (v := (Value.slice z3 m3 k3)) (i := a1) (e := x1) rfl Try.underlying23 sh40 rfl hu1 rfl hx1 ?_)
 refine wl_op rfl (op_load (v := (elemPtr (Value.slice z3 m3 k3) (a1) (Enc.sz (List Edge)))) (e := x1) rfl sh40 rfl (hu1.elem I2.in_ hx1) (fun u2 hu2 => ?_))
 obtain ⟨z4, m4, k4, e5⟩ := rv_form hu2
 subst e5
 refine wl_op rfl (op_len_rv rfl Try.underlying40 rfl hu2 ?_)
 refine wl_op rfl (op_move (v := (Value.int .i64 (0))) rfl rfl ?_)
 refine wl_nil ?_
 have hk1 : x1.length ≤ 9223372036854775807 := (rv_len hu2)
 obtain ⟨out1, hrun1, h⟩ := bnd h
 refine wp_cutN (fun f w => Inv w S1 (Fr) ∧ f 2 = (Value.pointer (some ⟨g1, 0, none⟩)) ∧ f 5 = (Value.int .i64 (out1)) ∧ f 13 = (Value.slice z4 m4 k4) ∧ f 14 = (Value.int .i64 ((x1.length : Int)))) ?_ ?_
 ·
  refine wp_block' ?_
  refine wp_forS (I := fun (i1 : Nat) (s1 : (Int)) (f : Frm) (w : World) => Inv w S1 (Fr) ∧ f 2 = (Value.pointer (some ⟨g1, 0, none⟩)) ∧ f 5 = (Value.int .i64 (s1)) ∧ f 13 = (Value.slice z4 m4 k4) ∧ f 14 = (Value.int .i64 ((x1.length : Int))) ∧ f 15 = (Value.int .i64 (i1 : Int))) hrun1 ⟨I2, rfl, rfl, rfl, rfl, rfl⟩ ?_ ?_
  ·
   rintro i1 s1 f w o1 hlt1 hI1 h1
   obtain ⟨I12, e27, e28, e29, e30, e31⟩ := hI1
   refine wp_seq' ?_
   refine wp_region' ?_
   refine wl_op rfl (op_lss (a := (i1 : Int)) (b := (x1.length : Int)) rfl e31 e30 ?_)
   refine wl_nil ?_
   refine wp_seq' ?_
   refine wp_cond_t (b := decide ((i1 : Int) < (x1.length : Int))) rfl (len_t hlt1) ?_
   refine wp_skip' ?_
   refine wp_seq' ?_
   refine wp_block' ?_
   refine wp_seq' ?_
   refine wp_region' ?_
   obtain ⟨x8, hx8, h1⟩ := bnd h1
   refine wl_op rfl (op_indexAddr_rv (v := (Value.slice z4 m4 k4)) (i := (i1 : Int)) (e := x8) rfl Try.underlying40 sh44 e29 hu2 e31 hx8 ?_)
   refine wl_op rfl (op_load (v := (elemPtr (Value.slice z4 m4 k4) ((i1 : Int)) (Enc.sz Edge))) (e := x8) rfl sh44 rfl (hu2.elem I12.in_ hx8) (fun u9 hu9 => ?_))
   have e32 := Edge.inv hu9
   subst e32
   refine wl_op rfl (op_alloc (z := (Value.agg #[(Value.int .i64 (0)), (Value.int .i64 (0)), (Value.int .i64 (0)), (Value.int .i64 (0))])) rfl I12 zo44 (fun g5 w8 (I13 : Inv w8 S1 (Cells g5 44 #[(Value.int .i64 (0)), (Value.int .i64 (0)), (Value.int .i64 (0)), (Value.int .i64 (0))] :: Fr)) => ?_))
   refine wl_op rfl (op_store (v := (Value.agg #[(Value.int .i64 (x8.Move.Player)), (Value.int .i64 (x8.Move.Kind)), (Value.int .i64 (x8.Move.Number)), (Value.int .i64 (x8.To))])) (cs := #[(Value.int .i64 (0)), (Value.int .i64 (0)), (Value.int .i64 (0)), (Value.int .i64 (0))]) sh44 I13 rfl rfl rfl (Nat.le_of_ble_eq_true rfl) rfl (fun w9 (I14 : Inv w9 S1 (Cells g5 44 #[(Value.int .i64 (x8.Move.Player)), (Value.int .i64 (x8.Move.Kind)), (Value.int .i64 (x8.Move.Number)), (Value.int .i64 (x8.To))] :: Fr)) => ?_))
   refine wl_nil ?_
   refine wp_seq' ?_
   refine wp_region' ?_
   refine wl_op rfl (op_fieldAddr_t (v := (Value.pointer (some ⟨g1, 0, none⟩))) rfl fa64_1 e27 (p1.at_ I14) ?_)
   refine wl_op rfl (op_load (v := (fieldPtr (Value.pointer (some ⟨g1, 0, none⟩)) 1)) (e := a0.distances) rfl sh26 rfl ((p1.at_ I14).fld Search_view.fld1) (fun u10 hu10 => ?_))
   obtain ⟨z8, m8, k8, e33⟩ := rv_form hu10
   subst e33
   refine wl_op rfl (op_fieldAddr (v := (Value.pointer (some ⟨g5, 0, none⟩))) rfl fa44_1 rfl rfl ?_)
   refine wl_op rfl (op_load1 (c := (Value.int .i64 (x8.To))) rfl sh3 (I14.nth 0 rfl) rfl rfl ?_)
   obtain ⟨x9, hx9, h1⟩ := bnd h1
   refine wl_op rfl (op_indexAddr_rv (v := (Value.slice z8 m8 k8)) (i := x8.To) (e := x9) rfl Try.underlying26 sh3 rfl hu10 rfl hx9 ?_)
   refine wl_op rfl (op_load_int (v := (elemPtr (Value.slice z8 m8 k8) (x8.To) (Enc.sz Int))) (e := x9) rfl sh3 rfl (hu10.elem I14.in_ hx9) ?_)
   refine wl_op rfl (op_assign (v := (Value.int .i64 (x9))) rfl rfl ?_)
   refine wl_nil ?_
   refine wp_seq' ?_
   refine wp_region' ?_
   refine wl_op rfl (op_move (v := (Value.int .i64 (x9))) rfl rfl ?_)
   refine wl_op rfl (op_neq (a := x9) (b := (-1)) rfl rfl rfl ?_)
   refine wl_nil ?_
   rcases ifs h1 with ⟨hc4, h1⟩ | ⟨hc4, h1⟩
   ·
    refine wp_cond_t (b := x9 != (-1)) rfl hc4 ?_
    refine wp_region' ?_
    refine wl_op rfl (op_move (v := (Value.int .i64 (s1))) rfl e28 ?_)
    refine wl_op rfl (op_move (v := (Value.int .i64 (x9))) rfl rfl ?_)
    refine wl_op rfl (op_min (a := s1) (b := x9) rfl rfl rfl ?_)
    refine wl_op rfl (op_assign (v := (Value.int .i64 (minI s1 x9))) rfl rfl ?_)
    refine wl_nil ?_
    refine wp_region' ?_
    refine wl_op rfl (op_add (a := (i1 : Int)) (b := 1) rfl e31 rfl ?_)
    refine wl_op rfl (op_move (v := (Value.int .i64 (w64 ((i1 : Int) + 1)))) rfl rfl ?_)
    refine wl_nil ?_
    obtain rfl := Option.some.inj h1
    exact ⟨(I14).drop, e27, rfl, e29, e30, (idx_next hlt1 hk1)⟩
   ·
    refine wp_cond_f (b := x9 != (-1)) rfl hc4 ?_
    refine wp_skip' ?_
    refine wp_region' ?_
    refine wl_op rfl (op_add (a := (i1 : Int)) (b := 1) rfl e31 rfl ?_)
    refine wl_op rfl (op_move (v := (Value.int .i64 (w64 ((i1 : Int) + 1)))) rfl rfl ?_)
    refine wl_nil ?_
    obtain rfl := Option.some.inj h1
    exact ⟨(I14).drop, e27, e28, e29, e30, (idx_next hlt1 hk1)⟩
  ·
   rintro f w hI2
   obtain ⟨I15, e34, e35, e36, e37, e38⟩ := hI2
   refine wp_seq' ?_
   refine wp_region' ?_
   refine wl_op rfl (op_lss (a := (x1.length : Int)) (b := (x1.length : Int)) rfl e38 e37 ?_)
   refine wl_nil ?_
   refine wp_seq' ?_
   refine wp_cond_f (b := decide ((x1.length : Int) < (x1.length : Int))) rfl (len_f _) ?_
   refine wp_exit' ?_
   exact ⟨I15, e34, e35, e36, e37⟩
 ·
  rintro f w ⟨I16, e39, e40, e41, e42⟩
  refine wp_seq' ?_
  refine wp_seq' ?_
  refine wp_region' ?_
  refine wl_op rfl (op_move (v := (Value.int .i64 (out1))) rfl e40 ?_)
  refine wl_op rfl (op_eql (a := out1) (b := 1099511627776) rfl rfl rfl ?_)
  refine wl_nil ?_
  rcases ifs h with ⟨hc5, h⟩ | ⟨hc5, h⟩
  ·
   refine wp_cond_t (b := out1 == 1099511627776) rfl hc5 ?_
   refine wp_seq' ?_
   refine wp_region' ?_
   refine wl_op rfl (op_assign (v := (Value.int .i64 ((-1)))) rfl rfl ?_)
   refine wl_nil ?_
   refine wp_ret' ?_
   obtain rfl := Option.some.inj h
   exact ⟨(Value.int .i64 ((-1))), (res1 rfl rfl), _, [], le1, I16, rfl, rfl⟩
  ·
   refine wp_cond_f (b := out1 == 1099511627776) rfl hc5 ?_
   refine wp_skip' ?_
   refine wp_seq' ?_
   refine wp_region' ?_
   refine wl_op rfl (op_move (v := (Value.int .i64 (out1))) rfl e40 ?_)
   refine wl_op rfl (op_assign (v := (Value.int .i64 (out1))) rfl rfl ?_)
   refine wl_nil ?_
   refine wp_ret' ?_
   obtain rfl := Option.some.inj h
   exact ⟨(Value.int .i64 (out1)), (res1 rfl rfl), _, [], le1, I16, rfl, rfl⟩

set_option maxHeartbeats 4000000 in
set_option maxRecDepth 100000 in
theorem F57_ok {w : World} {S : PH} {Fr : List HP} {a0 : Graph} {v0 : Value} {a1 : (List Int)} {v1 : Value} {r : Search_view × Int} (hI : Inv w S (Fr)) (h0_ : RV S v0 a0) (h1_ : RV S v1 a1) (h : F57 a0 a1 = some r) :
    Calls Try.prog 57 [v0, v1].toArray w (Done S Fr (fun T_ v_ O_ => ∃ (c0_ : Value), v_ = (Value.tuple #[c0_, (Value.int .i64 (r.2))]) ∧ O_ = [] ∧ RV T_ c0_ r.1)) := by
 unfold F57 at h
 obtain ⟨c1, c2, e1, r1, r2⟩ := Graph.inv h0_
 subst e1
 obtain ⟨z1, m1, k1, e2⟩ := rv_form r1
 subst e2
 obtain ⟨z2, m2, k2, e3⟩ := rv_form r2
 subst e3
 obtain ⟨z3, m3, k3, e4⟩ := rv_form h1_
 subst e4
 refine calls_enter (n := 78) (vs := [(Value.agg #[(Value.slice z1 m1 k1), (Value.slice z2 m2 k2)]), (Value.slice z3 m3 k3)]) Try.func57 rfl rfl rfl ?_
 refine wp_seq' ?_
 refine wp_region' ?_
 refine wl_op rfl (op_box (v := (Value.agg #[(Value.slice z1 m1 k1), (Value.slice z2 m2 k2)])) rfl hI rfl (fun g1 w1 I1 => ?_))
 obtain ⟨S1, le1, I2, p1⟩ := Inv.boxFreeze (x := a0) I1 (Graph.rv (s := a0) r1 r2)
 refine wl_op rfl (op_alloc (z := (Value.agg #[(Value.slice none 0 0), (Value.slice none 0 0)])) rfl I2 zo64 (fun g2 w2 (I3 : Inv w2 S1 (Cells g2 64 #[(Value.slice none 0 0), (Value.slice none 0 0)] :: Fr)) => ?_))
 refine wl_op rfl (op_assign (v := (Value.int .i64 (0))) rfl rfl ?_)
 refine wl_nil ?_
 refine wp_seq' ?_
 refine wp_region' ?_
 refine wl_op rfl (op_fieldAddr_t (v := (Value.pointer (some ⟨g1, 0, none⟩))) rfl fa25_1 rfl (p1.at_ I3) ?_)
 refine wl_op rfl (op_load (v := (fieldPtr (Value.pointer (some ⟨g1, 0, none⟩)) 1)) (e := a0.Edges) rfl sh23 rfl ((p1.at_ I3).fld Graph.fld1) (fun u1 hu1 => ?_))
 obtain ⟨z4, m4, k4, e5⟩ := rv_form hu1
 subst e5
 refine wl_op rfl (op_move (v := (Value.slice z3 m3 k3)) rfl rfl ?_)
 refine wl_op rfl (op_build (qs := [(0, #[(Value.slice z4 m4 k4)]), (1, #[(Value.slice z3 m3 k3)])]) (c := #[(Value.slice z4 m4 k4), (Value.slice z3 m3 k3)]) rfl st64 ⟨rfl, rfl, ⟨rfl, rfl, trivial⟩⟩ rfl ?_)
 refine wl_op rfl (op_alloc (z := (Value.agg #[(Value.slice none 0 0), (Value.slice none 0 0)])) rfl I3 zo64 (fun g3 w3 (I4 : Inv w3 S1 (Cells g3 64 #[(Value.slice none 0 0), (Value.slice none 0 0)] :: Cells g2 64 #[(Value.slice none 0 0), (Value.slice none 0 0)] :: Fr)) => ?_))
 refine wl_op rfl (op_store (v := (Value.agg #[(Value.slice z4 m4 k4), (Value.slice z3 m3 k3)])) (cs := #[(Value.slice none 0 0), (Value.slice none 0 0)]) sh64 I4 rfl rfl rfl (Nat.le_of_ble_eq_true rfl) rfl (fun w4 (I5 : Inv w4 S1 (Cells g3 64 #[(Value.slice z4 m4 k4), (Value.slice z3 m3 k3)] :: Cells g2 64 #[(Value.slice none 0 0), (Value.slice none 0 0)] :: Fr)) => ?_))
 refine wl_nil ?_
 refine wp_seq' ?_
 refine wp_region' ?_
 refine wl_op rfl (op_fieldAddr_t (v := (Value.pointer (some ⟨g1, 0, none⟩))) rfl fa25_0 rfl (p1.at_ I5) ?_)
 refine wl_op rfl (op_load (v := (fieldPtr (Value.pointer (some ⟨g1, 0, none⟩)) 0)) (e := a0.Positions) rfl sh22 rfl ((p1.at_ I5).fld Graph.fld0) (fun u2 hu2 => ?_))
 obtain ⟨z5, m5, k5, e6⟩ := rv_form hu2
 subst e6
 refine wl_op rfl (op_len_rv rfl Try.underlying22 rfl hu2 ?_)
 refine wl_op rfl (op_alloc (z := (Value.int .i64 (0))) rfl I5 zo3 (fun g4 w5 (I6 : Inv w5 S1 (Cells g4 3 #[(Value.int .i64 (0))] :: Cells g3 64 #[(Value.slice z4 m4 k4), (Value.slice z3 m3 k3)] :: Cells g2 64 #[(Value.slice none 0 0), (Value.slice none 0 0)] :: Fr)) => ?_))
 refine wl_op rfl (op_store (v := (Value.int .i64 ((a0.Positions.length : Int)))) (cs := #[(Value.int .i64 (0))]) sh3 I6 rfl rfl rfl (Nat.le_of_ble_eq_true rfl) rfl (fun w6 (I7 : Inv w6 S1 (Cells g4 3 #[(Value.int .i64 ((a0.Positions.length : Int)))] :: Cells g3 64 #[(Value.slice z4 m4 k4), (Value.slice z3 m3 k3)] :: Cells g2 64 #[(Value.slice none 0 0), (Value.slice none 0 0)] :: Fr)) => ?_))
 obtain ⟨S2, le2, I8, p2⟩ := Inv.boxFreeze (u := (Value.int .i64 ((a0.Positions.length : Int)))) (x := (a0.Positions.length : Int)) I7 (rv_int' _)
 refine wl_nil ?_
 obtain ⟨ov1, h2, h⟩ := bnd h
 refine wp_cut (fun f w => ∃ v1, ov1 = Sum.inl v1 ∧ Inv w S2 (Cells g2 64 #[(Value.slice none 0 0), (Value.slice none 0 0)] :: Cells g3 64 #[(Value.slice z4 m4 k4), (Value.slice z3 m3 k3)] :: Fr) ∧ f 1 = (Value.slice z3 m3 k3) ∧ f 2 = (Value.pointer (some ⟨g1, 0, none⟩)) ∧ f 4 = (Value.pointer (some ⟨g2, 0, none⟩)) ∧ f 6 = (Value.pointer (some ⟨g3, 0, none⟩)) ∧ f 7 = (Value.pointer (some ⟨g4, 0, none⟩))) ?_ ?_
 ·
  refine wp_seq' ?_
  refine wp_region' ?_
  refine wl_op rfl (op_load_int (v := (Value.pointer (some ⟨g4, 0, none⟩))) (e := (a0.Positions.length : Int)) rfl sh3 rfl (p2.at_ I8) ?_)
  obtain ⟨x2, hx2, h2⟩ := bnd h2
  refine wl_op rfl (op_call_v (vs := [(Value.int .i64 ((a0.Positions.length : Int))), (Value.int .i64 (1)), (Value.int .i64 (300))]) (r := (Value.bool (x2))) rfl ca61 rfl (args3 rfl rfl rfl) I8 (fun Fr_ hF_ => F61_ok hF_  hx2) (fun w11 I13 => ?_))
  refine wl_op rfl (op_not (b := x2) rfl rfl ?_)
  refine wl_op rfl (op_move (v := (Value.bool (!x2))) rfl rfl ?_)
  rcases ifs h2 with ⟨hc4, h2⟩ | ⟨hc4, h2⟩
  ·
   refine wl_skip (c := !x2) rfl rfl rfl rfl hc4 rfl ?_
   refine wl_skip (c := !x2) rfl rfl rfl rfl hc4 rfl ?_
   refine wl_skip (c := !x2) rfl rfl rfl rfl hc4 rfl ?_
   refine wl_skip (c := !x2) rfl rfl rfl rfl hc4 rfl ?_
   refine wl_skip (c := !x2) rfl rfl rfl rfl hc4 rfl ?_
   refine wl_op rfl (op_pick_t (c := !x2) (a := (Value.bool (true))) rfl rfl hc4 rfl ?_)
   refine wl_op rfl (op_move (v := (Value.bool (true))) rfl rfl ?_)
   refine wl_skip (c := true) rfl rfl rfl rfl rfl rfl ?_
   refine wl_skip (c := true) rfl rfl rfl rfl rfl rfl ?_
   refine wl_skip (c := true) rfl rfl rfl rfl rfl rfl ?_
   refine wl_skip (c := true) rfl rfl rfl rfl rfl rfl ?_
   refine wl_op rfl (op_pick_t (c := true) (a := (Value.bool (true))) rfl rfl rfl rfl ?_)
   refine wl_nil ?_
   refine wp_cond_t (b := true) rfl rfl ?_
   refine wp_seq' ?_
   refine wp_region' ?_
   refine wl_op rfl (op_loadN (l := [(Value.slice z4 m4 k4), (Value.slice z3 m3 k3)]) rfl sh64 (I13.nth 0 rfl) rfl rfl rfl ?_)
   refine wl_op rfl (op_store (v := (Value.agg #[(Value.slice z4 m4 k4), (Value.slice z3 m3 k3)])) (cs := #[(Value.slice none 0 0), (Value.slice none 0 0)]) sh64 (I13.pull 1) rfl rfl rfl (Nat.le_of_ble_eq_true rfl) rfl (fun w12 (I14 : Inv w12 S2 (Cells g2 64 #[(Value.slice z4 m4 k4), (Value.slice z3 m3 k3)] :: Cells g3 64 #[(Value.slice z4 m4 k4), (Value.slice z3 m3 k3)] :: Fr)) => ?_))
   refine wl_op rfl (op_assign (v := (Value.int .i64 (60))) rfl rfl ?_)
   refine wl_nil ?_
   refine wp_ret' ?_
   obtain rfl := Option.some.inj h2
   have h3 := h
   obtain rfl := Option.some.inj h3
   exact ⟨(Value.tuple #[(Value.agg #[(Value.slice z4 m4 k4), (Value.slice z3 m3 k3)]), (Value.int .i64 (60))]), (res2c (cs := #[(Value.slice z4 m4 k4), (Value.slice z3 m3 k3)]) rfl rfl sh64 I14 rfl), _, [], (le1.trans le2), ((I14).drop).drop, _, rfl, rfl, (Search_view.rv (s := (⟨a0.Edges, a1⟩ : Search_view)) (hu1.mono le2) (h1_.mono (le1.trans le2)))⟩
  ·
   refine wl_taken (c := !x2) rfl rfl rfl rfl hc4 (op_fieldAddr_t (v := (Value.pointer (some ⟨g1, 0, none⟩))) rfl fa25_1 rfl ((p1.mono le2).at_ I13) ?_)
   refine wl_taken (c := !x2) rfl rfl rfl rfl hc4 (op_load (v := (fieldPtr (Value.pointer (some ⟨g1, 0, none⟩)) 1)) (e := a0.Edges) rfl sh23 rfl (((p1.mono le2).at_ I13).fld Graph.fld1) (fun u4 hu4 => ?_))
   obtain ⟨z7, m7, k7, e8⟩ := rv_form hu4
   subst e8
   refine wl_taken (c := !x2) rfl rfl rfl rfl hc4 (op_len_rv rfl Try.underlying23 rfl hu4 ?_)
   refine wl_taken (c := !x2) rfl rfl rfl rfl hc4 (op_load_int (v := (Value.pointer (some ⟨g4, 0, none⟩))) (e := (a0.Positions.length : Int)) rfl sh3 rfl (p2.at_ I13) ?_)
   refine wl_taken (c := !x2) rfl rfl rfl rfl hc4 (op_neq (a := (a0.Edges.length : Int)) (b := (a0.Positions.length : Int)) rfl rfl rfl ?_)
   refine wl_op rfl (op_pick_f (c := !x2) (b := (Value.bool ((a0.Edges.length : Int) != (a0.Positions.length : Int)))) rfl rfl hc4 rfl ?_)
   refine wl_op rfl (op_move (v := (Value.bool ((a0.Edges.length : Int) != (a0.Positions.length : Int)))) rfl rfl ?_)
   rcases ifs h2 with ⟨hc5, h2⟩ | ⟨hc5, h2⟩
   ·
    refine wl_skip (c := (a0.Edges.length : Int) != (a0.Positions.length : Int)) rfl rfl rfl rfl hc5 rfl ?_
    refine wl_skip (c := (a0.Edges.length : Int) != (a0.Positions.length : Int)) rfl rfl rfl rfl hc5 rfl ?_
    refine wl_skip (c := (a0.Edges.length : Int) != (a0.Positions.length : Int)) rfl rfl rfl rfl hc5 rfl ?_
    refine wl_skip (c := (a0.Edges.length : Int) != (a0.Positions.length : Int)) rfl rfl rfl rfl hc5 rfl ?_
    refine wl_op rfl (op_pick_t (c := (a0.Edges.length : Int) != (a0.Positions.length : Int)) (a := (Value.bool (true))) rfl rfl hc5 rfl ?_)
    refine wl_nil ?_
    refine wp_cond_t (b := true) rfl rfl ?_
    refine wp_seq' ?_
    refine wp_region' ?_
    refine wl_op rfl (op_loadN (l := [(Value.slice z4 m4 k4), (Value.slice z3 m3 k3)]) rfl sh64 (I13.nth 0 rfl) rfl rfl rfl ?_)
    refine wl_op rfl (op_store (v := (Value.agg #[(Value.slice z4 m4 k4), (Value.slice z3 m3 k3)])) (cs := #[(Value.slice none 0 0), (Value.slice none 0 0)]) sh64 (I13.pull 1) rfl rfl rfl (Nat.le_of_ble_eq_true rfl) rfl (fun w13 (I15 : Inv w13 S2 (Cells g2 64 #[(Value.slice z4 m4 k4), (Value.slice z3 m3 k3)] :: Cells g3 64 #[(Value.slice z4 m4 k4), (Value.slice z3 m3 k3)] :: Fr)) => ?_))
    refine wl_op rfl (op_assign (v := (Value.int .i64 (60))) rfl rfl ?_)
    refine wl_nil ?_
    refine wp_ret' ?_
    obtain rfl := Option.some.inj h2
    have h3 := h
    obtain rfl := Option.some.inj h3
    exact ⟨(Value.tuple #[(Value.agg #[(Value.slice z4 m4 k4), (Value.slice z3 m3 k3)]), (Value.int .i64 (60))]), (res2c (cs := #[(Value.slice z4 m4 k4), (Value.slice z3 m3 k3)]) rfl rfl sh64 I15 rfl), _, [], (le1.trans le2), ((I15).drop).drop, _, rfl, rfl, (Search_view.rv (s := (⟨a0.Edges, a1⟩ : Search_view)) (hu1.mono le2) (h1_.mono (le1.trans le2)))⟩
   ·
    refine wl_taken (c := (a0.Edges.length : Int) != (a0.Positions.length : Int)) rfl rfl rfl rfl hc5 (op_move (v := (Value.slice z3 m3 k3)) rfl rfl ?_)
    refine wl_taken (c := (a0.Edges.length : Int) != (a0.Positions.length : Int)) rfl rfl rfl rfl hc5 (op_len_rv rfl Try.underlying26 rfl (h1_.mono (le1.trans le2)) ?_)
    refine wl_taken (c := (a0.Edges.length : Int) != (a0.Positions.length : Int)) rfl rfl rfl rfl hc5 (op_load_int (v := (Value.pointer (some ⟨g4, 0, none⟩))) (e := (a0.Positions.length : Int)) rfl sh3 rfl (p2.at_ I13) ?_)
    refine wl_taken (c := (a0.Edges.length : Int) != (a0.Positions.length : Int)) rfl rfl rfl rfl hc5 (op_neq (a := (a1.length : Int)) (b := (a0.Positions.length : Int)) rfl rfl rfl ?_)
    refine wl_op rfl (op_pick_f (c := (a0.Edges.length : Int) != (a0.Positions.length : Int)) (b := (Value.bool ((a1.length : Int) != (a0.Positions.length : Int)))) rfl rfl hc5 rfl ?_)
    refine wl_nil ?_
    rcases ifs h2 with ⟨hc6, h2⟩ | ⟨hc6, h2⟩
    ·
     refine wp_cond_t (b := (a1.length : Int) != (a0.Positions.length : Int)) rfl hc6 ?_
     refine wp_seq' ?_
     refine wp_region' ?_
     refine wl_op rfl (op_loadN (l := [(Value.slice z4 m4 k4), (Value.slice z3 m3 k3)]) rfl sh64 (I13.nth 0 rfl) rfl rfl rfl ?_)
     refine wl_op rfl (op_store (v := (Value.agg #[(Value.slice z4 m4 k4), (Value.slice z3 m3 k3)])) (cs := #[(Value.slice none 0 0), (Value.slice none 0 0)]) sh64 (I13.pull 1) rfl rfl rfl (Nat.le_of_ble_eq_true rfl) rfl (fun w14 (I16 : Inv w14 S2 (Cells g2 64 #[(Value.slice z4 m4 k4), (Value.slice z3 m3 k3)] :: Cells g3 64 #[(Value.slice z4 m4 k4), (Value.slice z3 m3 k3)] :: Fr)) => ?_))
     refine wl_op rfl (op_assign (v := (Value.int .i64 (60))) rfl rfl ?_)
     refine wl_nil ?_
     refine wp_ret' ?_
     obtain rfl := Option.some.inj h2
     have h3 := h
     obtain rfl := Option.some.inj h3
     exact ⟨(Value.tuple #[(Value.agg #[(Value.slice z4 m4 k4), (Value.slice z3 m3 k3)]), (Value.int .i64 (60))]), (res2c (cs := #[(Value.slice z4 m4 k4), (Value.slice z3 m3 k3)]) rfl rfl sh64 I16 rfl), _, [], (le1.trans le2), ((I16).drop).drop, _, rfl, rfl, (Search_view.rv (s := (⟨a0.Edges, a1⟩ : Search_view)) (hu1.mono le2) (h1_.mono (le1.trans le2)))⟩
    ·
     refine wp_cond_f (b := (a1.length : Int) != (a0.Positions.length : Int)) rfl hc6 ?_
     refine wp_skip' ?_
     obtain rfl := Option.some.inj h2
     exact ⟨_, rfl, (I13.pull 1), rfl, rfl, rfl, rfl, rfl⟩
 ·
  rintro f w ⟨v1, rfl, I17, e9, e10, e11, e12, e13⟩
  have h := onL_inl h
  refine wp_seq' ?_
  refine wp_seq' ?_
  refine wp_region' ?_
  refine wl_op rfl (op_fieldAddr_t (v := (Value.pointer (some ⟨g1, 0, none⟩))) rfl fa25_1 e10 ((p1.mono le2).at_ I17) ?_)
  refine wl_op rfl (op_load (v := (fieldPtr (Value.pointer (some ⟨g1, 0, none⟩)) 1)) (e := a0.Edges) rfl sh23 rfl (((p1.mono le2).at_ I17).fld Graph.fld1) (fun u5 hu5 => ?_))
  obtain ⟨z8, m8, k8, e14⟩ := rv_form hu5
  subst e14
  refine wl_op rfl (op_len_rv rfl Try.underlying23 rfl hu5 ?_)
  refine wl_op rfl (op_move (v := (Value.int .i64 (0))) rfl rfl ?_)
  refine wl_nil ?_
  have hk1 : a0.Edges.length ≤ 9223372036854775807 := (rv_len hu5)
  obtain ⟨o2, hrun1, h⟩ := bnd h
  refine wp_cutN (fun f w => ∃ out1, o2 = Sum.inl out1 ∧ Inv w S2 (Cells g2 64 #[(Value.slice none 0 0), (Value.slice none 0 0)] :: Cells g3 64 #[(Value.slice z4 m4 k4), (Value.slice z3 m3 k3)] :: Fr) ∧ f 1 = (Value.slice z3 m3 k3) ∧ f 4 = (Value.pointer (some ⟨g2, 0, none⟩)) ∧ f 6 = (Value.pointer (some ⟨g3, 0, none⟩)) ∧ f 7 = (Value.pointer (some ⟨g4, 0, none⟩)) ∧ f 38 = (Value.slice z8 m8 k8) ∧ f 39 = (Value.int .i64 ((a0.Edges.length : Int)))) ?_ ?_
  ·
   refine wp_block' ?_
   refine wp_forN (I := fun (i1 : Nat) (s1 : Unit) (f : Frm) (w : World) => Inv w S2 (Cells g2 64 #[(Value.slice none 0 0), (Value.slice none 0 0)] :: Cells g3 64 #[(Value.slice z4 m4 k4), (Value.slice z3 m3 k3)] :: Fr) ∧ f 1 = (Value.slice z3 m3 k3) ∧ f 4 = (Value.pointer (some ⟨g2, 0, none⟩)) ∧ f 6 = (Value.pointer (some ⟨g3, 0, none⟩)) ∧ f 7 = (Value.pointer (some ⟨g4, 0, none⟩)) ∧ f 38 = (Value.slice z8 m8 k8) ∧ f 39 = (Value.int .i64 ((a0.Edges.length : Int))) ∧ f 40 = (Value.int .i64 (i1 : Int))) hrun1 ⟨((I17.pull 1).pull 1), e9, e11, e12, e13, rfl, rfl, rfl⟩ ?_ ?_
   ·
    rintro i1 s1 f w o1 hlt1 hI1 h4 hout1
    obtain ⟨I26, e31, e32, e33, e34, e35, e36, e37⟩ := hI1
    refine wp_seq' ?_
    refine wp_region' ?_
    refine wl_op rfl (op_lss (a := (i1 : Int)) (b := (a0.Edges.length : Int)) rfl e37 e36 ?_)
    refine wl_nil ?_
    refine wp_seq' ?_
    refine wp_cond_t (b := decide ((i1 : Int) < (a0.Edges.length : Int))) rfl (len_t hlt1) ?_
    refine wp_skip' ?_
    refine wp_seq' ?_
    refine wp_block' ?_
    refine wp_seq' ?_
    refine wp_region' ?_
    obtain ⟨x7, hx7, h4⟩ := bnd h4
    refine wl_op rfl (op_indexAddr_rv (v := (Value.slice z8 m8 k8)) (i := (i1 : Int)) (e := x7) rfl Try.underlying23 sh40 e35 hu5 e37 hx7 ?_)
    refine wl_op rfl (op_load (v := (elemPtr (Value.slice z8 m8 k8) ((i1 : Int)) (Enc.sz (List Edge)))) (e := x7) rfl sh40 rfl (hu5.elem I26.in_ hx7) (fun u8 hu8 => ?_))
    obtain ⟨z11, m11, k11, e38⟩ := rv_form hu8
    subst e38
    refine wl_op rfl (op_assign (v := (Value.slice z11 m11 k11)) rfl rfl ?_)
    refine wl_nil ?_
    refine wp_seq' ?_
    refine wp_region' ?_
    refine wl_op rfl (op_move (v := (Value.slice z11 m11 k11)) rfl rfl ?_)
    refine wl_op rfl (op_len_rv rfl Try.underlying40 rfl hu8 ?_)
    refine wl_op rfl (op_gtr (a := (x7.length : Int)) (b := 100) rfl rfl rfl ?_)
    refine wl_op rfl (op_move (v := (Value.bool (decide (100 < (x7.length : Int))))) rfl rfl ?_)
    rcases ifs h4 with ⟨hc11, h4⟩ | ⟨hc11, h4⟩
    ·
     refine wl_skip (c := decide (100 < (x7.length : Int))) rfl rfl rfl rfl hc11 rfl ?_
     refine wl_skip (c := decide (100 < (x7.length : Int))) rfl rfl rfl rfl hc11 rfl ?_
     refine wl_skip (c := decide (100 < (x7.length : Int))) rfl rfl rfl rfl hc11 rfl ?_
     refine wl_op rfl (op_pick_t (c := decide (100 < (x7.length : Int))) (a := (Value.bool (true))) rfl rfl hc11 rfl ?_)
     refine wl_nil ?_
     refine wp_cond_t (b := true) rfl rfl ?_
     refine wp_seq' ?_
     refine wp_region' ?_
     refine wl_op rfl (op_loadN (l := [(Value.slice z4 m4 k4), (Value.slice z3 m3 k3)]) rfl sh64 (I26.nth 1 rfl) e33 rfl rfl ?_)
     refine wl_op rfl (op_store (v := (Value.agg #[(Value.slice z4 m4 k4), (Value.slice z3 m3 k3)])) (cs := #[(Value.slice none 0 0), (Value.slice none 0 0)]) sh64 I26 e32 rfl rfl (Nat.le_of_ble_eq_true rfl) rfl (fun w21 (I27 : Inv w21 S2 (Cells g2 64 #[(Value.slice z4 m4 k4), (Value.slice z3 m3 k3)] :: Cells g3 64 #[(Value.slice z4 m4 k4), (Value.slice z3 m3 k3)] :: Fr)) => ?_))
     refine wl_op rfl (op_assign (v := (Value.int .i64 (60))) rfl rfl ?_)
     refine wl_nil ?_
     refine wp_ret' ?_
     obtain rfl := Option.some.inj h4
     obtain rfl := (hout1 _ rfl)
     have h5 := h
     obtain rfl := Option.some.inj h5
     exact ⟨(Value.tuple #[(Value.agg #[(Value.slice z4 m4 k4), (Value.slice z3 m3 k3)]), (Value.int .i64 (60))]), (res2c (cs := #[(Value.slice z4 m4 k4), (Value.slice z3 m3 k3)]) rfl e32 sh64 I27 rfl), _, [], (le1.trans le2), ((I27).drop).drop, _, rfl, rfl, (Search_view.rv (s := (⟨a0.Edges, a1⟩ : Search_view)) (hu1.mono le2) (h1_.mono (le1.trans le2)))⟩
    ·
     refine wl_taken (c := decide (100 < (x7.length : Int))) rfl rfl rfl rfl hc11 (op_move (v := (Value.slice z11 m11 k11)) rfl rfl ?_)
     refine wl_taken (c := decide (100 < (x7.length : Int))) rfl rfl rfl rfl hc11 (op_makeFunc (fv := #[]) (cv := #[(Value.pointer (some ⟨g4, 0, none⟩))]) rfl arr0 (arr1 e34) ?_)
     obtain ⟨x8, hx8, h4⟩ := bnd h4
     refine wl_taken (c := decide (100 < (x7.length : Int))) rfl rfl rfl rfl hc11 (op_call_v (vs := [(Value.slice z11 m11 k11), (Value.func (.func 78) #[] #[(Value.pointer (some ⟨g4, 0, none⟩))])]) (r := (Value.bool (x8))) rfl ca77 rfl (args2 rfl rfl) I26 (fun Fr_ hF_ => F77_ok hF_ hu8 ⟨78, [(Value.pointer (some ⟨g4, 0, none⟩))], rfl, ca78, fun T_ w_ Fr_ u_ x_ r_ hle_ hI_ hu_ hr_ => F78_ok hI_ hu_ (p2.mono hle_) hr_⟩ hx8) (fun w22 I28 => ?_))
     refine wl_op rfl (op_pick_f (c := decide (100 < (x7.length : Int))) (b := (Value.bool (x8))) rfl rfl hc11 rfl ?_)
     refine wl_nil ?_
     rcases ifs h4 with ⟨hc12, h4⟩ | ⟨hc12, h4⟩
     ·
      refine wp_cond_t (b := x8) rfl hc12 ?_
      refine wp_seq' ?_
      refine wp_region' ?_
      refine wl_op rfl (op_loadN (l := [(Value.slice z4 m4 k4), (Value.slice z3 m3 k3)]) rfl sh64 (I28.nth 1 rfl) e33 rfl rfl ?_)
      refine wl_op rfl (op_store (v := (Value.agg #[(Value.slice z4 m4 k4), (Value.slice z3 m3 k3)])) (cs := #[(Value.slice none 0 0), (Value.slice none 0 0)]) sh64 I28 e32 rfl rfl (Nat.le_of_ble_eq_true rfl) rfl (fun w23 (I29 : Inv w23 S2 (Cells g2 64 #[(Value.slice z4 m4 k4), (Value.slice z3 m3 k3)] :: Cells g3 64 #[(Value.slice z4 m4 k4), (Value.slice z3 m3 k3)] :: Fr)) => ?_))
      refine wl_op rfl (op_assign (v := (Value.int .i64 (60))) rfl rfl ?_)
      refine wl_nil ?_
      refine wp_ret' ?_
      obtain rfl := Option.some.inj h4
      obtain rfl := (hout1 _ rfl)
      have h5 := h
      obtain rfl := Option.some.inj h5
      exact ⟨(Value.tuple #[(Value.agg #[(Value.slice z4 m4 k4), (Value.slice z3 m3 k3)]), (Value.int .i64 (60))]), (res2c (cs := #[(Value.slice z4 m4 k4), (Value.slice z3 m3 k3)]) rfl e32 sh64 I29 rfl), _, [], (le1.trans le2), ((I29).drop).drop, _, rfl, rfl, (Search_view.rv (s := (⟨a0.Edges, a1⟩ : Search_view)) (hu1.mono le2) (h1_.mono (le1.trans le2)))⟩
     ·
      refine wp_cond_f (b := x8) rfl hc12 ?_
      refine wp_skip' ?_
      refine wp_region' ?_
      refine wl_op rfl (op_add (a := (i1 : Int)) (b := 1) rfl e37 rfl ?_)
      refine wl_op rfl (op_move (v := (Value.int .i64 (w64 ((i1 : Int) + 1)))) rfl rfl ?_)
      refine wl_nil ?_
      obtain rfl := Option.some.inj h4
      exact ⟨_, rfl, ((I28.pull 1).pull 1), e31, e32, e33, e34, e35, e36, (idx_next hlt1 hk1)⟩
   ·
    rintro s2 f w hs1 hI2
    obtain ⟨I30, e39, e40, e41, e42, e43, e44, e45⟩ := hI2
    refine wp_seq' ?_
    refine wp_region' ?_
    refine wl_op rfl (op_lss (a := (a0.Edges.length : Int)) (b := (a0.Edges.length : Int)) rfl e45 e44 ?_)
    refine wl_nil ?_
    refine wp_seq' ?_
    refine wp_cond_f (b := decide ((a0.Edges.length : Int) < (a0.Edges.length : Int))) rfl (len_f _) ?_
    refine wp_exit' ?_
    exact ⟨s2, hs1, ((I30.pull 1).pull 1), e39, e40, e41, e42, e43, e44⟩
  ·
   rintro f w ⟨out1, rfl, I31, e46, e47, e48, e49, e50, e51⟩
   have h := onL_inl h
   refine wp_seq' ?_
   refine wp_seq' ?_
   refine wp_region' ?_
   refine wl_op rfl (op_move (v := (Value.slice z3 m3 k3)) rfl e46 ?_)
   refine wl_op rfl (op_len_rv rfl Try.underlying26 rfl (h1_.mono (le1.trans le2)) ?_)
   refine wl_op rfl (op_move (v := (Value.int .i64 (0))) rfl rfl ?_)
   refine wl_nil ?_
   have hk2 : a1.length ≤ 9223372036854775807 := (rv_len h1_)
   obtain ⟨o4, hrun2, h⟩ := bnd h
   refine wp_cutN (fun f w => ∃ out2, o4 = Sum.inl out2 ∧ Inv w S2 (Cells g2 64 #[(Value.slice none 0 0), (Value.slice none 0 0)] :: Cells g3 64 #[(Value.slice z4 m4 k4), (Value.slice z3 m3 k3)] :: Fr) ∧ f 4 = (Value.pointer (some ⟨g2, 0, none⟩)) ∧ f 6 = (Value.pointer (some ⟨g3, 0, none⟩)) ∧ f 54 = (Value.slice z3 m3 k3) ∧ f 55 = (Value.int .i64 ((a1.length : Int)))) ?_ ?_
   ·
    refine wp_block' ?_
    refine wp_forN (I := fun (i2 : Nat) (s3 : Unit) (f : Frm) (w : World) => Inv w S2 (Cells g2 64 #[(Value.slice none 0 0), (Value.slice none 0 0)] :: Cells g3 64 #[(Value.slice z4 m4 k4), (Value.slice z3 m3 k3)] :: Fr) ∧ f 4 = (Value.pointer (some ⟨g2, 0, none⟩)) ∧ f 6 = (Value.pointer (some ⟨g3, 0, none⟩)) ∧ f 54 = (Value.slice z3 m3 k3) ∧ f 55 = (Value.int .i64 ((a1.length : Int))) ∧ f 56 = (Value.int .i64 (i2 : Int))) hrun2 ⟨((I31.pull 1).pull 1), e47, e48, rfl, rfl, rfl⟩ ?_ ?_
    ·
     rintro i2 s3 f w o3 hlt2 hI3 h12 hout2
     obtain ⟨I40, e76, e77, e78, e79, e80⟩ := hI3
     refine wp_seq' ?_
     refine wp_region' ?_
     refine wl_op rfl (op_lss (a := (i2 : Int)) (b := (a1.length : Int)) rfl e80 e79 ?_)
     refine wl_nil ?_
     refine wp_seq' ?_
     refine wp_cond_t (b := decide ((i2 : Int) < (a1.length : Int))) rfl (len_t hlt2) ?_
     refine wp_skip' ?_
     refine wp_seq' ?_
     refine wp_block' ?_
     refine wp_seq' ?_
     refine wp_region' ?_
     refine wl_op rfl (op_move (v := (Value.int .i64 ((i2 : Int)))) rfl e80 ?_)
     obtain ⟨x13, hx13, h12⟩ := bnd h12
     refine wl_op rfl (op_indexAddr_rv (v := (Value.slice z3 m3 k3)) (i := (i2 : Int)) (e := x13) rfl Try.underlying26 sh3 e78 (h1_.mono (le1.trans le2)) e80 hx13 ?_)
     refine wl_op rfl (op_load_int (v := (elemPtr (Value.slice z3 m3 k3) ((i2 : Int)) (Enc.sz Int))) (e := x13) rfl sh3 rfl ((h1_.mono (le1.trans le2)).elem I40.in_ hx13) ?_)
     refine wl_op rfl (op_assign (v := (Value.int .i64 ((i2 : Int)))) rfl rfl ?_)
     refine wl_op rfl (op_assign (v := (Value.int .i64 (x13))) rfl rfl ?_)
     refine wl_nil ?_
     refine wp_seq' ?_
     refine wp_region' ?_
     refine wl_op rfl (op_loadN (l := [(Value.slice z4 m4 k4), (Value.slice z3 m3 k3)]) rfl sh64 (I40.nth 1 rfl) e77 rfl rfl ?_)
     refine wl_op rfl (op_move (v := (Value.int .i64 ((i2 : Int)))) rfl rfl ?_)
     obtain ⟨x14, hx14, h12⟩ := bnd h12
     refine wl_op rfl (op_call_v (vs := [(Value.agg #[(Value.slice z4 m4 k4), (Value.slice z3 m3 k3)]), (Value.int .i64 ((i2 : Int)))]) (r := (Value.int .i64 (x14))) rfl ca79 rfl (args2 rfl rfl) I40 (fun Fr_ hF_ => F79_ok hF_ (Search_view.rv (s := (⟨a0.Edges, a1⟩ : Search_view)) (hu1.mono le2) (h1_.mono (le1.trans le2))) hx14) (fun w28 I41 => ?_))
     refine wl_op rfl (op_assign (v := (Value.int .i64 (x14))) rfl rfl ?_)
     refine wl_nil ?_
     obtain ⟨v4, h15, h12⟩ := bnd h12
     refine wp_cut (fun f w => Inv w S2 (Cells g2 64 #[(Value.slice none 0 0), (Value.slice none 0 0)] :: Cells g3 64 #[(Value.slice z4 m4 k4), (Value.slice z3 m3 k3)] :: Fr) ∧ f 4 = (Value.pointer (some ⟨g2, 0, none⟩)) ∧ f 6 = (Value.pointer (some ⟨g3, 0, none⟩)) ∧ f 11 = (Value.int .i64 (x13)) ∧ f 12 = (Value.int .i64 (v4)) ∧ f 54 = (Value.slice z3 m3 k3) ∧ f 55 = (Value.int .i64 ((a1.length : Int))) ∧ f 56 = (Value.int .i64 ((i2 : Int)))) ?_ ?_
     ·
      refine wp_seq' ?_
      refine wp_region' ?_
      refine wl_op rfl (op_move (v := (Value.int .i64 (x14))) rfl rfl ?_)
      refine wl_op rfl (op_neq (a := x14) (b := (-1)) rfl rfl rfl ?_)
      refine wl_nil ?_
      rcases ifs h15 with ⟨hc22, h15⟩ | ⟨hc22, h15⟩
      ·
       refine wp_cond_t (b := x14 != (-1)) rfl hc22 ?_
       refine wp_region' ?_
       refine wl_op rfl (op_move (v := (Value.int .i64 (x14))) rfl rfl ?_)
       refine wl_op rfl (op_add (a := x14) (b := 1) rfl rfl rfl ?_)
       refine wl_op rfl (op_assign (v := (Value.int .i64 (w64 (x14 + 1)))) rfl rfl ?_)
       refine wl_nil ?_
       obtain rfl := Option.some.inj h15
       exact ⟨((I41.pull 1).pull 1), e76, e77, rfl, rfl, e78, e79, e80⟩
      ·
       refine wp_cond_f (b := x14 != (-1)) rfl hc22 ?_
       refine wp_skip' ?_
       obtain rfl := Option.some.inj h15
       exact ⟨((I41.pull 1).pull 1), e76, e77, rfl, rfl, e78, e79, e80⟩
     ·
      rintro f w ⟨I42, e81, e82, e83, e84, e85, e86, e87⟩
      refine wp_seq' ?_
      refine wp_region' ?_
      refine wl_op rfl (op_move (v := (Value.int .i64 (x13))) rfl e83 ?_)
      refine wl_op rfl (op_neq (a := x13) (b := 0) rfl rfl rfl ?_)
      refine wl_op rfl (op_move (v := (Value.bool (x13 != 0))) rfl rfl ?_)
      rcases ifs h12 with ⟨hc23, h12⟩ | ⟨hc23, h12⟩
      ·
       refine wl_taken (c := x13 != 0) rfl rfl rfl rfl hc23 (op_move (v := (Value.int .i64 (x13))) rfl e83 ?_)
       refine wl_taken (c := x13 != 0) rfl rfl rfl rfl hc23 (op_move (v := (Value.int .i64 (v4))) rfl e84 ?_)
       refine wl_taken (c := x13 != 0) rfl rfl rfl rfl hc23 (op_neq (a := x13) (b := v4) rfl rfl rfl ?_)
       refine wl_op rfl (op_pick_t (c := x13 != 0) (a := (Value.bool (x13 != v4))) rfl rfl hc23 rfl ?_)
       refine wl_nil ?_
       rcases ifs h12 with ⟨hc24, h12⟩ | ⟨hc24, h12⟩
       ·
        refine wp_cond_t (b := x13 != v4) rfl hc24 ?_
        refine wp_seq' ?_
        refine wp_region' ?_
        refine wl_op rfl (op_loadN (l := [(Value.slice z4 m4 k4), (Value.slice z3 m3 k3)]) rfl sh64 (I42.nth 1 rfl) e82 rfl rfl ?_)
        refine wl_op rfl (op_store (v := (Value.agg #[(Value.slice z4 m4 k4), (Value.slice z3 m3 k3)])) (cs := #[(Value.slice none 0 0), (Value.slice none 0 0)]) sh64 I42 e81 rfl rfl (Nat.le_of_ble_eq_true rfl) rfl (fun w29 (I43 : Inv w29 S2 (Cells g2 64 #[(Value.slice z4 m4 k4), (Value.slice z3 m3 k3)] :: Cells g3 64 #[(Value.slice z4 m4 k4), (Value.slice z3 m3 k3)] :: Fr)) => ?_))
        refine wl_op rfl (op_assign (v := (Value.int .i64 (60))) rfl rfl ?_)
        refine wl_nil ?_
        refine wp_ret' ?_
        obtain rfl := Option.some.inj h12
        obtain rfl := (hout2 _ rfl)
        have h13 := h
        obtain rfl := Option.some.inj h13
        exact ⟨(Value.tuple #[(Value.agg #[(Value.slice z4 m4 k4), (Value.slice z3 m3 k3)]), (Value.int .i64 (60))]), (res2c (cs := #[(Value.slice z4 m4 k4), (Value.slice z3 m3 k3)]) rfl e81 sh64 I43 rfl), _, [], (le1.trans le2), ((I43).drop).drop, _, rfl, rfl, (Search_view.rv (s := (⟨a0.Edges, a1⟩ : Search_view)) (hu1.mono le2) (h1_.mono (le1.trans le2)))⟩
       ·
        refine wp_cond_f (b := x13 != v4) rfl hc24 ?_
        refine wp_skip' ?_
        refine wp_region' ?_
        refine wl_op rfl (op_add (a := (i2 : Int)) (b := 1) rfl e87 rfl ?_)
        refine wl_op rfl (op_move (v := (Value.int .i64 (w64 ((i2 : Int) + 1)))) rfl rfl ?_)
        refine wl_nil ?_
        obtain rfl := Option.some.inj h12
        exact ⟨_, rfl, ((I42.pull 1).pull 1), e81, e82, e85, e86, (idx_next hlt2 hk2)⟩
      ·
       refine wl_skip (c := x13 != 0) rfl rfl rfl rfl hc23 rfl ?_
       refine wl_skip (c := x13 != 0) rfl rfl rfl rfl hc23 rfl ?_
       refine wl_skip (c := x13 != 0) rfl rfl rfl rfl hc23 rfl ?_
       refine wl_op rfl (op_pick_f (c := x13 != 0) (b := (Value.bool (false))) rfl rfl hc23 rfl ?_)
       refine wl_nil ?_
       refine wp_cond_f (b := false) rfl rfl ?_
       refine wp_skip' ?_
       refine wp_region' ?_
       refine wl_op rfl (op_add (a := (i2 : Int)) (b := 1) rfl e87 rfl ?_)
       refine wl_op rfl (op_move (v := (Value.int .i64 (w64 ((i2 : Int) + 1)))) rfl rfl ?_)
       refine wl_nil ?_
       obtain rfl := Option.some.inj h12
       exact ⟨_, rfl, ((I42.pull 1).pull 1), e81, e82, e85, e86, (idx_next hlt2 hk2)⟩
    ·
     rintro s4 f w hs2 hI4
     obtain ⟨I44, e88, e89, e90, e91, e92⟩ := hI4
     refine wp_seq' ?_
     refine wp_region' ?_
     refine wl_op rfl (op_lss (a := (a1.length : Int)) (b := (a1.length : Int)) rfl e92 e91 ?_)
     refine wl_nil ?_
     refine wp_seq' ?_
     refine wp_cond_f (b := decide ((a1.length : Int) < (a1.length : Int))) rfl (len_f _) ?_
     refine wp_exit' ?_
     exact ⟨s4, hs2, ((I44.pull 1).pull 1), e88, e89, e90, e91⟩
   ·
    rintro f w ⟨out2, rfl, I45, e93, e94, e95, e96⟩
    have h := onL_inl h
    refine wp_seq' ?_
    refine wp_region' ?_
    refine wl_op rfl (op_loadN (l := [(Value.slice z4 m4 k4), (Value.slice z3 m3 k3)]) rfl sh64 (I45.nth 1 rfl) e94 rfl rfl ?_)
    refine wl_op rfl (op_store (v := (Value.agg #[(Value.slice z4 m4 k4), (Value.slice z3 m3 k3)])) (cs := #[(Value.slice none 0 0), (Value.slice none 0 0)]) sh64 I45 e93 rfl rfl (Nat.le_of_ble_eq_true rfl) rfl (fun w30 (I46 : Inv w30 S2 (Cells g2 64 #[(Value.slice z4 m4 k4), (Value.slice z3 m3 k3)] :: Cells g3 64 #[(Value.slice z4 m4 k4), (Value.slice z3 m3 k3)] :: Fr)) => ?_))
    refine wl_op rfl (op_assign (v := (Value.int .i64 (0))) rfl rfl ?_)
    refine wl_nil ?_
    refine wp_ret' ?_
    obtain rfl := Option.some.inj h
    exact ⟨(Value.tuple #[(Value.agg #[(Value.slice z4 m4 k4), (Value.slice z3 m3 k3)]), (Value.int .i64 (0))]), (res2c (cs := #[(Value.slice z4 m4 k4), (Value.slice z3 m3 k3)]) rfl e93 sh64 I46 rfl), _, [], (le1.trans le2), ((I46).drop).drop, _, rfl, rfl, (Search_view.rv (s := (⟨a0.Edges, a1⟩ : Search_view)) (hu1.mono le2) (h1_.mono (le1.trans le2)))⟩

set_option maxHeartbeats 4000000 in
set_option maxRecDepth 100000 in
theorem F45_ok {w : World} {S : PH} {Fr : List HP} {a0 : Graph} {v0 : Value} {a1 : (List Int)} {v1 : Value} {a2 : Mind} {v2 : Value} {a3 : Int} {r : Search_view × Int} (hI : Inv w S (Fr)) (h0_ : RV S v0 a0) (h1_ : RV S v1 a1) (h2_ : RV S v2 a2) (h : F45 a0 a1 a2 a3 = some r) :
    Calls Try.prog 45 [v0, v1, v2, (Value.int .i64 (a3))].toArray w (Done S Fr (fun T_ v_ O_ => ∃ (c0_ : Value), v_ = (Value.tuple #[c0_, (Value.int .i64 (r.2))]) ∧ O_ = [] ∧ RV T_ c0_ r.1)) := by
 unfold F45 at h
 obtain ⟨c1, c2, e1, r1, r2⟩ := Graph.inv h0_
 subst e1
 obtain ⟨z1, m1, k1, e2⟩ := rv_form r1
 subst e2
 obtain ⟨z2, m2, k2, e3⟩ := rv_form r2
 subst e3
 obtain ⟨z3, m3, k3, e4⟩ := rv_form h1_
 subst e4
 have e5 := Mind.inv h2_
 subst e5
 refine calls_enter (n := 39) (vs := [(Value.agg #[(Value.slice z1 m1 k1), (Value.slice z2 m2 k2)]), (Value.slice z3 m3 k3), (Value.agg #[(Value.int .i64 (a2.Memory)), (Value.int .i64 (a2.Turn))]), (Value.int .i64 (a3))]) Try.func45 rfl rfl rfl ?_
 refine wp_seq' ?_
 refine wp_region' ?_
 refine wl_op rfl (op_box (v := (Value.agg #[(Value.slice z1 m1 k1), (Value.slice z2 m2 k2)])) rfl hI rfl (fun g1 w1 I1 => ?_))
 obtain ⟨S1, le1, I2, p1⟩ := Inv.boxFreeze (x := a0) I1 (Graph.rv (s := a0) r1 r2)
 refine wl_op rfl (op_box (v := (Value.agg #[(Value.int .i64 (a2.Memory)), (Value.int .i64 (a2.Turn))])) rfl I2 rfl (fun g2 w2 I3 => ?_))
 obtain ⟨S2, le2, I4, p2⟩ := Inv.boxFreeze (x := a2) I3 (Mind.rv (s := a2))
 refine wl_op rfl (op_alloc (z := (Value.agg #[(Value.slice none 0 0), (Value.slice none 0 0)])) rfl I4 zo64 (fun g3 w3 (I5 : Inv w3 S2 (Cells g3 64 #[(Value.slice none 0 0), (Value.slice none 0 0)] :: Fr)) => ?_))
 refine wl_op rfl (op_assign (v := (Value.int .i64 (0))) rfl rfl ?_)
 refine wl_nil ?_
 refine wp_seq' ?_
 refine wp_region' ?_
 refine wl_op rfl (op_load (v := (Value.pointer (some ⟨g1, 0, none⟩))) (e := a0) rfl sh25 rfl ((p1.mono le2).at_ I5) (fun u1 hu1 => ?_))
 obtain ⟨c3, c4, e6, r3, r4⟩ := Graph.inv hu1
 subst e6
 obtain ⟨z4, m4, k4, e7⟩ := rv_form r3
 subst e7
 obtain ⟨z5, m5, k5, e8⟩ := rv_form r4
 subst e8
 refine wl_op rfl (op_move (v := (Value.slice z3 m3 k3)) rfl rfl ?_)
 obtain ⟨x1, hx1, h⟩ := bnd h
 refine wl_op rfl (op_call (vs := [(Value.agg #[(Value.slice z4 m4 k4), (Value.slice z5 m5 k5)]), (Value.slice z3 m3 k3)]) rfl ca57 rfl (args2 rfl rfl) (F57_ok I5 (Graph.rv (s := a0) r3 r4) (h1_.mono (le1.trans le2)) hx1) (fun v1 w4 S3 O1 le3 I6 hv1 => ?_))
 obtain ⟨c5, rfl, rfl, r5⟩ := hv1
 obtain ⟨c6, c7, e9, r6, r7⟩ := Search_view.inv r5
 subst e9
 obtain ⟨z6, m6, k6, e10⟩ := rv_form r6
 subst e10
 obtain ⟨z7, m7, k7, e11⟩ := rv_form r7
 subst e11
 refine wl_op rfl (op_move (v := (Value.tuple #[(Value.agg #[(Value.slice z6 m6 k6), (Value.slice z7 m7 k7)]), (Value.int .i64 (x1.2))])) rfl rfl ?_)
 refine wl_op rfl (op_extract (v := (Value.agg #[(Value.slice z6 m6 k6), (Value.slice z7 m7 k7)])) rfl rfl rfl ?_)
 refine wl_op rfl (op_extract (v := (Value.int .i64 (x1.2))) rfl rfl rfl ?_)
 refine wl_op rfl (op_alloc (z := (Value.agg #[(Value.slice none 0 0), (Value.slice none 0 0)])) rfl I6 zo64 (fun g4 w5 (I7 : Inv w5 S3 (Cells g4 64 #[(Value.slice none 0 0), (Value.slice none 0 0)] :: Cells g3 64 #[(Value.slice none 0 0), (Value.slice none 0 0)] :: Fr)) => ?_))
 refine wl_op rfl (op_store (v := (Value.agg #[(Value.slice z6 m6 k6), (Value.slice z7 m7 k7)])) (cs := #[(Value.slice none 0 0), (Value.slice none 0 0)]) sh64 I7 rfl rfl rfl (Nat.le_of_ble_eq_true rfl) rfl (fun w6 (I8 : Inv w6 S3 (Cells g4 64 #[(Value.slice z6 m6 k6), (Value.slice z7 m7 k7)] :: Cells g3 64 #[(Value.slice none 0 0), (Value.slice none 0 0)] :: Fr)) => ?_))
 refine wl_op rfl (op_assign (v := (Value.int .i64 (x1.2))) rfl rfl ?_)
 refine wl_nil ?_
 refine wp_seq' ?_
 refine wp_seq' ?_
 refine wp_region' ?_
 refine wl_op rfl (op_move (v := (Value.int .i64 (x1.2))) rfl rfl ?_)
 refine wl_op rfl (op_neq (a := x1.2) (b := 0) rfl rfl rfl ?_)
 refine wl_nil ?_
 rcases ifs h with ⟨hc1, h⟩ | ⟨hc1, h⟩
 ·
  refine wp_cond_t (b := x1.2 != 0) rfl hc1 ?_
  refine wp_seq' ?_
  refine wp_region' ?_
  refine wl_op rfl (op_loadN (l := [(Value.slice z6 m6 k6), (Value.slice z7 m7 k7)]) rfl sh64 (I8.nth 0 rfl) rfl rfl rfl ?_)
  refine wl_op rfl (op_move (v := (Value.int .i64 (x1.2))) rfl rfl ?_)
  refine wl_op rfl (op_store (v := (Value.agg #[(Value.slice z6 m6 k6), (Value.slice z7 m7 k7)])) (cs := #[(Value.slice none 0 0), (Value.slice none 0 0)]) sh64 (I8.pull 1) rfl rfl rfl (Nat.le_of_ble_eq_true rfl) rfl (fun w7 (I9 : Inv w7 S3 (Cells g3 64 #[(Value.slice z6 m6 k6), (Value.slice z7 m7 k7)] :: Cells g4 64 #[(Value.slice z6 m6 k6), (Value.slice z7 m7 k7)] :: Fr)) => ?_))
  refine wl_op rfl (op_assign (v := (Value.int .i64 (x1.2))) rfl rfl ?_)
  refine wl_nil ?_
  refine wp_ret' ?_
  obtain rfl := Option.some.inj h
  exact ⟨(Value.tuple #[(Value.agg #[(Value.slice z6 m6 k6), (Value.slice z7 m7 k7)]), (Value.int .i64 (x1.2))]), (res2c (cs := #[(Value.slice z6 m6 k6), (Value.slice z7 m7 k7)]) rfl rfl sh64 I9 rfl), _, [], ((le1.trans le2).trans le3), ((I9).drop).drop, _, rfl, rfl, (Search_view.rv (s := x1.1) r6 r7)⟩
 ·
  refine wp_cond_f (b := x1.2 != 0) rfl hc1 ?_
  refine wp_skip' ?_
  refine wp_seq' ?_
  refine wp_seq' ?_
  refine wp_region' ?_
  refine wl_op rfl (op_fieldAddr_t (v := (Value.pointer (some ⟨g2, 0, none⟩))) rfl fa28_0 rfl ((p2.mono le3).at_ I8) ?_)
  refine wl_op rfl (op_load_int (v := (fieldPtr (Value.pointer (some ⟨g2, 0, none⟩)) 0)) (e := a2.Memory) rfl sh3 rfl (((p2.mono le3).at_ I8).fld Mind.fld0) ?_)
  obtain ⟨x2, hx2, h⟩ := bnd h
  refine wl_op rfl (op_call_v (vs := [(Value.int .i64 (a2.Memory)), (Value.int .i64 (0)), (Value.int .i64 (200))]) (r := (Value.bool (x2))) rfl ca61 rfl (args3 rfl rfl rfl) I8 (fun Fr_ hF_ => F61_ok hF_  hx2) (fun w8 I10 => ?_))
  refine wl_op rfl (op_not (b := x2) rfl rfl ?_)
  refine wl_op rfl (op_move (v := (Value.bool (!x2))) rfl rfl ?_)
  rcases ifs h with ⟨hc2, h⟩ | ⟨hc2, h⟩
  ·
   refine wl_skip (c := !x2) rfl rfl rfl rfl hc2 rfl ?_
   refine wl_skip (c := !x2) rfl rfl rfl rfl hc2 rfl ?_
   refine wl_skip (c := !x2) rfl rfl rfl rfl hc2 rfl ?_
   refine wl_skip (c := !x2) rfl rfl rfl rfl hc2 rfl ?_
   refine wl_op rfl (op_pick_t (c := !x2) (a := (Value.bool (true))) rfl rfl hc2 rfl ?_)
   refine wl_op rfl (op_move (v := (Value.bool (true))) rfl rfl ?_)
   refine wl_skip (c := true) rfl rfl rfl rfl rfl rfl ?_
   refine wl_skip (c := true) rfl rfl rfl rfl rfl rfl ?_
   refine wl_skip (c := true) rfl rfl rfl rfl rfl rfl ?_
   refine wl_op rfl (op_pick_t (c := true) (a := (Value.bool (true))) rfl rfl rfl rfl ?_)
   refine wl_nil ?_
   refine wp_cond_t (b := true) rfl rfl ?_
   refine wp_seq' ?_
   refine wp_region' ?_
   refine wl_op rfl (op_loadN (l := [(Value.slice z6 m6 k6), (Value.slice z7 m7 k7)]) rfl sh64 (I10.nth 0 rfl) rfl rfl rfl ?_)
   refine wl_op rfl (op_store (v := (Value.agg #[(Value.slice z6 m6 k6), (Value.slice z7 m7 k7)])) (cs := #[(Value.slice none 0 0), (Value.slice none 0 0)]) sh64 (I10.pull 1) rfl rfl rfl (Nat.le_of_ble_eq_true rfl) rfl (fun w9 (I11 : Inv w9 S3 (Cells g3 64 #[(Value.slice z6 m6 k6), (Value.slice z7 m7 k7)] :: Cells g4 64 #[(Value.slice z6 m6 k6), (Value.slice z7 m7 k7)] :: Fr)) => ?_))
   refine wl_op rfl (op_assign (v := (Value.int .i64 (1))) rfl rfl ?_)
   refine wl_nil ?_
   refine wp_ret' ?_
   obtain rfl := Option.some.inj h
   exact ⟨(Value.tuple #[(Value.agg #[(Value.slice z6 m6 k6), (Value.slice z7 m7 k7)]), (Value.int .i64 (1))]), (res2c (cs := #[(Value.slice z6 m6 k6), (Value.slice z7 m7 k7)]) rfl rfl sh64 I11 rfl), _, [], ((le1.trans le2).trans le3), ((I11).drop).drop, _, rfl, rfl, (Search_view.rv (s := x1.1) r6 r7)⟩
  ·
   refine wl_taken (c := !x2) rfl rfl rfl rfl hc2 (op_fieldAddr_t (v := (Value.pointer (some ⟨g2, 0, none⟩))) rfl fa28_1 rfl ((p2.mono le3).at_ I10) ?_)
   refine wl_taken (c := !x2) rfl rfl rfl rfl hc2 (op_load_int (v := (fieldPtr (Value.pointer (some ⟨g2, 0, none⟩)) 1)) (e := a2.Turn) rfl sh3 rfl (((p2.mono le3).at_ I10).fld Mind.fld1) ?_)
   obtain ⟨x3, hx3, h⟩ := bnd h
   refine wl_taken (c := !x2) rfl rfl rfl rfl hc2 (op_call_v (vs := [(Value.int .i64 (a2.Turn)), (Value.int .i64 (0)), (Value.int .i64 (99))]) (r := (Value.bool (x3))) rfl ca61 rfl (args3 rfl rfl rfl) I10 (fun Fr_ hF_ => F61_ok hF_  hx3) (fun w10 I12 => ?_))
   refine wl_taken (c := !x2) rfl rfl rfl rfl hc2 (op_not (b := x3) rfl rfl ?_)
   refine wl_op rfl (op_pick_f (c := !x2) (b := (Value.bool (!x3))) rfl rfl hc2 rfl ?_)
   refine wl_op rfl (op_move (v := (Value.bool (!x3))) rfl rfl ?_)
   rcases ifs h with ⟨hc3, h⟩ | ⟨hc3, h⟩
   ·
    refine wl_skip (c := !x3) rfl rfl rfl rfl hc3 rfl ?_
    refine wl_skip (c := !x3) rfl rfl rfl rfl hc3 rfl ?_
    refine wl_skip (c := !x3) rfl rfl rfl rfl hc3 rfl ?_
    refine wl_op rfl (op_pick_t (c := !x3) (a := (Value.bool (true))) rfl rfl hc3 rfl ?_)
    refine wl_nil ?_
    refine wp_cond_t (b := true) rfl rfl ?_
    refine wp_seq' ?_
    refine wp_region' ?_
    refine wl_op rfl (op_loadN (l := [(Value.slice z6 m6 k6), (Value.slice z7 m7 k7)]) rfl sh64 (I12.nth 0 rfl) rfl rfl rfl ?_)
    refine wl_op rfl (op_store (v := (Value.agg #[(Value.slice z6 m6 k6), (Value.slice z7 m7 k7)])) (cs := #[(Value.slice none 0 0), (Value.slice none 0 0)]) sh64 (I12.pull 1) rfl rfl rfl (Nat.le_of_ble_eq_true rfl) rfl (fun w11 (I13 : Inv w11 S3 (Cells g3 64 #[(Value.slice z6 m6 k6), (Value.slice z7 m7 k7)] :: Cells g4 64 #[(Value.slice z6 m6 k6), (Value.slice z7 m7 k7)] :: Fr)) => ?_))
    refine wl_op rfl (op_assign (v := (Value.int .i64 (1))) rfl rfl ?_)
    refine wl_nil ?_
    refine wp_ret' ?_
    obtain rfl := Option.some.inj h
    exact ⟨(Value.tuple #[(Value.agg #[(Value.slice z6 m6 k6), (Value.slice z7 m7 k7)]), (Value.int .i64 (1))]), (res2c (cs := #[(Value.slice z6 m6 k6), (Value.slice z7 m7 k7)]) rfl rfl sh64 I13 rfl), _, [], ((le1.trans le2).trans le3), ((I13).drop).drop, _, rfl, rfl, (Search_view.rv (s := x1.1) r6 r7)⟩
   ·
    refine wl_taken (c := !x3) rfl rfl rfl rfl hc3 (op_move (v := (Value.int .i64 (a3))) rfl rfl ?_)
    obtain ⟨x4, hx4, h⟩ := bnd h
    refine wl_taken (c := !x3) rfl rfl rfl rfl hc3 (op_call_v (vs := [(Value.int .i64 (a3)), (Value.int .i64 (0)), (Value.int .i64 (2000))]) (r := (Value.bool (x4))) rfl ca61 rfl (args3 rfl rfl rfl) I12 (fun Fr_ hF_ => F61_ok hF_  hx4) (fun w12 I14 => ?_))
    refine wl_taken (c := !x3) rfl rfl rfl rfl hc3 (op_not (b := x4) rfl rfl ?_)
    refine wl_op rfl (op_pick_f (c := !x3) (b := (Value.bool (!x4))) rfl rfl hc3 rfl ?_)
    refine wl_nil ?_
    rcases ifs h with ⟨hc4, h⟩ | ⟨hc4, h⟩
    ·
     refine wp_cond_t (b := !x4) rfl hc4 ?_
     refine wp_seq' ?_
     refine wp_region' ?_
     refine wl_op rfl (op_loadN (l := [(Value.slice z6 m6 k6), (Value.slice z7 m7 k7)]) rfl sh64 (I14.nth 0 rfl) rfl rfl rfl ?_)
     refine wl_op rfl (op_store (v := (Value.agg #[(Value.slice z6 m6 k6), (Value.slice z7 m7 k7)])) (cs := #[(Value.slice none 0 0), (Value.slice none 0 0)]) sh64 (I14.pull 1) rfl rfl rfl (Nat.le_of_ble_eq_true rfl) rfl (fun w13 (I15 : Inv w13 S3 (Cells g3 64 #[(Value.slice z6 m6 k6), (Value.slice z7 m7 k7)] :: Cells g4 64 #[(Value.slice z6 m6 k6), (Value.slice z7 m7 k7)] :: Fr)) => ?_))
     refine wl_op rfl (op_assign (v := (Value.int .i64 (1))) rfl rfl ?_)
     refine wl_nil ?_
     refine wp_ret' ?_
     obtain rfl := Option.some.inj h
     exact ⟨(Value.tuple #[(Value.agg #[(Value.slice z6 m6 k6), (Value.slice z7 m7 k7)]), (Value.int .i64 (1))]), (res2c (cs := #[(Value.slice z6 m6 k6), (Value.slice z7 m7 k7)]) rfl rfl sh64 I15 rfl), _, [], ((le1.trans le2).trans le3), ((I15).drop).drop, _, rfl, rfl, (Search_view.rv (s := x1.1) r6 r7)⟩
    ·
     refine wp_cond_f (b := !x4) rfl hc4 ?_
     refine wp_skip' ?_
     refine wp_seq' ?_
     refine wp_region' ?_
     refine wl_op rfl (op_loadN (l := [(Value.slice z6 m6 k6), (Value.slice z7 m7 k7)]) rfl sh64 (I14.nth 0 rfl) rfl rfl rfl ?_)
     refine wl_op rfl (op_store (v := (Value.agg #[(Value.slice z6 m6 k6), (Value.slice z7 m7 k7)])) (cs := #[(Value.slice none 0 0), (Value.slice none 0 0)]) sh64 (I14.pull 1) rfl rfl rfl (Nat.le_of_ble_eq_true rfl) rfl (fun w14 (I16 : Inv w14 S3 (Cells g3 64 #[(Value.slice z6 m6 k6), (Value.slice z7 m7 k7)] :: Cells g4 64 #[(Value.slice z6 m6 k6), (Value.slice z7 m7 k7)] :: Fr)) => ?_))
     refine wl_op rfl (op_assign (v := (Value.int .i64 (0))) rfl rfl ?_)
     refine wl_nil ?_
     refine wp_ret' ?_
     obtain rfl := Option.some.inj h
     exact ⟨(Value.tuple #[(Value.agg #[(Value.slice z6 m6 k6), (Value.slice z7 m7 k7)]), (Value.int .i64 (0))]), (res2c (cs := #[(Value.slice z6 m6 k6), (Value.slice z7 m7 k7)]) rfl rfl sh64 I16 rfl), _, [], ((le1.trans le2).trans le3), ((I16).drop).drop, _, rfl, rfl, (Search_view.rv (s := x1.1) r6 r7)⟩

set_option maxHeartbeats 4000000 in
set_option maxRecDepth 100000 in
theorem F90_ok {w : World} {S : PH} {Fr : List HP} {a0 : (List Search_gone)} {v0 : Value} {a1 : Search_gone} {v1 : Value} {r : Int} (hI : Inv w S (Fr)) (h0_ : RV S v0 a0) (h1_ : RV S v1 a1) (h : F90 a0 a1 = some r) :
    Calls Try.prog 90 [v0, v1].toArray w (DoneV S Fr (Value.int .i64 (r))) := by
 unfold F90 at h
 obtain ⟨z1, m1, k1, e1⟩ := rv_form h0_
 subst e1
 have e2 := Search_gone.inv h1_
 subst e2
 refine calls_enter (n := 19) (vs := [(Value.slice z1 m1 k1), (Value.agg #[(Value.int .i64 (a1.position)), (Value.int .i64 (a1.edge))])]) Try.func90 rfl rfl rfl ?_
 refine wp_seq' ?_
 refine wp_region' ?_
 refine wl_op rfl (op_box (v := (Value.agg #[(Value.int .i64 (a1.position)), (Value.int .i64 (a1.edge))])) rfl hI rfl (fun g1 w1 I1 => ?_))
 obtain ⟨S1, le1, I2, p1⟩ := Inv.boxFreeze (x := a1) I1 (Search_gone.rv (s := a1))
 refine wl_op rfl (op_assign (v := (Value.int .i64 (0))) rfl rfl ?_)
 refine wl_nil ?_
 refine wp_seq' ?_
 refine wp_seq' ?_
 refine wp_region' ?_
 refine wl_op rfl (op_move (v := (Value.slice z1 m1 k1)) rfl rfl ?_)
 refine wl_op rfl (op_len_rv rfl Try.underlying89 rfl (h0_.mono le1) ?_)
 refine wl_op rfl (op_move (v := (Value.int .i64 (0))) rfl rfl ?_)
 refine wl_nil ?_
 have hk1 : a0.length ≤ 9223372036854775807 := (rv_len h0_)
 obtain ⟨o2, hrun1, h⟩ := bnd h
 refine wp_cutN (fun f w => ∃ out1, o2 = Sum.inl out1 ∧ ∃ (S_ : PH), S1.Le S_ ∧ Inv w S_ (Fr) ∧ f 0 = (Value.slice z1 m1 k1) ∧ f 3 = (Value.pointer (some ⟨g1, 0, none⟩)) ∧ f 7 = (Value.int .i64 ((a0.length : Int)))) ?_ ?_
 ·
  refine wp_block' ?_
  refine wp_forN (I := fun (i1 : Nat) (s1 : Unit) (f : Frm) (w : World) => ∃ (S_ : PH), S1.Le S_ ∧ Inv w S_ (Fr) ∧ f 0 = (Value.slice z1 m1 k1) ∧ f 3 = (Value.pointer (some ⟨g1, 0, none⟩)) ∧ f 7 = (Value.int .i64 ((a0.length : Int))) ∧ f 8 = (Value.int .i64 (i1 : Int))) hrun1 ⟨_, (PH.Le.refl _), I2, rfl, rfl, rfl, rfl⟩ ?_ ?_
  ·
   rintro i1 s1 f w o1 hlt1 hI22 h1 hout1
   obtain ⟨S25, le25, I27, e36, e37, e38, e39⟩ := hI22
   refine wp_seq' ?_
   refine wp_region' ?_
   refine wl_op rfl (op_lss (a := (i1 : Int)) (b := (a0.length : Int)) rfl e39 e38 ?_)
   refine wl_nil ?_
   refine wp_seq' ?_
   refine wp_cond_t (b := decide ((i1 : Int) < (a0.length : Int))) rfl (len_t hlt1) ?_
   refine wp_skip' ?_
   refine wp_seq' ?_
   refine wp_block' ?_
   refine wp_seq' ?_
   refine wp_region' ?_
   refine wl_op rfl (op_move (v := (Value.int .i64 ((i1 : Int)))) rfl e39 ?_)
   refine wl_op rfl (op_assign (v := (Value.int .i64 ((i1 : Int)))) rfl rfl ?_)
   refine wl_nil ?_
   refine wp_seq' ?_
   obtain ⟨x4, hx4, h1⟩ := bnd h1
   refine wp_draw (sps := [⟨some 11, [], [0], fun vs_ T_ => fr0 vs_ 0 = (Value.agg #[(Value.int .i64 (a1.position)), (Value.int .i64 (a1.edge))]), [], [], [], fun _ h_ => h_⟩, ⟨some 12, [], [1], fun vs_ T_ => fr0 vs_ 0 = (Value.slice z1 m1 k1), [], [], [], fun _ h_ => h_⟩, ⟨some 13, [], [2], fun vs_ T_ => fr0 vs_ 0 = (Value.int .i64 ((i1 : Int))), [], [], [], fun _ h_ => h_⟩, ⟨some 14, [1, 2], [3], fun vs_ T_ => fr0 vs_ 0 = (elemPtr (Value.slice z1 m1 k1) ((i1 : Int)) (Enc.sz Search_gone)), [], [], [], fun _ h_ => h_⟩, ⟨some 15, [1, 2, 3], [4], fun vs_ T_ => fr0 vs_ 0 = (Value.agg #[(Value.int .i64 (x4.position)), (Value.int .i64 (x4.edge))]), [], [], [], fun _ h_ => h_⟩, ⟨some 16, [0, 1, 2, 3, 4], [5], fun vs_ T_ => fr0 vs_ 0 = (Value.bool (decide (a1 = x4))), [], [], [], fun _ h_ => h_⟩]) (tks := []) (O := Fr) rfl (by kernel_rfl) I27 ⟨?_, ?_, ?_, ?_, ?_, ?_, trivial⟩ ?_
   ·
    intro vs22 f w23 S26 X19 le26 hA19 hK22 hI23
    have I28 : Inv w23 S26 (X19) := hI23
    refine opg_plain rfl rfl (op_load (v := (Value.pointer (some ⟨g1, 0, none⟩))) (e := a1) rfl sh103 ((hK22 3 (keep_of rfl)).trans e37) ((p1.mono (le25.trans le26)).at_ I28) (fun u15 hu15 => ?_))
    have e40 := Search_gone.inv hu15
    subst e40
    refine ⟨_, _, rfl, PH.Le.refl _, ?_, ?_⟩
    ·
     exact rfl
    ·
     exact I28
   ·
    intro vs23 f w24 S27 X20 le27 hA20 hK23 hI24
    have I29 : Inv w24 S27 (X20) := hI24
    refine opg_plain rfl rfl (op_move (v := (Value.slice z1 m1 k1)) rfl ((hK23 0 (keep_of rfl)).trans e36) ?_)
    refine ⟨_, _, rfl, PH.Le.refl _, ?_, ?_⟩
    ·
     exact rfl
    ·
     exact I29
   ·
    intro vs24 f w25 S28 X21 le28 hA21 hK24 hI25
    have I30 : Inv w25 S28 (X21) := hI25
    refine opg_plain rfl rfl (op_move (v := (Value.int .i64 ((i1 : Int)))) rfl (hK24 5 (keep_of rfl)) ?_)
    refine ⟨_, _, rfl, PH.Le.refl _, ?_, ?_⟩
    ·
     exact rfl
    ·
     exact I30
   ·
    intro vs25 f w26 S29 X22 le29 hA22 hK25 hI26
    have I31 : Inv w26 S29 (X22) := hI26
    have q19 : f 12 = (Value.slice z1 m1 k1) := vt (hA22.at_ 0 rfl _ rfl) rfl
    have q20 : f 13 = (Value.int .i64 ((i1 : Int))) := vt (hA22.at_ 1 rfl _ rfl) rfl
    refine opg_plain rfl rfl (op_indexAddr_rv (v := (Value.slice z1 m1 k1)) (i := (i1 : Int)) (e := x4) rfl Try.underlying89 sh103 q19 (h0_.mono ((le1.trans le25).trans le29)) q20 hx4 ?_)
    refine ⟨_, _, rfl, PH.Le.refl _, ?_, ?_⟩
    ·
     exact rfl
    ·
     exact I31
   ·
    intro vs26 f w27 S30 X23 le30 hA23 hK26 hI27
    have I32 : Inv w27 S30 (X23) := hI27
    have q21 : f 14 = (elemPtr (Value.slice z1 m1 k1) ((i1 : Int)) (Enc.sz Search_gone)) := vt (hA23.at_ 2 rfl _ rfl) rfl
    refine opg_plain rfl rfl (op_load (v := (elemPtr (Value.slice z1 m1 k1) ((i1 : Int)) (Enc.sz Search_gone))) (e := x4) rfl sh103 q21 ((h0_.mono ((le1.trans le25).trans le30)).elem I32.in_ hx4) (fun u16 hu16 => ?_))
    have e41 := Search_gone.inv hu16
    subst e41
    refine ⟨_, _, rfl, PH.Le.refl _, ?_, ?_⟩
    ·
     exact rfl
    ·
     exact I32
   ·
    intro vs27 f w28 S31 X24 le31 hA24 hK27 hI28
    have I33 : Inv w28 S31 (X24) := hI28
    have q22 : f 11 = (Value.agg #[(Value.int .i64 (a1.position)), (Value.int .i64 (a1.edge))]) := vt (hA24.at_ 0 rfl _ rfl) rfl
    have q23 : f 15 = (Value.agg #[(Value.int .i64 (x4.position)), (Value.int .i64 (x4.edge))]) := vt (hA24.at_ 4 rfl _ rfl) rfl
    refine opg_plain rfl rfl (op_seql (S := S31) (a := a1) (b := x4) (v := (Value.agg #[(Value.int .i64 (a1.position)), (Value.int .i64 (a1.edge))])) (u := (Value.agg #[(Value.int .i64 (x4.position)), (Value.int .i64 (x4.edge))])) rfl kt103 rfl (by kernel_rfl) q22 q23 (Search_gone.rv (s := a1)) (Search_gone.rv (s := x4)) ?_)
    refine ⟨_, _, rfl, PH.Le.refl _, ?_, ?_⟩
    ·
     exact rfl
    ·
     exact I33
   ·
    intro vs28 f w29 S32 le32 hF4 hK28 hI29
    have e42 : f 0 = (Value.slice z1 m1 k1) := (hK28 0 (keep_all rfl)).trans e36
    have e43 : f 3 = (Value.pointer (some ⟨g1, 0, none⟩)) := (hK28 3 (keep_all rfl)).trans e37
    have e44 : f 5 = (Value.int .i64 ((i1 : Int))) := (hK28 5 (keep_all rfl)).trans rfl
    have e45 : f 7 = (Value.int .i64 ((a0.length : Int))) := (hK28 7 (keep_all rfl)).trans e38
    have e46 : f 8 = (Value.int .i64 ((i1 : Int))) := (hK28 8 (keep_all rfl)).trans e39
    have I34 : Inv w29 S32 (Fr) := hI29
    have q24 : f 16 = (Value.bool (decide (a1 = x4))) := vt (hF4.at_ 5 rfl _ rfl) rfl
    rcases ifs h1 with ⟨hc4, h1⟩ | ⟨hc4, h1⟩
    ·
     refine wp_cond_t (b := decide (a1 = x4)) q24 hc4 ?_
     refine wp_seq' ?_
     refine wp_region' ?_
     refine wl_op rfl (op_move (v := (Value.int .i64 ((i1 : Int)))) rfl e44 ?_)
     refine wl_op rfl (op_assign (v := (Value.int .i64 ((i1 : Int)))) rfl rfl ?_)
     refine wl_nil ?_
     refine wp_ret' ?_
     obtain rfl := Option.some.inj h1
     obtain rfl := (hout1 _ rfl)
     have h2 := h
     obtain rfl := Option.some.inj h2
     exact ⟨(Value.int .i64 ((i1 : Int))), (res1 rfl rfl), _, [], ((le1.trans le25).trans le32), I34, rfl, rfl⟩
    ·
     refine wp_cond_f (b := decide (a1 = x4)) q24 hc4 ?_
     refine wp_skip' ?_
     refine wp_region' ?_
     refine wl_op rfl (op_add (a := (i1 : Int)) (b := 1) rfl e46 rfl ?_)
     refine wl_op rfl (op_move (v := (Value.int .i64 (w64 ((i1 : Int) + 1)))) rfl rfl ?_)
     refine wl_nil ?_
     obtain rfl := Option.some.inj h1
     exact ⟨_, rfl, _, (le25.trans le32), I34, e42, e43, e45, (idx_next hlt1 hk1)⟩
  ·
   rintro s2 f w hs1 hI30
   obtain ⟨S33, le33, I35, e47, e48, e49, e50⟩ := hI30
   refine wp_seq' ?_
   refine wp_region' ?_
   refine wl_op rfl (op_lss (a := (a0.length : Int)) (b := (a0.length : Int)) rfl e50 e49 ?_)
   refine wl_nil ?_
   refine wp_seq' ?_
   refine wp_cond_f (b := decide ((a0.length : Int) < (a0.length : Int))) rfl (len_f _) ?_
   refine wp_exit' ?_
   exact ⟨s2, hs1, _, le33, I35, e47, e48, e49⟩
 ·
  rintro f w ⟨out1, rfl, S34, le34, I36, e51, e52, e53⟩
  have h := onL_inl h
  refine wp_seq' ?_
  refine wp_region' ?_
  refine wl_op rfl (op_assign (v := (Value.int .i64 ((-1)))) rfl rfl ?_)
  refine wl_nil ?_
  refine wp_ret' ?_
  obtain rfl := Option.some.inj h
  exact ⟨(Value.int .i64 ((-1))), (res1 rfl rfl), _, [], (le1.trans le34), I36, rfl, rfl⟩

set_option maxHeartbeats 4000000 in
set_option maxRecDepth 100000 in
theorem F89_ok {w : World} {S : PH} {Fr : List HP} {a0 : (List Search_gone)} {v0 : Value} {a1 : Search_gone} {v1 : Value} {r : Bool} (hI : Inv w S (Fr)) (h0_ : RV S v0 a0) (h1_ : RV S v1 a1) (h : F89 a0 a1 = some r) :
    Calls Try.prog 89 [v0, v1].toArray w (DoneV S Fr (Value.bool (r))) := by
 unfold F89 at h
 obtain ⟨z1, m1, k1, e1⟩ := rv_form h0_
 subst e1
 have e2 := Search_gone.inv h1_
 subst e2
 refine calls_enter (n := 9) (vs := [(Value.slice z1 m1 k1), (Value.agg #[(Value.int .i64 (a1.position)), (Value.int .i64 (a1.edge))])]) Try.func89 rfl rfl rfl ?_
 refine wp_seq' ?_
 refine wp_region' ?_
 refine wl_op rfl (op_box (v := (Value.agg #[(Value.int .i64 (a1.position)), (Value.int .i64 (a1.edge))])) rfl hI rfl (fun g1 w1 I1 => ?_))
 obtain ⟨S1, le1, I2, p1⟩ := Inv.boxFreeze (x := a1) I1 (Search_gone.rv (s := a1))
 refine wl_op rfl (op_assign (v := (Value.bool (false))) rfl rfl ?_)
 refine wl_nil ?_
 refine wp_seq' ?_
 refine wp_region' ?_
 refine wl_op rfl (op_move (v := (Value.slice z1 m1 k1)) rfl rfl ?_)
 refine wl_op rfl (op_load (v := (Value.pointer (some ⟨g1, 0, none⟩))) (e := a1) rfl sh103 rfl (p1.at_ I2) (fun u1 hu1 => ?_))
 have e3 := Search_gone.inv hu1
 subst e3
 obtain ⟨x1, hx1, h⟩ := bnd h
 refine wl_op rfl (op_call_v (vs := [(Value.slice z1 m1 k1), (Value.agg #[(Value.int .i64 (a1.position)), (Value.int .i64 (a1.edge))])]) (r := (Value.int .i64 (x1))) rfl ca90 rfl (args2 rfl rfl) I2 (fun Fr_ hF_ => F90_ok hF_ (h0_.mono le1) (Search_gone.rv (s := a1)) hx1) (fun w2 I3 => ?_))
 refine wl_op rfl (op_geq (a := x1) (b := 0) rfl rfl rfl ?_)
 refine wl_op rfl (op_assign (v := (Value.bool (decide (0 ≤ x1)))) rfl rfl ?_)
 refine wl_nil ?_
 refine wp_ret' ?_
 obtain rfl := Option.some.inj h
 exact ⟨(Value.bool (decide (0 ≤ x1))), (res1 rfl rfl), _, [], le1, I3, rfl, rfl⟩

set_option maxHeartbeats 4000000 in
set_option maxRecDepth 100000 in
theorem F86_ok {w : World} {S : PH} {Fr : List HP} {a0 : Search_player} {v0 : Value} {a1 : Int} {a2 : Int} {r : Bool} (hI : Inv w S (Fr)) (h0_ : PtS S v0 a0) (h : F86 a0 a1 a2 = some r) :
    Calls Try.prog 86 [v0, (Value.int .i64 (a1)), (Value.int .i64 (a2))].toArray w (DoneV S Fr (Value.bool (r))) := by
 unfold F86 at h
 refine calls_enter (n := 15) (vs := [v0, (Value.int .i64 (a1)), (Value.int .i64 (a2))]) Try.func86 rfl rfl rfl ?_
 refine wp_seq' ?_
 refine wp_region' ?_
 refine wl_op rfl (op_assign (v := (Value.bool (false))) rfl rfl ?_)
 refine wl_nil ?_
 refine wp_seq' ?_
 refine wp_region' ?_
 refine wl_op rfl (op_move (v := v0) rfl rfl ?_)
 refine wl_op rfl (op_nilCheck_s (v := v0) rfl rfl h0_ ?_)
 refine wl_op rfl (op_fieldAddr_t (v := v0) rfl fa91_3 rfl (h0_.at_ hI) ?_)
 refine wl_op rfl (op_load (v := (fieldPtr v0 5)) (e := a0.memory) rfl sh89 rfl ((h0_.at_ hI).fld Search_player.fld3) (fun u1 hu1 => ?_))
 obtain ⟨z1, m1, k1, e1⟩ := rv_form hu1
 subst e1
 refine wl_op rfl (op_move (v := (Value.int .i64 (a1))) rfl rfl ?_)
 refine wl_op rfl (op_move (v := (Value.int .i64 (a2))) rfl rfl ?_)
 refine wl_op rfl (op_build (qs := [(0, #[(Value.int .i64 (a1))]), (1, #[(Value.int .i64 (a2))])]) (c := #[(Value.int .i64 (a1)), (Value.int .i64 (a2))]) rfl st103 ⟨rfl, rfl, ⟨rfl, rfl, trivial⟩⟩ rfl ?_)
 obtain ⟨x1, hx1, h⟩ := bnd h
 refine wl_op rfl (op_call_v (vs := [(Value.slice z1 m1 k1), (Value.agg #[(Value.int .i64 (a1)), (Value.int .i64 (a2))])]) (r := (Value.bool (x1))) rfl ca89 rfl (args2 rfl rfl) hI (fun Fr_ hF_ => F89_ok hF_ hu1 (Search_gone.rv (s := (⟨a1, a2⟩ : Search_gone))) hx1) (fun w1 I1 => ?_))
 refine wl_op rfl (op_assign (v := (Value.bool (x1))) rfl rfl ?_)
 refine wl_nil ?_
 refine wp_ret' ?_
 obtain rfl := Option.some.inj h
 exact ⟨(Value.bool (x1)), (res1 rfl rfl), _, [], (PH.Le.refl _), I1, rfl, rfl⟩

set_option maxHeartbeats 4000000 in
set_option maxRecDepth 100000 in
theorem F80_ok {w : World} {S : PH} {Fr : List HP} {a0 : Search_player} {v0 : Value} {a1 : Int} {r : Int} (hI : Inv w S (Fr)) (h0_ : PtS S v0 a0) (h : F80 a0 a1 = some r) :
    Calls Try.prog 80 [v0, (Value.int .i64 (a1))].toArray w (DoneV S Fr (Value.int .i64 (r))) := by
 unfold F80 at h
 refine calls_enter (n := 39) (vs := [v0, (Value.int .i64 (a1))]) Try.func80 rfl rfl rfl ?_
 refine wp_seq' ?_
 refine wp_region' ?_
 refine wl_op rfl (op_assign (v := (Value.int .i64 (0))) rfl rfl ?_)
 refine wl_nil ?_
 refine wp_seq' ?_
 refine wp_region' ?_
 refine wl_op rfl (op_move (v := v0) rfl rfl ?_)
 refine wl_op rfl (op_nilCheck_s (v := v0) rfl rfl h0_ ?_)
 refine wl_op rfl (op_fieldAddr_t (v := v0) rfl fa91_0 rfl (h0_.at_ hI) ?_)
 refine wl_op rfl (op_fieldAddr_t (v := (fieldPtr v0 0)) rfl fa64_0 rfl ((h0_.at_ hI).fld Search_player.fld0) ?_)
 refine wl_op rfl (op_load (v := (fieldPtr (fieldPtr v0 0) 0)) (e := a0.view.edges) rfl sh23 rfl (((h0_.at_ hI).fld Search_player.fld0).fld Search_view.fld0) (fun u1 hu1 => ?_))
 obtain ⟨z1, m1, k1, e1⟩ := rv_form hu1
 subst e1
 refine wl_op rfl (op_move (v := (Value.int .i64 (a1))) rfl rfl ?_)
 obtain ⟨x1, hx1, h⟩ := bnd h
 refine wl_op rfl (op_indexAddr_rv (v := (Value.slice z1 m1 k1)) (i := a1) (e := x1) rfl Try.underlying23 sh40 rfl hu1 rfl hx1 ?_)
 refine wl_op rfl (op_load (v := (elemPtr (Value.slice z1 m1 k1) (a1) (Enc.sz (List Edge)))) (e := x1) rfl sh40 rfl (hu1.elem hI.in_ hx1) (fun u2 hu2 => ?_))
 obtain ⟨z2, m2, k2, e2⟩ := rv_form hu2
 subst e2
 refine wl_op rfl (op_len_rv rfl Try.underlying40 rfl hu2 ?_)
 refine wl_op rfl (op_assign (v := (Value.int .i64 ((x1.length : Int)))) rfl rfl ?_)
 refine wl_nil ?_
 refine wp_seq' ?_
 refine wp_seq' ?_
 refine wp_region' ?_
 refine wl_op rfl (op_move (v := (Value.int .i64 ((x1.length : Int)))) rfl rfl ?_)
 refine wl_op rfl (op_move (v := (Value.int .i64 (0))) rfl rfl ?_)
 refine wl_nil ?_
 have hk1 : x1.length ≤ 9223372036854775807 := (rv_len hu2)
 obtain ⟨o2, hrun1, h⟩ := bnd h
 refine wp_cutN (fun f w => ∃ out1, o2 = Sum.inl out1 ∧ Inv w S (Fr) ∧ f 0 = v0 ∧ f 1 = (Value.int .i64 (a1)) ∧ f 5 = (Value.int .i64 ((x1.length : Int))) ∧ f 17 = (Value.int .i64 ((x1.length : Int)))) ?_ ?_
 ·
  refine wp_block' ?_
  refine wp_forN (I := fun (i1 : Nat) (s1 : Unit) (f : Frm) (w : World) => Inv w S (Fr) ∧ f 0 = v0 ∧ f 1 = (Value.int .i64 (a1)) ∧ f 5 = (Value.int .i64 ((x1.length : Int))) ∧ f 17 = (Value.int .i64 ((x1.length : Int))) ∧ f 18 = (Value.int .i64 (i1 : Int))) hrun1 ⟨hI, rfl, rfl, rfl, rfl, rfl⟩ ?_ ?_
  ·
   rintro i1 s1 f w o1 hlt1 hI1 h1 hout1
   obtain ⟨I5, e13, e14, e15, e16, e17⟩ := hI1
   refine wp_seq' ?_
   refine wp_region' ?_
   refine wl_op rfl (op_lss (a := (i1 : Int)) (b := (x1.length : Int)) rfl e17 e16 ?_)
   refine wl_nil ?_
   refine wp_seq' ?_
   refine wp_cond_t (b := decide ((i1 : Int) < (x1.length : Int))) rfl (len_t hlt1) ?_
   refine wp_skip' ?_
   refine wp_seq' ?_
   refine wp_block' ?_
   refine wp_seq' ?_
   refine wp_region' ?_
   refine wl_op rfl (op_move (v := (Value.int .i64 ((i1 : Int)))) rfl e17 ?_)
   refine wl_op rfl (op_assign (v := (Value.int .i64 ((i1 : Int)))) rfl rfl ?_)
   refine wl_nil ?_
   refine wp_seq' ?_
   refine wp_region' ?_
   refine wl_op rfl (op_move (v := v0) rfl e13 ?_)
   refine wl_op rfl (op_nilCheck_s (v := v0) rfl rfl h0_ ?_)
   refine wl_op rfl (op_fieldAddr_t (v := v0) rfl fa91_1 rfl (h0_.at_ I5) ?_)
   refine wl_op rfl (op_fieldAddr_t (v := (fieldPtr v0 2)) rfl fa28_1 rfl ((h0_.at_ I5).fld Search_player.fld1) ?_)
   refine wl_op rfl (op_load_int (v := (fieldPtr (fieldPtr v0 2) 1)) (e := a0.Mind.Turn) rfl sh3 rfl (((h0_.at_ I5).fld Search_player.fld1).fld Mind.fld1) ?_)
   refine wl_op rfl (op_move (v := (Value.int .i64 ((x1.length : Int)))) rfl e15 ?_)
   obtain ⟨x8, hx8, h1⟩ := bnd h1
   refine wl_op rfl (op_rem (a := a0.Mind.Turn) (b := (x1.length : Int)) rfl rfl rfl hx8 ?_)
   refine wl_op rfl (op_move (v := (Value.int .i64 ((i1 : Int)))) rfl rfl ?_)
   refine wl_op rfl (op_add (a := x8) (b := (i1 : Int)) rfl rfl rfl ?_)
   refine wl_op rfl (op_move (v := (Value.int .i64 ((x1.length : Int)))) rfl e15 ?_)
   obtain ⟨x9, hx9, h1⟩ := bnd h1
   refine wl_op rfl (op_rem (a := w64 (x8 + (i1 : Int))) (b := (x1.length : Int)) rfl rfl rfl hx9 ?_)
   refine wl_op rfl (op_assign (v := (Value.int .i64 (x9))) rfl rfl ?_)
   refine wl_nil ?_
   refine wp_seq' ?_
   refine wp_region' ?_
   refine wl_op rfl (op_move (v := v0) rfl e13 ?_)
   refine wl_op rfl (op_move (v := (Value.int .i64 (a1))) rfl e14 ?_)
   refine wl_op rfl (op_move (v := (Value.int .i64 (x9))) rfl rfl ?_)
   obtain ⟨x10, hx10, h1⟩ := bnd h1
   refine wl_op rfl (op_call_v (vs := [v0, (Value.int .i64 (a1)), (Value.int .i64 (x9))]) (r := (Value.bool (x10))) rfl ca86 rfl (args3 rfl rfl rfl) I5 (fun Fr_ hF_ => F86_ok hF_ h0_ hx10) (fun w3 I6 => ?_))
   refine wl_op rfl (op_not (b := x10) rfl rfl ?_)
   refine wl_nil ?_
   rcases ifs h1 with ⟨hc3, h1⟩ | ⟨hc3, h1⟩
   ·
    refine wp_cond_t (b := !x10) rfl hc3 ?_
    refine wp_seq' ?_
    refine wp_region' ?_
    refine wl_op rfl (op_move (v := (Value.int .i64 (x9))) rfl rfl ?_)
    refine wl_op rfl (op_assign (v := (Value.int .i64 (x9))) rfl rfl ?_)
    refine wl_nil ?_
    refine wp_ret' ?_
    obtain rfl := Option.some.inj h1
    obtain rfl := (hout1 _ rfl)
    have h2 := h
    obtain rfl := Option.some.inj h2
    exact ⟨(Value.int .i64 (x9)), (res1 rfl rfl), _, [], (PH.Le.refl _), I6, rfl, rfl⟩
   ·
    refine wp_cond_f (b := !x10) rfl hc3 ?_
    refine wp_skip' ?_
    refine wp_region' ?_
    refine wl_op rfl (op_add (a := (i1 : Int)) (b := 1) rfl e17 rfl ?_)
    refine wl_op rfl (op_move (v := (Value.int .i64 (w64 ((i1 : Int) + 1)))) rfl rfl ?_)
    refine wl_nil ?_
    obtain rfl := Option.some.inj h1
    exact ⟨_, rfl, I6, e13, e14, e15, e16, (idx_next hlt1 hk1)⟩
  ·
   rintro s2 f w hs1 hI2
   obtain ⟨I7, e18, e19, e20, e21, e22⟩ := hI2
   refine wp_seq' ?_
   refine wp_region' ?_
   refine wl_op rfl (op_lss (a := (x1.length : Int)) (b := (x1.length : Int)) rfl e22 e21 ?_)
   refine wl_nil ?_
   refine wp_seq' ?_
   refine wp_cond_f (b := decide ((x1.length : Int) < (x1.length : Int))) rfl (len_f _) ?_
   refine wp_exit' ?_
   exact ⟨s2, hs1, I7, e18, e19, e20, e21⟩
 ·
  rintro f w ⟨out1, rfl, I8, e23, e24, e25, e26⟩
  have h := onL_inl h
  refine wp_seq' ?_
  refine wp_region' ?_
  refine wl_op rfl (op_assign (v := (Value.int .i64 ((-1)))) rfl rfl ?_)
  refine wl_nil ?_
  refine wp_ret' ?_
  obtain rfl := Option.some.inj h
  exact ⟨(Value.int .i64 ((-1))), (res1 rfl rfl), _, [], (PH.Le.refl _), I8, rfl, rfl⟩
end Go.Proofs.Ytogfongmnkmegaa.Pad
