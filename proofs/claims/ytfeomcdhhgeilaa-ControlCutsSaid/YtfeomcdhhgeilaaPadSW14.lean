/- A part of the proof: what the functions of the program compute, shown over the model. -/
import Derived.Test.YtfeomcdhhgeilaaPadSP
import Derived.Test.YtfeomcdhhgeilaaPadSW10
import Derived.KernelRfl
set_option linter.unusedVariables false
namespace Go.Proofs.Ytfeomcdhhgeilaa.Pad
open Go Go.Proofs
set_option maxHeartbeats 4000000 in
set_option maxRecDepth 100000 in
theorem F38_ok {w : World} {S : PH} {Fr : List HP} {a0 : Panel} {v0 : Value} {r : Int × Int} (hI : Inv w S (Fr)) (h0_ : RV S v0 a0) (h : F38 a0 = some r) :
    Calls Try.prog 38 [v0].toArray w (DoneV S Fr (Value.tuple #[(Value.int .i64 (r.1)), (Value.int .i64 (r.2))])) := by
 unfold F38 at h
 obtain ⟨c1, e1, r1⟩ := Panel.inv h0_
 subst e1
 obtain ⟨z1, m1, k1, e2⟩ := rv_form r1
 subst e2
 refine calls_enter (n := 40) (vs := [(Value.agg #[(Value.int .i64 (a0.Sensors)), (Value.slice z1 m1 k1), (Value.int .i64 (a0.Stale)), (Value.int .i64 (a0.Limit))])]) Try.func38 rfl rfl rfl ?_
 refine wp_seq' ?_
 refine wp_region' ?_
 refine wl_op rfl (op_box (v := (Value.agg #[(Value.int .i64 (a0.Sensors)), (Value.slice z1 m1 k1), (Value.int .i64 (a0.Stale)), (Value.int .i64 (a0.Limit))])) rfl hI rfl (fun g1 w1 I1 => ?_))
 obtain ⟨S1, le1, I2, p1⟩ := Inv.boxFreeze (x := a0) I1 (Panel.rv (s := a0) r1)
 refine wl_op rfl (op_assign (v := (Value.int .i64 (0))) rfl rfl ?_)
 refine wl_op rfl (op_assign (v := (Value.int .i64 (0))) rfl rfl ?_)
 refine wl_nil ?_
 refine wp_seq' ?_
 refine wp_seq' ?_
 refine wp_region' ?_
 refine wl_op rfl (op_load (v := (Value.pointer (some ⟨g1, 0, none⟩))) (e := a0) rfl sh24 rfl (p1.at_ I2) (fun u1 hu1 => ?_))
 obtain ⟨c2, e3, r2⟩ := Panel.inv hu1
 subst e3
 obtain ⟨z2, m2, k2, e4⟩ := rv_form r2
 subst e4
 obtain ⟨x1, hx1, h⟩ := bnd h
 refine wl_op rfl (op_call_v (vs := [(Value.agg #[(Value.int .i64 (a0.Sensors)), (Value.slice z2 m2 k2), (Value.int .i64 (a0.Stale)), (Value.int .i64 (a0.Limit))])]) (r := (Value.int .i64 (x1))) rfl ca15 rfl (args1 rfl) I2 (fun Fr_ hF_ => F15_ok hF_ (Panel.rv (s := a0) r2) hx1) (fun w2 I3 => ?_))
 refine wl_op rfl (op_assign (v := (Value.int .i64 (x1))) rfl rfl ?_)
 refine wl_nil ?_
 refine wp_seq' ?_
 refine wp_region' ?_
 refine wl_op rfl (op_move (v := (Value.int .i64 (x1))) rfl rfl ?_)
 refine wl_op rfl (op_neq (a := x1) (b := 0) rfl rfl rfl ?_)
 refine wl_nil ?_
 rcases ifs h with ⟨hc1, h⟩ | ⟨hc1, h⟩
 ·
  refine wp_cond_t (b := x1 != 0) rfl hc1 ?_
  refine wp_seq' ?_
  refine wp_region' ?_
  refine wl_op rfl (op_move (v := (Value.int .i64 (x1))) rfl rfl ?_)
  refine wl_op rfl (op_assign (v := (Value.int .i64 (0))) rfl rfl ?_)
  refine wl_op rfl (op_assign (v := (Value.int .i64 (x1))) rfl rfl ?_)
  refine wl_nil ?_
  refine wp_ret' ?_
  obtain rfl := Option.some.inj h
  exact ⟨(Value.tuple #[(Value.int .i64 (0)), (Value.int .i64 (x1))]), (res2 rfl rfl rfl), _, [], le1, I3, rfl, rfl⟩
 ·
  refine wp_cond_f (b := x1 != 0) rfl hc1 ?_
  refine wp_skip' ?_
  refine wp_seq' ?_
  refine wp_region' ?_
  refine wl_op rfl (op_assign (v := (Value.int .i64 (0))) rfl rfl ?_)
  refine wl_nil ?_
  refine wp_seq' ?_
  refine wp_seq' ?_
  refine wp_region' ?_
  refine wl_op rfl (op_assign (v := (Value.int .i64 (0))) rfl rfl ?_)
  refine wl_nil ?_
  have hk1 : a0.Doors.length ≤ 9223372036854775807 := (rv_len r1)
  obtain ⟨out1, hrun1, h⟩ := bnd h
  refine wp_cutN (fun f w => ∃ (S_ : PH), S1.Le S_ ∧ Inv w S_ (Fr) ∧ f 1 = (Value.pointer (some ⟨g1, 0, none⟩)) ∧ f 5 = (Value.int .i64 (out1))) ?_ ?_
  ·
   refine wp_block' ?_
   refine wp_forS (I := fun (i1 : Nat) (s1 : (Int)) (f : Frm) (w : World) => ∃ (S_ : PH), S1.Le S_ ∧ Inv w S_ (Fr) ∧ f 1 = (Value.pointer (some ⟨g1, 0, none⟩)) ∧ f 5 = (Value.int .i64 (s1)) ∧ f 6 = (Value.int .i64 (i1 : Int))) hrun1 ⟨_, (PH.Le.refl _), I3, rfl, rfl, rfl⟩ ?_ ?_
   ·
    rintro i1 s1 f w o1 hlt1 hI43 h1
    obtain ⟨S46, le46, I49, e46, e47, e48⟩ := hI43
    refine wp_seq' ?_
    refine wp_seq' ?_
    refine wp_region' ?_
    refine wl_op rfl (op_move (v := (Value.int .i64 ((i1 : Int)))) rfl e48 ?_)
    refine wl_op rfl (op_fieldAddr_t (v := (Value.pointer (some ⟨g1, 0, none⟩))) rfl fa24_1 e46 ((p1.mono le46).at_ I49) ?_)
    refine wl_op rfl (op_load (v := (fieldPtr (Value.pointer (some ⟨g1, 0, none⟩)) 1)) (e := a0.Doors) rfl sh22 rfl (((p1.mono le46).at_ I49).fld Panel.fld1) (fun u32 hu32 => ?_))
    obtain ⟨z30, m30, k30, e50⟩ := rv_form hu32
    subst e50
    refine wl_op rfl (op_len_rv rfl Try.underlying22 rfl hu32 ?_)
    refine wl_op rfl (op_lss (a := (i1 : Int)) (b := (a0.Doors.length : Int)) rfl rfl rfl ?_)
    refine wl_nil ?_
    refine wp_cond_t (b := decide ((i1 : Int) < (a0.Doors.length : Int))) rfl (len_t hlt1) ?_
    refine wp_skip' ?_
    refine wp_seq' ?_
    refine wp_block' ?_
    refine wp_seq' ?_
    refine wp_region' ?_
    refine wl_op rfl (op_fieldAddr_t (v := (Value.pointer (some ⟨g1, 0, none⟩))) rfl fa24_1 e46 ((p1.mono le46).at_ I49) ?_)
    refine wl_op rfl (op_load (v := (fieldPtr (Value.pointer (some ⟨g1, 0, none⟩)) 1)) (e := a0.Doors) rfl sh22 rfl (((p1.mono le46).at_ I49).fld Panel.fld1) (fun u33 hu33 => ?_))
    obtain ⟨z31, m31, k31, e51⟩ := rv_form hu33
    subst e51
    refine wl_op rfl (op_move (v := (Value.int .i64 ((i1 : Int)))) rfl e48 ?_)
    obtain ⟨x8, hx8, h1⟩ := bnd h1
    refine wl_op rfl (op_indexAddr_rv (v := (Value.slice z31 m31 k31)) (i := (i1 : Int)) (e := x8) rfl Try.underlying22 sh33 rfl hu33 rfl hx8 ?_)
    refine wl_op rfl (op_fieldAddr_t (v := (elemPtr (Value.slice z31 m31 k31) ((i1 : Int)) (Enc.sz Gate))) rfl fa33_1 rfl (hu33.elem I49.in_ hx8) ?_)
    refine wl_op rfl (op_load (v := (fieldPtr (elemPtr (Value.slice z31 m31 k31) ((i1 : Int)) (Enc.sz Gate)) 1)) (e := x8.When) rfl sh31 rfl ((hu33.elem I49.in_ hx8).fld Gate.fld1) (fun u34 hu34 => ?_))
    obtain ⟨z32, m32, k32, e52⟩ := rv_form hu34
    subst e52
    refine wl_op rfl (op_len_rv rfl Try.underlying31 rfl hu34 ?_)
    refine wl_op rfl (op_gtr (a := (x8.When.length : Int)) (b := 0) rfl rfl rfl ?_)
    refine wl_nil ?_
    rcases ifs h1 with ⟨hc5, h1⟩ | ⟨hc5, h1⟩
    ·
     refine wp_cond_t (b := decide (0 < (x8.When.length : Int))) rfl hc5 ?_
     obtain ⟨x9, hx9, h1⟩ := bnd h1
     refine wp_draw (sps := [⟨some 27, [], [0], fun vs_ T_ => fr0 vs_ 0 = (Value.int .i64 (s1)), [], [], [], fun _ h_ => h_⟩, ⟨some 28, [], [1], fun vs_ T_ => fr0 vs_ 0 = (fieldPtr (Value.pointer (some ⟨g1, 0, none⟩)) 3), [], [], [], fun _ h_ => h_⟩, ⟨some 29, [1], [2], fun vs_ T_ => fr0 vs_ 0 = (Value.int .i64 (a0.Limit)), [], [], [], fun _ h_ => h_⟩, ⟨some 30, [], [3], fun vs_ T_ => fr0 vs_ 0 = (fieldPtr (Value.pointer (some ⟨g1, 0, none⟩)) 1), [], [], [], fun _ h_ => h_⟩, ⟨some 31, [3], [4], fun vs_ T_ => RV T_ (fr0 vs_ 0) a0.Doors, [], [], [], fun hle_ h_ => h_.mono hle_⟩, ⟨some 32, [], [5], fun vs_ T_ => fr0 vs_ 0 = (Value.int .i64 ((i1 : Int))), [], [], [], fun _ h_ => h_⟩, ⟨some 33, [3, 4, 5], [6, 4], fun vs_ T_ => fr0 vs_ 0 = (elemPtr (fr0 vs_ 1) ((i1 : Int)) (Enc.sz Gate)), [], [], [], fun _ h_ => h_⟩, ⟨some 34, [3, 4, 5, 6], [7, 4], fun vs_ T_ => fr0 vs_ 0 = (fieldPtr (elemPtr (fr0 vs_ 1) ((i1 : Int)) (Enc.sz Gate)) 0), [], [], [], fun _ h_ => h_⟩, ⟨some 35, [3, 4, 5, 6, 7], [8], fun vs_ T_ => fr0 vs_ 0 = (Value.int .i64 (x9.Wait)), [], [], [], fun _ h_ => h_⟩, ⟨some 36, [1, 2, 3, 4, 5, 6, 7, 8], [9], fun vs_ T_ => fr0 vs_ 0 = (Value.int .i64 (w64 (a0.Limit + x9.Wait))), [], [], [], fun _ h_ => h_⟩, ⟨some 37, [1, 2, 3, 4, 5, 6, 7, 8, 9], [10], fun vs_ T_ => fr0 vs_ 0 = (Value.int .i64 (w64 ((w64 (a0.Limit + x9.Wait)) - 1))), [], [], [], fun _ h_ => h_⟩, ⟨some 38, [0, 1, 2, 3, 4, 5, 6, 7, 8, 9, 10], [11], fun vs_ T_ => fr0 vs_ 0 = (Value.int .i64 (maxI s1 (w64 ((w64 (a0.Limit + x9.Wait)) - 1)))), [], [], [], fun _ h_ => h_⟩, ⟨some 5, [0, 1, 2, 3, 4, 5, 6, 7, 8, 9, 10, 11], [12], fun vs_ T_ => fr0 vs_ 0 = (Value.int .i64 (maxI s1 (w64 ((w64 (a0.Limit + x9.Wait)) - 1)))), [], [], [], fun _ h_ => h_⟩]) (tks := []) (O := Fr) rfl (by kernel_rfl) I49 ⟨?_, ?_, ?_, ?_, ?_, ?_, ?_, ?_, ?_, ?_, ?_, ?_, ?_, trivial⟩ ?_
     ·
      intro vs43 f w45 S47 X40 le47 hA40 hK43 hI44
      have I50 : Inv w45 S47 (X40) := hI44
      refine opg_plain rfl rfl (op_move (v := (Value.int .i64 (s1))) rfl ((hK43 5 (keep_of rfl)).trans e47) ?_)
      refine ⟨_, _, rfl, PH.Le.refl _, ?_, ?_⟩
      ·
       exact rfl
      ·
       exact I50
     ·
      intro vs44 f w46 S48 X41 le48 hA41 hK44 hI45
      have I51 : Inv w46 S48 (X41) := hI45
      refine opg_plain rfl rfl (op_fieldAddr_t (v := (Value.pointer (some ⟨g1, 0, none⟩))) rfl fa24_3 ((hK44 1 (keep_of rfl)).trans e46) ((p1.mono (le46.trans le48)).at_ I51) ?_)
      refine ⟨_, _, rfl, PH.Le.refl _, ?_, ?_⟩
      ·
       exact rfl
      ·
       exact I51
     ·
      intro vs45 f w47 S49 X42 le49 hA42 hK45 hI46
      have I52 : Inv w47 S49 (X42) := hI46
      have q55 : f 28 = (fieldPtr (Value.pointer (some ⟨g1, 0, none⟩)) 3) := vt (hA42.at_ 0 rfl _ rfl) rfl
      refine opg_plain rfl rfl (op_load_int (v := (fieldPtr (Value.pointer (some ⟨g1, 0, none⟩)) 3)) (e := a0.Limit) rfl sh3 q55 (((p1.mono (le46.trans le49)).at_ I52).fld Panel.fld3) ?_)
      refine ⟨_, _, rfl, PH.Le.refl _, ?_, ?_⟩
      ·
       exact rfl
      ·
       exact I52
     ·
      intro vs46 f w48 S50 X43 le50 hA43 hK46 hI47
      have I53 : Inv w48 S50 (X43) := hI47
      refine opg_plain rfl rfl (op_fieldAddr_t (v := (Value.pointer (some ⟨g1, 0, none⟩))) rfl fa24_1 ((hK46 1 (keep_of rfl)).trans e46) ((p1.mono (le46.trans le50)).at_ I53) ?_)
      refine ⟨_, _, rfl, PH.Le.refl _, ?_, ?_⟩
      ·
       exact rfl
      ·
       exact I53
     ·
      intro vs47 f w49 S51 X44 le51 hA44 hK47 hI48
      have I54 : Inv w49 S51 (X44) := hI48
      have q56 : f 30 = (fieldPtr (Value.pointer (some ⟨g1, 0, none⟩)) 1) := vt (hA44.at_ 0 rfl _ rfl) rfl
      refine opg_plain rfl rfl (op_load (v := (fieldPtr (Value.pointer (some ⟨g1, 0, none⟩)) 1)) (e := a0.Doors) rfl sh22 q56 (((p1.mono (le46.trans le51)).at_ I54).fld Panel.fld1) (fun u36 hu36 => ?_))
      obtain ⟨z33, m33, k33, e53⟩ := rv_form hu36
      subst e53
      refine ⟨_, _, rfl, PH.Le.refl _, ?_, ?_⟩
      ·
       exact hu36
      ·
       exact I54
     ·
      intro vs48 f w50 S52 X45 le52 hA45 hK48 hI49
      have I55 : Inv w50 S52 (X45) := hI49
      refine opg_plain rfl rfl (op_move (v := (Value.int .i64 ((i1 : Int)))) rfl ((hK48 6 (keep_of rfl)).trans e48) ?_)
      refine ⟨_, _, rfl, PH.Le.refl _, ?_, ?_⟩
      ·
       exact rfl
      ·
       exact I55
     ·
      intro vs49 f w51 S53 X46 le53 hA46 hK49 hI50
      have I56 : Inv w51 S53 (X46) := hI50
      have q57 : f 31 = vs49 4 := (hA46.at_ 1 rfl _ rfl).1 _ rfl
      have r12 : RV S53 (vs49 4) a0.Doors := (hA46.at_ 1 rfl _ rfl).2
      obtain ⟨u37, hu37⟩ : ∃ u, vs49 4 = u := ⟨_, rfl⟩
      rw [hu37] at q57 r12
      obtain ⟨z34, m34, k34, e54⟩ := rv_form r12
      subst e54
      have q58 : f 32 = (Value.int .i64 ((i1 : Int))) := vt (hA46.at_ 2 rfl _ rfl) rfl
      refine opg_plain rfl rfl (op_indexAddr_rv (v := (Value.slice z34 m34 k34)) (i := (i1 : Int)) (e := x9) rfl Try.underlying22 sh33 q57 r12 q58 hx9 ?_)
      refine ⟨_, _, rfl, PH.Le.refl _, ?_, ?_⟩
      ·
       show (elemPtr (Value.slice z34 m34 k34) ((i1 : Int)) (Enc.sz Gate)) = (elemPtr (vs49 4) ((i1 : Int)) (Enc.sz Gate))
       simp only [hu37] <;> rfl
      ·
       exact I56
     ·
      intro vs50 f w52 S54 X47 le54 hA47 hK50 hI51
      have I57 : Inv w52 S54 (X47) := hI51
      have q59 : f 31 = vs50 4 := (hA47.at_ 1 rfl _ rfl).1 _ rfl
      have r13 : RV S54 (vs50 4) a0.Doors := (hA47.at_ 1 rfl _ rfl).2
      obtain ⟨u38, hu38⟩ : ∃ u, vs50 4 = u := ⟨_, rfl⟩
      rw [hu38] at q59 r13
      obtain ⟨z35, m35, k35, e55⟩ := rv_form r13
      subst e55
      have q60 : f 32 = (Value.int .i64 ((i1 : Int))) := vt (hA47.at_ 2 rfl _ rfl) rfl
      have q61 : f 33 = (elemPtr (vs50 4) ((i1 : Int)) (Enc.sz Gate)) := vt (hA47.at_ 3 rfl _ rfl) rfl
      simp only [hu38] at q61
      have q61 : f 33 = (elemPtr (Value.slice z35 m35 k35) ((i1 : Int)) (Enc.sz Gate)) := q61
      refine opg_plain rfl rfl (op_fieldAddr_t (v := (elemPtr (Value.slice z35 m35 k35) ((i1 : Int)) (Enc.sz Gate))) rfl fa33_0 q61 (r13.elem I57.in_ hx9) ?_)
      refine ⟨_, _, rfl, PH.Le.refl _, ?_, ?_⟩
      ·
       show (fieldPtr (elemPtr (Value.slice z35 m35 k35) ((i1 : Int)) (Enc.sz Gate)) 0) = (fieldPtr (elemPtr (vs50 4) ((i1 : Int)) (Enc.sz Gate)) 0)
       simp only [hu38] <;> rfl
      ·
       exact I57
     ·
      intro vs51 f w53 S55 X48 le55 hA48 hK51 hI52
      have I58 : Inv w53 S55 (X48) := hI52
      have q62 : f 31 = vs51 4 := (hA48.at_ 1 rfl _ rfl).1 _ rfl
      have r14 : RV S55 (vs51 4) a0.Doors := (hA48.at_ 1 rfl _ rfl).2
      obtain ⟨u39, hu39⟩ : ∃ u, vs51 4 = u := ⟨_, rfl⟩
      rw [hu39] at q62 r14
      obtain ⟨z36, m36, k36, e56⟩ := rv_form r14
      subst e56
      have q63 : f 32 = (Value.int .i64 ((i1 : Int))) := vt (hA48.at_ 2 rfl _ rfl) rfl
      have q64 : f 33 = (elemPtr (vs51 4) ((i1 : Int)) (Enc.sz Gate)) := vt (hA48.at_ 3 rfl _ rfl) rfl
      simp only [hu39] at q64
      have q64 : f 33 = (elemPtr (Value.slice z36 m36 k36) ((i1 : Int)) (Enc.sz Gate)) := q64
      have q65 : f 34 = (fieldPtr (elemPtr (vs51 4) ((i1 : Int)) (Enc.sz Gate)) 0) := vt (hA48.at_ 4 rfl _ rfl) rfl
      simp only [hu39] at q65
      have q65 : f 34 = (fieldPtr (elemPtr (Value.slice z36 m36 k36) ((i1 : Int)) (Enc.sz Gate)) 0) := q65
      refine opg_plain rfl rfl (op_load_int (v := (fieldPtr (elemPtr (Value.slice z36 m36 k36) ((i1 : Int)) (Enc.sz Gate)) 0)) (e := x9.Wait) rfl sh3 q65 ((r14.elem I58.in_ hx9).fld Gate.fld0) ?_)
      refine ⟨_, _, rfl, PH.Le.refl _, ?_, ?_⟩
      ·
       exact rfl
      ·
       exact I58
     ·
      intro vs52 f w54 S56 X49 le56 hA49 hK52 hI53
      have I59 : Inv w54 S56 (X49) := hI53
      have q66 : f 29 = (Value.int .i64 (a0.Limit)) := vt (hA49.at_ 1 rfl _ rfl) rfl
      have q67 : f 35 = (Value.int .i64 (x9.Wait)) := vt (hA49.at_ 7 rfl _ rfl) rfl
      refine opg_plain rfl rfl (op_add (a := a0.Limit) (b := x9.Wait) rfl q66 q67 ?_)
      refine ⟨_, _, rfl, PH.Le.refl _, ?_, ?_⟩
      ·
       exact rfl
      ·
       exact I59
     ·
      intro vs53 f w55 S57 X50 le57 hA50 hK53 hI54
      have I60 : Inv w55 S57 (X50) := hI54
      have q68 : f 36 = (Value.int .i64 (w64 (a0.Limit + x9.Wait))) := vt (hA50.at_ 8 rfl _ rfl) rfl
      refine opg_plain rfl rfl (op_sub (a := w64 (a0.Limit + x9.Wait)) (b := 1) rfl q68 rfl ?_)
      refine ⟨_, _, rfl, PH.Le.refl _, ?_, ?_⟩
      ·
       exact rfl
      ·
       exact I60
     ·
      intro vs54 f w56 S58 X51 le58 hA51 hK54 hI55
      have I61 : Inv w56 S58 (X51) := hI55
      have q69 : f 27 = (Value.int .i64 (s1)) := vt (hA51.at_ 0 rfl _ rfl) rfl
      have q70 : f 37 = (Value.int .i64 (w64 ((w64 (a0.Limit + x9.Wait)) - 1))) := vt (hA51.at_ 10 rfl _ rfl) rfl
      refine opg_plain rfl rfl (op_max (a := s1) (b := w64 ((w64 (a0.Limit + x9.Wait)) - 1)) rfl q69 q70 ?_)
      refine ⟨_, _, rfl, PH.Le.refl _, ?_, ?_⟩
      ·
       exact rfl
      ·
       exact I61
     ·
      intro vs55 f w57 S59 X52 le59 hA52 hK55 hI56
      have I62 : Inv w57 S59 (X52) := hI56
      have q71 : f 38 = (Value.int .i64 (maxI s1 (w64 ((w64 (a0.Limit + x9.Wait)) - 1)))) := vt (hA52.at_ 11 rfl _ rfl) rfl
      refine opg_plain rfl rfl (op_assign (v := (Value.int .i64 (maxI s1 (w64 ((w64 (a0.Limit + x9.Wait)) - 1))))) rfl q71 ?_)
      refine ⟨_, _, rfl, PH.Le.refl _, ?_, ?_⟩
      ·
       exact rfl
      ·
       exact I62
     ·
      intro vs56 f w58 S60 le60 hF4 hK56 hI57
      have e57 : f 1 = (Value.pointer (some ⟨g1, 0, none⟩)) := (hK56 1 (keep_all rfl)).trans e46
      have e58 : f 6 = (Value.int .i64 ((i1 : Int))) := (hK56 6 (keep_all rfl)).trans e48
      have I63 : Inv w58 S60 (Fr) := hI57
      have q72 : f 5 = (Value.int .i64 (maxI s1 (w64 ((w64 (a0.Limit + x9.Wait)) - 1)))) := vt (hF4.at_ 12 rfl _ rfl) rfl
      refine wp_region' ?_
      refine wl_op rfl (op_move (v := (Value.int .i64 ((i1 : Int)))) rfl e58 ?_)
      refine wl_op rfl (op_add (a := (i1 : Int)) (b := 1) rfl rfl rfl ?_)
      refine wl_op rfl (op_assign (v := (Value.int .i64 (w64 ((i1 : Int) + 1)))) rfl rfl ?_)
      refine wl_nil ?_
      obtain rfl := Option.some.inj h1
      exact ⟨_, (le46.trans le60), I63, e57, q72, (idx_next hlt1 hk1)⟩
    ·
     refine wp_cond_f (b := decide (0 < (x8.When.length : Int))) rfl hc5 ?_
     refine wp_skip' ?_
     refine wp_region' ?_
     refine wl_op rfl (op_move (v := (Value.int .i64 ((i1 : Int)))) rfl e48 ?_)
     refine wl_op rfl (op_add (a := (i1 : Int)) (b := 1) rfl rfl rfl ?_)
     refine wl_op rfl (op_assign (v := (Value.int .i64 (w64 ((i1 : Int) + 1)))) rfl rfl ?_)
     refine wl_nil ?_
     obtain rfl := Option.some.inj h1
     exact ⟨_, le46, I49, e46, e47, (idx_next hlt1 hk1)⟩
   ·
    rintro f w hI58
    obtain ⟨S61, le61, I64, e59, e60, e61⟩ := hI58
    refine wp_seq' ?_
    refine wp_seq' ?_
    refine wp_region' ?_
    refine wl_op rfl (op_move (v := (Value.int .i64 ((a0.Doors.length : Int)))) rfl e61 ?_)
    refine wl_op rfl (op_fieldAddr_t (v := (Value.pointer (some ⟨g1, 0, none⟩))) rfl fa24_1 e59 ((p1.mono le61).at_ I64) ?_)
    refine wl_op rfl (op_load (v := (fieldPtr (Value.pointer (some ⟨g1, 0, none⟩)) 1)) (e := a0.Doors) rfl sh22 rfl (((p1.mono le61).at_ I64).fld Panel.fld1) (fun u41 hu41 => ?_))
    obtain ⟨z38, m38, k38, e63⟩ := rv_form hu41
    subst e63
    refine wl_op rfl (op_len_rv rfl Try.underlying22 rfl hu41 ?_)
    refine wl_op rfl (op_lss (a := (a0.Doors.length : Int)) (b := (a0.Doors.length : Int)) rfl rfl rfl ?_)
    refine wl_nil ?_
    refine wp_cond_f (b := decide ((a0.Doors.length : Int) < (a0.Doors.length : Int))) rfl (len_f _) ?_
    refine wp_exit' ?_
    exact ⟨_, le61, I64, e59, e60⟩
  ·
   rintro f w ⟨S62, le62, I65, e64, e65⟩
   refine wp_seq' ?_
   refine wp_region' ?_
   refine wl_op rfl (op_move (v := (Value.int .i64 (out1))) rfl e65 ?_)
   refine wl_op rfl (op_assign (v := (Value.int .i64 (out1))) rfl rfl ?_)
   refine wl_op rfl (op_assign (v := (Value.int .i64 (0))) rfl rfl ?_)
   refine wl_nil ?_
   refine wp_ret' ?_
   obtain rfl := Option.some.inj h
   exact ⟨(Value.tuple #[(Value.int .i64 (out1)), (Value.int .i64 (0))]), (res2 rfl rfl rfl), _, [], (le1.trans le62), I65, rfl, rfl⟩

set_option maxHeartbeats 4000000 in
set_option maxRecDepth 100000 in
theorem F58_ok {w : World} {S : PH} {Fr : List HP} {a0 : Panel} {v0 : Value} {a1 : Int} {a2 : (List Signal)} {v2 : Value} {a3 : Int} {r : Int} (hI : Inv w S (Fr)) (h0_ : RV S v0 a0) (h2_ : RV S v2 a2) (h : F58 a0 a1 a2 a3 = some r) :
    Calls Try.prog 58 [v0, (Value.int .i64 (a1)), v2, (Value.int .i64 (a3))].toArray w (DoneV S Fr (Value.int .i64 (r))) := by
 unfold F58 at h
 obtain ⟨c1, e1, r1⟩ := Panel.inv h0_
 subst e1
 obtain ⟨z1, m1, k1, e2⟩ := rv_form r1
 subst e2
 obtain ⟨z2, m2, k2, e3⟩ := rv_form h2_
 subst e3
 refine calls_enter (n := 24) (vs := [(Value.agg #[(Value.int .i64 (a0.Sensors)), (Value.slice z1 m1 k1), (Value.int .i64 (a0.Stale)), (Value.int .i64 (a0.Limit))]), (Value.int .i64 (a1)), (Value.slice z2 m2 k2), (Value.int .i64 (a3))]) Try.func58 rfl rfl rfl ?_
 refine wp_seq' ?_
 refine wp_region' ?_
 refine wl_op rfl (op_box (v := (Value.agg #[(Value.int .i64 (a0.Sensors)), (Value.slice z1 m1 k1), (Value.int .i64 (a0.Stale)), (Value.int .i64 (a0.Limit))])) rfl hI rfl (fun g1 w1 I1 => ?_))
 obtain ⟨S1, le1, I2, p1⟩ := Inv.boxFreeze (x := a0) I1 (Panel.rv (s := a0) r1)
 refine wl_op rfl (op_assign (v := (Value.int .i64 (0))) rfl rfl ?_)
 refine wl_nil ?_
 refine wp_seq' ?_
 refine wp_seq' ?_
 refine wp_region' ?_
 refine wl_op rfl (op_load (v := (Value.pointer (some ⟨g1, 0, none⟩))) (e := a0) rfl sh24 rfl (p1.at_ I2) (fun u1 hu1 => ?_))
 obtain ⟨c2, e4, r2⟩ := Panel.inv hu1
 subst e4
 obtain ⟨z3, m3, k3, e5⟩ := rv_form r2
 subst e5
 refine wl_op rfl (op_move (v := (Value.int .i64 (a1))) rfl rfl ?_)
 refine wl_op rfl (op_move (v := (Value.slice z2 m2 k2)) rfl rfl ?_)
 obtain ⟨x1, hx1, h⟩ := bnd h
 refine wl_op rfl (op_call_v (vs := [(Value.agg #[(Value.int .i64 (a0.Sensors)), (Value.slice z3 m3 k3), (Value.int .i64 (a0.Stale)), (Value.int .i64 (a0.Limit))]), (Value.int .i64 (a1)), (Value.slice z2 m2 k2)]) (r := (Value.int .i64 (x1))) rfl ca51 rfl (args3 rfl rfl rfl) I2 (fun Fr_ hF_ => F51_ok hF_ (Panel.rv (s := a0) r2) (h2_.mono le1) hx1) (fun w2 I3 => ?_))
 refine wl_op rfl (op_assign (v := (Value.int .i64 (x1))) rfl rfl ?_)
 refine wl_nil ?_
 refine wp_seq' ?_
 refine wp_region' ?_
 refine wl_op rfl (op_move (v := (Value.int .i64 (x1))) rfl rfl ?_)
 refine wl_op rfl (op_neq (a := x1) (b := 0) rfl rfl rfl ?_)
 refine wl_nil ?_
 rcases ifs h with ⟨hc1, h⟩ | ⟨hc1, h⟩
 ·
  refine wp_cond_t (b := x1 != 0) rfl hc1 ?_
  refine wp_seq' ?_
  refine wp_region' ?_
  refine wl_op rfl (op_move (v := (Value.int .i64 (x1))) rfl rfl ?_)
  refine wl_op rfl (op_assign (v := (Value.int .i64 (x1))) rfl rfl ?_)
  refine wl_nil ?_
  refine wp_ret' ?_
  obtain rfl := Option.some.inj h
  exact ⟨(Value.int .i64 (x1)), (res1 rfl rfl), _, [], le1, I3, rfl, rfl⟩
 ·
  refine wp_cond_f (b := x1 != 0) rfl hc1 ?_
  refine wp_skip' ?_
  refine wp_seq' ?_
  refine wp_seq' ?_
  refine wp_region' ?_
  refine wl_op rfl (op_move (v := (Value.int .i64 (a3))) rfl rfl ?_)
  refine wl_op rfl (op_fieldAddr_t (v := (Value.pointer (some ⟨g1, 0, none⟩))) rfl fa24_1 rfl (p1.at_ I3) ?_)
  refine wl_op rfl (op_load (v := (fieldPtr (Value.pointer (some ⟨g1, 0, none⟩)) 1)) (e := a0.Doors) rfl sh22 rfl ((p1.at_ I3).fld Panel.fld1) (fun u2 hu2 => ?_))
  obtain ⟨z4, m4, k4, e6⟩ := rv_form hu2
  subst e6
  refine wl_op rfl (op_len_rv rfl Try.underlying22 rfl hu2 ?_)
  refine wl_op rfl (op_sub (a := (a0.Doors.length : Int)) (b := 1) rfl rfl rfl ?_)
  obtain ⟨x2, hx2, h⟩ := bnd h
  refine wl_op rfl (op_call_v (vs := [(Value.int .i64 (a3)), (Value.int .i64 (0)), (Value.int .i64 (w64 ((a0.Doors.length : Int) - 1)))]) (r := (Value.bool (x2))) rfl ca43 rfl (args3 rfl rfl rfl) I3 (fun Fr_ hF_ => F43_ok hF_  hx2) (fun w3 I4 => ?_))
  refine wl_op rfl (op_not (b := x2) rfl rfl ?_)
  refine wl_nil ?_
  rcases ifs h with ⟨hc2, h⟩ | ⟨hc2, h⟩
  ·
   refine wp_cond_t (b := !x2) rfl hc2 ?_
   refine wp_seq' ?_
   refine wp_region' ?_
   refine wl_op rfl (op_assign (v := (Value.int .i64 (1))) rfl rfl ?_)
   refine wl_nil ?_
   refine wp_ret' ?_
   obtain rfl := Option.some.inj h
   exact ⟨(Value.int .i64 (1)), (res1 rfl rfl), _, [], le1, I4, rfl, rfl⟩
  ·
   refine wp_cond_f (b := !x2) rfl hc2 ?_
   refine wp_skip' ?_
   refine wp_seq' ?_
   refine wp_region' ?_
   refine wl_op rfl (op_assign (v := (Value.int .i64 (0))) rfl rfl ?_)
   refine wl_nil ?_
   refine wp_ret' ?_
   obtain rfl := Option.some.inj h
   exact ⟨(Value.int .i64 (0)), (res1 rfl rfl), _, [], le1, I4, rfl, rfl⟩

set_option maxHeartbeats 4000000 in
set_option maxRecDepth 100000 in
theorem F37_ok {w : World} {S : PH} {Fr : List HP} {a0 : Panel} {v0 : Value} {a1 : Int} {a2 : (List Signal)} {v2 : Value} {a3 : Int} {r : Int × Int × Int} (hI : Inv w S (Fr)) (h0_ : RV S v0 a0) (h2_ : RV S v2 a2) (h : F37 a0 a1 a2 a3 = some r) :
    Calls Try.prog 37 [v0, (Value.int .i64 (a1)), v2, (Value.int .i64 (a3))].toArray w (DoneV S Fr (Value.tuple #[(Value.int .i64 (r.1)), (Value.int .i64 (r.2.1)), (Value.int .i64 (r.2.2))])) := by
 unfold F37 at h
 obtain ⟨c1, e1, r1⟩ := Panel.inv h0_
 subst e1
 obtain ⟨z1, m1, k1, e2⟩ := rv_form r1
 subst e2
 obtain ⟨z2, m2, k2, e3⟩ := rv_form h2_
 subst e3
 refine calls_enter (n := 53) (vs := [(Value.agg #[(Value.int .i64 (a0.Sensors)), (Value.slice z1 m1 k1), (Value.int .i64 (a0.Stale)), (Value.int .i64 (a0.Limit))]), (Value.int .i64 (a1)), (Value.slice z2 m2 k2), (Value.int .i64 (a3))]) Try.func37 rfl rfl rfl ?_
 refine wp_seq' ?_
 refine wp_region' ?_
 refine wl_op rfl (op_box (v := (Value.agg #[(Value.int .i64 (a0.Sensors)), (Value.slice z1 m1 k1), (Value.int .i64 (a0.Stale)), (Value.int .i64 (a0.Limit))])) rfl hI rfl (fun g1 w1 I1 => ?_))
 obtain ⟨S1, le1, I2, p1⟩ := Inv.boxFreeze (x := a0) I1 (Panel.rv (s := a0) r1)
 refine wl_op rfl (op_assign (v := (Value.int .i64 (0))) rfl rfl ?_)
 refine wl_op rfl (op_assign (v := (Value.int .i64 (0))) rfl rfl ?_)
 refine wl_op rfl (op_assign (v := (Value.int .i64 (0))) rfl rfl ?_)
 refine wl_nil ?_
 refine wp_seq' ?_
 refine wp_seq' ?_
 refine wp_region' ?_
 refine wl_op rfl (op_load (v := (Value.pointer (some ⟨g1, 0, none⟩))) (e := a0) rfl sh24 rfl (p1.at_ I2) (fun u1 hu1 => ?_))
 obtain ⟨c2, e4, r2⟩ := Panel.inv hu1
 subst e4
 obtain ⟨z3, m3, k3, e5⟩ := rv_form r2
 subst e5
 refine wl_op rfl (op_move (v := (Value.int .i64 (a1))) rfl rfl ?_)
 refine wl_op rfl (op_move (v := (Value.slice z2 m2 k2)) rfl rfl ?_)
 refine wl_op rfl (op_move (v := (Value.int .i64 (a3))) rfl rfl ?_)
 obtain ⟨x1, hx1, h⟩ := bnd h
 refine wl_op rfl (op_call_v (vs := [(Value.agg #[(Value.int .i64 (a0.Sensors)), (Value.slice z3 m3 k3), (Value.int .i64 (a0.Stale)), (Value.int .i64 (a0.Limit))]), (Value.int .i64 (a1)), (Value.slice z2 m2 k2), (Value.int .i64 (a3))]) (r := (Value.int .i64 (x1))) rfl ca58 rfl (args4 rfl rfl rfl rfl) I2 (fun Fr_ hF_ => F58_ok hF_ (Panel.rv (s := a0) r2) (h2_.mono le1) hx1) (fun w2 I3 => ?_))
 refine wl_op rfl (op_assign (v := (Value.int .i64 (x1))) rfl rfl ?_)
 refine wl_nil ?_
 refine wp_seq' ?_
 refine wp_region' ?_
 refine wl_op rfl (op_move (v := (Value.int .i64 (x1))) rfl rfl ?_)
 refine wl_op rfl (op_neq (a := x1) (b := 0) rfl rfl rfl ?_)
 refine wl_nil ?_
 rcases ifs h with ⟨hc1, h⟩ | ⟨hc1, h⟩
 ·
  refine wp_cond_t (b := x1 != 0) rfl hc1 ?_
  refine wp_seq' ?_
  refine wp_region' ?_
  refine wl_op rfl (op_move (v := (Value.int .i64 (x1))) rfl rfl ?_)
  refine wl_op rfl (op_assign (v := (Value.int .i64 (0))) rfl rfl ?_)
  refine wl_op rfl (op_assign (v := (Value.int .i64 (0))) rfl rfl ?_)
  refine wl_op rfl (op_assign (v := (Value.int .i64 (x1))) rfl rfl ?_)
  refine wl_nil ?_
  refine wp_ret' ?_
  obtain rfl := Option.some.inj h
  exact ⟨(Value.tuple #[(Value.int .i64 (0)), (Value.int .i64 (0)), (Value.int .i64 (x1))]), (res3 rfl rfl rfl rfl), _, [], le1, I3, rfl, rfl⟩
 ·
  refine wp_cond_f (b := x1 != 0) rfl hc1 ?_
  refine wp_skip' ?_
  refine wp_seq' ?_
  refine wp_region' ?_
  refine wl_op rfl (op_load (v := (Value.pointer (some ⟨g1, 0, none⟩))) (e := a0) rfl sh24 rfl (p1.at_ I3) (fun u2 hu2 => ?_))
  obtain ⟨c3, e6, r3⟩ := Panel.inv hu2
  subst e6
  obtain ⟨z4, m4, k4, e7⟩ := rv_form r3
  subst e7
  refine wl_op rfl (op_move (v := (Value.int .i64 (a1))) rfl rfl ?_)
  refine wl_op rfl (op_move (v := (Value.slice z2 m2 k2)) rfl rfl ?_)
  obtain ⟨x2, hx2, h⟩ := bnd h
  refine wl_op rfl (op_call (vs := [(Value.agg #[(Value.int .i64 (a0.Sensors)), (Value.slice z4 m4 k4), (Value.int .i64 (a0.Stale)), (Value.int .i64 (a0.Limit))]), (Value.int .i64 (a1)), (Value.slice z2 m2 k2)]) rfl ca52 rfl (args3 rfl rfl rfl) (F52_ok I3 (Panel.rv (s := a0) r3) (h2_.mono le1) hx2) (fun v1 w3 S2 O1 le2 I4 hv1 => ?_))
  obtain ⟨z5, m5, k5, rfl, rfl⟩ := hv1
  refine wl_op rfl (op_assign (v := (Value.slice z5 m5 k5)) rfl rfl ?_)
  refine wl_nil ?_
  refine wp_seq' ?_
  refine wp_region' ?_
  refine wl_op rfl (op_assign (v := (Value.int .i64 ((-1)))) rfl rfl ?_)
  refine wl_op rfl (op_assign (v := (Value.int .i64 (0))) rfl rfl ?_)
  refine wl_op rfl (op_assign (v := (Value.int .i64 (0))) rfl rfl ?_)
  refine wl_nil ?_
  refine wp_seq' ?_
  refine wp_seq' ?_
  refine wp_region' ?_
  refine wl_op rfl (op_assign (v := (Value.int .i64 (0))) rfl rfl ?_)
  refine wl_nil ?_
  obtain ⟨x9, hx9, h⟩ := bnd h
  obtain ⟨out1, hrun1, h⟩ := bnd h
  refine wp_cutN (fun f w => Inv w S2 (Row (α := Ref08_Frame) 85 (Value.slice z5 m5 k5) (x2) :: Fr) ∧ f 1 = (Value.int .i64 (a1)) ∧ f 3 = (Value.int .i64 (a3)) ∧ f 12 = (Value.slice z5 m5 k5) ∧ f 13 = (Value.int .i64 (out1.1)) ∧ f 14 = (Value.int .i64 (out1.2.1)) ∧ f 15 = (Value.int .i64 (out1.2.2))) ?_ ?_
  ·
   refine wp_block' ?_
   refine wp_forS (I := fun (i1 : Nat) (s1 : (Int × Int × Int)) (f : Frm) (w : World) => Inv w S2 (Row (α := Ref08_Frame) 85 (Value.slice z5 m5 k5) (x2) :: Fr) ∧ f 1 = (Value.int .i64 (a1)) ∧ f 3 = (Value.int .i64 (a3)) ∧ f 12 = (Value.slice z5 m5 k5) ∧ f 13 = (Value.int .i64 (s1.1)) ∧ f 14 = (Value.int .i64 (s1.2.1)) ∧ f 15 = (Value.int .i64 (s1.2.2)) ∧ f 16 = (Value.int .i64 (i1 : Int))) hrun1 ⟨I4, rfl, rfl, rfl, rfl, rfl, rfl, rfl⟩ ?_ ?_
   ·
    rintro i1 s1 f w o1 hlt1 hI1 h1
    obtain ⟨I8, e32, e33, e34, e35, e36, e37, e38⟩ := hI1
    refine wp_seq' ?_
    refine wp_seq' ?_
    refine wp_region' ?_
    refine wl_op rfl (op_move (v := (Value.int .i64 ((i1 : Int)))) rfl e38 ?_)
    refine wl_op rfl (op_move (v := (Value.int .i64 (a1))) rfl e32 ?_)
    refine wl_op rfl (op_lss (a := (i1 : Int)) (b := a1) rfl rfl rfl ?_)
    refine wl_nil ?_
    refine wp_cond_t (b := decide ((i1 : Int) < a1)) rfl (cnt_t hx9 hlt1) ?_
    refine wp_skip' ?_
    refine wp_seq' ?_
    refine wp_block' ?_
    refine wp_seq' ?_
    refine wp_seq' ?_
    refine wp_region' ?_
    refine wl_op rfl (op_move (v := (Value.slice z5 m5 k5)) rfl e34 ?_)
    refine wl_op rfl (op_move (v := (Value.int .i64 ((i1 : Int)))) rfl e38 ?_)
    obtain ⟨x10, hx10, h1⟩ := bnd h1
    refine wl_op rfl (op_indexAddr_src (v := (Value.slice z5 m5 k5)) (i := (i1 : Int)) (e := x10) rfl Try.underlying80 sh85 rfl (Inv.rowSrc (I8.nth 0 rfl)) rfl hx10 ?_)
    refine wl_op rfl (op_fieldAddr_t (v := (elemPtr (Value.slice z5 m5 k5) ((i1 : Int)) (Enc.sz Ref08_Frame))) rfl fa85_4 rfl ((I8.nth 0 rfl).rowElem hx10) ?_)
    refine wl_op rfl (op_load (v := (fieldPtr (elemPtr (Value.slice z5 m5 k5) ((i1 : Int)) (Enc.sz Ref08_Frame)) 4)) (e := x10.Shut) rfl sh83 rfl (((I8.nth 0 rfl).rowElem hx10).fld Ref08_Frame.fld4) (fun u6 hu6 => ?_))
    obtain ⟨z9, m9, k9, e39⟩ := rv_form hu6
    subst e39
    refine wl_op rfl (op_move (v := (Value.int .i64 (a3))) rfl e33 ?_)
    obtain ⟨x11, hx11, h1⟩ := bnd h1
    refine wl_op rfl (op_indexAddr_rv (v := (Value.slice z9 m9 k9)) (i := a3) (e := x11) rfl Try.underlying83 sh4 rfl hu6 rfl hx11 ?_)
    refine wl_op rfl (op_load_bool (v := (elemPtr (Value.slice z9 m9 k9) (a3) (Enc.sz Bool))) (e := x11) rfl sh4 rfl (hu6.elem I8.in_ hx11) ?_)
    refine wl_op rfl (op_not (b := x11) rfl rfl ?_)
    refine wl_nil ?_
    rcases ifs h1 with ⟨hc8, h1⟩ | ⟨hc8, h1⟩
    ·
     refine wp_cond_t (b := !x11) rfl hc8 ?_
     refine wp_seq' ?_
     refine wp_region' ?_
     refine wl_op rfl (op_assign (v := (Value.int .i64 (0))) rfl rfl ?_)
     refine wl_nil ?_
     refine wp_exit' ?_
     refine wp_region' ?_
     refine wl_op rfl (op_move (v := (Value.int .i64 ((i1 : Int)))) rfl e38 ?_)
     refine wl_op rfl (op_add (a := (i1 : Int)) (b := 1) rfl rfl rfl ?_)
     refine wl_op rfl (op_assign (v := (Value.int .i64 (w64 ((i1 : Int) + 1)))) rfl rfl ?_)
     refine wl_nil ?_
     obtain rfl := Option.some.inj h1
     exact ⟨I8, e32, e33, e34, e35, e36, rfl, (idx_next hlt1 (cnt_le hx9))⟩
    ·
     refine wp_cond_f (b := !x11) rfl hc8 ?_
     refine wp_skip' ?_
     refine wp_seq' ?_
     refine wp_seq' ?_
     refine wp_region' ?_
     refine wl_op rfl (op_move (v := (Value.int .i64 (s1.1))) rfl e35 ?_)
     refine wl_op rfl (op_lss (a := s1.1) (b := 0) rfl rfl rfl ?_)
     refine wl_nil ?_
     rcases ifs h1 with ⟨hc9, h1⟩ | ⟨hc9, h1⟩
     ·
      refine wp_cond_t (b := decide (s1.1 < 0)) rfl hc9 ?_
      refine wp_region' ?_
      refine wl_op rfl (op_move (v := (Value.int .i64 ((i1 : Int)))) rfl e38 ?_)
      refine wl_op rfl (op_assign (v := (Value.int .i64 ((i1 : Int)))) rfl rfl ?_)
      refine wl_nil ?_
      refine wp_seq' ?_
      refine wp_region' ?_
      refine wl_op rfl (op_move (v := (Value.int .i64 (s1.2.2))) rfl e37 ?_)
      refine wl_op rfl (op_add (a := s1.2.2) (b := 1) rfl rfl rfl ?_)
      refine wl_op rfl (op_assign (v := (Value.int .i64 (w64 (s1.2.2 + 1)))) rfl rfl ?_)
      refine wl_nil ?_
      refine wp_region' ?_
      refine wl_op rfl (op_move (v := (Value.int .i64 (s1.2.1))) rfl e36 ?_)
      refine wl_op rfl (op_move (v := (Value.int .i64 (w64 (s1.2.2 + 1)))) rfl rfl ?_)
      refine wl_op rfl (op_max (a := s1.2.1) (b := w64 (s1.2.2 + 1)) rfl rfl rfl ?_)
      refine wl_op rfl (op_assign (v := (Value.int .i64 (maxI s1.2.1 (w64 (s1.2.2 + 1))))) rfl rfl ?_)
      refine wl_nil ?_
      refine wp_region' ?_
      refine wl_op rfl (op_move (v := (Value.int .i64 ((i1 : Int)))) rfl e38 ?_)
      refine wl_op rfl (op_add (a := (i1 : Int)) (b := 1) rfl rfl rfl ?_)
      refine wl_op rfl (op_assign (v := (Value.int .i64 (w64 ((i1 : Int) + 1)))) rfl rfl ?_)
      refine wl_nil ?_
      obtain rfl := Option.some.inj h1
      exact ⟨I8, e32, e33, e34, rfl, rfl, rfl, (idx_next hlt1 (cnt_le hx9))⟩
     ·
      refine wp_cond_f (b := decide (s1.1 < 0)) rfl hc9 ?_
      refine wp_skip' ?_
      refine wp_seq' ?_
      refine wp_region' ?_
      refine wl_op rfl (op_move (v := (Value.int .i64 (s1.2.2))) rfl e37 ?_)
      refine wl_op rfl (op_add (a := s1.2.2) (b := 1) rfl rfl rfl ?_)
      refine wl_op rfl (op_assign (v := (Value.int .i64 (w64 (s1.2.2 + 1)))) rfl rfl ?_)
      refine wl_nil ?_
      refine wp_region' ?_
      refine wl_op rfl (op_move (v := (Value.int .i64 (s1.2.1))) rfl e36 ?_)
      refine wl_op rfl (op_move (v := (Value.int .i64 (w64 (s1.2.2 + 1)))) rfl rfl ?_)
      refine wl_op rfl (op_max (a := s1.2.1) (b := w64 (s1.2.2 + 1)) rfl rfl rfl ?_)
      refine wl_op rfl (op_assign (v := (Value.int .i64 (maxI s1.2.1 (w64 (s1.2.2 + 1))))) rfl rfl ?_)
      refine wl_nil ?_
      refine wp_region' ?_
      refine wl_op rfl (op_move (v := (Value.int .i64 ((i1 : Int)))) rfl e38 ?_)
      refine wl_op rfl (op_add (a := (i1 : Int)) (b := 1) rfl rfl rfl ?_)
      refine wl_op rfl (op_assign (v := (Value.int .i64 (w64 ((i1 : Int) + 1)))) rfl rfl ?_)
      refine wl_nil ?_
      obtain rfl := Option.some.inj h1
      exact ⟨I8, e32, e33, e34, e35, rfl, rfl, (idx_next hlt1 (cnt_le hx9))⟩
   ·
    rintro f w hI2
    obtain ⟨I9, e40, e41, e42, e43, e44, e45, e46⟩ := hI2
    refine wp_seq' ?_
    refine wp_seq' ?_
    refine wp_region' ?_
    refine wl_op rfl (op_move (v := (Value.int .i64 ((x9 : Int)))) rfl e46 ?_)
    refine wl_op rfl (op_move (v := (Value.int .i64 (a1))) rfl e40 ?_)
    refine wl_op rfl (op_lss (a := (x9 : Int)) (b := a1) rfl rfl rfl ?_)
    refine wl_nil ?_
    refine wp_cond_f (b := decide ((x9 : Int) < a1)) rfl (cnt_f hx9) ?_
    refine wp_exit' ?_
    exact ⟨I9, e40, e41, e42, e43, e44, e45⟩
  ·
   rintro f w ⟨I10, e47, e48, e49, e50, e51, e52⟩
   refine wp_seq' ?_
   refine wp_region' ?_
   refine wl_op rfl (op_move (v := (Value.int .i64 (out1.1))) rfl e50 ?_)
   refine wl_op rfl (op_move (v := (Value.int .i64 (out1.2.1))) rfl e51 ?_)
   refine wl_op rfl (op_assign (v := (Value.int .i64 (out1.1))) rfl rfl ?_)
   refine wl_op rfl (op_assign (v := (Value.int .i64 (out1.2.1))) rfl rfl ?_)
   refine wl_op rfl (op_assign (v := (Value.int .i64 (0))) rfl rfl ?_)
   refine wl_nil ?_
   refine wp_ret' ?_
   obtain rfl := Option.some.inj h
   exact ⟨(Value.tuple #[(Value.int .i64 (out1.1)), (Value.int .i64 (out1.2.1)), (Value.int .i64 (0))]), (res3 rfl rfl rfl rfl), _, [], (le1.trans le2), (I10).drop, rfl, rfl⟩
end Go.Proofs.Ytfeomcdhhgeilaa.Pad
