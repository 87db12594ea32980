/- A part of the proof: what the functions of the program compute, shown over the model. -/
import Derived.Test.YtfeomcdhhgeilaaPadSP
import Derived.Test.YtfeomcdhhgeilaaPadSW14
import Derived.KernelRfl
set_option linter.unusedVariables false
namespace Go.Proofs.Ytfeomcdhhgeilaa.Pad
open Go Go.Proofs
set_option maxHeartbeats 4000000 in
set_option maxRecDepth 100000 in
theorem F35_ok {w : World} {S : PH} {Fr : List HP} {a0 : Panel} {v0 : Value} {a1 : Int} {a2 : (List Signal)} {v2 : Value} {a3 : (List Int)} {v3 : Value} {r : Int × Int × Int} (hI : Inv w S Fr) (h0_ : RV S v0 a0) (h2_ : RV S v2 a2) (h3_ : RV S v3 a3) (h : F35 a0 a1 a2 a3 = some r) :
    Calls Try.prog 35 [v0, (Value.int .i64 (a1)), v2, v3].toArray w (DoneV S Fr (Value.tuple #[(Value.int .i64 (r.1)), (Value.int .i64 (r.2.1)), (Value.int .i64 (r.2.2))])) := by
  unfold F35 at h
  obtain ⟨c1, e1, r1⟩ := Panel.inv h0_
  subst e1
  obtain ⟨z1, m1, k1, e2⟩ := rv_form r1
  subst e2
  obtain ⟨z2, m2, k2, e3⟩ := rv_form h2_
  subst e3
  obtain ⟨z3, m3, k3, e4⟩ := rv_form h3_
  subst e4
  refine calls_enter (n := 124) (vs := [(Value.agg #[(Value.int .i64 (a0.Sensors)), (Value.slice z1 m1 k1), (Value.int .i64 (a0.Stale)), (Value.int .i64 (a0.Limit))]), (Value.int .i64 (a1)), (Value.slice z2 m2 k2), (Value.slice z3 m3 k3)]) Try.func35 rfl rfl rfl ?_
  refine wp_seq' ?_
  refine wp_region' ?_
  refine wl_op rfl (op_box (v := (Value.agg #[(Value.int .i64 (a0.Sensors)), (Value.slice z1 m1 k1), (Value.int .i64 (a0.Stale)), (Value.int .i64 (a0.Limit))])) rfl hI rfl (fun g1 w1 I1 => ?_))
  obtain ⟨S1, le1, I2, p1⟩ := Inv.boxFreeze (x := a0) I1 (Panel.rv (s := a0) r1)
  refine wl_op rfl (op_assign (v := (Value.int .i64 (0))) rfl rfl ?_)
  refine wl_op rfl (op_assign (v := (Value.int .i64 (0))) rfl rfl ?_)
  refine wl_op rfl (op_assign (v := (Value.int .i64 (0))) rfl rfl ?_)
  refine wl_nil ?_
  refine wp_seq' ?_
  refine wp_seq' ?_
  refine wp_region' ?_
  refine wl_op rfl (op_load (v := (Value.pointer (some ⟨g1, 0, none⟩))) (e := a0) rfl sh24 rfl (p1.at_ I2) (fun u1 hu1 => ?_))
  obtain ⟨c2, e5, r2⟩ := Panel.inv hu1
  subst e5
  obtain ⟨z4, m4, k4, e6⟩ := rv_form r2
  subst e6
  refine wl_op rfl (op_move (v := (Value.int .i64 (a1))) rfl rfl ?_)
  refine wl_op rfl (op_move (v := (Value.slice z2 m2 k2)) rfl rfl ?_)
  obtain ⟨x1, hx1, h⟩ := bnd h
  refine wl_op rfl (op_call_v (vs := [(Value.agg #[(Value.int .i64 (a0.Sensors)), (Value.slice z4 m4 k4), (Value.int .i64 (a0.Stale)), (Value.int .i64 (a0.Limit))]), (Value.int .i64 (a1)), (Value.slice z2 m2 k2)]) (r := (Value.int .i64 (x1))) rfl ca51 rfl (args3 rfl rfl rfl) I2 (fun Fr_ hF_ => F51_ok hF_ (Panel.rv (s := a0) r2) (h2_.mono le1) hx1) (fun w2 I3 => ?_))
  refine wl_op rfl (op_assign (v := (Value.int .i64 (x1))) rfl rfl ?_)
  refine wl_nil ?_
  refine wp_seq' ?_
  refine wp_region' ?_
  refine wl_op rfl (op_move (v := (Value.int .i64 (x1))) rfl rfl ?_)
  refine wl_op rfl (op_neq (a := x1) (b := 0) rfl rfl rfl ?_)
  refine wl_nil ?_
  rcases ifs h with ⟨hc1, h⟩ | ⟨hc1, h⟩
  · refine wp_cond_t (b := x1 != 0) rfl hc1 ?_
    refine wp_seq' ?_
    refine wp_region' ?_
    refine wl_op rfl (op_move (v := (Value.int .i64 (x1))) rfl rfl ?_)
    refine wl_op rfl (op_assign (v := (Value.int .i64 (0))) rfl rfl ?_)
    refine wl_op rfl (op_assign (v := (Value.int .i64 (0))) rfl rfl ?_)
    refine wl_op rfl (op_assign (v := (Value.int .i64 (x1))) rfl rfl ?_)
    refine wl_nil ?_
    refine wp_ret' ?_
    obtain rfl := Option.some.inj h
    exact ⟨(Value.tuple #[(Value.int .i64 (0)), (Value.int .i64 (0)), (Value.int .i64 (x1))]), (res3 rfl rfl rfl rfl), _, [], le1, I3, rfl, rfl⟩
  · refine wp_cond_f (b := x1 != 0) rfl hc1 ?_
    refine wp_skip' ?_
    refine wp_seq' ?_
    refine wp_seq' ?_
    refine wp_region' ?_
    refine wl_op rfl (op_move (v := (Value.slice z3 m3 k3)) rfl rfl ?_)
    refine wl_op rfl (op_len_rv rfl Try.underlying34 rfl (h3_.mono le1) ?_)
    refine wl_op rfl (op_move (v := (Value.int .i64 (a1))) rfl rfl ?_)
    refine wl_op rfl (op_neq (a := (a3.length : Int)) (b := a1) rfl rfl rfl ?_)
    refine wl_nil ?_
    rcases ifs h with ⟨hc2, h⟩ | ⟨hc2, h⟩
    · refine wp_cond_t (b := (a3.length : Int) != a1) rfl hc2 ?_
      refine wp_seq' ?_
      refine wp_region' ?_
      refine wl_op rfl (op_assign (v := (Value.int .i64 (0))) rfl rfl ?_)
      refine wl_op rfl (op_assign (v := (Value.int .i64 (0))) rfl rfl ?_)
      refine wl_op rfl (op_assign (v := (Value.int .i64 (1))) rfl rfl ?_)
      refine wl_nil ?_
      refine wp_ret' ?_
      obtain rfl := Option.some.inj h
      exact ⟨(Value.tuple #[(Value.int .i64 (0)), (Value.int .i64 (0)), (Value.int .i64 (1))]), (res3 rfl rfl rfl rfl), _, [], le1, I3, rfl, rfl⟩
    · refine wp_cond_f (b := (a3.length : Int) != a1) rfl hc2 ?_
      refine wp_skip' ?_
      refine wp_seq' ?_
      refine wp_seq' ?_
      refine wp_region' ?_
      refine wl_op rfl (op_assign (v := (Value.int .i64 (0))) rfl rfl ?_)
      refine wl_nil ?_
      obtain ⟨x8, hx8, h⟩ := bnd h
      obtain ⟨o2, hrun1, h⟩ := bnd h
      refine wp_cutN (fun f w => ∃ out1, o2 = Sum.inl out1 ∧ ∃ (S_ : PH), S1.Le S_ ∧ Inv w S_ (Fr) ∧ f 1 = (Value.int .i64 (a1)) ∧ f 2 = (Value.slice z2 m2 k2) ∧ f 3 = (Value.slice z3 m3 k3) ∧ f 4 = (Value.pointer (some ⟨g1, 0, none⟩))) ?_ ?_
      · refine wp_block' ?_
        refine wp_forN (I := fun (i1 : Nat) (s1 : Unit) (f : Frm) (w : World) => ∃ (S_ : PH), S1.Le S_ ∧ Inv w S_ (Fr) ∧ f 1 = (Value.int .i64 (a1)) ∧ f 2 = (Value.slice z2 m2 k2) ∧ f 3 = (Value.slice z3 m3 k3) ∧ f 4 = (Value.pointer (some ⟨g1, 0, none⟩)) ∧ f 12 = (Value.int .i64 (i1 : Int))) hrun1 ⟨_, (PH.Le.refl _), I3, rfl, rfl, rfl, rfl, rfl⟩ ?_ ?_
        · rintro i1 s1 f w o1 hlt1 hI40 h1 hout1
          obtain ⟨S43, le43, I52, e43, e44, e45, e46, e47⟩ := hI40
          refine wp_seq' ?_
          refine wp_seq' ?_
          refine wp_region' ?_
          refine wl_op rfl (op_move (v := (Value.int .i64 ((i1 : Int)))) rfl e47 ?_)
          refine wl_op rfl (op_move (v := (Value.int .i64 (a1))) rfl e43 ?_)
          refine wl_op rfl (op_lss (a := (i1 : Int)) (b := a1) rfl rfl rfl ?_)
          refine wl_nil ?_
          refine wp_cond_t (b := decide ((i1 : Int) < a1)) rfl (cnt_t hx8 hlt1) ?_
          refine wp_skip' ?_
          refine wp_seq' ?_
          refine wp_block' ?_
          refine wp_seq' ?_
          obtain ⟨x9, hx9, h1⟩ := bnd h1
          obtain ⟨x10, hx10, h1⟩ := bnd h1
          refine wp_draw (sps := [⟨some 36, [], [0], fun vs_ T_ => fr0 vs_ 0 = (Value.slice z3 m3 k3), [], [], [], fun _ h_ => h_⟩, ⟨some 37, [], [1], fun vs_ T_ => fr0 vs_ 0 = (Value.int .i64 ((i1 : Int))), [], [], [], fun _ h_ => h_⟩, ⟨some 38, [0, 1], [2], fun vs_ T_ => fr0 vs_ 0 = (elemPtr (Value.slice z3 m3 k3) ((i1 : Int)) (Enc.sz Int)), [], [], [], fun _ h_ => h_⟩, ⟨some 39, [0, 1, 2], [3], fun vs_ T_ => fr0 vs_ 0 = (Value.int .i64 (x9)), [], [], [], fun _ h_ => h_⟩, ⟨some 40, [], [4], fun vs_ T_ => fr0 vs_ 0 = (fieldPtr (Value.pointer (some ⟨g1, 0, none⟩)) 1), [], [], [], fun _ h_ => h_⟩, ⟨some 41, [4], [5], fun vs_ T_ => RV T_ (fr0 vs_ 0) a0.Doors, [], [], [], fun hle_ h_ => h_.mono hle_⟩, ⟨some 42, [4, 5], [6], fun vs_ T_ => fr0 vs_ 0 = (Value.int .i64 ((a0.Doors.length : Int))), [], [], [], fun _ h_ => h_⟩, ⟨some 43, [4, 5, 6], [7], fun vs_ T_ => fr0 vs_ 0 = (Value.int .u64 (wu64 (a0.Doors.length : Int))), [], [], [], fun _ h_ => h_⟩, ⟨some 44, [4, 5, 6, 7], [8], fun vs_ T_ => fr0 vs_ 0 = (Value.int .i64 (shlI 1 (wu64 (a0.Doors.length : Int)))), [], [], [], fun _ h_ => h_⟩, ⟨some 45, [4, 5, 6, 7, 8], [9], fun vs_ T_ => fr0 vs_ 0 = (Value.int .i64 (w64 ((shlI 1 (wu64 (a0.Doors.length : Int))) - 1))), [], [], [], fun _ h_ => h_⟩, ⟨some 46, [0, 1, 2, 3, 4, 5, 6, 7, 8, 9], [10], fun vs_ T_ => fr0 vs_ 0 = (Value.bool (x10)), [], [], [], fun _ h_ => h_⟩, ⟨some 47, [0, 1, 2, 3, 4, 5, 6, 7, 8, 9, 10], [11], fun vs_ T_ => fr0 vs_ 0 = (Value.bool (!x10)), [], [], [], fun _ h_ => h_⟩]) (tks := []) (O := Fr) rfl (by kernel_rfl) I52 ⟨?_, ?_, ?_, ?_, ?_, ?_, ?_, ?_, ?_, ?_, ?_, ?_, trivial⟩ ?_
          · intro vs40 f w49 S44 X37 le44 hA37 hK40 hI41
            have I54 : Inv w49 S44 (X37) := hI41
            refine opg_plain rfl rfl (op_move (v := (Value.slice z3 m3 k3)) rfl ((hK40 3 (keep_of rfl)).trans e45) ?_)
            refine ⟨_, _, rfl, PH.Le.refl _, ?_, ?_⟩
            · exact rfl
            · exact I54
          · intro vs41 f w50 S45 X38 le45 hA38 hK41 hI42
            have I55 : Inv w50 S45 (X38) := hI42
            refine opg_plain rfl rfl (op_move (v := (Value.int .i64 ((i1 : Int)))) rfl ((hK41 12 (keep_of rfl)).trans e47) ?_)
            refine ⟨_, _, rfl, PH.Le.refl _, ?_, ?_⟩
            · exact rfl
            · exact I55
          · intro vs42 f w51 S46 X39 le46 hA39 hK42 hI43
            have I56 : Inv w51 S46 (X39) := hI43
            have q37 : f 36 = (Value.slice z3 m3 k3) := vt (hA39.at_ 0 rfl _ rfl) rfl
            have q38 : f 37 = (Value.int .i64 ((i1 : Int))) := vt (hA39.at_ 1 rfl _ rfl) rfl
            refine opg_plain rfl rfl (op_indexAddr_rv (v := (Value.slice z3 m3 k3)) (i := (i1 : Int)) (e := x9) rfl Try.underlying34 sh3 q37 (h3_.mono ((le1.trans le43).trans le46)) q38 hx9 ?_)
            refine ⟨_, _, rfl, PH.Le.refl _, ?_, ?_⟩
            · exact rfl
            · exact I56
          · intro vs43 f w52 S47 X40 le47 hA40 hK43 hI44
            have I57 : Inv w52 S47 (X40) := hI44
            have q39 : f 38 = (elemPtr (Value.slice z3 m3 k3) ((i1 : Int)) (Enc.sz Int)) := vt (hA40.at_ 2 rfl _ rfl) rfl
            refine opg_plain rfl rfl (op_load_int (v := (elemPtr (Value.slice z3 m3 k3) ((i1 : Int)) (Enc.sz Int))) (e := x9) rfl sh3 q39 ((h3_.mono ((le1.trans le43).trans le47)).elem I57.in_ hx9) ?_)
            refine ⟨_, _, rfl, PH.Le.refl _, ?_, ?_⟩
            · exact rfl
            · exact I57
          · intro vs44 f w53 S48 X41 le48 hA41 hK44 hI45
            have I58 : Inv w53 S48 (X41) := hI45
            refine opg_plain rfl rfl (op_fieldAddr_t (v := (Value.pointer (some ⟨g1, 0, none⟩))) rfl fa24_1 ((hK44 4 (keep_of rfl)).trans e46) ((p1.mono (le43.trans le48)).at_ I58) ?_)
            refine ⟨_, _, rfl, PH.Le.refl _, ?_, ?_⟩
            · exact rfl
            · exact I58
          · intro vs45 f w54 S49 X42 le49 hA42 hK45 hI46
            have I59 : Inv w54 S49 (X42) := hI46
            have q40 : f 40 = (fieldPtr (Value.pointer (some ⟨g1, 0, none⟩)) 1) := vt (hA42.at_ 0 rfl _ rfl) rfl
            refine opg_plain rfl rfl (op_load (v := (fieldPtr (Value.pointer (some ⟨g1, 0, none⟩)) 1)) (e := a0.Doors) rfl sh22 q40 (((p1.mono (le43.trans le49)).at_ I59).fld Panel.fld1) (fun u12 hu12 => ?_))
            obtain ⟨z11, m11, k11, e48⟩ := rv_form hu12
            subst e48
            refine ⟨_, _, rfl, PH.Le.refl _, ?_, ?_⟩
            · exact hu12
            · exact I59
          · intro vs46 f w55 S50 X43 le50 hA43 hK46 hI47
            have I60 : Inv w55 S50 (X43) := hI47
            have q41 : f 41 = vs46 5 := (hA43.at_ 1 rfl _ rfl).1 _ rfl
            have r6 : RV S50 (vs46 5) a0.Doors := (hA43.at_ 1 rfl _ rfl).2
            obtain ⟨u13, hu13⟩ : ∃ u, vs46 5 = u := ⟨_, rfl⟩
            rw [hu13] at q41 r6
            obtain ⟨z12, m12, k12, e49⟩ := rv_form r6
            subst e49
            refine opg_plain rfl rfl (op_len_rv rfl Try.underlying22 q41 r6 ?_)
            refine ⟨_, _, rfl, PH.Le.refl _, ?_, ?_⟩
            · exact rfl
            · exact I60
          · intro vs47 f w56 S51 X44 le51 hA44 hK47 hI48
            have I61 : Inv w56 S51 (X44) := hI48
            have q42 : f 42 = (Value.int .i64 ((a0.Doors.length : Int))) := vt (hA44.at_ 2 rfl _ rfl) rfl
            refine opg_plain rfl rfl (op_toU (a := (a0.Doors.length : Int)) rfl q42 Try.underlying3 Try.underlying63 ?_)
            refine ⟨_, _, rfl, PH.Le.refl _, ?_, ?_⟩
            · exact rfl
            · exact I61
          · intro vs48 f w57 S52 X45 le52 hA45 hK48 hI49
            have I62 : Inv w57 S52 (X45) := hI49
            have q43 : f 43 = (Value.int .u64 (wu64 (a0.Doors.length : Int))) := vt (hA45.at_ 3 rfl _ rfl) rfl
            refine opg_plain rfl rfl (op_shl (a := 1) (b := wu64 (a0.Doors.length : Int)) rfl rfl q43 (wu64_nonneg _) ?_)
            refine ⟨_, _, rfl, PH.Le.refl _, ?_, ?_⟩
            · exact rfl
            · exact I62
          · intro vs49 f w58 S53 X46 le53 hA46 hK49 hI50
            have I63 : Inv w58 S53 (X46) := hI50
            have q44 : f 44 = (Value.int .i64 (shlI 1 (wu64 (a0.Doors.length : Int)))) := vt (hA46.at_ 4 rfl _ rfl) rfl
            refine opg_plain rfl rfl (op_sub (a := shlI 1 (wu64 (a0.Doors.length : Int))) (b := 1) rfl q44 rfl ?_)
            refine ⟨_, _, rfl, PH.Le.refl _, ?_, ?_⟩
            · exact rfl
            · exact I63
          · intro vs50 f w59 S54 X47 le54 hA47 hK50 hI51
            have I64 : Inv w59 S54 (X47) := hI51
            have q45 : f 39 = (Value.int .i64 (x9)) := vt (hA47.at_ 3 rfl _ rfl) rfl
            have q46 : f 45 = (Value.int .i64 (w64 ((shlI 1 (wu64 (a0.Doors.length : Int))) - 1))) := vt (hA47.at_ 9 rfl _ rfl) rfl
            refine opg_plain rfl rfl (op_call_v (vs := [(Value.int .i64 (x9)), (Value.int .i64 (0)), (Value.int .i64 (w64 ((shlI 1 (wu64 (a0.Doors.length : Int))) - 1)))]) (r := (Value.bool (x10))) rfl ca43 rfl (args3 q45 rfl q46) I64 (fun Fr_ hF_ => F43_ok hF_  hx10) (fun w60 I65 => ?_))
            refine ⟨_, _, rfl, PH.Le.refl _, ?_, ?_⟩
            · exact rfl
            · exact I65
          · intro vs51 f w61 S55 X48 le55 hA48 hK51 hI52
            have I66 : Inv w61 S55 (X48) := hI52
            have q47 : f 46 = (Value.bool (x10)) := vt (hA48.at_ 10 rfl _ rfl) rfl
            refine opg_plain rfl rfl (op_not (b := x10) rfl q47 ?_)
            refine ⟨_, _, rfl, PH.Le.refl _, ?_, ?_⟩
            · exact rfl
            · exact I66
          · intro vs52 f w62 S56 le56 hF4 hK52 hI53
            have e50 : f 1 = (Value.int .i64 (a1)) := (hK52 1 (keep_all rfl)).trans e43
            have e51 : f 2 = (Value.slice z2 m2 k2) := (hK52 2 (keep_all rfl)).trans e44
            have e52 : f 3 = (Value.slice z3 m3 k3) := (hK52 3 (keep_all rfl)).trans e45
            have e53 : f 4 = (Value.pointer (some ⟨g1, 0, none⟩)) := (hK52 4 (keep_all rfl)).trans e46
            have e54 : f 12 = (Value.int .i64 ((i1 : Int))) := (hK52 12 (keep_all rfl)).trans e47
            have I67 : Inv w62 S56 (Fr) := hI53
            have q48 : f 47 = (Value.bool (!x10)) := vt (hF4.at_ 11 rfl _ rfl) rfl
            rcases ifs h1 with ⟨hc6, h1⟩ | ⟨hc6, h1⟩
            · refine wp_cond_t (b := !x10) q48 hc6 ?_
              refine wp_seq' ?_
              refine wp_region' ?_
              refine wl_op rfl (op_assign (v := (Value.int .i64 (0))) rfl rfl ?_)
              refine wl_op rfl (op_assign (v := (Value.int .i64 (0))) rfl rfl ?_)
              refine wl_op rfl (op_assign (v := (Value.int .i64 (1))) rfl rfl ?_)
              refine wl_nil ?_
              refine wp_ret' ?_
              obtain rfl := Option.some.inj h1
              obtain rfl := (hout1 _ rfl)
              have h2 := h
              obtain rfl := Option.some.inj h2
              exact ⟨(Value.tuple #[(Value.int .i64 (0)), (Value.int .i64 (0)), (Value.int .i64 (1))]), (res3 rfl rfl rfl rfl), _, [], ((le1.trans le43).trans le56), I67, rfl, rfl⟩
            · refine wp_cond_f (b := !x10) q48 hc6 ?_
              refine wp_skip' ?_
              refine wp_region' ?_
              refine wl_op rfl (op_move (v := (Value.int .i64 ((i1 : Int)))) rfl e54 ?_)
              refine wl_op rfl (op_add (a := (i1 : Int)) (b := 1) rfl rfl rfl ?_)
              refine wl_op rfl (op_assign (v := (Value.int .i64 (w64 ((i1 : Int) + 1)))) rfl rfl ?_)
              refine wl_nil ?_
              obtain rfl := Option.some.inj h1
              exact ⟨_, rfl, _, (le43.trans le56), I67, e50, e51, e52, e53, (idx_next hlt1 (cnt_le hx8))⟩
        · rintro s2 f w hs1 hI54
          obtain ⟨S57, le57, I68, e55, e56, e57, e58, e59⟩ := hI54
          refine wp_seq' ?_
          refine wp_seq' ?_
          refine wp_region' ?_
          refine wl_op rfl (op_move (v := (Value.int .i64 ((x8 : Int)))) rfl e59 ?_)
          refine wl_op rfl (op_move (v := (Value.int .i64 (a1))) rfl e55 ?_)
          refine wl_op rfl (op_lss (a := (x8 : Int)) (b := a1) rfl rfl rfl ?_)
          refine wl_nil ?_
          refine wp_cond_f (b := decide ((x8 : Int) < a1)) rfl (cnt_f hx8) ?_
          refine wp_exit' ?_
          exact ⟨s2, hs1, _, le57, I68, e55, e56, e57, e58⟩
      · rintro f w ⟨out1, rfl, S58, le58, I69, e60, e61, e62, e63⟩
        have h := onL_inl h
        refine wp_seq' ?_
        refine wp_region' ?_
        refine wl_op rfl (op_load (v := (Value.pointer (some ⟨g1, 0, none⟩))) (e := a0) rfl sh24 e63 ((p1.mono le58).at_ I69) (fun u14 hu14 => ?_))
        obtain ⟨c3, e64, r7⟩ := Panel.inv hu14
        subst e64
        obtain ⟨z13, m13, k13, e65⟩ := rv_form r7
        subst e65
        refine wl_op rfl (op_move (v := (Value.int .i64 (a1))) rfl e60 ?_)
        refine wl_op rfl (op_move (v := (Value.slice z2 m2 k2)) rfl e61 ?_)
        obtain ⟨x11, hx11, h⟩ := bnd h
        refine wl_op rfl (op_call (vs := [(Value.agg #[(Value.int .i64 (a0.Sensors)), (Value.slice z13 m13 k13), (Value.int .i64 (a0.Stale)), (Value.int .i64 (a0.Limit))]), (Value.int .i64 (a1)), (Value.slice z2 m2 k2)]) rfl ca52 rfl (args3 rfl rfl rfl) (F52_ok I69 (Panel.rv (s := a0) r7) (h2_.mono (le1.trans le58)) hx11) (fun v1 w63 S59 O1 le59 I70 hv1 => ?_))
        obtain ⟨z14, m14, k14, rfl, rfl⟩ := hv1
        refine wl_op rfl (op_assign (v := (Value.slice z14 m14 k14)) rfl rfl ?_)
        refine wl_nil ?_
        refine wp_seq' ?_
        refine wp_region' ?_
        refine wl_op rfl (op_load (v := (Value.pointer (some ⟨g1, 0, none⟩))) (e := a0) rfl sh24 e63 ((p1.mono (le58.trans le59)).at_ I70) (fun u15 hu15 => ?_))
        obtain ⟨c4, e66, r8⟩ := Panel.inv hu15
        subst e66
        obtain ⟨z15, m15, k15, e67⟩ := rv_form r8
        subst e67
        obtain ⟨x12, hx12, h⟩ := bnd h
        refine wl_op rfl (op_call_v (vs := [(Value.agg #[(Value.int .i64 (a0.Sensors)), (Value.slice z15 m15 k15), (Value.int .i64 (a0.Stale)), (Value.int .i64 (a0.Limit))])]) (r := (Value.tuple #[(Value.int .i64 (x12.1)), (Value.int .i64 (x12.2))])) rfl ca38 rfl (args1 rfl) I70 (fun Fr_ hF_ => F38_ok hF_ (Panel.rv (s := a0) r8) hx12) (fun w65 I71 => ?_))
        refine wl_op rfl (op_move (v := (Value.tuple #[(Value.int .i64 (x12.1)), (Value.int .i64 (x12.2))])) rfl rfl ?_)
        refine wl_op rfl (op_extract (v := (Value.int .i64 (x12.1))) rfl rfl rfl ?_)
        refine wl_op rfl (op_extract (v := (Value.int .i64 (x12.2))) rfl rfl rfl ?_)
        refine wl_op rfl (op_assign (v := (Value.int .i64 (x12.1))) rfl rfl ?_)
        refine wl_op rfl (op_assign (v := (Value.int .i64 (x12.2))) rfl rfl ?_)
        refine wl_nil ?_
        refine wp_seq' ?_
        refine wp_seq' ?_
        refine wp_region' ?_
        refine wl_op rfl (op_assign (v := (Value.int .i64 (0))) rfl rfl ?_)
        refine wl_nil ?_
        obtain ⟨x127, hx127, h⟩ := bnd h
        obtain ⟨o14, hrun10, h⟩ := bnd h
        refine wp_cutN (fun f w => ∃ out10, o14 = Sum.inl out10 ∧ Inv w S59 (Row (α := Ref08_Frame) 85 (Value.slice z14 m14 k14) (x11) :: Fr) ∧ f 1 = (Value.int .i64 (a1)) ∧ f 3 = (Value.slice z3 m3 k3) ∧ f 4 = (Value.pointer (some ⟨g1, 0, none⟩)) ∧ f 13 = (Value.slice z14 m14 k14) ∧ f 14 = (Value.int .i64 (x12.1))) ?_ ?_
        · refine wp_block' ?_
          refine wp_forN (I := fun (i4 : Nat) (s13 : Unit) (f : Frm) (w : World) => Inv w S59 (Row (α := Ref08_Frame) 85 (Value.slice z14 m14 k14) (x11) :: Fr) ∧ f 1 = (Value.int .i64 (a1)) ∧ f 3 = (Value.slice z3 m3 k3) ∧ f 4 = (Value.pointer (some ⟨g1, 0, none⟩)) ∧ f 13 = (Value.slice z14 m14 k14) ∧ f 14 = (Value.int .i64 (x12.1)) ∧ f 16 = (Value.int .i64 (i4 : Int))) hrun10 ⟨I71, e60, e62, e63, rfl, rfl, rfl⟩ ?_ ?_
          · rintro i4 s13 f w o13 hlt4 hI65 h37 hout10
            obtain ⟨I138, e696, e697, e698, e699, e700, e701⟩ := hI65
            refine wp_seq' ?_
            refine wp_seq' ?_
            refine wp_region' ?_
            refine wl_op rfl (op_move (v := (Value.int .i64 ((i4 : Int)))) rfl e701 ?_)
            refine wl_op rfl (op_move (v := (Value.int .i64 (a1))) rfl e696 ?_)
            refine wl_op rfl (op_lss (a := (i4 : Int)) (b := a1) rfl rfl rfl ?_)
            refine wl_nil ?_
            refine wp_cond_t (b := decide ((i4 : Int) < a1)) rfl (cnt_t hx127 hlt4) ?_
            refine wp_skip' ?_
            refine wp_seq' ?_
            refine wp_block' ?_
            refine wp_seq' ?_
            refine wp_region' ?_
            refine wl_op rfl (op_assign (v := (Value.int .i64 (0))) rfl rfl ?_)
            refine wl_nil ?_
            have hk3 : a0.Doors.length ≤ 9223372036854775807 := (rv_len r8)
            obtain ⟨o18, hrun13, h37⟩ := bnd h37
            refine wp_cutN (fun f w => ∃ out13, o18 = Sum.inl out13 ∧ Inv w S59 (Row (α := Ref08_Frame) 85 (Value.slice z14 m14 k14) (x11) :: Fr) ∧ f 1 = (Value.int .i64 (a1)) ∧ f 3 = (Value.slice z3 m3 k3) ∧ f 4 = (Value.pointer (some ⟨g1, 0, none⟩)) ∧ f 13 = (Value.slice z14 m14 k14) ∧ f 14 = (Value.int .i64 (x12.1)) ∧ f 16 = (Value.int .i64 ((i4 : Int)))) ?_ ?_
            · refine wp_block' ?_
              refine wp_forN (I := fun (i5 : Nat) (s16 : Unit) (f : Frm) (w : World) => Inv w S59 (Row (α := Ref08_Frame) 85 (Value.slice z14 m14 k14) (x11) :: Fr) ∧ f 1 = (Value.int .i64 (a1)) ∧ f 3 = (Value.slice z3 m3 k3) ∧ f 4 = (Value.pointer (some ⟨g1, 0, none⟩)) ∧ f 13 = (Value.slice z14 m14 k14) ∧ f 14 = (Value.int .i64 (x12.1)) ∧ f 16 = (Value.int .i64 ((i4 : Int))) ∧ f 17 = (Value.int .i64 (i5 : Int))) hrun13 ⟨I138, e696, e697, e698, e699, e700, e701, rfl⟩ ?_ ?_
              · rintro i5 s16 f w o17 hlt5 hI68 h49 hout13
                obtain ⟨I159, e898, e899, e900, e901, e902, e903, e904⟩ := hI68
                refine wp_seq' ?_
                refine wp_seq' ?_
                refine wp_region' ?_
                refine wl_op rfl (op_move (v := (Value.int .i64 ((i5 : Int)))) rfl e904 ?_)
                refine wl_op rfl (op_fieldAddr_t (v := (Value.pointer (some ⟨g1, 0, none⟩))) rfl fa24_1 e900 ((p1.mono (le58.trans le59)).at_ I159) ?_)
                refine wl_op rfl (op_load (v := (fieldPtr (Value.pointer (some ⟨g1, 0, none⟩)) 1)) (e := a0.Doors) rfl sh22 rfl (((p1.mono (le58.trans le59)).at_ I159).fld Panel.fld1) (fun u107 hu107 => ?_))
                obtain ⟨z107, m107, k107, e906⟩ := rv_form hu107
                subst e906
                refine wl_op rfl (op_len_rv rfl Try.underlying22 rfl hu107 ?_)
                refine wl_op rfl (op_lss (a := (i5 : Int)) (b := (a0.Doors.length : Int)) rfl rfl rfl ?_)
                refine wl_nil ?_
                refine wp_cond_t (b := decide ((i5 : Int) < (a0.Doors.length : Int))) rfl (len_t hlt5) ?_
                refine wp_skip' ?_
                refine wp_seq' ?_
                refine wp_block' ?_
                refine wp_seq' ?_
                refine wp_region' ?_
                refine wl_op rfl (op_assign (v := (Value.bool (false))) rfl rfl ?_)
                refine wl_nil ?_
                refine wp_seq' ?_
                refine wp_seq' ?_
                refine wp_region' ?_
                refine wl_op rfl (op_move (v := (Value.int .i64 ((i4 : Int)))) rfl e903 ?_)
                refine wl_op rfl (op_fieldAddr_t (v := (Value.pointer (some ⟨g1, 0, none⟩))) rfl fa24_1 e900 ((p1.mono (le58.trans le59)).at_ I159) ?_)
                refine wl_op rfl (op_load (v := (fieldPtr (Value.pointer (some ⟨g1, 0, none⟩)) 1)) (e := a0.Doors) rfl sh22 rfl (((p1.mono (le58.trans le59)).at_ I159).fld Panel.fld1) (fun u108 hu108 => ?_))
                obtain ⟨z108, m108, k108, e907⟩ := rv_form hu108
                subst e907
                refine wl_op rfl (op_move (v := (Value.int .i64 ((i5 : Int)))) rfl e904 ?_)
                obtain ⟨x166, hx166, h49⟩ := bnd h49
                refine wl_op rfl (op_indexAddr_rv (v := (Value.slice z108 m108 k108)) (i := (i5 : Int)) (e := x166) rfl Try.underlying22 sh33 rfl hu108 rfl hx166 ?_)
                refine wl_op rfl (op_fieldAddr_t (v := (elemPtr (Value.slice z108 m108 k108) ((i5 : Int)) (Enc.sz Gate))) rfl fa33_0 rfl (hu108.elem I159.in_ hx166) ?_)
                refine wl_op rfl (op_load_int (v := (fieldPtr (elemPtr (Value.slice z108 m108 k108) ((i5 : Int)) (Enc.sz Gate)) 0)) (e := x166.Wait) rfl sh3 rfl ((hu108.elem I159.in_ hx166).fld Gate.fld0) ?_)
                refine wl_op rfl (op_sub (a := (i4 : Int)) (b := x166.Wait) rfl rfl rfl ?_)
                refine wl_op rfl (op_add (a := w64 ((i4 : Int) - x166.Wait)) (b := 1) rfl rfl rfl ?_)
                refine wl_op rfl (op_max (a := 0) (b := w64 ((w64 ((i4 : Int) - x166.Wait)) + 1)) rfl rfl rfl ?_)
                refine wl_op rfl (op_assign (v := (Value.int .i64 (maxI 0 (w64 ((w64 ((i4 : Int) - x166.Wait)) + 1))))) rfl rfl ?_)
                refine wl_nil ?_
                obtain ⟨out14, hrun14, h49⟩ := bnd h49
                refine wp_cutN (fun f w => Inv w S59 (Row (α := Ref08_Frame) 85 (Value.slice z14 m14 k14) (x11) :: Fr) ∧ f 1 = (Value.int .i64 (a1)) ∧ f 3 = (Value.slice z3 m3 k3) ∧ f 4 = (Value.pointer (some ⟨g1, 0, none⟩)) ∧ f 13 = (Value.slice z14 m14 k14) ∧ f 14 = (Value.int .i64 (x12.1)) ∧ f 16 = (Value.int .i64 ((i4 : Int))) ∧ f 17 = (Value.int .i64 ((i5 : Int))) ∧ f 18 = (Value.bool (out14.1)) ∧ f 19 = (Value.int .i64 (out14.2))) ?_ ?_
                · refine wp_block' ?_
                  refine wp_whileO (I := fun (s17 : (Bool × Int)) (f : Frm) (w : World) => Inv w S59 (Row (α := Ref08_Frame) 85 (Value.slice z14 m14 k14) (x11) :: Fr) ∧ f 1 = (Value.int .i64 (a1)) ∧ f 3 = (Value.slice z3 m3 k3) ∧ f 4 = (Value.pointer (some ⟨g1, 0, none⟩)) ∧ f 13 = (Value.slice z14 m14 k14) ∧ f 14 = (Value.int .i64 (x12.1)) ∧ f 16 = (Value.int .i64 ((i4 : Int))) ∧ f 17 = (Value.int .i64 ((i5 : Int))) ∧ f 18 = (Value.bool (s17.1)) ∧ f 19 = (Value.int .i64 (s17.2))) hrun14 ⟨I159, e898, e899, e900, e901, e902, e903, e904, rfl, rfl⟩ ?_
                  rintro s17 f w o19 hI69 h51 hout14
                  obtain ⟨I166, e968, e969, e970, e971, e972, e973, e974, e975, e976⟩ := hI69
                  refine wp_seq' ?_
                  refine wp_seq' ?_
                  refine wp_region' ?_
                  refine wl_op rfl (op_move (v := (Value.int .i64 (s17.2))) rfl e976 ?_)
                  refine wl_op rfl (op_move (v := (Value.int .i64 ((i4 : Int)))) rfl e973 ?_)
                  refine wl_op rfl (op_leq (a := s17.2) (b := (i4 : Int)) rfl rfl rfl ?_)
                  refine wl_nil ?_
                  rcases ifs h51 with ⟨hc169, h51⟩ | ⟨hc169, h51⟩
                  · refine wp_cond_t (b := decide (s17.2 ≤ (i4 : Int))) rfl hc169 ?_
                    refine wp_skip' ?_
                    refine wp_seq' ?_
                    refine wp_block' ?_
                    refine wp_region' ?_
                    refine wl_op rfl (op_move (v := (Value.bool (s17.1))) rfl e975 ?_)
                    refine wl_op rfl (op_move (v := (Value.bool (s17.1))) rfl rfl ?_)
                    rcases ifs h51 with ⟨hc170, h51⟩ | ⟨hc170, h51⟩
                    · refine wl_skip (c := s17.1) rfl rfl rfl rfl hc170 rfl ?_
                      refine wl_skip (c := s17.1) rfl rfl rfl rfl hc170 rfl ?_
                      refine wl_skip (c := s17.1) rfl rfl rfl rfl hc170 rfl ?_
                      refine wl_skip (c := s17.1) rfl rfl rfl rfl hc170 rfl ?_
                      refine wl_skip (c := s17.1) rfl rfl rfl rfl hc170 rfl ?_
                      refine wl_skip (c := s17.1) rfl rfl rfl rfl hc170 rfl ?_
                      refine wl_skip (c := s17.1) rfl rfl rfl rfl hc170 rfl ?_
                      refine wl_skip (c := s17.1) rfl rfl rfl rfl hc170 rfl ?_
                      refine wl_skip (c := s17.1) rfl rfl rfl rfl hc170 rfl ?_
                      refine wl_op rfl (op_pick_t (c := s17.1) (a := (Value.bool (true))) rfl rfl hc170 rfl ?_)
                      refine wl_op rfl (op_assign (v := (Value.bool (true))) rfl rfl ?_)
                      refine wl_nil ?_
                      refine wp_region' ?_
                      refine wl_op rfl (op_move (v := (Value.int .i64 (s17.2))) rfl e976 ?_)
                      refine wl_op rfl (op_add (a := s17.2) (b := 1) rfl rfl rfl ?_)
                      refine wl_op rfl (op_assign (v := (Value.int .i64 (w64 (s17.2 + 1)))) rfl rfl ?_)
                      refine wl_nil ?_
                      obtain rfl := Option.some.inj h51
                      exact ⟨_, rfl, I166, e968, e969, e970, e971, e972, e973, e974, rfl, rfl⟩
                    · refine wl_taken (c := s17.1) rfl rfl rfl rfl hc170 (op_move (v := (Value.slice z14 m14 k14)) rfl e971 ?_)
                      refine wl_taken (c := s17.1) rfl rfl rfl rfl hc170 (op_move (v := (Value.int .i64 (s17.2))) rfl e976 ?_)
                      obtain ⟨x179, hx179, h51⟩ := bnd h51
                      refine wl_taken (c := s17.1) rfl rfl rfl rfl hc170 (op_indexAddr_src (v := (Value.slice z14 m14 k14)) (i := s17.2) (e := x179) rfl Try.underlying80 sh85 rfl (Inv.rowSrc (I166.nth 0 rfl)) rfl hx179 ?_)
                      refine wl_taken (c := s17.1) rfl rfl rfl rfl hc170 (op_fieldAddr_t (v := (elemPtr (Value.slice z14 m14 k14) (s17.2) (Enc.sz Ref08_Frame))) rfl fa85_3 rfl ((I166.nth 0 rfl).rowElem hx179) ?_)
                      refine wl_taken (c := s17.1) rfl rfl rfl rfl hc170 (op_load (v := (fieldPtr (elemPtr (Value.slice z14 m14 k14) (s17.2) (Enc.sz Ref08_Frame)) 3)) (e := x179.Told) rfl sh34 rfl (((I166.nth 0 rfl).rowElem hx179).fld Ref08_Frame.fld3) (fun u115 hu115 => ?_))
                      obtain ⟨z115, m115, k115, e977⟩ := rv_form hu115
                      subst e977
                      refine wl_taken (c := s17.1) rfl rfl rfl rfl hc170 (op_move (v := (Value.int .i64 ((i5 : Int)))) rfl e974 ?_)
                      obtain ⟨x180, hx180, h51⟩ := bnd h51
                      refine wl_taken (c := s17.1) rfl rfl rfl rfl hc170 (op_indexAddr_rv (v := (Value.slice z115 m115 k115)) (i := (i5 : Int)) (e := x180) rfl Try.underlying34 sh3 rfl hu115 rfl hx180 ?_)
                      refine wl_taken (c := s17.1) rfl rfl rfl rfl hc170 (op_load_int (v := (elemPtr (Value.slice z115 m115 k115) ((i5 : Int)) (Enc.sz Int))) (e := x180) rfl sh3 rfl (hu115.elem I166.in_ hx180) ?_)
                      refine wl_taken (c := s17.1) rfl rfl rfl rfl hc170 (op_eql (a := x180) (b := 1) rfl rfl rfl ?_)
                      refine wl_op rfl (op_pick_f (c := s17.1) (b := (Value.bool (x180 == 1))) rfl rfl hc170 rfl ?_)
                      refine wl_op rfl (op_assign (v := (Value.bool (x180 == 1))) rfl rfl ?_)
                      refine wl_nil ?_
                      refine wp_region' ?_
                      refine wl_op rfl (op_move (v := (Value.int .i64 (s17.2))) rfl e976 ?_)
                      refine wl_op rfl (op_add (a := s17.2) (b := 1) rfl rfl rfl ?_)
                      refine wl_op rfl (op_assign (v := (Value.int .i64 (w64 (s17.2 + 1)))) rfl rfl ?_)
                      refine wl_nil ?_
                      obtain rfl := Option.some.inj h51
                      exact ⟨_, rfl, I166, e968, e969, e970, e971, e972, e973, e974, rfl, rfl⟩
                  · refine wp_cond_f (b := decide (s17.2 ≤ (i4 : Int))) rfl hc169 ?_
                    refine wp_exit' ?_
                    obtain rfl := Option.some.inj h51
                    obtain rfl := (hout14 _ rfl)
                    exact ⟨I166, e968, e969, e970, e971, e972, e973, e974, e975, e976⟩
                · rintro f w ⟨I167, e978, e979, e980, e981, e982, e983, e984, e985, e986⟩
                  obtain ⟨v10, h54, h49⟩ := bnd h49
                  refine wp_cut (fun f w => Inv w S59 (Row (α := Ref08_Frame) 85 (Value.slice z14 m14 k14) (x11) :: Fr) ∧ f 1 = (Value.int .i64 (a1)) ∧ f 3 = (Value.slice z3 m3 k3) ∧ f 4 = (Value.pointer (some ⟨g1, 0, none⟩)) ∧ f 13 = (Value.slice z14 m14 k14) ∧ f 14 = (Value.int .i64 (x12.1)) ∧ f 16 = (Value.int .i64 ((i4 : Int))) ∧ f 17 = (Value.int .i64 ((i5 : Int))) ∧ f 121 = (Value.bool (v10))) ?_ ?_
                  · refine wp_region' ?_
                    refine wl_op rfl (op_move (v := (Value.slice z3 m3 k3)) rfl e979 ?_)
                    refine wl_op rfl (op_move (v := (Value.int .i64 ((i4 : Int)))) rfl e983 ?_)
                    obtain ⟨x183, hx183, h54⟩ := bnd h54
                    refine wl_op rfl (op_indexAddr_rv (v := (Value.slice z3 m3 k3)) (i := (i4 : Int)) (e := x183) rfl Try.underlying34 sh3 rfl (h3_.mono ((le1.trans le58).trans le59)) rfl hx183 ?_)
                    refine wl_op rfl (op_load_int (v := (elemPtr (Value.slice z3 m3 k3) ((i4 : Int)) (Enc.sz Int))) (e := x183) rfl sh3 rfl ((h3_.mono ((le1.trans le58).trans le59)).elem I167.in_ hx183) ?_)
                    refine wl_op rfl (op_move (v := (Value.int .i64 ((i5 : Int)))) rfl e984 ?_)
                    refine wl_op rfl (op_toU (a := (i5 : Int)) rfl rfl Try.underlying3 Try.underlying63 ?_)
                    refine wl_op rfl (op_shr (a := x183) (b := wu64 (i5 : Int)) rfl rfl rfl (wu64_nonneg _) ?_)
                    refine wl_op rfl (op_and (a := shrI x183 (wu64 (i5 : Int))) (b := 1) rfl rfl rfl ?_)
                    refine wl_op rfl (op_eql (a := andI (shrI x183 (wu64 (i5 : Int))) 1) (b := 1) rfl rfl rfl ?_)
                    refine wl_op rfl (op_move (v := (Value.bool ((andI (shrI x183 (wu64 (i5 : Int))) 1) == 1))) rfl rfl ?_)
                    rcases ifs h54 with ⟨hc174, h54⟩ | ⟨hc174, h54⟩
                    · refine wl_taken (c := (andI (shrI x183 (wu64 (i5 : Int))) 1) == 1) rfl rfl rfl rfl hc174 (op_move (v := (Value.slice z14 m14 k14)) rfl e981 ?_)
                      refine wl_taken (c := (andI (shrI x183 (wu64 (i5 : Int))) 1) == 1) rfl rfl rfl rfl hc174 (op_move (v := (Value.int .i64 ((i4 : Int)))) rfl e983 ?_)
                      obtain ⟨x184, hx184, h54⟩ := bnd h54
                      refine wl_taken (c := (andI (shrI x183 (wu64 (i5 : Int))) 1) == 1) rfl rfl rfl rfl hc174 (op_indexAddr_src (v := (Value.slice z14 m14 k14)) (i := (i4 : Int)) (e := x184) rfl Try.underlying80 sh85 rfl (Inv.rowSrc (I167.nth 0 rfl)) rfl hx184 ?_)
                      refine wl_taken (c := (andI (shrI x183 (wu64 (i5 : Int))) 1) == 1) rfl rfl rfl rfl hc174 (op_fieldAddr_t (v := (elemPtr (Value.slice z14 m14 k14) ((i4 : Int)) (Enc.sz Ref08_Frame))) rfl fa85_0 rfl ((I167.nth 0 rfl).rowElem hx184) ?_)
                      refine wl_taken (c := (andI (shrI x183 (wu64 (i5 : Int))) 1) == 1) rfl rfl rfl rfl hc174 (op_load_bool (v := (fieldPtr (elemPtr (Value.slice z14 m14 k14) ((i4 : Int)) (Enc.sz Ref08_Frame)) 0)) (e := x184.Power) rfl sh4 rfl (((I167.nth 0 rfl).rowElem hx184).fld Ref08_Frame.fld0) ?_)
                      refine wl_taken (c := (andI (shrI x183 (wu64 (i5 : Int))) 1) == 1) rfl rfl rfl rfl hc174 (op_not (b := x184.Power) rfl rfl ?_)
                      refine wl_taken (c := (andI (shrI x183 (wu64 (i5 : Int))) 1) == 1) rfl rfl rfl rfl hc174 (op_move (v := (Value.bool (!x184.Power))) rfl rfl ?_)
                      rcases ifs h54 with ⟨hc175, h54⟩ | ⟨hc175, h54⟩
                      · refine wl_skip (c := !x184.Power) rfl rfl rfl rfl hc175 rfl ?_
                        refine wl_skip (c := !x184.Power) rfl rfl rfl rfl hc175 rfl ?_
                        refine wl_skip (c := !x184.Power) rfl rfl rfl rfl hc175 rfl ?_
                        refine wl_taken (c := (andI (shrI x183 (wu64 (i5 : Int))) 1) == 1) rfl rfl rfl rfl hc174 (op_pick_t (c := !x184.Power) (a := (Value.bool (true))) rfl rfl hc175 rfl ?_)
                        refine wl_taken (c := (andI (shrI x183 (wu64 (i5 : Int))) 1) == 1) rfl rfl rfl rfl hc174 (op_move (v := (Value.bool (true))) rfl rfl ?_)
                        refine wl_skip (c := true) rfl rfl rfl rfl rfl rfl ?_
                        refine wl_skip (c := true) rfl rfl rfl rfl rfl rfl ?_
                        refine wl_taken (c := (andI (shrI x183 (wu64 (i5 : Int))) 1) == 1) rfl rfl rfl rfl hc174 (op_pick_t (c := true) (a := (Value.bool (true))) rfl rfl rfl rfl ?_)
                        refine wl_op rfl (op_pick_t (c := (andI (shrI x183 (wu64 (i5 : Int))) 1) == 1) (a := (Value.bool (true))) rfl rfl hc174 rfl ?_)
                        refine wl_nil ?_
                        obtain rfl := Option.some.inj h54
                        exact ⟨I167, e978, e979, e980, e981, e982, e983, e984, rfl⟩
                      · refine wl_taken (c := !x184.Power) rfl rfl rfl rfl hc175 (op_move (v := (Value.int .i64 ((i4 : Int)))) rfl e983 ?_)
                        refine wl_taken (c := !x184.Power) rfl rfl rfl rfl hc175 (op_move (v := (Value.int .i64 (x12.1))) rfl e982 ?_)
                        refine wl_taken (c := !x184.Power) rfl rfl rfl rfl hc175 (op_geq (a := (i4 : Int)) (b := x12.1) rfl rfl rfl ?_)
                        refine wl_taken (c := (andI (shrI x183 (wu64 (i5 : Int))) 1) == 1) rfl rfl rfl rfl hc174 (op_pick_f (c := !x184.Power) (b := (Value.bool (decide (x12.1 ≤ (i4 : Int))))) rfl rfl hc175 rfl ?_)
                        refine wl_taken (c := (andI (shrI x183 (wu64 (i5 : Int))) 1) == 1) rfl rfl rfl rfl hc174 (op_move (v := (Value.bool (decide (x12.1 ≤ (i4 : Int))))) rfl rfl ?_)
                        rcases ifs h54 with ⟨hc176, h54⟩ | ⟨hc176, h54⟩
                        · refine wl_skip (c := decide (x12.1 ≤ (i4 : Int))) rfl rfl rfl rfl hc176 rfl ?_
                          refine wl_skip (c := decide (x12.1 ≤ (i4 : Int))) rfl rfl rfl rfl hc176 rfl ?_
                          refine wl_taken (c := (andI (shrI x183 (wu64 (i5 : Int))) 1) == 1) rfl rfl rfl rfl hc174 (op_pick_t (c := decide (x12.1 ≤ (i4 : Int))) (a := (Value.bool (true))) rfl rfl hc176 rfl ?_)
                          refine wl_op rfl (op_pick_t (c := (andI (shrI x183 (wu64 (i5 : Int))) 1) == 1) (a := (Value.bool (true))) rfl rfl hc174 rfl ?_)
                          refine wl_nil ?_
                          obtain rfl := Option.some.inj h54
                          exact ⟨I167, e978, e979, e980, e981, e982, e983, e984, rfl⟩
                        · refine wl_taken (c := decide (x12.1 ≤ (i4 : Int))) rfl rfl rfl rfl hc176 (op_move (v := (Value.bool (out14.1))) rfl e985 ?_)
                          refine wl_taken (c := decide (x12.1 ≤ (i4 : Int))) rfl rfl rfl rfl hc176 (op_not (b := out14.1) rfl rfl ?_)
                          refine wl_taken (c := (andI (shrI x183 (wu64 (i5 : Int))) 1) == 1) rfl rfl rfl rfl hc174 (op_pick_f (c := decide (x12.1 ≤ (i4 : Int))) (b := (Value.bool (!out14.1))) rfl rfl hc176 rfl ?_)
                          refine wl_op rfl (op_pick_t (c := (andI (shrI x183 (wu64 (i5 : Int))) 1) == 1) (a := (Value.bool (!out14.1))) rfl rfl hc174 rfl ?_)
                          refine wl_nil ?_
                          obtain rfl := Option.some.inj h54
                          exact ⟨I167, e978, e979, e980, e981, e982, e983, e984, rfl⟩
                    · refine wl_skip (c := (andI (shrI x183 (wu64 (i5 : Int))) 1) == 1) rfl rfl rfl rfl hc174 rfl ?_
                      refine wl_skip (c := (andI (shrI x183 (wu64 (i5 : Int))) 1) == 1) rfl rfl rfl rfl hc174 rfl ?_
                      refine wl_skip (c := (andI (shrI x183 (wu64 (i5 : Int))) 1) == 1) rfl rfl rfl rfl hc174 rfl ?_
                      refine wl_skip (c := (andI (shrI x183 (wu64 (i5 : Int))) 1) == 1) rfl rfl rfl rfl hc174 rfl ?_
                      refine wl_skip (c := (andI (shrI x183 (wu64 (i5 : Int))) 1) == 1) rfl rfl rfl rfl hc174 rfl ?_
                      refine wl_skip (c := (andI (shrI x183 (wu64 (i5 : Int))) 1) == 1) rfl rfl rfl rfl hc174 rfl ?_
                      refine wl_skip (c := (andI (shrI x183 (wu64 (i5 : Int))) 1) == 1) rfl rfl rfl rfl hc174 rfl ?_
                      refine wl_skip_u rfl rfl rfl rfl rfl ?_
                      refine wl_skip_u rfl rfl rfl rfl rfl ?_
                      refine wl_skip_u rfl rfl rfl rfl rfl ?_
                      refine wl_skip (c := (andI (shrI x183 (wu64 (i5 : Int))) 1) == 1) rfl rfl rfl rfl hc174 rfl ?_
                      refine wl_skip (c := (andI (shrI x183 (wu64 (i5 : Int))) 1) == 1) rfl rfl rfl rfl hc174 rfl ?_
                      refine wl_skip_u rfl rfl rfl rfl rfl ?_
                      refine wl_skip_u rfl rfl rfl rfl rfl ?_
                      refine wl_skip (c := (andI (shrI x183 (wu64 (i5 : Int))) 1) == 1) rfl rfl rfl rfl hc174 rfl ?_
                      refine wl_op rfl (op_pick_f (c := (andI (shrI x183 (wu64 (i5 : Int))) 1) == 1) (b := (Value.bool (false))) rfl rfl hc174 rfl ?_)
                      refine wl_nil ?_
                      obtain rfl := Option.some.inj h54
                      exact ⟨I167, e978, e979, e980, e981, e982, e983, e984, rfl⟩
                  · rintro f w ⟨I168, e987, e988, e989, e990, e991, e992, e993, e994⟩
                    rcases ifs h49 with ⟨hc177, h49⟩ | ⟨hc177, h49⟩
                    · refine wp_cond_t (b := v10) e994 hc177 ?_
                      refine wp_seq' ?_
                      refine wp_region' ?_
                      refine wl_op rfl (op_move (v := (Value.int .i64 ((i4 : Int)))) rfl e992 ?_)
                      refine wl_op rfl (op_move (v := (Value.int .i64 ((i5 : Int)))) rfl e993 ?_)
                      refine wl_op rfl (op_assign (v := (Value.int .i64 ((i4 : Int)))) rfl rfl ?_)
                      refine wl_op rfl (op_assign (v := (Value.int .i64 ((i5 : Int)))) rfl rfl ?_)
                      refine wl_op rfl (op_assign (v := (Value.int .i64 (0))) rfl rfl ?_)
                      refine wl_nil ?_
                      refine wp_ret' ?_
                      obtain rfl := Option.some.inj h49
                      obtain rfl := (hout13 _ rfl)
                      have h50 := h37
                      obtain rfl := Option.some.inj h50
                      obtain rfl := (hout10 _ rfl)
                      have h38 := h
                      obtain rfl := Option.some.inj h38
                      exact ⟨(Value.tuple #[(Value.int .i64 ((i4 : Int))), (Value.int .i64 ((i5 : Int))), (Value.int .i64 (0))]), (res3 rfl rfl rfl rfl), _, [], ((le1.trans le58).trans le59), (I168).drop, rfl, rfl⟩
                    · refine wp_cond_f (b := v10) e994 hc177 ?_
                      refine wp_skip' ?_
                      refine wp_region' ?_
                      refine wl_op rfl (op_move (v := (Value.int .i64 ((i5 : Int)))) rfl e993 ?_)
                      refine wl_op rfl (op_add (a := (i5 : Int)) (b := 1) rfl rfl rfl ?_)
                      refine wl_op rfl (op_assign (v := (Value.int .i64 (w64 ((i5 : Int) + 1)))) rfl rfl ?_)
                      refine wl_nil ?_
                      obtain rfl := Option.some.inj h49
                      exact ⟨_, rfl, I168, e987, e988, e989, e990, e991, e992, (idx_next hlt5 hk3)⟩
              · rintro s18 f w hs4 hI70
                obtain ⟨I169, e995, e996, e997, e998, e999, e1000, e1001⟩ := hI70
                refine wp_seq' ?_
                refine wp_seq' ?_
                refine wp_region' ?_
                refine wl_op rfl (op_move (v := (Value.int .i64 ((a0.Doors.length : Int)))) rfl e1001 ?_)
                refine wl_op rfl (op_fieldAddr_t (v := (Value.pointer (some ⟨g1, 0, none⟩))) rfl fa24_1 e997 ((p1.mono (le58.trans le59)).at_ I169) ?_)
                refine wl_op rfl (op_load (v := (fieldPtr (Value.pointer (some ⟨g1, 0, none⟩)) 1)) (e := a0.Doors) rfl sh22 rfl (((p1.mono (le58.trans le59)).at_ I169).fld Panel.fld1) (fun u117 hu117 => ?_))
                obtain ⟨z117, m117, k117, e1003⟩ := rv_form hu117
                subst e1003
                refine wl_op rfl (op_len_rv rfl Try.underlying22 rfl hu117 ?_)
                refine wl_op rfl (op_lss (a := (a0.Doors.length : Int)) (b := (a0.Doors.length : Int)) rfl rfl rfl ?_)
                refine wl_nil ?_
                refine wp_cond_f (b := decide ((a0.Doors.length : Int) < (a0.Doors.length : Int))) rfl (len_f _) ?_
                refine wp_exit' ?_
                exact ⟨s18, hs4, I169, e995, e996, e997, e998, e999, e1000⟩
            · rintro f w ⟨out13, rfl, I170, e1004, e1005, e1006, e1007, e1008, e1009⟩
              have h37 := onL_inl h37
              refine wp_region' ?_
              refine wl_op rfl (op_move (v := (Value.int .i64 ((i4 : Int)))) rfl e1009 ?_)
              refine wl_op rfl (op_add (a := (i4 : Int)) (b := 1) rfl rfl rfl ?_)
              refine wl_op rfl (op_assign (v := (Value.int .i64 (w64 ((i4 : Int) + 1)))) rfl rfl ?_)
              refine wl_nil ?_
              obtain rfl := Option.some.inj h37
              exact ⟨_, rfl, I170, e1004, e1005, e1006, e1007, e1008, (idx_next hlt4 (cnt_le hx127))⟩
          · rintro s19 f w hs5 hI71
            obtain ⟨I171, e1010, e1011, e1012, e1013, e1014, e1015⟩ := hI71
            refine wp_seq' ?_
            refine wp_seq' ?_
            refine wp_region' ?_
            refine wl_op rfl (op_move (v := (Value.int .i64 ((x127 : Int)))) rfl e1015 ?_)
            refine wl_op rfl (op_move (v := (Value.int .i64 (a1))) rfl e1010 ?_)
            refine wl_op rfl (op_lss (a := (x127 : Int)) (b := a1) rfl rfl rfl ?_)
            refine wl_nil ?_
            refine wp_cond_f (b := decide ((x127 : Int) < a1)) rfl (cnt_f hx127) ?_
            refine wp_exit' ?_
            exact ⟨s19, hs5, I171, e1010, e1011, e1012, e1013, e1014⟩
        · rintro f w ⟨out10, rfl, I172, e1016, e1017, e1018, e1019, e1020⟩
          have h := onL_inl h
          refine wp_seq' ?_
          refine wp_region' ?_
          refine wl_op rfl (op_assign (v := (Value.int .i64 ((-1)))) rfl rfl ?_)
          refine wl_op rfl (op_assign (v := (Value.int .i64 ((-1)))) rfl rfl ?_)
          refine wl_op rfl (op_assign (v := (Value.int .i64 (0))) rfl rfl ?_)
          refine wl_nil ?_
          refine wp_ret' ?_
          obtain rfl := Option.some.inj h
          exact ⟨(Value.tuple #[(Value.int .i64 ((-1))), (Value.int .i64 ((-1))), (Value.int .i64 (0))]), (res3 rfl rfl rfl rfl), _, [], ((le1.trans le58).trans le59), (I172).drop, rfl, rfl⟩
end Go.Proofs.Ytfeomcdhhgeilaa.Pad
