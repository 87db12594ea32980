/- A part of the proof: what the functions of the program compute, shown over the model. -/
import Derived.Test.YtfeomcdhhgeilaaPadSP
import Derived.Test.YtfeomcdhhgeilaaPadSW1
import Derived.KernelRfl
set_option linter.unusedVariables false
namespace Go.Proofs.Ytfeomcdhhgeilaa.Pad
open Go Go.Proofs
set_option maxHeartbeats 4000000 in
set_option maxRecDepth 100000 in
theorem F32_ok {w : World} {S : PH} {Fr : List HP} {a0 : (List (List Int))} {v0 : Value} {a1 : (List (List Int))} {v1 : Value} {r : Bool} (hI : Inv w S Fr) (h0_ : RV S v0 a0) (h1_ : RV S v1 a1) (h : F32 a0 a1 = some r) :
    Calls Try.prog 32 [v0, v1].toArray w (DoneV S Fr (Value.bool (r))) := by
  unfold F32 at h
  obtain ⟨z1, m1, k1, e1⟩ := rv_form h0_
  subst e1
  obtain ⟨z2, m2, k2, e2⟩ := rv_form h1_
  subst e2
  refine calls_enter (n := 27) (vs := [(Value.slice z1 m1 k1), (Value.slice z2 m2 k2)]) Try.func32 rfl rfl rfl ?_
  refine wp_seq' ?_
  refine wp_region' ?_
  refine wl_op rfl (op_assign (v := (Value.bool (false))) rfl rfl ?_)
  refine wl_nil ?_
  refine wp_seq' ?_
  refine wp_seq' ?_
  refine wp_region' ?_
  refine wl_op rfl (op_move (v := (Value.slice z1 m1 k1)) rfl rfl ?_)
  refine wl_op rfl (op_len_rv rfl Try.underlying53 rfl h0_ ?_)
  refine wl_op rfl (op_move (v := (Value.slice z2 m2 k2)) rfl rfl ?_)
  refine wl_op rfl (op_len_rv rfl Try.underlying53 rfl h1_ ?_)
  refine wl_op rfl (op_neq (a := (a0.length : Int)) (b := (a1.length : Int)) rfl rfl rfl ?_)
  refine wl_nil ?_
  rcases ifs h with ⟨hc1, h⟩ | ⟨hc1, h⟩
  · refine wp_cond_t (b := (a0.length : Int) != (a1.length : Int)) rfl hc1 ?_
    refine wp_seq' ?_
    refine wp_region' ?_
    refine wl_op rfl (op_assign (v := (Value.bool (false))) rfl rfl ?_)
    refine wl_nil ?_
    refine wp_ret' ?_
    obtain rfl := Option.some.inj h
    exact ⟨(Value.bool (false)), (res1 rfl rfl), _, [], (PH.Le.refl _), hI, rfl, rfl⟩
  · refine wp_cond_f (b := (a0.length : Int) != (a1.length : Int)) rfl hc1 ?_
    refine wp_skip' ?_
    refine wp_seq' ?_
    refine wp_seq' ?_
    refine wp_region' ?_
    refine wl_op rfl (op_assign (v := (Value.int .i64 (0))) rfl rfl ?_)
    refine wl_nil ?_
    have hk1 : a0.length ≤ 9223372036854775807 := (rv_len h0_)
    obtain ⟨o2, hrun1, h⟩ := bnd h
    refine wp_cutN (fun f w => ∃ out1, o2 = Sum.inl out1 ∧ ∃ (S_ : PH), S.Le S_ ∧ Inv w S_ (Fr) ∧ f 0 = (Value.slice z1 m1 k1) ∧ f 1 = (Value.slice z2 m2 k2)) ?_ ?_
    · refine wp_block' ?_
      refine wp_forN (I := fun (i1 : Nat) (s1 : Unit) (f : Frm) (w : World) => ∃ (S_ : PH), S.Le S_ ∧ Inv w S_ (Fr) ∧ f 0 = (Value.slice z1 m1 k1) ∧ f 1 = (Value.slice z2 m2 k2) ∧ f 5 = (Value.int .i64 (i1 : Int))) hrun1 ⟨_, (PH.Le.refl _), hI, rfl, rfl, rfl⟩ ?_ ?_
      · rintro i1 s1 f w o1 hlt1 hI34 h1 hout1
        obtain ⟨S36, le36, I43, e33, e34, e35⟩ := hI34
        refine wp_seq' ?_
        refine wp_seq' ?_
        refine wp_region' ?_
        refine wl_op rfl (op_move (v := (Value.int .i64 ((i1 : Int)))) rfl e35 ?_)
        refine wl_op rfl (op_move (v := (Value.slice z1 m1 k1)) rfl e33 ?_)
        refine wl_op rfl (op_len_rv rfl Try.underlying53 rfl (h0_.mono le36) ?_)
        refine wl_op rfl (op_lss (a := (i1 : Int)) (b := (a0.length : Int)) rfl rfl rfl ?_)
        refine wl_nil ?_
        refine wp_cond_t (b := decide ((i1 : Int) < (a0.length : Int))) rfl (len_t hlt1) ?_
        refine wp_skip' ?_
        refine wp_seq' ?_
        refine wp_block' ?_
        refine wp_seq' ?_
        obtain ⟨x10, hx10, h1⟩ := bnd h1
        obtain ⟨x11, hx11, h1⟩ := bnd h1
        obtain ⟨x12, hx12, h1⟩ := bnd h1
        refine wp_draw (sps := [⟨some 17, [], [0], fun vs_ T_ => fr0 vs_ 0 = (Value.slice z1 m1 k1), [], [], [], fun _ h_ => h_⟩, ⟨some 18, [], [1], fun vs_ T_ => fr0 vs_ 0 = (Value.int .i64 ((i1 : Int))), [], [], [], fun _ h_ => h_⟩, ⟨some 19, [0, 1], [2], fun vs_ T_ => fr0 vs_ 0 = (elemPtr (Value.slice z1 m1 k1) ((i1 : Int)) (Enc.sz (List Int))), [], [], [], fun _ h_ => h_⟩, ⟨some 20, [0, 1, 2], [3], fun vs_ T_ => RV T_ (fr0 vs_ 0) x10, [], [], [], fun hle_ h_ => h_.mono hle_⟩, ⟨some 21, [], [4], fun vs_ T_ => fr0 vs_ 0 = (Value.slice z2 m2 k2), [], [], [], fun _ h_ => h_⟩, ⟨some 22, [], [5], fun vs_ T_ => fr0 vs_ 0 = (Value.int .i64 ((i1 : Int))), [], [], [], fun _ h_ => h_⟩, ⟨some 23, [4, 5], [6], fun vs_ T_ => fr0 vs_ 0 = (elemPtr (Value.slice z2 m2 k2) ((i1 : Int)) (Enc.sz (List Int))), [], [], [], fun _ h_ => h_⟩, ⟨some 24, [4, 5, 6], [7], fun vs_ T_ => RV T_ (fr0 vs_ 0) x11, [], [], [], fun hle_ h_ => h_.mono hle_⟩, ⟨some 25, [0, 1, 2, 3, 4, 5, 6, 7], [8], fun vs_ T_ => fr0 vs_ 0 = (Value.bool (x12)), [], [], [], fun _ h_ => h_⟩, ⟨some 26, [0, 1, 2, 3, 4, 5, 6, 7, 8], [9], fun vs_ T_ => fr0 vs_ 0 = (Value.bool (!x12)), [], [], [], fun _ h_ => h_⟩]) (tks := []) (O := Fr) rfl (by kernel_rfl) I43 ⟨?_, ?_, ?_, ?_, ?_, ?_, ?_, ?_, ?_, ?_, trivial⟩ ?_
        · intro vs34 f w41 S37 X31 le37 hA31 hK34 hI35
          have I45 : Inv w41 S37 (X31) := hI35
          refine opg_plain rfl rfl (op_move (v := (Value.slice z1 m1 k1)) rfl ((hK34 0 (keep_of rfl)).trans e33) ?_)
          refine ⟨_, _, rfl, PH.Le.refl _, ?_, ?_⟩
          · exact rfl
          · exact I45
        · intro vs35 f w42 S38 X32 le38 hA32 hK35 hI36
          have I46 : Inv w42 S38 (X32) := hI36
          refine opg_plain rfl rfl (op_move (v := (Value.int .i64 ((i1 : Int)))) rfl ((hK35 5 (keep_of rfl)).trans e35) ?_)
          refine ⟨_, _, rfl, PH.Le.refl _, ?_, ?_⟩
          · exact rfl
          · exact I46
        · intro vs36 f w43 S39 X33 le39 hA33 hK36 hI37
          have I47 : Inv w43 S39 (X33) := hI37
          have q31 : f 17 = (Value.slice z1 m1 k1) := vt (hA33.at_ 0 rfl _ rfl) rfl
          have q32 : f 18 = (Value.int .i64 ((i1 : Int))) := vt (hA33.at_ 1 rfl _ rfl) rfl
          refine opg_plain rfl rfl (op_indexAddr_rv (v := (Value.slice z1 m1 k1)) (i := (i1 : Int)) (e := x10) rfl Try.underlying53 sh34 q31 (h0_.mono (le36.trans le39)) q32 hx10 ?_)
          refine ⟨_, _, rfl, PH.Le.refl _, ?_, ?_⟩
          · exact rfl
          · exact I47
        · intro vs37 f w44 S40 X34 le40 hA34 hK37 hI38
          have I48 : Inv w44 S40 (X34) := hI38
          have q33 : f 19 = (elemPtr (Value.slice z1 m1 k1) ((i1 : Int)) (Enc.sz (List Int))) := vt (hA34.at_ 2 rfl _ rfl) rfl
          refine opg_plain rfl rfl (op_load (v := (elemPtr (Value.slice z1 m1 k1) ((i1 : Int)) (Enc.sz (List Int)))) (e := x10) rfl sh34 q33 ((h0_.mono (le36.trans le40)).elem I48.in_ hx10) (fun u21 hu21 => ?_))
          obtain ⟨z15, m15, k15, e36⟩ := rv_form hu21
          subst e36
          refine ⟨_, _, rfl, PH.Le.refl _, ?_, ?_⟩
          · exact hu21
          · exact I48
        · intro vs38 f w45 S41 X35 le41 hA35 hK38 hI39
          have I49 : Inv w45 S41 (X35) := hI39
          refine opg_plain rfl rfl (op_move (v := (Value.slice z2 m2 k2)) rfl ((hK38 1 (keep_of rfl)).trans e34) ?_)
          refine ⟨_, _, rfl, PH.Le.refl _, ?_, ?_⟩
          · exact rfl
          · exact I49
        · intro vs39 f w46 S42 X36 le42 hA36 hK39 hI40
          have I50 : Inv w46 S42 (X36) := hI40
          refine opg_plain rfl rfl (op_move (v := (Value.int .i64 ((i1 : Int)))) rfl ((hK39 5 (keep_of rfl)).trans e35) ?_)
          refine ⟨_, _, rfl, PH.Le.refl _, ?_, ?_⟩
          · exact rfl
          · exact I50
        · intro vs40 f w47 S43 X37 le43 hA37 hK40 hI41
          have I51 : Inv w47 S43 (X37) := hI41
          have q34 : f 21 = (Value.slice z2 m2 k2) := vt (hA37.at_ 0 rfl _ rfl) rfl
          have q35 : f 22 = (Value.int .i64 ((i1 : Int))) := vt (hA37.at_ 1 rfl _ rfl) rfl
          refine opg_plain rfl rfl (op_indexAddr_rv (v := (Value.slice z2 m2 k2)) (i := (i1 : Int)) (e := x11) rfl Try.underlying53 sh34 q34 (h1_.mono (le36.trans le43)) q35 hx11 ?_)
          refine ⟨_, _, rfl, PH.Le.refl _, ?_, ?_⟩
          · exact rfl
          · exact I51
        · intro vs41 f w48 S44 X38 le44 hA38 hK41 hI42
          have I52 : Inv w48 S44 (X38) := hI42
          have q36 : f 23 = (elemPtr (Value.slice z2 m2 k2) ((i1 : Int)) (Enc.sz (List Int))) := vt (hA38.at_ 2 rfl _ rfl) rfl
          refine opg_plain rfl rfl (op_load (v := (elemPtr (Value.slice z2 m2 k2) ((i1 : Int)) (Enc.sz (List Int)))) (e := x11) rfl sh34 q36 ((h1_.mono (le36.trans le44)).elem I52.in_ hx11) (fun u22 hu22 => ?_))
          obtain ⟨z16, m16, k16, e37⟩ := rv_form hu22
          subst e37
          refine ⟨_, _, rfl, PH.Le.refl _, ?_, ?_⟩
          · exact hu22
          · exact I52
        · intro vs42 f w49 S45 X39 le45 hA39 hK42 hI43
          have I53 : Inv w49 S45 (X39) := hI43
          have q37 : f 20 = vs42 3 := (hA39.at_ 3 rfl _ rfl).1 _ rfl
          have r7 : RV S45 (vs42 3) x10 := (hA39.at_ 3 rfl _ rfl).2
          obtain ⟨u23, hu23⟩ : ∃ u, vs42 3 = u := ⟨_, rfl⟩
          rw [hu23] at q37 r7
          obtain ⟨z17, m17, k17, e38⟩ := rv_form r7
          subst e38
          have q38 : f 24 = vs42 7 := (hA39.at_ 7 rfl _ rfl).1 _ rfl
          have r8 : RV S45 (vs42 7) x11 := (hA39.at_ 7 rfl _ rfl).2
          obtain ⟨u24, hu24⟩ : ∃ u, vs42 7 = u := ⟨_, rfl⟩
          rw [hu24] at q38 r8
          obtain ⟨z18, m18, k18, e39⟩ := rv_form r8
          subst e39
          refine opg_plain rfl rfl (op_call_v (vs := [(Value.slice z17 m17 k17), (Value.slice z18 m18 k18)]) (r := (Value.bool (x12))) rfl ca29 rfl (args2 q37 q38) I53 (fun Fr_ hF_ => F29_ok hF_ r7 r8 hx12) (fun w50 I54 => ?_))
          refine ⟨_, _, rfl, PH.Le.refl _, ?_, ?_⟩
          · exact rfl
          · exact I54
        · intro vs43 f w51 S46 X40 le46 hA40 hK43 hI44
          have I55 : Inv w51 S46 (X40) := hI44
          have q39 : f 25 = (Value.bool (x12)) := vt (hA40.at_ 8 rfl _ rfl) rfl
          refine opg_plain rfl rfl (op_not (b := x12) rfl q39 ?_)
          refine ⟨_, _, rfl, PH.Le.refl _, ?_, ?_⟩
          · exact rfl
          · exact I55
        · intro vs44 f w52 S47 le47 hF4 hK44 hI45
          have e40 : f 0 = (Value.slice z1 m1 k1) := (hK44 0 (keep_all rfl)).trans e33
          have e41 : f 1 = (Value.slice z2 m2 k2) := (hK44 1 (keep_all rfl)).trans e34
          have e42 : f 5 = (Value.int .i64 ((i1 : Int))) := (hK44 5 (keep_all rfl)).trans e35
          have I56 : Inv w52 S47 (Fr) := hI45
          have q40 : f 26 = (Value.bool (!x12)) := vt (hF4.at_ 9 rfl _ rfl) rfl
          rcases ifs h1 with ⟨hc5, h1⟩ | ⟨hc5, h1⟩
          · refine wp_cond_t (b := !x12) q40 hc5 ?_
            refine wp_seq' ?_
            refine wp_region' ?_
            refine wl_op rfl (op_assign (v := (Value.bool (false))) rfl rfl ?_)
            refine wl_nil ?_
            refine wp_ret' ?_
            obtain rfl := Option.some.inj h1
            obtain rfl := (hout1 _ rfl)
            have h2 := h
            obtain rfl := Option.some.inj h2
            exact ⟨(Value.bool (false)), (res1 rfl rfl), _, [], (le36.trans le47), I56, rfl, rfl⟩
          · refine wp_cond_f (b := !x12) q40 hc5 ?_
            refine wp_skip' ?_
            refine wp_region' ?_
            refine wl_op rfl (op_move (v := (Value.int .i64 ((i1 : Int)))) rfl e42 ?_)
            refine wl_op rfl (op_add (a := (i1 : Int)) (b := 1) rfl rfl rfl ?_)
            refine wl_op rfl (op_assign (v := (Value.int .i64 (w64 ((i1 : Int) + 1)))) rfl rfl ?_)
            refine wl_nil ?_
            obtain rfl := Option.some.inj h1
            exact ⟨_, rfl, _, (le36.trans le47), I56, e40, e41, (idx_next hlt1 hk1)⟩
      · rintro s2 f w hs1 hI46
        obtain ⟨S48, le48, I57, e43, e44, e45⟩ := hI46
        refine wp_seq' ?_
        refine wp_seq' ?_
        refine wp_region' ?_
        refine wl_op rfl (op_move (v := (Value.int .i64 ((a0.length : Int)))) rfl e45 ?_)
        refine wl_op rfl (op_move (v := (Value.slice z1 m1 k1)) rfl e43 ?_)
        refine wl_op rfl (op_len_rv rfl Try.underlying53 rfl (h0_.mono le48) ?_)
        refine wl_op rfl (op_lss (a := (a0.length : Int)) (b := (a0.length : Int)) rfl rfl rfl ?_)
        refine wl_nil ?_
        refine wp_cond_f (b := decide ((a0.length : Int) < (a0.length : Int))) rfl (len_f _) ?_
        refine wp_exit' ?_
        exact ⟨s2, hs1, _, le48, I57, e43, e44⟩
    · rintro f w ⟨out1, rfl, S49, le49, I58, e46, e47⟩
      have h := onL_inl h
      refine wp_seq' ?_
      refine wp_region' ?_
      refine wl_op rfl (op_assign (v := (Value.bool (true))) rfl rfl ?_)
      refine wl_nil ?_
      refine wp_ret' ?_
      obtain rfl := Option.some.inj h
      exact ⟨(Value.bool (true)), (res1 rfl rfl), _, [], le49, I58, rfl, rfl⟩

set_option maxHeartbeats 4000000 in
set_option maxRecDepth 100000 in
theorem F25_ok {w : World} {S : PH} {Fr : List HP} {a0 : (List Signal)} {v0 : Value} {a1 : (List Int)} {v1 : Value} {r : (List Signal)} (hI : Inv w S Fr) (h0_ : RV S v0 a0) (h1_ : RV S v1 a1) (h : F25 a0 a1 = some r) :
    Calls Try.prog 25 [v0, v1].toArray w (Done S Fr (fun T_ v_ O_ => ∃ (a0_ : Option Addr) (n0_ k0_ : Nat), v_ = (Value.slice a0_ n0_ k0_) ∧ O_ = [Row (α := Signal) 46 (Value.slice a0_ n0_ k0_) (r)])) := by
  unfold F25 at h
  obtain ⟨z1, m1, k1, e1⟩ := rv_form h0_
  subst e1
  obtain ⟨z2, m2, k2, e2⟩ := rv_form h1_
  subst e2
  refine calls_enter (n := 38) (vs := [(Value.slice z1 m1 k1), (Value.slice z2 m2 k2)]) Try.func25 rfl rfl rfl ?_
  refine wp_seq' ?_
  refine wp_region' ?_
  refine wl_op rfl (op_assign (v := (Value.slice none 0 0)) rfl rfl ?_)
  refine wl_nil ?_
  refine wp_seq' ?_
  refine wp_region' ?_
  refine wl_op rfl (op_assign (v := (Value.slice none 0 0)) rfl rfl ?_)
  refine wl_nil ?_
  refine wp_seq' ?_
  refine wp_seq' ?_
  refine wp_region' ?_
  refine wl_op rfl (op_assign (v := (Value.int .i64 (0))) rfl rfl ?_)
  refine wl_nil ?_
  have hk4 : a0.length ≤ 9223372036854775807 := (rv_len h0_)
  have I180 := Inv.rowNil (α := Signal) (T := 46) hI
  obtain ⟨out4, hrun4, h⟩ := bnd h
  refine wp_cutN (fun f w => ∃ (S_ : PH) (z45 : Option Addr) (m45 k45 : Nat), S.Le S_ ∧ Inv w S_ (Row (α := Signal) 46 (Value.slice z45 m45 k45) (out4) :: Fr) ∧ f 0 = (Value.slice z1 m1 k1) ∧ f 1 = (Value.slice z2 m2 k2) ∧ f 5 = (Value.slice z45 m45 k45)) ?_ ?_
  · refine wp_block' ?_
    refine wp_forS (I := fun (i4 : Nat) (s4 : (List Signal)) (f : Frm) (w : World) => ∃ (S_ : PH) (z44 : Option Addr) (m44 k44 : Nat), S.Le S_ ∧ Inv w S_ (Row (α := Signal) 46 (Value.slice z44 m44 k44) (s4) :: Fr) ∧ f 0 = (Value.slice z1 m1 k1) ∧ f 1 = (Value.slice z2 m2 k2) ∧ f 5 = (Value.slice z44 m44 k44) ∧ f 6 = (Value.int .i64 (i4 : Int))) hrun4 ⟨_, _, _, _, (PH.Le.refl _), I180, rfl, rfl, rfl, rfl⟩ ?_ ?_
    · rintro i4 s4 f w o4 hlt4 hI139 h7
      obtain ⟨S150, z44, m44, k44, le150, I181, e198, e199, e200, e201⟩ := hI139
      refine wp_seq' ?_
      refine wp_seq' ?_
      refine wp_region' ?_
      refine wl_op rfl (op_move (v := (Value.int .i64 ((i4 : Int)))) rfl e201 ?_)
      refine wl_op rfl (op_move (v := (Value.slice z1 m1 k1)) rfl e198 ?_)
      refine wl_op rfl (op_len_rv rfl Try.underlying25 rfl (h0_.mono le150) ?_)
      refine wl_op rfl (op_lss (a := (i4 : Int)) (b := (a0.length : Int)) rfl rfl rfl ?_)
      refine wl_nil ?_
      refine wp_cond_t (b := decide ((i4 : Int) < (a0.length : Int))) rfl (len_t hlt4) ?_
      refine wp_skip' ?_
      refine wp_seq' ?_
      refine wp_block' ?_
      refine wp_seq' ?_
      refine wp_region' ?_
      refine wl_op rfl (op_assign (v := (Value.int .i64 (0))) rfl rfl ?_)
      refine wl_nil ?_
      have hk5 : a1.length ≤ 9223372036854775807 := (rv_len h1_)
      obtain ⟨out5, hrun5, h7⟩ := bnd h7
      refine wp_cutN (fun f w => ∃ (S_ : PH) (z55 : Option Addr) (m55 k55 : Nat), S150.Le S_ ∧ Inv w S_ (Row (α := Signal) 46 (Value.slice z55 m55 k55) (out5) :: Fr) ∧ f 0 = (Value.slice z1 m1 k1) ∧ f 1 = (Value.slice z2 m2 k2) ∧ f 5 = (Value.slice z55 m55 k55) ∧ f 6 = (Value.int .i64 ((i4 : Int)))) ?_ ?_
      · refine wp_block' ?_
        refine wp_forS (I := fun (i5 : Nat) (s5 : (List Signal)) (f : Frm) (w : World) => ∃ (S_ : PH) (z54 : Option Addr) (m54 k54 : Nat), S150.Le S_ ∧ Inv w S_ (Row (α := Signal) 46 (Value.slice z54 m54 k54) (s5) :: Fr) ∧ f 0 = (Value.slice z1 m1 k1) ∧ f 1 = (Value.slice z2 m2 k2) ∧ f 5 = (Value.slice z54 m54 k54) ∧ f 6 = (Value.int .i64 ((i4 : Int))) ∧ f 7 = (Value.int .i64 (i5 : Int))) hrun5 ⟨_, _, _, _, (PH.Le.refl _), I181, e198, e199, e200, e201, rfl⟩ ?_ ?_
        · rintro i5 s5 f w o5 hlt5 hI173 h9
          obtain ⟨S186, z54, m54, k54, le186, I224, e241, e242, e243, e244, e245⟩ := hI173
          refine wp_seq' ?_
          refine wp_seq' ?_
          refine wp_region' ?_
          refine wl_op rfl (op_move (v := (Value.int .i64 ((i5 : Int)))) rfl e245 ?_)
          refine wl_op rfl (op_move (v := (Value.slice z2 m2 k2)) rfl e242 ?_)
          refine wl_op rfl (op_len_rv rfl Try.underlying34 rfl (h1_.mono (le150.trans le186)) ?_)
          refine wl_op rfl (op_lss (a := (i5 : Int)) (b := (a1.length : Int)) rfl rfl rfl ?_)
          refine wl_nil ?_
          refine wp_cond_t (b := decide ((i5 : Int) < (a1.length : Int))) rfl (len_t hlt5) ?_
          refine wp_skip' ?_
          refine wp_seq' ?_
          refine wp_block' ?_
          refine wp_seq' ?_
          obtain ⟨x61, hx61, h9⟩ := bnd h9
          obtain ⟨x62, hx62, h9⟩ := bnd h9
          refine wp_draw (sps := [⟨some 20, [], [0], fun vs_ T_ => fr0 vs_ 0 = (Value.slice z1 m1 k1), [], [], [], fun _ h_ => h_⟩, ⟨some 21, [], [1], fun vs_ T_ => fr0 vs_ 0 = (Value.int .i64 ((i4 : Int))), [], [], [], fun _ h_ => h_⟩, ⟨some 22, [0, 1], [2], fun vs_ T_ => fr0 vs_ 0 = (elemPtr (Value.slice z1 m1 k1) ((i4 : Int)) (Enc.sz Signal)), [], [], [], fun _ h_ => h_⟩, ⟨some 23, [0, 1, 2], [3], fun vs_ T_ => fr0 vs_ 0 = (fieldPtr (elemPtr (Value.slice z1 m1 k1) ((i4 : Int)) (Enc.sz Signal)) 1), [], [], [], fun _ h_ => h_⟩, ⟨some 24, [0, 1, 2, 3], [4], fun vs_ T_ => fr0 vs_ 0 = (Value.int .i64 (x61.Kind)), [], [], [], fun _ h_ => h_⟩, ⟨some 25, [], [5], fun vs_ T_ => fr0 vs_ 0 = (Value.slice z2 m2 k2), [], [], [], fun _ h_ => h_⟩, ⟨some 26, [], [6], fun vs_ T_ => fr0 vs_ 0 = (Value.int .i64 ((i5 : Int))), [], [], [], fun _ h_ => h_⟩, ⟨some 27, [5, 6], [7], fun vs_ T_ => fr0 vs_ 0 = (elemPtr (Value.slice z2 m2 k2) ((i5 : Int)) (Enc.sz Int)), [], [], [], fun _ h_ => h_⟩, ⟨some 28, [5, 6, 7], [8], fun vs_ T_ => fr0 vs_ 0 = (Value.int .i64 (x62)), [], [], [], fun _ h_ => h_⟩, ⟨some 29, [0, 1, 2, 3, 4, 5, 6, 7, 8], [9], fun vs_ T_ => fr0 vs_ 0 = (Value.bool (x61.Kind == x62)), [], [], [], fun _ h_ => h_⟩]) (tks := []) (O := Row (α := Signal) 46 (Value.slice z54 m54 k54) (s5) :: Fr) rfl (by kernel_rfl) I224 ⟨?_, ?_, ?_, ?_, ?_, ?_, ?_, ?_, ?_, ?_, trivial⟩ ?_
          · intro vs166 f w197 S187 X151 le187 hA151 hK166 hI174
            have I225 : Inv w197 S187 (X151) := hI174
            refine opg_plain rfl rfl (op_move (v := (Value.slice z1 m1 k1)) rfl ((hK166 0 (keep_of rfl)).trans e241) ?_)
            refine ⟨_, _, rfl, PH.Le.refl _, ?_, ?_⟩
            · exact rfl
            · exact I225
          · intro vs167 f w198 S188 X152 le188 hA152 hK167 hI175
            have I226 : Inv w198 S188 (X152) := hI175
            refine opg_plain rfl rfl (op_move (v := (Value.int .i64 ((i4 : Int)))) rfl ((hK167 6 (keep_of rfl)).trans e244) ?_)
            refine ⟨_, _, rfl, PH.Le.refl _, ?_, ?_⟩
            · exact rfl
            · exact I226
          · intro vs168 f w199 S189 X153 le189 hA153 hK168 hI176
            have I227 : Inv w199 S189 (X153) := hI176
            have q151 : f 20 = (Value.slice z1 m1 k1) := vt (hA153.at_ 0 rfl _ rfl) rfl
            have q152 : f 21 = (Value.int .i64 ((i4 : Int))) := vt (hA153.at_ 1 rfl _ rfl) rfl
            refine opg_plain rfl rfl (op_indexAddr_rv (v := (Value.slice z1 m1 k1)) (i := (i4 : Int)) (e := x61) rfl Try.underlying25 sh46 q151 (h0_.mono ((le150.trans le186).trans le189)) q152 hx61 ?_)
            refine ⟨_, _, rfl, PH.Le.refl _, ?_, ?_⟩
            · exact rfl
            · exact I227
          · intro vs169 f w200 S190 X154 le190 hA154 hK169 hI177
            have I228 : Inv w200 S190 (X154) := hI177
            have q153 : f 22 = (elemPtr (Value.slice z1 m1 k1) ((i4 : Int)) (Enc.sz Signal)) := vt (hA154.at_ 2 rfl _ rfl) rfl
            refine opg_plain rfl rfl (op_fieldAddr_t (v := (elemPtr (Value.slice z1 m1 k1) ((i4 : Int)) (Enc.sz Signal))) rfl fa46_1 q153 ((h0_.mono ((le150.trans le186).trans le190)).elem I228.in_ hx61) ?_)
            refine ⟨_, _, rfl, PH.Le.refl _, ?_, ?_⟩
            · exact rfl
            · exact I228
          · intro vs170 f w201 S191 X155 le191 hA155 hK170 hI178
            have I229 : Inv w201 S191 (X155) := hI178
            have q154 : f 23 = (fieldPtr (elemPtr (Value.slice z1 m1 k1) ((i4 : Int)) (Enc.sz Signal)) 1) := vt (hA155.at_ 3 rfl _ rfl) rfl
            refine opg_plain rfl rfl (op_load_int (v := (fieldPtr (elemPtr (Value.slice z1 m1 k1) ((i4 : Int)) (Enc.sz Signal)) 1)) (e := x61.Kind) rfl sh3 q154 (((h0_.mono ((le150.trans le186).trans le191)).elem I229.in_ hx61).fld Signal.fld1) ?_)
            refine ⟨_, _, rfl, PH.Le.refl _, ?_, ?_⟩
            · exact rfl
            · exact I229
          · intro vs171 f w202 S192 X156 le192 hA156 hK171 hI179
            have I230 : Inv w202 S192 (X156) := hI179
            refine opg_plain rfl rfl (op_move (v := (Value.slice z2 m2 k2)) rfl ((hK171 1 (keep_of rfl)).trans e242) ?_)
            refine ⟨_, _, rfl, PH.Le.refl _, ?_, ?_⟩
            · exact rfl
            · exact I230
          · intro vs172 f w203 S193 X157 le193 hA157 hK172 hI180
            have I231 : Inv w203 S193 (X157) := hI180
            refine opg_plain rfl rfl (op_move (v := (Value.int .i64 ((i5 : Int)))) rfl ((hK172 7 (keep_of rfl)).trans e245) ?_)
            refine ⟨_, _, rfl, PH.Le.refl _, ?_, ?_⟩
            · exact rfl
            · exact I231
          · intro vs173 f w204 S194 X158 le194 hA158 hK173 hI181
            have I232 : Inv w204 S194 (X158) := hI181
            have q155 : f 25 = (Value.slice z2 m2 k2) := vt (hA158.at_ 0 rfl _ rfl) rfl
            have q156 : f 26 = (Value.int .i64 ((i5 : Int))) := vt (hA158.at_ 1 rfl _ rfl) rfl
            refine opg_plain rfl rfl (op_indexAddr_rv (v := (Value.slice z2 m2 k2)) (i := (i5 : Int)) (e := x62) rfl Try.underlying34 sh3 q155 (h1_.mono ((le150.trans le186).trans le194)) q156 hx62 ?_)
            refine ⟨_, _, rfl, PH.Le.refl _, ?_, ?_⟩
            · exact rfl
            · exact I232
          · intro vs174 f w205 S195 X159 le195 hA159 hK174 hI182
            have I233 : Inv w205 S195 (X159) := hI182
            have q157 : f 27 = (elemPtr (Value.slice z2 m2 k2) ((i5 : Int)) (Enc.sz Int)) := vt (hA159.at_ 2 rfl _ rfl) rfl
            refine opg_plain rfl rfl (op_load_int (v := (elemPtr (Value.slice z2 m2 k2) ((i5 : Int)) (Enc.sz Int))) (e := x62) rfl sh3 q157 ((h1_.mono ((le150.trans le186).trans le195)).elem I233.in_ hx62) ?_)
            refine ⟨_, _, rfl, PH.Le.refl _, ?_, ?_⟩
            · exact rfl
            · exact I233
          · intro vs175 f w206 S196 X160 le196 hA160 hK175 hI183
            have I234 : Inv w206 S196 (X160) := hI183
            have q158 : f 24 = (Value.int .i64 (x61.Kind)) := vt (hA160.at_ 4 rfl _ rfl) rfl
            have q159 : f 28 = (Value.int .i64 (x62)) := vt (hA160.at_ 8 rfl _ rfl) rfl
            refine opg_plain rfl rfl (op_eql (a := x61.Kind) (b := x62) rfl q158 q159 ?_)
            refine ⟨_, _, rfl, PH.Le.refl _, ?_, ?_⟩
            · exact rfl
            · exact I234
          · intro vs176 f w207 S197 le197 hF16 hK176 hI184
            have e246 : f 0 = (Value.slice z1 m1 k1) := (hK176 0 (keep_all rfl)).trans e241
            have e247 : f 1 = (Value.slice z2 m2 k2) := (hK176 1 (keep_all rfl)).trans e242
            have e248 : f 5 = (Value.slice z54 m54 k54) := (hK176 5 (keep_all rfl)).trans e243
            have e249 : f 6 = (Value.int .i64 ((i4 : Int))) := (hK176 6 (keep_all rfl)).trans e244
            have e250 : f 7 = (Value.int .i64 ((i5 : Int))) := (hK176 7 (keep_all rfl)).trans e245
            have I235 : Inv w207 S197 (Row (α := Signal) 46 (Value.slice z54 m54 k54) (s5) :: Fr) := hI184
            have q160 : f 29 = (Value.bool (x61.Kind == x62)) := vt (hF16.at_ 9 rfl _ rfl) rfl
            rcases ifs h9 with ⟨hc16, h9⟩ | ⟨hc16, h9⟩
            · refine wp_cond_t (b := x61.Kind == x62) q160 hc16 ?_
              refine wp_region' ?_
              refine wl_op rfl (op_move (v := (Value.slice z54 m54 k54)) rfl e248 ?_)
              refine wl_op rfl (op_move (v := (Value.slice z1 m1 k1)) rfl e246 ?_)
              refine wl_op rfl (op_move (v := (Value.int .i64 ((i4 : Int)))) rfl e249 ?_)
              obtain ⟨x63, hx63, h9⟩ := bnd h9
              refine wl_op rfl (op_indexAddr_rv (v := (Value.slice z1 m1 k1)) (i := (i4 : Int)) (e := x63) rfl Try.underlying25 sh46 rfl (h0_.mono ((le150.trans le186).trans le197)) rfl hx63 ?_)
              refine wl_op rfl (op_load (v := (elemPtr (Value.slice z1 m1 k1) ((i4 : Int)) (Enc.sz Signal))) (e := x63) rfl sh46 rfl ((h0_.mono ((le150.trans le186).trans le197)).elem I235.in_ hx63) (fun u46 hu16 => ?_))
              have e251 := Signal.inv hu16
              subst e251
              refine wl_op rfl (op_buildSlice (vs := [(Value.agg #[(Value.int .i64 (x63.At)), (Value.int .i64 (x63.Kind)), (Value.int .i64 (x63.Number)), (Value.int .i64 (x63.Value))])]) (r := ([x63] : List Signal)) rfl Try.underlying25 el46 (parts1 rfl) rfl (by decide) (by decide) ⟨(Signal.rv (s := x63)), trivial⟩ I235 (fun u47 w208 I236 => ?_))
              obtain ⟨z56, m56, k56, e252⟩ := row_form I236
              subst e252
              obtain ⟨x64, hx64, h9⟩ := bnd h9
              refine wl_op rfl (op_append (α := Signal) (v := (Value.slice z54 m54 k54)) (u := (Value.slice z56 m56 k56)) rfl rfl Try.underlying25 el46 (by decide) (by decide) rfl rfl (I236.pull 1) (Inv.rowSrc (I236.nth 0 rfl)) hx64 (fun u48 w209 I237 => ?_))
              obtain ⟨z57, m57, k57, e253⟩ := row_form I237
              subst e253
              refine wl_op rfl (op_assign (v := (Value.slice z57 m57 k57)) rfl rfl ?_)
              refine wl_nil ?_
              refine wp_region' ?_
              refine wl_op rfl (op_move (v := (Value.int .i64 ((i5 : Int)))) rfl e250 ?_)
              refine wl_op rfl (op_add (a := (i5 : Int)) (b := 1) rfl rfl rfl ?_)
              refine wl_op rfl (op_assign (v := (Value.int .i64 (w64 ((i5 : Int) + 1)))) rfl rfl ?_)
              refine wl_nil ?_
              obtain rfl := Option.some.inj h9
              exact ⟨_, _, _, _, (le186.trans le197), (I237.pull 1).drop, e246, e247, rfl, e249, (idx_next hlt5 hk5)⟩
            · refine wp_cond_f (b := x61.Kind == x62) q160 hc16 ?_
              refine wp_skip' ?_
              refine wp_region' ?_
              refine wl_op rfl (op_move (v := (Value.int .i64 ((i5 : Int)))) rfl e250 ?_)
              refine wl_op rfl (op_add (a := (i5 : Int)) (b := 1) rfl rfl rfl ?_)
              refine wl_op rfl (op_assign (v := (Value.int .i64 (w64 ((i5 : Int) + 1)))) rfl rfl ?_)
              refine wl_nil ?_
              obtain rfl := Option.some.inj h9
              exact ⟨_, _, _, _, (le186.trans le197), I235, e246, e247, e248, e249, (idx_next hlt5 hk5)⟩
        · rintro f w hI185
          obtain ⟨S198, z58, m58, k58, le198, I238, e254, e255, e256, e257, e258⟩ := hI185
          refine wp_seq' ?_
          refine wp_seq' ?_
          refine wp_region' ?_
          refine wl_op rfl (op_move (v := (Value.int .i64 ((a1.length : Int)))) rfl e258 ?_)
          refine wl_op rfl (op_move (v := (Value.slice z2 m2 k2)) rfl e255 ?_)
          refine wl_op rfl (op_len_rv rfl Try.underlying34 rfl (h1_.mono (le150.trans le198)) ?_)
          refine wl_op rfl (op_lss (a := (a1.length : Int)) (b := (a1.length : Int)) rfl rfl rfl ?_)
          refine wl_nil ?_
          refine wp_cond_f (b := decide ((a1.length : Int) < (a1.length : Int))) rfl (len_f _) ?_
          refine wp_exit' ?_
          exact ⟨_, _, _, _, le198, I238, e254, e255, e256, e257⟩
      · rintro f w ⟨S199, z55, m55, k55, le199, I239, e259, e260, e261, e262⟩
        refine wp_region' ?_
        refine wl_op rfl (op_move (v := (Value.int .i64 ((i4 : Int)))) rfl e262 ?_)
        refine wl_op rfl (op_add (a := (i4 : Int)) (b := 1) rfl rfl rfl ?_)
        refine wl_op rfl (op_assign (v := (Value.int .i64 (w64 ((i4 : Int) + 1)))) rfl rfl ?_)
        refine wl_nil ?_
        obtain rfl := Option.some.inj h7
        exact ⟨_, _, _, _, (le150.trans le199), I239, e259, e260, e261, (idx_next hlt4 hk4)⟩
    · rintro f w hI186
      obtain ⟨S200, z59, m59, k59, le200, I240, e263, e264, e265, e266⟩ := hI186
      refine wp_seq' ?_
      refine wp_seq' ?_
      refine wp_region' ?_
      refine wl_op rfl (op_move (v := (Value.int .i64 ((a0.length : Int)))) rfl e266 ?_)
      refine wl_op rfl (op_move (v := (Value.slice z1 m1 k1)) rfl e263 ?_)
      refine wl_op rfl (op_len_rv rfl Try.underlying25 rfl (h0_.mono le200) ?_)
      refine wl_op rfl (op_lss (a := (a0.length : Int)) (b := (a0.length : Int)) rfl rfl rfl ?_)
      refine wl_nil ?_
      refine wp_cond_f (b := decide ((a0.length : Int) < (a0.length : Int))) rfl (len_f _) ?_
      refine wp_exit' ?_
      exact ⟨_, _, _, _, le200, I240, e263, e264, e265⟩
  · rintro f w ⟨S201, z45, m45, k45, le201, I241, e267, e268, e269⟩
    refine wp_seq' ?_
    refine wp_region' ?_
    refine wl_op rfl (op_move (v := (Value.slice z45 m45 k45)) rfl e269 ?_)
    refine wl_op rfl (op_assign (v := (Value.slice z45 m45 k45)) rfl rfl ?_)
    refine wl_nil ?_
    refine wp_ret' ?_
    obtain rfl := Option.some.inj h
    exact ⟨(Value.slice z45 m45 k45), (res1 rfl rfl), _, [Row (α := Signal) 46 (Value.slice z45 m45 k45) (out4)], le201, I241, _, _, _, rfl, rfl⟩

set_option maxHeartbeats 4000000 in
set_option maxRecDepth 100000 in
theorem F26_ok {w : World} {S : PH} {Fr : List HP} {a0 : (List Signal)} {v0 : Value} {a1 : Int} {a2 : Int} {r : Bool} (hI : Inv w S Fr) (h0_ : RV S v0 a0) (h : F26 a0 a1 a2 = some r) :
    Calls Try.prog 26 [v0, (Value.int .i64 (a1)), (Value.int .i64 (a2))].toArray w (DoneV S Fr (Value.bool (r))) := by
  unfold F26 at h
  obtain ⟨z1, m1, k1, e1⟩ := rv_form h0_
  subst e1
  refine calls_enter (n := 38) (vs := [(Value.slice z1 m1 k1), (Value.int .i64 (a1)), (Value.int .i64 (a2))]) Try.func26 rfl rfl rfl ?_
  refine wp_seq' ?_
  refine wp_region' ?_
  refine wl_op rfl (op_assign (v := (Value.bool (false))) rfl rfl ?_)
  refine wl_nil ?_
  refine wp_seq' ?_
  refine wp_seq' ?_
  refine wp_region' ?_
  refine wl_op rfl (op_assign (v := (Value.int .i64 (0))) rfl rfl ?_)
  refine wl_nil ?_
  have hk1 : a0.length ≤ 9223372036854775807 := (rv_len h0_)
  obtain ⟨o2, hrun1, h⟩ := bnd h
  refine wp_cutN (fun f w => ∃ out1, o2 = Sum.inl out1 ∧ Inv w S (Fr) ∧ f 0 = (Value.slice z1 m1 k1) ∧ f 1 = (Value.int .i64 (a1)) ∧ f 2 = (Value.int .i64 (a2))) ?_ ?_
  · refine wp_block' ?_
    refine wp_forN (I := fun (i1 : Nat) (s1 : Unit) (f : Frm) (w : World) => Inv w S (Fr) ∧ f 0 = (Value.slice z1 m1 k1) ∧ f 1 = (Value.int .i64 (a1)) ∧ f 2 = (Value.int .i64 (a2)) ∧ f 7 = (Value.int .i64 (i1 : Int))) hrun1 ⟨hI, rfl, rfl, rfl, rfl⟩ ?_ ?_
    · rintro i1 s1 f w o1 hlt1 hI1 h1 hout1
      obtain ⟨I3, e10, e11, e12, e13⟩ := hI1
      refine wp_seq' ?_
      refine wp_seq' ?_
      refine wp_region' ?_
      refine wl_op rfl (op_move (v := (Value.int .i64 ((i1 : Int)))) rfl e13 ?_)
      refine wl_op rfl (op_move (v := (Value.slice z1 m1 k1)) rfl e10 ?_)
      refine wl_op rfl (op_len_rv rfl Try.underlying25 rfl h0_ ?_)
      refine wl_op rfl (op_lss (a := (i1 : Int)) (b := (a0.length : Int)) rfl rfl rfl ?_)
      refine wl_nil ?_
      refine wp_cond_t (b := decide ((i1 : Int) < (a0.length : Int))) rfl (len_t hlt1) ?_
      refine wp_skip' ?_
      refine wp_seq' ?_
      refine wp_block' ?_
      refine wp_seq' ?_
      refine wp_region' ?_
      refine wl_op rfl (op_move (v := (Value.slice z1 m1 k1)) rfl e10 ?_)
      refine wl_op rfl (op_move (v := (Value.int .i64 ((i1 : Int)))) rfl e13 ?_)
      obtain ⟨x7, hx7, h1⟩ := bnd h1
      refine wl_op rfl (op_indexAddr_rv (v := (Value.slice z1 m1 k1)) (i := (i1 : Int)) (e := x7) rfl Try.underlying25 sh46 rfl h0_ rfl hx7 ?_)
      refine wl_op rfl (op_fieldAddr_t (v := (elemPtr (Value.slice z1 m1 k1) ((i1 : Int)) (Enc.sz Signal))) rfl fa46_1 rfl (h0_.elem I3.in_ hx7) ?_)
      refine wl_op rfl (op_load_int (v := (fieldPtr (elemPtr (Value.slice z1 m1 k1) ((i1 : Int)) (Enc.sz Signal)) 1)) (e := x7.Kind) rfl sh3 rfl ((h0_.elem I3.in_ hx7).fld Signal.fld1) ?_)
      refine wl_op rfl (op_eql (a := x7.Kind) (b := 6) rfl rfl rfl ?_)
      refine wl_op rfl (op_move (v := (Value.bool (x7.Kind == 6))) rfl rfl ?_)
      rcases ifs h1 with ⟨hc7, h1⟩ | ⟨hc7, h1⟩
      · refine wl_taken (c := x7.Kind == 6) rfl rfl rfl rfl hc7 (op_move (v := (Value.slice z1 m1 k1)) rfl e10 ?_)
        refine wl_taken (c := x7.Kind == 6) rfl rfl rfl rfl hc7 (op_move (v := (Value.int .i64 ((i1 : Int)))) rfl e13 ?_)
        obtain ⟨x8, hx8, h1⟩ := bnd h1
        refine wl_taken (c := x7.Kind == 6) rfl rfl rfl rfl hc7 (op_indexAddr_rv (v := (Value.slice z1 m1 k1)) (i := (i1 : Int)) (e := x8) rfl Try.underlying25 sh46 rfl h0_ rfl hx8 ?_)
        refine wl_taken (c := x7.Kind == 6) rfl rfl rfl rfl hc7 (op_fieldAddr_t (v := (elemPtr (Value.slice z1 m1 k1) ((i1 : Int)) (Enc.sz Signal))) rfl fa46_0 rfl (h0_.elem I3.in_ hx8) ?_)
        refine wl_taken (c := x7.Kind == 6) rfl rfl rfl rfl hc7 (op_load_int (v := (fieldPtr (elemPtr (Value.slice z1 m1 k1) ((i1 : Int)) (Enc.sz Signal)) 0)) (e := x8.At) rfl sh3 rfl ((h0_.elem I3.in_ hx8).fld Signal.fld0) ?_)
        refine wl_taken (c := x7.Kind == 6) rfl rfl rfl rfl hc7 (op_move (v := (Value.int .i64 (a1))) rfl e11 ?_)
        refine wl_taken (c := x7.Kind == 6) rfl rfl rfl rfl hc7 (op_eql (a := x8.At) (b := a1) rfl rfl rfl ?_)
        refine wl_op rfl (op_pick_t (c := x7.Kind == 6) (a := (Value.bool (x8.At == a1))) rfl rfl hc7 rfl ?_)
        refine wl_op rfl (op_move (v := (Value.bool (x8.At == a1))) rfl rfl ?_)
        rcases ifs h1 with ⟨hc8, h1⟩ | ⟨hc8, h1⟩
        · refine wl_taken (c := x8.At == a1) rfl rfl rfl rfl hc8 (op_move (v := (Value.slice z1 m1 k1)) rfl e10 ?_)
          refine wl_taken (c := x8.At == a1) rfl rfl rfl rfl hc8 (op_move (v := (Value.int .i64 ((i1 : Int)))) rfl e13 ?_)
          obtain ⟨x9, hx9, h1⟩ := bnd h1
          refine wl_taken (c := x8.At == a1) rfl rfl rfl rfl hc8 (op_indexAddr_rv (v := (Value.slice z1 m1 k1)) (i := (i1 : Int)) (e := x9) rfl Try.underlying25 sh46 rfl h0_ rfl hx9 ?_)
          refine wl_taken (c := x8.At == a1) rfl rfl rfl rfl hc8 (op_fieldAddr_t (v := (elemPtr (Value.slice z1 m1 k1) ((i1 : Int)) (Enc.sz Signal))) rfl fa46_2 rfl (h0_.elem I3.in_ hx9) ?_)
          refine wl_taken (c := x8.At == a1) rfl rfl rfl rfl hc8 (op_load_int (v := (fieldPtr (elemPtr (Value.slice z1 m1 k1) ((i1 : Int)) (Enc.sz Signal)) 2)) (e := x9.Number) rfl sh3 rfl ((h0_.elem I3.in_ hx9).fld Signal.fld2) ?_)
          refine wl_taken (c := x8.At == a1) rfl rfl rfl rfl hc8 (op_move (v := (Value.int .i64 (a2))) rfl e12 ?_)
          refine wl_taken (c := x8.At == a1) rfl rfl rfl rfl hc8 (op_eql (a := x9.Number) (b := a2) rfl rfl rfl ?_)
          refine wl_op rfl (op_pick_t (c := x8.At == a1) (a := (Value.bool (x9.Number == a2))) rfl rfl hc8 rfl ?_)
          refine wl_nil ?_
          rcases ifs h1 with ⟨hc9, h1⟩ | ⟨hc9, h1⟩
          · refine wp_cond_t (b := x9.Number == a2) rfl hc9 ?_
            refine wp_seq' ?_
            refine wp_region' ?_
            refine wl_op rfl (op_assign (v := (Value.bool (true))) rfl rfl ?_)
            refine wl_nil ?_
            refine wp_ret' ?_
            obtain rfl := Option.some.inj h1
            obtain rfl := (hout1 _ rfl)
            have h2 := h
            obtain rfl := Option.some.inj h2
            exact ⟨(Value.bool (true)), (res1 rfl rfl), _, [], (PH.Le.refl _), I3, rfl, rfl⟩
          · refine wp_cond_f (b := x9.Number == a2) rfl hc9 ?_
            refine wp_skip' ?_
            refine wp_region' ?_
            refine wl_op rfl (op_move (v := (Value.int .i64 ((i1 : Int)))) rfl e13 ?_)
            refine wl_op rfl (op_add (a := (i1 : Int)) (b := 1) rfl rfl rfl ?_)
            refine wl_op rfl (op_assign (v := (Value.int .i64 (w64 ((i1 : Int) + 1)))) rfl rfl ?_)
            refine wl_nil ?_
            obtain rfl := Option.some.inj h1
            exact ⟨_, rfl, I3, e10, e11, e12, (idx_next hlt1 hk1)⟩
        · refine wl_skip (c := x8.At == a1) rfl rfl rfl rfl hc8 rfl ?_
          refine wl_skip (c := x8.At == a1) rfl rfl rfl rfl hc8 rfl ?_
          refine wl_skip (c := x8.At == a1) rfl rfl rfl rfl hc8 rfl ?_
          refine wl_skip (c := x8.At == a1) rfl rfl rfl rfl hc8 rfl ?_
          refine wl_skip (c := x8.At == a1) rfl rfl rfl rfl hc8 rfl ?_
          refine wl_skip (c := x8.At == a1) rfl rfl rfl rfl hc8 rfl ?_
          refine wl_skip (c := x8.At == a1) rfl rfl rfl rfl hc8 rfl ?_
          refine wl_op rfl (op_pick_f (c := x8.At == a1) (b := (Value.bool (false))) rfl rfl hc8 rfl ?_)
          refine wl_nil ?_
          refine wp_cond_f (b := false) rfl rfl ?_
          refine wp_skip' ?_
          refine wp_region' ?_
          refine wl_op rfl (op_move (v := (Value.int .i64 ((i1 : Int)))) rfl e13 ?_)
          refine wl_op rfl (op_add (a := (i1 : Int)) (b := 1) rfl rfl rfl ?_)
          refine wl_op rfl (op_assign (v := (Value.int .i64 (w64 ((i1 : Int) + 1)))) rfl rfl ?_)
          refine wl_nil ?_
          obtain rfl := Option.some.inj h1
          exact ⟨_, rfl, I3, e10, e11, e12, (idx_next hlt1 hk1)⟩
      · refine wl_skip (c := x7.Kind == 6) rfl rfl rfl rfl hc7 rfl ?_
        refine wl_skip (c := x7.Kind == 6) rfl rfl rfl rfl hc7 rfl ?_
        refine wl_skip (c := x7.Kind == 6) rfl rfl rfl rfl hc7 rfl ?_
        refine wl_skip (c := x7.Kind == 6) rfl rfl rfl rfl hc7 rfl ?_
        refine wl_skip (c := x7.Kind == 6) rfl rfl rfl rfl hc7 rfl ?_
        refine wl_skip (c := x7.Kind == 6) rfl rfl rfl rfl hc7 rfl ?_
        refine wl_skip (c := x7.Kind == 6) rfl rfl rfl rfl hc7 rfl ?_
        refine wl_op rfl (op_pick_f (c := x7.Kind == 6) (b := (Value.bool (false))) rfl rfl hc7 rfl ?_)
        refine wl_op rfl (op_move (v := (Value.bool (false))) rfl rfl ?_)
        refine wl_skip (c := false) rfl rfl rfl rfl rfl rfl ?_
        refine wl_skip (c := false) rfl rfl rfl rfl rfl rfl ?_
        refine wl_skip (c := false) rfl rfl rfl rfl rfl rfl ?_
        refine wl_skip (c := false) rfl rfl rfl rfl rfl rfl ?_
        refine wl_skip (c := false) rfl rfl rfl rfl rfl rfl ?_
        refine wl_skip (c := false) rfl rfl rfl rfl rfl rfl ?_
        refine wl_skip (c := false) rfl rfl rfl rfl rfl rfl ?_
        refine wl_op rfl (op_pick_f (c := false) (b := (Value.bool (false))) rfl rfl rfl rfl ?_)
        refine wl_nil ?_
        refine wp_cond_f (b := false) rfl rfl ?_
        refine wp_skip' ?_
        refine wp_region' ?_
        refine wl_op rfl (op_move (v := (Value.int .i64 ((i1 : Int)))) rfl e13 ?_)
        refine wl_op rfl (op_add (a := (i1 : Int)) (b := 1) rfl rfl rfl ?_)
        refine wl_op rfl (op_assign (v := (Value.int .i64 (w64 ((i1 : Int) + 1)))) rfl rfl ?_)
        refine wl_nil ?_
        obtain rfl := Option.some.inj h1
        exact ⟨_, rfl, I3, e10, e11, e12, (idx_next hlt1 hk1)⟩
    · rintro s2 f w hs1 hI2
      obtain ⟨I4, e14, e15, e16, e17⟩ := hI2
      refine wp_seq' ?_
      refine wp_seq' ?_
      refine wp_region' ?_
      refine wl_op rfl (op_move (v := (Value.int .i64 ((a0.length : Int)))) rfl e17 ?_)
      refine wl_op rfl (op_move (v := (Value.slice z1 m1 k1)) rfl e14 ?_)
      refine wl_op rfl (op_len_rv rfl Try.underlying25 rfl h0_ ?_)
      refine wl_op rfl (op_lss (a := (a0.length : Int)) (b := (a0.length : Int)) rfl rfl rfl ?_)
      refine wl_nil ?_
      refine wp_cond_f (b := decide ((a0.length : Int) < (a0.length : Int))) rfl (len_f _) ?_
      refine wp_exit' ?_
      exact ⟨s2, hs1, I4, e14, e15, e16⟩
  · rintro f w ⟨out1, rfl, I5, e18, e19, e20⟩
    have h := onL_inl h
    refine wp_seq' ?_
    refine wp_region' ?_
    refine wl_op rfl (op_assign (v := (Value.bool (false))) rfl rfl ?_)
    refine wl_nil ?_
    refine wp_ret' ?_
    obtain rfl := Option.some.inj h
    exact ⟨(Value.bool (false)), (res1 rfl rfl), _, [], (PH.Le.refl _), I5, rfl, rfl⟩
end Go.Proofs.Ytfeomcdhhgeilaa.Pad
