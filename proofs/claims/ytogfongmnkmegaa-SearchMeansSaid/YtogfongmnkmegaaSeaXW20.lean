/- A part of the proof: what the functions of the program compute, shown over the model. -/
import Derived.Test.YtogfongmnkmegaaSeaXP
import Derived.Test.YtogfongmnkmegaaSeaXW3
import Derived.Test.YtogfongmnkmegaaSeaXW5
import Derived.Test.YtogfongmnkmegaaSeaXW6
import Derived.Test.YtogfongmnkmegaaSeaXW8
import Derived.Test.YtogfongmnkmegaaSeaXW9
import Derived.Test.YtogfongmnkmegaaSeaXW10
import Derived.Test.YtogfongmnkmegaaSeaXW13
import Derived.KernelRfl
set_option linter.unusedVariables false
namespace Go.Proofs.Ytogfongmnkmegaa.Pad
open Go Go.Proofs
set_option maxHeartbeats 4000000 in
set_option maxRecDepth 100000 in
theorem F28_ok {w : World} {S : PH} {Fr : List HP} {a0 : Graph} {v0 : Value} {a1 : (List Int)} {v1 : Value} {a2 : Int} {a3 : Int} {r : Int × Int × Int} (hI : Inv w S (Fr)) (h0_ : RV S v0 a0) (h1_ : RV S v1 a1) (h : F28 a0 a1 a2 a3 = some r) :
    Calls Try.prog 28 [v0, v1, (Value.int .i64 (a2)), (Value.int .i64 (a3))].toArray w (DoneV S Fr (Value.tuple #[(Value.int .i64 (r.1)), (Value.int .i64 (r.2.1)), (Value.int .i64 (r.2.2))])) := by
 unfold F28 at h
 obtain ⟨c1, c2, e1, r1, r2⟩ := Graph.inv h0_
 subst e1
 obtain ⟨z1, m1, k1, e2⟩ := rv_form r1
 subst e2
 obtain ⟨z2, m2, k2, e3⟩ := rv_form r2
 subst e3
 obtain ⟨z3, m3, k3, e4⟩ := rv_form h1_
 subst e4
 refine calls_enter (n := 56) (vs := [(Value.agg #[(Value.slice z1 m1 k1), (Value.slice z2 m2 k2)]), (Value.slice z3 m3 k3), (Value.int .i64 (a2)), (Value.int .i64 (a3))]) Try.func28 rfl rfl rfl ?_
 refine wp_seq' ?_
 refine wp_region' ?_
 refine wl_op rfl (op_box (v := (Value.agg #[(Value.slice z1 m1 k1), (Value.slice z2 m2 k2)])) rfl hI rfl (fun g1 w1 I1 => ?_))
 obtain ⟨S1, le1, I2, p1⟩ := Inv.boxFreeze (x := a0) I1 (Graph.rv (s := a0) r1 r2)
 refine wl_op rfl (op_assign (v := (Value.int .i64 (0))) rfl rfl ?_)
 refine wl_op rfl (op_assign (v := (Value.int .i64 (0))) rfl rfl ?_)
 refine wl_op rfl (op_assign (v := (Value.int .i64 (0))) rfl rfl ?_)
 refine wl_nil ?_
 refine wp_seq' ?_
 refine wp_seq' ?_
 refine wp_region' ?_
 refine wl_op rfl (op_load (v := (Value.pointer (some ⟨g1, 0, none⟩))) (e := a0) rfl sh25 rfl (p1.at_ I2) (fun u1 hu1 => ?_))
 obtain ⟨c3, c4, e5, r3, r4⟩ := Graph.inv hu1
 subst e5
 obtain ⟨z4, m4, k4, e6⟩ := rv_form r3
 subst e6
 obtain ⟨z5, m5, k5, e7⟩ := rv_form r4
 subst e7
 refine wl_op rfl (op_move (v := (Value.slice z3 m3 k3)) rfl rfl ?_)
 refine wl_op rfl (op_move (v := (Value.int .i64 (a2))) rfl rfl ?_)
 refine wl_op rfl (op_build (qs := [(0, #[(Value.int .i64 (a2))])]) (c := #[(Value.int .i64 (a2)), (Value.int .i64 (0))]) rfl st28 ⟨rfl, rfl, trivial⟩ rfl ?_)
 refine wl_op rfl (op_move (v := (Value.int .i64 (a3))) rfl rfl ?_)
 obtain ⟨x1, hx1, h⟩ := bnd h
 refine wl_op rfl (op_call_v (vs := [(Value.agg #[(Value.slice z4 m4 k4), (Value.slice z5 m5 k5)]), (Value.slice z3 m3 k3), (Value.agg #[(Value.int .i64 (a2)), (Value.int .i64 (0))]), (Value.int .i64 (a3))]) (r := (Value.int .i64 (x1))) rfl ca47 rfl (args4 rfl rfl rfl rfl) I2 (fun Fr_ hF_ => F47_ok hF_ (Graph.rv (s := a0) r3 r4) (h1_.mono le1) (Mind.rv (s := (⟨a2, 0⟩ : Mind))) hx1) (fun w2 I3 => ?_))
 refine wl_op rfl (op_assign (v := (Value.int .i64 (x1))) rfl rfl ?_)
 refine wl_nil ?_
 refine wp_seq' ?_
 refine wp_region' ?_
 refine wl_op rfl (op_move (v := (Value.int .i64 (x1))) rfl rfl ?_)
 refine wl_op rfl (op_neq (a := x1) (b := 0) rfl rfl rfl ?_)
 refine wl_nil ?_
 rcases ifs h with ⟨hc1, h⟩ | ⟨hc1, h⟩
 ·
  refine wp_cond_t (b := x1 != 0) rfl hc1 ?_
  refine wp_seq' ?_
  refine wp_region' ?_
  refine wl_op rfl (op_move (v := (Value.int .i64 (x1))) rfl rfl ?_)
  refine wl_op rfl (op_assign (v := (Value.int .i64 (0))) rfl rfl ?_)
  refine wl_op rfl (op_assign (v := (Value.int .i64 (0))) rfl rfl ?_)
  refine wl_op rfl (op_assign (v := (Value.int .i64 (x1))) rfl rfl ?_)
  refine wl_nil ?_
  refine wp_ret' ?_
  obtain rfl := Option.some.inj h
  exact ⟨(Value.tuple #[(Value.int .i64 (0)), (Value.int .i64 (0)), (Value.int .i64 (x1))]), (res3 rfl rfl rfl rfl), _, [], le1, I3, rfl, rfl⟩
 ·
  refine wp_cond_f (b := x1 != 0) rfl hc1 ?_
  refine wp_skip' ?_
  refine wp_seq' ?_
  refine wp_region' ?_
  refine wl_op rfl (op_load (v := (Value.pointer (some ⟨g1, 0, none⟩))) (e := a0) rfl sh25 rfl (p1.at_ I3) (fun u2 hu2 => ?_))
  obtain ⟨c5, c6, e8, r5, r6⟩ := Graph.inv hu2
  subst e8
  obtain ⟨z6, m6, k6, e9⟩ := rv_form r5
  subst e9
  obtain ⟨z7, m7, k7, e10⟩ := rv_form r6
  subst e10
  refine wl_op rfl (op_move (v := (Value.slice z3 m3 k3)) rfl rfl ?_)
  refine wl_op rfl (op_move (v := (Value.int .i64 (a2))) rfl rfl ?_)
  refine wl_op rfl (op_move (v := (Value.int .i64 (a3))) rfl rfl ?_)
  obtain ⟨x2, hx2, h⟩ := bnd h
  refine wl_op rfl (op_call (vs := [(Value.agg #[(Value.slice z6 m6 k6), (Value.slice z7 m7 k7)]), (Value.slice z3 m3 k3), (Value.int .i64 (a2)), (Value.int .i64 (a3))]) rfl ca51 rfl (args4 rfl rfl rfl rfl) (F51_ok I3 (Graph.rv (s := a0) r5 r6) (h1_.mono le1) hx2) (fun v1 w3 S2 O1 le2 I4 hv1 => ?_))
  obtain ⟨z8, m8, k8, rfl, rfl⟩ := hv1
  refine wl_op rfl (op_move (v := (Value.tuple #[(Value.slice z8 m8 k8), (Value.bool (x2.2))])) rfl rfl ?_)
  refine wl_op rfl (op_extract (v := (Value.slice z8 m8 k8)) rfl rfl rfl ?_)
  refine wl_op rfl (op_extract (v := (Value.bool (x2.2))) rfl rfl rfl ?_)
  refine wl_op rfl (op_assign (v := (Value.slice z8 m8 k8)) rfl rfl ?_)
  refine wl_op rfl (op_assign (v := (Value.bool (x2.2))) rfl rfl ?_)
  refine wl_nil ?_
  refine wp_seq' ?_
  refine wp_seq' ?_
  refine wp_region' ?_
  refine wl_op rfl (op_move (v := (Value.bool (x2.2))) rfl rfl ?_)
  refine wl_op rfl (op_not (b := x2.2) rfl rfl ?_)
  refine wl_nil ?_
  rcases ifs h with ⟨hc2, h⟩ | ⟨hc2, h⟩
  ·
   refine wp_cond_t (b := !x2.2) rfl hc2 ?_
   refine wp_seq' ?_
   refine wp_region' ?_
   refine wl_op rfl (op_assign (v := (Value.int .i64 (0))) rfl rfl ?_)
   refine wl_op rfl (op_assign (v := (Value.int .i64 (0))) rfl rfl ?_)
   refine wl_op rfl (op_assign (v := (Value.int .i64 (3))) rfl rfl ?_)
   refine wl_nil ?_
   refine wp_ret' ?_
   obtain rfl := Option.some.inj h
   exact ⟨(Value.tuple #[(Value.int .i64 (0)), (Value.int .i64 (0)), (Value.int .i64 (3))]), (res3 rfl rfl rfl rfl), _, [], (le1.trans le2), (I4).drop, rfl, rfl⟩
  ·
   refine wp_cond_f (b := !x2.2) rfl hc2 ?_
   refine wp_skip' ?_
   refine wp_seq' ?_
   refine wp_region' ?_
   refine wl_op rfl (op_assign (v := (Value.int .i64 (0))) rfl rfl ?_)
   refine wl_nil ?_
   refine wp_seq' ?_
   refine wp_seq' ?_
   refine wp_region' ?_
   refine wl_op rfl (op_assign (v := (Value.int .i64 (0))) rfl rfl ?_)
   refine wl_nil ?_
   have hk1 : x2.1.length ≤ 9223372036854775807 := (row_len (I4.nth 0 rfl))
   obtain ⟨out1, hrun1, h⟩ := bnd h
   refine wp_cutN (fun f w => ∃ (S_ : PH), S2.Le S_ ∧ Inv w S_ (Row (α := Int) 3 (Value.slice z8 m8 k8) (x2.1) :: Fr) ∧ f 12 = (Value.slice z8 m8 k8) ∧ f 14 = (Value.int .i64 (out1))) ?_ ?_
   ·
    refine wp_block' ?_
    refine wp_forS (I := fun (i1 : Nat) (s1 : (Int)) (f : Frm) (w : World) => ∃ (S_ : PH), S2.Le S_ ∧ Inv w S_ (Row (α := Int) 3 (Value.slice z8 m8 k8) (x2.1) :: Fr) ∧ f 12 = (Value.slice z8 m8 k8) ∧ f 14 = (Value.int .i64 (s1)) ∧ f 15 = (Value.int .i64 (i1 : Int))) hrun1 ⟨_, (PH.Le.refl _), I4, rfl, rfl, rfl⟩ ?_ ?_
    ·
     rintro i1 s1 f w o1 hlt1 hI31 h1
     obtain ⟨S35, le35, I38, e29, e30, e31⟩ := hI31
     refine wp_seq' ?_
     refine wp_seq' ?_
     refine wp_region' ?_
     refine wl_op rfl (op_move (v := (Value.int .i64 ((i1 : Int)))) rfl e31 ?_)
     refine wl_op rfl (op_move (v := (Value.slice z8 m8 k8)) rfl e29 ?_)
     refine wl_op rfl (op_len_row (α := Int) rfl Try.underlying26 rfl (I38.nth 0 rfl) ?_)
     refine wl_op rfl (op_lss (a := (i1 : Int)) (b := (x2.1.length : Int)) rfl rfl rfl ?_)
     refine wl_nil ?_
     refine wp_cond_t (b := decide ((i1 : Int) < (x2.1.length : Int))) rfl (len_t hlt1) ?_
     refine wp_skip' ?_
     refine wp_seq' ?_
     refine wp_block' ?_
     refine wp_seq' ?_
     obtain ⟨x9, hx9, h1⟩ := bnd h1
     obtain ⟨x10, hx10, h1⟩ := bnd h1
     refine wp_draw (sps := [⟨some 41, [], [0], fun vs_ T_ => fr0 vs_ 0 = (Value.slice z8 m8 k8), [], [], [], fun _ h_ => h_⟩, ⟨some 42, [], [1], fun vs_ T_ => fr0 vs_ 0 = (Value.int .i64 ((i1 : Int))), [], [], [], fun _ h_ => h_⟩, ⟨some 43, [0, 1], [2], fun vs_ T_ => fr0 vs_ 0 = (elemPtr (Value.slice z8 m8 k8) ((i1 : Int)) (Enc.sz Int)), [0], [], [], fun _ h_ => h_⟩, ⟨some 44, [0, 1, 2], [3], fun vs_ T_ => fr0 vs_ 0 = (Value.int .i64 (x9)), [0], [], [], fun _ h_ => h_⟩, ⟨some 45, [], [4], fun vs_ T_ => fr0 vs_ 0 = (Value.slice z8 m8 k8), [], [], [], fun _ h_ => h_⟩, ⟨some 46, [], [5], fun vs_ T_ => fr0 vs_ 0 = (Value.int .i64 (s1)), [], [], [], fun _ h_ => h_⟩, ⟨some 47, [4, 5], [6], fun vs_ T_ => fr0 vs_ 0 = (elemPtr (Value.slice z8 m8 k8) (s1) (Enc.sz Int)), [0], [], [], fun _ h_ => h_⟩, ⟨some 48, [4, 5, 6], [7], fun vs_ T_ => fr0 vs_ 0 = (Value.int .i64 (x10)), [0], [], [], fun _ h_ => h_⟩, ⟨some 49, [0, 1, 2, 3, 4, 5, 6, 7], [8], fun vs_ T_ => fr0 vs_ 0 = (Value.bool (decide (x10 < x9))), [], [], [], fun _ h_ => h_⟩]) (tks := [⟨none, none, [], fun vs_ => Row (α := Int) 3 (Value.slice z8 m8 k8) (x2.1)⟩]) (O := Fr) rfl (by kernel_rfl) I38 ⟨?_, ?_, ?_, ?_, ?_, ?_, ?_, ?_, ?_, trivial⟩ ?_
     ·
      intro vs31 f w34 S36 X28 le36 hA28 hK31 hI32
      have I39 : Inv w34 S36 (X28) := hI32
      refine opg_plain rfl rfl (op_move (v := (Value.slice z8 m8 k8)) rfl ((hK31 12 (keep_of rfl)).trans e29) ?_)
      refine ⟨_, _, rfl, PH.Le.refl _, ?_, ?_⟩
      ·
       exact rfl
      ·
       exact I39
     ·
      intro vs32 f w35 S37 X29 le37 hA29 hK32 hI33
      have I40 : Inv w35 S37 (X29) := hI33
      refine opg_plain rfl rfl (op_move (v := (Value.int .i64 ((i1 : Int)))) rfl ((hK32 15 (keep_of rfl)).trans e31) ?_)
      refine ⟨_, _, rfl, PH.Le.refl _, ?_, ?_⟩
      ·
       exact rfl
      ·
       exact I40
     ·
      intro vs33 f w36 S38 X30 le38 hA30 hK33 hI34
      have I41 : Inv w36 S38 (Row (α := Int) 3 (Value.slice z8 m8 k8) (x2.1) :: X30) := hI34
      have q28 : f 41 = (Value.slice z8 m8 k8) := vt (hA30.at_ 0 rfl _ rfl) rfl
      have q29 : f 42 = (Value.int .i64 ((i1 : Int))) := vt (hA30.at_ 1 rfl _ rfl) rfl
      refine opg_plain rfl rfl (op_indexAddr_src (v := (Value.slice z8 m8 k8)) (i := (i1 : Int)) (e := x9) rfl Try.underlying26 sh3 q28 (Inv.rowSrc (I41.nth 0 rfl)) q29 hx9 ?_)
      refine ⟨_, _, rfl, PH.Le.refl _, ?_, ?_⟩
      ·
       exact rfl
      ·
       exact I41
     ·
      intro vs34 f w37 S39 X31 le39 hA31 hK34 hI35
      have I42 : Inv w37 S39 (Row (α := Int) 3 (Value.slice z8 m8 k8) (x2.1) :: X31) := hI35
      have q30 : f 43 = (elemPtr (Value.slice z8 m8 k8) ((i1 : Int)) (Enc.sz Int)) := vt (hA31.at_ 2 rfl _ rfl) rfl
      refine opg_plain rfl rfl (op_load_int (v := (elemPtr (Value.slice z8 m8 k8) ((i1 : Int)) (Enc.sz Int))) (e := x9) rfl sh3 q30 ((I42.nth 0 rfl).rowElem hx9) ?_)
      refine ⟨_, _, rfl, PH.Le.refl _, ?_, ?_⟩
      ·
       exact rfl
      ·
       exact I42
     ·
      intro vs35 f w38 S40 X32 le40 hA32 hK35 hI36
      have I43 : Inv w38 S40 (X32) := hI36
      refine opg_plain rfl rfl (op_move (v := (Value.slice z8 m8 k8)) rfl ((hK35 12 (keep_of rfl)).trans e29) ?_)
      refine ⟨_, _, rfl, PH.Le.refl _, ?_, ?_⟩
      ·
       exact rfl
      ·
       exact I43
     ·
      intro vs36 f w39 S41 X33 le41 hA33 hK36 hI37
      have I44 : Inv w39 S41 (X33) := hI37
      refine opg_plain rfl rfl (op_move (v := (Value.int .i64 (s1))) rfl ((hK36 14 (keep_of rfl)).trans e30) ?_)
      refine ⟨_, _, rfl, PH.Le.refl _, ?_, ?_⟩
      ·
       exact rfl
      ·
       exact I44
     ·
      intro vs37 f w40 S42 X34 le42 hA34 hK37 hI38
      have I45 : Inv w40 S42 (Row (α := Int) 3 (Value.slice z8 m8 k8) (x2.1) :: X34) := hI38
      have q31 : f 45 = (Value.slice z8 m8 k8) := vt (hA34.at_ 0 rfl _ rfl) rfl
      have q32 : f 46 = (Value.int .i64 (s1)) := vt (hA34.at_ 1 rfl _ rfl) rfl
      refine opg_plain rfl rfl (op_indexAddr_src (v := (Value.slice z8 m8 k8)) (i := s1) (e := x10) rfl Try.underlying26 sh3 q31 (Inv.rowSrc (I45.nth 0 rfl)) q32 hx10 ?_)
      refine ⟨_, _, rfl, PH.Le.refl _, ?_, ?_⟩
      ·
       exact rfl
      ·
       exact I45
     ·
      intro vs38 f w41 S43 X35 le43 hA35 hK38 hI39
      have I46 : Inv w41 S43 (Row (α := Int) 3 (Value.slice z8 m8 k8) (x2.1) :: X35) := hI39
      have q33 : f 47 = (elemPtr (Value.slice z8 m8 k8) (s1) (Enc.sz Int)) := vt (hA35.at_ 2 rfl _ rfl) rfl
      refine opg_plain rfl rfl (op_load_int (v := (elemPtr (Value.slice z8 m8 k8) (s1) (Enc.sz Int))) (e := x10) rfl sh3 q33 ((I46.nth 0 rfl).rowElem hx10) ?_)
      refine ⟨_, _, rfl, PH.Le.refl _, ?_, ?_⟩
      ·
       exact rfl
      ·
       exact I46
     ·
      intro vs39 f w42 S44 X36 le44 hA36 hK39 hI40
      have I47 : Inv w42 S44 (X36) := hI40
      have q34 : f 44 = (Value.int .i64 (x9)) := vt (hA36.at_ 3 rfl _ rfl) rfl
      have q35 : f 48 = (Value.int .i64 (x10)) := vt (hA36.at_ 7 rfl _ rfl) rfl
      refine opg_plain rfl rfl (op_gtr (a := x9) (b := x10) rfl q34 q35 ?_)
      refine ⟨_, _, rfl, PH.Le.refl _, ?_, ?_⟩
      ·
       exact rfl
      ·
       exact I47
     ·
      intro vs40 f w43 S45 le45 hF4 hK40 hI41
      have e32 : f 12 = (Value.slice z8 m8 k8) := (hK40 12 (keep_all rfl)).trans e29
      have e33 : f 14 = (Value.int .i64 (s1)) := (hK40 14 (keep_all rfl)).trans e30
      have e34 : f 15 = (Value.int .i64 ((i1 : Int))) := (hK40 15 (keep_all rfl)).trans e31
      have I48 : Inv w43 S45 (Row (α := Int) 3 (Value.slice z8 m8 k8) (x2.1) :: Fr) := hI41
      have q36 : f 49 = (Value.bool (decide (x10 < x9))) := vt (hF4.at_ 8 rfl _ rfl) rfl
      rcases ifs h1 with ⟨hc6, h1⟩ | ⟨hc6, h1⟩
      ·
       refine wp_cond_t (b := decide (x10 < x9)) q36 hc6 ?_
       refine wp_region' ?_
       refine wl_op rfl (op_move (v := (Value.int .i64 ((i1 : Int)))) rfl e34 ?_)
       refine wl_op rfl (op_assign (v := (Value.int .i64 ((i1 : Int)))) rfl rfl ?_)
       refine wl_nil ?_
       refine wp_region' ?_
       refine wl_op rfl (op_move (v := (Value.int .i64 ((i1 : Int)))) rfl e34 ?_)
       refine wl_op rfl (op_add (a := (i1 : Int)) (b := 1) rfl rfl rfl ?_)
       refine wl_op rfl (op_assign (v := (Value.int .i64 (w64 ((i1 : Int) + 1)))) rfl rfl ?_)
       refine wl_nil ?_
       obtain rfl := Option.some.inj h1
       exact ⟨_, (le35.trans le45), I48, e32, rfl, (idx_next hlt1 hk1)⟩
      ·
       refine wp_cond_f (b := decide (x10 < x9)) q36 hc6 ?_
       refine wp_skip' ?_
       refine wp_region' ?_
       refine wl_op rfl (op_move (v := (Value.int .i64 ((i1 : Int)))) rfl e34 ?_)
       refine wl_op rfl (op_add (a := (i1 : Int)) (b := 1) rfl rfl rfl ?_)
       refine wl_op rfl (op_assign (v := (Value.int .i64 (w64 ((i1 : Int) + 1)))) rfl rfl ?_)
       refine wl_nil ?_
       obtain rfl := Option.some.inj h1
       exact ⟨_, (le35.trans le45), I48, e32, e33, (idx_next hlt1 hk1)⟩
    ·
     rintro f w hI42
     obtain ⟨S46, le46, I49, e35, e36, e37⟩ := hI42
     refine wp_seq' ?_
     refine wp_seq' ?_
     refine wp_region' ?_
     refine wl_op rfl (op_move (v := (Value.int .i64 ((x2.1.length : Int)))) rfl e37 ?_)
     refine wl_op rfl (op_move (v := (Value.slice z8 m8 k8)) rfl e35 ?_)
     refine wl_op rfl (op_len_row (α := Int) rfl Try.underlying26 rfl (I49.nth 0 rfl) ?_)
     refine wl_op rfl (op_lss (a := (x2.1.length : Int)) (b := (x2.1.length : Int)) rfl rfl rfl ?_)
     refine wl_nil ?_
     refine wp_cond_f (b := decide ((x2.1.length : Int) < (x2.1.length : Int))) rfl (len_f _) ?_
     refine wp_exit' ?_
     exact ⟨_, le46, I49, e35, e36⟩
   ·
    rintro f w ⟨S47, le47, I50, e38, e39⟩
    refine wp_seq' ?_
    refine wp_region' ?_
    refine wl_op rfl (op_move (v := (Value.slice z8 m8 k8)) rfl e38 ?_)
    refine wl_op rfl (op_move (v := (Value.int .i64 (out1))) rfl e39 ?_)
    obtain ⟨x11, hx11, h⟩ := bnd h
    refine wl_op rfl (op_indexAddr_src (v := (Value.slice z8 m8 k8)) (i := out1) (e := x11) rfl Try.underlying26 sh3 rfl (Inv.rowSrc (I50.nth 0 rfl)) rfl hx11 ?_)
    refine wl_op rfl (op_load_int (v := (elemPtr (Value.slice z8 m8 k8) (out1) (Enc.sz Int))) (e := x11) rfl sh3 rfl ((I50.nth 0 rfl).rowElem hx11) ?_)
    refine wl_op rfl (op_move (v := (Value.int .i64 (out1))) rfl e39 ?_)
    refine wl_op rfl (op_assign (v := (Value.int .i64 (x11))) rfl rfl ?_)
    refine wl_op rfl (op_assign (v := (Value.int .i64 (out1))) rfl rfl ?_)
    refine wl_op rfl (op_assign (v := (Value.int .i64 (0))) rfl rfl ?_)
    refine wl_nil ?_
    refine wp_ret' ?_
    obtain rfl := Option.some.inj h
    exact ⟨(Value.tuple #[(Value.int .i64 (x11)), (Value.int .i64 (out1)), (Value.int .i64 (0))]), (res3 rfl rfl rfl rfl), _, [], ((le1.trans le2).trans le47), (I50).drop, rfl, rfl⟩

set_option maxHeartbeats 4000000 in
set_option maxRecDepth 100000 in
theorem F7_ok {w : World} {S : PH} {Fr : List HP} {a0 : Graph} {v0 : Value} {a1 : (List Int)} {v1 : Value} {a2 : Law06_Run} {v2 : Value} {r : Bool} (hI : Inv w S (Fr)) (h0_ : RV S v0 a0) (h1_ : RV S v1 a1) (h2_ : RV S v2 a2) (h : F7 a0 a1 a2 = some r) :
    Calls Try.prog 7 [v0, v1, v2].toArray w (DoneV S Fr (Value.bool (r))) := by
 unfold F7 at h
 obtain ⟨c1, c2, e1, r1, r2⟩ := Graph.inv h0_
 subst e1
 obtain ⟨z1, m1, k1, e2⟩ := rv_form r1
 subst e2
 obtain ⟨z2, m2, k2, e3⟩ := rv_form r2
 subst e3
 obtain ⟨z3, m3, k3, e4⟩ := rv_form h1_
 subst e4
 have e5 := Law06_Run.inv h2_
 subst e5
 refine calls_enter (n := 98) (vs := [(Value.agg #[(Value.slice z1 m1 k1), (Value.slice z2 m2 k2)]), (Value.slice z3 m3 k3), (Value.agg #[(Value.int .i64 (a2.Mind.Memory)), (Value.int .i64 (a2.Mind.Turn)), (Value.int .i64 (a2.Most))])]) Try.func7 rfl rfl rfl ?_
 refine wp_seq' ?_
 refine wp_region' ?_
 refine wl_op rfl (op_box (v := (Value.agg #[(Value.slice z1 m1 k1), (Value.slice z2 m2 k2)])) rfl hI rfl (fun g1 w1 I1 => ?_))
 obtain ⟨S1, le1, I2, p1⟩ := Inv.boxFreeze (x := a0) I1 (Graph.rv (s := a0) r1 r2)
 refine wl_op rfl (op_box (v := (Value.agg #[(Value.int .i64 (a2.Mind.Memory)), (Value.int .i64 (a2.Mind.Turn)), (Value.int .i64 (a2.Most))])) rfl I2 rfl (fun g2 w2 I3 => ?_))
 obtain ⟨S2, le2, I4, p2⟩ := Inv.boxFreeze (x := a2) I3 (Law06_Run.rv (s := a2))
 refine wl_op rfl (op_assign (v := (Value.bool (false))) rfl rfl ?_)
 refine wl_nil ?_
 obtain ⟨ov1, h2, h⟩ := bnd h
 refine wp_cut (fun f w => ∃ v1, ov1 = Sum.inl v1 ∧ Inv w S2 (Fr) ∧ f 1 = (Value.slice z3 m3 k3) ∧ f 3 = (Value.pointer (some ⟨g1, 0, none⟩)) ∧ f 5 = (Value.pointer (some ⟨g2, 0, none⟩))) ?_ ?_
 ·
  refine wp_seq' ?_
  refine wp_region' ?_
  refine wl_op rfl (op_load (v := (Value.pointer (some ⟨g1, 0, none⟩))) (e := a0) rfl sh25 rfl ((p1.mono le2).at_ I4) (fun u2 hu2 => ?_))
  obtain ⟨c5, c6, e9, r5, r6⟩ := Graph.inv hu2
  subst e9
  obtain ⟨z6, m6, k6, e10⟩ := rv_form r5
  subst e10
  obtain ⟨z7, m7, k7, e11⟩ := rv_form r6
  subst e11
  obtain ⟨x5, hx5, h2⟩ := bnd h2
  refine wl_op rfl (op_call_v (vs := [(Value.agg #[(Value.slice z6 m6 k6), (Value.slice z7 m7 k7)])]) (r := (Value.bool (x5))) rfl ca15 rfl (args1 rfl) I4 (fun Fr_ hF_ => F15_ok hF_ (Graph.rv (s := a0) r5 r6) hx5) (fun w7 I9 => ?_))
  refine wl_op rfl (op_move (v := (Value.bool (x5))) rfl rfl ?_)
  rcases ifs h2 with ⟨hc3, h2⟩ | ⟨hc3, h2⟩
  ·
   refine wl_skip (c := x5) rfl rfl rfl rfl hc3 rfl ?_
   refine wl_skip (c := x5) rfl rfl rfl rfl hc3 rfl ?_
   refine wl_skip (c := x5) rfl rfl rfl rfl hc3 rfl ?_
   refine wl_op rfl (op_pick_t (c := x5) (a := (Value.bool (true))) rfl rfl hc3 rfl ?_)
   refine wl_nil ?_
   refine wp_cond_t (b := true) rfl rfl ?_
   refine wp_seq' ?_
   refine wp_region' ?_
   obtain ⟨x6, hx6, h2⟩ := bnd h2
   refine wl_op rfl (op_call_v (vs := []) (r := (Value.bool (x6))) rfl ca17 rfl args0 I9 (fun Fr_ hF_ => F17_ok hF_  hx6) (fun w8 I10 => ?_))
   refine wl_op rfl (op_assign (v := (Value.bool (x6))) rfl rfl ?_)
   refine wl_nil ?_
   refine wp_ret' ?_
   obtain rfl := Option.some.inj h2
   have h3 := h
   obtain rfl := Option.some.inj h3
   exact ⟨(Value.bool (x6)), (res1 rfl rfl), _, [], (le1.trans le2), I10, rfl, rfl⟩
  ·
   refine wl_taken (c := x5) rfl rfl rfl rfl hc3 (op_fieldAddr_t (v := (Value.pointer (some ⟨g2, 0, none⟩))) rfl fa30_1 rfl (p2.at_ I9) ?_)
   refine wl_taken (c := x5) rfl rfl rfl rfl hc3 (op_load_int (v := (fieldPtr (Value.pointer (some ⟨g2, 0, none⟩)) 2)) (e := a2.Most) rfl sh3 rfl ((p2.at_ I9).fld Law06_Run.fld1) ?_)
   obtain ⟨x7, hx7, h2⟩ := bnd h2
   refine wl_taken (c := x5) rfl rfl rfl rfl hc3 (op_call_v (vs := [(Value.int .i64 (a2.Most))]) (r := (Value.bool (x7))) rfl ca16 rfl (args1 rfl) I9 (fun Fr_ hF_ => F16_ok hF_  hx7) (fun w9 I11 => ?_))
   refine wl_op rfl (op_pick_f (c := x5) (b := (Value.bool (x7))) rfl rfl hc3 rfl ?_)
   refine wl_nil ?_
   rcases ifs h2 with ⟨hc4, h2⟩ | ⟨hc4, h2⟩
   ·
    refine wp_cond_t (b := x7) rfl hc4 ?_
    refine wp_seq' ?_
    refine wp_region' ?_
    obtain ⟨x8, hx8, h2⟩ := bnd h2
    refine wl_op rfl (op_call_v (vs := []) (r := (Value.bool (x8))) rfl ca17 rfl args0 I11 (fun Fr_ hF_ => F17_ok hF_  hx8) (fun w10 I12 => ?_))
    refine wl_op rfl (op_assign (v := (Value.bool (x8))) rfl rfl ?_)
    refine wl_nil ?_
    refine wp_ret' ?_
    obtain rfl := Option.some.inj h2
    have h3 := h
    obtain rfl := Option.some.inj h3
    exact ⟨(Value.bool (x8)), (res1 rfl rfl), _, [], (le1.trans le2), I12, rfl, rfl⟩
   ·
    refine wp_cond_f (b := x7) rfl hc4 ?_
    refine wp_skip' ?_
    obtain rfl := Option.some.inj h2
    exact ⟨_, rfl, I11, rfl, rfl, rfl⟩
 ·
  rintro f w ⟨v1, rfl, I13, e12, e13, e14⟩
  have h := onL_inl h
  refine wp_seq' ?_
  refine wp_region' ?_
  refine wl_op rfl (op_load (v := (Value.pointer (some ⟨g1, 0, none⟩))) (e := a0) rfl sh25 e13 ((p1.mono le2).at_ I13) (fun u3 hu3 => ?_))
  obtain ⟨c7, c8, e15, r7, r8⟩ := Graph.inv hu3
  subst e15
  obtain ⟨z8, m8, k8, e16⟩ := rv_form r7
  subst e16
  obtain ⟨z9, m9, k9, e17⟩ := rv_form r8
  subst e17
  refine wl_op rfl (op_move (v := (Value.slice z3 m3 k3)) rfl e12 ?_)
  refine wl_op rfl (op_fieldAddr_t (v := (Value.pointer (some ⟨g2, 0, none⟩))) rfl fa30_0 e14 (p2.at_ I13) ?_)
  refine wl_op rfl (op_fieldAddr_t (v := (fieldPtr (Value.pointer (some ⟨g2, 0, none⟩)) 0)) rfl fa28_0 rfl ((p2.at_ I13).fld Law06_Run.fld0) ?_)
  refine wl_op rfl (op_load_int (v := (fieldPtr (fieldPtr (Value.pointer (some ⟨g2, 0, none⟩)) 0) 0)) (e := a2.Mind.Memory) rfl sh3 rfl (((p2.at_ I13).fld Law06_Run.fld0).fld Mind.fld0) ?_)
  refine wl_op rfl (op_fieldAddr_t (v := (Value.pointer (some ⟨g2, 0, none⟩))) rfl fa30_1 e14 (p2.at_ I13) ?_)
  refine wl_op rfl (op_load_int (v := (fieldPtr (Value.pointer (some ⟨g2, 0, none⟩)) 2)) (e := a2.Most) rfl sh3 rfl ((p2.at_ I13).fld Law06_Run.fld1) ?_)
  obtain ⟨x9, hx9, h⟩ := bnd h
  refine wl_op rfl (op_call_v (vs := [(Value.agg #[(Value.slice z8 m8 k8), (Value.slice z9 m9 k9)]), (Value.slice z3 m3 k3), (Value.int .i64 (a2.Mind.Memory)), (Value.int .i64 (a2.Most))]) (r := (Value.tuple #[(Value.int .i64 (x9.1)), (Value.int .i64 (x9.2.1)), (Value.int .i64 (x9.2.2))])) rfl ca27 rfl (args4 rfl rfl rfl rfl) I13 (fun Fr_ hF_ => F27_ok hF_ (Graph.rv (s := a0) r7 r8) (h1_.mono (le1.trans le2)) hx9) (fun w11 I14 => ?_))
  refine wl_op rfl (op_move (v := (Value.tuple #[(Value.int .i64 (x9.1)), (Value.int .i64 (x9.2.1)), (Value.int .i64 (x9.2.2))])) rfl rfl ?_)
  refine wl_op rfl (op_extract (v := (Value.int .i64 (x9.1))) rfl rfl rfl ?_)
  refine wl_op rfl (op_extract (v := (Value.int .i64 (x9.2.1))) rfl rfl rfl ?_)
  refine wl_op rfl (op_extract (v := (Value.int .i64 (x9.2.2))) rfl rfl rfl ?_)
  refine wl_op rfl (op_assign (v := (Value.int .i64 (x9.1))) rfl rfl ?_)
  refine wl_op rfl (op_assign (v := (Value.int .i64 (x9.2.1))) rfl rfl ?_)
  refine wl_op rfl (op_assign (v := (Value.int .i64 (x9.2.2))) rfl rfl ?_)
  refine wl_nil ?_
  refine wp_seq' ?_
  refine wp_region' ?_
  refine wl_op rfl (op_load (v := (Value.pointer (some ⟨g1, 0, none⟩))) (e := a0) rfl sh25 e13 ((p1.mono le2).at_ I14) (fun u4 hu4 => ?_))
  obtain ⟨c9, c10, e18, r9, r10⟩ := Graph.inv hu4
  subst e18
  obtain ⟨z10, m10, k10, e19⟩ := rv_form r9
  subst e19
  obtain ⟨z11, m11, k11, e20⟩ := rv_form r10
  subst e20
  refine wl_op rfl (op_move (v := (Value.slice z3 m3 k3)) rfl e12 ?_)
  refine wl_op rfl (op_fieldAddr_t (v := (Value.pointer (some ⟨g2, 0, none⟩))) rfl fa30_0 e14 (p2.at_ I14) ?_)
  refine wl_op rfl (op_fieldAddr_t (v := (fieldPtr (Value.pointer (some ⟨g2, 0, none⟩)) 0)) rfl fa28_0 rfl ((p2.at_ I14).fld Law06_Run.fld0) ?_)
  refine wl_op rfl (op_load_int (v := (fieldPtr (fieldPtr (Value.pointer (some ⟨g2, 0, none⟩)) 0) 0)) (e := a2.Mind.Memory) rfl sh3 rfl (((p2.at_ I14).fld Law06_Run.fld0).fld Mind.fld0) ?_)
  refine wl_op rfl (op_fieldAddr_t (v := (Value.pointer (some ⟨g2, 0, none⟩))) rfl fa30_1 e14 (p2.at_ I14) ?_)
  refine wl_op rfl (op_load_int (v := (fieldPtr (Value.pointer (some ⟨g2, 0, none⟩)) 2)) (e := a2.Most) rfl sh3 rfl ((p2.at_ I14).fld Law06_Run.fld1) ?_)
  obtain ⟨x10, hx10, h⟩ := bnd h
  refine wl_op rfl (op_call_v (vs := [(Value.agg #[(Value.slice z10 m10 k10), (Value.slice z11 m11 k11)]), (Value.slice z3 m3 k3), (Value.int .i64 (a2.Mind.Memory)), (Value.int .i64 (a2.Most))]) (r := (Value.tuple #[(Value.int .i64 (x10.1)), (Value.int .i64 (x10.2.1)), (Value.int .i64 (x10.2.2))])) rfl ca28 rfl (args4 rfl rfl rfl rfl) I14 (fun Fr_ hF_ => F28_ok hF_ (Graph.rv (s := a0) r9 r10) (h1_.mono (le1.trans le2)) hx10) (fun w12 I15 => ?_))
  refine wl_op rfl (op_move (v := (Value.tuple #[(Value.int .i64 (x10.1)), (Value.int .i64 (x10.2.1)), (Value.int .i64 (x10.2.2))])) rfl rfl ?_)
  refine wl_op rfl (op_extract (v := (Value.int .i64 (x10.1))) rfl rfl rfl ?_)
  refine wl_op rfl (op_extract (v := (Value.int .i64 (x10.2.1))) rfl rfl rfl ?_)
  refine wl_op rfl (op_extract (v := (Value.int .i64 (x10.2.2))) rfl rfl rfl ?_)
  refine wl_op rfl (op_assign (v := (Value.int .i64 (x10.1))) rfl rfl ?_)
  refine wl_op rfl (op_assign (v := (Value.int .i64 (x10.2.1))) rfl rfl ?_)
  refine wl_op rfl (op_assign (v := (Value.int .i64 (x10.2.2))) rfl rfl ?_)
  refine wl_nil ?_
  obtain ⟨ov2, h5, h⟩ := bnd h
  refine wp_cut (fun f w => ∃ v2, ov2 = Sum.inl v2 ∧ Inv w S2 (Fr) ∧ f 1 = (Value.slice z3 m3 k3) ∧ f 3 = (Value.pointer (some ⟨g1, 0, none⟩)) ∧ f 5 = (Value.pointer (some ⟨g2, 0, none⟩))) ?_ ?_
  ·
   refine wp_seq' ?_
   refine wp_region' ?_
   refine wl_op rfl (op_move (v := (Value.int .i64 (x9.1))) rfl rfl ?_)
   refine wl_op rfl (op_move (v := (Value.int .i64 (x10.1))) rfl rfl ?_)
   refine wl_op rfl (op_neq (a := x9.1) (b := x10.1) rfl rfl rfl ?_)
   refine wl_op rfl (op_move (v := (Value.bool (x9.1 != x10.1))) rfl rfl ?_)
   rcases ifs h5 with ⟨hc8, h5⟩ | ⟨hc8, h5⟩
   ·
    refine wl_skip (c := x9.1 != x10.1) rfl rfl rfl rfl hc8 rfl ?_
    refine wl_skip (c := x9.1 != x10.1) rfl rfl rfl rfl hc8 rfl ?_
    refine wl_skip (c := x9.1 != x10.1) rfl rfl rfl rfl hc8 rfl ?_
    refine wl_op rfl (op_pick_t (c := x9.1 != x10.1) (a := (Value.bool (true))) rfl rfl hc8 rfl ?_)
    refine wl_op rfl (op_move (v := (Value.bool (true))) rfl rfl ?_)
    refine wl_skip (c := true) rfl rfl rfl rfl rfl rfl ?_
    refine wl_skip (c := true) rfl rfl rfl rfl rfl rfl ?_
    refine wl_skip (c := true) rfl rfl rfl rfl rfl rfl ?_
    refine wl_op rfl (op_pick_t (c := true) (a := (Value.bool (true))) rfl rfl rfl rfl ?_)
    refine wl_nil ?_
    refine wp_cond_t (b := true) rfl rfl ?_
    refine wp_seq' ?_
    refine wp_region' ?_
    refine wl_op rfl (op_assign (v := (Value.bool (false))) rfl rfl ?_)
    refine wl_nil ?_
    refine wp_ret' ?_
    obtain rfl := Option.some.inj h5
    have h6 := h
    obtain rfl := Option.some.inj h6
    exact ⟨(Value.bool (false)), (res1 rfl rfl), _, [], (le1.trans le2), I15, rfl, rfl⟩
   ·
    refine wl_taken (c := x9.1 != x10.1) rfl rfl rfl rfl hc8 (op_move (v := (Value.int .i64 (x9.2.1))) rfl rfl ?_)
    refine wl_taken (c := x9.1 != x10.1) rfl rfl rfl rfl hc8 (op_move (v := (Value.int .i64 (x10.2.1))) rfl rfl ?_)
    refine wl_taken (c := x9.1 != x10.1) rfl rfl rfl rfl hc8 (op_neq (a := x9.2.1) (b := x10.2.1) rfl rfl rfl ?_)
    refine wl_op rfl (op_pick_f (c := x9.1 != x10.1) (b := (Value.bool (x9.2.1 != x10.2.1))) rfl rfl hc8 rfl ?_)
    refine wl_op rfl (op_move (v := (Value.bool (x9.2.1 != x10.2.1))) rfl rfl ?_)
    rcases ifs h5 with ⟨hc9, h5⟩ | ⟨hc9, h5⟩
    ·
     refine wl_skip (c := x9.2.1 != x10.2.1) rfl rfl rfl rfl hc9 rfl ?_
     refine wl_skip (c := x9.2.1 != x10.2.1) rfl rfl rfl rfl hc9 rfl ?_
     refine wl_skip (c := x9.2.1 != x10.2.1) rfl rfl rfl rfl hc9 rfl ?_
     refine wl_op rfl (op_pick_t (c := x9.2.1 != x10.2.1) (a := (Value.bool (true))) rfl rfl hc9 rfl ?_)
     refine wl_nil ?_
     refine wp_cond_t (b := true) rfl rfl ?_
     refine wp_seq' ?_
     refine wp_region' ?_
     refine wl_op rfl (op_assign (v := (Value.bool (false))) rfl rfl ?_)
     refine wl_nil ?_
     refine wp_ret' ?_
     obtain rfl := Option.some.inj h5
     have h6 := h
     obtain rfl := Option.some.inj h6
     exact ⟨(Value.bool (false)), (res1 rfl rfl), _, [], (le1.trans le2), I15, rfl, rfl⟩
    ·
     refine wl_taken (c := x9.2.1 != x10.2.1) rfl rfl rfl rfl hc9 (op_move (v := (Value.int .i64 (x9.2.2))) rfl rfl ?_)
     refine wl_taken (c := x9.2.1 != x10.2.1) rfl rfl rfl rfl hc9 (op_move (v := (Value.int .i64 (x10.2.2))) rfl rfl ?_)
     refine wl_taken (c := x9.2.1 != x10.2.1) rfl rfl rfl rfl hc9 (op_neq (a := x9.2.2) (b := x10.2.2) rfl rfl rfl ?_)
     refine wl_op rfl (op_pick_f (c := x9.2.1 != x10.2.1) (b := (Value.bool (x9.2.2 != x10.2.2))) rfl rfl hc9 rfl ?_)
     refine wl_nil ?_
     rcases ifs h5 with ⟨hc10, h5⟩ | ⟨hc10, h5⟩
     ·
      refine wp_cond_t (b := x9.2.2 != x10.2.2) rfl hc10 ?_
      refine wp_seq' ?_
      refine wp_region' ?_
      refine wl_op rfl (op_assign (v := (Value.bool (false))) rfl rfl ?_)
      refine wl_nil ?_
      refine wp_ret' ?_
      obtain rfl := Option.some.inj h5
      have h6 := h
      obtain rfl := Option.some.inj h6
      exact ⟨(Value.bool (false)), (res1 rfl rfl), _, [], (le1.trans le2), I15, rfl, rfl⟩
     ·
      refine wp_cond_f (b := x9.2.2 != x10.2.2) rfl hc10 ?_
      refine wp_skip' ?_
      obtain rfl := Option.some.inj h5
      exact ⟨_, rfl, I15, e12, e13, e14⟩
  ·
   rintro f w ⟨v2, rfl, I16, e21, e22, e23⟩
   have h := onL_inl h
   refine wp_seq' ?_
   refine wp_region' ?_
   refine wl_op rfl (op_load (v := (Value.pointer (some ⟨g1, 0, none⟩))) (e := a0) rfl sh25 e22 ((p1.mono le2).at_ I16) (fun u5 hu5 => ?_))
   obtain ⟨c11, c12, e24, r11, r12⟩ := Graph.inv hu5
   subst e24
   obtain ⟨z12, m12, k12, e25⟩ := rv_form r11
   subst e25
   obtain ⟨z13, m13, k13, e26⟩ := rv_form r12
   subst e26
   refine wl_op rfl (op_move (v := (Value.slice z3 m3 k3)) rfl e21 ?_)
   refine wl_op rfl (op_fieldAddr_t (v := (Value.pointer (some ⟨g2, 0, none⟩))) rfl fa30_0 e23 (p2.at_ I16) ?_)
   refine wl_op rfl (op_fieldAddr_t (v := (fieldPtr (Value.pointer (some ⟨g2, 0, none⟩)) 0)) rfl fa28_0 rfl ((p2.at_ I16).fld Law06_Run.fld0) ?_)
   refine wl_op rfl (op_load_int (v := (fieldPtr (fieldPtr (Value.pointer (some ⟨g2, 0, none⟩)) 0) 0)) (e := a2.Mind.Memory) rfl sh3 rfl (((p2.at_ I16).fld Law06_Run.fld0).fld Mind.fld0) ?_)
   refine wl_op rfl (op_fieldAddr_t (v := (Value.pointer (some ⟨g2, 0, none⟩))) rfl fa30_1 e23 (p2.at_ I16) ?_)
   refine wl_op rfl (op_load_int (v := (fieldPtr (Value.pointer (some ⟨g2, 0, none⟩)) 2)) (e := a2.Most) rfl sh3 rfl ((p2.at_ I16).fld Law06_Run.fld1) ?_)
   obtain ⟨x11, hx11, h⟩ := bnd h
   refine wl_op rfl (op_call_v (vs := [(Value.agg #[(Value.slice z12 m12 k12), (Value.slice z13 m13 k13)]), (Value.slice z3 m3 k3), (Value.int .i64 (a2.Mind.Memory)), (Value.int .i64 (a2.Most))]) (r := (Value.tuple #[(Value.int .i64 (x11.1)), (Value.int .i64 (x11.2.1)), (Value.int .i64 (x11.2.2))])) rfl ca29 rfl (args4 rfl rfl rfl rfl) I16 (fun Fr_ hF_ => F29_ok hF_ (Graph.rv (s := a0) r11 r12) (h1_.mono (le1.trans le2)) hx11) (fun w13 I17 => ?_))
   refine wl_op rfl (op_move (v := (Value.tuple #[(Value.int .i64 (x11.1)), (Value.int .i64 (x11.2.1)), (Value.int .i64 (x11.2.2))])) rfl rfl ?_)
   refine wl_op rfl (op_extract (v := (Value.int .i64 (x11.1))) rfl rfl rfl ?_)
   refine wl_op rfl (op_extract (v := (Value.int .i64 (x11.2.1))) rfl rfl rfl ?_)
   refine wl_op rfl (op_extract (v := (Value.int .i64 (x11.2.2))) rfl rfl rfl ?_)
   refine wl_op rfl (op_assign (v := (Value.int .i64 (x11.1))) rfl rfl ?_)
   refine wl_op rfl (op_assign (v := (Value.int .i64 (x11.2.1))) rfl rfl ?_)
   refine wl_op rfl (op_assign (v := (Value.int .i64 (x11.2.2))) rfl rfl ?_)
   refine wl_nil ?_
   refine wp_seq' ?_
   refine wp_region' ?_
   refine wl_op rfl (op_load (v := (Value.pointer (some ⟨g1, 0, none⟩))) (e := a0) rfl sh25 e22 ((p1.mono le2).at_ I17) (fun u6 hu6 => ?_))
   obtain ⟨c13, c14, e27, r13, r14⟩ := Graph.inv hu6
   subst e27
   obtain ⟨z14, m14, k14, e28⟩ := rv_form r13
   subst e28
   obtain ⟨z15, m15, k15, e29⟩ := rv_form r14
   subst e29
   refine wl_op rfl (op_move (v := (Value.slice z3 m3 k3)) rfl e21 ?_)
   refine wl_op rfl (op_fieldAddr_t (v := (Value.pointer (some ⟨g2, 0, none⟩))) rfl fa30_0 e23 (p2.at_ I17) ?_)
   refine wl_op rfl (op_fieldAddr_t (v := (fieldPtr (Value.pointer (some ⟨g2, 0, none⟩)) 0)) rfl fa28_0 rfl ((p2.at_ I17).fld Law06_Run.fld0) ?_)
   refine wl_op rfl (op_load_int (v := (fieldPtr (fieldPtr (Value.pointer (some ⟨g2, 0, none⟩)) 0) 0)) (e := a2.Mind.Memory) rfl sh3 rfl (((p2.at_ I17).fld Law06_Run.fld0).fld Mind.fld0) ?_)
   refine wl_op rfl (op_fieldAddr_t (v := (Value.pointer (some ⟨g2, 0, none⟩))) rfl fa30_1 e23 (p2.at_ I17) ?_)
   refine wl_op rfl (op_load_int (v := (fieldPtr (Value.pointer (some ⟨g2, 0, none⟩)) 2)) (e := a2.Most) rfl sh3 rfl ((p2.at_ I17).fld Law06_Run.fld1) ?_)
   obtain ⟨x12, hx12, h⟩ := bnd h
   refine wl_op rfl (op_call_v (vs := [(Value.agg #[(Value.slice z14 m14 k14), (Value.slice z15 m15 k15)]), (Value.slice z3 m3 k3), (Value.int .i64 (a2.Mind.Memory)), (Value.int .i64 (a2.Most))]) (r := (Value.tuple #[(Value.int .i64 (x12.1)), (Value.int .i64 (x12.2.1)), (Value.int .i64 (x12.2.2))])) rfl ca30 rfl (args4 rfl rfl rfl rfl) I17 (fun Fr_ hF_ => F30_ok hF_ (Graph.rv (s := a0) r13 r14) (h1_.mono (le1.trans le2)) hx12) (fun w14 I18 => ?_))
   refine wl_op rfl (op_move (v := (Value.tuple #[(Value.int .i64 (x12.1)), (Value.int .i64 (x12.2.1)), (Value.int .i64 (x12.2.2))])) rfl rfl ?_)
   refine wl_op rfl (op_extract (v := (Value.int .i64 (x12.1))) rfl rfl rfl ?_)
   refine wl_op rfl (op_extract (v := (Value.int .i64 (x12.2.1))) rfl rfl rfl ?_)
   refine wl_op rfl (op_extract (v := (Value.int .i64 (x12.2.2))) rfl rfl rfl ?_)
   refine wl_op rfl (op_assign (v := (Value.int .i64 (x12.1))) rfl rfl ?_)
   refine wl_op rfl (op_assign (v := (Value.int .i64 (x12.2.1))) rfl rfl ?_)
   refine wl_op rfl (op_assign (v := (Value.int .i64 (x12.2.2))) rfl rfl ?_)
   refine wl_nil ?_
   refine wp_seq' ?_
   refine wp_region' ?_
   refine wl_op rfl (op_move (v := (Value.int .i64 (x11.1))) rfl rfl ?_)
   refine wl_op rfl (op_move (v := (Value.int .i64 (x12.1))) rfl rfl ?_)
   refine wl_op rfl (op_eql (a := x11.1) (b := x12.1) rfl rfl rfl ?_)
   refine wl_op rfl (op_move (v := (Value.bool (x11.1 == x12.1))) rfl rfl ?_)
   rcases ifs h with ⟨hc11, h⟩ | ⟨hc11, h⟩
   ·
    refine wl_taken (c := x11.1 == x12.1) rfl rfl rfl rfl hc11 (op_move (v := (Value.int .i64 (x11.2.1))) rfl rfl ?_)
    refine wl_taken (c := x11.1 == x12.1) rfl rfl rfl rfl hc11 (op_move (v := (Value.int .i64 (x12.2.1))) rfl rfl ?_)
    refine wl_taken (c := x11.1 == x12.1) rfl rfl rfl rfl hc11 (op_eql (a := x11.2.1) (b := x12.2.1) rfl rfl rfl ?_)
    refine wl_op rfl (op_pick_t (c := x11.1 == x12.1) (a := (Value.bool (x11.2.1 == x12.2.1))) rfl rfl hc11 rfl ?_)
    refine wl_op rfl (op_move (v := (Value.bool (x11.2.1 == x12.2.1))) rfl rfl ?_)
    rcases ifs h with ⟨hc12, h⟩ | ⟨hc12, h⟩
    ·
     refine wl_taken (c := x11.2.1 == x12.2.1) rfl rfl rfl rfl hc12 (op_move (v := (Value.int .i64 (x11.2.2))) rfl rfl ?_)
     refine wl_taken (c := x11.2.1 == x12.2.1) rfl rfl rfl rfl hc12 (op_move (v := (Value.int .i64 (x12.2.2))) rfl rfl ?_)
     refine wl_taken (c := x11.2.1 == x12.2.1) rfl rfl rfl rfl hc12 (op_eql (a := x11.2.2) (b := x12.2.2) rfl rfl rfl ?_)
     refine wl_op rfl (op_pick_t (c := x11.2.1 == x12.2.1) (a := (Value.bool (x11.2.2 == x12.2.2))) rfl rfl hc12 rfl ?_)
     refine wl_op rfl (op_move (v := (Value.bool (x11.2.2 == x12.2.2))) rfl rfl ?_)
     rcases ifs h with ⟨hc13, h⟩ | ⟨hc13, h⟩
     ·
      obtain ⟨x13, hx13, h⟩ := bnd h
      refine wl_taken (c := x11.2.2 == x12.2.2) rfl rfl rfl rfl hc13 (op_call_v (vs := []) (r := (Value.bool (x13))) rfl ca17 rfl args0 I18 (fun Fr_ hF_ => F17_ok hF_  hx13) (fun w15 I19 => ?_))
      refine wl_op rfl (op_pick_t (c := x11.2.2 == x12.2.2) (a := (Value.bool (x13))) rfl rfl hc13 rfl ?_)
      refine wl_op rfl (op_assign (v := (Value.bool (x13))) rfl rfl ?_)
      refine wl_nil ?_
      refine wp_ret' ?_
      obtain rfl := Option.some.inj h
      exact ⟨(Value.bool (x13)), (res1 rfl rfl), _, [], (le1.trans le2), I19, rfl, rfl⟩
     ·
      refine wl_skip (c := x11.2.2 == x12.2.2) rfl rfl rfl rfl hc13 rfl ?_
      refine wl_op rfl (op_pick_f (c := x11.2.2 == x12.2.2) (b := (Value.bool (false))) rfl rfl hc13 rfl ?_)
      refine wl_op rfl (op_assign (v := (Value.bool (false))) rfl rfl ?_)
      refine wl_nil ?_
      refine wp_ret' ?_
      obtain rfl := Option.some.inj h
      exact ⟨(Value.bool (false)), (res1 rfl rfl), _, [], (le1.trans le2), I18, rfl, rfl⟩
    ·
     refine wl_skip (c := x11.2.1 == x12.2.1) rfl rfl rfl rfl hc12 rfl ?_
     refine wl_skip (c := x11.2.1 == x12.2.1) rfl rfl rfl rfl hc12 rfl ?_
     refine wl_skip (c := x11.2.1 == x12.2.1) rfl rfl rfl rfl hc12 rfl ?_
     refine wl_op rfl (op_pick_f (c := x11.2.1 == x12.2.1) (b := (Value.bool (false))) rfl rfl hc12 rfl ?_)
     refine wl_op rfl (op_move (v := (Value.bool (false))) rfl rfl ?_)
     refine wl_skip (c := false) rfl rfl rfl rfl rfl rfl ?_
     refine wl_op rfl (op_pick_f (c := false) (b := (Value.bool (false))) rfl rfl rfl rfl ?_)
     refine wl_op rfl (op_assign (v := (Value.bool (false))) rfl rfl ?_)
     refine wl_nil ?_
     refine wp_ret' ?_
     obtain rfl := Option.some.inj h
     exact ⟨(Value.bool (false)), (res1 rfl rfl), _, [], (le1.trans le2), I18, rfl, rfl⟩
   ·
    refine wl_skip (c := x11.1 == x12.1) rfl rfl rfl rfl hc11 rfl ?_
    refine wl_skip (c := x11.1 == x12.1) rfl rfl rfl rfl hc11 rfl ?_
    refine wl_skip (c := x11.1 == x12.1) rfl rfl rfl rfl hc11 rfl ?_
    refine wl_op rfl (op_pick_f (c := x11.1 == x12.1) (b := (Value.bool (false))) rfl rfl hc11 rfl ?_)
    refine wl_op rfl (op_move (v := (Value.bool (false))) rfl rfl ?_)
    refine wl_skip (c := false) rfl rfl rfl rfl rfl rfl ?_
    refine wl_skip (c := false) rfl rfl rfl rfl rfl rfl ?_
    refine wl_skip (c := false) rfl rfl rfl rfl rfl rfl ?_
    refine wl_op rfl (op_pick_f (c := false) (b := (Value.bool (false))) rfl rfl rfl rfl ?_)
    refine wl_op rfl (op_move (v := (Value.bool (false))) rfl rfl ?_)
    refine wl_skip (c := false) rfl rfl rfl rfl rfl rfl ?_
    refine wl_op rfl (op_pick_f (c := false) (b := (Value.bool (false))) rfl rfl rfl rfl ?_)
    refine wl_op rfl (op_assign (v := (Value.bool (false))) rfl rfl ?_)
    refine wl_nil ?_
    refine wp_ret' ?_
    obtain rfl := Option.some.inj h
    exact ⟨(Value.bool (false)), (res1 rfl rfl), _, [], (le1.trans le2), I18, rfl, rfl⟩
end Go.Proofs.Ytogfongmnkmegaa.Pad
