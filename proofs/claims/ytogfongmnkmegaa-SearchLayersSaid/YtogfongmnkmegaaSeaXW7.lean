/- A part of the proof: what the functions of the program compute, shown over the model. -/
import Derived.Test.YtogfongmnkmegaaSeaXP
import Derived.KernelRfl
set_option linter.unusedVariables false
namespace Go.Proofs.Ytogfongmnkmegaa.Pad
open Go Go.Proofs
set_option maxHeartbeats 4000000 in
set_option maxRecDepth 100000 in
theorem F52_ok {w : World} {S : PH} {Fr : List HP} {a0 : (List Int)} {v0 : Value} {r : Int} (hI : Inv w S (Fr)) (h0_ : RV S v0 a0) (h : F52 a0 = some r) :
    Calls Try.prog 52 [v0].toArray w (DoneV S Fr (Value.int .i64 (r))) := by
 unfold F52 at h
 obtain ⟨z1, m1, k1, e1⟩ := rv_form h0_
 subst e1
 refine calls_enter (n := 25) (vs := [(Value.slice z1 m1 k1)]) Try.func52 rfl rfl rfl ?_
 refine wp_seq' ?_
 refine wp_region' ?_
 refine wl_op rfl (op_assign (v := (Value.int .i64 (0))) rfl rfl ?_)
 refine wl_nil ?_
 obtain ⟨ov1, h2, h⟩ := bnd h
 refine wp_cut (fun f w => ∃ v1, ov1 = Sum.inl v1 ∧ Inv w S (Fr) ∧ f 0 = (Value.slice z1 m1 k1)) ?_ ?_
 ·
  refine wp_seq' ?_
  refine wp_region' ?_
  refine wl_op rfl (op_move (v := (Value.slice z1 m1 k1)) rfl rfl ?_)
  refine wl_op rfl (op_len_rv rfl Try.underlying26 rfl h0_ ?_)
  refine wl_op rfl (op_lss (a := (a0.length : Int)) (b := 1) rfl rfl rfl ?_)
  refine wl_nil ?_
  rcases ifs h2 with ⟨hc2, h2⟩ | ⟨hc2, h2⟩
  ·
   refine wp_cond_t (b := decide ((a0.length : Int) < 1)) rfl hc2 ?_
   refine wp_region' ?_
   cases h2
  ·
   refine wp_cond_f (b := decide ((a0.length : Int) < 1)) rfl hc2 ?_
   refine wp_skip' ?_
   obtain rfl := Option.some.inj h2
   exact ⟨_, rfl, hI, rfl⟩
 ·
  rintro f w ⟨v1, rfl, I1, e2⟩
  have h := onL_inl h
  refine wp_seq' ?_
  refine wp_region' ?_
  refine wl_op rfl (op_move (v := (Value.slice z1 m1 k1)) rfl e2 ?_)
  obtain ⟨x1, hx1, h⟩ := bnd h
  refine wl_op rfl (op_indexAddr_rv (v := (Value.slice z1 m1 k1)) (i := 0) (e := x1) rfl Try.underlying26 sh3 rfl h0_ rfl hx1 ?_)
  refine wl_op rfl (op_load_int (v := (elemPtr (Value.slice z1 m1 k1) (0) (Enc.sz Int))) (e := x1) rfl sh3 rfl (h0_.elem I1.in_ hx1) ?_)
  refine wl_op rfl (op_assign (v := (Value.int .i64 (x1))) rfl rfl ?_)
  refine wl_nil ?_
  refine wp_seq' ?_
  refine wp_seq' ?_
  refine wp_region' ?_
  refine wl_op rfl (op_assign (v := (Value.int .i64 (1))) rfl rfl ?_)
  refine wl_nil ?_
  obtain ⟨out1, hrun1, h⟩ := bnd h
  refine wp_cutN (fun f w => Inv w S (Fr) ∧ f 0 = (Value.slice z1 m1 k1) ∧ f 3 = (Value.int .i64 (out1.1)) ∧ f 4 = (Value.int .i64 (out1.2))) ?_ ?_
  ·
   refine wp_block' ?_
   refine wp_whileO (I := fun (s1 : (Int × Int)) (f : Frm) (w : World) => Inv w S (Fr) ∧ f 0 = (Value.slice z1 m1 k1) ∧ f 3 = (Value.int .i64 (s1.1)) ∧ f 4 = (Value.int .i64 (s1.2))) hrun1 ⟨I1, e2, rfl, rfl⟩ ?_
   rintro s1 f w o1 hI1 h4 hout1
   obtain ⟨I8, e21, e22, e23⟩ := hI1
   refine wp_seq' ?_
   refine wp_seq' ?_
   refine wp_region' ?_
   refine wl_op rfl (op_move (v := (Value.int .i64 (s1.2))) rfl e23 ?_)
   refine wl_op rfl (op_move (v := (Value.slice z1 m1 k1)) rfl e21 ?_)
   refine wl_op rfl (op_len_rv rfl Try.underlying26 rfl h0_ ?_)
   refine wl_op rfl (op_lss (a := s1.2) (b := (a0.length : Int)) rfl rfl rfl ?_)
   refine wl_nil ?_
   rcases ifs h4 with ⟨hc9, h4⟩ | ⟨hc9, h4⟩
   ·
    refine wp_cond_t (b := decide (s1.2 < (a0.length : Int))) rfl hc9 ?_
    refine wp_skip' ?_
    refine wp_seq' ?_
    refine wp_block' ?_
    refine wp_region' ?_
    refine wl_op rfl (op_move (v := (Value.int .i64 (s1.1))) rfl e22 ?_)
    refine wl_op rfl (op_move (v := (Value.slice z1 m1 k1)) rfl e21 ?_)
    refine wl_op rfl (op_move (v := (Value.int .i64 (s1.2))) rfl e23 ?_)
    obtain ⟨x8, hx8, h4⟩ := bnd h4
    refine wl_op rfl (op_indexAddr_rv (v := (Value.slice z1 m1 k1)) (i := s1.2) (e := x8) rfl Try.underlying26 sh3 rfl h0_ rfl hx8 ?_)
    refine wl_op rfl (op_load_int (v := (elemPtr (Value.slice z1 m1 k1) (s1.2) (Enc.sz Int))) (e := x8) rfl sh3 rfl (h0_.elem I8.in_ hx8) ?_)
    refine wl_op rfl (op_max (a := s1.1) (b := x8) rfl rfl rfl ?_)
    refine wl_op rfl (op_assign (v := (Value.int .i64 (maxI s1.1 x8))) rfl rfl ?_)
    refine wl_nil ?_
    refine wp_region' ?_
    refine wl_op rfl (op_move (v := (Value.int .i64 (s1.2))) rfl e23 ?_)
    refine wl_op rfl (op_add (a := s1.2) (b := 1) rfl rfl rfl ?_)
    refine wl_op rfl (op_assign (v := (Value.int .i64 (w64 (s1.2 + 1)))) rfl rfl ?_)
    refine wl_nil ?_
    obtain rfl := Option.some.inj h4
    exact ⟨_, rfl, I8, e21, rfl, rfl⟩
   ·
    refine wp_cond_f (b := decide (s1.2 < (a0.length : Int))) rfl hc9 ?_
    refine wp_exit' ?_
    obtain rfl := Option.some.inj h4
    obtain rfl := (hout1 _ rfl)
    exact ⟨I8, e21, e22, e23⟩
  ·
   rintro f w ⟨I9, e24, e25, e26⟩
   refine wp_seq' ?_
   refine wp_region' ?_
   refine wl_op rfl (op_move (v := (Value.int .i64 (out1.1))) rfl e25 ?_)
   refine wl_op rfl (op_assign (v := (Value.int .i64 (out1.1))) rfl rfl ?_)
   refine wl_nil ?_
   refine wp_ret' ?_
   obtain rfl := Option.some.inj h
   exact ⟨(Value.int .i64 (out1.1)), (res1 rfl rfl), _, [], (PH.Le.refl _), I9, rfl, rfl⟩
end Go.Proofs.Ytogfongmnkmegaa.Pad
