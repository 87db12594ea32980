/- A part of the proof: what the functions of the program compute, shown over the model. -/
import Derived.Test.YtogfongmnkmegaaSeaXP
import Derived.KernelRfl
set_option linter.unusedVariables false
namespace Go.Proofs.Ytogfongmnkmegaa.Pad
open Go Go.Proofs
set_option maxHeartbeats 4000000 in
set_option maxRecDepth 100000 in
theorem F55_ok {w : World} {S : PH} {Fr : List HP} {a0 : Int} {a1 : Int} {r : Int} (hI : Inv w S (Fr))  (h : F55 a0 a1 = some r) :
    Calls Try.prog 55 [(Value.int .i64 (a0)), (Value.int .i64 (a1))].toArray w (DoneV S Fr (Value.int .i64 (r))) := by
 unfold F55 at h
 refine calls_enter (n := 14) (vs := [(Value.int .i64 (a0)), (Value.int .i64 (a1))]) Try.func55 rfl rfl rfl ?_
 refine wp_seq' ?_
 refine wp_region' ?_
 refine wl_op rfl (op_assign (v := (Value.int .i64 (0))) rfl rfl ?_)
 refine wl_nil ?_
 obtain ⟨out1, hrun1, h⟩ := bnd h
 refine wp_cut (fun f w => Inv w S (Fr) ∧ f 0 = (Value.int .i64 (out1.1)) ∧ f 1 = (Value.int .i64 (out1.2))) ?_ ?_
 ·
  refine wp_block' ?_
  refine wp_whileO (I := fun (s1 : (Int × Int)) (f : Frm) (w : World) => Inv w S (Fr) ∧ f 0 = (Value.int .i64 (s1.1)) ∧ f 1 = (Value.int .i64 (s1.2))) hrun1 ⟨hI, rfl, rfl⟩ ?_
  rintro s1 f w o1 hI1 h1 hout1
  obtain ⟨I7, e13, e14⟩ := hI1
  refine wp_seq' ?_
  refine wp_seq' ?_
  refine wp_region' ?_
  refine wl_op rfl (op_move (v := (Value.int .i64 (s1.2))) rfl e14 ?_)
  refine wl_op rfl (op_gtr (a := s1.2) (b := 0) rfl rfl rfl ?_)
  refine wl_nil ?_
  rcases ifs h1 with ⟨hc7, h1⟩ | ⟨hc7, h1⟩
  ·
   refine wp_cond_t (b := decide (0 < s1.2)) rfl hc7 ?_
   refine wp_skip' ?_
   refine wp_block' ?_
   refine wp_seq' ?_
   refine wp_region' ?_
   refine wl_op rfl (op_move (v := (Value.int .i64 (s1.1))) rfl e13 ?_)
   refine wl_op rfl (op_move (v := (Value.int .i64 (s1.2))) rfl e14 ?_)
   obtain ⟨x7, hx7, h1⟩ := bnd h1
   refine wl_op rfl (op_rem (a := s1.1) (b := s1.2) rfl rfl rfl hx7 ?_)
   refine wl_op rfl (op_assign (v := (Value.int .i64 (x7))) rfl rfl ?_)
   refine wl_nil ?_
   refine wp_seq' ?_
   refine wp_region' ?_
   refine wl_op rfl (op_move (v := (Value.int .i64 (s1.2))) rfl e14 ?_)
   refine wl_op rfl (op_assign (v := (Value.int .i64 (s1.2))) rfl rfl ?_)
   refine wl_nil ?_
   refine wp_region' ?_
   refine wl_op rfl (op_move (v := (Value.int .i64 (x7))) rfl rfl ?_)
   refine wl_op rfl (op_assign (v := (Value.int .i64 (x7))) rfl rfl ?_)
   refine wl_nil ?_
   obtain rfl := Option.some.inj h1
   exact ⟨_, rfl, I7, rfl, rfl⟩
  ·
   refine wp_cond_f (b := decide (0 < s1.2)) rfl hc7 ?_
   refine wp_exit' ?_
   obtain rfl := Option.some.inj h1
   obtain rfl := (hout1 _ rfl)
   exact ⟨I7, e13, e14⟩
 ·
  rintro f w ⟨I8, e15, e16⟩
  refine wp_seq' ?_
  refine wp_region' ?_
  refine wl_op rfl (op_move (v := (Value.int .i64 (out1.1))) rfl e15 ?_)
  refine wl_op rfl (op_assign (v := (Value.int .i64 (out1.1))) rfl rfl ?_)
  refine wl_nil ?_
  refine wp_ret' ?_
  obtain rfl := Option.some.inj h
  exact ⟨(Value.int .i64 (out1.1)), (res1 rfl rfl), _, [], (PH.Le.refl _), I8, rfl, rfl⟩
end Go.Proofs.Ytogfongmnkmegaa.Pad
