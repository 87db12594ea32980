/- A part of the proof: what the functions of the program compute, shown over the model. -/
import Derived.Test.YtogfongmnkmegaaSeaXP
import Derived.KernelRfl
set_option linter.unusedVariables false
namespace Go.Proofs.Ytogfongmnkmegaa.Pad
open Go Go.Proofs
set_option maxHeartbeats 4000000 in
set_option maxRecDepth 100000 in
theorem F16_ok {w : World} {S : PH} {Fr : List HP} {a0 : Int} {r : Bool} (hI : Inv w S (Fr))  (h : F16 a0 = some r) :
    Calls Try.prog 16 [(Value.int .i64 (a0))].toArray w (DoneV S Fr (Value.bool (r))) := by
 unfold F16 at h
 refine calls_enter (n := 9) (vs := [(Value.int .i64 (a0))]) Try.func16 rfl rfl rfl ?_
 refine wp_seq' ?_
 refine wp_region' ?_
 refine wl_op rfl (op_assign (v := (Value.bool (false))) rfl rfl ?_)
 refine wl_nil ?_
 refine wp_seq' ?_
 refine wp_region' ?_
 refine wl_op rfl (op_move (v := (Value.int .i64 (a0))) rfl rfl ?_)
 refine wl_op rfl (op_gtr (a := a0) (b := 120) rfl rfl rfl ?_)
 refine wl_op rfl (op_move (v := (Value.bool (decide (120 < a0)))) rfl rfl ?_)
 rcases ifs h with ⟨hc1, h⟩ | ⟨hc1, h⟩
 ·
  refine wl_taken (c := decide (120 < a0)) rfl rfl rfl rfl hc1 (op_move (v := (Value.int .i64 (a0))) rfl rfl ?_)
  refine wl_taken (c := decide (120 < a0)) rfl rfl rfl rfl hc1 (op_leq (a := a0) (b := 2000) rfl rfl rfl ?_)
  refine wl_op rfl (op_pick_t (c := decide (120 < a0)) (a := (Value.bool (decide (a0 ≤ 2000)))) rfl rfl hc1 rfl ?_)
  refine wl_op rfl (op_assign (v := (Value.bool (decide (a0 ≤ 2000)))) rfl rfl ?_)
  refine wl_nil ?_
  refine wp_ret' ?_
  obtain rfl := Option.some.inj h
  exact ⟨(Value.bool (decide (a0 ≤ 2000))), (res1 rfl rfl), _, [], (PH.Le.refl _), hI, rfl, rfl⟩
 ·
  refine wl_skip (c := decide (120 < a0)) rfl rfl rfl rfl hc1 rfl ?_
  refine wl_skip (c := decide (120 < a0)) rfl rfl rfl rfl hc1 rfl ?_
  refine wl_op rfl (op_pick_f (c := decide (120 < a0)) (b := (Value.bool (false))) rfl rfl hc1 rfl ?_)
  refine wl_op rfl (op_assign (v := (Value.bool (false))) rfl rfl ?_)
  refine wl_nil ?_
  refine wp_ret' ?_
  obtain rfl := Option.some.inj h
  exact ⟨(Value.bool (false)), (res1 rfl rfl), _, [], (PH.Le.refl _), hI, rfl, rfl⟩
end Go.Proofs.Ytogfongmnkmegaa.Pad
