/- A part of the proof: what the functions of the program compute, shown over the model. -/
import Derived.Test.YtogfongmnkmegaaSeaXN
import Derived.KernelRfl
set_option linter.unusedVariables false
namespace Go.Proofs.Ytogfongmnkmegaa.Pad
open Go Go.Proofs
set_option maxHeartbeats 4000000 in
set_option maxRecDepth 100000 in
theorem F15_ok {w : World} {S : PH} {Fr : List HP} {a0 : Graph} {v0 : Value} {r : Bool} (hI : Inv w S (Fr)) (h0_ : RV S v0 a0) (h : F15 a0 = some r) :
    Calls Try.prog 15 [v0].toArray w (dd_ S Fr (Value.bool (r))) := by
 rw [N15_eq] at h; unfold N15 at h
 obtain ⟨c1, c2, e1, r1, r2⟩ := Graph.inv h0_
 subst e1
 obtain ⟨z1, m1, k1, e2⟩ := ak_ r1
 subst e2
 obtain ⟨z2, m2, k2, e3⟩ := ak_ r2
 subst e3
 refine bd_ (n := 44) (vs := [(Value.agg #[(Value.slice z1 m1 k1), (Value.slice z2 m2 k2)])]) Try.func15 rfl rfl rfl ?_
 refine ad_ ?_
 refine ab_ ?_
 refine aa_ rfl (cr_ (v := (Value.agg #[(Value.slice z1 m1 k1), (Value.slice z2 m2 k2)])) rfl hI rfl (fun g1 w1 I1 => ?_))
 obtain ⟨S1, le1, I2, p1⟩ := Inv.boxFreeze (x := a0) I1 (Graph.rv (s := a0) r1 r2)
 refine aa_ rfl (ae_ (v := (Value.bool (false))) rfl rfl ?_)
 refine ag_ ?_
 refine ad_ ?_
 refine ab_ ?_
 refine aa_ rfl (ae_ (v := (Value.int .i64 (0))) rfl rfl ?_)
 refine ag_ ?_
 refine ad_ ?_
 refine ad_ ?_
 refine ab_ ?_
 refine aa_ rfl (ae_ (v := (Value.int .i64 (0))) rfl rfl ?_)
 refine ag_ ?_
 obtain ⟨out1, hrun1, h⟩ := bnd h
 refine cf_ (fun f w => Inv w S1 (Fr) ∧ f 1 = (Value.pointer (some ⟨g1, 0, none⟩)) ∧ f 3 = (Value.int .i64 (out1.1)) ∧ f 4 = (Value.int .i64 (out1.2)) ∧ f.ds = []) ?_ ?_
 ·
  refine au_ ?_
  refine co_ (I := fun (s1 : (Int × Int)) (f : Frm) (w : World) => Inv w S1 (Fr) ∧ f 1 = (Value.pointer (some ⟨g1, 0, none⟩)) ∧ f 3 = (Value.int .i64 (s1.1)) ∧ f 4 = (Value.int .i64 (s1.2)) ∧ f.ds = []) hrun1 ⟨I2, rfl, rfl, rfl, rfl⟩ ?_
  rintro s1 f w o1 hI1 h7 hout1
  obtain ⟨I9, e46, e47, e48, ed7⟩ := hI1
  refine ad_ ?_
  refine ad_ ?_
  refine ab_ ?_
  refine aa_ rfl (ac_ (v := (Value.int .i64 (s1.2))) rfl e48 ?_)
  refine aa_ rfl (aj_ (v := (Value.pointer (some ⟨g1, 0, none⟩))) rfl cs_ e46 (p1.at_ I9) ?_)
  refine aa_ rfl (aq_ (v := (am_ (Value.pointer (some ⟨g1, 0, none⟩)) 1)) (e := a0.Edges) rfl fi_ rfl ((p1.at_ I9).fld Graph.fld1) (fun u26 hu26 => ?_))
  obtain ⟨z28, m28, k28, e50⟩ := ak_ hu26
  subst e50
  refine aa_ rfl (bg_ rfl Try.underlying23 rfl hu26 ?_)
  refine aa_ rfl (bn_ (a := s1.2) (b := (a0.Edges.length : Int)) rfl rfl rfl ?_)
  refine aa_ rfl (ac_ (v := (Value.bool (decide (s1.2 < (a0.Edges.length : Int))))) rfl rfl ?_)
  rcases ifs h7 with ⟨hc27, h7⟩ | ⟨hc27, h7⟩
  ·
   refine al_ (c := decide (s1.2 < (a0.Edges.length : Int))) rfl rfl rfl rfl hc27 (ac_ (v := (Value.int .i64 (s1.2))) rfl e48 ?_)
   refine al_ (c := decide (s1.2 < (a0.Edges.length : Int))) rfl rfl rfl rfl hc27 (bn_ (a := s1.2) (b := 400) rfl rfl rfl ?_)
   refine aa_ rfl (bb_ (c := decide (s1.2 < (a0.Edges.length : Int))) (a := (Value.bool (decide (s1.2 < 400)))) rfl rfl hc27 rfl ?_)
   refine ag_ ?_
   rcases ifs h7 with ⟨hc28, h7⟩ | ⟨hc28, h7⟩
   ·
    refine an_ (b := decide (s1.2 < 400)) rfl hc28 ?_
    refine ar_ ?_
    refine ad_ ?_
    refine au_ ?_
    refine ab_ ?_
    refine aa_ rfl (ac_ (v := (Value.int .i64 (s1.1))) rfl e47 ?_)
    refine aa_ rfl (aj_ (v := (Value.pointer (some ⟨g1, 0, none⟩))) rfl cs_ e46 (p1.at_ I9) ?_)
    refine aa_ rfl (aq_ (v := (am_ (Value.pointer (some ⟨g1, 0, none⟩)) 1)) (e := a0.Edges) rfl fi_ rfl ((p1.at_ I9).fld Graph.fld1) (fun u27 hu27 => ?_))
    obtain ⟨z29, m29, k29, e51⟩ := ak_ hu27
    subst e51
    refine aa_ rfl (ac_ (v := (Value.int .i64 (s1.2))) rfl e48 ?_)
    obtain ⟨x7, hx7, h7⟩ := bnd h7
    refine aa_ rfl (ao_ (v := (Value.slice z29 m29 k29)) (i := s1.2) (e := x7) rfl Try.underlying23 en_ rfl hu27 rfl hx7 ?_)
    refine aa_ rfl (aq_ (v := (ah_ (Value.slice z29 m29 k29) (s1.2) (Enc.sz (List Edge)))) (e := x7) rfl en_ rfl (hu27.elem I9.in_ hx7) (fun u28 hu28 => ?_))
    obtain ⟨z30, m30, k30, e52⟩ := ak_ hu28
    subst e52
    refine aa_ rfl (bg_ rfl Try.underlying40 rfl hu28 ?_)
    refine aa_ rfl (bs_ (a := s1.1) (b := (x7.length : Int)) rfl rfl rfl ?_)
    refine aa_ rfl (ae_ (v := (Value.int .i64 (w64 (s1.1 + (x7.length : Int))))) rfl rfl ?_)
    refine ag_ ?_
    refine ab_ ?_
    refine aa_ rfl (ac_ (v := (Value.int .i64 (s1.2))) rfl e48 ?_)
    refine aa_ rfl (bs_ (a := s1.2) (b := 1) rfl rfl rfl ?_)
    refine aa_ rfl (ae_ (v := (Value.int .i64 (w64 (s1.2 + 1)))) rfl rfl ?_)
    refine ag_ ?_
    obtain rfl := Option.some.inj h7
    exact ⟨_, rfl, I9, e46, rfl, rfl, ed7⟩
   ·
    refine ap_ (b := decide (s1.2 < 400)) rfl hc28 ?_
    refine bm_ ?_
    obtain rfl := Option.some.inj h7
    obtain rfl := (hout1 _ rfl)
    exact ⟨I9, e46, e47, e48, ed7⟩
  ·
   refine ai_ (c := decide (s1.2 < (a0.Edges.length : Int))) rfl rfl rfl rfl hc27 rfl ?_
   refine ai_ (c := decide (s1.2 < (a0.Edges.length : Int))) rfl rfl rfl rfl hc27 rfl ?_
   refine aa_ rfl (ay_ (c := decide (s1.2 < (a0.Edges.length : Int))) (b := (Value.bool (false))) rfl rfl hc27 rfl ?_)
   refine ag_ ?_
   refine ap_ (b := false) rfl rfl ?_
   refine bm_ ?_
   obtain rfl := Option.some.inj h7
   obtain rfl := (hout1 _ rfl)
   exact ⟨I9, e46, e47, e48, ed7⟩
 ·
  rintro f w ⟨I10, e53, e54, e55, ed8⟩
  refine ad_ ?_
  refine ab_ ?_
  refine aa_ rfl (aj_ (v := (Value.pointer (some ⟨g1, 0, none⟩))) rfl iw_ e53 (p1.at_ I10) ?_)
  refine aa_ rfl (aq_ (v := (am_ (Value.pointer (some ⟨g1, 0, none⟩)) 0)) (e := a0.Positions) rfl sh22 rfl ((p1.at_ I10).fld Graph.fld0) (fun u29 hu29 => ?_))
  obtain ⟨z31, m31, k31, e56⟩ := ak_ hu29
  subst e56
  refine aa_ rfl (bg_ rfl Try.underlying22 rfl hu29 ?_)
  refine aa_ rfl (dw_ (a := (a0.Positions.length : Int)) (b := 20) rfl rfl rfl ?_)
  refine aa_ rfl (ac_ (v := (Value.bool (decide (20 < (a0.Positions.length : Int))))) rfl rfl ?_)
  rcases ifs h with ⟨hc29, h⟩ | ⟨hc29, h⟩
  ·
   refine al_ (c := decide (20 < (a0.Positions.length : Int))) rfl rfl rfl rfl hc29 (aj_ (v := (Value.pointer (some ⟨g1, 0, none⟩))) rfl iw_ e53 (p1.at_ I10) ?_)
   refine al_ (c := decide (20 < (a0.Positions.length : Int))) rfl rfl rfl rfl hc29 (aq_ (v := (am_ (Value.pointer (some ⟨g1, 0, none⟩)) 0)) (e := a0.Positions) rfl sh22 rfl ((p1.at_ I10).fld Graph.fld0) (fun u30 hu30 => ?_))
   obtain ⟨z32, m32, k32, e57⟩ := ak_ hu30
   subst e57
   refine al_ (c := decide (20 < (a0.Positions.length : Int))) rfl rfl rfl rfl hc29 (bg_ rfl Try.underlying22 rfl hu30 ?_)
   refine al_ (c := decide (20 < (a0.Positions.length : Int))) rfl rfl rfl rfl hc29 (lp_ (a := (a0.Positions.length : Int)) (b := 300) rfl rfl rfl ?_)
   refine aa_ rfl (bb_ (c := decide (20 < (a0.Positions.length : Int))) (a := (Value.bool (decide ((a0.Positions.length : Int) ≤ 300)))) rfl rfl hc29 rfl ?_)
   refine aa_ rfl (ac_ (v := (Value.bool (decide ((a0.Positions.length : Int) ≤ 300)))) rfl rfl ?_)
   rcases ifs h with ⟨hc30, h⟩ | ⟨hc30, h⟩
   ·
    refine ai_ (c := decide ((a0.Positions.length : Int) ≤ 300)) rfl rfl rfl rfl hc30 rfl ?_
    refine ai_ (c := decide ((a0.Positions.length : Int) ≤ 300)) rfl rfl rfl rfl hc30 rfl ?_
    refine aa_ rfl (bb_ (c := decide ((a0.Positions.length : Int) ≤ 300)) (a := (Value.bool (true))) rfl rfl hc30 rfl ?_)
    refine aa_ rfl (ac_ (v := (Value.bool (true))) rfl rfl ?_)
    refine ai_ (c := true) rfl rfl rfl rfl rfl rfl ?_
    refine ai_ (c := true) rfl rfl rfl rfl rfl rfl ?_
    refine ai_ (c := true) rfl rfl rfl rfl rfl rfl ?_
    refine ai_ (c := true) rfl rfl rfl rfl rfl rfl ?_
    refine aa_ rfl (bb_ (c := true) (a := (Value.bool (true))) rfl rfl rfl rfl ?_)
    refine aa_ rfl (ae_ (v := (Value.bool (true))) rfl rfl ?_)
    refine ag_ ?_
    refine aw_ ?_
    obtain rfl := Option.some.inj h
    exact ⟨ed8, (Value.bool (true)), (cx_ rfl rfl), _, [], le1, I10, rfl, rfl⟩
   ·
    refine al_ (c := decide ((a0.Positions.length : Int) ≤ 300)) rfl rfl rfl rfl hc30 (ac_ (v := (Value.int .i64 (out1.1))) rfl e54 ?_)
    refine al_ (c := decide ((a0.Positions.length : Int) ≤ 300)) rfl rfl rfl rfl hc30 (dw_ (a := out1.1) (b := 40) rfl rfl rfl ?_)
    refine aa_ rfl (ay_ (c := decide ((a0.Positions.length : Int) ≤ 300)) (b := (Value.bool (decide (40 < out1.1)))) rfl rfl hc30 rfl ?_)
    refine aa_ rfl (ac_ (v := (Value.bool (decide (40 < out1.1)))) rfl rfl ?_)
    rcases ifs h with ⟨hc31, h⟩ | ⟨hc31, h⟩
    ·
     refine ai_ (c := decide (40 < out1.1)) rfl rfl rfl rfl hc31 rfl ?_
     refine ai_ (c := decide (40 < out1.1)) rfl rfl rfl rfl hc31 rfl ?_
     refine ai_ (c := decide (40 < out1.1)) rfl rfl rfl rfl hc31 rfl ?_
     refine ai_ (c := decide (40 < out1.1)) rfl rfl rfl rfl hc31 rfl ?_
     refine aa_ rfl (bb_ (c := decide (40 < out1.1)) (a := (Value.bool (true))) rfl rfl hc31 rfl ?_)
     refine aa_ rfl (ae_ (v := (Value.bool (true))) rfl rfl ?_)
     refine ag_ ?_
     refine aw_ ?_
     obtain rfl := Option.some.inj h
     exact ⟨ed8, (Value.bool (true)), (cx_ rfl rfl), _, [], le1, I10, rfl, rfl⟩
    ·
     refine al_ (c := decide (40 < out1.1)) rfl rfl rfl rfl hc31 (aj_ (v := (Value.pointer (some ⟨g1, 0, none⟩))) rfl cs_ e53 (p1.at_ I10) ?_)
     refine al_ (c := decide (40 < out1.1)) rfl rfl rfl rfl hc31 (aq_ (v := (am_ (Value.pointer (some ⟨g1, 0, none⟩)) 1)) (e := a0.Edges) rfl fi_ rfl ((p1.at_ I10).fld Graph.fld1) (fun u31 hu31 => ?_))
     obtain ⟨z33, m33, k33, e58⟩ := ak_ hu31
     subst e58
     refine al_ (c := decide (40 < out1.1)) rfl rfl rfl rfl hc31 (bg_ rfl Try.underlying23 rfl hu31 ?_)
     refine al_ (c := decide (40 < out1.1)) rfl rfl rfl rfl hc31 (dw_ (a := (a0.Edges.length : Int)) (b := 400) rfl rfl rfl ?_)
     refine aa_ rfl (ay_ (c := decide (40 < out1.1)) (b := (Value.bool (decide (400 < (a0.Edges.length : Int))))) rfl rfl hc31 rfl ?_)
     refine aa_ rfl (ae_ (v := (Value.bool (decide (400 < (a0.Edges.length : Int))))) rfl rfl ?_)
     refine ag_ ?_
     refine aw_ ?_
     obtain rfl := Option.some.inj h
     exact ⟨ed8, (Value.bool (decide (400 < (a0.Edges.length : Int)))), (cx_ rfl rfl), _, [], le1, I10, rfl, rfl⟩
  ·
   refine ai_ (c := decide (20 < (a0.Positions.length : Int))) rfl rfl rfl rfl hc29 rfl ?_
   refine ai_ (c := decide (20 < (a0.Positions.length : Int))) rfl rfl rfl rfl hc29 rfl ?_
   refine ai_ (c := decide (20 < (a0.Positions.length : Int))) rfl rfl rfl rfl hc29 rfl ?_
   refine ai_ (c := decide (20 < (a0.Positions.length : Int))) rfl rfl rfl rfl hc29 rfl ?_
   refine aa_ rfl (ay_ (c := decide (20 < (a0.Positions.length : Int))) (b := (Value.bool (false))) rfl rfl hc29 rfl ?_)
   refine aa_ rfl (ac_ (v := (Value.bool (false))) rfl rfl ?_)
   refine al_ (c := false) rfl rfl rfl rfl rfl (ac_ (v := (Value.int .i64 (out1.1))) rfl e54 ?_)
   refine al_ (c := false) rfl rfl rfl rfl rfl (dw_ (a := out1.1) (b := 40) rfl rfl rfl ?_)
   refine aa_ rfl (ay_ (c := false) (b := (Value.bool (decide (40 < out1.1)))) rfl rfl rfl rfl ?_)
   refine aa_ rfl (ac_ (v := (Value.bool (decide (40 < out1.1)))) rfl rfl ?_)
   rcases ifs h with ⟨hc32, h⟩ | ⟨hc32, h⟩
   ·
    refine ai_ (c := decide (40 < out1.1)) rfl rfl rfl rfl hc32 rfl ?_
    refine ai_ (c := decide (40 < out1.1)) rfl rfl rfl rfl hc32 rfl ?_
    refine ai_ (c := decide (40 < out1.1)) rfl rfl rfl rfl hc32 rfl ?_
    refine ai_ (c := decide (40 < out1.1)) rfl rfl rfl rfl hc32 rfl ?_
    refine aa_ rfl (bb_ (c := decide (40 < out1.1)) (a := (Value.bool (true))) rfl rfl hc32 rfl ?_)
    refine aa_ rfl (ae_ (v := (Value.bool (true))) rfl rfl ?_)
    refine ag_ ?_
    refine aw_ ?_
    obtain rfl := Option.some.inj h
    exact ⟨ed8, (Value.bool (true)), (cx_ rfl rfl), _, [], le1, I10, rfl, rfl⟩
   ·
    refine al_ (c := decide (40 < out1.1)) rfl rfl rfl rfl hc32 (aj_ (v := (Value.pointer (some ⟨g1, 0, none⟩))) rfl cs_ e53 (p1.at_ I10) ?_)
    refine al_ (c := decide (40 < out1.1)) rfl rfl rfl rfl hc32 (aq_ (v := (am_ (Value.pointer (some ⟨g1, 0, none⟩)) 1)) (e := a0.Edges) rfl fi_ rfl ((p1.at_ I10).fld Graph.fld1) (fun u32 hu32 => ?_))
    obtain ⟨z34, m34, k34, e59⟩ := ak_ hu32
    subst e59
    refine al_ (c := decide (40 < out1.1)) rfl rfl rfl rfl hc32 (bg_ rfl Try.underlying23 rfl hu32 ?_)
    refine al_ (c := decide (40 < out1.1)) rfl rfl rfl rfl hc32 (dw_ (a := (a0.Edges.length : Int)) (b := 400) rfl rfl rfl ?_)
    refine aa_ rfl (ay_ (c := decide (40 < out1.1)) (b := (Value.bool (decide (400 < (a0.Edges.length : Int))))) rfl rfl hc32 rfl ?_)
    refine aa_ rfl (ae_ (v := (Value.bool (decide (400 < (a0.Edges.length : Int))))) rfl rfl ?_)
    refine ag_ ?_
    refine aw_ ?_
    obtain rfl := Option.some.inj h
    exact ⟨ed8, (Value.bool (decide (400 < (a0.Edges.length : Int)))), (cx_ rfl rfl), _, [], le1, I10, rfl, rfl⟩
end Go.Proofs.Ytogfongmnkmegaa.Pad
