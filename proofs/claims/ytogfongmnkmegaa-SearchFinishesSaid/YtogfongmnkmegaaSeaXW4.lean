/- A part of the proof: what the functions of the program compute, shown over the model. -/
import Derived.Test.YtogfongmnkmegaaSeaXN
import Derived.KernelRfl
set_option linter.unusedVariables false
namespace Go.Proofs.Ytogfongmnkmegaa.Pad
open Go Go.Proofs
set_option maxHeartbeats 4000000 in
set_option maxRecDepth 100000 in
theorem nz_ {w : World} {S : PH} {Fr : List HP} {a0 : Int} {a1 : Int} {a2 : Int} {r : Bool} (hI : Inv w S (Fr))  (h : F49 a0 a1 a2 = some r) :
    Calls Try.prog 49 [(Value.int .i64 (a0)), (Value.int .i64 (a1)), (Value.int .i64 (a2))].toArray w (dd_ S Fr (Value.bool (r))) := by
 unfold F49 at h
 refine bd_ (n := 15) (vs := [(Value.int .i64 (a0)), (Value.int .i64 (a1)), (Value.int .i64 (a2))]) Try.func49 rfl rfl rfl ?_
 refine ad_ ?_
 refine ab_ ?_
 refine aa_ rfl (ae_ (v := (Value.bool (false))) rfl rfl ?_)
 refine ag_ ?_
 refine ad_ ?_
 refine ab_ ?_
 refine aa_ rfl (ac_ (v := (Value.int .i64 (a0))) rfl rfl ?_)
 refine aa_ rfl (ac_ (v := (Value.int .i64 (a1))) rfl rfl ?_)
 refine aa_ rfl (fd_ (a := a0) (b := a1) rfl rfl rfl ?_)
 refine aa_ rfl (ac_ (v := (Value.bool (decide (a1 ≤ a0)))) rfl rfl ?_)
 rcases ifs h with ⟨hc1, h⟩ | ⟨hc1, h⟩
 ·
  refine al_ (c := decide (a1 ≤ a0)) rfl rfl rfl rfl hc1 (ac_ (v := (Value.int .i64 (a0))) rfl rfl ?_)
  refine al_ (c := decide (a1 ≤ a0)) rfl rfl rfl rfl hc1 (ac_ (v := (Value.int .i64 (a2))) rfl rfl ?_)
  refine al_ (c := decide (a1 ≤ a0)) rfl rfl rfl rfl hc1 (lp_ (a := a0) (b := a2) rfl rfl rfl ?_)
  refine aa_ rfl (bb_ (c := decide (a1 ≤ a0)) (a := (Value.bool (decide (a0 ≤ a2)))) rfl rfl hc1 rfl ?_)
  refine aa_ rfl (ae_ (v := (Value.bool (decide (a0 ≤ a2)))) rfl rfl ?_)
  refine ag_ ?_
  refine aw_ ?_
  obtain rfl := Option.some.inj h
  exact ⟨rfl, (Value.bool (decide (a0 ≤ a2))), (cx_ rfl rfl), _, [], (PH.Le.refl _), hI, rfl, rfl⟩
 ·
  refine ai_ (c := decide (a1 ≤ a0)) rfl rfl rfl rfl hc1 rfl ?_
  refine ai_ (c := decide (a1 ≤ a0)) rfl rfl rfl rfl hc1 rfl ?_
  refine ai_ (c := decide (a1 ≤ a0)) rfl rfl rfl rfl hc1 rfl ?_
  refine aa_ rfl (ay_ (c := decide (a1 ≤ a0)) (b := (Value.bool (false))) rfl rfl hc1 rfl ?_)
  refine aa_ rfl (ae_ (v := (Value.bool (false))) rfl rfl ?_)
  refine ag_ ?_
  refine aw_ ?_
  obtain rfl := Option.some.inj h
  exact ⟨rfl, (Value.bool (false)), (cx_ rfl rfl), _, [], (PH.Le.refl _), hI, rfl, rfl⟩
set_option maxHeartbeats 4000000 in
set_option maxRecDepth 100000 in
theorem F21_ok {w : World} {S : PH} {Fr : List HP} {a0 : Graph} {v0 : Value} {a1 : (List Int)} {v1 : Value} {r : Int} (hI : Inv w S (Fr)) (h0_ : RV S v0 a0) (h1_ : RV S v1 a1) (h : F21 a0 a1 = some r) :
    Calls Try.prog 21 [v0, v1].toArray w (dd_ S Fr (Value.int .i64 (r))) := by
 rw [N21_eq] at h; unfold N21 at h
 obtain ⟨c1, c2, e1, r1, r2⟩ := Graph.inv h0_
 subst e1
 obtain ⟨z1, m1, k1, e2⟩ := ak_ r1
 subst e2
 obtain ⟨z2, m2, k2, e3⟩ := ak_ r2
 subst e3
 obtain ⟨z3, m3, k3, e4⟩ := ak_ h1_
 subst e4
 refine bd_ (n := 100) (vs := [(Value.agg #[(Value.slice z1 m1 k1), (Value.slice z2 m2 k2)]), (Value.slice z3 m3 k3)]) Try.func21 rfl rfl rfl ?_
 refine ad_ ?_
 refine ab_ ?_
 refine aa_ rfl (cr_ (v := (Value.agg #[(Value.slice z1 m1 k1), (Value.slice z2 m2 k2)])) rfl hI rfl (fun g1 w1 I1 => ?_))
 obtain ⟨S1, le1, I2, p1⟩ := Inv.boxFreeze (x := a0) I1 (Graph.rv (s := a0) r1 r2)
 refine aa_ rfl (ae_ (v := (Value.int .i64 (0))) rfl rfl ?_)
 refine ag_ ?_
 refine ad_ ?_
 refine ab_ ?_
 refine aa_ rfl (aj_ (v := (Value.pointer (some ⟨g1, 0, none⟩))) rfl iw_ rfl (p1.at_ I2) ?_)
 refine aa_ rfl (aq_ (v := (am_ (Value.pointer (some ⟨g1, 0, none⟩)) 0)) (e := a0.Positions) rfl sh22 rfl ((p1.at_ I2).fld Graph.fld0) (fun u1 hu1 => ?_))
 obtain ⟨z4, m4, k4, e5⟩ := ak_ hu1
 subst e5
 refine aa_ rfl (bg_ rfl Try.underlying22 rfl hu1 ?_)
 refine aa_ rfl (ae_ (v := (Value.int .i64 ((a0.Positions.length : Int)))) rfl rfl ?_)
 refine ag_ ?_
 refine ad_ ?_
 refine ad_ ?_
 refine ab_ ?_
 refine aa_ rfl (ac_ (v := (Value.int .i64 ((a0.Positions.length : Int)))) rfl rfl ?_)
 obtain ⟨x2, hx2, h⟩ := bnd h
 refine aa_ rfl (bl_ (vs := [(Value.int .i64 ((a0.Positions.length : Int))), (Value.int .i64 (1)), (Value.int .i64 (300))]) (r := (Value.bool (x2))) rfl ca49 rfl (gl_ rfl rfl rfl) I2 (fun Fr_ hF_ => nz_ hF_  hx2) (fun w3 I4 => ?_))
 refine aa_ rfl (dm_ (b := x2) rfl rfl ?_)
 refine aa_ rfl (ac_ (v := (Value.bool (!x2))) rfl rfl ?_)
 rcases ifs h with ⟨hc4, h⟩ | ⟨hc4, h⟩
 ·
  refine ai_ (c := !x2) rfl rfl rfl rfl hc4 rfl ?_
  refine ai_ (c := !x2) rfl rfl rfl rfl hc4 rfl ?_
  refine ai_ (c := !x2) rfl rfl rfl rfl hc4 rfl ?_
  refine ai_ (c := !x2) rfl rfl rfl rfl hc4 rfl ?_
  refine ai_ (c := !x2) rfl rfl rfl rfl hc4 rfl ?_
  refine aa_ rfl (bb_ (c := !x2) (a := (Value.bool (true))) rfl rfl hc4 rfl ?_)
  refine aa_ rfl (ac_ (v := (Value.bool (true))) rfl rfl ?_)
  refine ai_ (c := true) rfl rfl rfl rfl rfl rfl ?_
  refine ai_ (c := true) rfl rfl rfl rfl rfl rfl ?_
  refine ai_ (c := true) rfl rfl rfl rfl rfl rfl ?_
  refine ai_ (c := true) rfl rfl rfl rfl rfl rfl ?_
  refine aa_ rfl (bb_ (c := true) (a := (Value.bool (true))) rfl rfl rfl rfl ?_)
  refine ag_ ?_
  refine an_ (b := true) rfl rfl ?_
  refine ad_ ?_
  refine ab_ ?_
  refine aa_ rfl (ae_ (v := (Value.int .i64 (60))) rfl rfl ?_)
  refine ag_ ?_
  refine aw_ ?_
  obtain rfl := Option.some.inj h
  exact ⟨rfl, (Value.int .i64 (60)), (cx_ rfl rfl), _, [], le1, I4, rfl, rfl⟩
 ·
  refine al_ (c := !x2) rfl rfl rfl rfl hc4 (aj_ (v := (Value.pointer (some ⟨g1, 0, none⟩))) rfl cs_ rfl (p1.at_ I4) ?_)
  refine al_ (c := !x2) rfl rfl rfl rfl hc4 (aq_ (v := (am_ (Value.pointer (some ⟨g1, 0, none⟩)) 1)) (e := a0.Edges) rfl fi_ rfl ((p1.at_ I4).fld Graph.fld1) (fun u3 hu3 => ?_))
  obtain ⟨z6, m6, k6, e7⟩ := ak_ hu3
  subst e7
  refine al_ (c := !x2) rfl rfl rfl rfl hc4 (bg_ rfl Try.underlying23 rfl hu3 ?_)
  refine al_ (c := !x2) rfl rfl rfl rfl hc4 (ac_ (v := (Value.int .i64 ((a0.Positions.length : Int)))) rfl rfl ?_)
  refine al_ (c := !x2) rfl rfl rfl rfl hc4 (cz_ (a := (a0.Edges.length : Int)) (b := (a0.Positions.length : Int)) rfl rfl rfl ?_)
  refine aa_ rfl (ay_ (c := !x2) (b := (Value.bool ((a0.Edges.length : Int) != (a0.Positions.length : Int)))) rfl rfl hc4 rfl ?_)
  refine aa_ rfl (ac_ (v := (Value.bool ((a0.Edges.length : Int) != (a0.Positions.length : Int)))) rfl rfl ?_)
  rcases ifs h with ⟨hc5, h⟩ | ⟨hc5, h⟩
  ·
   refine ai_ (c := (a0.Edges.length : Int) != (a0.Positions.length : Int)) rfl rfl rfl rfl hc5 rfl ?_
   refine ai_ (c := (a0.Edges.length : Int) != (a0.Positions.length : Int)) rfl rfl rfl rfl hc5 rfl ?_
   refine ai_ (c := (a0.Edges.length : Int) != (a0.Positions.length : Int)) rfl rfl rfl rfl hc5 rfl ?_
   refine ai_ (c := (a0.Edges.length : Int) != (a0.Positions.length : Int)) rfl rfl rfl rfl hc5 rfl ?_
   refine aa_ rfl (bb_ (c := (a0.Edges.length : Int) != (a0.Positions.length : Int)) (a := (Value.bool (true))) rfl rfl hc5 rfl ?_)
   refine ag_ ?_
   refine an_ (b := true) rfl rfl ?_
   refine ad_ ?_
   refine ab_ ?_
   refine aa_ rfl (ae_ (v := (Value.int .i64 (60))) rfl rfl ?_)
   refine ag_ ?_
   refine aw_ ?_
   obtain rfl := Option.some.inj h
   exact ⟨rfl, (Value.int .i64 (60)), (cx_ rfl rfl), _, [], le1, I4, rfl, rfl⟩
  ·
   refine al_ (c := (a0.Edges.length : Int) != (a0.Positions.length : Int)) rfl rfl rfl rfl hc5 (ac_ (v := (Value.slice z3 m3 k3)) rfl rfl ?_)
   refine al_ (c := (a0.Edges.length : Int) != (a0.Positions.length : Int)) rfl rfl rfl rfl hc5 (bg_ rfl Try.underlying26 rfl (h1_.mono le1) ?_)
   refine al_ (c := (a0.Edges.length : Int) != (a0.Positions.length : Int)) rfl rfl rfl rfl hc5 (ac_ (v := (Value.int .i64 ((a0.Positions.length : Int)))) rfl rfl ?_)
   refine al_ (c := (a0.Edges.length : Int) != (a0.Positions.length : Int)) rfl rfl rfl rfl hc5 (cz_ (a := (a1.length : Int)) (b := (a0.Positions.length : Int)) rfl rfl rfl ?_)
   refine aa_ rfl (ay_ (c := (a0.Edges.length : Int) != (a0.Positions.length : Int)) (b := (Value.bool ((a1.length : Int) != (a0.Positions.length : Int)))) rfl rfl hc5 rfl ?_)
   refine ag_ ?_
   rcases ifs h with ⟨hc6, h⟩ | ⟨hc6, h⟩
   ·
    refine an_ (b := (a1.length : Int) != (a0.Positions.length : Int)) rfl hc6 ?_
    refine ad_ ?_
    refine ab_ ?_
    refine aa_ rfl (ae_ (v := (Value.int .i64 (60))) rfl rfl ?_)
    refine ag_ ?_
    refine aw_ ?_
    obtain rfl := Option.some.inj h
    exact ⟨rfl, (Value.int .i64 (60)), (cx_ rfl rfl), _, [], le1, I4, rfl, rfl⟩
   ·
    refine ap_ (b := (a1.length : Int) != (a0.Positions.length : Int)) rfl hc6 ?_
    refine ar_ ?_
    refine ad_ ?_
    refine ad_ ?_
    refine ab_ ?_
    refine aa_ rfl (ae_ (v := (Value.int .i64 (0))) rfl rfl ?_)
    refine ag_ ?_
    have hk1 : a0.Positions.length ≤ 9223372036854775807 := (ee_ r1)
    obtain ⟨o6, hrun3, h⟩ := bnd h
    refine cf_ (fun f w => ∃ out3, o6 = Sum.inl out3 ∧ Inv w S1 (Fr) ∧ f 1 = (Value.slice z3 m3 k3) ∧ f 2 = (Value.pointer (some ⟨g1, 0, none⟩)) ∧ f 5 = (Value.int .i64 ((a0.Positions.length : Int))) ∧ f.ds = []) ?_ ?_
    ·
     refine au_ ?_
     refine dl_ (I := fun (i1 : Nat) (s3 : Unit) (f : Frm) (w : World) => Inv w S1 (Fr) ∧ f 1 = (Value.slice z3 m3 k3) ∧ f 2 = (Value.pointer (some ⟨g1, 0, none⟩)) ∧ f 5 = (Value.int .i64 ((a0.Positions.length : Int))) ∧ f 6 = (Value.int .i64 (i1 : Int)) ∧ f.ds = []) hrun3 ⟨I4, rfl, rfl, rfl, rfl, rfl⟩ ?_ ?_
     ·
      rintro i1 s3 f w o5 hlt1 hI3 h12 hout3
      obtain ⟨I29, e138, e139, e140, e141, ed17⟩ := hI3
      refine ad_ ?_
      refine ad_ ?_
      refine ab_ ?_
      refine aa_ rfl (ac_ (v := (Value.int .i64 ((i1 : Int)))) rfl e141 ?_)
      refine aa_ rfl (ac_ (v := (Value.int .i64 ((a0.Positions.length : Int)))) rfl e140 ?_)
      refine aa_ rfl (bn_ (a := (i1 : Int)) (b := (a0.Positions.length : Int)) rfl rfl rfl ?_)
      refine ag_ ?_
      refine an_ (b := decide ((i1 : Int) < (a0.Positions.length : Int))) rfl (eu_ hlt1) ?_
      refine ar_ ?_
      refine ad_ ?_
      refine au_ ?_
      refine ad_ ?_
      refine ad_ ?_
      refine ab_ ?_
      refine aa_ rfl (aj_ (v := (Value.pointer (some ⟨g1, 0, none⟩))) rfl cs_ e139 (p1.at_ I29) ?_)
      refine aa_ rfl (aq_ (v := (am_ (Value.pointer (some ⟨g1, 0, none⟩)) 1)) (e := a0.Edges) rfl fi_ rfl ((p1.at_ I29).fld Graph.fld1) (fun u44 hu44 => ?_))
      obtain ⟨z47, m47, k47, e142⟩ := ak_ hu44
      subst e142
      refine aa_ rfl (ac_ (v := (Value.int .i64 ((i1 : Int)))) rfl e141 ?_)
      obtain ⟨x51, hx51, h12⟩ := bnd h12
      refine aa_ rfl (ao_ (v := (Value.slice z47 m47 k47)) (i := (i1 : Int)) (e := x51) rfl Try.underlying23 en_ rfl hu44 rfl hx51 ?_)
      refine aa_ rfl (aq_ (v := (ah_ (Value.slice z47 m47 k47) ((i1 : Int)) (Enc.sz (List Edge)))) (e := x51) rfl en_ rfl (hu44.elem I29.in_ hx51) (fun u45 hu45 => ?_))
      obtain ⟨z48, m48, k48, e143⟩ := ak_ hu45
      subst e143
      refine aa_ rfl (bg_ rfl Try.underlying40 rfl hu45 ?_)
      refine aa_ rfl (dw_ (a := (x51.length : Int)) (b := 100) rfl rfl rfl ?_)
      refine ag_ ?_
      rcases ifs h12 with ⟨hc57, h12⟩ | ⟨hc57, h12⟩
      ·
       refine an_ (b := decide (100 < (x51.length : Int))) rfl hc57 ?_
       refine ad_ ?_
       refine ab_ ?_
       refine aa_ rfl (ae_ (v := (Value.int .i64 (60))) rfl rfl ?_)
       refine ag_ ?_
       refine aw_ ?_
       obtain rfl := Option.some.inj h12
       obtain rfl := (hout3 _ rfl)
       have h13 := h
       obtain rfl := Option.some.inj h13
       exact ⟨ed17, (Value.int .i64 (60)), (cx_ rfl rfl), _, [], le1, I29, rfl, rfl⟩
      ·
       refine ap_ (b := decide (100 < (x51.length : Int))) rfl hc57 ?_
       refine ar_ ?_
       refine ad_ ?_
       refine ab_ ?_
       refine aa_ rfl (ae_ (v := (Value.int .i64 ((-1)))) rfl rfl ?_)
       refine ag_ ?_
       refine ad_ ?_
       refine ad_ ?_
       refine ab_ ?_
       refine aa_ rfl (ae_ (v := (Value.int .i64 (0))) rfl rfl ?_)
       refine ag_ ?_
       obtain ⟨o8, hrun4, h12⟩ := bnd h12
       refine cf_ (fun f w => ∃ out4, o8 = Sum.inl out4 ∧ Inv w S1 (Fr) ∧ f 1 = (Value.slice z3 m3 k3) ∧ f 2 = (Value.pointer (some ⟨g1, 0, none⟩)) ∧ f 5 = (Value.int .i64 ((a0.Positions.length : Int))) ∧ f 6 = (Value.int .i64 ((i1 : Int))) ∧ f 7 = (Value.int .i64 (out4.1)) ∧ f 8 = (Value.int .i64 (out4.2)) ∧ f.ds = []) ?_ ?_
       ·
        refine au_ ?_
        refine co_ (I := fun (s4 : (Int × Int)) (f : Frm) (w : World) => Inv w S1 (Fr) ∧ f 1 = (Value.slice z3 m3 k3) ∧ f 2 = (Value.pointer (some ⟨g1, 0, none⟩)) ∧ f 5 = (Value.int .i64 ((a0.Positions.length : Int))) ∧ f 6 = (Value.int .i64 ((i1 : Int))) ∧ f 7 = (Value.int .i64 (s4.1)) ∧ f 8 = (Value.int .i64 (s4.2)) ∧ f.ds = []) hrun4 ⟨I29, e138, e139, e140, e141, rfl, rfl, ed17⟩ ?_
        rintro s4 f w o7 hI4 h14 hout4
        obtain ⟨I37, e182, e183, e184, e185, e186, e187, ed22⟩ := hI4
        refine ad_ ?_
        refine ad_ ?_
        refine ab_ ?_
        refine aa_ rfl (ac_ (v := (Value.int .i64 (s4.2))) rfl e187 ?_)
        refine aa_ rfl (aj_ (v := (Value.pointer (some ⟨g1, 0, none⟩))) rfl cs_ e183 (p1.at_ I37) ?_)
        refine aa_ rfl (aq_ (v := (am_ (Value.pointer (some ⟨g1, 0, none⟩)) 1)) (e := a0.Edges) rfl fi_ rfl ((p1.at_ I37).fld Graph.fld1) (fun u60 hu60 => ?_))
        obtain ⟨z63, m63, k63, e188⟩ := ak_ hu60
        subst e188
        refine aa_ rfl (ac_ (v := (Value.int .i64 ((i1 : Int)))) rfl e185 ?_)
        obtain ⟨x68, hx68, h14⟩ := bnd h14
        refine aa_ rfl (ao_ (v := (Value.slice z63 m63 k63)) (i := (i1 : Int)) (e := x68) rfl Try.underlying23 en_ rfl hu60 rfl hx68 ?_)
        refine aa_ rfl (aq_ (v := (ah_ (Value.slice z63 m63 k63) ((i1 : Int)) (Enc.sz (List Edge)))) (e := x68) rfl en_ rfl (hu60.elem I37.in_ hx68) (fun u61 hu61 => ?_))
        obtain ⟨z64, m64, k64, e189⟩ := ak_ hu61
        subst e189
        refine aa_ rfl (bg_ rfl Try.underlying40 rfl hu61 ?_)
        refine aa_ rfl (bn_ (a := s4.2) (b := (x68.length : Int)) rfl rfl rfl ?_)
        refine ag_ ?_
        rcases ifs h14 with ⟨hc73, h14⟩ | ⟨hc73, h14⟩
        ·
         refine an_ (b := decide (s4.2 < (x68.length : Int))) rfl hc73 ?_
         refine ar_ ?_
         refine ad_ ?_
         refine au_ ?_
         refine ad_ ?_
         refine ab_ ?_
         refine aa_ rfl (aj_ (v := (Value.pointer (some ⟨g1, 0, none⟩))) rfl cs_ e183 (p1.at_ I37) ?_)
         refine aa_ rfl (aq_ (v := (am_ (Value.pointer (some ⟨g1, 0, none⟩)) 1)) (e := a0.Edges) rfl fi_ rfl ((p1.at_ I37).fld Graph.fld1) (fun u62 hu62 => ?_))
         obtain ⟨z65, m65, k65, e190⟩ := ak_ hu62
         subst e190
         refine aa_ rfl (ac_ (v := (Value.int .i64 ((i1 : Int)))) rfl e185 ?_)
         obtain ⟨x69, hx69, h14⟩ := bnd h14
         refine aa_ rfl (ao_ (v := (Value.slice z65 m65 k65)) (i := (i1 : Int)) (e := x69) rfl Try.underlying23 en_ rfl hu62 rfl hx69 ?_)
         refine aa_ rfl (aq_ (v := (ah_ (Value.slice z65 m65 k65) ((i1 : Int)) (Enc.sz (List Edge)))) (e := x69) rfl en_ rfl (hu62.elem I37.in_ hx69) (fun u63 hu63 => ?_))
         obtain ⟨z66, m66, k66, e191⟩ := ak_ hu63
         subst e191
         refine aa_ rfl (ac_ (v := (Value.int .i64 (s4.2))) rfl e187 ?_)
         obtain ⟨x70, hx70, h14⟩ := bnd h14
         refine aa_ rfl (ao_ (v := (Value.slice z66 m66 k66)) (i := s4.2) (e := x70) rfl Try.underlying40 kw_ rfl hu63 rfl hx70 ?_)
         refine aa_ rfl (aj_ (v := (ah_ (Value.slice z66 m66 k66) (s4.2) (Enc.sz Edge))) rfl ft_ rfl (hu63.elem I37.in_ hx70) ?_)
         refine aa_ rfl (av_ (v := (am_ (ah_ (Value.slice z66 m66 k66) (s4.2) (Enc.sz Edge)) 3)) (e := x70.To) rfl sh3 rfl ((hu63.elem I37.in_ hx70).fld Edge.fld1) ?_)
         refine aa_ rfl (ae_ (v := (Value.int .i64 (x70.To))) rfl rfl ?_)
         refine ag_ ?_
         refine ad_ ?_
         refine ad_ ?_
         refine ab_ ?_
         refine aa_ rfl (ac_ (v := (Value.int .i64 (x70.To))) rfl rfl ?_)
         refine aa_ rfl (ac_ (v := (Value.int .i64 ((a0.Positions.length : Int)))) rfl e184 ?_)
         refine aa_ rfl (ni_ (a := (a0.Positions.length : Int)) (b := 1) rfl rfl rfl ?_)
         obtain ⟨x71, hx71, h14⟩ := bnd h14
         refine aa_ rfl (bl_ (vs := [(Value.int .i64 (x70.To)), (Value.int .i64 (0)), (Value.int .i64 (w64 ((a0.Positions.length : Int) - 1)))]) (r := (Value.bool (x71))) rfl ca49 rfl (gl_ rfl rfl rfl) I37 (fun Fr_ hF_ => nz_ hF_  hx71) (fun w15 I38 => ?_))
         refine aa_ rfl (dm_ (b := x71) rfl rfl ?_)
         refine ag_ ?_
         rcases ifs h14 with ⟨hc74, h14⟩ | ⟨hc74, h14⟩
         ·
          refine an_ (b := !x71) rfl hc74 ?_
          refine ad_ ?_
          refine ab_ ?_
          refine aa_ rfl (ae_ (v := (Value.int .i64 (60))) rfl rfl ?_)
          refine ag_ ?_
          refine aw_ ?_
          obtain rfl := Option.some.inj h14
          obtain rfl := (hout4 _ rfl)
          have h15 := h12
          obtain rfl := Option.some.inj h15
          obtain rfl := (hout3 _ rfl)
          have h13 := h
          obtain rfl := Option.some.inj h13
          exact ⟨ed22, (Value.int .i64 (60)), (cx_ rfl rfl), _, [], le1, I38, rfl, rfl⟩
         ·
          refine ap_ (b := !x71) rfl hc74 ?_
          refine ar_ ?_
          refine ad_ ?_
          refine ab_ ?_
          refine aa_ rfl (ac_ (v := (Value.slice z3 m3 k3)) rfl e182 ?_)
          refine aa_ rfl (ac_ (v := (Value.int .i64 (x70.To))) rfl rfl ?_)
          obtain ⟨x72, hx72, h14⟩ := bnd h14
          refine aa_ rfl (ao_ (v := (Value.slice z3 m3 k3)) (i := x70.To) (e := x72) rfl Try.underlying26 sh3 rfl (h1_.mono le1) rfl hx72 ?_)
          refine aa_ rfl (av_ (v := (ah_ (Value.slice z3 m3 k3) (x70.To) (Enc.sz Int))) (e := x72) rfl sh3 rfl ((h1_.mono le1).elem I38.in_ hx72) ?_)
          refine aa_ rfl (ae_ (v := (Value.int .i64 (x72))) rfl rfl ?_)
          refine ag_ ?_
          refine ad_ ?_
          refine ab_ ?_
          refine aa_ rfl (ac_ (v := (Value.int .i64 (x72))) rfl rfl ?_)
          refine aa_ rfl (fd_ (a := x72) (b := 0) rfl rfl rfl ?_)
          refine aa_ rfl (ac_ (v := (Value.bool (decide (0 ≤ x72)))) rfl rfl ?_)
          rcases ifs h14 with ⟨hc75, h14⟩ | ⟨hc75, h14⟩
          ·
           refine al_ (c := decide (0 ≤ x72)) rfl rfl rfl rfl hc75 (ac_ (v := (Value.int .i64 (s4.1))) rfl e186 ?_)
           refine al_ (c := decide (0 ≤ x72)) rfl rfl rfl rfl hc75 (bn_ (a := s4.1) (b := 0) rfl rfl rfl ?_)
           refine al_ (c := decide (0 ≤ x72)) rfl rfl rfl rfl hc75 (ac_ (v := (Value.bool (decide (s4.1 < 0)))) rfl rfl ?_)
           rcases ifs h14 with ⟨hc76, h14⟩ | ⟨hc76, h14⟩
           ·
            refine ai_ (c := decide (s4.1 < 0)) rfl rfl rfl rfl hc76 rfl ?_
            refine ai_ (c := decide (s4.1 < 0)) rfl rfl rfl rfl hc76 rfl ?_
            refine ai_ (c := decide (s4.1 < 0)) rfl rfl rfl rfl hc76 rfl ?_
            refine al_ (c := decide (0 ≤ x72)) rfl rfl rfl rfl hc75 (bb_ (c := decide (s4.1 < 0)) (a := (Value.bool (true))) rfl rfl hc76 rfl ?_)
            refine aa_ rfl (bb_ (c := decide (0 ≤ x72)) (a := (Value.bool (true))) rfl rfl hc75 rfl ?_)
            refine ag_ ?_
            refine an_ (b := true) rfl rfl ?_
            refine ab_ ?_
            refine aa_ rfl (ac_ (v := (Value.int .i64 (x72))) rfl rfl ?_)
            refine aa_ rfl (ae_ (v := (Value.int .i64 (x72))) rfl rfl ?_)
            refine ag_ ?_
            refine ab_ ?_
            refine aa_ rfl (ac_ (v := (Value.int .i64 (s4.2))) rfl e187 ?_)
            refine aa_ rfl (bs_ (a := s4.2) (b := 1) rfl rfl rfl ?_)
            refine aa_ rfl (ae_ (v := (Value.int .i64 (w64 (s4.2 + 1)))) rfl rfl ?_)
            refine ag_ ?_
            obtain rfl := Option.some.inj h14
            exact ⟨_, rfl, I38, e182, e183, e184, e185, rfl, rfl, ed22⟩
           ·
            refine al_ (c := decide (s4.1 < 0)) rfl rfl rfl rfl hc76 (ac_ (v := (Value.int .i64 (x72))) rfl rfl ?_)
            refine al_ (c := decide (s4.1 < 0)) rfl rfl rfl rfl hc76 (ac_ (v := (Value.int .i64 (s4.1))) rfl e186 ?_)
            refine al_ (c := decide (s4.1 < 0)) rfl rfl rfl rfl hc76 (bn_ (a := x72) (b := s4.1) rfl rfl rfl ?_)
            refine al_ (c := decide (0 ≤ x72)) rfl rfl rfl rfl hc75 (ay_ (c := decide (s4.1 < 0)) (b := (Value.bool (decide (x72 < s4.1)))) rfl rfl hc76 rfl ?_)
            refine aa_ rfl (bb_ (c := decide (0 ≤ x72)) (a := (Value.bool (decide (x72 < s4.1)))) rfl rfl hc75 rfl ?_)
            refine ag_ ?_
            rcases ifs h14 with ⟨hc77, h14⟩ | ⟨hc77, h14⟩
            ·
             refine an_ (b := decide (x72 < s4.1)) rfl hc77 ?_
             refine ab_ ?_
             refine aa_ rfl (ac_ (v := (Value.int .i64 (x72))) rfl rfl ?_)
             refine aa_ rfl (ae_ (v := (Value.int .i64 (x72))) rfl rfl ?_)
             refine ag_ ?_
             refine ab_ ?_
             refine aa_ rfl (ac_ (v := (Value.int .i64 (s4.2))) rfl e187 ?_)
             refine aa_ rfl (bs_ (a := s4.2) (b := 1) rfl rfl rfl ?_)
             refine aa_ rfl (ae_ (v := (Value.int .i64 (w64 (s4.2 + 1)))) rfl rfl ?_)
             refine ag_ ?_
             obtain rfl := Option.some.inj h14
             exact ⟨_, rfl, I38, e182, e183, e184, e185, rfl, rfl, ed22⟩
            ·
             refine ap_ (b := decide (x72 < s4.1)) rfl hc77 ?_
             refine ar_ ?_
             refine ab_ ?_
             refine aa_ rfl (ac_ (v := (Value.int .i64 (s4.2))) rfl e187 ?_)
             refine aa_ rfl (bs_ (a := s4.2) (b := 1) rfl rfl rfl ?_)
             refine aa_ rfl (ae_ (v := (Value.int .i64 (w64 (s4.2 + 1)))) rfl rfl ?_)
             refine ag_ ?_
             obtain rfl := Option.some.inj h14
             exact ⟨_, rfl, I38, e182, e183, e184, e185, e186, rfl, ed22⟩
          ·
           refine ai_ (c := decide (0 ≤ x72)) rfl rfl rfl rfl hc75 rfl ?_
           refine ai_ (c := decide (0 ≤ x72)) rfl rfl rfl rfl hc75 rfl ?_
           refine ai_ (c := decide (0 ≤ x72)) rfl rfl rfl rfl hc75 rfl ?_
           refine cc_ rfl rfl rfl rfl rfl ?_
           refine cc_ rfl rfl rfl rfl rfl ?_
           refine cc_ rfl rfl rfl rfl rfl ?_
           refine ai_ (c := decide (0 ≤ x72)) rfl rfl rfl rfl hc75 rfl ?_
           refine aa_ rfl (ay_ (c := decide (0 ≤ x72)) (b := (Value.bool (false))) rfl rfl hc75 rfl ?_)
           refine ag_ ?_
           refine ap_ (b := false) rfl rfl ?_
           refine ar_ ?_
           refine ab_ ?_
           refine aa_ rfl (ac_ (v := (Value.int .i64 (s4.2))) rfl e187 ?_)
           refine aa_ rfl (bs_ (a := s4.2) (b := 1) rfl rfl rfl ?_)
           refine aa_ rfl (ae_ (v := (Value.int .i64 (w64 (s4.2 + 1)))) rfl rfl ?_)
           refine ag_ ?_
           obtain rfl := Option.some.inj h14
           exact ⟨_, rfl, I38, e182, e183, e184, e185, e186, rfl, ed22⟩
        ·
         refine ap_ (b := decide (s4.2 < (x68.length : Int))) rfl hc73 ?_
         refine bm_ ?_
         obtain rfl := Option.some.inj h14
         obtain rfl := (hout4 _ rfl)
         exact ⟨_, rfl, I37, e182, e183, e184, e185, e186, e187, ed22⟩
       ·
        rintro f w ⟨out4, rfl, I39, e192, e193, e194, e195, e196, e197, ed23⟩
        have h12 := cy_ h12
        refine ad_ ?_
        refine ab_ ?_
        refine aa_ rfl (ae_ (v := (Value.int .i64 ((-1)))) rfl rfl ?_)
        refine ag_ ?_
        obtain ⟨v3, h17, h12⟩ := bnd h12
        refine eo_ (fun f w => Inv w S1 (Fr) ∧ f 1 = (Value.slice z3 m3 k3) ∧ f 2 = (Value.pointer (some ⟨g1, 0, none⟩)) ∧ f 5 = (Value.int .i64 ((a0.Positions.length : Int))) ∧ f 6 = (Value.int .i64 ((i1 : Int))) ∧ f 11 = (Value.int .i64 (v3)) ∧ f.ds = []) ?_ ?_
        ·
         refine ad_ ?_
         refine ab_ ?_
         refine aa_ rfl (ac_ (v := (Value.int .i64 (out4.1))) rfl e196 ?_)
         refine aa_ rfl (fd_ (a := out4.1) (b := 0) rfl rfl rfl ?_)
         refine ag_ ?_
         rcases ifs h17 with ⟨hc79, h17⟩ | ⟨hc79, h17⟩
         ·
          refine an_ (b := decide (0 ≤ out4.1)) rfl hc79 ?_
          refine ab_ ?_
          refine aa_ rfl (ac_ (v := (Value.int .i64 (out4.1))) rfl e196 ?_)
          refine aa_ rfl (bs_ (a := out4.1) (b := 1) rfl rfl rfl ?_)
          refine aa_ rfl (ae_ (v := (Value.int .i64 (w64 (out4.1 + 1)))) rfl rfl ?_)
          refine ag_ ?_
          obtain rfl := Option.some.inj h17
          exact ⟨I39, e192, e193, e194, e195, rfl, ed23⟩
         ·
          refine ap_ (b := decide (0 ≤ out4.1)) rfl hc79 ?_
          refine ar_ ?_
          obtain rfl := Option.some.inj h17
          exact ⟨I39, e192, e193, e194, e195, rfl, ed23⟩
        ·
         rintro f w ⟨I40, e198, e199, e200, e201, e202, ed24⟩
         refine ad_ ?_
         refine ab_ ?_
         refine aa_ rfl (ac_ (v := (Value.slice z3 m3 k3)) rfl e198 ?_)
         refine aa_ rfl (ac_ (v := (Value.int .i64 ((i1 : Int)))) rfl e201 ?_)
         obtain ⟨x73, hx73, h12⟩ := bnd h12
         refine aa_ rfl (ao_ (v := (Value.slice z3 m3 k3)) (i := (i1 : Int)) (e := x73) rfl Try.underlying26 sh3 rfl (h1_.mono le1) rfl hx73 ?_)
         refine aa_ rfl (av_ (v := (ah_ (Value.slice z3 m3 k3) ((i1 : Int)) (Enc.sz Int))) (e := x73) rfl sh3 rfl ((h1_.mono le1).elem I40.in_ hx73) ?_)
         refine aa_ rfl (cz_ (a := x73) (b := 0) rfl rfl rfl ?_)
         refine aa_ rfl (ac_ (v := (Value.bool (x73 != 0))) rfl rfl ?_)
         rcases ifs h12 with ⟨hc80, h12⟩ | ⟨hc80, h12⟩
         ·
          refine al_ (c := x73 != 0) rfl rfl rfl rfl hc80 (ac_ (v := (Value.slice z3 m3 k3)) rfl e198 ?_)
          refine al_ (c := x73 != 0) rfl rfl rfl rfl hc80 (ac_ (v := (Value.int .i64 ((i1 : Int)))) rfl e201 ?_)
          obtain ⟨x74, hx74, h12⟩ := bnd h12
          refine al_ (c := x73 != 0) rfl rfl rfl rfl hc80 (ao_ (v := (Value.slice z3 m3 k3)) (i := (i1 : Int)) (e := x74) rfl Try.underlying26 sh3 rfl (h1_.mono le1) rfl hx74 ?_)
          refine al_ (c := x73 != 0) rfl rfl rfl rfl hc80 (av_ (v := (ah_ (Value.slice z3 m3 k3) ((i1 : Int)) (Enc.sz Int))) (e := x74) rfl sh3 rfl ((h1_.mono le1).elem I40.in_ hx74) ?_)
          refine al_ (c := x73 != 0) rfl rfl rfl rfl hc80 (ac_ (v := (Value.int .i64 (v3))) rfl e202 ?_)
          refine al_ (c := x73 != 0) rfl rfl rfl rfl hc80 (cz_ (a := x74) (b := v3) rfl rfl rfl ?_)
          refine aa_ rfl (bb_ (c := x73 != 0) (a := (Value.bool (x74 != v3))) rfl rfl hc80 rfl ?_)
          refine ag_ ?_
          rcases ifs h12 with ⟨hc81, h12⟩ | ⟨hc81, h12⟩
          ·
           refine an_ (b := x74 != v3) rfl hc81 ?_
           refine ad_ ?_
           refine ab_ ?_
           refine aa_ rfl (ae_ (v := (Value.int .i64 (60))) rfl rfl ?_)
           refine ag_ ?_
           refine aw_ ?_
           obtain rfl := Option.some.inj h12
           obtain rfl := (hout3 _ rfl)
           have h13 := h
           obtain rfl := Option.some.inj h13
           exact ⟨ed24, (Value.int .i64 (60)), (cx_ rfl rfl), _, [], le1, I40, rfl, rfl⟩
          ·
           refine ap_ (b := x74 != v3) rfl hc81 ?_
           refine ar_ ?_
           refine ab_ ?_
           refine aa_ rfl (ac_ (v := (Value.int .i64 ((i1 : Int)))) rfl e201 ?_)
           refine aa_ rfl (bs_ (a := (i1 : Int)) (b := 1) rfl rfl rfl ?_)
           refine aa_ rfl (ae_ (v := (Value.int .i64 (w64 ((i1 : Int) + 1)))) rfl rfl ?_)
           refine ag_ ?_
           obtain rfl := Option.some.inj h12
           exact ⟨_, rfl, I40, e198, e199, e200, (ca_ hlt1 hk1), ed24⟩
         ·
          refine ai_ (c := x73 != 0) rfl rfl rfl rfl hc80 rfl ?_
          refine ai_ (c := x73 != 0) rfl rfl rfl rfl hc80 rfl ?_
          refine ai_ (c := x73 != 0) rfl rfl rfl rfl hc80 rfl ?_
          refine ai_ (c := x73 != 0) rfl rfl rfl rfl hc80 rfl ?_
          refine ai_ (c := x73 != 0) rfl rfl rfl rfl hc80 rfl ?_
          refine ai_ (c := x73 != 0) rfl rfl rfl rfl hc80 rfl ?_
          refine aa_ rfl (ay_ (c := x73 != 0) (b := (Value.bool (false))) rfl rfl hc80 rfl ?_)
          refine ag_ ?_
          refine ap_ (b := false) rfl rfl ?_
          refine ar_ ?_
          refine ab_ ?_
          refine aa_ rfl (ac_ (v := (Value.int .i64 ((i1 : Int)))) rfl e201 ?_)
          refine aa_ rfl (bs_ (a := (i1 : Int)) (b := 1) rfl rfl rfl ?_)
          refine aa_ rfl (ae_ (v := (Value.int .i64 (w64 ((i1 : Int) + 1)))) rfl rfl ?_)
          refine ag_ ?_
          obtain rfl := Option.some.inj h12
          exact ⟨_, rfl, I40, e198, e199, e200, (ca_ hlt1 hk1), ed24⟩
     ·
      rintro s5 f w hs1 hI5
      obtain ⟨I41, e203, e204, e205, e206, ed25⟩ := hI5
      refine ad_ ?_
      refine ad_ ?_
      refine ab_ ?_
      refine aa_ rfl (ac_ (v := (Value.int .i64 ((a0.Positions.length : Int)))) rfl e206 ?_)
      refine aa_ rfl (ac_ (v := (Value.int .i64 ((a0.Positions.length : Int)))) rfl e205 ?_)
      refine aa_ rfl (bn_ (a := (a0.Positions.length : Int)) (b := (a0.Positions.length : Int)) rfl rfl rfl ?_)
      refine ag_ ?_
      refine ap_ (b := decide ((a0.Positions.length : Int) < (a0.Positions.length : Int))) rfl (ev_ _) ?_
      refine bm_ ?_
      exact ⟨s5, hs1, I41, e203, e204, e205, ed25⟩
    ·
     rintro f w ⟨out3, rfl, I42, e207, e208, e209, ed26⟩
     have h := cy_ h
     refine ad_ ?_
     refine ab_ ?_
     refine aa_ rfl (ae_ (v := (Value.int .i64 (0))) rfl rfl ?_)
     refine ag_ ?_
     refine aw_ ?_
     obtain rfl := Option.some.inj h
     exact ⟨ed26, (Value.int .i64 (0)), (cx_ rfl rfl), _, [], le1, I42, rfl, rfl⟩
end Go.Proofs.Ytogfongmnkmegaa.Pad
