/- A part of the proof: what the functions of the program compute, shown over the model. -/
import Derived.Test.YtogfongmnkmegaaSeaXN
import Derived.Test.YtogfongmnkmegaaSeaXF
import Derived.Test.YtogfongmnkmegaaSeaXW3
import Derived.Test.YtogfongmnkmegaaSeaXW4
import Derived.Test.YtogfongmnkmegaaSeaXW5
import Derived.KernelRfl
set_option linter.unusedVariables false
namespace Go.Proofs.Ytogfongmnkmegaa.Pad
open Go Go.Proofs
set_option maxHeartbeats 4000000 in
set_option maxRecDepth 100000 in
theorem F22_ok {w : World} {S : PH} {Fr : List HP} {a0 : Graph} {v0 : Value} {r : Int} (hI : Inv w S (Fr)) (h0_ : RV S v0 a0) (h : F22 a0 = some r) :
    Calls Try.prog 22 [v0].toArray w (dd_ S Fr (Value.int .i64 (r))) := by
 unfold F22 at h
 obtain ⟨c1, c2, e1, r1, r2⟩ := Graph.inv h0_
 subst e1
 obtain ⟨z1, m1, k1, e2⟩ := ak_ r1
 subst e2
 obtain ⟨z2, m2, k2, e3⟩ := ak_ r2
 subst e3
 refine bd_ (n := 21) (vs := [(Value.agg #[(Value.slice z1 m1 k1), (Value.slice z2 m2 k2)])]) Try.func22 rfl rfl rfl ?_
 refine ad_ ?_
 refine ab_ ?_
 refine aa_ rfl (cr_ (v := (Value.agg #[(Value.slice z1 m1 k1), (Value.slice z2 m2 k2)])) rfl hI rfl (fun g1 w1 I1 => ?_))
 obtain ⟨S1, le1, I2, p1⟩ := Inv.boxFreeze (x := a0) I1 (Graph.rv (s := a0) r1 r2)
 refine aa_ rfl (ae_ (v := (Value.int .i64 (0))) rfl rfl ?_)
 refine ag_ ?_
 refine ad_ ?_
 refine ab_ ?_
 refine aa_ rfl (ae_ (v := (Value.int .i64 (0))) rfl rfl ?_)
 refine ag_ ?_
 refine ad_ ?_
 refine ad_ ?_
 refine ab_ ?_
 refine aa_ rfl (ae_ (v := (Value.int .i64 (0))) rfl rfl ?_)
 refine ag_ ?_
 have hk1 : a0.Edges.length ≤ 9223372036854775807 := (ee_ r2)
 obtain ⟨out1, hrun1, h⟩ := bnd h
 refine cf_ (fun f w => Inv w S1 (Fr) ∧ f 1 = (Value.pointer (some ⟨g1, 0, none⟩)) ∧ f 3 = (Value.int .i64 (out1)) ∧ f.ds = []) ?_ ?_
 ·
  refine au_ ?_
  refine fh_ (I := fun (i1 : Nat) (s1 : (Int)) (f : Frm) (w : World) => Inv w S1 (Fr) ∧ f 1 = (Value.pointer (some ⟨g1, 0, none⟩)) ∧ f 3 = (Value.int .i64 (s1)) ∧ f 4 = (Value.int .i64 (i1 : Int)) ∧ f.ds = []) hrun1 ⟨I2, rfl, rfl, rfl, rfl⟩ ?_ ?_
  ·
   rintro i1 s1 f w o1 hlt1 hI1 h1
   obtain ⟨I6, e27, e28, e29, ed4⟩ := hI1
   refine ad_ ?_
   refine ad_ ?_
   refine ab_ ?_
   refine aa_ rfl (ac_ (v := (Value.int .i64 ((i1 : Int)))) rfl e29 ?_)
   refine aa_ rfl (aj_ (v := (Value.pointer (some ⟨g1, 0, none⟩))) rfl cs_ e27 (p1.at_ I6) ?_)
   refine aa_ rfl (aq_ (v := (am_ (Value.pointer (some ⟨g1, 0, none⟩)) 1)) (e := a0.Edges) rfl fi_ rfl ((p1.at_ I6).fld Graph.fld1) (fun u16 hu16 => ?_))
   obtain ⟨z18, m18, k18, e31⟩ := ak_ hu16
   subst e31
   refine aa_ rfl (bg_ rfl Try.underlying23 rfl hu16 ?_)
   refine aa_ rfl (bn_ (a := (i1 : Int)) (b := (a0.Edges.length : Int)) rfl rfl rfl ?_)
   refine ag_ ?_
   refine an_ (b := decide ((i1 : Int) < (a0.Edges.length : Int))) rfl (eu_ hlt1) ?_
   refine ar_ ?_
   refine ad_ ?_
   refine au_ ?_
   refine ab_ ?_
   refine aa_ rfl (ac_ (v := (Value.int .i64 (s1))) rfl e28 ?_)
   refine aa_ rfl (aj_ (v := (Value.pointer (some ⟨g1, 0, none⟩))) rfl cs_ e27 (p1.at_ I6) ?_)
   refine aa_ rfl (aq_ (v := (am_ (Value.pointer (some ⟨g1, 0, none⟩)) 1)) (e := a0.Edges) rfl fi_ rfl ((p1.at_ I6).fld Graph.fld1) (fun u17 hu17 => ?_))
   obtain ⟨z19, m19, k19, e32⟩ := ak_ hu17
   subst e32
   refine aa_ rfl (ac_ (v := (Value.int .i64 ((i1 : Int)))) rfl e29 ?_)
   obtain ⟨x4, hx4, h1⟩ := bnd h1
   refine aa_ rfl (ao_ (v := (Value.slice z19 m19 k19)) (i := (i1 : Int)) (e := x4) rfl Try.underlying23 en_ rfl hu17 rfl hx4 ?_)
   refine aa_ rfl (aq_ (v := (ah_ (Value.slice z19 m19 k19) ((i1 : Int)) (Enc.sz (List Edge)))) (e := x4) rfl en_ rfl (hu17.elem I6.in_ hx4) (fun u18 hu18 => ?_))
   obtain ⟨z20, m20, k20, e33⟩ := ak_ hu18
   subst e33
   refine aa_ rfl (bg_ rfl Try.underlying40 rfl hu18 ?_)
   refine aa_ rfl (bs_ (a := s1) (b := (x4.length : Int)) rfl rfl rfl ?_)
   refine aa_ rfl (ae_ (v := (Value.int .i64 (w64 (s1 + (x4.length : Int))))) rfl rfl ?_)
   refine ag_ ?_
   refine ab_ ?_
   refine aa_ rfl (ac_ (v := (Value.int .i64 ((i1 : Int)))) rfl e29 ?_)
   refine aa_ rfl (bs_ (a := (i1 : Int)) (b := 1) rfl rfl rfl ?_)
   refine aa_ rfl (ae_ (v := (Value.int .i64 (w64 ((i1 : Int) + 1)))) rfl rfl ?_)
   refine ag_ ?_
   obtain rfl := Option.some.inj h1
   exact ⟨I6, e27, rfl, (ca_ hlt1 hk1), ed4⟩
  ·
   rintro f w hI2
   obtain ⟨I7, e34, e35, e36, ed5⟩ := hI2
   refine ad_ ?_
   refine ad_ ?_
   refine ab_ ?_
   refine aa_ rfl (ac_ (v := (Value.int .i64 ((a0.Edges.length : Int)))) rfl e36 ?_)
   refine aa_ rfl (aj_ (v := (Value.pointer (some ⟨g1, 0, none⟩))) rfl cs_ e34 (p1.at_ I7) ?_)
   refine aa_ rfl (aq_ (v := (am_ (Value.pointer (some ⟨g1, 0, none⟩)) 1)) (e := a0.Edges) rfl fi_ rfl ((p1.at_ I7).fld Graph.fld1) (fun u20 hu20 => ?_))
   obtain ⟨z22, m22, k22, e38⟩ := ak_ hu20
   subst e38
   refine aa_ rfl (bg_ rfl Try.underlying23 rfl hu20 ?_)
   refine aa_ rfl (bn_ (a := (a0.Edges.length : Int)) (b := (a0.Edges.length : Int)) rfl rfl rfl ?_)
   refine ag_ ?_
   refine ap_ (b := decide ((a0.Edges.length : Int) < (a0.Edges.length : Int))) rfl (ev_ _) ?_
   refine bm_ ?_
   exact ⟨I7, e34, e35, ed5⟩
 ·
  rintro f w ⟨I8, e39, e40, ed6⟩
  refine ad_ ?_
  refine ab_ ?_
  refine aa_ rfl (ac_ (v := (Value.int .i64 (out1))) rfl e40 ?_)
  refine aa_ rfl (ae_ (v := (Value.int .i64 (out1))) rfl rfl ?_)
  refine ag_ ?_
  refine aw_ ?_
  obtain rfl := Option.some.inj h
  exact ⟨ed6, (Value.int .i64 (out1)), (cx_ rfl rfl), _, [], le1, I8, rfl, rfl⟩
set_option maxHeartbeats 4000000 in
set_option maxRecDepth 100000 in
theorem F23_ok {w : World} {S : PH} {Fr : List HP} {a0 : Graph} {v0 : Value} {a1 : (List Int)} {v1 : Value} {r : Bool} (hI : Inv w S (Fr)) (h0_ : RV S v0 a0) (h1_ : RV S v1 a1) (h : F23 a0 a1 = some r) :
    Calls Try.prog 23 [v0, v1].toArray w (dd_ S Fr (Value.bool (r))) := by
 rw [N23_eq] at h; unfold N23 at h
 obtain ⟨c1, c2, e1, r1, r2⟩ := Graph.inv h0_
 subst e1
 obtain ⟨z1, m1, k1, e2⟩ := ak_ r1
 subst e2
 obtain ⟨z2, m2, k2, e3⟩ := ak_ r2
 subst e3
 obtain ⟨z3, m3, k3, e4⟩ := ak_ h1_
 subst e4
 refine bd_ (n := 72) (vs := [(Value.agg #[(Value.slice z1 m1 k1), (Value.slice z2 m2 k2)]), (Value.slice z3 m3 k3)]) Try.func23 rfl rfl rfl ?_
 refine ad_ ?_
 refine ab_ ?_
 refine aa_ rfl (cr_ (v := (Value.agg #[(Value.slice z1 m1 k1), (Value.slice z2 m2 k2)])) rfl hI rfl (fun g1 w1 I1 => ?_))
 obtain ⟨S1, le1, I2, p1⟩ := Inv.boxFreeze (x := a0) I1 (Graph.rv (s := a0) r1 r2)
 refine aa_ rfl (ae_ (v := (Value.bool (false))) rfl rfl ?_)
 refine ag_ ?_
 refine ad_ ?_
 refine ab_ ?_
 refine aa_ rfl (aj_ (v := (Value.pointer (some ⟨g1, 0, none⟩))) rfl cs_ rfl (p1.at_ I2) ?_)
 refine aa_ rfl (aq_ (v := (am_ (Value.pointer (some ⟨g1, 0, none⟩)) 1)) (e := a0.Edges) rfl fi_ rfl ((p1.at_ I2).fld Graph.fld1) (fun u1 hu1 => ?_))
 obtain ⟨z4, m4, k4, e5⟩ := ak_ hu1
 subst e5
 refine aa_ rfl (bg_ rfl Try.underlying23 rfl hu1 ?_)
 obtain ⟨x1, hx1, h⟩ := bnd h
 refine aa_ rfl (dv_ (c := (a0.Edges.length : Int)) rfl Try.underlying72 el4 (by decide) rfl rfl I2 hx1 (fun u2 w2 I3 => ?_))
 obtain ⟨z5, m5, k5, e6⟩ := bt_ I3
 subst e6
 refine aa_ rfl (ae_ (v := (Value.slice z5 m5 k5)) rfl rfl ?_)
 refine ag_ ?_
 refine ad_ ?_
 refine ab_ ?_
 refine aa_ rfl (ac_ (v := (Value.slice z5 m5 k5)) rfl rfl ?_)
 obtain ⟨x2, hx2, h⟩ := bnd h
 refine aa_ rfl (bh_ (v := (Value.slice z5 m5 k5)) (i := 0) (e := x2) rfl Try.underlying72 sh4 rfl (Inv.rowSrc (I3.nth 0 rfl)) rfl hx2 ?_)
 refine aa_ rfl (dp_ (u := (Value.bool (true))) (e' := true) sh4 I3 rfl rfl hx2 (jr_ _) (fun w3 I4 => ?_))
 refine ag_ ?_
 refine ad_ ?_
 refine ad_ ?_
 refine ab_ ?_
 refine aa_ rfl (ae_ (v := (Value.int .i64 (0))) rfl rfl ?_)
 refine ag_ ?_
 obtain ⟨out49, hrun49, h⟩ := bnd h
 refine cf_ (fun f w => Inv w S1 (Row (α := Bool) 4 (Value.slice z5 m5 k5) (out49.1) :: Fr) ∧ f 1 = (Value.slice z3 m3 k3) ∧ f 2 = (Value.pointer (some ⟨g1, 0, none⟩)) ∧ f 5 = (Value.slice z5 m5 k5) ∧ f 6 = (Value.int .i64 (out49.2)) ∧ f.ds = []) ?_ ?_
 ·
  refine au_ ?_
  refine co_ (I := fun (s49 : (List Bool × Int)) (f : Frm) (w : World) => Inv w S1 (Row (α := Bool) 4 (Value.slice z5 m5 k5) (s49.1) :: Fr) ∧ f 1 = (Value.slice z3 m3 k3) ∧ f 2 = (Value.pointer (some ⟨g1, 0, none⟩)) ∧ f 5 = (Value.slice z5 m5 k5) ∧ f 6 = (Value.int .i64 (s49.2)) ∧ f.ds = []) hrun49 ⟨I4, rfl, rfl, rfl, rfl, rfl⟩ ?_
  rintro s49 f w o49 hI49 h391 hout49
  obtain ⟨I689, e4051, e4052, e4053, e4054, ed391⟩ := hI49
  refine ad_ ?_
  refine ad_ ?_
  refine ab_ ?_
  refine aa_ rfl (ac_ (v := (Value.int .i64 (s49.2))) rfl e4054 ?_)
  refine aa_ rfl (ac_ (v := (Value.slice z5 m5 k5)) rfl e4053 ?_)
  refine aa_ rfl (bu_ (α := Bool) rfl Try.underlying72 rfl (I689.nth 0 rfl) ?_)
  refine aa_ rfl (bn_ (a := s49.2) (b := (s49.1.length : Int)) rfl rfl rfl ?_)
  refine ag_ ?_
  rcases ifs h391 with ⟨hc1199, h391⟩ | ⟨hc1199, h391⟩
  ·
   refine an_ (b := decide (s49.2 < (s49.1.length : Int))) rfl hc1199 ?_
   refine ar_ ?_
   refine ad_ ?_
   refine au_ ?_
   refine ad_ ?_
   refine ab_ ?_
   refine aa_ rfl (ae_ (v := (Value.int .i64 (0))) rfl rfl ?_)
   refine ag_ ?_
   obtain ⟨out56, hrun56, h391⟩ := bnd h391
   refine cf_ (fun f w => Inv w S1 (Row (α := Bool) 4 (Value.slice z5 m5 k5) (out56.1) :: Fr) ∧ f 1 = (Value.slice z3 m3 k3) ∧ f 2 = (Value.pointer (some ⟨g1, 0, none⟩)) ∧ f 5 = (Value.slice z5 m5 k5) ∧ f 6 = (Value.int .i64 (s49.2)) ∧ f 7 = (Value.int .i64 (out56.2)) ∧ f.ds = []) ?_ ?_
   ·
    refine au_ ?_
    refine co_ (I := fun (s56 : (List Bool × Int)) (f : Frm) (w : World) => Inv w S1 (Row (α := Bool) 4 (Value.slice z5 m5 k5) (s56.1) :: Fr) ∧ f 1 = (Value.slice z3 m3 k3) ∧ f 2 = (Value.pointer (some ⟨g1, 0, none⟩)) ∧ f 5 = (Value.slice z5 m5 k5) ∧ f 6 = (Value.int .i64 (s49.2)) ∧ f 7 = (Value.int .i64 (s56.2)) ∧ f.ds = []) hrun56 ⟨I689, e4051, e4052, e4053, e4054, rfl, ed391⟩ ?_
    rintro s56 f w o56 hI56 h447 hout56
    obtain ⟨I786, e4625, e4626, e4627, e4628, e4629, ed446⟩ := hI56
    refine ad_ ?_
    refine ad_ ?_
    refine ab_ ?_
    refine aa_ rfl (ac_ (v := (Value.int .i64 (s56.2))) rfl e4629 ?_)
    refine aa_ rfl (ac_ (v := (Value.slice z5 m5 k5)) rfl e4627 ?_)
    refine aa_ rfl (bu_ (α := Bool) rfl Try.underlying72 rfl (I786.nth 0 rfl) ?_)
    refine aa_ rfl (bn_ (a := s56.2) (b := (s56.1.length : Int)) rfl rfl rfl ?_)
    refine ag_ ?_
    rcases ifs h447 with ⟨hc1371, h447⟩ | ⟨hc1371, h447⟩
    ·
     refine an_ (b := decide (s56.2 < (s56.1.length : Int))) rfl hc1371 ?_
     refine ar_ ?_
     refine ad_ ?_
     refine au_ ?_
     refine ad_ ?_
     refine ab_ ?_
     refine aa_ rfl (ae_ (v := (Value.int .i64 (0))) rfl rfl ?_)
     refine ag_ ?_
     obtain ⟨out57, hrun57, h447⟩ := bnd h447
     refine cf_ (fun f w => Inv w S1 (Row (α := Bool) 4 (Value.slice z5 m5 k5) (out57.1) :: Fr) ∧ f 1 = (Value.slice z3 m3 k3) ∧ f 2 = (Value.pointer (some ⟨g1, 0, none⟩)) ∧ f 5 = (Value.slice z5 m5 k5) ∧ f 6 = (Value.int .i64 (s49.2)) ∧ f 7 = (Value.int .i64 (s56.2)) ∧ f 8 = (Value.int .i64 (out57.2)) ∧ f.ds = []) ?_ ?_
     ·
      refine au_ ?_
      refine co_ (I := fun (s57 : (List Bool × Int)) (f : Frm) (w : World) => Inv w S1 (Row (α := Bool) 4 (Value.slice z5 m5 k5) (s57.1) :: Fr) ∧ f 1 = (Value.slice z3 m3 k3) ∧ f 2 = (Value.pointer (some ⟨g1, 0, none⟩)) ∧ f 5 = (Value.slice z5 m5 k5) ∧ f 6 = (Value.int .i64 (s49.2)) ∧ f 7 = (Value.int .i64 (s56.2)) ∧ f 8 = (Value.int .i64 (s57.2)) ∧ f.ds = []) hrun57 ⟨I786, e4625, e4626, e4627, e4628, e4629, rfl, ed446⟩ ?_
      rintro s57 f w o57 hI57 h455 hout57
      obtain ⟨I799, e4702, e4703, e4704, e4705, e4706, e4707, ed453⟩ := hI57
      refine ad_ ?_
      refine ad_ ?_
      refine ab_ ?_
      refine aa_ rfl (ac_ (v := (Value.int .i64 (s57.2))) rfl e4707 ?_)
      refine aa_ rfl (aj_ (v := (Value.pointer (some ⟨g1, 0, none⟩))) rfl cs_ e4703 (p1.at_ I799) ?_)
      refine aa_ rfl (aq_ (v := (am_ (Value.pointer (some ⟨g1, 0, none⟩)) 1)) (e := a0.Edges) rfl fi_ rfl ((p1.at_ I799).fld Graph.fld1) (fun u2057 hu2056 => ?_))
      obtain ⟨z2060, m2060, k2060, e4710⟩ := ak_ hu2056
      subst e4710
      refine aa_ rfl (ac_ (v := (Value.int .i64 (s56.2))) rfl e4706 ?_)
      obtain ⟨x2399, hx2399, h455⟩ := bnd h455
      refine aa_ rfl (ao_ (v := (Value.slice z2060 m2060 k2060)) (i := s56.2) (e := x2399) rfl Try.underlying23 en_ rfl hu2056 rfl hx2399 ?_)
      refine aa_ rfl (aq_ (v := (ah_ (Value.slice z2060 m2060 k2060) (s56.2) (Enc.sz (List Edge)))) (e := x2399) rfl en_ rfl (hu2056.elem I799.in_ hx2399) (fun u2058 hu2057 => ?_))
      obtain ⟨z2061, m2061, k2061, e4711⟩ := ak_ hu2057
      subst e4711
      refine aa_ rfl (bg_ rfl Try.underlying40 rfl hu2057 ?_)
      refine aa_ rfl (bn_ (a := s57.2) (b := (x2399.length : Int)) rfl rfl rfl ?_)
      refine aa_ rfl (ac_ (v := (Value.bool (decide (s57.2 < (x2399.length : Int))))) rfl rfl ?_)
      rcases ifs h455 with ⟨hc1398, h455⟩ | ⟨hc1398, h455⟩
      ·
       refine al_ (c := decide (s57.2 < (x2399.length : Int))) rfl rfl rfl rfl hc1398 (ac_ (v := (Value.slice z5 m5 k5)) rfl e4704 ?_)
       refine al_ (c := decide (s57.2 < (x2399.length : Int))) rfl rfl rfl rfl hc1398 (ac_ (v := (Value.int .i64 (s56.2))) rfl e4706 ?_)
       obtain ⟨x2400, hx2400, h455⟩ := bnd h455
       refine al_ (c := decide (s57.2 < (x2399.length : Int))) rfl rfl rfl rfl hc1398 (bh_ (v := (Value.slice z5 m5 k5)) (i := s56.2) (e := x2400) rfl Try.underlying72 sh4 rfl (Inv.rowSrc (I799.nth 0 rfl)) rfl hx2400 ?_)
       refine al_ (c := decide (s57.2 < (x2399.length : Int))) rfl rfl rfl rfl hc1398 (gf_ (v := (ah_ (Value.slice z5 m5 k5) (s56.2) (Enc.sz Bool))) (e := x2400) rfl sh4 rfl ((I799.nth 0 rfl).rowElem hx2400) ?_)
       refine aa_ rfl (bb_ (c := decide (s57.2 < (x2399.length : Int))) (a := (Value.bool (x2400))) rfl rfl hc1398 rfl ?_)
       refine ag_ ?_
       rcases ifs h455 with ⟨hc1399, h455⟩ | ⟨hc1399, h455⟩
       ·
        refine an_ (b := x2400) rfl hc1399 ?_
        refine ar_ ?_
        refine ad_ ?_
        refine au_ ?_
        refine ab_ ?_
        refine aa_ rfl (ac_ (v := (Value.slice z5 m5 k5)) rfl e4704 ?_)
        refine aa_ rfl (aj_ (v := (Value.pointer (some ⟨g1, 0, none⟩))) rfl cs_ e4703 (p1.at_ I799) ?_)
        refine aa_ rfl (aq_ (v := (am_ (Value.pointer (some ⟨g1, 0, none⟩)) 1)) (e := a0.Edges) rfl fi_ rfl ((p1.at_ I799).fld Graph.fld1) (fun u2059 hu2058 => ?_))
        obtain ⟨z2062, m2062, k2062, e4712⟩ := ak_ hu2058
        subst e4712
        refine aa_ rfl (ac_ (v := (Value.int .i64 (s56.2))) rfl e4706 ?_)
        obtain ⟨x2401, hx2401, h455⟩ := bnd h455
        refine aa_ rfl (ao_ (v := (Value.slice z2062 m2062 k2062)) (i := s56.2) (e := x2401) rfl Try.underlying23 en_ rfl hu2058 rfl hx2401 ?_)
        refine aa_ rfl (aq_ (v := (ah_ (Value.slice z2062 m2062 k2062) (s56.2) (Enc.sz (List Edge)))) (e := x2401) rfl en_ rfl (hu2058.elem I799.in_ hx2401) (fun u2060 hu2059 => ?_))
        obtain ⟨z2063, m2063, k2063, e4713⟩ := ak_ hu2059
        subst e4713
        refine aa_ rfl (ac_ (v := (Value.int .i64 (s57.2))) rfl e4707 ?_)
        obtain ⟨x2402, hx2402, h455⟩ := bnd h455
        refine aa_ rfl (ao_ (v := (Value.slice z2063 m2063 k2063)) (i := s57.2) (e := x2402) rfl Try.underlying40 kw_ rfl hu2059 rfl hx2402 ?_)
        refine aa_ rfl (aj_ (v := (ah_ (Value.slice z2063 m2063 k2063) (s57.2) (Enc.sz Edge))) rfl ft_ rfl (hu2059.elem I799.in_ hx2402) ?_)
        refine aa_ rfl (av_ (v := (am_ (ah_ (Value.slice z2063 m2063 k2063) (s57.2) (Enc.sz Edge)) 3)) (e := x2402.To) rfl sh3 rfl ((hu2059.elem I799.in_ hx2402).fld Edge.fld1) ?_)
        obtain ⟨x2403, hx2403, h455⟩ := bnd h455
        refine aa_ rfl (bh_ (v := (Value.slice z5 m5 k5)) (i := x2402.To) (e := x2403) rfl Try.underlying72 sh4 rfl (Inv.rowSrc (I799.nth 0 rfl)) rfl hx2403 ?_)
        refine aa_ rfl (dp_ (u := (Value.bool (true))) (e' := true) sh4 I799 rfl rfl hx2403 (jr_ _) (fun w347 I800 => ?_))
        refine ag_ ?_
        refine ab_ ?_
        refine aa_ rfl (ac_ (v := (Value.int .i64 (s57.2))) rfl e4707 ?_)
        refine aa_ rfl (bs_ (a := s57.2) (b := 1) rfl rfl rfl ?_)
        refine aa_ rfl (ae_ (v := (Value.int .i64 (w64 (s57.2 + 1)))) rfl rfl ?_)
        refine ag_ ?_
        obtain rfl := Option.some.inj h455
        exact ⟨_, rfl, I800, e4702, e4703, e4704, e4705, e4706, rfl, ed453⟩
       ·
        refine ap_ (b := x2400) rfl hc1399 ?_
        refine bm_ ?_
        obtain rfl := Option.some.inj h455
        obtain rfl := (hout57 _ rfl)
        exact ⟨I799, e4702, e4703, e4704, e4705, e4706, e4707, ed453⟩
      ·
       refine ai_ (c := decide (s57.2 < (x2399.length : Int))) rfl rfl rfl rfl hc1398 rfl ?_
       refine ai_ (c := decide (s57.2 < (x2399.length : Int))) rfl rfl rfl rfl hc1398 rfl ?_
       refine ai_ (c := decide (s57.2 < (x2399.length : Int))) rfl rfl rfl rfl hc1398 rfl ?_
       refine ai_ (c := decide (s57.2 < (x2399.length : Int))) rfl rfl rfl rfl hc1398 rfl ?_
       refine aa_ rfl (ay_ (c := decide (s57.2 < (x2399.length : Int))) (b := (Value.bool (false))) rfl rfl hc1398 rfl ?_)
       refine ag_ ?_
       refine ap_ (b := false) rfl rfl ?_
       refine bm_ ?_
       obtain rfl := Option.some.inj h455
       obtain rfl := (hout57 _ rfl)
       exact ⟨I799, e4702, e4703, e4704, e4705, e4706, e4707, ed453⟩
     ·
      rintro f w ⟨I801, e4714, e4715, e4716, e4717, e4718, e4719, ed454⟩
      refine ab_ ?_
      refine aa_ rfl (ac_ (v := (Value.int .i64 (s56.2))) rfl e4718 ?_)
      refine aa_ rfl (bs_ (a := s56.2) (b := 1) rfl rfl rfl ?_)
      refine aa_ rfl (ae_ (v := (Value.int .i64 (w64 (s56.2 + 1)))) rfl rfl ?_)
      refine ag_ ?_
      obtain rfl := Option.some.inj h447
      exact ⟨_, rfl, I801, e4714, e4715, e4716, e4717, rfl, ed454⟩
    ·
     refine ap_ (b := decide (s56.2 < (s56.1.length : Int))) rfl hc1371 ?_
     refine bm_ ?_
     obtain rfl := Option.some.inj h447
     obtain rfl := (hout56 _ rfl)
     exact ⟨I786, e4625, e4626, e4627, e4628, e4629, ed446⟩
   ·
    rintro f w ⟨I802, e4720, e4721, e4722, e4723, e4724, ed455⟩
    refine ab_ ?_
    refine aa_ rfl (ac_ (v := (Value.int .i64 (s49.2))) rfl e4723 ?_)
    refine aa_ rfl (bs_ (a := s49.2) (b := 1) rfl rfl rfl ?_)
    refine aa_ rfl (ae_ (v := (Value.int .i64 (w64 (s49.2 + 1)))) rfl rfl ?_)
    refine ag_ ?_
    obtain rfl := Option.some.inj h391
    exact ⟨_, rfl, I802, e4720, e4721, e4722, rfl, ed455⟩
  ·
   refine ap_ (b := decide (s49.2 < (s49.1.length : Int))) rfl hc1199 ?_
   refine bm_ ?_
   obtain rfl := Option.some.inj h391
   obtain rfl := (hout49 _ rfl)
   exact ⟨I689, e4051, e4052, e4053, e4054, ed391⟩
 ·
  rintro f w ⟨I803, e4725, e4726, e4727, e4728, ed456⟩
  refine ad_ ?_
  refine ad_ ?_
  refine ab_ ?_
  refine aa_ rfl (ae_ (v := (Value.int .i64 (0))) rfl rfl ?_)
  refine ag_ ?_
  have hk1 : out49.1.length ≤ 9223372036854775807 := (hn_ (I803.nth 0 rfl))
  obtain ⟨o59, hrun58, h⟩ := bnd h
  refine cf_ (fun f w => ∃ out58, o59 = Sum.inl out58 ∧ Inv w S1 (Row (α := Bool) 4 (Value.slice z5 m5 k5) (out49.1) :: Fr) ∧ f 1 = (Value.slice z3 m3 k3) ∧ f 5 = (Value.slice z5 m5 k5) ∧ f.ds = []) ?_ ?_
  ·
   refine au_ ?_
   refine dl_ (I := fun (i1 : Nat) (s58 : Unit) (f : Frm) (w : World) => Inv w S1 (Row (α := Bool) 4 (Value.slice z5 m5 k5) (out49.1) :: Fr) ∧ f 1 = (Value.slice z3 m3 k3) ∧ f 5 = (Value.slice z5 m5 k5) ∧ f 9 = (Value.int .i64 (i1 : Int)) ∧ f.ds = []) hrun58 ⟨I803, e4725, e4727, rfl, ed456⟩ ?_ ?_
   ·
    rintro i1 s58 f w o58 hlt1 hI58 h458 hout58
    obtain ⟨I806, e4735, e4736, e4737, ed459⟩ := hI58
    refine ad_ ?_
    refine ad_ ?_
    refine ab_ ?_
    refine aa_ rfl (ac_ (v := (Value.int .i64 ((i1 : Int)))) rfl e4737 ?_)
    refine aa_ rfl (ac_ (v := (Value.slice z5 m5 k5)) rfl e4736 ?_)
    refine aa_ rfl (bu_ (α := Bool) rfl Try.underlying72 rfl (I806.nth 0 rfl) ?_)
    refine aa_ rfl (bn_ (a := (i1 : Int)) (b := (out49.1.length : Int)) rfl rfl rfl ?_)
    refine ag_ ?_
    refine an_ (b := decide ((i1 : Int) < (out49.1.length : Int))) rfl (eu_ hlt1) ?_
    refine ar_ ?_
    refine ad_ ?_
    refine au_ ?_
    refine ad_ ?_
    refine ab_ ?_
    refine aa_ rfl (ac_ (v := (Value.slice z5 m5 k5)) rfl e4736 ?_)
    refine aa_ rfl (ac_ (v := (Value.int .i64 ((i1 : Int)))) rfl e4737 ?_)
    obtain ⟨x2408, hx2408, h458⟩ := bnd h458
    refine aa_ rfl (bh_ (v := (Value.slice z5 m5 k5)) (i := (i1 : Int)) (e := x2408) rfl Try.underlying72 sh4 rfl (Inv.rowSrc (I806.nth 0 rfl)) rfl hx2408 ?_)
    refine aa_ rfl (gf_ (v := (ah_ (Value.slice z5 m5 k5) ((i1 : Int)) (Enc.sz Bool))) (e := x2408) rfl sh4 rfl ((I806.nth 0 rfl).rowElem hx2408) ?_)
    refine aa_ rfl (ac_ (v := (Value.bool (x2408))) rfl rfl ?_)
    rcases ifs h458 with ⟨hc1404, h458⟩ | ⟨hc1404, h458⟩
    ·
     refine al_ (c := x2408) rfl rfl rfl rfl hc1404 (ac_ (v := (Value.slice z3 m3 k3)) rfl e4735 ?_)
     refine al_ (c := x2408) rfl rfl rfl rfl hc1404 (ac_ (v := (Value.int .i64 ((i1 : Int)))) rfl e4737 ?_)
     obtain ⟨x2409, hx2409, h458⟩ := bnd h458
     refine al_ (c := x2408) rfl rfl rfl rfl hc1404 (ao_ (v := (Value.slice z3 m3 k3)) (i := (i1 : Int)) (e := x2409) rfl Try.underlying26 sh3 rfl (h1_.mono le1) rfl hx2409 ?_)
     refine al_ (c := x2408) rfl rfl rfl rfl hc1404 (av_ (v := (ah_ (Value.slice z3 m3 k3) ((i1 : Int)) (Enc.sz Int))) (e := x2409) rfl sh3 rfl ((h1_.mono le1).elem I806.in_ hx2409) ?_)
     refine al_ (c := x2408) rfl rfl rfl rfl hc1404 (bn_ (a := x2409) (b := 0) rfl rfl rfl ?_)
     refine aa_ rfl (bb_ (c := x2408) (a := (Value.bool (decide (x2409 < 0)))) rfl rfl hc1404 rfl ?_)
     refine ag_ ?_
     rcases ifs h458 with ⟨hc1405, h458⟩ | ⟨hc1405, h458⟩
     ·
      refine an_ (b := decide (x2409 < 0)) rfl hc1405 ?_
      refine ad_ ?_
      refine ab_ ?_
      refine aa_ rfl (ae_ (v := (Value.bool (true))) rfl rfl ?_)
      refine ag_ ?_
      refine aw_ ?_
      obtain rfl := Option.some.inj h458
      obtain rfl := (hout58 _ rfl)
      have h459 := h
      obtain rfl := Option.some.inj h459
      exact ⟨ed459, (Value.bool (true)), (cx_ rfl rfl), _, [], le1, (I806).drop, rfl, rfl⟩
     ·
      refine ap_ (b := decide (x2409 < 0)) rfl hc1405 ?_
      refine ar_ ?_
      refine ab_ ?_
      refine aa_ rfl (ac_ (v := (Value.int .i64 ((i1 : Int)))) rfl e4737 ?_)
      refine aa_ rfl (bs_ (a := (i1 : Int)) (b := 1) rfl rfl rfl ?_)
      refine aa_ rfl (ae_ (v := (Value.int .i64 (w64 ((i1 : Int) + 1)))) rfl rfl ?_)
      refine ag_ ?_
      obtain rfl := Option.some.inj h458
      exact ⟨_, rfl, I806, e4735, e4736, (ca_ hlt1 hk1), ed459⟩
    ·
     refine ai_ (c := x2408) rfl rfl rfl rfl hc1404 rfl ?_
     refine ai_ (c := x2408) rfl rfl rfl rfl hc1404 rfl ?_
     refine ai_ (c := x2408) rfl rfl rfl rfl hc1404 rfl ?_
     refine ai_ (c := x2408) rfl rfl rfl rfl hc1404 rfl ?_
     refine ai_ (c := x2408) rfl rfl rfl rfl hc1404 rfl ?_
     refine aa_ rfl (ay_ (c := x2408) (b := (Value.bool (false))) rfl rfl hc1404 rfl ?_)
     refine ag_ ?_
     refine ap_ (b := false) rfl rfl ?_
     refine ar_ ?_
     refine ab_ ?_
     refine aa_ rfl (ac_ (v := (Value.int .i64 ((i1 : Int)))) rfl e4737 ?_)
     refine aa_ rfl (bs_ (a := (i1 : Int)) (b := 1) rfl rfl rfl ?_)
     refine aa_ rfl (ae_ (v := (Value.int .i64 (w64 ((i1 : Int) + 1)))) rfl rfl ?_)
     refine ag_ ?_
     obtain rfl := Option.some.inj h458
     exact ⟨_, rfl, I806, e4735, e4736, (ca_ hlt1 hk1), ed459⟩
   ·
    rintro s59 f w hs1 hI59
    obtain ⟨I807, e4738, e4739, e4740, ed460⟩ := hI59
    refine ad_ ?_
    refine ad_ ?_
    refine ab_ ?_
    refine aa_ rfl (ac_ (v := (Value.int .i64 ((out49.1.length : Int)))) rfl e4740 ?_)
    refine aa_ rfl (ac_ (v := (Value.slice z5 m5 k5)) rfl e4739 ?_)
    refine aa_ rfl (bu_ (α := Bool) rfl Try.underlying72 rfl (I807.nth 0 rfl) ?_)
    refine aa_ rfl (bn_ (a := (out49.1.length : Int)) (b := (out49.1.length : Int)) rfl rfl rfl ?_)
    refine ag_ ?_
    refine ap_ (b := decide ((out49.1.length : Int) < (out49.1.length : Int))) rfl (ev_ _) ?_
    refine bm_ ?_
    exact ⟨s59, hs1, I807, e4738, e4739, ed460⟩
  ·
   rintro f w ⟨out58, rfl, I808, e4741, e4742, ed461⟩
   have h := cy_ h
   refine ad_ ?_
   refine ab_ ?_
   refine aa_ rfl (ae_ (v := (Value.bool (false))) rfl rfl ?_)
   refine ag_ ?_
   refine aw_ ?_
   obtain rfl := Option.some.inj h
   exact ⟨ed461, (Value.bool (false)), (cx_ rfl rfl), _, [], le1, (I808).drop, rfl, rfl⟩
set_option maxHeartbeats 4000000 in
set_option maxRecDepth 100000 in
theorem F5_ok {w : World} {S : PH} {Fr : List HP} {a0 : Graph} {v0 : Value} {a1 : (List Int)} {v1 : Value} {a2 : Int} {r : Bool} (hI : Inv w S (Fr)) (h0_ : RV S v0 a0) (h1_ : RV S v1 a1) (h : F5 a0 a1 a2 = some r) :
    Calls Try.prog 5 [v0, v1, (Value.int .i64 (a2))].toArray w (dd_ S Fr (Value.bool (r))) := by
 unfold F5 at h
 obtain ⟨c1, c2, e1, r1, r2⟩ := Graph.inv h0_
 subst e1
 obtain ⟨z1, m1, k1, e2⟩ := ak_ r1
 subst e2
 obtain ⟨z2, m2, k2, e3⟩ := ak_ r2
 subst e3
 obtain ⟨z3, m3, k3, e4⟩ := ak_ h1_
 subst e4
 refine bd_ (n := 159) (vs := [(Value.agg #[(Value.slice z1 m1 k1), (Value.slice z2 m2 k2)]), (Value.slice z3 m3 k3), (Value.int .i64 (a2))]) Try.func5 rfl rfl rfl ?_
 refine ad_ ?_
 refine ab_ ?_
 refine aa_ rfl (cr_ (v := (Value.agg #[(Value.slice z1 m1 k1), (Value.slice z2 m2 k2)])) rfl hI rfl (fun g1 w1 I1 => ?_))
 obtain ⟨S1, le1, I2, p1⟩ := Inv.boxFreeze (x := a0) I1 (Graph.rv (s := a0) r1 r2)
 refine aa_ rfl (ae_ (v := (Value.bool (false))) rfl rfl ?_)
 refine ag_ ?_
 refine ad_ ?_
 refine ad_ ?_
 refine ab_ ?_
 refine aa_ rfl (aq_ (v := (Value.pointer (some ⟨g1, 0, none⟩))) (e := a0) rfl je_ rfl (p1.at_ I2) (fun u3 hu3 => ?_))
 obtain ⟨c7, c8, e11, r7, r8⟩ := Graph.inv hu3
 subst e11
 obtain ⟨z8, m8, k8, e12⟩ := ak_ r7
 subst e12
 obtain ⟨z9, m9, k9, e13⟩ := ak_ r8
 subst e13
 obtain ⟨x7, hx7, h⟩ := bnd h
 refine aa_ rfl (bl_ (vs := [(Value.agg #[(Value.slice z8 m8 k8), (Value.slice z9 m9 k9)])]) (r := (Value.bool (x7))) rfl ca15 rfl (ks_ rfl) I2 (fun Fr_ hF_ => F15_ok hF_ (Graph.rv (s := a0) r7 r8) hx7) (fun w8 I9 => ?_))
 refine aa_ rfl (ac_ (v := (Value.bool (x7))) rfl rfl ?_)
 rcases ifs h with ⟨hc5, h⟩ | ⟨hc5, h⟩
 ·
  refine ai_ (c := x7) rfl rfl rfl rfl hc5 rfl ?_
  refine ai_ (c := x7) rfl rfl rfl rfl hc5 rfl ?_
  refine ai_ (c := x7) rfl rfl rfl rfl hc5 rfl ?_
  refine ai_ (c := x7) rfl rfl rfl rfl hc5 rfl ?_
  refine aa_ rfl (bb_ (c := x7) (a := (Value.bool (true))) rfl rfl hc5 rfl ?_)
  refine aa_ rfl (ac_ (v := (Value.bool (true))) rfl rfl ?_)
  refine ai_ (c := true) rfl rfl rfl rfl rfl rfl ?_
  refine ai_ (c := true) rfl rfl rfl rfl rfl rfl ?_
  refine aa_ rfl (bb_ (c := true) (a := (Value.bool (true))) rfl rfl rfl rfl ?_)
  refine aa_ rfl (ac_ (v := (Value.bool (true))) rfl rfl ?_)
  refine ai_ (c := true) rfl rfl rfl rfl rfl rfl ?_
  refine ai_ (c := true) rfl rfl rfl rfl rfl rfl ?_
  refine aa_ rfl (bb_ (c := true) (a := (Value.bool (true))) rfl rfl rfl rfl ?_)
  refine ag_ ?_
  refine an_ (b := true) rfl rfl ?_
  refine ad_ ?_
  refine ab_ ?_
  obtain ⟨x8, hx8, h⟩ := bnd h
  refine aa_ rfl (bl_ (vs := []) (r := (Value.bool (x8))) rfl ca17 rfl kt_ I9 (fun Fr_ hF_ => ja_ hF_  hx8) (fun w9 I10 => ?_))
  refine aa_ rfl (ae_ (v := (Value.bool (x8))) rfl rfl ?_)
  refine ag_ ?_
  refine aw_ ?_
  obtain rfl := Option.some.inj h
  exact ⟨rfl, (Value.bool (x8)), (cx_ rfl rfl), _, [], le1, I10, rfl, rfl⟩
 ·
  refine al_ (c := x7) rfl rfl rfl rfl hc5 (aq_ (v := (Value.pointer (some ⟨g1, 0, none⟩))) (e := a0) rfl je_ rfl (p1.at_ I9) (fun u4 hu4 => ?_))
  obtain ⟨c9, c10, e14, r9, r10⟩ := Graph.inv hu4
  subst e14
  obtain ⟨z10, m10, k10, e15⟩ := ak_ r9
  subst e15
  obtain ⟨z11, m11, k11, e16⟩ := ak_ r10
  subst e16
  refine al_ (c := x7) rfl rfl rfl rfl hc5 (ac_ (v := (Value.slice z3 m3 k3)) rfl rfl ?_)
  obtain ⟨x9, hx9, h⟩ := bnd h
  refine al_ (c := x7) rfl rfl rfl rfl hc5 (bl_ (vs := [(Value.agg #[(Value.slice z10 m10 k10), (Value.slice z11 m11 k11)]), (Value.slice z3 m3 k3)]) (r := (Value.int .i64 (x9))) rfl ca21 rfl (fb_ rfl rfl) I9 (fun Fr_ hF_ => F21_ok hF_ (Graph.rv (s := a0) r9 r10) (h1_.mono le1) hx9) (fun w10 I11 => ?_))
  refine al_ (c := x7) rfl rfl rfl rfl hc5 (cz_ (a := x9) (b := 0) rfl rfl rfl ?_)
  refine aa_ rfl (ay_ (c := x7) (b := (Value.bool (x9 != 0))) rfl rfl hc5 rfl ?_)
  refine aa_ rfl (ac_ (v := (Value.bool (x9 != 0))) rfl rfl ?_)
  rcases ifs h with ⟨hc6, h⟩ | ⟨hc6, h⟩
  ·
   refine ai_ (c := x9 != 0) rfl rfl rfl rfl hc6 rfl ?_
   refine ai_ (c := x9 != 0) rfl rfl rfl rfl hc6 rfl ?_
   refine aa_ rfl (bb_ (c := x9 != 0) (a := (Value.bool (true))) rfl rfl hc6 rfl ?_)
   refine aa_ rfl (ac_ (v := (Value.bool (true))) rfl rfl ?_)
   refine ai_ (c := true) rfl rfl rfl rfl rfl rfl ?_
   refine ai_ (c := true) rfl rfl rfl rfl rfl rfl ?_
   refine aa_ rfl (bb_ (c := true) (a := (Value.bool (true))) rfl rfl rfl rfl ?_)
   refine ag_ ?_
   refine an_ (b := true) rfl rfl ?_
   refine ad_ ?_
   refine ab_ ?_
   obtain ⟨x10, hx10, h⟩ := bnd h
   refine aa_ rfl (bl_ (vs := []) (r := (Value.bool (x10))) rfl ca17 rfl kt_ I11 (fun Fr_ hF_ => ja_ hF_  hx10) (fun w11 I12 => ?_))
   refine aa_ rfl (ae_ (v := (Value.bool (x10))) rfl rfl ?_)
   refine ag_ ?_
   refine aw_ ?_
   obtain rfl := Option.some.inj h
   exact ⟨rfl, (Value.bool (x10)), (cx_ rfl rfl), _, [], le1, I12, rfl, rfl⟩
  ·
   refine al_ (c := x9 != 0) rfl rfl rfl rfl hc6 (ac_ (v := (Value.int .i64 (a2))) rfl rfl ?_)
   refine al_ (c := x9 != 0) rfl rfl rfl rfl hc6 (bn_ (a := a2) (b := 0) rfl rfl rfl ?_)
   refine aa_ rfl (ay_ (c := x9 != 0) (b := (Value.bool (decide (a2 < 0)))) rfl rfl hc6 rfl ?_)
   refine aa_ rfl (ac_ (v := (Value.bool (decide (a2 < 0)))) rfl rfl ?_)
   rcases ifs h with ⟨hc7, h⟩ | ⟨hc7, h⟩
   ·
    refine ai_ (c := decide (a2 < 0)) rfl rfl rfl rfl hc7 rfl ?_
    refine ai_ (c := decide (a2 < 0)) rfl rfl rfl rfl hc7 rfl ?_
    refine aa_ rfl (bb_ (c := decide (a2 < 0)) (a := (Value.bool (true))) rfl rfl hc7 rfl ?_)
    refine ag_ ?_
    refine an_ (b := true) rfl rfl ?_
    refine ad_ ?_
    refine ab_ ?_
    obtain ⟨x11, hx11, h⟩ := bnd h
    refine aa_ rfl (bl_ (vs := []) (r := (Value.bool (x11))) rfl ca17 rfl kt_ I11 (fun Fr_ hF_ => ja_ hF_  hx11) (fun w12 I13 => ?_))
    refine aa_ rfl (ae_ (v := (Value.bool (x11))) rfl rfl ?_)
    refine ag_ ?_
    refine aw_ ?_
    obtain rfl := Option.some.inj h
    exact ⟨rfl, (Value.bool (x11)), (cx_ rfl rfl), _, [], le1, I13, rfl, rfl⟩
   ·
    refine al_ (c := decide (a2 < 0)) rfl rfl rfl rfl hc7 (ac_ (v := (Value.int .i64 (a2))) rfl rfl ?_)
    refine al_ (c := decide (a2 < 0)) rfl rfl rfl rfl hc7 (dw_ (a := a2) (b := 99) rfl rfl rfl ?_)
    refine aa_ rfl (ay_ (c := decide (a2 < 0)) (b := (Value.bool (decide (99 < a2)))) rfl rfl hc7 rfl ?_)
    refine ag_ ?_
    rcases ifs h with ⟨hc8, h⟩ | ⟨hc8, h⟩
    ·
     refine an_ (b := decide (99 < a2)) rfl hc8 ?_
     refine ad_ ?_
     refine ab_ ?_
     obtain ⟨x12, hx12, h⟩ := bnd h
     refine aa_ rfl (bl_ (vs := []) (r := (Value.bool (x12))) rfl ca17 rfl kt_ I11 (fun Fr_ hF_ => ja_ hF_  hx12) (fun w13 I14 => ?_))
     refine aa_ rfl (ae_ (v := (Value.bool (x12))) rfl rfl ?_)
     refine ag_ ?_
     refine aw_ ?_
     obtain rfl := Option.some.inj h
     exact ⟨rfl, (Value.bool (x12)), (cx_ rfl rfl), _, [], le1, I14, rfl, rfl⟩
    ·
     refine ap_ (b := decide (99 < a2)) rfl hc8 ?_
     refine ar_ ?_
     refine ad_ ?_
     obtain ⟨x13, hx13, h⟩ := bnd h
     refine cn_ (sps := [⟨some 33, [], [0], fun vs_ T_ => RV T_ (fr0 vs_ 0) a0, [], [], [], fun hle_ h_ => h_.mono hle_⟩, ⟨some 34, [0], [1], fun vs_ T_ => fr0 vs_ 0 = (Value.int .i64 (x13)), [], [], [], fun _ h_ => h_⟩, ⟨some 35, [], [2], fun vs_ T_ => fr0 vs_ 0 = (am_ (Value.pointer (some ⟨g1, 0, none⟩)) 0), [], [], [], fun _ h_ => h_⟩, ⟨some 36, [2], [3], fun vs_ T_ => RV T_ (fr0 vs_ 0) a0.Positions, [], [], [], fun hle_ h_ => h_.mono hle_⟩, ⟨some 37, [2, 3], [4], fun vs_ T_ => fr0 vs_ 0 = (Value.int .i64 ((a0.Positions.length : Int))), [], [], [], fun _ h_ => h_⟩, ⟨some 38, [0, 1, 2, 3, 4], [5], fun vs_ T_ => fr0 vs_ 0 = (Value.int .i64 (w64 (x13 * (a0.Positions.length : Int)))), [], [], [], fun _ h_ => h_⟩, ⟨some 7, [0, 1, 2, 3, 4, 5], [6], fun vs_ T_ => fr0 vs_ 0 = (Value.int .i64 (w64 (x13 * (a0.Positions.length : Int)))), [], [], [], fun _ h_ => h_⟩]) (tks := []) (O := Fr) rfl (by kernel_rfl) I11 ⟨?_, ?_, ?_, ?_, ?_, ?_, ?_, trivial⟩ ?_
     ·
      intro vs1 f w15 S2 X1 le2 hA1 hK1 hI1
      have I16 : Inv w15 S2 (X1) := hI1
      refine af_ rfl rfl (aq_ (v := (Value.pointer (some ⟨g1, 0, none⟩))) (e := a0) rfl je_ (hK1 3 (be_ rfl)) ((p1.mono le2).at_ I16) (fun u7 hu7 => ?_))
      obtain ⟨c11, c12, e17, r11, r12⟩ := Graph.inv hu7
      subst e17
      obtain ⟨z12, m12, k12, e18⟩ := ak_ r11
      subst e18
      obtain ⟨z13, m13, k13, e19⟩ := ak_ r12
      subst e19
      refine ⟨_, _, rfl, PH.Le.refl _, ?_, ?_⟩
      ·
       exact (Graph.rv (s := a0) r11 r12)
      ·
       exact I16
     ·
      intro vs2 f w16 S3 X2 le3 hA2 hK2 hI2
      have I17 : Inv w16 S3 (X2) := hI2
      have q1 : f 33 = vs2 0 := (hA2.at_ 0 rfl _ rfl).1 _ rfl
      have r13 : RV S3 (vs2 0) a0 := (hA2.at_ 0 rfl _ rfl).2
      obtain ⟨u8, hu8⟩ : ∃ u, vs2 0 = u := ⟨_, rfl⟩
      rw [hu8] at q1 r13
      obtain ⟨c13, c14, e20, r14, r15⟩ := Graph.inv r13
      subst e20
      obtain ⟨z14, m14, k14, e21⟩ := ak_ r14
      subst e21
      obtain ⟨z15, m15, k15, e22⟩ := ak_ r15
      subst e22
      refine af_ rfl rfl (bl_ (vs := [(Value.agg #[(Value.slice z14 m14 k14), (Value.slice z15 m15 k15)])]) (r := (Value.int .i64 (x13))) rfl ca22 rfl (ks_ q1) I17 (fun Fr_ hF_ => F22_ok hF_ (Graph.rv (s := a0) r14 r15) hx13) (fun w17 I18 => ?_))
      refine ⟨_, _, rfl, PH.Le.refl _, ?_, ?_⟩
      ·
       exact rfl
      ·
       exact I18
     ·
      intro vs3 f w18 S4 X3 le4 hA3 hK3 hI3
      have I19 : Inv w18 S4 (X3) := hI3
      refine af_ rfl rfl (aj_ (v := (Value.pointer (some ⟨g1, 0, none⟩))) rfl iw_ (hK3 3 (be_ rfl)) ((p1.mono le4).at_ I19) ?_)
      refine ⟨_, _, rfl, PH.Le.refl _, ?_, ?_⟩
      ·
       exact rfl
      ·
       exact I19
     ·
      intro vs4 f w19 S5 X4 le5 hA4 hK4 hI4
      have I20 : Inv w19 S5 (X4) := hI4
      have q2 : f 35 = (am_ (Value.pointer (some ⟨g1, 0, none⟩)) 0) := vt (hA4.at_ 0 rfl _ rfl) rfl
      refine af_ rfl rfl (aq_ (v := (am_ (Value.pointer (some ⟨g1, 0, none⟩)) 0)) (e := a0.Positions) rfl sh22 q2 (((p1.mono le5).at_ I20).fld Graph.fld0) (fun u9 hu9 => ?_))
      obtain ⟨z16, m16, k16, e23⟩ := ak_ hu9
      subst e23
      refine ⟨_, _, rfl, PH.Le.refl _, ?_, ?_⟩
      ·
       exact hu9
      ·
       exact I20
     ·
      intro vs5 f w20 S6 X5 le6 hA5 hK5 hI5
      have I21 : Inv w20 S6 (X5) := hI5
      have q3 : f 36 = vs5 3 := (hA5.at_ 1 rfl _ rfl).1 _ rfl
      have r16 : RV S6 (vs5 3) a0.Positions := (hA5.at_ 1 rfl _ rfl).2
      obtain ⟨u10, hu10⟩ : ∃ u, vs5 3 = u := ⟨_, rfl⟩
      rw [hu10] at q3 r16
      obtain ⟨z17, m17, k17, e24⟩ := ak_ r16
      subst e24
      refine af_ rfl rfl (bg_ rfl Try.underlying22 q3 r16 ?_)
      refine ⟨_, _, rfl, PH.Le.refl _, ?_, ?_⟩
      ·
       exact rfl
      ·
       exact I21
     ·
      intro vs6 f w21 S7 X6 le7 hA6 hK6 hI6
      have I22 : Inv w21 S7 (X6) := hI6
      have q4 : f 34 = (Value.int .i64 (x13)) := vt (hA6.at_ 1 rfl _ rfl) rfl
      have q5 : f 37 = (Value.int .i64 ((a0.Positions.length : Int))) := vt (hA6.at_ 4 rfl _ rfl) rfl
      refine af_ rfl rfl (op_mul (a := x13) (b := (a0.Positions.length : Int)) rfl q4 q5 ?_)
      refine ⟨_, _, rfl, PH.Le.refl _, ?_, ?_⟩
      ·
       exact rfl
      ·
       exact I22
     ·
      intro vs7 f w22 S8 X7 le8 hA7 hK7 hI7
      have I23 : Inv w22 S8 (X7) := hI7
      have q6 : f 38 = (Value.int .i64 (w64 (x13 * (a0.Positions.length : Int)))) := vt (hA7.at_ 5 rfl _ rfl) rfl
      refine af_ rfl rfl (ae_ (v := (Value.int .i64 (w64 (x13 * (a0.Positions.length : Int))))) rfl q6 ?_)
      refine ⟨_, _, rfl, PH.Le.refl _, ?_, ?_⟩
      ·
       exact rfl
      ·
       exact I23
     ·
      intro vs8 f w23 S9 ed1 le9 hF1 hK8 hI8
      have e25 : f 1 = (Value.slice z3 m3 k3) := (hK8 1 (bc_ rfl)).trans rfl
      have e26 : f 2 = (Value.int .i64 (a2)) := (hK8 2 (bc_ rfl)).trans rfl
      have e27 : f 3 = (Value.pointer (some ⟨g1, 0, none⟩)) := (hK8 3 (bc_ rfl)).trans rfl
      have I24 : Inv w23 S9 (Fr) := hI8
      have q7 : f 7 = (Value.int .i64 (w64 (x13 * (a0.Positions.length : Int)))) := vt (hF1.at_ 6 rfl _ rfl) rfl
      refine ad_ ?_
      refine ab_ ?_
      refine aa_ rfl (aq_ (v := (Value.pointer (some ⟨g1, 0, none⟩))) (e := a0) rfl je_ e27 ((p1.mono le9).at_ I24) (fun u11 hu11 => ?_))
      obtain ⟨c15, c16, e28, r17, r18⟩ := Graph.inv hu11
      subst e28
      obtain ⟨z18, m18, k18, e29⟩ := ak_ r17
      subst e29
      obtain ⟨z19, m19, k19, e30⟩ := ak_ r18
      subst e30
      refine aa_ rfl (ac_ (v := (Value.slice z3 m3 k3)) rfl e25 ?_)
      refine aa_ rfl (ac_ (v := (Value.int .i64 (a2))) rfl e26 ?_)
      refine aa_ rfl (cw_ (qs := [(0, #[(Value.int .i64 (200))]), (1, #[(Value.int .i64 (a2))])]) (c := #[(Value.int .i64 (200)), (Value.int .i64 (a2))]) rfl st28 ⟨rfl, rfl, ⟨rfl, rfl, trivial⟩⟩ rfl ?_)
      refine aa_ rfl (ac_ (v := (Value.int .i64 (w64 (x13 * (a0.Positions.length : Int))))) rfl q7 ?_)
      refine aa_ rfl (nk_ (a := w64 (x13 * (a0.Positions.length : Int))) (b := 2000) rfl rfl rfl ?_)
      obtain ⟨x14, hx14, h⟩ := bnd h
      refine aa_ rfl (cu_ (vs := [(Value.agg #[(Value.slice z18 m18 k18), (Value.slice z19 m19 k19)]), (Value.slice z3 m3 k3), (Value.agg #[(Value.int .i64 (200)), (Value.int .i64 (a2))]), (Value.int .i64 (ko_ (w64 (x13 * (a0.Positions.length : Int))) 2000))]) rfl ca18 rfl (md_ rfl rfl rfl rfl) (od_ I24 (Graph.rv (s := a0) r17 r18) (h1_.mono (le1.trans le9)) (Mind.rv (s := (⟨200, a2⟩ : Mind))) hx14) (fun cv1 w24 S10 O1 le10 I25 hv1 => ?_))
      obtain ⟨z20, m20, k20, rfl, rfl⟩ := hv1
      refine aa_ rfl (ac_ (v := (Value.tuple #[(Value.slice z20 m20 k20), (Value.bool (x14.2.1)), (Value.int .i64 (x14.2.2))])) rfl rfl ?_)
      refine aa_ rfl (bk_ (v := (Value.slice z20 m20 k20)) rfl rfl rfl ?_)
      refine aa_ rfl (bk_ (v := (Value.bool (x14.2.1))) rfl rfl rfl ?_)
      refine aa_ rfl (bk_ (v := (Value.int .i64 (x14.2.2))) rfl rfl rfl ?_)
      refine aa_ rfl (ae_ (v := (Value.slice z20 m20 k20)) rfl rfl ?_)
      refine aa_ rfl (ae_ (v := (Value.bool (x14.2.1))) rfl rfl ?_)
      refine aa_ rfl (ae_ (v := (Value.int .i64 (x14.2.2))) rfl rfl ?_)
      refine ag_ ?_
      obtain ⟨ov1, h3, h⟩ := bnd h
      refine eo_ (fun f w => ∃ v1, ov1 = Sum.inl v1 ∧ Inv w S10 (Row (α := Int) 3 (Value.slice z20 m20 k20) (x14.1) :: Fr) ∧ f 3 = (Value.pointer (some ⟨g1, 0, none⟩)) ∧ f 8 = (Value.slice z20 m20 k20) ∧ f.ds = []) ?_ ?_
      ·
       refine ad_ ?_
       refine ab_ ?_
       refine aa_ rfl (ac_ (v := (Value.int .i64 (x14.2.2))) rfl rfl ?_)
       refine aa_ rfl (cz_ (a := x14.2.2) (b := 0) rfl rfl rfl ?_)
       refine aa_ rfl (ac_ (v := (Value.bool (x14.2.2 != 0))) rfl rfl ?_)
       rcases ifs h3 with ⟨hc12, h3⟩ | ⟨hc12, h3⟩
       ·
        refine ai_ (c := x14.2.2 != 0) rfl rfl rfl rfl hc12 rfl ?_
        refine ai_ (c := x14.2.2 != 0) rfl rfl rfl rfl hc12 rfl ?_
        refine ai_ (c := x14.2.2 != 0) rfl rfl rfl rfl hc12 rfl ?_
        refine cc_ rfl rfl rfl rfl rfl ?_
        refine cc_ rfl rfl rfl rfl rfl ?_
        refine cc_ rfl rfl rfl rfl rfl ?_
        refine cc_ rfl rfl rfl rfl rfl ?_
        refine ai_ (c := x14.2.2 != 0) rfl rfl rfl rfl hc12 rfl ?_
        refine aa_ rfl (bb_ (c := x14.2.2 != 0) (a := (Value.bool (true))) rfl rfl hc12 rfl ?_)
        refine ag_ ?_
        refine an_ (b := true) rfl rfl ?_
        refine ad_ ?_
        refine ab_ ?_
        refine aa_ rfl (ae_ (v := (Value.bool (false))) rfl rfl ?_)
        refine ag_ ?_
        refine aw_ ?_
        obtain rfl := Option.some.inj h3
        have h4 := h
        obtain rfl := Option.some.inj h4
        exact ⟨(ed1.trans rfl), (Value.bool (false)), (cx_ rfl rfl), _, [], ((le1.trans le9).trans le10), (I25).drop, rfl, rfl⟩
       ·
        refine al_ (c := x14.2.2 != 0) rfl rfl rfl rfl hc12 (ac_ (v := (Value.bool (x14.2.1))) rfl rfl ?_)
        refine al_ (c := x14.2.2 != 0) rfl rfl rfl rfl hc12 (dm_ (b := x14.2.1) rfl rfl ?_)
        refine al_ (c := x14.2.2 != 0) rfl rfl rfl rfl hc12 (ac_ (v := (Value.bool (!x14.2.1))) rfl rfl ?_)
        rcases ifs h3 with ⟨hc13, h3⟩ | ⟨hc13, h3⟩
        ·
         refine al_ (c := !x14.2.1) rfl rfl rfl rfl hc13 (aq_ (v := (Value.pointer (some ⟨g1, 0, none⟩))) (e := a0) rfl je_ e27 ((p1.mono (le9.trans le10)).at_ I25) (fun u13 hu13 => ?_))
         obtain ⟨c19, c20, e34, r21, r22⟩ := Graph.inv hu13
         subst e34
         obtain ⟨z23, m23, k23, e35⟩ := ak_ r21
         subst e35
         obtain ⟨z24, m24, k24, e36⟩ := ak_ r22
         subst e36
         refine al_ (c := !x14.2.1) rfl rfl rfl rfl hc13 (ac_ (v := (Value.slice z3 m3 k3)) rfl e25 ?_)
         obtain ⟨x16, hx16, h3⟩ := bnd h3
         refine al_ (c := !x14.2.1) rfl rfl rfl rfl hc13 (bl_ (vs := [(Value.agg #[(Value.slice z23 m23 k23), (Value.slice z24 m24 k24)]), (Value.slice z3 m3 k3)]) (r := (Value.bool (x16))) rfl ca23 rfl (fb_ rfl rfl) I25 (fun Fr_ hF_ => F23_ok hF_ (Graph.rv (s := a0) r21 r22) (h1_.mono ((le1.trans le9).trans le10)) hx16) (fun w26 I27 => ?_))
         refine al_ (c := !x14.2.1) rfl rfl rfl rfl hc13 (dm_ (b := x16) rfl rfl ?_)
         refine al_ (c := x14.2.2 != 0) rfl rfl rfl rfl hc12 (bb_ (c := !x14.2.1) (a := (Value.bool (!x16))) rfl rfl hc13 rfl ?_)
         refine aa_ rfl (ay_ (c := x14.2.2 != 0) (b := (Value.bool (!x16))) rfl rfl hc12 rfl ?_)
         refine ag_ ?_
         rcases ifs h3 with ⟨hc14, h3⟩ | ⟨hc14, h3⟩
         ·
          refine an_ (b := !x16) rfl hc14 ?_
          refine ad_ ?_
          refine ab_ ?_
          refine aa_ rfl (ae_ (v := (Value.bool (false))) rfl rfl ?_)
          refine ag_ ?_
          refine aw_ ?_
          obtain rfl := Option.some.inj h3
          have h4 := h
          obtain rfl := Option.some.inj h4
          exact ⟨(ed1.trans rfl), (Value.bool (false)), (cx_ rfl rfl), _, [], ((le1.trans le9).trans le10), (I27).drop, rfl, rfl⟩
         ·
          refine ap_ (b := !x16) rfl hc14 ?_
          refine ar_ ?_
          obtain rfl := Option.some.inj h3
          exact ⟨_, rfl, I27, e27, rfl, (ed1.trans rfl)⟩
        ·
         refine ai_ (c := !x14.2.1) rfl rfl rfl rfl hc13 rfl ?_
         refine ai_ (c := !x14.2.1) rfl rfl rfl rfl hc13 rfl ?_
         refine ai_ (c := !x14.2.1) rfl rfl rfl rfl hc13 rfl ?_
         refine ai_ (c := !x14.2.1) rfl rfl rfl rfl hc13 rfl ?_
         refine al_ (c := x14.2.2 != 0) rfl rfl rfl rfl hc12 (ay_ (c := !x14.2.1) (b := (Value.bool (false))) rfl rfl hc13 rfl ?_)
         refine aa_ rfl (ay_ (c := x14.2.2 != 0) (b := (Value.bool (false))) rfl rfl hc12 rfl ?_)
         refine ag_ ?_
         refine ap_ (b := false) rfl rfl ?_
         refine ar_ ?_
         obtain rfl := Option.some.inj h3
         exact ⟨_, rfl, I25, e27, rfl, (ed1.trans rfl)⟩
      ·
       rintro f w ⟨v1, rfl, I28, e37, e38, ed2⟩
       have h := cy_ h
       refine ad_ ?_
       refine ab_ ?_
       refine aa_ rfl (aj_ (v := (Value.pointer (some ⟨g1, 0, none⟩))) rfl cs_ e37 ((p1.mono (le9.trans le10)).at_ I28) ?_)
       refine aa_ rfl (aq_ (v := (am_ (Value.pointer (some ⟨g1, 0, none⟩)) 1)) (e := a0.Edges) rfl fi_ rfl (((p1.mono (le9.trans le10)).at_ I28).fld Graph.fld1) (fun u14 hu14 => ?_))
       obtain ⟨z25, m25, k25, e39⟩ := ak_ hu14
       subst e39
       refine aa_ rfl (bg_ rfl Try.underlying23 rfl hu14 ?_)
       obtain ⟨x17, hx17, h⟩ := bnd h
       obtain ⟨hm1, hm2⟩ := mk?_raw hx17
       refine aa_ rfl (dv_ (α := Raw) (c := (a0.Edges.length : Int)) rfl Try.underlying47 el26r (by decide) rfl rfl I28 hm1 (fun u15 w27 I29 => ?_))
       have I30 := Inv.gridNew (α := Int) (Ti := 3) I29
       rw [← hm2] at I30
       obtain ⟨z26, m26, k26, e40⟩ := bt_ (Inv.gridOut I30)
       subst e40
       refine aa_ rfl (ae_ (v := (Value.slice z26 m26 k26)) rfl rfl ?_)
       refine ag_ ?_
       refine ad_ ?_
       refine ad_ ?_
       refine ab_ ?_
       refine aa_ rfl (ae_ (v := (Value.int .i64 (0))) rfl rfl ?_)
       refine ag_ ?_
       obtain ⟨out1, hrun1, h⟩ := bnd h
       refine cf_ (fun f w => ∃ (rw6 : List Raw), Inv w S10 (Row (α := Int) 3 (Value.slice z20 m20 k20) (x14.1) :: ec_ (α := Int) 26 3 (Value.slice z26 m26 k26) (rw6) (out1.1) :: Fr) ∧ f 3 = (Value.pointer (some ⟨g1, 0, none⟩)) ∧ f 8 = (Value.slice z20 m20 k20) ∧ f 11 = (Value.slice z26 m26 k26) ∧ f 12 = (Value.int .i64 (out1.2)) ∧ f.ds = [] ∧ rw6.length = (out1.1).length) ?_ ?_
       ·
        refine au_ ?_
        refine co_ (I := fun (s1 : (List (List Int) × Int)) (f : Frm) (w : World) => ∃ (rw5 : List Raw), Inv w S10 (Row (α := Int) 3 (Value.slice z20 m20 k20) (x14.1) :: ec_ (α := Int) 26 3 (Value.slice z26 m26 k26) (rw5) (s1.1) :: Fr) ∧ f 3 = (Value.pointer (some ⟨g1, 0, none⟩)) ∧ f 8 = (Value.slice z20 m20 k20) ∧ f 11 = (Value.slice z26 m26 k26) ∧ f 12 = (Value.int .i64 (s1.2)) ∧ f.ds = [] ∧ rw5.length = (s1.1).length) hrun1 ⟨_, (I30.pull 1), e37, e38, rfl, rfl, ed2, (mw_ hm2)⟩ ?_
        rintro s1 f w o1 hI9 h5 hout1
        obtain ⟨rw5, I61, e83, e84, e85, e86, ed9, hl5⟩ := hI9
        refine ad_ ?_
        refine ad_ ?_
        refine ab_ ?_
        refine aa_ rfl (ac_ (v := (Value.int .i64 (s1.2))) rfl e86 ?_)
        refine aa_ rfl (ac_ (v := (Value.slice z26 m26 k26)) rfl e85 ?_)
        refine aa_ rfl (jj_ rfl Try.underlying47 rfl hl5 (I61.nth 1 rfl) ?_)
        refine aa_ rfl (bn_ (a := s1.2) (b := (s1.1.length : Int)) rfl rfl rfl ?_)
        refine ag_ ?_
        rcases ifs h5 with ⟨hc18, h5⟩ | ⟨hc18, h5⟩
        ·
         refine an_ (b := decide (s1.2 < (s1.1.length : Int))) rfl hc18 ?_
         refine ar_ ?_
         refine ad_ ?_
         refine au_ ?_
         refine ab_ ?_
         refine aa_ rfl (ac_ (v := (Value.slice z26 m26 k26)) rfl e85 ?_)
         refine aa_ rfl (ac_ (v := (Value.int .i64 (s1.2))) rfl e86 ?_)
         refine aa_ rfl (aj_ (v := (Value.pointer (some ⟨g1, 0, none⟩))) rfl cs_ e83 ((p1.mono (le9.trans le10)).at_ I61) ?_)
         refine aa_ rfl (aq_ (v := (am_ (Value.pointer (some ⟨g1, 0, none⟩)) 1)) (e := a0.Edges) rfl fi_ rfl (((p1.mono (le9.trans le10)).at_ I61).fld Graph.fld1) (fun u34 hu27 => ?_))
         obtain ⟨z45, m45, k45, e87⟩ := ak_ hu27
         subst e87
         refine aa_ rfl (ac_ (v := (Value.int .i64 (s1.2))) rfl e86 ?_)
         obtain ⟨x36, hx36, h5⟩ := bnd h5
         refine aa_ rfl (ao_ (v := (Value.slice z45 m45 k45)) (i := s1.2) (e := x36) rfl Try.underlying23 en_ rfl hu27 rfl hx36 ?_)
         refine aa_ rfl (aq_ (v := (ah_ (Value.slice z45 m45 k45) (s1.2) (Enc.sz (List Edge)))) (e := x36) rfl en_ rfl (hu27.elem I61.in_ hx36) (fun u35 hu28 => ?_))
         obtain ⟨z46, m46, k46, e88⟩ := ak_ hu28
         subst e88
         refine aa_ rfl (bg_ rfl Try.underlying40 rfl hu28 ?_)
         obtain ⟨x37, hx37, h5⟩ := bnd h5
         refine aa_ rfl (dv_ (c := (x36.length : Int)) rfl Try.underlying26 el3 (by decide) rfl rfl I61 hx37 (fun u36 w40 I62 => ?_))
         obtain ⟨z47, m47, k47, e89⟩ := bt_ I62
         subst e89
         obtain ⟨x38, hx38, h5⟩ := bnd h5
         obtain ⟨rr7, hr7⟩ := fr_ hl5 hx38
         refine aa_ rfl (cq_ (v := (Value.slice z26 m26 k26)) (i := s1.2) (r := rr7) rfl Try.underlying47 hm_ (I62.nth 2 rfl) rfl rfl hr7 ?_)
         have I63 := Inv.gridTake (I62.pull 2) hr7 hx38
         refine aa_ rfl (dp_ (α := Raw) (u := (Value.slice z47 m47 k47)) (e' := (⟨(Value.slice z47 m47 k47)⟩ : Raw)) hm_ (I63).drop rfl rfl hr7 (rv_raw' rfl) (fun w41 I64 => ?_))
         have I65 := Inv.gridGive hr7 hx38 (((I64.pull 1).pull 1).pull 2)
         refine ag_ ?_
         refine ab_ ?_
         refine aa_ rfl (ac_ (v := (Value.int .i64 (s1.2))) rfl e86 ?_)
         refine aa_ rfl (bs_ (a := s1.2) (b := 1) rfl rfl rfl ?_)
         refine aa_ rfl (ae_ (v := (Value.int .i64 (w64 (s1.2 + 1)))) rfl rfl ?_)
         refine ag_ ?_
         obtain rfl := Option.some.inj h5
         exact ⟨_, rfl, _, (I65.pull 1), e83, e84, e85, rfl, ed9, (mv_ hl5)⟩
        ·
         refine ap_ (b := decide (s1.2 < (s1.1.length : Int))) rfl hc18 ?_
         refine bm_ ?_
         obtain rfl := Option.some.inj h5
         obtain rfl := (hout1 _ rfl)
         exact ⟨_, ((I61.pull 1).pull 1), e83, e84, e85, e86, ed9, hl5⟩
       ·
        rintro f w ⟨rw6, I66, e90, e91, e92, e93, ed10, hl6⟩
        refine ad_ ?_
        refine ab_ ?_
        refine aa_ rfl (ae_ (v := (Value.int .i64 (0))) rfl rfl ?_)
        refine ag_ ?_
        refine ad_ ?_
        refine ad_ ?_
        refine ab_ ?_
        refine aa_ rfl (ae_ (v := (Value.int .i64 (0))) rfl rfl ?_)
        refine ag_ ?_
        have hk1 : x14.1.length ≤ 9223372036854775807 := (hn_ (I66.nth 0 rfl))
        obtain ⟨o15, hrun8, h⟩ := bnd h
        refine cf_ (fun f w => ∃ out8, o15 = Sum.inl out8 ∧ ∃ (S_ : PH) (rw10 : List Raw), S10.Le S_ ∧ Inv w S_ (Row (α := Int) 3 (Value.slice z20 m20 k20) (x14.1) :: ec_ (α := Int) 26 3 (Value.slice z26 m26 k26) (rw10) (out8.1) :: Fr) ∧ f 3 = (Value.pointer (some ⟨g1, 0, none⟩)) ∧ f 8 = (Value.slice z20 m20 k20) ∧ f 11 = (Value.slice z26 m26 k26) ∧ f 13 = (Value.int .i64 (out8.2)) ∧ f.ds = [] ∧ rw10.length = (out8.1).length) ?_ ?_
        ·
         refine au_ ?_
         refine dl_ (I := fun (i1 : Nat) (s8 : (List (List Int) × Int)) (f : Frm) (w : World) => ∃ (S_ : PH) (rw9 : List Raw), S10.Le S_ ∧ Inv w S_ (Row (α := Int) 3 (Value.slice z20 m20 k20) (x14.1) :: ec_ (α := Int) 26 3 (Value.slice z26 m26 k26) (rw9) (s8.1) :: Fr) ∧ f 3 = (Value.pointer (some ⟨g1, 0, none⟩)) ∧ f 8 = (Value.slice z20 m20 k20) ∧ f 11 = (Value.slice z26 m26 k26) ∧ f 13 = (Value.int .i64 (s8.2)) ∧ f 14 = (Value.int .i64 (i1 : Int)) ∧ f.ds = [] ∧ rw9.length = (s8.1).length) hrun8 ⟨_, _, (PH.Le.refl _), ((I66.pull 1).pull 1), e90, e91, e92, rfl, rfl, ed10, hl6⟩ ?_ ?_
         ·
          rintro i1 s8 f w o14 hlt1 hI400 h31 hout8
          obtain ⟨S400, rw9, le400, I499, e508, e509, e510, e511, e512, ed77, hl9⟩ := hI400
          refine ad_ ?_
          refine ad_ ?_
          refine ab_ ?_
          refine aa_ rfl (ac_ (v := (Value.int .i64 ((i1 : Int)))) rfl e512 ?_)
          refine aa_ rfl (ac_ (v := (Value.slice z20 m20 k20)) rfl e509 ?_)
          refine aa_ rfl (bu_ (α := Int) rfl Try.underlying26 rfl (I499.nth 0 rfl) ?_)
          refine aa_ rfl (bn_ (a := (i1 : Int)) (b := (x14.1.length : Int)) rfl rfl rfl ?_)
          refine ag_ ?_
          refine an_ (b := decide ((i1 : Int) < (x14.1.length : Int))) rfl (eu_ hlt1) ?_
          refine ar_ ?_
          refine ad_ ?_
          refine au_ ?_
          refine ad_ ?_
          refine ad_ ?_
          obtain ⟨x167, hx167, h31⟩ := bnd h31
          rcases ifs h31 with ⟨hc87, h31⟩ | ⟨hc87, h31⟩
          ·
           refine cn_ (sps := [⟨some 88, [], [0], fun vs_ T_ => fr0 vs_ 0 = (Value.slice z20 m20 k20), [], [], [], fun _ h_ => h_⟩, ⟨some 89, [], [1], fun vs_ T_ => fr0 vs_ 0 = (Value.int .i64 ((i1 : Int))), [], [], [], fun _ h_ => h_⟩, ⟨some 90, [0, 1], [2], fun vs_ T_ => fr0 vs_ 0 = (ah_ (Value.slice z20 m20 k20) ((i1 : Int)) (Enc.sz Int)), [0], [], [], fun _ h_ => h_⟩, ⟨some 91, [0, 1, 2], [3], fun vs_ T_ => fr0 vs_ 0 = (Value.int .i64 (x167)), [0], [], [], fun _ h_ => h_⟩, ⟨some 92, [0, 1, 2, 3], [4], fun vs_ T_ => fr0 vs_ 0 = (Value.bool (decide (x167 < 0))), [], [], [], fun _ h_ => h_⟩, ⟨some 93, [0, 1, 2, 3, 4], [5], fun vs_ T_ => fr0 vs_ 0 = (Value.bool (decide (x167 < 0))), [], [], [], fun _ h_ => h_⟩, ⟨some 94, [0, 1, 2, 3, 4, 5], [6], fun vs_ T_ => fr0 vs_ 0 = undef, [], [], [], fun _ h_ => h_⟩, ⟨some 95, [0, 1, 2, 3, 4, 5], [7], fun vs_ T_ => fr0 vs_ 0 = undef, [], [], [], fun _ h_ => h_⟩, ⟨some 96, [0, 1, 2, 3, 4, 5, 6, 7], [8], fun vs_ T_ => fr0 vs_ 0 = undef, [], [], [], fun _ h_ => h_⟩, ⟨some 97, [0, 1, 2, 3, 4, 5, 6, 7, 8], [9], fun vs_ T_ => fr0 vs_ 0 = undef, [], [], [], fun _ h_ => h_⟩, ⟨some 98, [0, 1, 2, 3, 4, 5], [10], fun vs_ T_ => fr0 vs_ 0 = undef, [], [], [], fun _ h_ => h_⟩, ⟨some 99, [0, 1, 2, 3, 4, 5, 10], [11], fun vs_ T_ => fr0 vs_ 0 = undef, [], [], [], fun _ h_ => h_⟩, ⟨some 100, [0, 1, 2, 3, 4, 5], [12], fun vs_ T_ => fr0 vs_ 0 = undef, [], [], [], fun _ h_ => h_⟩, ⟨some 101, [0, 1, 2, 3, 4, 5, 10, 11, 12], [13], fun vs_ T_ => fr0 vs_ 0 = undef, [], [], [], fun _ h_ => h_⟩, ⟨some 102, [0, 1, 2, 3, 4, 5, 10, 11, 12, 13], [14], fun vs_ T_ => fr0 vs_ 0 = undef, [], [], [], fun _ h_ => h_⟩, ⟨some 103, [0, 1, 2, 3, 4, 5, 10, 11, 12, 13, 14], [15], fun vs_ T_ => fr0 vs_ 0 = undef, [], [], [], fun _ h_ => h_⟩, ⟨some 104, [0, 1, 2, 3, 4, 5, 6, 7, 8, 9, 10, 11, 12, 13, 14, 15], [16], fun vs_ T_ => fr0 vs_ 0 = undef, [], [], [], fun _ h_ => h_⟩, ⟨some 105, [0, 1, 2, 3, 4, 5, 6, 7, 8, 9, 10, 11, 12, 13, 14, 15, 16], [17], fun vs_ T_ => fr0 vs_ 0 = (Value.bool (true)), [], [], [], fun _ h_ => h_⟩]) (tks := [⟨none, none, [], fun vs_ => Row (α := Int) 3 (Value.slice z20 m20 k20) (x14.1)⟩]) (O := ec_ (α := Int) 26 3 (Value.slice z26 m26 k26) (rw9) (s8.1) :: Fr) rfl (by kernel_rfl) I499 ⟨?_, ?_, ?_, ?_, ?_, ?_, ?_, ?_, ?_, ?_, ?_, ?_, ?_, ?_, ?_, ?_, ?_, ?_, trivial⟩ ?_
           ·
            intro vs431 f w471 S439 X404 le439 hA404 hK431 hI439
            have I538 : Inv w471 S439 (X404) := hI439
            refine af_ rfl rfl (ac_ (v := (Value.slice z20 m20 k20)) rfl ((hK431 8 (be_ rfl)).trans e509) ?_)
            refine ⟨_, _, rfl, PH.Le.refl _, ?_, ?_⟩
            ·
             exact rfl
            ·
             exact I538
           ·
            intro vs432 f w472 S440 X405 le440 hA405 hK432 hI440
            have I539 : Inv w472 S440 (X405) := hI440
            refine af_ rfl rfl (ac_ (v := (Value.int .i64 ((i1 : Int)))) rfl ((hK432 14 (be_ rfl)).trans e512) ?_)
            refine ⟨_, _, rfl, PH.Le.refl _, ?_, ?_⟩
            ·
             exact rfl
            ·
             exact I539
           ·
            intro vs433 f w473 S441 X406 le441 hA406 hK433 hI441
            have I540 : Inv w473 S441 (Row (α := Int) 3 (Value.slice z20 m20 k20) (x14.1) :: X406) := hI441
            have q596 : f 88 = (Value.slice z20 m20 k20) := vt (hA406.at_ 0 rfl _ rfl) rfl
            have q597 : f 89 = (Value.int .i64 ((i1 : Int))) := vt (hA406.at_ 1 rfl _ rfl) rfl
            refine af_ rfl rfl (bh_ (v := (Value.slice z20 m20 k20)) (i := (i1 : Int)) (e := x167) rfl Try.underlying26 sh3 q596 (Inv.rowSrc (I540.nth 0 rfl)) q597 hx167 ?_)
            refine ⟨_, _, rfl, PH.Le.refl _, ?_, ?_⟩
            ·
             exact rfl
            ·
             exact I540
           ·
            intro vs434 f w474 S442 X407 le442 hA407 hK434 hI442
            have I541 : Inv w474 S442 (Row (α := Int) 3 (Value.slice z20 m20 k20) (x14.1) :: X407) := hI442
            have q598 : f 90 = (ah_ (Value.slice z20 m20 k20) ((i1 : Int)) (Enc.sz Int)) := vt (hA407.at_ 2 rfl _ rfl) rfl
            refine af_ rfl rfl (av_ (v := (ah_ (Value.slice z20 m20 k20) ((i1 : Int)) (Enc.sz Int))) (e := x167) rfl sh3 q598 ((I541.nth 0 rfl).rowElem hx167) ?_)
            refine ⟨_, _, rfl, PH.Le.refl _, ?_, ?_⟩
            ·
             exact rfl
            ·
             exact I541
           ·
            intro vs435 f w475 S443 X408 le443 hA408 hK435 hI443
            have I542 : Inv w475 S443 (X408) := hI443
            have q599 : f 91 = (Value.int .i64 (x167)) := vt (hA408.at_ 3 rfl _ rfl) rfl
            refine af_ rfl rfl (bn_ (a := x167) (b := 0) rfl q599 rfl ?_)
            refine ⟨_, _, rfl, PH.Le.refl _, ?_, ?_⟩
            ·
             exact rfl
            ·
             exact I542
           ·
            intro vs436 f w476 S444 X409 le444 hA409 hK436 hI444
            have I543 : Inv w476 S444 (X409) := hI444
            have q600 : f 92 = (Value.bool (decide (x167 < 0))) := vt (hA409.at_ 4 rfl _ rfl) rfl
            refine af_ rfl rfl (ac_ (v := (Value.bool (decide (x167 < 0)))) rfl q600 ?_)
            refine ⟨_, _, rfl, PH.Le.refl _, ?_, ?_⟩
            ·
             exact rfl
            ·
             exact I543
           ·
            intro vs437 f w477 S445 X410 le445 hA410 hK437 hI445
            have I544 : Inv w477 S445 (X410) := hI445
            have q601 : f 93 = (Value.bool (decide (x167 < 0))) := vt (hA410.at_ 5 rfl _ rfl) rfl
            exact bq_ (c := decide (x167 < 0)) rfl rfl rfl rfl q601 hc87 rfl ⟨_, _, rfl, PH.Le.refl _, rfl, I544⟩
           ·
            intro vs438 f w478 S446 X411 le446 hA411 hK438 hI446
            have I545 : Inv w478 S446 (X411) := hI446
            have q602 : f 93 = (Value.bool (decide (x167 < 0))) := vt (hA411.at_ 5 rfl _ rfl) rfl
            exact bq_ (c := decide (x167 < 0)) rfl rfl rfl rfl q602 hc87 rfl ⟨_, _, rfl, PH.Le.refl _, rfl, I545⟩
           ·
            intro vs439 f w479 S447 X412 le447 hA412 hK439 hI447
            have I546 : Inv w479 S447 (X412) := hI447
            have q603 : f 93 = (Value.bool (decide (x167 < 0))) := vt (hA412.at_ 5 rfl _ rfl) rfl
            have q604 : f 94 = undef := vt (hA412.at_ 6 rfl _ rfl) rfl
            have q605 : f 95 = undef := vt (hA412.at_ 7 rfl _ rfl) rfl
            exact bq_ (c := decide (x167 < 0)) rfl rfl rfl rfl q603 hc87 rfl ⟨_, _, rfl, PH.Le.refl _, rfl, I546⟩
           ·
            intro vs440 f w480 S448 X413 le448 hA413 hK440 hI448
            have I547 : Inv w480 S448 (X413) := hI448
            have q606 : f 93 = (Value.bool (decide (x167 < 0))) := vt (hA413.at_ 5 rfl _ rfl) rfl
            have q607 : f 96 = undef := vt (hA413.at_ 8 rfl _ rfl) rfl
            exact bq_ (c := decide (x167 < 0)) rfl rfl rfl rfl q606 hc87 rfl ⟨_, _, rfl, PH.Le.refl _, rfl, I547⟩
           ·
            intro vs441 f w481 S449 X414 le449 hA414 hK441 hI449
            have I548 : Inv w481 S449 (X414) := hI449
            have q608 : f 93 = (Value.bool (decide (x167 < 0))) := vt (hA414.at_ 5 rfl _ rfl) rfl
            exact bq_ (c := decide (x167 < 0)) rfl rfl rfl rfl q608 hc87 rfl ⟨_, _, rfl, PH.Le.refl _, rfl, I548⟩
           ·
            intro vs442 f w482 S450 X415 le450 hA415 hK442 hI450
            have I549 : Inv w482 S450 (X415) := hI450
            have q609 : f 93 = (Value.bool (decide (x167 < 0))) := vt (hA415.at_ 5 rfl _ rfl) rfl
            have q610 : f 98 = undef := vt (hA415.at_ 6 rfl _ rfl) rfl
            exact bq_ (c := decide (x167 < 0)) rfl rfl rfl rfl q609 hc87 rfl ⟨_, _, rfl, PH.Le.refl _, rfl, I549⟩
           ·
            intro vs443 f w483 S451 X416 le451 hA416 hK443 hI451
            have I550 : Inv w483 S451 (X416) := hI451
            have q611 : f 93 = (Value.bool (decide (x167 < 0))) := vt (hA416.at_ 5 rfl _ rfl) rfl
            exact bq_ (c := decide (x167 < 0)) rfl rfl rfl rfl q611 hc87 rfl ⟨_, _, rfl, PH.Le.refl _, rfl, I550⟩
           ·
            intro vs444 f w484 S452 X417 le452 hA417 hK444 hI452
            have I551 : Inv w484 S452 (X417) := hI452
            have q612 : f 93 = (Value.bool (decide (x167 < 0))) := vt (hA417.at_ 5 rfl _ rfl) rfl
            have q613 : f 99 = undef := vt (hA417.at_ 7 rfl _ rfl) rfl
            have q614 : f 100 = undef := vt (hA417.at_ 8 rfl _ rfl) rfl
            exact bq_ (c := decide (x167 < 0)) rfl rfl rfl rfl q612 hc87 rfl ⟨_, _, rfl, PH.Le.refl _, rfl, I551⟩
           ·
            intro vs445 f w485 S453 X418 le453 hA418 hK445 hI453
            have I552 : Inv w485 S453 (X418) := hI453
            have q615 : f 93 = (Value.bool (decide (x167 < 0))) := vt (hA418.at_ 5 rfl _ rfl) rfl
            have q616 : f 101 = undef := vt (hA418.at_ 9 rfl _ rfl) rfl
            exact bq_ (c := decide (x167 < 0)) rfl rfl rfl rfl q615 hc87 rfl ⟨_, _, rfl, PH.Le.refl _, rfl, I552⟩
           ·
            intro vs446 f w486 S454 X419 le454 hA419 hK446 hI454
            have I553 : Inv w486 S454 (X419) := hI454
            have q617 : f 93 = (Value.bool (decide (x167 < 0))) := vt (hA419.at_ 5 rfl _ rfl) rfl
            have q618 : f 102 = undef := vt (hA419.at_ 10 rfl _ rfl) rfl
            exact bq_ (c := decide (x167 < 0)) rfl rfl rfl rfl q617 hc87 rfl ⟨_, _, rfl, PH.Le.refl _, rfl, I553⟩
           ·
            intro vs447 f w487 S455 X420 le455 hA420 hK447 hI455
            have I554 : Inv w487 S455 (X420) := hI455
            have q619 : f 93 = (Value.bool (decide (x167 < 0))) := vt (hA420.at_ 5 rfl _ rfl) rfl
            have q620 : f 97 = undef := vt (hA420.at_ 9 rfl _ rfl) rfl
            have q621 : f 103 = undef := vt (hA420.at_ 15 rfl _ rfl) rfl
            exact bq_ (c := decide (x167 < 0)) rfl rfl rfl rfl q619 hc87 rfl ⟨_, _, rfl, PH.Le.refl _, rfl, I554⟩
           ·
            intro vs448 f w488 S456 X421 le456 hA421 hK448 hI456
            have I555 : Inv w488 S456 (X421) := hI456
            have q622 : f 93 = (Value.bool (decide (x167 < 0))) := vt (hA421.at_ 5 rfl _ rfl) rfl
            have q623 : f 104 = undef := vt (hA421.at_ 16 rfl _ rfl) rfl
            refine af_ rfl rfl (bb_ (c := decide (x167 < 0)) (a := (Value.bool (true))) rfl q622 hc87 rfl ?_)
            refine ⟨_, _, rfl, PH.Le.refl _, ?_, ?_⟩
            ·
             exact rfl
            ·
             exact I555
           ·
            intro vs449 f w489 S457 ed80 le457 hF28 hK449 hI457
            have e528 : f 3 = (Value.pointer (some ⟨g1, 0, none⟩)) := (hK449 3 (bc_ rfl)).trans e508
            have e529 : f 8 = (Value.slice z20 m20 k20) := (hK449 8 (bc_ rfl)).trans e509
            have e530 : f 11 = (Value.slice z26 m26 k26) := (hK449 11 (bc_ rfl)).trans e510
            have e531 : f 13 = (Value.int .i64 (s8.2)) := (hK449 13 (bc_ rfl)).trans e511
            have e532 : f 14 = (Value.int .i64 ((i1 : Int))) := (hK449 14 (bc_ rfl)).trans e512
            have I556 : Inv w489 S457 (Row (α := Int) 3 (Value.slice z20 m20 k20) (x14.1) :: ec_ (α := Int) 26 3 (Value.slice z26 m26 k26) (rw9) (s8.1) :: Fr) := hI457
            have q624 : f 105 = (Value.bool (true)) := vt (hF28.at_ 17 rfl _ rfl) rfl
            refine an_ (b := true) q624 rfl ?_
            refine ad_ ?_
            refine ab_ ?_
            refine aa_ rfl (ae_ (v := (Value.bool (false))) rfl rfl ?_)
            refine ag_ ?_
            refine aw_ ?_
            obtain rfl := Option.some.inj h31
            obtain rfl := (hout8 _ rfl)
            have h32 := h
            obtain rfl := Option.some.inj h32
            exact ⟨(ed80.trans ed77), (Value.bool (false)), (cx_ rfl rfl), _, [], ((((le1.trans le9).trans le10).trans le400).trans le457), ((I556).drop).drop, rfl, rfl⟩
          ·
           obtain ⟨x168, hx168, h31⟩ := bnd h31
           refine cn_ (sps := [⟨some 88, [], [0], fun vs_ T_ => fr0 vs_ 0 = (Value.slice z20 m20 k20), [], [], [], fun _ h_ => h_⟩, ⟨some 89, [], [1], fun vs_ T_ => fr0 vs_ 0 = (Value.int .i64 ((i1 : Int))), [], [], [], fun _ h_ => h_⟩, ⟨some 90, [0, 1], [2], fun vs_ T_ => fr0 vs_ 0 = (ah_ (Value.slice z20 m20 k20) ((i1 : Int)) (Enc.sz Int)), [0], [], [], fun _ h_ => h_⟩, ⟨some 91, [0, 1, 2], [3], fun vs_ T_ => fr0 vs_ 0 = (Value.int .i64 (x167)), [0], [], [], fun _ h_ => h_⟩, ⟨some 92, [0, 1, 2, 3], [4], fun vs_ T_ => fr0 vs_ 0 = (Value.bool (decide (x167 < 0))), [], [], [], fun _ h_ => h_⟩, ⟨some 93, [0, 1, 2, 3, 4], [5], fun vs_ T_ => fr0 vs_ 0 = (Value.bool (decide (x167 < 0))), [], [], [], fun _ h_ => h_⟩, ⟨some 94, [0, 1, 2, 3, 4, 5], [6], fun vs_ T_ => fr0 vs_ 0 = (Value.slice z20 m20 k20), [], [], [], fun _ h_ => h_⟩, ⟨some 95, [0, 1, 2, 3, 4, 5], [7], fun vs_ T_ => fr0 vs_ 0 = (Value.int .i64 ((i1 : Int))), [], [], [], fun _ h_ => h_⟩, ⟨some 96, [0, 1, 2, 3, 4, 5, 6, 7], [8], fun vs_ T_ => fr0 vs_ 0 = (ah_ (Value.slice z20 m20 k20) ((i1 : Int)) (Enc.sz Int)), [0], [], [], fun _ h_ => h_⟩, ⟨some 97, [0, 1, 2, 3, 4, 5, 6, 7, 8], [9], fun vs_ T_ => fr0 vs_ 0 = (Value.int .i64 (x167)), [0], [], [], fun _ h_ => h_⟩, ⟨some 98, [0, 1, 2, 3, 4, 5], [10], fun vs_ T_ => fr0 vs_ 0 = (am_ (Value.pointer (some ⟨g1, 0, none⟩)) 1), [], [], [], fun _ h_ => h_⟩, ⟨some 99, [0, 1, 2, 3, 4, 5, 10], [11], fun vs_ T_ => RV T_ (fr0 vs_ 0) a0.Edges, [], [], [], fun hle_ h_ => h_.mono hle_⟩, ⟨some 100, [0, 1, 2, 3, 4, 5], [12], fun vs_ T_ => fr0 vs_ 0 = (Value.int .i64 (s8.2)), [], [], [], fun _ h_ => h_⟩, ⟨some 101, [0, 1, 2, 3, 4, 5, 10, 11, 12], [13, 11], fun vs_ T_ => fr0 vs_ 0 = (ah_ (fr0 vs_ 1) (s8.2) (Enc.sz (List Edge))), [], [], [], fun _ h_ => h_⟩, ⟨some 102, [0, 1, 2, 3, 4, 5, 10, 11, 12, 13], [14], fun vs_ T_ => RV T_ (fr0 vs_ 0) x168, [], [], [], fun hle_ h_ => h_.mono hle_⟩, ⟨some 103, [0, 1, 2, 3, 4, 5, 10, 11, 12, 13, 14], [15], fun vs_ T_ => fr0 vs_ 0 = (Value.int .i64 ((x168.length : Int))), [], [], [], fun _ h_ => h_⟩, ⟨some 104, [0, 1, 2, 3, 4, 5, 6, 7, 8, 9, 10, 11, 12, 13, 14, 15], [16], fun vs_ T_ => fr0 vs_ 0 = (Value.bool (decide ((x168.length : Int) ≤ x167))), [], [], [], fun _ h_ => h_⟩, ⟨some 105, [0, 1, 2, 3, 4, 5, 6, 7, 8, 9, 10, 11, 12, 13, 14, 15, 16], [17], fun vs_ T_ => fr0 vs_ 0 = (Value.bool (decide ((x168.length : Int) ≤ x167))), [], [], [], fun _ h_ => h_⟩]) (tks := [⟨none, none, [], fun vs_ => Row (α := Int) 3 (Value.slice z20 m20 k20) (x14.1)⟩]) (O := ec_ (α := Int) 26 3 (Value.slice z26 m26 k26) (rw9) (s8.1) :: Fr) rfl (by kernel_rfl) I499 ⟨?_, ?_, ?_, ?_, ?_, ?_, ?_, ?_, ?_, ?_, ?_, ?_, ?_, ?_, ?_, ?_, ?_, ?_, trivial⟩ ?_
           ·
            intro vs450 f w490 S458 X422 le458 hA422 hK450 hI458
            have I557 : Inv w490 S458 (X422) := hI458
            refine af_ rfl rfl (ac_ (v := (Value.slice z20 m20 k20)) rfl ((hK450 8 (be_ rfl)).trans e509) ?_)
            refine ⟨_, _, rfl, PH.Le.refl _, ?_, ?_⟩
            ·
             exact rfl
            ·
             exact I557
           ·
            intro vs451 f w491 S459 X423 le459 hA423 hK451 hI459
            have I558 : Inv w491 S459 (X423) := hI459
            refine af_ rfl rfl (ac_ (v := (Value.int .i64 ((i1 : Int)))) rfl ((hK451 14 (be_ rfl)).trans e512) ?_)
            refine ⟨_, _, rfl, PH.Le.refl _, ?_, ?_⟩
            ·
             exact rfl
            ·
             exact I558
           ·
            intro vs452 f w492 S460 X424 le460 hA424 hK452 hI460
            have I559 : Inv w492 S460 (Row (α := Int) 3 (Value.slice z20 m20 k20) (x14.1) :: X424) := hI460
            have q625 : f 88 = (Value.slice z20 m20 k20) := vt (hA424.at_ 0 rfl _ rfl) rfl
            have q626 : f 89 = (Value.int .i64 ((i1 : Int))) := vt (hA424.at_ 1 rfl _ rfl) rfl
            refine af_ rfl rfl (bh_ (v := (Value.slice z20 m20 k20)) (i := (i1 : Int)) (e := x167) rfl Try.underlying26 sh3 q625 (Inv.rowSrc (I559.nth 0 rfl)) q626 hx167 ?_)
            refine ⟨_, _, rfl, PH.Le.refl _, ?_, ?_⟩
            ·
             exact rfl
            ·
             exact I559
           ·
            intro vs453 f w493 S461 X425 le461 hA425 hK453 hI461
            have I560 : Inv w493 S461 (Row (α := Int) 3 (Value.slice z20 m20 k20) (x14.1) :: X425) := hI461
            have q627 : f 90 = (ah_ (Value.slice z20 m20 k20) ((i1 : Int)) (Enc.sz Int)) := vt (hA425.at_ 2 rfl _ rfl) rfl
            refine af_ rfl rfl (av_ (v := (ah_ (Value.slice z20 m20 k20) ((i1 : Int)) (Enc.sz Int))) (e := x167) rfl sh3 q627 ((I560.nth 0 rfl).rowElem hx167) ?_)
            refine ⟨_, _, rfl, PH.Le.refl _, ?_, ?_⟩
            ·
             exact rfl
            ·
             exact I560
           ·
            intro vs454 f w494 S462 X426 le462 hA426 hK454 hI462
            have I561 : Inv w494 S462 (X426) := hI462
            have q628 : f 91 = (Value.int .i64 (x167)) := vt (hA426.at_ 3 rfl _ rfl) rfl
            refine af_ rfl rfl (bn_ (a := x167) (b := 0) rfl q628 rfl ?_)
            refine ⟨_, _, rfl, PH.Le.refl _, ?_, ?_⟩
            ·
             exact rfl
            ·
             exact I561
           ·
            intro vs455 f w495 S463 X427 le463 hA427 hK455 hI463
            have I562 : Inv w495 S463 (X427) := hI463
            have q629 : f 92 = (Value.bool (decide (x167 < 0))) := vt (hA427.at_ 4 rfl _ rfl) rfl
            refine af_ rfl rfl (ac_ (v := (Value.bool (decide (x167 < 0)))) rfl q629 ?_)
            refine ⟨_, _, rfl, PH.Le.refl _, ?_, ?_⟩
            ·
             exact rfl
            ·
             exact I562
           ·
            intro vs456 f w496 S464 X428 le464 hA428 hK456 hI464
            have I563 : Inv w496 S464 (X428) := hI464
            have q630 : f 93 = (Value.bool (decide (x167 < 0))) := vt (hA428.at_ 5 rfl _ rfl) rfl
            refine bi_ (c := decide (x167 < 0)) rfl rfl rfl rfl q630 hc87 (ac_ (v := (Value.slice z20 m20 k20)) rfl ((hK456 8 (be_ rfl)).trans e509) ?_)
            refine ⟨_, _, rfl, PH.Le.refl _, ?_, ?_⟩
            ·
             exact rfl
            ·
             exact I563
           ·
            intro vs457 f w497 S465 X429 le465 hA429 hK457 hI465
            have I564 : Inv w497 S465 (X429) := hI465
            have q631 : f 93 = (Value.bool (decide (x167 < 0))) := vt (hA429.at_ 5 rfl _ rfl) rfl
            refine bi_ (c := decide (x167 < 0)) rfl rfl rfl rfl q631 hc87 (ac_ (v := (Value.int .i64 ((i1 : Int)))) rfl ((hK457 14 (be_ rfl)).trans e512) ?_)
            refine ⟨_, _, rfl, PH.Le.refl _, ?_, ?_⟩
            ·
             exact rfl
            ·
             exact I564
           ·
            intro vs458 f w498 S466 X430 le466 hA430 hK458 hI466
            have I565 : Inv w498 S466 (Row (α := Int) 3 (Value.slice z20 m20 k20) (x14.1) :: X430) := hI466
            have q632 : f 93 = (Value.bool (decide (x167 < 0))) := vt (hA430.at_ 5 rfl _ rfl) rfl
            have q633 : f 94 = (Value.slice z20 m20 k20) := vt (hA430.at_ 6 rfl _ rfl) rfl
            have q634 : f 95 = (Value.int .i64 ((i1 : Int))) := vt (hA430.at_ 7 rfl _ rfl) rfl
            refine bi_ (c := decide (x167 < 0)) rfl rfl rfl rfl q632 hc87 (bh_ (v := (Value.slice z20 m20 k20)) (i := (i1 : Int)) (e := x167) rfl Try.underlying26 sh3 q633 (Inv.rowSrc (I565.nth 0 rfl)) q634 hx167 ?_)
            refine ⟨_, _, rfl, PH.Le.refl _, ?_, ?_⟩
            ·
             exact rfl
            ·
             exact I565
           ·
            intro vs459 f w499 S467 X431 le467 hA431 hK459 hI467
            have I566 : Inv w499 S467 (Row (α := Int) 3 (Value.slice z20 m20 k20) (x14.1) :: X431) := hI467
            have q635 : f 93 = (Value.bool (decide (x167 < 0))) := vt (hA431.at_ 5 rfl _ rfl) rfl
            have q636 : f 96 = (ah_ (Value.slice z20 m20 k20) ((i1 : Int)) (Enc.sz Int)) := vt (hA431.at_ 8 rfl _ rfl) rfl
            refine bi_ (c := decide (x167 < 0)) rfl rfl rfl rfl q635 hc87 (av_ (v := (ah_ (Value.slice z20 m20 k20) ((i1 : Int)) (Enc.sz Int))) (e := x167) rfl sh3 q636 ((I566.nth 0 rfl).rowElem hx167) ?_)
            refine ⟨_, _, rfl, PH.Le.refl _, ?_, ?_⟩
            ·
             exact rfl
            ·
             exact I566
           ·
            intro vs460 f w500 S468 X432 le468 hA432 hK460 hI468
            have I567 : Inv w500 S468 (X432) := hI468
            have q637 : f 93 = (Value.bool (decide (x167 < 0))) := vt (hA432.at_ 5 rfl _ rfl) rfl
            refine bi_ (c := decide (x167 < 0)) rfl rfl rfl rfl q637 hc87 (aj_ (v := (Value.pointer (some ⟨g1, 0, none⟩))) rfl cs_ ((hK460 3 (be_ rfl)).trans e508) ((p1.mono (((le9.trans le10).trans le400).trans le468)).at_ I567) ?_)
            refine ⟨_, _, rfl, PH.Le.refl _, ?_, ?_⟩
            ·
             exact rfl
            ·
             exact I567
           ·
            intro vs461 f w501 S469 X433 le469 hA433 hK461 hI469
            have I568 : Inv w501 S469 (X433) := hI469
            have q638 : f 93 = (Value.bool (decide (x167 < 0))) := vt (hA433.at_ 5 rfl _ rfl) rfl
            have q639 : f 98 = (am_ (Value.pointer (some ⟨g1, 0, none⟩)) 1) := vt (hA433.at_ 6 rfl _ rfl) rfl
            refine bi_ (c := decide (x167 < 0)) rfl rfl rfl rfl q638 hc87 (aq_ (v := (am_ (Value.pointer (some ⟨g1, 0, none⟩)) 1)) (e := a0.Edges) rfl fi_ q639 (((p1.mono (((le9.trans le10).trans le400).trans le469)).at_ I568).fld Graph.fld1) (fun u187 hu179 => ?_))
            obtain ⟨z104, m104, k104, e533⟩ := ak_ hu179
            subst e533
            refine ⟨_, _, rfl, PH.Le.refl _, ?_, ?_⟩
            ·
             exact hu179
            ·
             exact I568
           ·
            intro vs462 f w502 S470 X434 le470 hA434 hK462 hI470
            have I569 : Inv w502 S470 (X434) := hI470
            have q640 : f 93 = (Value.bool (decide (x167 < 0))) := vt (hA434.at_ 5 rfl _ rfl) rfl
            refine bi_ (c := decide (x167 < 0)) rfl rfl rfl rfl q640 hc87 (ac_ (v := (Value.int .i64 (s8.2))) rfl ((hK462 13 (be_ rfl)).trans e511) ?_)
            refine ⟨_, _, rfl, PH.Le.refl _, ?_, ?_⟩
            ·
             exact rfl
            ·
             exact I569
           ·
            intro vs463 f w503 S471 X435 le471 hA435 hK463 hI471
            have I570 : Inv w503 S471 (X435) := hI471
            have q641 : f 93 = (Value.bool (decide (x167 < 0))) := vt (hA435.at_ 5 rfl _ rfl) rfl
            have q642 : f 99 = vs463 11 := (hA435.at_ 7 rfl _ rfl).1 _ rfl
            have r59 : RV S471 (vs463 11) a0.Edges := (hA435.at_ 7 rfl _ rfl).2
            obtain ⟨u188, hu180⟩ : ∃ u, vs463 11 = u := ⟨_, rfl⟩
            rw [hu180] at q642 r59
            obtain ⟨z105, m105, k105, e534⟩ := ak_ r59
            subst e534
            have q643 : f 100 = (Value.int .i64 (s8.2)) := vt (hA435.at_ 8 rfl _ rfl) rfl
            refine bi_ (c := decide (x167 < 0)) rfl rfl rfl rfl q641 hc87 (ao_ (v := (Value.slice z105 m105 k105)) (i := s8.2) (e := x168) rfl Try.underlying23 en_ q642 r59 q643 hx168 ?_)
            refine ⟨_, _, rfl, PH.Le.refl _, ?_, ?_⟩
            ·
             show (ah_ (Value.slice z105 m105 k105) (s8.2) (Enc.sz (List Edge))) = (ah_ (vs463 11) (s8.2) (Enc.sz (List Edge)))
             simp only [hu180] <;> rfl
            ·
             exact I570
           ·
            intro vs464 f w504 S472 X436 le472 hA436 hK464 hI472
            have I571 : Inv w504 S472 (X436) := hI472
            have q644 : f 93 = (Value.bool (decide (x167 < 0))) := vt (hA436.at_ 5 rfl _ rfl) rfl
            have q645 : f 99 = vs464 11 := (hA436.at_ 7 rfl _ rfl).1 _ rfl
            have r60 : RV S472 (vs464 11) a0.Edges := (hA436.at_ 7 rfl _ rfl).2
            obtain ⟨u189, hu181⟩ : ∃ u, vs464 11 = u := ⟨_, rfl⟩
            rw [hu181] at q645 r60
            obtain ⟨z106, m106, k106, e535⟩ := ak_ r60
            subst e535
            have q646 : f 100 = (Value.int .i64 (s8.2)) := vt (hA436.at_ 8 rfl _ rfl) rfl
            have q647 : f 101 = (ah_ (vs464 11) (s8.2) (Enc.sz (List Edge))) := vt (hA436.at_ 9 rfl _ rfl) rfl
            simp only [hu181] at q647
            have q647 : f 101 = (ah_ (Value.slice z106 m106 k106) (s8.2) (Enc.sz (List Edge))) := q647
            refine bi_ (c := decide (x167 < 0)) rfl rfl rfl rfl q644 hc87 (aq_ (v := (ah_ (Value.slice z106 m106 k106) (s8.2) (Enc.sz (List Edge)))) (e := x168) rfl en_ q647 (r60.elem I571.in_ hx168) (fun u190 hu182 => ?_))
            obtain ⟨z107, m107, k107, e536⟩ := ak_ hu182
            subst e536
            refine ⟨_, _, rfl, PH.Le.refl _, ?_, ?_⟩
            ·
             exact hu182
            ·
             exact I571
           ·
            intro vs465 f w505 S473 X437 le473 hA437 hK465 hI473
            have I572 : Inv w505 S473 (X437) := hI473
            have q648 : f 93 = (Value.bool (decide (x167 < 0))) := vt (hA437.at_ 5 rfl _ rfl) rfl
            have q649 : f 102 = vs465 14 := (hA437.at_ 10 rfl _ rfl).1 _ rfl
            have r61 : RV S473 (vs465 14) x168 := (hA437.at_ 10 rfl _ rfl).2
            obtain ⟨u191, hu183⟩ : ∃ u, vs465 14 = u := ⟨_, rfl⟩
            rw [hu183] at q649 r61
            obtain ⟨z108, m108, k108, e537⟩ := ak_ r61
            subst e537
            refine bi_ (c := decide (x167 < 0)) rfl rfl rfl rfl q648 hc87 (bg_ rfl Try.underlying40 q649 r61 ?_)
            refine ⟨_, _, rfl, PH.Le.refl _, ?_, ?_⟩
            ·
             exact rfl
            ·
             exact I572
           ·
            intro vs466 f w506 S474 X438 le474 hA438 hK466 hI474
            have I573 : Inv w506 S474 (X438) := hI474
            have q650 : f 93 = (Value.bool (decide (x167 < 0))) := vt (hA438.at_ 5 rfl _ rfl) rfl
            have q651 : f 97 = (Value.int .i64 (x167)) := vt (hA438.at_ 9 rfl _ rfl) rfl
            have q652 : f 103 = (Value.int .i64 ((x168.length : Int))) := vt (hA438.at_ 15 rfl _ rfl) rfl
            refine bi_ (c := decide (x167 < 0)) rfl rfl rfl rfl q650 hc87 (fd_ (a := x167) (b := (x168.length : Int)) rfl q651 q652 ?_)
            refine ⟨_, _, rfl, PH.Le.refl _, ?_, ?_⟩
            ·
             exact rfl
            ·
             exact I573
           ·
            intro vs467 f w507 S475 X439 le475 hA439 hK467 hI475
            have I574 : Inv w507 S475 (X439) := hI475
            have q653 : f 93 = (Value.bool (decide (x167 < 0))) := vt (hA439.at_ 5 rfl _ rfl) rfl
            have q654 : f 104 = (Value.bool (decide ((x168.length : Int) ≤ x167))) := vt (hA439.at_ 16 rfl _ rfl) rfl
            refine af_ rfl rfl (ay_ (c := decide (x167 < 0)) (b := (Value.bool (decide ((x168.length : Int) ≤ x167)))) rfl q653 hc87 q654 ?_)
            refine ⟨_, _, rfl, PH.Le.refl _, ?_, ?_⟩
            ·
             exact rfl
            ·
             exact I574
           ·
            intro vs468 f w508 S476 ed81 le476 hF29 hK468 hI476
            have e538 : f 3 = (Value.pointer (some ⟨g1, 0, none⟩)) := (hK468 3 (bc_ rfl)).trans e508
            have e539 : f 8 = (Value.slice z20 m20 k20) := (hK468 8 (bc_ rfl)).trans e509
            have e540 : f 11 = (Value.slice z26 m26 k26) := (hK468 11 (bc_ rfl)).trans e510
            have e541 : f 13 = (Value.int .i64 (s8.2)) := (hK468 13 (bc_ rfl)).trans e511
            have e542 : f 14 = (Value.int .i64 ((i1 : Int))) := (hK468 14 (bc_ rfl)).trans e512
            have I575 : Inv w508 S476 (Row (α := Int) 3 (Value.slice z20 m20 k20) (x14.1) :: ec_ (α := Int) 26 3 (Value.slice z26 m26 k26) (rw9) (s8.1) :: Fr) := hI476
            have q655 : f 105 = (Value.bool (decide ((x168.length : Int) ≤ x167))) := vt (hF29.at_ 17 rfl _ rfl) rfl
            rcases ifs h31 with ⟨hc88, h31⟩ | ⟨hc88, h31⟩
            ·
             refine an_ (b := decide ((x168.length : Int) ≤ x167)) q655 hc88 ?_
             refine ad_ ?_
             refine ab_ ?_
             refine aa_ rfl (ae_ (v := (Value.bool (false))) rfl rfl ?_)
             refine ag_ ?_
             refine aw_ ?_
             obtain rfl := Option.some.inj h31
             obtain rfl := (hout8 _ rfl)
             have h32 := h
             obtain rfl := Option.some.inj h32
             exact ⟨(ed81.trans ed77), (Value.bool (false)), (cx_ rfl rfl), _, [], ((((le1.trans le9).trans le10).trans le400).trans le476), ((I575).drop).drop, rfl, rfl⟩
            ·
             refine ap_ (b := decide ((x168.length : Int) ≤ x167)) q655 hc88 ?_
             refine ar_ ?_
             obtain ⟨ov5, h37, h31⟩ := bnd h31
             refine eo_ (fun f w => ∃ v5, ov5 = Sum.inl v5 ∧ ∃ (S_ : PH), S476.Le S_ ∧ Inv w S_ (Row (α := Int) 3 (Value.slice z20 m20 k20) (x14.1) :: ec_ (α := Int) 26 3 (Value.slice z26 m26 k26) (rw9) (s8.1) :: Fr) ∧ f 3 = (Value.pointer (some ⟨g1, 0, none⟩)) ∧ f 8 = (Value.slice z20 m20 k20) ∧ f 11 = (Value.slice z26 m26 k26) ∧ f 13 = (Value.int .i64 (s8.2)) ∧ f 14 = (Value.int .i64 ((i1 : Int))) ∧ f.ds = []) ?_ ?_
             ·
              refine ad_ ?_
              obtain ⟨x185, hx185, h37⟩ := bnd h37
              obtain ⟨rr81, hr81⟩ := fr_ hl9 hx185
              obtain ⟨x186, hx186, h37⟩ := bnd h37
              obtain ⟨x187, hx187, h37⟩ := bnd h37
              refine cn_ (sps := [⟨some 106, [], [0], fun vs_ T_ => fr0 vs_ 0 = (Value.slice z26 m26 k26), [], [], [], fun _ h_ => h_⟩, ⟨some 107, [], [1], fun vs_ T_ => fr0 vs_ 0 = (Value.int .i64 (s8.2)), [], [], [], fun _ h_ => h_⟩, ⟨some 108, [0, 1], [2], fun vs_ T_ => fr0 vs_ 0 = (ah_ (Value.slice z26 m26 k26) (s8.2) (Enc.sz Raw)), [0], [], [], fun _ h_ => h_⟩, ⟨some 109, [0, 1, 2], [3], fun vs_ T_ => fr0 vs_ 0 = (rr81.v), [0], [], [], fun _ h_ => h_⟩, ⟨some 110, [], [4], fun vs_ T_ => fr0 vs_ 0 = (Value.slice z20 m20 k20), [], [], [], fun _ h_ => h_⟩, ⟨some 111, [], [5], fun vs_ T_ => fr0 vs_ 0 = (Value.int .i64 ((i1 : Int))), [], [], [], fun _ h_ => h_⟩, ⟨some 112, [4, 5], [6], fun vs_ T_ => fr0 vs_ 0 = (ah_ (Value.slice z20 m20 k20) ((i1 : Int)) (Enc.sz Int)), [1], [], [], fun _ h_ => h_⟩, ⟨some 113, [4, 5, 6], [7], fun vs_ T_ => fr0 vs_ 0 = (Value.int .i64 (x186)), [1], [], [], fun _ h_ => h_⟩, ⟨some 114, [0, 1, 2, 3, 4, 5, 6, 7], [8], fun vs_ T_ => fr0 vs_ 0 = (ah_ (rr81.v) (x186) (Enc.sz Int)), [0], [], [], fun _ h_ => h_⟩, ⟨some 115, [0, 1, 2, 3, 4, 5, 6, 7, 8], [9], fun vs_ T_ => fr0 vs_ 0 = (Value.int .i64 (x187)), [0], [], [], fun _ h_ => h_⟩, ⟨some 116, [0, 1, 2, 3, 4, 5, 6, 7, 8, 9], [10], fun vs_ T_ => fr0 vs_ 0 = (Value.bool (decide (0 < x187))), [], [], [], fun _ h_ => h_⟩]) (tks := [⟨none, none, [], fun vs_ => ec_ (α := Int) 26 3 (Value.slice z26 m26 k26) (rw9) (s8.1)⟩, ⟨none, none, [], fun vs_ => Row (α := Int) 3 (Value.slice z20 m20 k20) (x14.1)⟩]) (O := Fr) rfl (by kernel_rfl) (I575.pull 1) ⟨?_, ?_, ?_, ?_, ?_, ?_, ?_, ?_, ?_, ?_, ?_, trivial⟩ ?_
              ·
               intro vs481 f w521 S489 X451 le489 hA451 hK481 hI490
               have I594 : Inv w521 S489 (X451) := hI490
               refine af_ rfl rfl (ac_ (v := (Value.slice z26 m26 k26)) rfl ((hK481 11 (be_ rfl)).trans e540) ?_)
               refine ⟨_, _, rfl, PH.Le.refl _, ?_, ?_⟩
               ·
                exact rfl
               ·
                exact I594
              ·
               intro vs482 f w522 S490 X452 le490 hA452 hK482 hI491
               have I595 : Inv w522 S490 (X452) := hI491
               refine af_ rfl rfl (ac_ (v := (Value.int .i64 (s8.2))) rfl ((hK482 13 (be_ rfl)).trans e541) ?_)
               refine ⟨_, _, rfl, PH.Le.refl _, ?_, ?_⟩
               ·
                exact rfl
               ·
                exact I595
              ·
               intro vs483 f w523 S491 X453 le491 hA453 hK483 hI492
               have I596 : Inv w523 S491 (ec_ (α := Int) 26 3 (Value.slice z26 m26 k26) (rw9) (s8.1) :: X453) := hI492
               have q667 : f 106 = (Value.slice z26 m26 k26) := vt (hA453.at_ 0 rfl _ rfl) rfl
               have q668 : f 107 = (Value.int .i64 (s8.2)) := vt (hA453.at_ 1 rfl _ rfl) rfl
               refine af_ rfl rfl (cq_ (v := (Value.slice z26 m26 k26)) (i := s8.2) (r := rr81) rfl Try.underlying47 hm_ (I596.nth 0 rfl) q667 q668 hr81 ?_)
               refine ⟨_, _, rfl, PH.Le.refl _, ?_, ?_⟩
               ·
                exact rfl
               ·
                exact I596
              ·
               intro vs484 f w524 S492 X454 le492 hA454 hK484 hI493
               have I597 : Inv w524 S492 (ec_ (α := Int) 26 3 (Value.slice z26 m26 k26) (rw9) (s8.1) :: X454) := hI493
               have q669 : f 108 = (ah_ (Value.slice z26 m26 k26) (s8.2) (Enc.sz Raw)) := vt (hA454.at_ 2 rfl _ rfl) rfl
               refine af_ rfl rfl (aq_ (α := Raw) (v := (ah_ (Value.slice z26 m26 k26) (s8.2) (Enc.sz Raw))) (e := rr81) rfl hm_ q669 (Inv.gridRowAt (I597.nth 0 rfl) hr81) (fun u204 hu196 => ?_))
               obtain rfl := jq_ hu196
               refine ⟨_, _, rfl, PH.Le.refl _, ?_, ?_⟩
               ·
                exact rfl
               ·
                exact I597
              ·
               intro vs485 f w525 S493 X455 le493 hA455 hK485 hI494
               have I598 : Inv w525 S493 (X455) := hI494
               refine af_ rfl rfl (ac_ (v := (Value.slice z20 m20 k20)) rfl ((hK485 8 (be_ rfl)).trans e539) ?_)
               refine ⟨_, _, rfl, PH.Le.refl _, ?_, ?_⟩
               ·
                exact rfl
               ·
                exact I598
              ·
               intro vs486 f w526 S494 X456 le494 hA456 hK486 hI495
               have I599 : Inv w526 S494 (X456) := hI495
               refine af_ rfl rfl (ac_ (v := (Value.int .i64 ((i1 : Int)))) rfl ((hK486 14 (be_ rfl)).trans e542) ?_)
               refine ⟨_, _, rfl, PH.Le.refl _, ?_, ?_⟩
               ·
                exact rfl
               ·
                exact I599
              ·
               intro vs487 f w527 S495 X457 le495 hA457 hK487 hI496
               have I600 : Inv w527 S495 (Row (α := Int) 3 (Value.slice z20 m20 k20) (x14.1) :: X457) := hI496
               have q670 : f 110 = (Value.slice z20 m20 k20) := vt (hA457.at_ 0 rfl _ rfl) rfl
               have q671 : f 111 = (Value.int .i64 ((i1 : Int))) := vt (hA457.at_ 1 rfl _ rfl) rfl
               refine af_ rfl rfl (bh_ (v := (Value.slice z20 m20 k20)) (i := (i1 : Int)) (e := x186) rfl Try.underlying26 sh3 q670 (Inv.rowSrc (I600.nth 0 rfl)) q671 hx186 ?_)
               refine ⟨_, _, rfl, PH.Le.refl _, ?_, ?_⟩
               ·
                exact rfl
               ·
                exact I600
              ·
               intro vs488 f w528 S496 X458 le496 hA458 hK488 hI497
               have I601 : Inv w528 S496 (Row (α := Int) 3 (Value.slice z20 m20 k20) (x14.1) :: X458) := hI497
               have q672 : f 112 = (ah_ (Value.slice z20 m20 k20) ((i1 : Int)) (Enc.sz Int)) := vt (hA458.at_ 2 rfl _ rfl) rfl
               refine af_ rfl rfl (av_ (v := (ah_ (Value.slice z20 m20 k20) ((i1 : Int)) (Enc.sz Int))) (e := x186) rfl sh3 q672 ((I601.nth 0 rfl).rowElem hx186) ?_)
               refine ⟨_, _, rfl, PH.Le.refl _, ?_, ?_⟩
               ·
                exact rfl
               ·
                exact I601
              ·
               intro vs489 f w529 S497 X459 le497 hA459 hK489 hI498
               have I602 : Inv w529 S497 (ec_ (α := Int) 26 3 (Value.slice z26 m26 k26) (rw9) (s8.1) :: X459) := hI498
               have q673 : f 109 = (rr81.v) := vt (hA459.at_ 3 rfl _ rfl) rfl
               have q674 : f 113 = (Value.int .i64 (x186)) := vt (hA459.at_ 7 rfl _ rfl) rfl
               refine af_ rfl rfl (dx_ (k := x186) (e := x187) (bv_ hr81).2.2 (bv_ hx185).2.2 rfl Try.underlying26 sh3 (I602.nth 0 rfl) q673 q674 hx187 ?_)
               refine ⟨_, _, rfl, PH.Le.refl _, ?_, ?_⟩
               ·
                exact rfl
               ·
                exact I602
              ·
               intro vs490 f w530 S498 X460 le498 hA460 hK490 hI499
               have I603 : Inv w530 S498 (ec_ (α := Int) 26 3 (Value.slice z26 m26 k26) (rw9) (s8.1) :: X460) := hI499
               have q675 : f 114 = (ah_ (rr81.v) (x186) (Enc.sz Int)) := vt (hA460.at_ 8 rfl _ rfl) rfl
               refine af_ rfl rfl (av_ (v := (ah_ (rr81.v) (x186) (Enc.sz Int))) (e := x187) rfl sh3 q675 (Inv.gridElem (I603.nth 0 rfl) (bv_ hr81).2.2 (bv_ hx185).2.2 hx187) ?_)
               refine ⟨_, _, rfl, PH.Le.refl _, ?_, ?_⟩
               ·
                exact rfl
               ·
                exact I603
              ·
               intro vs491 f w531 S499 X461 le499 hA461 hK491 hI500
               have I604 : Inv w531 S499 (X461) := hI500
               have q676 : f 115 = (Value.int .i64 (x187)) := vt (hA461.at_ 9 rfl _ rfl) rfl
               refine af_ rfl rfl (dw_ (a := x187) (b := 0) rfl q676 rfl ?_)
               refine ⟨_, _, rfl, PH.Le.refl _, ?_, ?_⟩
               ·
                exact rfl
               ·
                exact I604
              ·
               intro vs492 f w532 S500 ed89 le500 hF31 hK492 hI501
               have e584 : f 3 = (Value.pointer (some ⟨g1, 0, none⟩)) := (hK492 3 (bc_ rfl)).trans e538
               have e585 : f 8 = (Value.slice z20 m20 k20) := (hK492 8 (bc_ rfl)).trans e539
               have e586 : f 11 = (Value.slice z26 m26 k26) := (hK492 11 (bc_ rfl)).trans e540
               have e587 : f 13 = (Value.int .i64 (s8.2)) := (hK492 13 (bc_ rfl)).trans e541
               have e588 : f 14 = (Value.int .i64 ((i1 : Int))) := (hK492 14 (bc_ rfl)).trans e542
               have I605 : Inv w532 S500 (ec_ (α := Int) 26 3 (Value.slice z26 m26 k26) (rw9) (s8.1) :: Row (α := Int) 3 (Value.slice z20 m20 k20) (x14.1) :: Fr) := hI501
               have q677 : f 116 = (Value.bool (decide (0 < x187))) := vt (hF31.at_ 10 rfl _ rfl) rfl
               rcases ifs h37 with ⟨hc98, h37⟩ | ⟨hc98, h37⟩
               ·
                refine an_ (b := decide (0 < x187)) q677 hc98 ?_
                refine ad_ ?_
                refine ab_ ?_
                refine aa_ rfl (ae_ (v := (Value.int .i64 (0))) rfl rfl ?_)
                refine ag_ ?_
                obtain ⟨o19, hrun10, h37⟩ := bnd h37
                refine cf_ (fun f w => ∃ out10, o19 = Sum.inl out10 ∧ Inv w S500 (Row (α := Int) 3 (Value.slice z20 m20 k20) (x14.1) :: ec_ (α := Int) 26 3 (Value.slice z26 m26 k26) (rw9) (s8.1) :: Fr) ∧ f 3 = (Value.pointer (some ⟨g1, 0, none⟩)) ∧ f 8 = (Value.slice z20 m20 k20) ∧ f 11 = (Value.slice z26 m26 k26) ∧ f 13 = (Value.int .i64 (s8.2)) ∧ f 14 = (Value.int .i64 ((i1 : Int))) ∧ f 15 = (Value.int .i64 (out10)) ∧ f.ds = []) ?_ ?_
                ·
                 refine au_ ?_
                 refine co_ (I := fun (s10 : (Int)) (f : Frm) (w : World) => Inv w S500 (Row (α := Int) 3 (Value.slice z20 m20 k20) (x14.1) :: ec_ (α := Int) 26 3 (Value.slice z26 m26 k26) (rw9) (s8.1) :: Fr) ∧ f 3 = (Value.pointer (some ⟨g1, 0, none⟩)) ∧ f 8 = (Value.slice z20 m20 k20) ∧ f 11 = (Value.slice z26 m26 k26) ∧ f 13 = (Value.int .i64 (s8.2)) ∧ f 14 = (Value.int .i64 ((i1 : Int))) ∧ f 15 = (Value.int .i64 (s10)) ∧ f.ds = []) hrun10 ⟨(I605.pull 1), e584, e585, e586, e587, e588, rfl, (ed89.trans (ed81.trans ed77))⟩ ?_
                 rintro s10 f w o18 hI502 h39 hout10
                 obtain ⟨I610, e613, e614, e615, e616, e617, e618, ed94⟩ := hI502
                 refine ad_ ?_
                 refine ad_ ?_
                 refine ab_ ?_
                 refine aa_ rfl (ac_ (v := (Value.int .i64 (s10))) rfl e618 ?_)
                 refine aa_ rfl (ac_ (v := (Value.slice z26 m26 k26)) rfl e615 ?_)
                 refine aa_ rfl (ac_ (v := (Value.int .i64 (s8.2))) rfl e616 ?_)
                 obtain ⟨x198, hx198, h39⟩ := bnd h39
                 obtain ⟨rr89, hr89⟩ := fr_ hl9 hx198
                 refine aa_ rfl (cq_ (v := (Value.slice z26 m26 k26)) (i := s8.2) (r := rr89) rfl Try.underlying47 hm_ (I610.nth 1 rfl) rfl rfl hr89 ?_)
                 refine aa_ rfl (aq_ (α := Raw) (v := (ah_ (Value.slice z26 m26 k26) (s8.2) (Enc.sz Raw))) (e := rr89) rfl hm_ rfl (Inv.gridRowAt (I610.nth 1 rfl) hr89) (fun u212 hu204 => ?_))
                 obtain rfl := jq_ hu204
                 refine aa_ rfl (hh_ rfl Try.underlying26 rfl hr89 hx198 (I610.nth 1 rfl) ?_)
                 refine aa_ rfl (bn_ (a := s10) (b := (x198.length : Int)) rfl rfl rfl ?_)
                 refine ag_ ?_
                 rcases ifs h39 with ⟨hc105, h39⟩ | ⟨hc105, h39⟩
                 ·
                  refine an_ (b := decide (s10 < (x198.length : Int))) rfl hc105 ?_
                  refine ar_ ?_
                  refine ad_ ?_
                  refine au_ ?_
                  refine ad_ ?_
                  refine ab_ ?_
                  refine aa_ rfl (ac_ (v := (Value.slice z26 m26 k26)) rfl e615 ?_)
                  refine aa_ rfl (ac_ (v := (Value.int .i64 (s8.2))) rfl e616 ?_)
                  obtain ⟨x199, hx199, h39⟩ := bnd h39
                  obtain ⟨rr90, hr90⟩ := fr_ hl9 hx199
                  refine aa_ rfl (cq_ (v := (Value.slice z26 m26 k26)) (i := s8.2) (r := rr90) rfl Try.underlying47 hm_ (I610.nth 1 rfl) rfl rfl hr90 ?_)
                  refine aa_ rfl (aq_ (α := Raw) (v := (ah_ (Value.slice z26 m26 k26) (s8.2) (Enc.sz Raw))) (e := rr90) rfl hm_ rfl (Inv.gridRowAt (I610.nth 1 rfl) hr90) (fun u213 hu205 => ?_))
                  obtain rfl := jq_ hu205
                  refine aa_ rfl (ac_ (v := (Value.int .i64 (s10))) rfl e618 ?_)
                  obtain ⟨x200, hx200, h39⟩ := bnd h39
                  refine aa_ rfl (dx_ (k := s10) (e := x200) (bv_ hr90).2.2 (bv_ hx199).2.2 rfl Try.underlying26 sh3 (I610.nth 1 rfl) rfl rfl hx200 ?_)
                  refine aa_ rfl (av_ (v := (ah_ (rr90.v) (s10) (Enc.sz Int))) (e := x200) rfl sh3 rfl (Inv.gridElem (I610.nth 1 rfl) (bv_ hr90).2.2 (bv_ hx199).2.2 hx200) ?_)
                  refine aa_ rfl (es_ (a := x200) (b := 0) rfl rfl rfl ?_)
                  refine ag_ ?_
                  rcases ifs h39 with ⟨hc106, h39⟩ | ⟨hc106, h39⟩
                  ·
                   refine an_ (b := x200 == 0) rfl hc106 ?_
                   refine ad_ ?_
                   refine ab_ ?_
                   refine aa_ rfl (ae_ (v := (Value.bool (false))) rfl rfl ?_)
                   refine ag_ ?_
                   refine aw_ ?_
                   obtain rfl := Option.some.inj h39
                   obtain rfl := (hout10 _ rfl)
                   have h40 := h37
                   obtain rfl := Option.some.inj h40
                   have h38 := h31
                   obtain rfl := Option.some.inj h38
                   obtain rfl := (hout8 _ rfl)
                   have h32 := h
                   obtain rfl := Option.some.inj h32
                   exact ⟨ed94, (Value.bool (false)), (cx_ rfl rfl), _, [], (((((le1.trans le9).trans le10).trans le400).trans le476).trans le500), ((I610).drop).drop, rfl, rfl⟩
                  ·
                   refine ap_ (b := x200 == 0) rfl hc106 ?_
                   refine ar_ ?_
                   refine ab_ ?_
                   refine aa_ rfl (ac_ (v := (Value.int .i64 (s10))) rfl e618 ?_)
                   refine aa_ rfl (bs_ (a := s10) (b := 1) rfl rfl rfl ?_)
                   refine aa_ rfl (ae_ (v := (Value.int .i64 (w64 (s10 + 1)))) rfl rfl ?_)
                   refine ag_ ?_
                   obtain rfl := Option.some.inj h39
                   exact ⟨_, rfl, ((I610.pull 1).pull 1), e613, e614, e615, e616, e617, rfl, ed94⟩
                 ·
                  refine ap_ (b := decide (s10 < (x198.length : Int))) rfl hc105 ?_
                  refine bm_ ?_
                  obtain rfl := Option.some.inj h39
                  obtain rfl := (hout10 _ rfl)
                  exact ⟨_, rfl, ((I610.pull 1).pull 1), e613, e614, e615, e616, e617, e618, ed94⟩
                ·
                 rintro f w ⟨out10, rfl, I611, e619, e620, e621, e622, e623, e624, ed95⟩
                 have h37 := cy_ h37
                 obtain rfl := Option.some.inj h37
                 exact ⟨_, rfl, _, le500, ((I611.pull 1).pull 1), e619, e620, e621, e622, e623, ed95⟩
               ·
                refine ap_ (b := decide (0 < x187)) q677 hc98 ?_
                refine ar_ ?_
                obtain rfl := Option.some.inj h37
                exact ⟨_, rfl, _, le500, (I605.pull 1), e584, e585, e586, e587, e588, (ed89.trans (ed81.trans ed77))⟩
             ·
              rintro f w ⟨v5, rfl, S501, le501, I612, e625, e626, e627, e628, e629, ed96⟩
              have h31 := cy_ h31
              refine ad_ ?_
              obtain ⟨x201, hx201, h31⟩ := bnd h31
              obtain ⟨rr91, hr91⟩ := fr_ hl9 hx201
              obtain ⟨x202, hx202, h31⟩ := bnd h31
              obtain ⟨x203, hx203, h31⟩ := bnd h31
              refine cn_ (sps := [⟨some 134, [], [0], fun vs_ T_ => fr0 vs_ 0 = (Value.slice z26 m26 k26), [], [], [], fun _ h_ => h_⟩, ⟨some 135, [], [1], fun vs_ T_ => fr0 vs_ 0 = (Value.int .i64 (s8.2)), [], [], [], fun _ h_ => h_⟩, ⟨some 136, [0, 1], [2], fun vs_ T_ => fr0 vs_ 0 = (ah_ (Value.slice z26 m26 k26) (s8.2) (Enc.sz Raw)), [0], [], [], fun _ h_ => h_⟩, ⟨some 137, [0, 1, 2], [3], fun vs_ T_ => fr0 vs_ 0 = (rr91.v), [0], [], [], fun _ h_ => h_⟩, ⟨some 138, [], [4], fun vs_ T_ => fr0 vs_ 0 = (Value.slice z20 m20 k20), [], [], [], fun _ h_ => h_⟩, ⟨some 139, [], [5], fun vs_ T_ => fr0 vs_ 0 = (Value.int .i64 ((i1 : Int))), [], [], [], fun _ h_ => h_⟩, ⟨some 140, [4, 5], [6], fun vs_ T_ => fr0 vs_ 0 = (ah_ (Value.slice z20 m20 k20) ((i1 : Int)) (Enc.sz Int)), [1], [], [], fun _ h_ => h_⟩, ⟨some 141, [4, 5, 6], [7], fun vs_ T_ => fr0 vs_ 0 = (Value.int .i64 (x202)), [1], [], [], fun _ h_ => h_⟩, ⟨some 142, [0, 1, 2, 3, 4, 5, 6, 7], [8], fun vs_ T_ => fr0 vs_ 0 = (ah_ (rr91.v) (x202) (Enc.sz Int)), [0], [], [], fun _ h_ => h_⟩, ⟨some 143, [0, 1, 2, 3, 4, 5, 6, 7, 8], [9], fun vs_ T_ => fr0 vs_ 0 = (Value.int .i64 (x203)), [0], [], [], fun _ h_ => h_⟩, ⟨some 144, [0, 1, 2, 3, 4, 5, 6, 7, 8, 9], [10], fun vs_ T_ => fr0 vs_ 0 = (Value.int .i64 (w64 (x203 + 1))), [], [], [], fun _ h_ => h_⟩, ⟨some 145, [0, 1, 2, 3, 4, 5, 6, 7, 8, 9, 10], [11], fun vs_ T_ => fr0 vs_ 0 = (ah_ (rr91.v) (x202) (Enc.sz Int)), [0], [], [], fun _ h_ => h_⟩, ⟨none, [0, 1, 2, 3, 4, 5, 6, 7, 8, 9, 10, 11], [], fun vs_ T_ => True, [], [0], [2], fun _ h_ => h_⟩]) (tks := [⟨none, some 12, [], fun vs_ => ec_ (α := Int) 26 3 (Value.slice z26 m26 k26) (rw9) (s8.1)⟩, ⟨none, none, [], fun vs_ => Row (α := Int) 3 (Value.slice z20 m20 k20) (x14.1)⟩, ⟨some 12, none, [], fun vs_ => ec_ (α := Int) 26 3 (Value.slice z26 m26 k26) (rw9) (s8.1.set (s8.2).toNat (x201.set (x202).toNat (w64 (x203 + 1))))⟩]) (O := Fr) rfl (by kernel_rfl) (I612.pull 1) ⟨?_, ?_, ?_, ?_, ?_, ?_, ?_, ?_, ?_, ?_, ?_, ?_, ?_, trivial⟩ ?_
              ·
               intro vs493 f w534 S502 X462 le502 hA462 hK493 hI503
               have I614 : Inv w534 S502 (X462) := hI503
               refine af_ rfl rfl (ac_ (v := (Value.slice z26 m26 k26)) rfl ((hK493 11 (be_ rfl)).trans e627) ?_)
               refine ⟨_, _, rfl, PH.Le.refl _, ?_, ?_⟩
               ·
                exact rfl
               ·
                exact I614
              ·
               intro vs494 f w535 S503 X463 le503 hA463 hK494 hI504
               have I615 : Inv w535 S503 (X463) := hI504
               refine af_ rfl rfl (ac_ (v := (Value.int .i64 (s8.2))) rfl ((hK494 13 (be_ rfl)).trans e628) ?_)
               refine ⟨_, _, rfl, PH.Le.refl _, ?_, ?_⟩
               ·
                exact rfl
               ·
                exact I615
              ·
               intro vs495 f w536 S504 X464 le504 hA464 hK495 hI505
               have I616 : Inv w536 S504 (ec_ (α := Int) 26 3 (Value.slice z26 m26 k26) (rw9) (s8.1) :: X464) := hI505
               have q678 : f 134 = (Value.slice z26 m26 k26) := vt (hA464.at_ 0 rfl _ rfl) rfl
               have q679 : f 135 = (Value.int .i64 (s8.2)) := vt (hA464.at_ 1 rfl _ rfl) rfl
               refine af_ rfl rfl (cq_ (v := (Value.slice z26 m26 k26)) (i := s8.2) (r := rr91) rfl Try.underlying47 hm_ (I616.nth 0 rfl) q678 q679 hr91 ?_)
               refine ⟨_, _, rfl, PH.Le.refl _, ?_, ?_⟩
               ·
                exact rfl
               ·
                exact I616
              ·
               intro vs496 f w537 S505 X465 le505 hA465 hK496 hI506
               have I617 : Inv w537 S505 (ec_ (α := Int) 26 3 (Value.slice z26 m26 k26) (rw9) (s8.1) :: X465) := hI506
               have q680 : f 136 = (ah_ (Value.slice z26 m26 k26) (s8.2) (Enc.sz Raw)) := vt (hA465.at_ 2 rfl _ rfl) rfl
               refine af_ rfl rfl (aq_ (α := Raw) (v := (ah_ (Value.slice z26 m26 k26) (s8.2) (Enc.sz Raw))) (e := rr91) rfl hm_ q680 (Inv.gridRowAt (I617.nth 0 rfl) hr91) (fun u215 hu207 => ?_))
               obtain rfl := jq_ hu207
               refine ⟨_, _, rfl, PH.Le.refl _, ?_, ?_⟩
               ·
                exact rfl
               ·
                exact I617
              ·
               intro vs497 f w538 S506 X466 le506 hA466 hK497 hI507
               have I618 : Inv w538 S506 (X466) := hI507
               refine af_ rfl rfl (ac_ (v := (Value.slice z20 m20 k20)) rfl ((hK497 8 (be_ rfl)).trans e626) ?_)
               refine ⟨_, _, rfl, PH.Le.refl _, ?_, ?_⟩
               ·
                exact rfl
               ·
                exact I618
              ·
               intro vs498 f w539 S507 X467 le507 hA467 hK498 hI508
               have I619 : Inv w539 S507 (X467) := hI508
               refine af_ rfl rfl (ac_ (v := (Value.int .i64 ((i1 : Int)))) rfl ((hK498 14 (be_ rfl)).trans e629) ?_)
               refine ⟨_, _, rfl, PH.Le.refl _, ?_, ?_⟩
               ·
                exact rfl
               ·
                exact I619
              ·
               intro vs499 f w540 S508 X468 le508 hA468 hK499 hI509
               have I620 : Inv w540 S508 (Row (α := Int) 3 (Value.slice z20 m20 k20) (x14.1) :: X468) := hI509
               have q681 : f 138 = (Value.slice z20 m20 k20) := vt (hA468.at_ 0 rfl _ rfl) rfl
               have q682 : f 139 = (Value.int .i64 ((i1 : Int))) := vt (hA468.at_ 1 rfl _ rfl) rfl
               refine af_ rfl rfl (bh_ (v := (Value.slice z20 m20 k20)) (i := (i1 : Int)) (e := x202) rfl Try.underlying26 sh3 q681 (Inv.rowSrc (I620.nth 0 rfl)) q682 hx202 ?_)
               refine ⟨_, _, rfl, PH.Le.refl _, ?_, ?_⟩
               ·
                exact rfl
               ·
                exact I620
              ·
               intro vs500 f w541 S509 X469 le509 hA469 hK500 hI510
               have I621 : Inv w541 S509 (Row (α := Int) 3 (Value.slice z20 m20 k20) (x14.1) :: X469) := hI510
               have q683 : f 140 = (ah_ (Value.slice z20 m20 k20) ((i1 : Int)) (Enc.sz Int)) := vt (hA469.at_ 2 rfl _ rfl) rfl
               refine af_ rfl rfl (av_ (v := (ah_ (Value.slice z20 m20 k20) ((i1 : Int)) (Enc.sz Int))) (e := x202) rfl sh3 q683 ((I621.nth 0 rfl).rowElem hx202) ?_)
               refine ⟨_, _, rfl, PH.Le.refl _, ?_, ?_⟩
               ·
                exact rfl
               ·
                exact I621
              ·
               intro vs501 f w542 S510 X470 le510 hA470 hK501 hI511
               have I622 : Inv w542 S510 (ec_ (α := Int) 26 3 (Value.slice z26 m26 k26) (rw9) (s8.1) :: X470) := hI511
               have q684 : f 137 = (rr91.v) := vt (hA470.at_ 3 rfl _ rfl) rfl
               have q685 : f 141 = (Value.int .i64 (x202)) := vt (hA470.at_ 7 rfl _ rfl) rfl
               refine af_ rfl rfl (dx_ (k := x202) (e := x203) (bv_ hr91).2.2 (bv_ hx201).2.2 rfl Try.underlying26 sh3 (I622.nth 0 rfl) q684 q685 hx203 ?_)
               refine ⟨_, _, rfl, PH.Le.refl _, ?_, ?_⟩
               ·
                exact rfl
               ·
                exact I622
              ·
               intro vs502 f w543 S511 X471 le511 hA471 hK502 hI512
               have I623 : Inv w543 S511 (ec_ (α := Int) 26 3 (Value.slice z26 m26 k26) (rw9) (s8.1) :: X471) := hI512
               have q686 : f 142 = (ah_ (rr91.v) (x202) (Enc.sz Int)) := vt (hA471.at_ 8 rfl _ rfl) rfl
               refine af_ rfl rfl (av_ (v := (ah_ (rr91.v) (x202) (Enc.sz Int))) (e := x203) rfl sh3 q686 (Inv.gridElem (I623.nth 0 rfl) (bv_ hr91).2.2 (bv_ hx201).2.2 hx203) ?_)
               refine ⟨_, _, rfl, PH.Le.refl _, ?_, ?_⟩
               ·
                exact rfl
               ·
                exact I623
              ·
               intro vs503 f w544 S512 X472 le512 hA472 hK503 hI513
               have I624 : Inv w544 S512 (X472) := hI513
               have q687 : f 143 = (Value.int .i64 (x203)) := vt (hA472.at_ 9 rfl _ rfl) rfl
               refine af_ rfl rfl (bs_ (a := x203) (b := 1) rfl q687 rfl ?_)
               refine ⟨_, _, rfl, PH.Le.refl _, ?_, ?_⟩
               ·
                exact rfl
               ·
                exact I624
              ·
               intro vs504 f w545 S513 X473 le513 hA473 hK504 hI514
               have I625 : Inv w545 S513 (ec_ (α := Int) 26 3 (Value.slice z26 m26 k26) (rw9) (s8.1) :: X473) := hI514
               have q688 : f 137 = (rr91.v) := vt (hA473.at_ 3 rfl _ rfl) rfl
               have q689 : f 141 = (Value.int .i64 (x202)) := vt (hA473.at_ 7 rfl _ rfl) rfl
               refine af_ rfl rfl (dx_ (k := x202) (e := x203) (bv_ hr91).2.2 (bv_ hx201).2.2 rfl Try.underlying26 sh3 (I625.nth 0 rfl) q688 q689 hx203 ?_)
               refine ⟨_, _, rfl, PH.Le.refl _, ?_, ?_⟩
               ·
                exact rfl
               ·
                exact I625
              ·
               intro vs505 f w546 S514 X474 le514 hA474 hK505 hI515
               have I626 : Inv w546 S514 (ec_ (α := Int) 26 3 (Value.slice z26 m26 k26) (rw9) (s8.1) :: X474) := hI515
               have q690 : f 144 = (Value.int .i64 (w64 (x203 + 1))) := vt (hA474.at_ 10 rfl _ rfl) rfl
               have q691 : f 145 = (ah_ (rr91.v) (x202) (Enc.sz Int)) := vt (hA474.at_ 11 rfl _ rfl) rfl
               refine af_ rfl rfl (il_ (k := x202) (e' := w64 (x203 + 1)) (bv_ hr91).2.2 (bv_ hx201).2.2 sh3 I626 q691 q690 hx203 (cb_ _) (fun w547 I627 => ?_))
               refine ⟨undef, _, rfl, PH.Le.refl _, ?_, ?_⟩
               ·
                exact trivial
               ·
                exact I627
              ·
               intro vs506 f w548 S515 ed97 le515 hF32 hK506 hI516
               have e630 : f 3 = (Value.pointer (some ⟨g1, 0, none⟩)) := (hK506 3 (bc_ rfl)).trans e625
               have e631 : f 8 = (Value.slice z20 m20 k20) := (hK506 8 (bc_ rfl)).trans e626
               have e632 : f 11 = (Value.slice z26 m26 k26) := (hK506 11 (bc_ rfl)).trans e627
               have e633 : f 13 = (Value.int .i64 (s8.2)) := (hK506 13 (bc_ rfl)).trans e628
               have e634 : f 14 = (Value.int .i64 ((i1 : Int))) := (hK506 14 (bc_ rfl)).trans e629
               have I628 : Inv w548 S515 (Row (α := Int) 3 (Value.slice z20 m20 k20) (x14.1) :: ec_ (α := Int) 26 3 (Value.slice z26 m26 k26) (rw9) (s8.1.set (s8.2).toNat (x201.set (x202).toNat (w64 (x203 + 1)))) :: Fr) := hI516
               obtain ⟨x204, hx204, h31⟩ := bnd h31
               obtain ⟨x205, hx205, h31⟩ := bnd h31
               obtain ⟨x206, hx206, h31⟩ := bnd h31
               refine cn_ (sps := [⟨some 146, [], [0], fun vs_ T_ => fr0 vs_ 0 = (am_ (Value.pointer (some ⟨g1, 0, none⟩)) 1), [], [], [], fun _ h_ => h_⟩, ⟨some 147, [0], [1], fun vs_ T_ => RV T_ (fr0 vs_ 0) a0.Edges, [], [], [], fun hle_ h_ => h_.mono hle_⟩, ⟨some 148, [], [2], fun vs_ T_ => fr0 vs_ 0 = (Value.int .i64 (s8.2)), [], [], [], fun _ h_ => h_⟩, ⟨some 149, [0, 1, 2], [3, 1], fun vs_ T_ => fr0 vs_ 0 = (ah_ (fr0 vs_ 1) (s8.2) (Enc.sz (List Edge))), [], [], [], fun _ h_ => h_⟩, ⟨some 150, [0, 1, 2, 3], [4], fun vs_ T_ => RV T_ (fr0 vs_ 0) x204, [], [], [], fun hle_ h_ => h_.mono hle_⟩, ⟨some 151, [], [5], fun vs_ T_ => fr0 vs_ 0 = (Value.slice z20 m20 k20), [], [], [], fun _ h_ => h_⟩, ⟨some 152, [], [6], fun vs_ T_ => fr0 vs_ 0 = (Value.int .i64 ((i1 : Int))), [], [], [], fun _ h_ => h_⟩, ⟨some 153, [5, 6], [7], fun vs_ T_ => fr0 vs_ 0 = (ah_ (Value.slice z20 m20 k20) ((i1 : Int)) (Enc.sz Int)), [0], [], [], fun _ h_ => h_⟩, ⟨some 154, [5, 6, 7], [8], fun vs_ T_ => fr0 vs_ 0 = (Value.int .i64 (x205)), [0], [], [], fun _ h_ => h_⟩, ⟨some 155, [0, 1, 2, 3, 4, 5, 6, 7, 8], [9, 4], fun vs_ T_ => fr0 vs_ 0 = (ah_ (fr0 vs_ 1) (x205) (Enc.sz Edge)), [], [], [], fun _ h_ => h_⟩, ⟨some 156, [0, 1, 2, 3, 4, 5, 6, 7, 8, 9], [10, 4], fun vs_ T_ => fr0 vs_ 0 = (am_ (ah_ (fr0 vs_ 1) (x205) (Enc.sz Edge)) 3), [], [], [], fun _ h_ => h_⟩, ⟨some 157, [0, 1, 2, 3, 4, 5, 6, 7, 8, 9, 10], [11], fun vs_ T_ => fr0 vs_ 0 = (Value.int .i64 (x206.To)), [], [], [], fun _ h_ => h_⟩, ⟨some 13, [0, 1, 2, 3, 4, 5, 6, 7, 8, 9, 10, 11], [12], fun vs_ T_ => fr0 vs_ 0 = (Value.int .i64 (x206.To)), [], [], [], fun _ h_ => h_⟩]) (tks := [⟨none, none, [], fun vs_ => Row (α := Int) 3 (Value.slice z20 m20 k20) (x14.1)⟩]) (O := ec_ (α := Int) 26 3 (Value.slice z26 m26 k26) (rw9) (s8.1.set (s8.2).toNat (x201.set (x202).toNat (w64 (x203 + 1)))) :: Fr) rfl (by kernel_rfl) I628 ⟨?_, ?_, ?_, ?_, ?_, ?_, ?_, ?_, ?_, ?_, ?_, ?_, ?_, trivial⟩ ?_
               ·
                intro vs507 f w549 S516 X475 le516 hA475 hK507 hI517
                have I629 : Inv w549 S516 (X475) := hI517
                refine af_ rfl rfl (aj_ (v := (Value.pointer (some ⟨g1, 0, none⟩))) rfl cs_ ((hK507 3 (be_ rfl)).trans e630) ((p1.mono ((((((le9.trans le10).trans le400).trans le476).trans le501).trans le515).trans le516)).at_ I629) ?_)
                refine ⟨_, _, rfl, PH.Le.refl _, ?_, ?_⟩
                ·
                 exact rfl
                ·
                 exact I629
               ·
                intro vs508 f w550 S517 X476 le517 hA476 hK508 hI518
                have I630 : Inv w550 S517 (X476) := hI518
                have q692 : f 146 = (am_ (Value.pointer (some ⟨g1, 0, none⟩)) 1) := vt (hA476.at_ 0 rfl _ rfl) rfl
                refine af_ rfl rfl (aq_ (v := (am_ (Value.pointer (some ⟨g1, 0, none⟩)) 1)) (e := a0.Edges) rfl fi_ q692 (((p1.mono ((((((le9.trans le10).trans le400).trans le476).trans le501).trans le515).trans le517)).at_ I630).fld Graph.fld1) (fun u218 hu210 => ?_))
                obtain ⟨z109, m109, k109, e635⟩ := ak_ hu210
                subst e635
                refine ⟨_, _, rfl, PH.Le.refl _, ?_, ?_⟩
                ·
                 exact hu210
                ·
                 exact I630
               ·
                intro vs509 f w551 S518 X477 le518 hA477 hK509 hI519
                have I631 : Inv w551 S518 (X477) := hI519
                refine af_ rfl rfl (ac_ (v := (Value.int .i64 (s8.2))) rfl ((hK509 13 (be_ rfl)).trans e633) ?_)
                refine ⟨_, _, rfl, PH.Le.refl _, ?_, ?_⟩
                ·
                 exact rfl
                ·
                 exact I631
               ·
                intro vs510 f w552 S519 X478 le519 hA478 hK510 hI520
                have I632 : Inv w552 S519 (X478) := hI520
                have q693 : f 147 = vs510 1 := (hA478.at_ 1 rfl _ rfl).1 _ rfl
                have r62 : RV S519 (vs510 1) a0.Edges := (hA478.at_ 1 rfl _ rfl).2
                obtain ⟨u219, hu211⟩ : ∃ u, vs510 1 = u := ⟨_, rfl⟩
                rw [hu211] at q693 r62
                obtain ⟨z110, m110, k110, e636⟩ := ak_ r62
                subst e636
                have q694 : f 148 = (Value.int .i64 (s8.2)) := vt (hA478.at_ 2 rfl _ rfl) rfl
                refine af_ rfl rfl (ao_ (v := (Value.slice z110 m110 k110)) (i := s8.2) (e := x204) rfl Try.underlying23 en_ q693 r62 q694 hx204 ?_)
                refine ⟨_, _, rfl, PH.Le.refl _, ?_, ?_⟩
                ·
                 show (ah_ (Value.slice z110 m110 k110) (s8.2) (Enc.sz (List Edge))) = (ah_ (vs510 1) (s8.2) (Enc.sz (List Edge)))
                 simp only [hu211] <;> rfl
                ·
                 exact I632
               ·
                intro vs511 f w553 S520 X479 le520 hA479 hK511 hI521
                have I633 : Inv w553 S520 (X479) := hI521
                have q695 : f 147 = vs511 1 := (hA479.at_ 1 rfl _ rfl).1 _ rfl
                have r63 : RV S520 (vs511 1) a0.Edges := (hA479.at_ 1 rfl _ rfl).2
                obtain ⟨u220, hu212⟩ : ∃ u, vs511 1 = u := ⟨_, rfl⟩
                rw [hu212] at q695 r63
                obtain ⟨z111, m111, k111, e637⟩ := ak_ r63
                subst e637
                have q696 : f 148 = (Value.int .i64 (s8.2)) := vt (hA479.at_ 2 rfl _ rfl) rfl
                have q697 : f 149 = (ah_ (vs511 1) (s8.2) (Enc.sz (List Edge))) := vt (hA479.at_ 3 rfl _ rfl) rfl
                simp only [hu212] at q697
                have q697 : f 149 = (ah_ (Value.slice z111 m111 k111) (s8.2) (Enc.sz (List Edge))) := q697
                refine af_ rfl rfl (aq_ (v := (ah_ (Value.slice z111 m111 k111) (s8.2) (Enc.sz (List Edge)))) (e := x204) rfl en_ q697 (r63.elem I633.in_ hx204) (fun u221 hu213 => ?_))
                obtain ⟨z112, m112, k112, e638⟩ := ak_ hu213
                subst e638
                refine ⟨_, _, rfl, PH.Le.refl _, ?_, ?_⟩
                ·
                 exact hu213
                ·
                 exact I633
               ·
                intro vs512 f w554 S521 X480 le521 hA480 hK512 hI522
                have I634 : Inv w554 S521 (X480) := hI522
                refine af_ rfl rfl (ac_ (v := (Value.slice z20 m20 k20)) rfl ((hK512 8 (be_ rfl)).trans e631) ?_)
                refine ⟨_, _, rfl, PH.Le.refl _, ?_, ?_⟩
                ·
                 exact rfl
                ·
                 exact I634
               ·
                intro vs513 f w555 S522 X481 le522 hA481 hK513 hI523
                have I635 : Inv w555 S522 (X481) := hI523
                refine af_ rfl rfl (ac_ (v := (Value.int .i64 ((i1 : Int)))) rfl ((hK513 14 (be_ rfl)).trans e634) ?_)
                refine ⟨_, _, rfl, PH.Le.refl _, ?_, ?_⟩
                ·
                 exact rfl
                ·
                 exact I635
               ·
                intro vs514 f w556 S523 X482 le523 hA482 hK514 hI524
                have I636 : Inv w556 S523 (Row (α := Int) 3 (Value.slice z20 m20 k20) (x14.1) :: X482) := hI524
                have q698 : f 151 = (Value.slice z20 m20 k20) := vt (hA482.at_ 0 rfl _ rfl) rfl
                have q699 : f 152 = (Value.int .i64 ((i1 : Int))) := vt (hA482.at_ 1 rfl _ rfl) rfl
                refine af_ rfl rfl (bh_ (v := (Value.slice z20 m20 k20)) (i := (i1 : Int)) (e := x205) rfl Try.underlying26 sh3 q698 (Inv.rowSrc (I636.nth 0 rfl)) q699 hx205 ?_)
                refine ⟨_, _, rfl, PH.Le.refl _, ?_, ?_⟩
                ·
                 exact rfl
                ·
                 exact I636
               ·
                intro vs515 f w557 S524 X483 le524 hA483 hK515 hI525
                have I637 : Inv w557 S524 (Row (α := Int) 3 (Value.slice z20 m20 k20) (x14.1) :: X483) := hI525
                have q700 : f 153 = (ah_ (Value.slice z20 m20 k20) ((i1 : Int)) (Enc.sz Int)) := vt (hA483.at_ 2 rfl _ rfl) rfl
                refine af_ rfl rfl (av_ (v := (ah_ (Value.slice z20 m20 k20) ((i1 : Int)) (Enc.sz Int))) (e := x205) rfl sh3 q700 ((I637.nth 0 rfl).rowElem hx205) ?_)
                refine ⟨_, _, rfl, PH.Le.refl _, ?_, ?_⟩
                ·
                 exact rfl
                ·
                 exact I637
               ·
                intro vs516 f w558 S525 X484 le525 hA484 hK516 hI526
                have I638 : Inv w558 S525 (X484) := hI526
                have q701 : f 150 = vs516 4 := (hA484.at_ 4 rfl _ rfl).1 _ rfl
                have r64 : RV S525 (vs516 4) x204 := (hA484.at_ 4 rfl _ rfl).2
                obtain ⟨u222, hu214⟩ : ∃ u, vs516 4 = u := ⟨_, rfl⟩
                rw [hu214] at q701 r64
                obtain ⟨z113, m113, k113, e639⟩ := ak_ r64
                subst e639
                have q702 : f 154 = (Value.int .i64 (x205)) := vt (hA484.at_ 8 rfl _ rfl) rfl
                refine af_ rfl rfl (ao_ (v := (Value.slice z113 m113 k113)) (i := x205) (e := x206) rfl Try.underlying40 kw_ q701 r64 q702 hx206 ?_)
                refine ⟨_, _, rfl, PH.Le.refl _, ?_, ?_⟩
                ·
                 show (ah_ (Value.slice z113 m113 k113) (x205) (Enc.sz Edge)) = (ah_ (vs516 4) (x205) (Enc.sz Edge))
                 simp only [hu214] <;> rfl
                ·
                 exact I638
               ·
                intro vs517 f w559 S526 X485 le526 hA485 hK517 hI527
                have I639 : Inv w559 S526 (X485) := hI527
                have q703 : f 150 = vs517 4 := (hA485.at_ 4 rfl _ rfl).1 _ rfl
                have r65 : RV S526 (vs517 4) x204 := (hA485.at_ 4 rfl _ rfl).2
                obtain ⟨u223, hu215⟩ : ∃ u, vs517 4 = u := ⟨_, rfl⟩
                rw [hu215] at q703 r65
                obtain ⟨z114, m114, k114, e640⟩ := ak_ r65
                subst e640
                have q704 : f 154 = (Value.int .i64 (x205)) := vt (hA485.at_ 8 rfl _ rfl) rfl
                have q705 : f 155 = (ah_ (vs517 4) (x205) (Enc.sz Edge)) := vt (hA485.at_ 9 rfl _ rfl) rfl
                simp only [hu215] at q705
                have q705 : f 155 = (ah_ (Value.slice z114 m114 k114) (x205) (Enc.sz Edge)) := q705
                refine af_ rfl rfl (aj_ (v := (ah_ (Value.slice z114 m114 k114) (x205) (Enc.sz Edge))) rfl ft_ q705 (r65.elem I639.in_ hx206) ?_)
                refine ⟨_, _, rfl, PH.Le.refl _, ?_, ?_⟩
                ·
                 show (am_ (ah_ (Value.slice z114 m114 k114) (x205) (Enc.sz Edge)) 3) = (am_ (ah_ (vs517 4) (x205) (Enc.sz Edge)) 3)
                 simp only [hu215] <;> rfl
                ·
                 exact I639
               ·
                intro vs518 f w560 S527 X486 le527 hA486 hK518 hI528
                have I640 : Inv w560 S527 (X486) := hI528
                have q706 : f 150 = vs518 4 := (hA486.at_ 4 rfl _ rfl).1 _ rfl
                have r66 : RV S527 (vs518 4) x204 := (hA486.at_ 4 rfl _ rfl).2
                obtain ⟨u224, hu216⟩ : ∃ u, vs518 4 = u := ⟨_, rfl⟩
                rw [hu216] at q706 r66
                obtain ⟨z115, m115, k115, e641⟩ := ak_ r66
                subst e641
                have q707 : f 154 = (Value.int .i64 (x205)) := vt (hA486.at_ 8 rfl _ rfl) rfl
                have q708 : f 155 = (ah_ (vs518 4) (x205) (Enc.sz Edge)) := vt (hA486.at_ 9 rfl _ rfl) rfl
                simp only [hu216] at q708
                have q708 : f 155 = (ah_ (Value.slice z115 m115 k115) (x205) (Enc.sz Edge)) := q708
                have q709 : f 156 = (am_ (ah_ (vs518 4) (x205) (Enc.sz Edge)) 3) := vt (hA486.at_ 10 rfl _ rfl) rfl
                simp only [hu216] at q709
                have q709 : f 156 = (am_ (ah_ (Value.slice z115 m115 k115) (x205) (Enc.sz Edge)) 3) := q709
                refine af_ rfl rfl (av_ (v := (am_ (ah_ (Value.slice z115 m115 k115) (x205) (Enc.sz Edge)) 3)) (e := x206.To) rfl sh3 q709 ((r66.elem I640.in_ hx206).fld Edge.fld1) ?_)
                refine ⟨_, _, rfl, PH.Le.refl _, ?_, ?_⟩
                ·
                 exact rfl
                ·
                 exact I640
               ·
                intro vs519 f w561 S528 X487 le528 hA487 hK519 hI529
                have I641 : Inv w561 S528 (X487) := hI529
                have q710 : f 157 = (Value.int .i64 (x206.To)) := vt (hA487.at_ 11 rfl _ rfl) rfl
                refine af_ rfl rfl (ae_ (v := (Value.int .i64 (x206.To))) rfl q710 ?_)
                refine ⟨_, _, rfl, PH.Le.refl _, ?_, ?_⟩
                ·
                 exact rfl
                ·
                 exact I641
               ·
                intro vs520 f w562 S529 ed98 le529 hF33 hK520 hI530
                have e642 : f 3 = (Value.pointer (some ⟨g1, 0, none⟩)) := (hK520 3 (bc_ rfl)).trans e630
                have e643 : f 8 = (Value.slice z20 m20 k20) := (hK520 8 (bc_ rfl)).trans e631
                have e644 : f 11 = (Value.slice z26 m26 k26) := (hK520 11 (bc_ rfl)).trans e632
                have e645 : f 14 = (Value.int .i64 ((i1 : Int))) := (hK520 14 (bc_ rfl)).trans e634
                have I642 : Inv w562 S529 (Row (α := Int) 3 (Value.slice z20 m20 k20) (x14.1) :: ec_ (α := Int) 26 3 (Value.slice z26 m26 k26) (rw9) (s8.1.set (s8.2).toNat (x201.set (x202).toNat (w64 (x203 + 1)))) :: Fr) := hI530
                have q711 : f 13 = (Value.int .i64 (x206.To)) := vt (hF33.at_ 12 rfl _ rfl) rfl
                refine ab_ ?_
                refine aa_ rfl (ac_ (v := (Value.int .i64 ((i1 : Int)))) rfl e645 ?_)
                refine aa_ rfl (bs_ (a := (i1 : Int)) (b := 1) rfl rfl rfl ?_)
                refine aa_ rfl (ae_ (v := (Value.int .i64 (w64 ((i1 : Int) + 1)))) rfl rfl ?_)
                refine ag_ ?_
                obtain rfl := Option.some.inj h31
                exact ⟨_, rfl, _, _, ((((le400.trans le476).trans le501).trans le515).trans le529), ((I642.pull 1).pull 1), e642, e643, e644, q711, (ca_ hlt1 hk1), (ed98.trans (ed97.trans ed96)), (lw_ hl9)⟩
         ·
          rintro s11 f w hs1 hI531
          obtain ⟨S530, rw11, le530, I643, e646, e647, e648, e649, e650, ed99, hl11⟩ := hI531
          refine ad_ ?_
          refine ad_ ?_
          refine ab_ ?_
          refine aa_ rfl (ac_ (v := (Value.int .i64 ((x14.1.length : Int)))) rfl e650 ?_)
          refine aa_ rfl (ac_ (v := (Value.slice z20 m20 k20)) rfl e647 ?_)
          refine aa_ rfl (bu_ (α := Int) rfl Try.underlying26 rfl (I643.nth 0 rfl) ?_)
          refine aa_ rfl (bn_ (a := (x14.1.length : Int)) (b := (x14.1.length : Int)) rfl rfl rfl ?_)
          refine ag_ ?_
          refine ap_ (b := decide ((x14.1.length : Int) < (x14.1.length : Int))) rfl (ev_ _) ?_
          refine bm_ ?_
          exact ⟨s11, hs1, _, _, le530, ((I643.pull 1).pull 1), e646, e647, e648, e649, ed99, hl11⟩
        ·
         rintro f w ⟨out8, rfl, S531, rw10, le531, I644, e651, e652, e653, e654, ed100, hl10⟩
         have h := cy_ h
         refine ad_ ?_
         refine ab_ ?_
         obtain ⟨x207, hx207, h⟩ := bnd h
         refine aa_ rfl (bl_ (vs := []) (r := (Value.bool (x207))) rfl ca17 rfl kt_ I644 (fun Fr_ hF_ => ja_ hF_  hx207) (fun w563 I645 => ?_))
         refine aa_ rfl (ae_ (v := (Value.bool (x207))) rfl rfl ?_)
         refine ag_ ?_
         refine aw_ ?_
         obtain rfl := Option.some.inj h
         exact ⟨ed100, (Value.bool (x207)), (cx_ rfl rfl), _, [], (((le1.trans le9).trans le10).trans le531), ((I645).drop).drop, rfl, rfl⟩
end Go.Proofs.Ytogfongmnkmegaa.Pad
