/- A part of the proof: what the functions of the program compute, shown over the model. -/
import Derived.Test.YtlpdpeghgndmkaaHinP
import Derived.Test.YtlpdpeghgndmkaaHinW4
import Derived.Test.YtlpdpeghgndmkaaHinW9
import Derived.Test.YtlpdpeghgndmkaaHinW10
import Derived.KernelRfl
set_option linter.unusedVariables false
set_option maxHeartbeats 4000000
set_option maxRecDepth 100000
namespace Go.Proofs.Ytlpdpeghgndmkaa.Pad
open Go Go.Proofs
theorem og_ {w : World} {S : PH} {Fr : List HP} {a0 : Aid} {v0 : Value} {a1 : Riddle} {v1 : Value} {r : Bool} (hI : Inv w S (Fr)) (h0_ : RV S v0 a0) (h1_ : PtS S v1 a1) (h : gh_ a0 a1 = some r) :
    Calls Try.prog 90 [v0, v1].toArray w (ce_ S Fr (Value.bool (r))) := by
 unfold gh_ at h
 obtain ⟨c1, e1, r1⟩ := Aid.inv h0_
 subst e1
 obtain ⟨z1, m1, k1, rfl⟩ := ad_ r1
 refine au_ (n := 8) (vs := [(.agg #[(vi a0.Lock), (vi a0.Clue.Kind), (vi a0.Clue.A), (vi a0.Clue.B), (vi a0.Clue.N), (vi a0.Clue.M), (.slice z1 m1 k1), (vb a0.Clue.Not)]), v1]) Try.func90 rfl rfl rfl (ab_ (aa_ (wo_ (bh_ (v := (.agg #[(vi a0.Lock), (vi a0.Clue.Kind), (vi a0.Clue.A), (vi a0.Clue.B), (vi a0.Clue.N), (vi a0.Clue.M), (.slice z1 m1 k1), (vb a0.Clue.Not)])) rfl hI rfl (fun g1 w1 I1 => ?_)))))
 obtain ⟨S1, le1, I2, p1⟩ := Inv.boxFreeze (x := a0) I1 (Aid.rv (s := a0) r1)
 refine wa_ (v := (vb false)) rfl rfl (ae_ (ab_ (aa_ (wo_ (an_ (v := v1) (e := a1) rfl hn_ rfl ((h1_.mono le1).at_ I2) (fun u1 hu1 => ?_))))))
 obtain ⟨c2, c3, c4, c5, e3, r2, r3, r4, r5⟩ := Riddle.inv hu1
 subst e3
 obtain ⟨z2, m2, k2, rfl⟩ := ad_ r2
 obtain ⟨z3, m3, k3, rfl⟩ := ad_ r3
 obtain ⟨z4, m4, k4, rfl⟩ := ad_ r4
 obtain ⟨z5, m5, k5, rfl⟩ := ad_ r5
 refine wo_ (an_ (v := (pt_ g1)) (e := a0) rfl sh32 rfl (p1.at_ I2) (fun u2 hu2 => ?_))
 obtain ⟨c6, e8, r6⟩ := Aid.inv hu2
 subst e8
 obtain ⟨z6, m6, k6, rfl⟩ := ad_ r6
 obtain ⟨x1, hx1, h⟩ := bnd h
 refine wo_ (aq_ (vs := [(.agg #[(.slice z2 m2 k2), (.slice z3 m3 k3), (.slice z4 m4 k4), (.slice z5 m5 k5)]), (.agg #[(vi a0.Lock), (vi a0.Clue.Kind), (vi a0.Clue.A), (vi a0.Clue.B), (vi a0.Clue.N), (vi a0.Clue.M), (.slice z6 m6 k6), (vb a0.Clue.Not)])]) (r := (vb x1)) rfl ca74 rfl (bt_ rfl rfl) I2 (fun Fr_ hF_ => ok_ hF_ (Riddle.rv (s := a1) r2 r3 r4 r5) (Aid.rv (s := a0) r6) hx1) (fun w2 I3 => (wo_ (cc_ (b := x1) rfl rfl (wa_ (v := (vb (!x1))) rfl rfl (ae_ (al_ ?_)))))))
 obtain rfl := sj h
 exact ⟨rfl, (vb (!x1)), (br_ rfl rfl), _, [], le1, I3, rfl, rfl⟩
theorem mj_ {w : World} {S : PH} {Fr : List HP} {a0 : (List Aid)} {v0 : Value} {a1 : Aid → Option Bool} {v1 : Value} {r : Int} (hI : Inv w S (Fr)) (h0_ : RV S v0 a0) (h1_ : FnV Try.prog S v1 a1) (h : gn_ a0 a1 = some r) :
    Calls Try.prog 110 [v0, v1].toArray w (ce_ S Fr (Value.int .i64 (r))) := by
 unfold gn_ at h
 obtain ⟨z1, m1, k1, rfl⟩ := ad_ h0_
 refine au_ (n := 19) (vs := [(.slice z1 m1 k1), v1]) Try.func110 rfl rfl rfl (ab_ (aa_ (wa_ (v := (vi 0)) rfl rfl (ae_ (ab_ (ab_ (aa_ (wm_ (v := (.slice z1 m1 k1)) rfl rfl (wo_ (bb_ rfl Try.underlying44 rfl h0_ (wm_ (v := (vi 0)) rfl rfl (ae_ ?_))))))))))))
 have hk1 : a0.length ≤ 9223372036854775807 := (ef_ h0_)
 obtain ⟨o2, hrun1, h⟩ := bnd h
 refine bu_ (fun f w => ∃ out1, o2 = Sum.inl out1 ∧ Inv w S (Fr) ∧ f 0 = (.slice z1 m1 k1) ∧ f 1 = v1 ∧ f 7 = (vi ((a0.length : Int))) ∧ f.ds = []) ?_ ?_
 ·
  refine ay_ ?_
  refine ez_ (I := fun (i1 : Nat) (s1 : Unit) (f : Frm) (w : World) => Inv w S (Fr) ∧ f 0 = (.slice z1 m1 k1) ∧ f 1 = v1 ∧ f 7 = (vi ((a0.length : Int))) ∧ f 8 = (vi (i1 : Int)) ∧ f.ds = []) hrun1 ⟨hI, rfl, rfl, rfl, rfl, rfl⟩ ?_ ?_
  ·
   rintro i1 s1 f w o1 hlt1 hI1 h1 hout1
   obtain ⟨I5, e14, e15, e16, e17, ed3⟩ := hI1
   refine ab_ (aa_ (wo_ (bg_ (a := (i1 : Int)) (b := (a0.length : Int)) rfl e17 e16 (ae_ (ab_ (ai_ (b := decide ((i1 : Int) < (a0.length : Int))) rfl (gq_ hlt1) (av_ (ab_ (ay_ (ab_ (aa_ (wm_ (v := (vi (i1 : Int))) rfl e17 (wa_ (v := (vi (i1 : Int))) rfl rfl (ae_ (ab_ (aa_ (wm_ (v := v1) rfl e15 (wm_ (v := (.slice z1 m1 k1)) rfl e14 (wm_ (v := (vi (i1 : Int))) rfl rfl ?_)))))))))))))))))))
   obtain ⟨x5, hx5, h1⟩ := bnd h1
   refine wo_ (aj_ (v := (.slice z1 m1 k1)) (i := (i1 : Int)) (e := x5) rfl Try.underlying44 sh32 rfl h0_ rfl hx5 (wo_ (an_ (v := (ah_ (.slice z1 m1 k1) ((i1 : Int)) (Enc.sz Aid))) (e := x5) rfl sh32 rfl (h0_.elem I5.in_ hx5) (fun u3 hu3 => ?_))))
   obtain ⟨c3, e18, r3⟩ := Aid.inv hu3
   subst e18
   obtain ⟨z4, m4, k4, rfl⟩ := ad_ r3
   obtain ⟨x6, hx6, h1⟩ := bnd h1
   refine wo_ (jq_ (v := v1) (u := (.agg #[(vi x5.Lock), (vi x5.Clue.Kind), (vi x5.Clue.A), (vi x5.Clue.B), (vi x5.Clue.N), (vi x5.Clue.M), (.slice z4 m4 k4), (vb x5.Clue.Not)])) (r := x6) rfl rfl h1_ rfl (Aid.rv (s := x5) r3) hx6 I5 (fun w3 I6 => (ae_ ?_)))
   rcases ifs h1 with ⟨hc3, h1⟩ | ⟨hc3, h1⟩
   ·
    refine ai_ (b := x6) rfl hc3 (ab_ (aa_ (wm_ (v := (vi (i1 : Int))) rfl rfl (wa_ (v := (vi (i1 : Int))) rfl rfl (ae_ (al_ ?_))))))
    obtain rfl := sj h1
    obtain rfl := (hout1 _ rfl)
    have h2 := h
    obtain rfl := sj h2
    exact ⟨ed3, (vi (i1 : Int)), (br_ rfl rfl), _, [], lr, I6, rfl, rfl⟩
   refine am_ (b := x6) rfl hc3 (av_ (aa_ (wo_ (bq_ (a := (i1 : Int)) (b := 1) rfl e17 rfl (wm_ (v := (vi (w64 ((i1 : Int) + 1)))) rfl rfl (ae_ ?_))))))
   obtain rfl := sj h1
   exact ⟨_, rfl, I6, e14, e15, e16, (bo_ hlt1 hk1), ed3⟩
  rintro s2 f w hs1 hI2
  obtain ⟨I7, e20, e21, e22, e23, ed4⟩ := hI2
  refine ab_ (aa_ (wo_ (bg_ (a := (a0.length : Int)) (b := (a0.length : Int)) rfl e23 e22 (ae_ (ab_ (am_ (b := decide ((a0.length : Int) < (a0.length : Int))) rfl (gr_ _) (bl_ ?_)))))))
  exact ⟨s2, hs1, I7, e20, e21, e22, ed4⟩
 rintro f w ⟨out1, rfl, I8, e24, e25, e26, ed5⟩
 have h := eh_ h
 refine ab_ (aa_ (wa_ (v := (vi ((-1)))) rfl rfl (ae_ (al_ ?_))))
 obtain rfl := sj h
 exact ⟨ed5, (vi ((-1))), (br_ rfl rfl), _, [], lr, I8, rfl, rfl⟩
theorem kr_ {w : World} {S : PH} {Fr : List HP} {a0 : (List Aid)} {v0 : Value} {a1 : Aid → Option Bool} {v1 : Value} {r : Bool} (hI : Inv w S (Fr)) (h0_ : RV S v0 a0) (h1_ : FnV Try.prog S v1 a1) (h : dx_ a0 a1 = some r) :
    Calls Try.prog 89 [v0, v1].toArray w (ce_ S Fr (Value.bool (r))) := by
 unfold dx_ at h
 obtain ⟨z1, m1, k1, rfl⟩ := ad_ h0_
 refine au_ (n := 9) (vs := [(.slice z1 m1 k1), v1]) Try.func89 rfl rfl rfl (ab_ (aa_ (wa_ (v := (vb false)) rfl rfl (ae_ (ab_ (aa_ (wm_ (v := (.slice z1 m1 k1)) rfl rfl (wm_ (v := v1) rfl rfl ?_))))))))
 obtain ⟨x1, hx1, h⟩ := bnd h
 refine wo_ (aq_ (vs := [(.slice z1 m1 k1), v1]) (r := (vi x1)) rfl ca110 rfl (bt_ rfl rfl) hI (fun Fr_ hF_ => mj_ hF_ h0_ h1_ hx1) (fun w1 I1 => (wo_ (ku_ (a := x1) (b := 0) rfl rfl rfl (wa_ (v := (vb (decide (0 ≤ x1)))) rfl rfl (ae_ (al_ ?_)))))))
 obtain rfl := sj h
 exact ⟨rfl, (vb (decide (0 ≤ x1))), (br_ rfl rfl), _, [], lr, I1, rfl, rfl⟩
theorem ky_ {w : World} {S : PH} {Fr : List HP} {a0 : Riddle} {v0 : Value} {a1 : (List Aid)} {v1 : Value} {r : Int} (hI : Inv w S (Fr)) (h0_ : RV S v0 a0) (h1_ : RV S v1 a1) (h : et_ a0 a1 = some r) :
    Calls Try.prog 64 [v0, v1].toArray w (ce_ S Fr (Value.int .i64 (r))) := by
 unfold et_ at h
 obtain ⟨c1, c2, c3, c4, e1, r1, r2, r3, r4⟩ := Riddle.inv h0_
 subst e1
 obtain ⟨z1, m1, k1, rfl⟩ := ad_ r1
 obtain ⟨z2, m2, k2, rfl⟩ := ad_ r2
 obtain ⟨z3, m3, k3, rfl⟩ := ad_ r3
 obtain ⟨z4, m4, k4, rfl⟩ := ad_ r4
 obtain ⟨z5, m5, k5, rfl⟩ := ad_ h1_
 refine au_ (n := 21) (vs := [(.agg #[(.slice z1 m1 k1), (.slice z2 m2 k2), (.slice z3 m3 k3), (.slice z4 m4 k4)]), (.slice z5 m5 k5)]) Try.func64 rfl rfl rfl (ab_ (aa_ (wo_ (bh_ (v := (.agg #[(.slice z1 m1 k1), (.slice z2 m2 k2), (.slice z3 m3 k3), (.slice z4 m4 k4)])) rfl hI rfl (fun g1 w1 I1 => ?_)))))
 obtain ⟨S1, le1, I2, p1⟩ := Inv.boxFreeze (x := a0) I1 (Riddle.rv (s := a0) r1 r2 r3 r4)
 refine wa_ (v := (vi 0)) rfl rfl (ae_ (ab_ (ab_ (aa_ (wo_ (an_ (v := (pt_ g1)) (e := a0) rfl hn_ rfl (p1.at_ I2) (fun u1 hu1 => ?_)))))))
 obtain ⟨c5, c6, c7, c8, e7, r5, r6, r7, r8⟩ := Riddle.inv hu1
 subst e7
 obtain ⟨z6, m6, k6, rfl⟩ := ad_ r5
 obtain ⟨z7, m7, k7, rfl⟩ := ad_ r6
 obtain ⟨z8, m8, k8, rfl⟩ := ad_ r7
 obtain ⟨z9, m9, k9, rfl⟩ := ad_ r8
 obtain ⟨x1, hx1, h⟩ := bnd h
 refine wo_ (bm_ (vs := [(.agg #[(.slice z6 m6 k6), (.slice z7 m7 k7), (.slice z8 m8 k8), (.slice z9 m9 k9)])]) rfl ca33 rfl (fs_ rfl) (fc_ I2 (Riddle.rv (s := a0) r5 r6 r7 r8) hx1) (fun cv1 w2 S2 O1 le2 I3 hv1 => ?_))
 obtain ⟨c9, rfl, rfl, r9⟩ := hv1
 refine wm_ (v := (Value.tuple #[c9, (vi x1.2)])) rfl rfl (wo_ (bd_ (v := c9) rfl rfl rfl (wo_ (bd_ (v := (vi x1.2)) rfl rfl rfl (wa_ (v := c9) rfl rfl (wa_ (v := (vi x1.2)) rfl rfl (ae_ (ab_ (aa_ (wm_ (v := (vi x1.2)) rfl rfl (wo_ (cd_ (a := x1.2) (b := 0) rfl rfl rfl (ae_ ?_)))))))))))))
 rcases ifs h with ⟨hc1, h⟩ | ⟨hc1, h⟩
 ·
  refine ai_ (b := x1.2 != 0) rfl hc1 (ab_ (aa_ (wm_ (v := (vi x1.2)) rfl rfl (wa_ (v := (vi x1.2)) rfl rfl (ae_ (al_ ?_))))))
  obtain rfl := sj h
  exact ⟨rfl, (vi x1.2), (br_ rfl rfl), _, [], (le1.trans le2), I3, rfl, rfl⟩
 refine am_ (b := x1.2 != 0) rfl hc1 (av_ (ab_ (ab_ (aa_ (wm_ (v := (.slice z5 m5 k5)) rfl rfl (wo_ (bb_ rfl Try.underlying44 rfl (h1_.mono (le1.trans le2)) (wo_ (mr_ (a := (a1.length : Int)) (b := 20) rfl rfl rfl (ae_ ?_))))))))))
 rcases ifs h with ⟨hc2, h⟩ | ⟨hc2, h⟩
 ·
  refine ai_ (b := decide (20 < (a1.length : Int))) rfl hc2 (ab_ (aa_ (wa_ (v := (vi 2)) rfl rfl (ae_ (al_ ?_)))))
  obtain rfl := sj h
  exact ⟨rfl, (vi 2), (br_ rfl rfl), _, [], (le1.trans le2), I3, rfl, rfl⟩
 refine am_ (b := decide (20 < (a1.length : Int))) rfl hc2 (av_ (ab_ (ab_ (aa_ (wm_ (v := (.slice z5 m5 k5)) rfl rfl (wo_ (ch_ (fv := #[]) (cv := #[(pt_ g1)]) rfl arr0 (arr1 rfl) ?_)))))))
 obtain ⟨x2, hx2, h⟩ := bnd h
 refine wo_ (aq_ (vs := [(.slice z5 m5 k5), (.func (.func 90) #[] #[(pt_ g1)])]) (r := (vb x2)) rfl ca89 rfl (bt_ rfl rfl) I3 (fun Fr_ hF_ => kr_ hF_ (h1_.mono (le1.trans le2)) ⟨90, [(pt_ g1)], rfl, ca90, fun T_ w_ Fr_ u_ x_ r_ hle_ hI_ hu_ hr_ => og_ hI_ hu_ ((p1.mono le2).mono hle_) hr_⟩ hx2) (fun w3 I4 => (ae_ ?_)))
 rcases ifs h with ⟨hc3, h⟩ | ⟨hc3, h⟩
 ·
  refine ai_ (b := x2) rfl hc3 (ab_ (aa_ (wa_ (v := (vi 70)) rfl rfl (ae_ (al_ ?_)))))
  obtain rfl := sj h
  exact ⟨rfl, (vi 70), (br_ rfl rfl), _, [], (le1.trans le2), I4, rfl, rfl⟩
 refine am_ (b := x2) rfl hc3 (av_ (ab_ (aa_ (wa_ (v := (vi 0)) rfl rfl (ae_ (al_ ?_))))))
 obtain rfl := sj h
 exact ⟨rfl, (vi 0), (br_ rfl rfl), _, [], (le1.trans le2), I4, rfl, rfl⟩
theorem la_ {w : World} {S : PH} {Fr : List HP} {a0 : Riddle} {v0 : Value} {a1 : (List Aid)} {v1 : Value} {a2 : Int} {r : Int} (hI : Inv w S (Fr)) (h0_ : RV S v0 a0) (h1_ : RV S v1 a1) (h : eu_ a0 a1 a2 = some r) :
    Calls Try.prog 60 [v0, v1, (Value.int .i64 (a2))].toArray w (ce_ S Fr (Value.int .i64 (r))) := by
 unfold eu_ at h
 obtain ⟨c1, c2, c3, c4, e1, r1, r2, r3, r4⟩ := Riddle.inv h0_
 subst e1
 obtain ⟨z1, m1, k1, rfl⟩ := ad_ r1
 obtain ⟨z2, m2, k2, rfl⟩ := ad_ r2
 obtain ⟨z3, m3, k3, rfl⟩ := ad_ r3
 obtain ⟨z4, m4, k4, rfl⟩ := ad_ r4
 obtain ⟨z5, m5, k5, rfl⟩ := ad_ h1_
 refine au_ (n := 21) (vs := [(.agg #[(.slice z1 m1 k1), (.slice z2 m2 k2), (.slice z3 m3 k3), (.slice z4 m4 k4)]), (.slice z5 m5 k5), (vi a2)]) Try.func60 rfl rfl rfl (ab_ (aa_ (wo_ (bh_ (v := (.agg #[(.slice z1 m1 k1), (.slice z2 m2 k2), (.slice z3 m3 k3), (.slice z4 m4 k4)])) rfl hI rfl (fun g1 w1 I1 => ?_)))))
 obtain ⟨S1, le1, I2, p1⟩ := Inv.boxFreeze (x := a0) I1 (Riddle.rv (s := a0) r1 r2 r3 r4)
 refine wa_ (v := (vi 0)) rfl rfl (ae_ (ab_ (ab_ (aa_ (wo_ (an_ (v := (pt_ g1)) (e := a0) rfl hn_ rfl (p1.at_ I2) (fun u1 hu1 => ?_)))))))
 obtain ⟨c5, c6, c7, c8, e7, r5, r6, r7, r8⟩ := Riddle.inv hu1
 subst e7
 obtain ⟨z6, m6, k6, rfl⟩ := ad_ r5
 obtain ⟨z7, m7, k7, rfl⟩ := ad_ r6
 obtain ⟨z8, m8, k8, rfl⟩ := ad_ r7
 obtain ⟨z9, m9, k9, rfl⟩ := ad_ r8
 refine wm_ (v := (.slice z5 m5 k5)) rfl rfl ?_
 obtain ⟨x1, hx1, h⟩ := bnd h
 refine wo_ (aq_ (vs := [(.agg #[(.slice z6 m6 k6), (.slice z7 m7 k7), (.slice z8 m8 k8), (.slice z9 m9 k9)]), (.slice z5 m5 k5)]) (r := (vi x1)) rfl ca64 rfl (bt_ rfl rfl) I2 (fun Fr_ hF_ => ky_ hF_ (Riddle.rv (s := a0) r5 r6 r7 r8) (h1_.mono le1) hx1) (fun w2 I3 => (wa_ (v := (vi x1)) rfl rfl (ae_ (ab_ (aa_ (wm_ (v := (vi x1)) rfl rfl (wo_ (cd_ (a := x1) (b := 0) rfl rfl rfl (ae_ ?_))))))))))
 rcases ifs h with ⟨hc1, h⟩ | ⟨hc1, h⟩
 ·
  refine ai_ (b := x1 != 0) rfl hc1 (ab_ (aa_ (wm_ (v := (vi x1)) rfl rfl (wa_ (v := (vi x1)) rfl rfl (ae_ (al_ ?_))))))
  obtain rfl := sj h
  exact ⟨rfl, (vi x1), (br_ rfl rfl), _, [], le1, I3, rfl, rfl⟩
 refine am_ (b := x1 != 0) rfl hc1 (av_ (ab_ (ab_ (aa_ (wm_ (v := (vi a2)) rfl rfl (wo_ (ac_ (v := (pt_ g1)) rfl eg_ rfl (p1.at_ I3) (wo_ (an_ (v := (af_ (pt_ g1) 0)) (e := a0.Locks) rfl pp_ rfl ((p1.at_ I3).fld Riddle.fld0) (fun u2 hu2 => ?_))))))))))
 obtain ⟨z10, m10, k10, rfl⟩ := ad_ hu2
 refine wo_ (bb_ rfl Try.underlying22 rfl hu2 (wo_ (ed_ (a := (a0.Locks.length : Int)) (b := 1) rfl rfl rfl ?_)))
 obtain ⟨x2, hx2, h⟩ := bnd h
 refine wo_ (aq_ (vs := [(vi a2), (vi 0), (vi (w64 ((a0.Locks.length : Int) - 1)))]) (r := (vb x2)) rfl ca39 rfl (cu_ rfl rfl rfl) I3 (fun Fr_ hF_ => bp_ hF_  hx2) (fun w3 I4 => (wo_ (cc_ (b := x2) rfl rfl (ae_ ?_)))))
 rcases ifs h with ⟨hc2, h⟩ | ⟨hc2, h⟩
 ·
  refine ai_ (b := !x2) rfl hc2 (ab_ (aa_ (wa_ (v := (vi 1)) rfl rfl (ae_ (al_ ?_)))))
  obtain rfl := sj h
  exact ⟨rfl, (vi 1), (br_ rfl rfl), _, [], le1, I4, rfl, rfl⟩
 refine am_ (b := !x2) rfl hc2 (av_ (ab_ (aa_ (wa_ (v := (vi 0)) rfl rfl (ae_ (al_ ?_))))))
 obtain rfl := sj h
 exact ⟨rfl, (vi 0), (br_ rfl rfl), _, [], le1, I4, rfl, rfl⟩
theorem ot_ {w : World} {S : PH} {Fr : List HP} {a0 : (List Int)} {v0 : Value} {a1 : (List Int)} {v1 : Value} {r : Bool} (hI : Inv w S (Fr)) (h0_ : RV S v0 a0) (h1_ : RV S v1 a1) (h : gu_ a0 a1 = some r) :
    Calls Try.prog 91 [v0, v1].toArray w (ce_ S Fr (Value.bool (r))) := by
 unfold gu_ at h
 obtain ⟨z1, m1, k1, rfl⟩ := ad_ h0_
 obtain ⟨z2, m2, k2, rfl⟩ := ad_ h1_
 refine au_ (n := 26) (vs := [(.slice z1 m1 k1), (.slice z2 m2 k2)]) Try.func91 rfl rfl rfl (ab_ (aa_ (wa_ (v := (vb false)) rfl rfl (ae_ (ab_ (ab_ (aa_ (wm_ (v := (.slice z1 m1 k1)) rfl rfl (wo_ (bb_ rfl Try.underlying28 rfl h0_ (wm_ (v := (.slice z2 m2 k2)) rfl rfl (wo_ (bb_ rfl Try.underlying28 rfl h1_ (wo_ (cd_ (a := (a0.length : Int)) (b := (a1.length : Int)) rfl rfl rfl (ae_ ?_))))))))))))))))
 rcases ifs h with ⟨hc1, h⟩ | ⟨hc1, h⟩
 ·
  refine ai_ (b := (a0.length : Int) != (a1.length : Int)) rfl hc1 (ab_ (aa_ (wa_ (v := (vb false)) rfl rfl (ae_ (al_ ?_)))))
  obtain rfl := sj h
  exact ⟨rfl, (vb false), (br_ rfl rfl), _, [], lr, hI, rfl, rfl⟩
 refine am_ (b := (a0.length : Int) != (a1.length : Int)) rfl hc1 (av_ (ab_ (ab_ (aa_ (wm_ (v := (.slice z1 m1 k1)) rfl rfl (wo_ (bb_ rfl Try.underlying28 rfl h0_ (wm_ (v := (vi 0)) rfl rfl (ae_ ?_)))))))))
 have hk1 : a0.length ≤ 9223372036854775807 := (ef_ h0_)
 obtain ⟨o2, hrun1, h⟩ := bnd h
 refine bu_ (fun f w => ∃ out1, o2 = Sum.inl out1 ∧ ∃ (S_ : PH), S.Le S_ ∧ Inv w S_ (Fr) ∧ f 0 = (.slice z1 m1 k1) ∧ f 1 = (.slice z2 m2 k2) ∧ f 12 = (vi ((a0.length : Int))) ∧ f.ds = []) ?_ ?_
 ·
  refine ay_ ?_
  refine ez_ (I := fun (i1 : Nat) (s1 : Unit) (f : Frm) (w : World) => ∃ (S_ : PH), S.Le S_ ∧ Inv w S_ (Fr) ∧ f 0 = (.slice z1 m1 k1) ∧ f 1 = (.slice z2 m2 k2) ∧ f 12 = (vi ((a0.length : Int))) ∧ f 13 = (vi (i1 : Int)) ∧ f.ds = []) hrun1 ⟨_, lr, hI, rfl, rfl, rfl, rfl, rfl⟩ ?_ ?_
  ·
   rintro i1 s1 f w o1 hlt1 hI31 h1 hout1
   obtain ⟨S33, le33, I34, e27, e28, e29, e30, ed7⟩ := hI31
   refine ab_ (aa_ (wo_ (bg_ (a := (i1 : Int)) (b := (a0.length : Int)) rfl e30 e29 (ae_ (ab_ (ai_ (b := decide ((i1 : Int) < (a0.length : Int))) rfl (gq_ hlt1) (av_ (ab_ (ay_ (ab_ (aa_ (wm_ (v := (vi (i1 : Int))) rfl e30 (wa_ (v := (vi (i1 : Int))) rfl rfl (ae_ (ab_ ?_)))))))))))))))
   obtain ⟨x7, hx7, h1⟩ := bnd h1
   obtain ⟨x8, hx8, h1⟩ := bnd h1
   refine bk_ (sps := [spV 16 [] 0 (.slice z1 m1 k1), spV 17 [] 1 (vi (i1 : Int)), spV 18 [0, 1] 2 (ah_ (.slice z1 m1 k1) ((i1 : Int)) (Enc.sz Int)), spV 19 [0, 1, 2] 3 (vi x7), spV 20 [] 4 (.slice z2 m2 k2), spV 21 [] 5 (vi (i1 : Int)), spV 22 [4, 5] 6 (ah_ (.slice z2 m2 k2) ((i1 : Int)) (Enc.sz Int)), spV 23 [4, 5, 6] 7 (vi x8), spV 24 (lrg 8) 8 (vb (x7 != x8))]) (tks := []) (O := Fr) rfl (by kernel_rfl) I34 ⟨?_, ?_, ?_, ?_, ?_, ?_, ?_, ?_, ?_, trivial⟩ ?_
   · exact fun vs f w U X l A K I => pl_ rfl (aw_ (v := (.slice z1 m1 k1)) rfl ((K 0 (ak_ rfl)).trans e27) (fn rfl rfl I))
   · exact fun vs f w U X l A K I => pl_ rfl (aw_ (v := (vi (i1 : Int))) rfl (K 5 (ak_ rfl)) (fn rfl rfl I))
   · exact fun vs f w U X l A K I => pl_ rfl (aj_ (v := (.slice z1 m1 k1)) (i := (i1 : Int)) (e := x7) rfl Try.underlying28 sh3 (A.u 0 rfl rfl rfl) (h0_.mono (le33.trans l)) (A.u 1 rfl rfl rfl) hx7 (fn rfl rfl I))
   · exact fun vs f w U X l A K I => pl_ rfl (ag_ (v := (ah_ (.slice z1 m1 k1) ((i1 : Int)) (Enc.sz Int))) (e := x7) rfl sh3 (A.u 2 rfl rfl rfl) ((h0_.mono (le33.trans l)).elem I.in_ hx7) (fn rfl rfl I))
   · exact fun vs f w U X l A K I => pl_ rfl (aw_ (v := (.slice z2 m2 k2)) rfl ((K 1 (ak_ rfl)).trans e28) (fn rfl rfl I))
   · exact fun vs f w U X l A K I => pl_ rfl (aw_ (v := (vi (i1 : Int))) rfl (K 5 (ak_ rfl)) (fn rfl rfl I))
   · exact fun vs f w U X l A K I => pl_ rfl (aj_ (v := (.slice z2 m2 k2)) (i := (i1 : Int)) (e := x8) rfl Try.underlying28 sh3 (A.u 0 rfl rfl rfl) (h1_.mono (le33.trans l)) (A.u 1 rfl rfl rfl) hx8 (fn rfl rfl I))
   · exact fun vs f w U X l A K I => pl_ rfl (ag_ (v := (ah_ (.slice z2 m2 k2) ((i1 : Int)) (Enc.sz Int))) (e := x8) rfl sh3 (A.u 2 rfl rfl rfl) ((h1_.mono (le33.trans l)).elem I.in_ hx8) (fn rfl rfl I))
   ·
    intro vs f w_ U X le A K I
    refine pl_ rfl (cd_ (a := x7) (b := x8) rfl (A.u 3 rfl rfl rfl) (A.u 7 rfl rfl rfl) (fn rfl rfl I))
   intro vs40 f w40 S43 ed8 le43 hF4 hK40 hI41
   have e31 : f 0 = (Value.slice z1 m1 k1) := (hK40 0 (ap_ rfl)).trans e27
   have e32 : f 1 = (Value.slice z2 m2 k2) := (hK40 1 (ap_ rfl)).trans e28
   have e33 : f 12 = (Value.int .i64 ((a0.length : Int))) := (hK40 12 (ap_ rfl)).trans e29
   have e34 : f 13 = (Value.int .i64 ((i1 : Int))) := (hK40 13 (ap_ rfl)).trans e30
   have I44 : Inv w40 S43 (Fr) := hI41
   have q36 := hF4.u 8 rfl rfl rfl
   rcases ifs h1 with ⟨hc5, h1⟩ | ⟨hc5, h1⟩
   ·
    refine ai_ (b := x7 != x8) q36 hc5 (ab_ (aa_ (wa_ (v := (vb false)) rfl rfl (ae_ (al_ ?_)))))
    obtain rfl := sj h1
    obtain rfl := (hout1 _ rfl)
    have h2 := h
    obtain rfl := sj h2
    exact ⟨(ed8.trans ed7), (vb false), (br_ rfl rfl), _, [], (le33.trans le43), I44, rfl, rfl⟩
   refine am_ (b := x7 != x8) q36 hc5 (av_ (aa_ (wo_ (bq_ (a := (i1 : Int)) (b := 1) rfl e34 rfl (wm_ (v := (vi (w64 ((i1 : Int) + 1)))) rfl rfl (ae_ ?_))))))
   obtain rfl := sj h1
   exact ⟨_, rfl, _, (le33.trans le43), I44, e31, e32, e33, (bo_ hlt1 hk1), (ed8.trans ed7)⟩
  rintro s2 f w hs1 hI42
  obtain ⟨S44, le44, I45, e35, e36, e37, e38, ed9⟩ := hI42
  refine ab_ (aa_ (wo_ (bg_ (a := (a0.length : Int)) (b := (a0.length : Int)) rfl e38 e37 (ae_ (ab_ (am_ (b := decide ((a0.length : Int) < (a0.length : Int))) rfl (gr_ _) (bl_ ?_)))))))
  exact ⟨s2, hs1, _, le44, I45, e35, e36, e37, ed9⟩
 rintro f w ⟨out1, rfl, S45, le45, I46, e39, e40, e41, ed10⟩
 have h := eh_ h
 refine ab_ (aa_ (wa_ (v := (vb true)) rfl rfl (ae_ (al_ ?_))))
 obtain rfl := sj h
 exact ⟨ed10, (vb true), (br_ rfl rfl), _, [], le45, I46, rfl, rfl⟩
theorem nk_ {w : World} {S : PH} {Fr : List HP} {a0 : Riddle} {v0 : Value} {a1 : Aid} {v1 : Value} {r : Int × Bool} (hI : Inv w S (Fr)) (h0_ : RV S v0 a0) (h1_ : RV S v1 a1) (h : ey_ a0 a1 = some r) :
    Calls Try.prog 67 [v0, v1].toArray w (ce_ S Fr (Value.tuple #[(Value.int .i64 (r.1)), (Value.bool (r.2))])) := by
 unfold ey_ at h
 obtain ⟨c1, c2, c3, c4, e1, r1, r2, r3, r4⟩ := Riddle.inv h0_
 subst e1
 obtain ⟨z1, m1, k1, rfl⟩ := ad_ r1
 obtain ⟨z2, m2, k2, rfl⟩ := ad_ r2
 obtain ⟨z3, m3, k3, rfl⟩ := ad_ r3
 obtain ⟨z4, m4, k4, rfl⟩ := ad_ r4
 obtain ⟨c5, e6, r5⟩ := Aid.inv h1_
 subst e6
 obtain ⟨z5, m5, k5, rfl⟩ := ad_ r5
 refine au_ (n := 34) (vs := [(.agg #[(.slice z1 m1 k1), (.slice z2 m2 k2), (.slice z3 m3 k3), (.slice z4 m4 k4)]), (.agg #[(vi a1.Lock), (vi a1.Clue.Kind), (vi a1.Clue.A), (vi a1.Clue.B), (vi a1.Clue.N), (vi a1.Clue.M), (.slice z5 m5 k5), (vb a1.Clue.Not)])]) Try.func67 rfl rfl rfl (ab_ (aa_ (wo_ (bh_ (v := (.agg #[(.slice z1 m1 k1), (.slice z2 m2 k2), (.slice z3 m3 k3), (.slice z4 m4 k4)])) rfl hI rfl (fun g1 w1 I1 => ?_)))))
 obtain ⟨S1, le1, I2, p1⟩ := Inv.boxFreeze (x := a0) I1 (Riddle.rv (s := a0) r1 r2 r3 r4)
 refine wo_ (bh_ (v := (.agg #[(vi a1.Lock), (vi a1.Clue.Kind), (vi a1.Clue.A), (vi a1.Clue.B), (vi a1.Clue.N), (vi a1.Clue.M), (.slice z5 m5 k5), (vb a1.Clue.Not)])) rfl I2 rfl (fun g2 w2 I3 => ?_))
 obtain ⟨S2, le2, I4, p2⟩ := Inv.boxFreeze (x := a1) I3 (Aid.rv (s := a1) (r5.mono le1))
 refine wa_ (v := (vi 0)) rfl rfl (wa_ (v := (vb false)) rfl rfl (ae_ (ab_ (aa_ (wo_ (an_ (v := (pt_ g1)) (e := a0) rfl hn_ rfl ((p1.mono le2).at_ I4) (fun u1 hu1 => ?_)))))))
 obtain ⟨c6, c7, c8, c9, e8, r6, r7, r8, r9⟩ := Riddle.inv hu1
 subst e8
 obtain ⟨z6, m6, k6, rfl⟩ := ad_ r6
 obtain ⟨z7, m7, k7, rfl⟩ := ad_ r7
 obtain ⟨z8, m8, k8, rfl⟩ := ad_ r8
 obtain ⟨z9, m9, k9, rfl⟩ := ad_ r9
 refine wo_ (an_ (v := (pt_ g2)) (e := a1) rfl sh32 rfl (p2.at_ I4) (fun u2 hu2 => ?_))
 obtain ⟨c10, e13, r10⟩ := Aid.inv hu2
 subst e13
 obtain ⟨z10, m10, k10, rfl⟩ := ad_ r10
 obtain ⟨x1, hx1, h⟩ := bnd h
 refine wo_ (bm_ (vs := [(.agg #[(.slice z6 m6 k6), (.slice z7 m7 k7), (.slice z8 m8 k8), (.slice z9 m9 k9)]), (.agg #[(vi a1.Lock), (vi a1.Clue.Kind), (vi a1.Clue.A), (vi a1.Clue.B), (vi a1.Clue.N), (vi a1.Clue.M), (.slice z10 m10 k10), (vb a1.Clue.Not)])]) rfl ca35 rfl (bt_ rfl rfl) (ic_ I4 (Riddle.rv (s := a0) r6 r7 r8 r9) (Aid.rv (s := a1) r10) hx1) (fun cv1 w3 S3 O1 le3 I5 hv1 => ?_))
 obtain ⟨c11, c12, rfl, rfl, r11, r12⟩ := hv1
 refine wm_ (v := (Value.tuple #[c11, c12, (vi x1.2.2)])) rfl rfl (wo_ (bd_ (v := c11) rfl rfl rfl (wo_ (bd_ (v := c12) rfl rfl rfl (wo_ (bd_ (v := (vi x1.2.2)) rfl rfl rfl (wa_ (v := c11) rfl rfl (wa_ (v := c12) rfl rfl (wa_ (v := (vi x1.2.2)) rfl rfl (ae_ (ab_ (ab_ ?_))))))))))))
 rcases ifs h with ⟨hc3, h⟩ | ⟨hc3, h⟩
 ·
  refine bk_ (sps := [spV 16 [] 0 (vi x1.2.2), spV 17 [0] 1 (vb (x1.2.2 != 0)), spV 18 [0, 1] 2 (vb (x1.2.2 != 0)), spV 19 [0, 1, 2] 3 undef, spV 20 [0, 1, 2] 4 undef, spV 21 [0, 1, 2, 3, 4] 5 undef, spV 22 [0, 1, 2] 6 undef, spV 23 [0, 1, 2, 6] 7 undef, spV 24 [0, 1, 2, 6, 7] 8 undef, spV 25 (lrg 9) 9 undef, spV 26 (lrg 10) 10 undef, spV 27 (lrg 11) 11 (vb true)]) (tks := []) (O := Fr) rfl (by kernel_rfl) I5 ⟨?_, ?_, ?_, ?_, ?_, ?_, ?_, ?_, ?_, ?_, ?_, ?_, trivial⟩ ?_
  · exact fun vs f w U X l A K I => pl_ rfl (aw_ (v := (vi x1.2.2)) rfl (K 8 (ak_ rfl)) (fn rfl rfl I))
  · exact fun vs f w U X l A K I => pl_ rfl (cd_ (a := x1.2.2) (b := 0) rfl (A.u 0 rfl rfl rfl) rfl (fn rfl rfl I))
  · exact fun vs f w U X l A K I => pl_ rfl (aw_ (v := (vb (x1.2.2 != 0))) rfl (A.u 1 rfl rfl rfl) (fn rfl rfl I))
  · exact fun vs f w U X l A K I => sk_ (c := x1.2.2 != 0) rfl (A.u 2 rfl rfl rfl) hc3 (fn rfl rfl I)
  · exact fun vs f w U X l A K I => sk_ (c := x1.2.2 != 0) rfl (A.u 2 rfl rfl rfl) hc3 (fn rfl rfl I)
  · exact fun vs f w U X l A K I => sk_ (c := x1.2.2 != 0) rfl (A.u 2 rfl rfl rfl) hc3 (fn rfl rfl I)
  · exact fun vs f w U X l A K I => sk_ (c := x1.2.2 != 0) rfl (A.u 2 rfl rfl rfl) hc3 (fn rfl rfl I)
  · exact fun vs f w U X l A K I => sk_ (c := x1.2.2 != 0) rfl (A.u 2 rfl rfl rfl) hc3 (fn rfl rfl I)
  · exact fun vs f w U X l A K I => sk_ (c := x1.2.2 != 0) rfl (A.u 2 rfl rfl rfl) hc3 (fn rfl rfl I)
  · exact fun vs f w U X l A K I => sk_ (c := x1.2.2 != 0) rfl (A.u 2 rfl rfl rfl) hc3 (fn rfl rfl I)
  · exact fun vs f w U X l A K I => sk_ (c := x1.2.2 != 0) rfl (A.u 2 rfl rfl rfl) hc3 (fn rfl rfl I)
  ·
   intro vs f w_ U X le A K I
   refine pl_ rfl (ax_ (c := x1.2.2 != 0) (a := (vb true)) rfl (A.u 2 rfl rfl rfl) hc3 rfl (fn rfl rfl I))
  intro vs39 f w47 S47 ed3 le47 hF3 hK39 hI39
  have e24 : f 3 = (Value.pointer (some ⟨g2, 0, none⟩)) := (hK39 3 (ap_ rfl)).trans rfl
  have e25 : f 7 = c12 := (hK39 7 (ap_ rfl)).trans rfl
  have I57 : Inv w47 S47 (Fr) := hI39
  have q62 := hF3.u 11 rfl rfl rfl
  refine ai_ (b := true) q62 rfl (ab_ (aa_ (wa_ (v := (vi 0)) rfl rfl (wa_ (v := (vb false)) rfl rfl (ae_ (al_ ?_))))))
  obtain rfl := sj h
  exact ⟨(ed3.trans rfl), (Value.tuple #[(vi 0), (vb false)]), (ox_ rfl rfl rfl), _, [], (((le1.trans le2).trans le3).trans le47), I57, rfl, rfl⟩
 obtain ⟨x6, hx6, h⟩ := bnd h
 obtain ⟨x7, hx7, h⟩ := bnd h
 obtain ⟨x8, hx8, h⟩ := bnd h
 obtain ⟨x9, hx9, h⟩ := bnd h
 refine bk_ (sps := [spV 16 [] 0 (vi x1.2.2), spV 17 [0] 1 (vb (x1.2.2 != 0)), spV 18 [0, 1] 2 (vb (x1.2.2 != 0)), spV 19 [0, 1, 2] 3 c11, spV 20 [0, 1, 2] 4 c12, ⟨some 21, [0, 1, 2, 3, 4], [5], fun vs_ T_ => ∃ (a0_ : Option Addr) (n0_ k0_ : Nat), fr0 vs_ 0 = (.slice a0_ n0_ k0_), [], [], [0], fun _ h_ => h_⟩, spV 22 [0, 1, 2] 6 (af_ (pt_ g2) 0), spV 23 [0, 1, 2, 6] 7 (vi a1.Lock), ⟨some 24, [0, 1, 2, 6, 7], [8], fun vs_ T_ => ∃ a_ n_ k_, fr0 vs_ 0 = Value.slice a_ n_ k_, [], [], [1], fun _ h_ => h_⟩, ⟨some 25, (lrg 9), [9], fun vs_ T_ => fr0 vs_ 0 = (vb x9), [0, 1], [], [], fun _ h_ => h_⟩, spV 26 (lrg 10) 10 (vb (!x9)), spV 27 (lrg 11) 11 (vb (!x9))]) (tks := [⟨some 5, none, [5], fun vs_ => Row (α := Int) 3 (fr0 vs_ 0) (x8)⟩, ⟨some 8, none, [8], fun vs_ => Row (α := Int) 3 (fr0 vs_ 0) (([a1.Lock] : List Int))⟩]) (O := Fr) rfl (by kernel_rfl) I5 ⟨?_, ?_, ?_, ?_, ?_, ?_, ?_, ?_, ?_, ?_, ?_, ?_, trivial⟩ ?_
 · exact fun vs f w U X l A K I => pl_ rfl (aw_ (v := (vi x1.2.2)) rfl (K 8 (ak_ rfl)) (fn rfl rfl I))
 · exact fun vs f w U X l A K I => pl_ rfl (cd_ (a := x1.2.2) (b := 0) rfl (A.u 0 rfl rfl rfl) rfl (fn rfl rfl I))
 · exact fun vs f w U X l A K I => pl_ rfl (aw_ (v := (vb (x1.2.2 != 0))) rfl (A.u 1 rfl rfl rfl) (fn rfl rfl I))
 · exact fun vs f w U X l A K I => tk_ (c := x1.2.2 != 0) rfl (A.u 2 rfl rfl rfl) hc3 (aw_ (v := c11) rfl (K 6 (ak_ rfl)) (fn rfl rfl I))
 · exact fun vs f w U X l A K I => tk_ (c := x1.2.2 != 0) rfl (A.u 2 rfl rfl rfl) hc3 (aw_ (v := c12) rfl (K 7 (ak_ rfl)) (fn rfl rfl I))
 ·
  intro vs f w_ U X le A K I
  have q67 := A.u 2 rfl rfl rfl
  have q68 := A.u 3 rfl rfl rfl
  have q69 := A.u 4 rfl rfl rfl
  refine tk_ (c := x1.2.2 != 0) rfl q67 hc3 (bm_ (vs := [c11, c12]) rfl ca37 rfl (bt_ q68 q69) (kg_ I ((kb_ r11 hx6).mono le) ((kb_ r12 hx7).mono le) hx8) (fun cv6 w56 S56 O6 le56 I68 hv6 => ?_))
  obtain ⟨z17, m17, k17, rfl, rfl⟩ := hv6
  refine ⟨_, _, rfl, le56, ?_, ?_⟩
  · exact ⟨_, _, _, rfl⟩
  exact I68
 · exact fun vs f w U X l A K I => tk_ (c := x1.2.2 != 0) rfl (A.u 2 rfl rfl rfl) hc3 (ac_ (v := (pt_ g2)) rfl nn_ (K 3 (ak_ rfl)) ((p2.mono (le3.trans l)).at_ I) (fn rfl rfl I))
 · exact fun vs f w U X l A K I => tk_ (c := x1.2.2 != 0) rfl (A.u 2 rfl rfl rfl) hc3 (ag_ (v := (af_ (pt_ g2) 0)) (e := a1.Lock) rfl sh3 (A.u 3 rfl rfl rfl) (((p2.mono (le3.trans l)).at_ I).fld Aid.fld0) (fn rfl rfl I))
 ·
  intro vs f w_ U X le A K I
  have q73 := A.u 2 rfl rfl rfl
  have q74 := A.u 4 rfl rfl rfl
  refine tk_ (c := x1.2.2 != 0) rfl q73 hc3 (bi_ (vs := [(vi a1.Lock)]) (r := ([a1.Lock] : List Int)) rfl Try.underlying28 el3 (ij_ q74) rfl (by decide) (by decide) ⟨(ec_ _), trivial⟩ I (fun u6 w60 I72 => ?_))
  obtain ⟨z18, m18, k18, e26⟩ := bj_ I72
  subst e26
  refine ⟨_, _, rfl, lr, ?_, ?_⟩
  · exact ⟨_, _, _, rfl⟩
  exact I72
 ·
  intro vs f w_ U X le A K I
  have I73 : Inv w_ U (Row (α := Int) 3 (vs 5) (x8) :: Row (α := Int) 3 (vs 8) (([a1.Lock] : List Int)) :: X) := I
  have q75 := A.u 2 rfl rfl rfl
  obtain ⟨z19, m19, k19, e27⟩ := (A.at_ 5 rfl _ rfl).2
  have e27 : vs 5 = (Value.slice z19 m19 k19) := e27
  have q76 : f 21 = (Value.slice z19 m19 k19) := ((A.at_ 5 rfl _ rfl).1 _ rfl).trans e27
  have I74 := I73
  rw [e27] at I74
  obtain ⟨z20, m20, k20, e28⟩ := (A.at_ 8 rfl _ rfl).2
  have q77 : f 24 = Value.slice z20 m20 k20 := ((A.at_ 8 rfl _ rfl).1 _ rfl).trans e28
  have e28 : vs 8 = (Value.slice z20 m20 k20) := e28
  have I75 := I74
  rw [e28] at I75
  obtain ⟨S61, Fr4, le61, I76, r19, r20, bk4⟩ := Inv.lend2 ((I75.pull 1).pull 1)
  refine tk_ (c := x1.2.2 != 0) rfl q75 hc3 (bm_ (vs := [(.slice z19 m19 k19), (.slice z20 m20 k20)]) rfl ca91 rfl (bt_ q76 q77) (ot_ I76 r19 r20 hx9) (fun cv7 w62 S62 O7 le62 I78 hv7 => ?_))
  obtain ⟨rfl, rfl⟩ := hv7
  have I77 := bk4 [] trivial I78 le62
  refine ⟨_, _, rfl, lr, ?_, ?_⟩
  · exact rfl
  show Inv _ _ (Row (α := Int) 3 (vs 5) (x8) :: Row (α := Int) 3 (vs 8) (([a1.Lock] : List Int)) :: X)
  simp only [e27, e28]
  exact ((I77.pull 1).pull 1)
 · exact fun vs f w U X l A K I => tk_ (c := x1.2.2 != 0) rfl (A.u 2 rfl rfl rfl) hc3 (cc_ (b := x9) rfl (A.u 9 rfl rfl rfl) (fn rfl rfl I))
 ·
  intro vs f w_ U X le A K I
  refine pl_ rfl (ar_ (c := x1.2.2 != 0) (b := (vb (!x9))) rfl (A.u 2 rfl rfl rfl) hc3 (A.u 10 rfl rfl rfl) (fn rfl rfl I))
 intro vs52 f w66 S65 ed4 le65 hF4 hK52 hI52
 have e29 : f 3 = (Value.pointer (some ⟨g2, 0, none⟩)) := (hK52 3 (ap_ rfl)).trans rfl
 have e30 : f 7 = c12 := (hK52 7 (ap_ rfl)).trans rfl
 have I81 : Inv w66 S65 (Row (α := Int) 3 (vs52 5) (x8) :: Row (α := Int) 3 (vs52 8) (([a1.Lock] : List Int)) :: Fr) := hI52
 obtain ⟨z21, m21, k21, e31⟩ := (hF4.at_ 5 rfl _ rfl).2
 have e31 : vs52 5 = (Value.slice z21 m21 k21) := e31
 have q82 : f 21 = (Value.slice z21 m21 k21) := ((hF4.at_ 5 rfl _ rfl).1 _ rfl).trans e31
 have I82 := I81
 rw [e31] at I82
 obtain ⟨z22, m22, k22, e32⟩ := (hF4.at_ 8 rfl _ rfl).2
 have q83 : f 24 = Value.slice z22 m22 k22 := ((hF4.at_ 8 rfl _ rfl).1 _ rfl).trans e32
 have e32 : vs52 8 = (Value.slice z22 m22 k22) := e32
 have I83 := I82
 rw [e32] at I83
 have q84 := hF4.u 11 rfl rfl rfl
 rcases ifs h with ⟨hc4, h⟩ | ⟨hc4, h⟩
 ·
  refine ai_ (b := !x9) q84 hc4 (ab_ (aa_ (wa_ (v := (vi 0)) rfl rfl (wa_ (v := (vb false)) rfl rfl (ae_ (al_ ?_))))))
  obtain rfl := sj h
  exact ⟨(ed4.trans rfl), (Value.tuple #[(vi 0), (vb false)]), (ox_ rfl rfl rfl), _, [], (((le1.trans le2).trans le3).trans le65), ((I83).drop).drop, rfl, rfl⟩
 refine am_ (b := !x9) q84 hc4 (av_ (ab_ ?_))
 obtain ⟨x10, hx10, h⟩ := bnd h
 obtain ⟨x11, hx11, h⟩ := bnd h
 obtain ⟨x12, hx12, h⟩ := bnd h
 refine bk_ (sps := [spV 28 [] 0 c12, ⟨some 29, [0], [1], fun vs_ T_ => ∃ (a0_ : Option Addr) (n0_ k0_ : Nat), fr0 vs_ 0 = (.slice a0_ n0_ k0_), [], [], [0], fun _ h_ => h_⟩, spV 30 [] 2 (af_ (pt_ g2) 0), spV 31 [2] 3 (vi a1.Lock), ⟨some 32, [0, 1, 2, 3], [4, 1], fun vs_ T_ => fr0 vs_ 0 = (ah_ (fr0 vs_ 1) (a1.Lock) (Enc.sz Int)), [0], [], [], fun _ h_ => h_⟩, ⟨some 33, [0, 1, 2, 3, 4], [5], fun vs_ T_ => fr0 vs_ 0 = (vi x12), [0], [], [], fun _ h_ => h_⟩, spV 4 (lrg 6) 6 (vi x12), spV 5 (lrg 7) 7 (vb true)]) (tks := [⟨some 1, none, [1], fun vs_ => Row (α := Int) 3 (fr0 vs_ 0) (x11)⟩]) (O := Row (α := Int) 3 (.slice z21 m21 k21) (x8) :: Row (α := Int) 3 (.slice z22 m22 k22) (([a1.Lock] : List Int)) :: Fr) rfl (by kernel_rfl) I83 ⟨?_, ?_, ?_, ?_, ?_, ?_, ?_, ?_, trivial⟩ ?_
 · exact fun vs f w U X l A K I => pl_ rfl (aw_ (v := c12) rfl ((K 7 (ak_ rfl)).trans e30) (fn rfl rfl I))
 ·
  intro vs f w_ U X le A K I
  have q85 := A.u 0 rfl rfl rfl
  refine pl_ rfl (bm_ (vs := [c12]) rfl ca56 rfl (fs_ q85) (er_ I ((kb_ r12 hx10).mono (le65.trans le)) hx11) (fun cv8 w69 S68 O8 le68 I86 hv8 => ?_))
  obtain ⟨z23, m23, k23, rfl, rfl⟩ := hv8
  refine ⟨_, _, rfl, le68, ?_, ?_⟩
  · exact ⟨_, _, _, rfl⟩
  exact I86
 · exact fun vs f w U X l A K I => pl_ rfl (ac_ (v := (pt_ g2)) rfl nn_ ((K 3 (ak_ rfl)).trans e29) ((p2.mono ((le3.trans le65).trans l)).at_ I) (fn rfl rfl I))
 · exact fun vs f w U X l A K I => pl_ rfl (ag_ (v := (af_ (pt_ g2) 0)) (e := a1.Lock) rfl sh3 (A.u 0 rfl rfl rfl) (((p2.mono ((le3.trans le65).trans l)).at_ I).fld Aid.fld0) (fn rfl rfl I))
 ·
  intro vs f w_ U X le A K I
  have I89 : Inv w_ U (Row (α := Int) 3 (vs 1) (x11) :: X) := I
  obtain ⟨z24, m24, k24, e33⟩ := (A.at_ 1 rfl _ rfl).2
  have e33 : vs 1 = (Value.slice z24 m24 k24) := e33
  have q87 : f 29 = (Value.slice z24 m24 k24) := ((A.at_ 1 rfl _ rfl).1 _ rfl).trans e33
  have I90 := I89
  rw [e33] at I90
  have q88 := A.u 3 rfl rfl rfl
  refine pl_ rfl (bf_ (v := (.slice z24 m24 k24)) (i := a1.Lock) (e := x12) rfl Try.underlying28 sh3 q87 (Inv.rowSrc (I90.nth 0 rfl)) q88 hx12 (⟨_, _, rfl, lr, ?_, ?_⟩))
  ·
   show (ah_ (Value.slice z24 m24 k24) (a1.Lock) (Enc.sz Int)) = (ah_ (vs 1) (a1.Lock) (Enc.sz Int))
   simp only [e33] <;> rfl
  show Inv _ _ (Row (α := Int) 3 (vs 1) (x11) :: X)
  simp only [e33]
  exact I90
 ·
  intro vs f w_ U X le A K I
  have I91 : Inv w_ U (Row (α := Int) 3 (vs 1) (x11) :: X) := I
  obtain ⟨z25, m25, k25, e34⟩ := (A.at_ 1 rfl _ rfl).2
  have e34 : vs 1 = (Value.slice z25 m25 k25) := e34
  have q89 : f 29 = (Value.slice z25 m25 k25) := ((A.at_ 1 rfl _ rfl).1 _ rfl).trans e34
  have I92 := I91
  rw [e34] at I92
  have q90 := A.u 3 rfl rfl rfl
  have q91 : f 32 = (ah_ (vs 1) (a1.Lock) (Enc.sz Int)) := A.u 4 rfl rfl rfl
  simp only [e34] at q91
  have q91 : f 32 = (ah_ (Value.slice z25 m25 k25) (a1.Lock) (Enc.sz Int)) := q91
  refine pl_ rfl (ag_ (v := (ah_ (.slice z25 m25 k25) (a1.Lock) (Enc.sz Int))) (e := x12) rfl sh3 q91 ((I92.nth 0 rfl).rowElem hx12) (⟨_, _, rfl, lr, ?_, ?_⟩))
  · exact rfl
  show Inv _ _ (Row (α := Int) 3 (vs 1) (x11) :: X)
  simp only [e34]
  exact I92
 · exact fun vs f w U X l A K I => pl_ rfl (bs_ (v := (vi x12)) rfl (A.u 5 rfl rfl rfl) (fn rfl rfl I))
 ·
  intro vs f w_ U X le A K I
  refine pl_ rfl (bs_ (v := (vb true)) rfl rfl (fn rfl rfl I))
 intro vs61 f w76 S75 ed5 le75 hF5 hK61 hI61
 have I95 : Inv w76 S75 (Row (α := Int) 3 (vs61 1) (x11) :: Row (α := Int) 3 (Value.slice z21 m21 k21) (x8) :: Row (α := Int) 3 (Value.slice z22 m22 k22) (([a1.Lock] : List Int)) :: Fr) := hI61
 obtain ⟨z26, m26, k26, e35⟩ := (hF5.at_ 1 rfl _ rfl).2
 have e35 : vs61 1 = (Value.slice z26 m26 k26) := e35
 have q93 : f 29 = (Value.slice z26 m26 k26) := ((hF5.at_ 1 rfl _ rfl).1 _ rfl).trans e35
 have I96 := I95
 rw [e35] at I96
 have q94 := hF5.u 6 rfl rfl rfl
 have q95 := hF5.u 7 rfl rfl rfl
 refine al_ ?_
 obtain rfl := sj h
 exact ⟨(ed5.trans (ed4.trans rfl)), (Value.tuple #[(vi x12), (vb true)]), (ox_ rfl q94 q95), _, [], ((((le1.trans le2).trans le3).trans le65).trans le75), (((I96).drop).drop).drop, rfl, rfl⟩
theorem kw_ {w : World} {S : PH} {Fr : List HP} {σ_ : Type} {τ_ : Type} {R_ : σ_ → HP} {Rx_ : τ_ → HP} {a0 : (Int × Int) → σ_ → Option (σ_ ⊕ τ_)} {v0 : Value} {a1 : (List Aid)} {v1 : Value} {a2 : Int} {v2 : Value} {a3 : Riddle} {v3 : Value} {s_ : σ_} {r : (σ_ ⊕ τ_)} (hI : Inv w S (R_ (s_) :: Fr)) (o0_ : v0.oneCell' = true) (h0_ : Yields argII Try.prog S v0 R_ Rx_ a0) (h1_ : PtS S v1 a1) (h2_ : PtS S v2 a2) (h3_ : PtS S v3 a3) (h : dp_ a0 a1 a2 a3 s_ = some r) :
    Calls Try.prog 92 [v0, v1, v2, v3].toArray w (mu_ S Fr (fun T_ v_ O_ => v_ = (Value.tuple #[]) ∧ O_ = [Sum.elim R_ Rx_ (r)])) := by
 unfold dp_ at h
 refine au_ (n := 35) (vs := [v0, v1, v2, v3]) Try.func92 rfl rfl rfl (ab_ (aa_ (wo_ (an_ (v := v1) (e := a1) rfl sh44 rfl (h1_.at_ hI) (fun u1 hu1 => ?_)))))
 obtain ⟨z1, m1, k1, rfl⟩ := ad_ hu1
 refine wo_ (bb_ rfl Try.underlying44 rfl hu1 (wm_ (v := (vi 0)) rfl rfl (ae_ ?_)))
 have hk1 : a1.length ≤ 9223372036854775807 := (ef_ hu1)
 obtain ⟨o2, hrun1, h⟩ := bnd h
 refine bu_ (fun f w => ∃ out1, o2 = Sum.inl out1 ∧ ∃ (S_ : PH), S.Le S_ ∧ Inv w S_ (R_ (out1) :: Fr) ∧ f 0 = v0 ∧ f 2 = v2 ∧ f 3 = v3 ∧ f 9 = (.slice z1 m1 k1) ∧ f 10 = (vi ((a1.length : Int))) ∧ f.ds = []) ?_ ?_
 ·
  refine ay_ ?_
  refine ez_ (I := fun (i1 : Nat) (s4 : (σ_)) (f : Frm) (w : World) => ∃ (S_ : PH), S.Le S_ ∧ Inv w S_ (R_ (s4) :: Fr) ∧ f 0 = v0 ∧ f 2 = v2 ∧ f 3 = v3 ∧ f 9 = (.slice z1 m1 k1) ∧ f 10 = (vi ((a1.length : Int))) ∧ f 11 = (vi (i1 : Int)) ∧ f.ds = []) hrun1 ⟨_, lr, hI, rfl, rfl, rfl, rfl, rfl, rfl, rfl⟩ ?_ ?_
  ·
   rintro i1 s4 f w o1 hlt1 hI1 h1 hout1
   obtain ⟨S6, le6, I19, e41, e42, e43, e44, e45, e46, ed4⟩ := hI1
   refine ab_ (aa_ (wo_ (bg_ (a := (i1 : Int)) (b := (a1.length : Int)) rfl e46 e45 (ae_ (ab_ (ai_ (b := decide ((i1 : Int) < (a1.length : Int))) rfl (gq_ hlt1) (av_ (ab_ (ay_ (ab_ (aa_ (wm_ (v := (vi (i1 : Int))) rfl e46 ?_))))))))))))
   obtain ⟨x10, hx10, h1⟩ := bnd h1
   refine wo_ (aj_ (v := (.slice z1 m1 k1)) (i := (i1 : Int)) (e := x10) rfl Try.underlying44 sh32 e44 (hu1.mono le6) e46 hx10 (wo_ (an_ (v := (ah_ (.slice z1 m1 k1) ((i1 : Int)) (Enc.sz Aid))) (e := x10) rfl sh32 rfl ((hu1.mono le6).elem I19.in_ hx10) (fun u8 hu8 => ?_))))
   obtain ⟨c16, e47, r16⟩ := Aid.inv hu8
   subst e47
   obtain ⟨z17, m17, k17, rfl⟩ := ad_ r16
   refine wo_ (bv_ (z := (.agg #[(vi 0), (vi 0), (vi 0), (vi 0), (vi 0), (vi 0), (.slice none 0 0), (vb false)])) rfl I19 zo32 (fun g4 w13 (I20 : Inv w13 S6 (ao_ g4 32 #[(vi 0), (vi 0), (vi 0), (vi 0), (vi 0), (vi 0), (.slice none 0 0), (vb false)] :: R_ (s4) :: Fr)) => (wa_ (v := (vi (i1 : Int))) rfl rfl (wo_ (bc_ (v := (.agg #[(vi x10.Lock), (vi x10.Clue.Kind), (vi x10.Clue.A), (vi x10.Clue.B), (vi x10.Clue.N), (vi x10.Clue.M), (.slice z17 m17 k17), (vb x10.Clue.Not)])) (cs := #[(vi 0), (vi 0), (vi 0), (vi 0), (vi 0), (vi 0), (.slice none 0 0), (vb false)]) sh32 I20 rfl rfl rfl (Nat.le_of_ble_eq_true rfl) rfl (fun w14 (I21 : Inv w14 S6 (ao_ g4 32 #[(vi x10.Lock), (vi x10.Clue.Kind), (vi x10.Clue.A), (vi x10.Clue.B), (vi x10.Clue.N), (vi x10.Clue.M), (.slice z17 m17 k17), (vb x10.Clue.Not)] :: R_ (s4) :: Fr)) => (ae_ (ab_ (ab_ (aa_ (wo_ (az_ (v := (pt_ g4)) rfl nn_ rfl rfl (wo_ (be_ (c := (vi x10.Lock)) rfl sh3 (I21.nth 0 rfl) rfl rfl (wo_ (ag_ (v := v2) (e := a2) rfl sh3 e42 ((h2_.mono le6).at_ I21) (wo_ (cd_ (a := x10.Lock) (b := a2) rfl rfl rfl (ae_ ?_)))))))))))))))))))
   rcases ifs h1 with ⟨hc7, h1⟩ | ⟨hc7, h1⟩
   ·
    refine ai_ (b := x10.Lock != a2) rfl hc7 (bl_ (aa_ (wo_ (bq_ (a := (i1 : Int)) (b := 1) rfl e46 rfl (wm_ (v := (vi (w64 ((i1 : Int) + 1)))) rfl rfl (ae_ ?_))))))
    obtain rfl := sj h1
    exact ⟨_, rfl, _, le6, (I21).drop, e41, e42, e43, e44, e45, (bo_ hlt1 hk1), ed4⟩
   refine am_ (b := x10.Lock != a2) rfl hc7 (av_ (ab_ (aa_ (wo_ (an_ (v := v3) (e := a3) rfl hn_ e43 ((h3_.mono le6).at_ I21) (fun u9 hu9 => ?_))))))
   obtain ⟨c17, c18, c19, c20, e49, r17, r18, r19, r20⟩ := Riddle.inv hu9
   subst e49
   obtain ⟨z18, m18, k18, rfl⟩ := ad_ r17
   obtain ⟨z19, m19, k19, rfl⟩ := ad_ r18
   obtain ⟨z20, m20, k20, rfl⟩ := ad_ r19
   obtain ⟨z21, m21, k21, rfl⟩ := ad_ r20
   refine wo_ (cl_ (l := [(vi x10.Lock), (vi x10.Clue.Kind), (vi x10.Clue.A), (vi x10.Clue.B), (vi x10.Clue.N), (vi x10.Clue.M), (.slice z17 m17 k17), (vb x10.Clue.Not)]) rfl sh32 (I21.nth 0 rfl) rfl rfl rfl ?_)
   obtain ⟨x11, hx11, h1⟩ := bnd h1
   refine wo_ (aq_ (vs := [(.agg #[(.slice z18 m18 k18), (.slice z19 m19 k19), (.slice z20 m20 k20), (.slice z21 m21 k21)]), (.agg #[(vi x10.Lock), (vi x10.Clue.Kind), (vi x10.Clue.A), (vi x10.Clue.B), (vi x10.Clue.N), (vi x10.Clue.M), (.slice z17 m17 k17), (vb x10.Clue.Not)])]) (r := (Value.tuple #[(vi x11.1), (vb x11.2)])) rfl ca67 rfl (bt_ rfl rfl) I21 (fun Fr_ hF_ => nk_ hF_ (Riddle.rv (s := a3) r17 r18 r19 r20) (Aid.rv (s := x10) r16) hx11) (fun w15 I22 => (wm_ (v := (Value.tuple #[(vi x11.1), (vb x11.2)])) rfl rfl (wo_ (bd_ (v := (vi x11.1)) rfl rfl rfl (wo_ (bd_ (v := (vb x11.2)) rfl rfl rfl (wa_ (v := (vi x11.1)) rfl rfl (wa_ (v := (vb x11.2)) rfl rfl (ae_ (ab_ (aa_ (wm_ (v := (vb x11.2)) rfl rfl (wm_ (v := (vb x11.2)) rfl rfl ?_))))))))))))))
   rcases ifs h1 with ⟨hc8, h1⟩ | ⟨hc8, h1⟩
   ·
    refine wk_ (c := x11.2) rfl rfl hc8 (aw_ (v := v0) rfl e41 (wk_ (c := x11.2) rfl rfl hc8 (aw_ (v := (vi (i1 : Int))) rfl rfl (wk_ (c := x11.2) rfl rfl hc8 (aw_ (v := (vi x11.1)) rfl rfl ?_)))))
    obtain ⟨x12, hx12, h1⟩ := bnd h1
    refine wk_ (c := x11.2) rfl rfl hc8 (op_callV (vs := [(vi (i1 : Int)), (vi x11.1)]) rfl rfl (bt_ rfl rfl) (h0_ _ _ _ _ ((i1 : Int), x11.1) _ _ le6 rfl (I22.pull 1) hx12) (fun v4 w16 S7 O4 le7 I23 hv4 => ?_))
    obtain ⟨rfl, rfl⟩ := hv4
    have I24 : Inv w16 S7 (Sum.elim R_ Rx_ (x12) :: ao_ g4 32 #[(Value.int .i64 (x10.Lock)), (Value.int .i64 (x10.Clue.Kind)), (Value.int .i64 (x10.Clue.A)), (Value.int .i64 (x10.Clue.B)), (Value.int .i64 (x10.Clue.N)), (Value.int .i64 (x10.Clue.M)), (Value.slice z17 m17 k17), (Value.bool (x10.Clue.Not))] :: Fr) := I23
    refine wk_ (c := x11.2) rfl rfl hc8 (cc_ (b := x12.isLeft) rfl rfl (wo_ (ax_ (c := x11.2) (a := (vb (!x12.isLeft))) rfl rfl hc8 rfl (ae_ ?_))))
    rcases x12 with s5 | q4
    ·
     have h1 := sm_inl h1
     refine am_ (b := false) rfl rfl (av_ (aa_ (wo_ (bq_ (a := (i1 : Int)) (b := 1) rfl e46 rfl (wm_ (v := (vi (w64 ((i1 : Int) + 1)))) rfl rfl (ae_ ?_))))))
     obtain rfl := sj h1
     exact ⟨_, rfl, _, (le6.trans le7), (I24.pull 1).drop, e41, e42, e43, e44, e45, (bo_ hlt1 hk1), ed4⟩
    have h1 := sm_inr h1
    refine ai_ (b := true) rfl rfl (al_ ?_)
    obtain rfl := sj h1
    obtain rfl := (hout1 _ rfl)
    have h2 := h
    obtain rfl := sj h2
    exact ⟨ed4, (Value.tuple #[]), (res0 rfl), _, [Rx_ (q4)], (le6.trans le7), (I24.pull 1).drop, rfl, rfl⟩
   refine ws_ (c := x11.2) rfl rfl hc8 (ws_ (c := x11.2) rfl rfl hc8 (ws_ (c := x11.2) rfl rfl hc8 (ws_ (c := x11.2) rfl rfl hc8 (ws_ (c := x11.2) rfl rfl hc8 (wo_ (ar_ (c := x11.2) (b := (vb false)) rfl rfl hc8 rfl (ae_ (am_ (b := false) rfl rfl (av_ (aa_ (wo_ (bq_ (a := (i1 : Int)) (b := 1) rfl e46 rfl (wm_ (v := (vi (w64 ((i1 : Int) + 1)))) rfl rfl (ae_ ?_))))))))))))))
   obtain rfl := sj h1
   exact ⟨_, rfl, _, le6, (I22).drop, e41, e42, e43, e44, e45, (bo_ hlt1 hk1), ed4⟩
  rintro s6 f w hs1 hI2
  obtain ⟨S8, le8, I25, e54, e55, e56, e57, e58, e59, ed5⟩ := hI2
  refine ab_ (aa_ (wo_ (bg_ (a := (a1.length : Int)) (b := (a1.length : Int)) rfl e59 e58 (ae_ (ab_ (am_ (b := decide ((a1.length : Int) < (a1.length : Int))) rfl (gr_ _) (bl_ ?_)))))))
  exact ⟨s6, hs1, _, le8, I25, e54, e55, e56, e57, e58, ed5⟩
 rintro f w ⟨out1, rfl, S9, le9, I26, e60, e61, e62, e63, e64, ed6⟩
 have h := eh_ h
 obtain rfl := sj h
 exact ⟨ed6, (Value.tuple #[]), (res0 rfl), _, [R_ (out1)], le9, I26, rfl, rfl⟩
theorem mt_ {w : World} {S : PH} {Fr : List HP} {a0 : Riddle} {v0 : Value} {a1 : (List Aid)} {v1 : Value} {a2 : Int} {r : ((List Aid) × Int × Riddle)} (hI : Inv w S (Fr)) (h0_ : RV S v0 a0) (h1_ : RV S v1 a1) (h : gg_ a0 a1 a2 = some r) :
    Calls Try.prog 68 [v0, v1, (Value.int .i64 (a2))].toArray w (mu_ S Fr (fun T_ v_ O_ => ∃ (p0_0 : Value) (p0_1 : Value) (p0_2 : Value), v_ = (Value.func (.func 92) #[] #[p0_0, p0_1, p0_2]) ∧ O_ = [] ∧ PtS T_ p0_0 r.1 ∧ PtS T_ p0_1 r.2.1 ∧ PtS T_ p0_2 r.2.2)) := by
 unfold gg_ at h
 obtain ⟨c1, c2, c3, c4, e1, r1, r2, r3, r4⟩ := Riddle.inv h0_
 subst e1
 obtain ⟨z1, m1, k1, rfl⟩ := ad_ r1
 obtain ⟨z2, m2, k2, rfl⟩ := ad_ r2
 obtain ⟨z3, m3, k3, rfl⟩ := ad_ r3
 obtain ⟨z4, m4, k4, rfl⟩ := ad_ r4
 obtain ⟨z5, m5, k5, rfl⟩ := ad_ h1_
 refine au_ (n := 8) (vs := [(.agg #[(.slice z1 m1 k1), (.slice z2 m2 k2), (.slice z3 m3 k3), (.slice z4 m4 k4)]), (.slice z5 m5 k5), (vi a2)]) Try.func68 rfl rfl rfl (ab_ (aa_ (wo_ (bh_ (v := (.agg #[(.slice z1 m1 k1), (.slice z2 m2 k2), (.slice z3 m3 k3), (.slice z4 m4 k4)])) rfl hI rfl (fun g1 w1 I1 => ?_)))))
 obtain ⟨S1, le1, I2, p1⟩ := Inv.boxFreeze (x := a0) I1 (Riddle.rv (s := a0) r1 r2 r3 r4)
 refine wo_ (bh_ (v := (.slice z5 m5 k5)) rfl I2 rfl (fun g2 w2 I3 => ?_))
 obtain ⟨S2, le2, I4, p2⟩ := Inv.boxFreeze (x := a1) I3 (h1_.mono le1)
 refine wo_ (bh_ (v := (vi a2)) rfl I4 rfl (fun g3 w3 I5 => ?_))
 obtain ⟨S3, le3, I6, p3⟩ := Inv.boxFreeze (x := a2) I5 (ec_ _)
 refine wa_ (v := (Value.nilFunc)) rfl rfl (ae_ (ab_ (aa_ (wo_ (ch_ (fv := #[]) (cv := #[(pt_ g2), (pt_ g3), (pt_ g1)]) rfl arr0 (arr3 rfl rfl rfl) (wa_ (v := (.func (.func 92) #[] #[(pt_ g2), (pt_ g3), (pt_ g1)])) rfl rfl (ae_ (al_ ?_))))))))
 obtain rfl := sj h
 exact ⟨rfl, (.func (.func 92) #[] #[(pt_ g2), (pt_ g3), (pt_ g1)]), (br_ rfl rfl), _, [], ((le1.trans le2).trans le3), I6, _, _, _, rfl, rfl, (p2.mono le3), p3, (p1.mono (le2.trans le3))⟩
theorem hints_pick_ok {w : World} {S : PH} {Fr : List HP} {a0 : Riddle} {v0 : Value} {a1 : (List Aid)} {v1 : Value} {a2 : Int} {a3 : Int → Int → Option Bool} {v3 : Value} {r : Int} (hI : Inv w S (Fr)) (h0_ : RV S v0 a0) (h1_ : RV S v1 a1) (h3_ : FnV2 Try.prog S v3 a3) (h : js_ a0 a1 a2 a3 = some r) :
    Calls Try.prog 61 [v0, v1, (Value.int .i64 (a2)), v3].toArray w (ce_ S Fr (Value.int .i64 (r))) := by
 unfold js_ at h
 obtain ⟨c1, c2, c3, c4, e1, r1, r2, r3, r4⟩ := Riddle.inv h0_
 subst e1
 obtain ⟨z1, m1, k1, rfl⟩ := ad_ r1
 obtain ⟨z2, m2, k2, rfl⟩ := ad_ r2
 obtain ⟨z3, m3, k3, rfl⟩ := ad_ r3
 obtain ⟨z4, m4, k4, rfl⟩ := ad_ r4
 obtain ⟨z5, m5, k5, rfl⟩ := ad_ h1_
 refine hl_ (n := 30) (vs := [(.agg #[(.slice z1 m1 k1), (.slice z2 m2 k2), (.slice z3 m3 k3), (.slice z4 m4 k4)]), (.slice z5 m5 k5), (vi a2), v3]) Try.func61 rfl rfl rfl ?_
 have I1 := Inv.noD hI
 refine ab_ (aa_ (wo_ (bh_ (v := (.agg #[(.slice z1 m1 k1), (.slice z2 m2 k2), (.slice z3 m3 k3), (.slice z4 m4 k4)])) rfl I1 rfl (fun g1 w1 I2 => ?_))))
 obtain ⟨S1, le1, I3, p1⟩ := Inv.boxFreeze (x := a0) I2 (Riddle.rv (s := a0) r1 r2 r3 r4)
 refine wo_ (bh_ (v := v3) rfl I3 rfl (fun g2 w2 I4 => ?_))
 obtain ⟨S2, le2, I5, p2⟩ := Inv.boxFreeze (x := (⟨v3⟩ : Raw)) I4 (ov_ (h3_.one))
 refine wa_ (v := (vi 0)) rfl rfl (ae_ (ab_ (aa_ (wo_ (bv_ (z := (vi 0)) rfl I5 zo3 (fun g3 w3 (I6 : Inv w3 S2 (ao_ g3 3 #[(vi 0)] :: od_ ([]) :: Fr)) => (wo_ (bv_ (z := (vi 0)) rfl I6 zo3 (fun g4 w4 (I7 : Inv w4 S2 (ao_ g4 3 #[(vi 0)] :: ao_ g3 3 #[(vi 0)] :: od_ ([]) :: Fr)) => (wo_ (bc_ (v := (vi ((-1)))) (cs := #[(vi 0)]) sh3 (I7.pull 1) rfl rfl rfl (Nat.le_of_ble_eq_true rfl) rfl (fun w5 (I8 : Inv w5 S2 (ao_ g3 3 #[(vi ((-1)))] :: ao_ g4 3 #[(vi 0)] :: od_ ([]) :: Fr)) => (wo_ (bc_ (v := (vi 0)) (cs := #[(vi 0)]) sh3 (I8.pull 1) rfl rfl rfl (Nat.le_of_ble_eq_true rfl) rfl (fun w6 (I9 : Inv w6 S2 (ao_ g4 3 #[(vi 0)] :: ao_ g3 3 #[(vi ((-1)))] :: od_ ([]) :: Fr)) => (ae_ (ab_ (ab_ (aa_ (wo_ (an_ (v := (pt_ g1)) (e := a0) rfl hn_ rfl ((p1.mono le2).at_ I9) (fun u1 hu1 => ?_))))))))))))))))))))))
 obtain ⟨c5, c6, c7, c8, e7, r5, r6, r7, r8⟩ := Riddle.inv hu1
 subst e7
 obtain ⟨z6, m6, k6, rfl⟩ := ad_ r5
 obtain ⟨z7, m7, k7, rfl⟩ := ad_ r6
 obtain ⟨z8, m8, k8, rfl⟩ := ad_ r7
 obtain ⟨z9, m9, k9, rfl⟩ := ad_ r8
 refine wm_ (v := (.slice z5 m5 k5)) rfl rfl (wm_ (v := (vi a2)) rfl rfl ?_)
 obtain ⟨x1, hx1, h⟩ := bnd h
 refine wo_ (bm_ (vs := [(.agg #[(.slice z6 m6 k6), (.slice z7 m7 k7), (.slice z8 m8 k8), (.slice z9 m9 k9)]), (.slice z5 m5 k5), (vi a2)]) rfl ca68 rfl (cu_ rfl rfl rfl) (mt_ I9 (Riddle.rv (s := a0) r5 r6 r7 r8) (h1_.mono (le1.trans le2)) hx1) (fun cv1 w7 S3 O1 le3 I10 hv1 => ?_))
 obtain ⟨p3, p4, p5, rfl, rfl, r9, r10, r11⟩ := hv1
 refine ae_ (ay_ ?_)
 obtain ⟨o2, hrun1, h⟩ := bnd h
 refine nv_ (M := argII) (F := (fun g_ s_ => dp_ g_ x1.1 x1.2.1 x1.2.2 s_)) (fun (s1 : (Int × Int)) => HPof fun S_ L_ => L_ = [ao_ g3 3 #[(vi s1.1)], ao_ g4 3 #[(vi s1.2)]]) (fun e=>by cases e) (fun _ => Code.ret) rfl rfl argII_len ⟨92, [], [p3, p4, p5], rfl, ca92, fun R_ Rx_ g_ T_ w_ Fr_ v_ s_ o_ hle_ ho_ hy_ hI_ h_ => Calls.doneMono (kw_ hI_ ho_ hy_ (r9.mono hle_) (r10.mono hle_) (r11.mono hle_) h_) fun _ _ _ hp_ => hp_.2⟩ (Inv.ofShut (L := [ao_ g3 3 #[(vi ((-1)))], ao_ g4 3 #[(vi 0)]]) rfl (I10.pull 1)) hrun1 ?_ ?_
 ·
  intro l1 rc1 S4 w23 us1 x6 s2 o3 G1 le4 hr1 hn1 hI1 h1
  obtain rfl := hr1
  obtain ⟨S5, L1, le5, rfl, I29⟩ := Inv.ofOpen (hI1.pull 1)
  have I30 : Inv w23 S4 (ao_ g3 3 #[(Value.int .i64 (s2.1))] :: ao_ g4 3 #[(Value.int .i64 (s2.2))] :: fl_ l1 rc1 :: G1) := I29
  refine ab_ (aa_ (wa_ (v := (vi x6.1)) rfl rfl (ae_ (aa_ (wa_ (v := (vi x6.2)) rfl rfl (ae_ (⟨_, _, lr, (I30.pull 2), fun w24 I31 => ?_⟩)))))))
  refine ay_ (ab_ (aa_ (wo_ (be_ (c := (vi s2.1)) rfl sh3 (I31.nth 1 rfl) rfl rfl (wo_ (bg_ (a := s2.1) (b := 0) rfl rfl rfl (wm_ (v := (vb (decide (s2.1 < 0)))) rfl rfl ?_)))))))
  rcases ifs h1 with ⟨hc7, h1⟩ | ⟨hc7, h1⟩
  ·
   refine ws_ (c := decide (s2.1 < 0)) rfl rfl hc7 (ws_ (c := decide (s2.1 < 0)) rfl rfl hc7 (ws_ (c := decide (s2.1 < 0)) rfl rfl hc7 (ws_ (c := decide (s2.1 < 0)) rfl rfl hc7 (wo_ (ax_ (c := decide (s2.1 < 0)) (a := (vb true)) rfl rfl hc7 rfl (ae_ (ai_ (b := true) rfl rfl (aa_ (wm_ (v := (vi x6.1)) rfl rfl (wm_ (v := (vi x6.2)) rfl rfl (wo_ (bc_ (v := (vi x6.1)) (cs := #[(vi s2.1)]) sh3 (I31.pull 1) rfl rfl rfl (Nat.le_of_ble_eq_true rfl) rfl (fun w25 (I32 : Inv w25 S4 (ao_ g3 3 #[(vi x6.1)] :: fl_ l1 { rc1 with state := .busy } :: ao_ g4 3 #[(vi s2.2)] :: G1)) => (wo_ (bc_ (v := (vi x6.2)) (cs := #[(vi s2.2)]) sh3 (I32.pull 2) rfl rfl rfl (Nat.le_of_ble_eq_true rfl) rfl (fun w26 (I33 : Inv w26 S4 (ao_ g4 3 #[(vi x6.2)] :: ao_ g3 3 #[(vi x6.1)] :: fl_ l1 { rc1 with state := .busy } :: G1)) => (ae_ ?_)))))))))))))))))
   obtain rfl := sj h1
   exact ⟨_, _, lr, rfl, (Inv.swap (Inv.ofShut (L := [ao_ g3 3 #[(vi x6.1)], ao_ g4 3 #[(vi x6.2)]]) rfl (((I33.pull 2).pull 1).pull 2)))⟩
  refine wk_ (c := decide (s2.1 < 0)) rfl rfl hc7 (an_ (v := (pt_ g2)) (e := (⟨v3⟩ : Raw)) rfl sh102 rfl ((p2.mono (le3.trans le4)).at_ I31) (fun u5 hu5 => ?_))
  have q_hu5 := rv_raw hu5
  subst u5
  refine wk_ (c := decide (s2.1 < 0)) rfl rfl hc7 (aw_ (v := (vi x6.2)) rfl rfl (wk_ (c := decide (s2.1 < 0)) rfl rfl hc7 (be_ (c := (vi s2.2)) rfl sh3 (I31.nth 2 rfl) rfl rfl ?_)))
  obtain ⟨x7, hx5, h1⟩ := bnd h1
  refine wk_ (c := decide (s2.1 < 0)) rfl rfl hc7 (op_call_fn2 (v := v3) (a := x6.2) (b := s2.2) (r := x7) rfl rfl (h3_.mono (((le1.trans le2).trans le3).trans le4)) rfl rfl hx5 I31 (fun w27 I34 => (wo_ (ar_ (c := decide (s2.1 < 0)) (b := (vb x7)) rfl rfl hc7 rfl (ae_ ?_)))))
  rcases ifs h1 with ⟨hc8, h1⟩ | ⟨hc8, h1⟩
  ·
   refine ai_ (b := x7) rfl hc8 (aa_ (wm_ (v := (vi x6.1)) rfl rfl (wm_ (v := (vi x6.2)) rfl rfl (wo_ (bc_ (v := (vi x6.1)) (cs := #[(vi s2.1)]) sh3 (I34.pull 1) rfl rfl rfl (Nat.le_of_ble_eq_true rfl) rfl (fun w28 (I35 : Inv w28 S4 (ao_ g3 3 #[(vi x6.1)] :: fl_ l1 { rc1 with state := .busy } :: ao_ g4 3 #[(vi s2.2)] :: G1)) => (wo_ (bc_ (v := (vi x6.2)) (cs := #[(vi s2.2)]) sh3 (I35.pull 2) rfl rfl rfl (Nat.le_of_ble_eq_true rfl) rfl (fun w29 (I36 : Inv w29 S4 (ao_ g4 3 #[(vi x6.2)] :: ao_ g3 3 #[(vi x6.1)] :: fl_ l1 { rc1 with state := .busy } :: G1)) => (ae_ ?_))))))))))
   obtain rfl := sj h1
   exact ⟨_, _, lr, rfl, (Inv.swap (Inv.ofShut (L := [ao_ g3 3 #[(vi x6.1)], ao_ g4 3 #[(vi x6.2)]]) rfl (((I36.pull 2).pull 1).pull 2)))⟩
  refine am_ (b := x7) rfl hc8 (av_ ?_)
  obtain rfl := sj h1
  exact ⟨_, _, lr, rfl, (Inv.swap (Inv.ofShut (L := [ao_ g3 3 #[(vi s2.1)], ao_ g4 3 #[(vi s2.2)]]) rfl ((I34.pull 2).pull 2)))⟩
 intro D1 w30 S6 le6 I37
 rcases o2 with s3 | q2
 ·
  obtain ⟨S7, L2, le7, rfl, I38⟩ := Inv.ofOpen I37
  have I39 : Inv w30 S6 (ao_ g3 3 #[(Value.int .i64 (s3.1))] :: ao_ g4 3 #[(Value.int .i64 (s3.2))] :: Dfr D1 :: od_ ([]) :: Fr) := I38
  have I40 := Inv.consD ((I39.pull 3).pull 3)
  have h := onE_inl h
  refine ly_ (ab_ (aa_ (wo_ (be_ (c := (vi s3.1)) rfl sh3 (I40.nth 1 rfl) rfl rfl (wa_ (v := (vi s3.1)) rfl rfl (ae_ (al_ (ret_m (pc_ rfl) I40 (fun w31 I41 => ?_)))))))))
  obtain rfl := sj h
  exact ⟨(vi s3.1), (br_ rfl rfl), _, [], (((le1.trans le2).trans le3).trans le6), ((I41).drop).drop, rfl, rfl⟩
 cases q2
theorem hints_more_ok {w : World} {S : PH} {Fr : List HP} {a0 : Int} {a1 : Int} {r : Bool} (hI : Inv w S (Fr))  (h : ma_ a0 a1 = some r) :
    Calls Try.prog 62 [(Value.int .i64 (a0)), (Value.int .i64 (a1))].toArray w (ce_ S Fr (Value.bool (r))) := by
 unfold ma_ at h
 refine au_ (n := 8) (vs := [(vi a0), (vi a1)]) Try.func62 rfl rfl rfl (ab_ (aa_ (wa_ (v := (vb false)) rfl rfl (ae_ (ab_ (aa_ (wm_ (v := (vi a0)) rfl rfl (wm_ (v := (vi a1)) rfl rfl (wo_ (mr_ (a := a0) (b := a1) rfl rfl rfl (wa_ (v := (vb (decide (a1 < a0)))) rfl rfl (ae_ (al_ ?_)))))))))))))
 obtain rfl := sj h
 exact ⟨rfl, (vb (decide (a1 < a0))), (br_ rfl rfl), _, [], lr, hI, rfl, rfl⟩
theorem hints_Ladder_ok {w : World} {S : PH} {Fr : List HP} {a0 : Riddle} {v0 : Value} {a1 : (List Aid)} {v1 : Value} {a2 : Int} {r : (List Int) × Int} (hI : Inv w S (Fr)) (h0_ : RV S v0 a0) (h1_ : RV S v1 a1) (h : jf_ a0 a1 a2 = some r) :
    Calls Try.prog 27 [v0, v1, (Value.int .i64 (a2))].toArray w (mu_ S Fr (fun T_ v_ O_ => ∃ (a0_ : Option Addr) (n0_ k0_ : Nat), v_ = (Value.tuple #[(Value.slice a0_ n0_ k0_), (Value.int .i64 (r.2))]) ∧ O_ = [Row (α := Int) 3 (Value.slice a0_ n0_ k0_) (r.1)])) := by
 unfold jf_ at h
 obtain ⟨c1, c2, c3, c4, e1, r1, r2, r3, r4⟩ := Riddle.inv h0_
 subst e1
 obtain ⟨z1, m1, k1, rfl⟩ := ad_ r1
 obtain ⟨z2, m2, k2, rfl⟩ := ad_ r2
 obtain ⟨z3, m3, k3, rfl⟩ := ad_ r3
 obtain ⟨z4, m4, k4, rfl⟩ := ad_ r4
 obtain ⟨z5, m5, k5, rfl⟩ := ad_ h1_
 refine au_ (n := 34) (vs := [(.agg #[(.slice z1 m1 k1), (.slice z2 m2 k2), (.slice z3 m3 k3), (.slice z4 m4 k4)]), (.slice z5 m5 k5), (vi a2)]) Try.func27 rfl rfl rfl (ab_ (aa_ (wo_ (bh_ (v := (.agg #[(.slice z1 m1 k1), (.slice z2 m2 k2), (.slice z3 m3 k3), (.slice z4 m4 k4)])) rfl hI rfl (fun g1 w1 I1 => (wa_ (v := (.slice none 0 0)) rfl rfl (wa_ (v := (vi 0)) rfl rfl (ae_ (ab_ (ab_ (aa_ (wo_ (cl_ (l := [(.slice z1 m1 k1), (.slice z2 m2 k2), (.slice z3 m3 k3), (.slice z4 m4 k4)]) rfl hn_ (I1.nth 0 rfl) rfl rfl rfl (wm_ (v := (.slice z5 m5 k5)) rfl rfl (wm_ (v := (vi a2)) rfl rfl ?_)))))))))))))))
 obtain ⟨x1, hx1, h⟩ := bnd h
 refine wo_ (aq_ (vs := [(.agg #[(.slice z1 m1 k1), (.slice z2 m2 k2), (.slice z3 m3 k3), (.slice z4 m4 k4)]), (.slice z5 m5 k5), (vi a2)]) (r := (vi x1)) rfl ca60 rfl (cu_ rfl rfl rfl) I1 (fun Fr_ hF_ => la_ hF_ (Riddle.rv (s := (⟨a0.Locks, a0.Codes, a0.Known, a0.Ties⟩ : Riddle)) r1 r2 r3 r4) h1_ hx1) (fun w2 I2 => (wa_ (v := (vi x1)) rfl rfl (ae_ (ab_ (aa_ (wm_ (v := (vi x1)) rfl rfl (wo_ (cd_ (a := x1) (b := 0) rfl rfl rfl (ae_ ?_))))))))))
 rcases ifs h with ⟨hc1, h⟩ | ⟨hc1, h⟩
 ·
  refine ai_ (b := x1 != 0) rfl hc1 (ab_ (aa_ (wm_ (v := (vi x1)) rfl rfl (wa_ (v := (.slice none 0 0)) rfl rfl (wa_ (v := (vi x1)) rfl rfl (ae_ (al_ ?_)))))))
  have I3 := Inv.rowNil (α := Int) (T := 3) I2
  obtain rfl := sj h
  exact ⟨rfl, (Value.tuple #[(.slice none 0 0), (vi x1)]), (ox_ rfl rfl rfl), _, [Row (α := Int) 3 (.slice none 0 0) (([] : List Int))], lr, (I3.pull 1).drop, _, _, _, rfl, rfl⟩
 refine am_ (b := x1 != 0) rfl hc1 (av_ ?_)
 have I102 := Inv.rowNil (α := Int) (T := 3) I2
 obtain ⟨o2, hrun1, h⟩ := bnd h
 refine bu_ (fun f w => ∃ out1, o2 = Sum.inl out1 ∧ ∃ (S_ : PH) (z127 : Option Addr) (m127 k127 : Nat) (z128 : Option Addr) (m128 k128 : Nat) (z129 : Option Addr) (m129 k129 : Nat) (z130 : Option Addr) (m130 k130 : Nat) (z131 : Option Addr) (m131 k131 : Nat), S.Le S_ ∧ Inv w S_ (ao_ g1 27 #[(.slice z127 m127 k127), (.slice z128 m128 k128), (.slice z129 m129 k129), (.slice z130 m130 k130)] :: Row (α := Int) 3 (.slice z131 m131 k131) (out1.2.2.2.2) :: Fr) ∧ f 1 = (.slice z5 m5 k5) ∧ f 2 = (vi a2) ∧ f 3 = (pt_ g1) ∧ f 6 = (.slice z131 m131 k131) ∧ f 7 = (vi 0) ∧ RV S_ (.slice z127 m127 k127) out1.1 ∧ RV S_ (.slice z128 m128 k128) out1.2.1 ∧ RV S_ (.slice z129 m129 k129) out1.2.2.1 ∧ RV S_ (.slice z130 m130 k130) out1.2.2.2.1 ∧ f.ds = []) ?_ ?_
 ·
  refine ay_ ?_
  refine hq_ (I := fun (s1 : ((List CodeLock) × (List (List Int)) × (List (List Clue)) × (List Tie) × List Int)) (f : Frm) (w : World) => ∃ (S_ : PH) (z122 : Option Addr) (m122 k122 : Nat) (z123 : Option Addr) (m123 k123 : Nat) (z124 : Option Addr) (m124 k124 : Nat) (z125 : Option Addr) (m125 k125 : Nat) (z126 : Option Addr) (m126 k126 : Nat), S.Le S_ ∧ Inv w S_ (ao_ g1 27 #[(.slice z122 m122 k122), (.slice z123 m123 k123), (.slice z124 m124 k124), (.slice z125 m125 k125)] :: Row (α := Int) 3 (.slice z126 m126 k126) (s1.2.2.2.2) :: Fr) ∧ f 1 = (.slice z5 m5 k5) ∧ f 2 = (vi a2) ∧ f 3 = (pt_ g1) ∧ f 6 = (.slice z126 m126 k126) ∧ f 7 = (vi 0) ∧ RV S_ (.slice z122 m122 k122) s1.1 ∧ RV S_ (.slice z123 m123 k123) s1.2.1 ∧ RV S_ (.slice z124 m124 k124) s1.2.2.1 ∧ RV S_ (.slice z125 m125 k125) s1.2.2.2.1 ∧ f.ds = []) hrun1 ⟨_, _, _, _, _, _, _, _, _, _, _, _, _, _, _, _, lr, (I102.pull 1), rfl, rfl, rfl, rfl, rfl, r1, r2, r3, r4, rfl⟩ ?_
  rintro s1 f w o1 hI49 h1 hout1
  obtain ⟨S59, z122, m122, k122, z123, m123, k123, z124, m124, k124, z125, m125, k125, z126, m126, k126, le59, I103, e193, e194, e195, e196, e197, r129, r130, r131, r132, ed13⟩ := hI49
  refine ay_ (ab_ (aa_ (wo_ (cl_ (l := [(.slice z122 m122 k122), (.slice z123 m123 k123), (.slice z124 m124 k124), (.slice z125 m125 k125)]) rfl hn_ (I103.nth 0 rfl) e195 rfl rfl (wm_ (v := (.slice z5 m5 k5)) rfl e193 (wm_ (v := (vi a2)) rfl e194 ?_))))))
  obtain ⟨x26, hx26, h1⟩ := bnd h1
  refine wo_ (aq_ (vs := [(.agg #[(.slice z122 m122 k122), (.slice z123 m123 k123), (.slice z124 m124 k124), (.slice z125 m125 k125)]), (.slice z5 m5 k5), (vi a2), (.func (.func 62) #[] #[])]) (r := (vi x26)) rfl ca61 rfl (args4 rfl rfl rfl rfl) I103 (fun Fr_ hF_ => hints_pick_ok hF_ (Riddle.rv (s := (⟨s1.1, s1.2.1, s1.2.2.1, s1.2.2.2.1⟩ : Riddle)) r129 r130 r131 r132) (h1_.mono le59) ⟨62, [], rfl, ca62, fun T_ w_ Fr_ a_ b_ r_ hle_ hI_ hr_ => hints_more_ok hI_  hr_⟩ hx26) (fun w88 I104 => (wa_ (v := (vi x26)) rfl rfl (ae_ (ab_ (ab_ (aa_ (wm_ (v := (vi x26)) rfl rfl (wo_ (bg_ (a := x26) (b := 0) rfl rfl rfl (ae_ ?_)))))))))))
  rcases ifs h1 with ⟨hc8, h1⟩ | ⟨hc8, h1⟩
  ·
   refine ai_ (b := decide (x26 < 0)) rfl hc8 (ab_ (aa_ (wm_ (v := (.slice z126 m126 k126)) rfl e196 (wa_ (v := (.slice z126 m126 k126)) rfl rfl (wa_ (v := (vi 0)) rfl rfl (ae_ (al_ ?_)))))))
   obtain rfl := sj h1
   obtain rfl := (hout1 _ rfl)
   have h2 := h
   obtain rfl := sj h2
   exact ⟨ed13, (Value.tuple #[(.slice z126 m126 k126), (vi 0)]), (ox_ rfl rfl rfl), _, [Row (α := Int) 3 (.slice z126 m126 k126) (s1.2.2.2.2)], le59, (I104).drop, _, _, _, rfl, rfl⟩
  refine am_ (b := decide (x26 < 0)) rfl hc8 (av_ (ab_ (aa_ (wm_ (v := (.slice z126 m126 k126)) rfl e196 (wm_ (v := (vi x26)) rfl rfl (wo_ (bi_ (vs := [(vi x26)]) (r := ([x26] : List Int)) rfl Try.underlying28 el3 (ij_ rfl) rfl (by decide) (by decide) ⟨(ec_ _), trivial⟩ I104 (fun u43 w89 I105 => ?_))))))))
  obtain ⟨z132, m132, k132, e198⟩ := bj_ I105
  subst e198
  obtain ⟨x27, hx27, h1⟩ := bnd h1
  refine wo_ (ee_ (α := Int) (v := (.slice z126 m126 k126)) (u := (.slice z132 m132 k132)) rfl rfl Try.underlying28 el3 (by decide) (by decide) rfl rfl (I105.pull 2) (Inv.rowSrc (I105.nth 0 rfl)) hx27 (fun u44 w90 I106 => ?_))
  obtain ⟨z133, m133, k133, e199⟩ := bj_ I106
  subst e199
  refine wa_ (v := (.slice z133 m133 k133)) rfl rfl (ae_ ?_)
  obtain ⟨x28, hx28, h1⟩ := bnd h1
  obtain ⟨x29, hx29, h1⟩ := bnd h1
  refine bk_ (sps := [⟨some 28, [], [0], fun vs_ T_ => fr0 vs_ 0 = (.agg #[(.slice z122 m122 k122), (.slice z123 m123 k123), (.slice z124 m124 k124), (.slice z125 m125 k125)]), [0], [], [], fun _ h_ => h_⟩, spV 29 [] 1 (.slice z5 m5 k5), spV 30 [] 2 (vi x26), spV 31 [1, 2] 3 (ah_ (.slice z5 m5 k5) (x26) (Enc.sz Aid)), spR 32 [1, 2, 3] 4 x28, spR 33 [0, 1, 2, 3, 4] 5 x29, ⟨none, (lrg 6), [], fun vs_ T_ => True, [], [0], [1], fun _ h_ => h_⟩]) (tks := [⟨none, some 6, [], fun vs_ => ao_ g1 27 #[(.slice z122 m122 k122), (.slice z123 m123 k123), (.slice z124 m124 k124), (.slice z125 m125 k125)]⟩, ⟨some 6, none, [5], fun vs_ => ao_ g1 27 #[(dj_ (fr0 vs_ 0) 0), (dj_ (fr0 vs_ 0) 1), (dj_ (fr0 vs_ 0) 2), (dj_ (fr0 vs_ 0) 3)]⟩]) (O := Row (α := Int) 3 (.slice z133 m133 k133) (x27) :: Row (α := Int) 3 (.slice z132 m132 k132) (([x26] : List Int)) :: Fr) rfl (by kernel_rfl) (I106.pull 2) ⟨?_, ?_, ?_, ?_, ?_, ?_, ?_, trivial⟩ ?_
  ·
   intro vs f w_ U X le A K I
   have I108 : Inv w_ U (ao_ g1 27 #[(Value.slice z122 m122 k122), (Value.slice z123 m123 k123), (Value.slice z124 m124 k124), (Value.slice z125 m125 k125)] :: X) := I
   refine pl_ rfl (cl_ (l := [(.slice z122 m122 k122), (.slice z123 m123 k123), (.slice z124 m124 k124), (.slice z125 m125 k125)]) rfl hn_ (I108.nth 0 rfl) ((K 3 (ak_ rfl)).trans e195) rfl rfl (fn rfl rfl I108))
  · exact fun vs f w U X l A K I => pl_ rfl (aw_ (v := (.slice z5 m5 k5)) rfl ((K 1 (ak_ rfl)).trans e193) (fn rfl rfl I))
  · exact fun vs f w U X l A K I => pl_ rfl (aw_ (v := (vi x26)) rfl (K 9 (ak_ rfl)) (fn rfl rfl I))
  · exact fun vs f w U X l A K I => pl_ rfl (aj_ (v := (.slice z5 m5 k5)) (i := x26) (e := x28) rfl Try.underlying44 sh32 (A.u 0 rfl rfl rfl) (h1_.mono (le59.trans l)) (A.u 1 rfl rfl rfl) hx28 (fn rfl rfl I))
  ·
   intro vs f w_ U X le A K I
   have q45 := A.u 2 rfl rfl rfl
   refine pl_ rfl (an_ (v := (ah_ (.slice z5 m5 k5) (x26) (Enc.sz Aid))) (e := x28) rfl sh32 q45 ((h1_.mono (le59.trans le)).elem I.in_ hx28) (fun u46 hu32 => ?_))
   obtain ⟨c95, e200, r137⟩ := Aid.inv hu32
   subst e200
   obtain ⟨z134, m134, k134, rfl⟩ := ad_ r137
   refine ⟨_, _, rfl, lr, ?_, ?_⟩
   · exact (Aid.rv (s := x28) r137)
   exact I
  ·
   intro vs f w_ U X le A K I
   have q46 := A.u 0 rfl rfl rfl
   have q47 : f 32 = vs 4 := (A.at_ 4 rfl _ rfl).1 _ rfl
   have r138 : RV U (vs 4) x28 := (A.at_ 4 rfl _ rfl).2
   obtain ⟨u47, hu33⟩ : ∃ u, vs 4 = u := ⟨_, rfl⟩
   rw [hu33] at q47 r138
   obtain ⟨c96, e202, r139⟩ := Aid.inv r138
   subst e202
   obtain ⟨z135, m135, k135, rfl⟩ := ad_ r139
   refine pl_ rfl (bm_ (vs := [(.agg #[(.slice z122 m122 k122), (.slice z123 m123 k123), (.slice z124 m124 k124), (.slice z125 m125 k125)]), (.agg #[(vi x28.Lock), (vi x28.Clue.Kind), (vi x28.Clue.A), (vi x28.Clue.B), (vi x28.Clue.N), (vi x28.Clue.M), (.slice z135 m135 k135), (vb x28.Clue.Not)])]) rfl ca63 rfl (bt_ q46 q47) (mk_ I (Riddle.rv (s := (⟨s1.1, s1.2.1, s1.2.2.1, s1.2.2.2.1⟩ : Riddle)) (r129.mono le) (r130.mono le) (r131.mono le) (r132.mono le)) (Aid.rv (s := x28) r139) hx29) (fun cv7 w98 S66 O7 le66 I114 hv7 => ?_))
   obtain ⟨c97, rfl, rfl, r140⟩ := hv7
   obtain ⟨c98, c99, c100, c101, e204, r141, r142, r143, r144⟩ := Riddle.inv r140
   subst e204
   obtain ⟨z136, m136, k136, rfl⟩ := ad_ r141
   obtain ⟨z137, m137, k137, rfl⟩ := ad_ r142
   obtain ⟨z138, m138, k138, rfl⟩ := ad_ r143
   obtain ⟨z139, m139, k139, rfl⟩ := ad_ r144
   refine ⟨_, _, rfl, le66, ?_, ?_⟩
   · exact (Riddle.rv (s := x29) r141 r142 r143 r144)
   exact I114
  ·
   intro vs f w_ U X le A K I
   have I115 : Inv w_ U (ao_ g1 27 #[(Value.slice z122 m122 k122), (Value.slice z123 m123 k123), (Value.slice z124 m124 k124), (Value.slice z125 m125 k125)] :: X) := I
   have q48 : f 33 = vs 5 := (A.at_ 5 rfl _ rfl).1 _ rfl
   have r145 : RV U (vs 5) x29 := (A.at_ 5 rfl _ rfl).2
   obtain ⟨u48, hu34⟩ : ∃ u, vs 5 = u := ⟨_, rfl⟩
   rw [hu34] at q48 r145
   obtain ⟨c102, c103, c104, c105, e209, r146, r147, r148, r149⟩ := Riddle.inv r145
   subst e209
   obtain ⟨z140, m140, k140, rfl⟩ := ad_ r146
   obtain ⟨z141, m141, k141, rfl⟩ := ad_ r147
   obtain ⟨z142, m142, k142, rfl⟩ := ad_ r148
   obtain ⟨z143, m143, k143, rfl⟩ := ad_ r149
   refine pl_ rfl (bc_ (v := (.agg #[(.slice z140 m140 k140), (.slice z141 m141 k141), (.slice z142 m142 k142), (.slice z143 m143 k143)])) (cs := #[(.slice z122 m122 k122), (.slice z123 m123 k123), (.slice z124 m124 k124), (.slice z125 m125 k125)]) hn_ I115 ((K 3 (ak_ rfl)).trans e195) q48 rfl (Nat.le_of_ble_eq_true rfl) rfl (fun w100 (I116 : Inv w100 U (ao_ g1 27 #[(.slice z140 m140 k140), (.slice z141 m141 k141), (.slice z142 m142 k142), (.slice z143 m143 k143)] :: X)) => (⟨undef, _, rfl, lr, ?_, ?_⟩)))
   · exact trivial
   show Inv _ _ (ao_ g1 27 #[(dj_ (vs 5) 0), (dj_ (vs 5) 1), (dj_ (vs 5) 2), (dj_ (vs 5) 3)] :: X)
   simp only [hu34]
   exact I116
  intro vs56 f w101 S68 ed14 le68 hF7 hK56 hI57
  have e214 : f 1 = (Value.slice z5 m5 k5) := (hK56 1 (ap_ rfl)).trans e193
  have e215 : f 2 = (Value.int .i64 (a2)) := (hK56 2 (ap_ rfl)).trans e194
  have e216 : f 3 = (Value.pointer (some ⟨g1, 0, none⟩)) := (hK56 3 (ap_ rfl)).trans e195
  have e217 : f 6 = (Value.slice z133 m133 k133) := (hK56 6 (ap_ rfl)).trans rfl
  have e218 : f 7 = (Value.int .i64 (0)) := (hK56 7 (ap_ rfl)).trans e197
  have I117 : Inv w101 S68 (ao_ g1 27 #[(dj_ (vs56 5) 0), (dj_ (vs56 5) 1), (dj_ (vs56 5) 2), (dj_ (vs56 5) 3)] :: Row (α := Int) 3 (Value.slice z133 m133 k133) (x27) :: Row (α := Int) 3 (Value.slice z132 m132 k132) (([x26] : List Int)) :: Fr) := hI57
  have q49 : f 33 = vs56 5 := (hF7.at_ 5 rfl _ rfl).1 _ rfl
  have r150 : RV S68 (vs56 5) x29 := (hF7.at_ 5 rfl _ rfl).2
  obtain ⟨u49, hu35⟩ : ∃ u, vs56 5 = u := ⟨_, rfl⟩
  rw [hu35] at q49 r150
  have I118 := I117
  rw [hu35] at I118
  obtain ⟨c106, c107, c108, c109, e219, r151, r152, r153, r154⟩ := Riddle.inv r150
  subst e219
  obtain ⟨z144, m144, k144, rfl⟩ := ad_ r151
  obtain ⟨z145, m145, k145, rfl⟩ := ad_ r152
  obtain ⟨z146, m146, k146, rfl⟩ := ad_ r153
  obtain ⟨z147, m147, k147, rfl⟩ := ad_ r154
  obtain rfl := sj h1
  exact ⟨_, rfl, _, _, _, _, _, _, _, _, _, _, _, _, _, _, _, _, (le59.trans le68), (((I118.pull 2).drop.pull 1).pull 1), e214, e215, e216, e217, e218, r151, r152, r153, r154, (ed14.trans ed13)⟩
 rintro f w ⟨out1, rfl, S69, z127, m127, k127, z128, m128, k128, z129, m129, k129, z130, m130, k130, z131, m131, k131, le69, I119, e224, e225, e226, e227, e228, r133, r134, r135, r136, ed15⟩
 have h := eh_ h
 obtain rfl := sj h
 exact ⟨ed15, (Value.tuple #[(.slice z131 m131 k131), (vi 0)]), (ox_ rfl e227 e228), _, [Row (α := Int) 3 (.slice z131 m131 k131) (out1.2.2.2.2)], le69, (I119).drop, _, _, _, rfl, rfl⟩
theorem hints_Hides_1_ok {w : World} {S : PH} {Fr : List HP} {a0 : Int} {a1 : (List Aid)} {v1 : Value} {r : Bool} (hI : Inv w S (Fr)) (h1_ : PtS S v1 a1) (h : jm_ a0 a1 = some r) :
    Calls Try.prog 66 [(Value.int .i64 (a0)), v1].toArray w (ce_ S Fr (Value.bool (r))) := by
 unfold jm_ at h
 refine au_ (n := 10) (vs := [(vi a0), v1]) Try.func66 rfl rfl rfl (ab_ (aa_ (wa_ (v := (vb false)) rfl rfl (ae_ (ab_ (aa_ (wm_ (v := (vi a0)) rfl rfl (wo_ (an_ (v := v1) (e := a1) rfl sh44 rfl (h1_.at_ hI) (fun u1 hu1 => ?_))))))))))
 obtain ⟨z1, m1, k1, rfl⟩ := ad_ hu1
 refine wo_ (bb_ rfl Try.underlying44 rfl hu1 (wo_ (ed_ (a := (a1.length : Int)) (b := 1) rfl rfl rfl ?_)))
 obtain ⟨x1, hx1, h⟩ := bnd h
 refine wo_ (aq_ (vs := [(vi a0), (vi 0), (vi (w64 ((a1.length : Int) - 1)))]) (r := (vb x1)) rfl ca39 rfl (cu_ rfl rfl rfl) hI (fun Fr_ hF_ => bp_ hF_  hx1) (fun w1 I1 => (wo_ (cc_ (b := x1) rfl rfl (wa_ (v := (vb (!x1))) rfl rfl (ae_ (al_ ?_)))))))
 obtain rfl := sj h
 exact ⟨rfl, (vb (!x1)), (br_ rfl rfl), _, [], lr, I1, rfl, rfl⟩
theorem hints_Hides_ok {w : World} {S : PH} {Fr : List HP} {a0 : Riddle} {v0 : Value} {a1 : (List Aid)} {v1 : Value} {a2 : (List Int)} {v2 : Value} {r : Bool × Int} (hI : Inv w S (Fr)) (h0_ : RV S v0 a0) (h1_ : RV S v1 a1) (h2_ : RV S v2 a2) (h : ga_ a0 a1 a2 = some r) :
    Calls Try.prog 28 [v0, v1, v2].toArray w (ce_ S Fr (Value.tuple #[(Value.bool (r.1)), (Value.int .i64 (r.2))])) := by
 unfold ga_ at h
 obtain ⟨c1, c2, c3, c4, e1, r1, r2, r3, r4⟩ := Riddle.inv h0_
 subst e1
 obtain ⟨z1, m1, k1, rfl⟩ := ad_ r1
 obtain ⟨z2, m2, k2, rfl⟩ := ad_ r2
 obtain ⟨z3, m3, k3, rfl⟩ := ad_ r3
 obtain ⟨z4, m4, k4, rfl⟩ := ad_ r4
 obtain ⟨z5, m5, k5, rfl⟩ := ad_ h1_
 obtain ⟨z6, m6, k6, rfl⟩ := ad_ h2_
 refine au_ (n := 51) (vs := [(.agg #[(.slice z1 m1 k1), (.slice z2 m2 k2), (.slice z3 m3 k3), (.slice z4 m4 k4)]), (.slice z5 m5 k5), (.slice z6 m6 k6)]) Try.func28 rfl rfl rfl (ab_ (aa_ (wo_ (bh_ (v := (.agg #[(.slice z1 m1 k1), (.slice z2 m2 k2), (.slice z3 m3 k3), (.slice z4 m4 k4)])) rfl hI rfl (fun g1 w1 I1 => (wo_ (bh_ (v := (.slice z5 m5 k5)) rfl I1 rfl (fun g2 w2 I2 => ?_))))))))
 obtain ⟨S1, le1, I3, p1⟩ := Inv.boxFreeze (x := a1) I2 h1_
 refine wa_ (v := (vb false)) rfl rfl (wa_ (v := (vi 0)) rfl rfl (ae_ (ab_ (ab_ (aa_ (wo_ (cl_ (l := [(.slice z1 m1 k1), (.slice z2 m2 k2), (.slice z3 m3 k3), (.slice z4 m4 k4)]) rfl hn_ (I3.nth 0 rfl) rfl rfl rfl (wo_ (an_ (v := (pt_ g2)) (e := a1) rfl sh44 rfl (p1.at_ I3) (fun u1 hu1 => ?_))))))))))
 obtain ⟨z7, m7, k7, rfl⟩ := ad_ hu1
 obtain ⟨x1, hx1, h⟩ := bnd h
 refine wo_ (aq_ (vs := [(.agg #[(.slice z1 m1 k1), (.slice z2 m2 k2), (.slice z3 m3 k3), (.slice z4 m4 k4)]), (.slice z7 m7 k7)]) (r := (vi x1)) rfl ca64 rfl (bt_ rfl rfl) I3 (fun Fr_ hF_ => ky_ hF_ (Riddle.rv (s := (⟨a0.Locks, a0.Codes, a0.Known, a0.Ties⟩ : Riddle)) (r1.mono le1) (r2.mono le1) (r3.mono le1) (r4.mono le1)) hu1 hx1) (fun w3 I4 => (wa_ (v := (vi x1)) rfl rfl (ae_ (ab_ (aa_ (wm_ (v := (vi x1)) rfl rfl (wo_ (cd_ (a := x1) (b := 0) rfl rfl rfl (ae_ ?_))))))))))
 rcases ifs h with ⟨hc1, h⟩ | ⟨hc1, h⟩
 ·
  refine ai_ (b := x1 != 0) rfl hc1 (ab_ (aa_ (wm_ (v := (vi x1)) rfl rfl (wa_ (v := (vb false)) rfl rfl (wa_ (v := (vi x1)) rfl rfl (ae_ (al_ ?_)))))))
  obtain rfl := sj h
  exact ⟨rfl, (Value.tuple #[(vb false), (vi x1)]), (ox_ rfl rfl rfl), _, [], le1, (I4).drop, rfl, rfl⟩
 refine am_ (b := x1 != 0) rfl hc1 (av_ (ab_ (ab_ (aa_ (wm_ (v := (.slice z6 m6 k6)) rfl rfl (wo_ (bb_ rfl Try.underlying28 rfl (h2_.mono le1) (wo_ (mr_ (a := (a2.length : Int)) (b := 20) rfl rfl rfl (wm_ (v := (vb (decide (20 < (a2.length : Int))))) rfl rfl ?_))))))))))
 rcases ifs h with ⟨hc4, h⟩ | ⟨hc4, h⟩
 ·
  refine ws_ (c := decide (20 < (a2.length : Int))) rfl rfl hc4 (ws_ (c := decide (20 < (a2.length : Int))) rfl rfl hc4 (ws_ (c := decide (20 < (a2.length : Int))) rfl rfl hc4 (wo_ (ax_ (c := decide (20 < (a2.length : Int))) (a := (vb true)) rfl rfl hc4 rfl (ae_ (ai_ (b := true) rfl rfl (ab_ (aa_ (wa_ (v := (vb false)) rfl rfl (wa_ (v := (vi 1)) rfl rfl (ae_ (al_ ?_))))))))))))
  obtain rfl := sj h
  exact ⟨rfl, (Value.tuple #[(vb false), (vi 1)]), (ox_ rfl rfl rfl), _, [], le1, (I4).drop, rfl, rfl⟩
 refine wk_ (c := decide (20 < (a2.length : Int))) rfl rfl hc4 (aw_ (v := (.slice z6 m6 k6)) rfl rfl (wk_ (c := decide (20 < (a2.length : Int))) rfl rfl hc4 (ch_ (fv := #[]) (cv := #[(pt_ g2)]) rfl arr0 (arr1 rfl) ?_)))
 obtain ⟨x3, hx3, h⟩ := bnd h
 refine wk_ (c := decide (20 < (a2.length : Int))) rfl rfl hc4 (aq_ (vs := [(.slice z6 m6 k6), (.func (.func 66) #[] #[(pt_ g2)])]) (r := (vb x3)) rfl ca65 rfl (bt_ rfl rfl) I4 (fun Fr_ hF_ => gl_ hF_ (h2_.mono le1) ⟨66, [(pt_ g2)], rfl, ca66, fun T_ w_ Fr_ u_ x_ r_ hle_ hI_ hu_ hr_ => by have e_ := rv_int hu_; subst e_; exact hints_Hides_1_ok hI_ (p1.mono hle_) hr_⟩ hx3) (fun w5 I6 => (wo_ (ar_ (c := decide (20 < (a2.length : Int))) (b := (vb x3)) rfl rfl hc4 rfl (ae_ ?_)))))
 rcases ifs h with ⟨hc5, h⟩ | ⟨hc5, h⟩
 ·
  refine ai_ (b := x3) rfl hc5 (ab_ (aa_ (wa_ (v := (vb false)) rfl rfl (wa_ (v := (vi 1)) rfl rfl (ae_ (al_ ?_))))))
  obtain rfl := sj h
  exact ⟨rfl, (Value.tuple #[(vb false), (vi 1)]), (ox_ rfl rfl rfl), _, [], le1, (I6).drop, rfl, rfl⟩
 refine am_ (b := x3) rfl hc5 (av_ (ab_ (ab_ (aa_ (wm_ (v := (.slice z6 m6 k6)) rfl rfl (wo_ (bb_ rfl Try.underlying28 rfl (h2_.mono le1) (wm_ (v := (vi 0)) rfl rfl (ae_ ?_)))))))))
 have hk1 : a2.length ≤ 9223372036854775807 := (ef_ h2_)
 obtain ⟨o2, hrun1, h⟩ := bnd h
 refine bu_ (fun f w => ∃ out1, o2 = Sum.inl out1 ∧ ∃ (S_ : PH) (z86 : Option Addr) (m86 k86 : Nat) (z87 : Option Addr) (m87 k87 : Nat) (z88 : Option Addr) (m88 k88 : Nat) (z89 : Option Addr) (m89 k89 : Nat), S1.Le S_ ∧ Inv w S_ (ao_ g1 27 #[(.slice z86 m86 k86), (.slice z87 m87 k87), (.slice z88 m88 k88), (.slice z89 m89 k89)] :: Fr) ∧ f 3 = (pt_ g1) ∧ f 4 = (pt_ g2) ∧ f 27 = (.slice z6 m6 k6) ∧ f 28 = (vi ((a2.length : Int))) ∧ RV S_ (.slice z86 m86 k86) out1.1 ∧ RV S_ (.slice z87 m87 k87) out1.2.1 ∧ RV S_ (.slice z88 m88 k88) out1.2.2.1 ∧ RV S_ (.slice z89 m89 k89) out1.2.2.2 ∧ f.ds = []) ?_ ?_
 ·
  refine ay_ ?_
  refine ez_ (I := fun (i1 : Nat) (s1 : ((List CodeLock) × (List (List Int)) × (List (List Clue)) × (List Tie))) (f : Frm) (w : World) => ∃ (S_ : PH) (z82 : Option Addr) (m82 k82 : Nat) (z83 : Option Addr) (m83 k83 : Nat) (z84 : Option Addr) (m84 k84 : Nat) (z85 : Option Addr) (m85 k85 : Nat), S1.Le S_ ∧ Inv w S_ (ao_ g1 27 #[(.slice z82 m82 k82), (.slice z83 m83 k83), (.slice z84 m84 k84), (.slice z85 m85 k85)] :: Fr) ∧ f 3 = (pt_ g1) ∧ f 4 = (pt_ g2) ∧ f 27 = (.slice z6 m6 k6) ∧ f 28 = (vi ((a2.length : Int))) ∧ f 29 = (vi (i1 : Int)) ∧ RV S_ (.slice z82 m82 k82) s1.1 ∧ RV S_ (.slice z83 m83 k83) s1.2.1 ∧ RV S_ (.slice z84 m84 k84) s1.2.2.1 ∧ RV S_ (.slice z85 m85 k85) s1.2.2.2 ∧ f.ds = []) hrun1 ⟨_, _, _, _, _, _, _, _, _, _, _, _, _, lr, I6, rfl, rfl, rfl, rfl, rfl, (r1.mono le1), (r2.mono le1), (r3.mono le1), (r4.mono le1), rfl⟩ ?_ ?_
  ·
   rintro i1 s1 f w o1 hlt1 hI61 h2 hout1
   obtain ⟨S67, z82, m82, k82, z83, m83, k83, z84, m84, k84, z85, m85, k85, le67, I88, e144, e145, e146, e147, e148, r88, r89, r90, r91, ed10⟩ := hI61
   refine ab_ (aa_ (wo_ (bg_ (a := (i1 : Int)) (b := (a2.length : Int)) rfl e148 e147 (ae_ (ab_ (ai_ (b := decide ((i1 : Int) < (a2.length : Int))) rfl (gq_ hlt1) (av_ (ab_ (ay_ (ab_ (aa_ ?_)))))))))))
   obtain ⟨x19, hx19, h2⟩ := bnd h2
   refine wo_ (aj_ (v := (.slice z6 m6 k6)) (i := (i1 : Int)) (e := x19) rfl Try.underlying28 sh3 e146 (h2_.mono (le1.trans le67)) e148 hx19 (wo_ (ag_ (v := (ah_ (.slice z6 m6 k6) ((i1 : Int)) (Enc.sz Int))) (e := x19) rfl sh3 rfl ((h2_.mono (le1.trans le67)).elem I88.in_ hx19) (wa_ (v := (vi x19)) rfl rfl (ae_ (ab_ (ab_ ?_)))))))
   obtain ⟨x20, hx20, h2⟩ := bnd h2
   obtain ⟨x21, hx21, h2⟩ := bnd h2
   refine bk_ (sps := [⟨some 34, [], [0], fun vs_ T_ => fr0 vs_ 0 = (.agg #[(.slice z82 m82 k82), (.slice z83 m83 k83), (.slice z84 m84 k84), (.slice z85 m85 k85)]), [0], [], [], fun _ h_ => h_⟩, spR 35 [] 1 a1, spV 36 [] 2 (vi x19), spW 37 [1, 2] [3, 1] fun vs_ => (ah_ (fr0 vs_ 1) (x19) (Enc.sz Aid)), spR 38 [1, 2, 3] 4 x20, spV 39 [0, 1, 2, 3, 4] 5 (Value.tuple #[(vi x21.1), (vb x21.2)]), spV 33 (lrg 6) 6 (Value.tuple #[(vi x21.1), (vb x21.2)]), spV 40 (lrg 7) 7 (vi x21.1), spV 41 (lrg 7) 8 (vb x21.2), spV 11 (lrg 8) 9 (vi x21.1), spV 12 (lrg 10) 10 (vb x21.2)]) (tks := [⟨none, none, [], fun vs_ => ao_ g1 27 #[(.slice z82 m82 k82), (.slice z83 m83 k83), (.slice z84 m84 k84), (.slice z85 m85 k85)]⟩]) (O := Fr) rfl (by kernel_rfl) I88 ⟨?_, ?_, ?_, ?_, ?_, ?_, ?_, ?_, ?_, ?_, ?_, trivial⟩ ?_
   ·
    intro vs f w_ U X le A K I
    have I90 : Inv w_ U (ao_ g1 27 #[(Value.slice z82 m82 k82), (Value.slice z83 m83 k83), (Value.slice z84 m84 k84), (Value.slice z85 m85 k85)] :: X) := I
    refine pl_ rfl (cl_ (l := [(.slice z82 m82 k82), (.slice z83 m83 k83), (.slice z84 m84 k84), (.slice z85 m85 k85)]) rfl hn_ (I90.nth 0 rfl) ((K 3 (ak_ rfl)).trans e144) rfl rfl (fn rfl rfl I90))
   ·
    intro vs f w_ U X le A K I
    refine pl_ rfl (an_ (v := (pt_ g2)) (e := a1) rfl sh44 ((K 4 (ak_ rfl)).trans e145) ((p1.mono (le67.trans le)).at_ I) (fun u52 hu52 => ?_))
    obtain ⟨z90, m90, k90, rfl⟩ := ad_ hu52
    refine ⟨_, _, rfl, lr, ?_, ?_⟩
    · exact hu52
    exact I
   · exact fun vs f w U X l A K I => pl_ rfl (aw_ (v := (vi x19)) rfl (K 10 (ak_ rfl)) (fn rfl rfl I))
   ·
    intro vs f w_ U X le A K I
    have q67 : f 35 = vs 1 := (A.at_ 0 rfl _ rfl).1 _ rfl
    have r96 : RV U (vs 1) a1 := (A.at_ 0 rfl _ rfl).2
    obtain ⟨u53, hu53⟩ : ∃ u, vs 1 = u := ⟨_, rfl⟩
    rw [hu53] at q67 r96
    obtain ⟨z91, m91, k91, rfl⟩ := ad_ r96
    have q68 := A.u 1 rfl rfl rfl
    refine pl_ rfl (aj_ (v := (.slice z91 m91 k91)) (i := x19) (e := x20) rfl Try.underlying44 sh32 q67 r96 q68 hx20 (⟨_, _, rfl, lr, ?_, ?_⟩))
    ·
     show (ah_ (Value.slice z91 m91 k91) (x19) (Enc.sz Aid)) = (ah_ (vs 1) (x19) (Enc.sz Aid))
     simp only [hu53] <;> rfl
    exact I
   ·
    intro vs f w_ U X le A K I
    have q69 : f 35 = vs 1 := (A.at_ 0 rfl _ rfl).1 _ rfl
    have r97 : RV U (vs 1) a1 := (A.at_ 0 rfl _ rfl).2
    obtain ⟨u54, hu54⟩ : ∃ u, vs 1 = u := ⟨_, rfl⟩
    rw [hu54] at q69 r97
    obtain ⟨z92, m92, k92, rfl⟩ := ad_ r97
    have q70 := A.u 1 rfl rfl rfl
    have q71 : f 37 = (ah_ (vs 1) (x19) (Enc.sz Aid)) := A.u 2 rfl rfl rfl
    simp only [hu54] at q71
    have q71 : f 37 = (ah_ (Value.slice z92 m92 k92) (x19) (Enc.sz Aid)) := q71
    refine pl_ rfl (an_ (v := (ah_ (.slice z92 m92 k92) (x19) (Enc.sz Aid))) (e := x20) rfl sh32 q71 (r97.elem I.in_ hx20) (fun u55 hu55 => ?_))
    obtain ⟨c56, e152, r98⟩ := Aid.inv hu55
    subst e152
    obtain ⟨z93, m93, k93, rfl⟩ := ad_ r98
    refine ⟨_, _, rfl, lr, ?_, ?_⟩
    · exact (Aid.rv (s := x20) r98)
    exact I
   ·
    intro vs f w_ U X le A K I
    have q73 : f 38 = vs 4 := (A.at_ 4 rfl _ rfl).1 _ rfl
    have r99 : RV U (vs 4) x20 := (A.at_ 4 rfl _ rfl).2
    obtain ⟨u56, hu56⟩ : ∃ u, vs 4 = u := ⟨_, rfl⟩
    rw [hu56] at q73 r99
    obtain ⟨c57, e154, r100⟩ := Aid.inv r99
    subst e154
    obtain ⟨z94, m94, k94, rfl⟩ := ad_ r100
    refine pl_ rfl (aq_ (vs := [(.agg #[(.slice z82 m82 k82), (.slice z83 m83 k83), (.slice z84 m84 k84), (.slice z85 m85 k85)]), (.agg #[(vi x20.Lock), (vi x20.Clue.Kind), (vi x20.Clue.A), (vi x20.Clue.B), (vi x20.Clue.N), (vi x20.Clue.M), (.slice z94 m94 k94), (vb x20.Clue.Not)])]) (r := (Value.tuple #[(vi x21.1), (vb x21.2)])) rfl ca67 rfl (bt_ (A.u 0 rfl rfl rfl) q73) I (fun Fr_ hF_ => nk_ hF_ (Riddle.rv (s := (⟨s1.1, s1.2.1, s1.2.2.1, s1.2.2.2⟩ : Riddle)) (r88.mono le) (r89.mono le) (r90.mono le) (r91.mono le)) (Aid.rv (s := x20) r100) hx21) (fun w89 I96 => (fn rfl rfl I96)))
   · exact fun vs f w U X l A K I => pl_ rfl (aw_ (v := (Value.tuple #[(vi x21.1), (vb x21.2)])) rfl (A.u 5 rfl rfl rfl) (fn rfl rfl I))
   · exact fun vs f w U X l A K I => pl_ rfl (bd_ (v := (vi x21.1)) rfl (A.u 6 rfl rfl rfl) rfl (fn rfl rfl I))
   · exact fun vs f w U X l A K I => pl_ rfl (bd_ (v := (vb x21.2)) rfl (A.u 6 rfl rfl rfl) rfl (fn rfl rfl I))
   · exact fun vs f w U X l A K I => pl_ rfl (bs_ (v := (vi x21.1)) rfl (A.u 7 rfl rfl rfl) (fn rfl rfl I))
   ·
    intro vs f w_ U X le A K I
    refine pl_ rfl (bs_ (v := (vb x21.2)) rfl (A.u 8 rfl rfl rfl) (fn rfl rfl I))
   intro vs72 f w95 S79 ed11 le79 hF7 hK72 hI73
   have e156 : f 3 = (Value.pointer (some ⟨g1, 0, none⟩)) := (hK72 3 (ap_ rfl)).trans e144
   have e157 : f 4 = (Value.pointer (some ⟨g2, 0, none⟩)) := (hK72 4 (ap_ rfl)).trans e145
   have e158 : f 10 = (Value.int .i64 (x19)) := (hK72 10 (ap_ rfl)).trans rfl
   have e159 : f 27 = (Value.slice z6 m6 k6) := (hK72 27 (ap_ rfl)).trans e146
   have e160 : f 28 = (Value.int .i64 ((a2.length : Int))) := (hK72 28 (ap_ rfl)).trans e147
   have e161 : f 29 = (Value.int .i64 ((i1 : Int))) := (hK72 29 (ap_ rfl)).trans e148
   have I102 : Inv w95 S79 (ao_ g1 27 #[(Value.slice z82 m82 k82), (Value.slice z83 m83 k83), (Value.slice z84 m84 k84), (Value.slice z85 m85 k85)] :: Fr) := hI73
   have q79 := hF7.u 10 rfl rfl rfl
   refine ab_ (aa_ (wm_ (v := (vb x21.2)) rfl q79 (wo_ (cc_ (b := x21.2) rfl rfl (ae_ ?_)))))
   rcases ifs h2 with ⟨hc9, h2⟩ | ⟨hc9, h2⟩
   ·
    refine ai_ (b := !x21.2) rfl hc9 (ab_ (aa_ (wa_ (v := (vb false)) rfl rfl (wa_ (v := (vi 0)) rfl rfl (ae_ (al_ ?_))))))
    obtain rfl := sj h2
    obtain rfl := (hout1 _ rfl)
    have h3 := h
    obtain rfl := sj h3
    exact ⟨(ed11.trans ed10), (Value.tuple #[(vb false), (vi 0)]), (ox_ rfl rfl rfl), _, [], ((le1.trans le67).trans le79), (I102).drop, rfl, rfl⟩
   refine am_ (b := !x21.2) rfl hc9 (av_ ?_)
   obtain ⟨x22, hx22, h2⟩ := bnd h2
   obtain ⟨x23, hx23, h2⟩ := bnd h2
   refine bk_ (sps := [⟨some 44, [], [0], fun vs_ T_ => fr0 vs_ 0 = (.agg #[(.slice z82 m82 k82), (.slice z83 m83 k83), (.slice z84 m84 k84), (.slice z85 m85 k85)]), [0], [], [], fun _ h_ => h_⟩, spR 45 [] 1 a1, spV 46 [] 2 (vi x19), spW 47 [1, 2] [3, 1] fun vs_ => (ah_ (fr0 vs_ 1) (x19) (Enc.sz Aid)), spR 48 [1, 2, 3] 4 x22, spR 49 [0, 1, 2, 3, 4] 5 x23, ⟨none, (lrg 6), [], fun vs_ T_ => True, [], [0], [1], fun _ h_ => h_⟩]) (tks := [⟨none, some 6, [], fun vs_ => ao_ g1 27 #[(.slice z82 m82 k82), (.slice z83 m83 k83), (.slice z84 m84 k84), (.slice z85 m85 k85)]⟩, ⟨some 6, none, [5], fun vs_ => ao_ g1 27 #[(dj_ (fr0 vs_ 0) 0), (dj_ (fr0 vs_ 0) 1), (dj_ (fr0 vs_ 0) 2), (dj_ (fr0 vs_ 0) 3)]⟩]) (O := Fr) rfl (by kernel_rfl) I102 ⟨?_, ?_, ?_, ?_, ?_, ?_, ?_, trivial⟩ ?_
   ·
    intro vs f w_ U X le A K I
    have I104 : Inv w_ U (ao_ g1 27 #[(Value.slice z82 m82 k82), (Value.slice z83 m83 k83), (Value.slice z84 m84 k84), (Value.slice z85 m85 k85)] :: X) := I
    refine pl_ rfl (cl_ (l := [(.slice z82 m82 k82), (.slice z83 m83 k83), (.slice z84 m84 k84), (.slice z85 m85 k85)]) rfl hn_ (I104.nth 0 rfl) ((K 3 (ak_ rfl)).trans e156) rfl rfl (fn rfl rfl I104))
   ·
    intro vs f w_ U X le A K I
    refine pl_ rfl (an_ (v := (pt_ g2)) (e := a1) rfl sh44 ((K 4 (ak_ rfl)).trans e157) ((p1.mono ((le67.trans le79).trans le)).at_ I) (fun u59 hu59 => ?_))
    obtain ⟨z95, m95, k95, rfl⟩ := ad_ hu59
    refine ⟨_, _, rfl, lr, ?_, ?_⟩
    · exact hu59
    exact I
   · exact fun vs f w U X l A K I => pl_ rfl (aw_ (v := (vi x19)) rfl ((K 10 (ak_ rfl)).trans e158) (fn rfl rfl I))
   ·
    intro vs f w_ U X le A K I
    have q80 : f 45 = vs 1 := (A.at_ 0 rfl _ rfl).1 _ rfl
    have r101 : RV U (vs 1) a1 := (A.at_ 0 rfl _ rfl).2
    obtain ⟨u60, hu60⟩ : ∃ u, vs 1 = u := ⟨_, rfl⟩
    rw [hu60] at q80 r101
    obtain ⟨z96, m96, k96, rfl⟩ := ad_ r101
    have q81 := A.u 1 rfl rfl rfl
    refine pl_ rfl (aj_ (v := (.slice z96 m96 k96)) (i := x19) (e := x22) rfl Try.underlying44 sh32 q80 r101 q81 hx22 (⟨_, _, rfl, lr, ?_, ?_⟩))
    ·
     show (ah_ (Value.slice z96 m96 k96) (x19) (Enc.sz Aid)) = (ah_ (vs 1) (x19) (Enc.sz Aid))
     simp only [hu60] <;> rfl
    exact I
   ·
    intro vs f w_ U X le A K I
    have q82 : f 45 = vs 1 := (A.at_ 0 rfl _ rfl).1 _ rfl
    have r102 : RV U (vs 1) a1 := (A.at_ 0 rfl _ rfl).2
    obtain ⟨u61, hu61⟩ : ∃ u, vs 1 = u := ⟨_, rfl⟩
    rw [hu61] at q82 r102
    obtain ⟨z97, m97, k97, rfl⟩ := ad_ r102
    have q83 := A.u 1 rfl rfl rfl
    have q84 : f 47 = (ah_ (vs 1) (x19) (Enc.sz Aid)) := A.u 2 rfl rfl rfl
    simp only [hu61] at q84
    have q84 : f 47 = (ah_ (Value.slice z97 m97 k97) (x19) (Enc.sz Aid)) := q84
    refine pl_ rfl (an_ (v := (ah_ (.slice z97 m97 k97) (x19) (Enc.sz Aid))) (e := x22) rfl sh32 q84 (r102.elem I.in_ hx22) (fun u62 hu62 => ?_))
    obtain ⟨c58, e165, r103⟩ := Aid.inv hu62
    subst e165
    obtain ⟨z98, m98, k98, rfl⟩ := ad_ r103
    refine ⟨_, _, rfl, lr, ?_, ?_⟩
    · exact (Aid.rv (s := x22) r103)
    exact I
   ·
    intro vs f w_ U X le A K I
    have q85 := A.u 0 rfl rfl rfl
    have q86 : f 48 = vs 4 := (A.at_ 4 rfl _ rfl).1 _ rfl
    have r104 : RV U (vs 4) x22 := (A.at_ 4 rfl _ rfl).2
    obtain ⟨u63, hu63⟩ : ∃ u, vs 4 = u := ⟨_, rfl⟩
    rw [hu63] at q86 r104
    obtain ⟨c59, e167, r105⟩ := Aid.inv r104
    subst e167
    obtain ⟨z99, m99, k99, rfl⟩ := ad_ r105
    refine pl_ rfl (bm_ (vs := [(.agg #[(.slice z82 m82 k82), (.slice z83 m83 k83), (.slice z84 m84 k84), (.slice z85 m85 k85)]), (.agg #[(vi x22.Lock), (vi x22.Clue.Kind), (vi x22.Clue.A), (vi x22.Clue.B), (vi x22.Clue.N), (vi x22.Clue.M), (.slice z99 m99 k99), (vb x22.Clue.Not)])]) rfl ca63 rfl (bt_ q85 q86) (mk_ I (Riddle.rv (s := (⟨s1.1, s1.2.1, s1.2.2.1, s1.2.2.2⟩ : Riddle)) (r88.mono (le79.trans le)) (r89.mono (le79.trans le)) (r90.mono (le79.trans le)) (r91.mono (le79.trans le))) (Aid.rv (s := x22) r105) hx23) (fun cv4 w103 S86 O4 le86 I110 hv4 => ?_))
    obtain ⟨c60, rfl, rfl, r106⟩ := hv4
    obtain ⟨c61, c62, c63, c64, e169, r107, r108, r109, r110⟩ := Riddle.inv r106
    subst e169
    obtain ⟨z100, m100, k100, rfl⟩ := ad_ r107
    obtain ⟨z101, m101, k101, rfl⟩ := ad_ r108
    obtain ⟨z102, m102, k102, rfl⟩ := ad_ r109
    obtain ⟨z103, m103, k103, rfl⟩ := ad_ r110
    refine ⟨_, _, rfl, le86, ?_, ?_⟩
    · exact (Riddle.rv (s := x23) r107 r108 r109 r110)
    exact I110
   ·
    intro vs f w_ U X le A K I
    have I111 : Inv w_ U (ao_ g1 27 #[(Value.slice z82 m82 k82), (Value.slice z83 m83 k83), (Value.slice z84 m84 k84), (Value.slice z85 m85 k85)] :: X) := I
    have q87 : f 49 = vs 5 := (A.at_ 5 rfl _ rfl).1 _ rfl
    have r111 : RV U (vs 5) x23 := (A.at_ 5 rfl _ rfl).2
    obtain ⟨u64, hu64⟩ : ∃ u, vs 5 = u := ⟨_, rfl⟩
    rw [hu64] at q87 r111
    obtain ⟨c65, c66, c67, c68, e174, r112, r113, r114, r115⟩ := Riddle.inv r111
    subst e174
    obtain ⟨z104, m104, k104, rfl⟩ := ad_ r112
    obtain ⟨z105, m105, k105, rfl⟩ := ad_ r113
    obtain ⟨z106, m106, k106, rfl⟩ := ad_ r114
    obtain ⟨z107, m107, k107, rfl⟩ := ad_ r115
    refine pl_ rfl (bc_ (v := (.agg #[(.slice z104 m104 k104), (.slice z105 m105 k105), (.slice z106 m106 k106), (.slice z107 m107 k107)])) (cs := #[(.slice z82 m82 k82), (.slice z83 m83 k83), (.slice z84 m84 k84), (.slice z85 m85 k85)]) hn_ I111 ((K 3 (ak_ rfl)).trans e156) q87 rfl (Nat.le_of_ble_eq_true rfl) rfl (fun w105 (I112 : Inv w105 U (ao_ g1 27 #[(.slice z104 m104 k104), (.slice z105 m105 k105), (.slice z106 m106 k106), (.slice z107 m107 k107)] :: X)) => (⟨undef, _, rfl, lr, ?_, ?_⟩)))
    · exact trivial
    show Inv _ _ (ao_ g1 27 #[(dj_ (vs 5) 0), (dj_ (vs 5) 1), (dj_ (vs 5) 2), (dj_ (vs 5) 3)] :: X)
    simp only [hu64]
    exact I112
   intro vs80 f w106 S88 ed12 le88 hF8 hK80 hI81
   have e179 : f 3 = (Value.pointer (some ⟨g1, 0, none⟩)) := (hK80 3 (ap_ rfl)).trans e156
   have e180 : f 4 = (Value.pointer (some ⟨g2, 0, none⟩)) := (hK80 4 (ap_ rfl)).trans e157
   have e181 : f 27 = (Value.slice z6 m6 k6) := (hK80 27 (ap_ rfl)).trans e159
   have e182 : f 28 = (Value.int .i64 ((a2.length : Int))) := (hK80 28 (ap_ rfl)).trans e160
   have e183 : f 29 = (Value.int .i64 ((i1 : Int))) := (hK80 29 (ap_ rfl)).trans e161
   have I113 : Inv w106 S88 (ao_ g1 27 #[(dj_ (vs80 5) 0), (dj_ (vs80 5) 1), (dj_ (vs80 5) 2), (dj_ (vs80 5) 3)] :: Fr) := hI81
   have q88 : f 49 = vs80 5 := (hF8.at_ 5 rfl _ rfl).1 _ rfl
   have r116 : RV S88 (vs80 5) x23 := (hF8.at_ 5 rfl _ rfl).2
   obtain ⟨u65, hu65⟩ : ∃ u, vs80 5 = u := ⟨_, rfl⟩
   rw [hu65] at q88 r116
   have I114 := I113
   rw [hu65] at I114
   obtain ⟨c69, c70, c71, c72, e184, r117, r118, r119, r120⟩ := Riddle.inv r116
   subst e184
   obtain ⟨z108, m108, k108, rfl⟩ := ad_ r117
   obtain ⟨z109, m109, k109, rfl⟩ := ad_ r118
   obtain ⟨z110, m110, k110, rfl⟩ := ad_ r119
   obtain ⟨z111, m111, k111, rfl⟩ := ad_ r120
   refine aa_ (wo_ (bq_ (a := (i1 : Int)) (b := 1) rfl e183 rfl (wm_ (v := (vi (w64 ((i1 : Int) + 1)))) rfl rfl (ae_ ?_))))
   obtain rfl := sj h2
   exact ⟨_, rfl, _, _, _, _, _, _, _, _, _, _, _, _, _, ((le67.trans le79).trans le88), I114, e179, e180, e181, e182, (bo_ hlt1 hk1), r117, r118, r119, r120, (ed12.trans (ed11.trans ed10))⟩
  rintro s2 f w hs1 hI82
  obtain ⟨S89, z112, m112, k112, z113, m113, k113, z114, m114, k114, z115, m115, k115, le89, I115, e189, e190, e191, e192, e193, r121, r122, r123, r124, ed13⟩ := hI82
  refine ab_ (aa_ (wo_ (bg_ (a := (a2.length : Int)) (b := (a2.length : Int)) rfl e193 e192 (ae_ (ab_ (am_ (b := decide ((a2.length : Int) < (a2.length : Int))) rfl (gr_ _) (bl_ ?_)))))))
  exact ⟨s2, hs1, _, _, _, _, _, _, _, _, _, _, _, _, _, le89, I115, e189, e190, e191, e192, r121, r122, r123, r124, ed13⟩
 rintro f w ⟨out1, rfl, S90, z86, m86, k86, z87, m87, k87, z88, m88, k88, z89, m89, k89, le90, I116, e194, e195, e196, e197, r92, r93, r94, r95, ed14⟩
 have h := eh_ h
 refine ab_ (aa_ (wa_ (v := (vb true)) rfl rfl (wa_ (v := (vi 0)) rfl rfl (ae_ (al_ ?_)))))
 obtain rfl := sj h
 exact ⟨ed14, (Value.tuple #[(vb true), (vi 0)]), (ox_ rfl rfl rfl), _, [], (le1.trans le90), (I116).drop, rfl, rfl⟩
theorem hints_Leaves_ok {w : World} {S : PH} {Fr : List HP} {a0 : Riddle} {v0 : Value} {a1 : Aid} {v1 : Value} {r : Int × Int} (hI : Inv w S (Fr)) (h0_ : RV S v0 a0) (h1_ : RV S v1 a1) (h : hk_ a0 a1 = some r) :
    Calls Try.prog 29 [v0, v1].toArray w (ce_ S Fr (Value.tuple #[(Value.int .i64 (r.1)), (Value.int .i64 (r.2))])) := by
 unfold hk_ at h
 obtain ⟨c1, c2, c3, c4, e1, r1, r2, r3, r4⟩ := Riddle.inv h0_
 subst e1
 obtain ⟨z1, m1, k1, rfl⟩ := ad_ r1
 obtain ⟨z2, m2, k2, rfl⟩ := ad_ r2
 obtain ⟨z3, m3, k3, rfl⟩ := ad_ r3
 obtain ⟨z4, m4, k4, rfl⟩ := ad_ r4
 obtain ⟨c5, e6, r5⟩ := Aid.inv h1_
 subst e6
 obtain ⟨z5, m5, k5, rfl⟩ := ad_ r5
 refine au_ (n := 25) (vs := [(.agg #[(.slice z1 m1 k1), (.slice z2 m2 k2), (.slice z3 m3 k3), (.slice z4 m4 k4)]), (.agg #[(vi a1.Lock), (vi a1.Clue.Kind), (vi a1.Clue.A), (vi a1.Clue.B), (vi a1.Clue.N), (vi a1.Clue.M), (.slice z5 m5 k5), (vb a1.Clue.Not)])]) Try.func29 rfl rfl rfl (ab_ (aa_ (wo_ (bh_ (v := (.agg #[(.slice z1 m1 k1), (.slice z2 m2 k2), (.slice z3 m3 k3), (.slice z4 m4 k4)])) rfl hI rfl (fun g1 w1 I1 => ?_)))))
 obtain ⟨S1, le1, I2, p1⟩ := Inv.boxFreeze (x := a0) I1 (Riddle.rv (s := a0) r1 r2 r3 r4)
 refine wo_ (bh_ (v := (.agg #[(vi a1.Lock), (vi a1.Clue.Kind), (vi a1.Clue.A), (vi a1.Clue.B), (vi a1.Clue.N), (vi a1.Clue.M), (.slice z5 m5 k5), (vb a1.Clue.Not)])) rfl I2 rfl (fun g2 w2 I3 => ?_))
 obtain ⟨S2, le2, I4, p2⟩ := Inv.boxFreeze (x := a1) I3 (Aid.rv (s := a1) (r5.mono le1))
 refine wa_ (v := (vi 0)) rfl rfl (wa_ (v := (vi 0)) rfl rfl (ae_ (ab_ (aa_ (wo_ (an_ (v := (pt_ g1)) (e := a0) rfl hn_ rfl ((p1.mono le2).at_ I4) (fun u1 hu1 => ?_)))))))
 obtain ⟨c6, c7, c8, c9, e8, r6, r7, r8, r9⟩ := Riddle.inv hu1
 subst e8
 obtain ⟨z6, m6, k6, rfl⟩ := ad_ r6
 obtain ⟨z7, m7, k7, rfl⟩ := ad_ r7
 obtain ⟨z8, m8, k8, rfl⟩ := ad_ r8
 obtain ⟨z9, m9, k9, rfl⟩ := ad_ r9
 refine wo_ (an_ (v := (pt_ g2)) (e := a1) rfl sh32 rfl (p2.at_ I4) (fun u2 hu2 => ?_))
 obtain ⟨c10, e13, r10⟩ := Aid.inv hu2
 subst e13
 obtain ⟨z10, m10, k10, rfl⟩ := ad_ r10
 obtain ⟨x1, hx1, h⟩ := bnd h
 refine wo_ (bm_ (vs := [(.agg #[(.slice z6 m6 k6), (.slice z7 m7 k7), (.slice z8 m8 k8), (.slice z9 m9 k9)]), (.agg #[(vi a1.Lock), (vi a1.Clue.Kind), (vi a1.Clue.A), (vi a1.Clue.B), (vi a1.Clue.N), (vi a1.Clue.M), (.slice z10 m10 k10), (vb a1.Clue.Not)])]) rfl ca35 rfl (bt_ rfl rfl) (ic_ I4 (Riddle.rv (s := a0) r6 r7 r8 r9) (Aid.rv (s := a1) r10) hx1) (fun cv1 w3 S3 O1 le3 I5 hv1 => ?_))
 obtain ⟨c11, c12, rfl, rfl, r11, r12⟩ := hv1
 refine wm_ (v := (Value.tuple #[c11, c12, (vi x1.2.2)])) rfl rfl (wo_ (bd_ (v := c11) rfl rfl rfl (wo_ (bd_ (v := c12) rfl rfl rfl (wo_ (bd_ (v := (vi x1.2.2)) rfl rfl rfl (wa_ (v := c11) rfl rfl (wa_ (v := c12) rfl rfl (wa_ (v := (vi x1.2.2)) rfl rfl (ae_ (ab_ (ab_ (aa_ (wm_ (v := (vi x1.2.2)) rfl rfl (wo_ (cd_ (a := x1.2.2) (b := 0) rfl rfl rfl (ae_ ?_)))))))))))))))))
 rcases ifs h with ⟨hc1, h⟩ | ⟨hc1, h⟩
 ·
  refine ai_ (b := x1.2.2 != 0) rfl hc1 (ab_ (aa_ (wm_ (v := (vi x1.2.2)) rfl rfl (wa_ (v := (vi 0)) rfl rfl (wa_ (v := (vi x1.2.2)) rfl rfl (ae_ (al_ ?_)))))))
  obtain rfl := sj h
  exact ⟨rfl, (Value.tuple #[(vi 0), (vi x1.2.2)]), (ox_ rfl rfl rfl), _, [], ((le1.trans le2).trans le3), I5, rfl, rfl⟩
 refine am_ (b := x1.2.2 != 0) rfl hc1 (av_ (ab_ ?_))
 obtain ⟨x2, hx2, h⟩ := bnd h
 obtain ⟨x3, hx3, h⟩ := bnd h
 obtain ⟨x4, hx4, h⟩ := bnd h
 refine bk_ (sps := [spV 19 [] 0 c12, ⟨some 20, [0], [1], fun vs_ T_ => ∃ (a0_ : Option Addr) (n0_ k0_ : Nat), fr0 vs_ 0 = (.slice a0_ n0_ k0_), [], [], [0], fun _ h_ => h_⟩, spV 21 [] 2 (af_ (pt_ g2) 0), spV 22 [2] 3 (vi a1.Lock), ⟨some 23, [0, 1, 2, 3], [4, 1], fun vs_ T_ => fr0 vs_ 0 = (ah_ (fr0 vs_ 1) (a1.Lock) (Enc.sz Int)), [0], [], [], fun _ h_ => h_⟩, ⟨some 24, [0, 1, 2, 3, 4], [5], fun vs_ T_ => fr0 vs_ 0 = (vi x4), [0], [], [], fun _ h_ => h_⟩, spV 4 (lrg 6) 6 (vi x4), spV 5 (lrg 7) 7 (vi 0)]) (tks := [⟨some 1, none, [1], fun vs_ => Row (α := Int) 3 (fr0 vs_ 0) (x3)⟩]) (O := Fr) rfl (by kernel_rfl) I5 ⟨?_, ?_, ?_, ?_, ?_, ?_, ?_, ?_, trivial⟩ ?_
 · exact fun vs f w U X l A K I => pl_ rfl (aw_ (v := c12) rfl (K 7 (ak_ rfl)) (fn rfl rfl I))
 ·
  intro vs f w_ U X le A K I
  have q1 := A.u 0 rfl rfl rfl
  refine pl_ rfl (bm_ (vs := [c12]) rfl ca56 rfl (fs_ q1) (er_ I ((kb_ r12 hx2).mono le) hx3) (fun cv2 w6 S6 O2 le6 I8 hv2 => ?_))
  obtain ⟨z11, m11, k11, rfl, rfl⟩ := hv2
  refine ⟨_, _, rfl, le6, ?_, ?_⟩
  · exact ⟨_, _, _, rfl⟩
  exact I8
 · exact fun vs f w U X l A K I => pl_ rfl (ac_ (v := (pt_ g2)) rfl nn_ (K 3 (ak_ rfl)) ((p2.mono (le3.trans l)).at_ I) (fn rfl rfl I))
 · exact fun vs f w U X l A K I => pl_ rfl (ag_ (v := (af_ (pt_ g2) 0)) (e := a1.Lock) rfl sh3 (A.u 0 rfl rfl rfl) (((p2.mono (le3.trans l)).at_ I).fld Aid.fld0) (fn rfl rfl I))
 ·
  intro vs f w_ U X le A K I
  have I11 : Inv w_ U (Row (α := Int) 3 (vs 1) (x3) :: X) := I
  obtain ⟨z12, m12, k12, e15⟩ := (A.at_ 1 rfl _ rfl).2
  have e15 : vs 1 = (Value.slice z12 m12 k12) := e15
  have q3 : f 20 = (Value.slice z12 m12 k12) := ((A.at_ 1 rfl _ rfl).1 _ rfl).trans e15
  have I12 := I11
  rw [e15] at I12
  have q4 := A.u 3 rfl rfl rfl
  refine pl_ rfl (bf_ (v := (.slice z12 m12 k12)) (i := a1.Lock) (e := x4) rfl Try.underlying28 sh3 q3 (Inv.rowSrc (I12.nth 0 rfl)) q4 hx4 (⟨_, _, rfl, lr, ?_, ?_⟩))
  ·
   show (ah_ (Value.slice z12 m12 k12) (a1.Lock) (Enc.sz Int)) = (ah_ (vs 1) (a1.Lock) (Enc.sz Int))
   simp only [e15] <;> rfl
  show Inv _ _ (Row (α := Int) 3 (vs 1) (x3) :: X)
  simp only [e15]
  exact I12
 ·
  intro vs f w_ U X le A K I
  have I13 : Inv w_ U (Row (α := Int) 3 (vs 1) (x3) :: X) := I
  obtain ⟨z13, m13, k13, e16⟩ := (A.at_ 1 rfl _ rfl).2
  have e16 : vs 1 = (Value.slice z13 m13 k13) := e16
  have q5 : f 20 = (Value.slice z13 m13 k13) := ((A.at_ 1 rfl _ rfl).1 _ rfl).trans e16
  have I14 := I13
  rw [e16] at I14
  have q6 := A.u 3 rfl rfl rfl
  have q7 : f 23 = (ah_ (vs 1) (a1.Lock) (Enc.sz Int)) := A.u 4 rfl rfl rfl
  simp only [e16] at q7
  have q7 : f 23 = (ah_ (Value.slice z13 m13 k13) (a1.Lock) (Enc.sz Int)) := q7
  refine pl_ rfl (ag_ (v := (ah_ (.slice z13 m13 k13) (a1.Lock) (Enc.sz Int))) (e := x4) rfl sh3 q7 ((I14.nth 0 rfl).rowElem hx4) (⟨_, _, rfl, lr, ?_, ?_⟩))
  · exact rfl
  show Inv _ _ (Row (α := Int) 3 (vs 1) (x3) :: X)
  simp only [e16]
  exact I14
 · exact fun vs f w U X l A K I => pl_ rfl (bs_ (v := (vi x4)) rfl (A.u 5 rfl rfl rfl) (fn rfl rfl I))
 ·
  intro vs f w_ U X le A K I
  refine pl_ rfl (bs_ (v := (vi 0)) rfl rfl (fn rfl rfl I))
 intro vs9 f w13 S13 ed1 le13 hF1 hK9 hI9
 have I17 : Inv w13 S13 (Row (α := Int) 3 (vs9 1) (x3) :: Fr) := hI9
 obtain ⟨z14, m14, k14, e17⟩ := (hF1.at_ 1 rfl _ rfl).2
 have e17 : vs9 1 = (Value.slice z14 m14 k14) := e17
 have q9 : f 20 = (Value.slice z14 m14 k14) := ((hF1.at_ 1 rfl _ rfl).1 _ rfl).trans e17
 have I18 := I17
 rw [e17] at I18
 have q10 := hF1.u 6 rfl rfl rfl
 have q11 := hF1.u 7 rfl rfl rfl
 refine al_ ?_
 obtain rfl := sj h
 exact ⟨(ed1.trans rfl), (Value.tuple #[(vi x4), (vi 0)]), (ox_ rfl q10 q11), _, [], (((le1.trans le2).trans le3).trans le13), (I18).drop, rfl, rfl⟩
end Go.Proofs.Ytlpdpeghgndmkaa.Pad
