/- A part of the proof: what the functions of the program compute, shown over the model. -/
import Derived.Test.YtlpdpeghgndmkaaGreatHizP
import Derived.Test.YtlpdpeghgndmkaaGreatHizW1
import Derived.Test.YtlpdpeghgndmkaaGreatHizW4
import Derived.Test.YtlpdpeghgndmkaaGreatHizW10
import Derived.Test.YtlpdpeghgndmkaaGreatHizW11
import Derived.Test.YtlpdpeghgndmkaaGreatHizW13
import Derived.Test.YtlpdpeghgndmkaaGreatHizW14
import Derived.Test.YtlpdpeghgndmkaaGreatHizW15
import Derived.Test.YtlpdpeghgndmkaaGreatHizW19
import Derived.Test.YtlpdpeghgndmkaaGreatHizW20
import Derived.KernelRfl
set_option linter.unusedVariables false
set_option maxHeartbeats 4000000
set_option maxRecDepth 100000
namespace Go.Proofs.YtlpdpeghgndmkaaGreat.Pad
open Go Go.Proofs
theorem ie_ {w : World} {S : PH} {Fr : List HP} {a0 : Riddle} {v0 : Value} {a1 : Aid} {v1 : Value} {r : Int} (hI : Inv w S (Fr)) (h0_ : RV S v0 a0) (h1_ : RV S v1 a1) (h : er_ a0 a1 = some r) :
    Calls Tryz.prog 38 [v0, v1].toArray w (ck_ S Fr (Value.int .i64 (r))) := by
 unfold er_ at h
 obtain ⟨c1, c2, c3, c4, e1, r1, r2, r3, r4⟩ := Riddle.inv h0_
 subst e1
 obtain ⟨z1, m1, k1, rfl⟩ := ad_ r1
 obtain ⟨z2, m2, k2, rfl⟩ := ad_ r2
 obtain ⟨z3, m3, k3, rfl⟩ := ad_ r3
 obtain ⟨z4, m4, k4, rfl⟩ := ad_ r4
 obtain ⟨c5, e6, r5⟩ := Aid.inv h1_
 subst e6
 obtain ⟨z5, m5, k5, rfl⟩ := ad_ r5
 refine au_ (n := 19) (vs := [(.agg #[(.slice z1 m1 k1), (.slice z2 m2 k2), (.slice z3 m3 k3), (.slice z4 m4 k4)]), (.agg #[(vi a1.Lock), (vi a1.Clue.Kind), (vi a1.Clue.A), (vi a1.Clue.B), (vi a1.Clue.N), (vi a1.Clue.M), (.slice z5 m5 k5), (vb a1.Clue.Not)])]) Tryz.func38 rfl rfl rfl (ab_ (aa_ (wo_ (bk_ (v := (.agg #[(.slice z1 m1 k1), (.slice z2 m2 k2), (.slice z3 m3 k3), (.slice z4 m4 k4)])) rfl hI rfl (fun g1 w1 I1 => ?_)))))
 obtain ⟨S1, le1, I2, p1⟩ := Inv.boxFreeze (x := a0) I1 (Riddle.rv (s := a0) r1 r2 r3 r4)
 refine wo_ (bk_ (v := (.agg #[(vi a1.Lock), (vi a1.Clue.Kind), (vi a1.Clue.A), (vi a1.Clue.B), (vi a1.Clue.N), (vi a1.Clue.M), (.slice z5 m5 k5), (vb a1.Clue.Not)])) rfl I2 rfl (fun g2 w2 I3 => ?_))
 obtain ⟨S2, le2, I4, p2⟩ := Inv.boxFreeze (x := a1) I3 (Aid.rv (s := a1) (r5.mono le1))
 refine wa_ (v := (vi 0)) rfl rfl (ae_ (ab_ (ab_ (aa_ (wo_ (aj_ (v := (pt_ g1)) (e := a0) rfl gd_ rfl ((p1.mono le2).at_ I4) (fun u1 hu1 => ?_)))))))
 obtain ⟨c6, c7, c8, c9, e8, r6, r7, r8, r9⟩ := Riddle.inv hu1
 subst e8
 obtain ⟨z6, m6, k6, rfl⟩ := ad_ r6
 obtain ⟨z7, m7, k7, rfl⟩ := ad_ r7
 obtain ⟨z8, m8, k8, rfl⟩ := ad_ r8
 obtain ⟨z9, m9, k9, rfl⟩ := ad_ r9
 obtain ⟨x1, hx1, h⟩ := bnd h
 refine wo_ (aq_ (vs := [(.agg #[(.slice z6 m6 k6), (.slice z7 m7 k7), (.slice z8 m8 k8), (.slice z9 m9 k9)])]) (r := (vi x1)) rfl ca75 rfl (ff_ rfl) I4 (fun Fr_ hF_ => rc_ hF_ (Riddle.rv (s := a0) r6 r7 r8 r9) hx1) (fun w3 I5 => (wa_ (v := (vi x1)) rfl rfl (ae_ (ab_ (aa_ (wm_ (v := (vi x1)) rfl rfl (wo_ (cf_ (a := x1) (b := 0) rfl rfl rfl (ae_ ?_))))))))))
 rcases ifs h with ⟨hc1, h⟩ | ⟨hc1, h⟩
 ·
  refine al_ (b := x1 != 0) rfl hc1 (ab_ (aa_ (wm_ (v := (vi x1)) rfl rfl (wa_ (v := (vi x1)) rfl rfl (ae_ (an_ ?_))))))
  obtain rfl := sj h
  exact ⟨rfl, (vi x1), (bt_ rfl rfl), _, [], (le1.trans le2), I5, rfl, rfl⟩
 refine am_ (b := x1 != 0) rfl hc1 (av_ (ab_ (ab_ (aa_ (wo_ (aj_ (v := (pt_ g1)) (e := a0) rfl gd_ rfl ((p1.mono le2).at_ I5) (fun u2 hu2 => ?_)))))))
 obtain ⟨c10, c11, c12, c13, e13, r10, r11, r12, r13⟩ := Riddle.inv hu2
 subst e13
 obtain ⟨z10, m10, k10, rfl⟩ := ad_ r10
 obtain ⟨z11, m11, k11, rfl⟩ := ad_ r11
 obtain ⟨z12, m12, k12, rfl⟩ := ad_ r12
 obtain ⟨z13, m13, k13, rfl⟩ := ad_ r13
 refine wo_ (aj_ (v := (pt_ g2)) (e := a1) rfl uj_ rfl (p2.at_ I5) (fun u3 hu3 => ?_))
 obtain ⟨c14, e18, r14⟩ := Aid.inv hu3
 subst e18
 obtain ⟨z14, m14, k14, rfl⟩ := ad_ r14
 obtain ⟨x2, hx2, h⟩ := bnd h
 refine wo_ (aq_ (vs := [(.agg #[(.slice z10 m10 k10), (.slice z11 m11 k11), (.slice z12 m12 k12), (.slice z13 m13 k13)]), (.agg #[(vi a1.Lock), (vi a1.Clue.Kind), (vi a1.Clue.A), (vi a1.Clue.B), (vi a1.Clue.N), (vi a1.Clue.M), (.slice z14 m14 k14), (vb a1.Clue.Not)])]) (r := (vb x2)) rfl ca76 rfl (bu_ rfl rfl) I5 (fun Fr_ hF_ => te_ hF_ (Riddle.rv (s := a0) r10 r11 r12 r13) (Aid.rv (s := a1) r14) hx2) (fun w4 I6 => (wo_ (ce_ (b := x2) rfl rfl (ae_ ?_)))))
 rcases ifs h with ⟨hc2, h⟩ | ⟨hc2, h⟩
 ·
  refine al_ (b := !x2) rfl hc2 (ab_ (aa_ (wa_ (v := (vi 70)) rfl rfl (ae_ (an_ ?_)))))
  obtain rfl := sj h
  exact ⟨rfl, (vi 70), (bt_ rfl rfl), _, [], (le1.trans le2), I6, rfl, rfl⟩
 refine am_ (b := !x2) rfl hc2 (av_ (ab_ (ab_ (aa_ (wo_ (aj_ (v := (pt_ g1)) (e := a0) rfl gd_ rfl ((p1.mono le2).at_ I6) (fun u4 hu4 => ?_)))))))
 obtain ⟨c15, c16, c17, c18, e20, r15, r16, r17, r18⟩ := Riddle.inv hu4
 subst e20
 obtain ⟨z15, m15, k15, rfl⟩ := ad_ r15
 obtain ⟨z16, m16, k16, rfl⟩ := ad_ r16
 obtain ⟨z17, m17, k17, rfl⟩ := ad_ r17
 obtain ⟨z18, m18, k18, rfl⟩ := ad_ r18
 refine wo_ (ac_ (v := (pt_ g2)) rfl jc_ rfl (p2.at_ I6) (wo_ (af_ (v := (ag_ (pt_ g2) 0)) (e := a1.Lock) rfl sh3 rfl ((p2.at_ I6).fld Aid.fld0) ?_)))
 obtain ⟨x3, hx3, h⟩ := bnd h
 refine wo_ (aq_ (vs := [(.agg #[(.slice z15 m15 k15), (.slice z16 m16 k16), (.slice z17 m17 k17), (.slice z18 m18 k18)]), (vi a1.Lock)]) (r := (vb x3)) rfl ca77 rfl (bu_ rfl rfl) I6 (fun Fr_ hF_ => uq_ hF_ (Riddle.rv (s := a0) r15 r16 r17 r18) hx3) (fun w5 I7 => (ae_ ?_)))
 rcases ifs h with ⟨hc3, h⟩ | ⟨hc3, h⟩
 ·
  refine al_ (b := x3) rfl hc3 (ab_ (aa_ (wa_ (v := (vi 2)) rfl rfl (ae_ (an_ ?_)))))
  obtain rfl := sj h
  exact ⟨rfl, (vi 2), (bt_ rfl rfl), _, [], (le1.trans le2), I7, rfl, rfl⟩
 refine am_ (b := x3) rfl hc3 (av_ (ab_ (aa_ (wa_ (v := (vi 0)) rfl rfl (ae_ (an_ ?_))))))
 obtain rfl := sj h
 exact ⟨rfl, (vi 0), (bt_ rfl rfl), _, [], (le1.trans le2), I7, rfl, rfl⟩
theorem us_ {w : World} {S : PH} {Fr : List HP} {a0 : Riddle} {v0 : Value} {a1 : Aid} {v1 : Value} {r : Riddle × Int} (hI : Inv w S (Fr)) (h0_ : RV S v0 a0) (h1_ : RV S v1 a1) (h : lr_ a0 a1 = some r) :
    Calls Tryz.prog 12 [v0, v1].toArray w (lj_ S Fr (fun T_ v_ O_ => ∃ (c0_ : Value), v_ = (Value.tuple #[c0_, (Value.int .i64 (r.2))]) ∧ O_ = [] ∧ RV T_ c0_ r.1)) := by
 unfold lr_ at h
 obtain ⟨c1, c2, c3, c4, e1, r1, r2, r3, r4⟩ := Riddle.inv h0_
 subst e1
 obtain ⟨z1, m1, k1, rfl⟩ := ad_ r1
 obtain ⟨z2, m2, k2, rfl⟩ := ad_ r2
 obtain ⟨z3, m3, k3, rfl⟩ := ad_ r3
 obtain ⟨z4, m4, k4, rfl⟩ := ad_ r4
 obtain ⟨c5, e6, r5⟩ := Aid.inv h1_
 subst e6
 obtain ⟨z5, m5, k5, rfl⟩ := ad_ r5
 refine au_ (n := 17) (vs := [(.agg #[(.slice z1 m1 k1), (.slice z2 m2 k2), (.slice z3 m3 k3), (.slice z4 m4 k4)]), (.agg #[(vi a1.Lock), (vi a1.Clue.Kind), (vi a1.Clue.A), (vi a1.Clue.B), (vi a1.Clue.N), (vi a1.Clue.M), (.slice z5 m5 k5), (vb a1.Clue.Not)])]) Tryz.func12 rfl rfl rfl (ab_ (aa_ (wo_ (bk_ (v := (.agg #[(.slice z1 m1 k1), (.slice z2 m2 k2), (.slice z3 m3 k3), (.slice z4 m4 k4)])) rfl hI rfl (fun g1 w1 I1 => ?_)))))
 obtain ⟨S1, le1, I2, p1⟩ := Inv.boxFreeze (x := a0) I1 (Riddle.rv (s := a0) r1 r2 r3 r4)
 refine wo_ (bk_ (v := (.agg #[(vi a1.Lock), (vi a1.Clue.Kind), (vi a1.Clue.A), (vi a1.Clue.B), (vi a1.Clue.N), (vi a1.Clue.M), (.slice z5 m5 k5), (vb a1.Clue.Not)])) rfl I2 rfl (fun g2 w2 I3 => ?_))
 obtain ⟨S2, le2, I4, p2⟩ := Inv.boxFreeze (x := a1) I3 (Aid.rv (s := a1) (r5.mono le1))
 refine wo_ (bv_ (z := (.agg #[(.slice none 0 0), (.slice none 0 0), (.slice none 0 0), (.slice none 0 0)])) rfl I4 yv_ (fun g3 w3 (I5 : Inv w3 S2 (ap_ g3 27 #[(.slice none 0 0), (.slice none 0 0), (.slice none 0 0), (.slice none 0 0)] :: Fr)) => (wa_ (v := (vi 0)) rfl rfl (ae_ (ab_ (ab_ (aa_ (wo_ (aj_ (v := (pt_ g1)) (e := a0) rfl gd_ rfl ((p1.mono le2).at_ I5) (fun u1 hu1 => ?_))))))))))
 obtain ⟨c6, c7, c8, c9, e8, r6, r7, r8, r9⟩ := Riddle.inv hu1
 subst e8
 obtain ⟨z6, m6, k6, rfl⟩ := ad_ r6
 obtain ⟨z7, m7, k7, rfl⟩ := ad_ r7
 obtain ⟨z8, m8, k8, rfl⟩ := ad_ r8
 obtain ⟨z9, m9, k9, rfl⟩ := ad_ r9
 refine wo_ (aj_ (v := (pt_ g2)) (e := a1) rfl uj_ rfl (p2.at_ I5) (fun u2 hu2 => ?_))
 obtain ⟨c10, e13, r10⟩ := Aid.inv hu2
 subst e13
 obtain ⟨z10, m10, k10, rfl⟩ := ad_ r10
 obtain ⟨x1, hx1, h⟩ := bnd h
 refine wo_ (aq_ (vs := [(.agg #[(.slice z6 m6 k6), (.slice z7 m7 k7), (.slice z8 m8 k8), (.slice z9 m9 k9)]), (.agg #[(vi a1.Lock), (vi a1.Clue.Kind), (vi a1.Clue.A), (vi a1.Clue.B), (vi a1.Clue.N), (vi a1.Clue.M), (.slice z10 m10 k10), (vb a1.Clue.Not)])]) (r := (vi x1)) rfl ca38 rfl (bu_ rfl rfl) I5 (fun Fr_ hF_ => ie_ hF_ (Riddle.rv (s := a0) r6 r7 r8 r9) (Aid.rv (s := a1) r10) hx1) (fun w4 I6 => (wa_ (v := (vi x1)) rfl rfl (ae_ (ab_ (aa_ (wm_ (v := (vi x1)) rfl rfl (wo_ (cf_ (a := x1) (b := 0) rfl rfl rfl (ae_ ?_))))))))))
 rcases ifs h with ⟨hc1, h⟩ | ⟨hc1, h⟩
 ·
  refine al_ (b := x1 != 0) rfl hc1 (ab_ (aa_ (wo_ (fw_ (qs := []) (c := #[(.slice none 0 0), (.slice none 0 0), (.slice none 0 0), (.slice none 0 0)]) rfl st27 trivial rfl (wm_ (v := (vi x1)) rfl rfl (wo_ (bc_ (v := (.agg #[(.slice none 0 0), (.slice none 0 0), (.slice none 0 0), (.slice none 0 0)])) (cs := #[(.slice none 0 0), (.slice none 0 0), (.slice none 0 0), (.slice none 0 0)]) gd_ I6 rfl rfl rfl nb rfl (fun w5 (I7 : Inv w5 S2 (ap_ g3 27 #[(.slice none 0 0), (.slice none 0 0), (.slice none 0 0), (.slice none 0 0)] :: Fr)) => (wa_ (v := (vi x1)) rfl rfl (ae_ (an_ ?_)))))))))))
  obtain rfl := sj h
  exact ⟨rfl, (Value.tuple #[(.agg #[(.slice none 0 0), (.slice none 0 0), (.slice none 0 0), (.slice none 0 0)]), (vi x1)]), (res2c (cs := #[(.slice none 0 0), (.slice none 0 0), (.slice none 0 0), (.slice none 0 0)]) rfl rfl gd_ I7 rfl), _, [], (le1.trans le2), (I7).drop, _, rfl, rfl, (Riddle.rv (s := (⟨([] : (List CodeLock)), ([] : (List (List Int))), ([] : (List (List Clue))), ([] : (List Tie))⟩ : Riddle)) rv_nil rv_nil rv_nil rv_nil)⟩
 refine am_ (b := x1 != 0) rfl hc1 (av_ (ab_ (aa_ (wo_ (aj_ (v := (pt_ g1)) (e := a0) rfl gd_ rfl ((p1.mono le2).at_ I6) (fun u3 hu3 => ?_))))))
 obtain ⟨c11, c12, c13, c14, e15, r11, r12, r13, r14⟩ := Riddle.inv hu3
 subst e15
 obtain ⟨z11, m11, k11, rfl⟩ := ad_ r11
 obtain ⟨z12, m12, k12, rfl⟩ := ad_ r12
 obtain ⟨z13, m13, k13, rfl⟩ := ad_ r13
 obtain ⟨z14, m14, k14, rfl⟩ := ad_ r14
 refine wo_ (aj_ (v := (pt_ g2)) (e := a1) rfl uj_ rfl (p2.at_ I6) (fun u4 hu4 => ?_))
 obtain ⟨c15, e20, r15⟩ := Aid.inv hu4
 subst e20
 obtain ⟨z15, m15, k15, rfl⟩ := ad_ r15
 obtain ⟨x2, hx2, h⟩ := bnd h
 refine wo_ (bn_ (vs := [(.agg #[(.slice z11 m11 k11), (.slice z12 m12 k12), (.slice z13 m13 k13), (.slice z14 m14 k14)]), (.agg #[(vi a1.Lock), (vi a1.Clue.Kind), (vi a1.Clue.A), (vi a1.Clue.B), (vi a1.Clue.N), (vi a1.Clue.M), (.slice z15 m15 k15), (vb a1.Clue.Not)])]) rfl ca39 rfl (bu_ rfl rfl) (mg_ I6 (Riddle.rv (s := a0) r11 r12 r13 r14) (Aid.rv (s := a1) r15) hx2) (fun cv1 w6 S3 O1 le3 I8 hv1 => ?_))
 obtain ⟨c16, rfl, rfl, r16⟩ := hv1
 obtain ⟨c17, c18, c19, c20, e22, r17, r18, r19, r20⟩ := Riddle.inv r16
 subst e22
 obtain ⟨z16, m16, k16, rfl⟩ := ad_ r17
 obtain ⟨z17, m17, k17, rfl⟩ := ad_ r18
 obtain ⟨z18, m18, k18, rfl⟩ := ad_ r19
 obtain ⟨z19, m19, k19, rfl⟩ := ad_ r20
 refine wo_ (bc_ (v := (.agg #[(.slice z16 m16 k16), (.slice z17 m17 k17), (.slice z18 m18 k18), (.slice z19 m19 k19)])) (cs := #[(.slice none 0 0), (.slice none 0 0), (.slice none 0 0), (.slice none 0 0)]) gd_ I8 rfl rfl rfl nb rfl (fun w7 (I9 : Inv w7 S3 (ap_ g3 27 #[(.slice z16 m16 k16), (.slice z17 m17 k17), (.slice z18 m18 k18), (.slice z19 m19 k19)] :: Fr)) => (wa_ (v := (vi 0)) rfl rfl (ae_ (an_ ?_)))))
 obtain rfl := sj h
 exact ⟨rfl, (Value.tuple #[(.agg #[(.slice z16 m16 k16), (.slice z17 m17 k17), (.slice z18 m18 k18), (.slice z19 m19 k19)]), (vi 0)]), (res2c (cs := #[(.slice z16 m16 k16), (.slice z17 m17 k17), (.slice z18 m18 k18), (.slice z19 m19 k19)]) rfl rfl gd_ I9 rfl), _, [], ((le1.trans le2).trans le3), (I9).drop, _, rfl, rfl, (Riddle.rv (s := x2) r17 r18 r19 r20)⟩
theorem om_ {w : World} {S : PH} {Fr : List HP} {a0 : Riddle} {v0 : Value} {a1 : Riddle} {v1 : Value} {r : Bool} (hI : Inv w S (Fr)) (h0_ : RV S v0 a0) (h1_ : RV S v1 a1) (h : ek_ a0 a1 = some r) :
    Calls Tryz.prog 13 [v0, v1].toArray w (ck_ S Fr (Value.bool (r))) := by
 unfold ek_ at h
 obtain ⟨c1, c2, c3, c4, e1, r1, r2, r3, r4⟩ := Riddle.inv h0_
 subst e1
 obtain ⟨z1, m1, k1, rfl⟩ := ad_ r1
 obtain ⟨z2, m2, k2, rfl⟩ := ad_ r2
 obtain ⟨z3, m3, k3, rfl⟩ := ad_ r3
 obtain ⟨z4, m4, k4, rfl⟩ := ad_ r4
 obtain ⟨c5, c6, c7, c8, e6, r5, r6, r7, r8⟩ := Riddle.inv h1_
 subst e6
 obtain ⟨z5, m5, k5, rfl⟩ := ad_ r5
 obtain ⟨z6, m6, k6, rfl⟩ := ad_ r6
 obtain ⟨z7, m7, k7, rfl⟩ := ad_ r7
 obtain ⟨z8, m8, k8, rfl⟩ := ad_ r8
 refine au_ (n := 126) (vs := [(.agg #[(.slice z1 m1 k1), (.slice z2 m2 k2), (.slice z3 m3 k3), (.slice z4 m4 k4)]), (.agg #[(.slice z5 m5 k5), (.slice z6 m6 k6), (.slice z7 m7 k7), (.slice z8 m8 k8)])]) Tryz.func13 rfl rfl rfl (ab_ (aa_ (wo_ (bk_ (v := (.agg #[(.slice z1 m1 k1), (.slice z2 m2 k2), (.slice z3 m3 k3), (.slice z4 m4 k4)])) rfl hI rfl (fun g1 w1 I1 => ?_)))))
 obtain ⟨S1, le1, I2, p1⟩ := Inv.boxFreeze (x := a0) I1 (Riddle.rv (s := a0) r1 r2 r3 r4)
 refine wo_ (bk_ (v := (.agg #[(.slice z5 m5 k5), (.slice z6 m6 k6), (.slice z7 m7 k7), (.slice z8 m8 k8)])) rfl I2 rfl (fun g2 w2 I3 => ?_))
 obtain ⟨S2, le2, I4, p2⟩ := Inv.boxFreeze (x := a1) I3 (Riddle.rv (s := a1) (r5.mono le1) (r6.mono le1) (r7.mono le1) (r8.mono le1))
 refine wa_ (v := (vb false)) rfl rfl (ae_ (ab_ (ab_ (aa_ (wo_ (ac_ (v := (pt_ g1)) rfl cj_ rfl ((p1.mono le2).at_ I4) (wo_ (aj_ (v := (ag_ (pt_ g1) 0)) (e := a0.Locks) rfl jw_ rfl (((p1.mono le2).at_ I4).fld Riddle.fld0) (fun u9 hu9 => ?_)))))))))
 obtain ⟨z17, m17, k17, rfl⟩ := ad_ hu9
 refine wo_ (az_ rfl Tryz.underlying22 rfl hu9 (wo_ (ac_ (v := (pt_ g2)) rfl cj_ rfl (p2.at_ I4) (wo_ (aj_ (v := (ag_ (pt_ g2) 0)) (e := a1.Locks) rfl jw_ rfl ((p2.at_ I4).fld Riddle.fld0) (fun u10 hu10 => ?_))))))
 obtain ⟨z18, m18, k18, rfl⟩ := ad_ hu10
 refine wo_ (az_ rfl Tryz.underlying22 rfl hu10 (wo_ (cf_ (a := (a0.Locks.length : Int)) (b := (a1.Locks.length : Int)) rfl rfl rfl (wm_ (v := (vb ((a0.Locks.length : Int) != (a1.Locks.length : Int)))) rfl rfl ?_))))
 rcases ifs h with ⟨hc5, h⟩ | ⟨hc5, h⟩
 ·
  refine ws_ rfl rfl hc5 (ws_ rfl rfl hc5 (ws_ rfl rfl hc5 (ws_ rfl rfl hc5 (ws_ rfl rfl hc5 (ws_ rfl rfl hc5 (wo_ (ba_ (c := (a0.Locks.length : Int) != (a1.Locks.length : Int)) (a := (vb true)) rfl rfl hc5 rfl (wm_ (v := (vb true)) rfl rfl (ws_ (c := true) rfl rfl rfl (ws_ (c := true) rfl rfl rfl (ws_ (c := true) rfl rfl rfl (ws_ (c := true) rfl rfl rfl (ws_ (c := true) rfl rfl rfl (ws_ (c := true) rfl rfl rfl (ws_ (c := true) rfl rfl rfl (wo_ (ba_ (c := true) (a := (vb true)) rfl rfl rfl rfl (wm_ (v := (vb true)) rfl rfl (ws_ (c := true) rfl rfl rfl (ws_ (c := true) rfl rfl rfl (ws_ (c := true) rfl rfl rfl (ws_ (c := true) rfl rfl rfl (ws_ (c := true) rfl rfl rfl (ws_ (c := true) rfl rfl rfl (ws_ (c := true) rfl rfl rfl (wo_ (ba_ (c := true) (a := (vb true)) rfl rfl rfl rfl ?_)))))))))))))))))))))))))))
  refine ae_ (al_ (b := true) rfl rfl (ab_ (aa_ (wa_ (v := (vb false)) rfl rfl (ae_ (an_ ?_))))))
  obtain rfl := sj h
  exact ⟨rfl, (vb false), (bt_ rfl rfl), _, [], (le1.trans le2), I4, rfl, rfl⟩
 refine wk_ rfl rfl hc5 (ac_ (v := (pt_ g1)) rfl gk_ rfl ((p1.mono le2).at_ I4) (wk_ rfl rfl hc5 (aj_ (v := (ag_ (pt_ g1) 1)) (e := a0.Codes) rfl kp_ rfl (((p1.mono le2).at_ I4).fld Riddle.fld1) (fun u11 hu11 => ?_))))
 obtain ⟨z19, m19, k19, rfl⟩ := ad_ hu11
 refine wk_ rfl rfl hc5 (ac_ (v := (pt_ g2)) rfl gk_ rfl (p2.at_ I4) (wk_ rfl rfl hc5 (aj_ (v := (ag_ (pt_ g2) 1)) (e := a1.Codes) rfl kp_ rfl ((p2.at_ I4).fld Riddle.fld1) (fun u12 hu12 => ?_))))
 obtain ⟨z20, m20, k20, rfl⟩ := ad_ hu12
 obtain ⟨x2, hx2, h⟩ := bnd h
 refine wk_ rfl rfl hc5 (aq_ (vs := [(.slice z19 m19 k19), (.slice z20 m20 k20)]) (r := (vb x2)) rfl ca40 rfl (bu_ rfl rfl) I4 (fun Fr_ hF_ => pq_ hF_ hu11 hu12 hx2) (fun w4 I6 => (wk_ rfl rfl hc5 (ce_ (b := x2) rfl rfl (wo_ (ar_ (c := (a0.Locks.length : Int) != (a1.Locks.length : Int)) (b := (vb (!x2))) rfl rfl hc5 rfl (wm_ (v := (vb (!x2))) rfl rfl ?_)))))))
 rcases ifs h with ⟨hc6, h⟩ | ⟨hc6, h⟩
 ·
  refine ws_ rfl rfl hc6 (ws_ rfl rfl hc6 (ws_ rfl rfl hc6 (ws_ rfl rfl hc6 (ws_ rfl rfl hc6 (ws_ rfl rfl hc6 (ws_ rfl rfl hc6 (wo_ (ba_ (c := !x2) (a := (vb true)) rfl rfl hc6 rfl (wm_ (v := (vb true)) rfl rfl (ws_ (c := true) rfl rfl rfl (ws_ (c := true) rfl rfl rfl (ws_ (c := true) rfl rfl rfl (ws_ (c := true) rfl rfl rfl (ws_ (c := true) rfl rfl rfl (ws_ (c := true) rfl rfl rfl (ws_ (c := true) rfl rfl rfl (wo_ (ba_ (c := true) (a := (vb true)) rfl rfl rfl rfl (ae_ (al_ (b := true) rfl rfl (ab_ (aa_ (wa_ (v := (vb false)) rfl rfl (ae_ (an_ ?_)))))))))))))))))))))))))
  obtain rfl := sj h
  exact ⟨rfl, (vb false), (bt_ rfl rfl), _, [], (le1.trans le2), I6, rfl, rfl⟩
 refine wk_ rfl rfl hc6 (ac_ (v := (pt_ g1)) rfl dp_ rfl ((p1.mono le2).at_ I6) (wk_ rfl rfl hc6 (aj_ (v := (ag_ (pt_ g1) 2)) (e := a0.Known) rfl mu_ rfl (((p1.mono le2).at_ I6).fld Riddle.fld2) (fun u13 hu13 => ?_))))
 obtain ⟨z21, m21, k21, rfl⟩ := ad_ hu13
 refine wk_ rfl rfl hc6 (az_ rfl Tryz.underlying24 rfl hu13 (wk_ rfl rfl hc6 (ac_ (v := (pt_ g2)) rfl dp_ rfl (p2.at_ I6) (wk_ rfl rfl hc6 (aj_ (v := (ag_ (pt_ g2) 2)) (e := a1.Known) rfl mu_ rfl ((p2.at_ I6).fld Riddle.fld2) (fun u14 hu14 => ?_))))))
 obtain ⟨z22, m22, k22, rfl⟩ := ad_ hu14
 refine wk_ rfl rfl hc6 (az_ rfl Tryz.underlying24 rfl hu14 (wk_ rfl rfl hc6 (cf_ (a := (a0.Known.length : Int)) (b := (a1.Known.length : Int)) rfl rfl rfl (wo_ (ar_ (c := !x2) (b := (vb ((a0.Known.length : Int) != (a1.Known.length : Int)))) rfl rfl hc6 rfl (wm_ (v := (vb ((a0.Known.length : Int) != (a1.Known.length : Int)))) rfl rfl ?_))))))
 rcases ifs h with ⟨hc7, h⟩ | ⟨hc7, h⟩
 ·
  refine ws_ rfl rfl hc7 (ws_ rfl rfl hc7 (ws_ rfl rfl hc7 (ws_ rfl rfl hc7 (ws_ rfl rfl hc7 (ws_ rfl rfl hc7 (ws_ rfl rfl hc7 (wo_ (ba_ (c := (a0.Known.length : Int) != (a1.Known.length : Int)) (a := (vb true)) rfl rfl hc7 rfl (ae_ (al_ (b := true) rfl rfl (ab_ (aa_ (wa_ (v := (vb false)) rfl rfl (ae_ (an_ ?_)))))))))))))))
  obtain rfl := sj h
  exact ⟨rfl, (vb false), (bt_ rfl rfl), _, [], (le1.trans le2), I6, rfl, rfl⟩
 refine wk_ rfl rfl hc7 (ac_ (v := (pt_ g1)) rfl ic_ rfl ((p1.mono le2).at_ I6) (wk_ rfl rfl hc7 (aj_ (v := (ag_ (pt_ g1) 3)) (e := a0.Ties) rfl vq_ rfl (((p1.mono le2).at_ I6).fld Riddle.fld3) (fun u15 hu15 => ?_))))
 obtain ⟨z23, m23, k23, rfl⟩ := ad_ hu15
 refine wk_ rfl rfl hc7 (az_ rfl Tryz.underlying25 rfl hu15 (wk_ rfl rfl hc7 (ac_ (v := (pt_ g2)) rfl ic_ rfl (p2.at_ I6) (wk_ rfl rfl hc7 (aj_ (v := (ag_ (pt_ g2) 3)) (e := a1.Ties) rfl vq_ rfl ((p2.at_ I6).fld Riddle.fld3) (fun u16 hu16 => ?_))))))
 obtain ⟨z24, m24, k24, rfl⟩ := ad_ hu16
 refine wk_ rfl rfl hc7 (az_ rfl Tryz.underlying25 rfl hu16 (wk_ rfl rfl hc7 (cf_ (a := (a0.Ties.length : Int)) (b := (a1.Ties.length : Int)) rfl rfl rfl (wo_ (ar_ (c := (a0.Known.length : Int) != (a1.Known.length : Int)) (b := (vb ((a0.Ties.length : Int) != (a1.Ties.length : Int)))) rfl rfl hc7 rfl (ae_ ?_))))))
 rcases ifs h with ⟨hc8, h⟩ | ⟨hc8, h⟩
 ·
  refine al_ (b := (a0.Ties.length : Int) != (a1.Ties.length : Int)) rfl hc8 (ab_ (aa_ (wa_ (v := (vb false)) rfl rfl (ae_ (an_ ?_)))))
  obtain rfl := sj h
  exact ⟨rfl, (vb false), (bt_ rfl rfl), _, [], (le1.trans le2), I6, rfl, rfl⟩
 refine am_ (b := (a0.Ties.length : Int) != (a1.Ties.length : Int)) rfl hc8 (av_ (ab_ (ab_ (aa_ (wa_ (v := (vi 0)) rfl rfl (ae_ ?_))))))
 have hk1 : a0.Locks.length ≤ 9223372036854775807 := (cz_ r1)
 obtain ⟨o2, hrun1, h⟩ := bnd h
 refine br_ (fun f w => ∃ out1, o2 = Sum.inl out1 ∧ ∃ (S_ : PH), S2.Le S_ ∧ Inv w S_ (Fr) ∧ f 2 = (pt_ g1) ∧ f 3 = (pt_ g2) ∧ f.ds = []) ?_ ?_
 ·
  refine aw_ ?_
  refine eo_ (I := fun (i1 : Nat) (s1 : Unit) (f : Frm) (w : World) => ∃ (S_ : PH), S2.Le S_ ∧ Inv w S_ (Fr) ∧ f 2 = (pt_ g1) ∧ f 3 = (pt_ g2) ∧ f 5 = (vi (i1 : Int)) ∧ f.ds = []) hrun1 ⟨_, lr, I6, rfl, rfl, rfl, rfl⟩ ?_ ?_
  ·
   rintro i1 s1 f w o1 hlt1 hI37 h2 hout1
   obtain ⟨S41, le41, I46, e77, e78, e79, ed7⟩ := hI37
   refine ab_ (ab_ (aa_ (wm_ rfl e79 (wo_ (ac_ rfl cj_ e77 ((p1.mono (le2.trans le41)).at_ I46) (wo_ (aj_ (v := (ag_ (pt_ g1) 0)) (e := a0.Locks) rfl jw_ rfl (((p1.mono (le2.trans le41)).at_ I46).fld Riddle.fld0) (fun u62 hu62 => ?_))))))))
   obtain ⟨z52, m52, k52, rfl⟩ := ad_ hu62
   refine wo_ (az_ rfl Tryz.underlying22 rfl hu62 (wo_ (bh_ (a := (i1 : Int)) (b := (a0.Locks.length : Int)) rfl rfl rfl (ae_ (al_ (b := decide ((i1 : Int) < (a0.Locks.length : Int))) rfl (et_ hlt1) (av_ (ab_ (aw_ (ab_ ?_)))))))))
   obtain ⟨x9, hx9, h2⟩ := bnd h2
   obtain ⟨x10, hx10, h2⟩ := bnd h2
   refine bj_ (sps := [spV 49 [] 0 (ag_ (pt_ g1) 0), spR 50 [0] 1 (a0.Locks), spV 51 [] 2 (vi (i1 : Int)), spW 52 [0, 1, 2] [3, 1] fun vs_ => (ah_ (fr0 vs_ 1) ((i1 : Int)) (Enc.sz CodeLock)), spV 53 [0, 1, 2, 3] 4 (.agg #[(vi x9.Wheels), (vi x9.Symbols)]), spV 54 [] 5 (ag_ (pt_ g2) 0), spR 55 [5] 6 (a1.Locks), spV 56 [] 7 (vi (i1 : Int)), spW 57 [5, 6, 7] [8, 6] fun vs_ => (ah_ (fr0 vs_ 1) ((i1 : Int)) (Enc.sz CodeLock)), spV 58 [5, 6, 7, 8] 9 (.agg #[(vi x10.Wheels), (vi x10.Symbols)]), spV 59 (lrg 10) 10 (vb (!decide (x9 = x10)))]) (tks := []) (O := Fr) rfl (by kernel_rfl) I46 ⟨fun vs f w U X l A K I => pl_ rfl (ac_ rfl cj_ ((K 2 (ak_ rfl)).trans e77) ((p1.mono ((le2.trans le41).trans l)).at_ I) (fn rfl rfl I)), ?_, fun vs f w U X l A K I => pl_ rfl (ay_ rfl ((K 5 (ak_ rfl)).trans e79) (fn rfl rfl I)), ?_, ?_, fun vs f w U X l A K I => pl_ rfl (ac_ rfl cj_ ((K 3 (ak_ rfl)).trans e78) ((p2.mono (le41.trans l)).at_ I) (fn rfl rfl I)), ?_, fun vs f w U X l A K I => pl_ rfl (ay_ rfl ((K 5 (ak_ rfl)).trans e79) (fn rfl rfl I)), ?_, ?_, ?_, trivial⟩ ?_
   ·
    intro vs f w_ U X le A K I
    have q46 := A.u 0 rfl rfl rfl
    refine pl_ rfl (aj_ (e := a0.Locks) rfl jw_ q46 (((p1.mono ((le2.trans le41).trans le)).at_ I).fld Riddle.fld0) (fun u67 hu67 => ?_))
    obtain ⟨z53, m53, k53, rfl⟩ := ad_ hu67
    refine ⟨_, _, rfl, lr, ?_, ?_⟩
    · exact hu67
    exact I
   ·
    intro vs f w_ U X le A K I
    obtain ⟨z54, m54, k54, hu68, q47, r21⟩ := A.sl (a := 1) 1 rfl rfl rfl
    have q48 := A.u 2 rfl rfl rfl
    refine pl_ rfl (ai_ (v := (.slice z54 m54 k54)) (i := (i1 : Int)) (e := x9) rfl Tryz.underlying22 hd_ q47 r21 q48 hx9 (⟨_, _, rfl, lr, ?_, ?_⟩))
    ·
     show (ah_ (Value.slice z54 m54 k54) ((i1 : Int)) (Enc.sz CodeLock)) = (ah_ (vs 1) ((i1 : Int)) (Enc.sz CodeLock))
     simp only [hu68] <;> rfl
    exact I
   ·
    intro vs f w_ U X le A K I
    obtain ⟨z55, m55, k55, hu69, q49, r22⟩ := A.sl (a := 1) 1 rfl rfl rfl
    have q50 := A.u 2 rfl rfl rfl
    have q51 : f 52 = (ah_ (vs 1) ((i1 : Int)) (Enc.sz CodeLock)) := A.u 3 rfl rfl rfl
    simp only [hu69] at q51
    have q51 : f 52 = (ah_ (Value.slice z55 m55 k55) ((i1 : Int)) (Enc.sz CodeLock)) := q51
    refine pl_ rfl (aj_ (e := x9) rfl hd_ q51 (r22.elem I.in_ hx9) (fun u70 hu70 => ?_))
    have e85 := CodeLock.inv hu70
    subst e85
    refine ⟨_, _, rfl, lr, ?_, ?_⟩
    · exact rfl
    exact I
   ·
    intro vs f w_ U X le A K I
    have q52 := A.u 0 rfl rfl rfl
    refine pl_ rfl (aj_ (e := a1.Locks) rfl jw_ q52 (((p2.mono (le41.trans le)).at_ I).fld Riddle.fld0) (fun u71 hu71 => ?_))
    obtain ⟨z56, m56, k56, rfl⟩ := ad_ hu71
    refine ⟨_, _, rfl, lr, ?_, ?_⟩
    · exact hu71
    exact I
   ·
    intro vs f w_ U X le A K I
    obtain ⟨z57, m57, k57, hu72, q53, r23⟩ := A.sl (a := 6) 1 rfl rfl rfl
    have q54 := A.u 2 rfl rfl rfl
    refine pl_ rfl (ai_ (v := (.slice z57 m57 k57)) (i := (i1 : Int)) (e := x10) rfl Tryz.underlying22 hd_ q53 r23 q54 hx10 (⟨_, _, rfl, lr, ?_, ?_⟩))
    ·
     show (ah_ (Value.slice z57 m57 k57) ((i1 : Int)) (Enc.sz CodeLock)) = (ah_ (vs 6) ((i1 : Int)) (Enc.sz CodeLock))
     simp only [hu72] <;> rfl
    exact I
   ·
    intro vs f w_ U X le A K I
    obtain ⟨z58, m58, k58, hu73, q55, r24⟩ := A.sl (a := 6) 1 rfl rfl rfl
    have q56 := A.u 2 rfl rfl rfl
    have q57 : f 57 = (ah_ (vs 6) ((i1 : Int)) (Enc.sz CodeLock)) := A.u 3 rfl rfl rfl
    simp only [hu73] at q57
    have q57 : f 57 = (ah_ (Value.slice z58 m58 k58) ((i1 : Int)) (Enc.sz CodeLock)) := q57
    refine pl_ rfl (aj_ (e := x10) rfl hd_ q57 (r24.elem I.in_ hx10) (fun u74 hu74 => ?_))
    have e89 := CodeLock.inv hu74
    subst e89
    refine ⟨_, _, rfl, lr, ?_, ?_⟩
    · exact rfl
    exact I
   ·
    intro vs f w_ U X le A K I
    refine pl_ rfl (op_sneq (S := U) (a := x9) (b := x10) (v := (.agg #[(vi x9.Wheels), (vi x9.Symbols)])) (u := (.agg #[(vi x10.Wheels), (vi x10.Symbols)])) rfl kt62 rfl (by kernel_rfl) (A.u 4 rfl rfl rfl) (A.u 9 rfl rfl rfl) (CodeLock.rv (s := x9)) (CodeLock.rv (s := x10)) (fn rfl rfl I))
   intro vs48 f w52 S53 ed8 le53 hF4 hK48 hI49
   have e90 : f 2 = (pt_ g1) := (hK48 2 (ao_ rfl)).trans e77
   have e91 : f 3 = (pt_ g2) := (hK48 3 (ao_ rfl)).trans e78
   have e92 : f 5 = (vi ((i1 : Int))) := (hK48 5 (ao_ rfl)).trans e79
   have I58 : Inv w52 S53 (Fr) := hI49
   have q60 := hF4.u 10 rfl rfl rfl
   rcases ifs h2 with ⟨hc12, h2⟩ | ⟨hc12, h2⟩
   ·
    refine al_ (b := !decide (x9 = x10)) q60 hc12 (ab_ (aa_ (wa_ (v := (vb false)) rfl rfl (ae_ (an_ ?_)))))
    obtain rfl := sj h2
    obtain rfl := (hout1 _ rfl)
    have h3 := h
    obtain rfl := sj h3
    exact ⟨(ed8.trans ed7), (vb false), (bt_ rfl rfl), _, [], (((le1.trans le2).trans le41).trans le53), I58, rfl, rfl⟩
   refine am_ (b := !decide (x9 = x10)) q60 hc12 (av_ (aa_ (wm_ rfl e92 (wo_ (bo_ (a := (i1 : Int)) (b := 1) rfl rfl rfl (wa_ (v := (vi (w64 ((i1 : Int) + 1)))) rfl rfl (ae_ ?_)))))))
   obtain rfl := sj h2
   exact ⟨_, rfl, _, (le41.trans le53), I58, e90, e91, (bl_ hlt1 hk1), (ed8.trans ed7)⟩
  rintro s2 f w hs1 hI50
  obtain ⟨S54, le54, I59, e93, e94, e95, ed9⟩ := hI50
  refine ab_ (ab_ (aa_ (wm_ rfl e95 (wo_ (ac_ rfl cj_ e93 ((p1.mono (le2.trans le54)).at_ I59) (wo_ (aj_ (v := (ag_ (pt_ g1) 0)) (e := a0.Locks) rfl jw_ rfl (((p1.mono (le2.trans le54)).at_ I59).fld Riddle.fld0) (fun u76 hu76 => ?_))))))))
  obtain ⟨z60, m60, k60, rfl⟩ := ad_ hu76
  refine wo_ (az_ rfl Tryz.underlying22 rfl hu76 (wo_ (bh_ (a := (a0.Locks.length : Int)) (b := (a0.Locks.length : Int)) rfl rfl rfl (ae_ (am_ (b := decide ((a0.Locks.length : Int) < (a0.Locks.length : Int))) rfl (eu_ _) (bm_ ?_))))))
  exact ⟨s2, hs1, _, le54, I59, e93, e94, ed9⟩
 rintro f w ⟨out1, rfl, S55, le55, I60, e98, e99, ed10⟩
 have h := ef_ h
 refine ab_ (ab_ (aa_ (wa_ (v := (vi 0)) rfl rfl (ae_ ?_))))
 have hk2 : a0.Ties.length ≤ 9223372036854775807 := (cz_ hu15)
 obtain ⟨o4, hrun2, h⟩ := bnd h
 refine br_ (fun f w => ∃ out2, o4 = Sum.inl out2 ∧ ∃ (S_ : PH), S55.Le S_ ∧ Inv w S_ (Fr) ∧ f 2 = (pt_ g1) ∧ f 3 = (pt_ g2) ∧ f.ds = []) ?_ ?_
 ·
  refine aw_ ?_
  refine eo_ (I := fun (i2 : Nat) (s3 : Unit) (f : Frm) (w : World) => ∃ (S_ : PH), S55.Le S_ ∧ Inv w S_ (Fr) ∧ f 2 = (pt_ g1) ∧ f 3 = (pt_ g2) ∧ f 6 = (vi (i2 : Int)) ∧ f.ds = []) hrun2 ⟨_, lr, I60, e98, e99, rfl, ed10⟩ ?_ ?_
  ·
   rintro i2 s3 f w o3 hlt2 hI87 h4 hout2
   obtain ⟨S94, le94, I100, e150, e151, e152, ed17⟩ := hI87
   refine ab_ (ab_ (aa_ (wm_ rfl e152 (wo_ (ac_ rfl ic_ e150 ((p1.mono ((le2.trans le55).trans le94)).at_ I100) (wo_ (aj_ (v := (ag_ (pt_ g1) 3)) (e := a0.Ties) rfl vq_ rfl (((p1.mono ((le2.trans le55).trans le94)).at_ I100).fld Riddle.fld3) (fun u122 hu122 => ?_))))))))
   obtain ⟨z88, m88, k88, rfl⟩ := ad_ hu122
   refine wo_ (az_ rfl Tryz.underlying25 rfl hu122 (wo_ (bh_ (a := (i2 : Int)) (b := (a0.Ties.length : Int)) rfl rfl rfl (ae_ (al_ (b := decide ((i2 : Int) < (a0.Ties.length : Int))) rfl (et_ hlt2) (av_ (ab_ (aw_ (ab_ ?_)))))))))
   obtain ⟨x17, hx17, h4⟩ := bnd h4
   obtain ⟨x18, hx18, h4⟩ := bnd h4
   refine bj_ (sps := [spV 67 [] 0 (ag_ (pt_ g1) 3), spR 68 [0] 1 (a0.Ties), spV 69 [] 2 (vi (i2 : Int)), spW 70 [0, 1, 2] [3, 1] fun vs_ => (ah_ (fr0 vs_ 1) ((i2 : Int)) (Enc.sz Tie)), spV 71 [0, 1, 2, 3] 4 (.agg #[(vi x17.LockA), (vi x17.WheelA), (vi x17.LockB), (vi x17.WheelB)]), spV 72 [] 5 (ag_ (pt_ g2) 3), spR 73 [5] 6 (a1.Ties), spV 74 [] 7 (vi (i2 : Int)), spW 75 [5, 6, 7] [8, 6] fun vs_ => (ah_ (fr0 vs_ 1) ((i2 : Int)) (Enc.sz Tie)), spV 76 [5, 6, 7, 8] 9 (.agg #[(vi x18.LockA), (vi x18.WheelA), (vi x18.LockB), (vi x18.WheelB)]), spV 77 (lrg 10) 10 (vb (!decide (x17 = x18)))]) (tks := []) (O := Fr) rfl (by kernel_rfl) I100 ⟨fun vs f w U X l A K I => pl_ rfl (ac_ rfl ic_ ((K 2 (ak_ rfl)).trans e150) ((p1.mono (((le2.trans le55).trans le94).trans l)).at_ I) (fn rfl rfl I)), ?_, fun vs f w U X l A K I => pl_ rfl (ay_ rfl ((K 6 (ak_ rfl)).trans e152) (fn rfl rfl I)), ?_, ?_, fun vs f w U X l A K I => pl_ rfl (ac_ rfl ic_ ((K 3 (ak_ rfl)).trans e151) ((p2.mono ((le55.trans le94).trans l)).at_ I) (fn rfl rfl I)), ?_, fun vs f w U X l A K I => pl_ rfl (ay_ rfl ((K 6 (ak_ rfl)).trans e152) (fn rfl rfl I)), ?_, ?_, ?_, trivial⟩ ?_
   ·
    intro vs f w_ U X le A K I
    have q106 := A.u 0 rfl rfl rfl
    refine pl_ rfl (aj_ (e := a0.Ties) rfl vq_ q106 (((p1.mono (((le2.trans le55).trans le94).trans le)).at_ I).fld Riddle.fld3) (fun u127 hu127 => ?_))
    obtain ⟨z89, m89, k89, rfl⟩ := ad_ hu127
    refine ⟨_, _, rfl, lr, ?_, ?_⟩
    · exact hu127
    exact I
   ·
    intro vs f w_ U X le A K I
    obtain ⟨z90, m90, k90, hu128, q107, r37⟩ := A.sl (a := 1) 1 rfl rfl rfl
    have q108 := A.u 2 rfl rfl rfl
    refine pl_ rfl (ai_ (v := (.slice z90 m90 k90)) (i := (i2 : Int)) (e := x17) rfl Tryz.underlying25 xb_ q107 r37 q108 hx17 (⟨_, _, rfl, lr, ?_, ?_⟩))
    ·
     show (ah_ (Value.slice z90 m90 k90) ((i2 : Int)) (Enc.sz Tie)) = (ah_ (vs 1) ((i2 : Int)) (Enc.sz Tie))
     simp only [hu128] <;> rfl
    exact I
   ·
    intro vs f w_ U X le A K I
    obtain ⟨z91, m91, k91, hu129, q109, r38⟩ := A.sl (a := 1) 1 rfl rfl rfl
    have q110 := A.u 2 rfl rfl rfl
    have q111 : f 70 = (ah_ (vs 1) ((i2 : Int)) (Enc.sz Tie)) := A.u 3 rfl rfl rfl
    simp only [hu129] at q111
    have q111 : f 70 = (ah_ (Value.slice z91 m91 k91) ((i2 : Int)) (Enc.sz Tie)) := q111
    refine pl_ rfl (aj_ (e := x17) rfl xb_ q111 (r38.elem I.in_ hx17) (fun u130 hu130 => ?_))
    have e158 := Tie.inv hu130
    subst e158
    refine ⟨_, _, rfl, lr, ?_, ?_⟩
    · exact rfl
    exact I
   ·
    intro vs f w_ U X le A K I
    have q112 := A.u 0 rfl rfl rfl
    refine pl_ rfl (aj_ (e := a1.Ties) rfl vq_ q112 (((p2.mono ((le55.trans le94).trans le)).at_ I).fld Riddle.fld3) (fun u131 hu131 => ?_))
    obtain ⟨z92, m92, k92, rfl⟩ := ad_ hu131
    refine ⟨_, _, rfl, lr, ?_, ?_⟩
    · exact hu131
    exact I
   ·
    intro vs f w_ U X le A K I
    obtain ⟨z93, m93, k93, hu132, q113, r39⟩ := A.sl (a := 6) 1 rfl rfl rfl
    have q114 := A.u 2 rfl rfl rfl
    refine pl_ rfl (ai_ (v := (.slice z93 m93 k93)) (i := (i2 : Int)) (e := x18) rfl Tryz.underlying25 xb_ q113 r39 q114 hx18 (⟨_, _, rfl, lr, ?_, ?_⟩))
    ·
     show (ah_ (Value.slice z93 m93 k93) ((i2 : Int)) (Enc.sz Tie)) = (ah_ (vs 6) ((i2 : Int)) (Enc.sz Tie))
     simp only [hu132] <;> rfl
    exact I
   ·
    intro vs f w_ U X le A K I
    obtain ⟨z94, m94, k94, hu133, q115, r40⟩ := A.sl (a := 6) 1 rfl rfl rfl
    have q116 := A.u 2 rfl rfl rfl
    have q117 : f 75 = (ah_ (vs 6) ((i2 : Int)) (Enc.sz Tie)) := A.u 3 rfl rfl rfl
    simp only [hu133] at q117
    have q117 : f 75 = (ah_ (Value.slice z94 m94 k94) ((i2 : Int)) (Enc.sz Tie)) := q117
    refine pl_ rfl (aj_ (e := x18) rfl xb_ q117 (r40.elem I.in_ hx18) (fun u134 hu134 => ?_))
    have e162 := Tie.inv hu134
    subst e162
    refine ⟨_, _, rfl, lr, ?_, ?_⟩
    · exact rfl
    exact I
   ·
    intro vs f w_ U X le A K I
    refine pl_ rfl (op_sneq (S := U) (a := x17) (b := x18) (v := (.agg #[(vi x17.LockA), (vi x17.WheelA), (vi x17.LockB), (vi x17.WheelB)])) (u := (.agg #[(vi x18.LockA), (vi x18.WheelA), (vi x18.LockB), (vi x18.WheelB)])) rfl kt75 rfl (by kernel_rfl) (A.u 4 rfl rfl rfl) (A.u 9 rfl rfl rfl) (Tie.rv (s := x17)) (Tie.rv (s := x18)) (fn rfl rfl I))
   intro vs96 f w101 S106 ed18 le106 hF8 hK96 hI99
   have e163 : f 2 = (pt_ g1) := (hK96 2 (ao_ rfl)).trans e150
   have e164 : f 3 = (pt_ g2) := (hK96 3 (ao_ rfl)).trans e151
   have e165 : f 6 = (vi ((i2 : Int))) := (hK96 6 (ao_ rfl)).trans e152
   have I112 : Inv w101 S106 (Fr) := hI99
   have q120 := hF8.u 10 rfl rfl rfl
   rcases ifs h4 with ⟨hc16, h4⟩ | ⟨hc16, h4⟩
   ·
    refine al_ (b := !decide (x17 = x18)) q120 hc16 (ab_ (aa_ (wa_ (v := (vb false)) rfl rfl (ae_ (an_ ?_)))))
    obtain rfl := sj h4
    obtain rfl := (hout2 _ rfl)
    have h5 := h
    obtain rfl := sj h5
    exact ⟨(ed18.trans ed17), (vb false), (bt_ rfl rfl), _, [], ((((le1.trans le2).trans le55).trans le94).trans le106), I112, rfl, rfl⟩
   refine am_ (b := !decide (x17 = x18)) q120 hc16 (av_ (aa_ (wm_ rfl e165 (wo_ (bo_ (a := (i2 : Int)) (b := 1) rfl rfl rfl (wa_ (v := (vi (w64 ((i2 : Int) + 1)))) rfl rfl (ae_ ?_)))))))
   obtain rfl := sj h4
   exact ⟨_, rfl, _, (le94.trans le106), I112, e163, e164, (bl_ hlt2 hk2), (ed18.trans ed17)⟩
  rintro s4 f w hs2 hI100
  obtain ⟨S107, le107, I113, e166, e167, e168, ed19⟩ := hI100
  refine ab_ (ab_ (aa_ (wm_ rfl e168 (wo_ (ac_ rfl ic_ e166 ((p1.mono ((le2.trans le55).trans le107)).at_ I113) (wo_ (aj_ (v := (ag_ (pt_ g1) 3)) (e := a0.Ties) rfl vq_ rfl (((p1.mono ((le2.trans le55).trans le107)).at_ I113).fld Riddle.fld3) (fun u136 hu136 => ?_))))))))
  obtain ⟨z96, m96, k96, rfl⟩ := ad_ hu136
  refine wo_ (az_ rfl Tryz.underlying25 rfl hu136 (wo_ (bh_ (a := (a0.Ties.length : Int)) (b := (a0.Ties.length : Int)) rfl rfl rfl (ae_ (am_ (b := decide ((a0.Ties.length : Int) < (a0.Ties.length : Int))) rfl (eu_ _) (bm_ ?_))))))
  exact ⟨s4, hs2, _, le107, I113, e166, e167, ed19⟩
 rintro f w ⟨out2, rfl, S108, le108, I114, e171, e172, ed20⟩
 have h := ef_ h
 refine ab_ (ab_ (aa_ (wa_ (v := (vi 0)) rfl rfl (ae_ ?_))))
 have hk3 : a0.Known.length ≤ 9223372036854775807 := (cz_ hu13)
 obtain ⟨o12, hrun6, h⟩ := bnd h
 refine br_ (fun f w => ∃ out6, o12 = Sum.inl out6 ∧ ∃ (S_ : PH), S108.Le S_ ∧ Inv w S_ (Fr) ∧ f 2 = (pt_ g1) ∧ f 3 = (pt_ g2) ∧ f.ds = []) ?_ ?_
 ·
  refine aw_ ?_
  refine eo_ (I := fun (i3 : Nat) (s8 : Unit) (f : Frm) (w : World) => ∃ (S_ : PH), S108.Le S_ ∧ Inv w S_ (Fr) ∧ f 2 = (pt_ g1) ∧ f 3 = (pt_ g2) ∧ f 7 = (vi (i3 : Int)) ∧ f.ds = []) hrun6 ⟨_, lr, I114, e171, e172, rfl, ed20⟩ ?_ ?_
  ·
   rintro i3 s8 f w o11 hlt3 hI374 h12 hout6
   obtain ⟨S393, le393, I430, e619, e620, e621, ed57⟩ := hI374
   refine ab_ (ab_ (aa_ (wm_ rfl e621 (wo_ (ac_ rfl dp_ e619 ((p1.mono (((le2.trans le55).trans le108).trans le393)).at_ I430) (wo_ (aj_ (v := (ag_ (pt_ g1) 2)) (e := a0.Known) rfl mu_ rfl (((p1.mono (((le2.trans le55).trans le108).trans le393)).at_ I430).fld Riddle.fld2) (fun u482 hu482 => ?_))))))))
   obtain ⟨z358, m358, k358, rfl⟩ := ad_ hu482
   refine wo_ (az_ rfl Tryz.underlying24 rfl hu482 (wo_ (bh_ (a := (i3 : Int)) (b := (a0.Known.length : Int)) rfl rfl rfl (ae_ (al_ (b := decide ((i3 : Int) < (a0.Known.length : Int))) rfl (et_ hlt3) (av_ (ab_ (aw_ (ab_ (ab_ ?_))))))))))
   obtain ⟨x100, hx100, h12⟩ := bnd h12
   obtain ⟨x101, hx101, h12⟩ := bnd h12
   refine bj_ (sps := [spV 85 [] 0 (ag_ (pt_ g1) 2), spR 86 [0] 1 (a0.Known), spV 87 [] 2 (vi (i3 : Int)), spW 88 [0, 1, 2] [3, 1] fun vs_ => (ah_ (fr0 vs_ 1) ((i3 : Int)) (Enc.sz (List Clue))), spR 89 [0, 1, 2, 3] 4 x100, spV 90 [0, 1, 2, 3, 4] 5 (vi ((x100.length : Int))), spV 91 [] 6 (ag_ (pt_ g2) 2), spR 92 [6] 7 (a1.Known), spV 93 [] 8 (vi (i3 : Int)), spW 94 [6, 7, 8] [9, 7] fun vs_ => (ah_ (fr0 vs_ 1) ((i3 : Int)) (Enc.sz (List Clue))), spR 95 [6, 7, 8, 9] 10 x101, spV 96 [6, 7, 8, 9, 10] 11 (vi ((x101.length : Int))), spV 97 (lrg 12) 12 (vb ((x100.length : Int) != (x101.length : Int)))]) (tks := []) (O := Fr) rfl (by kernel_rfl) I430 ⟨fun vs f w U X l A K I => pl_ rfl (ac_ rfl dp_ ((K 2 (ak_ rfl)).trans e619) ((p1.mono ((((le2.trans le55).trans le108).trans le393).trans l)).at_ I) (fn rfl rfl I)), ?_, fun vs f w U X l A K I => pl_ rfl (ay_ rfl ((K 7 (ak_ rfl)).trans e621) (fn rfl rfl I)), ?_, ?_, ?_, fun vs f w U X l A K I => pl_ rfl (ac_ rfl dp_ ((K 3 (ak_ rfl)).trans e620) ((p2.mono (((le55.trans le108).trans le393).trans l)).at_ I) (fn rfl rfl I)), ?_, fun vs f w U X l A K I => pl_ rfl (ay_ rfl ((K 7 (ak_ rfl)).trans e621) (fn rfl rfl I)), ?_, ?_, ?_, ?_, trivial⟩ ?_
   ·
    intro vs f w_ U X le A K I
    have q484 := A.u 0 rfl rfl rfl
    refine pl_ rfl (aj_ (e := a0.Known) rfl mu_ q484 (((p1.mono ((((le2.trans le55).trans le108).trans le393).trans le)).at_ I).fld Riddle.fld2) (fun u487 hu487 => ?_))
    obtain ⟨z359, m359, k359, rfl⟩ := ad_ hu487
    refine ⟨_, _, rfl, lr, ?_, ?_⟩
    · exact hu487
    exact I
   ·
    intro vs f w_ U X le A K I
    obtain ⟨z360, m360, k360, hu488, q485, r227⟩ := A.sl (a := 1) 1 rfl rfl rfl
    have q486 := A.u 2 rfl rfl rfl
    refine pl_ rfl (ai_ (v := (.slice z360 m360 k360)) (i := (i3 : Int)) (e := x100) rfl Tryz.underlying24 jh_ q485 r227 q486 hx100 (⟨_, _, rfl, lr, ?_, ?_⟩))
    ·
     show (ah_ (Value.slice z360 m360 k360) ((i3 : Int)) (Enc.sz (List Clue))) = (ah_ (vs 1) ((i3 : Int)) (Enc.sz (List Clue)))
     simp only [hu488] <;> rfl
    exact I
   ·
    intro vs f w_ U X le A K I
    obtain ⟨z361, m361, k361, hu489, q487, r228⟩ := A.sl (a := 1) 1 rfl rfl rfl
    have q488 := A.u 2 rfl rfl rfl
    have q489 : f 88 = (ah_ (vs 1) ((i3 : Int)) (Enc.sz (List Clue))) := A.u 3 rfl rfl rfl
    simp only [hu489] at q489
    have q489 : f 88 = (ah_ (Value.slice z361 m361 k361) ((i3 : Int)) (Enc.sz (List Clue))) := q489
    refine pl_ rfl (aj_ (e := x100) rfl jh_ q489 (r228.elem I.in_ hx100) (fun u490 hu490 => ?_))
    obtain ⟨z362, m362, k362, rfl⟩ := ad_ hu490
    refine ⟨_, _, rfl, lr, ?_, ?_⟩
    · exact hu490
    exact I
   ·
    intro vs f w_ U X le A K I
    obtain ⟨z363, m363, k363, hu491, q490, r229⟩ := A.sl (a := 4) 4 rfl rfl rfl
    refine pl_ rfl (az_ rfl Tryz.underlying63 q490 r229 (fn rfl rfl I))
   ·
    intro vs f w_ U X le A K I
    have q491 := A.u 0 rfl rfl rfl
    refine pl_ rfl (aj_ (e := a1.Known) rfl mu_ q491 (((p2.mono (((le55.trans le108).trans le393).trans le)).at_ I).fld Riddle.fld2) (fun u492 hu492 => ?_))
    obtain ⟨z364, m364, k364, rfl⟩ := ad_ hu492
    refine ⟨_, _, rfl, lr, ?_, ?_⟩
    · exact hu492
    exact I
   ·
    intro vs f w_ U X le A K I
    obtain ⟨z365, m365, k365, hu493, q492, r230⟩ := A.sl (a := 7) 1 rfl rfl rfl
    have q493 := A.u 2 rfl rfl rfl
    refine pl_ rfl (ai_ (v := (.slice z365 m365 k365)) (i := (i3 : Int)) (e := x101) rfl Tryz.underlying24 jh_ q492 r230 q493 hx101 (⟨_, _, rfl, lr, ?_, ?_⟩))
    ·
     show (ah_ (Value.slice z365 m365 k365) ((i3 : Int)) (Enc.sz (List Clue))) = (ah_ (vs 7) ((i3 : Int)) (Enc.sz (List Clue)))
     simp only [hu493] <;> rfl
    exact I
   ·
    intro vs f w_ U X le A K I
    obtain ⟨z366, m366, k366, hu494, q494, r231⟩ := A.sl (a := 7) 1 rfl rfl rfl
    have q495 := A.u 2 rfl rfl rfl
    have q496 : f 94 = (ah_ (vs 7) ((i3 : Int)) (Enc.sz (List Clue))) := A.u 3 rfl rfl rfl
    simp only [hu494] at q496
    have q496 : f 94 = (ah_ (Value.slice z366 m366 k366) ((i3 : Int)) (Enc.sz (List Clue))) := q496
    refine pl_ rfl (aj_ (e := x101) rfl jh_ q496 (r231.elem I.in_ hx101) (fun u495 hu495 => ?_))
    obtain ⟨z367, m367, k367, rfl⟩ := ad_ hu495
    refine ⟨_, _, rfl, lr, ?_, ?_⟩
    · exact hu495
    exact I
   ·
    intro vs f w_ U X le A K I
    obtain ⟨z368, m368, k368, hu496, q497, r232⟩ := A.sl (a := 10) 4 rfl rfl rfl
    refine pl_ rfl (az_ rfl Tryz.underlying63 q497 r232 (fn rfl rfl I))
   ·
    intro vs f w_ U X le A K I
    refine pl_ rfl (cf_ rfl (A.u 5 rfl rfl rfl) (A.u 11 rfl rfl rfl) (fn rfl rfl I))
   intro vs380 f w409 S407 ed58 le407 hF24 hK380 hI388
   have e634 : f 2 = (pt_ g1) := (hK380 2 (ao_ rfl)).trans e619
   have e635 : f 3 = (pt_ g2) := (hK380 3 (ao_ rfl)).trans e620
   have e636 : f 7 = (vi ((i3 : Int))) := (hK380 7 (ao_ rfl)).trans e621
   have I444 : Inv w409 S407 (Fr) := hI388
   have q500 := hF24.u 12 rfl rfl rfl
   rcases ifs h12 with ⟨hc44, h12⟩ | ⟨hc44, h12⟩
   ·
    refine al_ (b := (x100.length : Int) != (x101.length : Int)) q500 hc44 (ab_ (aa_ (wa_ (v := (vb false)) rfl rfl (ae_ (an_ ?_)))))
    obtain rfl := sj h12
    obtain rfl := (hout6 _ rfl)
    have h13 := h
    obtain rfl := sj h13
    exact ⟨(ed58.trans ed57), (vb false), (bt_ rfl rfl), _, [], (((((le1.trans le2).trans le55).trans le108).trans le393).trans le407), I444, rfl, rfl⟩
   refine am_ (b := (x100.length : Int) != (x101.length : Int)) q500 hc44 (av_ (ab_ (aa_ (wa_ (v := (vi 0)) rfl rfl (ae_ ?_)))))
   obtain ⟨o14, hrun7, h12⟩ := bnd h12
   refine br_ (fun f w => ∃ out7, o14 = Sum.inl out7 ∧ ∃ (S_ : PH), S407.Le S_ ∧ Inv w S_ (Fr) ∧ f 2 = (pt_ g1) ∧ f 3 = (pt_ g2) ∧ f 7 = (vi (i3 : Int)) ∧ f 8 = (vi out7) ∧ f.ds = []) ?_ ?_
   ·
    refine aw_ ?_
    refine iu_ (I := fun (s9 : (Int)) (f : Frm) (w : World) => ∃ (S_ : PH), S407.Le S_ ∧ Inv w S_ (Fr) ∧ f 2 = (pt_ g1) ∧ f 3 = (pt_ g2) ∧ f 7 = (vi (i3 : Int)) ∧ f 8 = (vi s9) ∧ f.ds = []) hrun7 ⟨_, lr, I444, e634, e635, e636, rfl, (ed58.trans ed57)⟩ ?_
    rintro s9 f w o13 hI446 h14 hout7
    obtain ⟨S467, le467, I512, e733, e734, e735, e736, ed66⟩ := hI446
    refine ab_ (ab_ (aa_ (wm_ rfl e736 (wo_ (ac_ rfl dp_ e733 ((p1.mono (((((le2.trans le55).trans le108).trans le393).trans le407).trans le467)).at_ I512) (wo_ (aj_ (v := (ag_ (pt_ g1) 2)) (e := a0.Known) rfl mu_ rfl (((p1.mono (((((le2.trans le55).trans le108).trans le393).trans le407).trans le467)).at_ I512).fld Riddle.fld2) (fun u571 hu571 => ?_))))))))
    obtain ⟨z425, m425, k425, rfl⟩ := ad_ hu571
    refine wm_ rfl e735 ?_
    obtain ⟨x121, hx121, h14⟩ := bnd h14
    refine wo_ (ai_ (v := (.slice z425 m425 k425)) (i := (i3 : Int)) (e := x121) rfl Tryz.underlying24 jh_ rfl hu571 rfl hx121 (wo_ (aj_ (v := (ah_ (.slice z425 m425 k425) ((i3 : Int)) (Enc.sz (List Clue)))) (e := x121) rfl jh_ rfl (hu571.elem I512.in_ hx121) (fun u572 hu572 => ?_))))
    obtain ⟨z426, m426, k426, rfl⟩ := ad_ hu572
    refine wo_ (az_ rfl Tryz.underlying63 rfl hu572 (wo_ (bh_ (a := s9) (b := (x121.length : Int)) rfl rfl rfl (ae_ ?_))))
    rcases ifs h14 with ⟨hc51, h14⟩ | ⟨hc51, h14⟩
    ·
     refine al_ (b := decide (s9 < (x121.length : Int))) rfl hc51 (av_ (ab_ (aw_ (ab_ ?_))))
     obtain ⟨x122, hx122, h14⟩ := bnd h14
     obtain ⟨x123, hx123, h14⟩ := bnd h14
     obtain ⟨x124, hx124, h14⟩ := bnd h14
     obtain ⟨x125, hx125, h14⟩ := bnd h14
     obtain ⟨x126, hx126, h14⟩ := bnd h14
     refine bj_ (sps := [spV 108 [] 0 (ag_ (pt_ g1) 2), spR 109 [0] 1 (a0.Known), spV 110 [] 2 (vi (i3 : Int)), spW 111 [0, 1, 2] [3, 1] fun vs_ => (ah_ (fr0 vs_ 1) ((i3 : Int)) (Enc.sz (List Clue))), spR 112 [0, 1, 2, 3] 4 x122, spV 113 [] 5 (vi s9), spW 114 (lrg 6) [6, 4] fun vs_ => (ah_ (fr0 vs_ 1) (s9) (Enc.sz Clue)), spR 115 (lrg 7) 7 x123, spV 116 [] 8 (ag_ (pt_ g2) 2), spR 117 [8] 9 (a1.Known), spV 118 [] 10 (vi (i3 : Int)), spW 119 [8, 9, 10] [11, 9] fun vs_ => (ah_ (fr0 vs_ 1) ((i3 : Int)) (Enc.sz (List Clue))), spR 120 [8, 9, 10, 11] 12 x124, spV 121 [] 13 (vi s9), spW 122 [8, 9, 10, 11, 12, 13] [14, 12] fun vs_ => (ah_ (fr0 vs_ 1) (s9) (Enc.sz Clue)), spR 123 [8, 9, 10, 11, 12, 13, 14] 15 x125, spV 124 (lrg 16) 16 (vb x126), spV 125 (lrg 17) 17 (vb (!x126))]) (tks := []) (O := Fr) rfl (by kernel_rfl) I512 ⟨fun vs f w U X l A K I => pl_ rfl (ac_ rfl dp_ ((K 2 (ak_ rfl)).trans e733) ((p1.mono ((((((le2.trans le55).trans le108).trans le393).trans le407).trans le467).trans l)).at_ I) (fn rfl rfl I)), ?_, fun vs f w U X l A K I => pl_ rfl (ay_ rfl ((K 7 (ak_ rfl)).trans e735) (fn rfl rfl I)), ?_, ?_, fun vs f w U X l A K I => pl_ rfl (ay_ rfl ((K 8 (ak_ rfl)).trans e736) (fn rfl rfl I)), ?_, ?_, fun vs f w U X l A K I => pl_ rfl (ac_ rfl dp_ ((K 3 (ak_ rfl)).trans e734) ((p2.mono (((((le55.trans le108).trans le393).trans le407).trans le467).trans l)).at_ I) (fn rfl rfl I)), ?_, fun vs f w U X l A K I => pl_ rfl (ay_ rfl ((K 7 (ak_ rfl)).trans e735) (fn rfl rfl I)), ?_, ?_, fun vs f w U X l A K I => pl_ rfl (ay_ rfl ((K 8 (ak_ rfl)).trans e736) (fn rfl rfl I)), ?_, ?_, ?_, ?_, trivial⟩ ?_
     ·
      intro vs f w_ U X le A K I
      have q579 := A.u 0 rfl rfl rfl
      refine pl_ rfl (aj_ (e := a0.Known) rfl mu_ q579 (((p1.mono ((((((le2.trans le55).trans le108).trans le393).trans le407).trans le467).trans le)).at_ I).fld Riddle.fld2) (fun u579 hu579 => ?_))
      obtain ⟨z427, m427, k427, rfl⟩ := ad_ hu579
      refine ⟨_, _, rfl, lr, ?_, ?_⟩
      · exact hu579
      exact I
     ·
      intro vs f w_ U X le A K I
      obtain ⟨z428, m428, k428, hu580, q580, r275⟩ := A.sl (a := 1) 1 rfl rfl rfl
      have q581 := A.u 2 rfl rfl rfl
      refine pl_ rfl (ai_ (v := (.slice z428 m428 k428)) (i := (i3 : Int)) (e := x122) rfl Tryz.underlying24 jh_ q580 r275 q581 hx122 (⟨_, _, rfl, lr, ?_, ?_⟩))
      ·
       show (ah_ (Value.slice z428 m428 k428) ((i3 : Int)) (Enc.sz (List Clue))) = (ah_ (vs 1) ((i3 : Int)) (Enc.sz (List Clue)))
       simp only [hu580] <;> rfl
      exact I
     ·
      intro vs f w_ U X le A K I
      obtain ⟨z429, m429, k429, hu581, q582, r276⟩ := A.sl (a := 1) 1 rfl rfl rfl
      have q583 := A.u 2 rfl rfl rfl
      have q584 : f 111 = (ah_ (vs 1) ((i3 : Int)) (Enc.sz (List Clue))) := A.u 3 rfl rfl rfl
      simp only [hu581] at q584
      have q584 : f 111 = (ah_ (Value.slice z429 m429 k429) ((i3 : Int)) (Enc.sz (List Clue))) := q584
      refine pl_ rfl (aj_ (e := x122) rfl jh_ q584 (r276.elem I.in_ hx122) (fun u582 hu582 => ?_))
      obtain ⟨z430, m430, k430, rfl⟩ := ad_ hu582
      refine ⟨_, _, rfl, lr, ?_, ?_⟩
      · exact hu582
      exact I
     ·
      intro vs f w_ U X le A K I
      obtain ⟨z431, m431, k431, hu583, q585, r277⟩ := A.sl (a := 4) 4 rfl rfl rfl
      have q586 := A.u 5 rfl rfl rfl
      refine pl_ rfl (ai_ (v := (.slice z431 m431 k431)) (i := s9) (e := x123) rfl Tryz.underlying63 ji_ q585 r277 q586 hx123 (⟨_, _, rfl, lr, ?_, ?_⟩))
      ·
       show (ah_ (Value.slice z431 m431 k431) (s9) (Enc.sz Clue)) = (ah_ (vs 4) (s9) (Enc.sz Clue))
       simp only [hu583] <;> rfl
      exact I
     ·
      intro vs f w_ U X le A K I
      obtain ⟨z432, m432, k432, hu584, q587, r278⟩ := A.sl (a := 4) 4 rfl rfl rfl
      have q588 := A.u 5 rfl rfl rfl
      have q589 : f 114 = (ah_ (vs 4) (s9) (Enc.sz Clue)) := A.u 6 rfl rfl rfl
      simp only [hu584] at q589
      have q589 : f 114 = (ah_ (Value.slice z432 m432 k432) (s9) (Enc.sz Clue)) := q589
      refine pl_ rfl (aj_ (e := x123) rfl ji_ q589 (r278.elem I.in_ hx123) (fun u585 hu585 => ?_))
      obtain ⟨c69, e745, r279⟩ := Clue.inv hu585
      subst e745
      obtain ⟨z433, m433, k433, rfl⟩ := ad_ r279
      refine ⟨_, _, rfl, lr, ?_, ?_⟩
      · exact (Clue.rv (s := x123) r279)
      exact I
     ·
      intro vs f w_ U X le A K I
      have q590 := A.u 0 rfl rfl rfl
      refine pl_ rfl (aj_ (e := a1.Known) rfl mu_ q590 (((p2.mono (((((le55.trans le108).trans le393).trans le407).trans le467).trans le)).at_ I).fld Riddle.fld2) (fun u586 hu586 => ?_))
      obtain ⟨z434, m434, k434, rfl⟩ := ad_ hu586
      refine ⟨_, _, rfl, lr, ?_, ?_⟩
      · exact hu586
      exact I
     ·
      intro vs f w_ U X le A K I
      obtain ⟨z435, m435, k435, hu587, q591, r280⟩ := A.sl (a := 9) 1 rfl rfl rfl
      have q592 := A.u 2 rfl rfl rfl
      refine pl_ rfl (ai_ (v := (.slice z435 m435 k435)) (i := (i3 : Int)) (e := x124) rfl Tryz.underlying24 jh_ q591 r280 q592 hx124 (⟨_, _, rfl, lr, ?_, ?_⟩))
      ·
       show (ah_ (Value.slice z435 m435 k435) ((i3 : Int)) (Enc.sz (List Clue))) = (ah_ (vs 9) ((i3 : Int)) (Enc.sz (List Clue)))
       simp only [hu587] <;> rfl
      exact I
     ·
      intro vs f w_ U X le A K I
      obtain ⟨z436, m436, k436, hu588, q593, r281⟩ := A.sl (a := 9) 1 rfl rfl rfl
      have q594 := A.u 2 rfl rfl rfl
      have q595 : f 119 = (ah_ (vs 9) ((i3 : Int)) (Enc.sz (List Clue))) := A.u 3 rfl rfl rfl
      simp only [hu588] at q595
      have q595 : f 119 = (ah_ (Value.slice z436 m436 k436) ((i3 : Int)) (Enc.sz (List Clue))) := q595
      refine pl_ rfl (aj_ (e := x124) rfl jh_ q595 (r281.elem I.in_ hx124) (fun u589 hu589 => ?_))
      obtain ⟨z437, m437, k437, rfl⟩ := ad_ hu589
      refine ⟨_, _, rfl, lr, ?_, ?_⟩
      · exact hu589
      exact I
     ·
      intro vs f w_ U X le A K I
      obtain ⟨z438, m438, k438, hu590, q596, r282⟩ := A.sl (a := 12) 4 rfl rfl rfl
      have q597 := A.u 5 rfl rfl rfl
      refine pl_ rfl (ai_ (v := (.slice z438 m438 k438)) (i := s9) (e := x125) rfl Tryz.underlying63 ji_ q596 r282 q597 hx125 (⟨_, _, rfl, lr, ?_, ?_⟩))
      ·
       show (ah_ (Value.slice z438 m438 k438) (s9) (Enc.sz Clue)) = (ah_ (vs 12) (s9) (Enc.sz Clue))
       simp only [hu590] <;> rfl
      exact I
     ·
      intro vs f w_ U X le A K I
      obtain ⟨z439, m439, k439, hu591, q598, r283⟩ := A.sl (a := 12) 4 rfl rfl rfl
      have q599 := A.u 5 rfl rfl rfl
      have q600 : f 122 = (ah_ (vs 12) (s9) (Enc.sz Clue)) := A.u 6 rfl rfl rfl
      simp only [hu591] at q600
      have q600 : f 122 = (ah_ (Value.slice z439 m439 k439) (s9) (Enc.sz Clue)) := q600
      refine pl_ rfl (aj_ (e := x125) rfl ji_ q600 (r283.elem I.in_ hx125) (fun u592 hu592 => ?_))
      obtain ⟨c70, e753, r284⟩ := Clue.inv hu592
      subst e753
      obtain ⟨z440, m440, k440, rfl⟩ := ad_ r284
      refine ⟨_, _, rfl, lr, ?_, ?_⟩
      · exact (Clue.rv (s := x125) r284)
      exact I
     ·
      intro vs f w_ U X le A K I
      have q601 : f 115 = vs 7 := (A.at_ 7 rfl _ rfl).1 _ rfl
      have r285 : RV U (vs 7) x123 := (A.at_ 7 rfl _ rfl).2
      obtain ⟨u593, hu593⟩ : ∃ u, vs 7 = u := ⟨_, rfl⟩
      rw [hu593] at q601 r285
      obtain ⟨c71, e755, r286⟩ := Clue.inv r285
      subst e755
      obtain ⟨z441, m441, k441, rfl⟩ := ad_ r286
      have q602 : f 123 = vs 15 := (A.at_ 15 rfl _ rfl).1 _ rfl
      have r287 : RV U (vs 15) x125 := (A.at_ 15 rfl _ rfl).2
      obtain ⟨u594, hu594⟩ : ∃ u, vs 15 = u := ⟨_, rfl⟩
      rw [hu594] at q602 r287
      obtain ⟨c72, e757, r288⟩ := Clue.inv r287
      subst e757
      obtain ⟨z442, m442, k442, rfl⟩ := ad_ r288
      refine pl_ rfl (aq_ (vs := [(.agg #[(vi x123.Kind), (vi x123.A), (vi x123.B), (vi x123.N), (vi x123.M), (.slice z441 m441 k441), (vb x123.Not)]), (.agg #[(vi x125.Kind), (vi x125.A), (vi x125.B), (vi x125.N), (vi x125.M), (.slice z442 m442 k442), (vb x125.Not)])]) (r := (vb x126)) rfl ca41 rfl (bu_ q601 q602) I (fun Fr_ hF_ => dj_ hF_ (Clue.rv (s := x123) r286) (Clue.rv (s := x125) r288) hx126) (fun w491 I531 => (fn rfl rfl I531)))
     ·
      intro vs f w_ U X le A K I
      refine pl_ rfl (ce_ rfl (A.u 16 rfl rfl rfl) (fn rfl rfl I))
     intro vs456 f w493 S486 ed67 le486 hF28 hK456 hI465
     have e759 : f 2 = (pt_ g1) := (hK456 2 (ao_ rfl)).trans e733
     have e760 : f 3 = (pt_ g2) := (hK456 3 (ao_ rfl)).trans e734
     have e761 : f 7 = (vi ((i3 : Int))) := (hK456 7 (ao_ rfl)).trans e735
     have e762 : f 8 = (vi s9) := (hK456 8 (ao_ rfl)).trans e736
     have I533 : Inv w493 S486 (Fr) := hI465
     have q604 := hF28.u 17 rfl rfl rfl
     rcases ifs h14 with ⟨hc52, h14⟩ | ⟨hc52, h14⟩
     ·
      refine al_ (b := !x126) q604 hc52 (ab_ (aa_ (wa_ (v := (vb false)) rfl rfl (ae_ (an_ ?_)))))
      obtain rfl := sj h14
      obtain rfl := (hout7 _ rfl)
      have h15 := h12
      obtain rfl := sj h15
      obtain rfl := (hout6 _ rfl)
      have h13 := h
      obtain rfl := sj h13
      exact ⟨(ed67.trans ed66), (vb false), (bt_ rfl rfl), _, [], (((((((le1.trans le2).trans le55).trans le108).trans le393).trans le407).trans le467).trans le486), I533, rfl, rfl⟩
     refine am_ (b := !x126) q604 hc52 (av_ (aa_ (wm_ rfl e762 (wo_ (bo_ (a := s9) (b := 1) rfl rfl rfl (wa_ (v := (vi (w64 (s9 + 1)))) rfl rfl (ae_ ?_)))))))
     obtain rfl := sj h14
     exact ⟨_, rfl, _, (le467.trans le486), I533, e759, e760, e761, rfl, (ed67.trans ed66)⟩
    refine am_ (b := decide (s9 < (x121.length : Int))) rfl hc51 (bm_ ?_)
    obtain rfl := sj h14
    obtain rfl := (hout7 _ rfl)
    exact ⟨_, rfl, _, le467, I512, e733, e734, e735, e736, ed66⟩
   rintro f w ⟨out7, rfl, S487, le487, I534, e763, e764, e765, e766, ed68⟩
   have h12 := ef_ h12
   refine aa_ (wm_ rfl e765 (wo_ (bo_ (a := (i3 : Int)) (b := 1) rfl rfl rfl (wa_ (v := (vi (w64 ((i3 : Int) + 1)))) rfl rfl (ae_ ?_)))))
   obtain rfl := sj h12
   exact ⟨_, rfl, _, ((le393.trans le407).trans le487), I534, e763, e764, (bl_ hlt3 hk3), ed68⟩
  rintro s10 f w hs3 hI466
  obtain ⟨S488, le488, I535, e767, e768, e769, ed69⟩ := hI466
  refine ab_ (ab_ (aa_ (wm_ rfl e769 (wo_ (ac_ rfl dp_ e767 ((p1.mono (((le2.trans le55).trans le108).trans le488)).at_ I535) (wo_ (aj_ (v := (ag_ (pt_ g1) 2)) (e := a0.Known) rfl mu_ rfl (((p1.mono (((le2.trans le55).trans le108).trans le488)).at_ I535).fld Riddle.fld2) (fun u596 hu596 => ?_))))))))
  obtain ⟨z444, m444, k444, rfl⟩ := ad_ hu596
  refine wo_ (az_ rfl Tryz.underlying24 rfl hu596 (wo_ (bh_ (a := (a0.Known.length : Int)) (b := (a0.Known.length : Int)) rfl rfl rfl (ae_ (am_ (b := decide ((a0.Known.length : Int) < (a0.Known.length : Int))) rfl (eu_ _) (bm_ ?_))))))
  exact ⟨s10, hs3, _, le488, I535, e767, e768, ed69⟩
 rintro f w ⟨out6, rfl, S489, le489, I536, e772, e773, ed70⟩
 have h := ef_ h
 refine ab_ (aa_ (wa_ (v := (vb true)) rfl rfl (ae_ (an_ ?_))))
 obtain rfl := sj h
 exact ⟨ed70, (vb true), (bt_ rfl rfl), _, [], ((((le1.trans le2).trans le55).trans le108).trans le489), I536, rfl, rfl⟩
theorem rz_ {w : World} {S : PH} {Fr : List HP} {a0 : Riddle} {v0 : Value} {a1 : Aid} {v1 : Value} {r : Int × Int} (hI : Inv w S (Fr)) (h0_ : RV S v0 a0) (h1_ : RV S v1 a1) (h : iy_ a0 a1 = some r) :
    Calls Tryz.prog 15 [v0, v1].toArray w (ck_ S Fr (Value.tuple #[(Value.int .i64 (r.1)), (Value.int .i64 (r.2))])) := by
 unfold iy_ at h
 obtain ⟨c1, c2, c3, c4, e1, r1, r2, r3, r4⟩ := Riddle.inv h0_
 subst e1
 obtain ⟨z1, m1, k1, rfl⟩ := ad_ r1
 obtain ⟨z2, m2, k2, rfl⟩ := ad_ r2
 obtain ⟨z3, m3, k3, rfl⟩ := ad_ r3
 obtain ⟨z4, m4, k4, rfl⟩ := ad_ r4
 obtain ⟨c5, e6, r5⟩ := Aid.inv h1_
 subst e6
 obtain ⟨z5, m5, k5, rfl⟩ := ad_ r5
 refine au_ (n := 21) (vs := [(.agg #[(.slice z1 m1 k1), (.slice z2 m2 k2), (.slice z3 m3 k3), (.slice z4 m4 k4)]), (.agg #[(vi a1.Lock), (vi a1.Clue.Kind), (vi a1.Clue.A), (vi a1.Clue.B), (vi a1.Clue.N), (vi a1.Clue.M), (.slice z5 m5 k5), (vb a1.Clue.Not)])]) Tryz.func15 rfl rfl rfl (ab_ (aa_ (wo_ (bk_ (v := (.agg #[(.slice z1 m1 k1), (.slice z2 m2 k2), (.slice z3 m3 k3), (.slice z4 m4 k4)])) rfl hI rfl (fun g1 w1 I1 => ?_)))))
 obtain ⟨S1, le1, I2, p1⟩ := Inv.boxFreeze (x := a0) I1 (Riddle.rv (s := a0) r1 r2 r3 r4)
 refine wo_ (bk_ (v := (.agg #[(vi a1.Lock), (vi a1.Clue.Kind), (vi a1.Clue.A), (vi a1.Clue.B), (vi a1.Clue.N), (vi a1.Clue.M), (.slice z5 m5 k5), (vb a1.Clue.Not)])) rfl I2 rfl (fun g2 w2 I3 => ?_))
 obtain ⟨S2, le2, I4, p2⟩ := Inv.boxFreeze (x := a1) I3 (Aid.rv (s := a1) (r5.mono le1))
 refine wa_ (v := (vi 0)) rfl rfl (wa_ (v := (vi 0)) rfl rfl (ae_ (ab_ (ab_ (aa_ (wo_ (aj_ (v := (pt_ g1)) (e := a0) rfl gd_ rfl ((p1.mono le2).at_ I4) (fun u1 hu1 => ?_))))))))
 obtain ⟨c6, c7, c8, c9, e8, r6, r7, r8, r9⟩ := Riddle.inv hu1
 subst e8
 obtain ⟨z6, m6, k6, rfl⟩ := ad_ r6
 obtain ⟨z7, m7, k7, rfl⟩ := ad_ r7
 obtain ⟨z8, m8, k8, rfl⟩ := ad_ r8
 obtain ⟨z9, m9, k9, rfl⟩ := ad_ r9
 refine wo_ (aj_ (v := (pt_ g2)) (e := a1) rfl uj_ rfl (p2.at_ I4) (fun u2 hu2 => ?_))
 obtain ⟨c10, e13, r10⟩ := Aid.inv hu2
 subst e13
 obtain ⟨z10, m10, k10, rfl⟩ := ad_ r10
 obtain ⟨x1, hx1, h⟩ := bnd h
 refine wo_ (aq_ (vs := [(.agg #[(.slice z6 m6 k6), (.slice z7 m7 k7), (.slice z8 m8 k8), (.slice z9 m9 k9)]), (.agg #[(vi a1.Lock), (vi a1.Clue.Kind), (vi a1.Clue.A), (vi a1.Clue.B), (vi a1.Clue.N), (vi a1.Clue.M), (.slice z10 m10 k10), (vb a1.Clue.Not)])]) (r := (vi x1)) rfl ca38 rfl (bu_ rfl rfl) I4 (fun Fr_ hF_ => ie_ hF_ (Riddle.rv (s := a0) r6 r7 r8 r9) (Aid.rv (s := a1) r10) hx1) (fun w3 I5 => (wa_ (v := (vi x1)) rfl rfl (ae_ (ab_ (aa_ (wm_ (v := (vi x1)) rfl rfl (wo_ (cf_ (a := x1) (b := 0) rfl rfl rfl (ae_ ?_))))))))))
 rcases ifs h with ⟨hc1, h⟩ | ⟨hc1, h⟩
 ·
  refine al_ (b := x1 != 0) rfl hc1 (ab_ (aa_ (wm_ (v := (vi x1)) rfl rfl (wa_ (v := (vi 0)) rfl rfl (wa_ (v := (vi x1)) rfl rfl (ae_ (an_ ?_)))))))
  obtain rfl := sj h
  exact ⟨rfl, (Value.tuple #[(vi 0), (vi x1)]), (um_ rfl rfl rfl), _, [], (le1.trans le2), I5, rfl, rfl⟩
 refine am_ (b := x1 != 0) rfl hc1 (av_ (ab_ ?_))
 obtain ⟨x2, hx2, h⟩ := bnd h
 obtain ⟨x3, hx3, h⟩ := bnd h
 obtain ⟨x4, hx4, h⟩ := bnd h
 refine bj_ (sps := [spR 13 [] 0 a0, spR 14 [] 1 a1, spR 15 [0, 1] 2 x2, ⟨some 16, [0, 1, 2], [3], fun vs_ T_ => ∃ (a0_ : Option Addr) (n0_ k0_ : Nat), fr0 vs_ 0 = (.slice a0_ n0_ k0_), [], [], [0], fun _ h_ => h_⟩, spV 17 [] 4 (ag_ (pt_ g2) 0), spV 18 [4] 5 (vi a1.Lock), ⟨some 19, (lrg 6), [6, 3], fun vs_ T_ => fr0 vs_ 0 = (ah_ (fr0 vs_ 1) (a1.Lock) (Enc.sz Int)), [0], [], [], fun _ h_ => h_⟩, ⟨some 20, (lrg 7), [7], fun vs_ T_ => fr0 vs_ 0 = (vi x4), [0], [], [], fun _ h_ => h_⟩, spV 4 (lrg 8) 8 (vi x4), spV 5 (lrg 9) 9 (vi 0)]) (tks := [⟨some 3, none, [3], fun vs_ => Row (α := Int) 3 (fr0 vs_ 0) (x3)⟩]) (O := Fr) rfl (by kernel_rfl) I5 ⟨?_, ?_, ?_, ?_, fun vs f w U X l A K I => pl_ rfl (ac_ rfl jc_ (K 3 (ak_ rfl)) ((p2.mono l).at_ I) (fn rfl rfl I)), fun vs f w U X l A K I => pl_ rfl (af_ (e := a1.Lock) rfl sh3 (A.u 0 rfl rfl rfl) (((p2.mono l).at_ I).fld Aid.fld0) (fn rfl rfl I)), ?_, ?_, fun vs f w U X l A K I => pl_ rfl (bs_ (v := (vi x4)) rfl (A.u 7 rfl rfl rfl) (fn rfl rfl I)), ?_, trivial⟩ ?_
 ·
  intro vs f w_ U X le A K I
  refine pl_ rfl (aj_ (e := a0) rfl gd_ (K 2 (ak_ rfl)) ((p1.mono (le2.trans le)).at_ I) (fun u5 hu5 => ?_))
  obtain ⟨c11, c12, c13, c14, e15, r11, r12, r13, r14⟩ := Riddle.inv hu5
  subst e15
  obtain ⟨z11, m11, k11, rfl⟩ := ad_ r11
  obtain ⟨z12, m12, k12, rfl⟩ := ad_ r12
  obtain ⟨z13, m13, k13, rfl⟩ := ad_ r13
  obtain ⟨z14, m14, k14, rfl⟩ := ad_ r14
  refine ⟨_, _, rfl, lr, ?_, ?_⟩
  · exact (Riddle.rv (s := a0) r11 r12 r13 r14)
  exact I
 ·
  intro vs f w_ U X le A K I
  refine pl_ rfl (aj_ (e := a1) rfl uj_ (K 3 (ak_ rfl)) ((p2.mono le).at_ I) (fun u6 hu6 => ?_))
  obtain ⟨c15, e20, r15⟩ := Aid.inv hu6
  subst e20
  obtain ⟨z15, m15, k15, rfl⟩ := ad_ r15
  refine ⟨_, _, rfl, lr, ?_, ?_⟩
  · exact (Aid.rv (s := a1) r15)
  exact I
 ·
  intro vs f w_ U X le A K I
  have q1 : f 13 = vs 0 := (A.at_ 0 rfl _ rfl).1 _ rfl
  have r16 : RV U (vs 0) a0 := (A.at_ 0 rfl _ rfl).2
  obtain ⟨u7, hu7⟩ : ∃ u, vs 0 = u := ⟨_, rfl⟩
  rw [hu7] at q1 r16
  obtain ⟨c16, c17, c18, c19, e22, r17, r18, r19, r20⟩ := Riddle.inv r16
  subst e22
  obtain ⟨z16, m16, k16, rfl⟩ := ad_ r17
  obtain ⟨z17, m17, k17, rfl⟩ := ad_ r18
  obtain ⟨z18, m18, k18, rfl⟩ := ad_ r19
  obtain ⟨z19, m19, k19, rfl⟩ := ad_ r20
  have q2 : f 14 = vs 1 := (A.at_ 1 rfl _ rfl).1 _ rfl
  have r21 : RV U (vs 1) a1 := (A.at_ 1 rfl _ rfl).2
  obtain ⟨u8, hu8⟩ : ∃ u, vs 1 = u := ⟨_, rfl⟩
  rw [hu8] at q2 r21
  obtain ⟨c20, e27, r22⟩ := Aid.inv r21
  subst e27
  obtain ⟨z20, m20, k20, rfl⟩ := ad_ r22
  refine pl_ rfl (bn_ (vs := [(.agg #[(.slice z16 m16 k16), (.slice z17 m17 k17), (.slice z18 m18 k18), (.slice z19 m19 k19)]), (.agg #[(vi a1.Lock), (vi a1.Clue.Kind), (vi a1.Clue.A), (vi a1.Clue.B), (vi a1.Clue.N), (vi a1.Clue.M), (.slice z20 m20 k20), (vb a1.Clue.Not)])]) rfl ca39 rfl (bu_ q1 q2) (mg_ I (Riddle.rv (s := a0) r17 r18 r19 r20) (Aid.rv (s := a1) r22) hx2) (fun cv1 w7 S6 O1 le6 I9 hv1 => ?_))
  obtain ⟨c21, rfl, rfl, r23⟩ := hv1
  obtain ⟨c22, c23, c24, c25, e29, r24, r25, r26, r27⟩ := Riddle.inv r23
  subst e29
  obtain ⟨z21, m21, k21, rfl⟩ := ad_ r24
  obtain ⟨z22, m22, k22, rfl⟩ := ad_ r25
  obtain ⟨z23, m23, k23, rfl⟩ := ad_ r26
  obtain ⟨z24, m24, k24, rfl⟩ := ad_ r27
  refine ⟨_, _, rfl, le6, ?_, ?_⟩
  · exact (Riddle.rv (s := x2) r24 r25 r26 r27)
  exact I9
 ·
  intro vs f w_ U X le A K I
  have q3 : f 15 = vs 2 := (A.at_ 2 rfl _ rfl).1 _ rfl
  have r28 : RV U (vs 2) x2 := (A.at_ 2 rfl _ rfl).2
  obtain ⟨u9, hu9⟩ : ∃ u, vs 2 = u := ⟨_, rfl⟩
  rw [hu9] at q3 r28
  obtain ⟨c26, c27, c28, c29, e34, r29, r30, r31, r32⟩ := Riddle.inv r28
  subst e34
  obtain ⟨z25, m25, k25, rfl⟩ := ad_ r29
  obtain ⟨z26, m26, k26, rfl⟩ := ad_ r30
  obtain ⟨z27, m27, k27, rfl⟩ := ad_ r31
  obtain ⟨z28, m28, k28, rfl⟩ := ad_ r32
  refine pl_ rfl (bn_ (vs := [(.agg #[(.slice z25 m25 k25), (.slice z26 m26 k26), (.slice z27 m27 k27), (.slice z28 m28 k28)])]) rfl ca43 rfl (ff_ q3) (ka_ I (Riddle.rv (s := x2) r29 r30 r31 r32) hx3) (fun cv2 w9 S8 O2 le8 I11 hv2 => ?_))
  obtain ⟨z29, m29, k29, rfl, rfl⟩ := hv2
  refine ⟨_, _, rfl, le8, ?_, ?_⟩
  · exact ⟨_, _, _, rfl⟩
  exact I11
 ·
  intro vs f w_ U X le A K I
  have I14 : Inv w_ U (Row (α := Int) 3 (vs 3) (x3) :: X) := I
  obtain ⟨z30, m30, k30, e39, q5⟩ := A.rf (a := 3) 3 rfl rfl rfl
  have I15 := I14
  rw [e39] at I15
  have q6 := A.u 5 rfl rfl rfl
  refine pl_ rfl (bd_ (v := (.slice z30 m30 k30)) (i := a1.Lock) (e := x4) rfl Tryz.underlying28 sh3 q5 (Inv.rowSrc (I15.nth 0 rfl)) q6 hx4 (⟨_, _, rfl, lr, ?_, ?_⟩))
  ·
   show (ah_ (Value.slice z30 m30 k30) (a1.Lock) (Enc.sz Int)) = (ah_ (vs 3) (a1.Lock) (Enc.sz Int))
   simp only [e39] <;> rfl
  show Inv _ _ (Row (α := Int) 3 (vs 3) (x3) :: X)
  simp only [e39]
  exact I15
 ·
  intro vs f w_ U X le A K I
  have I16 : Inv w_ U (Row (α := Int) 3 (vs 3) (x3) :: X) := I
  obtain ⟨z31, m31, k31, e40, q7⟩ := A.rf (a := 3) 3 rfl rfl rfl
  have I17 := I16
  rw [e40] at I17
  have q8 := A.u 5 rfl rfl rfl
  have q9 : f 19 = (ah_ (vs 3) (a1.Lock) (Enc.sz Int)) := A.u 6 rfl rfl rfl
  simp only [e40] at q9
  have q9 : f 19 = (ah_ (Value.slice z31 m31 k31) (a1.Lock) (Enc.sz Int)) := q9
  refine pl_ rfl (af_ (e := x4) rfl sh3 q9 ((I17.nth 0 rfl).rowElem hx4) (⟨_, _, rfl, lr, ?_, ?_⟩))
  · exact rfl
  show Inv _ _ (Row (α := Int) 3 (vs 3) (x3) :: X)
  simp only [e40]
  exact I17
 ·
  intro vs f w_ U X le A K I
  refine pl_ rfl (bs_ (v := (vi 0)) rfl rfl (fn rfl rfl I))
 intro vs11 f w16 S15 ed1 le15 hF1 hK11 hI11
 have I20 : Inv w16 S15 (Row (α := Int) 3 (vs11 3) (x3) :: Fr) := hI11
 obtain ⟨z32, m32, k32, e41, q11⟩ := hF1.rf (a := 3) 3 rfl rfl rfl
 have I21 := I20
 rw [e41] at I21
 have q12 := hF1.u 8 rfl rfl rfl
 have q13 := hF1.u 9 rfl rfl rfl
 refine an_ ?_
 obtain rfl := sj h
 exact ⟨(ed1.trans rfl), (Value.tuple #[(vi x4), (vi 0)]), (um_ rfl q12 q13), _, [], ((le1.trans le2).trans le15), (I21).drop, rfl, rfl⟩
theorem rx_ {w : World} {S : PH} {Fr : List HP} {a0 : Riddle} {v0 : Value} {a1 : Aid} {v1 : Value} {r : (List Int) × Int} (hI : Inv w S (Fr)) (h0_ : RV S v0 a0) (h1_ : RV S v1 a1) (h : ix_ a0 a1 = some r) :
    Calls Tryz.prog 17 [v0, v1].toArray w (lj_ S Fr (fun T_ v_ O_ => ∃ (a0_ : Option Addr) (n0_ k0_ : Nat), v_ = (Value.tuple #[(Value.slice a0_ n0_ k0_), (Value.int .i64 (r.2))]) ∧ O_ = [Row (α := Int) 3 (Value.slice a0_ n0_ k0_) (r.1)])) := by
 unfold ix_ at h
 obtain ⟨c1, c2, c3, c4, e1, r1, r2, r3, r4⟩ := Riddle.inv h0_
 subst e1
 obtain ⟨z1, m1, k1, rfl⟩ := ad_ r1
 obtain ⟨z2, m2, k2, rfl⟩ := ad_ r2
 obtain ⟨z3, m3, k3, rfl⟩ := ad_ r3
 obtain ⟨z4, m4, k4, rfl⟩ := ad_ r4
 obtain ⟨c5, e6, r5⟩ := Aid.inv h1_
 subst e6
 obtain ⟨z5, m5, k5, rfl⟩ := ad_ r5
 refine au_ (n := 16) (vs := [(.agg #[(.slice z1 m1 k1), (.slice z2 m2 k2), (.slice z3 m3 k3), (.slice z4 m4 k4)]), (.agg #[(vi a1.Lock), (vi a1.Clue.Kind), (vi a1.Clue.A), (vi a1.Clue.B), (vi a1.Clue.N), (vi a1.Clue.M), (.slice z5 m5 k5), (vb a1.Clue.Not)])]) Tryz.func17 rfl rfl rfl (ab_ (aa_ (wo_ (bk_ (v := (.agg #[(.slice z1 m1 k1), (.slice z2 m2 k2), (.slice z3 m3 k3), (.slice z4 m4 k4)])) rfl hI rfl (fun g1 w1 I1 => ?_)))))
 obtain ⟨S1, le1, I2, p1⟩ := Inv.boxFreeze (x := a0) I1 (Riddle.rv (s := a0) r1 r2 r3 r4)
 refine wo_ (bk_ (v := (.agg #[(vi a1.Lock), (vi a1.Clue.Kind), (vi a1.Clue.A), (vi a1.Clue.B), (vi a1.Clue.N), (vi a1.Clue.M), (.slice z5 m5 k5), (vb a1.Clue.Not)])) rfl I2 rfl (fun g2 w2 I3 => ?_))
 obtain ⟨S2, le2, I4, p2⟩ := Inv.boxFreeze (x := a1) I3 (Aid.rv (s := a1) (r5.mono le1))
 refine wa_ (v := (.slice none 0 0)) rfl rfl (wa_ (v := (vi 0)) rfl rfl (ae_ (ab_ (ab_ (aa_ (wo_ (aj_ (v := (pt_ g1)) (e := a0) rfl gd_ rfl ((p1.mono le2).at_ I4) (fun u1 hu1 => ?_))))))))
 obtain ⟨c6, c7, c8, c9, e8, r6, r7, r8, r9⟩ := Riddle.inv hu1
 subst e8
 obtain ⟨z6, m6, k6, rfl⟩ := ad_ r6
 obtain ⟨z7, m7, k7, rfl⟩ := ad_ r7
 obtain ⟨z8, m8, k8, rfl⟩ := ad_ r8
 obtain ⟨z9, m9, k9, rfl⟩ := ad_ r9
 refine wo_ (aj_ (v := (pt_ g2)) (e := a1) rfl uj_ rfl (p2.at_ I4) (fun u2 hu2 => ?_))
 obtain ⟨c10, e13, r10⟩ := Aid.inv hu2
 subst e13
 obtain ⟨z10, m10, k10, rfl⟩ := ad_ r10
 obtain ⟨x1, hx1, h⟩ := bnd h
 refine wo_ (aq_ (vs := [(.agg #[(.slice z6 m6 k6), (.slice z7 m7 k7), (.slice z8 m8 k8), (.slice z9 m9 k9)]), (.agg #[(vi a1.Lock), (vi a1.Clue.Kind), (vi a1.Clue.A), (vi a1.Clue.B), (vi a1.Clue.N), (vi a1.Clue.M), (.slice z10 m10 k10), (vb a1.Clue.Not)])]) (r := (vi x1)) rfl ca38 rfl (bu_ rfl rfl) I4 (fun Fr_ hF_ => ie_ hF_ (Riddle.rv (s := a0) r6 r7 r8 r9) (Aid.rv (s := a1) r10) hx1) (fun w3 I5 => (wa_ (v := (vi x1)) rfl rfl (ae_ (ab_ (aa_ (wm_ (v := (vi x1)) rfl rfl (wo_ (cf_ (a := x1) (b := 0) rfl rfl rfl (ae_ ?_))))))))))
 rcases ifs h with ⟨hc1, h⟩ | ⟨hc1, h⟩
 ·
  refine al_ (b := x1 != 0) rfl hc1 (ab_ (aa_ (wm_ (v := (vi x1)) rfl rfl (wa_ (v := (.slice none 0 0)) rfl rfl (wa_ (v := (vi x1)) rfl rfl (ae_ (an_ ?_)))))))
  have I6 := Inv.rowNil (α := Int) (T := 3) I5
  obtain rfl := sj h
  exact ⟨rfl, (Value.tuple #[(.slice none 0 0), (vi x1)]), (um_ rfl rfl rfl), _, [Row (α := Int) 3 (.slice none 0 0) (([] : List Int))], (le1.trans le2), I6, _, _, _, rfl, rfl⟩
 refine am_ (b := x1 != 0) rfl hc1 (av_ (ab_ (aa_ (wo_ (aj_ (v := (pt_ g1)) (e := a0) rfl gd_ rfl ((p1.mono le2).at_ I5) (fun u3 hu3 => ?_))))))
 obtain ⟨c11, c12, c13, c14, e15, r11, r12, r13, r14⟩ := Riddle.inv hu3
 subst e15
 obtain ⟨z11, m11, k11, rfl⟩ := ad_ r11
 obtain ⟨z12, m12, k12, rfl⟩ := ad_ r12
 obtain ⟨z13, m13, k13, rfl⟩ := ad_ r13
 obtain ⟨z14, m14, k14, rfl⟩ := ad_ r14
 refine wo_ (aj_ (v := (pt_ g2)) (e := a1) rfl uj_ rfl (p2.at_ I5) (fun u4 hu4 => ?_))
 obtain ⟨c15, e20, r15⟩ := Aid.inv hu4
 subst e20
 obtain ⟨z15, m15, k15, rfl⟩ := ad_ r15
 obtain ⟨x2, hx2, h⟩ := bnd h
 refine wo_ (bn_ (vs := [(.agg #[(.slice z11 m11 k11), (.slice z12 m12 k12), (.slice z13 m13 k13), (.slice z14 m14 k14)]), (.agg #[(vi a1.Lock), (vi a1.Clue.Kind), (vi a1.Clue.A), (vi a1.Clue.B), (vi a1.Clue.N), (vi a1.Clue.M), (.slice z15 m15 k15), (vb a1.Clue.Not)])]) rfl ca47 rfl (bu_ rfl rfl) (rv_ I5 (Riddle.rv (s := a0) r11 r12 r13 r14) (Aid.rv (s := a1) r15) hx2) (fun cv1 w4 S3 O1 le3 I7 hv1 => ?_))
 obtain ⟨z16, m16, k16, rfl, rfl⟩ := hv1
 refine wa_ (v := (.slice z16 m16 k16)) rfl rfl (wa_ (v := (vi 0)) rfl rfl (ae_ (an_ ?_)))
 obtain rfl := sj h
 exact ⟨rfl, (Value.tuple #[(.slice z16 m16 k16), (vi 0)]), (um_ rfl rfl rfl), _, [Row (α := Int) 3 (.slice z16 m16 k16) (x2)], ((le1.trans le2).trans le3), I7, _, _, _, rfl, rfl⟩
theorem on_ {w : World} {S : PH} {Fr : List HP} {a0 : Riddle} {v0 : Value} {a1 : Aid} {v1 : Value} {r : Bool} (hI : Inv w S (Fr)) (h0_ : RV S v0 a0) (h1_ : RV S v1 a1) (h : gy_ a0 a1 = some r) :
    Calls Tryz.prog 3 [v0, v1].toArray w (ck_ S Fr (Value.bool (r))) := by
 unfold gy_ at h
 obtain ⟨c1, c2, c3, c4, e1, r1, r2, r3, r4⟩ := Riddle.inv h0_
 subst e1
 obtain ⟨z1, m1, k1, rfl⟩ := ad_ r1
 obtain ⟨z2, m2, k2, rfl⟩ := ad_ r2
 obtain ⟨z3, m3, k3, rfl⟩ := ad_ r3
 obtain ⟨z4, m4, k4, rfl⟩ := ad_ r4
 obtain ⟨c5, e6, r5⟩ := Aid.inv h1_
 subst e6
 obtain ⟨z5, m5, k5, rfl⟩ := ad_ r5
 refine au_ (n := 80) (vs := [(.agg #[(.slice z1 m1 k1), (.slice z2 m2 k2), (.slice z3 m3 k3), (.slice z4 m4 k4)]), (.agg #[(vi a1.Lock), (vi a1.Clue.Kind), (vi a1.Clue.A), (vi a1.Clue.B), (vi a1.Clue.N), (vi a1.Clue.M), (.slice z5 m5 k5), (vb a1.Clue.Not)])]) Tryz.func3 rfl rfl rfl (ab_ (aa_ (wo_ (bk_ (v := (.agg #[(.slice z1 m1 k1), (.slice z2 m2 k2), (.slice z3 m3 k3), (.slice z4 m4 k4)])) rfl hI rfl (fun g1 w1 I1 => ?_)))))
 obtain ⟨S1, le1, I2, p1⟩ := Inv.boxFreeze (x := a0) I1 (Riddle.rv (s := a0) r1 r2 r3 r4)
 refine wo_ (bk_ (v := (.agg #[(vi a1.Lock), (vi a1.Clue.Kind), (vi a1.Clue.A), (vi a1.Clue.B), (vi a1.Clue.N), (vi a1.Clue.M), (.slice z5 m5 k5), (vb a1.Clue.Not)])) rfl I2 rfl (fun g2 w2 I3 => ?_))
 obtain ⟨S2, le2, I4, p2⟩ := Inv.boxFreeze (x := a1) I3 (Aid.rv (s := a1) (r5.mono le1))
 refine wa_ (v := (vb false)) rfl rfl (ae_ (ab_ (ab_ (aa_ (wo_ (aj_ (v := (pt_ g1)) (e := a0) rfl gd_ rfl ((p1.mono le2).at_ I4) (fun u1 hu1 => ?_)))))))
 obtain ⟨c6, c7, c8, c9, e8, r6, r7, r8, r9⟩ := Riddle.inv hu1
 subst e8
 obtain ⟨z6, m6, k6, rfl⟩ := ad_ r6
 obtain ⟨z7, m7, k7, rfl⟩ := ad_ r7
 obtain ⟨z8, m8, k8, rfl⟩ := ad_ r8
 obtain ⟨z9, m9, k9, rfl⟩ := ad_ r9
 obtain ⟨x1, hx1, h⟩ := bnd h
 refine wo_ (aq_ (vs := [(.agg #[(.slice z6 m6 k6), (.slice z7 m7 k7), (.slice z8 m8 k8), (.slice z9 m9 k9)])]) (r := (vb x1)) rfl ca9 rfl (ff_ rfl) I4 (fun Fr_ hF_ => tl_ hF_ (Riddle.rv (s := a0) r6 r7 r8 r9) hx1) (fun w3 I5 => (ae_ ?_)))
 rcases ifs h with ⟨hc1, h⟩ | ⟨hc1, h⟩
 ·
  refine al_ (b := x1) rfl hc1 (ab_ (aa_ ?_))
  obtain ⟨x2, hx2, h⟩ := bnd h
  refine wo_ (aq_ (vs := []) (r := (vb x2)) rfl ca10 rfl args0 I5 (fun Fr_ hF_ => oc_ hF_  hx2) (fun w4 I6 => (wa_ (v := (vb x2)) rfl rfl (ae_ (an_ ?_)))))
  obtain rfl := sj h
  exact ⟨rfl, (vb x2), (bt_ rfl rfl), _, [], (le1.trans le2), I6, rfl, rfl⟩
 refine am_ (b := x1) rfl hc1 (av_ (ab_ (aa_ (wo_ (aj_ (v := (pt_ g1)) (e := a0) rfl gd_ rfl ((p1.mono le2).at_ I5) (fun u2 hu2 => ?_))))))
 obtain ⟨c10, c11, c12, c13, e13, r10, r11, r12, r13⟩ := Riddle.inv hu2
 subst e13
 obtain ⟨z10, m10, k10, rfl⟩ := ad_ r10
 obtain ⟨z11, m11, k11, rfl⟩ := ad_ r11
 obtain ⟨z12, m12, k12, rfl⟩ := ad_ r12
 obtain ⟨z13, m13, k13, rfl⟩ := ad_ r13
 refine wo_ (aj_ (v := (pt_ g2)) (e := a1) rfl uj_ rfl (p2.at_ I5) (fun u3 hu3 => ?_))
 obtain ⟨c14, e18, r14⟩ := Aid.inv hu3
 subst e18
 obtain ⟨z14, m14, k14, rfl⟩ := ad_ r14
 obtain ⟨x3, hx3, h⟩ := bnd h
 refine wo_ (bn_ (vs := [(.agg #[(.slice z10 m10 k10), (.slice z11 m11 k11), (.slice z12 m12 k12), (.slice z13 m13 k13)]), (.agg #[(vi a1.Lock), (vi a1.Clue.Kind), (vi a1.Clue.A), (vi a1.Clue.B), (vi a1.Clue.N), (vi a1.Clue.M), (.slice z14 m14 k14), (vb a1.Clue.Not)])]) rfl ca11 rfl (bu_ rfl rfl) (vh_ I5 (Riddle.rv (s := a0) r10 r11 r12 r13) (Aid.rv (s := a1) r14) hx3) (fun cv1 w5 S3 O1 le3 I7 hv1 => ?_))
 obtain ⟨c15, rfl, rfl, r15⟩ := hv1
 obtain ⟨c16, c17, c18, c19, e20, r16, r17, r18, r19⟩ := Riddle.inv r15
 subst e20
 obtain ⟨z15, m15, k15, rfl⟩ := ad_ r16
 obtain ⟨z16, m16, k16, rfl⟩ := ad_ r17
 obtain ⟨z17, m17, k17, rfl⟩ := ad_ r18
 obtain ⟨z18, m18, k18, rfl⟩ := ad_ r19
 refine wm_ (v := (Value.tuple #[(.agg #[(.slice z15 m15 k15), (.slice z16 m16 k16), (.slice z17 m17 k17), (.slice z18 m18 k18)]), (vi x3.2)])) rfl rfl (wo_ (bi_ (v := (.agg #[(.slice z15 m15 k15), (.slice z16 m16 k16), (.slice z17 m17 k17), (.slice z18 m18 k18)])) rfl rfl rfl (wo_ (bi_ (v := (vi x3.2)) rfl rfl rfl (wo_ (bv_ (z := (.agg #[(.slice none 0 0), (.slice none 0 0), (.slice none 0 0), (.slice none 0 0)])) rfl I7 yv_ (fun g3 w6 (I8 : Inv w6 S3 (ap_ g3 27 #[(.slice none 0 0), (.slice none 0 0), (.slice none 0 0), (.slice none 0 0)] :: Fr)) => (wo_ (bc_ (v := (.agg #[(.slice z15 m15 k15), (.slice z16 m16 k16), (.slice z17 m17 k17), (.slice z18 m18 k18)])) (cs := #[(.slice none 0 0), (.slice none 0 0), (.slice none 0 0), (.slice none 0 0)]) gd_ I8 rfl rfl rfl nb rfl (fun w7 (I9 : Inv w7 S3 (ap_ g3 27 #[(.slice z15 m15 k15), (.slice z16 m16 k16), (.slice z17 m17 k17), (.slice z18 m18 k18)] :: Fr)) => (wa_ (v := (vi x3.2)) rfl rfl (ae_ (ab_ (aa_ (wo_ (aj_ (v := (pt_ g1)) (e := a0) rfl gd_ rfl ((p1.mono (le2.trans le3)).at_ I9) (fun u4 hu4 => ?_)))))))))))))))))
 obtain ⟨c20, c21, c22, c23, e25, r20, r21, r22, r23⟩ := Riddle.inv hu4
 subst e25
 obtain ⟨z19, m19, k19, rfl⟩ := ad_ r20
 obtain ⟨z20, m20, k20, rfl⟩ := ad_ r21
 obtain ⟨z21, m21, k21, rfl⟩ := ad_ r22
 obtain ⟨z22, m22, k22, rfl⟩ := ad_ r23
 refine wo_ (aj_ (v := (pt_ g2)) (e := a1) rfl uj_ rfl ((p2.mono le3).at_ I9) (fun u5 hu5 => ?_))
 obtain ⟨c24, e30, r24⟩ := Aid.inv hu5
 subst e30
 obtain ⟨z23, m23, k23, rfl⟩ := ad_ r24
 obtain ⟨x4, hx4, h⟩ := bnd h
 refine wo_ (bn_ (vs := [(.agg #[(.slice z19 m19 k19), (.slice z20 m20 k20), (.slice z21 m21 k21), (.slice z22 m22 k22)]), (.agg #[(vi a1.Lock), (vi a1.Clue.Kind), (vi a1.Clue.A), (vi a1.Clue.B), (vi a1.Clue.N), (vi a1.Clue.M), (.slice z23 m23 k23), (vb a1.Clue.Not)])]) rfl ca12 rfl (bu_ rfl rfl) (us_ I9 (Riddle.rv (s := a0) r20 r21 r22 r23) (Aid.rv (s := a1) r24) hx4) (fun cv2 w8 S4 O2 le4 I10 hv2 => ?_))
 obtain ⟨c25, rfl, rfl, r25⟩ := hv2
 obtain ⟨c26, c27, c28, c29, e32, r26, r27, r28, r29⟩ := Riddle.inv r25
 subst e32
 obtain ⟨z24, m24, k24, rfl⟩ := ad_ r26
 obtain ⟨z25, m25, k25, rfl⟩ := ad_ r27
 obtain ⟨z26, m26, k26, rfl⟩ := ad_ r28
 obtain ⟨z27, m27, k27, rfl⟩ := ad_ r29
 refine wm_ (v := (Value.tuple #[(.agg #[(.slice z24 m24 k24), (.slice z25 m25 k25), (.slice z26 m26 k26), (.slice z27 m27 k27)]), (vi x4.2)])) rfl rfl (wo_ (bi_ (v := (.agg #[(.slice z24 m24 k24), (.slice z25 m25 k25), (.slice z26 m26 k26), (.slice z27 m27 k27)])) rfl rfl rfl (wo_ (bi_ (v := (vi x4.2)) rfl rfl rfl (wo_ (bv_ (z := (.agg #[(.slice none 0 0), (.slice none 0 0), (.slice none 0 0), (.slice none 0 0)])) rfl I10 yv_ (fun g4 w9 (I11 : Inv w9 S4 (ap_ g4 27 #[(.slice none 0 0), (.slice none 0 0), (.slice none 0 0), (.slice none 0 0)] :: ap_ g3 27 #[(.slice z15 m15 k15), (.slice z16 m16 k16), (.slice z17 m17 k17), (.slice z18 m18 k18)] :: Fr)) => (wo_ (bc_ (v := (.agg #[(.slice z24 m24 k24), (.slice z25 m25 k25), (.slice z26 m26 k26), (.slice z27 m27 k27)])) (cs := #[(.slice none 0 0), (.slice none 0 0), (.slice none 0 0), (.slice none 0 0)]) gd_ I11 rfl rfl rfl nb rfl (fun w10 (I12 : Inv w10 S4 (ap_ g4 27 #[(.slice z24 m24 k24), (.slice z25 m25 k25), (.slice z26 m26 k26), (.slice z27 m27 k27)] :: ap_ g3 27 #[(.slice z15 m15 k15), (.slice z16 m16 k16), (.slice z17 m17 k17), (.slice z18 m18 k18)] :: Fr)) => (wa_ (v := (vi x4.2)) rfl rfl (ae_ (ab_ (ab_ (aa_ (wm_ (v := (vi x3.2)) rfl rfl (wm_ (v := (vi x4.2)) rfl rfl (wo_ (cf_ (a := x3.2) (b := x4.2) rfl rfl rfl (wm_ (v := (vb (x3.2 != x4.2))) rfl rfl ?_))))))))))))))))))))
 rcases ifs h with ⟨hc4, h⟩ | ⟨hc4, h⟩
 ·
  refine ws_ rfl rfl hc4 (ws_ rfl rfl hc4 (ws_ rfl rfl hc4 (ws_ rfl rfl hc4 (wo_ (ba_ (c := x3.2 != x4.2) (a := (vb true)) rfl rfl hc4 rfl (ae_ (al_ (b := true) rfl rfl (ab_ (aa_ (wa_ (v := (vb false)) rfl rfl (ae_ (an_ ?_))))))))))))
  obtain rfl := sj h
  exact ⟨rfl, (vb false), (bt_ rfl rfl), _, [], (((le1.trans le2).trans le3).trans le4), ((I12).drop).drop, rfl, rfl⟩
 refine wk_ rfl rfl hc4 (eb_ (l := [(.slice z15 m15 k15), (.slice z16 m16 k16), (.slice z17 m17 k17), (.slice z18 m18 k18)]) rfl gd_ (I12.nth 1 rfl) rfl rfl rfl (wk_ rfl rfl hc4 (eb_ (l := [(.slice z24 m24 k24), (.slice z25 m25 k25), (.slice z26 m26 k26), (.slice z27 m27 k27)]) rfl gd_ (I12.nth 0 rfl) rfl rfl rfl ?_)))
 obtain ⟨x6, hx6, h⟩ := bnd h
 refine wk_ rfl rfl hc4 (aq_ (vs := [(.agg #[(.slice z15 m15 k15), (.slice z16 m16 k16), (.slice z17 m17 k17), (.slice z18 m18 k18)]), (.agg #[(.slice z24 m24 k24), (.slice z25 m25 k25), (.slice z26 m26 k26), (.slice z27 m27 k27)])]) (r := (vb x6)) rfl ca13 rfl (bu_ rfl rfl) I12 (fun Fr_ hF_ => om_ hF_ (Riddle.rv (s := x3.1) (r16.mono le4) (r17.mono le4) (r18.mono le4) (r19.mono le4)) (Riddle.rv (s := x4.1) r26 r27 r28 r29) hx6) (fun w12 I14 => (wk_ rfl rfl hc4 (ce_ (b := x6) rfl rfl (wo_ (ar_ (c := x3.2 != x4.2) (b := (vb (!x6))) rfl rfl hc4 rfl (ae_ ?_)))))))
 rcases ifs h with ⟨hc5, h⟩ | ⟨hc5, h⟩
 ·
  refine al_ (b := !x6) rfl hc5 (ab_ (aa_ (wa_ (v := (vb false)) rfl rfl (ae_ (an_ ?_)))))
  obtain rfl := sj h
  exact ⟨rfl, (vb false), (bt_ rfl rfl), _, [], (((le1.trans le2).trans le3).trans le4), ((I14).drop).drop, rfl, rfl⟩
 refine am_ (b := !x6) rfl hc5 (av_ (ab_ (aa_ (wo_ (aj_ (v := (pt_ g1)) (e := a0) rfl gd_ rfl ((p1.mono ((le2.trans le3).trans le4)).at_ I14) (fun u6 hu6 => ?_))))))
 obtain ⟨c30, c31, c32, c33, e37, r30, r31, r32, r33⟩ := Riddle.inv hu6
 subst e37
 obtain ⟨z28, m28, k28, rfl⟩ := ad_ r30
 obtain ⟨z29, m29, k29, rfl⟩ := ad_ r31
 obtain ⟨z30, m30, k30, rfl⟩ := ad_ r32
 obtain ⟨z31, m31, k31, rfl⟩ := ad_ r33
 refine wo_ (aj_ (v := (pt_ g2)) (e := a1) rfl uj_ rfl ((p2.mono (le3.trans le4)).at_ I14) (fun u7 hu7 => ?_))
 obtain ⟨c34, e42, r34⟩ := Aid.inv hu7
 subst e42
 obtain ⟨z32, m32, k32, rfl⟩ := ad_ r34
 obtain ⟨x7, hx7, h⟩ := bnd h
 refine wo_ (aq_ (vs := [(.agg #[(.slice z28 m28 k28), (.slice z29 m29 k29), (.slice z30 m30 k30), (.slice z31 m31 k31)]), (.agg #[(vi a1.Lock), (vi a1.Clue.Kind), (vi a1.Clue.A), (vi a1.Clue.B), (vi a1.Clue.N), (vi a1.Clue.M), (.slice z32 m32 k32), (vb a1.Clue.Not)])]) (r := (Value.tuple #[(vi x7.1), (vi x7.2)])) rfl ca14 rfl (bu_ rfl rfl) I14 (fun Fr_ hF_ => ss_ hF_ (Riddle.rv (s := a0) r30 r31 r32 r33) (Aid.rv (s := a1) r34) hx7) (fun w13 I15 => (wm_ (v := (Value.tuple #[(vi x7.1), (vi x7.2)])) rfl rfl (wo_ (bi_ (v := (vi x7.1)) rfl rfl rfl (wo_ (bi_ (v := (vi x7.2)) rfl rfl rfl (wa_ (v := (vi x7.1)) rfl rfl (wa_ (v := (vi x7.2)) rfl rfl (ae_ (ab_ (aa_ (wo_ (aj_ (v := (pt_ g1)) (e := a0) rfl gd_ rfl ((p1.mono ((le2.trans le3).trans le4)).at_ I15) (fun u8 hu8 => ?_)))))))))))))))
 obtain ⟨c35, c36, c37, c38, e44, r35, r36, r37, r38⟩ := Riddle.inv hu8
 subst e44
 obtain ⟨z33, m33, k33, rfl⟩ := ad_ r35
 obtain ⟨z34, m34, k34, rfl⟩ := ad_ r36
 obtain ⟨z35, m35, k35, rfl⟩ := ad_ r37
 obtain ⟨z36, m36, k36, rfl⟩ := ad_ r38
 refine wo_ (aj_ (v := (pt_ g2)) (e := a1) rfl uj_ rfl ((p2.mono (le3.trans le4)).at_ I15) (fun u9 hu9 => ?_))
 obtain ⟨c39, e49, r39⟩ := Aid.inv hu9
 subst e49
 obtain ⟨z37, m37, k37, rfl⟩ := ad_ r39
 obtain ⟨x8, hx8, h⟩ := bnd h
 refine wo_ (aq_ (vs := [(.agg #[(.slice z33 m33 k33), (.slice z34 m34 k34), (.slice z35 m35 k35), (.slice z36 m36 k36)]), (.agg #[(vi a1.Lock), (vi a1.Clue.Kind), (vi a1.Clue.A), (vi a1.Clue.B), (vi a1.Clue.N), (vi a1.Clue.M), (.slice z37 m37 k37), (vb a1.Clue.Not)])]) (r := (Value.tuple #[(vi x8.1), (vi x8.2)])) rfl ca15 rfl (bu_ rfl rfl) I15 (fun Fr_ hF_ => rz_ hF_ (Riddle.rv (s := a0) r35 r36 r37 r38) (Aid.rv (s := a1) r39) hx8) (fun w14 I16 => (wm_ (v := (Value.tuple #[(vi x8.1), (vi x8.2)])) rfl rfl (wo_ (bi_ (v := (vi x8.1)) rfl rfl rfl (wo_ (bi_ (v := (vi x8.2)) rfl rfl rfl (wa_ (v := (vi x8.1)) rfl rfl (wa_ (v := (vi x8.2)) rfl rfl (ae_ (ab_ (ab_ (aa_ (wm_ (v := (vi x7.1)) rfl rfl (wm_ (v := (vi x8.1)) rfl rfl (wo_ (cf_ (a := x7.1) (b := x8.1) rfl rfl rfl (wm_ (v := (vb (x7.1 != x8.1))) rfl rfl ?_))))))))))))))))))
 rcases ifs h with ⟨hc8, h⟩ | ⟨hc8, h⟩
 ·
  refine ws_ rfl rfl hc8 (ws_ rfl rfl hc8 (ws_ rfl rfl hc8 (wo_ (ba_ (c := x7.1 != x8.1) (a := (vb true)) rfl rfl hc8 rfl (ae_ (al_ (b := true) rfl rfl (ab_ (aa_ (wa_ (v := (vb false)) rfl rfl (ae_ (an_ ?_)))))))))))
  obtain rfl := sj h
  exact ⟨rfl, (vb false), (bt_ rfl rfl), _, [], (((le1.trans le2).trans le3).trans le4), ((I16).drop).drop, rfl, rfl⟩
 refine wk_ rfl rfl hc8 (ay_ (v := (vi x7.2)) rfl rfl (wk_ rfl rfl hc8 (ay_ (v := (vi x8.2)) rfl rfl (wk_ rfl rfl hc8 (cf_ (a := x7.2) (b := x8.2) rfl rfl rfl (wo_ (ar_ (c := x7.1 != x8.1) (b := (vb (x7.2 != x8.2))) rfl rfl hc8 rfl (ae_ ?_))))))))
 rcases ifs h with ⟨hc9, h⟩ | ⟨hc9, h⟩
 ·
  refine al_ (b := x7.2 != x8.2) rfl hc9 (ab_ (aa_ (wa_ (v := (vb false)) rfl rfl (ae_ (an_ ?_)))))
  obtain rfl := sj h
  exact ⟨rfl, (vb false), (bt_ rfl rfl), _, [], (((le1.trans le2).trans le3).trans le4), ((I16).drop).drop, rfl, rfl⟩
 refine am_ (b := x7.2 != x8.2) rfl hc9 (av_ (ab_ (aa_ (wo_ (aj_ (v := (pt_ g1)) (e := a0) rfl gd_ rfl ((p1.mono ((le2.trans le3).trans le4)).at_ I16) (fun u10 hu10 => ?_))))))
 obtain ⟨c40, c41, c42, c43, e51, r40, r41, r42, r43⟩ := Riddle.inv hu10
 subst e51
 obtain ⟨z38, m38, k38, rfl⟩ := ad_ r40
 obtain ⟨z39, m39, k39, rfl⟩ := ad_ r41
 obtain ⟨z40, m40, k40, rfl⟩ := ad_ r42
 obtain ⟨z41, m41, k41, rfl⟩ := ad_ r43
 refine wo_ (aj_ (v := (pt_ g2)) (e := a1) rfl uj_ rfl ((p2.mono (le3.trans le4)).at_ I16) (fun u11 hu11 => ?_))
 obtain ⟨c44, e56, r44⟩ := Aid.inv hu11
 subst e56
 obtain ⟨z42, m42, k42, rfl⟩ := ad_ r44
 obtain ⟨x9, hx9, h⟩ := bnd h
 refine wo_ (bn_ (vs := [(.agg #[(.slice z38 m38 k38), (.slice z39 m39 k39), (.slice z40 m40 k40), (.slice z41 m41 k41)]), (.agg #[(vi a1.Lock), (vi a1.Clue.Kind), (vi a1.Clue.A), (vi a1.Clue.B), (vi a1.Clue.N), (vi a1.Clue.M), (.slice z42 m42 k42), (vb a1.Clue.Not)])]) rfl ca16 rfl (bu_ rfl rfl) (nf_ I16 (Riddle.rv (s := a0) r40 r41 r42 r43) (Aid.rv (s := a1) r44) hx9) (fun cv3 w15 S5 O3 le5 I17 hv3 => ?_))
 obtain ⟨z43, m43, k43, rfl, rfl⟩ := hv3
 refine wm_ (v := (Value.tuple #[(.slice z43 m43 k43), (vi x9.2)])) rfl rfl (wo_ (bi_ (v := (.slice z43 m43 k43)) rfl rfl rfl (wo_ (bi_ (v := (vi x9.2)) rfl rfl rfl (wa_ (v := (.slice z43 m43 k43)) rfl rfl (wa_ (v := (vi x9.2)) rfl rfl (ae_ (ab_ (aa_ (wo_ (aj_ (v := (pt_ g1)) (e := a0) rfl gd_ rfl ((p1.mono (((le2.trans le3).trans le4).trans le5)).at_ I17) (fun u12 hu12 => ?_))))))))))))
 obtain ⟨c45, c46, c47, c48, e58, r45, r46, r47, r48⟩ := Riddle.inv hu12
 subst e58
 obtain ⟨z44, m44, k44, rfl⟩ := ad_ r45
 obtain ⟨z45, m45, k45, rfl⟩ := ad_ r46
 obtain ⟨z46, m46, k46, rfl⟩ := ad_ r47
 obtain ⟨z47, m47, k47, rfl⟩ := ad_ r48
 refine wo_ (aj_ (v := (pt_ g2)) (e := a1) rfl uj_ rfl ((p2.mono ((le3.trans le4).trans le5)).at_ I17) (fun u13 hu13 => ?_))
 obtain ⟨c49, e63, r49⟩ := Aid.inv hu13
 subst e63
 obtain ⟨z48, m48, k48, rfl⟩ := ad_ r49
 obtain ⟨x10, hx10, h⟩ := bnd h
 refine wo_ (bn_ (vs := [(.agg #[(.slice z44 m44 k44), (.slice z45 m45 k45), (.slice z46 m46 k46), (.slice z47 m47 k47)]), (.agg #[(vi a1.Lock), (vi a1.Clue.Kind), (vi a1.Clue.A), (vi a1.Clue.B), (vi a1.Clue.N), (vi a1.Clue.M), (.slice z48 m48 k48), (vb a1.Clue.Not)])]) rfl ca17 rfl (bu_ rfl rfl) (rx_ I17 (Riddle.rv (s := a0) r45 r46 r47 r48) (Aid.rv (s := a1) r49) hx10) (fun cv4 w16 S6 O4 le6 I18 hv4 => ?_))
 obtain ⟨z49, m49, k49, rfl, rfl⟩ := hv4
 refine wm_ (v := (Value.tuple #[(.slice z49 m49 k49), (vi x10.2)])) rfl rfl (wo_ (bi_ (v := (.slice z49 m49 k49)) rfl rfl rfl (wo_ (bi_ (v := (vi x10.2)) rfl rfl rfl (wa_ (v := (.slice z49 m49 k49)) rfl rfl (wa_ (v := (vi x10.2)) rfl rfl (ae_ (ab_ (aa_ (wm_ (v := (vi x9.2)) rfl rfl (wm_ (v := (vi x10.2)) rfl rfl (wo_ (bq_ (a := x9.2) (b := x10.2) rfl rfl rfl (wm_ (v := (vb (x9.2 == x10.2))) rfl rfl ?_))))))))))))))
 rcases ifs h with ⟨hc10, h⟩ | ⟨hc10, h⟩
 ·
  refine wk_ rfl rfl hc10 (ay_ (v := (.slice z43 m43 k43)) rfl rfl (wk_ rfl rfl hc10 (ay_ (v := (.slice z49 m49 k49)) rfl rfl ?_)))
  obtain ⟨x11, hx11, h⟩ := bnd h
  obtain ⟨S7, Fr1, le7, I19, r50, r51, bk1⟩ := Inv.lend2 (I18.pull 1)
  refine wk_ rfl rfl hc10 (bn_ (vs := [(.slice z43 m43 k43), (.slice z49 m49 k49)]) rfl ca18 rfl (bu_ rfl rfl) (ey_ I19 r50 r51 hx11) (fun cv5 w17 S8 O5 le8 I21 hv5 => ?_))
  obtain ⟨rfl, rfl⟩ := hv5
  have I20 := bk1 [] trivial I21 le8
  refine wo_ (ba_ (c := x9.2 == x10.2) (a := (vb x11)) rfl rfl hc10 rfl (wm_ (v := (vb x11)) rfl rfl ?_))
  rcases ifs h with ⟨hc11, h⟩ | ⟨hc11, h⟩
  ·
   obtain ⟨x12, hx12, h⟩ := bnd h
   refine wk_ rfl rfl hc11 (aq_ (vs := []) (r := (vb x12)) rfl ca10 rfl args0 I20 (fun Fr_ hF_ => oc_ hF_  hx12) (fun w18 I22 => (wo_ (ba_ (c := x11) (a := (vb x12)) rfl rfl hc11 rfl (wa_ (v := (vb x12)) rfl rfl (ae_ (an_ ?_)))))))
   obtain rfl := sj h
   exact ⟨rfl, (vb x12), (bt_ rfl rfl), _, [], (((((le1.trans le2).trans le3).trans le4).trans le5).trans le6), ((((I22).drop).drop).drop).drop, rfl, rfl⟩
  refine ws_ rfl rfl hc11 (wo_ (ar_ (c := x11) (b := (vb false)) rfl rfl hc11 rfl (wa_ (v := (vb false)) rfl rfl (ae_ (an_ ?_)))))
  obtain rfl := sj h
  exact ⟨rfl, (vb false), (bt_ rfl rfl), _, [], (((((le1.trans le2).trans le3).trans le4).trans le5).trans le6), ((((I20).drop).drop).drop).drop, rfl, rfl⟩
 refine ws_ rfl rfl hc10 (ws_ rfl rfl hc10 (ws_ rfl rfl hc10 (wo_ (ar_ (c := x9.2 == x10.2) (b := (vb false)) rfl rfl hc10 rfl (wm_ (v := (vb false)) rfl rfl (ws_ (c := false) rfl rfl rfl (wo_ (ar_ (c := false) (b := (vb false)) rfl rfl rfl rfl (wa_ (v := (vb false)) rfl rfl (ae_ (an_ ?_)))))))))))
 obtain rfl := sj h
 exact ⟨rfl, (vb false), (bt_ rfl rfl), _, [], (((((le1.trans le2).trans le3).trans le4).trans le5).trans le6), ((((I18).drop).drop).drop).drop, rfl, rfl⟩
end Go.Proofs.YtlpdpeghgndmkaaGreat.Pad
