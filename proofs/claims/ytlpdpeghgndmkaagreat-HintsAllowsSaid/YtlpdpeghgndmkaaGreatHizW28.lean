/- A part of the proof: what the functions of the program compute, shown over the model. -/
import Derived.Test.YtlpdpeghgndmkaaGreatHizP
import Derived.Test.YtlpdpeghgndmkaaGreatHizW1
import Derived.Test.YtlpdpeghgndmkaaGreatHizW4
import Derived.Test.YtlpdpeghgndmkaaGreatHizW11
import Derived.Test.YtlpdpeghgndmkaaGreatHizW18
import Derived.Test.YtlpdpeghgndmkaaGreatHizW22
import Derived.Test.YtlpdpeghgndmkaaGreatHizW23
import Derived.KernelRfl
set_option linter.unusedVariables false
set_option maxHeartbeats 4000000
set_option maxRecDepth 100000
namespace Go.Proofs.YtlpdpeghgndmkaaGreat.Pad
open Go Go.Proofs
theorem ti_ {w : World} {S : PH} {Fr : List HP} {a0 : Riddle} {v0 : Value} {a1 : (List Aid)} {v1 : Value} {a2 : Int} {r : (List Int) × Int} (hI : Inv w S (Fr)) (h0_ : RV S v0 a0) (h1_ : RV S v1 a1) (h : iq_ a0 a1 a2 = some r) :
    Calls Tryz.prog 24 [v0, v1, (Value.int .i64 (a2))].toArray w (lp_ S Fr (fun T_ v_ O_ => ∃ (a0_ : Option Addr) (n0_ k0_ : Nat), v_ = (Value.tuple #[(Value.slice a0_ n0_ k0_), (Value.int .i64 (r.2))]) ∧ O_ = [Row (α := Int) 3 (Value.slice a0_ n0_ k0_) (r.1)])) := by
 unfold iq_ at h
 obtain ⟨c1, c2, c3, c4, e1, r1, r2, r3, r4⟩ := Riddle.inv h0_
 subst e1
 obtain ⟨z1, m1, k1, rfl⟩ := ac_ r1
 obtain ⟨z2, m2, k2, rfl⟩ := ac_ r2
 obtain ⟨z3, m3, k3, rfl⟩ := ac_ r3
 obtain ⟨z4, m4, k4, rfl⟩ := ac_ r4
 obtain ⟨z5, m5, k5, rfl⟩ := ac_ h1_
 refine ao_ (n := 20) Tryz.func24 rfl rfl rfl (ab_ (aa_ (wo_ (bi_ (v := (.agg #[(.slice z1 m1 k1), (.slice z2 m2 k2), (.slice z3 m3 k3), (.slice z4 m4 k4)])) rfl hI rfl (fun g1 w1 I1 => ?_)))))
 obtain ⟨S1, le1, I2, p1⟩ := Inv.boxFreeze (x := a0) I1 (Riddle.rv (s := a0) r1 r2 r3 r4)
 refine wa_ (v := sn) rfl rfl (wa_ (v := (vi 0)) rfl rfl (ad_ (ab_ (ab_ (aa_ (wo_ (ld_ fr_ (p1.at_ I2) rfl (fun u1 hu1 => ?_))))))))
 obtain ⟨c5, c6, c7, c8, e7, r5, r6, r7, r8⟩ := Riddle.inv hu1
 subst e7
 obtain ⟨z6, m6, k6, rfl⟩ := ac_ r5
 obtain ⟨z7, m7, k7, rfl⟩ := ac_ r6
 obtain ⟨z8, m8, k8, rfl⟩ := ac_ r7
 obtain ⟨z9, m9, k9, rfl⟩ := ac_ r8
 refine wm_ (v := (.slice z5 m5 k5)) rfl rfl (wm_ (v := (vi a2)) rfl rfl ?_)
 obtain ⟨x1, hx1, h⟩ := bnd h
 refine wo_ (cv_ ca60 rfl I2 (fun Fr_ hF_ => je_ hF_ (Riddle.rv (s := a0) r5 r6 r7 r8) (h1_.mono le1) hx1) (cf_ rfl rfl rfl) (fun w2 I3 => (wa_ (v := (vi x1)) rfl rfl (ad_ (ab_ (aa_ (wm_ (v := (vi x1)) rfl rfl (wo_ (cd_ rfl rfl rfl (ad_ ?_))))))))))
 rcases ifs h with ⟨hc1, h⟩ | ⟨hc1, h⟩
 ·
  refine ah_ rfl hc1 (ab_ (aa_ (wm_ (v := (vi x1)) rfl rfl (wa_ (v := sn) rfl rfl (wa_ (v := (vi x1)) rfl rfl (ad_ (ak_ ?_)))))))
  have I4 := Inv.rowNil (α := Int) (T := 3) I3
  obtain rfl := sj h
  exact ⟨rfl, (Value.tuple #[sn, (vi x1)]), (qy_ rfl rfl rfl), _, [Row (α := Int) 3 sn (([] : List Int))], le1, I4, _, _, _, rfl, rfl⟩
 refine ai_ rfl hc1 (ar_ (ab_ (aa_ (wo_ (ld_ fr_ (p1.at_ I3) rfl (fun u2 hu2 => ?_))))))
 obtain ⟨c9, c10, c11, c12, e12, r9, r10, r11, r12⟩ := Riddle.inv hu2
 subst e12
 obtain ⟨z10, m10, k10, rfl⟩ := ac_ r9
 obtain ⟨z11, m11, k11, rfl⟩ := ac_ r10
 obtain ⟨z12, m12, k12, rfl⟩ := ac_ r11
 obtain ⟨z13, m13, k13, rfl⟩ := ac_ r12
 refine wm_ (v := (.slice z5 m5 k5)) rfl rfl (wm_ (v := (vi a2)) rfl rfl ?_)
 obtain ⟨x2, hx2, h⟩ := bnd h
 refine wo_ (cl_ ca63 rfl (nr_ I3 (Riddle.rv (s := a0) r9 r10 r11 r12) (h1_.mono le1) hx2) (cf_ rfl rfl rfl) (fun cv1 w3 S2 O1 le2 I5 hv1 => ?_))
 obtain ⟨z14, m14, k14, rfl, rfl⟩ := hv1
 refine wa_ (v := (.slice z14 m14 k14)) rfl rfl (wa_ (v := (vi 0)) rfl rfl (ad_ (ak_ ?_)))
 obtain rfl := sj h
 exact ⟨rfl, (Value.tuple #[(.slice z14 m14 k14), (vi 0)]), (qy_ rfl rfl rfl), _, [Row (α := Int) 3 (.slice z14 m14 k14) (x2)], (le1.trans le2), I5, _, _, _, rfl, rfl⟩
theorem uj_ {w : World} {S : PH} {Fr : List HP} {a0 : Riddle} {v0 : Value} {a1 : (List Aid)} {v1 : Value} {a2 : Int} {r : Int × Int} (hI : Inv w S (Fr)) (h0_ : RV S v0 a0) (h1_ : RV S v1 a1) (h : jw_ a0 a1 a2 = some r) :
    Calls Tryz.prog 26 [v0, v1, (Value.int .i64 (a2))].toArray w (bw_ S Fr (Value.tuple #[(Value.int .i64 (r.1)), (Value.int .i64 (r.2))])) := by
 unfold jw_ at h
 obtain ⟨c1, c2, c3, c4, e1, r1, r2, r3, r4⟩ := Riddle.inv h0_
 subst e1
 obtain ⟨z1, m1, k1, rfl⟩ := ac_ r1
 obtain ⟨z2, m2, k2, rfl⟩ := ac_ r2
 obtain ⟨z3, m3, k3, rfl⟩ := ac_ r3
 obtain ⟨z4, m4, k4, rfl⟩ := ac_ r4
 obtain ⟨z5, m5, k5, rfl⟩ := ac_ h1_
 refine ao_ (n := 24) Tryz.func26 rfl rfl rfl (ab_ (aa_ (wo_ (bi_ (v := (.agg #[(.slice z1 m1 k1), (.slice z2 m2 k2), (.slice z3 m3 k3), (.slice z4 m4 k4)])) rfl hI rfl (fun g1 w1 I1 => ?_)))))
 obtain ⟨S1, le1, I2, p1⟩ := Inv.boxFreeze (x := a0) I1 (Riddle.rv (s := a0) r1 r2 r3 r4)
 refine wa_ (v := (vi 0)) rfl rfl (wa_ (v := (vi 0)) rfl rfl (ad_ (ab_ (ab_ (aa_ (wo_ (ld_ fr_ (p1.at_ I2) rfl (fun u1 hu1 => ?_))))))))
 obtain ⟨c5, c6, c7, c8, e7, r5, r6, r7, r8⟩ := Riddle.inv hu1
 subst e7
 obtain ⟨z6, m6, k6, rfl⟩ := ac_ r5
 obtain ⟨z7, m7, k7, rfl⟩ := ac_ r6
 obtain ⟨z8, m8, k8, rfl⟩ := ac_ r7
 obtain ⟨z9, m9, k9, rfl⟩ := ac_ r8
 refine wm_ (v := (.slice z5 m5 k5)) rfl rfl (wm_ (v := (vi a2)) rfl rfl ?_)
 obtain ⟨x1, hx1, h⟩ := bnd h
 refine wo_ (cv_ ca60 rfl I2 (fun Fr_ hF_ => je_ hF_ (Riddle.rv (s := a0) r5 r6 r7 r8) (h1_.mono le1) hx1) (cf_ rfl rfl rfl) (fun w2 I3 => (wa_ (v := (vi x1)) rfl rfl (ad_ (ab_ (aa_ (wm_ (v := (vi x1)) rfl rfl (wo_ (cd_ rfl rfl rfl (ad_ ?_))))))))))
 rcases ifs h with ⟨hc1, h⟩ | ⟨hc1, h⟩
 ·
  refine ah_ rfl hc1 (ab_ (aa_ (wm_ (v := (vi x1)) rfl rfl (wa_ (v := (vi 0)) rfl rfl (wa_ (v := (vi x1)) rfl rfl (ad_ (ak_ ?_)))))))
  obtain rfl := sj h
  exact ⟨rfl, (Value.tuple #[(vi 0), (vi x1)]), (qy_ rfl rfl rfl), _, [], le1, I3, rfl, rfl⟩
 refine ai_ rfl hc1 (ar_ (ab_ (aa_ (wo_ (ld_ fr_ (p1.at_ I3) rfl (fun u2 hu2 => ?_))))))
 obtain ⟨c9, c10, c11, c12, e12, r9, r10, r11, r12⟩ := Riddle.inv hu2
 subst e12
 obtain ⟨z10, m10, k10, rfl⟩ := ac_ r9
 obtain ⟨z11, m11, k11, rfl⟩ := ac_ r10
 obtain ⟨z12, m12, k12, rfl⟩ := ac_ r11
 obtain ⟨z13, m13, k13, rfl⟩ := ac_ r12
 refine wm_ (v := (.slice z5 m5 k5)) rfl rfl (wm_ (v := (vi a2)) rfl rfl ?_)
 obtain ⟨x2, hx2, h⟩ := bnd h
 refine wo_ (cv_ ca61 rfl I3 (fun Fr_ hF_ => rb_ hF_ (Riddle.rv (s := a0) r9 r10 r11 r12) (h1_.mono le1) hx2) (args4 rfl rfl rfl rfl) (fun w3 I4 => (wa_ (v := (vi x2)) rfl rfl (ad_ (ab_ (ab_ (aa_ (wm_ (v := (vi x2)) rfl rfl (wo_ (be_ rfl rfl rfl (ad_ ?_)))))))))))
 rcases ifs h with ⟨hc2, h⟩ | ⟨hc2, h⟩
 ·
  refine ah_ rfl hc2 (ab_ (aa_ (wa_ (v := (vi 0)) rfl rfl (wa_ (v := (vi 3)) rfl rfl (ad_ (ak_ ?_))))))
  obtain rfl := sj h
  exact ⟨rfl, (Value.tuple #[(vi 0), (vi 3)]), (qy_ rfl rfl rfl), _, [], le1, I4, rfl, rfl⟩
 refine ai_ rfl hc2 (ar_ (ab_ (aa_ (wm_ (v := (vi x2)) rfl rfl (wa_ (v := (vi x2)) rfl rfl (wa_ (v := (vi 0)) rfl rfl (ad_ (ak_ ?_))))))))
 obtain rfl := sj h
 exact ⟨rfl, (Value.tuple #[(vi x2), (vi 0)]), (qy_ rfl rfl rfl), _, [], le1, I4, rfl, rfl⟩
theorem uh_ {w : World} {S : PH} {Fr : List HP} {a0 : Riddle} {v0 : Value} {a1 : (List Aid)} {v1 : Value} {a2 : Int} {r : Int × Int} (hI : Inv w S (Fr)) (h0_ : RV S v0 a0) (h1_ : RV S v1 a1) (h : jv_ a0 a1 a2 = some r) :
    Calls Tryz.prog 28 [v0, v1, (Value.int .i64 (a2))].toArray w (bw_ S Fr (Value.tuple #[(Value.int .i64 (r.1)), (Value.int .i64 (r.2))])) := by
 unfold jv_ at h
 obtain ⟨c1, c2, c3, c4, e1, r1, r2, r3, r4⟩ := Riddle.inv h0_
 subst e1
 obtain ⟨z1, m1, k1, rfl⟩ := ac_ r1
 obtain ⟨z2, m2, k2, rfl⟩ := ac_ r2
 obtain ⟨z3, m3, k3, rfl⟩ := ac_ r3
 obtain ⟨z4, m4, k4, rfl⟩ := ac_ r4
 obtain ⟨z5, m5, k5, rfl⟩ := ac_ h1_
 refine ao_ (n := 24) Tryz.func28 rfl rfl rfl (ab_ (aa_ (wo_ (bi_ (v := (.agg #[(.slice z1 m1 k1), (.slice z2 m2 k2), (.slice z3 m3 k3), (.slice z4 m4 k4)])) rfl hI rfl (fun g1 w1 I1 => ?_)))))
 obtain ⟨S1, le1, I2, p1⟩ := Inv.boxFreeze (x := a0) I1 (Riddle.rv (s := a0) r1 r2 r3 r4)
 refine wa_ (v := (vi 0)) rfl rfl (wa_ (v := (vi 0)) rfl rfl (ad_ (ab_ (ab_ (aa_ (wo_ (ld_ fr_ (p1.at_ I2) rfl (fun u1 hu1 => ?_))))))))
 obtain ⟨c5, c6, c7, c8, e7, r5, r6, r7, r8⟩ := Riddle.inv hu1
 subst e7
 obtain ⟨z6, m6, k6, rfl⟩ := ac_ r5
 obtain ⟨z7, m7, k7, rfl⟩ := ac_ r6
 obtain ⟨z8, m8, k8, rfl⟩ := ac_ r7
 obtain ⟨z9, m9, k9, rfl⟩ := ac_ r8
 refine wm_ (v := (.slice z5 m5 k5)) rfl rfl (wm_ (v := (vi a2)) rfl rfl ?_)
 obtain ⟨x1, hx1, h⟩ := bnd h
 refine wo_ (cv_ ca60 rfl I2 (fun Fr_ hF_ => je_ hF_ (Riddle.rv (s := a0) r5 r6 r7 r8) (h1_.mono le1) hx1) (cf_ rfl rfl rfl) (fun w2 I3 => (wa_ (v := (vi x1)) rfl rfl (ad_ (ab_ (aa_ (wm_ (v := (vi x1)) rfl rfl (wo_ (cd_ rfl rfl rfl (ad_ ?_))))))))))
 rcases ifs h with ⟨hc1, h⟩ | ⟨hc1, h⟩
 ·
  refine ah_ rfl hc1 (ab_ (aa_ (wm_ (v := (vi x1)) rfl rfl (wa_ (v := (vi 0)) rfl rfl (wa_ (v := (vi x1)) rfl rfl (ad_ (ak_ ?_)))))))
  obtain rfl := sj h
  exact ⟨rfl, (Value.tuple #[(vi 0), (vi x1)]), (qy_ rfl rfl rfl), _, [], le1, I3, rfl, rfl⟩
 refine ai_ rfl hc1 (ar_ (ab_ (aa_ (wo_ (ld_ fr_ (p1.at_ I3) rfl (fun u2 hu2 => ?_))))))
 obtain ⟨c9, c10, c11, c12, e12, r9, r10, r11, r12⟩ := Riddle.inv hu2
 subst e12
 obtain ⟨z10, m10, k10, rfl⟩ := ac_ r9
 obtain ⟨z11, m11, k11, rfl⟩ := ac_ r10
 obtain ⟨z12, m12, k12, rfl⟩ := ac_ r11
 obtain ⟨z13, m13, k13, rfl⟩ := ac_ r12
 refine wm_ (v := (.slice z5 m5 k5)) rfl rfl (wm_ (v := (vi a2)) rfl rfl ?_)
 obtain ⟨x2, hx2, h⟩ := bnd h
 refine wo_ (cv_ ca61 rfl I3 (fun Fr_ hF_ => rb_ hF_ (Riddle.rv (s := a0) r9 r10 r11 r12) (h1_.mono le1) hx2) (args4 rfl rfl rfl rfl) (fun w3 I4 => (wa_ (v := (vi x2)) rfl rfl (ad_ (ab_ (ab_ (aa_ (wm_ (v := (vi x2)) rfl rfl (wo_ (be_ rfl rfl rfl (ad_ ?_)))))))))))
 rcases ifs h with ⟨hc2, h⟩ | ⟨hc2, h⟩
 ·
  refine ah_ rfl hc2 (ab_ (aa_ (wa_ (v := (vi 0)) rfl rfl (wa_ (v := (vi 3)) rfl rfl (ad_ (ak_ ?_))))))
  obtain rfl := sj h
  exact ⟨rfl, (Value.tuple #[(vi 0), (vi 3)]), (qy_ rfl rfl rfl), _, [], le1, I4, rfl, rfl⟩
 refine ai_ rfl hc2 (ar_ (ab_ (aa_ (wm_ (v := (vi x2)) rfl rfl (wa_ (v := (vi x2)) rfl rfl (wa_ (v := (vi 0)) rfl rfl (ad_ (ak_ ?_))))))))
 obtain rfl := sj h
 exact ⟨rfl, (Value.tuple #[(vi x2), (vi 0)]), (qy_ rfl rfl rfl), _, [], le1, I4, rfl, rfl⟩
theorem pi_ {w : World} {S : PH} {Fr : List HP} {a0 : Riddle} {v0 : Value} {a1 : (List Aid)} {v1 : Value} {a2 : Int} {r : Bool} (hI : Inv w S (Fr)) (h0_ : RV S v0 a0) (h1_ : RV S v1 a1) (h : gx_ a0 a1 a2 = some r) :
    Calls Tryz.prog 6 [v0, v1, (Value.int .i64 (a2))].toArray w (bw_ S Fr (Value.bool (r))) := by
 unfold gx_ at h
 obtain ⟨c1, c2, c3, c4, e1, r1, r2, r3, r4⟩ := Riddle.inv h0_
 subst e1
 obtain ⟨z1, m1, k1, rfl⟩ := ac_ r1
 obtain ⟨z2, m2, k2, rfl⟩ := ac_ r2
 obtain ⟨z3, m3, k3, rfl⟩ := ac_ r3
 obtain ⟨z4, m4, k4, rfl⟩ := ac_ r4
 obtain ⟨z5, m5, k5, rfl⟩ := ac_ h1_
 refine ao_ (n := 96) Tryz.func6 rfl rfl rfl (ab_ (aa_ (wo_ (bi_ (v := (.agg #[(.slice z1 m1 k1), (.slice z2 m2 k2), (.slice z3 m3 k3), (.slice z4 m4 k4)])) rfl hI rfl (fun g1 w1 I1 => ?_)))))
 obtain ⟨S1, le1, I2, p1⟩ := Inv.boxFreeze (x := a0) I1 (Riddle.rv (s := a0) r1 r2 r3 r4)
 refine wa_ (v := (vb false)) rfl rfl (ad_ ?_)
 obtain ⟨ov1, h2, h⟩ := bnd h
 refine ks_ (fun f w => ∃ v1, ov1 = Sum.inl v1 ∧ Inv w S1 (Fr) ∧ f 1 = (.slice z5 m5 k5) ∧ f 2 = (vi a2) ∧ f 3 = (pt_ g1) ∧ f.ds = []) ?_ ?_
 ·
  refine ab_ (aa_ (wo_ (ld_ fr_ (p1.at_ I2) rfl (fun u2 hu2 => ?_))))
  obtain ⟨c9, c10, c11, c12, e12, r9, r10, r11, r12⟩ := Riddle.inv hu2
  subst e12
  obtain ⟨z10, m10, k10, rfl⟩ := ac_ r9
  obtain ⟨z11, m11, k11, rfl⟩ := ac_ r10
  obtain ⟨z12, m12, k12, rfl⟩ := ac_ r11
  obtain ⟨z13, m13, k13, rfl⟩ := ac_ r12
  obtain ⟨x4, hx4, h2⟩ := bnd h2
  refine wo_ (cv_ ca9 rfl I2 (fun Fr_ hF_ => wb_ hF_ (Riddle.rv (s := a0) r9 r10 r11 r12) hx4) (em_ rfl) (fun w5 I6 => (wm_ (v := (vb x4)) rfl rfl ?_)))
  rcases ifs h2 with ⟨hc4, h2⟩ | ⟨hc4, h2⟩
  ·
   refine ws_ rfl rfl hc4 (ws_ rfl rfl hc4 (ws_ rfl rfl hc4 (ws_ rfl rfl hc4 (fu_ rfl rfl rfl rfl rfl (fu_ rfl rfl rfl rfl rfl (fu_ rfl rfl rfl rfl rfl (ws_ rfl rfl hc4 (wo_ (aw_ (a := (vb true)) rfl rfl hc4 rfl (ad_ (ah_ rfl rfl (ab_ (aa_ ?_)))))))))))))
   obtain ⟨x5, hx5, h2⟩ := bnd h2
   refine wo_ (cv_ ca10 rfl I6 (fun Fr_ hF_ => mk_ hF_  hx5) args0 (fun w6 I7 => (wa_ (v := (vb x5)) rfl rfl (ad_ (ak_ ?_)))))
   obtain rfl := sj h2
   have h3 := h
   obtain rfl := sj h3
   exact ⟨rfl, (vb x5), (bo_ rfl rfl), _, [], le1, I7, rfl, rfl⟩
  refine wk_ rfl rfl hc4 (aq_ (v := (.slice z5 m5 k5)) rfl rfl (wk_ rfl rfl hc4 (az_ rfl Tryz.underlying45 rfl (h1_.mono le1) (wk_ rfl rfl hc4 (lv_ rfl rfl rfl (wk_ rfl rfl hc4 (aq_ (v := (vb (decide (6 < (a1.length : Int))))) rfl rfl ?_)))))))
  rcases ifs h2 with ⟨hc5, h2⟩ | ⟨hc5, h2⟩
  ·
   refine wk_ rfl rfl hc5 (aq_ (v := (.slice z5 m5 k5)) rfl rfl (wk_ rfl rfl hc5 (az_ rfl Tryz.underlying45 rfl (h1_.mono le1) (wk_ rfl rfl hc5 (sw_ rfl rfl rfl (wk_ rfl rfl hc4 (aw_ (a := (vb (decide ((a1.length : Int) ≤ 20)))) rfl rfl hc5 rfl (wo_ (ap_ (b := (vb (decide ((a1.length : Int) ≤ 20)))) rfl rfl hc4 rfl (ad_ ?_))))))))))
   rcases ifs h2 with ⟨hc6, h2⟩ | ⟨hc6, h2⟩
   ·
    refine ah_ rfl hc6 (ab_ (aa_ ?_))
    obtain ⟨x6, hx6, h2⟩ := bnd h2
    refine wo_ (cv_ ca10 rfl I6 (fun Fr_ hF_ => mk_ hF_  hx6) args0 (fun w7 I8 => (wa_ (v := (vb x6)) rfl rfl (ad_ (ak_ ?_)))))
    obtain rfl := sj h2
    have h3 := h
    obtain rfl := sj h3
    exact ⟨rfl, (vb x6), (bo_ rfl rfl), _, [], le1, I8, rfl, rfl⟩
   refine ai_ rfl hc6 (ar_ ?_)
   obtain rfl := sj h2
   exact ⟨_, rfl, I6, rfl, rfl, rfl, rfl⟩
  refine ws_ rfl rfl hc5 (ws_ rfl rfl hc5 (ws_ rfl rfl hc5 (wk_ rfl rfl hc4 (ap_ (b := (vb false)) rfl rfl hc5 rfl (wo_ (ap_ (b := (vb false)) rfl rfl hc4 rfl (ad_ (ai_ rfl rfl (ar_ ?_)))))))))
  obtain rfl := sj h2
  exact ⟨_, rfl, I6, rfl, rfl, rfl, rfl⟩
 rintro f w ⟨v1, rfl, I9, e17, e18, e19, ed1⟩
 have h := eh_ h
 refine ab_ (aa_ (wo_ (ay_ rfl fr_ e19 (p1.at_ I9) (fun u3 hu3 => ?_))))
 obtain ⟨c13, c14, c15, c16, e20, r13, r14, r15, r16⟩ := Riddle.inv hu3
 subst e20
 obtain ⟨z14, m14, k14, rfl⟩ := ac_ r13
 obtain ⟨z15, m15, k15, rfl⟩ := ac_ r14
 obtain ⟨z16, m16, k16, rfl⟩ := ac_ r15
 obtain ⟨z17, m17, k17, rfl⟩ := ac_ r16
 refine wm_ rfl e17 (wm_ rfl e18 ?_)
 obtain ⟨x7, hx7, h⟩ := bnd h
 refine wo_ (cl_ ca23 rfl (tq_ I9 (Riddle.rv (s := a0) r13 r14 r15 r16) (h1_.mono le1) hx7) (cf_ rfl rfl rfl) (fun cv1 w8 S2 O1 le2 I10 hv1 => ?_))
 obtain ⟨z18, m18, k18, rfl, rfl⟩ := hv1
 refine wm_ (v := (Value.tuple #[(.slice z18 m18 k18), (vi x7.2)])) rfl rfl (wo_ (bg_ (v := (.slice z18 m18 k18)) rfl rfl rfl (wo_ (bg_ (v := (vi x7.2)) rfl rfl rfl (wa_ (v := (.slice z18 m18 k18)) rfl rfl (wa_ (v := (vi x7.2)) rfl rfl (ad_ (ab_ (aa_ (wo_ (ay_ rfl fr_ e19 ((p1.mono le2).at_ I10) (fun u4 hu4 => ?_))))))))))))
 obtain ⟨c17, c18, c19, c20, e25, r17, r18, r19, r20⟩ := Riddle.inv hu4
 subst e25
 obtain ⟨z19, m19, k19, rfl⟩ := ac_ r17
 obtain ⟨z20, m20, k20, rfl⟩ := ac_ r18
 obtain ⟨z21, m21, k21, rfl⟩ := ac_ r19
 obtain ⟨z22, m22, k22, rfl⟩ := ac_ r20
 refine wm_ rfl e17 (wm_ rfl e18 ?_)
 obtain ⟨x8, hx8, h⟩ := bnd h
 refine wo_ (cl_ ca24 rfl (ti_ I10 (Riddle.rv (s := a0) r17 r18 r19 r20) (h1_.mono (le1.trans le2)) hx8) (cf_ rfl rfl rfl) (fun cv2 w9 S3 O2 le3 I11 hv2 => ?_))
 obtain ⟨z23, m23, k23, rfl, rfl⟩ := hv2
 refine wm_ (v := (Value.tuple #[(.slice z23 m23 k23), (vi x8.2)])) rfl rfl (wo_ (bg_ (v := (.slice z23 m23 k23)) rfl rfl rfl (wo_ (bg_ (v := (vi x8.2)) rfl rfl rfl (wa_ (v := (.slice z23 m23 k23)) rfl rfl (wa_ (v := (vi x8.2)) rfl rfl (ad_ (ab_ (ab_ (aa_ (wm_ (v := (vi x7.2)) rfl rfl (wm_ (v := (vi x8.2)) rfl rfl (wo_ (cd_ rfl rfl rfl (wm_ (v := (vb (x7.2 != x8.2))) rfl rfl ?_)))))))))))))))
 rcases ifs h with ⟨hc9, h⟩ | ⟨hc9, h⟩
 ·
  refine ws_ rfl rfl hc9 (ws_ rfl rfl hc9 (ws_ rfl rfl hc9 (ws_ rfl rfl hc9 (wo_ (aw_ (a := (vb true)) rfl rfl hc9 rfl (ad_ (ah_ rfl rfl (ab_ (aa_ (wa_ (v := (vb false)) rfl rfl (ad_ (ak_ ?_))))))))))))
  obtain rfl := sj h
  exact ⟨ed1, (vb false), (bo_ rfl rfl), _, [], ((le1.trans le2).trans le3), ((I11).drop).drop, rfl, rfl⟩
 refine wk_ rfl rfl hc9 (aq_ (v := (.slice z18 m18 k18)) rfl rfl (wk_ rfl rfl hc9 (aq_ (v := (.slice z23 m23 k23)) rfl rfl ?_)))
 obtain ⟨x10, hx10, h⟩ := bnd h
 obtain ⟨S6, Fr2, le6, I15, r23, r24, bk2⟩ := Inv.lend2 (I11.pull 1)
 refine wk_ rfl rfl hc9 (cl_ ca18 rfl (gv_ I15 r23 r24 hx10) (br_ rfl rfl) (fun cv4 w11 S7 O4 le7 I17 hv4 => ?_))
 obtain ⟨rfl, rfl⟩ := hv4
 have I16 := bk2 [] trivial I17 le7
 refine wk_ rfl rfl hc9 (bx_ rfl rfl (wo_ (ap_ (b := (vb (!x10))) rfl rfl hc9 rfl (ad_ ?_))))
 rcases ifs h with ⟨hc10, h⟩ | ⟨hc10, h⟩
 ·
  refine ah_ rfl hc10 (ab_ (aa_ (wa_ (v := (vb false)) rfl rfl (ad_ (ak_ ?_)))))
  obtain rfl := sj h
  exact ⟨ed1, (vb false), (bo_ rfl rfl), _, [], ((le1.trans le2).trans le3), ((I16).drop).drop, rfl, rfl⟩
 refine ai_ rfl hc10 (ar_ (ab_ (aa_ (wo_ (ay_ rfl fr_ e19 ((p1.mono (le2.trans le3)).at_ I16) (fun u5 hu5 => ?_))))))
 obtain ⟨c21, c22, c23, c24, e30, r25, r26, r27, r28⟩ := Riddle.inv hu5
 subst e30
 obtain ⟨z24, m24, k24, rfl⟩ := ac_ r25
 obtain ⟨z25, m25, k25, rfl⟩ := ac_ r26
 obtain ⟨z26, m26, k26, rfl⟩ := ac_ r27
 obtain ⟨z27, m27, k27, rfl⟩ := ac_ r28
 refine wm_ rfl e17 (wm_ rfl e18 ?_)
 obtain ⟨x11, hx11, h⟩ := bnd h
 refine wo_ (cv_ ca25 rfl I16 (fun Fr_ hF_ => vh_ hF_ (Riddle.rv (s := a0) r25 r26 r27 r28) (h1_.mono ((le1.trans le2).trans le3)) hx11) (cf_ rfl rfl rfl) (fun w12 I18 => (wm_ (v := (Value.tuple #[(vi x11.1), (vi x11.2)])) rfl rfl (wo_ (bg_ (v := (vi x11.1)) rfl rfl rfl (wo_ (bg_ (v := (vi x11.2)) rfl rfl rfl (wa_ (v := (vi x11.1)) rfl rfl (wa_ (v := (vi x11.2)) rfl rfl (ad_ (ab_ (aa_ (wo_ (ay_ rfl fr_ e19 ((p1.mono (le2.trans le3)).at_ I18) (fun u6 hu6 => ?_)))))))))))))))
 obtain ⟨c25, c26, c27, c28, e35, r29, r30, r31, r32⟩ := Riddle.inv hu6
 subst e35
 obtain ⟨z28, m28, k28, rfl⟩ := ac_ r29
 obtain ⟨z29, m29, k29, rfl⟩ := ac_ r30
 obtain ⟨z30, m30, k30, rfl⟩ := ac_ r31
 obtain ⟨z31, m31, k31, rfl⟩ := ac_ r32
 refine wm_ rfl e17 (wm_ rfl e18 ?_)
 obtain ⟨x12, hx12, h⟩ := bnd h
 refine wo_ (cv_ ca26 rfl I18 (fun Fr_ hF_ => uj_ hF_ (Riddle.rv (s := a0) r29 r30 r31 r32) (h1_.mono ((le1.trans le2).trans le3)) hx12) (cf_ rfl rfl rfl) (fun w13 I19 => (wm_ (v := (Value.tuple #[(vi x12.1), (vi x12.2)])) rfl rfl (wo_ (bg_ (v := (vi x12.1)) rfl rfl rfl (wo_ (bg_ (v := (vi x12.2)) rfl rfl rfl (wa_ (v := (vi x12.1)) rfl rfl (wa_ (v := (vi x12.2)) rfl rfl (ad_ (ab_ (ab_ (aa_ (wm_ (v := (vi x11.1)) rfl rfl (wm_ (v := (vi x12.1)) rfl rfl (wo_ (cd_ rfl rfl rfl (wm_ (v := (vb (x11.1 != x12.1))) rfl rfl ?_))))))))))))))))))
 rcases ifs h with ⟨hc13, h⟩ | ⟨hc13, h⟩
 ·
  refine ws_ rfl rfl hc13 (ws_ rfl rfl hc13 (ws_ rfl rfl hc13 (wo_ (aw_ (a := (vb true)) rfl rfl hc13 rfl (ad_ (ah_ rfl rfl (ab_ (aa_ (wa_ (v := (vb false)) rfl rfl (ad_ (ak_ ?_)))))))))))
  obtain rfl := sj h
  exact ⟨ed1, (vb false), (bo_ rfl rfl), _, [], ((le1.trans le2).trans le3), ((I19).drop).drop, rfl, rfl⟩
 refine wk_ rfl rfl hc13 (aq_ (v := (vi x11.2)) rfl rfl (wk_ rfl rfl hc13 (aq_ (v := (vi x12.2)) rfl rfl (wk_ rfl rfl hc13 (cd_ rfl rfl rfl (wo_ (ap_ (b := (vb (x11.2 != x12.2))) rfl rfl hc13 rfl (ad_ ?_))))))))
 rcases ifs h with ⟨hc14, h⟩ | ⟨hc14, h⟩
 ·
  refine ah_ rfl hc14 (ab_ (aa_ (wa_ (v := (vb false)) rfl rfl (ad_ (ak_ ?_)))))
  obtain rfl := sj h
  exact ⟨ed1, (vb false), (bo_ rfl rfl), _, [], ((le1.trans le2).trans le3), ((I19).drop).drop, rfl, rfl⟩
 refine ai_ rfl hc14 (ar_ (ab_ (aa_ (wo_ (ay_ rfl fr_ e19 ((p1.mono (le2.trans le3)).at_ I19) (fun u7 hu7 => ?_))))))
 obtain ⟨c29, c30, c31, c32, e40, r33, r34, r35, r36⟩ := Riddle.inv hu7
 subst e40
 obtain ⟨z32, m32, k32, rfl⟩ := ac_ r33
 obtain ⟨z33, m33, k33, rfl⟩ := ac_ r34
 obtain ⟨z34, m34, k34, rfl⟩ := ac_ r35
 obtain ⟨z35, m35, k35, rfl⟩ := ac_ r36
 refine wm_ rfl e17 (wm_ rfl e18 ?_)
 obtain ⟨x13, hx13, h⟩ := bnd h
 refine wo_ (cv_ ca27 rfl I19 (fun Fr_ hF_ => vd_ hF_ (Riddle.rv (s := a0) r33 r34 r35 r36) (h1_.mono ((le1.trans le2).trans le3)) hx13) (cf_ rfl rfl rfl) (fun w14 I20 => (wm_ (v := (Value.tuple #[(vi x13.1), (vi x13.2)])) rfl rfl (wo_ (bg_ (v := (vi x13.1)) rfl rfl rfl (wo_ (bg_ (v := (vi x13.2)) rfl rfl rfl (wa_ (v := (vi x13.1)) rfl rfl (wa_ (v := (vi x13.2)) rfl rfl (ad_ (ab_ (aa_ (wo_ (ay_ rfl fr_ e19 ((p1.mono (le2.trans le3)).at_ I20) (fun u8 hu8 => ?_)))))))))))))))
 obtain ⟨c33, c34, c35, c36, e45, r37, r38, r39, r40⟩ := Riddle.inv hu8
 subst e45
 obtain ⟨z36, m36, k36, rfl⟩ := ac_ r37
 obtain ⟨z37, m37, k37, rfl⟩ := ac_ r38
 obtain ⟨z38, m38, k38, rfl⟩ := ac_ r39
 obtain ⟨z39, m39, k39, rfl⟩ := ac_ r40
 refine wm_ rfl e17 (wm_ rfl e18 ?_)
 obtain ⟨x14, hx14, h⟩ := bnd h
 refine wo_ (cv_ ca28 rfl I20 (fun Fr_ hF_ => uh_ hF_ (Riddle.rv (s := a0) r37 r38 r39 r40) (h1_.mono ((le1.trans le2).trans le3)) hx14) (cf_ rfl rfl rfl) (fun w15 I21 => (wm_ (v := (Value.tuple #[(vi x14.1), (vi x14.2)])) rfl rfl (wo_ (bg_ (v := (vi x14.1)) rfl rfl rfl (wo_ (bg_ (v := (vi x14.2)) rfl rfl rfl (wa_ (v := (vi x14.1)) rfl rfl (wa_ (v := (vi x14.2)) rfl rfl (ad_ (ab_ (aa_ (wm_ (v := (vi x13.1)) rfl rfl (wm_ (v := (vi x14.1)) rfl rfl (wo_ (bm_ rfl rfl rfl (wm_ (v := (vb (x13.1 == x14.1))) rfl rfl ?_)))))))))))))))))
 rcases ifs h with ⟨hc15, h⟩ | ⟨hc15, h⟩
 ·
  refine wk_ rfl rfl hc15 (aq_ (v := (vi x13.2)) rfl rfl (wk_ rfl rfl hc15 (aq_ (v := (vi x14.2)) rfl rfl (wk_ rfl rfl hc15 (bm_ rfl rfl rfl (wo_ (aw_ (a := (vb (x13.2 == x14.2))) rfl rfl hc15 rfl (wm_ (v := (vb (x13.2 == x14.2))) rfl rfl ?_))))))))
  rcases ifs h with ⟨hc16, h⟩ | ⟨hc16, h⟩
  ·
   obtain ⟨x15, hx15, h⟩ := bnd h
   refine wk_ rfl rfl hc16 (cv_ ca10 rfl I21 (fun Fr_ hF_ => mk_ hF_  hx15) args0 (fun w16 I22 => (wo_ (aw_ (a := (vb x15)) rfl rfl hc16 rfl (wa_ (v := (vb x15)) rfl rfl (ad_ (ak_ ?_)))))))
   obtain rfl := sj h
   exact ⟨ed1, (vb x15), (bo_ rfl rfl), _, [], ((le1.trans le2).trans le3), ((I22).drop).drop, rfl, rfl⟩
  refine ws_ rfl rfl hc16 (wo_ (ap_ (b := (vb false)) rfl rfl hc16 rfl (wa_ (v := (vb false)) rfl rfl (ad_ (ak_ ?_)))))
  obtain rfl := sj h
  exact ⟨ed1, (vb false), (bo_ rfl rfl), _, [], ((le1.trans le2).trans le3), ((I21).drop).drop, rfl, rfl⟩
 refine ws_ rfl rfl hc15 (ws_ rfl rfl hc15 (ws_ rfl rfl hc15 (wo_ (ap_ (b := (vb false)) rfl rfl hc15 rfl (wm_ (v := (vb false)) rfl rfl (ws_ rfl rfl rfl (wo_ (ap_ (b := (vb false)) rfl rfl rfl rfl (wa_ (v := (vb false)) rfl rfl (ad_ (ak_ ?_)))))))))))
 obtain rfl := sj h
 exact ⟨ed1, (vb false), (bo_ rfl rfl), _, [], ((le1.trans le2).trans le3), ((I21).drop).drop, rfl, rfl⟩
end Go.Proofs.YtlpdpeghgndmkaaGreat.Pad
