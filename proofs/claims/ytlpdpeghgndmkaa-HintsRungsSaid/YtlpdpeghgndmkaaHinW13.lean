/- A part of the proof: what the functions of the program compute, shown over the model. -/
import Derived.Test.YtlpdpeghgndmkaaHinP
import Derived.Test.YtlpdpeghgndmkaaHinW10
import Derived.KernelRfl
set_option linter.unusedVariables false
set_option maxHeartbeats 4000000
set_option maxRecDepth 100000
namespace Go.Proofs.Ytlpdpeghgndmkaa.Pad
open Go Go.Proofs
theorem hints_Tell_ok {w : World} {S : PH} {Fr : List HP} {a0 : Riddle} {v0 : Value} {a1 : Aid} {v1 : Value} {r : Riddle × Int} (hI : Inv w S (Fr)) (h0_ : RV S v0 a0) (h1_ : RV S v1 a1) (h : ju_ a0 a1 = some r) :
    Calls Try.prog 14 [v0, v1].toArray w (mu_ S Fr (fun T_ v_ O_ => ∃ (c0_ : Value), v_ = (Value.tuple #[c0_, (Value.int .i64 (r.2))]) ∧ O_ = [] ∧ RV T_ c0_ r.1)) := by
 unfold ju_ at h
 obtain ⟨c1, c2, c3, c4, e1, r1, r2, r3, r4⟩ := Riddle.inv h0_
 subst e1
 obtain ⟨z1, m1, k1, rfl⟩ := ad_ r1
 obtain ⟨z2, m2, k2, rfl⟩ := ad_ r2
 obtain ⟨z3, m3, k3, rfl⟩ := ad_ r3
 obtain ⟨z4, m4, k4, rfl⟩ := ad_ r4
 obtain ⟨c5, e6, r5⟩ := Aid.inv h1_
 subst e6
 obtain ⟨z5, m5, k5, rfl⟩ := ad_ r5
 refine au_ (n := 24) (vs := [(.agg #[(.slice z1 m1 k1), (.slice z2 m2 k2), (.slice z3 m3 k3), (.slice z4 m4 k4)]), (.agg #[(vi a1.Lock), (vi a1.Clue.Kind), (vi a1.Clue.A), (vi a1.Clue.B), (vi a1.Clue.N), (vi a1.Clue.M), (.slice z5 m5 k5), (vb a1.Clue.Not)])]) Try.func14 rfl rfl rfl (ab_ (aa_ (wo_ (bh_ (v := (.agg #[(.slice z1 m1 k1), (.slice z2 m2 k2), (.slice z3 m3 k3), (.slice z4 m4 k4)])) rfl hI rfl (fun g1 w1 I1 => ?_)))))
 obtain ⟨S1, le1, I2, p1⟩ := Inv.boxFreeze (x := a0) I1 (Riddle.rv (s := a0) r1 r2 r3 r4)
 refine wo_ (bh_ (v := (.agg #[(vi a1.Lock), (vi a1.Clue.Kind), (vi a1.Clue.A), (vi a1.Clue.B), (vi a1.Clue.N), (vi a1.Clue.M), (.slice z5 m5 k5), (vb a1.Clue.Not)])) rfl I2 rfl (fun g2 w2 I3 => ?_))
 obtain ⟨S2, le2, I4, p2⟩ := Inv.boxFreeze (x := a1) I3 (Aid.rv (s := a1) (r5.mono le1))
 refine wo_ (bv_ (z := (.agg #[(.slice none 0 0), (.slice none 0 0), (.slice none 0 0), (.slice none 0 0)])) rfl I4 zo27 (fun g3 w3 (I5 : Inv w3 S2 (ao_ g3 27 #[(.slice none 0 0), (.slice none 0 0), (.slice none 0 0), (.slice none 0 0)] :: Fr)) => (wa_ (v := (vi 0)) rfl rfl (ae_ (ab_ (aa_ (wo_ (an_ (v := (pt_ g1)) (e := a0) rfl hn_ rfl ((p1.mono le2).at_ I5) (fun u1 hu1 => ?_)))))))))
 obtain ⟨c6, c7, c8, c9, e8, r6, r7, r8, r9⟩ := Riddle.inv hu1
 subst e8
 obtain ⟨z6, m6, k6, rfl⟩ := ad_ r6
 obtain ⟨z7, m7, k7, rfl⟩ := ad_ r7
 obtain ⟨z8, m8, k8, rfl⟩ := ad_ r8
 obtain ⟨z9, m9, k9, rfl⟩ := ad_ r9
 refine wo_ (an_ (v := (pt_ g2)) (e := a1) rfl sh32 rfl (p2.at_ I5) (fun u2 hu2 => ?_))
 obtain ⟨c10, e13, r10⟩ := Aid.inv hu2
 subst e13
 obtain ⟨z10, m10, k10, rfl⟩ := ad_ r10
 obtain ⟨x1, hx1, h⟩ := bnd h
 refine wo_ (bm_ (vs := [(.agg #[(.slice z6 m6 k6), (.slice z7 m7 k7), (.slice z8 m8 k8), (.slice z9 m9 k9)]), (.agg #[(vi a1.Lock), (vi a1.Clue.Kind), (vi a1.Clue.A), (vi a1.Clue.B), (vi a1.Clue.N), (vi a1.Clue.M), (.slice z10 m10 k10), (vb a1.Clue.Not)])]) rfl ca35 rfl (bt_ rfl rfl) (ic_ I5 (Riddle.rv (s := a0) r6 r7 r8 r9) (Aid.rv (s := a1) r10) hx1) (fun cv1 w4 S3 O1 le3 I6 hv1 => ?_))
 obtain ⟨c11, c12, rfl, rfl, r11, r12⟩ := hv1
 refine wm_ (v := (Value.tuple #[c11, c12, (vi x1.2.2)])) rfl rfl (wo_ (bd_ (v := c11) rfl rfl rfl (wo_ (bd_ (v := c12) rfl rfl rfl (wo_ (bd_ (v := (vi x1.2.2)) rfl rfl rfl (wa_ (v := c11) rfl rfl (wa_ (v := c12) rfl rfl (wa_ (v := (vi x1.2.2)) rfl rfl (ae_ (ab_ (ab_ (aa_ (wm_ (v := (vi x1.2.2)) rfl rfl (wo_ (cd_ (a := x1.2.2) (b := 0) rfl rfl rfl (ae_ ?_)))))))))))))))))
 rcases ifs h with ⟨hc1, h⟩ | ⟨hc1, h⟩
 ·
  refine ai_ (b := x1.2.2 != 0) rfl hc1 (ab_ (aa_ (wo_ (gw_ (qs := []) (c := #[(.slice none 0 0), (.slice none 0 0), (.slice none 0 0), (.slice none 0 0)]) rfl st27 trivial rfl (wm_ (v := (vi x1.2.2)) rfl rfl (wo_ (bc_ (v := (.agg #[(.slice none 0 0), (.slice none 0 0), (.slice none 0 0), (.slice none 0 0)])) (cs := #[(.slice none 0 0), (.slice none 0 0), (.slice none 0 0), (.slice none 0 0)]) hn_ I6 rfl rfl rfl (Nat.le_of_ble_eq_true rfl) rfl (fun w5 (I7 : Inv w5 S3 (ao_ g3 27 #[(.slice none 0 0), (.slice none 0 0), (.slice none 0 0), (.slice none 0 0)] :: Fr)) => (wa_ (v := (vi x1.2.2)) rfl rfl (ae_ (al_ ?_)))))))))))
  obtain rfl := sj h
  exact ⟨rfl, (Value.tuple #[(.agg #[(.slice none 0 0), (.slice none 0 0), (.slice none 0 0), (.slice none 0 0)]), (vi x1.2.2)]), (res2c (cs := #[(.slice none 0 0), (.slice none 0 0), (.slice none 0 0), (.slice none 0 0)]) rfl rfl hn_ I7 rfl), _, [], ((le1.trans le2).trans le3), (I7).drop, _, rfl, rfl, (Riddle.rv (s := (⟨([] : (List CodeLock)), ([] : (List (List Int))), ([] : (List (List Clue))), ([] : (List Tie))⟩ : Riddle)) rv_nil rv_nil rv_nil rv_nil)⟩
 refine am_ (b := x1.2.2 != 0) rfl hc1 (av_ (ab_ (aa_ (wm_ (v := c12) rfl rfl ?_))))
 obtain ⟨x2, hx2, h⟩ := bnd h
 refine wo_ (dy_ (v := c12) rfl rfl (kb_ r12 hx2) (wo_ (ac_ (v := c12) rfl fa89_0 rfl ((kb_ r12 hx2).at_ I6) (wo_ (an_ (v := (af_ c12 0)) (e := x2.Riddle) rfl hn_ rfl (((kb_ r12 hx2).at_ I6).fld Hints_room.fld0) (fun u3 hu3 => ?_))))))
 obtain ⟨c13, c14, c15, c16, e15, r13, r14, r15, r16⟩ := Riddle.inv hu3
 subst e15
 obtain ⟨z11, m11, k11, rfl⟩ := ad_ r13
 obtain ⟨z12, m12, k12, rfl⟩ := ad_ r14
 obtain ⟨z13, m13, k13, rfl⟩ := ad_ r15
 obtain ⟨z14, m14, k14, rfl⟩ := ad_ r16
 refine wo_ (bc_ (v := (.agg #[(.slice z11 m11 k11), (.slice z12 m12 k12), (.slice z13 m13 k13), (.slice z14 m14 k14)])) (cs := #[(.slice none 0 0), (.slice none 0 0), (.slice none 0 0), (.slice none 0 0)]) hn_ I6 rfl rfl rfl (Nat.le_of_ble_eq_true rfl) rfl (fun w6 (I8 : Inv w6 S3 (ao_ g3 27 #[(.slice z11 m11 k11), (.slice z12 m12 k12), (.slice z13 m13 k13), (.slice z14 m14 k14)] :: Fr)) => (wa_ (v := (vi 0)) rfl rfl (ae_ (al_ ?_)))))
 obtain rfl := sj h
 exact ⟨rfl, (Value.tuple #[(.agg #[(.slice z11 m11 k11), (.slice z12 m12 k12), (.slice z13 m13 k13), (.slice z14 m14 k14)]), (vi 0)]), (res2c (cs := #[(.slice z11 m11 k11), (.slice z12 m12 k12), (.slice z13 m13 k13), (.slice z14 m14 k14)]) rfl rfl hn_ I8 rfl), _, [], ((le1.trans le2).trans le3), (I8).drop, _, rfl, rfl, (Riddle.rv (s := x2.Riddle) r13 r14 r15 r16)⟩
end Go.Proofs.Ytlpdpeghgndmkaa.Pad
