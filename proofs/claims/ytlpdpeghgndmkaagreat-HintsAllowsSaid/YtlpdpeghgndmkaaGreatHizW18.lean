/- A part of the proof: what the functions of the program compute, shown over the model. -/
import Derived.Test.YtlpdpeghgndmkaaGreatHizP
import Derived.Test.YtlpdpeghgndmkaaGreatHizW16
import Derived.KernelRfl
set_option linter.unusedVariables false
set_option maxHeartbeats 4000000
set_option maxRecDepth 100000
namespace Go.Proofs.YtlpdpeghgndmkaaGreat.Pad
open Go Go.Proofs
theorem ok_ {w : World} {S : PH} {Fr : List HP} {a0 : Riddle} {v0 : Value} {a1 : (List Aid)} {v1 : Value} {a2 : Int} {a3 : Int → Int → Option Bool} {v3 : Value} {r : Int × Int} (hI : Inv w S (Fr)) (h0_ : RV S v0 a0) (h1_ : RV S v1 a1) (h3_ : FnV2 Tryz.prog S v3 a3) (h : ie_ a0 a1 a2 a3 = some r) :
    Calls Tryz.prog 64 [v0, v1, (Value.int .i64 (a2)), v3].toArray w (bw_ S Fr (Value.tuple #[(Value.int .i64 (r.1)), (Value.int .i64 (r.2))])) := by
 unfold ie_ at h
 obtain ⟨c1, c2, c3, c4, e1, r1, r2, r3, r4⟩ := Riddle.inv h0_
 subst e1
 obtain ⟨z1, m1, k1, rfl⟩ := ac_ r1
 obtain ⟨z2, m2, k2, rfl⟩ := ac_ r2
 obtain ⟨z3, m3, k3, rfl⟩ := ac_ r3
 obtain ⟨z4, m4, k4, rfl⟩ := ac_ r4
 obtain ⟨z5, m5, k5, rfl⟩ := ac_ h1_
 refine ao_ (n := 27) Tryz.func64 rfl rfl rfl (ab_ (aa_ (wo_ (bi_ (v := (.agg #[(.slice z1 m1 k1), (.slice z2 m2 k2), (.slice z3 m3 k3), (.slice z4 m4 k4)])) rfl hI rfl (fun g1 w1 I1 => ?_)))))
 obtain ⟨S1, le1, I2, p1⟩ := Inv.boxFreeze (x := a0) I1 (Riddle.rv (s := a0) r1 r2 r3 r4)
 refine wa_ (v := (vi 0)) rfl rfl (wa_ (v := (vi 0)) rfl rfl (ad_ (ab_ (ab_ (aa_ (wo_ (ld_ fr_ (p1.at_ I2) rfl (fun u1 hu1 => ?_))))))))
 obtain ⟨c5, c6, c7, c8, e7, r5, r6, r7, r8⟩ := Riddle.inv hu1
 subst e7
 obtain ⟨z6, m6, k6, rfl⟩ := ac_ r5
 obtain ⟨z7, m7, k7, rfl⟩ := ac_ r6
 obtain ⟨z8, m8, k8, rfl⟩ := ac_ r7
 obtain ⟨z9, m9, k9, rfl⟩ := ac_ r8
 refine wm_ (v := (.slice z5 m5 k5)) rfl rfl (wm_ (v := (vi a2)) rfl rfl ?_)
 obtain ⟨x1, hx1, h⟩ := bnd h
 refine wo_ (cv_ ca57 rfl I2 (fun Fr_ hF_ => lz_ hF_ (Riddle.rv (s := a0) r5 r6 r7 r8) (h1_.mono le1) hx1) (cf_ rfl rfl rfl) (fun w2 I3 => (wa_ (v := (vi x1)) rfl rfl (ad_ (ab_ (aa_ (wm_ (v := (vi x1)) rfl rfl (wo_ (cd_ rfl rfl rfl (ad_ ?_))))))))))
 rcases ifs h with ⟨hc1, h⟩ | ⟨hc1, h⟩
 ·
  refine ah_ rfl hc1 (ab_ (aa_ (wm_ (v := (vi x1)) rfl rfl (wa_ (v := (vi 0)) rfl rfl (wa_ (v := (vi x1)) rfl rfl (ad_ (ak_ ?_)))))))
  obtain rfl := sj h
  exact ⟨rfl, (Value.tuple #[(vi 0), (vi x1)]), (qy_ rfl rfl rfl), _, [], le1, I3, rfl, rfl⟩
 refine ai_ rfl hc1 (ar_ (ab_ (aa_ (wo_ (ld_ fr_ (p1.at_ I3) rfl (fun u2 hu2 => ?_))))))
 obtain ⟨c9, c10, c11, c12, e12, r9, r10, r11, r12⟩ := Riddle.inv hu2
 subst e12
 obtain ⟨z10, m10, k10, rfl⟩ := ac_ r9
 obtain ⟨z11, m11, k11, rfl⟩ := ac_ r10
 obtain ⟨z12, m12, k12, rfl⟩ := ac_ r11
 obtain ⟨z13, m13, k13, rfl⟩ := ac_ r12
 refine wm_ (v := (.slice z5 m5 k5)) rfl rfl (wm_ (v := (vi a2)) rfl rfl (wm_ (v := v3) rfl rfl ?_))
 obtain ⟨x2, hx2, h⟩ := bnd h
 refine wo_ (cv_ ca58 rfl I3 (fun Fr_ hF_ => xs_ hF_ (Riddle.rv (s := a0) r9 r10 r11 r12) (h1_.mono le1) (h3_.mono le1) hx2) (args4 rfl rfl rfl rfl) (fun w3 I4 => (wa_ (v := (vi x2)) rfl rfl (ad_ (ab_ (ab_ (aa_ (wm_ (v := (vi x2)) rfl rfl (wo_ (be_ rfl rfl rfl (ad_ ?_)))))))))))
 rcases ifs h with ⟨hc2, h⟩ | ⟨hc2, h⟩
 ·
  refine ah_ rfl hc2 (ab_ (aa_ (wa_ (v := (vi 0)) rfl rfl (wa_ (v := (vi 3)) rfl rfl (ad_ (ak_ ?_))))))
  obtain rfl := sj h
  exact ⟨rfl, (Value.tuple #[(vi 0), (vi 3)]), (qy_ rfl rfl rfl), _, [], le1, I4, rfl, rfl⟩
 refine ai_ rfl hc2 (ar_ (ab_ (aa_ (wm_ (v := (vi x2)) rfl rfl (wa_ (v := (vi x2)) rfl rfl (wa_ (v := (vi 0)) rfl rfl (ad_ (ak_ ?_))))))))
 obtain rfl := sj h
 exact ⟨rfl, (Value.tuple #[(vi x2), (vi 0)]), (qy_ rfl rfl rfl), _, [], le1, I4, rfl, rfl⟩
theorem vh_ {w : World} {S : PH} {Fr : List HP} {a0 : Riddle} {v0 : Value} {a1 : (List Aid)} {v1 : Value} {a2 : Int} {r : Int × Int} (hI : Inv w S (Fr)) (h0_ : RV S v0 a0) (h1_ : RV S v1 a1) (h : ka_ a0 a1 a2 = some r) :
    Calls Tryz.prog 25 [v0, v1, (Value.int .i64 (a2))].toArray w (bw_ S Fr (Value.tuple #[(Value.int .i64 (r.1)), (Value.int .i64 (r.2))])) := by
 unfold ka_ at h
 obtain ⟨c1, c2, c3, c4, e1, r1, r2, r3, r4⟩ := Riddle.inv h0_
 subst e1
 obtain ⟨z1, m1, k1, rfl⟩ := ac_ r1
 obtain ⟨z2, m2, k2, rfl⟩ := ac_ r2
 obtain ⟨z3, m3, k3, rfl⟩ := ac_ r3
 obtain ⟨z4, m4, k4, rfl⟩ := ac_ r4
 obtain ⟨z5, m5, k5, rfl⟩ := ac_ h1_
 refine ao_ (n := 14) Tryz.func25 rfl rfl rfl (ab_ (aa_ (wo_ (bi_ (v := (.agg #[(.slice z1 m1 k1), (.slice z2 m2 k2), (.slice z3 m3 k3), (.slice z4 m4 k4)])) rfl hI rfl (fun g1 w1 I1 => ?_)))))
 obtain ⟨S1, le1, I2, p1⟩ := Inv.boxFreeze (x := a0) I1 (Riddle.rv (s := a0) r1 r2 r3 r4)
 refine wa_ (v := (vi 0)) rfl rfl (wa_ (v := (vi 0)) rfl rfl (ad_ (ab_ (aa_ (wo_ (ld_ fr_ (p1.at_ I2) rfl (fun u1 hu1 => ?_)))))))
 obtain ⟨c5, c6, c7, c8, e7, r5, r6, r7, r8⟩ := Riddle.inv hu1
 subst e7
 obtain ⟨z6, m6, k6, rfl⟩ := ac_ r5
 obtain ⟨z7, m7, k7, rfl⟩ := ac_ r6
 obtain ⟨z8, m8, k8, rfl⟩ := ac_ r7
 obtain ⟨z9, m9, k9, rfl⟩ := ac_ r8
 refine wm_ (v := (.slice z5 m5 k5)) rfl rfl (wm_ (v := (vi a2)) rfl rfl ?_)
 obtain ⟨x1, hx1, h⟩ := bnd h
 refine wo_ (cv_ ca64 rfl I2 (fun Fr_ hF_ => ok_ hF_ (Riddle.rv (s := a0) r5 r6 r7 r8) (h1_.mono le1) ⟨59, [], rfl, ca59, fun T_ w_ Fr_ a_ b_ r_ hle_ hI_ hr_ => xu_ hI_  hr_⟩ hx1) (args4 rfl rfl rfl rfl) (fun w2 I3 => (wo_ (bg_ (v := (vi x1.1)) rfl rfl rfl (wo_ (bg_ (v := (vi x1.2)) rfl rfl rfl (wa_ (v := (vi x1.1)) rfl rfl (wa_ (v := (vi x1.2)) rfl rfl (ad_ (ak_ ?_))))))))))
 obtain rfl := sj h
 exact ⟨rfl, (Value.tuple #[(vi x1.1), (vi x1.2)]), (qy_ rfl rfl rfl), _, [], le1, I3, rfl, rfl⟩
theorem xv_ {w : World} {S : PH} {Fr : List HP} {a0 : Int} {a1 : Int} {r : Bool} (hI : Inv w S (Fr))  (h : pd_ a0 a1 = some r) :
    Calls Tryz.prog 65 [(Value.int .i64 (a0)), (Value.int .i64 (a1))].toArray w (bw_ S Fr (Value.bool (r))) := by
 unfold pd_ at h
 refine ao_ (n := 8) Tryz.func65 rfl rfl rfl (ab_ (aa_ (wa_ (v := (vb false)) rfl rfl (ad_ (ab_ (aa_ (wm_ (v := (vi a0)) rfl rfl (wm_ (v := (vi a1)) rfl rfl (wo_ (be_ rfl rfl rfl (wa_ (v := (vb (decide (a0 < a1)))) rfl rfl (ad_ (ak_ ?_)))))))))))))
 obtain rfl := sj h
 exact ⟨rfl, (vb (decide (a0 < a1))), (bo_ rfl rfl), _, [], lr, hI, rfl, rfl⟩
theorem vd_ {w : World} {S : PH} {Fr : List HP} {a0 : Riddle} {v0 : Value} {a1 : (List Aid)} {v1 : Value} {a2 : Int} {r : Int × Int} (hI : Inv w S (Fr)) (h0_ : RV S v0 a0) (h1_ : RV S v1 a1) (h : jz_ a0 a1 a2 = some r) :
    Calls Tryz.prog 27 [v0, v1, (Value.int .i64 (a2))].toArray w (bw_ S Fr (Value.tuple #[(Value.int .i64 (r.1)), (Value.int .i64 (r.2))])) := by
 unfold jz_ at h
 obtain ⟨c1, c2, c3, c4, e1, r1, r2, r3, r4⟩ := Riddle.inv h0_
 subst e1
 obtain ⟨z1, m1, k1, rfl⟩ := ac_ r1
 obtain ⟨z2, m2, k2, rfl⟩ := ac_ r2
 obtain ⟨z3, m3, k3, rfl⟩ := ac_ r3
 obtain ⟨z4, m4, k4, rfl⟩ := ac_ r4
 obtain ⟨z5, m5, k5, rfl⟩ := ac_ h1_
 refine ao_ (n := 14) Tryz.func27 rfl rfl rfl (ab_ (aa_ (wo_ (bi_ (v := (.agg #[(.slice z1 m1 k1), (.slice z2 m2 k2), (.slice z3 m3 k3), (.slice z4 m4 k4)])) rfl hI rfl (fun g1 w1 I1 => ?_)))))
 obtain ⟨S1, le1, I2, p1⟩ := Inv.boxFreeze (x := a0) I1 (Riddle.rv (s := a0) r1 r2 r3 r4)
 refine wa_ (v := (vi 0)) rfl rfl (wa_ (v := (vi 0)) rfl rfl (ad_ (ab_ (aa_ (wo_ (ld_ fr_ (p1.at_ I2) rfl (fun u1 hu1 => ?_)))))))
 obtain ⟨c5, c6, c7, c8, e7, r5, r6, r7, r8⟩ := Riddle.inv hu1
 subst e7
 obtain ⟨z6, m6, k6, rfl⟩ := ac_ r5
 obtain ⟨z7, m7, k7, rfl⟩ := ac_ r6
 obtain ⟨z8, m8, k8, rfl⟩ := ac_ r7
 obtain ⟨z9, m9, k9, rfl⟩ := ac_ r8
 refine wm_ (v := (.slice z5 m5 k5)) rfl rfl (wm_ (v := (vi a2)) rfl rfl ?_)
 obtain ⟨x1, hx1, h⟩ := bnd h
 refine wo_ (cv_ ca64 rfl I2 (fun Fr_ hF_ => ok_ hF_ (Riddle.rv (s := a0) r5 r6 r7 r8) (h1_.mono le1) ⟨65, [], rfl, ca65, fun T_ w_ Fr_ a_ b_ r_ hle_ hI_ hr_ => xv_ hI_  hr_⟩ hx1) (args4 rfl rfl rfl rfl) (fun w2 I3 => (wo_ (bg_ (v := (vi x1.1)) rfl rfl rfl (wo_ (bg_ (v := (vi x1.2)) rfl rfl rfl (wa_ (v := (vi x1.1)) rfl rfl (wa_ (v := (vi x1.2)) rfl rfl (ad_ (ak_ ?_))))))))))
 obtain rfl := sj h
 exact ⟨rfl, (Value.tuple #[(vi x1.1), (vi x1.2)]), (qy_ rfl rfl rfl), _, [], le1, I3, rfl, rfl⟩
end Go.Proofs.YtlpdpeghgndmkaaGreat.Pad
