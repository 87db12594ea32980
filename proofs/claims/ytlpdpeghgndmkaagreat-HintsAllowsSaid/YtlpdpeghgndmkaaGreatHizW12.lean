/- A part of the proof: what the functions of the program compute, shown over the model. -/
import Derived.Test.YtlpdpeghgndmkaaGreatHizP
import Derived.Test.YtlpdpeghgndmkaaGreatHizW9
import Derived.Test.YtlpdpeghgndmkaaGreatHizW10
import Derived.KernelRfl
set_option linter.unusedVariables false
set_option maxHeartbeats 4000000
set_option maxRecDepth 100000
namespace Go.Proofs.YtlpdpeghgndmkaaGreat.Pad
open Go Go.Proofs
theorem pk_ {w : World} {S : PH} {Fr : List HP} {a0 : Aid} {v0 : Value} {a1 : Riddle} {v1 : Value} {r : Bool} (hI : Inv w S (Fr)) (h0_ : RV S v0 a0) (h1_ : PtS S v1 a1) (h : gz_ a0 a1 = some r) :
    Calls Tryz.prog 84 [v0, v1].toArray w (bw_ S Fr (Value.bool (r))) := by
 unfold gz_ at h
 obtain ⟨c1, e1, r1⟩ := Aid.inv h0_
 subst e1
 obtain ⟨z1, m1, k1, rfl⟩ := ac_ r1
 refine ao_ (n := 8) Tryz.func84 rfl rfl rfl (ab_ (aa_ (wo_ (bi_ (v := (.agg #[(vi a0.Lock), (vi a0.Clue.Kind), (vi a0.Clue.A), (vi a0.Clue.B), (vi a0.Clue.N), (vi a0.Clue.M), (.slice z1 m1 k1), (vb a0.Clue.Not)])) rfl hI rfl (fun g1 w1 I1 => ?_)))))
 obtain ⟨S1, le1, I2, p1⟩ := Inv.boxFreeze (x := a0) I1 (Aid.rv (s := a0) r1)
 refine wa_ (v := (vb false)) rfl rfl (ad_ (ab_ (aa_ (wo_ (ld_ fr_ ((h1_.mono le1).at_ I2) rfl (fun u1 hu1 => ?_))))))
 obtain ⟨c2, c3, c4, c5, e3, r2, r3, r4, r5⟩ := Riddle.inv hu1
 subst e3
 obtain ⟨z2, m2, k2, rfl⟩ := ac_ r2
 obtain ⟨z3, m3, k3, rfl⟩ := ac_ r3
 obtain ⟨z4, m4, k4, rfl⟩ := ac_ r4
 obtain ⟨z5, m5, k5, rfl⟩ := ac_ r5
 refine wo_ (ld_ ua_ (p1.at_ I2) rfl (fun u2 hu2 => ?_))
 obtain ⟨c6, e8, r6⟩ := Aid.inv hu2
 subst e8
 obtain ⟨z6, m6, k6, rfl⟩ := ac_ r6
 obtain ⟨x1, hx1, h⟩ := bnd h
 refine wo_ (cv_ ca73 rfl I2 (fun Fr_ hF_ => pv_ hF_ (Riddle.rv (s := a1) r2 r3 r4 r5) (Aid.rv (s := a0) r6) hx1) (br_ rfl rfl) (fun w2 I3 => (wo_ (bx_ rfl rfl (wa_ (v := (vb (!x1))) rfl rfl (ad_ (ak_ ?_)))))))
 obtain rfl := sj h
 exact ⟨rfl, (vb (!x1)), (bo_ rfl rfl), _, [], le1, I3, rfl, rfl⟩
theorem ni_ {w : World} {S : PH} {Fr : List HP} {a0 : (List Aid)} {v0 : Value} {a1 : Aid → Option Bool} {v1 : Value} {r : Int} (hI : Inv w S (Fr)) (h0_ : RV S v0 a0) (h1_ : FnV Tryz.prog S v1 a1) (h : hd_ a0 a1 = some r) :
    Calls Tryz.prog 100 [v0, v1].toArray w (bw_ S Fr (Value.int .i64 (r))) := by
 unfold hd_ at h
 obtain ⟨z1, m1, k1, rfl⟩ := ac_ h0_
 refine ao_ (n := 19) Tryz.func100 rfl rfl rfl (ab_ (aa_ (wa_ (v := (vi 0)) rfl rfl (ad_ (ab_ (ab_ (aa_ (wm_ (v := (.slice z1 m1 k1)) rfl rfl (wo_ (az_ rfl Tryz.underlying45 rfl h0_ (wm_ (v := (vi 0)) rfl rfl (ad_ ?_))))))))))))
 have hk1 : a0.length ≤ 9223372036854775807 := (cx_ h0_)
 obtain ⟨o2, hrun1, h⟩ := bnd h
 refine bp_ (fun f w => ∃ out1, o2 = Sum.inl out1 ∧ Inv w S (Fr) ∧ f 0 = (.slice z1 m1 k1) ∧ f 1 = v1 ∧ f 7 = (vi ((a0.length : Int))) ∧ f.ds = []) ?_ ?_
 ·
  refine au_ ?_
  refine ex_ (I := fun (i1 : Nat) (s1 : Unit) (f : Frm) (w : World) => Inv w S (Fr) ∧ f 0 = (.slice z1 m1 k1) ∧ f 1 = v1 ∧ f 7 = (vi ((a0.length : Int))) ∧ f 8 = (vi (i1 : Int)) ∧ f.ds = []) hrun1 ⟨hI, rfl, rfl, rfl, rfl, rfl⟩ ?_ ?_
  ·
   rintro i1 s1 f w o1 hlt1 hI1 h1 hout1
   obtain ⟨I5, e14, e15, e16, e17, ed3⟩ := hI1
   refine ab_ (aa_ (wo_ (be_ rfl e17 e16 (ad_ (ab_ (ah_ rfl (eo_ hlt1) (ar_ (ab_ (au_ (ab_ (aa_ (wm_ rfl e17 (wa_ (v := (vi (i1 : Int))) rfl rfl (ad_ (ab_ (aa_ (wm_ rfl e15 (wm_ rfl e14 (wm_ (v := (vi (i1 : Int))) rfl rfl ?_)))))))))))))))))))
   obtain ⟨x5, hx5, h1⟩ := bnd h1
   refine wo_ (ix_ Tryz.underlying45 ua_ h0_ hx5 rfl rfl (wo_ (ld_ ua_ (h0_.elem I5.in_ hx5) rfl (fun u3 hu3 => ?_))))
   obtain ⟨c3, e18, r3⟩ := Aid.inv hu3
   subst e18
   obtain ⟨z4, m4, k4, rfl⟩ := ac_ r3
   obtain ⟨x6, hx6, h1⟩ := bnd h1
   refine wo_ (kn_ (v := v1) (u := (.agg #[(vi x5.Lock), (vi x5.Clue.Kind), (vi x5.Clue.A), (vi x5.Clue.B), (vi x5.Clue.N), (vi x5.Clue.M), (.slice z4 m4 k4), (vb x5.Clue.Not)])) (r := x6) rfl rfl h1_ rfl (Aid.rv (s := x5) r3) hx6 I5 (fun w3 I6 => (ad_ ?_)))
   rcases ifs h1 with ⟨hc3, h1⟩ | ⟨hc3, h1⟩
   ·
    refine ah_ rfl hc3 (ab_ (aa_ (wm_ (v := (vi (i1 : Int))) rfl rfl (wa_ (v := (vi (i1 : Int))) rfl rfl (ad_ (ak_ ?_))))))
    obtain rfl := sj h1
    obtain rfl := (hout1 _ rfl)
    have h2 := h
    obtain rfl := sj h2
    exact ⟨ed3, (vi (i1 : Int)), (bo_ rfl rfl), _, [], lr, I6, rfl, rfl⟩
   refine ai_ rfl hc3 (ar_ (aa_ (wo_ (bl_ rfl e17 rfl (wm_ (v := (vi (w64 ((i1 : Int) + 1)))) rfl rfl (ad_ ?_))))))
   obtain rfl := sj h1
   exact ⟨_, rfl, I6, e14, e15, e16, (bh_ hlt1 hk1), ed3⟩
  rintro s2 f w hs1 hI2
  obtain ⟨I7, e20, e21, e22, e23, ed4⟩ := hI2
  refine ab_ (aa_ (wo_ (be_ rfl e23 e22 (ad_ (ab_ (ai_ rfl (ep_ _) (bk_ ?_)))))))
  exact ⟨s2, hs1, I7, e20, e21, e22, ed4⟩
 rintro f w ⟨out1, rfl, I8, e24, e25, e26, ed5⟩
 have h := eh_ h
 refine ab_ (aa_ (wa_ (v := (vi ((-1)))) rfl rfl (ad_ (ak_ ?_))))
 obtain rfl := sj h
 exact ⟨ed5, (vi ((-1))), (bo_ rfl rfl), _, [], lr, I8, rfl, rfl⟩
theorem ln_ {w : World} {S : PH} {Fr : List HP} {a0 : (List Aid)} {v0 : Value} {a1 : Aid → Option Bool} {v1 : Value} {r : Bool} (hI : Inv w S (Fr)) (h0_ : RV S v0 a0) (h1_ : FnV Tryz.prog S v1 a1) (h : dz_ a0 a1 = some r) :
    Calls Tryz.prog 83 [v0, v1].toArray w (bw_ S Fr (Value.bool (r))) := by
 unfold dz_ at h
 obtain ⟨z1, m1, k1, rfl⟩ := ac_ h0_
 refine ao_ (n := 9) Tryz.func83 rfl rfl rfl (ab_ (aa_ (wa_ (v := (vb false)) rfl rfl (ad_ (ab_ (aa_ (wm_ (v := (.slice z1 m1 k1)) rfl rfl (wm_ (v := v1) rfl rfl ?_))))))))
 obtain ⟨x1, hx1, h⟩ := bnd h
 refine wo_ (cv_ ca100 rfl hI (fun Fr_ hF_ => ni_ hF_ h0_ h1_ hx1) (br_ rfl rfl) (fun w1 I1 => (wo_ (mx_ rfl rfl rfl (wa_ (v := (vb (decide (0 ≤ x1)))) rfl rfl (ad_ (ak_ ?_)))))))
 obtain rfl := sj h
 exact ⟨rfl, (vb (decide (0 ≤ x1))), (bo_ rfl rfl), _, [], lr, I1, rfl, rfl⟩
theorem ro_ {w : World} {S : PH} {Fr : List HP} {a0 : Riddle} {v0 : Value} {a1 : (List Aid)} {v1 : Value} {r : Int} (hI : Inv w S (Fr)) (h0_ : RV S v0 a0) (h1_ : RV S v1 a1) (h : go_ a0 a1 = some r) :
    Calls Tryz.prog 48 [v0, v1].toArray w (bw_ S Fr (Value.int .i64 (r))) := by
 unfold go_ at h
 obtain ⟨c1, c2, c3, c4, e1, r1, r2, r3, r4⟩ := Riddle.inv h0_
 subst e1
 obtain ⟨z1, m1, k1, rfl⟩ := ac_ r1
 obtain ⟨z2, m2, k2, rfl⟩ := ac_ r2
 obtain ⟨z3, m3, k3, rfl⟩ := ac_ r3
 obtain ⟨z4, m4, k4, rfl⟩ := ac_ r4
 obtain ⟨z5, m5, k5, rfl⟩ := ac_ h1_
 refine ao_ (n := 21) Tryz.func48 rfl rfl rfl (ab_ (aa_ (wo_ (bi_ (v := (.agg #[(.slice z1 m1 k1), (.slice z2 m2 k2), (.slice z3 m3 k3), (.slice z4 m4 k4)])) rfl hI rfl (fun g1 w1 I1 => ?_)))))
 obtain ⟨S1, le1, I2, p1⟩ := Inv.boxFreeze (x := a0) I1 (Riddle.rv (s := a0) r1 r2 r3 r4)
 refine wa_ (v := (vi 0)) rfl rfl (ad_ (ab_ (ab_ (aa_ (wo_ (ld_ fr_ (p1.at_ I2) rfl (fun u1 hu1 => ?_)))))))
 obtain ⟨c5, c6, c7, c8, e7, r5, r6, r7, r8⟩ := Riddle.inv hu1
 subst e7
 obtain ⟨z6, m6, k6, rfl⟩ := ac_ r5
 obtain ⟨z7, m7, k7, rfl⟩ := ac_ r6
 obtain ⟨z8, m8, k8, rfl⟩ := ac_ r7
 obtain ⟨z9, m9, k9, rfl⟩ := ac_ r8
 obtain ⟨x1, hx1, h⟩ := bnd h
 refine wo_ (cl_ ca71 rfl (hm_ I2 (Riddle.rv (s := a0) r5 r6 r7 r8) hx1) (em_ rfl) (fun cv1 w2 S2 O1 le2 I3 hv1 => ?_))
 obtain ⟨c9, rfl, rfl, r9⟩ := hv1
 refine wm_ (v := (Value.tuple #[c9, (vi x1.2)])) rfl rfl (wo_ (bg_ (v := c9) rfl rfl rfl (wo_ (bg_ (v := (vi x1.2)) rfl rfl rfl (wa_ (v := c9) rfl rfl (wa_ (v := (vi x1.2)) rfl rfl (ad_ (ab_ (aa_ (wm_ (v := (vi x1.2)) rfl rfl (wo_ (cd_ rfl rfl rfl (ad_ ?_)))))))))))))
 rcases ifs h with ⟨hc1, h⟩ | ⟨hc1, h⟩
 ·
  refine ah_ rfl hc1 (ab_ (aa_ (wm_ (v := (vi x1.2)) rfl rfl (wa_ (v := (vi x1.2)) rfl rfl (ad_ (ak_ ?_))))))
  obtain rfl := sj h
  exact ⟨rfl, (vi x1.2), (bo_ rfl rfl), _, [], (le1.trans le2), I3, rfl, rfl⟩
 refine ai_ rfl hc1 (ar_ (ab_ (ab_ (aa_ (wm_ (v := (.slice z5 m5 k5)) rfl rfl (wo_ (az_ rfl Tryz.underlying45 rfl (h1_.mono (le1.trans le2)) (wo_ (lv_ rfl rfl rfl (ad_ ?_))))))))))
 rcases ifs h with ⟨hc2, h⟩ | ⟨hc2, h⟩
 ·
  refine ah_ rfl hc2 (ab_ (aa_ (wa_ (v := (vi 2)) rfl rfl (ad_ (ak_ ?_)))))
  obtain rfl := sj h
  exact ⟨rfl, (vi 2), (bo_ rfl rfl), _, [], (le1.trans le2), I3, rfl, rfl⟩
 refine ai_ rfl hc2 (ar_ (ab_ (ab_ (aa_ (wm_ (v := (.slice z5 m5 k5)) rfl rfl (wo_ (cm_ (fv := #[]) (cv := #[(pt_ g1)]) rfl zo_ (arr1 rfl) ?_)))))))
 obtain ⟨x2, hx2, h⟩ := bnd h
 refine wo_ (cv_ ca83 rfl I3 (fun Fr_ hF_ => ln_ hF_ (h1_.mono (le1.trans le2)) ⟨84, [(pt_ g1)], rfl, ca84, fun T_ w_ Fr_ u_ x_ r_ hle_ hI_ hu_ hr_ => pk_ hI_ hu_ ((p1.mono le2).mono hle_) hr_⟩ hx2) (br_ rfl rfl) (fun w3 I4 => (ad_ ?_)))
 rcases ifs h with ⟨hc3, h⟩ | ⟨hc3, h⟩
 ·
  refine ah_ rfl hc3 (ab_ (aa_ (wa_ (v := (vi 70)) rfl rfl (ad_ (ak_ ?_)))))
  obtain rfl := sj h
  exact ⟨rfl, (vi 70), (bo_ rfl rfl), _, [], (le1.trans le2), I4, rfl, rfl⟩
 refine ai_ rfl hc3 (ar_ (ab_ (aa_ (wa_ (v := (vi 0)) rfl rfl (ad_ (ak_ ?_))))))
 obtain rfl := sj h
 exact ⟨rfl, (vi 0), (bo_ rfl rfl), _, [], (le1.trans le2), I4, rfl, rfl⟩
theorem qa_ {w : World} {S : PH} {Fr : List HP} {a0 : (List Int)} {v0 : Value} {a1 : (List Int)} {v1 : Value} {r : Bool} (hI : Inv w S (Fr)) (h0_ : RV S v0 a0) (h1_ : RV S v1 a1) (h : hj_ a0 a1 = some r) :
    Calls Tryz.prog 85 [v0, v1].toArray w (bw_ S Fr (Value.bool (r))) := by
 unfold hj_ at h
 obtain ⟨z1, m1, k1, rfl⟩ := ac_ h0_
 obtain ⟨z2, m2, k2, rfl⟩ := ac_ h1_
 refine ao_ (n := 26) Tryz.func85 rfl rfl rfl (ab_ (aa_ (wa_ (v := (vb false)) rfl rfl (ad_ (ab_ (ab_ (aa_ (wm_ (v := (.slice z1 m1 k1)) rfl rfl (wo_ (az_ rfl Tryz.underlying28 rfl h0_ (wm_ (v := (.slice z2 m2 k2)) rfl rfl (wo_ (az_ rfl Tryz.underlying28 rfl h1_ (wo_ (cd_ rfl rfl rfl (ad_ ?_))))))))))))))))
 rcases ifs h with ⟨hc1, h⟩ | ⟨hc1, h⟩
 ·
  refine ah_ rfl hc1 (ab_ (aa_ (wa_ (v := (vb false)) rfl rfl (ad_ (ak_ ?_)))))
  obtain rfl := sj h
  exact ⟨rfl, (vb false), (bo_ rfl rfl), _, [], lr, hI, rfl, rfl⟩
 refine ai_ rfl hc1 (ar_ (ab_ (ab_ (aa_ (wm_ (v := (.slice z1 m1 k1)) rfl rfl (wo_ (az_ rfl Tryz.underlying28 rfl h0_ (wm_ (v := (vi 0)) rfl rfl (ad_ ?_)))))))))
 have hk1 : a0.length ≤ 9223372036854775807 := (cx_ h0_)
 obtain ⟨o2, hrun1, h⟩ := bnd h
 refine bp_ (fun f w => ∃ out1, o2 = Sum.inl out1 ∧ ∃ (S_ : PH), S.Le S_ ∧ Inv w S_ (Fr) ∧ f 0 = (.slice z1 m1 k1) ∧ f 1 = (.slice z2 m2 k2) ∧ f 12 = (vi ((a0.length : Int))) ∧ f.ds = []) ?_ ?_
 ·
  refine au_ ?_
  refine ex_ (I := fun (i1 : Nat) (s1 : Unit) (f : Frm) (w : World) => ∃ (S_ : PH), S.Le S_ ∧ Inv w S_ (Fr) ∧ f 0 = (.slice z1 m1 k1) ∧ f 1 = (.slice z2 m2 k2) ∧ f 12 = (vi ((a0.length : Int))) ∧ f 13 = (vi (i1 : Int)) ∧ f.ds = []) hrun1 ⟨_, lr, hI, rfl, rfl, rfl, rfl, rfl⟩ ?_ ?_
  ·
   rintro i1 s1 f w o1 hlt1 hI31 h1 hout1
   obtain ⟨S33, le33, I34, e27, e28, e29, e30, ed7⟩ := hI31
   refine ab_ (aa_ (wo_ (be_ rfl e30 e29 (ad_ (ab_ (ah_ rfl (eo_ hlt1) (ar_ (ab_ (au_ (ab_ (aa_ (wm_ rfl e30 (wa_ (v := (vi (i1 : Int))) rfl rfl (ad_ (ab_ ?_)))))))))))))))
   obtain ⟨x7, hx7, h1⟩ := bnd h1
   obtain ⟨x8, hx8, h1⟩ := bnd h1
   refine bj_ (sps := [spV 16 [] 0 (.slice z1 m1 k1), spV 17 [] 1 (vi (i1 : Int)), spV 18 [0, 1] 2 (af_ (.slice z1 m1 k1) ((i1 : Int)) (Enc.sz Int)), spV 19 [0, 1, 2] 3 (vi x7), spV 20 [] 4 (.slice z2 m2 k2), spV 21 [] 5 (vi (i1 : Int)), spV 22 [4, 5] 6 (af_ (.slice z2 m2 k2) ((i1 : Int)) (Enc.sz Int)), spV 23 [4, 5, 6] 7 (vi x8), spV 24 (lrg 8) 8 (vb (x7 != x8))]) (tks := []) (O := Fr) rfl (by kernel_rfl) I34 ⟨ob_ rfl fun l A K I => (aq_ rfl ((K 0 (ag_ rfl)).trans e27) (fo I)), ob_ rfl fun l A K I => (aq_ rfl (K 5 (ag_ rfl)) (fo I)), ob_ rfl fun l A K I => (ix_ Tryz.underlying28 sh3 (h0_.mono (le33.trans l)) hx7 (A.v 0 rfl) (A.v 1 rfl) (fo I)), ob_ rfl fun l A K I => (aj_ rfl sh3 (A.v 2 rfl) ((h0_.mono (le33.trans l)).elem I.in_ hx7) (fo I)), ob_ rfl fun l A K I => (aq_ rfl ((K 1 (ag_ rfl)).trans e28) (fo I)), ob_ rfl fun l A K I => (aq_ rfl (K 5 (ag_ rfl)) (fo I)), ob_ rfl fun l A K I => (ix_ Tryz.underlying28 sh3 (h1_.mono (le33.trans l)) hx8 (A.v 0 rfl) (A.v 1 rfl) (fo I)), ob_ rfl fun l A K I => (aj_ rfl sh3 (A.v 2 rfl) ((h1_.mono (le33.trans l)).elem I.in_ hx8) (fo I)), ?_, trivial⟩ ?_
   ·
    intro vs f w_ U X le A K I
    refine pl_ rfl (cd_ rfl (A.v 3 rfl) (A.v 7 rfl) (fo I))
   intro vs40 f w40 S43 ed8 le43 hF4 hK40 hI41
   have e31 : f 0 = (Value.slice z1 m1 k1) := (hK40 0 (al_ rfl)).trans e27
   have e32 : f 1 = (Value.slice z2 m2 k2) := (hK40 1 (al_ rfl)).trans e28
   have e33 : f 12 = (vi ((a0.length : Int))) := (hK40 12 (al_ rfl)).trans e29
   have e34 : f 13 = (vi ((i1 : Int))) := (hK40 13 (al_ rfl)).trans e30
   have I44 : Inv w40 S43 (Fr) := hI41
   have q36 := hF4.v 8 rfl
   rcases ifs h1 with ⟨hc5, h1⟩ | ⟨hc5, h1⟩
   ·
    refine ah_ q36 hc5 (ab_ (aa_ (wa_ (v := (vb false)) rfl rfl (ad_ (ak_ ?_)))))
    obtain rfl := sj h1
    obtain rfl := (hout1 _ rfl)
    have h2 := h
    obtain rfl := sj h2
    exact ⟨(ed8.trans ed7), (vb false), (bo_ rfl rfl), _, [], (le33.trans le43), I44, rfl, rfl⟩
   refine ai_ q36 hc5 (ar_ (aa_ (wo_ (bl_ rfl e34 rfl (wm_ (v := (vi (w64 ((i1 : Int) + 1)))) rfl rfl (ad_ ?_))))))
   obtain rfl := sj h1
   exact ⟨_, rfl, _, (le33.trans le43), I44, e31, e32, e33, (bh_ hlt1 hk1), (ed8.trans ed7)⟩
  rintro s2 f w hs1 hI42
  obtain ⟨S44, le44, I45, e35, e36, e37, e38, ed9⟩ := hI42
  refine ab_ (aa_ (wo_ (be_ rfl e38 e37 (ad_ (ab_ (ai_ rfl (ep_ _) (bk_ ?_)))))))
  exact ⟨s2, hs1, _, le44, I45, e35, e36, e37, ed9⟩
 rintro f w ⟨out1, rfl, S45, le45, I46, e39, e40, e41, ed10⟩
 have h := eh_ h
 refine ab_ (aa_ (wa_ (v := (vb true)) rfl rfl (ad_ (ak_ ?_))))
 obtain rfl := sj h
 exact ⟨ed10, (vb true), (bo_ rfl rfl), _, [], le45, I46, rfl, rfl⟩
theorem uz_ {w : World} {S : PH} {Fr : List HP} {a0 : Riddle} {v0 : Value} {a1 : Aid} {v1 : Value} {r : Int × Bool} (hI : Inv w S (Fr)) (h0_ : RV S v0 a0) (h1_ : RV S v1 a1) (h : ih_ a0 a1 = some r) :
    Calls Tryz.prog 52 [v0, v1].toArray w (bw_ S Fr (Value.tuple #[(Value.int .i64 (r.1)), (Value.bool (r.2))])) := by
 unfold ih_ at h
 obtain ⟨c1, c2, c3, c4, e1, r1, r2, r3, r4⟩ := Riddle.inv h0_
 subst e1
 obtain ⟨z1, m1, k1, rfl⟩ := ac_ r1
 obtain ⟨z2, m2, k2, rfl⟩ := ac_ r2
 obtain ⟨z3, m3, k3, rfl⟩ := ac_ r3
 obtain ⟨z4, m4, k4, rfl⟩ := ac_ r4
 obtain ⟨c5, e6, r5⟩ := Aid.inv h1_
 subst e6
 obtain ⟨z5, m5, k5, rfl⟩ := ac_ r5
 refine ao_ (n := 34) Tryz.func52 rfl rfl rfl (ab_ (aa_ (wo_ (bi_ (v := (.agg #[(.slice z1 m1 k1), (.slice z2 m2 k2), (.slice z3 m3 k3), (.slice z4 m4 k4)])) rfl hI rfl (fun g1 w1 I1 => ?_)))))
 obtain ⟨S1, le1, I2, p1⟩ := Inv.boxFreeze (x := a0) I1 (Riddle.rv (s := a0) r1 r2 r3 r4)
 refine wo_ (bi_ (v := (.agg #[(vi a1.Lock), (vi a1.Clue.Kind), (vi a1.Clue.A), (vi a1.Clue.B), (vi a1.Clue.N), (vi a1.Clue.M), (.slice z5 m5 k5), (vb a1.Clue.Not)])) rfl I2 rfl (fun g2 w2 I3 => ?_))
 obtain ⟨S2, le2, I4, p2⟩ := Inv.boxFreeze (x := a1) I3 (Aid.rv (s := a1) (r5.mono le1))
 refine wa_ (v := (vi 0)) rfl rfl (wa_ (v := (vb false)) rfl rfl (ad_ (ab_ (aa_ (wo_ (ld_ fr_ ((p1.mono le2).at_ I4) rfl (fun u1 hu1 => ?_)))))))
 obtain ⟨c6, c7, c8, c9, e8, r6, r7, r8, r9⟩ := Riddle.inv hu1
 subst e8
 obtain ⟨z6, m6, k6, rfl⟩ := ac_ r6
 obtain ⟨z7, m7, k7, rfl⟩ := ac_ r7
 obtain ⟨z8, m8, k8, rfl⟩ := ac_ r8
 obtain ⟨z9, m9, k9, rfl⟩ := ac_ r9
 refine wo_ (ld_ ua_ (p2.at_ I4) rfl (fun u2 hu2 => ?_))
 obtain ⟨c10, e13, r10⟩ := Aid.inv hu2
 subst e13
 obtain ⟨z10, m10, k10, rfl⟩ := ac_ r10
 obtain ⟨x1, hx1, h⟩ := bnd h
 refine wo_ (cl_ ca37 rfl (om_ I4 (Riddle.rv (s := a0) r6 r7 r8 r9) (Aid.rv (s := a1) r10) hx1) (br_ rfl rfl) (fun cv1 w3 S3 O1 le3 I5 hv1 => ?_))
 obtain ⟨c11, c12, rfl, rfl, r11, r12⟩ := hv1
 refine wm_ (v := (Value.tuple #[c11, c12, (vi x1.2.2)])) rfl rfl (wo_ (bg_ (v := c11) rfl rfl rfl (wo_ (bg_ (v := c12) rfl rfl rfl (wo_ (bg_ (v := (vi x1.2.2)) rfl rfl rfl (wa_ (v := c11) rfl rfl (wa_ (v := c12) rfl rfl (wa_ (v := (vi x1.2.2)) rfl rfl (ad_ (ab_ (ab_ ?_))))))))))))
 rcases ifs h with ⟨hc3, h⟩ | ⟨hc3, h⟩
 ·
  refine bj_ (sps := [spV 16 [] 0 (vi x1.2.2), spV 17 [0] 1 (vb (x1.2.2 != 0)), spV 18 [0, 1] 2 (vb (x1.2.2 != 0)), spV 19 [0, 1, 2] 3 undef, spV 20 [0, 1, 2] 4 undef, spV 21 [0, 1, 2, 3, 4] 5 undef, spV 22 [0, 1, 2] 6 undef, spV 23 [0, 1, 2, 6] 7 undef, spV 24 [0, 1, 2, 6, 7] 8 undef, spV 25 (lrg 9) 9 undef, spV 26 (lrg 10) 10 undef, spV 27 (lrg 11) 11 (vb true)]) (tks := []) (O := Fr) rfl (by kernel_rfl) I5 ⟨ob_ rfl fun l A K I => (aq_ rfl (K 8 (ag_ rfl)) (fo I)), ob_ rfl fun l A K I => (cd_ rfl (A.v 0 rfl) rfl (fo I)), ob_ rfl fun l A K I => (aq_ rfl (A.v 1 rfl) (fo I)), oc_ fun l A K I => sk_ rfl (A.v 2 rfl) hc3 (fo I), oc_ fun l A K I => sk_ rfl (A.v 2 rfl) hc3 (fo I), oc_ fun l A K I => sk_ rfl (A.v 2 rfl) hc3 (fo I), oc_ fun l A K I => sk_ rfl (A.v 2 rfl) hc3 (fo I), oc_ fun l A K I => sk_ rfl (A.v 2 rfl) hc3 (fo I), oc_ fun l A K I => sk_ rfl (A.v 2 rfl) hc3 (fo I), oc_ fun l A K I => sk_ rfl (A.v 2 rfl) hc3 (fo I), oc_ fun l A K I => sk_ rfl (A.v 2 rfl) hc3 (fo I), ?_, trivial⟩ ?_
  ·
   intro vs f w_ U X le A K I
   refine pl_ rfl (aw_ (a := (vb true)) rfl (A.v 2 rfl) hc3 rfl (fo I))
  intro vs39 f w47 S47 ed3 le47 hF3 hK39 hI39
  have e24 : f 3 = (pt_ g2) := (hK39 3 (al_ rfl)).trans rfl
  have e25 : f 7 = c12 := (hK39 7 (al_ rfl)).trans rfl
  have I57 : Inv w47 S47 (Fr) := hI39
  have q62 := hF3.v 11 rfl
  refine ah_ q62 rfl (ab_ (aa_ (wa_ (v := (vi 0)) rfl rfl (wa_ (v := (vb false)) rfl rfl (ad_ (ak_ ?_))))))
  obtain rfl := sj h
  exact ⟨(ed3.trans rfl), (Value.tuple #[(vi 0), (vb false)]), (qy_ rfl rfl rfl), _, [], (((le1.trans le2).trans le3).trans le47), I57, rfl, rfl⟩
 obtain ⟨x6, hx6, h⟩ := bnd h
 obtain ⟨x7, hx7, h⟩ := bnd h
 obtain ⟨x8, hx8, h⟩ := bnd h
 obtain ⟨x9, hx9, h⟩ := bnd h
 refine bj_ (sps := [spV 16 [] 0 (vi x1.2.2), spV 17 [0] 1 (vb (x1.2.2 != 0)), spV 18 [0, 1] 2 (vb (x1.2.2 != 0)), spV 19 [0, 1, 2] 3 c11, spV 20 [0, 1, 2] 4 c12, ⟨some 21, [0, 1, 2, 3, 4], [5], fun vs_ T_ => ∃ (a0_ : Option Addr) (n0_ k0_ : Nat), fr0 vs_ 0 = (.slice a0_ n0_ k0_), [], [], [0], fun _ h_ => h_⟩, spV 22 [0, 1, 2] 6 (an_ (pt_ g2) 0), spV 23 [0, 1, 2, 6] 7 (vi a1.Lock), ⟨some 24, [0, 1, 2, 6, 7], [8], fun vs_ T_ => ∃ a_ n_ k_, fr0 vs_ 0 = Value.slice a_ n_ k_, [], [], [1], fun _ h_ => h_⟩, ⟨some 25, (lrg 9), [9], fun vs_ T_ => fr0 vs_ 0 = (vb x9), [0, 1], [], [], fun _ h_ => h_⟩, spV 26 (lrg 10) 10 (vb (!x9)), spV 27 (lrg 11) 11 (vb (!x9))]) (tks := [⟨some 5, none, [5], fun vs_ => Row (α := Int) 3 (fr0 vs_ 0) (x8)⟩, ⟨some 8, none, [8], fun vs_ => Row (α := Int) 3 (fr0 vs_ 0) (([a1.Lock] : List Int))⟩]) (O := Fr) rfl (by kernel_rfl) I5 ⟨ob_ rfl fun l A K I => (aq_ rfl (K 8 (ag_ rfl)) (fo I)), ob_ rfl fun l A K I => (cd_ rfl (A.v 0 rfl) rfl (fo I)), ob_ rfl fun l A K I => (aq_ rfl (A.v 1 rfl) (fo I)), oc_ fun l A K I => tk_ rfl (A.v 2 rfl) hc3 (aq_ rfl (K 6 (ag_ rfl)) (fo I)), oc_ fun l A K I => tk_ rfl (A.v 2 rfl) hc3 (aq_ rfl (K 7 (ag_ rfl)) (fo I)), ?_, oc_ fun l A K I => tk_ rfl (A.v 2 rfl) hc3 (ae_ rfl fq_ (K 3 (ag_ rfl)) ((p2.mono (le3.trans l)).at_ I) (fo I)), oc_ fun l A K I => tk_ rfl (A.v 2 rfl) hc3 (aj_ rfl sh3 (A.v 3 rfl) (((p2.mono (le3.trans l)).at_ I).fld Aid.fld0) (fo I)), ?_, ?_, oc_ fun l A K I => tk_ rfl (A.v 2 rfl) hc3 (bx_ rfl (A.v 9 rfl) (fo I)), ?_, trivial⟩ ?_
 ·
  intro vs f w_ U X le A K I
  have q67 := A.v 2 rfl
  have q68 := A.v 3 rfl
  have q69 := A.v 4 rfl
  refine tk_ rfl q67 hc3 (cl_ ca45 rfl (la_ I ((sc_ r11 hx6).mono le) ((sc_ r12 hx7).mono le) hx8) (br_ q68 q69) (fun cv6 w56 S56 O6 le56 I68 hv6 => ?_))
  obtain ⟨z17, m17, k17, rfl, rfl⟩ := hv6
  refine ⟨_, _, rfl, le56, ?_, ?_⟩
  · exact ⟨_, _, _, rfl⟩
  exact I68
 ·
  intro vs f w_ U X le A K I
  have q73 := A.v 2 rfl
  have q74 := A.v 4 rfl
  refine tk_ rfl q73 hc3 (bf_ (vs := [(vi a1.Lock)]) (r := ([a1.Lock] : List Int)) rfl Tryz.underlying28 el3 (fc_ q74) rfl (by decide) (by decide) ⟨(dv_ _), trivial⟩ I (fun u6 w60 I72 => ?_))
  obtain ⟨z18, m18, k18, e26⟩ := bc_ I72
  subst e26
  refine ⟨_, _, rfl, lr, ?_, ?_⟩
  · exact ⟨_, _, _, rfl⟩
  exact I72
 ·
  intro vs f w_ U X le A K I
  have I73 : Inv w_ U (Row (α := Int) 3 (vs 5) (x8) :: Row (α := Int) 3 (vs 8) (([a1.Lock] : List Int)) :: X) := I
  have q75 := A.v 2 rfl
  obtain ⟨z19, m19, k19, e27, q76⟩ := A.rf (a := 5) 5 rfl rfl rfl
  have I74 := I73
  rw [e27] at I74
  obtain ⟨z20, m20, k20, e28⟩ := (A.at_ 8 rfl _ rfl).2
  have q77 : f 24 = Value.slice z20 m20 k20 := ((A.at_ 8 rfl _ rfl).1 _ rfl).trans e28
  have e28 : vs 8 = (Value.slice z20 m20 k20) := e28
  have I75 := I74
  rw [e28] at I75
  obtain ⟨S61, Fr4, le61, I76, r19, r20, bk4⟩ := Inv.lend2 ((I75.pull 1).pull 1)
  refine tk_ rfl q75 hc3 (cl_ ca85 rfl (qa_ I76 r19 r20 hx9) (br_ q76 q77) (fun cv7 w62 S62 O7 le62 I78 hv7 => ?_))
  obtain ⟨rfl, rfl⟩ := hv7
  have I77 := bk4 [] trivial I78 le62
  refine ⟨_, _, rfl, lr, ?_, ?_⟩
  · exact rfl
  show Inv _ _ (Row (α := Int) 3 (vs 5) (x8) :: Row (α := Int) 3 (vs 8) (([a1.Lock] : List Int)) :: X)
  simp only [e27, e28]
  exact ((I77.pull 1).pull 1)
 ·
  intro vs f w_ U X le A K I
  refine pl_ rfl (ap_ (b := (vb (!x9))) rfl (A.v 2 rfl) hc3 (A.v 10 rfl) (fo I))
 intro vs52 f w66 S65 ed4 le65 hF4 hK52 hI52
 have e29 : f 3 = (pt_ g2) := (hK52 3 (al_ rfl)).trans rfl
 have e30 : f 7 = c12 := (hK52 7 (al_ rfl)).trans rfl
 have I81 : Inv w66 S65 (Row (α := Int) 3 (vs52 5) (x8) :: Row (α := Int) 3 (vs52 8) (([a1.Lock] : List Int)) :: Fr) := hI52
 obtain ⟨z21, m21, k21, e31, q82⟩ := hF4.rf (a := 5) 5 rfl rfl rfl
 have I82 := I81
 rw [e31] at I82
 obtain ⟨z22, m22, k22, e32⟩ := (hF4.at_ 8 rfl _ rfl).2
 have q83 : f 24 = Value.slice z22 m22 k22 := ((hF4.at_ 8 rfl _ rfl).1 _ rfl).trans e32
 have e32 : vs52 8 = (Value.slice z22 m22 k22) := e32
 have I83 := I82
 rw [e32] at I83
 have q84 := hF4.v 11 rfl
 rcases ifs h with ⟨hc4, h⟩ | ⟨hc4, h⟩
 ·
  refine ah_ q84 hc4 (ab_ (aa_ (wa_ (v := (vi 0)) rfl rfl (wa_ (v := (vb false)) rfl rfl (ad_ (ak_ ?_))))))
  obtain rfl := sj h
  exact ⟨(ed4.trans rfl), (Value.tuple #[(vi 0), (vb false)]), (qy_ rfl rfl rfl), _, [], (((le1.trans le2).trans le3).trans le65), ((I83).drop).drop, rfl, rfl⟩
 refine ai_ q84 hc4 (ar_ (ab_ ?_))
 obtain ⟨x10, hx10, h⟩ := bnd h
 obtain ⟨x11, hx11, h⟩ := bnd h
 obtain ⟨x12, hx12, h⟩ := bnd h
 refine bj_ (sps := [spV 28 [] 0 c12, ⟨some 29, [0], [1], fun vs_ T_ => ∃ (a0_ : Option Addr) (n0_ k0_ : Nat), fr0 vs_ 0 = (.slice a0_ n0_ k0_), [], [], [0], fun _ h_ => h_⟩, spV 30 [] 2 (an_ (pt_ g2) 0), spV 31 [2] 3 (vi a1.Lock), ⟨some 32, [0, 1, 2, 3], [4, 1], fun vs_ T_ => fr0 vs_ 0 = (af_ (fr0 vs_ 1) (a1.Lock) (Enc.sz Int)), [0], [], [], fun _ h_ => h_⟩, ⟨some 33, [0, 1, 2, 3, 4], [5], fun vs_ T_ => fr0 vs_ 0 = (vi x12), [0], [], [], fun _ h_ => h_⟩, spV 4 (lrg 6) 6 (vi x12), spV 5 (lrg 7) 7 (vb true)]) (tks := [⟨some 1, none, [1], fun vs_ => Row (α := Int) 3 (fr0 vs_ 0) (x11)⟩]) (O := Row (α := Int) 3 (.slice z21 m21 k21) (x8) :: Row (α := Int) 3 (.slice z22 m22 k22) (([a1.Lock] : List Int)) :: Fr) rfl (by kernel_rfl) I83 ⟨ob_ rfl fun l A K I => (aq_ rfl ((K 7 (ag_ rfl)).trans e30) (fo I)), ?_, ob_ rfl fun l A K I => (ae_ rfl fq_ ((K 3 (ag_ rfl)).trans e29) ((p2.mono ((le3.trans le65).trans l)).at_ I) (fo I)), ob_ rfl fun l A K I => (aj_ rfl sh3 (A.v 0 rfl) (((p2.mono ((le3.trans le65).trans l)).at_ I).fld Aid.fld0) (fo I)), ?_, ?_, ob_ rfl fun l A K I => (bn_ (v := (vi x12)) rfl (A.v 5 rfl) (fo I)), ?_, trivial⟩ ?_
 ·
  intro vs f w_ U X le A K I
  have q85 := A.v 0 rfl
  refine pl_ rfl (cl_ ca42 rfl (he_ I ((sc_ r12 hx10).mono (le65.trans le)) hx11) (em_ q85) (fun cv8 w69 S68 O8 le68 I86 hv8 => ?_))
  obtain ⟨z23, m23, k23, rfl, rfl⟩ := hv8
  refine ⟨_, _, rfl, le68, ?_, ?_⟩
  · exact ⟨_, _, _, rfl⟩
  exact I86
 ·
  intro vs f w_ U X le A K I
  have I89 : Inv w_ U (Row (α := Int) 3 (vs 1) (x11) :: X) := I
  obtain ⟨z24, m24, k24, e33, q87⟩ := A.rf (a := 1) 1 rfl rfl rfl
  have I90 := I89
  rw [e33] at I90
  have q88 := A.v 3 rfl
  refine pl_ rfl (ba_ (v := (.slice z24 m24 k24)) (i := a1.Lock) (e := x12) rfl Tryz.underlying28 sh3 q87 (Inv.rowSrc (I90.nth 0 rfl)) q88 hx12 (⟨_, _, rfl, lr, ?_, ?_⟩))
  ·
   show (af_ (Value.slice z24 m24 k24) (a1.Lock) (Enc.sz Int)) = (af_ (vs 1) (a1.Lock) (Enc.sz Int))
   simp only [e33] <;> rfl
  show Inv _ _ (Row (α := Int) 3 (vs 1) (x11) :: X)
  simp only [e33]
  exact I90
 ·
  intro vs f w_ U X le A K I
  have I91 : Inv w_ U (Row (α := Int) 3 (vs 1) (x11) :: X) := I
  obtain ⟨z25, m25, k25, e34, q89⟩ := A.rf (a := 1) 1 rfl rfl rfl
  have I92 := I91
  rw [e34] at I92
  have q90 := A.v 3 rfl
  have q91 : f 32 = (af_ (vs 1) (a1.Lock) (Enc.sz Int)) := A.v 4 rfl
  simp only [e34] at q91
  have q91 : f 32 = (af_ (Value.slice z25 m25 k25) (a1.Lock) (Enc.sz Int)) := q91
  refine pl_ rfl (aj_ rfl sh3 q91 ((I92.nth 0 rfl).rowElem hx12) (⟨_, _, rfl, lr, ?_, ?_⟩))
  · exact rfl
  show Inv _ _ (Row (α := Int) 3 (vs 1) (x11) :: X)
  simp only [e34]
  exact I92
 ·
  intro vs f w_ U X le A K I
  refine pl_ rfl (bn_ (v := (vb true)) rfl rfl (fo I))
 intro vs61 f w76 S75 ed5 le75 hF5 hK61 hI61
 have I95 : Inv w76 S75 (Row (α := Int) 3 (vs61 1) (x11) :: Row (α := Int) 3 (Value.slice z21 m21 k21) (x8) :: Row (α := Int) 3 (Value.slice z22 m22 k22) (([a1.Lock] : List Int)) :: Fr) := hI61
 obtain ⟨z26, m26, k26, e35, q93⟩ := hF5.rf (a := 1) 1 rfl rfl rfl
 have I96 := I95
 rw [e35] at I96
 have q94 := hF5.v 6 rfl
 have q95 := hF5.v 7 rfl
 refine ak_ ?_
 obtain rfl := sj h
 exact ⟨(ed5.trans (ed4.trans rfl)), (Value.tuple #[(vi x12), (vb true)]), (qy_ rfl q94 q95), _, [], ((((le1.trans le2).trans le3).trans le65).trans le75), (((I96).drop).drop).drop, rfl, rfl⟩
end Go.Proofs.YtlpdpeghgndmkaaGreat.Pad
