/- A part of the proof: what the functions of the program compute, shown over the model. -/
import Derived.Test.YtlpdpeghgndmkaaGreatHizP
import Derived.Test.YtlpdpeghgndmkaaGreatHizW13
import Derived.Test.YtlpdpeghgndmkaaGreatHizW14
import Derived.KernelRfl
set_option linter.unusedVariables false
set_option maxHeartbeats 4000000
set_option maxRecDepth 100000
namespace Go.Proofs.YtlpdpeghgndmkaaGreat.Pad
open Go Go.Proofs
theorem uf_ {w : World} {S : PH} {Fr : List HP} {a0 : Riddle} {v0 : Value} {a1 : Aid} {v1 : Value} {r : (List Int)} (hI : Inv w S (Fr)) (h0_ : RV S v0 a0) (h1_ : RV S v1 a1) (h : ju_ a0 a1 = some r) :
    Calls Tryz.prog 47 [v0, v1].toArray w (lp_ S Fr (fun T_ v_ O_ => ∃ (a0_ : Option Addr) (n0_ k0_ : Nat), v_ = (Value.slice a0_ n0_ k0_) ∧ O_ = [Row (α := Int) 3 (Value.slice a0_ n0_ k0_) (r)])) := by
 unfold ju_ at h
 obtain ⟨c1, c2, c3, c4, e1, r1, r2, r3, r4⟩ := Riddle.inv h0_
 subst e1
 obtain ⟨z1, m1, k1, rfl⟩ := ac_ r1
 obtain ⟨z2, m2, k2, rfl⟩ := ac_ r2
 obtain ⟨z3, m3, k3, rfl⟩ := ac_ r3
 obtain ⟨z4, m4, k4, rfl⟩ := ac_ r4
 obtain ⟨c5, e6, r5⟩ := Aid.inv h1_
 subst e6
 obtain ⟨z5, m5, k5, rfl⟩ := ac_ r5
 refine ao_ (n := 41) Tryz.func47 rfl rfl rfl (ab_ (aa_ (wo_ (bi_ (v := (.agg #[(.slice z1 m1 k1), (.slice z2 m2 k2), (.slice z3 m3 k3), (.slice z4 m4 k4)])) rfl hI rfl (fun g1 w1 I1 => ?_)))))
 obtain ⟨S1, le1, I2, p1⟩ := Inv.boxFreeze (x := a0) I1 (Riddle.rv (s := a0) r1 r2 r3 r4)
 refine wo_ (bi_ (v := (.agg #[(vi a1.Lock), (vi a1.Clue.Kind), (vi a1.Clue.A), (vi a1.Clue.B), (vi a1.Clue.N), (vi a1.Clue.M), (.slice z5 m5 k5), (vb a1.Clue.Not)])) rfl I2 rfl (fun g2 w2 I3 => ?_))
 obtain ⟨S2, le2, I4, p2⟩ := Inv.boxFreeze (x := a1) I3 (Aid.rv (s := a1) (r5.mono le1))
 refine wa_ (v := sn) rfl rfl (ad_ (ab_ ?_))
 obtain ⟨x1, hx1, h⟩ := bnd h
 obtain ⟨x2, hx2, h⟩ := bnd h
 obtain ⟨x3, hx3, h⟩ := bnd h
 refine bj_ (sps := [spR 9 [] 0 a0, ⟨some 10, [0], [1], fun vs_ T_ => ∃ (a0_ : Option Addr) (n0_ k0_ : Nat), fr0 vs_ 0 = (.slice a0_ n0_ k0_), [], [], [0], fun _ h_ => h_⟩, spR 11 [] 2 a0, spR 12 [] 3 a1, spR 13 [0, 1, 2, 3] 4 x2, ⟨some 14, [0, 1, 2, 3, 4], [5], fun vs_ T_ => ∃ (a0_ : Option Addr) (n0_ k0_ : Nat), fr0 vs_ 0 = (.slice a0_ n0_ k0_), [], [], [1], fun _ h_ => h_⟩, spW 5 (lrg 6) [6, 1] fun vs_ => (fr0 vs_ 1), spW 6 (lrg 7) [7, 5] fun vs_ => (fr0 vs_ 1)]) (tks := [⟨some 1, none, [1], fun vs_ => Row (α := Int) 3 (fr0 vs_ 0) (x1)⟩, ⟨some 5, none, [5], fun vs_ => Row (α := Int) 3 (fr0 vs_ 0) (x3)⟩]) (O := Fr) rfl (by kernel_rfl) I4 ⟨?_, ?_, ?_, ?_, ?_, ?_, ?_, ?_, trivial⟩ ?_
 ·
  intro vs f w_ U X le A K I
  refine pl_ rfl (ay_ rfl fr_ (K 2 (ag_ rfl)) ((p1.mono (le2.trans le)).at_ I) (fun u4 hu4 => ?_))
  obtain ⟨c6, c7, c8, c9, e8, r6, r7, r8, r9⟩ := Riddle.inv hu4
  subst e8
  obtain ⟨z6, m6, k6, rfl⟩ := ac_ r6
  obtain ⟨z7, m7, k7, rfl⟩ := ac_ r7
  obtain ⟨z8, m8, k8, rfl⟩ := ac_ r8
  obtain ⟨z9, m9, k9, rfl⟩ := ac_ r9
  refine ⟨_, _, rfl, lr, ?_, ?_⟩
  · exact (Riddle.rv (s := a0) r6 r7 r8 r9)
  exact I
 ·
  intro vs f w_ U X le A K I
  have q1 : f 9 = vs 0 := (A.at_ 0 rfl _ rfl).1 _ rfl
  have r10 : RV U (vs 0) a0 := (A.at_ 0 rfl _ rfl).2
  obtain ⟨u5, hu5⟩ : ∃ u, vs 0 = u := ⟨_, rfl⟩
  rw [hu5] at q1 r10
  obtain ⟨c10, c11, c12, c13, e13, r11, r12, r13, r14⟩ := Riddle.inv r10
  subst e13
  obtain ⟨z10, m10, k10, rfl⟩ := ac_ r11
  obtain ⟨z11, m11, k11, rfl⟩ := ac_ r12
  obtain ⟨z12, m12, k12, rfl⟩ := ac_ r13
  obtain ⟨z13, m13, k13, rfl⟩ := ac_ r14
  refine pl_ rfl (cl_ ca43 rfl (ef_ I (Riddle.rv (s := a0) r11 r12 r13 r14) hx1) (em_ q1) (fun cv1 w5 S5 O1 le5 I7 hv1 => ?_))
  obtain ⟨z14, m14, k14, rfl, rfl⟩ := hv1
  refine ⟨_, _, rfl, le5, ?_, ?_⟩
  · exact ⟨_, _, _, rfl⟩
  exact I7
 ·
  intro vs f w_ U X le A K I
  refine pl_ rfl (ay_ rfl fr_ (K 2 (ag_ rfl)) ((p1.mono (le2.trans le)).at_ I) (fun u6 hu6 => ?_))
  obtain ⟨c14, c15, c16, c17, e18, r15, r16, r17, r18⟩ := Riddle.inv hu6
  subst e18
  obtain ⟨z15, m15, k15, rfl⟩ := ac_ r15
  obtain ⟨z16, m16, k16, rfl⟩ := ac_ r16
  obtain ⟨z17, m17, k17, rfl⟩ := ac_ r17
  obtain ⟨z18, m18, k18, rfl⟩ := ac_ r18
  refine ⟨_, _, rfl, lr, ?_, ?_⟩
  · exact (Riddle.rv (s := a0) r15 r16 r17 r18)
  exact I
 ·
  intro vs f w_ U X le A K I
  refine pl_ rfl (ay_ rfl ua_ (K 3 (ag_ rfl)) ((p2.mono le).at_ I) (fun u7 hu7 => ?_))
  obtain ⟨c18, e23, r19⟩ := Aid.inv hu7
  subst e23
  obtain ⟨z19, m19, k19, rfl⟩ := ac_ r19
  refine ⟨_, _, rfl, lr, ?_, ?_⟩
  · exact (Aid.rv (s := a1) r19)
  exact I
 ·
  intro vs f w_ U X le A K I
  have q2 : f 11 = vs 2 := (A.at_ 2 rfl _ rfl).1 _ rfl
  have r20 : RV U (vs 2) a0 := (A.at_ 2 rfl _ rfl).2
  obtain ⟨u8, hu8⟩ : ∃ u, vs 2 = u := ⟨_, rfl⟩
  rw [hu8] at q2 r20
  obtain ⟨c19, c20, c21, c22, e25, r21, r22, r23, r24⟩ := Riddle.inv r20
  subst e25
  obtain ⟨z20, m20, k20, rfl⟩ := ac_ r21
  obtain ⟨z21, m21, k21, rfl⟩ := ac_ r22
  obtain ⟨z22, m22, k22, rfl⟩ := ac_ r23
  obtain ⟨z23, m23, k23, rfl⟩ := ac_ r24
  have q3 : f 12 = vs 3 := (A.at_ 3 rfl _ rfl).1 _ rfl
  have r25 : RV U (vs 3) a1 := (A.at_ 3 rfl _ rfl).2
  obtain ⟨u9, hu9⟩ : ∃ u, vs 3 = u := ⟨_, rfl⟩
  rw [hu9] at q3 r25
  obtain ⟨c23, e30, r26⟩ := Aid.inv r25
  subst e30
  obtain ⟨z24, m24, k24, rfl⟩ := ac_ r26
  refine pl_ rfl (cl_ ca39 rfl (kh_ I (Riddle.rv (s := a0) r21 r22 r23 r24) (Aid.rv (s := a1) r26) hx2) (br_ q2 q3) (fun cv2 w9 S9 O2 le9 I11 hv2 => ?_))
  obtain ⟨c24, rfl, rfl, r27⟩ := hv2
  obtain ⟨c25, c26, c27, c28, e32, r28, r29, r30, r31⟩ := Riddle.inv r27
  subst e32
  obtain ⟨z25, m25, k25, rfl⟩ := ac_ r28
  obtain ⟨z26, m26, k26, rfl⟩ := ac_ r29
  obtain ⟨z27, m27, k27, rfl⟩ := ac_ r30
  obtain ⟨z28, m28, k28, rfl⟩ := ac_ r31
  refine ⟨_, _, rfl, le9, ?_, ?_⟩
  · exact (Riddle.rv (s := x2) r28 r29 r30 r31)
  exact I11
 ·
  intro vs f w_ U X le A K I
  have q4 : f 13 = vs 4 := (A.at_ 4 rfl _ rfl).1 _ rfl
  have r32 : RV U (vs 4) x2 := (A.at_ 4 rfl _ rfl).2
  obtain ⟨u10, hu10⟩ : ∃ u, vs 4 = u := ⟨_, rfl⟩
  rw [hu10] at q4 r32
  obtain ⟨c29, c30, c31, c32, e37, r33, r34, r35, r36⟩ := Riddle.inv r32
  subst e37
  obtain ⟨z29, m29, k29, rfl⟩ := ac_ r33
  obtain ⟨z30, m30, k30, rfl⟩ := ac_ r34
  obtain ⟨z31, m31, k31, rfl⟩ := ac_ r35
  obtain ⟨z32, m32, k32, rfl⟩ := ac_ r36
  refine pl_ rfl (cl_ ca43 rfl (ef_ I (Riddle.rv (s := x2) r33 r34 r35 r36) hx3) (em_ q4) (fun cv3 w11 S11 O3 le11 I13 hv3 => ?_))
  obtain ⟨z33, m33, k33, rfl, rfl⟩ := hv3
  refine ⟨_, _, rfl, le11, ?_, ?_⟩
  · exact ⟨_, _, _, rfl⟩
  exact I13
 ·
  intro vs f w_ U X le A K I
  obtain ⟨z34, m34, k34, e42, q5⟩ := A.rf (a := 1) 1 rfl rfl rfl
  refine pl_ rfl (bn_ (v := (.slice z34 m34 k34)) rfl q5 (⟨_, _, rfl, lr, ?_, ?_⟩))
  ·
   show (Value.slice z34 m34 k34) = (vs 1)
   simp only [e42] <;> rfl
  exact I
 ·
  intro vs f w_ U X le A K I
  obtain ⟨z35, m35, k35, e43, q6⟩ := A.rf (a := 5) 5 rfl rfl rfl
  refine pl_ rfl (bn_ (v := (.slice z35 m35 k35)) rfl q6 (⟨_, _, rfl, lr, ?_, ?_⟩))
  ·
   show (Value.slice z35 m35 k35) = (vs 5)
   simp only [e43] <;> rfl
  exact I
 intro vs9 f w14 S14 ed1 le14 hF1 hK9 hI9
 have e44 : f 3 = (pt_ g2) := (hK9 3 (al_ rfl)).trans rfl
 have I16 : Inv w14 S14 (Row (α := Int) 3 (vs9 1) (x1) :: Row (α := Int) 3 (vs9 5) (x3) :: Fr) := hI9
 obtain ⟨z36, m36, k36, e45, q7⟩ := hF1.rf (a := 1) 1 rfl rfl rfl
 have I17 := I16
 rw [e45] at I17
 obtain ⟨z37, m37, k37, e46, q8⟩ := hF1.rf (a := 5) 5 rfl rfl rfl
 have I18 := I17
 rw [e46] at I18
 have q9 : f 5 = (vs9 1) := hF1.v 6 rfl
 simp only [e45] at q9
 have q9 : f 5 = (Value.slice z36 m36 k36) := q9
 have q10 : f 6 = (vs9 5) := hF1.v 7 rfl
 simp only [e46] at q10
 have q10 : f 6 = (Value.slice z37 m37 k37) := q10
 refine ab_ (aa_ (wa_ (v := sn) rfl rfl (ad_ (ab_ (ab_ (aa_ (wa_ (v := (vi 0)) rfl rfl (ad_ ?_))))))))
 have hk1 : x1.length ≤ 9223372036854775807 := (uc_ (I18.nth 0 rfl))
 have I224 := Inv.rowNil (α := Int) (T := 3) I18
 obtain ⟨out1, hrun1, h⟩ := bnd h
 refine bp_ (fun f w => ∃ (S_ : PH) (z47 : Option Addr) (m47 k47 : Nat), S14.Le S_ ∧ Inv w S_ (Row (α := Int) 3 (.slice z36 m36 k36) (x1) :: Row (α := Int) 3 (.slice z37 m37 k37) (x3) :: Row (α := Int) 3 (.slice z47 m47 k47) (out1) :: Fr) ∧ f 3 = (pt_ g2) ∧ f 5 = (.slice z36 m36 k36) ∧ f 6 = (.slice z37 m37 k37) ∧ f 7 = (.slice z47 m47 k47) ∧ f.ds = []) ?_ ?_
 ·
  refine au_ ?_
  refine da_ (I := fun (i1 : Nat) (s1 : (List Int)) (f : Frm) (w : World) => ∃ (S_ : PH) (z46 : Option Addr) (m46 k46 : Nat), S14.Le S_ ∧ Inv w S_ (Row (α := Int) 3 (.slice z36 m36 k36) (x1) :: Row (α := Int) 3 (.slice z37 m37 k37) (x3) :: Row (α := Int) 3 (.slice z46 m46 k46) (s1) :: Fr) ∧ f 3 = (pt_ g2) ∧ f 5 = (.slice z36 m36 k36) ∧ f 6 = (.slice z37 m37 k37) ∧ f 7 = (.slice z46 m46 k46) ∧ f 8 = (vi (i1 : Int)) ∧ f.ds = []) hrun1 ⟨_, _, _, _, lr, ((I224.pull 2).pull 2), e44, q9, q10, rfl, rfl, (ed1.trans rfl)⟩ ?_ ?_
  ·
   rintro i1 s1 f w o1 hlt1 hI202 h10
   obtain ⟨S212, z46, m46, k46, le212, I225, e146, e147, e148, e149, e150, ed20⟩ := hI202
   refine ab_ (ab_ (aa_ (wm_ rfl e150 (wm_ rfl e147 (wo_ (di_ (α := Int) rfl Tryz.underlying28 rfl (I225.nth 0 rfl) (wo_ (be_ rfl rfl rfl (ad_ (ah_ rfl (eo_ hlt1) (ar_ (ab_ (au_ ?_)))))))))))))
   obtain ⟨v4, h13, h10⟩ := bnd h10
   refine ks_ (fun f w => ∃ (S_ : PH), S212.Le S_ ∧ Inv w S_ (Row (α := Int) 3 (.slice z36 m36 k36) (x1) :: Row (α := Int) 3 (.slice z37 m37 k37) (x3) :: Row (α := Int) 3 (.slice z46 m46 k46) (s1) :: Fr) ∧ f 3 = (pt_ g2) ∧ f 5 = (.slice z36 m36 k36) ∧ f 6 = (.slice z37 m37 k37) ∧ f 7 = (.slice z46 m46 k46) ∧ f 8 = (vi (i1 : Int)) ∧ f 35 = (vb v4) ∧ f.ds = []) ?_ ?_
   ·
    rcases ifs h13 with ⟨hc11, h13⟩ | ⟨hc11, h13⟩
    ·
     obtain ⟨x21, hx21, h13⟩ := bnd h13
     obtain ⟨x22, hx22, h13⟩ := bnd h13
     refine bj_ (sps := [spV 21 [] 0 (vi (i1 : Int)), spV 22 [] 1 (an_ (pt_ g2) 0), spV 23 [1] 2 (vi a1.Lock), spV 24 [0, 1, 2] 3 (vb ((i1 : Int) != a1.Lock)), spV 25 [0, 1, 2, 3] 4 (vb ((i1 : Int) != a1.Lock)), spV 26 [0, 1, 2, 3, 4] 5 (.slice z37 m37 k37), spV 27 [0, 1, 2, 3, 4] 6 (vi (i1 : Int)), ⟨some 28, (lrg 7), [7], fun vs_ T_ => fr0 vs_ 0 = (af_ (.slice z37 m37 k37) ((i1 : Int)) (Enc.sz Int)), [0], [], [], fun _ h_ => h_⟩, ⟨some 29, (lrg 8), [8], fun vs_ T_ => fr0 vs_ 0 = (vi x21), [0], [], [], fun _ h_ => h_⟩, spV 30 [0, 1, 2, 3, 4] 9 (.slice z36 m36 k36), spV 31 [0, 1, 2, 3, 4] 10 (vi (i1 : Int)), ⟨some 32, [0, 1, 2, 3, 4, 9, 10], [11], fun vs_ T_ => fr0 vs_ 0 = (af_ (.slice z36 m36 k36) ((i1 : Int)) (Enc.sz Int)), [1], [], [], fun _ h_ => h_⟩, ⟨some 33, [0, 1, 2, 3, 4, 9, 10, 11], [12], fun vs_ T_ => fr0 vs_ 0 = (vi x22), [1], [], [], fun _ h_ => h_⟩, spV 34 (lrg 13) 13 (vb (decide (x21 < x22))), spV 35 (lrg 14) 14 (vb (decide (x21 < x22)))]) (tks := [⟨none, none, [], fun vs_ => Row (α := Int) 3 (.slice z37 m37 k37) (x3)⟩, ⟨none, none, [], fun vs_ => Row (α := Int) 3 (.slice z36 m36 k36) (x1)⟩]) (O := Row (α := Int) 3 (.slice z46 m46 k46) (s1) :: Fr) rfl (by kernel_rfl) (I225.pull 1) ⟨ob_ rfl fun l A K I => (aq_ rfl ((K 8 (ag_ rfl)).trans e150) (fo I)), ob_ rfl fun l A K I => (ae_ rfl fq_ ((K 3 (ag_ rfl)).trans e146) ((p2.mono ((le14.trans le212).trans l)).at_ I) (fo I)), ob_ rfl fun l A K I => (aj_ rfl sh3 (A.v 0 rfl) (((p2.mono ((le14.trans le212).trans l)).at_ I).fld Aid.fld0) (fo I)), ob_ rfl fun l A K I => (cd_ rfl (A.v 0 rfl) (A.v 2 rfl) (fo I)), ob_ rfl fun l A K I => (aq_ rfl (A.v 3 rfl) (fo I)), oc_ fun l A K I => tk_ rfl (A.v 4 rfl) hc11 (aq_ rfl ((K 6 (ag_ rfl)).trans e148) (fo I)), oc_ fun l A K I => tk_ rfl (A.v 4 rfl) hc11 (aq_ rfl ((K 8 (ag_ rfl)).trans e150) (fo I)), ?_, ?_, oc_ fun l A K I => tk_ rfl (A.v 4 rfl) hc11 (aq_ rfl ((K 5 (ag_ rfl)).trans e147) (fo I)), oc_ fun l A K I => tk_ rfl (A.v 4 rfl) hc11 (aq_ rfl ((K 8 (ag_ rfl)).trans e150) (fo I)), ?_, ?_, oc_ fun l A K I => tk_ rfl (A.v 4 rfl) hc11 (be_ rfl (A.v 8 rfl) (A.v 12 rfl) (fo I)), ?_, trivial⟩ ?_
     ·
      intro vs f w_ U X le A K I
      have I265 : Inv w_ U (Row (α := Int) 3 (Value.slice z37 m37 k37) (x3) :: X) := I
      refine tk_ rfl (A.v 4 rfl) hc11 (ba_ (v := (.slice z37 m37 k37)) (i := (i1 : Int)) (e := x21) rfl Tryz.underlying28 sh3 (A.v 5 rfl) (Inv.rowSrc (I265.nth 0 rfl)) (A.v 6 rfl) hx21 (fo I265))
     ·
      intro vs f w_ U X le A K I
      have I266 : Inv w_ U (Row (α := Int) 3 (Value.slice z37 m37 k37) (x3) :: X) := I
      refine tk_ rfl (A.v 4 rfl) hc11 (aj_ rfl sh3 (A.v 7 rfl) ((I266.nth 0 rfl).rowElem hx21) (fo I266))
     ·
      intro vs f w_ U X le A K I
      have I269 : Inv w_ U (Row (α := Int) 3 (Value.slice z36 m36 k36) (x1) :: X) := I
      refine tk_ rfl (A.v 4 rfl) hc11 (ba_ (v := (.slice z36 m36 k36)) (i := (i1 : Int)) (e := x22) rfl Tryz.underlying28 sh3 (A.v 5 rfl) (Inv.rowSrc (I269.nth 0 rfl)) (A.v 6 rfl) hx22 (fo I269))
     ·
      intro vs f w_ U X le A K I
      have I270 : Inv w_ U (Row (α := Int) 3 (Value.slice z36 m36 k36) (x1) :: X) := I
      refine tk_ rfl (A.v 4 rfl) hc11 (aj_ rfl sh3 (A.v 7 rfl) ((I270.nth 0 rfl).rowElem hx22) (fo I270))
     ·
      intro vs f w_ U X le A K I
      refine pl_ rfl (aw_ (a := (vb (decide (x21 < x22)))) rfl (A.v 4 rfl) hc11 (A.v 13 rfl) (fo I))
     intro vs249 f w261 S260 ed23 le260 hF16 hK249 hI250
     have e161 : f 3 = (pt_ g2) := (hK249 3 (al_ rfl)).trans e146
     have e162 : f 5 = (Value.slice z36 m36 k36) := (hK249 5 (al_ rfl)).trans e147
     have e163 : f 6 = (Value.slice z37 m37 k37) := (hK249 6 (al_ rfl)).trans e148
     have e164 : f 7 = (Value.slice z46 m46 k46) := (hK249 7 (al_ rfl)).trans e149
     have e165 : f 8 = (vi ((i1 : Int))) := (hK249 8 (al_ rfl)).trans e150
     have I273 : Inv w261 S260 (Row (α := Int) 3 (Value.slice z37 m37 k37) (x3) :: Row (α := Int) 3 (Value.slice z36 m36 k36) (x1) :: Row (α := Int) 3 (Value.slice z46 m46 k46) (s1) :: Fr) := hI250
     have q370 := hF16.v 14 rfl
     obtain rfl := sj h13
     exact ⟨_, le260, (((I273.pull 2).pull 1).pull 2), e161, e162, e163, e164, e165, q370, (ed23.trans ed20)⟩
    refine bj_ (sps := [spV 21 [] 0 (vi (i1 : Int)), spV 22 [] 1 (an_ (pt_ g2) 0), spV 23 [1] 2 (vi a1.Lock), spV 24 [0, 1, 2] 3 (vb ((i1 : Int) != a1.Lock)), spV 25 [0, 1, 2, 3] 4 (vb ((i1 : Int) != a1.Lock)), spV 26 [0, 1, 2, 3, 4] 5 undef, spV 27 [0, 1, 2, 3, 4] 6 undef, spV 28 (lrg 7) 7 undef, spV 29 (lrg 8) 8 undef, spV 30 [0, 1, 2, 3, 4] 9 undef, spV 31 [0, 1, 2, 3, 4] 10 undef, spV 32 [0, 1, 2, 3, 4, 9, 10] 11 undef, spV 33 [0, 1, 2, 3, 4, 9, 10, 11] 12 undef, spV 34 (lrg 13) 13 undef, spV 35 (lrg 14) 14 (vb false)]) (tks := []) (O := Row (α := Int) 3 (.slice z36 m36 k36) (x1) :: Row (α := Int) 3 (.slice z37 m37 k37) (x3) :: Row (α := Int) 3 (.slice z46 m46 k46) (s1) :: Fr) rfl (by kernel_rfl) I225 ⟨ob_ rfl fun l A K I => (aq_ rfl ((K 8 (ag_ rfl)).trans e150) (fo I)), ob_ rfl fun l A K I => (ae_ rfl fq_ ((K 3 (ag_ rfl)).trans e146) ((p2.mono ((le14.trans le212).trans l)).at_ I) (fo I)), ob_ rfl fun l A K I => (aj_ rfl sh3 (A.v 0 rfl) (((p2.mono ((le14.trans le212).trans l)).at_ I).fld Aid.fld0) (fo I)), ob_ rfl fun l A K I => (cd_ rfl (A.v 0 rfl) (A.v 2 rfl) (fo I)), ob_ rfl fun l A K I => (aq_ rfl (A.v 3 rfl) (fo I)), oc_ fun l A K I => sk_ rfl (A.v 4 rfl) hc11 (fo I), oc_ fun l A K I => sk_ rfl (A.v 4 rfl) hc11 (fo I), oc_ fun l A K I => sk_ rfl (A.v 4 rfl) hc11 (fo I), oc_ fun l A K I => sk_ rfl (A.v 4 rfl) hc11 (fo I), oc_ fun l A K I => sk_ rfl (A.v 4 rfl) hc11 (fo I), oc_ fun l A K I => sk_ rfl (A.v 4 rfl) hc11 (fo I), oc_ fun l A K I => sk_ rfl (A.v 4 rfl) hc11 (fo I), oc_ fun l A K I => sk_ rfl (A.v 4 rfl) hc11 (fo I), oc_ fun l A K I => sk_ rfl (A.v 4 rfl) hc11 (fo I), ?_, trivial⟩ ?_
    ·
     intro vs f w_ U X le A K I
     refine pl_ rfl (ap_ (b := (vb false)) rfl (A.v 4 rfl) hc11 rfl (fo I))
    intro vs265 f w277 S276 ed24 le276 hF17 hK265 hI266
    have e166 : f 3 = (pt_ g2) := (hK265 3 (al_ rfl)).trans e146
    have e167 : f 5 = (Value.slice z36 m36 k36) := (hK265 5 (al_ rfl)).trans e147
    have e168 : f 6 = (Value.slice z37 m37 k37) := (hK265 6 (al_ rfl)).trans e148
    have e169 : f 7 = (Value.slice z46 m46 k46) := (hK265 7 (al_ rfl)).trans e149
    have e170 : f 8 = (vi ((i1 : Int))) := (hK265 8 (al_ rfl)).trans e150
    have I289 : Inv w277 S276 (Row (α := Int) 3 (Value.slice z36 m36 k36) (x1) :: Row (α := Int) 3 (Value.slice z37 m37 k37) (x3) :: Row (α := Int) 3 (Value.slice z46 m46 k46) (s1) :: Fr) := hI266
    have q394 := hF17.v 14 rfl
    obtain rfl := sj h13
    exact ⟨_, le276, (((I289.pull 2).pull 2).pull 2), e166, e167, e168, e169, e170, q394, (ed24.trans ed20)⟩
   rintro f w ⟨S277, le277, I290, e171, e172, e173, e174, e175, e176, ed25⟩
   rcases ifs h10 with ⟨hc12, h10⟩ | ⟨hc12, h10⟩
   ·
    refine ah_ e176 hc12 (aa_ (wm_ rfl e174 (wm_ rfl e175 (wo_ (bf_ (vs := [(vi (i1 : Int))]) (r := ([(i1 : Int)] : List Int)) rfl Tryz.underlying28 el3 (fc_ rfl) rfl (by decide) (by decide) ⟨(dv_ _), trivial⟩ I290 (fun u17 w278 I291 => ?_))))))
    obtain ⟨z48, m48, k48, e177⟩ := bc_ I291
    subst e177
    obtain ⟨x23, hx23, h10⟩ := bnd h10
    refine wo_ (bt_ (α := Int) (v := (.slice z46 m46 k46)) (u := (.slice z48 m48 k48)) rfl rfl Tryz.underlying28 el3 (by decide) (by decide) rfl rfl (I291.pull 3) (Inv.rowSrc (I291.nth 0 rfl)) hx23 (fun u18 w279 I292 => ?_))
    obtain ⟨z49, m49, k49, e178⟩ := bc_ I292
    subst e178
    refine wa_ (v := (.slice z49 m49 k49)) rfl rfl (ad_ (aa_ (wm_ rfl e175 (wo_ (bl_ rfl rfl rfl (wa_ (v := (vi (w64 ((i1 : Int) + 1)))) rfl rfl (ad_ ?_)))))))
    obtain rfl := sj h10
    exact ⟨_, _, _, _, (le212.trans le277), (((I292.pull 1).drop.pull 2).pull 2), e171, e172, e173, rfl, (bh_ hlt1 hk1), ed25⟩
   refine ai_ e176 hc12 (ar_ (aa_ (wm_ rfl e175 (wo_ (bl_ rfl rfl rfl (wa_ (v := (vi (w64 ((i1 : Int) + 1)))) rfl rfl (ad_ ?_)))))))
   obtain rfl := sj h10
   exact ⟨_, _, _, _, (le212.trans le277), (((I290.pull 2).pull 2).pull 2), e171, e172, e173, e174, (bh_ hlt1 hk1), ed25⟩
  rintro f w hI267
  obtain ⟨S278, z50, m50, k50, le278, I293, e179, e180, e181, e182, e183, ed26⟩ := hI267
  refine ab_ (ab_ (aa_ (wm_ rfl e183 (wm_ rfl e180 (wo_ (di_ (α := Int) rfl Tryz.underlying28 rfl (I293.nth 0 rfl) (wo_ (be_ rfl rfl rfl (ad_ (ai_ rfl (ep_ _) (bk_ ?_)))))))))))
  exact ⟨_, _, _, _, le278, (((I293.pull 2).pull 2).pull 2), e179, e180, e181, e182, ed26⟩
 rintro f w ⟨S279, z47, m47, k47, le279, I294, e184, e185, e186, e187, ed27⟩
 refine ab_ (aa_ (wm_ rfl e187 (wa_ (v := (.slice z47 m47 k47)) rfl rfl (ad_ (ak_ ?_)))))
 obtain rfl := sj h
 exact ⟨ed27, (.slice z47 m47 k47), (bo_ rfl rfl), _, [Row (α := Int) 3 (.slice z47 m47 k47) (out1)], (((le1.trans le2).trans le14).trans le279), ((I294).drop).drop, _, _, _, rfl, rfl⟩
end Go.Proofs.YtlpdpeghgndmkaaGreat.Pad
