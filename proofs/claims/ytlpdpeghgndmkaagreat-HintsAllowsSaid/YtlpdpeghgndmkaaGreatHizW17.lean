/- A part of the proof: what the functions of the program compute, shown over the model. -/
import Derived.Test.YtlpdpeghgndmkaaGreatHizP
import Derived.Test.YtlpdpeghgndmkaaGreatHizW13
import Derived.Test.YtlpdpeghgndmkaaGreatHizW14
import Derived.Test.YtlpdpeghgndmkaaGreatHizW15
import Derived.KernelRfl
set_option linter.unusedVariables false
set_option maxHeartbeats 4000000
set_option maxRecDepth 100000
namespace Go.Proofs.YtlpdpeghgndmkaaGreat.Pad
open Go Go.Proofs
theorem qz_ {w : World} {S : PH} {Fr : List HP} {a0 : Riddle} {v0 : Value} {a1 : (List Aid)} {v1 : Value} {r : Int} (hI : Inv w S (Fr)) (h0_ : RV S v0 a0) (h1_ : RV S v1 a1) (h : gk_ a0 a1 = some r) :
    Calls Tryz.prog 54 [v0, v1].toArray w (bw_ S Fr (Value.int .i64 (r))) := by
 unfold gk_ at h
 obtain ⟨c1, c2, c3, c4, e1, r1, r2, r3, r4⟩ := Riddle.inv h0_
 subst e1
 obtain ⟨z1, m1, k1, rfl⟩ := ac_ r1
 obtain ⟨z2, m2, k2, rfl⟩ := ac_ r2
 obtain ⟨z3, m3, k3, rfl⟩ := ac_ r3
 obtain ⟨z4, m4, k4, rfl⟩ := ac_ r4
 obtain ⟨z5, m5, k5, rfl⟩ := ac_ h1_
 refine ao_ (n := 28) Tryz.func54 rfl rfl rfl (ab_ (aa_ (wo_ (bi_ (v := (.agg #[(.slice z1 m1 k1), (.slice z2 m2 k2), (.slice z3 m3 k3), (.slice z4 m4 k4)])) rfl hI rfl (fun g1 w1 I1 => ?_)))))
 obtain ⟨S1, le1, I2, p1⟩ := Inv.boxFreeze (x := a0) I1 (Riddle.rv (s := a0) r1 r2 r3 r4)
 refine wa_ (v := (vi 0)) rfl rfl (ad_ (ab_ (ab_ (aa_ (wo_ (ld_ fr_ (p1.at_ I2) rfl (fun u1 hu1 => ?_)))))))
 obtain ⟨c5, c6, c7, c8, e7, r5, r6, r7, r8⟩ := Riddle.inv hu1
 subst e7
 obtain ⟨z6, m6, k6, rfl⟩ := ac_ r5
 obtain ⟨z7, m7, k7, rfl⟩ := ac_ r6
 obtain ⟨z8, m8, k8, rfl⟩ := ac_ r7
 obtain ⟨z9, m9, k9, rfl⟩ := ac_ r8
 obtain ⟨x1, hx1, h⟩ := bnd h
 refine wo_ (cv_ ca75 rfl I2 (fun Fr_ hF_ => tg_ hF_ (Riddle.rv (s := a0) r5 r6 r7 r8) hx1) (em_ rfl) (fun w2 I3 => (wa_ (v := (vi x1)) rfl rfl (ad_ (ab_ (aa_ (wm_ (v := (vi x1)) rfl rfl (wo_ (cd_ rfl rfl rfl (ad_ ?_))))))))))
 rcases ifs h with ⟨hc1, h⟩ | ⟨hc1, h⟩
 ·
  refine ah_ rfl hc1 (ab_ (aa_ (wm_ (v := (vi x1)) rfl rfl (wa_ (v := (vi x1)) rfl rfl (ad_ (ak_ ?_))))))
  obtain rfl := sj h
  exact ⟨rfl, (vi x1), (bo_ rfl rfl), _, [], le1, I3, rfl, rfl⟩
 refine ai_ rfl hc1 (ar_ (ab_ (ab_ (aa_ (wm_ (v := (.slice z5 m5 k5)) rfl rfl (wo_ (az_ rfl Tryz.underlying45 rfl (h1_.mono le1) (wo_ (lv_ rfl rfl rfl (ad_ ?_))))))))))
 rcases ifs h with ⟨hc2, h⟩ | ⟨hc2, h⟩
 ·
  refine ah_ rfl hc2 (ab_ (aa_ (wa_ (v := (vi 2)) rfl rfl (ad_ (ak_ ?_)))))
  obtain rfl := sj h
  exact ⟨rfl, (vi 2), (bo_ rfl rfl), _, [], le1, I3, rfl, rfl⟩
 refine ai_ rfl hc2 (ar_ (ab_ (ab_ (aa_ (wa_ (v := (vi 0)) rfl rfl (ad_ ?_))))))
 have hk1 : a1.length ≤ 9223372036854775807 := (cx_ h1_)
 obtain ⟨o2, hrun1, h⟩ := bnd h
 refine bp_ (fun f w => ∃ out1, o2 = Sum.inl out1 ∧ ∃ (S_ : PH), S1.Le S_ ∧ Inv w S_ (Fr) ∧ f 1 = (.slice z5 m5 k5) ∧ f 2 = (pt_ g1) ∧ f.ds = []) ?_ ?_
 ·
  refine au_ ?_
  refine ex_ (I := fun (i1 : Nat) (s1 : Unit) (f : Frm) (w : World) => ∃ (S_ : PH), S1.Le S_ ∧ Inv w S_ (Fr) ∧ f 1 = (.slice z5 m5 k5) ∧ f 2 = (pt_ g1) ∧ f 6 = (vi (i1 : Int)) ∧ f.ds = []) hrun1 ⟨_, lr, I3, rfl, rfl, rfl, rfl⟩ ?_ ?_
  ·
   rintro i1 s1 f w o1 hlt1 hI25 h1 hout1
   obtain ⟨S28, le28, I37, e72, e73, e74, ed7⟩ := hI25
   refine ab_ (ab_ (aa_ (wm_ rfl e74 (wm_ rfl e72 (wo_ (az_ rfl Tryz.underlying45 rfl (h1_.mono (le1.trans le28)) (wo_ (be_ rfl rfl rfl (ad_ (ah_ rfl (eo_ hlt1) (ar_ (ab_ (au_ (ab_ ?_))))))))))))))
   obtain ⟨x8, hx8, h1⟩ := bnd h1
   obtain ⟨x9, hx9, h1⟩ := bnd h1
   refine bj_ (sps := [spR 21 [] 0 a0, spV 22 [] 1 (.slice z5 m5 k5), spV 23 [] 2 (vi (i1 : Int)), spV 24 [1, 2] 3 (af_ (.slice z5 m5 k5) ((i1 : Int)) (Enc.sz Aid)), spR 25 [1, 2, 3] 4 x8, spV 26 [0, 1, 2, 3, 4] 5 (vb x9), spV 27 (lrg 6) 6 (vb (!x9))]) (tks := []) (O := Fr) rfl (by kernel_rfl) I37 ⟨?_, ob_ rfl fun l A K I => (aq_ rfl ((K 1 (ag_ rfl)).trans e72) (fo I)), ob_ rfl fun l A K I => (aq_ rfl ((K 6 (ag_ rfl)).trans e74) (fo I)), ob_ rfl fun l A K I => (ix_ Tryz.underlying45 ua_ (h1_.mono ((le1.trans le28).trans l)) hx8 (A.v 0 rfl) (A.v 1 rfl) (fo I)), ?_, ?_, ?_, trivial⟩ ?_
   ·
    intro vs f w_ U X le A K I
    refine pl_ rfl (ay_ rfl fr_ ((K 2 (ag_ rfl)).trans e73) ((p1.mono (le28.trans le)).at_ I) (fun u22 hu22 => ?_))
    obtain ⟨c39, c40, c41, c42, e75, r45, r46, r47, r48⟩ := Riddle.inv hu22
    subst e75
    obtain ⟨z40, m40, k40, rfl⟩ := ac_ r45
    obtain ⟨z41, m41, k41, rfl⟩ := ac_ r46
    obtain ⟨z42, m42, k42, rfl⟩ := ac_ r47
    obtain ⟨z43, m43, k43, rfl⟩ := ac_ r48
    refine ⟨_, _, rfl, lr, ?_, ?_⟩
    · exact (Riddle.rv (s := a0) r45 r46 r47 r48)
    exact I
   ·
    intro vs f w_ U X le A K I
    have q24 := A.v 2 rfl
    refine pl_ rfl (ay_ rfl ua_ q24 ((h1_.mono ((le1.trans le28).trans le)).elem I.in_ hx8) (fun u23 hu23 => ?_))
    obtain ⟨c43, e80, r49⟩ := Aid.inv hu23
    subst e80
    obtain ⟨z44, m44, k44, rfl⟩ := ac_ r49
    refine ⟨_, _, rfl, lr, ?_, ?_⟩
    · exact (Aid.rv (s := x8) r49)
    exact I
   ·
    intro vs f w_ U X le A K I
    have q25 : f 21 = vs 0 := (A.at_ 0 rfl _ rfl).1 _ rfl
    have r50 : RV U (vs 0) a0 := (A.at_ 0 rfl _ rfl).2
    obtain ⟨u24, hu24⟩ : ∃ u, vs 0 = u := ⟨_, rfl⟩
    rw [hu24] at q25 r50
    obtain ⟨c44, c45, c46, c47, e82, r51, r52, r53, r54⟩ := Riddle.inv r50
    subst e82
    obtain ⟨z45, m45, k45, rfl⟩ := ac_ r51
    obtain ⟨z46, m46, k46, rfl⟩ := ac_ r52
    obtain ⟨z47, m47, k47, rfl⟩ := ac_ r53
    obtain ⟨z48, m48, k48, rfl⟩ := ac_ r54
    have q26 : f 25 = vs 4 := (A.at_ 4 rfl _ rfl).1 _ rfl
    have r55 : RV U (vs 4) x8 := (A.at_ 4 rfl _ rfl).2
    obtain ⟨u25, hu25⟩ : ∃ u, vs 4 = u := ⟨_, rfl⟩
    rw [hu25] at q26 r55
    obtain ⟨c48, e87, r56⟩ := Aid.inv r55
    subst e87
    obtain ⟨z49, m49, k49, rfl⟩ := ac_ r56
    refine pl_ rfl (cv_ ca76 rfl I (fun Fr_ hF_ => vt_ hF_ (Riddle.rv (s := a0) r51 r52 r53 r54) (Aid.rv (s := x8) r56) hx9) (br_ q25 q26) (fun w40 I45 => (fo I45)))
   ·
    intro vs f w_ U X le A K I
    refine pl_ rfl (bx_ rfl (A.v 5 rfl) (fo I))
   intro vs32 f w42 S36 ed8 le36 hF4 hK32 hI33
   have e89 : f 1 = (Value.slice z5 m5 k5) := (hK32 1 (al_ rfl)).trans e72
   have e90 : f 2 = (pt_ g1) := (hK32 2 (al_ rfl)).trans e73
   have e91 : f 6 = (vi ((i1 : Int))) := (hK32 6 (al_ rfl)).trans e74
   have I47 : Inv w42 S36 (Fr) := hI33
   have q28 := hF4.v 6 rfl
   rcases ifs h1 with ⟨hc6, h1⟩ | ⟨hc6, h1⟩
   ·
    refine ah_ q28 hc6 (ab_ (aa_ (wa_ (v := (vi 70)) rfl rfl (ad_ (ak_ ?_)))))
    obtain rfl := sj h1
    obtain rfl := (hout1 _ rfl)
    have h2 := h
    obtain rfl := sj h2
    exact ⟨(ed8.trans ed7), (vi 70), (bo_ rfl rfl), _, [], ((le1.trans le28).trans le36), I47, rfl, rfl⟩
   refine ai_ q28 hc6 (ar_ (aa_ (wm_ rfl e91 (wo_ (bl_ rfl rfl rfl (wa_ (v := (vi (w64 ((i1 : Int) + 1)))) rfl rfl (ad_ ?_)))))))
   obtain rfl := sj h1
   exact ⟨_, rfl, _, (le28.trans le36), I47, e89, e90, (bh_ hlt1 hk1), (ed8.trans ed7)⟩
  rintro s2 f w hs1 hI34
  obtain ⟨S37, le37, I48, e92, e93, e94, ed9⟩ := hI34
  refine ab_ (ab_ (aa_ (wm_ rfl e94 (wm_ rfl e92 (wo_ (az_ rfl Tryz.underlying45 rfl (h1_.mono (le1.trans le37)) (wo_ (be_ rfl rfl rfl (ad_ (ai_ rfl (ep_ _) (bk_ ?_)))))))))))
  exact ⟨s2, hs1, _, le37, I48, e92, e93, ed9⟩
 rintro f w ⟨out1, rfl, S38, le38, I49, e95, e96, ed10⟩
 have h := eh_ h
 refine ab_ (aa_ (wa_ (v := (vi 0)) rfl rfl (ad_ (ak_ ?_))))
 obtain rfl := sj h
 exact ⟨ed10, (vi 0), (bo_ rfl rfl), _, [], (le1.trans le38), I49, rfl, rfl⟩
theorem vv_ {w : World} {S : PH} {Fr : List HP} {a0 : Riddle} {v0 : Value} {a1 : Aid} {v1 : Value} {r : Bool} (hI : Inv w S (Fr)) (h0_ : RV S v0 a0) (h1_ : RV S v1 a1) (h : kx_ a0 a1 = some r) :
    Calls Tryz.prog 56 [v0, v1].toArray w (bw_ S Fr (Value.bool (r))) := by
 unfold kx_ at h
 obtain ⟨c1, c2, c3, c4, e1, r1, r2, r3, r4⟩ := Riddle.inv h0_
 subst e1
 obtain ⟨z1, m1, k1, rfl⟩ := ac_ r1
 obtain ⟨z2, m2, k2, rfl⟩ := ac_ r2
 obtain ⟨z3, m3, k3, rfl⟩ := ac_ r3
 obtain ⟨z4, m4, k4, rfl⟩ := ac_ r4
 obtain ⟨c5, e6, r5⟩ := Aid.inv h1_
 subst e6
 obtain ⟨z5, m5, k5, rfl⟩ := ac_ r5
 refine ao_ (n := 34) Tryz.func56 rfl rfl rfl (ab_ (aa_ (wo_ (bi_ (v := (.agg #[(.slice z1 m1 k1), (.slice z2 m2 k2), (.slice z3 m3 k3), (.slice z4 m4 k4)])) rfl hI rfl (fun g1 w1 I1 => ?_)))))
 obtain ⟨S1, le1, I2, p1⟩ := Inv.boxFreeze (x := a0) I1 (Riddle.rv (s := a0) r1 r2 r3 r4)
 refine wo_ (bi_ (v := (.agg #[(vi a1.Lock), (vi a1.Clue.Kind), (vi a1.Clue.A), (vi a1.Clue.B), (vi a1.Clue.N), (vi a1.Clue.M), (.slice z5 m5 k5), (vb a1.Clue.Not)])) rfl I2 rfl (fun g2 w2 I3 => ?_))
 obtain ⟨S2, le2, I4, p2⟩ := Inv.boxFreeze (x := a1) I3 (Aid.rv (s := a1) (r5.mono le1))
 refine wa_ (v := (vb false)) rfl rfl (ad_ (ab_ ?_))
 obtain ⟨x1, hx1, h⟩ := bnd h
 rcases ifs h with ⟨hc1, h⟩ | ⟨hc1, h⟩
 ·
  obtain ⟨x2, hx2, h⟩ := bnd h
  obtain ⟨x3, hx3, h⟩ := bnd h
  obtain ⟨x4, hx4, h⟩ := bnd h
  obtain ⟨x5, hx5, h⟩ := bnd h
  obtain ⟨x6, hx6, h⟩ := bnd h
  rcases ifs h with ⟨hc2, h⟩ | ⟨hc2, h⟩
  ·
   obtain ⟨x7, hx7, h⟩ := bnd h
   refine bj_ (sps := [spR 5 [] 0 a0, spV 6 [] 1 (an_ (pt_ g2) 0), spV 7 [1] 2 (vi a1.Lock), spV 8 [0, 1, 2] 3 (vb x1), spV 9 [0, 1, 2, 3] 4 (vb (!x1)), spV 10 [0, 1, 2, 3, 4] 5 (vb (!x1)), spR 11 (lrg 6) 6 a0, spR 12 (lrg 6) 7 a1, spR 13 (lrg 8) 8 x2, ⟨some 14, (lrg 9), [9], fun vs_ T_ => ∃ (a0_ : Option Addr) (n0_ k0_ : Nat), fr0 vs_ 0 = (.slice a0_ n0_ k0_), [], [], [0], fun _ h_ => h_⟩, spV 15 (lrg 6) 10 (an_ (pt_ g2) 0), spV 16 (lrg 6 ++ [10]) 11 (vi a1.Lock), ⟨some 17, (lrg 12), [12, 9], fun vs_ T_ => fr0 vs_ 0 = (af_ (fr0 vs_ 1) (a1.Lock) (Enc.sz Int)), [0], [], [], fun _ h_ => h_⟩, ⟨some 18, (lrg 13), [13], fun vs_ T_ => fr0 vs_ 0 = (vi x4), [0], [], [], fun _ h_ => h_⟩, spR 19 (lrg 6) 14 a0, ⟨some 20, (lrg 10 ++ [14]), [15], fun vs_ T_ => ∃ (a0_ : Option Addr) (n0_ k0_ : Nat), fr0 vs_ 0 = (.slice a0_ n0_ k0_), [], [], [1], fun _ h_ => h_⟩, spV 21 (lrg 6) 16 (an_ (pt_ g2) 0), spV 22 (lrg 6 ++ [16]) 17 (vi a1.Lock), ⟨some 23, (lrg 10 ++ [14, 15, 16, 17]), [18, 15], fun vs_ T_ => fr0 vs_ 0 = (af_ (fr0 vs_ 1) (a1.Lock) (Enc.sz Int)), [1], [], [], fun _ h_ => h_⟩, ⟨some 24, (lrg 10 ++ [14, 15, 16, 17, 18]), [19], fun vs_ T_ => fr0 vs_ 0 = (vi x6), [1], [], [], fun _ h_ => h_⟩, spV 25 (lrg 20) 20 (vb (decide (x4 < x6))), spV 26 (lrg 21) 21 (vb (decide (x4 < x6))), spV 27 (lrg 22) 22 (vb (decide (x4 < x6))), spR 28 (lrg 23) 23 a0, spR 29 (lrg 23) 24 a1, ⟨some 30, (lrg 25), [25], fun vs_ T_ => ∃ (a0_ : Option Addr) (n0_ k0_ : Nat), fr0 vs_ 0 = (.slice a0_ n0_ k0_), [], [], [2], fun _ h_ => h_⟩, ⟨some 31, (lrg 26), [26], fun vs_ T_ => fr0 vs_ 0 = (vi ((x7.length : Int))), [2], [], [], fun _ h_ => h_⟩, spV 32 (lrg 27) 27 (vb ((x7.length : Int) == 0)), spV 33 (lrg 28) 28 (vb ((x7.length : Int) == 0)), spV 4 (lrg 29) 29 (vb ((x7.length : Int) == 0))]) (tks := [⟨some 9, none, [9], fun vs_ => Row (α := Int) 3 (fr0 vs_ 0) (x3)⟩, ⟨some 15, none, [15], fun vs_ => Row (α := Int) 3 (fr0 vs_ 0) (x5)⟩, ⟨some 25, none, [25], fun vs_ => Row (α := Int) 3 (fr0 vs_ 0) (x7)⟩]) (O := Fr) rfl (by kernel_rfl) I4 ⟨?_, ob_ rfl fun l A K I => (ae_ rfl fq_ (K 3 (ag_ rfl)) ((p2.mono l).at_ I) (fo I)), ob_ rfl fun l A K I => (aj_ rfl sh3 (A.v 0 rfl) (((p2.mono l).at_ I).fld Aid.fld0) (fo I)), ?_, ob_ rfl fun l A K I => (bx_ rfl (A.v 3 rfl) (fo I)), ob_ rfl fun l A K I => (aq_ rfl (A.v 4 rfl) (fo I)), ?_, ?_, ?_, ?_, oc_ fun l A K I => tk_ rfl (A.v 5 rfl) hc1 (ae_ rfl fq_ (K 3 (ag_ rfl)) ((p2.mono l).at_ I) (fo I)), oc_ fun l A K I => tk_ rfl (A.v 5 rfl) hc1 (aj_ rfl sh3 (A.v 6 rfl) (((p2.mono l).at_ I).fld Aid.fld0) (fo I)), ?_, ?_, ?_, ?_, oc_ fun l A K I => tk_ rfl (A.v 5 rfl) hc1 (ae_ rfl fq_ (K 3 (ag_ rfl)) ((p2.mono l).at_ I) (fo I)), oc_ fun l A K I => tk_ rfl (A.v 5 rfl) hc1 (aj_ rfl sh3 (A.v 6 rfl) (((p2.mono l).at_ I).fld Aid.fld0) (fo I)), ?_, ?_, oc_ fun l A K I => tk_ rfl (A.v 5 rfl) hc1 (be_ rfl (A.v 13 rfl) (A.v 19 rfl) (fo I)), ob_ rfl fun l A K I => (aw_ (a := (vb (decide (x4 < x6)))) rfl (A.v 5 rfl) hc1 (A.v 20 rfl) (fo I)), ob_ rfl fun l A K I => (aq_ rfl (A.v 21 rfl) (fo I)), ?_, ?_, ?_, ?_, oc_ fun l A K I => tk_ rfl (A.v 22 rfl) hc2 (bm_ rfl (A.v 26 rfl) rfl (fo I)), ob_ rfl fun l A K I => (aw_ (a := (vb ((x7.length : Int) == 0))) rfl (A.v 22 rfl) hc2 (A.v 27 rfl) (fo I)), ?_, trivial⟩ ?_
   ·
    intro vs f w_ U X le A K I
    refine pl_ rfl (ay_ rfl fr_ (K 2 (ag_ rfl)) ((p1.mono (le2.trans le)).at_ I) (fun u12 hu12 => ?_))
    obtain ⟨c6, c7, c8, c9, e8, r6, r7, r8, r9⟩ := Riddle.inv hu12
    subst e8
    obtain ⟨z6, m6, k6, rfl⟩ := ac_ r6
    obtain ⟨z7, m7, k7, rfl⟩ := ac_ r7
    obtain ⟨z8, m8, k8, rfl⟩ := ac_ r8
    obtain ⟨z9, m9, k9, rfl⟩ := ac_ r9
    refine ⟨_, _, rfl, lr, ?_, ?_⟩
    · exact (Riddle.rv (s := a0) r6 r7 r8 r9)
    exact I
   ·
    intro vs f w_ U X le A K I
    have q2 : f 5 = vs 0 := (A.at_ 0 rfl _ rfl).1 _ rfl
    have r10 : RV U (vs 0) a0 := (A.at_ 0 rfl _ rfl).2
    obtain ⟨u13, hu13⟩ : ∃ u, vs 0 = u := ⟨_, rfl⟩
    rw [hu13] at q2 r10
    obtain ⟨c10, c11, c12, c13, e13, r11, r12, r13, r14⟩ := Riddle.inv r10
    subst e13
    obtain ⟨z10, m10, k10, rfl⟩ := ac_ r11
    obtain ⟨z11, m11, k11, rfl⟩ := ac_ r12
    obtain ⟨z12, m12, k12, rfl⟩ := ac_ r13
    obtain ⟨z13, m13, k13, rfl⟩ := ac_ r14
    refine pl_ rfl (cv_ ca77 rfl I (fun Fr_ hF_ => nm_ hF_ (Riddle.rv (s := a0) r11 r12 r13 r14) hx1) (br_ q2 (A.v 2 rfl)) (fun w10 I12 => (fo I12)))
   ·
    intro vs f w_ U X le A K I
    have q6 := A.v 5 rfl
    refine tk_ rfl q6 hc1 (ay_ rfl fr_ (K 2 (ag_ rfl)) ((p1.mono (le2.trans le)).at_ I) (fun u14 hu14 => ?_))
    obtain ⟨c14, c15, c16, c17, e18, r15, r16, r17, r18⟩ := Riddle.inv hu14
    subst e18
    obtain ⟨z14, m14, k14, rfl⟩ := ac_ r15
    obtain ⟨z15, m15, k15, rfl⟩ := ac_ r16
    obtain ⟨z16, m16, k16, rfl⟩ := ac_ r17
    obtain ⟨z17, m17, k17, rfl⟩ := ac_ r18
    refine ⟨_, _, rfl, lr, ?_, ?_⟩
    · exact (Riddle.rv (s := a0) r15 r16 r17 r18)
    exact I
   ·
    intro vs f w_ U X le A K I
    have q7 := A.v 5 rfl
    refine tk_ rfl q7 hc1 (ay_ rfl ua_ (K 3 (ag_ rfl)) ((p2.mono le).at_ I) (fun u15 hu15 => ?_))
    obtain ⟨c18, e23, r19⟩ := Aid.inv hu15
    subst e23
    obtain ⟨z18, m18, k18, rfl⟩ := ac_ r19
    refine ⟨_, _, rfl, lr, ?_, ?_⟩
    · exact (Aid.rv (s := a1) r19)
    exact I
   ·
    intro vs f w_ U X le A K I
    have q8 := A.v 5 rfl
    have q9 : f 11 = vs 6 := (A.at_ 6 rfl _ rfl).1 _ rfl
    have r20 : RV U (vs 6) a0 := (A.at_ 6 rfl _ rfl).2
    obtain ⟨u16, hu16⟩ : ∃ u, vs 6 = u := ⟨_, rfl⟩
    rw [hu16] at q9 r20
    obtain ⟨c19, c20, c21, c22, e25, r21, r22, r23, r24⟩ := Riddle.inv r20
    subst e25
    obtain ⟨z19, m19, k19, rfl⟩ := ac_ r21
    obtain ⟨z20, m20, k20, rfl⟩ := ac_ r22
    obtain ⟨z21, m21, k21, rfl⟩ := ac_ r23
    obtain ⟨z22, m22, k22, rfl⟩ := ac_ r24
    have q10 : f 12 = vs 7 := (A.at_ 7 rfl _ rfl).1 _ rfl
    have r25 : RV U (vs 7) a1 := (A.at_ 7 rfl _ rfl).2
    obtain ⟨u17, hu17⟩ : ∃ u, vs 7 = u := ⟨_, rfl⟩
    rw [hu17] at q10 r25
    obtain ⟨c23, e30, r26⟩ := Aid.inv r25
    subst e30
    obtain ⟨z23, m23, k23, rfl⟩ := ac_ r26
    refine tk_ rfl q8 hc1 (cl_ ca39 rfl (kh_ I (Riddle.rv (s := a0) r21 r22 r23 r24) (Aid.rv (s := a1) r26) hx2) (br_ q9 q10) (fun cv1 w16 S12 O1 le12 I18 hv1 => ?_))
    obtain ⟨c24, rfl, rfl, r27⟩ := hv1
    obtain ⟨c25, c26, c27, c28, e32, r28, r29, r30, r31⟩ := Riddle.inv r27
    subst e32
    obtain ⟨z24, m24, k24, rfl⟩ := ac_ r28
    obtain ⟨z25, m25, k25, rfl⟩ := ac_ r29
    obtain ⟨z26, m26, k26, rfl⟩ := ac_ r30
    obtain ⟨z27, m27, k27, rfl⟩ := ac_ r31
    refine ⟨_, _, rfl, le12, ?_, ?_⟩
    · exact (Riddle.rv (s := x2) r28 r29 r30 r31)
    exact I18
   ·
    intro vs f w_ U X le A K I
    have q11 := A.v 5 rfl
    have q12 : f 13 = vs 8 := (A.at_ 8 rfl _ rfl).1 _ rfl
    have r32 : RV U (vs 8) x2 := (A.at_ 8 rfl _ rfl).2
    obtain ⟨u18, hu18⟩ : ∃ u, vs 8 = u := ⟨_, rfl⟩
    rw [hu18] at q12 r32
    obtain ⟨c29, c30, c31, c32, e37, r33, r34, r35, r36⟩ := Riddle.inv r32
    subst e37
    obtain ⟨z28, m28, k28, rfl⟩ := ac_ r33
    obtain ⟨z29, m29, k29, rfl⟩ := ac_ r34
    obtain ⟨z30, m30, k30, rfl⟩ := ac_ r35
    obtain ⟨z31, m31, k31, rfl⟩ := ac_ r36
    refine tk_ rfl q11 hc1 (cl_ ca43 rfl (ef_ I (Riddle.rv (s := x2) r33 r34 r35 r36) hx3) (em_ q12) (fun cv2 w18 S14 O2 le14 I20 hv2 => ?_))
    obtain ⟨z32, m32, k32, rfl, rfl⟩ := hv2
    refine ⟨_, _, rfl, le14, ?_, ?_⟩
    · exact ⟨_, _, _, rfl⟩
    exact I20
   ·
    intro vs f w_ U X le A K I
    have I23 : Inv w_ U (Row (α := Int) 3 (vs 9) (x3) :: X) := I
    have q16 := A.v 5 rfl
    obtain ⟨z33, m33, k33, e42, q17⟩ := A.rf (a := 9) 9 rfl rfl rfl
    have I24 := I23
    rw [e42] at I24
    have q18 := A.v 11 rfl
    refine tk_ rfl q16 hc1 (ba_ (v := (.slice z33 m33 k33)) (i := a1.Lock) (e := x4) rfl Tryz.underlying28 sh3 q17 (Inv.rowSrc (I24.nth 0 rfl)) q18 hx4 (⟨_, _, rfl, lr, ?_, ?_⟩))
    ·
     show (af_ (Value.slice z33 m33 k33) (a1.Lock) (Enc.sz Int)) = (af_ (vs 9) (a1.Lock) (Enc.sz Int))
     simp only [e42] <;> rfl
    show Inv _ _ (Row (α := Int) 3 (vs 9) (x3) :: X)
    simp only [e42]
    exact I24
   ·
    intro vs f w_ U X le A K I
    have I25 : Inv w_ U (Row (α := Int) 3 (vs 9) (x3) :: X) := I
    have q19 := A.v 5 rfl
    obtain ⟨z34, m34, k34, e43, q20⟩ := A.rf (a := 9) 9 rfl rfl rfl
    have I26 := I25
    rw [e43] at I26
    have q21 := A.v 11 rfl
    have q22 : f 17 = (af_ (vs 9) (a1.Lock) (Enc.sz Int)) := A.v 12 rfl
    simp only [e43] at q22
    have q22 : f 17 = (af_ (Value.slice z34 m34 k34) (a1.Lock) (Enc.sz Int)) := q22
    refine tk_ rfl q19 hc1 (aj_ rfl sh3 q22 ((I26.nth 0 rfl).rowElem hx4) (⟨_, _, rfl, lr, ?_, ?_⟩))
    · exact rfl
    show Inv _ _ (Row (α := Int) 3 (vs 9) (x3) :: X)
    simp only [e43]
    exact I26
   ·
    intro vs f w_ U X le A K I
    have q23 := A.v 5 rfl
    refine tk_ rfl q23 hc1 (ay_ rfl fr_ (K 2 (ag_ rfl)) ((p1.mono (le2.trans le)).at_ I) (fun u19 hu19 => ?_))
    obtain ⟨c33, c34, c35, c36, e44, r37, r38, r39, r40⟩ := Riddle.inv hu19
    subst e44
    obtain ⟨z35, m35, k35, rfl⟩ := ac_ r37
    obtain ⟨z36, m36, k36, rfl⟩ := ac_ r38
    obtain ⟨z37, m37, k37, rfl⟩ := ac_ r39
    obtain ⟨z38, m38, k38, rfl⟩ := ac_ r40
    refine ⟨_, _, rfl, lr, ?_, ?_⟩
    · exact (Riddle.rv (s := a0) r37 r38 r39 r40)
    exact I
   ·
    intro vs f w_ U X le A K I
    have q24 := A.v 5 rfl
    have q25 : f 19 = vs 14 := (A.at_ 10 rfl _ rfl).1 _ rfl
    have r41 : RV U (vs 14) a0 := (A.at_ 10 rfl _ rfl).2
    obtain ⟨u20, hu20⟩ : ∃ u, vs 14 = u := ⟨_, rfl⟩
    rw [hu20] at q25 r41
    obtain ⟨c37, c38, c39, c40, e49, r42, r43, r44, r45⟩ := Riddle.inv r41
    subst e49
    obtain ⟨z39, m39, k39, rfl⟩ := ac_ r42
    obtain ⟨z40, m40, k40, rfl⟩ := ac_ r43
    obtain ⟨z41, m41, k41, rfl⟩ := ac_ r44
    obtain ⟨z42, m42, k42, rfl⟩ := ac_ r45
    refine tk_ rfl q24 hc1 (cl_ ca43 rfl (ef_ I (Riddle.rv (s := a0) r42 r43 r44 r45) hx5) (em_ q25) (fun cv3 w25 S21 O3 le21 I29 hv3 => ?_))
    obtain ⟨z43, m43, k43, rfl, rfl⟩ := hv3
    refine ⟨_, _, rfl, le21, ?_, ?_⟩
    · exact ⟨_, _, _, rfl⟩
    exact I29
   ·
    intro vs f w_ U X le A K I
    have I32 : Inv w_ U (Row (α := Int) 3 (vs 15) (x5) :: X) := I
    have q29 := A.v 5 rfl
    obtain ⟨z44, m44, k44, e54, q30⟩ := A.rf (a := 15) 11 rfl rfl rfl
    have I33 := I32
    rw [e54] at I33
    have q31 := A.v 13 rfl
    refine tk_ rfl q29 hc1 (ba_ (v := (.slice z44 m44 k44)) (i := a1.Lock) (e := x6) rfl Tryz.underlying28 sh3 q30 (Inv.rowSrc (I33.nth 0 rfl)) q31 hx6 (⟨_, _, rfl, lr, ?_, ?_⟩))
    ·
     show (af_ (Value.slice z44 m44 k44) (a1.Lock) (Enc.sz Int)) = (af_ (vs 15) (a1.Lock) (Enc.sz Int))
     simp only [e54] <;> rfl
    show Inv _ _ (Row (α := Int) 3 (vs 15) (x5) :: X)
    simp only [e54]
    exact I33
   ·
    intro vs f w_ U X le A K I
    have I34 : Inv w_ U (Row (α := Int) 3 (vs 15) (x5) :: X) := I
    have q32 := A.v 5 rfl
    obtain ⟨z45, m45, k45, e55, q33⟩ := A.rf (a := 15) 11 rfl rfl rfl
    have I35 := I34
    rw [e55] at I35
    have q34 := A.v 13 rfl
    have q35 : f 23 = (af_ (vs 15) (a1.Lock) (Enc.sz Int)) := A.v 14 rfl
    simp only [e55] at q35
    have q35 : f 23 = (af_ (Value.slice z45 m45 k45) (a1.Lock) (Enc.sz Int)) := q35
    refine tk_ rfl q32 hc1 (aj_ rfl sh3 q35 ((I35.nth 0 rfl).rowElem hx6) (⟨_, _, rfl, lr, ?_, ?_⟩))
    · exact rfl
    show Inv _ _ (Row (α := Int) 3 (vs 15) (x5) :: X)
    simp only [e55]
    exact I35
   ·
    intro vs f w_ U X le A K I
    have q42 := A.v 22 rfl
    refine tk_ rfl q42 hc2 (ay_ rfl fr_ (K 2 (ag_ rfl)) ((p1.mono (le2.trans le)).at_ I) (fun u21 hu21 => ?_))
    obtain ⟨c41, c42, c43, c44, e56, r46, r47, r48, r49⟩ := Riddle.inv hu21
    subst e56
    obtain ⟨z46, m46, k46, rfl⟩ := ac_ r46
    obtain ⟨z47, m47, k47, rfl⟩ := ac_ r47
    obtain ⟨z48, m48, k48, rfl⟩ := ac_ r48
    obtain ⟨z49, m49, k49, rfl⟩ := ac_ r49
    refine ⟨_, _, rfl, lr, ?_, ?_⟩
    · exact (Riddle.rv (s := a0) r46 r47 r48 r49)
    exact I
   ·
    intro vs f w_ U X le A K I
    have q43 := A.v 22 rfl
    refine tk_ rfl q43 hc2 (ay_ rfl ua_ (K 3 (ag_ rfl)) ((p2.mono le).at_ I) (fun u22 hu22 => ?_))
    obtain ⟨c45, e61, r50⟩ := Aid.inv hu22
    subst e61
    obtain ⟨z50, m50, k50, rfl⟩ := ac_ r50
    refine ⟨_, _, rfl, lr, ?_, ?_⟩
    · exact (Aid.rv (s := a1) r50)
    exact I
   ·
    intro vs f w_ U X le A K I
    have q44 := A.v 22 rfl
    have q45 : f 28 = vs 23 := (A.at_ 23 rfl _ rfl).1 _ rfl
    have r51 : RV U (vs 23) a0 := (A.at_ 23 rfl _ rfl).2
    obtain ⟨u23, hu23⟩ : ∃ u, vs 23 = u := ⟨_, rfl⟩
    rw [hu23] at q45 r51
    obtain ⟨c46, c47, c48, c49, e63, r52, r53, r54, r55⟩ := Riddle.inv r51
    subst e63
    obtain ⟨z51, m51, k51, rfl⟩ := ac_ r52
    obtain ⟨z52, m52, k52, rfl⟩ := ac_ r53
    obtain ⟨z53, m53, k53, rfl⟩ := ac_ r54
    obtain ⟨z54, m54, k54, rfl⟩ := ac_ r55
    have q46 : f 29 = vs 24 := (A.at_ 24 rfl _ rfl).1 _ rfl
    have r56 : RV U (vs 24) a1 := (A.at_ 24 rfl _ rfl).2
    obtain ⟨u24, hu24⟩ : ∃ u, vs 24 = u := ⟨_, rfl⟩
    rw [hu24] at q46 r56
    obtain ⟨c50, e68, r57⟩ := Aid.inv r56
    subst e68
    obtain ⟨z55, m55, k55, rfl⟩ := ac_ r57
    refine tk_ rfl q44 hc2 (cl_ ca47 rfl (uf_ I (Riddle.rv (s := a0) r52 r53 r54 r55) (Aid.rv (s := a1) r57) hx7) (br_ q45 q46) (fun cv4 w36 S32 O4 le32 I42 hv4 => ?_))
    obtain ⟨z56, m56, k56, rfl, rfl⟩ := hv4
    refine ⟨_, _, rfl, le32, ?_, ?_⟩
    · exact ⟨_, _, _, rfl⟩
    exact I42
   ·
    intro vs f w_ U X le A K I
    have I43 : Inv w_ U (Row (α := Int) 3 (vs 25) (x7) :: X) := I
    have q47 := A.v 22 rfl
    obtain ⟨z57, m57, k57, e70, q48⟩ := A.rf (a := 25) 25 rfl rfl rfl
    have I44 := I43
    rw [e70] at I44
    refine tk_ rfl q47 hc2 (di_ (α := Int) rfl Tryz.underlying28 q48 (I44.nth 0 rfl) (⟨_, _, rfl, lr, ?_, ?_⟩))
    · exact rfl
    show Inv _ _ (Row (α := Int) 3 (vs 25) (x7) :: X)
    simp only [e70]
    exact I44
   ·
    intro vs f w_ U X le A K I
    refine pl_ rfl (bn_ (v := (vb ((x7.length : Int) == 0))) rfl (A.v 28 rfl) (fo I))
   intro vs31 f w41 S37 ed1 le37 hF1 hK31 hI31
   have I48 : Inv w41 S37 (Row (α := Int) 3 (vs31 9) (x3) :: Row (α := Int) 3 (vs31 15) (x5) :: Row (α := Int) 3 (vs31 25) (x7) :: Fr) := hI31
   obtain ⟨z58, m58, k58, e71, q54⟩ := hF1.rf (a := 9) 9 rfl rfl rfl
   have I49 := I48
   rw [e71] at I49
   obtain ⟨z59, m59, k59, e72, q55⟩ := hF1.rf (a := 15) 15 rfl rfl rfl
   have I50 := I49
   rw [e72] at I50
   obtain ⟨z60, m60, k60, e73, q56⟩ := hF1.rf (a := 25) 25 rfl rfl rfl
   have I51 := I50
   rw [e73] at I51
   have q57 := hF1.v 29 rfl
   refine ak_ ?_
   obtain rfl := sj h
   exact ⟨(ed1.trans rfl), (vb ((x7.length : Int) == 0)), (bo_ rfl q57), _, [], ((le1.trans le2).trans le37), (((I51).drop).drop).drop, rfl, rfl⟩
  refine bj_ (sps := [spR 5 [] 0 a0, spV 6 [] 1 (an_ (pt_ g2) 0), spV 7 [1] 2 (vi a1.Lock), spV 8 [0, 1, 2] 3 (vb x1), spV 9 [0, 1, 2, 3] 4 (vb (!x1)), spV 10 [0, 1, 2, 3, 4] 5 (vb (!x1)), spR 11 (lrg 6) 6 a0, spR 12 (lrg 6) 7 a1, spR 13 (lrg 8) 8 x2, ⟨some 14, (lrg 9), [9], fun vs_ T_ => ∃ (a0_ : Option Addr) (n0_ k0_ : Nat), fr0 vs_ 0 = (.slice a0_ n0_ k0_), [], [], [0], fun _ h_ => h_⟩, spV 15 (lrg 6) 10 (an_ (pt_ g2) 0), spV 16 (lrg 6 ++ [10]) 11 (vi a1.Lock), ⟨some 17, (lrg 12), [12, 9], fun vs_ T_ => fr0 vs_ 0 = (af_ (fr0 vs_ 1) (a1.Lock) (Enc.sz Int)), [0], [], [], fun _ h_ => h_⟩, ⟨some 18, (lrg 13), [13], fun vs_ T_ => fr0 vs_ 0 = (vi x4), [0], [], [], fun _ h_ => h_⟩, spR 19 (lrg 6) 14 a0, ⟨some 20, (lrg 10 ++ [14]), [15], fun vs_ T_ => ∃ (a0_ : Option Addr) (n0_ k0_ : Nat), fr0 vs_ 0 = (.slice a0_ n0_ k0_), [], [], [1], fun _ h_ => h_⟩, spV 21 (lrg 6) 16 (an_ (pt_ g2) 0), spV 22 (lrg 6 ++ [16]) 17 (vi a1.Lock), ⟨some 23, (lrg 10 ++ [14, 15, 16, 17]), [18, 15], fun vs_ T_ => fr0 vs_ 0 = (af_ (fr0 vs_ 1) (a1.Lock) (Enc.sz Int)), [1], [], [], fun _ h_ => h_⟩, ⟨some 24, (lrg 10 ++ [14, 15, 16, 17, 18]), [19], fun vs_ T_ => fr0 vs_ 0 = (vi x6), [1], [], [], fun _ h_ => h_⟩, spV 25 (lrg 20) 20 (vb (decide (x4 < x6))), spV 26 (lrg 21) 21 (vb (decide (x4 < x6))), spV 27 (lrg 22) 22 (vb (decide (x4 < x6))), spV 28 (lrg 23) 23 undef, spV 29 (lrg 23) 24 undef, spV 30 (lrg 25) 25 undef, spV 31 (lrg 26) 26 undef, spV 32 (lrg 27) 27 undef, spV 33 (lrg 28) 28 (vb false), spV 4 (lrg 29) 29 (vb false)]) (tks := [⟨some 9, none, [9], fun vs_ => Row (α := Int) 3 (fr0 vs_ 0) (x3)⟩, ⟨some 15, none, [15], fun vs_ => Row (α := Int) 3 (fr0 vs_ 0) (x5)⟩]) (O := Fr) rfl (by kernel_rfl) I4 ⟨?_, ob_ rfl fun l A K I => (ae_ rfl fq_ (K 3 (ag_ rfl)) ((p2.mono l).at_ I) (fo I)), ob_ rfl fun l A K I => (aj_ rfl sh3 (A.v 0 rfl) (((p2.mono l).at_ I).fld Aid.fld0) (fo I)), ?_, ob_ rfl fun l A K I => (bx_ rfl (A.v 3 rfl) (fo I)), ob_ rfl fun l A K I => (aq_ rfl (A.v 4 rfl) (fo I)), ?_, ?_, ?_, ?_, oc_ fun l A K I => tk_ rfl (A.v 5 rfl) hc1 (ae_ rfl fq_ (K 3 (ag_ rfl)) ((p2.mono l).at_ I) (fo I)), oc_ fun l A K I => tk_ rfl (A.v 5 rfl) hc1 (aj_ rfl sh3 (A.v 6 rfl) (((p2.mono l).at_ I).fld Aid.fld0) (fo I)), ?_, ?_, ?_, ?_, oc_ fun l A K I => tk_ rfl (A.v 5 rfl) hc1 (ae_ rfl fq_ (K 3 (ag_ rfl)) ((p2.mono l).at_ I) (fo I)), oc_ fun l A K I => tk_ rfl (A.v 5 rfl) hc1 (aj_ rfl sh3 (A.v 6 rfl) (((p2.mono l).at_ I).fld Aid.fld0) (fo I)), ?_, ?_, oc_ fun l A K I => tk_ rfl (A.v 5 rfl) hc1 (be_ rfl (A.v 13 rfl) (A.v 19 rfl) (fo I)), ob_ rfl fun l A K I => (aw_ (a := (vb (decide (x4 < x6)))) rfl (A.v 5 rfl) hc1 (A.v 20 rfl) (fo I)), ob_ rfl fun l A K I => (aq_ rfl (A.v 21 rfl) (fo I)), oc_ fun l A K I => sk_ rfl (A.v 22 rfl) hc2 (fo I), oc_ fun l A K I => sk_ rfl (A.v 22 rfl) hc2 (fo I), oc_ fun l A K I => sk_ rfl (A.v 22 rfl) hc2 (fo I), oc_ fun l A K I => sk_ rfl (A.v 22 rfl) hc2 (fo I), oc_ fun l A K I => sk_ rfl (A.v 22 rfl) hc2 (fo I), ob_ rfl fun l A K I => (ap_ (b := (vb false)) rfl (A.v 22 rfl) hc2 rfl (fo I)), ?_, trivial⟩ ?_
  ·
   intro vs f w_ U X le A K I
   refine pl_ rfl (ay_ rfl fr_ (K 2 (ag_ rfl)) ((p1.mono (le2.trans le)).at_ I) (fun u29 hu29 => ?_))
   obtain ⟨c51, c52, c53, c54, e74, r58, r59, r60, r61⟩ := Riddle.inv hu29
   subst e74
   obtain ⟨z61, m61, k61, rfl⟩ := ac_ r58
   obtain ⟨z62, m62, k62, rfl⟩ := ac_ r59
   obtain ⟨z63, m63, k63, rfl⟩ := ac_ r60
   obtain ⟨z64, m64, k64, rfl⟩ := ac_ r61
   refine ⟨_, _, rfl, lr, ?_, ?_⟩
   · exact (Riddle.rv (s := a0) r58 r59 r60 r61)
   exact I
  ·
   intro vs f w_ U X le A K I
   have q59 : f 5 = vs 0 := (A.at_ 0 rfl _ rfl).1 _ rfl
   have r62 : RV U (vs 0) a0 := (A.at_ 0 rfl _ rfl).2
   obtain ⟨u30, hu30⟩ : ∃ u, vs 0 = u := ⟨_, rfl⟩
   rw [hu30] at q59 r62
   obtain ⟨c55, c56, c57, c58, e79, r63, r64, r65, r66⟩ := Riddle.inv r62
   subst e79
   obtain ⟨z65, m65, k65, rfl⟩ := ac_ r63
   obtain ⟨z66, m66, k66, rfl⟩ := ac_ r64
   obtain ⟨z67, m67, k67, rfl⟩ := ac_ r65
   obtain ⟨z68, m68, k68, rfl⟩ := ac_ r66
   refine pl_ rfl (cv_ ca77 rfl I (fun Fr_ hF_ => nm_ hF_ (Riddle.rv (s := a0) r63 r64 r65 r66) hx1) (br_ q59 (A.v 2 rfl)) (fun w47 I57 => (fo I57)))
  ·
   intro vs f w_ U X le A K I
   have q63 := A.v 5 rfl
   refine tk_ rfl q63 hc1 (ay_ rfl fr_ (K 2 (ag_ rfl)) ((p1.mono (le2.trans le)).at_ I) (fun u31 hu31 => ?_))
   obtain ⟨c59, c60, c61, c62, e84, r67, r68, r69, r70⟩ := Riddle.inv hu31
   subst e84
   obtain ⟨z69, m69, k69, rfl⟩ := ac_ r67
   obtain ⟨z70, m70, k70, rfl⟩ := ac_ r68
   obtain ⟨z71, m71, k71, rfl⟩ := ac_ r69
   obtain ⟨z72, m72, k72, rfl⟩ := ac_ r70
   refine ⟨_, _, rfl, lr, ?_, ?_⟩
   · exact (Riddle.rv (s := a0) r67 r68 r69 r70)
   exact I
  ·
   intro vs f w_ U X le A K I
   have q64 := A.v 5 rfl
   refine tk_ rfl q64 hc1 (ay_ rfl ua_ (K 3 (ag_ rfl)) ((p2.mono le).at_ I) (fun u32 hu32 => ?_))
   obtain ⟨c63, e89, r71⟩ := Aid.inv hu32
   subst e89
   obtain ⟨z73, m73, k73, rfl⟩ := ac_ r71
   refine ⟨_, _, rfl, lr, ?_, ?_⟩
   · exact (Aid.rv (s := a1) r71)
   exact I
  ·
   intro vs f w_ U X le A K I
   have q65 := A.v 5 rfl
   have q66 : f 11 = vs 6 := (A.at_ 6 rfl _ rfl).1 _ rfl
   have r72 : RV U (vs 6) a0 := (A.at_ 6 rfl _ rfl).2
   obtain ⟨u33, hu33⟩ : ∃ u, vs 6 = u := ⟨_, rfl⟩
   rw [hu33] at q66 r72
   obtain ⟨c64, c65, c66, c67, e91, r73, r74, r75, r76⟩ := Riddle.inv r72
   subst e91
   obtain ⟨z74, m74, k74, rfl⟩ := ac_ r73
   obtain ⟨z75, m75, k75, rfl⟩ := ac_ r74
   obtain ⟨z76, m76, k76, rfl⟩ := ac_ r75
   obtain ⟨z77, m77, k77, rfl⟩ := ac_ r76
   have q67 : f 12 = vs 7 := (A.at_ 7 rfl _ rfl).1 _ rfl
   have r77 : RV U (vs 7) a1 := (A.at_ 7 rfl _ rfl).2
   obtain ⟨u34, hu34⟩ : ∃ u, vs 7 = u := ⟨_, rfl⟩
   rw [hu34] at q67 r77
   obtain ⟨c68, e96, r78⟩ := Aid.inv r77
   subst e96
   obtain ⟨z78, m78, k78, rfl⟩ := ac_ r78
   refine tk_ rfl q65 hc1 (cl_ ca39 rfl (kh_ I (Riddle.rv (s := a0) r73 r74 r75 r76) (Aid.rv (s := a1) r78) hx2) (br_ q66 q67) (fun cv5 w53 S47 O5 le47 I63 hv5 => ?_))
   obtain ⟨c69, rfl, rfl, r79⟩ := hv5
   obtain ⟨c70, c71, c72, c73, e98, r80, r81, r82, r83⟩ := Riddle.inv r79
   subst e98
   obtain ⟨z79, m79, k79, rfl⟩ := ac_ r80
   obtain ⟨z80, m80, k80, rfl⟩ := ac_ r81
   obtain ⟨z81, m81, k81, rfl⟩ := ac_ r82
   obtain ⟨z82, m82, k82, rfl⟩ := ac_ r83
   refine ⟨_, _, rfl, le47, ?_, ?_⟩
   · exact (Riddle.rv (s := x2) r80 r81 r82 r83)
   exact I63
  ·
   intro vs f w_ U X le A K I
   have q68 := A.v 5 rfl
   have q69 : f 13 = vs 8 := (A.at_ 8 rfl _ rfl).1 _ rfl
   have r84 : RV U (vs 8) x2 := (A.at_ 8 rfl _ rfl).2
   obtain ⟨u35, hu35⟩ : ∃ u, vs 8 = u := ⟨_, rfl⟩
   rw [hu35] at q69 r84
   obtain ⟨c74, c75, c76, c77, e103, r85, r86, r87, r88⟩ := Riddle.inv r84
   subst e103
   obtain ⟨z83, m83, k83, rfl⟩ := ac_ r85
   obtain ⟨z84, m84, k84, rfl⟩ := ac_ r86
   obtain ⟨z85, m85, k85, rfl⟩ := ac_ r87
   obtain ⟨z86, m86, k86, rfl⟩ := ac_ r88
   refine tk_ rfl q68 hc1 (cl_ ca43 rfl (ef_ I (Riddle.rv (s := x2) r85 r86 r87 r88) hx3) (em_ q69) (fun cv6 w55 S49 O6 le49 I65 hv6 => ?_))
   obtain ⟨z87, m87, k87, rfl, rfl⟩ := hv6
   refine ⟨_, _, rfl, le49, ?_, ?_⟩
   · exact ⟨_, _, _, rfl⟩
   exact I65
  ·
   intro vs f w_ U X le A K I
   have I68 : Inv w_ U (Row (α := Int) 3 (vs 9) (x3) :: X) := I
   have q73 := A.v 5 rfl
   obtain ⟨z88, m88, k88, e108, q74⟩ := A.rf (a := 9) 9 rfl rfl rfl
   have I69 := I68
   rw [e108] at I69
   have q75 := A.v 11 rfl
   refine tk_ rfl q73 hc1 (ba_ (v := (.slice z88 m88 k88)) (i := a1.Lock) (e := x4) rfl Tryz.underlying28 sh3 q74 (Inv.rowSrc (I69.nth 0 rfl)) q75 hx4 (⟨_, _, rfl, lr, ?_, ?_⟩))
   ·
    show (af_ (Value.slice z88 m88 k88) (a1.Lock) (Enc.sz Int)) = (af_ (vs 9) (a1.Lock) (Enc.sz Int))
    simp only [e108] <;> rfl
   show Inv _ _ (Row (α := Int) 3 (vs 9) (x3) :: X)
   simp only [e108]
   exact I69
  ·
   intro vs f w_ U X le A K I
   have I70 : Inv w_ U (Row (α := Int) 3 (vs 9) (x3) :: X) := I
   have q76 := A.v 5 rfl
   obtain ⟨z89, m89, k89, e109, q77⟩ := A.rf (a := 9) 9 rfl rfl rfl
   have I71 := I70
   rw [e109] at I71
   have q78 := A.v 11 rfl
   have q79 : f 17 = (af_ (vs 9) (a1.Lock) (Enc.sz Int)) := A.v 12 rfl
   simp only [e109] at q79
   have q79 : f 17 = (af_ (Value.slice z89 m89 k89) (a1.Lock) (Enc.sz Int)) := q79
   refine tk_ rfl q76 hc1 (aj_ rfl sh3 q79 ((I71.nth 0 rfl).rowElem hx4) (⟨_, _, rfl, lr, ?_, ?_⟩))
   · exact rfl
   show Inv _ _ (Row (α := Int) 3 (vs 9) (x3) :: X)
   simp only [e109]
   exact I71
  ·
   intro vs f w_ U X le A K I
   have q80 := A.v 5 rfl
   refine tk_ rfl q80 hc1 (ay_ rfl fr_ (K 2 (ag_ rfl)) ((p1.mono (le2.trans le)).at_ I) (fun u36 hu36 => ?_))
   obtain ⟨c78, c79, c80, c81, e110, r89, r90, r91, r92⟩ := Riddle.inv hu36
   subst e110
   obtain ⟨z90, m90, k90, rfl⟩ := ac_ r89
   obtain ⟨z91, m91, k91, rfl⟩ := ac_ r90
   obtain ⟨z92, m92, k92, rfl⟩ := ac_ r91
   obtain ⟨z93, m93, k93, rfl⟩ := ac_ r92
   refine ⟨_, _, rfl, lr, ?_, ?_⟩
   · exact (Riddle.rv (s := a0) r89 r90 r91 r92)
   exact I
  ·
   intro vs f w_ U X le A K I
   have q81 := A.v 5 rfl
   have q82 : f 19 = vs 14 := (A.at_ 10 rfl _ rfl).1 _ rfl
   have r93 : RV U (vs 14) a0 := (A.at_ 10 rfl _ rfl).2
   obtain ⟨u37, hu37⟩ : ∃ u, vs 14 = u := ⟨_, rfl⟩
   rw [hu37] at q82 r93
   obtain ⟨c82, c83, c84, c85, e115, r94, r95, r96, r97⟩ := Riddle.inv r93
   subst e115
   obtain ⟨z94, m94, k94, rfl⟩ := ac_ r94
   obtain ⟨z95, m95, k95, rfl⟩ := ac_ r95
   obtain ⟨z96, m96, k96, rfl⟩ := ac_ r96
   obtain ⟨z97, m97, k97, rfl⟩ := ac_ r97
   refine tk_ rfl q81 hc1 (cl_ ca43 rfl (ef_ I (Riddle.rv (s := a0) r94 r95 r96 r97) hx5) (em_ q82) (fun cv7 w62 S56 O7 le56 I74 hv7 => ?_))
   obtain ⟨z98, m98, k98, rfl, rfl⟩ := hv7
   refine ⟨_, _, rfl, le56, ?_, ?_⟩
   · exact ⟨_, _, _, rfl⟩
   exact I74
  ·
   intro vs f w_ U X le A K I
   have I77 : Inv w_ U (Row (α := Int) 3 (vs 15) (x5) :: X) := I
   have q86 := A.v 5 rfl
   obtain ⟨z99, m99, k99, e120, q87⟩ := A.rf (a := 15) 11 rfl rfl rfl
   have I78 := I77
   rw [e120] at I78
   have q88 := A.v 13 rfl
   refine tk_ rfl q86 hc1 (ba_ (v := (.slice z99 m99 k99)) (i := a1.Lock) (e := x6) rfl Tryz.underlying28 sh3 q87 (Inv.rowSrc (I78.nth 0 rfl)) q88 hx6 (⟨_, _, rfl, lr, ?_, ?_⟩))
   ·
    show (af_ (Value.slice z99 m99 k99) (a1.Lock) (Enc.sz Int)) = (af_ (vs 15) (a1.Lock) (Enc.sz Int))
    simp only [e120] <;> rfl
   show Inv _ _ (Row (α := Int) 3 (vs 15) (x5) :: X)
   simp only [e120]
   exact I78
  ·
   intro vs f w_ U X le A K I
   have I79 : Inv w_ U (Row (α := Int) 3 (vs 15) (x5) :: X) := I
   have q89 := A.v 5 rfl
   obtain ⟨z100, m100, k100, e121, q90⟩ := A.rf (a := 15) 11 rfl rfl rfl
   have I80 := I79
   rw [e121] at I80
   have q91 := A.v 13 rfl
   have q92 : f 23 = (af_ (vs 15) (a1.Lock) (Enc.sz Int)) := A.v 14 rfl
   simp only [e121] at q92
   have q92 : f 23 = (af_ (Value.slice z100 m100 k100) (a1.Lock) (Enc.sz Int)) := q92
   refine tk_ rfl q89 hc1 (aj_ rfl sh3 q92 ((I80.nth 0 rfl).rowElem hx6) (⟨_, _, rfl, lr, ?_, ?_⟩))
   · exact rfl
   show Inv _ _ (Row (α := Int) 3 (vs 15) (x5) :: X)
   simp only [e121]
   exact I80
  ·
   intro vs f w_ U X le A K I
   refine pl_ rfl (bn_ (v := (vb false)) rfl (A.v 28 rfl) (fo I))
  intro vs62 f w78 S71 ed2 le71 hF2 hK62 hI62
  have I91 : Inv w78 S71 (Row (α := Int) 3 (vs62 9) (x3) :: Row (α := Int) 3 (vs62 15) (x5) :: Fr) := hI62
  obtain ⟨z101, m101, k101, e122, q111⟩ := hF2.rf (a := 9) 9 rfl rfl rfl
  have I92 := I91
  rw [e122] at I92
  obtain ⟨z102, m102, k102, e123, q112⟩ := hF2.rf (a := 15) 15 rfl rfl rfl
  have I93 := I92
  rw [e123] at I93
  have q113 := hF2.v 29 rfl
  refine ak_ ?_
  obtain rfl := sj h
  exact ⟨(ed2.trans rfl), (vb false), (bo_ rfl q113), _, [], ((le1.trans le2).trans le71), ((I93).drop).drop, rfl, rfl⟩
 refine bj_ (sps := [spR 5 [] 0 a0, spV 6 [] 1 (an_ (pt_ g2) 0), spV 7 [1] 2 (vi a1.Lock), spV 8 [0, 1, 2] 3 (vb x1), spV 9 [0, 1, 2, 3] 4 (vb (!x1)), spV 10 [0, 1, 2, 3, 4] 5 (vb (!x1)), spV 11 (lrg 6) 6 undef, spV 12 (lrg 6) 7 undef, spV 13 (lrg 8) 8 undef, spV 14 (lrg 9) 9 undef, spV 15 (lrg 6) 10 undef, spV 16 (lrg 6 ++ [10]) 11 undef, spV 17 (lrg 12) 12 undef, spV 18 (lrg 13) 13 undef, spV 19 (lrg 6) 14 undef, spV 20 (lrg 10 ++ [14]) 15 undef, spV 21 (lrg 6) 16 undef, spV 22 (lrg 6 ++ [16]) 17 undef, spV 23 (lrg 10 ++ [14, 15, 16, 17]) 18 undef, spV 24 (lrg 10 ++ [14, 15, 16, 17, 18]) 19 undef, spV 25 (lrg 20) 20 undef, spV 26 (lrg 21) 21 (vb false), spV 27 (lrg 22) 22 (vb false), spV 28 (lrg 23) 23 undef, spV 29 (lrg 23) 24 undef, spV 30 (lrg 25) 25 undef, spV 31 (lrg 26) 26 undef, spV 32 (lrg 27) 27 undef, spV 33 (lrg 28) 28 (vb false), spV 4 (lrg 29) 29 (vb false)]) (tks := []) (O := Fr) rfl (by kernel_rfl) I4 ⟨?_, ob_ rfl fun l A K I => (ae_ rfl fq_ (K 3 (ag_ rfl)) ((p2.mono l).at_ I) (fo I)), ob_ rfl fun l A K I => (aj_ rfl sh3 (A.v 0 rfl) (((p2.mono l).at_ I).fld Aid.fld0) (fo I)), ?_, ob_ rfl fun l A K I => (bx_ rfl (A.v 3 rfl) (fo I)), ob_ rfl fun l A K I => (aq_ rfl (A.v 4 rfl) (fo I)), oc_ fun l A K I => sk_ rfl (A.v 5 rfl) hc1 (fo I), oc_ fun l A K I => sk_ rfl (A.v 5 rfl) hc1 (fo I), oc_ fun l A K I => sk_ rfl (A.v 5 rfl) hc1 (fo I), oc_ fun l A K I => sk_ rfl (A.v 5 rfl) hc1 (fo I), oc_ fun l A K I => sk_ rfl (A.v 5 rfl) hc1 (fo I), oc_ fun l A K I => sk_ rfl (A.v 5 rfl) hc1 (fo I), oc_ fun l A K I => sk_ rfl (A.v 5 rfl) hc1 (fo I), oc_ fun l A K I => sk_ rfl (A.v 5 rfl) hc1 (fo I), oc_ fun l A K I => sk_ rfl (A.v 5 rfl) hc1 (fo I), oc_ fun l A K I => sk_ rfl (A.v 5 rfl) hc1 (fo I), oc_ fun l A K I => sk_ rfl (A.v 5 rfl) hc1 (fo I), oc_ fun l A K I => sk_ rfl (A.v 5 rfl) hc1 (fo I), oc_ fun l A K I => sk_ rfl (A.v 5 rfl) hc1 (fo I), oc_ fun l A K I => sk_ rfl (A.v 5 rfl) hc1 (fo I), oc_ fun l A K I => sk_ rfl (A.v 5 rfl) hc1 (fo I), ob_ rfl fun l A K I => (ap_ (b := (vb false)) rfl (A.v 5 rfl) hc1 rfl (fo I)), ob_ rfl fun l A K I => (aq_ rfl (A.v 21 rfl) (fo I)), oc_ fun l A K I => sk_ rfl (A.v 22 rfl) rfl (fo I), oc_ fun l A K I => sk_ rfl (A.v 22 rfl) rfl (fo I), oc_ fun l A K I => sk_ rfl (A.v 22 rfl) rfl (fo I), oc_ fun l A K I => sk_ rfl (A.v 22 rfl) rfl (fo I), oc_ fun l A K I => sk_ rfl (A.v 22 rfl) rfl (fo I), ob_ rfl fun l A K I => (ap_ (b := (vb false)) rfl (A.v 22 rfl) rfl rfl (fo I)), ?_, trivial⟩ ?_
 ·
  intro vs f w_ U X le A K I
  refine pl_ rfl (ay_ rfl fr_ (K 2 (ag_ rfl)) ((p1.mono (le2.trans le)).at_ I) (fun u39 hu39 => ?_))
  obtain ⟨c86, c87, c88, c89, e124, r98, r99, r100, r101⟩ := Riddle.inv hu39
  subst e124
  obtain ⟨z103, m103, k103, rfl⟩ := ac_ r98
  obtain ⟨z104, m104, k104, rfl⟩ := ac_ r99
  obtain ⟨z105, m105, k105, rfl⟩ := ac_ r100
  obtain ⟨z106, m106, k106, rfl⟩ := ac_ r101
  refine ⟨_, _, rfl, lr, ?_, ?_⟩
  · exact (Riddle.rv (s := a0) r98 r99 r100 r101)
  exact I
 ·
  intro vs f w_ U X le A K I
  have q115 : f 5 = vs 0 := (A.at_ 0 rfl _ rfl).1 _ rfl
  have r102 : RV U (vs 0) a0 := (A.at_ 0 rfl _ rfl).2
  obtain ⟨u40, hu40⟩ : ∃ u, vs 0 = u := ⟨_, rfl⟩
  rw [hu40] at q115 r102
  obtain ⟨c90, c91, c92, c93, e129, r103, r104, r105, r106⟩ := Riddle.inv r102
  subst e129
  obtain ⟨z107, m107, k107, rfl⟩ := ac_ r103
  obtain ⟨z108, m108, k108, rfl⟩ := ac_ r104
  obtain ⟨z109, m109, k109, rfl⟩ := ac_ r105
  obtain ⟨z110, m110, k110, rfl⟩ := ac_ r106
  refine pl_ rfl (cv_ ca77 rfl I (fun Fr_ hF_ => nm_ hF_ (Riddle.rv (s := a0) r103 r104 r105 r106) hx1) (br_ q115 (A.v 2 rfl)) (fun w84 I99 => (fo I99)))
 ·
  intro vs f w_ U X le A K I
  refine pl_ rfl (bn_ (v := (vb false)) rfl (A.v 28 rfl) (fo I))
 intro vs93 f w111 S102 ed3 le102 hF3 hK93 hI93
 have I126 : Inv w111 S102 (Fr) := hI93
 have q163 := hF3.v 29 rfl
 refine ak_ ?_
 obtain rfl := sj h
 exact ⟨(ed3.trans rfl), (vb false), (bo_ rfl q163), _, [], ((le1.trans le2).trans le102), I126, rfl, rfl⟩
end Go.Proofs.YtlpdpeghgndmkaaGreat.Pad
