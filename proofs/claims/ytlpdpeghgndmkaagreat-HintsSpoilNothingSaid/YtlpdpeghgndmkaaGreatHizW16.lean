/- A part of the proof: what the functions of the program compute, shown over the model. -/
import Derived.Test.YtlpdpeghgndmkaaGreatHizP
import Derived.Test.YtlpdpeghgndmkaaGreatHizW4
import Derived.Test.YtlpdpeghgndmkaaGreatHizW12
import Derived.KernelRfl
set_option linter.unusedVariables false
set_option maxHeartbeats 4000000
set_option maxRecDepth 100000
namespace Go.Proofs.YtlpdpeghgndmkaaGreat.Pad
open Go Go.Proofs
theorem kx_ {w : World} {S : PH} {Fr : List HP} {a0 : Riddle} {v0 : Value} {a1 : (List Aid)} {v1 : Value} {a2 : Int} {r : Int} (hI : Inv w S (Fr)) (h0_ : RV S v0 a0) (h1_ : RV S v1 a1) (h : ev_ a0 a1 a2 = some r) :
    Calls Tryz.prog 57 [v0, v1, (Value.int .i64 (a2))].toArray w (cc_ S Fr (Value.int .i64 (r))) := by
 unfold ev_ at h
 obtain ⟨c1, c2, c3, c4, e1, r1, r2, r3, r4⟩ := Riddle.inv h0_
 subst e1
 obtain ⟨z1, m1, k1, rfl⟩ := af_ r1
 obtain ⟨z2, m2, k2, rfl⟩ := af_ r2
 obtain ⟨z3, m3, k3, rfl⟩ := af_ r3
 obtain ⟨z4, m4, k4, rfl⟩ := af_ r4
 obtain ⟨z5, m5, k5, rfl⟩ := af_ h1_
 refine ar_ (n := 21) (vs := [(.agg #[(.slice z1 m1 k1), (.slice z2 m2 k2), (.slice z3 m3 k3), (.slice z4 m4 k4)]), (.slice z5 m5 k5), (vi a2)]) Tryz.func57 rfl rfl rfl (ab_ (aa_ (wo_ (bi_ (v := (.agg #[(.slice z1 m1 k1), (.slice z2 m2 k2), (.slice z3 m3 k3), (.slice z4 m4 k4)])) rfl hI rfl (fun g1 w1 I1 => ?_)))))
 obtain ⟨S1, le1, I2, p1⟩ := Inv.boxFreeze (x := a0) I1 (Riddle.rv (s := a0) r1 r2 r3 r4)
 refine wa_ (v := (vi 0)) rfl rfl (ad_ (ab_ (ab_ (aa_ (wo_ (an_ (v := (pt_ g1)) (e := a0) rfl ii_ rfl (p1.at_ I2) (fun u1 hu1 => ?_)))))))
 obtain ⟨c5, c6, c7, c8, e7, r5, r6, r7, r8⟩ := Riddle.inv hu1
 subst e7
 obtain ⟨z6, m6, k6, rfl⟩ := af_ r5
 obtain ⟨z7, m7, k7, rfl⟩ := af_ r6
 obtain ⟨z8, m8, k8, rfl⟩ := af_ r7
 obtain ⟨z9, m9, k9, rfl⟩ := af_ r8
 refine wm_ (v := (.slice z5 m5 k5)) rfl rfl ?_
 obtain ⟨x1, hx1, h⟩ := bnd h
 refine wo_ (ap_ (vs := [(.agg #[(.slice z6 m6 k6), (.slice z7 m7 k7), (.slice z8 m8 k8), (.slice z9 m9 k9)]), (.slice z5 m5 k5)]) (r := (vi x1)) rfl ca48 rfl (bt_ rfl rfl) I2 (fun Fr_ hF_ => hints_checkPool_ok hF_ (Riddle.rv (s := a0) r5 r6 r7 r8) (h1_.mono le1) hx1) (fun w2 I3 => (wa_ (v := (vi x1)) rfl rfl (ad_ (ab_ (aa_ (wm_ (v := (vi x1)) rfl rfl (wo_ (cd_ (a := x1) (b := 0) rfl rfl rfl (ad_ ?_))))))))))
 rcases ifs h with ⟨hc1, h⟩ | ⟨hc1, h⟩
 ·
  refine ai_ (b := x1 != 0) rfl hc1 (ab_ (aa_ (wm_ (v := (vi x1)) rfl rfl (wa_ (v := (vi x1)) rfl rfl (ad_ (al_ ?_))))))
  obtain rfl := sj h
  exact ⟨rfl, (vi x1), (bq_ rfl rfl), _, [], le1, I3, rfl, rfl⟩
 refine ak_ (b := x1 != 0) rfl hc1 (av_ (ab_ (ab_ (aa_ (wm_ (v := (vi a2)) rfl rfl (wo_ (ac_ (v := (pt_ g1)) rfl eb_ rfl (p1.at_ I3) (wo_ (an_ (v := (ae_ (pt_ g1) 0)) (e := a0.Locks) rfl oe_ rfl ((p1.at_ I3).fld Riddle.fld0) (fun u2 hu2 => ?_))))))))))
 obtain ⟨z10, m10, k10, rfl⟩ := af_ hu2
 refine wo_ (bb_ rfl Tryz.underlying22 rfl hu2 (wo_ (eg_ (a := (a0.Locks.length : Int)) (b := 1) rfl rfl rfl ?_)))
 obtain ⟨x2, hx2, h⟩ := bnd h
 refine wo_ (ap_ (vs := [(vi a2), (vi 0), (vi (w64 ((a0.Locks.length : Int) - 1)))]) (r := (vb x2)) rfl ca51 rfl (cu_ rfl rfl rfl) I3 (fun Fr_ hF_ => br_ hF_  hx2) (fun w3 I4 => (wo_ (bz_ (b := x2) rfl rfl (ad_ ?_)))))
 rcases ifs h with ⟨hc2, h⟩ | ⟨hc2, h⟩
 ·
  refine ai_ (b := !x2) rfl hc2 (ab_ (aa_ (wa_ (v := (vi 1)) rfl rfl (ad_ (al_ ?_)))))
  obtain rfl := sj h
  exact ⟨rfl, (vi 1), (bq_ rfl rfl), _, [], le1, I4, rfl, rfl⟩
 refine ak_ (b := !x2) rfl hc2 (av_ (ab_ (aa_ (wa_ (v := (vi 0)) rfl rfl (ad_ (al_ ?_))))))
 obtain rfl := sj h
 exact ⟨rfl, (vi 0), (bq_ rfl rfl), _, [], le1, I4, rfl, rfl⟩
theorem hints_choices_1_ok {w : World} {S : PH} {Fr : List HP} {σ_ : Type} {τ_ : Type} {R_ : σ_ → HP} {Rx_ : τ_ → HP} {a0 : (Int × Int) → σ_ → Option (σ_ ⊕ τ_)} {v0 : Value} {a1 : (List Aid)} {v1 : Value} {a2 : Int} {v2 : Value} {a3 : Riddle} {v3 : Value} {s_ : σ_} {r : (σ_ ⊕ τ_)} (hI : Inv w S (R_ (s_) :: Fr)) (o0_ : v0.oneCell' = true) (h0_ : Yields argII Tryz.prog S v0 R_ Rx_ a0) (h1_ : PtS S v1 a1) (h2_ : PtS S v2 a2) (h3_ : PtS S v3 a3) (h : eu_ a0 a1 a2 a3 s_ = some r) :
    Calls Tryz.prog 88 [v0, v1, v2, v3].toArray w (ms_ S Fr (fun T_ v_ O_ => v_ = (Value.tuple #[]) ∧ O_ = [Sum.elim R_ Rx_ (r)])) := by
 unfold eu_ at h
 refine ar_ (n := 35) (vs := [v0, v1, v2, v3]) Tryz.func88 rfl rfl rfl (ab_ (aa_ (wo_ (an_ (v := v1) (e := a1) rfl sh45 rfl (h1_.at_ hI) (fun u1 hu1 => ?_)))))
 obtain ⟨z1, m1, k1, rfl⟩ := af_ hu1
 refine wo_ (bb_ rfl Tryz.underlying45 rfl hu1 (wm_ (v := (vi 0)) rfl rfl (ad_ ?_)))
 have hk1 : a1.length ≤ 9223372036854775807 := (ea_ hu1)
 obtain ⟨o2, hrun1, h⟩ := bnd h
 refine bs_ (fun f w => ∃ out1, o2 = Sum.inl out1 ∧ ∃ (S_ : PH), S.Le S_ ∧ Inv w S_ (R_ (out1) :: Fr) ∧ f 0 = v0 ∧ f 2 = v2 ∧ f 3 = v3 ∧ f 9 = (.slice z1 m1 k1) ∧ f 10 = (vi ((a1.length : Int))) ∧ f.ds = []) ?_ ?_
 ·
  refine ax_ ?_
  refine eh_ (I := fun (i1 : Nat) (s4 : (σ_)) (f : Frm) (w : World) => ∃ (S_ : PH), S.Le S_ ∧ Inv w S_ (R_ (s4) :: Fr) ∧ f 0 = v0 ∧ f 2 = v2 ∧ f 3 = v3 ∧ f 9 = (.slice z1 m1 k1) ∧ f 10 = (vi ((a1.length : Int))) ∧ f 11 = (vi (i1 : Int)) ∧ f.ds = []) hrun1 ⟨_, lr, hI, rfl, rfl, rfl, rfl, rfl, rfl, rfl⟩ ?_ ?_
  ·
   rintro i1 s4 f w o1 hlt1 hI1 h1 hout1
   obtain ⟨S6, le6, I19, e41, e42, e43, e44, e45, e46, ed4⟩ := hI1
   refine ab_ (aa_ (wo_ (bg_ (a := (i1 : Int)) (b := (a1.length : Int)) rfl e46 e45 (ad_ (ab_ (ai_ (b := decide ((i1 : Int) < (a1.length : Int))) rfl (gg_ hlt1) (av_ (ab_ (ax_ (ab_ (aa_ (wm_ rfl e46 ?_))))))))))))
   obtain ⟨x10, hx10, h1⟩ := bnd h1
   refine wo_ (aj_ (v := (.slice z1 m1 k1)) (i := (i1 : Int)) (e := x10) rfl Tryz.underlying45 sh32 e44 (hu1.mono le6) e46 hx10 (wo_ (an_ (v := (ah_ (.slice z1 m1 k1) ((i1 : Int)) (Enc.sz Aid))) (e := x10) rfl sh32 rfl ((hu1.mono le6).elem I19.in_ hx10) (fun u8 hu8 => ?_))))
   obtain ⟨c16, e47, r16⟩ := Aid.inv hu8
   subst e47
   obtain ⟨z17, m17, k17, rfl⟩ := af_ r16
   refine wo_ (ca_ (z := (.agg #[(vi 0), (vi 0), (vi 0), (vi 0), (vi 0), (vi 0), (.slice none 0 0), (vb false)])) rfl I19 zo32 (fun g4 w13 (I20 : Inv w13 S6 (ao_ g4 32 #[(vi 0), (vi 0), (vi 0), (vi 0), (vi 0), (vi 0), (.slice none 0 0), (vb false)] :: R_ (s4) :: Fr)) => (wa_ (v := (vi (i1 : Int))) rfl rfl (wo_ (bd_ (v := (.agg #[(vi x10.Lock), (vi x10.Clue.Kind), (vi x10.Clue.A), (vi x10.Clue.B), (vi x10.Clue.N), (vi x10.Clue.M), (.slice z17 m17 k17), (vb x10.Clue.Not)])) (cs := #[(vi 0), (vi 0), (vi 0), (vi 0), (vi 0), (vi 0), (.slice none 0 0), (vb false)]) sh32 I20 rfl rfl rfl nb rfl (fun w14 (I21 : Inv w14 S6 (ao_ g4 32 #[(vi x10.Lock), (vi x10.Clue.Kind), (vi x10.Clue.A), (vi x10.Clue.B), (vi x10.Clue.N), (vi x10.Clue.M), (.slice z17 m17 k17), (vb x10.Clue.Not)] :: R_ (s4) :: Fr)) => (ad_ (ab_ (ab_ (aa_ (wo_ (az_ (v := (pt_ g4)) rfl fa32_0 rfl rfl (wo_ (be_ (c := (vi x10.Lock)) rfl sh3 (I21.nth 0 rfl) rfl rfl (wo_ (ag_ (v := v2) (e := a2) rfl sh3 e42 ((h2_.mono le6).at_ I21) (wo_ (cd_ (a := x10.Lock) (b := a2) rfl rfl rfl (ad_ ?_)))))))))))))))))))
   rcases ifs h1 with ⟨hc7, h1⟩ | ⟨hc7, h1⟩
   ·
    refine ai_ (b := x10.Lock != a2) rfl hc7 (bj_ (aa_ (wo_ (bp_ (a := (i1 : Int)) (b := 1) rfl e46 rfl (wm_ (v := (vi (w64 ((i1 : Int) + 1)))) rfl rfl (ad_ ?_))))))
    obtain rfl := sj h1
    exact ⟨_, rfl, _, le6, (I21).drop, e41, e42, e43, e44, e45, (bl_ hlt1 hk1), ed4⟩
   refine ak_ (b := x10.Lock != a2) rfl hc7 (av_ (ab_ (aa_ (wo_ (an_ (v := v3) (e := a3) rfl ii_ e43 ((h3_.mono le6).at_ I21) (fun u9 hu9 => ?_))))))
   obtain ⟨c17, c18, c19, c20, e49, r17, r18, r19, r20⟩ := Riddle.inv hu9
   subst e49
   obtain ⟨z18, m18, k18, rfl⟩ := af_ r17
   obtain ⟨z19, m19, k19, rfl⟩ := af_ r18
   obtain ⟨z20, m20, k20, rfl⟩ := af_ r19
   obtain ⟨z21, m21, k21, rfl⟩ := af_ r20
   refine wo_ (cz_ (l := [(vi x10.Lock), (vi x10.Clue.Kind), (vi x10.Clue.A), (vi x10.Clue.B), (vi x10.Clue.N), (vi x10.Clue.M), (.slice z17 m17 k17), (vb x10.Clue.Not)]) rfl sh32 (I21.nth 0 rfl) rfl rfl rfl ?_)
   obtain ⟨x11, hx11, h1⟩ := bnd h1
   refine wo_ (ap_ (vs := [(.agg #[(.slice z18 m18 k18), (.slice z19 m19 k19), (.slice z20 m20 k20), (.slice z21 m21 k21)]), (.agg #[(vi x10.Lock), (vi x10.Clue.Kind), (vi x10.Clue.A), (vi x10.Clue.B), (vi x10.Clue.N), (vi x10.Clue.M), (.slice z17 m17 k17), (vb x10.Clue.Not)])]) (r := (Value.tuple #[(vi x11.1), (vb x11.2)])) rfl ca52 rfl (bt_ rfl rfl) I21 (fun Fr_ hF_ => hints_allows_ok hF_ (Riddle.rv (s := a3) r17 r18 r19 r20) (Aid.rv (s := x10) r16) hx11) (fun w15 I22 => (wm_ (v := (Value.tuple #[(vi x11.1), (vb x11.2)])) rfl rfl (wo_ (bc_ (v := (vi x11.1)) rfl rfl rfl (wo_ (bc_ (v := (vb x11.2)) rfl rfl rfl (wa_ (v := (vi x11.1)) rfl rfl (wa_ (v := (vb x11.2)) rfl rfl (ad_ (ab_ (aa_ (wm_ (v := (vb x11.2)) rfl rfl (wm_ (v := (vb x11.2)) rfl rfl ?_))))))))))))))
   rcases ifs h1 with ⟨hc8, h1⟩ | ⟨hc8, h1⟩
   ·
    refine wk_ rfl rfl hc8 (aw_ (v := v0) rfl e41 (wk_ rfl rfl hc8 (aw_ (v := (vi (i1 : Int))) rfl rfl (wk_ rfl rfl hc8 (aw_ (v := (vi x11.1)) rfl rfl ?_)))))
    obtain ⟨x12, hx12, h1⟩ := bnd h1
    refine wk_ rfl rfl hc8 (op_callV (vs := [(vi (i1 : Int)), (vi x11.1)]) rfl rfl (bt_ rfl rfl) (h0_ _ _ _ _ ((i1 : Int), x11.1) _ _ le6 rfl (I22.pull 1) hx12) (fun v4 w16 S7 O4 le7 I23 hv4 => ?_))
    obtain ⟨rfl, rfl⟩ := hv4
    have I24 : Inv w16 S7 (Sum.elim R_ Rx_ (x12) :: ao_ g4 32 #[(vi x10.Lock), (vi x10.Clue.Kind), (vi x10.Clue.A), (vi x10.Clue.B), (vi x10.Clue.N), (vi x10.Clue.M), (Value.slice z17 m17 k17), (vb x10.Clue.Not)] :: Fr) := I23
    refine wk_ rfl rfl hc8 (bz_ (b := x12.isLeft) rfl rfl (wo_ (ay_ (c := x11.2) (a := (vb (!x12.isLeft))) rfl rfl hc8 rfl (ad_ ?_))))
    rcases x12 with s5 | q4
    ·
     have h1 := sm_inl h1
     refine ak_ (b := false) rfl rfl (av_ (aa_ (wo_ (bp_ (a := (i1 : Int)) (b := 1) rfl e46 rfl (wm_ (v := (vi (w64 ((i1 : Int) + 1)))) rfl rfl (ad_ ?_))))))
     obtain rfl := sj h1
     exact ⟨_, rfl, _, (le6.trans le7), (I24.pull 1).drop, e41, e42, e43, e44, e45, (bl_ hlt1 hk1), ed4⟩
    have h1 := sm_inr h1
    refine ai_ (b := true) rfl rfl (al_ ?_)
    obtain rfl := sj h1
    obtain rfl := (hout1 _ rfl)
    have h2 := h
    obtain rfl := sj h2
    exact ⟨ed4, (Value.tuple #[]), (res0 rfl), _, [Rx_ (q4)], (le6.trans le7), (I24.pull 1).drop, rfl, rfl⟩
   refine ws_ rfl rfl hc8 (ws_ rfl rfl hc8 (ws_ rfl rfl hc8 (ws_ rfl rfl hc8 (ws_ rfl rfl hc8 (wo_ (aq_ (c := x11.2) (b := (vb false)) rfl rfl hc8 rfl (ad_ (ak_ (b := false) rfl rfl (av_ (aa_ (wo_ (bp_ (a := (i1 : Int)) (b := 1) rfl e46 rfl (wm_ (v := (vi (w64 ((i1 : Int) + 1)))) rfl rfl (ad_ ?_))))))))))))))
   obtain rfl := sj h1
   exact ⟨_, rfl, _, le6, (I22).drop, e41, e42, e43, e44, e45, (bl_ hlt1 hk1), ed4⟩
  rintro s6 f w hs1 hI2
  obtain ⟨S8, le8, I25, e54, e55, e56, e57, e58, e59, ed5⟩ := hI2
  refine ab_ (aa_ (wo_ (bg_ (a := (a1.length : Int)) (b := (a1.length : Int)) rfl e59 e58 (ad_ (ab_ (ak_ (b := decide ((a1.length : Int) < (a1.length : Int))) rfl (gh_ _) (bj_ ?_)))))))
  exact ⟨s6, hs1, _, le8, I25, e54, e55, e56, e57, e58, ed5⟩
 rintro f w ⟨out1, rfl, S9, le9, I26, e60, e61, e62, e63, e64, ed6⟩
 have h := ds_ h
 obtain rfl := sj h
 exact ⟨ed6, (Value.tuple #[]), (res0 rfl), _, [R_ (out1)], le9, I26, rfl, rfl⟩
theorem hints_choices_ok {w : World} {S : PH} {Fr : List HP} {a0 : Riddle} {v0 : Value} {a1 : (List Aid)} {v1 : Value} {a2 : Int} {r : ((List Aid) × Int × Riddle)} (hI : Inv w S (Fr)) (h0_ : RV S v0 a0) (h1_ : RV S v1 a1) (h : jq_ a0 a1 a2 = some r) :
    Calls Tryz.prog 62 [v0, v1, (Value.int .i64 (a2))].toArray w (ms_ S Fr (fun T_ v_ O_ => ∃ (p0_0 : Value) (p0_1 : Value) (p0_2 : Value), v_ = (Value.func (.func 88) #[] #[p0_0, p0_1, p0_2]) ∧ O_ = [] ∧ PtS T_ p0_0 r.1 ∧ PtS T_ p0_1 r.2.1 ∧ PtS T_ p0_2 r.2.2)) := by
 unfold jq_ at h
 obtain ⟨c1, c2, c3, c4, e1, r1, r2, r3, r4⟩ := Riddle.inv h0_
 subst e1
 obtain ⟨z1, m1, k1, rfl⟩ := af_ r1
 obtain ⟨z2, m2, k2, rfl⟩ := af_ r2
 obtain ⟨z3, m3, k3, rfl⟩ := af_ r3
 obtain ⟨z4, m4, k4, rfl⟩ := af_ r4
 obtain ⟨z5, m5, k5, rfl⟩ := af_ h1_
 refine ar_ (n := 8) (vs := [(.agg #[(.slice z1 m1 k1), (.slice z2 m2 k2), (.slice z3 m3 k3), (.slice z4 m4 k4)]), (.slice z5 m5 k5), (vi a2)]) Tryz.func62 rfl rfl rfl (ab_ (aa_ (wo_ (bi_ (v := (.agg #[(.slice z1 m1 k1), (.slice z2 m2 k2), (.slice z3 m3 k3), (.slice z4 m4 k4)])) rfl hI rfl (fun g1 w1 I1 => ?_)))))
 obtain ⟨S1, le1, I2, p1⟩ := Inv.boxFreeze (x := a0) I1 (Riddle.rv (s := a0) r1 r2 r3 r4)
 refine wo_ (bi_ (v := (.slice z5 m5 k5)) rfl I2 rfl (fun g2 w2 I3 => ?_))
 obtain ⟨S2, le2, I4, p2⟩ := Inv.boxFreeze (x := a1) I3 (h1_.mono le1)
 refine wo_ (bi_ (v := (vi a2)) rfl I4 rfl (fun g3 w3 I5 => ?_))
 obtain ⟨S3, le3, I6, p3⟩ := Inv.boxFreeze (x := a2) I5 (ei_ _)
 refine wa_ (v := (Value.nilFunc)) rfl rfl (ad_ (ab_ (aa_ (wo_ (ck_ (fv := #[]) (cv := #[(pt_ g2), (pt_ g3), (pt_ g1)]) rfl arr0 (arr3 rfl rfl rfl) (wa_ (v := (.func (.func 88) #[] #[(pt_ g2), (pt_ g3), (pt_ g1)])) rfl rfl (ad_ (al_ ?_))))))))
 obtain rfl := sj h
 exact ⟨rfl, (.func (.func 88) #[] #[(pt_ g2), (pt_ g3), (pt_ g1)]), (bq_ rfl rfl), _, [], ((le1.trans le2).trans le3), I6, _, _, _, rfl, rfl, (p2.mono le3), p3, (p1.mono (le2.trans le3))⟩
theorem hints_pick_ok {w : World} {S : PH} {Fr : List HP} {a0 : Riddle} {v0 : Value} {a1 : (List Aid)} {v1 : Value} {a2 : Int} {a3 : Int → Int → Option Bool} {v3 : Value} {r : Int} (hI : Inv w S (Fr)) (h0_ : RV S v0 a0) (h1_ : RV S v1 a1) (h3_ : FnV2 Tryz.prog S v3 a3) (h : ix_ a0 a1 a2 a3 = some r) :
    Calls Tryz.prog 58 [v0, v1, (Value.int .i64 (a2)), v3].toArray w (cc_ S Fr (Value.int .i64 (r))) := by
 unfold ix_ at h
 obtain ⟨c1, c2, c3, c4, e1, r1, r2, r3, r4⟩ := Riddle.inv h0_
 subst e1
 obtain ⟨z1, m1, k1, rfl⟩ := af_ r1
 obtain ⟨z2, m2, k2, rfl⟩ := af_ r2
 obtain ⟨z3, m3, k3, rfl⟩ := af_ r3
 obtain ⟨z4, m4, k4, rfl⟩ := af_ r4
 obtain ⟨z5, m5, k5, rfl⟩ := af_ h1_
 refine jh_ (n := 30) (vs := [(.agg #[(.slice z1 m1 k1), (.slice z2 m2 k2), (.slice z3 m3 k3), (.slice z4 m4 k4)]), (.slice z5 m5 k5), (vi a2), v3]) Tryz.func58 rfl rfl rfl ?_
 have I1 := Inv.noD hI
 refine ab_ (aa_ (wo_ (bi_ (v := (.agg #[(.slice z1 m1 k1), (.slice z2 m2 k2), (.slice z3 m3 k3), (.slice z4 m4 k4)])) rfl I1 rfl (fun g1 w1 I2 => ?_))))
 obtain ⟨S1, le1, I3, p1⟩ := Inv.boxFreeze (x := a0) I2 (Riddle.rv (s := a0) r1 r2 r3 r4)
 refine wo_ (bi_ (v := v3) rfl I3 rfl (fun g2 w2 I4 => ?_))
 obtain ⟨S2, le2, I5, p2⟩ := Inv.boxFreeze (x := (⟨v3⟩ : Raw)) I4 (op_ (h3_.one))
 refine wa_ (v := (vi 0)) rfl rfl (ad_ (ab_ (aa_ (wo_ (ca_ (z := (vi 0)) rfl I5 zo3 (fun g3 w3 (I6 : Inv w3 S2 (ao_ g3 3 #[(vi 0)] :: pf_ ([]) :: Fr)) => (wo_ (ca_ (z := (vi 0)) rfl I6 zo3 (fun g4 w4 (I7 : Inv w4 S2 (ao_ g4 3 #[(vi 0)] :: ao_ g3 3 #[(vi 0)] :: pf_ ([]) :: Fr)) => (wo_ (bd_ (v := (vi ((-1)))) (cs := #[(vi 0)]) sh3 (I7.pull 1) rfl rfl rfl nb rfl (fun w5 (I8 : Inv w5 S2 (ao_ g3 3 #[(vi ((-1)))] :: ao_ g4 3 #[(vi 0)] :: pf_ ([]) :: Fr)) => (wo_ (bd_ (v := (vi 0)) (cs := #[(vi 0)]) sh3 (I8.pull 1) rfl rfl rfl nb rfl (fun w6 (I9 : Inv w6 S2 (ao_ g4 3 #[(vi 0)] :: ao_ g3 3 #[(vi ((-1)))] :: pf_ ([]) :: Fr)) => (ad_ (ab_ (ab_ (aa_ (wo_ (an_ (v := (pt_ g1)) (e := a0) rfl ii_ rfl ((p1.mono le2).at_ I9) (fun u1 hu1 => ?_))))))))))))))))))))))
 obtain ⟨c5, c6, c7, c8, e7, r5, r6, r7, r8⟩ := Riddle.inv hu1
 subst e7
 obtain ⟨z6, m6, k6, rfl⟩ := af_ r5
 obtain ⟨z7, m7, k7, rfl⟩ := af_ r6
 obtain ⟨z8, m8, k8, rfl⟩ := af_ r7
 obtain ⟨z9, m9, k9, rfl⟩ := af_ r8
 refine wm_ (v := (.slice z5 m5 k5)) rfl rfl (wm_ (v := (vi a2)) rfl rfl ?_)
 obtain ⟨x1, hx1, h⟩ := bnd h
 refine wo_ (bo_ (vs := [(.agg #[(.slice z6 m6 k6), (.slice z7 m7 k7), (.slice z8 m8 k8), (.slice z9 m9 k9)]), (.slice z5 m5 k5), (vi a2)]) rfl ca62 rfl (cu_ rfl rfl rfl) (hints_choices_ok I9 (Riddle.rv (s := a0) r5 r6 r7 r8) (h1_.mono (le1.trans le2)) hx1) (fun cv1 w7 S3 O1 le3 I10 hv1 => ?_))
 obtain ⟨p3, p4, p5, rfl, rfl, r9, r10, r11⟩ := hv1
 refine ad_ (ax_ ?_)
 obtain ⟨o2, hrun1, h⟩ := bnd h
 refine wp_range (M := argII) (F := (fun g_ s_ => eu_ g_ x1.1 x1.2.1 x1.2.2 s_)) (fun (s1 : (Int × Int)) => HPof fun S_ L_ => L_ = [ao_ g3 3 #[(vi s1.1)], ao_ g4 3 #[(vi s1.2)]]) (fun e=>by cases e) (fun _ => Code.ret) rfl rfl argII_len ⟨88, [], [p3, p4, p5], rfl, ca88, fun R_ Rx_ g_ T_ w_ Fr_ v_ s_ o_ hle_ ho_ hy_ hI_ h_ => Calls.doneMono (hints_choices_1_ok hI_ ho_ hy_ (r9.mono hle_) (r10.mono hle_) (r11.mono hle_) h_) fun _ _ _ hp_ => hp_.2⟩ (Inv.ofShut (L := [ao_ g3 3 #[(vi ((-1)))], ao_ g4 3 #[(vi 0)]]) rfl (I10.pull 1)) hrun1 ?_ ?_
 ·
  intro l1 rc1 S4 w23 us1 x6 s2 o3 G1 le4 hr1 hn1 hI1 h1
  obtain rfl := hr1
  obtain ⟨S5, L1, le5, rfl, I29⟩ := Inv.ofOpen (hI1.pull 1)
  have I30 : Inv w23 S4 (ao_ g3 3 #[(vi s2.1)] :: ao_ g4 3 #[(vi s2.2)] :: gd_ l1 rc1 :: G1) := I29
  refine ab_ (aa_ (wa_ (v := (vi x6.1)) rfl rfl (ad_ (aa_ (wa_ (v := (vi x6.2)) rfl rfl (ad_ (⟨_, _, lr, (I30.pull 2), fun w24 I31 => ?_⟩)))))))
  refine ax_ (ab_ (aa_ (wo_ (be_ (c := (vi s2.1)) rfl sh3 (I31.nth 1 rfl) rfl rfl (wo_ (bg_ (a := s2.1) (b := 0) rfl rfl rfl (wm_ (v := (vb (decide (s2.1 < 0)))) rfl rfl ?_)))))))
  rcases ifs h1 with ⟨hc7, h1⟩ | ⟨hc7, h1⟩
  ·
   refine ws_ rfl rfl hc7 (ws_ rfl rfl hc7 (ws_ rfl rfl hc7 (ws_ rfl rfl hc7 (wo_ (ay_ (c := decide (s2.1 < 0)) (a := (vb true)) rfl rfl hc7 rfl (ad_ (ai_ (b := true) rfl rfl (aa_ (wm_ (v := (vi x6.1)) rfl rfl (wm_ (v := (vi x6.2)) rfl rfl (wo_ (bd_ (v := (vi x6.1)) (cs := #[(vi s2.1)]) sh3 (I31.pull 1) rfl rfl rfl nb rfl (fun w25 (I32 : Inv w25 S4 (ao_ g3 3 #[(vi x6.1)] :: gd_ l1 { rc1 with state := .busy } :: ao_ g4 3 #[(vi s2.2)] :: G1)) => (wo_ (bd_ (v := (vi x6.2)) (cs := #[(vi s2.2)]) sh3 (I32.pull 2) rfl rfl rfl nb rfl (fun w26 (I33 : Inv w26 S4 (ao_ g4 3 #[(vi x6.2)] :: ao_ g3 3 #[(vi x6.1)] :: gd_ l1 { rc1 with state := .busy } :: G1)) => (ad_ ?_)))))))))))))))))
   obtain rfl := sj h1
   exact ⟨_, _, lr, rfl, (Inv.swap (Inv.ofShut (L := [ao_ g3 3 #[(vi x6.1)], ao_ g4 3 #[(vi x6.2)]]) rfl (((I33.pull 2).pull 1).pull 2)))⟩
  refine wk_ rfl rfl hc7 (an_ (v := (pt_ g2)) (e := (⟨v3⟩ : Raw)) rfl sh90 rfl ((p2.mono (le3.trans le4)).at_ I31) (fun u5 hu5 => ?_))
  have q_hu5 := rv_raw hu5
  subst u5
  refine wk_ rfl rfl hc7 (aw_ (v := (vi x6.2)) rfl rfl (wk_ rfl rfl hc7 (be_ (c := (vi s2.2)) rfl sh3 (I31.nth 2 rfl) rfl rfl ?_)))
  obtain ⟨x7, hx5, h1⟩ := bnd h1
  refine wk_ rfl rfl hc7 (op_call_fn2 (v := v3) (a := x6.2) (b := s2.2) (r := x7) rfl rfl (h3_.mono (((le1.trans le2).trans le3).trans le4)) rfl rfl hx5 I31 (fun w27 I34 => (wo_ (aq_ (c := decide (s2.1 < 0)) (b := (vb x7)) rfl rfl hc7 rfl (ad_ ?_)))))
  rcases ifs h1 with ⟨hc8, h1⟩ | ⟨hc8, h1⟩
  ·
   refine ai_ (b := x7) rfl hc8 (aa_ (wm_ (v := (vi x6.1)) rfl rfl (wm_ (v := (vi x6.2)) rfl rfl (wo_ (bd_ (v := (vi x6.1)) (cs := #[(vi s2.1)]) sh3 (I34.pull 1) rfl rfl rfl nb rfl (fun w28 (I35 : Inv w28 S4 (ao_ g3 3 #[(vi x6.1)] :: gd_ l1 { rc1 with state := .busy } :: ao_ g4 3 #[(vi s2.2)] :: G1)) => (wo_ (bd_ (v := (vi x6.2)) (cs := #[(vi s2.2)]) sh3 (I35.pull 2) rfl rfl rfl nb rfl (fun w29 (I36 : Inv w29 S4 (ao_ g4 3 #[(vi x6.2)] :: ao_ g3 3 #[(vi x6.1)] :: gd_ l1 { rc1 with state := .busy } :: G1)) => (ad_ ?_))))))))))
   obtain rfl := sj h1
   exact ⟨_, _, lr, rfl, (Inv.swap (Inv.ofShut (L := [ao_ g3 3 #[(vi x6.1)], ao_ g4 3 #[(vi x6.2)]]) rfl (((I36.pull 2).pull 1).pull 2)))⟩
  refine ak_ (b := x7) rfl hc8 (av_ ?_)
  obtain rfl := sj h1
  exact ⟨_, _, lr, rfl, (Inv.swap (Inv.ofShut (L := [ao_ g3 3 #[(vi s2.1)], ao_ g4 3 #[(vi s2.2)]]) rfl ((I34.pull 2).pull 2)))⟩
 intro D1 w30 S6 le6 I37
 rcases o2 with s3 | q2
 ·
  obtain ⟨S7, L2, le7, rfl, I38⟩ := Inv.ofOpen I37
  have I39 : Inv w30 S6 (ao_ g3 3 #[(vi s3.1)] :: ao_ g4 3 #[(vi s3.2)] :: Dfr D1 :: pf_ ([]) :: Fr) := I38
  have I40 := Inv.consD ((I39.pull 3).pull 3)
  have h := onE_inl h
  refine ne_ (ab_ (aa_ (wo_ (be_ (c := (vi s3.1)) rfl sh3 (I40.nth 1 rfl) rfl rfl (wa_ (v := (vi s3.1)) rfl rfl (ad_ (al_ (ret_m (mark_ds rfl) I40 (fun w31 I41 => ?_)))))))))
  obtain rfl := sj h
  exact ⟨(vi s3.1), (bq_ rfl rfl), _, [], (((le1.trans le2).trans le3).trans le6), ((I41).drop).drop, rfl, rfl⟩
 cases q2
theorem hints_more_ok {w : World} {S : PH} {Fr : List HP} {a0 : Int} {a1 : Int} {r : Bool} (hI : Inv w S (Fr))  (h : iy_ a0 a1 = some r) :
    Calls Tryz.prog 59 [(Value.int .i64 (a0)), (Value.int .i64 (a1))].toArray w (cc_ S Fr (Value.bool (r))) := by
 unfold iy_ at h
 refine ar_ (n := 8) (vs := [(vi a0), (vi a1)]) Tryz.func59 rfl rfl rfl (ab_ (aa_ (wa_ (v := (vb false)) rfl rfl (ad_ (ab_ (aa_ (wm_ (v := (vi a0)) rfl rfl (wm_ (v := (vi a1)) rfl rfl (wo_ (mq_ (a := a0) (b := a1) rfl rfl rfl (wa_ (v := (vb (decide (a1 < a0)))) rfl rfl (ad_ (al_ ?_)))))))))))))
 obtain rfl := sj h
 exact ⟨rfl, (vb (decide (a1 < a0))), (bq_ rfl rfl), _, [], lr, hI, rfl, rfl⟩
end Go.Proofs.YtlpdpeghgndmkaaGreat.Pad
