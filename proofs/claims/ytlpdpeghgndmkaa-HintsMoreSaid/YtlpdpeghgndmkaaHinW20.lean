/- A part of the proof: what the functions of the program compute, shown over the model. -/
import Derived.Test.YtlpdpeghgndmkaaHinP
import Derived.Test.YtlpdpeghgndmkaaHinW4
import Derived.Test.YtlpdpeghgndmkaaHinW8
import Derived.Test.YtlpdpeghgndmkaaHinW11
import Derived.Test.YtlpdpeghgndmkaaHinW12
import Derived.Test.YtlpdpeghgndmkaaHinW13
import Derived.Test.YtlpdpeghgndmkaaHinW14
import Derived.Test.YtlpdpeghgndmkaaHinW15
import Derived.KernelRfl
set_option linter.unusedVariables false
set_option maxHeartbeats 4000000
set_option maxRecDepth 100000
namespace Go.Proofs.Ytlpdpeghgndmkaa.Pad
open Go Go.Proofs
theorem iw_ {w : World} {S : PH} {Fr : List HP} {a0 : (List Int)} {v0 : Value} {a1 : Int} {r : Bool} (hI : Inv w S (Fr)) (h0_ : RV S v0 a0) (h : gp_ a0 a1 = some r) :
    Calls Try.prog 26 [v0, (Value.int .i64 (a1))].toArray w (ck_ S Fr (Value.bool (r))) := by
 unfold gp_ at h
 obtain ⟨z1, m1, k1, rfl⟩ := af_ h0_
 refine av_ (n := 18) (vs := [(.slice z1 m1 k1), (vi a1)]) Try.func26 rfl rfl rfl (ab_ (aa_ (wa_ (v := (vb false)) rfl rfl (ad_ (ab_ (ab_ (aa_ (wa_ (v := (vi 0)) rfl rfl (ad_ ?_)))))))))
 have hk1 : a0.length ≤ 9223372036854775807 := (eg_ h0_)
 obtain ⟨o2, hrun1, h⟩ := bnd h
 refine bt_ (fun f w => ∃ out1, o2 = Sum.inl out1 ∧ Inv w S (Fr) ∧ f 0 = (.slice z1 m1 k1) ∧ f 1 = (vi a1) ∧ f.ds = []) ?_ ?_
 ·
  refine ax_ ?_
  refine er_ (I := fun (i1 : Nat) (s1 : Unit) (f : Frm) (w : World) => Inv w S (Fr) ∧ f 0 = (.slice z1 m1 k1) ∧ f 1 = (vi a1) ∧ f 5 = (vi (i1 : Int)) ∧ f.ds = []) hrun1 ⟨hI, rfl, rfl, rfl, rfl⟩ ?_ ?_
  ·
   rintro i1 s1 f w o1 hlt1 hI1 h1 hout1
   obtain ⟨I3, e8, e9, e10, ed3⟩ := hI1
   refine ab_ (ab_ (aa_ (wm_ (v := (vi (i1 : Int))) rfl e10 (wm_ (v := (.slice z1 m1 k1)) rfl e8 (wo_ (bb_ rfl Try.underlying28 rfl h0_ (wo_ (bg_ (a := (i1 : Int)) (b := (a0.length : Int)) rfl rfl rfl (ad_ (aj_ (b := decide ((i1 : Int) < (a0.length : Int))) rfl (gc_ hlt1) (au_ (ab_ (ax_ (ab_ (aa_ (wm_ (v := (.slice z1 m1 k1)) rfl e8 (wm_ (v := (vi (i1 : Int))) rfl e10 ?_)))))))))))))))))
   obtain ⟨x3, hx3, h1⟩ := bnd h1
   refine wo_ (ai_ (v := (.slice z1 m1 k1)) (i := (i1 : Int)) (e := x3) rfl Try.underlying28 sh3 rfl h0_ rfl hx3 (wo_ (ag_ (v := (ah_ (.slice z1 m1 k1) ((i1 : Int)) (Enc.sz Int))) (e := x3) rfl sh3 rfl (h0_.elem I3.in_ hx3) (wm_ (v := (vi a1)) rfl e9 (wo_ (bn_ (a := x3) (b := a1) rfl rfl rfl (ad_ ?_)))))))
   rcases ifs h1 with ⟨hc3, h1⟩ | ⟨hc3, h1⟩
   ·
    refine aj_ (b := x3 == a1) rfl hc3 (ab_ (aa_ (wa_ (v := (vb true)) rfl rfl (ad_ (an_ ?_)))))
    obtain rfl := sj h1
    obtain rfl := (hout1 _ rfl)
    have h2 := h
    obtain rfl := sj h2
    exact ⟨ed3, (vb true), (bu_ rfl rfl), _, [], lr, I3, rfl, rfl⟩
   refine al_ (b := x3 == a1) rfl hc3 (au_ (aa_ (wm_ (v := (vi (i1 : Int))) rfl e10 (wo_ (bq_ (a := (i1 : Int)) (b := 1) rfl rfl rfl (wa_ (v := (vi (w64 ((i1 : Int) + 1)))) rfl rfl (ad_ ?_)))))))
   obtain rfl := sj h1
   exact ⟨_, rfl, I3, e8, e9, (bj_ hlt1 hk1), ed3⟩
  rintro s2 f w hs1 hI2
  obtain ⟨I4, e11, e12, e13, ed4⟩ := hI2
  refine ab_ (ab_ (aa_ (wm_ (v := (vi ((a0.length : Int)))) rfl e13 (wm_ (v := (.slice z1 m1 k1)) rfl e11 (wo_ (bb_ rfl Try.underlying28 rfl h0_ (wo_ (bg_ (a := (a0.length : Int)) (b := (a0.length : Int)) rfl rfl rfl (ad_ (al_ (b := decide ((a0.length : Int) < (a0.length : Int))) rfl (gd_ _) (bl_ ?_)))))))))))
  exact ⟨s2, hs1, I4, e11, e12, ed4⟩
 rintro f w ⟨out1, rfl, I5, e14, e15, ed5⟩
 have h := ei_ h
 refine ab_ (aa_ (wa_ (v := (vb false)) rfl rfl (ad_ (an_ ?_))))
 obtain rfl := sj h
 exact ⟨ed5, (vb false), (bu_ rfl rfl), _, [], lr, I5, rfl, rfl⟩
theorem law07_HintsMore_ok {w : World} {S : PH} {Fr : List HP} {a0 : Riddle} {v0 : Value} {a1 : Aid} {v1 : Value} {a2 : Tie} {v2 : Value} {r : Bool} (hI : Inv w S (Fr)) (h0_ : RV S v0 a0) (h1_ : RV S v1 a1) (h2_ : RV S v2 a2) (h : hq_ a0 a1 a2 = some r) :
    Calls Try.prog 6 [v0, v1, v2].toArray w (ck_ S Fr (Value.bool (r))) := by
 unfold hq_ at h
 obtain ⟨c1, c2, c3, c4, e1, r1, r2, r3, r4⟩ := Riddle.inv h0_
 subst e1
 obtain ⟨z1, m1, k1, rfl⟩ := af_ r1
 obtain ⟨z2, m2, k2, rfl⟩ := af_ r2
 obtain ⟨z3, m3, k3, rfl⟩ := af_ r3
 obtain ⟨z4, m4, k4, rfl⟩ := af_ r4
 obtain ⟨c5, e6, r5⟩ := Aid.inv h1_
 subst e6
 obtain ⟨z5, m5, k5, rfl⟩ := af_ r5
 have e8 := Tie.inv h2_
 subst e8
 refine av_ (n := 151) (vs := [(.agg #[(.slice z1 m1 k1), (.slice z2 m2 k2), (.slice z3 m3 k3), (.slice z4 m4 k4)]), (.agg #[(vi a1.Lock), (vi a1.Clue.Kind), (vi a1.Clue.A), (vi a1.Clue.B), (vi a1.Clue.N), (vi a1.Clue.M), (.slice z5 m5 k5), (vb a1.Clue.Not)]), (.agg #[(vi a2.LockA), (vi a2.WheelA), (vi a2.LockB), (vi a2.WheelB)])]) Try.func6 rfl rfl rfl (ab_ (aa_ (wo_ (bo_ (v := (.agg #[(.slice z1 m1 k1), (.slice z2 m2 k2), (.slice z3 m3 k3), (.slice z4 m4 k4)])) rfl hI rfl (fun g1 w1 I1 => ?_)))))
 obtain ⟨S1, le1, I2, p1⟩ := Inv.boxFreeze (x := a0) I1 (Riddle.rv (s := a0) r1 r2 r3 r4)
 refine wo_ (bo_ (v := (.agg #[(vi a1.Lock), (vi a1.Clue.Kind), (vi a1.Clue.A), (vi a1.Clue.B), (vi a1.Clue.N), (vi a1.Clue.M), (.slice z5 m5 k5), (vb a1.Clue.Not)])) rfl I2 rfl (fun g2 w2 I3 => ?_))
 obtain ⟨S2, le2, I4, p2⟩ := Inv.boxFreeze (x := a1) I3 (Aid.rv (s := a1) (r5.mono le1))
 refine wo_ (bo_ (v := (.agg #[(vi a2.LockA), (vi a2.WheelA), (vi a2.LockB), (vi a2.WheelB)])) rfl I4 rfl (fun g3 w3 I5 => ?_))
 obtain ⟨S3, le3, I6, p3⟩ := Inv.boxFreeze (x := a2) I5 (Tie.rv (s := a2))
 refine wa_ (v := (vb false)) rfl rfl (ad_ (ab_ (ab_ (aa_ (wo_ (am_ (v := (pt_ g1)) (e := a0) rfl kb_ rfl ((p1.mono (le2.trans le3)).at_ I6) (fun u1 hu1 => ?_)))))))
 obtain ⟨c6, c7, c8, c9, e9, r6, r7, r8, r9⟩ := Riddle.inv hu1
 subst e9
 obtain ⟨z6, m6, k6, rfl⟩ := af_ r6
 obtain ⟨z7, m7, k7, rfl⟩ := af_ r7
 obtain ⟨z8, m8, k8, rfl⟩ := af_ r8
 obtain ⟨z9, m9, k9, rfl⟩ := af_ r9
 obtain ⟨x1, hx1, h⟩ := bnd h
 refine wo_ (ar_ (vs := [(.agg #[(.slice z6 m6 k6), (.slice z7 m7 k7), (.slice z8 m8 k8), (.slice z9 m9 k9)])]) (r := (vb x1)) rfl ca8 rfl (ew_ rfl) I6 (fun Fr_ hF_ => law07_Large_ok hF_ (Riddle.rv (s := a0) r6 r7 r8 r9) hx1) (fun w4 I7 => (ad_ ?_)))
 rcases ifs h with ⟨hc1, h⟩ | ⟨hc1, h⟩
 ·
  refine aj_ (b := x1) rfl hc1 (ab_ (aa_ ?_))
  obtain ⟨x2, hx2, h⟩ := bnd h
  refine wo_ (ar_ (vs := []) (r := (vb x2)) rfl ca9 rfl args0 I7 (fun Fr_ hF_ => im_ hF_  hx2) (fun w5 I8 => (wa_ (v := (vb x2)) rfl rfl (ad_ (an_ ?_)))))
  obtain rfl := sj h
  exact ⟨rfl, (vb x2), (bu_ rfl rfl), _, [], ((le1.trans le2).trans le3), I8, rfl, rfl⟩
 refine al_ (b := x1) rfl hc1 (au_ (ab_ (aa_ (wo_ (am_ (v := (pt_ g1)) (e := a0) rfl kb_ rfl ((p1.mono (le2.trans le3)).at_ I7) (fun u2 hu2 => ?_))))))
 obtain ⟨c10, c11, c12, c13, e14, r10, r11, r12, r13⟩ := Riddle.inv hu2
 subst e14
 obtain ⟨z10, m10, k10, rfl⟩ := af_ r10
 obtain ⟨z11, m11, k11, rfl⟩ := af_ r11
 obtain ⟨z12, m12, k12, rfl⟩ := af_ r12
 obtain ⟨z13, m13, k13, rfl⟩ := af_ r13
 obtain ⟨x3, hx3, h⟩ := bnd h
 refine wo_ (bm_ (vs := [(.agg #[(.slice z10 m10 k10), (.slice z11 m11 k11), (.slice z12 m12 k12), (.slice z13 m13 k13)])]) rfl ca11 rfl (ew_ rfl) (law07_all_ok I7 (Riddle.rv (s := a0) r10 r11 r12 r13) hx3) (fun cv1 w6 S4 O1 le4 I9 hv1 => ?_))
 obtain ⟨z14, m14, k14, rfl, rfl⟩ := hv1
 refine wm_ (v := (Value.tuple #[(.slice z14 m14 k14), (vb x3.2)])) rfl rfl (wo_ (bd_ (v := (.slice z14 m14 k14)) rfl rfl rfl (wo_ (bd_ (v := (vb x3.2)) rfl rfl rfl (wa_ (v := (.slice z14 m14 k14)) rfl rfl (wa_ (v := (vb x3.2)) rfl rfl (ad_ (ab_ (aa_ (wo_ (am_ (v := (pt_ g1)) (e := a0) rfl kb_ rfl ((p1.mono ((le2.trans le3).trans le4)).at_ I9) (fun u3 hu3 => ?_))))))))))))
 obtain ⟨c14, c15, c16, c17, e19, r14, r15, r16, r17⟩ := Riddle.inv hu3
 subst e19
 obtain ⟨z15, m15, k15, rfl⟩ := af_ r14
 obtain ⟨z16, m16, k16, rfl⟩ := af_ r15
 obtain ⟨z17, m17, k17, rfl⟩ := af_ r16
 obtain ⟨z18, m18, k18, rfl⟩ := af_ r17
 obtain ⟨x4, hx4, h⟩ := bnd h
 refine wo_ (bm_ (vs := [(.agg #[(.slice z15 m15 k15), (.slice z16 m16 k16), (.slice z17 m17 k17), (.slice z18 m18 k18)])]) rfl ca21 rfl (ew_ rfl) (hints_Sure_ok I9 (Riddle.rv (s := a0) r14 r15 r16 r17) hx4) (fun cv2 w7 S5 O2 le5 I10 hv2 => ?_))
 obtain ⟨z19, m19, k19, rfl, rfl⟩ := hv2
 refine wm_ (v := (Value.tuple #[(.slice z19 m19 k19), (vi x4.2)])) rfl rfl (wo_ (bd_ (v := (.slice z19 m19 k19)) rfl rfl rfl (wo_ (bd_ (v := (vi x4.2)) rfl rfl rfl (wa_ (v := (.slice z19 m19 k19)) rfl rfl (wa_ (v := (vi x4.2)) rfl rfl (ad_ (ab_ (ab_ (aa_ (wm_ (v := (vb x3.2)) rfl rfl (wo_ (cd_ (b := x3.2) rfl rfl (wm_ (v := (vb (!x3.2))) rfl rfl ?_))))))))))))))
 rcases ifs h with ⟨hc4, h⟩ | ⟨hc4, h⟩
 ·
  refine ws_ (c := !x3.2) rfl rfl hc4 (ws_ (c := !x3.2) rfl rfl hc4 (wo_ (az_ (c := !x3.2) (a := (vb true)) rfl rfl hc4 rfl (ad_ (aj_ (b := true) rfl rfl (ab_ (aa_ ?_)))))))
  obtain ⟨x7, hx7, h⟩ := bnd h
  refine wo_ (ar_ (vs := []) (r := (vb x7)) rfl ca9 rfl args0 I10 (fun Fr_ hF_ => im_ hF_  hx7) (fun w10 I13 => (wa_ (v := (vb x7)) rfl rfl (ad_ (an_ ?_)))))
  obtain rfl := sj h
  exact ⟨rfl, (vb x7), (bu_ rfl rfl), _, [], ((((le1.trans le2).trans le3).trans le4).trans le5), ((I13).drop).drop, rfl, rfl⟩
 refine wk_ (c := !x3.2) rfl rfl hc4 (ay_ (v := (vi x4.2)) rfl rfl (wk_ (c := !x3.2) rfl rfl hc4 (ci_ (a := x4.2) (b := 0) rfl rfl rfl (wo_ (aq_ (c := !x3.2) (b := (vb (x4.2 != 0))) rfl rfl hc4 rfl (ad_ ?_))))))
 rcases ifs h with ⟨hc5, h⟩ | ⟨hc5, h⟩
 ·
  refine aj_ (b := x4.2 != 0) rfl hc5 (ab_ (aa_ ?_))
  obtain ⟨x8, hx8, h⟩ := bnd h
  refine wo_ (ar_ (vs := []) (r := (vb x8)) rfl ca9 rfl args0 I10 (fun Fr_ hF_ => im_ hF_  hx8) (fun w11 I14 => (wa_ (v := (vb x8)) rfl rfl (ad_ (an_ ?_)))))
  obtain rfl := sj h
  exact ⟨rfl, (vb x8), (bu_ rfl rfl), _, [], ((((le1.trans le2).trans le3).trans le4).trans le5), ((I14).drop).drop, rfl, rfl⟩
 refine al_ (b := x4.2 != 0) rfl hc5 (au_ (ab_ (ab_ (aa_ (wa_ (v := (vi 0)) rfl rfl (ad_ ?_))))))
 have hk1 : a0.Locks.length ≤ 9223372036854775807 := (eg_ r1)
 obtain ⟨o2, hrun1, h⟩ := bnd h
 refine bt_ (fun f w => ∃ out1, o2 = Sum.inl out1 ∧ ∃ (S_ : PH), S5.Le S_ ∧ Inv w S_ (Row (α := (List (List Int))) 23 (.slice z14 m14 k14) (x3.1) :: Row (α := Int) 3 (.slice z19 m19 k19) (x4.1) :: Fr) ∧ f 3 = (pt_ g1) ∧ f 4 = (pt_ g2) ∧ f 5 = (pt_ g3) ∧ f 7 = (.slice z14 m14 k14) ∧ f 9 = (.slice z19 m19 k19) ∧ f.ds = []) ?_ ?_
 ·
  refine ax_ ?_
  refine er_ (I := fun (i1 : Nat) (s1 : Unit) (f : Frm) (w : World) => ∃ (S_ : PH), S5.Le S_ ∧ Inv w S_ (Row (α := (List (List Int))) 23 (.slice z14 m14 k14) (x3.1) :: Row (α := Int) 3 (.slice z19 m19 k19) (x4.1) :: Fr) ∧ f 3 = (pt_ g1) ∧ f 4 = (pt_ g2) ∧ f 5 = (pt_ g3) ∧ f 7 = (.slice z14 m14 k14) ∧ f 9 = (.slice z19 m19 k19) ∧ f 11 = (vi (i1 : Int)) ∧ f.ds = []) hrun1 ⟨_, lr, (I10.pull 1), rfl, rfl, rfl, rfl, rfl, rfl, rfl⟩ ?_ ?_
  ·
   rintro i1 s1 f w o1 hlt1 hI217 h2 hout1
   obtain ⟨S269, le269, I300, e125, e126, e127, e128, e129, e130, ed13⟩ := hI217
   refine ab_ (ab_ (aa_ (wm_ (v := (vi (i1 : Int))) rfl e130 (wo_ (ac_ (v := (pt_ g1)) rfl dp_ e125 ((p1.mono ((((le2.trans le3).trans le4).trans le5).trans le269)).at_ I300) (wo_ (am_ (v := (ae_ (pt_ g1) 0)) (e := a0.Locks) rfl mz_ rfl (((p1.mono ((((le2.trans le3).trans le4).trans le5).trans le269)).at_ I300).fld Riddle.fld0) (fun u25 hu25 => ?_))))))))
   obtain ⟨z50, m50, k50, rfl⟩ := af_ hu25
   refine wo_ (bb_ rfl Try.underlying22 rfl hu25 (wo_ (bg_ (a := (i1 : Int)) (b := (a0.Locks.length : Int)) rfl rfl rfl (ad_ (aj_ (b := decide ((i1 : Int) < (a0.Locks.length : Int))) rfl (gc_ hlt1) (au_ (ab_ (ax_ (ab_ (aa_ (wo_ (am_ (v := (pt_ g1)) (e := a0) rfl kb_ e125 ((p1.mono ((((le2.trans le3).trans le4).trans le5).trans le269)).at_ I300) (fun u26 hu26 => ?_)))))))))))))
   obtain ⟨c30, c31, c32, c33, e133, r54, r55, r56, r57⟩ := Riddle.inv hu26
   subst e133
   obtain ⟨z51, m51, k51, rfl⟩ := af_ r54
   obtain ⟨z52, m52, k52, rfl⟩ := af_ r55
   obtain ⟨z53, m53, k53, rfl⟩ := af_ r56
   obtain ⟨z54, m54, k54, rfl⟩ := af_ r57
   refine wm_ (v := (vi (i1 : Int))) rfl e130 ?_
   obtain ⟨x18, hx18, h2⟩ := bnd h2
   refine wo_ (bm_ (vs := [(.agg #[(.slice z51 m51 k51), (.slice z52 m52 k52), (.slice z53 m53 k53), (.slice z54 m54 k54)]), (vi (i1 : Int))]) rfl ca24 rfl (bv_ rfl rfl) (hints_Secret_ok I300 (Riddle.rv (s := a0) r54 r55 r56 r57) hx18) (fun cv27 w253 S270 O27 le270 I301 hv27 => ?_))
   obtain ⟨z55, m55, k55, rfl, rfl⟩ := hv27
   refine wm_ (v := (Value.tuple #[(.slice z55 m55 k55), (vi x18.2)])) rfl rfl (wo_ (bd_ (v := (.slice z55 m55 k55)) rfl rfl rfl (wo_ (bd_ (v := (vi x18.2)) rfl rfl rfl (wa_ (v := (.slice z55 m55 k55)) rfl rfl (wa_ (v := (vi x18.2)) rfl rfl (ad_ (ab_ ?_))))))))
   rcases ifs h2 with ⟨hc15, h2⟩ | ⟨hc15, h2⟩
   ·
    refine bp_ (sps := [spV 52 [] 0 (vi x18.2), spV 53 [0] 1 (vb (x18.2 != 0)), spV 54 [0, 1] 2 (vb (x18.2 != 0)), spV 55 [0, 1, 2] 3 undef, spV 56 [0, 1, 2, 3] 4 undef, spV 57 [0, 1, 2, 3, 4] 5 undef, spV 58 [0, 1, 2] 6 undef, spV 59 [0, 1, 2] 7 undef, spV 60 [0, 1, 2, 6, 7] 8 undef, spV 61 (lrg 9) 9 undef, spV 62 (lrg 10) 10 (vb true), spV 63 (lrg 11) 11 (vb true), spV 64 (lrg 12) 12 undef, spV 65 (lrg 12) 13 undef, spV 66 (lrg 14) 14 undef, spV 67 (lrg 15) 15 undef, spV 68 (lrg 16) 16 undef, spV 69 (lrg 17) 17 undef, spV 70 (lrg 12) 18 undef, spV 71 (lrg 12) 19 undef, spV 72 (lrg 12 ++ [18, 19]) 20 undef, spV 73 (lrg 21) 21 undef, spV 74 (lrg 22) 22 (vb true)]) (tks := []) (O := Row (α := Int) 3 (.slice z55 m55 k55) (x18.1) :: Row (α := (List (List Int))) 23 (.slice z14 m14 k14) (x3.1) :: Row (α := Int) 3 (.slice z19 m19 k19) (x4.1) :: Fr) rfl (by kernel_rfl) I301 ⟨?_, ?_, ?_, ?_, ?_, ?_, ?_, ?_, ?_, ?_, ?_, ?_, ?_, ?_, ?_, ?_, ?_, ?_, ?_, ?_, ?_, ?_, ?_, trivial⟩ ?_
    · exact fun vs f w U X l A K I => pl_ rfl (ay_ (v := (vi x18.2)) rfl (K 13 (ak_ rfl)) (fn rfl rfl I))
    · exact fun vs f w U X l A K I => pl_ rfl (ci_ (a := x18.2) (b := 0) rfl (A.u 0 rfl rfl rfl) rfl (fn rfl rfl I))
    · exact fun vs f w U X l A K I => pl_ rfl (ay_ (v := (vb (x18.2 != 0))) rfl (A.u 1 rfl rfl rfl) (fn rfl rfl I))
    · exact fun vs f w U X l A K I => sk_ (c := x18.2 != 0) rfl (A.u 2 rfl rfl rfl) hc15 (fn rfl rfl I)
    · exact fun vs f w U X l A K I => sk_ (c := x18.2 != 0) rfl (A.u 2 rfl rfl rfl) hc15 (fn rfl rfl I)
    · exact fun vs f w U X l A K I => sk_ (c := x18.2 != 0) rfl (A.u 2 rfl rfl rfl) hc15 (fn rfl rfl I)
    · exact fun vs f w U X l A K I => sk_ (c := x18.2 != 0) rfl (A.u 2 rfl rfl rfl) hc15 (fn rfl rfl I)
    · exact fun vs f w U X l A K I => sk_ (c := x18.2 != 0) rfl (A.u 2 rfl rfl rfl) hc15 (fn rfl rfl I)
    · exact fun vs f w U X l A K I => sk_ (c := x18.2 != 0) rfl (A.u 2 rfl rfl rfl) hc15 (fn rfl rfl I)
    · exact fun vs f w U X l A K I => sk_ (c := x18.2 != 0) rfl (A.u 2 rfl rfl rfl) hc15 (fn rfl rfl I)
    · exact fun vs f w U X l A K I => pl_ rfl (az_ (c := x18.2 != 0) (a := (vb true)) rfl (A.u 2 rfl rfl rfl) hc15 rfl (fn rfl rfl I))
    · exact fun vs f w U X l A K I => pl_ rfl (ay_ (v := (vb true)) rfl (A.u 10 rfl rfl rfl) (fn rfl rfl I))
    · exact fun vs f w U X l A K I => sk_ (c := true) rfl (A.u 11 rfl rfl rfl) rfl (fn rfl rfl I)
    · exact fun vs f w U X l A K I => sk_ (c := true) rfl (A.u 11 rfl rfl rfl) rfl (fn rfl rfl I)
    · exact fun vs f w U X l A K I => sk_ (c := true) rfl (A.u 11 rfl rfl rfl) rfl (fn rfl rfl I)
    · exact fun vs f w U X l A K I => sk_ (c := true) rfl (A.u 11 rfl rfl rfl) rfl (fn rfl rfl I)
    · exact fun vs f w U X l A K I => sk_ (c := true) rfl (A.u 11 rfl rfl rfl) rfl (fn rfl rfl I)
    · exact fun vs f w U X l A K I => sk_ (c := true) rfl (A.u 11 rfl rfl rfl) rfl (fn rfl rfl I)
    · exact fun vs f w U X l A K I => sk_ (c := true) rfl (A.u 11 rfl rfl rfl) rfl (fn rfl rfl I)
    · exact fun vs f w U X l A K I => sk_ (c := true) rfl (A.u 11 rfl rfl rfl) rfl (fn rfl rfl I)
    · exact fun vs f w U X l A K I => sk_ (c := true) rfl (A.u 11 rfl rfl rfl) rfl (fn rfl rfl I)
    · exact fun vs f w U X l A K I => sk_ (c := true) rfl (A.u 11 rfl rfl rfl) rfl (fn rfl rfl I)
    ·
     intro vs f w_ U X le A K I
     refine pl_ rfl (az_ (c := true) (a := (vb true)) rfl (A.u 11 rfl rfl rfl) rfl rfl (fn rfl rfl I))
    intro vs240 f w277 S294 ed14 le294 hF10 hK240 hI241
    have e138 : f 3 = (Value.pointer (some ⟨g1, 0, none⟩)) := (hK240 3 (ap_ rfl)).trans e125
    have e139 : f 4 = (Value.pointer (some ⟨g2, 0, none⟩)) := (hK240 4 (ap_ rfl)).trans e126
    have e140 : f 5 = (Value.pointer (some ⟨g3, 0, none⟩)) := (hK240 5 (ap_ rfl)).trans e127
    have e141 : f 7 = (Value.slice z14 m14 k14) := (hK240 7 (ap_ rfl)).trans e128
    have e142 : f 9 = (Value.slice z19 m19 k19) := (hK240 9 (ap_ rfl)).trans e129
    have e143 : f 11 = (Value.int .i64 ((i1 : Int))) := (hK240 11 (ap_ rfl)).trans e130
    have I325 : Inv w277 S294 (Row (α := Int) 3 (Value.slice z55 m55 k55) (x18.1) :: Row (α := (List (List Int))) 23 (Value.slice z14 m14 k14) (x3.1) :: Row (α := Int) 3 (Value.slice z19 m19 k19) (x4.1) :: Fr) := hI241
    have q400 := hF10.u 22 rfl rfl rfl
    refine aj_ (b := true) q400 rfl (ab_ (aa_ (wa_ (v := (vb false)) rfl rfl (ad_ (an_ ?_)))))
    obtain rfl := sj h2
    obtain rfl := (hout1 _ rfl)
    have h3 := h
    obtain rfl := sj h3
    exact ⟨(ed14.trans ed13), (vb false), (bu_ rfl rfl), _, [], (((((((le1.trans le2).trans le3).trans le4).trans le5).trans le269).trans le270).trans le294), (((I325).drop).drop).drop, rfl, rfl⟩
   obtain ⟨x19, hx19, h2⟩ := bnd h2
   rcases ifs h2 with ⟨hc16, h2⟩ | ⟨hc16, h2⟩
   ·
    refine bp_ (sps := [spV 52 [] 0 (vi x18.2), spV 53 [0] 1 (vb (x18.2 != 0)), spV 54 [0, 1] 2 (vb (x18.2 != 0)), spV 55 [0, 1, 2] 3 (.slice z55 m55 k55), ⟨some 56, [0, 1, 2, 3], [4], fun vs_ T_ => fr0 vs_ 0 = (vi ((x18.1.length : Int))), [0], [], [], fun _ h_ => h_⟩, spV 57 [0, 1, 2, 3, 4] 5 (vb ((x18.1.length : Int) == 0)), spV 58 [0, 1, 2] 6 (.slice z19 m19 k19), spV 59 [0, 1, 2] 7 (vi (i1 : Int)), ⟨some 60, [0, 1, 2, 6, 7], [8], fun vs_ T_ => fr0 vs_ 0 = (vb x19), [1], [], [], fun _ h_ => h_⟩, spV 61 (lrg 9) 9 (vb (((x18.1.length : Int) == 0) != x19)), spV 62 (lrg 10) 10 (vb (((x18.1.length : Int) == 0) != x19)), spV 63 (lrg 11) 11 (vb (((x18.1.length : Int) == 0) != x19)), spV 64 (lrg 12) 12 undef, spV 65 (lrg 12) 13 undef, spV 66 (lrg 14) 14 undef, spV 67 (lrg 15) 15 undef, spV 68 (lrg 16) 16 undef, spV 69 (lrg 17) 17 undef, spV 70 (lrg 12) 18 undef, spV 71 (lrg 12) 19 undef, spV 72 (lrg 12 ++ [18, 19]) 20 undef, spV 73 (lrg 21) 21 undef, spV 74 (lrg 22) 22 (vb true)]) (tks := [⟨none, none, [], fun vs_ => Row (α := Int) 3 (.slice z55 m55 k55) (x18.1)⟩, ⟨none, none, [], fun vs_ => Row (α := Int) 3 (.slice z19 m19 k19) (x4.1)⟩]) (O := Row (α := (List (List Int))) 23 (.slice z14 m14 k14) (x3.1) :: Fr) rfl (by kernel_rfl) ((I301.pull 2).pull 1) ⟨?_, ?_, ?_, ?_, ?_, ?_, ?_, ?_, ?_, ?_, ?_, ?_, ?_, ?_, ?_, ?_, ?_, ?_, ?_, ?_, ?_, ?_, ?_, trivial⟩ ?_
    · exact fun vs f w U X l A K I => pl_ rfl (ay_ (v := (vi x18.2)) rfl (K 13 (ak_ rfl)) (fn rfl rfl I))
    · exact fun vs f w U X l A K I => pl_ rfl (ci_ (a := x18.2) (b := 0) rfl (A.u 0 rfl rfl rfl) rfl (fn rfl rfl I))
    · exact fun vs f w U X l A K I => pl_ rfl (ay_ (v := (vb (x18.2 != 0))) rfl (A.u 1 rfl rfl rfl) (fn rfl rfl I))
    · exact fun vs f w U X l A K I => tk_ (c := x18.2 != 0) rfl (A.u 2 rfl rfl rfl) hc15 (ay_ (v := (.slice z55 m55 k55)) rfl (K 12 (ak_ rfl)) (fn rfl rfl I))
    ·
     intro vs f w_ U X le A K I
     have I336 : Inv w_ U (Row (α := Int) 3 (Value.slice z55 m55 k55) (x18.1) :: X) := I
     refine tk_ (c := x18.2 != 0) rfl (A.u 2 rfl rfl rfl) hc15 (et_ (α := Int) rfl Try.underlying28 (A.u 3 rfl rfl rfl) (I336.nth 0 rfl) (fn rfl rfl I336))
    · exact fun vs f w U X l A K I => tk_ (c := x18.2 != 0) rfl (A.u 2 rfl rfl rfl) hc15 (bn_ (a := (x18.1.length : Int)) (b := 0) rfl (A.u 4 rfl rfl rfl) rfl (fn rfl rfl I))
    · exact fun vs f w U X l A K I => tk_ (c := x18.2 != 0) rfl (A.u 2 rfl rfl rfl) hc15 (ay_ (v := (.slice z19 m19 k19)) rfl ((K 9 (ak_ rfl)).trans e129) (fn rfl rfl I))
    · exact fun vs f w U X l A K I => tk_ (c := x18.2 != 0) rfl (A.u 2 rfl rfl rfl) hc15 (ay_ (v := (vi (i1 : Int))) rfl ((K 11 (ak_ rfl)).trans e130) (fn rfl rfl I))
    ·
     intro vs f w_ U X le A K I
     have I340 : Inv w_ U (Row (α := Int) 3 (Value.slice z19 m19 k19) (x4.1) :: X) := I
     have q410 := A.u 2 rfl rfl rfl
     have q411 := A.u 3 rfl rfl rfl
     have q412 := A.u 4 rfl rfl rfl
     obtain ⟨S308, Fr24, le308, I341, r60, bk24⟩ := Inv.lend1 I340
     refine tk_ (c := x18.2 != 0) rfl q410 hc15 (bm_ (vs := [(.slice z19 m19 k19), (vi (i1 : Int))]) rfl ca26 rfl (bv_ q411 q412) (iw_ I341 r60 hx19) (fun cv30 w289 S309 O30 le309 I343 hv30 => ?_))
     obtain ⟨rfl, rfl⟩ := hv30
     have I342 := bk24 [] trivial I343 le309
     refine ⟨_, _, rfl, lr, ?_, ?_⟩
     · exact rfl
     exact I342
    · exact fun vs f w U X l A K I => tk_ (c := x18.2 != 0) rfl (A.u 2 rfl rfl rfl) hc15 (ig_ (a := (x18.1.length : Int) == 0) (b := x19) rfl Try.underlying4 (A.u 5 rfl rfl rfl) (A.u 8 rfl rfl rfl) (fn rfl rfl I))
    · exact fun vs f w U X l A K I => pl_ rfl (aq_ (c := x18.2 != 0) (b := (vb (((x18.1.length : Int) == 0) != x19))) rfl (A.u 2 rfl rfl rfl) hc15 (A.u 9 rfl rfl rfl) (fn rfl rfl I))
    · exact fun vs f w U X l A K I => pl_ rfl (ay_ (v := (vb (((x18.1.length : Int) == 0) != x19))) rfl (A.u 10 rfl rfl rfl) (fn rfl rfl I))
    · exact fun vs f w U X l A K I => sk_ (c := ((x18.1.length : Int) == 0) != x19) rfl (A.u 11 rfl rfl rfl) hc16 (fn rfl rfl I)
    · exact fun vs f w U X l A K I => sk_ (c := ((x18.1.length : Int) == 0) != x19) rfl (A.u 11 rfl rfl rfl) hc16 (fn rfl rfl I)
    · exact fun vs f w U X l A K I => sk_ (c := ((x18.1.length : Int) == 0) != x19) rfl (A.u 11 rfl rfl rfl) hc16 (fn rfl rfl I)
    · exact fun vs f w U X l A K I => sk_ (c := ((x18.1.length : Int) == 0) != x19) rfl (A.u 11 rfl rfl rfl) hc16 (fn rfl rfl I)
    · exact fun vs f w U X l A K I => sk_ (c := ((x18.1.length : Int) == 0) != x19) rfl (A.u 11 rfl rfl rfl) hc16 (fn rfl rfl I)
    · exact fun vs f w U X l A K I => sk_ (c := ((x18.1.length : Int) == 0) != x19) rfl (A.u 11 rfl rfl rfl) hc16 (fn rfl rfl I)
    · exact fun vs f w U X l A K I => sk_ (c := ((x18.1.length : Int) == 0) != x19) rfl (A.u 11 rfl rfl rfl) hc16 (fn rfl rfl I)
    · exact fun vs f w U X l A K I => sk_ (c := ((x18.1.length : Int) == 0) != x19) rfl (A.u 11 rfl rfl rfl) hc16 (fn rfl rfl I)
    · exact fun vs f w U X l A K I => sk_ (c := ((x18.1.length : Int) == 0) != x19) rfl (A.u 11 rfl rfl rfl) hc16 (fn rfl rfl I)
    · exact fun vs f w U X l A K I => sk_ (c := ((x18.1.length : Int) == 0) != x19) rfl (A.u 11 rfl rfl rfl) hc16 (fn rfl rfl I)
    ·
     intro vs f w_ U X le A K I
     refine pl_ rfl (az_ (c := ((x18.1.length : Int) == 0) != x19) (a := (vb true)) rfl (A.u 11 rfl rfl rfl) hc16 rfl (fn rfl rfl I))
    intro vs264 f w304 S324 ed15 le324 hF11 hK264 hI265
    have e144 : f 3 = (Value.pointer (some ⟨g1, 0, none⟩)) := (hK264 3 (ap_ rfl)).trans e125
    have e145 : f 4 = (Value.pointer (some ⟨g2, 0, none⟩)) := (hK264 4 (ap_ rfl)).trans e126
    have e146 : f 5 = (Value.pointer (some ⟨g3, 0, none⟩)) := (hK264 5 (ap_ rfl)).trans e127
    have e147 : f 7 = (Value.slice z14 m14 k14) := (hK264 7 (ap_ rfl)).trans e128
    have e148 : f 9 = (Value.slice z19 m19 k19) := (hK264 9 (ap_ rfl)).trans e129
    have e149 : f 11 = (Value.int .i64 ((i1 : Int))) := (hK264 11 (ap_ rfl)).trans e130
    have I358 : Inv w304 S324 (Row (α := Int) 3 (Value.slice z55 m55 k55) (x18.1) :: Row (α := Int) 3 (Value.slice z19 m19 k19) (x4.1) :: Row (α := (List (List Int))) 23 (Value.slice z14 m14 k14) (x3.1) :: Fr) := hI265
    have q440 := hF11.u 22 rfl rfl rfl
    refine aj_ (b := true) q440 rfl (ab_ (aa_ (wa_ (v := (vb false)) rfl rfl (ad_ (an_ ?_)))))
    obtain rfl := sj h2
    obtain rfl := (hout1 _ rfl)
    have h3 := h
    obtain rfl := sj h3
    exact ⟨(ed15.trans ed13), (vb false), (bu_ rfl rfl), _, [], (((((((le1.trans le2).trans le3).trans le4).trans le5).trans le269).trans le270).trans le324), (((I358).drop).drop).drop, rfl, rfl⟩
   obtain ⟨x20, hx20, h2⟩ := bnd h2
   refine bp_ (sps := [spV 52 [] 0 (vi x18.2), spV 53 [0] 1 (vb (x18.2 != 0)), spV 54 [0, 1] 2 (vb (x18.2 != 0)), spV 55 [0, 1, 2] 3 (.slice z55 m55 k55), ⟨some 56, [0, 1, 2, 3], [4], fun vs_ T_ => fr0 vs_ 0 = (vi ((x18.1.length : Int))), [0], [], [], fun _ h_ => h_⟩, spV 57 [0, 1, 2, 3, 4] 5 (vb ((x18.1.length : Int) == 0)), spV 58 [0, 1, 2] 6 (.slice z19 m19 k19), spV 59 [0, 1, 2] 7 (vi (i1 : Int)), ⟨some 60, [0, 1, 2, 6, 7], [8], fun vs_ T_ => fr0 vs_ 0 = (vb x19), [1], [], [], fun _ h_ => h_⟩, spV 61 (lrg 9) 9 (vb (((x18.1.length : Int) == 0) != x19)), spV 62 (lrg 10) 10 (vb (((x18.1.length : Int) == 0) != x19)), spV 63 (lrg 11) 11 (vb (((x18.1.length : Int) == 0) != x19)), spV 64 (lrg 12) 12 (.slice z14 m14 k14), spV 65 (lrg 12) 13 (vi (i1 : Int)), ⟨some 66, (lrg 14), [14], fun vs_ T_ => fr0 vs_ 0 = (ah_ (.slice z14 m14 k14) ((i1 : Int)) (Enc.sz (List (List Int)))), [2], [], [], fun _ h_ => h_⟩, ⟨some 67, (lrg 15), [15], fun vs_ T_ => RV T_ (fr0 vs_ 0) x20, [2], [], [], fun hle_ h_ => h_.mono hle_⟩, spV 68 (lrg 16) 16 (vi ((x20.length : Int))), spV 69 (lrg 17) 17 (vb ((x20.length : Int) == 1)), spV 70 (lrg 12) 18 (.slice z19 m19 k19), spV 71 (lrg 12) 19 (vi (i1 : Int)), ⟨some 72, (lrg 12 ++ [18, 19]), [20], fun vs_ T_ => fr0 vs_ 0 = (vb x19), [1], [], [], fun _ h_ => h_⟩, spV 73 (lrg 21) 21 (vb (((x20.length : Int) == 1) != x19)), spV 74 (lrg 22) 22 (vb (((x20.length : Int) == 1) != x19))]) (tks := [⟨none, none, [], fun vs_ => Row (α := Int) 3 (.slice z55 m55 k55) (x18.1)⟩, ⟨none, none, [], fun vs_ => Row (α := Int) 3 (.slice z19 m19 k19) (x4.1)⟩, ⟨none, none, [], fun vs_ => Row (α := (List (List Int))) 23 (.slice z14 m14 k14) (x3.1)⟩]) (O := Fr) rfl (by kernel_rfl) (((I301.pull 1).pull 2).pull 2) ⟨?_, ?_, ?_, ?_, ?_, ?_, ?_, ?_, ?_, ?_, ?_, ?_, ?_, ?_, ?_, ?_, ?_, ?_, ?_, ?_, ?_, ?_, ?_, trivial⟩ ?_
   · exact fun vs f w U X l A K I => pl_ rfl (ay_ (v := (vi x18.2)) rfl (K 13 (ak_ rfl)) (fn rfl rfl I))
   · exact fun vs f w U X l A K I => pl_ rfl (ci_ (a := x18.2) (b := 0) rfl (A.u 0 rfl rfl rfl) rfl (fn rfl rfl I))
   · exact fun vs f w U X l A K I => pl_ rfl (ay_ (v := (vb (x18.2 != 0))) rfl (A.u 1 rfl rfl rfl) (fn rfl rfl I))
   · exact fun vs f w U X l A K I => tk_ (c := x18.2 != 0) rfl (A.u 2 rfl rfl rfl) hc15 (ay_ (v := (.slice z55 m55 k55)) rfl (K 12 (ak_ rfl)) (fn rfl rfl I))
   ·
    intro vs f w_ U X le A K I
    have I369 : Inv w_ U (Row (α := Int) 3 (Value.slice z55 m55 k55) (x18.1) :: X) := I
    refine tk_ (c := x18.2 != 0) rfl (A.u 2 rfl rfl rfl) hc15 (et_ (α := Int) rfl Try.underlying28 (A.u 3 rfl rfl rfl) (I369.nth 0 rfl) (fn rfl rfl I369))
   · exact fun vs f w U X l A K I => tk_ (c := x18.2 != 0) rfl (A.u 2 rfl rfl rfl) hc15 (bn_ (a := (x18.1.length : Int)) (b := 0) rfl (A.u 4 rfl rfl rfl) rfl (fn rfl rfl I))
   · exact fun vs f w U X l A K I => tk_ (c := x18.2 != 0) rfl (A.u 2 rfl rfl rfl) hc15 (ay_ (v := (.slice z19 m19 k19)) rfl ((K 9 (ak_ rfl)).trans e129) (fn rfl rfl I))
   · exact fun vs f w U X l A K I => tk_ (c := x18.2 != 0) rfl (A.u 2 rfl rfl rfl) hc15 (ay_ (v := (vi (i1 : Int))) rfl ((K 11 (ak_ rfl)).trans e130) (fn rfl rfl I))
   ·
    intro vs f w_ U X le A K I
    have I373 : Inv w_ U (Row (α := Int) 3 (Value.slice z19 m19 k19) (x4.1) :: X) := I
    have q450 := A.u 2 rfl rfl rfl
    have q451 := A.u 3 rfl rfl rfl
    have q452 := A.u 4 rfl rfl rfl
    obtain ⟨S338, Fr27, le338, I374, r63, bk27⟩ := Inv.lend1 I373
    refine tk_ (c := x18.2 != 0) rfl q450 hc15 (bm_ (vs := [(.slice z19 m19 k19), (vi (i1 : Int))]) rfl ca26 rfl (bv_ q451 q452) (iw_ I374 r63 hx19) (fun cv33 w316 S339 O33 le339 I376 hv33 => ?_))
    obtain ⟨rfl, rfl⟩ := hv33
    have I375 := bk27 [] trivial I376 le339
    refine ⟨_, _, rfl, lr, ?_, ?_⟩
    · exact rfl
    exact I375
   · exact fun vs f w U X l A K I => tk_ (c := x18.2 != 0) rfl (A.u 2 rfl rfl rfl) hc15 (ig_ (a := (x18.1.length : Int) == 0) (b := x19) rfl Try.underlying4 (A.u 5 rfl rfl rfl) (A.u 8 rfl rfl rfl) (fn rfl rfl I))
   · exact fun vs f w U X l A K I => pl_ rfl (aq_ (c := x18.2 != 0) (b := (vb (((x18.1.length : Int) == 0) != x19))) rfl (A.u 2 rfl rfl rfl) hc15 (A.u 9 rfl rfl rfl) (fn rfl rfl I))
   · exact fun vs f w U X l A K I => pl_ rfl (ay_ (v := (vb (((x18.1.length : Int) == 0) != x19))) rfl (A.u 10 rfl rfl rfl) (fn rfl rfl I))
   · exact fun vs f w U X l A K I => tk_ (c := ((x18.1.length : Int) == 0) != x19) rfl (A.u 11 rfl rfl rfl) hc16 (ay_ (v := (.slice z14 m14 k14)) rfl ((K 7 (ak_ rfl)).trans e128) (fn rfl rfl I))
   · exact fun vs f w U X l A K I => tk_ (c := ((x18.1.length : Int) == 0) != x19) rfl (A.u 11 rfl rfl rfl) hc16 (ay_ (v := (vi (i1 : Int))) rfl ((K 11 (ak_ rfl)).trans e130) (fn rfl rfl I))
   ·
    intro vs f w_ U X le A K I
    have I382 : Inv w_ U (Row (α := (List (List Int))) 23 (Value.slice z14 m14 k14) (x3.1) :: X) := I
    refine tk_ (c := ((x18.1.length : Int) == 0) != x19) rfl (A.u 11 rfl rfl rfl) hc16 (be_ (v := (.slice z14 m14 k14)) (i := (i1 : Int)) (e := x20) rfl Try.underlying38 je_ (A.u 12 rfl rfl rfl) (Inv.rowSrc (I382.nth 0 rfl)) (A.u 13 rfl rfl rfl) hx20 (fn rfl rfl I382))
   ·
    intro vs f w_ U X le A K I
    have I383 : Inv w_ U (Row (α := (List (List Int))) 23 (Value.slice z14 m14 k14) (x3.1) :: X) := I
    have q464 := A.u 11 rfl rfl rfl
    have q465 := A.u 14 rfl rfl rfl
    refine tk_ (c := ((x18.1.length : Int) == 0) != x19) rfl q464 hc16 (am_ (v := (ah_ (.slice z14 m14 k14) ((i1 : Int)) (Enc.sz (List (List Int))))) (e := x20) rfl je_ q465 ((I383.nth 0 rfl).rowElem hx20) (fun u28 hu28 => ?_))
    obtain ⟨z56, m56, k56, rfl⟩ := af_ hu28
    refine ⟨_, _, rfl, lr, ?_, ?_⟩
    · exact hu28
    exact I383
   ·
    intro vs f w_ U X le A K I
    have q467 : f 67 = vs 15 := (A.at_ 15 rfl _ rfl).1 _ rfl
    have r64 : RV U (vs 15) x20 := (A.at_ 15 rfl _ rfl).2
    obtain ⟨u29, hu29⟩ : ∃ u, vs 15 = u := ⟨_, rfl⟩
    rw [hu29] at q467 r64
    obtain ⟨z57, m57, k57, rfl⟩ := af_ r64
    refine tk_ (c := ((x18.1.length : Int) == 0) != x19) rfl (A.u 11 rfl rfl rfl) hc16 (bb_ rfl Try.underlying23 q467 r64 (fn rfl rfl I))
   · exact fun vs f w U X l A K I => tk_ (c := ((x18.1.length : Int) == 0) != x19) rfl (A.u 11 rfl rfl rfl) hc16 (bn_ (a := (x20.length : Int)) (b := 1) rfl (A.u 16 rfl rfl rfl) rfl (fn rfl rfl I))
   · exact fun vs f w U X l A K I => tk_ (c := ((x18.1.length : Int) == 0) != x19) rfl (A.u 11 rfl rfl rfl) hc16 (ay_ (v := (.slice z19 m19 k19)) rfl ((K 9 (ak_ rfl)).trans e129) (fn rfl rfl I))
   · exact fun vs f w U X l A K I => tk_ (c := ((x18.1.length : Int) == 0) != x19) rfl (A.u 11 rfl rfl rfl) hc16 (ay_ (v := (vi (i1 : Int))) rfl ((K 11 (ak_ rfl)).trans e130) (fn rfl rfl I))
   ·
    intro vs f w_ U X le A K I
    have I388 : Inv w_ U (Row (α := Int) 3 (Value.slice z19 m19 k19) (x4.1) :: X) := I
    have q472 := A.u 11 rfl rfl rfl
    have q473 := A.u 12 rfl rfl rfl
    have q474 := A.u 13 rfl rfl rfl
    obtain ⟨S352, Fr28, le352, I389, r65, bk28⟩ := Inv.lend1 I388
    refine tk_ (c := ((x18.1.length : Int) == 0) != x19) rfl q472 hc16 (bm_ (vs := [(.slice z19 m19 k19), (vi (i1 : Int))]) rfl ca26 rfl (bv_ q473 q474) (iw_ I389 r65 hx19) (fun cv34 w329 S353 O34 le353 I391 hv34 => ?_))
    obtain ⟨rfl, rfl⟩ := hv34
    have I390 := bk28 [] trivial I391 le353
    refine ⟨_, _, rfl, lr, ?_, ?_⟩
    · exact rfl
    exact I390
   · exact fun vs f w U X l A K I => tk_ (c := ((x18.1.length : Int) == 0) != x19) rfl (A.u 11 rfl rfl rfl) hc16 (ig_ (a := (x20.length : Int) == 1) (b := x19) rfl Try.underlying4 (A.u 17 rfl rfl rfl) (A.u 20 rfl rfl rfl) (fn rfl rfl I))
   ·
    intro vs f w_ U X le A K I
    refine pl_ rfl (aq_ (c := ((x18.1.length : Int) == 0) != x19) (b := (vb (((x20.length : Int) == 1) != x19))) rfl (A.u 11 rfl rfl rfl) hc16 (A.u 21 rfl rfl rfl) (fn rfl rfl I))
   intro vs288 f w332 S356 ed16 le356 hF12 hK288 hI289
   have e152 : f 3 = (Value.pointer (some ⟨g1, 0, none⟩)) := (hK288 3 (ap_ rfl)).trans e125
   have e153 : f 4 = (Value.pointer (some ⟨g2, 0, none⟩)) := (hK288 4 (ap_ rfl)).trans e126
   have e154 : f 5 = (Value.pointer (some ⟨g3, 0, none⟩)) := (hK288 5 (ap_ rfl)).trans e127
   have e155 : f 7 = (Value.slice z14 m14 k14) := (hK288 7 (ap_ rfl)).trans e128
   have e156 : f 9 = (Value.slice z19 m19 k19) := (hK288 9 (ap_ rfl)).trans e129
   have e157 : f 11 = (Value.int .i64 ((i1 : Int))) := (hK288 11 (ap_ rfl)).trans e130
   have I394 : Inv w332 S356 (Row (α := Int) 3 (Value.slice z55 m55 k55) (x18.1) :: Row (α := Int) 3 (Value.slice z19 m19 k19) (x4.1) :: Row (α := (List (List Int))) 23 (Value.slice z14 m14 k14) (x3.1) :: Fr) := hI289
   have q480 := hF12.u 22 rfl rfl rfl
   rcases ifs h2 with ⟨hc17, h2⟩ | ⟨hc17, h2⟩
   ·
    refine aj_ (b := ((x20.length : Int) == 1) != x19) q480 hc17 (ab_ (aa_ (wa_ (v := (vb false)) rfl rfl (ad_ (an_ ?_)))))
    obtain rfl := sj h2
    obtain rfl := (hout1 _ rfl)
    have h3 := h
    obtain rfl := sj h3
    exact ⟨(ed16.trans ed13), (vb false), (bu_ rfl rfl), _, [], (((((((le1.trans le2).trans le3).trans le4).trans le5).trans le269).trans le270).trans le356), (((I394).drop).drop).drop, rfl, rfl⟩
   refine al_ (b := ((x20.length : Int) == 1) != x19) q480 hc17 (au_ (aa_ (wm_ (v := (vi (i1 : Int))) rfl e157 (wo_ (bq_ (a := (i1 : Int)) (b := 1) rfl rfl rfl (wa_ (v := (vi (w64 ((i1 : Int) + 1)))) rfl rfl (ad_ ?_)))))))
   obtain rfl := sj h2
   exact ⟨_, rfl, _, ((le269.trans le270).trans le356), ((I394).drop.pull 1), e152, e153, e154, e155, e156, (bj_ hlt1 hk1), (ed16.trans ed13)⟩
  rintro s2 f w hs1 hI290
  obtain ⟨S357, le357, I395, e158, e159, e160, e161, e162, e163, ed17⟩ := hI290
  refine ab_ (ab_ (aa_ (wm_ (v := (vi ((a0.Locks.length : Int)))) rfl e163 (wo_ (ac_ (v := (pt_ g1)) rfl dp_ e158 ((p1.mono ((((le2.trans le3).trans le4).trans le5).trans le357)).at_ I395) (wo_ (am_ (v := (ae_ (pt_ g1) 0)) (e := a0.Locks) rfl mz_ rfl (((p1.mono ((((le2.trans le3).trans le4).trans le5).trans le357)).at_ I395).fld Riddle.fld0) (fun u31 hu31 => ?_))))))))
  obtain ⟨z59, m59, k59, rfl⟩ := af_ hu31
  refine wo_ (bb_ rfl Try.underlying22 rfl hu31 (wo_ (bg_ (a := (a0.Locks.length : Int)) (b := (a0.Locks.length : Int)) rfl rfl rfl (ad_ (al_ (b := decide ((a0.Locks.length : Int) < (a0.Locks.length : Int))) rfl (gd_ _) (bl_ ?_))))))
  exact ⟨s2, hs1, _, le357, ((I395.pull 1).pull 1), e158, e159, e160, e161, e162, ed17⟩
 rintro f w ⟨out1, rfl, S358, le358, I396, e166, e167, e168, e169, e170, ed18⟩
 have h := ei_ h
 refine ab_ (aa_ (wo_ (am_ (v := (pt_ g1)) (e := a0) rfl kb_ e166 ((p1.mono ((((le2.trans le3).trans le4).trans le5).trans le358)).at_ I396) (fun u32 hu32 => ?_))))
 obtain ⟨c34, c35, c36, c37, e171, r66, r67, r68, r69⟩ := Riddle.inv hu32
 subst e171
 obtain ⟨z60, m60, k60, rfl⟩ := af_ r66
 obtain ⟨z61, m61, k61, rfl⟩ := af_ r67
 obtain ⟨z62, m62, k62, rfl⟩ := af_ r68
 obtain ⟨z63, m63, k63, rfl⟩ := af_ r69
 refine wo_ (am_ (v := (pt_ g2)) (e := a1) rfl sh32 e167 ((p2.mono (((le3.trans le4).trans le5).trans le358)).at_ I396) (fun u33 hu33 => ?_))
 obtain ⟨c38, e176, r70⟩ := Aid.inv hu33
 subst e176
 obtain ⟨z64, m64, k64, rfl⟩ := af_ r70
 obtain ⟨x21, hx21, h⟩ := bnd h
 refine wo_ (bm_ (vs := [(.agg #[(.slice z60 m60 k60), (.slice z61 m61 k61), (.slice z62 m62 k62), (.slice z63 m63 k63)]), (.agg #[(vi a1.Lock), (vi a1.Clue.Kind), (vi a1.Clue.A), (vi a1.Clue.B), (vi a1.Clue.N), (vi a1.Clue.M), (.slice z64 m64 k64), (vb a1.Clue.Not)])]) rfl ca14 rfl (bv_ rfl rfl) (hints_Tell_ok I396 (Riddle.rv (s := a0) r66 r67 r68 r69) (Aid.rv (s := a1) r70) hx21) (fun cv35 w333 S359 O35 le359 I397 hv35 => ?_))
 obtain ⟨c39, rfl, rfl, r71⟩ := hv35
 obtain ⟨c40, c41, c42, c43, e178, r72, r73, r74, r75⟩ := Riddle.inv r71
 subst e178
 obtain ⟨z65, m65, k65, rfl⟩ := af_ r72
 obtain ⟨z66, m66, k66, rfl⟩ := af_ r73
 obtain ⟨z67, m67, k67, rfl⟩ := af_ r74
 obtain ⟨z68, m68, k68, rfl⟩ := af_ r75
 refine wm_ (v := (Value.tuple #[(.agg #[(.slice z65 m65 k65), (.slice z66 m66 k66), (.slice z67 m67 k67), (.slice z68 m68 k68)]), (vi x21.2)])) rfl rfl (wo_ (bd_ (v := (.agg #[(.slice z65 m65 k65), (.slice z66 m66 k66), (.slice z67 m67 k67), (.slice z68 m68 k68)])) rfl rfl rfl (wo_ (bd_ (v := (vi x21.2)) rfl rfl rfl (wo_ (cb_ (z := (.agg #[(.slice none 0 0), (.slice none 0 0), (.slice none 0 0), (.slice none 0 0)])) rfl I397 zo27 (fun g4 w334 (I398 : Inv w334 S359 (ao_ g4 27 #[(.slice none 0 0), (.slice none 0 0), (.slice none 0 0), (.slice none 0 0)] :: Row (α := (List (List Int))) 23 (.slice z14 m14 k14) (x3.1) :: Row (α := Int) 3 (.slice z19 m19 k19) (x4.1) :: Fr)) => (wo_ (bc_ (v := (.agg #[(.slice z65 m65 k65), (.slice z66 m66 k66), (.slice z67 m67 k67), (.slice z68 m68 k68)])) (cs := #[(.slice none 0 0), (.slice none 0 0), (.slice none 0 0), (.slice none 0 0)]) kb_ I398 rfl rfl rfl (Nat.le_of_ble_eq_true rfl) rfl (fun w335 (I399 : Inv w335 S359 (ao_ g4 27 #[(.slice z65 m65 k65), (.slice z66 m66 k66), (.slice z67 m67 k67), (.slice z68 m68 k68)] :: Row (α := (List (List Int))) 23 (.slice z14 m14 k14) (x3.1) :: Row (α := Int) 3 (.slice z19 m19 k19) (x4.1) :: Fr)) => (wa_ (v := (vi x21.2)) rfl rfl (ad_ ?_))))))))))))
 obtain ⟨v1, h5, h⟩ := bnd h
 refine kw_ (fun f w => ∃ (z73 : Option Addr) (m73 k73 : Nat) (z74 : Option Addr) (m74 k74 : Nat) (z75 : Option Addr) (m75 k75 : Nat) (z76 : Option Addr) (m76 k76 : Nat), Inv w S359 (Row (α := (List (List Int))) 23 (.slice z14 m14 k14) (x3.1) :: Row (α := Int) 3 (.slice z19 m19 k19) (x4.1) :: ao_ g4 27 #[(.slice z73 m73 k73), (.slice z74 m74 k74), (.slice z75 m75 k75), (.slice z76 m76 k76)] :: Fr) ∧ f 3 = (pt_ g1) ∧ f 5 = (pt_ g3) ∧ f 7 = (.slice z14 m14 k14) ∧ f 9 = (.slice z19 m19 k19) ∧ f 14 = (pt_ g4) ∧ RV S359 (.slice z73 m73 k73) v1.1 ∧ RV S359 (.slice z74 m74 k74) v1.2.1 ∧ RV S359 (.slice z75 m75 k75) v1.2.2.1 ∧ RV S359 (.slice z76 m76 k76) v1.2.2.2 ∧ f.ds = []) ?_ ?_
 ·
  refine ab_ (aa_ (wm_ (v := (vi x21.2)) rfl rfl (wo_ (ci_ (a := x21.2) (b := 0) rfl rfl rfl (ad_ ?_)))))
  rcases ifs h5 with ⟨hc19, h5⟩ | ⟨hc19, h5⟩
  ·
   refine aj_ (b := x21.2 != 0) rfl hc19 (aa_ (wo_ (am_ (v := (pt_ g1)) (e := a0) rfl kb_ e166 ((p1.mono (((((le2.trans le3).trans le4).trans le5).trans le358).trans le359)).at_ I399) (fun u35 hu35 => ?_))))
   obtain ⟨c48, c49, c50, c51, e188, r84, r85, r86, r87⟩ := Riddle.inv hu35
   subst e188
   obtain ⟨z77, m77, k77, rfl⟩ := af_ r84
   obtain ⟨z78, m78, k78, rfl⟩ := af_ r85
   obtain ⟨z79, m79, k79, rfl⟩ := af_ r86
   obtain ⟨z80, m80, k80, rfl⟩ := af_ r87
   refine wo_ (bc_ (v := (.agg #[(.slice z77 m77 k77), (.slice z78 m78 k78), (.slice z79 m79 k79), (.slice z80 m80 k80)])) (cs := #[(.slice z65 m65 k65), (.slice z66 m66 k66), (.slice z67 m67 k67), (.slice z68 m68 k68)]) kb_ I399 rfl rfl rfl (Nat.le_of_ble_eq_true rfl) rfl (fun w337 (I401 : Inv w337 S359 (ao_ g4 27 #[(.slice z77 m77 k77), (.slice z78 m78 k78), (.slice z79 m79 k79), (.slice z80 m80 k80)] :: Row (α := (List (List Int))) 23 (.slice z14 m14 k14) (x3.1) :: Row (α := Int) 3 (.slice z19 m19 k19) (x4.1) :: Fr)) => (ad_ ?_)))
   obtain rfl := sj h5
   exact ⟨_, _, _, _, _, _, _, _, _, _, _, _, ((I401.pull 2).pull 2), e166, e168, e169, e170, rfl, r84, r85, r86, r87, ed18⟩
  refine al_ (b := x21.2 != 0) rfl hc19 (au_ ?_)
  obtain rfl := sj h5
  exact ⟨_, _, _, _, _, _, _, _, _, _, _, _, ((I399.pull 2).pull 2), e166, e168, e169, e170, rfl, r72, r73, r74, r75, ed18⟩
 rintro f w ⟨z73, m73, k73, z74, m74, k74, z75, m75, k75, z76, m76, k76, I402, e193, e194, e195, e196, e197, r80, r81, r82, r83, ed19⟩
 refine ab_ ?_
 obtain ⟨x22, hx22, h⟩ := bnd h
 obtain ⟨x23, hx23, h⟩ := bnd h
 refine bp_ (sps := [spV 84 [] 0 (.pointer (some ⟨g4, 3, none⟩)), ⟨some 85, [0], [1], fun vs_ T_ => fr0 vs_ 0 = (.slice z76 m76 k76), [0], [], [], fun _ h_ => h_⟩, ⟨some 86, [0, 1], [2], fun vs_ T_ => ∃ a_ n_ k_, fr0 vs_ 0 = Value.slice a_ n_ k_, [], [], [1], fun _ h_ => h_⟩, spV 87 [] 3 (.agg #[(vi a2.LockA), (vi a2.WheelA), (vi a2.LockB), (vi a2.WheelB)]), ⟨some 88, [3], [4], fun vs_ T_ => ∃ a_ n_ k_, fr0 vs_ 0 = Value.slice a_ n_ k_, [], [], [2], fun _ h_ => h_⟩, ⟨some 89, [0, 1, 2, 3, 4], [5], fun vs_ T_ => ∃ a_ n_ k_, fr0 vs_ 0 = Value.slice a_ n_ k_, [2], [1], [3], fun _ h_ => h_⟩, spV 90 (lrg 6) 6 (.pointer (some ⟨g4, 3, none⟩)), ⟨none, (lrg 7), [], fun vs_ T_ => True, [3], [0], [4], fun _ h_ => h_⟩]) (tks := [⟨none, some 7, [], fun vs_ => ao_ g4 27 #[(.slice z73 m73 k73), (.slice z74 m74 k74), (.slice z75 m75 k75), (.slice z76 m76 k76)]⟩, ⟨some 2, some 5, [2], fun vs_ => Row (α := Tie) 58 (fr0 vs_ 0) (x22)⟩, ⟨some 4, none, [4], fun vs_ => Row (α := Tie) 58 (fr0 vs_ 0) (([a2] : List Tie))⟩, ⟨some 5, none, [5], fun vs_ => Row (α := Tie) 58 (fr0 vs_ 0) (x23)⟩, ⟨some 7, none, [5], fun vs_ => ao_ g4 27 #[(.slice z73 m73 k73), (.slice z74 m74 k74), (.slice z75 m75 k75), (fr0 vs_ 0)]⟩]) (O := Row (α := (List (List Int))) 23 (.slice z14 m14 k14) (x3.1) :: Row (α := Int) 3 (.slice z19 m19 k19) (x4.1) :: Fr) rfl (by kernel_rfl) (I402.pull 2) ⟨?_, ?_, ?_, ?_, ?_, ?_, ?_, ?_, trivial⟩ ?_
 · exact fun vs f w U X l A K I => pl_ rfl (aw_ (v := (pt_ g4)) rfl lz_ ((K 14 (ak_ rfl)).trans e197) rfl (fn rfl rfl I))
 ·
  intro vs f w_ U X le A K I
  have I409 : Inv w_ U (ao_ g4 27 #[(Value.slice z73 m73 k73), (Value.slice z74 m74 k74), (Value.slice z75 m75 k75), (Value.slice z76 m76 k76)] :: X) := I
  refine pl_ rfl (bf_ (c := (.slice z76 m76 k76)) rfl sh25 (I409.nth 0 rfl) (A.u 0 rfl rfl rfl) rfl (fn rfl rfl I409))
 ·
  intro vs f w_ U X le A K I
  have q482 := A.u 1 rfl rfl rfl
  have I411 := Inv.rowNil (α := Tie) (T := 58) I
  refine pl_ rfl (dd_ (α := Tie) (v := (.slice none 0 0)) (u := (.slice z76 m76 k76)) rfl rfl Try.underlying25 el58 (by decide) (by decide) rfl q482 I411 ((r83.mono le).src I411.in_) hx22 (fun u40 w345 I412 => ?_))
  obtain ⟨z81, m81, k81, e198⟩ := bi_ I412
  subst e198
  refine ⟨_, _, rfl, lr, ?_, ?_⟩
  · exact ⟨_, _, _, rfl⟩
  exact I412
 ·
  intro vs f w_ U X le A K I
  refine pl_ rfl (am_ (v := (pt_ g3)) (e := a2) rfl sh58 ((K 5 (ak_ rfl)).trans e194) ((p3.mono ((((le4.trans le5).trans le358).trans le359).trans le)).at_ I) (fun u41 hu37 => ?_))
  have e199 := Tie.inv hu37
  subst e199
  refine ⟨_, _, rfl, lr, ?_, ?_⟩
  · exact rfl
  exact I
 ·
  intro vs f w_ U X le A K I
  have q483 := A.u 0 rfl rfl rfl
  refine pl_ rfl (bh_ (vs := [(.agg #[(vi a2.LockA), (vi a2.WheelA), (vi a2.LockB), (vi a2.WheelB)])]) (r := ([a2] : List Tie)) rfl Try.underlying25 el58 (hl_ q483) rfl (by decide) (by decide) ⟨(Tie.rv (s := a2)), trivial⟩ I (fun u42 w348 I415 => ?_))
  obtain ⟨z82, m82, k82, e200⟩ := bi_ I415
  subst e200
  refine ⟨_, _, rfl, lr, ?_, ?_⟩
  · exact ⟨_, _, _, rfl⟩
  exact I415
 ·
  intro vs f w_ U X le A K I
  have I416 : Inv w_ U (Row (α := Tie) 58 (vs 2) (x22) :: Row (α := Tie) 58 (vs 4) (([a2] : List Tie)) :: X) := I
  obtain ⟨z83, m83, k83, e201⟩ := (A.at_ 2 rfl _ rfl).2
  have q484 : f 86 = Value.slice z83 m83 k83 := ((A.at_ 2 rfl _ rfl).1 _ rfl).trans e201
  have e201 : vs 2 = (Value.slice z83 m83 k83) := e201
  have I417 := I416
  rw [e201] at I417
  obtain ⟨z84, m84, k84, e202⟩ := (A.at_ 4 rfl _ rfl).2
  have q485 : f 88 = Value.slice z84 m84 k84 := ((A.at_ 4 rfl _ rfl).1 _ rfl).trans e202
  have e202 : vs 4 = (Value.slice z84 m84 k84) := e202
  have I418 := I417
  rw [e202] at I418
  refine pl_ rfl (dd_ (α := Tie) (v := (.slice z83 m83 k83)) (u := (.slice z84 m84 k84)) rfl rfl Try.underlying25 el58 (by decide) (by decide) q484 q485 I418 (Inv.rowSrc (I418.nth 1 rfl)) hx23 (fun u43 w350 I419 => ?_))
  obtain ⟨z85, m85, k85, e203⟩ := bi_ I419
  subst e203
  refine ⟨_, _, rfl, lr, ?_, ?_⟩
  · exact ⟨_, _, _, rfl⟩
  show Inv _ _ (Row (α := Tie) 58 ((Value.slice z85 m85 k85)) (x23) :: Row (α := Tie) 58 (vs 4) (([a2] : List Tie)) :: X)
  simp only [e202]
  exact ((I419.pull 1).pull 1)
 · exact fun vs f w U X l A K I => pl_ rfl (aw_ (v := (pt_ g4)) rfl lz_ ((K 14 (ak_ rfl)).trans e197) rfl (fn rfl rfl I))
 ·
  intro vs f w_ U X le A K I
  have I421 : Inv w_ U (ao_ g4 27 #[(Value.slice z73 m73 k73), (Value.slice z74 m74 k74), (Value.slice z75 m75 k75), (Value.slice z76 m76 k76)] :: Row (α := Tie) 58 (vs 5) (x23) :: X) := I
  obtain ⟨z86, m86, k86, e204⟩ := (A.at_ 5 rfl _ rfl).2
  have q486 : f 89 = Value.slice z86 m86 k86 := ((A.at_ 5 rfl _ rfl).1 _ rfl).trans e204
  have e204 : vs 5 = (Value.slice z86 m86 k86) := e204
  have I422 := I421
  rw [e204] at I422
  have q487 := A.u 6 rfl rfl rfl
  refine pl_ rfl (bc_ (v := (.slice z86 m86 k86)) (cs := #[(.slice z73 m73 k73), (.slice z74 m74 k74), (.slice z75 m75 k75), (.slice z76 m76 k76)]) sh25 I422 q487 q486 rfl (Nat.le_of_ble_eq_true rfl) rfl (fun w353 (I423 : Inv w353 U (ao_ g4 27 #[(.slice z73 m73 k73), (.slice z74 m74 k74), (.slice z75 m75 k75), (.slice z86 m86 k86)] :: Row (α := Tie) 58 (.slice z86 m86 k86) (x23) :: X)) => (⟨undef, _, rfl, lr, ?_, ?_⟩)))
  · exact trivial
  show Inv _ _ (ao_ g4 27 #[(Value.slice z73 m73 k73), (Value.slice z74 m74 k74), (Value.slice z75 m75 k75), (vs 5)] :: Row (α := Tie) 58 (vs 5) (x23) :: X)
  simp only [e204]
  exact ((I423.pull 1).pull 1)
 intro vs297 f w354 S368 ed20 le368 hF13 hK297 hI299
 have e205 : f 3 = (Value.pointer (some ⟨g1, 0, none⟩)) := (hK297 3 (ap_ rfl)).trans e193
 have e206 : f 7 = (Value.slice z14 m14 k14) := (hK297 7 (ap_ rfl)).trans e195
 have e207 : f 9 = (Value.slice z19 m19 k19) := (hK297 9 (ap_ rfl)).trans e196
 have e208 : f 14 = (Value.pointer (some ⟨g4, 0, none⟩)) := (hK297 14 (ap_ rfl)).trans e197
 have I424 : Inv w354 S368 (Row (α := Tie) 58 (vs297 4) (([a2] : List Tie)) :: Row (α := Tie) 58 (vs297 5) (x23) :: ao_ g4 27 #[(Value.slice z73 m73 k73), (Value.slice z74 m74 k74), (Value.slice z75 m75 k75), (vs297 5)] :: Row (α := (List (List Int))) 23 (Value.slice z14 m14 k14) (x3.1) :: Row (α := Int) 3 (Value.slice z19 m19 k19) (x4.1) :: Fr) := hI299
 obtain ⟨z87, m87, k87, e209⟩ := (hF13.at_ 4 rfl _ rfl).2
 have q488 : f 88 = Value.slice z87 m87 k87 := ((hF13.at_ 4 rfl _ rfl).1 _ rfl).trans e209
 have e209 : vs297 4 = (Value.slice z87 m87 k87) := e209
 have I425 := I424
 rw [e209] at I425
 obtain ⟨z88, m88, k88, e210⟩ := (hF13.at_ 5 rfl _ rfl).2
 have q489 : f 89 = Value.slice z88 m88 k88 := ((hF13.at_ 5 rfl _ rfl).1 _ rfl).trans e210
 have e210 : vs297 5 = (Value.slice z88 m88 k88) := e210
 have I426 := I425
 rw [e210] at I426
 obtain ⟨v2, h8, h⟩ := bnd h
 refine kw_ (fun f w => ∃ (S_ : PH) (z90 : Option Addr) (m90 k90 : Nat), S368.Le S_ ∧ Inv w S_ (Row (α := (List (List Int))) 23 (.slice z14 m14 k14) (x3.1) :: Row (α := Int) 3 (.slice z19 m19 k19) (x4.1) :: ao_ g4 27 #[(.slice z73 m73 k73), (.slice z74 m74 k74), (.slice z75 m75 k75), (.slice z90 m90 k90)] :: Fr) ∧ f 7 = (.slice z14 m14 k14) ∧ f 9 = (.slice z19 m19 k19) ∧ f 14 = (pt_ g4) ∧ RV S_ (.slice z90 m90 k90) v2 ∧ f.ds = []) ?_ ?_
 ·
  refine ab_ (aa_ (wo_ (en_ (l := [(.slice z73 m73 k73), (.slice z74 m74 k74), (.slice z75 m75 k75), (.slice z88 m88 k88)]) rfl kb_ (I426.nth 2 rfl) e208 rfl rfl ?_)))
  obtain ⟨x25, hx25, h8⟩ := bnd h8
  obtain ⟨S371, Fr30, le371, I431, r90, bk30⟩ := Inv.lend1 (I426.pull 1)
  refine wo_ (bm_ (vs := [(.agg #[(.slice z73 m73 k73), (.slice z74 m74 k74), (.slice z75 m75 k75), (.slice z88 m88 k88)])]) rfl ca13 rfl (ew_ rfl) (nl_ I431 (Riddle.rv (s := (⟨v1.1, v1.2.1, v1.2.2.1, x23⟩ : Riddle)) (r80.mono (le368.trans le371)) (r81.mono (le368.trans le371)) (r82.mono (le368.trans le371)) r90) hx25) (fun cv37 w357 S372 O37 le372 I433 hv37 => ?_))
  obtain ⟨rfl, rfl⟩ := hv37
  have I432 := bk30 [] trivial I433 le372
  refine wo_ (ci_ (a := x25) (b := 0) rfl rfl rfl (ad_ ?_))
  rcases ifs h8 with ⟨hc21, h8⟩ | ⟨hc21, h8⟩
  ·
   refine aj_ (b := x25 != 0) rfl hc21 (aa_ (wo_ (ac_ (v := (pt_ g1)) rfl lz_ e205 ((p1.mono ((((((le2.trans le3).trans le4).trans le5).trans le358).trans le359).trans le368)).at_ I432) (wo_ (am_ (v := (ae_ (pt_ g1) 3)) (e := a0.Ties) rfl sh25 rfl (((p1.mono ((((((le2.trans le3).trans le4).trans le5).trans le358).trans le359).trans le368)).at_ I432).fld Riddle.fld3) (fun u45 hu39 => ?_))))))
   obtain ⟨z91, m91, k91, rfl⟩ := af_ hu39
   refine wo_ (aw_ (v := (pt_ g4)) rfl lz_ e208 rfl (wo_ (bc_ (v := (.slice z91 m91 k91)) (cs := #[(.slice z73 m73 k73), (.slice z74 m74 k74), (.slice z75 m75 k75), (.slice z88 m88 k88)]) sh25 (I432.pull 2) rfl rfl rfl (Nat.le_of_ble_eq_true rfl) rfl (fun w358 (I434 : Inv w358 S368 (ao_ g4 27 #[(.slice z73 m73 k73), (.slice z74 m74 k74), (.slice z75 m75 k75), (.slice z91 m91 k91)] :: Row (α := Tie) 58 (.slice z88 m88 k88) (x23) :: Row (α := Tie) 58 (.slice z87 m87 k87) (([a2] : List Tie)) :: Row (α := (List (List Int))) 23 (.slice z14 m14 k14) (x3.1) :: Row (α := Int) 3 (.slice z19 m19 k19) (x4.1) :: Fr)) => (ad_ ?_)))))
   obtain rfl := sj h8
   exact ⟨_, _, _, _, lr, ((((I434.pull 1).drop.pull 1).drop.pull 2).pull 2), e206, e207, e208, hu39, (ed20.trans ed19)⟩
  refine al_ (b := x25 != 0) rfl hc21 (au_ ?_)
  obtain ⟨S373, le373, I435, r91⟩ := Inv.rowFreeze I432
  obtain rfl := sj h8
  exact ⟨_, _, _, _, le373, (((I435).drop.pull 2).pull 2), e206, e207, e208, r91, (ed20.trans ed19)⟩
 rintro f w ⟨S374, z90, m90, k90, le374, I436, e213, e214, e215, r89, ed21⟩
 refine ab_ (aa_ (wo_ (en_ (l := [(.slice z73 m73 k73), (.slice z74 m74 k74), (.slice z75 m75 k75), (.slice z90 m90 k90)]) rfl kb_ (I436.nth 2 rfl) e215 rfl rfl ?_)))
 obtain ⟨x26, hx26, h⟩ := bnd h
 refine wo_ (bm_ (vs := [(.agg #[(.slice z73 m73 k73), (.slice z74 m74 k74), (.slice z75 m75 k75), (.slice z90 m90 k90)])]) rfl ca11 rfl (ew_ rfl) (law07_all_ok I436 (Riddle.rv (s := (⟨v1.1, v1.2.1, v1.2.2.1, v2⟩ : Riddle)) (r80.mono (le368.trans le374)) (r81.mono (le368.trans le374)) (r82.mono (le368.trans le374)) r89) hx26) (fun cv38 w359 S375 O38 le375 I437 hv38 => ?_))
 obtain ⟨z92, m92, k92, rfl, rfl⟩ := hv38
 refine wm_ (v := (Value.tuple #[(.slice z92 m92 k92), (vb x26.2)])) rfl rfl (wo_ (bd_ (v := (.slice z92 m92 k92)) rfl rfl rfl (wo_ (bd_ (v := (vb x26.2)) rfl rfl rfl (wa_ (v := (.slice z92 m92 k92)) rfl rfl (wa_ (v := (vb x26.2)) rfl rfl (ad_ (ab_ (aa_ (wo_ (en_ (l := [(.slice z73 m73 k73), (.slice z74 m74 k74), (.slice z75 m75 k75), (.slice z90 m90 k90)]) rfl kb_ (I437.nth 3 rfl) e215 rfl rfl ?_)))))))))))
 obtain ⟨x27, hx27, h⟩ := bnd h
 refine wo_ (bm_ (vs := [(.agg #[(.slice z73 m73 k73), (.slice z74 m74 k74), (.slice z75 m75 k75), (.slice z90 m90 k90)])]) rfl ca21 rfl (ew_ rfl) (hints_Sure_ok I437 (Riddle.rv (s := (⟨v1.1, v1.2.1, v1.2.2.1, v2⟩ : Riddle)) (r80.mono ((le368.trans le374).trans le375)) (r81.mono ((le368.trans le374).trans le375)) (r82.mono ((le368.trans le374).trans le375)) (r89.mono le375)) hx27) (fun cv39 w360 S376 O39 le376 I438 hv39 => ?_))
 obtain ⟨z93, m93, k93, rfl, rfl⟩ := hv39
 refine wm_ (v := (Value.tuple #[(.slice z93 m93 k93), (vi x27.2)])) rfl rfl (wo_ (bd_ (v := (.slice z93 m93 k93)) rfl rfl rfl (wo_ (bd_ (v := (vi x27.2)) rfl rfl rfl (wa_ (v := (.slice z93 m93 k93)) rfl rfl (wa_ (v := (vi x27.2)) rfl rfl (ad_ (ab_ (ab_ (aa_ (wm_ (v := (vb x26.2)) rfl rfl (wo_ (cd_ (b := x26.2) rfl rfl (wm_ (v := (vb (!x26.2))) rfl rfl ?_))))))))))))))
 rcases ifs h with ⟨hc24, h⟩ | ⟨hc24, h⟩
 ·
  refine ws_ (c := !x26.2) rfl rfl hc24 (ws_ (c := !x26.2) rfl rfl hc24 (wo_ (az_ (c := !x26.2) (a := (vb true)) rfl rfl hc24 rfl (ad_ (aj_ (b := true) rfl rfl (ab_ (aa_ (wa_ (v := (vb false)) rfl rfl (ad_ (an_ ?_))))))))))
  obtain rfl := sj h
  exact ⟨ed21, (vb false), (bu_ rfl rfl), _, [], ((((((((((le1.trans le2).trans le3).trans le4).trans le5).trans le358).trans le359).trans le368).trans le374).trans le375).trans le376), (((((I438).drop).drop).drop).drop).drop, rfl, rfl⟩
 refine wk_ (c := !x26.2) rfl rfl hc24 (ay_ (v := (vi x27.2)) rfl rfl (wk_ (c := !x26.2) rfl rfl hc24 (ci_ (a := x27.2) (b := 0) rfl rfl rfl (wo_ (aq_ (c := !x26.2) (b := (vb (x27.2 != 0))) rfl rfl hc24 rfl (ad_ ?_))))))
 rcases ifs h with ⟨hc25, h⟩ | ⟨hc25, h⟩
 ·
  refine aj_ (b := x27.2 != 0) rfl hc25 (ab_ (aa_ (wa_ (v := (vb false)) rfl rfl (ad_ (an_ ?_)))))
  obtain rfl := sj h
  exact ⟨ed21, (vb false), (bu_ rfl rfl), _, [], ((((((((((le1.trans le2).trans le3).trans le4).trans le5).trans le358).trans le359).trans le368).trans le374).trans le375).trans le376), (((((I438).drop).drop).drop).drop).drop, rfl, rfl⟩
 refine al_ (b := x27.2 != 0) rfl hc25 (au_ (ab_ (ab_ (aa_ (wa_ (v := (vi 0)) rfl rfl (ad_ ?_))))))
 have hk2 : x3.1.length ≤ 9223372036854775807 := (row_len (I438.nth 2 rfl))
 obtain ⟨o10, hrun5, h⟩ := bnd h
 refine bt_ (fun f w => ∃ out5, o10 = Sum.inl out5 ∧ ∃ (S_ : PH), S376.Le S_ ∧ Inv w S_ (Row (α := (List (List Int))) 23 (.slice z14 m14 k14) (x3.1) :: Row (α := Int) 3 (.slice z19 m19 k19) (x4.1) :: Row (α := (List (List Int))) 23 (.slice z92 m92 k92) (x26.1) :: Row (α := Int) 3 (.slice z93 m93 k93) (x27.1) :: Fr) ∧ f 7 = (.slice z14 m14 k14) ∧ f 9 = (.slice z19 m19 k19) ∧ f 15 = (.slice z92 m92 k92) ∧ f 16 = (.slice z93 m93 k93) ∧ f.ds = []) ?_ ?_
 ·
  refine ax_ ?_
  refine er_ (I := fun (i2 : Nat) (s6 : Unit) (f : Frm) (w : World) => ∃ (S_ : PH), S376.Le S_ ∧ Inv w S_ (Row (α := (List (List Int))) 23 (.slice z14 m14 k14) (x3.1) :: Row (α := Int) 3 (.slice z19 m19 k19) (x4.1) :: Row (α := (List (List Int))) 23 (.slice z92 m92 k92) (x26.1) :: Row (α := Int) 3 (.slice z93 m93 k93) (x27.1) :: Fr) ∧ f 7 = (.slice z14 m14 k14) ∧ f 9 = (.slice z19 m19 k19) ∧ f 15 = (.slice z92 m92 k92) ∧ f 16 = (.slice z93 m93 k93) ∧ f 17 = (vi (i2 : Int)) ∧ f.ds = []) hrun5 ⟨_, lr, ((((I438.pull 4).drop.pull 1).pull 3).pull 3), e213, e214, rfl, rfl, rfl, ed21⟩ ?_ ?_
  ·
   rintro i2 s6 f w o9 hlt2 hI471 h17 hout5
   obtain ⟨S571, le571, I670, e510, e511, e512, e513, e514, ed55⟩ := hI471
   refine ab_ (ab_ (aa_ (wm_ (v := (vi (i2 : Int))) rfl e514 (wm_ (v := (.slice z14 m14 k14)) rfl e510 (wo_ (et_ (α := (List (List Int))) rfl Try.underlying38 rfl (I670.nth 0 rfl) (wo_ (bg_ (a := (i2 : Int)) (b := (x3.1.length : Int)) rfl rfl rfl (ad_ (aj_ (b := decide ((i2 : Int) < (x3.1.length : Int))) rfl (gc_ hlt2) (au_ (ab_ (ax_ (ab_ (ab_ (aa_ (wa_ (v := (vi 0)) rfl rfl (ad_ ?_))))))))))))))))))
   obtain ⟨o12, hrun6, h17⟩ := bnd h17
   refine bt_ (fun f w => ∃ out6, o12 = Sum.inl out6 ∧ ∃ (S_ : PH), S571.Le S_ ∧ Inv w S_ (Row (α := (List (List Int))) 23 (.slice z14 m14 k14) (x3.1) :: Row (α := Int) 3 (.slice z19 m19 k19) (x4.1) :: Row (α := (List (List Int))) 23 (.slice z92 m92 k92) (x26.1) :: Row (α := Int) 3 (.slice z93 m93 k93) (x27.1) :: Fr) ∧ f 7 = (.slice z14 m14 k14) ∧ f 9 = (.slice z19 m19 k19) ∧ f 15 = (.slice z92 m92 k92) ∧ f 16 = (.slice z93 m93 k93) ∧ f 17 = (vi (i2 : Int)) ∧ f 18 = (vi out6) ∧ f.ds = []) ?_ ?_
   ·
    refine ax_ ?_
    refine iq_ (I := fun (s7 : (Int)) (f : Frm) (w : World) => ∃ (S_ : PH), S571.Le S_ ∧ Inv w S_ (Row (α := (List (List Int))) 23 (.slice z14 m14 k14) (x3.1) :: Row (α := Int) 3 (.slice z19 m19 k19) (x4.1) :: Row (α := (List (List Int))) 23 (.slice z92 m92 k92) (x26.1) :: Row (α := Int) 3 (.slice z93 m93 k93) (x27.1) :: Fr) ∧ f 7 = (.slice z14 m14 k14) ∧ f 9 = (.slice z19 m19 k19) ∧ f 15 = (.slice z92 m92 k92) ∧ f 16 = (.slice z93 m93 k93) ∧ f 17 = (vi (i2 : Int)) ∧ f 18 = (vi s7) ∧ f.ds = []) hrun6 ⟨_, lr, ((((I670.pull 3).pull 3).pull 3).pull 3), e510, e511, e512, e513, e514, rfl, ed55⟩ ?_
    rintro s7 f w o11 hI514 h19 hout6
    obtain ⟨S616, le616, I723, e582, e583, e584, e585, e586, e587, ed63⟩ := hI514
    refine ab_ (ab_ (aa_ (wm_ (v := (vi s7)) rfl e587 (wm_ (v := (.slice z92 m92 k92)) rfl e584 (wm_ (v := (vi (i2 : Int))) rfl e586 ?_)))))
    obtain ⟨x113, hx113, h19⟩ := bnd h19
    refine wo_ (be_ (v := (.slice z92 m92 k92)) (i := (i2 : Int)) (e := x113) rfl Try.underlying38 je_ rfl (Inv.rowSrc (I723.nth 2 rfl)) rfl hx113 (wo_ (am_ (v := (ah_ (.slice z92 m92 k92) ((i2 : Int)) (Enc.sz (List (List Int))))) (e := x113) rfl je_ rfl ((I723.nth 2 rfl).rowElem hx113) (fun u215 hu209 => ?_))))
    obtain ⟨z218, m218, k218, rfl⟩ := af_ hu209
    refine wo_ (bb_ rfl Try.underlying23 rfl hu209 (wo_ (bg_ (a := s7) (b := (x113.length : Int)) rfl rfl rfl (ad_ ?_))))
    rcases ifs h19 with ⟨hc62, h19⟩ | ⟨hc62, h19⟩
    ·
     refine aj_ (b := decide (s7 < (x113.length : Int))) rfl hc62 (au_ (ab_ (ax_ (ab_ ?_))))
     obtain ⟨x114, hx114, h19⟩ := bnd h19
     obtain ⟨x115, hx115, h19⟩ := bnd h19
     obtain ⟨x116, hx116, h19⟩ := bnd h19
     obtain ⟨x117, hx117, h19⟩ := bnd h19
     refine bp_ (sps := [spV 128 [] 0 (.slice z14 m14 k14), spV 129 [] 1 (vi (i2 : Int)), ⟨some 130, [0, 1], [2], fun vs_ T_ => fr0 vs_ 0 = (ah_ (.slice z14 m14 k14) ((i2 : Int)) (Enc.sz (List (List Int)))), [0], [], [], fun _ h_ => h_⟩, ⟨some 131, [0, 1, 2], [3], fun vs_ T_ => RV T_ (fr0 vs_ 0) x114, [0], [], [], fun hle_ h_ => h_.mono hle_⟩, spV 132 [] 4 (.slice z92 m92 k92), spV 133 [] 5 (vi (i2 : Int)), ⟨some 134, [4, 5], [6], fun vs_ T_ => fr0 vs_ 0 = (ah_ (.slice z92 m92 k92) ((i2 : Int)) (Enc.sz (List (List Int)))), [1], [], [], fun _ h_ => h_⟩, ⟨some 135, [4, 5, 6], [7], fun vs_ T_ => RV T_ (fr0 vs_ 0) x115, [1], [], [], fun hle_ h_ => h_.mono hle_⟩, spV 136 [] 8 (vi s7), spW 137 [4, 5, 6, 7, 8] [9, 7] fun vs_ => (ah_ (fr0 vs_ 1) (s7) (Enc.sz (List Int))), spR 138 [4, 5, 6, 7, 8, 9] 10 x116, spV 139 (lrg 11) 11 (vb x117), spV 140 (lrg 12) 12 (vb (!x117))]) (tks := [⟨none, none, [], fun vs_ => Row (α := (List (List Int))) 23 (.slice z14 m14 k14) (x3.1)⟩, ⟨none, none, [], fun vs_ => Row (α := (List (List Int))) 23 (.slice z92 m92 k92) (x26.1)⟩]) (O := Row (α := Int) 3 (.slice z19 m19 k19) (x4.1) :: Row (α := Int) 3 (.slice z93 m93 k93) (x27.1) :: Fr) rfl (by kernel_rfl) ((I723.pull 2).pull 1) ⟨?_, ?_, ?_, ?_, ?_, ?_, ?_, ?_, ?_, ?_, ?_, ?_, ?_, trivial⟩ ?_
     · exact fun vs f w U X l A K I => pl_ rfl (ay_ (v := (.slice z14 m14 k14)) rfl ((K 7 (ak_ rfl)).trans e582) (fn rfl rfl I))
     · exact fun vs f w U X l A K I => pl_ rfl (ay_ (v := (vi (i2 : Int))) rfl ((K 17 (ak_ rfl)).trans e586) (fn rfl rfl I))
     ·
      intro vs f w_ U X le A K I
      have I727 : Inv w_ U (Row (α := (List (List Int))) 23 (Value.slice z14 m14 k14) (x3.1) :: X) := I
      refine pl_ rfl (be_ (v := (.slice z14 m14 k14)) (i := (i2 : Int)) (e := x114) rfl Try.underlying38 je_ (A.u 0 rfl rfl rfl) (Inv.rowSrc (I727.nth 0 rfl)) (A.u 1 rfl rfl rfl) hx114 (fn rfl rfl I727))
     ·
      intro vs f w_ U X le A K I
      have I728 : Inv w_ U (Row (α := (List (List Int))) 23 (Value.slice z14 m14 k14) (x3.1) :: X) := I
      have q717 := A.u 2 rfl rfl rfl
      refine pl_ rfl (am_ (v := (ah_ (.slice z14 m14 k14) ((i2 : Int)) (Enc.sz (List (List Int))))) (e := x114) rfl je_ q717 ((I728.nth 0 rfl).rowElem hx114) (fun u219 hu213 => ?_))
      obtain ⟨z219, m219, k219, rfl⟩ := af_ hu213
      refine ⟨_, _, rfl, lr, ?_, ?_⟩
      · exact hu213
      exact I728
     · exact fun vs f w U X l A K I => pl_ rfl (ay_ (v := (.slice z92 m92 k92)) rfl ((K 15 (ak_ rfl)).trans e584) (fn rfl rfl I))
     · exact fun vs f w U X l A K I => pl_ rfl (ay_ (v := (vi (i2 : Int))) rfl ((K 17 (ak_ rfl)).trans e586) (fn rfl rfl I))
     ·
      intro vs f w_ U X le A K I
      have I731 : Inv w_ U (Row (α := (List (List Int))) 23 (Value.slice z92 m92 k92) (x26.1) :: X) := I
      refine pl_ rfl (be_ (v := (.slice z92 m92 k92)) (i := (i2 : Int)) (e := x115) rfl Try.underlying38 je_ (A.u 0 rfl rfl rfl) (Inv.rowSrc (I731.nth 0 rfl)) (A.u 1 rfl rfl rfl) hx115 (fn rfl rfl I731))
     ·
      intro vs f w_ U X le A K I
      have I732 : Inv w_ U (Row (α := (List (List Int))) 23 (Value.slice z92 m92 k92) (x26.1) :: X) := I
      have q720 := A.u 2 rfl rfl rfl
      refine pl_ rfl (am_ (v := (ah_ (.slice z92 m92 k92) ((i2 : Int)) (Enc.sz (List (List Int))))) (e := x115) rfl je_ q720 ((I732.nth 0 rfl).rowElem hx115) (fun u220 hu214 => ?_))
      obtain ⟨z220, m220, k220, rfl⟩ := af_ hu214
      refine ⟨_, _, rfl, lr, ?_, ?_⟩
      · exact hu214
      exact I732
     · exact fun vs f w U X l A K I => pl_ rfl (ay_ (v := (vi s7)) rfl ((K 18 (ak_ rfl)).trans e587) (fn rfl rfl I))
     ·
      intro vs f w_ U X le A K I
      have q721 : f 135 = vs 7 := (A.at_ 3 rfl _ rfl).1 _ rfl
      have r158 : RV U (vs 7) x115 := (A.at_ 3 rfl _ rfl).2
      obtain ⟨u221, hu215⟩ : ∃ u, vs 7 = u := ⟨_, rfl⟩
      rw [hu215] at q721 r158
      obtain ⟨z221, m221, k221, rfl⟩ := af_ r158
      have q722 := A.u 4 rfl rfl rfl
      refine pl_ rfl (ai_ (v := (.slice z221 m221 k221)) (i := s7) (e := x116) rfl Try.underlying23 ha_ q721 r158 q722 hx116 (⟨_, _, rfl, lr, ?_, ?_⟩))
      ·
       show (ah_ (Value.slice z221 m221 k221) (s7) (Enc.sz (List Int))) = (ah_ (vs 7) (s7) (Enc.sz (List Int)))
       simp only [hu215] <;> rfl
      exact I
     ·
      intro vs f w_ U X le A K I
      have q723 : f 135 = vs 7 := (A.at_ 3 rfl _ rfl).1 _ rfl
      have r159 : RV U (vs 7) x115 := (A.at_ 3 rfl _ rfl).2
      obtain ⟨u222, hu216⟩ : ∃ u, vs 7 = u := ⟨_, rfl⟩
      rw [hu216] at q723 r159
      obtain ⟨z222, m222, k222, rfl⟩ := af_ r159
      have q724 := A.u 4 rfl rfl rfl
      have q725 : f 137 = (ah_ (vs 7) (s7) (Enc.sz (List Int))) := A.u 5 rfl rfl rfl
      simp only [hu216] at q725
      have q725 : f 137 = (ah_ (Value.slice z222 m222 k222) (s7) (Enc.sz (List Int))) := q725
      refine pl_ rfl (am_ (v := (ah_ (.slice z222 m222 k222) (s7) (Enc.sz (List Int)))) (e := x116) rfl ha_ q725 (r159.elem I.in_ hx116) (fun u223 hu217 => ?_))
      obtain ⟨z223, m223, k223, rfl⟩ := af_ hu217
      refine ⟨_, _, rfl, lr, ?_, ?_⟩
      · exact hu217
      exact I
     ·
      intro vs f w_ U X le A K I
      have q726 : f 131 = vs 3 := (A.at_ 3 rfl _ rfl).1 _ rfl
      have r160 : RV U (vs 3) x114 := (A.at_ 3 rfl _ rfl).2
      obtain ⟨u224, hu218⟩ : ∃ u, vs 3 = u := ⟨_, rfl⟩
      rw [hu218] at q726 r160
      obtain ⟨z224, m224, k224, rfl⟩ := af_ r160
      have q727 : f 138 = vs 10 := (A.at_ 10 rfl _ rfl).1 _ rfl
      have r161 : RV U (vs 10) x116 := (A.at_ 10 rfl _ rfl).2
      obtain ⟨u225, hu219⟩ : ∃ u, vs 10 = u := ⟨_, rfl⟩
      rw [hu219] at q727 r161
      obtain ⟨z225, m225, k225, rfl⟩ := af_ r161
      refine pl_ rfl (ar_ (vs := [(.slice z224 m224 k224), (.slice z225 m225 k225)]) (r := (vb x117)) rfl ca15 rfl (bv_ q726 q727) I (fun Fr_ hF_ => law07_holds_ok hF_ r160 r161 hx117) (fun w620 I737 => (fn rfl rfl I737)))
     ·
      intro vs f w_ U X le A K I
      refine pl_ rfl (cd_ (b := x117) rfl (A.u 11 rfl rfl rfl) (fn rfl rfl I))
     intro vs521 f w622 S630 ed64 le630 hF29 hK521 hI528
     have e596 : f 7 = (Value.slice z14 m14 k14) := (hK521 7 (ap_ rfl)).trans e582
     have e597 : f 9 = (Value.slice z19 m19 k19) := (hK521 9 (ap_ rfl)).trans e583
     have e598 : f 15 = (Value.slice z92 m92 k92) := (hK521 15 (ap_ rfl)).trans e584
     have e599 : f 16 = (Value.slice z93 m93 k93) := (hK521 16 (ap_ rfl)).trans e585
     have e600 : f 17 = (Value.int .i64 ((i2 : Int))) := (hK521 17 (ap_ rfl)).trans e586
     have e601 : f 18 = (Value.int .i64 (s7)) := (hK521 18 (ap_ rfl)).trans e587
     have I739 : Inv w622 S630 (Row (α := (List (List Int))) 23 (Value.slice z14 m14 k14) (x3.1) :: Row (α := (List (List Int))) 23 (Value.slice z92 m92 k92) (x26.1) :: Row (α := Int) 3 (Value.slice z19 m19 k19) (x4.1) :: Row (α := Int) 3 (Value.slice z93 m93 k93) (x27.1) :: Fr) := hI528
     have q729 := hF29.u 12 rfl rfl rfl
     rcases ifs h19 with ⟨hc63, h19⟩ | ⟨hc63, h19⟩
     ·
      refine aj_ (b := !x117) q729 hc63 (ab_ (aa_ (wa_ (v := (vb false)) rfl rfl (ad_ (an_ ?_)))))
      obtain rfl := sj h19
      obtain rfl := (hout6 _ rfl)
      have h20 := h17
      obtain rfl := sj h20
      obtain rfl := (hout5 _ rfl)
      have h18 := h
      obtain rfl := sj h18
      exact ⟨(ed64.trans ed63), (vb false), (bu_ rfl rfl), _, [], (((((((((((((le1.trans le2).trans le3).trans le4).trans le5).trans le358).trans le359).trans le368).trans le374).trans le375).trans le376).trans le571).trans le616).trans le630), ((((I739).drop).drop).drop).drop, rfl, rfl⟩
     refine al_ (b := !x117) q729 hc63 (au_ (aa_ (wm_ (v := (vi s7)) rfl e601 (wo_ (bq_ (a := s7) (b := 1) rfl rfl rfl (wa_ (v := (vi (w64 (s7 + 1)))) rfl rfl (ad_ ?_)))))))
     obtain rfl := sj h19
     exact ⟨_, rfl, _, (le616.trans le630), ((((I739.pull 3).pull 2).pull 3).pull 3), e596, e597, e598, e599, e600, rfl, (ed64.trans ed63)⟩
    refine al_ (b := decide (s7 < (x113.length : Int))) rfl hc62 (bl_ ?_)
    obtain rfl := sj h19
    obtain rfl := (hout6 _ rfl)
    exact ⟨_, rfl, _, le616, ((((I723.pull 3).pull 3).pull 3).pull 3), e582, e583, e584, e585, e586, e587, ed63⟩
   rintro f w ⟨out6, rfl, S631, le631, I740, e602, e603, e604, e605, e606, e607, ed65⟩
   have h17 := ei_ h17
   refine ab_ (aa_ (wm_ (v := (.slice z19 m19 k19)) rfl e603 (wm_ (v := (vi (i2 : Int))) rfl e606 ?_)))
   obtain ⟨x118, hx118, h17⟩ := bnd h17
   obtain ⟨S632, Fr37, le632, I741, r162, bk37⟩ := Inv.lend1 (I740.pull 1)
   refine wo_ (bm_ (vs := [(.slice z19 m19 k19), (vi (i2 : Int))]) rfl ca26 rfl (bv_ rfl rfl) (iw_ I741 r162 hx118) (fun cv46 w623 S633 O46 le633 I743 hv46 => ?_))
   obtain ⟨rfl, rfl⟩ := hv46
   have I742 := bk37 [] trivial I743 le633
   refine wm_ (v := (vb x118)) rfl rfl ?_
   rcases ifs h17 with ⟨hc64, h17⟩ | ⟨hc64, h17⟩
   ·
    refine wk_ (c := x118) rfl rfl hc64 (ay_ (v := (.slice z93 m93 k93)) rfl e605 (wk_ (c := x118) rfl rfl hc64 (ay_ (v := (vi (i2 : Int))) rfl e606 ?_)))
    obtain ⟨x119, hx119, h17⟩ := bnd h17
    obtain ⟨S634, Fr38, le634, I744, r163, bk38⟩ := Inv.lend1 (I742.pull 3)
    refine wk_ (c := x118) rfl rfl hc64 (bm_ (vs := [(.slice z93 m93 k93), (vi (i2 : Int))]) rfl ca26 rfl (bv_ rfl rfl) (iw_ I744 r163 hx119) (fun cv47 w624 S635 O47 le635 I746 hv47 => ?_))
    obtain ⟨rfl, rfl⟩ := hv47
    have I745 := bk38 [] trivial I746 le635
    refine wk_ (c := x118) rfl rfl hc64 (cd_ (b := x119) rfl rfl (wo_ (az_ (c := x118) (a := (vb (!x119))) rfl rfl hc64 rfl (ad_ ?_))))
    rcases ifs h17 with ⟨hc65, h17⟩ | ⟨hc65, h17⟩
    ·
     refine aj_ (b := !x119) rfl hc65 (ab_ (aa_ (wa_ (v := (vb false)) rfl rfl (ad_ (an_ ?_)))))
     obtain rfl := sj h17
     obtain rfl := (hout5 _ rfl)
     have h18 := h
     obtain rfl := sj h18
     exact ⟨ed65, (vb false), (bu_ rfl rfl), _, [], ((((((((((((le1.trans le2).trans le3).trans le4).trans le5).trans le358).trans le359).trans le368).trans le374).trans le375).trans le376).trans le571).trans le631), ((((I745).drop).drop).drop).drop, rfl, rfl⟩
    refine al_ (b := !x119) rfl hc65 (au_ (aa_ (wm_ (v := (vi (i2 : Int))) rfl e606 (wo_ (bq_ (a := (i2 : Int)) (b := 1) rfl rfl rfl (wa_ (v := (vi (w64 ((i2 : Int) + 1)))) rfl rfl (ad_ ?_)))))))
    obtain rfl := sj h17
    exact ⟨_, rfl, _, (le571.trans le631), (((I745.pull 3).pull 2).pull 3), e602, e603, e604, e605, (bj_ hlt2 hk2), ed65⟩
   refine ws_ (c := x118) rfl rfl hc64 (ws_ (c := x118) rfl rfl hc64 (ws_ (c := x118) rfl rfl hc64 (ws_ (c := x118) rfl rfl hc64 (wo_ (aq_ (c := x118) (b := (vb false)) rfl rfl hc64 rfl (ad_ (al_ (b := false) rfl rfl (au_ (aa_ (wm_ (v := (vi (i2 : Int))) rfl e606 (wo_ (bq_ (a := (i2 : Int)) (b := 1) rfl rfl rfl (wa_ (v := (vi (w64 ((i2 : Int) + 1)))) rfl rfl (ad_ ?_))))))))))))))
   obtain rfl := sj h17
   exact ⟨_, rfl, _, (le571.trans le631), ((((I742.pull 3).pull 3).pull 2).pull 3), e602, e603, e604, e605, (bj_ hlt2 hk2), ed65⟩
  rintro s8 f w hs2 hI529
  obtain ⟨S636, le636, I747, e608, e609, e610, e611, e612, ed66⟩ := hI529
  refine ab_ (ab_ (aa_ (wm_ (v := (vi ((x3.1.length : Int)))) rfl e612 (wm_ (v := (.slice z14 m14 k14)) rfl e608 (wo_ (et_ (α := (List (List Int))) rfl Try.underlying38 rfl (I747.nth 0 rfl) (wo_ (bg_ (a := (x3.1.length : Int)) (b := (x3.1.length : Int)) rfl rfl rfl (ad_ (al_ (b := decide ((x3.1.length : Int) < (x3.1.length : Int))) rfl (gd_ _) (bl_ ?_)))))))))))
  exact ⟨s8, hs2, _, le636, ((((I747.pull 3).pull 3).pull 3).pull 3), e608, e609, e610, e611, ed66⟩
 rintro f w ⟨out5, rfl, S637, le637, I748, e613, e614, e615, e616, ed67⟩
 have h := ei_ h
 refine ab_ (aa_ ?_)
 obtain ⟨x120, hx120, h⟩ := bnd h
 refine wo_ (ar_ (vs := []) (r := (vb x120)) rfl ca9 rfl args0 I748 (fun Fr_ hF_ => im_ hF_  hx120) (fun w625 I749 => (wa_ (v := (vb x120)) rfl rfl (ad_ (an_ ?_)))))
 obtain rfl := sj h
 exact ⟨ed67, (vb x120), (bu_ rfl rfl), _, [], (((((((((((le1.trans le2).trans le3).trans le4).trans le5).trans le358).trans le359).trans le368).trans le374).trans le375).trans le376).trans le637), ((((I749).drop).drop).drop).drop, rfl, rfl⟩
end Go.Proofs.Ytlpdpeghgndmkaa.Pad
