/- A part of the proof: what the functions of the program compute, shown over the model. -/
import Derived.Test.YtlpdpeghgndmkaaHinP
import Derived.Test.YtlpdpeghgndmkaaHinW4
import Derived.Test.YtlpdpeghgndmkaaHinW9
import Derived.Test.YtlpdpeghgndmkaaHinW10
import Derived.Test.YtlpdpeghgndmkaaHinW11
import Derived.KernelRfl
set_option linter.unusedVariables false
set_option maxHeartbeats 4000000
set_option maxRecDepth 100000
namespace Go.Proofs.Ytlpdpeghgndmkaa.Pad
open Go Go.Proofs
theorem hints_Sure_ok {w : World} {S : PH} {Fr : List HP} {a0 : Riddle} {v0 : Value} {r : (List Int) × Int} (hI : Inv w S (Fr)) (h0_ : RV S v0 a0) (h : jj_ a0 = some r) :
    Calls Try.prog 21 [v0].toArray w (md_ S Fr (fun T_ v_ O_ => ∃ (a0_ : Option Addr) (n0_ k0_ : Nat), v_ = (Value.tuple #[(Value.slice a0_ n0_ k0_), (Value.int .i64 (r.2))]) ∧ O_ = [Row (α := Int) 3 (Value.slice a0_ n0_ k0_) (r.1)])) := by
 unfold jj_ at h
 obtain ⟨c1, c2, c3, c4, e1, r1, r2, r3, r4⟩ := Riddle.inv h0_
 subst e1
 obtain ⟨z1, m1, k1, rfl⟩ := af_ r1
 obtain ⟨z2, m2, k2, rfl⟩ := af_ r2
 obtain ⟨z3, m3, k3, rfl⟩ := af_ r3
 obtain ⟨z4, m4, k4, rfl⟩ := af_ r4
 refine av_ (n := 31) (vs := [(.agg #[(.slice z1 m1 k1), (.slice z2 m2 k2), (.slice z3 m3 k3), (.slice z4 m4 k4)])]) Try.func21 rfl rfl rfl (ab_ (aa_ (wo_ (bo_ (v := (.agg #[(.slice z1 m1 k1), (.slice z2 m2 k2), (.slice z3 m3 k3), (.slice z4 m4 k4)])) rfl hI rfl (fun g1 w1 I1 => ?_)))))
 obtain ⟨S1, le1, I2, p1⟩ := Inv.boxFreeze (x := a0) I1 (Riddle.rv (s := a0) r1 r2 r3 r4)
 refine wa_ (v := (.slice none 0 0)) rfl rfl (wa_ (v := (vi 0)) rfl rfl (ad_ (ab_ (aa_ (wo_ (am_ (v := (pt_ g1)) (e := a0) rfl kb_ rfl (p1.at_ I2) (fun u1 hu1 => ?_)))))))
 obtain ⟨c5, c6, c7, c8, e6, r5, r6, r7, r8⟩ := Riddle.inv hu1
 subst e6
 obtain ⟨z5, m5, k5, rfl⟩ := af_ r5
 obtain ⟨z6, m6, k6, rfl⟩ := af_ r6
 obtain ⟨z7, m7, k7, rfl⟩ := af_ r7
 obtain ⟨z8, m8, k8, rfl⟩ := af_ r8
 obtain ⟨x1, hx1, h⟩ := bnd h
 refine wo_ (bm_ (vs := [(.agg #[(.slice z5 m5 k5), (.slice z6 m6 k6), (.slice z7 m7 k7), (.slice z8 m8 k8)])]) rfl ca33 rfl (ew_ rfl) (fa_ I2 (Riddle.rv (s := a0) r5 r6 r7 r8) hx1) (fun cv1 w2 S2 O1 le2 I3 hv1 => ?_))
 obtain ⟨c9, rfl, rfl, r9⟩ := hv1
 refine wm_ (v := (Value.tuple #[c9, (vi x1.2)])) rfl rfl (wo_ (bd_ (v := c9) rfl rfl rfl (wo_ (bd_ (v := (vi x1.2)) rfl rfl rfl (wa_ (v := c9) rfl rfl (wa_ (v := (vi x1.2)) rfl rfl (ad_ (ab_ (ab_ (aa_ (wm_ (v := (vi x1.2)) rfl rfl (wo_ (ci_ (a := x1.2) (b := 0) rfl rfl rfl (ad_ ?_))))))))))))))
 rcases ifs h with ⟨hc1, h⟩ | ⟨hc1, h⟩
 ·
  refine aj_ (b := x1.2 != 0) rfl hc1 (ab_ (aa_ (wm_ (v := (vi x1.2)) rfl rfl (wa_ (v := (.slice none 0 0)) rfl rfl (wa_ (v := (vi x1.2)) rfl rfl (ad_ (an_ ?_)))))))
  have I4 := Inv.rowNil (α := Int) (T := 3) I3
  obtain rfl := sj h
  exact ⟨rfl, (Value.tuple #[(.slice none 0 0), (vi x1.2)]), (res2 rfl rfl rfl), _, [Row (α := Int) 3 (.slice none 0 0) (([] : List Int))], (le1.trans le2), I4, _, _, _, rfl, rfl⟩
 refine al_ (b := x1.2 != 0) rfl hc1 (au_ (ab_ (ab_ (aa_ (wm_ (v := c9) rfl rfl ?_)))))
 obtain ⟨x2, hx2, h⟩ := bnd h
 obtain ⟨x3, hx3, h⟩ := bnd h
 refine wo_ (bm_ (vs := [c9]) rfl ca56 rfl (ew_ rfl) (gk_ I3 (lp_ r9 hx2) hx3) (fun cv2 w3 S3 O2 le3 I5 hv2 => ?_))
 obtain ⟨z9, m9, k9, rfl, rfl⟩ := hv2
 refine wo_ (et_ (α := Int) rfl Try.underlying28 rfl (I5.nth 0 rfl) (wm_ (v := (vi 0)) rfl rfl (ad_ ?_)))
 have hk1 : x3.length ≤ 9223372036854775807 := (row_len (I5.nth 0 rfl))
 have I16 := Inv.rowNil (α := Int) (T := 3) I5
 obtain ⟨out1, hrun1, h⟩ := bnd h
 refine bt_ (fun f w => ∃ (z19 : Option Addr) (m19 k19 : Nat), Inv w S3 (Row (α := Int) 3 (.slice z19 m19 k19) (out1) :: Row (α := Int) 3 (.slice z9 m9 k9) (x3) :: Fr) ∧ f 2 = (.slice z19 m19 k19) ∧ f 16 = (.slice z9 m9 k9) ∧ f 17 = (vi ((x3.length : Int))) ∧ f.ds = []) ?_ ?_
 ·
  refine ax_ ?_
  refine ep_ (I := fun (i1 : Nat) (s1 : (List Int)) (f : Frm) (w : World) => ∃ (z18 : Option Addr) (m18 k18 : Nat), Inv w S3 (Row (α := Int) 3 (.slice z18 m18 k18) (s1) :: Row (α := Int) 3 (.slice z9 m9 k9) (x3) :: Fr) ∧ f 2 = (.slice z18 m18 k18) ∧ f 16 = (.slice z9 m9 k9) ∧ f 17 = (vi ((x3.length : Int))) ∧ f 18 = (vi (i1 : Int)) ∧ f.ds = []) hrun1 ⟨_, _, _, ((I16.pull 1).pull 1), rfl, rfl, rfl, rfl, rfl⟩ ?_ ?_
  ·
   rintro i1 s1 f w o1 hlt1 hI1 h1
   obtain ⟨z18, m18, k18, I17, e29, e30, e31, e32, ed4⟩ := hI1
   refine ab_ (aa_ (wo_ (bg_ (a := (i1 : Int)) (b := (x3.length : Int)) rfl e32 e31 (ad_ (ab_ (aj_ (b := decide ((i1 : Int) < (x3.length : Int))) rfl (gc_ hlt1) (au_ (ab_ (ax_ (ab_ (aa_ (wm_ (v := (vi (i1 : Int))) rfl e32 ?_))))))))))))
   obtain ⟨x10, hx10, h1⟩ := bnd h1
   refine wo_ (be_ (v := (.slice z9 m9 k9)) (i := (i1 : Int)) (e := x10) rfl Try.underlying28 sh3 e30 (Inv.rowSrc (I17.nth 1 rfl)) e32 hx10 (wo_ (ag_ (v := (ah_ (.slice z9 m9 k9) ((i1 : Int)) (Enc.sz Int))) (e := x10) rfl sh3 rfl ((I17.nth 1 rfl).rowElem hx10) (wa_ (v := (vi (i1 : Int))) rfl rfl (wa_ (v := (vi x10)) rfl rfl (ad_ (ab_ (aa_ (wm_ (v := (vi x10)) rfl rfl (wo_ (bn_ (a := x10) (b := 1) rfl rfl rfl (ad_ ?_))))))))))))
   rcases ifs h1 with ⟨hc5, h1⟩ | ⟨hc5, h1⟩
   ·
    refine aj_ (b := x10 == 1) rfl hc5 (aa_ (wm_ (v := (.slice z18 m18 k18)) rfl e29 (wm_ (v := (vi (i1 : Int))) rfl rfl (wo_ (bh_ (vs := [(vi (i1 : Int))]) (r := ([(i1 : Int)] : List Int)) rfl Try.underlying28 el3 (hl_ rfl) rfl (by decide) (by decide) ⟨(eh_ _), trivial⟩ I17 (fun u8 w10 I18 => ?_))))))
    obtain ⟨z20, m20, k20, e33⟩ := bi_ I18
    subst e33
    obtain ⟨x11, hx11, h1⟩ := bnd h1
    refine wo_ (dd_ (α := Int) (v := (.slice z18 m18 k18)) (u := (.slice z20 m20 k20)) rfl rfl Try.underlying28 el3 (by decide) (by decide) rfl rfl (I18.pull 1) (Inv.rowSrc (I18.nth 0 rfl)) hx11 (fun u9 w11 I19 => ?_))
    obtain ⟨z21, m21, k21, e34⟩ := bi_ I19
    subst e34
    refine wa_ (v := (.slice z21 m21 k21)) rfl rfl (ad_ (aa_ (wo_ (bq_ (a := (i1 : Int)) (b := 1) rfl e32 rfl (wm_ (v := (vi (w64 ((i1 : Int) + 1)))) rfl rfl (ad_ ?_))))))
    obtain rfl := sj h1
    exact ⟨_, _, _, (((I19.pull 1).drop.pull 1).pull 1), rfl, e30, e31, (bj_ hlt1 hk1), ed4⟩
   refine al_ (b := x10 == 1) rfl hc5 (au_ (aa_ (wo_ (bq_ (a := (i1 : Int)) (b := 1) rfl e32 rfl (wm_ (v := (vi (w64 ((i1 : Int) + 1)))) rfl rfl (ad_ ?_))))))
   obtain rfl := sj h1
   exact ⟨_, _, _, ((I17.pull 1).pull 1), e29, e30, e31, (bj_ hlt1 hk1), ed4⟩
  rintro f w hI2
  obtain ⟨z22, m22, k22, I20, e35, e36, e37, e38, ed5⟩ := hI2
  refine ab_ (aa_ (wo_ (bg_ (a := (x3.length : Int)) (b := (x3.length : Int)) rfl e38 e37 (ad_ (ab_ (al_ (b := decide ((x3.length : Int) < (x3.length : Int))) rfl (gd_ _) (bl_ ?_)))))))
  exact ⟨_, _, _, ((I20.pull 1).pull 1), e35, e36, e37, ed5⟩
 rintro f w ⟨z19, m19, k19, I21, e39, e40, e41, ed6⟩
 refine ab_ (aa_ (wm_ (v := (.slice z19 m19 k19)) rfl e39 (wa_ (v := (.slice z19 m19 k19)) rfl rfl (wa_ (v := (vi 0)) rfl rfl (ad_ (an_ ?_))))))
 obtain rfl := sj h
 exact ⟨ed6, (Value.tuple #[(.slice z19 m19 k19), (vi 0)]), (res2 rfl rfl rfl), _, [Row (α := Int) 3 (.slice z19 m19 k19) (out1)], ((le1.trans le2).trans le3), (I21.pull 1).drop, _, _, _, rfl, rfl⟩
theorem hints_Secret_1_ok {w : World} {S : PH} {Fr : List HP} {a0 : (List Int)} {v0 : Value} {a1 : Int} {v1 : Value} {a2 : (List (List Int))} {v2 : Value} {r : Bool} (hI : Inv w S (Fr)) (h0_ : RV S v0 a0) (h1_ : PtS S v1 a1) (h2_ : PtS S v2 a2) (h : ip_ a0 a1 a2 = some r) :
    Calls Try.prog 59 [v0, v1, v2].toArray w (ck_ S Fr (Value.bool (r))) := by
 unfold ip_ at h
 obtain ⟨z1, m1, k1, rfl⟩ := af_ h0_
 refine av_ (n := 16) (vs := [(.slice z1 m1 k1), v1, v2]) Try.func59 rfl rfl rfl (ab_ (aa_ (wa_ (v := (vb false)) rfl rfl (ad_ (ab_ ?_)))))
 obtain ⟨x1, hx1, h⟩ := bnd h
 obtain ⟨x2, hx2, h⟩ := bnd h
 obtain ⟨x3, hx3, h⟩ := bnd h
 refine bp_ (sps := [spV 5 [] 0 (.slice z1 m1 k1), spV 6 [] 1 (vi a1), spV 7 [0, 1] 2 (ah_ (.slice z1 m1 k1) (a1) (Enc.sz Int)), spV 8 [0, 1, 2] 3 (vi x1), spR 9 [] 4 a2, spW 10 [4] [5, 4] fun vs_ => (ah_ (fr0 vs_ 1) (0) (Enc.sz (List Int))), spR 11 [4, 5] 6 x2, spV 12 [] 7 (vi a1), spW 13 [4, 5, 6, 7] [8, 6] fun vs_ => (ah_ (fr0 vs_ 1) (a1) (Enc.sz Int)), spV 14 [4, 5, 6, 7, 8] 9 (vi x3), spV 15 (lrg 10) 10 (vb (x1 != x3)), spV 4 (lrg 11) 11 (vb (x1 != x3))]) (tks := []) (O := Fr) rfl (by kernel_rfl) hI ⟨?_, ?_, ?_, ?_, ?_, ?_, ?_, ?_, ?_, ?_, ?_, ?_, trivial⟩ ?_
 · exact fun vs f w U X l A K I => pl_ rfl (ay_ (v := (.slice z1 m1 k1)) rfl (K 0 (ak_ rfl)) (fn rfl rfl I))
 · exact fun vs f w U X l A K I => pl_ rfl (ag_ (v := v1) (e := a1) rfl sh3 (K 1 (ak_ rfl)) ((h1_.mono l).at_ I) (fn rfl rfl I))
 · exact fun vs f w U X l A K I => pl_ rfl (ai_ (v := (.slice z1 m1 k1)) (i := a1) (e := x1) rfl Try.underlying28 sh3 (A.u 0 rfl rfl rfl) (h0_.mono l) (A.u 1 rfl rfl rfl) hx1 (fn rfl rfl I))
 · exact fun vs f w U X l A K I => pl_ rfl (ag_ (v := (ah_ (.slice z1 m1 k1) (a1) (Enc.sz Int))) (e := x1) rfl sh3 (A.u 2 rfl rfl rfl) ((h0_.mono l).elem I.in_ hx1) (fn rfl rfl I))
 ·
  intro vs f w_ U X le A K I
  refine pl_ rfl (am_ (v := v2) (e := a2) rfl je_ (K 2 (ak_ rfl)) ((h2_.mono le).at_ I) (fun u3 hu3 => ?_))
  obtain ⟨z2, m2, k2, rfl⟩ := af_ hu3
  refine ⟨_, _, rfl, lr, ?_, ?_⟩
  · exact hu3
  exact I
 ·
  intro vs f w_ U X le A K I
  have q4 : f 9 = vs 4 := (A.at_ 0 rfl _ rfl).1 _ rfl
  have r1 : RV U (vs 4) a2 := (A.at_ 0 rfl _ rfl).2
  obtain ⟨u4, hu4⟩ : ∃ u, vs 4 = u := ⟨_, rfl⟩
  rw [hu4] at q4 r1
  obtain ⟨z3, m3, k3, rfl⟩ := af_ r1
  refine pl_ rfl (ai_ (v := (.slice z3 m3 k3)) (i := 0) (e := x2) rfl Try.underlying23 ha_ q4 r1 rfl hx2 (⟨_, _, rfl, lr, ?_, ?_⟩))
  ·
   show (ah_ (Value.slice z3 m3 k3) (0) (Enc.sz (List Int))) = (ah_ (vs 4) (0) (Enc.sz (List Int)))
   simp only [hu4] <;> rfl
  exact I
 ·
  intro vs f w_ U X le A K I
  have q5 : f 9 = vs 4 := (A.at_ 0 rfl _ rfl).1 _ rfl
  have r2 : RV U (vs 4) a2 := (A.at_ 0 rfl _ rfl).2
  obtain ⟨u5, hu5⟩ : ∃ u, vs 4 = u := ⟨_, rfl⟩
  rw [hu5] at q5 r2
  obtain ⟨z4, m4, k4, rfl⟩ := af_ r2
  have q6 : f 10 = (ah_ (vs 4) (0) (Enc.sz (List Int))) := A.u 1 rfl rfl rfl
  simp only [hu5] at q6
  have q6 : f 10 = (ah_ (Value.slice z4 m4 k4) (0) (Enc.sz (List Int))) := q6
  refine pl_ rfl (am_ (v := (ah_ (.slice z4 m4 k4) (0) (Enc.sz (List Int)))) (e := x2) rfl ha_ q6 (r2.elem I.in_ hx2) (fun u6 hu6 => ?_))
  obtain ⟨z5, m5, k5, rfl⟩ := af_ hu6
  refine ⟨_, _, rfl, lr, ?_, ?_⟩
  · exact hu6
  exact I
 · exact fun vs f w U X l A K I => pl_ rfl (ag_ (v := v1) (e := a1) rfl sh3 (K 1 (ak_ rfl)) ((h1_.mono l).at_ I) (fn rfl rfl I))
 ·
  intro vs f w_ U X le A K I
  have q7 : f 11 = vs 6 := (A.at_ 2 rfl _ rfl).1 _ rfl
  have r3 : RV U (vs 6) x2 := (A.at_ 2 rfl _ rfl).2
  obtain ⟨u7, hu7⟩ : ∃ u, vs 6 = u := ⟨_, rfl⟩
  rw [hu7] at q7 r3
  obtain ⟨z6, m6, k6, rfl⟩ := af_ r3
  have q8 := A.u 3 rfl rfl rfl
  refine pl_ rfl (ai_ (v := (.slice z6 m6 k6)) (i := a1) (e := x3) rfl Try.underlying28 sh3 q7 r3 q8 hx3 (⟨_, _, rfl, lr, ?_, ?_⟩))
  ·
   show (ah_ (Value.slice z6 m6 k6) (a1) (Enc.sz Int)) = (ah_ (vs 6) (a1) (Enc.sz Int))
   simp only [hu7] <;> rfl
  exact I
 ·
  intro vs f w_ U X le A K I
  have q9 : f 11 = vs 6 := (A.at_ 2 rfl _ rfl).1 _ rfl
  have r4 : RV U (vs 6) x2 := (A.at_ 2 rfl _ rfl).2
  obtain ⟨u8, hu8⟩ : ∃ u, vs 6 = u := ⟨_, rfl⟩
  rw [hu8] at q9 r4
  obtain ⟨z7, m7, k7, rfl⟩ := af_ r4
  have q11 : f 13 = (ah_ (vs 6) (a1) (Enc.sz Int)) := A.u 4 rfl rfl rfl
  simp only [hu8] at q11
  have q11 : f 13 = (ah_ (Value.slice z7 m7 k7) (a1) (Enc.sz Int)) := q11
  refine pl_ rfl (ag_ (v := (ah_ (.slice z7 m7 k7) (a1) (Enc.sz Int))) (e := x3) rfl sh3 q11 (r4.elem I.in_ hx3) (fn rfl rfl I))
 · exact fun vs f w U X l A K I => pl_ rfl (ci_ (a := x1) (b := x3) rfl (A.u 3 rfl rfl rfl) (A.u 9 rfl rfl rfl) (fn rfl rfl I))
 ·
  intro vs f w_ U X le A K I
  refine pl_ rfl (ch_ (v := (vb (x1 != x3))) rfl (A.u 10 rfl rfl rfl) (fn rfl rfl I))
 intro vs13 f w13 S13 ed1 le13 hF1 hK13 hI13
 have I13 : Inv w13 S13 (Fr) := hI13
 have q15 := hF1.u 11 rfl rfl rfl
 refine an_ ?_
 obtain rfl := sj h
 exact ⟨(ed1.trans rfl), (vb (x1 != x3)), (bu_ rfl q15), _, [], le13, I13, rfl, rfl⟩
theorem hints_Secret_ok {w : World} {S : PH} {Fr : List HP} {a0 : Riddle} {v0 : Value} {a1 : Int} {r : (List Int) × Int} (hI : Inv w S (Fr)) (h0_ : RV S v0 a0) (h : hg_ a0 a1 = some r) :
    Calls Try.prog 24 [v0, (Value.int .i64 (a1))].toArray w (md_ S Fr (fun T_ v_ O_ => ∃ (a0_ : Option Addr) (n0_ k0_ : Nat), v_ = (Value.tuple #[(Value.slice a0_ n0_ k0_), (Value.int .i64 (r.2))]) ∧ O_ = [Row (α := Int) 3 (Value.slice a0_ n0_ k0_) (r.1)])) := by
 unfold hg_ at h
 obtain ⟨c1, c2, c3, c4, e1, r1, r2, r3, r4⟩ := Riddle.inv h0_
 subst e1
 obtain ⟨z1, m1, k1, rfl⟩ := af_ r1
 obtain ⟨z2, m2, k2, rfl⟩ := af_ r2
 obtain ⟨z3, m3, k3, rfl⟩ := af_ r3
 obtain ⟨z4, m4, k4, rfl⟩ := af_ r4
 refine av_ (n := 41) (vs := [(.agg #[(.slice z1 m1 k1), (.slice z2 m2 k2), (.slice z3 m3 k3), (.slice z4 m4 k4)]), (vi a1)]) Try.func24 rfl rfl rfl (ab_ (aa_ (wo_ (bo_ (v := (.agg #[(.slice z1 m1 k1), (.slice z2 m2 k2), (.slice z3 m3 k3), (.slice z4 m4 k4)])) rfl hI rfl (fun g1 w1 I1 => ?_)))))
 obtain ⟨S1, le1, I2, p1⟩ := Inv.boxFreeze (x := a0) I1 (Riddle.rv (s := a0) r1 r2 r3 r4)
 refine wa_ (v := (.slice none 0 0)) rfl rfl (wa_ (v := (vi 0)) rfl rfl (ad_ (ab_ (aa_ (wo_ (am_ (v := (pt_ g1)) (e := a0) rfl kb_ rfl (p1.at_ I2) (fun u1 hu1 => ?_)))))))
 obtain ⟨c5, c6, c7, c8, e6, r5, r6, r7, r8⟩ := Riddle.inv hu1
 subst e6
 obtain ⟨z5, m5, k5, rfl⟩ := af_ r5
 obtain ⟨z6, m6, k6, rfl⟩ := af_ r6
 obtain ⟨z7, m7, k7, rfl⟩ := af_ r7
 obtain ⟨z8, m8, k8, rfl⟩ := af_ r8
 refine wm_ (v := (vi a1)) rfl rfl ?_
 obtain ⟨x1, hx1, h⟩ := bnd h
 refine wo_ (bm_ (vs := [(.agg #[(.slice z5 m5 k5), (.slice z6 m6 k6), (.slice z7 m7 k7), (.slice z8 m8 k8)]), (vi a1)]) rfl ca52 rfl (bv_ rfl rfl) (lx_ I2 (Riddle.rv (s := a0) r5 r6 r7 r8) hx1) (fun cv1 w2 S2 O1 le2 I3 hv1 => ?_))
 obtain ⟨c9, rfl, rfl, r9⟩ := hv1
 refine wm_ (v := (Value.tuple #[c9, (vi x1.2)])) rfl rfl (wo_ (bd_ (v := c9) rfl rfl rfl (wo_ (bd_ (v := (vi x1.2)) rfl rfl rfl (wa_ (v := c9) rfl rfl (wa_ (v := (vi x1.2)) rfl rfl (ad_ (ab_ (ab_ (aa_ (wm_ (v := (vi x1.2)) rfl rfl (wo_ (ci_ (a := x1.2) (b := 0) rfl rfl rfl (ad_ ?_))))))))))))))
 rcases ifs h with ⟨hc1, h⟩ | ⟨hc1, h⟩
 ·
  refine aj_ (b := x1.2 != 0) rfl hc1 (ab_ (aa_ (wm_ (v := (vi x1.2)) rfl rfl (wa_ (v := (.slice none 0 0)) rfl rfl (wa_ (v := (vi x1.2)) rfl rfl (ad_ (an_ ?_)))))))
  have I4 := Inv.rowNil (α := Int) (T := 3) I3
  obtain rfl := sj h
  exact ⟨rfl, (Value.tuple #[(.slice none 0 0), (vi x1.2)]), (res2 rfl rfl rfl), _, [Row (α := Int) 3 (.slice none 0 0) (([] : List Int))], (le1.trans le2), I4, _, _, _, rfl, rfl⟩
 refine al_ (b := x1.2 != 0) rfl hc1 (au_ (ab_ (aa_ (wm_ (v := c9) rfl rfl ?_))))
 obtain ⟨x2, hx2, h⟩ := bnd h
 obtain ⟨x3, hx3, h⟩ := bnd h
 refine wo_ (bm_ (vs := [c9]) rfl ca53 rfl (ew_ rfl) (fh_ I3 (lp_ r9 hx2) hx3) (fun cv2 w3 S3 O2 le3 I5 hv2 => ?_))
 obtain ⟨z9, m9, k9, rfl, rfl, r10⟩ := hv2
 refine wm_ (v := (vi a1)) rfl rfl ?_
 obtain ⟨x4, hx4, h⟩ := bnd h
 refine wo_ (ai_ (v := (.slice z9 m9 k9)) (i := a1) (e := x4) rfl Try.underlying38 je_ rfl r10 rfl hx4 (wo_ (am_ (v := (ah_ (.slice z9 m9 k9) (a1) (Enc.sz (List (List Int))))) (e := x4) rfl je_ rfl (r10.elem I5.in_ hx4) (fun u2 hu2 => ?_))))
 obtain ⟨z10, m10, k10, rfl⟩ := af_ hu2
 refine wo_ (cb_ (z := (.slice none 0 0)) rfl I5 zo23 (fun g2 w4 (I6 : Inv w4 S3 (ao_ g2 23 #[(.slice none 0 0)] :: Fr)) => (wo_ (bc_ (v := (.slice z10 m10 k10)) (cs := #[(.slice none 0 0)]) je_ I6 rfl rfl rfl (Nat.le_of_ble_eq_true rfl) rfl (fun w5 (I7 : Inv w5 S3 (ao_ g2 23 #[(.slice z10 m10 k10)] :: Fr)) => ?_)))))
 obtain ⟨S4, le4, I8, p2⟩ := Inv.boxFreeze (u := (Value.slice z10 m10 k10)) (x := x4) I7 hu2
 refine ad_ (ab_ (ab_ (aa_ (wo_ (ac_ (v := (pt_ g1)) rfl dp_ rfl ((p1.mono ((le2.trans le3).trans le4)).at_ I8) (wo_ (am_ (v := (ae_ (pt_ g1) 0)) (e := a0.Locks) rfl mz_ rfl (((p1.mono ((le2.trans le3).trans le4)).at_ I8).fld Riddle.fld0) (fun u3 hu3 => ?_))))))))
 obtain ⟨z11, m11, k11, rfl⟩ := af_ hu3
 refine wm_ (v := (vi a1)) rfl rfl ?_
 obtain ⟨x5, hx5, h⟩ := bnd h
 refine wo_ (ai_ (v := (.slice z11 m11 k11)) (i := a1) (e := x5) rfl Try.underlying22 iz_ rfl hu3 rfl hx5 (wo_ (ac_ (v := (ah_ (.slice z11 m11 k11) (a1) (Enc.sz CodeLock))) rfl gi_ rfl (hu3.elem I8.in_ hx5) (wo_ (ag_ (v := (ae_ (ah_ (.slice z11 m11 k11) (a1) (Enc.sz CodeLock)) 0)) (e := x5.Wheels) rfl sh3 rfl ((hu3.elem I8.in_ hx5).fld CodeLock.fld0) (wm_ (v := (vi 0)) rfl rfl (ad_ ?_)))))))
 obtain ⟨x12, hx12, h⟩ := bnd h
 have I31 := Inv.rowNil (α := Int) (T := 3) I8
 obtain ⟨out1, hrun1, h⟩ := bnd h
 refine bt_ (fun f w => ∃ (S_ : PH) (z24 : Option Addr) (m24 k24 : Nat), S4.Le S_ ∧ Inv w S_ (Row (α := Int) 3 (.slice z24 m24 k24) (out1) :: Fr) ∧ f 4 = (.slice z24 m24 k24) ∧ f 7 = (pt_ g2) ∧ f 28 = (vi x5.Wheels) ∧ f.ds = []) ?_ ?_
 ·
  refine ax_ ?_
  refine ep_ (I := fun (i1 : Nat) (s1 : (List Int)) (f : Frm) (w : World) => ∃ (S_ : PH) (z23 : Option Addr) (m23 k23 : Nat), S4.Le S_ ∧ Inv w S_ (Row (α := Int) 3 (.slice z23 m23 k23) (s1) :: Fr) ∧ f 4 = (.slice z23 m23 k23) ∧ f 7 = (pt_ g2) ∧ f 28 = (vi x5.Wheels) ∧ f 29 = (vi (i1 : Int)) ∧ f.ds = []) hrun1 ⟨_, _, _, _, lr, I31, rfl, rfl, rfl, rfl, rfl⟩ ?_ ?_
  ·
   rintro i1 s1 f w o1 hlt1 hI1 h1
   obtain ⟨S10, z23, m23, k23, le10, I32, e34, e35, e36, e37, ed4⟩ := hI1
   refine ab_ (aa_ (wo_ (bg_ (a := (i1 : Int)) (b := x5.Wheels) rfl e37 e36 (ad_ (ab_ (aj_ (b := decide ((i1 : Int) < x5.Wheels)) rfl (cnt_t hx12 hlt1) (au_ (ab_ (ax_ (ab_ (aa_ (wm_ (v := (vi (i1 : Int))) rfl e37 (wo_ (cb_ (z := (vi 0)) rfl I32 zo3 (fun g6 w21 (I33 : Inv w21 S10 (ao_ g6 3 #[(vi 0)] :: Row (α := Int) 3 (.slice z23 m23 k23) (s1) :: Fr)) => (wo_ (bc_ (v := (vi (i1 : Int))) (cs := #[(vi 0)]) sh3 I33 rfl rfl rfl (Nat.le_of_ble_eq_true rfl) rfl (fun w22 (I34 : Inv w22 S10 (ao_ g6 3 #[(vi (i1 : Int))] :: Row (α := Int) 3 (.slice z23 m23 k23) (s1) :: Fr)) => ?_))))))))))))))))))
   obtain ⟨S11, le11, I35, p6⟩ := Inv.boxFreeze (u := (Value.int .i64 ((i1 : Int)))) (x := (i1 : Int)) I34 (eh_ _)
   refine ad_ (ab_ (aa_ (wo_ (am_ (v := (pt_ g2)) (e := x4) rfl je_ e35 ((p2.mono (le10.trans le11)).at_ I35) (fun u13 hu7 => ?_)))))
   obtain ⟨z25, m25, k25, rfl⟩ := af_ hu7
   refine wo_ (cn_ (fv := #[]) (cv := #[(pt_ g6), (pt_ g2)]) rfl arr0 (arr2 rfl e35) ?_)
   obtain ⟨x13, hx13, h1⟩ := bnd h1
   refine wo_ (ar_ (vs := [(.slice z25 m25 k25), (.func (.func 59) #[] #[(pt_ g6), (pt_ g2)])]) (r := (vb x13)) rfl ca58 rfl (bv_ rfl rfl) I35 (fun Fr_ hF_ => fp_ hF_ hu7 ⟨59, [(pt_ g6), (pt_ g2)], rfl, ca59, fun T_ w_ Fr_ u_ x_ r_ hle_ hI_ hu_ hr_ => hints_Secret_1_ok hI_ hu_ (p6.mono hle_) ((p2.mono (le10.trans le11)).mono hle_) hr_⟩ hx13) (fun w23 I36 => (ad_ ?_)))
   rcases ifs h1 with ⟨hc5, h1⟩ | ⟨hc5, h1⟩
   ·
    refine aj_ (b := x13) rfl hc5 (aa_ (wm_ (v := (.slice z23 m23 k23)) rfl e34 (wo_ (ag_ (v := (pt_ g6)) (e := (i1 : Int)) rfl sh3 rfl (p6.at_ I36) (wo_ (bh_ (vs := [(vi (i1 : Int))]) (r := ([(i1 : Int)] : List Int)) rfl Try.underlying28 el3 (hl_ rfl) rfl (by decide) (by decide) ⟨(eh_ _), trivial⟩ I36 (fun u14 w24 I37 => ?_)))))))
    obtain ⟨z26, m26, k26, e39⟩ := bi_ I37
    subst e39
    obtain ⟨x14, hx14, h1⟩ := bnd h1
    refine wo_ (dd_ (α := Int) (v := (.slice z23 m23 k23)) (u := (.slice z26 m26 k26)) rfl rfl Try.underlying28 el3 (by decide) (by decide) rfl rfl (I37.pull 1) (Inv.rowSrc (I37.nth 0 rfl)) hx14 (fun u15 w25 I38 => ?_))
    obtain ⟨z27, m27, k27, e40⟩ := bi_ I38
    subst e40
    refine wa_ (v := (.slice z27 m27 k27)) rfl rfl (ad_ (aa_ (wo_ (bq_ (a := (i1 : Int)) (b := 1) rfl e37 rfl (wm_ (v := (vi (w64 ((i1 : Int) + 1)))) rfl rfl (ad_ ?_))))))
    obtain rfl := sj h1
    exact ⟨_, _, _, _, (le10.trans le11), (I38.pull 1).drop, rfl, e35, e36, (bj_ hlt1 (cnt_le hx12)), ed4⟩
   refine al_ (b := x13) rfl hc5 (au_ (aa_ (wo_ (bq_ (a := (i1 : Int)) (b := 1) rfl e37 rfl (wm_ (v := (vi (w64 ((i1 : Int) + 1)))) rfl rfl (ad_ ?_))))))
   obtain rfl := sj h1
   exact ⟨_, _, _, _, (le10.trans le11), I36, e34, e35, e36, (bj_ hlt1 (cnt_le hx12)), ed4⟩
  rintro f w hI2
  obtain ⟨S12, z28, m28, k28, le12, I39, e41, e42, e43, e44, ed5⟩ := hI2
  refine ab_ (aa_ (wo_ (bg_ (a := (x12 : Int)) (b := x5.Wheels) rfl e44 e43 (ad_ (ab_ (al_ (b := decide ((x12 : Int) < x5.Wheels)) rfl (cnt_f hx12) (bl_ ?_)))))))
  exact ⟨_, _, _, _, le12, I39, e41, e42, e43, ed5⟩
 rintro f w ⟨S13, z24, m24, k24, le13, I40, e45, e46, e47, ed6⟩
 refine ab_ (aa_ (wm_ (v := (.slice z24 m24 k24)) rfl e45 (wa_ (v := (.slice z24 m24 k24)) rfl rfl (wa_ (v := (vi 0)) rfl rfl (ad_ (an_ ?_))))))
 obtain rfl := sj h
 exact ⟨ed6, (Value.tuple #[(.slice z24 m24 k24), (vi 0)]), (res2 rfl rfl rfl), _, [Row (α := Int) 3 (.slice z24 m24 k24) (out1)], ((((le1.trans le2).trans le3).trans le4).trans le13), I40, _, _, _, rfl, rfl⟩
end Go.Proofs.Ytlpdpeghgndmkaa.Pad
