/- A part of the proof: what the functions of the program compute, shown over the model. -/
import Derived.Test.YtlpdpeghgndmkaaGreatHizP
import Derived.Test.YtlpdpeghgndmkaaGreatHizW10
import Derived.KernelRfl
set_option linter.unusedVariables false
set_option maxHeartbeats 4000000
set_option maxRecDepth 100000
namespace Go.Proofs.YtlpdpeghgndmkaaGreat.Pad
open Go Go.Proofs
theorem ss_ {w : World} {S : PH} {Fr : List HP} {a0 : Riddle} {v0 : Value} {a1 : Aid} {v1 : Value} {r : Int × Int} (hI : Inv w S (Fr)) (h0_ : RV S v0 a0) (h1_ : RV S v1 a1) (h : jb_ a0 a1 = some r) :
    Calls Tryz.prog 14 [v0, v1].toArray w (ck_ S Fr (Value.tuple #[(Value.int .i64 (r.1)), (Value.int .i64 (r.2))])) := by
 unfold jb_ at h
 obtain ⟨c1, c2, c3, c4, e1, r1, r2, r3, r4⟩ := Riddle.inv h0_
 subst e1
 obtain ⟨z1, m1, k1, rfl⟩ := ad_ r1
 obtain ⟨z2, m2, k2, rfl⟩ := ad_ r2
 obtain ⟨z3, m3, k3, rfl⟩ := ad_ r3
 obtain ⟨z4, m4, k4, rfl⟩ := ad_ r4
 obtain ⟨c5, e6, r5⟩ := Aid.inv h1_
 subst e6
 obtain ⟨z5, m5, k5, rfl⟩ := ad_ r5
 refine au_ (n := 25) (vs := [(.agg #[(.slice z1 m1 k1), (.slice z2 m2 k2), (.slice z3 m3 k3), (.slice z4 m4 k4)]), (.agg #[(vi a1.Lock), (vi a1.Clue.Kind), (vi a1.Clue.A), (vi a1.Clue.B), (vi a1.Clue.N), (vi a1.Clue.M), (.slice z5 m5 k5), (vb a1.Clue.Not)])]) Tryz.func14 rfl rfl rfl (ab_ (aa_ (wo_ (bk_ (v := (.agg #[(.slice z1 m1 k1), (.slice z2 m2 k2), (.slice z3 m3 k3), (.slice z4 m4 k4)])) rfl hI rfl (fun g1 w1 I1 => ?_)))))
 obtain ⟨S1, le1, I2, p1⟩ := Inv.boxFreeze (x := a0) I1 (Riddle.rv (s := a0) r1 r2 r3 r4)
 refine wo_ (bk_ (v := (.agg #[(vi a1.Lock), (vi a1.Clue.Kind), (vi a1.Clue.A), (vi a1.Clue.B), (vi a1.Clue.N), (vi a1.Clue.M), (.slice z5 m5 k5), (vb a1.Clue.Not)])) rfl I2 rfl (fun g2 w2 I3 => ?_))
 obtain ⟨S2, le2, I4, p2⟩ := Inv.boxFreeze (x := a1) I3 (Aid.rv (s := a1) (r5.mono le1))
 refine wa_ (v := (vi 0)) rfl rfl (wa_ (v := (vi 0)) rfl rfl (ae_ (ab_ (aa_ (wo_ (aj_ (v := (pt_ g1)) (e := a0) rfl gd_ rfl ((p1.mono le2).at_ I4) (fun u1 hu1 => ?_)))))))
 obtain ⟨c6, c7, c8, c9, e8, r6, r7, r8, r9⟩ := Riddle.inv hu1
 subst e8
 obtain ⟨z6, m6, k6, rfl⟩ := ad_ r6
 obtain ⟨z7, m7, k7, rfl⟩ := ad_ r7
 obtain ⟨z8, m8, k8, rfl⟩ := ad_ r8
 obtain ⟨z9, m9, k9, rfl⟩ := ad_ r9
 refine wo_ (aj_ (v := (pt_ g2)) (e := a1) rfl uj_ rfl (p2.at_ I4) (fun u2 hu2 => ?_))
 obtain ⟨c10, e13, r10⟩ := Aid.inv hu2
 subst e13
 obtain ⟨z10, m10, k10, rfl⟩ := ad_ r10
 obtain ⟨x1, hx1, h⟩ := bnd h
 refine wo_ (bn_ (vs := [(.agg #[(.slice z6 m6 k6), (.slice z7 m7 k7), (.slice z8 m8 k8), (.slice z9 m9 k9)]), (.agg #[(vi a1.Lock), (vi a1.Clue.Kind), (vi a1.Clue.A), (vi a1.Clue.B), (vi a1.Clue.N), (vi a1.Clue.M), (.slice z10 m10 k10), (vb a1.Clue.Not)])]) rfl ca37 rfl (bu_ rfl rfl) (kh_ I4 (Riddle.rv (s := a0) r6 r7 r8 r9) (Aid.rv (s := a1) r10) hx1) (fun cv1 w3 S3 O1 le3 I5 hv1 => ?_))
 obtain ⟨c11, c12, rfl, rfl, r11, r12⟩ := hv1
 refine wm_ (v := (Value.tuple #[c11, c12, (vi x1.2.2)])) rfl rfl (wo_ (bi_ (v := c11) rfl rfl rfl (wo_ (bi_ (v := c12) rfl rfl rfl (wo_ (bi_ (v := (vi x1.2.2)) rfl rfl rfl (wa_ (v := c11) rfl rfl (wa_ (v := c12) rfl rfl (wa_ (v := (vi x1.2.2)) rfl rfl (ae_ (ab_ (ab_ (aa_ (wm_ (v := (vi x1.2.2)) rfl rfl (wo_ (cf_ (a := x1.2.2) (b := 0) rfl rfl rfl (ae_ ?_)))))))))))))))))
 rcases ifs h with ⟨hc1, h⟩ | ⟨hc1, h⟩
 ·
  refine al_ (b := x1.2.2 != 0) rfl hc1 (ab_ (aa_ (wm_ (v := (vi x1.2.2)) rfl rfl (wa_ (v := (vi 0)) rfl rfl (wa_ (v := (vi x1.2.2)) rfl rfl (ae_ (an_ ?_)))))))
  obtain rfl := sj h
  exact ⟨rfl, (Value.tuple #[(vi 0), (vi x1.2.2)]), (um_ rfl rfl rfl), _, [], ((le1.trans le2).trans le3), I5, rfl, rfl⟩
 refine am_ (b := x1.2.2 != 0) rfl hc1 (av_ (ab_ ?_))
 obtain ⟨x2, hx2, h⟩ := bnd h
 obtain ⟨x3, hx3, h⟩ := bnd h
 obtain ⟨x4, hx4, h⟩ := bnd h
 refine bj_ (sps := [spV 19 [] 0 c12, ⟨some 20, [0], [1], fun vs_ T_ => ∃ (a0_ : Option Addr) (n0_ k0_ : Nat), fr0 vs_ 0 = (.slice a0_ n0_ k0_), [], [], [0], fun _ h_ => h_⟩, spV 21 [] 2 (ag_ (pt_ g2) 0), spV 22 [2] 3 (vi a1.Lock), ⟨some 23, [0, 1, 2, 3], [4, 1], fun vs_ T_ => fr0 vs_ 0 = (ah_ (fr0 vs_ 1) (a1.Lock) (Enc.sz Int)), [0], [], [], fun _ h_ => h_⟩, ⟨some 24, [0, 1, 2, 3, 4], [5], fun vs_ T_ => fr0 vs_ 0 = (vi x4), [0], [], [], fun _ h_ => h_⟩, spV 4 (lrg 6) 6 (vi x4), spV 5 (lrg 7) 7 (vi 0)]) (tks := [⟨some 1, none, [1], fun vs_ => Row (α := Int) 3 (fr0 vs_ 0) (x3)⟩]) (O := Fr) rfl (by kernel_rfl) I5 ⟨fun vs f w U X l A K I => pl_ rfl (ay_ rfl (K 7 (ak_ rfl)) (fn rfl rfl I)), ?_, fun vs f w U X l A K I => pl_ rfl (ac_ rfl jc_ (K 3 (ak_ rfl)) ((p2.mono (le3.trans l)).at_ I) (fn rfl rfl I)), fun vs f w U X l A K I => pl_ rfl (af_ (e := a1.Lock) rfl sh3 (A.u 0 rfl rfl rfl) (((p2.mono (le3.trans l)).at_ I).fld Aid.fld0) (fn rfl rfl I)), ?_, ?_, fun vs f w U X l A K I => pl_ rfl (bs_ (v := (vi x4)) rfl (A.u 5 rfl rfl rfl) (fn rfl rfl I)), ?_, trivial⟩ ?_
 ·
  intro vs f w_ U X le A K I
  have q1 := A.u 0 rfl rfl rfl
  refine pl_ rfl (bn_ (vs := [c12]) rfl ca42 rfl (ff_ q1) (gu_ I ((oi_ r12 hx2).mono le) hx3) (fun cv2 w6 S6 O2 le6 I8 hv2 => ?_))
  obtain ⟨z11, m11, k11, rfl, rfl⟩ := hv2
  refine ⟨_, _, rfl, le6, ?_, ?_⟩
  · exact ⟨_, _, _, rfl⟩
  exact I8
 ·
  intro vs f w_ U X le A K I
  have I11 : Inv w_ U (Row (α := Int) 3 (vs 1) (x3) :: X) := I
  obtain ⟨z12, m12, k12, e15, q3⟩ := A.rf (a := 1) 1 rfl rfl rfl
  have I12 := I11
  rw [e15] at I12
  have q4 := A.u 3 rfl rfl rfl
  refine pl_ rfl (bd_ (v := (.slice z12 m12 k12)) (i := a1.Lock) (e := x4) rfl Tryz.underlying28 sh3 q3 (Inv.rowSrc (I12.nth 0 rfl)) q4 hx4 (⟨_, _, rfl, lr, ?_, ?_⟩))
  ·
   show (ah_ (Value.slice z12 m12 k12) (a1.Lock) (Enc.sz Int)) = (ah_ (vs 1) (a1.Lock) (Enc.sz Int))
   simp only [e15] <;> rfl
  show Inv _ _ (Row (α := Int) 3 (vs 1) (x3) :: X)
  simp only [e15]
  exact I12
 ·
  intro vs f w_ U X le A K I
  have I13 : Inv w_ U (Row (α := Int) 3 (vs 1) (x3) :: X) := I
  obtain ⟨z13, m13, k13, e16, q5⟩ := A.rf (a := 1) 1 rfl rfl rfl
  have I14 := I13
  rw [e16] at I14
  have q6 := A.u 3 rfl rfl rfl
  have q7 : f 23 = (ah_ (vs 1) (a1.Lock) (Enc.sz Int)) := A.u 4 rfl rfl rfl
  simp only [e16] at q7
  have q7 : f 23 = (ah_ (Value.slice z13 m13 k13) (a1.Lock) (Enc.sz Int)) := q7
  refine pl_ rfl (af_ (e := x4) rfl sh3 q7 ((I14.nth 0 rfl).rowElem hx4) (⟨_, _, rfl, lr, ?_, ?_⟩))
  · exact rfl
  show Inv _ _ (Row (α := Int) 3 (vs 1) (x3) :: X)
  simp only [e16]
  exact I14
 ·
  intro vs f w_ U X le A K I
  refine pl_ rfl (bs_ (v := (vi 0)) rfl rfl (fn rfl rfl I))
 intro vs9 f w13 S13 ed1 le13 hF1 hK9 hI9
 have I17 : Inv w13 S13 (Row (α := Int) 3 (vs9 1) (x3) :: Fr) := hI9
 obtain ⟨z14, m14, k14, e17, q9⟩ := hF1.rf (a := 1) 1 rfl rfl rfl
 have I18 := I17
 rw [e17] at I18
 have q10 := hF1.u 6 rfl rfl rfl
 have q11 := hF1.u 7 rfl rfl rfl
 refine an_ ?_
 obtain rfl := sj h
 exact ⟨(ed1.trans rfl), (Value.tuple #[(vi x4), (vi 0)]), (um_ rfl q10 q11), _, [], (((le1.trans le2).trans le3).trans le13), (I18).drop, rfl, rfl⟩
end Go.Proofs.YtlpdpeghgndmkaaGreat.Pad
