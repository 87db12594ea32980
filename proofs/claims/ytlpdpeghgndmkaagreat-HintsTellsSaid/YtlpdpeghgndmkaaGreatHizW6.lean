/- A part of the proof: what the functions of the program compute, shown over the model. -/
import Derived.Test.YtlpdpeghgndmkaaGreatHizP
import Derived.Test.YtlpdpeghgndmkaaGreatHizW4
import Derived.Test.YtlpdpeghgndmkaaGreatHizW5
import Derived.KernelRfl
set_option linter.unusedVariables false
set_option maxHeartbeats 4000000
set_option maxRecDepth 100000
namespace Go.Proofs.YtlpdpeghgndmkaaGreat.Pad
open Go Go.Proofs
theorem tu_ {w : World} {S : PH} {Fr : List HP} {a0 : Clue} {v0 : Value} {a1 : (List Int)} {v1 : Value} {r : Bool} (hI : Inv w S (Fr)) (h0_ : RV S v0 a0) (h1_ : RV S v1 a1) (h : mk_ a0 a1 = some r) :
    Calls Tryz.prog 139 [v0, v1].toArray w (ck_ S Fr (Value.bool (r))) := by
 unfold mk_ at h
 obtain ⟨c1, e1, r1⟩ := Clue.inv h0_
 subst e1
 obtain ⟨z1, m1, k1, rfl⟩ := ad_ r1
 obtain ⟨z2, m2, k2, rfl⟩ := ad_ h1_
 refine au_ (n := 122) (vs := [(.agg #[(vi a0.Kind), (vi a0.A), (vi a0.B), (vi a0.N), (vi a0.M), (.slice z1 m1 k1), (vb a0.Not)]), (.slice z2 m2 k2)]) Tryz.func139 rfl rfl rfl (ab_ (aa_ (wo_ (bk_ (v := (.agg #[(vi a0.Kind), (vi a0.A), (vi a0.B), (vi a0.N), (vi a0.M), (.slice z1 m1 k1), (vb a0.Not)])) rfl hI rfl (fun g1 w1 I1 => ?_)))))
 obtain ⟨S1, le1, I2, p1⟩ := Inv.boxFreeze (x := a0) I1 (Clue.rv (s := a0) r1)
 refine wa_ (v := (vb false)) rfl rfl (ae_ (ab_ (ab_ (aa_ (wo_ (ac_ (v := (pt_ g1)) rfl qx_ rfl (p1.at_ I2) (wo_ (af_ (v := (ag_ (pt_ g1) 0)) (e := a0.Kind) rfl sh3 rfl ((p1.at_ I2).fld Clue.fld0) (ae_ (aw_ (ab_ (aa_ (wo_ (bq_ (a := a0.Kind) (b := 1) rfl rfl rfl (wa_ (v := (vb (a0.Kind == 1))) rfl rfl (ae_ ?_))))))))))))))))
 rcases ifs h with ⟨hc1, h⟩ | ⟨hc1, h⟩
 ·
  refine al_ (b := a0.Kind == 1) rfl hc1 (ab_ ?_)
  obtain ⟨x1, hx1, h⟩ := bnd h
  refine bj_ (sps := [spV 17 [] 0 (.slice z2 m2 k2), spV 18 [] 1 (ag_ (pt_ g1) 1), spV 19 [1] 2 (vi a0.A), spV 20 [0, 1, 2] 3 (ah_ (.slice z2 m2 k2) (a0.A) (Enc.sz Int)), spV 21 [0, 1, 2, 3] 4 (vi x1), spV 22 [] 5 (ag_ (pt_ g1) 3), spV 23 [5] 6 (vi a0.N), spV 24 (lrg 7) 7 (vb (x1 == a0.N)), spV 4 (lrg 8) 8 (vb (x1 == a0.N))]) (tks := []) (O := Fr) rfl (by kernel_rfl) I2 ⟨fun vs f w U X l A K I => pl_ rfl (ay_ rfl (K 1 (ak_ rfl)) (fn rfl rfl I)), fun vs f w U X l A K I => pl_ rfl (ac_ rfl dc_ (K 2 (ak_ rfl)) ((p1.mono l).at_ I) (fn rfl rfl I)), fun vs f w U X l A K I => pl_ rfl (af_ (e := a0.A) rfl sh3 (A.u 0 rfl rfl rfl) (((p1.mono l).at_ I).fld Clue.fld1) (fn rfl rfl I)), fun vs f w U X l A K I => pl_ rfl (ai_ (v := (.slice z2 m2 k2)) (i := a0.A) (e := x1) rfl Tryz.underlying28 sh3 (A.u 0 rfl rfl rfl) (h1_.mono (le1.trans l)) (A.u 2 rfl rfl rfl) hx1 (fn rfl rfl I)), fun vs f w U X l A K I => pl_ rfl (af_ (e := x1) rfl sh3 (A.u 3 rfl rfl rfl) ((h1_.mono (le1.trans l)).elem I.in_ hx1) (fn rfl rfl I)), fun vs f w U X l A K I => pl_ rfl (ac_ rfl cn_ (K 2 (ak_ rfl)) ((p1.mono l).at_ I) (fn rfl rfl I)), fun vs f w U X l A K I => pl_ rfl (af_ (e := a0.N) rfl sh3 (A.u 0 rfl rfl rfl) (((p1.mono l).at_ I).fld Clue.fld3) (fn rfl rfl I)), fun vs f w U X l A K I => pl_ rfl (bq_ rfl (A.u 4 rfl rfl rfl) (A.u 6 rfl rfl rfl) (fn rfl rfl I)), ?_, trivial⟩ ?_
  ·
   intro vs f w_ U X le A K I
   refine pl_ rfl (bs_ (v := (vb (x1 == a0.N))) rfl (A.u 7 rfl rfl rfl) (fn rfl rfl I))
  intro vs10 f w11 S11 ed1 le11 hF1 hK10 hI10
  have I12 : Inv w11 S11 (Fr) := hI10
  have q9 := hF1.u 8 rfl rfl rfl
  refine an_ ?_
  obtain rfl := sj h
  exact ⟨(ed1.trans rfl), (vb (x1 == a0.N)), (bt_ rfl q9), _, [], (le1.trans le11), I12, rfl, rfl⟩
 refine am_ (b := a0.Kind == 1) rfl hc1 (ab_ (aa_ (wo_ (bq_ (a := a0.Kind) (b := 2) rfl rfl rfl (wa_ (v := (vb (a0.Kind == 2))) rfl rfl (ae_ ?_))))))
 rcases ifs h with ⟨hc2, h⟩ | ⟨hc2, h⟩
 ·
  refine al_ (b := a0.Kind == 2) rfl hc2 (ab_ (aa_ (wa_ (v := (vi 0)) rfl rfl (ae_ (ab_ (ab_ (aa_ (wm_ (v := (.slice z2 m2 k2)) rfl rfl (wo_ (ac_ (v := (pt_ g1)) rfl dc_ rfl (p1.at_ I2) (wo_ (af_ (v := (ag_ (pt_ g1) 1)) (e := a0.A) rfl sh3 rfl ((p1.at_ I2).fld Clue.fld1) (wo_ (ac_ (v := (pt_ g1)) rfl fp_ rfl (p1.at_ I2) (wo_ (af_ (v := (ag_ (pt_ g1) 2)) (e := a0.B) rfl sh3 rfl ((p1.at_ I2).fld Clue.fld2) (wo_ (bo_ (a := a0.B) (b := 1) rfl rfl rfl ?_))))))))))))))))))
  obtain ⟨x2, hx2, h⟩ := bnd h
  refine wo_ (ze_ (v := (.slice z2 m2 k2)) (lo := a0.A) (hi := w64 (a0.B + 1)) rfl Tryz.underlying28 sh3 rfl (h1_.mono le1) rfl rfl hx2 (fun u1 hu1 => ?_))
  obtain ⟨z3, m3, k3, rfl⟩ := ad_ hu1
  refine wo_ (az_ rfl Tryz.underlying28 rfl hu1 (wm_ (v := (vi 0)) rfl rfl (ae_ ?_)))
  have hk1 : x2.length ≤ 9223372036854775807 := (cz_ hu1)
  obtain ⟨out1, hrun1, h⟩ := bnd h
  refine br_ (fun f w => Inv w S1 (Fr) ∧ f 2 = (pt_ g1) ∧ f 5 = (vi out1) ∧ f 33 = (.slice z3 m3 k3) ∧ f 34 = (vi ((x2.length : Int))) ∧ f.ds = []) ?_ ?_
  ·
   refine aw_ ?_
   refine di_ (I := fun (i1 : Nat) (s1 : (Int)) (f : Frm) (w : World) => Inv w S1 (Fr) ∧ f 2 = (pt_ g1) ∧ f 5 = (vi s1) ∧ f 33 = (.slice z3 m3 k3) ∧ f 34 = (vi ((x2.length : Int))) ∧ f 35 = (vi (i1 : Int)) ∧ f.ds = []) hrun1 ⟨I2, rfl, rfl, rfl, rfl, rfl, rfl⟩ ?_ ?_
   ·
    rintro i1 s1 f w o1 hlt1 hI11 h1
    obtain ⟨I16, e20, e21, e22, e23, e24, ed5⟩ := hI11
    refine ab_ (aa_ (wo_ (bh_ rfl e24 e23 (ae_ (ab_ (al_ (b := decide ((i1 : Int) < (x2.length : Int))) rfl (et_ hlt1) (av_ (ab_ (aw_ (ab_ (aa_ ?_)))))))))))
    obtain ⟨x6, hx6, h1⟩ := bnd h1
    refine wo_ (ai_ (v := (.slice z3 m3 k3)) (i := (i1 : Int)) (e := x6) rfl Tryz.underlying28 sh3 e22 hu1 e24 hx6 (wo_ (af_ (v := (ah_ (.slice z3 m3 k3) ((i1 : Int)) (Enc.sz Int))) (e := x6) rfl sh3 rfl (hu1.elem I16.in_ hx6) (wa_ (v := (vi x6)) rfl rfl (ae_ (aa_ (wm_ rfl e21 (wm_ (v := (vi x6)) rfl rfl (wo_ (bo_ (a := s1) (b := x6) rfl rfl rfl (wa_ (v := (vi (w64 (s1 + x6)))) rfl rfl (ae_ (aa_ (wo_ (bo_ (a := (i1 : Int)) (b := 1) rfl e24 rfl (wm_ (v := (vi (w64 ((i1 : Int) + 1)))) rfl rfl (ae_ ?_)))))))))))))))))
    obtain rfl := sj h1
    exact ⟨I16, e20, rfl, e22, e23, (bl_ hlt1 hk1), ed5⟩
   rintro f w hI12
   obtain ⟨I17, e25, e26, e27, e28, e29, ed6⟩ := hI12
   refine ab_ (aa_ (wo_ (bh_ rfl e29 e28 (ae_ (ab_ (am_ (b := decide ((x2.length : Int) < (x2.length : Int))) rfl (eu_ _) (bm_ ?_)))))))
   exact ⟨I17, e25, e26, e27, e28, ed6⟩
  rintro f w ⟨I18, e30, e31, e32, e33, ed7⟩
  refine ab_ (aa_ (wm_ rfl e31 (wo_ (ac_ rfl cn_ e30 (p1.at_ I18) (wo_ (af_ (v := (ag_ (pt_ g1) 3)) (e := a0.N) rfl sh3 rfl ((p1.at_ I18).fld Clue.fld3) (wo_ (bq_ (a := out1) (b := a0.N) rfl rfl rfl (wa_ (v := (vb (out1 == a0.N))) rfl rfl (ae_ (an_ ?_)))))))))))
  obtain rfl := sj h
  exact ⟨ed7, (vb (out1 == a0.N)), (bt_ rfl rfl), _, [], le1, I18, rfl, rfl⟩
 refine am_ (b := a0.Kind == 2) rfl hc2 (ab_ (aa_ (wo_ (bq_ (a := a0.Kind) (b := 3) rfl rfl rfl (wa_ (v := (vb (a0.Kind == 3))) rfl rfl (ae_ ?_))))))
 rcases ifs h with ⟨hc3, h⟩ | ⟨hc3, h⟩
 ·
  refine al_ (b := a0.Kind == 3) rfl hc3 (ab_ ?_)
  obtain ⟨x7, hx7, h⟩ := bnd h
  obtain ⟨x8, hx8, h⟩ := bnd h
  refine bj_ (sps := [spV 49 [] 0 (.slice z2 m2 k2), spV 50 [] 1 (ag_ (pt_ g1) 1), spV 51 [1] 2 (vi a0.A), spV 52 [0, 1, 2] 3 (ah_ (.slice z2 m2 k2) (a0.A) (Enc.sz Int)), spV 53 [0, 1, 2, 3] 4 (vi x7), spV 54 [] 5 (.slice z2 m2 k2), spV 55 [] 6 (ag_ (pt_ g1) 2), spV 56 [6] 7 (vi a0.B), spV 57 [5, 6, 7] 8 (ah_ (.slice z2 m2 k2) (a0.B) (Enc.sz Int)), spV 58 [5, 6, 7, 8] 9 (vi x8), spV 59 (lrg 10) 10 (vb (decide (x7 < x8))), spV 4 (lrg 11) 11 (vb (decide (x7 < x8)))]) (tks := []) (O := Fr) rfl (by kernel_rfl) I2 ⟨fun vs f w U X l A K I => pl_ rfl (ay_ rfl (K 1 (ak_ rfl)) (fn rfl rfl I)), fun vs f w U X l A K I => pl_ rfl (ac_ rfl dc_ (K 2 (ak_ rfl)) ((p1.mono l).at_ I) (fn rfl rfl I)), fun vs f w U X l A K I => pl_ rfl (af_ (e := a0.A) rfl sh3 (A.u 0 rfl rfl rfl) (((p1.mono l).at_ I).fld Clue.fld1) (fn rfl rfl I)), fun vs f w U X l A K I => pl_ rfl (ai_ (v := (.slice z2 m2 k2)) (i := a0.A) (e := x7) rfl Tryz.underlying28 sh3 (A.u 0 rfl rfl rfl) (h1_.mono (le1.trans l)) (A.u 2 rfl rfl rfl) hx7 (fn rfl rfl I)), fun vs f w U X l A K I => pl_ rfl (af_ (e := x7) rfl sh3 (A.u 3 rfl rfl rfl) ((h1_.mono (le1.trans l)).elem I.in_ hx7) (fn rfl rfl I)), fun vs f w U X l A K I => pl_ rfl (ay_ rfl (K 1 (ak_ rfl)) (fn rfl rfl I)), fun vs f w U X l A K I => pl_ rfl (ac_ rfl fp_ (K 2 (ak_ rfl)) ((p1.mono l).at_ I) (fn rfl rfl I)), fun vs f w U X l A K I => pl_ rfl (af_ (e := a0.B) rfl sh3 (A.u 0 rfl rfl rfl) (((p1.mono l).at_ I).fld Clue.fld2) (fn rfl rfl I)), fun vs f w U X l A K I => pl_ rfl (ai_ (v := (.slice z2 m2 k2)) (i := a0.B) (e := x8) rfl Tryz.underlying28 sh3 (A.u 0 rfl rfl rfl) (h1_.mono (le1.trans l)) (A.u 2 rfl rfl rfl) hx8 (fn rfl rfl I)), fun vs f w U X l A K I => pl_ rfl (af_ (e := x8) rfl sh3 (A.u 3 rfl rfl rfl) ((h1_.mono (le1.trans l)).elem I.in_ hx8) (fn rfl rfl I)), fun vs f w U X l A K I => pl_ rfl (bh_ rfl (A.u 4 rfl rfl rfl) (A.u 9 rfl rfl rfl) (fn rfl rfl I)), ?_, trivial⟩ ?_
  ·
   intro vs f w_ U X le A K I
   refine pl_ rfl (bs_ (v := (vb (decide (x7 < x8)))) rfl (A.u 10 rfl rfl rfl) (fn rfl rfl I))
  intro vs23 f w24 S24 ed8 le24 hF2 hK23 hI25
  have I31 : Inv w24 S24 (Fr) := hI25
  have q21 := hF2.u 11 rfl rfl rfl
  refine an_ ?_
  obtain rfl := sj h
  exact ⟨(ed8.trans rfl), (vb (decide (x7 < x8))), (bt_ rfl q21), _, [], (le1.trans le24), I31, rfl, rfl⟩
 refine am_ (b := a0.Kind == 3) rfl hc3 (ab_ (aa_ (wo_ (bq_ (a := a0.Kind) (b := 4) rfl rfl rfl (wa_ (v := (vb (a0.Kind == 4))) rfl rfl (ae_ ?_))))))
 rcases ifs h with ⟨hc4, h⟩ | ⟨hc4, h⟩
 ·
  refine al_ (b := a0.Kind == 4) rfl hc4 (ab_ ?_)
  obtain ⟨x9, hx9, h⟩ := bnd h
  obtain ⟨x10, hx10, h⟩ := bnd h
  refine bj_ (sps := [spV 62 [] 0 (.slice z2 m2 k2), spV 63 [] 1 (ag_ (pt_ g1) 1), spV 64 [1] 2 (vi a0.A), spV 65 [0, 1, 2] 3 (ah_ (.slice z2 m2 k2) (a0.A) (Enc.sz Int)), spV 66 [0, 1, 2, 3] 4 (vi x9), spV 67 [] 5 (.slice z2 m2 k2), spV 68 [] 6 (ag_ (pt_ g1) 2), spV 69 [6] 7 (vi a0.B), spV 70 [5, 6, 7] 8 (ah_ (.slice z2 m2 k2) (a0.B) (Enc.sz Int)), spV 71 [5, 6, 7, 8] 9 (vi x10), spV 72 (lrg 10) 10 (vb (x9 == x10)), spV 4 (lrg 11) 11 (vb (x9 == x10))]) (tks := []) (O := Fr) rfl (by kernel_rfl) I2 ⟨fun vs f w U X l A K I => pl_ rfl (ay_ rfl (K 1 (ak_ rfl)) (fn rfl rfl I)), fun vs f w U X l A K I => pl_ rfl (ac_ rfl dc_ (K 2 (ak_ rfl)) ((p1.mono l).at_ I) (fn rfl rfl I)), fun vs f w U X l A K I => pl_ rfl (af_ (e := a0.A) rfl sh3 (A.u 0 rfl rfl rfl) (((p1.mono l).at_ I).fld Clue.fld1) (fn rfl rfl I)), fun vs f w U X l A K I => pl_ rfl (ai_ (v := (.slice z2 m2 k2)) (i := a0.A) (e := x9) rfl Tryz.underlying28 sh3 (A.u 0 rfl rfl rfl) (h1_.mono (le1.trans l)) (A.u 2 rfl rfl rfl) hx9 (fn rfl rfl I)), fun vs f w U X l A K I => pl_ rfl (af_ (e := x9) rfl sh3 (A.u 3 rfl rfl rfl) ((h1_.mono (le1.trans l)).elem I.in_ hx9) (fn rfl rfl I)), fun vs f w U X l A K I => pl_ rfl (ay_ rfl (K 1 (ak_ rfl)) (fn rfl rfl I)), fun vs f w U X l A K I => pl_ rfl (ac_ rfl fp_ (K 2 (ak_ rfl)) ((p1.mono l).at_ I) (fn rfl rfl I)), fun vs f w U X l A K I => pl_ rfl (af_ (e := a0.B) rfl sh3 (A.u 0 rfl rfl rfl) (((p1.mono l).at_ I).fld Clue.fld2) (fn rfl rfl I)), fun vs f w U X l A K I => pl_ rfl (ai_ (v := (.slice z2 m2 k2)) (i := a0.B) (e := x10) rfl Tryz.underlying28 sh3 (A.u 0 rfl rfl rfl) (h1_.mono (le1.trans l)) (A.u 2 rfl rfl rfl) hx10 (fn rfl rfl I)), fun vs f w U X l A K I => pl_ rfl (af_ (e := x10) rfl sh3 (A.u 3 rfl rfl rfl) ((h1_.mono (le1.trans l)).elem I.in_ hx10) (fn rfl rfl I)), fun vs f w U X l A K I => pl_ rfl (bq_ rfl (A.u 4 rfl rfl rfl) (A.u 9 rfl rfl rfl) (fn rfl rfl I)), ?_, trivial⟩ ?_
  ·
   intro vs f w_ U X le A K I
   refine pl_ rfl (bs_ (v := (vb (x9 == x10))) rfl (A.u 10 rfl rfl rfl) (fn rfl rfl I))
  intro vs36 f w37 S37 ed9 le37 hF3 hK36 hI38
  have I44 : Inv w37 S37 (Fr) := hI38
  have q33 := hF3.u 11 rfl rfl rfl
  refine an_ ?_
  obtain rfl := sj h
  exact ⟨(ed9.trans rfl), (vb (x9 == x10)), (bt_ rfl q33), _, [], (le1.trans le37), I44, rfl, rfl⟩
 refine am_ (b := a0.Kind == 4) rfl hc4 (ab_ (aa_ (wo_ (bq_ (a := a0.Kind) (b := 5) rfl rfl rfl (wa_ (v := (vb (a0.Kind == 5))) rfl rfl (ae_ ?_))))))
 rcases ifs h with ⟨hc5, h⟩ | ⟨hc5, h⟩
 ·
  refine al_ (b := a0.Kind == 5) rfl hc5 (ab_ (aa_ (wa_ (v := (vi 0)) rfl rfl (ae_ (ab_ (ab_ (aa_ (wm_ (v := (.slice z2 m2 k2)) rfl rfl (wo_ (az_ rfl Tryz.underlying28 rfl (h1_.mono le1) (wm_ (v := (vi 0)) rfl rfl (ae_ ?_))))))))))))
  have hk2 : a1.length ≤ 9223372036854775807 := (cz_ h1_)
  obtain ⟨out2, hrun2, h⟩ := bnd h
  refine br_ (fun f w => Inv w S1 (Fr) ∧ f 2 = (pt_ g1) ∧ f 8 = (vi out2) ∧ f 75 = (.slice z2 m2 k2) ∧ f 76 = (vi ((a1.length : Int))) ∧ f.ds = []) ?_ ?_
  ·
   refine aw_ ?_
   refine di_ (I := fun (i2 : Nat) (s2 : (Int)) (f : Frm) (w : World) => Inv w S1 (Fr) ∧ f 2 = (pt_ g1) ∧ f 8 = (vi s2) ∧ f 75 = (.slice z2 m2 k2) ∧ f 76 = (vi ((a1.length : Int))) ∧ f 77 = (vi (i2 : Int)) ∧ f.ds = []) hrun2 ⟨I2, rfl, rfl, rfl, rfl, rfl, rfl⟩ ?_ ?_
   ·
    rintro i2 s2 f w o2 hlt2 hI39 h3
    obtain ⟨I48, e49, e50, e51, e52, e53, ed13⟩ := hI39
    refine ab_ (aa_ (wo_ (bh_ rfl e53 e52 (ae_ (ab_ (al_ (b := decide ((i2 : Int) < (a1.length : Int))) rfl (et_ hlt2) (av_ (ab_ (aw_ (ab_ (aa_ ?_)))))))))))
    obtain ⟨x14, hx14, h3⟩ := bnd h3
    refine wo_ (ai_ (v := (.slice z2 m2 k2)) (i := (i2 : Int)) (e := x14) rfl Tryz.underlying28 sh3 e51 (h1_.mono le1) e53 hx14 (wo_ (af_ (v := (ah_ (.slice z2 m2 k2) ((i2 : Int)) (Enc.sz Int))) (e := x14) rfl sh3 rfl ((h1_.mono le1).elem I48.in_ hx14) (wa_ (v := (vi x14)) rfl rfl (ae_ (ab_ (aa_ (wm_ (v := (vi x14)) rfl rfl (wo_ (ac_ rfl cn_ e49 (p1.at_ I48) (wo_ (af_ (v := (ag_ (pt_ g1) 3)) (e := a0.N) rfl sh3 rfl ((p1.at_ I48).fld Clue.fld3) (wo_ (bq_ (a := x14) (b := a0.N) rfl rfl rfl (ae_ ?_)))))))))))))))
    rcases ifs h3 with ⟨hc9, h3⟩ | ⟨hc9, h3⟩
    ·
     refine al_ (b := x14 == a0.N) rfl hc9 (aa_ (wm_ rfl e50 (wo_ (bo_ (a := s2) (b := 1) rfl rfl rfl (wa_ (v := (vi (w64 (s2 + 1)))) rfl rfl (ae_ (aa_ (wo_ (bo_ (a := (i2 : Int)) (b := 1) rfl e53 rfl (wm_ (v := (vi (w64 ((i2 : Int) + 1)))) rfl rfl (ae_ ?_)))))))))))
     obtain rfl := sj h3
     exact ⟨I48, e49, rfl, e51, e52, (bl_ hlt2 hk2), ed13⟩
    refine am_ (b := x14 == a0.N) rfl hc9 (av_ (aa_ (wo_ (bo_ (a := (i2 : Int)) (b := 1) rfl e53 rfl (wm_ (v := (vi (w64 ((i2 : Int) + 1)))) rfl rfl (ae_ ?_))))))
    obtain rfl := sj h3
    exact ⟨I48, e49, e50, e51, e52, (bl_ hlt2 hk2), ed13⟩
   rintro f w hI40
   obtain ⟨I49, e54, e55, e56, e57, e58, ed14⟩ := hI40
   refine ab_ (aa_ (wo_ (bh_ rfl e58 e57 (ae_ (ab_ (am_ (b := decide ((a1.length : Int) < (a1.length : Int))) rfl (eu_ _) (bm_ ?_)))))))
   exact ⟨I49, e54, e55, e56, e57, ed14⟩
  rintro f w ⟨I50, e59, e60, e61, e62, ed15⟩
  refine ab_ (aa_ (wm_ rfl e60 (wo_ (ac_ rfl ev_ e59 (p1.at_ I50) (wo_ (af_ (v := (ag_ (pt_ g1) 4)) (e := a0.M) rfl sh3 rfl ((p1.at_ I50).fld Clue.fld4) (wo_ (bq_ (a := out2) (b := a0.M) rfl rfl rfl (wa_ (v := (vb (out2 == a0.M))) rfl rfl (ae_ (an_ ?_)))))))))))
  obtain rfl := sj h
  exact ⟨ed15, (vb (out2 == a0.M)), (bt_ rfl rfl), _, [], le1, I50, rfl, rfl⟩
 refine am_ (b := a0.Kind == 5) rfl hc5 (ab_ (aa_ (wo_ (bq_ (a := a0.Kind) (b := 6) rfl rfl rfl (wa_ (v := (vb (a0.Kind == 6))) rfl rfl (ae_ ?_))))))
 rcases ifs h with ⟨hc10, h⟩ | ⟨hc10, h⟩
 ·
  refine al_ (b := a0.Kind == 6) rfl hc10 (ab_ (aa_ (wm_ (v := (.slice z2 m2 k2)) rfl rfl (wo_ (ac_ (v := (pt_ g1)) rfl jl_ rfl (p1.at_ I2) (wo_ (aj_ (v := (ag_ (pt_ g1) 5)) (e := a0.Guess) rfl fm_ rfl ((p1.at_ I2).fld Clue.fld5) (fun u2 hu2 => ?_))))))))
  obtain ⟨z4, m4, k4, rfl⟩ := ad_ hu2
  obtain ⟨x15, hx15, h⟩ := bnd h
  refine wo_ (aq_ (vs := [(.slice z2 m2 k2), (.slice z4 m4 k4)]) (r := (Value.tuple #[(vi x15.1), (vi x15.2)])) rfl ca143 rfl (bu_ rfl rfl) I2 (fun Fr_ hF_ => sy_ hF_ (h1_.mono le1) hu2 hx15) (fun w38 I51 => (wm_ (v := (Value.tuple #[(vi x15.1), (vi x15.2)])) rfl rfl (wo_ (bi_ (v := (vi x15.1)) rfl rfl rfl (wo_ (bi_ (v := (vi x15.2)) rfl rfl rfl (wa_ (v := (vi x15.1)) rfl rfl (wa_ (v := (vi x15.2)) rfl rfl (ae_ (ab_ (aa_ (wm_ (v := (vi x15.1)) rfl rfl (wo_ (ac_ (v := (pt_ g1)) rfl cn_ rfl (p1.at_ I51) (wo_ (af_ (v := (ag_ (pt_ g1) 3)) (e := a0.N) rfl sh3 rfl ((p1.at_ I51).fld Clue.fld3) (wo_ (bq_ (a := x15.1) (b := a0.N) rfl rfl rfl (wm_ (v := (vb (x15.1 == a0.N))) rfl rfl ?_))))))))))))))))))))
  rcases ifs h with ⟨hc11, h⟩ | ⟨hc11, h⟩
  ·
   refine wk_ rfl rfl hc11 (ay_ (v := (vi x15.2)) rfl rfl (wk_ rfl rfl hc11 (ac_ (v := (pt_ g1)) rfl ev_ rfl (p1.at_ I51) (wk_ rfl rfl hc11 (af_ (v := (ag_ (pt_ g1) 4)) (e := a0.M) rfl sh3 rfl ((p1.at_ I51).fld Clue.fld4) (wk_ rfl rfl hc11 (bq_ (a := x15.2) (b := a0.M) rfl rfl rfl (wo_ (ba_ (c := x15.1 == a0.N) (a := (vb (x15.2 == a0.M))) rfl rfl hc11 rfl (wa_ (v := (vb (x15.2 == a0.M))) rfl rfl (ae_ (an_ ?_))))))))))))
   obtain rfl := sj h
   exact ⟨rfl, (vb (x15.2 == a0.M)), (bt_ rfl rfl), _, [], le1, I51, rfl, rfl⟩
  refine ws_ rfl rfl hc11 (ws_ rfl rfl hc11 (ws_ rfl rfl hc11 (ws_ rfl rfl hc11 (wo_ (ar_ (c := x15.1 == a0.N) (b := (vb false)) rfl rfl hc11 rfl (wa_ (v := (vb false)) rfl rfl (ae_ (an_ ?_))))))))
  obtain rfl := sj h
  exact ⟨rfl, (vb false), (bt_ rfl rfl), _, [], le1, I51, rfl, rfl⟩
 refine am_ (b := a0.Kind == 6) rfl hc10 (av_ (ab_ ?_))
 obtain ⟨x16, hx16, h⟩ := bnd h
 obtain ⟨x17, hx17, h⟩ := bnd h
 refine bj_ (sps := [spV 111 [] 0 (.slice z2 m2 k2), spV 112 [] 1 (ag_ (pt_ g1) 1), spV 113 [1] 2 (vi a0.A), spV 114 [0, 1, 2] 3 (ah_ (.slice z2 m2 k2) (a0.A) (Enc.sz Int)), spV 115 [0, 1, 2, 3] 4 (vi x16), spV 116 [] 5 (ag_ (pt_ g1) 3), spV 117 [5] 6 (vi a0.N), spV 118 (lrg 7) 7 (vi x17), spV 119 [] 8 (ag_ (pt_ g1) 4), spV 120 [8] 9 (vi a0.M), spV 121 (lrg 10) 10 (vb (x17 == a0.M)), spV 4 (lrg 11) 11 (vb (x17 == a0.M))]) (tks := []) (O := Fr) rfl (by kernel_rfl) I2 ⟨fun vs f w U X l A K I => pl_ rfl (ay_ rfl (K 1 (ak_ rfl)) (fn rfl rfl I)), fun vs f w U X l A K I => pl_ rfl (ac_ rfl dc_ (K 2 (ak_ rfl)) ((p1.mono l).at_ I) (fn rfl rfl I)), fun vs f w U X l A K I => pl_ rfl (af_ (e := a0.A) rfl sh3 (A.u 0 rfl rfl rfl) (((p1.mono l).at_ I).fld Clue.fld1) (fn rfl rfl I)), fun vs f w U X l A K I => pl_ rfl (ai_ (v := (.slice z2 m2 k2)) (i := a0.A) (e := x16) rfl Tryz.underlying28 sh3 (A.u 0 rfl rfl rfl) (h1_.mono (le1.trans l)) (A.u 2 rfl rfl rfl) hx16 (fn rfl rfl I)), fun vs f w U X l A K I => pl_ rfl (af_ (e := x16) rfl sh3 (A.u 3 rfl rfl rfl) ((h1_.mono (le1.trans l)).elem I.in_ hx16) (fn rfl rfl I)), fun vs f w U X l A K I => pl_ rfl (ac_ rfl cn_ (K 2 (ak_ rfl)) ((p1.mono l).at_ I) (fn rfl rfl I)), fun vs f w U X l A K I => pl_ rfl (af_ (e := a0.N) rfl sh3 (A.u 0 rfl rfl rfl) (((p1.mono l).at_ I).fld Clue.fld3) (fn rfl rfl I)), fun vs f w U X l A K I => pl_ rfl (op_rem (a := x16) (b := a0.N) rfl (A.u 4 rfl rfl rfl) (A.u 6 rfl rfl rfl) hx17 (fn rfl rfl I)), fun vs f w U X l A K I => pl_ rfl (ac_ rfl ev_ (K 2 (ak_ rfl)) ((p1.mono l).at_ I) (fn rfl rfl I)), fun vs f w U X l A K I => pl_ rfl (af_ (e := a0.M) rfl sh3 (A.u 0 rfl rfl rfl) (((p1.mono l).at_ I).fld Clue.fld4) (fn rfl rfl I)), fun vs f w U X l A K I => pl_ rfl (bq_ rfl (A.u 7 rfl rfl rfl) (A.u 9 rfl rfl rfl) (fn rfl rfl I)), ?_, trivial⟩ ?_
 ·
  intro vs f w_ U X le A K I
  refine pl_ rfl (bs_ (v := (vb (x17 == a0.M))) rfl (A.u 10 rfl rfl rfl) (fn rfl rfl I))
 intro vs49 f w51 S50 ed16 le50 hF4 hK49 hI53
 have I64 : Inv w51 S50 (Fr) := hI53
 have q45 := hF4.u 11 rfl rfl rfl
 refine an_ ?_
 obtain rfl := sj h
 exact ⟨(ed16.trans rfl), (vb (x17 == a0.M)), (bt_ rfl q45), _, [], (le1.trans le50), I64, rfl, rfl⟩
theorem od_ {w : World} {S : PH} {Fr : List HP} {a0 : Clue} {v0 : Value} {a1 : (List Int)} {v1 : Value} {r : Bool} (hI : Inv w S (Fr)) (h0_ : RV S v0 a0) (h1_ : RV S v1 a1) (h : gm_ a0 a1 = some r) :
    Calls Tryz.prog 129 [v0, v1].toArray w (ck_ S Fr (Value.bool (r))) := by
 unfold gm_ at h
 obtain ⟨c1, e1, r1⟩ := Clue.inv h0_
 subst e1
 obtain ⟨z1, m1, k1, rfl⟩ := ad_ r1
 obtain ⟨z2, m2, k2, rfl⟩ := ad_ h1_
 refine au_ (n := 11) (vs := [(.agg #[(vi a0.Kind), (vi a0.A), (vi a0.B), (vi a0.N), (vi a0.M), (.slice z1 m1 k1), (vb a0.Not)]), (.slice z2 m2 k2)]) Tryz.func129 rfl rfl rfl (ab_ (aa_ (wo_ (bk_ (v := (.agg #[(vi a0.Kind), (vi a0.A), (vi a0.B), (vi a0.N), (vi a0.M), (.slice z1 m1 k1), (vb a0.Not)])) rfl hI rfl (fun g1 w1 I1 => ?_)))))
 obtain ⟨S1, le1, I2, p1⟩ := Inv.boxFreeze (x := a0) I1 (Clue.rv (s := a0) r1)
 refine wa_ (v := (vb false)) rfl rfl (ae_ (ab_ ?_))
 obtain ⟨x1, hx1, h⟩ := bnd h
 refine bj_ (sps := [spR 5 [] 0 a0, spV 6 [] 1 (.slice z2 m2 k2), spV 7 [0, 1] 2 (vb x1), spV 8 [] 3 (ag_ (pt_ g1) 6), spV 9 [3] 4 (vb a0.Not), spV 10 [0, 1, 2, 3, 4] 5 (vb (x1 != a0.Not)), spV 4 (lrg 6) 6 (vb (x1 != a0.Not))]) (tks := []) (O := Fr) rfl (by kernel_rfl) I2 ⟨?_, fun vs f w U X l A K I => pl_ rfl (ay_ rfl (K 1 (ak_ rfl)) (fn rfl rfl I)), ?_, fun vs f w U X l A K I => pl_ rfl (ac_ rfl ky_ (K 2 (ak_ rfl)) ((p1.mono l).at_ I) (fn rfl rfl I)), fun vs f w U X l A K I => pl_ rfl (ci_ (e := a0.Not) rfl sh4 (A.u 0 rfl rfl rfl) (((p1.mono l).at_ I).fld Clue.fld6) (fn rfl rfl I)), fun vs f w U X l A K I => pl_ rfl (lf_ (a := x1) (b := a0.Not) rfl Tryz.underlying4 (A.u 2 rfl rfl rfl) (A.u 4 rfl rfl rfl) (fn rfl rfl I)), ?_, trivial⟩ ?_
 ·
  intro vs f w_ U X le A K I
  refine pl_ rfl (aj_ (e := a0) rfl ji_ (K 2 (ak_ rfl)) ((p1.mono le).at_ I) (fun u2 hu2 => ?_))
  obtain ⟨c2, e4, r2⟩ := Clue.inv hu2
  subst e4
  obtain ⟨z3, m3, k3, rfl⟩ := ad_ r2
  refine ⟨_, _, rfl, lr, ?_, ?_⟩
  · exact (Clue.rv (s := a0) r2)
  exact I
 ·
  intro vs f w_ U X le A K I
  have q1 : f 5 = vs 0 := (A.at_ 0 rfl _ rfl).1 _ rfl
  have r3 : RV U (vs 0) a0 := (A.at_ 0 rfl _ rfl).2
  obtain ⟨u3, hu3⟩ : ∃ u, vs 0 = u := ⟨_, rfl⟩
  rw [hu3] at q1 r3
  obtain ⟨c3, e6, r4⟩ := Clue.inv r3
  subst e6
  obtain ⟨z4, m4, k4, rfl⟩ := ad_ r4
  refine pl_ rfl (aq_ (vs := [(.agg #[(vi a0.Kind), (vi a0.A), (vi a0.B), (vi a0.N), (vi a0.M), (.slice z4 m4 k4), (vb a0.Not)]), (.slice z2 m2 k2)]) (r := (vb x1)) rfl ca139 rfl (bu_ q1 (A.u 1 rfl rfl rfl)) I (fun Fr_ hF_ => tu_ hF_ (Clue.rv (s := a0) r4) (h1_.mono (le1.trans le)) hx1) (fun w6 I7 => (fn rfl rfl I7)))
 ·
  intro vs f w_ U X le A K I
  refine pl_ rfl (bs_ (v := (vb (x1 != a0.Not))) rfl (A.u 5 rfl rfl rfl) (fn rfl rfl I))
 intro vs8 f w11 S9 ed1 le9 hF1 hK8 hI8
 have I12 : Inv w11 S9 (Fr) := hI8
 have q7 := hF1.u 6 rfl rfl rfl
 refine an_ ?_
 obtain rfl := sj h
 exact ⟨(ed1.trans rfl), (vb (x1 != a0.Not)), (bt_ rfl q7), _, [], (le1.trans le9), I12, rfl, rfl⟩
theorem tv_ {w : World} {S : PH} {Fr : List HP} {a0 : CodeLock} {v0 : Value} {a1 : Clue} {v1 : Value} {a2 : (List Int)} {v2 : Value} {r : Bool × Int} (hI : Inv w S (Fr)) (h0_ : RV S v0 a0) (h1_ : RV S v1 a1) (h2_ : RV S v2 a2) (h : kn_ a0 a1 a2 = some r) :
    Calls Tryz.prog 118 [v0, v1, v2].toArray w (ck_ S Fr (Value.tuple #[(Value.bool (r.1)), (Value.int .i64 (r.2))])) := by
 unfold kn_ at h
 have e1 := CodeLock.inv h0_
 subst e1
 obtain ⟨c1, e2, r1⟩ := Clue.inv h1_
 subst e2
 obtain ⟨z1, m1, k1, rfl⟩ := ad_ r1
 obtain ⟨z2, m2, k2, rfl⟩ := ad_ h2_
 refine au_ (n := 25) (vs := [(.agg #[(vi a0.Wheels), (vi a0.Symbols)]), (.agg #[(vi a1.Kind), (vi a1.A), (vi a1.B), (vi a1.N), (vi a1.M), (.slice z1 m1 k1), (vb a1.Not)]), (.slice z2 m2 k2)]) Tryz.func118 rfl rfl rfl (ab_ (aa_ (wo_ (bk_ (v := (.agg #[(vi a0.Wheels), (vi a0.Symbols)])) rfl hI rfl (fun g1 w1 I1 => ?_)))))
 obtain ⟨S1, le1, I2, p1⟩ := Inv.boxFreeze (x := a0) I1 (CodeLock.rv (s := a0))
 refine wo_ (bk_ (v := (.agg #[(vi a1.Kind), (vi a1.A), (vi a1.B), (vi a1.N), (vi a1.M), (.slice z1 m1 k1), (vb a1.Not)])) rfl I2 rfl (fun g2 w2 I3 => ?_))
 obtain ⟨S2, le2, I4, p2⟩ := Inv.boxFreeze (x := a1) I3 (Clue.rv (s := a1) (r1.mono le1))
 refine wa_ (v := (vb false)) rfl rfl (wa_ (v := (vi 0)) rfl rfl (ae_ (ab_ (ab_ (aa_ (wo_ (aj_ (v := (pt_ g1)) (e := a0) rfl hd_ rfl ((p1.mono le2).at_ I4) (fun u1 hu1 => ?_))))))))
 have e5 := CodeLock.inv hu1
 subst e5
 refine wo_ (aj_ (v := (pt_ g2)) (e := a1) rfl ji_ rfl (p2.at_ I4) (fun u2 hu2 => ?_))
 obtain ⟨c2, e6, r2⟩ := Clue.inv hu2
 subst e6
 obtain ⟨z3, m3, k3, rfl⟩ := ad_ r2
 obtain ⟨x1, hx1, h⟩ := bnd h
 refine wo_ (aq_ (vs := [(.agg #[(vi a0.Wheels), (vi a0.Symbols)]), (.agg #[(vi a1.Kind), (vi a1.A), (vi a1.B), (vi a1.N), (vi a1.M), (.slice z3 m3 k3), (vb a1.Not)])]) (r := (vi x1)) rfl ca128 rfl (bu_ rfl rfl) I4 (fun Fr_ hF_ => qb_ hF_ (CodeLock.rv (s := a0)) (Clue.rv (s := a1) r2) hx1) (fun w3 I5 => (wa_ (v := (vi x1)) rfl rfl (ae_ (ab_ (aa_ (wm_ (v := (vi x1)) rfl rfl (wo_ (cf_ (a := x1) (b := 0) rfl rfl rfl (ae_ ?_))))))))))
 rcases ifs h with ⟨hc1, h⟩ | ⟨hc1, h⟩
 ·
  refine al_ (b := x1 != 0) rfl hc1 (ab_ (aa_ (wm_ (v := (vi x1)) rfl rfl (wa_ (v := (vb false)) rfl rfl (wa_ (v := (vi x1)) rfl rfl (ae_ (an_ ?_)))))))
  obtain rfl := sj h
  exact ⟨rfl, (Value.tuple #[(vb false), (vi x1)]), (um_ rfl rfl rfl), _, [], (le1.trans le2), I5, rfl, rfl⟩
 refine am_ (b := x1 != 0) rfl hc1 (av_ (ab_ (ab_ (aa_ (wo_ (aj_ (v := (pt_ g1)) (e := a0) rfl hd_ rfl ((p1.mono le2).at_ I5) (fun u3 hu3 => ?_)))))))
 have e8 := CodeLock.inv hu3
 subst e8
 refine wm_ (v := (.slice z2 m2 k2)) rfl rfl ?_
 obtain ⟨x2, hx2, h⟩ := bnd h
 refine wo_ (aq_ (vs := [(.agg #[(vi a0.Wheels), (vi a0.Symbols)]), (.slice z2 m2 k2)]) (r := (vi x2)) rfl ca108 rfl (bu_ rfl rfl) I5 (fun Fr_ hF_ => fz_ hF_ (CodeLock.rv (s := a0)) (h2_.mono (le1.trans le2)) hx2) (fun w4 I6 => (wa_ (v := (vi x2)) rfl rfl (ae_ (ab_ (aa_ (wm_ (v := (vi x2)) rfl rfl (wo_ (cf_ (a := x2) (b := 0) rfl rfl rfl (ae_ ?_))))))))))
 rcases ifs h with ⟨hc2, h⟩ | ⟨hc2, h⟩
 ·
  refine al_ (b := x2 != 0) rfl hc2 (ab_ (aa_ (wm_ (v := (vi x2)) rfl rfl (wa_ (v := (vb false)) rfl rfl (wa_ (v := (vi x2)) rfl rfl (ae_ (an_ ?_)))))))
  obtain rfl := sj h
  exact ⟨rfl, (Value.tuple #[(vb false), (vi x2)]), (um_ rfl rfl rfl), _, [], (le1.trans le2), I6, rfl, rfl⟩
 refine am_ (b := x2 != 0) rfl hc2 (av_ (ab_ (aa_ (wo_ (aj_ (v := (pt_ g2)) (e := a1) rfl ji_ rfl (p2.at_ I6) (fun u4 hu4 => ?_))))))
 obtain ⟨c3, e9, r3⟩ := Clue.inv hu4
 subst e9
 obtain ⟨z4, m4, k4, rfl⟩ := ad_ r3
 refine wm_ (v := (.slice z2 m2 k2)) rfl rfl ?_
 obtain ⟨x3, hx3, h⟩ := bnd h
 refine wo_ (aq_ (vs := [(.agg #[(vi a1.Kind), (vi a1.A), (vi a1.B), (vi a1.N), (vi a1.M), (.slice z4 m4 k4), (vb a1.Not)]), (.slice z2 m2 k2)]) (r := (vb x3)) rfl ca129 rfl (bu_ rfl rfl) I6 (fun Fr_ hF_ => od_ hF_ (Clue.rv (s := a1) r3) (h2_.mono (le1.trans le2)) hx3) (fun w5 I7 => (wa_ (v := (vb x3)) rfl rfl (wa_ (v := (vi 0)) rfl rfl (ae_ (an_ ?_))))))
 obtain rfl := sj h
 exact ⟨rfl, (Value.tuple #[(vb x3), (vi 0)]), (um_ rfl rfl rfl), _, [], (le1.trans le2), I7, rfl, rfl⟩
theorem pu_ {w : World} {S : PH} {Fr : List HP} {a0 : Riddle} {v0 : Value} {a1 : Int} {a2 : Clue} {v2 : Value} {r : Bool} (hI : Inv w S (Fr)) (h0_ : RV S v0 a0) (h2_ : RV S v2 a2) (h : jr_ a0 a1 a2 = some r) :
    Calls Tryz.prog 98 [v0, (Value.int .i64 (a1)), v2].toArray w (ck_ S Fr (Value.bool (r))) := by
 unfold jr_ at h
 obtain ⟨c1, c2, c3, c4, e1, r1, r2, r3, r4⟩ := Riddle.inv h0_
 subst e1
 obtain ⟨z1, m1, k1, rfl⟩ := ad_ r1
 obtain ⟨z2, m2, k2, rfl⟩ := ad_ r2
 obtain ⟨z3, m3, k3, rfl⟩ := ad_ r3
 obtain ⟨z4, m4, k4, rfl⟩ := ad_ r4
 obtain ⟨c5, e6, r5⟩ := Clue.inv h2_
 subst e6
 obtain ⟨z5, m5, k5, rfl⟩ := ad_ r5
 refine au_ (n := 29) (vs := [(.agg #[(.slice z1 m1 k1), (.slice z2 m2 k2), (.slice z3 m3 k3), (.slice z4 m4 k4)]), (vi a1), (.agg #[(vi a2.Kind), (vi a2.A), (vi a2.B), (vi a2.N), (vi a2.M), (.slice z5 m5 k5), (vb a2.Not)])]) Tryz.func98 rfl rfl rfl (ab_ (aa_ (wo_ (bk_ (v := (.agg #[(.slice z1 m1 k1), (.slice z2 m2 k2), (.slice z3 m3 k3), (.slice z4 m4 k4)])) rfl hI rfl (fun g1 w1 I1 => ?_)))))
 obtain ⟨S1, le1, I2, p1⟩ := Inv.boxFreeze (x := a0) I1 (Riddle.rv (s := a0) r1 r2 r3 r4)
 refine wo_ (bk_ (v := (.agg #[(vi a2.Kind), (vi a2.A), (vi a2.B), (vi a2.N), (vi a2.M), (.slice z5 m5 k5), (vb a2.Not)])) rfl I2 rfl (fun g2 w2 I3 => ?_))
 obtain ⟨S2, le2, I4, p2⟩ := Inv.boxFreeze (x := a2) I3 (Clue.rv (s := a2) (r5.mono le1))
 refine wa_ (v := (vb false)) rfl rfl (ae_ (ab_ ?_))
 obtain ⟨x1, hx1, h⟩ := bnd h
 obtain ⟨x2, hx2, h⟩ := bnd h
 obtain ⟨x3, hx3, h⟩ := bnd h
 refine bj_ (sps := [spV 10 [] 0 (ag_ (pt_ g1) 0), spR 11 [0] 1 (a0.Locks), spV 12 [] 2 (vi a1), spW 13 [0, 1, 2] [3, 1] fun vs_ => (ah_ (fr0 vs_ 1) (a1) (Enc.sz CodeLock)), spV 14 [0, 1, 2, 3] 4 (.agg #[(vi x1.Wheels), (vi x1.Symbols)]), spR 15 [] 5 a2, spV 16 [] 6 (ag_ (pt_ g1) 1), spR 17 [6] 7 (a0.Codes), spV 18 [] 8 (vi a1), spW 19 [6, 7, 8] [9, 7] fun vs_ => (ah_ (fr0 vs_ 1) (a1) (Enc.sz (List Int))), spR 20 [6, 7, 8, 9] 10 x2, spV 21 (lrg 11) 11 (Value.tuple #[(vb x3.1), (vi x3.2)]), spV 9 (lrg 12) 12 (Value.tuple #[(vb x3.1), (vi x3.2)]), spV 22 (lrg 13) 13 (vb x3.1), spV 23 (lrg 13) 14 (vi x3.2), spV 7 (lrg 14) 15 (vb x3.1), spV 8 (lrg 16) 16 (vi x3.2)]) (tks := []) (O := Fr) rfl (by kernel_rfl) I4 ⟨fun vs f w U X l A K I => pl_ rfl (ac_ rfl cj_ (K 3 (ak_ rfl)) ((p1.mono (le2.trans l)).at_ I) (fn rfl rfl I)), ?_, fun vs f w U X l A K I => pl_ rfl (ay_ rfl (K 1 (ak_ rfl)) (fn rfl rfl I)), ?_, ?_, ?_, fun vs f w U X l A K I => pl_ rfl (ac_ rfl gk_ (K 3 (ak_ rfl)) ((p1.mono (le2.trans l)).at_ I) (fn rfl rfl I)), ?_, fun vs f w U X l A K I => pl_ rfl (ay_ rfl (K 1 (ak_ rfl)) (fn rfl rfl I)), ?_, ?_, ?_, fun vs f w U X l A K I => pl_ rfl (ay_ rfl (A.u 11 rfl rfl rfl) (fn rfl rfl I)), fun vs f w U X l A K I => pl_ rfl (bi_ (v := (vb x3.1)) rfl (A.u 12 rfl rfl rfl) rfl (fn rfl rfl I)), fun vs f w U X l A K I => pl_ rfl (bi_ (v := (vi x3.2)) rfl (A.u 12 rfl rfl rfl) rfl (fn rfl rfl I)), fun vs f w U X l A K I => pl_ rfl (bs_ (v := (vb x3.1)) rfl (A.u 13 rfl rfl rfl) (fn rfl rfl I)), ?_, trivial⟩ ?_
 ·
  intro vs f w_ U X le A K I
  have q1 := A.u 0 rfl rfl rfl
  refine pl_ rfl (aj_ (e := a0.Locks) rfl jw_ q1 (((p1.mono (le2.trans le)).at_ I).fld Riddle.fld0) (fun u6 hu6 => ?_))
  obtain ⟨z6, m6, k6, rfl⟩ := ad_ hu6
  refine ⟨_, _, rfl, lr, ?_, ?_⟩
  · exact hu6
  exact I
 ·
  intro vs f w_ U X le A K I
  obtain ⟨z7, m7, k7, hu7, q2, r6⟩ := A.sl (a := 1) 1 rfl rfl rfl
  have q3 := A.u 2 rfl rfl rfl
  refine pl_ rfl (ai_ (v := (.slice z7 m7 k7)) (i := a1) (e := x1) rfl Tryz.underlying22 hd_ q2 r6 q3 hx1 (⟨_, _, rfl, lr, ?_, ?_⟩))
  ·
   show (ah_ (Value.slice z7 m7 k7) (a1) (Enc.sz CodeLock)) = (ah_ (vs 1) (a1) (Enc.sz CodeLock))
   simp only [hu7] <;> rfl
  exact I
 ·
  intro vs f w_ U X le A K I
  obtain ⟨z8, m8, k8, hu8, q4, r7⟩ := A.sl (a := 1) 1 rfl rfl rfl
  have q5 := A.u 2 rfl rfl rfl
  have q6 : f 13 = (ah_ (vs 1) (a1) (Enc.sz CodeLock)) := A.u 3 rfl rfl rfl
  simp only [hu8] at q6
  have q6 : f 13 = (ah_ (Value.slice z8 m8 k8) (a1) (Enc.sz CodeLock)) := q6
  refine pl_ rfl (aj_ (e := x1) rfl hd_ q6 (r7.elem I.in_ hx1) (fun u9 hu9 => ?_))
  have e11 := CodeLock.inv hu9
  subst e11
  refine ⟨_, _, rfl, lr, ?_, ?_⟩
  · exact rfl
  exact I
 ·
  intro vs f w_ U X le A K I
  refine pl_ rfl (aj_ (e := a2) rfl ji_ (K 5 (ak_ rfl)) ((p2.mono le).at_ I) (fun u10 hu10 => ?_))
  obtain ⟨c6, e12, r8⟩ := Clue.inv hu10
  subst e12
  obtain ⟨z9, m9, k9, rfl⟩ := ad_ r8
  refine ⟨_, _, rfl, lr, ?_, ?_⟩
  · exact (Clue.rv (s := a2) r8)
  exact I
 ·
  intro vs f w_ U X le A K I
  have q7 := A.u 0 rfl rfl rfl
  refine pl_ rfl (aj_ (e := a0.Codes) rfl kp_ q7 (((p1.mono (le2.trans le)).at_ I).fld Riddle.fld1) (fun u11 hu11 => ?_))
  obtain ⟨z10, m10, k10, rfl⟩ := ad_ hu11
  refine ⟨_, _, rfl, lr, ?_, ?_⟩
  · exact hu11
  exact I
 ·
  intro vs f w_ U X le A K I
  obtain ⟨z11, m11, k11, hu12, q8, r9⟩ := A.sl (a := 7) 1 rfl rfl rfl
  have q9 := A.u 2 rfl rfl rfl
  refine pl_ rfl (ai_ (v := (.slice z11 m11 k11)) (i := a1) (e := x2) rfl Tryz.underlying23 fm_ q8 r9 q9 hx2 (⟨_, _, rfl, lr, ?_, ?_⟩))
  ·
   show (ah_ (Value.slice z11 m11 k11) (a1) (Enc.sz (List Int))) = (ah_ (vs 7) (a1) (Enc.sz (List Int)))
   simp only [hu12] <;> rfl
  exact I
 ·
  intro vs f w_ U X le A K I
  obtain ⟨z12, m12, k12, hu13, q10, r10⟩ := A.sl (a := 7) 1 rfl rfl rfl
  have q11 := A.u 2 rfl rfl rfl
  have q12 : f 19 = (ah_ (vs 7) (a1) (Enc.sz (List Int))) := A.u 3 rfl rfl rfl
  simp only [hu13] at q12
  have q12 : f 19 = (ah_ (Value.slice z12 m12 k12) (a1) (Enc.sz (List Int))) := q12
  refine pl_ rfl (aj_ (e := x2) rfl fm_ q12 (r10.elem I.in_ hx2) (fun u14 hu14 => ?_))
  obtain ⟨z13, m13, k13, rfl⟩ := ad_ hu14
  refine ⟨_, _, rfl, lr, ?_, ?_⟩
  · exact hu14
  exact I
 ·
  intro vs f w_ U X le A K I
  have q14 : f 15 = vs 5 := (A.at_ 5 rfl _ rfl).1 _ rfl
  have r11 : RV U (vs 5) a2 := (A.at_ 5 rfl _ rfl).2
  obtain ⟨u15, hu15⟩ : ∃ u, vs 5 = u := ⟨_, rfl⟩
  rw [hu15] at q14 r11
  obtain ⟨c7, e18, r12⟩ := Clue.inv r11
  subst e18
  obtain ⟨z14, m14, k14, rfl⟩ := ad_ r12
  obtain ⟨z15, m15, k15, hu16, q15, r13⟩ := A.sl (a := 10) 10 rfl rfl rfl
  refine pl_ rfl (aq_ (vs := [(.agg #[(vi x1.Wheels), (vi x1.Symbols)]), (.agg #[(vi a2.Kind), (vi a2.A), (vi a2.B), (vi a2.N), (vi a2.M), (.slice z14 m14 k14), (vb a2.Not)]), (.slice z15 m15 k15)]) (r := (Value.tuple #[(vb x3.1), (vi x3.2)])) rfl ca118 rfl (dh_ (A.u 4 rfl rfl rfl) q14 q15) I (fun Fr_ hF_ => tv_ hF_ (CodeLock.rv (s := x1)) (Clue.rv (s := a2) r12) r13 hx3) (fun w16 I18 => (fn rfl rfl I18)))
 ·
  intro vs f w_ U X le A K I
  refine pl_ rfl (bs_ (v := (vi x3.2)) rfl (A.u 14 rfl rfl rfl) (fn rfl rfl I))
 intro vs18 f w22 S20 ed1 le20 hF1 hK18 hI18
 have I24 : Inv w22 S20 (Fr) := hI18
 have q21 := hF1.u 15 rfl rfl rfl
 have q22 := hF1.u 16 rfl rfl rfl
 refine ab_ (aa_ (wm_ rfl q22 (wo_ (bq_ (a := x3.2) (b := 0) rfl rfl rfl (wm_ (v := (vb (x3.2 == 0))) rfl rfl ?_)))))
 rcases ifs h with ⟨hc1, h⟩ | ⟨hc1, h⟩
 ·
  refine wk_ rfl rfl hc1 (ay_ rfl q21 (wo_ (ba_ (c := x3.2 == 0) (a := (vb x3.1)) rfl rfl hc1 rfl (wa_ (v := (vb x3.1)) rfl rfl (ae_ (an_ ?_))))))
  obtain rfl := sj h
  exact ⟨(ed1.trans rfl), (vb x3.1), (bt_ rfl rfl), _, [], ((le1.trans le2).trans le20), I24, rfl, rfl⟩
 refine ws_ rfl rfl hc1 (wo_ (ar_ (c := x3.2 == 0) (b := (vb false)) rfl rfl hc1 rfl (wa_ (v := (vb false)) rfl rfl (ae_ (an_ ?_)))))
 obtain rfl := sj h
 exact ⟨(ed1.trans rfl), (vb false), (bt_ rfl rfl), _, [], ((le1.trans le2).trans le20), I24, rfl, rfl⟩
theorem rf_ {w : World} {S : PH} {Fr : List HP} {a0 : Clue} {v0 : Value} {a1 : Riddle} {v1 : Value} {a2 : Int} {v2 : Value} {r : Bool} (hI : Inv w S (Fr)) (h0_ : RV S v0 a0) (h1_ : PtS S v1 a1) (h2_ : PtS S v2 a2) (h : hx_ a0 a1 a2 = some r) :
    Calls Tryz.prog 110 [v0, v1, v2].toArray w (ck_ S Fr (Value.bool (r))) := by
 unfold hx_ at h
 obtain ⟨c1, e1, r1⟩ := Clue.inv h0_
 subst e1
 obtain ⟨z1, m1, k1, rfl⟩ := ad_ r1
 refine au_ (n := 10) (vs := [(.agg #[(vi a0.Kind), (vi a0.A), (vi a0.B), (vi a0.N), (vi a0.M), (.slice z1 m1 k1), (vb a0.Not)]), v1, v2]) Tryz.func110 rfl rfl rfl (ab_ (aa_ (wo_ (bk_ (v := (.agg #[(vi a0.Kind), (vi a0.A), (vi a0.B), (vi a0.N), (vi a0.M), (.slice z1 m1 k1), (vb a0.Not)])) rfl hI rfl (fun g1 w1 I1 => ?_)))))
 obtain ⟨S1, le1, I2, p1⟩ := Inv.boxFreeze (x := a0) I1 (Clue.rv (s := a0) r1)
 refine wa_ (v := (vb false)) rfl rfl (ae_ (ab_ (aa_ (wo_ (aj_ (v := v1) (e := a1) rfl gd_ rfl ((h1_.mono le1).at_ I2) (fun u1 hu1 => ?_))))))
 obtain ⟨c2, c3, c4, c5, e3, r2, r3, r4, r5⟩ := Riddle.inv hu1
 subst e3
 obtain ⟨z2, m2, k2, rfl⟩ := ad_ r2
 obtain ⟨z3, m3, k3, rfl⟩ := ad_ r3
 obtain ⟨z4, m4, k4, rfl⟩ := ad_ r4
 obtain ⟨z5, m5, k5, rfl⟩ := ad_ r5
 refine wo_ (af_ (v := v2) (e := a2) rfl sh3 rfl ((h2_.mono le1).at_ I2) (wo_ (aj_ (v := (pt_ g1)) (e := a0) rfl ji_ rfl (p1.at_ I2) (fun u2 hu2 => ?_))))
 obtain ⟨c6, e8, r6⟩ := Clue.inv hu2
 subst e8
 obtain ⟨z6, m6, k6, rfl⟩ := ad_ r6
 obtain ⟨x1, hx1, h⟩ := bnd h
 refine wo_ (aq_ (vs := [(.agg #[(.slice z2 m2 k2), (.slice z3 m3 k3), (.slice z4 m4 k4), (.slice z5 m5 k5)]), (vi a2), (.agg #[(vi a0.Kind), (vi a0.A), (vi a0.B), (vi a0.N), (vi a0.M), (.slice z6 m6 k6), (vb a0.Not)])]) (r := (vb x1)) rfl ca98 rfl (dh_ rfl rfl rfl) I2 (fun Fr_ hF_ => pu_ hF_ (Riddle.rv (s := a1) r2 r3 r4 r5) (Clue.rv (s := a0) r6) hx1) (fun w2 I3 => (wo_ (ce_ (b := x1) rfl rfl (wa_ (v := (vb (!x1))) rfl rfl (ae_ (an_ ?_)))))))
 obtain rfl := sj h
 exact ⟨rfl, (vb (!x1)), (bt_ rfl rfl), _, [], le1, I3, rfl, rfl⟩
theorem hg_ {w : World} {S : PH} {Fr : List HP} {a0 : (List Clue)} {v0 : Value} {a1 : Clue → Option Bool} {v1 : Value} {r : Int} (hI : Inv w S (Fr)) (h0_ : RV S v0 a0) (h1_ : FnV Tryz.prog S v1 a1) (h : dq_ a0 a1 = some r) :
    Calls Tryz.prog 121 [v0, v1].toArray w (ck_ S Fr (Value.int .i64 (r))) := by
 unfold dq_ at h
 obtain ⟨z1, m1, k1, rfl⟩ := ad_ h0_
 refine au_ (n := 19) (vs := [(.slice z1 m1 k1), v1]) Tryz.func121 rfl rfl rfl (ab_ (aa_ (wa_ (v := (vi 0)) rfl rfl (ae_ (ab_ (ab_ (aa_ (wm_ (v := (.slice z1 m1 k1)) rfl rfl (wo_ (az_ rfl Tryz.underlying63 rfl h0_ (wm_ (v := (vi 0)) rfl rfl (ae_ ?_))))))))))))
 have hk1 : a0.length ≤ 9223372036854775807 := (cz_ h0_)
 obtain ⟨o2, hrun1, h⟩ := bnd h
 refine br_ (fun f w => ∃ out1, o2 = Sum.inl out1 ∧ Inv w S (Fr) ∧ f 0 = (.slice z1 m1 k1) ∧ f 1 = v1 ∧ f 7 = (vi ((a0.length : Int))) ∧ f.ds = []) ?_ ?_
 ·
  refine aw_ ?_
  refine eo_ (I := fun (i1 : Nat) (s1 : Unit) (f : Frm) (w : World) => Inv w S (Fr) ∧ f 0 = (.slice z1 m1 k1) ∧ f 1 = v1 ∧ f 7 = (vi ((a0.length : Int))) ∧ f 8 = (vi (i1 : Int)) ∧ f.ds = []) hrun1 ⟨hI, rfl, rfl, rfl, rfl, rfl⟩ ?_ ?_
  ·
   rintro i1 s1 f w o1 hlt1 hI1 h1 hout1
   obtain ⟨I5, e14, e15, e16, e17, ed3⟩ := hI1
   refine ab_ (aa_ (wo_ (bh_ rfl e17 e16 (ae_ (ab_ (al_ (b := decide ((i1 : Int) < (a0.length : Int))) rfl (et_ hlt1) (av_ (ab_ (aw_ (ab_ (aa_ (wm_ rfl e17 (wa_ (v := (vi (i1 : Int))) rfl rfl (ae_ (ab_ (aa_ (wm_ rfl e15 (wm_ rfl e14 (wm_ (v := (vi (i1 : Int))) rfl rfl ?_)))))))))))))))))))
   obtain ⟨x5, hx5, h1⟩ := bnd h1
   refine wo_ (ai_ (v := (.slice z1 m1 k1)) (i := (i1 : Int)) (e := x5) rfl Tryz.underlying63 ji_ rfl h0_ rfl hx5 (wo_ (aj_ (v := (ah_ (.slice z1 m1 k1) ((i1 : Int)) (Enc.sz Clue))) (e := x5) rfl ji_ rfl (h0_.elem I5.in_ hx5) (fun u3 hu3 => ?_))))
   obtain ⟨c3, e18, r3⟩ := Clue.inv hu3
   subst e18
   obtain ⟨z4, m4, k4, rfl⟩ := ad_ r3
   obtain ⟨x6, hx6, h1⟩ := bnd h1
   refine wo_ (lv_ (v := v1) (u := (.agg #[(vi x5.Kind), (vi x5.A), (vi x5.B), (vi x5.N), (vi x5.M), (.slice z4 m4 k4), (vb x5.Not)])) (r := x6) rfl rfl h1_ rfl (Clue.rv (s := x5) r3) hx6 I5 (fun w3 I6 => (ae_ ?_)))
   rcases ifs h1 with ⟨hc3, h1⟩ | ⟨hc3, h1⟩
   ·
    refine al_ (b := x6) rfl hc3 (ab_ (aa_ (wm_ (v := (vi (i1 : Int))) rfl rfl (wa_ (v := (vi (i1 : Int))) rfl rfl (ae_ (an_ ?_))))))
    obtain rfl := sj h1
    obtain rfl := (hout1 _ rfl)
    have h2 := h
    obtain rfl := sj h2
    exact ⟨ed3, (vi (i1 : Int)), (bt_ rfl rfl), _, [], lr, I6, rfl, rfl⟩
   refine am_ (b := x6) rfl hc3 (av_ (aa_ (wo_ (bo_ (a := (i1 : Int)) (b := 1) rfl e17 rfl (wm_ (v := (vi (w64 ((i1 : Int) + 1)))) rfl rfl (ae_ ?_))))))
   obtain rfl := sj h1
   exact ⟨_, rfl, I6, e14, e15, e16, (bl_ hlt1 hk1), ed3⟩
  rintro s2 f w hs1 hI2
  obtain ⟨I7, e20, e21, e22, e23, ed4⟩ := hI2
  refine ab_ (aa_ (wo_ (bh_ rfl e23 e22 (ae_ (ab_ (am_ (b := decide ((a0.length : Int) < (a0.length : Int))) rfl (eu_ _) (bm_ ?_)))))))
  exact ⟨s2, hs1, I7, e20, e21, e22, ed4⟩
 rintro f w ⟨out1, rfl, I8, e24, e25, e26, ed5⟩
 have h := ef_ h
 refine ab_ (aa_ (wa_ (v := (vi ((-1)))) rfl rfl (ae_ (an_ ?_))))
 obtain rfl := sj h
 exact ⟨ed5, (vi ((-1))), (bt_ rfl rfl), _, [], lr, I8, rfl, rfl⟩
theorem gc_ {w : World} {S : PH} {Fr : List HP} {a0 : (List Clue)} {v0 : Value} {a1 : Clue → Option Bool} {v1 : Value} {r : Bool} (hI : Inv w S (Fr)) (h0_ : RV S v0 a0) (h1_ : FnV Tryz.prog S v1 a1) (h : cg_ a0 a1 = some r) :
    Calls Tryz.prog 109 [v0, v1].toArray w (ck_ S Fr (Value.bool (r))) := by
 unfold cg_ at h
 obtain ⟨z1, m1, k1, rfl⟩ := ad_ h0_
 refine au_ (n := 9) (vs := [(.slice z1 m1 k1), v1]) Tryz.func109 rfl rfl rfl (ab_ (aa_ (wa_ (v := (vb false)) rfl rfl (ae_ (ab_ (aa_ (wm_ (v := (.slice z1 m1 k1)) rfl rfl (wm_ (v := v1) rfl rfl ?_))))))))
 obtain ⟨x1, hx1, h⟩ := bnd h
 refine wo_ (aq_ (vs := [(.slice z1 m1 k1), v1]) (r := (vi x1)) rfl ca121 rfl (bu_ rfl rfl) hI (fun Fr_ hF_ => hg_ hF_ h0_ h1_ hx1) (fun w1 I1 => (wo_ (mo_ (a := x1) (b := 0) rfl rfl rfl (wa_ (v := (vb (decide (0 ≤ x1)))) rfl rfl (ae_ (an_ ?_)))))))
 obtain rfl := sj h
 exact ⟨rfl, (vb (decide (0 ≤ x1))), (bt_ rfl rfl), _, [], lr, I1, rfl, rfl⟩
end Go.Proofs.YtlpdpeghgndmkaaGreat.Pad
