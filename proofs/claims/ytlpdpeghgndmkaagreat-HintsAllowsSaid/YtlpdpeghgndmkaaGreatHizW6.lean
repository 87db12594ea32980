/- A part of the proof: what the functions of the program compute, shown over the model. -/
import Derived.Test.YtlpdpeghgndmkaaGreatHizP
import Derived.Test.YtlpdpeghgndmkaaGreatHizW4
import Derived.Test.YtlpdpeghgndmkaaGreatHizW5
import Derived.KernelRfl
set_option linter.unusedVariables false
set_option maxHeartbeats 4000000
set_option maxRecDepth 100000
namespace Go.Proofs.YtlpdpeghgndmkaaGreat.Pad
open Go Go.Proofs
theorem wg_ {w : World} {S : PH} {Fr : List HP} {a0 : Clue} {v0 : Value} {a1 : (List Int)} {v1 : Value} {r : Bool} (hI : Inv w S (Fr)) (h0_ : RV S v0 a0) (h1_ : RV S v1 a1) (h : np_ a0 a1 = some r) :
    Calls Tryz.prog 139 [v0, v1].toArray w (bw_ S Fr (Value.bool (r))) := by
 unfold np_ at h
 obtain ⟨c1, e1, r1⟩ := Clue.inv h0_
 subst e1
 obtain ⟨z1, m1, k1, rfl⟩ := ac_ r1
 obtain ⟨z2, m2, k2, rfl⟩ := ac_ h1_
 refine ao_ (n := 122) Tryz.func139 rfl rfl rfl (ab_ (aa_ (wo_ (bi_ (v := (.agg #[(vi a0.Kind), (vi a0.A), (vi a0.B), (vi a0.N), (vi a0.M), (.slice z1 m1 k1), (vb a0.Not)])) rfl hI rfl (fun g1 w1 I1 => ?_)))))
 obtain ⟨S1, le1, I2, p1⟩ := Inv.boxFreeze (x := a0) I1 (Clue.rv (s := a0) r1)
 refine wa_ (v := (vb false)) rfl rfl (ad_ (ab_ (ab_ (aa_ (wo_ (fa_ tb_ (p1.at_ I2) rfl (wo_ (li_ sh3 ((p1.at_ I2).fld Clue.fld0) rfl (ad_ (au_ (ab_ (aa_ (wo_ (bm_ rfl rfl rfl (wa_ (v := (vb (a0.Kind == 1))) rfl rfl (ad_ ?_))))))))))))))))
 rcases ifs h with ⟨hc1, h⟩ | ⟨hc1, h⟩
 ·
  refine ah_ rfl hc1 (ab_ ?_)
  obtain ⟨x1, hx1, h⟩ := bnd h
  refine bj_ (sps := [spV 17 [] 0 (.slice z2 m2 k2), spV 18 [] 1 (an_ (pt_ g1) 1), spV 19 [1] 2 (vi a0.A), spV 20 [0, 1, 2] 3 (af_ (.slice z2 m2 k2) (a0.A) (Enc.sz Int)), spV 21 [0, 1, 2, 3] 4 (vi x1), spV 22 [] 5 (an_ (pt_ g1) 3), spV 23 [5] 6 (vi a0.N), spV 24 (lrg 7) 7 (vb (x1 == a0.N)), spV 4 (lrg 8) 8 (vb (x1 == a0.N))]) (tks := []) (O := Fr) rfl (by kernel_rfl) I2 ⟨ob_ rfl fun l A K I => (aq_ rfl (K 1 (ag_ rfl)) (fo I)), ob_ rfl fun l A K I => (ae_ rfl db_ (K 2 (ag_ rfl)) ((p1.mono l).at_ I) (fo I)), ob_ rfl fun l A K I => (aj_ rfl sh3 (A.v 0 rfl) (((p1.mono l).at_ I).fld Clue.fld1) (fo I)), ob_ rfl fun l A K I => (ix_ Tryz.underlying28 sh3 (h1_.mono (le1.trans l)) hx1 (A.v 0 rfl) (A.v 2 rfl) (fo I)), ob_ rfl fun l A K I => (aj_ rfl sh3 (A.v 3 rfl) ((h1_.mono (le1.trans l)).elem I.in_ hx1) (fo I)), ob_ rfl fun l A K I => (ae_ rfl ck_ (K 2 (ag_ rfl)) ((p1.mono l).at_ I) (fo I)), ob_ rfl fun l A K I => (aj_ rfl sh3 (A.v 0 rfl) (((p1.mono l).at_ I).fld Clue.fld3) (fo I)), ob_ rfl fun l A K I => (bm_ rfl (A.v 4 rfl) (A.v 6 rfl) (fo I)), ?_, trivial⟩ ?_
  ·
   intro vs f w_ U X le A K I
   refine pl_ rfl (bn_ (v := (vb (x1 == a0.N))) rfl (A.v 7 rfl) (fo I))
  intro vs10 f w11 S11 ed1 le11 hF1 hK10 hI10
  have I12 : Inv w11 S11 (Fr) := hI10
  have q9 := hF1.v 8 rfl
  refine ak_ ?_
  obtain rfl := sj h
  exact ⟨(ed1.trans rfl), (vb (x1 == a0.N)), (bo_ rfl q9), _, [], (le1.trans le11), I12, rfl, rfl⟩
 refine ai_ rfl hc1 (ab_ (aa_ (wo_ (bm_ rfl rfl rfl (wa_ (v := (vb (a0.Kind == 2))) rfl rfl (ad_ ?_))))))
 rcases ifs h with ⟨hc2, h⟩ | ⟨hc2, h⟩
 ·
  refine ah_ rfl hc2 (ab_ (aa_ (wa_ (v := (vi 0)) rfl rfl (ad_ (ab_ (ab_ (aa_ (wm_ (v := (.slice z2 m2 k2)) rfl rfl (wo_ (fa_ db_ (p1.at_ I2) rfl (wo_ (li_ sh3 ((p1.at_ I2).fld Clue.fld1) rfl (wo_ (fa_ fv_ (p1.at_ I2) rfl (wo_ (li_ sh3 ((p1.at_ I2).fld Clue.fld2) rfl (wo_ (bl_ rfl rfl rfl ?_))))))))))))))))))
  obtain ⟨x2, hx2, h⟩ := bnd h
  refine wo_ (op_sliceLH (v := (.slice z2 m2 k2)) (lo := a0.A) (hi := w64 (a0.B + 1)) rfl Tryz.underlying28 sh3 rfl (h1_.mono le1) rfl rfl hx2 (fun u1 hu1 => ?_))
  obtain ⟨z3, m3, k3, rfl⟩ := ac_ hu1
  refine wo_ (az_ rfl Tryz.underlying28 rfl hu1 (wm_ (v := (vi 0)) rfl rfl (ad_ ?_)))
  have hk1 : x2.length ≤ 9223372036854775807 := (cx_ hu1)
  obtain ⟨out1, hrun1, h⟩ := bnd h
  refine bp_ (fun f w => Inv w S1 (Fr) ∧ f 2 = (pt_ g1) ∧ f 5 = (vi out1) ∧ f 33 = (.slice z3 m3 k3) ∧ f 34 = (vi ((x2.length : Int))) ∧ f.ds = []) ?_ ?_
  ·
   refine au_ ?_
   refine da_ (I := fun (i1 : Nat) (s1 : (Int)) (f : Frm) (w : World) => Inv w S1 (Fr) ∧ f 2 = (pt_ g1) ∧ f 5 = (vi s1) ∧ f 33 = (.slice z3 m3 k3) ∧ f 34 = (vi ((x2.length : Int))) ∧ f 35 = (vi (i1 : Int)) ∧ f.ds = []) hrun1 ⟨I2, rfl, rfl, rfl, rfl, rfl, rfl⟩ ?_ ?_
   ·
    rintro i1 s1 f w o1 hlt1 hI11 h1
    obtain ⟨I16, e20, e21, e22, e23, e24, ed5⟩ := hI11
    refine ab_ (aa_ (wo_ (be_ rfl e24 e23 (ad_ (ab_ (ah_ rfl (eo_ hlt1) (ar_ (ab_ (au_ (ab_ (aa_ ?_)))))))))))
    obtain ⟨x6, hx6, h1⟩ := bnd h1
    refine wo_ (ix_ Tryz.underlying28 sh3 hu1 hx6 e22 e24 (wo_ (li_ sh3 (hu1.elem I16.in_ hx6) rfl (wa_ (v := (vi x6)) rfl rfl (ad_ (aa_ (wm_ rfl e21 (wm_ (v := (vi x6)) rfl rfl (wo_ (bl_ rfl rfl rfl (wa_ (v := (vi (w64 (s1 + x6)))) rfl rfl (ad_ (aa_ (wo_ (bl_ rfl e24 rfl (wm_ (v := (vi (w64 ((i1 : Int) + 1)))) rfl rfl (ad_ ?_)))))))))))))))))
    obtain rfl := sj h1
    exact ⟨I16, e20, rfl, e22, e23, (bh_ hlt1 hk1), ed5⟩
   rintro f w hI12
   obtain ⟨I17, e25, e26, e27, e28, e29, ed6⟩ := hI12
   refine ab_ (aa_ (wo_ (be_ rfl e29 e28 (ad_ (ab_ (ai_ rfl (ep_ _) (bk_ ?_)))))))
   exact ⟨I17, e25, e26, e27, e28, ed6⟩
  rintro f w ⟨I18, e30, e31, e32, e33, ed7⟩
  refine ab_ (aa_ (wm_ rfl e31 (wo_ (ae_ rfl ck_ e30 (p1.at_ I18) (wo_ (li_ sh3 ((p1.at_ I18).fld Clue.fld3) rfl (wo_ (bm_ rfl rfl rfl (wa_ (v := (vb (out1 == a0.N))) rfl rfl (ad_ (ak_ ?_)))))))))))
  obtain rfl := sj h
  exact ⟨ed7, (vb (out1 == a0.N)), (bo_ rfl rfl), _, [], le1, I18, rfl, rfl⟩
 refine ai_ rfl hc2 (ab_ (aa_ (wo_ (bm_ rfl rfl rfl (wa_ (v := (vb (a0.Kind == 3))) rfl rfl (ad_ ?_))))))
 rcases ifs h with ⟨hc3, h⟩ | ⟨hc3, h⟩
 ·
  refine ah_ rfl hc3 (ab_ ?_)
  obtain ⟨x7, hx7, h⟩ := bnd h
  obtain ⟨x8, hx8, h⟩ := bnd h
  refine bj_ (sps := [spV 49 [] 0 (.slice z2 m2 k2), spV 50 [] 1 (an_ (pt_ g1) 1), spV 51 [1] 2 (vi a0.A), spV 52 [0, 1, 2] 3 (af_ (.slice z2 m2 k2) (a0.A) (Enc.sz Int)), spV 53 [0, 1, 2, 3] 4 (vi x7), spV 54 [] 5 (.slice z2 m2 k2), spV 55 [] 6 (an_ (pt_ g1) 2), spV 56 [6] 7 (vi a0.B), spV 57 [5, 6, 7] 8 (af_ (.slice z2 m2 k2) (a0.B) (Enc.sz Int)), spV 58 [5, 6, 7, 8] 9 (vi x8), spV 59 (lrg 10) 10 (vb (decide (x7 < x8))), spV 4 (lrg 11) 11 (vb (decide (x7 < x8)))]) (tks := []) (O := Fr) rfl (by kernel_rfl) I2 ⟨ob_ rfl fun l A K I => (aq_ rfl (K 1 (ag_ rfl)) (fo I)), ob_ rfl fun l A K I => (ae_ rfl db_ (K 2 (ag_ rfl)) ((p1.mono l).at_ I) (fo I)), ob_ rfl fun l A K I => (aj_ rfl sh3 (A.v 0 rfl) (((p1.mono l).at_ I).fld Clue.fld1) (fo I)), ob_ rfl fun l A K I => (ix_ Tryz.underlying28 sh3 (h1_.mono (le1.trans l)) hx7 (A.v 0 rfl) (A.v 2 rfl) (fo I)), ob_ rfl fun l A K I => (aj_ rfl sh3 (A.v 3 rfl) ((h1_.mono (le1.trans l)).elem I.in_ hx7) (fo I)), ob_ rfl fun l A K I => (aq_ rfl (K 1 (ag_ rfl)) (fo I)), ob_ rfl fun l A K I => (ae_ rfl fv_ (K 2 (ag_ rfl)) ((p1.mono l).at_ I) (fo I)), ob_ rfl fun l A K I => (aj_ rfl sh3 (A.v 0 rfl) (((p1.mono l).at_ I).fld Clue.fld2) (fo I)), ob_ rfl fun l A K I => (ix_ Tryz.underlying28 sh3 (h1_.mono (le1.trans l)) hx8 (A.v 0 rfl) (A.v 2 rfl) (fo I)), ob_ rfl fun l A K I => (aj_ rfl sh3 (A.v 3 rfl) ((h1_.mono (le1.trans l)).elem I.in_ hx8) (fo I)), ob_ rfl fun l A K I => (be_ rfl (A.v 4 rfl) (A.v 9 rfl) (fo I)), ?_, trivial⟩ ?_
  ·
   intro vs f w_ U X le A K I
   refine pl_ rfl (bn_ (v := (vb (decide (x7 < x8)))) rfl (A.v 10 rfl) (fo I))
  intro vs23 f w24 S24 ed8 le24 hF2 hK23 hI25
  have I31 : Inv w24 S24 (Fr) := hI25
  have q21 := hF2.v 11 rfl
  refine ak_ ?_
  obtain rfl := sj h
  exact ⟨(ed8.trans rfl), (vb (decide (x7 < x8))), (bo_ rfl q21), _, [], (le1.trans le24), I31, rfl, rfl⟩
 refine ai_ rfl hc3 (ab_ (aa_ (wo_ (bm_ rfl rfl rfl (wa_ (v := (vb (a0.Kind == 4))) rfl rfl (ad_ ?_))))))
 rcases ifs h with ⟨hc4, h⟩ | ⟨hc4, h⟩
 ·
  refine ah_ rfl hc4 (ab_ ?_)
  obtain ⟨x9, hx9, h⟩ := bnd h
  obtain ⟨x10, hx10, h⟩ := bnd h
  refine bj_ (sps := [spV 62 [] 0 (.slice z2 m2 k2), spV 63 [] 1 (an_ (pt_ g1) 1), spV 64 [1] 2 (vi a0.A), spV 65 [0, 1, 2] 3 (af_ (.slice z2 m2 k2) (a0.A) (Enc.sz Int)), spV 66 [0, 1, 2, 3] 4 (vi x9), spV 67 [] 5 (.slice z2 m2 k2), spV 68 [] 6 (an_ (pt_ g1) 2), spV 69 [6] 7 (vi a0.B), spV 70 [5, 6, 7] 8 (af_ (.slice z2 m2 k2) (a0.B) (Enc.sz Int)), spV 71 [5, 6, 7, 8] 9 (vi x10), spV 72 (lrg 10) 10 (vb (x9 == x10)), spV 4 (lrg 11) 11 (vb (x9 == x10))]) (tks := []) (O := Fr) rfl (by kernel_rfl) I2 ⟨ob_ rfl fun l A K I => (aq_ rfl (K 1 (ag_ rfl)) (fo I)), ob_ rfl fun l A K I => (ae_ rfl db_ (K 2 (ag_ rfl)) ((p1.mono l).at_ I) (fo I)), ob_ rfl fun l A K I => (aj_ rfl sh3 (A.v 0 rfl) (((p1.mono l).at_ I).fld Clue.fld1) (fo I)), ob_ rfl fun l A K I => (ix_ Tryz.underlying28 sh3 (h1_.mono (le1.trans l)) hx9 (A.v 0 rfl) (A.v 2 rfl) (fo I)), ob_ rfl fun l A K I => (aj_ rfl sh3 (A.v 3 rfl) ((h1_.mono (le1.trans l)).elem I.in_ hx9) (fo I)), ob_ rfl fun l A K I => (aq_ rfl (K 1 (ag_ rfl)) (fo I)), ob_ rfl fun l A K I => (ae_ rfl fv_ (K 2 (ag_ rfl)) ((p1.mono l).at_ I) (fo I)), ob_ rfl fun l A K I => (aj_ rfl sh3 (A.v 0 rfl) (((p1.mono l).at_ I).fld Clue.fld2) (fo I)), ob_ rfl fun l A K I => (ix_ Tryz.underlying28 sh3 (h1_.mono (le1.trans l)) hx10 (A.v 0 rfl) (A.v 2 rfl) (fo I)), ob_ rfl fun l A K I => (aj_ rfl sh3 (A.v 3 rfl) ((h1_.mono (le1.trans l)).elem I.in_ hx10) (fo I)), ob_ rfl fun l A K I => (bm_ rfl (A.v 4 rfl) (A.v 9 rfl) (fo I)), ?_, trivial⟩ ?_
  ·
   intro vs f w_ U X le A K I
   refine pl_ rfl (bn_ (v := (vb (x9 == x10))) rfl (A.v 10 rfl) (fo I))
  intro vs36 f w37 S37 ed9 le37 hF3 hK36 hI38
  have I44 : Inv w37 S37 (Fr) := hI38
  have q33 := hF3.v 11 rfl
  refine ak_ ?_
  obtain rfl := sj h
  exact ⟨(ed9.trans rfl), (vb (x9 == x10)), (bo_ rfl q33), _, [], (le1.trans le37), I44, rfl, rfl⟩
 refine ai_ rfl hc4 (ab_ (aa_ (wo_ (bm_ rfl rfl rfl (wa_ (v := (vb (a0.Kind == 5))) rfl rfl (ad_ ?_))))))
 rcases ifs h with ⟨hc5, h⟩ | ⟨hc5, h⟩
 ·
  refine ah_ rfl hc5 (ab_ (aa_ (wa_ (v := (vi 0)) rfl rfl (ad_ (ab_ (ab_ (aa_ (wm_ (v := (.slice z2 m2 k2)) rfl rfl (wo_ (az_ rfl Tryz.underlying28 rfl (h1_.mono le1) (wm_ (v := (vi 0)) rfl rfl (ad_ ?_))))))))))))
  have hk2 : a1.length ≤ 9223372036854775807 := (cx_ h1_)
  obtain ⟨out2, hrun2, h⟩ := bnd h
  refine bp_ (fun f w => Inv w S1 (Fr) ∧ f 2 = (pt_ g1) ∧ f 8 = (vi out2) ∧ f 75 = (.slice z2 m2 k2) ∧ f 76 = (vi ((a1.length : Int))) ∧ f.ds = []) ?_ ?_
  ·
   refine au_ ?_
   refine da_ (I := fun (i2 : Nat) (s2 : (Int)) (f : Frm) (w : World) => Inv w S1 (Fr) ∧ f 2 = (pt_ g1) ∧ f 8 = (vi s2) ∧ f 75 = (.slice z2 m2 k2) ∧ f 76 = (vi ((a1.length : Int))) ∧ f 77 = (vi (i2 : Int)) ∧ f.ds = []) hrun2 ⟨I2, rfl, rfl, rfl, rfl, rfl, rfl⟩ ?_ ?_
   ·
    rintro i2 s2 f w o2 hlt2 hI39 h3
    obtain ⟨I48, e49, e50, e51, e52, e53, ed13⟩ := hI39
    refine ab_ (aa_ (wo_ (be_ rfl e53 e52 (ad_ (ab_ (ah_ rfl (eo_ hlt2) (ar_ (ab_ (au_ (ab_ (aa_ ?_)))))))))))
    obtain ⟨x14, hx14, h3⟩ := bnd h3
    refine wo_ (ix_ Tryz.underlying28 sh3 (h1_.mono le1) hx14 e51 e53 (wo_ (li_ sh3 ((h1_.mono le1).elem I48.in_ hx14) rfl (wa_ (v := (vi x14)) rfl rfl (ad_ (ab_ (aa_ (wm_ (v := (vi x14)) rfl rfl (wo_ (ae_ rfl ck_ e49 (p1.at_ I48) (wo_ (li_ sh3 ((p1.at_ I48).fld Clue.fld3) rfl (wo_ (bm_ rfl rfl rfl (ad_ ?_)))))))))))))))
    rcases ifs h3 with ⟨hc9, h3⟩ | ⟨hc9, h3⟩
    ·
     refine ah_ rfl hc9 (aa_ (wm_ rfl e50 (wo_ (bl_ rfl rfl rfl (wa_ (v := (vi (w64 (s2 + 1)))) rfl rfl (ad_ (aa_ (wo_ (bl_ rfl e53 rfl (wm_ (v := (vi (w64 ((i2 : Int) + 1)))) rfl rfl (ad_ ?_)))))))))))
     obtain rfl := sj h3
     exact ⟨I48, e49, rfl, e51, e52, (bh_ hlt2 hk2), ed13⟩
    refine ai_ rfl hc9 (ar_ (aa_ (wo_ (bl_ rfl e53 rfl (wm_ (v := (vi (w64 ((i2 : Int) + 1)))) rfl rfl (ad_ ?_))))))
    obtain rfl := sj h3
    exact ⟨I48, e49, e50, e51, e52, (bh_ hlt2 hk2), ed13⟩
   rintro f w hI40
   obtain ⟨I49, e54, e55, e56, e57, e58, ed14⟩ := hI40
   refine ab_ (aa_ (wo_ (be_ rfl e58 e57 (ad_ (ab_ (ai_ rfl (ep_ _) (bk_ ?_)))))))
   exact ⟨I49, e54, e55, e56, e57, ed14⟩
  rintro f w ⟨I50, e59, e60, e61, e62, ed15⟩
  refine ab_ (aa_ (wm_ rfl e60 (wo_ (ae_ rfl fd_ e59 (p1.at_ I50) (wo_ (li_ sh3 ((p1.at_ I50).fld Clue.fld4) rfl (wo_ (bm_ rfl rfl rfl (wa_ (v := (vb (out2 == a0.M))) rfl rfl (ad_ (ak_ ?_)))))))))))
  obtain rfl := sj h
  exact ⟨ed15, (vb (out2 == a0.M)), (bo_ rfl rfl), _, [], le1, I50, rfl, rfl⟩
 refine ai_ rfl hc5 (ab_ (aa_ (wo_ (bm_ rfl rfl rfl (wa_ (v := (vb (a0.Kind == 6))) rfl rfl (ad_ ?_))))))
 rcases ifs h with ⟨hc10, h⟩ | ⟨hc10, h⟩
 ·
  refine ah_ rfl hc10 (ab_ (aa_ (wm_ (v := (.slice z2 m2 k2)) rfl rfl (wo_ (fa_ kf_ (p1.at_ I2) rfl (wo_ (ld_ fn_ ((p1.at_ I2).fld Clue.fld5) rfl (fun u2 hu2 => ?_))))))))
  obtain ⟨z4, m4, k4, rfl⟩ := ac_ hu2
  obtain ⟨x15, hx15, h⟩ := bnd h
  refine wo_ (cv_ ca143 rfl I2 (fun Fr_ hF_ => vo_ hF_ (h1_.mono le1) hu2 hx15) (br_ rfl rfl) (fun w38 I51 => (wm_ (v := (Value.tuple #[(vi x15.1), (vi x15.2)])) rfl rfl (wo_ (bg_ (v := (vi x15.1)) rfl rfl rfl (wo_ (bg_ (v := (vi x15.2)) rfl rfl rfl (wa_ (v := (vi x15.1)) rfl rfl (wa_ (v := (vi x15.2)) rfl rfl (ad_ (ab_ (aa_ (wm_ (v := (vi x15.1)) rfl rfl (wo_ (fa_ ck_ (p1.at_ I51) rfl (wo_ (li_ sh3 ((p1.at_ I51).fld Clue.fld3) rfl (wo_ (bm_ rfl rfl rfl (wm_ (v := (vb (x15.1 == a0.N))) rfl rfl ?_))))))))))))))))))))
  rcases ifs h with ⟨hc11, h⟩ | ⟨hc11, h⟩
  ·
   refine wk_ rfl rfl hc11 (aq_ (v := (vi x15.2)) rfl rfl (wk_ rfl rfl hc11 (fa_ fd_ (p1.at_ I51) rfl (wk_ rfl rfl hc11 (li_ sh3 ((p1.at_ I51).fld Clue.fld4) rfl (wk_ rfl rfl hc11 (bm_ rfl rfl rfl (wo_ (aw_ (a := (vb (x15.2 == a0.M))) rfl rfl hc11 rfl (wa_ (v := (vb (x15.2 == a0.M))) rfl rfl (ad_ (ak_ ?_))))))))))))
   obtain rfl := sj h
   exact ⟨rfl, (vb (x15.2 == a0.M)), (bo_ rfl rfl), _, [], le1, I51, rfl, rfl⟩
  refine ws_ rfl rfl hc11 (ws_ rfl rfl hc11 (ws_ rfl rfl hc11 (ws_ rfl rfl hc11 (wo_ (ap_ (b := (vb false)) rfl rfl hc11 rfl (wa_ (v := (vb false)) rfl rfl (ad_ (ak_ ?_))))))))
  obtain rfl := sj h
  exact ⟨rfl, (vb false), (bo_ rfl rfl), _, [], le1, I51, rfl, rfl⟩
 refine ai_ rfl hc10 (ar_ (ab_ ?_))
 obtain ⟨x16, hx16, h⟩ := bnd h
 obtain ⟨x17, hx17, h⟩ := bnd h
 refine bj_ (sps := [spV 111 [] 0 (.slice z2 m2 k2), spV 112 [] 1 (an_ (pt_ g1) 1), spV 113 [1] 2 (vi a0.A), spV 114 [0, 1, 2] 3 (af_ (.slice z2 m2 k2) (a0.A) (Enc.sz Int)), spV 115 [0, 1, 2, 3] 4 (vi x16), spV 116 [] 5 (an_ (pt_ g1) 3), spV 117 [5] 6 (vi a0.N), spV 118 (lrg 7) 7 (vi x17), spV 119 [] 8 (an_ (pt_ g1) 4), spV 120 [8] 9 (vi a0.M), spV 121 (lrg 10) 10 (vb (x17 == a0.M)), spV 4 (lrg 11) 11 (vb (x17 == a0.M))]) (tks := []) (O := Fr) rfl (by kernel_rfl) I2 ⟨ob_ rfl fun l A K I => (aq_ rfl (K 1 (ag_ rfl)) (fo I)), ob_ rfl fun l A K I => (ae_ rfl db_ (K 2 (ag_ rfl)) ((p1.mono l).at_ I) (fo I)), ob_ rfl fun l A K I => (aj_ rfl sh3 (A.v 0 rfl) (((p1.mono l).at_ I).fld Clue.fld1) (fo I)), ob_ rfl fun l A K I => (ix_ Tryz.underlying28 sh3 (h1_.mono (le1.trans l)) hx16 (A.v 0 rfl) (A.v 2 rfl) (fo I)), ob_ rfl fun l A K I => (aj_ rfl sh3 (A.v 3 rfl) ((h1_.mono (le1.trans l)).elem I.in_ hx16) (fo I)), ob_ rfl fun l A K I => (ae_ rfl ck_ (K 2 (ag_ rfl)) ((p1.mono l).at_ I) (fo I)), ob_ rfl fun l A K I => (aj_ rfl sh3 (A.v 0 rfl) (((p1.mono l).at_ I).fld Clue.fld3) (fo I)), ob_ rfl fun l A K I => (op_rem (a := x16) (b := a0.N) rfl (A.v 4 rfl) (A.v 6 rfl) hx17 (fo I)), ob_ rfl fun l A K I => (ae_ rfl fd_ (K 2 (ag_ rfl)) ((p1.mono l).at_ I) (fo I)), ob_ rfl fun l A K I => (aj_ rfl sh3 (A.v 0 rfl) (((p1.mono l).at_ I).fld Clue.fld4) (fo I)), ob_ rfl fun l A K I => (bm_ rfl (A.v 7 rfl) (A.v 9 rfl) (fo I)), ?_, trivial⟩ ?_
 ·
  intro vs f w_ U X le A K I
  refine pl_ rfl (bn_ (v := (vb (x17 == a0.M))) rfl (A.v 10 rfl) (fo I))
 intro vs49 f w51 S50 ed16 le50 hF4 hK49 hI53
 have I64 : Inv w51 S50 (Fr) := hI53
 have q45 := hF4.v 11 rfl
 refine ak_ ?_
 obtain rfl := sj h
 exact ⟨(ed16.trans rfl), (vb (x17 == a0.M)), (bo_ rfl q45), _, [], (le1.trans le50), I64, rfl, rfl⟩
theorem py_ {w : World} {S : PH} {Fr : List HP} {a0 : Clue} {v0 : Value} {a1 : (List Int)} {v1 : Value} {r : Bool} (hI : Inv w S (Fr)) (h0_ : RV S v0 a0) (h1_ : RV S v1 a1) (h : gr_ a0 a1 = some r) :
    Calls Tryz.prog 129 [v0, v1].toArray w (bw_ S Fr (Value.bool (r))) := by
 unfold gr_ at h
 obtain ⟨c1, e1, r1⟩ := Clue.inv h0_
 subst e1
 obtain ⟨z1, m1, k1, rfl⟩ := ac_ r1
 obtain ⟨z2, m2, k2, rfl⟩ := ac_ h1_
 refine ao_ (n := 11) Tryz.func129 rfl rfl rfl (ab_ (aa_ (wo_ (bi_ (v := (.agg #[(vi a0.Kind), (vi a0.A), (vi a0.B), (vi a0.N), (vi a0.M), (.slice z1 m1 k1), (vb a0.Not)])) rfl hI rfl (fun g1 w1 I1 => ?_)))))
 obtain ⟨S1, le1, I2, p1⟩ := Inv.boxFreeze (x := a0) I1 (Clue.rv (s := a0) r1)
 refine wa_ (v := (vb false)) rfl rfl (ad_ (ab_ ?_))
 obtain ⟨x1, hx1, h⟩ := bnd h
 refine bj_ (sps := [spR 5 [] 0 a0, spV 6 [] 1 (.slice z2 m2 k2), spV 7 [0, 1] 2 (vb x1), spV 8 [] 3 (an_ (pt_ g1) 6), spV 9 [3] 4 (vb a0.Not), spV 10 [0, 1, 2, 3, 4] 5 (vb (x1 != a0.Not)), spV 4 (lrg 6) 6 (vb (x1 != a0.Not))]) (tks := []) (O := Fr) rfl (by kernel_rfl) I2 ⟨?_, ob_ rfl fun l A K I => (aq_ rfl (K 1 (ag_ rfl)) (fo I)), ?_, ob_ rfl fun l A K I => (ae_ rfl mb_ (K 2 (ag_ rfl)) ((p1.mono l).at_ I) (fo I)), ob_ rfl fun l A K I => (sv_ rfl sh4 (A.v 0 rfl) (((p1.mono l).at_ I).fld Clue.fld6) (fo I)), ob_ rfl fun l A K I => (mj_ (a := x1) (b := a0.Not) rfl Tryz.underlying4 (A.v 2 rfl) (A.v 4 rfl) (fo I)), ?_, trivial⟩ ?_
 ·
  intro vs f w_ U X le A K I
  refine pl_ rfl (ay_ rfl lk_ (K 2 (ag_ rfl)) ((p1.mono le).at_ I) (fun u2 hu2 => ?_))
  obtain ⟨c2, e4, r2⟩ := Clue.inv hu2
  subst e4
  obtain ⟨z3, m3, k3, rfl⟩ := ac_ r2
  refine ⟨_, _, rfl, lr, ?_, ?_⟩
  · exact (Clue.rv (s := a0) r2)
  exact I
 ·
  intro vs f w_ U X le A K I
  have q1 : f 5 = vs 0 := (A.at_ 0 rfl _ rfl).1 _ rfl
  have r3 : RV U (vs 0) a0 := (A.at_ 0 rfl _ rfl).2
  obtain ⟨u3, hu3⟩ : ∃ u, vs 0 = u := ⟨_, rfl⟩
  rw [hu3] at q1 r3
  obtain ⟨c3, e6, r4⟩ := Clue.inv r3
  subst e6
  obtain ⟨z4, m4, k4, rfl⟩ := ac_ r4
  refine pl_ rfl (cv_ ca139 rfl I (fun Fr_ hF_ => wg_ hF_ (Clue.rv (s := a0) r4) (h1_.mono (le1.trans le)) hx1) (br_ q1 (A.v 1 rfl)) (fun w6 I7 => (fo I7)))
 ·
  intro vs f w_ U X le A K I
  refine pl_ rfl (bn_ (v := (vb (x1 != a0.Not))) rfl (A.v 5 rfl) (fo I))
 intro vs8 f w11 S9 ed1 le9 hF1 hK8 hI8
 have I12 : Inv w11 S9 (Fr) := hI8
 have q7 := hF1.v 6 rfl
 refine ak_ ?_
 obtain rfl := sj h
 exact ⟨(ed1.trans rfl), (vb (x1 != a0.Not)), (bo_ rfl q7), _, [], (le1.trans le9), I12, rfl, rfl⟩
theorem wh_ {w : World} {S : PH} {Fr : List HP} {a0 : CodeLock} {v0 : Value} {a1 : Clue} {v1 : Value} {a2 : (List Int)} {v2 : Value} {r : Bool × Int} (hI : Inv w S (Fr)) (h0_ : RV S v0 a0) (h1_ : RV S v1 a1) (h2_ : RV S v2 a2) (h : lj_ a0 a1 a2 = some r) :
    Calls Tryz.prog 118 [v0, v1, v2].toArray w (bw_ S Fr (Value.tuple #[(Value.bool (r.1)), (Value.int .i64 (r.2))])) := by
 unfold lj_ at h
 have e1 := CodeLock.inv h0_
 subst e1
 obtain ⟨c1, e2, r1⟩ := Clue.inv h1_
 subst e2
 obtain ⟨z1, m1, k1, rfl⟩ := ac_ r1
 obtain ⟨z2, m2, k2, rfl⟩ := ac_ h2_
 refine ao_ (n := 25) Tryz.func118 rfl rfl rfl (ab_ (aa_ (wo_ (bi_ (v := (.agg #[(vi a0.Wheels), (vi a0.Symbols)])) rfl hI rfl (fun g1 w1 I1 => ?_)))))
 obtain ⟨S1, le1, I2, p1⟩ := Inv.boxFreeze (x := a0) I1 (CodeLock.rv (s := a0))
 refine wo_ (bi_ (v := (.agg #[(vi a1.Kind), (vi a1.A), (vi a1.B), (vi a1.N), (vi a1.M), (.slice z1 m1 k1), (vb a1.Not)])) rfl I2 rfl (fun g2 w2 I3 => ?_))
 obtain ⟨S2, le2, I4, p2⟩ := Inv.boxFreeze (x := a1) I3 (Clue.rv (s := a1) (r1.mono le1))
 refine wa_ (v := (vb false)) rfl rfl (wa_ (v := (vi 0)) rfl rfl (ad_ (ab_ (ab_ (aa_ (wo_ (ld_ im_ ((p1.mono le2).at_ I4) rfl (fun u1 hu1 => ?_))))))))
 have e5 := CodeLock.inv hu1
 subst e5
 refine wo_ (ld_ lk_ (p2.at_ I4) rfl (fun u2 hu2 => ?_))
 obtain ⟨c2, e6, r2⟩ := Clue.inv hu2
 subst e6
 obtain ⟨z3, m3, k3, rfl⟩ := ac_ r2
 obtain ⟨x1, hx1, h⟩ := bnd h
 refine wo_ (cv_ ca128 rfl I4 (fun Fr_ hF_ => rv_ hF_ (CodeLock.rv (s := a0)) (Clue.rv (s := a1) r2) hx1) (br_ rfl rfl) (fun w3 I5 => (wa_ (v := (vi x1)) rfl rfl (ad_ (ab_ (aa_ (wm_ (v := (vi x1)) rfl rfl (wo_ (cd_ rfl rfl rfl (ad_ ?_))))))))))
 rcases ifs h with ⟨hc1, h⟩ | ⟨hc1, h⟩
 ·
  refine ah_ rfl hc1 (ab_ (aa_ (wm_ (v := (vi x1)) rfl rfl (wa_ (v := (vb false)) rfl rfl (wa_ (v := (vi x1)) rfl rfl (ad_ (ak_ ?_)))))))
  obtain rfl := sj h
  exact ⟨rfl, (Value.tuple #[(vb false), (vi x1)]), (qy_ rfl rfl rfl), _, [], (le1.trans le2), I5, rfl, rfl⟩
 refine ai_ rfl hc1 (ar_ (ab_ (ab_ (aa_ (wo_ (ld_ im_ ((p1.mono le2).at_ I5) rfl (fun u3 hu3 => ?_)))))))
 have e8 := CodeLock.inv hu3
 subst e8
 refine wm_ (v := (.slice z2 m2 k2)) rfl rfl ?_
 obtain ⟨x2, hx2, h⟩ := bnd h
 refine wo_ (cv_ ca108 rfl I5 (fun Fr_ hF_ => gg_ hF_ (CodeLock.rv (s := a0)) (h2_.mono (le1.trans le2)) hx2) (br_ rfl rfl) (fun w4 I6 => (wa_ (v := (vi x2)) rfl rfl (ad_ (ab_ (aa_ (wm_ (v := (vi x2)) rfl rfl (wo_ (cd_ rfl rfl rfl (ad_ ?_))))))))))
 rcases ifs h with ⟨hc2, h⟩ | ⟨hc2, h⟩
 ·
  refine ah_ rfl hc2 (ab_ (aa_ (wm_ (v := (vi x2)) rfl rfl (wa_ (v := (vb false)) rfl rfl (wa_ (v := (vi x2)) rfl rfl (ad_ (ak_ ?_)))))))
  obtain rfl := sj h
  exact ⟨rfl, (Value.tuple #[(vb false), (vi x2)]), (qy_ rfl rfl rfl), _, [], (le1.trans le2), I6, rfl, rfl⟩
 refine ai_ rfl hc2 (ar_ (ab_ (aa_ (wo_ (ld_ lk_ (p2.at_ I6) rfl (fun u4 hu4 => ?_))))))
 obtain ⟨c3, e9, r3⟩ := Clue.inv hu4
 subst e9
 obtain ⟨z4, m4, k4, rfl⟩ := ac_ r3
 refine wm_ (v := (.slice z2 m2 k2)) rfl rfl ?_
 obtain ⟨x3, hx3, h⟩ := bnd h
 refine wo_ (cv_ ca129 rfl I6 (fun Fr_ hF_ => py_ hF_ (Clue.rv (s := a1) r3) (h2_.mono (le1.trans le2)) hx3) (br_ rfl rfl) (fun w5 I7 => (wa_ (v := (vb x3)) rfl rfl (wa_ (v := (vi 0)) rfl rfl (ad_ (ak_ ?_))))))
 obtain rfl := sj h
 exact ⟨rfl, (Value.tuple #[(vb x3), (vi 0)]), (qy_ rfl rfl rfl), _, [], (le1.trans le2), I7, rfl, rfl⟩
theorem rn_ {w : World} {S : PH} {Fr : List HP} {a0 : Riddle} {v0 : Value} {a1 : Int} {a2 : Clue} {v2 : Value} {r : Bool} (hI : Inv w S (Fr)) (h0_ : RV S v0 a0) (h2_ : RV S v2 a2) (h : kp_ a0 a1 a2 = some r) :
    Calls Tryz.prog 98 [v0, (Value.int .i64 (a1)), v2].toArray w (bw_ S Fr (Value.bool (r))) := by
 unfold kp_ at h
 obtain ⟨c1, c2, c3, c4, e1, r1, r2, r3, r4⟩ := Riddle.inv h0_
 subst e1
 obtain ⟨z1, m1, k1, rfl⟩ := ac_ r1
 obtain ⟨z2, m2, k2, rfl⟩ := ac_ r2
 obtain ⟨z3, m3, k3, rfl⟩ := ac_ r3
 obtain ⟨z4, m4, k4, rfl⟩ := ac_ r4
 obtain ⟨c5, e6, r5⟩ := Clue.inv h2_
 subst e6
 obtain ⟨z5, m5, k5, rfl⟩ := ac_ r5
 refine ao_ (n := 29) Tryz.func98 rfl rfl rfl (ab_ (aa_ (wo_ (bi_ (v := (.agg #[(.slice z1 m1 k1), (.slice z2 m2 k2), (.slice z3 m3 k3), (.slice z4 m4 k4)])) rfl hI rfl (fun g1 w1 I1 => ?_)))))
 obtain ⟨S1, le1, I2, p1⟩ := Inv.boxFreeze (x := a0) I1 (Riddle.rv (s := a0) r1 r2 r3 r4)
 refine wo_ (bi_ (v := (.agg #[(vi a2.Kind), (vi a2.A), (vi a2.B), (vi a2.N), (vi a2.M), (.slice z5 m5 k5), (vb a2.Not)])) rfl I2 rfl (fun g2 w2 I3 => ?_))
 obtain ⟨S2, le2, I4, p2⟩ := Inv.boxFreeze (x := a2) I3 (Clue.rv (s := a2) (r5.mono le1))
 refine wa_ (v := (vb false)) rfl rfl (ad_ (ab_ ?_))
 obtain ⟨x1, hx1, h⟩ := bnd h
 obtain ⟨x2, hx2, h⟩ := bnd h
 obtain ⟨x3, hx3, h⟩ := bnd h
 refine bj_ (sps := [spV 10 [] 0 (an_ (pt_ g1) 0), spR 11 [0] 1 (a0.Locks), spV 12 [] 2 (vi a1), spW 13 [0, 1, 2] [3, 1] fun vs_ => (af_ (fr0 vs_ 1) (a1) (Enc.sz CodeLock)), spV 14 [0, 1, 2, 3] 4 (.agg #[(vi x1.Wheels), (vi x1.Symbols)]), spR 15 [] 5 a2, spV 16 [] 6 (an_ (pt_ g1) 1), spR 17 [6] 7 (a0.Codes), spV 18 [] 8 (vi a1), spW 19 [6, 7, 8] [9, 7] fun vs_ => (af_ (fr0 vs_ 1) (a1) (Enc.sz (List Int))), spR 20 [6, 7, 8, 9] 10 x2, spV 21 (lrg 11) 11 (Value.tuple #[(vb x3.1), (vi x3.2)]), spV 9 (lrg 12) 12 (Value.tuple #[(vb x3.1), (vi x3.2)]), spV 22 (lrg 13) 13 (vb x3.1), spV 23 (lrg 13) 14 (vi x3.2), spV 7 (lrg 14) 15 (vb x3.1), spV 8 (lrg 16) 16 (vi x3.2)]) (tks := []) (O := Fr) rfl (by kernel_rfl) I4 ⟨ob_ rfl fun l A K I => (ae_ rfl co_ (K 3 (ag_ rfl)) ((p1.mono (le2.trans l)).at_ I) (fo I)), ?_, ob_ rfl fun l A K I => (aq_ rfl (K 1 (ag_ rfl)) (fo I)), ?_, ?_, ?_, ob_ rfl fun l A K I => (ae_ rfl hi_ (K 3 (ag_ rfl)) ((p1.mono (le2.trans l)).at_ I) (fo I)), ?_, ob_ rfl fun l A K I => (aq_ rfl (K 1 (ag_ rfl)) (fo I)), ?_, ?_, ?_, ob_ rfl fun l A K I => (aq_ rfl (A.v 11 rfl) (fo I)), ob_ rfl fun l A K I => (bg_ (v := (vb x3.1)) rfl (A.v 12 rfl) rfl (fo I)), ob_ rfl fun l A K I => (bg_ (v := (vi x3.2)) rfl (A.v 12 rfl) rfl (fo I)), ob_ rfl fun l A K I => (bn_ (v := (vb x3.1)) rfl (A.v 13 rfl) (fo I)), ?_, trivial⟩ ?_
 ·
  intro vs f w_ U X le A K I
  have q1 := A.v 0 rfl
  refine pl_ rfl (ay_ rfl mh_ q1 (((p1.mono (le2.trans le)).at_ I).fld Riddle.fld0) (fun u6 hu6 => ?_))
  obtain ⟨z6, m6, k6, rfl⟩ := ac_ hu6
  refine ⟨_, _, rfl, lr, ?_, ?_⟩
  · exact hu6
  exact I
 ·
  intro vs f w_ U X le A K I
  obtain ⟨z7, m7, k7, hu7, q2, r6⟩ := A.sl (a := 1) 1 rfl rfl rfl
  have q3 := A.v 2 rfl
  refine pl_ rfl (ix_ Tryz.underlying22 im_ r6 hx1 q2 q3 (⟨_, _, rfl, lr, ?_, ?_⟩))
  ·
   show (af_ (Value.slice z7 m7 k7) (a1) (Enc.sz CodeLock)) = (af_ (vs 1) (a1) (Enc.sz CodeLock))
   simp only [hu7] <;> rfl
  exact I
 ·
  intro vs f w_ U X le A K I
  obtain ⟨z8, m8, k8, hu8, q4, r7⟩ := A.sl (a := 1) 1 rfl rfl rfl
  have q5 := A.v 2 rfl
  have q6 : f 13 = (af_ (vs 1) (a1) (Enc.sz CodeLock)) := A.v 3 rfl
  simp only [hu8] at q6
  have q6 : f 13 = (af_ (Value.slice z8 m8 k8) (a1) (Enc.sz CodeLock)) := q6
  refine pl_ rfl (ay_ rfl im_ q6 (r7.elem I.in_ hx1) (fun u9 hu9 => ?_))
  have e11 := CodeLock.inv hu9
  subst e11
  refine ⟨_, _, rfl, lr, ?_, ?_⟩
  · exact rfl
  exact I
 ·
  intro vs f w_ U X le A K I
  refine pl_ rfl (ay_ rfl lk_ (K 5 (ag_ rfl)) ((p2.mono le).at_ I) (fun u10 hu10 => ?_))
  obtain ⟨c6, e12, r8⟩ := Clue.inv hu10
  subst e12
  obtain ⟨z9, m9, k9, rfl⟩ := ac_ r8
  refine ⟨_, _, rfl, lr, ?_, ?_⟩
  · exact (Clue.rv (s := a2) r8)
  exact I
 ·
  intro vs f w_ U X le A K I
  have q7 := A.v 0 rfl
  refine pl_ rfl (ay_ rfl lq_ q7 (((p1.mono (le2.trans le)).at_ I).fld Riddle.fld1) (fun u11 hu11 => ?_))
  obtain ⟨z10, m10, k10, rfl⟩ := ac_ hu11
  refine ⟨_, _, rfl, lr, ?_, ?_⟩
  · exact hu11
  exact I
 ·
  intro vs f w_ U X le A K I
  obtain ⟨z11, m11, k11, hu12, q8, r9⟩ := A.sl (a := 7) 1 rfl rfl rfl
  have q9 := A.v 2 rfl
  refine pl_ rfl (ix_ Tryz.underlying23 fn_ r9 hx2 q8 q9 (⟨_, _, rfl, lr, ?_, ?_⟩))
  ·
   show (af_ (Value.slice z11 m11 k11) (a1) (Enc.sz (List Int))) = (af_ (vs 7) (a1) (Enc.sz (List Int)))
   simp only [hu12] <;> rfl
  exact I
 ·
  intro vs f w_ U X le A K I
  obtain ⟨z12, m12, k12, hu13, q10, r10⟩ := A.sl (a := 7) 1 rfl rfl rfl
  have q11 := A.v 2 rfl
  have q12 : f 19 = (af_ (vs 7) (a1) (Enc.sz (List Int))) := A.v 3 rfl
  simp only [hu13] at q12
  have q12 : f 19 = (af_ (Value.slice z12 m12 k12) (a1) (Enc.sz (List Int))) := q12
  refine pl_ rfl (ay_ rfl fn_ q12 (r10.elem I.in_ hx2) (fun u14 hu14 => ?_))
  obtain ⟨z13, m13, k13, rfl⟩ := ac_ hu14
  refine ⟨_, _, rfl, lr, ?_, ?_⟩
  · exact hu14
  exact I
 ·
  intro vs f w_ U X le A K I
  have q14 : f 15 = vs 5 := (A.at_ 5 rfl _ rfl).1 _ rfl
  have r11 : RV U (vs 5) a2 := (A.at_ 5 rfl _ rfl).2
  obtain ⟨u15, hu15⟩ : ∃ u, vs 5 = u := ⟨_, rfl⟩
  rw [hu15] at q14 r11
  obtain ⟨c7, e18, r12⟩ := Clue.inv r11
  subst e18
  obtain ⟨z14, m14, k14, rfl⟩ := ac_ r12
  obtain ⟨z15, m15, k15, hu16, q15, r13⟩ := A.sl (a := 10) 10 rfl rfl rfl
  refine pl_ rfl (cv_ ca118 rfl I (fun Fr_ hF_ => wh_ hF_ (CodeLock.rv (s := x1)) (Clue.rv (s := a2) r12) r13 hx3) (cf_ (A.v 4 rfl) q14 q15) (fun w16 I18 => (fo I18)))
 ·
  intro vs f w_ U X le A K I
  refine pl_ rfl (bn_ (v := (vi x3.2)) rfl (A.v 14 rfl) (fo I))
 intro vs18 f w22 S20 ed1 le20 hF1 hK18 hI18
 have I24 : Inv w22 S20 (Fr) := hI18
 have q21 := hF1.v 15 rfl
 have q22 := hF1.v 16 rfl
 refine ab_ (aa_ (wm_ rfl q22 (wo_ (bm_ rfl rfl rfl (wm_ (v := (vb (x3.2 == 0))) rfl rfl ?_)))))
 rcases ifs h with ⟨hc1, h⟩ | ⟨hc1, h⟩
 ·
  refine wk_ rfl rfl hc1 (aq_ rfl q21 (wo_ (aw_ (a := (vb x3.1)) rfl rfl hc1 rfl (wa_ (v := (vb x3.1)) rfl rfl (ad_ (ak_ ?_))))))
  obtain rfl := sj h
  exact ⟨(ed1.trans rfl), (vb x3.1), (bo_ rfl rfl), _, [], ((le1.trans le2).trans le20), I24, rfl, rfl⟩
 refine ws_ rfl rfl hc1 (wo_ (ap_ (b := (vb false)) rfl rfl hc1 rfl (wa_ (v := (vb false)) rfl rfl (ad_ (ak_ ?_)))))
 obtain rfl := sj h
 exact ⟨(ed1.trans rfl), (vb false), (bo_ rfl rfl), _, [], ((le1.trans le2).trans le20), I24, rfl, rfl⟩
theorem tp_ {w : World} {S : PH} {Fr : List HP} {a0 : Clue} {v0 : Value} {a1 : Riddle} {v1 : Value} {a2 : Int} {v2 : Value} {r : Bool} (hI : Inv w S (Fr)) (h0_ : RV S v0 a0) (h1_ : PtS S v1 a1) (h2_ : PtS S v2 a2) (h : iy_ a0 a1 a2 = some r) :
    Calls Tryz.prog 110 [v0, v1, v2].toArray w (bw_ S Fr (Value.bool (r))) := by
 unfold iy_ at h
 obtain ⟨c1, e1, r1⟩ := Clue.inv h0_
 subst e1
 obtain ⟨z1, m1, k1, rfl⟩ := ac_ r1
 refine ao_ (n := 10) Tryz.func110 rfl rfl rfl (ab_ (aa_ (wo_ (bi_ (v := (.agg #[(vi a0.Kind), (vi a0.A), (vi a0.B), (vi a0.N), (vi a0.M), (.slice z1 m1 k1), (vb a0.Not)])) rfl hI rfl (fun g1 w1 I1 => ?_)))))
 obtain ⟨S1, le1, I2, p1⟩ := Inv.boxFreeze (x := a0) I1 (Clue.rv (s := a0) r1)
 refine wa_ (v := (vb false)) rfl rfl (ad_ (ab_ (aa_ (wo_ (ld_ fr_ ((h1_.mono le1).at_ I2) rfl (fun u1 hu1 => ?_))))))
 obtain ⟨c2, c3, c4, c5, e3, r2, r3, r4, r5⟩ := Riddle.inv hu1
 subst e3
 obtain ⟨z2, m2, k2, rfl⟩ := ac_ r2
 obtain ⟨z3, m3, k3, rfl⟩ := ac_ r3
 obtain ⟨z4, m4, k4, rfl⟩ := ac_ r4
 obtain ⟨z5, m5, k5, rfl⟩ := ac_ r5
 refine wo_ (li_ sh3 ((h2_.mono le1).at_ I2) rfl (wo_ (ld_ lk_ (p1.at_ I2) rfl (fun u2 hu2 => ?_))))
 obtain ⟨c6, e8, r6⟩ := Clue.inv hu2
 subst e8
 obtain ⟨z6, m6, k6, rfl⟩ := ac_ r6
 obtain ⟨x1, hx1, h⟩ := bnd h
 refine wo_ (cv_ ca98 rfl I2 (fun Fr_ hF_ => rn_ hF_ (Riddle.rv (s := a1) r2 r3 r4 r5) (Clue.rv (s := a0) r6) hx1) (cf_ rfl rfl rfl) (fun w2 I3 => (wo_ (bx_ rfl rfl (wa_ (v := (vb (!x1))) rfl rfl (ad_ (ak_ ?_)))))))
 obtain rfl := sj h
 exact ⟨rfl, (vb (!x1)), (bo_ rfl rfl), _, [], le1, I3, rfl, rfl⟩
theorem ia_ {w : World} {S : PH} {Fr : List HP} {a0 : (List Clue)} {v0 : Value} {a1 : Clue → Option Bool} {v1 : Value} {r : Int} (hI : Inv w S (Fr)) (h0_ : RV S v0 a0) (h1_ : FnV Tryz.prog S v1 a1) (h : dm_ a0 a1 = some r) :
    Calls Tryz.prog 121 [v0, v1].toArray w (bw_ S Fr (Value.int .i64 (r))) := by
 unfold dm_ at h
 obtain ⟨z1, m1, k1, rfl⟩ := ac_ h0_
 refine ao_ (n := 19) Tryz.func121 rfl rfl rfl (ab_ (aa_ (wa_ (v := (vi 0)) rfl rfl (ad_ (ab_ (ab_ (aa_ (wm_ (v := (.slice z1 m1 k1)) rfl rfl (wo_ (az_ rfl Tryz.underlying63 rfl h0_ (wm_ (v := (vi 0)) rfl rfl (ad_ ?_))))))))))))
 have hk1 : a0.length ≤ 9223372036854775807 := (cx_ h0_)
 obtain ⟨o2, hrun1, h⟩ := bnd h
 refine bp_ (fun f w => ∃ out1, o2 = Sum.inl out1 ∧ Inv w S (Fr) ∧ f 0 = (.slice z1 m1 k1) ∧ f 1 = v1 ∧ f 7 = (vi ((a0.length : Int))) ∧ f.ds = []) ?_ ?_
 ·
  refine au_ ?_
  refine ex_ (I := fun (i1 : Nat) (s1 : Unit) (f : Frm) (w : World) => Inv w S (Fr) ∧ f 0 = (.slice z1 m1 k1) ∧ f 1 = v1 ∧ f 7 = (vi ((a0.length : Int))) ∧ f 8 = (vi (i1 : Int)) ∧ f.ds = []) hrun1 ⟨hI, rfl, rfl, rfl, rfl, rfl⟩ ?_ ?_
  ·
   rintro i1 s1 f w o1 hlt1 hI1 h1 hout1
   obtain ⟨I5, e14, e15, e16, e17, ed3⟩ := hI1
   refine ab_ (aa_ (wo_ (be_ rfl e17 e16 (ad_ (ab_ (ah_ rfl (eo_ hlt1) (ar_ (ab_ (au_ (ab_ (aa_ (wm_ rfl e17 (wa_ (v := (vi (i1 : Int))) rfl rfl (ad_ (ab_ (aa_ (wm_ rfl e15 (wm_ rfl e14 (wm_ (v := (vi (i1 : Int))) rfl rfl ?_)))))))))))))))))))
   obtain ⟨x5, hx5, h1⟩ := bnd h1
   refine wo_ (ix_ Tryz.underlying63 lk_ h0_ hx5 rfl rfl (wo_ (ld_ lk_ (h0_.elem I5.in_ hx5) rfl (fun u3 hu3 => ?_))))
   obtain ⟨c3, e18, r3⟩ := Clue.inv hu3
   subst e18
   obtain ⟨z4, m4, k4, rfl⟩ := ac_ r3
   obtain ⟨x6, hx6, h1⟩ := bnd h1
   refine wo_ (kn_ (v := v1) (u := (.agg #[(vi x5.Kind), (vi x5.A), (vi x5.B), (vi x5.N), (vi x5.M), (.slice z4 m4 k4), (vb x5.Not)])) (r := x6) rfl rfl h1_ rfl (Clue.rv (s := x5) r3) hx6 I5 (fun w3 I6 => (ad_ ?_)))
   rcases ifs h1 with ⟨hc3, h1⟩ | ⟨hc3, h1⟩
   ·
    refine ah_ rfl hc3 (ab_ (aa_ (wm_ (v := (vi (i1 : Int))) rfl rfl (wa_ (v := (vi (i1 : Int))) rfl rfl (ad_ (ak_ ?_))))))
    obtain rfl := sj h1
    obtain rfl := (hout1 _ rfl)
    have h2 := h
    obtain rfl := sj h2
    exact ⟨ed3, (vi (i1 : Int)), (bo_ rfl rfl), _, [], lr, I6, rfl, rfl⟩
   refine ai_ rfl hc3 (ar_ (aa_ (wo_ (bl_ rfl e17 rfl (wm_ (v := (vi (w64 ((i1 : Int) + 1)))) rfl rfl (ad_ ?_))))))
   obtain rfl := sj h1
   exact ⟨_, rfl, I6, e14, e15, e16, (bh_ hlt1 hk1), ed3⟩
  rintro s2 f w hs1 hI2
  obtain ⟨I7, e20, e21, e22, e23, ed4⟩ := hI2
  refine ab_ (aa_ (wo_ (be_ rfl e23 e22 (ad_ (ab_ (ai_ rfl (ep_ _) (bk_ ?_)))))))
  exact ⟨s2, hs1, I7, e20, e21, e22, ed4⟩
 rintro f w ⟨out1, rfl, I8, e24, e25, e26, ed5⟩
 have h := eh_ h
 refine ab_ (aa_ (wa_ (v := (vi ((-1)))) rfl rfl (ad_ (ak_ ?_))))
 obtain rfl := sj h
 exact ⟨ed5, (vi ((-1))), (bo_ rfl rfl), _, [], lr, I8, rfl, rfl⟩
theorem gi_ {w : World} {S : PH} {Fr : List HP} {a0 : (List Clue)} {v0 : Value} {a1 : Clue → Option Bool} {v1 : Value} {r : Bool} (hI : Inv w S (Fr)) (h0_ : RV S v0 a0) (h1_ : FnV Tryz.prog S v1 a1) (h : cg_ a0 a1 = some r) :
    Calls Tryz.prog 109 [v0, v1].toArray w (bw_ S Fr (Value.bool (r))) := by
 unfold cg_ at h
 obtain ⟨z1, m1, k1, rfl⟩ := ac_ h0_
 refine ao_ (n := 9) Tryz.func109 rfl rfl rfl (ab_ (aa_ (wa_ (v := (vb false)) rfl rfl (ad_ (ab_ (aa_ (wm_ (v := (.slice z1 m1 k1)) rfl rfl (wm_ (v := v1) rfl rfl ?_))))))))
 obtain ⟨x1, hx1, h⟩ := bnd h
 refine wo_ (cv_ ca121 rfl hI (fun Fr_ hF_ => ia_ hF_ h0_ h1_ hx1) (br_ rfl rfl) (fun w1 I1 => (wo_ (mx_ rfl rfl rfl (wa_ (v := (vb (decide (0 ≤ x1)))) rfl rfl (ad_ (ak_ ?_)))))))
 obtain rfl := sj h
 exact ⟨rfl, (vb (decide (0 ≤ x1))), (bo_ rfl rfl), _, [], lr, I1, rfl, rfl⟩
end Go.Proofs.YtlpdpeghgndmkaaGreat.Pad
