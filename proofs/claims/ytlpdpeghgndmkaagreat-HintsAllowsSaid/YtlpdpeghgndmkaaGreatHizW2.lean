/- A part of the proof: what the functions of the program compute, shown over the model. -/
import Derived.Test.YtlpdpeghgndmkaaGreatHizP
import Derived.Test.YtlpdpeghgndmkaaGreatHizW1
import Derived.KernelRfl
set_option linter.unusedVariables false
set_option maxHeartbeats 4000000
set_option maxRecDepth 100000
namespace Go.Proofs.YtlpdpeghgndmkaaGreat.Pad
open Go Go.Proofs
theorem uo_ {w : World} {S : PH} {Fr : List HP} {a0 : (List Int)} {v0 : Value} {a1 : (List Int)} {v1 : Value} {r : Int × Int} (hI : Inv w S (Fr)) (h0_ : RV S v0 a0) (h1_ : RV S v1 a1) (h : jy_ a0 a1 = some r) :
    Calls Tryz.prog 107 [v0, v1].toArray w (bw_ S Fr (Value.tuple #[(Value.int .i64 (r.1)), (Value.int .i64 (r.2))])) := by
 unfold jy_ at h
 obtain ⟨z1, m1, k1, rfl⟩ := ac_ h0_
 obtain ⟨z2, m2, k2, rfl⟩ := ac_ h1_
 refine ao_ (n := 44) Tryz.func107 rfl rfl rfl (ab_ (aa_ (wa_ (v := (vi 0)) rfl rfl (wa_ (v := (vi 0)) rfl rfl (ad_ (ab_ (aa_ (wa_ (v := (vi 0)) rfl rfl (wa_ (v := (vi 0)) rfl rfl (ad_ (ab_ (ab_ (aa_ (wa_ (v := (vi 0)) rfl rfl (ad_ ?_)))))))))))))))
 have hk1 : a0.length ≤ 9223372036854775807 := (cx_ h0_)
 obtain ⟨out1, hrun1, h⟩ := bnd h
 refine bp_ (fun f w => ∃ (S_ : PH), S.Le S_ ∧ Inv w S_ (Fr) ∧ f 0 = (.slice z1 m1 k1) ∧ f 1 = (.slice z2 m2 k2) ∧ f 6 = (vi out1) ∧ f 7 = (vi 0) ∧ f.ds = []) ?_ ?_
 ·
  refine au_ ?_
  refine da_ (I := fun (i1 : Nat) (s1 : (Int)) (f : Frm) (w : World) => ∃ (S_ : PH), S.Le S_ ∧ Inv w S_ (Fr) ∧ f 0 = (.slice z1 m1 k1) ∧ f 1 = (.slice z2 m2 k2) ∧ f 6 = (vi s1) ∧ f 7 = (vi 0) ∧ f 8 = (vi (i1 : Int)) ∧ f.ds = []) hrun1 ⟨_, lr, hI, rfl, rfl, rfl, rfl, rfl, rfl⟩ ?_ ?_
  ·
   rintro i1 s1 f w o1 hlt1 hI31 h1
   obtain ⟨S33, le33, I34, e33, e34, e35, e36, e37, ed7⟩ := hI31
   refine ab_ (ab_ (aa_ (wm_ rfl e37 (wm_ rfl e33 (wo_ (az_ rfl Tryz.underlying28 rfl (h0_.mono le33) (wo_ (be_ rfl rfl rfl (ad_ (ah_ rfl (eo_ hlt1) (ar_ (ab_ (au_ (ab_ ?_))))))))))))))
   obtain ⟨x7, hx7, h1⟩ := bnd h1
   obtain ⟨x8, hx8, h1⟩ := bnd h1
   refine bj_ (sps := [spV 16 [] 0 (.slice z1 m1 k1), spV 17 [] 1 (vi (i1 : Int)), spV 18 [0, 1] 2 (af_ (.slice z1 m1 k1) ((i1 : Int)) (Enc.sz Int)), spV 19 [0, 1, 2] 3 (vi x7), spV 20 [] 4 (.slice z2 m2 k2), spV 21 [] 5 (vi (i1 : Int)), spV 22 [4, 5] 6 (af_ (.slice z2 m2 k2) ((i1 : Int)) (Enc.sz Int)), spV 23 [4, 5, 6] 7 (vi x8), spV 24 (lrg 8) 8 (vb (x7 == x8))]) (tks := []) (O := Fr) rfl (by kernel_rfl) I34 ⟨ob_ rfl fun l A K I => (aq_ rfl ((K 0 (ag_ rfl)).trans e33) (fo I)), ob_ rfl fun l A K I => (aq_ rfl ((K 8 (ag_ rfl)).trans e37) (fo I)), ob_ rfl fun l A K I => (ix_ Tryz.underlying28 sh3 (h0_.mono (le33.trans l)) hx7 (A.v 0 rfl) (A.v 1 rfl) (fo I)), ob_ rfl fun l A K I => (aj_ rfl sh3 (A.v 2 rfl) ((h0_.mono (le33.trans l)).elem I.in_ hx7) (fo I)), ob_ rfl fun l A K I => (aq_ rfl ((K 1 (ag_ rfl)).trans e34) (fo I)), ob_ rfl fun l A K I => (aq_ rfl ((K 8 (ag_ rfl)).trans e37) (fo I)), ob_ rfl fun l A K I => (ix_ Tryz.underlying28 sh3 (h1_.mono (le33.trans l)) hx8 (A.v 0 rfl) (A.v 1 rfl) (fo I)), ob_ rfl fun l A K I => (aj_ rfl sh3 (A.v 2 rfl) ((h1_.mono (le33.trans l)).elem I.in_ hx8) (fo I)), ?_, trivial⟩ ?_
   ·
    intro vs f w_ U X le A K I
    refine pl_ rfl (bm_ rfl (A.v 3 rfl) (A.v 7 rfl) (fo I))
   intro vs40 f w40 S43 ed8 le43 hF4 hK40 hI41
   have e38 : f 0 = (Value.slice z1 m1 k1) := (hK40 0 (al_ rfl)).trans e33
   have e39 : f 1 = (Value.slice z2 m2 k2) := (hK40 1 (al_ rfl)).trans e34
   have e40 : f 6 = (vi s1) := (hK40 6 (al_ rfl)).trans e35
   have e41 : f 7 = (vi 0) := (hK40 7 (al_ rfl)).trans e36
   have e42 : f 8 = (vi ((i1 : Int))) := (hK40 8 (al_ rfl)).trans e37
   have I44 : Inv w40 S43 (Fr) := hI41
   have q36 := hF4.v 8 rfl
   rcases ifs h1 with ⟨hc4, h1⟩ | ⟨hc4, h1⟩
   ·
    refine ah_ q36 hc4 (aa_ (wm_ rfl e40 (wo_ (bl_ rfl rfl rfl (wa_ (v := (vi (w64 (s1 + 1)))) rfl rfl (ad_ (aa_ (wm_ rfl e42 (wo_ (bl_ rfl rfl rfl (wa_ (v := (vi (w64 ((i1 : Int) + 1)))) rfl rfl (ad_ ?_))))))))))))
    obtain rfl := sj h1
    exact ⟨_, (le33.trans le43), I44, e38, e39, rfl, e41, (bh_ hlt1 hk1), (ed8.trans ed7)⟩
   refine ai_ q36 hc4 (ar_ (aa_ (wm_ rfl e42 (wo_ (bl_ rfl rfl rfl (wa_ (v := (vi (w64 ((i1 : Int) + 1)))) rfl rfl (ad_ ?_)))))))
   obtain rfl := sj h1
   exact ⟨_, (le33.trans le43), I44, e38, e39, e40, e41, (bh_ hlt1 hk1), (ed8.trans ed7)⟩
  rintro f w hI42
  obtain ⟨S44, le44, I45, e43, e44, e45, e46, e47, ed9⟩ := hI42
  refine ab_ (ab_ (aa_ (wm_ rfl e47 (wm_ rfl e43 (wo_ (az_ rfl Tryz.underlying28 rfl (h0_.mono le44) (wo_ (be_ rfl rfl rfl (ad_ (ai_ rfl (ep_ _) (bk_ ?_)))))))))))
  exact ⟨_, le44, I45, e43, e44, e45, e46, ed9⟩
 rintro f w ⟨S45, le45, I46, e48, e49, e50, e51, ed10⟩
 refine ab_ (ab_ (aa_ (wa_ (v := (vi 0)) rfl rfl (ad_ ?_))))
 obtain ⟨x15, hx15, h⟩ := bnd h
 obtain ⟨out2, hrun2, h⟩ := bnd h
 refine bp_ (fun f w => Inv w S45 (Fr) ∧ f 0 = (.slice z1 m1 k1) ∧ f 1 = (.slice z2 m2 k2) ∧ f 6 = (vi out1) ∧ f 7 = (vi out2) ∧ f.ds = []) ?_ ?_
 ·
  refine au_ ?_
  refine da_ (I := fun (i2 : Nat) (s2 : (Int)) (f : Frm) (w : World) => Inv w S45 (Fr) ∧ f 0 = (.slice z1 m1 k1) ∧ f 1 = (.slice z2 m2 k2) ∧ f 6 = (vi out1) ∧ f 7 = (vi s2) ∧ f 9 = (vi (i2 : Int)) ∧ f.ds = []) hrun2 ⟨I46, e48, e49, e50, e51, rfl, ed10⟩ ?_ ?_
  ·
   rintro i2 s2 f w o2 hlt2 hI43 h3
   obtain ⟨I56, e67, e68, e69, e70, e71, ed14⟩ := hI43
   refine ab_ (ab_ (aa_ (wm_ rfl e71 (wo_ (be_ rfl rfl rfl (ad_ (ah_ rfl (cnt_t hx15 hlt2) (ar_ (ab_ (au_ (aa_ (wm_ rfl e70 (wm_ rfl e67 (wm_ rfl e71 ?_))))))))))))))
   obtain ⟨x16, hx16, h3⟩ := bnd h3
   refine wo_ (cv_ ca106 rfl I56 (fun Fr_ hF_ => mi_ hF_ (h0_.mono le45) hx16) (br_ rfl rfl) (fun w47 I57 => (wm_ rfl e68 (wm_ rfl e71 ?_))))
   obtain ⟨x17, hx17, h3⟩ := bnd h3
   refine wo_ (cv_ ca106 rfl I57 (fun Fr_ hF_ => mi_ hF_ (h1_.mono le45) hx17) (br_ rfl rfl) (fun w48 I58 => (wo_ (op_min (a := x16) (b := x17) rfl rfl rfl (wo_ (bl_ rfl rfl rfl (wa_ (v := (vi (w64 (s2 + (tm_ x16 x17))))) rfl rfl (ad_ (aa_ (wm_ rfl e71 (wo_ (bl_ rfl rfl rfl (wa_ (v := (vi (w64 ((i2 : Int) + 1)))) rfl rfl (ad_ ?_))))))))))))))
   obtain rfl := sj h3
   exact ⟨I58, e67, e68, e69, rfl, (bh_ hlt2 (zi_ hx15)), ed14⟩
  rintro f w hI44
  obtain ⟨I59, e72, e73, e74, e75, e76, ed15⟩ := hI44
  refine ab_ (ab_ (aa_ (wm_ rfl e76 (wo_ (be_ rfl rfl rfl (ad_ (ai_ rfl (cnt_f hx15) (bk_ ?_))))))))
  exact ⟨I59, e72, e73, e74, e75, ed15⟩
 rintro f w ⟨I60, e77, e78, e79, e80, ed16⟩
 refine ab_ (aa_ (wm_ rfl e79 (wm_ rfl e80 (wm_ rfl e79 (wo_ (eb_ rfl rfl rfl (wa_ (v := (vi out1)) rfl rfl (wa_ (v := (vi (w64 (out2 - out1)))) rfl rfl (ad_ (ak_ ?_))))))))))
 obtain rfl := sj h
 exact ⟨ed16, (Value.tuple #[(vi out1), (vi (w64 (out2 - out1)))]), (qy_ rfl rfl rfl), _, [], le45, I60, rfl, rfl⟩
theorem rd_ {w : World} {S : PH} {Fr : List HP} {a0 : Clue} {v0 : Value} {a1 : (List Int)} {v1 : Value} {r : Bool} (hI : Inv w S (Fr)) (h0_ : RV S v0 a0) (h1_ : RV S v1 a1) (h : gu_ a0 a1 = some r) :
    Calls Tryz.prog 92 [v0, v1].toArray w (bw_ S Fr (Value.bool (r))) := by
 unfold gu_ at h
 obtain ⟨c1, e1, r1⟩ := Clue.inv h0_
 subst e1
 obtain ⟨z1, m1, k1, rfl⟩ := ac_ r1
 obtain ⟨z2, m2, k2, rfl⟩ := ac_ h1_
 refine ao_ (n := 113) Tryz.func92 rfl rfl rfl (ab_ (aa_ (wo_ (bi_ (v := (.agg #[(vi a0.Kind), (vi a0.A), (vi a0.B), (vi a0.N), (vi a0.M), (.slice z1 m1 k1), (vb a0.Not)])) rfl hI rfl (fun g1 w1 I1 => ?_)))))
 obtain ⟨S1, le1, I2, p1⟩ := Inv.boxFreeze (x := a0) I1 (Clue.rv (s := a0) r1)
 refine wa_ (v := (vb false)) rfl rfl (ad_ (ab_ (aa_ (wa_ (v := (vb false)) rfl rfl (ad_ (ab_ (ab_ (aa_ (wo_ (fa_ tb_ (p1.at_ I2) rfl (wo_ (li_ sh3 ((p1.at_ I2).fld Clue.fld0) rfl (ad_ (au_ (ab_ (aa_ (wo_ (bm_ rfl rfl rfl (wa_ (v := (vb (a0.Kind == 1))) rfl rfl (ad_ ?_))))))))))))))))))))
 rcases ifs h with ⟨hc1, h⟩ | ⟨hc1, h⟩
 ·
  refine ah_ rfl hc1 ?_
  obtain ⟨x1, hx1, h⟩ := bnd h
  refine bj_ (sps := [spV 14 [] 0 (.slice z2 m2 k2), spV 15 [] 1 (an_ (pt_ g1) 1), spV 16 [1] 2 (vi a0.A), spV 17 [0, 1, 2] 3 (af_ (.slice z2 m2 k2) (a0.A) (Enc.sz Int)), spV 18 [0, 1, 2, 3] 4 (vi x1), spV 19 [] 5 (an_ (pt_ g1) 3), spV 20 [5] 6 (vi a0.N), spV 21 (lrg 7) 7 (vb (x1 == a0.N)), spV 5 (lrg 8) 8 (vb (x1 == a0.N))]) (tks := []) (O := Fr) rfl (by kernel_rfl) I2 ⟨ob_ rfl fun l A K I => (aq_ rfl (K 1 (ag_ rfl)) (fo I)), ob_ rfl fun l A K I => (ae_ rfl db_ (K 2 (ag_ rfl)) ((p1.mono l).at_ I) (fo I)), ob_ rfl fun l A K I => (aj_ rfl sh3 (A.v 0 rfl) (((p1.mono l).at_ I).fld Clue.fld1) (fo I)), ob_ rfl fun l A K I => (ix_ Tryz.underlying28 sh3 (h1_.mono (le1.trans l)) hx1 (A.v 0 rfl) (A.v 2 rfl) (fo I)), ob_ rfl fun l A K I => (aj_ rfl sh3 (A.v 3 rfl) ((h1_.mono (le1.trans l)).elem I.in_ hx1) (fo I)), ob_ rfl fun l A K I => (ae_ rfl ck_ (K 2 (ag_ rfl)) ((p1.mono l).at_ I) (fo I)), ob_ rfl fun l A K I => (aj_ rfl sh3 (A.v 0 rfl) (((p1.mono l).at_ I).fld Clue.fld3) (fo I)), ob_ rfl fun l A K I => (bm_ rfl (A.v 4 rfl) (A.v 6 rfl) (fo I)), ?_, trivial⟩ ?_
  ·
   intro vs f w_ U X le A K I
   refine pl_ rfl (bn_ (v := (vb (x1 == a0.N))) rfl (A.v 7 rfl) (fo I))
  intro vs10 f w11 S11 ed1 le11 hF1 hK10 hI10
  have e4 : f 2 = (pt_ g1) := (hK10 2 (al_ rfl)).trans rfl
  have I12 : Inv w11 S11 (Fr) := hI10
  have q9 := hF1.v 8 rfl
  refine ab_ (aa_ (wm_ rfl q9 (wo_ (ae_ rfl mb_ e4 ((p1.mono le11).at_ I12) (wo_ (lb_ sh4 (((p1.mono le11).at_ I12).fld Clue.fld6) rfl (wo_ (mj_ (a := x1 == a0.N) (b := a0.Not) rfl Tryz.underlying4 rfl rfl (wa_ (v := (vb ((x1 == a0.N) != a0.Not))) rfl rfl (ad_ (ak_ ?_)))))))))))
  obtain rfl := sj h
  exact ⟨(ed1.trans rfl), (vb ((x1 == a0.N) != a0.Not)), (bo_ rfl rfl), _, [], (le1.trans le11), I12, rfl, rfl⟩
 refine ai_ rfl hc1 (ab_ (aa_ (wo_ (bm_ rfl rfl rfl (wa_ (v := (vb (a0.Kind == 2))) rfl rfl (ad_ ?_))))))
 rcases ifs h with ⟨hc2, h⟩ | ⟨hc2, h⟩
 ·
  refine ah_ rfl hc2 (ab_ (aa_ (wa_ (v := (vi 0)) rfl rfl (ad_ (ab_ (ab_ (aa_ (wo_ (fa_ db_ (p1.at_ I2) rfl (wo_ (li_ sh3 ((p1.at_ I2).fld Clue.fld1) rfl (wa_ (v := (vi a0.A)) rfl rfl (ad_ ?_)))))))))))))
  obtain ⟨out1, hrun1, h⟩ := bnd h
  refine bp_ (fun f w => Inv w S1 (Fr) ∧ f 1 = (.slice z2 m2 k2) ∧ f 2 = (pt_ g1) ∧ f 6 = (vi out1.1) ∧ f 7 = (vi out1.2) ∧ f.ds = []) ?_ ?_
  ·
   refine au_ ?_
   refine kr_ (I := fun (s1 : (Int × Int)) (f : Frm) (w : World) => Inv w S1 (Fr) ∧ f 1 = (.slice z2 m2 k2) ∧ f 2 = (pt_ g1) ∧ f 6 = (vi s1.1) ∧ f 7 = (vi s1.2) ∧ f.ds = []) hrun1 ⟨I2, rfl, rfl, rfl, rfl, rfl⟩ ?_
   rintro s1 f w o1 hI11 h1 hout1
   obtain ⟨I19, e29, e30, e31, e32, ed8⟩ := hI11
   refine ab_ (ab_ (aa_ (wm_ rfl e32 (wo_ (ae_ rfl fv_ e30 (p1.at_ I19) (wo_ (li_ sh3 ((p1.at_ I19).fld Clue.fld2) rfl (wo_ (sw_ rfl rfl rfl (ad_ ?_))))))))))
   rcases ifs h1 with ⟨hc9, h1⟩ | ⟨hc9, h1⟩
   ·
    refine ah_ rfl hc9 (ar_ (ab_ (au_ (aa_ (wm_ rfl e31 (wm_ rfl e29 (wm_ rfl e32 ?_)))))))
    obtain ⟨x8, hx8, h1⟩ := bnd h1
    refine wo_ (ix_ Tryz.underlying28 sh3 (h1_.mono le1) hx8 rfl rfl (wo_ (li_ sh3 ((h1_.mono le1).elem I19.in_ hx8) rfl (wo_ (bl_ rfl rfl rfl (wa_ (v := (vi (w64 (s1.1 + x8)))) rfl rfl (ad_ (aa_ (wm_ rfl e32 (wo_ (bl_ rfl rfl rfl (wa_ (v := (vi (w64 (s1.2 + 1)))) rfl rfl (ad_ ?_)))))))))))))
    obtain rfl := sj h1
    exact ⟨_, rfl, I19, e29, e30, rfl, rfl, ed8⟩
   refine ai_ rfl hc9 (bk_ ?_)
   obtain rfl := sj h1
   obtain rfl := (hout1 _ rfl)
   exact ⟨I19, e29, e30, e31, e32, ed8⟩
  rintro f w ⟨I20, e33, e34, e35, e36, ed9⟩
  refine aa_ (wm_ rfl e35 (wo_ (ae_ rfl ck_ e34 (p1.at_ I20) (wo_ (li_ sh3 ((p1.at_ I20).fld Clue.fld3) rfl (wo_ (bm_ rfl rfl rfl (wa_ (v := (vb (out1.1 == a0.N))) rfl rfl (ad_ (ab_ (aa_ (wm_ (v := (vb (out1.1 == a0.N))) rfl rfl (wo_ (ae_ rfl mb_ e34 (p1.at_ I20) (wo_ (lb_ sh4 ((p1.at_ I20).fld Clue.fld6) rfl (wo_ (mj_ (a := out1.1 == a0.N) (b := a0.Not) rfl Tryz.underlying4 rfl rfl (wa_ (v := (vb ((out1.1 == a0.N) != a0.Not))) rfl rfl (ad_ (ak_ ?_)))))))))))))))))))))
  obtain rfl := sj h
  exact ⟨ed9, (vb ((out1.1 == a0.N) != a0.Not)), (bo_ rfl rfl), _, [], le1, I20, rfl, rfl⟩
 refine ai_ rfl hc2 (ab_ (aa_ (wo_ (bm_ rfl rfl rfl (wa_ (v := (vb (a0.Kind == 3))) rfl rfl (ad_ ?_))))))
 rcases ifs h with ⟨hc10, h⟩ | ⟨hc10, h⟩
 ·
  refine ah_ rfl hc10 ?_
  obtain ⟨x9, hx9, h⟩ := bnd h
  obtain ⟨x10, hx10, h⟩ := bnd h
  refine bj_ (sps := [spV 44 [] 0 (.slice z2 m2 k2), spV 45 [] 1 (an_ (pt_ g1) 1), spV 46 [1] 2 (vi a0.A), spV 47 [0, 1, 2] 3 (af_ (.slice z2 m2 k2) (a0.A) (Enc.sz Int)), spV 48 [0, 1, 2, 3] 4 (vi x9), spV 49 [] 5 (.slice z2 m2 k2), spV 50 [] 6 (an_ (pt_ g1) 2), spV 51 [6] 7 (vi a0.B), spV 52 [5, 6, 7] 8 (af_ (.slice z2 m2 k2) (a0.B) (Enc.sz Int)), spV 53 [5, 6, 7, 8] 9 (vi x10), spV 54 (lrg 10) 10 (vb (decide (x9 < x10))), spV 5 (lrg 11) 11 (vb (decide (x9 < x10)))]) (tks := []) (O := Fr) rfl (by kernel_rfl) I2 ⟨ob_ rfl fun l A K I => (aq_ rfl (K 1 (ag_ rfl)) (fo I)), ob_ rfl fun l A K I => (ae_ rfl db_ (K 2 (ag_ rfl)) ((p1.mono l).at_ I) (fo I)), ob_ rfl fun l A K I => (aj_ rfl sh3 (A.v 0 rfl) (((p1.mono l).at_ I).fld Clue.fld1) (fo I)), ob_ rfl fun l A K I => (ix_ Tryz.underlying28 sh3 (h1_.mono (le1.trans l)) hx9 (A.v 0 rfl) (A.v 2 rfl) (fo I)), ob_ rfl fun l A K I => (aj_ rfl sh3 (A.v 3 rfl) ((h1_.mono (le1.trans l)).elem I.in_ hx9) (fo I)), ob_ rfl fun l A K I => (aq_ rfl (K 1 (ag_ rfl)) (fo I)), ob_ rfl fun l A K I => (ae_ rfl fv_ (K 2 (ag_ rfl)) ((p1.mono l).at_ I) (fo I)), ob_ rfl fun l A K I => (aj_ rfl sh3 (A.v 0 rfl) (((p1.mono l).at_ I).fld Clue.fld2) (fo I)), ob_ rfl fun l A K I => (ix_ Tryz.underlying28 sh3 (h1_.mono (le1.trans l)) hx10 (A.v 0 rfl) (A.v 2 rfl) (fo I)), ob_ rfl fun l A K I => (aj_ rfl sh3 (A.v 3 rfl) ((h1_.mono (le1.trans l)).elem I.in_ hx10) (fo I)), ob_ rfl fun l A K I => (be_ rfl (A.v 4 rfl) (A.v 9 rfl) (fo I)), ?_, trivial⟩ ?_
  ·
   intro vs f w_ U X le A K I
   refine pl_ rfl (bn_ (v := (vb (decide (x9 < x10)))) rfl (A.v 10 rfl) (fo I))
  intro vs23 f w24 S24 ed10 le24 hF2 hK23 hI24
  have e37 : f 2 = (pt_ g1) := (hK23 2 (al_ rfl)).trans rfl
  have I33 : Inv w24 S24 (Fr) := hI24
  have q21 := hF2.v 11 rfl
  refine ab_ (aa_ (wm_ rfl q21 (wo_ (ae_ rfl mb_ e37 ((p1.mono le24).at_ I33) (wo_ (lb_ sh4 (((p1.mono le24).at_ I33).fld Clue.fld6) rfl (wo_ (mj_ (a := decide (x9 < x10)) (b := a0.Not) rfl Tryz.underlying4 rfl rfl (wa_ (v := (vb ((decide (x9 < x10)) != a0.Not))) rfl rfl (ad_ (ak_ ?_)))))))))))
  obtain rfl := sj h
  exact ⟨(ed10.trans rfl), (vb ((decide (x9 < x10)) != a0.Not)), (bo_ rfl rfl), _, [], (le1.trans le24), I33, rfl, rfl⟩
 refine ai_ rfl hc10 (ab_ (aa_ (wo_ (bm_ rfl rfl rfl (wa_ (v := (vb (a0.Kind == 4))) rfl rfl (ad_ ?_))))))
 rcases ifs h with ⟨hc11, h⟩ | ⟨hc11, h⟩
 ·
  refine ah_ rfl hc11 ?_
  obtain ⟨x11, hx11, h⟩ := bnd h
  obtain ⟨x12, hx12, h⟩ := bnd h
  refine bj_ (sps := [spV 57 [] 0 (.slice z2 m2 k2), spV 58 [] 1 (an_ (pt_ g1) 1), spV 59 [1] 2 (vi a0.A), spV 60 [0, 1, 2] 3 (af_ (.slice z2 m2 k2) (a0.A) (Enc.sz Int)), spV 61 [0, 1, 2, 3] 4 (vi x11), spV 62 [] 5 (.slice z2 m2 k2), spV 63 [] 6 (an_ (pt_ g1) 2), spV 64 [6] 7 (vi a0.B), spV 65 [5, 6, 7] 8 (af_ (.slice z2 m2 k2) (a0.B) (Enc.sz Int)), spV 66 [5, 6, 7, 8] 9 (vi x12), spV 67 (lrg 10) 10 (vb (x11 == x12)), spV 5 (lrg 11) 11 (vb (x11 == x12))]) (tks := []) (O := Fr) rfl (by kernel_rfl) I2 ⟨ob_ rfl fun l A K I => (aq_ rfl (K 1 (ag_ rfl)) (fo I)), ob_ rfl fun l A K I => (ae_ rfl db_ (K 2 (ag_ rfl)) ((p1.mono l).at_ I) (fo I)), ob_ rfl fun l A K I => (aj_ rfl sh3 (A.v 0 rfl) (((p1.mono l).at_ I).fld Clue.fld1) (fo I)), ob_ rfl fun l A K I => (ix_ Tryz.underlying28 sh3 (h1_.mono (le1.trans l)) hx11 (A.v 0 rfl) (A.v 2 rfl) (fo I)), ob_ rfl fun l A K I => (aj_ rfl sh3 (A.v 3 rfl) ((h1_.mono (le1.trans l)).elem I.in_ hx11) (fo I)), ob_ rfl fun l A K I => (aq_ rfl (K 1 (ag_ rfl)) (fo I)), ob_ rfl fun l A K I => (ae_ rfl fv_ (K 2 (ag_ rfl)) ((p1.mono l).at_ I) (fo I)), ob_ rfl fun l A K I => (aj_ rfl sh3 (A.v 0 rfl) (((p1.mono l).at_ I).fld Clue.fld2) (fo I)), ob_ rfl fun l A K I => (ix_ Tryz.underlying28 sh3 (h1_.mono (le1.trans l)) hx12 (A.v 0 rfl) (A.v 2 rfl) (fo I)), ob_ rfl fun l A K I => (aj_ rfl sh3 (A.v 3 rfl) ((h1_.mono (le1.trans l)).elem I.in_ hx12) (fo I)), ob_ rfl fun l A K I => (bm_ rfl (A.v 4 rfl) (A.v 9 rfl) (fo I)), ?_, trivial⟩ ?_
  ·
   intro vs f w_ U X le A K I
   refine pl_ rfl (bn_ (v := (vb (x11 == x12))) rfl (A.v 10 rfl) (fo I))
  intro vs36 f w37 S37 ed11 le37 hF3 hK36 hI37
  have e38 : f 2 = (pt_ g1) := (hK36 2 (al_ rfl)).trans rfl
  have I46 : Inv w37 S37 (Fr) := hI37
  have q33 := hF3.v 11 rfl
  refine ab_ (aa_ (wm_ rfl q33 (wo_ (ae_ rfl mb_ e38 ((p1.mono le37).at_ I46) (wo_ (lb_ sh4 (((p1.mono le37).at_ I46).fld Clue.fld6) rfl (wo_ (mj_ (a := x11 == x12) (b := a0.Not) rfl Tryz.underlying4 rfl rfl (wa_ (v := (vb ((x11 == x12) != a0.Not))) rfl rfl (ad_ (ak_ ?_)))))))))))
  obtain rfl := sj h
  exact ⟨(ed11.trans rfl), (vb ((x11 == x12) != a0.Not)), (bo_ rfl rfl), _, [], (le1.trans le37), I46, rfl, rfl⟩
 refine ai_ rfl hc11 (ab_ (aa_ (wo_ (bm_ rfl rfl rfl (wa_ (v := (vb (a0.Kind == 5))) rfl rfl (ad_ ?_))))))
 rcases ifs h with ⟨hc12, h⟩ | ⟨hc12, h⟩
 ·
  refine ah_ rfl hc12 ?_
  obtain ⟨x13, hx13, h⟩ := bnd h
  refine bj_ (sps := [spV 70 [] 0 (.slice z2 m2 k2), spV 71 [] 1 (an_ (pt_ g1) 3), spV 72 [1] 2 (vi a0.N), spV 73 [0, 1, 2] 3 (vi x13), spV 74 [] 4 (an_ (pt_ g1) 4), spV 75 [4] 5 (vi a0.M), spV 76 (lrg 6) 6 (vb (x13 == a0.M)), spV 5 (lrg 7) 7 (vb (x13 == a0.M))]) (tks := []) (O := Fr) rfl (by kernel_rfl) I2 ⟨ob_ rfl fun l A K I => (aq_ rfl (K 1 (ag_ rfl)) (fo I)), ob_ rfl fun l A K I => (ae_ rfl ck_ (K 2 (ag_ rfl)) ((p1.mono l).at_ I) (fo I)), ob_ rfl fun l A K I => (aj_ rfl sh3 (A.v 0 rfl) (((p1.mono l).at_ I).fld Clue.fld3) (fo I)), fun vs f w U X l A K I => pl_ rfl (cv_ ca106 rfl I (fun Fr_ hF_ => mi_ hF_ (h1_.mono (le1.trans l)) hx13) (br_ (A.v 0 rfl) (A.v 2 rfl)) (fun w43 I52 => (fo I52))), ob_ rfl fun l A K I => (ae_ rfl fd_ (K 2 (ag_ rfl)) ((p1.mono l).at_ I) (fo I)), ob_ rfl fun l A K I => (aj_ rfl sh3 (A.v 0 rfl) (((p1.mono l).at_ I).fld Clue.fld4) (fo I)), ob_ rfl fun l A K I => (bm_ rfl (A.v 3 rfl) (A.v 5 rfl) (fo I)), ?_, trivial⟩ ?_
  ·
   intro vs f w_ U X le A K I
   refine pl_ rfl (bn_ (v := (vb (x13 == a0.M))) rfl (A.v 6 rfl) (fo I))
  intro vs45 f w48 S46 ed12 le46 hF4 hK45 hI46
  have e39 : f 2 = (pt_ g1) := (hK45 2 (al_ rfl)).trans rfl
  have I57 : Inv w48 S46 (Fr) := hI46
  have q41 := hF4.v 7 rfl
  refine ab_ (aa_ (wm_ rfl q41 (wo_ (ae_ rfl mb_ e39 ((p1.mono le46).at_ I57) (wo_ (lb_ sh4 (((p1.mono le46).at_ I57).fld Clue.fld6) rfl (wo_ (mj_ (a := x13 == a0.M) (b := a0.Not) rfl Tryz.underlying4 rfl rfl (wa_ (v := (vb ((x13 == a0.M) != a0.Not))) rfl rfl (ad_ (ak_ ?_)))))))))))
  obtain rfl := sj h
  exact ⟨(ed12.trans rfl), (vb ((x13 == a0.M) != a0.Not)), (bo_ rfl rfl), _, [], (le1.trans le46), I57, rfl, rfl⟩
 refine ai_ rfl hc12 (ab_ (aa_ (wo_ (bm_ rfl rfl rfl (wa_ (v := (vb (a0.Kind == 6))) rfl rfl (ad_ ?_))))))
 rcases ifs h with ⟨hc13, h⟩ | ⟨hc13, h⟩
 ·
  refine ah_ rfl hc13 (ab_ (aa_ (wm_ (v := (.slice z2 m2 k2)) rfl rfl (wo_ (fa_ kf_ (p1.at_ I2) rfl (wo_ (ld_ fn_ ((p1.at_ I2).fld Clue.fld5) rfl (fun u1 hu1 => ?_))))))))
  obtain ⟨z3, m3, k3, rfl⟩ := ac_ hu1
  obtain ⟨x14, hx14, h⟩ := bnd h
  refine wo_ (cv_ ca107 rfl I2 (fun Fr_ hF_ => uo_ hF_ (h1_.mono le1) hu1 hx14) (br_ rfl rfl) (fun w49 I58 => (wm_ (v := (Value.tuple #[(vi x14.1), (vi x14.2)])) rfl rfl (wo_ (bg_ (v := (vi x14.1)) rfl rfl rfl (wo_ (bg_ (v := (vi x14.2)) rfl rfl rfl (wa_ (v := (vi x14.1)) rfl rfl (wa_ (v := (vi x14.2)) rfl rfl (ad_ (aa_ (wm_ (v := (vi x14.1)) rfl rfl (wo_ (fa_ ck_ (p1.at_ I58) rfl (wo_ (li_ sh3 ((p1.at_ I58).fld Clue.fld3) rfl (wo_ (bm_ rfl rfl rfl (wm_ (v := (vb (x14.1 == a0.N))) rfl rfl ?_)))))))))))))))))))
  rcases ifs h with ⟨hc14, h⟩ | ⟨hc14, h⟩
  ·
   refine wk_ rfl rfl hc14 (aq_ (v := (vi x14.2)) rfl rfl (wk_ rfl rfl hc14 (fa_ fd_ (p1.at_ I58) rfl (wk_ rfl rfl hc14 (li_ sh3 ((p1.at_ I58).fld Clue.fld4) rfl (wk_ rfl rfl hc14 (bm_ rfl rfl rfl (wo_ (aw_ (a := (vb (x14.2 == a0.M))) rfl rfl hc14 rfl (wa_ (v := (vb (x14.2 == a0.M))) rfl rfl (ad_ (ab_ (aa_ (wm_ (v := (vb (x14.2 == a0.M))) rfl rfl (wo_ (fa_ mb_ (p1.at_ I58) rfl (wo_ (lb_ sh4 ((p1.at_ I58).fld Clue.fld6) rfl (wo_ (mj_ (a := x14.2 == a0.M) (b := a0.Not) rfl Tryz.underlying4 rfl rfl (wa_ (v := (vb ((x14.2 == a0.M) != a0.Not))) rfl rfl (ad_ (ak_ ?_)))))))))))))))))))))))
   obtain rfl := sj h
   exact ⟨rfl, (vb ((x14.2 == a0.M) != a0.Not)), (bo_ rfl rfl), _, [], le1, I58, rfl, rfl⟩
  refine ws_ rfl rfl hc14 (ws_ rfl rfl hc14 (ws_ rfl rfl hc14 (ws_ rfl rfl hc14 (wo_ (ap_ (b := (vb false)) rfl rfl hc14 rfl (wa_ (v := (vb false)) rfl rfl (ad_ (ab_ (aa_ (wm_ (v := (vb false)) rfl rfl (wo_ (fa_ mb_ (p1.at_ I58) rfl (wo_ (lb_ sh4 ((p1.at_ I58).fld Clue.fld6) rfl (wo_ (mj_ (a := false) (b := a0.Not) rfl Tryz.underlying4 rfl rfl (wa_ (v := (vb (false != a0.Not))) rfl rfl (ad_ (ak_ ?_)))))))))))))))))))
  obtain rfl := sj h
  exact ⟨rfl, (vb (false != a0.Not)), (bo_ rfl rfl), _, [], le1, I58, rfl, rfl⟩
 refine ai_ rfl hc13 (ab_ (aa_ (wo_ (bm_ rfl rfl rfl (wa_ (v := (vb (a0.Kind == 7))) rfl rfl (ad_ ?_))))))
 rcases ifs h with ⟨hc15, h⟩ | ⟨hc15, h⟩
 ·
  refine ah_ rfl hc15 ?_
  obtain ⟨x15, hx15, h⟩ := bnd h
  obtain ⟨x16, hx16, h⟩ := bnd h
  refine bj_ (sps := [spV 98 [] 0 (.slice z2 m2 k2), spV 99 [] 1 (an_ (pt_ g1) 1), spV 100 [1] 2 (vi a0.A), spV 101 [0, 1, 2] 3 (af_ (.slice z2 m2 k2) (a0.A) (Enc.sz Int)), spV 102 [0, 1, 2, 3] 4 (vi x15), spV 103 [] 5 (an_ (pt_ g1) 3), spV 104 [5] 6 (vi a0.N), spV 105 (lrg 7) 7 (vi x16), spV 106 [] 8 (an_ (pt_ g1) 4), spV 107 [8] 9 (vi a0.M), spV 108 (lrg 10) 10 (vb (x16 == a0.M)), spV 5 (lrg 11) 11 (vb (x16 == a0.M))]) (tks := []) (O := Fr) rfl (by kernel_rfl) I2 ⟨ob_ rfl fun l A K I => (aq_ rfl (K 1 (ag_ rfl)) (fo I)), ob_ rfl fun l A K I => (ae_ rfl db_ (K 2 (ag_ rfl)) ((p1.mono l).at_ I) (fo I)), ob_ rfl fun l A K I => (aj_ rfl sh3 (A.v 0 rfl) (((p1.mono l).at_ I).fld Clue.fld1) (fo I)), ob_ rfl fun l A K I => (ix_ Tryz.underlying28 sh3 (h1_.mono (le1.trans l)) hx15 (A.v 0 rfl) (A.v 2 rfl) (fo I)), ob_ rfl fun l A K I => (aj_ rfl sh3 (A.v 3 rfl) ((h1_.mono (le1.trans l)).elem I.in_ hx15) (fo I)), ob_ rfl fun l A K I => (ae_ rfl ck_ (K 2 (ag_ rfl)) ((p1.mono l).at_ I) (fo I)), ob_ rfl fun l A K I => (aj_ rfl sh3 (A.v 0 rfl) (((p1.mono l).at_ I).fld Clue.fld3) (fo I)), ob_ rfl fun l A K I => (op_rem (a := x15) (b := a0.N) rfl (A.v 4 rfl) (A.v 6 rfl) hx16 (fo I)), ob_ rfl fun l A K I => (ae_ rfl fd_ (K 2 (ag_ rfl)) ((p1.mono l).at_ I) (fo I)), ob_ rfl fun l A K I => (aj_ rfl sh3 (A.v 0 rfl) (((p1.mono l).at_ I).fld Clue.fld4) (fo I)), ob_ rfl fun l A K I => (bm_ rfl (A.v 7 rfl) (A.v 9 rfl) (fo I)), ?_, trivial⟩ ?_
  ·
   intro vs f w_ U X le A K I
   refine pl_ rfl (bn_ (v := (vb (x16 == a0.M))) rfl (A.v 10 rfl) (fo I))
  intro vs58 f w62 S59 ed13 le59 hF5 hK58 hI59
  have e41 : f 2 = (pt_ g1) := (hK58 2 (al_ rfl)).trans rfl
  have I71 : Inv w62 S59 (Fr) := hI59
  have q53 := hF5.v 11 rfl
  refine ab_ (aa_ (wm_ rfl q53 (wo_ (ae_ rfl mb_ e41 ((p1.mono le59).at_ I71) (wo_ (lb_ sh4 (((p1.mono le59).at_ I71).fld Clue.fld6) rfl (wo_ (mj_ (a := x16 == a0.M) (b := a0.Not) rfl Tryz.underlying4 rfl rfl (wa_ (v := (vb ((x16 == a0.M) != a0.Not))) rfl rfl (ad_ (ak_ ?_)))))))))))
  obtain rfl := sj h
  exact ⟨(ed13.trans rfl), (vb ((x16 == a0.M) != a0.Not)), (bo_ rfl rfl), _, [], (le1.trans le59), I71, rfl, rfl⟩
 refine ai_ rfl hc15 (ar_ (ab_ (aa_ (wm_ (v := (vb false)) rfl rfl (wo_ (fa_ mb_ (p1.at_ I2) rfl (wo_ (lb_ sh4 ((p1.at_ I2).fld Clue.fld6) rfl (wo_ (mj_ (a := false) (b := a0.Not) rfl Tryz.underlying4 rfl rfl (wa_ (v := (vb (false != a0.Not))) rfl rfl (ad_ (ak_ ?_)))))))))))))
 obtain rfl := sj h
 exact ⟨rfl, (vb (false != a0.Not)), (bo_ rfl rfl), _, [], le1, I2, rfl, rfl⟩
theorem pn_ {w : World} {S : PH} {Fr : List HP} {a0 : CodeLock} {v0 : Value} {a1 : (List Int)} {v1 : Value} {a2 : Clue} {v2 : Value} {r : Bool} (hI : Inv w S (Fr)) (h0_ : RV S v0 a0) (h1_ : RV S v1 a1) (h2_ : RV S v2 a2) (h : hx_ a0 a1 a2 = some r) :
    Calls Tryz.prog 69 [v0, v1, v2].toArray w (bw_ S Fr (Value.bool (r))) := by
 unfold hx_ at h
 have e1 := CodeLock.inv h0_
 subst e1
 obtain ⟨z1, m1, k1, rfl⟩ := ac_ h1_
 obtain ⟨c1, e3, r1⟩ := Clue.inv h2_
 subst e3
 obtain ⟨z2, m2, k2, rfl⟩ := ac_ r1
 refine ao_ (n := 16) Tryz.func69 rfl rfl rfl (ab_ (aa_ (wo_ (bi_ (v := (.agg #[(vi a0.Wheels), (vi a0.Symbols)])) rfl hI rfl (fun g1 w1 I1 => ?_)))))
 obtain ⟨S1, le1, I2, p1⟩ := Inv.boxFreeze (x := a0) I1 (CodeLock.rv (s := a0))
 refine wo_ (bi_ (v := (.agg #[(vi a2.Kind), (vi a2.A), (vi a2.B), (vi a2.N), (vi a2.M), (.slice z2 m2 k2), (vb a2.Not)])) rfl I2 rfl (fun g2 w2 I3 => ?_))
 obtain ⟨S2, le2, I4, p2⟩ := Inv.boxFreeze (x := a2) I3 (Clue.rv (s := a2) (r1.mono le1))
 refine wa_ (v := (vb false)) rfl rfl (ad_ (ab_ (aa_ (wo_ (ld_ im_ ((p1.mono le2).at_ I4) rfl (fun u1 hu1 => ?_))))))
 have e5 := CodeLock.inv hu1
 subst e5
 refine wo_ (ld_ lk_ (p2.at_ I4) rfl (fun u2 hu2 => ?_))
 obtain ⟨c2, e6, r2⟩ := Clue.inv hu2
 subst e6
 obtain ⟨z3, m3, k3, rfl⟩ := ac_ r2
 obtain ⟨x1, hx1, h⟩ := bnd h
 refine wo_ (cv_ ca91 rfl I4 (fun Fr_ hF_ => rf_ hF_ (CodeLock.rv (s := a0)) (Clue.rv (s := a2) r2) hx1) (br_ rfl rfl) (fun w3 I5 => (wo_ (bm_ rfl rfl rfl (wm_ (v := (vb (x1 == 0))) rfl rfl ?_)))))
 rcases ifs h with ⟨hc1, h⟩ | ⟨hc1, h⟩
 ·
  refine wk_ rfl rfl hc1 (ld_ lk_ (p2.at_ I5) rfl (fun u3 hu3 => ?_))
  obtain ⟨c3, e8, r3⟩ := Clue.inv hu3
  subst e8
  obtain ⟨z4, m4, k4, rfl⟩ := ac_ r3
  refine wk_ rfl rfl hc1 (aq_ (v := (.slice z1 m1 k1)) rfl rfl ?_)
  obtain ⟨x2, hx2, h⟩ := bnd h
  refine wk_ rfl rfl hc1 (cv_ ca92 rfl I5 (fun Fr_ hF_ => rd_ hF_ (Clue.rv (s := a2) r3) (h1_.mono (le1.trans le2)) hx2) (br_ rfl rfl) (fun w4 I6 => (wo_ (aw_ (a := (vb x2)) rfl rfl hc1 rfl (wa_ (v := (vb x2)) rfl rfl (ad_ (ak_ ?_)))))))
  obtain rfl := sj h
  exact ⟨rfl, (vb x2), (bo_ rfl rfl), _, [], (le1.trans le2), I6, rfl, rfl⟩
 refine ws_ rfl rfl hc1 (ws_ rfl rfl hc1 (ws_ rfl rfl hc1 (wo_ (ap_ (b := (vb false)) rfl rfl hc1 rfl (wa_ (v := (vb false)) rfl rfl (ad_ (ak_ ?_)))))))
 obtain rfl := sj h
 exact ⟨rfl, (vb false), (bo_ rfl rfl), _, [], (le1.trans le2), I5, rfl, rfl⟩
end Go.Proofs.YtlpdpeghgndmkaaGreat.Pad
