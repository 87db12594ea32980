/- A part of the proof: what the functions of the program compute, shown over the model. -/
import Derived.Test.YtlpdpeghgndmkaaGreatHizP
import Derived.Test.YtlpdpeghgndmkaaGreatHizW4
import Derived.Test.YtlpdpeghgndmkaaGreatHizW8
import Derived.Test.YtlpdpeghgndmkaaGreatHizW9
import Derived.KernelRfl
set_option linter.unusedVariables false
set_option maxHeartbeats 4000000
set_option maxRecDepth 100000
namespace Go.Proofs.YtlpdpeghgndmkaaGreat.Pad
open Go Go.Proofs
theorem wc_ {w : World} {S : PH} {Fr : List HP} {a0 : Riddle} {v0 : Value} {r : Riddle} (hI : Inv w S (Fr)) (h0_ : RV S v0 a0) (h : le_ a0 = some r) :
    Calls Tryz.prog 86 [v0].toArray w (lp_ S Fr (fun T_ v_ O_ => ∃ (c0_0 : Value) (c0_1 : Value) (a0_2 : Option Addr) (n0_2 k0_2 : Nat) (w0_2 : List Raw) (c0_3 : Value), v_ = (Value.agg #[c0_0, c0_1, (Value.slice a0_2 n0_2 k0_2), c0_3]) ∧ O_ = [fe_ (α := Clue) 63 30 (Value.slice a0_2 n0_2 k0_2) w0_2 (r.Known)] ∧ RV T_ c0_0 (r.Locks) ∧ RV T_ c0_1 (r.Codes) ∧ w0_2.length = (r.Known).length ∧ RV T_ c0_3 (r.Ties))) := by
 unfold le_ at h
 obtain ⟨c1, c2, c3, c4, e1, r1, r2, r3, r4⟩ := Riddle.inv h0_
 subst e1
 obtain ⟨z1, m1, k1, rfl⟩ := ac_ r1
 obtain ⟨z2, m2, k2, rfl⟩ := ac_ r2
 obtain ⟨z3, m3, k3, rfl⟩ := ac_ r3
 obtain ⟨z4, m4, k4, rfl⟩ := ac_ r4
 refine ao_ (n := 56) Tryz.func86 rfl rfl rfl (ab_ (aa_ (wo_ (bi_ (v := (.agg #[(.slice z1 m1 k1), (.slice z2 m2 k2), (.slice z3 m3 k3), (.slice z4 m4 k4)])) rfl hI rfl (fun g1 w1 I1 => ?_)))))
 obtain ⟨S1, le1, I2, p1⟩ := Inv.boxFreeze (x := a0) I1 (Riddle.rv (s := a0) r1 r2 r3 r4)
 refine wo_ (bu_ (z := (.agg #[sn, sn, sn, sn])) rfl I2 zo27 (fun g2 w2 (I3 : Inv w2 S1 (am_ g2 27 #[sn, sn, sn, sn] :: Fr)) => (ad_ (ab_ ?_))))
 obtain ⟨x1, hx1, h⟩ := bnd h
 obtain ⟨x2, hx2, h⟩ := bnd h
 refine bj_ (sps := [spV 8 [] 0 (an_ (pt_ g1) 0), spR 9 [0] 1 (a0.Locks), ⟨some 10, [0, 1], [2], fun vs_ T_ => ∃ (a0_ : Option Addr) (n0_ k0_ : Nat), fr0 vs_ 0 = (.slice a0_ n0_ k0_), [], [], [0], fun _ h_ => h_⟩, spV 11 [] 3 (an_ (pt_ g1) 3), spR 12 [3] 4 (a0.Ties), ⟨some 13, [0, 1, 2, 3, 4], [5], fun vs_ T_ => ∃ (a0_ : Option Addr) (n0_ k0_ : Nat), fr0 vs_ 0 = (.slice a0_ n0_ k0_), [], [], [1], fun _ h_ => h_⟩, spW 14 (lrg 6) [6, 2, 5] fun vs_ => (.agg #[(fr0 vs_ 1), sn, sn, (fr0 vs_ 2)]), ⟨some 3, [], [7], fun vs_ T_ => ∃ g_, fr0 vs_ 0 = Value.pointer (some ⟨g_, 0, none⟩), [], [], [2], fun _ h_ => h_⟩, ⟨none, (lrg 8), [], fun vs_ T_ => True, [0, 1], [2], [3], fun _ h_ => h_⟩]) (tks := [⟨some 2, none, [2], fun vs_ => Row (α := CodeLock) 62 (fr0 vs_ 0) (x1)⟩, ⟨some 5, none, [5], fun vs_ => Row (α := Tie) 75 (fr0 vs_ 0) (x2)⟩, ⟨some 7, some 8, [7], fun vs_ => am_ (cj_ (fr0 vs_ 0)) 27 #[sn, sn, sn, sn]⟩, ⟨some 8, none, [2, 5, 7], fun vs_ => am_ (cj_ (fr0 vs_ 2)) 27 #[(fr0 vs_ 0), sn, sn, (fr0 vs_ 1)]⟩]) (O := am_ g2 27 #[sn, sn, sn, sn] :: Fr) rfl (by kernel_rfl) I3 ⟨ob_ rfl fun l A K I => (ae_ rfl co_ (K 1 (ag_ rfl)) ((p1.mono l).at_ I) (fo I)), ?_, ?_, ob_ rfl fun l A K I => (ae_ rfl nv_ (K 1 (ag_ rfl)) ((p1.mono l).at_ I) (fo I)), ?_, ?_, ?_, fun vs f w U X l A K I => pl_ rfl (bu_ (z := (.agg #[sn, sn, sn, sn])) rfl I zo27 (fun g3 w15 (I16 : Inv w15 U (am_ g3 27 #[sn, sn, sn, sn] :: X)) => ⟨_, _, rfl, lr, ⟨_, rfl⟩, I16⟩)), ?_, trivial⟩ ?_
 ·
  intro vs f w_ U X le A K I
  have q1 := A.v 0 rfl
  refine pl_ rfl (ay_ rfl mh_ q1 (((p1.mono le).at_ I).fld Riddle.fld0) (fun u3 hu3 => ?_))
  obtain ⟨z5, m5, k5, rfl⟩ := ac_ hu3
  refine ⟨_, _, rfl, lr, ?_, ?_⟩
  · exact hu3
  exact I
 ·
  intro vs f w_ U X le A K I
  obtain ⟨z6, m6, k6, hu4, q2, r5⟩ := A.sl (a := 1) 1 rfl rfl rfl
  refine pl_ rfl (cl_ ca101 rfl (ms_ I r5 hx1) (em_ q2) (fun cv1 w8 S5 O1 le5 I9 hv1 => ?_))
  obtain ⟨z7, m7, k7, rfl, rfl⟩ := hv1
  refine ⟨_, _, rfl, le5, ?_, ?_⟩
  · exact ⟨_, _, _, rfl⟩
  exact I9
 ·
  intro vs f w_ U X le A K I
  have q3 := A.v 0 rfl
  refine pl_ rfl (ay_ rfl sh25 q3 (((p1.mono le).at_ I).fld Riddle.fld3) (fun u5 hu5 => ?_))
  obtain ⟨z8, m8, k8, rfl⟩ := ac_ hu5
  refine ⟨_, _, rfl, lr, ?_, ?_⟩
  · exact hu5
  exact I
 ·
  intro vs f w_ U X le A K I
  obtain ⟨z9, m9, k9, hu6, q4, r6⟩ := A.sl (a := 4) 4 rfl rfl rfl
  refine pl_ rfl (cl_ ca102 rfl (qb_ I r6 hx2) (em_ q4) (fun cv2 w12 S9 O2 le9 I13 hv2 => ?_))
  obtain ⟨z10, m10, k10, rfl, rfl⟩ := hv2
  refine ⟨_, _, rfl, le9, ?_, ?_⟩
  · exact ⟨_, _, _, rfl⟩
  exact I13
 ·
  intro vs f w_ U X le A K I
  obtain ⟨z11, m11, k11, e10, q5⟩ := A.rf (a := 2) 2 rfl rfl rfl
  obtain ⟨z12, m12, k12, e11, q6⟩ := A.rf (a := 5) 5 rfl rfl rfl
  refine pl_ rfl (hl_ (qs := [(0, #[(.slice z11 m11 k11)]), (3, #[(.slice z12 m12 k12)])]) (c := #[(.slice z11 m11 k11), sn, sn, (.slice z12 m12 k12)]) rfl st27 ⟨rfl, (ty_ q5 rfl), ⟨rfl, (ty_ q6 rfl), trivial⟩⟩ rfl (⟨_, _, rfl, lr, ?_, ?_⟩))
  ·
   show (Value.agg #[(Value.slice z11 m11 k11), sn, sn, (Value.slice z12 m12 k12)]) = (Value.agg #[(vs 2), sn, sn, (vs 5)])
   simp only [e10, e11] <;> rfl
  exact I
 ·
  intro vs f w_ U X le A K I
  have I17 : Inv w_ U (am_ (cj_ (vs 7)) 27 #[sn, sn, sn, sn] :: Row (α := CodeLock) 62 (vs 2) (x1) :: Row (α := Tie) 75 (vs 5) (x2) :: X) := I
  obtain ⟨z13, m13, k13, e12, q7⟩ := A.rf (a := 2) 2 rfl rfl rfl
  have I18 := I17
  rw [e12] at I18
  obtain ⟨z14, m14, k14, e13, q8⟩ := A.rf (a := 5) 5 rfl rfl rfl
  have I19 := I18
  rw [e13] at I19
  have q9 : f 14 = (Value.agg #[(vs 2), sn, sn, (vs 5)]) := A.v 6 rfl
  simp only [e12, e13] at q9
  have q9 : f 14 = (Value.agg #[(Value.slice z13 m13 k13), sn, sn, (Value.slice z14 m14 k14)]) := q9
  obtain ⟨g4, e14⟩ := (A.at_ 7 rfl _ rfl).2
  have q10 : f 3 = Value.pointer (some ⟨g4, 0, none⟩) := ((A.at_ 7 rfl _ rfl).1 _ rfl).trans e14
  have e14 : vs 7 = Value.pointer (some ⟨g4, 0, none⟩) := e14
  have I20 := I19
  rw [e14] at I20
  refine pl_ rfl (bb_ (v := (.agg #[(.slice z13 m13 k13), sn, sn, (.slice z14 m14 k14)])) (cs := #[sn, sn, sn, sn]) fr_ I20 q10 q9 rfl nb rfl (fun w17 (I21 : Inv w17 U (am_ (cj_ (pt_ g4)) 27 #[(.slice z13 m13 k13), sn, sn, (.slice z14 m14 k14)] :: Row (α := CodeLock) 62 (.slice z13 m13 k13) (x1) :: Row (α := Tie) 75 (.slice z14 m14 k14) (x2) :: X)) => (⟨undef, _, rfl, lr, ?_, ?_⟩)))
  · exact trivial
  show Inv _ _ (am_ (cj_ (vs 7)) 27 #[(vs 2), sn, sn, (vs 5)] :: Row (α := CodeLock) 62 (vs 2) (x1) :: Row (α := Tie) 75 (vs 5) (x2) :: X)
  simp only [e12, e13, e14]
  exact (((I21.pull 2).pull 2).pull 2)
 intro vs10 f w18 S13 ed1 le13 hF1 hK10 hI10
 have e15 : f 1 = (pt_ g1) := (hK10 1 (al_ rfl)).trans rfl
 have e16 : f 2 = (pt_ g2) := (hK10 2 (al_ rfl)).trans rfl
 have I22 : Inv w18 S13 (Row (α := CodeLock) 62 (vs10 2) (x1) :: Row (α := Tie) 75 (vs10 5) (x2) :: am_ (cj_ (vs10 7)) 27 #[(vs10 2), sn, sn, (vs10 5)] :: am_ g2 27 #[sn, sn, sn, sn] :: Fr) := hI10
 obtain ⟨z15, m15, k15, e17, q11⟩ := hF1.rf (a := 2) 2 rfl rfl rfl
 have I23 := I22
 rw [e17] at I23
 obtain ⟨z16, m16, k16, e18, q12⟩ := hF1.rf (a := 5) 5 rfl rfl rfl
 have I24 := I23
 rw [e18] at I24
 obtain ⟨g5, e19⟩ := (hF1.at_ 7 rfl _ rfl).2
 have q13 : f 3 = Value.pointer (some ⟨g5, 0, none⟩) := ((hF1.at_ 7 rfl _ rfl).1 _ rfl).trans e19
 have e19 : vs10 7 = Value.pointer (some ⟨g5, 0, none⟩) := e19
 have I25 := I24
 rw [e19] at I25
 refine ab_ (ab_ (aa_ (wo_ (ae_ rfl co_ e15 ((p1.mono le13).at_ I25) (wo_ (ld_ mh_ (((p1.mono le13).at_ I25).fld Riddle.fld0) rfl (fun u7 hu7 => ?_)))))))
 obtain ⟨z17, m17, k17, rfl⟩ := ac_ hu7
 refine wo_ (az_ rfl Tryz.underlying22 rfl hu7 (wm_ (v := (vi 0)) rfl rfl (ad_ ?_)))
 have hk4 : a0.Locks.length ≤ 9223372036854775807 := (cx_ hu7)
 have I212 := Inv.rowNil (α := (List Int)) (T := 28) I25
 have I213 := Inv.gridNil (α := Clue) (To := 63) (Ti := 30) I212
 obtain ⟨out4, hrun4, h⟩ := bnd h
 refine bp_ (fun f w => ∃ (S_ : PH) (z138 : Option Addr) (m138 k138 : Nat) (z139 : Option Addr) (m139 k139 : Nat) (rw4 : List Raw), S13.Le S_ ∧ Inv w S_ (am_ g2 27 #[sn, sn, sn, sn] :: am_ (cj_ (pt_ g5)) 27 #[(.slice z15 m15 k15), (.slice z138 m138 k138), (.slice z139 m139 k139), (.slice z16 m16 k16)] :: Row (α := CodeLock) 62 (.slice z15 m15 k15) (x1) :: Row (α := (List Int)) 28 (.slice z138 m138 k138) (out4.1) :: fe_ (α := Clue) 63 30 (.slice z139 m139 k139) (rw4) (out4.2) :: Row (α := Tie) 75 (.slice z16 m16 k16) (x2) :: Fr) ∧ f 1 = (pt_ g1) ∧ f 2 = (pt_ g2) ∧ f 3 = (pt_ g5) ∧ f 17 = (vi ((a0.Locks.length : Int))) ∧ f.ds = [] ∧ rw4.length = (out4.2).length) ?_ ?_
 ·
  refine au_ ?_
  refine da_ (I := fun (i4 : Nat) (s4 : (List (List Int) × List (List Clue))) (f : Frm) (w : World) => ∃ (S_ : PH) (z136 : Option Addr) (m136 k136 : Nat) (z137 : Option Addr) (m137 k137 : Nat) (rw3 : List Raw), S13.Le S_ ∧ Inv w S_ (am_ g2 27 #[sn, sn, sn, sn] :: am_ (cj_ (pt_ g5)) 27 #[(.slice z15 m15 k15), (.slice z136 m136 k136), (.slice z137 m137 k137), (.slice z16 m16 k16)] :: Row (α := CodeLock) 62 (.slice z15 m15 k15) (x1) :: Row (α := (List Int)) 28 (.slice z136 m136 k136) (s4.1) :: fe_ (α := Clue) 63 30 (.slice z137 m137 k137) (rw3) (s4.2) :: Row (α := Tie) 75 (.slice z16 m16 k16) (x2) :: Fr) ∧ f 1 = (pt_ g1) ∧ f 2 = (pt_ g2) ∧ f 3 = (pt_ g5) ∧ f 17 = (vi ((a0.Locks.length : Int))) ∧ f 18 = (vi (i4 : Int)) ∧ f.ds = [] ∧ rw3.length = (s4.2).length) hrun4 ⟨_, _, _, _, _, _, _, _, lr, ((((((I213.pull 3).pull 1).pull 2).pull 3).pull 4).pull 5), e15, e16, q13, rfl, rfl, (ed1.trans rfl), rfl⟩ ?_ ?_
  ·
   rintro i4 s4 f w o4 hlt4 hI56 h7
   obtain ⟨S91, z136, m136, k136, z137, m137, k137, rw3, le91, I214, e333, e334, e335, e336, e337, ed26, hl3⟩ := hI56
   refine ab_ (aa_ (wo_ (be_ rfl e337 e336 (ad_ (ab_ (ah_ rfl (eo_ hlt4) (ar_ (ab_ (au_ (ab_ (aa_ (wm_ rfl e337 (wa_ (v := (vi (i4 : Int))) rfl rfl (ad_ (ab_ ?_)))))))))))))))
   obtain ⟨x54, hx54, h7⟩ := bnd h7
   obtain ⟨x55, hx55, h7⟩ := bnd h7
   obtain ⟨x56, hx56, h7⟩ := bnd h7
   refine bj_ (sps := [spV 21 [] 0 (.pointer (some ⟨g5, 1, none⟩)), ⟨some 22, [0], [1], fun vs_ T_ => fr0 vs_ 0 = (.slice z136 m136 k136), [0], [], [], fun _ h_ => h_⟩, spV 23 [] 2 (an_ (pt_ g1) 1), spR 24 [2] 3 (a0.Codes), spV 25 [] 4 (vi (i4 : Int)), spW 26 [2, 3, 4] [5, 3] fun vs_ => (af_ (fr0 vs_ 1) ((i4 : Int)) (Enc.sz (List Int))), spR 27 [2, 3, 4, 5] 6 x54, ⟨some 28, [2, 3, 4, 5, 6], [7], fun vs_ T_ => ∃ (a0_ : Option Addr) (n0_ k0_ : Nat), fr0 vs_ 0 = (.slice a0_ n0_ k0_), [], [], [1], fun _ h_ => h_⟩, ⟨some 29, [2, 3, 4, 5, 6, 7], [8], fun vs_ T_ => ∃ a_ n_ k_, fr0 vs_ 0 = Value.slice a_ n_ k_, [], [1], [2], fun _ h_ => h_⟩, ⟨some 30, (lrg 9), [9], fun vs_ T_ => ∃ a_ n_ k_, fr0 vs_ 0 = Value.slice a_ n_ k_, [2], [3], [4], fun _ h_ => h_⟩, spV 31 (lrg 10) 10 (.pointer (some ⟨g5, 1, none⟩)), ⟨none, (lrg 11), [], fun vs_ T_ => True, [4], [0], [5], fun _ h_ => h_⟩]) (tks := [⟨none, some 11, [], fun vs_ => am_ (cj_ (pt_ g5)) 27 #[(.slice z15 m15 k15), (.slice z136 m136 k136), (.slice z137 m137 k137), (.slice z16 m16 k16)]⟩, ⟨some 7, some 8, [7], fun vs_ => Row (α := Int) 3 (fr0 vs_ 0) (x55)⟩, ⟨some 8, none, [8], fun vs_ => Row (α := (List Int)) 28 (fr0 vs_ 0) (([x55] : List (List Int)))⟩, ⟨none, some 9, [], fun vs_ => Row (α := (List Int)) 28 (.slice z136 m136 k136) (s4.1)⟩, ⟨some 9, none, [9], fun vs_ => Row (α := (List Int)) 28 (fr0 vs_ 0) (x56)⟩, ⟨some 11, none, [9], fun vs_ => am_ (cj_ (pt_ g5)) 27 #[(.slice z15 m15 k15), (fr0 vs_ 0), (.slice z137 m137 k137), (.slice z16 m16 k16)]⟩]) (O := am_ g2 27 #[sn, sn, sn, sn] :: Row (α := CodeLock) 62 (.slice z15 m15 k15) (x1) :: fe_ (α := Clue) 63 30 (.slice z137 m137 k137) (rw3) (s4.2) :: Row (α := Tie) 75 (.slice z16 m16 k16) (x2) :: Fr) rfl (by kernel_rfl) ((I214.pull 3).pull 2) ⟨ob_ rfl fun l A K I => (av_ (v := (pt_ g5)) rfl hi_ ((K 3 (ag_ rfl)).trans e335) rfl (fo I)), ?_, ob_ rfl fun l A K I => (ae_ rfl hi_ ((K 1 (ag_ rfl)).trans e333) ((p1.mono ((le13.trans le91).trans l)).at_ I) (fo I)), ?_, ob_ rfl fun l A K I => (aq_ rfl (K 4 (ag_ rfl)) (fo I)), ?_, ?_, ?_, ?_, ?_, ob_ rfl fun l A K I => (av_ (v := (pt_ g5)) rfl hi_ ((K 3 (ag_ rfl)).trans e335) rfl (fo I)), ?_, trivial⟩ ?_
   ·
    intro vs f w_ U X le A K I
    have I220 : Inv w_ U (am_ (cj_ (pt_ g5)) 27 #[(Value.slice z15 m15 k15), (Value.slice z136 m136 k136), (Value.slice z137 m137 k137), (Value.slice z16 m16 k16)] :: X) := I
    refine pl_ rfl (bd_ (c := (.slice z136 m136 k136)) rfl lq_ (I220.nth 0 rfl) (A.v 0 rfl) rfl (fo I220))
   ·
    intro vs f w_ U X le A K I
    have q60 := A.v 0 rfl
    refine pl_ rfl (ay_ rfl lq_ q60 (((p1.mono ((le13.trans le91).trans le)).at_ I).fld Riddle.fld1) (fun u93 hu49 => ?_))
    obtain ⟨z140, m140, k140, rfl⟩ := ac_ hu49
    refine ⟨_, _, rfl, lr, ?_, ?_⟩
    · exact hu49
    exact I
   ·
    intro vs f w_ U X le A K I
    obtain ⟨z141, m141, k141, hu50, q61, r59⟩ := A.sl (a := 3) 1 rfl rfl rfl
    have q62 := A.v 2 rfl
    refine pl_ rfl (ix_ Tryz.underlying23 fn_ r59 hx54 q61 q62 (⟨_, _, rfl, lr, ?_, ?_⟩))
    ·
     show (af_ (Value.slice z141 m141 k141) ((i4 : Int)) (Enc.sz (List Int))) = (af_ (vs 3) ((i4 : Int)) (Enc.sz (List Int)))
     simp only [hu50] <;> rfl
    exact I
   ·
    intro vs f w_ U X le A K I
    obtain ⟨z142, m142, k142, hu51, q63, r60⟩ := A.sl (a := 3) 1 rfl rfl rfl
    have q64 := A.v 2 rfl
    have q65 : f 26 = (af_ (vs 3) ((i4 : Int)) (Enc.sz (List Int))) := A.v 3 rfl
    simp only [hu51] at q65
    have q65 : f 26 = (af_ (Value.slice z142 m142 k142) ((i4 : Int)) (Enc.sz (List Int))) := q65
    refine pl_ rfl (ay_ rfl fn_ q65 (r60.elem I.in_ hx54) (fun u96 hu52 => ?_))
    obtain ⟨z143, m143, k143, rfl⟩ := ac_ hu52
    refine ⟨_, _, rfl, lr, ?_, ?_⟩
    · exact hu52
    exact I
   ·
    intro vs f w_ U X le A K I
    obtain ⟨z144, m144, k144, hu53, q66, r61⟩ := A.sl (a := 6) 4 rfl rfl rfl
    refine pl_ rfl (cl_ ca103 rfl (hw_ I r61 hx55) (em_ q66) (fun cv18 w160 S101 O18 le101 I227 hv18 => ?_))
    obtain ⟨z145, m145, k145, rfl, rfl⟩ := hv18
    refine ⟨_, _, rfl, le101, ?_, ?_⟩
    · exact ⟨_, _, _, rfl⟩
    exact I227
   ·
    intro vs f w_ U X le A K I
    have I228 : Inv w_ U (Row (α := Int) 3 (vs 7) (x55) :: X) := I
    obtain ⟨z146, m146, k146, e343, q67⟩ := A.rf (a := 7) 5 rfl rfl rfl
    have I229 := I228
    rw [e343] at I229
    obtain ⟨S103, le103, I230, r62⟩ := Inv.rowFreeze I229
    refine pl_ rfl (bf_ (vs := [(.slice z146 m146 k146)]) (r := ([x55] : List (List Int))) rfl Tryz.underlying23 zh_ (fc_ q67) rfl (by decide) (by decide) ⟨r62, trivial⟩ I230 (fun u98 w162 I231 => ?_))
    obtain ⟨z147, m147, k147, e344⟩ := bc_ I231
    subst e344
    refine ⟨_, _, rfl, le103, ?_, ?_⟩
    · exact ⟨_, _, _, rfl⟩
    exact I231
   ·
    intro vs f w_ U X le A K I
    have I232 : Inv w_ U (Row (α := (List Int)) 28 (Value.slice z136 m136 k136) (s4.1) :: Row (α := (List Int)) 28 (vs 8) (([x55] : List (List Int))) :: X) := I
    have q68 := A.v 1 rfl
    obtain ⟨z148, m148, k148, e345⟩ := (A.at_ 8 rfl _ rfl).2
    have q69 : f 29 = Value.slice z148 m148 k148 := ((A.at_ 8 rfl _ rfl).1 _ rfl).trans e345
    have e345 : vs 8 = (Value.slice z148 m148 k148) := e345
    have I233 := I232
    rw [e345] at I233
    refine pl_ rfl (bt_ (α := (List Int)) (v := (.slice z136 m136 k136)) (u := (.slice z148 m148 k148)) rfl rfl Tryz.underlying23 zh_ (by decide) (by decide) q68 q69 I233 (Inv.rowSrc (I233.nth 1 rfl)) hx56 (fun u99 w164 I234 => ?_))
    obtain ⟨z149, m149, k149, e346⟩ := bc_ I234
    subst e346
    refine ⟨_, _, rfl, lr, ?_, ?_⟩
    · exact ⟨_, _, _, rfl⟩
    show Inv _ _ (Row (α := (List Int)) 28 ((Value.slice z149 m149 k149)) (x56) :: Row (α := (List Int)) 28 (vs 8) (([x55] : List (List Int))) :: X)
    simp only [e345]
    exact ((I234.pull 1).pull 1)
   ·
    intro vs f w_ U X le A K I
    have I236 : Inv w_ U (am_ (cj_ (pt_ g5)) 27 #[(Value.slice z15 m15 k15), (Value.slice z136 m136 k136), (Value.slice z137 m137 k137), (Value.slice z16 m16 k16)] :: Row (α := (List Int)) 28 (vs 9) (x56) :: X) := I
    obtain ⟨z150, m150, k150, e347⟩ := (A.at_ 9 rfl _ rfl).2
    have q70 : f 30 = Value.slice z150 m150 k150 := ((A.at_ 9 rfl _ rfl).1 _ rfl).trans e347
    have e347 : vs 9 = (Value.slice z150 m150 k150) := e347
    have I237 := I236
    rw [e347] at I237
    have q71 := A.v 10 rfl
    refine pl_ rfl (bb_ (v := (.slice z150 m150 k150)) (cs := #[(.slice z15 m15 k15), (.slice z136 m136 k136), (.slice z137 m137 k137), (.slice z16 m16 k16)]) lq_ I237 q71 q70 rfl nb rfl (fun w167 (I238 : Inv w167 U (am_ (cj_ (pt_ g5)) 27 #[(.slice z15 m15 k15), (.slice z150 m150 k150), (.slice z137 m137 k137), (.slice z16 m16 k16)] :: Row (α := (List Int)) 28 (.slice z150 m150 k150) (x56) :: X)) => (⟨undef, _, rfl, lr, ?_, ?_⟩)))
    · exact trivial
    show Inv _ _ (am_ (cj_ (Value.pointer (some ⟨g5, 0, none⟩))) 27 #[(Value.slice z15 m15 k15), (vs 9), (Value.slice z137 m137 k137), (Value.slice z16 m16 k16)] :: Row (α := (List Int)) 28 (vs 9) (x56) :: X)
    simp only [e347]
    exact ((I238.pull 1).pull 1)
   intro vs62 f w168 S107 ed27 le107 hF5 hK62 hI69
   have e348 : f 1 = (pt_ g1) := (hK62 1 (al_ rfl)).trans e333
   have e349 : f 2 = (pt_ g2) := (hK62 2 (al_ rfl)).trans e334
   have e350 : f 3 = (pt_ g5) := (hK62 3 (al_ rfl)).trans e335
   have e351 : f 4 = (vi ((i4 : Int))) := (hK62 4 (al_ rfl)).trans rfl
   have e352 : f 17 = (vi ((a0.Locks.length : Int))) := (hK62 17 (al_ rfl)).trans e336
   have e353 : f 18 = (vi ((i4 : Int))) := (hK62 18 (al_ rfl)).trans e337
   have I239 : Inv w168 S107 (Row (α := (List Int)) 28 (vs62 8) (([x55] : List (List Int))) :: Row (α := (List Int)) 28 (vs62 9) (x56) :: am_ (cj_ (pt_ g5)) 27 #[(Value.slice z15 m15 k15), (vs62 9), (Value.slice z137 m137 k137), (Value.slice z16 m16 k16)] :: am_ g2 27 #[sn, sn, sn, sn] :: Row (α := CodeLock) 62 (Value.slice z15 m15 k15) (x1) :: fe_ (α := Clue) 63 30 (Value.slice z137 m137 k137) (rw3) (s4.2) :: Row (α := Tie) 75 (Value.slice z16 m16 k16) (x2) :: Fr) := hI69
   obtain ⟨z151, m151, k151, e354⟩ := (hF5.at_ 8 rfl _ rfl).2
   have q72 : f 29 = Value.slice z151 m151 k151 := ((hF5.at_ 8 rfl _ rfl).1 _ rfl).trans e354
   have e354 : vs62 8 = (Value.slice z151 m151 k151) := e354
   have I240 := I239
   rw [e354] at I240
   obtain ⟨z152, m152, k152, e355⟩ := (hF5.at_ 9 rfl _ rfl).2
   have q73 : f 30 = Value.slice z152 m152 k152 := ((hF5.at_ 9 rfl _ rfl).1 _ rfl).trans e355
   have e355 : vs62 9 = (Value.slice z152 m152 k152) := e355
   have I241 := I240
   rw [e355] at I241
   refine ab_ (aa_ (wa_ (v := sn) rfl rfl (ad_ (ab_ (ab_ (aa_ (wo_ (ae_ rfl fk_ e348 ((p1.mono ((le13.trans le91).trans le107)).at_ I241) (wo_ (ld_ sb_ (((p1.mono ((le13.trans le91).trans le107)).at_ I241).fld Riddle.fld2) rfl (fun u100 hu54 => ?_)))))))))))
   obtain ⟨z153, m153, k153, rfl⟩ := ac_ hu54
   refine wm_ rfl e351 ?_
   obtain ⟨x57, hx57, h7⟩ := bnd h7
   refine wo_ (ix_ Tryz.underlying24 ng_ hu54 hx57 rfl rfl (wo_ (ld_ ng_ (hu54.elem I241.in_ hx57) rfl (fun u101 hu55 => ?_))))
   obtain ⟨z154, m154, k154, rfl⟩ := ac_ hu55
   refine wo_ (az_ rfl Tryz.underlying63 rfl hu55 (wm_ (v := (vi 0)) rfl rfl (ad_ ?_)))
   have hk5 : x57.length ≤ 9223372036854775807 := (cx_ hu55)
   have I261 := Inv.rowNil (α := Clue) (T := 30) I241
   obtain ⟨out5, hrun5, h7⟩ := bnd h7
   refine bp_ (fun f w => ∃ (S_ : PH) (z170 : Option Addr) (m170 k170 : Nat), S107.Le S_ ∧ Inv w S_ (am_ g2 27 #[sn, sn, sn, sn] :: am_ (cj_ (pt_ g5)) 27 #[(.slice z15 m15 k15), (.slice z152 m152 k152), (.slice z137 m137 k137), (.slice z16 m16 k16)] :: Row (α := CodeLock) 62 (.slice z15 m15 k15) (x1) :: Row (α := (List Int)) 28 (.slice z152 m152 k152) (x56) :: fe_ (α := Clue) 63 30 (.slice z137 m137 k137) (rw3) (s4.2) :: Row (α := Tie) 75 (.slice z16 m16 k16) (x2) :: Row (α := Clue) 30 (.slice z170 m170 k170) (out5) :: Fr) ∧ f 1 = (pt_ g1) ∧ f 2 = (pt_ g2) ∧ f 3 = (pt_ g5) ∧ f 5 = (.slice z170 m170 k170) ∧ f 17 = (vi ((a0.Locks.length : Int))) ∧ f 18 = (vi (i4 : Int)) ∧ f 36 = (.slice z154 m154 k154) ∧ f 37 = (vi ((x57.length : Int))) ∧ f.ds = []) ?_ ?_
   ·
    refine au_ ?_
    refine da_ (I := fun (i5 : Nat) (s5 : (List Clue)) (f : Frm) (w : World) => ∃ (S_ : PH) (z169 : Option Addr) (m169 k169 : Nat), S107.Le S_ ∧ Inv w S_ (am_ g2 27 #[sn, sn, sn, sn] :: am_ (cj_ (pt_ g5)) 27 #[(.slice z15 m15 k15), (.slice z152 m152 k152), (.slice z137 m137 k137), (.slice z16 m16 k16)] :: Row (α := CodeLock) 62 (.slice z15 m15 k15) (x1) :: Row (α := (List Int)) 28 (.slice z152 m152 k152) (x56) :: fe_ (α := Clue) 63 30 (.slice z137 m137 k137) (rw3) (s4.2) :: Row (α := Tie) 75 (.slice z16 m16 k16) (x2) :: Row (α := Clue) 30 (.slice z169 m169 k169) (s5) :: Fr) ∧ f 1 = (pt_ g1) ∧ f 2 = (pt_ g2) ∧ f 3 = (pt_ g5) ∧ f 5 = (.slice z169 m169 k169) ∧ f 17 = (vi ((a0.Locks.length : Int))) ∧ f 18 = (vi (i4 : Int)) ∧ f 36 = (.slice z154 m154 k154) ∧ f 37 = (vi ((x57.length : Int))) ∧ f 38 = (vi (i5 : Int)) ∧ f.ds = []) hrun5 ⟨_, _, _, _, lr, (((((((I261.pull 1).drop.pull 6).pull 6).pull 3).pull 6).pull 5).pull 6), e348, e349, e350, rfl, e352, e353, rfl, rfl, rfl, (ed27.trans ed26)⟩ ?_ ?_
    ·
     rintro i5 s5 f w o5 hlt5 hI70 h9
     obtain ⟨S113, z169, m169, k169, le113, I262, e403, e404, e405, e406, e407, e408, e409, e410, e411, ed31⟩ := hI70
     refine ab_ (aa_ (wo_ (be_ rfl e411 e410 (ad_ (ab_ (ah_ rfl (eo_ hlt5) (ar_ (ab_ (au_ (ab_ (aa_ ?_)))))))))))
     obtain ⟨x67, hx67, h9⟩ := bnd h9
     refine wo_ (ix_ Tryz.underlying63 lk_ (hu55.mono le113) hx67 e409 e411 (wo_ (ld_ lk_ ((hu55.mono le113).elem I262.in_ hx67) rfl (fun u111 hu59 => ?_))))
     obtain ⟨c50, e412, r72⟩ := Clue.inv hu59
     subst e412
     obtain ⟨z171, m171, k171, rfl⟩ := ac_ r72
     refine wo_ (bu_ (z := (.agg #[(vi 0), (vi 0), (vi 0), (vi 0), (vi 0), sn, (vb false)])) rfl I262 zo30 (fun g21 w184 (I263 : Inv w184 S113 (am_ g21 30 #[(vi 0), (vi 0), (vi 0), (vi 0), (vi 0), sn, (vb false)] :: am_ g2 27 #[sn, sn, sn, sn] :: am_ (cj_ (pt_ g5)) 27 #[(.slice z15 m15 k15), (.slice z152 m152 k152), (.slice z137 m137 k137), (.slice z16 m16 k16)] :: Row (α := CodeLock) 62 (.slice z15 m15 k15) (x1) :: Row (α := (List Int)) 28 (.slice z152 m152 k152) (x56) :: fe_ (α := Clue) 63 30 (.slice z137 m137 k137) (rw3) (s4.2) :: Row (α := Tie) 75 (.slice z16 m16 k16) (x2) :: Row (α := Clue) 30 (.slice z169 m169 k169) (s5) :: Fr)) => (wo_ (bb_ (v := (.agg #[(vi x67.Kind), (vi x67.A), (vi x67.B), (vi x67.N), (vi x67.M), (.slice z171 m171 k171), (vb x67.Not)])) (cs := #[(vi 0), (vi 0), (vi 0), (vi 0), (vi 0), sn, (vb false)]) lk_ I263 rfl rfl rfl nb rfl (fun w185 (I264 : Inv w185 S113 (am_ g21 30 #[(vi x67.Kind), (vi x67.A), (vi x67.B), (vi x67.N), (vi x67.M), (.slice z171 m171 k171), (vb x67.Not)] :: am_ g2 27 #[sn, sn, sn, sn] :: am_ (cj_ (pt_ g5)) 27 #[(.slice z15 m15 k15), (.slice z152 m152 k152), (.slice z137 m137 k137), (.slice z16 m16 k16)] :: Row (α := CodeLock) 62 (.slice z15 m15 k15) (x1) :: Row (α := (List Int)) 28 (.slice z152 m152 k152) (x56) :: fe_ (α := Clue) 63 30 (.slice z137 m137 k137) (rw3) (s4.2) :: Row (α := Tie) 75 (.slice z16 m16 k16) (x2) :: Row (α := Clue) 30 (.slice z169 m169 k169) (s5) :: Fr)) => (ad_ (aa_ (wm_ rfl e406 (wo_ (el_ (l := [(vi x67.Kind), (vi x67.A), (vi x67.B), (vi x67.N), (vi x67.M), (.slice z171 m171 k171), (vb x67.Not)]) rfl lk_ (I264.nth 0 rfl) rfl rfl rfl ?_))))))))))
     obtain ⟨x68, hx68, h9⟩ := bnd h9
     refine wo_ (cl_ ca87 rfl (lw_ I264 (Clue.rv (s := x67) r72) hx68) (em_ rfl) (fun cv22 w186 S114 O22 le114 I265 hv22 => ?_))
     obtain ⟨c51, rfl, rfl, r73⟩ := hv22
     obtain ⟨c52, e414, r74⟩ := Clue.inv r73
     subst e414
     obtain ⟨z172, m172, k172, rfl⟩ := ac_ r74
     refine wo_ (bf_ (vs := [(.agg #[(vi x68.Kind), (vi x68.A), (vi x68.B), (vi x68.N), (vi x68.M), (.slice z172 m172 k172), (vb x68.Not)])]) (r := ([x68] : List Clue)) rfl Tryz.underlying63 el30 (fc_ rfl) rfl (by decide) (by decide) ⟨(Clue.rv (s := x68) r74), trivial⟩ I265 (fun u112 w187 I266 => ?_))
     obtain ⟨z173, m173, k173, e416⟩ := bc_ I266
     subst e416
     obtain ⟨x69, hx69, h9⟩ := bnd h9
     refine wo_ (bt_ (α := Clue) (v := (.slice z169 m169 k169)) (u := (.slice z173 m173 k173)) rfl rfl Tryz.underlying63 el30 (by decide) (by decide) rfl rfl (I266.pull 8) (Inv.rowSrc (I266.nth 0 rfl)) hx69 (fun u113 w188 I267 => ?_))
     obtain ⟨z174, m174, k174, e417⟩ := bc_ I267
     subst e417
     refine wa_ (v := (.slice z174 m174 k174)) rfl rfl (ad_ (aa_ (wo_ (bl_ rfl e411 rfl (wm_ (v := (vi (w64 ((i5 : Int) + 1)))) rfl rfl (ad_ ?_))))))
     obtain rfl := sj h9
     exact ⟨_, _, _, _, (le113.trans le114), ((((((((I267.pull 1).drop.pull 1).drop.pull 6).pull 6).pull 6).pull 6).pull 6).pull 6), e403, e404, e405, rfl, e407, e408, e409, e410, (bh_ hlt5 hk5), ed31⟩
    rintro f w hI71
    obtain ⟨S115, z175, m175, k175, le115, I268, e418, e419, e420, e421, e422, e423, e424, e425, e426, ed32⟩ := hI71
    refine ab_ (aa_ (wo_ (be_ rfl e426 e425 (ad_ (ab_ (ai_ rfl (ep_ _) (bk_ ?_)))))))
    exact ⟨_, _, _, _, le115, (((((((I268.pull 6).pull 6).pull 6).pull 6).pull 6).pull 6).pull 6), e418, e419, e420, e421, e422, e423, e424, e425, ed32⟩
   rintro f w ⟨S116, z170, m170, k170, le116, I269, e427, e428, e429, e430, e431, e432, e433, e434, ed33⟩
   refine aa_ (wo_ (av_ (v := (pt_ g5)) rfl fk_ e429 rfl (wo_ (bd_ (c := (.slice z137 m137 k137)) rfl sb_ (I269.nth 1 rfl) rfl rfl (wm_ rfl e430 (wo_ (bf_ (α := Raw) (vs := [(.slice z170 m170 k170)]) (r := [⟨(.slice z170 m170 k170)⟩]) rfl Tryz.underlying24 el63r (fc_ rfl) rfl (by decide) (by decide) ⟨nj_ rfl, trivial⟩ I269 (fun u114 w189 I270 => ?_))))))))
   obtain ⟨z176, m176, k176, e435⟩ := bc_ I270
   subst e435
   obtain ⟨x70, hx70, h7⟩ := bnd h7
   have I271 := Inv.gridParts (I270.pull 5)
   refine wo_ (bt_ (α := Raw) (v := (.slice z137 m137 k137)) (u := (.slice z176 m176 k176)) rfl rfl Tryz.underlying24 el63r (by decide) (by decide) rfl rfl I271 (Inv.rowSrc (α := Raw) (I271.nth 2 rfl)) (yt_ hx70 hl3 rfl) (fun u115 w190 I272 => ?_))
   obtain ⟨z177, m177, k177, e436⟩ := bc_ I272
   subst e436
   have I273 := Inv.gridAdd hl3 (((I272.pull 1).pull 8).pull 2)
   have hp4 := (kl_ hx70).2
   rw [← hp4] at I273
   refine wo_ (av_ (v := (pt_ g5)) rfl fk_ e429 rfl (wo_ (bb_ (v := (.slice z177 m177 k177)) (cs := #[(.slice z15 m15 k15), (.slice z152 m152 k152), (.slice z137 m137 k137), (.slice z16 m16 k16)]) sb_ (I273.pull 3) rfl rfl rfl nb rfl (fun w191 (I274 : Inv w191 S116 (am_ (cj_ (pt_ g5)) 27 #[(.slice z15 m15 k15), (.slice z152 m152 k152), (.slice z177 m177 k177), (.slice z16 m16 k16)] :: fe_ (α := Clue) 63 30 (.slice z177 m177 k177) (rw3 ++ [(⟨(.slice z170 m170 k170)⟩ : Raw)]) (x70) :: Row (α := Raw) 63 (.slice z176 m176 k176) (([⟨(.slice z170 m170 k170)⟩] : List Raw)) :: am_ g2 27 #[sn, sn, sn, sn] :: Row (α := CodeLock) 62 (.slice z15 m15 k15) (x1) :: Row (α := (List Int)) 28 (.slice z152 m152 k152) (x56) :: Row (α := Tie) 75 (.slice z16 m16 k16) (x2) :: Fr)) => (ad_ (aa_ (wo_ (bl_ rfl e432 rfl (wm_ (v := (vi (w64 ((i4 : Int) + 1)))) rfl rfl (ad_ ?_))))))))))
   obtain rfl := sj h7
   exact ⟨_, _, _, _, _, _, _, _, ((le91.trans le107).trans le116), (((((((I274.pull 2).drop.pull 5).pull 2).pull 5).pull 5).pull 4).pull 5), e427, e428, e429, e431, (bh_ hlt4 hk4), ed33, (zc_ hl3 (kl_ hx70).2)⟩
  rintro f w hI72
  obtain ⟨S117, z178, m178, k178, z179, m179, k179, rw5, le117, I275, e437, e438, e439, e440, e441, ed34, hl5⟩ := hI72
  refine ab_ (aa_ (wo_ (be_ rfl e441 e440 (ad_ (ab_ (ai_ rfl (ep_ _) (bk_ ?_)))))))
  exact ⟨_, _, _, _, _, _, _, _, le117, ((((((I275.pull 5).pull 5).pull 5).pull 5).pull 5).pull 5), e437, e438, e439, e440, ed34, hl5⟩
 rintro f w ⟨S118, z138, m138, k138, z139, m139, k139, rw4, le118, I276, e442, e443, e444, e445, ed35, hl4⟩
 refine ab_ (aa_ (wo_ (el_ (l := [(.slice z15 m15 k15), (.slice z138 m138 k138), (.slice z139 m139 k139), (.slice z16 m16 k16)]) rfl fr_ (I276.nth 1 rfl) e444 rfl rfl (wo_ (bb_ (v := (.agg #[(.slice z15 m15 k15), (.slice z138 m138 k138), (.slice z139 m139 k139), (.slice z16 m16 k16)])) (cs := #[sn, sn, sn, sn]) fr_ I276 e443 rfl rfl nb rfl (fun w192 (I277 : Inv w192 S118 (am_ g2 27 #[(.slice z15 m15 k15), (.slice z138 m138 k138), (.slice z139 m139 k139), (.slice z16 m16 k16)] :: am_ (cj_ (pt_ g5)) 27 #[(.slice z15 m15 k15), (.slice z138 m138 k138), (.slice z139 m139 k139), (.slice z16 m16 k16)] :: Row (α := CodeLock) 62 (.slice z15 m15 k15) (x1) :: Row (α := (List Int)) 28 (.slice z138 m138 k138) (out4.1) :: fe_ (α := Clue) 63 30 (.slice z139 m139 k139) (rw4) (out4.2) :: Row (α := Tie) 75 (.slice z16 m16 k16) (x2) :: Fr)) => (ad_ (ak_ ?_))))))))
 obtain ⟨S119, le119, I278, r75⟩ := Inv.rowFreeze (I277.pull 2)
 obtain ⟨S120, le120, I279, r76⟩ := Inv.rowFreeze (I278.pull 2)
 obtain ⟨S121, le121, I280, r77⟩ := Inv.rowFreeze (I279.pull 3)
 obtain rfl := sj h
 exact ⟨ed35, (.agg #[(.slice z15 m15 k15), (.slice z138 m138 k138), (.slice z139 m139 k139), (.slice z16 m16 k16)]), (resC (cs := #[(.slice z15 m15 k15), (.slice z138 m138 k138), (.slice z139 m139 k139), (.slice z16 m16 k16)]) rfl e443 fr_ I277), _, [fe_ (α := Clue) 63 30 (.slice z139 m139 k139) (rw4) (out4.2)], (((((le1.trans le13).trans le118).trans le119).trans le120).trans le121), ((I280).drop).drop, _, _, _, _, _, _, _, rfl, rfl, (r75.mono (le120.trans le121)), (r76.mono le121), hl4, r77⟩
theorem xq_ {w : World} {S : PH} {Fr : List HP} {a0 : Riddle} {v0 : Value} {a1 : Aid} {v1 : Value} {r : Riddle} (hI : Inv w S (Fr)) (h0_ : RV S v0 a0) (h1_ : RV S v1 a1) (h : mz_ a0 a1 = some r) :
    Calls Tryz.prog 53 [v0, v1].toArray w (lp_ S Fr (fun T_ v_ O_ => ∃ (c0_ : Value), v_ = c0_ ∧ O_ = [] ∧ RV T_ c0_ r)) := by
 unfold mz_ at h
 obtain ⟨c1, c2, c3, c4, e1, r1, r2, r3, r4⟩ := Riddle.inv h0_
 subst e1
 obtain ⟨z1, m1, k1, rfl⟩ := ac_ r1
 obtain ⟨z2, m2, k2, rfl⟩ := ac_ r2
 obtain ⟨z3, m3, k3, rfl⟩ := ac_ r3
 obtain ⟨z4, m4, k4, rfl⟩ := ac_ r4
 obtain ⟨c5, e6, r5⟩ := Aid.inv h1_
 subst e6
 obtain ⟨z5, m5, k5, rfl⟩ := ac_ r5
 refine ao_ (n := 25) Tryz.func53 rfl rfl rfl (ab_ (aa_ (wo_ (bi_ (v := (.agg #[(.slice z1 m1 k1), (.slice z2 m2 k2), (.slice z3 m3 k3), (.slice z4 m4 k4)])) rfl hI rfl (fun g1 w1 I1 => ?_)))))
 obtain ⟨S1, le1, I2, p1⟩ := Inv.boxFreeze (x := a0) I1 (Riddle.rv (s := a0) r1 r2 r3 r4)
 refine wo_ (bi_ (v := (.agg #[(vi a1.Lock), (vi a1.Clue.Kind), (vi a1.Clue.A), (vi a1.Clue.B), (vi a1.Clue.N), (vi a1.Clue.M), (.slice z5 m5 k5), (vb a1.Clue.Not)])) rfl I2 rfl (fun g2 w2 I3 => ?_))
 obtain ⟨S2, le2, I4, p2⟩ := Inv.boxFreeze (x := a1) I3 (Aid.rv (s := a1) (r5.mono le1))
 refine wo_ (bu_ (z := (.agg #[sn, sn, sn, sn])) rfl I4 zo27 (fun g3 w3 (I5 : Inv w3 S2 (am_ g3 27 #[sn, sn, sn, sn] :: Fr)) => (ad_ (ab_ (aa_ (wo_ (ld_ fr_ ((p1.mono le2).at_ I5) rfl (fun u1 hu1 => ?_))))))))
 obtain ⟨c6, c7, c8, c9, e8, r6, r7, r8, r9⟩ := Riddle.inv hu1
 subst e8
 obtain ⟨z6, m6, k6, rfl⟩ := ac_ r6
 obtain ⟨z7, m7, k7, rfl⟩ := ac_ r7
 obtain ⟨z8, m8, k8, rfl⟩ := ac_ r8
 obtain ⟨z9, m9, k9, rfl⟩ := ac_ r9
 obtain ⟨x1, hx1, h⟩ := bnd h
 refine wo_ (cl_ ca86 rfl (wc_ I5 (Riddle.rv (s := a0) r6 r7 r8 r9) hx1) (em_ rfl) (fun cv1 w4 S3 O1 le3 I6 hv1 => ?_))
 obtain ⟨c10, c11, z10, m10, k10, rw1, c12, rfl, rfl, r10, r11, hl1, r12⟩ := hv1
 obtain ⟨z11, m11, k11, rfl⟩ := ac_ r10
 obtain ⟨z12, m12, k12, rfl⟩ := ac_ r11
 obtain ⟨z13, m13, k13, rfl⟩ := ac_ r12
 refine wo_ (bu_ (z := (.agg #[sn, sn, sn, sn])) rfl I6 zo27 (fun g4 w5 (I7 : Inv w5 S3 (am_ g4 27 #[sn, sn, sn, sn] :: fe_ (α := Clue) 63 30 (.slice z10 m10 k10) (rw1) (x1.Known) :: am_ g3 27 #[sn, sn, sn, sn] :: Fr)) => (wo_ (bb_ (v := (.agg #[(.slice z11 m11 k11), (.slice z12 m12 k12), (.slice z10 m10 k10), (.slice z13 m13 k13)])) (cs := #[sn, sn, sn, sn]) fr_ I7 rfl rfl rfl nb rfl (fun w6 (I8 : Inv w6 S3 (am_ g4 27 #[(.slice z11 m11 k11), (.slice z12 m12 k12), (.slice z10 m10 k10), (.slice z13 m13 k13)] :: fe_ (α := Clue) 63 30 (.slice z10 m10 k10) (rw1) (x1.Known) :: am_ g3 27 #[sn, sn, sn, sn] :: Fr)) => (ad_ (ab_ ?_)))))))
 obtain ⟨x2, hx2, h⟩ := bnd h
 obtain ⟨rr1, hr1⟩ := nn_ hl1 hx2
 obtain ⟨x3, hx3, h⟩ := bnd h
 obtain ⟨x4, hx4, h⟩ := bnd h
 refine bj_ (sps := [spV 8 [] 0 (.pointer (some ⟨g4, 2, none⟩)), ⟨some 9, [0], [1], fun vs_ T_ => fr0 vs_ 0 = (.slice z10 m10 k10), [0], [], [], fun _ h_ => h_⟩, spV 10 [] 2 (an_ (pt_ g2) 0), spV 11 [2] 3 (vi a1.Lock), spV 12 [] 4 (.pointer (some ⟨g4, 2, none⟩)), ⟨some 13, [4], [5], fun vs_ T_ => fr0 vs_ 0 = (.slice z10 m10 k10), [0], [], [], fun _ h_ => h_⟩, spV 14 [] 6 (an_ (pt_ g2) 0), spV 15 [6] 7 (vi a1.Lock), ⟨some 16, [4, 5, 6, 7], [8], fun vs_ T_ => fr0 vs_ 0 = (af_ (.slice z10 m10 k10) (a1.Lock) (Enc.sz Raw)), [1], [], [], fun _ h_ => h_⟩, ⟨some 17, [4, 5, 6, 7, 8], [9], fun vs_ T_ => fr0 vs_ 0 = (rr1.v), [1], [], [], fun _ h_ => h_⟩, spV 18 [] 10 (an_ (pt_ g2) 1), spR 19 [10] 11 (a1.Clue), spR 20 [10, 11] 12 x3, ⟨some 21, [10, 11, 12], [13], fun vs_ T_ => ∃ a_ n_ k_, fr0 vs_ 0 = Value.slice a_ n_ k_, [], [], [2], fun _ h_ => h_⟩, ⟨some 22, [4, 5, 6, 7, 8, 9, 10, 11, 12, 13], [14], fun vs_ T_ => ∃ a_ n_ k_, fr0 vs_ 0 = Value.slice a_ n_ k_, [2], [1], [3, 4, 5], fun _ h_ => h_⟩, ⟨some 23, (lrg 15), [15], fun vs_ T_ => fr0 vs_ 0 = (af_ (.slice z10 m10 k10) (a1.Lock) (Enc.sz Raw)), [5], [], [], fun _ h_ => h_⟩, ⟨none, (lrg 16), [], fun vs_ T_ => True, [], [5, 3, 4], [6], fun _ h_ => h_⟩]) (tks := [⟨none, none, [], fun vs_ => am_ g4 27 #[(.slice z11 m11 k11), (.slice z12 m12 k12), (.slice z10 m10 k10), (.slice z13 m13 k13)]⟩, ⟨none, some 14, [], fun vs_ => fe_ (α := Clue) 63 30 (.slice z10 m10 k10) (rw1) (x1.Known)⟩, ⟨some 13, none, [13], fun vs_ => Row (α := Clue) 30 (fr0 vs_ 0) (([x3] : List Clue))⟩, ⟨some 14, some 16, [14], fun vs_ => Row (α := Clue) 30 (fr0 vs_ 0) (x4)⟩, ⟨some 14, some 16, [], fun vs_ => jq_ (α := Clue) 30 (rw1) (x1.Known) (a1.Lock).toNat⟩, ⟨some 14, some 16, [], fun vs_ => Row (α := Raw) 63 (.slice z10 m10 k10) (rw1)⟩, ⟨some 16, none, [14], fun vs_ => fe_ (α := Clue) 63 30 (.slice z10 m10 k10) (rw1.set (a1.Lock).toNat ⟨(fr0 vs_ 0)⟩) (x1.Known.set (a1.Lock).toNat x4)⟩]) (O := am_ g3 27 #[sn, sn, sn, sn] :: Fr) rfl (by kernel_rfl) ((I8.pull 1).pull 1) ⟨ob_ rfl fun l A K I => (av_ (v := (pt_ g4)) rfl fk_ (K 5 (ag_ rfl)) rfl (fo I)), ?_, ob_ rfl fun l A K I => (ae_ rfl fq_ (K 3 (ag_ rfl)) ((p2.mono (le3.trans l)).at_ I) (fo I)), ob_ rfl fun l A K I => (aj_ rfl sh3 (A.v 0 rfl) (((p2.mono (le3.trans l)).at_ I).fld Aid.fld0) (fo I)), ob_ rfl fun l A K I => (av_ (v := (pt_ g4)) rfl fk_ (K 5 (ag_ rfl)) rfl (fo I)), ?_, ob_ rfl fun l A K I => (ae_ rfl fq_ (K 3 (ag_ rfl)) ((p2.mono (le3.trans l)).at_ I) (fo I)), ob_ rfl fun l A K I => (aj_ rfl sh3 (A.v 0 rfl) (((p2.mono (le3.trans l)).at_ I).fld Aid.fld0) (fo I)), ?_, ?_, ob_ rfl fun l A K I => (ae_ rfl fa32_1 (K 3 (ag_ rfl)) ((p2.mono (le3.trans l)).at_ I) (fo I)), ?_, ?_, ?_, ?_, ?_, ?_, trivial⟩ ?_
 ·
  intro vs f w_ U X le A K I
  have I15 : Inv w_ U (am_ g4 27 #[(Value.slice z11 m11 k11), (Value.slice z12 m12 k12), (Value.slice z10 m10 k10), (Value.slice z13 m13 k13)] :: X) := I
  refine pl_ rfl (bd_ (c := (.slice z10 m10 k10)) rfl sb_ (I15.nth 0 rfl) (A.v 0 rfl) rfl (fo I15))
 ·
  intro vs f w_ U X le A K I
  have I19 : Inv w_ U (am_ g4 27 #[(Value.slice z11 m11 k11), (Value.slice z12 m12 k12), (Value.slice z10 m10 k10), (Value.slice z13 m13 k13)] :: X) := I
  refine pl_ rfl (bd_ (c := (.slice z10 m10 k10)) rfl sb_ (I19.nth 0 rfl) (A.v 0 rfl) rfl (fo I19))
 ·
  intro vs f w_ U X le A K I
  have I22 : Inv w_ U (fe_ (α := Clue) 63 30 (Value.slice z10 m10 k10) (rw1) (x1.Known) :: X) := I
  refine pl_ rfl (fh_ (v := (.slice z10 m10 k10)) (i := a1.Lock) (r := rr1) rfl Tryz.underlying24 ng_ (I22.nth 0 rfl) (A.v 1 rfl) (A.v 3 rfl) hr1 (fo I22))
 ·
  intro vs f w_ U X le A K I
  have I23 : Inv w_ U (fe_ (α := Clue) 63 30 (Value.slice z10 m10 k10) (rw1) (x1.Known) :: X) := I
  have q7 := A.v 4 rfl
  refine pl_ rfl (ay_ rfl ng_ q7 (Inv.gridRowAt (I23.nth 0 rfl) hr1) (fun u6 hu4 => ?_))
  obtain rfl := su_ hu4
  refine ⟨_, _, rfl, lr, ?_, ?_⟩
  · exact rfl
  exact I23
 ·
  intro vs f w_ U X le A K I
  have q8 := A.v 0 rfl
  refine pl_ rfl (ay_ rfl lk_ q8 (((p2.mono (le3.trans le)).at_ I).fld Aid.fld1) (fun u7 hu5 => ?_))
  obtain ⟨c13, e16, r13⟩ := Clue.inv hu5
  subst e16
  obtain ⟨z14, m14, k14, rfl⟩ := ac_ r13
  refine ⟨_, _, rfl, lr, ?_, ?_⟩
  · exact (Clue.rv (s := a1.Clue) r13)
  exact I
 ·
  intro vs f w_ U X le A K I
  have q9 : f 19 = vs 11 := (A.at_ 1 rfl _ rfl).1 _ rfl
  have r14 : RV U (vs 11) a1.Clue := (A.at_ 1 rfl _ rfl).2
  obtain ⟨u8, hu6⟩ : ∃ u, vs 11 = u := ⟨_, rfl⟩
  rw [hu6] at q9 r14
  obtain ⟨c14, e18, r15⟩ := Clue.inv r14
  subst e18
  obtain ⟨z15, m15, k15, rfl⟩ := ac_ r15
  refine pl_ rfl (cl_ ca87 rfl (lw_ I (Clue.rv (s := a1.Clue) r15) hx3) (em_ q9) (fun cv2 w23 S17 O2 le17 I27 hv2 => ?_))
  obtain ⟨c15, rfl, rfl, r16⟩ := hv2
  obtain ⟨c16, e20, r17⟩ := Clue.inv r16
  subst e20
  obtain ⟨z16, m16, k16, rfl⟩ := ac_ r17
  refine ⟨_, _, rfl, le17, ?_, ?_⟩
  · exact (Clue.rv (s := x3) r17)
  exact I27
 ·
  intro vs f w_ U X le A K I
  have q10 : f 20 = vs 12 := (A.at_ 2 rfl _ rfl).1 _ rfl
  have r18 : RV U (vs 12) x3 := (A.at_ 2 rfl _ rfl).2
  obtain ⟨u9, hu7⟩ : ∃ u, vs 12 = u := ⟨_, rfl⟩
  rw [hu7] at q10 r18
  obtain ⟨c17, e22, r19⟩ := Clue.inv r18
  subst e22
  obtain ⟨z17, m17, k17, rfl⟩ := ac_ r19
  refine pl_ rfl (bf_ (vs := [(.agg #[(vi x3.Kind), (vi x3.A), (vi x3.B), (vi x3.N), (vi x3.M), (.slice z17 m17 k17), (vb x3.Not)])]) (r := ([x3] : List Clue)) rfl Tryz.underlying63 el30 (fc_ q10) rfl (by decide) (by decide) ⟨(Clue.rv (s := x3) r19), trivial⟩ I (fun u10 w25 I29 => ?_))
  obtain ⟨z18, m18, k18, e24⟩ := bc_ I29
  subst e24
  refine ⟨_, _, rfl, lr, ?_, ?_⟩
  · exact ⟨_, _, _, rfl⟩
  exact I29
 ·
  intro vs f w_ U X le A K I
  have I30 : Inv w_ U (fe_ (α := Clue) 63 30 (Value.slice z10 m10 k10) (rw1) (x1.Known) :: Row (α := Clue) 30 (vs 13) (([x3] : List Clue)) :: X) := I
  have q11 := A.v 5 rfl
  obtain ⟨z19, m19, k19, e25⟩ := (A.at_ 9 rfl _ rfl).2
  have q12 : f 21 = Value.slice z19 m19 k19 := ((A.at_ 9 rfl _ rfl).1 _ rfl).trans e25
  have e25 : vs 13 = (Value.slice z19 m19 k19) := e25
  have I31 := I30
  rw [e25] at I31
  have I32 := Inv.gridTake I31 hr1 hx2
  refine pl_ rfl (bt_ (α := Clue) (v := (rr1.v)) (u := (.slice z19 m19 k19)) rfl rfl Tryz.underlying63 el30 (by decide) (by decide) q11 q12 I32 (Inv.rowSrc (I32.nth 3 rfl)) hx4 (fun u11 w27 I33 => ?_))
  obtain ⟨z20, m20, k20, e26⟩ := bc_ I33
  subst e26
  refine ⟨_, _, rfl, lr, ?_, ?_⟩
  · exact ⟨_, _, _, rfl⟩
  show Inv _ _ (Row (α := Clue) 30 ((Value.slice z20 m20 k20)) (x4) :: jq_ (α := Clue) 30 (rw1) (x1.Known) (a1.Lock).toNat :: Row (α := Raw) 63 (Value.slice z10 m10 k10) (rw1) :: Row (α := Clue) 30 (vs 13) (([x3] : List Clue)) :: X)
  simp only [e25]
  exact ((((I33.pull 3).pull 2).pull 3).pull 3)
 ·
  intro vs f w_ U X le A K I
  have I34 : Inv w_ U (Row (α := Raw) 63 (Value.slice z10 m10 k10) (rw1) :: X) := I
  refine pl_ rfl (ba_ (α := Raw) (v := (.slice z10 m10 k10)) (i := a1.Lock) (e := rr1) rfl Tryz.underlying24 ng_ (A.v 1 rfl) (Inv.rowSrc (I34.nth 0 rfl)) (A.v 3 rfl) hr1 (fo I34))
 ·
  intro vs f w_ U X le A K I
  have I35 : Inv w_ U (Row (α := Raw) 63 (Value.slice z10 m10 k10) (rw1) :: Row (α := Clue) 30 (vs 14) (x4) :: jq_ (α := Clue) 30 (rw1) (x1.Known) (a1.Lock).toNat :: X) := I
  obtain ⟨z21, m21, k21, e27⟩ := (A.at_ 14 rfl _ rfl).2
  have q15 : f 22 = Value.slice z21 m21 k21 := ((A.at_ 14 rfl _ rfl).1 _ rfl).trans e27
  have e27 : vs 14 = (Value.slice z21 m21 k21) := e27
  have I36 := I35
  rw [e27] at I36
  have q16 := A.v 15 rfl
  refine pl_ rfl (dh_ (α := Raw) (u := (.slice z21 m21 k21)) (e' := (⟨(.slice z21 m21 k21)⟩ : Raw)) ng_ I36 q16 q15 hr1 (nj_ rfl) (fun w30 I37 => ?_))
  have I38 := Inv.gridGive hr1 hx2 (((I37.pull 2).pull 1).pull 2)
  refine ⟨undef, _, rfl, lr, ?_, ?_⟩
  · exact trivial
  show Inv _ _ (fe_ (α := Clue) 63 30 (Value.slice z10 m10 k10) (rw1.set (a1.Lock).toNat ⟨(vs 14)⟩) (x1.Known.set (a1.Lock).toNat x4) :: X)
  simp only [e27]
  exact I38
 intro vs18 f w31 S22 ed1 le22 hF1 hK18 hI18
 have e28 : f 4 = (pt_ g3) := (hK18 4 (al_ rfl)).trans rfl
 have e29 : f 5 = (pt_ g4) := (hK18 5 (al_ rfl)).trans rfl
 have I39 : Inv w31 S22 (am_ g4 27 #[(Value.slice z11 m11 k11), (Value.slice z12 m12 k12), (Value.slice z10 m10 k10), (Value.slice z13 m13 k13)] :: Row (α := Clue) 30 (vs18 13) (([x3] : List Clue)) :: fe_ (α := Clue) 63 30 (Value.slice z10 m10 k10) (rw1.set (a1.Lock).toNat ⟨(vs18 14)⟩) (x1.Known.set (a1.Lock).toNat x4) :: am_ g3 27 #[sn, sn, sn, sn] :: Fr) := hI18
 obtain ⟨z22, m22, k22, e30⟩ := (hF1.at_ 13 rfl _ rfl).2
 have q17 : f 21 = Value.slice z22 m22 k22 := ((hF1.at_ 13 rfl _ rfl).1 _ rfl).trans e30
 have e30 : vs18 13 = (Value.slice z22 m22 k22) := e30
 have I40 := I39
 rw [e30] at I40
 obtain ⟨z23, m23, k23, e31⟩ := (hF1.at_ 14 rfl _ rfl).2
 have q18 : f 22 = Value.slice z23 m23 k23 := ((hF1.at_ 14 rfl _ rfl).1 _ rfl).trans e31
 have e31 : vs18 14 = (Value.slice z23 m23 k23) := e31
 have I41 := I40
 rw [e31] at I41
 refine ab_ (aa_ (wo_ (el_ (l := [(.slice z11 m11 k11), (.slice z12 m12 k12), (.slice z10 m10 k10), (.slice z13 m13 k13)]) rfl fr_ (I41.nth 0 rfl) e29 rfl rfl (wo_ (bb_ (v := (.agg #[(.slice z11 m11 k11), (.slice z12 m12 k12), (.slice z10 m10 k10), (.slice z13 m13 k13)])) (cs := #[sn, sn, sn, sn]) fr_ (I41.pull 3) e28 rfl rfl nb rfl (fun w32 (I42 : Inv w32 S22 (am_ g3 27 #[(.slice z11 m11 k11), (.slice z12 m12 k12), (.slice z10 m10 k10), (.slice z13 m13 k13)] :: am_ g4 27 #[(.slice z11 m11 k11), (.slice z12 m12 k12), (.slice z10 m10 k10), (.slice z13 m13 k13)] :: Row (α := Clue) 30 (.slice z22 m22 k22) (([x3] : List Clue)) :: fe_ (α := Clue) 63 30 (.slice z10 m10 k10) (rw1.set (a1.Lock).toNat ⟨(.slice z23 m23 k23)⟩) (x1.Known.set (a1.Lock).toNat x4) :: Fr)) => (ad_ (ak_ ?_))))))))
 obtain ⟨S23, le23, I43, r20⟩ := Inv.gridFreeze (I42.pull 3) (tw_ hl1)
 obtain rfl := sj h
 exact ⟨(ed1.trans rfl), (.agg #[(.slice z11 m11 k11), (.slice z12 m12 k12), (.slice z10 m10 k10), (.slice z13 m13 k13)]), (resC (cs := #[(.slice z11 m11 k11), (.slice z12 m12 k12), (.slice z10 m10 k10), (.slice z13 m13 k13)]) rfl e28 fr_ I42), _, [], ((((le1.trans le2).trans le3).trans le22).trans le23), (((I43).drop).drop).drop, _, rfl, rfl, (Riddle.rv (s := (⟨x1.Locks, x1.Codes, x1.Known.set (a1.Lock).toNat x4, x1.Ties⟩ : Riddle)) (r10.mono (le22.trans le23)) (r11.mono (le22.trans le23)) r20 (r12.mono (le22.trans le23)))⟩
theorem om_ {w : World} {S : PH} {Fr : List HP} {a0 : Riddle} {v0 : Value} {a1 : Aid} {v1 : Value} {r : (ORef Hints_room) × (ORef Hints_room) × Int} (hI : Inv w S (Fr)) (h0_ : RV S v0 a0) (h1_ : RV S v1 a1) (h : ig_ a0 a1 = some r) :
    Calls Tryz.prog 37 [v0, v1].toArray w (lp_ S Fr (fun T_ v_ O_ => ∃ (c0_ : Value) (c1_ : Value), v_ = (Value.tuple #[c0_, c1_, (Value.int .i64 (r.2.2))]) ∧ O_ = [] ∧ RV T_ c0_ r.1 ∧ RV T_ c1_ r.2.1)) := by
 unfold ig_ at h
 obtain ⟨c1, c2, c3, c4, e1, r1, r2, r3, r4⟩ := Riddle.inv h0_
 subst e1
 obtain ⟨z1, m1, k1, rfl⟩ := ac_ r1
 obtain ⟨z2, m2, k2, rfl⟩ := ac_ r2
 obtain ⟨z3, m3, k3, rfl⟩ := ac_ r3
 obtain ⟨z4, m4, k4, rfl⟩ := ac_ r4
 obtain ⟨c5, e6, r5⟩ := Aid.inv h1_
 subst e6
 obtain ⟨z5, m5, k5, rfl⟩ := ac_ r5
 refine ao_ (n := 33) Tryz.func37 rfl rfl rfl (ab_ (aa_ (wo_ (bi_ (v := (.agg #[(.slice z1 m1 k1), (.slice z2 m2 k2), (.slice z3 m3 k3), (.slice z4 m4 k4)])) rfl hI rfl (fun g1 w1 I1 => ?_)))))
 obtain ⟨S1, le1, I2, p1⟩ := Inv.boxFreeze (x := a0) I1 (Riddle.rv (s := a0) r1 r2 r3 r4)
 refine wo_ (bi_ (v := (.agg #[(vi a1.Lock), (vi a1.Clue.Kind), (vi a1.Clue.A), (vi a1.Clue.B), (vi a1.Clue.N), (vi a1.Clue.M), (.slice z5 m5 k5), (vb a1.Clue.Not)])) rfl I2 rfl (fun g2 w2 I3 => ?_))
 obtain ⟨S2, le2, I4, p2⟩ := Inv.boxFreeze (x := a1) I3 (Aid.rv (s := a1) (r5.mono le1))
 refine wa_ (v := (.pointer none)) rfl rfl (wa_ (v := (.pointer none)) rfl rfl (wa_ (v := (vi 0)) rfl rfl (ad_ (ab_ (ab_ (aa_ (wo_ (ld_ fr_ ((p1.mono le2).at_ I4) rfl (fun u1 hu1 => ?_)))))))))
 obtain ⟨c6, c7, c8, c9, e8, r6, r7, r8, r9⟩ := Riddle.inv hu1
 subst e8
 obtain ⟨z6, m6, k6, rfl⟩ := ac_ r6
 obtain ⟨z7, m7, k7, rfl⟩ := ac_ r7
 obtain ⟨z8, m8, k8, rfl⟩ := ac_ r8
 obtain ⟨z9, m9, k9, rfl⟩ := ac_ r9
 obtain ⟨x1, hx1, h⟩ := bnd h
 refine wo_ (cl_ ca71 rfl (hm_ I4 (Riddle.rv (s := a0) r6 r7 r8 r9) hx1) (em_ rfl) (fun cv1 w3 S3 O1 le3 I5 hv1 => ?_))
 obtain ⟨c10, rfl, rfl, r10⟩ := hv1
 refine wm_ (v := (Value.tuple #[c10, (vi x1.2)])) rfl rfl (wo_ (bg_ (v := c10) rfl rfl rfl (wo_ (bg_ (v := (vi x1.2)) rfl rfl rfl (wa_ (v := c10) rfl rfl (wa_ (v := (vi x1.2)) rfl rfl (ad_ (ab_ (aa_ (wm_ (v := (vi x1.2)) rfl rfl (wo_ (cd_ rfl rfl rfl (ad_ ?_)))))))))))))
 rcases ifs h with ⟨hc1, h⟩ | ⟨hc1, h⟩
 ·
  refine ah_ rfl hc1 (ab_ (aa_ (wm_ (v := (vi x1.2)) rfl rfl (wa_ (v := (.pointer none)) rfl rfl (wa_ (v := (.pointer none)) rfl rfl (wa_ (v := (vi x1.2)) rfl rfl (ad_ (ak_ ?_))))))))
  obtain rfl := sj h
  exact ⟨rfl, (Value.tuple #[(.pointer none), (.pointer none), (vi x1.2)]), (res3 rfl rfl rfl rfl), _, [], ((le1.trans le2).trans le3), I5, _, _, rfl, rfl, nk_, nk_⟩
 refine ai_ rfl hc1 (ar_ (ab_ (ab_ (aa_ (wo_ (ld_ fr_ ((p1.mono (le2.trans le3)).at_ I5) rfl (fun u2 hu2 => ?_)))))))
 obtain ⟨c11, c12, c13, c14, e13, r11, r12, r13, r14⟩ := Riddle.inv hu2
 subst e13
 obtain ⟨z10, m10, k10, rfl⟩ := ac_ r11
 obtain ⟨z11, m11, k11, rfl⟩ := ac_ r12
 obtain ⟨z12, m12, k12, rfl⟩ := ac_ r13
 obtain ⟨z13, m13, k13, rfl⟩ := ac_ r14
 refine wo_ (ld_ ua_ ((p2.mono le3).at_ I5) rfl (fun u3 hu3 => ?_))
 obtain ⟨c15, e18, r15⟩ := Aid.inv hu3
 subst e18
 obtain ⟨z14, m14, k14, rfl⟩ := ac_ r15
 obtain ⟨x2, hx2, h⟩ := bnd h
 refine wo_ (cv_ ca73 rfl I5 (fun Fr_ hF_ => pv_ hF_ (Riddle.rv (s := a0) r11 r12 r13 r14) (Aid.rv (s := a1) r15) hx2) (br_ rfl rfl) (fun w4 I6 => (wo_ (bx_ rfl rfl (ad_ ?_)))))
 rcases ifs h with ⟨hc2, h⟩ | ⟨hc2, h⟩
 ·
  refine ah_ rfl hc2 (ab_ (aa_ (wa_ (v := (.pointer none)) rfl rfl (wa_ (v := (.pointer none)) rfl rfl (wa_ (v := (vi 70)) rfl rfl (ad_ (ak_ ?_)))))))
  obtain rfl := sj h
  exact ⟨rfl, (Value.tuple #[(.pointer none), (.pointer none), (vi 70)]), (res3 rfl rfl rfl rfl), _, [], ((le1.trans le2).trans le3), I6, _, _, rfl, rfl, nk_, nk_⟩
 refine ai_ rfl hc2 (ar_ (ab_ (ab_ (aa_ (wo_ (ld_ fr_ ((p1.mono (le2.trans le3)).at_ I6) rfl (fun u4 hu4 => ?_)))))))
 obtain ⟨c16, c17, c18, c19, e20, r16, r17, r18, r19⟩ := Riddle.inv hu4
 subst e20
 obtain ⟨z15, m15, k15, rfl⟩ := ac_ r16
 obtain ⟨z16, m16, k16, rfl⟩ := ac_ r17
 obtain ⟨z17, m17, k17, rfl⟩ := ac_ r18
 obtain ⟨z18, m18, k18, rfl⟩ := ac_ r19
 refine wo_ (fa_ fq_ ((p2.mono le3).at_ I6) rfl (wo_ (li_ sh3 (((p2.mono le3).at_ I6).fld Aid.fld0) rfl ?_)))
 obtain ⟨x3, hx3, h⟩ := bnd h
 refine wo_ (cv_ ca74 rfl I6 (fun Fr_ hF_ => xw_ hF_ (Riddle.rv (s := a0) r16 r17 r18 r19) hx3) (br_ rfl rfl) (fun w5 I7 => (ad_ ?_)))
 rcases ifs h with ⟨hc3, h⟩ | ⟨hc3, h⟩
 ·
  refine ah_ rfl hc3 (ab_ (aa_ (wa_ (v := (.pointer none)) rfl rfl (wa_ (v := (.pointer none)) rfl rfl (wa_ (v := (vi 2)) rfl rfl (ad_ (ak_ ?_)))))))
  obtain rfl := sj h
  exact ⟨rfl, (Value.tuple #[(.pointer none), (.pointer none), (vi 2)]), (res3 rfl rfl rfl rfl), _, [], ((le1.trans le2).trans le3), I7, _, _, rfl, rfl, nk_, nk_⟩
 refine ai_ rfl hc3 (ar_ (ab_ (aa_ (wo_ (ld_ fr_ ((p1.mono (le2.trans le3)).at_ I7) rfl (fun u5 hu5 => ?_))))))
 obtain ⟨c20, c21, c22, c23, e25, r20, r21, r22, r23⟩ := Riddle.inv hu5
 subst e25
 obtain ⟨z19, m19, k19, rfl⟩ := ac_ r20
 obtain ⟨z20, m20, k20, rfl⟩ := ac_ r21
 obtain ⟨z21, m21, k21, rfl⟩ := ac_ r22
 obtain ⟨z22, m22, k22, rfl⟩ := ac_ r23
 refine wo_ (ld_ ua_ ((p2.mono le3).at_ I7) rfl (fun u6 hu6 => ?_))
 obtain ⟨c24, e30, r24⟩ := Aid.inv hu6
 subst e30
 obtain ⟨z23, m23, k23, rfl⟩ := ac_ r24
 obtain ⟨x4, hx4, h⟩ := bnd h
 refine wo_ (cl_ ca53 rfl (xq_ I7 (Riddle.rv (s := a0) r20 r21 r22 r23) (Aid.rv (s := a1) r24) hx4) (br_ rfl rfl) (fun cv2 w6 S4 O2 le4 I8 hv2 => ?_))
 obtain ⟨c25, rfl, rfl, r25⟩ := hv2
 obtain ⟨c26, c27, c28, c29, e32, r26, r27, r28, r29⟩ := Riddle.inv r25
 subst e32
 obtain ⟨z24, m24, k24, rfl⟩ := ac_ r26
 obtain ⟨z25, m25, k25, rfl⟩ := ac_ r27
 obtain ⟨z26, m26, k26, rfl⟩ := ac_ r28
 obtain ⟨z27, m27, k27, rfl⟩ := ac_ r29
 obtain ⟨x5, hx5, h⟩ := bnd h
 refine wo_ (cl_ ca71 rfl (hm_ I8 (Riddle.rv (s := x4) r26 r27 r28 r29) hx5) (em_ rfl) (fun cv3 w7 S5 O3 le5 I9 hv3 => ?_))
 obtain ⟨c30, rfl, rfl, r30⟩ := hv3
 refine wm_ (v := (Value.tuple #[c30, (vi x5.2)])) rfl rfl (wo_ (bg_ (v := c30) rfl rfl rfl (wo_ (bg_ (v := (vi x5.2)) rfl rfl rfl (wa_ (v := c30) rfl rfl (wa_ (v := (vi x5.2)) rfl rfl (ad_ (ab_ (aa_ (wm_ (v := c10) rfl rfl (wm_ (v := c30) rfl rfl (wm_ (v := (vi x5.2)) rfl rfl (wa_ (v := c10) rfl rfl (wa_ (v := c30) rfl rfl (wa_ (v := (vi x5.2)) rfl rfl (ad_ (ak_ ?_)))))))))))))))))
 obtain rfl := sj h
 exact ⟨rfl, (Value.tuple #[c10, c30, (vi x5.2)]), (res3 rfl rfl rfl rfl), _, [], ((((le1.trans le2).trans le3).trans le4).trans le5), I9, _, _, rfl, rfl, (r10.mono (le4.trans le5)), r30⟩
theorem nx_ {w : World} {S : PH} {Fr : List HP} {a0 : Hints_room} {v0 : Value} {r : (List (List (List Int)))} (hI : Inv w S (Fr)) (h0_ : PtS S v0 a0) (h : ej_ a0 = some r) :
    Calls Tryz.prog 67 [v0].toArray w (lp_ S Fr (fun T_ v_ O_ => ∃ (a0_ : Option Addr) (n0_ k0_ : Nat), v_ = (Value.slice a0_ n0_ k0_) ∧ O_ = [] ∧ RV T_ (Value.slice a0_ n0_ k0_) r)) := by
 unfold ej_ at h
 refine ij_ (n := 99) (vs := [v0]) Tryz.func67 rfl rfl rfl ?_
 have I1 := Inv.noD hI
 refine ab_ (aa_ (wa_ (v := sn) rfl rfl (ad_ (ab_ (aa_ (wm_ (v := v0) rfl rfl (wo_ (eu_ (v := v0) rfl rfl h0_ (wo_ (fa_ fa70_0 (h0_.at_ I1) rfl (wo_ (fa_ co_ ((h0_.at_ I1).fld Hints_room.fld0) rfl (wo_ (ld_ mh_ (((h0_.at_ I1).fld Hints_room.fld0).fld Riddle.fld0) rfl (fun u1 hu1 => ?_)))))))))))))))
 obtain ⟨z1, m1, k1, rfl⟩ := ac_ hu1
 refine wo_ (az_ rfl Tryz.underlying22 rfl hu1 ?_)
 obtain ⟨x1, hx1, h⟩ := bnd h
 obtain ⟨hm1, hm2⟩ := mk?_raw hx1
 refine wo_ (gn_ (α := Raw) (c := (a0.Riddle.Locks.length : Int)) rfl Tryz.underlying113 el114r (by decide) rfl rfl I1 hm1 (fun u2 w1 I2 => ?_))
 have I3 := Inv.gridNew (α := Bool) (Ti := 4) I2
 rw [← hm2] at I3
 obtain ⟨z2, m2, k2, e2⟩ := bc_ (Inv.gridOut I3)
 subst e2
 refine wo_ (bu_ (z := sn) rfl I3 zo113 (fun g1 w2 (I4 : Inv w2 S (am_ g1 113 #[sn] :: fe_ (α := Bool) 114 4 (.slice z2 m2 k2) (List.replicate ((a0.Riddle.Locks.length : Int)).toNat ⟨.slice none 0 0⟩) (x1) :: ph_ ([]) :: Fr)) => (wo_ (bb_ (v := (.slice z2 m2 k2)) (cs := #[sn]) sh113 I4 rfl rfl rfl nb rfl (fun w3 (I5 : Inv w3 S (am_ g1 113 #[(.slice z2 m2 k2)] :: fe_ (α := Bool) 114 4 (.slice z2 m2 k2) (List.replicate ((a0.Riddle.Locks.length : Int)).toNat ⟨.slice none 0 0⟩) (x1) :: ph_ ([]) :: Fr)) => (ad_ (ab_ (ab_ (aa_ (wm_ (v := v0) rfl rfl (wo_ (eu_ (v := v0) rfl rfl h0_ (wo_ (fa_ wu_ (h0_.at_ I5) rfl (wo_ (ld_ sh55 ((h0_.at_ I5).fld Hints_room.fld1) rfl (fun u3 hu2 => ?_)))))))))))))))))
 obtain ⟨z3, m3, k3, rfl⟩ := ac_ hu2
 refine wo_ (az_ rfl Tryz.underlying55 rfl hu2 (wm_ (v := (vi 0)) rfl rfl (ad_ ?_)))
 have hk1 : a0.allowed.length ≤ 9223372036854775807 := (cx_ hu2)
 obtain ⟨out1, hrun1, h⟩ := bnd h
 refine bp_ (fun f w => ∃ (S_ : PH) (Ds5 : List Nat) (rw4 : List Raw), S.Le S_ ∧ Inv w S_ (ph_ (Ds5) :: am_ g1 113 #[(.slice z2 m2 k2)] :: fe_ (α := Bool) 114 4 (.slice z2 m2 k2) (rw4) (out1) :: Fr) ∧ f 0 = v0 ∧ f 3 = (pt_ g1) ∧ f 24 = (.slice z3 m3 k3) ∧ f 25 = (vi ((a0.allowed.length : Int))) ∧ f.ds = mkDs Ds5 ∧ rw4.length = (out1).length) ?_ ?_
 ·
  refine au_ ?_
  refine da_ (I := fun (i1 : Nat) (s1 : (List (List Bool))) (f : Frm) (w : World) => ∃ (S_ : PH) (Ds4 : List Nat) (rw3 : List Raw), S.Le S_ ∧ Inv w S_ (ph_ (Ds4) :: am_ g1 113 #[(.slice z2 m2 k2)] :: fe_ (α := Bool) 114 4 (.slice z2 m2 k2) (rw3) (s1) :: Fr) ∧ f 0 = v0 ∧ f 3 = (pt_ g1) ∧ f 24 = (.slice z3 m3 k3) ∧ f 25 = (vi ((a0.allowed.length : Int))) ∧ f 26 = (vi (i1 : Int)) ∧ f.ds = mkDs Ds4 ∧ rw3.length = (s1).length) hrun1 ⟨_, _, _, lr, (((I5.pull 1).pull 1).pull 2), rfl, rfl, rfl, rfl, rfl, rfl, (grid_new hm2)⟩ ?_ ?_
  ·
   rintro i1 s1 f w o1 hlt1 hI25 h1
   obtain ⟨S27, Ds4, rw3, le27, I63, e46, e47, e48, e49, e50, ed7, hl3⟩ := hI25
   refine ab_ (aa_ (wo_ (be_ rfl e50 e49 (ad_ (ab_ (ah_ rfl (eo_ hlt1) (ar_ (ab_ (au_ (ab_ (aa_ (wm_ rfl e50 ?_))))))))))))
   obtain ⟨x11, hx11, h1⟩ := bnd h1
   refine wo_ (ix_ Tryz.underlying55 lq_ (hu2.mono le27) hx11 e48 e50 (wo_ (ld_ lq_ ((hu2.mono le27).elem I63.in_ hx11) rfl (fun u13 hu6 => ?_))))
   obtain ⟨z16, m16, k16, rfl⟩ := ac_ hu6
   refine wa_ (v := (vi (i1 : Int))) rfl rfl (wa_ (v := (.slice z16 m16 k16)) rfl rfl (ad_ ?_))
   obtain ⟨x12, hx12, h1⟩ := bnd h1
   obtain ⟨x13, hx13, h1⟩ := bnd h1
   obtain ⟨rr4, hr4⟩ := nn_ hl3 hx13
   refine bj_ (sps := [⟨some 31, [], [0], fun vs_ T_ => fr0 vs_ 0 = (.slice z2 m2 k2), [0], [], [], fun _ h_ => h_⟩, spV 32 [] 1 (vi (i1 : Int)), spV 33 [] 2 (.slice z16 m16 k16), spV 34 [2] 3 (vi ((x11.length : Int))), ⟨some 35, [2, 3], [4], fun vs_ T_ => ∃ a_ n_ k_, fr0 vs_ 0 = Value.slice a_ n_ k_, [], [], [1], fun _ h_ => h_⟩, ⟨some 36, [0, 1, 2, 3, 4], [5], fun vs_ T_ => fr0 vs_ 0 = (af_ (.slice z2 m2 k2) ((i1 : Int)) (Enc.sz Raw)), [2], [], [], fun _ h_ => h_⟩, ⟨none, (lrg 6), [], fun vs_ T_ => True, [], [2, 1], [3], fun _ h_ => h_⟩]) (tks := [⟨none, none, [], fun vs_ => am_ g1 113 #[(.slice z2 m2 k2)]⟩, ⟨some 4, some 6, [4], fun vs_ => Row (α := Bool) 4 (fr0 vs_ 0) (x12)⟩, ⟨none, some 6, [], fun vs_ => fe_ (α := Bool) 114 4 (.slice z2 m2 k2) (rw3) (s1)⟩, ⟨some 6, none, [4], fun vs_ => fe_ (α := Bool) 114 4 (.slice z2 m2 k2) (rw3.set ((i1 : Int)).toNat ⟨(fr0 vs_ 0)⟩) (s1.set ((i1 : Int)).toNat x12)⟩]) (O := ph_ (Ds4) :: Fr) rfl (by kernel_rfl) ((I63.pull 2).pull 2) ⟨?_, ob_ rfl fun l A K I => (aq_ rfl (K 4 (ag_ rfl)) (fo I)), ob_ rfl fun l A K I => (aq_ rfl (K 5 (ag_ rfl)) (fo I)), ob_ rfl fun l A K I => (az_ rfl Tryz.underlying23 (A.v 0 rfl) (hu6.mono l) (fo I)), ?_, ?_, ?_, trivial⟩ ?_
   ·
    intro vs f w_ U X le A K I
    have I68 : Inv w_ U (am_ g1 113 #[(Value.slice z2 m2 k2)] :: X) := I
    refine pl_ rfl (bd_ (c := (.slice z2 m2 k2)) rfl sh113 (I68.nth 0 rfl) ((K 3 (ag_ rfl)).trans e47) rfl (fo I68))
   ·
    intro vs f w_ U X le A K I
    have q23 := A.v 1 rfl
    refine pl_ rfl (gn_ (c := (x11.length : Int)) rfl Tryz.underlying114 el4 (by decide) q23 q23 I hx12 (fun u15 w47 I73 => ?_))
    obtain ⟨z17, m17, k17, e52⟩ := bc_ I73
    subst e52
    refine ⟨_, _, rfl, lr, ?_, ?_⟩
    · exact ⟨_, _, _, rfl⟩
    exact I73
   ·
    intro vs f w_ U X le A K I
    have I74 : Inv w_ U (fe_ (α := Bool) 114 4 (Value.slice z2 m2 k2) (rw3) (s1) :: X) := I
    refine pl_ rfl (fh_ (v := (.slice z2 m2 k2)) (i := (i1 : Int)) (r := rr4) rfl Tryz.underlying113 sh114 (I74.nth 0 rfl) (A.v 0 rfl) (A.v 1 rfl) hr4 (fo I74))
   ·
    intro vs f w_ U X le A K I
    have I75 : Inv w_ U (fe_ (α := Bool) 114 4 (Value.slice z2 m2 k2) (rw3) (s1) :: Row (α := Bool) 4 (vs 4) (x12) :: X) := I
    obtain ⟨z18, m18, k18, e53⟩ := (A.at_ 4 rfl _ rfl).2
    have q26 : f 35 = Value.slice z18 m18 k18 := ((A.at_ 4 rfl _ rfl).1 _ rfl).trans e53
    have e53 : vs 4 = (Value.slice z18 m18 k18) := e53
    have I76 := I75
    rw [e53] at I76
    have q27 := A.v 5 rfl
    have I77 := Inv.gridTake I76 hr4 hx13
    refine pl_ rfl (dh_ (α := Raw) (u := (.slice z18 m18 k18)) (e' := (⟨(.slice z18 m18 k18)⟩ : Raw)) sh114 (I77).drop q27 q26 hr4 (nj_ rfl) (fun w50 I78 => ?_))
    have I79 := Inv.gridGive hr4 hx13 (((I78.pull 1).pull 1).pull 2)
    refine ⟨undef, _, rfl, lr, ?_, ?_⟩
    · exact trivial
    show Inv _ _ (fe_ (α := Bool) 114 4 (Value.slice z2 m2 k2) (rw3.set ((i1 : Int)).toNat ⟨(vs 4)⟩) (s1.set ((i1 : Int)).toNat x12) :: X)
    simp only [e53]
    exact I79
   intro vs32 f w51 S35 ed8 le35 hF4 hK32 hI33
   have e54 : f 0 = v0 := (hK32 0 (al_ rfl)).trans e46
   have e55 : f 3 = (pt_ g1) := (hK32 3 (al_ rfl)).trans e47
   have e56 : f 24 = (Value.slice z3 m3 k3) := (hK32 24 (al_ rfl)).trans e48
   have e57 : f 25 = (vi ((a0.allowed.length : Int))) := (hK32 25 (al_ rfl)).trans e49
   have e58 : f 26 = (vi ((i1 : Int))) := (hK32 26 (al_ rfl)).trans e50
   have I80 : Inv w51 S35 (am_ g1 113 #[(Value.slice z2 m2 k2)] :: fe_ (α := Bool) 114 4 (Value.slice z2 m2 k2) (rw3.set ((i1 : Int)).toNat ⟨(vs32 4)⟩) (s1.set ((i1 : Int)).toNat x12) :: ph_ (Ds4) :: Fr) := hI33
   obtain ⟨z19, m19, k19, e59⟩ := (hF4.at_ 4 rfl _ rfl).2
   have q28 : f 35 = Value.slice z19 m19 k19 := ((hF4.at_ 4 rfl _ rfl).1 _ rfl).trans e59
   have e59 : vs32 4 = (Value.slice z19 m19 k19) := e59
   have I81 := I80
   rw [e59] at I81
   refine aa_ (wo_ (bl_ rfl e58 rfl (wm_ (v := (vi (w64 ((i1 : Int) + 1)))) rfl rfl (ad_ ?_))))
   obtain rfl := sj h1
   exact ⟨_, _, _, (le27.trans le35), (((I81.pull 1).pull 1).pull 2), e54, e55, e56, e57, (bh_ hlt1 hk1), (ed8.trans ed7), (tw_ hl3)⟩
  rintro f w hI34
  obtain ⟨S36, Ds6, rw5, le36, I82, e60, e61, e62, e63, e64, ed9, hl5⟩ := hI34
  refine ab_ (aa_ (wo_ (be_ rfl e64 e63 (ad_ (ab_ (ai_ rfl (ep_ _) (bk_ ?_)))))))
  exact ⟨_, _, _, le36, (((I82.pull 2).pull 2).pull 2), e60, e61, e62, e63, ed9, hl5⟩
 rintro f w ⟨S37, Ds5, rw4, le37, I83, e65, e66, e67, e68, ed10, hl4⟩
 refine ab_ (ab_ (aa_ (wm_ rfl e65 (wo_ (cm_ (fv := #[v0]) (cv := #[]) rfl (arr1 rfl) zo_ (ad_ (au_ ?_)))))))
 obtain ⟨o6, hrun5, h⟩ := bnd h
 refine oz_ (M := (rx_ Int 3)) (F := (fun g_ s_ => ct_ a0 g_ s_)) (fun (s5 : (List (List Bool))) => HPof fun S_ L_ => ∃ (rw23 : List Raw), L_ = [am_ g1 113 #[(.slice z2 m2 k2)], fe_ (α := Bool) 114 4 (.slice z2 m2 k2) (rw23) (s5)] ∧ rw23.length = (s5).length) (fun e=>by cases e) (fun _ => Code.ret) rfl rfl pg_ ⟨72, [v0], [], rfl, ca72, fun R_ Rx_ g_ T_ w_ Fr_ v_ s_ o_ hle_ ho_ hy_ hI_ h_ => Calls.doneMono (kd_ hI_ ((h0_.mono le37).mono hle_) ho_ hy_ h_) fun _ _ _ hp_ => hp_.2⟩ (Inv.ofShut (L := [am_ g1 113 #[(.slice z2 m2 k2)], fe_ (α := Bool) 114 4 (.slice z2 m2 k2) (rw4) (out1)]) ⟨_, rfl, hl4⟩ ((I83.pull 2).pull 2)) hrun5 ?_ ?_
 ·
  intro l1 rc1 S38 w65 us1 x51 s6 o7 G1 le38 hr17 hn1 hI41 h9
  obtain ⟨z20, m20, k20, rfl⟩ := hr17
  obtain ⟨S39, L1, le39, ⟨rw24, rfl, hl24⟩, I117⟩ := Inv.ofOpen (hI41.pull 2)
  have I118 : Inv w65 S38 (am_ g1 113 #[(Value.slice z2 m2 k2)] :: fe_ (α := Bool) 114 4 (Value.slice z2 m2 k2) (rw24) (s6) :: fz_ l1 rc1 :: Row (α := Int) 3 (Value.slice z20 m20 k20) (x51) :: G1) := I117
  refine aa_ (wa_ (v := (.slice z20 m20 k20)) rfl rfl (ad_ (⟨_, _, lr, (I118.pull 2), fun w66 I119 => ?_⟩)))
  refine au_ (ab_ (aa_ (wm_ (v := (.slice z20 m20 k20)) rfl rfl (wo_ (di_ (α := Int) rfl Tryz.underlying28 rfl (I119.nth 3 rfl) (wm_ (v := (vi 0)) rfl rfl (ad_ ?_)))))))
  have hk5 : x51.length ≤ 9223372036854775807 := (uc_ (I119.nth 3 rfl))
  obtain ⟨out5, hrun6, h9⟩ := bnd h9
  refine bp_ (fun f w => ∃ (rw28 : List Raw), Inv w S38 (fz_ l1 { rc1 with state := .busy } :: am_ g1 113 #[(.slice z2 m2 k2)] :: fe_ (α := Bool) 114 4 (.slice z2 m2 k2) (rw28) (out5) :: Row (α := Int) 3 (.slice z20 m20 k20) (x51) :: G1) ∧ f 0 = v0 ∧ f 3 = (pt_ g1) ∧ f 41 = (.slice z20 m20 k20) ∧ f 42 = (vi ((x51.length : Int))) ∧ f.ds = [] ∧ rw28.length = (out5).length) ?_ ?_
  ·
   refine au_ ?_
   refine da_ (I := fun (i5 : Nat) (s7 : (List (List Bool))) (f : Frm) (w : World) => ∃ (rw27 : List Raw), Inv w S38 (fz_ l1 { rc1 with state := .busy } :: am_ g1 113 #[(.slice z2 m2 k2)] :: fe_ (α := Bool) 114 4 (.slice z2 m2 k2) (rw27) (s7) :: Row (α := Int) 3 (.slice z20 m20 k20) (x51) :: G1) ∧ f 0 = v0 ∧ f 3 = (pt_ g1) ∧ f 41 = (.slice z20 m20 k20) ∧ f 42 = (vi ((x51.length : Int))) ∧ f 43 = (vi (i5 : Int)) ∧ f.ds = [] ∧ rw27.length = (s7).length) hrun6 ⟨_, ((((I119.pull 3).pull 3).pull 3).pull 3), e65, e66, rfl, rfl, rfl, rfl, hl24⟩ ?_ ?_
   ·
    rintro i5 s7 f w o8 hlt5 hI42 h11
    obtain ⟨rw27, I126, e177, e178, e179, e180, e181, ed35, hl27⟩ := hI42
    refine ab_ (aa_ (wo_ (be_ rfl e181 e180 (ad_ (ab_ (ah_ rfl (eo_ hlt5) (ar_ (ab_ (au_ (ab_ (aa_ (wm_ rfl e181 ?_))))))))))))
    obtain ⟨x61, hx59, h11⟩ := bnd h11
    refine wo_ (ba_ (v := (.slice z20 m20 k20)) (i := (i5 : Int)) (e := x61) rfl Tryz.underlying28 sh3 e179 (Inv.rowSrc (I126.nth 3 rfl)) e181 hx59 (wo_ (li_ sh3 ((I126.nth 3 rfl).rowElem hx59) rfl (wa_ (v := (vi (i5 : Int))) rfl rfl (wa_ (v := (vi x61)) rfl rfl (ad_ (aa_ (wo_ (bd_ (c := (.slice z2 m2 k2)) rfl sh113 (I126.nth 1 rfl) e178 rfl (wm_ (v := (vi (i5 : Int))) rfl rfl ?_))))))))))
    obtain ⟨x62, hx60, h11⟩ := bnd h11
    obtain ⟨rr20, hr21⟩ := nn_ hl27 hx60
    refine wo_ (fh_ (v := (.slice z2 m2 k2)) (i := (i5 : Int)) (r := rr20) rfl Tryz.underlying113 sh114 (I126.nth 2 rfl) rfl rfl hr21 (wo_ (ld_ sh114 (Inv.gridRowAt (I126.nth 2 rfl) hr21) rfl (fun u31 hu22 => ?_))))
    obtain rfl := su_ hu22
    refine wm_ (v := (vi x61)) rfl rfl ?_
    obtain ⟨x63, hx61, h11⟩ := bnd h11
    refine wo_ (sy_ (k := x61) (e := x63) (df_ hr21).2.2 (df_ hx60).2.2 rfl Tryz.underlying114 sh4 (I126.nth 2 rfl) rfl rfl hx61 ?_)
    refine wo_ (yx_ (k := x61) (e' := true) (df_ hr21).2.2 (df_ hx60).2.2 sh4 (I126.pull 2) rfl rfl hx61 (rv_bool' _) (fun w70 I127 => ?_))
    refine ad_ (aa_ (wo_ (bl_ rfl e181 rfl (wm_ (v := (vi (w64 ((i5 : Int) + 1)))) rfl rfl (ad_ ?_)))))
    obtain rfl := sj h11
    exact ⟨_, ((((I127.pull 3).pull 1).pull 3).pull 3), e177, e178, e179, e180, (bh_ hlt5 hk5), ed35, (grid_set1 hl27)⟩
   rintro f w hI43
   obtain ⟨rw29, I128, e182, e183, e184, e185, e186, ed36, hl29⟩ := hI43
   refine ab_ (aa_ (wo_ (be_ rfl e186 e185 (ad_ (ab_ (ai_ rfl (ep_ _) (bk_ ?_)))))))
   exact ⟨_, ((((I128.pull 3).pull 3).pull 3).pull 3), e182, e183, e184, e185, ed36, hl29⟩
  rintro f w ⟨rw28, I129, e187, e188, e189, e190, ed37, hl28⟩
  obtain rfl := sj h9
  exact ⟨_, _, lr, rfl, (Inv.rot2 (Inv.ofShut (L := [am_ g1 113 #[(.slice z2 m2 k2)], fe_ (α := Bool) 114 4 (.slice z2 m2 k2) (rw28) (out5)]) ⟨_, rfl, hl28⟩ ((((I129.pull 3).pull 1).pull 3).pull 3)))⟩
 intro D1 w71 S40 le40 I130
 rcases o6 with s8 | q30
 ·
  obtain ⟨S41, L2, le41, ⟨rw30, rfl, hl30⟩, I131⟩ := Inv.ofOpen I130
  have I132 : Inv w71 S40 (am_ g1 113 #[(Value.slice z2 m2 k2)] :: fe_ (α := Bool) 114 4 (Value.slice z2 m2 k2) (rw30) (s8) :: Dfr D1 :: ph_ (Ds5) :: Fr) := I131
  have I133 := Inv.consD ((I132.pull 3).pull 3)
  have h := uv_ h
  refine my_ (ab_ (aa_ (wm_ rfl e65 (wo_ (eu_ (v := v0) rfl rfl (h0_.mono (le37.trans le40)) (wo_ (fa_ fa70_0 ((h0_.mono (le37.trans le40)).at_ I133) rfl (wo_ (fa_ co_ (((h0_.mono (le37.trans le40)).at_ I133).fld Hints_room.fld0) rfl (wo_ (ld_ mh_ ((((h0_.mono (le37.trans le40)).at_ I133).fld Hints_room.fld0).fld Riddle.fld0) rfl (fun u32 hu23 => ?_))))))))))))
  obtain ⟨z21, m21, k21, rfl⟩ := ac_ hu23
  refine wo_ (az_ rfl Tryz.underlying22 rfl hu23 ?_)
  obtain ⟨x64, hx62, h⟩ := bnd h
  obtain ⟨hm3, hm4⟩ := mk?_raw hx62
  refine wo_ (gn_ (α := Raw) (c := (a0.Riddle.Locks.length : Int)) rfl Tryz.underlying55 el23r (by decide) rfl rfl I133 hm3 (fun u33 w72 I134 => ?_))
  have I135 := Inv.gridNew (α := (List Int)) (Ti := 28) I134
  rw [← hm4] at I135
  obtain ⟨z22, m22, k22, e192⟩ := bc_ (Inv.gridOut I135)
  subst e192
  refine wa_ (v := (.slice z22 m22 k22)) rfl rfl (ad_ (ab_ (ab_ (aa_ (wm_ rfl e65 (wo_ (eu_ (v := v0) rfl rfl (h0_.mono (le37.trans le40)) (wo_ (fa_ wu_ ((h0_.mono (le37.trans le40)).at_ I135) rfl (wo_ (ld_ sh55 (((h0_.mono (le37.trans le40)).at_ I135).fld Hints_room.fld1) rfl (fun u34 hu24 => ?_))))))))))))
  obtain ⟨z23, m23, k23, rfl⟩ := ac_ hu24
  refine wo_ (az_ rfl Tryz.underlying55 rfl hu24 (wm_ (v := (vi 0)) rfl rfl (ad_ ?_)))
  have hk9 : a0.allowed.length ≤ 9223372036854775807 := (cx_ hu2)
  obtain ⟨out9, hrun10, h⟩ := bnd h
  refine bp_ (fun f w => ∃ (Ds35 : List Nat) (rw49 : List Raw), Inv w S40 (ph_ (Ds35) :: am_ g1 113 #[(.slice z2 m2 k2)] :: fe_ (α := Bool) 114 4 (.slice z2 m2 k2) (rw30) (s8) :: fe_ (α := (List Int)) 23 28 (.slice z22 m22 k22) (rw49) (out9) :: Fr) ∧ f 3 = (pt_ g1) ∧ f 9 = (.slice z22 m22 k22) ∧ f 65 = (.slice z23 m23 k23) ∧ f 66 = (vi ((a0.allowed.length : Int))) ∧ f.ds = mkDs Ds35 ∧ rw49.length = (out9).length) ?_ ?_
  ·
   refine au_ ?_
   refine da_ (I := fun (i9 : Nat) (s12 : (List (List (List Int)))) (f : Frm) (w : World) => ∃ (Ds34 : List Nat) (rw48 : List Raw), Inv w S40 (ph_ (Ds34) :: am_ g1 113 #[(.slice z2 m2 k2)] :: fe_ (α := Bool) 114 4 (.slice z2 m2 k2) (rw30) (s8) :: fe_ (α := (List Int)) 23 28 (.slice z22 m22 k22) (rw48) (s12) :: Fr) ∧ f 3 = (pt_ g1) ∧ f 9 = (.slice z22 m22 k22) ∧ f 65 = (.slice z23 m23 k23) ∧ f 66 = (vi ((a0.allowed.length : Int))) ∧ f 67 = (vi (i9 : Int)) ∧ f.ds = mkDs Ds34 ∧ rw48.length = (s12).length) hrun10 ⟨_, _, (((I135.pull 3).pull 3).pull 3), e66, rfl, rfl, rfl, rfl, (qg_ ed10), (grid_new hm4)⟩ ?_ ?_
   ·
    rintro i9 s12 f w o12 hlt9 hI50 h19
    obtain ⟨Ds34, rw48, I217, e407, e408, e409, e410, e411, ed59, hl48⟩ := hI50
    refine ab_ (aa_ (wo_ (be_ rfl e411 e410 (ad_ (ab_ (ah_ rfl (eo_ hlt9) (ar_ (ab_ (au_ (ab_ (aa_ (wm_ rfl e411 ?_))))))))))))
    obtain ⟨x140, hx138, h19⟩ := bnd h19
    refine wo_ (ix_ Tryz.underlying55 lq_ hu24 hx138 e409 e411 (wo_ (ld_ lq_ (hu24.elem I217.in_ hx138) rfl (fun u98 hu64 => ?_))))
    obtain ⟨z63, m63, k63, rfl⟩ := ac_ hu64
    refine wa_ (v := (vi (i9 : Int))) rfl rfl (wa_ (v := (.slice z63 m63 k63)) rfl rfl (ad_ (ab_ (aa_ (wm_ (v := (.slice z63 m63 k63)) rfl rfl (wo_ (az_ rfl Tryz.underlying23 rfl hu64 (wm_ (v := (vi 0)) rfl rfl (ad_ ?_)))))))))
    have hk10 : x140.length ≤ 9223372036854775807 := (cx_ hu64)
    obtain ⟨out10, hrun11, h19⟩ := bnd h19
    refine bp_ (fun f w => ∃ (Ds40 : List Nat) (rw53 : List Raw), Inv w S40 (ph_ (Ds40) :: am_ g1 113 #[(.slice z2 m2 k2)] :: fe_ (α := Bool) 114 4 (.slice z2 m2 k2) (rw30) (s8) :: fe_ (α := (List Int)) 23 28 (.slice z22 m22 k22) (rw53) (out10) :: Fr) ∧ f 3 = (pt_ g1) ∧ f 9 = (.slice z22 m22 k22) ∧ f 10 = (vi (i9 : Int)) ∧ f 65 = (.slice z23 m23 k23) ∧ f 66 = (vi ((a0.allowed.length : Int))) ∧ f 67 = (vi (i9 : Int)) ∧ f 72 = (.slice z63 m63 k63) ∧ f 73 = (vi ((x140.length : Int))) ∧ f.ds = mkDs Ds40 ∧ rw53.length = (out10).length) ?_ ?_
    ·
     refine au_ ?_
     refine da_ (I := fun (i10 : Nat) (s13 : (List (List (List Int)))) (f : Frm) (w : World) => ∃ (Ds39 : List Nat) (rw52 : List Raw), Inv w S40 (ph_ (Ds39) :: am_ g1 113 #[(.slice z2 m2 k2)] :: fe_ (α := Bool) 114 4 (.slice z2 m2 k2) (rw30) (s8) :: fe_ (α := (List Int)) 23 28 (.slice z22 m22 k22) (rw52) (s13) :: Fr) ∧ f 3 = (pt_ g1) ∧ f 9 = (.slice z22 m22 k22) ∧ f 10 = (vi (i9 : Int)) ∧ f 65 = (.slice z23 m23 k23) ∧ f 66 = (vi ((a0.allowed.length : Int))) ∧ f 67 = (vi (i9 : Int)) ∧ f 72 = (.slice z63 m63 k63) ∧ f 73 = (vi ((x140.length : Int))) ∧ f 74 = (vi (i10 : Int)) ∧ f.ds = mkDs Ds39 ∧ rw52.length = (s13).length) hrun11 ⟨_, _, ((((I217.pull 3).pull 3).pull 3).pull 3), e407, e408, rfl, e409, e410, e411, rfl, rfl, rfl, ed59, hl48⟩ ?_ ?_
     ·
      rintro i10 s13 f w o13 hlt10 hI51 h21
      obtain ⟨Ds39, rw52, I236, e449, e450, e451, e452, e453, e454, e455, e456, e457, ed63, hl52⟩ := hI51
      refine ab_ (aa_ (wo_ (be_ rfl e457 e456 (ad_ (ab_ (ah_ rfl (eo_ hlt10) (ar_ (ab_ (au_ (ab_ (aa_ (wm_ rfl e457 ?_))))))))))))
      obtain ⟨x159, hx157, h21⟩ := bnd h21
      refine wo_ (ix_ Tryz.underlying23 fn_ hu64 hx157 e455 e457 (wo_ (ld_ fn_ (hu64.elem I236.in_ hx157) rfl (fun u114 hu74 => ?_))))
      obtain ⟨z73, m73, k73, rfl⟩ := ac_ hu74
      refine wa_ (v := (vi (i10 : Int))) rfl rfl (wa_ (v := (.slice z73 m73 k73)) rfl rfl (ad_ (ab_ (aa_ (wo_ (bd_ (c := (.slice z2 m2 k2)) rfl sh113 (I236.nth 1 rfl) e449 rfl (wm_ rfl e451 ?_)))))))
      obtain ⟨x160, hx158, h21⟩ := bnd h21
      obtain ⟨rr66, hr67⟩ := nn_ hl30 hx158
      refine wo_ (fh_ (v := (.slice z2 m2 k2)) (i := (i9 : Int)) (r := rr66) rfl Tryz.underlying113 sh114 (I236.nth 2 rfl) rfl rfl hr67 (wo_ (ld_ sh114 (Inv.gridRowAt (I236.nth 2 rfl) hr67) rfl (fun u115 hu75 => ?_))))
      obtain rfl := su_ hu75
      refine wm_ (v := (vi (i10 : Int))) rfl rfl ?_
      obtain ⟨x161, hx159, h21⟩ := bnd h21
      refine wo_ (sy_ (k := (i10 : Int)) (e := x161) (df_ hr67).2.2 (df_ hx158).2.2 rfl Tryz.underlying114 sh4 (I236.nth 2 rfl) rfl rfl hx159 ?_)
      refine wo_ (lb_ sh4 (Inv.gridElem (I236.nth 2 rfl) (df_ hr67).2.2 (df_ hx158).2.2 hx159) rfl ?_)
      refine ad_ ?_
      rcases ifs h21 with ⟨hc16, h21⟩ | ⟨hc16, h21⟩
      ·
       refine ah_ rfl hc16 (aa_ (wm_ rfl e450 (wm_ rfl e451 (wm_ rfl e450 (wm_ rfl e451 ?_)))))
       obtain ⟨x162, hx160, h21⟩ := bnd h21
       obtain ⟨rr67, hr68⟩ := nn_ hl52 hx160
       refine wo_ (fh_ (v := (.slice z22 m22 k22)) (i := (i9 : Int)) (r := rr67) rfl Tryz.underlying55 lq_ (I236.nth 3 rfl) rfl rfl hr68 (wo_ (ld_ lq_ (Inv.gridRowAt (I236.nth 3 rfl) hr68) rfl (fun u116 hu76 => ?_))))
       obtain rfl := su_ hu76
       refine wm_ (v := (.slice z73 m73 k73)) rfl rfl (wo_ (bf_ (vs := [(.slice z73 m73 k73)]) (r := ([x159] : List (List Int))) rfl Tryz.underlying23 zh_ (fc_ rfl) rfl (by decide) (by decide) ⟨hu74, trivial⟩ I236 (fun u117 w118 I237 => ?_)))
       obtain ⟨z74, m74, k74, e459⟩ := bc_ I237
       subst e459
       have I238 := Inv.gridTake (I237.pull 4) hr68 hx160
       obtain ⟨x163, hx161, h21⟩ := bnd h21
       refine wo_ (bt_ (α := (List Int)) (v := (rr67.v)) (u := (.slice z74 m74 k74)) rfl rfl Tryz.underlying23 zh_ (by decide) (by decide) rfl rfl I238 (Inv.rowSrc (I238.nth 3 rfl)) hx161 (fun u118 w119 I239 => ?_))
       obtain ⟨z75, m75, k75, e460⟩ := bc_ I239
       subst e460
       obtain ⟨x164, hx162, h21⟩ := bnd h21
       obtain ⟨rr68, hr69⟩ := nn_ hl52 hx162
       refine wo_ (ba_ (α := Raw) (v := (.slice z22 m22 k22)) (i := (i9 : Int)) (e := rr68) rfl Tryz.underlying55 lq_ rfl (Inv.rowSrc (I239.nth 1 rfl)) rfl hr69 (wo_ (dh_ (α := Raw) (u := (.slice z75 m75 k75)) (e' := (⟨(.slice z75 m75 k75)⟩ : Raw)) lq_ (I239.pull 1) rfl rfl hr69 (nj_ rfl) (fun w120 I240 => ?_))))
       have I241 := Inv.gridGive hr69 hx162 (((I240.pull 2).pull 1).pull 2)
       refine ad_ (aa_ (wo_ (bl_ rfl e457 rfl (wm_ (v := (vi (w64 ((i10 : Int) + 1)))) rfl rfl (ad_ ?_)))))
       obtain rfl := sj h21
       exact ⟨_, _, ((((I241.pull 1).drop.pull 3).pull 3).pull 3), e449, e450, e451, e452, e453, e454, e455, e456, (bh_ hlt10 hk10), ed63, (tw_ hl52)⟩
      refine ai_ rfl hc16 (ar_ (aa_ (wo_ (bl_ rfl e457 rfl (wm_ (v := (vi (w64 ((i10 : Int) + 1)))) rfl rfl (ad_ ?_))))))
      obtain rfl := sj h21
      exact ⟨_, _, ((((I236.pull 3).pull 3).pull 3).pull 3), e449, e450, e451, e452, e453, e454, e455, e456, (bh_ hlt10 hk10), ed63, hl52⟩
     rintro f w hI52
     obtain ⟨Ds41, rw54, I242, e461, e462, e463, e464, e465, e466, e467, e468, e469, ed64, hl54⟩ := hI52
     refine ab_ (aa_ (wo_ (be_ rfl e469 e468 (ad_ (ab_ (ai_ rfl (ep_ _) (bk_ ?_)))))))
     exact ⟨_, _, ((((I242.pull 3).pull 3).pull 3).pull 3), e461, e462, e463, e464, e465, e466, e467, e468, ed64, hl54⟩
    rintro f w ⟨Ds40, rw53, I243, e470, e471, e472, e473, e474, e475, e476, e477, ed65, hl53⟩
    refine aa_ (wo_ (bl_ rfl e475 rfl (wm_ (v := (vi (w64 ((i9 : Int) + 1)))) rfl rfl (ad_ ?_))))
    obtain rfl := sj h19
    exact ⟨_, _, ((((I243.pull 3).pull 3).pull 3).pull 3), e470, e471, e473, e474, (bh_ hlt9 hk9), ed65, hl53⟩
   rintro f w hI53
   obtain ⟨Ds42, rw55, I244, e478, e479, e480, e481, e482, ed66, hl55⟩ := hI53
   refine ab_ (aa_ (wo_ (be_ rfl e482 e481 (ad_ (ab_ (ai_ rfl (ep_ _) (bk_ ?_)))))))
   exact ⟨_, _, ((((I244.pull 3).pull 3).pull 3).pull 3), e478, e479, e480, e481, ed66, hl55⟩
  rintro f w ⟨Ds35, rw49, I245, e483, e484, e485, e486, ed67, hl49⟩
  refine ab_ (aa_ (wm_ rfl e484 (wa_ (v := (.slice z22 m22 k22)) rfl rfl (ad_ (ak_ ?_)))))
  obtain ⟨S42, le42, I246, r1⟩ := Inv.gridFreeze (I245.pull 3) hl49
  refine xa_ ed67 I246 (fun w121 I247 => ?_)
  obtain rfl := sj h
  exact ⟨(.slice z22 m22 k22), (bo_ rfl rfl), _, [], ((le37.trans le40).trans le42), ((I247).drop).drop, _, _, _, rfl, rfl, r1⟩
 cases q30
theorem he_ {w : World} {S : PH} {Fr : List HP} {a0 : Hints_room} {v0 : Value} {r : (List Int)} (hI : Inv w S (Fr)) (h0_ : PtS S v0 a0) (h : dj_ a0 = some r) :
    Calls Tryz.prog 42 [v0].toArray w (lp_ S Fr (fun T_ v_ O_ => ∃ (a0_ : Option Addr) (n0_ k0_ : Nat), v_ = (Value.slice a0_ n0_ k0_) ∧ O_ = [Row (α := Int) 3 (Value.slice a0_ n0_ k0_) (r)])) := by
 unfold dj_ at h
 refine ao_ (n := 19) Tryz.func42 rfl rfl rfl (ab_ (aa_ (wa_ (v := sn) rfl rfl (ad_ (ab_ (ab_ (aa_ (wm_ (v := v0) rfl rfl ?_))))))))
 obtain ⟨x1, hx1, h⟩ := bnd h
 refine wo_ (cl_ ca67 rfl (nx_ hI h0_ hx1) (em_ rfl) (fun cv1 w1 S1 O1 le1 I1 hv1 => ?_))
 obtain ⟨z1, m1, k1, rfl, rfl, r1⟩ := hv1
 refine wo_ (az_ rfl Tryz.underlying55 rfl r1 (wm_ (v := (vi 0)) rfl rfl (ad_ ?_)))
 have hk1 : x1.length ≤ 9223372036854775807 := (cx_ r1)
 have I12 := Inv.rowNil (α := Int) (T := 3) I1
 obtain ⟨out1, hrun1, h⟩ := bnd h
 refine bp_ (fun f w => ∃ (z14 : Option Addr) (m14 k14 : Nat), Inv w S1 (Row (α := Int) 3 (.slice z14 m14 k14) (out1) :: Fr) ∧ f 2 = (.slice z14 m14 k14) ∧ f 6 = (.slice z1 m1 k1) ∧ f 7 = (vi ((x1.length : Int))) ∧ f.ds = []) ?_ ?_
 ·
  refine au_ ?_
  refine da_ (I := fun (i1 : Nat) (s1 : (List Int)) (f : Frm) (w : World) => ∃ (z13 : Option Addr) (m13 k13 : Nat), Inv w S1 (Row (α := Int) 3 (.slice z13 m13 k13) (s1) :: Fr) ∧ f 2 = (.slice z13 m13 k13) ∧ f 6 = (.slice z1 m1 k1) ∧ f 7 = (vi ((x1.length : Int))) ∧ f 8 = (vi (i1 : Int)) ∧ f.ds = []) hrun1 ⟨_, _, _, I12, rfl, rfl, rfl, rfl, rfl⟩ ?_ ?_
  ·
   rintro i1 s1 f w o1 hlt1 hI1 h1
   obtain ⟨z13, m13, k13, I13, e22, e23, e24, e25, ed4⟩ := hI1
   refine ab_ (aa_ (wo_ (be_ rfl e25 e24 (ad_ (ab_ (ah_ rfl (eo_ hlt1) (ar_ (ab_ (au_ (ab_ (aa_ ?_)))))))))))
   obtain ⟨x8, hx8, h1⟩ := bnd h1
   refine wo_ (ix_ Tryz.underlying55 lq_ r1 hx8 e23 e25 (wo_ (ld_ lq_ (r1.elem I13.in_ hx8) rfl (fun u10 hu4 => ?_))))
   obtain ⟨z15, m15, k15, rfl⟩ := ac_ hu4
   refine wa_ (v := (.slice z15 m15 k15)) rfl rfl (ad_ (aa_ (wm_ rfl e22 (wm_ (v := (.slice z15 m15 k15)) rfl rfl (wo_ (az_ rfl Tryz.underlying23 rfl hu4 (wo_ (bf_ (vs := [(vi ((x8.length : Int)))]) (r := ([(x8.length : Int)] : List Int)) rfl Tryz.underlying28 el3 (fc_ rfl) rfl (by decide) (by decide) ⟨(dv_ _), trivial⟩ I13 (fun u11 w8 I14 => ?_)))))))))
   obtain ⟨z16, m16, k16, e27⟩ := bc_ I14
   subst e27
   obtain ⟨x9, hx9, h1⟩ := bnd h1
   refine wo_ (bt_ (α := Int) (v := (.slice z13 m13 k13)) (u := (.slice z16 m16 k16)) rfl rfl Tryz.underlying28 el3 (by decide) (by decide) rfl rfl (I14.pull 1) (Inv.rowSrc (I14.nth 0 rfl)) hx9 (fun u12 w9 I15 => ?_))
   obtain ⟨z17, m17, k17, e28⟩ := bc_ I15
   subst e28
   refine wa_ (v := (.slice z17 m17 k17)) rfl rfl (ad_ (aa_ (wo_ (bl_ rfl e25 rfl (wm_ (v := (vi (w64 ((i1 : Int) + 1)))) rfl rfl (ad_ ?_))))))
   obtain rfl := sj h1
   exact ⟨_, _, _, (I15.pull 1).drop, rfl, e23, e24, (bh_ hlt1 hk1), ed4⟩
  rintro f w hI2
  obtain ⟨z18, m18, k18, I16, e29, e30, e31, e32, ed5⟩ := hI2
  refine ab_ (aa_ (wo_ (be_ rfl e32 e31 (ad_ (ab_ (ai_ rfl (ep_ _) (bk_ ?_)))))))
  exact ⟨_, _, _, I16, e29, e30, e31, ed5⟩
 rintro f w ⟨z14, m14, k14, I17, e33, e34, e35, ed6⟩
 refine ab_ (aa_ (wm_ rfl e33 (wa_ (v := (.slice z14 m14 k14)) rfl rfl (ad_ (ak_ ?_)))))
 obtain rfl := sj h
 exact ⟨ed6, (.slice z14 m14 k14), (bo_ rfl rfl), _, [Row (α := Int) 3 (.slice z14 m14 k14) (out1)], le1, I17, _, _, _, rfl, rfl⟩
theorem la_ {w : World} {S : PH} {Fr : List HP} {a0 : Hints_room} {v0 : Value} {a1 : Hints_room} {v1 : Value} {r : (List Int)} (hI : Inv w S (Fr)) (h0_ : PtS S v0 a0) (h1_ : PtS S v1 a1) (h : er_ a0 a1 = some r) :
    Calls Tryz.prog 45 [v0, v1].toArray w (lp_ S Fr (fun T_ v_ O_ => ∃ (a0_ : Option Addr) (n0_ k0_ : Nat), v_ = (Value.slice a0_ n0_ k0_) ∧ O_ = [Row (α := Int) 3 (Value.slice a0_ n0_ k0_) (r)])) := by
 unfold er_ at h
 refine ao_ (n := 30) Tryz.func45 rfl rfl rfl (ab_ (aa_ (wa_ (v := sn) rfl rfl (ad_ (ab_ (aa_ (wm_ (v := v1) rfl rfl ?_)))))))
 obtain ⟨x1, hx1, h⟩ := bnd h
 refine wo_ (cl_ ca42 rfl (he_ hI h1_ hx1) (em_ rfl) (fun cv1 w1 S1 O1 le1 I1 hv1 => ?_))
 obtain ⟨z1, m1, k1, rfl, rfl⟩ := hv1
 refine wa_ (v := (.slice z1 m1 k1)) rfl rfl (ad_ (ab_ (ab_ (aa_ (wm_ (v := v0) rfl rfl ?_)))))
 obtain ⟨x2, hx2, h⟩ := bnd h
 refine wo_ (cl_ ca42 rfl (he_ I1 (h0_.mono le1) hx2) (em_ rfl) (fun cv2 w2 S2 O2 le2 I2 hv2 => ?_))
 obtain ⟨z2, m2, k2, rfl, rfl⟩ := hv2
 refine wo_ (di_ (α := Int) rfl Tryz.underlying28 rfl (I2.nth 0 rfl) (wm_ (v := (vi 0)) rfl rfl (ad_ ?_)))
 have hk1 : x2.length ≤ 9223372036854775807 := (uc_ (I2.nth 0 rfl))
 have I13 := Inv.rowNil (α := Int) (T := 3) I2
 obtain ⟨out1, hrun1, h⟩ := bnd h
 refine bp_ (fun f w => ∃ (z12 : Option Addr) (m12 k12 : Nat), Inv w S2 (Row (α := Int) 3 (.slice z12 m12 k12) (out1) :: Row (α := Int) 3 (.slice z1 m1 k1) (x1) :: Row (α := Int) 3 (.slice z2 m2 k2) (x2) :: Fr) ∧ f 4 = (.slice z12 m12 k12) ∧ f 5 = (.slice z1 m1 k1) ∧ f 11 = (.slice z2 m2 k2) ∧ f 12 = (vi ((x2.length : Int))) ∧ f.ds = []) ?_ ?_
 ·
  refine au_ ?_
  refine da_ (I := fun (i1 : Nat) (s1 : (List Int)) (f : Frm) (w : World) => ∃ (z11 : Option Addr) (m11 k11 : Nat), Inv w S2 (Row (α := Int) 3 (.slice z11 m11 k11) (s1) :: Row (α := Int) 3 (.slice z1 m1 k1) (x1) :: Row (α := Int) 3 (.slice z2 m2 k2) (x2) :: Fr) ∧ f 4 = (.slice z11 m11 k11) ∧ f 5 = (.slice z1 m1 k1) ∧ f 11 = (.slice z2 m2 k2) ∧ f 12 = (vi ((x2.length : Int))) ∧ f 13 = (vi (i1 : Int)) ∧ f.ds = []) hrun1 ⟨_, _, _, (((I13.pull 1).pull 2).pull 2), rfl, rfl, rfl, rfl, rfl, rfl⟩ ?_ ?_
  ·
   rintro i1 s1 f w o1 hlt1 hI1 h1
   obtain ⟨z11, m11, k11, I14, e22, e23, e24, e25, e26, ed4⟩ := hI1
   refine ab_ (aa_ (wo_ (be_ rfl e26 e25 (ad_ (ab_ (ah_ rfl (eo_ hlt1) (ar_ (ab_ (au_ (ab_ (aa_ (wm_ rfl e26 ?_))))))))))))
   obtain ⟨x12, hx12, h1⟩ := bnd h1
   refine wo_ (ba_ (v := (.slice z2 m2 k2)) (i := (i1 : Int)) (e := x12) rfl Tryz.underlying28 sh3 e24 (Inv.rowSrc (I14.nth 2 rfl)) e26 hx12 (wo_ (li_ sh3 ((I14.nth 2 rfl).rowElem hx12) rfl (wa_ (v := (vi (i1 : Int))) rfl rfl (wa_ (v := (vi x12)) rfl rfl (ad_ (ab_ (aa_ (wm_ rfl e23 (wm_ (v := (vi (i1 : Int))) rfl rfl ?_))))))))))
   obtain ⟨x13, hx13, h1⟩ := bnd h1
   refine wo_ (ba_ (v := (.slice z1 m1 k1)) (i := (i1 : Int)) (e := x13) rfl Tryz.underlying28 sh3 rfl (Inv.rowSrc (I14.nth 1 rfl)) rfl hx13 (wo_ (li_ sh3 ((I14.nth 1 rfl).rowElem hx13) rfl (wm_ (v := (vi x12)) rfl rfl (wo_ (be_ rfl rfl rfl (ad_ ?_)))))))
   rcases ifs h1 with ⟨hc4, h1⟩ | ⟨hc4, h1⟩
   ·
    refine ah_ rfl hc4 (aa_ (wm_ rfl e22 (wm_ (v := (vi (i1 : Int))) rfl rfl (wo_ (bf_ (vs := [(vi (i1 : Int))]) (r := ([(i1 : Int)] : List Int)) rfl Tryz.underlying28 el3 (fc_ rfl) rfl (by decide) (by decide) ⟨(dv_ _), trivial⟩ I14 (fun u7 w9 I15 => ?_))))))
    obtain ⟨z13, m13, k13, e27⟩ := bc_ I15
    subst e27
    obtain ⟨x14, hx14, h1⟩ := bnd h1
    refine wo_ (bt_ (α := Int) (v := (.slice z11 m11 k11)) (u := (.slice z13 m13 k13)) rfl rfl Tryz.underlying28 el3 (by decide) (by decide) rfl rfl (I15.pull 1) (Inv.rowSrc (I15.nth 0 rfl)) hx14 (fun u8 w10 I16 => ?_))
    obtain ⟨z14, m14, k14, e28⟩ := bc_ I16
    subst e28
    refine wa_ (v := (.slice z14 m14 k14)) rfl rfl (ad_ (aa_ (wo_ (bl_ rfl e26 rfl (wm_ (v := (vi (w64 ((i1 : Int) + 1)))) rfl rfl (ad_ ?_))))))
    obtain rfl := sj h1
    exact ⟨_, _, _, ((((I16.pull 1).drop.pull 2).pull 2).pull 2), rfl, e23, e24, e25, (bh_ hlt1 hk1), ed4⟩
   refine ai_ rfl hc4 (ar_ (aa_ (wo_ (bl_ rfl e26 rfl (wm_ (v := (vi (w64 ((i1 : Int) + 1)))) rfl rfl (ad_ ?_))))))
   obtain rfl := sj h1
   exact ⟨_, _, _, (((I14.pull 2).pull 2).pull 2), e22, e23, e24, e25, (bh_ hlt1 hk1), ed4⟩
  rintro f w hI2
  obtain ⟨z15, m15, k15, I17, e29, e30, e31, e32, e33, ed5⟩ := hI2
  refine ab_ (aa_ (wo_ (be_ rfl e33 e32 (ad_ (ab_ (ai_ rfl (ep_ _) (bk_ ?_)))))))
  exact ⟨_, _, _, (((I17.pull 2).pull 2).pull 2), e29, e30, e31, e32, ed5⟩
 rintro f w ⟨z12, m12, k12, I18, e34, e35, e36, e37, ed6⟩
 refine ab_ (aa_ (wm_ rfl e34 (wa_ (v := (.slice z12 m12 k12)) rfl rfl (ad_ (ak_ ?_)))))
 obtain rfl := sj h
 exact ⟨ed6, (.slice z12 m12 k12), (bo_ rfl rfl), _, [Row (α := Int) 3 (.slice z12 m12 k12) (out1)], (le1.trans le2), ((I18.pull 1).drop.pull 1).drop, _, _, _, rfl, rfl⟩
theorem sn_ {w : World} {S : PH} {Fr : List HP} {a0 : Int} {a1 : Aid} {v1 : Value} {r : Bool} (hI : Inv w S (Fr)) (h1_ : PtS S v1 a1) (h : jp_ a0 a1 = some r) :
    Calls Tryz.prog 46 [(Value.int .i64 (a0)), v1].toArray w (bw_ S Fr (Value.bool (r))) := by
 unfold jp_ at h
 refine ao_ (n := 8) Tryz.func46 rfl rfl rfl (ab_ (aa_ (wa_ (v := (vb false)) rfl rfl (ad_ (ab_ (aa_ (wm_ (v := (vi a0)) rfl rfl (wo_ (fa_ fq_ (h1_.at_ hI) rfl (wo_ (li_ sh3 ((h1_.at_ hI).fld Aid.fld0) rfl (wo_ (bm_ rfl rfl rfl (wa_ (v := (vb (a0 == a1.Lock))) rfl rfl (ad_ (ak_ ?_))))))))))))))))
 obtain rfl := sj h
 exact ⟨rfl, (vb (a0 == a1.Lock)), (bo_ rfl rfl), _, [], lr, hI, rfl, rfl⟩
theorem mr_ {w : World} {S : PH} {Fr : List HP} {a0 : (List Int)} {z0_ : Option Addr} {m0_ : Nat} {k0_ : Nat} {a1 : Int → Option Bool} {v1 : Value} {r : (List Int)} (hI : Inv w S (Row (α := Int) 3 (Value.slice z0_ m0_ k0_) (a0) :: Fr)) (h1_ : FnV Tryz.prog S v1 a1) (h : dn_ a0 a1 = some r) :
    Calls Tryz.prog 44 [(Value.slice z0_ m0_ k0_), v1].toArray w (lp_ S Fr (fun T_ v_ O_ => ∃ (a0_ : Option Addr) (n0_ k0_ : Nat), v_ = (Value.slice a0_ n0_ k0_) ∧ O_ = [Row (α := Int) 3 (Value.slice a0_ n0_ k0_) (r)])) := by
 unfold dn_ at h
 refine ao_ (n := 42) Tryz.func44 rfl rfl rfl (ab_ (aa_ (wa_ (v := sn) rfl rfl (ad_ (ab_ (aa_ (wm_ (v := (.slice z0_ m0_ k0_)) rfl rfl (wm_ (v := v1) rfl rfl ?_))))))))
 obtain ⟨x1, hx1, h⟩ := bnd h
 obtain ⟨S1, Fr1, le1, I1, r1, bk1⟩ := Inv.lend1 hI
 refine wo_ (cl_ ca82 rfl (il_ I1 r1 (h1_.mono le1) hx1) (br_ rfl rfl) (fun cv1 w1 S2 O1 le2 I3 hv1 => ?_))
 obtain ⟨rfl, rfl⟩ := hv1
 have I2 := bk1 [] trivial I3 le2
 refine wa_ (v := (vi x1)) rfl rfl (ad_ (ab_ (ab_ (aa_ (wm_ (v := (vi x1)) rfl rfl (wo_ (bm_ rfl rfl rfl (ad_ ?_))))))))
 rcases ifs h with ⟨hc1, h⟩ | ⟨hc1, h⟩
 ·
  refine ah_ rfl hc1 (ab_ (aa_ (wm_ (v := (.slice z0_ m0_ k0_)) rfl rfl (wa_ (v := (.slice z0_ m0_ k0_)) rfl rfl (ad_ (ak_ ?_))))))
  obtain rfl := sj h
  exact ⟨rfl, (.slice z0_ m0_ k0_), (bo_ rfl rfl), _, [Row (α := Int) 3 (.slice z0_ m0_ k0_) (a0)], lr, I2, _, _, _, rfl, rfl⟩
 refine ai_ rfl hc1 (ar_ (ab_ (ab_ (aa_ (wm_ (v := (vi x1)) rfl rfl (wo_ (bl_ rfl rfl rfl (wa_ (v := (vi (w64 (x1 + 1)))) rfl rfl (ad_ ?_)))))))))
 obtain ⟨out1, hrun1, h⟩ := bnd h
 refine bp_ (fun f w => Inv w S (Row (α := Int) 3 (.slice z0_ m0_ k0_) (out1.1) :: Fr) ∧ f 0 = (.slice z0_ m0_ k0_) ∧ f 1 = v1 ∧ f 5 = (vi out1.2.1) ∧ f 6 = (vi out1.2.2) ∧ f.ds = []) ?_ ?_
 ·
  refine au_ ?_
  refine kr_ (I := fun (s1 : (List Int × Int × Int)) (f : Frm) (w : World) => Inv w S (Row (α := Int) 3 (.slice z0_ m0_ k0_) (s1.1) :: Fr) ∧ f 0 = (.slice z0_ m0_ k0_) ∧ f 1 = v1 ∧ f 5 = (vi s1.2.1) ∧ f 6 = (vi s1.2.2) ∧ f.ds = []) hrun1 ⟨I2, rfl, rfl, rfl, rfl, rfl⟩ ?_
  rintro s1 f w o1 hI1 h1 hout1
  obtain ⟨I22, e25, e26, e27, e28, ed7⟩ := hI1
  refine ab_ (ab_ (aa_ (wm_ rfl e28 (wm_ rfl e25 (wo_ (di_ (α := Int) rfl Tryz.underlying28 rfl (I22.nth 0 rfl) (wo_ (be_ rfl rfl rfl (ad_ ?_)))))))))
  rcases ifs h1 with ⟨hc14, h1⟩ | ⟨hc14, h1⟩
  ·
   refine ah_ rfl hc14 (ar_ (ab_ (au_ (ab_ (aa_ (wm_ rfl e25 (wm_ rfl e28 ?_)))))))
   obtain ⟨x20, hx20, h1⟩ := bnd h1
   refine wo_ (ba_ (v := (.slice z0_ m0_ k0_)) (i := s1.2.2) (e := x20) rfl Tryz.underlying28 sh3 rfl (Inv.rowSrc (I22.nth 0 rfl)) rfl hx20 (wo_ (li_ sh3 ((I22.nth 0 rfl).rowElem hx20) rfl (wa_ (v := (vi x20)) rfl rfl (ad_ (ab_ (aa_ (wm_ rfl e26 (wm_ (v := (vi x20)) rfl rfl ?_)))))))))
   obtain ⟨x21, hx21, h1⟩ := bnd h1
   refine wo_ (kn_ (v := v1) (u := (vi x20)) (r := x21) rfl rfl h1_ rfl (dv_ _) hx21 I22 (fun w14 I23 => (wo_ (bx_ rfl rfl (ad_ ?_)))))
   rcases ifs h1 with ⟨hc15, h1⟩ | ⟨hc15, h1⟩
   ·
    refine ah_ rfl hc15 (ab_ (aa_ (wm_ rfl e25 (wm_ rfl e27 (wm_ (v := (vi x20)) rfl rfl ?_)))))
    obtain ⟨x22, hx22, h1⟩ := bnd h1
    refine wo_ (ba_ (v := (.slice z0_ m0_ k0_)) (i := s1.2.1) (e := x22) rfl Tryz.underlying28 sh3 rfl (Inv.rowSrc (I23.nth 0 rfl)) rfl hx22 (wo_ (dh_ (u := (vi x20)) (e' := x20) sh3 I23 rfl rfl hx22 (dv_ _) (fun w15 I24 => (ad_ (aa_ (wm_ rfl e27 (wo_ (bl_ rfl rfl rfl (wa_ (v := (vi (w64 (s1.2.1 + 1)))) rfl rfl (ad_ (aa_ (wm_ rfl e28 (wo_ (bl_ rfl rfl rfl (wa_ (v := (vi (w64 (s1.2.2 + 1)))) rfl rfl (ad_ ?_)))))))))))))))))
    obtain rfl := sj h1
    exact ⟨_, rfl, I24, e25, e26, rfl, rfl, ed7⟩
   refine ai_ rfl hc15 (ar_ (aa_ (wm_ rfl e28 (wo_ (bl_ rfl rfl rfl (wa_ (v := (vi (w64 (s1.2.2 + 1)))) rfl rfl (ad_ ?_)))))))
   obtain rfl := sj h1
   exact ⟨_, rfl, I23, e25, e26, e27, rfl, ed7⟩
  refine ai_ rfl hc14 (bk_ ?_)
  obtain rfl := sj h1
  obtain rfl := (hout1 _ rfl)
  exact ⟨I22, e25, e26, e27, e28, ed7⟩
 rintro f w ⟨I25, e29, e30, e31, e32, ed8⟩
 refine ab_ (aa_ (wm_ rfl e29 (wm_ rfl e31 ?_)))
 obtain ⟨x23, hx23, h⟩ := bnd h
 refine wo_ (zw_ (v := (.slice z0_ m0_ k0_)) (lo := out1.2.1) rfl Tryz.underlying28 sh3 rfl I25 rfl hx23 (fun u1 hu1 => (wo_ (op_clear (u := u1) (b := (out1.2.1).toNat) rfl Tryz.underlying28 el3 rfl I25 (sub_le hx23) hu1 (fun w16 I26 => (ad_ (ab_ (aa_ (wm_ rfl e29 (wm_ rfl e31 ?_))))))))))
 obtain ⟨x24, hx24, h⟩ := bnd h
 refine wo_ (xj_ (v := (.slice z0_ m0_ k0_)) (hi := out1.2.1) rfl Tryz.underlying28 sh3 rfl I26 rfl hx24 (fun u2 I27 => ?_))
 obtain ⟨z1, m1, k1, e33⟩ := bc_ I27
 subst e33
 refine wa_ (v := (.slice z1 m1 k1)) rfl rfl (ad_ (ak_ ?_))
 obtain rfl := sj h
 exact ⟨ed8, (.slice z1 m1 k1), (bo_ rfl rfl), _, [Row (α := Int) 3 (.slice z1 m1 k1) (x24)], lr, I27, _, _, _, rfl, rfl⟩
theorem vf_ {w : World} {S : PH} {Fr : List HP} {a0 : Riddle} {v0 : Value} {a1 : Aid} {v1 : Value} {r : (List Int) × Int} (hI : Inv w S (Fr)) (h0_ : RV S v0 a0) (h1_ : RV S v1 a1) (h : gp_ a0 a1 = some r) :
    Calls Tryz.prog 16 [v0, v1].toArray w (lp_ S Fr (fun T_ v_ O_ => ∃ (a0_ : Option Addr) (n0_ k0_ : Nat), v_ = (Value.tuple #[(Value.slice a0_ n0_ k0_), (Value.int .i64 (r.2))]) ∧ O_ = [Row (α := Int) 3 (Value.slice a0_ n0_ k0_) (r.1)])) := by
 unfold gp_ at h
 obtain ⟨c1, c2, c3, c4, e1, r1, r2, r3, r4⟩ := Riddle.inv h0_
 subst e1
 obtain ⟨z1, m1, k1, rfl⟩ := ac_ r1
 obtain ⟨z2, m2, k2, rfl⟩ := ac_ r2
 obtain ⟨z3, m3, k3, rfl⟩ := ac_ r3
 obtain ⟨z4, m4, k4, rfl⟩ := ac_ r4
 obtain ⟨c5, e6, r5⟩ := Aid.inv h1_
 subst e6
 obtain ⟨z5, m5, k5, rfl⟩ := ac_ r5
 refine ao_ (n := 24) Tryz.func16 rfl rfl rfl (ab_ (aa_ (wo_ (bi_ (v := (.agg #[(.slice z1 m1 k1), (.slice z2 m2 k2), (.slice z3 m3 k3), (.slice z4 m4 k4)])) rfl hI rfl (fun g1 w1 I1 => ?_)))))
 obtain ⟨S1, le1, I2, p1⟩ := Inv.boxFreeze (x := a0) I1 (Riddle.rv (s := a0) r1 r2 r3 r4)
 refine wo_ (bi_ (v := (.agg #[(vi a1.Lock), (vi a1.Clue.Kind), (vi a1.Clue.A), (vi a1.Clue.B), (vi a1.Clue.N), (vi a1.Clue.M), (.slice z5 m5 k5), (vb a1.Clue.Not)])) rfl I2 rfl (fun g2 w2 I3 => ?_))
 obtain ⟨S2, le2, I4, p2⟩ := Inv.boxFreeze (x := a1) I3 (Aid.rv (s := a1) (r5.mono le1))
 refine wa_ (v := sn) rfl rfl (wa_ (v := (vi 0)) rfl rfl (ad_ (ab_ (aa_ (wo_ (ld_ fr_ ((p1.mono le2).at_ I4) rfl (fun u1 hu1 => ?_)))))))
 obtain ⟨c6, c7, c8, c9, e8, r6, r7, r8, r9⟩ := Riddle.inv hu1
 subst e8
 obtain ⟨z6, m6, k6, rfl⟩ := ac_ r6
 obtain ⟨z7, m7, k7, rfl⟩ := ac_ r7
 obtain ⟨z8, m8, k8, rfl⟩ := ac_ r8
 obtain ⟨z9, m9, k9, rfl⟩ := ac_ r9
 refine wo_ (ld_ ua_ (p2.at_ I4) rfl (fun u2 hu2 => ?_))
 obtain ⟨c10, e13, r10⟩ := Aid.inv hu2
 subst e13
 obtain ⟨z10, m10, k10, rfl⟩ := ac_ r10
 obtain ⟨x1, hx1, h⟩ := bnd h
 refine wo_ (cl_ ca37 rfl (om_ I4 (Riddle.rv (s := a0) r6 r7 r8 r9) (Aid.rv (s := a1) r10) hx1) (br_ rfl rfl) (fun cv1 w3 S3 O1 le3 I5 hv1 => ?_))
 obtain ⟨c11, c12, rfl, rfl, r11, r12⟩ := hv1
 refine wm_ (v := (Value.tuple #[c11, c12, (vi x1.2.2)])) rfl rfl (wo_ (bg_ (v := c11) rfl rfl rfl (wo_ (bg_ (v := c12) rfl rfl rfl (wo_ (bg_ (v := (vi x1.2.2)) rfl rfl rfl (wa_ (v := c11) rfl rfl (wa_ (v := c12) rfl rfl (wa_ (v := (vi x1.2.2)) rfl rfl (ad_ (ab_ (ab_ (aa_ (wm_ (v := (vi x1.2.2)) rfl rfl (wo_ (cd_ rfl rfl rfl (ad_ ?_)))))))))))))))))
 rcases ifs h with ⟨hc1, h⟩ | ⟨hc1, h⟩
 ·
  refine ah_ rfl hc1 (ab_ (aa_ (wm_ (v := (vi x1.2.2)) rfl rfl (wa_ (v := sn) rfl rfl (wa_ (v := (vi x1.2.2)) rfl rfl (ad_ (ak_ ?_)))))))
  have I6 := Inv.rowNil (α := Int) (T := 3) I5
  obtain rfl := sj h
  exact ⟨rfl, (Value.tuple #[sn, (vi x1.2.2)]), (qy_ rfl rfl rfl), _, [Row (α := Int) 3 sn (([] : List Int))], ((le1.trans le2).trans le3), I6, _, _, _, rfl, rfl⟩
 refine ai_ rfl hc1 (ar_ (ab_ (aa_ (wm_ (v := c11) rfl rfl (wm_ (v := c12) rfl rfl ?_)))))
 obtain ⟨x2, hx2, h⟩ := bnd h
 obtain ⟨x3, hx3, h⟩ := bnd h
 obtain ⟨x4, hx4, h⟩ := bnd h
 refine wo_ (cl_ ca45 rfl (la_ I5 (sc_ r11 hx2) (sc_ r12 hx3) hx4) (br_ rfl rfl) (fun cv2 w4 S4 O2 le4 I7 hv2 => ?_))
 obtain ⟨z11, m11, k11, rfl, rfl⟩ := hv2
 refine wo_ (cm_ (fv := #[]) (cv := #[(pt_ g2)]) rfl zo_ (arr1 rfl) ?_)
 obtain ⟨x5, hx5, h⟩ := bnd h
 refine wo_ (cl_ ca44 rfl (mr_ I7 ⟨46, [(pt_ g2)], rfl, ca46, fun T_ w_ Fr_ u_ x_ r_ hle_ hI_ hu_ hr_ => by have e_ := rv_int hu_; subst e_; exact sn_ hI_ ((p2.mono (le3.trans le4)).mono hle_) hr_⟩ hx5) (br_ rfl rfl) (fun cv3 w5 S5 O3 le5 I8 hv3 => ?_))
 obtain ⟨z12, m12, k12, rfl, rfl⟩ := hv3
 refine wa_ (v := (.slice z12 m12 k12)) rfl rfl (wa_ (v := (vi 0)) rfl rfl (ad_ (ak_ ?_)))
 obtain rfl := sj h
 exact ⟨rfl, (Value.tuple #[(.slice z12 m12 k12), (vi 0)]), (qy_ rfl rfl rfl), _, [Row (α := Int) 3 (.slice z12 m12 k12) (x5)], ((((le1.trans le2).trans le3).trans le4).trans le5), I8, _, _, _, rfl, rfl⟩
end Go.Proofs.YtlpdpeghgndmkaaGreat.Pad
