/- A part of the proof: what the functions of the program compute, shown over the model. -/
import Derived.Test.YtlpdpeghgndmkaaGreatHizP
import Derived.Test.YtlpdpeghgndmkaaGreatHizW4
import Derived.Test.YtlpdpeghgndmkaaGreatHizW8
import Derived.Test.YtlpdpeghgndmkaaGreatHizW9
import Derived.KernelRfl
set_option linter.unusedVariables false
set_option maxHeartbeats 4000000
set_option maxRecDepth 100000
namespace Go.Proofs.YtlpdpeghgndmkaaGreat.Pad
open Go Go.Proofs
theorem hints_clone_ok {w : World} {S : PH} {Fr : List HP} {a0 : Riddle} {v0 : Value} {r : Riddle} (hI : Inv w S (Fr)) (h0_ : RV S v0 a0) (h : kf_ a0 = some r) :
    Calls Tryz.prog 86 [v0].toArray w (ms_ S Fr (fun T_ v_ O_ => ∃ (c0_0 : Value) (c0_1 : Value) (a0_2 : Option Addr) (n0_2 k0_2 : Nat) (w0_2 : List Raw) (c0_3 : Value), v_ = (Value.agg #[c0_0, c0_1, (Value.slice a0_2 n0_2 k0_2), c0_3]) ∧ O_ = [hg_ (α := Clue) 63 30 (Value.slice a0_2 n0_2 k0_2) w0_2 (r.Known)] ∧ RV T_ c0_0 (r.Locks) ∧ RV T_ c0_1 (r.Codes) ∧ w0_2.length = (r.Known).length ∧ RV T_ c0_3 (r.Ties))) := by
 unfold kf_ at h
 obtain ⟨c1, c2, c3, c4, e1, r1, r2, r3, r4⟩ := Riddle.inv h0_
 subst e1
 obtain ⟨z1, m1, k1, rfl⟩ := af_ r1
 obtain ⟨z2, m2, k2, rfl⟩ := af_ r2
 obtain ⟨z3, m3, k3, rfl⟩ := af_ r3
 obtain ⟨z4, m4, k4, rfl⟩ := af_ r4
 refine ar_ (n := 56) (vs := [(.agg #[(.slice z1 m1 k1), (.slice z2 m2 k2), (.slice z3 m3 k3), (.slice z4 m4 k4)])]) Tryz.func86 rfl rfl rfl (ab_ (aa_ (wo_ (bi_ (v := (.agg #[(.slice z1 m1 k1), (.slice z2 m2 k2), (.slice z3 m3 k3), (.slice z4 m4 k4)])) rfl hI rfl (fun g1 w1 I1 => ?_)))))
 obtain ⟨S1, le1, I2, p1⟩ := Inv.boxFreeze (x := a0) I1 (Riddle.rv (s := a0) r1 r2 r3 r4)
 refine wo_ (ca_ (z := (.agg #[(.slice none 0 0), (.slice none 0 0), (.slice none 0 0), (.slice none 0 0)])) rfl I2 zo27 (fun g2 w2 (I3 : Inv w2 S1 (ao_ g2 27 #[(.slice none 0 0), (.slice none 0 0), (.slice none 0 0), (.slice none 0 0)] :: Fr)) => (ad_ (ab_ ?_))))
 obtain ⟨x1, hx1, h⟩ := bnd h
 obtain ⟨x2, hx2, h⟩ := bnd h
 refine bm_ (sps := [spV 8 [] 0 (ae_ (pt_ g1) 0), spR 9 [0] 1 (a0.Locks), ⟨some 10, [0, 1], [2], fun vs_ T_ => ∃ (a0_ : Option Addr) (n0_ k0_ : Nat), fr0 vs_ 0 = (.slice a0_ n0_ k0_), [], [], [0], fun _ h_ => h_⟩, spV 11 [] 3 (ae_ (pt_ g1) 3), spR 12 [3] 4 (a0.Ties), ⟨some 13, [0, 1, 2, 3, 4], [5], fun vs_ T_ => ∃ (a0_ : Option Addr) (n0_ k0_ : Nat), fr0 vs_ 0 = (.slice a0_ n0_ k0_), [], [], [1], fun _ h_ => h_⟩, spW 14 (lrg 6) [6, 2, 5] fun vs_ => (.agg #[(fr0 vs_ 1), (.slice none 0 0), (.slice none 0 0), (fr0 vs_ 2)]), ⟨some 3, [], [7], fun vs_ T_ => ∃ g_, fr0 vs_ 0 = Value.pointer (some ⟨g_, 0, none⟩), [], [], [2], fun _ h_ => h_⟩, ⟨none, (lrg 8), [], fun vs_ T_ => True, [0, 1], [2], [3], fun _ h_ => h_⟩]) (tks := [⟨some 2, none, [2], fun vs_ => Row (α := CodeLock) 62 (fr0 vs_ 0) (x1)⟩, ⟨some 5, none, [5], fun vs_ => Row (α := Tie) 75 (fr0 vs_ 0) (x2)⟩, ⟨some 7, some 8, [7], fun vs_ => ao_ (gt_ (fr0 vs_ 0)) 27 #[(.slice none 0 0), (.slice none 0 0), (.slice none 0 0), (.slice none 0 0)]⟩, ⟨some 8, none, [2, 5, 7], fun vs_ => ao_ (gt_ (fr0 vs_ 2)) 27 #[(fr0 vs_ 0), (.slice none 0 0), (.slice none 0 0), (fr0 vs_ 1)]⟩]) (O := ao_ g2 27 #[(.slice none 0 0), (.slice none 0 0), (.slice none 0 0), (.slice none 0 0)] :: Fr) rfl (by kernel_rfl) I3 ⟨fun vs f w U X l A K I => pl_ rfl (ac_ (v := (pt_ g1)) rfl eb_ (K 1 (am_ rfl)) ((p1.mono l).at_ I) (fn rfl rfl I)), ?_, ?_, fun vs f w U X l A K I => pl_ rfl (ac_ (v := (pt_ g1)) rfl fa27_3 (K 1 (am_ rfl)) ((p1.mono l).at_ I) (fn rfl rfl I)), ?_, ?_, ?_, fun vs f w U X l A K I => pl_ rfl (ca_ (z := (.agg #[(.slice none 0 0), (.slice none 0 0), (.slice none 0 0), (.slice none 0 0)])) rfl I zo27 (fun g3 w15 (I16 : Inv w15 U (ao_ g3 27 #[(.slice none 0 0), (.slice none 0 0), (.slice none 0 0), (.slice none 0 0)] :: X)) => ⟨_, _, rfl, lr, ⟨_, rfl⟩, I16⟩)), ?_, trivial⟩ ?_
 ·
  intro vs f w_ U X le A K I
  have q1 := A.u 0 rfl rfl rfl
  refine pl_ rfl (an_ (v := (ae_ (pt_ g1) 0)) (e := a0.Locks) rfl oe_ q1 (((p1.mono le).at_ I).fld Riddle.fld0) (fun u3 hu3 => ?_))
  obtain ⟨z5, m5, k5, rfl⟩ := af_ hu3
  refine ⟨_, _, rfl, lr, ?_, ?_⟩
  · exact hu3
  exact I
 ·
  intro vs f w_ U X le A K I
  obtain ⟨z6, m6, k6, hu4, q2, r5⟩ := A.sl (a := 1) 1 rfl rfl rfl
  refine pl_ rfl (bo_ (vs := [(.slice z6 m6 k6)]) rfl ca101 rfl (fk_ q2) (ls_ I r5 hx1) (fun cv1 w8 S5 O1 le5 I9 hv1 => ?_))
  obtain ⟨z7, m7, k7, rfl, rfl⟩ := hv1
  refine ⟨_, _, rfl, le5, ?_, ?_⟩
  · exact ⟨_, _, _, rfl⟩
  exact I9
 ·
  intro vs f w_ U X le A K I
  have q3 := A.u 0 rfl rfl rfl
  refine pl_ rfl (an_ (v := (ae_ (pt_ g1) 3)) (e := a0.Ties) rfl sh25 q3 (((p1.mono le).at_ I).fld Riddle.fld3) (fun u5 hu5 => ?_))
  obtain ⟨z8, m8, k8, rfl⟩ := af_ hu5
  refine ⟨_, _, rfl, lr, ?_, ?_⟩
  · exact hu5
  exact I
 ·
  intro vs f w_ U X le A K I
  obtain ⟨z9, m9, k9, hu6, q4, r6⟩ := A.sl (a := 4) 4 rfl rfl rfl
  refine pl_ rfl (bo_ (vs := [(.slice z9 m9 k9)]) rfl ca102 rfl (fk_ q4) (oo_ I r6 hx2) (fun cv2 w12 S9 O2 le9 I13 hv2 => ?_))
  obtain ⟨z10, m10, k10, rfl, rfl⟩ := hv2
  refine ⟨_, _, rfl, le9, ?_, ?_⟩
  · exact ⟨_, _, _, rfl⟩
  exact I13
 ·
  intro vs f w_ U X le A K I
  obtain ⟨z11, m11, k11, e10, q5⟩ := A.rf (a := 2) 2 rfl rfl rfl
  obtain ⟨z12, m12, k12, e11, q6⟩ := A.rf (a := 5) 5 rfl rfl rfl
  refine pl_ rfl (ha_ (qs := [(0, #[(.slice z11 m11 k11)]), (3, #[(.slice z12 m12 k12)])]) (c := #[(.slice z11 m11 k11), (.slice none 0 0), (.slice none 0 0), (.slice z12 m12 k12)]) rfl st27 ⟨rfl, (cells_of q5 rfl), ⟨rfl, (cells_of q6 rfl), trivial⟩⟩ rfl (⟨_, _, rfl, lr, ?_, ?_⟩))
  ·
   show (Value.agg #[(Value.slice z11 m11 k11), (Value.slice none 0 0), (Value.slice none 0 0), (Value.slice z12 m12 k12)]) = (Value.agg #[(vs 2), (Value.slice none 0 0), (Value.slice none 0 0), (vs 5)])
   simp only [e10, e11] <;> rfl
  exact I
 ·
  intro vs f w_ U X le A K I
  have I17 : Inv w_ U (ao_ (gt_ (vs 7)) 27 #[(Value.slice none 0 0), (Value.slice none 0 0), (Value.slice none 0 0), (Value.slice none 0 0)] :: Row (α := CodeLock) 62 (vs 2) (x1) :: Row (α := Tie) 75 (vs 5) (x2) :: X) := I
  obtain ⟨z13, m13, k13, e12, q7⟩ := A.rf (a := 2) 2 rfl rfl rfl
  have I18 := I17
  rw [e12] at I18
  obtain ⟨z14, m14, k14, e13, q8⟩ := A.rf (a := 5) 5 rfl rfl rfl
  have I19 := I18
  rw [e13] at I19
  have q9 : f 14 = (Value.agg #[(vs 2), (Value.slice none 0 0), (Value.slice none 0 0), (vs 5)]) := A.u 6 rfl rfl rfl
  simp only [e12, e13] at q9
  have q9 : f 14 = (Value.agg #[(Value.slice z13 m13 k13), (Value.slice none 0 0), (Value.slice none 0 0), (Value.slice z14 m14 k14)]) := q9
  obtain ⟨g4, e14⟩ := (A.at_ 7 rfl _ rfl).2
  have q10 : f 3 = Value.pointer (some ⟨g4, 0, none⟩) := ((A.at_ 7 rfl _ rfl).1 _ rfl).trans e14
  have e14 : vs 7 = Value.pointer (some ⟨g4, 0, none⟩) := e14
  have I20 := I19
  rw [e14] at I20
  refine pl_ rfl (bd_ (v := (.agg #[(.slice z13 m13 k13), (.slice none 0 0), (.slice none 0 0), (.slice z14 m14 k14)])) (cs := #[(.slice none 0 0), (.slice none 0 0), (.slice none 0 0), (.slice none 0 0)]) ii_ I20 q10 q9 rfl nb rfl (fun w17 (I21 : Inv w17 U (ao_ (gt_ (pt_ g4)) 27 #[(.slice z13 m13 k13), (.slice none 0 0), (.slice none 0 0), (.slice z14 m14 k14)] :: Row (α := CodeLock) 62 (.slice z13 m13 k13) (x1) :: Row (α := Tie) 75 (.slice z14 m14 k14) (x2) :: X)) => (⟨undef, _, rfl, lr, ?_, ?_⟩)))
  · exact trivial
  show Inv _ _ (ao_ (gt_ (vs 7)) 27 #[(vs 2), (Value.slice none 0 0), (Value.slice none 0 0), (vs 5)] :: Row (α := CodeLock) 62 (vs 2) (x1) :: Row (α := Tie) 75 (vs 5) (x2) :: X)
  simp only [e12, e13, e14]
  exact (((I21.pull 2).pull 2).pull 2)
 intro vs10 f w18 S13 ed1 le13 hF1 hK10 hI10
 have e15 : f 1 = (pt_ g1) := (hK10 1 (au_ rfl)).trans rfl
 have e16 : f 2 = (pt_ g2) := (hK10 2 (au_ rfl)).trans rfl
 have I22 : Inv w18 S13 (Row (α := CodeLock) 62 (vs10 2) (x1) :: Row (α := Tie) 75 (vs10 5) (x2) :: ao_ (gt_ (vs10 7)) 27 #[(vs10 2), (Value.slice none 0 0), (Value.slice none 0 0), (vs10 5)] :: ao_ g2 27 #[(Value.slice none 0 0), (Value.slice none 0 0), (Value.slice none 0 0), (Value.slice none 0 0)] :: Fr) := hI10
 obtain ⟨z15, m15, k15, e17, q11⟩ := hF1.rf (a := 2) 2 rfl rfl rfl
 have I23 := I22
 rw [e17] at I23
 obtain ⟨z16, m16, k16, e18, q12⟩ := hF1.rf (a := 5) 5 rfl rfl rfl
 have I24 := I23
 rw [e18] at I24
 obtain ⟨g5, e19⟩ := (hF1.at_ 7 rfl _ rfl).2
 have q13 : f 3 = Value.pointer (some ⟨g5, 0, none⟩) := ((hF1.at_ 7 rfl _ rfl).1 _ rfl).trans e19
 have e19 : vs10 7 = Value.pointer (some ⟨g5, 0, none⟩) := e19
 have I25 := I24
 rw [e19] at I25
 refine ab_ (ab_ (aa_ (wo_ (ac_ (v := (pt_ g1)) rfl eb_ e15 ((p1.mono le13).at_ I25) (wo_ (an_ (v := (ae_ (pt_ g1) 0)) (e := a0.Locks) rfl oe_ rfl (((p1.mono le13).at_ I25).fld Riddle.fld0) (fun u7 hu7 => ?_)))))))
 obtain ⟨z17, m17, k17, rfl⟩ := af_ hu7
 refine wo_ (bb_ rfl Tryz.underlying22 rfl hu7 (wm_ (v := (vi 0)) rfl rfl (ad_ ?_)))
 have hk4 : a0.Locks.length ≤ 9223372036854775807 := (ea_ hu7)
 have I212 := Inv.rowNil (α := (List Int)) (T := 28) I25
 have I213 := Inv.gridNil (α := Clue) (To := 63) (Ti := 30) I212
 obtain ⟨out4, hrun4, h⟩ := bnd h
 refine bs_ (fun f w => ∃ (S_ : PH) (z138 : Option Addr) (m138 k138 : Nat) (z139 : Option Addr) (m139 k139 : Nat) (rw4 : List Raw), S13.Le S_ ∧ Inv w S_ (ao_ g2 27 #[(.slice none 0 0), (.slice none 0 0), (.slice none 0 0), (.slice none 0 0)] :: ao_ (gt_ (pt_ g5)) 27 #[(.slice z15 m15 k15), (.slice z138 m138 k138), (.slice z139 m139 k139), (.slice z16 m16 k16)] :: Row (α := CodeLock) 62 (.slice z15 m15 k15) (x1) :: Row (α := (List Int)) 28 (.slice z138 m138 k138) (out4.1) :: hg_ (α := Clue) 63 30 (.slice z139 m139 k139) (rw4) (out4.2) :: Row (α := Tie) 75 (.slice z16 m16 k16) (x2) :: Fr) ∧ f 1 = (pt_ g1) ∧ f 2 = (pt_ g2) ∧ f 3 = (pt_ g5) ∧ f 17 = (vi ((a0.Locks.length : Int))) ∧ f.ds = [] ∧ rw4.length = (out4.2).length) ?_ ?_
 ·
  refine ax_ ?_
  refine fj_ (I := fun (i4 : Nat) (s4 : (List (List Int) × List (List Clue))) (f : Frm) (w : World) => ∃ (S_ : PH) (z136 : Option Addr) (m136 k136 : Nat) (z137 : Option Addr) (m137 k137 : Nat) (rw3 : List Raw), S13.Le S_ ∧ Inv w S_ (ao_ g2 27 #[(.slice none 0 0), (.slice none 0 0), (.slice none 0 0), (.slice none 0 0)] :: ao_ (gt_ (pt_ g5)) 27 #[(.slice z15 m15 k15), (.slice z136 m136 k136), (.slice z137 m137 k137), (.slice z16 m16 k16)] :: Row (α := CodeLock) 62 (.slice z15 m15 k15) (x1) :: Row (α := (List Int)) 28 (.slice z136 m136 k136) (s4.1) :: hg_ (α := Clue) 63 30 (.slice z137 m137 k137) (rw3) (s4.2) :: Row (α := Tie) 75 (.slice z16 m16 k16) (x2) :: Fr) ∧ f 1 = (pt_ g1) ∧ f 2 = (pt_ g2) ∧ f 3 = (pt_ g5) ∧ f 17 = (vi ((a0.Locks.length : Int))) ∧ f 18 = (vi (i4 : Int)) ∧ f.ds = [] ∧ rw3.length = (s4.2).length) hrun4 ⟨_, _, _, _, _, _, _, _, lr, ((((((I213.pull 3).pull 1).pull 2).pull 3).pull 4).pull 5), e15, e16, q13, rfl, rfl, (ed1.trans rfl), rfl⟩ ?_ ?_
  ·
   rintro i4 s4 f w o4 hlt4 hI56 h7
   obtain ⟨S91, z136, m136, k136, z137, m137, k137, rw3, le91, I214, e333, e334, e335, e336, e337, ed26, hl3⟩ := hI56
   refine ab_ (aa_ (wo_ (bg_ (a := (i4 : Int)) (b := (a0.Locks.length : Int)) rfl e337 e336 (ad_ (ab_ (ai_ (b := decide ((i4 : Int) < (a0.Locks.length : Int))) rfl (gg_ hlt4) (av_ (ab_ (ax_ (ab_ (aa_ (wm_ rfl e337 (wa_ (v := (vi (i4 : Int))) rfl rfl (ad_ (ab_ ?_)))))))))))))))
   obtain ⟨x54, hx54, h7⟩ := bnd h7
   obtain ⟨x55, hx55, h7⟩ := bnd h7
   obtain ⟨x56, hx56, h7⟩ := bnd h7
   refine bm_ (sps := [spV 21 [] 0 (.pointer (some ⟨g5, 1, none⟩)), ⟨some 22, [0], [1], fun vs_ T_ => fr0 vs_ 0 = (.slice z136 m136 k136), [0], [], [], fun _ h_ => h_⟩, spV 23 [] 2 (ae_ (pt_ g1) 1), spR 24 [2] 3 (a0.Codes), spV 25 [] 4 (vi (i4 : Int)), spW 26 [2, 3, 4] [5, 3] fun vs_ => (ah_ (fr0 vs_ 1) ((i4 : Int)) (Enc.sz (List Int))), spR 27 [2, 3, 4, 5] 6 x54, ⟨some 28, [2, 3, 4, 5, 6], [7], fun vs_ T_ => ∃ (a0_ : Option Addr) (n0_ k0_ : Nat), fr0 vs_ 0 = (.slice a0_ n0_ k0_), [], [], [1], fun _ h_ => h_⟩, ⟨some 29, [2, 3, 4, 5, 6, 7], [8], fun vs_ T_ => ∃ a_ n_ k_, fr0 vs_ 0 = Value.slice a_ n_ k_, [], [1], [2], fun _ h_ => h_⟩, ⟨some 30, (lrg 9), [9], fun vs_ T_ => ∃ a_ n_ k_, fr0 vs_ 0 = Value.slice a_ n_ k_, [2], [3], [4], fun _ h_ => h_⟩, spV 31 (lrg 10) 10 (.pointer (some ⟨g5, 1, none⟩)), ⟨none, (lrg 11), [], fun vs_ T_ => True, [4], [0], [5], fun _ h_ => h_⟩]) (tks := [⟨none, some 11, [], fun vs_ => ao_ (gt_ (pt_ g5)) 27 #[(.slice z15 m15 k15), (.slice z136 m136 k136), (.slice z137 m137 k137), (.slice z16 m16 k16)]⟩, ⟨some 7, some 8, [7], fun vs_ => Row (α := Int) 3 (fr0 vs_ 0) (x55)⟩, ⟨some 8, none, [8], fun vs_ => Row (α := (List Int)) 28 (fr0 vs_ 0) (([x55] : List (List Int)))⟩, ⟨none, some 9, [], fun vs_ => Row (α := (List Int)) 28 (.slice z136 m136 k136) (s4.1)⟩, ⟨some 9, none, [9], fun vs_ => Row (α := (List Int)) 28 (fr0 vs_ 0) (x56)⟩, ⟨some 11, none, [9], fun vs_ => ao_ (gt_ (pt_ g5)) 27 #[(.slice z15 m15 k15), (fr0 vs_ 0), (.slice z137 m137 k137), (.slice z16 m16 k16)]⟩]) (O := ao_ g2 27 #[(.slice none 0 0), (.slice none 0 0), (.slice none 0 0), (.slice none 0 0)] :: Row (α := CodeLock) 62 (.slice z15 m15 k15) (x1) :: hg_ (α := Clue) 63 30 (.slice z137 m137 k137) (rw3) (s4.2) :: Row (α := Tie) 75 (.slice z16 m16 k16) (x2) :: Fr) rfl (by kernel_rfl) ((I214.pull 3).pull 2) ⟨fun vs f w U X l A K I => pl_ rfl (az_ (v := (pt_ g5)) rfl kl_ ((K 3 (am_ rfl)).trans e335) rfl (fn rfl rfl I)), ?_, fun vs f w U X l A K I => pl_ rfl (ac_ (v := (pt_ g1)) rfl kl_ ((K 1 (am_ rfl)).trans e333) ((p1.mono ((le13.trans le91).trans l)).at_ I) (fn rfl rfl I)), ?_, fun vs f w U X l A K I => pl_ rfl (aw_ (v := (vi (i4 : Int))) rfl (K 4 (am_ rfl)) (fn rfl rfl I)), ?_, ?_, ?_, ?_, ?_, fun vs f w U X l A K I => pl_ rfl (az_ (v := (pt_ g5)) rfl kl_ ((K 3 (am_ rfl)).trans e335) rfl (fn rfl rfl I)), ?_, trivial⟩ ?_
   ·
    intro vs f w_ U X le A K I
    have I220 : Inv w_ U (ao_ (gt_ (pt_ g5)) 27 #[(Value.slice z15 m15 k15), (Value.slice z136 m136 k136), (Value.slice z137 m137 k137), (Value.slice z16 m16 k16)] :: X) := I
    refine pl_ rfl (be_ (c := (.slice z136 m136 k136)) rfl mh_ (I220.nth 0 rfl) (A.u 0 rfl rfl rfl) rfl (fn rfl rfl I220))
   ·
    intro vs f w_ U X le A K I
    have q60 := A.u 0 rfl rfl rfl
    refine pl_ rfl (an_ (v := (ae_ (pt_ g1) 1)) (e := a0.Codes) rfl mh_ q60 (((p1.mono ((le13.trans le91).trans le)).at_ I).fld Riddle.fld1) (fun u93 hu49 => ?_))
    obtain ⟨z140, m140, k140, rfl⟩ := af_ hu49
    refine ⟨_, _, rfl, lr, ?_, ?_⟩
    · exact hu49
    exact I
   ·
    intro vs f w_ U X le A K I
    obtain ⟨z141, m141, k141, hu50, q61, r59⟩ := A.sl (a := 3) 1 rfl rfl rfl
    have q62 := A.u 2 rfl rfl rfl
    refine pl_ rfl (aj_ (v := (.slice z141 m141 k141)) (i := (i4 : Int)) (e := x54) rfl Tryz.underlying23 ht_ q61 r59 q62 hx54 (⟨_, _, rfl, lr, ?_, ?_⟩))
    ·
     show (ah_ (Value.slice z141 m141 k141) ((i4 : Int)) (Enc.sz (List Int))) = (ah_ (vs 3) ((i4 : Int)) (Enc.sz (List Int)))
     simp only [hu50] <;> rfl
    exact I
   ·
    intro vs f w_ U X le A K I
    obtain ⟨z142, m142, k142, hu51, q63, r60⟩ := A.sl (a := 3) 1 rfl rfl rfl
    have q64 := A.u 2 rfl rfl rfl
    have q65 : f 26 = (ah_ (vs 3) ((i4 : Int)) (Enc.sz (List Int))) := A.u 3 rfl rfl rfl
    simp only [hu51] at q65
    have q65 : f 26 = (ah_ (Value.slice z142 m142 k142) ((i4 : Int)) (Enc.sz (List Int))) := q65
    refine pl_ rfl (an_ (v := (ah_ (.slice z142 m142 k142) ((i4 : Int)) (Enc.sz (List Int)))) (e := x54) rfl ht_ q65 (r60.elem I.in_ hx54) (fun u96 hu52 => ?_))
    obtain ⟨z143, m143, k143, rfl⟩ := af_ hu52
    refine ⟨_, _, rfl, lr, ?_, ?_⟩
    · exact hu52
    exact I
   ·
    intro vs f w_ U X le A K I
    obtain ⟨z144, m144, k144, hu53, q66, r61⟩ := A.sl (a := 6) 4 rfl rfl rfl
    refine pl_ rfl (bo_ (vs := [(.slice z144 m144 k144)]) rfl ca103 rfl (fk_ q66) (he_ I r61 hx55) (fun cv18 w160 S101 O18 le101 I227 hv18 => ?_))
    obtain ⟨z145, m145, k145, rfl, rfl⟩ := hv18
    refine ⟨_, _, rfl, le101, ?_, ?_⟩
    · exact ⟨_, _, _, rfl⟩
    exact I227
   ·
    intro vs f w_ U X le A K I
    have I228 : Inv w_ U (Row (α := Int) 3 (vs 7) (x55) :: X) := I
    obtain ⟨z146, m146, k146, e343, q67⟩ := A.rf (a := 7) 5 rfl rfl rfl
    have I229 := I228
    rw [e343] at I229
    obtain ⟨S103, le103, I230, r62⟩ := Inv.rowFreeze I229
    refine pl_ rfl (bh_ (vs := [(.slice z146 m146 k146)]) (r := ([x55] : List (List Int))) rfl Tryz.underlying23 el28 (ij_ q67) rfl (by decide) (by decide) ⟨r62, trivial⟩ I230 (fun u98 w162 I231 => ?_))
    obtain ⟨z147, m147, k147, e344⟩ := bk_ I231
    subst e344
    refine ⟨_, _, rfl, le103, ?_, ?_⟩
    · exact ⟨_, _, _, rfl⟩
    exact I231
   ·
    intro vs f w_ U X le A K I
    have I232 : Inv w_ U (Row (α := (List Int)) 28 (Value.slice z136 m136 k136) (s4.1) :: Row (α := (List Int)) 28 (vs 8) (([x55] : List (List Int))) :: X) := I
    have q68 := A.u 1 rfl rfl rfl
    obtain ⟨z148, m148, k148, e345⟩ := (A.at_ 8 rfl _ rfl).2
    have q69 : f 29 = Value.slice z148 m148 k148 := ((A.at_ 8 rfl _ rfl).1 _ rfl).trans e345
    have e345 : vs 8 = (Value.slice z148 m148 k148) := e345
    have I233 := I232
    rw [e345] at I233
    refine pl_ rfl (ef_ (α := (List Int)) (v := (.slice z136 m136 k136)) (u := (.slice z148 m148 k148)) rfl rfl Tryz.underlying23 el28 (by decide) (by decide) q68 q69 I233 (Inv.rowSrc (I233.nth 1 rfl)) hx56 (fun u99 w164 I234 => ?_))
    obtain ⟨z149, m149, k149, e346⟩ := bk_ I234
    subst e346
    refine ⟨_, _, rfl, lr, ?_, ?_⟩
    · exact ⟨_, _, _, rfl⟩
    show Inv _ _ (Row (α := (List Int)) 28 ((Value.slice z149 m149 k149)) (x56) :: Row (α := (List Int)) 28 (vs 8) (([x55] : List (List Int))) :: X)
    simp only [e345]
    exact ((I234.pull 1).pull 1)
   ·
    intro vs f w_ U X le A K I
    have I236 : Inv w_ U (ao_ (gt_ (pt_ g5)) 27 #[(Value.slice z15 m15 k15), (Value.slice z136 m136 k136), (Value.slice z137 m137 k137), (Value.slice z16 m16 k16)] :: Row (α := (List Int)) 28 (vs 9) (x56) :: X) := I
    obtain ⟨z150, m150, k150, e347⟩ := (A.at_ 9 rfl _ rfl).2
    have q70 : f 30 = Value.slice z150 m150 k150 := ((A.at_ 9 rfl _ rfl).1 _ rfl).trans e347
    have e347 : vs 9 = (Value.slice z150 m150 k150) := e347
    have I237 := I236
    rw [e347] at I237
    have q71 := A.u 10 rfl rfl rfl
    refine pl_ rfl (bd_ (v := (.slice z150 m150 k150)) (cs := #[(.slice z15 m15 k15), (.slice z136 m136 k136), (.slice z137 m137 k137), (.slice z16 m16 k16)]) mh_ I237 q71 q70 rfl nb rfl (fun w167 (I238 : Inv w167 U (ao_ (gt_ (pt_ g5)) 27 #[(.slice z15 m15 k15), (.slice z150 m150 k150), (.slice z137 m137 k137), (.slice z16 m16 k16)] :: Row (α := (List Int)) 28 (.slice z150 m150 k150) (x56) :: X)) => (⟨undef, _, rfl, lr, ?_, ?_⟩)))
    · exact trivial
    show Inv _ _ (ao_ (gt_ (Value.pointer (some ⟨g5, 0, none⟩))) 27 #[(Value.slice z15 m15 k15), (vs 9), (Value.slice z137 m137 k137), (Value.slice z16 m16 k16)] :: Row (α := (List Int)) 28 (vs 9) (x56) :: X)
    simp only [e347]
    exact ((I238.pull 1).pull 1)
   intro vs62 f w168 S107 ed27 le107 hF5 hK62 hI69
   have e348 : f 1 = (pt_ g1) := (hK62 1 (au_ rfl)).trans e333
   have e349 : f 2 = (pt_ g2) := (hK62 2 (au_ rfl)).trans e334
   have e350 : f 3 = (pt_ g5) := (hK62 3 (au_ rfl)).trans e335
   have e351 : f 4 = (vi ((i4 : Int))) := (hK62 4 (au_ rfl)).trans rfl
   have e352 : f 17 = (vi ((a0.Locks.length : Int))) := (hK62 17 (au_ rfl)).trans e336
   have e353 : f 18 = (vi ((i4 : Int))) := (hK62 18 (au_ rfl)).trans e337
   have I239 : Inv w168 S107 (Row (α := (List Int)) 28 (vs62 8) (([x55] : List (List Int))) :: Row (α := (List Int)) 28 (vs62 9) (x56) :: ao_ (gt_ (pt_ g5)) 27 #[(Value.slice z15 m15 k15), (vs62 9), (Value.slice z137 m137 k137), (Value.slice z16 m16 k16)] :: ao_ g2 27 #[(Value.slice none 0 0), (Value.slice none 0 0), (Value.slice none 0 0), (Value.slice none 0 0)] :: Row (α := CodeLock) 62 (Value.slice z15 m15 k15) (x1) :: hg_ (α := Clue) 63 30 (Value.slice z137 m137 k137) (rw3) (s4.2) :: Row (α := Tie) 75 (Value.slice z16 m16 k16) (x2) :: Fr) := hI69
   obtain ⟨z151, m151, k151, e354⟩ := (hF5.at_ 8 rfl _ rfl).2
   have q72 : f 29 = Value.slice z151 m151 k151 := ((hF5.at_ 8 rfl _ rfl).1 _ rfl).trans e354
   have e354 : vs62 8 = (Value.slice z151 m151 k151) := e354
   have I240 := I239
   rw [e354] at I240
   obtain ⟨z152, m152, k152, e355⟩ := (hF5.at_ 9 rfl _ rfl).2
   have q73 : f 30 = Value.slice z152 m152 k152 := ((hF5.at_ 9 rfl _ rfl).1 _ rfl).trans e355
   have e355 : vs62 9 = (Value.slice z152 m152 k152) := e355
   have I241 := I240
   rw [e355] at I241
   refine ab_ (aa_ (wa_ (v := (.slice none 0 0)) rfl rfl (ad_ (ab_ (ab_ (aa_ (wo_ (ac_ (v := (pt_ g1)) rfl jo_ e348 ((p1.mono ((le13.trans le91).trans le107)).at_ I241) (wo_ (an_ (v := (ae_ (pt_ g1) 2)) (e := a0.Known) rfl sh24 rfl (((p1.mono ((le13.trans le91).trans le107)).at_ I241).fld Riddle.fld2) (fun u100 hu54 => ?_)))))))))))
   obtain ⟨z153, m153, k153, rfl⟩ := af_ hu54
   refine wm_ rfl e351 ?_
   obtain ⟨x57, hx57, h7⟩ := bnd h7
   refine wo_ (aj_ (v := (.slice z153 m153 k153)) (i := (i4 : Int)) (e := x57) rfl Tryz.underlying24 sh63 rfl hu54 rfl hx57 (wo_ (an_ (v := (ah_ (.slice z153 m153 k153) ((i4 : Int)) (Enc.sz (List Clue)))) (e := x57) rfl sh63 rfl (hu54.elem I241.in_ hx57) (fun u101 hu55 => ?_))))
   obtain ⟨z154, m154, k154, rfl⟩ := af_ hu55
   refine wo_ (bb_ rfl Tryz.underlying63 rfl hu55 (wm_ (v := (vi 0)) rfl rfl (ad_ ?_)))
   have hk5 : x57.length ≤ 9223372036854775807 := (ea_ hu55)
   have I261 := Inv.rowNil (α := Clue) (T := 30) I241
   obtain ⟨out5, hrun5, h7⟩ := bnd h7
   refine bs_ (fun f w => ∃ (S_ : PH) (z170 : Option Addr) (m170 k170 : Nat), S107.Le S_ ∧ Inv w S_ (ao_ g2 27 #[(.slice none 0 0), (.slice none 0 0), (.slice none 0 0), (.slice none 0 0)] :: ao_ (gt_ (pt_ g5)) 27 #[(.slice z15 m15 k15), (.slice z152 m152 k152), (.slice z137 m137 k137), (.slice z16 m16 k16)] :: Row (α := CodeLock) 62 (.slice z15 m15 k15) (x1) :: Row (α := (List Int)) 28 (.slice z152 m152 k152) (x56) :: hg_ (α := Clue) 63 30 (.slice z137 m137 k137) (rw3) (s4.2) :: Row (α := Tie) 75 (.slice z16 m16 k16) (x2) :: Row (α := Clue) 30 (.slice z170 m170 k170) (out5) :: Fr) ∧ f 1 = (pt_ g1) ∧ f 2 = (pt_ g2) ∧ f 3 = (pt_ g5) ∧ f 5 = (.slice z170 m170 k170) ∧ f 17 = (vi ((a0.Locks.length : Int))) ∧ f 18 = (vi (i4 : Int)) ∧ f 36 = (.slice z154 m154 k154) ∧ f 37 = (vi ((x57.length : Int))) ∧ f.ds = []) ?_ ?_
   ·
    refine ax_ ?_
    refine fj_ (I := fun (i5 : Nat) (s5 : (List Clue)) (f : Frm) (w : World) => ∃ (S_ : PH) (z169 : Option Addr) (m169 k169 : Nat), S107.Le S_ ∧ Inv w S_ (ao_ g2 27 #[(.slice none 0 0), (.slice none 0 0), (.slice none 0 0), (.slice none 0 0)] :: ao_ (gt_ (pt_ g5)) 27 #[(.slice z15 m15 k15), (.slice z152 m152 k152), (.slice z137 m137 k137), (.slice z16 m16 k16)] :: Row (α := CodeLock) 62 (.slice z15 m15 k15) (x1) :: Row (α := (List Int)) 28 (.slice z152 m152 k152) (x56) :: hg_ (α := Clue) 63 30 (.slice z137 m137 k137) (rw3) (s4.2) :: Row (α := Tie) 75 (.slice z16 m16 k16) (x2) :: Row (α := Clue) 30 (.slice z169 m169 k169) (s5) :: Fr) ∧ f 1 = (pt_ g1) ∧ f 2 = (pt_ g2) ∧ f 3 = (pt_ g5) ∧ f 5 = (.slice z169 m169 k169) ∧ f 17 = (vi ((a0.Locks.length : Int))) ∧ f 18 = (vi (i4 : Int)) ∧ f 36 = (.slice z154 m154 k154) ∧ f 37 = (vi ((x57.length : Int))) ∧ f 38 = (vi (i5 : Int)) ∧ f.ds = []) hrun5 ⟨_, _, _, _, lr, (((((((I261.pull 1).drop.pull 6).pull 6).pull 3).pull 6).pull 5).pull 6), e348, e349, e350, rfl, e352, e353, rfl, rfl, rfl, (ed27.trans ed26)⟩ ?_ ?_
    ·
     rintro i5 s5 f w o5 hlt5 hI70 h9
     obtain ⟨S113, z169, m169, k169, le113, I262, e403, e404, e405, e406, e407, e408, e409, e410, e411, ed31⟩ := hI70
     refine ab_ (aa_ (wo_ (bg_ (a := (i5 : Int)) (b := (x57.length : Int)) rfl e411 e410 (ad_ (ab_ (ai_ (b := decide ((i5 : Int) < (x57.length : Int))) rfl (gg_ hlt5) (av_ (ab_ (ax_ (ab_ (aa_ ?_)))))))))))
     obtain ⟨x67, hx67, h9⟩ := bnd h9
     refine wo_ (aj_ (v := (.slice z154 m154 k154)) (i := (i5 : Int)) (e := x67) rfl Tryz.underlying63 mg_ e409 (hu55.mono le113) e411 hx67 (wo_ (an_ (v := (ah_ (.slice z154 m154 k154) ((i5 : Int)) (Enc.sz Clue))) (e := x67) rfl mg_ rfl ((hu55.mono le113).elem I262.in_ hx67) (fun u111 hu59 => ?_))))
     obtain ⟨c50, e412, r72⟩ := Clue.inv hu59
     subst e412
     obtain ⟨z171, m171, k171, rfl⟩ := af_ r72
     refine wo_ (ca_ (z := (.agg #[(vi 0), (vi 0), (vi 0), (vi 0), (vi 0), (.slice none 0 0), (vb false)])) rfl I262 zo30 (fun g21 w184 (I263 : Inv w184 S113 (ao_ g21 30 #[(vi 0), (vi 0), (vi 0), (vi 0), (vi 0), (.slice none 0 0), (vb false)] :: ao_ g2 27 #[(.slice none 0 0), (.slice none 0 0), (.slice none 0 0), (.slice none 0 0)] :: ao_ (gt_ (pt_ g5)) 27 #[(.slice z15 m15 k15), (.slice z152 m152 k152), (.slice z137 m137 k137), (.slice z16 m16 k16)] :: Row (α := CodeLock) 62 (.slice z15 m15 k15) (x1) :: Row (α := (List Int)) 28 (.slice z152 m152 k152) (x56) :: hg_ (α := Clue) 63 30 (.slice z137 m137 k137) (rw3) (s4.2) :: Row (α := Tie) 75 (.slice z16 m16 k16) (x2) :: Row (α := Clue) 30 (.slice z169 m169 k169) (s5) :: Fr)) => (wo_ (bd_ (v := (.agg #[(vi x67.Kind), (vi x67.A), (vi x67.B), (vi x67.N), (vi x67.M), (.slice z171 m171 k171), (vb x67.Not)])) (cs := #[(vi 0), (vi 0), (vi 0), (vi 0), (vi 0), (.slice none 0 0), (vb false)]) mg_ I263 rfl rfl rfl nb rfl (fun w185 (I264 : Inv w185 S113 (ao_ g21 30 #[(vi x67.Kind), (vi x67.A), (vi x67.B), (vi x67.N), (vi x67.M), (.slice z171 m171 k171), (vb x67.Not)] :: ao_ g2 27 #[(.slice none 0 0), (.slice none 0 0), (.slice none 0 0), (.slice none 0 0)] :: ao_ (gt_ (pt_ g5)) 27 #[(.slice z15 m15 k15), (.slice z152 m152 k152), (.slice z137 m137 k137), (.slice z16 m16 k16)] :: Row (α := CodeLock) 62 (.slice z15 m15 k15) (x1) :: Row (α := (List Int)) 28 (.slice z152 m152 k152) (x56) :: hg_ (α := Clue) 63 30 (.slice z137 m137 k137) (rw3) (s4.2) :: Row (α := Tie) 75 (.slice z16 m16 k16) (x2) :: Row (α := Clue) 30 (.slice z169 m169 k169) (s5) :: Fr)) => (ad_ (aa_ (wm_ rfl e406 (wo_ (cz_ (l := [(vi x67.Kind), (vi x67.A), (vi x67.B), (vi x67.N), (vi x67.M), (.slice z171 m171 k171), (vb x67.Not)]) rfl mg_ (I264.nth 0 rfl) rfl rfl rfl ?_))))))))))
     obtain ⟨x68, hx68, h9⟩ := bnd h9
     refine wo_ (bo_ (vs := [(.agg #[(vi x67.Kind), (vi x67.A), (vi x67.B), (vi x67.N), (vi x67.M), (.slice z171 m171 k171), (vb x67.Not)])]) rfl ca87 rfl (fk_ rfl) (kw_ I264 (Clue.rv (s := x67) r72) hx68) (fun cv22 w186 S114 O22 le114 I265 hv22 => ?_))
     obtain ⟨c51, rfl, rfl, r73⟩ := hv22
     obtain ⟨c52, e414, r74⟩ := Clue.inv r73
     subst e414
     obtain ⟨z172, m172, k172, rfl⟩ := af_ r74
     refine wo_ (bh_ (vs := [(.agg #[(vi x68.Kind), (vi x68.A), (vi x68.B), (vi x68.N), (vi x68.M), (.slice z172 m172 k172), (vb x68.Not)])]) (r := ([x68] : List Clue)) rfl Tryz.underlying63 el30 (ij_ rfl) rfl (by decide) (by decide) ⟨(Clue.rv (s := x68) r74), trivial⟩ I265 (fun u112 w187 I266 => ?_))
     obtain ⟨z173, m173, k173, e416⟩ := bk_ I266
     subst e416
     obtain ⟨x69, hx69, h9⟩ := bnd h9
     refine wo_ (ef_ (α := Clue) (v := (.slice z169 m169 k169)) (u := (.slice z173 m173 k173)) rfl rfl Tryz.underlying63 el30 (by decide) (by decide) rfl rfl (I266.pull 8) (Inv.rowSrc (I266.nth 0 rfl)) hx69 (fun u113 w188 I267 => ?_))
     obtain ⟨z174, m174, k174, e417⟩ := bk_ I267
     subst e417
     refine wa_ (v := (.slice z174 m174 k174)) rfl rfl (ad_ (aa_ (wo_ (bp_ (a := (i5 : Int)) (b := 1) rfl e411 rfl (wm_ (v := (vi (w64 ((i5 : Int) + 1)))) rfl rfl (ad_ ?_))))))
     obtain rfl := sj h9
     exact ⟨_, _, _, _, (le113.trans le114), ((((((((I267.pull 1).drop.pull 1).drop.pull 6).pull 6).pull 6).pull 6).pull 6).pull 6), e403, e404, e405, rfl, e407, e408, e409, e410, (bl_ hlt5 hk5), ed31⟩
    rintro f w hI71
    obtain ⟨S115, z175, m175, k175, le115, I268, e418, e419, e420, e421, e422, e423, e424, e425, e426, ed32⟩ := hI71
    refine ab_ (aa_ (wo_ (bg_ (a := (x57.length : Int)) (b := (x57.length : Int)) rfl e426 e425 (ad_ (ab_ (ak_ (b := decide ((x57.length : Int) < (x57.length : Int))) rfl (gh_ _) (bj_ ?_)))))))
    exact ⟨_, _, _, _, le115, (((((((I268.pull 6).pull 6).pull 6).pull 6).pull 6).pull 6).pull 6), e418, e419, e420, e421, e422, e423, e424, e425, ed32⟩
   rintro f w ⟨S116, z170, m170, k170, le116, I269, e427, e428, e429, e430, e431, e432, e433, e434, ed33⟩
   refine aa_ (wo_ (az_ (v := (pt_ g5)) rfl jo_ e429 rfl (wo_ (be_ (c := (.slice z137 m137 k137)) rfl sh24 (I269.nth 1 rfl) rfl rfl (wm_ rfl e430 (wo_ (bh_ (α := Raw) (vs := [(.slice z170 m170 k170)]) (r := [⟨(.slice z170 m170 k170)⟩]) rfl Tryz.underlying24 el63r (ij_ rfl) rfl (by decide) (by decide) ⟨op_ rfl, trivial⟩ I269 (fun u114 w189 I270 => ?_))))))))
   obtain ⟨z176, m176, k176, e435⟩ := bk_ I270
   subst e435
   obtain ⟨x70, hx70, h7⟩ := bnd h7
   have I271 := Inv.gridParts (I270.pull 5)
   refine wo_ (ef_ (α := Raw) (v := (.slice z137 m137 k137)) (u := (.slice z176 m176 k176)) rfl rfl Tryz.underlying24 el63r (by decide) (by decide) rfl rfl I271 (Inv.rowSrc (α := Raw) (I271.nth 2 rfl)) (push?_raw hx70 hl3 rfl) (fun u115 w190 I272 => ?_))
   obtain ⟨z177, m177, k177, e436⟩ := bk_ I272
   subst e436
   have I273 := Inv.gridAdd hl3 (((I272.pull 1).pull 8).pull 2)
   have hp4 := (nt_ hx70).2
   rw [← hp4] at I273
   refine wo_ (az_ (v := (pt_ g5)) rfl jo_ e429 rfl (wo_ (bd_ (v := (.slice z177 m177 k177)) (cs := #[(.slice z15 m15 k15), (.slice z152 m152 k152), (.slice z137 m137 k137), (.slice z16 m16 k16)]) sh24 (I273.pull 3) rfl rfl rfl nb rfl (fun w191 (I274 : Inv w191 S116 (ao_ (gt_ (pt_ g5)) 27 #[(.slice z15 m15 k15), (.slice z152 m152 k152), (.slice z177 m177 k177), (.slice z16 m16 k16)] :: hg_ (α := Clue) 63 30 (.slice z177 m177 k177) (rw3 ++ [(⟨(.slice z170 m170 k170)⟩ : Raw)]) (x70) :: Row (α := Raw) 63 (.slice z176 m176 k176) (([⟨(.slice z170 m170 k170)⟩] : List Raw)) :: ao_ g2 27 #[(.slice none 0 0), (.slice none 0 0), (.slice none 0 0), (.slice none 0 0)] :: Row (α := CodeLock) 62 (.slice z15 m15 k15) (x1) :: Row (α := (List Int)) 28 (.slice z152 m152 k152) (x56) :: Row (α := Tie) 75 (.slice z16 m16 k16) (x2) :: Fr)) => (ad_ (aa_ (wo_ (bp_ (a := (i4 : Int)) (b := 1) rfl e432 rfl (wm_ (v := (vi (w64 ((i4 : Int) + 1)))) rfl rfl (ad_ ?_))))))))))
   obtain rfl := sj h7
   exact ⟨_, _, _, _, _, _, _, _, ((le91.trans le107).trans le116), (((((((I274.pull 2).drop.pull 5).pull 2).pull 5).pull 5).pull 4).pull 5), e427, e428, e429, e431, (bl_ hlt4 hk4), ed33, (grid_add1 hl3 (nt_ hx70).2)⟩
  rintro f w hI72
  obtain ⟨S117, z178, m178, k178, z179, m179, k179, rw5, le117, I275, e437, e438, e439, e440, e441, ed34, hl5⟩ := hI72
  refine ab_ (aa_ (wo_ (bg_ (a := (a0.Locks.length : Int)) (b := (a0.Locks.length : Int)) rfl e441 e440 (ad_ (ab_ (ak_ (b := decide ((a0.Locks.length : Int) < (a0.Locks.length : Int))) rfl (gh_ _) (bj_ ?_)))))))
  exact ⟨_, _, _, _, _, _, _, _, le117, ((((((I275.pull 5).pull 5).pull 5).pull 5).pull 5).pull 5), e437, e438, e439, e440, ed34, hl5⟩
 rintro f w ⟨S118, z138, m138, k138, z139, m139, k139, rw4, le118, I276, e442, e443, e444, e445, ed35, hl4⟩
 refine ab_ (aa_ (wo_ (cz_ (l := [(.slice z15 m15 k15), (.slice z138 m138 k138), (.slice z139 m139 k139), (.slice z16 m16 k16)]) rfl ii_ (I276.nth 1 rfl) e444 rfl rfl (wo_ (bd_ (v := (.agg #[(.slice z15 m15 k15), (.slice z138 m138 k138), (.slice z139 m139 k139), (.slice z16 m16 k16)])) (cs := #[(.slice none 0 0), (.slice none 0 0), (.slice none 0 0), (.slice none 0 0)]) ii_ I276 e443 rfl rfl nb rfl (fun w192 (I277 : Inv w192 S118 (ao_ g2 27 #[(.slice z15 m15 k15), (.slice z138 m138 k138), (.slice z139 m139 k139), (.slice z16 m16 k16)] :: ao_ (gt_ (pt_ g5)) 27 #[(.slice z15 m15 k15), (.slice z138 m138 k138), (.slice z139 m139 k139), (.slice z16 m16 k16)] :: Row (α := CodeLock) 62 (.slice z15 m15 k15) (x1) :: Row (α := (List Int)) 28 (.slice z138 m138 k138) (out4.1) :: hg_ (α := Clue) 63 30 (.slice z139 m139 k139) (rw4) (out4.2) :: Row (α := Tie) 75 (.slice z16 m16 k16) (x2) :: Fr)) => (ad_ (al_ ?_))))))))
 obtain ⟨S119, le119, I278, r75⟩ := Inv.rowFreeze (I277.pull 2)
 obtain ⟨S120, le120, I279, r76⟩ := Inv.rowFreeze (I278.pull 2)
 obtain ⟨S121, le121, I280, r77⟩ := Inv.rowFreeze (I279.pull 3)
 obtain rfl := sj h
 exact ⟨ed35, (.agg #[(.slice z15 m15 k15), (.slice z138 m138 k138), (.slice z139 m139 k139), (.slice z16 m16 k16)]), (resC (cs := #[(.slice z15 m15 k15), (.slice z138 m138 k138), (.slice z139 m139 k139), (.slice z16 m16 k16)]) rfl e443 ii_ I277), _, [hg_ (α := Clue) 63 30 (.slice z139 m139 k139) (rw4) (out4.2)], (((((le1.trans le13).trans le118).trans le119).trans le120).trans le121), ((I280).drop).drop, _, _, _, _, _, _, _, rfl, rfl, (r75.mono (le120.trans le121)), (r76.mono le121), hl4, r77⟩
theorem hints_tell_ok {w : World} {S : PH} {Fr : List HP} {a0 : Riddle} {v0 : Value} {a1 : Aid} {v1 : Value} {r : Riddle} (hI : Inv w S (Fr)) (h0_ : RV S v0 a0) (h1_ : RV S v1 a1) (h : iw_ a0 a1 = some r) :
    Calls Tryz.prog 53 [v0, v1].toArray w (ms_ S Fr (fun T_ v_ O_ => ∃ (c0_ : Value), v_ = c0_ ∧ O_ = [] ∧ RV T_ c0_ r)) := by
 unfold iw_ at h
 obtain ⟨c1, c2, c3, c4, e1, r1, r2, r3, r4⟩ := Riddle.inv h0_
 subst e1
 obtain ⟨z1, m1, k1, rfl⟩ := af_ r1
 obtain ⟨z2, m2, k2, rfl⟩ := af_ r2
 obtain ⟨z3, m3, k3, rfl⟩ := af_ r3
 obtain ⟨z4, m4, k4, rfl⟩ := af_ r4
 obtain ⟨c5, e6, r5⟩ := Aid.inv h1_
 subst e6
 obtain ⟨z5, m5, k5, rfl⟩ := af_ r5
 refine ar_ (n := 25) (vs := [(.agg #[(.slice z1 m1 k1), (.slice z2 m2 k2), (.slice z3 m3 k3), (.slice z4 m4 k4)]), (.agg #[(vi a1.Lock), (vi a1.Clue.Kind), (vi a1.Clue.A), (vi a1.Clue.B), (vi a1.Clue.N), (vi a1.Clue.M), (.slice z5 m5 k5), (vb a1.Clue.Not)])]) Tryz.func53 rfl rfl rfl (ab_ (aa_ (wo_ (bi_ (v := (.agg #[(.slice z1 m1 k1), (.slice z2 m2 k2), (.slice z3 m3 k3), (.slice z4 m4 k4)])) rfl hI rfl (fun g1 w1 I1 => ?_)))))
 obtain ⟨S1, le1, I2, p1⟩ := Inv.boxFreeze (x := a0) I1 (Riddle.rv (s := a0) r1 r2 r3 r4)
 refine wo_ (bi_ (v := (.agg #[(vi a1.Lock), (vi a1.Clue.Kind), (vi a1.Clue.A), (vi a1.Clue.B), (vi a1.Clue.N), (vi a1.Clue.M), (.slice z5 m5 k5), (vb a1.Clue.Not)])) rfl I2 rfl (fun g2 w2 I3 => ?_))
 obtain ⟨S2, le2, I4, p2⟩ := Inv.boxFreeze (x := a1) I3 (Aid.rv (s := a1) (r5.mono le1))
 refine wo_ (ca_ (z := (.agg #[(.slice none 0 0), (.slice none 0 0), (.slice none 0 0), (.slice none 0 0)])) rfl I4 zo27 (fun g3 w3 (I5 : Inv w3 S2 (ao_ g3 27 #[(.slice none 0 0), (.slice none 0 0), (.slice none 0 0), (.slice none 0 0)] :: Fr)) => (ad_ (ab_ (aa_ (wo_ (an_ (v := (pt_ g1)) (e := a0) rfl ii_ rfl ((p1.mono le2).at_ I5) (fun u1 hu1 => ?_))))))))
 obtain ⟨c6, c7, c8, c9, e8, r6, r7, r8, r9⟩ := Riddle.inv hu1
 subst e8
 obtain ⟨z6, m6, k6, rfl⟩ := af_ r6
 obtain ⟨z7, m7, k7, rfl⟩ := af_ r7
 obtain ⟨z8, m8, k8, rfl⟩ := af_ r8
 obtain ⟨z9, m9, k9, rfl⟩ := af_ r9
 obtain ⟨x1, hx1, h⟩ := bnd h
 refine wo_ (bo_ (vs := [(.agg #[(.slice z6 m6 k6), (.slice z7 m7 k7), (.slice z8 m8 k8), (.slice z9 m9 k9)])]) rfl ca86 rfl (fk_ rfl) (hints_clone_ok I5 (Riddle.rv (s := a0) r6 r7 r8 r9) hx1) (fun cv1 w4 S3 O1 le3 I6 hv1 => ?_))
 obtain ⟨c10, c11, z10, m10, k10, rw1, c12, rfl, rfl, r10, r11, hl1, r12⟩ := hv1
 obtain ⟨z11, m11, k11, rfl⟩ := af_ r10
 obtain ⟨z12, m12, k12, rfl⟩ := af_ r11
 obtain ⟨z13, m13, k13, rfl⟩ := af_ r12
 refine wo_ (ca_ (z := (.agg #[(.slice none 0 0), (.slice none 0 0), (.slice none 0 0), (.slice none 0 0)])) rfl I6 zo27 (fun g4 w5 (I7 : Inv w5 S3 (ao_ g4 27 #[(.slice none 0 0), (.slice none 0 0), (.slice none 0 0), (.slice none 0 0)] :: hg_ (α := Clue) 63 30 (.slice z10 m10 k10) (rw1) (x1.Known) :: ao_ g3 27 #[(.slice none 0 0), (.slice none 0 0), (.slice none 0 0), (.slice none 0 0)] :: Fr)) => (wo_ (bd_ (v := (.agg #[(.slice z11 m11 k11), (.slice z12 m12 k12), (.slice z10 m10 k10), (.slice z13 m13 k13)])) (cs := #[(.slice none 0 0), (.slice none 0 0), (.slice none 0 0), (.slice none 0 0)]) ii_ I7 rfl rfl rfl nb rfl (fun w6 (I8 : Inv w6 S3 (ao_ g4 27 #[(.slice z11 m11 k11), (.slice z12 m12 k12), (.slice z10 m10 k10), (.slice z13 m13 k13)] :: hg_ (α := Clue) 63 30 (.slice z10 m10 k10) (rw1) (x1.Known) :: ao_ g3 27 #[(.slice none 0 0), (.slice none 0 0), (.slice none 0 0), (.slice none 0 0)] :: Fr)) => (ad_ (ab_ ?_)))))))
 obtain ⟨x2, hx2, h⟩ := bnd h
 obtain ⟨rr1, hr1⟩ := ny_ hl1 hx2
 obtain ⟨x3, hx3, h⟩ := bnd h
 obtain ⟨x4, hx4, h⟩ := bnd h
 refine bm_ (sps := [spV 8 [] 0 (.pointer (some ⟨g4, 2, none⟩)), ⟨some 9, [0], [1], fun vs_ T_ => fr0 vs_ 0 = (.slice z10 m10 k10), [0], [], [], fun _ h_ => h_⟩, spV 10 [] 2 (ae_ (pt_ g2) 0), spV 11 [2] 3 (vi a1.Lock), spV 12 [] 4 (.pointer (some ⟨g4, 2, none⟩)), ⟨some 13, [4], [5], fun vs_ T_ => fr0 vs_ 0 = (.slice z10 m10 k10), [0], [], [], fun _ h_ => h_⟩, spV 14 [] 6 (ae_ (pt_ g2) 0), spV 15 [6] 7 (vi a1.Lock), ⟨some 16, [4, 5, 6, 7], [8], fun vs_ T_ => fr0 vs_ 0 = (ah_ (.slice z10 m10 k10) (a1.Lock) (Enc.sz Raw)), [1], [], [], fun _ h_ => h_⟩, ⟨some 17, [4, 5, 6, 7, 8], [9], fun vs_ T_ => fr0 vs_ 0 = (rr1.v), [1], [], [], fun _ h_ => h_⟩, spV 18 [] 10 (ae_ (pt_ g2) 1), spR 19 [10] 11 (a1.Clue), spR 20 [10, 11] 12 x3, ⟨some 21, [10, 11, 12], [13], fun vs_ T_ => ∃ a_ n_ k_, fr0 vs_ 0 = Value.slice a_ n_ k_, [], [], [2], fun _ h_ => h_⟩, ⟨some 22, [4, 5, 6, 7, 8, 9, 10, 11, 12, 13], [14], fun vs_ T_ => ∃ a_ n_ k_, fr0 vs_ 0 = Value.slice a_ n_ k_, [2], [1], [3, 4, 5], fun _ h_ => h_⟩, ⟨some 23, (lrg 15), [15], fun vs_ T_ => fr0 vs_ 0 = (ah_ (.slice z10 m10 k10) (a1.Lock) (Enc.sz Raw)), [5], [], [], fun _ h_ => h_⟩, ⟨none, (lrg 16), [], fun vs_ T_ => True, [], [5, 3, 4], [6], fun _ h_ => h_⟩]) (tks := [⟨none, none, [], fun vs_ => ao_ g4 27 #[(.slice z11 m11 k11), (.slice z12 m12 k12), (.slice z10 m10 k10), (.slice z13 m13 k13)]⟩, ⟨none, some 14, [], fun vs_ => hg_ (α := Clue) 63 30 (.slice z10 m10 k10) (rw1) (x1.Known)⟩, ⟨some 13, none, [13], fun vs_ => Row (α := Clue) 30 (fr0 vs_ 0) (([x3] : List Clue))⟩, ⟨some 14, some 16, [14], fun vs_ => Row (α := Clue) 30 (fr0 vs_ 0) (x4)⟩, ⟨some 14, some 16, [], fun vs_ => ml_ (α := Clue) 30 (rw1) (x1.Known) (a1.Lock).toNat⟩, ⟨some 14, some 16, [], fun vs_ => Row (α := Raw) 63 (.slice z10 m10 k10) (rw1)⟩, ⟨some 16, none, [14], fun vs_ => hg_ (α := Clue) 63 30 (.slice z10 m10 k10) (rw1.set (a1.Lock).toNat ⟨(fr0 vs_ 0)⟩) (x1.Known.set (a1.Lock).toNat x4)⟩]) (O := ao_ g3 27 #[(.slice none 0 0), (.slice none 0 0), (.slice none 0 0), (.slice none 0 0)] :: Fr) rfl (by kernel_rfl) ((I8.pull 1).pull 1) ⟨fun vs f w U X l A K I => pl_ rfl (az_ (v := (pt_ g4)) rfl jo_ (K 5 (am_ rfl)) rfl (fn rfl rfl I)), ?_, fun vs f w U X l A K I => pl_ rfl (ac_ (v := (pt_ g2)) rfl fa32_0 (K 3 (am_ rfl)) ((p2.mono (le3.trans l)).at_ I) (fn rfl rfl I)), fun vs f w U X l A K I => pl_ rfl (ag_ (v := (ae_ (pt_ g2) 0)) (e := a1.Lock) rfl sh3 (A.u 0 rfl rfl rfl) (((p2.mono (le3.trans l)).at_ I).fld Aid.fld0) (fn rfl rfl I)), fun vs f w U X l A K I => pl_ rfl (az_ (v := (pt_ g4)) rfl jo_ (K 5 (am_ rfl)) rfl (fn rfl rfl I)), ?_, fun vs f w U X l A K I => pl_ rfl (ac_ (v := (pt_ g2)) rfl fa32_0 (K 3 (am_ rfl)) ((p2.mono (le3.trans l)).at_ I) (fn rfl rfl I)), fun vs f w U X l A K I => pl_ rfl (ag_ (v := (ae_ (pt_ g2) 0)) (e := a1.Lock) rfl sh3 (A.u 0 rfl rfl rfl) (((p2.mono (le3.trans l)).at_ I).fld Aid.fld0) (fn rfl rfl I)), ?_, ?_, fun vs f w U X l A K I => pl_ rfl (ac_ (v := (pt_ g2)) rfl fa32_1 (K 3 (am_ rfl)) ((p2.mono (le3.trans l)).at_ I) (fn rfl rfl I)), ?_, ?_, ?_, ?_, ?_, ?_, trivial⟩ ?_
 ·
  intro vs f w_ U X le A K I
  have I15 : Inv w_ U (ao_ g4 27 #[(Value.slice z11 m11 k11), (Value.slice z12 m12 k12), (Value.slice z10 m10 k10), (Value.slice z13 m13 k13)] :: X) := I
  refine pl_ rfl (be_ (c := (.slice z10 m10 k10)) rfl sh24 (I15.nth 0 rfl) (A.u 0 rfl rfl rfl) rfl (fn rfl rfl I15))
 ·
  intro vs f w_ U X le A K I
  have I19 : Inv w_ U (ao_ g4 27 #[(Value.slice z11 m11 k11), (Value.slice z12 m12 k12), (Value.slice z10 m10 k10), (Value.slice z13 m13 k13)] :: X) := I
  refine pl_ rfl (be_ (c := (.slice z10 m10 k10)) rfl sh24 (I19.nth 0 rfl) (A.u 0 rfl rfl rfl) rfl (fn rfl rfl I19))
 ·
  intro vs f w_ U X le A K I
  have I22 : Inv w_ U (hg_ (α := Clue) 63 30 (Value.slice z10 m10 k10) (rw1) (x1.Known) :: X) := I
  refine pl_ rfl (fv_ (v := (.slice z10 m10 k10)) (i := a1.Lock) (r := rr1) rfl Tryz.underlying24 sh63 (I22.nth 0 rfl) (A.u 1 rfl rfl rfl) (A.u 3 rfl rfl rfl) hr1 (fn rfl rfl I22))
 ·
  intro vs f w_ U X le A K I
  have I23 : Inv w_ U (hg_ (α := Clue) 63 30 (Value.slice z10 m10 k10) (rw1) (x1.Known) :: X) := I
  have q7 := A.u 4 rfl rfl rfl
  refine pl_ rfl (an_ (α := Raw) (v := (ah_ (.slice z10 m10 k10) (a1.Lock) (Enc.sz Raw))) (e := rr1) rfl sh63 q7 (Inv.gridRowAt (I23.nth 0 rfl) hr1) (fun u6 hu4 => ?_))
  obtain rfl := rv_raw hu4
  refine ⟨_, _, rfl, lr, ?_, ?_⟩
  · exact rfl
  exact I23
 ·
  intro vs f w_ U X le A K I
  have q8 := A.u 0 rfl rfl rfl
  refine pl_ rfl (an_ (v := (ae_ (pt_ g2) 1)) (e := a1.Clue) rfl mg_ q8 (((p2.mono (le3.trans le)).at_ I).fld Aid.fld1) (fun u7 hu5 => ?_))
  obtain ⟨c13, e16, r13⟩ := Clue.inv hu5
  subst e16
  obtain ⟨z14, m14, k14, rfl⟩ := af_ r13
  refine ⟨_, _, rfl, lr, ?_, ?_⟩
  · exact (Clue.rv (s := a1.Clue) r13)
  exact I
 ·
  intro vs f w_ U X le A K I
  have q9 : f 19 = vs 11 := (A.at_ 1 rfl _ rfl).1 _ rfl
  have r14 : RV U (vs 11) a1.Clue := (A.at_ 1 rfl _ rfl).2
  obtain ⟨u8, hu6⟩ : ∃ u, vs 11 = u := ⟨_, rfl⟩
  rw [hu6] at q9 r14
  obtain ⟨c14, e18, r15⟩ := Clue.inv r14
  subst e18
  obtain ⟨z15, m15, k15, rfl⟩ := af_ r15
  refine pl_ rfl (bo_ (vs := [(.agg #[(vi a1.Clue.Kind), (vi a1.Clue.A), (vi a1.Clue.B), (vi a1.Clue.N), (vi a1.Clue.M), (.slice z15 m15 k15), (vb a1.Clue.Not)])]) rfl ca87 rfl (fk_ q9) (kw_ I (Clue.rv (s := a1.Clue) r15) hx3) (fun cv2 w23 S17 O2 le17 I27 hv2 => ?_))
  obtain ⟨c15, rfl, rfl, r16⟩ := hv2
  obtain ⟨c16, e20, r17⟩ := Clue.inv r16
  subst e20
  obtain ⟨z16, m16, k16, rfl⟩ := af_ r17
  refine ⟨_, _, rfl, le17, ?_, ?_⟩
  · exact (Clue.rv (s := x3) r17)
  exact I27
 ·
  intro vs f w_ U X le A K I
  have q10 : f 20 = vs 12 := (A.at_ 2 rfl _ rfl).1 _ rfl
  have r18 : RV U (vs 12) x3 := (A.at_ 2 rfl _ rfl).2
  obtain ⟨u9, hu7⟩ : ∃ u, vs 12 = u := ⟨_, rfl⟩
  rw [hu7] at q10 r18
  obtain ⟨c17, e22, r19⟩ := Clue.inv r18
  subst e22
  obtain ⟨z17, m17, k17, rfl⟩ := af_ r19
  refine pl_ rfl (bh_ (vs := [(.agg #[(vi x3.Kind), (vi x3.A), (vi x3.B), (vi x3.N), (vi x3.M), (.slice z17 m17 k17), (vb x3.Not)])]) (r := ([x3] : List Clue)) rfl Tryz.underlying63 el30 (ij_ q10) rfl (by decide) (by decide) ⟨(Clue.rv (s := x3) r19), trivial⟩ I (fun u10 w25 I29 => ?_))
  obtain ⟨z18, m18, k18, e24⟩ := bk_ I29
  subst e24
  refine ⟨_, _, rfl, lr, ?_, ?_⟩
  · exact ⟨_, _, _, rfl⟩
  exact I29
 ·
  intro vs f w_ U X le A K I
  have I30 : Inv w_ U (hg_ (α := Clue) 63 30 (Value.slice z10 m10 k10) (rw1) (x1.Known) :: Row (α := Clue) 30 (vs 13) (([x3] : List Clue)) :: X) := I
  have q11 := A.u 5 rfl rfl rfl
  obtain ⟨z19, m19, k19, e25⟩ := (A.at_ 9 rfl _ rfl).2
  have q12 : f 21 = Value.slice z19 m19 k19 := ((A.at_ 9 rfl _ rfl).1 _ rfl).trans e25
  have e25 : vs 13 = (Value.slice z19 m19 k19) := e25
  have I31 := I30
  rw [e25] at I31
  have I32 := Inv.gridTake I31 hr1 hx2
  refine pl_ rfl (ef_ (α := Clue) (v := (rr1.v)) (u := (.slice z19 m19 k19)) rfl rfl Tryz.underlying63 el30 (by decide) (by decide) q11 q12 I32 (Inv.rowSrc (I32.nth 3 rfl)) hx4 (fun u11 w27 I33 => ?_))
  obtain ⟨z20, m20, k20, e26⟩ := bk_ I33
  subst e26
  refine ⟨_, _, rfl, lr, ?_, ?_⟩
  · exact ⟨_, _, _, rfl⟩
  show Inv _ _ (Row (α := Clue) 30 ((Value.slice z20 m20 k20)) (x4) :: ml_ (α := Clue) 30 (rw1) (x1.Known) (a1.Lock).toNat :: Row (α := Raw) 63 (Value.slice z10 m10 k10) (rw1) :: Row (α := Clue) 30 (vs 13) (([x3] : List Clue)) :: X)
  simp only [e25]
  exact ((((I33.pull 3).pull 2).pull 3).pull 3)
 ·
  intro vs f w_ U X le A K I
  have I34 : Inv w_ U (Row (α := Raw) 63 (Value.slice z10 m10 k10) (rw1) :: X) := I
  refine pl_ rfl (bf_ (α := Raw) (v := (.slice z10 m10 k10)) (i := a1.Lock) (e := rr1) rfl Tryz.underlying24 sh63 (A.u 1 rfl rfl rfl) (Inv.rowSrc (I34.nth 0 rfl)) (A.u 3 rfl rfl rfl) hr1 (fn rfl rfl I34))
 ·
  intro vs f w_ U X le A K I
  have I35 : Inv w_ U (Row (α := Raw) 63 (Value.slice z10 m10 k10) (rw1) :: Row (α := Clue) 30 (vs 14) (x4) :: ml_ (α := Clue) 30 (rw1) (x1.Known) (a1.Lock).toNat :: X) := I
  obtain ⟨z21, m21, k21, e27⟩ := (A.at_ 14 rfl _ rfl).2
  have q15 : f 22 = Value.slice z21 m21 k21 := ((A.at_ 14 rfl _ rfl).1 _ rfl).trans e27
  have e27 : vs 14 = (Value.slice z21 m21 k21) := e27
  have I36 := I35
  rw [e27] at I36
  have q16 := A.u 15 rfl rfl rfl
  refine pl_ rfl (dr_ (α := Raw) (u := (.slice z21 m21 k21)) (e' := (⟨(.slice z21 m21 k21)⟩ : Raw)) sh63 I36 q16 q15 hr1 (op_ rfl) (fun w30 I37 => ?_))
  have I38 := Inv.gridGive hr1 hx2 (((I37.pull 2).pull 1).pull 2)
  refine ⟨undef, _, rfl, lr, ?_, ?_⟩
  · exact trivial
  show Inv _ _ (hg_ (α := Clue) 63 30 (Value.slice z10 m10 k10) (rw1.set (a1.Lock).toNat ⟨(vs 14)⟩) (x1.Known.set (a1.Lock).toNat x4) :: X)
  simp only [e27]
  exact I38
 intro vs18 f w31 S22 ed1 le22 hF1 hK18 hI18
 have e28 : f 4 = (pt_ g3) := (hK18 4 (au_ rfl)).trans rfl
 have e29 : f 5 = (pt_ g4) := (hK18 5 (au_ rfl)).trans rfl
 have I39 : Inv w31 S22 (ao_ g4 27 #[(Value.slice z11 m11 k11), (Value.slice z12 m12 k12), (Value.slice z10 m10 k10), (Value.slice z13 m13 k13)] :: Row (α := Clue) 30 (vs18 13) (([x3] : List Clue)) :: hg_ (α := Clue) 63 30 (Value.slice z10 m10 k10) (rw1.set (a1.Lock).toNat ⟨(vs18 14)⟩) (x1.Known.set (a1.Lock).toNat x4) :: ao_ g3 27 #[(Value.slice none 0 0), (Value.slice none 0 0), (Value.slice none 0 0), (Value.slice none 0 0)] :: Fr) := hI18
 obtain ⟨z22, m22, k22, e30⟩ := (hF1.at_ 13 rfl _ rfl).2
 have q17 : f 21 = Value.slice z22 m22 k22 := ((hF1.at_ 13 rfl _ rfl).1 _ rfl).trans e30
 have e30 : vs18 13 = (Value.slice z22 m22 k22) := e30
 have I40 := I39
 rw [e30] at I40
 obtain ⟨z23, m23, k23, e31⟩ := (hF1.at_ 14 rfl _ rfl).2
 have q18 : f 22 = Value.slice z23 m23 k23 := ((hF1.at_ 14 rfl _ rfl).1 _ rfl).trans e31
 have e31 : vs18 14 = (Value.slice z23 m23 k23) := e31
 have I41 := I40
 rw [e31] at I41
 refine ab_ (aa_ (wo_ (cz_ (l := [(.slice z11 m11 k11), (.slice z12 m12 k12), (.slice z10 m10 k10), (.slice z13 m13 k13)]) rfl ii_ (I41.nth 0 rfl) e29 rfl rfl (wo_ (bd_ (v := (.agg #[(.slice z11 m11 k11), (.slice z12 m12 k12), (.slice z10 m10 k10), (.slice z13 m13 k13)])) (cs := #[(.slice none 0 0), (.slice none 0 0), (.slice none 0 0), (.slice none 0 0)]) ii_ (I41.pull 3) e28 rfl rfl nb rfl (fun w32 (I42 : Inv w32 S22 (ao_ g3 27 #[(.slice z11 m11 k11), (.slice z12 m12 k12), (.slice z10 m10 k10), (.slice z13 m13 k13)] :: ao_ g4 27 #[(.slice z11 m11 k11), (.slice z12 m12 k12), (.slice z10 m10 k10), (.slice z13 m13 k13)] :: Row (α := Clue) 30 (.slice z22 m22 k22) (([x3] : List Clue)) :: hg_ (α := Clue) 63 30 (.slice z10 m10 k10) (rw1.set (a1.Lock).toNat ⟨(.slice z23 m23 k23)⟩) (x1.Known.set (a1.Lock).toNat x4) :: Fr)) => (ad_ (al_ ?_))))))))
 obtain ⟨S23, le23, I43, r20⟩ := Inv.gridFreeze (I42.pull 3) (grid_set hl1)
 obtain rfl := sj h
 exact ⟨(ed1.trans rfl), (.agg #[(.slice z11 m11 k11), (.slice z12 m12 k12), (.slice z10 m10 k10), (.slice z13 m13 k13)]), (resC (cs := #[(.slice z11 m11 k11), (.slice z12 m12 k12), (.slice z10 m10 k10), (.slice z13 m13 k13)]) rfl e28 ii_ I42), _, [], ((((le1.trans le2).trans le3).trans le22).trans le23), (((I43).drop).drop).drop, _, rfl, rfl, (Riddle.rv (s := (⟨x1.Locks, x1.Codes, x1.Known.set (a1.Lock).toNat x4, x1.Ties⟩ : Riddle)) (r10.mono (le22.trans le23)) (r11.mono (le22.trans le23)) r20 (r12.mono (le22.trans le23)))⟩
theorem kg_ {w : World} {S : PH} {Fr : List HP} {a0 : Riddle} {v0 : Value} {a1 : Aid} {v1 : Value} {r : (ORef Hints_room) × (ORef Hints_room) × Int} (hI : Inv w S (Fr)) (h0_ : RV S v0 a0) (h1_ : RV S v1 a1) (h : fy_ a0 a1 = some r) :
    Calls Tryz.prog 37 [v0, v1].toArray w (ms_ S Fr (fun T_ v_ O_ => ∃ (c0_ : Value) (c1_ : Value), v_ = (Value.tuple #[c0_, c1_, (Value.int .i64 (r.2.2))]) ∧ O_ = [] ∧ RV T_ c0_ r.1 ∧ RV T_ c1_ r.2.1)) := by
 unfold fy_ at h
 obtain ⟨c1, c2, c3, c4, e1, r1, r2, r3, r4⟩ := Riddle.inv h0_
 subst e1
 obtain ⟨z1, m1, k1, rfl⟩ := af_ r1
 obtain ⟨z2, m2, k2, rfl⟩ := af_ r2
 obtain ⟨z3, m3, k3, rfl⟩ := af_ r3
 obtain ⟨z4, m4, k4, rfl⟩ := af_ r4
 obtain ⟨c5, e6, r5⟩ := Aid.inv h1_
 subst e6
 obtain ⟨z5, m5, k5, rfl⟩ := af_ r5
 refine ar_ (n := 33) (vs := [(.agg #[(.slice z1 m1 k1), (.slice z2 m2 k2), (.slice z3 m3 k3), (.slice z4 m4 k4)]), (.agg #[(vi a1.Lock), (vi a1.Clue.Kind), (vi a1.Clue.A), (vi a1.Clue.B), (vi a1.Clue.N), (vi a1.Clue.M), (.slice z5 m5 k5), (vb a1.Clue.Not)])]) Tryz.func37 rfl rfl rfl (ab_ (aa_ (wo_ (bi_ (v := (.agg #[(.slice z1 m1 k1), (.slice z2 m2 k2), (.slice z3 m3 k3), (.slice z4 m4 k4)])) rfl hI rfl (fun g1 w1 I1 => ?_)))))
 obtain ⟨S1, le1, I2, p1⟩ := Inv.boxFreeze (x := a0) I1 (Riddle.rv (s := a0) r1 r2 r3 r4)
 refine wo_ (bi_ (v := (.agg #[(vi a1.Lock), (vi a1.Clue.Kind), (vi a1.Clue.A), (vi a1.Clue.B), (vi a1.Clue.N), (vi a1.Clue.M), (.slice z5 m5 k5), (vb a1.Clue.Not)])) rfl I2 rfl (fun g2 w2 I3 => ?_))
 obtain ⟨S2, le2, I4, p2⟩ := Inv.boxFreeze (x := a1) I3 (Aid.rv (s := a1) (r5.mono le1))
 refine wa_ (v := (.pointer none)) rfl rfl (wa_ (v := (.pointer none)) rfl rfl (wa_ (v := (vi 0)) rfl rfl (ad_ (ab_ (ab_ (aa_ (wo_ (an_ (v := (pt_ g1)) (e := a0) rfl ii_ rfl ((p1.mono le2).at_ I4) (fun u1 hu1 => ?_)))))))))
 obtain ⟨c6, c7, c8, c9, e8, r6, r7, r8, r9⟩ := Riddle.inv hu1
 subst e8
 obtain ⟨z6, m6, k6, rfl⟩ := af_ r6
 obtain ⟨z7, m7, k7, rfl⟩ := af_ r7
 obtain ⟨z8, m8, k8, rfl⟩ := af_ r8
 obtain ⟨z9, m9, k9, rfl⟩ := af_ r9
 obtain ⟨x1, hx1, h⟩ := bnd h
 refine wo_ (bo_ (vs := [(.agg #[(.slice z6 m6 k6), (.slice z7 m7 k7), (.slice z8 m8 k8), (.slice z9 m9 k9)])]) rfl ca71 rfl (fk_ rfl) (fc_ I4 (Riddle.rv (s := a0) r6 r7 r8 r9) hx1) (fun cv1 w3 S3 O1 le3 I5 hv1 => ?_))
 obtain ⟨c10, rfl, rfl, r10⟩ := hv1
 refine wm_ (v := (Value.tuple #[c10, (vi x1.2)])) rfl rfl (wo_ (bc_ (v := c10) rfl rfl rfl (wo_ (bc_ (v := (vi x1.2)) rfl rfl rfl (wa_ (v := c10) rfl rfl (wa_ (v := (vi x1.2)) rfl rfl (ad_ (ab_ (aa_ (wm_ (v := (vi x1.2)) rfl rfl (wo_ (cd_ (a := x1.2) (b := 0) rfl rfl rfl (ad_ ?_)))))))))))))
 rcases ifs h with ⟨hc1, h⟩ | ⟨hc1, h⟩
 ·
  refine ai_ (b := x1.2 != 0) rfl hc1 (ab_ (aa_ (wm_ (v := (vi x1.2)) rfl rfl (wa_ (v := (.pointer none)) rfl rfl (wa_ (v := (.pointer none)) rfl rfl (wa_ (v := (vi x1.2)) rfl rfl (ad_ (al_ ?_))))))))
  obtain rfl := sj h
  exact ⟨rfl, (Value.tuple #[(.pointer none), (.pointer none), (vi x1.2)]), (res3 rfl rfl rfl rfl), _, [], ((le1.trans le2).trans le3), I5, _, _, rfl, rfl, li_, li_⟩
 refine ak_ (b := x1.2 != 0) rfl hc1 (av_ (ab_ (ab_ (aa_ (wo_ (an_ (v := (pt_ g1)) (e := a0) rfl ii_ rfl ((p1.mono (le2.trans le3)).at_ I5) (fun u2 hu2 => ?_)))))))
 obtain ⟨c11, c12, c13, c14, e13, r11, r12, r13, r14⟩ := Riddle.inv hu2
 subst e13
 obtain ⟨z10, m10, k10, rfl⟩ := af_ r11
 obtain ⟨z11, m11, k11, rfl⟩ := af_ r12
 obtain ⟨z12, m12, k12, rfl⟩ := af_ r13
 obtain ⟨z13, m13, k13, rfl⟩ := af_ r14
 refine wo_ (an_ (v := (pt_ g2)) (e := a1) rfl sh32 rfl ((p2.mono le3).at_ I5) (fun u3 hu3 => ?_))
 obtain ⟨c15, e18, r15⟩ := Aid.inv hu3
 subst e18
 obtain ⟨z14, m14, k14, rfl⟩ := af_ r15
 obtain ⟨x2, hx2, h⟩ := bnd h
 refine wo_ (ap_ (vs := [(.agg #[(.slice z10 m10 k10), (.slice z11 m11 k11), (.slice z12 m12 k12), (.slice z13 m13 k13)]), (.agg #[(vi a1.Lock), (vi a1.Clue.Kind), (vi a1.Clue.A), (vi a1.Clue.B), (vi a1.Clue.N), (vi a1.Clue.M), (.slice z14 m14 k14), (vb a1.Clue.Not)])]) (r := (vb x2)) rfl ca73 rfl (bt_ rfl rfl) I5 (fun Fr_ hF_ => oi_ hF_ (Riddle.rv (s := a0) r11 r12 r13 r14) (Aid.rv (s := a1) r15) hx2) (fun w4 I6 => (wo_ (bz_ (b := x2) rfl rfl (ad_ ?_)))))
 rcases ifs h with ⟨hc2, h⟩ | ⟨hc2, h⟩
 ·
  refine ai_ (b := !x2) rfl hc2 (ab_ (aa_ (wa_ (v := (.pointer none)) rfl rfl (wa_ (v := (.pointer none)) rfl rfl (wa_ (v := (vi 70)) rfl rfl (ad_ (al_ ?_)))))))
  obtain rfl := sj h
  exact ⟨rfl, (Value.tuple #[(.pointer none), (.pointer none), (vi 70)]), (res3 rfl rfl rfl rfl), _, [], ((le1.trans le2).trans le3), I6, _, _, rfl, rfl, li_, li_⟩
 refine ak_ (b := !x2) rfl hc2 (av_ (ab_ (ab_ (aa_ (wo_ (an_ (v := (pt_ g1)) (e := a0) rfl ii_ rfl ((p1.mono (le2.trans le3)).at_ I6) (fun u4 hu4 => ?_)))))))
 obtain ⟨c16, c17, c18, c19, e20, r16, r17, r18, r19⟩ := Riddle.inv hu4
 subst e20
 obtain ⟨z15, m15, k15, rfl⟩ := af_ r16
 obtain ⟨z16, m16, k16, rfl⟩ := af_ r17
 obtain ⟨z17, m17, k17, rfl⟩ := af_ r18
 obtain ⟨z18, m18, k18, rfl⟩ := af_ r19
 refine wo_ (ac_ (v := (pt_ g2)) rfl fa32_0 rfl ((p2.mono le3).at_ I6) (wo_ (ag_ (v := (ae_ (pt_ g2) 0)) (e := a1.Lock) rfl sh3 rfl (((p2.mono le3).at_ I6).fld Aid.fld0) ?_)))
 obtain ⟨x3, hx3, h⟩ := bnd h
 refine wo_ (ap_ (vs := [(.agg #[(.slice z15 m15 k15), (.slice z16 m16 k16), (.slice z17 m17 k17), (.slice z18 m18 k18)]), (vi a1.Lock)]) (r := (vb x3)) rfl ca74 rfl (bt_ rfl rfl) I6 (fun Fr_ hF_ => hints_full_ok hF_ (Riddle.rv (s := a0) r16 r17 r18 r19) hx3) (fun w5 I7 => (ad_ ?_)))
 rcases ifs h with ⟨hc3, h⟩ | ⟨hc3, h⟩
 ·
  refine ai_ (b := x3) rfl hc3 (ab_ (aa_ (wa_ (v := (.pointer none)) rfl rfl (wa_ (v := (.pointer none)) rfl rfl (wa_ (v := (vi 2)) rfl rfl (ad_ (al_ ?_)))))))
  obtain rfl := sj h
  exact ⟨rfl, (Value.tuple #[(.pointer none), (.pointer none), (vi 2)]), (res3 rfl rfl rfl rfl), _, [], ((le1.trans le2).trans le3), I7, _, _, rfl, rfl, li_, li_⟩
 refine ak_ (b := x3) rfl hc3 (av_ (ab_ (aa_ (wo_ (an_ (v := (pt_ g1)) (e := a0) rfl ii_ rfl ((p1.mono (le2.trans le3)).at_ I7) (fun u5 hu5 => ?_))))))
 obtain ⟨c20, c21, c22, c23, e25, r20, r21, r22, r23⟩ := Riddle.inv hu5
 subst e25
 obtain ⟨z19, m19, k19, rfl⟩ := af_ r20
 obtain ⟨z20, m20, k20, rfl⟩ := af_ r21
 obtain ⟨z21, m21, k21, rfl⟩ := af_ r22
 obtain ⟨z22, m22, k22, rfl⟩ := af_ r23
 refine wo_ (an_ (v := (pt_ g2)) (e := a1) rfl sh32 rfl ((p2.mono le3).at_ I7) (fun u6 hu6 => ?_))
 obtain ⟨c24, e30, r24⟩ := Aid.inv hu6
 subst e30
 obtain ⟨z23, m23, k23, rfl⟩ := af_ r24
 obtain ⟨x4, hx4, h⟩ := bnd h
 refine wo_ (bo_ (vs := [(.agg #[(.slice z19 m19 k19), (.slice z20 m20 k20), (.slice z21 m21 k21), (.slice z22 m22 k22)]), (.agg #[(vi a1.Lock), (vi a1.Clue.Kind), (vi a1.Clue.A), (vi a1.Clue.B), (vi a1.Clue.N), (vi a1.Clue.M), (.slice z23 m23 k23), (vb a1.Clue.Not)])]) rfl ca53 rfl (bt_ rfl rfl) (hints_tell_ok I7 (Riddle.rv (s := a0) r20 r21 r22 r23) (Aid.rv (s := a1) r24) hx4) (fun cv2 w6 S4 O2 le4 I8 hv2 => ?_))
 obtain ⟨c25, rfl, rfl, r25⟩ := hv2
 obtain ⟨c26, c27, c28, c29, e32, r26, r27, r28, r29⟩ := Riddle.inv r25
 subst e32
 obtain ⟨z24, m24, k24, rfl⟩ := af_ r26
 obtain ⟨z25, m25, k25, rfl⟩ := af_ r27
 obtain ⟨z26, m26, k26, rfl⟩ := af_ r28
 obtain ⟨z27, m27, k27, rfl⟩ := af_ r29
 obtain ⟨x5, hx5, h⟩ := bnd h
 refine wo_ (bo_ (vs := [(.agg #[(.slice z24 m24 k24), (.slice z25 m25 k25), (.slice z26 m26 k26), (.slice z27 m27 k27)])]) rfl ca71 rfl (fk_ rfl) (fc_ I8 (Riddle.rv (s := x4) r26 r27 r28 r29) hx5) (fun cv3 w7 S5 O3 le5 I9 hv3 => ?_))
 obtain ⟨c30, rfl, rfl, r30⟩ := hv3
 refine wm_ (v := (Value.tuple #[c30, (vi x5.2)])) rfl rfl (wo_ (bc_ (v := c30) rfl rfl rfl (wo_ (bc_ (v := (vi x5.2)) rfl rfl rfl (wa_ (v := c30) rfl rfl (wa_ (v := (vi x5.2)) rfl rfl (ad_ (ab_ (aa_ (wm_ (v := c10) rfl rfl (wm_ (v := c30) rfl rfl (wm_ (v := (vi x5.2)) rfl rfl (wa_ (v := c10) rfl rfl (wa_ (v := c30) rfl rfl (wa_ (v := (vi x5.2)) rfl rfl (ad_ (al_ ?_)))))))))))))))))
 obtain rfl := sj h
 exact ⟨rfl, (Value.tuple #[c10, c30, (vi x5.2)]), (res3 rfl rfl rfl rfl), _, [], ((((le1.trans le2).trans le3).trans le4).trans le5), I9, _, _, rfl, rfl, (r10.mono (le4.trans le5)), r30⟩
theorem il_ {w : World} {S : PH} {Fr : List HP} {a0 : Hints_room} {v0 : Value} {r : (List (List (List Int)))} (hI : Inv w S (Fr)) (h0_ : PtS S v0 a0) (h : dc_ a0 = some r) :
    Calls Tryz.prog 67 [v0].toArray w (ms_ S Fr (fun T_ v_ O_ => ∃ (a0_ : Option Addr) (n0_ k0_ : Nat), v_ = (Value.slice a0_ n0_ k0_) ∧ O_ = [] ∧ RV T_ (Value.slice a0_ n0_ k0_) r)) := by
 unfold dc_ at h
 refine jh_ (n := 99) (vs := [v0]) Tryz.func67 rfl rfl rfl ?_
 have I1 := Inv.noD hI
 refine ab_ (aa_ (wa_ (v := (.slice none 0 0)) rfl rfl (ad_ (ab_ (aa_ (wm_ (v := v0) rfl rfl (wo_ (dx_ (v := v0) rfl rfl h0_ (wo_ (ac_ (v := v0) rfl fa70_0 rfl (h0_.at_ I1) (wo_ (ac_ (v := (ae_ v0 0)) rfl eb_ rfl ((h0_.at_ I1).fld Hints_room.fld0) (wo_ (an_ (v := (ae_ (ae_ v0 0) 0)) (e := a0.Riddle.Locks) rfl oe_ rfl (((h0_.at_ I1).fld Hints_room.fld0).fld Riddle.fld0) (fun u1 hu1 => ?_)))))))))))))))
 obtain ⟨z1, m1, k1, rfl⟩ := af_ hu1
 refine wo_ (bb_ rfl Tryz.underlying22 rfl hu1 ?_)
 obtain ⟨x1, hx1, h⟩ := bnd h
 obtain ⟨hm1, hm2⟩ := mk?_raw hx1
 refine wo_ (fu_ (α := Raw) (c := (a0.Riddle.Locks.length : Int)) rfl Tryz.underlying113 el114r (by decide) rfl rfl I1 hm1 (fun u2 w1 I2 => ?_))
 have I3 := Inv.gridNew (α := Bool) (Ti := 4) I2
 rw [← hm2] at I3
 obtain ⟨z2, m2, k2, e2⟩ := bk_ (Inv.gridOut I3)
 subst e2
 refine wo_ (ca_ (z := (.slice none 0 0)) rfl I3 zo113 (fun g1 w2 (I4 : Inv w2 S (ao_ g1 113 #[(.slice none 0 0)] :: hg_ (α := Bool) 114 4 (.slice z2 m2 k2) (List.replicate ((a0.Riddle.Locks.length : Int)).toNat ⟨.slice none 0 0⟩) (x1) :: pf_ ([]) :: Fr)) => (wo_ (bd_ (v := (.slice z2 m2 k2)) (cs := #[(.slice none 0 0)]) sh113 I4 rfl rfl rfl nb rfl (fun w3 (I5 : Inv w3 S (ao_ g1 113 #[(.slice z2 m2 k2)] :: hg_ (α := Bool) 114 4 (.slice z2 m2 k2) (List.replicate ((a0.Riddle.Locks.length : Int)).toNat ⟨.slice none 0 0⟩) (x1) :: pf_ ([]) :: Fr)) => (ad_ (ab_ (ab_ (aa_ (wm_ (v := v0) rfl rfl (wo_ (dx_ (v := v0) rfl rfl h0_ (wo_ (ac_ (v := v0) rfl fa70_1 rfl (h0_.at_ I5) (wo_ (an_ (v := (ae_ v0 4)) (e := a0.allowed) rfl sh55 rfl ((h0_.at_ I5).fld Hints_room.fld1) (fun u3 hu2 => ?_)))))))))))))))))
 obtain ⟨z3, m3, k3, rfl⟩ := af_ hu2
 refine wo_ (bb_ rfl Tryz.underlying55 rfl hu2 (wm_ (v := (vi 0)) rfl rfl (ad_ ?_)))
 have hk1 : a0.allowed.length ≤ 9223372036854775807 := (ea_ hu2)
 obtain ⟨out1, hrun1, h⟩ := bnd h
 refine bs_ (fun f w => ∃ (S_ : PH) (Ds5 : List Nat) (rw4 : List Raw), S.Le S_ ∧ Inv w S_ (pf_ (Ds5) :: ao_ g1 113 #[(.slice z2 m2 k2)] :: hg_ (α := Bool) 114 4 (.slice z2 m2 k2) (rw4) (out1) :: Fr) ∧ f 0 = v0 ∧ f 3 = (pt_ g1) ∧ f 24 = (.slice z3 m3 k3) ∧ f 25 = (vi ((a0.allowed.length : Int))) ∧ f.ds = mkDs Ds5 ∧ rw4.length = (out1).length) ?_ ?_
 ·
  refine ax_ ?_
  refine fj_ (I := fun (i1 : Nat) (s1 : (List (List Bool))) (f : Frm) (w : World) => ∃ (S_ : PH) (Ds4 : List Nat) (rw3 : List Raw), S.Le S_ ∧ Inv w S_ (pf_ (Ds4) :: ao_ g1 113 #[(.slice z2 m2 k2)] :: hg_ (α := Bool) 114 4 (.slice z2 m2 k2) (rw3) (s1) :: Fr) ∧ f 0 = v0 ∧ f 3 = (pt_ g1) ∧ f 24 = (.slice z3 m3 k3) ∧ f 25 = (vi ((a0.allowed.length : Int))) ∧ f 26 = (vi (i1 : Int)) ∧ f.ds = mkDs Ds4 ∧ rw3.length = (s1).length) hrun1 ⟨_, _, _, lr, (((I5.pull 1).pull 1).pull 2), rfl, rfl, rfl, rfl, rfl, rfl, (grid_new hm2)⟩ ?_ ?_
  ·
   rintro i1 s1 f w o1 hlt1 hI25 h1
   obtain ⟨S27, Ds4, rw3, le27, I63, e46, e47, e48, e49, e50, ed7, hl3⟩ := hI25
   refine ab_ (aa_ (wo_ (bg_ (a := (i1 : Int)) (b := (a0.allowed.length : Int)) rfl e50 e49 (ad_ (ab_ (ai_ (b := decide ((i1 : Int) < (a0.allowed.length : Int))) rfl (gg_ hlt1) (av_ (ab_ (ax_ (ab_ (aa_ (wm_ rfl e50 ?_))))))))))))
   obtain ⟨x11, hx11, h1⟩ := bnd h1
   refine wo_ (aj_ (v := (.slice z3 m3 k3)) (i := (i1 : Int)) (e := x11) rfl Tryz.underlying55 mh_ e48 (hu2.mono le27) e50 hx11 (wo_ (an_ (v := (ah_ (.slice z3 m3 k3) ((i1 : Int)) (Enc.sz (List (List Int))))) (e := x11) rfl mh_ rfl ((hu2.mono le27).elem I63.in_ hx11) (fun u13 hu6 => ?_))))
   obtain ⟨z16, m16, k16, rfl⟩ := af_ hu6
   refine wa_ (v := (vi (i1 : Int))) rfl rfl (wa_ (v := (.slice z16 m16 k16)) rfl rfl (ad_ ?_))
   obtain ⟨x12, hx12, h1⟩ := bnd h1
   obtain ⟨x13, hx13, h1⟩ := bnd h1
   obtain ⟨rr4, hr4⟩ := ny_ hl3 hx13
   refine bm_ (sps := [⟨some 31, [], [0], fun vs_ T_ => fr0 vs_ 0 = (.slice z2 m2 k2), [0], [], [], fun _ h_ => h_⟩, spV 32 [] 1 (vi (i1 : Int)), spV 33 [] 2 (.slice z16 m16 k16), spV 34 [2] 3 (vi ((x11.length : Int))), ⟨some 35, [2, 3], [4], fun vs_ T_ => ∃ a_ n_ k_, fr0 vs_ 0 = Value.slice a_ n_ k_, [], [], [1], fun _ h_ => h_⟩, ⟨some 36, [0, 1, 2, 3, 4], [5], fun vs_ T_ => fr0 vs_ 0 = (ah_ (.slice z2 m2 k2) ((i1 : Int)) (Enc.sz Raw)), [2], [], [], fun _ h_ => h_⟩, ⟨none, (lrg 6), [], fun vs_ T_ => True, [], [2, 1], [3], fun _ h_ => h_⟩]) (tks := [⟨none, none, [], fun vs_ => ao_ g1 113 #[(.slice z2 m2 k2)]⟩, ⟨some 4, some 6, [4], fun vs_ => Row (α := Bool) 4 (fr0 vs_ 0) (x12)⟩, ⟨none, some 6, [], fun vs_ => hg_ (α := Bool) 114 4 (.slice z2 m2 k2) (rw3) (s1)⟩, ⟨some 6, none, [4], fun vs_ => hg_ (α := Bool) 114 4 (.slice z2 m2 k2) (rw3.set ((i1 : Int)).toNat ⟨(fr0 vs_ 0)⟩) (s1.set ((i1 : Int)).toNat x12)⟩]) (O := pf_ (Ds4) :: Fr) rfl (by kernel_rfl) ((I63.pull 2).pull 2) ⟨?_, fun vs f w U X l A K I => pl_ rfl (aw_ (v := (vi (i1 : Int))) rfl (K 4 (am_ rfl)) (fn rfl rfl I)), fun vs f w U X l A K I => pl_ rfl (aw_ (v := (.slice z16 m16 k16)) rfl (K 5 (am_ rfl)) (fn rfl rfl I)), fun vs f w U X l A K I => pl_ rfl (bb_ rfl Tryz.underlying23 (A.u 0 rfl rfl rfl) (hu6.mono l) (fn rfl rfl I)), ?_, ?_, ?_, trivial⟩ ?_
   ·
    intro vs f w_ U X le A K I
    have I68 : Inv w_ U (ao_ g1 113 #[(Value.slice z2 m2 k2)] :: X) := I
    refine pl_ rfl (be_ (c := (.slice z2 m2 k2)) rfl sh113 (I68.nth 0 rfl) ((K 3 (am_ rfl)).trans e47) rfl (fn rfl rfl I68))
   ·
    intro vs f w_ U X le A K I
    have q23 := A.u 1 rfl rfl rfl
    refine pl_ rfl (fu_ (c := (x11.length : Int)) rfl Tryz.underlying114 el4 (by decide) q23 q23 I hx12 (fun u15 w47 I73 => ?_))
    obtain ⟨z17, m17, k17, e52⟩ := bk_ I73
    subst e52
    refine ⟨_, _, rfl, lr, ?_, ?_⟩
    · exact ⟨_, _, _, rfl⟩
    exact I73
   ·
    intro vs f w_ U X le A K I
    have I74 : Inv w_ U (hg_ (α := Bool) 114 4 (Value.slice z2 m2 k2) (rw3) (s1) :: X) := I
    refine pl_ rfl (fv_ (v := (.slice z2 m2 k2)) (i := (i1 : Int)) (r := rr4) rfl Tryz.underlying113 sh114 (I74.nth 0 rfl) (A.u 0 rfl rfl rfl) (A.u 1 rfl rfl rfl) hr4 (fn rfl rfl I74))
   ·
    intro vs f w_ U X le A K I
    have I75 : Inv w_ U (hg_ (α := Bool) 114 4 (Value.slice z2 m2 k2) (rw3) (s1) :: Row (α := Bool) 4 (vs 4) (x12) :: X) := I
    obtain ⟨z18, m18, k18, e53⟩ := (A.at_ 4 rfl _ rfl).2
    have q26 : f 35 = Value.slice z18 m18 k18 := ((A.at_ 4 rfl _ rfl).1 _ rfl).trans e53
    have e53 : vs 4 = (Value.slice z18 m18 k18) := e53
    have I76 := I75
    rw [e53] at I76
    have q27 := A.u 5 rfl rfl rfl
    have I77 := Inv.gridTake I76 hr4 hx13
    refine pl_ rfl (dr_ (α := Raw) (u := (.slice z18 m18 k18)) (e' := (⟨(.slice z18 m18 k18)⟩ : Raw)) sh114 (I77).drop q27 q26 hr4 (op_ rfl) (fun w50 I78 => ?_))
    have I79 := Inv.gridGive hr4 hx13 (((I78.pull 1).pull 1).pull 2)
    refine ⟨undef, _, rfl, lr, ?_, ?_⟩
    · exact trivial
    show Inv _ _ (hg_ (α := Bool) 114 4 (Value.slice z2 m2 k2) (rw3.set ((i1 : Int)).toNat ⟨(vs 4)⟩) (s1.set ((i1 : Int)).toNat x12) :: X)
    simp only [e53]
    exact I79
   intro vs32 f w51 S35 ed8 le35 hF4 hK32 hI33
   have e54 : f 0 = v0 := (hK32 0 (au_ rfl)).trans e46
   have e55 : f 3 = (pt_ g1) := (hK32 3 (au_ rfl)).trans e47
   have e56 : f 24 = (Value.slice z3 m3 k3) := (hK32 24 (au_ rfl)).trans e48
   have e57 : f 25 = (vi ((a0.allowed.length : Int))) := (hK32 25 (au_ rfl)).trans e49
   have e58 : f 26 = (vi ((i1 : Int))) := (hK32 26 (au_ rfl)).trans e50
   have I80 : Inv w51 S35 (ao_ g1 113 #[(Value.slice z2 m2 k2)] :: hg_ (α := Bool) 114 4 (Value.slice z2 m2 k2) (rw3.set ((i1 : Int)).toNat ⟨(vs32 4)⟩) (s1.set ((i1 : Int)).toNat x12) :: pf_ (Ds4) :: Fr) := hI33
   obtain ⟨z19, m19, k19, e59⟩ := (hF4.at_ 4 rfl _ rfl).2
   have q28 : f 35 = Value.slice z19 m19 k19 := ((hF4.at_ 4 rfl _ rfl).1 _ rfl).trans e59
   have e59 : vs32 4 = (Value.slice z19 m19 k19) := e59
   have I81 := I80
   rw [e59] at I81
   refine aa_ (wo_ (bp_ (a := (i1 : Int)) (b := 1) rfl e58 rfl (wm_ (v := (vi (w64 ((i1 : Int) + 1)))) rfl rfl (ad_ ?_))))
   obtain rfl := sj h1
   exact ⟨_, _, _, (le27.trans le35), (((I81.pull 1).pull 1).pull 2), e54, e55, e56, e57, (bl_ hlt1 hk1), (ed8.trans ed7), (grid_set hl3)⟩
  rintro f w hI34
  obtain ⟨S36, Ds6, rw5, le36, I82, e60, e61, e62, e63, e64, ed9, hl5⟩ := hI34
  refine ab_ (aa_ (wo_ (bg_ (a := (a0.allowed.length : Int)) (b := (a0.allowed.length : Int)) rfl e64 e63 (ad_ (ab_ (ak_ (b := decide ((a0.allowed.length : Int) < (a0.allowed.length : Int))) rfl (gh_ _) (bj_ ?_)))))))
  exact ⟨_, _, _, le36, (((I82.pull 2).pull 2).pull 2), e60, e61, e62, e63, ed9, hl5⟩
 rintro f w ⟨S37, Ds5, rw4, le37, I83, e65, e66, e67, e68, ed10, hl4⟩
 refine ab_ (ab_ (aa_ (wm_ rfl e65 (wo_ (ck_ (fv := #[v0]) (cv := #[]) rfl (arr1 rfl) arr0 (ad_ (ax_ ?_)))))))
 obtain ⟨o6, hrun5, h⟩ := bnd h
 refine wp_range (M := (argRow Int 3)) (F := (fun g_ s_ => cp_ a0 g_ s_)) (fun (s5 : (List (List Bool))) => HPof fun S_ L_ => ∃ (rw23 : List Raw), L_ = [ao_ g1 113 #[(.slice z2 m2 k2)], hg_ (α := Bool) 114 4 (.slice z2 m2 k2) (rw23) (s5)] ∧ rw23.length = (s5).length) (fun e=>by cases e) (fun _ => Code.ret) rfl rfl ob_ ⟨72, [v0], [], rfl, ca72, fun R_ Rx_ g_ T_ w_ Fr_ v_ s_ o_ hle_ ho_ hy_ hI_ h_ => Calls.doneMono (jn_ hI_ ((h0_.mono le37).mono hle_) ho_ hy_ h_) fun _ _ _ hp_ => hp_.2⟩ (Inv.ofShut (L := [ao_ g1 113 #[(.slice z2 m2 k2)], hg_ (α := Bool) 114 4 (.slice z2 m2 k2) (rw4) (out1)]) ⟨_, rfl, hl4⟩ ((I83.pull 2).pull 2)) hrun5 ?_ ?_
 ·
  intro l1 rc1 S38 w65 us1 x51 s6 o7 G1 le38 hr17 hn1 hI41 h9
  obtain ⟨z20, m20, k20, rfl⟩ := hr17
  obtain ⟨S39, L1, le39, ⟨rw24, rfl, hl24⟩, I117⟩ := Inv.ofOpen (hI41.pull 2)
  have I118 : Inv w65 S38 (ao_ g1 113 #[(Value.slice z2 m2 k2)] :: hg_ (α := Bool) 114 4 (Value.slice z2 m2 k2) (rw24) (s6) :: gd_ l1 rc1 :: Row (α := Int) 3 (Value.slice z20 m20 k20) (x51) :: G1) := I117
  refine aa_ (wa_ (v := (.slice z20 m20 k20)) rfl rfl (ad_ (⟨_, _, lr, (I118.pull 2), fun w66 I119 => ?_⟩)))
  refine ax_ (ab_ (aa_ (wm_ (v := (.slice z20 m20 k20)) rfl rfl (wo_ (hj_ (α := Int) rfl Tryz.underlying28 rfl (I119.nth 3 rfl) (wm_ (v := (vi 0)) rfl rfl (ad_ ?_)))))))
  have hk5 : x51.length ≤ 9223372036854775807 := (row_len (I119.nth 3 rfl))
  obtain ⟨out5, hrun6, h9⟩ := bnd h9
  refine bs_ (fun f w => ∃ (rw28 : List Raw), Inv w S38 (gd_ l1 { rc1 with state := .busy } :: ao_ g1 113 #[(.slice z2 m2 k2)] :: hg_ (α := Bool) 114 4 (.slice z2 m2 k2) (rw28) (out5) :: Row (α := Int) 3 (.slice z20 m20 k20) (x51) :: G1) ∧ f 0 = v0 ∧ f 3 = (pt_ g1) ∧ f 41 = (.slice z20 m20 k20) ∧ f 42 = (vi ((x51.length : Int))) ∧ f.ds = [] ∧ rw28.length = (out5).length) ?_ ?_
  ·
   refine ax_ ?_
   refine fj_ (I := fun (i5 : Nat) (s7 : (List (List Bool))) (f : Frm) (w : World) => ∃ (rw27 : List Raw), Inv w S38 (gd_ l1 { rc1 with state := .busy } :: ao_ g1 113 #[(.slice z2 m2 k2)] :: hg_ (α := Bool) 114 4 (.slice z2 m2 k2) (rw27) (s7) :: Row (α := Int) 3 (.slice z20 m20 k20) (x51) :: G1) ∧ f 0 = v0 ∧ f 3 = (pt_ g1) ∧ f 41 = (.slice z20 m20 k20) ∧ f 42 = (vi ((x51.length : Int))) ∧ f 43 = (vi (i5 : Int)) ∧ f.ds = [] ∧ rw27.length = (s7).length) hrun6 ⟨_, ((((I119.pull 3).pull 3).pull 3).pull 3), e65, e66, rfl, rfl, rfl, rfl, hl24⟩ ?_ ?_
   ·
    rintro i5 s7 f w o8 hlt5 hI42 h11
    obtain ⟨rw27, I126, e177, e178, e179, e180, e181, ed35, hl27⟩ := hI42
    refine ab_ (aa_ (wo_ (bg_ (a := (i5 : Int)) (b := (x51.length : Int)) rfl e181 e180 (ad_ (ab_ (ai_ (b := decide ((i5 : Int) < (x51.length : Int))) rfl (gg_ hlt5) (av_ (ab_ (ax_ (ab_ (aa_ (wm_ rfl e181 ?_))))))))))))
    obtain ⟨x61, hx59, h11⟩ := bnd h11
    refine wo_ (bf_ (v := (.slice z20 m20 k20)) (i := (i5 : Int)) (e := x61) rfl Tryz.underlying28 sh3 e179 (Inv.rowSrc (I126.nth 3 rfl)) e181 hx59 (wo_ (ag_ (v := (ah_ (.slice z20 m20 k20) ((i5 : Int)) (Enc.sz Int))) (e := x61) rfl sh3 rfl ((I126.nth 3 rfl).rowElem hx59) (wa_ (v := (vi (i5 : Int))) rfl rfl (wa_ (v := (vi x61)) rfl rfl (ad_ (aa_ (wo_ (be_ (c := (.slice z2 m2 k2)) rfl sh113 (I126.nth 1 rfl) e178 rfl (wm_ (v := (vi (i5 : Int))) rfl rfl ?_))))))))))
    obtain ⟨x62, hx60, h11⟩ := bnd h11
    obtain ⟨rr20, hr21⟩ := ny_ hl27 hx60
    refine wo_ (fv_ (v := (.slice z2 m2 k2)) (i := (i5 : Int)) (r := rr20) rfl Tryz.underlying113 sh114 (I126.nth 2 rfl) rfl rfl hr21 (wo_ (an_ (α := Raw) (v := (ah_ (.slice z2 m2 k2) ((i5 : Int)) (Enc.sz Raw))) (e := rr20) rfl sh114 rfl (Inv.gridRowAt (I126.nth 2 rfl) hr21) (fun u31 hu22 => ?_))))
    obtain rfl := rv_raw hu22
    refine wm_ (v := (vi x61)) rfl rfl ?_
    obtain ⟨x63, hx61, h11⟩ := bnd h11
    refine wo_ (op_gridIndex (k := x61) (e := x63) (da_ hr21).2.2 (da_ hx60).2.2 rfl Tryz.underlying114 sh4 (I126.nth 2 rfl) rfl rfl hx61 ?_)
    refine wo_ (op_gridStore (k := x61) (e' := true) (da_ hr21).2.2 (da_ hx60).2.2 sh4 (I126.pull 2) rfl rfl hx61 (rv_bool' _) (fun w70 I127 => ?_))
    refine ad_ (aa_ (wo_ (bp_ (a := (i5 : Int)) (b := 1) rfl e181 rfl (wm_ (v := (vi (w64 ((i5 : Int) + 1)))) rfl rfl (ad_ ?_)))))
    obtain rfl := sj h11
    exact ⟨_, ((((I127.pull 3).pull 1).pull 3).pull 3), e177, e178, e179, e180, (bl_ hlt5 hk5), ed35, (grid_set1 hl27)⟩
   rintro f w hI43
   obtain ⟨rw29, I128, e182, e183, e184, e185, e186, ed36, hl29⟩ := hI43
   refine ab_ (aa_ (wo_ (bg_ (a := (x51.length : Int)) (b := (x51.length : Int)) rfl e186 e185 (ad_ (ab_ (ak_ (b := decide ((x51.length : Int) < (x51.length : Int))) rfl (gh_ _) (bj_ ?_)))))))
   exact ⟨_, ((((I128.pull 3).pull 3).pull 3).pull 3), e182, e183, e184, e185, ed36, hl29⟩
  rintro f w ⟨rw28, I129, e187, e188, e189, e190, ed37, hl28⟩
  obtain rfl := sj h9
  exact ⟨_, _, lr, rfl, (Inv.rot2 (Inv.ofShut (L := [ao_ g1 113 #[(.slice z2 m2 k2)], hg_ (α := Bool) 114 4 (.slice z2 m2 k2) (rw28) (out5)]) ⟨_, rfl, hl28⟩ ((((I129.pull 3).pull 1).pull 3).pull 3)))⟩
 intro D1 w71 S40 le40 I130
 rcases o6 with s8 | q30
 ·
  obtain ⟨S41, L2, le41, ⟨rw30, rfl, hl30⟩, I131⟩ := Inv.ofOpen I130
  have I132 : Inv w71 S40 (ao_ g1 113 #[(Value.slice z2 m2 k2)] :: hg_ (α := Bool) 114 4 (Value.slice z2 m2 k2) (rw30) (s8) :: Dfr D1 :: pf_ (Ds5) :: Fr) := I131
  have I133 := Inv.consD ((I132.pull 3).pull 3)
  have h := onE_inl h
  refine ne_ (ab_ (aa_ (wm_ rfl e65 (wo_ (dx_ (v := v0) rfl rfl (h0_.mono (le37.trans le40)) (wo_ (ac_ (v := v0) rfl fa70_0 rfl ((h0_.mono (le37.trans le40)).at_ I133) (wo_ (ac_ (v := (ae_ v0 0)) rfl eb_ rfl (((h0_.mono (le37.trans le40)).at_ I133).fld Hints_room.fld0) (wo_ (an_ (v := (ae_ (ae_ v0 0) 0)) (e := a0.Riddle.Locks) rfl oe_ rfl ((((h0_.mono (le37.trans le40)).at_ I133).fld Hints_room.fld0).fld Riddle.fld0) (fun u32 hu23 => ?_))))))))))))
  obtain ⟨z21, m21, k21, rfl⟩ := af_ hu23
  refine wo_ (bb_ rfl Tryz.underlying22 rfl hu23 ?_)
  obtain ⟨x64, hx62, h⟩ := bnd h
  obtain ⟨hm3, hm4⟩ := mk?_raw hx62
  refine wo_ (fu_ (α := Raw) (c := (a0.Riddle.Locks.length : Int)) rfl Tryz.underlying55 el23r (by decide) rfl rfl I133 hm3 (fun u33 w72 I134 => ?_))
  have I135 := Inv.gridNew (α := (List Int)) (Ti := 28) I134
  rw [← hm4] at I135
  obtain ⟨z22, m22, k22, e192⟩ := bk_ (Inv.gridOut I135)
  subst e192
  refine wa_ (v := (.slice z22 m22 k22)) rfl rfl (ad_ (ab_ (ab_ (aa_ (wm_ rfl e65 (wo_ (dx_ (v := v0) rfl rfl (h0_.mono (le37.trans le40)) (wo_ (ac_ (v := v0) rfl fa70_1 rfl ((h0_.mono (le37.trans le40)).at_ I135) (wo_ (an_ (v := (ae_ v0 4)) (e := a0.allowed) rfl sh55 rfl (((h0_.mono (le37.trans le40)).at_ I135).fld Hints_room.fld1) (fun u34 hu24 => ?_))))))))))))
  obtain ⟨z23, m23, k23, rfl⟩ := af_ hu24
  refine wo_ (bb_ rfl Tryz.underlying55 rfl hu24 (wm_ (v := (vi 0)) rfl rfl (ad_ ?_)))
  have hk9 : a0.allowed.length ≤ 9223372036854775807 := (ea_ hu2)
  obtain ⟨out9, hrun10, h⟩ := bnd h
  refine bs_ (fun f w => ∃ (Ds35 : List Nat) (rw49 : List Raw), Inv w S40 (pf_ (Ds35) :: ao_ g1 113 #[(.slice z2 m2 k2)] :: hg_ (α := Bool) 114 4 (.slice z2 m2 k2) (rw30) (s8) :: hg_ (α := (List Int)) 23 28 (.slice z22 m22 k22) (rw49) (out9) :: Fr) ∧ f 3 = (pt_ g1) ∧ f 9 = (.slice z22 m22 k22) ∧ f 65 = (.slice z23 m23 k23) ∧ f 66 = (vi ((a0.allowed.length : Int))) ∧ f.ds = mkDs Ds35 ∧ rw49.length = (out9).length) ?_ ?_
  ·
   refine ax_ ?_
   refine fj_ (I := fun (i9 : Nat) (s12 : (List (List (List Int)))) (f : Frm) (w : World) => ∃ (Ds34 : List Nat) (rw48 : List Raw), Inv w S40 (pf_ (Ds34) :: ao_ g1 113 #[(.slice z2 m2 k2)] :: hg_ (α := Bool) 114 4 (.slice z2 m2 k2) (rw30) (s8) :: hg_ (α := (List Int)) 23 28 (.slice z22 m22 k22) (rw48) (s12) :: Fr) ∧ f 3 = (pt_ g1) ∧ f 9 = (.slice z22 m22 k22) ∧ f 65 = (.slice z23 m23 k23) ∧ f 66 = (vi ((a0.allowed.length : Int))) ∧ f 67 = (vi (i9 : Int)) ∧ f.ds = mkDs Ds34 ∧ rw48.length = (s12).length) hrun10 ⟨_, _, (((I135.pull 3).pull 3).pull 3), e66, rfl, rfl, rfl, rfl, (mark_ds ed10), (grid_new hm4)⟩ ?_ ?_
   ·
    rintro i9 s12 f w o12 hlt9 hI50 h19
    obtain ⟨Ds34, rw48, I217, e407, e408, e409, e410, e411, ed59, hl48⟩ := hI50
    refine ab_ (aa_ (wo_ (bg_ (a := (i9 : Int)) (b := (a0.allowed.length : Int)) rfl e411 e410 (ad_ (ab_ (ai_ (b := decide ((i9 : Int) < (a0.allowed.length : Int))) rfl (gg_ hlt9) (av_ (ab_ (ax_ (ab_ (aa_ (wm_ rfl e411 ?_))))))))))))
    obtain ⟨x140, hx138, h19⟩ := bnd h19
    refine wo_ (aj_ (v := (.slice z23 m23 k23)) (i := (i9 : Int)) (e := x140) rfl Tryz.underlying55 mh_ e409 hu24 e411 hx138 (wo_ (an_ (v := (ah_ (.slice z23 m23 k23) ((i9 : Int)) (Enc.sz (List (List Int))))) (e := x140) rfl mh_ rfl (hu24.elem I217.in_ hx138) (fun u98 hu64 => ?_))))
    obtain ⟨z63, m63, k63, rfl⟩ := af_ hu64
    refine wa_ (v := (vi (i9 : Int))) rfl rfl (wa_ (v := (.slice z63 m63 k63)) rfl rfl (ad_ (ab_ (aa_ (wm_ (v := (.slice z63 m63 k63)) rfl rfl (wo_ (bb_ rfl Tryz.underlying23 rfl hu64 (wm_ (v := (vi 0)) rfl rfl (ad_ ?_)))))))))
    have hk10 : x140.length ≤ 9223372036854775807 := (ea_ hu64)
    obtain ⟨out10, hrun11, h19⟩ := bnd h19
    refine bs_ (fun f w => ∃ (Ds40 : List Nat) (rw53 : List Raw), Inv w S40 (pf_ (Ds40) :: ao_ g1 113 #[(.slice z2 m2 k2)] :: hg_ (α := Bool) 114 4 (.slice z2 m2 k2) (rw30) (s8) :: hg_ (α := (List Int)) 23 28 (.slice z22 m22 k22) (rw53) (out10) :: Fr) ∧ f 3 = (pt_ g1) ∧ f 9 = (.slice z22 m22 k22) ∧ f 10 = (vi (i9 : Int)) ∧ f 65 = (.slice z23 m23 k23) ∧ f 66 = (vi ((a0.allowed.length : Int))) ∧ f 67 = (vi (i9 : Int)) ∧ f 72 = (.slice z63 m63 k63) ∧ f 73 = (vi ((x140.length : Int))) ∧ f.ds = mkDs Ds40 ∧ rw53.length = (out10).length) ?_ ?_
    ·
     refine ax_ ?_
     refine fj_ (I := fun (i10 : Nat) (s13 : (List (List (List Int)))) (f : Frm) (w : World) => ∃ (Ds39 : List Nat) (rw52 : List Raw), Inv w S40 (pf_ (Ds39) :: ao_ g1 113 #[(.slice z2 m2 k2)] :: hg_ (α := Bool) 114 4 (.slice z2 m2 k2) (rw30) (s8) :: hg_ (α := (List Int)) 23 28 (.slice z22 m22 k22) (rw52) (s13) :: Fr) ∧ f 3 = (pt_ g1) ∧ f 9 = (.slice z22 m22 k22) ∧ f 10 = (vi (i9 : Int)) ∧ f 65 = (.slice z23 m23 k23) ∧ f 66 = (vi ((a0.allowed.length : Int))) ∧ f 67 = (vi (i9 : Int)) ∧ f 72 = (.slice z63 m63 k63) ∧ f 73 = (vi ((x140.length : Int))) ∧ f 74 = (vi (i10 : Int)) ∧ f.ds = mkDs Ds39 ∧ rw52.length = (s13).length) hrun11 ⟨_, _, ((((I217.pull 3).pull 3).pull 3).pull 3), e407, e408, rfl, e409, e410, e411, rfl, rfl, rfl, ed59, hl48⟩ ?_ ?_
     ·
      rintro i10 s13 f w o13 hlt10 hI51 h21
      obtain ⟨Ds39, rw52, I236, e449, e450, e451, e452, e453, e454, e455, e456, e457, ed63, hl52⟩ := hI51
      refine ab_ (aa_ (wo_ (bg_ (a := (i10 : Int)) (b := (x140.length : Int)) rfl e457 e456 (ad_ (ab_ (ai_ (b := decide ((i10 : Int) < (x140.length : Int))) rfl (gg_ hlt10) (av_ (ab_ (ax_ (ab_ (aa_ (wm_ rfl e457 ?_))))))))))))
      obtain ⟨x159, hx157, h21⟩ := bnd h21
      refine wo_ (aj_ (v := (.slice z63 m63 k63)) (i := (i10 : Int)) (e := x159) rfl Tryz.underlying23 ht_ e455 hu64 e457 hx157 (wo_ (an_ (v := (ah_ (.slice z63 m63 k63) ((i10 : Int)) (Enc.sz (List Int)))) (e := x159) rfl ht_ rfl (hu64.elem I236.in_ hx157) (fun u114 hu74 => ?_))))
      obtain ⟨z73, m73, k73, rfl⟩ := af_ hu74
      refine wa_ (v := (vi (i10 : Int))) rfl rfl (wa_ (v := (.slice z73 m73 k73)) rfl rfl (ad_ (ab_ (aa_ (wo_ (be_ (c := (.slice z2 m2 k2)) rfl sh113 (I236.nth 1 rfl) e449 rfl (wm_ rfl e451 ?_)))))))
      obtain ⟨x160, hx158, h21⟩ := bnd h21
      obtain ⟨rr66, hr67⟩ := ny_ hl30 hx158
      refine wo_ (fv_ (v := (.slice z2 m2 k2)) (i := (i9 : Int)) (r := rr66) rfl Tryz.underlying113 sh114 (I236.nth 2 rfl) rfl rfl hr67 (wo_ (an_ (α := Raw) (v := (ah_ (.slice z2 m2 k2) ((i9 : Int)) (Enc.sz Raw))) (e := rr66) rfl sh114 rfl (Inv.gridRowAt (I236.nth 2 rfl) hr67) (fun u115 hu75 => ?_))))
      obtain rfl := rv_raw hu75
      refine wm_ (v := (vi (i10 : Int))) rfl rfl ?_
      obtain ⟨x161, hx159, h21⟩ := bnd h21
      refine wo_ (op_gridIndex (k := (i10 : Int)) (e := x161) (da_ hr67).2.2 (da_ hx158).2.2 rfl Tryz.underlying114 sh4 (I236.nth 2 rfl) rfl rfl hx159 ?_)
      refine wo_ (ch_ (v := (ah_ (rr66.v) ((i10 : Int)) (Enc.sz Bool))) (e := x161) rfl sh4 rfl (Inv.gridElem (I236.nth 2 rfl) (da_ hr67).2.2 (da_ hx158).2.2 hx159) ?_)
      refine ad_ ?_
      rcases ifs h21 with ⟨hc16, h21⟩ | ⟨hc16, h21⟩
      ·
       refine ai_ (b := x161) rfl hc16 (aa_ (wm_ rfl e450 (wm_ rfl e451 (wm_ rfl e450 (wm_ rfl e451 ?_)))))
       obtain ⟨x162, hx160, h21⟩ := bnd h21
       obtain ⟨rr67, hr68⟩ := ny_ hl52 hx160
       refine wo_ (fv_ (v := (.slice z22 m22 k22)) (i := (i9 : Int)) (r := rr67) rfl Tryz.underlying55 mh_ (I236.nth 3 rfl) rfl rfl hr68 (wo_ (an_ (α := Raw) (v := (ah_ (.slice z22 m22 k22) ((i9 : Int)) (Enc.sz Raw))) (e := rr67) rfl mh_ rfl (Inv.gridRowAt (I236.nth 3 rfl) hr68) (fun u116 hu76 => ?_))))
       obtain rfl := rv_raw hu76
       refine wm_ (v := (.slice z73 m73 k73)) rfl rfl (wo_ (bh_ (vs := [(.slice z73 m73 k73)]) (r := ([x159] : List (List Int))) rfl Tryz.underlying23 el28 (ij_ rfl) rfl (by decide) (by decide) ⟨hu74, trivial⟩ I236 (fun u117 w118 I237 => ?_)))
       obtain ⟨z74, m74, k74, e459⟩ := bk_ I237
       subst e459
       have I238 := Inv.gridTake (I237.pull 4) hr68 hx160
       obtain ⟨x163, hx161, h21⟩ := bnd h21
       refine wo_ (ef_ (α := (List Int)) (v := (rr67.v)) (u := (.slice z74 m74 k74)) rfl rfl Tryz.underlying23 el28 (by decide) (by decide) rfl rfl I238 (Inv.rowSrc (I238.nth 3 rfl)) hx161 (fun u118 w119 I239 => ?_))
       obtain ⟨z75, m75, k75, e460⟩ := bk_ I239
       subst e460
       obtain ⟨x164, hx162, h21⟩ := bnd h21
       obtain ⟨rr68, hr69⟩ := ny_ hl52 hx162
       refine wo_ (bf_ (α := Raw) (v := (.slice z22 m22 k22)) (i := (i9 : Int)) (e := rr68) rfl Tryz.underlying55 mh_ rfl (Inv.rowSrc (I239.nth 1 rfl)) rfl hr69 (wo_ (dr_ (α := Raw) (u := (.slice z75 m75 k75)) (e' := (⟨(.slice z75 m75 k75)⟩ : Raw)) mh_ (I239.pull 1) rfl rfl hr69 (op_ rfl) (fun w120 I240 => ?_))))
       have I241 := Inv.gridGive hr69 hx162 (((I240.pull 2).pull 1).pull 2)
       refine ad_ (aa_ (wo_ (bp_ (a := (i10 : Int)) (b := 1) rfl e457 rfl (wm_ (v := (vi (w64 ((i10 : Int) + 1)))) rfl rfl (ad_ ?_)))))
       obtain rfl := sj h21
       exact ⟨_, _, ((((I241.pull 1).drop.pull 3).pull 3).pull 3), e449, e450, e451, e452, e453, e454, e455, e456, (bl_ hlt10 hk10), ed63, (grid_set hl52)⟩
      refine ak_ (b := x161) rfl hc16 (av_ (aa_ (wo_ (bp_ (a := (i10 : Int)) (b := 1) rfl e457 rfl (wm_ (v := (vi (w64 ((i10 : Int) + 1)))) rfl rfl (ad_ ?_))))))
      obtain rfl := sj h21
      exact ⟨_, _, ((((I236.pull 3).pull 3).pull 3).pull 3), e449, e450, e451, e452, e453, e454, e455, e456, (bl_ hlt10 hk10), ed63, hl52⟩
     rintro f w hI52
     obtain ⟨Ds41, rw54, I242, e461, e462, e463, e464, e465, e466, e467, e468, e469, ed64, hl54⟩ := hI52
     refine ab_ (aa_ (wo_ (bg_ (a := (x140.length : Int)) (b := (x140.length : Int)) rfl e469 e468 (ad_ (ab_ (ak_ (b := decide ((x140.length : Int) < (x140.length : Int))) rfl (gh_ _) (bj_ ?_)))))))
     exact ⟨_, _, ((((I242.pull 3).pull 3).pull 3).pull 3), e461, e462, e463, e464, e465, e466, e467, e468, ed64, hl54⟩
    rintro f w ⟨Ds40, rw53, I243, e470, e471, e472, e473, e474, e475, e476, e477, ed65, hl53⟩
    refine aa_ (wo_ (bp_ (a := (i9 : Int)) (b := 1) rfl e475 rfl (wm_ (v := (vi (w64 ((i9 : Int) + 1)))) rfl rfl (ad_ ?_))))
    obtain rfl := sj h19
    exact ⟨_, _, ((((I243.pull 3).pull 3).pull 3).pull 3), e470, e471, e473, e474, (bl_ hlt9 hk9), ed65, hl53⟩
   rintro f w hI53
   obtain ⟨Ds42, rw55, I244, e478, e479, e480, e481, e482, ed66, hl55⟩ := hI53
   refine ab_ (aa_ (wo_ (bg_ (a := (a0.allowed.length : Int)) (b := (a0.allowed.length : Int)) rfl e482 e481 (ad_ (ab_ (ak_ (b := decide ((a0.allowed.length : Int) < (a0.allowed.length : Int))) rfl (gh_ _) (bj_ ?_)))))))
   exact ⟨_, _, ((((I244.pull 3).pull 3).pull 3).pull 3), e478, e479, e480, e481, ed66, hl55⟩
  rintro f w ⟨Ds35, rw49, I245, e483, e484, e485, e486, ed67, hl49⟩
  refine ab_ (aa_ (wm_ rfl e484 (wa_ (v := (.slice z22 m22 k22)) rfl rfl (ad_ (al_ ?_)))))
  obtain ⟨S42, le42, I246, r1⟩ := Inv.gridFreeze (I245.pull 3) hl49
  refine ret_m ed67 I246 (fun w121 I247 => ?_)
  obtain rfl := sj h
  exact ⟨(.slice z22 m22 k22), (bq_ rfl rfl), _, [], ((le37.trans le40).trans le42), ((I247).drop).drop, _, _, _, rfl, rfl, r1⟩
 cases q30
theorem gq_ {w : World} {S : PH} {Fr : List HP} {a0 : Hints_room} {v0 : Value} {r : (List Int)} (hI : Inv w S (Fr)) (h0_ : PtS S v0 a0) (h : dd_ a0 = some r) :
    Calls Tryz.prog 42 [v0].toArray w (ms_ S Fr (fun T_ v_ O_ => ∃ (a0_ : Option Addr) (n0_ k0_ : Nat), v_ = (Value.slice a0_ n0_ k0_) ∧ O_ = [Row (α := Int) 3 (Value.slice a0_ n0_ k0_) (r)])) := by
 unfold dd_ at h
 refine ar_ (n := 19) (vs := [v0]) Tryz.func42 rfl rfl rfl (ab_ (aa_ (wa_ (v := (.slice none 0 0)) rfl rfl (ad_ (ab_ (ab_ (aa_ (wm_ (v := v0) rfl rfl ?_))))))))
 obtain ⟨x1, hx1, h⟩ := bnd h
 refine wo_ (bo_ (vs := [v0]) rfl ca67 rfl (fk_ rfl) (il_ hI h0_ hx1) (fun cv1 w1 S1 O1 le1 I1 hv1 => ?_))
 obtain ⟨z1, m1, k1, rfl, rfl, r1⟩ := hv1
 refine wo_ (bb_ rfl Tryz.underlying55 rfl r1 (wm_ (v := (vi 0)) rfl rfl (ad_ ?_)))
 have hk1 : x1.length ≤ 9223372036854775807 := (ea_ r1)
 have I12 := Inv.rowNil (α := Int) (T := 3) I1
 obtain ⟨out1, hrun1, h⟩ := bnd h
 refine bs_ (fun f w => ∃ (z14 : Option Addr) (m14 k14 : Nat), Inv w S1 (Row (α := Int) 3 (.slice z14 m14 k14) (out1) :: Fr) ∧ f 2 = (.slice z14 m14 k14) ∧ f 6 = (.slice z1 m1 k1) ∧ f 7 = (vi ((x1.length : Int))) ∧ f.ds = []) ?_ ?_
 ·
  refine ax_ ?_
  refine fj_ (I := fun (i1 : Nat) (s1 : (List Int)) (f : Frm) (w : World) => ∃ (z13 : Option Addr) (m13 k13 : Nat), Inv w S1 (Row (α := Int) 3 (.slice z13 m13 k13) (s1) :: Fr) ∧ f 2 = (.slice z13 m13 k13) ∧ f 6 = (.slice z1 m1 k1) ∧ f 7 = (vi ((x1.length : Int))) ∧ f 8 = (vi (i1 : Int)) ∧ f.ds = []) hrun1 ⟨_, _, _, I12, rfl, rfl, rfl, rfl, rfl⟩ ?_ ?_
  ·
   rintro i1 s1 f w o1 hlt1 hI1 h1
   obtain ⟨z13, m13, k13, I13, e22, e23, e24, e25, ed4⟩ := hI1
   refine ab_ (aa_ (wo_ (bg_ (a := (i1 : Int)) (b := (x1.length : Int)) rfl e25 e24 (ad_ (ab_ (ai_ (b := decide ((i1 : Int) < (x1.length : Int))) rfl (gg_ hlt1) (av_ (ab_ (ax_ (ab_ (aa_ ?_)))))))))))
   obtain ⟨x8, hx8, h1⟩ := bnd h1
   refine wo_ (aj_ (v := (.slice z1 m1 k1)) (i := (i1 : Int)) (e := x8) rfl Tryz.underlying55 mh_ e23 r1 e25 hx8 (wo_ (an_ (v := (ah_ (.slice z1 m1 k1) ((i1 : Int)) (Enc.sz (List (List Int))))) (e := x8) rfl mh_ rfl (r1.elem I13.in_ hx8) (fun u10 hu4 => ?_))))
   obtain ⟨z15, m15, k15, rfl⟩ := af_ hu4
   refine wa_ (v := (.slice z15 m15 k15)) rfl rfl (ad_ (aa_ (wm_ rfl e22 (wm_ (v := (.slice z15 m15 k15)) rfl rfl (wo_ (bb_ rfl Tryz.underlying23 rfl hu4 (wo_ (bh_ (vs := [(vi ((x8.length : Int)))]) (r := ([(x8.length : Int)] : List Int)) rfl Tryz.underlying28 el3 (ij_ rfl) rfl (by decide) (by decide) ⟨(ei_ _), trivial⟩ I13 (fun u11 w8 I14 => ?_)))))))))
   obtain ⟨z16, m16, k16, e27⟩ := bk_ I14
   subst e27
   obtain ⟨x9, hx9, h1⟩ := bnd h1
   refine wo_ (ef_ (α := Int) (v := (.slice z13 m13 k13)) (u := (.slice z16 m16 k16)) rfl rfl Tryz.underlying28 el3 (by decide) (by decide) rfl rfl (I14.pull 1) (Inv.rowSrc (I14.nth 0 rfl)) hx9 (fun u12 w9 I15 => ?_))
   obtain ⟨z17, m17, k17, e28⟩ := bk_ I15
   subst e28
   refine wa_ (v := (.slice z17 m17 k17)) rfl rfl (ad_ (aa_ (wo_ (bp_ (a := (i1 : Int)) (b := 1) rfl e25 rfl (wm_ (v := (vi (w64 ((i1 : Int) + 1)))) rfl rfl (ad_ ?_))))))
   obtain rfl := sj h1
   exact ⟨_, _, _, (I15.pull 1).drop, rfl, e23, e24, (bl_ hlt1 hk1), ed4⟩
  rintro f w hI2
  obtain ⟨z18, m18, k18, I16, e29, e30, e31, e32, ed5⟩ := hI2
  refine ab_ (aa_ (wo_ (bg_ (a := (x1.length : Int)) (b := (x1.length : Int)) rfl e32 e31 (ad_ (ab_ (ak_ (b := decide ((x1.length : Int) < (x1.length : Int))) rfl (gh_ _) (bj_ ?_)))))))
  exact ⟨_, _, _, I16, e29, e30, e31, ed5⟩
 rintro f w ⟨z14, m14, k14, I17, e33, e34, e35, ed6⟩
 refine ab_ (aa_ (wm_ rfl e33 (wa_ (v := (.slice z14 m14 k14)) rfl rfl (ad_ (al_ ?_)))))
 obtain rfl := sj h
 exact ⟨ed6, (.slice z14 m14 k14), (bq_ rfl rfl), _, [Row (α := Int) 3 (.slice z14 m14 k14) (out1)], le1, I17, _, _, _, rfl, rfl⟩
theorem kd_ {w : World} {S : PH} {Fr : List HP} {a0 : Hints_room} {v0 : Value} {a1 : Hints_room} {v1 : Value} {r : (List Int)} (hI : Inv w S (Fr)) (h0_ : PtS S v0 a0) (h1_ : PtS S v1 a1) (h : ej_ a0 a1 = some r) :
    Calls Tryz.prog 45 [v0, v1].toArray w (ms_ S Fr (fun T_ v_ O_ => ∃ (a0_ : Option Addr) (n0_ k0_ : Nat), v_ = (Value.slice a0_ n0_ k0_) ∧ O_ = [Row (α := Int) 3 (Value.slice a0_ n0_ k0_) (r)])) := by
 unfold ej_ at h
 refine ar_ (n := 30) (vs := [v0, v1]) Tryz.func45 rfl rfl rfl (ab_ (aa_ (wa_ (v := (.slice none 0 0)) rfl rfl (ad_ (ab_ (aa_ (wm_ (v := v1) rfl rfl ?_)))))))
 obtain ⟨x1, hx1, h⟩ := bnd h
 refine wo_ (bo_ (vs := [v1]) rfl ca42 rfl (fk_ rfl) (gq_ hI h1_ hx1) (fun cv1 w1 S1 O1 le1 I1 hv1 => ?_))
 obtain ⟨z1, m1, k1, rfl, rfl⟩ := hv1
 refine wa_ (v := (.slice z1 m1 k1)) rfl rfl (ad_ (ab_ (ab_ (aa_ (wm_ (v := v0) rfl rfl ?_)))))
 obtain ⟨x2, hx2, h⟩ := bnd h
 refine wo_ (bo_ (vs := [v0]) rfl ca42 rfl (fk_ rfl) (gq_ I1 (h0_.mono le1) hx2) (fun cv2 w2 S2 O2 le2 I2 hv2 => ?_))
 obtain ⟨z2, m2, k2, rfl, rfl⟩ := hv2
 refine wo_ (hj_ (α := Int) rfl Tryz.underlying28 rfl (I2.nth 0 rfl) (wm_ (v := (vi 0)) rfl rfl (ad_ ?_)))
 have hk1 : x2.length ≤ 9223372036854775807 := (row_len (I2.nth 0 rfl))
 have I13 := Inv.rowNil (α := Int) (T := 3) I2
 obtain ⟨out1, hrun1, h⟩ := bnd h
 refine bs_ (fun f w => ∃ (z12 : Option Addr) (m12 k12 : Nat), Inv w S2 (Row (α := Int) 3 (.slice z12 m12 k12) (out1) :: Row (α := Int) 3 (.slice z1 m1 k1) (x1) :: Row (α := Int) 3 (.slice z2 m2 k2) (x2) :: Fr) ∧ f 4 = (.slice z12 m12 k12) ∧ f 5 = (.slice z1 m1 k1) ∧ f 11 = (.slice z2 m2 k2) ∧ f 12 = (vi ((x2.length : Int))) ∧ f.ds = []) ?_ ?_
 ·
  refine ax_ ?_
  refine fj_ (I := fun (i1 : Nat) (s1 : (List Int)) (f : Frm) (w : World) => ∃ (z11 : Option Addr) (m11 k11 : Nat), Inv w S2 (Row (α := Int) 3 (.slice z11 m11 k11) (s1) :: Row (α := Int) 3 (.slice z1 m1 k1) (x1) :: Row (α := Int) 3 (.slice z2 m2 k2) (x2) :: Fr) ∧ f 4 = (.slice z11 m11 k11) ∧ f 5 = (.slice z1 m1 k1) ∧ f 11 = (.slice z2 m2 k2) ∧ f 12 = (vi ((x2.length : Int))) ∧ f 13 = (vi (i1 : Int)) ∧ f.ds = []) hrun1 ⟨_, _, _, (((I13.pull 1).pull 2).pull 2), rfl, rfl, rfl, rfl, rfl, rfl⟩ ?_ ?_
  ·
   rintro i1 s1 f w o1 hlt1 hI1 h1
   obtain ⟨z11, m11, k11, I14, e22, e23, e24, e25, e26, ed4⟩ := hI1
   refine ab_ (aa_ (wo_ (bg_ (a := (i1 : Int)) (b := (x2.length : Int)) rfl e26 e25 (ad_ (ab_ (ai_ (b := decide ((i1 : Int) < (x2.length : Int))) rfl (gg_ hlt1) (av_ (ab_ (ax_ (ab_ (aa_ (wm_ rfl e26 ?_))))))))))))
   obtain ⟨x12, hx12, h1⟩ := bnd h1
   refine wo_ (bf_ (v := (.slice z2 m2 k2)) (i := (i1 : Int)) (e := x12) rfl Tryz.underlying28 sh3 e24 (Inv.rowSrc (I14.nth 2 rfl)) e26 hx12 (wo_ (ag_ (v := (ah_ (.slice z2 m2 k2) ((i1 : Int)) (Enc.sz Int))) (e := x12) rfl sh3 rfl ((I14.nth 2 rfl).rowElem hx12) (wa_ (v := (vi (i1 : Int))) rfl rfl (wa_ (v := (vi x12)) rfl rfl (ad_ (ab_ (aa_ (wm_ rfl e23 (wm_ (v := (vi (i1 : Int))) rfl rfl ?_))))))))))
   obtain ⟨x13, hx13, h1⟩ := bnd h1
   refine wo_ (bf_ (v := (.slice z1 m1 k1)) (i := (i1 : Int)) (e := x13) rfl Tryz.underlying28 sh3 rfl (Inv.rowSrc (I14.nth 1 rfl)) rfl hx13 (wo_ (ag_ (v := (ah_ (.slice z1 m1 k1) ((i1 : Int)) (Enc.sz Int))) (e := x13) rfl sh3 rfl ((I14.nth 1 rfl).rowElem hx13) (wm_ (v := (vi x12)) rfl rfl (wo_ (bg_ (a := x13) (b := x12) rfl rfl rfl (ad_ ?_)))))))
   rcases ifs h1 with ⟨hc4, h1⟩ | ⟨hc4, h1⟩
   ·
    refine ai_ (b := decide (x13 < x12)) rfl hc4 (aa_ (wm_ rfl e22 (wm_ (v := (vi (i1 : Int))) rfl rfl (wo_ (bh_ (vs := [(vi (i1 : Int))]) (r := ([(i1 : Int)] : List Int)) rfl Tryz.underlying28 el3 (ij_ rfl) rfl (by decide) (by decide) ⟨(ei_ _), trivial⟩ I14 (fun u7 w9 I15 => ?_))))))
    obtain ⟨z13, m13, k13, e27⟩ := bk_ I15
    subst e27
    obtain ⟨x14, hx14, h1⟩ := bnd h1
    refine wo_ (ef_ (α := Int) (v := (.slice z11 m11 k11)) (u := (.slice z13 m13 k13)) rfl rfl Tryz.underlying28 el3 (by decide) (by decide) rfl rfl (I15.pull 1) (Inv.rowSrc (I15.nth 0 rfl)) hx14 (fun u8 w10 I16 => ?_))
    obtain ⟨z14, m14, k14, e28⟩ := bk_ I16
    subst e28
    refine wa_ (v := (.slice z14 m14 k14)) rfl rfl (ad_ (aa_ (wo_ (bp_ (a := (i1 : Int)) (b := 1) rfl e26 rfl (wm_ (v := (vi (w64 ((i1 : Int) + 1)))) rfl rfl (ad_ ?_))))))
    obtain rfl := sj h1
    exact ⟨_, _, _, ((((I16.pull 1).drop.pull 2).pull 2).pull 2), rfl, e23, e24, e25, (bl_ hlt1 hk1), ed4⟩
   refine ak_ (b := decide (x13 < x12)) rfl hc4 (av_ (aa_ (wo_ (bp_ (a := (i1 : Int)) (b := 1) rfl e26 rfl (wm_ (v := (vi (w64 ((i1 : Int) + 1)))) rfl rfl (ad_ ?_))))))
   obtain rfl := sj h1
   exact ⟨_, _, _, (((I14.pull 2).pull 2).pull 2), e22, e23, e24, e25, (bl_ hlt1 hk1), ed4⟩
  rintro f w hI2
  obtain ⟨z15, m15, k15, I17, e29, e30, e31, e32, e33, ed5⟩ := hI2
  refine ab_ (aa_ (wo_ (bg_ (a := (x2.length : Int)) (b := (x2.length : Int)) rfl e33 e32 (ad_ (ab_ (ak_ (b := decide ((x2.length : Int) < (x2.length : Int))) rfl (gh_ _) (bj_ ?_)))))))
  exact ⟨_, _, _, (((I17.pull 2).pull 2).pull 2), e29, e30, e31, e32, ed5⟩
 rintro f w ⟨z12, m12, k12, I18, e34, e35, e36, e37, ed6⟩
 refine ab_ (aa_ (wm_ rfl e34 (wa_ (v := (.slice z12 m12 k12)) rfl rfl (ad_ (al_ ?_)))))
 obtain rfl := sj h
 exact ⟨ed6, (.slice z12 m12 k12), (bq_ rfl rfl), _, [Row (α := Int) 3 (.slice z12 m12 k12) (out1)], (le1.trans le2), ((I18.pull 1).drop.pull 1).drop, _, _, _, rfl, rfl⟩
theorem hints_Spoils_1_ok {w : World} {S : PH} {Fr : List HP} {a0 : Int} {a1 : Aid} {v1 : Value} {r : Bool} (hI : Inv w S (Fr)) (h1_ : PtS S v1 a1) (h : jc_ a0 a1 = some r) :
    Calls Tryz.prog 46 [(Value.int .i64 (a0)), v1].toArray w (cc_ S Fr (Value.bool (r))) := by
 unfold jc_ at h
 refine ar_ (n := 8) (vs := [(vi a0), v1]) Tryz.func46 rfl rfl rfl (ab_ (aa_ (wa_ (v := (vb false)) rfl rfl (ad_ (ab_ (aa_ (wm_ (v := (vi a0)) rfl rfl (wo_ (ac_ (v := v1) rfl fa32_0 rfl (h1_.at_ hI) (wo_ (ag_ (v := (ae_ v1 0)) (e := a1.Lock) rfl sh3 rfl ((h1_.at_ hI).fld Aid.fld0) (wo_ (bn_ (a := a0) (b := a1.Lock) rfl rfl rfl (wa_ (v := (vb (a0 == a1.Lock))) rfl rfl (ad_ (al_ ?_))))))))))))))))
 obtain rfl := sj h
 exact ⟨rfl, (vb (a0 == a1.Lock)), (bq_ rfl rfl), _, [], lr, hI, rfl, rfl⟩
theorem lr_ {w : World} {S : PH} {Fr : List HP} {a0 : (List Int)} {z0_ : Option Addr} {m0_ : Nat} {k0_ : Nat} {a1 : Int → Option Bool} {v1 : Value} {r : (List Int)} (hI : Inv w S (Row (α := Int) 3 (Value.slice z0_ m0_ k0_) (a0) :: Fr)) (h1_ : FnV Tryz.prog S v1 a1) (h : dh_ a0 a1 = some r) :
    Calls Tryz.prog 44 [(Value.slice z0_ m0_ k0_), v1].toArray w (ms_ S Fr (fun T_ v_ O_ => ∃ (a0_ : Option Addr) (n0_ k0_ : Nat), v_ = (Value.slice a0_ n0_ k0_) ∧ O_ = [Row (α := Int) 3 (Value.slice a0_ n0_ k0_) (r)])) := by
 unfold dh_ at h
 refine ar_ (n := 42) (vs := [(.slice z0_ m0_ k0_), v1]) Tryz.func44 rfl rfl rfl (ab_ (aa_ (wa_ (v := (.slice none 0 0)) rfl rfl (ad_ (ab_ (aa_ (wm_ (v := (.slice z0_ m0_ k0_)) rfl rfl (wm_ (v := v1) rfl rfl ?_))))))))
 obtain ⟨x1, hx1, h⟩ := bnd h
 obtain ⟨S1, Fr1, le1, I1, r1, bk1⟩ := Inv.lend1 hI
 refine wo_ (bo_ (vs := [(.slice z0_ m0_ k0_), v1]) rfl ca82 rfl (bt_ rfl rfl) (hw_ I1 r1 (h1_.mono le1) hx1) (fun cv1 w1 S2 O1 le2 I3 hv1 => ?_))
 obtain ⟨rfl, rfl⟩ := hv1
 have I2 := bk1 [] trivial I3 le2
 refine wa_ (v := (vi x1)) rfl rfl (ad_ (ab_ (ab_ (aa_ (wm_ (v := (vi x1)) rfl rfl (wo_ (bn_ (a := x1) (b := (-1)) rfl rfl rfl (ad_ ?_))))))))
 rcases ifs h with ⟨hc1, h⟩ | ⟨hc1, h⟩
 ·
  refine ai_ (b := x1 == (-1)) rfl hc1 (ab_ (aa_ (wm_ (v := (.slice z0_ m0_ k0_)) rfl rfl (wa_ (v := (.slice z0_ m0_ k0_)) rfl rfl (ad_ (al_ ?_))))))
  obtain rfl := sj h
  exact ⟨rfl, (.slice z0_ m0_ k0_), (bq_ rfl rfl), _, [Row (α := Int) 3 (.slice z0_ m0_ k0_) (a0)], lr, I2, _, _, _, rfl, rfl⟩
 refine ak_ (b := x1 == (-1)) rfl hc1 (av_ (ab_ (ab_ (aa_ (wm_ (v := (vi x1)) rfl rfl (wo_ (bp_ (a := x1) (b := 1) rfl rfl rfl (wa_ (v := (vi (w64 (x1 + 1)))) rfl rfl (ad_ ?_)))))))))
 obtain ⟨out1, hrun1, h⟩ := bnd h
 refine bs_ (fun f w => Inv w S (Row (α := Int) 3 (.slice z0_ m0_ k0_) (out1.1) :: Fr) ∧ f 0 = (.slice z0_ m0_ k0_) ∧ f 1 = v1 ∧ f 5 = (vi out1.2.1) ∧ f 6 = (vi out1.2.2) ∧ f.ds = []) ?_ ?_
 ·
  refine ax_ ?_
  refine hv_ (I := fun (s1 : (List Int × Int × Int)) (f : Frm) (w : World) => Inv w S (Row (α := Int) 3 (.slice z0_ m0_ k0_) (s1.1) :: Fr) ∧ f 0 = (.slice z0_ m0_ k0_) ∧ f 1 = v1 ∧ f 5 = (vi s1.2.1) ∧ f 6 = (vi s1.2.2) ∧ f.ds = []) hrun1 ⟨I2, rfl, rfl, rfl, rfl, rfl⟩ ?_
  rintro s1 f w o1 hI1 h1 hout1
  obtain ⟨I22, e25, e26, e27, e28, ed7⟩ := hI1
  refine ab_ (ab_ (aa_ (wm_ rfl e28 (wm_ rfl e25 (wo_ (hj_ (α := Int) rfl Tryz.underlying28 rfl (I22.nth 0 rfl) (wo_ (bg_ (a := s1.2.2) (b := (s1.1.length : Int)) rfl rfl rfl (ad_ ?_)))))))))
  rcases ifs h1 with ⟨hc14, h1⟩ | ⟨hc14, h1⟩
  ·
   refine ai_ (b := decide (s1.2.2 < (s1.1.length : Int))) rfl hc14 (av_ (ab_ (ax_ (ab_ (aa_ (wm_ rfl e25 (wm_ rfl e28 ?_)))))))
   obtain ⟨x20, hx20, h1⟩ := bnd h1
   refine wo_ (bf_ (v := (.slice z0_ m0_ k0_)) (i := s1.2.2) (e := x20) rfl Tryz.underlying28 sh3 rfl (Inv.rowSrc (I22.nth 0 rfl)) rfl hx20 (wo_ (ag_ (v := (ah_ (.slice z0_ m0_ k0_) (s1.2.2) (Enc.sz Int))) (e := x20) rfl sh3 rfl ((I22.nth 0 rfl).rowElem hx20) (wa_ (v := (vi x20)) rfl rfl (ad_ (ab_ (aa_ (wm_ rfl e26 (wm_ (v := (vi x20)) rfl rfl ?_)))))))))
   obtain ⟨x21, hx21, h1⟩ := bnd h1
   refine wo_ (ju_ (v := v1) (u := (vi x20)) (r := x21) rfl rfl h1_ rfl (ei_ _) hx21 I22 (fun w14 I23 => (wo_ (bz_ (b := x21) rfl rfl (ad_ ?_)))))
   rcases ifs h1 with ⟨hc15, h1⟩ | ⟨hc15, h1⟩
   ·
    refine ai_ (b := !x21) rfl hc15 (ab_ (aa_ (wm_ rfl e25 (wm_ rfl e27 (wm_ (v := (vi x20)) rfl rfl ?_)))))
    obtain ⟨x22, hx22, h1⟩ := bnd h1
    refine wo_ (bf_ (v := (.slice z0_ m0_ k0_)) (i := s1.2.1) (e := x22) rfl Tryz.underlying28 sh3 rfl (Inv.rowSrc (I23.nth 0 rfl)) rfl hx22 (wo_ (dr_ (u := (vi x20)) (e' := x20) sh3 I23 rfl rfl hx22 (ei_ _) (fun w15 I24 => (ad_ (aa_ (wm_ rfl e27 (wo_ (bp_ (a := s1.2.1) (b := 1) rfl rfl rfl (wa_ (v := (vi (w64 (s1.2.1 + 1)))) rfl rfl (ad_ (aa_ (wm_ rfl e28 (wo_ (bp_ (a := s1.2.2) (b := 1) rfl rfl rfl (wa_ (v := (vi (w64 (s1.2.2 + 1)))) rfl rfl (ad_ ?_)))))))))))))))))
    obtain rfl := sj h1
    exact ⟨_, rfl, I24, e25, e26, rfl, rfl, ed7⟩
   refine ak_ (b := !x21) rfl hc15 (av_ (aa_ (wm_ rfl e28 (wo_ (bp_ (a := s1.2.2) (b := 1) rfl rfl rfl (wa_ (v := (vi (w64 (s1.2.2 + 1)))) rfl rfl (ad_ ?_)))))))
   obtain rfl := sj h1
   exact ⟨_, rfl, I23, e25, e26, e27, rfl, ed7⟩
  refine ak_ (b := decide (s1.2.2 < (s1.1.length : Int))) rfl hc14 (bj_ ?_)
  obtain rfl := sj h1
  obtain rfl := (hout1 _ rfl)
  exact ⟨I22, e25, e26, e27, e28, ed7⟩
 rintro f w ⟨I25, e29, e30, e31, e32, ed8⟩
 refine ab_ (aa_ (wm_ rfl e29 (wm_ rfl e31 ?_)))
 obtain ⟨x23, hx23, h⟩ := bnd h
 refine wo_ (op_sliceEnd (v := (.slice z0_ m0_ k0_)) (lo := out1.2.1) rfl Tryz.underlying28 sh3 rfl I25 rfl hx23 (fun u1 hu1 => (wo_ (op_clear (u := u1) (b := (out1.2.1).toNat) rfl Tryz.underlying28 el3 rfl I25 (sub_le hx23) hu1 (fun w16 I26 => (ad_ (ab_ (aa_ (wm_ rfl e29 (wm_ rfl e31 ?_))))))))))
 obtain ⟨x24, hx24, h⟩ := bnd h
 refine wo_ (op_sliceH_row (v := (.slice z0_ m0_ k0_)) (hi := out1.2.1) rfl Tryz.underlying28 sh3 rfl I26 rfl hx24 (fun u2 I27 => ?_))
 obtain ⟨z1, m1, k1, e33⟩ := bk_ I27
 subst e33
 refine wa_ (v := (.slice z1 m1 k1)) rfl rfl (ad_ (al_ ?_))
 obtain rfl := sj h
 exact ⟨ed8, (.slice z1 m1 k1), (bq_ rfl rfl), _, [Row (α := Int) 3 (.slice z1 m1 k1) (x24)], lr, I27, _, _, _, rfl, rfl⟩
theorem hints_Spoils_ok {w : World} {S : PH} {Fr : List HP} {a0 : Riddle} {v0 : Value} {a1 : Aid} {v1 : Value} {r : (List Int) × Int} (hI : Inv w S (Fr)) (h0_ : RV S v0 a0) (h1_ : RV S v1 a1) (h : fz_ a0 a1 = some r) :
    Calls Tryz.prog 16 [v0, v1].toArray w (ms_ S Fr (fun T_ v_ O_ => ∃ (a0_ : Option Addr) (n0_ k0_ : Nat), v_ = (Value.tuple #[(Value.slice a0_ n0_ k0_), (Value.int .i64 (r.2))]) ∧ O_ = [Row (α := Int) 3 (Value.slice a0_ n0_ k0_) (r.1)])) := by
 unfold fz_ at h
 obtain ⟨c1, c2, c3, c4, e1, r1, r2, r3, r4⟩ := Riddle.inv h0_
 subst e1
 obtain ⟨z1, m1, k1, rfl⟩ := af_ r1
 obtain ⟨z2, m2, k2, rfl⟩ := af_ r2
 obtain ⟨z3, m3, k3, rfl⟩ := af_ r3
 obtain ⟨z4, m4, k4, rfl⟩ := af_ r4
 obtain ⟨c5, e6, r5⟩ := Aid.inv h1_
 subst e6
 obtain ⟨z5, m5, k5, rfl⟩ := af_ r5
 refine ar_ (n := 24) (vs := [(.agg #[(.slice z1 m1 k1), (.slice z2 m2 k2), (.slice z3 m3 k3), (.slice z4 m4 k4)]), (.agg #[(vi a1.Lock), (vi a1.Clue.Kind), (vi a1.Clue.A), (vi a1.Clue.B), (vi a1.Clue.N), (vi a1.Clue.M), (.slice z5 m5 k5), (vb a1.Clue.Not)])]) Tryz.func16 rfl rfl rfl (ab_ (aa_ (wo_ (bi_ (v := (.agg #[(.slice z1 m1 k1), (.slice z2 m2 k2), (.slice z3 m3 k3), (.slice z4 m4 k4)])) rfl hI rfl (fun g1 w1 I1 => ?_)))))
 obtain ⟨S1, le1, I2, p1⟩ := Inv.boxFreeze (x := a0) I1 (Riddle.rv (s := a0) r1 r2 r3 r4)
 refine wo_ (bi_ (v := (.agg #[(vi a1.Lock), (vi a1.Clue.Kind), (vi a1.Clue.A), (vi a1.Clue.B), (vi a1.Clue.N), (vi a1.Clue.M), (.slice z5 m5 k5), (vb a1.Clue.Not)])) rfl I2 rfl (fun g2 w2 I3 => ?_))
 obtain ⟨S2, le2, I4, p2⟩ := Inv.boxFreeze (x := a1) I3 (Aid.rv (s := a1) (r5.mono le1))
 refine wa_ (v := (.slice none 0 0)) rfl rfl (wa_ (v := (vi 0)) rfl rfl (ad_ (ab_ (aa_ (wo_ (an_ (v := (pt_ g1)) (e := a0) rfl ii_ rfl ((p1.mono le2).at_ I4) (fun u1 hu1 => ?_)))))))
 obtain ⟨c6, c7, c8, c9, e8, r6, r7, r8, r9⟩ := Riddle.inv hu1
 subst e8
 obtain ⟨z6, m6, k6, rfl⟩ := af_ r6
 obtain ⟨z7, m7, k7, rfl⟩ := af_ r7
 obtain ⟨z8, m8, k8, rfl⟩ := af_ r8
 obtain ⟨z9, m9, k9, rfl⟩ := af_ r9
 refine wo_ (an_ (v := (pt_ g2)) (e := a1) rfl sh32 rfl (p2.at_ I4) (fun u2 hu2 => ?_))
 obtain ⟨c10, e13, r10⟩ := Aid.inv hu2
 subst e13
 obtain ⟨z10, m10, k10, rfl⟩ := af_ r10
 obtain ⟨x1, hx1, h⟩ := bnd h
 refine wo_ (bo_ (vs := [(.agg #[(.slice z6 m6 k6), (.slice z7 m7 k7), (.slice z8 m8 k8), (.slice z9 m9 k9)]), (.agg #[(vi a1.Lock), (vi a1.Clue.Kind), (vi a1.Clue.A), (vi a1.Clue.B), (vi a1.Clue.N), (vi a1.Clue.M), (.slice z10 m10 k10), (vb a1.Clue.Not)])]) rfl ca37 rfl (bt_ rfl rfl) (kg_ I4 (Riddle.rv (s := a0) r6 r7 r8 r9) (Aid.rv (s := a1) r10) hx1) (fun cv1 w3 S3 O1 le3 I5 hv1 => ?_))
 obtain ⟨c11, c12, rfl, rfl, r11, r12⟩ := hv1
 refine wm_ (v := (Value.tuple #[c11, c12, (vi x1.2.2)])) rfl rfl (wo_ (bc_ (v := c11) rfl rfl rfl (wo_ (bc_ (v := c12) rfl rfl rfl (wo_ (bc_ (v := (vi x1.2.2)) rfl rfl rfl (wa_ (v := c11) rfl rfl (wa_ (v := c12) rfl rfl (wa_ (v := (vi x1.2.2)) rfl rfl (ad_ (ab_ (ab_ (aa_ (wm_ (v := (vi x1.2.2)) rfl rfl (wo_ (cd_ (a := x1.2.2) (b := 0) rfl rfl rfl (ad_ ?_)))))))))))))))))
 rcases ifs h with ⟨hc1, h⟩ | ⟨hc1, h⟩
 ·
  refine ai_ (b := x1.2.2 != 0) rfl hc1 (ab_ (aa_ (wm_ (v := (vi x1.2.2)) rfl rfl (wa_ (v := (.slice none 0 0)) rfl rfl (wa_ (v := (vi x1.2.2)) rfl rfl (ad_ (al_ ?_)))))))
  have I6 := Inv.rowNil (α := Int) (T := 3) I5
  obtain rfl := sj h
  exact ⟨rfl, (Value.tuple #[(.slice none 0 0), (vi x1.2.2)]), (oq_ rfl rfl rfl), _, [Row (α := Int) 3 (.slice none 0 0) (([] : List Int))], ((le1.trans le2).trans le3), I6, _, _, _, rfl, rfl⟩
 refine ak_ (b := x1.2.2 != 0) rfl hc1 (av_ (ab_ (aa_ (wm_ (v := c11) rfl rfl (wm_ (v := c12) rfl rfl ?_)))))
 obtain ⟨x2, hx2, h⟩ := bnd h
 obtain ⟨x3, hx3, h⟩ := bnd h
 obtain ⟨x4, hx4, h⟩ := bnd h
 refine wo_ (bo_ (vs := [c11, c12]) rfl ca45 rfl (bt_ rfl rfl) (kd_ I5 (lh_ r11 hx2) (lh_ r12 hx3) hx4) (fun cv2 w4 S4 O2 le4 I7 hv2 => ?_))
 obtain ⟨z11, m11, k11, rfl, rfl⟩ := hv2
 refine wo_ (ck_ (fv := #[]) (cv := #[(pt_ g2)]) rfl arr0 (arr1 rfl) ?_)
 obtain ⟨x5, hx5, h⟩ := bnd h
 refine wo_ (bo_ (vs := [(.slice z11 m11 k11), (.func (.func 46) #[] #[(pt_ g2)])]) rfl ca44 rfl (bt_ rfl rfl) (lr_ I7 ⟨46, [(pt_ g2)], rfl, ca46, fun T_ w_ Fr_ u_ x_ r_ hle_ hI_ hu_ hr_ => by have e_ := rv_int hu_; subst e_; exact hints_Spoils_1_ok hI_ ((p2.mono (le3.trans le4)).mono hle_) hr_⟩ hx5) (fun cv3 w5 S5 O3 le5 I8 hv3 => ?_))
 obtain ⟨z12, m12, k12, rfl, rfl⟩ := hv3
 refine wa_ (v := (.slice z12 m12 k12)) rfl rfl (wa_ (v := (vi 0)) rfl rfl (ad_ (al_ ?_)))
 obtain rfl := sj h
 exact ⟨rfl, (Value.tuple #[(.slice z12 m12 k12), (vi 0)]), (oq_ rfl rfl rfl), _, [Row (α := Int) 3 (.slice z12 m12 k12) (x5)], ((((le1.trans le2).trans le3).trans le4).trans le5), I8, _, _, _, rfl, rfl⟩
end Go.Proofs.YtlpdpeghgndmkaaGreat.Pad
