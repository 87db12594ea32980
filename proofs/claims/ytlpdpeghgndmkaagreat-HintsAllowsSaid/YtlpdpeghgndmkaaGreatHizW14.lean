/- A part of the proof: what the functions of the program compute, shown over the model. -/
import Derived.Test.YtlpdpeghgndmkaaGreatHizP
import Derived.Test.YtlpdpeghgndmkaaGreatHizW1
import Derived.Test.YtlpdpeghgndmkaaGreatHizW4
import Derived.KernelRfl
set_option linter.unusedVariables false
set_option maxHeartbeats 4000000
set_option maxRecDepth 100000
namespace Go.Proofs.YtlpdpeghgndmkaaGreat.Pad
open Go Go.Proofs
theorem xc_ {w : World} {S : PH} {Fr : List HP} {a0 : Riddle} {v0 : Value} {a1 : (List (List Int))} {v1 : Value} {r : Bool} (hI : Inv w S (Fr)) (h0_ : RV S v0 a0) (h1_ : RV S v1 a1) (h : mt_ a0 a1 = some r) :
    Calls Tryz.prog 119 [v0, v1].toArray w (bw_ S Fr (Value.bool (r))) := by
 unfold mt_ at h
 obtain ⟨c1, c2, c3, c4, e1, r1, r2, r3, r4⟩ := Riddle.inv h0_
 subst e1
 obtain ⟨z1, m1, k1, rfl⟩ := ac_ r1
 obtain ⟨z2, m2, k2, rfl⟩ := ac_ r2
 obtain ⟨z3, m3, k3, rfl⟩ := ac_ r3
 obtain ⟨z4, m4, k4, rfl⟩ := ac_ r4
 obtain ⟨z5, m5, k5, rfl⟩ := ac_ h1_
 refine ao_ (n := 38) Tryz.func119 rfl rfl rfl (ab_ (aa_ (wo_ (bi_ (v := (.agg #[(.slice z1 m1 k1), (.slice z2 m2 k2), (.slice z3 m3 k3), (.slice z4 m4 k4)])) rfl hI rfl (fun g1 w1 I1 => ?_)))))
 obtain ⟨S1, le1, I2, p1⟩ := Inv.boxFreeze (x := a0) I1 (Riddle.rv (s := a0) r1 r2 r3 r4)
 refine wa_ (v := (vb false)) rfl rfl (ad_ (ab_ (ab_ (aa_ (wa_ (v := (vi 0)) rfl rfl (ad_ ?_))))))
 have hk1 : a0.Ties.length ≤ 9223372036854775807 := (cx_ r4)
 obtain ⟨o2, hrun1, h⟩ := bnd h
 refine bp_ (fun f w => ∃ out1, o2 = Sum.inl out1 ∧ ∃ (S_ : PH), S1.Le S_ ∧ Inv w S_ (Fr) ∧ f 1 = (.slice z5 m5 k5) ∧ f 2 = (pt_ g1) ∧ f.ds = []) ?_ ?_
 ·
  refine au_ ?_
  refine ex_ (I := fun (i1 : Nat) (s1 : Unit) (f : Frm) (w : World) => ∃ (S_ : PH), S1.Le S_ ∧ Inv w S_ (Fr) ∧ f 1 = (.slice z5 m5 k5) ∧ f 2 = (pt_ g1) ∧ f 5 = (vi (i1 : Int)) ∧ f.ds = []) hrun1 ⟨_, lr, I2, rfl, rfl, rfl, rfl⟩ ?_ ?_
  ·
   rintro i1 s1 f w o1 hlt1 hI61 h1 hout1
   obtain ⟨S64, le64, I72, e57, e58, e59, ed7⟩ := hI61
   refine ab_ (ab_ (aa_ (wm_ rfl e59 (wo_ (ae_ rfl nv_ e58 ((p1.mono le64).at_ I72) (wo_ (ld_ sh25 (((p1.mono le64).at_ I72).fld Riddle.fld3) rfl (fun u40 hu40 => ?_))))))))
   obtain ⟨z36, m36, k36, rfl⟩ := ac_ hu40
   refine wo_ (az_ rfl Tryz.underlying25 rfl hu40 (wo_ (be_ rfl rfl rfl (ad_ (ah_ rfl (eo_ hlt1) (ar_ (ab_ (au_ (ab_ (aa_ (wo_ (ae_ rfl nv_ e58 ((p1.mono le64).at_ I72) (wo_ (ld_ sh25 (((p1.mono le64).at_ I72).fld Riddle.fld3) rfl (fun u41 hu41 => ?_)))))))))))))))
   obtain ⟨z37, m37, k37, rfl⟩ := ac_ hu41
   refine wm_ rfl e59 ?_
   obtain ⟨x16, hx16, h1⟩ := bnd h1
   refine wo_ (ix_ Tryz.underlying25 sh75 hu41 hx16 rfl rfl (wo_ (ld_ sh75 (hu41.elem I72.in_ hx16) rfl (fun u42 hu42 => ?_))))
   have e63 := Tie.inv hu42
   subst e63
   refine wo_ (bu_ (z := (.agg #[(vi 0), (vi 0), (vi 0), (vi 0)])) rfl I72 zo75 (fun g5 w69 (I73 : Inv w69 S64 (am_ g5 75 #[(vi 0), (vi 0), (vi 0), (vi 0)] :: Fr)) => (wo_ (bb_ (v := (.agg #[(vi x16.LockA), (vi x16.WheelA), (vi x16.LockB), (vi x16.WheelB)])) (cs := #[(vi 0), (vi 0), (vi 0), (vi 0)]) sh75 I73 rfl rfl rfl nb rfl (fun w70 (I74 : Inv w70 S64 (am_ g5 75 #[(vi x16.LockA), (vi x16.WheelA), (vi x16.LockB), (vi x16.WheelB)] :: Fr)) => (ad_ (ab_ ?_)))))))
   obtain ⟨x17, hx17, h1⟩ := bnd h1
   obtain ⟨x18, hx18, h1⟩ := bnd h1
   obtain ⟨x19, hx19, h1⟩ := bnd h1
   obtain ⟨x20, hx20, h1⟩ := bnd h1
   refine bj_ (sps := [spV 19 [] 0 (.slice z5 m5 k5), spV 20 [] 1 (pt_ g5), ⟨some 21, [1], [2], fun vs_ T_ => fr0 vs_ 0 = (vi x16.LockA), [0], [], [], fun _ h_ => h_⟩, spV 22 [0, 1, 2] 3 (af_ (.slice z5 m5 k5) (x16.LockA) (Enc.sz (List Int))), spR 23 [0, 1, 2, 3] 4 x17, spV 24 [] 5 (.pointer (some ⟨g5, 1, none⟩)), ⟨some 25, [5], [6], fun vs_ T_ => fr0 vs_ 0 = (vi x16.WheelA), [0], [], [], fun _ h_ => h_⟩, spW 26 (lrg 7) [7, 4] fun vs_ => (af_ (fr0 vs_ 1) (x16.WheelA) (Enc.sz Int)), spV 27 (lrg 8) 8 (vi x18), spV 28 [] 9 (.slice z5 m5 k5), spV 29 [] 10 (.pointer (some ⟨g5, 2, none⟩)), ⟨some 30, [10], [11], fun vs_ T_ => fr0 vs_ 0 = (vi x16.LockB), [0], [], [], fun _ h_ => h_⟩, spV 31 [9, 10, 11] 12 (af_ (.slice z5 m5 k5) (x16.LockB) (Enc.sz (List Int))), spR 32 [9, 10, 11, 12] 13 x19, spV 33 [] 14 (.pointer (some ⟨g5, 3, none⟩)), ⟨some 34, [14], [15], fun vs_ T_ => fr0 vs_ 0 = (vi x16.WheelB), [0], [], [], fun _ h_ => h_⟩, spW 35 [9, 10, 11, 12, 13, 14, 15] [16, 13] fun vs_ => (af_ (fr0 vs_ 1) (x16.WheelB) (Enc.sz Int)), spV 36 [9, 10, 11, 12, 13, 14, 15, 16] 17 (vi x20), spV 37 (lrg 18) 18 (vb (x18 != x20))]) (tks := [⟨none, none, [], fun vs_ => am_ g5 75 #[(vi x16.LockA), (vi x16.WheelA), (vi x16.LockB), (vi x16.WheelB)]⟩]) (O := Fr) rfl (by kernel_rfl) I74 ⟨ob_ rfl fun l A K I => (aq_ rfl ((K 1 (ag_ rfl)).trans e57) (fo I)), ob_ rfl fun l A K I => (av_ (v := (pt_ g5)) rfl ja_ (K 6 (ag_ rfl)) rfl (fo I)), ?_, ob_ rfl fun l A K I => (ix_ Tryz.underlying23 fn_ (h1_.mono ((le1.trans le64).trans l)) hx17 (A.v 0 rfl) (A.v 2 rfl) (fo I)), ?_, ob_ rfl fun l A K I => (av_ (v := (pt_ g5)) rfl rt_ (K 6 (ag_ rfl)) rfl (fo I)), ?_, ?_, ?_, ob_ rfl fun l A K I => (aq_ rfl ((K 1 (ag_ rfl)).trans e57) (fo I)), ob_ rfl fun l A K I => (av_ (v := (pt_ g5)) rfl ke_ (K 6 (ag_ rfl)) rfl (fo I)), ?_, ob_ rfl fun l A K I => (ix_ Tryz.underlying23 fn_ (h1_.mono ((le1.trans le64).trans l)) hx19 (A.v 0 rfl) (A.v 2 rfl) (fo I)), ?_, ob_ rfl fun l A K I => (av_ (v := (pt_ g5)) rfl vn_ (K 6 (ag_ rfl)) rfl (fo I)), ?_, ?_, ?_, ?_, trivial⟩ ?_
   ·
    intro vs f w_ U X le A K I
    have I77 : Inv w_ U (am_ g5 75 #[(vi x16.LockA), (vi x16.WheelA), (vi x16.LockB), (vi x16.WheelB)] :: X) := I
    refine pl_ rfl (bd_ (c := (vi x16.LockA)) rfl sh3 (I77.nth 0 rfl) (A.v 0 rfl) rfl (fo I77))
   ·
    intro vs f w_ U X le A K I
    have q73 := A.v 3 rfl
    refine pl_ rfl (ay_ rfl fn_ q73 ((h1_.mono ((le1.trans le64).trans le)).elem I.in_ hx17) (fun u45 hu45 => ?_))
    obtain ⟨z38, m38, k38, rfl⟩ := ac_ hu45
    refine ⟨_, _, rfl, lr, ?_, ?_⟩
    · exact hu45
    exact I
   ·
    intro vs f w_ U X le A K I
    have I81 : Inv w_ U (am_ g5 75 #[(vi x16.LockA), (vi x16.WheelA), (vi x16.LockB), (vi x16.WheelB)] :: X) := I
    refine pl_ rfl (bd_ (c := (vi x16.WheelA)) rfl sh3 (I81.nth 0 rfl) (A.v 0 rfl) rfl (fo I81))
   ·
    intro vs f w_ U X le A K I
    obtain ⟨z39, m39, k39, hu46, q75, r17⟩ := A.sl (a := 4) 4 rfl rfl rfl
    have q76 := A.v 6 rfl
    refine pl_ rfl (ix_ Tryz.underlying28 sh3 r17 hx18 q75 q76 (⟨_, _, rfl, lr, ?_, ?_⟩))
    ·
     show (af_ (Value.slice z39 m39 k39) (x16.WheelA) (Enc.sz Int)) = (af_ (vs 4) (x16.WheelA) (Enc.sz Int))
     simp only [hu46] <;> rfl
    exact I
   ·
    intro vs f w_ U X le A K I
    obtain ⟨z40, m40, k40, hu47, q77, r18⟩ := A.sl (a := 4) 4 rfl rfl rfl
    have q79 : f 26 = (af_ (vs 4) (x16.WheelA) (Enc.sz Int)) := A.v 7 rfl
    simp only [hu47] at q79
    have q79 : f 26 = (af_ (Value.slice z40 m40 k40) (x16.WheelA) (Enc.sz Int)) := q79
    refine pl_ rfl (aj_ rfl sh3 q79 (r18.elem I.in_ hx18) (fo I))
   ·
    intro vs f w_ U X le A K I
    have I86 : Inv w_ U (am_ g5 75 #[(vi x16.LockA), (vi x16.WheelA), (vi x16.LockB), (vi x16.WheelB)] :: X) := I
    refine pl_ rfl (bd_ (c := (vi x16.LockB)) rfl sh3 (I86.nth 0 rfl) (A.v 0 rfl) rfl (fo I86))
   ·
    intro vs f w_ U X le A K I
    have q83 := A.v 3 rfl
    refine pl_ rfl (ay_ rfl fn_ q83 ((h1_.mono ((le1.trans le64).trans le)).elem I.in_ hx19) (fun u48 hu48 => ?_))
    obtain ⟨z41, m41, k41, rfl⟩ := ac_ hu48
    refine ⟨_, _, rfl, lr, ?_, ?_⟩
    · exact hu48
    exact I
   ·
    intro vs f w_ U X le A K I
    have I90 : Inv w_ U (am_ g5 75 #[(vi x16.LockA), (vi x16.WheelA), (vi x16.LockB), (vi x16.WheelB)] :: X) := I
    refine pl_ rfl (bd_ (c := (vi x16.WheelB)) rfl sh3 (I90.nth 0 rfl) (A.v 0 rfl) rfl (fo I90))
   ·
    intro vs f w_ U X le A K I
    obtain ⟨z42, m42, k42, hu49, q85, r19⟩ := A.sl (a := 13) 4 rfl rfl rfl
    have q86 := A.v 6 rfl
    refine pl_ rfl (ix_ Tryz.underlying28 sh3 r19 hx20 q85 q86 (⟨_, _, rfl, lr, ?_, ?_⟩))
    ·
     show (af_ (Value.slice z42 m42 k42) (x16.WheelB) (Enc.sz Int)) = (af_ (vs 13) (x16.WheelB) (Enc.sz Int))
     simp only [hu49] <;> rfl
    exact I
   ·
    intro vs f w_ U X le A K I
    obtain ⟨z43, m43, k43, hu50, q87, r20⟩ := A.sl (a := 13) 4 rfl rfl rfl
    have q89 : f 35 = (af_ (vs 13) (x16.WheelB) (Enc.sz Int)) := A.v 7 rfl
    simp only [hu50] at q89
    have q89 : f 35 = (af_ (Value.slice z43 m43 k43) (x16.WheelB) (Enc.sz Int)) := q89
    refine pl_ rfl (aj_ rfl sh3 q89 (r20.elem I.in_ hx20) (fo I))
   ·
    intro vs f w_ U X le A K I
    refine pl_ rfl (cd_ rfl (A.v 8 rfl) (A.v 17 rfl) (fo I))
   intro vs80 f w90 S84 ed8 le84 hF4 hK80 hI81
   have e70 : f 1 = (Value.slice z5 m5 k5) := (hK80 1 (al_ rfl)).trans e57
   have e71 : f 2 = (pt_ g1) := (hK80 2 (al_ rfl)).trans e58
   have e72 : f 5 = (vi ((i1 : Int))) := (hK80 5 (al_ rfl)).trans e59
   have I94 : Inv w90 S84 (am_ g5 75 #[(vi x16.LockA), (vi x16.WheelA), (vi x16.LockB), (vi x16.WheelB)] :: Fr) := hI81
   have q92 := hF4.v 18 rfl
   rcases ifs h1 with ⟨hc4, h1⟩ | ⟨hc4, h1⟩
   ·
    refine ah_ q92 hc4 (ab_ (aa_ (wa_ (v := (vb false)) rfl rfl (ad_ (ak_ ?_)))))
    obtain rfl := sj h1
    obtain rfl := (hout1 _ rfl)
    have h2 := h
    obtain rfl := sj h2
    exact ⟨(ed8.trans ed7), (vb false), (bo_ rfl rfl), _, [], ((le1.trans le64).trans le84), (I94).drop, rfl, rfl⟩
   refine ai_ q92 hc4 (ar_ (aa_ (wm_ rfl e72 (wo_ (bl_ rfl rfl rfl (wa_ (v := (vi (w64 ((i1 : Int) + 1)))) rfl rfl (ad_ ?_)))))))
   obtain rfl := sj h1
   exact ⟨_, rfl, _, (le64.trans le84), (I94).drop, e70, e71, (bh_ hlt1 hk1), (ed8.trans ed7)⟩
  rintro s2 f w hs1 hI82
  obtain ⟨S85, le85, I95, e73, e74, e75, ed9⟩ := hI82
  refine ab_ (ab_ (aa_ (wm_ rfl e75 (wo_ (ae_ rfl nv_ e74 ((p1.mono le85).at_ I95) (wo_ (ld_ sh25 (((p1.mono le85).at_ I95).fld Riddle.fld3) rfl (fun u52 hu52 => ?_))))))))
  obtain ⟨z45, m45, k45, rfl⟩ := ac_ hu52
  refine wo_ (az_ rfl Tryz.underlying25 rfl hu52 (wo_ (be_ rfl rfl rfl (ad_ (ai_ rfl (ep_ _) (bk_ ?_))))))
  exact ⟨s2, hs1, _, le85, I95, e73, e74, ed9⟩
 rintro f w ⟨out1, rfl, S86, le86, I96, e78, e79, ed10⟩
 have h := eh_ h
 refine ab_ (aa_ (wa_ (v := (vb true)) rfl rfl (ad_ (ak_ ?_))))
 obtain rfl := sj h
 exact ⟨ed10, (vb true), (bo_ rfl rfl), _, [], (le1.trans le86), I96, rfl, rfl⟩
theorem ud_ (n_ : Nat) : ∀ {w : World} {S : PH} {Fr : List HP} {a0 : Riddle} {v0 : Value} {a1 : (List (List (List Int)))} {v1 : Value} {a2 : (List (List Int))} {v2 : Value} {r : (List (List (List Int)))} (hI : Inv w S (Fr)) (h0_ : RV S v0 a0) (h1_ : RV S v1 a1) (h2_ : RV S v2 a2) (h : fp_ n_ a0 a1 a2 = some r),
    Calls Tryz.prog 99 [v0, v1, v2].toArray w (lp_ S Fr (fun T_ v_ O_ => ∃ (a0_ : Option Addr) (n0_ k0_ : Nat), v_ = (Value.slice a0_ n0_ k0_) ∧ O_ = [Row (α := (List (List Int))) 23 (Value.slice a0_ n0_ k0_) (r)])) := by
  induction n_ with
  | zero => intros; rename_i h; cases h
  | succ n_ ih =>
   intro w S Fr a0 v0 a1 v1 a2 v2 r hI h0_ h1_ h2_ h
   rw [fp_] at h
   obtain ⟨c1, c2, c3, c4, e1, r1, r2, r3, r4⟩ := Riddle.inv h0_
   subst e1
   obtain ⟨z1, m1, k1, rfl⟩ := ac_ r1
   obtain ⟨z2, m2, k2, rfl⟩ := ac_ r2
   obtain ⟨z3, m3, k3, rfl⟩ := ac_ r3
   obtain ⟨z4, m4, k4, rfl⟩ := ac_ r4
   obtain ⟨z5, m5, k5, rfl⟩ := ac_ h1_
   obtain ⟨z6, m6, k6, rfl⟩ := ac_ h2_
   refine ao_ (n := 46) Tryz.func99 rfl rfl rfl (ab_ (aa_ (wo_ (bi_ (v := (Value.agg #[(.slice z1 m1 k1), (.slice z2 m2 k2), (.slice z3 m3 k3), (.slice z4 m4 k4)])) rfl hI rfl (fun g1 w1 I1 => ?_)))))
   obtain ⟨S1, le1, I2, p1⟩ := Inv.boxFreeze (x := a0) I1 (Riddle.rv (s := a0) r1 r2 r3 r4)
   refine wa_ (v := sn) rfl rfl (ad_ (ab_ (ab_ (aa_ (wm_ (v := (.slice z6 m6 k6)) rfl rfl (wo_ (az_ rfl Tryz.underlying23 rfl (h2_.mono le1) (wm_ (v := (.slice z5 m5 k5)) rfl rfl (wo_ (az_ rfl Tryz.underlying55 rfl (h1_.mono le1) (wo_ (bm_ rfl rfl rfl (ad_ ?_)))))))))))))
   rcases ifs h with ⟨hc1, h⟩ | ⟨hc1, h⟩
   ·
    refine ah_ rfl hc1 (ab_ (ab_ (aa_ (wo_ (ld_ fr_ (p1.at_ I2) rfl (fun u1 hu1 => ?_))))))
    obtain ⟨c5, c6, c7, c8, e8, r5, r6, r7, r8⟩ := Riddle.inv hu1
    subst e8
    obtain ⟨z7, m7, k7, rfl⟩ := ac_ r5
    obtain ⟨z8, m8, k8, rfl⟩ := ac_ r6
    obtain ⟨z9, m9, k9, rfl⟩ := ac_ r7
    obtain ⟨z10, m10, k10, rfl⟩ := ac_ r8
    refine wm_ (v := (.slice z6 m6 k6)) rfl rfl ?_
    obtain ⟨x1, hx1, h⟩ := bnd h
    refine wo_ (cv_ ca119 rfl I2 (fun Fr_ hF_ => xc_ hF_ (Riddle.rv (s := a0) r5 r6 r7 r8) (h2_.mono le1) hx1) (br_ rfl rfl) (fun w2 I3 => (wo_ (bx_ rfl rfl (ad_ ?_)))))
    rcases ifs h with ⟨hc2, h⟩ | ⟨hc2, h⟩
    ·
     refine ah_ rfl hc2 (ab_ (aa_ (wa_ (v := sn) rfl rfl (ad_ (ak_ ?_)))))
     have I4 := Inv.rowNil (α := (List (List Int))) (T := 23) I3
     obtain rfl := sj h
     exact ⟨rfl, sn, (bo_ rfl rfl), _, [Row (α := (List (List Int))) 23 sn (([] : List (List (List Int))))], le1, I4, _, _, _, rfl, rfl⟩
    ·
     refine ai_ rfl hc2 (ar_ (ab_ (aa_ (wm_ (v := (.slice z6 m6 k6)) rfl rfl (wo_ (bf_ (vs := [(.slice z6 m6 k6)]) (r := ([a2] : List (List (List Int)))) rfl Tryz.underlying55 el23 (fc_ rfl) rfl (by decide) (by decide) ⟨(h2_.mono le1), trivial⟩ I3 (fun u2 w3 I5 => ?_)))))))
     obtain ⟨z11, m11, k11, e13⟩ := bc_ I5
     subst e13
     refine wa_ (v := (.slice z11 m11 k11)) rfl rfl (ad_ (ak_ ?_))
     obtain rfl := sj h
     exact ⟨rfl, (.slice z11 m11 k11), (bo_ rfl rfl), _, [Row (α := (List (List Int))) 23 (.slice z11 m11 k11) (([a2] : List (List (List Int))))], le1, I5, _, _, _, rfl, rfl⟩
   ·
    refine ai_ rfl hc1 (ar_ (ab_ (aa_ (wa_ (v := sn) rfl rfl (ad_ (ab_ (aa_ (wm_ (v := (.slice z5 m5 k5)) rfl rfl (wm_ (v := (.slice z6 m6 k6)) rfl rfl (wo_ (az_ rfl Tryz.underlying23 rfl (h2_.mono le1) ?_)))))))))))
    obtain ⟨x2, hx2, h⟩ := bnd h
    refine wo_ (ix_ Tryz.underlying55 lq_ (h1_.mono le1) hx2 rfl rfl (wo_ (ld_ lq_ ((h1_.mono le1).elem I2.in_ hx2) rfl (fun u3 hu2 => ?_))))
    obtain ⟨z12, m12, k12, rfl⟩ := ac_ hu2
    refine wa_ (v := (.slice z12 m12 k12)) rfl rfl (ad_ (ab_ (ab_ (aa_ (wa_ (v := (vi 0)) rfl rfl (ad_ ?_))))))
    have hk1 : x2.length ≤ 9223372036854775807 := (cx_ hu2)
    have I113 := Inv.rowNil (α := (List (List Int))) (T := 23) I2
    obtain ⟨out1, hrun1, h⟩ := bnd h
    refine bp_ (fun f w => ∃ (S_ : PH) (z85 : Option Addr) (m85 k85 : Nat), S1.Le S_ ∧ Inv w S_ (Row (α := (List (List Int))) 23 (.slice z85 m85 k85) (out1) :: Fr) ∧ f 1 = (.slice z5 m5 k5) ∧ f 2 = (.slice z6 m6 k6) ∧ f 3 = (pt_ g1) ∧ f 7 = (.slice z85 m85 k85) ∧ f 8 = (.slice z12 m12 k12) ∧ f.ds = []) ?_ ?_
    ·
     refine au_ ?_
     refine da_ (I := fun (i1 : Nat) (s1 : (List (List (List Int)))) (f : Frm) (w : World) => ∃ (S_ : PH) (z84 : Option Addr) (m84 k84 : Nat), S1.Le S_ ∧ Inv w S_ (Row (α := (List (List Int))) 23 (.slice z84 m84 k84) (s1) :: Fr) ∧ f 1 = (.slice z5 m5 k5) ∧ f 2 = (.slice z6 m6 k6) ∧ f 3 = (pt_ g1) ∧ f 7 = (.slice z84 m84 k84) ∧ f 8 = (.slice z12 m12 k12) ∧ f 9 = (vi (i1 : Int)) ∧ f.ds = []) hrun1 ⟨_, _, _, _, lr, I113, rfl, rfl, rfl, rfl, rfl, rfl, rfl⟩ ?_ ?_
     ·
      rintro i1 s1 f w o1 hlt1 hI46 h1
      obtain ⟨S55, z84, m84, k84, le55, I114, e120, e121, e122, e123, e124, e125, ed7⟩ := hI46
      refine ab_ (ab_ (aa_ (wm_ rfl e125 (wm_ rfl e124 (wo_ (az_ rfl Tryz.underlying23 rfl (hu2.mono le55) (wo_ (be_ rfl rfl rfl (ad_ (ah_ rfl (eo_ hlt1) (ar_ (ab_ (au_ ?_)))))))))))))
      obtain ⟨x18, hx18, h1⟩ := bnd h1
      obtain ⟨x19, hx19, h1⟩ := bnd h1
      obtain ⟨x20, hx20, h1⟩ := bnd h1
      obtain ⟨x21, hx21, h1⟩ := bnd h1
      obtain ⟨x22, hx22, h1⟩ := bnd h1
      refine bj_ (sps := [spV 32 [] 0 (.slice z84 m84 k84), spR 33 [] 1 a0, spV 34 [] 2 (.slice z5 m5 k5), spV 35 [] 3 (.slice z6 m6 k6), ⟨some 36, [3], [4], fun vs_ T_ => ∃ a_ n_ k_, fr0 vs_ 0 = Value.slice a_ n_ k_, [], [], [0], fun _ h_ => h_⟩, spV 37 [] 5 (.slice z12 m12 k12), spV 38 [] 6 (vi (i1 : Int)), spV 39 [5, 6] 7 (af_ (.slice z12 m12 k12) ((i1 : Int)) (Enc.sz (List Int))), spR 40 [5, 6, 7] 8 x19, ⟨some 41, [5, 6, 7, 8], [9], fun vs_ T_ => ∃ a_ n_ k_, fr0 vs_ 0 = Value.slice a_ n_ k_, [], [], [1], fun _ h_ => h_⟩, ⟨some 42, [3, 4, 5, 6, 7, 8, 9], [10], fun vs_ T_ => ∃ a_ n_ k_, fr0 vs_ 0 = Value.slice a_ n_ k_, [1], [0], [2], fun _ h_ => h_⟩, ⟨some 43, [1, 2, 3, 4, 5, 6, 7, 8, 9, 10], [11], fun vs_ T_ => ∃ (a0_ : Option Addr) (n0_ k0_ : Nat), fr0 vs_ 0 = (.slice a0_ n0_ k0_), [], [2], [3], fun _ h_ => h_⟩, ⟨some 44, (lrg 12), [12], fun vs_ T_ => ∃ a_ n_ k_, fr0 vs_ 0 = Value.slice a_ n_ k_, [3], [4], [5], fun _ h_ => h_⟩, spW 7 (lrg 13) [13, 12] fun vs_ => (fr0 vs_ 1)]) (tks := [⟨some 4, some 10, [4], fun vs_ => Row (α := (List Int)) 28 (fr0 vs_ 0) (x18)⟩, ⟨some 9, none, [9], fun vs_ => Row (α := (List Int)) 28 (fr0 vs_ 0) (([x19] : List (List Int)))⟩, ⟨some 10, some 11, [10], fun vs_ => Row (α := (List Int)) 28 (fr0 vs_ 0) (x20)⟩, ⟨some 11, none, [11], fun vs_ => Row (α := (List (List Int))) 23 (fr0 vs_ 0) (x21)⟩, ⟨none, some 12, [], fun vs_ => Row (α := (List (List Int))) 23 (.slice z84 m84 k84) (s1)⟩, ⟨some 12, none, [12], fun vs_ => Row (α := (List (List Int))) 23 (fr0 vs_ 0) (x22)⟩]) (O := Fr) rfl (by kernel_rfl) I114 ⟨?_, ?_, ?_, ?_, ?_, ?_, ?_, ?_, ?_, ?_, ?_, ?_, ?_, ?_, trivial⟩ ?_
      ·
       intro vs46 f w81 S56 X43 le56 hA43 hK46 hI47
       have I120 : Inv w81 S56 (X43) := hI47
       refine pl_ rfl (aq_ rfl ((hK46 7 (ag_ rfl)).trans e123) (⟨_, _, rfl, lr, ?_, ?_⟩))
       ·
        exact rfl
       ·
        exact I120
      ·
       intro vs47 f w82 S57 X44 le57 hA44 hK47 hI48
       have I121 : Inv w82 S57 (X44) := hI48
       refine pl_ rfl (ay_ rfl fr_ ((hK47 3 (ag_ rfl)).trans e122) ((p1.mono (le55.trans le57)).at_ I121) (fun u52 hu23 => ?_))
       obtain ⟨c33, c34, c35, c36, e126, r42, r43, r44, r45⟩ := Riddle.inv hu23
       subst e126
       obtain ⟨z86, m86, k86, rfl⟩ := ac_ r42
       obtain ⟨z87, m87, k87, rfl⟩ := ac_ r43
       obtain ⟨z88, m88, k88, rfl⟩ := ac_ r44
       obtain ⟨z89, m89, k89, rfl⟩ := ac_ r45
       refine ⟨_, _, rfl, lr, ?_, ?_⟩
       ·
        exact (Riddle.rv (s := a0) r42 r43 r44 r45)
       ·
        exact I121
      ·
       intro vs48 f w83 S58 X45 le58 hA45 hK48 hI49
       have I122 : Inv w83 S58 (X45) := hI49
       refine pl_ rfl (aq_ rfl ((hK48 1 (ag_ rfl)).trans e120) (⟨_, _, rfl, lr, ?_, ?_⟩))
       ·
        exact rfl
       ·
        exact I122
      ·
       intro vs49 f w84 S59 X46 le59 hA46 hK49 hI50
       have I123 : Inv w84 S59 (X46) := hI50
       refine pl_ rfl (aq_ rfl ((hK49 2 (ag_ rfl)).trans e121) (⟨_, _, rfl, lr, ?_, ?_⟩))
       ·
        exact rfl
       ·
        exact I123
      ·
       intro vs50 f w85 S60 X47 le60 hA47 hK50 hI51
       have I124 : Inv w85 S60 (X47) := hI51
       have q52 := hA47.v 0 rfl
       have I125 := Inv.rowNil (α := (List Int)) (T := 28) I124
       refine pl_ rfl (bt_ (α := (List Int)) (v := sn) (u := (.slice z6 m6 k6)) rfl rfl Tryz.underlying23 zh_ (by decide) (by decide) rfl q52 I125 ((h2_.mono ((le1.trans le55).trans le60)).src I125.in_) hx18 (fun u53 w86 I126 => ?_))
       obtain ⟨z90, m90, k90, e131⟩ := bc_ I126
       subst e131
       refine ⟨_, _, rfl, lr, ?_, ?_⟩
       ·
        exact ⟨_, _, _, rfl⟩
       ·
        exact I126
      ·
       intro vs51 f w87 S61 X48 le61 hA48 hK51 hI52
       have I127 : Inv w87 S61 (X48) := hI52
       refine pl_ rfl (aq_ rfl ((hK51 8 (ag_ rfl)).trans e124) (⟨_, _, rfl, lr, ?_, ?_⟩))
       ·
        exact rfl
       ·
        exact I127
      ·
       intro vs52 f w88 S62 X49 le62 hA49 hK52 hI53
       have I128 : Inv w88 S62 (X49) := hI53
       refine pl_ rfl (aq_ rfl ((hK52 9 (ag_ rfl)).trans e125) (⟨_, _, rfl, lr, ?_, ?_⟩))
       ·
        exact rfl
       ·
        exact I128
      ·
       intro vs53 f w89 S63 X50 le63 hA50 hK53 hI54
       have I129 : Inv w89 S63 (X50) := hI54
       have q53 := hA50.v 0 rfl
       have q54 := hA50.v 1 rfl
       refine pl_ rfl (ix_ Tryz.underlying23 fn_ (hu2.mono (le55.trans le63)) hx19 q53 q54 (⟨_, _, rfl, lr, ?_, ?_⟩))
       ·
        exact rfl
       ·
        exact I129
      ·
       intro vs54 f w90 S64 X51 le64 hA51 hK54 hI55
       have I130 : Inv w90 S64 (X51) := hI55
       have q55 := hA51.v 2 rfl
       refine pl_ rfl (ay_ rfl fn_ q55 ((hu2.mono (le55.trans le64)).elem I130.in_ hx19) (fun u54 hu24 => ?_))
       obtain ⟨z91, m91, k91, rfl⟩ := ac_ hu24
       refine ⟨_, _, rfl, lr, ?_, ?_⟩
       ·
        exact hu24
       ·
        exact I130
      ·
       intro vs55 f w91 S65 X52 le65 hA52 hK55 hI56
       have I131 : Inv w91 S65 (X52) := hI56
       obtain ⟨z92, m92, k92, hu25, q56, r46⟩ := hA52.sl (a := 8) 3 rfl rfl rfl
       refine pl_ rfl (bf_ (vs := [(.slice z92 m92 k92)]) (r := ([x19] : List (List Int))) rfl Tryz.underlying23 zh_ (fc_ q56) rfl (by decide) (by decide) ⟨r46, trivial⟩ I131 (fun u56 w92 I132 => ?_))
       obtain ⟨z93, m93, k93, e134⟩ := bc_ I132
       subst e134
       refine ⟨_, _, rfl, lr, ?_, ?_⟩
       ·
        exact ⟨_, _, _, rfl⟩
       ·
        exact I132
      ·
       intro vs56 f w93 S66 X53 le66 hA53 hK56 hI57
       have I133 : Inv w93 S66 (Row (α := (List Int)) 28 (vs56 4) (x18) :: Row (α := (List Int)) 28 (vs56 9) (([x19] : List (List Int))) :: X53) := hI57
       obtain ⟨z94, m94, k94, e135⟩ := (hA53.at_ 1 rfl _ rfl).2
       have q57 : f 36 = Value.slice z94 m94 k94 := ((hA53.at_ 1 rfl _ rfl).1 _ rfl).trans e135
       have e135 : vs56 4 = (Value.slice z94 m94 k94) := e135
       have I134 := I133
       rw [e135] at I134
       obtain ⟨z95, m95, k95, e136⟩ := (hA53.at_ 6 rfl _ rfl).2
       have q58 : f 41 = Value.slice z95 m95 k95 := ((hA53.at_ 6 rfl _ rfl).1 _ rfl).trans e136
       have e136 : vs56 9 = (Value.slice z95 m95 k95) := e136
       have I135 := I134
       rw [e136] at I135
       refine pl_ rfl (bt_ (α := (List Int)) (v := (.slice z94 m94 k94)) (u := (.slice z95 m95 k95)) rfl rfl Tryz.underlying23 zh_ (by decide) (by decide) q57 q58 I135 (Inv.rowSrc (I135.nth 1 rfl)) hx20 (fun u57 w94 I136 => ?_))
       obtain ⟨z96, m96, k96, e137⟩ := bc_ I136
       subst e137
       refine ⟨_, _, rfl, lr, ?_, ?_⟩
       ·
        exact ⟨_, _, _, rfl⟩
       ·
        show Inv _ _ (Row (α := (List Int)) 28 ((Value.slice z96 m96 k96)) (x20) :: Row (α := (List Int)) 28 (vs56 9) (([x19] : List (List Int))) :: X53)
        simp only [e136]
        exact ((I136.pull 1).pull 1)
      ·
       intro vs57 f w95 S67 X54 le67 hA54 hK57 hI58
       have I137 : Inv w95 S67 (Row (α := (List Int)) 28 (vs57 10) (x20) :: X54) := hI58
       have q59 : f 33 = vs57 1 := (hA54.at_ 0 rfl _ rfl).1 _ rfl
       have r47 : RV S67 (vs57 1) a0 := (hA54.at_ 0 rfl _ rfl).2
       obtain ⟨u58, hu26⟩ : ∃ u, vs57 1 = u := ⟨_, rfl⟩
       rw [hu26] at q59 r47
       obtain ⟨c37, c38, c39, c40, e138, r48, r49, r50, r51⟩ := Riddle.inv r47
       subst e138
       obtain ⟨z97, m97, k97, rfl⟩ := ac_ r48
       obtain ⟨z98, m98, k98, rfl⟩ := ac_ r49
       obtain ⟨z99, m99, k99, rfl⟩ := ac_ r50
       obtain ⟨z100, m100, k100, rfl⟩ := ac_ r51
       have q60 := hA54.v 1 rfl
       obtain ⟨z101, m101, k101, e143⟩ := (hA54.at_ 9 rfl _ rfl).2
       have q61 : f 42 = Value.slice z101 m101 k101 := ((hA54.at_ 9 rfl _ rfl).1 _ rfl).trans e143
       have e143 : vs57 10 = (Value.slice z101 m101 k101) := e143
       have I138 := I137
       rw [e143] at I138
       obtain ⟨S68, le68, I139, r52⟩ := Inv.rowFreeze I138
       refine pl_ rfl (cl_ ca99 rfl (ih I139 (Riddle.rv (s := a0) (r48.mono le68) (r49.mono le68) (r50.mono le68) (r51.mono le68)) (h1_.mono (((le1.trans le55).trans le67).trans le68)) r52 hx21) (cf_ q59 q60 q61) (fun cv4 w96 S69 O4 le69 I140 hv4 => ?_))
       obtain ⟨z102, m102, k102, rfl, rfl⟩ := hv4
       refine ⟨_, _, rfl, (le68.trans le69), ?_, ?_⟩
       ·
        exact ⟨_, _, _, rfl⟩
       ·
        exact I140
      ·
       intro vs58 f w97 S70 X55 le70 hA55 hK58 hI59
       have I141 : Inv w97 S70 (Row (α := (List (List Int))) 23 (Value.slice z84 m84 k84) (s1) :: Row (α := (List (List Int))) 23 (vs58 11) (x21) :: X55) := hI59
       have q62 := hA55.v 0 rfl
       obtain ⟨z103, m103, k103, e144, q63⟩ := hA55.rf (a := 11) 11 rfl rfl rfl
       have I142 := I141
       rw [e144] at I142
       refine pl_ rfl (bt_ (α := (List (List Int))) (v := (.slice z84 m84 k84)) (u := (.slice z103 m103 k103)) rfl rfl Tryz.underlying55 el23 (by decide) (by decide) q62 q63 I142 (Inv.rowSrc (I142.nth 1 rfl)) hx22 (fun u59 w98 I143 => ?_))
       obtain ⟨z104, m104, k104, e145⟩ := bc_ I143
       subst e145
       refine ⟨_, _, rfl, lr, ?_, ?_⟩
       ·
        exact ⟨_, _, _, rfl⟩
       ·
        show Inv _ _ (Row (α := (List (List Int))) 23 ((Value.slice z104 m104 k104)) (x22) :: Row (α := (List (List Int))) 23 (vs58 11) (x21) :: X55)
        simp only [e144]
        exact ((I143.pull 1).pull 1)
      ·
       intro vs59 f w99 S71 X56 le71 hA56 hK59 hI60
       have I144 : Inv w99 S71 (X56) := hI60
       obtain ⟨z105, m105, k105, e146⟩ := (hA56.at_ 12 rfl _ rfl).2
       have q64 : f 44 = Value.slice z105 m105 k105 := ((hA56.at_ 12 rfl _ rfl).1 _ rfl).trans e146
       have e146 : vs59 12 = (Value.slice z105 m105 k105) := e146
       refine pl_ rfl (bn_ (v := (.slice z105 m105 k105)) rfl q64 (⟨_, _, rfl, lr, ?_, ?_⟩))
       ·
        show (Value.slice z105 m105 k105) = (vs59 12)
        simp only [e146] <;> rfl
       ·
        exact I144
      ·
       intro vs60 f w100 S72 ed8 le72 hF4 hK60 hI61
       have e147 : f 1 = (Value.slice z5 m5 k5) := (hK60 1 (al_ rfl)).trans e120
       have e148 : f 2 = (Value.slice z6 m6 k6) := (hK60 2 (al_ rfl)).trans e121
       have e149 : f 3 = (pt_ g1) := (hK60 3 (al_ rfl)).trans e122
       have e150 : f 8 = (Value.slice z12 m12 k12) := (hK60 8 (al_ rfl)).trans e124
       have e151 : f 9 = (vi ((i1 : Int))) := (hK60 9 (al_ rfl)).trans e125
       have I145 : Inv w100 S72 (Row (α := (List Int)) 28 (vs60 9) (([x19] : List (List Int))) :: Row (α := (List (List Int))) 23 (vs60 11) (x21) :: Row (α := (List (List Int))) 23 (vs60 12) (x22) :: Fr) := hI61
       obtain ⟨z106, m106, k106, e152⟩ := (hF4.at_ 9 rfl _ rfl).2
       have q65 : f 41 = Value.slice z106 m106 k106 := ((hF4.at_ 9 rfl _ rfl).1 _ rfl).trans e152
       have e152 : vs60 9 = (Value.slice z106 m106 k106) := e152
       have I146 := I145
       rw [e152] at I146
       obtain ⟨z107, m107, k107, e153, q66⟩ := hF4.rf (a := 11) 11 rfl rfl rfl
       have I147 := I146
       rw [e153] at I147
       obtain ⟨z108, m108, k108, e154⟩ := (hF4.at_ 12 rfl _ rfl).2
       have q67 : f 44 = Value.slice z108 m108 k108 := ((hF4.at_ 12 rfl _ rfl).1 _ rfl).trans e154
       have e154 : vs60 12 = (Value.slice z108 m108 k108) := e154
       have I148 := I147
       rw [e154] at I148
       have q68 : f 7 = (vs60 12) := hF4.v 13 rfl
       simp only [e154] at q68
       have q68 : f 7 = (Value.slice z108 m108 k108) := q68
       refine aa_ (wm_ rfl e151 (wo_ (bl_ rfl rfl rfl (wa_ (v := (vi (w64 ((i1 : Int) + 1)))) rfl rfl (ad_ ?_)))))
       obtain rfl := sj h1
       exact ⟨_, _, _, _, (le55.trans le72), ((I148).drop).drop, e147, e148, e149, q68, e150, (bh_ hlt1 hk1), (ed8.trans ed7)⟩
     ·
      rintro f w hI62
      obtain ⟨S73, z109, m109, k109, le73, I149, e155, e156, e157, e158, e159, e160, ed9⟩ := hI62
      refine ab_ (ab_ (aa_ (wm_ rfl e160 (wm_ rfl e159 (wo_ (az_ rfl Tryz.underlying23 rfl (hu2.mono le73) (wo_ (be_ rfl rfl rfl (ad_ (ai_ rfl (ep_ _) (bk_ ?_)))))))))))
      exact ⟨_, _, _, _, le73, I149, e155, e156, e157, e158, e159, ed9⟩
    ·
     rintro f w ⟨S74, z85, m85, k85, le74, I150, e161, e162, e163, e164, e165, ed10⟩
     refine ab_ (aa_ (wm_ rfl e164 (wa_ (v := (.slice z85 m85 k85)) rfl rfl (ad_ (ak_ ?_)))))
     obtain rfl := sj h
     exact ⟨ed10, (.slice z85 m85 k85), (bo_ rfl rfl), _, [Row (α := (List (List Int))) 23 (.slice z85 m85 k85) (out1)], (le1.trans le74), I150, _, _, _, rfl, rfl⟩
theorem yo_ {w : World} {S : PH} {Fr : List HP} {a0 : Riddle} {v0 : Value} {r : (List (List (List Int)))} (hI : Inv w S (Fr)) (h0_ : RV S v0 a0) (h : oa_ a0 = some r) :
    Calls Tryz.prog 80 [v0].toArray w (lp_ S Fr (fun T_ v_ O_ => ∃ (a0_ : Option Addr) (n0_ k0_ : Nat), v_ = (Value.slice a0_ n0_ k0_) ∧ O_ = [Row (α := (List (List Int))) 23 (Value.slice a0_ n0_ k0_) (r)])) := by
 unfold oa_ at h
 obtain ⟨c1, c2, c3, c4, e1, r1, r2, r3, r4⟩ := Riddle.inv h0_
 subst e1
 obtain ⟨z1, m1, k1, rfl⟩ := ac_ r1
 obtain ⟨z2, m2, k2, rfl⟩ := ac_ r2
 obtain ⟨z3, m3, k3, rfl⟩ := ac_ r3
 obtain ⟨z4, m4, k4, rfl⟩ := ac_ r4
 refine ao_ (n := 29) Tryz.func80 rfl rfl rfl (ab_ (aa_ (wo_ (bi_ (v := (.agg #[(.slice z1 m1 k1), (.slice z2 m2 k2), (.slice z3 m3 k3), (.slice z4 m4 k4)])) rfl hI rfl (fun g1 w1 I1 => ?_)))))
 obtain ⟨S1, le1, I2, p1⟩ := Inv.boxFreeze (x := a0) I1 (Riddle.rv (s := a0) r1 r2 r3 r4)
 refine wa_ (v := sn) rfl rfl (ad_ (ab_ (aa_ (wa_ (v := sn) rfl rfl (ad_ (ab_ (ab_ (aa_ (wa_ (v := (vi 0)) rfl rfl (ad_ ?_))))))))))
 have hk1 : a0.Locks.length ≤ 9223372036854775807 := (cx_ r1)
 have I89 := Inv.rowNil (α := (List (List Int))) (T := 23) I2
 obtain ⟨out1, hrun1, h⟩ := bnd h
 refine bp_ (fun f w => ∃ (S_ : PH) (z64 : Option Addr) (m64 k64 : Nat), S1.Le S_ ∧ Inv w S_ (Row (α := (List (List Int))) 23 (.slice z64 m64 k64) (out1) :: Fr) ∧ f 1 = (pt_ g1) ∧ f 3 = (.slice z64 m64 k64) ∧ f.ds = []) ?_ ?_
 ·
  refine au_ ?_
  refine da_ (I := fun (i1 : Nat) (s1 : (List (List (List Int)))) (f : Frm) (w : World) => ∃ (S_ : PH) (z63 : Option Addr) (m63 k63 : Nat), S1.Le S_ ∧ Inv w S_ (Row (α := (List (List Int))) 23 (.slice z63 m63 k63) (s1) :: Fr) ∧ f 1 = (pt_ g1) ∧ f 3 = (.slice z63 m63 k63) ∧ f 4 = (vi (i1 : Int)) ∧ f.ds = []) hrun1 ⟨_, _, _, _, lr, I89, rfl, rfl, rfl, rfl⟩ ?_ ?_
  ·
   rintro i1 s1 f w o1 hlt1 hI49 h1
   obtain ⟨S61, z63, m63, k63, le61, I90, e77, e78, e79, ed7⟩ := hI49
   refine ab_ (ab_ (aa_ (wm_ rfl e79 (wo_ (ae_ rfl co_ e77 ((p1.mono le61).at_ I90) (wo_ (ld_ mh_ (((p1.mono le61).at_ I90).fld Riddle.fld0) rfl (fun u61 hu49 => ?_))))))))
   obtain ⟨z66, m66, k66, rfl⟩ := ac_ hu49
   refine wo_ (az_ rfl Tryz.underlying22 rfl hu49 (wo_ (be_ rfl rfl rfl (ad_ (ah_ rfl (eo_ hlt1) (ar_ (ab_ (au_ ?_))))))))
   obtain ⟨x13, hx13, h1⟩ := bnd h1
   obtain ⟨x14, hx14, h1⟩ := bnd h1
   obtain ⟨x15, hx15, h1⟩ := bnd h1
   obtain ⟨x16, hx16, h1⟩ := bnd h1
   refine bj_ (sps := [spV 12 [] 0 (.slice z63 m63 k63), spV 13 [] 1 (an_ (pt_ g1) 0), spR 14 [1] 2 (a0.Locks), spV 15 [] 3 (vi (i1 : Int)), spW 16 [1, 2, 3] [4, 2] fun vs_ => (af_ (fr0 vs_ 1) ((i1 : Int)) (Enc.sz CodeLock)), spV 17 [1, 2, 3, 4] 5 (.agg #[(vi x13.Wheels), (vi x13.Symbols)]), spV 18 [] 6 (an_ (pt_ g1) 2), spR 19 [6] 7 (a0.Known), spV 20 [] 8 (vi (i1 : Int)), spW 21 [6, 7, 8] [9, 7] fun vs_ => (af_ (fr0 vs_ 1) ((i1 : Int)) (Enc.sz (List Clue))), spR 22 [6, 7, 8, 9] 10 x14, ⟨some 23, [1, 2, 3, 4, 5, 6, 7, 8, 9, 10], [11], fun vs_ T_ => ∃ (a0_ : Option Addr) (n0_ k0_ : Nat), fr0 vs_ 0 = (.slice a0_ n0_ k0_), [], [], [0], fun _ h_ => h_⟩, ⟨some 24, [1, 2, 3, 4, 5, 6, 7, 8, 9, 10, 11], [12], fun vs_ T_ => ∃ a_ n_ k_, fr0 vs_ 0 = Value.slice a_ n_ k_, [], [0], [1], fun _ h_ => h_⟩, ⟨some 25, (lrg 13), [13], fun vs_ T_ => ∃ a_ n_ k_, fr0 vs_ 0 = Value.slice a_ n_ k_, [1], [2], [3], fun _ h_ => h_⟩, spW 3 (lrg 14) [14, 13] fun vs_ => (fr0 vs_ 1)]) (tks := [⟨some 11, some 12, [11], fun vs_ => Row (α := (List Int)) 28 (fr0 vs_ 0) (x15)⟩, ⟨some 12, none, [12], fun vs_ => Row (α := (List (List Int))) 23 (fr0 vs_ 0) (([x15] : List (List (List Int))))⟩, ⟨none, some 13, [], fun vs_ => Row (α := (List (List Int))) 23 (.slice z63 m63 k63) (s1)⟩, ⟨some 13, none, [13], fun vs_ => Row (α := (List (List Int))) 23 (fr0 vs_ 0) (x16)⟩]) (O := Fr) rfl (by kernel_rfl) I90 ⟨ob_ rfl fun l A K I => (aq_ rfl ((K 3 (ag_ rfl)).trans e78) (fo I)), ob_ rfl fun l A K I => (ae_ rfl co_ ((K 1 (ag_ rfl)).trans e77) ((p1.mono (le61.trans l)).at_ I) (fo I)), ?_, ob_ rfl fun l A K I => (aq_ rfl ((K 4 (ag_ rfl)).trans e79) (fo I)), ?_, ?_, ob_ rfl fun l A K I => (ae_ rfl fk_ ((K 1 (ag_ rfl)).trans e77) ((p1.mono (le61.trans l)).at_ I) (fo I)), ?_, ob_ rfl fun l A K I => (aq_ rfl ((K 4 (ag_ rfl)).trans e79) (fo I)), ?_, ?_, ?_, ?_, ?_, ?_, trivial⟩ ?_
   ·
    intro vs f w_ U X le A K I
    have q64 := A.v 0 rfl
    refine pl_ rfl (ay_ rfl mh_ q64 (((p1.mono (le61.trans le)).at_ I).fld Riddle.fld0) (fun u68 hu54 => ?_))
    obtain ⟨z67, m67, k67, rfl⟩ := ac_ hu54
    refine ⟨_, _, rfl, lr, ?_, ?_⟩
    · exact hu54
    exact I
   ·
    intro vs f w_ U X le A K I
    obtain ⟨z68, m68, k68, hu55, q65, r27⟩ := A.sl (a := 2) 1 rfl rfl rfl
    have q66 := A.v 2 rfl
    refine pl_ rfl (ix_ Tryz.underlying22 im_ r27 hx13 q65 q66 (⟨_, _, rfl, lr, ?_, ?_⟩))
    ·
     show (af_ (Value.slice z68 m68 k68) ((i1 : Int)) (Enc.sz CodeLock)) = (af_ (vs 2) ((i1 : Int)) (Enc.sz CodeLock))
     simp only [hu55] <;> rfl
    exact I
   ·
    intro vs f w_ U X le A K I
    obtain ⟨z69, m69, k69, hu56, q67, r28⟩ := A.sl (a := 2) 1 rfl rfl rfl
    have q68 := A.v 2 rfl
    have q69 : f 16 = (af_ (vs 2) ((i1 : Int)) (Enc.sz CodeLock)) := A.v 3 rfl
    simp only [hu56] at q69
    have q69 : f 16 = (af_ (Value.slice z69 m69 k69) ((i1 : Int)) (Enc.sz CodeLock)) := q69
    refine pl_ rfl (ay_ rfl im_ q69 (r28.elem I.in_ hx13) (fun u71 hu57 => ?_))
    have e85 := CodeLock.inv hu57
    subst e85
    refine ⟨_, _, rfl, lr, ?_, ?_⟩
    · exact rfl
    exact I
   ·
    intro vs f w_ U X le A K I
    have q70 := A.v 0 rfl
    refine pl_ rfl (ay_ rfl sb_ q70 (((p1.mono (le61.trans le)).at_ I).fld Riddle.fld2) (fun u72 hu58 => ?_))
    obtain ⟨z70, m70, k70, rfl⟩ := ac_ hu58
    refine ⟨_, _, rfl, lr, ?_, ?_⟩
    · exact hu58
    exact I
   ·
    intro vs f w_ U X le A K I
    obtain ⟨z71, m71, k71, hu59, q71, r29⟩ := A.sl (a := 7) 1 rfl rfl rfl
    have q72 := A.v 2 rfl
    refine pl_ rfl (ix_ Tryz.underlying24 ng_ r29 hx14 q71 q72 (⟨_, _, rfl, lr, ?_, ?_⟩))
    ·
     show (af_ (Value.slice z71 m71 k71) ((i1 : Int)) (Enc.sz (List Clue))) = (af_ (vs 7) ((i1 : Int)) (Enc.sz (List Clue)))
     simp only [hu59] <;> rfl
    exact I
   ·
    intro vs f w_ U X le A K I
    obtain ⟨z72, m72, k72, hu60, q73, r30⟩ := A.sl (a := 7) 1 rfl rfl rfl
    have q74 := A.v 2 rfl
    have q75 : f 21 = (af_ (vs 7) ((i1 : Int)) (Enc.sz (List Clue))) := A.v 3 rfl
    simp only [hu60] at q75
    have q75 : f 21 = (af_ (Value.slice z72 m72 k72) ((i1 : Int)) (Enc.sz (List Clue))) := q75
    refine pl_ rfl (ay_ rfl ng_ q75 (r30.elem I.in_ hx14) (fun u75 hu61 => ?_))
    obtain ⟨z73, m73, k73, rfl⟩ := ac_ hu61
    refine ⟨_, _, rfl, lr, ?_, ?_⟩
    · exact hu61
    exact I
   ·
    intro vs f w_ U X le A K I
    have q76 := A.v 4 rfl
    obtain ⟨z74, m74, k74, hu62, q77, r31⟩ := A.sl (a := 10) 9 rfl rfl rfl
    refine pl_ rfl (cl_ ca34 rfl (lt_ I (CodeLock.rv (s := x13)) r31 hx15) (br_ q76 q77) (fun cv4 w80 S75 O4 le75 I106 hv4 => ?_))
    obtain ⟨z75, m75, k75, rfl, rfl⟩ := hv4
    refine ⟨_, _, rfl, le75, ?_, ?_⟩
    · exact ⟨_, _, _, rfl⟩
    exact I106
   ·
    intro vs f w_ U X le A K I
    have I107 : Inv w_ U (Row (α := (List Int)) 28 (vs 11) (x15) :: X) := I
    obtain ⟨z76, m76, k76, e91, q78⟩ := A.rf (a := 11) 10 rfl rfl rfl
    have I108 := I107
    rw [e91] at I108
    obtain ⟨S77, le77, I109, r32⟩ := Inv.rowFreeze I108
    refine pl_ rfl (bf_ (vs := [(.slice z76 m76 k76)]) (r := ([x15] : List (List (List Int)))) rfl Tryz.underlying55 el23 (fc_ q78) rfl (by decide) (by decide) ⟨r32, trivial⟩ I109 (fun u77 w82 I110 => ?_))
    obtain ⟨z77, m77, k77, e92⟩ := bc_ I110
    subst e92
    refine ⟨_, _, rfl, le77, ?_, ?_⟩
    · exact ⟨_, _, _, rfl⟩
    exact I110
   ·
    intro vs f w_ U X le A K I
    have I111 : Inv w_ U (Row (α := (List (List Int))) 23 (Value.slice z63 m63 k63) (s1) :: Row (α := (List (List Int))) 23 (vs 12) (([x15] : List (List (List Int)))) :: X) := I
    have q79 := A.v 0 rfl
    obtain ⟨z78, m78, k78, e93⟩ := (A.at_ 12 rfl _ rfl).2
    have q80 : f 24 = Value.slice z78 m78 k78 := ((A.at_ 12 rfl _ rfl).1 _ rfl).trans e93
    have e93 : vs 12 = (Value.slice z78 m78 k78) := e93
    have I112 := I111
    rw [e93] at I112
    refine pl_ rfl (bt_ (α := (List (List Int))) (v := (.slice z63 m63 k63)) (u := (.slice z78 m78 k78)) rfl rfl Tryz.underlying55 el23 (by decide) (by decide) q79 q80 I112 (Inv.rowSrc (I112.nth 1 rfl)) hx16 (fun u78 w84 I113 => ?_))
    obtain ⟨z79, m79, k79, e94⟩ := bc_ I113
    subst e94
    refine ⟨_, _, rfl, lr, ?_, ?_⟩
    · exact ⟨_, _, _, rfl⟩
    show Inv _ _ (Row (α := (List (List Int))) 23 ((Value.slice z79 m79 k79)) (x16) :: Row (α := (List (List Int))) 23 (vs 12) (([x15] : List (List (List Int)))) :: X)
    simp only [e93]
    exact ((I113.pull 1).pull 1)
   ·
    intro vs f w_ U X le A K I
    obtain ⟨z80, m80, k80, e95⟩ := (A.at_ 13 rfl _ rfl).2
    have q81 : f 25 = Value.slice z80 m80 k80 := ((A.at_ 13 rfl _ rfl).1 _ rfl).trans e95
    have e95 : vs 13 = (Value.slice z80 m80 k80) := e95
    refine pl_ rfl (bn_ (v := (.slice z80 m80 k80)) rfl q81 (⟨_, _, rfl, lr, ?_, ?_⟩))
    ·
     show (Value.slice z80 m80 k80) = (vs 13)
     simp only [e95] <;> rfl
    exact I
   intro vs64 f w86 S80 ed8 le80 hF4 hK64 hI65
   have e96 : f 1 = (pt_ g1) := (hK64 1 (al_ rfl)).trans e77
   have e97 : f 4 = (vi ((i1 : Int))) := (hK64 4 (al_ rfl)).trans e79
   have I115 : Inv w86 S80 (Row (α := (List (List Int))) 23 (vs64 12) (([x15] : List (List (List Int)))) :: Row (α := (List (List Int))) 23 (vs64 13) (x16) :: Fr) := hI65
   obtain ⟨z81, m81, k81, e98⟩ := (hF4.at_ 12 rfl _ rfl).2
   have q82 : f 24 = Value.slice z81 m81 k81 := ((hF4.at_ 12 rfl _ rfl).1 _ rfl).trans e98
   have e98 : vs64 12 = (Value.slice z81 m81 k81) := e98
   have I116 := I115
   rw [e98] at I116
   obtain ⟨z82, m82, k82, e99⟩ := (hF4.at_ 13 rfl _ rfl).2
   have q83 : f 25 = Value.slice z82 m82 k82 := ((hF4.at_ 13 rfl _ rfl).1 _ rfl).trans e99
   have e99 : vs64 13 = (Value.slice z82 m82 k82) := e99
   have I117 := I116
   rw [e99] at I117
   have q84 : f 3 = (vs64 13) := hF4.v 14 rfl
   simp only [e99] at q84
   have q84 : f 3 = (Value.slice z82 m82 k82) := q84
   refine aa_ (wm_ rfl e97 (wo_ (bl_ rfl rfl rfl (wa_ (v := (vi (w64 ((i1 : Int) + 1)))) rfl rfl (ad_ ?_)))))
   obtain rfl := sj h1
   exact ⟨_, _, _, _, (le61.trans le80), (I117).drop, e96, q84, (bh_ hlt1 hk1), (ed8.trans ed7)⟩
  rintro f w hI66
  obtain ⟨S81, z83, m83, k83, le81, I118, e100, e101, e102, ed9⟩ := hI66
  refine ab_ (ab_ (aa_ (wm_ rfl e102 (wo_ (ae_ rfl co_ e100 ((p1.mono le81).at_ I118) (wo_ (ld_ mh_ (((p1.mono le81).at_ I118).fld Riddle.fld0) rfl (fun u80 hu64 => ?_))))))))
  obtain ⟨z85, m85, k85, rfl⟩ := ac_ hu64
  refine wo_ (az_ rfl Tryz.underlying22 rfl hu64 (wo_ (be_ rfl rfl rfl (ad_ (ai_ rfl (ep_ _) (bk_ ?_))))))
  exact ⟨_, _, _, _, le81, I118, e100, e101, ed9⟩
 rintro f w ⟨S82, z64, m64, k64, le82, I119, e105, e106, ed10⟩
 refine ab_ (aa_ (wo_ (ay_ rfl fr_ e105 ((p1.mono le82).at_ I119) (fun u81 hu65 => ?_))))
 obtain ⟨c5, c6, c7, c8, e107, r33, r34, r35, r36⟩ := Riddle.inv hu65
 subst e107
 obtain ⟨z86, m86, k86, rfl⟩ := ac_ r33
 obtain ⟨z87, m87, k87, rfl⟩ := ac_ r34
 obtain ⟨z88, m88, k88, rfl⟩ := ac_ r35
 obtain ⟨z89, m89, k89, rfl⟩ := ac_ r36
 refine wm_ rfl e106 ?_
 obtain ⟨S83, le83, I120, r37⟩ := Inv.rowFreeze I119
 obtain ⟨x17, hx17, h⟩ := bnd h
 refine wo_ (cl_ ca99 rfl (ud_ xy_ I120 (Riddle.rv (s := a0) (r33.mono le83) (r34.mono le83) (r35.mono le83) (r36.mono le83)) r37 rv_nil hx17) (cf_ rfl rfl rfl) (fun cv5 w87 S84 O5 le84 I121 hv5 => ?_))
 obtain ⟨z90, m90, k90, rfl, rfl⟩ := hv5
 refine wa_ (v := (.slice z90 m90 k90)) rfl rfl (ad_ (ak_ ?_))
 obtain rfl := sj h
 exact ⟨ed10, (.slice z90 m90 k90), (bo_ rfl rfl), _, [Row (α := (List (List Int))) 23 (.slice z90 m90 k90) (x17)], (((le1.trans le82).trans le83).trans le84), I121, _, _, _, rfl, rfl⟩
theorem sd_ {w : World} {S : PH} {Fr : List HP} {a0 : Riddle} {v0 : Value} {a1 : (List (List (List Int)))} {v1 : Value} {a2 : Int} {r : (List (List Int))} (hI : Inv w S (Fr)) (h0_ : RV S v0 a0) (h1_ : RV S v1 a1) (h : fx_ a0 a1 a2 = some r) :
    Calls Tryz.prog 81 [v0, v1, (Value.int .i64 (a2))].toArray w (lp_ S Fr (fun T_ v_ O_ => ∃ (a0_ : Option Addr) (n0_ k0_ : Nat), v_ = (Value.slice a0_ n0_ k0_) ∧ O_ = [Row (α := (List Int)) 28 (Value.slice a0_ n0_ k0_) (r)])) := by
 unfold fx_ at h
 obtain ⟨c1, c2, c3, c4, e1, r1, r2, r3, r4⟩ := Riddle.inv h0_
 subst e1
 obtain ⟨z1, m1, k1, rfl⟩ := ac_ r1
 obtain ⟨z2, m2, k2, rfl⟩ := ac_ r2
 obtain ⟨z3, m3, k3, rfl⟩ := ac_ r3
 obtain ⟨z4, m4, k4, rfl⟩ := ac_ r4
 obtain ⟨z5, m5, k5, rfl⟩ := ac_ h1_
 refine ao_ (n := 59) Tryz.func81 rfl rfl rfl (ab_ (aa_ (wo_ (bi_ (v := (.agg #[(.slice z1 m1 k1), (.slice z2 m2 k2), (.slice z3 m3 k3), (.slice z4 m4 k4)])) rfl hI rfl (fun g1 w1 I1 => ?_)))))
 obtain ⟨S1, le1, I2, p1⟩ := Inv.boxFreeze (x := a0) I1 (Riddle.rv (s := a0) r1 r2 r3 r4)
 refine wa_ (v := sn) rfl rfl (ad_ (ab_ (aa_ (wa_ (v := sn) rfl rfl (ad_ (ab_ ?_))))))
 obtain ⟨x1, hx1, h⟩ := bnd h
 obtain ⟨x2, hx2, h⟩ := bnd h
 obtain ⟨x3, hx3, h⟩ := bnd h
 refine bj_ (sps := [spV 12 [] 0 (an_ (pt_ g1) 0), spR 13 [0] 1 (a0.Locks), spV 14 [] 2 (vi a2), spW 15 [0, 1, 2] [3, 1] fun vs_ => (af_ (fr0 vs_ 1) (a2) (Enc.sz CodeLock)), spV 16 [0, 1, 2, 3] 4 (.agg #[(vi x1.Wheels), (vi x1.Symbols)]), spV 17 [] 5 (an_ (pt_ g1) 2), spR 18 [5] 6 (a0.Known), spV 19 [] 7 (vi a2), spW 20 [5, 6, 7] [8, 6] fun vs_ => (af_ (fr0 vs_ 1) (a2) (Enc.sz (List Clue))), spR 21 [5, 6, 7, 8] 9 x2, ⟨some 22, (lrg 10), [10], fun vs_ T_ => ∃ (a0_ : Option Addr) (n0_ k0_ : Nat), fr0 vs_ 0 = (.slice a0_ n0_ k0_), [], [], [0], fun _ h_ => h_⟩, spW 8 (lrg 11) [11, 10] fun vs_ => (fr0 vs_ 1)]) (tks := [⟨some 10, none, [10], fun vs_ => Row (α := (List Int)) 28 (fr0 vs_ 0) (x3)⟩]) (O := Fr) rfl (by kernel_rfl) I2 ⟨ob_ rfl fun l A K I => (ae_ rfl co_ (K 3 (ag_ rfl)) ((p1.mono l).at_ I) (fo I)), ?_, ob_ rfl fun l A K I => (aq_ rfl (K 2 (ag_ rfl)) (fo I)), ?_, ?_, ob_ rfl fun l A K I => (ae_ rfl fk_ (K 3 (ag_ rfl)) ((p1.mono l).at_ I) (fo I)), ?_, ob_ rfl fun l A K I => (aq_ rfl (K 2 (ag_ rfl)) (fo I)), ?_, ?_, ?_, ?_, trivial⟩ ?_
 ·
  intro vs f w_ U X le A K I
  have q1 := A.v 0 rfl
  refine pl_ rfl (ay_ rfl mh_ q1 (((p1.mono le).at_ I).fld Riddle.fld0) (fun u5 hu5 => ?_))
  obtain ⟨z6, m6, k6, rfl⟩ := ac_ hu5
  refine ⟨_, _, rfl, lr, ?_, ?_⟩
  · exact hu5
  exact I
 ·
  intro vs f w_ U X le A K I
  obtain ⟨z7, m7, k7, hu6, q2, r5⟩ := A.sl (a := 1) 1 rfl rfl rfl
  have q3 := A.v 2 rfl
  refine pl_ rfl (ix_ Tryz.underlying22 im_ r5 hx1 q2 q3 (⟨_, _, rfl, lr, ?_, ?_⟩))
  ·
   show (af_ (Value.slice z7 m7 k7) (a2) (Enc.sz CodeLock)) = (af_ (vs 1) (a2) (Enc.sz CodeLock))
   simp only [hu6] <;> rfl
  exact I
 ·
  intro vs f w_ U X le A K I
  obtain ⟨z8, m8, k8, hu7, q4, r6⟩ := A.sl (a := 1) 1 rfl rfl rfl
  have q5 := A.v 2 rfl
  have q6 : f 15 = (af_ (vs 1) (a2) (Enc.sz CodeLock)) := A.v 3 rfl
  simp only [hu7] at q6
  have q6 : f 15 = (af_ (Value.slice z8 m8 k8) (a2) (Enc.sz CodeLock)) := q6
  refine pl_ rfl (ay_ rfl im_ q6 (r6.elem I.in_ hx1) (fun u8 hu8 => ?_))
  have e10 := CodeLock.inv hu8
  subst e10
  refine ⟨_, _, rfl, lr, ?_, ?_⟩
  · exact rfl
  exact I
 ·
  intro vs f w_ U X le A K I
  have q7 := A.v 0 rfl
  refine pl_ rfl (ay_ rfl sb_ q7 (((p1.mono le).at_ I).fld Riddle.fld2) (fun u9 hu9 => ?_))
  obtain ⟨z9, m9, k9, rfl⟩ := ac_ hu9
  refine ⟨_, _, rfl, lr, ?_, ?_⟩
  · exact hu9
  exact I
 ·
  intro vs f w_ U X le A K I
  obtain ⟨z10, m10, k10, hu10, q8, r7⟩ := A.sl (a := 6) 1 rfl rfl rfl
  have q9 := A.v 2 rfl
  refine pl_ rfl (ix_ Tryz.underlying24 ng_ r7 hx2 q8 q9 (⟨_, _, rfl, lr, ?_, ?_⟩))
  ·
   show (af_ (Value.slice z10 m10 k10) (a2) (Enc.sz (List Clue))) = (af_ (vs 6) (a2) (Enc.sz (List Clue)))
   simp only [hu10] <;> rfl
  exact I
 ·
  intro vs f w_ U X le A K I
  obtain ⟨z11, m11, k11, hu11, q10, r8⟩ := A.sl (a := 6) 1 rfl rfl rfl
  have q11 := A.v 2 rfl
  have q12 : f 20 = (af_ (vs 6) (a2) (Enc.sz (List Clue))) := A.v 3 rfl
  simp only [hu11] at q12
  have q12 : f 20 = (af_ (Value.slice z11 m11 k11) (a2) (Enc.sz (List Clue))) := q12
  refine pl_ rfl (ay_ rfl ng_ q12 (r8.elem I.in_ hx2) (fun u12 hu12 => ?_))
  obtain ⟨z12, m12, k12, rfl⟩ := ac_ hu12
  refine ⟨_, _, rfl, lr, ?_, ?_⟩
  · exact hu12
  exact I
 ·
  intro vs f w_ U X le A K I
  have q13 := A.v 4 rfl
  obtain ⟨z13, m13, k13, hu13, q14, r9⟩ := A.sl (a := 9) 9 rfl rfl rfl
  refine pl_ rfl (cl_ ca34 rfl (lt_ I (CodeLock.rv (s := x1)) r9 hx3) (br_ q13 q14) (fun cv1 w13 S13 O1 le13 I14 hv1 => ?_))
  obtain ⟨z14, m14, k14, rfl, rfl⟩ := hv1
  refine ⟨_, _, rfl, le13, ?_, ?_⟩
  · exact ⟨_, _, _, rfl⟩
  exact I14
 ·
  intro vs f w_ U X le A K I
  obtain ⟨z15, m15, k15, e16, q15⟩ := A.rf (a := 10) 10 rfl rfl rfl
  refine pl_ rfl (bn_ (v := (.slice z15 m15 k15)) rfl q15 (⟨_, _, rfl, lr, ?_, ?_⟩))
  ·
   show (Value.slice z15 m15 k15) = (vs 10)
   simp only [e16] <;> rfl
  exact I
 intro vs13 f w15 S15 ed1 le15 hF1 hK13 hI13
 have e17 : f 1 = (Value.slice z5 m5 k5) := (hK13 1 (al_ rfl)).trans rfl
 have e18 : f 2 = (vi a2) := (hK13 2 (al_ rfl)).trans rfl
 have e19 : f 7 = sn := (hK13 7 (al_ rfl)).trans rfl
 have I16 : Inv w15 S15 (Row (α := (List Int)) 28 (vs13 10) (x3) :: Fr) := hI13
 obtain ⟨z16, m16, k16, e20, q16⟩ := hF1.rf (a := 10) 10 rfl rfl rfl
 have I17 := I16
 rw [e20] at I17
 have q17 : f 8 = (vs13 10) := hF1.v 11 rfl
 simp only [e20] at q17
 have q17 : f 8 = (Value.slice z16 m16 k16) := q17
 refine ab_ (ab_ (aa_ (wa_ (v := (vi 0)) rfl rfl (ad_ ?_))))
 have hk4 : x3.length ≤ 9223372036854775807 := (uc_ (I17.nth 0 rfl))
 have I427 := Inv.rowNil (α := (List Int)) (T := 28) I17
 obtain ⟨out4, hrun4, h⟩ := bnd h
 refine bp_ (fun f w => ∃ (S_ : PH) (z113 : Option Addr) (m113 k113 : Nat), S15.Le S_ ∧ Inv w S_ (Row (α := (List Int)) 28 (.slice z113 m113 k113) (out4) :: Row (α := (List Int)) 28 (.slice z16 m16 k16) (x3) :: Fr) ∧ f 1 = (.slice z5 m5 k5) ∧ f 2 = (vi a2) ∧ f 7 = (.slice z113 m113 k113) ∧ f 8 = (.slice z16 m16 k16) ∧ f.ds = []) ?_ ?_
 ·
  refine au_ ?_
  refine da_ (I := fun (i4 : Nat) (s4 : (List (List Int))) (f : Frm) (w : World) => ∃ (S_ : PH) (z112 : Option Addr) (m112 k112 : Nat), S15.Le S_ ∧ Inv w S_ (Row (α := (List Int)) 28 (.slice z112 m112 k112) (s4) :: Row (α := (List Int)) 28 (.slice z16 m16 k16) (x3) :: Fr) ∧ f 1 = (.slice z5 m5 k5) ∧ f 2 = (vi a2) ∧ f 7 = (.slice z112 m112 k112) ∧ f 8 = (.slice z16 m16 k16) ∧ f 9 = (vi (i4 : Int)) ∧ f.ds = []) hrun4 ⟨_, _, _, _, lr, ((I427.pull 1).pull 1), e17, e18, e19, q17, rfl, (ed1.trans rfl)⟩ ?_ ?_
  ·
   rintro i4 s4 f w o4 hlt4 hI377 h7
   obtain ⟨S390, z112, m112, k112, le390, I428, e378, e379, e380, e381, e382, ed44⟩ := hI377
   refine ab_ (ab_ (aa_ (wm_ rfl e382 (wm_ rfl e381 (wo_ (di_ (α := (List Int)) rfl Tryz.underlying23 rfl (I428.nth 1 rfl) (wo_ (be_ rfl rfl rfl (ad_ (ah_ rfl (eo_ hlt4) (ar_ (ab_ (au_ (ab_ (aa_ (wa_ (v := (vb false)) rfl rfl (ad_ (ab_ (ab_ (aa_ (wa_ (v := (vi 0)) rfl rfl (ad_ ?_))))))))))))))))))))))
   have hk5 : a1.length ≤ 9223372036854775807 := (cx_ h1_)
   obtain ⟨out5, hrun5, h7⟩ := bnd h7
   refine bp_ (fun f w => ∃ (S_ : PH), S390.Le S_ ∧ Inv w S_ (Row (α := (List Int)) 28 (.slice z112 m112 k112) (s4) :: Row (α := (List Int)) 28 (.slice z16 m16 k16) (x3) :: Fr) ∧ f 1 = (.slice z5 m5 k5) ∧ f 2 = (vi a2) ∧ f 7 = (.slice z112 m112 k112) ∧ f 8 = (.slice z16 m16 k16) ∧ f 9 = (vi (i4 : Int)) ∧ f 10 = (vb out5) ∧ f.ds = []) ?_ ?_
   ·
    refine au_ ?_
    refine da_ (I := fun (i5 : Nat) (s5 : (Bool)) (f : Frm) (w : World) => ∃ (S_ : PH), S390.Le S_ ∧ Inv w S_ (Row (α := (List Int)) 28 (.slice z112 m112 k112) (s4) :: Row (α := (List Int)) 28 (.slice z16 m16 k16) (x3) :: Fr) ∧ f 1 = (.slice z5 m5 k5) ∧ f 2 = (vi a2) ∧ f 7 = (.slice z112 m112 k112) ∧ f 8 = (.slice z16 m16 k16) ∧ f 9 = (vi (i4 : Int)) ∧ f 10 = (vb s5) ∧ f 11 = (vi (i5 : Int)) ∧ f.ds = []) hrun5 ⟨_, lr, ((I428.pull 1).pull 1), e378, e379, e380, e381, e382, rfl, rfl, ed44⟩ ?_ ?_
    ·
     rintro i5 s5 f w o5 hlt5 hI463 h9
     obtain ⟨S478, le478, I523, e455, e456, e457, e458, e459, e460, e461, ed53⟩ := hI463
     refine ab_ (ab_ (aa_ (wm_ rfl e461 (wm_ rfl e455 (wo_ (az_ rfl Tryz.underlying55 rfl (h1_.mono (((le1.trans le15).trans le390).trans le478)) (wo_ (be_ rfl rfl rfl (ad_ (ah_ rfl (eo_ hlt5) (ar_ (ab_ (au_ ?_)))))))))))))
     rcases ifs h9 with ⟨hc15, h9⟩ | ⟨hc15, h9⟩
     ·
      refine bj_ (sps := [spV 35 [] 0 (vb s5), spV 36 [0] 1 (vb s5), spV 37 [0, 1] 2 undef, spV 38 [0, 1] 3 undef, spV 39 [0, 1, 2, 3] 4 undef, spV 40 [0, 1, 2, 3, 4] 5 undef, spV 41 [0, 1] 6 undef, spV 42 (lrg 7) 7 undef, spV 43 (lrg 8) 8 undef, spV 44 [0, 1] 9 undef, spV 45 [0, 1] 10 undef, spV 46 [0, 1, 9, 10] 11 undef, spV 47 [0, 1, 9, 10, 11] 12 undef, spV 48 (lrg 13) 13 undef, spV 49 (lrg 14) 14 (vb true), spV 10 (lrg 15) 15 (vb true)]) (tks := []) (O := Row (α := (List Int)) 28 (.slice z112 m112 k112) (s4) :: Row (α := (List Int)) 28 (.slice z16 m16 k16) (x3) :: Fr) rfl (by kernel_rfl) I523 ⟨ob_ rfl fun l A K I => (aq_ rfl ((K 10 (ag_ rfl)).trans e460) (fo I)), ob_ rfl fun l A K I => (aq_ rfl (A.v 0 rfl) (fo I)), oc_ fun l A K I => sk_ rfl (A.v 1 rfl) hc15 (fo I), oc_ fun l A K I => sk_ rfl (A.v 1 rfl) hc15 (fo I), oc_ fun l A K I => sk_ rfl (A.v 1 rfl) hc15 (fo I), oc_ fun l A K I => sk_ rfl (A.v 1 rfl) hc15 (fo I), oc_ fun l A K I => sk_ rfl (A.v 1 rfl) hc15 (fo I), oc_ fun l A K I => sk_ rfl (A.v 1 rfl) hc15 (fo I), oc_ fun l A K I => sk_ rfl (A.v 1 rfl) hc15 (fo I), oc_ fun l A K I => sk_ rfl (A.v 1 rfl) hc15 (fo I), oc_ fun l A K I => sk_ rfl (A.v 1 rfl) hc15 (fo I), oc_ fun l A K I => sk_ rfl (A.v 1 rfl) hc15 (fo I), oc_ fun l A K I => sk_ rfl (A.v 1 rfl) hc15 (fo I), oc_ fun l A K I => sk_ rfl (A.v 1 rfl) hc15 (fo I), ob_ rfl fun l A K I => (aw_ (a := (vb true)) rfl (A.v 1 rfl) hc15 rfl (fo I)), ?_, trivial⟩ ?_
      ·
       intro vs f w_ U X le A K I
       refine pl_ rfl (bn_ (v := (vb true)) rfl (A.v 14 rfl) (fo I))
      intro vs472 f w511 S495 ed54 le495 hF28 hK472 hI480
      have e462 : f 1 = (Value.slice z5 m5 k5) := (hK472 1 (al_ rfl)).trans e455
      have e463 : f 2 = (vi a2) := (hK472 2 (al_ rfl)).trans e456
      have e464 : f 7 = (Value.slice z112 m112 k112) := (hK472 7 (al_ rfl)).trans e457
      have e465 : f 8 = (Value.slice z16 m16 k16) := (hK472 8 (al_ rfl)).trans e458
      have e466 : f 9 = (vi ((i4 : Int))) := (hK472 9 (al_ rfl)).trans e459
      have e467 : f 11 = (vi ((i5 : Int))) := (hK472 11 (al_ rfl)).trans e461
      have I540 : Inv w511 S495 (Row (α := (List Int)) 28 (Value.slice z112 m112 k112) (s4) :: Row (α := (List Int)) 28 (Value.slice z16 m16 k16) (x3) :: Fr) := hI480
      have q803 := hF28.v 15 rfl
      refine aa_ (wm_ rfl e467 (wo_ (bl_ rfl rfl rfl (wa_ (v := (vi (w64 ((i5 : Int) + 1)))) rfl rfl (ad_ ?_)))))
      obtain rfl := sj h9
      exact ⟨_, (le478.trans le495), ((I540.pull 1).pull 1), e462, e463, e464, e465, e466, q803, (bh_ hlt5 hk5), (ed54.trans ed53)⟩
     obtain ⟨x70, hx70, h9⟩ := bnd h9
     obtain ⟨x71, hx71, h9⟩ := bnd h9
     obtain ⟨x72, hx72, h9⟩ := bnd h9
     obtain ⟨x73, hx73, h9⟩ := bnd h9
     refine bj_ (sps := [spV 35 [] 0 (vb s5), spV 36 [0] 1 (vb s5), spV 37 [0, 1] 2 (.slice z5 m5 k5), spV 38 [0, 1] 3 (vi (i5 : Int)), spV 39 [0, 1, 2, 3] 4 (af_ (.slice z5 m5 k5) ((i5 : Int)) (Enc.sz (List (List Int)))), spR 40 [0, 1, 2, 3, 4] 5 x70, spV 41 [0, 1] 6 (vi a2), spW 42 (lrg 7) [7, 5] fun vs_ => (af_ (fr0 vs_ 1) (a2) (Enc.sz (List Int))), spR 43 (lrg 8) 8 x71, spV 44 [0, 1] 9 (.slice z16 m16 k16), spV 45 [0, 1] 10 (vi (i4 : Int)), ⟨some 46, [0, 1, 9, 10], [11], fun vs_ T_ => fr0 vs_ 0 = (af_ (.slice z16 m16 k16) ((i4 : Int)) (Enc.sz (List Int))), [0], [], [], fun _ h_ => h_⟩, ⟨some 47, [0, 1, 9, 10, 11], [12], fun vs_ T_ => RV T_ (fr0 vs_ 0) x72, [0], [], [], fun hle_ h_ => h_.mono hle_⟩, spV 48 (lrg 13) 13 (vb x73), spV 49 (lrg 14) 14 (vb x73), spV 10 (lrg 15) 15 (vb x73)]) (tks := [⟨none, none, [], fun vs_ => Row (α := (List Int)) 28 (.slice z16 m16 k16) (x3)⟩]) (O := Row (α := (List Int)) 28 (.slice z112 m112 k112) (s4) :: Fr) rfl (by kernel_rfl) (I523.pull 1) ⟨ob_ rfl fun l A K I => (aq_ rfl ((K 10 (ag_ rfl)).trans e460) (fo I)), ob_ rfl fun l A K I => (aq_ rfl (A.v 0 rfl) (fo I)), oc_ fun l A K I => tk_ rfl (A.v 1 rfl) hc15 (aq_ rfl ((K 1 (ag_ rfl)).trans e455) (fo I)), oc_ fun l A K I => tk_ rfl (A.v 1 rfl) hc15 (aq_ rfl ((K 11 (ag_ rfl)).trans e461) (fo I)), oc_ fun l A K I => tk_ rfl (A.v 1 rfl) hc15 (ix_ Tryz.underlying55 lq_ (h1_.mono ((((le1.trans le15).trans le390).trans le478).trans l)) hx70 (A.v 2 rfl) (A.v 3 rfl) (fo I)), ?_, oc_ fun l A K I => tk_ rfl (A.v 1 rfl) hc15 (aq_ rfl ((K 2 (ag_ rfl)).trans e456) (fo I)), ?_, ?_, oc_ fun l A K I => tk_ rfl (A.v 1 rfl) hc15 (aq_ rfl ((K 8 (ag_ rfl)).trans e458) (fo I)), oc_ fun l A K I => tk_ rfl (A.v 1 rfl) hc15 (aq_ rfl ((K 9 (ag_ rfl)).trans e459) (fo I)), ?_, ?_, ?_, ob_ rfl fun l A K I => (ap_ (b := (vb x73)) rfl (A.v 1 rfl) hc15 (A.v 13 rfl) (fo I)), ?_, trivial⟩ ?_
     ·
      intro vs f w_ U X le A K I
      have q810 := A.v 1 rfl
      have q811 := A.v 4 rfl
      refine tk_ rfl q810 hc15 (ay_ rfl lq_ q811 ((h1_.mono ((((le1.trans le15).trans le390).trans le478).trans le)).elem I.in_ hx70) (fun u176 hu170 => ?_))
      obtain ⟨z135, m135, k135, rfl⟩ := ac_ hu170
      refine ⟨_, _, rfl, lr, ?_, ?_⟩
      · exact hu170
      exact I
     ·
      intro vs f w_ U X le A K I
      have q813 := A.v 1 rfl
      obtain ⟨z136, m136, k136, hu171, q814, r70⟩ := A.sl (a := 5) 5 rfl rfl rfl
      have q815 := A.v 6 rfl
      refine tk_ rfl q813 hc15 (ix_ Tryz.underlying23 fn_ r70 hx71 q814 q815 (⟨_, _, rfl, lr, ?_, ?_⟩))
      ·
       show (af_ (Value.slice z136 m136 k136) (a2) (Enc.sz (List Int))) = (af_ (vs 5) (a2) (Enc.sz (List Int)))
       simp only [hu171] <;> rfl
      exact I
     ·
      intro vs f w_ U X le A K I
      have q816 := A.v 1 rfl
      obtain ⟨z137, m137, k137, hu172, q817, r71⟩ := A.sl (a := 5) 5 rfl rfl rfl
      have q818 := A.v 6 rfl
      have q819 : f 42 = (af_ (vs 5) (a2) (Enc.sz (List Int))) := A.v 7 rfl
      simp only [hu172] at q819
      have q819 : f 42 = (af_ (Value.slice z137 m137 k137) (a2) (Enc.sz (List Int))) := q819
      refine tk_ rfl q816 hc15 (ay_ rfl fn_ q819 (r71.elem I.in_ hx71) (fun u179 hu173 => ?_))
      obtain ⟨z138, m138, k138, rfl⟩ := ac_ hu173
      refine ⟨_, _, rfl, lr, ?_, ?_⟩
      · exact hu173
      exact I
     ·
      intro vs f w_ U X le A K I
      have I553 : Inv w_ U (Row (α := (List Int)) 28 (Value.slice z16 m16 k16) (x3) :: X) := I
      refine tk_ rfl (A.v 1 rfl) hc15 (ba_ (v := (.slice z16 m16 k16)) (i := (i4 : Int)) (e := x72) rfl Tryz.underlying23 fn_ (A.v 2 rfl) (Inv.rowSrc (I553.nth 0 rfl)) (A.v 3 rfl) hx72 (fo I553))
     ·
      intro vs f w_ U X le A K I
      have I554 : Inv w_ U (Row (α := (List Int)) 28 (Value.slice z16 m16 k16) (x3) :: X) := I
      have q825 := A.v 1 rfl
      have q826 := A.v 4 rfl
      refine tk_ rfl q825 hc15 (ay_ rfl fn_ q826 ((I554.nth 0 rfl).rowElem hx72) (fun u180 hu174 => ?_))
      obtain ⟨z139, m139, k139, rfl⟩ := ac_ hu174
      refine ⟨_, _, rfl, lr, ?_, ?_⟩
      · exact hu174
      exact I554
     ·
      intro vs f w_ U X le A K I
      obtain ⟨z140, m140, k140, hu175, q828, r72⟩ := A.sl (a := 8) 8 rfl rfl rfl
      obtain ⟨z141, m141, k141, hu176, q829, r73⟩ := A.sl (a := 12) 12 rfl rfl rfl
      refine tk_ rfl (A.v 1 rfl) hc15 (cv_ ca18 rfl I (fun Fr_ hF_ => gv_ hF_ r72 r73 hx73) (br_ q828 q829) (fun w527 I556 => (fo I556)))
     ·
      intro vs f w_ U X le A K I
      refine pl_ rfl (bn_ (v := (vb x73)) rfl (A.v 14 rfl) (fo I))
     intro vs489 f w530 S512 ed55 le512 hF29 hK489 hI497
     have e475 : f 1 = (Value.slice z5 m5 k5) := (hK489 1 (al_ rfl)).trans e455
     have e476 : f 2 = (vi a2) := (hK489 2 (al_ rfl)).trans e456
     have e477 : f 7 = (Value.slice z112 m112 k112) := (hK489 7 (al_ rfl)).trans e457
     have e478 : f 8 = (Value.slice z16 m16 k16) := (hK489 8 (al_ rfl)).trans e458
     have e479 : f 9 = (vi ((i4 : Int))) := (hK489 9 (al_ rfl)).trans e459
     have e480 : f 11 = (vi ((i5 : Int))) := (hK489 11 (al_ rfl)).trans e461
     have I559 : Inv w530 S512 (Row (α := (List Int)) 28 (Value.slice z16 m16 k16) (x3) :: Row (α := (List Int)) 28 (Value.slice z112 m112 k112) (s4) :: Fr) := hI497
     have q833 := hF29.v 15 rfl
     refine aa_ (wm_ rfl e480 (wo_ (bl_ rfl rfl rfl (wa_ (v := (vi (w64 ((i5 : Int) + 1)))) rfl rfl (ad_ ?_)))))
     obtain rfl := sj h9
     exact ⟨_, (le478.trans le512), (I559.pull 1), e475, e476, e477, e478, e479, q833, (bh_ hlt5 hk5), (ed55.trans ed53)⟩
    rintro f w hI498
    obtain ⟨S513, le513, I560, e481, e482, e483, e484, e485, e486, e487, ed56⟩ := hI498
    refine ab_ (ab_ (aa_ (wm_ rfl e487 (wm_ rfl e481 (wo_ (az_ rfl Tryz.underlying55 rfl (h1_.mono (((le1.trans le15).trans le390).trans le513)) (wo_ (be_ rfl rfl rfl (ad_ (ai_ rfl (ep_ _) (bk_ ?_)))))))))))
    exact ⟨_, le513, ((I560.pull 1).pull 1), e481, e482, e483, e484, e485, e486, ed56⟩
   rintro f w ⟨S514, le514, I561, e488, e489, e490, e491, e492, e493, ed57⟩
   refine ab_ (aa_ (wm_ rfl e493 (ad_ ?_)))
   rcases ifs h7 with ⟨hc16, h7⟩ | ⟨hc16, h7⟩
   ·
    refine ah_ rfl hc16 (aa_ (wm_ rfl e490 (wm_ rfl e491 (wm_ rfl e492 ?_))))
    obtain ⟨x74, hx74, h7⟩ := bnd h7
    refine wo_ (ba_ (v := (.slice z16 m16 k16)) (i := (i4 : Int)) (e := x74) rfl Tryz.underlying23 fn_ rfl (Inv.rowSrc (I561.nth 1 rfl)) rfl hx74 (wo_ (ld_ fn_ ((I561.nth 1 rfl).rowElem hx74) rfl (fun u183 hu177 => ?_))))
    obtain ⟨z142, m142, k142, rfl⟩ := ac_ hu177
    refine wo_ (bf_ (vs := [(.slice z142 m142 k142)]) (r := ([x74] : List (List Int))) rfl Tryz.underlying23 zh_ (fc_ rfl) rfl (by decide) (by decide) ⟨hu177, trivial⟩ I561 (fun u184 w531 I562 => ?_))
    obtain ⟨z143, m143, k143, e495⟩ := bc_ I562
    subst e495
    obtain ⟨x75, hx75, h7⟩ := bnd h7
    refine wo_ (bt_ (α := (List Int)) (v := (.slice z112 m112 k112)) (u := (.slice z143 m143 k143)) rfl rfl Tryz.underlying23 zh_ (by decide) (by decide) rfl rfl (I562.pull 1) (Inv.rowSrc (I562.nth 0 rfl)) hx75 (fun u185 w532 I563 => ?_))
    obtain ⟨z144, m144, k144, e496⟩ := bc_ I563
    subst e496
    refine wa_ (v := (.slice z144 m144 k144)) rfl rfl (ad_ (aa_ (wm_ rfl e492 (wo_ (bl_ rfl rfl rfl (wa_ (v := (vi (w64 ((i4 : Int) + 1)))) rfl rfl (ad_ ?_)))))))
    obtain rfl := sj h7
    exact ⟨_, _, _, _, (le390.trans le514), (((I563.pull 1).drop.pull 1).pull 1), e488, e489, rfl, e491, (bh_ hlt4 hk4), ed57⟩
   refine ai_ rfl hc16 (ar_ (aa_ (wm_ rfl e492 (wo_ (bl_ rfl rfl rfl (wa_ (v := (vi (w64 ((i4 : Int) + 1)))) rfl rfl (ad_ ?_)))))))
   obtain rfl := sj h7
   exact ⟨_, _, _, _, (le390.trans le514), ((I561.pull 1).pull 1), e488, e489, e490, e491, (bh_ hlt4 hk4), ed57⟩
  rintro f w hI499
  obtain ⟨S515, z145, m145, k145, le515, I564, e497, e498, e499, e500, e501, ed58⟩ := hI499
  refine ab_ (ab_ (aa_ (wm_ rfl e501 (wm_ rfl e500 (wo_ (di_ (α := (List Int)) rfl Tryz.underlying23 rfl (I564.nth 1 rfl) (wo_ (be_ rfl rfl rfl (ad_ (ai_ rfl (ep_ _) (bk_ ?_)))))))))))
  exact ⟨_, _, _, _, le515, ((I564.pull 1).pull 1), e497, e498, e499, e500, ed58⟩
 rintro f w ⟨S516, z113, m113, k113, le516, I565, e502, e503, e504, e505, ed59⟩
 refine ab_ (aa_ (wm_ rfl e504 (wa_ (v := (.slice z113 m113 k113)) rfl rfl (ad_ (ak_ ?_)))))
 obtain rfl := sj h
 exact ⟨ed59, (.slice z113 m113 k113), (bo_ rfl rfl), _, [Row (α := (List Int)) 28 (.slice z113 m113 k113) (out4)], ((le1.trans le15).trans le516), (I565.pull 1).drop, _, _, _, rfl, rfl⟩
theorem ef_ {w : World} {S : PH} {Fr : List HP} {a0 : Riddle} {v0 : Value} {r : (List Int)} (hI : Inv w S (Fr)) (h0_ : RV S v0 a0) (h : ea_ a0 = some r) :
    Calls Tryz.prog 43 [v0].toArray w (lp_ S Fr (fun T_ v_ O_ => ∃ (a0_ : Option Addr) (n0_ k0_ : Nat), v_ = (Value.slice a0_ n0_ k0_) ∧ O_ = [Row (α := Int) 3 (Value.slice a0_ n0_ k0_) (r)])) := by
 unfold ea_ at h
 obtain ⟨c1, c2, c3, c4, e1, r1, r2, r3, r4⟩ := Riddle.inv h0_
 subst e1
 obtain ⟨z1, m1, k1, rfl⟩ := ac_ r1
 obtain ⟨z2, m2, k2, rfl⟩ := ac_ r2
 obtain ⟨z3, m3, k3, rfl⟩ := ac_ r3
 obtain ⟨z4, m4, k4, rfl⟩ := ac_ r4
 refine ao_ (n := 24) Tryz.func43 rfl rfl rfl (ab_ (aa_ (wo_ (bi_ (v := (.agg #[(.slice z1 m1 k1), (.slice z2 m2 k2), (.slice z3 m3 k3), (.slice z4 m4 k4)])) rfl hI rfl (fun g1 w1 I1 => ?_)))))
 obtain ⟨S1, le1, I2, p1⟩ := Inv.boxFreeze (x := a0) I1 (Riddle.rv (s := a0) r1 r2 r3 r4)
 refine wa_ (v := sn) rfl rfl (ad_ (ab_ (aa_ (wo_ (ld_ fr_ (p1.at_ I2) rfl (fun u1 hu1 => ?_))))))
 obtain ⟨c5, c6, c7, c8, e6, r5, r6, r7, r8⟩ := Riddle.inv hu1
 subst e6
 obtain ⟨z5, m5, k5, rfl⟩ := ac_ r5
 obtain ⟨z6, m6, k6, rfl⟩ := ac_ r6
 obtain ⟨z7, m7, k7, rfl⟩ := ac_ r7
 obtain ⟨z8, m8, k8, rfl⟩ := ac_ r8
 obtain ⟨x1, hx1, h⟩ := bnd h
 refine wo_ (cl_ ca80 rfl (yo_ I2 (Riddle.rv (s := a0) r5 r6 r7 r8) hx1) (em_ rfl) (fun cv1 w2 S2 O1 le2 I3 hv1 => ?_))
 obtain ⟨z9, m9, k9, rfl, rfl⟩ := hv1
 obtain ⟨S3, le3, I4, r9⟩ := Inv.rowFreeze I3
 refine wa_ (v := (.slice z9 m9 k9)) rfl rfl (ad_ (ab_ (aa_ (wa_ (v := sn) rfl rfl (ad_ (ab_ (ab_ (aa_ (wa_ (v := (vi 0)) rfl rfl (ad_ ?_))))))))))
 have hk1 : a0.Locks.length ≤ 9223372036854775807 := (cx_ r1)
 have I18 := Inv.rowNil (α := Int) (T := 3) I4
 obtain ⟨out1, hrun1, h⟩ := bnd h
 refine bp_ (fun f w => ∃ (S_ : PH) (z42 : Option Addr) (m42 k42 : Nat), S3.Le S_ ∧ Inv w S_ (Row (α := Int) 3 (.slice z42 m42 k42) (out1) :: Fr) ∧ f 1 = (pt_ g1) ∧ f 3 = (.slice z9 m9 k9) ∧ f 4 = (.slice z42 m42 k42) ∧ f.ds = []) ?_ ?_
 ·
  refine au_ ?_
  refine da_ (I := fun (i1 : Nat) (s1 : (List Int)) (f : Frm) (w : World) => ∃ (S_ : PH) (z41 : Option Addr) (m41 k41 : Nat), S3.Le S_ ∧ Inv w S_ (Row (α := Int) 3 (.slice z41 m41 k41) (s1) :: Fr) ∧ f 1 = (pt_ g1) ∧ f 3 = (.slice z9 m9 k9) ∧ f 4 = (.slice z41 m41 k41) ∧ f 5 = (vi (i1 : Int)) ∧ f.ds = []) hrun1 ⟨_, _, _, _, lr, I18, rfl, rfl, rfl, rfl, rfl⟩ ?_ ?_
  ·
   rintro i1 s1 f w o1 hlt1 hI1 h1
   obtain ⟨S9, z41, m41, k41, le9, I19, e52, e53, e54, e55, ed4⟩ := hI1
   refine ab_ (ab_ (aa_ (wm_ rfl e55 (wo_ (ae_ rfl co_ e52 ((p1.mono ((le2.trans le3).trans le9)).at_ I19) (wo_ (ld_ mh_ (((p1.mono ((le2.trans le3).trans le9)).at_ I19).fld Riddle.fld0) rfl (fun u20 hu14 => ?_))))))))
   obtain ⟨z44, m44, k44, rfl⟩ := ac_ hu14
   refine wo_ (az_ rfl Tryz.underlying22 rfl hu14 (wo_ (be_ rfl rfl rfl (ad_ (ah_ rfl (eo_ hlt1) (ar_ (ab_ (au_ (aa_ (wm_ rfl e54 (wo_ (ay_ rfl fr_ e52 ((p1.mono ((le2.trans le3).trans le9)).at_ I19) (fun u21 hu15 => ?_)))))))))))))
   obtain ⟨c21, c22, c23, c24, e58, r22, r23, r24, r25⟩ := Riddle.inv hu15
   subst e58
   obtain ⟨z45, m45, k45, rfl⟩ := ac_ r22
   obtain ⟨z46, m46, k46, rfl⟩ := ac_ r23
   obtain ⟨z47, m47, k47, rfl⟩ := ac_ r24
   obtain ⟨z48, m48, k48, rfl⟩ := ac_ r25
   refine wm_ rfl e53 (wm_ rfl e55 ?_)
   obtain ⟨x8, hx8, h1⟩ := bnd h1
   refine wo_ (cl_ ca81 rfl (sd_ I19 (Riddle.rv (s := a0) r22 r23 r24 r25) (r9.mono le9) hx8) (cf_ rfl rfl rfl) (fun cv5 w12 S10 O5 le10 I20 hv5 => ?_))
   obtain ⟨z49, m49, k49, rfl, rfl⟩ := hv5
   refine wo_ (di_ (α := (List Int)) rfl Tryz.underlying23 rfl (I20.nth 0 rfl) (wo_ (bf_ (vs := [(vi ((x8.length : Int)))]) (r := ([(x8.length : Int)] : List Int)) rfl Tryz.underlying28 el3 (fc_ rfl) rfl (by decide) (by decide) ⟨(dv_ _), trivial⟩ I20 (fun u22 w13 I21 => ?_))))
   obtain ⟨z50, m50, k50, e63⟩ := bc_ I21
   subst e63
   obtain ⟨x9, hx9, h1⟩ := bnd h1
   refine wo_ (bt_ (α := Int) (v := (.slice z41 m41 k41)) (u := (.slice z50 m50 k50)) rfl rfl Tryz.underlying28 el3 (by decide) (by decide) rfl rfl (I21.pull 2) (Inv.rowSrc (I21.nth 0 rfl)) hx9 (fun u23 w14 I22 => ?_))
   obtain ⟨z51, m51, k51, e64⟩ := bc_ I22
   subst e64
   refine wa_ (v := (.slice z51 m51 k51)) rfl rfl (ad_ (aa_ (wm_ rfl e55 (wo_ (bl_ rfl rfl rfl (wa_ (v := (vi (w64 ((i1 : Int) + 1)))) rfl rfl (ad_ ?_)))))))
   obtain rfl := sj h1
   exact ⟨_, _, _, _, (le9.trans le10), ((I22.pull 1).drop.pull 1).drop, e52, e53, rfl, (bh_ hlt1 hk1), ed4⟩
  rintro f w hI2
  obtain ⟨S11, z52, m52, k52, le11, I23, e65, e66, e67, e68, ed5⟩ := hI2
  refine ab_ (ab_ (aa_ (wm_ rfl e68 (wo_ (ae_ rfl co_ e65 ((p1.mono ((le2.trans le3).trans le11)).at_ I23) (wo_ (ld_ mh_ (((p1.mono ((le2.trans le3).trans le11)).at_ I23).fld Riddle.fld0) rfl (fun u25 hu17 => ?_))))))))
  obtain ⟨z54, m54, k54, rfl⟩ := ac_ hu17
  refine wo_ (az_ rfl Tryz.underlying22 rfl hu17 (wo_ (be_ rfl rfl rfl (ad_ (ai_ rfl (ep_ _) (bk_ ?_))))))
  exact ⟨_, _, _, _, le11, I23, e65, e66, e67, ed5⟩
 rintro f w ⟨S12, z42, m42, k42, le12, I24, e71, e72, e73, ed6⟩
 refine ab_ (aa_ (wm_ rfl e73 (wa_ (v := (.slice z42 m42 k42)) rfl rfl (ad_ (ak_ ?_)))))
 obtain rfl := sj h
 exact ⟨ed6, (.slice z42 m42 k42), (bo_ rfl rfl), _, [Row (α := Int) 3 (.slice z42 m42 k42) (out1)], (((le1.trans le2).trans le3).trans le12), I24, _, _, _, rfl, rfl⟩
end Go.Proofs.YtlpdpeghgndmkaaGreat.Pad
