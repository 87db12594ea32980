/- A part of the proof: what the functions of the program compute, shown over the model. -/
import Derived.Test.YtlpdpeghgndmkaaGreatHizP
import Derived.Test.YtlpdpeghgndmkaaGreatHizW1
import Derived.Test.YtlpdpeghgndmkaaGreatHizW2
import Derived.Test.YtlpdpeghgndmkaaGreatHizW3
import Derived.Test.YtlpdpeghgndmkaaGreatHizW4
import Derived.KernelRfl
set_option linter.unusedVariables false
set_option maxHeartbeats 4000000
set_option maxRecDepth 100000
namespace Go.Proofs.YtlpdpeghgndmkaaGreat.Pad
open Go Go.Proofs
theorem tg_ {w : World} {S : PH} {Fr : List HP} {a0 : Riddle} {v0 : Value} {r : Int} (hI : Inv w S (Fr)) (h0_ : RV S v0 a0) (h : ip_ a0 = some r) :
    Calls Tryz.prog 75 [v0].toArray w (bw_ S Fr (Value.int .i64 (r))) := by
 unfold ip_ at h
 obtain ⟨c1, c2, c3, c4, e1, r1, r2, r3, r4⟩ := Riddle.inv h0_
 subst e1
 obtain ⟨z1, m1, k1, rfl⟩ := ac_ r1
 obtain ⟨z2, m2, k2, rfl⟩ := ac_ r2
 obtain ⟨z3, m3, k3, rfl⟩ := ac_ r3
 obtain ⟨z4, m4, k4, rfl⟩ := ac_ r4
 refine ao_ (n := 34) Tryz.func75 rfl rfl rfl (ab_ (aa_ (wo_ (bi_ (v := (.agg #[(.slice z1 m1 k1), (.slice z2 m2 k2), (.slice z3 m3 k3), (.slice z4 m4 k4)])) rfl hI rfl (fun g1 w1 I1 => ?_)))))
 obtain ⟨S1, le1, I2, p1⟩ := Inv.boxFreeze (x := a0) I1 (Riddle.rv (s := a0) r1 r2 r3 r4)
 refine wa_ (v := (vi 0)) rfl rfl (ad_ (ab_ (ab_ (aa_ (wo_ (ld_ fr_ (p1.at_ I2) rfl (fun u1 hu1 => ?_)))))))
 obtain ⟨c5, c6, c7, c8, e6, r5, r6, r7, r8⟩ := Riddle.inv hu1
 subst e6
 obtain ⟨z5, m5, k5, rfl⟩ := ac_ r5
 obtain ⟨z6, m6, k6, rfl⟩ := ac_ r6
 obtain ⟨z7, m7, k7, rfl⟩ := ac_ r7
 obtain ⟨z8, m8, k8, rfl⟩ := ac_ r8
 obtain ⟨x1, hx1, h⟩ := bnd h
 refine wo_ (cv_ ca33 rfl I2 (fun Fr_ hF_ => pp_ hF_ (Riddle.rv (s := a0) r5 r6 r7 r8) hx1) (em_ rfl) (fun w2 I3 => (wa_ (v := (vi x1)) rfl rfl (ad_ (ab_ (aa_ (wm_ (v := (vi x1)) rfl rfl (wo_ (cd_ rfl rfl rfl (ad_ ?_))))))))))
 rcases ifs h with ⟨hc1, h⟩ | ⟨hc1, h⟩
 ·
  refine ah_ rfl hc1 (ab_ (aa_ (wm_ (v := (vi x1)) rfl rfl (wa_ (v := (vi x1)) rfl rfl (ad_ (ak_ ?_))))))
  obtain rfl := sj h
  exact ⟨rfl, (vi x1), (bo_ rfl rfl), _, [], le1, I3, rfl, rfl⟩
 refine ai_ rfl hc1 (ar_ (ab_ (aa_ (wa_ (v := (vi 1)) rfl rfl (ad_ (ab_ (ab_ (aa_ (wa_ (v := (vi 0)) rfl rfl (ad_ ?_))))))))))
 have hk1 : a0.Locks.length ≤ 9223372036854775807 := (cx_ r1)
 obtain ⟨o2, hrun1, h⟩ := bnd h
 refine bp_ (fun f w => ∃ out1, o2 = Sum.inl out1 ∧ ∃ (S_ : PH), S1.Le S_ ∧ Inv w S_ (Fr) ∧ f 1 = (pt_ g1) ∧ f 4 = (vi out1) ∧ f.ds = []) ?_ ?_
 ·
  refine au_ ?_
  refine ex_ (I := fun (i1 : Nat) (s1 : (Int)) (f : Frm) (w : World) => ∃ (S_ : PH), S1.Le S_ ∧ Inv w S_ (Fr) ∧ f 1 = (pt_ g1) ∧ f 4 = (vi s1) ∧ f 5 = (vi (i1 : Int)) ∧ f.ds = []) hrun1 ⟨_, lr, I3, rfl, rfl, rfl, rfl⟩ ?_ ?_
  ·
   rintro i1 s1 f w o1 hlt1 hI49 h1 hout1
   obtain ⟨S55, le55, I64, e67, e68, e69, ed7⟩ := hI49
   refine ab_ (ab_ (aa_ (wm_ rfl e69 (wo_ (ae_ rfl co_ e67 ((p1.mono le55).at_ I64) (wo_ (ld_ mh_ (((p1.mono le55).at_ I64).fld Riddle.fld0) rfl (fun u50 hu50 => ?_))))))))
   obtain ⟨z51, m51, k51, rfl⟩ := ac_ hu50
   refine wo_ (az_ rfl Tryz.underlying22 rfl hu50 (wo_ (be_ rfl rfl rfl (ad_ (ah_ rfl (eo_ hlt1) (ar_ (ab_ (au_ (ab_ ?_)))))))))
   obtain ⟨x11, hx11, h1⟩ := bnd h1
   obtain ⟨x12, hx12, h1⟩ := bnd h1
   obtain ⟨x13, hx13, h1⟩ := bnd h1
   refine bj_ (sps := [spV 18 [] 0 (vi s1), spV 19 [] 1 (an_ (pt_ g1) 0), spR 20 [1] 2 (a0.Locks), spV 21 [] 3 (vi (i1 : Int)), spW 22 [1, 2, 3] [4, 2] fun vs_ => (af_ (fr0 vs_ 1) ((i1 : Int)) (Enc.sz CodeLock)), spV 23 [1, 2, 3, 4] 5 (.agg #[(vi x11.Wheels), (vi x11.Symbols)]), spV 24 [] 6 (an_ (pt_ g1) 2), spR 25 [6] 7 (a0.Known), spV 26 [] 8 (vi (i1 : Int)), spW 27 [6, 7, 8] [9, 7] fun vs_ => (af_ (fr0 vs_ 1) ((i1 : Int)) (Enc.sz (List Clue))), spR 28 [6, 7, 8, 9] 10 x12, ⟨some 29, [1, 2, 3, 4, 5, 6, 7, 8, 9, 10], [11], fun vs_ T_ => ∃ (a0_ : Option Addr) (n0_ k0_ : Nat), fr0 vs_ 0 = (.slice a0_ n0_ k0_), [], [], [0], fun _ h_ => h_⟩, ⟨some 30, [1, 2, 3, 4, 5, 6, 7, 8, 9, 10, 11], [12], fun vs_ T_ => fr0 vs_ 0 = (vi ((x13.length : Int))), [0], [], [], fun _ h_ => h_⟩, spV 31 (lrg 13) 13 (vi (w64 (s1 * (x13.length : Int)))), spV 4 (lrg 14) 14 (vi (w64 (s1 * (x13.length : Int))))]) (tks := [⟨some 11, none, [11], fun vs_ => Row (α := (List Int)) 28 (fr0 vs_ 0) (x13)⟩]) (O := Fr) rfl (by kernel_rfl) I64 ⟨ob_ rfl fun l A K I => (aq_ rfl ((K 4 (ag_ rfl)).trans e68) (fo I)), ob_ rfl fun l A K I => (ae_ rfl co_ ((K 1 (ag_ rfl)).trans e67) ((p1.mono (le55.trans l)).at_ I) (fo I)), ?_, ob_ rfl fun l A K I => (aq_ rfl ((K 5 (ag_ rfl)).trans e69) (fo I)), ?_, ?_, ob_ rfl fun l A K I => (ae_ rfl fk_ ((K 1 (ag_ rfl)).trans e67) ((p1.mono (le55.trans l)).at_ I) (fo I)), ?_, ob_ rfl fun l A K I => (aq_ rfl ((K 5 (ag_ rfl)).trans e69) (fo I)), ?_, ?_, ?_, ?_, ob_ rfl fun l A K I => (op_mul rfl (A.v 0 rfl) (A.v 12 rfl) (fo I)), ?_, trivial⟩ ?_
   ·
    intro vs f w_ U X le A K I
    have q61 := A.v 0 rfl
    refine pl_ rfl (ay_ rfl mh_ q61 (((p1.mono (le55.trans le)).at_ I).fld Riddle.fld0) (fun u55 hu55 => ?_))
    obtain ⟨z52, m52, k52, rfl⟩ := ac_ hu55
    refine ⟨_, _, rfl, lr, ?_, ?_⟩
    · exact hu55
    exact I
   ·
    intro vs f w_ U X le A K I
    obtain ⟨z53, m53, k53, hu56, q62, r24⟩ := A.sl (a := 2) 1 rfl rfl rfl
    have q63 := A.v 2 rfl
    refine pl_ rfl (ix_ Tryz.underlying22 im_ r24 hx11 q62 q63 (⟨_, _, rfl, lr, ?_, ?_⟩))
    ·
     show (af_ (Value.slice z53 m53 k53) ((i1 : Int)) (Enc.sz CodeLock)) = (af_ (vs 2) ((i1 : Int)) (Enc.sz CodeLock))
     simp only [hu56] <;> rfl
    exact I
   ·
    intro vs f w_ U X le A K I
    obtain ⟨z54, m54, k54, hu57, q64, r25⟩ := A.sl (a := 2) 1 rfl rfl rfl
    have q65 := A.v 2 rfl
    have q66 : f 22 = (af_ (vs 2) ((i1 : Int)) (Enc.sz CodeLock)) := A.v 3 rfl
    simp only [hu57] at q66
    have q66 : f 22 = (af_ (Value.slice z54 m54 k54) ((i1 : Int)) (Enc.sz CodeLock)) := q66
    refine pl_ rfl (ay_ rfl im_ q66 (r25.elem I.in_ hx11) (fun u58 hu58 => ?_))
    have e75 := CodeLock.inv hu58
    subst e75
    refine ⟨_, _, rfl, lr, ?_, ?_⟩
    · exact rfl
    exact I
   ·
    intro vs f w_ U X le A K I
    have q67 := A.v 0 rfl
    refine pl_ rfl (ay_ rfl sb_ q67 (((p1.mono (le55.trans le)).at_ I).fld Riddle.fld2) (fun u59 hu59 => ?_))
    obtain ⟨z55, m55, k55, rfl⟩ := ac_ hu59
    refine ⟨_, _, rfl, lr, ?_, ?_⟩
    · exact hu59
    exact I
   ·
    intro vs f w_ U X le A K I
    obtain ⟨z56, m56, k56, hu60, q68, r26⟩ := A.sl (a := 7) 1 rfl rfl rfl
    have q69 := A.v 2 rfl
    refine pl_ rfl (ix_ Tryz.underlying24 ng_ r26 hx12 q68 q69 (⟨_, _, rfl, lr, ?_, ?_⟩))
    ·
     show (af_ (Value.slice z56 m56 k56) ((i1 : Int)) (Enc.sz (List Clue))) = (af_ (vs 7) ((i1 : Int)) (Enc.sz (List Clue)))
     simp only [hu60] <;> rfl
    exact I
   ·
    intro vs f w_ U X le A K I
    obtain ⟨z57, m57, k57, hu61, q70, r27⟩ := A.sl (a := 7) 1 rfl rfl rfl
    have q71 := A.v 2 rfl
    have q72 : f 27 = (af_ (vs 7) ((i1 : Int)) (Enc.sz (List Clue))) := A.v 3 rfl
    simp only [hu61] at q72
    have q72 : f 27 = (af_ (Value.slice z57 m57 k57) ((i1 : Int)) (Enc.sz (List Clue))) := q72
    refine pl_ rfl (ay_ rfl ng_ q72 (r27.elem I.in_ hx12) (fun u62 hu62 => ?_))
    obtain ⟨z58, m58, k58, rfl⟩ := ac_ hu62
    refine ⟨_, _, rfl, lr, ?_, ?_⟩
    · exact hu62
    exact I
   ·
    intro vs f w_ U X le A K I
    have q73 := A.v 4 rfl
    obtain ⟨z59, m59, k59, hu63, q74, r28⟩ := A.sl (a := 10) 9 rfl rfl rfl
    refine pl_ rfl (cl_ ca34 rfl (lt_ I (CodeLock.rv (s := x11)) r28 hx13) (br_ q73 q74) (fun cv4 w67 S68 O4 le68 I77 hv4 => ?_))
    obtain ⟨z60, m60, k60, rfl, rfl⟩ := hv4
    refine ⟨_, _, rfl, le68, ?_, ?_⟩
    · exact ⟨_, _, _, rfl⟩
    exact I77
   ·
    intro vs f w_ U X le A K I
    have I78 : Inv w_ U (Row (α := (List Int)) 28 (vs 11) (x13) :: X) := I
    obtain ⟨z61, m61, k61, e81, q75⟩ := A.rf (a := 11) 10 rfl rfl rfl
    have I79 := I78
    rw [e81] at I79
    refine pl_ rfl (di_ (α := (List Int)) rfl Tryz.underlying23 q75 (I79.nth 0 rfl) (⟨_, _, rfl, lr, ?_, ?_⟩))
    · exact rfl
    show Inv _ _ (Row (α := (List Int)) 28 (vs 11) (x13) :: X)
    simp only [e81]
    exact I79
   ·
    intro vs f w_ U X le A K I
    refine pl_ rfl (bn_ (v := (vi (w64 (s1 * (x13.length : Int))))) rfl (A.v 13 rfl) (fo I))
   intro vs64 f w71 S72 ed8 le72 hF4 hK64 hI65
   have e82 : f 1 = (pt_ g1) := (hK64 1 (al_ rfl)).trans e67
   have e83 : f 5 = (vi ((i1 : Int))) := (hK64 5 (al_ rfl)).trans e69
   have I82 : Inv w71 S72 (Row (α := (List Int)) 28 (vs64 11) (x13) :: Fr) := hI65
   obtain ⟨z62, m62, k62, e84, q79⟩ := hF4.rf (a := 11) 11 rfl rfl rfl
   have I83 := I82
   rw [e84] at I83
   have q80 := hF4.v 14 rfl
   refine ab_ (aa_ (wm_ rfl q80 (wo_ (lv_ rfl rfl rfl (ad_ ?_)))))
   rcases ifs h1 with ⟨hc5, h1⟩ | ⟨hc5, h1⟩
   ·
    refine ah_ rfl hc5 (ab_ (aa_ (wa_ (v := (vi 2)) rfl rfl (ad_ (ak_ ?_)))))
    obtain rfl := sj h1
    obtain rfl := (hout1 _ rfl)
    have h2 := h
    obtain rfl := sj h2
    exact ⟨(ed8.trans ed7), (vi 2), (bo_ rfl rfl), _, [], ((le1.trans le55).trans le72), (I83).drop, rfl, rfl⟩
   refine ai_ rfl hc5 (ar_ (aa_ (wm_ rfl e83 (wo_ (bl_ rfl rfl rfl (wa_ (v := (vi (w64 ((i1 : Int) + 1)))) rfl rfl (ad_ ?_)))))))
   obtain rfl := sj h1
   exact ⟨_, rfl, _, (le55.trans le72), (I83).drop, e82, q80, (bh_ hlt1 hk1), (ed8.trans ed7)⟩
  rintro s2 f w hs1 hI66
  obtain ⟨S73, le73, I84, e85, e86, e87, ed9⟩ := hI66
  refine ab_ (ab_ (aa_ (wm_ rfl e87 (wo_ (ae_ rfl co_ e85 ((p1.mono le73).at_ I84) (wo_ (ld_ mh_ (((p1.mono le73).at_ I84).fld Riddle.fld0) rfl (fun u65 hu65 => ?_))))))))
  obtain ⟨z64, m64, k64, rfl⟩ := ac_ hu65
  refine wo_ (az_ rfl Tryz.underlying22 rfl hu65 (wo_ (be_ rfl rfl rfl (ad_ (ai_ rfl (ep_ _) (bk_ ?_))))))
  exact ⟨s2, hs1, _, le73, I84, e85, e86, ed9⟩
 rintro f w ⟨out1, rfl, S74, le74, I85, e90, e91, ed10⟩
 have h := eh_ h
 refine ab_ (aa_ (wa_ (v := (vi 0)) rfl rfl (ad_ (ak_ ?_))))
 obtain rfl := sj h
 exact ⟨ed10, (vi 0), (bo_ rfl rfl), _, [], (le1.trans le74), I85, rfl, rfl⟩
theorem vt_ {w : World} {S : PH} {Fr : List HP} {a0 : Riddle} {v0 : Value} {a1 : Aid} {v1 : Value} {r : Bool} (hI : Inv w S (Fr)) (h0_ : RV S v0 a0) (h1_ : RV S v1 a1) (h : kw_ a0 a1 = some r) :
    Calls Tryz.prog 76 [v0, v1].toArray w (bw_ S Fr (Value.bool (r))) := by
 unfold kw_ at h
 obtain ⟨c1, c2, c3, c4, e1, r1, r2, r3, r4⟩ := Riddle.inv h0_
 subst e1
 obtain ⟨z1, m1, k1, rfl⟩ := ac_ r1
 obtain ⟨z2, m2, k2, rfl⟩ := ac_ r2
 obtain ⟨z3, m3, k3, rfl⟩ := ac_ r3
 obtain ⟨z4, m4, k4, rfl⟩ := ac_ r4
 obtain ⟨c5, e6, r5⟩ := Aid.inv h1_
 subst e6
 obtain ⟨z5, m5, k5, rfl⟩ := ac_ r5
 refine ao_ (n := 29) Tryz.func76 rfl rfl rfl (ab_ (aa_ (wo_ (bi_ (v := (.agg #[(.slice z1 m1 k1), (.slice z2 m2 k2), (.slice z3 m3 k3), (.slice z4 m4 k4)])) rfl hI rfl (fun g1 w1 I1 => ?_)))))
 obtain ⟨S1, le1, I2, p1⟩ := Inv.boxFreeze (x := a0) I1 (Riddle.rv (s := a0) r1 r2 r3 r4)
 refine wo_ (bi_ (v := (.agg #[(vi a1.Lock), (vi a1.Clue.Kind), (vi a1.Clue.A), (vi a1.Clue.B), (vi a1.Clue.N), (vi a1.Clue.M), (.slice z5 m5 k5), (vb a1.Clue.Not)])) rfl I2 rfl (fun g2 w2 I3 => ?_))
 obtain ⟨S2, le2, I4, p2⟩ := Inv.boxFreeze (x := a1) I3 (Aid.rv (s := a1) (r5.mono le1))
 refine wa_ (v := (vb false)) rfl rfl (ad_ (ab_ ?_))
 obtain ⟨x1, hx1, h⟩ := bnd h
 rcases ifs h with ⟨hc1, h⟩ | ⟨hc1, h⟩
 ·
  obtain ⟨x2, hx2, h⟩ := bnd h
  obtain ⟨x3, hx3, h⟩ := bnd h
  obtain ⟨x4, hx4, h⟩ := bnd h
  refine bj_ (sps := [spV 5 [] 0 (an_ (pt_ g2) 0), spV 6 [0] 1 (vi a1.Lock), spV 7 [] 2 (an_ (pt_ g1) 0), spR 8 [2] 3 (a0.Locks), spV 9 [2, 3] 4 (vi ((a0.Locks.length : Int))), spV 10 [2, 3, 4] 5 (vi (w64 ((a0.Locks.length : Int) - 1))), spV 11 (lrg 6) 6 (vb x1), spV 12 (lrg 7) 7 (vb x1), spV 13 (lrg 8) 8 (an_ (pt_ g1) 0), spR 14 (lrg 9) 9 (a0.Locks), spV 15 (lrg 8) 10 (an_ (pt_ g2) 0), spV 16 (lrg 8 ++ [10]) 11 (vi a1.Lock), spW 17 (lrg 12) [12, 9] fun vs_ => (af_ (fr0 vs_ 1) (a1.Lock) (Enc.sz CodeLock)), spV 18 (lrg 13) 13 (.agg #[(vi x2.Wheels), (vi x2.Symbols)]), spV 19 (lrg 8) 14 (an_ (pt_ g1) 1), spR 20 (lrg 8 ++ [14]) 15 (a0.Codes), spV 21 (lrg 8) 16 (an_ (pt_ g2) 0), spV 22 (lrg 8 ++ [16]) 17 (vi a1.Lock), spW 23 (lrg 8 ++ [14, 15, 16, 17]) [18, 15] fun vs_ => (af_ (fr0 vs_ 1) (a1.Lock) (Enc.sz (List Int))), spR 24 (lrg 8 ++ [14, 15, 16, 17, 18]) 19 x3, spV 25 (lrg 8) 20 (an_ (pt_ g2) 1), spR 26 (lrg 8 ++ [20]) 21 (a1.Clue), spV 27 (lrg 22) 22 (vb x4), spV 28 (lrg 23) 23 (vb x4), spV 4 (lrg 24) 24 (vb x4)]) (tks := []) (O := Fr) rfl (by kernel_rfl) I4 ⟨ob_ rfl fun l A K I => (ae_ rfl fq_ (K 3 (ag_ rfl)) ((p2.mono l).at_ I) (fo I)), ob_ rfl fun l A K I => (aj_ rfl sh3 (A.v 0 rfl) (((p2.mono l).at_ I).fld Aid.fld0) (fo I)), ob_ rfl fun l A K I => (ae_ rfl co_ (K 2 (ag_ rfl)) ((p1.mono (le2.trans l)).at_ I) (fo I)), ?_, ?_, ob_ rfl fun l A K I => (eb_ rfl (A.v 2 rfl) rfl (fo I)), fun vs f w U X l A K I => pl_ rfl (cv_ ca55 rfl I (fun Fr_ hF_ => ch_ hF_  hx1) (cf_ (A.v 1 rfl) rfl (A.v 5 rfl)) (fun w13 I15 => (fo I15))), ob_ rfl fun l A K I => (aq_ rfl (A.v 6 rfl) (fo I)), oc_ fun l A K I => tk_ rfl (A.v 7 rfl) hc1 (ae_ rfl co_ (K 2 (ag_ rfl)) ((p1.mono (le2.trans l)).at_ I) (fo I)), ?_, oc_ fun l A K I => tk_ rfl (A.v 7 rfl) hc1 (ae_ rfl fq_ (K 3 (ag_ rfl)) ((p2.mono l).at_ I) (fo I)), oc_ fun l A K I => tk_ rfl (A.v 7 rfl) hc1 (aj_ rfl sh3 (A.v 8 rfl) (((p2.mono l).at_ I).fld Aid.fld0) (fo I)), ?_, ?_, oc_ fun l A K I => tk_ rfl (A.v 7 rfl) hc1 (ae_ rfl hi_ (K 2 (ag_ rfl)) ((p1.mono (le2.trans l)).at_ I) (fo I)), ?_, oc_ fun l A K I => tk_ rfl (A.v 7 rfl) hc1 (ae_ rfl fq_ (K 3 (ag_ rfl)) ((p2.mono l).at_ I) (fo I)), oc_ fun l A K I => tk_ rfl (A.v 7 rfl) hc1 (aj_ rfl sh3 (A.v 8 rfl) (((p2.mono l).at_ I).fld Aid.fld0) (fo I)), ?_, ?_, oc_ fun l A K I => tk_ rfl (A.v 7 rfl) hc1 (ae_ rfl fa32_1 (K 3 (ag_ rfl)) ((p2.mono l).at_ I) (fo I)), ?_, ?_, ob_ rfl fun l A K I => (aw_ (a := (vb x4)) rfl (A.v 7 rfl) hc1 (A.v 22 rfl) (fo I)), ?_, trivial⟩ ?_
  ·
   intro vs f w_ U X le A K I
   have q2 := A.v 0 rfl
   refine pl_ rfl (ay_ rfl mh_ q2 (((p1.mono (le2.trans le)).at_ I).fld Riddle.fld0) (fun u8 hu8 => ?_))
   obtain ⟨z6, m6, k6, rfl⟩ := ac_ hu8
   refine ⟨_, _, rfl, lr, ?_, ?_⟩
   · exact hu8
   exact I
  ·
   intro vs f w_ U X le A K I
   obtain ⟨z7, m7, k7, hu9, q3, r6⟩ := A.sl (a := 3) 1 rfl rfl rfl
   refine pl_ rfl (az_ rfl Tryz.underlying22 q3 r6 (fo I))
  ·
   intro vs f w_ U X le A K I
   have q9 := A.v 7 rfl
   have q10 := A.v 8 rfl
   refine tk_ rfl q9 hc1 (ay_ rfl mh_ q10 (((p1.mono (le2.trans le)).at_ I).fld Riddle.fld0) (fun u10 hu10 => ?_))
   obtain ⟨z8, m8, k8, rfl⟩ := ac_ hu10
   refine ⟨_, _, rfl, lr, ?_, ?_⟩
   · exact hu10
   exact I
  ·
   intro vs f w_ U X le A K I
   have q14 := A.v 7 rfl
   obtain ⟨z9, m9, k9, hu11, q15, r7⟩ := A.sl (a := 9) 9 rfl rfl rfl
   have q16 := A.v 11 rfl
   refine tk_ rfl q14 hc1 (ix_ Tryz.underlying22 im_ r7 hx2 q15 q16 (⟨_, _, rfl, lr, ?_, ?_⟩))
   ·
    show (af_ (Value.slice z9 m9 k9) (a1.Lock) (Enc.sz CodeLock)) = (af_ (vs 9) (a1.Lock) (Enc.sz CodeLock))
    simp only [hu11] <;> rfl
   exact I
  ·
   intro vs f w_ U X le A K I
   have q17 := A.v 7 rfl
   obtain ⟨z10, m10, k10, hu12, q18, r8⟩ := A.sl (a := 9) 9 rfl rfl rfl
   have q19 := A.v 11 rfl
   have q20 : f 17 = (af_ (vs 9) (a1.Lock) (Enc.sz CodeLock)) := A.v 12 rfl
   simp only [hu12] at q20
   have q20 : f 17 = (af_ (Value.slice z10 m10 k10) (a1.Lock) (Enc.sz CodeLock)) := q20
   refine tk_ rfl q17 hc1 (ay_ rfl im_ q20 (r8.elem I.in_ hx2) (fun u13 hu13 => ?_))
   have e13 := CodeLock.inv hu13
   subst e13
   refine ⟨_, _, rfl, lr, ?_, ?_⟩
   · exact rfl
   exact I
  ·
   intro vs f w_ U X le A K I
   have q22 := A.v 7 rfl
   have q23 := A.v 8 rfl
   refine tk_ rfl q22 hc1 (ay_ rfl lq_ q23 (((p1.mono (le2.trans le)).at_ I).fld Riddle.fld1) (fun u14 hu14 => ?_))
   obtain ⟨z11, m11, k11, rfl⟩ := ac_ hu14
   refine ⟨_, _, rfl, lr, ?_, ?_⟩
   · exact hu14
   exact I
  ·
   intro vs f w_ U X le A K I
   have q27 := A.v 7 rfl
   obtain ⟨z12, m12, k12, hu15, q28, r9⟩ := A.sl (a := 15) 9 rfl rfl rfl
   have q29 := A.v 11 rfl
   refine tk_ rfl q27 hc1 (ix_ Tryz.underlying23 fn_ r9 hx3 q28 q29 (⟨_, _, rfl, lr, ?_, ?_⟩))
   ·
    show (af_ (Value.slice z12 m12 k12) (a1.Lock) (Enc.sz (List Int))) = (af_ (vs 15) (a1.Lock) (Enc.sz (List Int)))
    simp only [hu15] <;> rfl
   exact I
  ·
   intro vs f w_ U X le A K I
   have q30 := A.v 7 rfl
   obtain ⟨z13, m13, k13, hu16, q31, r10⟩ := A.sl (a := 15) 9 rfl rfl rfl
   have q32 := A.v 11 rfl
   have q33 : f 23 = (af_ (vs 15) (a1.Lock) (Enc.sz (List Int))) := A.v 12 rfl
   simp only [hu16] at q33
   have q33 : f 23 = (af_ (Value.slice z13 m13 k13) (a1.Lock) (Enc.sz (List Int))) := q33
   refine tk_ rfl q30 hc1 (ay_ rfl fn_ q33 (r10.elem I.in_ hx3) (fun u17 hu17 => ?_))
   obtain ⟨z14, m14, k14, rfl⟩ := ac_ hu17
   refine ⟨_, _, rfl, lr, ?_, ?_⟩
   · exact hu17
   exact I
  ·
   intro vs f w_ U X le A K I
   have q35 := A.v 7 rfl
   have q36 := A.v 8 rfl
   refine tk_ rfl q35 hc1 (ay_ rfl lk_ q36 (((p2.mono le).at_ I).fld Aid.fld1) (fun u18 hu18 => ?_))
   obtain ⟨c6, e18, r11⟩ := Clue.inv hu18
   subst e18
   obtain ⟨z15, m15, k15, rfl⟩ := ac_ r11
   refine ⟨_, _, rfl, lr, ?_, ?_⟩
   · exact (Clue.rv (s := a1.Clue) r11)
   exact I
  ·
   intro vs f w_ U X le A K I
   obtain ⟨z16, m16, k16, hu19, q39, r12⟩ := A.sl (a := 19) 19 rfl rfl rfl
   have q40 : f 26 = vs 21 := (A.at_ 21 rfl _ rfl).1 _ rfl
   have r13 : RV U (vs 21) a1.Clue := (A.at_ 21 rfl _ rfl).2
   obtain ⟨u20, hu20⟩ : ∃ u, vs 21 = u := ⟨_, rfl⟩
   rw [hu20] at q40 r13
   obtain ⟨c7, e21, r14⟩ := Clue.inv r13
   subst e21
   obtain ⟨z17, m17, k17, rfl⟩ := ac_ r14
   refine tk_ rfl (A.v 7 rfl) hc1 (cv_ ca69 rfl I (fun Fr_ hF_ => pn_ hF_ (CodeLock.rv (s := x2)) r12 (Clue.rv (s := a1.Clue) r14) hx4) (cf_ (A.v 13 rfl) q39 q40) (fun w30 I32 => (fo I32)))
  ·
   intro vs f w_ U X le A K I
   refine pl_ rfl (bn_ (v := (vb x4)) rfl (A.v 23 rfl) (fo I))
  intro vs26 f w33 S28 ed1 le28 hF1 hK26 hI26
  have I35 : Inv w33 S28 (Fr) := hI26
  have q44 := hF1.v 24 rfl
  refine ak_ ?_
  obtain rfl := sj h
  exact ⟨(ed1.trans rfl), (vb x4), (bo_ rfl q44), _, [], ((le1.trans le2).trans le28), I35, rfl, rfl⟩
 refine bj_ (sps := [spV 5 [] 0 (an_ (pt_ g2) 0), spV 6 [0] 1 (vi a1.Lock), spV 7 [] 2 (an_ (pt_ g1) 0), spR 8 [2] 3 (a0.Locks), spV 9 [2, 3] 4 (vi ((a0.Locks.length : Int))), spV 10 [2, 3, 4] 5 (vi (w64 ((a0.Locks.length : Int) - 1))), spV 11 (lrg 6) 6 (vb x1), spV 12 (lrg 7) 7 (vb x1), spV 13 (lrg 8) 8 undef, spV 14 (lrg 9) 9 undef, spV 15 (lrg 8) 10 undef, spV 16 (lrg 8 ++ [10]) 11 undef, spV 17 (lrg 12) 12 undef, spV 18 (lrg 13) 13 undef, spV 19 (lrg 8) 14 undef, spV 20 (lrg 8 ++ [14]) 15 undef, spV 21 (lrg 8) 16 undef, spV 22 (lrg 8 ++ [16]) 17 undef, spV 23 (lrg 8 ++ [14, 15, 16, 17]) 18 undef, spV 24 (lrg 8 ++ [14, 15, 16, 17, 18]) 19 undef, spV 25 (lrg 8) 20 undef, spV 26 (lrg 8 ++ [20]) 21 undef, spV 27 (lrg 22) 22 undef, spV 28 (lrg 23) 23 (vb false), spV 4 (lrg 24) 24 (vb false)]) (tks := []) (O := Fr) rfl (by kernel_rfl) I4 ⟨ob_ rfl fun l A K I => (ae_ rfl fq_ (K 3 (ag_ rfl)) ((p2.mono l).at_ I) (fo I)), ob_ rfl fun l A K I => (aj_ rfl sh3 (A.v 0 rfl) (((p2.mono l).at_ I).fld Aid.fld0) (fo I)), ob_ rfl fun l A K I => (ae_ rfl co_ (K 2 (ag_ rfl)) ((p1.mono (le2.trans l)).at_ I) (fo I)), ?_, ?_, ob_ rfl fun l A K I => (eb_ rfl (A.v 2 rfl) rfl (fo I)), fun vs f w U X l A K I => pl_ rfl (cv_ ca55 rfl I (fun Fr_ hF_ => ch_ hF_  hx1) (cf_ (A.v 1 rfl) rfl (A.v 5 rfl)) (fun w42 I44 => (fo I44))), ob_ rfl fun l A K I => (aq_ rfl (A.v 6 rfl) (fo I)), oc_ fun l A K I => sk_ rfl (A.v 7 rfl) hc1 (fo I), oc_ fun l A K I => sk_ rfl (A.v 7 rfl) hc1 (fo I), oc_ fun l A K I => sk_ rfl (A.v 7 rfl) hc1 (fo I), oc_ fun l A K I => sk_ rfl (A.v 7 rfl) hc1 (fo I), oc_ fun l A K I => sk_ rfl (A.v 7 rfl) hc1 (fo I), oc_ fun l A K I => sk_ rfl (A.v 7 rfl) hc1 (fo I), oc_ fun l A K I => sk_ rfl (A.v 7 rfl) hc1 (fo I), oc_ fun l A K I => sk_ rfl (A.v 7 rfl) hc1 (fo I), oc_ fun l A K I => sk_ rfl (A.v 7 rfl) hc1 (fo I), oc_ fun l A K I => sk_ rfl (A.v 7 rfl) hc1 (fo I), oc_ fun l A K I => sk_ rfl (A.v 7 rfl) hc1 (fo I), oc_ fun l A K I => sk_ rfl (A.v 7 rfl) hc1 (fo I), oc_ fun l A K I => sk_ rfl (A.v 7 rfl) hc1 (fo I), oc_ fun l A K I => sk_ rfl (A.v 7 rfl) hc1 (fo I), oc_ fun l A K I => sk_ rfl (A.v 7 rfl) hc1 (fo I), ob_ rfl fun l A K I => (ap_ (b := (vb false)) rfl (A.v 7 rfl) hc1 rfl (fo I)), ?_, trivial⟩ ?_
 ·
  intro vs f w_ U X le A K I
  have q46 := A.v 0 rfl
  refine pl_ rfl (ay_ rfl mh_ q46 (((p1.mono (le2.trans le)).at_ I).fld Riddle.fld0) (fun u22 hu22 => ?_))
  obtain ⟨z18, m18, k18, rfl⟩ := ac_ hu22
  refine ⟨_, _, rfl, lr, ?_, ?_⟩
  · exact hu22
  exact I
 ·
  intro vs f w_ U X le A K I
  obtain ⟨z19, m19, k19, hu23, q47, r15⟩ := A.sl (a := 3) 1 rfl rfl rfl
  refine pl_ rfl (az_ rfl Tryz.underlying22 q47 r15 (fo I))
 ·
  intro vs f w_ U X le A K I
  refine pl_ rfl (bn_ (v := (vb false)) rfl (A.v 23 rfl) (fo I))
 intro vs52 f w61 S54 ed2 le54 hF2 hK52 hI52
 have I63 : Inv w61 S54 (Fr) := hI52
 have q84 := hF2.v 24 rfl
 refine ak_ ?_
 obtain rfl := sj h
 exact ⟨(ed2.trans rfl), (vb false), (bo_ rfl q84), _, [], ((le1.trans le2).trans le54), I63, rfl, rfl⟩
theorem nm_ {w : World} {S : PH} {Fr : List HP} {a0 : Riddle} {v0 : Value} {a1 : Int} {r : Bool} (hI : Inv w S (Fr)) (h0_ : RV S v0 a0) (h : mu_ a0 a1 = some r) :
    Calls Tryz.prog 77 [v0, (Value.int .i64 (a1))].toArray w (bw_ S Fr (Value.bool (r))) := by
 unfold mu_ at h
 obtain ⟨c1, c2, c3, c4, e1, r1, r2, r3, r4⟩ := Riddle.inv h0_
 subst e1
 obtain ⟨z1, m1, k1, rfl⟩ := ac_ r1
 obtain ⟨z2, m2, k2, rfl⟩ := ac_ r2
 obtain ⟨z3, m3, k3, rfl⟩ := ac_ r3
 obtain ⟨z4, m4, k4, rfl⟩ := ac_ r4
 refine ao_ (n := 12) Tryz.func77 rfl rfl rfl (ab_ (aa_ (wo_ (bi_ (v := (.agg #[(.slice z1 m1 k1), (.slice z2 m2 k2), (.slice z3 m3 k3), (.slice z4 m4 k4)])) rfl hI rfl (fun g1 w1 I1 => ?_)))))
 obtain ⟨S1, le1, I2, p1⟩ := Inv.boxFreeze (x := a0) I1 (Riddle.rv (s := a0) r1 r2 r3 r4)
 refine wa_ (v := (vb false)) rfl rfl (ad_ (ab_ (aa_ (wo_ (fa_ fk_ (p1.at_ I2) rfl (wo_ (ld_ sb_ ((p1.at_ I2).fld Riddle.fld2) rfl (fun u1 hu1 => ?_))))))))
 obtain ⟨z5, m5, k5, rfl⟩ := ac_ hu1
 refine wm_ (v := (vi a1)) rfl rfl ?_
 obtain ⟨x1, hx1, h⟩ := bnd h
 refine wo_ (ix_ Tryz.underlying24 ng_ hu1 hx1 rfl rfl (wo_ (ld_ ng_ (hu1.elem I2.in_ hx1) rfl (fun u2 hu2 => ?_))))
 obtain ⟨z6, m6, k6, rfl⟩ := ac_ hu2
 refine wo_ (az_ rfl Tryz.underlying63 rfl hu2 (wo_ (mx_ rfl rfl rfl (wa_ (v := (vb (decide (20 ≤ (x1.length : Int))))) rfl rfl (ad_ (ak_ ?_))))))
 obtain rfl := sj h
 exact ⟨rfl, (vb (decide (20 ≤ (x1.length : Int)))), (bo_ rfl rfl), _, [], le1, I2, rfl, rfl⟩
theorem lr_ {w : World} {S : PH} {Fr : List HP} {a0 : (List Clue)} {v0 : Value} {r : (List Clue)} (hI : Inv w S (Fr)) (h0_ : RV S v0 a0) (h : eg_ a0 = some r) :
    Calls Tryz.prog 79 [v0].toArray w (lp_ S Fr (fun T_ v_ O_ => ∃ (a0_ : Option Addr) (n0_ k0_ : Nat), v_ = (Value.slice a0_ n0_ k0_) ∧ O_ = [Row (α := Clue) 30 (Value.slice a0_ n0_ k0_) (r)])) := by
 unfold eg_ at h
 obtain ⟨z1, m1, k1, rfl⟩ := ac_ h0_
 refine ao_ (n := 25) Tryz.func79 rfl rfl rfl (ab_ (aa_ (wa_ (v := sn) rfl rfl (ad_ (ab_ (aa_ (wa_ (v := sn) rfl rfl (ad_ (ab_ (ab_ (aa_ (wa_ (v := (vi 0)) rfl rfl (ad_ ?_)))))))))))))
 have hk1 : a0.length ≤ 9223372036854775807 := (cx_ h0_)
 have I29 := Inv.rowNil (α := Clue) (T := 30) hI
 obtain ⟨out1, hrun1, h⟩ := bnd h
 refine bp_ (fun f w => ∃ (S_ : PH) (z17 : Option Addr) (m17 k17 : Nat), S.Le S_ ∧ Inv w S_ (Row (α := Clue) 30 (.slice z17 m17 k17) (out1) :: Fr) ∧ f 0 = (.slice z1 m1 k1) ∧ f 3 = (.slice z17 m17 k17) ∧ f.ds = []) ?_ ?_
 ·
  refine au_ ?_
  refine da_ (I := fun (i1 : Nat) (s1 : (List Clue)) (f : Frm) (w : World) => ∃ (S_ : PH) (z16 : Option Addr) (m16 k16 : Nat), S.Le S_ ∧ Inv w S_ (Row (α := Clue) 30 (.slice z16 m16 k16) (s1) :: Fr) ∧ f 0 = (.slice z1 m1 k1) ∧ f 3 = (.slice z16 m16 k16) ∧ f 4 = (vi (i1 : Int)) ∧ f.ds = []) hrun1 ⟨_, _, _, _, lr, I29, rfl, rfl, rfl, rfl⟩ ?_ ?_
  ·
   rintro i1 s1 f w o1 hlt1 hI1 h1
   obtain ⟨S6, z16, m16, k16, le6, I30, e26, e27, e28, ed4⟩ := hI1
   refine ab_ (ab_ (aa_ (wm_ rfl e28 (wm_ rfl e26 (wo_ (az_ rfl Tryz.underlying63 rfl (h0_.mono le6) (wo_ (be_ rfl rfl rfl (ad_ (ah_ rfl (eo_ hlt1) (ar_ (ab_ (au_ (ab_ (aa_ (wm_ rfl e26 (wm_ rfl e28 ?_)))))))))))))))))
   obtain ⟨x10, hx10, h1⟩ := bnd h1
   refine wo_ (ix_ Tryz.underlying63 lk_ (h0_.mono le6) hx10 rfl rfl (wo_ (ld_ lk_ ((h0_.mono le6).elem I30.in_ hx10) rfl (fun u13 hu4 => ?_))))
   obtain ⟨c4, e29, r7⟩ := Clue.inv hu4
   subst e29
   obtain ⟨z18, m18, k18, rfl⟩ := ac_ r7
   refine wo_ (bu_ (z := (.agg #[(vi 0), (vi 0), (vi 0), (vi 0), (vi 0), sn, (vb false)])) rfl I30 zo30 (fun g4 w19 (I31 : Inv w19 S6 (am_ g4 30 #[(vi 0), (vi 0), (vi 0), (vi 0), (vi 0), sn, (vb false)] :: Row (α := Clue) 30 (.slice z16 m16 k16) (s1) :: Fr)) => (wo_ (bb_ (v := (.agg #[(vi x10.Kind), (vi x10.A), (vi x10.B), (vi x10.N), (vi x10.M), (.slice z18 m18 k18), (vb x10.Not)])) (cs := #[(vi 0), (vi 0), (vi 0), (vi 0), (vi 0), sn, (vb false)]) lk_ I31 rfl rfl rfl nb rfl (fun w20 (I32 : Inv w20 S6 (am_ g4 30 #[(vi x10.Kind), (vi x10.A), (vi x10.B), (vi x10.N), (vi x10.M), (.slice z18 m18 k18), (vb x10.Not)] :: Row (α := Clue) 30 (.slice z16 m16 k16) (s1) :: Fr)) => (ad_ (ab_ (aa_ (wo_ (av_ (v := (pt_ g4)) rfl kf_ rfl rfl (wo_ (bd_ (c := (.slice z18 m18 k18)) rfl fn_ (I32.nth 0 rfl) rfl rfl ?_))))))))))))
   have I33 := Inv.rowNil (α := Int) (T := 3) I32
   obtain ⟨x11, hx11, h1⟩ := bnd h1
   refine wo_ (bt_ (α := Int) (v := sn) (u := (.slice z18 m18 k18)) rfl rfl Tryz.underlying28 el3 (by decide) (by decide) rfl rfl I33 (r7.src I33.in_) hx11 (fun u14 w21 I34 => ?_))
   obtain ⟨z19, m19, k19, e31⟩ := bc_ I34
   subst e31
   refine wo_ (av_ (v := (pt_ g4)) rfl kf_ rfl rfl (wo_ (bb_ (v := (.slice z19 m19 k19)) (cs := #[(vi x10.Kind), (vi x10.A), (vi x10.B), (vi x10.N), (vi x10.M), (.slice z18 m18 k18), (vb x10.Not)]) fn_ (I34.pull 1) rfl rfl rfl nb rfl (fun w22 (I35 : Inv w22 S6 (am_ g4 30 #[(vi x10.Kind), (vi x10.A), (vi x10.B), (vi x10.N), (vi x10.M), (.slice z19 m19 k19), (vb x10.Not)] :: Row (α := Int) 3 (.slice z19 m19 k19) (x11) :: Row (α := Clue) 30 (.slice z16 m16 k16) (s1) :: Fr)) => (ad_ (aa_ (wm_ rfl e27 (wo_ (el_ (l := [(vi x10.Kind), (vi x10.A), (vi x10.B), (vi x10.N), (vi x10.M), (.slice z19 m19 k19), (vb x10.Not)]) rfl lk_ (I35.nth 0 rfl) rfl rfl rfl ?_)))))))))
   obtain ⟨S7, le7, I36, r8⟩ := Inv.rowFreeze (I35.pull 1)
   refine wo_ (bf_ (vs := [(.agg #[(vi x10.Kind), (vi x10.A), (vi x10.B), (vi x10.N), (vi x10.M), (.slice z19 m19 k19), (vb x10.Not)])]) (r := ([(⟨x10.Kind, x10.A, x10.B, x10.N, x10.M, x11, x10.Not⟩ : Clue)] : List Clue)) rfl Tryz.underlying63 el30 (fc_ rfl) rfl (by decide) (by decide) ⟨(Clue.rv (s := (⟨x10.Kind, x10.A, x10.B, x10.N, x10.M, x11, x10.Not⟩ : Clue)) r8), trivial⟩ I36 (fun u15 w23 I37 => ?_))
   obtain ⟨z20, m20, k20, e32⟩ := bc_ I37
   subst e32
   obtain ⟨x12, hx12, h1⟩ := bnd h1
   refine wo_ (bt_ (α := Clue) (v := (.slice z16 m16 k16)) (u := (.slice z20 m20 k20)) rfl rfl Tryz.underlying63 el30 (by decide) (by decide) rfl rfl (I37.pull 2) (Inv.rowSrc (I37.nth 0 rfl)) hx12 (fun u16 w24 I38 => ?_))
   obtain ⟨z21, m21, k21, e33⟩ := bc_ I38
   subst e33
   refine wa_ (v := (.slice z21 m21 k21)) rfl rfl (ad_ (aa_ (wm_ rfl e28 (wo_ (bl_ rfl rfl rfl (wa_ (v := (vi (w64 ((i1 : Int) + 1)))) rfl rfl (ad_ ?_)))))))
   obtain rfl := sj h1
   exact ⟨_, _, _, _, (le6.trans le7), ((I38.pull 1).drop.pull 1).drop, e26, rfl, (bh_ hlt1 hk1), ed4⟩
  rintro f w hI2
  obtain ⟨S8, z22, m22, k22, le8, I39, e34, e35, e36, ed5⟩ := hI2
  refine ab_ (ab_ (aa_ (wm_ rfl e36 (wm_ rfl e34 (wo_ (az_ rfl Tryz.underlying63 rfl (h0_.mono le8) (wo_ (be_ rfl rfl rfl (ad_ (ai_ rfl (ep_ _) (bk_ ?_)))))))))))
  exact ⟨_, _, _, _, le8, I39, e34, e35, ed5⟩
 rintro f w ⟨S9, z17, m17, k17, le9, I40, e37, e38, ed6⟩
 refine ab_ (aa_ (wm_ rfl e38 (wa_ (v := (.slice z17 m17 k17)) rfl rfl (ad_ (ak_ ?_)))))
 obtain rfl := sj h
 exact ⟨ed6, (.slice z17 m17 k17), (bo_ rfl rfl), _, [Row (α := Clue) 30 (.slice z17 m17 k17) (out1)], le9, I40, _, _, _, rfl, rfl⟩
theorem xf_ {w : World} {S : PH} {Fr : List HP} {a0 : Riddle} {v0 : Value} {r : Riddle} (hI : Inv w S (Fr)) (h0_ : RV S v0 a0) (h : mv_ a0 = some r) :
    Calls Tryz.prog 78 [v0].toArray w (lp_ S Fr (fun T_ v_ O_ => ∃ (c0_0 : Value) (c0_1 : Value) (a0_2 : Option Addr) (n0_2 k0_2 : Nat) (w0_2 : List Raw) (c0_3 : Value), v_ = (Value.agg #[c0_0, c0_1, (Value.slice a0_2 n0_2 k0_2), c0_3]) ∧ O_ = [fe_ (α := Clue) 63 30 (Value.slice a0_2 n0_2 k0_2) w0_2 (r.Known)] ∧ RV T_ c0_0 (r.Locks) ∧ RV T_ c0_1 (r.Codes) ∧ w0_2.length = (r.Known).length ∧ RV T_ c0_3 (r.Ties))) := by
 unfold mv_ at h
 obtain ⟨c1, c2, c3, c4, e1, r1, r2, r3, r4⟩ := Riddle.inv h0_
 subst e1
 obtain ⟨z1, m1, k1, rfl⟩ := ac_ r1
 obtain ⟨z2, m2, k2, rfl⟩ := ac_ r2
 obtain ⟨z3, m3, k3, rfl⟩ := ac_ r3
 obtain ⟨z4, m4, k4, rfl⟩ := ac_ r4
 refine ao_ (n := 50) Tryz.func78 rfl rfl rfl (ab_ (aa_ (wo_ (bi_ (v := (.agg #[(.slice z1 m1 k1), (.slice z2 m2 k2), (.slice z3 m3 k3), (.slice z4 m4 k4)])) rfl hI rfl (fun g1 w1 I1 => ?_)))))
 obtain ⟨S1, le1, I2, p1⟩ := Inv.boxFreeze (x := a0) I1 (Riddle.rv (s := a0) r1 r2 r3 r4)
 refine wo_ (bu_ (z := (.agg #[sn, sn, sn, sn])) rfl I2 zo27 (fun g2 w2 (I3 : Inv w2 S1 (am_ g2 27 #[sn, sn, sn, sn] :: Fr)) => (ad_ (ab_ ?_))))
 obtain ⟨x1, hx1, h⟩ := bnd h
 obtain ⟨x2, hx2, h⟩ := bnd h
 refine bj_ (sps := [spV 6 [] 0 (an_ (pt_ g1) 0), spR 7 [0] 1 (a0.Locks), ⟨some 8, [0, 1], [2], fun vs_ T_ => ∃ a_ n_ k_, fr0 vs_ 0 = Value.slice a_ n_ k_, [], [], [0], fun _ h_ => h_⟩, spV 9 [] 3 (an_ (pt_ g1) 3), spR 10 [3] 4 (a0.Ties), ⟨some 11, [0, 1, 2, 3, 4], [5], fun vs_ T_ => ∃ a_ n_ k_, fr0 vs_ 0 = Value.slice a_ n_ k_, [], [], [1], fun _ h_ => h_⟩, spW 12 (lrg 6) [6, 2, 5] fun vs_ => (.agg #[(fr0 vs_ 1), sn, sn, (fr0 vs_ 2)]), ⟨some 3, [], [7], fun vs_ T_ => ∃ g_, fr0 vs_ 0 = Value.pointer (some ⟨g_, 0, none⟩), [], [], [2], fun _ h_ => h_⟩, ⟨none, (lrg 8), [], fun vs_ T_ => True, [0, 1], [2], [3], fun _ h_ => h_⟩]) (tks := [⟨some 2, none, [2], fun vs_ => Row (α := CodeLock) 62 (fr0 vs_ 0) (x1)⟩, ⟨some 5, none, [5], fun vs_ => Row (α := Tie) 75 (fr0 vs_ 0) (x2)⟩, ⟨some 7, some 8, [7], fun vs_ => am_ (cj_ (fr0 vs_ 0)) 27 #[sn, sn, sn, sn]⟩, ⟨some 8, none, [2, 5, 7], fun vs_ => am_ (cj_ (fr0 vs_ 2)) 27 #[(fr0 vs_ 0), sn, sn, (fr0 vs_ 1)]⟩]) (O := am_ g2 27 #[sn, sn, sn, sn] :: Fr) rfl (by kernel_rfl) I3 ⟨ob_ rfl fun l A K I => (ae_ rfl co_ (K 1 (ag_ rfl)) ((p1.mono l).at_ I) (fo I)), ?_, ?_, ob_ rfl fun l A K I => (ae_ rfl nv_ (K 1 (ag_ rfl)) ((p1.mono l).at_ I) (fo I)), ?_, ?_, ?_, fun vs f w U X l A K I => pl_ rfl (bu_ (z := (.agg #[sn, sn, sn, sn])) rfl I zo27 (fun g3 w17 (I22 : Inv w17 U (am_ g3 27 #[sn, sn, sn, sn] :: X)) => ⟨_, _, rfl, lr, ⟨_, rfl⟩, I22⟩)), ?_, trivial⟩ ?_
 ·
  intro vs f w_ U X le A K I
  have q1 := A.v 0 rfl
  refine pl_ rfl (ay_ rfl mh_ q1 (((p1.mono le).at_ I).fld Riddle.fld0) (fun u5 hu3 => ?_))
  obtain ⟨z5, m5, k5, rfl⟩ := ac_ hu3
  refine ⟨_, _, rfl, lr, ?_, ?_⟩
  · exact hu3
  exact I
 ·
  intro vs f w_ U X le A K I
  obtain ⟨z6, m6, k6, hu4, q2, r5⟩ := A.sl (a := 1) 1 rfl rfl rfl
  have I13 := Inv.rowNil (α := CodeLock) (T := 62) I
  refine pl_ rfl (bt_ (α := CodeLock) (v := sn) (u := (.slice z6 m6 k6)) rfl rfl Tryz.underlying22 el62 (by decide) (by decide) rfl q2 I13 (r5.src I13.in_) hx1 (fun u7 w10 I14 => ?_))
  obtain ⟨z7, m7, k7, e8⟩ := bc_ I14
  subst e8
  refine ⟨_, _, rfl, lr, ?_, ?_⟩
  · exact ⟨_, _, _, rfl⟩
  exact I14
 ·
  intro vs f w_ U X le A K I
  have q3 := A.v 0 rfl
  refine pl_ rfl (ay_ rfl sh25 q3 (((p1.mono le).at_ I).fld Riddle.fld3) (fun u8 hu5 => ?_))
  obtain ⟨z8, m8, k8, rfl⟩ := ac_ hu5
  refine ⟨_, _, rfl, lr, ?_, ?_⟩
  · exact hu5
  exact I
 ·
  intro vs f w_ U X le A K I
  obtain ⟨z9, m9, k9, hu6, q4, r6⟩ := A.sl (a := 4) 4 rfl rfl rfl
  have I18 := Inv.rowNil (α := Tie) (T := 75) I
  refine pl_ rfl (bt_ (α := Tie) (v := sn) (u := (.slice z9 m9 k9)) rfl rfl Tryz.underlying25 el75 (by decide) (by decide) rfl q4 I18 (r6.src I18.in_) hx2 (fun u10 w14 I19 => ?_))
  obtain ⟨z10, m10, k10, e11⟩ := bc_ I19
  subst e11
  refine ⟨_, _, rfl, lr, ?_, ?_⟩
  · exact ⟨_, _, _, rfl⟩
  exact I19
 ·
  intro vs f w_ U X le A K I
  obtain ⟨z11, m11, k11, e12⟩ := (A.at_ 2 rfl _ rfl).2
  have q5 : f 8 = Value.slice z11 m11 k11 := ((A.at_ 2 rfl _ rfl).1 _ rfl).trans e12
  have e12 : vs 2 = (Value.slice z11 m11 k11) := e12
  obtain ⟨z12, m12, k12, e13⟩ := (A.at_ 5 rfl _ rfl).2
  have q6 : f 11 = Value.slice z12 m12 k12 := ((A.at_ 5 rfl _ rfl).1 _ rfl).trans e13
  have e13 : vs 5 = (Value.slice z12 m12 k12) := e13
  refine pl_ rfl (hl_ (qs := [(0, #[(.slice z11 m11 k11)]), (3, #[(.slice z12 m12 k12)])]) (c := #[(.slice z11 m11 k11), sn, sn, (.slice z12 m12 k12)]) rfl st27 ⟨rfl, (ty_ q5 rfl), ⟨rfl, (ty_ q6 rfl), trivial⟩⟩ rfl (⟨_, _, rfl, lr, ?_, ?_⟩))
  ·
   show (Value.agg #[(Value.slice z11 m11 k11), sn, sn, (Value.slice z12 m12 k12)]) = (Value.agg #[(vs 2), sn, sn, (vs 5)])
   simp only [e12, e13] <;> rfl
  exact I
 ·
  intro vs f w_ U X le A K I
  have I23 : Inv w_ U (am_ (cj_ (vs 7)) 27 #[sn, sn, sn, sn] :: Row (α := CodeLock) 62 (vs 2) (x1) :: Row (α := Tie) 75 (vs 5) (x2) :: X) := I
  obtain ⟨z13, m13, k13, e14⟩ := (A.at_ 2 rfl _ rfl).2
  have q7 : f 8 = Value.slice z13 m13 k13 := ((A.at_ 2 rfl _ rfl).1 _ rfl).trans e14
  have e14 : vs 2 = (Value.slice z13 m13 k13) := e14
  have I24 := I23
  rw [e14] at I24
  obtain ⟨z14, m14, k14, e15⟩ := (A.at_ 5 rfl _ rfl).2
  have q8 : f 11 = Value.slice z14 m14 k14 := ((A.at_ 5 rfl _ rfl).1 _ rfl).trans e15
  have e15 : vs 5 = (Value.slice z14 m14 k14) := e15
  have I25 := I24
  rw [e15] at I25
  have q9 : f 12 = (Value.agg #[(vs 2), sn, sn, (vs 5)]) := A.v 6 rfl
  simp only [e14, e15] at q9
  have q9 : f 12 = (Value.agg #[(Value.slice z13 m13 k13), sn, sn, (Value.slice z14 m14 k14)]) := q9
  obtain ⟨g4, e16⟩ := (A.at_ 7 rfl _ rfl).2
  have q10 : f 3 = Value.pointer (some ⟨g4, 0, none⟩) := ((A.at_ 7 rfl _ rfl).1 _ rfl).trans e16
  have e16 : vs 7 = Value.pointer (some ⟨g4, 0, none⟩) := e16
  have I26 := I25
  rw [e16] at I26
  refine pl_ rfl (bb_ (v := (.agg #[(.slice z13 m13 k13), sn, sn, (.slice z14 m14 k14)])) (cs := #[sn, sn, sn, sn]) fr_ I26 q10 q9 rfl nb rfl (fun w19 (I27 : Inv w19 U (am_ (cj_ (pt_ g4)) 27 #[(.slice z13 m13 k13), sn, sn, (.slice z14 m14 k14)] :: Row (α := CodeLock) 62 (.slice z13 m13 k13) (x1) :: Row (α := Tie) 75 (.slice z14 m14 k14) (x2) :: X)) => (⟨undef, _, rfl, lr, ?_, ?_⟩)))
  · exact trivial
  show Inv _ _ (am_ (cj_ (vs 7)) 27 #[(vs 2), sn, sn, (vs 5)] :: Row (α := CodeLock) 62 (vs 2) (x1) :: Row (α := Tie) 75 (vs 5) (x2) :: X)
  simp only [e14, e15, e16]
  exact (((I27.pull 2).pull 2).pull 2)
 intro vs10 f w20 S11 ed1 le11 hF1 hK10 hI10
 have e17 : f 1 = (pt_ g1) := (hK10 1 (al_ rfl)).trans rfl
 have e18 : f 2 = (pt_ g2) := (hK10 2 (al_ rfl)).trans rfl
 have I28 : Inv w20 S11 (Row (α := CodeLock) 62 (vs10 2) (x1) :: Row (α := Tie) 75 (vs10 5) (x2) :: am_ (cj_ (vs10 7)) 27 #[(vs10 2), sn, sn, (vs10 5)] :: am_ g2 27 #[sn, sn, sn, sn] :: Fr) := hI10
 obtain ⟨z15, m15, k15, e19⟩ := (hF1.at_ 2 rfl _ rfl).2
 have q11 : f 8 = Value.slice z15 m15 k15 := ((hF1.at_ 2 rfl _ rfl).1 _ rfl).trans e19
 have e19 : vs10 2 = (Value.slice z15 m15 k15) := e19
 have I29 := I28
 rw [e19] at I29
 obtain ⟨z16, m16, k16, e20⟩ := (hF1.at_ 5 rfl _ rfl).2
 have q12 : f 11 = Value.slice z16 m16 k16 := ((hF1.at_ 5 rfl _ rfl).1 _ rfl).trans e20
 have e20 : vs10 5 = (Value.slice z16 m16 k16) := e20
 have I30 := I29
 rw [e20] at I30
 obtain ⟨g5, e21⟩ := (hF1.at_ 7 rfl _ rfl).2
 have q13 : f 3 = Value.pointer (some ⟨g5, 0, none⟩) := ((hF1.at_ 7 rfl _ rfl).1 _ rfl).trans e21
 have e21 : vs10 7 = Value.pointer (some ⟨g5, 0, none⟩) := e21
 have I31 := I30
 rw [e21] at I31
 refine ab_ (ab_ (aa_ (wa_ (v := (vi 0)) rfl rfl (ad_ ?_))))
 have hk1 : a0.Codes.length ≤ 9223372036854775807 := (cx_ r2)
 have I127 := Inv.rowNil (α := (List Int)) (T := 28) I31
 obtain ⟨out1, hrun1, h⟩ := bnd h
 refine bp_ (fun f w => ∃ (S_ : PH) (z67 : Option Addr) (m67 k67 : Nat), S11.Le S_ ∧ Inv w S_ (am_ g2 27 #[sn, sn, sn, sn] :: am_ (cj_ (pt_ g5)) 27 #[(.slice z15 m15 k15), (.slice z67 m67 k67), sn, (.slice z16 m16 k16)] :: Row (α := CodeLock) 62 (.slice z15 m15 k15) (x1) :: Row (α := (List Int)) 28 (.slice z67 m67 k67) (out1) :: Row (α := Tie) 75 (.slice z16 m16 k16) (x2) :: Fr) ∧ f 1 = (pt_ g1) ∧ f 2 = (pt_ g2) ∧ f 3 = (pt_ g5) ∧ f.ds = []) ?_ ?_
 ·
  refine au_ ?_
  refine da_ (I := fun (i1 : Nat) (s1 : (List (List Int))) (f : Frm) (w : World) => ∃ (S_ : PH) (z66 : Option Addr) (m66 k66 : Nat), S11.Le S_ ∧ Inv w S_ (am_ g2 27 #[sn, sn, sn, sn] :: am_ (cj_ (pt_ g5)) 27 #[(.slice z15 m15 k15), (.slice z66 m66 k66), sn, (.slice z16 m16 k16)] :: Row (α := CodeLock) 62 (.slice z15 m15 k15) (x1) :: Row (α := (List Int)) 28 (.slice z66 m66 k66) (s1) :: Row (α := Tie) 75 (.slice z16 m16 k16) (x2) :: Fr) ∧ f 1 = (pt_ g1) ∧ f 2 = (pt_ g2) ∧ f 3 = (pt_ g5) ∧ f 4 = (vi (i1 : Int)) ∧ f.ds = []) hrun1 ⟨_, _, _, _, lr, (((((I127.pull 2).pull 1).pull 2).pull 3).pull 4), e17, e18, q13, rfl, (ed1.trans rfl)⟩ ?_ ?_
  ·
   rintro i1 s1 f w o1 hlt1 hI50 h1
   obtain ⟨S59, z66, m66, k66, le59, I128, e93, e94, e95, e96, ed8⟩ := hI50
   refine ab_ (ab_ (aa_ (wm_ rfl e96 (wo_ (ae_ rfl hi_ e93 ((p1.mono (le11.trans le59)).at_ I128) (wo_ (ld_ lq_ (((p1.mono (le11.trans le59)).at_ I128).fld Riddle.fld1) rfl (fun u59 hu37 => ?_))))))))
   obtain ⟨z69, m69, k69, rfl⟩ := ac_ hu37
   refine wo_ (az_ rfl Tryz.underlying23 rfl hu37 (wo_ (be_ rfl rfl rfl (ad_ (ah_ rfl (eo_ hlt1) (ar_ (ab_ (au_ ?_))))))))
   obtain ⟨x12, hx12, h1⟩ := bnd h1
   obtain ⟨x13, hx13, h1⟩ := bnd h1
   obtain ⟨x14, hx14, h1⟩ := bnd h1
   refine bj_ (sps := [spV 20 [] 0 (.pointer (some ⟨g5, 1, none⟩)), ⟨some 21, [0], [1], fun vs_ T_ => fr0 vs_ 0 = (.slice z66 m66 k66), [0], [], [], fun _ h_ => h_⟩, spV 22 [] 2 (an_ (pt_ g1) 1), spR 23 [2] 3 (a0.Codes), spV 24 [] 4 (vi (i1 : Int)), spW 25 [2, 3, 4] [5, 3] fun vs_ => (af_ (fr0 vs_ 1) ((i1 : Int)) (Enc.sz (List Int))), spR 26 [2, 3, 4, 5] 6 x12, ⟨some 27, [2, 3, 4, 5, 6], [7], fun vs_ T_ => ∃ a_ n_ k_, fr0 vs_ 0 = Value.slice a_ n_ k_, [], [], [1], fun _ h_ => h_⟩, ⟨some 28, [2, 3, 4, 5, 6, 7], [8], fun vs_ T_ => ∃ a_ n_ k_, fr0 vs_ 0 = Value.slice a_ n_ k_, [], [1], [2], fun _ h_ => h_⟩, ⟨some 29, (lrg 9), [9], fun vs_ T_ => ∃ a_ n_ k_, fr0 vs_ 0 = Value.slice a_ n_ k_, [2], [3], [4], fun _ h_ => h_⟩, spV 30 (lrg 10) 10 (.pointer (some ⟨g5, 1, none⟩)), ⟨none, (lrg 11), [], fun vs_ T_ => True, [4], [0], [5], fun _ h_ => h_⟩]) (tks := [⟨none, some 11, [], fun vs_ => am_ (cj_ (pt_ g5)) 27 #[(.slice z15 m15 k15), (.slice z66 m66 k66), sn, (.slice z16 m16 k16)]⟩, ⟨some 7, some 8, [7], fun vs_ => Row (α := Int) 3 (fr0 vs_ 0) (x13)⟩, ⟨some 8, none, [8], fun vs_ => Row (α := (List Int)) 28 (fr0 vs_ 0) (([x13] : List (List Int)))⟩, ⟨none, some 9, [], fun vs_ => Row (α := (List Int)) 28 (.slice z66 m66 k66) (s1)⟩, ⟨some 9, none, [9], fun vs_ => Row (α := (List Int)) 28 (fr0 vs_ 0) (x14)⟩, ⟨some 11, none, [9], fun vs_ => am_ (cj_ (pt_ g5)) 27 #[(.slice z15 m15 k15), (fr0 vs_ 0), sn, (.slice z16 m16 k16)]⟩]) (O := am_ g2 27 #[sn, sn, sn, sn] :: Row (α := CodeLock) 62 (.slice z15 m15 k15) (x1) :: Row (α := Tie) 75 (.slice z16 m16 k16) (x2) :: Fr) rfl (by kernel_rfl) ((I128.pull 3).pull 2) ⟨ob_ rfl fun l A K I => (av_ (v := (pt_ g5)) rfl hi_ ((K 3 (ag_ rfl)).trans e95) rfl (fo I)), ?_, ob_ rfl fun l A K I => (ae_ rfl hi_ ((K 1 (ag_ rfl)).trans e93) ((p1.mono ((le11.trans le59).trans l)).at_ I) (fo I)), ?_, ob_ rfl fun l A K I => (aq_ rfl ((K 4 (ag_ rfl)).trans e96) (fo I)), ?_, ?_, ?_, ?_, ?_, ob_ rfl fun l A K I => (av_ (v := (pt_ g5)) rfl hi_ ((K 3 (ag_ rfl)).trans e95) rfl (fo I)), ?_, trivial⟩ ?_
   ·
    intro vs f w_ U X le A K I
    have I136 : Inv w_ U (am_ (cj_ (pt_ g5)) 27 #[(Value.slice z15 m15 k15), (Value.slice z66 m66 k66), sn, (Value.slice z16 m16 k16)] :: X) := I
    refine pl_ rfl (bd_ (c := (.slice z66 m66 k66)) rfl lq_ (I136.nth 0 rfl) (A.v 0 rfl) rfl (fo I136))
   ·
    intro vs f w_ U X le A K I
    have q60 := A.v 0 rfl
    refine pl_ rfl (ay_ rfl lq_ q60 (((p1.mono ((le11.trans le59).trans le)).at_ I).fld Riddle.fld1) (fun u65 hu40 => ?_))
    obtain ⟨z70, m70, k70, rfl⟩ := ac_ hu40
    refine ⟨_, _, rfl, lr, ?_, ?_⟩
    · exact hu40
    exact I
   ·
    intro vs f w_ U X le A K I
    obtain ⟨z71, m71, k71, hu41, q61, r23⟩ := A.sl (a := 3) 1 rfl rfl rfl
    have q62 := A.v 2 rfl
    refine pl_ rfl (ix_ Tryz.underlying23 fn_ r23 hx12 q61 q62 (⟨_, _, rfl, lr, ?_, ?_⟩))
    ·
     show (af_ (Value.slice z71 m71 k71) ((i1 : Int)) (Enc.sz (List Int))) = (af_ (vs 3) ((i1 : Int)) (Enc.sz (List Int)))
     simp only [hu41] <;> rfl
    exact I
   ·
    intro vs f w_ U X le A K I
    obtain ⟨z72, m72, k72, hu42, q63, r24⟩ := A.sl (a := 3) 1 rfl rfl rfl
    have q64 := A.v 2 rfl
    have q65 : f 25 = (af_ (vs 3) ((i1 : Int)) (Enc.sz (List Int))) := A.v 3 rfl
    simp only [hu42] at q65
    have q65 : f 25 = (af_ (Value.slice z72 m72 k72) ((i1 : Int)) (Enc.sz (List Int))) := q65
    refine pl_ rfl (ay_ rfl fn_ q65 (r24.elem I.in_ hx12) (fun u68 hu43 => ?_))
    obtain ⟨z73, m73, k73, rfl⟩ := ac_ hu43
    refine ⟨_, _, rfl, lr, ?_, ?_⟩
    · exact hu43
    exact I
   ·
    intro vs f w_ U X le A K I
    obtain ⟨z74, m74, k74, hu44, q66, r25⟩ := A.sl (a := 6) 4 rfl rfl rfl
    have I143 := Inv.rowNil (α := Int) (T := 3) I
    refine pl_ rfl (bt_ (α := Int) (v := sn) (u := (.slice z74 m74 k74)) rfl rfl Tryz.underlying28 el3 (by decide) (by decide) rfl q66 I143 (r25.src I143.in_) hx13 (fun u70 w97 I144 => ?_))
    obtain ⟨z75, m75, k75, e104⟩ := bc_ I144
    subst e104
    refine ⟨_, _, rfl, lr, ?_, ?_⟩
    · exact ⟨_, _, _, rfl⟩
    exact I144
   ·
    intro vs f w_ U X le A K I
    have I145 : Inv w_ U (Row (α := Int) 3 (vs 7) (x13) :: X) := I
    obtain ⟨z76, m76, k76, e105⟩ := (A.at_ 5 rfl _ rfl).2
    have q67 : f 27 = Value.slice z76 m76 k76 := ((A.at_ 5 rfl _ rfl).1 _ rfl).trans e105
    have e105 : vs 7 = (Value.slice z76 m76 k76) := e105
    have I146 := I145
    rw [e105] at I146
    obtain ⟨S70, le70, I147, r26⟩ := Inv.rowFreeze I146
    refine pl_ rfl (bf_ (vs := [(.slice z76 m76 k76)]) (r := ([x13] : List (List Int))) rfl Tryz.underlying23 zh_ (fc_ q67) rfl (by decide) (by decide) ⟨r26, trivial⟩ I147 (fun u71 w99 I148 => ?_))
    obtain ⟨z77, m77, k77, e106⟩ := bc_ I148
    subst e106
    refine ⟨_, _, rfl, le70, ?_, ?_⟩
    · exact ⟨_, _, _, rfl⟩
    exact I148
   ·
    intro vs f w_ U X le A K I
    have I149 : Inv w_ U (Row (α := (List Int)) 28 (Value.slice z66 m66 k66) (s1) :: Row (α := (List Int)) 28 (vs 8) (([x13] : List (List Int))) :: X) := I
    have q68 := A.v 1 rfl
    obtain ⟨z78, m78, k78, e107⟩ := (A.at_ 8 rfl _ rfl).2
    have q69 : f 28 = Value.slice z78 m78 k78 := ((A.at_ 8 rfl _ rfl).1 _ rfl).trans e107
    have e107 : vs 8 = (Value.slice z78 m78 k78) := e107
    have I150 := I149
    rw [e107] at I150
    refine pl_ rfl (bt_ (α := (List Int)) (v := (.slice z66 m66 k66)) (u := (.slice z78 m78 k78)) rfl rfl Tryz.underlying23 zh_ (by decide) (by decide) q68 q69 I150 (Inv.rowSrc (I150.nth 1 rfl)) hx14 (fun u72 w101 I151 => ?_))
    obtain ⟨z79, m79, k79, e108⟩ := bc_ I151
    subst e108
    refine ⟨_, _, rfl, lr, ?_, ?_⟩
    · exact ⟨_, _, _, rfl⟩
    show Inv _ _ (Row (α := (List Int)) 28 ((Value.slice z79 m79 k79)) (x14) :: Row (α := (List Int)) 28 (vs 8) (([x13] : List (List Int))) :: X)
    simp only [e107]
    exact ((I151.pull 1).pull 1)
   ·
    intro vs f w_ U X le A K I
    have I153 : Inv w_ U (am_ (cj_ (pt_ g5)) 27 #[(Value.slice z15 m15 k15), (Value.slice z66 m66 k66), sn, (Value.slice z16 m16 k16)] :: Row (α := (List Int)) 28 (vs 9) (x14) :: X) := I
    obtain ⟨z80, m80, k80, e109⟩ := (A.at_ 9 rfl _ rfl).2
    have q70 : f 29 = Value.slice z80 m80 k80 := ((A.at_ 9 rfl _ rfl).1 _ rfl).trans e109
    have e109 : vs 9 = (Value.slice z80 m80 k80) := e109
    have I154 := I153
    rw [e109] at I154
    have q71 := A.v 10 rfl
    refine pl_ rfl (bb_ (v := (.slice z80 m80 k80)) (cs := #[(.slice z15 m15 k15), (.slice z66 m66 k66), sn, (.slice z16 m16 k16)]) lq_ I154 q71 q70 rfl nb rfl (fun w104 (I155 : Inv w104 U (am_ (cj_ (pt_ g5)) 27 #[(.slice z15 m15 k15), (.slice z80 m80 k80), sn, (.slice z16 m16 k16)] :: Row (α := (List Int)) 28 (.slice z80 m80 k80) (x14) :: X)) => (⟨undef, _, rfl, lr, ?_, ?_⟩)))
    · exact trivial
    show Inv _ _ (am_ (cj_ (Value.pointer (some ⟨g5, 0, none⟩))) 27 #[(Value.slice z15 m15 k15), (vs 9), sn, (Value.slice z16 m16 k16)] :: Row (α := (List Int)) 28 (vs 9) (x14) :: X)
    simp only [e109]
    exact ((I155.pull 1).pull 1)
   intro vs62 f w105 S74 ed9 le74 hF5 hK62 hI63
   have e110 : f 1 = (pt_ g1) := (hK62 1 (al_ rfl)).trans e93
   have e111 : f 2 = (pt_ g2) := (hK62 2 (al_ rfl)).trans e94
   have e112 : f 3 = (pt_ g5) := (hK62 3 (al_ rfl)).trans e95
   have e113 : f 4 = (vi ((i1 : Int))) := (hK62 4 (al_ rfl)).trans e96
   have I156 : Inv w105 S74 (Row (α := (List Int)) 28 (vs62 8) (([x13] : List (List Int))) :: Row (α := (List Int)) 28 (vs62 9) (x14) :: am_ (cj_ (pt_ g5)) 27 #[(Value.slice z15 m15 k15), (vs62 9), sn, (Value.slice z16 m16 k16)] :: am_ g2 27 #[sn, sn, sn, sn] :: Row (α := CodeLock) 62 (Value.slice z15 m15 k15) (x1) :: Row (α := Tie) 75 (Value.slice z16 m16 k16) (x2) :: Fr) := hI63
   obtain ⟨z81, m81, k81, e114⟩ := (hF5.at_ 8 rfl _ rfl).2
   have q72 : f 28 = Value.slice z81 m81 k81 := ((hF5.at_ 8 rfl _ rfl).1 _ rfl).trans e114
   have e114 : vs62 8 = (Value.slice z81 m81 k81) := e114
   have I157 := I156
   rw [e114] at I157
   obtain ⟨z82, m82, k82, e115⟩ := (hF5.at_ 9 rfl _ rfl).2
   have q73 : f 29 = Value.slice z82 m82 k82 := ((hF5.at_ 9 rfl _ rfl).1 _ rfl).trans e115
   have e115 : vs62 9 = (Value.slice z82 m82 k82) := e115
   have I158 := I157
   rw [e115] at I158
   refine aa_ (wm_ rfl e113 (wo_ (bl_ rfl rfl rfl (wa_ (v := (vi (w64 ((i1 : Int) + 1)))) rfl rfl (ad_ ?_)))))
   obtain rfl := sj h1
   exact ⟨_, _, _, _, (le59.trans le74), ((((((I158).drop.pull 4).pull 1).pull 4).pull 3).pull 4), e110, e111, e112, (bh_ hlt1 hk1), (ed9.trans ed8)⟩
  rintro f w hI64
  obtain ⟨S75, z83, m83, k83, le75, I159, e116, e117, e118, e119, ed10⟩ := hI64
  refine ab_ (ab_ (aa_ (wm_ rfl e119 (wo_ (ae_ rfl hi_ e116 ((p1.mono (le11.trans le75)).at_ I159) (wo_ (ld_ lq_ (((p1.mono (le11.trans le75)).at_ I159).fld Riddle.fld1) rfl (fun u74 hu46 => ?_))))))))
  obtain ⟨z85, m85, k85, rfl⟩ := ac_ hu46
  refine wo_ (az_ rfl Tryz.underlying23 rfl hu46 (wo_ (be_ rfl rfl rfl (ad_ (ai_ rfl (ep_ _) (bk_ ?_))))))
  exact ⟨_, _, _, _, le75, (((((I159.pull 4).pull 4).pull 4).pull 4).pull 4), e116, e117, e118, ed10⟩
 rintro f w ⟨S76, z67, m67, k67, le76, I160, e122, e123, e124, ed11⟩
 refine ab_ (ab_ (aa_ (wa_ (v := (vi 0)) rfl rfl (ad_ ?_))))
 have hk2 : a0.Known.length ≤ 9223372036854775807 := (cx_ r3)
 have I259 := Inv.gridNil (α := Clue) (To := 63) (Ti := 30) I160
 obtain ⟨out2, hrun2, h⟩ := bnd h
 refine bp_ (fun f w => ∃ (S_ : PH) (z151 : Option Addr) (m151 k151 : Nat) (rw4 : List Raw), S76.Le S_ ∧ Inv w S_ (am_ g2 27 #[sn, sn, sn, sn] :: am_ (cj_ (pt_ g5)) 27 #[(.slice z15 m15 k15), (.slice z67 m67 k67), (.slice z151 m151 k151), (.slice z16 m16 k16)] :: Row (α := CodeLock) 62 (.slice z15 m15 k15) (x1) :: Row (α := (List Int)) 28 (.slice z67 m67 k67) (out1) :: fe_ (α := Clue) 63 30 (.slice z151 m151 k151) (rw4) (out2) :: Row (α := Tie) 75 (.slice z16 m16 k16) (x2) :: Fr) ∧ f 1 = (pt_ g1) ∧ f 2 = (pt_ g2) ∧ f 3 = (pt_ g5) ∧ f.ds = [] ∧ rw4.length = (out2).length) ?_ ?_
 ·
  refine au_ ?_
  refine da_ (I := fun (i2 : Nat) (s2 : (List (List Clue))) (f : Frm) (w : World) => ∃ (S_ : PH) (z150 : Option Addr) (m150 k150 : Nat) (rw3 : List Raw), S76.Le S_ ∧ Inv w S_ (am_ g2 27 #[sn, sn, sn, sn] :: am_ (cj_ (pt_ g5)) 27 #[(.slice z15 m15 k15), (.slice z67 m67 k67), (.slice z150 m150 k150), (.slice z16 m16 k16)] :: Row (α := CodeLock) 62 (.slice z15 m15 k15) (x1) :: Row (α := (List Int)) 28 (.slice z67 m67 k67) (out1) :: fe_ (α := Clue) 63 30 (.slice z150 m150 k150) (rw3) (s2) :: Row (α := Tie) 75 (.slice z16 m16 k16) (x2) :: Fr) ∧ f 1 = (pt_ g1) ∧ f 2 = (pt_ g2) ∧ f 3 = (pt_ g5) ∧ f 5 = (vi (i2 : Int)) ∧ f.ds = [] ∧ rw3.length = (s2).length) hrun2 ⟨_, _, _, _, _, lr, ((((((I259.pull 5).pull 1).pull 5).pull 5).pull 5).pull 5), e122, e123, e124, rfl, ed11, rfl⟩ ?_ ?_
  ·
   rintro i2 s2 f w o2 hlt2 hI104 h3
   obtain ⟨S121, z150, m150, k150, rw3, le121, I260, e208, e209, e210, e211, ed18, hl3⟩ := hI104
   refine ab_ (ab_ (aa_ (wm_ rfl e211 (wo_ (ae_ rfl fk_ e208 ((p1.mono ((le11.trans le76).trans le121)).at_ I260) (wo_ (ld_ sb_ (((p1.mono ((le11.trans le76).trans le121)).at_ I260).fld Riddle.fld2) rfl (fun u117 hu77 => ?_))))))))
   obtain ⟨z153, m153, k153, rfl⟩ := ac_ hu77
   refine wo_ (az_ rfl Tryz.underlying24 rfl hu77 (wo_ (be_ rfl rfl rfl (ad_ (ah_ rfl (eo_ hlt2) (ar_ (ab_ (au_ ?_))))))))
   obtain ⟨x24, hx24, h3⟩ := bnd h3
   obtain ⟨x25, hx25, h3⟩ := bnd h3
   obtain ⟨x26, hx26, h3⟩ := bnd h3
   refine bj_ (sps := [spV 38 [] 0 (.pointer (some ⟨g5, 2, none⟩)), ⟨some 39, [0], [1], fun vs_ T_ => fr0 vs_ 0 = (.slice z150 m150 k150), [0], [], [], fun _ h_ => h_⟩, spV 40 [] 2 (an_ (pt_ g1) 2), spR 41 [2] 3 (a0.Known), spV 42 [] 4 (vi (i2 : Int)), spW 43 [2, 3, 4] [5, 3] fun vs_ => (af_ (fr0 vs_ 1) ((i2 : Int)) (Enc.sz (List Clue))), spR 44 [2, 3, 4, 5] 6 x24, ⟨some 45, [2, 3, 4, 5, 6], [7], fun vs_ T_ => ∃ (a0_ : Option Addr) (n0_ k0_ : Nat), fr0 vs_ 0 = (.slice a0_ n0_ k0_), [], [], [1], fun _ h_ => h_⟩, ⟨some 46, [2, 3, 4, 5, 6, 7], [8], fun vs_ T_ => ∃ a_ n_ k_, fr0 vs_ 0 = Value.slice a_ n_ k_, [], [], [2], fun _ h_ => h_⟩, ⟨some 47, (lrg 9), [9], fun vs_ T_ => ∃ a_ n_ k_, fr0 vs_ 0 = Value.slice a_ n_ k_, [2], [3, 1], [4], fun _ h_ => h_⟩, spV 48 (lrg 10) 10 (.pointer (some ⟨g5, 2, none⟩)), ⟨none, (lrg 11), [], fun vs_ T_ => True, [4], [0], [5], fun _ h_ => h_⟩]) (tks := [⟨none, some 11, [], fun vs_ => am_ (cj_ (pt_ g5)) 27 #[(.slice z15 m15 k15), (.slice z67 m67 k67), (.slice z150 m150 k150), (.slice z16 m16 k16)]⟩, ⟨some 7, some 9, [7], fun vs_ => Row (α := Clue) 30 (fr0 vs_ 0) (x25)⟩, ⟨some 8, none, [7, 8], fun vs_ => Row (α := Raw) 63 (fr0 vs_ 1) (([⟨(fr0 vs_ 0)⟩] : List Raw))⟩, ⟨none, some 9, [], fun vs_ => fe_ (α := Clue) 63 30 (.slice z150 m150 k150) (rw3) (s2)⟩, ⟨some 9, none, [7, 9], fun vs_ => fe_ (α := Clue) 63 30 (fr0 vs_ 1) (rw3 ++ [(⟨(fr0 vs_ 0)⟩ : Raw)]) (x26)⟩, ⟨some 11, none, [9], fun vs_ => am_ (cj_ (pt_ g5)) 27 #[(.slice z15 m15 k15), (.slice z67 m67 k67), (fr0 vs_ 0), (.slice z16 m16 k16)]⟩]) (O := am_ g2 27 #[sn, sn, sn, sn] :: Row (α := CodeLock) 62 (.slice z15 m15 k15) (x1) :: Row (α := (List Int)) 28 (.slice z67 m67 k67) (out1) :: Row (α := Tie) 75 (.slice z16 m16 k16) (x2) :: Fr) rfl (by kernel_rfl) ((I260.pull 4).pull 2) ⟨ob_ rfl fun l A K I => (av_ (v := (pt_ g5)) rfl fk_ ((K 3 (ag_ rfl)).trans e210) rfl (fo I)), ?_, ob_ rfl fun l A K I => (ae_ rfl fk_ ((K 1 (ag_ rfl)).trans e208) ((p1.mono (((le11.trans le76).trans le121).trans l)).at_ I) (fo I)), ?_, ob_ rfl fun l A K I => (aq_ rfl ((K 5 (ag_ rfl)).trans e211) (fo I)), ?_, ?_, ?_, ?_, ?_, ob_ rfl fun l A K I => (av_ (v := (pt_ g5)) rfl fk_ ((K 3 (ag_ rfl)).trans e210) rfl (fo I)), ?_, trivial⟩ ?_
   ·
    intro vs f w_ U X le A K I
    have I267 : Inv w_ U (am_ (cj_ (pt_ g5)) 27 #[(Value.slice z15 m15 k15), (Value.slice z67 m67 k67), (Value.slice z150 m150 k150), (Value.slice z16 m16 k16)] :: X) := I
    refine pl_ rfl (bd_ (c := (.slice z150 m150 k150)) rfl sb_ (I267.nth 0 rfl) (A.v 0 rfl) rfl (fo I267))
   ·
    intro vs f w_ U X le A K I
    have q129 := A.v 0 rfl
    refine pl_ rfl (ay_ rfl sb_ q129 (((p1.mono (((le11.trans le76).trans le121).trans le)).at_ I).fld Riddle.fld2) (fun u122 hu80 => ?_))
    obtain ⟨z156, m156, k156, rfl⟩ := ac_ hu80
    refine ⟨_, _, rfl, lr, ?_, ?_⟩
    · exact hu80
    exact I
   ·
    intro vs f w_ U X le A K I
    obtain ⟨z157, m157, k157, hu81, q130, r36⟩ := A.sl (a := 3) 1 rfl rfl rfl
    have q131 := A.v 2 rfl
    refine pl_ rfl (ix_ Tryz.underlying24 ng_ r36 hx24 q130 q131 (⟨_, _, rfl, lr, ?_, ?_⟩))
    ·
     show (af_ (Value.slice z157 m157 k157) ((i2 : Int)) (Enc.sz (List Clue))) = (af_ (vs 3) ((i2 : Int)) (Enc.sz (List Clue)))
     simp only [hu81] <;> rfl
    exact I
   ·
    intro vs f w_ U X le A K I
    obtain ⟨z158, m158, k158, hu82, q132, r37⟩ := A.sl (a := 3) 1 rfl rfl rfl
    have q133 := A.v 2 rfl
    have q134 : f 43 = (af_ (vs 3) ((i2 : Int)) (Enc.sz (List Clue))) := A.v 3 rfl
    simp only [hu82] at q134
    have q134 : f 43 = (af_ (Value.slice z158 m158 k158) ((i2 : Int)) (Enc.sz (List Clue))) := q134
    refine pl_ rfl (ay_ rfl ng_ q134 (r37.elem I.in_ hx24) (fun u125 hu83 => ?_))
    obtain ⟨z159, m159, k159, rfl⟩ := ac_ hu83
    refine ⟨_, _, rfl, lr, ?_, ?_⟩
    · exact hu83
    exact I
   ·
    intro vs f w_ U X le A K I
    obtain ⟨z160, m160, k160, hu84, q135, r38⟩ := A.sl (a := 6) 4 rfl rfl rfl
    refine pl_ rfl (cl_ ca79 rfl (lr_ I r38 hx25) (em_ q135) (fun cv4 w177 S130 O4 le130 I274 hv4 => ?_))
    obtain ⟨z161, m161, k161, rfl, rfl⟩ := hv4
    refine ⟨_, _, rfl, le130, ?_, ?_⟩
    · exact ⟨_, _, _, rfl⟩
    exact I274
   ·
    intro vs f w_ U X le A K I
    obtain ⟨z162, m162, k162, e221, q136⟩ := A.rf (a := 7) 5 rfl rfl rfl
    refine pl_ rfl (bf_ (α := Raw) (vs := [(.slice z162 m162 k162)]) (r := [⟨(.slice z162 m162 k162)⟩]) rfl Tryz.underlying24 el63r (fc_ q136) rfl (by decide) (by decide) ⟨nj_ rfl, trivial⟩ I (fun u127 w179 I276 => ?_))
    obtain ⟨z163, m163, k163, e222⟩ := bc_ I276
    subst e222
    refine ⟨_, _, rfl, lr, ?_, ?_⟩
    · exact ⟨_, _, _, rfl⟩
    show Inv _ _ (Row (α := Raw) 63 ((Value.slice z163 m163 k163)) (([⟨(vs 7)⟩] : List Raw)) :: X)
    simp only [e221]
    exact I276
   ·
    intro vs f w_ U X le A K I
    have I277 : Inv w_ U (fe_ (α := Clue) 63 30 (Value.slice z150 m150 k150) (rw3) (s2) :: Row (α := Clue) 30 (vs 7) (x25) :: Row (α := Raw) 63 (vs 8) (([⟨(vs 7)⟩] : List Raw)) :: X) := I
    have q137 := A.v 1 rfl
    obtain ⟨z164, m164, k164, e223, q138⟩ := A.rf (a := 7) 7 rfl rfl rfl
    have I278 := I277
    rw [e223] at I278
    obtain ⟨z165, m165, k165, e224⟩ := (A.at_ 8 rfl _ rfl).2
    have q139 : f 46 = Value.slice z165 m165 k165 := ((A.at_ 8 rfl _ rfl).1 _ rfl).trans e224
    have e224 : vs 8 = (Value.slice z165 m165 k165) := e224
    have I279 := I278
    rw [e224] at I279
    have I280 := Inv.gridParts I279
    refine pl_ rfl (bt_ (α := Raw) (v := (.slice z150 m150 k150)) (u := (.slice z165 m165 k165)) rfl rfl Tryz.underlying24 el63r (by decide) (by decide) q137 q139 I280 (Inv.rowSrc (α := Raw) (I280.nth 3 rfl)) (yt_ hx26 hl3 rfl) (fun u128 w181 I281 => ?_))
    obtain ⟨z166, m166, k166, e225⟩ := bc_ I281
    subst e225
    have I282 := Inv.gridAdd hl3 (((I281.pull 1).pull 2).pull 2)
    have hp8 := (kl_ hx26).2
    rw [← hp8] at I282
    refine ⟨_, _, rfl, lr, ?_, ?_⟩
    · exact ⟨_, _, _, rfl⟩
    show Inv _ _ (fe_ (α := Clue) 63 30 ((Value.slice z166 m166 k166)) (rw3 ++ [(⟨(vs 7)⟩ : Raw)]) (x26) :: Row (α := Raw) 63 (vs 8) (([⟨(vs 7)⟩] : List Raw)) :: X)
    simp only [e223, e224]
    exact ((I282.pull 1).pull 1)
   ·
    intro vs f w_ U X le A K I
    have I284 : Inv w_ U (am_ (cj_ (pt_ g5)) 27 #[(Value.slice z15 m15 k15), (Value.slice z67 m67 k67), (Value.slice z150 m150 k150), (Value.slice z16 m16 k16)] :: fe_ (α := Clue) 63 30 (vs 9) (rw3 ++ [(⟨(vs 7)⟩ : Raw)]) (x26) :: X) := I
    obtain ⟨z167, m167, k167, e226, q140⟩ := A.rf (a := 7) 7 rfl rfl rfl
    have I285 := I284
    rw [e226] at I285
    obtain ⟨z168, m168, k168, e227⟩ := (A.at_ 9 rfl _ rfl).2
    have q141 : f 47 = Value.slice z168 m168 k168 := ((A.at_ 9 rfl _ rfl).1 _ rfl).trans e227
    have e227 : vs 9 = (Value.slice z168 m168 k168) := e227
    have I286 := I285
    rw [e227] at I286
    have q142 := A.v 10 rfl
    refine pl_ rfl (bb_ (v := (.slice z168 m168 k168)) (cs := #[(.slice z15 m15 k15), (.slice z67 m67 k67), (.slice z150 m150 k150), (.slice z16 m16 k16)]) sb_ I286 q142 q141 rfl nb rfl (fun w184 (I287 : Inv w184 U (am_ (cj_ (pt_ g5)) 27 #[(.slice z15 m15 k15), (.slice z67 m67 k67), (.slice z168 m168 k168), (.slice z16 m16 k16)] :: fe_ (α := Clue) 63 30 (.slice z168 m168 k168) (rw3 ++ [(⟨(.slice z167 m167 k167)⟩ : Raw)]) (x26) :: X)) => (⟨undef, _, rfl, lr, ?_, ?_⟩)))
    · exact trivial
    show Inv _ _ (am_ (cj_ (Value.pointer (some ⟨g5, 0, none⟩))) 27 #[(Value.slice z15 m15 k15), (Value.slice z67 m67 k67), (vs 9), (Value.slice z16 m16 k16)] :: fe_ (α := Clue) 63 30 (vs 9) (rw3 ++ [(⟨(vs 7)⟩ : Raw)]) (x26) :: X)
    simp only [e226, e227]
    exact ((I287.pull 1).pull 1)
   intro vs114 f w185 S135 ed19 le135 hF9 hK114 hI117
   have e228 : f 1 = (pt_ g1) := (hK114 1 (al_ rfl)).trans e208
   have e229 : f 2 = (pt_ g2) := (hK114 2 (al_ rfl)).trans e209
   have e230 : f 3 = (pt_ g5) := (hK114 3 (al_ rfl)).trans e210
   have e231 : f 5 = (vi ((i2 : Int))) := (hK114 5 (al_ rfl)).trans e211
   have I288 : Inv w185 S135 (Row (α := Raw) 63 (vs114 8) (([⟨(vs114 7)⟩] : List Raw)) :: fe_ (α := Clue) 63 30 (vs114 9) (rw3 ++ [(⟨(vs114 7)⟩ : Raw)]) (x26) :: am_ (cj_ (pt_ g5)) 27 #[(Value.slice z15 m15 k15), (Value.slice z67 m67 k67), (vs114 9), (Value.slice z16 m16 k16)] :: am_ g2 27 #[sn, sn, sn, sn] :: Row (α := CodeLock) 62 (Value.slice z15 m15 k15) (x1) :: Row (α := (List Int)) 28 (Value.slice z67 m67 k67) (out1) :: Row (α := Tie) 75 (Value.slice z16 m16 k16) (x2) :: Fr) := hI117
   obtain ⟨z169, m169, k169, e232, q143⟩ := hF9.rf (a := 7) 7 rfl rfl rfl
   have I289 := I288
   rw [e232] at I289
   obtain ⟨z170, m170, k170, e233⟩ := (hF9.at_ 8 rfl _ rfl).2
   have q144 : f 46 = Value.slice z170 m170 k170 := ((hF9.at_ 8 rfl _ rfl).1 _ rfl).trans e233
   have e233 : vs114 8 = (Value.slice z170 m170 k170) := e233
   have I290 := I289
   rw [e233] at I290
   obtain ⟨z171, m171, k171, e234⟩ := (hF9.at_ 9 rfl _ rfl).2
   have q145 : f 47 = Value.slice z171 m171 k171 := ((hF9.at_ 9 rfl _ rfl).1 _ rfl).trans e234
   have e234 : vs114 9 = (Value.slice z171 m171 k171) := e234
   have I291 := I290
   rw [e234] at I291
   refine aa_ (wm_ rfl e231 (wo_ (bl_ rfl rfl rfl (wa_ (v := (vi (w64 ((i2 : Int) + 1)))) rfl rfl (ad_ ?_)))))
   obtain rfl := sj h3
   exact ⟨_, _, _, _, _, (le121.trans le135), (((((((I291).drop.pull 5).pull 1).pull 5).pull 5).pull 4).pull 5), e228, e229, e230, (bh_ hlt2 hk2), (ed19.trans ed18), (zc_ hl3 (kl_ hx26).2)⟩
  rintro f w hI118
  obtain ⟨S136, z172, m172, k172, rw5, le136, I292, e235, e236, e237, e238, ed20, hl5⟩ := hI118
  refine ab_ (ab_ (aa_ (wm_ rfl e238 (wo_ (ae_ rfl fk_ e235 ((p1.mono ((le11.trans le76).trans le136)).at_ I292) (wo_ (ld_ sb_ (((p1.mono ((le11.trans le76).trans le136)).at_ I292).fld Riddle.fld2) rfl (fun u130 hu86 => ?_))))))))
  obtain ⟨z174, m174, k174, rfl⟩ := ac_ hu86
  refine wo_ (az_ rfl Tryz.underlying24 rfl hu86 (wo_ (be_ rfl rfl rfl (ad_ (ai_ rfl (ep_ _) (bk_ ?_))))))
  exact ⟨_, _, _, _, _, le136, ((((((I292.pull 5).pull 5).pull 5).pull 5).pull 5).pull 5), e235, e236, e237, ed20, hl5⟩
 rintro f w ⟨S137, z151, m151, k151, rw4, le137, I293, e241, e242, e243, ed21, hl4⟩
 refine ab_ (aa_ (wo_ (el_ (l := [(.slice z15 m15 k15), (.slice z67 m67 k67), (.slice z151 m151 k151), (.slice z16 m16 k16)]) rfl fr_ (I293.nth 1 rfl) e243 rfl rfl (wo_ (bb_ (v := (.agg #[(.slice z15 m15 k15), (.slice z67 m67 k67), (.slice z151 m151 k151), (.slice z16 m16 k16)])) (cs := #[sn, sn, sn, sn]) fr_ I293 e242 rfl rfl nb rfl (fun w186 (I294 : Inv w186 S137 (am_ g2 27 #[(.slice z15 m15 k15), (.slice z67 m67 k67), (.slice z151 m151 k151), (.slice z16 m16 k16)] :: am_ (cj_ (pt_ g5)) 27 #[(.slice z15 m15 k15), (.slice z67 m67 k67), (.slice z151 m151 k151), (.slice z16 m16 k16)] :: Row (α := CodeLock) 62 (.slice z15 m15 k15) (x1) :: Row (α := (List Int)) 28 (.slice z67 m67 k67) (out1) :: fe_ (α := Clue) 63 30 (.slice z151 m151 k151) (rw4) (out2) :: Row (α := Tie) 75 (.slice z16 m16 k16) (x2) :: Fr)) => (ad_ (ak_ ?_))))))))
 obtain ⟨S138, le138, I295, r39⟩ := Inv.rowFreeze (I294.pull 2)
 obtain ⟨S139, le139, I296, r40⟩ := Inv.rowFreeze (I295.pull 2)
 obtain ⟨S140, le140, I297, r41⟩ := Inv.rowFreeze (I296.pull 3)
 obtain rfl := sj h
 exact ⟨ed21, (.agg #[(.slice z15 m15 k15), (.slice z67 m67 k67), (.slice z151 m151 k151), (.slice z16 m16 k16)]), (resC (cs := #[(.slice z15 m15 k15), (.slice z67 m67 k67), (.slice z151 m151 k151), (.slice z16 m16 k16)]) rfl e242 fr_ I294), _, [fe_ (α := Clue) 63 30 (.slice z151 m151 k151) (rw4) (out2)], ((((((le1.trans le11).trans le76).trans le137).trans le138).trans le139).trans le140), ((I297).drop).drop, _, _, _, _, _, _, _, rfl, rfl, (r39.mono (le139.trans le140)), (r40.mono le140), hl4, r41⟩
theorem kh_ {w : World} {S : PH} {Fr : List HP} {a0 : Riddle} {v0 : Value} {a1 : Aid} {v1 : Value} {r : Riddle} (hI : Inv w S (Fr)) (h0_ : RV S v0 a0) (h1_ : RV S v1 a1) (h : ib_ a0 a1 = some r) :
    Calls Tryz.prog 39 [v0, v1].toArray w (lp_ S Fr (fun T_ v_ O_ => ∃ (c0_ : Value), v_ = c0_ ∧ O_ = [] ∧ RV T_ c0_ r)) := by
 unfold ib_ at h
 obtain ⟨c1, c2, c3, c4, e1, r1, r2, r3, r4⟩ := Riddle.inv h0_
 subst e1
 obtain ⟨z1, m1, k1, rfl⟩ := ac_ r1
 obtain ⟨z2, m2, k2, rfl⟩ := ac_ r2
 obtain ⟨z3, m3, k3, rfl⟩ := ac_ r3
 obtain ⟨z4, m4, k4, rfl⟩ := ac_ r4
 obtain ⟨c5, e6, r5⟩ := Aid.inv h1_
 subst e6
 obtain ⟨z5, m5, k5, rfl⟩ := ac_ r5
 refine ao_ (n := 25) Tryz.func39 rfl rfl rfl (ab_ (aa_ (wo_ (bi_ (v := (.agg #[(.slice z1 m1 k1), (.slice z2 m2 k2), (.slice z3 m3 k3), (.slice z4 m4 k4)])) rfl hI rfl (fun g1 w1 I1 => ?_)))))
 obtain ⟨S1, le1, I2, p1⟩ := Inv.boxFreeze (x := a0) I1 (Riddle.rv (s := a0) r1 r2 r3 r4)
 refine wo_ (bi_ (v := (.agg #[(vi a1.Lock), (vi a1.Clue.Kind), (vi a1.Clue.A), (vi a1.Clue.B), (vi a1.Clue.N), (vi a1.Clue.M), (.slice z5 m5 k5), (vb a1.Clue.Not)])) rfl I2 rfl (fun g2 w2 I3 => ?_))
 obtain ⟨S2, le2, I4, p2⟩ := Inv.boxFreeze (x := a1) I3 (Aid.rv (s := a1) (r5.mono le1))
 refine wo_ (bu_ (z := (.agg #[sn, sn, sn, sn])) rfl I4 zo27 (fun g3 w3 (I5 : Inv w3 S2 (am_ g3 27 #[sn, sn, sn, sn] :: Fr)) => (ad_ (ab_ (aa_ (wo_ (ld_ fr_ ((p1.mono le2).at_ I5) rfl (fun u1 hu1 => ?_))))))))
 obtain ⟨c6, c7, c8, c9, e8, r6, r7, r8, r9⟩ := Riddle.inv hu1
 subst e8
 obtain ⟨z6, m6, k6, rfl⟩ := ac_ r6
 obtain ⟨z7, m7, k7, rfl⟩ := ac_ r7
 obtain ⟨z8, m8, k8, rfl⟩ := ac_ r8
 obtain ⟨z9, m9, k9, rfl⟩ := ac_ r9
 obtain ⟨x1, hx1, h⟩ := bnd h
 refine wo_ (cl_ ca78 rfl (xf_ I5 (Riddle.rv (s := a0) r6 r7 r8 r9) hx1) (em_ rfl) (fun cv1 w4 S3 O1 le3 I6 hv1 => ?_))
 obtain ⟨c10, c11, z10, m10, k10, rw1, c12, rfl, rfl, r10, r11, hl1, r12⟩ := hv1
 obtain ⟨z11, m11, k11, rfl⟩ := ac_ r10
 obtain ⟨z12, m12, k12, rfl⟩ := ac_ r11
 obtain ⟨z13, m13, k13, rfl⟩ := ac_ r12
 refine wo_ (bu_ (z := (.agg #[sn, sn, sn, sn])) rfl I6 zo27 (fun g4 w5 (I7 : Inv w5 S3 (am_ g4 27 #[sn, sn, sn, sn] :: fe_ (α := Clue) 63 30 (.slice z10 m10 k10) (rw1) (x1.Known) :: am_ g3 27 #[sn, sn, sn, sn] :: Fr)) => (wo_ (bb_ (v := (.agg #[(.slice z11 m11 k11), (.slice z12 m12 k12), (.slice z10 m10 k10), (.slice z13 m13 k13)])) (cs := #[sn, sn, sn, sn]) fr_ I7 rfl rfl rfl nb rfl (fun w6 (I8 : Inv w6 S3 (am_ g4 27 #[(.slice z11 m11 k11), (.slice z12 m12 k12), (.slice z10 m10 k10), (.slice z13 m13 k13)] :: fe_ (α := Clue) 63 30 (.slice z10 m10 k10) (rw1) (x1.Known) :: am_ g3 27 #[sn, sn, sn, sn] :: Fr)) => (ad_ (ab_ ?_)))))))
 obtain ⟨x2, hx2, h⟩ := bnd h
 obtain ⟨rr1, hr1⟩ := nn_ hl1 hx2
 obtain ⟨x3, hx3, h⟩ := bnd h
 obtain ⟨x4, hx4, h⟩ := bnd h
 refine bj_ (sps := [spV 8 [] 0 (.pointer (some ⟨g4, 2, none⟩)), ⟨some 9, [0], [1], fun vs_ T_ => fr0 vs_ 0 = (.slice z10 m10 k10), [0], [], [], fun _ h_ => h_⟩, spV 10 [] 2 (an_ (pt_ g2) 0), spV 11 [2] 3 (vi a1.Lock), spV 12 [] 4 (.pointer (some ⟨g4, 2, none⟩)), ⟨some 13, [4], [5], fun vs_ T_ => fr0 vs_ 0 = (.slice z10 m10 k10), [0], [], [], fun _ h_ => h_⟩, spV 14 [] 6 (an_ (pt_ g2) 0), spV 15 [6] 7 (vi a1.Lock), ⟨some 16, [4, 5, 6, 7], [8], fun vs_ T_ => fr0 vs_ 0 = (af_ (.slice z10 m10 k10) (a1.Lock) (Enc.sz Raw)), [1], [], [], fun _ h_ => h_⟩, ⟨some 17, [4, 5, 6, 7, 8], [9], fun vs_ T_ => fr0 vs_ 0 = (rr1.v), [1], [], [], fun _ h_ => h_⟩, spV 18 [] 10 (an_ (pt_ g2) 1), spR 19 [10] 11 (a1.Clue), ⟨some 20, [10, 11], [12], fun vs_ T_ => ∃ a_ n_ k_, fr0 vs_ 0 = Value.slice a_ n_ k_, [], [], [2], fun _ h_ => h_⟩, ⟨some 21, [10, 11, 12], [13], fun vs_ T_ => ∃ (a0_ : Option Addr) (n0_ k0_ : Nat), fr0 vs_ 0 = (.slice a0_ n0_ k0_), [], [2], [3], fun _ h_ => h_⟩, ⟨some 22, [4, 5, 6, 7, 8, 9, 10, 11, 12, 13], [14], fun vs_ T_ => ∃ a_ n_ k_, fr0 vs_ 0 = Value.slice a_ n_ k_, [3], [1], [4, 5, 6], fun _ h_ => h_⟩, ⟨some 23, (lrg 15), [15], fun vs_ T_ => fr0 vs_ 0 = (af_ (.slice z10 m10 k10) (a1.Lock) (Enc.sz Raw)), [6], [], [], fun _ h_ => h_⟩, ⟨none, (lrg 16), [], fun vs_ T_ => True, [], [6, 4, 5], [7], fun _ h_ => h_⟩]) (tks := [⟨none, none, [], fun vs_ => am_ g4 27 #[(.slice z11 m11 k11), (.slice z12 m12 k12), (.slice z10 m10 k10), (.slice z13 m13 k13)]⟩, ⟨none, some 14, [], fun vs_ => fe_ (α := Clue) 63 30 (.slice z10 m10 k10) (rw1) (x1.Known)⟩, ⟨some 12, some 13, [12], fun vs_ => Row (α := Clue) 30 (fr0 vs_ 0) (([a1.Clue] : List Clue))⟩, ⟨some 13, none, [13], fun vs_ => Row (α := Clue) 30 (fr0 vs_ 0) (x3)⟩, ⟨some 14, some 16, [14], fun vs_ => Row (α := Clue) 30 (fr0 vs_ 0) (x4)⟩, ⟨some 14, some 16, [], fun vs_ => jq_ (α := Clue) 30 (rw1) (x1.Known) (a1.Lock).toNat⟩, ⟨some 14, some 16, [], fun vs_ => Row (α := Raw) 63 (.slice z10 m10 k10) (rw1)⟩, ⟨some 16, none, [14], fun vs_ => fe_ (α := Clue) 63 30 (.slice z10 m10 k10) (rw1.set (a1.Lock).toNat ⟨(fr0 vs_ 0)⟩) (x1.Known.set (a1.Lock).toNat x4)⟩]) (O := am_ g3 27 #[sn, sn, sn, sn] :: Fr) rfl (by kernel_rfl) ((I8.pull 1).pull 1) ⟨ob_ rfl fun l A K I => (av_ (v := (pt_ g4)) rfl fk_ (K 5 (ag_ rfl)) rfl (fo I)), ?_, ob_ rfl fun l A K I => (ae_ rfl fq_ (K 3 (ag_ rfl)) ((p2.mono (le3.trans l)).at_ I) (fo I)), ob_ rfl fun l A K I => (aj_ rfl sh3 (A.v 0 rfl) (((p2.mono (le3.trans l)).at_ I).fld Aid.fld0) (fo I)), ob_ rfl fun l A K I => (av_ (v := (pt_ g4)) rfl fk_ (K 5 (ag_ rfl)) rfl (fo I)), ?_, ob_ rfl fun l A K I => (ae_ rfl fq_ (K 3 (ag_ rfl)) ((p2.mono (le3.trans l)).at_ I) (fo I)), ob_ rfl fun l A K I => (aj_ rfl sh3 (A.v 0 rfl) (((p2.mono (le3.trans l)).at_ I).fld Aid.fld0) (fo I)), ?_, ?_, ob_ rfl fun l A K I => (ae_ rfl fa32_1 (K 3 (ag_ rfl)) ((p2.mono (le3.trans l)).at_ I) (fo I)), ?_, ?_, ?_, ?_, ?_, ?_, trivial⟩ ?_
 ·
  intro vs f w_ U X le A K I
  have I15 : Inv w_ U (am_ g4 27 #[(Value.slice z11 m11 k11), (Value.slice z12 m12 k12), (Value.slice z10 m10 k10), (Value.slice z13 m13 k13)] :: X) := I
  refine pl_ rfl (bd_ (c := (.slice z10 m10 k10)) rfl sb_ (I15.nth 0 rfl) (A.v 0 rfl) rfl (fo I15))
 ·
  intro vs f w_ U X le A K I
  have I19 : Inv w_ U (am_ g4 27 #[(Value.slice z11 m11 k11), (Value.slice z12 m12 k12), (Value.slice z10 m10 k10), (Value.slice z13 m13 k13)] :: X) := I
  refine pl_ rfl (bd_ (c := (.slice z10 m10 k10)) rfl sb_ (I19.nth 0 rfl) (A.v 0 rfl) rfl (fo I19))
 ·
  intro vs f w_ U X le A K I
  have I22 : Inv w_ U (fe_ (α := Clue) 63 30 (Value.slice z10 m10 k10) (rw1) (x1.Known) :: X) := I
  refine pl_ rfl (fh_ (v := (.slice z10 m10 k10)) (i := a1.Lock) (r := rr1) rfl Tryz.underlying24 ng_ (I22.nth 0 rfl) (A.v 1 rfl) (A.v 3 rfl) hr1 (fo I22))
 ·
  intro vs f w_ U X le A K I
  have I23 : Inv w_ U (fe_ (α := Clue) 63 30 (Value.slice z10 m10 k10) (rw1) (x1.Known) :: X) := I
  have q7 := A.v 4 rfl
  refine pl_ rfl (ay_ rfl ng_ q7 (Inv.gridRowAt (I23.nth 0 rfl) hr1) (fun u6 hu4 => ?_))
  obtain rfl := su_ hu4
  refine ⟨_, _, rfl, lr, ?_, ?_⟩
  · exact rfl
  exact I23
 ·
  intro vs f w_ U X le A K I
  have q8 := A.v 0 rfl
  refine pl_ rfl (ay_ rfl lk_ q8 (((p2.mono (le3.trans le)).at_ I).fld Aid.fld1) (fun u7 hu5 => ?_))
  obtain ⟨c13, e16, r13⟩ := Clue.inv hu5
  subst e16
  obtain ⟨z14, m14, k14, rfl⟩ := ac_ r13
  refine ⟨_, _, rfl, lr, ?_, ?_⟩
  · exact (Clue.rv (s := a1.Clue) r13)
  exact I
 ·
  intro vs f w_ U X le A K I
  have q9 : f 19 = vs 11 := (A.at_ 1 rfl _ rfl).1 _ rfl
  have r14 : RV U (vs 11) a1.Clue := (A.at_ 1 rfl _ rfl).2
  obtain ⟨u8, hu6⟩ : ∃ u, vs 11 = u := ⟨_, rfl⟩
  rw [hu6] at q9 r14
  obtain ⟨c14, e18, r15⟩ := Clue.inv r14
  subst e18
  obtain ⟨z15, m15, k15, rfl⟩ := ac_ r15
  refine pl_ rfl (bf_ (vs := [(.agg #[(vi a1.Clue.Kind), (vi a1.Clue.A), (vi a1.Clue.B), (vi a1.Clue.N), (vi a1.Clue.M), (.slice z15 m15 k15), (vb a1.Clue.Not)])]) (r := ([a1.Clue] : List Clue)) rfl Tryz.underlying63 el30 (fc_ q9) rfl (by decide) (by decide) ⟨(Clue.rv (s := a1.Clue) r15), trivial⟩ I (fun u9 w23 I27 => ?_))
  obtain ⟨z16, m16, k16, e20⟩ := bc_ I27
  subst e20
  refine ⟨_, _, rfl, lr, ?_, ?_⟩
  · exact ⟨_, _, _, rfl⟩
  exact I27
 ·
  intro vs f w_ U X le A K I
  have I28 : Inv w_ U (Row (α := Clue) 30 (vs 12) (([a1.Clue] : List Clue)) :: X) := I
  obtain ⟨z17, m17, k17, e21⟩ := (A.at_ 2 rfl _ rfl).2
  have q10 : f 20 = Value.slice z17 m17 k17 := ((A.at_ 2 rfl _ rfl).1 _ rfl).trans e21
  have e21 : vs 12 = (Value.slice z17 m17 k17) := e21
  have I29 := I28
  rw [e21] at I29
  obtain ⟨S18, le18, I30, r16⟩ := Inv.rowFreeze I29
  refine pl_ rfl (cl_ ca79 rfl (lr_ I30 r16 hx3) (em_ q10) (fun cv2 w25 S19 O2 le19 I31 hv2 => ?_))
  obtain ⟨z18, m18, k18, rfl, rfl⟩ := hv2
  refine ⟨_, _, rfl, (le18.trans le19), ?_, ?_⟩
  · exact ⟨_, _, _, rfl⟩
  exact I31
 ·
  intro vs f w_ U X le A K I
  have I32 : Inv w_ U (fe_ (α := Clue) 63 30 (Value.slice z10 m10 k10) (rw1) (x1.Known) :: Row (α := Clue) 30 (vs 13) (x3) :: X) := I
  have q11 := A.v 5 rfl
  obtain ⟨z19, m19, k19, e22, q12⟩ := A.rf (a := 13) 9 rfl rfl rfl
  have I33 := I32
  rw [e22] at I33
  have I34 := Inv.gridTake I33 hr1 hx2
  refine pl_ rfl (bt_ (α := Clue) (v := (rr1.v)) (u := (.slice z19 m19 k19)) rfl rfl Tryz.underlying63 el30 (by decide) (by decide) q11 q12 I34 (Inv.rowSrc (I34.nth 3 rfl)) hx4 (fun u10 w27 I35 => ?_))
  obtain ⟨z20, m20, k20, e23⟩ := bc_ I35
  subst e23
  refine ⟨_, _, rfl, lr, ?_, ?_⟩
  · exact ⟨_, _, _, rfl⟩
  show Inv _ _ (Row (α := Clue) 30 ((Value.slice z20 m20 k20)) (x4) :: jq_ (α := Clue) 30 (rw1) (x1.Known) (a1.Lock).toNat :: Row (α := Raw) 63 (Value.slice z10 m10 k10) (rw1) :: Row (α := Clue) 30 (vs 13) (x3) :: X)
  simp only [e22]
  exact ((((I35.pull 3).pull 2).pull 3).pull 3)
 ·
  intro vs f w_ U X le A K I
  have I36 : Inv w_ U (Row (α := Raw) 63 (Value.slice z10 m10 k10) (rw1) :: X) := I
  refine pl_ rfl (ba_ (α := Raw) (v := (.slice z10 m10 k10)) (i := a1.Lock) (e := rr1) rfl Tryz.underlying24 ng_ (A.v 1 rfl) (Inv.rowSrc (I36.nth 0 rfl)) (A.v 3 rfl) hr1 (fo I36))
 ·
  intro vs f w_ U X le A K I
  have I37 : Inv w_ U (Row (α := Raw) 63 (Value.slice z10 m10 k10) (rw1) :: Row (α := Clue) 30 (vs 14) (x4) :: jq_ (α := Clue) 30 (rw1) (x1.Known) (a1.Lock).toNat :: X) := I
  obtain ⟨z21, m21, k21, e24⟩ := (A.at_ 14 rfl _ rfl).2
  have q15 : f 22 = Value.slice z21 m21 k21 := ((A.at_ 14 rfl _ rfl).1 _ rfl).trans e24
  have e24 : vs 14 = (Value.slice z21 m21 k21) := e24
  have I38 := I37
  rw [e24] at I38
  have q16 := A.v 15 rfl
  refine pl_ rfl (dh_ (α := Raw) (u := (.slice z21 m21 k21)) (e' := (⟨(.slice z21 m21 k21)⟩ : Raw)) ng_ I38 q16 q15 hr1 (nj_ rfl) (fun w30 I39 => ?_))
  have I40 := Inv.gridGive hr1 hx2 (((I39.pull 2).pull 1).pull 2)
  refine ⟨undef, _, rfl, lr, ?_, ?_⟩
  · exact trivial
  show Inv _ _ (fe_ (α := Clue) 63 30 (Value.slice z10 m10 k10) (rw1.set (a1.Lock).toNat ⟨(vs 14)⟩) (x1.Known.set (a1.Lock).toNat x4) :: X)
  simp only [e24]
  exact I40
 intro vs18 f w31 S23 ed1 le23 hF1 hK18 hI18
 have e25 : f 4 = (pt_ g3) := (hK18 4 (al_ rfl)).trans rfl
 have e26 : f 5 = (pt_ g4) := (hK18 5 (al_ rfl)).trans rfl
 have I41 : Inv w31 S23 (am_ g4 27 #[(Value.slice z11 m11 k11), (Value.slice z12 m12 k12), (Value.slice z10 m10 k10), (Value.slice z13 m13 k13)] :: Row (α := Clue) 30 (vs18 13) (x3) :: fe_ (α := Clue) 63 30 (Value.slice z10 m10 k10) (rw1.set (a1.Lock).toNat ⟨(vs18 14)⟩) (x1.Known.set (a1.Lock).toNat x4) :: am_ g3 27 #[sn, sn, sn, sn] :: Fr) := hI18
 obtain ⟨z22, m22, k22, e27, q17⟩ := hF1.rf (a := 13) 13 rfl rfl rfl
 have I42 := I41
 rw [e27] at I42
 obtain ⟨z23, m23, k23, e28⟩ := (hF1.at_ 14 rfl _ rfl).2
 have q18 : f 22 = Value.slice z23 m23 k23 := ((hF1.at_ 14 rfl _ rfl).1 _ rfl).trans e28
 have e28 : vs18 14 = (Value.slice z23 m23 k23) := e28
 have I43 := I42
 rw [e28] at I43
 refine ab_ (aa_ (wo_ (el_ (l := [(.slice z11 m11 k11), (.slice z12 m12 k12), (.slice z10 m10 k10), (.slice z13 m13 k13)]) rfl fr_ (I43.nth 0 rfl) e26 rfl rfl (wo_ (bb_ (v := (.agg #[(.slice z11 m11 k11), (.slice z12 m12 k12), (.slice z10 m10 k10), (.slice z13 m13 k13)])) (cs := #[sn, sn, sn, sn]) fr_ (I43.pull 3) e25 rfl rfl nb rfl (fun w32 (I44 : Inv w32 S23 (am_ g3 27 #[(.slice z11 m11 k11), (.slice z12 m12 k12), (.slice z10 m10 k10), (.slice z13 m13 k13)] :: am_ g4 27 #[(.slice z11 m11 k11), (.slice z12 m12 k12), (.slice z10 m10 k10), (.slice z13 m13 k13)] :: Row (α := Clue) 30 (.slice z22 m22 k22) (x3) :: fe_ (α := Clue) 63 30 (.slice z10 m10 k10) (rw1.set (a1.Lock).toNat ⟨(.slice z23 m23 k23)⟩) (x1.Known.set (a1.Lock).toNat x4) :: Fr)) => (ad_ (ak_ ?_))))))))
 obtain ⟨S24, le24, I45, r17⟩ := Inv.gridFreeze (I44.pull 3) (tw_ hl1)
 obtain rfl := sj h
 exact ⟨(ed1.trans rfl), (.agg #[(.slice z11 m11 k11), (.slice z12 m12 k12), (.slice z10 m10 k10), (.slice z13 m13 k13)]), (resC (cs := #[(.slice z11 m11 k11), (.slice z12 m12 k12), (.slice z10 m10 k10), (.slice z13 m13 k13)]) rfl e25 fr_ I44), _, [], ((((le1.trans le2).trans le3).trans le23).trans le24), (((I45).drop).drop).drop, _, rfl, rfl, (Riddle.rv (s := (⟨x1.Locks, x1.Codes, x1.Known.set (a1.Lock).toNat x4, x1.Ties⟩ : Riddle)) (r10.mono (le23.trans le24)) (r11.mono (le23.trans le24)) r17 (r12.mono (le23.trans le24)))⟩
end Go.Proofs.YtlpdpeghgndmkaaGreat.Pad
