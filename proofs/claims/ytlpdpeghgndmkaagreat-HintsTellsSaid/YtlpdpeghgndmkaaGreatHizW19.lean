/- A part of the proof: what the functions of the program compute, shown over the model. -/
import Derived.Test.YtlpdpeghgndmkaaGreatHizP
import Derived.Test.YtlpdpeghgndmkaaGreatHizW1
import Derived.Test.YtlpdpeghgndmkaaGreatHizW10
import Derived.KernelRfl
set_option linter.unusedVariables false
set_option maxHeartbeats 4000000
set_option maxRecDepth 100000
namespace Go.Proofs.YtlpdpeghgndmkaaGreat.Pad
open Go Go.Proofs
theorem vh_ {w : World} {S : PH} {Fr : List HP} {a0 : Riddle} {v0 : Value} {a1 : Aid} {v1 : Value} {r : Riddle × Int} (hI : Inv w S (Fr)) (h0_ : RV S v0 a0) (h1_ : RV S v1 a1) (h : ly_ a0 a1 = some r) :
    Calls Tryz.prog 11 [v0, v1].toArray w (lj_ S Fr (fun T_ v_ O_ => ∃ (c0_ : Value), v_ = (Value.tuple #[c0_, (Value.int .i64 (r.2))]) ∧ O_ = [] ∧ RV T_ c0_ r.1)) := by
 unfold ly_ at h
 obtain ⟨c1, c2, c3, c4, e1, r1, r2, r3, r4⟩ := Riddle.inv h0_
 subst e1
 obtain ⟨z1, m1, k1, rfl⟩ := ad_ r1
 obtain ⟨z2, m2, k2, rfl⟩ := ad_ r2
 obtain ⟨z3, m3, k3, rfl⟩ := ad_ r3
 obtain ⟨z4, m4, k4, rfl⟩ := ad_ r4
 obtain ⟨c5, e6, r5⟩ := Aid.inv h1_
 subst e6
 obtain ⟨z5, m5, k5, rfl⟩ := ad_ r5
 refine au_ (n := 24) (vs := [(.agg #[(.slice z1 m1 k1), (.slice z2 m2 k2), (.slice z3 m3 k3), (.slice z4 m4 k4)]), (.agg #[(vi a1.Lock), (vi a1.Clue.Kind), (vi a1.Clue.A), (vi a1.Clue.B), (vi a1.Clue.N), (vi a1.Clue.M), (.slice z5 m5 k5), (vb a1.Clue.Not)])]) Tryz.func11 rfl rfl rfl (ab_ (aa_ (wo_ (bk_ (v := (.agg #[(.slice z1 m1 k1), (.slice z2 m2 k2), (.slice z3 m3 k3), (.slice z4 m4 k4)])) rfl hI rfl (fun g1 w1 I1 => ?_)))))
 obtain ⟨S1, le1, I2, p1⟩ := Inv.boxFreeze (x := a0) I1 (Riddle.rv (s := a0) r1 r2 r3 r4)
 refine wo_ (bk_ (v := (.agg #[(vi a1.Lock), (vi a1.Clue.Kind), (vi a1.Clue.A), (vi a1.Clue.B), (vi a1.Clue.N), (vi a1.Clue.M), (.slice z5 m5 k5), (vb a1.Clue.Not)])) rfl I2 rfl (fun g2 w2 I3 => ?_))
 obtain ⟨S2, le2, I4, p2⟩ := Inv.boxFreeze (x := a1) I3 (Aid.rv (s := a1) (r5.mono le1))
 refine wo_ (bv_ (z := (.agg #[(.slice none 0 0), (.slice none 0 0), (.slice none 0 0), (.slice none 0 0)])) rfl I4 yv_ (fun g3 w3 (I5 : Inv w3 S2 (ap_ g3 27 #[(.slice none 0 0), (.slice none 0 0), (.slice none 0 0), (.slice none 0 0)] :: Fr)) => (wa_ (v := (vi 0)) rfl rfl (ae_ (ab_ (aa_ (wo_ (aj_ (v := (pt_ g1)) (e := a0) rfl gd_ rfl ((p1.mono le2).at_ I5) (fun u1 hu1 => ?_)))))))))
 obtain ⟨c6, c7, c8, c9, e8, r6, r7, r8, r9⟩ := Riddle.inv hu1
 subst e8
 obtain ⟨z6, m6, k6, rfl⟩ := ad_ r6
 obtain ⟨z7, m7, k7, rfl⟩ := ad_ r7
 obtain ⟨z8, m8, k8, rfl⟩ := ad_ r8
 obtain ⟨z9, m9, k9, rfl⟩ := ad_ r9
 refine wo_ (aj_ (v := (pt_ g2)) (e := a1) rfl uj_ rfl (p2.at_ I5) (fun u2 hu2 => ?_))
 obtain ⟨c10, e13, r10⟩ := Aid.inv hu2
 subst e13
 obtain ⟨z10, m10, k10, rfl⟩ := ad_ r10
 obtain ⟨x1, hx1, h⟩ := bnd h
 refine wo_ (bn_ (vs := [(.agg #[(.slice z6 m6 k6), (.slice z7 m7 k7), (.slice z8 m8 k8), (.slice z9 m9 k9)]), (.agg #[(vi a1.Lock), (vi a1.Clue.Kind), (vi a1.Clue.A), (vi a1.Clue.B), (vi a1.Clue.N), (vi a1.Clue.M), (.slice z10 m10 k10), (vb a1.Clue.Not)])]) rfl ca37 rfl (bu_ rfl rfl) (kh_ I5 (Riddle.rv (s := a0) r6 r7 r8 r9) (Aid.rv (s := a1) r10) hx1) (fun cv1 w4 S3 O1 le3 I6 hv1 => ?_))
 obtain ⟨c11, c12, rfl, rfl, r11, r12⟩ := hv1
 refine wm_ (v := (Value.tuple #[c11, c12, (vi x1.2.2)])) rfl rfl (wo_ (bi_ (v := c11) rfl rfl rfl (wo_ (bi_ (v := c12) rfl rfl rfl (wo_ (bi_ (v := (vi x1.2.2)) rfl rfl rfl (wa_ (v := c11) rfl rfl (wa_ (v := c12) rfl rfl (wa_ (v := (vi x1.2.2)) rfl rfl (ae_ (ab_ (ab_ (aa_ (wm_ (v := (vi x1.2.2)) rfl rfl (wo_ (cf_ (a := x1.2.2) (b := 0) rfl rfl rfl (ae_ ?_)))))))))))))))))
 rcases ifs h with ⟨hc1, h⟩ | ⟨hc1, h⟩
 ·
  refine al_ (b := x1.2.2 != 0) rfl hc1 (ab_ (aa_ (wo_ (fw_ (qs := []) (c := #[(.slice none 0 0), (.slice none 0 0), (.slice none 0 0), (.slice none 0 0)]) rfl st27 trivial rfl (wm_ (v := (vi x1.2.2)) rfl rfl (wo_ (bc_ (v := (.agg #[(.slice none 0 0), (.slice none 0 0), (.slice none 0 0), (.slice none 0 0)])) (cs := #[(.slice none 0 0), (.slice none 0 0), (.slice none 0 0), (.slice none 0 0)]) gd_ I6 rfl rfl rfl nb rfl (fun w5 (I7 : Inv w5 S3 (ap_ g3 27 #[(.slice none 0 0), (.slice none 0 0), (.slice none 0 0), (.slice none 0 0)] :: Fr)) => (wa_ (v := (vi x1.2.2)) rfl rfl (ae_ (an_ ?_)))))))))))
  obtain rfl := sj h
  exact ⟨rfl, (Value.tuple #[(.agg #[(.slice none 0 0), (.slice none 0 0), (.slice none 0 0), (.slice none 0 0)]), (vi x1.2.2)]), (res2c (cs := #[(.slice none 0 0), (.slice none 0 0), (.slice none 0 0), (.slice none 0 0)]) rfl rfl gd_ I7 rfl), _, [], ((le1.trans le2).trans le3), (I7).drop, _, rfl, rfl, (Riddle.rv (s := (⟨([] : (List CodeLock)), ([] : (List (List Int))), ([] : (List (List Clue))), ([] : (List Tie))⟩ : Riddle)) rv_nil rv_nil rv_nil rv_nil)⟩
 refine am_ (b := x1.2.2 != 0) rfl hc1 (av_ (ab_ (aa_ (wm_ (v := c12) rfl rfl ?_))))
 obtain ⟨x2, hx2, h⟩ := bnd h
 refine wo_ (ea_ (v := c12) rfl rfl (oi_ r12 hx2) (wo_ (ac_ (v := c12) rfl wv_ rfl ((oi_ r12 hx2).at_ I6) (wo_ (aj_ (v := (ag_ c12 0)) (e := x2.Riddle) rfl gd_ rfl (((oi_ r12 hx2).at_ I6).fld Hints_room.fld0) (fun u3 hu3 => ?_))))))
 obtain ⟨c13, c14, c15, c16, e15, r13, r14, r15, r16⟩ := Riddle.inv hu3
 subst e15
 obtain ⟨z11, m11, k11, rfl⟩ := ad_ r13
 obtain ⟨z12, m12, k12, rfl⟩ := ad_ r14
 obtain ⟨z13, m13, k13, rfl⟩ := ad_ r15
 obtain ⟨z14, m14, k14, rfl⟩ := ad_ r16
 refine wo_ (bc_ (v := (.agg #[(.slice z11 m11 k11), (.slice z12 m12 k12), (.slice z13 m13 k13), (.slice z14 m14 k14)])) (cs := #[(.slice none 0 0), (.slice none 0 0), (.slice none 0 0), (.slice none 0 0)]) gd_ I6 rfl rfl rfl nb rfl (fun w6 (I8 : Inv w6 S3 (ap_ g3 27 #[(.slice z11 m11 k11), (.slice z12 m12 k12), (.slice z13 m13 k13), (.slice z14 m14 k14)] :: Fr)) => (wa_ (v := (vi 0)) rfl rfl (ae_ (an_ ?_)))))
 obtain rfl := sj h
 exact ⟨rfl, (Value.tuple #[(.agg #[(.slice z11 m11 k11), (.slice z12 m12 k12), (.slice z13 m13 k13), (.slice z14 m14 k14)]), (vi 0)]), (res2c (cs := #[(.slice z11 m11 k11), (.slice z12 m12 k12), (.slice z13 m13 k13), (.slice z14 m14 k14)]) rfl rfl gd_ I8 rfl), _, [], ((le1.trans le2).trans le3), (I8).drop, _, rfl, rfl, (Riddle.rv (s := x2.Riddle) r13 r14 r15 r16)⟩
theorem pq_ {w : World} {S : PH} {Fr : List HP} {a0 : (List (List Int))} {v0 : Value} {a1 : (List (List Int))} {v1 : Value} {r : Bool} (hI : Inv w S (Fr)) (h0_ : RV S v0 a0) (h1_ : RV S v1 a1) (h : gi_ a0 a1 = some r) :
    Calls Tryz.prog 40 [v0, v1].toArray w (ck_ S Fr (Value.bool (r))) := by
 unfold gi_ at h
 obtain ⟨z1, m1, k1, rfl⟩ := ad_ h0_
 obtain ⟨z2, m2, k2, rfl⟩ := ad_ h1_
 refine au_ (n := 27) (vs := [(.slice z1 m1 k1), (.slice z2 m2 k2)]) Tryz.func40 rfl rfl rfl (ab_ (aa_ (wa_ (v := (vb false)) rfl rfl (ae_ (ab_ (ab_ (aa_ (wm_ (v := (.slice z1 m1 k1)) rfl rfl (wo_ (az_ rfl Tryz.underlying23 rfl h0_ (wm_ (v := (.slice z2 m2 k2)) rfl rfl (wo_ (az_ rfl Tryz.underlying23 rfl h1_ (wo_ (cf_ (a := (a0.length : Int)) (b := (a1.length : Int)) rfl rfl rfl (ae_ ?_))))))))))))))))
 rcases ifs h with ⟨hc1, h⟩ | ⟨hc1, h⟩
 ·
  refine al_ (b := (a0.length : Int) != (a1.length : Int)) rfl hc1 (ab_ (aa_ (wa_ (v := (vb false)) rfl rfl (ae_ (an_ ?_)))))
  obtain rfl := sj h
  exact ⟨rfl, (vb false), (bt_ rfl rfl), _, [], lr, hI, rfl, rfl⟩
 refine am_ (b := (a0.length : Int) != (a1.length : Int)) rfl hc1 (av_ (ab_ (ab_ (aa_ (wa_ (v := (vi 0)) rfl rfl (ae_ ?_))))))
 have hk1 : a0.length ≤ 9223372036854775807 := (cz_ h0_)
 obtain ⟨o2, hrun1, h⟩ := bnd h
 refine br_ (fun f w => ∃ out1, o2 = Sum.inl out1 ∧ ∃ (S_ : PH), S.Le S_ ∧ Inv w S_ (Fr) ∧ f 0 = (.slice z1 m1 k1) ∧ f 1 = (.slice z2 m2 k2) ∧ f.ds = []) ?_ ?_
 ·
  refine aw_ ?_
  refine eo_ (I := fun (i1 : Nat) (s1 : Unit) (f : Frm) (w : World) => ∃ (S_ : PH), S.Le S_ ∧ Inv w S_ (Fr) ∧ f 0 = (.slice z1 m1 k1) ∧ f 1 = (.slice z2 m2 k2) ∧ f 5 = (vi (i1 : Int)) ∧ f.ds = []) hrun1 ⟨_, lr, hI, rfl, rfl, rfl, rfl⟩ ?_ ?_
  ·
   rintro i1 s1 f w o1 hlt1 hI34 h1 hout1
   obtain ⟨S36, le36, I43, e33, e34, e35, ed7⟩ := hI34
   refine ab_ (ab_ (aa_ (wm_ rfl e35 (wm_ rfl e33 (wo_ (az_ rfl Tryz.underlying23 rfl (h0_.mono le36) (wo_ (bh_ (a := (i1 : Int)) (b := (a0.length : Int)) rfl rfl rfl (ae_ (al_ (b := decide ((i1 : Int) < (a0.length : Int))) rfl (et_ hlt1) (av_ (ab_ (aw_ (ab_ ?_))))))))))))))
   obtain ⟨x10, hx10, h1⟩ := bnd h1
   obtain ⟨x11, hx11, h1⟩ := bnd h1
   obtain ⟨x12, hx12, h1⟩ := bnd h1
   refine bj_ (sps := [spV 17 [] 0 (.slice z1 m1 k1), spV 18 [] 1 (vi (i1 : Int)), spV 19 [0, 1] 2 (ah_ (.slice z1 m1 k1) ((i1 : Int)) (Enc.sz (List Int))), spR 20 [0, 1, 2] 3 x10, spV 21 [] 4 (.slice z2 m2 k2), spV 22 [] 5 (vi (i1 : Int)), spV 23 [4, 5] 6 (ah_ (.slice z2 m2 k2) ((i1 : Int)) (Enc.sz (List Int))), spR 24 [4, 5, 6] 7 x11, spV 25 (lrg 8) 8 (vb x12), spV 26 (lrg 9) 9 (vb (!x12))]) (tks := []) (O := Fr) rfl (by kernel_rfl) I43 ⟨fun vs f w U X l A K I => pl_ rfl (ay_ rfl ((K 0 (ak_ rfl)).trans e33) (fn rfl rfl I)), fun vs f w U X l A K I => pl_ rfl (ay_ rfl ((K 5 (ak_ rfl)).trans e35) (fn rfl rfl I)), fun vs f w U X l A K I => pl_ rfl (ai_ (v := (.slice z1 m1 k1)) (i := (i1 : Int)) (e := x10) rfl Tryz.underlying23 fm_ (A.u 0 rfl rfl rfl) (h0_.mono (le36.trans l)) (A.u 1 rfl rfl rfl) hx10 (fn rfl rfl I)), ?_, fun vs f w U X l A K I => pl_ rfl (ay_ rfl ((K 1 (ak_ rfl)).trans e34) (fn rfl rfl I)), fun vs f w U X l A K I => pl_ rfl (ay_ rfl ((K 5 (ak_ rfl)).trans e35) (fn rfl rfl I)), fun vs f w U X l A K I => pl_ rfl (ai_ (v := (.slice z2 m2 k2)) (i := (i1 : Int)) (e := x11) rfl Tryz.underlying23 fm_ (A.u 0 rfl rfl rfl) (h1_.mono (le36.trans l)) (A.u 1 rfl rfl rfl) hx11 (fn rfl rfl I)), ?_, ?_, ?_, trivial⟩ ?_
   ·
    intro vs f w_ U X le A K I
    have q33 := A.u 2 rfl rfl rfl
    refine pl_ rfl (aj_ (e := x10) rfl fm_ q33 ((h0_.mono (le36.trans le)).elem I.in_ hx10) (fun u21 hu21 => ?_))
    obtain ⟨z15, m15, k15, rfl⟩ := ad_ hu21
    refine ⟨_, _, rfl, lr, ?_, ?_⟩
    · exact hu21
    exact I
   ·
    intro vs f w_ U X le A K I
    have q36 := A.u 2 rfl rfl rfl
    refine pl_ rfl (aj_ (e := x11) rfl fm_ q36 ((h1_.mono (le36.trans le)).elem I.in_ hx11) (fun u22 hu22 => ?_))
    obtain ⟨z16, m16, k16, rfl⟩ := ad_ hu22
    refine ⟨_, _, rfl, lr, ?_, ?_⟩
    · exact hu22
    exact I
   ·
    intro vs f w_ U X le A K I
    obtain ⟨z17, m17, k17, hu23, q37, r7⟩ := A.sl (a := 3) 3 rfl rfl rfl
    obtain ⟨z18, m18, k18, hu24, q38, r8⟩ := A.sl (a := 7) 7 rfl rfl rfl
    refine pl_ rfl (aq_ (vs := [(.slice z17 m17 k17), (.slice z18 m18 k18)]) (r := (vb x12)) rfl ca18 rfl (bu_ q37 q38) I (fun Fr_ hF_ => ey_ hF_ r7 r8 hx12) (fun w50 I54 => (fn rfl rfl I54)))
   ·
    intro vs f w_ U X le A K I
    refine pl_ rfl (ce_ rfl (A.u 8 rfl rfl rfl) (fn rfl rfl I))
   intro vs44 f w52 S47 ed8 le47 hF4 hK44 hI45
   have e40 : f 0 = (Value.slice z1 m1 k1) := (hK44 0 (ao_ rfl)).trans e33
   have e41 : f 1 = (Value.slice z2 m2 k2) := (hK44 1 (ao_ rfl)).trans e34
   have e42 : f 5 = (vi ((i1 : Int))) := (hK44 5 (ao_ rfl)).trans e35
   have I56 : Inv w52 S47 (Fr) := hI45
   have q40 := hF4.u 9 rfl rfl rfl
   rcases ifs h1 with ⟨hc5, h1⟩ | ⟨hc5, h1⟩
   ·
    refine al_ (b := !x12) q40 hc5 (ab_ (aa_ (wa_ (v := (vb false)) rfl rfl (ae_ (an_ ?_)))))
    obtain rfl := sj h1
    obtain rfl := (hout1 _ rfl)
    have h2 := h
    obtain rfl := sj h2
    exact ⟨(ed8.trans ed7), (vb false), (bt_ rfl rfl), _, [], (le36.trans le47), I56, rfl, rfl⟩
   refine am_ (b := !x12) q40 hc5 (av_ (aa_ (wm_ rfl e42 (wo_ (bo_ (a := (i1 : Int)) (b := 1) rfl rfl rfl (wa_ (v := (vi (w64 ((i1 : Int) + 1)))) rfl rfl (ae_ ?_)))))))
   obtain rfl := sj h1
   exact ⟨_, rfl, _, (le36.trans le47), I56, e40, e41, (bl_ hlt1 hk1), (ed8.trans ed7)⟩
  rintro s2 f w hs1 hI46
  obtain ⟨S48, le48, I57, e43, e44, e45, ed9⟩ := hI46
  refine ab_ (ab_ (aa_ (wm_ rfl e45 (wm_ rfl e43 (wo_ (az_ rfl Tryz.underlying23 rfl (h0_.mono le48) (wo_ (bh_ (a := (a0.length : Int)) (b := (a0.length : Int)) rfl rfl rfl (ae_ (am_ (b := decide ((a0.length : Int) < (a0.length : Int))) rfl (eu_ _) (bm_ ?_)))))))))))
  exact ⟨s2, hs1, _, le48, I57, e43, e44, ed9⟩
 rintro f w ⟨out1, rfl, S49, le49, I58, e46, e47, ed10⟩
 have h := ef_ h
 refine ab_ (aa_ (wa_ (v := (vb true)) rfl rfl (ae_ (an_ ?_))))
 obtain rfl := sj h
 exact ⟨ed10, (vb true), (bt_ rfl rfl), _, [], le49, I58, rfl, rfl⟩
end Go.Proofs.YtlpdpeghgndmkaaGreat.Pad
