/- A part of the proof: what the functions of the program compute, shown over the model. -/
import Derived.Test.YtlpdpeghgndmkaaGreatHizP
import Derived.Test.YtlpdpeghgndmkaaGreatHizW4
import Derived.Test.YtlpdpeghgndmkaaGreatHizW6
import Derived.Test.YtlpdpeghgndmkaaGreatHizW8
import Derived.KernelRfl
set_option linter.unusedVariables false
set_option maxHeartbeats 4000000
set_option maxRecDepth 100000
namespace Go.Proofs.YtlpdpeghgndmkaaGreat.Pad
open Go Go.Proofs
theorem hints_readings_ok {w : World} {S : PH} {Fr : List HP} {a0 : CodeLock} {v0 : Value} {a1 : (List Clue)} {v1 : Value} {r : (List (List Int))} (hI : Inv w S (Fr)) (h0_ : RV S v0 a0) (h1_ : RV S v1 a1) (h : fh_ a0 a1 = some r) :
    Calls Tryz.prog 95 [v0, v1].toArray w (ms_ S Fr (fun T_ v_ O_ => ∃ (a0_ : Option Addr) (n0_ k0_ : Nat), v_ = (Value.slice a0_ n0_ k0_) ∧ O_ = [Row (α := (List Int)) 28 (Value.slice a0_ n0_ k0_) (r)])) := by
 unfold fh_ at h
 have e1 := CodeLock.inv h0_
 subst e1
 obtain ⟨z1, m1, k1, rfl⟩ := af_ h1_
 refine ar_ (n := 14) (vs := [(.agg #[(vi a0.Wheels), (vi a0.Symbols)]), (.slice z1 m1 k1)]) Tryz.func95 rfl rfl rfl (ab_ (aa_ (wo_ (bi_ (v := (.agg #[(vi a0.Wheels), (vi a0.Symbols)])) rfl hI rfl (fun g1 w1 I1 => ?_)))))
 obtain ⟨S1, le1, I2, p1⟩ := Inv.boxFreeze (x := a0) I1 (CodeLock.rv (s := a0))
 refine wo_ (bi_ (v := (.slice z1 m1 k1)) rfl I2 rfl (fun g2 w2 I3 => ?_))
 obtain ⟨S2, le2, I4, p2⟩ := Inv.boxFreeze (x := a1) I3 (h1_.mono le1)
 refine wo_ (ca_ (z := (.slice none 0 0)) rfl I4 zo23 (fun g3 w3 (I5 : Inv w3 S2 (ao_ g3 23 #[(.slice none 0 0)] :: Fr)) => (ad_ (ab_ (aa_ (wo_ (ac_ (v := (pt_ g1)) rfl gw_ rfl ((p1.mono le2).at_ I5) (wo_ (ag_ (v := (ae_ (pt_ g1) 0)) (e := a0.Wheels) rfl sh3 rfl (((p1.mono le2).at_ I5).fld CodeLock.fld0) ?_)))))))))
 obtain ⟨x1, hx1, h⟩ := bnd h
 refine wo_ (fu_ (c := a0.Wheels) rfl Tryz.underlying28 el3 (by decide) rfl rfl I5 hx1 (fun u1 w4 I6 => ?_))
 obtain ⟨z2, m2, k2, e3⟩ := bk_ I6
 subst e3
 refine wo_ (ca_ (z := (.slice none 0 0)) rfl I6 zo28 (fun g4 w5 (I7 : Inv w5 S2 (ao_ g4 28 #[(.slice none 0 0)] :: Row (α := Int) 3 (.slice z2 m2 k2) (x1) :: ao_ g3 23 #[(.slice none 0 0)] :: Fr)) => (wo_ (bd_ (v := (.slice z2 m2 k2)) (cs := #[(.slice none 0 0)]) ht_ I7 rfl rfl rfl nb rfl (fun w6 (I8 : Inv w6 S2 (ao_ g4 28 #[(.slice z2 m2 k2)] :: Row (α := Int) 3 (.slice z2 m2 k2) (x1) :: ao_ g3 23 #[(.slice none 0 0)] :: Fr)) => (ad_ (ab_ (aa_ (wo_ (ca_ (z := (Value.nilFunc)) rfl I8 zo140 (fun g5 w7 (I9 : Inv w7 S2 (ao_ g5 140 #[(Value.nilFunc)] :: ao_ g4 28 #[(.slice z2 m2 k2)] :: Row (α := Int) 3 (.slice z2 m2 k2) (x1) :: ao_ g3 23 #[(.slice none 0 0)] :: Fr)) => (ad_ (ab_ (aa_ (wo_ (ck_ (fv := #[]) (cv := #[(pt_ g4), (pt_ g1), (pt_ g2), (pt_ g3), (pt_ g5)]) rfl arr0 (arr5 rfl rfl rfl rfl rfl) (wo_ (bd_ (v := (.func (.func 116) #[] #[(pt_ g4), (pt_ g1), (pt_ g2), (pt_ g3), (pt_ g5)])) (cs := #[(Value.nilFunc)]) sh140 I9 rfl rfl rfl nb rfl (fun w8 (I10 : Inv w8 S2 (ao_ g5 140 #[(.func (.func 116) #[] #[(pt_ g4), (pt_ g1), (pt_ g2), (pt_ g3), (pt_ g5)])] :: ao_ g4 28 #[(.slice z2 m2 k2)] :: Row (α := Int) 3 (.slice z2 m2 k2) (x1) :: ao_ g3 23 #[(.slice none 0 0)] :: Fr)) => (ad_ (ab_ (aa_ (wo_ (be_ (c := (.func (.func 116) #[] #[(pt_ g4), (pt_ g1), (pt_ g2), (pt_ g3), (pt_ g5)])) rfl sh140 (I10.nth 0 rfl) rfl rfl ?_))))))))))))))))))))))))
 have I11 := Inv.rowNil (α := (List Int)) (T := 28) I10
 obtain ⟨x2, hx2, h⟩ := bnd h
 refine wo_ (bo_ (vs := [(vi 0), (pt_ g4), (pt_ g1), (pt_ g2), (pt_ g3), (pt_ g5)]) rfl ca116 rfl (oa_ (vs := [(vi 0)]) (cap := #[(pt_ g4), (pt_ g1), (pt_ g2), (pt_ g3), (pt_ g5)]) (fk_ rfl)) (ox_ fuel_ (((((I11.pull 1).pull 1).pull 4).pull 4).pull 4) (p1.mono le2) p2 hx2) (fun v1 w9 S3 O1 le3 I12 hv1 => ?_))
 obtain ⟨z3, m3, k3, z4, m4, k4, rfl, rfl⟩ := hv1
 refine ad_ (ab_ (aa_ (wo_ (be_ (c := (.slice z4 m4 k4)) rfl mh_ (I12.nth 2 rfl) rfl rfl (wo_ (bd_ (v := (.slice z4 m4 k4)) (cs := #[(.slice z4 m4 k4)]) mh_ (I12.pull 2) rfl rfl rfl nb rfl (fun w10 (I13 : Inv w10 S3 (ao_ g3 23 #[(.slice z4 m4 k4)] :: ao_ g4 28 #[(.slice z3 m3 k3)] :: Row (α := Int) 3 (.slice z3 m3 k3) (x2.1) :: Row (α := (List Int)) 28 (.slice z4 m4 k4) (x2.2) :: ao_ g5 140 #[(.func (.func 116) #[] #[(pt_ g4), (pt_ g1), (pt_ g2), (pt_ g3), (pt_ g5)])] :: Fr)) => (ad_ (al_ ?_)))))))))
 obtain rfl := sj h
 exact ⟨rfl, (.slice z4 m4 k4), (resC1 (c := (.slice z4 m4 k4)) rfl rfl mh_ I13), _, [Row (α := (List Int)) 28 (.slice z4 m4 k4) (x2.2)], ((le1.trans le2).trans le3), ((((I13).drop).drop).drop.pull 1).drop, _, _, _, rfl, rfl⟩
theorem fc_ {w : World} {S : PH} {Fr : List HP} {a0 : Riddle} {v0 : Value} {r : (ORef Hints_room) × Int} (hI : Inv w S (Fr)) (h0_ : RV S v0 a0) (h : dz_ a0 = some r) :
    Calls Tryz.prog 71 [v0].toArray w (ms_ S Fr (fun T_ v_ O_ => ∃ (c0_ : Value), v_ = (Value.tuple #[c0_, (Value.int .i64 (r.2))]) ∧ O_ = [] ∧ RV T_ c0_ r.1)) := by
 unfold dz_ at h
 obtain ⟨c1, c2, c3, c4, e1, r1, r2, r3, r4⟩ := Riddle.inv h0_
 subst e1
 obtain ⟨z1, m1, k1, rfl⟩ := af_ r1
 obtain ⟨z2, m2, k2, rfl⟩ := af_ r2
 obtain ⟨z3, m3, k3, rfl⟩ := af_ r3
 obtain ⟨z4, m4, k4, rfl⟩ := af_ r4
 refine ar_ (n := 74) (vs := [(.agg #[(.slice z1 m1 k1), (.slice z2 m2 k2), (.slice z3 m3 k3), (.slice z4 m4 k4)])]) Tryz.func71 rfl rfl rfl (ab_ (aa_ (wo_ (bi_ (v := (.agg #[(.slice z1 m1 k1), (.slice z2 m2 k2), (.slice z3 m3 k3), (.slice z4 m4 k4)])) rfl hI rfl (fun g1 w1 I1 => ?_)))))
 obtain ⟨S1, le1, I2, p1⟩ := Inv.boxFreeze (x := a0) I1 (Riddle.rv (s := a0) r1 r2 r3 r4)
 refine wa_ (v := (.pointer none)) rfl rfl (wa_ (v := (vi 0)) rfl rfl (ad_ (ab_ (ab_ (aa_ (wo_ (an_ (v := (pt_ g1)) (e := a0) rfl ii_ rfl (p1.at_ I2) (fun u1 hu1 => ?_))))))))
 obtain ⟨c5, c6, c7, c8, e6, r5, r6, r7, r8⟩ := Riddle.inv hu1
 subst e6
 obtain ⟨z5, m5, k5, rfl⟩ := af_ r5
 obtain ⟨z6, m6, k6, rfl⟩ := af_ r6
 obtain ⟨z7, m7, k7, rfl⟩ := af_ r7
 obtain ⟨z8, m8, k8, rfl⟩ := af_ r8
 obtain ⟨x1, hx1, h⟩ := bnd h
 refine wo_ (ap_ (vs := [(.agg #[(.slice z5 m5 k5), (.slice z6 m6 k6), (.slice z7 m7 k7), (.slice z8 m8 k8)])]) (r := (vi x1)) rfl ca93 rfl (fk_ rfl) I2 (fun Fr_ hF_ => hints_Check_ok hF_ (Riddle.rv (s := a0) r5 r6 r7 r8) hx1) (fun w2 I3 => (wa_ (v := (vi x1)) rfl rfl (ad_ (ab_ (aa_ (wm_ (v := (vi x1)) rfl rfl (wo_ (cd_ (a := x1) (b := 0) rfl rfl rfl (ad_ ?_))))))))))
 rcases ifs h with ⟨hc1, h⟩ | ⟨hc1, h⟩
 ·
  refine ai_ (b := x1 != 0) rfl hc1 (ab_ (aa_ (wm_ (v := (vi x1)) rfl rfl (wa_ (v := (.pointer none)) rfl rfl (wa_ (v := (vi x1)) rfl rfl (ad_ (al_ ?_)))))))
  obtain rfl := sj h
  exact ⟨rfl, (Value.tuple #[(.pointer none), (vi x1)]), (oq_ rfl rfl rfl), _, [], le1, I3, _, rfl, rfl, li_⟩
 refine ak_ (b := x1 != 0) rfl hc1 (av_ (ab_ (aa_ (wo_ (an_ (v := (pt_ g1)) (e := a0) rfl ii_ rfl (p1.at_ I3) (fun u2 hu2 => ?_))))))
 obtain ⟨c9, c10, c11, c12, e11, r9, r10, r11, r12⟩ := Riddle.inv hu2
 subst e11
 obtain ⟨z9, m9, k9, rfl⟩ := af_ r9
 obtain ⟨z10, m10, k10, rfl⟩ := af_ r10
 obtain ⟨z11, m11, k11, rfl⟩ := af_ r11
 obtain ⟨z12, m12, k12, rfl⟩ := af_ r12
 refine wo_ (ha_ (qs := [(0, #[(.slice z9 m9 k9), (.slice z10 m10 k10), (.slice z11 m11 k11), (.slice z12 m12 k12)])]) (c := #[(.slice z9 m9 k9), (.slice z10 m10 k10), (.slice z11 m11 k11), (.slice z12 m12 k12), (.slice none 0 0)]) rfl st70 ⟨rfl, rfl, trivial⟩ rfl (wo_ (bi_ (v := (.agg #[(.slice z9 m9 k9), (.slice z10 m10 k10), (.slice z11 m11 k11), (.slice z12 m12 k12), (.slice none 0 0)])) rfl I3 rfl (fun g2 w3 I4 => (wa_ (v := (pt_ g2)) rfl rfl (ad_ (ab_ (aa_ (wa_ (v := (vi 1)) rfl rfl (ad_ (ab_ (ab_ (aa_ (wo_ (ac_ (v := (pt_ g1)) rfl eb_ rfl (p1.at_ I4) (wo_ (an_ (v := (ae_ (pt_ g1) 0)) (e := a0.Locks) rfl oe_ rfl ((p1.at_ I4).fld Riddle.fld0) (fun u3 hu3 => ?_))))))))))))))))))
 obtain ⟨z13, m13, k13, rfl⟩ := af_ hu3
 refine wo_ (bb_ rfl Tryz.underlying22 rfl hu3 (wm_ (v := (vi 0)) rfl rfl (ad_ ?_)))
 have hk1 : a0.Locks.length ≤ 9223372036854775807 := (ea_ r1)
 obtain ⟨o2, hrun1, h⟩ := bnd h
 refine bs_ (fun f w => ∃ out1, o2 = Sum.inl out1 ∧ ∃ (S_ : PH), S1.Le S_ ∧ Inv w S_ (ao_ g2 70 #[(.slice z9 m9 k9), (.slice z10 m10 k10), (.slice z11 m11 k11), (.slice z12 m12 k12), (.slice none 0 0)] :: Fr) ∧ f 1 = (pt_ g1) ∧ f 5 = (pt_ g2) ∧ f 6 = (vi out1) ∧ f 22 = (.slice z13 m13 k13) ∧ f 23 = (vi ((a0.Locks.length : Int))) ∧ f.ds = []) ?_ ?_
 ·
  refine ax_ ?_
  refine eh_ (I := fun (i1 : Nat) (s1 : (Int)) (f : Frm) (w : World) => ∃ (S_ : PH), S1.Le S_ ∧ Inv w S_ (ao_ g2 70 #[(.slice z9 m9 k9), (.slice z10 m10 k10), (.slice z11 m11 k11), (.slice z12 m12 k12), (.slice none 0 0)] :: Fr) ∧ f 1 = (pt_ g1) ∧ f 5 = (pt_ g2) ∧ f 6 = (vi s1) ∧ f 22 = (.slice z13 m13 k13) ∧ f 23 = (vi ((a0.Locks.length : Int))) ∧ f 24 = (vi (i1 : Int)) ∧ f.ds = []) hrun1 ⟨_, lr, I4, rfl, rfl, rfl, rfl, rfl, rfl, rfl⟩ ?_ ?_
  ·
   rintro i1 s1 f w o1 hlt1 hI40 h1 hout1
   obtain ⟨S43, le43, I59, e71, e72, e73, e74, e75, e76, ed7⟩ := hI40
   refine ab_ (aa_ (wo_ (bg_ (a := (i1 : Int)) (b := (a0.Locks.length : Int)) rfl e76 e75 (ad_ (ab_ (ai_ (b := decide ((i1 : Int) < (a0.Locks.length : Int))) rfl (gg_ hlt1) (av_ (ab_ (ax_ (ab_ (aa_ (wm_ rfl e76 ?_))))))))))))
   obtain ⟨x11, hx11, h1⟩ := bnd h1
   refine wo_ (aj_ (v := (.slice z13 m13 k13)) (i := (i1 : Int)) (e := x11) rfl Tryz.underlying22 jk_ e74 (hu3.mono le43) e76 hx11 (wo_ (an_ (v := (ah_ (.slice z13 m13 k13) ((i1 : Int)) (Enc.sz CodeLock))) (e := x11) rfl jk_ rfl ((hu3.mono le43).elem I59.in_ hx11) (fun u28 hu28 => ?_))))
   have e77 := CodeLock.inv hu28
   subst e77
   refine wo_ (ca_ (z := (.agg #[(vi 0), (vi 0)])) rfl I59 zo62 (fun g6 w55 (I60 : Inv w55 S43 (ao_ g6 62 #[(vi 0), (vi 0)] :: ao_ g2 70 #[(.slice z9 m9 k9), (.slice z10 m10 k10), (.slice z11 m11 k11), (.slice z12 m12 k12), (.slice none 0 0)] :: Fr)) => (wa_ (v := (vi (i1 : Int))) rfl rfl (wo_ (bd_ (v := (.agg #[(vi x11.Wheels), (vi x11.Symbols)])) (cs := #[(vi 0), (vi 0)]) jk_ I60 rfl rfl rfl nb rfl (fun w56 (I61 : Inv w56 S43 (ao_ g6 62 #[(vi x11.Wheels), (vi x11.Symbols)] :: ao_ g2 70 #[(.slice z9 m9 k9), (.slice z10 m10 k10), (.slice z11 m11 k11), (.slice z12 m12 k12), (.slice none 0 0)] :: Fr)) => (ad_ (ab_ ?_))))))))
   obtain ⟨x12, hx12, h1⟩ := bnd h1
   obtain ⟨x13, hx13, h1⟩ := bnd h1
   refine bm_ (sps := [⟨some 30, [], [0], fun vs_ T_ => fr0 vs_ 0 = (.agg #[(vi x11.Wheels), (vi x11.Symbols)]), [0], [], [], fun _ h_ => h_⟩, spV 31 [] 1 (ae_ (pt_ g1) 2), spR 32 [1] 2 (a0.Known), spV 33 [] 3 (vi (i1 : Int)), spW 34 [1, 2, 3] [4, 2] fun vs_ => (ah_ (fr0 vs_ 1) ((i1 : Int)) (Enc.sz (List Clue))), spR 35 [1, 2, 3, 4] 5 x12, spV 36 (lrg 6) 6 (Value.tuple #[(vi x13.1), (vi x13.2)]), spV 29 (lrg 7) 7 (Value.tuple #[(vi x13.1), (vi x13.2)]), spV 37 (lrg 8) 8 (vi x13.1), spV 38 (lrg 8) 9 (vi x13.2), spV 9 (lrg 9) 10 (vi x13.1), spV 10 (lrg 11) 11 (vi x13.2)]) (tks := [⟨none, none, [], fun vs_ => ao_ g6 62 #[(vi x11.Wheels), (vi x11.Symbols)]⟩]) (O := ao_ g2 70 #[(.slice z9 m9 k9), (.slice z10 m10 k10), (.slice z11 m11 k11), (.slice z12 m12 k12), (.slice none 0 0)] :: Fr) rfl (by kernel_rfl) I61 ⟨?_, fun vs f w U X l A K I => pl_ rfl (ac_ (v := (pt_ g1)) rfl jo_ ((K 1 (am_ rfl)).trans e71) ((p1.mono (le43.trans l)).at_ I) (fn rfl rfl I)), ?_, fun vs f w U X l A K I => pl_ rfl (aw_ (v := (vi (i1 : Int))) rfl (K 7 (am_ rfl)) (fn rfl rfl I)), ?_, ?_, ?_, fun vs f w U X l A K I => pl_ rfl (aw_ (v := (Value.tuple #[(vi x13.1), (vi x13.2)])) rfl (A.u 6 rfl rfl rfl) (fn rfl rfl I)), fun vs f w U X l A K I => pl_ rfl (bc_ (v := (vi x13.1)) rfl (A.u 7 rfl rfl rfl) rfl (fn rfl rfl I)), fun vs f w U X l A K I => pl_ rfl (bc_ (v := (vi x13.2)) rfl (A.u 7 rfl rfl rfl) rfl (fn rfl rfl I)), fun vs f w U X l A K I => pl_ rfl (cf_ (v := (vi x13.1)) rfl (A.u 8 rfl rfl rfl) (fn rfl rfl I)), ?_, trivial⟩ ?_
   ·
    intro vs f w_ U X le A K I
    have I63 : Inv w_ U (ao_ g6 62 #[(vi x11.Wheels), (vi x11.Symbols)] :: X) := I
    refine pl_ rfl (cz_ (l := [(vi x11.Wheels), (vi x11.Symbols)]) rfl jk_ (I63.nth 0 rfl) (K 8 (am_ rfl)) rfl rfl (fn rfl rfl I63))
   ·
    intro vs f w_ U X le A K I
    have q46 := A.u 0 rfl rfl rfl
    refine pl_ rfl (an_ (v := (ae_ (pt_ g1) 2)) (e := a0.Known) rfl sh24 q46 (((p1.mono (le43.trans le)).at_ I).fld Riddle.fld2) (fun u31 hu31 => ?_))
    obtain ⟨z29, m29, k29, rfl⟩ := af_ hu31
    refine ⟨_, _, rfl, lr, ?_, ?_⟩
    · exact hu31
    exact I
   ·
    intro vs f w_ U X le A K I
    obtain ⟨z30, m30, k30, hu32, q47, r22⟩ := A.sl (a := 2) 1 rfl rfl rfl
    have q48 := A.u 2 rfl rfl rfl
    refine pl_ rfl (aj_ (v := (.slice z30 m30 k30)) (i := (i1 : Int)) (e := x12) rfl Tryz.underlying24 sh63 q47 r22 q48 hx12 (⟨_, _, rfl, lr, ?_, ?_⟩))
    ·
     show (ah_ (Value.slice z30 m30 k30) ((i1 : Int)) (Enc.sz (List Clue))) = (ah_ (vs 2) ((i1 : Int)) (Enc.sz (List Clue)))
     simp only [hu32] <;> rfl
    exact I
   ·
    intro vs f w_ U X le A K I
    obtain ⟨z31, m31, k31, hu33, q49, r23⟩ := A.sl (a := 2) 1 rfl rfl rfl
    have q50 := A.u 2 rfl rfl rfl
    have q51 : f 34 = (ah_ (vs 2) ((i1 : Int)) (Enc.sz (List Clue))) := A.u 3 rfl rfl rfl
    simp only [hu33] at q51
    have q51 : f 34 = (ah_ (Value.slice z31 m31 k31) ((i1 : Int)) (Enc.sz (List Clue))) := q51
    refine pl_ rfl (an_ (v := (ah_ (.slice z31 m31 k31) ((i1 : Int)) (Enc.sz (List Clue)))) (e := x12) rfl sh63 q51 (r23.elem I.in_ hx12) (fun u34 hu34 => ?_))
    obtain ⟨z32, m32, k32, rfl⟩ := af_ hu34
    refine ⟨_, _, rfl, lr, ?_, ?_⟩
    · exact hu34
    exact I
   ·
    intro vs f w_ U X le A K I
    obtain ⟨z33, m33, k33, hu35, q53, r24⟩ := A.sl (a := 5) 5 rfl rfl rfl
    refine pl_ rfl (ap_ (vs := [(.agg #[(vi x11.Wheels), (vi x11.Symbols)]), (.slice z33 m33 k33)]) (r := (Value.tuple #[(vi x13.1), (vi x13.2)])) rfl ca94 rfl (bt_ (A.u 0 rfl rfl rfl) q53) I (fun Fr_ hF_ => codes_Count_ok hF_ (CodeLock.rv (s := x11)) r24 hx13) (fun w66 I70 => (fn rfl rfl I70)))
   ·
    intro vs f w_ U X le A K I
    refine pl_ rfl (cf_ (v := (vi x13.2)) rfl (A.u 9 rfl rfl rfl) (fn rfl rfl I))
   intro vs52 f w72 S56 ed8 le56 hF4 hK52 hI53
   have e83 : f 1 = (pt_ g1) := (hK52 1 (au_ rfl)).trans e71
   have e84 : f 5 = (pt_ g2) := (hK52 5 (au_ rfl)).trans e72
   have e85 : f 6 = (vi s1) := (hK52 6 (au_ rfl)).trans e73
   have e86 : f 22 = (Value.slice z13 m13 k13) := (hK52 22 (au_ rfl)).trans e74
   have e87 : f 23 = (vi ((a0.Locks.length : Int))) := (hK52 23 (au_ rfl)).trans e75
   have e88 : f 24 = (vi ((i1 : Int))) := (hK52 24 (au_ rfl)).trans e76
   have I76 : Inv w72 S56 (ao_ g6 62 #[(vi x11.Wheels), (vi x11.Symbols)] :: ao_ g2 70 #[(Value.slice z9 m9 k9), (Value.slice z10 m10 k10), (Value.slice z11 m11 k11), (Value.slice z12 m12 k12), (Value.slice none 0 0)] :: Fr) := hI53
   have q59 := hF4.u 10 rfl rfl rfl
   have q60 := hF4.u 11 rfl rfl rfl
   refine ab_ (ab_ (aa_ (wm_ rfl q60 (wo_ (cd_ (a := x13.2) (b := 0) rfl rfl rfl (ad_ ?_))))))
   rcases ifs h1 with ⟨hc8, h1⟩ | ⟨hc8, h1⟩
   ·
    refine ai_ (b := x13.2 != 0) rfl hc8 (ab_ (aa_ (wm_ rfl q60 (wa_ (v := (.pointer none)) rfl rfl (wa_ (v := (vi x13.2)) rfl rfl (ad_ (al_ ?_)))))))
    obtain rfl := sj h1
    obtain rfl := (hout1 _ rfl)
    have h2 := h
    obtain rfl := sj h2
    exact ⟨(ed8.trans ed7), (Value.tuple #[(.pointer none), (vi x13.2)]), (oq_ rfl rfl rfl), _, [], ((le1.trans le43).trans le56), ((I76).drop).drop, _, rfl, rfl, li_⟩
   refine ak_ (b := x13.2 != 0) rfl hc8 (av_ (ab_ (aa_ (wm_ rfl e85 (wm_ rfl q59 (wo_ (op_mul (a := s1) (b := x13.1) rfl rfl rfl (wa_ (v := (vi (w64 (s1 * x13.1)))) rfl rfl (ad_ (ab_ (aa_ (wm_ (v := (vi (w64 (s1 * x13.1)))) rfl rfl (wo_ (mq_ (a := w64 (s1 * x13.1)) (b := 20000) rfl rfl rfl (ad_ ?_)))))))))))))))
   rcases ifs h1 with ⟨hc9, h1⟩ | ⟨hc9, h1⟩
   ·
    refine ai_ (b := decide (20000 < (w64 (s1 * x13.1)))) rfl hc9 (ab_ (aa_ (wa_ (v := (.pointer none)) rfl rfl (wa_ (v := (vi 2)) rfl rfl (ad_ (al_ ?_))))))
    obtain rfl := sj h1
    obtain rfl := (hout1 _ rfl)
    have h2 := h
    obtain rfl := sj h2
    exact ⟨(ed8.trans ed7), (Value.tuple #[(.pointer none), (vi 2)]), (oq_ rfl rfl rfl), _, [], ((le1.trans le43).trans le56), ((I76).drop).drop, _, rfl, rfl, li_⟩
   refine ak_ (b := decide (20000 < (w64 (s1 * x13.1)))) rfl hc9 (av_ (aa_ (wo_ (bp_ (a := (i1 : Int)) (b := 1) rfl e88 rfl (wm_ (v := (vi (w64 ((i1 : Int) + 1)))) rfl rfl (ad_ ?_))))))
   obtain rfl := sj h1
   exact ⟨_, rfl, _, (le43.trans le56), (I76).drop, e83, e84, rfl, e86, e87, (bl_ hlt1 hk1), (ed8.trans ed7)⟩
  rintro s2 f w hs1 hI54
  obtain ⟨S57, le57, I77, e89, e90, e91, e92, e93, e94, ed9⟩ := hI54
  refine ab_ (aa_ (wo_ (bg_ (a := (a0.Locks.length : Int)) (b := (a0.Locks.length : Int)) rfl e94 e93 (ad_ (ab_ (ak_ (b := decide ((a0.Locks.length : Int) < (a0.Locks.length : Int))) rfl (gh_ _) (bj_ ?_)))))))
  exact ⟨s2, hs1, _, le57, I77, e89, e90, e91, e92, e93, ed9⟩
 rintro f w ⟨out1, rfl, S58, le58, I78, e95, e96, e97, e98, e99, ed10⟩
 have h := ds_ h
 refine ab_ (ab_ (aa_ (wo_ (ac_ (v := (pt_ g1)) rfl eb_ e95 ((p1.mono le58).at_ I78) (wo_ (an_ (v := (ae_ (pt_ g1) 0)) (e := a0.Locks) rfl oe_ rfl (((p1.mono le58).at_ I78).fld Riddle.fld0) (fun u36 hu36 => ?_)))))))
 obtain ⟨z34, m34, k34, rfl⟩ := af_ hu36
 refine wo_ (bb_ rfl Tryz.underlying22 rfl hu36 (wm_ (v := (vi 0)) rfl rfl (ad_ ?_)))
 have hk2 : a0.Locks.length ≤ 9223372036854775807 := (ea_ hu3)
 have I186 := Inv.rowNil (α := (List (List Int))) (T := 23) I78
 obtain ⟨out2, hrun2, h⟩ := bnd h
 refine bs_ (fun f w => ∃ (S_ : PH) (z77 : Option Addr) (m77 k77 : Nat), S58.Le S_ ∧ Inv w S_ (ao_ g2 70 #[(.slice z9 m9 k9), (.slice z10 m10 k10), (.slice z11 m11 k11), (.slice z12 m12 k12), (.slice z77 m77 k77)] :: Row (α := (List (List Int))) 23 (.slice z77 m77 k77) (out2) :: Fr) ∧ f 1 = (pt_ g1) ∧ f 5 = (pt_ g2) ∧ f 49 = (.slice z34 m34 k34) ∧ f 50 = (vi ((a0.Locks.length : Int))) ∧ f.ds = []) ?_ ?_
 ·
  refine ax_ ?_
  refine fj_ (I := fun (i2 : Nat) (s3 : (List (List (List Int)))) (f : Frm) (w : World) => ∃ (S_ : PH) (z76 : Option Addr) (m76 k76 : Nat), S58.Le S_ ∧ Inv w S_ (ao_ g2 70 #[(.slice z9 m9 k9), (.slice z10 m10 k10), (.slice z11 m11 k11), (.slice z12 m12 k12), (.slice z76 m76 k76)] :: Row (α := (List (List Int))) 23 (.slice z76 m76 k76) (s3) :: Fr) ∧ f 1 = (pt_ g1) ∧ f 5 = (pt_ g2) ∧ f 49 = (.slice z34 m34 k34) ∧ f 50 = (vi ((a0.Locks.length : Int))) ∧ f 51 = (vi (i2 : Int)) ∧ f.ds = []) hrun2 ⟨_, _, _, _, lr, (I186.pull 1), e95, e96, rfl, rfl, rfl, ed10⟩ ?_ ?_
  ·
   rintro i2 s3 f w o3 hlt2 hI109 h3
   obtain ⟨S124, z76, m76, k76, le124, I187, e170, e171, e172, e173, e174, ed17⟩ := hI109
   refine ab_ (aa_ (wo_ (bg_ (a := (i2 : Int)) (b := (a0.Locks.length : Int)) rfl e174 e173 (ad_ (ab_ (ai_ (b := decide ((i2 : Int) < (a0.Locks.length : Int))) rfl (gg_ hlt2) (av_ (ab_ (ax_ (ab_ (aa_ (wm_ rfl e174 ?_))))))))))))
   obtain ⟨x26, hx26, h3⟩ := bnd h3
   refine wo_ (aj_ (v := (.slice z34 m34 k34)) (i := (i2 : Int)) (e := x26) rfl Tryz.underlying22 jk_ e172 (hu36.mono le124) e174 hx26 (wo_ (an_ (v := (ah_ (.slice z34 m34 k34) ((i2 : Int)) (Enc.sz CodeLock))) (e := x26) rfl jk_ rfl ((hu36.mono le124).elem I187.in_ hx26) (fun u73 hu61 => ?_))))
   have e175 := CodeLock.inv hu61
   subst e175
   refine wo_ (ca_ (z := (.agg #[(vi 0), (vi 0)])) rfl I187 zo62 (fun g10 w154 (I188 : Inv w154 S124 (ao_ g10 62 #[(vi 0), (vi 0)] :: ao_ g2 70 #[(.slice z9 m9 k9), (.slice z10 m10 k10), (.slice z11 m11 k11), (.slice z12 m12 k12), (.slice z76 m76 k76)] :: Row (α := (List (List Int))) 23 (.slice z76 m76 k76) (s3) :: Fr)) => (wa_ (v := (vi (i2 : Int))) rfl rfl (wo_ (bd_ (v := (.agg #[(vi x26.Wheels), (vi x26.Symbols)])) (cs := #[(vi 0), (vi 0)]) jk_ I188 rfl rfl rfl nb rfl (fun w155 (I189 : Inv w155 S124 (ao_ g10 62 #[(vi x26.Wheels), (vi x26.Symbols)] :: ao_ g2 70 #[(.slice z9 m9 k9), (.slice z10 m10 k10), (.slice z11 m11 k11), (.slice z12 m12 k12), (.slice z76 m76 k76)] :: Row (α := (List (List Int))) 23 (.slice z76 m76 k76) (s3) :: Fr)) => (ad_ ?_)))))))
   obtain ⟨x27, hx27, h3⟩ := bnd h3
   obtain ⟨x28, hx28, h3⟩ := bnd h3
   obtain ⟨x29, hx29, h3⟩ := bnd h3
   refine bm_ (sps := [spV 56 [] 0 (pt_ g2), spV 57 [] 1 (pt_ g2), spV 58 [1] 2 (pt_ g2), spV 59 [1, 2] 3 (.pointer (some ⟨g2, 4, none⟩)), ⟨some 60, [1, 2, 3], [4], fun vs_ T_ => fr0 vs_ 0 = (.slice z76 m76 k76), [0], [], [], fun _ h_ => h_⟩, ⟨some 61, [], [5], fun vs_ T_ => fr0 vs_ 0 = (.agg #[(vi x26.Wheels), (vi x26.Symbols)]), [1], [], [], fun _ h_ => h_⟩, spV 62 [] 6 (ae_ (pt_ g1) 2), spR 63 [6] 7 (a0.Known), spV 64 [] 8 (vi (i2 : Int)), spW 65 [6, 7, 8] [9, 7] fun vs_ => (ah_ (fr0 vs_ 1) ((i2 : Int)) (Enc.sz (List Clue))), spR 66 [6, 7, 8, 9] 10 x27, ⟨some 67, [5, 6, 7, 8, 9, 10], [11], fun vs_ T_ => ∃ (a0_ : Option Addr) (n0_ k0_ : Nat), fr0 vs_ 0 = (.slice a0_ n0_ k0_), [], [], [2], fun _ h_ => h_⟩, ⟨some 68, [5, 6, 7, 8, 9, 10, 11], [12], fun vs_ T_ => ∃ a_ n_ k_, fr0 vs_ 0 = Value.slice a_ n_ k_, [], [2], [3], fun _ h_ => h_⟩, ⟨some 69, [1, 2, 3, 4, 5, 6, 7, 8, 9, 10, 11, 12], [13], fun vs_ T_ => ∃ a_ n_ k_, fr0 vs_ 0 = Value.slice a_ n_ k_, [3], [4], [5], fun _ h_ => h_⟩, spV 70 (lrg 14) 14 (pt_ g2), spV 71 (lrg 15) 15 (.pointer (some ⟨g2, 4, none⟩)), ⟨none, (lrg 16), [], fun vs_ T_ => True, [5], [0], [6], fun _ h_ => h_⟩]) (tks := [⟨none, some 16, [], fun vs_ => ao_ g2 70 #[(.slice z9 m9 k9), (.slice z10 m10 k10), (.slice z11 m11 k11), (.slice z12 m12 k12), (.slice z76 m76 k76)]⟩, ⟨none, none, [], fun vs_ => ao_ g10 62 #[(vi x26.Wheels), (vi x26.Symbols)]⟩, ⟨some 11, some 12, [11], fun vs_ => Row (α := (List Int)) 28 (fr0 vs_ 0) (x28)⟩, ⟨some 12, none, [12], fun vs_ => Row (α := (List (List Int))) 23 (fr0 vs_ 0) (([x28] : List (List (List Int))))⟩, ⟨none, some 13, [], fun vs_ => Row (α := (List (List Int))) 23 (.slice z76 m76 k76) (s3)⟩, ⟨some 13, none, [13], fun vs_ => Row (α := (List (List Int))) 23 (fr0 vs_ 0) (x29)⟩, ⟨some 16, none, [13], fun vs_ => ao_ g2 70 #[(.slice z9 m9 k9), (.slice z10 m10 k10), (.slice z11 m11 k11), (.slice z12 m12 k12), (fr0 vs_ 0)]⟩]) (O := Fr) rfl (by kernel_rfl) (((I189.pull 2).pull 1).pull 2) ⟨fun vs f w U X l A K I => pl_ rfl (aw_ (v := (pt_ g2)) rfl ((K 5 (am_ rfl)).trans e171) (fn rfl rfl I)), fun vs f w U X l A K I => pl_ rfl (aw_ (v := (pt_ g2)) rfl ((K 5 (am_ rfl)).trans e171) (fn rfl rfl I)), fun vs f w U X l A K I => pl_ rfl (ou_ (v := (pt_ g2)) rfl (A.u 0 rfl rfl rfl) rfl (fn rfl rfl I)), fun vs f w U X l A K I => pl_ rfl (az_ (v := (pt_ g2)) rfl fa70_1 (A.u 1 rfl rfl rfl) rfl (fn rfl rfl I)), ?_, ?_, fun vs f w U X l A K I => pl_ rfl (ac_ (v := (pt_ g1)) rfl jo_ ((K 1 (am_ rfl)).trans e170) ((p1.mono ((le58.trans le124).trans l)).at_ I) (fn rfl rfl I)), ?_, fun vs f w U X l A K I => pl_ rfl (aw_ (v := (vi (i2 : Int))) rfl (K 11 (am_ rfl)) (fn rfl rfl I)), ?_, ?_, ?_, ?_, ?_, fun vs f w U X l A K I => pl_ rfl (ou_ (v := (pt_ g2)) rfl (A.u 0 rfl rfl rfl) rfl (fn rfl rfl I)), fun vs f w U X l A K I => pl_ rfl (az_ (v := (pt_ g2)) rfl fa70_1 (A.u 14 rfl rfl rfl) rfl (fn rfl rfl I)), ?_, trivial⟩ ?_
   ·
    intro vs f w_ U X le A K I
    have I198 : Inv w_ U (ao_ g2 70 #[(Value.slice z9 m9 k9), (Value.slice z10 m10 k10), (Value.slice z11 m11 k11), (Value.slice z12 m12 k12), (Value.slice z76 m76 k76)] :: X) := I
    refine pl_ rfl (be_ (c := (.slice z76 m76 k76)) rfl sh55 (I198.nth 0 rfl) (A.u 2 rfl rfl rfl) rfl (fn rfl rfl I198))
   ·
    intro vs f w_ U X le A K I
    have I199 : Inv w_ U (ao_ g10 62 #[(vi x26.Wheels), (vi x26.Symbols)] :: X) := I
    refine pl_ rfl (cz_ (l := [(vi x26.Wheels), (vi x26.Symbols)]) rfl jk_ (I199.nth 0 rfl) (K 12 (am_ rfl)) rfl rfl (fn rfl rfl I199))
   ·
    intro vs f w_ U X le A K I
    have q124 := A.u 0 rfl rfl rfl
    refine pl_ rfl (an_ (v := (ae_ (pt_ g1) 2)) (e := a0.Known) rfl sh24 q124 (((p1.mono ((le58.trans le124).trans le)).at_ I).fld Riddle.fld2) (fun u78 hu64 => ?_))
    obtain ⟨z78, m78, k78, rfl⟩ := af_ hu64
    refine ⟨_, _, rfl, lr, ?_, ?_⟩
    · exact hu64
    exact I
   ·
    intro vs f w_ U X le A K I
    obtain ⟨z79, m79, k79, hu65, q125, r41⟩ := A.sl (a := 7) 1 rfl rfl rfl
    have q126 := A.u 2 rfl rfl rfl
    refine pl_ rfl (aj_ (v := (.slice z79 m79 k79)) (i := (i2 : Int)) (e := x27) rfl Tryz.underlying24 sh63 q125 r41 q126 hx27 (⟨_, _, rfl, lr, ?_, ?_⟩))
    ·
     show (ah_ (Value.slice z79 m79 k79) ((i2 : Int)) (Enc.sz (List Clue))) = (ah_ (vs 7) ((i2 : Int)) (Enc.sz (List Clue)))
     simp only [hu65] <;> rfl
    exact I
   ·
    intro vs f w_ U X le A K I
    obtain ⟨z80, m80, k80, hu66, q127, r42⟩ := A.sl (a := 7) 1 rfl rfl rfl
    have q128 := A.u 2 rfl rfl rfl
    have q129 : f 65 = (ah_ (vs 7) ((i2 : Int)) (Enc.sz (List Clue))) := A.u 3 rfl rfl rfl
    simp only [hu66] at q129
    have q129 : f 65 = (ah_ (Value.slice z80 m80 k80) ((i2 : Int)) (Enc.sz (List Clue))) := q129
    refine pl_ rfl (an_ (v := (ah_ (.slice z80 m80 k80) ((i2 : Int)) (Enc.sz (List Clue)))) (e := x27) rfl sh63 q129 (r42.elem I.in_ hx27) (fun u81 hu67 => ?_))
    obtain ⟨z81, m81, k81, rfl⟩ := af_ hu67
    refine ⟨_, _, rfl, lr, ?_, ?_⟩
    · exact hu67
    exact I
   ·
    intro vs f w_ U X le A K I
    have q130 := A.u 0 rfl rfl rfl
    obtain ⟨z82, m82, k82, hu68, q131, r43⟩ := A.sl (a := 10) 5 rfl rfl rfl
    refine pl_ rfl (bo_ (vs := [(.agg #[(vi x26.Wheels), (vi x26.Symbols)]), (.slice z82 m82 k82)]) rfl ca95 rfl (bt_ q130 q131) (hints_readings_ok I (CodeLock.rv (s := x26)) r43 hx28) (fun cv4 w171 S138 O4 le138 I206 hv4 => ?_))
    obtain ⟨z83, m83, k83, rfl, rfl⟩ := hv4
    refine ⟨_, _, rfl, le138, ?_, ?_⟩
    · exact ⟨_, _, _, rfl⟩
    exact I206
   ·
    intro vs f w_ U X le A K I
    have I207 : Inv w_ U (Row (α := (List Int)) 28 (vs 11) (x28) :: X) := I
    obtain ⟨z84, m84, k84, e181, q132⟩ := A.rf (a := 11) 6 rfl rfl rfl
    have I208 := I207
    rw [e181] at I208
    obtain ⟨S140, le140, I209, r44⟩ := Inv.rowFreeze I208
    refine pl_ rfl (bh_ (vs := [(.slice z84 m84 k84)]) (r := ([x28] : List (List (List Int)))) rfl Tryz.underlying55 el23 (ij_ q132) rfl (by decide) (by decide) ⟨r44, trivial⟩ I209 (fun u83 w173 I210 => ?_))
    obtain ⟨z85, m85, k85, e182⟩ := bk_ I210
    subst e182
    refine ⟨_, _, rfl, le140, ?_, ?_⟩
    · exact ⟨_, _, _, rfl⟩
    exact I210
   ·
    intro vs f w_ U X le A K I
    have I211 : Inv w_ U (Row (α := (List (List Int))) 23 (Value.slice z76 m76 k76) (s3) :: Row (α := (List (List Int))) 23 (vs 12) (([x28] : List (List (List Int)))) :: X) := I
    have q133 := A.u 3 rfl rfl rfl
    obtain ⟨z86, m86, k86, e183⟩ := (A.at_ 11 rfl _ rfl).2
    have q134 : f 68 = Value.slice z86 m86 k86 := ((A.at_ 11 rfl _ rfl).1 _ rfl).trans e183
    have e183 : vs 12 = (Value.slice z86 m86 k86) := e183
    have I212 := I211
    rw [e183] at I212
    refine pl_ rfl (ef_ (α := (List (List Int))) (v := (.slice z76 m76 k76)) (u := (.slice z86 m86 k86)) rfl rfl Tryz.underlying55 el23 (by decide) (by decide) q133 q134 I212 (Inv.rowSrc (I212.nth 1 rfl)) hx29 (fun u84 w175 I213 => ?_))
    obtain ⟨z87, m87, k87, e184⟩ := bk_ I213
    subst e184
    refine ⟨_, _, rfl, lr, ?_, ?_⟩
    · exact ⟨_, _, _, rfl⟩
    show Inv _ _ (Row (α := (List (List Int))) 23 ((Value.slice z87 m87 k87)) (x29) :: Row (α := (List (List Int))) 23 (vs 12) (([x28] : List (List (List Int)))) :: X)
    simp only [e183]
    exact ((I213.pull 1).pull 1)
   ·
    intro vs f w_ U X le A K I
    have I216 : Inv w_ U (ao_ g2 70 #[(Value.slice z9 m9 k9), (Value.slice z10 m10 k10), (Value.slice z11 m11 k11), (Value.slice z12 m12 k12), (Value.slice z76 m76 k76)] :: Row (α := (List (List Int))) 23 (vs 13) (x29) :: X) := I
    obtain ⟨z88, m88, k88, e185⟩ := (A.at_ 13 rfl _ rfl).2
    have q137 : f 69 = Value.slice z88 m88 k88 := ((A.at_ 13 rfl _ rfl).1 _ rfl).trans e185
    have e185 : vs 13 = (Value.slice z88 m88 k88) := e185
    have I217 := I216
    rw [e185] at I217
    have q138 := A.u 15 rfl rfl rfl
    refine pl_ rfl (bd_ (v := (.slice z88 m88 k88)) (cs := #[(.slice z9 m9 k9), (.slice z10 m10 k10), (.slice z11 m11 k11), (.slice z12 m12 k12), (.slice z76 m76 k76)]) sh55 I217 q138 q137 rfl nb rfl (fun w179 (I218 : Inv w179 U (ao_ g2 70 #[(.slice z9 m9 k9), (.slice z10 m10 k10), (.slice z11 m11 k11), (.slice z12 m12 k12), (.slice z88 m88 k88)] :: Row (α := (List (List Int))) 23 (.slice z88 m88 k88) (x29) :: X)) => (⟨undef, _, rfl, lr, ?_, ?_⟩)))
    · exact trivial
    show Inv _ _ (ao_ g2 70 #[(Value.slice z9 m9 k9), (Value.slice z10 m10 k10), (Value.slice z11 m11 k11), (Value.slice z12 m12 k12), (vs 13)] :: Row (α := (List (List Int))) 23 (vs 13) (x29) :: X)
    simp only [e185]
    exact ((I218.pull 1).pull 1)
   intro vs124 f w180 S145 ed18 le145 hF8 hK124 hI127
   have e186 : f 1 = (pt_ g1) := (hK124 1 (au_ rfl)).trans e170
   have e187 : f 5 = (pt_ g2) := (hK124 5 (au_ rfl)).trans e171
   have e188 : f 49 = (Value.slice z34 m34 k34) := (hK124 49 (au_ rfl)).trans e172
   have e189 : f 50 = (vi ((a0.Locks.length : Int))) := (hK124 50 (au_ rfl)).trans e173
   have e190 : f 51 = (vi ((i2 : Int))) := (hK124 51 (au_ rfl)).trans e174
   have I219 : Inv w180 S145 (ao_ g10 62 #[(vi x26.Wheels), (vi x26.Symbols)] :: Row (α := (List (List Int))) 23 (vs124 12) (([x28] : List (List (List Int)))) :: Row (α := (List (List Int))) 23 (vs124 13) (x29) :: ao_ g2 70 #[(Value.slice z9 m9 k9), (Value.slice z10 m10 k10), (Value.slice z11 m11 k11), (Value.slice z12 m12 k12), (vs124 13)] :: Fr) := hI127
   obtain ⟨z89, m89, k89, e191⟩ := (hF8.at_ 12 rfl _ rfl).2
   have q139 : f 68 = Value.slice z89 m89 k89 := ((hF8.at_ 12 rfl _ rfl).1 _ rfl).trans e191
   have e191 : vs124 12 = (Value.slice z89 m89 k89) := e191
   have I220 := I219
   rw [e191] at I220
   obtain ⟨z90, m90, k90, e192⟩ := (hF8.at_ 13 rfl _ rfl).2
   have q140 : f 69 = Value.slice z90 m90 k90 := ((hF8.at_ 13 rfl _ rfl).1 _ rfl).trans e192
   have e192 : vs124 13 = (Value.slice z90 m90 k90) := e192
   have I221 := I220
   rw [e192] at I221
   refine aa_ (wo_ (bp_ (a := (i2 : Int)) (b := 1) rfl e190 rfl (wm_ (v := (vi (w64 ((i2 : Int) + 1)))) rfl rfl (ad_ ?_))))
   obtain rfl := sj h3
   exact ⟨_, _, _, _, (le124.trans le145), (((I221).drop).drop.pull 1), e186, e187, e188, e189, (bl_ hlt2 hk2), (ed18.trans ed17)⟩
  rintro f w hI128
  obtain ⟨S146, z91, m91, k91, le146, I222, e193, e194, e195, e196, e197, ed19⟩ := hI128
  refine ab_ (aa_ (wo_ (bg_ (a := (a0.Locks.length : Int)) (b := (a0.Locks.length : Int)) rfl e197 e196 (ad_ (ab_ (ak_ (b := decide ((a0.Locks.length : Int) < (a0.Locks.length : Int))) rfl (gh_ _) (bj_ ?_)))))))
  exact ⟨_, _, _, _, le146, ((I222.pull 1).pull 1), e193, e194, e195, e196, ed19⟩
 rintro f w ⟨S147, z77, m77, k77, le147, I223, e198, e199, e200, e201, ed20⟩
 refine ab_ (aa_ (wm_ rfl e199 (wa_ (v := (pt_ g2)) rfl rfl (wa_ (v := (vi 0)) rfl rfl (ad_ (al_ ?_))))))
 obtain ⟨S148, le148, I224, r45⟩ := Inv.rowFreeze (I223.pull 1)
 obtain ⟨S149, le149, I225, p2⟩ := Inv.boxFreeze (u := (Value.agg #[(Value.slice z9 m9 k9), (Value.slice z10 m10 k10), (Value.slice z11 m11 k11), (Value.slice z12 m12 k12), (Value.slice z77 m77 k77)])) (x := (⟨(⟨a0.Locks, a0.Codes, a0.Known, a0.Ties⟩ : Riddle), out2⟩ : Hints_room)) I224 (Hints_room.rv (s := (⟨(⟨a0.Locks, a0.Codes, a0.Known, a0.Ties⟩ : Riddle), out2⟩ : Hints_room)) (r9.mono ((le58.trans le147).trans le148)) (r10.mono ((le58.trans le147).trans le148)) (r11.mono ((le58.trans le147).trans le148)) (r12.mono ((le58.trans le147).trans le148)) r45)
 obtain rfl := sj h
 exact ⟨ed20, (Value.tuple #[(pt_ g2), (vi 0)]), (oq_ rfl rfl rfl), _, [], ((((le1.trans le58).trans le147).trans le148).trans le149), I225, _, rfl, rfl, (rv_oref' p2)⟩
theorem ik_ {w : World} {S : PH} {Fr : List HP} {a0 : Int} {a1 : Int} {a2 : (PRef Hints_room)} {v2 : Value} {a3 : (List Int)} {v3 : Value} {r : Int} (hI : Inv w S (Fr)) (h2_ : PtS S v2 a2) (h3_ : PtS S v3 a3) (h : cn_ a0 a1 a2 a3 = some r) :
    Calls Tryz.prog 96 [(Value.int .i64 (a0)), (Value.int .i64 (a1)), v2, v3].toArray w (cc_ S Fr (Value.int .i64 (r))) := by
 unfold cn_ at h
 refine ar_ (n := 23) (vs := [(vi a0), (vi a1), v2, v3]) Tryz.func96 rfl rfl rfl (ab_ (aa_ (wa_ (v := (vi 0)) rfl rfl (ad_ (ab_ ?_)))))
 obtain ⟨x1, hx1, h⟩ := bnd h
 obtain ⟨x2, hx2, h⟩ := bnd h
 obtain ⟨x3, hx3, h⟩ := bnd h
 obtain ⟨x4, hx4, h⟩ := bnd h
 refine bm_ (sps := [⟨some 7, [], [0], fun vs_ T_ => PtS T_ (fr0 vs_ 0) a2.v, [], [], [], fun hle_ h_ => h_.mono hle_⟩, spW 8 [0] [1, 0] fun vs_ => (fr0 vs_ 1), spW 9 [0, 1] [2, 0] fun vs_ => (ae_ (fr0 vs_ 1) 4), spR 10 [0, 1, 2] 3 (a2.v.allowed), spV 11 [] 4 (vi a0), spW 12 [0, 1, 2, 3, 4] [5, 3] fun vs_ => (ah_ (fr0 vs_ 1) (a0) (Enc.sz (List (List Int)))), spR 13 (lrg 6) 6 x1, spR 14 [] 7 a3, spV 15 [] 8 (vi a0), spW 16 [7, 8] [9, 7] fun vs_ => (ah_ (fr0 vs_ 1) (a0) (Enc.sz Int)), spV 17 [7, 8, 9] 10 (vi x2), spW 18 (lrg 11) [11, 6] fun vs_ => (ah_ (fr0 vs_ 1) (x2) (Enc.sz (List Int))), spR 19 (lrg 12) 12 x3, spV 20 [] 13 (vi a1), spW 21 (lrg 14) [14, 12] fun vs_ => (ah_ (fr0 vs_ 1) (a1) (Enc.sz Int)), spV 22 (lrg 15) 15 (vi x4), spV 6 (lrg 16) 16 (vi x4)]) (tks := []) (O := Fr) rfl (by kernel_rfl) hI ⟨?_, ?_, ?_, ?_, fun vs f w U X l A K I => pl_ rfl (aw_ (v := (vi a0)) rfl (K 0 (am_ rfl)) (fn rfl rfl I)), ?_, ?_, ?_, fun vs f w U X l A K I => pl_ rfl (aw_ (v := (vi a0)) rfl (K 0 (am_ rfl)) (fn rfl rfl I)), ?_, ?_, ?_, ?_, fun vs f w U X l A K I => pl_ rfl (aw_ (v := (vi a1)) rfl (K 1 (am_ rfl)) (fn rfl rfl I)), ?_, ?_, ?_, trivial⟩ ?_
 ·
  intro vs f w_ U X le A K I
  refine pl_ rfl (an_ (v := v2) (e := a2) rfl sh66 (K 2 (am_ rfl)) ((h2_.mono le).at_ I) (fun u6 hu6 => ?_))
  have hu6 := rv_ref hu6
  refine ⟨_, _, rfl, lr, ?_, ?_⟩
  · exact hu6
  exact I
 ·
  intro vs f w_ U X le A K I
  have q1 : f 7 = vs 0 := (A.at_ 0 rfl _ rfl).1 _ rfl
  have r1 : PtS U (vs 0) a2.v := (A.at_ 0 rfl _ rfl).2
  refine pl_ rfl (dx_ (v := (vs 0)) rfl q1 r1 (fn rfl rfl I))
 ·
  intro vs f w_ U X le A K I
  have q2 : f 7 = vs 0 := (A.at_ 0 rfl _ rfl).1 _ rfl
  have r2 : PtS U (vs 0) a2.v := (A.at_ 0 rfl _ rfl).2
  refine pl_ rfl (ac_ (v := (vs 0)) rfl fa70_1 (A.u 1 rfl rfl rfl) (r2.at_ I) (fn rfl rfl I))
 ·
  intro vs f w_ U X le A K I
  have q4 : f 7 = vs 0 := (A.at_ 0 rfl _ rfl).1 _ rfl
  have r3 : PtS U (vs 0) a2.v := (A.at_ 0 rfl _ rfl).2
  have q5 := A.u 1 rfl rfl rfl
  have q6 := A.u 2 rfl rfl rfl
  refine pl_ rfl (an_ (v := (ae_ (vs 0) 4)) (e := a2.v.allowed) rfl sh55 q6 ((r3.at_ I).fld Hints_room.fld1) (fun u7 hu7 => ?_))
  obtain ⟨z1, m1, k1, rfl⟩ := af_ hu7
  refine ⟨_, _, rfl, lr, ?_, ?_⟩
  · exact hu7
  exact I
 ·
  intro vs f w_ U X le A K I
  obtain ⟨z2, m2, k2, hu8, q7, r4⟩ := A.sl (a := 3) 3 rfl rfl rfl
  have q8 := A.u 4 rfl rfl rfl
  refine pl_ rfl (aj_ (v := (.slice z2 m2 k2)) (i := a0) (e := x1) rfl Tryz.underlying55 mh_ q7 r4 q8 hx1 (⟨_, _, rfl, lr, ?_, ?_⟩))
  ·
   show (ah_ (Value.slice z2 m2 k2) (a0) (Enc.sz (List (List Int)))) = (ah_ (vs 3) (a0) (Enc.sz (List (List Int))))
   simp only [hu8] <;> rfl
  exact I
 ·
  intro vs f w_ U X le A K I
  obtain ⟨z3, m3, k3, hu9, q9, r5⟩ := A.sl (a := 3) 3 rfl rfl rfl
  have q10 := A.u 4 rfl rfl rfl
  have q11 : f 12 = (ah_ (vs 3) (a0) (Enc.sz (List (List Int)))) := A.u 5 rfl rfl rfl
  simp only [hu9] at q11
  have q11 : f 12 = (ah_ (Value.slice z3 m3 k3) (a0) (Enc.sz (List (List Int)))) := q11
  refine pl_ rfl (an_ (v := (ah_ (.slice z3 m3 k3) (a0) (Enc.sz (List (List Int))))) (e := x1) rfl mh_ q11 (r5.elem I.in_ hx1) (fun u10 hu10 => ?_))
  obtain ⟨z4, m4, k4, rfl⟩ := af_ hu10
  refine ⟨_, _, rfl, lr, ?_, ?_⟩
  · exact hu10
  exact I
 ·
  intro vs f w_ U X le A K I
  refine pl_ rfl (an_ (v := v3) (e := a3) rfl ht_ (K 3 (am_ rfl)) ((h3_.mono le).at_ I) (fun u11 hu11 => ?_))
  obtain ⟨z5, m5, k5, rfl⟩ := af_ hu11
  refine ⟨_, _, rfl, lr, ?_, ?_⟩
  · exact hu11
  exact I
 ·
  intro vs f w_ U X le A K I
  obtain ⟨z6, m6, k6, hu12, q12, r6⟩ := A.sl (a := 7) 0 rfl rfl rfl
  have q13 := A.u 1 rfl rfl rfl
  refine pl_ rfl (aj_ (v := (.slice z6 m6 k6)) (i := a0) (e := x2) rfl Tryz.underlying28 sh3 q12 r6 q13 hx2 (⟨_, _, rfl, lr, ?_, ?_⟩))
  ·
   show (ah_ (Value.slice z6 m6 k6) (a0) (Enc.sz Int)) = (ah_ (vs 7) (a0) (Enc.sz Int))
   simp only [hu12] <;> rfl
  exact I
 ·
  intro vs f w_ U X le A K I
  obtain ⟨z7, m7, k7, hu13, q14, r7⟩ := A.sl (a := 7) 0 rfl rfl rfl
  have q16 : f 16 = (ah_ (vs 7) (a0) (Enc.sz Int)) := A.u 2 rfl rfl rfl
  simp only [hu13] at q16
  have q16 : f 16 = (ah_ (Value.slice z7 m7 k7) (a0) (Enc.sz Int)) := q16
  refine pl_ rfl (ag_ (v := (ah_ (.slice z7 m7 k7) (a0) (Enc.sz Int))) (e := x2) rfl sh3 q16 (r7.elem I.in_ hx2) (fn rfl rfl I))
 ·
  intro vs f w_ U X le A K I
  obtain ⟨z8, m8, k8, hu14, q17, r8⟩ := A.sl (a := 6) 6 rfl rfl rfl
  have q18 := A.u 10 rfl rfl rfl
  refine pl_ rfl (aj_ (v := (.slice z8 m8 k8)) (i := x2) (e := x3) rfl Tryz.underlying23 ht_ q17 r8 q18 hx3 (⟨_, _, rfl, lr, ?_, ?_⟩))
  ·
   show (ah_ (Value.slice z8 m8 k8) (x2) (Enc.sz (List Int))) = (ah_ (vs 6) (x2) (Enc.sz (List Int)))
   simp only [hu14] <;> rfl
  exact I
 ·
  intro vs f w_ U X le A K I
  obtain ⟨z9, m9, k9, hu15, q19, r9⟩ := A.sl (a := 6) 6 rfl rfl rfl
  have q20 := A.u 10 rfl rfl rfl
  have q21 : f 18 = (ah_ (vs 6) (x2) (Enc.sz (List Int))) := A.u 11 rfl rfl rfl
  simp only [hu15] at q21
  have q21 : f 18 = (ah_ (Value.slice z9 m9 k9) (x2) (Enc.sz (List Int))) := q21
  refine pl_ rfl (an_ (v := (ah_ (.slice z9 m9 k9) (x2) (Enc.sz (List Int)))) (e := x3) rfl ht_ q21 (r9.elem I.in_ hx3) (fun u16 hu16 => ?_))
  obtain ⟨z10, m10, k10, rfl⟩ := af_ hu16
  refine ⟨_, _, rfl, lr, ?_, ?_⟩
  · exact hu16
  exact I
 ·
  intro vs f w_ U X le A K I
  obtain ⟨z11, m11, k11, hu17, q22, r10⟩ := A.sl (a := 12) 12 rfl rfl rfl
  have q23 := A.u 13 rfl rfl rfl
  refine pl_ rfl (aj_ (v := (.slice z11 m11 k11)) (i := a1) (e := x4) rfl Tryz.underlying28 sh3 q22 r10 q23 hx4 (⟨_, _, rfl, lr, ?_, ?_⟩))
  ·
   show (ah_ (Value.slice z11 m11 k11) (a1) (Enc.sz Int)) = (ah_ (vs 12) (a1) (Enc.sz Int))
   simp only [hu17] <;> rfl
  exact I
 ·
  intro vs f w_ U X le A K I
  obtain ⟨z12, m12, k12, hu18, q24, r11⟩ := A.sl (a := 12) 12 rfl rfl rfl
  have q26 : f 21 = (ah_ (vs 12) (a1) (Enc.sz Int)) := A.u 14 rfl rfl rfl
  simp only [hu18] at q26
  have q26 : f 21 = (ah_ (Value.slice z12 m12 k12) (a1) (Enc.sz Int)) := q26
  refine pl_ rfl (ag_ (v := (ah_ (.slice z12 m12 k12) (a1) (Enc.sz Int))) (e := x4) rfl sh3 q26 (r11.elem I.in_ hx4) (fn rfl rfl I))
 ·
  intro vs f w_ U X le A K I
  refine pl_ rfl (cf_ (v := (vi x4)) rfl (A.u 15 rfl rfl rfl) (fn rfl rfl I))
 intro vs18 f w18 S18 ed1 le18 hF1 hK18 hI18
 have I18 : Inv w18 S18 (Fr) := hI18
 have q28 := hF1.u 16 rfl rfl rfl
 refine al_ ?_
 obtain rfl := sj h
 exact ⟨(ed1.trans rfl), (vi x4), (bq_ rfl q28), _, [], le18, I18, rfl, rfl⟩
theorem mu_ (n_ : Nat) : ∀ {w : World} {S : PH} {Fr : List HP} {σ_ : Type} {τ_ : Type} {R_ : σ_ → HP} {Rx_ : τ_ → HP} {a0 : Int} {a1 : (List Int)} {g1_ : Nat} {z1_ : Option Addr} {m1_ : Nat} {k1_ : Nat} {a2 : (PRef Hints_room)} {v2 : Value} {g3_ : Nat} {a4 : (List Int) → σ_ → Option (σ_ ⊕ τ_)} {v4 : Value} {w4_ : Value} {g5_ : Nat} {s_ : σ_} {r : (List Int) × (σ_ ⊕ τ_)} (hI : Inv w S (ao_ g1_ 28 #[(Value.slice z1_ m1_ k1_)] :: Row (α := Int) 3 (Value.slice z1_ m1_ k1_) (a1) :: ao_ g3_ 121 #[(Value.func (.func 96) #[] #[v2, (Value.pointer (some ⟨g1_, 0, none⟩))])] :: ao_ g5_ 81 #[(Value.func (.func 97) #[] #[(Value.pointer (some ⟨g1_, 0, none⟩)), v2, (Value.pointer (some ⟨g3_, 0, none⟩)), v4, (Value.pointer (some ⟨g5_, 0, none⟩))])] :: R_ (s_) :: Fr)) (h2_ : PtS S v2 a2) (p4_ : PtS S v4 (⟨w4_⟩ : Raw)) (o4_ : w4_.oneCell' = true) (h4_ : Yields (argRow Int 3) Tryz.prog S w4_ R_ Rx_ a4) (h : cb_ n_ a0 a1 a2 a4 s_ = some r),
    Calls Tryz.prog 97 [(Value.int .i64 (a0)), (Value.pointer (some ⟨g1_, 0, none⟩)), v2, (Value.pointer (some ⟨g3_, 0, none⟩)), v4, (Value.pointer (some ⟨g5_, 0, none⟩))].toArray w (ms_ S Fr (fun T_ v_ O_ => ∃ (y1_ : Option Addr) (n1_ k1_ : Nat), v_ = (Value.bool (r.2).isLeft) ∧ O_ = [ao_ g1_ 28 #[(Value.slice y1_ n1_ k1_)], Row (α := Int) 3 (Value.slice y1_ n1_ k1_) (r.1), ao_ g3_ 121 #[(Value.func (.func 96) #[] #[v2, (Value.pointer (some ⟨g1_, 0, none⟩))])], ao_ g5_ 81 #[(Value.func (.func 97) #[] #[(Value.pointer (some ⟨g1_, 0, none⟩)), v2, (Value.pointer (some ⟨g3_, 0, none⟩)), v4, (Value.pointer (some ⟨g5_, 0, none⟩))])], Sum.elim R_ Rx_ (r.2)])) := by
  induction n_ with
  | zero => intros; rename_i h; cases h
  | succ n_ ih =>
   intro w S Fr σ_ τ_ R_ Rx_ a0 a1 g1_ z1_ m1_ k1_ a2 v2 g3_ a4 v4 w4_ g5_ s_ r hI h2_ p4_ o4_ h4_ h
   rw [cb_] at h
   refine ar_ (n := 61) (vs := [(vi a0), (Value.pointer (some ⟨g1_, 0, none⟩)), v2, (Value.pointer (some ⟨g3_, 0, none⟩)), v4, (Value.pointer (some ⟨g5_, 0, none⟩))]) Tryz.func97 rfl rfl rfl (ab_ (aa_ (wa_ (v := (vb false)) rfl rfl (ad_ (ab_ (ab_ (aa_ (wm_ (v := (vi a0)) rfl rfl (wo_ (be_ (c := (.slice z1_ m1_ k1_)) rfl ht_ (hI.nth 0 rfl) rfl rfl (wo_ (hj_ (α := Int) rfl Tryz.underlying28 rfl (hI.nth 1 rfl) (wo_ (bn_ (a := a0) (b := (a1.length : Int)) rfl rfl rfl (ad_ ?_)))))))))))))))
   rcases ifs h with ⟨hc1, h⟩ | ⟨hc1, h⟩
   ·
    refine ai_ (b := a0 == (a1.length : Int)) rfl hc1 (ab_ (ab_ (aa_ (wo_ (an_ (v := v2) (e := a2) rfl sh66 rfl (h2_.at_ hI) (fun u1 hu1 => ?_))))))
    have hu1 := rv_ref hu1
    refine wo_ (dx_ (v := u1) rfl rfl hu1 (wo_ (ac_ (v := u1) rfl fa70_0 rfl (hu1.at_ hI) (wo_ (ac_ (v := (ae_ u1 0)) rfl fa27_3 rfl ((hu1.at_ hI).fld Hints_room.fld0) (wo_ (an_ (v := (ae_ (ae_ u1 0) 3)) (e := a2.v.Riddle.Ties) rfl sh25 rfl (((hu1.at_ hI).fld Hints_room.fld0).fld Riddle.fld3) (fun u2 hu2 => ?_))))))))
    obtain ⟨z1, m1, k1, rfl⟩ := af_ hu2
    refine wo_ (bb_ rfl Tryz.underlying25 rfl hu2 (wm_ (v := (vi 0)) rfl rfl (ad_ ?_)))
    have hk1 : a2.v.Riddle.Ties.length ≤ 9223372036854775807 := (ea_ hu2)
    obtain ⟨o2, hrun1, h⟩ := bnd h
    refine bs_ (fun f w => ∃ out1, o2 = Sum.inl out1 ∧ ∃ (S_ : PH), S.Le S_ ∧ Inv w S_ (R_ (s_) :: ao_ g1_ 28 #[(.slice z1_ m1_ k1_)] :: Row (α := Int) 3 (.slice z1_ m1_ k1_) (a1) :: ao_ g3_ 121 #[(Value.func (.func 96) #[] #[v2, (Value.pointer (some ⟨g1_, 0, none⟩))])] :: ao_ g5_ 81 #[(Value.func (.func 97) #[] #[(Value.pointer (some ⟨g1_, 0, none⟩)), v2, (Value.pointer (some ⟨g3_, 0, none⟩)), v4, (Value.pointer (some ⟨g5_, 0, none⟩))])] :: Fr) ∧ f 1 = (Value.pointer (some ⟨g1_, 0, none⟩)) ∧ f 3 = (Value.pointer (some ⟨g3_, 0, none⟩)) ∧ f 4 = v4 ∧ f 18 = (.slice z1 m1 k1) ∧ f 19 = (vi ((a2.v.Riddle.Ties.length : Int))) ∧ f.ds = []) ?_ ?_
    ·
     refine ax_ ?_
     refine eh_ (I := fun (i1 : Nat) (s1 : Unit) (f : Frm) (w : World) => ∃ (S_ : PH), S.Le S_ ∧ Inv w S_ (R_ (s_) :: ao_ g1_ 28 #[(.slice z1_ m1_ k1_)] :: Row (α := Int) 3 (.slice z1_ m1_ k1_) (a1) :: ao_ g3_ 121 #[(Value.func (.func 96) #[] #[v2, (Value.pointer (some ⟨g1_, 0, none⟩))])] :: ao_ g5_ 81 #[(Value.func (.func 97) #[] #[(Value.pointer (some ⟨g1_, 0, none⟩)), v2, (Value.pointer (some ⟨g3_, 0, none⟩)), v4, (Value.pointer (some ⟨g5_, 0, none⟩))])] :: Fr) ∧ f 1 = (Value.pointer (some ⟨g1_, 0, none⟩)) ∧ f 3 = (Value.pointer (some ⟨g3_, 0, none⟩)) ∧ f 4 = v4 ∧ f 18 = (.slice z1 m1 k1) ∧ f 19 = (vi ((a2.v.Riddle.Ties.length : Int))) ∧ f 20 = (vi (i1 : Int)) ∧ f.ds = []) hrun1 ⟨_, lr, (((((hI.pull 3).pull 3).pull 3).pull 3).pull 4), rfl, rfl, rfl, rfl, rfl, rfl, rfl⟩ ?_ ?_
     ·
      rintro i1 s1 f w o1 hlt1 hI43 h1 hout1
      obtain ⟨S69, le69, I88, e41, e42, e43, e44, e45, e46, ed7⟩ := hI43
      refine ab_ (aa_ (wo_ (bg_ (a := (i1 : Int)) (b := (a2.v.Riddle.Ties.length : Int)) rfl e46 e45 (ad_ (ab_ (ai_ (b := decide ((i1 : Int) < (a2.v.Riddle.Ties.length : Int))) rfl (gg_ hlt1) (av_ (ab_ (ax_ (ab_ (aa_ ?_)))))))))))
      obtain ⟨x10, hx10, h1⟩ := bnd h1
      refine wo_ (aj_ (v := (.slice z1 m1 k1)) (i := (i1 : Int)) (e := x10) rfl Tryz.underlying25 sh75 e44 (hu2.mono le69) e46 hx10 (wo_ (an_ (v := (ah_ (.slice z1 m1 k1) ((i1 : Int)) (Enc.sz Tie))) (e := x10) rfl sh75 rfl ((hu2.mono le69).elem I88.in_ hx10) (fun u6 hu6 => ?_))))
      have e47 := Tie.inv hu6
      subst e47
      refine wo_ (ca_ (z := (Value.agg #[(vi 0), (vi 0), (vi 0), (vi 0)])) rfl I88 zo75 (fun g4 w61 (I89 : Inv w61 S69 (ao_ g4 75 #[(vi 0), (vi 0), (vi 0), (vi 0)] :: R_ (s_) :: ao_ g1_ 28 #[(.slice z1_ m1_ k1_)] :: Row (α := Int) 3 (.slice z1_ m1_ k1_) (a1) :: ao_ g3_ 121 #[(Value.func (.func 96) #[] #[v2, (Value.pointer (some ⟨g1_, 0, none⟩))])] :: ao_ g5_ 81 #[(Value.func (.func 97) #[] #[(Value.pointer (some ⟨g1_, 0, none⟩)), v2, (Value.pointer (some ⟨g3_, 0, none⟩)), v4, (Value.pointer (some ⟨g5_, 0, none⟩))])] :: Fr)) => (wo_ (bd_ (v := (Value.agg #[(vi x10.LockA), (vi x10.WheelA), (vi x10.LockB), (vi x10.WheelB)])) (cs := #[(vi 0), (vi 0), (vi 0), (vi 0)]) sh75 I89 rfl rfl rfl nb rfl (fun w62 (I90 : Inv w62 S69 (ao_ g4 75 #[(vi x10.LockA), (vi x10.WheelA), (vi x10.LockB), (vi x10.WheelB)] :: R_ (s_) :: ao_ g1_ 28 #[(.slice z1_ m1_ k1_)] :: Row (α := Int) 3 (.slice z1_ m1_ k1_) (a1) :: ao_ g3_ 121 #[(Value.func (.func 96) #[] #[v2, (Value.pointer (some ⟨g1_, 0, none⟩))])] :: ao_ g5_ 81 #[(Value.func (.func 97) #[] #[(Value.pointer (some ⟨g1_, 0, none⟩)), v2, (Value.pointer (some ⟨g3_, 0, none⟩)), v4, (Value.pointer (some ⟨g5_, 0, none⟩))])] :: Fr)) => (ad_ (ab_ ?_)))))))
      obtain ⟨x11, hx11, h1⟩ := bnd h1
      obtain ⟨x12, hx12, h1⟩ := bnd h1
      refine bm_ (sps := [⟨some 24, [], [0], fun vs_ T_ => fr0 vs_ 0 = (Value.func (.func 96) #[] #[v2, (Value.pointer (some ⟨g1_, 0, none⟩))]), [0], [], [], fun _ h_ => h_⟩, spV 25 [] 1 (pt_ g4), ⟨some 26, [1], [2], fun vs_ T_ => fr0 vs_ 0 = (vi x10.LockA), [1], [], [], fun _ h_ => h_⟩, spV 27 [] 3 (Value.pointer (some ⟨g4, 1, none⟩)), ⟨some 28, [3], [4], fun vs_ T_ => fr0 vs_ 0 = (vi x10.WheelA), [1], [], [], fun _ h_ => h_⟩, ⟨some 29, [0, 1, 2, 3, 4], [5], fun vs_ T_ => fr0 vs_ 0 = (vi x11), [2, 3], [], [], fun _ h_ => h_⟩, ⟨some 30, [], [6], fun vs_ T_ => fr0 vs_ 0 = (Value.func (.func 96) #[] #[v2, (Value.pointer (some ⟨g1_, 0, none⟩))]), [0], [], [], fun _ h_ => h_⟩, spV 31 [] 7 (Value.pointer (some ⟨g4, 2, none⟩)), ⟨some 32, [7], [8], fun vs_ T_ => fr0 vs_ 0 = (vi x10.LockB), [1], [], [], fun _ h_ => h_⟩, spV 33 [] 9 (Value.pointer (some ⟨g4, 3, none⟩)), ⟨some 34, [9], [10], fun vs_ T_ => fr0 vs_ 0 = (vi x10.WheelB), [1], [], [], fun _ h_ => h_⟩, ⟨some 35, (lrg 11), [11], fun vs_ T_ => fr0 vs_ 0 = (vi x12), [2, 3], [], [], fun _ h_ => h_⟩, spV 36 (lrg 12) 12 (vb (x11 != x12))]) (tks := [⟨none, none, [], fun vs_ => ao_ g3_ 121 #[(Value.func (.func 96) #[] #[v2, (Value.pointer (some ⟨g1_, 0, none⟩))])]⟩, ⟨none, none, [], fun vs_ => ao_ g4 75 #[(vi x10.LockA), (vi x10.WheelA), (vi x10.LockB), (vi x10.WheelB)]⟩, ⟨none, none, [], fun vs_ => ao_ g1_ 28 #[(.slice z1_ m1_ k1_)]⟩, ⟨none, none, [], fun vs_ => Row (α := Int) 3 (.slice z1_ m1_ k1_) (a1)⟩]) (O := R_ (s_) :: ao_ g5_ 81 #[(Value.func (.func 97) #[] #[(Value.pointer (some ⟨g1_, 0, none⟩)), v2, (Value.pointer (some ⟨g3_, 0, none⟩)), v4, (Value.pointer (some ⟨g5_, 0, none⟩))])] :: Fr) rfl (by kernel_rfl) ((((I90.pull 3).pull 3).pull 2).pull 4) ⟨?_, ?_, ?_, ?_, ?_, ?_, ?_, ?_, ?_, ?_, ?_, ?_, ?_, trivial⟩ ?_
      ·
       intro vs43 f w66 S74 X40 le74 hA40 hK43 hI44
       have I97 : Inv w66 S74 (ao_ g3_ 121 #[(Value.func (.func 96) #[] #[v2, (Value.pointer (some ⟨g1_, 0, none⟩))])] :: X40) := hI44
       refine pl_ rfl (be_ (c := (Value.func (.func 96) #[] #[v2, (Value.pointer (some ⟨g1_, 0, none⟩))])) rfl sh121 (I97.nth 0 rfl) ((hK43 3 (am_ rfl)).trans e42) rfl (⟨_, _, rfl, lr, ?_, ?_⟩))
       ·
        exact rfl
       ·
        exact I97
      ·
       intro vs44 f w67 S75 X41 le75 hA41 hK44 hI45
       have I98 : Inv w67 S75 (X41) := hI45
       refine pl_ rfl (az_ (v := (pt_ g4)) rfl im_ (hK44 9 (am_ rfl)) rfl (⟨_, _, rfl, lr, ?_, ?_⟩))
       ·
        exact rfl
       ·
        exact I98
      ·
       intro vs45 f w68 S76 X42 le76 hA42 hK45 hI46
       have I99 : Inv w68 S76 (ao_ g4 75 #[(vi x10.LockA), (vi x10.WheelA), (vi x10.LockB), (vi x10.WheelB)] :: X42) := hI46
       have q40 := hA42.u 0 rfl rfl rfl
       refine pl_ rfl (be_ (c := (vi x10.LockA)) rfl sh3 (I99.nth 0 rfl) q40 rfl (⟨_, _, rfl, lr, ?_, ?_⟩))
       ·
        exact rfl
       ·
        exact I99
      ·
       intro vs46 f w69 S77 X43 le77 hA43 hK46 hI47
       have I100 : Inv w69 S77 (X43) := hI47
       refine pl_ rfl (az_ (v := (pt_ g4)) rfl fa75_1 (hK46 9 (am_ rfl)) rfl (⟨_, _, rfl, lr, ?_, ?_⟩))
       ·
        exact rfl
       ·
        exact I100
      ·
       intro vs47 f w70 S78 X44 le78 hA44 hK47 hI48
       have I101 : Inv w70 S78 (ao_ g4 75 #[(vi x10.LockA), (vi x10.WheelA), (vi x10.LockB), (vi x10.WheelB)] :: X44) := hI48
       have q41 := hA44.u 0 rfl rfl rfl
       refine pl_ rfl (be_ (c := (vi x10.WheelA)) rfl sh3 (I101.nth 0 rfl) q41 rfl (⟨_, _, rfl, lr, ?_, ?_⟩))
       ·
        exact rfl
       ·
        exact I101
      ·
       intro vs48 f w71 S79 X45 le79 hA45 hK48 hI49
       have I102 : Inv w71 S79 (ao_ g1_ 28 #[(Value.slice z1_ m1_ k1_)] :: Row (α := Int) 3 (Value.slice z1_ m1_ k1_) (a1) :: X45) := hI49
       have q42 := hA45.u 0 rfl rfl rfl
       have q43 := hA45.u 2 rfl rfl rfl
       have q44 := hA45.u 4 rfl rfl rfl
       obtain ⟨S80, Fr15, le80, I103, r29, r30, bk15⟩ := Inv.lendB1 (x := a1) ((I102.pull 1).pull 1) (fun T_ hle_ hr1_ => hr1_.cells)
       refine pl_ rfl (bo_ (vs := [(vi x10.LockA), (vi x10.WheelA), v2, (Value.pointer (some ⟨g1_, 0, none⟩))]) rfl ca96 q42 (oa_ (vs := [(vi x10.LockA), (vi x10.WheelA)]) (cap := #[v2, (Value.pointer (some ⟨g1_, 0, none⟩))]) (bt_ q43 q44)) (ik_ I103 (h2_.mono ((le69.trans le79).trans le80)) r29 hx11) (fun cv15 w72 S81 O15 le81 I105 hv15 => ?_))
       obtain ⟨rfl, rfl⟩ := hv15
       have I104 := bk15 [] trivial I105 le81
       refine ⟨_, _, rfl, lr, ?_, ?_⟩
       ·
        exact rfl
       ·
        exact ((I104.pull 1).pull 1)
      ·
       intro vs49 f w73 S82 X46 le82 hA46 hK49 hI50
       have I106 : Inv w73 S82 (ao_ g3_ 121 #[(Value.func (.func 96) #[] #[v2, (Value.pointer (some ⟨g1_, 0, none⟩))])] :: X46) := hI50
       refine pl_ rfl (be_ (c := (Value.func (.func 96) #[] #[v2, (Value.pointer (some ⟨g1_, 0, none⟩))])) rfl sh121 (I106.nth 0 rfl) ((hK49 3 (am_ rfl)).trans e42) rfl (⟨_, _, rfl, lr, ?_, ?_⟩))
       ·
        exact rfl
       ·
        exact I106
      ·
       intro vs50 f w74 S83 X47 le83 hA47 hK50 hI51
       have I107 : Inv w74 S83 (X47) := hI51
       refine pl_ rfl (az_ (v := (pt_ g4)) rfl kk_ (hK50 9 (am_ rfl)) rfl (⟨_, _, rfl, lr, ?_, ?_⟩))
       ·
        exact rfl
       ·
        exact I107
      ·
       intro vs51 f w75 S84 X48 le84 hA48 hK51 hI52
       have I108 : Inv w75 S84 (ao_ g4 75 #[(vi x10.LockA), (vi x10.WheelA), (vi x10.LockB), (vi x10.WheelB)] :: X48) := hI52
       have q45 := hA48.u 0 rfl rfl rfl
       refine pl_ rfl (be_ (c := (vi x10.LockB)) rfl sh3 (I108.nth 0 rfl) q45 rfl (⟨_, _, rfl, lr, ?_, ?_⟩))
       ·
        exact rfl
       ·
        exact I108
      ·
       intro vs52 f w76 S85 X49 le85 hA49 hK52 hI53
       have I109 : Inv w76 S85 (X49) := hI53
       refine pl_ rfl (az_ (v := (pt_ g4)) rfl fa75_3 (hK52 9 (am_ rfl)) rfl (⟨_, _, rfl, lr, ?_, ?_⟩))
       ·
        exact rfl
       ·
        exact I109
      ·
       intro vs53 f w77 S86 X50 le86 hA50 hK53 hI54
       have I110 : Inv w77 S86 (ao_ g4 75 #[(vi x10.LockA), (vi x10.WheelA), (vi x10.LockB), (vi x10.WheelB)] :: X50) := hI54
       have q46 := hA50.u 0 rfl rfl rfl
       refine pl_ rfl (be_ (c := (vi x10.WheelB)) rfl sh3 (I110.nth 0 rfl) q46 rfl (⟨_, _, rfl, lr, ?_, ?_⟩))
       ·
        exact rfl
       ·
        exact I110
      ·
       intro vs54 f w78 S87 X51 le87 hA51 hK54 hI55
       have I111 : Inv w78 S87 (ao_ g1_ 28 #[(Value.slice z1_ m1_ k1_)] :: Row (α := Int) 3 (Value.slice z1_ m1_ k1_) (a1) :: X51) := hI55
       have q47 := hA51.u 6 rfl rfl rfl
       have q48 := hA51.u 8 rfl rfl rfl
       have q49 := hA51.u 10 rfl rfl rfl
       obtain ⟨S88, Fr16, le88, I112, r31, r32, bk16⟩ := Inv.lendB1 (x := a1) ((I111.pull 1).pull 1) (fun T_ hle_ hr1_ => hr1_.cells)
       refine pl_ rfl (bo_ (vs := [(vi x10.LockB), (vi x10.WheelB), v2, (Value.pointer (some ⟨g1_, 0, none⟩))]) rfl ca96 q47 (oa_ (vs := [(vi x10.LockB), (vi x10.WheelB)]) (cap := #[v2, (Value.pointer (some ⟨g1_, 0, none⟩))]) (bt_ q48 q49)) (ik_ I112 (h2_.mono ((le69.trans le87).trans le88)) r31 hx12) (fun cv16 w79 S89 O16 le89 I114 hv16 => ?_))
       obtain ⟨rfl, rfl⟩ := hv16
       have I113 := bk16 [] trivial I114 le89
       refine ⟨_, _, rfl, lr, ?_, ?_⟩
       ·
        exact rfl
       ·
        exact ((I113.pull 1).pull 1)
      ·
       intro vs55 f w80 S90 X52 le90 hA52 hK55 hI56
       have I115 : Inv w80 S90 (X52) := hI56
       have q50 := hA52.u 5 rfl rfl rfl
       have q51 := hA52.u 11 rfl rfl rfl
       refine pl_ rfl (cd_ (a := x11) (b := x12) rfl q50 q51 (⟨_, _, rfl, lr, ?_, ?_⟩))
       ·
        exact rfl
       ·
        exact I115
      ·
       intro vs56 f w81 S91 ed8 le91 hF4 hK56 hI57
       have e48 : f 1 = (Value.pointer (some ⟨g1_, 0, none⟩)) := (hK56 1 (au_ rfl)).trans e41
       have e49 : f 3 = (Value.pointer (some ⟨g3_, 0, none⟩)) := (hK56 3 (au_ rfl)).trans e42
       have e50 : f 4 = v4 := (hK56 4 (au_ rfl)).trans e43
       have e51 : f 18 = (Value.slice z1 m1 k1) := (hK56 18 (au_ rfl)).trans e44
       have e52 : f 19 = (vi ((a2.v.Riddle.Ties.length : Int))) := (hK56 19 (au_ rfl)).trans e45
       have e53 : f 20 = (vi ((i1 : Int))) := (hK56 20 (au_ rfl)).trans e46
       have I116 : Inv w81 S91 (ao_ g3_ 121 #[(Value.func (.func 96) #[] #[v2, (Value.pointer (some ⟨g1_, 0, none⟩))])] :: ao_ g4 75 #[(vi x10.LockA), (vi x10.WheelA), (vi x10.LockB), (vi x10.WheelB)] :: ao_ g1_ 28 #[(Value.slice z1_ m1_ k1_)] :: Row (α := Int) 3 (Value.slice z1_ m1_ k1_) (a1) :: R_ (s_) :: ao_ g5_ 81 #[(Value.func (.func 97) #[] #[(Value.pointer (some ⟨g1_, 0, none⟩)), v2, (Value.pointer (some ⟨g3_, 0, none⟩)), v4, (Value.pointer (some ⟨g5_, 0, none⟩))])] :: Fr) := hI57
       have q52 := hF4.u 12 rfl rfl rfl
       rcases ifs h1 with ⟨hc5, h1⟩ | ⟨hc5, h1⟩
       ·
        refine ai_ (b := x11 != x12) q52 hc5 (ab_ (aa_ (wa_ (v := (vb true)) rfl rfl (ad_ (al_ ?_)))))
        obtain rfl := sj h1
        obtain rfl := (hout1 _ rfl)
        have h2 := h
        obtain rfl := sj h2
        exact ⟨(ed8.trans ed7), _, (bq_ rfl rfl), _, [ao_ g1_ 28 #[(.slice z1_ m1_ k1_)], Row (α := Int) 3 (.slice z1_ m1_ k1_) (a1), ao_ g3_ 121 #[(Value.func (.func 96) #[] #[v2, (Value.pointer (some ⟨g1_, 0, none⟩))])], ao_ g5_ 81 #[(Value.func (.func 97) #[] #[(Value.pointer (some ⟨g1_, 0, none⟩)), v2, (Value.pointer (some ⟨g3_, 0, none⟩)), v4, (Value.pointer (some ⟨g5_, 0, none⟩))])], R_ (s_)], (le69.trans le91), ((((((I116.pull 1).drop.pull 3).pull 4).pull 2).pull 4).pull 4), _, _, _, rfl, rfl⟩
       ·
        refine ak_ (b := x11 != x12) q52 hc5 (av_ (aa_ (wo_ (bp_ (a := (i1 : Int)) (b := 1) rfl e53 rfl (wm_ (v := (vi (w64 ((i1 : Int) + 1)))) rfl rfl (ad_ ?_))))))
        obtain rfl := sj h1
        exact ⟨_, rfl, _, (le69.trans le91), ((((((I116.pull 1).drop.pull 4).pull 1).pull 3).pull 3).pull 4), e48, e49, e50, e51, e52, (bl_ hlt1 hk1), (ed8.trans ed7)⟩
     ·
      rintro s2 f w hs1 hI58
      obtain ⟨S92, le92, I117, e54, e55, e56, e57, e58, e59, ed9⟩ := hI58
      refine ab_ (aa_ (wo_ (bg_ (a := (a2.v.Riddle.Ties.length : Int)) (b := (a2.v.Riddle.Ties.length : Int)) rfl e59 e58 (ad_ (ab_ (ak_ (b := decide ((a2.v.Riddle.Ties.length : Int) < (a2.v.Riddle.Ties.length : Int))) rfl (gh_ _) (bj_ ?_)))))))
      exact ⟨s2, hs1, _, le92, (((((I117.pull 4).pull 4).pull 4).pull 4).pull 4), e54, e55, e56, e57, e58, ed9⟩
    ·
     rintro f w ⟨out1, rfl, S93, le93, I118, e60, e61, e62, e63, e64, ed10⟩
     have h := ds_ h
     refine ab_ (aa_ (wo_ (an_ (v := v4) (e := (⟨w4_⟩ : Raw)) rfl sh120 e62 ((p4_.mono le93).at_ I118) (fun u7 hu7 => ?_))))
     have q_hu7 := rv_raw hu7
     subst u7
     refine wo_ (be_ (c := (.slice z1_ m1_ k1_)) rfl ht_ (I118.nth 1 rfl) e60 rfl ?_)
     obtain ⟨x13, hx13, h⟩ := bnd h
     refine wo_ (op_callV (vs := [(.slice z1_ m1_ k1_)]) rfl rfl (fk_ rfl) (h4_ _ _ _ _ a1 _ _ le93 ⟨_, _, _, rfl⟩ (I118.pull 2) hx13) (fun v1 w82 S94 O17 le94 I119 hv17 => ?_))
     obtain ⟨rfl, rfl⟩ := hv17
     have I120 : Inv w82 S94 (Row (α := Int) 3 (Value.slice z1_ m1_ k1_) (a1) :: Sum.elim R_ Rx_ (x13) :: ao_ g1_ 28 #[(Value.slice z1_ m1_ k1_)] :: ao_ g3_ 121 #[(Value.func (.func 96) #[] #[v2, (Value.pointer (some ⟨g1_, 0, none⟩))])] :: ao_ g5_ 81 #[(Value.func (.func 97) #[] #[(Value.pointer (some ⟨g1_, 0, none⟩)), v2, (Value.pointer (some ⟨g3_, 0, none⟩)), v4, (Value.pointer (some ⟨g5_, 0, none⟩))])] :: Fr) := I119
     refine wa_ (v := (vb x13.isLeft)) rfl rfl (ad_ (al_ ?_))
     obtain rfl := sj h
     exact ⟨ed10, _, (bq_ rfl rfl), _, [ao_ g1_ 28 #[(.slice z1_ m1_ k1_)], Row (α := Int) 3 (.slice z1_ m1_ k1_) (a1), ao_ g3_ 121 #[(Value.func (.func 96) #[] #[v2, (Value.pointer (some ⟨g1_, 0, none⟩))])], ao_ g5_ 81 #[(Value.func (.func 97) #[] #[(Value.pointer (some ⟨g1_, 0, none⟩)), v2, (Value.pointer (some ⟨g3_, 0, none⟩)), v4, (Value.pointer (some ⟨g5_, 0, none⟩))])], Sum.elim R_ Rx_ (x13)], (le93.trans le94), (((((I120.pull 1).pull 4).pull 4).pull 3).pull 4), _, _, _, rfl, rfl⟩
   ·
    refine ak_ (b := a0 == (a1.length : Int)) rfl hc1 (av_ (ab_ (ab_ (aa_ (wo_ (an_ (v := v2) (e := a2) rfl sh66 rfl (h2_.at_ hI) (fun u8 hu8 => ?_)))))))
    have hu8 := rv_ref hu8
    refine wo_ (dx_ (v := u8) rfl rfl hu8 (wo_ (ac_ (v := u8) rfl fa70_1 rfl (hu8.at_ hI) (wo_ (an_ (v := (ae_ u8 4)) (e := a2.v.allowed) rfl sh55 rfl ((hu8.at_ hI).fld Hints_room.fld1) (fun u9 hu9 => ?_))))))
    obtain ⟨z2, m2, k2, rfl⟩ := af_ hu9
    refine wm_ (v := (vi a0)) rfl rfl ?_
    obtain ⟨x14, hx14, h⟩ := bnd h
    refine wo_ (aj_ (v := (.slice z2 m2 k2)) (i := a0) (e := x14) rfl Tryz.underlying55 mh_ rfl hu9 rfl hx14 (wo_ (an_ (v := (ah_ (.slice z2 m2 k2) (a0) (Enc.sz (List (List Int))))) (e := x14) rfl mh_ rfl (hu9.elem hI.in_ hx14) (fun u10 hu10 => ?_))))
    obtain ⟨z3, m3, k3, rfl⟩ := af_ hu10
    refine wo_ (bb_ rfl Tryz.underlying23 rfl hu10 (wm_ (v := (vi 0)) rfl rfl (ad_ ?_)))
    have hk2 : x14.length ≤ 9223372036854775807 := (ea_ hu10)
    obtain ⟨o4, hrun2, h⟩ := bnd h
    refine bs_ (fun f w => ∃ out2, o4 = Sum.inl out2 ∧ ∃ (S_ : PH) (z10 : Option Addr) (m10 k10 : Nat), S.Le S_ ∧ Inv w S_ (R_ (out2.1) :: ao_ g1_ 28 #[(.slice z10 m10 k10)] :: Row (α := Int) 3 (.slice z10 m10 k10) (out2.2) :: ao_ g3_ 121 #[(Value.func (.func 96) #[] #[v2, (Value.pointer (some ⟨g1_, 0, none⟩))])] :: ao_ g5_ 81 #[(Value.func (.func 97) #[] #[(Value.pointer (some ⟨g1_, 0, none⟩)), v2, (Value.pointer (some ⟨g3_, 0, none⟩)), v4, (Value.pointer (some ⟨g5_, 0, none⟩))])] :: Fr) ∧ f 0 = (vi a0) ∧ f 1 = (Value.pointer (some ⟨g1_, 0, none⟩)) ∧ f 5 = (Value.pointer (some ⟨g5_, 0, none⟩)) ∧ f 48 = (vi ((x14.length : Int))) ∧ f.ds = []) ?_ ?_
    ·
     refine ax_ ?_
     refine eh_ (I := fun (i2 : Nat) (s6 : (σ_ × List Int)) (f : Frm) (w : World) => ∃ (S_ : PH) (z9 : Option Addr) (m9 k9 : Nat), S.Le S_ ∧ Inv w S_ (R_ (s6.1) :: ao_ g1_ 28 #[(.slice z9 m9 k9)] :: Row (α := Int) 3 (.slice z9 m9 k9) (s6.2) :: ao_ g3_ 121 #[(Value.func (.func 96) #[] #[v2, (Value.pointer (some ⟨g1_, 0, none⟩))])] :: ao_ g5_ 81 #[(Value.func (.func 97) #[] #[(Value.pointer (some ⟨g1_, 0, none⟩)), v2, (Value.pointer (some ⟨g3_, 0, none⟩)), v4, (Value.pointer (some ⟨g5_, 0, none⟩))])] :: Fr) ∧ f 0 = (vi a0) ∧ f 1 = (Value.pointer (some ⟨g1_, 0, none⟩)) ∧ f 5 = (Value.pointer (some ⟨g5_, 0, none⟩)) ∧ f 48 = (vi ((x14.length : Int))) ∧ f 49 = (vi (i2 : Int)) ∧ f.ds = []) hrun2 ⟨_, _, _, _, lr, (((((hI.pull 3).pull 3).pull 3).pull 3).pull 4), rfl, rfl, rfl, rfl, rfl, rfl⟩ ?_ ?_
     ·
      rintro i2 s6 f w o3 hlt2 hI59 h3 hout2
      obtain ⟨S100, z9, m9, k9, le100, I130, e82, e83, e84, e85, e86, ed14⟩ := hI59
      refine ab_ (aa_ (wo_ (bg_ (a := (i2 : Int)) (b := (x14.length : Int)) rfl e86 e85 (ad_ (ab_ (ai_ (b := decide ((i2 : Int) < (x14.length : Int))) rfl (gg_ hlt2) (av_ (ab_ (ax_ (ab_ (aa_ (wo_ (be_ (c := (.slice z9 m9 k9)) rfl ht_ (I130.nth 1 rfl) e83 rfl (wm_ rfl e82 (wm_ rfl e86 ?_)))))))))))))))
      obtain ⟨x27, hx21, h3⟩ := bnd h3
      refine wo_ (bf_ (v := (.slice z9 m9 k9)) (i := a0) (e := x27) rfl Tryz.underlying28 sh3 rfl (Inv.rowSrc (I130.nth 2 rfl)) rfl hx21 (wo_ (dr_ (u := (vi (i2 : Int))) (e' := (i2 : Int)) sh3 (I130.pull 2) rfl rfl hx21 (ei_ _) (fun w89 I131 => (ad_ (ab_ (aa_ (wo_ (be_ (c := (Value.func (.func 97) #[] #[(Value.pointer (some ⟨g1_, 0, none⟩)), v2, (Value.pointer (some ⟨g3_, 0, none⟩)), v4, (Value.pointer (some ⟨g5_, 0, none⟩))])) rfl sh81 (I131.nth 4 rfl) e84 rfl (wm_ rfl e82 (wo_ (bp_ (a := a0) (b := 1) rfl rfl rfl ?_))))))))))))
      obtain ⟨x28, hx22, h3⟩ := bnd h3
      obtain ⟨x29, x30⟩ := x28
      have h3 := jn2s h3
      refine wo_ (bo_ (vs := [(vi (w64 (a0 + 1))), (Value.pointer (some ⟨g1_, 0, none⟩)), v2, (Value.pointer (some ⟨g3_, 0, none⟩)), v4, (Value.pointer (some ⟨g5_, 0, none⟩))]) rfl ca97 rfl (oa_ (vs := [(vi (w64 (a0 + 1)))]) (cap := #[(Value.pointer (some ⟨g1_, 0, none⟩)), v2, (Value.pointer (some ⟨g3_, 0, none⟩)), v4, (Value.pointer (some ⟨g5_, 0, none⟩))]) (fk_ rfl)) (ih (((((I131.pull 1).pull 4).pull 4).pull 3).pull 4) (h2_.mono le100) (p4_.mono le100) o4_ (h4_.mono le100) hx22) (fun v5 w90 S101 O21 le101 I132 hv21 => ?_))
      obtain ⟨z11, m11, k11, rfl, rfl⟩ := hv21
      refine wo_ (bz_ (b := x30.isLeft) rfl rfl (ad_ ?_))
      rcases x30 with s7 | q56
      ·
       have h3 := sm_inl h3
       refine ak_ (b := false) rfl rfl (av_ (aa_ (wo_ (bp_ (a := (i2 : Int)) (b := 1) rfl e86 rfl (wm_ (v := (vi (w64 ((i2 : Int) + 1)))) rfl rfl (ad_ ?_))))))
       obtain rfl := sj h3
       exact ⟨_, rfl, _, _, _, _, (le100.trans le101), (((((I132.pull 3).pull 3).pull 3).pull 3).pull 4), e82, e83, e84, e85, (bl_ hlt2 hk2), ed14⟩
      ·
       have h3 := sm_inr h3
       refine ai_ (b := true) rfl rfl (ab_ (aa_ (wa_ (v := (vb false)) rfl rfl (ad_ (al_ ?_)))))
       obtain rfl := sj h3
       obtain rfl := (hout2 _ rfl)
       have h4 := h
       obtain rfl := sj h4
       exact ⟨ed14, _, (bq_ rfl rfl), _, [ao_ g1_ 28 #[(.slice z11 m11 k11)], Row (α := Int) 3 (.slice z11 m11 k11) (x29), ao_ g3_ 121 #[(Value.func (.func 96) #[] #[v2, (Value.pointer (some ⟨g1_, 0, none⟩))])], ao_ g5_ 81 #[(Value.func (.func 97) #[] #[(Value.pointer (some ⟨g1_, 0, none⟩)), v2, (Value.pointer (some ⟨g3_, 0, none⟩)), v4, (Value.pointer (some ⟨g5_, 0, none⟩))])], Rx_ (q56)], (le100.trans le101), (((((I132.pull 4).pull 4).pull 4).pull 4).pull 4), _, _, _, rfl, rfl⟩
     ·
      rintro s8 f w hs2 hI60
      obtain ⟨S102, z12, m12, k12, le102, I133, e87, e88, e89, e90, e91, ed15⟩ := hI60
      refine ab_ (aa_ (wo_ (bg_ (a := (x14.length : Int)) (b := (x14.length : Int)) rfl e91 e90 (ad_ (ab_ (ak_ (b := decide ((x14.length : Int) < (x14.length : Int))) rfl (gh_ _) (bj_ ?_)))))))
      exact ⟨s8, hs2, _, _, _, _, le102, (((((I133.pull 4).pull 4).pull 4).pull 4).pull 4), e87, e88, e89, e90, ed15⟩
    ·
     rintro f w ⟨out2, rfl, S103, z10, m10, k10, le103, I134, e92, e93, e94, e95, ed16⟩
     have h := ds_ h
     refine ab_ (aa_ (wa_ (v := (vb true)) rfl rfl (ad_ (al_ ?_))))
     obtain rfl := sj h
     exact ⟨ed16, _, (bq_ rfl rfl), _, [ao_ g1_ 28 #[(.slice z10 m10 k10)], Row (α := Int) 3 (.slice z10 m10 k10) (out2.2), ao_ g3_ 121 #[(Value.func (.func 96) #[] #[v2, (Value.pointer (some ⟨g1_, 0, none⟩))])], ao_ g5_ 81 #[(Value.func (.func 97) #[] #[(Value.pointer (some ⟨g1_, 0, none⟩)), v2, (Value.pointer (some ⟨g3_, 0, none⟩)), v4, (Value.pointer (some ⟨g5_, 0, none⟩))])], R_ (out2.1)], le103, ((((I134.pull 4).pull 4).pull 4).pull 4), _, _, _, rfl, rfl⟩
theorem jn_ {w : World} {S : PH} {Fr : List HP} {σ_ : Type} {τ_ : Type} {R_ : σ_ → HP} {Rx_ : τ_ → HP} {a0 : Hints_room} {v0 : Value} {a1 : (List Int) → σ_ → Option (σ_ ⊕ τ_)} {v1 : Value} {s_ : σ_} {r : (σ_ ⊕ τ_)} (hI : Inv w S (R_ (s_) :: Fr)) (h0_ : PtS S v0 a0) (o1_ : v1.oneCell' = true) (h1_ : Yields (argRow Int 3) Tryz.prog S v1 R_ Rx_ a1) (h : cp_ a0 a1 s_ = some r) :
    Calls Tryz.prog 72 [v0, v1].toArray w (ms_ S Fr (fun T_ v_ O_ => v_ = (Value.tuple #[]) ∧ O_ = [Sum.elim R_ Rx_ (r)])) := by
 unfold cp_ at h
 refine ar_ (n := 18) (vs := [v0, v1]) Tryz.func72 rfl rfl rfl (ab_ (aa_ (wo_ (bi_ (v := v0) rfl hI rfl (fun g1 w1 I1 => ?_)))))
 obtain ⟨S1, le1, I2, p1⟩ := Inv.boxFreeze (x := (⟨a0⟩ : PRef Hints_room)) I1 (rv_ref' h0_)
 refine wo_ (bi_ (v := v1) rfl I2 rfl (fun g2 w2 I3 => ?_))
 obtain ⟨S2, le2, I4, p2⟩ := Inv.boxFreeze (x := (⟨v1⟩ : Raw)) I3 (op_ o1_)
 refine ad_ (ab_ (aa_ (wo_ (an_ (v := (pt_ g1)) (e := (⟨a0⟩ : PRef Hints_room)) rfl sh66 rfl ((p1.mono le2).at_ I4) (fun u1 hu1 => ?_)))))
 have hu1 := rv_ref hu1
 refine wo_ (dx_ (v := u1) rfl rfl hu1 (wo_ (ac_ (v := u1) rfl fa70_0 rfl (hu1.at_ I4) (wo_ (ac_ (v := (ae_ u1 0)) rfl eb_ rfl ((hu1.at_ I4).fld Hints_room.fld0) (wo_ (an_ (v := (ae_ (ae_ u1 0) 0)) (e := (((⟨a0⟩ : PRef Hints_room).v).Riddle).Locks) rfl oe_ rfl (((hu1.at_ I4).fld Hints_room.fld0).fld Riddle.fld0) (fun u2 hu2 => ?_))))))))
 obtain ⟨z1, m1, k1, rfl⟩ := af_ hu2
 refine wo_ (bb_ rfl Tryz.underlying22 rfl hu2 ?_)
 obtain ⟨x1, hx1, h⟩ := bnd h
 refine wo_ (fu_ (c := (((((⟨a0⟩ : PRef Hints_room).v).Riddle).Locks).length : Int)) rfl Tryz.underlying28 el3 (by decide) rfl rfl I4 hx1 (fun u3 w3 I5 => ?_))
 obtain ⟨z2, m2, k2, e2⟩ := bk_ I5
 subst e2
 refine wo_ (ca_ (z := (.slice none 0 0)) rfl I5 zo28 (fun g3 w4 (I6 : Inv w4 S2 (ao_ g3 28 #[(.slice none 0 0)] :: Row (α := Int) 3 (.slice z2 m2 k2) (x1) :: R_ (s_) :: Fr)) => (wo_ (bd_ (v := (.slice z2 m2 k2)) (cs := #[(.slice none 0 0)]) ht_ I6 rfl rfl rfl nb rfl (fun w5 (I7 : Inv w5 S2 (ao_ g3 28 #[(.slice z2 m2 k2)] :: Row (α := Int) 3 (.slice z2 m2 k2) (x1) :: R_ (s_) :: Fr)) => (ad_ (ab_ (aa_ (wo_ (ck_ (fv := #[]) (cv := #[(pt_ g1), (pt_ g3)]) rfl arr0 (arr2 rfl rfl) (wo_ (ca_ (z := (Value.nilFunc)) rfl I7 zo121 (fun g4 w6 (I8 : Inv w6 S2 (ao_ g4 121 #[(Value.nilFunc)] :: ao_ g3 28 #[(.slice z2 m2 k2)] :: Row (α := Int) 3 (.slice z2 m2 k2) (x1) :: R_ (s_) :: Fr)) => (wo_ (bd_ (v := (.func (.func 96) #[] #[(pt_ g1), (pt_ g3)])) (cs := #[(Value.nilFunc)]) sh121 I8 rfl rfl rfl nb rfl (fun w7 (I9 : Inv w7 S2 (ao_ g4 121 #[(.func (.func 96) #[] #[(pt_ g1), (pt_ g3)])] :: ao_ g3 28 #[(.slice z2 m2 k2)] :: Row (α := Int) 3 (.slice z2 m2 k2) (x1) :: R_ (s_) :: Fr)) => (ad_ (ab_ (aa_ (wo_ (ca_ (z := (Value.nilFunc)) rfl I9 zo81 (fun g5 w8 (I10 : Inv w8 S2 (ao_ g5 81 #[(Value.nilFunc)] :: ao_ g4 121 #[(.func (.func 96) #[] #[(pt_ g1), (pt_ g3)])] :: ao_ g3 28 #[(.slice z2 m2 k2)] :: Row (α := Int) 3 (.slice z2 m2 k2) (x1) :: R_ (s_) :: Fr)) => (ad_ (ab_ (aa_ (wo_ (ck_ (fv := #[]) (cv := #[(pt_ g3), (pt_ g1), (pt_ g4), (pt_ g2), (pt_ g5)]) rfl arr0 (arr5 rfl rfl rfl rfl rfl) (wo_ (bd_ (v := (.func (.func 97) #[] #[(pt_ g3), (pt_ g1), (pt_ g4), (pt_ g2), (pt_ g5)])) (cs := #[(Value.nilFunc)]) sh81 I10 rfl rfl rfl nb rfl (fun w9 (I11 : Inv w9 S2 (ao_ g5 81 #[(.func (.func 97) #[] #[(pt_ g3), (pt_ g1), (pt_ g4), (pt_ g2), (pt_ g5)])] :: ao_ g4 121 #[(.func (.func 96) #[] #[(pt_ g1), (pt_ g3)])] :: ao_ g3 28 #[(.slice z2 m2 k2)] :: Row (α := Int) 3 (.slice z2 m2 k2) (x1) :: R_ (s_) :: Fr)) => (ad_ (aa_ (wo_ (be_ (c := (.func (.func 97) #[] #[(pt_ g3), (pt_ g1), (pt_ g4), (pt_ g2), (pt_ g5)])) rfl sh81 (I11.nth 0 rfl) rfl rfl ?_))))))))))))))))))))))))))))))))))
 obtain ⟨x2, hx2, h⟩ := bnd h
 obtain ⟨x3, x4⟩ := x2
 have h := jn2s h
 refine wo_ (bo_ (vs := [(vi 0), (pt_ g3), (pt_ g1), (pt_ g4), (pt_ g2), (pt_ g5)]) rfl ca97 rfl (oa_ (vs := [(vi 0)]) (cap := #[(pt_ g3), (pt_ g1), (pt_ g4), (pt_ g2), (pt_ g5)]) (fk_ rfl)) (mu_ fuel_ (((((I11.pull 4).pull 1).pull 2).pull 4).pull 4) (p1.mono le2) p2 o1_ (h1_.mono (le1.trans le2)) hx2) (fun v1 w10 S3 O1 le3 I12 hv1 => ?_))
 obtain ⟨z3, m3, k3, rfl, rfl⟩ := hv1
 refine ad_ ?_
 obtain rfl := sj h
 exact ⟨rfl, (Value.tuple #[]), (res0 rfl), _, [Sum.elim R_ Rx_ (x4)], ((le1.trans le2).trans le3), ((((I12).drop).drop).drop).drop, rfl, rfl⟩
theorem hints_Worlds_ok {w : World} {S : PH} {Fr : List HP} {a0 : Riddle} {v0 : Value} {r : Int × Int} (hI : Inv w S (Fr)) (h0_ : RV S v0 a0) (h : hn_ a0 = some r) :
    Calls Tryz.prog 35 [v0].toArray w (cc_ S Fr (Value.tuple #[(Value.int .i64 (r.1)), (Value.int .i64 (r.2))])) := by
 unfold hn_ at h
 obtain ⟨c1, c2, c3, c4, e1, r1, r2, r3, r4⟩ := Riddle.inv h0_
 subst e1
 obtain ⟨z1, m1, k1, rfl⟩ := af_ r1
 obtain ⟨z2, m2, k2, rfl⟩ := af_ r2
 obtain ⟨z3, m3, k3, rfl⟩ := af_ r3
 obtain ⟨z4, m4, k4, rfl⟩ := af_ r4
 refine jh_ (n := 19) (vs := [(.agg #[(.slice z1 m1 k1), (.slice z2 m2 k2), (.slice z3 m3 k3), (.slice z4 m4 k4)])]) Tryz.func35 rfl rfl rfl ?_
 have I1 := Inv.noD hI
 refine ab_ (aa_ (wo_ (bi_ (v := (.agg #[(.slice z1 m1 k1), (.slice z2 m2 k2), (.slice z3 m3 k3), (.slice z4 m4 k4)])) rfl I1 rfl (fun g1 w1 I2 => ?_))))
 obtain ⟨S1, le1, I3, p1⟩ := Inv.boxFreeze (x := a0) I2 (Riddle.rv (s := a0) r1 r2 r3 r4)
 refine wo_ (ca_ (z := (vi 0)) rfl I3 zo3 (fun g2 w2 (I4 : Inv w2 S1 (ao_ g2 3 #[(vi 0)] :: pf_ ([]) :: Fr)) => (wa_ (v := (vi 0)) rfl rfl (ad_ (ab_ (aa_ (wo_ (an_ (v := (pt_ g1)) (e := a0) rfl ii_ rfl (p1.at_ I4) (fun u1 hu1 => ?_)))))))))
 obtain ⟨c5, c6, c7, c8, e6, r5, r6, r7, r8⟩ := Riddle.inv hu1
 subst e6
 obtain ⟨z5, m5, k5, rfl⟩ := af_ r5
 obtain ⟨z6, m6, k6, rfl⟩ := af_ r6
 obtain ⟨z7, m7, k7, rfl⟩ := af_ r7
 obtain ⟨z8, m8, k8, rfl⟩ := af_ r8
 obtain ⟨x1, hx1, h⟩ := bnd h
 refine wo_ (bo_ (vs := [(.agg #[(.slice z5 m5 k5), (.slice z6 m6 k6), (.slice z7 m7 k7), (.slice z8 m8 k8)])]) rfl ca71 rfl (fk_ rfl) (fc_ I4 (Riddle.rv (s := a0) r5 r6 r7 r8) hx1) (fun cv1 w3 S2 O1 le2 I5 hv1 => ?_))
 obtain ⟨c9, rfl, rfl, r9⟩ := hv1
 refine wm_ (v := (Value.tuple #[c9, (vi x1.2)])) rfl rfl (wo_ (bc_ (v := c9) rfl rfl rfl (wo_ (bc_ (v := (vi x1.2)) rfl rfl rfl (wa_ (v := c9) rfl rfl (wa_ (v := (vi x1.2)) rfl rfl (ad_ (ab_ (ab_ (aa_ (wm_ (v := (vi x1.2)) rfl rfl (wo_ (cd_ (a := x1.2) (b := 0) rfl rfl rfl (ad_ ?_))))))))))))))
 rcases ifs h with ⟨hc1, h⟩ | ⟨hc1, h⟩
 ·
  refine ai_ (b := x1.2 != 0) rfl hc1 (ab_ (aa_ (wm_ (v := (vi x1.2)) rfl rfl (wo_ (bd_ (v := (vi 0)) (cs := #[(vi 0)]) sh3 I5 rfl rfl rfl nb rfl (fun w4 (I6 : Inv w4 S2 (ao_ g2 3 #[(vi 0)] :: pf_ ([]) :: Fr)) => (wa_ (v := (vi x1.2)) rfl rfl (ad_ (al_ (ret_m rfl (I6.pull 1) (fun w5 I7 => ?_)))))))))))
  obtain rfl := sj h
  exact ⟨(Value.tuple #[(vi 0), (vi x1.2)]), (res2c1 (c := (vi 0)) rfl rfl sh3 I7 rfl), _, [], (le1.trans le2), (I7).drop, rfl, rfl⟩
 refine ak_ (b := x1.2 != 0) rfl hc1 (av_ (ab_ (ab_ (aa_ (wm_ (v := c9) rfl rfl ?_)))))
 obtain ⟨x2, hx2, h⟩ := bnd h
 refine wo_ (ck_ (fv := #[c9]) (cv := #[]) rfl (arr1 rfl) arr0 (ad_ (ax_ ?_)))
 obtain ⟨o2, hrun1, h⟩ := bnd h
 refine wp_range (M := (argRow Int 3)) (F := (fun g_ s_ => cp_ x2 g_ s_)) (fun (s1 : (Int)) => HPof fun S_ L_ => L_ = [ao_ g2 3 #[(vi s1)]]) (fun e=>by cases e) (fun _ => Code.ret) rfl rfl ob_ ⟨72, [c9], [], rfl, ca72, fun R_ Rx_ g_ T_ w_ Fr_ v_ s_ o_ hle_ ho_ hy_ hI_ h_ => Calls.doneMono (jn_ hI_ ((lh_ r9 hx2).mono hle_) ho_ hy_ h_) fun _ _ _ hp_ => hp_.2⟩ (Inv.ofShut (L := [ao_ g2 3 #[(vi 0)]]) rfl I5) hrun1 ?_ ?_
 ·
  intro l1 rc1 S3 w9 us1 x4 s2 o3 G1 le3 hr1 hn1 hI1 h1
  obtain ⟨z9, m9, k9, rfl⟩ := hr1
  obtain ⟨S4, L1, le4, rfl, I14⟩ := Inv.ofOpen (hI1.pull 2)
  have I15 : Inv w9 S3 (ao_ g2 3 #[(vi s2)] :: gd_ l1 rc1 :: Row (α := Int) 3 (Value.slice z9 m9 k9) (x4) :: G1) := I14
  refine av_ (⟨_, _, lr, (I15.pull 1), fun w10 I16 => ?_⟩)
  refine ax_ (aa_ (wo_ (be_ (c := (vi s2)) rfl sh3 (I16.nth 1 rfl) rfl rfl (wo_ (bp_ (a := s2) (b := 1) rfl rfl rfl (wo_ (bd_ (v := (vi (w64 (s2 + 1)))) (cs := #[(vi s2)]) sh3 (I16.pull 1) rfl rfl rfl nb rfl (fun w11 (I17 : Inv w11 S3 (ao_ g2 3 #[(vi (w64 (s2 + 1)))] :: gd_ l1 { rc1 with state := .busy } :: Row (α := Int) 3 (.slice z9 m9 k9) (x4) :: G1)) => (ad_ ?_)))))))))
  obtain rfl := sj h1
  exact ⟨_, _, lr, rfl, (Inv.rot2 (Inv.ofShut (L := [ao_ g2 3 #[(vi (w64 (s2 + 1)))]]) rfl (((I17.pull 2).pull 2).pull 2)))⟩
 intro D1 w12 S5 le5 I18
 rcases o2 with s3 | q2
 ·
  obtain ⟨S6, L2, le6, rfl, I19⟩ := Inv.ofOpen I18
  have I20 : Inv w12 S5 (ao_ g2 3 #[(vi s3)] :: Dfr D1 :: pf_ ([]) :: Fr) := I19
  have I21 := Inv.consD ((I20.pull 2).pull 2)
  have h := onE_inl h
  refine ne_ (ab_ (aa_ (wo_ (be_ (c := (vi s3)) rfl sh3 (I21.nth 1 rfl) rfl rfl (wo_ (bd_ (v := (vi s3)) (cs := #[(vi s3)]) sh3 (I21.pull 1) rfl rfl rfl nb rfl (fun w13 (I22 : Inv w13 S5 (ao_ g2 3 #[(vi s3)] :: pf_ (D1 :: []) :: Fr)) => (wa_ (v := (vi 0)) rfl rfl (ad_ (al_ (ret_m (mark_ds rfl) (I22.pull 1) (fun w14 I23 => ?_))))))))))))
  obtain rfl := sj h
  exact ⟨(Value.tuple #[(vi s3), (vi 0)]), (res2c1 (c := (vi s3)) rfl rfl sh3 I23 rfl), _, [], ((le1.trans le2).trans le5), (I23).drop, rfl, rfl⟩
 cases q2
theorem oi_ {w : World} {S : PH} {Fr : List HP} {a0 : Riddle} {v0 : Value} {a1 : Aid} {v1 : Value} {r : Bool} (hI : Inv w S (Fr)) (h0_ : RV S v0 a0) (h1_ : RV S v1 a1) (h : iv_ a0 a1 = some r) :
    Calls Tryz.prog 73 [v0, v1].toArray w (cc_ S Fr (Value.bool (r))) := by
 unfold iv_ at h
 obtain ⟨c1, c2, c3, c4, e1, r1, r2, r3, r4⟩ := Riddle.inv h0_
 subst e1
 obtain ⟨z1, m1, k1, rfl⟩ := af_ r1
 obtain ⟨z2, m2, k2, rfl⟩ := af_ r2
 obtain ⟨z3, m3, k3, rfl⟩ := af_ r3
 obtain ⟨z4, m4, k4, rfl⟩ := af_ r4
 obtain ⟨c5, e6, r5⟩ := Aid.inv h1_
 subst e6
 obtain ⟨z5, m5, k5, rfl⟩ := af_ r5
 refine ar_ (n := 20) (vs := [(.agg #[(.slice z1 m1 k1), (.slice z2 m2 k2), (.slice z3 m3 k3), (.slice z4 m4 k4)]), (.agg #[(vi a1.Lock), (vi a1.Clue.Kind), (vi a1.Clue.A), (vi a1.Clue.B), (vi a1.Clue.N), (vi a1.Clue.M), (.slice z5 m5 k5), (vb a1.Clue.Not)])]) Tryz.func73 rfl rfl rfl (ab_ (aa_ (wo_ (bi_ (v := (.agg #[(.slice z1 m1 k1), (.slice z2 m2 k2), (.slice z3 m3 k3), (.slice z4 m4 k4)])) rfl hI rfl (fun g1 w1 I1 => ?_)))))
 obtain ⟨S1, le1, I2, p1⟩ := Inv.boxFreeze (x := a0) I1 (Riddle.rv (s := a0) r1 r2 r3 r4)
 refine wo_ (bi_ (v := (.agg #[(vi a1.Lock), (vi a1.Clue.Kind), (vi a1.Clue.A), (vi a1.Clue.B), (vi a1.Clue.N), (vi a1.Clue.M), (.slice z5 m5 k5), (vb a1.Clue.Not)])) rfl I2 rfl (fun g2 w2 I3 => ?_))
 obtain ⟨S2, le2, I4, p2⟩ := Inv.boxFreeze (x := a1) I3 (Aid.rv (s := a1) (r5.mono le1))
 refine wa_ (v := (vb false)) rfl rfl (ad_ (ab_ (aa_ (wo_ (ac_ (v := (pt_ g2)) rfl fa32_0 rfl (p2.at_ I4) (wo_ (ag_ (v := (ae_ (pt_ g2) 0)) (e := a1.Lock) rfl sh3 rfl ((p2.at_ I4).fld Aid.fld0) (wo_ (ac_ (v := (pt_ g1)) rfl eb_ rfl ((p1.mono le2).at_ I4) (wo_ (an_ (v := (ae_ (pt_ g1) 0)) (e := a0.Locks) rfl oe_ rfl (((p1.mono le2).at_ I4).fld Riddle.fld0) (fun u1 hu1 => ?_))))))))))))
 obtain ⟨z6, m6, k6, rfl⟩ := af_ hu1
 refine wo_ (bb_ rfl Tryz.underlying22 rfl hu1 (wo_ (eg_ (a := (a0.Locks.length : Int)) (b := 1) rfl rfl rfl ?_)))
 obtain ⟨x1, hx1, h⟩ := bnd h
 refine wo_ (ap_ (vs := [(vi a1.Lock), (vi 0), (vi (w64 ((a0.Locks.length : Int) - 1)))]) (r := (vb x1)) rfl ca51 rfl (cu_ rfl rfl rfl) I4 (fun Fr_ hF_ => br_ hF_  hx1) (fun w3 I5 => (wm_ (v := (vb x1)) rfl rfl ?_)))
 rcases ifs h with ⟨hc1, h⟩ | ⟨hc1, h⟩
 ·
  refine wk_ rfl rfl hc1 (an_ (v := (pt_ g1)) (e := a0) rfl ii_ rfl ((p1.mono le2).at_ I5) (fun u2 hu2 => ?_))
  obtain ⟨c6, c7, c8, c9, e9, r6, r7, r8, r9⟩ := Riddle.inv hu2
  subst e9
  obtain ⟨z7, m7, k7, rfl⟩ := af_ r6
  obtain ⟨z8, m8, k8, rfl⟩ := af_ r7
  obtain ⟨z9, m9, k9, rfl⟩ := af_ r8
  obtain ⟨z10, m10, k10, rfl⟩ := af_ r9
  refine wk_ rfl rfl hc1 (ac_ (v := (pt_ g2)) rfl fa32_0 rfl (p2.at_ I5) (wk_ rfl rfl hc1 (ag_ (v := (ae_ (pt_ g2) 0)) (e := a1.Lock) rfl sh3 rfl ((p2.at_ I5).fld Aid.fld0) (wk_ rfl rfl hc1 (ac_ (v := (pt_ g2)) rfl fa32_1 rfl (p2.at_ I5) (wk_ rfl rfl hc1 (an_ (v := (ae_ (pt_ g2) 1)) (e := a1.Clue) rfl mg_ rfl ((p2.at_ I5).fld Aid.fld1) (fun u3 hu3 => ?_))))))))
  obtain ⟨c10, e14, r10⟩ := Clue.inv hu3
  subst e14
  obtain ⟨z11, m11, k11, rfl⟩ := af_ r10
  obtain ⟨x2, hx2, h⟩ := bnd h
  refine wk_ rfl rfl hc1 (ap_ (vs := [(.agg #[(.slice z7 m7 k7), (.slice z8 m8 k8), (.slice z9 m9 k9), (.slice z10 m10 k10)]), (vi a1.Lock), (.agg #[(vi a1.Clue.Kind), (vi a1.Clue.A), (vi a1.Clue.B), (vi a1.Clue.N), (vi a1.Clue.M), (.slice z11 m11 k11), (vb a1.Clue.Not)])]) (r := (vb x2)) rfl ca98 rfl (cu_ rfl rfl rfl) I5 (fun Fr_ hF_ => hints_fits_ok hF_ (Riddle.rv (s := a0) r6 r7 r8 r9) (Clue.rv (s := a1.Clue) r10) hx2) (fun w4 I6 => (wo_ (ay_ (c := x1) (a := (vb x2)) rfl rfl hc1 rfl (wa_ (v := (vb x2)) rfl rfl (ad_ (al_ ?_)))))))
  obtain rfl := sj h
  exact ⟨rfl, (vb x2), (bq_ rfl rfl), _, [], (le1.trans le2), I6, rfl, rfl⟩
 refine ws_ rfl rfl hc1 (ws_ rfl rfl hc1 (ws_ rfl rfl hc1 (ws_ rfl rfl hc1 (ws_ rfl rfl hc1 (ws_ rfl rfl hc1 (wo_ (aq_ (c := x1) (b := (vb false)) rfl rfl hc1 rfl (wa_ (v := (vb false)) rfl rfl (ad_ (al_ ?_))))))))))
 obtain rfl := sj h
 exact ⟨rfl, (vb false), (bq_ rfl rfl), _, [], (le1.trans le2), I5, rfl, rfl⟩
theorem hints_full_ok {w : World} {S : PH} {Fr : List HP} {a0 : Riddle} {v0 : Value} {a1 : Int} {r : Bool} (hI : Inv w S (Fr)) (h0_ : RV S v0 a0) (h : ly_ a0 a1 = some r) :
    Calls Tryz.prog 74 [v0, (Value.int .i64 (a1))].toArray w (cc_ S Fr (Value.bool (r))) := by
 unfold ly_ at h
 obtain ⟨c1, c2, c3, c4, e1, r1, r2, r3, r4⟩ := Riddle.inv h0_
 subst e1
 obtain ⟨z1, m1, k1, rfl⟩ := af_ r1
 obtain ⟨z2, m2, k2, rfl⟩ := af_ r2
 obtain ⟨z3, m3, k3, rfl⟩ := af_ r3
 obtain ⟨z4, m4, k4, rfl⟩ := af_ r4
 refine ar_ (n := 12) (vs := [(.agg #[(.slice z1 m1 k1), (.slice z2 m2 k2), (.slice z3 m3 k3), (.slice z4 m4 k4)]), (vi a1)]) Tryz.func74 rfl rfl rfl (ab_ (aa_ (wo_ (bi_ (v := (.agg #[(.slice z1 m1 k1), (.slice z2 m2 k2), (.slice z3 m3 k3), (.slice z4 m4 k4)])) rfl hI rfl (fun g1 w1 I1 => ?_)))))
 obtain ⟨S1, le1, I2, p1⟩ := Inv.boxFreeze (x := a0) I1 (Riddle.rv (s := a0) r1 r2 r3 r4)
 refine wa_ (v := (vb false)) rfl rfl (ad_ (ab_ (aa_ (wo_ (ac_ (v := (pt_ g1)) rfl jo_ rfl (p1.at_ I2) (wo_ (an_ (v := (ae_ (pt_ g1) 2)) (e := a0.Known) rfl sh24 rfl ((p1.at_ I2).fld Riddle.fld2) (fun u1 hu1 => ?_))))))))
 obtain ⟨z5, m5, k5, rfl⟩ := af_ hu1
 refine wm_ (v := (vi a1)) rfl rfl ?_
 obtain ⟨x1, hx1, h⟩ := bnd h
 refine wo_ (aj_ (v := (.slice z5 m5 k5)) (i := a1) (e := x1) rfl Tryz.underlying24 sh63 rfl hu1 rfl hx1 (wo_ (an_ (v := (ah_ (.slice z5 m5 k5) (a1) (Enc.sz (List Clue)))) (e := x1) rfl sh63 rfl (hu1.elem I2.in_ hx1) (fun u2 hu2 => ?_))))
 obtain ⟨z6, m6, k6, rfl⟩ := af_ hu2
 refine wo_ (bb_ rfl Tryz.underlying63 rfl hu2 (wo_ (bn_ (a := (x1.length : Int)) (b := 20) rfl rfl rfl (wa_ (v := (vb ((x1.length : Int) == 20))) rfl rfl (ad_ (al_ ?_))))))
 obtain rfl := sj h
 exact ⟨rfl, (vb ((x1.length : Int) == 20)), (bq_ rfl rfl), _, [], le1, I2, rfl, rfl⟩
set_option maxHeartbeats 1000000 in
theorem ls_ {w : World} {S : PH} {Fr : List HP} {a0 : List CodeLock} {v0 : Value} {r : List CodeLock} (hI : Inv w S Fr) (h0_ : RV S v0 a0) (h : el_ a0 = some r) :
    Calls Tryz.prog 101 [v0].toArray w (ms_ S Fr (fun T_ v_ O_ => ∃ (a0_ : Option Addr) (n0_ k0_ : Nat), v_ = (Value.slice a0_ n0_ k0_) ∧ O_ = [Row (α := CodeLock) 62 (Value.slice a0_ n0_ k0_) r])) := by
  unfold el_ at h
  obtain ⟨z1, cp1, e1, _, _, hn, _⟩ := jl_ h0_
  subst e1
  refine ar_ (n := 8) (vs := [.slice z1 a0.length cp1]) Tryz.func101 rfl rfl rfl (ab_ (aa_ (wa_ (v := .slice none 0 0) rfl rfl (ad_ (ab_ (ab_ (aa_ (wm_ (v := .slice z1 a0.length cp1) rfl rfl (wo_ (op_eqnil rfl Tryz.underlying22 rfl rfl (ad_ ?_)))))))))))
  cases z1 with
  | none =>
    refine ai_ (b := true) rfl rfl (ab_ (aa_ (wa_ (v := .slice none 0 0) rfl rfl (ad_ (al_ ?_)))))
    have hl := (hn rfl).1
    subst hl
    obtain rfl := sj h
    exact ⟨rfl, _, bq_ rfl rfl, S, [Row (α := CodeLock) 62 (.slice none 0 0) []], lr, hI.rowNil, _, _, _, rfl, rfl⟩
  | some ad =>
    refine ak_ (b := false) rfl rfl (av_ (ab_ (aa_ ?_)))
    set_option maxRecDepth 100000 in
    refine wo_ (bh_ (vs := []) (r := ([] : List CodeLock)) rfl Tryz.underlying22 el62 parts0 rfl (by decide) (by decide) trivial hI (fun u1 w1 I1 => ?_))
    obtain ⟨z2, m2, k2, e2⟩ := bk_ I1
    subst e2
    refine wm_ (v := .slice (some ad) a0.length cp1) rfl rfl (wo_ (ef_ (α := CodeLock) (v := .slice z2 m2 k2) (u := .slice (some ad) a0.length cp1) rfl rfl Tryz.underlying22 el62 (by decide) (by decide) rfl rfl I1 (h0_.src I1.in_) h (fun u2 w2 I2 => ?_)))
    obtain ⟨z3, m3, k3, e3⟩ := bk_ I2
    subst e3
    refine wa_ (v := .slice z3 m3 k3) rfl rfl (ad_ (al_ ?_))
    exact ⟨rfl, _, bq_ rfl rfl, S, [Row (α := CodeLock) 62 (.slice z3 m3 k3) r], lr, I2, _, _, _, rfl, rfl⟩
set_option maxHeartbeats 1000000 in
theorem oo_ {w : World} {S : PH} {Fr : List HP} {a0 : List Tie} {v0 : Value} {r : List Tie} (hI : Inv w S Fr) (h0_ : RV S v0 a0) (h : gy_ a0 = some r) :
    Calls Tryz.prog 102 [v0].toArray w (ms_ S Fr (fun T_ v_ O_ => ∃ (a0_ : Option Addr) (n0_ k0_ : Nat), v_ = (Value.slice a0_ n0_ k0_) ∧ O_ = [Row (α := Tie) 75 (Value.slice a0_ n0_ k0_) r])) := by
  unfold gy_ at h
  obtain ⟨z1, cp1, e1, _, _, hn, _⟩ := jl_ h0_
  subst e1
  refine ar_ (n := 8) (vs := [.slice z1 a0.length cp1]) Tryz.func102 rfl rfl rfl (ab_ (aa_ (wa_ (v := .slice none 0 0) rfl rfl (ad_ (ab_ (ab_ (aa_ (wm_ (v := .slice z1 a0.length cp1) rfl rfl (wo_ (op_eqnil rfl Tryz.underlying25 rfl rfl (ad_ ?_)))))))))))
  cases z1 with
  | none =>
    refine ai_ (b := true) rfl rfl (ab_ (aa_ (wa_ (v := .slice none 0 0) rfl rfl (ad_ (al_ ?_)))))
    have hl := (hn rfl).1
    subst hl
    obtain rfl := sj h
    exact ⟨rfl, _, bq_ rfl rfl, S, [Row (α := Tie) 75 (.slice none 0 0) []], lr, hI.rowNil, _, _, _, rfl, rfl⟩
  | some ad =>
    refine ak_ (b := false) rfl rfl (av_ (ab_ (aa_ ?_)))
    set_option maxRecDepth 100000 in
    refine wo_ (bh_ (vs := []) (r := ([] : List Tie)) rfl Tryz.underlying25 el75 parts0 rfl (by decide) (by decide) trivial hI (fun u1 w1 I1 => ?_))
    obtain ⟨z2, m2, k2, e2⟩ := bk_ I1
    subst e2
    refine wm_ (v := .slice (some ad) a0.length cp1) rfl rfl (wo_ (ef_ (α := Tie) (v := .slice z2 m2 k2) (u := .slice (some ad) a0.length cp1) rfl rfl Tryz.underlying25 el75 (by decide) (by decide) rfl rfl I1 (h0_.src I1.in_) h (fun u2 w2 I2 => ?_)))
    obtain ⟨z3, m3, k3, e3⟩ := bk_ I2
    subst e3
    refine wa_ (v := .slice z3 m3 k3) rfl rfl (ad_ (al_ ?_))
    exact ⟨rfl, _, bq_ rfl rfl, S, [Row (α := Tie) 75 (.slice z3 m3 k3) r], lr, I2, _, _, _, rfl, rfl⟩
theorem kw_ {w : World} {S : PH} {Fr : List HP} {a0 : Clue} {v0 : Value} {r : Clue} (hI : Inv w S (Fr)) (h0_ : RV S v0 a0) (h : dl_ a0 = some r) :
    Calls Tryz.prog 87 [v0].toArray w (ms_ S Fr (fun T_ v_ O_ => ∃ (c0_ : Value), v_ = c0_ ∧ O_ = [] ∧ RV T_ c0_ r)) := by
 unfold dl_ at h
 obtain ⟨c1, e1, r1⟩ := Clue.inv h0_
 subst e1
 obtain ⟨z1, m1, k1, rfl⟩ := af_ r1
 refine ar_ (n := 8) (vs := [(.agg #[(vi a0.Kind), (vi a0.A), (vi a0.B), (vi a0.N), (vi a0.M), (.slice z1 m1 k1), (vb a0.Not)])]) Tryz.func87 rfl rfl rfl (ab_ (aa_ (wo_ (bi_ (v := (.agg #[(vi a0.Kind), (vi a0.A), (vi a0.B), (vi a0.N), (vi a0.M), (.slice z1 m1 k1), (vb a0.Not)])) rfl hI rfl (fun g1 w1 I1 => (wo_ (ca_ (z := (.agg #[(vi 0), (vi 0), (vi 0), (vi 0), (vi 0), (.slice none 0 0), (vb false)])) rfl I1 zo30 (fun g2 w2 (I2 : Inv w2 S (ao_ g2 30 #[(vi 0), (vi 0), (vi 0), (vi 0), (vi 0), (.slice none 0 0), (vb false)] :: ao_ g1 30 #[(vi a0.Kind), (vi a0.A), (vi a0.B), (vi a0.N), (vi a0.M), (.slice z1 m1 k1), (vb a0.Not)] :: Fr)) => (ad_ (ab_ (aa_ (wo_ (az_ (v := (pt_ g1)) rfl lb_ rfl rfl (wo_ (be_ (c := (.slice z1 m1 k1)) rfl ht_ (I2.nth 1 rfl) rfl rfl ?_)))))))))))))))
 obtain ⟨x1, hx1, h⟩ := bnd h
 refine wo_ (bo_ (vs := [(.slice z1 m1 k1)]) rfl ca103 rfl (fk_ rfl) (he_ I2 r1 hx1) (fun cv1 w3 S1 O1 le1 I3 hv1 => ?_))
 obtain ⟨z2, m2, k2, rfl, rfl⟩ := hv1
 refine wo_ (az_ (v := (pt_ g1)) rfl lb_ rfl rfl (wo_ (bd_ (v := (.slice z2 m2 k2)) (cs := #[(vi a0.Kind), (vi a0.A), (vi a0.B), (vi a0.N), (vi a0.M), (.slice z1 m1 k1), (vb a0.Not)]) ht_ (I3.pull 2) rfl rfl rfl nb rfl (fun w4 (I4 : Inv w4 S1 (ao_ g1 30 #[(vi a0.Kind), (vi a0.A), (vi a0.B), (vi a0.N), (vi a0.M), (.slice z2 m2 k2), (vb a0.Not)] :: Row (α := Int) 3 (.slice z2 m2 k2) (x1) :: ao_ g2 30 #[(vi 0), (vi 0), (vi 0), (vi 0), (vi 0), (.slice none 0 0), (vb false)] :: Fr)) => (ad_ (ab_ (aa_ (wo_ (cz_ (l := [(vi a0.Kind), (vi a0.A), (vi a0.B), (vi a0.N), (vi a0.M), (.slice z2 m2 k2), (vb a0.Not)]) rfl mg_ (I4.nth 0 rfl) rfl rfl rfl (wo_ (bd_ (v := (.agg #[(vi a0.Kind), (vi a0.A), (vi a0.B), (vi a0.N), (vi a0.M), (.slice z2 m2 k2), (vb a0.Not)])) (cs := #[(vi 0), (vi 0), (vi 0), (vi 0), (vi 0), (.slice none 0 0), (vb false)]) mg_ (I4.pull 2) rfl rfl rfl nb rfl (fun w5 (I5 : Inv w5 S1 (ao_ g2 30 #[(vi a0.Kind), (vi a0.A), (vi a0.B), (vi a0.N), (vi a0.M), (.slice z2 m2 k2), (vb a0.Not)] :: ao_ g1 30 #[(vi a0.Kind), (vi a0.A), (vi a0.B), (vi a0.N), (vi a0.M), (.slice z2 m2 k2), (vb a0.Not)] :: Row (α := Int) 3 (.slice z2 m2 k2) (x1) :: Fr)) => (ad_ (al_ ?_))))))))))))))
 obtain ⟨S2, le2, I6, r2⟩ := Inv.rowFreeze (I5.pull 2)
 obtain rfl := sj h
 exact ⟨rfl, (.agg #[(vi a0.Kind), (vi a0.A), (vi a0.B), (vi a0.N), (vi a0.M), (.slice z2 m2 k2), (vb a0.Not)]), (resC (cs := #[(vi a0.Kind), (vi a0.A), (vi a0.B), (vi a0.N), (vi a0.M), (.slice z2 m2 k2), (vb a0.Not)]) rfl rfl mg_ I5), _, [], (le1.trans le2), ((I6).drop).drop, _, rfl, rfl, (Clue.rv (s := (⟨a0.Kind, a0.A, a0.B, a0.N, a0.M, x1, a0.Not⟩ : Clue)) r2)⟩
end Go.Proofs.YtlpdpeghgndmkaaGreat.Pad
