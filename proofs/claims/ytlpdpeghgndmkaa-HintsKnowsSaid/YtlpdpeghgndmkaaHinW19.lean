/- A part of the proof: what the functions of the program compute, shown over the model. -/
import Derived.Test.YtlpdpeghgndmkaaHinP
import Derived.Test.YtlpdpeghgndmkaaHinW1
import Derived.Test.YtlpdpeghgndmkaaHinW3
import Derived.Test.YtlpdpeghgndmkaaHinW4
import Derived.Test.YtlpdpeghgndmkaaHinW8
import Derived.Test.YtlpdpeghgndmkaaHinW9
import Derived.Test.YtlpdpeghgndmkaaHinW11
import Derived.Test.YtlpdpeghgndmkaaHinW15
import Derived.Test.YtlpdpeghgndmkaaHinW18
import Derived.KernelRfl
set_option linter.unusedVariables false
set_option maxHeartbeats 4000000
set_option maxRecDepth 100000
namespace Go.Proofs.Ytlpdpeghgndmkaa.Pad
open Go Go.Proofs
theorem law07_sameLists_ok {w : World} {S : PH} {Fr : List HP} {a0 : (List (List Int))} {v0 : Value} {a1 : (List (List Int))} {v1 : Value} {r : Bool} (hI : Inv w S (Fr)) (h0_ : RV S v0 a0) (h1_ : RV S v1 a1) (h : gd_ a0 a1 = some r) :
    Calls Try.prog 20 [v0, v1].toArray w (cl_ S Fr (Value.bool (r))) := by
 unfold gd_ at h
 obtain ⟨z1, m1, k1, rfl⟩ := ad_ h0_
 obtain ⟨z2, m2, k2, rfl⟩ := ad_ h1_
 refine av_ (n := 27) (vs := [(.slice z1 m1 k1), (.slice z2 m2 k2)]) Try.func20 rfl rfl rfl (ab_ (aa_ (wa_ (v := (vb false)) rfl rfl (ae_ (ab_ (ab_ (aa_ (wm_ (v := (.slice z1 m1 k1)) rfl rfl (wo_ (bb_ rfl Try.underlying23 rfl h0_ (wm_ (v := (.slice z2 m2 k2)) rfl rfl (wo_ (bb_ rfl Try.underlying23 rfl h1_ (wo_ (cd_ (a := (a0.length : Int)) (b := (a1.length : Int)) rfl rfl rfl (ae_ ?_))))))))))))))))
 rcases ifs h with ⟨hc1, h⟩ | ⟨hc1, h⟩
 ·
  refine aj_ (b := (a0.length : Int) != (a1.length : Int)) rfl hc1 (ab_ (aa_ (wa_ (v := (vb false)) rfl rfl (ae_ (an_ ?_)))))
  obtain rfl := sj h
  exact ⟨rfl, (vb false), (bs_ rfl rfl), _, [], lr, hI, rfl, rfl⟩
 refine am_ (b := (a0.length : Int) != (a1.length : Int)) rfl hc1 (ar_ (ab_ (ab_ (aa_ (wa_ (v := (vi 0)) rfl rfl (ae_ ?_))))))
 have hk1 : a0.length ≤ 9223372036854775807 := (dx_ h0_)
 obtain ⟨o2, hrun1, h⟩ := bnd h
 refine br_ (fun f w => ∃ out1, o2 = Sum.inl out1 ∧ ∃ (S_ : PH), S.Le S_ ∧ Inv w S_ (Fr) ∧ f 0 = (.slice z1 m1 k1) ∧ f 1 = (.slice z2 m2 k2) ∧ f.ds = []) ?_ ?_
 ·
  refine aw_ ?_
  refine fl_ (I := fun (i1 : Nat) (s1 : Unit) (f : Frm) (w : World) => ∃ (S_ : PH), S.Le S_ ∧ Inv w S_ (Fr) ∧ f 0 = (.slice z1 m1 k1) ∧ f 1 = (.slice z2 m2 k2) ∧ f 5 = (vi (i1 : Int)) ∧ f.ds = []) hrun1 ⟨_, lr, hI, rfl, rfl, rfl, rfl⟩ ?_ ?_
  ·
   rintro i1 s1 f w o1 hlt1 hI34 h1 hout1
   obtain ⟨S36, le36, I43, e33, e34, e35, ed7⟩ := hI34
   refine ab_ (ab_ (aa_ (wm_ (v := (vi (i1 : Int))) rfl e35 (wm_ (v := (.slice z1 m1 k1)) rfl e33 (wo_ (bb_ rfl Try.underlying23 rfl (h0_.mono le36) (wo_ (bi_ (a := (i1 : Int)) (b := (a0.length : Int)) rfl rfl rfl (ae_ (aj_ (b := decide ((i1 : Int) < (a0.length : Int))) rfl (ez_ hlt1) (ar_ (ab_ (aw_ (ab_ ?_))))))))))))))
   obtain ⟨x10, hx10, h1⟩ := bnd h1
   obtain ⟨x11, hx11, h1⟩ := bnd h1
   obtain ⟨x12, hx12, h1⟩ := bnd h1
   refine bm_ (sps := [spV 17 [] 0 (.slice z1 m1 k1), spV 18 [] 1 (vi (i1 : Int)), spV 19 [0, 1] 2 (ag_ (.slice z1 m1 k1) ((i1 : Int)) (Enc.sz (List Int))), spR 20 [0, 1, 2] 3 x10, spV 21 [] 4 (.slice z2 m2 k2), spV 22 [] 5 (vi (i1 : Int)), spV 23 [4, 5] 6 (ag_ (.slice z2 m2 k2) ((i1 : Int)) (Enc.sz (List Int))), spR 24 [4, 5, 6] 7 x11, spV 25 (lrg 8) 8 (vb x12), spV 26 (lrg 9) 9 (vb (!x12))]) (tks := []) (O := Fr) rfl (by kernel_rfl) I43 ⟨?_, ?_, ?_, ?_, ?_, ?_, ?_, ?_, ?_, ?_, trivial⟩ ?_
   · exact fun vs f w U X l A K I => pl_ rfl (ax_ (v := (.slice z1 m1 k1)) rfl ((K 0 (ak_ rfl)).trans e33) (fn rfl rfl I))
   · exact fun vs f w U X l A K I => pl_ rfl (ax_ (v := (vi (i1 : Int))) rfl ((K 5 (ak_ rfl)).trans e35) (fn rfl rfl I))
   · exact fun vs f w U X l A K I => pl_ rfl (ai_ (v := (.slice z1 m1 k1)) (i := (i1 : Int)) (e := x10) rfl Try.underlying23 fc_ (A.u 0 rfl rfl rfl) (h0_.mono (le36.trans l)) (A.u 1 rfl rfl rfl) hx10 (fn rfl rfl I))
   ·
    intro vs f w_ U X le A K I
    have q33 := A.u 2 rfl rfl rfl
    refine pl_ rfl (al_ (v := (ag_ (.slice z1 m1 k1) ((i1 : Int)) (Enc.sz (List Int)))) (e := x10) rfl fc_ q33 ((h0_.mono (le36.trans le)).elem I.in_ hx10) (fun u21 hu21 => ?_))
    obtain ⟨z15, m15, k15, rfl⟩ := ad_ hu21
    refine ⟨_, _, rfl, lr, ?_, ?_⟩
    · exact hu21
    exact I
   · exact fun vs f w U X l A K I => pl_ rfl (ax_ (v := (.slice z2 m2 k2)) rfl ((K 1 (ak_ rfl)).trans e34) (fn rfl rfl I))
   · exact fun vs f w U X l A K I => pl_ rfl (ax_ (v := (vi (i1 : Int))) rfl ((K 5 (ak_ rfl)).trans e35) (fn rfl rfl I))
   · exact fun vs f w U X l A K I => pl_ rfl (ai_ (v := (.slice z2 m2 k2)) (i := (i1 : Int)) (e := x11) rfl Try.underlying23 fc_ (A.u 0 rfl rfl rfl) (h1_.mono (le36.trans l)) (A.u 1 rfl rfl rfl) hx11 (fn rfl rfl I))
   ·
    intro vs f w_ U X le A K I
    have q36 := A.u 2 rfl rfl rfl
    refine pl_ rfl (al_ (v := (ag_ (.slice z2 m2 k2) ((i1 : Int)) (Enc.sz (List Int)))) (e := x11) rfl fc_ q36 ((h1_.mono (le36.trans le)).elem I.in_ hx11) (fun u22 hu22 => ?_))
    obtain ⟨z16, m16, k16, rfl⟩ := ad_ hu22
    refine ⟨_, _, rfl, lr, ?_, ?_⟩
    · exact hu22
    exact I
   ·
    intro vs f w_ U X le A K I
    have q37 : f 20 = vs 3 := (A.at_ 3 rfl _ rfl).1 _ rfl
    have r7 : RV U (vs 3) x10 := (A.at_ 3 rfl _ rfl).2
    obtain ⟨u23, hu23⟩ : ∃ u, vs 3 = u := ⟨_, rfl⟩
    rw [hu23] at q37 r7
    obtain ⟨z17, m17, k17, rfl⟩ := ad_ r7
    have q38 : f 24 = vs 7 := (A.at_ 7 rfl _ rfl).1 _ rfl
    have r8 : RV U (vs 7) x11 := (A.at_ 7 rfl _ rfl).2
    obtain ⟨u24, hu24⟩ : ∃ u, vs 7 = u := ⟨_, rfl⟩
    rw [hu24] at q38 r8
    obtain ⟨z18, m18, k18, rfl⟩ := ad_ r8
    refine pl_ rfl (ap_ (vs := [(.slice z17 m17 k17), (.slice z18 m18 k18)]) (r := (vb x12)) rfl ca23 rfl (bw_ q37 q38) I (fun Fr_ hF_ => ed_ hF_ r7 r8 hx12) (fun w50 I54 => (fn rfl rfl I54)))
   ·
    intro vs f w_ U X le A K I
    refine pl_ rfl (cc_ (b := x12) rfl (A.u 8 rfl rfl rfl) (fn rfl rfl I))
   intro vs44 f w52 S47 ed8 le47 hF4 hK44 hI45
   have e40 : f 0 = (Value.slice z1 m1 k1) := (hK44 0 (ao_ rfl)).trans e33
   have e41 : f 1 = (Value.slice z2 m2 k2) := (hK44 1 (ao_ rfl)).trans e34
   have e42 : f 5 = (Value.int .i64 ((i1 : Int))) := (hK44 5 (ao_ rfl)).trans e35
   have I56 : Inv w52 S47 (Fr) := hI45
   have q40 := hF4.u 9 rfl rfl rfl
   rcases ifs h1 with ⟨hc5, h1⟩ | ⟨hc5, h1⟩
   ·
    refine aj_ (b := !x12) q40 hc5 (ab_ (aa_ (wa_ (v := (vb false)) rfl rfl (ae_ (an_ ?_)))))
    obtain rfl := sj h1
    obtain rfl := (hout1 _ rfl)
    have h2 := h
    obtain rfl := sj h2
    exact ⟨(ed8.trans ed7), (vb false), (bs_ rfl rfl), _, [], (le36.trans le47), I56, rfl, rfl⟩
   refine am_ (b := !x12) q40 hc5 (ar_ (aa_ (wm_ (v := (vi (i1 : Int))) rfl e42 (wo_ (bo_ (a := (i1 : Int)) (b := 1) rfl rfl rfl (wa_ (v := (vi (w64 ((i1 : Int) + 1)))) rfl rfl (ae_ ?_)))))))
   obtain rfl := sj h1
   exact ⟨_, rfl, _, (le36.trans le47), I56, e40, e41, (bj_ hlt1 hk1), (ed8.trans ed7)⟩
  rintro s2 f w hs1 hI46
  obtain ⟨S48, le48, I57, e43, e44, e45, ed9⟩ := hI46
  refine ab_ (ab_ (aa_ (wm_ (v := (vi ((a0.length : Int)))) rfl e45 (wm_ (v := (.slice z1 m1 k1)) rfl e43 (wo_ (bb_ rfl Try.underlying23 rfl (h0_.mono le48) (wo_ (bi_ (a := (a0.length : Int)) (b := (a0.length : Int)) rfl rfl rfl (ae_ (am_ (b := decide ((a0.length : Int) < (a0.length : Int))) rfl (fa_ _) (bl_ ?_)))))))))))
  exact ⟨s2, hs1, _, le48, I57, e43, e44, ed9⟩
 rintro f w ⟨out1, rfl, S49, le49, I58, e46, e47, ed10⟩
 have h := ey_ h
 refine ab_ (aa_ (wa_ (v := (vb true)) rfl rfl (ae_ (an_ ?_))))
 obtain rfl := sj h
 exact ⟨ed10, (vb true), (bs_ rfl rfl), _, [], le49, I58, rfl, rfl⟩
theorem ref07_counts_ok {w : World} {S : PH} {Fr : List HP} {a0 : Riddle} {v0 : Value} {r : (List Int)} (hI : Inv w S (Fr)) (h0_ : RV S v0 a0) (h : iu_ a0 = some r) :
    Calls Try.prog 57 [v0].toArray w (ky_ S Fr (fun T_ v_ O_ => ∃ (a0_ : Option Addr) (n0_ k0_ : Nat), v_ = (Value.slice a0_ n0_ k0_) ∧ O_ = [Row (α := Int) 3 (Value.slice a0_ n0_ k0_) (r)])) := by
 unfold iu_ at h
 obtain ⟨c1, c2, c3, c4, e1, r1, r2, r3, r4⟩ := Riddle.inv h0_
 subst e1
 obtain ⟨z1, m1, k1, rfl⟩ := ad_ r1
 obtain ⟨z2, m2, k2, rfl⟩ := ad_ r2
 obtain ⟨z3, m3, k3, rfl⟩ := ad_ r3
 obtain ⟨z4, m4, k4, rfl⟩ := ad_ r4
 refine av_ (n := 24) (vs := [(.agg #[(.slice z1 m1 k1), (.slice z2 m2 k2), (.slice z3 m3 k3), (.slice z4 m4 k4)])]) Try.func57 rfl rfl rfl (ab_ (aa_ (wo_ (bn_ (v := (.agg #[(.slice z1 m1 k1), (.slice z2 m2 k2), (.slice z3 m3 k3), (.slice z4 m4 k4)])) rfl hI rfl (fun g1 w1 I1 => ?_)))))
 obtain ⟨S1, le1, I2, p1⟩ := Inv.boxFreeze (x := a0) I1 (Riddle.rv (s := a0) r1 r2 r3 r4)
 refine wa_ (v := (.slice none 0 0)) rfl rfl (ae_ (ab_ (aa_ (wo_ (al_ (v := (pt_ g1)) (e := a0) rfl ir_ rfl (p1.at_ I2) (fun u1 hu1 => ?_))))))
 obtain ⟨c5, c6, c7, c8, e6, r5, r6, r7, r8⟩ := Riddle.inv hu1
 subst e6
 obtain ⟨z5, m5, k5, rfl⟩ := ad_ r5
 obtain ⟨z6, m6, k6, rfl⟩ := ad_ r6
 obtain ⟨z7, m7, k7, rfl⟩ := ad_ r7
 obtain ⟨z8, m8, k8, rfl⟩ := ad_ r8
 obtain ⟨x1, hx1, h⟩ := bnd h
 refine wo_ (bk_ (vs := [(.agg #[(.slice z5 m5 k5), (.slice z6 m6 k6), (.slice z7 m7 k7), (.slice z8 m8 k8)])]) rfl ca51 rfl (dy_ rfl) (mj_ I2 (Riddle.rv (s := a0) r5 r6 r7 r8) hx1) (fun cv1 w2 S2 O1 le2 I3 hv1 => ?_))
 obtain ⟨z9, m9, k9, rfl, rfl⟩ := hv1
 obtain ⟨S3, le3, I4, r9⟩ := Inv.rowFreeze I3
 refine wa_ (v := (.slice z9 m9 k9)) rfl rfl (ae_ (ab_ (aa_ (wa_ (v := (.slice none 0 0)) rfl rfl (ae_ (ab_ (ab_ (aa_ (wa_ (v := (vi 0)) rfl rfl (ae_ ?_))))))))))
 have hk1 : a0.Locks.length ≤ 9223372036854775807 := (dx_ r1)
 have I18 := Inv.rowNil (α := Int) (T := 3) I4
 obtain ⟨out1, hrun1, h⟩ := bnd h
 refine br_ (fun f w => ∃ (S_ : PH) (z42 : Option Addr) (m42 k42 : Nat), S3.Le S_ ∧ Inv w S_ (Row (α := Int) 3 (.slice z42 m42 k42) (out1) :: Fr) ∧ f 1 = (pt_ g1) ∧ f 3 = (.slice z9 m9 k9) ∧ f 4 = (.slice z42 m42 k42) ∧ f.ds = []) ?_ ?_
 ·
  refine aw_ ?_
  refine di_ (I := fun (i1 : Nat) (s1 : (List Int)) (f : Frm) (w : World) => ∃ (S_ : PH) (z41 : Option Addr) (m41 k41 : Nat), S3.Le S_ ∧ Inv w S_ (Row (α := Int) 3 (.slice z41 m41 k41) (s1) :: Fr) ∧ f 1 = (pt_ g1) ∧ f 3 = (.slice z9 m9 k9) ∧ f 4 = (.slice z41 m41 k41) ∧ f 5 = (vi (i1 : Int)) ∧ f.ds = []) hrun1 ⟨_, _, _, _, lr, I18, rfl, rfl, rfl, rfl, rfl⟩ ?_ ?_
  ·
   rintro i1 s1 f w o1 hlt1 hI1 h1
   obtain ⟨S9, z41, m41, k41, le9, I19, e52, e53, e54, e55, ed4⟩ := hI1
   refine ab_ (ab_ (aa_ (wm_ (v := (vi (i1 : Int))) rfl e55 (wo_ (ac_ (v := (pt_ g1)) rfl cv_ e52 ((p1.mono ((le2.trans le3).trans le9)).at_ I19) (wo_ (al_ (v := (af_ (pt_ g1) 0)) (e := a0.Locks) rfl le_ rfl (((p1.mono ((le2.trans le3).trans le9)).at_ I19).fld Riddle.fld0) (fun u20 hu14 => ?_))))))))
   obtain ⟨z44, m44, k44, rfl⟩ := ad_ hu14
   refine wo_ (bb_ rfl Try.underlying22 rfl hu14 (wo_ (bi_ (a := (i1 : Int)) (b := (a0.Locks.length : Int)) rfl rfl rfl (ae_ (aj_ (b := decide ((i1 : Int) < (a0.Locks.length : Int))) rfl (ez_ hlt1) (ar_ (ab_ (aw_ (aa_ (wm_ (v := (.slice z41 m41 k41)) rfl e54 (wo_ (al_ (v := (pt_ g1)) (e := a0) rfl ir_ e52 ((p1.mono ((le2.trans le3).trans le9)).at_ I19) (fun u21 hu15 => ?_)))))))))))))
   obtain ⟨c21, c22, c23, c24, e58, r22, r23, r24, r25⟩ := Riddle.inv hu15
   subst e58
   obtain ⟨z45, m45, k45, rfl⟩ := ad_ r22
   obtain ⟨z46, m46, k46, rfl⟩ := ad_ r23
   obtain ⟨z47, m47, k47, rfl⟩ := ad_ r24
   obtain ⟨z48, m48, k48, rfl⟩ := ad_ r25
   refine wm_ (v := (.slice z9 m9 k9)) rfl e53 (wm_ (v := (vi (i1 : Int))) rfl e55 ?_)
   obtain ⟨x8, hx8, h1⟩ := bnd h1
   refine wo_ (bk_ (vs := [(.agg #[(.slice z45 m45 k45), (.slice z46 m46 k46), (.slice z47 m47 k47), (.slice z48 m48 k48)]), (.slice z9 m9 k9), (vi (i1 : Int))]) rfl ca55 rfl (dh_ rfl rfl rfl) (lg_ I19 (Riddle.rv (s := a0) r22 r23 r24 r25) (r9.mono le9) hx8) (fun cv5 w12 S10 O5 le10 I20 hv5 => ?_))
   obtain ⟨z49, m49, k49, rfl, rfl⟩ := hv5
   refine wo_ (dc_ (α := (List Int)) rfl Try.underlying23 rfl (I20.nth 0 rfl) (wo_ (bf_ (vs := [(vi ((x8.length : Int)))]) (r := ([(x8.length : Int)] : List Int)) rfl Try.underlying28 el3 (fp_ rfl) rfl (by decide) (by decide) ⟨(dt_ _), trivial⟩ I20 (fun u22 w13 I21 => ?_))))
   obtain ⟨z50, m50, k50, e63⟩ := bg_ I21
   subst e63
   obtain ⟨x9, hx9, h1⟩ := bnd h1
   refine wo_ (ch_ (α := Int) (v := (.slice z41 m41 k41)) (u := (.slice z50 m50 k50)) rfl rfl Try.underlying28 el3 (by decide) (by decide) rfl rfl (I21.pull 2) (Inv.rowSrc (I21.nth 0 rfl)) hx9 (fun u23 w14 I22 => ?_))
   obtain ⟨z51, m51, k51, e64⟩ := bg_ I22
   subst e64
   refine wa_ (v := (.slice z51 m51 k51)) rfl rfl (ae_ (aa_ (wm_ (v := (vi (i1 : Int))) rfl e55 (wo_ (bo_ (a := (i1 : Int)) (b := 1) rfl rfl rfl (wa_ (v := (vi (w64 ((i1 : Int) + 1)))) rfl rfl (ae_ ?_)))))))
   obtain rfl := sj h1
   exact ⟨_, _, _, _, (le9.trans le10), ((I22.pull 1).drop.pull 1).drop, e52, e53, rfl, (bj_ hlt1 hk1), ed4⟩
  rintro f w hI2
  obtain ⟨S11, z52, m52, k52, le11, I23, e65, e66, e67, e68, ed5⟩ := hI2
  refine ab_ (ab_ (aa_ (wm_ (v := (vi ((a0.Locks.length : Int)))) rfl e68 (wo_ (ac_ (v := (pt_ g1)) rfl cv_ e65 ((p1.mono ((le2.trans le3).trans le11)).at_ I23) (wo_ (al_ (v := (af_ (pt_ g1) 0)) (e := a0.Locks) rfl le_ rfl (((p1.mono ((le2.trans le3).trans le11)).at_ I23).fld Riddle.fld0) (fun u25 hu17 => ?_))))))))
  obtain ⟨z54, m54, k54, rfl⟩ := ad_ hu17
  refine wo_ (bb_ rfl Try.underlying22 rfl hu17 (wo_ (bi_ (a := (a0.Locks.length : Int)) (b := (a0.Locks.length : Int)) rfl rfl rfl (ae_ (am_ (b := decide ((a0.Locks.length : Int) < (a0.Locks.length : Int))) rfl (fa_ _) (bl_ ?_))))))
  exact ⟨_, _, _, _, le11, I23, e65, e66, e67, ed5⟩
 rintro f w ⟨S12, z42, m42, k42, le12, I24, e71, e72, e73, ed6⟩
 refine ab_ (aa_ (wm_ (v := (.slice z42 m42 k42)) rfl e73 (wa_ (v := (.slice z42 m42 k42)) rfl rfl (ae_ (an_ ?_)))))
 obtain rfl := sj h
 exact ⟨ed6, (.slice z42 m42 k42), (bs_ rfl rfl), _, [Row (α := Int) 3 (.slice z42 m42 k42) (out1)], (((le1.trans le2).trans le3).trans le12), I24, _, _, _, rfl, rfl⟩
theorem ref07_Sure_ok {w : World} {S : PH} {Fr : List HP} {a0 : Riddle} {v0 : Value} {r : (List Int) × Int} (hI : Inv w S (Fr)) (h0_ : RV S v0 a0) (h : li_ a0 = some r) :
    Calls Try.prog 22 [v0].toArray w (ky_ S Fr (fun T_ v_ O_ => ∃ (a0_ : Option Addr) (n0_ k0_ : Nat), v_ = (Value.tuple #[(Value.slice a0_ n0_ k0_), (Value.int .i64 (r.2))]) ∧ O_ = [Row (α := Int) 3 (Value.slice a0_ n0_ k0_) (r.1)])) := by
 unfold li_ at h
 obtain ⟨c1, c2, c3, c4, e1, r1, r2, r3, r4⟩ := Riddle.inv h0_
 subst e1
 obtain ⟨z1, m1, k1, rfl⟩ := ad_ r1
 obtain ⟨z2, m2, k2, rfl⟩ := ad_ r2
 obtain ⟨z3, m3, k3, rfl⟩ := ad_ r3
 obtain ⟨z4, m4, k4, rfl⟩ := ad_ r4
 refine av_ (n := 31) (vs := [(.agg #[(.slice z1 m1 k1), (.slice z2 m2 k2), (.slice z3 m3 k3), (.slice z4 m4 k4)])]) Try.func22 rfl rfl rfl (ab_ (aa_ (wo_ (bn_ (v := (.agg #[(.slice z1 m1 k1), (.slice z2 m2 k2), (.slice z3 m3 k3), (.slice z4 m4 k4)])) rfl hI rfl (fun g1 w1 I1 => ?_)))))
 obtain ⟨S1, le1, I2, p1⟩ := Inv.boxFreeze (x := a0) I1 (Riddle.rv (s := a0) r1 r2 r3 r4)
 refine wa_ (v := (.slice none 0 0)) rfl rfl (wa_ (v := (vi 0)) rfl rfl (ae_ (ab_ (ab_ (aa_ (wo_ (al_ (v := (pt_ g1)) (e := a0) rfl ir_ rfl (p1.at_ I2) (fun u1 hu1 => ?_))))))))
 obtain ⟨c5, c6, c7, c8, e6, r5, r6, r7, r8⟩ := Riddle.inv hu1
 subst e6
 obtain ⟨z5, m5, k5, rfl⟩ := ad_ r5
 obtain ⟨z6, m6, k6, rfl⟩ := ad_ r6
 obtain ⟨z7, m7, k7, rfl⟩ := ad_ r7
 obtain ⟨z8, m8, k8, rfl⟩ := ad_ r8
 obtain ⟨x1, hx1, h⟩ := bnd h
 refine wo_ (ap_ (vs := [(.agg #[(.slice z5 m5 k5), (.slice z6 m6 k6), (.slice z7 m7 k7), (.slice z8 m8 k8)])]) (r := (vi x1)) rfl ca50 rfl (dy_ rfl) I2 (fun Fr_ hF_ => jd_ hF_ (Riddle.rv (s := a0) r5 r6 r7 r8) hx1) (fun w2 I3 => (wa_ (v := (vi x1)) rfl rfl (ae_ (ab_ (aa_ (wm_ (v := (vi x1)) rfl rfl (wo_ (cd_ (a := x1) (b := 0) rfl rfl rfl (ae_ ?_))))))))))
 rcases ifs h with ⟨hc1, h⟩ | ⟨hc1, h⟩
 ·
  refine aj_ (b := x1 != 0) rfl hc1 (ab_ (aa_ (wm_ (v := (vi x1)) rfl rfl (wa_ (v := (.slice none 0 0)) rfl rfl (wa_ (v := (vi x1)) rfl rfl (ae_ (an_ ?_)))))))
  have I4 := Inv.rowNil (α := Int) (T := 3) I3
  obtain rfl := sj h
  exact ⟨rfl, (Value.tuple #[(.slice none 0 0), (vi x1)]), (ok_ rfl rfl rfl), _, [Row (α := Int) 3 (.slice none 0 0) (([] : List Int))], le1, I4, _, _, _, rfl, rfl⟩
 refine am_ (b := x1 != 0) rfl hc1 (ar_ (ab_ (aa_ (wo_ (al_ (v := (pt_ g1)) (e := a0) rfl ir_ rfl (p1.at_ I3) (fun u2 hu2 => ?_))))))
 obtain ⟨c9, c10, c11, c12, e11, r9, r10, r11, r12⟩ := Riddle.inv hu2
 subst e11
 obtain ⟨z9, m9, k9, rfl⟩ := ad_ r9
 obtain ⟨z10, m10, k10, rfl⟩ := ad_ r10
 obtain ⟨z11, m11, k11, rfl⟩ := ad_ r11
 obtain ⟨z12, m12, k12, rfl⟩ := ad_ r12
 obtain ⟨x2, hx2, h⟩ := bnd h
 refine wo_ (bk_ (vs := [(.agg #[(.slice z9 m9 k9), (.slice z10 m10 k10), (.slice z11 m11 k11), (.slice z12 m12 k12)])]) rfl ca57 rfl (dy_ rfl) (ref07_counts_ok I3 (Riddle.rv (s := a0) r9 r10 r11 r12) hx2) (fun cv1 w3 S2 O1 le2 I5 hv1 => ?_))
 obtain ⟨z13, m13, k13, rfl, rfl⟩ := hv1
 refine wa_ (v := (.slice z13 m13 k13)) rfl rfl (ae_ (ab_ (aa_ (wa_ (v := (.slice none 0 0)) rfl rfl (ae_ (ab_ (ab_ (aa_ (wa_ (v := (vi 0)) rfl rfl (ae_ ?_))))))))))
 have hk1 : x2.length ≤ 9223372036854775807 := (row_len (I5.nth 0 rfl))
 have I16 := Inv.rowNil (α := Int) (T := 3) I5
 obtain ⟨out1, hrun1, h⟩ := bnd h
 refine br_ (fun f w => ∃ (z23 : Option Addr) (m23 k23 : Nat), Inv w S2 (Row (α := Int) 3 (.slice z13 m13 k13) (x2) :: Row (α := Int) 3 (.slice z23 m23 k23) (out1) :: Fr) ∧ f 5 = (.slice z13 m13 k13) ∧ f 6 = (.slice z23 m23 k23) ∧ f.ds = []) ?_ ?_
 ·
  refine aw_ ?_
  refine di_ (I := fun (i1 : Nat) (s1 : (List Int)) (f : Frm) (w : World) => ∃ (z22 : Option Addr) (m22 k22 : Nat), Inv w S2 (Row (α := Int) 3 (.slice z13 m13 k13) (x2) :: Row (α := Int) 3 (.slice z22 m22 k22) (s1) :: Fr) ∧ f 5 = (.slice z13 m13 k13) ∧ f 6 = (.slice z22 m22 k22) ∧ f 7 = (vi (i1 : Int)) ∧ f.ds = []) hrun1 ⟨_, _, _, (I16.pull 1), rfl, rfl, rfl, rfl⟩ ?_ ?_
  ·
   rintro i1 s1 f w o1 hlt1 hI1 h1
   obtain ⟨z22, m22, k22, I17, e31, e32, e33, ed4⟩ := hI1
   refine ab_ (ab_ (aa_ (wm_ (v := (vi (i1 : Int))) rfl e33 (wm_ (v := (.slice z13 m13 k13)) rfl e31 (wo_ (dc_ (α := Int) rfl Try.underlying28 rfl (I17.nth 0 rfl) (wo_ (bi_ (a := (i1 : Int)) (b := (x2.length : Int)) rfl rfl rfl (ae_ (aj_ (b := decide ((i1 : Int) < (x2.length : Int))) rfl (ez_ hlt1) (ar_ (ab_ (aw_ (ab_ (aa_ (wm_ (v := (.slice z13 m13 k13)) rfl e31 (wm_ (v := (vi (i1 : Int))) rfl e33 ?_)))))))))))))))))
   obtain ⟨x9, hx9, h1⟩ := bnd h1
   refine wo_ (bd_ (v := (.slice z13 m13 k13)) (i := (i1 : Int)) (e := x9) rfl Try.underlying28 sh3 rfl (Inv.rowSrc (I17.nth 0 rfl)) rfl hx9 (wo_ (ah_ (v := (ag_ (.slice z13 m13 k13) ((i1 : Int)) (Enc.sz Int))) (e := x9) rfl sh3 rfl ((I17.nth 0 rfl).rowElem hx9) (wo_ (bp_ (a := x9) (b := 1) rfl rfl rfl (ae_ ?_))))))
   rcases ifs h1 with ⟨hc5, h1⟩ | ⟨hc5, h1⟩
   ·
    refine aj_ (b := x9 == 1) rfl hc5 (aa_ (wm_ (v := (.slice z22 m22 k22)) rfl e32 (wm_ (v := (vi (i1 : Int))) rfl e33 (wo_ (bf_ (vs := [(vi (i1 : Int))]) (r := ([(i1 : Int)] : List Int)) rfl Try.underlying28 el3 (fp_ rfl) rfl (by decide) (by decide) ⟨(dt_ _), trivial⟩ I17 (fun u9 w10 I18 => ?_))))))
    obtain ⟨z24, m24, k24, e34⟩ := bg_ I18
    subst e34
    obtain ⟨x10, hx10, h1⟩ := bnd h1
    refine wo_ (ch_ (α := Int) (v := (.slice z22 m22 k22)) (u := (.slice z24 m24 k24)) rfl rfl Try.underlying28 el3 (by decide) (by decide) rfl rfl (I18.pull 2) (Inv.rowSrc (I18.nth 0 rfl)) hx10 (fun u10 w11 I19 => ?_))
    obtain ⟨z25, m25, k25, e35⟩ := bg_ I19
    subst e35
    refine wa_ (v := (.slice z25 m25 k25)) rfl rfl (ae_ (aa_ (wm_ (v := (vi (i1 : Int))) rfl e33 (wo_ (bo_ (a := (i1 : Int)) (b := 1) rfl rfl rfl (wa_ (v := (vi (w64 ((i1 : Int) + 1)))) rfl rfl (ae_ ?_)))))))
    obtain rfl := sj h1
    exact ⟨_, _, _, ((I19.pull 1).drop.pull 1), e31, rfl, (bj_ hlt1 hk1), ed4⟩
   refine am_ (b := x9 == 1) rfl hc5 (ar_ (aa_ (wm_ (v := (vi (i1 : Int))) rfl e33 (wo_ (bo_ (a := (i1 : Int)) (b := 1) rfl rfl rfl (wa_ (v := (vi (w64 ((i1 : Int) + 1)))) rfl rfl (ae_ ?_)))))))
   obtain rfl := sj h1
   exact ⟨_, _, _, ((I17.pull 1).pull 1), e31, e32, (bj_ hlt1 hk1), ed4⟩
  rintro f w hI2
  obtain ⟨z26, m26, k26, I20, e36, e37, e38, ed5⟩ := hI2
  refine ab_ (ab_ (aa_ (wm_ (v := (vi ((x2.length : Int)))) rfl e38 (wm_ (v := (.slice z13 m13 k13)) rfl e36 (wo_ (dc_ (α := Int) rfl Try.underlying28 rfl (I20.nth 0 rfl) (wo_ (bi_ (a := (x2.length : Int)) (b := (x2.length : Int)) rfl rfl rfl (ae_ (am_ (b := decide ((x2.length : Int) < (x2.length : Int))) rfl (fa_ _) (bl_ ?_)))))))))))
  exact ⟨_, _, _, ((I20.pull 1).pull 1), e36, e37, ed5⟩
 rintro f w ⟨z23, m23, k23, I21, e39, e40, ed6⟩
 refine ab_ (aa_ (wm_ (v := (.slice z23 m23 k23)) rfl e40 (wa_ (v := (.slice z23 m23 k23)) rfl rfl (wa_ (v := (vi 0)) rfl rfl (ae_ (an_ ?_))))))
 obtain rfl := sj h
 exact ⟨ed6, (Value.tuple #[(.slice z23 m23 k23), (vi 0)]), (ok_ rfl rfl rfl), _, [Row (α := Int) 3 (.slice z23 m23 k23) (out1)], (le1.trans le2), (I21).drop, _, _, _, rfl, rfl⟩
theorem ref07_Secret_ok {w : World} {S : PH} {Fr : List HP} {a0 : Riddle} {v0 : Value} {a1 : Int} {r : (List Int) × Int} (hI : Inv w S (Fr)) (h0_ : RV S v0 a0) (h : iw_ a0 a1 = some r) :
    Calls Try.prog 25 [v0, (Value.int .i64 (a1))].toArray w (ky_ S Fr (fun T_ v_ O_ => ∃ (a0_ : Option Addr) (n0_ k0_ : Nat), v_ = (Value.tuple #[(Value.slice a0_ n0_ k0_), (Value.int .i64 (r.2))]) ∧ O_ = [Row (α := Int) 3 (Value.slice a0_ n0_ k0_) (r.1)])) := by
 unfold iw_ at h
 obtain ⟨c1, c2, c3, c4, e1, r1, r2, r3, r4⟩ := Riddle.inv h0_
 subst e1
 obtain ⟨z1, m1, k1, rfl⟩ := ad_ r1
 obtain ⟨z2, m2, k2, rfl⟩ := ad_ r2
 obtain ⟨z3, m3, k3, rfl⟩ := ad_ r3
 obtain ⟨z4, m4, k4, rfl⟩ := ad_ r4
 refine av_ (n := 60) (vs := [(.agg #[(.slice z1 m1 k1), (.slice z2 m2 k2), (.slice z3 m3 k3), (.slice z4 m4 k4)]), (vi a1)]) Try.func25 rfl rfl rfl (ab_ (aa_ (wo_ (bn_ (v := (.agg #[(.slice z1 m1 k1), (.slice z2 m2 k2), (.slice z3 m3 k3), (.slice z4 m4 k4)])) rfl hI rfl (fun g1 w1 I1 => ?_)))))
 obtain ⟨S1, le1, I2, p1⟩ := Inv.boxFreeze (x := a0) I1 (Riddle.rv (s := a0) r1 r2 r3 r4)
 refine wa_ (v := (.slice none 0 0)) rfl rfl (wa_ (v := (vi 0)) rfl rfl (ae_ (ab_ (aa_ (wo_ (al_ (v := (pt_ g1)) (e := a0) rfl ir_ rfl (p1.at_ I2) (fun u1 hu1 => ?_)))))))
 obtain ⟨c5, c6, c7, c8, e6, r5, r6, r7, r8⟩ := Riddle.inv hu1
 subst e6
 obtain ⟨z5, m5, k5, rfl⟩ := ad_ r5
 obtain ⟨z6, m6, k6, rfl⟩ := ad_ r6
 obtain ⟨z7, m7, k7, rfl⟩ := ad_ r7
 obtain ⟨z8, m8, k8, rfl⟩ := ad_ r8
 refine wm_ (v := (vi a1)) rfl rfl ?_
 obtain ⟨x1, hx1, h⟩ := bnd h
 refine wo_ (bk_ (vs := [(.agg #[(.slice z5 m5 k5), (.slice z6 m6 k6), (.slice z7 m7 k7), (.slice z8 m8 k8)]), (vi a1)]) rfl ca19 rfl (bw_ rfl rfl) (lj_ I2 (Riddle.rv (s := a0) r5 r6 r7 r8) hx1) (fun cv1 w2 S2 O1 le2 I3 hv1 => ?_))
 obtain ⟨z9, m9, k9, rfl, rfl⟩ := hv1
 refine wm_ (v := (Value.tuple #[(.slice z9 m9 k9), (vi x1.2)])) rfl rfl (wo_ (bc_ (v := (.slice z9 m9 k9)) rfl rfl rfl (wo_ (bc_ (v := (vi x1.2)) rfl rfl rfl (wa_ (v := (.slice z9 m9 k9)) rfl rfl (wa_ (v := (vi x1.2)) rfl rfl (ae_ (ab_ (ab_ (aa_ (wm_ (v := (vi x1.2)) rfl rfl (wo_ (cd_ (a := x1.2) (b := 0) rfl rfl rfl (ae_ ?_))))))))))))))
 rcases ifs h with ⟨hc1, h⟩ | ⟨hc1, h⟩
 ·
  refine aj_ (b := x1.2 != 0) rfl hc1 (ab_ (aa_ (wm_ (v := (vi x1.2)) rfl rfl (wa_ (v := (.slice none 0 0)) rfl rfl (wa_ (v := (vi x1.2)) rfl rfl (ae_ (an_ ?_)))))))
  have I4 := Inv.rowNil (α := Int) (T := 3) I3
  obtain rfl := sj h
  exact ⟨rfl, (Value.tuple #[(.slice none 0 0), (vi x1.2)]), (ok_ rfl rfl rfl), _, [Row (α := Int) 3 (.slice none 0 0) (([] : List Int))], (le1.trans le2), (I4.pull 1).drop, _, _, _, rfl, rfl⟩
 refine am_ (b := x1.2 != 0) rfl hc1 (ar_ (ab_ (aa_ (wa_ (v := (.slice none 0 0)) rfl rfl (ae_ (ab_ (ab_ (aa_ (wa_ (v := (vi 0)) rfl rfl (ae_ ?_))))))))))
 have I433 := Inv.rowNil (α := Int) (T := 3) I3
 obtain ⟨out4, hrun4, h⟩ := bnd h
 refine br_ (fun f w => ∃ (S_ : PH) (z95 : Option Addr) (m95 k95 : Nat), S2.Le S_ ∧ Inv w S_ (Row (α := (List Int)) 28 (.slice z9 m9 k9) (x1.1) :: Row (α := Int) 3 (.slice z95 m95 k95) (out4.1) :: Fr) ∧ f 1 = (vi a1) ∧ f 2 = (pt_ g1) ∧ f 6 = (.slice z9 m9 k9) ∧ f 8 = (.slice z95 m95 k95) ∧ f 9 = (vi out4.2) ∧ f.ds = []) ?_ ?_
 ·
  refine aw_ ?_
  refine iq_ (I := fun (s4 : (List Int × Int)) (f : Frm) (w : World) => ∃ (S_ : PH) (z94 : Option Addr) (m94 k94 : Nat), S2.Le S_ ∧ Inv w S_ (Row (α := (List Int)) 28 (.slice z9 m9 k9) (x1.1) :: Row (α := Int) 3 (.slice z94 m94 k94) (s4.1) :: Fr) ∧ f 1 = (vi a1) ∧ f 2 = (pt_ g1) ∧ f 6 = (.slice z9 m9 k9) ∧ f 8 = (.slice z94 m94 k94) ∧ f 9 = (vi s4.2) ∧ f.ds = []) hrun4 ⟨_, _, _, _, lr, (I433.pull 1), rfl, rfl, rfl, rfl, rfl, rfl⟩ ?_
  rintro s4 f w o4 hI406 h7 hout4
  obtain ⟨S419, z94, m94, k94, le419, I434, e362, e363, e364, e365, e366, ed44⟩ := hI406
  refine ab_ (ab_ (aa_ (wm_ (v := (vi s4.2)) rfl e366 (wo_ (ac_ (v := (pt_ g1)) rfl cv_ e363 ((p1.mono (le2.trans le419)).at_ I434) (wo_ (al_ (v := (af_ (pt_ g1) 0)) (e := a0.Locks) rfl le_ rfl (((p1.mono (le2.trans le419)).at_ I434).fld Riddle.fld0) (fun u108 hu102 => ?_))))))))
  obtain ⟨z96, m96, k96, rfl⟩ := ad_ hu102
  refine wm_ (v := (vi a1)) rfl e362 ?_
  obtain ⟨x57, hx57, h7⟩ := bnd h7
  refine wo_ (ai_ (v := (.slice z96 m96 k96)) (i := a1) (e := x57) rfl Try.underlying22 hm_ rfl hu102 rfl hx57 (wo_ (ac_ (v := (ag_ (.slice z96 m96 k96) (a1) (Enc.sz CodeLock))) rfl gh_ rfl (hu102.elem I434.in_ hx57) (wo_ (ah_ (v := (af_ (ag_ (.slice z96 m96 k96) (a1) (Enc.sz CodeLock)) 0)) (e := x57.Wheels) rfl sh3 rfl ((hu102.elem I434.in_ hx57).fld CodeLock.fld0) (wo_ (bi_ (a := s4.2) (b := x57.Wheels) rfl rfl rfl (ae_ ?_))))))))
  rcases ifs h7 with ⟨hc17, h7⟩ | ⟨hc17, h7⟩
  ·
   refine aj_ (b := decide (s4.2 < x57.Wheels)) rfl hc17 (ar_ (ab_ (aw_ (ab_ (aa_ (wa_ (v := (vb false)) rfl rfl (ae_ (ab_ (ab_ (aa_ (wa_ (v := (vi 0)) rfl rfl (ae_ ?_))))))))))))
   have hk4 : x1.1.length ≤ 9223372036854775807 := (row_len (I434.nth 0 rfl))
   obtain ⟨out5, hrun5, h7⟩ := bnd h7
   refine br_ (fun f w => ∃ (S_ : PH), S419.Le S_ ∧ Inv w S_ (Row (α := (List Int)) 28 (.slice z9 m9 k9) (x1.1) :: Row (α := Int) 3 (.slice z94 m94 k94) (s4.1) :: Fr) ∧ f 1 = (vi a1) ∧ f 2 = (pt_ g1) ∧ f 6 = (.slice z9 m9 k9) ∧ f 8 = (.slice z94 m94 k94) ∧ f 9 = (vi s4.2) ∧ f 10 = (vb out5) ∧ f.ds = []) ?_ ?_
   ·
    refine aw_ ?_
    refine di_ (I := fun (i4 : Nat) (s5 : (Bool)) (f : Frm) (w : World) => ∃ (S_ : PH), S419.Le S_ ∧ Inv w S_ (Row (α := (List Int)) 28 (.slice z9 m9 k9) (x1.1) :: Row (α := Int) 3 (.slice z94 m94 k94) (s4.1) :: Fr) ∧ f 1 = (vi a1) ∧ f 2 = (pt_ g1) ∧ f 6 = (.slice z9 m9 k9) ∧ f 8 = (.slice z94 m94 k94) ∧ f 9 = (vi s4.2) ∧ f 10 = (vb s5) ∧ f 11 = (vi (i4 : Int)) ∧ f.ds = []) hrun5 ⟨_, lr, ((I434.pull 1).pull 1), e362, e363, e364, e365, e366, rfl, rfl, ed44⟩ ?_ ?_
    ·
     rintro i4 s5 f w o5 hlt4 hI502 h9
     obtain ⟨S517, le517, I533, e437, e438, e439, e440, e441, e442, e443, ed53⟩ := hI502
     refine ab_ (ab_ (aa_ (wm_ (v := (vi (i4 : Int))) rfl e443 (wm_ (v := (.slice z9 m9 k9)) rfl e439 (wo_ (dc_ (α := (List Int)) rfl Try.underlying23 rfl (I533.nth 0 rfl) (wo_ (bi_ (a := (i4 : Int)) (b := (x1.1.length : Int)) rfl rfl rfl (ae_ (aj_ (b := decide ((i4 : Int) < (x1.1.length : Int))) rfl (ez_ hlt4) (ar_ (ab_ (aw_ ?_)))))))))))))
     rcases ifs h9 with ⟨hc20, h9⟩ | ⟨hc20, h9⟩
     ·
      refine bm_ (sps := [spV 37 [] 0 (vb s5), spV 38 [0] 1 (vb s5), spV 39 [0, 1] 2 undef, spV 40 [0, 1] 3 undef, spV 41 [0, 1, 2, 3] 4 undef, spV 42 [0, 1, 2, 3, 4] 5 undef, spV 43 [0, 1] 6 undef, spV 44 (lrg 7) 7 undef, spV 45 (lrg 8) 8 undef, spV 46 [0, 1] 9 undef, spV 47 [0, 1, 9] 10 undef, spV 48 [0, 1, 9, 10] 11 undef, spV 49 [0, 1] 12 undef, spV 50 [0, 1, 9, 10, 11, 12] 13 undef, spV 51 [0, 1, 9, 10, 11, 12, 13] 14 undef, spV 52 (lrg 15) 15 undef, spV 53 (lrg 16) 16 (vb true), spV 10 (lrg 17) 17 (vb true)]) (tks := []) (O := Row (α := (List Int)) 28 (.slice z9 m9 k9) (x1.1) :: Row (α := Int) 3 (.slice z94 m94 k94) (s4.1) :: Fr) rfl (by kernel_rfl) I533 ⟨?_, ?_, ?_, ?_, ?_, ?_, ?_, ?_, ?_, ?_, ?_, ?_, ?_, ?_, ?_, ?_, ?_, ?_, trivial⟩ ?_
      · exact fun vs f w U X l A K I => pl_ rfl (ax_ (v := (vb s5)) rfl ((K 10 (ak_ rfl)).trans e442) (fn rfl rfl I))
      · exact fun vs f w U X l A K I => pl_ rfl (ax_ (v := (vb s5)) rfl (A.u 0 rfl rfl rfl) (fn rfl rfl I))
      · exact fun vs f w U X l A K I => sk_ (c := s5) rfl (A.u 1 rfl rfl rfl) hc20 (fn rfl rfl I)
      · exact fun vs f w U X l A K I => sk_ (c := s5) rfl (A.u 1 rfl rfl rfl) hc20 (fn rfl rfl I)
      · exact fun vs f w U X l A K I => sk_ (c := s5) rfl (A.u 1 rfl rfl rfl) hc20 (fn rfl rfl I)
      · exact fun vs f w U X l A K I => sk_ (c := s5) rfl (A.u 1 rfl rfl rfl) hc20 (fn rfl rfl I)
      · exact fun vs f w U X l A K I => sk_ (c := s5) rfl (A.u 1 rfl rfl rfl) hc20 (fn rfl rfl I)
      · exact fun vs f w U X l A K I => sk_ (c := s5) rfl (A.u 1 rfl rfl rfl) hc20 (fn rfl rfl I)
      · exact fun vs f w U X l A K I => sk_ (c := s5) rfl (A.u 1 rfl rfl rfl) hc20 (fn rfl rfl I)
      · exact fun vs f w U X l A K I => sk_ (c := s5) rfl (A.u 1 rfl rfl rfl) hc20 (fn rfl rfl I)
      · exact fun vs f w U X l A K I => sk_ (c := s5) rfl (A.u 1 rfl rfl rfl) hc20 (fn rfl rfl I)
      · exact fun vs f w U X l A K I => sk_ (c := s5) rfl (A.u 1 rfl rfl rfl) hc20 (fn rfl rfl I)
      · exact fun vs f w U X l A K I => sk_ (c := s5) rfl (A.u 1 rfl rfl rfl) hc20 (fn rfl rfl I)
      · exact fun vs f w U X l A K I => sk_ (c := s5) rfl (A.u 1 rfl rfl rfl) hc20 (fn rfl rfl I)
      · exact fun vs f w U X l A K I => sk_ (c := s5) rfl (A.u 1 rfl rfl rfl) hc20 (fn rfl rfl I)
      · exact fun vs f w U X l A K I => sk_ (c := s5) rfl (A.u 1 rfl rfl rfl) hc20 (fn rfl rfl I)
      · exact fun vs f w U X l A K I => pl_ rfl (az_ (c := s5) (a := (vb true)) rfl (A.u 1 rfl rfl rfl) hc20 rfl (fn rfl rfl I))
      ·
       intro vs f w_ U X le A K I
       refine pl_ rfl (bt_ (v := (vb true)) rfl (A.u 16 rfl rfl rfl) (fn rfl rfl I))
      intro vs513 f w522 S536 ed54 le536 hF27 hK513 hI521
      have e444 : f 1 = (Value.int .i64 (a1)) := (hK513 1 (ao_ rfl)).trans e437
      have e445 : f 2 = (Value.pointer (some ⟨g1, 0, none⟩)) := (hK513 2 (ao_ rfl)).trans e438
      have e446 : f 6 = (Value.slice z9 m9 k9) := (hK513 6 (ao_ rfl)).trans e439
      have e447 : f 8 = (Value.slice z94 m94 k94) := (hK513 8 (ao_ rfl)).trans e440
      have e448 : f 9 = (Value.int .i64 (s4.2)) := (hK513 9 (ao_ rfl)).trans e441
      have e449 : f 11 = (Value.int .i64 ((i4 : Int))) := (hK513 11 (ao_ rfl)).trans e443
      have I552 : Inv w522 S536 (Row (α := (List Int)) 28 (Value.slice z9 m9 k9) (x1.1) :: Row (α := Int) 3 (Value.slice z94 m94 k94) (s4.1) :: Fr) := hI521
      have q924 := hF27.u 17 rfl rfl rfl
      refine aa_ (wm_ (v := (vi (i4 : Int))) rfl e449 (wo_ (bo_ (a := (i4 : Int)) (b := 1) rfl rfl rfl (wa_ (v := (vi (w64 ((i4 : Int) + 1)))) rfl rfl (ae_ ?_)))))
      obtain rfl := sj h9
      exact ⟨_, (le517.trans le536), ((I552.pull 1).pull 1), e444, e445, e446, e447, e448, q924, (bj_ hlt4 hk4), (ed54.trans ed53)⟩
     obtain ⟨x70, hx70, h9⟩ := bnd h9
     obtain ⟨x71, hx71, h9⟩ := bnd h9
     obtain ⟨x72, hx72, h9⟩ := bnd h9
     obtain ⟨x73, hx73, h9⟩ := bnd h9
     refine bm_ (sps := [spV 37 [] 0 (vb s5), spV 38 [0] 1 (vb s5), spV 39 [0, 1] 2 (.slice z9 m9 k9), spV 40 [0, 1] 3 (vi (i4 : Int)), ⟨some 41, [0, 1, 2, 3], [4], fun vs_ T_ => fr0 vs_ 0 = (ag_ (.slice z9 m9 k9) ((i4 : Int)) (Enc.sz (List Int))), [0], [], [], fun _ h_ => h_⟩, ⟨some 42, [0, 1, 2, 3, 4], [5], fun vs_ T_ => RV T_ (fr0 vs_ 0) x70, [0], [], [], fun hle_ h_ => h_.mono hle_⟩, spV 43 [0, 1] 6 (vi s4.2), spW 44 (lrg 7) [7, 5] fun vs_ => (ag_ (fr0 vs_ 1) (s4.2) (Enc.sz Int)), spV 45 (lrg 8) 8 (vi x71), spV 46 [0, 1] 9 (.slice z9 m9 k9), ⟨some 47, [0, 1, 9], [10], fun vs_ T_ => fr0 vs_ 0 = (ag_ (.slice z9 m9 k9) (0) (Enc.sz (List Int))), [0], [], [], fun _ h_ => h_⟩, ⟨some 48, [0, 1, 9, 10], [11], fun vs_ T_ => RV T_ (fr0 vs_ 0) x72, [0], [], [], fun hle_ h_ => h_.mono hle_⟩, spV 49 [0, 1] 12 (vi s4.2), spW 50 [0, 1, 9, 10, 11, 12] [13, 11] fun vs_ => (ag_ (fr0 vs_ 1) (s4.2) (Enc.sz Int)), spV 51 [0, 1, 9, 10, 11, 12, 13] 14 (vi x73), spV 52 (lrg 15) 15 (vb (x71 != x73)), spV 53 (lrg 16) 16 (vb (x71 != x73)), spV 10 (lrg 17) 17 (vb (x71 != x73))]) (tks := [⟨none, none, [], fun vs_ => Row (α := (List Int)) 28 (.slice z9 m9 k9) (x1.1)⟩]) (O := Row (α := Int) 3 (.slice z94 m94 k94) (s4.1) :: Fr) rfl (by kernel_rfl) I533 ⟨?_, ?_, ?_, ?_, ?_, ?_, ?_, ?_, ?_, ?_, ?_, ?_, ?_, ?_, ?_, ?_, ?_, ?_, trivial⟩ ?_
     · exact fun vs f w U X l A K I => pl_ rfl (ax_ (v := (vb s5)) rfl ((K 10 (ak_ rfl)).trans e442) (fn rfl rfl I))
     · exact fun vs f w U X l A K I => pl_ rfl (ax_ (v := (vb s5)) rfl (A.u 0 rfl rfl rfl) (fn rfl rfl I))
     · exact fun vs f w U X l A K I => tk_ (c := s5) rfl (A.u 1 rfl rfl rfl) hc20 (ax_ (v := (.slice z9 m9 k9)) rfl ((K 6 (ak_ rfl)).trans e439) (fn rfl rfl I))
     · exact fun vs f w U X l A K I => tk_ (c := s5) rfl (A.u 1 rfl rfl rfl) hc20 (ax_ (v := (vi (i4 : Int))) rfl ((K 11 (ak_ rfl)).trans e443) (fn rfl rfl I))
     ·
      intro vs f w_ U X le A K I
      have I557 : Inv w_ U (Row (α := (List Int)) 28 (Value.slice z9 m9 k9) (x1.1) :: X) := I
      refine tk_ (c := s5) rfl (A.u 1 rfl rfl rfl) hc20 (bd_ (v := (.slice z9 m9 k9)) (i := (i4 : Int)) (e := x70) rfl Try.underlying23 fc_ (A.u 2 rfl rfl rfl) (Inv.rowSrc (I557.nth 0 rfl)) (A.u 3 rfl rfl rfl) hx70 (fn rfl rfl I557))
     ·
      intro vs f w_ U X le A K I
      have I558 : Inv w_ U (Row (α := (List Int)) 28 (Value.slice z9 m9 k9) (x1.1) :: X) := I
      have q931 := A.u 1 rfl rfl rfl
      have q932 := A.u 4 rfl rfl rfl
      refine tk_ (c := s5) rfl q931 hc20 (al_ (v := (ag_ (.slice z9 m9 k9) ((i4 : Int)) (Enc.sz (List Int)))) (e := x70) rfl fc_ q932 ((I558.nth 0 rfl).rowElem hx70) (fun u135 hu129 => ?_))
      obtain ⟨z115, m115, k115, rfl⟩ := ad_ hu129
      refine ⟨_, _, rfl, lr, ?_, ?_⟩
      · exact hu129
      exact I558
     · exact fun vs f w U X l A K I => tk_ (c := s5) rfl (A.u 1 rfl rfl rfl) hc20 (ax_ (v := (vi s4.2)) rfl ((K 9 (ak_ rfl)).trans e441) (fn rfl rfl I))
     ·
      intro vs f w_ U X le A K I
      have q934 := A.u 1 rfl rfl rfl
      have q935 : f 42 = vs 5 := (A.at_ 5 rfl _ rfl).1 _ rfl
      have r69 : RV U (vs 5) x70 := (A.at_ 5 rfl _ rfl).2
      obtain ⟨u136, hu130⟩ : ∃ u, vs 5 = u := ⟨_, rfl⟩
      rw [hu130] at q935 r69
      obtain ⟨z116, m116, k116, rfl⟩ := ad_ r69
      have q936 := A.u 6 rfl rfl rfl
      refine tk_ (c := s5) rfl q934 hc20 (ai_ (v := (.slice z116 m116 k116)) (i := s4.2) (e := x71) rfl Try.underlying28 sh3 q935 r69 q936 hx71 (⟨_, _, rfl, lr, ?_, ?_⟩))
      ·
       show (ag_ (Value.slice z116 m116 k116) (s4.2) (Enc.sz Int)) = (ag_ (vs 5) (s4.2) (Enc.sz Int))
       simp only [hu130] <;> rfl
      exact I
     ·
      intro vs f w_ U X le A K I
      have q938 : f 42 = vs 5 := (A.at_ 5 rfl _ rfl).1 _ rfl
      have r70 : RV U (vs 5) x70 := (A.at_ 5 rfl _ rfl).2
      obtain ⟨u137, hu131⟩ : ∃ u, vs 5 = u := ⟨_, rfl⟩
      rw [hu131] at q938 r70
      obtain ⟨z117, m117, k117, rfl⟩ := ad_ r70
      have q940 : f 44 = (ag_ (vs 5) (s4.2) (Enc.sz Int)) := A.u 7 rfl rfl rfl
      simp only [hu131] at q940
      have q940 : f 44 = (ag_ (Value.slice z117 m117 k117) (s4.2) (Enc.sz Int)) := q940
      refine tk_ (c := s5) rfl (A.u 1 rfl rfl rfl) hc20 (ah_ (v := (ag_ (.slice z117 m117 k117) (s4.2) (Enc.sz Int))) (e := x71) rfl sh3 q940 (r70.elem I.in_ hx71) (fn rfl rfl I))
     · exact fun vs f w U X l A K I => tk_ (c := s5) rfl (A.u 1 rfl rfl rfl) hc20 (ax_ (v := (.slice z9 m9 k9)) rfl ((K 6 (ak_ rfl)).trans e439) (fn rfl rfl I))
     ·
      intro vs f w_ U X le A K I
      have I563 : Inv w_ U (Row (α := (List Int)) 28 (Value.slice z9 m9 k9) (x1.1) :: X) := I
      refine tk_ (c := s5) rfl (A.u 1 rfl rfl rfl) hc20 (bd_ (v := (.slice z9 m9 k9)) (i := 0) (e := x72) rfl Try.underlying23 fc_ (A.u 2 rfl rfl rfl) (Inv.rowSrc (I563.nth 0 rfl)) rfl hx72 (fn rfl rfl I563))
     ·
      intro vs f w_ U X le A K I
      have I564 : Inv w_ U (Row (α := (List Int)) 28 (Value.slice z9 m9 k9) (x1.1) :: X) := I
      have q944 := A.u 1 rfl rfl rfl
      have q945 := A.u 3 rfl rfl rfl
      refine tk_ (c := s5) rfl q944 hc20 (al_ (v := (ag_ (.slice z9 m9 k9) (0) (Enc.sz (List Int)))) (e := x72) rfl fc_ q945 ((I564.nth 0 rfl).rowElem hx72) (fun u138 hu132 => ?_))
      obtain ⟨z118, m118, k118, rfl⟩ := ad_ hu132
      refine ⟨_, _, rfl, lr, ?_, ?_⟩
      · exact hu132
      exact I564
     · exact fun vs f w U X l A K I => tk_ (c := s5) rfl (A.u 1 rfl rfl rfl) hc20 (ax_ (v := (vi s4.2)) rfl ((K 9 (ak_ rfl)).trans e441) (fn rfl rfl I))
     ·
      intro vs f w_ U X le A K I
      have q947 := A.u 1 rfl rfl rfl
      have q948 : f 48 = vs 11 := (A.at_ 4 rfl _ rfl).1 _ rfl
      have r71 : RV U (vs 11) x72 := (A.at_ 4 rfl _ rfl).2
      obtain ⟨u139, hu133⟩ : ∃ u, vs 11 = u := ⟨_, rfl⟩
      rw [hu133] at q948 r71
      obtain ⟨z119, m119, k119, rfl⟩ := ad_ r71
      have q949 := A.u 5 rfl rfl rfl
      refine tk_ (c := s5) rfl q947 hc20 (ai_ (v := (.slice z119 m119 k119)) (i := s4.2) (e := x73) rfl Try.underlying28 sh3 q948 r71 q949 hx73 (⟨_, _, rfl, lr, ?_, ?_⟩))
      ·
       show (ag_ (Value.slice z119 m119 k119) (s4.2) (Enc.sz Int)) = (ag_ (vs 11) (s4.2) (Enc.sz Int))
       simp only [hu133] <;> rfl
      exact I
     ·
      intro vs f w_ U X le A K I
      have q951 : f 48 = vs 11 := (A.at_ 4 rfl _ rfl).1 _ rfl
      have r72 : RV U (vs 11) x72 := (A.at_ 4 rfl _ rfl).2
      obtain ⟨u140, hu134⟩ : ∃ u, vs 11 = u := ⟨_, rfl⟩
      rw [hu134] at q951 r72
      obtain ⟨z120, m120, k120, rfl⟩ := ad_ r72
      have q953 : f 50 = (ag_ (vs 11) (s4.2) (Enc.sz Int)) := A.u 6 rfl rfl rfl
      simp only [hu134] at q953
      have q953 : f 50 = (ag_ (Value.slice z120 m120 k120) (s4.2) (Enc.sz Int)) := q953
      refine tk_ (c := s5) rfl (A.u 1 rfl rfl rfl) hc20 (ah_ (v := (ag_ (.slice z120 m120 k120) (s4.2) (Enc.sz Int))) (e := x73) rfl sh3 q953 (r72.elem I.in_ hx73) (fn rfl rfl I))
     · exact fun vs f w U X l A K I => tk_ (c := s5) rfl (A.u 1 rfl rfl rfl) hc20 (cd_ (a := x71) (b := x73) rfl (A.u 8 rfl rfl rfl) (A.u 14 rfl rfl rfl) (fn rfl rfl I))
     · exact fun vs f w U X l A K I => pl_ rfl (au_ (c := s5) (b := (vb (x71 != x73))) rfl (A.u 1 rfl rfl rfl) hc20 (A.u 15 rfl rfl rfl) (fn rfl rfl I))
     ·
      intro vs f w_ U X le A K I
      refine pl_ rfl (bt_ (v := (vb (x71 != x73))) rfl (A.u 16 rfl rfl rfl) (fn rfl rfl I))
     intro vs532 f w541 S555 ed55 le555 hF28 hK532 hI540
     have e456 : f 1 = (Value.int .i64 (a1)) := (hK532 1 (ao_ rfl)).trans e437
     have e457 : f 2 = (Value.pointer (some ⟨g1, 0, none⟩)) := (hK532 2 (ao_ rfl)).trans e438
     have e458 : f 6 = (Value.slice z9 m9 k9) := (hK532 6 (ao_ rfl)).trans e439
     have e459 : f 8 = (Value.slice z94 m94 k94) := (hK532 8 (ao_ rfl)).trans e440
     have e460 : f 9 = (Value.int .i64 (s4.2)) := (hK532 9 (ao_ rfl)).trans e441
     have e461 : f 11 = (Value.int .i64 ((i4 : Int))) := (hK532 11 (ao_ rfl)).trans e443
     have I571 : Inv w541 S555 (Row (α := (List Int)) 28 (Value.slice z9 m9 k9) (x1.1) :: Row (α := Int) 3 (Value.slice z94 m94 k94) (s4.1) :: Fr) := hI540
     have q960 := hF28.u 17 rfl rfl rfl
     refine aa_ (wm_ (v := (vi (i4 : Int))) rfl e461 (wo_ (bo_ (a := (i4 : Int)) (b := 1) rfl rfl rfl (wa_ (v := (vi (w64 ((i4 : Int) + 1)))) rfl rfl (ae_ ?_)))))
     obtain rfl := sj h9
     exact ⟨_, (le517.trans le555), ((I571.pull 1).pull 1), e456, e457, e458, e459, e460, q960, (bj_ hlt4 hk4), (ed55.trans ed53)⟩
    rintro f w hI541
    obtain ⟨S556, le556, I572, e462, e463, e464, e465, e466, e467, e468, ed56⟩ := hI541
    refine ab_ (ab_ (aa_ (wm_ (v := (vi ((x1.1.length : Int)))) rfl e468 (wm_ (v := (.slice z9 m9 k9)) rfl e464 (wo_ (dc_ (α := (List Int)) rfl Try.underlying23 rfl (I572.nth 0 rfl) (wo_ (bi_ (a := (x1.1.length : Int)) (b := (x1.1.length : Int)) rfl rfl rfl (ae_ (am_ (b := decide ((x1.1.length : Int) < (x1.1.length : Int))) rfl (fa_ _) (bl_ ?_)))))))))))
    exact ⟨_, le556, ((I572.pull 1).pull 1), e462, e463, e464, e465, e466, e467, ed56⟩
   rintro f w ⟨S557, le557, I573, e469, e470, e471, e472, e473, e474, ed57⟩
   refine ab_ (aa_ (wm_ (v := (vb out5)) rfl e474 (ae_ ?_)))
   rcases ifs h7 with ⟨hc21, h7⟩ | ⟨hc21, h7⟩
   ·
    refine aj_ (b := out5) rfl hc21 (aa_ (wm_ (v := (.slice z94 m94 k94)) rfl e472 (wm_ (v := (vi s4.2)) rfl e473 (wo_ (bf_ (vs := [(vi s4.2)]) (r := ([s4.2] : List Int)) rfl Try.underlying28 el3 (fp_ rfl) rfl (by decide) (by decide) ⟨(dt_ _), trivial⟩ I573 (fun u141 w542 I574 => ?_))))))
    obtain ⟨z121, m121, k121, e475⟩ := bg_ I574
    subst e475
    obtain ⟨x74, hx74, h7⟩ := bnd h7
    refine wo_ (ch_ (α := Int) (v := (.slice z94 m94 k94)) (u := (.slice z121 m121 k121)) rfl rfl Try.underlying28 el3 (by decide) (by decide) rfl rfl (I574.pull 2) (Inv.rowSrc (I574.nth 0 rfl)) hx74 (fun u142 w543 I575 => ?_))
    obtain ⟨z122, m122, k122, e476⟩ := bg_ I575
    subst e476
    refine wa_ (v := (.slice z122 m122 k122)) rfl rfl (ae_ (aa_ (wm_ (v := (vi s4.2)) rfl e473 (wo_ (bo_ (a := s4.2) (b := 1) rfl rfl rfl (wa_ (v := (vi (w64 (s4.2 + 1)))) rfl rfl (ae_ ?_)))))))
    obtain rfl := sj h7
    exact ⟨_, rfl, _, _, _, _, (le419.trans le557), ((I575.pull 1).drop.pull 1), e469, e470, e471, rfl, rfl, ed57⟩
   refine am_ (b := out5) rfl hc21 (ar_ (aa_ (wm_ (v := (vi s4.2)) rfl e473 (wo_ (bo_ (a := s4.2) (b := 1) rfl rfl rfl (wa_ (v := (vi (w64 (s4.2 + 1)))) rfl rfl (ae_ ?_)))))))
   obtain rfl := sj h7
   exact ⟨_, rfl, _, _, _, _, (le419.trans le557), ((I573.pull 1).pull 1), e469, e470, e471, e472, rfl, ed57⟩
  refine am_ (b := decide (s4.2 < x57.Wheels)) rfl hc17 (bl_ ?_)
  obtain rfl := sj h7
  obtain rfl := (hout4 _ rfl)
  exact ⟨_, _, _, _, le419, ((I434.pull 1).pull 1), e362, e363, e364, e365, e366, ed44⟩
 rintro f w ⟨S558, z95, m95, k95, le558, I576, e477, e478, e479, e480, e481, ed58⟩
 refine ab_ (aa_ (wm_ (v := (.slice z95 m95 k95)) rfl e480 (wa_ (v := (.slice z95 m95 k95)) rfl rfl (wa_ (v := (vi 0)) rfl rfl (ae_ (an_ ?_))))))
 obtain rfl := sj h
 exact ⟨ed58, (Value.tuple #[(.slice z95 m95 k95), (vi 0)]), (ok_ rfl rfl rfl), _, [Row (α := Int) 3 (.slice z95 m95 k95) (out4.1)], ((le1.trans le2).trans le558), (I576).drop, _, _, _, rfl, rfl⟩
theorem ny_ {w : World} {S : PH} {Fr : List HP} {a0 : Riddle} {v0 : Value} {a1 : Int} {r : Bool} (hI : Inv w S (Fr)) (h0_ : RV S v0 a0) (h : gx_ a0 a1 = some r) :
    Calls Try.prog 5 [v0, (Value.int .i64 (a1))].toArray w (cl_ S Fr (Value.bool (r))) := by
 unfold gx_ at h
 obtain ⟨c1, c2, c3, c4, e1, r1, r2, r3, r4⟩ := Riddle.inv h0_
 subst e1
 obtain ⟨z1, m1, k1, rfl⟩ := ad_ r1
 obtain ⟨z2, m2, k2, rfl⟩ := ad_ r2
 obtain ⟨z3, m3, k3, rfl⟩ := ad_ r3
 obtain ⟨z4, m4, k4, rfl⟩ := ad_ r4
 refine av_ (n := 102) (vs := [(.agg #[(.slice z1 m1 k1), (.slice z2 m2 k2), (.slice z3 m3 k3), (.slice z4 m4 k4)]), (vi a1)]) Try.func5 rfl rfl rfl (ab_ (aa_ (wo_ (bn_ (v := (.agg #[(.slice z1 m1 k1), (.slice z2 m2 k2), (.slice z3 m3 k3), (.slice z4 m4 k4)])) rfl hI rfl (fun g1 w1 I1 => ?_)))))
 obtain ⟨S1, le1, I2, p1⟩ := Inv.boxFreeze (x := a0) I1 (Riddle.rv (s := a0) r1 r2 r3 r4)
 refine wa_ (v := (vb false)) rfl rfl (ae_ (ab_ (ab_ (aa_ (wo_ (al_ (v := (pt_ g1)) (e := a0) rfl ir_ rfl (p1.at_ I2) (fun u1 hu1 => ?_)))))))
 obtain ⟨c5, c6, c7, c8, e6, r5, r6, r7, r8⟩ := Riddle.inv hu1
 subst e6
 obtain ⟨z5, m5, k5, rfl⟩ := ad_ r5
 obtain ⟨z6, m6, k6, rfl⟩ := ad_ r6
 obtain ⟨z7, m7, k7, rfl⟩ := ad_ r7
 obtain ⟨z8, m8, k8, rfl⟩ := ad_ r8
 obtain ⟨x1, hx1, h⟩ := bnd h
 refine wo_ (ap_ (vs := [(.agg #[(.slice z5 m5 k5), (.slice z6 m6 k6), (.slice z7 m7 k7), (.slice z8 m8 k8)])]) (r := (vb x1)) rfl ca8 rfl (dy_ rfl) I2 (fun Fr_ hF_ => law07_Large_ok hF_ (Riddle.rv (s := a0) r5 r6 r7 r8) hx1) (fun w2 I3 => (ae_ ?_)))
 rcases ifs h with ⟨hc1, h⟩ | ⟨hc1, h⟩
 ·
  refine aj_ (b := x1) rfl hc1 (ab_ (aa_ ?_))
  obtain ⟨x2, hx2, h⟩ := bnd h
  refine wo_ (ap_ (vs := []) (r := (vb x2)) rfl ca9 rfl args0 I3 (fun Fr_ hF_ => no_ hF_  hx2) (fun w3 I4 => (wa_ (v := (vb x2)) rfl rfl (ae_ (an_ ?_)))))
  obtain rfl := sj h
  exact ⟨rfl, (vb x2), (bs_ rfl rfl), _, [], le1, I4, rfl, rfl⟩
 refine am_ (b := x1) rfl hc1 (ar_ (ab_ (ab_ ?_)))
 obtain ⟨x3, hx3, h⟩ := bnd h
 obtain ⟨x4, hx4, h⟩ := bnd h
 refine bm_ (sps := [spR 16 [] 0 a0, spV 17 [0] 1 (vi x3), spR 18 [] 2 a0, spV 19 [0, 1, 2] 3 (vi x4), spV 20 [0, 1, 2, 3] 4 (vb (x3 != x4))]) (tks := []) (O := Fr) rfl (by kernel_rfl) I3 ⟨?_, ?_, ?_, ?_, ?_, trivial⟩ ?_
 ·
  intro vs f w_ U X le A K I
  refine pl_ rfl (al_ (v := (pt_ g1)) (e := a0) rfl ir_ (K 2 (ak_ rfl)) ((p1.mono le).at_ I) (fun u4 hu4 => ?_))
  obtain ⟨c9, c10, c11, c12, e11, r9, r10, r11, r12⟩ := Riddle.inv hu4
  subst e11
  obtain ⟨z9, m9, k9, rfl⟩ := ad_ r9
  obtain ⟨z10, m10, k10, rfl⟩ := ad_ r10
  obtain ⟨z11, m11, k11, rfl⟩ := ad_ r11
  obtain ⟨z12, m12, k12, rfl⟩ := ad_ r12
  refine ⟨_, _, rfl, lr, ?_, ?_⟩
  · exact (Riddle.rv (s := a0) r9 r10 r11 r12)
  exact I
 ·
  intro vs f w_ U X le A K I
  have q1 : f 16 = vs 0 := (A.at_ 0 rfl _ rfl).1 _ rfl
  have r13 : RV U (vs 0) a0 := (A.at_ 0 rfl _ rfl).2
  obtain ⟨u5, hu5⟩ : ∃ u, vs 0 = u := ⟨_, rfl⟩
  rw [hu5] at q1 r13
  obtain ⟨c13, c14, c15, c16, e16, r14, r15, r16, r17⟩ := Riddle.inv r13
  subst e16
  obtain ⟨z13, m13, k13, rfl⟩ := ad_ r14
  obtain ⟨z14, m14, k14, rfl⟩ := ad_ r15
  obtain ⟨z15, m15, k15, rfl⟩ := ad_ r16
  obtain ⟨z16, m16, k16, rfl⟩ := ad_ r17
  refine pl_ rfl (ap_ (vs := [(.agg #[(.slice z13 m13 k13), (.slice z14 m14 k14), (.slice z15 m15 k15), (.slice z16 m16 k16)])]) (r := (vi x3)) rfl ca13 rfl (dy_ q1) I (fun Fr_ hF_ => np_ hF_ (Riddle.rv (s := a0) r14 r15 r16 r17) hx3) (fun w8 I9 => (fn rfl rfl I9)))
 ·
  intro vs f w_ U X le A K I
  refine pl_ rfl (al_ (v := (pt_ g1)) (e := a0) rfl ir_ (K 2 (ak_ rfl)) ((p1.mono le).at_ I) (fun u6 hu6 => ?_))
  obtain ⟨c17, c18, c19, c20, e21, r18, r19, r20, r21⟩ := Riddle.inv hu6
  subst e21
  obtain ⟨z17, m17, k17, rfl⟩ := ad_ r18
  obtain ⟨z18, m18, k18, rfl⟩ := ad_ r19
  obtain ⟨z19, m19, k19, rfl⟩ := ad_ r20
  obtain ⟨z20, m20, k20, rfl⟩ := ad_ r21
  refine ⟨_, _, rfl, lr, ?_, ?_⟩
  · exact (Riddle.rv (s := a0) r18 r19 r20 r21)
  exact I
 ·
  intro vs f w_ U X le A K I
  have q2 : f 18 = vs 2 := (A.at_ 2 rfl _ rfl).1 _ rfl
  have r22 : RV U (vs 2) a0 := (A.at_ 2 rfl _ rfl).2
  obtain ⟨u7, hu7⟩ : ∃ u, vs 2 = u := ⟨_, rfl⟩
  rw [hu7] at q2 r22
  obtain ⟨c21, c22, c23, c24, e26, r23, r24, r25, r26⟩ := Riddle.inv r22
  subst e26
  obtain ⟨z21, m21, k21, rfl⟩ := ad_ r23
  obtain ⟨z22, m22, k22, rfl⟩ := ad_ r24
  obtain ⟨z23, m23, k23, rfl⟩ := ad_ r25
  obtain ⟨z24, m24, k24, rfl⟩ := ad_ r26
  refine pl_ rfl (ap_ (vs := [(.agg #[(.slice z21 m21 k21), (.slice z22 m22 k22), (.slice z23 m23 k23), (.slice z24 m24 k24)])]) (r := (vi x4)) rfl ca16 rfl (dy_ q2) I (fun Fr_ hF_ => kr_ hF_ (Riddle.rv (s := a0) r23 r24 r25 r26) hx4) (fun w11 I12 => (fn rfl rfl I12)))
 ·
  intro vs f w_ U X le A K I
  refine pl_ rfl (cd_ (a := x3) (b := x4) rfl (A.u 1 rfl rfl rfl) (A.u 3 rfl rfl rfl) (fn rfl rfl I))
 intro vs6 f w13 S7 ed1 le7 hF1 hK6 hI6
 have e31 : f 1 = (Value.int .i64 (a1)) := (hK6 1 (ao_ rfl)).trans rfl
 have e32 : f 2 = (Value.pointer (some ⟨g1, 0, none⟩)) := (hK6 2 (ao_ rfl)).trans rfl
 have I14 : Inv w13 S7 (Fr) := hI6
 have q5 := hF1.u 4 rfl rfl rfl
 rcases ifs h with ⟨hc2, h⟩ | ⟨hc2, h⟩
 ·
  refine aj_ (b := x3 != x4) q5 hc2 (ab_ (aa_ (wa_ (v := (vb false)) rfl rfl (ae_ (an_ ?_)))))
  obtain rfl := sj h
  exact ⟨(ed1.trans rfl), (vb false), (bs_ rfl rfl), _, [], (le1.trans le7), I14, rfl, rfl⟩
 refine am_ (b := x3 != x4) q5 hc2 (ar_ (ab_ (aa_ (wo_ (al_ (v := (pt_ g1)) (e := a0) rfl ir_ e32 ((p1.mono le7).at_ I14) (fun u8 hu8 => ?_))))))
 obtain ⟨c25, c26, c27, c28, e33, r27, r28, r29, r30⟩ := Riddle.inv hu8
 subst e33
 obtain ⟨z25, m25, k25, rfl⟩ := ad_ r27
 obtain ⟨z26, m26, k26, rfl⟩ := ad_ r28
 obtain ⟨z27, m27, k27, rfl⟩ := ad_ r29
 obtain ⟨z28, m28, k28, rfl⟩ := ad_ r30
 obtain ⟨x5, hx5, h⟩ := bnd h
 refine wo_ (ap_ (vs := [(.agg #[(.slice z25 m25 k25), (.slice z26 m26 k26), (.slice z27 m27 k27), (.slice z28 m28 k28)])]) (r := (Value.tuple #[(vi x5.1), (vi x5.2)])) rfl ca10 rfl (dy_ rfl) I14 (fun Fr_ hF_ => mr_ hF_ (Riddle.rv (s := a0) r27 r28 r29 r30) hx5) (fun w14 I15 => (wm_ (v := (Value.tuple #[(vi x5.1), (vi x5.2)])) rfl rfl (wo_ (bc_ (v := (vi x5.1)) rfl rfl rfl (wo_ (bc_ (v := (vi x5.2)) rfl rfl rfl (wa_ (v := (vi x5.1)) rfl rfl (wa_ (v := (vi x5.2)) rfl rfl (ae_ (ab_ (aa_ (wo_ (al_ (v := (pt_ g1)) (e := a0) rfl ir_ e32 ((p1.mono le7).at_ I15) (fun u9 hu9 => ?_)))))))))))))))
 obtain ⟨c29, c30, c31, c32, e38, r31, r32, r33, r34⟩ := Riddle.inv hu9
 subst e38
 obtain ⟨z29, m29, k29, rfl⟩ := ad_ r31
 obtain ⟨z30, m30, k30, rfl⟩ := ad_ r32
 obtain ⟨z31, m31, k31, rfl⟩ := ad_ r33
 obtain ⟨z32, m32, k32, rfl⟩ := ad_ r34
 obtain ⟨x6, hx6, h⟩ := bnd h
 refine wo_ (ap_ (vs := [(.agg #[(.slice z29 m29 k29), (.slice z30 m30 k30), (.slice z31 m31 k31), (.slice z32 m32 k32)])]) (r := (Value.tuple #[(vi x6.1), (vi x6.2)])) rfl ca17 rfl (dy_ rfl) I15 (fun Fr_ hF_ => ref07_Worlds_ok hF_ (Riddle.rv (s := a0) r31 r32 r33 r34) hx6) (fun w15 I16 => (wm_ (v := (Value.tuple #[(vi x6.1), (vi x6.2)])) rfl rfl (wo_ (bc_ (v := (vi x6.1)) rfl rfl rfl (wo_ (bc_ (v := (vi x6.2)) rfl rfl rfl (wa_ (v := (vi x6.1)) rfl rfl (wa_ (v := (vi x6.2)) rfl rfl (ae_ (ab_ (ab_ (aa_ (wm_ (v := (vi x5.1)) rfl rfl (wm_ (v := (vi x6.1)) rfl rfl (wo_ (cd_ (a := x5.1) (b := x6.1) rfl rfl rfl (wm_ (v := (vb (x5.1 != x6.1))) rfl rfl ?_))))))))))))))))))
 rcases ifs h with ⟨hc5, h⟩ | ⟨hc5, h⟩
 ·
  refine ws_ (c := x5.1 != x6.1) rfl rfl hc5 (ws_ (c := x5.1 != x6.1) rfl rfl hc5 (ws_ (c := x5.1 != x6.1) rfl rfl hc5 (wo_ (az_ (c := x5.1 != x6.1) (a := (vb true)) rfl rfl hc5 rfl (ae_ (aj_ (b := true) rfl rfl (ab_ (aa_ (wa_ (v := (vb false)) rfl rfl (ae_ (an_ ?_)))))))))))
  obtain rfl := sj h
  exact ⟨(ed1.trans rfl), (vb false), (bs_ rfl rfl), _, [], (le1.trans le7), I16, rfl, rfl⟩
 refine wk_ (c := x5.1 != x6.1) rfl rfl hc5 (ax_ (v := (vi x5.2)) rfl rfl (wk_ (c := x5.1 != x6.1) rfl rfl hc5 (ax_ (v := (vi x6.2)) rfl rfl (wk_ (c := x5.1 != x6.1) rfl rfl hc5 (cd_ (a := x5.2) (b := x6.2) rfl rfl rfl (wo_ (au_ (c := x5.1 != x6.1) (b := (vb (x5.2 != x6.2))) rfl rfl hc5 rfl (ae_ ?_))))))))
 rcases ifs h with ⟨hc6, h⟩ | ⟨hc6, h⟩
 ·
  refine aj_ (b := x5.2 != x6.2) rfl hc6 (ab_ (aa_ (wa_ (v := (vb false)) rfl rfl (ae_ (an_ ?_)))))
  obtain rfl := sj h
  exact ⟨(ed1.trans rfl), (vb false), (bs_ rfl rfl), _, [], (le1.trans le7), I16, rfl, rfl⟩
 refine am_ (b := x5.2 != x6.2) rfl hc6 (ar_ (ab_ (aa_ (wo_ (al_ (v := (pt_ g1)) (e := a0) rfl ir_ e32 ((p1.mono le7).at_ I16) (fun u10 hu10 => ?_))))))
 obtain ⟨c33, c34, c35, c36, e43, r35, r36, r37, r38⟩ := Riddle.inv hu10
 subst e43
 obtain ⟨z33, m33, k33, rfl⟩ := ad_ r35
 obtain ⟨z34, m34, k34, rfl⟩ := ad_ r36
 obtain ⟨z35, m35, k35, rfl⟩ := ad_ r37
 obtain ⟨z36, m36, k36, rfl⟩ := ad_ r38
 refine wm_ (v := (vi a1)) rfl e31 ?_
 obtain ⟨x7, hx7, h⟩ := bnd h
 refine wo_ (bk_ (vs := [(.agg #[(.slice z33 m33 k33), (.slice z34 m34 k34), (.slice z35 m35 k35), (.slice z36 m36 k36)]), (vi a1)]) rfl ca18 rfl (bw_ rfl rfl) (hints_Possible_ok I16 (Riddle.rv (s := a0) r35 r36 r37 r38) hx7) (fun cv1 w16 S8 O1 le8 I17 hv1 => ?_))
 obtain ⟨z37, m37, k37, rfl, rfl, r39⟩ := hv1
 refine wm_ (v := (Value.tuple #[(.slice z37 m37 k37), (vi x7.2)])) rfl rfl (wo_ (bc_ (v := (.slice z37 m37 k37)) rfl rfl rfl (wo_ (bc_ (v := (vi x7.2)) rfl rfl rfl (wa_ (v := (.slice z37 m37 k37)) rfl rfl (wa_ (v := (vi x7.2)) rfl rfl (ae_ (ab_ (aa_ (wo_ (al_ (v := (pt_ g1)) (e := a0) rfl ir_ e32 ((p1.mono (le7.trans le8)).at_ I17) (fun u11 hu11 => ?_))))))))))))
 obtain ⟨c37, c38, c39, c40, e48, r40, r41, r42, r43⟩ := Riddle.inv hu11
 subst e48
 obtain ⟨z38, m38, k38, rfl⟩ := ad_ r40
 obtain ⟨z39, m39, k39, rfl⟩ := ad_ r41
 obtain ⟨z40, m40, k40, rfl⟩ := ad_ r42
 obtain ⟨z41, m41, k41, rfl⟩ := ad_ r43
 refine wm_ (v := (vi a1)) rfl e31 ?_
 obtain ⟨x8, hx8, h⟩ := bnd h
 refine wo_ (bk_ (vs := [(.agg #[(.slice z38 m38 k38), (.slice z39 m39 k39), (.slice z40 m40 k40), (.slice z41 m41 k41)]), (vi a1)]) rfl ca19 rfl (bw_ rfl rfl) (lj_ I17 (Riddle.rv (s := a0) r40 r41 r42 r43) hx8) (fun cv2 w17 S9 O2 le9 I18 hv2 => ?_))
 obtain ⟨z42, m42, k42, rfl, rfl⟩ := hv2
 refine wm_ (v := (Value.tuple #[(.slice z42 m42 k42), (vi x8.2)])) rfl rfl (wo_ (bc_ (v := (.slice z42 m42 k42)) rfl rfl rfl (wo_ (bc_ (v := (vi x8.2)) rfl rfl rfl (wa_ (v := (.slice z42 m42 k42)) rfl rfl (wa_ (v := (vi x8.2)) rfl rfl (ae_ (ab_ (ab_ (aa_ (wm_ (v := (vi x7.2)) rfl rfl (wm_ (v := (vi x8.2)) rfl rfl (wo_ (cd_ (a := x7.2) (b := x8.2) rfl rfl rfl (wm_ (v := (vb (x7.2 != x8.2))) rfl rfl ?_)))))))))))))))
 rcases ifs h with ⟨hc9, h⟩ | ⟨hc9, h⟩
 ·
  refine ws_ (c := x7.2 != x8.2) rfl rfl hc9 (ws_ (c := x7.2 != x8.2) rfl rfl hc9 (ws_ (c := x7.2 != x8.2) rfl rfl hc9 (ws_ (c := x7.2 != x8.2) rfl rfl hc9 (wo_ (az_ (c := x7.2 != x8.2) (a := (vb true)) rfl rfl hc9 rfl (ae_ (aj_ (b := true) rfl rfl (ab_ (aa_ (wa_ (v := (vb false)) rfl rfl (ae_ (an_ ?_))))))))))))
  obtain rfl := sj h
  exact ⟨(ed1.trans rfl), (vb false), (bs_ rfl rfl), _, [], (((le1.trans le7).trans le8).trans le9), (I18).drop, rfl, rfl⟩
 refine wk_ (c := x7.2 != x8.2) rfl rfl hc9 (ax_ (v := (.slice z37 m37 k37)) rfl rfl (wk_ (c := x7.2 != x8.2) rfl rfl hc9 (ax_ (v := (.slice z42 m42 k42)) rfl rfl ?_)))
 obtain ⟨x10, hx10, h⟩ := bnd h
 obtain ⟨S12, Fr2, le12, I22, r45, bk2⟩ := Inv.lend1 I18
 refine wk_ (c := x7.2 != x8.2) rfl rfl hc9 (bk_ (vs := [(.slice z37 m37 k37), (.slice z42 m42 k42)]) rfl ca20 rfl (bw_ rfl rfl) (law07_sameLists_ok I22 (r39.mono (le9.trans le12)) r45 hx10) (fun cv4 w19 S13 O4 le13 I24 hv4 => ?_))
 obtain ⟨rfl, rfl⟩ := hv4
 have I23 := bk2 [] trivial I24 le13
 refine wk_ (c := x7.2 != x8.2) rfl rfl hc9 (cc_ (b := x10) rfl rfl (wo_ (au_ (c := x7.2 != x8.2) (b := (vb (!x10))) rfl rfl hc9 rfl (ae_ ?_))))
 rcases ifs h with ⟨hc10, h⟩ | ⟨hc10, h⟩
 ·
  refine aj_ (b := !x10) rfl hc10 (ab_ (aa_ (wa_ (v := (vb false)) rfl rfl (ae_ (an_ ?_)))))
  obtain rfl := sj h
  exact ⟨(ed1.trans rfl), (vb false), (bs_ rfl rfl), _, [], (((le1.trans le7).trans le8).trans le9), (I23).drop, rfl, rfl⟩
 refine am_ (b := !x10) rfl hc10 (ar_ (ab_ (aa_ (wo_ (al_ (v := (pt_ g1)) (e := a0) rfl ir_ e32 ((p1.mono ((le7.trans le8).trans le9)).at_ I23) (fun u12 hu12 => ?_))))))
 obtain ⟨c41, c42, c43, c44, e53, r46, r47, r48, r49⟩ := Riddle.inv hu12
 subst e53
 obtain ⟨z43, m43, k43, rfl⟩ := ad_ r46
 obtain ⟨z44, m44, k44, rfl⟩ := ad_ r47
 obtain ⟨z45, m45, k45, rfl⟩ := ad_ r48
 obtain ⟨z46, m46, k46, rfl⟩ := ad_ r49
 obtain ⟨x11, hx11, h⟩ := bnd h
 refine wo_ (bk_ (vs := [(.agg #[(.slice z43 m43 k43), (.slice z44 m44 k44), (.slice z45 m45 k45), (.slice z46 m46 k46)])]) rfl ca21 rfl (dy_ rfl) (hints_Sure_ok I23 (Riddle.rv (s := a0) r46 r47 r48 r49) hx11) (fun cv5 w20 S14 O5 le14 I25 hv5 => ?_))
 obtain ⟨z47, m47, k47, rfl, rfl⟩ := hv5
 refine wm_ (v := (Value.tuple #[(.slice z47 m47 k47), (vi x11.2)])) rfl rfl (wo_ (bc_ (v := (.slice z47 m47 k47)) rfl rfl rfl (wo_ (bc_ (v := (vi x11.2)) rfl rfl rfl (wa_ (v := (.slice z47 m47 k47)) rfl rfl (wa_ (v := (vi x11.2)) rfl rfl (ae_ (ab_ (aa_ (wo_ (al_ (v := (pt_ g1)) (e := a0) rfl ir_ e32 ((p1.mono (((le7.trans le8).trans le9).trans le14)).at_ I25) (fun u13 hu13 => ?_))))))))))))
 obtain ⟨c45, c46, c47, c48, e58, r50, r51, r52, r53⟩ := Riddle.inv hu13
 subst e58
 obtain ⟨z48, m48, k48, rfl⟩ := ad_ r50
 obtain ⟨z49, m49, k49, rfl⟩ := ad_ r51
 obtain ⟨z50, m50, k50, rfl⟩ := ad_ r52
 obtain ⟨z51, m51, k51, rfl⟩ := ad_ r53
 obtain ⟨x12, hx12, h⟩ := bnd h
 refine wo_ (bk_ (vs := [(.agg #[(.slice z48 m48 k48), (.slice z49 m49 k49), (.slice z50 m50 k50), (.slice z51 m51 k51)])]) rfl ca22 rfl (dy_ rfl) (ref07_Sure_ok I25 (Riddle.rv (s := a0) r50 r51 r52 r53) hx12) (fun cv6 w21 S15 O6 le15 I26 hv6 => ?_))
 obtain ⟨z52, m52, k52, rfl, rfl⟩ := hv6
 refine wm_ (v := (Value.tuple #[(.slice z52 m52 k52), (vi x12.2)])) rfl rfl (wo_ (bc_ (v := (.slice z52 m52 k52)) rfl rfl rfl (wo_ (bc_ (v := (vi x12.2)) rfl rfl rfl (wa_ (v := (.slice z52 m52 k52)) rfl rfl (wa_ (v := (vi x12.2)) rfl rfl (ae_ (ab_ (ab_ (aa_ (wm_ (v := (vi x11.2)) rfl rfl (wm_ (v := (vi x12.2)) rfl rfl (wo_ (cd_ (a := x11.2) (b := x12.2) rfl rfl rfl (wm_ (v := (vb (x11.2 != x12.2))) rfl rfl ?_)))))))))))))))
 rcases ifs h with ⟨hc13, h⟩ | ⟨hc13, h⟩
 ·
  refine ws_ (c := x11.2 != x12.2) rfl rfl hc13 (ws_ (c := x11.2 != x12.2) rfl rfl hc13 (ws_ (c := x11.2 != x12.2) rfl rfl hc13 (ws_ (c := x11.2 != x12.2) rfl rfl hc13 (wo_ (az_ (c := x11.2 != x12.2) (a := (vb true)) rfl rfl hc13 rfl (ae_ (aj_ (b := true) rfl rfl (ab_ (aa_ (wa_ (v := (vb false)) rfl rfl (ae_ (an_ ?_))))))))))))
  obtain rfl := sj h
  exact ⟨(ed1.trans rfl), (vb false), (bs_ rfl rfl), _, [], (((((le1.trans le7).trans le8).trans le9).trans le14).trans le15), (((I26).drop).drop).drop, rfl, rfl⟩
 refine wk_ (c := x11.2 != x12.2) rfl rfl hc13 (ax_ (v := (.slice z47 m47 k47)) rfl rfl (wk_ (c := x11.2 != x12.2) rfl rfl hc13 (ax_ (v := (.slice z52 m52 k52)) rfl rfl ?_)))
 obtain ⟨x14, hx14, h⟩ := bnd h
 obtain ⟨S18, Fr4, le18, I30, r56, r57, bk4⟩ := Inv.lend2 (I26.pull 1)
 refine wk_ (c := x11.2 != x12.2) rfl rfl hc13 (bk_ (vs := [(.slice z47 m47 k47), (.slice z52 m52 k52)]) rfl ca23 rfl (bw_ rfl rfl) (ed_ I30 r56 r57 hx14) (fun cv8 w23 S19 O8 le19 I32 hv8 => ?_))
 obtain ⟨rfl, rfl⟩ := hv8
 have I31 := bk4 [] trivial I32 le19
 refine wk_ (c := x11.2 != x12.2) rfl rfl hc13 (cc_ (b := x14) rfl rfl (wo_ (au_ (c := x11.2 != x12.2) (b := (vb (!x14))) rfl rfl hc13 rfl (ae_ ?_))))
 rcases ifs h with ⟨hc14, h⟩ | ⟨hc14, h⟩
 ·
  refine aj_ (b := !x14) rfl hc14 (ab_ (aa_ (wa_ (v := (vb false)) rfl rfl (ae_ (an_ ?_)))))
  obtain rfl := sj h
  exact ⟨(ed1.trans rfl), (vb false), (bs_ rfl rfl), _, [], (((((le1.trans le7).trans le8).trans le9).trans le14).trans le15), (((I31).drop).drop).drop, rfl, rfl⟩
 refine am_ (b := !x14) rfl hc14 (ar_ (ab_ (aa_ (wo_ (al_ (v := (pt_ g1)) (e := a0) rfl ir_ e32 ((p1.mono ((((le7.trans le8).trans le9).trans le14).trans le15)).at_ I31) (fun u14 hu14 => ?_))))))
 obtain ⟨c49, c50, c51, c52, e63, r58, r59, r60, r61⟩ := Riddle.inv hu14
 subst e63
 obtain ⟨z53, m53, k53, rfl⟩ := ad_ r58
 obtain ⟨z54, m54, k54, rfl⟩ := ad_ r59
 obtain ⟨z55, m55, k55, rfl⟩ := ad_ r60
 obtain ⟨z56, m56, k56, rfl⟩ := ad_ r61
 refine wm_ (v := (vi a1)) rfl e31 ?_
 obtain ⟨x15, hx15, h⟩ := bnd h
 refine wo_ (bk_ (vs := [(.agg #[(.slice z53 m53 k53), (.slice z54 m54 k54), (.slice z55 m55 k55), (.slice z56 m56 k56)]), (vi a1)]) rfl ca24 rfl (bw_ rfl rfl) (hints_Secret_ok I31 (Riddle.rv (s := a0) r58 r59 r60 r61) hx15) (fun cv9 w24 S20 O9 le20 I33 hv9 => ?_))
 obtain ⟨z57, m57, k57, rfl, rfl⟩ := hv9
 refine wm_ (v := (Value.tuple #[(.slice z57 m57 k57), (vi x15.2)])) rfl rfl (wo_ (bc_ (v := (.slice z57 m57 k57)) rfl rfl rfl (wo_ (bc_ (v := (vi x15.2)) rfl rfl rfl (wa_ (v := (.slice z57 m57 k57)) rfl rfl (wa_ (v := (vi x15.2)) rfl rfl (ae_ (ab_ (aa_ (wo_ (al_ (v := (pt_ g1)) (e := a0) rfl ir_ e32 ((p1.mono (((((le7.trans le8).trans le9).trans le14).trans le15).trans le20)).at_ I33) (fun u15 hu15 => ?_))))))))))))
 obtain ⟨c53, c54, c55, c56, e68, r62, r63, r64, r65⟩ := Riddle.inv hu15
 subst e68
 obtain ⟨z58, m58, k58, rfl⟩ := ad_ r62
 obtain ⟨z59, m59, k59, rfl⟩ := ad_ r63
 obtain ⟨z60, m60, k60, rfl⟩ := ad_ r64
 obtain ⟨z61, m61, k61, rfl⟩ := ad_ r65
 refine wm_ (v := (vi a1)) rfl e31 ?_
 obtain ⟨x16, hx16, h⟩ := bnd h
 refine wo_ (bk_ (vs := [(.agg #[(.slice z58 m58 k58), (.slice z59 m59 k59), (.slice z60 m60 k60), (.slice z61 m61 k61)]), (vi a1)]) rfl ca25 rfl (bw_ rfl rfl) (ref07_Secret_ok I33 (Riddle.rv (s := a0) r62 r63 r64 r65) hx16) (fun cv10 w25 S21 O10 le21 I34 hv10 => ?_))
 obtain ⟨z62, m62, k62, rfl, rfl⟩ := hv10
 refine wm_ (v := (Value.tuple #[(.slice z62 m62 k62), (vi x16.2)])) rfl rfl (wo_ (bc_ (v := (.slice z62 m62 k62)) rfl rfl rfl (wo_ (bc_ (v := (vi x16.2)) rfl rfl rfl (wa_ (v := (.slice z62 m62 k62)) rfl rfl (wa_ (v := (vi x16.2)) rfl rfl (ae_ (ab_ (aa_ (wm_ (v := (vi x15.2)) rfl rfl (wm_ (v := (vi x16.2)) rfl rfl (wo_ (bp_ (a := x15.2) (b := x16.2) rfl rfl rfl (wm_ (v := (vb (x15.2 == x16.2))) rfl rfl ?_))))))))))))))
 rcases ifs h with ⟨hc15, h⟩ | ⟨hc15, h⟩
 ·
  refine wk_ (c := x15.2 == x16.2) rfl rfl hc15 (ax_ (v := (.slice z57 m57 k57)) rfl rfl (wk_ (c := x15.2 == x16.2) rfl rfl hc15 (ax_ (v := (.slice z62 m62 k62)) rfl rfl ?_)))
  obtain ⟨x17, hx17, h⟩ := bnd h
  obtain ⟨S22, Fr5, le22, I35, r66, r67, bk5⟩ := Inv.lend2 (I34.pull 1)
  refine wk_ (c := x15.2 == x16.2) rfl rfl hc15 (bk_ (vs := [(.slice z57 m57 k57), (.slice z62 m62 k62)]) rfl ca23 rfl (bw_ rfl rfl) (ed_ I35 r66 r67 hx17) (fun cv11 w26 S23 O11 le23 I37 hv11 => ?_))
  obtain ⟨rfl, rfl⟩ := hv11
  have I36 := bk5 [] trivial I37 le23
  refine wo_ (az_ (c := x15.2 == x16.2) (a := (vb x17)) rfl rfl hc15 rfl (wm_ (v := (vb x17)) rfl rfl ?_))
  rcases ifs h with ⟨hc16, h⟩ | ⟨hc16, h⟩
  ·
   obtain ⟨x18, hx18, h⟩ := bnd h
   refine wk_ (c := x17) rfl rfl hc16 (ap_ (vs := []) (r := (vb x18)) rfl ca9 rfl args0 I36 (fun Fr_ hF_ => no_ hF_  hx18) (fun w27 I38 => (wo_ (az_ (c := x17) (a := (vb x18)) rfl rfl hc16 rfl (wa_ (v := (vb x18)) rfl rfl (ae_ (an_ ?_)))))))
   obtain rfl := sj h
   exact ⟨(ed1.trans rfl), (vb x18), (bs_ rfl rfl), _, [], (((((((le1.trans le7).trans le8).trans le9).trans le14).trans le15).trans le20).trans le21), (((((I38).drop).drop).drop).drop).drop, rfl, rfl⟩
  refine ws_ (c := x17) rfl rfl hc16 (wo_ (au_ (c := x17) (b := (vb false)) rfl rfl hc16 rfl (wa_ (v := (vb false)) rfl rfl (ae_ (an_ ?_)))))
  obtain rfl := sj h
  exact ⟨(ed1.trans rfl), (vb false), (bs_ rfl rfl), _, [], (((((((le1.trans le7).trans le8).trans le9).trans le14).trans le15).trans le20).trans le21), (((((I36).drop).drop).drop).drop).drop, rfl, rfl⟩
 refine ws_ (c := x15.2 == x16.2) rfl rfl hc15 (ws_ (c := x15.2 == x16.2) rfl rfl hc15 (ws_ (c := x15.2 == x16.2) rfl rfl hc15 (wo_ (au_ (c := x15.2 == x16.2) (b := (vb false)) rfl rfl hc15 rfl (wm_ (v := (vb false)) rfl rfl (ws_ (c := false) rfl rfl rfl (wo_ (au_ (c := false) (b := (vb false)) rfl rfl rfl rfl (wa_ (v := (vb false)) rfl rfl (ae_ (an_ ?_)))))))))))
 obtain rfl := sj h
 exact ⟨(ed1.trans rfl), (vb false), (bs_ rfl rfl), _, [], (((((((le1.trans le7).trans le8).trans le9).trans le14).trans le15).trans le20).trans le21), (((((I34).drop).drop).drop).drop).drop, rfl, rfl⟩
end Go.Proofs.Ytlpdpeghgndmkaa.Pad
