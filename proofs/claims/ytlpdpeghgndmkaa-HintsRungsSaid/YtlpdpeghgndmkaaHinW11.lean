/- A part of the proof: what the functions of the program compute, shown over the model. -/
import Derived.Test.YtlpdpeghgndmkaaHinP
import Derived.Test.YtlpdpeghgndmkaaHinW1
import Derived.Test.YtlpdpeghgndmkaaHinW4
import Derived.Test.YtlpdpeghgndmkaaHinW9
import Derived.Test.YtlpdpeghgndmkaaHinW10
import Derived.KernelRfl
set_option linter.unusedVariables false
set_option maxHeartbeats 4000000
set_option maxRecDepth 100000
namespace Go.Proofs.Ytlpdpeghgndmkaa.Pad
open Go Go.Proofs
theorem ja_ {w : World} {S : PH} {Fr : List HP}  {r : Bool} (hI : Inv w S (Fr))  (h : fy_  = some r) :
    Calls Try.prog 9 [].toArray w (ce_ S Fr (Value.bool (r))) := by
 unfold fy_ at h
 refine au_ (n := 32) (vs := []) Try.func9 rfl rfl rfl (ab_ (aa_ (wa_ (v := (vb false)) rfl rfl (ae_ (ab_ (aa_ ?_))))))
 obtain ⟨x1, hx1, h⟩ := bnd h
 refine wo_ (bm_ (vs := []) rfl ca32 rfl args0 (ms_ hI  hx1) (fun cv1 w1 S1 O1 le1 I1 hv1 => ?_))
 obtain ⟨c1, rfl, rfl, r1⟩ := hv1
 obtain ⟨c2, c3, c4, c5, e1, r2, r3, r4, r5⟩ := Riddle.inv r1
 subst e1
 obtain ⟨z1, m1, k1, rfl⟩ := ad_ r2
 obtain ⟨z2, m2, k2, rfl⟩ := ad_ r3
 obtain ⟨z3, m3, k3, rfl⟩ := ad_ r4
 obtain ⟨z4, m4, k4, rfl⟩ := ad_ r5
 obtain ⟨x2, hx2, h⟩ := bnd h
 refine wo_ (aq_ (vs := [(.agg #[(.slice z1 m1 k1), (.slice z2 m2 k2), (.slice z3 m3 k3), (.slice z4 m4 k4)])]) (r := (Value.tuple #[(vi x2.1), (vi x2.2)])) rfl ca10 rfl (fs_ rfl) I1 (fun Fr_ hF_ => hints_Worlds_ok hF_ (Riddle.rv (s := x1) r2 r3 r4 r5) hx2) (fun w2 I2 => (wm_ (v := (Value.tuple #[(vi x2.1), (vi x2.2)])) rfl rfl (wo_ (bd_ (v := (vi x2.1)) rfl rfl rfl (wo_ (bd_ (v := (vi x2.2)) rfl rfl rfl (wa_ (v := (vi x2.1)) rfl rfl (wa_ (v := (vi x2.2)) rfl rfl (ae_ (ab_ (aa_ ?_))))))))))))
 obtain ⟨x3, hx3, h⟩ := bnd h
 refine wo_ (bm_ (vs := []) rfl ca32 rfl args0 (ms_ I2  hx3) (fun cv2 w3 S2 O2 le2 I3 hv2 => ?_))
 obtain ⟨c6, rfl, rfl, r6⟩ := hv2
 obtain ⟨c7, c8, c9, c10, e6, r7, r8, r9, r10⟩ := Riddle.inv r6
 subst e6
 obtain ⟨z5, m5, k5, rfl⟩ := ad_ r7
 obtain ⟨z6, m6, k6, rfl⟩ := ad_ r8
 obtain ⟨z7, m7, k7, rfl⟩ := ad_ r9
 obtain ⟨z8, m8, k8, rfl⟩ := ad_ r10
 refine wo_ (gw_ (qs := [(0, #[(vi 1)]), (3, #[(vi 3)])]) (c := #[(vi 1), (vi 0), (vi 0), (vi 3), (vi 0), (.slice none 0 0), (vb false)]) rfl st30 ⟨rfl, rfl, ⟨rfl, rfl, trivial⟩⟩ rfl (wo_ (gw_ (qs := [(1, #[(vi 1), (vi 0), (vi 0), (vi 3), (vi 0), (.slice none 0 0), (vb false)])]) (c := #[(vi 0), (vi 1), (vi 0), (vi 0), (vi 3), (vi 0), (.slice none 0 0), (vb false)]) rfl st32 ⟨rfl, rfl, trivial⟩ rfl ?_)))
 obtain ⟨x4, hx4, h⟩ := bnd h
 refine wo_ (bm_ (vs := [(.agg #[(.slice z5 m5 k5), (.slice z6 m6 k6), (.slice z7 m7 k7), (.slice z8 m8 k8)]), (.agg #[(vi 0), (vi 1), (vi 0), (vi 0), (vi 3), (vi 0), (.slice none 0 0), (vb false)])]) rfl ca12 rfl (bt_ rfl rfl) (hints_Spoils_ok I3 (Riddle.rv (s := x3) r7 r8 r9 r10) (Aid.rv (s := (⟨0, (⟨1, 0, 0, 3, 0, ([] : (List Int)), false⟩ : Clue)⟩ : Aid)) rv_nil) hx4) (fun cv3 w4 S3 O3 le3 I4 hv3 => ?_))
 obtain ⟨z9, m9, k9, rfl, rfl⟩ := hv3
 refine wm_ (v := (Value.tuple #[(.slice z9 m9 k9), (vi x4.2)])) rfl rfl (wo_ (bd_ (v := (.slice z9 m9 k9)) rfl rfl rfl (wo_ (bd_ (v := (vi x4.2)) rfl rfl rfl (wa_ (v := (.slice z9 m9 k9)) rfl rfl (wa_ (v := (vi x4.2)) rfl rfl (ae_ (ab_ (aa_ (wm_ (v := (vi x2.2)) rfl rfl (wo_ (bn_ (a := x2.2) (b := 0) rfl rfl rfl (wm_ (v := (vb (x2.2 == 0))) rfl rfl ?_)))))))))))))
 rcases ifs h with ⟨hc1, h⟩ | ⟨hc1, h⟩
 ·
  refine wk_ (c := x2.2 == 0) rfl rfl hc1 (aw_ (v := (vi x4.2)) rfl rfl (wk_ (c := x2.2 == 0) rfl rfl hc1 (bn_ (a := x4.2) (b := 0) rfl rfl rfl (wo_ (ax_ (c := x2.2 == 0) (a := (vb (x4.2 == 0))) rfl rfl hc1 rfl (wm_ (v := (vb (x4.2 == 0))) rfl rfl ?_))))))
  rcases ifs h with ⟨hc2, h⟩ | ⟨hc2, h⟩
  ·
   refine wk_ (c := x4.2 == 0) rfl rfl hc2 (aw_ (v := (vi x2.1)) rfl rfl (wk_ (c := x4.2 == 0) rfl rfl hc2 (bn_ (a := x2.1) (b := 3) rfl rfl rfl (wo_ (ax_ (c := x4.2 == 0) (a := (vb (x2.1 == 3))) rfl rfl hc2 rfl (wm_ (v := (vb (x2.1 == 3))) rfl rfl ?_))))))
   rcases ifs h with ⟨hc3, h⟩ | ⟨hc3, h⟩
   ·
    refine wk_ (c := x2.1 == 3) rfl rfl hc3 (aw_ (v := (.slice z9 m9 k9)) rfl rfl (wk_ (c := x2.1 == 3) rfl rfl hc3 (bi_ (vs := [(vi 1)]) (r := ([1] : List Int)) rfl Try.underlying28 el3 (ij_ rfl) rfl (by decide) (by decide) ⟨(ec_ _), trivial⟩ I4 (fun u1 w5 I5 => ?_))))
    obtain ⟨z10, m10, k10, e11⟩ := bj_ I5
    subst e11
    obtain ⟨x5, hx5, h⟩ := bnd h
    obtain ⟨S4, Fr1, le4, I6, r11, r12, bk1⟩ := Inv.lend2 (I5.pull 1)
    refine wk_ (c := x2.1 == 3) rfl rfl hc3 (bm_ (vs := [(.slice z9 m9 k9), (.slice z10 m10 k10)]) rfl ca23 rfl (bt_ rfl rfl) (lu_ I6 r11 r12 hx5) (fun cv4 w6 S5 O4 le5 I8 hv4 => ?_))
    obtain ⟨rfl, rfl⟩ := hv4
    have I7 := bk1 [] trivial I8 le5
    refine wo_ (ax_ (c := x2.1 == 3) (a := (vb x5)) rfl rfl hc3 rfl (wa_ (v := (vb x5)) rfl rfl (ae_ (al_ ?_))))
    obtain rfl := sj h
    exact ⟨rfl, (vb x5), (br_ rfl rfl), _, [], ((le1.trans le2).trans le3), ((I7).drop).drop, rfl, rfl⟩
   refine ws_ (c := x2.1 == 3) rfl rfl hc3 (ws_ (c := x2.1 == 3) rfl rfl hc3 (ws_ (c := x2.1 == 3) rfl rfl hc3 (wo_ (ar_ (c := x2.1 == 3) (b := (vb false)) rfl rfl hc3 rfl (wa_ (v := (vb false)) rfl rfl (ae_ (al_ ?_)))))))
   obtain rfl := sj h
   exact ⟨rfl, (vb false), (br_ rfl rfl), _, [], ((le1.trans le2).trans le3), (I4).drop, rfl, rfl⟩
  refine ws_ (c := x4.2 == 0) rfl rfl hc2 (ws_ (c := x4.2 == 0) rfl rfl hc2 (wo_ (ar_ (c := x4.2 == 0) (b := (vb false)) rfl rfl hc2 rfl (wm_ (v := (vb false)) rfl rfl (ws_ (c := false) rfl rfl rfl (ws_ (c := false) rfl rfl rfl (ws_ (c := false) rfl rfl rfl (wo_ (ar_ (c := false) (b := (vb false)) rfl rfl rfl rfl (wa_ (v := (vb false)) rfl rfl (ae_ (al_ ?_))))))))))))
  obtain rfl := sj h
  exact ⟨rfl, (vb false), (br_ rfl rfl), _, [], ((le1.trans le2).trans le3), (I4).drop, rfl, rfl⟩
 refine ws_ (c := x2.2 == 0) rfl rfl hc1 (ws_ (c := x2.2 == 0) rfl rfl hc1 (wo_ (ar_ (c := x2.2 == 0) (b := (vb false)) rfl rfl hc1 rfl (wm_ (v := (vb false)) rfl rfl (ws_ (c := false) rfl rfl rfl (ws_ (c := false) rfl rfl rfl (wo_ (ar_ (c := false) (b := (vb false)) rfl rfl rfl rfl (wm_ (v := (vb false)) rfl rfl (ws_ (c := false) rfl rfl rfl (ws_ (c := false) rfl rfl rfl (ws_ (c := false) rfl rfl rfl (wo_ (ar_ (c := false) (b := (vb false)) rfl rfl rfl rfl (wa_ (v := (vb false)) rfl rfl (ae_ (al_ ?_)))))))))))))))))
 obtain rfl := sj h
 exact ⟨rfl, (vb false), (br_ rfl rfl), _, [], ((le1.trans le2).trans le3), (I4).drop, rfl, rfl⟩
theorem hints_newLock_ok {w : World} {S : PH} {Fr : List HP} {a0 : Riddle} {v0 : Value} {a1 : Int} {r : (ORef Hints_room) × Int} (hI : Inv w S (Fr)) (h0_ : RV S v0 a0) (h : ia_ a0 a1 = some r) :
    Calls Try.prog 52 [v0, (Value.int .i64 (a1))].toArray w (mu_ S Fr (fun T_ v_ O_ => ∃ (c0_ : Value), v_ = (Value.tuple #[c0_, (Value.int .i64 (r.2))]) ∧ O_ = [] ∧ RV T_ c0_ r.1)) := by
 unfold ia_ at h
 obtain ⟨c1, c2, c3, c4, e1, r1, r2, r3, r4⟩ := Riddle.inv h0_
 subst e1
 obtain ⟨z1, m1, k1, rfl⟩ := ad_ r1
 obtain ⟨z2, m2, k2, rfl⟩ := ad_ r2
 obtain ⟨z3, m3, k3, rfl⟩ := ad_ r3
 obtain ⟨z4, m4, k4, rfl⟩ := ad_ r4
 refine au_ (n := 26) (vs := [(.agg #[(.slice z1 m1 k1), (.slice z2 m2 k2), (.slice z3 m3 k3), (.slice z4 m4 k4)]), (vi a1)]) Try.func52 rfl rfl rfl (ab_ (aa_ (wo_ (bh_ (v := (.agg #[(.slice z1 m1 k1), (.slice z2 m2 k2), (.slice z3 m3 k3), (.slice z4 m4 k4)])) rfl hI rfl (fun g1 w1 I1 => ?_)))))
 obtain ⟨S1, le1, I2, p1⟩ := Inv.boxFreeze (x := a0) I1 (Riddle.rv (s := a0) r1 r2 r3 r4)
 refine wa_ (v := (.pointer none)) rfl rfl (wa_ (v := (vi 0)) rfl rfl (ae_ (ab_ (aa_ (wo_ (an_ (v := (pt_ g1)) (e := a0) rfl hn_ rfl (p1.at_ I2) (fun u1 hu1 => ?_)))))))
 obtain ⟨c5, c6, c7, c8, e6, r5, r6, r7, r8⟩ := Riddle.inv hu1
 subst e6
 obtain ⟨z5, m5, k5, rfl⟩ := ad_ r5
 obtain ⟨z6, m6, k6, rfl⟩ := ad_ r6
 obtain ⟨z7, m7, k7, rfl⟩ := ad_ r7
 obtain ⟨z8, m8, k8, rfl⟩ := ad_ r8
 obtain ⟨x1, hx1, h⟩ := bnd h
 refine wo_ (bm_ (vs := [(.agg #[(.slice z5 m5 k5), (.slice z6 m6 k6), (.slice z7 m7 k7), (.slice z8 m8 k8)])]) rfl ca33 rfl (fs_ rfl) (fc_ I2 (Riddle.rv (s := a0) r5 r6 r7 r8) hx1) (fun cv1 w2 S2 O1 le2 I3 hv1 => ?_))
 obtain ⟨c9, rfl, rfl, r9⟩ := hv1
 refine wm_ (v := (Value.tuple #[c9, (vi x1.2)])) rfl rfl (wo_ (bd_ (v := c9) rfl rfl rfl (wo_ (bd_ (v := (vi x1.2)) rfl rfl rfl (wa_ (v := c9) rfl rfl (wa_ (v := (vi x1.2)) rfl rfl (ae_ (ab_ (ab_ (aa_ (wm_ (v := (vi x1.2)) rfl rfl (wo_ (bn_ (a := x1.2) (b := 0) rfl rfl rfl (wm_ (v := (vb (x1.2 == 0))) rfl rfl ?_))))))))))))))
 rcases ifs h with ⟨hc1, h⟩ | ⟨hc1, h⟩
 ·
  refine wk_ (c := x1.2 == 0) rfl rfl hc1 (aw_ (v := (vi a1)) rfl rfl (wk_ (c := x1.2 == 0) rfl rfl hc1 (ac_ (v := (pt_ g1)) rfl eg_ rfl ((p1.mono le2).at_ I3) (wk_ (c := x1.2 == 0) rfl rfl hc1 (an_ (v := (af_ (pt_ g1) 0)) (e := a0.Locks) rfl pp_ rfl (((p1.mono le2).at_ I3).fld Riddle.fld0) (fun u2 hu2 => ?_))))))
  obtain ⟨z9, m9, k9, rfl⟩ := ad_ hu2
  refine wk_ (c := x1.2 == 0) rfl rfl hc1 (bb_ rfl Try.underlying22 rfl hu2 (wk_ (c := x1.2 == 0) rfl rfl hc1 (ed_ (a := (a0.Locks.length : Int)) (b := 1) rfl rfl rfl ?_)))
  obtain ⟨x2, hx2, h⟩ := bnd h
  refine wk_ (c := x1.2 == 0) rfl rfl hc1 (aq_ (vs := [(vi a1), (vi 0), (vi (w64 ((a0.Locks.length : Int) - 1)))]) (r := (vb x2)) rfl ca39 rfl (cu_ rfl rfl rfl) I3 (fun Fr_ hF_ => bp_ hF_  hx2) (fun w3 I4 => (wk_ (c := x1.2 == 0) rfl rfl hc1 (cc_ (b := x2) rfl rfl (wo_ (ax_ (c := x1.2 == 0) (a := (vb (!x2))) rfl rfl hc1 rfl (ae_ ?_)))))))
  rcases ifs h with ⟨hc2, h⟩ | ⟨hc2, h⟩
  ·
   refine ai_ (b := !x2) rfl hc2 (ab_ (aa_ (wa_ (v := (.pointer none)) rfl rfl (wa_ (v := (vi 1)) rfl rfl (ae_ (al_ ?_))))))
   obtain rfl := sj h
   exact ⟨rfl, (Value.tuple #[(.pointer none), (vi 1)]), (ox_ rfl rfl rfl), _, [], (le1.trans le2), I4, _, rfl, rfl, lk_⟩
  refine am_ (b := !x2) rfl hc2 (av_ (ab_ (aa_ (wm_ (v := c9) rfl rfl (wm_ (v := (vi x1.2)) rfl rfl (wa_ (v := c9) rfl rfl (wa_ (v := (vi x1.2)) rfl rfl (ae_ (al_ ?_)))))))))
  obtain rfl := sj h
  exact ⟨rfl, (Value.tuple #[c9, (vi x1.2)]), (ox_ rfl rfl rfl), _, [], (le1.trans le2), I4, _, rfl, rfl, r9⟩
 refine ws_ (c := x1.2 == 0) rfl rfl hc1 (ws_ (c := x1.2 == 0) rfl rfl hc1 (ws_ (c := x1.2 == 0) rfl rfl hc1 (ws_ (c := x1.2 == 0) rfl rfl hc1 (ws_ (c := x1.2 == 0) rfl rfl hc1 (ws_ (c := x1.2 == 0) rfl rfl hc1 (ws_ (c := x1.2 == 0) rfl rfl hc1 (wo_ (ar_ (c := x1.2 == 0) (b := (vb false)) rfl rfl hc1 rfl (ae_ (am_ (b := false) rfl rfl (av_ (ab_ (aa_ (wm_ (v := c9) rfl rfl (wm_ (v := (vi x1.2)) rfl rfl (wa_ (v := c9) rfl rfl (wa_ (v := (vi x1.2)) rfl rfl (ae_ (al_ ?_)))))))))))))))))))
 obtain rfl := sj h
 exact ⟨rfl, (Value.tuple #[c9, (vi x1.2)]), (ox_ rfl rfl rfl), _, [], (le1.trans le2), I3, _, rfl, rfl, r9⟩
theorem hints_Possible_ok {w : World} {S : PH} {Fr : List HP} {a0 : Riddle} {v0 : Value} {a1 : Int} {r : (List (List Int)) × Int} (hI : Inv w S (Fr)) (h0_ : RV S v0 a0) (h : fj_ a0 a1 = some r) :
    Calls Try.prog 18 [v0, (Value.int .i64 (a1))].toArray w (mu_ S Fr (fun T_ v_ O_ => ∃ (a0_ : Option Addr) (n0_ k0_ : Nat), v_ = (Value.tuple #[(Value.slice a0_ n0_ k0_), (Value.int .i64 (r.2))]) ∧ O_ = [] ∧ RV T_ (Value.slice a0_ n0_ k0_) r.1)) := by
 unfold fj_ at h
 obtain ⟨c1, c2, c3, c4, e1, r1, r2, r3, r4⟩ := Riddle.inv h0_
 subst e1
 obtain ⟨z1, m1, k1, rfl⟩ := ad_ r1
 obtain ⟨z2, m2, k2, rfl⟩ := ad_ r2
 obtain ⟨z3, m3, k3, rfl⟩ := ad_ r3
 obtain ⟨z4, m4, k4, rfl⟩ := ad_ r4
 refine au_ (n := 22) (vs := [(.agg #[(.slice z1 m1 k1), (.slice z2 m2 k2), (.slice z3 m3 k3), (.slice z4 m4 k4)]), (vi a1)]) Try.func18 rfl rfl rfl (ab_ (aa_ (wo_ (bh_ (v := (.agg #[(.slice z1 m1 k1), (.slice z2 m2 k2), (.slice z3 m3 k3), (.slice z4 m4 k4)])) rfl hI rfl (fun g1 w1 I1 => ?_)))))
 obtain ⟨S1, le1, I2, p1⟩ := Inv.boxFreeze (x := a0) I1 (Riddle.rv (s := a0) r1 r2 r3 r4)
 refine wa_ (v := (.slice none 0 0)) rfl rfl (wa_ (v := (vi 0)) rfl rfl (ae_ (ab_ (aa_ (wo_ (an_ (v := (pt_ g1)) (e := a0) rfl hn_ rfl (p1.at_ I2) (fun u1 hu1 => ?_)))))))
 obtain ⟨c5, c6, c7, c8, e6, r5, r6, r7, r8⟩ := Riddle.inv hu1
 subst e6
 obtain ⟨z5, m5, k5, rfl⟩ := ad_ r5
 obtain ⟨z6, m6, k6, rfl⟩ := ad_ r6
 obtain ⟨z7, m7, k7, rfl⟩ := ad_ r7
 obtain ⟨z8, m8, k8, rfl⟩ := ad_ r8
 refine wm_ (v := (vi a1)) rfl rfl ?_
 obtain ⟨x1, hx1, h⟩ := bnd h
 refine wo_ (bm_ (vs := [(.agg #[(.slice z5 m5 k5), (.slice z6 m6 k6), (.slice z7 m7 k7), (.slice z8 m8 k8)]), (vi a1)]) rfl ca52 rfl (bt_ rfl rfl) (hints_newLock_ok I2 (Riddle.rv (s := a0) r5 r6 r7 r8) hx1) (fun cv1 w2 S2 O1 le2 I3 hv1 => ?_))
 obtain ⟨c9, rfl, rfl, r9⟩ := hv1
 refine wm_ (v := (Value.tuple #[c9, (vi x1.2)])) rfl rfl (wo_ (bd_ (v := c9) rfl rfl rfl (wo_ (bd_ (v := (vi x1.2)) rfl rfl rfl (wa_ (v := c9) rfl rfl (wa_ (v := (vi x1.2)) rfl rfl (ae_ (ab_ (ab_ (aa_ (wm_ (v := (vi x1.2)) rfl rfl (wo_ (cd_ (a := x1.2) (b := 0) rfl rfl rfl (ae_ ?_))))))))))))))
 rcases ifs h with ⟨hc1, h⟩ | ⟨hc1, h⟩
 ·
  refine ai_ (b := x1.2 != 0) rfl hc1 (ab_ (aa_ (wm_ (v := (vi x1.2)) rfl rfl (wa_ (v := (.slice none 0 0)) rfl rfl (wa_ (v := (vi x1.2)) rfl rfl (ae_ (al_ ?_)))))))
  obtain rfl := sj h
  exact ⟨rfl, (Value.tuple #[(.slice none 0 0), (vi x1.2)]), (ox_ rfl rfl rfl), _, [], (le1.trans le2), I3, _, _, _, rfl, rfl, rv_nil⟩
 refine am_ (b := x1.2 != 0) rfl hc1 (av_ (ab_ (aa_ (wm_ (v := c9) rfl rfl ?_))))
 obtain ⟨x2, hx2, h⟩ := bnd h
 obtain ⟨x3, hx3, h⟩ := bnd h
 refine wo_ (bm_ (vs := [c9]) rfl ca53 rfl (fs_ rfl) (il_ I3 (kb_ r9 hx2) hx3) (fun cv2 w3 S3 O2 le3 I4 hv2 => ?_))
 obtain ⟨z9, m9, k9, rfl, rfl, r10⟩ := hv2
 refine wm_ (v := (vi a1)) rfl rfl ?_
 obtain ⟨x4, hx4, h⟩ := bnd h
 refine wo_ (aj_ (v := (.slice z9 m9 k9)) (i := a1) (e := x4) rfl Try.underlying38 my_ rfl r10 rfl hx4 (wo_ (an_ (v := (ah_ (.slice z9 m9 k9) (a1) (Enc.sz (List (List Int))))) (e := x4) rfl my_ rfl (r10.elem I4.in_ hx4) (fun u2 hu2 => ?_))))
 obtain ⟨z10, m10, k10, rfl⟩ := ad_ hu2
 refine wa_ (v := (.slice z10 m10 k10)) rfl rfl (wa_ (v := (vi 0)) rfl rfl (ae_ (al_ ?_)))
 obtain rfl := sj h
 exact ⟨rfl, (Value.tuple #[(.slice z10 m10 k10), (vi 0)]), (ox_ rfl rfl rfl), _, [], ((le1.trans le2).trans le3), I4, _, _, _, rfl, rfl, hu2⟩
end Go.Proofs.Ytlpdpeghgndmkaa.Pad
