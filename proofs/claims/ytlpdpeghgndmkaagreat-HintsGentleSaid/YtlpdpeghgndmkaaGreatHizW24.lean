/- A part of the proof: what the functions of the program compute, shown over the model. -/
import Derived.Test.YtlpdpeghgndmkaaGreatHizP
import Derived.Test.YtlpdpeghgndmkaaGreatHizW4
import Derived.Test.YtlpdpeghgndmkaaGreatHizW9
import Derived.Test.YtlpdpeghgndmkaaGreatHizW10
import Derived.KernelRfl
set_option linter.unusedVariables false
set_option maxHeartbeats 4000000
set_option maxRecDepth 100000
namespace Go.Proofs.YtlpdpeghgndmkaaGreat.Pad
open Go Go.Proofs
theorem hints_newLock_ok {w : World} {S : PH} {Fr : List HP} {a0 : Riddle} {v0 : Value} {a1 : Int} {r : (ORef Hints_room) × Int} (hI : Inv w S (Fr)) (h0_ : RV S v0 a0) (h : ht_ a0 a1 = some r) :
    Calls Tryz.prog 66 [v0, (Value.int .i64 (a1))].toArray w (mn_ S Fr (fun T_ v_ O_ => ∃ (c0_ : Value), v_ = (Value.tuple #[c0_, (Value.int .i64 (r.2))]) ∧ O_ = [] ∧ RV T_ c0_ r.1)) := by
 unfold ht_ at h
 obtain ⟨c1, c2, c3, c4, e1, r1, r2, r3, r4⟩ := Riddle.inv h0_
 subst e1
 obtain ⟨z1, m1, k1, rfl⟩ := ae_ r1
 obtain ⟨z2, m2, k2, rfl⟩ := ae_ r2
 obtain ⟨z3, m3, k3, rfl⟩ := ae_ r3
 obtain ⟨z4, m4, k4, rfl⟩ := ae_ r4
 refine au_ (n := 26) (vs := [(.agg #[(.slice z1 m1 k1), (.slice z2 m2 k2), (.slice z3 m3 k3), (.slice z4 m4 k4)]), (vi a1)]) Tryz.func66 rfl rfl rfl (ab_ (aa_ (wo_ (bh_ (v := (.agg #[(.slice z1 m1 k1), (.slice z2 m2 k2), (.slice z3 m3 k3), (.slice z4 m4 k4)])) rfl hI rfl (fun g1 w1 I1 => ?_)))))
 obtain ⟨S1, le1, I2, p1⟩ := Inv.boxFreeze (x := a0) I1 (Riddle.rv (s := a0) r1 r2 r3 r4)
 refine wa_ (v := (.pointer none)) rfl rfl (wa_ (v := (vi 0)) rfl rfl (ad_ (ab_ (aa_ (wo_ (an_ (v := (pt_ g1)) (e := a0) rfl jq_ rfl (p1.at_ I2) (fun u1 hu1 => ?_)))))))
 obtain ⟨c5, c6, c7, c8, e6, r5, r6, r7, r8⟩ := Riddle.inv hu1
 subst e6
 obtain ⟨z5, m5, k5, rfl⟩ := ae_ r5
 obtain ⟨z6, m6, k6, rfl⟩ := ae_ r6
 obtain ⟨z7, m7, k7, rfl⟩ := ae_ r7
 obtain ⟨z8, m8, k8, rfl⟩ := ae_ r8
 obtain ⟨x1, hx1, h⟩ := bnd h
 refine wo_ (bp_ (vs := [(.agg #[(.slice z5 m5 k5), (.slice z6 m6 k6), (.slice z7 m7 k7), (.slice z8 m8 k8)])]) rfl ca71 rfl (fp_ rfl) (fa_ I2 (Riddle.rv (s := a0) r5 r6 r7 r8) hx1) (fun cv1 w2 S2 O1 le2 I3 hv1 => ?_))
 obtain ⟨c9, rfl, rfl, r9⟩ := hv1
 refine wm_ (v := (Value.tuple #[c9, (vi x1.2)])) rfl rfl (wo_ (bc_ (v := c9) rfl rfl rfl (wo_ (bc_ (v := (vi x1.2)) rfl rfl rfl (wa_ (v := c9) rfl rfl (wa_ (v := (vi x1.2)) rfl rfl (ad_ (ab_ (ab_ (aa_ (wm_ (v := (vi x1.2)) rfl rfl (wo_ (bj_ (a := x1.2) (b := 0) rfl rfl rfl (wm_ (v := (vb (x1.2 == 0))) rfl rfl ?_))))))))))))))
 rcases ifs h with ⟨hc1, h⟩ | ⟨hc1, h⟩
 ·
  refine wk_ rfl rfl hc1 (ax_ (v := (vi a1)) rfl rfl (wk_ rfl rfl hc1 (ac_ (v := (pt_ g1)) rfl eb_ rfl ((p1.mono le2).at_ I3) (wk_ rfl rfl hc1 (an_ (v := (ag_ (pt_ g1) 0)) (e := a0.Locks) rfl pd_ rfl (((p1.mono le2).at_ I3).fld Riddle.fld0) (fun u2 hu2 => ?_))))))
  obtain ⟨z9, m9, k9, rfl⟩ := ae_ hu2
  refine wk_ rfl rfl hc1 (bb_ rfl Tryz.underlying22 rfl hu2 (wk_ rfl rfl hc1 (ea_ (a := (a0.Locks.length : Int)) (b := 1) rfl rfl rfl ?_)))
  obtain ⟨x2, hx2, h⟩ := bnd h
  refine wk_ rfl rfl hc1 (ap_ (vs := [(vi a1), (vi 0), (vi (w64 ((a0.Locks.length : Int) - 1)))]) (r := (vb x2)) rfl ca51 rfl (cv_ rfl rfl rfl) I3 (fun Fr_ hF_ => bs_ hF_  hx2) (fun w3 I4 => (wk_ rfl rfl hc1 (cd_ (b := x2) rfl rfl (wo_ (av_ (c := x1.2 == 0) (a := (vb (!x2))) rfl rfl hc1 rfl (ad_ ?_)))))))
  rcases ifs h with ⟨hc2, h⟩ | ⟨hc2, h⟩
  ·
   refine ai_ (b := !x2) rfl hc2 (ab_ (aa_ (wa_ (v := (.pointer none)) rfl rfl (wa_ (v := (vi 1)) rfl rfl (ad_ (ak_ ?_))))))
   obtain rfl := sj h
   exact ⟨rfl, (Value.tuple #[(.pointer none), (vi 1)]), (res2 rfl rfl rfl), _, [], (le1.trans le2), I4, _, rfl, rfl, kz_⟩
  refine am_ (b := !x2) rfl hc2 (aw_ (ab_ (aa_ (wm_ (v := c9) rfl rfl (wm_ (v := (vi x1.2)) rfl rfl (wa_ (v := c9) rfl rfl (wa_ (v := (vi x1.2)) rfl rfl (ad_ (ak_ ?_)))))))))
  obtain rfl := sj h
  exact ⟨rfl, (Value.tuple #[c9, (vi x1.2)]), (res2 rfl rfl rfl), _, [], (le1.trans le2), I4, _, rfl, rfl, r9⟩
 refine ws_ rfl rfl hc1 (ws_ rfl rfl hc1 (ws_ rfl rfl hc1 (ws_ rfl rfl hc1 (ws_ rfl rfl hc1 (ws_ rfl rfl hc1 (ws_ rfl rfl hc1 (wo_ (ao_ (c := x1.2 == 0) (b := (vb false)) rfl rfl hc1 rfl (ad_ (am_ (b := false) rfl rfl (aw_ (ab_ (aa_ (wm_ (v := c9) rfl rfl (wm_ (v := (vi x1.2)) rfl rfl (wa_ (v := c9) rfl rfl (wa_ (v := (vi x1.2)) rfl rfl (ad_ (ak_ ?_)))))))))))))))))))
 obtain rfl := sj h
 exact ⟨rfl, (Value.tuple #[c9, (vi x1.2)]), (res2 rfl rfl rfl), _, [], (le1.trans le2), I3, _, rfl, rfl, r9⟩
theorem hints_Possible_ok {w : World} {S : PH} {Fr : List HP} {a0 : Riddle} {v0 : Value} {a1 : Int} {r : (List (List Int)) × Int} (hI : Inv w S (Fr)) (h0_ : RV S v0 a0) (h : go_ a0 a1 = some r) :
    Calls Tryz.prog 29 [v0, (Value.int .i64 (a1))].toArray w (mn_ S Fr (fun T_ v_ O_ => ∃ (a0_ : Option Addr) (n0_ k0_ : Nat), v_ = (Value.tuple #[(Value.slice a0_ n0_ k0_), (Value.int .i64 (r.2))]) ∧ O_ = [] ∧ RV T_ (Value.slice a0_ n0_ k0_) r.1)) := by
 unfold go_ at h
 obtain ⟨c1, c2, c3, c4, e1, r1, r2, r3, r4⟩ := Riddle.inv h0_
 subst e1
 obtain ⟨z1, m1, k1, rfl⟩ := ae_ r1
 obtain ⟨z2, m2, k2, rfl⟩ := ae_ r2
 obtain ⟨z3, m3, k3, rfl⟩ := ae_ r3
 obtain ⟨z4, m4, k4, rfl⟩ := ae_ r4
 refine au_ (n := 22) (vs := [(.agg #[(.slice z1 m1 k1), (.slice z2 m2 k2), (.slice z3 m3 k3), (.slice z4 m4 k4)]), (vi a1)]) Tryz.func29 rfl rfl rfl (ab_ (aa_ (wo_ (bh_ (v := (.agg #[(.slice z1 m1 k1), (.slice z2 m2 k2), (.slice z3 m3 k3), (.slice z4 m4 k4)])) rfl hI rfl (fun g1 w1 I1 => ?_)))))
 obtain ⟨S1, le1, I2, p1⟩ := Inv.boxFreeze (x := a0) I1 (Riddle.rv (s := a0) r1 r2 r3 r4)
 refine wa_ (v := (.slice none 0 0)) rfl rfl (wa_ (v := (vi 0)) rfl rfl (ad_ (ab_ (aa_ (wo_ (an_ (v := (pt_ g1)) (e := a0) rfl jq_ rfl (p1.at_ I2) (fun u1 hu1 => ?_)))))))
 obtain ⟨c5, c6, c7, c8, e6, r5, r6, r7, r8⟩ := Riddle.inv hu1
 subst e6
 obtain ⟨z5, m5, k5, rfl⟩ := ae_ r5
 obtain ⟨z6, m6, k6, rfl⟩ := ae_ r6
 obtain ⟨z7, m7, k7, rfl⟩ := ae_ r7
 obtain ⟨z8, m8, k8, rfl⟩ := ae_ r8
 refine wm_ (v := (vi a1)) rfl rfl ?_
 obtain ⟨x1, hx1, h⟩ := bnd h
 refine wo_ (bp_ (vs := [(.agg #[(.slice z5 m5 k5), (.slice z6 m6 k6), (.slice z7 m7 k7), (.slice z8 m8 k8)]), (vi a1)]) rfl ca66 rfl (bt_ rfl rfl) (hints_newLock_ok I2 (Riddle.rv (s := a0) r5 r6 r7 r8) hx1) (fun cv1 w2 S2 O1 le2 I3 hv1 => ?_))
 obtain ⟨c9, rfl, rfl, r9⟩ := hv1
 refine wm_ (v := (Value.tuple #[c9, (vi x1.2)])) rfl rfl (wo_ (bc_ (v := c9) rfl rfl rfl (wo_ (bc_ (v := (vi x1.2)) rfl rfl rfl (wa_ (v := c9) rfl rfl (wa_ (v := (vi x1.2)) rfl rfl (ad_ (ab_ (ab_ (aa_ (wm_ (v := (vi x1.2)) rfl rfl (wo_ (ce_ (a := x1.2) (b := 0) rfl rfl rfl (ad_ ?_))))))))))))))
 rcases ifs h with ⟨hc1, h⟩ | ⟨hc1, h⟩
 ·
  refine ai_ (b := x1.2 != 0) rfl hc1 (ab_ (aa_ (wm_ (v := (vi x1.2)) rfl rfl (wa_ (v := (.slice none 0 0)) rfl rfl (wa_ (v := (vi x1.2)) rfl rfl (ad_ (ak_ ?_)))))))
  obtain rfl := sj h
  exact ⟨rfl, (Value.tuple #[(.slice none 0 0), (vi x1.2)]), (res2 rfl rfl rfl), _, [], (le1.trans le2), I3, _, _, _, rfl, rfl, rv_nil⟩
 refine am_ (b := x1.2 != 0) rfl hc1 (aw_ (ab_ (aa_ (wm_ (v := c9) rfl rfl ?_))))
 obtain ⟨x2, hx2, h⟩ := bnd h
 obtain ⟨x3, hx3, h⟩ := bnd h
 refine wo_ (bp_ (vs := [c9]) rfl ca67 rfl (fp_ rfl) (ic_ I3 (mq_ r9 hx2) hx3) (fun cv2 w3 S3 O2 le3 I4 hv2 => ?_))
 obtain ⟨z9, m9, k9, rfl, rfl, r10⟩ := hv2
 refine wm_ (v := (vi a1)) rfl rfl ?_
 obtain ⟨x4, hx4, h⟩ := bnd h
 refine wo_ (aj_ (v := (.slice z9 m9 k9)) (i := a1) (e := x4) rfl Tryz.underlying55 mm_ rfl r10 rfl hx4 (wo_ (an_ (v := (ah_ (.slice z9 m9 k9) (a1) (Enc.sz (List (List Int))))) (e := x4) rfl mm_ rfl (r10.elem I4.in_ hx4) (fun u2 hu2 => ?_))))
 obtain ⟨z10, m10, k10, rfl⟩ := ae_ hu2
 refine wa_ (v := (.slice z10 m10 k10)) rfl rfl (wa_ (v := (vi 0)) rfl rfl (ad_ (ak_ ?_)))
 obtain rfl := sj h
 exact ⟨rfl, (Value.tuple #[(.slice z10 m10 k10), (vi 0)]), (res2 rfl rfl rfl), _, [], ((le1.trans le2).trans le3), I4, _, _, _, rfl, rfl, hu2⟩
end Go.Proofs.YtlpdpeghgndmkaaGreat.Pad
