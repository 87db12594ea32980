/- A part of the proof: what the functions of the program compute, shown over the model. -/
import Derived.Test.YtlpdpeghgndmkaaGreatHizP
import Derived.Test.YtlpdpeghgndmkaaGreatHizW1
import Derived.Test.YtlpdpeghgndmkaaGreatHizW4
import Derived.Test.YtlpdpeghgndmkaaGreatHizW9
import Derived.Test.YtlpdpeghgndmkaaGreatHizW10
import Derived.KernelRfl
set_option linter.unusedVariables false
set_option maxHeartbeats 4000000
set_option maxRecDepth 100000
namespace Go.Proofs.YtlpdpeghgndmkaaGreat.Pad
open Go Go.Proofs
theorem mk_ {w : World} {S : PH} {Fr : List HP}  {r : Bool} (hI : Inv w S (Fr))  (h : fs_  = some r) :
    Calls Tryz.prog 10 [].toArray w (bw_ S Fr (Value.bool (r))) := by
 unfold fs_ at h
 refine ao_ (n := 32) Tryz.func10 rfl rfl rfl (ab_ (aa_ (wa_ (v := (vb false)) rfl rfl (ad_ (ab_ (aa_ ?_))))))
 obtain ⟨x1, hx1, h⟩ := bnd h
 refine wo_ (cl_ ca36 rfl (nt_ hI  hx1) args0 (fun cv1 w1 S1 O1 le1 I1 hv1 => ?_))
 obtain ⟨c1, rfl, rfl, r1⟩ := hv1
 obtain ⟨c2, c3, c4, c5, e1, r2, r3, r4, r5⟩ := Riddle.inv r1
 subst e1
 obtain ⟨z1, m1, k1, rfl⟩ := ac_ r2
 obtain ⟨z2, m2, k2, rfl⟩ := ac_ r3
 obtain ⟨z3, m3, k3, rfl⟩ := ac_ r4
 obtain ⟨z4, m4, k4, rfl⟩ := ac_ r5
 obtain ⟨x2, hx2, h⟩ := bnd h
 refine wo_ (cv_ ca35 rfl I1 (fun Fr_ hF_ => vb_ hF_ (Riddle.rv (s := x1) r2 r3 r4 r5) hx2) (em_ rfl) (fun w2 I2 => (wm_ (v := (Value.tuple #[(vi x2.1), (vi x2.2)])) rfl rfl (wo_ (bg_ (v := (vi x2.1)) rfl rfl rfl (wo_ (bg_ (v := (vi x2.2)) rfl rfl rfl (wa_ (v := (vi x2.1)) rfl rfl (wa_ (v := (vi x2.2)) rfl rfl (ad_ (ab_ (aa_ ?_))))))))))))
 obtain ⟨x3, hx3, h⟩ := bnd h
 refine wo_ (cl_ ca36 rfl (nt_ I2  hx3) args0 (fun cv2 w3 S2 O2 le2 I3 hv2 => ?_))
 obtain ⟨c6, rfl, rfl, r6⟩ := hv2
 obtain ⟨c7, c8, c9, c10, e6, r7, r8, r9, r10⟩ := Riddle.inv r6
 subst e6
 obtain ⟨z5, m5, k5, rfl⟩ := ac_ r7
 obtain ⟨z6, m6, k6, rfl⟩ := ac_ r8
 obtain ⟨z7, m7, k7, rfl⟩ := ac_ r9
 obtain ⟨z8, m8, k8, rfl⟩ := ac_ r10
 refine wo_ (hl_ (qs := [(0, #[(vi 1)]), (3, #[(vi 3)])]) (c := #[(vi 1), (vi 0), (vi 0), (vi 3), (vi 0), sn, (vb false)]) rfl st30 ⟨rfl, rfl, ⟨rfl, rfl, trivial⟩⟩ rfl (wo_ (hl_ (qs := [(1, #[(vi 1), (vi 0), (vi 0), (vi 3), (vi 0), sn, (vb false)])]) (c := #[(vi 0), (vi 1), (vi 0), (vi 0), (vi 3), (vi 0), sn, (vb false)]) rfl st32 ⟨rfl, rfl, trivial⟩ rfl ?_)))
 obtain ⟨x4, hx4, h⟩ := bnd h
 refine wo_ (cl_ ca16 rfl (vf_ I3 (Riddle.rv (s := x3) r7 r8 r9 r10) (Aid.rv (s := (⟨0, (⟨1, 0, 0, 3, 0, ([] : (List Int)), false⟩ : Clue)⟩ : Aid)) rv_nil) hx4) (br_ rfl rfl) (fun cv3 w4 S3 O3 le3 I4 hv3 => ?_))
 obtain ⟨z9, m9, k9, rfl, rfl⟩ := hv3
 refine wm_ (v := (Value.tuple #[(.slice z9 m9 k9), (vi x4.2)])) rfl rfl (wo_ (bg_ (v := (.slice z9 m9 k9)) rfl rfl rfl (wo_ (bg_ (v := (vi x4.2)) rfl rfl rfl (wa_ (v := (.slice z9 m9 k9)) rfl rfl (wa_ (v := (vi x4.2)) rfl rfl (ad_ (ab_ (aa_ (wm_ (v := (vi x2.2)) rfl rfl (wo_ (bm_ rfl rfl rfl (wm_ (v := (vb (x2.2 == 0))) rfl rfl ?_)))))))))))))
 rcases ifs h with ⟨hc1, h⟩ | ⟨hc1, h⟩
 ·
  refine wk_ rfl rfl hc1 (aq_ (v := (vi x4.2)) rfl rfl (wk_ rfl rfl hc1 (bm_ rfl rfl rfl (wo_ (aw_ (a := (vb (x4.2 == 0))) rfl rfl hc1 rfl (wm_ (v := (vb (x4.2 == 0))) rfl rfl ?_))))))
  rcases ifs h with ⟨hc2, h⟩ | ⟨hc2, h⟩
  ·
   refine wk_ rfl rfl hc2 (aq_ (v := (vi x2.1)) rfl rfl (wk_ rfl rfl hc2 (bm_ rfl rfl rfl (wo_ (aw_ (a := (vb (x2.1 == 3))) rfl rfl hc2 rfl (wm_ (v := (vb (x2.1 == 3))) rfl rfl ?_))))))
   rcases ifs h with ⟨hc3, h⟩ | ⟨hc3, h⟩
   ·
    refine wk_ rfl rfl hc3 (aq_ (v := (.slice z9 m9 k9)) rfl rfl (wk_ rfl rfl hc3 (bf_ (vs := [(vi 1)]) (r := ([1] : List Int)) rfl Tryz.underlying28 el3 (fc_ rfl) rfl (by decide) (by decide) ⟨(dv_ _), trivial⟩ I4 (fun u1 w5 I5 => ?_))))
    obtain ⟨z10, m10, k10, e11⟩ := bc_ I5
    subst e11
    obtain ⟨x5, hx5, h⟩ := bnd h
    obtain ⟨S4, Fr1, le4, I6, r11, r12, bk1⟩ := Inv.lend2 (I5.pull 1)
    refine wk_ rfl rfl hc3 (cl_ ca18 rfl (gv_ I6 r11 r12 hx5) (br_ rfl rfl) (fun cv4 w6 S5 O4 le5 I8 hv4 => ?_))
    obtain ⟨rfl, rfl⟩ := hv4
    have I7 := bk1 [] trivial I8 le5
    refine wo_ (aw_ (a := (vb x5)) rfl rfl hc3 rfl (wa_ (v := (vb x5)) rfl rfl (ad_ (ak_ ?_))))
    obtain rfl := sj h
    exact ⟨rfl, (vb x5), (bo_ rfl rfl), _, [], ((le1.trans le2).trans le3), ((I7).drop).drop, rfl, rfl⟩
   refine ws_ rfl rfl hc3 (ws_ rfl rfl hc3 (ws_ rfl rfl hc3 (wo_ (ap_ (b := (vb false)) rfl rfl hc3 rfl (wa_ (v := (vb false)) rfl rfl (ad_ (ak_ ?_)))))))
   obtain rfl := sj h
   exact ⟨rfl, (vb false), (bo_ rfl rfl), _, [], ((le1.trans le2).trans le3), (I4).drop, rfl, rfl⟩
  refine ws_ rfl rfl hc2 (ws_ rfl rfl hc2 (wo_ (ap_ (b := (vb false)) rfl rfl hc2 rfl (wm_ (v := (vb false)) rfl rfl (ws_ rfl rfl rfl (ws_ rfl rfl rfl (ws_ rfl rfl rfl (wo_ (ap_ (b := (vb false)) rfl rfl rfl rfl (wa_ (v := (vb false)) rfl rfl (ad_ (ak_ ?_))))))))))))
  obtain rfl := sj h
  exact ⟨rfl, (vb false), (bo_ rfl rfl), _, [], ((le1.trans le2).trans le3), (I4).drop, rfl, rfl⟩
 refine ws_ rfl rfl hc1 (ws_ rfl rfl hc1 (wo_ (ap_ (b := (vb false)) rfl rfl hc1 rfl (wm_ (v := (vb false)) rfl rfl (ws_ rfl rfl rfl (ws_ rfl rfl rfl (wo_ (ap_ (b := (vb false)) rfl rfl rfl rfl (wm_ (v := (vb false)) rfl rfl (ws_ rfl rfl rfl (ws_ rfl rfl rfl (ws_ rfl rfl rfl (wo_ (ap_ (b := (vb false)) rfl rfl rfl rfl (wa_ (v := (vb false)) rfl rfl (ad_ (ak_ ?_)))))))))))))))))
 obtain rfl := sj h
 exact ⟨rfl, (vb false), (bo_ rfl rfl), _, [], ((le1.trans le2).trans le3), (I4).drop, rfl, rfl⟩
end Go.Proofs.YtlpdpeghgndmkaaGreat.Pad
