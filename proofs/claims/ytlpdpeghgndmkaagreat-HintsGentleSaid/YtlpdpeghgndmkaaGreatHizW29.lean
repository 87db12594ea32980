/- A part of the proof: what the functions of the program compute, shown over the model. -/
import Derived.Test.YtlpdpeghgndmkaaGreatHizP
import Derived.Test.YtlpdpeghgndmkaaGreatHizW4
import Derived.Test.YtlpdpeghgndmkaaGreatHizW10
import Derived.Test.YtlpdpeghgndmkaaGreatHizW11
import Derived.Test.YtlpdpeghgndmkaaGreatHizW18
import Derived.Test.YtlpdpeghgndmkaaGreatHizW20
import Derived.Test.YtlpdpeghgndmkaaGreatHizW23
import Derived.Test.YtlpdpeghgndmkaaGreatHizW24
import Derived.KernelRfl
set_option linter.unusedVariables false
set_option maxHeartbeats 4000000
set_option maxRecDepth 100000
namespace Go.Proofs.YtlpdpeghgndmkaaGreat.Pad
open Go Go.Proofs
theorem law07_has_ok {w : World} {S : PH} {Fr : List HP} {a0 : (List Int)} {v0 : Value} {a1 : Int} {r : Bool} (hI : Inv w S (Fr)) (h0_ : RV S v0 a0) (h : lo_ a0 a1 = some r) :
    Calls Tryz.prog 30 [v0, (Value.int .i64 (a1))].toArray w (cb_ S Fr (Value.bool (r))) := by
 unfold lo_ at h
 obtain ⟨z1, m1, k1, rfl⟩ := ae_ h0_
 refine au_ (n := 18) (vs := [(.slice z1 m1 k1), (vi a1)]) Tryz.func30 rfl rfl rfl (ab_ (aa_ (wa_ (v := (vb false)) rfl rfl (ad_ (ab_ (ab_ (aa_ (wa_ (v := (vi 0)) rfl rfl (ad_ ?_)))))))))
 have hk1 : a0.length ≤ 9223372036854775807 := (dy_ h0_)
 obtain ⟨o2, hrun1, h⟩ := bnd h
 refine bu_ (fun f w => ∃ out1, o2 = Sum.inl out1 ∧ Inv w S (Fr) ∧ f 0 = (.slice z1 m1 k1) ∧ f 1 = (vi a1) ∧ f.ds = []) ?_ ?_
 ·
  refine ay_ ?_
  refine el_ (I := fun (i1 : Nat) (s1 : Unit) (f : Frm) (w : World) => Inv w S (Fr) ∧ f 0 = (.slice z1 m1 k1) ∧ f 1 = (vi a1) ∧ f 5 = (vi (i1 : Int)) ∧ f.ds = []) hrun1 ⟨hI, rfl, rfl, rfl, rfl⟩ ?_ ?_
  ·
   rintro i1 s1 f w o1 hlt1 hI1 h1 hout1
   obtain ⟨I3, e8, e9, e10, ed3⟩ := hI1
   refine ab_ (ab_ (aa_ (wm_ rfl e10 (wm_ rfl e8 (wo_ (bb_ rfl Tryz.underlying28 rfl h0_ (wo_ (bg_ (a := (i1 : Int)) (b := (a0.length : Int)) rfl rfl rfl (ad_ (ai_ (b := decide ((i1 : Int) < (a0.length : Int))) rfl (gj_ hlt1) (aw_ (ab_ (ay_ (ab_ (aa_ (wm_ rfl e8 (wm_ rfl e10 ?_)))))))))))))))))
   obtain ⟨x3, hx3, h1⟩ := bnd h1
   refine wo_ (aj_ (v := (.slice z1 m1 k1)) (i := (i1 : Int)) (e := x3) rfl Tryz.underlying28 sh3 rfl h0_ rfl hx3 (wo_ (af_ (v := (ah_ (.slice z1 m1 k1) ((i1 : Int)) (Enc.sz Int))) (e := x3) rfl sh3 rfl (h0_.elem I3.in_ hx3) (wm_ rfl e9 (wo_ (bj_ (a := x3) (b := a1) rfl rfl rfl (ad_ ?_)))))))
   rcases ifs h1 with ⟨hc3, h1⟩ | ⟨hc3, h1⟩
   ·
    refine ai_ (b := x3 == a1) rfl hc3 (ab_ (aa_ (wa_ (v := (vb true)) rfl rfl (ad_ (ak_ ?_)))))
    obtain rfl := sj h1
    obtain rfl := (hout1 _ rfl)
    have h2 := h
    obtain rfl := sj h2
    exact ⟨ed3, (vb true), (bo_ rfl rfl), _, [], lr, I3, rfl, rfl⟩
   refine am_ (b := x3 == a1) rfl hc3 (aw_ (aa_ (wm_ rfl e10 (wo_ (bq_ (a := (i1 : Int)) (b := 1) rfl rfl rfl (wa_ (v := (vi (w64 ((i1 : Int) + 1)))) rfl rfl (ad_ ?_)))))))
   obtain rfl := sj h1
   exact ⟨_, rfl, I3, e8, e9, (bn_ hlt1 hk1), ed3⟩
  rintro s2 f w hs1 hI2
  obtain ⟨I4, e11, e12, e13, ed4⟩ := hI2
  refine ab_ (ab_ (aa_ (wm_ rfl e13 (wm_ rfl e11 (wo_ (bb_ rfl Tryz.underlying28 rfl h0_ (wo_ (bg_ (a := (a0.length : Int)) (b := (a0.length : Int)) rfl rfl rfl (ad_ (am_ (b := decide ((a0.length : Int) < (a0.length : Int))) rfl (gk_ _) (bm_ ?_)))))))))))
  exact ⟨s2, hs1, I4, e11, e12, ed4⟩
 rintro f w ⟨out1, rfl, I5, e14, e15, ed5⟩
 have h := ei_ h
 refine ab_ (aa_ (wa_ (v := (vb false)) rfl rfl (ad_ (ak_ ?_))))
 obtain rfl := sj h
 exact ⟨ed5, (vb false), (bo_ rfl rfl), _, [], lr, I5, rfl, rfl⟩
theorem nv_ {w : World} {S : PH} {Fr : List HP} {a0 : Riddle} {v0 : Value} {a1 : (List Aid)} {v1 : Value} {a2 : Int} {r : Bool} (hI : Inv w S (Fr)) (h0_ : RV S v0 a0) (h1_ : RV S v1 a1) (h : gb_ a0 a1 a2 = some r) :
    Calls Tryz.prog 7 [v0, v1, (Value.int .i64 (a2))].toArray w (cb_ S Fr (Value.bool (r))) := by
 unfold gb_ at h
 obtain ⟨c1, c2, c3, c4, e1, r1, r2, r3, r4⟩ := Riddle.inv h0_
 subst e1
 obtain ⟨z1, m1, k1, rfl⟩ := ae_ r1
 obtain ⟨z2, m2, k2, rfl⟩ := ae_ r2
 obtain ⟨z3, m3, k3, rfl⟩ := ae_ r3
 obtain ⟨z4, m4, k4, rfl⟩ := ae_ r4
 obtain ⟨z5, m5, k5, rfl⟩ := ae_ h1_
 refine au_ (n := 204) (vs := [(.agg #[(.slice z1 m1 k1), (.slice z2 m2 k2), (.slice z3 m3 k3), (.slice z4 m4 k4)]), (.slice z5 m5 k5), (vi a2)]) Tryz.func7 rfl rfl rfl (ab_ (aa_ (wo_ (bh_ (v := (.agg #[(.slice z1 m1 k1), (.slice z2 m2 k2), (.slice z3 m3 k3), (.slice z4 m4 k4)])) rfl hI rfl (fun g1 w1 I1 => ?_)))))
 obtain ⟨S1, le1, I2, p1⟩ := Inv.boxFreeze (x := a0) I1 (Riddle.rv (s := a0) r1 r2 r3 r4)
 refine wa_ (v := (vb false)) rfl rfl (ad_ (ab_ (ab_ (aa_ (wo_ (an_ (v := (pt_ g1)) (e := a0) rfl jq_ rfl (p1.at_ I2) (fun u2 hu2 => ?_)))))))
 obtain ⟨c9, c10, c11, c12, e12, r9, r10, r11, r12⟩ := Riddle.inv hu2
 subst e12
 obtain ⟨z10, m10, k10, rfl⟩ := ae_ r9
 obtain ⟨z11, m11, k11, rfl⟩ := ae_ r10
 obtain ⟨z12, m12, k12, rfl⟩ := ae_ r11
 obtain ⟨z13, m13, k13, rfl⟩ := ae_ r12
 obtain ⟨x4, hx4, h⟩ := bnd h
 refine wo_ (ap_ (vs := [(.agg #[(.slice z10 m10 k10), (.slice z11 m11 k11), (.slice z12 m12 k12), (.slice z13 m13 k13)])]) (r := (vb x4)) rfl ca9 rfl (fp_ rfl) I2 (fun Fr_ hF_ => law07_Large_ok hF_ (Riddle.rv (s := a0) r9 r10 r11 r12) hx4) (fun w5 I6 => (wm_ (v := (vb x4)) rfl rfl ?_)))
 rcases ifs h with ⟨hc3, h⟩ | ⟨hc3, h⟩
 ·
  refine ws_ rfl rfl hc3 (ws_ rfl rfl hc3 (ws_ rfl rfl hc3 (wo_ (av_ (c := x4) (a := (vb true)) rfl rfl hc3 rfl (ad_ (ai_ (b := true) rfl rfl (ab_ (aa_ ?_))))))))
  obtain ⟨x5, hx5, h⟩ := bnd h
  refine wo_ (ap_ (vs := []) (r := (vb x5)) rfl ca10 rfl args0 I6 (fun Fr_ hF_ => gn_ hF_  hx5) (fun w6 I7 => (wa_ (v := (vb x5)) rfl rfl (ad_ (ak_ ?_)))))
  obtain rfl := sj h
  exact ⟨rfl, (vb x5), (bo_ rfl rfl), _, [], le1, I7, rfl, rfl⟩
 refine wk_ rfl rfl hc3 (ax_ (v := (.slice z5 m5 k5)) rfl rfl (wk_ rfl rfl hc3 (bb_ rfl Tryz.underlying45 rfl (h1_.mono le1) (wk_ rfl rfl hc3 (ln_ (a := (a1.length : Int)) (b := 6) rfl rfl rfl (wo_ (ao_ (c := x4) (b := (vb (decide (6 < (a1.length : Int))))) rfl rfl hc3 rfl (ad_ ?_))))))))
 rcases ifs h with ⟨hc4, h⟩ | ⟨hc4, h⟩
 ·
  refine ai_ (b := decide (6 < (a1.length : Int))) rfl hc4 (ab_ (aa_ ?_))
  obtain ⟨x6, hx6, h⟩ := bnd h
  refine wo_ (ap_ (vs := []) (r := (vb x6)) rfl ca10 rfl args0 I6 (fun Fr_ hF_ => gn_ hF_  hx6) (fun w7 I8 => (wa_ (v := (vb x6)) rfl rfl (ad_ (ak_ ?_)))))
  obtain rfl := sj h
  exact ⟨rfl, (vb x6), (bo_ rfl rfl), _, [], le1, I8, rfl, rfl⟩
 refine am_ (b := decide (6 < (a1.length : Int))) rfl hc4 (aw_ (ab_ (aa_ (wo_ (an_ (v := (pt_ g1)) (e := a0) rfl jq_ rfl (p1.at_ I6) (fun u3 hu3 => ?_))))))
 obtain ⟨c13, c14, c15, c16, e17, r13, r14, r15, r16⟩ := Riddle.inv hu3
 subst e17
 obtain ⟨z14, m14, k14, rfl⟩ := ae_ r13
 obtain ⟨z15, m15, k15, rfl⟩ := ae_ r14
 obtain ⟨z16, m16, k16, rfl⟩ := ae_ r15
 obtain ⟨z17, m17, k17, rfl⟩ := ae_ r16
 refine wm_ (v := (.slice z5 m5 k5)) rfl rfl (wm_ (v := (vi a2)) rfl rfl ?_)
 obtain ⟨x7, hx7, h⟩ := bnd h
 refine wo_ (bp_ (vs := [(.agg #[(.slice z14 m14 k14), (.slice z15 m15 k15), (.slice z16 m16 k16), (.slice z17 m17 k17)]), (.slice z5 m5 k5), (vi a2)]) rfl ca23 rfl (cv_ rfl rfl rfl) (hints_Allowed_ok I6 (Riddle.rv (s := a0) r13 r14 r15 r16) (h1_.mono le1) hx7) (fun cv1 w8 S2 O1 le2 I9 hv1 => ?_))
 obtain ⟨z18, m18, k18, rfl, rfl⟩ := hv1
 obtain ⟨S3, le3, I10, r17⟩ := Inv.rowFreeze I9
 refine wm_ (v := (Value.tuple #[(.slice z18 m18 k18), (vi x7.2)])) rfl rfl (wo_ (bc_ (v := (.slice z18 m18 k18)) rfl rfl rfl (wo_ (bc_ (v := (vi x7.2)) rfl rfl rfl (wa_ (v := (.slice z18 m18 k18)) rfl rfl (wa_ (v := (vi x7.2)) rfl rfl (ad_ (ab_ (aa_ (wo_ (an_ (v := (pt_ g1)) (e := a0) rfl jq_ rfl ((p1.mono (le2.trans le3)).at_ I10) (fun u4 hu4 => ?_))))))))))))
 obtain ⟨c17, c18, c19, c20, e22, r18, r19, r20, r21⟩ := Riddle.inv hu4
 subst e22
 obtain ⟨z19, m19, k19, rfl⟩ := ae_ r18
 obtain ⟨z20, m20, k20, rfl⟩ := ae_ r19
 obtain ⟨z21, m21, k21, rfl⟩ := ae_ r20
 obtain ⟨z22, m22, k22, rfl⟩ := ae_ r21
 refine wm_ (v := (.slice z5 m5 k5)) rfl rfl (wm_ (v := (vi a2)) rfl rfl ?_)
 obtain ⟨x8, hx8, h⟩ := bnd h
 refine wo_ (ap_ (vs := [(.agg #[(.slice z19 m19 k19), (.slice z20 m20 k20), (.slice z21 m21 k21), (.slice z22 m22 k22)]), (.slice z5 m5 k5), (vi a2)]) (r := (Value.tuple #[(vi x8.1), (vi x8.2)])) rfl ca25 rfl (cv_ rfl rfl rfl) I10 (fun Fr_ hF_ => hints_Gentle_ok hF_ (Riddle.rv (s := a0) r18 r19 r20 r21) (h1_.mono ((le1.trans le2).trans le3)) hx8) (fun w9 I11 => (wm_ (v := (Value.tuple #[(vi x8.1), (vi x8.2)])) rfl rfl (wo_ (bc_ (v := (vi x8.1)) rfl rfl rfl (wo_ (bc_ (v := (vi x8.2)) rfl rfl rfl (wa_ (v := (vi x8.1)) rfl rfl (wa_ (v := (vi x8.2)) rfl rfl (ad_ (ab_ (aa_ (wo_ (an_ (v := (pt_ g1)) (e := a0) rfl jq_ rfl ((p1.mono (le2.trans le3)).at_ I11) (fun u5 hu5 => ?_)))))))))))))))
 obtain ⟨c21, c22, c23, c24, e27, r22, r23, r24, r25⟩ := Riddle.inv hu5
 subst e27
 obtain ⟨z23, m23, k23, rfl⟩ := ae_ r22
 obtain ⟨z24, m24, k24, rfl⟩ := ae_ r23
 obtain ⟨z25, m25, k25, rfl⟩ := ae_ r24
 obtain ⟨z26, m26, k26, rfl⟩ := ae_ r25
 refine wm_ (v := (.slice z5 m5 k5)) rfl rfl (wm_ (v := (vi a2)) rfl rfl ?_)
 obtain ⟨x9, hx9, h⟩ := bnd h
 refine wo_ (ap_ (vs := [(.agg #[(.slice z23 m23 k23), (.slice z24 m24 k24), (.slice z25 m25 k25), (.slice z26 m26 k26)]), (.slice z5 m5 k5), (vi a2)]) (r := (Value.tuple #[(vi x9.1), (vi x9.2)])) rfl ca27 rfl (cv_ rfl rfl rfl) I11 (fun Fr_ hF_ => hints_Strong_ok hF_ (Riddle.rv (s := a0) r22 r23 r24 r25) (h1_.mono ((le1.trans le2).trans le3)) hx9) (fun w10 I12 => (wm_ (v := (Value.tuple #[(vi x9.1), (vi x9.2)])) rfl rfl (wo_ (bc_ (v := (vi x9.1)) rfl rfl rfl (wo_ (bc_ (v := (vi x9.2)) rfl rfl rfl (wa_ (v := (vi x9.1)) rfl rfl (wa_ (v := (vi x9.2)) rfl rfl (ad_ (ab_ (ab_ (aa_ (wm_ (v := (vi x7.2)) rfl rfl (wo_ (ce_ (a := x7.2) (b := 0) rfl rfl rfl (ad_ ?_)))))))))))))))))
 rcases ifs h with ⟨hc5, h⟩ | ⟨hc5, h⟩
 ·
  refine ai_ (b := x7.2 != 0) rfl hc5 (ab_ (aa_ (wm_ (v := (vi x7.2)) rfl rfl (wm_ (v := (vi x8.2)) rfl rfl (wo_ (bj_ (a := x7.2) (b := x8.2) rfl rfl rfl (wm_ (v := (vb (x7.2 == x8.2))) rfl rfl ?_)))))))
  rcases ifs h with ⟨hc6, h⟩ | ⟨hc6, h⟩
  ·
   refine wk_ rfl rfl hc6 (ax_ (v := (vi x7.2)) rfl rfl (wk_ rfl rfl hc6 (ax_ (v := (vi x9.2)) rfl rfl (wk_ rfl rfl hc6 (bj_ (a := x7.2) (b := x9.2) rfl rfl rfl (wo_ (av_ (c := x7.2 == x8.2) (a := (vb (x7.2 == x9.2))) rfl rfl hc6 rfl (wm_ (v := (vb (x7.2 == x9.2))) rfl rfl ?_))))))))
   rcases ifs h with ⟨hc7, h⟩ | ⟨hc7, h⟩
   ·
    obtain ⟨x10, hx10, h⟩ := bnd h
    refine wk_ rfl rfl hc7 (ap_ (vs := []) (r := (vb x10)) rfl ca10 rfl args0 I12 (fun Fr_ hF_ => gn_ hF_  hx10) (fun w11 I13 => (wo_ (av_ (c := x7.2 == x9.2) (a := (vb x10)) rfl rfl hc7 rfl (wa_ (v := (vb x10)) rfl rfl (ad_ (ak_ ?_)))))))
    obtain rfl := sj h
    exact ⟨rfl, (vb x10), (bo_ rfl rfl), _, [], ((le1.trans le2).trans le3), I13, rfl, rfl⟩
   refine ws_ rfl rfl hc7 (wo_ (ao_ (c := x7.2 == x9.2) (b := (vb false)) rfl rfl hc7 rfl (wa_ (v := (vb false)) rfl rfl (ad_ (ak_ ?_)))))
   obtain rfl := sj h
   exact ⟨rfl, (vb false), (bo_ rfl rfl), _, [], ((le1.trans le2).trans le3), I12, rfl, rfl⟩
  refine ws_ rfl rfl hc6 (ws_ rfl rfl hc6 (ws_ rfl rfl hc6 (wo_ (ao_ (c := x7.2 == x8.2) (b := (vb false)) rfl rfl hc6 rfl (wm_ (v := (vb false)) rfl rfl (ws_ (c := false) rfl rfl rfl (wo_ (ao_ (c := false) (b := (vb false)) rfl rfl rfl rfl (wa_ (v := (vb false)) rfl rfl (ad_ (ak_ ?_)))))))))))
  obtain rfl := sj h
  exact ⟨rfl, (vb false), (bo_ rfl rfl), _, [], ((le1.trans le2).trans le3), I12, rfl, rfl⟩
 refine am_ (b := x7.2 != 0) rfl hc5 (aw_ (ab_ (ab_ (aa_ (wm_ (v := (.slice z18 m18 k18)) rfl rfl (wo_ (bb_ rfl Tryz.underlying28 rfl r17 (wo_ (bj_ (a := (x7.1.length : Int)) (b := 0) rfl rfl rfl (ad_ ?_))))))))))
 rcases ifs h with ⟨hc8, h⟩ | ⟨hc8, h⟩
 ·
  refine ai_ (b := (x7.1.length : Int) == 0) rfl hc8 (ab_ (aa_ (wm_ (v := (vi x8.2)) rfl rfl (wo_ (bj_ (a := x8.2) (b := 3) rfl rfl rfl (wm_ (v := (vb (x8.2 == 3))) rfl rfl ?_))))))
  rcases ifs h with ⟨hc9, h⟩ | ⟨hc9, h⟩
  ·
   refine wk_ rfl rfl hc9 (ax_ (v := (vi x9.2)) rfl rfl (wk_ rfl rfl hc9 (bj_ (a := x9.2) (b := 3) rfl rfl rfl (wo_ (av_ (c := x8.2 == 3) (a := (vb (x9.2 == 3))) rfl rfl hc9 rfl (wm_ (v := (vb (x9.2 == 3))) rfl rfl ?_))))))
   rcases ifs h with ⟨hc10, h⟩ | ⟨hc10, h⟩
   ·
    obtain ⟨x11, hx11, h⟩ := bnd h
    refine wk_ rfl rfl hc10 (ap_ (vs := []) (r := (vb x11)) rfl ca10 rfl args0 I12 (fun Fr_ hF_ => gn_ hF_  hx11) (fun w12 I14 => (wo_ (av_ (c := x9.2 == 3) (a := (vb x11)) rfl rfl hc10 rfl (wa_ (v := (vb x11)) rfl rfl (ad_ (ak_ ?_)))))))
    obtain rfl := sj h
    exact ⟨rfl, (vb x11), (bo_ rfl rfl), _, [], ((le1.trans le2).trans le3), I14, rfl, rfl⟩
   refine ws_ rfl rfl hc10 (wo_ (ao_ (c := x9.2 == 3) (b := (vb false)) rfl rfl hc10 rfl (wa_ (v := (vb false)) rfl rfl (ad_ (ak_ ?_)))))
   obtain rfl := sj h
   exact ⟨rfl, (vb false), (bo_ rfl rfl), _, [], ((le1.trans le2).trans le3), I12, rfl, rfl⟩
  refine ws_ rfl rfl hc9 (ws_ rfl rfl hc9 (wo_ (ao_ (c := x8.2 == 3) (b := (vb false)) rfl rfl hc9 rfl (wm_ (v := (vb false)) rfl rfl (ws_ (c := false) rfl rfl rfl (wo_ (ao_ (c := false) (b := (vb false)) rfl rfl rfl rfl (wa_ (v := (vb false)) rfl rfl (ad_ (ak_ ?_))))))))))
  obtain rfl := sj h
  exact ⟨rfl, (vb false), (bo_ rfl rfl), _, [], ((le1.trans le2).trans le3), I12, rfl, rfl⟩
 refine am_ (b := (x7.1.length : Int) == 0) rfl hc8 (aw_ (ab_ (aa_ (wo_ (an_ (v := (pt_ g1)) (e := a0) rfl jq_ rfl ((p1.mono (le2.trans le3)).at_ I12) (fun u6 hu6 => ?_))))))
 obtain ⟨c25, c26, c27, c28, e32, r26, r27, r28, r29⟩ := Riddle.inv hu6
 subst e32
 obtain ⟨z27, m27, k27, rfl⟩ := ae_ r26
 obtain ⟨z28, m28, k28, rfl⟩ := ae_ r27
 obtain ⟨z29, m29, k29, rfl⟩ := ae_ r28
 obtain ⟨z30, m30, k30, rfl⟩ := ae_ r29
 refine wm_ (v := (vi a2)) rfl rfl ?_
 obtain ⟨x12, hx12, h⟩ := bnd h
 refine wo_ (bp_ (vs := [(.agg #[(.slice z27 m27 k27), (.slice z28 m28 k28), (.slice z29 m29 k29), (.slice z30 m30 k30)]), (vi a2)]) rfl ca29 rfl (bt_ rfl rfl) (hints_Possible_ok I12 (Riddle.rv (s := a0) r26 r27 r28 r29) hx12) (fun cv2 w13 S4 O2 le4 I15 hv2 => ?_))
 obtain ⟨z31, m31, k31, rfl, rfl, r30⟩ := hv2
 refine wm_ (v := (Value.tuple #[(.slice z31 m31 k31), (vi x12.2)])) rfl rfl (wo_ (bc_ (v := (.slice z31 m31 k31)) rfl rfl rfl (wo_ (bc_ (v := (vi x12.2)) rfl rfl rfl (wa_ (v := (.slice z31 m31 k31)) rfl rfl (wa_ (v := (vi x12.2)) rfl rfl (ad_ (ab_ (ab_ (aa_ (wm_ (v := (vi x8.2)) rfl rfl (wo_ (ce_ (a := x8.2) (b := 0) rfl rfl rfl (wm_ (v := (vb (x8.2 != 0))) rfl rfl ?_))))))))))))))
 rcases ifs h with ⟨hc16, h⟩ | ⟨hc16, h⟩
 ·
  refine ws_ rfl rfl hc16 (ws_ rfl rfl hc16 (wo_ (av_ (c := x8.2 != 0) (a := (vb true)) rfl rfl hc16 rfl (wm_ (v := (vb true)) rfl rfl (ws_ (c := true) rfl rfl rfl (ws_ (c := true) rfl rfl rfl (wo_ (av_ (c := true) (a := (vb true)) rfl rfl rfl rfl (wm_ (v := (vb true)) rfl rfl (ws_ (c := true) rfl rfl rfl (ws_ (c := true) rfl rfl rfl (ws_ (c := true) rfl rfl rfl (ws_ (c := true) rfl rfl rfl (wo_ (av_ (c := true) (a := (vb true)) rfl rfl rfl rfl (wm_ (v := (vb true)) rfl rfl (ws_ (c := true) rfl rfl rfl (ws_ (c := true) rfl rfl rfl (ws_ (c := true) rfl rfl rfl (ws_ (c := true) rfl rfl rfl (wo_ (av_ (c := true) (a := (vb true)) rfl rfl rfl rfl (ad_ (ai_ (b := true) rfl rfl (ab_ (aa_ (wa_ (v := (vb false)) rfl rfl (ad_ (ak_ ?_)))))))))))))))))))))))))))))
  obtain rfl := sj h
  exact ⟨rfl, (vb false), (bo_ rfl rfl), _, [], (((le1.trans le2).trans le3).trans le4), I15, rfl, rfl⟩
 refine wk_ rfl rfl hc16 (ax_ (v := (vi x9.2)) rfl rfl (wk_ rfl rfl hc16 (ce_ (a := x9.2) (b := 0) rfl rfl rfl (wo_ (ao_ (c := x8.2 != 0) (b := (vb (x9.2 != 0))) rfl rfl hc16 rfl (wm_ (v := (vb (x9.2 != 0))) rfl rfl ?_))))))
 rcases ifs h with ⟨hc17, h⟩ | ⟨hc17, h⟩
 ·
  refine ws_ rfl rfl hc17 (ws_ rfl rfl hc17 (wo_ (av_ (c := x9.2 != 0) (a := (vb true)) rfl rfl hc17 rfl (wm_ (v := (vb true)) rfl rfl (ws_ (c := true) rfl rfl rfl (ws_ (c := true) rfl rfl rfl (ws_ (c := true) rfl rfl rfl (ws_ (c := true) rfl rfl rfl (wo_ (av_ (c := true) (a := (vb true)) rfl rfl rfl rfl (wm_ (v := (vb true)) rfl rfl (ws_ (c := true) rfl rfl rfl (ws_ (c := true) rfl rfl rfl (ws_ (c := true) rfl rfl rfl (ws_ (c := true) rfl rfl rfl (wo_ (av_ (c := true) (a := (vb true)) rfl rfl rfl rfl (ad_ (ai_ (b := true) rfl rfl (ab_ (aa_ (wa_ (v := (vb false)) rfl rfl (ad_ (ak_ ?_))))))))))))))))))))))))
  obtain rfl := sj h
  exact ⟨rfl, (vb false), (bo_ rfl rfl), _, [], (((le1.trans le2).trans le3).trans le4), I15, rfl, rfl⟩
 refine wk_ rfl rfl hc17 (ax_ (v := (vi x12.2)) rfl rfl (wk_ rfl rfl hc17 (ce_ (a := x12.2) (b := 0) rfl rfl rfl (wo_ (ao_ (c := x9.2 != 0) (b := (vb (x12.2 != 0))) rfl rfl hc17 rfl (wm_ (v := (vb (x12.2 != 0))) rfl rfl ?_))))))
 rcases ifs h with ⟨hc18, h⟩ | ⟨hc18, h⟩
 ·
  refine ws_ rfl rfl hc18 (ws_ rfl rfl hc18 (ws_ rfl rfl hc18 (ws_ rfl rfl hc18 (wo_ (av_ (c := x12.2 != 0) (a := (vb true)) rfl rfl hc18 rfl (wm_ (v := (vb true)) rfl rfl (ws_ (c := true) rfl rfl rfl (ws_ (c := true) rfl rfl rfl (ws_ (c := true) rfl rfl rfl (ws_ (c := true) rfl rfl rfl (wo_ (av_ (c := true) (a := (vb true)) rfl rfl rfl rfl (ad_ (ai_ (b := true) rfl rfl (ab_ (aa_ (wa_ (v := (vb false)) rfl rfl (ad_ (ak_ ?_)))))))))))))))))))
  obtain rfl := sj h
  exact ⟨rfl, (vb false), (bo_ rfl rfl), _, [], (((le1.trans le2).trans le3).trans le4), I15, rfl, rfl⟩
 refine wk_ rfl rfl hc18 (ax_ (v := (.slice z18 m18 k18)) rfl rfl (wk_ rfl rfl hc18 (ax_ (v := (vi x8.1)) rfl rfl ?_)))
 obtain ⟨x15, hx15, h⟩ := bnd h
 refine wk_ rfl rfl hc18 (ap_ (vs := [(.slice z18 m18 k18), (vi x8.1)]) (r := (vb x15)) rfl ca30 rfl (bt_ rfl rfl) I15 (fun Fr_ hF_ => law07_has_ok hF_ (r17.mono le4) hx15) (fun w16 I18 => (wk_ rfl rfl hc18 (cd_ (b := x15) rfl rfl (wo_ (ao_ (c := x12.2 != 0) (b := (vb (!x15))) rfl rfl hc18 rfl (wm_ (v := (vb (!x15))) rfl rfl ?_)))))))
 rcases ifs h with ⟨hc19, h⟩ | ⟨hc19, h⟩
 ·
  refine ws_ rfl rfl hc19 (ws_ rfl rfl hc19 (ws_ rfl rfl hc19 (ws_ rfl rfl hc19 (wo_ (av_ (c := !x15) (a := (vb true)) rfl rfl hc19 rfl (ad_ (ai_ (b := true) rfl rfl (ab_ (aa_ (wa_ (v := (vb false)) rfl rfl (ad_ (ak_ ?_))))))))))))
  obtain rfl := sj h
  exact ⟨rfl, (vb false), (bo_ rfl rfl), _, [], (((le1.trans le2).trans le3).trans le4), I18, rfl, rfl⟩
 refine wk_ rfl rfl hc19 (ax_ (v := (.slice z18 m18 k18)) rfl rfl (wk_ rfl rfl hc19 (ax_ (v := (vi x9.1)) rfl rfl ?_)))
 obtain ⟨x16, hx16, h⟩ := bnd h
 refine wk_ rfl rfl hc19 (ap_ (vs := [(.slice z18 m18 k18), (vi x9.1)]) (r := (vb x16)) rfl ca30 rfl (bt_ rfl rfl) I18 (fun Fr_ hF_ => law07_has_ok hF_ (r17.mono le4) hx16) (fun w17 I19 => (wk_ rfl rfl hc19 (cd_ (b := x16) rfl rfl (wo_ (ao_ (c := !x15) (b := (vb (!x16))) rfl rfl hc19 rfl (ad_ ?_)))))))
 rcases ifs h with ⟨hc20, h⟩ | ⟨hc20, h⟩
 ·
  refine ai_ (b := !x16) rfl hc20 (ab_ (aa_ (wa_ (v := (vb false)) rfl rfl (ad_ (ak_ ?_)))))
  obtain rfl := sj h
  exact ⟨rfl, (vb false), (bo_ rfl rfl), _, [], (((le1.trans le2).trans le3).trans le4), I19, rfl, rfl⟩
 refine am_ (b := !x16) rfl hc20 (aw_ (ab_ ?_))
 obtain ⟨x17, hx17, h⟩ := bnd h
 obtain ⟨x18, hx18, h⟩ := bnd h
 refine bk_ (sps := [spR 105 [] 0 a0, spV 106 [] 1 (.slice z5 m5 k5), spV 107 [] 2 (vi x8.1), spV 108 [1, 2] 3 (ah_ (.slice z5 m5 k5) (x8.1) (Enc.sz Aid)), spR 109 [1, 2, 3] 4 x17, spV 110 [0, 1, 2, 3, 4] 5 (Value.tuple #[(vi x18.1), (vi x18.2)]), spV 104 (lrg 6) 6 (Value.tuple #[(vi x18.1), (vi x18.2)]), spV 111 (lrg 7) 7 (vi x18.1), spV 112 (lrg 7) 8 (vi x18.2), spV 15 (lrg 8) 9 (vi x18.1), spV 8 (lrg 10) 10 (vi x18.2)]) (tks := []) (O := Fr) rfl (by kernel_rfl) I19 ⟨?_, fun vs f w U X l A K I => pl_ rfl (ax_ rfl (K 1 (al_ rfl)) (fn rfl rfl I)), fun vs f w U X l A K I => pl_ rfl (ax_ rfl (K 9 (al_ rfl)) (fn rfl rfl I)), fun vs f w U X l A K I => pl_ rfl (aj_ (v := (.slice z5 m5 k5)) (i := x8.1) (e := x17) rfl Tryz.underlying45 sh32 (A.u 0 rfl rfl rfl) (h1_.mono ((((le1.trans le2).trans le3).trans le4).trans l)) (A.u 1 rfl rfl rfl) hx17 (fn rfl rfl I)), ?_, ?_, fun vs f w U X l A K I => pl_ rfl (ax_ rfl (A.u 5 rfl rfl rfl) (fn rfl rfl I)), fun vs f w U X l A K I => pl_ rfl (bc_ (v := (vi x18.1)) rfl (A.u 6 rfl rfl rfl) rfl (fn rfl rfl I)), fun vs f w U X l A K I => pl_ rfl (bc_ (v := (vi x18.2)) rfl (A.u 6 rfl rfl rfl) rfl (fn rfl rfl I)), fun vs f w U X l A K I => pl_ rfl (br_ (v := (vi x18.1)) rfl (A.u 7 rfl rfl rfl) (fn rfl rfl I)), ?_, trivial⟩ ?_
 ·
  intro vs f w_ U X le A K I
  refine pl_ rfl (an_ (e := a0) rfl jq_ (K 3 (al_ rfl)) ((p1.mono (((le2.trans le3).trans le4).trans le)).at_ I) (fun u9 hu9 => ?_))
  obtain ⟨c29, c30, c31, c32, e37, r31, r32, r33, r34⟩ := Riddle.inv hu9
  subst e37
  obtain ⟨z32, m32, k32, rfl⟩ := ae_ r31
  obtain ⟨z33, m33, k33, rfl⟩ := ae_ r32
  obtain ⟨z34, m34, k34, rfl⟩ := ae_ r33
  obtain ⟨z35, m35, k35, rfl⟩ := ae_ r34
  refine ⟨_, _, rfl, lr, ?_, ?_⟩
  · exact (Riddle.rv (s := a0) r31 r32 r33 r34)
  exact I
 ·
  intro vs f w_ U X le A K I
  have q3 := A.u 2 rfl rfl rfl
  refine pl_ rfl (an_ (e := x17) rfl sh32 q3 ((h1_.mono ((((le1.trans le2).trans le3).trans le4).trans le)).elem I.in_ hx17) (fun u10 hu10 => ?_))
  obtain ⟨c33, e42, r35⟩ := Aid.inv hu10
  subst e42
  obtain ⟨z36, m36, k36, rfl⟩ := ae_ r35
  refine ⟨_, _, rfl, lr, ?_, ?_⟩
  · exact (Aid.rv (s := x17) r35)
  exact I
 ·
  intro vs f w_ U X le A K I
  have q4 : f 105 = vs 0 := (A.at_ 0 rfl _ rfl).1 _ rfl
  have r36 : RV U (vs 0) a0 := (A.at_ 0 rfl _ rfl).2
  obtain ⟨u11, hu11⟩ : ∃ u, vs 0 = u := ⟨_, rfl⟩
  rw [hu11] at q4 r36
  obtain ⟨c34, c35, c36, c37, e44, r37, r38, r39, r40⟩ := Riddle.inv r36
  subst e44
  obtain ⟨z37, m37, k37, rfl⟩ := ae_ r37
  obtain ⟨z38, m38, k38, rfl⟩ := ae_ r38
  obtain ⟨z39, m39, k39, rfl⟩ := ae_ r39
  obtain ⟨z40, m40, k40, rfl⟩ := ae_ r40
  have q5 : f 109 = vs 4 := (A.at_ 4 rfl _ rfl).1 _ rfl
  have r41 : RV U (vs 4) x17 := (A.at_ 4 rfl _ rfl).2
  obtain ⟨u12, hu12⟩ : ∃ u, vs 4 = u := ⟨_, rfl⟩
  rw [hu12] at q5 r41
  obtain ⟨c38, e49, r42⟩ := Aid.inv r41
  subst e49
  obtain ⟨z41, m41, k41, rfl⟩ := ae_ r42
  refine pl_ rfl (ap_ (vs := [(.agg #[(.slice z37 m37 k37), (.slice z38 m38 k38), (.slice z39 m39 k39), (.slice z40 m40 k40)]), (.agg #[(vi x17.Lock), (vi x17.Clue.Kind), (vi x17.Clue.A), (vi x17.Clue.B), (vi x17.Clue.N), (vi x17.Clue.M), (.slice z41 m41 k41), (vb x17.Clue.Not)])]) (r := (Value.tuple #[(vi x18.1), (vi x18.2)])) rfl ca14 rfl (bt_ q4 q5) I (fun Fr_ hF_ => jz_ hF_ (Riddle.rv (s := a0) r37 r38 r39 r40) (Aid.rv (s := x17) r42) hx18) (fun w25 I27 => (fn rfl rfl I27)))
 ·
  intro vs f w_ U X le A K I
  refine pl_ rfl (br_ (v := (vi x18.2)) rfl (A.u 8 rfl rfl rfl) (fn rfl rfl I))
 intro vs12 f w31 S16 ed1 le16 hF1 hK12 hI12
 have e51 : f 1 = (Value.slice z5 m5 k5) := (hK12 1 (ar_ rfl)).trans rfl
 have e52 : f 3 = (pt_ g1) := (hK12 3 (ar_ rfl)).trans rfl
 have e53 : f 7 = (Value.slice z18 m18 k18) := (hK12 7 (ar_ rfl)).trans rfl
 have e54 : f 11 = (vi x9.1) := (hK12 11 (ar_ rfl)).trans rfl
 have e55 : f 13 = (Value.slice z31 m31 k31) := (hK12 13 (ar_ rfl)).trans rfl
 have I33 : Inv w31 S16 (Fr) := hI12
 have q11 := hF1.u 9 rfl rfl rfl
 have q12 := hF1.u 10 rfl rfl rfl
 refine ab_ ?_
 obtain ⟨x19, hx19, h⟩ := bnd h
 obtain ⟨x20, hx20, h⟩ := bnd h
 refine bk_ (sps := [spR 114 [] 0 a0, spV 115 [] 1 (.slice z5 m5 k5), spV 116 [] 2 (vi x9.1), spV 117 [1, 2] 3 (ah_ (.slice z5 m5 k5) (x9.1) (Enc.sz Aid)), spR 118 [1, 2, 3] 4 x19, spV 119 [0, 1, 2, 3, 4] 5 (Value.tuple #[(vi x20.1), (vi x20.2)]), spV 113 (lrg 6) 6 (Value.tuple #[(vi x20.1), (vi x20.2)]), spV 120 (lrg 7) 7 (vi x20.1), spV 121 (lrg 7) 8 (vi x20.2), spV 16 (lrg 8) 9 (vi x20.1), spV 10 (lrg 10) 10 (vi x20.2)]) (tks := []) (O := Fr) rfl (by kernel_rfl) I33 ⟨?_, fun vs f w U X l A K I => pl_ rfl (ax_ rfl ((K 1 (al_ rfl)).trans e51) (fn rfl rfl I)), fun vs f w U X l A K I => pl_ rfl (ax_ rfl ((K 11 (al_ rfl)).trans e54) (fn rfl rfl I)), fun vs f w U X l A K I => pl_ rfl (aj_ (v := (.slice z5 m5 k5)) (i := x9.1) (e := x19) rfl Tryz.underlying45 sh32 (A.u 0 rfl rfl rfl) (h1_.mono (((((le1.trans le2).trans le3).trans le4).trans le16).trans l)) (A.u 1 rfl rfl rfl) hx19 (fn rfl rfl I)), ?_, ?_, fun vs f w U X l A K I => pl_ rfl (ax_ rfl (A.u 5 rfl rfl rfl) (fn rfl rfl I)), fun vs f w U X l A K I => pl_ rfl (bc_ (v := (vi x20.1)) rfl (A.u 6 rfl rfl rfl) rfl (fn rfl rfl I)), fun vs f w U X l A K I => pl_ rfl (bc_ (v := (vi x20.2)) rfl (A.u 6 rfl rfl rfl) rfl (fn rfl rfl I)), fun vs f w U X l A K I => pl_ rfl (br_ (v := (vi x20.1)) rfl (A.u 7 rfl rfl rfl) (fn rfl rfl I)), ?_, trivial⟩ ?_
 ·
  intro vs f w_ U X le A K I
  refine pl_ rfl (an_ (e := a0) rfl jq_ ((K 3 (al_ rfl)).trans e52) ((p1.mono ((((le2.trans le3).trans le4).trans le16).trans le)).at_ I) (fun u15 hu15 => ?_))
  obtain ⟨c39, c40, c41, c42, e56, r43, r44, r45, r46⟩ := Riddle.inv hu15
  subst e56
  obtain ⟨z42, m42, k42, rfl⟩ := ae_ r43
  obtain ⟨z43, m43, k43, rfl⟩ := ae_ r44
  obtain ⟨z44, m44, k44, rfl⟩ := ae_ r45
  obtain ⟨z45, m45, k45, rfl⟩ := ae_ r46
  refine ⟨_, _, rfl, lr, ?_, ?_⟩
  · exact (Riddle.rv (s := a0) r43 r44 r45 r46)
  exact I
 ·
  intro vs f w_ U X le A K I
  have q15 := A.u 2 rfl rfl rfl
  refine pl_ rfl (an_ (e := x19) rfl sh32 q15 ((h1_.mono (((((le1.trans le2).trans le3).trans le4).trans le16).trans le)).elem I.in_ hx19) (fun u16 hu16 => ?_))
  obtain ⟨c43, e61, r47⟩ := Aid.inv hu16
  subst e61
  obtain ⟨z46, m46, k46, rfl⟩ := ae_ r47
  refine ⟨_, _, rfl, lr, ?_, ?_⟩
  · exact (Aid.rv (s := x19) r47)
  exact I
 ·
  intro vs f w_ U X le A K I
  have q16 : f 114 = vs 0 := (A.at_ 0 rfl _ rfl).1 _ rfl
  have r48 : RV U (vs 0) a0 := (A.at_ 0 rfl _ rfl).2
  obtain ⟨u17, hu17⟩ : ∃ u, vs 0 = u := ⟨_, rfl⟩
  rw [hu17] at q16 r48
  obtain ⟨c44, c45, c46, c47, e63, r49, r50, r51, r52⟩ := Riddle.inv r48
  subst e63
  obtain ⟨z47, m47, k47, rfl⟩ := ae_ r49
  obtain ⟨z48, m48, k48, rfl⟩ := ae_ r50
  obtain ⟨z49, m49, k49, rfl⟩ := ae_ r51
  obtain ⟨z50, m50, k50, rfl⟩ := ae_ r52
  have q17 : f 118 = vs 4 := (A.at_ 4 rfl _ rfl).1 _ rfl
  have r53 : RV U (vs 4) x19 := (A.at_ 4 rfl _ rfl).2
  obtain ⟨u18, hu18⟩ : ∃ u, vs 4 = u := ⟨_, rfl⟩
  rw [hu18] at q17 r53
  obtain ⟨c48, e68, r54⟩ := Aid.inv r53
  subst e68
  obtain ⟨z51, m51, k51, rfl⟩ := ae_ r54
  refine pl_ rfl (ap_ (vs := [(.agg #[(.slice z47 m47 k47), (.slice z48 m48 k48), (.slice z49 m49 k49), (.slice z50 m50 k50)]), (.agg #[(vi x19.Lock), (vi x19.Clue.Kind), (vi x19.Clue.A), (vi x19.Clue.B), (vi x19.Clue.N), (vi x19.Clue.M), (.slice z51 m51 k51), (vb x19.Clue.Not)])]) (r := (Value.tuple #[(vi x20.1), (vi x20.2)])) rfl ca14 rfl (bt_ q16 q17) I (fun Fr_ hF_ => jz_ hF_ (Riddle.rv (s := a0) r49 r50 r51 r52) (Aid.rv (s := x19) r54) hx20) (fun w39 I41 => (fn rfl rfl I41)))
 ·
  intro vs f w_ U X le A K I
  refine pl_ rfl (br_ (v := (vi x20.2)) rfl (A.u 8 rfl rfl rfl) (fn rfl rfl I))
 intro vs24 f w45 S28 ed2 le28 hF2 hK24 hI24
 have e70 : f 1 = (Value.slice z5 m5 k5) := (hK24 1 (ar_ rfl)).trans e51
 have e71 : f 3 = (pt_ g1) := (hK24 3 (ar_ rfl)).trans e52
 have e72 : f 7 = (Value.slice z18 m18 k18) := (hK24 7 (ar_ rfl)).trans e53
 have e73 : f 8 = (vi x18.2) := (hK24 8 (ar_ rfl)).trans q12
 have e74 : f 13 = (Value.slice z31 m31 k31) := (hK24 13 (ar_ rfl)).trans e55
 have e75 : f 15 = (vi x18.1) := (hK24 15 (ar_ rfl)).trans q11
 have I47 : Inv w45 S28 (Fr) := hI24
 have q23 := hF2.u 9 rfl rfl rfl
 have q24 := hF2.u 10 rfl rfl rfl
 refine ab_ (ab_ (aa_ (wm_ rfl e73 (wo_ (ce_ (a := x18.2) (b := 0) rfl rfl rfl (wm_ (v := (vb (x18.2 != 0))) rfl rfl ?_))))))
 rcases ifs h with ⟨hc23, h⟩ | ⟨hc23, h⟩
 ·
  refine ws_ rfl rfl hc23 (ws_ rfl rfl hc23 (wo_ (av_ (c := x18.2 != 0) (a := (vb true)) rfl rfl hc23 rfl (ad_ (ai_ (b := true) rfl rfl (ab_ (aa_ (wa_ (v := (vb false)) rfl rfl (ad_ (ak_ ?_))))))))))
  obtain rfl := sj h
  exact ⟨(ed2.trans (ed1.trans rfl)), (vb false), (bo_ rfl rfl), _, [], (((((le1.trans le2).trans le3).trans le4).trans le16).trans le28), I47, rfl, rfl⟩
 refine wk_ rfl rfl hc23 (ax_ rfl q24 (wk_ rfl rfl hc23 (ce_ (a := x20.2) (b := 0) rfl rfl rfl (wo_ (ao_ (c := x18.2 != 0) (b := (vb (x20.2 != 0))) rfl rfl hc23 rfl (ad_ ?_))))))
 rcases ifs h with ⟨hc24, h⟩ | ⟨hc24, h⟩
 ·
  refine ai_ (b := x20.2 != 0) rfl hc24 (ab_ (aa_ (wa_ (v := (vb false)) rfl rfl (ad_ (ak_ ?_)))))
  obtain rfl := sj h
  exact ⟨(ed2.trans (ed1.trans rfl)), (vb false), (bo_ rfl rfl), _, [], (((((le1.trans le2).trans le3).trans le4).trans le16).trans le28), I47, rfl, rfl⟩
 refine am_ (b := x20.2 != 0) rfl hc24 (aw_ (ab_ (ab_ (aa_ (wa_ (v := (vi 0)) rfl rfl (ad_ ?_))))))
 have hk1 : x7.1.length ≤ 9223372036854775807 := (dy_ r17)
 obtain ⟨o2, hrun1, h⟩ := bnd h
 refine bu_ (fun f w => ∃ out1, o2 = Sum.inl out1 ∧ ∃ (S_ : PH), S28.Le S_ ∧ Inv w S_ (Fr) ∧ f 1 = (.slice z5 m5 k5) ∧ f 3 = (pt_ g1) ∧ f 7 = (.slice z18 m18 k18) ∧ f 13 = (.slice z31 m31 k31) ∧ f 15 = (vi x18.1) ∧ f 16 = (vi x20.1) ∧ f.ds = []) ?_ ?_
 ·
  refine ay_ ?_
  refine el_ (I := fun (i1 : Nat) (s1 : Unit) (f : Frm) (w : World) => ∃ (S_ : PH), S28.Le S_ ∧ Inv w S_ (Fr) ∧ f 1 = (.slice z5 m5 k5) ∧ f 3 = (pt_ g1) ∧ f 7 = (.slice z18 m18 k18) ∧ f 13 = (.slice z31 m31 k31) ∧ f 15 = (vi x18.1) ∧ f 16 = (vi x20.1) ∧ f 17 = (vi (i1 : Int)) ∧ f.ds = []) hrun1 ⟨_, lr, I47, e70, e71, e72, e74, e75, q23, rfl, (ed2.trans (ed1.trans rfl))⟩ ?_ ?_
  ·
   rintro i1 s1 f w o1 hlt1 hI115 h7 hout1
   obtain ⟨S124, le124, I153, e244, e245, e246, e247, e248, e249, e250, ed12⟩ := hI115
   refine ab_ (ab_ (aa_ (wm_ rfl e250 (wm_ rfl e246 (wo_ (bb_ rfl Tryz.underlying28 rfl (r17.mono (((le4.trans le16).trans le28).trans le124)) (wo_ (bg_ (a := (i1 : Int)) (b := (x7.1.length : Int)) rfl rfl rfl (ad_ (ai_ (b := decide ((i1 : Int) < (x7.1.length : Int))) rfl (gj_ hlt1) (aw_ (ab_ (ay_ (ab_ (ab_ (aa_ (wm_ rfl e246 (wm_ rfl e250 ?_))))))))))))))))))
   obtain ⟨x53, hx53, h7⟩ := bnd h7
   refine wo_ (aj_ (v := (.slice z18 m18 k18)) (i := (i1 : Int)) (e := x53) rfl Tryz.underlying28 sh3 rfl (r17.mono (((le4.trans le16).trans le28).trans le124)) rfl hx53 (wo_ (af_ (v := (ah_ (.slice z18 m18 k18) ((i1 : Int)) (Enc.sz Int))) (e := x53) rfl sh3 rfl ((r17.mono (((le4.trans le16).trans le28).trans le124)).elem I153.in_ hx53) (wo_ (bg_ (a := x53) (b := 0) rfl rfl rfl (wm_ (v := (vb (decide (x53 < 0)))) rfl rfl ?_))))))
   rcases ifs h7 with ⟨hc60, h7⟩ | ⟨hc60, h7⟩
   ·
    refine ws_ rfl rfl hc60 (ws_ rfl rfl hc60 (ws_ rfl rfl hc60 (ws_ rfl rfl hc60 (ws_ rfl rfl hc60 (ws_ rfl rfl hc60 (ws_ rfl rfl hc60 (wo_ (av_ (c := decide (x53 < 0)) (a := (vb true)) rfl rfl hc60 rfl (ad_ (ai_ (b := true) rfl rfl (ab_ (aa_ (wa_ (v := (vb false)) rfl rfl (ad_ (ak_ ?_)))))))))))))))
    obtain rfl := sj h7
    obtain rfl := (hout1 _ rfl)
    have h8 := h
    obtain rfl := sj h8
    exact ⟨ed12, (vb false), (bo_ rfl rfl), _, [], ((((((le1.trans le2).trans le3).trans le4).trans le16).trans le28).trans le124), I153, rfl, rfl⟩
   refine wk_ rfl rfl hc60 (ax_ rfl e246 (wk_ rfl rfl hc60 (ax_ rfl e250 ?_)))
   obtain ⟨x54, hx54, h7⟩ := bnd h7
   refine wk_ rfl rfl hc60 (aj_ (v := (.slice z18 m18 k18)) (i := (i1 : Int)) (e := x54) rfl Tryz.underlying28 sh3 rfl (r17.mono (((le4.trans le16).trans le28).trans le124)) rfl hx54 (wk_ rfl rfl hc60 (af_ (v := (ah_ (.slice z18 m18 k18) ((i1 : Int)) (Enc.sz Int))) (e := x54) rfl sh3 rfl ((r17.mono (((le4.trans le16).trans le28).trans le124)).elem I153.in_ hx54) (wk_ rfl rfl hc60 (ax_ rfl e244 (wk_ rfl rfl hc60 (bb_ rfl Tryz.underlying45 rfl (h1_.mono ((((((le1.trans le2).trans le3).trans le4).trans le16).trans le28).trans le124)) (wk_ rfl rfl hc60 (km_ (a := x54) (b := (a1.length : Int)) rfl rfl rfl (wo_ (ao_ (c := decide (x53 < 0)) (b := (vb (decide ((a1.length : Int) ≤ x54)))) rfl rfl hc60 rfl (ad_ ?_))))))))))))
   rcases ifs h7 with ⟨hc61, h7⟩ | ⟨hc61, h7⟩
   ·
    refine ai_ (b := decide ((a1.length : Int) ≤ x54)) rfl hc61 (ab_ (aa_ (wa_ (v := (vb false)) rfl rfl (ad_ (ak_ ?_)))))
    obtain rfl := sj h7
    obtain rfl := (hout1 _ rfl)
    have h8 := h
    obtain rfl := sj h8
    exact ⟨ed12, (vb false), (bo_ rfl rfl), _, [], ((((((le1.trans le2).trans le3).trans le4).trans le16).trans le28).trans le124), I153, rfl, rfl⟩
   refine am_ (b := decide ((a1.length : Int) ≤ x54)) rfl hc61 (aw_ (ab_ ?_))
   obtain ⟨x55, hx55, h7⟩ := bnd h7
   obtain ⟨x56, hx56, h7⟩ := bnd h7
   obtain ⟨x57, hx57, h7⟩ := bnd h7
   refine bk_ (sps := [spR 149 [] 0 a0, spV 150 [] 1 (.slice z5 m5 k5), spV 151 [] 2 (.slice z18 m18 k18), spV 152 [] 3 (vi (i1 : Int)), spV 153 [2, 3] 4 (ah_ (.slice z18 m18 k18) ((i1 : Int)) (Enc.sz Int)), spV 154 [2, 3, 4] 5 (vi x55), spV 155 [1, 2, 3, 4, 5] 6 (ah_ (.slice z5 m5 k5) (x55) (Enc.sz Aid)), spR 156 [1, 2, 3, 4, 5, 6] 7 x56, spV 157 (lrg 8) 8 (Value.tuple #[(vi x57.1), (vi x57.2)]), spV 148 (lrg 9) 9 (Value.tuple #[(vi x57.1), (vi x57.2)]), spV 158 (lrg 10) 10 (vi x57.1), spV 159 (lrg 10) 11 (vi x57.2), spV 18 (lrg 11) 12 (vi x57.1), spV 19 (lrg 13) 13 (vi x57.2)]) (tks := []) (O := Fr) rfl (by kernel_rfl) I153 ⟨?_, fun vs f w U X l A K I => pl_ rfl (ax_ rfl ((K 1 (al_ rfl)).trans e244) (fn rfl rfl I)), fun vs f w U X l A K I => pl_ rfl (ax_ rfl ((K 7 (al_ rfl)).trans e246) (fn rfl rfl I)), fun vs f w U X l A K I => pl_ rfl (ax_ rfl ((K 17 (al_ rfl)).trans e250) (fn rfl rfl I)), fun vs f w U X l A K I => pl_ rfl (aj_ (v := (.slice z18 m18 k18)) (i := (i1 : Int)) (e := x55) rfl Tryz.underlying28 sh3 (A.u 0 rfl rfl rfl) (r17.mono ((((le4.trans le16).trans le28).trans le124).trans l)) (A.u 1 rfl rfl rfl) hx55 (fn rfl rfl I)), fun vs f w U X l A K I => pl_ rfl (af_ (e := x55) rfl sh3 (A.u 2 rfl rfl rfl) ((r17.mono ((((le4.trans le16).trans le28).trans le124).trans l)).elem I.in_ hx55) (fn rfl rfl I)), fun vs f w U X l A K I => pl_ rfl (aj_ (v := (.slice z5 m5 k5)) (i := x55) (e := x56) rfl Tryz.underlying45 sh32 (A.u 0 rfl rfl rfl) (h1_.mono (((((((le1.trans le2).trans le3).trans le4).trans le16).trans le28).trans le124).trans l)) (A.u 4 rfl rfl rfl) hx56 (fn rfl rfl I)), ?_, ?_, fun vs f w U X l A K I => pl_ rfl (ax_ rfl (A.u 8 rfl rfl rfl) (fn rfl rfl I)), fun vs f w U X l A K I => pl_ rfl (bc_ (v := (vi x57.1)) rfl (A.u 9 rfl rfl rfl) rfl (fn rfl rfl I)), fun vs f w U X l A K I => pl_ rfl (bc_ (v := (vi x57.2)) rfl (A.u 9 rfl rfl rfl) rfl (fn rfl rfl I)), fun vs f w U X l A K I => pl_ rfl (br_ (v := (vi x57.1)) rfl (A.u 10 rfl rfl rfl) (fn rfl rfl I)), ?_, trivial⟩ ?_
   ·
    intro vs f w_ U X le A K I
    refine pl_ rfl (an_ (e := a0) rfl jq_ ((K 3 (al_ rfl)).trans e245) ((p1.mono ((((((le2.trans le3).trans le4).trans le16).trans le28).trans le124).trans le)).at_ I) (fun u57 hu57 => ?_))
    obtain ⟨c109, c110, c111, c112, e251, r127, r128, r129, r130⟩ := Riddle.inv hu57
    subst e251
    obtain ⟨z130, m130, k130, rfl⟩ := ae_ r127
    obtain ⟨z131, m131, k131, rfl⟩ := ae_ r128
    obtain ⟨z132, m132, k132, rfl⟩ := ae_ r129
    obtain ⟨z133, m133, k133, rfl⟩ := ae_ r130
    refine ⟨_, _, rfl, lr, ?_, ?_⟩
    · exact (Riddle.rv (s := a0) r127 r128 r129 r130)
    exact I
   ·
    intro vs f w_ U X le A K I
    have q141 := A.u 5 rfl rfl rfl
    refine pl_ rfl (an_ (e := x56) rfl sh32 q141 ((h1_.mono (((((((le1.trans le2).trans le3).trans le4).trans le16).trans le28).trans le124).trans le)).elem I.in_ hx56) (fun u58 hu58 => ?_))
    obtain ⟨c113, e256, r131⟩ := Aid.inv hu58
    subst e256
    obtain ⟨z134, m134, k134, rfl⟩ := ae_ r131
    refine ⟨_, _, rfl, lr, ?_, ?_⟩
    · exact (Aid.rv (s := x56) r131)
    exact I
   ·
    intro vs f w_ U X le A K I
    have q142 : f 149 = vs 0 := (A.at_ 0 rfl _ rfl).1 _ rfl
    have r132 : RV U (vs 0) a0 := (A.at_ 0 rfl _ rfl).2
    obtain ⟨u59, hu59⟩ : ∃ u, vs 0 = u := ⟨_, rfl⟩
    rw [hu59] at q142 r132
    obtain ⟨c114, c115, c116, c117, e258, r133, r134, r135, r136⟩ := Riddle.inv r132
    subst e258
    obtain ⟨z135, m135, k135, rfl⟩ := ae_ r133
    obtain ⟨z136, m136, k136, rfl⟩ := ae_ r134
    obtain ⟨z137, m137, k137, rfl⟩ := ae_ r135
    obtain ⟨z138, m138, k138, rfl⟩ := ae_ r136
    have q143 : f 156 = vs 7 := (A.at_ 7 rfl _ rfl).1 _ rfl
    have r137 : RV U (vs 7) x56 := (A.at_ 7 rfl _ rfl).2
    obtain ⟨u60, hu60⟩ : ∃ u, vs 7 = u := ⟨_, rfl⟩
    rw [hu60] at q143 r137
    obtain ⟨c118, e263, r138⟩ := Aid.inv r137
    subst e263
    obtain ⟨z139, m139, k139, rfl⟩ := ae_ r138
    refine pl_ rfl (ap_ (vs := [(.agg #[(.slice z135 m135 k135), (.slice z136 m136 k136), (.slice z137 m137 k137), (.slice z138 m138 k138)]), (.agg #[(vi x56.Lock), (vi x56.Clue.Kind), (vi x56.Clue.A), (vi x56.Clue.B), (vi x56.Clue.N), (vi x56.Clue.M), (.slice z139 m139 k139), (vb x56.Clue.Not)])]) (r := (Value.tuple #[(vi x57.1), (vi x57.2)])) rfl ca14 rfl (bt_ q142 q143) I (fun Fr_ hF_ => jz_ hF_ (Riddle.rv (s := a0) r133 r134 r135 r136) (Aid.rv (s := x56) r138) hx57) (fun w156 I164 => (fn rfl rfl I164)))
   ·
    intro vs f w_ U X le A K I
    refine pl_ rfl (br_ (v := (vi x57.2)) rfl (A.u 11 rfl rfl rfl) (fn rfl rfl I))
   intro vs129 f w162 S139 ed13 le139 hF9 hK129 hI130
   have e265 : f 1 = (Value.slice z5 m5 k5) := (hK129 1 (ar_ rfl)).trans e244
   have e266 : f 3 = (pt_ g1) := (hK129 3 (ar_ rfl)).trans e245
   have e267 : f 7 = (Value.slice z18 m18 k18) := (hK129 7 (ar_ rfl)).trans e246
   have e268 : f 13 = (Value.slice z31 m31 k31) := (hK129 13 (ar_ rfl)).trans e247
   have e269 : f 15 = (vi x18.1) := (hK129 15 (ar_ rfl)).trans e248
   have e270 : f 16 = (vi x20.1) := (hK129 16 (ar_ rfl)).trans e249
   have e271 : f 17 = (vi ((i1 : Int))) := (hK129 17 (ar_ rfl)).trans e250
   have I170 : Inv w162 S139 (Fr) := hI130
   have q149 := hF9.u 12 rfl rfl rfl
   have q150 := hF9.u 13 rfl rfl rfl
   refine ab_ ?_
   obtain ⟨x58, hx58, h7⟩ := bnd h7
   obtain ⟨x59, hx59, h7⟩ := bnd h7
   obtain ⟨x60, hx60, h7⟩ := bnd h7
   refine bk_ (sps := [spR 161 [] 0 a0, spV 162 [] 1 (.slice z5 m5 k5), spV 163 [] 2 (.slice z18 m18 k18), spV 164 [] 3 (vi (i1 : Int)), spV 165 [2, 3] 4 (ah_ (.slice z18 m18 k18) ((i1 : Int)) (Enc.sz Int)), spV 166 [2, 3, 4] 5 (vi x58), spV 167 [1, 2, 3, 4, 5] 6 (ah_ (.slice z5 m5 k5) (x58) (Enc.sz Aid)), spR 168 [1, 2, 3, 4, 5, 6] 7 x59, ⟨some 169, (lrg 8), [8], fun vs_ T_ => ∃ (a0_ : Option Addr) (n0_ k0_ : Nat), fr0 vs_ 0 = (Value.tuple #[(.slice a0_ n0_ k0_), (vi x60.2)]), [], [], [0], fun _ h_ => h_⟩, spW 160 (lrg 9) [9, 8] fun vs_ => (Value.tuple #[(oi_ (fr0 vs_ 1) 0), (vi x60.2)]), spW 170 (lrg 10) [10, 8] fun vs_ => (oi_ (fr0 vs_ 1) 0), spV 171 (lrg 10) 11 (vi x60.2), spW 20 (lrg 11) [12, 8] fun vs_ => (oi_ (fr0 vs_ 1) 0), spV 21 (lrg 13) 13 (vi x60.2)]) (tks := [⟨some 8, none, [8], fun vs_ => Row (α := Int) 3 (oi_ (fr0 vs_ 0) 0) (x60.1)⟩]) (O := Fr) rfl (by kernel_rfl) I170 ⟨?_, fun vs f w U X l A K I => pl_ rfl (ax_ rfl ((K 1 (al_ rfl)).trans e265) (fn rfl rfl I)), fun vs f w U X l A K I => pl_ rfl (ax_ rfl ((K 7 (al_ rfl)).trans e267) (fn rfl rfl I)), fun vs f w U X l A K I => pl_ rfl (ax_ rfl ((K 17 (al_ rfl)).trans e271) (fn rfl rfl I)), fun vs f w U X l A K I => pl_ rfl (aj_ (v := (.slice z18 m18 k18)) (i := (i1 : Int)) (e := x58) rfl Tryz.underlying28 sh3 (A.u 0 rfl rfl rfl) (r17.mono (((((le4.trans le16).trans le28).trans le124).trans le139).trans l)) (A.u 1 rfl rfl rfl) hx58 (fn rfl rfl I)), fun vs f w U X l A K I => pl_ rfl (af_ (e := x58) rfl sh3 (A.u 2 rfl rfl rfl) ((r17.mono (((((le4.trans le16).trans le28).trans le124).trans le139).trans l)).elem I.in_ hx58) (fn rfl rfl I)), fun vs f w U X l A K I => pl_ rfl (aj_ (v := (.slice z5 m5 k5)) (i := x58) (e := x59) rfl Tryz.underlying45 sh32 (A.u 0 rfl rfl rfl) (h1_.mono ((((((((le1.trans le2).trans le3).trans le4).trans le16).trans le28).trans le124).trans le139).trans l)) (A.u 4 rfl rfl rfl) hx59 (fn rfl rfl I)), ?_, ?_, ?_, ?_, ?_, ?_, ?_, trivial⟩ ?_
   ·
    intro vs f w_ U X le A K I
    refine pl_ rfl (an_ (e := a0) rfl jq_ ((K 3 (al_ rfl)).trans e266) ((p1.mono (((((((le2.trans le3).trans le4).trans le16).trans le28).trans le124).trans le139).trans le)).at_ I) (fun u63 hu63 => ?_))
    obtain ⟨c119, c120, c121, c122, e272, r139, r140, r141, r142⟩ := Riddle.inv hu63
    subst e272
    obtain ⟨z140, m140, k140, rfl⟩ := ae_ r139
    obtain ⟨z141, m141, k141, rfl⟩ := ae_ r140
    obtain ⟨z142, m142, k142, rfl⟩ := ae_ r141
    obtain ⟨z143, m143, k143, rfl⟩ := ae_ r142
    refine ⟨_, _, rfl, lr, ?_, ?_⟩
    · exact (Riddle.rv (s := a0) r139 r140 r141 r142)
    exact I
   ·
    intro vs f w_ U X le A K I
    have q156 := A.u 5 rfl rfl rfl
    refine pl_ rfl (an_ (e := x59) rfl sh32 q156 ((h1_.mono ((((((((le1.trans le2).trans le3).trans le4).trans le16).trans le28).trans le124).trans le139).trans le)).elem I.in_ hx59) (fun u64 hu64 => ?_))
    obtain ⟨c123, e277, r143⟩ := Aid.inv hu64
    subst e277
    obtain ⟨z144, m144, k144, rfl⟩ := ae_ r143
    refine ⟨_, _, rfl, lr, ?_, ?_⟩
    · exact (Aid.rv (s := x59) r143)
    exact I
   ·
    intro vs f w_ U X le A K I
    have q157 : f 161 = vs 0 := (A.at_ 0 rfl _ rfl).1 _ rfl
    have r144 : RV U (vs 0) a0 := (A.at_ 0 rfl _ rfl).2
    obtain ⟨u65, hu65⟩ : ∃ u, vs 0 = u := ⟨_, rfl⟩
    rw [hu65] at q157 r144
    obtain ⟨c124, c125, c126, c127, e279, r145, r146, r147, r148⟩ := Riddle.inv r144
    subst e279
    obtain ⟨z145, m145, k145, rfl⟩ := ae_ r145
    obtain ⟨z146, m146, k146, rfl⟩ := ae_ r146
    obtain ⟨z147, m147, k147, rfl⟩ := ae_ r147
    obtain ⟨z148, m148, k148, rfl⟩ := ae_ r148
    have q158 : f 168 = vs 7 := (A.at_ 7 rfl _ rfl).1 _ rfl
    have r149 : RV U (vs 7) x59 := (A.at_ 7 rfl _ rfl).2
    obtain ⟨u66, hu66⟩ : ∃ u, vs 7 = u := ⟨_, rfl⟩
    rw [hu66] at q158 r149
    obtain ⟨c128, e284, r150⟩ := Aid.inv r149
    subst e284
    obtain ⟨z149, m149, k149, rfl⟩ := ae_ r150
    refine pl_ rfl (bp_ (vs := [(.agg #[(.slice z145 m145 k145), (.slice z146 m146 k146), (.slice z147 m147 k147), (.slice z148 m148 k148)]), (.agg #[(vi x59.Lock), (vi x59.Clue.Kind), (vi x59.Clue.A), (vi x59.Clue.B), (vi x59.Clue.N), (vi x59.Clue.M), (.slice z149 m149 k149), (vb x59.Clue.Not)])]) rfl ca16 rfl (bt_ q157 q158) (na_ I (Riddle.rv (s := a0) r145 r146 r147 r148) (Aid.rv (s := x59) r150) hx60) (fun cv6 w172 S149 O6 le149 I180 hv6 => ?_))
    obtain ⟨z150, m150, k150, rfl, rfl⟩ := hv6
    refine ⟨_, _, rfl, le149, ?_, ?_⟩
    · exact ⟨_, _, _, rfl⟩
    exact I180
   ·
    intro vs f w_ U X le A K I
    obtain ⟨z151, m151, k151, e286⟩ := (A.at_ 8 rfl _ rfl).2
    have e286 : vs 8 = (Value.tuple #[(Value.slice z151 m151 k151), (vi x60.2)]) := e286
    have q159 : f 169 = (Value.tuple #[(Value.slice z151 m151 k151), (vi x60.2)]) := ((A.at_ 8 rfl _ rfl).1 _ rfl).trans e286
    refine pl_ rfl (ax_ rfl q159 (⟨_, _, rfl, lr, ?_, ?_⟩))
    ·
     show (Value.tuple #[(Value.slice z151 m151 k151), (Value.int .i64 (x60.2))]) = (Value.tuple #[(oi_ (vs 8) 0), (Value.int .i64 (x60.2))])
     simp only [e286] <;> rfl
    exact I
   ·
    intro vs f w_ U X le A K I
    obtain ⟨z152, m152, k152, e287⟩ := (A.at_ 8 rfl _ rfl).2
    have e287 : vs 8 = (Value.tuple #[(Value.slice z152 m152 k152), (vi x60.2)]) := e287
    have q160 : f 169 = (Value.tuple #[(Value.slice z152 m152 k152), (vi x60.2)]) := ((A.at_ 8 rfl _ rfl).1 _ rfl).trans e287
    have q161 : f 160 = (Value.tuple #[(oi_ (vs 8) 0), (vi x60.2)]) := A.u 9 rfl rfl rfl
    simp only [e287] at q161
    have q161 : f 160 = (Value.tuple #[(Value.slice z152 m152 k152), (vi x60.2)]) := q161
    refine pl_ rfl (bc_ (v := (.slice z152 m152 k152)) rfl q161 rfl (⟨_, _, rfl, lr, ?_, ?_⟩))
    ·
     show (Value.slice z152 m152 k152) = (oi_ (vs 8) 0)
     simp only [e287] <;> rfl
    exact I
   ·
    intro vs f w_ U X le A K I
    obtain ⟨z153, m153, k153, e288⟩ := (A.at_ 8 rfl _ rfl).2
    have e288 : vs 8 = (Value.tuple #[(Value.slice z153 m153 k153), (vi x60.2)]) := e288
    have q162 : f 169 = (Value.tuple #[(Value.slice z153 m153 k153), (vi x60.2)]) := ((A.at_ 8 rfl _ rfl).1 _ rfl).trans e288
    have q163 : f 160 = (Value.tuple #[(oi_ (vs 8) 0), (vi x60.2)]) := A.u 9 rfl rfl rfl
    simp only [e288] at q163
    have q163 : f 160 = (Value.tuple #[(Value.slice z153 m153 k153), (vi x60.2)]) := q163
    refine pl_ rfl (bc_ (v := (vi x60.2)) rfl q163 rfl (fn rfl rfl I))
   ·
    intro vs f w_ U X le A K I
    obtain ⟨z154, m154, k154, e289⟩ := (A.at_ 8 rfl _ rfl).2
    have e289 : vs 8 = (Value.tuple #[(Value.slice z154 m154 k154), (vi x60.2)]) := e289
    have q164 : f 169 = (Value.tuple #[(Value.slice z154 m154 k154), (vi x60.2)]) := ((A.at_ 8 rfl _ rfl).1 _ rfl).trans e289
    have q165 : f 160 = (Value.tuple #[(oi_ (vs 8) 0), (vi x60.2)]) := A.u 9 rfl rfl rfl
    simp only [e289] at q165
    have q165 : f 160 = (Value.tuple #[(Value.slice z154 m154 k154), (vi x60.2)]) := q165
    have q166 : f 170 = (oi_ (vs 8) 0) := A.u 10 rfl rfl rfl
    simp only [e289] at q166
    have q166 : f 170 = (Value.slice z154 m154 k154) := q166
    refine pl_ rfl (br_ (v := (.slice z154 m154 k154)) rfl q166 (⟨_, _, rfl, lr, ?_, ?_⟩))
    ·
     show (Value.slice z154 m154 k154) = (oi_ (vs 8) 0)
     simp only [e289] <;> rfl
    exact I
   ·
    intro vs f w_ U X le A K I
    refine pl_ rfl (br_ (v := (vi x60.2)) rfl (A.u 11 rfl rfl rfl) (fn rfl rfl I))
   intro vs144 f w178 S155 ed14 le155 hF10 hK144 hI145
   have e290 : f 1 = (Value.slice z5 m5 k5) := (hK144 1 (ar_ rfl)).trans e265
   have e291 : f 3 = (pt_ g1) := (hK144 3 (ar_ rfl)).trans e266
   have e292 : f 7 = (Value.slice z18 m18 k18) := (hK144 7 (ar_ rfl)).trans e267
   have e293 : f 13 = (Value.slice z31 m31 k31) := (hK144 13 (ar_ rfl)).trans e268
   have e294 : f 15 = (vi x18.1) := (hK144 15 (ar_ rfl)).trans e269
   have e295 : f 16 = (vi x20.1) := (hK144 16 (ar_ rfl)).trans e270
   have e296 : f 17 = (vi ((i1 : Int))) := (hK144 17 (ar_ rfl)).trans e271
   have e297 : f 18 = (vi x57.1) := (hK144 18 (ar_ rfl)).trans q149
   have e298 : f 19 = (vi x57.2) := (hK144 19 (ar_ rfl)).trans q150
   have I186 : Inv w178 S155 (Row (α := Int) 3 (oi_ (vs144 8) 0) (x60.1) :: Fr) := hI145
   obtain ⟨z155, m155, k155, e299⟩ := (hF10.at_ 8 rfl _ rfl).2
   have e299 : vs144 8 = (Value.tuple #[(Value.slice z155 m155 k155), (vi x60.2)]) := e299
   have q168 : f 169 = (Value.tuple #[(Value.slice z155 m155 k155), (vi x60.2)]) := ((hF10.at_ 8 rfl _ rfl).1 _ rfl).trans e299
   have I187 := I186
   rw [e299] at I187
   have q169 : f 160 = (Value.tuple #[(oi_ (vs144 8) 0), (vi x60.2)]) := hF10.u 9 rfl rfl rfl
   simp only [e299] at q169
   have q169 : f 160 = (Value.tuple #[(Value.slice z155 m155 k155), (vi x60.2)]) := q169
   have q170 : f 170 = (oi_ (vs144 8) 0) := hF10.u 10 rfl rfl rfl
   simp only [e299] at q170
   have q170 : f 170 = (Value.slice z155 m155 k155) := q170
   have q171 : f 20 = (oi_ (vs144 8) 0) := hF10.u 12 rfl rfl rfl
   simp only [e299] at q171
   have q171 : f 20 = (Value.slice z155 m155 k155) := q171
   have q172 := hF10.u 13 rfl rfl rfl
   refine ab_ (aa_ (wm_ rfl e298 (wo_ (ce_ (a := x57.2) (b := 0) rfl rfl rfl (wm_ (v := (vb (x57.2 != 0))) rfl rfl ?_)))))
   rcases ifs h7 with ⟨hc62, h7⟩ | ⟨hc62, h7⟩
   ·
    refine ws_ rfl rfl hc62 (ws_ rfl rfl hc62 (wo_ (av_ (c := x57.2 != 0) (a := (vb true)) rfl rfl hc62 rfl (wm_ (v := (vb true)) rfl rfl (ws_ (c := true) rfl rfl rfl (ws_ (c := true) rfl rfl rfl (ws_ (c := true) rfl rfl rfl (wo_ (av_ (c := true) (a := (vb true)) rfl rfl rfl rfl (wm_ (v := (vb true)) rfl rfl (ws_ (c := true) rfl rfl rfl (ws_ (c := true) rfl rfl rfl (ws_ (c := true) rfl rfl rfl (wo_ (av_ (c := true) (a := (vb true)) rfl rfl rfl rfl (wm_ (v := (vb true)) rfl rfl (ws_ (c := true) rfl rfl rfl (ws_ (c := true) rfl rfl rfl (wo_ (av_ (c := true) (a := (vb true)) rfl rfl rfl rfl (wm_ (v := (vb true)) rfl rfl (ws_ (c := true) rfl rfl rfl (ws_ (c := true) rfl rfl rfl (ws_ (c := true) rfl rfl rfl (ws_ (c := true) rfl rfl rfl (wo_ (av_ (c := true) (a := (vb true)) rfl rfl rfl rfl (wm_ (v := (vb true)) rfl rfl (ws_ (c := true) rfl rfl rfl ?_)))))))))))))))))))))))))))))
    refine ws_ (c := true) rfl rfl rfl (ws_ (c := true) rfl rfl rfl (wo_ (av_ (c := true) (a := (vb true)) rfl rfl rfl rfl (ad_ (ai_ (b := true) rfl rfl (ab_ (aa_ (wa_ (v := (vb false)) rfl rfl (ad_ (ak_ ?_))))))))))
    obtain rfl := sj h7
    obtain rfl := (hout1 _ rfl)
    have h8 := h
    obtain rfl := sj h8
    exact ⟨(ed14.trans (ed13.trans ed12)), (vb false), (bo_ rfl rfl), _, [], ((((((((le1.trans le2).trans le3).trans le4).trans le16).trans le28).trans le124).trans le139).trans le155), (I187).drop, rfl, rfl⟩
   refine wk_ rfl rfl hc62 (ax_ rfl q172 (wk_ rfl rfl hc62 (ce_ (a := x60.2) (b := 0) rfl rfl rfl (wo_ (ao_ (c := x57.2 != 0) (b := (vb (x60.2 != 0))) rfl rfl hc62 rfl (wm_ (v := (vb (x60.2 != 0))) rfl rfl ?_))))))
   rcases ifs h7 with ⟨hc63, h7⟩ | ⟨hc63, h7⟩
   ·
    refine ws_ rfl rfl hc63 (ws_ rfl rfl hc63 (ws_ rfl rfl hc63 (wo_ (av_ (c := x60.2 != 0) (a := (vb true)) rfl rfl hc63 rfl (wm_ (v := (vb true)) rfl rfl (ws_ (c := true) rfl rfl rfl (ws_ (c := true) rfl rfl rfl (ws_ (c := true) rfl rfl rfl (wo_ (av_ (c := true) (a := (vb true)) rfl rfl rfl rfl (wm_ (v := (vb true)) rfl rfl (ws_ (c := true) rfl rfl rfl (ws_ (c := true) rfl rfl rfl (wo_ (av_ (c := true) (a := (vb true)) rfl rfl rfl rfl (wm_ (v := (vb true)) rfl rfl (ws_ (c := true) rfl rfl rfl (ws_ (c := true) rfl rfl rfl (ws_ (c := true) rfl rfl rfl (ws_ (c := true) rfl rfl rfl (wo_ (av_ (c := true) (a := (vb true)) rfl rfl rfl rfl (wm_ (v := (vb true)) rfl rfl (ws_ (c := true) rfl rfl rfl (ws_ (c := true) rfl rfl rfl (ws_ (c := true) rfl rfl rfl (wo_ (av_ (c := true) (a := (vb true)) rfl rfl rfl rfl (ad_ ?_)))))))))))))))))))))))))))))
    refine ai_ (b := true) rfl rfl (ab_ (aa_ (wa_ (v := (vb false)) rfl rfl (ad_ (ak_ ?_)))))
    obtain rfl := sj h7
    obtain rfl := (hout1 _ rfl)
    have h8 := h
    obtain rfl := sj h8
    exact ⟨(ed14.trans (ed13.trans ed12)), (vb false), (bo_ rfl rfl), _, [], ((((((((le1.trans le2).trans le3).trans le4).trans le16).trans le28).trans le124).trans le139).trans le155), (I187).drop, rfl, rfl⟩
   refine wk_ rfl rfl hc63 (ax_ rfl e297 (wk_ rfl rfl hc63 (ax_ rfl e294 (wk_ rfl rfl hc63 (ln_ (a := x57.1) (b := x18.1) rfl rfl rfl (wo_ (ao_ (c := x60.2 != 0) (b := (vb (decide (x18.1 < x57.1)))) rfl rfl hc63 rfl (wm_ (v := (vb (decide (x18.1 < x57.1)))) rfl rfl ?_))))))))
   rcases ifs h7 with ⟨hc64, h7⟩ | ⟨hc64, h7⟩
   ·
    refine ws_ rfl rfl hc64 (ws_ rfl rfl hc64 (ws_ rfl rfl hc64 (wo_ (av_ (c := decide (x18.1 < x57.1)) (a := (vb true)) rfl rfl hc64 rfl (wm_ (v := (vb true)) rfl rfl (ws_ (c := true) rfl rfl rfl (ws_ (c := true) rfl rfl rfl (wo_ (av_ (c := true) (a := (vb true)) rfl rfl rfl rfl (wm_ (v := (vb true)) rfl rfl (ws_ (c := true) rfl rfl rfl (ws_ (c := true) rfl rfl rfl (ws_ (c := true) rfl rfl rfl (ws_ (c := true) rfl rfl rfl (wo_ (av_ (c := true) (a := (vb true)) rfl rfl rfl rfl (wm_ (v := (vb true)) rfl rfl (ws_ (c := true) rfl rfl rfl (ws_ (c := true) rfl rfl rfl (ws_ (c := true) rfl rfl rfl (wo_ (av_ (c := true) (a := (vb true)) rfl rfl rfl rfl (ad_ (ai_ (b := true) rfl rfl (ab_ (aa_ (wa_ (v := (vb false)) rfl rfl (ad_ (ak_ ?_)))))))))))))))))))))))))))))
    obtain rfl := sj h7
    obtain rfl := (hout1 _ rfl)
    have h8 := h
    obtain rfl := sj h8
    exact ⟨(ed14.trans (ed13.trans ed12)), (vb false), (bo_ rfl rfl), _, [], ((((((((le1.trans le2).trans le3).trans le4).trans le16).trans le28).trans le124).trans le139).trans le155), (I187).drop, rfl, rfl⟩
   refine wk_ rfl rfl hc64 (ax_ rfl e297 (wk_ rfl rfl hc64 (ax_ rfl e295 (wk_ rfl rfl hc64 (bg_ (a := x57.1) (b := x20.1) rfl rfl rfl (wo_ (ao_ (c := decide (x18.1 < x57.1)) (b := (vb (decide (x57.1 < x20.1)))) rfl rfl hc64 rfl (wm_ (v := (vb (decide (x57.1 < x20.1)))) rfl rfl ?_))))))))
   rcases ifs h7 with ⟨hc65, h7⟩ | ⟨hc65, h7⟩
   ·
    refine ws_ rfl rfl hc65 (ws_ rfl rfl hc65 (wo_ (av_ (c := decide (x57.1 < x20.1)) (a := (vb true)) rfl rfl hc65 rfl (wm_ (v := (vb true)) rfl rfl (ws_ (c := true) rfl rfl rfl (ws_ (c := true) rfl rfl rfl (ws_ (c := true) rfl rfl rfl (ws_ (c := true) rfl rfl rfl (wo_ (av_ (c := true) (a := (vb true)) rfl rfl rfl rfl (wm_ (v := (vb true)) rfl rfl (ws_ (c := true) rfl rfl rfl (ws_ (c := true) rfl rfl rfl (ws_ (c := true) rfl rfl rfl (wo_ (av_ (c := true) (a := (vb true)) rfl rfl rfl rfl (ad_ (ai_ (b := true) rfl rfl (ab_ (aa_ (wa_ (v := (vb false)) rfl rfl (ad_ (ak_ ?_)))))))))))))))))))))))
    obtain rfl := sj h7
    obtain rfl := (hout1 _ rfl)
    have h8 := h
    obtain rfl := sj h8
    exact ⟨(ed14.trans (ed13.trans ed12)), (vb false), (bo_ rfl rfl), _, [], ((((((((le1.trans le2).trans le3).trans le4).trans le16).trans le28).trans le124).trans le139).trans le155), (I187).drop, rfl, rfl⟩
   refine wk_ rfl rfl hc65 (ax_ rfl e297 (wk_ rfl rfl hc65 (bg_ (a := x57.1) (b := 1) rfl rfl rfl (wo_ (ao_ (c := decide (x57.1 < x20.1)) (b := (vb (decide (x57.1 < 1)))) rfl rfl hc65 rfl (wm_ (v := (vb (decide (x57.1 < 1)))) rfl rfl ?_))))))
   rcases ifs h7 with ⟨hc66, h7⟩ | ⟨hc66, h7⟩
   ·
    refine ws_ rfl rfl hc66 (ws_ rfl rfl hc66 (ws_ rfl rfl hc66 (ws_ rfl rfl hc66 (wo_ (av_ (c := decide (x57.1 < 1)) (a := (vb true)) rfl rfl hc66 rfl (wm_ (v := (vb true)) rfl rfl (ws_ (c := true) rfl rfl rfl (ws_ (c := true) rfl rfl rfl (ws_ (c := true) rfl rfl rfl (wo_ (av_ (c := true) (a := (vb true)) rfl rfl rfl rfl (ad_ (ai_ (b := true) rfl rfl (ab_ (aa_ (wa_ (v := (vb false)) rfl rfl (ad_ (ak_ ?_))))))))))))))))))
    obtain rfl := sj h7
    obtain rfl := (hout1 _ rfl)
    have h8 := h
    obtain rfl := sj h8
    exact ⟨(ed14.trans (ed13.trans ed12)), (vb false), (bo_ rfl rfl), _, [], ((((((((le1.trans le2).trans le3).trans le4).trans le16).trans le28).trans le124).trans le139).trans le155), (I187).drop, rfl, rfl⟩
   refine wk_ rfl rfl hc66 (ax_ rfl e297 (wk_ rfl rfl hc66 (ax_ rfl e293 (wk_ rfl rfl hc66 (bb_ rfl Tryz.underlying23 rfl (r30.mono ((((le16.trans le28).trans le124).trans le139).trans le155)) (wk_ rfl rfl hc66 (km_ (a := x57.1) (b := (x12.1.length : Int)) rfl rfl rfl (wo_ (ao_ (c := decide (x57.1 < 1)) (b := (vb (decide ((x12.1.length : Int) ≤ x57.1)))) rfl rfl hc66 rfl (wm_ (v := (vb (decide ((x12.1.length : Int) ≤ x57.1)))) rfl rfl ?_))))))))))
   rcases ifs h7 with ⟨hc67, h7⟩ | ⟨hc67, h7⟩
   ·
    refine ws_ rfl rfl hc67 (ws_ rfl rfl hc67 (ws_ rfl rfl hc67 (wo_ (av_ (c := decide ((x12.1.length : Int) ≤ x57.1)) (a := (vb true)) rfl rfl hc67 rfl (ad_ (ai_ (b := true) rfl rfl (ab_ (aa_ (wa_ (v := (vb false)) rfl rfl (ad_ (ak_ ?_)))))))))))
    obtain rfl := sj h7
    obtain rfl := (hout1 _ rfl)
    have h8 := h
    obtain rfl := sj h8
    exact ⟨(ed14.trans (ed13.trans ed12)), (vb false), (bo_ rfl rfl), _, [], ((((((((le1.trans le2).trans le3).trans le4).trans le16).trans le28).trans le124).trans le139).trans le155), (I187).drop, rfl, rfl⟩
   refine wk_ rfl rfl hc67 (ax_ rfl q171 (wk_ rfl rfl hc67 (ij_ (α := Int) rfl Tryz.underlying28 rfl (I187.nth 0 rfl) (wk_ rfl rfl hc67 (ln_ (a := (x60.1.length : Int)) (b := 0) rfl rfl rfl (wo_ (ao_ (c := decide ((x12.1.length : Int) ≤ x57.1)) (b := (vb (decide (0 < (x60.1.length : Int))))) rfl rfl hc67 rfl (ad_ ?_))))))))
   rcases ifs h7 with ⟨hc68, h7⟩ | ⟨hc68, h7⟩
   ·
    refine ai_ (b := decide (0 < (x60.1.length : Int))) rfl hc68 (ab_ (aa_ (wa_ (v := (vb false)) rfl rfl (ad_ (ak_ ?_)))))
    obtain rfl := sj h7
    obtain rfl := (hout1 _ rfl)
    have h8 := h
    obtain rfl := sj h8
    exact ⟨(ed14.trans (ed13.trans ed12)), (vb false), (bo_ rfl rfl), _, [], ((((((((le1.trans le2).trans le3).trans le4).trans le16).trans le28).trans le124).trans le139).trans le155), (I187).drop, rfl, rfl⟩
   refine am_ (b := decide (0 < (x60.1.length : Int))) rfl hc68 (aw_ (aa_ (wm_ rfl e296 (wo_ (bq_ (a := (i1 : Int)) (b := 1) rfl rfl rfl (wa_ (v := (vi (w64 ((i1 : Int) + 1)))) rfl rfl (ad_ ?_)))))))
   obtain rfl := sj h7
   exact ⟨_, rfl, _, ((le124.trans le139).trans le155), (I187).drop, e290, e291, e292, e293, e294, e295, (bn_ hlt1 hk1), (ed14.trans (ed13.trans ed12))⟩
  rintro s2 f w hs1 hI146
  obtain ⟨S156, le156, I188, e300, e301, e302, e303, e304, e305, e306, ed15⟩ := hI146
  refine ab_ (ab_ (aa_ (wm_ rfl e306 (wm_ rfl e302 (wo_ (bb_ rfl Tryz.underlying28 rfl (r17.mono (((le4.trans le16).trans le28).trans le156)) (wo_ (bg_ (a := (x7.1.length : Int)) (b := (x7.1.length : Int)) rfl rfl rfl (ad_ (am_ (b := decide ((x7.1.length : Int) < (x7.1.length : Int))) rfl (gk_ _) (bm_ ?_)))))))))))
  exact ⟨s2, hs1, _, le156, I188, e300, e301, e302, e303, e304, e305, ed15⟩
 rintro f w ⟨out1, rfl, S157, le157, I189, e307, e308, e309, e310, e311, e312, ed16⟩
 have h := ei_ h
 refine ab_ (aa_ ?_)
 obtain ⟨x61, hx61, h⟩ := bnd h
 refine wo_ (ap_ (vs := []) (r := (vb x61)) rfl ca10 rfl args0 I189 (fun Fr_ hF_ => gn_ hF_  hx61) (fun w179 I190 => (wa_ (v := (vb x61)) rfl rfl (ad_ (ak_ ?_)))))
 obtain rfl := sj h
 exact ⟨ed16, (vb x61), (bo_ rfl rfl), _, [], ((((((le1.trans le2).trans le3).trans le4).trans le16).trans le28).trans le157), I190, rfl, rfl⟩
end Go.Proofs.YtlpdpeghgndmkaaGreat.Pad
