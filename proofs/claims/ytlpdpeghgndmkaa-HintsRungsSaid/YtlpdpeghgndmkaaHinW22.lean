/- A part of the proof: what the functions of the program compute, shown over the model. -/
import Derived.Test.YtlpdpeghgndmkaaHinP
import Derived.Test.YtlpdpeghgndmkaaHinW4
import Derived.Test.YtlpdpeghgndmkaaHinW11
import Derived.Test.YtlpdpeghgndmkaaHinW13
import Derived.Test.YtlpdpeghgndmkaaHinW21
import Derived.KernelRfl
set_option linter.unusedVariables false
set_option maxHeartbeats 4000000
set_option maxRecDepth 100000
namespace Go.Proofs.Ytlpdpeghgndmkaa.Pad
open Go Go.Proofs
theorem hints_Allowed_ok {w : World} {S : PH} {Fr : List HP} {a0 : Riddle} {v0 : Value} {a1 : (List Aid)} {v1 : Value} {a2 : Int} {r : (List Int) × Int} (hI : Inv w S (Fr)) (h0_ : RV S v0 a0) (h1_ : RV S v1 a1) (h : ig_ a0 a1 a2 = some r) :
    Calls Try.prog 30 [v0, v1, (Value.int .i64 (a2))].toArray w (mu_ S Fr (fun T_ v_ O_ => ∃ (a0_ : Option Addr) (n0_ k0_ : Nat), v_ = (Value.tuple #[(Value.slice a0_ n0_ k0_), (Value.int .i64 (r.2))]) ∧ O_ = [Row (α := Int) 3 (Value.slice a0_ n0_ k0_) (r.1)])) := by
 unfold ig_ at h
 obtain ⟨c1, c2, c3, c4, e1, r1, r2, r3, r4⟩ := Riddle.inv h0_
 subst e1
 obtain ⟨z1, m1, k1, rfl⟩ := ad_ r1
 obtain ⟨z2, m2, k2, rfl⟩ := ad_ r2
 obtain ⟨z3, m3, k3, rfl⟩ := ad_ r3
 obtain ⟨z4, m4, k4, rfl⟩ := ad_ r4
 obtain ⟨z5, m5, k5, rfl⟩ := ad_ h1_
 refine hl_ (n := 28) (vs := [(.agg #[(.slice z1 m1 k1), (.slice z2 m2 k2), (.slice z3 m3 k3), (.slice z4 m4 k4)]), (.slice z5 m5 k5), (vi a2)]) Try.func30 rfl rfl rfl ?_
 have I1 := Inv.noD hI
 refine ab_ (aa_ (wo_ (bh_ (v := (.agg #[(.slice z1 m1 k1), (.slice z2 m2 k2), (.slice z3 m3 k3), (.slice z4 m4 k4)])) rfl I1 rfl (fun g1 w1 I2 => ?_))))
 obtain ⟨S1, le1, I3, p1⟩ := Inv.boxFreeze (x := a0) I2 (Riddle.rv (s := a0) r1 r2 r3 r4)
 refine wo_ (bv_ (z := (.slice none 0 0)) rfl I3 zo28 (fun g2 w2 (I4 : Inv w2 S1 (ao_ g2 28 #[(.slice none 0 0)] :: od_ ([]) :: Fr)) => (wa_ (v := (vi 0)) rfl rfl (ae_ (ab_ (ab_ (aa_ (wo_ (an_ (v := (pt_ g1)) (e := a0) rfl hn_ rfl (p1.at_ I4) (fun u1 hu1 => ?_))))))))))
 obtain ⟨c5, c6, c7, c8, e7, r5, r6, r7, r8⟩ := Riddle.inv hu1
 subst e7
 obtain ⟨z6, m6, k6, rfl⟩ := ad_ r5
 obtain ⟨z7, m7, k7, rfl⟩ := ad_ r6
 obtain ⟨z8, m8, k8, rfl⟩ := ad_ r7
 obtain ⟨z9, m9, k9, rfl⟩ := ad_ r8
 refine wm_ (v := (.slice z5 m5 k5)) rfl rfl (wm_ (v := (vi a2)) rfl rfl ?_)
 obtain ⟨x1, hx1, h⟩ := bnd h
 refine wo_ (aq_ (vs := [(.agg #[(.slice z6 m6 k6), (.slice z7 m7 k7), (.slice z8 m8 k8), (.slice z9 m9 k9)]), (.slice z5 m5 k5), (vi a2)]) (r := (vi x1)) rfl ca60 rfl (cu_ rfl rfl rfl) I4 (fun Fr_ hF_ => la_ hF_ (Riddle.rv (s := a0) r5 r6 r7 r8) (h1_.mono le1) hx1) (fun w3 I5 => (wa_ (v := (vi x1)) rfl rfl (ae_ (ab_ (aa_ (wm_ (v := (vi x1)) rfl rfl (wo_ (cd_ (a := x1) (b := 0) rfl rfl rfl (ae_ ?_))))))))))
 rcases ifs h with ⟨hc1, h⟩ | ⟨hc1, h⟩
 ·
  refine ai_ (b := x1 != 0) rfl hc1 (ab_ (aa_ (wm_ (v := (vi x1)) rfl rfl (wo_ (bc_ (v := (.slice none 0 0)) (cs := #[(.slice none 0 0)]) hc_ I5 rfl rfl rfl (Nat.le_of_ble_eq_true rfl) rfl (fun w4 (I6 : Inv w4 S1 (ao_ g2 28 #[(.slice none 0 0)] :: od_ ([]) :: Fr)) => (wa_ (v := (vi x1)) rfl rfl (ae_ (al_ (ret_m rfl (I6.pull 1) (fun w5 I7 => ?_)))))))))))
  have I8 := Inv.rowNil (α := Int) (T := 3) I7
  obtain rfl := sj h
  exact ⟨(Value.tuple #[(.slice none 0 0), (vi x1)]), (res2c1 (c := (.slice none 0 0)) rfl rfl hc_ I7 rfl), _, [Row (α := Int) 3 (.slice none 0 0) (([] : List Int))], le1, (I8.pull 1).drop, _, _, _, rfl, rfl⟩
 refine am_ (b := x1 != 0) rfl hc1 (av_ (ab_ (ab_ (aa_ (wo_ (an_ (v := (pt_ g1)) (e := a0) rfl hn_ rfl (p1.at_ I5) (fun u2 hu2 => ?_)))))))
 obtain ⟨c9, c10, c11, c12, e12, r9, r10, r11, r12⟩ := Riddle.inv hu2
 subst e12
 obtain ⟨z10, m10, k10, rfl⟩ := ad_ r9
 obtain ⟨z11, m11, k11, rfl⟩ := ad_ r10
 obtain ⟨z12, m12, k12, rfl⟩ := ad_ r11
 obtain ⟨z13, m13, k13, rfl⟩ := ad_ r12
 refine wm_ (v := (.slice z5 m5 k5)) rfl rfl (wm_ (v := (vi a2)) rfl rfl ?_)
 obtain ⟨x2, hx2, h⟩ := bnd h
 refine wo_ (bm_ (vs := [(.agg #[(.slice z10 m10 k10), (.slice z11 m11 k11), (.slice z12 m12 k12), (.slice z13 m13 k13)]), (.slice z5 m5 k5), (vi a2)]) rfl ca68 rfl (cu_ rfl rfl rfl) (mt_ I5 (Riddle.rv (s := a0) r9 r10 r11 r12) (h1_.mono le1) hx2) (fun cv1 w6 S2 O1 le2 I9 hv1 => ?_))
 obtain ⟨p2, p3, p4, rfl, rfl, r13, r14, r15⟩ := hv1
 refine ae_ (ay_ ?_)
 have I23 := Inv.rowNil (α := Int) (T := 3) I9
 obtain ⟨o2, hrun1, h⟩ := bnd h
 refine nv_ (M := argII) (F := (fun g_ s_ => dp_ g_ x2.1 x2.2.1 x2.2.2 s_)) (fun (s1 : (List Int)) => HPof fun S_ L_ => ∃ (z22 : Option Addr) (m22 k22 : Nat), L_ = [ao_ g2 28 #[(.slice z22 m22 k22)], Row (α := Int) 3 (.slice z22 m22 k22) (s1)]) (fun e=>by cases e) (fun _ => Code.ret) rfl rfl argII_len ⟨92, [], [p2, p3, p4], rfl, ca92, fun R_ Rx_ g_ T_ w_ Fr_ v_ s_ o_ hle_ ho_ hy_ hI_ h_ => Calls.doneMono (kw_ hI_ ho_ hy_ (r13.mono hle_) (r14.mono hle_) (r15.mono hle_) h_) fun _ _ _ hp_ => hp_.2⟩ (Inv.ofShut (L := [ao_ g2 28 #[(.slice none 0 0)], Row (α := Int) 3 (.slice none 0 0) (([] : List Int))]) ⟨_, _, _, rfl⟩ (I23.pull 1)) hrun1 ?_ ?_
 ·
  intro l1 rc1 S3 w16 us1 x7 s2 o3 G1 le3 hr1 hn1 hI1 h1
  obtain rfl := hr1
  obtain ⟨S4, L1, le4, ⟨z23, m23, k23, rfl⟩, I24⟩ := Inv.ofOpen (hI1.pull 1)
  have I25 : Inv w16 S3 (ao_ g2 28 #[(Value.slice z23 m23 k23)] :: Row (α := Int) 3 (Value.slice z23 m23 k23) (s2) :: fl_ l1 rc1 :: G1) := I24
  refine aa_ (wa_ (v := (vi x7.1)) rfl rfl (ae_ (⟨_, _, lr, (I25.pull 2), fun w17 I26 => ?_⟩)))
  refine ay_ (aa_ (wo_ (be_ (c := (.slice z23 m23 k23)) rfl hc_ (I26.nth 1 rfl) rfl rfl (wm_ (v := (vi x7.1)) rfl rfl (wo_ (bi_ (vs := [(vi x7.1)]) (r := ([x7.1] : List Int)) rfl Try.underlying28 el3 (ij_ rfl) rfl (by decide) (by decide) ⟨(ec_ _), trivial⟩ I26 (fun u9 w18 I27 => ?_)))))))
  obtain ⟨z24, m24, k24, e26⟩ := bj_ I27
  subst e26
  obtain ⟨x8, hx6, h1⟩ := bnd h1
  refine wo_ (ee_ (α := Int) (v := (.slice z23 m23 k23)) (u := (.slice z24 m24 k24)) rfl rfl Try.underlying28 el3 (by decide) (by decide) rfl rfl (I27.pull 3) (Inv.rowSrc (I27.nth 0 rfl)) hx6 (fun u10 w19 I28 => ?_))
  obtain ⟨z25, m25, k25, e27⟩ := bj_ I28
  subst e27
  refine wo_ (bc_ (v := (.slice z25 m25 k25)) (cs := #[(.slice z23 m23 k23)]) hc_ (I28.pull 3) rfl rfl rfl (Nat.le_of_ble_eq_true rfl) rfl (fun w20 (I29 : Inv w20 S3 (ao_ g2 28 #[(.slice z25 m25 k25)] :: Row (α := Int) 3 (.slice z25 m25 k25) (x8) :: Row (α := Int) 3 (.slice z24 m24 k24) (([x7.1] : List Int)) :: fl_ l1 { rc1 with state := .busy } :: G1)) => (ae_ ?_)))
  obtain rfl := sj h1
  exact ⟨_, _, lr, rfl, (Inv.swap (Inv.ofShut (L := [ao_ g2 28 #[(.slice z25 m25 k25)], Row (α := Int) 3 (.slice z25 m25 k25) (x8)]) ⟨_, _, _, rfl⟩ ((((I29.pull 2).drop.pull 2).pull 2).pull 2)))⟩
 intro D1 w21 S5 le5 I30
 rcases o2 with s3 | q2
 ·
  obtain ⟨S6, L2, le6, ⟨z26, m26, k26, rfl⟩, I31⟩ := Inv.ofOpen I30
  have I32 : Inv w21 S5 (ao_ g2 28 #[(Value.slice z26 m26 k26)] :: Row (α := Int) 3 (Value.slice z26 m26 k26) (s3) :: Dfr D1 :: od_ ([]) :: Fr) := I31
  have I33 := Inv.consD ((I32.pull 3).pull 3)
  have h := onE_inl h
  refine ly_ (ab_ (aa_ (wo_ (be_ (c := (.slice z26 m26 k26)) rfl hc_ (I33.nth 1 rfl) rfl rfl (wo_ (bc_ (v := (.slice z26 m26 k26)) (cs := #[(.slice z26 m26 k26)]) hc_ (I33.pull 1) rfl rfl rfl (Nat.le_of_ble_eq_true rfl) rfl (fun w22 (I34 : Inv w22 S5 (ao_ g2 28 #[(.slice z26 m26 k26)] :: od_ (D1 :: []) :: Row (α := Int) 3 (.slice z26 m26 k26) (s3) :: Fr)) => (wa_ (v := (vi 0)) rfl rfl (ae_ (al_ (ret_m (pc_ rfl) (I34.pull 1) (fun w23 I35 => ?_))))))))))))
  obtain rfl := sj h
  exact ⟨(Value.tuple #[(.slice z26 m26 k26), (vi 0)]), (res2c1 (c := (.slice z26 m26 k26)) rfl rfl hc_ I35 rfl), _, [Row (α := Int) 3 (.slice z26 m26 k26) (s3)], ((le1.trans le2).trans le5), (I35).drop, _, _, _, rfl, rfl⟩
 cases q2
theorem pd_ {w : World} {S : PH} {Fr : List HP} {a0 : Riddle} {v0 : Value} {a1 : (List Aid)} {v1 : Value} {a2 : Int} {r : Bool} (hI : Inv w S (Fr)) (h0_ : RV S v0 a0) (h1_ : RV S v1 a1) (h : gx_ a0 a1 a2 = some r) :
    Calls Try.prog 7 [v0, v1, (Value.int .i64 (a2))].toArray w (ce_ S Fr (Value.bool (r))) := by
 unfold gx_ at h
 obtain ⟨c1, c2, c3, c4, e1, r1, r2, r3, r4⟩ := Riddle.inv h0_
 subst e1
 obtain ⟨z1, m1, k1, rfl⟩ := ad_ r1
 obtain ⟨z2, m2, k2, rfl⟩ := ad_ r2
 obtain ⟨z3, m3, k3, rfl⟩ := ad_ r3
 obtain ⟨z4, m4, k4, rfl⟩ := ad_ r4
 obtain ⟨z5, m5, k5, rfl⟩ := ad_ h1_
 refine au_ (n := 150) (vs := [(.agg #[(.slice z1 m1 k1), (.slice z2 m2 k2), (.slice z3 m3 k3), (.slice z4 m4 k4)]), (.slice z5 m5 k5), (vi a2)]) Try.func7 rfl rfl rfl (ab_ (aa_ (wo_ (bh_ (v := (.agg #[(.slice z1 m1 k1), (.slice z2 m2 k2), (.slice z3 m3 k3), (.slice z4 m4 k4)])) rfl hI rfl (fun g1 w1 I1 => ?_)))))
 obtain ⟨S1, le1, I2, p1⟩ := Inv.boxFreeze (x := a0) I1 (Riddle.rv (s := a0) r1 r2 r3 r4)
 refine wa_ (v := (vb false)) rfl rfl (ae_ (ab_ (ab_ (aa_ (wo_ (an_ (v := (pt_ g1)) (e := a0) rfl hn_ rfl (p1.at_ I2) (fun u2 hu2 => ?_)))))))
 obtain ⟨c9, c10, c11, c12, e12, r9, r10, r11, r12⟩ := Riddle.inv hu2
 subst e12
 obtain ⟨z10, m10, k10, rfl⟩ := ad_ r9
 obtain ⟨z11, m11, k11, rfl⟩ := ad_ r10
 obtain ⟨z12, m12, k12, rfl⟩ := ad_ r11
 obtain ⟨z13, m13, k13, rfl⟩ := ad_ r12
 obtain ⟨x4, hx4, h⟩ := bnd h
 refine wo_ (aq_ (vs := [(.agg #[(.slice z10 m10 k10), (.slice z11 m11 k11), (.slice z12 m12 k12), (.slice z13 m13 k13)])]) (r := (vb x4)) rfl ca8 rfl (fs_ rfl) I2 (fun Fr_ hF_ => law07_Large_ok hF_ (Riddle.rv (s := a0) r9 r10 r11 r12) hx4) (fun w5 I6 => (wm_ (v := (vb x4)) rfl rfl ?_)))
 rcases ifs h with ⟨hc3, h⟩ | ⟨hc3, h⟩
 ·
  refine ws_ (c := x4) rfl rfl hc3 (ws_ (c := x4) rfl rfl hc3 (ws_ (c := x4) rfl rfl hc3 (wo_ (ax_ (c := x4) (a := (vb true)) rfl rfl hc3 rfl (ae_ (ai_ (b := true) rfl rfl (ab_ (aa_ ?_))))))))
  obtain ⟨x5, hx5, h⟩ := bnd h
  refine wo_ (aq_ (vs := []) (r := (vb x5)) rfl ca9 rfl args0 I6 (fun Fr_ hF_ => ja_ hF_  hx5) (fun w6 I7 => (wa_ (v := (vb x5)) rfl rfl (ae_ (al_ ?_)))))
  obtain rfl := sj h
  exact ⟨rfl, (vb x5), (br_ rfl rfl), _, [], le1, I7, rfl, rfl⟩
 refine wk_ (c := x4) rfl rfl hc3 (aw_ (v := (.slice z5 m5 k5)) rfl rfl (wk_ (c := x4) rfl rfl hc3 (bb_ rfl Try.underlying44 rfl (h1_.mono le1) (wk_ (c := x4) rfl rfl hc3 (mr_ (a := (a1.length : Int)) (b := 6) rfl rfl rfl (wo_ (ar_ (c := x4) (b := (vb (decide (6 < (a1.length : Int))))) rfl rfl hc3 rfl (ae_ ?_))))))))
 rcases ifs h with ⟨hc4, h⟩ | ⟨hc4, h⟩
 ·
  refine ai_ (b := decide (6 < (a1.length : Int))) rfl hc4 (ab_ (aa_ ?_))
  obtain ⟨x6, hx6, h⟩ := bnd h
  refine wo_ (aq_ (vs := []) (r := (vb x6)) rfl ca9 rfl args0 I6 (fun Fr_ hF_ => ja_ hF_  hx6) (fun w7 I8 => (wa_ (v := (vb x6)) rfl rfl (ae_ (al_ ?_)))))
  obtain rfl := sj h
  exact ⟨rfl, (vb x6), (br_ rfl rfl), _, [], le1, I8, rfl, rfl⟩
 refine am_ (b := decide (6 < (a1.length : Int))) rfl hc4 (av_ (ab_ (aa_ (wo_ (an_ (v := (pt_ g1)) (e := a0) rfl hn_ rfl (p1.at_ I6) (fun u3 hu3 => ?_))))))
 obtain ⟨c13, c14, c15, c16, e17, r13, r14, r15, r16⟩ := Riddle.inv hu3
 subst e17
 obtain ⟨z14, m14, k14, rfl⟩ := ad_ r13
 obtain ⟨z15, m15, k15, rfl⟩ := ad_ r14
 obtain ⟨z16, m16, k16, rfl⟩ := ad_ r15
 obtain ⟨z17, m17, k17, rfl⟩ := ad_ r16
 refine wm_ (v := (.slice z5 m5 k5)) rfl rfl (wm_ (v := (vi a2)) rfl rfl ?_)
 obtain ⟨x7, hx7, h⟩ := bnd h
 refine wo_ (bm_ (vs := [(.agg #[(.slice z14 m14 k14), (.slice z15 m15 k15), (.slice z16 m16 k16), (.slice z17 m17 k17)]), (.slice z5 m5 k5), (vi a2)]) rfl ca27 rfl (cu_ rfl rfl rfl) (hints_Ladder_ok I6 (Riddle.rv (s := a0) r13 r14 r15 r16) (h1_.mono le1) hx7) (fun cv1 w8 S2 O1 le2 I9 hv1 => ?_))
 obtain ⟨z18, m18, k18, rfl, rfl⟩ := hv1
 obtain ⟨S3, le3, I10, r17⟩ := Inv.rowFreeze I9
 refine wm_ (v := (Value.tuple #[(.slice z18 m18 k18), (vi x7.2)])) rfl rfl (wo_ (bd_ (v := (.slice z18 m18 k18)) rfl rfl rfl (wo_ (bd_ (v := (vi x7.2)) rfl rfl rfl (wa_ (v := (.slice z18 m18 k18)) rfl rfl (wa_ (v := (vi x7.2)) rfl rfl (ae_ (ab_ (ab_ (aa_ (wm_ (v := (vi x7.2)) rfl rfl (wo_ (cd_ (a := x7.2) (b := 0) rfl rfl rfl (ae_ ?_))))))))))))))
 rcases ifs h with ⟨hc5, h⟩ | ⟨hc5, h⟩
 ·
  refine ai_ (b := x7.2 != 0) rfl hc5 (ab_ (aa_ ?_))
  obtain ⟨x8, hx8, h⟩ := bnd h
  refine wo_ (aq_ (vs := []) (r := (vb x8)) rfl ca9 rfl args0 I10 (fun Fr_ hF_ => ja_ hF_  hx8) (fun w9 I11 => (wa_ (v := (vb x8)) rfl rfl (ae_ (al_ ?_)))))
  obtain rfl := sj h
  exact ⟨rfl, (vb x8), (br_ rfl rfl), _, [], ((le1.trans le2).trans le3), I11, rfl, rfl⟩
 refine am_ (b := x7.2 != 0) rfl hc5 (av_ (ab_ (aa_ (wo_ (an_ (v := (pt_ g1)) (e := a0) rfl hn_ rfl ((p1.mono (le2.trans le3)).at_ I10) (fun u4 hu4 => ?_))))))
 obtain ⟨c17, c18, c19, c20, e22, r18, r19, r20, r21⟩ := Riddle.inv hu4
 subst e22
 obtain ⟨z19, m19, k19, rfl⟩ := ad_ r18
 obtain ⟨z20, m20, k20, rfl⟩ := ad_ r19
 obtain ⟨z21, m21, k21, rfl⟩ := ad_ r20
 obtain ⟨z22, m22, k22, rfl⟩ := ad_ r21
 refine wo_ (bv_ (z := (.agg #[(.slice none 0 0), (.slice none 0 0), (.slice none 0 0), (.slice none 0 0)])) rfl I10 zo27 (fun g2 w10 (I12 : Inv w10 S3 (ao_ g2 27 #[(.slice none 0 0), (.slice none 0 0), (.slice none 0 0), (.slice none 0 0)] :: Fr)) => (wo_ (bc_ (v := (.agg #[(.slice z19 m19 k19), (.slice z20 m20 k20), (.slice z21 m21 k21), (.slice z22 m22 k22)])) (cs := #[(.slice none 0 0), (.slice none 0 0), (.slice none 0 0), (.slice none 0 0)]) hn_ I12 rfl rfl rfl (Nat.le_of_ble_eq_true rfl) rfl (fun w11 (I13 : Inv w11 S3 (ao_ g2 27 #[(.slice z19 m19 k19), (.slice z20 m20 k20), (.slice z21 m21 k21), (.slice z22 m22 k22)] :: Fr)) => (ae_ (ab_ (ab_ (aa_ (wa_ (v := (vi 0)) rfl rfl (ae_ ?_)))))))))))
 obtain ⟨o4, hrun2, h⟩ := bnd h
 refine bu_ (fun f w => ∃ out2, o4 = Sum.inl out2 ∧ ∃ (S_ : PH) (z574 : Option Addr) (m574 k574 : Nat) (z575 : Option Addr) (m575 k575 : Nat) (z576 : Option Addr) (m576 k576 : Nat) (z577 : Option Addr) (m577 k577 : Nat), S3.Le S_ ∧ Inv w S_ (ao_ g2 27 #[(.slice z574 m574 k574), (.slice z575 m575 k575), (.slice z576 m576 k576), (.slice z577 m577 k577)] :: Fr) ∧ f 1 = (.slice z5 m5 k5) ∧ f 2 = (vi a2) ∧ f 3 = (pt_ g1) ∧ f 7 = (.slice z18 m18 k18) ∧ f 9 = (pt_ g2) ∧ f 10 = (vi out2.2.2.2.2) ∧ RV S_ (.slice z574 m574 k574) out2.1 ∧ RV S_ (.slice z575 m575 k575) out2.2.1 ∧ RV S_ (.slice z576 m576 k576) out2.2.2.1 ∧ RV S_ (.slice z577 m577 k577) out2.2.2.2.1 ∧ f.ds = []) ?_ ?_
 ·
  refine ay_ ?_
  refine hq_ (I := fun (s2 : ((List CodeLock) × (List (List Int)) × (List (List Clue)) × (List Tie) × Int)) (f : Frm) (w : World) => ∃ (S_ : PH) (z570 : Option Addr) (m570 k570 : Nat) (z571 : Option Addr) (m571 k571 : Nat) (z572 : Option Addr) (m572 k572 : Nat) (z573 : Option Addr) (m573 k573 : Nat), S3.Le S_ ∧ Inv w S_ (ao_ g2 27 #[(.slice z570 m570 k570), (.slice z571 m571 k571), (.slice z572 m572 k572), (.slice z573 m573 k573)] :: Fr) ∧ f 1 = (.slice z5 m5 k5) ∧ f 2 = (vi a2) ∧ f 3 = (pt_ g1) ∧ f 7 = (.slice z18 m18 k18) ∧ f 9 = (pt_ g2) ∧ f 10 = (vi s2.2.2.2.2) ∧ RV S_ (.slice z570 m570 k570) s2.1 ∧ RV S_ (.slice z571 m571 k571) s2.2.1 ∧ RV S_ (.slice z572 m572 k572) s2.2.2.1 ∧ RV S_ (.slice z573 m573 k573) s2.2.2.2.1 ∧ f.ds = []) hrun2 ⟨_, _, _, _, _, _, _, _, _, _, _, _, _, lr, I13, rfl, rfl, rfl, rfl, rfl, rfl, r18, r19, r20, r21, rfl⟩ ?_
  rintro s2 f w o3 hI522 h31 hout2
  obtain ⟨S560, z570, m570, k570, z571, m571, k571, z572, m572, k572, z573, m573, k573, le560, I730, e1177, e1178, e1179, e1180, e1181, e1182, r673, r674, r675, r676, ed54⟩ := hI522
  refine ab_ (ab_ (aa_ (wm_ (v := (vi s2.2.2.2.2)) rfl e1182 (wm_ (v := (.slice z18 m18 k18)) rfl e1180 (wo_ (bb_ rfl Try.underlying28 rfl (r17.mono le560) (wo_ (op_leq (a := s2.2.2.2.2) (b := (x7.1.length : Int)) rfl rfl rfl (ae_ ?_)))))))))
  rcases ifs h31 with ⟨hc227, h31⟩ | ⟨hc227, h31⟩
  ·
   refine ai_ (b := decide (s2.2.2.2.2 ≤ (x7.1.length : Int))) rfl hc227 (av_ (ab_ (ay_ (ab_ ?_))))
   obtain ⟨x139, hx139, h31⟩ := bnd h31
   obtain ⟨x140, hx140, h31⟩ := bnd h31
   refine bk_ (sps := [spR 46 [] 0 a0, spV 47 [] 1 (.slice z5 m5 k5), spV 48 [] 2 (.slice z18 m18 k18), spV 49 [] 3 (vi s2.2.2.2.2), spV 50 [] 4 (.slice z18 m18 k18), spV 51 [4] 5 (vi ((x7.1.length : Int))), spV 52 [3, 4, 5] 6 (vi (mh_ s2.2.2.2.2 (x7.1.length : Int))), spR 53 [2, 3, 4, 5, 6] 7 x139, spV 54 (lrg 8) 8 (Value.tuple #[(vb x140.1), (vi x140.2)]), spV 45 (lrg 9) 9 (Value.tuple #[(vb x140.1), (vi x140.2)]), spV 55 (lrg 10) 10 (vb x140.1), spV 56 (lrg 10) 11 (vi x140.2), spV 11 (lrg 11) 12 (vb x140.1), spV 12 (lrg 13) 13 (vi x140.2)]) (tks := []) (O := ao_ g2 27 #[(.slice z570 m570 k570), (.slice z571 m571 k571), (.slice z572 m572 k572), (.slice z573 m573 k573)] :: Fr) rfl (by kernel_rfl) I730 ⟨?_, ?_, ?_, ?_, ?_, ?_, ?_, ?_, ?_, ?_, ?_, ?_, ?_, ?_, trivial⟩ ?_
   ·
    intro vs f w_ U X le A K I
    refine pl_ rfl (an_ (v := (pt_ g1)) (e := a0) rfl hn_ ((K 3 (ak_ rfl)).trans e1179) ((p1.mono (((le2.trans le3).trans le560).trans le)).at_ I) (fun u163 hu163 => ?_))
    obtain ⟨c567, c568, c569, c570, e1183, r681, r682, r683, r684⟩ := Riddle.inv hu163
    subst e1183
    obtain ⟨z578, m578, k578, rfl⟩ := ad_ r681
    obtain ⟨z579, m579, k579, rfl⟩ := ad_ r682
    obtain ⟨z580, m580, k580, rfl⟩ := ad_ r683
    obtain ⟨z581, m581, k581, rfl⟩ := ad_ r684
    refine ⟨_, _, rfl, lr, ?_, ?_⟩
    · exact (Riddle.rv (s := a0) r681 r682 r683 r684)
    exact I
   · exact fun vs f w U X l A K I => pl_ rfl (aw_ (v := (.slice z5 m5 k5)) rfl ((K 1 (ak_ rfl)).trans e1177) (fn rfl rfl I))
   · exact fun vs f w U X l A K I => pl_ rfl (aw_ (v := (.slice z18 m18 k18)) rfl ((K 7 (ak_ rfl)).trans e1180) (fn rfl rfl I))
   · exact fun vs f w U X l A K I => pl_ rfl (aw_ (v := (vi s2.2.2.2.2)) rfl ((K 10 (ak_ rfl)).trans e1182) (fn rfl rfl I))
   · exact fun vs f w U X l A K I => pl_ rfl (aw_ (v := (.slice z18 m18 k18)) rfl ((K 7 (ak_ rfl)).trans e1180) (fn rfl rfl I))
   · exact fun vs f w U X l A K I => pl_ rfl (bb_ rfl Try.underlying28 (A.u 0 rfl rfl rfl) (r17.mono (le560.trans l)) (fn rfl rfl I))
   · exact fun vs f w U X l A K I => pl_ rfl (op_min (a := s2.2.2.2.2) (b := (x7.1.length : Int)) rfl (A.u 0 rfl rfl rfl) (A.u 2 rfl rfl rfl) (fn rfl rfl I))
   ·
    intro vs f w_ U X le A K I
    have q589 := A.u 0 rfl rfl rfl
    have q590 := A.u 4 rfl rfl rfl
    refine pl_ rfl (op_sliceH (v := (.slice z18 m18 k18)) (hi := mh_ s2.2.2.2.2 (x7.1.length : Int)) rfl Try.underlying28 sh3 q589 (r17.mono (le560.trans le)) q590 hx139 (fun u164 hu164 => ?_))
    obtain ⟨z582, m582, k582, rfl⟩ := ad_ hu164
    refine ⟨_, _, rfl, lr, ?_, ?_⟩
    · exact hu164
    exact I
   ·
    intro vs f w_ U X le A K I
    have q591 : f 46 = vs 0 := (A.at_ 0 rfl _ rfl).1 _ rfl
    have r685 : RV U (vs 0) a0 := (A.at_ 0 rfl _ rfl).2
    obtain ⟨u165, hu165⟩ : ∃ u, vs 0 = u := ⟨_, rfl⟩
    rw [hu165] at q591 r685
    obtain ⟨c571, c572, c573, c574, e1189, r686, r687, r688, r689⟩ := Riddle.inv r685
    subst e1189
    obtain ⟨z583, m583, k583, rfl⟩ := ad_ r686
    obtain ⟨z584, m584, k584, rfl⟩ := ad_ r687
    obtain ⟨z585, m585, k585, rfl⟩ := ad_ r688
    obtain ⟨z586, m586, k586, rfl⟩ := ad_ r689
    have q593 : f 53 = vs 7 := (A.at_ 7 rfl _ rfl).1 _ rfl
    have r690 : RV U (vs 7) x139 := (A.at_ 7 rfl _ rfl).2
    obtain ⟨u166, hu166⟩ : ∃ u, vs 7 = u := ⟨_, rfl⟩
    rw [hu166] at q593 r690
    obtain ⟨z587, m587, k587, rfl⟩ := ad_ r690
    refine pl_ rfl (aq_ (vs := [(.agg #[(.slice z583 m583 k583), (.slice z584 m584 k584), (.slice z585 m585 k585), (.slice z586 m586 k586)]), (.slice z5 m5 k5), (.slice z587 m587 k587)]) (r := (Value.tuple #[(vb x140.1), (vi x140.2)])) rfl ca28 rfl (cu_ q591 (A.u 1 rfl rfl rfl) q593) I (fun Fr_ hF_ => hints_Hides_ok hF_ (Riddle.rv (s := a0) r686 r687 r688 r689) (h1_.mono ((((le1.trans le2).trans le3).trans le560).trans le)) r690 hx140) (fun w686 I741 => (fn rfl rfl I741)))
   · exact fun vs f w U X l A K I => pl_ rfl (aw_ (v := (Value.tuple #[(vb x140.1), (vi x140.2)])) rfl (A.u 8 rfl rfl rfl) (fn rfl rfl I))
   · exact fun vs f w U X l A K I => pl_ rfl (bd_ (v := (vb x140.1)) rfl (A.u 9 rfl rfl rfl) rfl (fn rfl rfl I))
   · exact fun vs f w U X l A K I => pl_ rfl (bd_ (v := (vi x140.2)) rfl (A.u 9 rfl rfl rfl) rfl (fn rfl rfl I))
   · exact fun vs f w U X l A K I => pl_ rfl (bs_ (v := (vb x140.1)) rfl (A.u 10 rfl rfl rfl) (fn rfl rfl I))
   ·
    intro vs f w_ U X le A K I
    refine pl_ rfl (bs_ (v := (vi x140.2)) rfl (A.u 11 rfl rfl rfl) (fn rfl rfl I))
   intro vs535 f w692 S575 ed55 le575 hF40 hK535 hI537
   have e1195 : f 1 = (Value.slice z5 m5 k5) := (hK535 1 (ap_ rfl)).trans e1177
   have e1196 : f 2 = (Value.int .i64 (a2)) := (hK535 2 (ap_ rfl)).trans e1178
   have e1197 : f 3 = (Value.pointer (some ⟨g1, 0, none⟩)) := (hK535 3 (ap_ rfl)).trans e1179
   have e1198 : f 7 = (Value.slice z18 m18 k18) := (hK535 7 (ap_ rfl)).trans e1180
   have e1199 : f 9 = (Value.pointer (some ⟨g2, 0, none⟩)) := (hK535 9 (ap_ rfl)).trans e1181
   have e1200 : f 10 = (Value.int .i64 (s2.2.2.2.2)) := (hK535 10 (ap_ rfl)).trans e1182
   have I747 : Inv w692 S575 (ao_ g2 27 #[(Value.slice z570 m570 k570), (Value.slice z571 m571 k571), (Value.slice z572 m572 k572), (Value.slice z573 m573 k573)] :: Fr) := hI537
   have q599 := hF40.u 12 rfl rfl rfl
   have q600 := hF40.u 13 rfl rfl rfl
   refine ab_ (ab_ (aa_ (wm_ (v := (vi x140.2)) rfl q600 (wo_ (cd_ (a := x140.2) (b := 0) rfl rfl rfl (wm_ (v := (vb (x140.2 != 0))) rfl rfl ?_))))))
   rcases ifs h31 with ⟨hc230, h31⟩ | ⟨hc230, h31⟩
   ·
    refine ws_ (c := x140.2 != 0) rfl rfl hc230 (ws_ (c := x140.2 != 0) rfl rfl hc230 (wo_ (ax_ (c := x140.2 != 0) (a := (vb true)) rfl rfl hc230 rfl (ae_ (ai_ (b := true) rfl rfl (ab_ (aa_ (wa_ (v := (vb false)) rfl rfl (ae_ (al_ ?_))))))))))
    obtain rfl := sj h31
    obtain rfl := (hout2 _ rfl)
    have h32 := h
    obtain rfl := sj h32
    exact ⟨(ed55.trans ed54), (vb false), (br_ rfl rfl), _, [], ((((le1.trans le2).trans le3).trans le560).trans le575), (I747).drop, rfl, rfl⟩
   refine wk_ (c := x140.2 != 0) rfl rfl hc230 (aw_ (v := (vb x140.1)) rfl q599 (wk_ (c := x140.2 != 0) rfl rfl hc230 (cc_ (b := x140.1) rfl rfl (wo_ (ar_ (c := x140.2 != 0) (b := (vb (!x140.1))) rfl rfl hc230 rfl (ae_ ?_))))))
   rcases ifs h31 with ⟨hc231, h31⟩ | ⟨hc231, h31⟩
   ·
    refine ai_ (b := !x140.1) rfl hc231 (ab_ (aa_ (wa_ (v := (vb false)) rfl rfl (ae_ (al_ ?_)))))
    obtain rfl := sj h31
    obtain rfl := (hout2 _ rfl)
    have h32 := h
    obtain rfl := sj h32
    exact ⟨(ed55.trans ed54), (vb false), (br_ rfl rfl), _, [], ((((le1.trans le2).trans le3).trans le560).trans le575), (I747).drop, rfl, rfl⟩
   refine am_ (b := !x140.1) rfl hc231 (av_ (ab_ (ab_ (aa_ (wm_ (v := (vi s2.2.2.2.2)) rfl e1200 (wm_ (v := (.slice z18 m18 k18)) rfl e1198 (wo_ (bb_ rfl Try.underlying28 rfl (r17.mono (le560.trans le575)) (wo_ (bn_ (a := s2.2.2.2.2) (b := (x7.1.length : Int)) rfl rfl rfl (ae_ ?_)))))))))))
   rcases ifs h31 with ⟨hc232, h31⟩ | ⟨hc232, h31⟩
   ·
    refine ai_ (b := s2.2.2.2.2 == (x7.1.length : Int)) rfl hc232 (bl_ ?_)
    obtain rfl := sj h31
    obtain rfl := (hout2 _ rfl)
    exact ⟨_, rfl, _, _, _, _, _, _, _, _, _, _, _, _, _, (le560.trans le575), I747, e1195, e1196, e1197, e1198, e1199, e1200, (r673.mono le575), (r674.mono le575), (r675.mono le575), (r676.mono le575), (ed55.trans ed54)⟩
   refine am_ (b := s2.2.2.2.2 == (x7.1.length : Int)) rfl hc232 (av_ (ab_ (aa_ (wm_ (v := (.slice z18 m18 k18)) rfl e1198 (wm_ (v := (vi s2.2.2.2.2)) rfl e1200 ?_)))))
   obtain ⟨x141, hx141, h31⟩ := bnd h31
   refine wo_ (aj_ (v := (.slice z18 m18 k18)) (i := s2.2.2.2.2) (e := x141) rfl Try.underlying28 sh3 rfl (r17.mono (le560.trans le575)) rfl hx141 (wo_ (ag_ (v := (ah_ (.slice z18 m18 k18) (s2.2.2.2.2) (Enc.sz Int))) (e := x141) rfl sh3 rfl ((r17.mono (le560.trans le575)).elem I747.in_ hx141) (wa_ (v := (vi x141)) rfl rfl (ae_ (ab_ (ab_ (aa_ (wm_ (v := (vi x141)) rfl rfl (wo_ (bg_ (a := x141) (b := 0) rfl rfl rfl (wm_ (v := (vb (decide (x141 < 0)))) rfl rfl ?_))))))))))))
   rcases ifs h31 with ⟨hc236, h31⟩ | ⟨hc236, h31⟩
   ·
    refine ws_ (c := decide (x141 < 0)) rfl rfl hc236 (ws_ (c := decide (x141 < 0)) rfl rfl hc236 (ws_ (c := decide (x141 < 0)) rfl rfl hc236 (ws_ (c := decide (x141 < 0)) rfl rfl hc236 (wo_ (ax_ (c := decide (x141 < 0)) (a := (vb true)) rfl rfl hc236 rfl (wm_ (v := (vb true)) rfl rfl (ws_ (c := true) rfl rfl rfl (ws_ (c := true) rfl rfl rfl (ws_ (c := true) rfl rfl rfl (ws_ (c := true) rfl rfl rfl (ws_ (c := true) rfl rfl rfl (ws_ (c := true) rfl rfl rfl (ws_ (c := true) rfl rfl rfl (wo_ (ax_ (c := true) (a := (vb true)) rfl rfl rfl rfl (ae_ (ai_ (b := true) rfl rfl (ab_ (aa_ (wa_ (v := (vb false)) rfl rfl (ae_ (al_ ?_))))))))))))))))))))))
    obtain rfl := sj h31
    obtain rfl := (hout2 _ rfl)
    have h32 := h
    obtain rfl := sj h32
    exact ⟨(ed55.trans ed54), (vb false), (br_ rfl rfl), _, [], ((((le1.trans le2).trans le3).trans le560).trans le575), (I747).drop, rfl, rfl⟩
   refine wk_ (c := decide (x141 < 0)) rfl rfl hc236 (aw_ (v := (vi x141)) rfl rfl (wk_ (c := decide (x141 < 0)) rfl rfl hc236 (aw_ (v := (.slice z5 m5 k5)) rfl e1195 (wk_ (c := decide (x141 < 0)) rfl rfl hc236 (bb_ rfl Try.underlying44 rfl (h1_.mono ((((le1.trans le2).trans le3).trans le560).trans le575)) (wk_ (c := decide (x141 < 0)) rfl rfl hc236 (ku_ (a := x141) (b := (a1.length : Int)) rfl rfl rfl (wo_ (ar_ (c := decide (x141 < 0)) (b := (vb (decide ((a1.length : Int) ≤ x141)))) rfl rfl hc236 rfl (wm_ (v := (vb (decide ((a1.length : Int) ≤ x141)))) rfl rfl ?_))))))))))
   rcases ifs h31 with ⟨hc237, h31⟩ | ⟨hc237, h31⟩
   ·
    refine ws_ (c := decide ((a1.length : Int) ≤ x141)) rfl rfl hc237 (ws_ (c := decide ((a1.length : Int) ≤ x141)) rfl rfl hc237 (ws_ (c := decide ((a1.length : Int) ≤ x141)) rfl rfl hc237 (ws_ (c := decide ((a1.length : Int) ≤ x141)) rfl rfl hc237 (ws_ (c := decide ((a1.length : Int) ≤ x141)) rfl rfl hc237 (ws_ (c := decide ((a1.length : Int) ≤ x141)) rfl rfl hc237 (ws_ (c := decide ((a1.length : Int) ≤ x141)) rfl rfl hc237 (wo_ (ax_ (c := decide ((a1.length : Int) ≤ x141)) (a := (vb true)) rfl rfl hc237 rfl (ae_ (ai_ (b := true) rfl rfl (ab_ (aa_ (wa_ (v := (vb false)) rfl rfl (ae_ (al_ ?_)))))))))))))))
    obtain rfl := sj h31
    obtain rfl := (hout2 _ rfl)
    have h32 := h
    obtain rfl := sj h32
    exact ⟨(ed55.trans ed54), (vb false), (br_ rfl rfl), _, [], ((((le1.trans le2).trans le3).trans le560).trans le575), (I747).drop, rfl, rfl⟩
   refine wk_ (c := decide ((a1.length : Int) ≤ x141)) rfl rfl hc237 (aw_ (v := (.slice z5 m5 k5)) rfl e1195 (wk_ (c := decide ((a1.length : Int) ≤ x141)) rfl rfl hc237 (aw_ (v := (vi x141)) rfl rfl ?_)))
   obtain ⟨x143, hx143, h31⟩ := bnd h31
   refine wk_ (c := decide ((a1.length : Int) ≤ x141)) rfl rfl hc237 (aj_ (v := (.slice z5 m5 k5)) (i := x141) (e := x143) rfl Try.underlying44 sh32 rfl (h1_.mono ((((le1.trans le2).trans le3).trans le560).trans le575)) rfl hx143 (wk_ (c := decide ((a1.length : Int) ≤ x141)) rfl rfl hc237 (ac_ (v := (ah_ (.slice z5 m5 k5) (x141) (Enc.sz Aid))) rfl nn_ rfl ((h1_.mono ((((le1.trans le2).trans le3).trans le560).trans le575)).elem I747.in_ hx143) (wk_ (c := decide ((a1.length : Int) ≤ x141)) rfl rfl hc237 (ag_ (v := (af_ (ah_ (.slice z5 m5 k5) (x141) (Enc.sz Aid)) 0)) (e := x143.Lock) rfl sh3 rfl (((h1_.mono ((((le1.trans le2).trans le3).trans le560).trans le575)).elem I747.in_ hx143).fld Aid.fld0) (wk_ (c := decide ((a1.length : Int) ≤ x141)) rfl rfl hc237 (aw_ (v := (vi a2)) rfl e1196 (wk_ (c := decide ((a1.length : Int) ≤ x141)) rfl rfl hc237 (cd_ (a := x143.Lock) (b := a2) rfl rfl rfl (wo_ (ar_ (c := decide ((a1.length : Int) ≤ x141)) (b := (vb (x143.Lock != a2))) rfl rfl hc237 rfl (ae_ ?_))))))))))))
   rcases ifs h31 with ⟨hc238, h31⟩ | ⟨hc238, h31⟩
   ·
    refine ai_ (b := x143.Lock != a2) rfl hc238 (ab_ (aa_ (wa_ (v := (vb false)) rfl rfl (ae_ (al_ ?_)))))
    obtain rfl := sj h31
    obtain rfl := (hout2 _ rfl)
    have h32 := h
    obtain rfl := sj h32
    exact ⟨(ed55.trans ed54), (vb false), (br_ rfl rfl), _, [], ((((le1.trans le2).trans le3).trans le560).trans le575), (I747).drop, rfl, rfl⟩
   refine am_ (b := x143.Lock != a2) rfl hc238 (av_ (ab_ (aa_ (wo_ (cl_ (l := [(.slice z570 m570 k570), (.slice z571 m571 k571), (.slice z572 m572 k572), (.slice z573 m573 k573)]) rfl hn_ (I747.nth 0 rfl) e1199 rfl rfl (wm_ (v := (vi a2)) rfl e1196 ?_))))))
   obtain ⟨x144, hx144, h31⟩ := bnd h31
   refine wo_ (bm_ (vs := [(.agg #[(.slice z570 m570 k570), (.slice z571 m571 k571), (.slice z572 m572 k572), (.slice z573 m573 k573)]), (vi a2)]) rfl ca18 rfl (bt_ rfl rfl) (hints_Possible_ok I747 (Riddle.rv (s := (⟨s2.1, s2.2.1, s2.2.2.1, s2.2.2.2.1⟩ : Riddle)) (r673.mono le575) (r674.mono le575) (r675.mono le575) (r676.mono le575)) hx144) (fun cv28 w693 S576 O28 le576 I748 hv28 => ?_))
   obtain ⟨z588, m588, k588, rfl, rfl, r691⟩ := hv28
   refine wm_ (v := (Value.tuple #[(.slice z588 m588 k588), (vi x144.2)])) rfl rfl (wo_ (bd_ (v := (.slice z588 m588 k588)) rfl rfl rfl (wo_ (bd_ (v := (vi x144.2)) rfl rfl rfl (wa_ (v := (.slice z588 m588 k588)) rfl rfl (wa_ (v := (vi x144.2)) rfl rfl (ae_ (ab_ ?_))))))))
   obtain ⟨x145, hx145, h31⟩ := bnd h31
   obtain ⟨x146, hx146, h31⟩ := bnd h31
   refine bk_ (sps := [⟨some 95, [], [0], fun vs_ T_ => fr0 vs_ 0 = (.agg #[(.slice z570 m570 k570), (.slice z571 m571 k571), (.slice z572 m572 k572), (.slice z573 m573 k573)]), [0], [], [], fun _ h_ => h_⟩, spV 96 [] 1 (.slice z5 m5 k5), spV 97 [] 2 (vi x141), spV 98 [1, 2] 3 (ah_ (.slice z5 m5 k5) (x141) (Enc.sz Aid)), spR 99 [1, 2, 3] 4 x145, spV 100 [0, 1, 2, 3, 4] 5 (Value.tuple #[(vi x146.1), (vi x146.2)]), spV 94 (lrg 6) 6 (Value.tuple #[(vi x146.1), (vi x146.2)]), spV 101 (lrg 7) 7 (vi x146.1), spV 102 (lrg 7) 8 (vi x146.2), spV 15 (lrg 8) 9 (vi x146.1), spV 16 (lrg 10) 10 (vi x146.2)]) (tks := [⟨none, none, [], fun vs_ => ao_ g2 27 #[(.slice z570 m570 k570), (.slice z571 m571 k571), (.slice z572 m572 k572), (.slice z573 m573 k573)]⟩]) (O := Fr) rfl (by kernel_rfl) I748 ⟨?_, ?_, ?_, ?_, ?_, ?_, ?_, ?_, ?_, ?_, ?_, trivial⟩ ?_
   ·
    intro vs f w_ U X le A K I
    have I750 : Inv w_ U (ao_ g2 27 #[(Value.slice z570 m570 k570), (Value.slice z571 m571 k571), (Value.slice z572 m572 k572), (Value.slice z573 m573 k573)] :: X) := I
    refine pl_ rfl (cl_ (l := [(.slice z570 m570 k570), (.slice z571 m571 k571), (.slice z572 m572 k572), (.slice z573 m573 k573)]) rfl hn_ (I750.nth 0 rfl) ((K 9 (ak_ rfl)).trans e1199) rfl rfl (fn rfl rfl I750))
   · exact fun vs f w U X l A K I => pl_ rfl (aw_ (v := (.slice z5 m5 k5)) rfl ((K 1 (ak_ rfl)).trans e1195) (fn rfl rfl I))
   · exact fun vs f w U X l A K I => pl_ rfl (aw_ (v := (vi x141)) rfl (K 13 (ak_ rfl)) (fn rfl rfl I))
   · exact fun vs f w U X l A K I => pl_ rfl (aj_ (v := (.slice z5 m5 k5)) (i := x141) (e := x145) rfl Try.underlying44 sh32 (A.u 0 rfl rfl rfl) (h1_.mono ((((((le1.trans le2).trans le3).trans le560).trans le575).trans le576).trans l)) (A.u 1 rfl rfl rfl) hx145 (fn rfl rfl I))
   ·
    intro vs f w_ U X le A K I
    have q603 := A.u 2 rfl rfl rfl
    refine pl_ rfl (an_ (v := (ah_ (.slice z5 m5 k5) (x141) (Enc.sz Aid))) (e := x145) rfl sh32 q603 ((h1_.mono ((((((le1.trans le2).trans le3).trans le560).trans le575).trans le576).trans le)).elem I.in_ hx145) (fun u168 hu168 => ?_))
    obtain ⟨c575, e1201, r692⟩ := Aid.inv hu168
    subst e1201
    obtain ⟨z589, m589, k589, rfl⟩ := ad_ r692
    refine ⟨_, _, rfl, lr, ?_, ?_⟩
    · exact (Aid.rv (s := x145) r692)
    exact I
   ·
    intro vs f w_ U X le A K I
    have q605 : f 99 = vs 4 := (A.at_ 4 rfl _ rfl).1 _ rfl
    have r693 : RV U (vs 4) x145 := (A.at_ 4 rfl _ rfl).2
    obtain ⟨u169, hu169⟩ : ∃ u, vs 4 = u := ⟨_, rfl⟩
    rw [hu169] at q605 r693
    obtain ⟨c576, e1203, r694⟩ := Aid.inv r693
    subst e1203
    obtain ⟨z590, m590, k590, rfl⟩ := ad_ r694
    refine pl_ rfl (aq_ (vs := [(.agg #[(.slice z570 m570 k570), (.slice z571 m571 k571), (.slice z572 m572 k572), (.slice z573 m573 k573)]), (.agg #[(vi x145.Lock), (vi x145.Clue.Kind), (vi x145.Clue.A), (vi x145.Clue.B), (vi x145.Clue.N), (vi x145.Clue.M), (.slice z590 m590 k590), (vb x145.Clue.Not)])]) (r := (Value.tuple #[(vi x146.1), (vi x146.2)])) rfl ca29 rfl (bt_ (A.u 0 rfl rfl rfl) q605) I (fun Fr_ hF_ => hints_Leaves_ok hF_ (Riddle.rv (s := (⟨s2.1, s2.2.1, s2.2.2.1, s2.2.2.2.1⟩ : Riddle)) (r673.mono ((le575.trans le576).trans le)) (r674.mono ((le575.trans le576).trans le)) (r675.mono ((le575.trans le576).trans le)) (r676.mono ((le575.trans le576).trans le))) (Aid.rv (s := x145) r694) hx146) (fun w701 I756 => (fn rfl rfl I756)))
   · exact fun vs f w U X l A K I => pl_ rfl (aw_ (v := (Value.tuple #[(vi x146.1), (vi x146.2)])) rfl (A.u 5 rfl rfl rfl) (fn rfl rfl I))
   · exact fun vs f w U X l A K I => pl_ rfl (bd_ (v := (vi x146.1)) rfl (A.u 6 rfl rfl rfl) rfl (fn rfl rfl I))
   · exact fun vs f w U X l A K I => pl_ rfl (bd_ (v := (vi x146.2)) rfl (A.u 6 rfl rfl rfl) rfl (fn rfl rfl I))
   · exact fun vs f w U X l A K I => pl_ rfl (bs_ (v := (vi x146.1)) rfl (A.u 7 rfl rfl rfl) (fn rfl rfl I))
   ·
    intro vs f w_ U X le A K I
    refine pl_ rfl (bs_ (v := (vi x146.2)) rfl (A.u 8 rfl rfl rfl) (fn rfl rfl I))
   intro vs547 f w707 S588 ed56 le588 hF41 hK547 hI549
   have e1205 : f 1 = (Value.slice z5 m5 k5) := (hK547 1 (ap_ rfl)).trans e1195
   have e1206 : f 2 = (Value.int .i64 (a2)) := (hK547 2 (ap_ rfl)).trans e1196
   have e1207 : f 3 = (Value.pointer (some ⟨g1, 0, none⟩)) := (hK547 3 (ap_ rfl)).trans e1197
   have e1208 : f 7 = (Value.slice z18 m18 k18) := (hK547 7 (ap_ rfl)).trans e1198
   have e1209 : f 9 = (Value.pointer (some ⟨g2, 0, none⟩)) := (hK547 9 (ap_ rfl)).trans e1199
   have e1210 : f 10 = (Value.int .i64 (s2.2.2.2.2)) := (hK547 10 (ap_ rfl)).trans e1200
   have e1211 : f 12 = (Value.int .i64 (x144.2)) := (hK547 12 (ap_ rfl)).trans rfl
   have e1212 : f 13 = (Value.int .i64 (x141)) := (hK547 13 (ap_ rfl)).trans rfl
   have e1213 : f 14 = (Value.slice z588 m588 k588) := (hK547 14 (ap_ rfl)).trans rfl
   have I762 : Inv w707 S588 (ao_ g2 27 #[(Value.slice z570 m570 k570), (Value.slice z571 m571 k571), (Value.slice z572 m572 k572), (Value.slice z573 m573 k573)] :: Fr) := hI549
   have q611 := hF41.u 9 rfl rfl rfl
   have q612 := hF41.u 10 rfl rfl rfl
   refine ab_ ?_
   obtain ⟨x147, hx147, h31⟩ := bnd h31
   obtain ⟨x148, hx148, h31⟩ := bnd h31
   refine bk_ (sps := [⟨some 104, [], [0], fun vs_ T_ => fr0 vs_ 0 = (.agg #[(.slice z570 m570 k570), (.slice z571 m571 k571), (.slice z572 m572 k572), (.slice z573 m573 k573)]), [0], [], [], fun _ h_ => h_⟩, spV 105 [] 1 (.slice z5 m5 k5), spV 106 [] 2 (vi x141), spV 107 [1, 2] 3 (ah_ (.slice z5 m5 k5) (x141) (Enc.sz Aid)), spR 108 [1, 2, 3] 4 x147, ⟨some 109, [0, 1, 2, 3, 4], [5], fun vs_ T_ => ∃ (c0_ : Value), fr0 vs_ 0 = (Value.tuple #[c0_, (vi x148.2)]) ∧ RV T_ c0_ x148.1, [], [], [], fun hle_ h_ => by obtain ⟨c0_, e_, r0_⟩ := h_; exact ⟨c0_, e_, r0_.mono hle_⟩⟩, spW 103 (lrg 6) [6, 5] fun vs_ => (Value.tuple #[(lq_ (fr0 vs_ 1) 0), (vi x148.2)]), spW 110 (lrg 7) [7, 5] fun vs_ => (lq_ (fr0 vs_ 1) 0), spV 111 (lrg 7) 8 (vi x148.2), ⟨some 17, [], [9], fun vs_ T_ => ∃ g_, fr0 vs_ 0 = Value.pointer (some ⟨g_, 0, none⟩), [], [], [1], fun _ h_ => h_⟩, ⟨none, (lrg 8 ++ [9]), [], fun vs_ T_ => True, [], [1], [2], fun _ h_ => h_⟩, spV 18 (lrg 11) 11 (vi x148.2)]) (tks := [⟨none, none, [], fun vs_ => ao_ g2 27 #[(.slice z570 m570 k570), (.slice z571 m571 k571), (.slice z572 m572 k572), (.slice z573 m573 k573)]⟩, ⟨some 9, some 10, [9], fun vs_ => ao_ (en_ (fr0 vs_ 0)) 27 #[(.slice none 0 0), (.slice none 0 0), (.slice none 0 0), (.slice none 0 0)]⟩, ⟨some 10, none, [5, 9], fun vs_ => ao_ (en_ (fr0 vs_ 1)) 27 #[(dj_ (lq_ (fr0 vs_ 0) 0) 0), (dj_ (lq_ (fr0 vs_ 0) 0) 1), (dj_ (lq_ (fr0 vs_ 0) 0) 2), (dj_ (lq_ (fr0 vs_ 0) 0) 3)]⟩]) (O := Fr) rfl (by kernel_rfl) I762 ⟨?_, ?_, ?_, ?_, ?_, ?_, ?_, ?_, ?_, ?_, ?_, ?_, trivial⟩ ?_
   ·
    intro vs f w_ U X le A K I
    have I765 : Inv w_ U (ao_ g2 27 #[(Value.slice z570 m570 k570), (Value.slice z571 m571 k571), (Value.slice z572 m572 k572), (Value.slice z573 m573 k573)] :: X) := I
    refine pl_ rfl (cl_ (l := [(.slice z570 m570 k570), (.slice z571 m571 k571), (.slice z572 m572 k572), (.slice z573 m573 k573)]) rfl hn_ (I765.nth 0 rfl) ((K 9 (ak_ rfl)).trans e1209) rfl rfl (fn rfl rfl I765))
   · exact fun vs f w U X l A K I => pl_ rfl (aw_ (v := (.slice z5 m5 k5)) rfl ((K 1 (ak_ rfl)).trans e1205) (fn rfl rfl I))
   · exact fun vs f w U X l A K I => pl_ rfl (aw_ (v := (vi x141)) rfl ((K 13 (ak_ rfl)).trans e1212) (fn rfl rfl I))
   · exact fun vs f w U X l A K I => pl_ rfl (aj_ (v := (.slice z5 m5 k5)) (i := x141) (e := x147) rfl Try.underlying44 sh32 (A.u 0 rfl rfl rfl) (h1_.mono (((((((le1.trans le2).trans le3).trans le560).trans le575).trans le576).trans le588).trans l)) (A.u 1 rfl rfl rfl) hx147 (fn rfl rfl I))
   ·
    intro vs f w_ U X le A K I
    have q615 := A.u 2 rfl rfl rfl
    refine pl_ rfl (an_ (v := (ah_ (.slice z5 m5 k5) (x141) (Enc.sz Aid))) (e := x147) rfl sh32 q615 ((h1_.mono (((((((le1.trans le2).trans le3).trans le560).trans le575).trans le576).trans le588).trans le)).elem I.in_ hx147) (fun u171 hu171 => ?_))
    obtain ⟨c577, e1214, r695⟩ := Aid.inv hu171
    subst e1214
    obtain ⟨z591, m591, k591, rfl⟩ := ad_ r695
    refine ⟨_, _, rfl, lr, ?_, ?_⟩
    · exact (Aid.rv (s := x147) r695)
    exact I
   ·
    intro vs f w_ U X le A K I
    have q616 := A.u 0 rfl rfl rfl
    have q617 : f 108 = vs 4 := (A.at_ 4 rfl _ rfl).1 _ rfl
    have r696 : RV U (vs 4) x147 := (A.at_ 4 rfl _ rfl).2
    obtain ⟨u172, hu172⟩ : ∃ u, vs 4 = u := ⟨_, rfl⟩
    rw [hu172] at q617 r696
    obtain ⟨c578, e1216, r697⟩ := Aid.inv r696
    subst e1216
    obtain ⟨z592, m592, k592, rfl⟩ := ad_ r697
    refine pl_ rfl (bm_ (vs := [(.agg #[(.slice z570 m570 k570), (.slice z571 m571 k571), (.slice z572 m572 k572), (.slice z573 m573 k573)]), (.agg #[(vi x147.Lock), (vi x147.Clue.Kind), (vi x147.Clue.A), (vi x147.Clue.B), (vi x147.Clue.N), (vi x147.Clue.M), (.slice z592 m592 k592), (vb x147.Clue.Not)])]) rfl ca14 rfl (bt_ q616 q617) (hints_Tell_ok I (Riddle.rv (s := (⟨s2.1, s2.2.1, s2.2.2.1, s2.2.2.2.1⟩ : Riddle)) (r673.mono (((le575.trans le576).trans le588).trans le)) (r674.mono (((le575.trans le576).trans le588).trans le)) (r675.mono (((le575.trans le576).trans le588).trans le)) (r676.mono (((le575.trans le576).trans le588).trans le))) (Aid.rv (s := x147) r697) hx148) (fun cv29 w716 S595 O29 le595 I771 hv29 => ?_))
    obtain ⟨c579, rfl, rfl, r698⟩ := hv29
    obtain ⟨c580, c581, c582, c583, e1218, r699, r700, r701, r702⟩ := Riddle.inv r698
    subst e1218
    obtain ⟨z593, m593, k593, rfl⟩ := ad_ r699
    obtain ⟨z594, m594, k594, rfl⟩ := ad_ r700
    obtain ⟨z595, m595, k595, rfl⟩ := ad_ r701
    obtain ⟨z596, m596, k596, rfl⟩ := ad_ r702
    refine ⟨_, _, rfl, le595, ?_, ?_⟩
    · exact ⟨_, rfl, (Riddle.rv (s := x148.1) r699 r700 r701 r702)⟩
    exact I771
   ·
    intro vs f w_ U X le A K I
    obtain ⟨c584, e1223, r703⟩ := (A.at_ 5 rfl _ rfl).2
    obtain ⟨c585, c586, c587, c588, e1224, r704, r705, r706, r707⟩ := Riddle.inv r703
    subst e1224
    obtain ⟨z597, m597, k597, rfl⟩ := ad_ r704
    obtain ⟨z598, m598, k598, rfl⟩ := ad_ r705
    obtain ⟨z599, m599, k599, rfl⟩ := ad_ r706
    obtain ⟨z600, m600, k600, rfl⟩ := ad_ r707
    have e1223 : vs 5 = (Value.tuple #[(Value.agg #[(Value.slice z597 m597 k597), (Value.slice z598 m598 k598), (Value.slice z599 m599 k599), (Value.slice z600 m600 k600)]), (Value.int .i64 (x148.2))]) := e1223
    have q618 : f 109 = (Value.tuple #[(Value.agg #[(Value.slice z597 m597 k597), (Value.slice z598 m598 k598), (Value.slice z599 m599 k599), (Value.slice z600 m600 k600)]), (Value.int .i64 (x148.2))]) := ((A.at_ 5 rfl _ rfl).1 _ rfl).trans e1223
    refine pl_ rfl (aw_ (v := (Value.tuple #[(.agg #[(.slice z597 m597 k597), (.slice z598 m598 k598), (.slice z599 m599 k599), (.slice z600 m600 k600)]), (vi x148.2)])) rfl q618 (⟨_, _, rfl, lr, ?_, ?_⟩))
    ·
     show (Value.tuple #[(Value.agg #[(Value.slice z597 m597 k597), (Value.slice z598 m598 k598), (Value.slice z599 m599 k599), (Value.slice z600 m600 k600)]), (Value.int .i64 (x148.2))]) = (Value.tuple #[(lq_ (vs 5) 0), (Value.int .i64 (x148.2))])
     simp only [e1223] <;> rfl
    exact I
   ·
    intro vs f w_ U X le A K I
    obtain ⟨c589, e1229, r708⟩ := (A.at_ 5 rfl _ rfl).2
    obtain ⟨c590, c591, c592, c593, e1230, r709, r710, r711, r712⟩ := Riddle.inv r708
    subst e1230
    obtain ⟨z601, m601, k601, rfl⟩ := ad_ r709
    obtain ⟨z602, m602, k602, rfl⟩ := ad_ r710
    obtain ⟨z603, m603, k603, rfl⟩ := ad_ r711
    obtain ⟨z604, m604, k604, rfl⟩ := ad_ r712
    have e1229 : vs 5 = (Value.tuple #[(Value.agg #[(Value.slice z601 m601 k601), (Value.slice z602 m602 k602), (Value.slice z603 m603 k603), (Value.slice z604 m604 k604)]), (Value.int .i64 (x148.2))]) := e1229
    have q619 : f 109 = (Value.tuple #[(Value.agg #[(Value.slice z601 m601 k601), (Value.slice z602 m602 k602), (Value.slice z603 m603 k603), (Value.slice z604 m604 k604)]), (Value.int .i64 (x148.2))]) := ((A.at_ 5 rfl _ rfl).1 _ rfl).trans e1229
    have q620 : f 103 = (Value.tuple #[(lq_ (vs 5) 0), (Value.int .i64 (x148.2))]) := A.u 6 rfl rfl rfl
    simp only [e1229] at q620
    have q620 : f 103 = (Value.tuple #[(Value.agg #[(Value.slice z601 m601 k601), (Value.slice z602 m602 k602), (Value.slice z603 m603 k603), (Value.slice z604 m604 k604)]), (Value.int .i64 (x148.2))]) := q620
    refine pl_ rfl (bd_ (v := (.agg #[(.slice z601 m601 k601), (.slice z602 m602 k602), (.slice z603 m603 k603), (.slice z604 m604 k604)])) rfl q620 rfl (⟨_, _, rfl, lr, ?_, ?_⟩))
    ·
     show (Value.agg #[(Value.slice z601 m601 k601), (Value.slice z602 m602 k602), (Value.slice z603 m603 k603), (Value.slice z604 m604 k604)]) = (lq_ (vs 5) 0)
     simp only [e1229] <;> rfl
    exact I
   ·
    intro vs f w_ U X le A K I
    obtain ⟨c594, e1235, r713⟩ := (A.at_ 5 rfl _ rfl).2
    obtain ⟨c595, c596, c597, c598, e1236, r714, r715, r716, r717⟩ := Riddle.inv r713
    subst e1236
    obtain ⟨z605, m605, k605, rfl⟩ := ad_ r714
    obtain ⟨z606, m606, k606, rfl⟩ := ad_ r715
    obtain ⟨z607, m607, k607, rfl⟩ := ad_ r716
    obtain ⟨z608, m608, k608, rfl⟩ := ad_ r717
    have e1235 : vs 5 = (Value.tuple #[(Value.agg #[(Value.slice z605 m605 k605), (Value.slice z606 m606 k606), (Value.slice z607 m607 k607), (Value.slice z608 m608 k608)]), (Value.int .i64 (x148.2))]) := e1235
    have q621 : f 109 = (Value.tuple #[(Value.agg #[(Value.slice z605 m605 k605), (Value.slice z606 m606 k606), (Value.slice z607 m607 k607), (Value.slice z608 m608 k608)]), (Value.int .i64 (x148.2))]) := ((A.at_ 5 rfl _ rfl).1 _ rfl).trans e1235
    have q622 : f 103 = (Value.tuple #[(lq_ (vs 5) 0), (Value.int .i64 (x148.2))]) := A.u 6 rfl rfl rfl
    simp only [e1235] at q622
    have q622 : f 103 = (Value.tuple #[(Value.agg #[(Value.slice z605 m605 k605), (Value.slice z606 m606 k606), (Value.slice z607 m607 k607), (Value.slice z608 m608 k608)]), (Value.int .i64 (x148.2))]) := q622
    refine pl_ rfl (bd_ (v := (vi x148.2)) rfl q622 rfl (fn rfl rfl I))
   · exact fun vs f w U X l A K I => pl_ rfl (bv_ (z := (.agg #[(.slice none 0 0), (.slice none 0 0), (.slice none 0 0), (.slice none 0 0)])) rfl I zo27 (fun g42 w721 (I776 : Inv w721 U (ao_ g42 27 #[(.slice none 0 0), (.slice none 0 0), (.slice none 0 0), (.slice none 0 0)] :: X)) => ⟨_, _, rfl, lr, ⟨_, rfl⟩, I776⟩))
   ·
    intro vs f w_ U X le A K I
    have I777 : Inv w_ U (ao_ (en_ (vs 9)) 27 #[(Value.slice none 0 0), (Value.slice none 0 0), (Value.slice none 0 0), (Value.slice none 0 0)] :: X) := I
    obtain ⟨c599, e1241, r718⟩ := (A.at_ 5 rfl _ rfl).2
    obtain ⟨c600, c601, c602, c603, e1242, r719, r720, r721, r722⟩ := Riddle.inv r718
    subst e1242
    obtain ⟨z609, m609, k609, rfl⟩ := ad_ r719
    obtain ⟨z610, m610, k610, rfl⟩ := ad_ r720
    obtain ⟨z611, m611, k611, rfl⟩ := ad_ r721
    obtain ⟨z612, m612, k612, rfl⟩ := ad_ r722
    have e1241 : vs 5 = (Value.tuple #[(Value.agg #[(Value.slice z609 m609 k609), (Value.slice z610 m610 k610), (Value.slice z611 m611 k611), (Value.slice z612 m612 k612)]), (Value.int .i64 (x148.2))]) := e1241
    have q623 : f 109 = (Value.tuple #[(Value.agg #[(Value.slice z609 m609 k609), (Value.slice z610 m610 k610), (Value.slice z611 m611 k611), (Value.slice z612 m612 k612)]), (Value.int .i64 (x148.2))]) := ((A.at_ 5 rfl _ rfl).1 _ rfl).trans e1241
    have q624 : f 103 = (Value.tuple #[(lq_ (vs 5) 0), (Value.int .i64 (x148.2))]) := A.u 6 rfl rfl rfl
    simp only [e1241] at q624
    have q624 : f 103 = (Value.tuple #[(Value.agg #[(Value.slice z609 m609 k609), (Value.slice z610 m610 k610), (Value.slice z611 m611 k611), (Value.slice z612 m612 k612)]), (Value.int .i64 (x148.2))]) := q624
    have q625 : f 110 = (lq_ (vs 5) 0) := A.u 7 rfl rfl rfl
    simp only [e1241] at q625
    have q625 : f 110 = (Value.agg #[(Value.slice z609 m609 k609), (Value.slice z610 m610 k610), (Value.slice z611 m611 k611), (Value.slice z612 m612 k612)]) := q625
    obtain ⟨g43, e1247⟩ := (A.at_ 8 rfl _ rfl).2
    have q626 : f 17 = Value.pointer (some ⟨g43, 0, none⟩) := ((A.at_ 8 rfl _ rfl).1 _ rfl).trans e1247
    have e1247 : vs 9 = Value.pointer (some ⟨g43, 0, none⟩) := e1247
    have I778 := I777
    rw [e1247] at I778
    refine pl_ rfl (bc_ (v := (.agg #[(.slice z609 m609 k609), (.slice z610 m610 k610), (.slice z611 m611 k611), (.slice z612 m612 k612)])) (cs := #[(.slice none 0 0), (.slice none 0 0), (.slice none 0 0), (.slice none 0 0)]) hn_ I778 q626 q625 rfl (Nat.le_of_ble_eq_true rfl) rfl (fun w723 (I779 : Inv w723 U (ao_ (en_ (pt_ g43)) 27 #[(.slice z609 m609 k609), (.slice z610 m610 k610), (.slice z611 m611 k611), (.slice z612 m612 k612)] :: X)) => (⟨undef, _, rfl, lr, ?_, ?_⟩)))
    · exact trivial
    show Inv _ _ (ao_ (en_ (vs 9)) 27 #[(dj_ (lq_ (vs 5) 0) 0), (dj_ (lq_ (vs 5) 0) 1), (dj_ (lq_ (vs 5) 0) 2), (dj_ (lq_ (vs 5) 0) 3)] :: X)
    simp only [e1241, e1247]
    exact I779
   ·
    intro vs f w_ U X le A K I
    refine pl_ rfl (bs_ (v := (vi x148.2)) rfl (A.u 8 rfl rfl rfl) (fn rfl rfl I))
   intro vs560 f w725 S602 ed57 le602 hF42 hK560 hI562
   have e1248 : f 1 = (Value.slice z5 m5 k5) := (hK560 1 (ap_ rfl)).trans e1205
   have e1249 : f 2 = (Value.int .i64 (a2)) := (hK560 2 (ap_ rfl)).trans e1206
   have e1250 : f 3 = (Value.pointer (some ⟨g1, 0, none⟩)) := (hK560 3 (ap_ rfl)).trans e1207
   have e1251 : f 7 = (Value.slice z18 m18 k18) := (hK560 7 (ap_ rfl)).trans e1208
   have e1252 : f 9 = (Value.pointer (some ⟨g2, 0, none⟩)) := (hK560 9 (ap_ rfl)).trans e1209
   have e1253 : f 10 = (Value.int .i64 (s2.2.2.2.2)) := (hK560 10 (ap_ rfl)).trans e1210
   have e1254 : f 12 = (Value.int .i64 (x144.2)) := (hK560 12 (ap_ rfl)).trans e1211
   have e1255 : f 14 = (Value.slice z588 m588 k588) := (hK560 14 (ap_ rfl)).trans e1213
   have e1256 : f 15 = (Value.int .i64 (x146.1)) := (hK560 15 (ap_ rfl)).trans q611
   have e1257 : f 16 = (Value.int .i64 (x146.2)) := (hK560 16 (ap_ rfl)).trans q612
   have I781 : Inv w725 S602 (ao_ g2 27 #[(Value.slice z570 m570 k570), (Value.slice z571 m571 k571), (Value.slice z572 m572 k572), (Value.slice z573 m573 k573)] :: ao_ (en_ (vs560 9)) 27 #[(dj_ (lq_ (vs560 5) 0) 0), (dj_ (lq_ (vs560 5) 0) 1), (dj_ (lq_ (vs560 5) 0) 2), (dj_ (lq_ (vs560 5) 0) 3)] :: Fr) := hI562
   obtain ⟨c604, e1258, r723⟩ := (hF42.at_ 5 rfl _ rfl).2
   obtain ⟨c605, c606, c607, c608, e1259, r724, r725, r726, r727⟩ := Riddle.inv r723
   subst e1259
   obtain ⟨z613, m613, k613, rfl⟩ := ad_ r724
   obtain ⟨z614, m614, k614, rfl⟩ := ad_ r725
   obtain ⟨z615, m615, k615, rfl⟩ := ad_ r726
   obtain ⟨z616, m616, k616, rfl⟩ := ad_ r727
   have e1258 : vs560 5 = (Value.tuple #[(Value.agg #[(Value.slice z613 m613 k613), (Value.slice z614 m614 k614), (Value.slice z615 m615 k615), (Value.slice z616 m616 k616)]), (Value.int .i64 (x148.2))]) := e1258
   have q628 : f 109 = (Value.tuple #[(Value.agg #[(Value.slice z613 m613 k613), (Value.slice z614 m614 k614), (Value.slice z615 m615 k615), (Value.slice z616 m616 k616)]), (Value.int .i64 (x148.2))]) := ((hF42.at_ 5 rfl _ rfl).1 _ rfl).trans e1258
   have I782 := I781
   rw [e1258] at I782
   obtain ⟨g44, e1264⟩ := (hF42.at_ 9 rfl _ rfl).2
   have q629 : f 17 = Value.pointer (some ⟨g44, 0, none⟩) := ((hF42.at_ 9 rfl _ rfl).1 _ rfl).trans e1264
   have e1264 : vs560 9 = Value.pointer (some ⟨g44, 0, none⟩) := e1264
   have I783 := I782
   rw [e1264] at I783
   have q630 := hF42.u 11 rfl rfl rfl
   refine ab_ (ab_ (aa_ (wm_ (v := (vi x144.2)) rfl e1254 (wo_ (cd_ (a := x144.2) (b := 0) rfl rfl rfl (wm_ (v := (vb (x144.2 != 0))) rfl rfl ?_))))))
   rcases ifs h31 with ⟨hc239, h31⟩ | ⟨hc239, h31⟩
   ·
    refine ws_ (c := x144.2 != 0) rfl rfl hc239 (ws_ (c := x144.2 != 0) rfl rfl hc239 (wo_ (ax_ (c := x144.2 != 0) (a := (vb true)) rfl rfl hc239 rfl (wm_ (v := (vb true)) rfl rfl (ws_ (c := true) rfl rfl rfl (ws_ (c := true) rfl rfl rfl (wo_ (ax_ (c := true) (a := (vb true)) rfl rfl rfl rfl (wm_ (v := (vb true)) rfl rfl (ws_ (c := true) rfl rfl rfl (ws_ (c := true) rfl rfl rfl (ws_ (c := true) rfl rfl rfl (ws_ (c := true) rfl rfl rfl (wo_ (ax_ (c := true) (a := (vb true)) rfl rfl rfl rfl (wm_ (v := (vb true)) rfl rfl (ws_ (c := true) rfl rfl rfl (ws_ (c := true) rfl rfl rfl (wo_ (ax_ (c := true) (a := (vb true)) rfl rfl rfl rfl (ae_ (ai_ (b := true) rfl rfl (ab_ (aa_ (wa_ (v := (vb false)) rfl rfl (ae_ (al_ ?_)))))))))))))))))))))))))))
    obtain rfl := sj h31
    obtain rfl := (hout2 _ rfl)
    have h32 := h
    obtain rfl := sj h32
    exact ⟨(ed57.trans (ed56.trans (ed55.trans ed54))), (vb false), (br_ rfl rfl), _, [], (((((((le1.trans le2).trans le3).trans le560).trans le575).trans le576).trans le588).trans le602), ((I783).drop).drop, rfl, rfl⟩
   refine wk_ (c := x144.2 != 0) rfl rfl hc239 (aw_ (v := (vi x146.2)) rfl e1257 (wk_ (c := x144.2 != 0) rfl rfl hc239 (cd_ (a := x146.2) (b := 0) rfl rfl rfl (wo_ (ar_ (c := x144.2 != 0) (b := (vb (x146.2 != 0))) rfl rfl hc239 rfl (wm_ (v := (vb (x146.2 != 0))) rfl rfl ?_))))))
   rcases ifs h31 with ⟨hc240, h31⟩ | ⟨hc240, h31⟩
   ·
    refine ws_ (c := x146.2 != 0) rfl rfl hc240 (ws_ (c := x146.2 != 0) rfl rfl hc240 (wo_ (ax_ (c := x146.2 != 0) (a := (vb true)) rfl rfl hc240 rfl (wm_ (v := (vb true)) rfl rfl (ws_ (c := true) rfl rfl rfl (ws_ (c := true) rfl rfl rfl (ws_ (c := true) rfl rfl rfl (ws_ (c := true) rfl rfl rfl (wo_ (ax_ (c := true) (a := (vb true)) rfl rfl rfl rfl (wm_ (v := (vb true)) rfl rfl (ws_ (c := true) rfl rfl rfl (ws_ (c := true) rfl rfl rfl (wo_ (ax_ (c := true) (a := (vb true)) rfl rfl rfl rfl (ae_ (ai_ (b := true) rfl rfl (ab_ (aa_ (wa_ (v := (vb false)) rfl rfl (ae_ (al_ ?_))))))))))))))))))))))
    obtain rfl := sj h31
    obtain rfl := (hout2 _ rfl)
    have h32 := h
    obtain rfl := sj h32
    exact ⟨(ed57.trans (ed56.trans (ed55.trans ed54))), (vb false), (br_ rfl rfl), _, [], (((((((le1.trans le2).trans le3).trans le560).trans le575).trans le576).trans le588).trans le602), ((I783).drop).drop, rfl, rfl⟩
   refine wk_ (c := x146.2 != 0) rfl rfl hc240 (aw_ (v := (vi x148.2)) rfl q630 (wk_ (c := x146.2 != 0) rfl rfl hc240 (cd_ (a := x148.2) (b := 0) rfl rfl rfl (wo_ (ar_ (c := x146.2 != 0) (b := (vb (x148.2 != 0))) rfl rfl hc240 rfl (wm_ (v := (vb (x148.2 != 0))) rfl rfl ?_))))))
   rcases ifs h31 with ⟨hc241, h31⟩ | ⟨hc241, h31⟩
   ·
    refine ws_ (c := x148.2 != 0) rfl rfl hc241 (ws_ (c := x148.2 != 0) rfl rfl hc241 (ws_ (c := x148.2 != 0) rfl rfl hc241 (ws_ (c := x148.2 != 0) rfl rfl hc241 (wo_ (ax_ (c := x148.2 != 0) (a := (vb true)) rfl rfl hc241 rfl (wm_ (v := (vb true)) rfl rfl (ws_ (c := true) rfl rfl rfl (ws_ (c := true) rfl rfl rfl (wo_ (ax_ (c := true) (a := (vb true)) rfl rfl rfl rfl (ae_ (ai_ (b := true) rfl rfl (ab_ (aa_ (wa_ (v := (vb false)) rfl rfl (ae_ (al_ ?_)))))))))))))))))
    obtain rfl := sj h31
    obtain rfl := (hout2 _ rfl)
    have h32 := h
    obtain rfl := sj h32
    exact ⟨(ed57.trans (ed56.trans (ed55.trans ed54))), (vb false), (br_ rfl rfl), _, [], (((((((le1.trans le2).trans le3).trans le560).trans le575).trans le576).trans le588).trans le602), ((I783).drop).drop, rfl, rfl⟩
   refine wk_ (c := x148.2 != 0) rfl rfl hc241 (aw_ (v := (vi x146.1)) rfl e1256 (wk_ (c := x148.2 != 0) rfl rfl hc241 (aw_ (v := (.slice z588 m588 k588)) rfl e1255 (wk_ (c := x148.2 != 0) rfl rfl hc241 (bb_ rfl Try.underlying23 rfl (r691.mono (le588.trans le602)) (wk_ (c := x148.2 != 0) rfl rfl hc241 (ku_ (a := x146.1) (b := (x144.1.length : Int)) rfl rfl rfl (wo_ (ar_ (c := x148.2 != 0) (b := (vb (decide ((x144.1.length : Int) ≤ x146.1)))) rfl rfl hc241 rfl (wm_ (v := (vb (decide ((x144.1.length : Int) ≤ x146.1)))) rfl rfl ?_))))))))))
   rcases ifs h31 with ⟨hc242, h31⟩ | ⟨hc242, h31⟩
   ·
    refine ws_ (c := decide ((x144.1.length : Int) ≤ x146.1)) rfl rfl hc242 (ws_ (c := decide ((x144.1.length : Int) ≤ x146.1)) rfl rfl hc242 (wo_ (ax_ (c := decide ((x144.1.length : Int) ≤ x146.1)) (a := (vb true)) rfl rfl hc242 rfl (ae_ (ai_ (b := true) rfl rfl (ab_ (aa_ (wa_ (v := (vb false)) rfl rfl (ae_ (al_ ?_))))))))))
    obtain rfl := sj h31
    obtain rfl := (hout2 _ rfl)
    have h32 := h
    obtain rfl := sj h32
    exact ⟨(ed57.trans (ed56.trans (ed55.trans ed54))), (vb false), (br_ rfl rfl), _, [], (((((((le1.trans le2).trans le3).trans le560).trans le575).trans le576).trans le588).trans le602), ((I783).drop).drop, rfl, rfl⟩
   refine wk_ (c := decide ((x144.1.length : Int) ≤ x146.1)) rfl rfl hc242 (aw_ (v := (vi x146.1)) rfl e1256 (wk_ (c := decide ((x144.1.length : Int) ≤ x146.1)) rfl rfl hc242 (bg_ (a := x146.1) (b := 1) rfl rfl rfl (wo_ (ar_ (c := decide ((x144.1.length : Int) ≤ x146.1)) (b := (vb (decide (x146.1 < 1)))) rfl rfl hc242 rfl (ae_ ?_))))))
   rcases ifs h31 with ⟨hc243, h31⟩ | ⟨hc243, h31⟩
   ·
    refine ai_ (b := decide (x146.1 < 1)) rfl hc243 (ab_ (aa_ (wa_ (v := (vb false)) rfl rfl (ae_ (al_ ?_)))))
    obtain rfl := sj h31
    obtain rfl := (hout2 _ rfl)
    have h32 := h
    obtain rfl := sj h32
    exact ⟨(ed57.trans (ed56.trans (ed55.trans ed54))), (vb false), (br_ rfl rfl), _, [], (((((((le1.trans le2).trans le3).trans le560).trans le575).trans le576).trans le588).trans le602), ((I783).drop).drop, rfl, rfl⟩
   refine am_ (b := decide (x146.1 < 1)) rfl hc243 (av_ (aa_ (wo_ (cl_ (l := [(.slice z613 m613 k613), (.slice z614 m614 k614), (.slice z615 m615 k615), (.slice z616 m616 k616)]) rfl hn_ (I783.nth 1 rfl) q629 rfl rfl (wo_ (bc_ (v := (.agg #[(.slice z613 m613 k613), (.slice z614 m614 k614), (.slice z615 m615 k615), (.slice z616 m616 k616)])) (cs := #[(.slice z570 m570 k570), (.slice z571 m571 k571), (.slice z572 m572 k572), (.slice z573 m573 k573)]) hn_ I783 e1252 rfl rfl (Nat.le_of_ble_eq_true rfl) rfl (fun w726 (I784 : Inv w726 S602 (ao_ g2 27 #[(.slice z613 m613 k613), (.slice z614 m614 k614), (.slice z615 m615 k615), (.slice z616 m616 k616)] :: ao_ (en_ (pt_ g44)) 27 #[(.slice z613 m613 k613), (.slice z614 m614 k614), (.slice z615 m615 k615), (.slice z616 m616 k616)] :: Fr)) => (ae_ (aa_ (wm_ (v := (vi s2.2.2.2.2)) rfl e1253 (wo_ (bq_ (a := s2.2.2.2.2) (b := 1) rfl rfl rfl (wa_ (v := (vi (w64 (s2.2.2.2.2 + 1)))) rfl rfl (ae_ ?_))))))))))))))
   obtain rfl := sj h31
   exact ⟨_, rfl, _, _, _, _, _, _, _, _, _, _, _, _, _, ((((le560.trans le575).trans le576).trans le588).trans le602), (I784.pull 1).drop, e1248, e1249, e1250, e1251, e1252, rfl, r724, r725, r726, r727, (ed57.trans (ed56.trans (ed55.trans ed54)))⟩
  refine am_ (b := decide (s2.2.2.2.2 ≤ (x7.1.length : Int))) rfl hc227 (bl_ ?_)
  obtain rfl := sj h31
  obtain rfl := (hout2 _ rfl)
  exact ⟨_, rfl, _, _, _, _, _, _, _, _, _, _, _, _, _, le560, I730, e1177, e1178, e1179, e1180, e1181, e1182, r673, r674, r675, r676, ed54⟩
 rintro f w ⟨out2, rfl, S603, z574, m574, k574, z575, m575, k575, z576, m576, k576, z577, m577, k577, le603, I785, e1265, e1266, e1267, e1268, e1269, e1270, r677, r678, r679, r680, ed58⟩
 have h := eh_ h
 refine ab_ (aa_ (wo_ (cl_ (l := [(.slice z574 m574 k574), (.slice z575 m575 k575), (.slice z576 m576 k576), (.slice z577 m577 k577)]) rfl hn_ (I785.nth 0 rfl) e1269 rfl rfl (wm_ (v := (.slice z5 m5 k5)) rfl e1265 (wm_ (v := (vi a2)) rfl e1266 ?_)))))
 obtain ⟨x149, hx149, h⟩ := bnd h
 refine wo_ (bm_ (vs := [(.agg #[(.slice z574 m574 k574), (.slice z575 m575 k575), (.slice z576 m576 k576), (.slice z577 m577 k577)]), (.slice z5 m5 k5), (vi a2)]) rfl ca30 rfl (cu_ rfl rfl rfl) (hints_Allowed_ok I785 (Riddle.rv (s := (⟨out2.1, out2.2.1, out2.2.2.1, out2.2.2.2.1⟩ : Riddle)) r677 r678 r679 r680) (h1_.mono (((le1.trans le2).trans le3).trans le603)) hx149) (fun cv30 w727 S604 O30 le604 I786 hv30 => ?_))
 obtain ⟨z617, m617, k617, rfl, rfl⟩ := hv30
 refine wm_ (v := (Value.tuple #[(.slice z617 m617 k617), (vi x149.2)])) rfl rfl (wo_ (bd_ (v := (.slice z617 m617 k617)) rfl rfl rfl (wo_ (bd_ (v := (vi x149.2)) rfl rfl rfl (wa_ (v := (.slice z617 m617 k617)) rfl rfl (wa_ (v := (vi x149.2)) rfl rfl (ae_ (ab_ (aa_ (wm_ (v := (vi x149.2)) rfl rfl (wo_ (bn_ (a := x149.2) (b := 0) rfl rfl rfl (wm_ (v := (vb (x149.2 == 0))) rfl rfl ?_)))))))))))))
 rcases ifs h with ⟨hc244, h⟩ | ⟨hc244, h⟩
 ·
  refine wk_ (c := x149.2 == 0) rfl rfl hc244 (aw_ (v := (.slice z617 m617 k617)) rfl rfl (wk_ (c := x149.2 == 0) rfl rfl hc244 (iu_ (α := Int) rfl Try.underlying28 rfl (I786.nth 0 rfl) (wk_ (c := x149.2 == 0) rfl rfl hc244 (bn_ (a := (x149.1.length : Int)) (b := 0) rfl rfl rfl (wo_ (ax_ (c := x149.2 == 0) (a := (vb ((x149.1.length : Int) == 0))) rfl rfl hc244 rfl (wm_ (v := (vb ((x149.1.length : Int) == 0))) rfl rfl ?_))))))))
  rcases ifs h with ⟨hc245, h⟩ | ⟨hc245, h⟩
  ·
   obtain ⟨x150, hx150, h⟩ := bnd h
   refine wk_ (c := (x149.1.length : Int) == 0) rfl rfl hc245 (aq_ (vs := []) (r := (vb x150)) rfl ca9 rfl args0 I786 (fun Fr_ hF_ => ja_ hF_  hx150) (fun w728 I787 => (wo_ (ax_ (c := (x149.1.length : Int) == 0) (a := (vb x150)) rfl rfl hc245 rfl (wa_ (v := (vb x150)) rfl rfl (ae_ (al_ ?_)))))))
   obtain rfl := sj h
   exact ⟨ed58, (vb x150), (br_ rfl rfl), _, [], ((((le1.trans le2).trans le3).trans le603).trans le604), ((I787).drop).drop, rfl, rfl⟩
  refine ws_ (c := (x149.1.length : Int) == 0) rfl rfl hc245 (wo_ (ar_ (c := (x149.1.length : Int) == 0) (b := (vb false)) rfl rfl hc245 rfl (wa_ (v := (vb false)) rfl rfl (ae_ (al_ ?_)))))
  obtain rfl := sj h
  exact ⟨ed58, (vb false), (br_ rfl rfl), _, [], ((((le1.trans le2).trans le3).trans le603).trans le604), ((I786).drop).drop, rfl, rfl⟩
 refine ws_ (c := x149.2 == 0) rfl rfl hc244 (ws_ (c := x149.2 == 0) rfl rfl hc244 (ws_ (c := x149.2 == 0) rfl rfl hc244 (wo_ (ar_ (c := x149.2 == 0) (b := (vb false)) rfl rfl hc244 rfl (wm_ (v := (vb false)) rfl rfl (ws_ (c := false) rfl rfl rfl (wo_ (ar_ (c := false) (b := (vb false)) rfl rfl rfl rfl (wa_ (v := (vb false)) rfl rfl (ae_ (al_ ?_)))))))))))
 obtain rfl := sj h
 exact ⟨ed58, (vb false), (br_ rfl rfl), _, [], ((((le1.trans le2).trans le3).trans le603).trans le604), ((I786).drop).drop, rfl, rfl⟩
end Go.Proofs.Ytlpdpeghgndmkaa.Pad
