/- A part of the proof: what the functions of the program compute, shown over the model. -/
import Derived.Test.YtlpdpeghgndmkaaGreatHizP
import Derived.Test.YtlpdpeghgndmkaaGreatHizW16
import Derived.KernelRfl
set_option linter.unusedVariables false
set_option maxHeartbeats 4000000
set_option maxRecDepth 100000
namespace Go.Proofs.YtlpdpeghgndmkaaGreat.Pad
open Go Go.Proofs
theorem hints_Allowed_ok {w : World} {S : PH} {Fr : List HP} {a0 : Riddle} {v0 : Value} {a1 : (List Aid)} {v1 : Value} {a2 : Int} {r : (List Int) × Int} (hI : Inv w S (Fr)) (h0_ : RV S v0 a0) (h1_ : RV S v1 a1) (h : hx_ a0 a1 a2 = some r) :
    Calls Tryz.prog 23 [v0, v1, (Value.int .i64 (a2))].toArray w (mn_ S Fr (fun T_ v_ O_ => ∃ (a0_ : Option Addr) (n0_ k0_ : Nat), v_ = (Value.tuple #[(Value.slice a0_ n0_ k0_), (Value.int .i64 (r.2))]) ∧ O_ = [Row (α := Int) 3 (Value.slice a0_ n0_ k0_) (r.1)])) := by
 unfold hx_ at h
 obtain ⟨c1, c2, c3, c4, e1, r1, r2, r3, r4⟩ := Riddle.inv h0_
 subst e1
 obtain ⟨z1, m1, k1, rfl⟩ := ae_ r1
 obtain ⟨z2, m2, k2, rfl⟩ := ae_ r2
 obtain ⟨z3, m3, k3, rfl⟩ := ae_ r3
 obtain ⟨z4, m4, k4, rfl⟩ := ae_ r4
 obtain ⟨z5, m5, k5, rfl⟩ := ae_ h1_
 refine hh_ (n := 28) (vs := [(.agg #[(.slice z1 m1 k1), (.slice z2 m2 k2), (.slice z3 m3 k3), (.slice z4 m4 k4)]), (.slice z5 m5 k5), (vi a2)]) Tryz.func23 rfl rfl rfl ?_
 have I1 := Inv.noD hI
 refine ab_ (aa_ (wo_ (bh_ (v := (.agg #[(.slice z1 m1 k1), (.slice z2 m2 k2), (.slice z3 m3 k3), (.slice z4 m4 k4)])) rfl I1 rfl (fun g1 w1 I2 => ?_))))
 obtain ⟨S1, le1, I3, p1⟩ := Inv.boxFreeze (x := a0) I2 (Riddle.rv (s := a0) r1 r2 r3 r4)
 refine wo_ (cc_ (z := (.slice none 0 0)) rfl I3 zo28 (fun g2 w2 (I4 : Inv w2 S1 (aq_ g2 28 #[(.slice none 0 0)] :: nt_ ([]) :: Fr)) => (wa_ (v := (vi 0)) rfl rfl (ad_ (ab_ (ab_ (aa_ (wo_ (an_ (v := (pt_ g1)) (e := a0) rfl jq_ rfl (p1.at_ I4) (fun u1 hu1 => ?_))))))))))
 obtain ⟨c5, c6, c7, c8, e7, r5, r6, r7, r8⟩ := Riddle.inv hu1
 subst e7
 obtain ⟨z6, m6, k6, rfl⟩ := ae_ r5
 obtain ⟨z7, m7, k7, rfl⟩ := ae_ r6
 obtain ⟨z8, m8, k8, rfl⟩ := ae_ r7
 obtain ⟨z9, m9, k9, rfl⟩ := ae_ r8
 refine wm_ (v := (.slice z5 m5 k5)) rfl rfl (wm_ (v := (vi a2)) rfl rfl ?_)
 obtain ⟨x1, hx1, h⟩ := bnd h
 refine wo_ (ap_ (vs := [(.agg #[(.slice z6 m6 k6), (.slice z7 m7 k7), (.slice z8 m8 k8), (.slice z9 m9 k9)]), (.slice z5 m5 k5), (vi a2)]) (r := (vi x1)) rfl ca57 rfl (cv_ rfl rfl rfl) I4 (fun Fr_ hF_ => kq_ hF_ (Riddle.rv (s := a0) r5 r6 r7 r8) (h1_.mono le1) hx1) (fun w3 I5 => (wa_ (v := (vi x1)) rfl rfl (ad_ (ab_ (aa_ (wm_ (v := (vi x1)) rfl rfl (wo_ (ce_ (a := x1) (b := 0) rfl rfl rfl (ad_ ?_))))))))))
 rcases ifs h with ⟨hc1, h⟩ | ⟨hc1, h⟩
 ·
  refine ai_ (b := x1 != 0) rfl hc1 (ab_ (aa_ (wm_ (v := (vi x1)) rfl rfl (wo_ (bd_ (v := (.slice none 0 0)) (cs := #[(.slice none 0 0)]) gx_ I5 rfl rfl rfl nb rfl (fun w4 (I6 : Inv w4 S1 (aq_ g2 28 #[(.slice none 0 0)] :: nt_ ([]) :: Fr)) => (wa_ (v := (vi x1)) rfl rfl (ad_ (ak_ (ret_m rfl (I6.pull 1) (fun w5 I7 => ?_)))))))))))
  have I8 := Inv.rowNil (α := Int) (T := 3) I7
  obtain rfl := sj h
  exact ⟨(Value.tuple #[(.slice none 0 0), (vi x1)]), (res2c1 (c := (.slice none 0 0)) rfl rfl gx_ I7 rfl), _, [Row (α := Int) 3 (.slice none 0 0) (([] : List Int))], le1, (I8.pull 1).drop, _, _, _, rfl, rfl⟩
 refine am_ (b := x1 != 0) rfl hc1 (aw_ (ab_ (ab_ (aa_ (wo_ (an_ (v := (pt_ g1)) (e := a0) rfl jq_ rfl (p1.at_ I5) (fun u2 hu2 => ?_)))))))
 obtain ⟨c9, c10, c11, c12, e12, r9, r10, r11, r12⟩ := Riddle.inv hu2
 subst e12
 obtain ⟨z10, m10, k10, rfl⟩ := ae_ r9
 obtain ⟨z11, m11, k11, rfl⟩ := ae_ r10
 obtain ⟨z12, m12, k12, rfl⟩ := ae_ r11
 obtain ⟨z13, m13, k13, rfl⟩ := ae_ r12
 refine wm_ (v := (.slice z5 m5 k5)) rfl rfl (wm_ (v := (vi a2)) rfl rfl ?_)
 obtain ⟨x2, hx2, h⟩ := bnd h
 refine wo_ (bp_ (vs := [(.agg #[(.slice z10 m10 k10), (.slice z11 m11 k11), (.slice z12 m12 k12), (.slice z13 m13 k13)]), (.slice z5 m5 k5), (vi a2)]) rfl ca62 rfl (cv_ rfl rfl rfl) (mi_ I5 (Riddle.rv (s := a0) r9 r10 r11 r12) (h1_.mono le1) hx2) (fun cv1 w6 S2 O1 le2 I9 hv1 => ?_))
 obtain ⟨p2, p3, p4, rfl, rfl, r13, r14, r15⟩ := hv1
 refine ad_ (ay_ ?_)
 have I23 := Inv.rowNil (α := Int) (T := 3) I9
 obtain ⟨o2, hrun1, h⟩ := bnd h
 refine nj_ (M := argII) (F := (fun g_ s_ => dl_ g_ x2.1 x2.2.1 x2.2.2 s_)) (fun (s1 : (List Int)) => HPof fun S_ L_ => ∃ (z22 : Option Addr) (m22 k22 : Nat), L_ = [aq_ g2 28 #[(.slice z22 m22 k22)], Row (α := Int) 3 (.slice z22 m22 k22) (s1)]) (fun e=>by cases e) (fun _ => Code.ret) rfl rfl argII_len ⟨88, [], [p2, p3, p4], rfl, ca88, fun R_ Rx_ g_ T_ w_ Fr_ v_ s_ o_ hle_ ho_ hy_ hI_ h_ => Calls.doneMono (ko_ hI_ ho_ hy_ (r13.mono hle_) (r14.mono hle_) (r15.mono hle_) h_) fun _ _ _ hp_ => hp_.2⟩ (Inv.ofShut (L := [aq_ g2 28 #[(.slice none 0 0)], Row (α := Int) 3 (.slice none 0 0) (([] : List Int))]) ⟨_, _, _, rfl⟩ (I23.pull 1)) hrun1 ?_ ?_
 ·
  intro l1 rc1 S3 w16 us1 x7 s2 o3 G1 le3 hr1 hn1 hI1 h1
  obtain rfl := hr1
  obtain ⟨S4, L1, le4, ⟨z23, m23, k23, rfl⟩, I24⟩ := Inv.ofOpen (hI1.pull 1)
  have I25 : Inv w16 S3 (aq_ g2 28 #[(Value.slice z23 m23 k23)] :: Row (α := Int) 3 (Value.slice z23 m23 k23) (s2) :: fj_ l1 rc1 :: G1) := I24
  refine aa_ (wa_ (v := (vi x7.1)) rfl rfl (ad_ (⟨_, _, lr, (I25.pull 2), fun w17 I26 => ?_⟩)))
  refine ay_ (aa_ (wo_ (be_ (c := (.slice z23 m23 k23)) rfl gx_ (I26.nth 1 rfl) rfl rfl (wm_ (v := (vi x7.1)) rfl rfl (wo_ (bi_ (vs := [(vi x7.1)]) (r := ([x7.1] : List Int)) rfl Tryz.underlying28 el3 (iw_ rfl) rfl (by decide) (by decide) ⟨(ec_ _), trivial⟩ I26 (fun u9 w18 I27 => ?_)))))))
  obtain ⟨z24, m24, k24, e26⟩ := bl_ I27
  subst e26
  obtain ⟨x8, hx6, h1⟩ := bnd h1
  refine wo_ (eh_ (α := Int) (v := (.slice z23 m23 k23)) (u := (.slice z24 m24 k24)) rfl rfl Tryz.underlying28 el3 (by decide) (by decide) rfl rfl (I27.pull 3) (Inv.rowSrc (I27.nth 0 rfl)) hx6 (fun u10 w19 I28 => ?_))
  obtain ⟨z25, m25, k25, e27⟩ := bl_ I28
  subst e27
  refine wo_ (bd_ (v := (.slice z25 m25 k25)) (cs := #[(.slice z23 m23 k23)]) gx_ (I28.pull 3) rfl rfl rfl nb rfl (fun w20 (I29 : Inv w20 S3 (aq_ g2 28 #[(.slice z25 m25 k25)] :: Row (α := Int) 3 (.slice z25 m25 k25) (x8) :: Row (α := Int) 3 (.slice z24 m24 k24) (([x7.1] : List Int)) :: fj_ l1 { rc1 with state := .busy } :: G1)) => (ad_ ?_)))
  obtain rfl := sj h1
  exact ⟨_, _, lr, rfl, (Inv.swap (Inv.ofShut (L := [aq_ g2 28 #[(.slice z25 m25 k25)], Row (α := Int) 3 (.slice z25 m25 k25) (x8)]) ⟨_, _, _, rfl⟩ ((((I29.pull 2).drop.pull 2).pull 2).pull 2)))⟩
 intro D1 w21 S5 le5 I30
 rcases o2 with s3 | q2
 ·
  obtain ⟨S6, L2, le6, ⟨z26, m26, k26, rfl⟩, I31⟩ := Inv.ofOpen I30
  have I32 : Inv w21 S5 (aq_ g2 28 #[(Value.slice z26 m26 k26)] :: Row (α := Int) 3 (Value.slice z26 m26 k26) (s3) :: Dfr D1 :: nt_ ([]) :: Fr) := I31
  have I33 := Inv.consD ((I32.pull 3).pull 3)
  have h := onE_inl h
  refine lp_ (ab_ (aa_ (wo_ (be_ (c := (.slice z26 m26 k26)) rfl gx_ (I33.nth 1 rfl) rfl rfl (wo_ (bd_ (v := (.slice z26 m26 k26)) (cs := #[(.slice z26 m26 k26)]) gx_ (I33.pull 1) rfl rfl rfl nb rfl (fun w22 (I34 : Inv w22 S5 (aq_ g2 28 #[(.slice z26 m26 k26)] :: nt_ (D1 :: []) :: Row (α := Int) 3 (.slice z26 m26 k26) (s3) :: Fr)) => (wa_ (v := (vi 0)) rfl rfl (ad_ (ak_ (ret_m (os_ rfl) (I34.pull 1) (fun w23 I35 => ?_))))))))))))
  obtain rfl := sj h
  exact ⟨(Value.tuple #[(.slice z26 m26 k26), (vi 0)]), (res2c1 (c := (.slice z26 m26 k26)) rfl rfl gx_ I35 rfl), _, [Row (α := Int) 3 (.slice z26 m26 k26) (s3)], ((le1.trans le2).trans le5), (I35).drop, _, _, _, rfl, rfl⟩
 cases q2
end Go.Proofs.YtlpdpeghgndmkaaGreat.Pad
