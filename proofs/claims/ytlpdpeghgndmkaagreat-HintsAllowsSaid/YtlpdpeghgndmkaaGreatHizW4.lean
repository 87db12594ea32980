/- A part of the proof: what the functions of the program compute, shown over the model. -/
import Derived.Test.YtlpdpeghgndmkaaGreatHizP
import Derived.Test.YtlpdpeghgndmkaaGreatHizW2
import Derived.Test.YtlpdpeghgndmkaaGreatHizW3
import Derived.KernelRfl
set_option linter.unusedVariables false
set_option maxHeartbeats 4000000
set_option maxRecDepth 100000
namespace Go.Proofs.YtlpdpeghgndmkaaGreat.Pad
open Go Go.Proofs
theorem vx_ {w : World} {S : PH} {Fr : List HP} {a0 : (List Clue)} {v0 : Value} {a1 : (List Int)} {v1 : Value} {r : Int} (hI : Inv w S (Fr)) (h0_ : RV S v0 a0) (h1_ : RV S v1 a1) (h : jh_ a0 a1 = some r) :
    Calls Tryz.prog 70 [v0, v1].toArray w (bw_ S Fr (Value.int .i64 (r))) := by
 unfold jh_ at h
 obtain ⟨z1, m1, k1, rfl⟩ := ac_ h0_
 obtain ⟨z2, m2, k2, rfl⟩ := ac_ h1_
 refine ao_ (n := 20) Tryz.func70 rfl rfl rfl (ab_ (aa_ (wa_ (v := (vi 0)) rfl rfl (ad_ (ab_ (ab_ (aa_ (wa_ (v := (vi 0)) rfl rfl (ad_ ?_)))))))))
 have hk1 : a0.length ≤ 9223372036854775807 := (cx_ h0_)
 obtain ⟨o2, hrun1, h⟩ := bnd h
 refine bp_ (fun f w => ∃ out1, o2 = Sum.inl out1 ∧ Inv w S (Fr) ∧ f 0 = (.slice z1 m1 k1) ∧ f 1 = (.slice z2 m2 k2) ∧ f.ds = []) ?_ ?_
 ·
  refine au_ ?_
  refine ex_ (I := fun (i1 : Nat) (s1 : Unit) (f : Frm) (w : World) => Inv w S (Fr) ∧ f 0 = (.slice z1 m1 k1) ∧ f 1 = (.slice z2 m2 k2) ∧ f 5 = (vi (i1 : Int)) ∧ f.ds = []) hrun1 ⟨hI, rfl, rfl, rfl, rfl⟩ ?_ ?_
  ·
   rintro i1 s1 f w o1 hlt1 hI1 h1 hout1
   obtain ⟨I5, e13, e14, e15, ed3⟩ := hI1
   refine ab_ (ab_ (aa_ (wm_ rfl e15 (wm_ rfl e13 (wo_ (az_ rfl Tryz.underlying63 rfl h0_ (wo_ (be_ rfl rfl rfl (ad_ (ah_ rfl (eo_ hlt1) (ar_ (ab_ (au_ (ab_ (aa_ (wm_ rfl e13 (wm_ rfl e15 ?_)))))))))))))))))
   obtain ⟨x5, hx5, h1⟩ := bnd h1
   refine wo_ (ix_ Tryz.underlying63 lk_ h0_ hx5 rfl rfl (wo_ (ld_ lk_ (h0_.elem I5.in_ hx5) rfl (fun u3 hu3 => ?_))))
   obtain ⟨c3, e16, r3⟩ := Clue.inv hu3
   subst e16
   obtain ⟨z5, m5, k5, rfl⟩ := ac_ r3
   refine wm_ rfl e14 ?_
   obtain ⟨x6, hx6, h1⟩ := bnd h1
   refine wo_ (cv_ ca92 rfl I5 (fun Fr_ hF_ => rd_ hF_ (Clue.rv (s := x5) r3) h1_ hx6) (br_ rfl rfl) (fun w3 I6 => (wo_ (bx_ rfl rfl (ad_ ?_)))))
   rcases ifs h1 with ⟨hc3, h1⟩ | ⟨hc3, h1⟩
   ·
    refine ah_ rfl hc3 (ab_ (aa_ (wm_ rfl e15 (wa_ (v := (vi (i1 : Int))) rfl rfl (ad_ (ak_ ?_))))))
    obtain rfl := sj h1
    obtain rfl := (hout1 _ rfl)
    have h2 := h
    obtain rfl := sj h2
    exact ⟨ed3, (vi (i1 : Int)), (bo_ rfl rfl), _, [], lr, I6, rfl, rfl⟩
   refine ai_ rfl hc3 (ar_ (aa_ (wm_ rfl e15 (wo_ (bl_ rfl rfl rfl (wa_ (v := (vi (w64 ((i1 : Int) + 1)))) rfl rfl (ad_ ?_)))))))
   obtain rfl := sj h1
   exact ⟨_, rfl, I6, e13, e14, (bh_ hlt1 hk1), ed3⟩
  rintro s2 f w hs1 hI2
  obtain ⟨I7, e18, e19, e20, ed4⟩ := hI2
  refine ab_ (ab_ (aa_ (wm_ rfl e20 (wm_ rfl e18 (wo_ (az_ rfl Tryz.underlying63 rfl h0_ (wo_ (be_ rfl rfl rfl (ad_ (ai_ rfl (ep_ _) (bk_ ?_)))))))))))
  exact ⟨s2, hs1, I7, e18, e19, ed4⟩
 rintro f w ⟨out1, rfl, I8, e21, e22, ed5⟩
 have h := eh_ h
 refine ab_ (aa_ (wa_ (v := (vi ((-1)))) rfl rfl (ad_ (ak_ ?_))))
 obtain rfl := sj h
 exact ⟨ed5, (vi ((-1))), (bo_ rfl rfl), _, [], lr, I8, rfl, rfl⟩
theorem lt_ {w : World} {S : PH} {Fr : List HP} {a0 : CodeLock} {v0 : Value} {a1 : (List Clue)} {v1 : Value} {r : (List (List Int))} (hI : Inv w S (Fr)) (h0_ : RV S v0 a0) (h1_ : RV S v1 a1) (h : gm_ a0 a1 = some r) :
    Calls Tryz.prog 34 [v0, v1].toArray w (lp_ S Fr (fun T_ v_ O_ => ∃ (a0_ : Option Addr) (n0_ k0_ : Nat), v_ = (Value.slice a0_ n0_ k0_) ∧ O_ = [Row (α := (List Int)) 28 (Value.slice a0_ n0_ k0_) (r)])) := by
 unfold gm_ at h
 have e1 := CodeLock.inv h0_
 subst e1
 obtain ⟨z1, m1, k1, rfl⟩ := ac_ h1_
 refine ao_ (n := 58) Tryz.func34 rfl rfl rfl (ab_ (aa_ (wo_ (bi_ (v := (.agg #[(vi a0.Wheels), (vi a0.Symbols)])) rfl hI rfl (fun g1 w1 I1 => ?_)))))
 obtain ⟨S1, le1, I2, p1⟩ := Inv.boxFreeze (x := a0) I1 (CodeLock.rv (s := a0))
 refine wa_ (v := sn) rfl rfl (ad_ (ab_ (aa_ (wa_ (v := (vi 1)) rfl rfl (ad_ (ab_ (ab_ (aa_ (wa_ (v := (vi 0)) rfl rfl (ad_ ?_))))))))))
 obtain ⟨x1, hx1, h⟩ := bnd h
 obtain ⟨out1, hrun1, h⟩ := bnd h
 refine bp_ (fun f w => Inv w S1 (Fr) ∧ f 1 = (.slice z1 m1 k1) ∧ f 2 = (pt_ g1) ∧ f 5 = (vi out1) ∧ f.ds = []) ?_ ?_
 ·
  refine au_ ?_
  refine da_ (I := fun (i1 : Nat) (s1 : (Int)) (f : Frm) (w : World) => Inv w S1 (Fr) ∧ f 1 = (.slice z1 m1 k1) ∧ f 2 = (pt_ g1) ∧ f 5 = (vi s1) ∧ f 6 = (vi (i1 : Int)) ∧ f.ds = []) hrun1 ⟨I2, rfl, rfl, rfl, rfl, rfl⟩ ?_ ?_
  ·
   rintro i1 s1 f w o1 hlt1 hI1 h1
   obtain ⟨I6, e15, e16, e17, e18, ed4⟩ := hI1
   refine ab_ (ab_ (aa_ (wm_ rfl e18 (wo_ (ae_ rfl hh_ e16 (p1.at_ I6) (wo_ (li_ sh3 ((p1.at_ I6).fld CodeLock.fld0) rfl (wo_ (be_ rfl rfl rfl (ad_ (ah_ rfl (cnt_t hx1 hlt1) (ar_ (ab_ (au_ (aa_ (wm_ rfl e17 (wo_ (ae_ rfl ru_ e16 (p1.at_ I6) (wo_ (li_ sh3 ((p1.at_ I6).fld CodeLock.fld1) rfl (wo_ (op_mul rfl rfl rfl (wa_ (v := (vi (w64 (s1 * a0.Symbols)))) rfl rfl (ad_ (aa_ (wm_ rfl e18 (wo_ (bl_ rfl rfl rfl (wa_ (v := (vi (w64 ((i1 : Int) + 1)))) rfl rfl (ad_ ?_))))))))))))))))))))))))))))))
   obtain rfl := sj h1
   exact ⟨I6, e15, e16, rfl, (bh_ hlt1 (zi_ hx1)), ed4⟩
  rintro f w hI2
  obtain ⟨I7, e19, e20, e21, e22, ed5⟩ := hI2
  refine ab_ (ab_ (aa_ (wm_ rfl e22 (wo_ (ae_ rfl hh_ e20 (p1.at_ I7) (wo_ (li_ sh3 ((p1.at_ I7).fld CodeLock.fld0) rfl (wo_ (be_ rfl rfl rfl (ad_ (ai_ rfl (cnt_f hx1) (bk_ ?_))))))))))))
  exact ⟨I7, e19, e20, e21, ed5⟩
 rintro f w ⟨I8, e23, e24, e25, ed6⟩
 refine ab_ (aa_ (wa_ (v := sn) rfl rfl (ad_ (ab_ (ab_ (aa_ (wa_ (v := (vi 0)) rfl rfl (ad_ ?_))))))))
 obtain ⟨x74, hx74, h⟩ := bnd h
 have I79 := Inv.rowNil (α := (List Int)) (T := 28) I8
 obtain ⟨out5, hrun5, h⟩ := bnd h
 refine bp_ (fun f w => ∃ (S_ : PH) (z14 : Option Addr) (m14 k14 : Nat), S1.Le S_ ∧ Inv w S_ (Row (α := (List Int)) 28 (.slice z14 m14 k14) (out5) :: Fr) ∧ f 1 = (.slice z1 m1 k1) ∧ f 2 = (pt_ g1) ∧ f 5 = (vi out1) ∧ f 7 = (.slice z14 m14 k14) ∧ f.ds = []) ?_ ?_
 ·
  refine au_ ?_
  refine da_ (I := fun (i2 : Nat) (s5 : (List (List Int))) (f : Frm) (w : World) => ∃ (S_ : PH) (z13 : Option Addr) (m13 k13 : Nat), S1.Le S_ ∧ Inv w S_ (Row (α := (List Int)) 28 (.slice z13 m13 k13) (s5) :: Fr) ∧ f 1 = (.slice z1 m1 k1) ∧ f 2 = (pt_ g1) ∧ f 5 = (vi out1) ∧ f 7 = (.slice z13 m13 k13) ∧ f 8 = (vi (i2 : Int)) ∧ f.ds = []) hrun5 ⟨_, _, _, _, lr, I79, e23, e24, e25, rfl, rfl, ed6⟩ ?_ ?_
  ·
   rintro i2 s5 f w o5 hlt2 hI6 h9
   obtain ⟨S13, z13, m13, k13, le13, I80, e242, e243, e244, e245, e246, ed34⟩ := hI6
   refine ab_ (ab_ (aa_ (wm_ rfl e246 (wm_ rfl e244 (wo_ (be_ rfl rfl rfl (ad_ (ah_ rfl (cnt_t hx74 hlt2) (ar_ (ab_ (au_ (ab_ (aa_ (wo_ (ae_ rfl hh_ e243 ((p1.mono le13).at_ I80) (wo_ (li_ sh3 (((p1.mono le13).at_ I80).fld CodeLock.fld0) rfl ?_)))))))))))))))))
   obtain ⟨x75, hx75, h9⟩ := bnd h9
   refine wo_ (gn_ (c := a0.Wheels) rfl Tryz.underlying28 el3 (by decide) rfl rfl I80 hx75 (fun u10 w35 I81 => ?_))
   obtain ⟨z15, m15, k15, e247⟩ := bc_ I81
   subst e247
   refine wa_ (v := (.slice z15 m15 k15)) rfl rfl (ad_ (ab_ (aa_ (wm_ rfl e246 (wa_ (v := (vi (i2 : Int))) rfl rfl (ad_ (ab_ (ab_ (aa_ (wo_ (ae_ rfl hh_ e243 ((p1.mono le13).at_ I81) (wo_ (li_ sh3 (((p1.mono le13).at_ I81).fld CodeLock.fld0) rfl (wo_ (eb_ rfl rfl rfl (wa_ (v := (vi (w64 (a0.Wheels - 1)))) rfl rfl (ad_ ?_)))))))))))))))))
   obtain ⟨out6, hrun6, h9⟩ := bnd h9
   refine bp_ (fun f w => Inv w S13 (Row (α := (List Int)) 28 (.slice z13 m13 k13) (s5) :: Row (α := Int) 3 (.slice z15 m15 k15) (out6.1) :: Fr) ∧ f 1 = (.slice z1 m1 k1) ∧ f 2 = (pt_ g1) ∧ f 5 = (vi out1) ∧ f 7 = (.slice z13 m13 k13) ∧ f 8 = (vi (i2 : Int)) ∧ f 9 = (.slice z15 m15 k15) ∧ f 10 = (vi out6.2.1) ∧ f 11 = (vi out6.2.2) ∧ f.ds = []) ?_ ?_
   ·
    refine au_ ?_
    refine kr_ (I := fun (s6 : (List Int × Int × Int)) (f : Frm) (w : World) => Inv w S13 (Row (α := (List Int)) 28 (.slice z13 m13 k13) (s5) :: Row (α := Int) 3 (.slice z15 m15 k15) (s6.1) :: Fr) ∧ f 1 = (.slice z1 m1 k1) ∧ f 2 = (pt_ g1) ∧ f 5 = (vi out1) ∧ f 7 = (.slice z13 m13 k13) ∧ f 8 = (vi (i2 : Int)) ∧ f 9 = (.slice z15 m15 k15) ∧ f 10 = (vi s6.2.1) ∧ f 11 = (vi s6.2.2) ∧ f.ds = []) hrun6 ⟨(I81.pull 1), e242, e243, e244, e245, e246, rfl, rfl, rfl, ed34⟩ ?_
    rintro s6 f w o6 hI7 h11 hout6
    obtain ⟨I94, e296, e297, e298, e299, e300, e301, e302, e303, ed41⟩ := hI7
    refine ab_ (ab_ (aa_ (wm_ rfl e303 (wo_ (mx_ rfl rfl rfl (ad_ ?_))))))
    rcases ifs h11 with ⟨hc31, h11⟩ | ⟨hc31, h11⟩
    ·
     refine ah_ rfl hc31 (ar_ (ab_ (au_ (ab_ (aa_ (wm_ rfl e301 (wm_ rfl e303 (wm_ rfl e302 (wo_ (ae_ rfl ru_ e297 ((p1.mono le13).at_ I94) (wo_ (li_ sh3 (((p1.mono le13).at_ I94).fld CodeLock.fld1) rfl ?_))))))))))))
     obtain ⟨x94, hx94, h11⟩ := bnd h11
     refine wo_ (op_rem (a := s6.2.1) (b := a0.Symbols) rfl rfl rfl hx94 ?_)
     obtain ⟨x95, hx95, h11⟩ := bnd h11
     refine wo_ (ba_ (v := (.slice z15 m15 k15)) (i := s6.2.2) (e := x95) rfl Tryz.underlying28 sh3 rfl (Inv.rowSrc (I94.nth 1 rfl)) rfl hx95 (wo_ (dh_ (u := (vi x94)) (e' := x94) sh3 (I94.pull 1) rfl rfl hx95 (dv_ _) (fun w42 I95 => (ad_ (aa_ (wm_ rfl e302 (wo_ (ae_ rfl ru_ e297 ((p1.mono le13).at_ I95) (wo_ (li_ sh3 (((p1.mono le13).at_ I95).fld CodeLock.fld1) rfl ?_)))))))))))
     obtain ⟨x96, hx96, h11⟩ := bnd h11
     refine wo_ (op_quo (a := s6.2.1) (b := a0.Symbols) rfl rfl rfl hx96 (wa_ (v := (vi x96)) rfl rfl (ad_ (aa_ (wm_ rfl e303 (wo_ (eb_ rfl rfl rfl (wa_ (v := (vi (w64 (s6.2.2 - 1)))) rfl rfl (ad_ ?_)))))))))
     obtain rfl := sj h11
     exact ⟨_, rfl, (I95.pull 1), e296, e297, e298, e299, e300, e301, rfl, rfl, ed41⟩
    refine ai_ rfl hc31 (bk_ ?_)
    obtain rfl := sj h11
    obtain rfl := (hout6 _ rfl)
    exact ⟨((I94.pull 1).pull 1), e296, e297, e298, e299, e300, e301, e302, e303, ed41⟩
   rintro f w ⟨I96, e304, e305, e306, e307, e308, e309, e310, e311, ed42⟩
   refine ab_ (aa_ (wm_ rfl e304 (wm_ rfl e309 ?_)))
   obtain ⟨x97, hx97, h9⟩ := bnd h9
   obtain ⟨S14, Fr4, le14, I97, r7, bk4⟩ := Inv.lend1 (I96.pull 1)
   refine wo_ (cl_ ca70 rfl (vx_ I97 (h1_.mono ((le1.trans le13).trans le14)) r7 hx97) (br_ rfl rfl) (fun cv4 w43 S15 O4 le15 I99 hv4 => ?_))
   obtain ⟨rfl, rfl⟩ := hv4
   have I98 := bk4 [] trivial I99 le15
   refine wo_ (be_ rfl rfl rfl (ad_ ?_))
   rcases ifs h9 with ⟨hc32, h9⟩ | ⟨hc32, h9⟩
   ·
    refine ah_ rfl hc32 (aa_ (wm_ rfl e307 (wm_ rfl e309 ?_)))
    obtain ⟨S16, le16, I100, r8⟩ := Inv.rowFreeze I98
    refine wo_ (bf_ (vs := [(.slice z15 m15 k15)]) (r := ([out6.1] : List (List Int))) rfl Tryz.underlying23 zh_ (fc_ rfl) rfl (by decide) (by decide) ⟨r8, trivial⟩ I100 (fun u11 w44 I101 => ?_))
    obtain ⟨z16, m16, k16, e312⟩ := bc_ I101
    subst e312
    obtain ⟨x98, hx98, h9⟩ := bnd h9
    refine wo_ (bt_ (α := (List Int)) (v := (.slice z13 m13 k13)) (u := (.slice z16 m16 k16)) rfl rfl Tryz.underlying23 zh_ (by decide) (by decide) rfl rfl (I101.pull 1) (Inv.rowSrc (I101.nth 0 rfl)) hx98 (fun u12 w45 I102 => ?_))
    obtain ⟨z17, m17, k17, e313⟩ := bc_ I102
    subst e313
    refine wa_ (v := (.slice z17 m17 k17)) rfl rfl (ad_ (aa_ (wm_ rfl e308 (wo_ (bl_ rfl rfl rfl (wa_ (v := (vi (w64 ((i2 : Int) + 1)))) rfl rfl (ad_ ?_)))))))
    obtain rfl := sj h9
    exact ⟨_, _, _, _, (le13.trans le16), (I102.pull 1).drop, e304, e305, e306, rfl, (bh_ hlt2 (zi_ hx74)), ed42⟩
   refine ai_ rfl hc32 (ar_ (aa_ (wm_ rfl e308 (wo_ (bl_ rfl rfl rfl (wa_ (v := (vi (w64 ((i2 : Int) + 1)))) rfl rfl (ad_ ?_)))))))
   obtain rfl := sj h9
   exact ⟨_, _, _, _, le13, (I98).drop, e304, e305, e306, e307, (bh_ hlt2 (zi_ hx74)), ed42⟩
  rintro f w hI8
  obtain ⟨S17, z18, m18, k18, le17, I103, e314, e315, e316, e317, e318, ed43⟩ := hI8
  refine ab_ (ab_ (aa_ (wm_ rfl e318 (wm_ rfl e316 (wo_ (be_ rfl rfl rfl (ad_ (ai_ rfl (cnt_f hx74) (bk_ ?_)))))))))
  exact ⟨_, _, _, _, le17, I103, e314, e315, e316, e317, ed43⟩
 rintro f w ⟨S18, z14, m14, k14, le18, I104, e319, e320, e321, e322, ed44⟩
 refine ab_ (aa_ (wm_ rfl e322 (wa_ (v := (.slice z14 m14 k14)) rfl rfl (ad_ (ak_ ?_)))))
 obtain rfl := sj h
 exact ⟨ed44, (.slice z14 m14 k14), (bo_ rfl rfl), _, [Row (α := (List Int)) 28 (.slice z14 m14 k14) (out5)], (le1.trans le18), I104, _, _, _, rfl, rfl⟩
theorem wb_ {w : World} {S : PH} {Fr : List HP} {a0 : Riddle} {v0 : Value} {r : Bool} (hI : Inv w S (Fr)) (h0_ : RV S v0 a0) (h : jk_ a0 = some r) :
    Calls Tryz.prog 9 [v0].toArray w (bw_ S Fr (Value.bool (r))) := by
 unfold jk_ at h
 obtain ⟨c1, c2, c3, c4, e1, r1, r2, r3, r4⟩ := Riddle.inv h0_
 subst e1
 obtain ⟨z1, m1, k1, rfl⟩ := ac_ r1
 obtain ⟨z2, m2, k2, rfl⟩ := ac_ r2
 obtain ⟨z3, m3, k3, rfl⟩ := ac_ r3
 obtain ⟨z4, m4, k4, rfl⟩ := ac_ r4
 refine ao_ (n := 36) Tryz.func9 rfl rfl rfl (ab_ (aa_ (wo_ (bi_ (v := (.agg #[(.slice z1 m1 k1), (.slice z2 m2 k2), (.slice z3 m3 k3), (.slice z4 m4 k4)])) rfl hI rfl (fun g1 w1 I1 => ?_)))))
 obtain ⟨S1, le1, I2, p1⟩ := Inv.boxFreeze (x := a0) I1 (Riddle.rv (s := a0) r1 r2 r3 r4)
 refine wa_ (v := (vb false)) rfl rfl (ad_ (ab_ (ab_ (aa_ (wo_ (ld_ fr_ (p1.at_ I2) rfl (fun u1 hu1 => ?_)))))))
 obtain ⟨c5, c6, c7, c8, e6, r5, r6, r7, r8⟩ := Riddle.inv hu1
 subst e6
 obtain ⟨z5, m5, k5, rfl⟩ := ac_ r5
 obtain ⟨z6, m6, k6, rfl⟩ := ac_ r6
 obtain ⟨z7, m7, k7, rfl⟩ := ac_ r7
 obtain ⟨z8, m8, k8, rfl⟩ := ac_ r8
 obtain ⟨x1, hx1, h⟩ := bnd h
 refine wo_ (cv_ ca33 rfl I2 (fun Fr_ hF_ => pp_ hF_ (Riddle.rv (s := a0) r5 r6 r7 r8) hx1) (em_ rfl) (fun w2 I3 => (wo_ (cd_ rfl rfl rfl (ad_ ?_)))))
 rcases ifs h with ⟨hc1, h⟩ | ⟨hc1, h⟩
 ·
  refine ah_ rfl hc1 (ab_ (aa_ (wo_ (fa_ co_ (p1.at_ I3) rfl (wo_ (ld_ mh_ ((p1.at_ I3).fld Riddle.fld0) rfl (fun u2 hu2 => ?_)))))))
  obtain ⟨z9, m9, k9, rfl⟩ := ac_ hu2
  refine wo_ (az_ rfl Tryz.underlying22 rfl hu2 (wo_ (lv_ rfl rfl rfl (wa_ (v := (vb (decide (20 < (a0.Locks.length : Int))))) rfl rfl (ad_ (ak_ ?_))))))
  obtain rfl := sj h
  exact ⟨rfl, (vb (decide (20 < (a0.Locks.length : Int)))), (bo_ rfl rfl), _, [], le1, I3, rfl, rfl⟩
 refine ai_ rfl hc1 (ar_ (ab_ (aa_ (wa_ (v := (vi 1)) rfl rfl (ad_ (ab_ (ab_ (aa_ (wa_ (v := (vi 0)) rfl rfl (ad_ ?_))))))))))
 have hk1 : a0.Locks.length ≤ 9223372036854775807 := (cx_ r1)
 obtain ⟨o2, hrun1, h⟩ := bnd h
 refine bp_ (fun f w => ∃ out1, o2 = Sum.inl out1 ∧ ∃ (S_ : PH), S1.Le S_ ∧ Inv w S_ (Fr) ∧ f 1 = (pt_ g1) ∧ f 3 = (vi out1) ∧ f.ds = []) ?_ ?_
 ·
  refine au_ ?_
  refine ex_ (I := fun (i1 : Nat) (s1 : (Int)) (f : Frm) (w : World) => ∃ (S_ : PH), S1.Le S_ ∧ Inv w S_ (Fr) ∧ f 1 = (pt_ g1) ∧ f 3 = (vi s1) ∧ f 4 = (vi (i1 : Int)) ∧ f.ds = []) hrun1 ⟨_, lr, I3, rfl, rfl, rfl, rfl⟩ ?_ ?_
  ·
   rintro i1 s1 f w o1 hlt1 hI52 h1 hout1
   obtain ⟨S58, le58, I67, e68, e69, e70, ed7⟩ := hI52
   refine ab_ (ab_ (aa_ (wm_ rfl e70 (wo_ (ae_ rfl co_ e68 ((p1.mono le58).at_ I67) (wo_ (ld_ mh_ (((p1.mono le58).at_ I67).fld Riddle.fld0) rfl (fun u51 hu51 => ?_))))))))
   obtain ⟨z52, m52, k52, rfl⟩ := ac_ hu51
   refine wo_ (az_ rfl Tryz.underlying22 rfl hu51 (wo_ (be_ rfl rfl rfl (ad_ (ah_ rfl (eo_ hlt1) (ar_ (ab_ (au_ (ab_ ?_)))))))))
   obtain ⟨x11, hx11, h1⟩ := bnd h1
   obtain ⟨x12, hx12, h1⟩ := bnd h1
   obtain ⟨x13, hx13, h1⟩ := bnd h1
   refine bj_ (sps := [spV 19 [] 0 (vi s1), spV 20 [] 1 (an_ (pt_ g1) 0), spR 21 [1] 2 (a0.Locks), spV 22 [] 3 (vi (i1 : Int)), spW 23 [1, 2, 3] [4, 2] fun vs_ => (af_ (fr0 vs_ 1) ((i1 : Int)) (Enc.sz CodeLock)), spV 24 [1, 2, 3, 4] 5 (.agg #[(vi x11.Wheels), (vi x11.Symbols)]), spV 25 [] 6 (an_ (pt_ g1) 2), spR 26 [6] 7 (a0.Known), spV 27 [] 8 (vi (i1 : Int)), spW 28 [6, 7, 8] [9, 7] fun vs_ => (af_ (fr0 vs_ 1) ((i1 : Int)) (Enc.sz (List Clue))), spR 29 [6, 7, 8, 9] 10 x12, ⟨some 30, [1, 2, 3, 4, 5, 6, 7, 8, 9, 10], [11], fun vs_ T_ => ∃ (a0_ : Option Addr) (n0_ k0_ : Nat), fr0 vs_ 0 = (.slice a0_ n0_ k0_), [], [], [0], fun _ h_ => h_⟩, ⟨some 31, [1, 2, 3, 4, 5, 6, 7, 8, 9, 10, 11], [12], fun vs_ T_ => fr0 vs_ 0 = (vi ((x13.length : Int))), [0], [], [], fun _ h_ => h_⟩, spV 32 [1, 2, 3, 4, 5, 6, 7, 8, 9, 10, 11, 12] 13 (vi (tm_ 201 (x13.length : Int))), spV 33 (lrg 14) 14 (vi (w64 (s1 * (tm_ 201 (x13.length : Int))))), spV 3 (lrg 15) 15 (vi (w64 (s1 * (tm_ 201 (x13.length : Int)))))]) (tks := [⟨some 11, none, [11], fun vs_ => Row (α := (List Int)) 28 (fr0 vs_ 0) (x13)⟩]) (O := Fr) rfl (by kernel_rfl) I67 ⟨ob_ rfl fun l A K I => (aq_ rfl ((K 3 (ag_ rfl)).trans e69) (fo I)), ob_ rfl fun l A K I => (ae_ rfl co_ ((K 1 (ag_ rfl)).trans e68) ((p1.mono (le58.trans l)).at_ I) (fo I)), ?_, ob_ rfl fun l A K I => (aq_ rfl ((K 4 (ag_ rfl)).trans e70) (fo I)), ?_, ?_, ob_ rfl fun l A K I => (ae_ rfl fk_ ((K 1 (ag_ rfl)).trans e68) ((p1.mono (le58.trans l)).at_ I) (fo I)), ?_, ob_ rfl fun l A K I => (aq_ rfl ((K 4 (ag_ rfl)).trans e70) (fo I)), ?_, ?_, ?_, ?_, ob_ rfl fun l A K I => (op_min (a := 201) (b := (x13.length : Int)) rfl rfl (A.v 11 rfl) (fo I)), ob_ rfl fun l A K I => (op_mul rfl (A.v 0 rfl) (A.v 13 rfl) (fo I)), ?_, trivial⟩ ?_
   ·
    intro vs f w_ U X le A K I
    have q64 := A.v 0 rfl
    refine pl_ rfl (ay_ rfl mh_ q64 (((p1.mono (le58.trans le)).at_ I).fld Riddle.fld0) (fun u56 hu56 => ?_))
    obtain ⟨z53, m53, k53, rfl⟩ := ac_ hu56
    refine ⟨_, _, rfl, lr, ?_, ?_⟩
    · exact hu56
    exact I
   ·
    intro vs f w_ U X le A K I
    obtain ⟨z54, m54, k54, hu57, q65, r24⟩ := A.sl (a := 2) 1 rfl rfl rfl
    have q66 := A.v 2 rfl
    refine pl_ rfl (ix_ Tryz.underlying22 im_ r24 hx11 q65 q66 (⟨_, _, rfl, lr, ?_, ?_⟩))
    ·
     show (af_ (Value.slice z54 m54 k54) ((i1 : Int)) (Enc.sz CodeLock)) = (af_ (vs 2) ((i1 : Int)) (Enc.sz CodeLock))
     simp only [hu57] <;> rfl
    exact I
   ·
    intro vs f w_ U X le A K I
    obtain ⟨z55, m55, k55, hu58, q67, r25⟩ := A.sl (a := 2) 1 rfl rfl rfl
    have q68 := A.v 2 rfl
    have q69 : f 23 = (af_ (vs 2) ((i1 : Int)) (Enc.sz CodeLock)) := A.v 3 rfl
    simp only [hu58] at q69
    have q69 : f 23 = (af_ (Value.slice z55 m55 k55) ((i1 : Int)) (Enc.sz CodeLock)) := q69
    refine pl_ rfl (ay_ rfl im_ q69 (r25.elem I.in_ hx11) (fun u59 hu59 => ?_))
    have e76 := CodeLock.inv hu59
    subst e76
    refine ⟨_, _, rfl, lr, ?_, ?_⟩
    · exact rfl
    exact I
   ·
    intro vs f w_ U X le A K I
    have q70 := A.v 0 rfl
    refine pl_ rfl (ay_ rfl sb_ q70 (((p1.mono (le58.trans le)).at_ I).fld Riddle.fld2) (fun u60 hu60 => ?_))
    obtain ⟨z56, m56, k56, rfl⟩ := ac_ hu60
    refine ⟨_, _, rfl, lr, ?_, ?_⟩
    · exact hu60
    exact I
   ·
    intro vs f w_ U X le A K I
    obtain ⟨z57, m57, k57, hu61, q71, r26⟩ := A.sl (a := 7) 1 rfl rfl rfl
    have q72 := A.v 2 rfl
    refine pl_ rfl (ix_ Tryz.underlying24 ng_ r26 hx12 q71 q72 (⟨_, _, rfl, lr, ?_, ?_⟩))
    ·
     show (af_ (Value.slice z57 m57 k57) ((i1 : Int)) (Enc.sz (List Clue))) = (af_ (vs 7) ((i1 : Int)) (Enc.sz (List Clue)))
     simp only [hu61] <;> rfl
    exact I
   ·
    intro vs f w_ U X le A K I
    obtain ⟨z58, m58, k58, hu62, q73, r27⟩ := A.sl (a := 7) 1 rfl rfl rfl
    have q74 := A.v 2 rfl
    have q75 : f 28 = (af_ (vs 7) ((i1 : Int)) (Enc.sz (List Clue))) := A.v 3 rfl
    simp only [hu62] at q75
    have q75 : f 28 = (af_ (Value.slice z58 m58 k58) ((i1 : Int)) (Enc.sz (List Clue))) := q75
    refine pl_ rfl (ay_ rfl ng_ q75 (r27.elem I.in_ hx12) (fun u63 hu63 => ?_))
    obtain ⟨z59, m59, k59, rfl⟩ := ac_ hu63
    refine ⟨_, _, rfl, lr, ?_, ?_⟩
    · exact hu63
    exact I
   ·
    intro vs f w_ U X le A K I
    have q76 := A.v 4 rfl
    obtain ⟨z60, m60, k60, hu64, q77, r28⟩ := A.sl (a := 10) 9 rfl rfl rfl
    refine pl_ rfl (cl_ ca34 rfl (lt_ I (CodeLock.rv (s := x11)) r28 hx13) (br_ q76 q77) (fun cv4 w70 S71 O4 le71 I80 hv4 => ?_))
    obtain ⟨z61, m61, k61, rfl, rfl⟩ := hv4
    refine ⟨_, _, rfl, le71, ?_, ?_⟩
    · exact ⟨_, _, _, rfl⟩
    exact I80
   ·
    intro vs f w_ U X le A K I
    have I81 : Inv w_ U (Row (α := (List Int)) 28 (vs 11) (x13) :: X) := I
    obtain ⟨z62, m62, k62, e82, q78⟩ := A.rf (a := 11) 10 rfl rfl rfl
    have I82 := I81
    rw [e82] at I82
    refine pl_ rfl (di_ (α := (List Int)) rfl Tryz.underlying23 q78 (I82.nth 0 rfl) (⟨_, _, rfl, lr, ?_, ?_⟩))
    · exact rfl
    show Inv _ _ (Row (α := (List Int)) 28 (vs 11) (x13) :: X)
    simp only [e82]
    exact I82
   ·
    intro vs f w_ U X le A K I
    refine pl_ rfl (bn_ (v := (vi (w64 (s1 * (tm_ 201 (x13.length : Int)))))) rfl (A.v 14 rfl) (fo I))
   intro vs68 f w75 S76 ed8 le76 hF4 hK68 hI69
   have e83 : f 1 = (pt_ g1) := (hK68 1 (al_ rfl)).trans e68
   have e84 : f 4 = (vi ((i1 : Int))) := (hK68 4 (al_ rfl)).trans e70
   have I86 : Inv w75 S76 (Row (α := (List Int)) 28 (vs68 11) (x13) :: Fr) := hI69
   obtain ⟨z63, m63, k63, e85, q83⟩ := hF4.rf (a := 11) 11 rfl rfl rfl
   have I87 := I86
   rw [e85] at I87
   have q84 := hF4.v 15 rfl
   refine ab_ (aa_ (wm_ rfl q84 (wo_ (lv_ rfl rfl rfl (ad_ ?_)))))
   rcases ifs h1 with ⟨hc5, h1⟩ | ⟨hc5, h1⟩
   ·
    refine ah_ rfl hc5 (ab_ (aa_ (wa_ (v := (vb true)) rfl rfl (ad_ (ak_ ?_)))))
    obtain rfl := sj h1
    obtain rfl := (hout1 _ rfl)
    have h2 := h
    obtain rfl := sj h2
    exact ⟨(ed8.trans ed7), (vb true), (bo_ rfl rfl), _, [], ((le1.trans le58).trans le76), (I87).drop, rfl, rfl⟩
   refine ai_ rfl hc5 (ar_ (aa_ (wm_ rfl e84 (wo_ (bl_ rfl rfl rfl (wa_ (v := (vi (w64 ((i1 : Int) + 1)))) rfl rfl (ad_ ?_)))))))
   obtain rfl := sj h1
   exact ⟨_, rfl, _, (le58.trans le76), (I87).drop, e83, q84, (bh_ hlt1 hk1), (ed8.trans ed7)⟩
  rintro s2 f w hs1 hI70
  obtain ⟨S77, le77, I88, e86, e87, e88, ed9⟩ := hI70
  refine ab_ (ab_ (aa_ (wm_ rfl e88 (wo_ (ae_ rfl co_ e86 ((p1.mono le77).at_ I88) (wo_ (ld_ mh_ (((p1.mono le77).at_ I88).fld Riddle.fld0) rfl (fun u66 hu66 => ?_))))))))
  obtain ⟨z65, m65, k65, rfl⟩ := ac_ hu66
  refine wo_ (az_ rfl Tryz.underlying22 rfl hu66 (wo_ (be_ rfl rfl rfl (ad_ (ai_ rfl (ep_ _) (bk_ ?_))))))
  exact ⟨s2, hs1, _, le77, I88, e86, e87, ed9⟩
 rintro f w ⟨out1, rfl, S78, le78, I89, e91, e92, ed10⟩
 have h := eh_ h
 refine ab_ (aa_ (wa_ (v := (vb false)) rfl rfl (ad_ (ak_ ?_))))
 obtain rfl := sj h
 exact ⟨ed10, (vb false), (bo_ rfl rfl), _, [], (le1.trans le78), I89, rfl, rfl⟩
theorem nt_ {w : World} {S : PH} {Fr : List HP}  {r : Riddle} (hI : Inv w S (Fr))  (h : iw_  = some r) :
    Calls Tryz.prog 36 [].toArray w (lp_ S Fr (fun T_ v_ O_ => ∃ (c0_ : Value), v_ = c0_ ∧ O_ = [] ∧ RV T_ c0_ r)) := by
 unfold iw_ at h
 refine ao_ (n := 13) Tryz.func36 rfl rfl rfl (ab_ (aa_ (wo_ (bu_ (z := (.agg #[sn, sn, sn, sn])) rfl hI zo27 (fun g1 w1 (I1 : Inv w1 S (am_ g1 27 #[sn, sn, sn, sn] :: Fr)) => (ad_ (ab_ (aa_ (wo_ (hl_ (qs := [(0, #[(vi 2)]), (1, #[(vi 4)])]) (c := #[(vi 2), (vi 4)]) rfl st62 ⟨rfl, rfl, ⟨rfl, rfl, trivial⟩⟩ rfl (wo_ (hl_ (qs := [(0, #[(vi 1)]), (1, #[(vi 4)])]) (c := #[(vi 1), (vi 4)]) rfl st62 ⟨rfl, rfl, ⟨rfl, rfl, trivial⟩⟩ rfl (wo_ (bf_ (vs := [(.agg #[(vi 2), (vi 4)]), (.agg #[(vi 1), (vi 4)])]) (r := ([(⟨2, 4⟩ : CodeLock), (⟨1, 4⟩ : CodeLock)] : List CodeLock)) rfl Tryz.underlying22 el62 (parts2 rfl rfl) rfl (by decide) (by decide) ⟨(CodeLock.rv (s := (⟨2, 4⟩ : CodeLock))), ⟨(CodeLock.rv (s := (⟨1, 4⟩ : CodeLock))), trivial⟩⟩ I1 (fun u1 w2 I2 => ?_)))))))))))))))
 obtain ⟨z1, m1, k1, e1⟩ := bc_ I2
 subst e1
 refine wo_ (bf_ (vs := [(vi 3), (vi 1)]) (r := ([3, 1] : List Int)) rfl Tryz.underlying28 el3 (parts2 rfl rfl) rfl (by decide) (by decide) ⟨(dv_ _), ⟨(dv_ _), trivial⟩⟩ I2 (fun u2 w3 I3 => ?_))
 obtain ⟨z2, m2, k2, e2⟩ := bc_ I3
 subst e2
 refine wo_ (bf_ (vs := [(vi 1)]) (r := ([1] : List Int)) rfl Tryz.underlying28 el3 (fc_ rfl) rfl (by decide) (by decide) ⟨(dv_ _), trivial⟩ I3 (fun u3 w4 I4 => ?_))
 obtain ⟨z3, m3, k3, e3⟩ := bc_ I4
 subst e3
 obtain ⟨S1, le1, I5, r1⟩ := Inv.rowFreeze (I4.pull 1)
 obtain ⟨S2, le2, I6, r2⟩ := Inv.rowFreeze I5
 refine wo_ (bf_ (vs := [(.slice z2 m2 k2), (.slice z3 m3 k3)]) (r := ([([3, 1] : List Int), ([1] : List Int)] : List (List Int))) rfl Tryz.underlying23 zh_ (parts2 rfl rfl) rfl (by decide) (by decide) ⟨(r1.mono le2), ⟨r2, trivial⟩⟩ I6 (fun u4 w5 I7 => ?_))
 obtain ⟨z4, m4, k4, e4⟩ := bc_ I7
 subst e4
 refine wo_ (hl_ (qs := [(0, #[(vi 2)]), (2, #[(vi 1)]), (3, #[(vi 4)])]) (c := #[(vi 2), (vi 0), (vi 1), (vi 4), (vi 0), sn, (vb false)]) rfl st30 ⟨rfl, rfl, ⟨rfl, rfl, ⟨rfl, rfl, trivial⟩⟩⟩ rfl (wo_ (bf_ (vs := [(.agg #[(vi 2), (vi 0), (vi 1), (vi 4), (vi 0), sn, (vb false)])]) (r := ([(⟨2, 0, 1, 4, 0, ([] : (List Int)), false⟩ : Clue)] : List Clue)) rfl Tryz.underlying63 el30 (fc_ rfl) rfl (by decide) (by decide) ⟨(Clue.rv (s := (⟨2, 0, 1, 4, 0, ([] : (List Int)), false⟩ : Clue)) rv_nil), trivial⟩ I7 (fun u5 w6 I8 => ?_))))
 obtain ⟨z5, m5, k5, e5⟩ := bc_ I8
 subst e5
 obtain ⟨S3, le3, I9, r3⟩ := Inv.rowFreeze I8
 refine wo_ (bf_ (vs := [(.slice z5 m5 k5), sn]) (r := ([([(⟨2, 0, 1, 4, 0, ([] : (List Int)), false⟩ : Clue)] : List Clue), ([] : (List Clue))] : List (List Clue))) rfl Tryz.underlying24 el63 (parts2 rfl rfl) rfl (by decide) (by decide) ⟨r3, ⟨rv_nil, trivial⟩⟩ I9 (fun u6 w7 I10 => ?_))
 obtain ⟨z6, m6, k6, e6⟩ := bc_ I10
 subst e6
 refine wo_ (hl_ (qs := [(0, #[(vi 0)]), (1, #[(vi 1)]), (2, #[(vi 1)]), (3, #[(vi 0)])]) (c := #[(vi 0), (vi 1), (vi 1), (vi 0)]) rfl st75 ⟨rfl, rfl, ⟨rfl, rfl, ⟨rfl, rfl, ⟨rfl, rfl, trivial⟩⟩⟩⟩ rfl (wo_ (bf_ (vs := [(.agg #[(vi 0), (vi 1), (vi 1), (vi 0)])]) (r := ([(⟨0, 1, 1, 0⟩ : Tie)] : List Tie)) rfl Tryz.underlying25 el75 (fc_ rfl) rfl (by decide) (by decide) ⟨(Tie.rv (s := (⟨0, 1, 1, 0⟩ : Tie))), trivial⟩ I10 (fun u7 w8 I11 => ?_))))
 obtain ⟨z7, m7, k7, e7⟩ := bc_ I11
 subst e7
 refine wo_ (hl_ (qs := [(0, #[(.slice z1 m1 k1)]), (1, #[(.slice z4 m4 k4)]), (2, #[(.slice z6 m6 k6)]), (3, #[(.slice z7 m7 k7)])]) (c := #[(.slice z1 m1 k1), (.slice z4 m4 k4), (.slice z6 m6 k6), (.slice z7 m7 k7)]) rfl st27 ⟨rfl, rfl, ⟨rfl, rfl, ⟨rfl, rfl, ⟨rfl, rfl, trivial⟩⟩⟩⟩ rfl (wo_ (bb_ (v := (.agg #[(.slice z1 m1 k1), (.slice z4 m4 k4), (.slice z6 m6 k6), (.slice z7 m7 k7)])) (cs := #[sn, sn, sn, sn]) fr_ (I11.pull 4) rfl rfl rfl nb rfl (fun w9 (I12 : Inv w9 S3 (am_ g1 27 #[(.slice z1 m1 k1), (.slice z4 m4 k4), (.slice z6 m6 k6), (.slice z7 m7 k7)] :: Row (α := Tie) 75 (.slice z7 m7 k7) (([(⟨0, 1, 1, 0⟩ : Tie)] : List Tie)) :: Row (α := (List Clue)) 63 (.slice z6 m6 k6) (([([(⟨2, 0, 1, 4, 0, ([] : (List Int)), false⟩ : Clue)] : List Clue), ([] : (List Clue))] : List (List Clue))) :: Row (α := (List Int)) 28 (.slice z4 m4 k4) (([([3, 1] : List Int), ([1] : List Int)] : List (List Int))) :: Row (α := CodeLock) 62 (.slice z1 m1 k1) (([(⟨2, 4⟩ : CodeLock), (⟨1, 4⟩ : CodeLock)] : List CodeLock)) :: Fr)) => (ad_ (ak_ ?_))))))
 obtain ⟨S4, le4, I13, r4⟩ := Inv.rowFreeze (I12.pull 4)
 obtain ⟨S5, le5, I14, r5⟩ := Inv.rowFreeze (I13.pull 3)
 obtain ⟨S6, le6, I15, r6⟩ := Inv.rowFreeze (I14.pull 2)
 obtain ⟨S7, le7, I16, r7⟩ := Inv.rowFreeze (I15.pull 1)
 obtain rfl := sj h
 exact ⟨rfl, (.agg #[(.slice z1 m1 k1), (.slice z4 m4 k4), (.slice z6 m6 k6), (.slice z7 m7 k7)]), (resC (cs := #[(.slice z1 m1 k1), (.slice z4 m4 k4), (.slice z6 m6 k6), (.slice z7 m7 k7)]) rfl rfl fr_ I12), _, [], ((((((le1.trans le2).trans le3).trans le4).trans le5).trans le6).trans le7), (I16).drop, _, rfl, rfl, (Riddle.rv (s := (⟨([(⟨2, 4⟩ : CodeLock), (⟨1, 4⟩ : CodeLock)] : List CodeLock), ([([3, 1] : List Int), ([1] : List Int)] : List (List Int)), ([([(⟨2, 0, 1, 4, 0, ([] : (List Int)), false⟩ : Clue)] : List Clue), ([] : (List Clue))] : List (List Clue)), ([(⟨0, 1, 1, 0⟩ : Tie)] : List Tie)⟩ : Riddle)) (r4.mono ((le5.trans le6).trans le7)) (r5.mono (le6.trans le7)) (r6.mono le7) r7)⟩
theorem bs_ {w : World} {S : PH} {Fr : List HP} {a0 : Int} {a1 : Int} {a2 : Int} {r : Bool} (hI : Inv w S (Fr))  (h : ec_ a0 a1 a2 = some r) :
    Calls Tryz.prog 51 [(Value.int .i64 (a0)), (Value.int .i64 (a1)), (Value.int .i64 (a2))].toArray w (bw_ S Fr (Value.bool (r))) := by
 unfold ec_ at h
 refine ao_ (n := 15) Tryz.func51 rfl rfl rfl (ab_ (aa_ (wa_ (v := (vb false)) rfl rfl (ad_ (ab_ (aa_ (wm_ (v := (vi a0)) rfl rfl (wm_ (v := (vi a1)) rfl rfl (wo_ (mx_ rfl rfl rfl (wm_ (v := (vb (decide (a1 ≤ a0)))) rfl rfl ?_)))))))))))
 rcases ifs h with ⟨hc1, h⟩ | ⟨hc1, h⟩
 ·
  refine wk_ rfl rfl hc1 (aq_ (v := (vi a0)) rfl rfl (wk_ rfl rfl hc1 (aq_ (v := (vi a2)) rfl rfl (wk_ rfl rfl hc1 (sw_ rfl rfl rfl (wo_ (aw_ (a := (vb (decide (a0 ≤ a2)))) rfl rfl hc1 rfl (wa_ (v := (vb (decide (a0 ≤ a2)))) rfl rfl (ad_ (ak_ ?_))))))))))
  obtain rfl := sj h
  exact ⟨rfl, (vb (decide (a0 ≤ a2))), (bo_ rfl rfl), _, [], lr, hI, rfl, rfl⟩
 refine ws_ rfl rfl hc1 (ws_ rfl rfl hc1 (ws_ rfl rfl hc1 (wo_ (ap_ (b := (vb false)) rfl rfl hc1 rfl (wa_ (v := (vb false)) rfl rfl (ad_ (ak_ ?_)))))))
 obtain rfl := sj h
 exact ⟨rfl, (vb false), (bo_ rfl rfl), _, [], lr, hI, rfl, rfl⟩
theorem cp_ {w : World} {S : PH} {Fr : List HP} {a0 : Int} {a1 : Int} {a2 : Int} {r : Bool} (hI : Inv w S (Fr))  (h : cu_ a0 a1 a2 = some r) :
    Calls Tryz.prog 133 [(Value.int .i64 (a0)), (Value.int .i64 (a1)), (Value.int .i64 (a2))].toArray w (bw_ S Fr (Value.bool (r))) := by
 unfold cu_ at h
 refine ao_ (n := 15) Tryz.func133 rfl rfl rfl (ab_ (aa_ (wa_ (v := (vb false)) rfl rfl (ad_ (ab_ (aa_ (wm_ (v := (vi a0)) rfl rfl (wm_ (v := (vi a1)) rfl rfl (wo_ (mx_ rfl rfl rfl (wm_ (v := (vb (decide (a1 ≤ a0)))) rfl rfl ?_)))))))))))
 rcases ifs h with ⟨hc1, h⟩ | ⟨hc1, h⟩
 ·
  refine wk_ rfl rfl hc1 (aq_ (v := (vi a0)) rfl rfl (wk_ rfl rfl hc1 (aq_ (v := (vi a2)) rfl rfl (wk_ rfl rfl hc1 (sw_ rfl rfl rfl (wo_ (aw_ (a := (vb (decide (a0 ≤ a2)))) rfl rfl hc1 rfl (wa_ (v := (vb (decide (a0 ≤ a2)))) rfl rfl (ad_ (ak_ ?_))))))))))
  obtain rfl := sj h
  exact ⟨rfl, (vb (decide (a0 ≤ a2))), (bo_ rfl rfl), _, [], lr, hI, rfl, rfl⟩
 refine ws_ rfl rfl hc1 (ws_ rfl rfl hc1 (ws_ rfl rfl hc1 (wo_ (ap_ (b := (vb false)) rfl rfl hc1 rfl (wa_ (v := (vb false)) rfl rfl (ad_ (ak_ ?_)))))))
 obtain rfl := sj h
 exact ⟨rfl, (vb false), (bo_ rfl rfl), _, [], lr, hI, rfl, rfl⟩
theorem mm_ {w : World} {S : PH} {Fr : List HP} {a0 : CodeLock} {v0 : Value} {r : Int} (hI : Inv w S (Fr)) (h0_ : RV S v0 a0) (h : hz_ a0 = some r) :
    Calls Tryz.prog 123 [v0].toArray w (bw_ S Fr (Value.int .i64 (r))) := by
 unfold hz_ at h
 have e1 := CodeLock.inv h0_
 subst e1
 refine ao_ (n := 13) Tryz.func123 rfl rfl rfl (ab_ (aa_ (wo_ (bi_ (v := (.agg #[(vi a0.Wheels), (vi a0.Symbols)])) rfl hI rfl (fun g1 w1 I1 => ?_)))))
 obtain ⟨S1, le1, I2, p1⟩ := Inv.boxFreeze (x := a0) I1 (CodeLock.rv (s := a0))
 refine wa_ (v := (vi 0)) rfl rfl (ad_ (ab_ (ab_ (aa_ (wo_ (fa_ hh_ (p1.at_ I2) rfl (wo_ (li_ sh3 ((p1.at_ I2).fld CodeLock.fld0) rfl ?_))))))))
 obtain ⟨x1, hx1, h⟩ := bnd h
 refine wo_ (cv_ wl_ rfl I2 (fun Fr_ hF_ => cp_ hF_  hx1) (cf_ rfl rfl rfl) (fun w2 I3 => (wo_ (bx_ rfl rfl (wm_ (v := (vb (!x1))) rfl rfl ?_)))))
 rcases ifs h with ⟨hc1, h⟩ | ⟨hc1, h⟩
 ·
  refine ws_ rfl rfl hc1 (ws_ rfl rfl hc1 (ws_ rfl rfl hc1 (ws_ rfl rfl hc1 (wo_ (aw_ (a := (vb true)) rfl rfl hc1 rfl (ad_ (ah_ rfl rfl (ab_ (aa_ (wa_ (v := (vi 10)) rfl rfl (ad_ (ak_ ?_))))))))))))
  obtain rfl := sj h
  exact ⟨rfl, (vi 10), (bo_ rfl rfl), _, [], le1, I3, rfl, rfl⟩
 refine wk_ rfl rfl hc1 (fa_ ru_ (p1.at_ I3) rfl (wk_ rfl rfl hc1 (li_ sh3 ((p1.at_ I3).fld CodeLock.fld1) rfl ?_)))
 obtain ⟨x2, hx2, h⟩ := bnd h
 refine wk_ rfl rfl hc1 (cv_ wl_ rfl I3 (fun Fr_ hF_ => cp_ hF_  hx2) (cf_ rfl rfl rfl) (fun w3 I4 => (wk_ rfl rfl hc1 (bx_ rfl rfl (wo_ (ap_ (b := (vb (!x2))) rfl rfl hc1 rfl (ad_ ?_)))))))
 rcases ifs h with ⟨hc2, h⟩ | ⟨hc2, h⟩
 ·
  refine ah_ rfl hc2 (ab_ (aa_ (wa_ (v := (vi 10)) rfl rfl (ad_ (ak_ ?_)))))
  obtain rfl := sj h
  exact ⟨rfl, (vi 10), (bo_ rfl rfl), _, [], le1, I4, rfl, rfl⟩
 refine ai_ rfl hc2 (ar_ (ab_ (aa_ (wa_ (v := (vi 0)) rfl rfl (ad_ (ak_ ?_))))))
 obtain rfl := sj h
 exact ⟨rfl, (vi 0), (bo_ rfl rfl), _, [], le1, I4, rfl, rfl⟩
theorem hf_ {w : World} {S : PH} {Fr : List HP} {a0 : CodeLock} {v0 : Value} {a1 : Int} {r : Bool} (hI : Inv w S (Fr)) (h0_ : RV S v0 a0) (h : dl_ a0 a1 = some r) :
    Calls Tryz.prog 135 [v0, (Value.int .i64 (a1))].toArray w (bw_ S Fr (Value.bool (r))) := by
 unfold dl_ at h
 have e1 := CodeLock.inv h0_
 subst e1
 refine ao_ (n := 10) Tryz.func135 rfl rfl rfl (ab_ (aa_ (wo_ (bi_ (v := (.agg #[(vi a0.Wheels), (vi a0.Symbols)])) rfl hI rfl (fun g1 w1 I1 => ?_)))))
 obtain ⟨S1, le1, I2, p1⟩ := Inv.boxFreeze (x := a0) I1 (CodeLock.rv (s := a0))
 refine wa_ (v := (vb false)) rfl rfl (ad_ (ab_ (aa_ (wm_ (v := (vi a1)) rfl rfl (wo_ (fa_ fa138_1 (p1.at_ I2) rfl (wo_ (li_ sh3 ((p1.at_ I2).fld CodeLock.fld1) rfl (wo_ (eb_ rfl rfl rfl ?_))))))))))
 obtain ⟨x1, hx1, h⟩ := bnd h
 refine wo_ (cv_ wl_ rfl I2 (fun Fr_ hF_ => cp_ hF_  hx1) (cf_ rfl rfl rfl) (fun w2 I3 => (wa_ (v := (vb x1)) rfl rfl (ad_ (ak_ ?_)))))
 obtain rfl := sj h
 exact ⟨rfl, (vb x1), (bo_ rfl rfl), _, [], le1, I3, rfl, rfl⟩
theorem pm_ {w : World} {S : PH} {Fr : List HP} {a0 : Int} {a1 : CodeLock} {v1 : Value} {r : Bool} (hI : Inv w S (Fr)) (h1_ : PtS S v1 a1) (h : ha_ a0 a1 = some r) :
    Calls Tryz.prog 141 [(Value.int .i64 (a0)), v1].toArray w (bw_ S Fr (Value.bool (r))) := by
 unfold ha_ at h
 refine ao_ (n := 8) Tryz.func141 rfl rfl rfl (ab_ (aa_ (wa_ (v := (vb false)) rfl rfl (ad_ (ab_ (aa_ (wo_ (ld_ tf_ (h1_.at_ hI) rfl (fun u1 hu1 => ?_)))))))))
 have e1 := CodeLock.inv hu1
 subst e1
 refine wm_ (v := (vi a0)) rfl rfl ?_
 obtain ⟨x1, hx1, h⟩ := bnd h
 refine wo_ (cv_ ca135 rfl hI (fun Fr_ hF_ => hf_ hF_ (CodeLock.rv (s := a1)) hx1) (br_ rfl rfl) (fun w1 I1 => (wo_ (bx_ rfl rfl (wa_ (v := (vb (!x1))) rfl rfl (ad_ (ak_ ?_)))))))
 obtain rfl := sj h
 exact ⟨rfl, (vb (!x1)), (bo_ rfl rfl), _, [], lr, I1, rfl, rfl⟩
theorem il_ {w : World} {S : PH} {Fr : List HP} {a0 : (List Int)} {v0 : Value} {a1 : Int → Option Bool} {v1 : Value} {r : Int} (hI : Inv w S (Fr)) (h0_ : RV S v0 a0) (h1_ : FnV Tryz.prog S v1 a1) (h : dc_ a0 a1 = some r) :
    Calls Tryz.prog 82 [v0, v1].toArray w (bw_ S Fr (Value.int .i64 (r))) := by
 unfold dc_ at h
 obtain ⟨z1, m1, k1, rfl⟩ := ac_ h0_
 refine ao_ (n := 19) Tryz.func82 rfl rfl rfl (ab_ (aa_ (wa_ (v := (vi 0)) rfl rfl (ad_ (ab_ (ab_ (aa_ (wm_ (v := (.slice z1 m1 k1)) rfl rfl (wo_ (az_ rfl Tryz.underlying28 rfl h0_ (wm_ (v := (vi 0)) rfl rfl (ad_ ?_))))))))))))
 have hk1 : a0.length ≤ 9223372036854775807 := (cx_ h0_)
 obtain ⟨o2, hrun1, h⟩ := bnd h
 refine bp_ (fun f w => ∃ out1, o2 = Sum.inl out1 ∧ Inv w S (Fr) ∧ f 0 = (.slice z1 m1 k1) ∧ f 1 = v1 ∧ f 7 = (vi ((a0.length : Int))) ∧ f.ds = []) ?_ ?_
 ·
  refine au_ ?_
  refine ex_ (I := fun (i1 : Nat) (s1 : Unit) (f : Frm) (w : World) => Inv w S (Fr) ∧ f 0 = (.slice z1 m1 k1) ∧ f 1 = v1 ∧ f 7 = (vi ((a0.length : Int))) ∧ f 8 = (vi (i1 : Int)) ∧ f.ds = []) hrun1 ⟨hI, rfl, rfl, rfl, rfl, rfl⟩ ?_ ?_
  ·
   rintro i1 s1 f w o1 hlt1 hI1 h1 hout1
   obtain ⟨I5, e10, e11, e12, e13, ed3⟩ := hI1
   refine ab_ (aa_ (wo_ (be_ rfl e13 e12 (ad_ (ab_ (ah_ rfl (eo_ hlt1) (ar_ (ab_ (au_ (ab_ (aa_ (wm_ rfl e13 (wa_ (v := (vi (i1 : Int))) rfl rfl (ad_ (ab_ (aa_ (wm_ rfl e11 (wm_ rfl e10 (wm_ (v := (vi (i1 : Int))) rfl rfl ?_)))))))))))))))))))
   obtain ⟨x5, hx5, h1⟩ := bnd h1
   refine wo_ (ix_ Tryz.underlying28 sh3 h0_ hx5 rfl rfl (wo_ (li_ sh3 (h0_.elem I5.in_ hx5) rfl ?_)))
   obtain ⟨x6, hx6, h1⟩ := bnd h1
   refine wo_ (kn_ (v := v1) (u := (vi x5)) (r := x6) rfl rfl h1_ rfl (dv_ _) hx6 I5 (fun w3 I6 => (ad_ ?_)))
   rcases ifs h1 with ⟨hc3, h1⟩ | ⟨hc3, h1⟩
   ·
    refine ah_ rfl hc3 (ab_ (aa_ (wm_ (v := (vi (i1 : Int))) rfl rfl (wa_ (v := (vi (i1 : Int))) rfl rfl (ad_ (ak_ ?_))))))
    obtain rfl := sj h1
    obtain rfl := (hout1 _ rfl)
    have h2 := h
    obtain rfl := sj h2
    exact ⟨ed3, (vi (i1 : Int)), (bo_ rfl rfl), _, [], lr, I6, rfl, rfl⟩
   refine ai_ rfl hc3 (ar_ (aa_ (wo_ (bl_ rfl e13 rfl (wm_ (v := (vi (w64 ((i1 : Int) + 1)))) rfl rfl (ad_ ?_))))))
   obtain rfl := sj h1
   exact ⟨_, rfl, I6, e10, e11, e12, (bh_ hlt1 hk1), ed3⟩
  rintro s2 f w hs1 hI2
  obtain ⟨I7, e14, e15, e16, e17, ed4⟩ := hI2
  refine ab_ (aa_ (wo_ (be_ rfl e17 e16 (ad_ (ab_ (ai_ rfl (ep_ _) (bk_ ?_)))))))
  exact ⟨s2, hs1, I7, e14, e15, e16, ed4⟩
 rintro f w ⟨out1, rfl, I8, e18, e19, e20, ed5⟩
 have h := eh_ h
 refine ab_ (aa_ (wa_ (v := (vi ((-1)))) rfl rfl (ad_ (ak_ ?_))))
 obtain rfl := sj h
 exact ⟨ed5, (vi ((-1))), (bo_ rfl rfl), _, [], lr, I8, rfl, rfl⟩
theorem ll_ {w : World} {S : PH} {Fr : List HP} {a0 : (List Int)} {v0 : Value} {a1 : Int → Option Bool} {v1 : Value} {r : Bool} (hI : Inv w S (Fr)) (h0_ : RV S v0 a0) (h1_ : FnV Tryz.prog S v1 a1) (h : dx_ a0 a1 = some r) :
    Calls Tryz.prog 49 [v0, v1].toArray w (bw_ S Fr (Value.bool (r))) := by
 unfold dx_ at h
 obtain ⟨z1, m1, k1, rfl⟩ := ac_ h0_
 refine ao_ (n := 9) Tryz.func49 rfl rfl rfl (ab_ (aa_ (wa_ (v := (vb false)) rfl rfl (ad_ (ab_ (aa_ (wm_ (v := (.slice z1 m1 k1)) rfl rfl (wm_ (v := v1) rfl rfl ?_))))))))
 obtain ⟨x1, hx1, h⟩ := bnd h
 refine wo_ (cv_ ca82 rfl hI (fun Fr_ hF_ => il_ hF_ h0_ h1_ hx1) (br_ rfl rfl) (fun w1 I1 => (wo_ (mx_ rfl rfl rfl (wa_ (v := (vb (decide (0 ≤ x1)))) rfl rfl (ad_ (ak_ ?_)))))))
 obtain rfl := sj h
 exact ⟨rfl, (vb (decide (0 ≤ x1))), (bo_ rfl rfl), _, [], lr, I1, rfl, rfl⟩
theorem mc_ {w : World} {S : PH} {Fr : List HP} {a0 : CodeLock} {v0 : Value} {a1 : (List Int)} {v1 : Value} {r : Bool} (hI : Inv w S (Fr)) (h0_ : RV S v0 a0) (h1_ : RV S v1 a1) (h : fl_ a0 a1 = some r) :
    Calls Tryz.prog 132 [v0, v1].toArray w (bw_ S Fr (Value.bool (r))) := by
 unfold fl_ at h
 have e1 := CodeLock.inv h0_
 subst e1
 obtain ⟨z1, m1, k1, rfl⟩ := ac_ h1_
 refine ao_ (n := 16) Tryz.func132 rfl rfl rfl (ab_ (aa_ (wo_ (bi_ (v := (.agg #[(vi a0.Wheels), (vi a0.Symbols)])) rfl hI rfl (fun g1 w1 I1 => ?_)))))
 obtain ⟨S1, le1, I2, p1⟩ := Inv.boxFreeze (x := a0) I1 (CodeLock.rv (s := a0))
 refine wa_ (v := (vb false)) rfl rfl (ad_ (ab_ (aa_ (wm_ (v := (.slice z1 m1 k1)) rfl rfl (wo_ (az_ rfl Tryz.underlying28 rfl (h1_.mono le1) (wo_ (fa_ qk_ (p1.at_ I2) rfl (wo_ (li_ sh3 ((p1.at_ I2).fld CodeLock.fld0) rfl (wo_ (bm_ rfl rfl rfl (wm_ (v := (vb ((a1.length : Int) == a0.Wheels))) rfl rfl ?_)))))))))))))
 rcases ifs h with ⟨hc1, h⟩ | ⟨hc1, h⟩
 ·
  refine wk_ rfl rfl hc1 (aq_ (v := (.slice z1 m1 k1)) rfl rfl (wk_ rfl rfl hc1 (cm_ (fv := #[]) (cv := #[(pt_ g1)]) rfl zo_ (arr1 rfl) ?_)))
  obtain ⟨x1, hx1, h⟩ := bnd h
  refine wk_ rfl rfl hc1 (cv_ ca49 rfl I2 (fun Fr_ hF_ => ll_ hF_ (h1_.mono le1) ⟨141, [(pt_ g1)], rfl, ca141, fun T_ w_ Fr_ u_ x_ r_ hle_ hI_ hu_ hr_ => by have e_ := rv_int hu_; subst e_; exact pm_ hI_ (p1.mono hle_) hr_⟩ hx1) (br_ rfl rfl) (fun w2 I3 => (wk_ rfl rfl hc1 (bx_ rfl rfl (wo_ (aw_ (a := (vb (!x1))) rfl rfl hc1 rfl (wa_ (v := (vb (!x1))) rfl rfl (ad_ (ak_ ?_)))))))))
  obtain rfl := sj h
  exact ⟨rfl, (vb (!x1)), (bo_ rfl rfl), _, [], le1, I3, rfl, rfl⟩
 refine ws_ rfl rfl hc1 (ws_ rfl rfl hc1 (ws_ rfl rfl hc1 (ws_ rfl rfl hc1 (wo_ (ap_ (b := (vb false)) rfl rfl hc1 rfl (wa_ (v := (vb false)) rfl rfl (ad_ (ak_ ?_))))))))
 obtain rfl := sj h
 exact ⟨rfl, (vb false), (bo_ rfl rfl), _, [], le1, I2, rfl, rfl⟩
theorem ot_ {w : World} {S : PH} {Fr : List HP} {a0 : (List Int)} {v0 : Value} {a1 : CodeLock} {v1 : Value} {r : Bool} (hI : Inv w S (Fr)) (h0_ : RV S v0 a0) (h1_ : PtS S v1 a1) (h : ge_ a0 a1 = some r) :
    Calls Tryz.prog 131 [v0, v1].toArray w (bw_ S Fr (Value.bool (r))) := by
 unfold ge_ at h
 obtain ⟨z1, m1, k1, rfl⟩ := ac_ h0_
 refine ao_ (n := 8) Tryz.func131 rfl rfl rfl (ab_ (aa_ (wa_ (v := (vb false)) rfl rfl (ad_ (ab_ (aa_ (wo_ (ld_ im_ (h1_.at_ hI) rfl (fun u1 hu1 => ?_)))))))))
 have e2 := CodeLock.inv hu1
 subst e2
 refine wm_ (v := (.slice z1 m1 k1)) rfl rfl ?_
 obtain ⟨x1, hx1, h⟩ := bnd h
 refine wo_ (cv_ ca132 rfl hI (fun Fr_ hF_ => mc_ hF_ (CodeLock.rv (s := a1)) h0_ hx1) (br_ rfl rfl) (fun w1 I1 => (wo_ (bx_ rfl rfl (wa_ (v := (vb (!x1))) rfl rfl (ad_ (ak_ ?_)))))))
 obtain rfl := sj h
 exact ⟨rfl, (vb (!x1)), (bo_ rfl rfl), _, [], lr, I1, rfl, rfl⟩
theorem mq_ {w : World} {S : PH} {Fr : List HP} {a0 : (List (List Int))} {v0 : Value} {a1 : (List Int) → Option Bool} {v1 : Value} {r : Int} (hI : Inv w S (Fr)) (h0_ : RV S v0 a0) (h1_ : FnV Tryz.prog S v1 a1) (h : gh_ a0 a1 = some r) :
    Calls Tryz.prog 140 [v0, v1].toArray w (bw_ S Fr (Value.int .i64 (r))) := by
 unfold gh_ at h
 obtain ⟨z1, m1, k1, rfl⟩ := ac_ h0_
 refine ao_ (n := 19) Tryz.func140 rfl rfl rfl (ab_ (aa_ (wa_ (v := (vi 0)) rfl rfl (ad_ (ab_ (ab_ (aa_ (wm_ (v := (.slice z1 m1 k1)) rfl rfl (wo_ (az_ rfl Tryz.underlying23 rfl h0_ (wm_ (v := (vi 0)) rfl rfl (ad_ ?_))))))))))))
 have hk1 : a0.length ≤ 9223372036854775807 := (cx_ h0_)
 obtain ⟨o2, hrun1, h⟩ := bnd h
 refine bp_ (fun f w => ∃ out1, o2 = Sum.inl out1 ∧ Inv w S (Fr) ∧ f 0 = (.slice z1 m1 k1) ∧ f 1 = v1 ∧ f 7 = (vi ((a0.length : Int))) ∧ f.ds = []) ?_ ?_
 ·
  refine au_ ?_
  refine ex_ (I := fun (i1 : Nat) (s1 : Unit) (f : Frm) (w : World) => Inv w S (Fr) ∧ f 0 = (.slice z1 m1 k1) ∧ f 1 = v1 ∧ f 7 = (vi ((a0.length : Int))) ∧ f 8 = (vi (i1 : Int)) ∧ f.ds = []) hrun1 ⟨hI, rfl, rfl, rfl, rfl, rfl⟩ ?_ ?_
  ·
   rintro i1 s1 f w o1 hlt1 hI1 h1 hout1
   obtain ⟨I5, e12, e13, e14, e15, ed3⟩ := hI1
   refine ab_ (aa_ (wo_ (be_ rfl e15 e14 (ad_ (ab_ (ah_ rfl (eo_ hlt1) (ar_ (ab_ (au_ (ab_ (aa_ (wm_ rfl e15 (wa_ (v := (vi (i1 : Int))) rfl rfl (ad_ (ab_ (aa_ (wm_ rfl e13 (wm_ rfl e12 (wm_ (v := (vi (i1 : Int))) rfl rfl ?_)))))))))))))))))))
   obtain ⟨x5, hx5, h1⟩ := bnd h1
   refine wo_ (ix_ Tryz.underlying23 fn_ h0_ hx5 rfl rfl (wo_ (ld_ fn_ (h0_.elem I5.in_ hx5) rfl (fun u3 hu3 => ?_))))
   obtain ⟨z4, m4, k4, rfl⟩ := ac_ hu3
   obtain ⟨x6, hx6, h1⟩ := bnd h1
   refine wo_ (kn_ (v := v1) (u := (.slice z4 m4 k4)) (r := x6) rfl rfl h1_ rfl hu3 hx6 I5 (fun w3 I6 => (ad_ ?_)))
   rcases ifs h1 with ⟨hc3, h1⟩ | ⟨hc3, h1⟩
   ·
    refine ah_ rfl hc3 (ab_ (aa_ (wm_ (v := (vi (i1 : Int))) rfl rfl (wa_ (v := (vi (i1 : Int))) rfl rfl (ad_ (ak_ ?_))))))
    obtain rfl := sj h1
    obtain rfl := (hout1 _ rfl)
    have h2 := h
    obtain rfl := sj h2
    exact ⟨ed3, (vi (i1 : Int)), (bo_ rfl rfl), _, [], lr, I6, rfl, rfl⟩
   refine ai_ rfl hc3 (ar_ (aa_ (wo_ (bl_ rfl e15 rfl (wm_ (v := (vi (w64 ((i1 : Int) + 1)))) rfl rfl (ad_ ?_))))))
   obtain rfl := sj h1
   exact ⟨_, rfl, I6, e12, e13, e14, (bh_ hlt1 hk1), ed3⟩
  rintro s2 f w hs1 hI2
  obtain ⟨I7, e17, e18, e19, e20, ed4⟩ := hI2
  refine ab_ (aa_ (wo_ (be_ rfl e20 e19 (ad_ (ab_ (ai_ rfl (ep_ _) (bk_ ?_)))))))
  exact ⟨s2, hs1, I7, e17, e18, e19, ed4⟩
 rintro f w ⟨out1, rfl, I8, e21, e22, e23, ed5⟩
 have h := eh_ h
 refine ab_ (aa_ (wa_ (v := (vi ((-1)))) rfl rfl (ad_ (ak_ ?_))))
 obtain rfl := sj h
 exact ⟨ed5, (vi ((-1))), (bo_ rfl rfl), _, [], lr, I8, rfl, rfl⟩
theorem ku_ {w : World} {S : PH} {Fr : List HP} {a0 : (List (List Int))} {v0 : Value} {a1 : (List Int) → Option Bool} {v1 : Value} {r : Bool} (hI : Inv w S (Fr)) (h0_ : RV S v0 a0) (h1_ : FnV Tryz.prog S v1 a1) (h : dt_ a0 a1 = some r) :
    Calls Tryz.prog 130 [v0, v1].toArray w (bw_ S Fr (Value.bool (r))) := by
 unfold dt_ at h
 obtain ⟨z1, m1, k1, rfl⟩ := ac_ h0_
 refine ao_ (n := 9) Tryz.func130 rfl rfl rfl (ab_ (aa_ (wa_ (v := (vb false)) rfl rfl (ad_ (ab_ (aa_ (wm_ (v := (.slice z1 m1 k1)) rfl rfl (wm_ (v := v1) rfl rfl ?_))))))))
 obtain ⟨x1, hx1, h⟩ := bnd h
 refine wo_ (cv_ ca140 rfl hI (fun Fr_ hF_ => mq_ hF_ h0_ h1_ hx1) (br_ rfl rfl) (fun w1 I1 => (wo_ (mx_ rfl rfl rfl (wa_ (v := (vb (decide (0 ≤ x1)))) rfl rfl (ad_ (ak_ ?_)))))))
 obtain rfl := sj h
 exact ⟨rfl, (vb (decide (0 ≤ x1))), (bo_ rfl rfl), _, [], lr, I1, rfl, rfl⟩
theorem qo_ {w : World} {S : PH} {Fr : List HP} {a0 : CodeLock} {v0 : Value} {a1 : (List (List Int))} {v1 : Value} {r : Int} (hI : Inv w S (Fr)) (h0_ : RV S v0 a0) (h1_ : RV S v1 a1) (h : ht_ a0 a1 = some r) :
    Calls Tryz.prog 120 [v0, v1].toArray w (bw_ S Fr (Value.int .i64 (r))) := by
 unfold ht_ at h
 have e1 := CodeLock.inv h0_
 subst e1
 obtain ⟨z1, m1, k1, rfl⟩ := ac_ h1_
 refine ao_ (n := 14) Tryz.func120 rfl rfl rfl (ab_ (aa_ (wo_ (bi_ (v := (.agg #[(vi a0.Wheels), (vi a0.Symbols)])) rfl hI rfl (fun g1 w1 I1 => ?_)))))
 obtain ⟨S1, le1, I2, p1⟩ := Inv.boxFreeze (x := a0) I1 (CodeLock.rv (s := a0))
 refine wa_ (v := (vi 0)) rfl rfl (ad_ (ab_ (ab_ (aa_ (wo_ (ld_ im_ (p1.at_ I2) rfl (fun u1 hu1 => ?_)))))))
 have e3 := CodeLock.inv hu1
 subst e3
 obtain ⟨x1, hx1, h⟩ := bnd h
 refine wo_ (cv_ ca123 rfl I2 (fun Fr_ hF_ => mm_ hF_ (CodeLock.rv (s := a0)) hx1) (em_ rfl) (fun w2 I3 => (wa_ (v := (vi x1)) rfl rfl (ad_ (ab_ (aa_ (wm_ (v := (vi x1)) rfl rfl (wo_ (cd_ rfl rfl rfl (ad_ ?_))))))))))
 rcases ifs h with ⟨hc1, h⟩ | ⟨hc1, h⟩
 ·
  refine ah_ rfl hc1 (ab_ (aa_ (wm_ (v := (vi x1)) rfl rfl (wa_ (v := (vi x1)) rfl rfl (ad_ (ak_ ?_))))))
  obtain rfl := sj h
  exact ⟨rfl, (vi x1), (bo_ rfl rfl), _, [], le1, I3, rfl, rfl⟩
 refine ai_ rfl hc1 (ar_ (ab_ (ab_ (aa_ (wm_ (v := (.slice z1 m1 k1)) rfl rfl (wo_ (cm_ (fv := #[]) (cv := #[(pt_ g1)]) rfl zo_ (arr1 rfl) ?_)))))))
 obtain ⟨x2, hx2, h⟩ := bnd h
 refine wo_ (cv_ ca130 rfl I3 (fun Fr_ hF_ => ku_ hF_ (h1_.mono le1) ⟨131, [(pt_ g1)], rfl, ca131, fun T_ w_ Fr_ u_ x_ r_ hle_ hI_ hu_ hr_ => ot_ hI_ hu_ (p1.mono hle_) hr_⟩ hx2) (br_ rfl rfl) (fun w3 I4 => (ad_ ?_)))
 rcases ifs h with ⟨hc2, h⟩ | ⟨hc2, h⟩
 ·
  refine ah_ rfl hc2 (ab_ (aa_ (wa_ (v := (vi 12)) rfl rfl (ad_ (ak_ ?_)))))
  obtain rfl := sj h
  exact ⟨rfl, (vi 12), (bo_ rfl rfl), _, [], le1, I4, rfl, rfl⟩
 refine ai_ rfl hc2 (ar_ (ab_ (aa_ (wa_ (v := (vi 0)) rfl rfl (ad_ (ak_ ?_))))))
 obtain rfl := sj h
 exact ⟨rfl, (vi 0), (bo_ rfl rfl), _, [], le1, I4, rfl, rfl⟩
theorem gg_ {w : World} {S : PH} {Fr : List HP} {a0 : CodeLock} {v0 : Value} {a1 : (List Int)} {v1 : Value} {r : Int} (hI : Inv w S (Fr)) (h0_ : RV S v0 a0) (h1_ : RV S v1 a1) (h : dr_ a0 a1 = some r) :
    Calls Tryz.prog 108 [v0, v1].toArray w (bw_ S Fr (Value.int .i64 (r))) := by
 unfold dr_ at h
 have e1 := CodeLock.inv h0_
 subst e1
 obtain ⟨z1, m1, k1, rfl⟩ := ac_ h1_
 refine ao_ (n := 9) Tryz.func108 rfl rfl rfl (ab_ (aa_ (wo_ (bi_ (v := (.agg #[(vi a0.Wheels), (vi a0.Symbols)])) rfl hI rfl (fun g1 w1 I1 => ?_)))))
 obtain ⟨S1, le1, I2, p1⟩ := Inv.boxFreeze (x := a0) I1 (CodeLock.rv (s := a0))
 refine wa_ (v := (vi 0)) rfl rfl (ad_ (ab_ (aa_ (wo_ (ld_ im_ (p1.at_ I2) rfl (fun u1 hu1 => ?_))))))
 have e3 := CodeLock.inv hu1
 subst e3
 refine wm_ (v := (.slice z1 m1 k1)) rfl rfl (wo_ (bf_ (vs := [(.slice z1 m1 k1)]) (r := ([a1] : List (List Int))) rfl Tryz.underlying23 zh_ (fc_ rfl) rfl (by decide) (by decide) ⟨(h1_.mono le1), trivial⟩ I2 (fun u2 w2 I3 => ?_)))
 obtain ⟨z2, m2, k2, e4⟩ := bc_ I3
 subst e4
 obtain ⟨x1, hx1, h⟩ := bnd h
 obtain ⟨S2, Fr1, le2, I4, r1, bk1⟩ := Inv.lend1 I3
 refine wo_ (cl_ ca120 rfl (qo_ I4 (CodeLock.rv (s := a0)) r1 hx1) (br_ rfl rfl) (fun cv1 w3 S3 O1 le3 I6 hv1 => ?_))
 obtain ⟨rfl, rfl⟩ := hv1
 have I5 := bk1 [] trivial I6 le3
 refine wa_ (v := (vi x1)) rfl rfl (ad_ (ak_ ?_))
 obtain rfl := sj h
 exact ⟨rfl, (vi x1), (bo_ rfl rfl), _, [], le1, (I5).drop, rfl, rfl⟩
theorem dk_ {w : World} {S : PH} {Fr : List HP} {a0 : CodeLock} {v0 : Value} {a1 : Int} {r : Bool} (hI : Inv w S (Fr)) (h0_ : RV S v0 a0) (h : ci_ a0 a1 = some r) :
    Calls Tryz.prog 134 [v0, (Value.int .i64 (a1))].toArray w (bw_ S Fr (Value.bool (r))) := by
 unfold ci_ at h
 have e1 := CodeLock.inv h0_
 subst e1
 refine ao_ (n := 10) Tryz.func134 rfl rfl rfl (ab_ (aa_ (wo_ (bi_ (v := (.agg #[(vi a0.Wheels), (vi a0.Symbols)])) rfl hI rfl (fun g1 w1 I1 => ?_)))))
 obtain ⟨S1, le1, I2, p1⟩ := Inv.boxFreeze (x := a0) I1 (CodeLock.rv (s := a0))
 refine wa_ (v := (vb false)) rfl rfl (ad_ (ab_ (aa_ (wm_ (v := (vi a1)) rfl rfl (wo_ (fa_ qk_ (p1.at_ I2) rfl (wo_ (li_ sh3 ((p1.at_ I2).fld CodeLock.fld0) rfl (wo_ (eb_ rfl rfl rfl ?_))))))))))
 obtain ⟨x1, hx1, h⟩ := bnd h
 refine wo_ (cv_ wl_ rfl I2 (fun Fr_ hF_ => cp_ hF_  hx1) (cf_ rfl rfl rfl) (fun w2 I3 => (wa_ (v := (vb x1)) rfl rfl (ad_ (ak_ ?_)))))
 obtain rfl := sj h
 exact ⟨rfl, (vb x1), (bo_ rfl rfl), _, [], le1, I3, rfl, rfl⟩
end Go.Proofs.YtlpdpeghgndmkaaGreat.Pad
