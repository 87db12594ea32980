/- A part of the proof: what the functions of the program compute, shown over the model. -/
import Derived.Test.YtlpdpeghgndmkaaHinP
import Derived.Test.YtlpdpeghgndmkaaHinW4
import Derived.Test.YtlpdpeghgndmkaaHinW9
import Derived.Test.YtlpdpeghgndmkaaHinW10
import Derived.Test.YtlpdpeghgndmkaaHinW11
import Derived.Test.YtlpdpeghgndmkaaHinW12
import Derived.KernelRfl
set_option linter.unusedVariables false
set_option maxHeartbeats 4000000
set_option maxRecDepth 100000
namespace Go.Proofs.Ytlpdpeghgndmkaa.Pad
open Go Go.Proofs
theorem mw_ {w : World} {S : PH} {Fr : List HP} {a0 : Riddle} {v0 : Value} {a1 : Aid} {v1 : Value} {r : Bool} (hI : Inv w S (Fr)) (h0_ : RV S v0 a0) (h1_ : RV S v1 a1) (h : gd_ a0 a1 = some r) :
    Calls Try.prog 3 [v0, v1].toArray w (cp_ S Fr (Value.bool (r))) := by
 unfold gd_ at h
 obtain ⟨c1, c2, c3, c4, e1, r1, r2, r3, r4⟩ := Riddle.inv h0_
 subst e1
 obtain ⟨z1, m1, k1, rfl⟩ := ag_ r1
 obtain ⟨z2, m2, k2, rfl⟩ := ag_ r2
 obtain ⟨z3, m3, k3, rfl⟩ := ag_ r3
 obtain ⟨z4, m4, k4, rfl⟩ := ag_ r4
 obtain ⟨c5, e6, r5⟩ := Aid.inv h1_
 subst e6
 obtain ⟨z5, m5, k5, rfl⟩ := ag_ r5
 refine ar_ (n := 65) (vs := [(.agg #[(.slice z1 m1 k1), (.slice z2 m2 k2), (.slice z3 m3 k3), (.slice z4 m4 k4)]), (.agg #[(vi a1.Lock), (vi a1.Clue.Kind), (vi a1.Clue.A), (vi a1.Clue.B), (vi a1.Clue.N), (vi a1.Clue.M), (.slice z5 m5 k5), (vb a1.Clue.Not)])]) Try.func3 rfl rfl rfl (ab_ (aa_ (wo_ (bk_ (v := (.agg #[(.slice z1 m1 k1), (.slice z2 m2 k2), (.slice z3 m3 k3), (.slice z4 m4 k4)])) rfl hI rfl (fun g1 w1 I1 => (wo_ (bk_ (v := (.agg #[(vi a1.Lock), (vi a1.Clue.Kind), (vi a1.Clue.A), (vi a1.Clue.B), (vi a1.Clue.N), (vi a1.Clue.M), (.slice z5 m5 k5), (vb a1.Clue.Not)])) rfl I1 rfl (fun g2 w2 I2 => ?_))))))))
 obtain ⟨S1, le1, I3, p1⟩ := Inv.boxFreeze (x := a1) I2 (Aid.rv (s := a1) r5)
 refine wa_ (v := (vb false)) rfl rfl (ad_ (ab_ (ab_ (aa_ (wo_ (dx_ (l := [(.slice z1 m1 k1), (.slice z2 m2 k2), (.slice z3 m3 k3), (.slice z4 m4 k4)]) rfl nh_ (I3.nth 0 rfl) rfl rfl rfl ?_))))))
 obtain ⟨x1, hx1, h⟩ := bnd h
 refine wo_ (aq_ (vs := [(.agg #[(.slice z1 m1 k1), (.slice z2 m2 k2), (.slice z3 m3 k3), (.slice z4 m4 k4)])]) (r := (vb x1)) rfl ca8 rfl (fp_ rfl) I3 (fun Fr_ hF_ => law07_Large_ok hF_ (Riddle.rv (s := (⟨a0.Locks, a0.Codes, a0.Known, a0.Ties⟩ : Riddle)) (r1.mono le1) (r2.mono le1) (r3.mono le1) (r4.mono le1)) hx1) (fun w3 I4 => (ad_ ?_)))
 rcases ifs h with ⟨hc1, h⟩ | ⟨hc1, h⟩
 ·
  refine aj_ (b := x1) rfl hc1 (ab_ (aa_ ?_))
  obtain ⟨x2, hx2, h⟩ := bnd h
  refine wo_ (aq_ (vs := []) (r := (vb x2)) rfl ca9 rfl args0 I4 (fun Fr_ hF_ => hs_ hF_  hx2) (fun w4 I5 => (wa_ (v := (vb x2)) rfl rfl (ad_ (al_ ?_)))))
  obtain rfl := sj h
  exact ⟨rfl, (vb x2), (br_ rfl rfl), _, [], le1, (I5).drop, rfl, rfl⟩
 refine am_ (b := x1) rfl hc1 (aw_ (ab_ (aa_ (wo_ (au_ (v := (pt_ g1)) rfl fa27_3 rfl rfl (wo_ (bc_ (v := (.slice none 0 0)) (cs := #[(.slice z1 m1 k1), (.slice z2 m2 k2), (.slice z3 m3 k3), (.slice z4 m4 k4)]) sh25 I4 rfl rfl rfl (Nat.le_of_ble_eq_true rfl) rfl (fun w5 (I6 : Inv w5 S1 (ao_ g1 27 #[(.slice z1 m1 k1), (.slice z2 m2 k2), (.slice z3 m3 k3), (.slice none 0 0)] :: Fr)) => (ad_ (ab_ (aa_ (wo_ (dx_ (l := [(.slice z1 m1 k1), (.slice z2 m2 k2), (.slice z3 m3 k3), (.slice none 0 0)]) rfl nh_ (I6.nth 0 rfl) rfl rfl rfl ?_)))))))))))))
 obtain ⟨x3, hx3, h⟩ := bnd h
 refine wo_ (aq_ (vs := [(.agg #[(.slice z1 m1 k1), (.slice z2 m2 k2), (.slice z3 m3 k3), (.slice none 0 0)])]) (r := (Value.tuple #[(vi x3.1), (vi x3.2)])) rfl ca10 rfl (fp_ rfl) I6 (fun Fr_ hF_ => lr_ hF_ (Riddle.rv (s := (⟨a0.Locks, a0.Codes, a0.Known, ([] : (List Tie))⟩ : Riddle)) (r1.mono le1) (r2.mono le1) (r3.mono le1) rv_nil) hx3) (fun w6 I7 => (wm_ (v := (Value.tuple #[(vi x3.1), (vi x3.2)])) rfl rfl (wo_ (bf_ (v := (vi x3.1)) rfl rfl rfl (wo_ (bf_ (v := (vi x3.2)) rfl rfl rfl (wa_ (v := (vi x3.1)) rfl rfl (wa_ (v := (vi x3.2)) rfl rfl (ad_ (ab_ (ab_ (aa_ (wm_ (v := (vi x3.2)) rfl rfl (wo_ (df_ (a := x3.2) (b := 0) rfl rfl rfl (ad_ ?_)))))))))))))))))
 rcases ifs h with ⟨hc2, h⟩ | ⟨hc2, h⟩
 ·
  refine aj_ (b := x3.2 != 0) rfl hc2 (ab_ (aa_ ?_))
  obtain ⟨x4, hx4, h⟩ := bnd h
  refine wo_ (aq_ (vs := []) (r := (vb x4)) rfl ca9 rfl args0 I7 (fun Fr_ hF_ => hs_ hF_  hx4) (fun w7 I8 => (wa_ (v := (vb x4)) rfl rfl (ad_ (al_ ?_)))))
  obtain rfl := sj h
  exact ⟨rfl, (vb x4), (br_ rfl rfl), _, [], le1, (I8).drop, rfl, rfl⟩
 refine am_ (b := x3.2 != 0) rfl hc2 (aw_ (ab_ (aa_ (wo_ (dx_ (l := [(.slice z1 m1 k1), (.slice z2 m2 k2), (.slice z3 m3 k3), (.slice none 0 0)]) rfl nh_ (I7.nth 0 rfl) rfl rfl rfl ?_)))))
 obtain ⟨x5, hx5, h⟩ := bnd h
 refine wo_ (bq_ (vs := [(.agg #[(.slice z1 m1 k1), (.slice z2 m2 k2), (.slice z3 m3 k3), (.slice none 0 0)])]) rfl ca11 rfl (fp_ rfl) (law07_all_ok I7 (Riddle.rv (s := (⟨a0.Locks, a0.Codes, a0.Known, ([] : (List Tie))⟩ : Riddle)) (r1.mono le1) (r2.mono le1) (r3.mono le1) rv_nil) hx5) (fun cv1 w8 S2 O1 le2 I9 hv1 => ?_))
 obtain ⟨z6, m6, k6, rfl, rfl⟩ := hv1
 refine wm_ (v := (Value.tuple #[(.slice z6 m6 k6), (vb x5.2)])) rfl rfl (wo_ (bf_ (v := (.slice z6 m6 k6)) rfl rfl rfl (wo_ (bf_ (v := (vb x5.2)) rfl rfl rfl (wa_ (v := (.slice z6 m6 k6)) rfl rfl (wa_ (v := (vb x5.2)) rfl rfl (ad_ (ab_ (ab_ (aa_ (wm_ (v := (vb x5.2)) rfl rfl (wo_ (cf_ (b := x5.2) rfl rfl (ad_ ?_))))))))))))))
 rcases ifs h with ⟨hc3, h⟩ | ⟨hc3, h⟩
 ·
  refine aj_ (b := !x5.2) rfl hc3 (ab_ (aa_ (wa_ (v := (vb false)) rfl rfl (ad_ (al_ ?_)))))
  obtain rfl := sj h
  exact ⟨rfl, (vb false), (br_ rfl rfl), _, [], (le1.trans le2), ((I9).drop).drop, rfl, rfl⟩
 refine am_ (b := !x5.2) rfl hc3 (aw_ (ab_ (aa_ (wa_ (v := (vi 1)) rfl rfl (ad_ (ab_ (ab_ (aa_ (wa_ (v := (vi 0)) rfl rfl (ad_ ?_))))))))))
 have hk1 : x5.1.length ≤ 9223372036854775807 := (row_len (I9.nth 0 rfl))
 obtain ⟨out1, hrun1, h⟩ := bnd h
 refine bu_ (fun f w => Inv w S2 (ao_ g1 27 #[(.slice z1 m1 k1), (.slice z2 m2 k2), (.slice z3 m3 k3), (.slice none 0 0)] :: Row (α := (List (List Int))) 23 (.slice z6 m6 k6) (x5.1) :: Fr) ∧ f 2 = (pt_ g1) ∧ f 3 = (pt_ g2) ∧ f 5 = (vi x3.1) ∧ f 7 = (.slice z6 m6 k6) ∧ f 9 = (vi out1) ∧ f.ds = []) ?_ ?_
 ·
  refine ax_ ?_
  refine em_ (I := fun (i1 : Nat) (s1 : (Int)) (f : Frm) (w : World) => Inv w S2 (ao_ g1 27 #[(.slice z1 m1 k1), (.slice z2 m2 k2), (.slice z3 m3 k3), (.slice none 0 0)] :: Row (α := (List (List Int))) 23 (.slice z6 m6 k6) (x5.1) :: Fr) ∧ f 2 = (pt_ g1) ∧ f 3 = (pt_ g2) ∧ f 5 = (vi x3.1) ∧ f 7 = (.slice z6 m6 k6) ∧ f 9 = (vi s1) ∧ f 10 = (vi (i1 : Int)) ∧ f.ds = []) hrun1 ⟨(I9.pull 1), rfl, rfl, rfl, rfl, rfl, rfl, rfl⟩ ?_ ?_
  ·
   rintro i1 s1 f w o1 hlt1 hI1 h1
   obtain ⟨I13, e29, e30, e31, e32, e33, e34, ed4⟩ := hI1
   refine ab_ (ab_ (aa_ (wm_ (v := (vi (i1 : Int))) rfl e34 (wm_ (v := (.slice z6 m6 k6)) rfl e32 (wo_ (ft_ (α := (List (List Int))) rfl Try.underlying38 rfl (I13.nth 1 rfl) (wo_ (bh_ (a := (i1 : Int)) (b := (x5.1.length : Int)) rfl rfl rfl (ad_ (aj_ (b := decide ((i1 : Int) < (x5.1.length : Int))) rfl (gr_ hlt1) (aw_ (ab_ (ax_ (aa_ (wm_ (v := (vi s1)) rfl e33 (wm_ (v := (.slice z6 m6 k6)) rfl e32 (wm_ (v := (vi (i1 : Int))) rfl e34 ?_)))))))))))))))))
   obtain ⟨x9, hx9, h1⟩ := bnd h1
   refine wo_ (be_ (v := (.slice z6 m6 k6)) (i := (i1 : Int)) (e := x9) rfl Try.underlying38 kw_ rfl (Inv.rowSrc (I13.nth 1 rfl)) rfl hx9 (wo_ (an_ (v := (ah_ (.slice z6 m6 k6) ((i1 : Int)) (Enc.sz (List (List Int))))) (e := x9) rfl kw_ rfl ((I13.nth 1 rfl).rowElem hx9) (fun u4 hu4 => ?_))))
   obtain ⟨z10, m10, k10, rfl⟩ := ag_ hu4
   refine wo_ (bb_ rfl Try.underlying23 rfl hu4 (wo_ (op_mul (a := s1) (b := (x9.length : Int)) rfl rfl rfl (wa_ (v := (vi (w64 (s1 * (x9.length : Int))))) rfl rfl (ad_ (aa_ (wm_ (v := (vi (i1 : Int))) rfl e34 (wo_ (bo_ (a := (i1 : Int)) (b := 1) rfl rfl rfl (wa_ (v := (vi (w64 ((i1 : Int) + 1)))) rfl rfl (ad_ ?_)))))))))))
   obtain rfl := sj h1
   exact ⟨((I13.pull 1).pull 1), e29, e30, e31, e32, rfl, (bm_ hlt1 hk1), ed4⟩
  rintro f w hI2
  obtain ⟨I14, e36, e37, e38, e39, e40, e41, ed5⟩ := hI2
  refine ab_ (ab_ (aa_ (wm_ (v := (vi ((x5.1.length : Int)))) rfl e41 (wm_ (v := (.slice z6 m6 k6)) rfl e39 (wo_ (ft_ (α := (List (List Int))) rfl Try.underlying38 rfl (I14.nth 1 rfl) (wo_ (bh_ (a := (x5.1.length : Int)) (b := (x5.1.length : Int)) rfl rfl rfl (ad_ (am_ (b := decide ((x5.1.length : Int) < (x5.1.length : Int))) rfl (gs_ _) (bl_ ?_)))))))))))
  exact ⟨((I14.pull 1).pull 1), e36, e37, e38, e39, e40, ed5⟩
 rintro f w ⟨I15, e42, e43, e44, e45, e46, ed6⟩
 refine ab_ (aa_ (wo_ (dx_ (l := [(.slice z1 m1 k1), (.slice z2 m2 k2), (.slice z3 m3 k3), (.slice none 0 0)]) rfl nh_ (I15.nth 0 rfl) e42 rfl rfl (wo_ (an_ (v := (pt_ g2)) (e := a1) rfl sh32 e43 ((p1.mono le2).at_ I15) (fun u5 hu5 => ?_))))))
 obtain ⟨c6, e47, r6⟩ := Aid.inv hu5
 subst e47
 obtain ⟨z11, m11, k11, rfl⟩ := ag_ r6
 obtain ⟨x10, hx10, h⟩ := bnd h
 refine wo_ (bq_ (vs := [(.agg #[(.slice z1 m1 k1), (.slice z2 m2 k2), (.slice z3 m3 k3), (.slice none 0 0)]), (.agg #[(vi a1.Lock), (vi a1.Clue.Kind), (vi a1.Clue.A), (vi a1.Clue.B), (vi a1.Clue.N), (vi a1.Clue.M), (.slice z11 m11 k11), (vb a1.Clue.Not)])]) rfl ca12 rfl (bz_ rfl rfl) (lt_ I15 (Riddle.rv (s := (⟨a0.Locks, a0.Codes, a0.Known, ([] : (List Tie))⟩ : Riddle)) (r1.mono (le1.trans le2)) (r2.mono (le1.trans le2)) (r3.mono (le1.trans le2)) rv_nil) (Aid.rv (s := a1) r6) hx10) (fun cv2 w9 S3 O2 le3 I16 hv2 => ?_))
 obtain ⟨z12, m12, k12, rfl, rfl⟩ := hv2
 refine wm_ (v := (Value.tuple #[(.slice z12 m12 k12), (vi x10.2)])) rfl rfl (wo_ (bf_ (v := (.slice z12 m12 k12)) rfl rfl rfl (wo_ (bf_ (v := (vi x10.2)) rfl rfl rfl (wa_ (v := (.slice z12 m12 k12)) rfl rfl (wa_ (v := (vi x10.2)) rfl rfl (ad_ (ab_ (aa_ (wm_ (v := (vi x3.1)) rfl e44 (wm_ (v := (vi out1)) rfl e46 (wo_ (bj_ (a := x3.1) (b := out1) rfl rfl rfl (wm_ (v := (vb (x3.1 == out1))) rfl rfl ?_))))))))))))))
 rcases ifs h with ⟨hc4, h⟩ | ⟨hc4, h⟩
 ·
  refine wk_ (c := x3.1 == out1) rfl rfl hc4 (az_ (v := (vi x10.2)) rfl rfl (wk_ (c := x3.1 == out1) rfl rfl hc4 (df_ (a := x10.2) (b := 0) rfl rfl rfl (wk_ (c := x3.1 == out1) rfl rfl hc4 (az_ (v := (vb (x10.2 != 0))) rfl rfl ?_)))))
  rcases ifs h with ⟨hc5, h⟩ | ⟨hc5, h⟩
  ·
   refine ws_ (c := x10.2 != 0) rfl rfl hc5 (ws_ (c := x10.2 != 0) rfl rfl hc5 (ws_ (c := x10.2 != 0) rfl rfl hc5 (wk_ (c := x3.1 == out1) rfl rfl hc4 (ay_ (c := x10.2 != 0) (a := (vb true)) rfl rfl hc5 rfl (wo_ (ay_ (c := x3.1 == out1) (a := (vb true)) rfl rfl hc4 rfl (wm_ (v := (vb true)) rfl rfl ?_)))))))
   obtain ⟨x11, hx11, h⟩ := bnd h
   refine wk_ (c := true) rfl rfl rfl (aq_ (vs := []) (r := (vb x11)) rfl ca9 rfl args0 I16 (fun Fr_ hF_ => hs_ hF_  hx11) (fun w10 I17 => (wo_ (ay_ (c := true) (a := (vb x11)) rfl rfl rfl rfl (wa_ (v := (vb x11)) rfl rfl (ad_ (al_ ?_)))))))
   obtain rfl := sj h
   exact ⟨ed6, (vb x11), (br_ rfl rfl), _, [], ((le1.trans le2).trans le3), (((I17).drop).drop).drop, rfl, rfl⟩
  refine wk_ (c := x10.2 != 0) rfl rfl hc5 (az_ (v := (.slice z12 m12 k12)) rfl rfl (wk_ (c := x10.2 != 0) rfl rfl hc5 (ft_ (α := Int) rfl Try.underlying28 rfl (I16.nth 0 rfl) (wk_ (c := x10.2 != 0) rfl rfl hc5 (bj_ (a := (x10.1.length : Int)) (b := 0) rfl rfl rfl (wk_ (c := x3.1 == out1) rfl rfl hc4 (ap_ (c := x10.2 != 0) (b := (vb ((x10.1.length : Int) == 0))) rfl rfl hc5 rfl (wo_ (ay_ (c := x3.1 == out1) (a := (vb ((x10.1.length : Int) == 0))) rfl rfl hc4 rfl (wm_ (v := (vb ((x10.1.length : Int) == 0))) rfl rfl ?_))))))))))
  rcases ifs h with ⟨hc6, h⟩ | ⟨hc6, h⟩
  ·
   obtain ⟨x12, hx12, h⟩ := bnd h
   refine wk_ (c := (x10.1.length : Int) == 0) rfl rfl hc6 (aq_ (vs := []) (r := (vb x12)) rfl ca9 rfl args0 I16 (fun Fr_ hF_ => hs_ hF_  hx12) (fun w11 I18 => (wo_ (ay_ (c := (x10.1.length : Int) == 0) (a := (vb x12)) rfl rfl hc6 rfl (wa_ (v := (vb x12)) rfl rfl (ad_ (al_ ?_)))))))
   obtain rfl := sj h
   exact ⟨ed6, (vb x12), (br_ rfl rfl), _, [], ((le1.trans le2).trans le3), (((I18).drop).drop).drop, rfl, rfl⟩
  refine ws_ (c := (x10.1.length : Int) == 0) rfl rfl hc6 (wo_ (ap_ (c := (x10.1.length : Int) == 0) (b := (vb false)) rfl rfl hc6 rfl (wa_ (v := (vb false)) rfl rfl (ad_ (al_ ?_)))))
  obtain rfl := sj h
  exact ⟨ed6, (vb false), (br_ rfl rfl), _, [], ((le1.trans le2).trans le3), (((I16).drop).drop).drop, rfl, rfl⟩
 refine ws_ (c := x3.1 == out1) rfl rfl hc4 (ws_ (c := x3.1 == out1) rfl rfl hc4 (ws_ (c := x3.1 == out1) rfl rfl hc4 (wl_skip_u rfl rfl rfl rfl rfl (wl_skip_u rfl rfl rfl rfl rfl (wl_skip_u rfl rfl rfl rfl rfl (ws_ (c := x3.1 == out1) rfl rfl hc4 (wo_ (ap_ (c := x3.1 == out1) (b := (vb false)) rfl rfl hc4 rfl (wm_ (v := (vb false)) rfl rfl (ws_ (c := false) rfl rfl rfl (wo_ (ap_ (c := false) (b := (vb false)) rfl rfl rfl rfl (wa_ (v := (vb false)) rfl rfl (ad_ (al_ ?_)))))))))))))))
 obtain rfl := sj h
 exact ⟨ed6, (vb false), (br_ rfl rfl), _, [], ((le1.trans le2).trans le3), (((I16).drop).drop).drop, rfl, rfl⟩
end Go.Proofs.Ytlpdpeghgndmkaa.Pad
