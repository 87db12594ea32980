/- A part of the proof: what the functions of the program compute, shown over the model. -/
import Derived.Test.YtlpdpeghgndmkaaHinP
import Derived.Test.YtlpdpeghgndmkaaHinW11
import Derived.KernelRfl
set_option linter.unusedVariables false
set_option maxHeartbeats 4000000
set_option maxRecDepth 100000
namespace Go.Proofs.Ytlpdpeghgndmkaa.Pad
open Go Go.Proofs
theorem law07_all_ok {w : World} {S : PH} {Fr : List HP} {a0 : Riddle} {v0 : Value} {r : (List (List (List Int))) × Bool} (hI : Inv w S (Fr)) (h0_ : RV S v0 a0) (h : ix_ a0 = some r) :
    Calls Try.prog 11 [v0].toArray w (md_ S Fr (fun T_ v_ O_ => ∃ (a0_ : Option Addr) (n0_ k0_ : Nat), v_ = (Value.tuple #[(Value.slice a0_ n0_ k0_), (Value.bool (r.2))]) ∧ O_ = [Row (α := (List (List Int))) 23 (Value.slice a0_ n0_ k0_) (r.1)])) := by
 unfold ix_ at h
 obtain ⟨c1, c2, c3, c4, e1, r1, r2, r3, r4⟩ := Riddle.inv h0_
 subst e1
 obtain ⟨z1, m1, k1, rfl⟩ := af_ r1
 obtain ⟨z2, m2, k2, rfl⟩ := af_ r2
 obtain ⟨z3, m3, k3, rfl⟩ := af_ r3
 obtain ⟨z4, m4, k4, rfl⟩ := af_ r4
 refine av_ (n := 28) (vs := [(.agg #[(.slice z1 m1 k1), (.slice z2 m2 k2), (.slice z3 m3 k3), (.slice z4 m4 k4)])]) Try.func11 rfl rfl rfl (ab_ (aa_ (wo_ (bo_ (v := (.agg #[(.slice z1 m1 k1), (.slice z2 m2 k2), (.slice z3 m3 k3), (.slice z4 m4 k4)])) rfl hI rfl (fun g1 w1 I1 => ?_)))))
 obtain ⟨S1, le1, I2, p1⟩ := Inv.boxFreeze (x := a0) I1 (Riddle.rv (s := a0) r1 r2 r3 r4)
 refine wa_ (v := (.slice none 0 0)) rfl rfl (wa_ (v := (vb false)) rfl rfl (ad_ (ab_ (aa_ (wa_ (v := (.slice none 0 0)) rfl rfl (ad_ (ab_ (ab_ (aa_ (wa_ (v := (vi 0)) rfl rfl (ad_ ?_)))))))))))
 have hk1 : a0.Locks.length ≤ 9223372036854775807 := (eg_ r1)
 have I16 := Inv.rowNil (α := (List (List Int))) (T := 23) I2
 obtain ⟨o2, hrun1, h⟩ := bnd h
 refine bt_ (fun f w => ∃ out1, o2 = Sum.inl out1 ∧ ∃ (S_ : PH) (z37 : Option Addr) (m37 k37 : Nat), S1.Le S_ ∧ Inv w S_ (Row (α := (List (List Int))) 23 (.slice z37 m37 k37) (out1) :: Fr) ∧ f 1 = (pt_ g1) ∧ f 4 = (.slice z37 m37 k37) ∧ f.ds = []) ?_ ?_
 ·
  refine ax_ ?_
  refine er_ (I := fun (i1 : Nat) (s1 : (List (List (List Int)))) (f : Frm) (w : World) => ∃ (S_ : PH) (z36 : Option Addr) (m36 k36 : Nat), S1.Le S_ ∧ Inv w S_ (Row (α := (List (List Int))) 23 (.slice z36 m36 k36) (s1) :: Fr) ∧ f 1 = (pt_ g1) ∧ f 4 = (.slice z36 m36 k36) ∧ f 5 = (vi (i1 : Int)) ∧ f.ds = []) hrun1 ⟨_, _, _, _, lr, I16, rfl, rfl, rfl, rfl⟩ ?_ ?_
  ·
   rintro i1 s1 f w o1 hlt1 hI1 h1 hout1
   obtain ⟨S7, z36, m36, k36, le7, I17, e44, e45, e46, ed4⟩ := hI1
   refine ab_ (ab_ (aa_ (wm_ (v := (vi (i1 : Int))) rfl e46 (wo_ (ac_ (v := (pt_ g1)) rfl dp_ e44 ((p1.mono le7).at_ I17) (wo_ (am_ (v := (ae_ (pt_ g1) 0)) (e := a0.Locks) rfl mz_ rfl (((p1.mono le7).at_ I17).fld Riddle.fld0) (fun u19 hu13 => ?_))))))))
   obtain ⟨z39, m39, k39, rfl⟩ := af_ hu13
   refine wo_ (bb_ rfl Try.underlying22 rfl hu13 (wo_ (bg_ (a := (i1 : Int)) (b := (a0.Locks.length : Int)) rfl rfl rfl (ad_ (aj_ (b := decide ((i1 : Int) < (a0.Locks.length : Int))) rfl (gc_ hlt1) (au_ (ab_ (ax_ (ab_ (aa_ (wo_ (am_ (v := (pt_ g1)) (e := a0) rfl kb_ e44 ((p1.mono le7).at_ I17) (fun u20 hu14 => ?_)))))))))))))
   obtain ⟨c17, c18, c19, c20, e49, r20, r21, r22, r23⟩ := Riddle.inv hu14
   subst e49
   obtain ⟨z40, m40, k40, rfl⟩ := af_ r20
   obtain ⟨z41, m41, k41, rfl⟩ := af_ r21
   obtain ⟨z42, m42, k42, rfl⟩ := af_ r22
   obtain ⟨z43, m43, k43, rfl⟩ := af_ r23
   refine wm_ (v := (vi (i1 : Int))) rfl e46 ?_
   obtain ⟨x7, hx7, h1⟩ := bnd h1
   refine wo_ (bm_ (vs := [(.agg #[(.slice z40 m40 k40), (.slice z41 m41 k41), (.slice z42 m42 k42), (.slice z43 m43 k43)]), (vi (i1 : Int))]) rfl ca18 rfl (bv_ rfl rfl) (hints_Possible_ok I17 (Riddle.rv (s := a0) r20 r21 r22 r23) hx7) (fun cv4 w11 S8 O4 le8 I18 hv4 => ?_))
   obtain ⟨z44, m44, k44, rfl, rfl, r24⟩ := hv4
   refine wm_ (v := (Value.tuple #[(.slice z44 m44 k44), (vi x7.2)])) rfl rfl (wo_ (bd_ (v := (.slice z44 m44 k44)) rfl rfl rfl (wo_ (bd_ (v := (vi x7.2)) rfl rfl rfl (wa_ (v := (.slice z44 m44 k44)) rfl rfl (wa_ (v := (vi x7.2)) rfl rfl (ad_ (ab_ (ab_ (aa_ (wm_ (v := (vi x7.2)) rfl rfl (wo_ (ci_ (a := x7.2) (b := 0) rfl rfl rfl (ad_ ?_))))))))))))))
   rcases ifs h1 with ⟨hc4, h1⟩ | ⟨hc4, h1⟩
   ·
    refine aj_ (b := x7.2 != 0) rfl hc4 (ab_ (aa_ (wa_ (v := (.slice none 0 0)) rfl rfl (wa_ (v := (vb false)) rfl rfl (ad_ (an_ ?_))))))
    obtain rfl := sj h1
    obtain rfl := (hout1 _ rfl)
    have h2 := h
    have I19 := Inv.rowNil (α := (List (List Int))) (T := 23) I18
    obtain rfl := sj h2
    exact ⟨ed4, (Value.tuple #[(.slice none 0 0), (vb false)]), (res2 rfl rfl rfl), _, [Row (α := (List (List Int))) 23 (.slice none 0 0) (([] : List (List (List Int))))], ((le1.trans le7).trans le8), (I19.pull 1).drop, _, _, _, rfl, rfl⟩
   refine al_ (b := x7.2 != 0) rfl hc4 (au_ (aa_ (wm_ (v := (.slice z36 m36 k36)) rfl e45 (wm_ (v := (.slice z44 m44 k44)) rfl rfl (wo_ (bh_ (vs := [(.slice z44 m44 k44)]) (r := ([x7.1] : List (List (List Int)))) rfl Try.underlying38 el23 (hl_ rfl) rfl (by decide) (by decide) ⟨r24, trivial⟩ I18 (fun u21 w12 I20 => ?_)))))))
   obtain ⟨z45, m45, k45, e54⟩ := bi_ I20
   subst e54
   obtain ⟨x8, hx8, h1⟩ := bnd h1
   refine wo_ (dd_ (α := (List (List Int))) (v := (.slice z36 m36 k36)) (u := (.slice z45 m45 k45)) rfl rfl Try.underlying38 el23 (by decide) (by decide) rfl rfl (I20.pull 1) (Inv.rowSrc (I20.nth 0 rfl)) hx8 (fun u22 w13 I21 => ?_))
   obtain ⟨z46, m46, k46, e55⟩ := bi_ I21
   subst e55
   refine wa_ (v := (.slice z46 m46 k46)) rfl rfl (ad_ (aa_ (wm_ (v := (vi (i1 : Int))) rfl e46 (wo_ (bq_ (a := (i1 : Int)) (b := 1) rfl rfl rfl (wa_ (v := (vi (w64 ((i1 : Int) + 1)))) rfl rfl (ad_ ?_)))))))
   obtain rfl := sj h1
   exact ⟨_, rfl, _, _, _, _, (le7.trans le8), (I21.pull 1).drop, e44, rfl, (bj_ hlt1 hk1), ed4⟩
  rintro s2 f w hs1 hI2
  obtain ⟨S9, z47, m47, k47, le9, I22, e56, e57, e58, ed5⟩ := hI2
  refine ab_ (ab_ (aa_ (wm_ (v := (vi ((a0.Locks.length : Int)))) rfl e58 (wo_ (ac_ (v := (pt_ g1)) rfl dp_ e56 ((p1.mono le9).at_ I22) (wo_ (am_ (v := (ae_ (pt_ g1) 0)) (e := a0.Locks) rfl mz_ rfl (((p1.mono le9).at_ I22).fld Riddle.fld0) (fun u24 hu16 => ?_))))))))
  obtain ⟨z49, m49, k49, rfl⟩ := af_ hu16
  refine wo_ (bb_ rfl Try.underlying22 rfl hu16 (wo_ (bg_ (a := (a0.Locks.length : Int)) (b := (a0.Locks.length : Int)) rfl rfl rfl (ad_ (al_ (b := decide ((a0.Locks.length : Int) < (a0.Locks.length : Int))) rfl (gd_ _) (bl_ ?_))))))
  exact ⟨s2, hs1, _, _, _, _, le9, I22, e56, e57, ed5⟩
 rintro f w ⟨out1, rfl, S10, z37, m37, k37, le10, I23, e61, e62, ed6⟩
 have h := ei_ h
 refine ab_ (aa_ (wm_ (v := (.slice z37 m37 k37)) rfl e62 (wa_ (v := (.slice z37 m37 k37)) rfl rfl (wa_ (v := (vb true)) rfl rfl (ad_ (an_ ?_))))))
 obtain rfl := sj h
 exact ⟨ed6, (Value.tuple #[(.slice z37 m37 k37), (vb true)]), (res2 rfl rfl rfl), _, [Row (α := (List (List Int))) 23 (.slice z37 m37 k37) (out1)], (le1.trans le10), I23, _, _, _, rfl, rfl⟩
end Go.Proofs.Ytlpdpeghgndmkaa.Pad
