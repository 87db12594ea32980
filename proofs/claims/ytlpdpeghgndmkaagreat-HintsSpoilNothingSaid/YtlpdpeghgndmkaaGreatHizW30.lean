/- A part of the proof: what the functions of the program compute, shown over the model. -/
import Derived.Test.YtlpdpeghgndmkaaGreatHizP
import Derived.Test.YtlpdpeghgndmkaaGreatHizW4
import Derived.Test.YtlpdpeghgndmkaaGreatHizW11
import Derived.Test.YtlpdpeghgndmkaaGreatHizW18
import Derived.Test.YtlpdpeghgndmkaaGreatHizW19
import Derived.Test.YtlpdpeghgndmkaaGreatHizW21
import Derived.Test.YtlpdpeghgndmkaaGreatHizW24
import Derived.KernelRfl
set_option linter.unusedVariables false
set_option maxHeartbeats 4000000
set_option maxRecDepth 100000
namespace Go.Proofs.YtlpdpeghgndmkaaGreat.Pad
open Go Go.Proofs
theorem law07_all_ok {w : World} {S : PH} {Fr : List HP} {a0 : Riddle} {v0 : Value} {r : (List (List (List Int))) × Bool} (hI : Inv w S (Fr)) (h0_ : RV S v0 a0) (h : fw_ a0 = some r) :
    Calls Tryz.prog 31 [v0].toArray w (ms_ S Fr (fun T_ v_ O_ => ∃ (a0_ : Option Addr) (n0_ k0_ : Nat), v_ = (Value.tuple #[(Value.slice a0_ n0_ k0_), (Value.bool (r.2))]) ∧ O_ = [Row (α := (List (List Int))) 23 (Value.slice a0_ n0_ k0_) (r.1)])) := by
 unfold fw_ at h
 obtain ⟨c1, c2, c3, c4, e1, r1, r2, r3, r4⟩ := Riddle.inv h0_
 subst e1
 obtain ⟨z1, m1, k1, rfl⟩ := af_ r1
 obtain ⟨z2, m2, k2, rfl⟩ := af_ r2
 obtain ⟨z3, m3, k3, rfl⟩ := af_ r3
 obtain ⟨z4, m4, k4, rfl⟩ := af_ r4
 refine ar_ (n := 28) (vs := [(.agg #[(.slice z1 m1 k1), (.slice z2 m2 k2), (.slice z3 m3 k3), (.slice z4 m4 k4)])]) Tryz.func31 rfl rfl rfl (ab_ (aa_ (wo_ (bi_ (v := (.agg #[(.slice z1 m1 k1), (.slice z2 m2 k2), (.slice z3 m3 k3), (.slice z4 m4 k4)])) rfl hI rfl (fun g1 w1 I1 => ?_)))))
 obtain ⟨S1, le1, I2, p1⟩ := Inv.boxFreeze (x := a0) I1 (Riddle.rv (s := a0) r1 r2 r3 r4)
 refine wa_ (v := (.slice none 0 0)) rfl rfl (wa_ (v := (vb false)) rfl rfl (ad_ (ab_ (aa_ (wa_ (v := (.slice none 0 0)) rfl rfl (ad_ (ab_ (ab_ (aa_ (wa_ (v := (vi 0)) rfl rfl (ad_ ?_)))))))))))
 have hk1 : a0.Locks.length ≤ 9223372036854775807 := (ea_ r1)
 have I16 := Inv.rowNil (α := (List (List Int))) (T := 23) I2
 obtain ⟨o2, hrun1, h⟩ := bnd h
 refine bs_ (fun f w => ∃ out1, o2 = Sum.inl out1 ∧ ∃ (S_ : PH) (z37 : Option Addr) (m37 k37 : Nat), S1.Le S_ ∧ Inv w S_ (Row (α := (List (List Int))) 23 (.slice z37 m37 k37) (out1) :: Fr) ∧ f 1 = (pt_ g1) ∧ f 4 = (.slice z37 m37 k37) ∧ f.ds = []) ?_ ?_
 ·
  refine ax_ ?_
  refine eh_ (I := fun (i1 : Nat) (s1 : (List (List (List Int)))) (f : Frm) (w : World) => ∃ (S_ : PH) (z36 : Option Addr) (m36 k36 : Nat), S1.Le S_ ∧ Inv w S_ (Row (α := (List (List Int))) 23 (.slice z36 m36 k36) (s1) :: Fr) ∧ f 1 = (pt_ g1) ∧ f 4 = (.slice z36 m36 k36) ∧ f 5 = (vi (i1 : Int)) ∧ f.ds = []) hrun1 ⟨_, _, _, _, lr, I16, rfl, rfl, rfl, rfl⟩ ?_ ?_
  ·
   rintro i1 s1 f w o1 hlt1 hI1 h1 hout1
   obtain ⟨S7, z36, m36, k36, le7, I17, e44, e45, e46, ed4⟩ := hI1
   refine ab_ (ab_ (aa_ (wm_ rfl e46 (wo_ (ac_ (v := (pt_ g1)) rfl eb_ e44 ((p1.mono le7).at_ I17) (wo_ (an_ (v := (ae_ (pt_ g1) 0)) (e := a0.Locks) rfl oe_ rfl (((p1.mono le7).at_ I17).fld Riddle.fld0) (fun u19 hu13 => ?_))))))))
   obtain ⟨z39, m39, k39, rfl⟩ := af_ hu13
   refine wo_ (bb_ rfl Tryz.underlying22 rfl hu13 (wo_ (bg_ (a := (i1 : Int)) (b := (a0.Locks.length : Int)) rfl rfl rfl (ad_ (ai_ (b := decide ((i1 : Int) < (a0.Locks.length : Int))) rfl (gg_ hlt1) (av_ (ab_ (ax_ (ab_ (aa_ (wo_ (an_ (v := (pt_ g1)) (e := a0) rfl ii_ e44 ((p1.mono le7).at_ I17) (fun u20 hu14 => ?_)))))))))))))
   obtain ⟨c17, c18, c19, c20, e49, r20, r21, r22, r23⟩ := Riddle.inv hu14
   subst e49
   obtain ⟨z40, m40, k40, rfl⟩ := af_ r20
   obtain ⟨z41, m41, k41, rfl⟩ := af_ r21
   obtain ⟨z42, m42, k42, rfl⟩ := af_ r22
   obtain ⟨z43, m43, k43, rfl⟩ := af_ r23
   refine wm_ rfl e46 ?_
   obtain ⟨x7, hx7, h1⟩ := bnd h1
   refine wo_ (bo_ (vs := [(.agg #[(.slice z40 m40 k40), (.slice z41 m41 k41), (.slice z42 m42 k42), (.slice z43 m43 k43)]), (vi (i1 : Int))]) rfl ca29 rfl (bt_ rfl rfl) (hints_Possible_ok I17 (Riddle.rv (s := a0) r20 r21 r22 r23) hx7) (fun cv4 w11 S8 O4 le8 I18 hv4 => ?_))
   obtain ⟨z44, m44, k44, rfl, rfl, r24⟩ := hv4
   refine wm_ (v := (Value.tuple #[(.slice z44 m44 k44), (vi x7.2)])) rfl rfl (wo_ (bc_ (v := (.slice z44 m44 k44)) rfl rfl rfl (wo_ (bc_ (v := (vi x7.2)) rfl rfl rfl (wa_ (v := (.slice z44 m44 k44)) rfl rfl (wa_ (v := (vi x7.2)) rfl rfl (ad_ (ab_ (ab_ (aa_ (wm_ (v := (vi x7.2)) rfl rfl (wo_ (cd_ (a := x7.2) (b := 0) rfl rfl rfl (ad_ ?_))))))))))))))
   rcases ifs h1 with ⟨hc4, h1⟩ | ⟨hc4, h1⟩
   ·
    refine ai_ (b := x7.2 != 0) rfl hc4 (ab_ (aa_ (wa_ (v := (.slice none 0 0)) rfl rfl (wa_ (v := (vb false)) rfl rfl (ad_ (al_ ?_))))))
    obtain rfl := sj h1
    obtain rfl := (hout1 _ rfl)
    have h2 := h
    have I19 := Inv.rowNil (α := (List (List Int))) (T := 23) I18
    obtain rfl := sj h2
    exact ⟨ed4, (Value.tuple #[(.slice none 0 0), (vb false)]), (oq_ rfl rfl rfl), _, [Row (α := (List (List Int))) 23 (.slice none 0 0) (([] : List (List (List Int))))], ((le1.trans le7).trans le8), (I19.pull 1).drop, _, _, _, rfl, rfl⟩
   refine ak_ (b := x7.2 != 0) rfl hc4 (av_ (aa_ (wm_ rfl e45 (wm_ (v := (.slice z44 m44 k44)) rfl rfl (wo_ (bh_ (vs := [(.slice z44 m44 k44)]) (r := ([x7.1] : List (List (List Int)))) rfl Tryz.underlying55 el23 (ij_ rfl) rfl (by decide) (by decide) ⟨r24, trivial⟩ I18 (fun u21 w12 I20 => ?_)))))))
   obtain ⟨z45, m45, k45, e54⟩ := bk_ I20
   subst e54
   obtain ⟨x8, hx8, h1⟩ := bnd h1
   refine wo_ (ef_ (α := (List (List Int))) (v := (.slice z36 m36 k36)) (u := (.slice z45 m45 k45)) rfl rfl Tryz.underlying55 el23 (by decide) (by decide) rfl rfl (I20.pull 1) (Inv.rowSrc (I20.nth 0 rfl)) hx8 (fun u22 w13 I21 => ?_))
   obtain ⟨z46, m46, k46, e55⟩ := bk_ I21
   subst e55
   refine wa_ (v := (.slice z46 m46 k46)) rfl rfl (ad_ (aa_ (wm_ rfl e46 (wo_ (bp_ (a := (i1 : Int)) (b := 1) rfl rfl rfl (wa_ (v := (vi (w64 ((i1 : Int) + 1)))) rfl rfl (ad_ ?_)))))))
   obtain rfl := sj h1
   exact ⟨_, rfl, _, _, _, _, (le7.trans le8), (I21.pull 1).drop, e44, rfl, (bl_ hlt1 hk1), ed4⟩
  rintro s2 f w hs1 hI2
  obtain ⟨S9, z47, m47, k47, le9, I22, e56, e57, e58, ed5⟩ := hI2
  refine ab_ (ab_ (aa_ (wm_ rfl e58 (wo_ (ac_ (v := (pt_ g1)) rfl eb_ e56 ((p1.mono le9).at_ I22) (wo_ (an_ (v := (ae_ (pt_ g1) 0)) (e := a0.Locks) rfl oe_ rfl (((p1.mono le9).at_ I22).fld Riddle.fld0) (fun u24 hu16 => ?_))))))))
  obtain ⟨z49, m49, k49, rfl⟩ := af_ hu16
  refine wo_ (bb_ rfl Tryz.underlying22 rfl hu16 (wo_ (bg_ (a := (a0.Locks.length : Int)) (b := (a0.Locks.length : Int)) rfl rfl rfl (ad_ (ak_ (b := decide ((a0.Locks.length : Int) < (a0.Locks.length : Int))) rfl (gh_ _) (bj_ ?_))))))
  exact ⟨s2, hs1, _, _, _, _, le9, I22, e56, e57, ed5⟩
 rintro f w ⟨out1, rfl, S10, z37, m37, k37, le10, I23, e61, e62, ed6⟩
 have h := ds_ h
 refine ab_ (aa_ (wm_ rfl e62 (wa_ (v := (.slice z37 m37 k37)) rfl rfl (wa_ (v := (vb true)) rfl rfl (ad_ (al_ ?_))))))
 obtain rfl := sj h
 exact ⟨ed6, (Value.tuple #[(.slice z37 m37 k37), (vb true)]), (oq_ rfl rfl rfl), _, [Row (α := (List (List Int))) 23 (.slice z37 m37 k37) (out1)], (le1.trans le10), I23, _, _, _, rfl, rfl⟩
theorem law07_same_ok {w : World} {S : PH} {Fr : List HP} {a0 : (List (List (List Int)))} {v0 : Value} {a1 : (List (List (List Int)))} {v1 : Value} {a2 : Int} {r : Bool} (hI : Inv w S (Fr)) (h0_ : RV S v0 a0) (h1_ : RV S v1 a1) (h : gi_ a0 a1 a2 = some r) :
    Calls Tryz.prog 32 [v0, v1, (Value.int .i64 (a2))].toArray w (cc_ S Fr (Value.bool (r))) := by
 unfold gi_ at h
 obtain ⟨z1, m1, k1, rfl⟩ := af_ h0_
 obtain ⟨z2, m2, k2, rfl⟩ := af_ h1_
 refine ar_ (n := 29) (vs := [(.slice z1 m1 k1), (.slice z2 m2 k2), (vi a2)]) Tryz.func32 rfl rfl rfl (ab_ (aa_ (wa_ (v := (vb false)) rfl rfl (ad_ (ab_ (ab_ (aa_ (wa_ (v := (vi 0)) rfl rfl (ad_ ?_)))))))))
 have hk1 : a0.length ≤ 9223372036854775807 := (ea_ h0_)
 obtain ⟨o2, hrun1, h⟩ := bnd h
 refine bs_ (fun f w => ∃ out1, o2 = Sum.inl out1 ∧ ∃ (S_ : PH), S.Le S_ ∧ Inv w S_ (Fr) ∧ f 0 = (.slice z1 m1 k1) ∧ f 1 = (.slice z2 m2 k2) ∧ f 2 = (vi a2) ∧ f.ds = []) ?_ ?_
 ·
  refine ax_ ?_
  refine eh_ (I := fun (i1 : Nat) (s1 : Unit) (f : Frm) (w : World) => ∃ (S_ : PH), S.Le S_ ∧ Inv w S_ (Fr) ∧ f 0 = (.slice z1 m1 k1) ∧ f 1 = (.slice z2 m2 k2) ∧ f 2 = (vi a2) ∧ f 7 = (vi (i1 : Int)) ∧ f.ds = []) hrun1 ⟨_, lr, hI, rfl, rfl, rfl, rfl, rfl⟩ ?_ ?_
  ·
   rintro i1 s1 f w o1 hlt1 hI97 h1 hout1
   obtain ⟨S99, le99, I106, e51, e52, e53, e54, ed10⟩ := hI97
   refine ab_ (ab_ (aa_ (wm_ rfl e54 (wm_ rfl e51 (wo_ (bb_ rfl Tryz.underlying55 rfl (h0_.mono le99) (wo_ (bg_ (a := (i1 : Int)) (b := (a0.length : Int)) rfl rfl rfl (ad_ (ai_ (b := decide ((i1 : Int) < (a0.length : Int))) rfl (gg_ hlt1) (av_ (ab_ (ax_ (ab_ ?_))))))))))))))
   rcases ifs h1 with ⟨hc7, h1⟩ | ⟨hc7, h1⟩
   ·
    obtain ⟨x10, hx10, h1⟩ := bnd h1
    obtain ⟨x11, hx11, h1⟩ := bnd h1
    obtain ⟨x12, hx12, h1⟩ := bnd h1
    refine bm_ (sps := [spV 14 [] 0 (vi (i1 : Int)), spV 15 [] 1 (vi a2), spV 16 [0, 1] 2 (vb ((i1 : Int) != a2)), spV 17 [0, 1, 2] 3 (vb ((i1 : Int) != a2)), spV 18 [0, 1, 2, 3] 4 (.slice z1 m1 k1), spV 19 [0, 1, 2, 3] 5 (vi (i1 : Int)), spV 20 (lrg 6) 6 (ah_ (.slice z1 m1 k1) ((i1 : Int)) (Enc.sz (List (List Int)))), spR 21 (lrg 7) 7 x10, spV 22 [0, 1, 2, 3] 8 (.slice z2 m2 k2), spV 23 [0, 1, 2, 3] 9 (vi (i1 : Int)), spV 24 [0, 1, 2, 3, 8, 9] 10 (ah_ (.slice z2 m2 k2) ((i1 : Int)) (Enc.sz (List (List Int)))), spR 25 [0, 1, 2, 3, 8, 9, 10] 11 x11, spV 26 (lrg 12) 12 (vb x12), spV 27 (lrg 13) 13 (vb (!x12)), spV 28 (lrg 14) 14 (vb (!x12))]) (tks := []) (O := Fr) rfl (by kernel_rfl) I106 ⟨fun vs f w U X l A K I => pl_ rfl (aw_ (v := (vi (i1 : Int))) rfl ((K 7 (am_ rfl)).trans e54) (fn rfl rfl I)), fun vs f w U X l A K I => pl_ rfl (aw_ (v := (vi a2)) rfl ((K 2 (am_ rfl)).trans e53) (fn rfl rfl I)), fun vs f w U X l A K I => pl_ rfl (cd_ (a := (i1 : Int)) (b := a2) rfl (A.u 0 rfl rfl rfl) (A.u 1 rfl rfl rfl) (fn rfl rfl I)), fun vs f w U X l A K I => pl_ rfl (aw_ (v := (vb ((i1 : Int) != a2))) rfl (A.u 2 rfl rfl rfl) (fn rfl rfl I)), fun vs f w U X l A K I => tk_ rfl (A.u 3 rfl rfl rfl) hc7 (aw_ (v := (.slice z1 m1 k1)) rfl ((K 0 (am_ rfl)).trans e51) (fn rfl rfl I)), fun vs f w U X l A K I => tk_ rfl (A.u 3 rfl rfl rfl) hc7 (aw_ (v := (vi (i1 : Int))) rfl ((K 7 (am_ rfl)).trans e54) (fn rfl rfl I)), fun vs f w U X l A K I => tk_ rfl (A.u 3 rfl rfl rfl) hc7 (aj_ (v := (.slice z1 m1 k1)) (i := (i1 : Int)) (e := x10) rfl Tryz.underlying55 mh_ (A.u 4 rfl rfl rfl) (h0_.mono (le99.trans l)) (A.u 5 rfl rfl rfl) hx10 (fn rfl rfl I)), ?_, fun vs f w U X l A K I => tk_ rfl (A.u 3 rfl rfl rfl) hc7 (aw_ (v := (.slice z2 m2 k2)) rfl ((K 1 (am_ rfl)).trans e52) (fn rfl rfl I)), fun vs f w U X l A K I => tk_ rfl (A.u 3 rfl rfl rfl) hc7 (aw_ (v := (vi (i1 : Int))) rfl ((K 7 (am_ rfl)).trans e54) (fn rfl rfl I)), fun vs f w U X l A K I => tk_ rfl (A.u 3 rfl rfl rfl) hc7 (aj_ (v := (.slice z2 m2 k2)) (i := (i1 : Int)) (e := x11) rfl Tryz.underlying55 mh_ (A.u 4 rfl rfl rfl) (h1_.mono (le99.trans l)) (A.u 5 rfl rfl rfl) hx11 (fn rfl rfl I)), ?_, ?_, fun vs f w U X l A K I => tk_ rfl (A.u 3 rfl rfl rfl) hc7 (bz_ (b := x12) rfl (A.u 12 rfl rfl rfl) (fn rfl rfl I)), ?_, trivial⟩ ?_
    ·
     intro vs f w_ U X le A K I
     have q159 := A.u 3 rfl rfl rfl
     have q160 := A.u 6 rfl rfl rfl
     refine tk_ rfl q159 hc7 (an_ (v := (ah_ (.slice z1 m1 k1) ((i1 : Int)) (Enc.sz (List (List Int))))) (e := x10) rfl mh_ q160 ((h0_.mono (le99.trans le)).elem I.in_ hx10) (fun u21 hu21 => ?_))
     obtain ⟨z15, m15, k15, rfl⟩ := af_ hu21
     refine ⟨_, _, rfl, lr, ?_, ?_⟩
     · exact hu21
     exact I
    ·
     intro vs f w_ U X le A K I
     have q166 := A.u 3 rfl rfl rfl
     have q167 := A.u 6 rfl rfl rfl
     refine tk_ rfl q166 hc7 (an_ (v := (ah_ (.slice z2 m2 k2) ((i1 : Int)) (Enc.sz (List (List Int))))) (e := x11) rfl mh_ q167 ((h1_.mono (le99.trans le)).elem I.in_ hx11) (fun u22 hu22 => ?_))
     obtain ⟨z16, m16, k16, rfl⟩ := af_ hu22
     refine ⟨_, _, rfl, lr, ?_, ?_⟩
     · exact hu22
     exact I
    ·
     intro vs f w_ U X le A K I
     obtain ⟨z17, m17, k17, hu23, q169, r7⟩ := A.sl (a := 7) 7 rfl rfl rfl
     obtain ⟨z18, m18, k18, hu24, q170, r8⟩ := A.sl (a := 11) 11 rfl rfl rfl
     refine tk_ rfl (A.u 3 rfl rfl rfl) hc7 (ap_ (vs := [(.slice z17 m17 k17), (.slice z18 m18 k18)]) (r := (vb x12)) rfl ca40 rfl (bt_ q169 q170) I (fun Fr_ hF_ => law07_sameLists_ok hF_ r7 r8 hx12) (fun w118 I121 => (fn rfl rfl I121)))
    ·
     intro vs f w_ U X le A K I
     refine pl_ rfl (ay_ (c := (i1 : Int) != a2) (a := (vb (!x12))) rfl (A.u 3 rfl rfl rfl) hc7 (A.u 13 rfl rfl rfl) (fn rfl rfl I))
    intro vs112 f w121 S115 ed11 le115 hF7 hK112 hI113
    have e59 : f 0 = (Value.slice z1 m1 k1) := (hK112 0 (au_ rfl)).trans e51
    have e60 : f 1 = (Value.slice z2 m2 k2) := (hK112 1 (au_ rfl)).trans e52
    have e61 : f 2 = (vi a2) := (hK112 2 (au_ rfl)).trans e53
    have e62 : f 7 = (vi ((i1 : Int))) := (hK112 7 (au_ rfl)).trans e54
    have I124 : Inv w121 S115 (Fr) := hI113
    have q175 := hF7.u 14 rfl rfl rfl
    rcases ifs h1 with ⟨hc8, h1⟩ | ⟨hc8, h1⟩
    ·
     refine ai_ (b := !x12) q175 hc8 (ab_ (aa_ (wa_ (v := (vb false)) rfl rfl (ad_ (al_ ?_)))))
     obtain rfl := sj h1
     obtain rfl := (hout1 _ rfl)
     have h2 := h
     obtain rfl := sj h2
     exact ⟨(ed11.trans ed10), (vb false), (bq_ rfl rfl), _, [], (le99.trans le115), I124, rfl, rfl⟩
    refine ak_ (b := !x12) q175 hc8 (av_ (aa_ (wm_ rfl e62 (wo_ (bp_ (a := (i1 : Int)) (b := 1) rfl rfl rfl (wa_ (v := (vi (w64 ((i1 : Int) + 1)))) rfl rfl (ad_ ?_)))))))
    obtain rfl := sj h1
    exact ⟨_, rfl, _, (le99.trans le115), I124, e59, e60, e61, (bl_ hlt1 hk1), (ed11.trans ed10)⟩
   refine bm_ (sps := [spV 14 [] 0 (vi (i1 : Int)), spV 15 [] 1 (vi a2), spV 16 [0, 1] 2 (vb ((i1 : Int) != a2)), spV 17 [0, 1, 2] 3 (vb ((i1 : Int) != a2)), spV 18 [0, 1, 2, 3] 4 undef, spV 19 [0, 1, 2, 3] 5 undef, spV 20 (lrg 6) 6 undef, spV 21 (lrg 7) 7 undef, spV 22 [0, 1, 2, 3] 8 undef, spV 23 [0, 1, 2, 3] 9 undef, spV 24 [0, 1, 2, 3, 8, 9] 10 undef, spV 25 [0, 1, 2, 3, 8, 9, 10] 11 undef, spV 26 (lrg 12) 12 undef, spV 27 (lrg 13) 13 undef, spV 28 (lrg 14) 14 (vb false)]) (tks := []) (O := Fr) rfl (by kernel_rfl) I106 ⟨fun vs f w U X l A K I => pl_ rfl (aw_ (v := (vi (i1 : Int))) rfl ((K 7 (am_ rfl)).trans e54) (fn rfl rfl I)), fun vs f w U X l A K I => pl_ rfl (aw_ (v := (vi a2)) rfl ((K 2 (am_ rfl)).trans e53) (fn rfl rfl I)), fun vs f w U X l A K I => pl_ rfl (cd_ (a := (i1 : Int)) (b := a2) rfl (A.u 0 rfl rfl rfl) (A.u 1 rfl rfl rfl) (fn rfl rfl I)), fun vs f w U X l A K I => pl_ rfl (aw_ (v := (vb ((i1 : Int) != a2))) rfl (A.u 2 rfl rfl rfl) (fn rfl rfl I)), fun vs f w U X l A K I => sk_ rfl (A.u 3 rfl rfl rfl) hc7 (fn rfl rfl I), fun vs f w U X l A K I => sk_ rfl (A.u 3 rfl rfl rfl) hc7 (fn rfl rfl I), fun vs f w U X l A K I => sk_ rfl (A.u 3 rfl rfl rfl) hc7 (fn rfl rfl I), fun vs f w U X l A K I => sk_ rfl (A.u 3 rfl rfl rfl) hc7 (fn rfl rfl I), fun vs f w U X l A K I => sk_ rfl (A.u 3 rfl rfl rfl) hc7 (fn rfl rfl I), fun vs f w U X l A K I => sk_ rfl (A.u 3 rfl rfl rfl) hc7 (fn rfl rfl I), fun vs f w U X l A K I => sk_ rfl (A.u 3 rfl rfl rfl) hc7 (fn rfl rfl I), fun vs f w U X l A K I => sk_ rfl (A.u 3 rfl rfl rfl) hc7 (fn rfl rfl I), fun vs f w U X l A K I => sk_ rfl (A.u 3 rfl rfl rfl) hc7 (fn rfl rfl I), fun vs f w U X l A K I => sk_ rfl (A.u 3 rfl rfl rfl) hc7 (fn rfl rfl I), ?_, trivial⟩ ?_
   ·
    intro vs f w_ U X le A K I
    refine pl_ rfl (aq_ (c := (i1 : Int) != a2) (b := (vb false)) rfl (A.u 3 rfl rfl rfl) hc7 rfl (fn rfl rfl I))
   intro vs128 f w137 S131 ed12 le131 hF8 hK128 hI129
   have e63 : f 0 = (Value.slice z1 m1 k1) := (hK128 0 (au_ rfl)).trans e51
   have e64 : f 1 = (Value.slice z2 m2 k2) := (hK128 1 (au_ rfl)).trans e52
   have e65 : f 2 = (vi a2) := (hK128 2 (au_ rfl)).trans e53
   have e66 : f 7 = (vi ((i1 : Int))) := (hK128 7 (au_ rfl)).trans e54
   have I140 : Inv w137 S131 (Fr) := hI129
   have q200 := hF8.u 14 rfl rfl rfl
   refine ak_ (b := false) q200 rfl (av_ (aa_ (wm_ rfl e66 (wo_ (bp_ (a := (i1 : Int)) (b := 1) rfl rfl rfl (wa_ (v := (vi (w64 ((i1 : Int) + 1)))) rfl rfl (ad_ ?_)))))))
   obtain rfl := sj h1
   exact ⟨_, rfl, _, (le99.trans le131), I140, e63, e64, e65, (bl_ hlt1 hk1), (ed12.trans ed10)⟩
  rintro s2 f w hs1 hI130
  obtain ⟨S132, le132, I141, e67, e68, e69, e70, ed13⟩ := hI130
  refine ab_ (ab_ (aa_ (wm_ rfl e70 (wm_ rfl e67 (wo_ (bb_ rfl Tryz.underlying55 rfl (h0_.mono le132) (wo_ (bg_ (a := (a0.length : Int)) (b := (a0.length : Int)) rfl rfl rfl (ad_ (ak_ (b := decide ((a0.length : Int) < (a0.length : Int))) rfl (gh_ _) (bj_ ?_)))))))))))
  exact ⟨s2, hs1, _, le132, I141, e67, e68, e69, ed13⟩
 rintro f w ⟨out1, rfl, S133, le133, I142, e71, e72, e73, ed14⟩
 have h := ds_ h
 refine ab_ (aa_ (wa_ (v := (vb true)) rfl rfl (ad_ (al_ ?_))))
 obtain rfl := sj h
 exact ⟨ed14, (vb true), (bq_ rfl rfl), _, [], le133, I142, rfl, rfl⟩
theorem kt_ {w : World} {S : PH} {Fr : List HP} {a0 : Riddle} {v0 : Value} {a1 : (List Aid)} {v1 : Value} {a2 : Int} {r : Bool} (hI : Inv w S (Fr)) (h0_ : RV S v0 a0) (h1_ : RV S v1 a1) (h : dy_ a0 a1 a2 = some r) :
    Calls Tryz.prog 8 [v0, v1, (Value.int .i64 (a2))].toArray w (cc_ S Fr (Value.bool (r))) := by
 unfold dy_ at h
 obtain ⟨c1, c2, c3, c4, e1, r1, r2, r3, r4⟩ := Riddle.inv h0_
 subst e1
 obtain ⟨z1, m1, k1, rfl⟩ := af_ r1
 obtain ⟨z2, m2, k2, rfl⟩ := af_ r2
 obtain ⟨z3, m3, k3, rfl⟩ := af_ r3
 obtain ⟨z4, m4, k4, rfl⟩ := af_ r4
 obtain ⟨z5, m5, k5, rfl⟩ := af_ h1_
 refine ar_ (n := 121) (vs := [(.agg #[(.slice z1 m1 k1), (.slice z2 m2 k2), (.slice z3 m3 k3), (.slice z4 m4 k4)]), (.slice z5 m5 k5), (vi a2)]) Tryz.func8 rfl rfl rfl (ab_ (aa_ (wo_ (bi_ (v := (.agg #[(.slice z1 m1 k1), (.slice z2 m2 k2), (.slice z3 m3 k3), (.slice z4 m4 k4)])) rfl hI rfl (fun g1 w1 I1 => ?_)))))
 obtain ⟨S1, le1, I2, p1⟩ := Inv.boxFreeze (x := a0) I1 (Riddle.rv (s := a0) r1 r2 r3 r4)
 refine wa_ (v := (vb false)) rfl rfl (ad_ (ab_ (ab_ (aa_ (wo_ (an_ (v := (pt_ g1)) (e := a0) rfl ii_ rfl (p1.at_ I2) (fun u2 hu2 => ?_)))))))
 obtain ⟨c9, c10, c11, c12, e12, r9, r10, r11, r12⟩ := Riddle.inv hu2
 subst e12
 obtain ⟨z10, m10, k10, rfl⟩ := af_ r9
 obtain ⟨z11, m11, k11, rfl⟩ := af_ r10
 obtain ⟨z12, m12, k12, rfl⟩ := af_ r11
 obtain ⟨z13, m13, k13, rfl⟩ := af_ r12
 obtain ⟨x4, hx4, h⟩ := bnd h
 refine wo_ (ap_ (vs := [(.agg #[(.slice z10 m10 k10), (.slice z11 m11 k11), (.slice z12 m12 k12), (.slice z13 m13 k13)])]) (r := (vb x4)) rfl ca9 rfl (fk_ rfl) I2 (fun Fr_ hF_ => law07_Large_ok hF_ (Riddle.rv (s := a0) r9 r10 r11 r12) hx4) (fun w5 I6 => (wm_ (v := (vb x4)) rfl rfl ?_)))
 rcases ifs h with ⟨hc3, h⟩ | ⟨hc3, h⟩
 ·
  refine ws_ rfl rfl hc3 (ws_ rfl rfl hc3 (ws_ rfl rfl hc3 (wo_ (ay_ (c := x4) (a := (vb true)) rfl rfl hc3 rfl (ad_ (ai_ (b := true) rfl rfl (ab_ (aa_ ?_))))))))
  obtain ⟨x5, hx5, h⟩ := bnd h
  refine wo_ (ap_ (vs := []) (r := (vb x5)) rfl ca10 rfl args0 I6 (fun Fr_ hF_ => gv_ hF_  hx5) (fun w6 I7 => (wa_ (v := (vb x5)) rfl rfl (ad_ (al_ ?_)))))
  obtain rfl := sj h
  exact ⟨rfl, (vb x5), (bq_ rfl rfl), _, [], le1, I7, rfl, rfl⟩
 refine wk_ rfl rfl hc3 (aw_ (v := (.slice z5 m5 k5)) rfl rfl (wk_ rfl rfl hc3 (bb_ rfl Tryz.underlying45 rfl (h1_.mono le1) (wk_ rfl rfl hc3 (mq_ (a := (a1.length : Int)) (b := 6) rfl rfl rfl (wo_ (aq_ (c := x4) (b := (vb (decide (6 < (a1.length : Int))))) rfl rfl hc3 rfl (ad_ ?_))))))))
 rcases ifs h with ⟨hc4, h⟩ | ⟨hc4, h⟩
 ·
  refine ai_ (b := decide (6 < (a1.length : Int))) rfl hc4 (ab_ (aa_ ?_))
  obtain ⟨x6, hx6, h⟩ := bnd h
  refine wo_ (ap_ (vs := []) (r := (vb x6)) rfl ca10 rfl args0 I6 (fun Fr_ hF_ => gv_ hF_  hx6) (fun w7 I8 => (wa_ (v := (vb x6)) rfl rfl (ad_ (al_ ?_)))))
  obtain rfl := sj h
  exact ⟨rfl, (vb x6), (bq_ rfl rfl), _, [], le1, I8, rfl, rfl⟩
 refine ak_ (b := decide (6 < (a1.length : Int))) rfl hc4 (av_ (ab_ (aa_ (wo_ (an_ (v := (pt_ g1)) (e := a0) rfl ii_ rfl (p1.at_ I6) (fun u3 hu3 => ?_))))))
 obtain ⟨c13, c14, c15, c16, e17, r13, r14, r15, r16⟩ := Riddle.inv hu3
 subst e17
 obtain ⟨z14, m14, k14, rfl⟩ := af_ r13
 obtain ⟨z15, m15, k15, rfl⟩ := af_ r14
 obtain ⟨z16, m16, k16, rfl⟩ := af_ r15
 obtain ⟨z17, m17, k17, rfl⟩ := af_ r16
 obtain ⟨x7, hx7, h⟩ := bnd h
 refine wo_ (bo_ (vs := [(.agg #[(.slice z14 m14 k14), (.slice z15 m15 k15), (.slice z16 m16 k16), (.slice z17 m17 k17)])]) rfl ca31 rfl (fk_ rfl) (law07_all_ok I6 (Riddle.rv (s := a0) r13 r14 r15 r16) hx7) (fun cv1 w8 S2 O1 le2 I9 hv1 => ?_))
 obtain ⟨z18, m18, k18, rfl, rfl⟩ := hv1
 refine wm_ (v := (Value.tuple #[(.slice z18 m18 k18), (vb x7.2)])) rfl rfl (wo_ (bc_ (v := (.slice z18 m18 k18)) rfl rfl rfl (wo_ (bc_ (v := (vb x7.2)) rfl rfl rfl (wa_ (v := (.slice z18 m18 k18)) rfl rfl (wa_ (v := (vb x7.2)) rfl rfl (ad_ (ab_ (aa_ (wo_ (an_ (v := (pt_ g1)) (e := a0) rfl ii_ rfl ((p1.mono le2).at_ I9) (fun u4 hu4 => ?_))))))))))))
 obtain ⟨c17, c18, c19, c20, e22, r17, r18, r19, r20⟩ := Riddle.inv hu4
 subst e22
 obtain ⟨z19, m19, k19, rfl⟩ := af_ r17
 obtain ⟨z20, m20, k20, rfl⟩ := af_ r18
 obtain ⟨z21, m21, k21, rfl⟩ := af_ r19
 obtain ⟨z22, m22, k22, rfl⟩ := af_ r20
 refine wm_ (v := (.slice z5 m5 k5)) rfl rfl (wm_ (v := (vi a2)) rfl rfl ?_)
 obtain ⟨x8, hx8, h⟩ := bnd h
 refine wo_ (bo_ (vs := [(.agg #[(.slice z19 m19 k19), (.slice z20 m20 k20), (.slice z21 m21 k21), (.slice z22 m22 k22)]), (.slice z5 m5 k5), (vi a2)]) rfl ca21 rfl (cu_ rfl rfl rfl) (hints_Ladder_ok I9 (Riddle.rv (s := a0) r17 r18 r19 r20) (h1_.mono (le1.trans le2)) hx8) (fun cv2 w9 S3 O2 le3 I10 hv2 => ?_))
 obtain ⟨z23, m23, k23, rfl, rfl⟩ := hv2
 refine wm_ (v := (Value.tuple #[(.slice z23 m23 k23), (vi x8.2)])) rfl rfl (wo_ (bc_ (v := (.slice z23 m23 k23)) rfl rfl rfl (wo_ (bc_ (v := (vi x8.2)) rfl rfl rfl (wa_ (v := (.slice z23 m23 k23)) rfl rfl (wa_ (v := (vi x8.2)) rfl rfl (ad_ (ab_ (ab_ (aa_ (wm_ (v := (vb x7.2)) rfl rfl (wo_ (bz_ (b := x7.2) rfl rfl (wm_ (v := (vb (!x7.2))) rfl rfl ?_))))))))))))))
 rcases ifs h with ⟨hc7, h⟩ | ⟨hc7, h⟩
 ·
  refine ws_ rfl rfl hc7 (ws_ rfl rfl hc7 (wo_ (ay_ (c := !x7.2) (a := (vb true)) rfl rfl hc7 rfl (ad_ (ai_ (b := true) rfl rfl (ab_ (aa_ ?_)))))))
  obtain ⟨x11, hx11, h⟩ := bnd h
  refine wo_ (ap_ (vs := []) (r := (vb x11)) rfl ca10 rfl args0 I10 (fun Fr_ hF_ => gv_ hF_  hx11) (fun w12 I13 => (wa_ (v := (vb x11)) rfl rfl (ad_ (al_ ?_)))))
  obtain rfl := sj h
  exact ⟨rfl, (vb x11), (bq_ rfl rfl), _, [], ((le1.trans le2).trans le3), ((I13).drop).drop, rfl, rfl⟩
 refine wk_ rfl rfl hc7 (aw_ (v := (vi x8.2)) rfl rfl (wk_ rfl rfl hc7 (cd_ (a := x8.2) (b := 0) rfl rfl rfl (wo_ (aq_ (c := !x7.2) (b := (vb (x8.2 != 0))) rfl rfl hc7 rfl (ad_ ?_))))))
 rcases ifs h with ⟨hc8, h⟩ | ⟨hc8, h⟩
 ·
  refine ai_ (b := x8.2 != 0) rfl hc8 (ab_ (aa_ ?_))
  obtain ⟨x12, hx12, h⟩ := bnd h
  refine wo_ (ap_ (vs := []) (r := (vb x12)) rfl ca10 rfl args0 I10 (fun Fr_ hF_ => gv_ hF_  hx12) (fun w13 I14 => (wa_ (v := (vb x12)) rfl rfl (ad_ (al_ ?_)))))
  obtain rfl := sj h
  exact ⟨rfl, (vb x12), (bq_ rfl rfl), _, [], ((le1.trans le2).trans le3), ((I14).drop).drop, rfl, rfl⟩
 refine ak_ (b := x8.2 != 0) rfl hc8 (av_ (ab_ (ab_ (aa_ (wa_ (v := (vi 0)) rfl rfl (ad_ ?_))))))
 obtain ⟨x181, hx181, h⟩ := bnd h
 obtain ⟨o8, hrun4, h⟩ := bnd h
 refine bs_ (fun f w => ∃ out4, o8 = Sum.inl out4 ∧ ∃ (S_ : PH), S3.Le S_ ∧ Inv w S_ (Row (α := (List (List Int))) 23 (.slice z18 m18 k18) (x7.1) :: Fr) ∧ f 1 = (.slice z5 m5 k5) ∧ f 2 = (vi a2) ∧ f 3 = (pt_ g1) ∧ f 7 = (.slice z18 m18 k18) ∧ f.ds = []) ?_ ?_
 ·
  refine ax_ ?_
  refine eh_ (I := fun (i1 : Nat) (s4 : Unit) (f : Frm) (w : World) => ∃ (S_ : PH), S3.Le S_ ∧ Inv w S_ (Row (α := (List (List Int))) 23 (.slice z18 m18 k18) (x7.1) :: Fr) ∧ f 1 = (.slice z5 m5 k5) ∧ f 2 = (vi a2) ∧ f 3 = (pt_ g1) ∧ f 7 = (.slice z18 m18 k18) ∧ f 11 = (vi (i1 : Int)) ∧ f.ds = []) hrun4 ⟨_, lr, (I10).drop, rfl, rfl, rfl, rfl, rfl, rfl⟩ ?_ ?_
  ·
   rintro i1 s4 f w o7 hlt1 hI256 h93 hout4
   obtain ⟨S360, le360, I573, e1380, e1381, e1382, e1383, e1384, ed70⟩ := hI256
   refine ab_ (ab_ (aa_ (wm_ rfl e1384 (wo_ (bg_ (a := (i1 : Int)) (b := 2) rfl rfl rfl (ad_ (ai_ (b := decide ((i1 : Int) < 2)) rfl (cnt_t hx181 hlt1) (av_ (ab_ (ax_ (ab_ (aa_ (wo_ (an_ (v := (pt_ g1)) (e := a0) rfl ii_ e1382 ((p1.mono ((le2.trans le3).trans le360)).at_ I573) (fun u71 hu71 => ?_)))))))))))))))
   obtain ⟨c705, c706, c707, c708, e1385, r840, r841, r842, r843⟩ := Riddle.inv hu71
   subst e1385
   obtain ⟨z675, m675, k675, rfl⟩ := af_ r840
   obtain ⟨z676, m676, k676, rfl⟩ := af_ r841
   obtain ⟨z677, m677, k677, rfl⟩ := af_ r842
   obtain ⟨z678, m678, k678, rfl⟩ := af_ r843
   refine wo_ (ca_ (z := (.agg #[(.slice none 0 0), (.slice none 0 0), (.slice none 0 0), (.slice none 0 0)])) rfl I573 zo27 (fun g5 w462 (I574 : Inv w462 S360 (ao_ g5 27 #[(.slice none 0 0), (.slice none 0 0), (.slice none 0 0), (.slice none 0 0)] :: Row (α := (List (List Int))) 23 (.slice z18 m18 k18) (x7.1) :: Fr)) => (wo_ (bd_ (v := (.agg #[(.slice z675 m675 k675), (.slice z676 m676 k676), (.slice z677 m677 k677), (.slice z678 m678 k678)])) (cs := #[(.slice none 0 0), (.slice none 0 0), (.slice none 0 0), (.slice none 0 0)]) ii_ I574 rfl rfl rfl nb rfl (fun w463 (I575 : Inv w463 S360 (ao_ g5 27 #[(.slice z675 m675 k675), (.slice z676 m676 k676), (.slice z677 m677 k677), (.slice z678 m678 k678)] :: Row (α := (List (List Int))) 23 (.slice z18 m18 k18) (x7.1) :: Fr)) => (ad_ (ab_ (aa_ (wa_ (v := (vi 0)) rfl rfl (ad_ ?_))))))))))
   obtain ⟨o10, hrun5, h93⟩ := bnd h93
   refine bs_ (fun f w => ∃ out5, o10 = Sum.inl out5 ∧ ∃ (S_ : PH) (z861 : Option Addr) (m861 k861 : Nat) (z862 : Option Addr) (m862 k862 : Nat) (z863 : Option Addr) (m863 k863 : Nat) (z864 : Option Addr) (m864 k864 : Nat), S360.Le S_ ∧ Inv w S_ (Row (α := (List (List Int))) 23 (.slice z18 m18 k18) (x7.1) :: ao_ g5 27 #[(.slice z861 m861 k861), (.slice z862 m862 k862), (.slice z863 m863 k863), (.slice z864 m864 k864)] :: Fr) ∧ f 1 = (.slice z5 m5 k5) ∧ f 2 = (vi a2) ∧ f 3 = (pt_ g1) ∧ f 7 = (.slice z18 m18 k18) ∧ f 11 = (vi (i1 : Int)) ∧ f 12 = (pt_ g5) ∧ f 13 = (vi out5.2.2.2.2) ∧ RV S_ (.slice z861 m861 k861) out5.1 ∧ RV S_ (.slice z862 m862 k862) out5.2.1 ∧ RV S_ (.slice z863 m863 k863) out5.2.2.1 ∧ RV S_ (.slice z864 m864 k864) out5.2.2.2.1 ∧ f.ds = []) ?_ ?_
   ·
    refine ax_ ?_
    refine hv_ (I := fun (s5 : ((List CodeLock) × (List (List Int)) × (List (List Clue)) × (List Tie) × Int)) (f : Frm) (w : World) => ∃ (S_ : PH) (z857 : Option Addr) (m857 k857 : Nat) (z858 : Option Addr) (m858 k858 : Nat) (z859 : Option Addr) (m859 k859 : Nat) (z860 : Option Addr) (m860 k860 : Nat), S360.Le S_ ∧ Inv w S_ (Row (α := (List (List Int))) 23 (.slice z18 m18 k18) (x7.1) :: ao_ g5 27 #[(.slice z857 m857 k857), (.slice z858 m858 k858), (.slice z859 m859 k859), (.slice z860 m860 k860)] :: Fr) ∧ f 1 = (.slice z5 m5 k5) ∧ f 2 = (vi a2) ∧ f 3 = (pt_ g1) ∧ f 7 = (.slice z18 m18 k18) ∧ f 11 = (vi (i1 : Int)) ∧ f 12 = (pt_ g5) ∧ f 13 = (vi s5.2.2.2.2) ∧ RV S_ (.slice z857 m857 k857) s5.1 ∧ RV S_ (.slice z858 m858 k858) s5.2.1 ∧ RV S_ (.slice z859 m859 k859) s5.2.2.1 ∧ RV S_ (.slice z860 m860 k860) s5.2.2.2.1 ∧ f.ds = []) hrun5 ⟨_, _, _, _, _, _, _, _, _, _, _, _, _, lr, (I575.pull 1), e1380, e1381, e1382, e1383, e1384, rfl, rfl, r840, r841, r842, r843, ed70⟩ ?_
    rintro s5 f w o9 hI329 h119 hout5
    obtain ⟨S461, z857, m857, k857, z858, m858, k858, z859, m859, k859, z860, m860, k860, le461, I732, e1762, e1763, e1764, e1765, e1766, e1767, e1768, r1070, r1071, r1072, r1073, ed89⟩ := hI329
    refine ab_ (ax_ (ab_ (aa_ (wa_ (v := (vi 0)) rfl rfl (ad_ (ab_ (aa_ (wa_ (v := (vi 0)) rfl rfl (ad_ ?_)))))))))
    obtain ⟨v28, h122, h119⟩ := bnd h119
    refine mp_ (fun f w => Inv w S461 (Row (α := (List (List Int))) 23 (.slice z18 m18 k18) (x7.1) :: ao_ g5 27 #[(.slice z857 m857 k857), (.slice z858 m858 k858), (.slice z859 m859 k859), (.slice z860 m860 k860)] :: Fr) ∧ f 1 = (.slice z5 m5 k5) ∧ f 2 = (vi a2) ∧ f 3 = (pt_ g1) ∧ f 7 = (.slice z18 m18 k18) ∧ f 11 = (vi (i1 : Int)) ∧ f 12 = (pt_ g5) ∧ f 13 = (vi s5.2.2.2.2) ∧ f 14 = (vi v28.1) ∧ f 15 = (vi v28.2) ∧ f.ds = []) ?_ ?_
    ·
     refine ab_ (aa_ (wm_ rfl e1766 (wo_ (bn_ (a := (i1 : Int)) (b := 0) rfl rfl rfl (ad_ ?_)))))
     rcases ifs h122 with ⟨hc415, h122⟩ | ⟨hc415, h122⟩
     ·
      refine ai_ (b := (i1 : Int) == 0) rfl hc415 (aa_ (wo_ (cz_ (l := [(.slice z857 m857 k857), (.slice z858 m858 k858), (.slice z859 m859 k859), (.slice z860 m860 k860)]) rfl ii_ (I732.nth 1 rfl) e1767 rfl rfl (wm_ rfl e1762 (wm_ rfl e1763 ?_)))))
      obtain ⟨x232, hx232, h122⟩ := bnd h122
      refine wo_ (ap_ (vs := [(.agg #[(.slice z857 m857 k857), (.slice z858 m858 k858), (.slice z859 m859 k859), (.slice z860 m860 k860)]), (.slice z5 m5 k5), (vi a2)]) (r := (Value.tuple #[(vi x232.1), (vi x232.2)])) rfl ca25 rfl (cu_ rfl rfl rfl) I732 (fun Fr_ hF_ => hints_Gentle_ok hF_ (Riddle.rv (s := (⟨s5.1, s5.2.1, s5.2.2.1, s5.2.2.2.1⟩ : Riddle)) r1070 r1071 r1072 r1073) (h1_.mono ((((le1.trans le2).trans le3).trans le360).trans le461)) hx232) (fun w592 I735 => (wm_ (v := (Value.tuple #[(vi x232.1), (vi x232.2)])) rfl rfl (wo_ (bc_ (v := (vi x232.1)) rfl rfl rfl (wo_ (bc_ (v := (vi x232.2)) rfl rfl rfl (wa_ (v := (vi x232.1)) rfl rfl (wa_ (v := (vi x232.2)) rfl rfl (ad_ ?_))))))))))
      obtain rfl := sj h122
      exact ⟨((I735.pull 1).pull 1), e1762, e1763, e1764, e1765, e1766, e1767, e1768, rfl, rfl, ed89⟩
     refine ak_ (b := (i1 : Int) == 0) rfl hc415 (aa_ (wo_ (cz_ (l := [(.slice z857 m857 k857), (.slice z858 m858 k858), (.slice z859 m859 k859), (.slice z860 m860 k860)]) rfl ii_ (I732.nth 1 rfl) e1767 rfl rfl (wm_ rfl e1762 (wm_ rfl e1763 ?_)))))
     obtain ⟨x233, hx233, h122⟩ := bnd h122
     refine wo_ (ap_ (vs := [(.agg #[(.slice z857 m857 k857), (.slice z858 m858 k858), (.slice z859 m859 k859), (.slice z860 m860 k860)]), (.slice z5 m5 k5), (vi a2)]) (r := (Value.tuple #[(vi x233.1), (vi x233.2)])) rfl ca27 rfl (cu_ rfl rfl rfl) I732 (fun Fr_ hF_ => hints_Strong_ok hF_ (Riddle.rv (s := (⟨s5.1, s5.2.1, s5.2.2.1, s5.2.2.2.1⟩ : Riddle)) r1070 r1071 r1072 r1073) (h1_.mono ((((le1.trans le2).trans le3).trans le360).trans le461)) hx233) (fun w593 I736 => (wm_ (v := (Value.tuple #[(vi x233.1), (vi x233.2)])) rfl rfl (wo_ (bc_ (v := (vi x233.1)) rfl rfl rfl (wo_ (bc_ (v := (vi x233.2)) rfl rfl rfl (wa_ (v := (vi x233.1)) rfl rfl (wa_ (v := (vi x233.2)) rfl rfl (ad_ ?_))))))))))
     obtain rfl := sj h122
     exact ⟨((I736.pull 1).pull 1), e1762, e1763, e1764, e1765, e1766, e1767, e1768, rfl, rfl, ed89⟩
    rintro f w ⟨I737, e1769, e1770, e1771, e1772, e1773, e1774, e1775, e1776, e1777, ed90⟩
    refine ab_ (ab_ (aa_ (wm_ rfl e1777 (wo_ (bn_ (a := v28.2) (b := 3) rfl rfl rfl (ad_ ?_))))))
    rcases ifs h119 with ⟨hc416, h119⟩ | ⟨hc416, h119⟩
    ·
     refine ai_ (b := v28.2 == 3) rfl hc416 (bj_ ?_)
     obtain rfl := sj h119
     obtain rfl := (hout5 _ rfl)
     exact ⟨_, rfl, _, _, _, _, _, _, _, _, _, _, _, _, _, le461, ((I737.pull 1).pull 1), e1769, e1770, e1771, e1772, e1773, e1774, e1775, r1070, r1071, r1072, r1073, ed90⟩
    refine ak_ (b := v28.2 == 3) rfl hc416 (av_ (ab_ (ab_ (aa_ (wm_ rfl e1777 (wo_ (cd_ (a := v28.2) (b := 0) rfl rfl rfl (wm_ (v := (vb (v28.2 != 0))) rfl rfl ?_))))))))
    rcases ifs h119 with ⟨hc421, h119⟩ | ⟨hc421, h119⟩
    ·
     refine ws_ rfl rfl hc421 (ws_ rfl rfl hc421 (wo_ (ay_ (c := v28.2 != 0) (a := (vb true)) rfl rfl hc421 rfl (wm_ (v := (vb true)) rfl rfl (ws_ (c := true) rfl rfl rfl (ws_ (c := true) rfl rfl rfl (ws_ (c := true) rfl rfl rfl (ws_ (c := true) rfl rfl rfl (wo_ (ay_ (c := true) (a := (vb true)) rfl rfl rfl rfl (wm_ (v := (vb true)) rfl rfl (ws_ (c := true) rfl rfl rfl (ws_ (c := true) rfl rfl rfl (wo_ (ay_ (c := true) (a := (vb true)) rfl rfl rfl rfl (ad_ (ai_ (b := true) rfl rfl (ab_ (aa_ (wa_ (v := (vb false)) rfl rfl (ad_ (al_ ?_))))))))))))))))))))))
     obtain rfl := sj h119
     obtain rfl := (hout5 _ rfl)
     have h120 := h93
     obtain rfl := sj h120
     obtain rfl := (hout4 _ rfl)
     have h94 := h
     obtain rfl := sj h94
     exact ⟨ed90, (vb false), (bq_ rfl rfl), _, [], ((((le1.trans le2).trans le3).trans le360).trans le461), ((I737).drop).drop, rfl, rfl⟩
    refine wk_ rfl rfl hc421 (aw_ (v := (vi v28.1)) rfl e1776 (wk_ rfl rfl hc421 (bg_ (a := v28.1) (b := 0) rfl rfl rfl (wo_ (aq_ (c := v28.2 != 0) (b := (vb (decide (v28.1 < 0)))) rfl rfl hc421 rfl (wm_ (v := (vb (decide (v28.1 < 0)))) rfl rfl ?_))))))
    rcases ifs h119 with ⟨hc422, h119⟩ | ⟨hc422, h119⟩
    ·
     refine ws_ rfl rfl hc422 (ws_ rfl rfl hc422 (ws_ rfl rfl hc422 (ws_ rfl rfl hc422 (wo_ (ay_ (c := decide (v28.1 < 0)) (a := (vb true)) rfl rfl hc422 rfl (wm_ (v := (vb true)) rfl rfl (ws_ (c := true) rfl rfl rfl (ws_ (c := true) rfl rfl rfl (wo_ (ay_ (c := true) (a := (vb true)) rfl rfl rfl rfl (ad_ (ai_ (b := true) rfl rfl (ab_ (aa_ (wa_ (v := (vb false)) rfl rfl (ad_ (al_ ?_)))))))))))))))))
     obtain rfl := sj h119
     obtain rfl := (hout5 _ rfl)
     have h120 := h93
     obtain rfl := sj h120
     obtain rfl := (hout4 _ rfl)
     have h94 := h
     obtain rfl := sj h94
     exact ⟨ed90, (vb false), (bq_ rfl rfl), _, [], ((((le1.trans le2).trans le3).trans le360).trans le461), ((I737).drop).drop, rfl, rfl⟩
    refine wk_ rfl rfl hc422 (aw_ (v := (vi v28.1)) rfl e1776 (wk_ rfl rfl hc422 (aw_ (v := (.slice z5 m5 k5)) rfl e1769 (wk_ rfl rfl hc422 (bb_ rfl Tryz.underlying45 rfl (h1_.mono ((((le1.trans le2).trans le3).trans le360).trans le461)) (wk_ rfl rfl hc422 (lw_ (a := v28.1) (b := (a1.length : Int)) rfl rfl rfl (wo_ (aq_ (c := decide (v28.1 < 0)) (b := (vb (decide ((a1.length : Int) ≤ v28.1)))) rfl rfl hc422 rfl (wm_ (v := (vb (decide ((a1.length : Int) ≤ v28.1)))) rfl rfl ?_))))))))))
    rcases ifs h119 with ⟨hc423, h119⟩ | ⟨hc423, h119⟩
    ·
     refine ws_ rfl rfl hc423 (ws_ rfl rfl hc423 (wo_ (ay_ (c := decide ((a1.length : Int) ≤ v28.1)) (a := (vb true)) rfl rfl hc423 rfl (ad_ (ai_ (b := true) rfl rfl (ab_ (aa_ (wa_ (v := (vb false)) rfl rfl (ad_ (al_ ?_))))))))))
     obtain rfl := sj h119
     obtain rfl := (hout5 _ rfl)
     have h120 := h93
     obtain rfl := sj h120
     obtain rfl := (hout4 _ rfl)
     have h94 := h
     obtain rfl := sj h94
     exact ⟨ed90, (vb false), (bq_ rfl rfl), _, [], ((((le1.trans le2).trans le3).trans le360).trans le461), ((I737).drop).drop, rfl, rfl⟩
    refine wk_ rfl rfl hc423 (aw_ (v := (vi s5.2.2.2.2)) rfl e1775 (wk_ rfl rfl hc423 (mq_ (a := s5.2.2.2.2) (b := 300) rfl rfl rfl (wo_ (aq_ (c := decide ((a1.length : Int) ≤ v28.1)) (b := (vb (decide (300 < s5.2.2.2.2)))) rfl rfl hc423 rfl (ad_ ?_))))))
    rcases ifs h119 with ⟨hc424, h119⟩ | ⟨hc424, h119⟩
    ·
     refine ai_ (b := decide (300 < s5.2.2.2.2)) rfl hc424 (ab_ (aa_ (wa_ (v := (vb false)) rfl rfl (ad_ (al_ ?_)))))
     obtain rfl := sj h119
     obtain rfl := (hout5 _ rfl)
     have h120 := h93
     obtain rfl := sj h120
     obtain rfl := (hout4 _ rfl)
     have h94 := h
     obtain rfl := sj h94
     exact ⟨ed90, (vb false), (bq_ rfl rfl), _, [], ((((le1.trans le2).trans le3).trans le360).trans le461), ((I737).drop).drop, rfl, rfl⟩
    refine ak_ (b := decide (300 < s5.2.2.2.2)) rfl hc424 (av_ (ab_ ?_))
    obtain ⟨x234, hx234, h119⟩ := bnd h119
    obtain ⟨x235, hx235, h119⟩ := bnd h119
    refine bm_ (sps := [⟨some 87, [], [0], fun vs_ T_ => fr0 vs_ 0 = (.agg #[(.slice z857 m857 k857), (.slice z858 m858 k858), (.slice z859 m859 k859), (.slice z860 m860 k860)]), [0], [], [], fun _ h_ => h_⟩, spV 88 [] 1 (.slice z5 m5 k5), spV 89 [] 2 (vi v28.1), spV 90 [1, 2] 3 (ah_ (.slice z5 m5 k5) (v28.1) (Enc.sz Aid)), spR 91 [1, 2, 3] 4 x234, ⟨some 92, [0, 1, 2, 3, 4], [5], fun vs_ T_ => ∃ (c0_ : Value), fr0 vs_ 0 = (Value.tuple #[c0_, (vi x235.2)]) ∧ RV T_ c0_ x235.1, [], [], [], fun hle_ h_ => by obtain ⟨c0_, e_, r0_⟩ := h_; exact ⟨c0_, e_, r0_.mono hle_⟩⟩, spW 86 (lrg 6) [6, 5] fun vs_ => (Value.tuple #[(lo_ (fr0 vs_ 1) 0), (vi x235.2)]), spW 93 (lrg 7) [7, 5] fun vs_ => (lo_ (fr0 vs_ 1) 0), spV 94 (lrg 7) 8 (vi x235.2), ⟨none, (lrg 8), [], fun vs_ T_ => True, [], [0], [1], fun _ h_ => h_⟩, spV 15 (lrg 10) 10 (vi x235.2)]) (tks := [⟨none, some 9, [], fun vs_ => ao_ g5 27 #[(.slice z857 m857 k857), (.slice z858 m858 k858), (.slice z859 m859 k859), (.slice z860 m860 k860)]⟩, ⟨some 9, none, [5], fun vs_ => ao_ g5 27 #[(fq_ (lo_ (fr0 vs_ 0) 0) 0), (fq_ (lo_ (fr0 vs_ 0) 0) 1), (fq_ (lo_ (fr0 vs_ 0) 0) 2), (fq_ (lo_ (fr0 vs_ 0) 0) 3)]⟩]) (O := Row (α := (List (List Int))) 23 (.slice z18 m18 k18) (x7.1) :: Fr) rfl (by kernel_rfl) (I737.pull 1) ⟨?_, fun vs f w U X l A K I => pl_ rfl (aw_ (v := (.slice z5 m5 k5)) rfl ((K 1 (am_ rfl)).trans e1769) (fn rfl rfl I)), fun vs f w U X l A K I => pl_ rfl (aw_ (v := (vi v28.1)) rfl ((K 14 (am_ rfl)).trans e1776) (fn rfl rfl I)), fun vs f w U X l A K I => pl_ rfl (aj_ (v := (.slice z5 m5 k5)) (i := v28.1) (e := x234) rfl Tryz.underlying45 sh32 (A.u 0 rfl rfl rfl) (h1_.mono (((((le1.trans le2).trans le3).trans le360).trans le461).trans l)) (A.u 1 rfl rfl rfl) hx234 (fn rfl rfl I)), ?_, ?_, ?_, ?_, ?_, ?_, ?_, trivial⟩ ?_
    ·
     intro vs f w_ U X le A K I
     have I739 : Inv w_ U (ao_ g5 27 #[(Value.slice z857 m857 k857), (Value.slice z858 m858 k858), (Value.slice z859 m859 k859), (Value.slice z860 m860 k860)] :: X) := I
     refine pl_ rfl (cz_ (l := [(.slice z857 m857 k857), (.slice z858 m858 k858), (.slice z859 m859 k859), (.slice z860 m860 k860)]) rfl ii_ (I739.nth 0 rfl) ((K 12 (am_ rfl)).trans e1774) rfl rfl (fn rfl rfl I739))
    ·
     intro vs f w_ U X le A K I
     have q435 := A.u 2 rfl rfl rfl
     refine pl_ rfl (an_ (v := (ah_ (.slice z5 m5 k5) (v28.1) (Enc.sz Aid))) (e := x234) rfl sh32 q435 ((h1_.mono (((((le1.trans le2).trans le3).trans le360).trans le461).trans le)).elem I.in_ hx234) (fun u91 hu91 => ?_))
     obtain ⟨c901, e1778, r1078⟩ := Aid.inv hu91
     subst e1778
     obtain ⟨z865, m865, k865, rfl⟩ := af_ r1078
     refine ⟨_, _, rfl, lr, ?_, ?_⟩
     · exact (Aid.rv (s := x234) r1078)
     exact I
    ·
     intro vs f w_ U X le A K I
     have q436 := A.u 0 rfl rfl rfl
     have q437 : f 91 = vs 4 := (A.at_ 4 rfl _ rfl).1 _ rfl
     have r1079 : RV U (vs 4) x234 := (A.at_ 4 rfl _ rfl).2
     obtain ⟨u92, hu92⟩ : ∃ u, vs 4 = u := ⟨_, rfl⟩
     rw [hu92] at q437 r1079
     obtain ⟨c902, e1780, r1080⟩ := Aid.inv r1079
     subst e1780
     obtain ⟨z866, m866, k866, rfl⟩ := af_ r1080
     refine pl_ rfl (bo_ (vs := [(.agg #[(.slice z857 m857 k857), (.slice z858 m858 k858), (.slice z859 m859 k859), (.slice z860 m860 k860)]), (.agg #[(vi x234.Lock), (vi x234.Clue.Kind), (vi x234.Clue.A), (vi x234.Clue.B), (vi x234.Clue.N), (vi x234.Clue.M), (.slice z866 m866 k866), (vb x234.Clue.Not)])]) rfl ca11 rfl (bt_ q436 q437) (hints_Tell_ok I (Riddle.rv (s := (⟨s5.1, s5.2.1, s5.2.2.1, s5.2.2.2.1⟩ : Riddle)) (r1070.mono le) (r1071.mono le) (r1072.mono le) (r1073.mono le)) (Aid.rv (s := x234) r1080) hx235) (fun cv84 w601 S468 O84 le468 I745 hv84 => ?_))
     obtain ⟨c903, rfl, rfl, r1081⟩ := hv84
     obtain ⟨c904, c905, c906, c907, e1782, r1082, r1083, r1084, r1085⟩ := Riddle.inv r1081
     subst e1782
     obtain ⟨z867, m867, k867, rfl⟩ := af_ r1082
     obtain ⟨z868, m868, k868, rfl⟩ := af_ r1083
     obtain ⟨z869, m869, k869, rfl⟩ := af_ r1084
     obtain ⟨z870, m870, k870, rfl⟩ := af_ r1085
     refine ⟨_, _, rfl, le468, ?_, ?_⟩
     · exact ⟨_, rfl, (Riddle.rv (s := x235.1) r1082 r1083 r1084 r1085)⟩
     exact I745
    ·
     intro vs f w_ U X le A K I
     obtain ⟨c908, e1787, r1086⟩ := (A.at_ 5 rfl _ rfl).2
     obtain ⟨c909, c910, c911, c912, e1788, r1087, r1088, r1089, r1090⟩ := Riddle.inv r1086
     subst e1788
     obtain ⟨z871, m871, k871, rfl⟩ := af_ r1087
     obtain ⟨z872, m872, k872, rfl⟩ := af_ r1088
     obtain ⟨z873, m873, k873, rfl⟩ := af_ r1089
     obtain ⟨z874, m874, k874, rfl⟩ := af_ r1090
     have e1787 : vs 5 = (Value.tuple #[(Value.agg #[(Value.slice z871 m871 k871), (Value.slice z872 m872 k872), (Value.slice z873 m873 k873), (Value.slice z874 m874 k874)]), (vi x235.2)]) := e1787
     have q438 : f 92 = (Value.tuple #[(Value.agg #[(Value.slice z871 m871 k871), (Value.slice z872 m872 k872), (Value.slice z873 m873 k873), (Value.slice z874 m874 k874)]), (vi x235.2)]) := ((A.at_ 5 rfl _ rfl).1 _ rfl).trans e1787
     refine pl_ rfl (aw_ (v := (Value.tuple #[(.agg #[(.slice z871 m871 k871), (.slice z872 m872 k872), (.slice z873 m873 k873), (.slice z874 m874 k874)]), (vi x235.2)])) rfl q438 (⟨_, _, rfl, lr, ?_, ?_⟩))
     ·
      show (Value.tuple #[(Value.agg #[(Value.slice z871 m871 k871), (Value.slice z872 m872 k872), (Value.slice z873 m873 k873), (Value.slice z874 m874 k874)]), (Value.int .i64 (x235.2))]) = (Value.tuple #[(lo_ (vs 5) 0), (Value.int .i64 (x235.2))])
      simp only [e1787] <;> rfl
     exact I
    ·
     intro vs f w_ U X le A K I
     obtain ⟨c913, e1793, r1091⟩ := (A.at_ 5 rfl _ rfl).2
     obtain ⟨c914, c915, c916, c917, e1794, r1092, r1093, r1094, r1095⟩ := Riddle.inv r1091
     subst e1794
     obtain ⟨z875, m875, k875, rfl⟩ := af_ r1092
     obtain ⟨z876, m876, k876, rfl⟩ := af_ r1093
     obtain ⟨z877, m877, k877, rfl⟩ := af_ r1094
     obtain ⟨z878, m878, k878, rfl⟩ := af_ r1095
     have e1793 : vs 5 = (Value.tuple #[(Value.agg #[(Value.slice z875 m875 k875), (Value.slice z876 m876 k876), (Value.slice z877 m877 k877), (Value.slice z878 m878 k878)]), (vi x235.2)]) := e1793
     have q439 : f 92 = (Value.tuple #[(Value.agg #[(Value.slice z875 m875 k875), (Value.slice z876 m876 k876), (Value.slice z877 m877 k877), (Value.slice z878 m878 k878)]), (vi x235.2)]) := ((A.at_ 5 rfl _ rfl).1 _ rfl).trans e1793
     have q440 : f 86 = (Value.tuple #[(lo_ (vs 5) 0), (vi x235.2)]) := A.u 6 rfl rfl rfl
     simp only [e1793] at q440
     have q440 : f 86 = (Value.tuple #[(Value.agg #[(Value.slice z875 m875 k875), (Value.slice z876 m876 k876), (Value.slice z877 m877 k877), (Value.slice z878 m878 k878)]), (vi x235.2)]) := q440
     refine pl_ rfl (bc_ (v := (.agg #[(.slice z875 m875 k875), (.slice z876 m876 k876), (.slice z877 m877 k877), (.slice z878 m878 k878)])) rfl q440 rfl (⟨_, _, rfl, lr, ?_, ?_⟩))
     ·
      show (Value.agg #[(Value.slice z875 m875 k875), (Value.slice z876 m876 k876), (Value.slice z877 m877 k877), (Value.slice z878 m878 k878)]) = (lo_ (vs 5) 0)
      simp only [e1793] <;> rfl
     exact I
    ·
     intro vs f w_ U X le A K I
     obtain ⟨c918, e1799, r1096⟩ := (A.at_ 5 rfl _ rfl).2
     obtain ⟨c919, c920, c921, c922, e1800, r1097, r1098, r1099, r1100⟩ := Riddle.inv r1096
     subst e1800
     obtain ⟨z879, m879, k879, rfl⟩ := af_ r1097
     obtain ⟨z880, m880, k880, rfl⟩ := af_ r1098
     obtain ⟨z881, m881, k881, rfl⟩ := af_ r1099
     obtain ⟨z882, m882, k882, rfl⟩ := af_ r1100
     have e1799 : vs 5 = (Value.tuple #[(Value.agg #[(Value.slice z879 m879 k879), (Value.slice z880 m880 k880), (Value.slice z881 m881 k881), (Value.slice z882 m882 k882)]), (vi x235.2)]) := e1799
     have q441 : f 92 = (Value.tuple #[(Value.agg #[(Value.slice z879 m879 k879), (Value.slice z880 m880 k880), (Value.slice z881 m881 k881), (Value.slice z882 m882 k882)]), (vi x235.2)]) := ((A.at_ 5 rfl _ rfl).1 _ rfl).trans e1799
     have q442 : f 86 = (Value.tuple #[(lo_ (vs 5) 0), (vi x235.2)]) := A.u 6 rfl rfl rfl
     simp only [e1799] at q442
     have q442 : f 86 = (Value.tuple #[(Value.agg #[(Value.slice z879 m879 k879), (Value.slice z880 m880 k880), (Value.slice z881 m881 k881), (Value.slice z882 m882 k882)]), (vi x235.2)]) := q442
     refine pl_ rfl (bc_ (v := (vi x235.2)) rfl q442 rfl (fn rfl rfl I))
    ·
     intro vs f w_ U X le A K I
     have I749 : Inv w_ U (ao_ g5 27 #[(Value.slice z857 m857 k857), (Value.slice z858 m858 k858), (Value.slice z859 m859 k859), (Value.slice z860 m860 k860)] :: X) := I
     obtain ⟨c923, e1805, r1101⟩ := (A.at_ 5 rfl _ rfl).2
     obtain ⟨c924, c925, c926, c927, e1806, r1102, r1103, r1104, r1105⟩ := Riddle.inv r1101
     subst e1806
     obtain ⟨z883, m883, k883, rfl⟩ := af_ r1102
     obtain ⟨z884, m884, k884, rfl⟩ := af_ r1103
     obtain ⟨z885, m885, k885, rfl⟩ := af_ r1104
     obtain ⟨z886, m886, k886, rfl⟩ := af_ r1105
     have e1805 : vs 5 = (Value.tuple #[(Value.agg #[(Value.slice z883 m883 k883), (Value.slice z884 m884 k884), (Value.slice z885 m885 k885), (Value.slice z886 m886 k886)]), (vi x235.2)]) := e1805
     have q443 : f 92 = (Value.tuple #[(Value.agg #[(Value.slice z883 m883 k883), (Value.slice z884 m884 k884), (Value.slice z885 m885 k885), (Value.slice z886 m886 k886)]), (vi x235.2)]) := ((A.at_ 5 rfl _ rfl).1 _ rfl).trans e1805
     have q444 : f 86 = (Value.tuple #[(lo_ (vs 5) 0), (vi x235.2)]) := A.u 6 rfl rfl rfl
     simp only [e1805] at q444
     have q444 : f 86 = (Value.tuple #[(Value.agg #[(Value.slice z883 m883 k883), (Value.slice z884 m884 k884), (Value.slice z885 m885 k885), (Value.slice z886 m886 k886)]), (vi x235.2)]) := q444
     have q445 : f 93 = (lo_ (vs 5) 0) := A.u 7 rfl rfl rfl
     simp only [e1805] at q445
     have q445 : f 93 = (Value.agg #[(Value.slice z883 m883 k883), (Value.slice z884 m884 k884), (Value.slice z885 m885 k885), (Value.slice z886 m886 k886)]) := q445
     refine pl_ rfl (bd_ (v := (.agg #[(.slice z883 m883 k883), (.slice z884 m884 k884), (.slice z885 m885 k885), (.slice z886 m886 k886)])) (cs := #[(.slice z857 m857 k857), (.slice z858 m858 k858), (.slice z859 m859 k859), (.slice z860 m860 k860)]) ii_ I749 ((K 12 (am_ rfl)).trans e1774) q445 rfl nb rfl (fun w606 (I750 : Inv w606 U (ao_ g5 27 #[(.slice z883 m883 k883), (.slice z884 m884 k884), (.slice z885 m885 k885), (.slice z886 m886 k886)] :: X)) => (⟨undef, _, rfl, lr, ?_, ?_⟩)))
     · exact trivial
     show Inv _ _ (ao_ g5 27 #[(fq_ (lo_ (vs 5) 0) 0), (fq_ (lo_ (vs 5) 0) 1), (fq_ (lo_ (vs 5) 0) 2), (fq_ (lo_ (vs 5) 0) 3)] :: X)
     simp only [e1805]
     exact I750
    ·
     intro vs f w_ U X le A K I
     refine pl_ rfl (cf_ (v := (vi x235.2)) rfl (A.u 8 rfl rfl rfl) (fn rfl rfl I))
    intro vs336 f w608 S474 ed91 le474 hF28 hK336 hI341
    have e1811 : f 1 = (Value.slice z5 m5 k5) := (hK336 1 (au_ rfl)).trans e1769
    have e1812 : f 2 = (vi a2) := (hK336 2 (au_ rfl)).trans e1770
    have e1813 : f 3 = (pt_ g1) := (hK336 3 (au_ rfl)).trans e1771
    have e1814 : f 7 = (Value.slice z18 m18 k18) := (hK336 7 (au_ rfl)).trans e1772
    have e1815 : f 11 = (vi ((i1 : Int))) := (hK336 11 (au_ rfl)).trans e1773
    have e1816 : f 12 = (pt_ g5) := (hK336 12 (au_ rfl)).trans e1774
    have e1817 : f 13 = (vi s5.2.2.2.2) := (hK336 13 (au_ rfl)).trans e1775
    have I752 : Inv w608 S474 (ao_ g5 27 #[(fq_ (lo_ (vs336 5) 0) 0), (fq_ (lo_ (vs336 5) 0) 1), (fq_ (lo_ (vs336 5) 0) 2), (fq_ (lo_ (vs336 5) 0) 3)] :: Row (α := (List (List Int))) 23 (Value.slice z18 m18 k18) (x7.1) :: Fr) := hI341
    obtain ⟨c928, e1818, r1106⟩ := (hF28.at_ 5 rfl _ rfl).2
    obtain ⟨c929, c930, c931, c932, e1819, r1107, r1108, r1109, r1110⟩ := Riddle.inv r1106
    subst e1819
    obtain ⟨z887, m887, k887, rfl⟩ := af_ r1107
    obtain ⟨z888, m888, k888, rfl⟩ := af_ r1108
    obtain ⟨z889, m889, k889, rfl⟩ := af_ r1109
    obtain ⟨z890, m890, k890, rfl⟩ := af_ r1110
    have e1818 : vs336 5 = (Value.tuple #[(Value.agg #[(Value.slice z887 m887 k887), (Value.slice z888 m888 k888), (Value.slice z889 m889 k889), (Value.slice z890 m890 k890)]), (vi x235.2)]) := e1818
    have q447 : f 92 = (Value.tuple #[(Value.agg #[(Value.slice z887 m887 k887), (Value.slice z888 m888 k888), (Value.slice z889 m889 k889), (Value.slice z890 m890 k890)]), (vi x235.2)]) := ((hF28.at_ 5 rfl _ rfl).1 _ rfl).trans e1818
    have I753 := I752
    rw [e1818] at I753
    have q448 := hF28.u 10 rfl rfl rfl
    refine ab_ (aa_ (wo_ (cz_ (l := [(.slice z887 m887 k887), (.slice z888 m888 k888), (.slice z889 m889 k889), (.slice z890 m890 k890)]) rfl ii_ (I753.nth 0 rfl) e1816 rfl rfl ?_)))
    obtain ⟨x236, hx236, h119⟩ := bnd h119
    refine wo_ (bo_ (vs := [(.agg #[(.slice z887 m887 k887), (.slice z888 m888 k888), (.slice z889 m889 k889), (.slice z890 m890 k890)])]) rfl ca31 rfl (fk_ rfl) (law07_all_ok I753 (Riddle.rv (s := x235.1) r1107 r1108 r1109 r1110) hx236) (fun cv85 w609 S475 O85 le475 I754 hv85 => ?_))
    obtain ⟨z891, m891, k891, rfl, rfl⟩ := hv85
    refine wm_ (v := (Value.tuple #[(.slice z891 m891 k891), (vb x236.2)])) rfl rfl (wo_ (bc_ (v := (.slice z891 m891 k891)) rfl rfl rfl (wo_ (bc_ (v := (vb x236.2)) rfl rfl rfl (wa_ (v := (.slice z891 m891 k891)) rfl rfl (wa_ (v := (vb x236.2)) rfl rfl (ad_ (ab_ (aa_ (wm_ rfl q448 (wo_ (cd_ (a := x235.2) (b := 0) rfl rfl rfl (wm_ (v := (vb (x235.2 != 0))) rfl rfl ?_)))))))))))))
    rcases ifs h119 with ⟨hc425, h119⟩ | ⟨hc425, h119⟩
    ·
     refine ws_ rfl rfl hc425 (ws_ rfl rfl hc425 (wo_ (ay_ (c := x235.2 != 0) (a := (vb true)) rfl rfl hc425 rfl (wm_ (v := (vb true)) rfl rfl (ws_ (c := true) rfl rfl rfl (ws_ (c := true) rfl rfl rfl (ws_ (c := true) rfl rfl rfl (ws_ (c := true) rfl rfl rfl (ws_ (c := true) rfl rfl rfl (wo_ (ay_ (c := true) (a := (vb true)) rfl rfl rfl rfl (wm_ (v := (vb true)) rfl rfl (ws_ (c := true) rfl rfl rfl (ws_ (c := true) rfl rfl rfl (ws_ (c := true) rfl rfl rfl (ws_ (c := true) rfl rfl rfl (ws_ (c := true) rfl rfl rfl (wo_ (ay_ (c := true) (a := (vb true)) rfl rfl rfl rfl (ad_ (ai_ (b := true) rfl rfl (ab_ (aa_ (wa_ (v := (vb false)) rfl rfl (ad_ (al_ ?_))))))))))))))))))))))))))
     obtain rfl := sj h119
     obtain rfl := (hout5 _ rfl)
     have h120 := h93
     obtain rfl := sj h120
     obtain rfl := (hout4 _ rfl)
     have h94 := h
     obtain rfl := sj h94
     exact ⟨(ed91.trans ed90), (vb false), (bq_ rfl rfl), _, [], ((((((le1.trans le2).trans le3).trans le360).trans le461).trans le474).trans le475), (((I754).drop).drop).drop, rfl, rfl⟩
    refine wk_ rfl rfl hc425 (aw_ (v := (vb x236.2)) rfl rfl (wk_ rfl rfl hc425 (bz_ (b := x236.2) rfl rfl (wo_ (aq_ (c := x235.2 != 0) (b := (vb (!x236.2))) rfl rfl hc425 rfl (wm_ (v := (vb (!x236.2))) rfl rfl ?_))))))
    rcases ifs h119 with ⟨hc426, h119⟩ | ⟨hc426, h119⟩
    ·
     refine ws_ rfl rfl hc426 (ws_ rfl rfl hc426 (ws_ rfl rfl hc426 (ws_ rfl rfl hc426 (ws_ rfl rfl hc426 (wo_ (ay_ (c := !x236.2) (a := (vb true)) rfl rfl hc426 rfl (wm_ (v := (vb true)) rfl rfl (ws_ (c := true) rfl rfl rfl (ws_ (c := true) rfl rfl rfl (ws_ (c := true) rfl rfl rfl (ws_ (c := true) rfl rfl rfl (ws_ (c := true) rfl rfl rfl (wo_ (ay_ (c := true) (a := (vb true)) rfl rfl rfl rfl (ad_ (ai_ (b := true) rfl rfl (ab_ (aa_ (wa_ (v := (vb false)) rfl rfl (ad_ (al_ ?_)))))))))))))))))))))
     obtain rfl := sj h119
     obtain rfl := (hout5 _ rfl)
     have h120 := h93
     obtain rfl := sj h120
     obtain rfl := (hout4 _ rfl)
     have h94 := h
     obtain rfl := sj h94
     exact ⟨(ed91.trans ed90), (vb false), (bq_ rfl rfl), _, [], ((((((le1.trans le2).trans le3).trans le360).trans le461).trans le474).trans le475), (((I754).drop).drop).drop, rfl, rfl⟩
    refine wk_ rfl rfl hc426 (aw_ (v := (.slice z891 m891 k891)) rfl rfl (wk_ rfl rfl hc426 (hj_ (α := (List (List Int))) rfl Tryz.underlying55 rfl (I754.nth 0 rfl) (wk_ rfl rfl hc426 (aw_ (v := (.slice z18 m18 k18)) rfl e1814 (wk_ rfl rfl hc426 (hj_ (α := (List (List Int))) rfl Tryz.underlying55 rfl (I754.nth 2 rfl) (wk_ rfl rfl hc426 (cd_ (a := (x236.1.length : Int)) (b := (x7.1.length : Int)) rfl rfl rfl (wo_ (aq_ (c := !x236.2) (b := (vb ((x236.1.length : Int) != (x7.1.length : Int)))) rfl rfl hc426 rfl (wm_ (v := (vb ((x236.1.length : Int) != (x7.1.length : Int)))) rfl rfl ?_))))))))))))
    rcases ifs h119 with ⟨hc427, h119⟩ | ⟨hc427, h119⟩
    ·
     refine ws_ rfl rfl hc427 (ws_ rfl rfl hc427 (ws_ rfl rfl hc427 (ws_ rfl rfl hc427 (ws_ rfl rfl hc427 (wo_ (ay_ (c := (x236.1.length : Int) != (x7.1.length : Int)) (a := (vb true)) rfl rfl hc427 rfl (ad_ (ai_ (b := true) rfl rfl (ab_ (aa_ (wa_ (v := (vb false)) rfl rfl (ad_ (al_ ?_)))))))))))))
     obtain rfl := sj h119
     obtain rfl := (hout5 _ rfl)
     have h120 := h93
     obtain rfl := sj h120
     obtain rfl := (hout4 _ rfl)
     have h94 := h
     obtain rfl := sj h94
     exact ⟨(ed91.trans ed90), (vb false), (bq_ rfl rfl), _, [], ((((((le1.trans le2).trans le3).trans le360).trans le461).trans le474).trans le475), (((I754).drop).drop).drop, rfl, rfl⟩
    refine wk_ rfl rfl hc427 (aw_ (v := (.slice z18 m18 k18)) rfl e1814 (wk_ rfl rfl hc427 (aw_ (v := (.slice z891 m891 k891)) rfl rfl (wk_ rfl rfl hc427 (aw_ (v := (vi a2)) rfl e1812 ?_)))))
    obtain ⟨x237, hx237, h119⟩ := bnd h119
    obtain ⟨S476, Fr28, le476, I755, r1111, r1112, bk28⟩ := Inv.lend2 (I754.pull 2)
    refine wk_ rfl rfl hc427 (bo_ (vs := [(.slice z18 m18 k18), (.slice z891 m891 k891), (vi a2)]) rfl ca32 rfl (cu_ rfl rfl rfl) (law07_same_ok I755 r1111 r1112 hx237) (fun cv86 w610 S477 O86 le477 I757 hv86 => ?_))
    obtain ⟨rfl, rfl⟩ := hv86
    have I756 := bk28 [] trivial I757 le477
    refine wk_ rfl rfl hc427 (bz_ (b := x237) rfl rfl (wo_ (aq_ (c := (x236.1.length : Int) != (x7.1.length : Int)) (b := (vb (!x237))) rfl rfl hc427 rfl (ad_ ?_))))
    rcases ifs h119 with ⟨hc428, h119⟩ | ⟨hc428, h119⟩
    ·
     refine ai_ (b := !x237) rfl hc428 (ab_ (aa_ (wa_ (v := (vb false)) rfl rfl (ad_ (al_ ?_)))))
     obtain rfl := sj h119
     obtain rfl := (hout5 _ rfl)
     have h120 := h93
     obtain rfl := sj h120
     obtain rfl := (hout4 _ rfl)
     have h94 := h
     obtain rfl := sj h94
     exact ⟨(ed91.trans ed90), (vb false), (bq_ rfl rfl), _, [], ((((((le1.trans le2).trans le3).trans le360).trans le461).trans le474).trans le475), (((I756).drop).drop).drop, rfl, rfl⟩
    refine ak_ (b := !x237) rfl hc428 (av_ (aa_ (wm_ rfl e1817 (wo_ (bp_ (a := s5.2.2.2.2) (b := 1) rfl rfl rfl (wa_ (v := (vi (w64 (s5.2.2.2.2 + 1)))) rfl rfl (ad_ ?_)))))))
    obtain rfl := sj h119
    exact ⟨_, rfl, _, _, _, _, _, _, _, _, _, _, _, _, _, ((le461.trans le474).trans le475), (((I756.pull 1).drop.pull 1).pull 1), e1811, e1812, e1813, e1814, e1815, e1816, rfl, (r1107.mono le475), (r1108.mono le475), (r1109.mono le475), (r1110.mono le475), (ed91.trans ed90)⟩
   rintro f w ⟨out5, rfl, S478, z861, m861, k861, z862, m862, k862, z863, m863, k863, z864, m864, k864, le478, I758, e1824, e1825, e1826, e1827, e1828, e1829, e1830, r1074, r1075, r1076, r1077, ed92⟩
   have h93 := ds_ h93
   refine aa_ (wm_ rfl e1828 (wo_ (bp_ (a := (i1 : Int)) (b := 1) rfl rfl rfl (wa_ (v := (vi (w64 ((i1 : Int) + 1)))) rfl rfl (ad_ ?_)))))
   obtain rfl := sj h93
   exact ⟨_, rfl, _, (le360.trans le478), (I758.pull 1).drop, e1824, e1825, e1826, e1827, (bl_ hlt1 (cnt_le hx181)), ed92⟩
  rintro s6 f w hs1 hI342
  obtain ⟨S479, le479, I759, e1831, e1832, e1833, e1834, e1835, ed93⟩ := hI342
  refine ab_ (ab_ (aa_ (wm_ rfl e1835 (wo_ (bg_ (a := (x181 : Int)) (b := 2) rfl rfl rfl (ad_ (ak_ (b := decide ((x181 : Int) < 2)) rfl (cnt_f hx181) (bj_ ?_))))))))
  exact ⟨s6, hs1, _, le479, I759, e1831, e1832, e1833, e1834, ed93⟩
 rintro f w ⟨out4, rfl, S480, le480, I760, e1836, e1837, e1838, e1839, ed94⟩
 have h := ds_ h
 refine ab_ (aa_ ?_)
 obtain ⟨x238, hx238, h⟩ := bnd h
 refine wo_ (ap_ (vs := []) (r := (vb x238)) rfl ca10 rfl args0 I760 (fun Fr_ hF_ => gv_ hF_  hx238) (fun w611 I761 => (wa_ (v := (vb x238)) rfl rfl (ad_ (al_ ?_)))))
 obtain rfl := sj h
 exact ⟨ed94, (vb x238), (bq_ rfl rfl), _, [], (((le1.trans le2).trans le3).trans le480), (I761).drop, rfl, rfl⟩
end Go.Proofs.YtlpdpeghgndmkaaGreat.Pad
