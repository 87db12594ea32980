/- A part of the proof: what the functions of the program compute, shown over the model. -/
import Derived.Test.YtlpdpeghgndmkaaGreatHizP
import Derived.Test.YtlpdpeghgndmkaaGreatHizW1
import Derived.Test.YtlpdpeghgndmkaaGreatHizW13
import Derived.Test.YtlpdpeghgndmkaaGreatHizW14
import Derived.Test.YtlpdpeghgndmkaaGreatHizW17
import Derived.KernelRfl
set_option linter.unusedVariables false
set_option maxHeartbeats 4000000
set_option maxRecDepth 100000
namespace Go.Proofs.YtlpdpeghgndmkaaGreat.Pad
open Go Go.Proofs
theorem je_ {w : World} {S : PH} {Fr : List HP} {a0 : Riddle} {v0 : Value} {a1 : (List Aid)} {v1 : Value} {a2 : Int} {r : Int} (hI : Inv w S (Fr)) (h0_ : RV S v0 a0) (h1_ : RV S v1 a1) (h : ey_ a0 a1 a2 = some r) :
    Calls Tryz.prog 60 [v0, v1, (Value.int .i64 (a2))].toArray w (bw_ S Fr (Value.int .i64 (r))) := by
 unfold ey_ at h
 obtain ⟨c1, c2, c3, c4, e1, r1, r2, r3, r4⟩ := Riddle.inv h0_
 subst e1
 obtain ⟨z1, m1, k1, rfl⟩ := ac_ r1
 obtain ⟨z2, m2, k2, rfl⟩ := ac_ r2
 obtain ⟨z3, m3, k3, rfl⟩ := ac_ r3
 obtain ⟨z4, m4, k4, rfl⟩ := ac_ r4
 obtain ⟨z5, m5, k5, rfl⟩ := ac_ h1_
 refine ao_ (n := 21) Tryz.func60 rfl rfl rfl (ab_ (aa_ (wo_ (bi_ (v := (.agg #[(.slice z1 m1 k1), (.slice z2 m2 k2), (.slice z3 m3 k3), (.slice z4 m4 k4)])) rfl hI rfl (fun g1 w1 I1 => ?_)))))
 obtain ⟨S1, le1, I2, p1⟩ := Inv.boxFreeze (x := a0) I1 (Riddle.rv (s := a0) r1 r2 r3 r4)
 refine wa_ (v := (vi 0)) rfl rfl (ad_ (ab_ (ab_ (aa_ (wo_ (ld_ fr_ (p1.at_ I2) rfl (fun u1 hu1 => ?_)))))))
 obtain ⟨c5, c6, c7, c8, e7, r5, r6, r7, r8⟩ := Riddle.inv hu1
 subst e7
 obtain ⟨z6, m6, k6, rfl⟩ := ac_ r5
 obtain ⟨z7, m7, k7, rfl⟩ := ac_ r6
 obtain ⟨z8, m8, k8, rfl⟩ := ac_ r7
 obtain ⟨z9, m9, k9, rfl⟩ := ac_ r8
 refine wm_ (v := (.slice z5 m5 k5)) rfl rfl ?_
 obtain ⟨x1, hx1, h⟩ := bnd h
 refine wo_ (cv_ ca54 rfl I2 (fun Fr_ hF_ => qz_ hF_ (Riddle.rv (s := a0) r5 r6 r7 r8) (h1_.mono le1) hx1) (br_ rfl rfl) (fun w2 I3 => (wa_ (v := (vi x1)) rfl rfl (ad_ (ab_ (aa_ (wm_ (v := (vi x1)) rfl rfl (wo_ (cd_ rfl rfl rfl (ad_ ?_))))))))))
 rcases ifs h with ⟨hc1, h⟩ | ⟨hc1, h⟩
 ·
  refine ah_ rfl hc1 (ab_ (aa_ (wm_ (v := (vi x1)) rfl rfl (wa_ (v := (vi x1)) rfl rfl (ad_ (ak_ ?_))))))
  obtain rfl := sj h
  exact ⟨rfl, (vi x1), (bo_ rfl rfl), _, [], le1, I3, rfl, rfl⟩
 refine ai_ rfl hc1 (ar_ (ab_ (ab_ (aa_ (wm_ (v := (vi a2)) rfl rfl (wo_ (fa_ co_ (p1.at_ I3) rfl (wo_ (ld_ mh_ ((p1.at_ I3).fld Riddle.fld0) rfl (fun u2 hu2 => ?_))))))))))
 obtain ⟨z10, m10, k10, rfl⟩ := ac_ hu2
 refine wo_ (az_ rfl Tryz.underlying22 rfl hu2 (wo_ (eb_ rfl rfl rfl ?_)))
 obtain ⟨x2, hx2, h⟩ := bnd h
 refine wo_ (cv_ ca55 rfl I3 (fun Fr_ hF_ => ch_ hF_  hx2) (cf_ rfl rfl rfl) (fun w3 I4 => (wo_ (bx_ rfl rfl (ad_ ?_)))))
 rcases ifs h with ⟨hc2, h⟩ | ⟨hc2, h⟩
 ·
  refine ah_ rfl hc2 (ab_ (aa_ (wa_ (v := (vi 1)) rfl rfl (ad_ (ak_ ?_)))))
  obtain rfl := sj h
  exact ⟨rfl, (vi 1), (bo_ rfl rfl), _, [], le1, I4, rfl, rfl⟩
 refine ai_ rfl hc2 (ar_ (ab_ (aa_ (wa_ (v := (vi 0)) rfl rfl (ad_ (ak_ ?_))))))
 obtain rfl := sj h
 exact ⟨rfl, (vi 0), (bo_ rfl rfl), _, [], le1, I4, rfl, rfl⟩
theorem nr_ {w : World} {S : PH} {Fr : List HP} {a0 : Riddle} {v0 : Value} {a1 : (List Aid)} {v1 : Value} {a2 : Int} {r : (List Int)} (hI : Inv w S (Fr)) (h0_ : RV S v0 a0) (h1_ : RV S v1 a1) (h : gt_ a0 a1 a2 = some r) :
    Calls Tryz.prog 63 [v0, v1, (Value.int .i64 (a2))].toArray w (lp_ S Fr (fun T_ v_ O_ => ∃ (a0_ : Option Addr) (n0_ k0_ : Nat), v_ = (Value.slice a0_ n0_ k0_) ∧ O_ = [Row (α := Int) 3 (Value.slice a0_ n0_ k0_) (r)])) := by
 unfold gt_ at h
 obtain ⟨c1, c2, c3, c4, e1, r1, r2, r3, r4⟩ := Riddle.inv h0_
 subst e1
 obtain ⟨z1, m1, k1, rfl⟩ := ac_ r1
 obtain ⟨z2, m2, k2, rfl⟩ := ac_ r2
 obtain ⟨z3, m3, k3, rfl⟩ := ac_ r3
 obtain ⟨z4, m4, k4, rfl⟩ := ac_ r4
 obtain ⟨z5, m5, k5, rfl⟩ := ac_ h1_
 refine ao_ (n := 35) Tryz.func63 rfl rfl rfl (ab_ (aa_ (wo_ (bi_ (v := (.agg #[(.slice z1 m1 k1), (.slice z2 m2 k2), (.slice z3 m3 k3), (.slice z4 m4 k4)])) rfl hI rfl (fun g1 w1 I1 => ?_)))))
 obtain ⟨S1, le1, I2, p1⟩ := Inv.boxFreeze (x := a0) I1 (Riddle.rv (s := a0) r1 r2 r3 r4)
 refine wa_ (v := sn) rfl rfl (ad_ (ab_ (aa_ (wa_ (v := sn) rfl rfl (ad_ (ab_ (ab_ (aa_ (wa_ (v := (vi 0)) rfl rfl (ad_ ?_))))))))))
 have hk1 : a1.length ≤ 9223372036854775807 := (cx_ h1_)
 have I220 := Inv.rowNil (α := Int) (T := 3) I2
 obtain ⟨out1, hrun1, h⟩ := bnd h
 refine bp_ (fun f w => ∃ (S_ : PH) (z75 : Option Addr) (m75 k75 : Nat), S1.Le S_ ∧ Inv w S_ (Row (α := Int) 3 (.slice z75 m75 k75) (out1) :: Fr) ∧ f 1 = (.slice z5 m5 k5) ∧ f 2 = (vi a2) ∧ f 3 = (pt_ g1) ∧ f 7 = (.slice z75 m75 k75) ∧ f.ds = []) ?_ ?_
 ·
  refine au_ ?_
  refine da_ (I := fun (i1 : Nat) (s1 : (List Int)) (f : Frm) (w : World) => ∃ (S_ : PH) (z74 : Option Addr) (m74 k74 : Nat), S1.Le S_ ∧ Inv w S_ (Row (α := Int) 3 (.slice z74 m74 k74) (s1) :: Fr) ∧ f 1 = (.slice z5 m5 k5) ∧ f 2 = (vi a2) ∧ f 3 = (pt_ g1) ∧ f 7 = (.slice z74 m74 k74) ∧ f 8 = (vi (i1 : Int)) ∧ f.ds = []) hrun1 ⟨_, _, _, _, lr, I220, rfl, rfl, rfl, rfl, rfl, rfl⟩ ?_ ?_
  ·
   rintro i1 s1 f w o1 hlt1 hI193 h10
   obtain ⟨S199, z74, m74, k74, le199, I221, e190, e191, e192, e193, e194, ed19⟩ := hI193
   refine ab_ (ab_ (aa_ (wm_ rfl e194 (wm_ rfl e190 (wo_ (az_ rfl Tryz.underlying45 rfl (h1_.mono (le1.trans le199)) (wo_ (be_ rfl rfl rfl (ad_ (ah_ rfl (eo_ hlt1) (ar_ (ab_ (au_ ?_)))))))))))))
   obtain ⟨v4, h13, h10⟩ := bnd h10
   refine ks_ (fun f w => ∃ (S_ : PH), S199.Le S_ ∧ Inv w S_ (Row (α := Int) 3 (.slice z74 m74 k74) (s1) :: Fr) ∧ f 1 = (.slice z5 m5 k5) ∧ f 2 = (vi a2) ∧ f 3 = (pt_ g1) ∧ f 7 = (.slice z74 m74 k74) ∧ f 8 = (vi (i1 : Int)) ∧ f 29 = (vb v4) ∧ f.ds = []) ?_ ?_
   ·
    obtain ⟨x18, hx18, h13⟩ := bnd h13
    rcases ifs h13 with ⟨hc11, h13⟩ | ⟨hc11, h13⟩
    ·
     obtain ⟨x19, hx19, h13⟩ := bnd h13
     refine bj_ (sps := [spV 15 [] 0 (.slice z5 m5 k5), spV 16 [] 1 (vi (i1 : Int)), spV 17 [0, 1] 2 (af_ (.slice z5 m5 k5) ((i1 : Int)) (Enc.sz Aid)), spV 18 [0, 1, 2] 3 (an_ (af_ (.slice z5 m5 k5) ((i1 : Int)) (Enc.sz Aid)) 0), spV 19 [0, 1, 2, 3] 4 (vi x18.Lock), spV 20 [] 5 (vi a2), spV 21 (lrg 6) 6 (vb (x18.Lock == a2)), spV 22 (lrg 7) 7 (vb (x18.Lock == a2)), spR 23 (lrg 8) 8 a0, spV 24 (lrg 8) 9 (.slice z5 m5 k5), spV 25 (lrg 8) 10 (vi (i1 : Int)), spV 26 (lrg 8 ++ [9, 10]) 11 (af_ (.slice z5 m5 k5) ((i1 : Int)) (Enc.sz Aid)), spR 27 (lrg 8 ++ [9, 10, 11]) 12 x18, spV 28 (lrg 13) 13 (vb x19), spV 29 (lrg 14) 14 (vb x19)]) (tks := []) (O := Row (α := Int) 3 (.slice z74 m74 k74) (s1) :: Fr) rfl (by kernel_rfl) I221 ⟨ob_ rfl fun l A K I => (aq_ rfl ((K 1 (ag_ rfl)).trans e190) (fo I)), ob_ rfl fun l A K I => (aq_ rfl ((K 8 (ag_ rfl)).trans e194) (fo I)), ob_ rfl fun l A K I => (ix_ Tryz.underlying45 ua_ (h1_.mono ((le1.trans le199).trans l)) hx18 (A.v 0 rfl) (A.v 1 rfl) (fo I)), ob_ rfl fun l A K I => (ae_ rfl fq_ (A.v 2 rfl) ((h1_.mono ((le1.trans le199).trans l)).elem I.in_ hx18) (fo I)), ob_ rfl fun l A K I => (aj_ rfl sh3 (A.v 3 rfl) (((h1_.mono ((le1.trans le199).trans l)).elem I.in_ hx18).fld Aid.fld0) (fo I)), ob_ rfl fun l A K I => (aq_ rfl ((K 2 (ag_ rfl)).trans e191) (fo I)), ob_ rfl fun l A K I => (bm_ rfl (A.v 4 rfl) (A.v 5 rfl) (fo I)), ob_ rfl fun l A K I => (aq_ rfl (A.v 6 rfl) (fo I)), ?_, oc_ fun l A K I => tk_ rfl (A.v 7 rfl) hc11 (aq_ rfl ((K 1 (ag_ rfl)).trans e190) (fo I)), oc_ fun l A K I => tk_ rfl (A.v 7 rfl) hc11 (aq_ rfl ((K 8 (ag_ rfl)).trans e194) (fo I)), oc_ fun l A K I => tk_ rfl (A.v 7 rfl) hc11 (ix_ Tryz.underlying45 ua_ (h1_.mono ((le1.trans le199).trans l)) hx18 (A.v 8 rfl) (A.v 9 rfl) (fo I)), ?_, ?_, ?_, trivial⟩ ?_
     ·
      intro vs f w_ U X le A K I
      have q302 := A.v 7 rfl
      refine tk_ rfl q302 hc11 (ay_ rfl fr_ ((K 3 (ag_ rfl)).trans e192) ((p1.mono (le199.trans le)).at_ I) (fun u51 hu45 => ?_))
      obtain ⟨c75, c76, c77, c78, e219, r89, r90, r91, r92⟩ := Riddle.inv hu45
      subst e219
      obtain ⟨z86, m86, k86, rfl⟩ := ac_ r89
      obtain ⟨z87, m87, k87, rfl⟩ := ac_ r90
      obtain ⟨z88, m88, k88, rfl⟩ := ac_ r91
      obtain ⟨z89, m89, k89, rfl⟩ := ac_ r92
      refine ⟨_, _, rfl, lr, ?_, ?_⟩
      · exact (Riddle.rv (s := a0) r89 r90 r91 r92)
      exact I
     ·
      intro vs f w_ U X le A K I
      have q308 := A.v 7 rfl
      have q309 := A.v 10 rfl
      refine tk_ rfl q308 hc11 (ay_ rfl ua_ q309 ((h1_.mono ((le1.trans le199).trans le)).elem I.in_ hx18) (fun u52 hu46 => ?_))
      obtain ⟨c79, e224, r93⟩ := Aid.inv hu46
      subst e224
      obtain ⟨z90, m90, k90, rfl⟩ := ac_ r93
      refine ⟨_, _, rfl, lr, ?_, ?_⟩
      · exact (Aid.rv (s := x18) r93)
      exact I
     ·
      intro vs f w_ U X le A K I
      have q311 : f 23 = vs 8 := (A.at_ 8 rfl _ rfl).1 _ rfl
      have r94 : RV U (vs 8) a0 := (A.at_ 8 rfl _ rfl).2
      obtain ⟨u53, hu47⟩ : ∃ u, vs 8 = u := ⟨_, rfl⟩
      rw [hu47] at q311 r94
      obtain ⟨c80, c81, c82, c83, e226, r95, r96, r97, r98⟩ := Riddle.inv r94
      subst e226
      obtain ⟨z91, m91, k91, rfl⟩ := ac_ r95
      obtain ⟨z92, m92, k92, rfl⟩ := ac_ r96
      obtain ⟨z93, m93, k93, rfl⟩ := ac_ r97
      obtain ⟨z94, m94, k94, rfl⟩ := ac_ r98
      have q312 : f 27 = vs 12 := (A.at_ 12 rfl _ rfl).1 _ rfl
      have r99 : RV U (vs 12) x18 := (A.at_ 12 rfl _ rfl).2
      obtain ⟨u54, hu48⟩ : ∃ u, vs 12 = u := ⟨_, rfl⟩
      rw [hu48] at q312 r99
      obtain ⟨c84, e231, r100⟩ := Aid.inv r99
      subst e231
      obtain ⟨z95, m95, k95, rfl⟩ := ac_ r100
      refine tk_ rfl (A.v 7 rfl) hc11 (cv_ ca56 rfl I (fun Fr_ hF_ => vv_ hF_ (Riddle.rv (s := a0) r95 r96 r97 r98) (Aid.rv (s := x18) r100) hx19) (br_ q311 q312) (fun w262 I271 => (fo I271)))
     ·
      intro vs f w_ U X le A K I
      refine pl_ rfl (aw_ (a := (vb x19)) rfl (A.v 7 rfl) hc11 (A.v 13 rfl) (fo I))
     intro vs240 f w264 S247 ed22 le247 hF15 hK240 hI241
     have e233 : f 1 = (Value.slice z5 m5 k5) := (hK240 1 (al_ rfl)).trans e190
     have e234 : f 2 = (vi a2) := (hK240 2 (al_ rfl)).trans e191
     have e235 : f 3 = (pt_ g1) := (hK240 3 (al_ rfl)).trans e192
     have e236 : f 7 = (Value.slice z74 m74 k74) := (hK240 7 (al_ rfl)).trans e193
     have e237 : f 8 = (vi ((i1 : Int))) := (hK240 8 (al_ rfl)).trans e194
     have I273 : Inv w264 S247 (Row (α := Int) 3 (Value.slice z74 m74 k74) (s1) :: Fr) := hI241
     have q315 := hF15.v 14 rfl
     obtain rfl := sj h13
     exact ⟨_, le247, I273, e233, e234, e235, e236, e237, q315, (ed22.trans ed19)⟩
    refine bj_ (sps := [spV 15 [] 0 (.slice z5 m5 k5), spV 16 [] 1 (vi (i1 : Int)), spV 17 [0, 1] 2 (af_ (.slice z5 m5 k5) ((i1 : Int)) (Enc.sz Aid)), spV 18 [0, 1, 2] 3 (an_ (af_ (.slice z5 m5 k5) ((i1 : Int)) (Enc.sz Aid)) 0), spV 19 [0, 1, 2, 3] 4 (vi x18.Lock), spV 20 [] 5 (vi a2), spV 21 (lrg 6) 6 (vb (x18.Lock == a2)), spV 22 (lrg 7) 7 (vb (x18.Lock == a2)), spV 23 (lrg 8) 8 undef, spV 24 (lrg 8) 9 undef, spV 25 (lrg 8) 10 undef, spV 26 (lrg 8 ++ [9, 10]) 11 undef, spV 27 (lrg 8 ++ [9, 10, 11]) 12 undef, spV 28 (lrg 13) 13 undef, spV 29 (lrg 14) 14 (vb false)]) (tks := []) (O := Row (α := Int) 3 (.slice z74 m74 k74) (s1) :: Fr) rfl (by kernel_rfl) I221 ⟨ob_ rfl fun l A K I => (aq_ rfl ((K 1 (ag_ rfl)).trans e190) (fo I)), ob_ rfl fun l A K I => (aq_ rfl ((K 8 (ag_ rfl)).trans e194) (fo I)), ob_ rfl fun l A K I => (ix_ Tryz.underlying45 ua_ (h1_.mono ((le1.trans le199).trans l)) hx18 (A.v 0 rfl) (A.v 1 rfl) (fo I)), ob_ rfl fun l A K I => (ae_ rfl fq_ (A.v 2 rfl) ((h1_.mono ((le1.trans le199).trans l)).elem I.in_ hx18) (fo I)), ob_ rfl fun l A K I => (aj_ rfl sh3 (A.v 3 rfl) (((h1_.mono ((le1.trans le199).trans l)).elem I.in_ hx18).fld Aid.fld0) (fo I)), ob_ rfl fun l A K I => (aq_ rfl ((K 2 (ag_ rfl)).trans e191) (fo I)), ob_ rfl fun l A K I => (bm_ rfl (A.v 4 rfl) (A.v 5 rfl) (fo I)), ob_ rfl fun l A K I => (aq_ rfl (A.v 6 rfl) (fo I)), oc_ fun l A K I => sk_ rfl (A.v 7 rfl) hc11 (fo I), oc_ fun l A K I => sk_ rfl (A.v 7 rfl) hc11 (fo I), oc_ fun l A K I => sk_ rfl (A.v 7 rfl) hc11 (fo I), oc_ fun l A K I => sk_ rfl (A.v 7 rfl) hc11 (fo I), oc_ fun l A K I => sk_ rfl (A.v 7 rfl) hc11 (fo I), oc_ fun l A K I => sk_ rfl (A.v 7 rfl) hc11 (fo I), ?_, trivial⟩ ?_
    ·
     intro vs f w_ U X le A K I
     refine pl_ rfl (ap_ (b := (vb false)) rfl (A.v 7 rfl) hc11 rfl (fo I))
    intro vs256 f w280 S263 ed23 le263 hF16 hK256 hI257
    have e238 : f 1 = (Value.slice z5 m5 k5) := (hK256 1 (al_ rfl)).trans e190
    have e239 : f 2 = (vi a2) := (hK256 2 (al_ rfl)).trans e191
    have e240 : f 3 = (pt_ g1) := (hK256 3 (al_ rfl)).trans e192
    have e241 : f 7 = (Value.slice z74 m74 k74) := (hK256 7 (al_ rfl)).trans e193
    have e242 : f 8 = (vi ((i1 : Int))) := (hK256 8 (al_ rfl)).trans e194
    have I289 : Inv w280 S263 (Row (α := Int) 3 (Value.slice z74 m74 k74) (s1) :: Fr) := hI257
    have q336 := hF16.v 14 rfl
    obtain rfl := sj h13
    exact ⟨_, le263, I289, e238, e239, e240, e241, e242, q336, (ed23.trans ed19)⟩
   rintro f w ⟨S264, le264, I290, e243, e244, e245, e246, e247, e248, ed24⟩
   rcases ifs h10 with ⟨hc12, h10⟩ | ⟨hc12, h10⟩
   ·
    refine ah_ e248 hc12 (aa_ (wm_ rfl e246 (wm_ rfl e247 (wo_ (bf_ (vs := [(vi (i1 : Int))]) (r := ([(i1 : Int)] : List Int)) rfl Tryz.underlying28 el3 (fc_ rfl) rfl (by decide) (by decide) ⟨(dv_ _), trivial⟩ I290 (fun u55 w281 I291 => ?_))))))
    obtain ⟨z96, m96, k96, e249⟩ := bc_ I291
    subst e249
    obtain ⟨x20, hx20, h10⟩ := bnd h10
    refine wo_ (bt_ (α := Int) (v := (.slice z74 m74 k74)) (u := (.slice z96 m96 k96)) rfl rfl Tryz.underlying28 el3 (by decide) (by decide) rfl rfl (I291.pull 1) (Inv.rowSrc (I291.nth 0 rfl)) hx20 (fun u56 w282 I292 => ?_))
    obtain ⟨z97, m97, k97, e250⟩ := bc_ I292
    subst e250
    refine wa_ (v := (.slice z97 m97 k97)) rfl rfl (ad_ (aa_ (wm_ rfl e247 (wo_ (bl_ rfl rfl rfl (wa_ (v := (vi (w64 ((i1 : Int) + 1)))) rfl rfl (ad_ ?_)))))))
    obtain rfl := sj h10
    exact ⟨_, _, _, _, (le199.trans le264), (I292.pull 1).drop, e243, e244, e245, rfl, (bh_ hlt1 hk1), ed24⟩
   refine ai_ e248 hc12 (ar_ (aa_ (wm_ rfl e247 (wo_ (bl_ rfl rfl rfl (wa_ (v := (vi (w64 ((i1 : Int) + 1)))) rfl rfl (ad_ ?_)))))))
   obtain rfl := sj h10
   exact ⟨_, _, _, _, (le199.trans le264), I290, e243, e244, e245, e246, (bh_ hlt1 hk1), ed24⟩
  rintro f w hI258
  obtain ⟨S265, z98, m98, k98, le265, I293, e251, e252, e253, e254, e255, ed25⟩ := hI258
  refine ab_ (ab_ (aa_ (wm_ rfl e255 (wm_ rfl e251 (wo_ (az_ rfl Tryz.underlying45 rfl (h1_.mono (le1.trans le265)) (wo_ (be_ rfl rfl rfl (ad_ (ai_ rfl (ep_ _) (bk_ ?_)))))))))))
  exact ⟨_, _, _, _, le265, I293, e251, e252, e253, e254, ed25⟩
 rintro f w ⟨S266, z75, m75, k75, le266, I294, e256, e257, e258, e259, ed26⟩
 refine ab_ (aa_ (wm_ rfl e259 (wa_ (v := (.slice z75 m75 k75)) rfl rfl (ad_ (ak_ ?_)))))
 obtain rfl := sj h
 exact ⟨ed26, (.slice z75 m75 k75), (bo_ rfl rfl), _, [Row (α := Int) 3 (.slice z75 m75 k75) (out1)], (le1.trans le266), I294, _, _, _, rfl, rfl⟩
theorem rb_ {w : World} {S : PH} {Fr : List HP} {a0 : Riddle} {v0 : Value} {a1 : (List Aid)} {v1 : Value} {a2 : Int} {a3 : Bool} {r : Int} (hI : Inv w S (Fr)) (h0_ : RV S v0 a0) (h1_ : RV S v1 a1) (h : kk_ a0 a1 a2 a3 = some r) :
    Calls Tryz.prog 61 [v0, v1, (Value.int .i64 (a2)), (Value.bool (a3))].toArray w (bw_ S Fr (Value.int .i64 (r))) := by
 unfold kk_ at h
 obtain ⟨c1, c2, c3, c4, e1, r1, r2, r3, r4⟩ := Riddle.inv h0_
 subst e1
 obtain ⟨z1, m1, k1, rfl⟩ := ac_ r1
 obtain ⟨z2, m2, k2, rfl⟩ := ac_ r2
 obtain ⟨z3, m3, k3, rfl⟩ := ac_ r3
 obtain ⟨z4, m4, k4, rfl⟩ := ac_ r4
 obtain ⟨z5, m5, k5, rfl⟩ := ac_ h1_
 refine ao_ (n := 62) Tryz.func61 rfl rfl rfl (ab_ (aa_ (wo_ (bi_ (v := (.agg #[(.slice z1 m1 k1), (.slice z2 m2 k2), (.slice z3 m3 k3), (.slice z4 m4 k4)])) rfl hI rfl (fun g1 w1 I1 => ?_)))))
 obtain ⟨S1, le1, I2, p1⟩ := Inv.boxFreeze (x := a0) I1 (Riddle.rv (s := a0) r1 r2 r3 r4)
 refine wa_ (v := (vi 0)) rfl rfl (ad_ (ab_ (aa_ (wo_ (ld_ fr_ (p1.at_ I2) rfl (fun u1 hu1 => ?_))))))
 obtain ⟨c5, c6, c7, c8, e7, r5, r6, r7, r8⟩ := Riddle.inv hu1
 subst e7
 obtain ⟨z6, m6, k6, rfl⟩ := ac_ r5
 obtain ⟨z7, m7, k7, rfl⟩ := ac_ r6
 obtain ⟨z8, m8, k8, rfl⟩ := ac_ r7
 obtain ⟨z9, m9, k9, rfl⟩ := ac_ r8
 refine wm_ (v := (.slice z5 m5 k5)) rfl rfl (wm_ (v := (vi a2)) rfl rfl ?_)
 obtain ⟨x1, hx1, h⟩ := bnd h
 refine wo_ (cl_ ca63 rfl (nr_ I2 (Riddle.rv (s := a0) r5 r6 r7 r8) (h1_.mono le1) hx1) (cf_ rfl rfl rfl) (fun cv1 w2 S2 O1 le2 I3 hv1 => ?_))
 obtain ⟨z10, m10, k10, rfl, rfl⟩ := hv1
 refine wa_ (v := (.slice z10 m10 k10)) rfl rfl (ad_ (ab_ (aa_ (wa_ (v := (vi ((-1)))) rfl rfl (wa_ (v := (vi 0)) rfl rfl (ad_ (ab_ (ab_ (aa_ (wa_ (v := (vi 0)) rfl rfl (ad_ ?_)))))))))))
 have hk1 : x1.length ≤ 9223372036854775807 := (uc_ (I3.nth 0 rfl))
 obtain ⟨out1, hrun1, h⟩ := bnd h
 refine bp_ (fun f w => ∃ (S_ : PH), S2.Le S_ ∧ Inv w S_ (Row (α := Int) 3 (.slice z10 m10 k10) (x1) :: Fr) ∧ f 1 = (.slice z5 m5 k5) ∧ f 2 = (vi a2) ∧ f 3 = (vb a3) ∧ f 4 = (pt_ g1) ∧ f 9 = (.slice z10 m10 k10) ∧ f 10 = (vi out1.1) ∧ f 11 = (vi out1.2) ∧ f.ds = []) ?_ ?_
 ·
  refine au_ ?_
  refine da_ (I := fun (i1 : Nat) (s1 : (Int × Int)) (f : Frm) (w : World) => ∃ (S_ : PH), S2.Le S_ ∧ Inv w S_ (Row (α := Int) 3 (.slice z10 m10 k10) (x1) :: Fr) ∧ f 1 = (.slice z5 m5 k5) ∧ f 2 = (vi a2) ∧ f 3 = (vb a3) ∧ f 4 = (pt_ g1) ∧ f 9 = (.slice z10 m10 k10) ∧ f 10 = (vi s1.1) ∧ f 11 = (vi s1.2) ∧ f 12 = (vi (i1 : Int)) ∧ f.ds = []) hrun1 ⟨_, lr, I3, rfl, rfl, rfl, rfl, rfl, rfl, rfl, rfl, rfl⟩ ?_ ?_
  ·
   rintro i1 s1 f w o1 hlt1 hI46 h10
   obtain ⟨S56, le56, I70, e171, e172, e173, e174, e175, e176, e177, e178, ed10⟩ := hI46
   refine ab_ (ab_ (aa_ (wm_ rfl e178 (wm_ rfl e175 (wo_ (di_ (α := Int) rfl Tryz.underlying28 rfl (I70.nth 0 rfl) (wo_ (be_ rfl rfl rfl (ad_ (ah_ rfl (eo_ hlt1) (ar_ (ab_ (au_ (ab_ ?_))))))))))))))
   obtain ⟨x20, hx20, h10⟩ := bnd h10
   obtain ⟨x21, hx21, h10⟩ := bnd h10
   obtain ⟨x22, hx22, h10⟩ := bnd h10
   obtain ⟨x23, hx23, h10⟩ := bnd h10
   obtain ⟨x24, hx24, h10⟩ := bnd h10
   refine bj_ (sps := [spR 24 [] 0 a0, spV 25 [] 1 (.slice z5 m5 k5), spV 26 [] 2 (.slice z10 m10 k10), spV 27 [] 3 (vi (i1 : Int)), ⟨some 28, [2, 3], [4], fun vs_ T_ => fr0 vs_ 0 = (af_ (.slice z10 m10 k10) ((i1 : Int)) (Enc.sz Int)), [0], [], [], fun _ h_ => h_⟩, ⟨some 29, [2, 3, 4], [5], fun vs_ T_ => fr0 vs_ 0 = (vi x20), [0], [], [], fun _ h_ => h_⟩, spV 30 [1, 2, 3, 4, 5] 6 (af_ (.slice z5 m5 k5) (x20) (Enc.sz Aid)), spR 31 [1, 2, 3, 4, 5, 6] 7 x21, spR 32 (lrg 8) 8 x22, ⟨some 33, (lrg 9), [9], fun vs_ T_ => ∃ (a0_ : Option Addr) (n0_ k0_ : Nat), fr0 vs_ 0 = (.slice a0_ n0_ k0_), [], [], [1], fun _ h_ => h_⟩, spV 34 [] 10 (vi a2), ⟨some 35, (lrg 11), [11, 9], fun vs_ T_ => fr0 vs_ 0 = (af_ (fr0 vs_ 1) (a2) (Enc.sz Int)), [1], [], [], fun _ h_ => h_⟩, ⟨some 36, (lrg 12), [12], fun vs_ T_ => fr0 vs_ 0 = (vi x24), [1], [], [], fun _ h_ => h_⟩, spV 13 (lrg 13) 13 (vi x24)]) (tks := [⟨none, none, [], fun vs_ => Row (α := Int) 3 (.slice z10 m10 k10) (x1)⟩, ⟨some 9, none, [9], fun vs_ => Row (α := Int) 3 (fr0 vs_ 0) (x23)⟩]) (O := Fr) rfl (by kernel_rfl) I70 ⟨?_, ob_ rfl fun l A K I => (aq_ rfl ((K 1 (ag_ rfl)).trans e171) (fo I)), ob_ rfl fun l A K I => (aq_ rfl ((K 9 (ag_ rfl)).trans e175) (fo I)), ob_ rfl fun l A K I => (aq_ rfl ((K 12 (ag_ rfl)).trans e178) (fo I)), ?_, ?_, ob_ rfl fun l A K I => (ix_ Tryz.underlying45 ua_ (h1_.mono (((le1.trans le2).trans le56).trans l)) hx21 (A.v 0 rfl) (A.v 4 rfl) (fo I)), ?_, ?_, ?_, ob_ rfl fun l A K I => (aq_ rfl ((K 2 (ag_ rfl)).trans e172) (fo I)), ?_, ?_, ?_, trivial⟩ ?_
   ·
    intro vs f w_ U X le A K I
    refine pl_ rfl (ay_ rfl fr_ ((K 4 (ag_ rfl)).trans e174) ((p1.mono ((le2.trans le56).trans le)).at_ I) (fun u25 hu25 => ?_))
    obtain ⟨c66, c67, c68, c69, e179, r75, r76, r77, r78⟩ := Riddle.inv hu25
    subst e179
    obtain ⟨z77, m77, k77, rfl⟩ := ac_ r75
    obtain ⟨z78, m78, k78, rfl⟩ := ac_ r76
    obtain ⟨z79, m79, k79, rfl⟩ := ac_ r77
    obtain ⟨z80, m80, k80, rfl⟩ := ac_ r78
    refine ⟨_, _, rfl, lr, ?_, ?_⟩
    · exact (Riddle.rv (s := a0) r75 r76 r77 r78)
    exact I
   ·
    intro vs f w_ U X le A K I
    have I75 : Inv w_ U (Row (α := Int) 3 (Value.slice z10 m10 k10) (x1) :: X) := I
    refine pl_ rfl (ba_ (v := (.slice z10 m10 k10)) (i := (i1 : Int)) (e := x20) rfl Tryz.underlying28 sh3 (A.v 0 rfl) (Inv.rowSrc (I75.nth 0 rfl)) (A.v 1 rfl) hx20 (fo I75))
   ·
    intro vs f w_ U X le A K I
    have I76 : Inv w_ U (Row (α := Int) 3 (Value.slice z10 m10 k10) (x1) :: X) := I
    refine pl_ rfl (aj_ rfl sh3 (A.v 2 rfl) ((I76.nth 0 rfl).rowElem hx20) (fo I76))
   ·
    intro vs f w_ U X le A K I
    have q57 := A.v 5 rfl
    refine pl_ rfl (ay_ rfl ua_ q57 ((h1_.mono (((le1.trans le2).trans le56).trans le)).elem I.in_ hx21) (fun u26 hu26 => ?_))
    obtain ⟨c70, e184, r79⟩ := Aid.inv hu26
    subst e184
    obtain ⟨z81, m81, k81, rfl⟩ := ac_ r79
    refine ⟨_, _, rfl, lr, ?_, ?_⟩
    · exact (Aid.rv (s := x21) r79)
    exact I
   ·
    intro vs f w_ U X le A K I
    have q58 : f 24 = vs 0 := (A.at_ 0 rfl _ rfl).1 _ rfl
    have r80 : RV U (vs 0) a0 := (A.at_ 0 rfl _ rfl).2
    obtain ⟨u27, hu27⟩ : ∃ u, vs 0 = u := ⟨_, rfl⟩
    rw [hu27] at q58 r80
    obtain ⟨c71, c72, c73, c74, e186, r81, r82, r83, r84⟩ := Riddle.inv r80
    subst e186
    obtain ⟨z82, m82, k82, rfl⟩ := ac_ r81
    obtain ⟨z83, m83, k83, rfl⟩ := ac_ r82
    obtain ⟨z84, m84, k84, rfl⟩ := ac_ r83
    obtain ⟨z85, m85, k85, rfl⟩ := ac_ r84
    have q59 : f 31 = vs 7 := (A.at_ 7 rfl _ rfl).1 _ rfl
    have r85 : RV U (vs 7) x21 := (A.at_ 7 rfl _ rfl).2
    obtain ⟨u28, hu28⟩ : ∃ u, vs 7 = u := ⟨_, rfl⟩
    rw [hu28] at q59 r85
    obtain ⟨c75, e191, r86⟩ := Aid.inv r85
    subst e191
    obtain ⟨z86, m86, k86, rfl⟩ := ac_ r86
    refine pl_ rfl (cl_ ca39 rfl (kh_ I (Riddle.rv (s := a0) r81 r82 r83 r84) (Aid.rv (s := x21) r86) hx22) (br_ q58 q59) (fun cv8 w63 S66 O8 le66 I80 hv8 => ?_))
    obtain ⟨c76, rfl, rfl, r87⟩ := hv8
    obtain ⟨c77, c78, c79, c80, e193, r88, r89, r90, r91⟩ := Riddle.inv r87
    subst e193
    obtain ⟨z87, m87, k87, rfl⟩ := ac_ r88
    obtain ⟨z88, m88, k88, rfl⟩ := ac_ r89
    obtain ⟨z89, m89, k89, rfl⟩ := ac_ r90
    obtain ⟨z90, m90, k90, rfl⟩ := ac_ r91
    refine ⟨_, _, rfl, le66, ?_, ?_⟩
    · exact (Riddle.rv (s := x22) r88 r89 r90 r91)
    exact I80
   ·
    intro vs f w_ U X le A K I
    have q60 : f 32 = vs 8 := (A.at_ 8 rfl _ rfl).1 _ rfl
    have r92 : RV U (vs 8) x22 := (A.at_ 8 rfl _ rfl).2
    obtain ⟨u29, hu29⟩ : ∃ u, vs 8 = u := ⟨_, rfl⟩
    rw [hu29] at q60 r92
    obtain ⟨c81, c82, c83, c84, e198, r93, r94, r95, r96⟩ := Riddle.inv r92
    subst e198
    obtain ⟨z91, m91, k91, rfl⟩ := ac_ r93
    obtain ⟨z92, m92, k92, rfl⟩ := ac_ r94
    obtain ⟨z93, m93, k93, rfl⟩ := ac_ r95
    obtain ⟨z94, m94, k94, rfl⟩ := ac_ r96
    refine pl_ rfl (cl_ ca43 rfl (ef_ I (Riddle.rv (s := x22) r93 r94 r95 r96) hx23) (em_ q60) (fun cv9 w66 S68 O9 le68 I82 hv9 => ?_))
    obtain ⟨z95, m95, k95, rfl, rfl⟩ := hv9
    refine ⟨_, _, rfl, le68, ?_, ?_⟩
    · exact ⟨_, _, _, rfl⟩
    exact I82
   ·
    intro vs f w_ U X le A K I
    have I84 : Inv w_ U (Row (α := Int) 3 (vs 9) (x23) :: X) := I
    obtain ⟨z96, m96, k96, e203, q61⟩ := A.rf (a := 9) 9 rfl rfl rfl
    have I85 := I84
    rw [e203] at I85
    have q62 := A.v 10 rfl
    refine pl_ rfl (ba_ (v := (.slice z96 m96 k96)) (i := a2) (e := x24) rfl Tryz.underlying28 sh3 q61 (Inv.rowSrc (I85.nth 0 rfl)) q62 hx24 (⟨_, _, rfl, lr, ?_, ?_⟩))
    ·
     show (af_ (Value.slice z96 m96 k96) (a2) (Enc.sz Int)) = (af_ (vs 9) (a2) (Enc.sz Int))
     simp only [e203] <;> rfl
    show Inv _ _ (Row (α := Int) 3 (vs 9) (x23) :: X)
    simp only [e203]
    exact I85
   ·
    intro vs f w_ U X le A K I
    have I86 : Inv w_ U (Row (α := Int) 3 (vs 9) (x23) :: X) := I
    obtain ⟨z97, m97, k97, e204, q63⟩ := A.rf (a := 9) 9 rfl rfl rfl
    have I87 := I86
    rw [e204] at I87
    have q64 := A.v 10 rfl
    have q65 : f 35 = (af_ (vs 9) (a2) (Enc.sz Int)) := A.v 11 rfl
    simp only [e204] at q65
    have q65 : f 35 = (af_ (Value.slice z97 m97 k97) (a2) (Enc.sz Int)) := q65
    refine pl_ rfl (aj_ rfl sh3 q65 ((I87.nth 0 rfl).rowElem hx24) (⟨_, _, rfl, lr, ?_, ?_⟩))
    · exact rfl
    show Inv _ _ (Row (α := Int) 3 (vs 9) (x23) :: X)
    simp only [e204]
    exact I87
   ·
    intro vs f w_ U X le A K I
    refine pl_ rfl (bn_ (v := (vi x24)) rfl (A.v 12 rfl) (fo I))
   intro vs60 f w71 S73 ed11 le73 hF4 hK60 hI61
   have e205 : f 1 = (Value.slice z5 m5 k5) := (hK60 1 (al_ rfl)).trans e171
   have e206 : f 2 = (vi a2) := (hK60 2 (al_ rfl)).trans e172
   have e207 : f 3 = (vb a3) := (hK60 3 (al_ rfl)).trans e173
   have e208 : f 4 = (pt_ g1) := (hK60 4 (al_ rfl)).trans e174
   have e209 : f 9 = (Value.slice z10 m10 k10) := (hK60 9 (al_ rfl)).trans e175
   have e210 : f 10 = (vi s1.1) := (hK60 10 (al_ rfl)).trans e176
   have e211 : f 11 = (vi s1.2) := (hK60 11 (al_ rfl)).trans e177
   have e212 : f 12 = (vi ((i1 : Int))) := (hK60 12 (al_ rfl)).trans e178
   have I89 : Inv w71 S73 (Row (α := Int) 3 (Value.slice z10 m10 k10) (x1) :: Row (α := Int) 3 (vs60 9) (x23) :: Fr) := hI61
   obtain ⟨z98, m98, k98, e213, q67⟩ := hF4.rf (a := 9) 9 rfl rfl rfl
   have I90 := I89
   rw [e213] at I90
   have q68 := hF4.v 13 rfl
   obtain ⟨v4, h13, h10⟩ := bnd h10
   refine ks_ (fun f w => Inv w S73 (Row (α := Int) 3 (.slice z10 m10 k10) (x1) :: Fr) ∧ f 1 = (.slice z5 m5 k5) ∧ f 2 = (vi a2) ∧ f 3 = (vb a3) ∧ f 4 = (pt_ g1) ∧ f 9 = (.slice z10 m10 k10) ∧ f 10 = (vi s1.1) ∧ f 11 = (vi s1.2) ∧ f 12 = (vi (i1 : Int)) ∧ f 13 = (vi x24) ∧ f 55 = (vb v4) ∧ f.ds = []) ?_ ?_
   ·
    refine aa_ (wm_ rfl e210 (wo_ (be_ rfl rfl rfl (wm_ (v := (vb (decide (s1.1 < 0)))) rfl rfl ?_))))
    rcases ifs h13 with ⟨hc39, h13⟩ | ⟨hc39, h13⟩
    ·
     refine ws_ rfl rfl hc39 (ws_ rfl rfl hc39 (fu_ rfl rfl rfl rfl rfl (fu_ rfl rfl rfl rfl rfl (fu_ rfl rfl rfl rfl rfl (ws_ rfl rfl hc39 (wo_ (aw_ (a := (vb true)) rfl rfl hc39 rfl (wm_ (v := (vb true)) rfl rfl (ws_ rfl rfl rfl (ws_ rfl rfl rfl (ws_ rfl rfl rfl (fu_ rfl rfl rfl rfl rfl (fu_ rfl rfl rfl rfl rfl (fu_ rfl rfl rfl rfl rfl (ws_ rfl rfl rfl (wo_ (aw_ (a := (vb true)) rfl rfl rfl rfl (ad_ ?_))))))))))))))))))
     obtain rfl := sj h13
     exact ⟨(I90.pull 1).drop, e205, e206, e207, e208, e209, e210, e211, e212, q68, rfl, (ed11.trans ed10)⟩
    refine wk_ rfl rfl hc39 (aq_ rfl e207 (wk_ rfl rfl hc39 (aq_ (v := (vb a3)) rfl rfl ?_)))
    rcases ifs h13 with ⟨hc40, h13⟩ | ⟨hc40, h13⟩
    ·
     refine wk_ rfl rfl hc40 (aq_ rfl q68 (wk_ rfl rfl hc40 (aq_ rfl e211 (wk_ rfl rfl hc40 (lv_ rfl rfl rfl (wk_ rfl rfl hc39 (aw_ (a := (vb (decide (s1.2 < x24)))) rfl rfl hc40 rfl (wo_ (ap_ (b := (vb (decide (s1.2 < x24)))) rfl rfl hc39 rfl (wm_ (v := (vb (decide (s1.2 < x24)))) rfl rfl ?_))))))))))
     rcases ifs h13 with ⟨hc41, h13⟩ | ⟨hc41, h13⟩
     ·
      refine ws_ rfl rfl hc41 (ws_ rfl rfl hc41 (ws_ rfl rfl hc41 (fu_ rfl rfl rfl rfl rfl (fu_ rfl rfl rfl rfl rfl (fu_ rfl rfl rfl rfl rfl (ws_ rfl rfl hc41 (wo_ (aw_ (a := (vb true)) rfl rfl hc41 rfl (ad_ ?_)))))))))
      obtain rfl := sj h13
      exact ⟨(I90.pull 1).drop, e205, e206, e207, e208, e209, e210, e211, e212, q68, rfl, (ed11.trans ed10)⟩
     refine wk_ rfl rfl hc41 (aq_ rfl e207 (wk_ rfl rfl hc41 (bx_ rfl rfl (wk_ rfl rfl hc41 (aq_ (v := (vb (!a3))) rfl rfl ?_)))))
     rcases ifs h13 with ⟨hc42, h13⟩ | ⟨hc42, h13⟩
     ·
      refine wk_ rfl rfl hc42 (aq_ rfl q68 (wk_ rfl rfl hc42 (aq_ rfl e211 (wk_ rfl rfl hc42 (be_ rfl rfl rfl (wk_ rfl rfl hc41 (aw_ (a := (vb (decide (x24 < s1.2)))) rfl rfl hc42 rfl (wo_ (ap_ (b := (vb (decide (x24 < s1.2)))) rfl rfl hc41 rfl (ad_ ?_))))))))))
      obtain rfl := sj h13
      exact ⟨(I90.pull 1).drop, e205, e206, e207, e208, e209, e210, e211, e212, q68, rfl, (ed11.trans ed10)⟩
     refine ws_ rfl rfl hc42 (ws_ rfl rfl hc42 (ws_ rfl rfl hc42 (wk_ rfl rfl hc41 (ap_ (b := (vb false)) rfl rfl hc42 rfl (wo_ (ap_ (b := (vb false)) rfl rfl hc41 rfl (ad_ ?_)))))))
     obtain rfl := sj h13
     exact ⟨(I90.pull 1).drop, e205, e206, e207, e208, e209, e210, e211, e212, q68, rfl, (ed11.trans ed10)⟩
    refine ws_ rfl rfl hc40 (ws_ rfl rfl hc40 (ws_ rfl rfl hc40 (wk_ rfl rfl hc39 (ap_ (b := (vb false)) rfl rfl hc40 rfl (wo_ (ap_ (b := (vb false)) rfl rfl hc39 rfl (wm_ (v := (vb false)) rfl rfl (wk_ rfl rfl rfl (aq_ rfl e207 (wk_ rfl rfl rfl (bx_ rfl rfl (wk_ rfl rfl rfl (aq_ (v := (vb (!a3))) rfl rfl ?_)))))))))))))
    rcases ifs h13 with ⟨hc43, h13⟩ | ⟨hc43, h13⟩
    ·
     refine wk_ rfl rfl hc43 (aq_ rfl q68 (wk_ rfl rfl hc43 (aq_ rfl e211 (wk_ rfl rfl hc43 (be_ rfl rfl rfl (wk_ rfl rfl rfl (aw_ (a := (vb (decide (x24 < s1.2)))) rfl rfl hc43 rfl (wo_ (ap_ (b := (vb (decide (x24 < s1.2)))) rfl rfl rfl rfl (ad_ ?_))))))))))
     obtain rfl := sj h13
     exact ⟨(I90.pull 1).drop, e205, e206, e207, e208, e209, e210, e211, e212, q68, rfl, (ed11.trans ed10)⟩
    refine ws_ rfl rfl hc43 (ws_ rfl rfl hc43 (ws_ rfl rfl hc43 (wk_ rfl rfl rfl (ap_ (b := (vb false)) rfl rfl hc43 rfl (wo_ (ap_ (b := (vb false)) rfl rfl rfl rfl (ad_ ?_)))))))
    obtain rfl := sj h13
    exact ⟨(I90.pull 1).drop, e205, e206, e207, e208, e209, e210, e211, e212, q68, rfl, (ed11.trans ed10)⟩
   rintro f w ⟨I91, e214, e215, e216, e217, e218, e219, e220, e221, e222, e223, ed12⟩
   rcases ifs h10 with ⟨hc44, h10⟩ | ⟨hc44, h10⟩
   ·
    refine ah_ e223 hc44 (ab_ (aa_ (wm_ rfl e218 (wm_ rfl e221 ?_))))
    obtain ⟨x25, hx25, h10⟩ := bnd h10
    refine wo_ (ba_ (v := (.slice z10 m10 k10)) (i := (i1 : Int)) (e := x25) rfl Tryz.underlying28 sh3 rfl (Inv.rowSrc (I91.nth 0 rfl)) rfl hx25 (wo_ (li_ sh3 ((I91.nth 0 rfl).rowElem hx25) rfl (wa_ (v := (vi x25)) rfl rfl (ad_ (aa_ (wm_ rfl e222 (wa_ (v := (vi x24)) rfl rfl (ad_ (aa_ (wm_ rfl e221 (wo_ (bl_ rfl rfl rfl (wa_ (v := (vi (w64 ((i1 : Int) + 1)))) rfl rfl (ad_ ?_)))))))))))))))
    obtain rfl := sj h10
    exact ⟨_, (le56.trans le73), I91, e214, e215, e216, e217, e218, rfl, rfl, (bh_ hlt1 hk1), ed12⟩
   refine ai_ e223 hc44 (ar_ (aa_ (wm_ rfl e221 (wo_ (bl_ rfl rfl rfl (wa_ (v := (vi (w64 ((i1 : Int) + 1)))) rfl rfl (ad_ ?_)))))))
   obtain rfl := sj h10
   exact ⟨_, (le56.trans le73), I91, e214, e215, e216, e217, e218, e219, e220, (bh_ hlt1 hk1), ed12⟩
  rintro f w hI62
  obtain ⟨S74, le74, I92, e224, e225, e226, e227, e228, e229, e230, e231, ed13⟩ := hI62
  refine ab_ (ab_ (aa_ (wm_ rfl e231 (wm_ rfl e228 (wo_ (di_ (α := Int) rfl Tryz.underlying28 rfl (I92.nth 0 rfl) (wo_ (be_ rfl rfl rfl (ad_ (ai_ rfl (ep_ _) (bk_ ?_)))))))))))
  exact ⟨_, le74, I92, e224, e225, e226, e227, e228, e229, e230, ed13⟩
 rintro f w ⟨S75, le75, I93, e232, e233, e234, e235, e236, e237, e238, ed14⟩
 refine ab_ (aa_ (wm_ rfl e237 (wa_ (v := (vi out1.1)) rfl rfl (ad_ (ak_ ?_)))))
 obtain rfl := sj h
 exact ⟨ed14, (vi out1.1), (bo_ rfl rfl), _, [], ((le1.trans le2).trans le75), (I93).drop, rfl, rfl⟩
end Go.Proofs.YtlpdpeghgndmkaaGreat.Pad
