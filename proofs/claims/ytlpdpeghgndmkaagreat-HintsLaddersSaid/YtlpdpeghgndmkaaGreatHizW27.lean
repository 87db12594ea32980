/- A part of the proof: what the functions of the program compute, shown over the model. -/
import Derived.Test.YtlpdpeghgndmkaaGreatHizP
import Derived.Test.YtlpdpeghgndmkaaGreatHizW1
import Derived.Test.YtlpdpeghgndmkaaGreatHizW4
import Derived.Test.YtlpdpeghgndmkaaGreatHizW11
import Derived.Test.YtlpdpeghgndmkaaGreatHizW13
import Derived.Test.YtlpdpeghgndmkaaGreatHizW21
import Derived.Test.YtlpdpeghgndmkaaGreatHizW22
import Derived.KernelRfl
set_option linter.unusedVariables false
set_option maxHeartbeats 4000000
set_option maxRecDepth 100000
namespace Go.Proofs.YtlpdpeghgndmkaaGreat.Pad
open Go Go.Proofs
theorem ub_ {w : World} {S : PH} {Fr : List HP} {a0 : Riddle} {v0 : Value} {a1 : (List Aid)} {v1 : Value} {a2 : Int} {r : (List Int) × Int} (hI : Inv w S (Fr)) (h0_ : RV S v0 a0) (h1_ : RV S v1 a1) (h : ju_ a0 a1 a2 = some r) :
    Calls Tryz.prog 22 [v0, v1, (Value.int .i64 (a2))].toArray w (ln_ S Fr (fun T_ v_ O_ => ∃ (a0_ : Option Addr) (n0_ k0_ : Nat), v_ = (Value.tuple #[(Value.slice a0_ n0_ k0_), (Value.int .i64 (r.2))]) ∧ O_ = [Row (α := Int) 3 (Value.slice a0_ n0_ k0_) (r.1)])) := by
 unfold ju_ at h
 obtain ⟨c1, c2, c3, c4, e1, r1, r2, r3, r4⟩ := Riddle.inv h0_
 subst e1
 obtain ⟨z1, m1, k1, rfl⟩ := ac_ r1
 obtain ⟨z2, m2, k2, rfl⟩ := ac_ r2
 obtain ⟨z3, m3, k3, rfl⟩ := ac_ r3
 obtain ⟨z4, m4, k4, rfl⟩ := ac_ r4
 obtain ⟨z5, m5, k5, rfl⟩ := ac_ h1_
 refine aq_ (n := 39) Tryz.func22 rfl rfl rfl (ab_ (aa_ (wo_ (bi_ (v := (.agg #[(.slice z1 m1 k1), (.slice z2 m2 k2), (.slice z3 m3 k3), (.slice z4 m4 k4)])) rfl hI rfl (fun g1 w1 I1 => (wa_ (v := sn) rfl rfl (wa_ (v := (vi 0)) rfl rfl (ae_ (ab_ (ab_ (aa_ (wo_ (cq_ (l := [(.slice z1 m1 k1), (.slice z2 m2 k2), (.slice z3 m3 k3), (.slice z4 m4 k4)]) rfl gg_ (I1.nth 0 rfl) rfl rfl rfl (wm_ (v := (.slice z5 m5 k5)) rfl rfl (wm_ (v := (vi a2)) rfl rfl ?_)))))))))))))))
 obtain ⟨x1, hx1, h⟩ := bnd h
 refine wo_ (cv_ ca60 rfl I1 (fun Fr_ hF_ => ry_ hF_ (Riddle.rv (s := (⟨a0.Locks, a0.Codes, a0.Known, a0.Ties⟩ : Riddle)) r1 r2 r3 r4) h1_ hx1) (cr_ rfl rfl rfl) (fun w2 I2 => (wa_ (v := (vi x1)) rfl rfl (ae_ (ab_ (aa_ (wm_ (v := (vi x1)) rfl rfl (wo_ (ci_ rfl rfl rfl (ae_ ?_))))))))))
 rcases ifs h with ⟨hc1, h⟩ | ⟨hc1, h⟩
 ·
  refine ah_ rfl hc1 (ab_ (aa_ (wm_ (v := (vi x1)) rfl rfl (wa_ (v := sn) rfl rfl (wa_ (v := (vi x1)) rfl rfl (ae_ (al_ ?_)))))))
  have I3 := Inv.rowNil (α := Int) (T := 3) I2
  obtain rfl := sj h
  exact ⟨rfl, (Value.tuple #[sn, (vi x1)]), (vi_ rfl rfl rfl), _, [Row (α := Int) 3 sn (([] : List Int))], lr, (I3.pull 1).drop, _, _, _, rfl, rfl⟩
 refine aj_ rfl hc1 (ar_ (ab_ (aa_ (wa_ (v := sn) rfl rfl (ae_ (ab_ (ab_ (aa_ (wo_ (cq_ (l := [(.slice z1 m1 k1), (.slice z2 m2 k2), (.slice z3 m3 k3), (.slice z4 m4 k4)]) rfl gg_ (I2.nth 0 rfl) rfl rfl rfl (wm_ (v := (.slice z5 m5 k5)) rfl rfl (wm_ (v := (vi a2)) rfl rfl ?_))))))))))))
 obtain ⟨x2, hx2, h⟩ := bnd h
 refine wo_ (cv_ ca61 rfl I2 (fun Fr_ hF_ => qm_ hF_ (Riddle.rv (s := (⟨a0.Locks, a0.Codes, a0.Known, a0.Ties⟩ : Riddle)) r1 r2 r3 r4) h1_ hx2) (args4 rfl rfl rfl rfl) (fun w3 I4 => (wa_ (v := (vi x2)) rfl rfl (ae_ ?_))))
 have I103 := Inv.rowNil (α := Int) (T := 3) I4
 obtain ⟨out1, hrun1, h⟩ := bnd h
 refine bn_ (fun f w => ∃ (S_ : PH) (z127 : Option Addr) (m127 k127 : Nat) (z128 : Option Addr) (m128 k128 : Nat) (z129 : Option Addr) (m129 k129 : Nat) (z130 : Option Addr) (m130 k130 : Nat) (z131 : Option Addr) (m131 k131 : Nat), S.Le S_ ∧ Inv w S_ (am_ g1 27 #[(.slice z127 m127 k127), (.slice z128 m128 k128), (.slice z129 m129 k129), (.slice z130 m130 k130)] :: Row (α := Int) 3 (.slice z131 m131 k131) (out1.2.2.2.2.1) :: Fr) ∧ f 1 = (.slice z5 m5 k5) ∧ f 2 = (vi a2) ∧ f 3 = (pt_ g1) ∧ f 9 = (.slice z131 m131 k131) ∧ f 10 = (vi out1.2.2.2.2.2) ∧ RV S_ (.slice z127 m127 k127) out1.1 ∧ RV S_ (.slice z128 m128 k128) out1.2.1 ∧ RV S_ (.slice z129 m129 k129) out1.2.2.1 ∧ RV S_ (.slice z130 m130 k130) out1.2.2.2.1 ∧ f.ds = []) ?_ ?_
 ·
  refine au_ ?_
  refine ii_ (I := fun (s1 : ((List CodeLock) × (List (List Int)) × (List (List Clue)) × (List Tie) × List Int × Int)) (f : Frm) (w : World) => ∃ (S_ : PH) (z122 : Option Addr) (m122 k122 : Nat) (z123 : Option Addr) (m123 k123 : Nat) (z124 : Option Addr) (m124 k124 : Nat) (z125 : Option Addr) (m125 k125 : Nat) (z126 : Option Addr) (m126 k126 : Nat), S.Le S_ ∧ Inv w S_ (am_ g1 27 #[(.slice z122 m122 k122), (.slice z123 m123 k123), (.slice z124 m124 k124), (.slice z125 m125 k125)] :: Row (α := Int) 3 (.slice z126 m126 k126) (s1.2.2.2.2.1) :: Fr) ∧ f 1 = (.slice z5 m5 k5) ∧ f 2 = (vi a2) ∧ f 3 = (pt_ g1) ∧ f 9 = (.slice z126 m126 k126) ∧ f 10 = (vi s1.2.2.2.2.2) ∧ RV S_ (.slice z122 m122 k122) s1.1 ∧ RV S_ (.slice z123 m123 k123) s1.2.1 ∧ RV S_ (.slice z124 m124 k124) s1.2.2.1 ∧ RV S_ (.slice z125 m125 k125) s1.2.2.2.1 ∧ f.ds = []) hrun1 ⟨_, _, _, _, _, _, _, _, _, _, _, _, _, _, _, _, lr, (I103.pull 1), rfl, rfl, rfl, rfl, rfl, r1, r2, r3, r4, rfl⟩ ?_
  rintro s1 f w o1 hI49 h1 hout1
  obtain ⟨S59, z122, m122, k122, z123, m123, k123, z124, m124, k124, z125, m125, k125, z126, m126, k126, le59, I104, e187, e188, e189, e190, e191, r129, r130, r131, r132, ed13⟩ := hI49
  refine ab_ (ab_ (aa_ (wm_ rfl e191 (wo_ (lu_ rfl rfl rfl (ae_ ?_))))))
  rcases ifs h1 with ⟨hc8, h1⟩ | ⟨hc8, h1⟩
  ·
   refine ah_ rfl hc8 (ar_ (ab_ (au_ (ab_ (aa_ (wm_ rfl e190 (wm_ rfl e191 (wo_ (bd_ (vs := [(vi s1.2.2.2.2.2)]) (r := ([s1.2.2.2.2.2] : List Int)) rfl Tryz.underlying28 el3 (ev_ rfl) rfl (by decide) (by decide) ⟨(dq_ _), trivial⟩ I104 (fun u43 w89 I105 => ?_))))))))))
   obtain ⟨z132, m132, k132, e192⟩ := bc_ I105
   subst e192
   obtain ⟨x27, hx27, h1⟩ := bnd h1
   refine wo_ (bs_ (α := Int) (v := (.slice z126 m126 k126)) (u := (.slice z132 m132 k132)) rfl rfl Tryz.underlying28 el3 (by decide) (by decide) rfl rfl (I105.pull 2) (Inv.rowSrc (I105.nth 0 rfl)) hx27 (fun u44 w90 I106 => ?_))
   obtain ⟨z133, m133, k133, e193⟩ := bc_ I106
   subst e193
   refine wa_ (v := (.slice z133 m133 k133)) rfl rfl (ae_ ?_)
   obtain ⟨x28, hx28, h1⟩ := bnd h1
   obtain ⟨x29, hx29, h1⟩ := bnd h1
   refine bg_ (sps := [⟨some 32, [], [0], fun vs_ T_ => fr0 vs_ 0 = (.agg #[(.slice z122 m122 k122), (.slice z123 m123 k123), (.slice z124 m124 k124), (.slice z125 m125 k125)]), [0], [], [], fun _ h_ => h_⟩, spV 33 [] 1 (.slice z5 m5 k5), spV 34 [] 2 (vi s1.2.2.2.2.2), spV 35 [1, 2] 3 (af_ (.slice z5 m5 k5) (s1.2.2.2.2.2) (Enc.sz Aid)), spR 36 [1, 2, 3] 4 x28, spR 37 [0, 1, 2, 3, 4] 5 x29, ⟨none, (lrg 6), [], fun vs_ T_ => True, [], [0], [1], fun _ h_ => h_⟩]) (tks := [⟨none, some 6, [], fun vs_ => am_ g1 27 #[(.slice z122 m122 k122), (.slice z123 m123 k123), (.slice z124 m124 k124), (.slice z125 m125 k125)]⟩, ⟨some 6, none, [5], fun vs_ => am_ g1 27 #[(gf_ (fr0 vs_ 0) 0), (gf_ (fr0 vs_ 0) 1), (gf_ (fr0 vs_ 0) 2), (gf_ (fr0 vs_ 0) 3)]⟩]) (O := Row (α := Int) 3 (.slice z133 m133 k133) (x27) :: Row (α := Int) 3 (.slice z132 m132 k132) (([s1.2.2.2.2.2] : List Int)) :: Fr) rfl (by kernel_rfl) (I106.pull 2) ⟨?_, ob_ rfl fun l A K I => (ap_ rfl ((K 1 (ag_ rfl)).trans e187) (fo I)), ob_ rfl fun l A K I => (ap_ rfl ((K 10 (ag_ rfl)).trans e191) (fo I)), ob_ rfl fun l A K I => (ix_ Tryz.underlying45 rt_ (h1_.mono (le59.trans l)) hx28 (A.v 0 rfl) (A.v 1 rfl) (fo I)), ?_, ?_, ?_, trivial⟩ ?_
   ·
    intro vs f w_ U X le A K I
    have I108 : Inv w_ U (am_ g1 27 #[(Value.slice z122 m122 k122), (Value.slice z123 m123 k123), (Value.slice z124 m124 k124), (Value.slice z125 m125 k125)] :: X) := I
    refine pl_ rfl (cq_ (l := [(.slice z122 m122 k122), (.slice z123 m123 k123), (.slice z124 m124 k124), (.slice z125 m125 k125)]) rfl gg_ (I108.nth 0 rfl) ((K 3 (ag_ rfl)).trans e189) rfl rfl (fo I108))
   ·
    intro vs f w_ U X le A K I
    have q45 := A.v 2 rfl
    refine pl_ rfl (az_ rfl rt_ q45 ((h1_.mono (le59.trans le)).elem I.in_ hx28) (fun u46 hu32 => ?_))
    obtain ⟨c95, e194, r137⟩ := Aid.inv hu32
    subst e194
    obtain ⟨z134, m134, k134, rfl⟩ := ac_ r137
    refine ⟨_, _, rfl, lr, ?_, ?_⟩
    · exact (Aid.rv (s := x28) r137)
    exact I
   ·
    intro vs f w_ U X le A K I
    have q46 := A.v 0 rfl
    have q47 : f 36 = vs 4 := (A.at_ 4 rfl _ rfl).1 _ rfl
    have r138 : RV U (vs 4) x28 := (A.at_ 4 rfl _ rfl).2
    obtain ⟨u47, hu33⟩ : ∃ u, vs 4 = u := ⟨_, rfl⟩
    rw [hu33] at q47 r138
    obtain ⟨c96, e196, r139⟩ := Aid.inv r138
    subst e196
    obtain ⟨z135, m135, k135, rfl⟩ := ac_ r139
    refine pl_ rfl (cl_ ca39 rfl (io_ I (Riddle.rv (s := (⟨s1.1, s1.2.1, s1.2.2.1, s1.2.2.2.1⟩ : Riddle)) (r129.mono le) (r130.mono le) (r131.mono le) (r132.mono le)) (Aid.rv (s := x28) r139) hx29) (br_ q46 q47) (fun cv7 w98 S66 O7 le66 I114 hv7 => ?_))
    obtain ⟨c97, rfl, rfl, r140⟩ := hv7
    obtain ⟨c98, c99, c100, c101, e198, r141, r142, r143, r144⟩ := Riddle.inv r140
    subst e198
    obtain ⟨z136, m136, k136, rfl⟩ := ac_ r141
    obtain ⟨z137, m137, k137, rfl⟩ := ac_ r142
    obtain ⟨z138, m138, k138, rfl⟩ := ac_ r143
    obtain ⟨z139, m139, k139, rfl⟩ := ac_ r144
    refine ⟨_, _, rfl, le66, ?_, ?_⟩
    · exact (Riddle.rv (s := x29) r141 r142 r143 r144)
    exact I114
   ·
    intro vs f w_ U X le A K I
    have I115 : Inv w_ U (am_ g1 27 #[(Value.slice z122 m122 k122), (Value.slice z123 m123 k123), (Value.slice z124 m124 k124), (Value.slice z125 m125 k125)] :: X) := I
    have q48 : f 37 = vs 5 := (A.at_ 5 rfl _ rfl).1 _ rfl
    have r145 : RV U (vs 5) x29 := (A.at_ 5 rfl _ rfl).2
    obtain ⟨u48, hu34⟩ : ∃ u, vs 5 = u := ⟨_, rfl⟩
    rw [hu34] at q48 r145
    obtain ⟨c102, c103, c104, c105, e203, r146, r147, r148, r149⟩ := Riddle.inv r145
    subst e203
    obtain ⟨z140, m140, k140, rfl⟩ := ac_ r146
    obtain ⟨z141, m141, k141, rfl⟩ := ac_ r147
    obtain ⟨z142, m142, k142, rfl⟩ := ac_ r148
    obtain ⟨z143, m143, k143, rfl⟩ := ac_ r149
    refine pl_ rfl (bb_ (v := (.agg #[(.slice z140 m140 k140), (.slice z141 m141 k141), (.slice z142 m142 k142), (.slice z143 m143 k143)])) (cs := #[(.slice z122 m122 k122), (.slice z123 m123 k123), (.slice z124 m124 k124), (.slice z125 m125 k125)]) gg_ I115 ((K 3 (ag_ rfl)).trans e189) q48 rfl nb rfl (fun w100 (I116 : Inv w100 U (am_ g1 27 #[(.slice z140 m140 k140), (.slice z141 m141 k141), (.slice z142 m142 k142), (.slice z143 m143 k143)] :: X)) => (⟨undef, _, rfl, lr, ?_, ?_⟩)))
    · exact trivial
    show Inv _ _ (am_ g1 27 #[(gf_ (vs 5) 0), (gf_ (vs 5) 1), (gf_ (vs 5) 2), (gf_ (vs 5) 3)] :: X)
    simp only [hu34]
    exact I116
   intro vs56 f w101 S68 ed14 le68 hF7 hK56 hI57
   have e208 : f 1 = (Value.slice z5 m5 k5) := (hK56 1 (ak_ rfl)).trans e187
   have e209 : f 2 = (vi a2) := (hK56 2 (ak_ rfl)).trans e188
   have e210 : f 3 = (pt_ g1) := (hK56 3 (ak_ rfl)).trans e189
   have e211 : f 9 = (Value.slice z133 m133 k133) := (hK56 9 (ak_ rfl)).trans rfl
   have I117 : Inv w101 S68 (am_ g1 27 #[(gf_ (vs56 5) 0), (gf_ (vs56 5) 1), (gf_ (vs56 5) 2), (gf_ (vs56 5) 3)] :: Row (α := Int) 3 (Value.slice z133 m133 k133) (x27) :: Row (α := Int) 3 (Value.slice z132 m132 k132) (([s1.2.2.2.2.2] : List Int)) :: Fr) := hI57
   have q49 : f 37 = vs56 5 := (hF7.at_ 5 rfl _ rfl).1 _ rfl
   have r150 : RV S68 (vs56 5) x29 := (hF7.at_ 5 rfl _ rfl).2
   obtain ⟨u49, hu35⟩ : ∃ u, vs56 5 = u := ⟨_, rfl⟩
   rw [hu35] at q49 r150
   have I118 := I117
   rw [hu35] at I118
   obtain ⟨c106, c107, c108, c109, e212, r151, r152, r153, r154⟩ := Riddle.inv r150
   subst e212
   obtain ⟨z144, m144, k144, rfl⟩ := ac_ r151
   obtain ⟨z145, m145, k145, rfl⟩ := ac_ r152
   obtain ⟨z146, m146, k146, rfl⟩ := ac_ r153
   obtain ⟨z147, m147, k147, rfl⟩ := ac_ r154
   refine aa_ (wo_ (cq_ (l := [(.slice z144 m144 k144), (.slice z145 m145 k145), (.slice z146 m146 k146), (.slice z147 m147 k147)]) rfl gg_ (I118.nth 0 rfl) e210 rfl rfl (wm_ rfl e208 (wm_ rfl e209 ?_))))
   obtain ⟨x30, hx30, h1⟩ := bnd h1
   refine wo_ (cv_ ca61 rfl I118 (fun Fr_ hF_ => qm_ hF_ (Riddle.rv (s := x29) r151 r152 r153 r154) (h1_.mono (le59.trans le68)) hx30) (args4 rfl rfl rfl rfl) (fun w102 I119 => (wa_ (v := (vi x30)) rfl rfl (ae_ ?_))))
   obtain rfl := sj h1
   exact ⟨_, rfl, _, _, _, _, _, _, _, _, _, _, _, _, _, _, _, _, (le59.trans le68), (((I119.pull 2).drop.pull 1).pull 1), e208, e209, e210, e211, rfl, r151, r152, r153, r154, (ed14.trans ed13)⟩
  refine aj_ rfl hc8 (bj_ ?_)
  obtain rfl := sj h1
  obtain rfl := (hout1 _ rfl)
  exact ⟨_, _, _, _, _, _, _, _, _, _, _, _, _, _, _, _, le59, ((I104.pull 1).pull 1), e187, e188, e189, e190, e191, r129, r130, r131, r132, ed13⟩
 rintro f w ⟨S69, z127, m127, k127, z128, m128, k128, z129, m129, k129, z130, m130, k130, z131, m131, k131, le69, I120, e217, e218, e219, e220, e221, r133, r134, r135, r136, ed15⟩
 refine ab_ (aa_ (wm_ rfl e220 (wa_ (v := (.slice z131 m131 k131)) rfl rfl (wa_ (v := (vi 0)) rfl rfl (ae_ (al_ ?_))))))
 obtain rfl := sj h
 exact ⟨ed15, (Value.tuple #[(.slice z131 m131 k131), (vi 0)]), (vi_ rfl rfl rfl), _, [Row (α := Int) 3 (.slice z131 m131 k131) (out1.2.2.2.2.1)], le69, (I120).drop, _, _, _, rfl, rfl⟩
theorem nw_ {w : World} {S : PH} {Fr : List HP} {a0 : Riddle} {v0 : Value} {a1 : (List Aid)} {v1 : Value} {a2 : Int} {r : Bool} (hI : Inv w S (Fr)) (h0_ : RV S v0 a0) (h1_ : RV S v1 a1) (h : gb_ a0 a1 a2 = some r) :
    Calls Tryz.prog 5 [v0, v1, (Value.int .i64 (a2))].toArray w (cb_ S Fr (Value.bool (r))) := by
 unfold gb_ at h
 obtain ⟨c1, c2, c3, c4, e1, r1, r2, r3, r4⟩ := Riddle.inv h0_
 subst e1
 obtain ⟨z1, m1, k1, rfl⟩ := ac_ r1
 obtain ⟨z2, m2, k2, rfl⟩ := ac_ r2
 obtain ⟨z3, m3, k3, rfl⟩ := ac_ r3
 obtain ⟨z4, m4, k4, rfl⟩ := ac_ r4
 obtain ⟨z5, m5, k5, rfl⟩ := ac_ h1_
 refine aq_ (n := 49) Tryz.func5 rfl rfl rfl (ab_ (aa_ (wo_ (bi_ (v := (.agg #[(.slice z1 m1 k1), (.slice z2 m2 k2), (.slice z3 m3 k3), (.slice z4 m4 k4)])) rfl hI rfl (fun g1 w1 I1 => ?_)))))
 obtain ⟨S1, le1, I2, p1⟩ := Inv.boxFreeze (x := a0) I1 (Riddle.rv (s := a0) r1 r2 r3 r4)
 refine wa_ (v := (vb false)) rfl rfl (ae_ ?_)
 obtain ⟨ov1, h2, h⟩ := bnd h
 refine kq_ (fun f w => ∃ v1, ov1 = Sum.inl v1 ∧ Inv w S1 (Fr) ∧ f 1 = (.slice z5 m5 k5) ∧ f 2 = (vi a2) ∧ f 3 = (pt_ g1) ∧ f.ds = []) ?_ ?_
 ·
  refine ab_ (aa_ (wo_ (ld_ gg_ (p1.at_ I2) rfl (fun u2 hu2 => ?_))))
  obtain ⟨c9, c10, c11, c12, e12, r9, r10, r11, r12⟩ := Riddle.inv hu2
  subst e12
  obtain ⟨z10, m10, k10, rfl⟩ := ac_ r9
  obtain ⟨z11, m11, k11, rfl⟩ := ac_ r10
  obtain ⟨z12, m12, k12, rfl⟩ := ac_ r11
  obtain ⟨z13, m13, k13, rfl⟩ := ac_ r12
  obtain ⟨x4, hx4, h2⟩ := bnd h2
  refine wo_ (cv_ ca9 rfl I2 (fun Fr_ hF_ => vq_ hF_ (Riddle.rv (s := a0) r9 r10 r11 r12) hx4) (em_ rfl) (fun w5 I6 => (wm_ (v := (vb x4)) rfl rfl ?_)))
  rcases ifs h2 with ⟨hc4, h2⟩ | ⟨hc4, h2⟩
  ·
   refine ws_ rfl rfl hc4 (ws_ rfl rfl hc4 (ws_ rfl rfl hc4 (ws_ rfl rfl hc4 (fq_ rfl rfl rfl rfl rfl (fq_ rfl rfl rfl rfl rfl (fq_ rfl rfl rfl rfl rfl (ws_ rfl rfl hc4 (wo_ (aw_ (a := (vb true)) rfl rfl hc4 rfl (ae_ (ah_ rfl rfl (ab_ (aa_ ?_)))))))))))))
   obtain ⟨x5, hx5, h2⟩ := bnd h2
   refine wo_ (cv_ ca10 rfl I6 (fun Fr_ hF_ => mf_ hF_  hx5) args0 (fun w6 I7 => (wa_ (v := (vb x5)) rfl rfl (ae_ (al_ ?_)))))
   obtain rfl := sj h2
   have h3 := h
   obtain rfl := sj h3
   exact ⟨rfl, (vb x5), (bq_ rfl rfl), _, [], le1, I7, rfl, rfl⟩
  refine wk_ rfl rfl hc4 (ap_ (v := (.slice z5 m5 k5)) rfl rfl (wk_ rfl rfl hc4 (ay_ rfl Tryz.underlying45 rfl (h1_.mono le1) (wk_ rfl rfl hc4 (lt_ rfl rfl rfl (wk_ rfl rfl hc4 (ap_ (v := (vb (decide (6 < (a1.length : Int))))) rfl rfl ?_)))))))
  rcases ifs h2 with ⟨hc5, h2⟩ | ⟨hc5, h2⟩
  ·
   refine wk_ rfl rfl hc5 (ap_ (v := (.slice z5 m5 k5)) rfl rfl (wk_ rfl rfl hc5 (ay_ rfl Tryz.underlying45 rfl (h1_.mono le1) (wk_ rfl rfl hc5 (sr_ rfl rfl rfl (wk_ rfl rfl hc4 (aw_ (a := (vb (decide ((a1.length : Int) ≤ 20)))) rfl rfl hc5 rfl (wo_ (ao_ (b := (vb (decide ((a1.length : Int) ≤ 20)))) rfl rfl hc4 rfl (ae_ ?_))))))))))
   rcases ifs h2 with ⟨hc6, h2⟩ | ⟨hc6, h2⟩
   ·
    refine ah_ rfl hc6 (ab_ (aa_ ?_))
    obtain ⟨x6, hx6, h2⟩ := bnd h2
    refine wo_ (cv_ ca10 rfl I6 (fun Fr_ hF_ => mf_ hF_  hx6) args0 (fun w7 I8 => (wa_ (v := (vb x6)) rfl rfl (ae_ (al_ ?_)))))
    obtain rfl := sj h2
    have h3 := h
    obtain rfl := sj h3
    exact ⟨rfl, (vb x6), (bq_ rfl rfl), _, [], le1, I8, rfl, rfl⟩
   refine aj_ rfl hc6 (ar_ ?_)
   obtain rfl := sj h2
   exact ⟨_, rfl, I6, rfl, rfl, rfl, rfl⟩
  refine ws_ rfl rfl hc5 (ws_ rfl rfl hc5 (ws_ rfl rfl hc5 (wk_ rfl rfl hc4 (ao_ (b := (vb false)) rfl rfl hc5 rfl (wo_ (ao_ (b := (vb false)) rfl rfl hc4 rfl (ae_ (aj_ rfl rfl (ar_ ?_)))))))))
  obtain rfl := sj h2
  exact ⟨_, rfl, I6, rfl, rfl, rfl, rfl⟩
 rintro f w ⟨v1, rfl, I9, e17, e18, e19, ed1⟩
 have h := ea_ h
 refine ab_ (aa_ (wo_ (az_ rfl gg_ e19 (p1.at_ I9) (fun u3 hu3 => ?_))))
 obtain ⟨c13, c14, c15, c16, e20, r13, r14, r15, r16⟩ := Riddle.inv hu3
 subst e20
 obtain ⟨z14, m14, k14, rfl⟩ := ac_ r13
 obtain ⟨z15, m15, k15, rfl⟩ := ac_ r14
 obtain ⟨z16, m16, k16, rfl⟩ := ac_ r15
 obtain ⟨z17, m17, k17, rfl⟩ := ac_ r16
 refine wm_ rfl e17 (wm_ rfl e18 ?_)
 obtain ⟨x7, hx7, h⟩ := bnd h
 refine wo_ (cl_ ca21 rfl (uw_ I9 (Riddle.rv (s := a0) r13 r14 r15 r16) (h1_.mono le1) hx7) (cr_ rfl rfl rfl) (fun cv1 w8 S2 O1 le2 I10 hv1 => ?_))
 obtain ⟨z18, m18, k18, rfl, rfl⟩ := hv1
 refine wm_ (v := (Value.tuple #[(.slice z18 m18 k18), (vi x7.2)])) rfl rfl (wo_ (bl_ (v := (.slice z18 m18 k18)) rfl rfl rfl (wo_ (bl_ (v := (vi x7.2)) rfl rfl rfl (wa_ (v := (.slice z18 m18 k18)) rfl rfl (wa_ (v := (vi x7.2)) rfl rfl (ae_ (ab_ (aa_ (wo_ (az_ rfl gg_ e19 ((p1.mono le2).at_ I10) (fun u4 hu4 => ?_))))))))))))
 obtain ⟨c17, c18, c19, c20, e25, r17, r18, r19, r20⟩ := Riddle.inv hu4
 subst e25
 obtain ⟨z19, m19, k19, rfl⟩ := ac_ r17
 obtain ⟨z20, m20, k20, rfl⟩ := ac_ r18
 obtain ⟨z21, m21, k21, rfl⟩ := ac_ r19
 obtain ⟨z22, m22, k22, rfl⟩ := ac_ r20
 refine wm_ rfl e17 (wm_ rfl e18 ?_)
 obtain ⟨x8, hx8, h⟩ := bnd h
 refine wo_ (cl_ ca22 rfl (ub_ I10 (Riddle.rv (s := a0) r17 r18 r19 r20) (h1_.mono (le1.trans le2)) hx8) (cr_ rfl rfl rfl) (fun cv2 w9 S3 O2 le3 I11 hv2 => ?_))
 obtain ⟨z23, m23, k23, rfl, rfl⟩ := hv2
 refine wm_ (v := (Value.tuple #[(.slice z23 m23 k23), (vi x8.2)])) rfl rfl (wo_ (bl_ (v := (.slice z23 m23 k23)) rfl rfl rfl (wo_ (bl_ (v := (vi x8.2)) rfl rfl rfl (wa_ (v := (.slice z23 m23 k23)) rfl rfl (wa_ (v := (vi x8.2)) rfl rfl (ae_ (ab_ (aa_ (wm_ (v := (vi x7.2)) rfl rfl (wm_ (v := (vi x8.2)) rfl rfl (wo_ (bm_ rfl rfl rfl (wm_ (v := (vb (x7.2 == x8.2))) rfl rfl ?_))))))))))))))
 rcases ifs h with ⟨hc7, h⟩ | ⟨hc7, h⟩
 ·
  refine wk_ rfl rfl hc7 (ap_ (v := (.slice z18 m18 k18)) rfl rfl (wk_ rfl rfl hc7 (ap_ (v := (.slice z23 m23 k23)) rfl rfl ?_)))
  obtain ⟨x9, hx9, h⟩ := bnd h
  obtain ⟨S4, Fr1, le4, I12, r21, r22, bk1⟩ := Inv.lend2 (I11.pull 1)
  refine wk_ rfl rfl hc7 (cl_ ca18 rfl (gw_ I12 r21 r22 hx9) (br_ rfl rfl) (fun cv3 w10 S5 O3 le5 I14 hv3 => ?_))
  obtain ⟨rfl, rfl⟩ := hv3
  have I13 := bk1 [] trivial I14 le5
  refine wo_ (aw_ (a := (vb x9)) rfl rfl hc7 rfl (wm_ (v := (vb x9)) rfl rfl ?_))
  rcases ifs h with ⟨hc8, h⟩ | ⟨hc8, h⟩
  ·
   obtain ⟨x10, hx10, h⟩ := bnd h
   refine wk_ rfl rfl hc8 (cv_ ca10 rfl I13 (fun Fr_ hF_ => mf_ hF_  hx10) args0 (fun w11 I15 => (wo_ (aw_ (a := (vb x10)) rfl rfl hc8 rfl (wa_ (v := (vb x10)) rfl rfl (ae_ (al_ ?_)))))))
   obtain rfl := sj h
   exact ⟨ed1, (vb x10), (bq_ rfl rfl), _, [], ((le1.trans le2).trans le3), ((I15).drop).drop, rfl, rfl⟩
  refine ws_ rfl rfl hc8 (wo_ (ao_ (b := (vb false)) rfl rfl hc8 rfl (wa_ (v := (vb false)) rfl rfl (ae_ (al_ ?_)))))
  obtain rfl := sj h
  exact ⟨ed1, (vb false), (bq_ rfl rfl), _, [], ((le1.trans le2).trans le3), ((I13).drop).drop, rfl, rfl⟩
 refine ws_ rfl rfl hc7 (ws_ rfl rfl hc7 (ws_ rfl rfl hc7 (wo_ (ao_ (b := (vb false)) rfl rfl hc7 rfl (wm_ (v := (vb false)) rfl rfl (ws_ rfl rfl rfl (wo_ (ao_ (b := (vb false)) rfl rfl rfl rfl (wa_ (v := (vb false)) rfl rfl (ae_ (al_ ?_)))))))))))
 obtain rfl := sj h
 exact ⟨ed1, (vb false), (bq_ rfl rfl), _, [], ((le1.trans le2).trans le3), ((I11).drop).drop, rfl, rfl⟩
end Go.Proofs.YtlpdpeghgndmkaaGreat.Pad
