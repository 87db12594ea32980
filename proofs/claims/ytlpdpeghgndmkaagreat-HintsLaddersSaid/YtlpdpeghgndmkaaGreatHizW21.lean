/- A part of the proof: what the functions of the program compute, shown over the model. -/
import Derived.Test.YtlpdpeghgndmkaaGreatHizP
import Derived.Test.YtlpdpeghgndmkaaGreatHizW10
import Derived.Test.YtlpdpeghgndmkaaGreatHizW16
import Derived.KernelRfl
set_option linter.unusedVariables false
set_option maxHeartbeats 4000000
set_option maxRecDepth 100000
namespace Go.Proofs.YtlpdpeghgndmkaaGreat.Pad
open Go Go.Proofs
theorem uw_ {w : World} {S : PH} {Fr : List HP} {a0 : Riddle} {v0 : Value} {a1 : (List Aid)} {v1 : Value} {a2 : Int} {r : (List Int) × Int} (hI : Inv w S (Fr)) (h0_ : RV S v0 a0) (h1_ : RV S v1 a1) (h : jx_ a0 a1 a2 = some r) :
    Calls Tryz.prog 21 [v0, v1, (Value.int .i64 (a2))].toArray w (ln_ S Fr (fun T_ v_ O_ => ∃ (a0_ : Option Addr) (n0_ k0_ : Nat), v_ = (Value.tuple #[(Value.slice a0_ n0_ k0_), (Value.int .i64 (r.2))]) ∧ O_ = [Row (α := Int) 3 (Value.slice a0_ n0_ k0_) (r.1)])) := by
 unfold jx_ at h
 obtain ⟨c1, c2, c3, c4, e1, r1, r2, r3, r4⟩ := Riddle.inv h0_
 subst e1
 obtain ⟨z1, m1, k1, rfl⟩ := ac_ r1
 obtain ⟨z2, m2, k2, rfl⟩ := ac_ r2
 obtain ⟨z3, m3, k3, rfl⟩ := ac_ r3
 obtain ⟨z4, m4, k4, rfl⟩ := ac_ r4
 obtain ⟨z5, m5, k5, rfl⟩ := ac_ h1_
 refine aq_ (n := 34) Tryz.func21 rfl rfl rfl (ab_ (aa_ (wo_ (bi_ (v := (.agg #[(.slice z1 m1 k1), (.slice z2 m2 k2), (.slice z3 m3 k3), (.slice z4 m4 k4)])) rfl hI rfl (fun g1 w1 I1 => (wa_ (v := sn) rfl rfl (wa_ (v := (vi 0)) rfl rfl (ae_ (ab_ (ab_ (aa_ (wo_ (cq_ (l := [(.slice z1 m1 k1), (.slice z2 m2 k2), (.slice z3 m3 k3), (.slice z4 m4 k4)]) rfl gg_ (I1.nth 0 rfl) rfl rfl rfl (wm_ (v := (.slice z5 m5 k5)) rfl rfl (wm_ (v := (vi a2)) rfl rfl ?_)))))))))))))))
 obtain ⟨x1, hx1, h⟩ := bnd h
 refine wo_ (cv_ ca57 rfl I1 (fun Fr_ hF_ => rg_ hF_ (Riddle.rv (s := (⟨a0.Locks, a0.Codes, a0.Known, a0.Ties⟩ : Riddle)) r1 r2 r3 r4) h1_ hx1) (cr_ rfl rfl rfl) (fun w2 I2 => (wa_ (v := (vi x1)) rfl rfl (ae_ (ab_ (aa_ (wm_ (v := (vi x1)) rfl rfl (wo_ (ci_ rfl rfl rfl (ae_ ?_))))))))))
 rcases ifs h with ⟨hc1, h⟩ | ⟨hc1, h⟩
 ·
  refine ah_ rfl hc1 (ab_ (aa_ (wm_ (v := (vi x1)) rfl rfl (wa_ (v := sn) rfl rfl (wa_ (v := (vi x1)) rfl rfl (ae_ (al_ ?_)))))))
  have I3 := Inv.rowNil (α := Int) (T := 3) I2
  obtain rfl := sj h
  exact ⟨rfl, (Value.tuple #[sn, (vi x1)]), (vi_ rfl rfl rfl), _, [Row (α := Int) 3 sn (([] : List Int))], lr, (I3.pull 1).drop, _, _, _, rfl, rfl⟩
 refine aj_ rfl hc1 (ar_ ?_)
 have I102 := Inv.rowNil (α := Int) (T := 3) I2
 obtain ⟨o2, hrun1, h⟩ := bnd h
 refine bn_ (fun f w => ∃ out1, o2 = Sum.inl out1 ∧ ∃ (S_ : PH) (z127 : Option Addr) (m127 k127 : Nat) (z128 : Option Addr) (m128 k128 : Nat) (z129 : Option Addr) (m129 k129 : Nat) (z130 : Option Addr) (m130 k130 : Nat) (z131 : Option Addr) (m131 k131 : Nat), S.Le S_ ∧ Inv w S_ (am_ g1 27 #[(.slice z127 m127 k127), (.slice z128 m128 k128), (.slice z129 m129 k129), (.slice z130 m130 k130)] :: Row (α := Int) 3 (.slice z131 m131 k131) (out1.2.2.2.2) :: Fr) ∧ f 1 = (.slice z5 m5 k5) ∧ f 2 = (vi a2) ∧ f 3 = (pt_ g1) ∧ f 6 = (.slice z131 m131 k131) ∧ f 7 = (vi 0) ∧ RV S_ (.slice z127 m127 k127) out1.1 ∧ RV S_ (.slice z128 m128 k128) out1.2.1 ∧ RV S_ (.slice z129 m129 k129) out1.2.2.1 ∧ RV S_ (.slice z130 m130 k130) out1.2.2.2.1 ∧ f.ds = []) ?_ ?_
 ·
  refine au_ ?_
  refine ii_ (I := fun (s1 : ((List CodeLock) × (List (List Int)) × (List (List Clue)) × (List Tie) × List Int)) (f : Frm) (w : World) => ∃ (S_ : PH) (z122 : Option Addr) (m122 k122 : Nat) (z123 : Option Addr) (m123 k123 : Nat) (z124 : Option Addr) (m124 k124 : Nat) (z125 : Option Addr) (m125 k125 : Nat) (z126 : Option Addr) (m126 k126 : Nat), S.Le S_ ∧ Inv w S_ (am_ g1 27 #[(.slice z122 m122 k122), (.slice z123 m123 k123), (.slice z124 m124 k124), (.slice z125 m125 k125)] :: Row (α := Int) 3 (.slice z126 m126 k126) (s1.2.2.2.2) :: Fr) ∧ f 1 = (.slice z5 m5 k5) ∧ f 2 = (vi a2) ∧ f 3 = (pt_ g1) ∧ f 6 = (.slice z126 m126 k126) ∧ f 7 = (vi 0) ∧ RV S_ (.slice z122 m122 k122) s1.1 ∧ RV S_ (.slice z123 m123 k123) s1.2.1 ∧ RV S_ (.slice z124 m124 k124) s1.2.2.1 ∧ RV S_ (.slice z125 m125 k125) s1.2.2.2.1 ∧ f.ds = []) hrun1 ⟨_, _, _, _, _, _, _, _, _, _, _, _, _, _, _, _, lr, (I102.pull 1), rfl, rfl, rfl, rfl, rfl, r1, r2, r3, r4, rfl⟩ ?_
  rintro s1 f w o1 hI49 h1 hout1
  obtain ⟨S59, z122, m122, k122, z123, m123, k123, z124, m124, k124, z125, m125, k125, z126, m126, k126, le59, I103, e193, e194, e195, e196, e197, r129, r130, r131, r132, ed13⟩ := hI49
  refine au_ (ab_ (aa_ (wo_ (cq_ (l := [(.slice z122 m122 k122), (.slice z123 m123 k123), (.slice z124 m124 k124), (.slice z125 m125 k125)]) rfl gg_ (I103.nth 0 rfl) e195 rfl rfl (wm_ rfl e193 (wm_ rfl e194 ?_))))))
  obtain ⟨x26, hx26, h1⟩ := bnd h1
  refine wo_ (cv_ ca58 rfl I103 (fun Fr_ hF_ => xg_ hF_ (Riddle.rv (s := (⟨s1.1, s1.2.1, s1.2.2.1, s1.2.2.2.1⟩ : Riddle)) r129 r130 r131 r132) (h1_.mono le59) ⟨59, [], rfl, ca59, fun T_ w_ Fr_ a_ b_ r_ hle_ hI_ hr_ => xi_ hI_  hr_⟩ hx26) (args4 rfl rfl rfl rfl) (fun w88 I104 => (wa_ (v := (vi x26)) rfl rfl (ae_ (ab_ (ab_ (aa_ (wm_ (v := (vi x26)) rfl rfl (wo_ (bf_ rfl rfl rfl (ae_ ?_)))))))))))
  rcases ifs h1 with ⟨hc8, h1⟩ | ⟨hc8, h1⟩
  ·
   refine ah_ rfl hc8 (ab_ (aa_ (wm_ rfl e196 (wa_ (v := (.slice z126 m126 k126)) rfl rfl (wa_ (v := (vi 0)) rfl rfl (ae_ (al_ ?_)))))))
   obtain rfl := sj h1
   obtain rfl := (hout1 _ rfl)
   have h2 := h
   obtain rfl := sj h2
   exact ⟨ed13, (Value.tuple #[(.slice z126 m126 k126), (vi 0)]), (vi_ rfl rfl rfl), _, [Row (α := Int) 3 (.slice z126 m126 k126) (s1.2.2.2.2)], le59, (I104).drop, _, _, _, rfl, rfl⟩
  refine aj_ rfl hc8 (ar_ (ab_ (aa_ (wm_ rfl e196 (wm_ (v := (vi x26)) rfl rfl (wo_ (bd_ (vs := [(vi x26)]) (r := ([x26] : List Int)) rfl Tryz.underlying28 el3 (ev_ rfl) rfl (by decide) (by decide) ⟨(dq_ _), trivial⟩ I104 (fun u43 w89 I105 => ?_))))))))
  obtain ⟨z132, m132, k132, e198⟩ := bc_ I105
  subst e198
  obtain ⟨x27, hx27, h1⟩ := bnd h1
  refine wo_ (bs_ (α := Int) (v := (.slice z126 m126 k126)) (u := (.slice z132 m132 k132)) rfl rfl Tryz.underlying28 el3 (by decide) (by decide) rfl rfl (I105.pull 2) (Inv.rowSrc (I105.nth 0 rfl)) hx27 (fun u44 w90 I106 => ?_))
  obtain ⟨z133, m133, k133, e199⟩ := bc_ I106
  subst e199
  refine wa_ (v := (.slice z133 m133 k133)) rfl rfl (ae_ ?_)
  obtain ⟨x28, hx28, h1⟩ := bnd h1
  obtain ⟨x29, hx29, h1⟩ := bnd h1
  refine bg_ (sps := [⟨some 28, [], [0], fun vs_ T_ => fr0 vs_ 0 = (.agg #[(.slice z122 m122 k122), (.slice z123 m123 k123), (.slice z124 m124 k124), (.slice z125 m125 k125)]), [0], [], [], fun _ h_ => h_⟩, spV 29 [] 1 (.slice z5 m5 k5), spV 30 [] 2 (vi x26), spV 31 [1, 2] 3 (af_ (.slice z5 m5 k5) (x26) (Enc.sz Aid)), spR 32 [1, 2, 3] 4 x28, spR 33 [0, 1, 2, 3, 4] 5 x29, ⟨none, (lrg 6), [], fun vs_ T_ => True, [], [0], [1], fun _ h_ => h_⟩]) (tks := [⟨none, some 6, [], fun vs_ => am_ g1 27 #[(.slice z122 m122 k122), (.slice z123 m123 k123), (.slice z124 m124 k124), (.slice z125 m125 k125)]⟩, ⟨some 6, none, [5], fun vs_ => am_ g1 27 #[(gf_ (fr0 vs_ 0) 0), (gf_ (fr0 vs_ 0) 1), (gf_ (fr0 vs_ 0) 2), (gf_ (fr0 vs_ 0) 3)]⟩]) (O := Row (α := Int) 3 (.slice z133 m133 k133) (x27) :: Row (α := Int) 3 (.slice z132 m132 k132) (([x26] : List Int)) :: Fr) rfl (by kernel_rfl) (I106.pull 2) ⟨?_, ob_ rfl fun l A K I => (ap_ rfl ((K 1 (ag_ rfl)).trans e193) (fo I)), ob_ rfl fun l A K I => (ap_ rfl (K 9 (ag_ rfl)) (fo I)), ob_ rfl fun l A K I => (ix_ Tryz.underlying45 rt_ (h1_.mono (le59.trans l)) hx28 (A.v 0 rfl) (A.v 1 rfl) (fo I)), ?_, ?_, ?_, trivial⟩ ?_
  ·
   intro vs f w_ U X le A K I
   have I108 : Inv w_ U (am_ g1 27 #[(Value.slice z122 m122 k122), (Value.slice z123 m123 k123), (Value.slice z124 m124 k124), (Value.slice z125 m125 k125)] :: X) := I
   refine pl_ rfl (cq_ (l := [(.slice z122 m122 k122), (.slice z123 m123 k123), (.slice z124 m124 k124), (.slice z125 m125 k125)]) rfl gg_ (I108.nth 0 rfl) ((K 3 (ag_ rfl)).trans e195) rfl rfl (fo I108))
  ·
   intro vs f w_ U X le A K I
   have q45 := A.v 2 rfl
   refine pl_ rfl (az_ rfl rt_ q45 ((h1_.mono (le59.trans le)).elem I.in_ hx28) (fun u46 hu32 => ?_))
   obtain ⟨c95, e200, r137⟩ := Aid.inv hu32
   subst e200
   obtain ⟨z134, m134, k134, rfl⟩ := ac_ r137
   refine ⟨_, _, rfl, lr, ?_, ?_⟩
   · exact (Aid.rv (s := x28) r137)
   exact I
  ·
   intro vs f w_ U X le A K I
   have q46 := A.v 0 rfl
   have q47 : f 32 = vs 4 := (A.at_ 4 rfl _ rfl).1 _ rfl
   have r138 : RV U (vs 4) x28 := (A.at_ 4 rfl _ rfl).2
   obtain ⟨u47, hu33⟩ : ∃ u, vs 4 = u := ⟨_, rfl⟩
   rw [hu33] at q47 r138
   obtain ⟨c96, e202, r139⟩ := Aid.inv r138
   subst e202
   obtain ⟨z135, m135, k135, rfl⟩ := ac_ r139
   refine pl_ rfl (cl_ ca53 rfl (qz_ I (Riddle.rv (s := (⟨s1.1, s1.2.1, s1.2.2.1, s1.2.2.2.1⟩ : Riddle)) (r129.mono le) (r130.mono le) (r131.mono le) (r132.mono le)) (Aid.rv (s := x28) r139) hx29) (br_ q46 q47) (fun cv7 w98 S66 O7 le66 I114 hv7 => ?_))
   obtain ⟨c97, rfl, rfl, r140⟩ := hv7
   obtain ⟨c98, c99, c100, c101, e204, r141, r142, r143, r144⟩ := Riddle.inv r140
   subst e204
   obtain ⟨z136, m136, k136, rfl⟩ := ac_ r141
   obtain ⟨z137, m137, k137, rfl⟩ := ac_ r142
   obtain ⟨z138, m138, k138, rfl⟩ := ac_ r143
   obtain ⟨z139, m139, k139, rfl⟩ := ac_ r144
   refine ⟨_, _, rfl, le66, ?_, ?_⟩
   · exact (Riddle.rv (s := x29) r141 r142 r143 r144)
   exact I114
  ·
   intro vs f w_ U X le A K I
   have I115 : Inv w_ U (am_ g1 27 #[(Value.slice z122 m122 k122), (Value.slice z123 m123 k123), (Value.slice z124 m124 k124), (Value.slice z125 m125 k125)] :: X) := I
   have q48 : f 33 = vs 5 := (A.at_ 5 rfl _ rfl).1 _ rfl
   have r145 : RV U (vs 5) x29 := (A.at_ 5 rfl _ rfl).2
   obtain ⟨u48, hu34⟩ : ∃ u, vs 5 = u := ⟨_, rfl⟩
   rw [hu34] at q48 r145
   obtain ⟨c102, c103, c104, c105, e209, r146, r147, r148, r149⟩ := Riddle.inv r145
   subst e209
   obtain ⟨z140, m140, k140, rfl⟩ := ac_ r146
   obtain ⟨z141, m141, k141, rfl⟩ := ac_ r147
   obtain ⟨z142, m142, k142, rfl⟩ := ac_ r148
   obtain ⟨z143, m143, k143, rfl⟩ := ac_ r149
   refine pl_ rfl (bb_ (v := (.agg #[(.slice z140 m140 k140), (.slice z141 m141 k141), (.slice z142 m142 k142), (.slice z143 m143 k143)])) (cs := #[(.slice z122 m122 k122), (.slice z123 m123 k123), (.slice z124 m124 k124), (.slice z125 m125 k125)]) gg_ I115 ((K 3 (ag_ rfl)).trans e195) q48 rfl nb rfl (fun w100 (I116 : Inv w100 U (am_ g1 27 #[(.slice z140 m140 k140), (.slice z141 m141 k141), (.slice z142 m142 k142), (.slice z143 m143 k143)] :: X)) => (⟨undef, _, rfl, lr, ?_, ?_⟩)))
   · exact trivial
   show Inv _ _ (am_ g1 27 #[(gf_ (vs 5) 0), (gf_ (vs 5) 1), (gf_ (vs 5) 2), (gf_ (vs 5) 3)] :: X)
   simp only [hu34]
   exact I116
  intro vs56 f w101 S68 ed14 le68 hF7 hK56 hI57
  have e214 : f 1 = (Value.slice z5 m5 k5) := (hK56 1 (ak_ rfl)).trans e193
  have e215 : f 2 = (vi a2) := (hK56 2 (ak_ rfl)).trans e194
  have e216 : f 3 = (pt_ g1) := (hK56 3 (ak_ rfl)).trans e195
  have e217 : f 6 = (Value.slice z133 m133 k133) := (hK56 6 (ak_ rfl)).trans rfl
  have e218 : f 7 = (vi 0) := (hK56 7 (ak_ rfl)).trans e197
  have I117 : Inv w101 S68 (am_ g1 27 #[(gf_ (vs56 5) 0), (gf_ (vs56 5) 1), (gf_ (vs56 5) 2), (gf_ (vs56 5) 3)] :: Row (α := Int) 3 (Value.slice z133 m133 k133) (x27) :: Row (α := Int) 3 (Value.slice z132 m132 k132) (([x26] : List Int)) :: Fr) := hI57
  have q49 : f 33 = vs56 5 := (hF7.at_ 5 rfl _ rfl).1 _ rfl
  have r150 : RV S68 (vs56 5) x29 := (hF7.at_ 5 rfl _ rfl).2
  obtain ⟨u49, hu35⟩ : ∃ u, vs56 5 = u := ⟨_, rfl⟩
  rw [hu35] at q49 r150
  have I118 := I117
  rw [hu35] at I118
  obtain ⟨c106, c107, c108, c109, e219, r151, r152, r153, r154⟩ := Riddle.inv r150
  subst e219
  obtain ⟨z144, m144, k144, rfl⟩ := ac_ r151
  obtain ⟨z145, m145, k145, rfl⟩ := ac_ r152
  obtain ⟨z146, m146, k146, rfl⟩ := ac_ r153
  obtain ⟨z147, m147, k147, rfl⟩ := ac_ r154
  obtain rfl := sj h1
  exact ⟨_, rfl, _, _, _, _, _, _, _, _, _, _, _, _, _, _, _, _, (le59.trans le68), (((I118.pull 2).drop.pull 1).pull 1), e214, e215, e216, e217, e218, r151, r152, r153, r154, (ed14.trans ed13)⟩
 rintro f w ⟨out1, rfl, S69, z127, m127, k127, z128, m128, k128, z129, m129, k129, z130, m130, k130, z131, m131, k131, le69, I119, e224, e225, e226, e227, e228, r133, r134, r135, r136, ed15⟩
 have h := ea_ h
 obtain rfl := sj h
 exact ⟨ed15, (Value.tuple #[(.slice z131 m131 k131), (vi 0)]), (vi_ rfl e227 e228), _, [Row (α := Int) 3 (.slice z131 m131 k131) (out1.2.2.2.2)], le69, (I119).drop, _, _, _, rfl, rfl⟩
end Go.Proofs.YtlpdpeghgndmkaaGreat.Pad
