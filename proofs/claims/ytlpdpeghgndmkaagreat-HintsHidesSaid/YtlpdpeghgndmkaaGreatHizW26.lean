/- A part of the proof: what the functions of the program compute, shown over the model. -/
import Derived.Test.YtlpdpeghgndmkaaGreatHizP
import Derived.Test.YtlpdpeghgndmkaaGreatHizW1
import Derived.Test.YtlpdpeghgndmkaaGreatHizW4
import Derived.Test.YtlpdpeghgndmkaaGreatHizW10
import Derived.Test.YtlpdpeghgndmkaaGreatHizW11
import Derived.Test.YtlpdpeghgndmkaaGreatHizW12
import Derived.Test.YtlpdpeghgndmkaaGreatHizW13
import Derived.Test.YtlpdpeghgndmkaaGreatHizW17
import Derived.KernelRfl
set_option linter.unusedVariables false
set_option maxHeartbeats 4000000
set_option maxRecDepth 100000
namespace Go.Proofs.YtlpdpeghgndmkaaGreat.Pad
open Go Go.Proofs
theorem sc_ {w : World} {S : PH} {Fr : List HP} {a0 : Int} {a1 : (List Aid)} {v1 : Value} {r : Bool} (hI : Inv w S (Fr)) (h1_ : PtS S v1 a1) (h : js_ a0 a1 = some r) :
    Calls Tryz.prog 50 [(Value.int .i64 (a0)), v1].toArray w (cc_ S Fr (Value.bool (r))) := by
 unfold js_ at h
 refine ao_ (n := 10) Tryz.func50 rfl rfl rfl (ab_ (aa_ (wa_ (v := (vb false)) rfl rfl (ae_ (ab_ (aa_ (wm_ (v := (vi a0)) rfl rfl (wo_ (ld_ sh45 (h1_.at_ hI) rfl (fun u1 hu1 => ?_))))))))))
 obtain ⟨z1, m1, k1, rfl⟩ := ad_ hu1
 refine wo_ (aw_ rfl Tryz.underlying45 rfl hu1 (wo_ (ea_ rfl rfl rfl ?_)))
 obtain ⟨x1, hx1, h⟩ := bnd h
 refine wo_ (cv_ yj_ rfl hI (fun Fr_ hF_ => bs_ hF_  hx1) (cy_ rfl rfl rfl) (fun w1 I1 => (wo_ (bx_ rfl rfl (wa_ (v := (vb (!x1))) rfl rfl (ae_ (ak_ ?_)))))))
 obtain rfl := sj h
 exact ⟨rfl, (vb (!x1)), (bq_ rfl rfl), _, [], lr, I1, rfl, rfl⟩
theorem up_ {w : World} {S : PH} {Fr : List HP} {a0 : Riddle} {v0 : Value} {a1 : (List Aid)} {v1 : Value} {a2 : (List Int)} {v2 : Value} {r : Bool × Int} (hI : Inv w S (Fr)) (h0_ : RV S v0 a0) (h1_ : RV S v1 a1) (h2_ : RV S v2 a2) (h : kl_ a0 a1 a2 = some r) :
    Calls Tryz.prog 19 [v0, v1, v2].toArray w (cc_ S Fr (Value.tuple #[(Value.bool (r.1)), (Value.int .i64 (r.2))])) := by
 unfold kl_ at h
 obtain ⟨c1, c2, c3, c4, e1, r1, r2, r3, r4⟩ := Riddle.inv h0_
 subst e1
 obtain ⟨z1, m1, k1, rfl⟩ := ad_ r1
 obtain ⟨z2, m2, k2, rfl⟩ := ad_ r2
 obtain ⟨z3, m3, k3, rfl⟩ := ad_ r3
 obtain ⟨z4, m4, k4, rfl⟩ := ad_ r4
 obtain ⟨z5, m5, k5, rfl⟩ := ad_ h1_
 obtain ⟨z6, m6, k6, rfl⟩ := ad_ h2_
 refine ao_ (n := 51) Tryz.func19 rfl rfl rfl (ab_ (aa_ (wo_ (bj_ (v := (.agg #[(.slice z1 m1 k1), (.slice z2 m2 k2), (.slice z3 m3 k3), (.slice z4 m4 k4)])) rfl hI rfl (fun g1 w1 I1 => (wo_ (bj_ (v := (.slice z5 m5 k5)) rfl I1 rfl (fun g2 w2 I2 => ?_))))))))
 obtain ⟨S1, le1, I3, p1⟩ := Inv.boxFreeze (x := a1) I2 h1_
 refine wa_ (v := (vb false)) rfl rfl (wa_ (v := (vi 0)) rfl rfl (ae_ (ab_ (ab_ (aa_ (wo_ (cp_ (l := [(.slice z1 m1 k1), (.slice z2 m2 k2), (.slice z3 m3 k3), (.slice z4 m4 k4)]) rfl hb_ (I3.nth 0 rfl) rfl rfl rfl (wo_ (ld_ sh45 (p1.at_ I3) rfl (fun u1 hu1 => ?_))))))))))
 obtain ⟨z7, m7, k7, rfl⟩ := ad_ hu1
 obtain ⟨x1, hx1, h⟩ := bnd h
 refine wo_ (cv_ ca48 rfl I3 (fun Fr_ hF_ => qj_ hF_ (Riddle.rv (s := (⟨a0.Locks, a0.Codes, a0.Known, a0.Ties⟩ : Riddle)) (r1.mono le1) (r2.mono le1) (r3.mono le1) (r4.mono le1)) hu1 hx1) (br_ rfl rfl) (fun w3 I4 => (wa_ (v := (vi x1)) rfl rfl (ae_ (ab_ (aa_ (wm_ (v := (vi x1)) rfl rfl (wo_ (cm_ rfl rfl rfl (ae_ ?_))))))))))
 rcases ifs h with ⟨hc1, h⟩ | ⟨hc1, h⟩
 ·
  refine ah_ rfl hc1 (ab_ (aa_ (wm_ (v := (vi x1)) rfl rfl (wa_ (v := (vb false)) rfl rfl (wa_ (v := (vi x1)) rfl rfl (ae_ (ak_ ?_)))))))
  obtain rfl := sj h
  exact ⟨rfl, (Value.tuple #[(vb false), (vi x1)]), (rm_ rfl rfl rfl), _, [], le1, (I4).drop, rfl, rfl⟩
 refine aj_ rfl hc1 (aq_ (ab_ (ab_ (aa_ (wm_ (v := (.slice z6 m6 k6)) rfl rfl (wo_ (aw_ rfl Tryz.underlying28 rfl (h2_.mono le1) (wo_ (la_ rfl rfl rfl (wm_ (v := (vb (decide (20 < (a2.length : Int))))) rfl rfl ?_))))))))))
 rcases ifs h with ⟨hc4, h⟩ | ⟨hc4, h⟩
 ·
  refine ws_ rfl rfl hc4 (ws_ rfl rfl hc4 (ws_ rfl rfl hc4 (wo_ (ax_ (a := (vb true)) rfl rfl hc4 rfl (ae_ (ah_ rfl rfl (ab_ (aa_ (wa_ (v := (vb false)) rfl rfl (wa_ (v := (vi 1)) rfl rfl (ae_ (ak_ ?_))))))))))))
  obtain rfl := sj h
  exact ⟨rfl, (Value.tuple #[(vb false), (vi 1)]), (rm_ rfl rfl rfl), _, [], le1, (I4).drop, rfl, rfl⟩
 refine wk_ rfl rfl hc4 (ar_ (v := (.slice z6 m6 k6)) rfl rfl (wk_ rfl rfl hc4 (cj_ (fv := #[]) (cv := #[(pt_ g2)]) rfl xt_ (arr1 rfl) ?_)))
 obtain ⟨x3, hx3, h⟩ := bnd h
 refine wk_ rfl rfl hc4 (cv_ ca49 rfl I4 (fun Fr_ hF_ => gr_ hF_ (h2_.mono le1) ⟨50, [(pt_ g2)], rfl, ca50, fun T_ w_ Fr_ u_ x_ r_ hle_ hI_ hu_ hr_ => by have e_ := yr_ hu_; subst e_; exact sc_ hI_ (p1.mono hle_) hr_⟩ hx3) (br_ rfl rfl) (fun w5 I6 => (wo_ (ap_ (b := (vb x3)) rfl rfl hc4 rfl (ae_ ?_)))))
 rcases ifs h with ⟨hc5, h⟩ | ⟨hc5, h⟩
 ·
  refine ah_ rfl hc5 (ab_ (aa_ (wa_ (v := (vb false)) rfl rfl (wa_ (v := (vi 1)) rfl rfl (ae_ (ak_ ?_))))))
  obtain rfl := sj h
  exact ⟨rfl, (Value.tuple #[(vb false), (vi 1)]), (rm_ rfl rfl rfl), _, [], le1, (I6).drop, rfl, rfl⟩
 refine aj_ rfl hc5 (aq_ (ab_ (ab_ (aa_ (wm_ (v := (.slice z6 m6 k6)) rfl rfl (wo_ (aw_ rfl Tryz.underlying28 rfl (h2_.mono le1) (wm_ (v := (vi 0)) rfl rfl (ae_ ?_)))))))))
 have hk1 : a2.length ≤ 9223372036854775807 := (cr_ h2_)
 obtain ⟨o2, hrun1, h⟩ := bnd h
 refine bo_ (fun f w => ∃ out1, o2 = Sum.inl out1 ∧ ∃ (S_ : PH) (z86 : Option Addr) (m86 k86 : Nat) (z87 : Option Addr) (m87 k87 : Nat) (z88 : Option Addr) (m88 k88 : Nat) (z89 : Option Addr) (m89 k89 : Nat), S1.Le S_ ∧ Inv w S_ (am_ g1 27 #[(.slice z86 m86 k86), (.slice z87 m87 k87), (.slice z88 m88 k88), (.slice z89 m89 k89)] :: Fr) ∧ f 3 = (pt_ g1) ∧ f 4 = (pt_ g2) ∧ f 27 = (.slice z6 m6 k6) ∧ f 28 = (vi ((a2.length : Int))) ∧ RV S_ (.slice z86 m86 k86) out1.1 ∧ RV S_ (.slice z87 m87 k87) out1.2.1 ∧ RV S_ (.slice z88 m88 k88) out1.2.2.1 ∧ RV S_ (.slice z89 m89 k89) out1.2.2.2 ∧ f.ds = []) ?_ ?_
 ·
  refine au_ ?_
  refine ef_ (I := fun (i1 : Nat) (s1 : ((List CodeLock) × (List (List Int)) × (List (List Clue)) × (List Tie))) (f : Frm) (w : World) => ∃ (S_ : PH) (z82 : Option Addr) (m82 k82 : Nat) (z83 : Option Addr) (m83 k83 : Nat) (z84 : Option Addr) (m84 k84 : Nat) (z85 : Option Addr) (m85 k85 : Nat), S1.Le S_ ∧ Inv w S_ (am_ g1 27 #[(.slice z82 m82 k82), (.slice z83 m83 k83), (.slice z84 m84 k84), (.slice z85 m85 k85)] :: Fr) ∧ f 3 = (pt_ g1) ∧ f 4 = (pt_ g2) ∧ f 27 = (.slice z6 m6 k6) ∧ f 28 = (vi ((a2.length : Int))) ∧ f 29 = (vi (i1 : Int)) ∧ RV S_ (.slice z82 m82 k82) s1.1 ∧ RV S_ (.slice z83 m83 k83) s1.2.1 ∧ RV S_ (.slice z84 m84 k84) s1.2.2.1 ∧ RV S_ (.slice z85 m85 k85) s1.2.2.2 ∧ f.ds = []) hrun1 ⟨_, _, _, _, _, _, _, _, _, _, _, _, _, lr, I6, rfl, rfl, rfl, rfl, rfl, (r1.mono le1), (r2.mono le1), (r3.mono le1), (r4.mono le1), rfl⟩ ?_ ?_
  ·
   rintro i1 s1 f w o1 hlt1 hI61 h2 hout1
   obtain ⟨S67, z82, m82, k82, z83, m83, k83, z84, m84, k84, z85, m85, k85, le67, I88, e144, e145, e146, e147, e148, r88, r89, r90, r91, ed10⟩ := hI61
   refine ab_ (aa_ (wo_ (bf_ rfl e148 e147 (ae_ (ab_ (ah_ rfl (el_ hlt1) (aq_ (ab_ (au_ (ab_ (aa_ ?_)))))))))))
   obtain ⟨x19, hx19, h2⟩ := bnd h2
   refine wo_ (ix_ Tryz.underlying28 sh3 (h2_.mono (le1.trans le67)) hx19 e146 e148 (wo_ (li_ sh3 ((h2_.mono (le1.trans le67)).elem I88.in_ hx19) rfl (wa_ (v := (vi x19)) rfl rfl (ae_ (ab_ (ab_ ?_)))))))
   obtain ⟨x20, hx20, h2⟩ := bnd h2
   obtain ⟨x21, hx21, h2⟩ := bnd h2
   refine bg_ (sps := [⟨some 34, [], [0], fun vs_ T_ => fr0 vs_ 0 = (.agg #[(.slice z82 m82 k82), (.slice z83 m83 k83), (.slice z84 m84 k84), (.slice z85 m85 k85)]), [0], [], [], fun _ h_ => h_⟩, spR 35 [] 1 a1, spV 36 [] 2 (vi x19), spW 37 [1, 2] [3, 1] fun vs_ => (af_ (fr0 vs_ 1) (x19) (Enc.sz Aid)), spR 38 [1, 2, 3] 4 x20, spV 39 [0, 1, 2, 3, 4] 5 (Value.tuple #[(vi x21.1), (vb x21.2)]), spV 33 (lrg 6) 6 (Value.tuple #[(vi x21.1), (vb x21.2)]), spV 40 (lrg 7) 7 (vi x21.1), spV 41 (lrg 7) 8 (vb x21.2), spV 11 (lrg 8) 9 (vi x21.1), spV 12 (lrg 10) 10 (vb x21.2)]) (tks := [⟨none, none, [], fun vs_ => am_ g1 27 #[(.slice z82 m82 k82), (.slice z83 m83 k83), (.slice z84 m84 k84), (.slice z85 m85 k85)]⟩]) (O := Fr) rfl (by kernel_rfl) I88 ⟨?_, ?_, ob_ rfl fun l A K I => (ar_ rfl (K 10 (ag_ rfl)) (fo I)), ?_, ?_, ?_, ob_ rfl fun l A K I => (ar_ rfl (A.v 5 rfl) (fo I)), ob_ rfl fun l A K I => (bk_ (v := (vi x21.1)) rfl (A.v 6 rfl) rfl (fo I)), ob_ rfl fun l A K I => (bk_ (v := (vb x21.2)) rfl (A.v 6 rfl) rfl (fo I)), ob_ rfl fun l A K I => (bm_ (v := (vi x21.1)) rfl (A.v 7 rfl) (fo I)), ?_, trivial⟩ ?_
   ·
    intro vs f w_ U X le A K I
    have I90 : Inv w_ U (am_ g1 27 #[(Value.slice z82 m82 k82), (Value.slice z83 m83 k83), (Value.slice z84 m84 k84), (Value.slice z85 m85 k85)] :: X) := I
    refine pl_ rfl (cp_ (l := [(.slice z82 m82 k82), (.slice z83 m83 k83), (.slice z84 m84 k84), (.slice z85 m85 k85)]) rfl hb_ (I90.nth 0 rfl) ((K 3 (ag_ rfl)).trans e144) rfl rfl (fo I90))
   ·
    intro vs f w_ U X le A K I
    refine pl_ rfl (ay_ rfl sh45 ((K 4 (ag_ rfl)).trans e145) ((p1.mono (le67.trans le)).at_ I) (fun u52 hu52 => ?_))
    obtain ⟨z90, m90, k90, rfl⟩ := ad_ hu52
    refine ⟨_, _, rfl, lr, ?_, ?_⟩
    · exact hu52
    exact I
   ·
    intro vs f w_ U X le A K I
    obtain ⟨z91, m91, k91, hu53, q67, r96⟩ := A.sl (a := 1) 0 rfl rfl rfl
    have q68 := A.v 1 rfl
    refine pl_ rfl (ix_ Tryz.underlying45 ua_ r96 hx20 q67 q68 (⟨_, _, rfl, lr, ?_, ?_⟩))
    ·
     show (af_ (Value.slice z91 m91 k91) (x19) (Enc.sz Aid)) = (af_ (vs 1) (x19) (Enc.sz Aid))
     simp only [hu53] <;> rfl
    exact I
   ·
    intro vs f w_ U X le A K I
    obtain ⟨z92, m92, k92, hu54, q69, r97⟩ := A.sl (a := 1) 0 rfl rfl rfl
    have q70 := A.v 1 rfl
    have q71 : f 37 = (af_ (vs 1) (x19) (Enc.sz Aid)) := A.v 2 rfl
    simp only [hu54] at q71
    have q71 : f 37 = (af_ (Value.slice z92 m92 k92) (x19) (Enc.sz Aid)) := q71
    refine pl_ rfl (ay_ rfl ua_ q71 (r97.elem I.in_ hx20) (fun u55 hu55 => ?_))
    obtain ⟨c56, e152, r98⟩ := Aid.inv hu55
    subst e152
    obtain ⟨z93, m93, k93, rfl⟩ := ad_ r98
    refine ⟨_, _, rfl, lr, ?_, ?_⟩
    · exact (Aid.rv (s := x20) r98)
    exact I
   ·
    intro vs f w_ U X le A K I
    have q73 : f 38 = vs 4 := (A.at_ 4 rfl _ rfl).1 _ rfl
    have r99 : RV U (vs 4) x20 := (A.at_ 4 rfl _ rfl).2
    obtain ⟨u56, hu56⟩ : ∃ u, vs 4 = u := ⟨_, rfl⟩
    rw [hu56] at q73 r99
    obtain ⟨c57, e154, r100⟩ := Aid.inv r99
    subst e154
    obtain ⟨z94, m94, k94, rfl⟩ := ad_ r100
    refine pl_ rfl (cv_ ca52 rfl I (fun Fr_ hF_ => tm_ hF_ (Riddle.rv (s := (⟨s1.1, s1.2.1, s1.2.2.1, s1.2.2.2⟩ : Riddle)) (r88.mono le) (r89.mono le) (r90.mono le) (r91.mono le)) (Aid.rv (s := x20) r100) hx21) (br_ (A.v 0 rfl) q73) (fun w89 I96 => (fo I96)))
   ·
    intro vs f w_ U X le A K I
    refine pl_ rfl (bm_ (v := (vb x21.2)) rfl (A.v 8 rfl) (fo I))
   intro vs72 f w95 S79 ed11 le79 hF7 hK72 hI73
   have e156 : f 3 = (pt_ g1) := (hK72 3 (al_ rfl)).trans e144
   have e157 : f 4 = (pt_ g2) := (hK72 4 (al_ rfl)).trans e145
   have e158 : f 10 = (vi x19) := (hK72 10 (al_ rfl)).trans rfl
   have e159 : f 27 = (Value.slice z6 m6 k6) := (hK72 27 (al_ rfl)).trans e146
   have e160 : f 28 = (vi ((a2.length : Int))) := (hK72 28 (al_ rfl)).trans e147
   have e161 : f 29 = (vi ((i1 : Int))) := (hK72 29 (al_ rfl)).trans e148
   have I102 : Inv w95 S79 (am_ g1 27 #[(Value.slice z82 m82 k82), (Value.slice z83 m83 k83), (Value.slice z84 m84 k84), (Value.slice z85 m85 k85)] :: Fr) := hI73
   have q79 := hF7.v 10 rfl
   refine ab_ (aa_ (wm_ rfl q79 (wo_ (bx_ rfl rfl (ae_ ?_)))))
   rcases ifs h2 with ⟨hc9, h2⟩ | ⟨hc9, h2⟩
   ·
    refine ah_ rfl hc9 (ab_ (aa_ (wa_ (v := (vb false)) rfl rfl (wa_ (v := (vi 0)) rfl rfl (ae_ (ak_ ?_))))))
    obtain rfl := sj h2
    obtain rfl := (hout1 _ rfl)
    have h3 := h
    obtain rfl := sj h3
    exact ⟨(ed11.trans ed10), (Value.tuple #[(vb false), (vi 0)]), (rm_ rfl rfl rfl), _, [], ((le1.trans le67).trans le79), (I102).drop, rfl, rfl⟩
   refine aj_ rfl hc9 (aq_ ?_)
   obtain ⟨x22, hx22, h2⟩ := bnd h2
   obtain ⟨x23, hx23, h2⟩ := bnd h2
   refine bg_ (sps := [⟨some 44, [], [0], fun vs_ T_ => fr0 vs_ 0 = (.agg #[(.slice z82 m82 k82), (.slice z83 m83 k83), (.slice z84 m84 k84), (.slice z85 m85 k85)]), [0], [], [], fun _ h_ => h_⟩, spR 45 [] 1 a1, spV 46 [] 2 (vi x19), spW 47 [1, 2] [3, 1] fun vs_ => (af_ (fr0 vs_ 1) (x19) (Enc.sz Aid)), spR 48 [1, 2, 3] 4 x22, spR 49 [0, 1, 2, 3, 4] 5 x23, ⟨none, (lrg 6), [], fun vs_ T_ => True, [], [0], [1], fun _ h_ => h_⟩]) (tks := [⟨none, some 6, [], fun vs_ => am_ g1 27 #[(.slice z82 m82 k82), (.slice z83 m83 k83), (.slice z84 m84 k84), (.slice z85 m85 k85)]⟩, ⟨some 6, none, [5], fun vs_ => am_ g1 27 #[(na_ (fr0 vs_ 0) 0), (na_ (fr0 vs_ 0) 1), (na_ (fr0 vs_ 0) 2), (na_ (fr0 vs_ 0) 3)]⟩]) (O := Fr) rfl (by kernel_rfl) I102 ⟨?_, ?_, ob_ rfl fun l A K I => (ar_ rfl ((K 10 (ag_ rfl)).trans e158) (fo I)), ?_, ?_, ?_, ?_, trivial⟩ ?_
   ·
    intro vs f w_ U X le A K I
    have I104 : Inv w_ U (am_ g1 27 #[(Value.slice z82 m82 k82), (Value.slice z83 m83 k83), (Value.slice z84 m84 k84), (Value.slice z85 m85 k85)] :: X) := I
    refine pl_ rfl (cp_ (l := [(.slice z82 m82 k82), (.slice z83 m83 k83), (.slice z84 m84 k84), (.slice z85 m85 k85)]) rfl hb_ (I104.nth 0 rfl) ((K 3 (ag_ rfl)).trans e156) rfl rfl (fo I104))
   ·
    intro vs f w_ U X le A K I
    refine pl_ rfl (ay_ rfl sh45 ((K 4 (ag_ rfl)).trans e157) ((p1.mono ((le67.trans le79).trans le)).at_ I) (fun u59 hu59 => ?_))
    obtain ⟨z95, m95, k95, rfl⟩ := ad_ hu59
    refine ⟨_, _, rfl, lr, ?_, ?_⟩
    · exact hu59
    exact I
   ·
    intro vs f w_ U X le A K I
    obtain ⟨z96, m96, k96, hu60, q80, r101⟩ := A.sl (a := 1) 0 rfl rfl rfl
    have q81 := A.v 1 rfl
    refine pl_ rfl (ix_ Tryz.underlying45 ua_ r101 hx22 q80 q81 (⟨_, _, rfl, lr, ?_, ?_⟩))
    ·
     show (af_ (Value.slice z96 m96 k96) (x19) (Enc.sz Aid)) = (af_ (vs 1) (x19) (Enc.sz Aid))
     simp only [hu60] <;> rfl
    exact I
   ·
    intro vs f w_ U X le A K I
    obtain ⟨z97, m97, k97, hu61, q82, r102⟩ := A.sl (a := 1) 0 rfl rfl rfl
    have q83 := A.v 1 rfl
    have q84 : f 47 = (af_ (vs 1) (x19) (Enc.sz Aid)) := A.v 2 rfl
    simp only [hu61] at q84
    have q84 : f 47 = (af_ (Value.slice z97 m97 k97) (x19) (Enc.sz Aid)) := q84
    refine pl_ rfl (ay_ rfl ua_ q84 (r102.elem I.in_ hx22) (fun u62 hu62 => ?_))
    obtain ⟨c58, e165, r103⟩ := Aid.inv hu62
    subst e165
    obtain ⟨z98, m98, k98, rfl⟩ := ad_ r103
    refine ⟨_, _, rfl, lr, ?_, ?_⟩
    · exact (Aid.rv (s := x22) r103)
    exact I
   ·
    intro vs f w_ U X le A K I
    have q85 := A.v 0 rfl
    have q86 : f 48 = vs 4 := (A.at_ 4 rfl _ rfl).1 _ rfl
    have r104 : RV U (vs 4) x22 := (A.at_ 4 rfl _ rfl).2
    obtain ⟨u63, hu63⟩ : ∃ u, vs 4 = u := ⟨_, rfl⟩
    rw [hu63] at q86 r104
    obtain ⟨c59, e167, r105⟩ := Aid.inv r104
    subst e167
    obtain ⟨z99, m99, k99, rfl⟩ := ad_ r105
    refine pl_ rfl (cl_ ca53 rfl (qg_ I (Riddle.rv (s := (⟨s1.1, s1.2.1, s1.2.2.1, s1.2.2.2⟩ : Riddle)) (r88.mono (le79.trans le)) (r89.mono (le79.trans le)) (r90.mono (le79.trans le)) (r91.mono (le79.trans le))) (Aid.rv (s := x22) r105) hx23) (br_ q85 q86) (fun cv4 w103 S86 O4 le86 I110 hv4 => ?_))
    obtain ⟨c60, rfl, rfl, r106⟩ := hv4
    obtain ⟨c61, c62, c63, c64, e169, r107, r108, r109, r110⟩ := Riddle.inv r106
    subst e169
    obtain ⟨z100, m100, k100, rfl⟩ := ad_ r107
    obtain ⟨z101, m101, k101, rfl⟩ := ad_ r108
    obtain ⟨z102, m102, k102, rfl⟩ := ad_ r109
    obtain ⟨z103, m103, k103, rfl⟩ := ad_ r110
    refine ⟨_, _, rfl, le86, ?_, ?_⟩
    · exact (Riddle.rv (s := x23) r107 r108 r109 r110)
    exact I110
   ·
    intro vs f w_ U X le A K I
    have I111 : Inv w_ U (am_ g1 27 #[(Value.slice z82 m82 k82), (Value.slice z83 m83 k83), (Value.slice z84 m84 k84), (Value.slice z85 m85 k85)] :: X) := I
    have q87 : f 49 = vs 5 := (A.at_ 5 rfl _ rfl).1 _ rfl
    have r111 : RV U (vs 5) x23 := (A.at_ 5 rfl _ rfl).2
    obtain ⟨u64, hu64⟩ : ∃ u, vs 5 = u := ⟨_, rfl⟩
    rw [hu64] at q87 r111
    obtain ⟨c65, c66, c67, c68, e174, r112, r113, r114, r115⟩ := Riddle.inv r111
    subst e174
    obtain ⟨z104, m104, k104, rfl⟩ := ad_ r112
    obtain ⟨z105, m105, k105, rfl⟩ := ad_ r113
    obtain ⟨z106, m106, k106, rfl⟩ := ad_ r114
    obtain ⟨z107, m107, k107, rfl⟩ := ad_ r115
    refine pl_ rfl (bb_ (v := (.agg #[(.slice z104 m104 k104), (.slice z105 m105 k105), (.slice z106 m106 k106), (.slice z107 m107 k107)])) (cs := #[(.slice z82 m82 k82), (.slice z83 m83 k83), (.slice z84 m84 k84), (.slice z85 m85 k85)]) hb_ I111 ((K 3 (ag_ rfl)).trans e156) q87 rfl nb rfl (fun w105 (I112 : Inv w105 U (am_ g1 27 #[(.slice z104 m104 k104), (.slice z105 m105 k105), (.slice z106 m106 k106), (.slice z107 m107 k107)] :: X)) => (⟨undef, _, rfl, lr, ?_, ?_⟩)))
    · exact trivial
    show Inv _ _ (am_ g1 27 #[(na_ (vs 5) 0), (na_ (vs 5) 1), (na_ (vs 5) 2), (na_ (vs 5) 3)] :: X)
    simp only [hu64]
    exact I112
   intro vs80 f w106 S88 ed12 le88 hF8 hK80 hI81
   have e179 : f 3 = (pt_ g1) := (hK80 3 (al_ rfl)).trans e156
   have e180 : f 4 = (pt_ g2) := (hK80 4 (al_ rfl)).trans e157
   have e181 : f 27 = (Value.slice z6 m6 k6) := (hK80 27 (al_ rfl)).trans e159
   have e182 : f 28 = (vi ((a2.length : Int))) := (hK80 28 (al_ rfl)).trans e160
   have e183 : f 29 = (vi ((i1 : Int))) := (hK80 29 (al_ rfl)).trans e161
   have I113 : Inv w106 S88 (am_ g1 27 #[(na_ (vs80 5) 0), (na_ (vs80 5) 1), (na_ (vs80 5) 2), (na_ (vs80 5) 3)] :: Fr) := hI81
   have q88 : f 49 = vs80 5 := (hF8.at_ 5 rfl _ rfl).1 _ rfl
   have r116 : RV S88 (vs80 5) x23 := (hF8.at_ 5 rfl _ rfl).2
   obtain ⟨u65, hu65⟩ : ∃ u, vs80 5 = u := ⟨_, rfl⟩
   rw [hu65] at q88 r116
   have I114 := I113
   rw [hu65] at I114
   obtain ⟨c69, c70, c71, c72, e184, r117, r118, r119, r120⟩ := Riddle.inv r116
   subst e184
   obtain ⟨z108, m108, k108, rfl⟩ := ad_ r117
   obtain ⟨z109, m109, k109, rfl⟩ := ad_ r118
   obtain ⟨z110, m110, k110, rfl⟩ := ad_ r119
   obtain ⟨z111, m111, k111, rfl⟩ := ad_ r120
   refine aa_ (wo_ (bl_ rfl e183 rfl (wm_ (v := (vi (w64 ((i1 : Int) + 1)))) rfl rfl (ae_ ?_))))
   obtain rfl := sj h2
   exact ⟨_, rfl, _, _, _, _, _, _, _, _, _, _, _, _, _, ((le67.trans le79).trans le88), I114, e179, e180, e181, e182, (bh_ hlt1 hk1), r117, r118, r119, r120, (ed12.trans (ed11.trans ed10))⟩
  rintro s2 f w hs1 hI82
  obtain ⟨S89, z112, m112, k112, z113, m113, k113, z114, m114, k114, z115, m115, k115, le89, I115, e189, e190, e191, e192, e193, r121, r122, r123, r124, ed13⟩ := hI82
  refine ab_ (aa_ (wo_ (bf_ rfl e193 e192 (ae_ (ab_ (aj_ rfl (em_ _) (bi_ ?_)))))))
  exact ⟨s2, hs1, _, _, _, _, _, _, _, _, _, _, _, _, _, le89, I115, e189, e190, e191, e192, r121, r122, r123, r124, ed13⟩
 rintro f w ⟨out1, rfl, S90, z86, m86, k86, z87, m87, k87, z88, m88, k88, z89, m89, k89, le90, I116, e194, e195, e196, e197, r92, r93, r94, r95, ed14⟩
 have h := dw_ h
 refine ab_ (aa_ (wa_ (v := (vb true)) rfl rfl (wa_ (v := (vi 0)) rfl rfl (ae_ (ak_ ?_)))))
 obtain rfl := sj h
 exact ⟨ed14, (Value.tuple #[(vb true), (vi 0)]), (rm_ rfl rfl rfl), _, [], (le1.trans le90), (I116).drop, rfl, rfl⟩
theorem ug_ {w : World} {S : PH} {Fr : List HP} {a0 : Riddle} {v0 : Value} {a1 : (List Aid)} {v1 : Value} {a2 : (List Int)} {v2 : Value} {r : Bool × Int} (hI : Inv w S (Fr)) (h0_ : RV S v0 a0) (h1_ : RV S v1 a1) (h2_ : RV S v2 a2) (h : kg_ a0 a1 a2 = some r) :
    Calls Tryz.prog 20 [v0, v1, v2].toArray w (cc_ S Fr (Value.tuple #[(Value.bool (r.1)), (Value.int .i64 (r.2))])) := by
 unfold kg_ at h
 obtain ⟨c1, c2, c3, c4, e1, r1, r2, r3, r4⟩ := Riddle.inv h0_
 subst e1
 obtain ⟨z1, m1, k1, rfl⟩ := ad_ r1
 obtain ⟨z2, m2, k2, rfl⟩ := ad_ r2
 obtain ⟨z3, m3, k3, rfl⟩ := ad_ r3
 obtain ⟨z4, m4, k4, rfl⟩ := ad_ r4
 obtain ⟨z5, m5, k5, rfl⟩ := ad_ h1_
 obtain ⟨z6, m6, k6, rfl⟩ := ad_ h2_
 refine ao_ (n := 56) Tryz.func20 rfl rfl rfl (ab_ (aa_ (wo_ (bj_ (v := (.agg #[(.slice z1 m1 k1), (.slice z2 m2 k2), (.slice z3 m3 k3), (.slice z4 m4 k4)])) rfl hI rfl (fun g1 w1 I1 => (wa_ (v := (vb false)) rfl rfl (wa_ (v := (vi 0)) rfl rfl (ae_ (ab_ (ab_ (aa_ (wo_ (cp_ (l := [(.slice z1 m1 k1), (.slice z2 m2 k2), (.slice z3 m3 k3), (.slice z4 m4 k4)]) rfl hb_ (I1.nth 0 rfl) rfl rfl rfl (wm_ (v := (.slice z5 m5 k5)) rfl rfl ?_))))))))))))))
 obtain ⟨x1, hx1, h⟩ := bnd h
 refine wo_ (cv_ ca54 rfl I1 (fun Fr_ hF_ => ps_ hF_ (Riddle.rv (s := (⟨a0.Locks, a0.Codes, a0.Known, a0.Ties⟩ : Riddle)) r1 r2 r3 r4) h1_ hx1) (br_ rfl rfl) (fun w2 I2 => (wa_ (v := (vi x1)) rfl rfl (ae_ (ab_ (aa_ (wm_ (v := (vi x1)) rfl rfl (wo_ (cm_ rfl rfl rfl (ae_ ?_))))))))))
 rcases ifs h with ⟨hc1, h⟩ | ⟨hc1, h⟩
 ·
  refine ah_ rfl hc1 (ab_ (aa_ (wm_ (v := (vi x1)) rfl rfl (wa_ (v := (vb false)) rfl rfl (wa_ (v := (vi x1)) rfl rfl (ae_ (ak_ ?_)))))))
  obtain rfl := sj h
  exact ⟨rfl, (Value.tuple #[(vb false), (vi x1)]), (rm_ rfl rfl rfl), _, [], lr, (I2).drop, rfl, rfl⟩
 refine aj_ rfl hc1 (aq_ (ab_ (ab_ (aa_ (wm_ (v := (.slice z6 m6 k6)) rfl rfl (wo_ (aw_ rfl Tryz.underlying28 rfl h2_ (wo_ (la_ rfl rfl rfl (ae_ ?_))))))))))
 rcases ifs h with ⟨hc2, h⟩ | ⟨hc2, h⟩
 ·
  refine ah_ rfl hc2 (ab_ (aa_ (wa_ (v := (vb false)) rfl rfl (wa_ (v := (vi 1)) rfl rfl (ae_ (ak_ ?_))))))
  obtain rfl := sj h
  exact ⟨rfl, (Value.tuple #[(vb false), (vi 1)]), (rm_ rfl rfl rfl), _, [], lr, (I2).drop, rfl, rfl⟩
 refine aj_ rfl hc2 (aq_ (ab_ (ab_ (aa_ (wa_ (v := (vi 0)) rfl rfl (ae_ ?_))))))
 have hk1 : a2.length ≤ 9223372036854775807 := (cr_ h2_)
 obtain ⟨o2, hrun1, h⟩ := bnd h
 refine bo_ (fun f w => ∃ out1, o2 = Sum.inl out1 ∧ Inv w S (am_ g1 27 #[(.slice z1 m1 k1), (.slice z2 m2 k2), (.slice z3 m3 k3), (.slice z4 m4 k4)] :: Fr) ∧ f 1 = (.slice z5 m5 k5) ∧ f 2 = (.slice z6 m6 k6) ∧ f 3 = (pt_ g1) ∧ f.ds = []) ?_ ?_
 ·
  refine au_ ?_
  refine ef_ (I := fun (i1 : Nat) (s1 : Unit) (f : Frm) (w : World) => Inv w S (am_ g1 27 #[(.slice z1 m1 k1), (.slice z2 m2 k2), (.slice z3 m3 k3), (.slice z4 m4 k4)] :: Fr) ∧ f 1 = (.slice z5 m5 k5) ∧ f 2 = (.slice z6 m6 k6) ∧ f 3 = (pt_ g1) ∧ f 9 = (vi (i1 : Int)) ∧ f.ds = []) hrun1 ⟨I2, rfl, rfl, rfl, rfl, rfl⟩ ?_ ?_
  ·
   rintro i1 s1 f w o1 hlt1 hI1 h1 hout1
   obtain ⟨I7, e16, e17, e18, e19, ed3⟩ := hI1
   refine ab_ (ab_ (aa_ (wm_ rfl e19 (wm_ rfl e17 (wo_ (aw_ rfl Tryz.underlying28 rfl h2_ (wo_ (bf_ rfl rfl rfl (ae_ (ah_ rfl (el_ hlt1) (aq_ (ab_ (au_ (ab_ (aa_ (wm_ rfl e17 (wm_ rfl e19 ?_)))))))))))))))))
   obtain ⟨x6, hx6, h1⟩ := bnd h1
   refine wo_ (ix_ Tryz.underlying28 sh3 h2_ hx6 rfl rfl (wo_ (li_ sh3 (h2_.elem I7.in_ hx6) rfl (wm_ rfl e16 (wo_ (aw_ rfl Tryz.underlying45 rfl h1_ (wo_ (ea_ rfl rfl rfl ?_))))))))
   obtain ⟨x7, hx7, h1⟩ := bnd h1
   refine wo_ (cv_ ca55 rfl I7 (fun Fr_ hF_ => cf_ hF_  hx7) (cy_ rfl rfl rfl) (fun w5 I8 => (wo_ (bx_ rfl rfl (ae_ ?_)))))
   rcases ifs h1 with ⟨hc5, h1⟩ | ⟨hc5, h1⟩
   ·
    refine ah_ rfl hc5 (ab_ (aa_ (wa_ (v := (vb false)) rfl rfl (wa_ (v := (vi 1)) rfl rfl (ae_ (ak_ ?_))))))
    obtain rfl := sj h1
    obtain rfl := (hout1 _ rfl)
    have h2 := h
    obtain rfl := sj h2
    exact ⟨ed3, (Value.tuple #[(vb false), (vi 1)]), (rm_ rfl rfl rfl), _, [], lr, (I8).drop, rfl, rfl⟩
   refine aj_ rfl hc5 (aq_ (aa_ (wm_ rfl e19 (wo_ (bl_ rfl rfl rfl (wa_ (v := (vi (w64 ((i1 : Int) + 1)))) rfl rfl (ae_ ?_)))))))
   obtain rfl := sj h1
   exact ⟨_, rfl, I8, e16, e17, e18, (bh_ hlt1 hk1), ed3⟩
  rintro s2 f w hs1 hI2
  obtain ⟨I9, e20, e21, e22, e23, ed4⟩ := hI2
  refine ab_ (ab_ (aa_ (wm_ rfl e23 (wm_ rfl e21 (wo_ (aw_ rfl Tryz.underlying28 rfl h2_ (wo_ (bf_ rfl rfl rfl (ae_ (aj_ rfl (em_ _) (bi_ ?_)))))))))))
  exact ⟨s2, hs1, I9, e20, e21, e22, ed4⟩
 rintro f w ⟨out1, rfl, I10, e24, e25, e26, ed5⟩
 have h := dw_ h
 refine ab_ (ab_ (aa_ (wa_ (v := (vi 0)) rfl rfl (ae_ ?_))))
 have hk2 : a2.length ≤ 9223372036854775807 := (cr_ h2_)
 obtain ⟨o4, hrun2, h⟩ := bnd h
 refine bo_ (fun f w => ∃ out2, o4 = Sum.inl out2 ∧ ∃ (S_ : PH) (z34 : Option Addr) (m34 k34 : Nat) (z35 : Option Addr) (m35 k35 : Nat) (z36 : Option Addr) (m36 k36 : Nat) (z37 : Option Addr) (m37 k37 : Nat), S.Le S_ ∧ Inv w S_ (am_ g1 27 #[(.slice z34 m34 k34), (.slice z35 m35 k35), (.slice z36 m36 k36), (.slice z37 m37 k37)] :: Fr) ∧ f 1 = (.slice z5 m5 k5) ∧ f 2 = (.slice z6 m6 k6) ∧ f 3 = (pt_ g1) ∧ RV S_ (.slice z34 m34 k34) out2.1 ∧ RV S_ (.slice z35 m35 k35) out2.2.1 ∧ RV S_ (.slice z36 m36 k36) out2.2.2.1 ∧ RV S_ (.slice z37 m37 k37) out2.2.2.2 ∧ f.ds = []) ?_ ?_
 ·
  refine au_ ?_
  refine ef_ (I := fun (i2 : Nat) (s3 : ((List CodeLock) × (List (List Int)) × (List (List Clue)) × (List Tie))) (f : Frm) (w : World) => ∃ (S_ : PH) (z30 : Option Addr) (m30 k30 : Nat) (z31 : Option Addr) (m31 k31 : Nat) (z32 : Option Addr) (m32 k32 : Nat) (z33 : Option Addr) (m33 k33 : Nat), S.Le S_ ∧ Inv w S_ (am_ g1 27 #[(.slice z30 m30 k30), (.slice z31 m31 k31), (.slice z32 m32 k32), (.slice z33 m33 k33)] :: Fr) ∧ f 1 = (.slice z5 m5 k5) ∧ f 2 = (.slice z6 m6 k6) ∧ f 3 = (pt_ g1) ∧ f 10 = (vi (i2 : Int)) ∧ RV S_ (.slice z30 m30 k30) s3.1 ∧ RV S_ (.slice z31 m31 k31) s3.2.1 ∧ RV S_ (.slice z32 m32 k32) s3.2.2.1 ∧ RV S_ (.slice z33 m33 k33) s3.2.2.2 ∧ f.ds = []) hrun2 ⟨_, _, _, _, _, _, _, _, _, _, _, _, _, lr, I10, e24, e25, e26, rfl, r1, r2, r3, r4, ed5⟩ ?_ ?_
  ·
   rintro i2 s3 f w o3 hlt2 hI3 h3 hout2
   obtain ⟨S6, z30, m30, k30, z31, m31, k31, z32, m32, k32, z33, m33, k33, le6, I29, e60, e61, e62, e63, r31, r32, r33, r34, ed9⟩ := hI3
   refine ab_ (ab_ (aa_ (wm_ rfl e63 (wm_ rfl e61 (wo_ (aw_ rfl Tryz.underlying28 rfl (h2_.mono le6) (wo_ (bf_ rfl rfl rfl (ae_ (ah_ rfl (el_ hlt2) (aq_ (ab_ (au_ (ab_ (aa_ (wm_ rfl e60 (wm_ rfl e61 (wm_ rfl e63 ?_))))))))))))))))))
   obtain ⟨x20, hx20, h3⟩ := bnd h3
   refine wo_ (ix_ Tryz.underlying28 sh3 (h2_.mono le6) hx20 rfl rfl (wo_ (li_ sh3 ((h2_.mono le6).elem I29.in_ hx20) rfl ?_)))
   obtain ⟨x21, hx21, h3⟩ := bnd h3
   refine wo_ (ix_ Tryz.underlying45 ua_ (h1_.mono le6) hx21 rfl rfl (wo_ (ld_ ua_ ((h1_.mono le6).elem I29.in_ hx21) rfl (fun u4 hu4 => ?_))))
   obtain ⟨c23, e64, r39⟩ := Aid.inv hu4
   subst e64
   obtain ⟨z38, m38, k38, rfl⟩ := ad_ r39
   refine wo_ (bv_ (z := (.agg #[(vi 0), (vi 0), (vi 0), (vi 0), (vi 0), (vi 0), sn, (vb false)])) rfl I29 zo32 (fun g5 w21 (I30 : Inv w21 S6 (am_ g5 32 #[(vi 0), (vi 0), (vi 0), (vi 0), (vi 0), (vi 0), sn, (vb false)] :: am_ g1 27 #[(.slice z30 m30 k30), (.slice z31 m31 k31), (.slice z32 m32 k32), (.slice z33 m33 k33)] :: Fr)) => (wo_ (bb_ (v := (.agg #[(vi x21.Lock), (vi x21.Clue.Kind), (vi x21.Clue.A), (vi x21.Clue.B), (vi x21.Clue.N), (vi x21.Clue.M), (.slice z38 m38 k38), (vb x21.Clue.Not)])) (cs := #[(vi 0), (vi 0), (vi 0), (vi 0), (vi 0), (vi 0), sn, (vb false)]) ua_ I30 rfl rfl rfl nb rfl (fun w22 (I31 : Inv w22 S6 (am_ g5 32 #[(vi x21.Lock), (vi x21.Clue.Kind), (vi x21.Clue.A), (vi x21.Clue.B), (vi x21.Clue.N), (vi x21.Clue.M), (.slice z38 m38 k38), (vb x21.Clue.Not)] :: am_ g1 27 #[(.slice z30 m30 k30), (.slice z31 m31 k31), (.slice z32 m32 k32), (.slice z33 m33 k33)] :: Fr)) => (ae_ (ab_ (ab_ (aa_ (wo_ (cp_ (l := [(.slice z30 m30 k30), (.slice z31 m31 k31), (.slice z32 m32 k32), (.slice z33 m33 k33)]) rfl hb_ (I31.nth 1 rfl) e62 rfl rfl (wo_ (cp_ (l := [(vi x21.Lock), (vi x21.Clue.Kind), (vi x21.Clue.A), (vi x21.Clue.B), (vi x21.Clue.N), (vi x21.Clue.M), (.slice z38 m38 k38), (vb x21.Clue.Not)]) rfl ua_ (I31.nth 0 rfl) rfl rfl rfl ?_)))))))))))))
   obtain ⟨x22, hx22, h3⟩ := bnd h3
   refine wo_ (cv_ ca56 rfl I31 (fun Fr_ hF_ => ue_ hF_ (Riddle.rv (s := (⟨s3.1, s3.2.1, s3.2.2.1, s3.2.2.2⟩ : Riddle)) r31 r32 r33 r34) (Aid.rv (s := x21) r39) hx22) (br_ rfl rfl) (fun w23 I32 => (wo_ (bx_ rfl rfl (ae_ ?_)))))
   rcases ifs h3 with ⟨hc9, h3⟩ | ⟨hc9, h3⟩
   ·
    refine ah_ rfl hc9 (ab_ (aa_ (wa_ (v := (vb false)) rfl rfl (wa_ (v := (vi 0)) rfl rfl (ae_ (ak_ ?_))))))
    obtain rfl := sj h3
    obtain rfl := (hout2 _ rfl)
    have h4 := h
    obtain rfl := sj h4
    exact ⟨ed9, (Value.tuple #[(vb false), (vi 0)]), (rm_ rfl rfl rfl), _, [], le6, ((I32).drop).drop, rfl, rfl⟩
   refine aj_ rfl hc9 (aq_ (aa_ (wo_ (cp_ (l := [(.slice z30 m30 k30), (.slice z31 m31 k31), (.slice z32 m32 k32), (.slice z33 m33 k33)]) rfl hb_ (I32.nth 1 rfl) e62 rfl rfl (wo_ (cp_ (l := [(vi x21.Lock), (vi x21.Clue.Kind), (vi x21.Clue.A), (vi x21.Clue.B), (vi x21.Clue.N), (vi x21.Clue.M), (.slice z38 m38 k38), (vb x21.Clue.Not)]) rfl ua_ (I32.nth 0 rfl) rfl rfl rfl ?_))))))
   obtain ⟨x23, hx23, h3⟩ := bnd h3
   refine wo_ (cl_ ca39 rfl (jr_ I32 (Riddle.rv (s := (⟨s3.1, s3.2.1, s3.2.2.1, s3.2.2.2⟩ : Riddle)) r31 r32 r33 r34) (Aid.rv (s := x21) r39) hx23) (br_ rfl rfl) (fun cv4 w24 S7 O4 le7 I33 hv4 => ?_))
   obtain ⟨c24, rfl, rfl, r40⟩ := hv4
   obtain ⟨c25, c26, c27, c28, e66, r41, r42, r43, r44⟩ := Riddle.inv r40
   subst e66
   obtain ⟨z39, m39, k39, rfl⟩ := ad_ r41
   obtain ⟨z40, m40, k40, rfl⟩ := ad_ r42
   obtain ⟨z41, m41, k41, rfl⟩ := ad_ r43
   obtain ⟨z42, m42, k42, rfl⟩ := ad_ r44
   refine wo_ (bb_ (v := (.agg #[(.slice z39 m39 k39), (.slice z40 m40 k40), (.slice z41 m41 k41), (.slice z42 m42 k42)])) (cs := #[(.slice z30 m30 k30), (.slice z31 m31 k31), (.slice z32 m32 k32), (.slice z33 m33 k33)]) hb_ (I33.pull 1) e62 rfl rfl nb rfl (fun w25 (I34 : Inv w25 S7 (am_ g1 27 #[(.slice z39 m39 k39), (.slice z40 m40 k40), (.slice z41 m41 k41), (.slice z42 m42 k42)] :: am_ g5 32 #[(vi x21.Lock), (vi x21.Clue.Kind), (vi x21.Clue.A), (vi x21.Clue.B), (vi x21.Clue.N), (vi x21.Clue.M), (.slice z38 m38 k38), (vb x21.Clue.Not)] :: Fr)) => (ae_ (aa_ (wm_ rfl e63 (wo_ (bl_ rfl rfl rfl (wa_ (v := (vi (w64 ((i2 : Int) + 1)))) rfl rfl (ae_ ?_)))))))))
   obtain rfl := sj h3
   exact ⟨_, rfl, _, _, _, _, _, _, _, _, _, _, _, _, _, (le6.trans le7), (I34.pull 1).drop, e60, e61, e62, (bh_ hlt2 hk2), r41, r42, r43, r44, ed9⟩
  rintro s4 f w hs2 hI4
  obtain ⟨S8, z43, m43, k43, z44, m44, k44, z45, m45, k45, z46, m46, k46, le8, I35, e71, e72, e73, e74, r45, r46, r47, r48, ed10⟩ := hI4
  refine ab_ (ab_ (aa_ (wm_ rfl e74 (wm_ rfl e72 (wo_ (aw_ rfl Tryz.underlying28 rfl (h2_.mono le8) (wo_ (bf_ rfl rfl rfl (ae_ (aj_ rfl (em_ _) (bi_ ?_)))))))))))
  exact ⟨s4, hs2, _, _, _, _, _, _, _, _, _, _, _, _, _, le8, I35, e71, e72, e73, r45, r46, r47, r48, ed10⟩
 rintro f w ⟨out2, rfl, S9, z34, m34, k34, z35, m35, k35, z36, m36, k36, z37, m37, k37, le9, I36, e75, e76, e77, r35, r36, r37, r38, ed11⟩
 have h := dw_ h
 refine ab_ (aa_ (wa_ (v := (vb true)) rfl rfl (wa_ (v := (vi 0)) rfl rfl (ae_ (ak_ ?_)))))
 obtain rfl := sj h
 exact ⟨ed11, (Value.tuple #[(vb true), (vi 0)]), (rm_ rfl rfl rfl), _, [], le9, (I36).drop, rfl, rfl⟩
theorem pa_ {w : World} {S : PH} {Fr : List HP} {a0 : Riddle} {v0 : Value} {a1 : (List Aid)} {v1 : Value} {a2 : (List Int)} {v2 : Value} {r : Bool} (hI : Inv w S (Fr)) (h0_ : RV S v0 a0) (h1_ : RV S v1 a1) (h2_ : RV S v2 a2) (h : hd_ a0 a1 a2 = some r) :
    Calls Tryz.prog 4 [v0, v1, v2].toArray w (cc_ S Fr (Value.bool (r))) := by
 unfold hd_ at h
 obtain ⟨c1, c2, c3, c4, e1, r1, r2, r3, r4⟩ := Riddle.inv h0_
 subst e1
 obtain ⟨z1, m1, k1, rfl⟩ := ad_ r1
 obtain ⟨z2, m2, k2, rfl⟩ := ad_ r2
 obtain ⟨z3, m3, k3, rfl⟩ := ad_ r3
 obtain ⟨z4, m4, k4, rfl⟩ := ad_ r4
 obtain ⟨z5, m5, k5, rfl⟩ := ad_ h1_
 obtain ⟨z6, m6, k6, rfl⟩ := ad_ h2_
 refine ao_ (n := 49) Tryz.func4 rfl rfl rfl (ab_ (aa_ (wo_ (bj_ (v := (.agg #[(.slice z1 m1 k1), (.slice z2 m2 k2), (.slice z3 m3 k3), (.slice z4 m4 k4)])) rfl hI rfl (fun g1 w1 I1 => ?_)))))
 obtain ⟨S1, le1, I2, p1⟩ := Inv.boxFreeze (x := a0) I1 (Riddle.rv (s := a0) r1 r2 r3 r4)
 refine wa_ (v := (vb false)) rfl rfl (ae_ ?_)
 obtain ⟨ov1, h2, h⟩ := bnd h
 refine lt_ (fun f w => ∃ v1, ov1 = Sum.inl v1 ∧ Inv w S1 (Fr) ∧ f 1 = (.slice z5 m5 k5) ∧ f 2 = (.slice z6 m6 k6) ∧ f 3 = (pt_ g1) ∧ f.ds = []) ?_ ?_
 ·
  refine ab_ (aa_ (wo_ (ld_ hb_ (p1.at_ I2) rfl (fun u2 hu2 => ?_))))
  obtain ⟨c9, c10, c11, c12, e13, r9, r10, r11, r12⟩ := Riddle.inv hu2
  subst e13
  obtain ⟨z11, m11, k11, rfl⟩ := ad_ r9
  obtain ⟨z12, m12, k12, rfl⟩ := ad_ r10
  obtain ⟨z13, m13, k13, rfl⟩ := ad_ r11
  obtain ⟨z14, m14, k14, rfl⟩ := ad_ r12
  obtain ⟨x4, hx4, h2⟩ := bnd h2
  refine wo_ (cv_ ca9 rfl I2 (fun Fr_ hF_ => um_ hF_ (Riddle.rv (s := a0) r9 r10 r11 r12) hx4) (en_ rfl) (fun w5 I6 => (wm_ (v := (vb x4)) rfl rfl ?_)))
  rcases ifs h2 with ⟨hc4, h2⟩ | ⟨hc4, h2⟩
  ·
   refine ws_ rfl rfl hc4 (ws_ rfl rfl hc4 (ws_ rfl rfl hc4 (ws_ rfl rfl hc4 (sq_ rfl rfl rfl rfl rfl (sq_ rfl rfl rfl rfl rfl (sq_ rfl rfl rfl rfl rfl (ws_ rfl rfl hc4 (wo_ (ax_ (a := (vb true)) rfl rfl hc4 rfl (ae_ (ah_ rfl rfl (ab_ (aa_ ?_)))))))))))))
   obtain ⟨x5, hx5, h2⟩ := bnd h2
   refine wo_ (cv_ ca10 rfl I6 (fun Fr_ hF_ => lp_ hF_  hx5) args0 (fun w6 I7 => (wa_ (v := (vb x5)) rfl rfl (ae_ (ak_ ?_)))))
   obtain rfl := sj h2
   have h3 := h
   obtain rfl := sj h3
   exact ⟨rfl, (vb x5), (bq_ rfl rfl), _, [], le1, I7, rfl, rfl⟩
  refine wk_ rfl rfl hc4 (ar_ (v := (.slice z5 m5 k5)) rfl rfl (wk_ rfl rfl hc4 (aw_ rfl Tryz.underlying45 rfl (h1_.mono le1) (wk_ rfl rfl hc4 (la_ rfl rfl rfl (wk_ rfl rfl hc4 (ar_ (v := (vb (decide (6 < (a1.length : Int))))) rfl rfl ?_)))))))
  rcases ifs h2 with ⟨hc5, h2⟩ | ⟨hc5, h2⟩
  ·
   refine wk_ rfl rfl hc5 (ar_ (v := (.slice z5 m5 k5)) rfl rfl (wk_ rfl rfl hc5 (aw_ rfl Tryz.underlying45 rfl (h1_.mono le1) (wk_ rfl rfl hc5 (ro_ rfl rfl rfl (wk_ rfl rfl hc4 (ax_ (a := (vb (decide ((a1.length : Int) ≤ 20)))) rfl rfl hc5 rfl (wo_ (ap_ (b := (vb (decide ((a1.length : Int) ≤ 20)))) rfl rfl hc4 rfl (ae_ ?_))))))))))
   rcases ifs h2 with ⟨hc6, h2⟩ | ⟨hc6, h2⟩
   ·
    refine ah_ rfl hc6 (ab_ (aa_ ?_))
    obtain ⟨x6, hx6, h2⟩ := bnd h2
    refine wo_ (cv_ ca10 rfl I6 (fun Fr_ hF_ => lp_ hF_  hx6) args0 (fun w7 I8 => (wa_ (v := (vb x6)) rfl rfl (ae_ (ak_ ?_)))))
    obtain rfl := sj h2
    have h3 := h
    obtain rfl := sj h3
    exact ⟨rfl, (vb x6), (bq_ rfl rfl), _, [], le1, I8, rfl, rfl⟩
   refine aj_ rfl hc6 (aq_ ?_)
   obtain rfl := sj h2
   exact ⟨_, rfl, I6, rfl, rfl, rfl, rfl⟩
  refine ws_ rfl rfl hc5 (ws_ rfl rfl hc5 (ws_ rfl rfl hc5 (wk_ rfl rfl hc4 (ap_ (b := (vb false)) rfl rfl hc5 rfl (wo_ (ap_ (b := (vb false)) rfl rfl hc4 rfl (ae_ (aj_ rfl rfl (aq_ ?_)))))))))
  obtain rfl := sj h2
  exact ⟨_, rfl, I6, rfl, rfl, rfl, rfl⟩
 rintro f w ⟨v1, rfl, I9, e18, e19, e20, ed1⟩
 have h := dw_ h
 refine ab_ (aa_ (wo_ (ay_ rfl hb_ e20 (p1.at_ I9) (fun u3 hu3 => ?_))))
 obtain ⟨c13, c14, c15, c16, e21, r13, r14, r15, r16⟩ := Riddle.inv hu3
 subst e21
 obtain ⟨z15, m15, k15, rfl⟩ := ad_ r13
 obtain ⟨z16, m16, k16, rfl⟩ := ad_ r14
 obtain ⟨z17, m17, k17, rfl⟩ := ad_ r15
 obtain ⟨z18, m18, k18, rfl⟩ := ad_ r16
 refine wm_ rfl e18 (wm_ rfl e19 ?_)
 obtain ⟨x7, hx7, h⟩ := bnd h
 refine wo_ (cv_ ca19 rfl I9 (fun Fr_ hF_ => up_ hF_ (Riddle.rv (s := a0) r13 r14 r15 r16) (h1_.mono le1) (h2_.mono le1) hx7) (cy_ rfl rfl rfl) (fun w8 I10 => (wm_ (v := (Value.tuple #[(vb x7.1), (vi x7.2)])) rfl rfl (wo_ (bk_ (v := (vb x7.1)) rfl rfl rfl (wo_ (bk_ (v := (vi x7.2)) rfl rfl rfl (wa_ (v := (vb x7.1)) rfl rfl (wa_ (v := (vi x7.2)) rfl rfl (ae_ (ab_ (aa_ (wo_ (ay_ rfl hb_ e20 (p1.at_ I10) (fun u4 hu4 => ?_)))))))))))))))
 obtain ⟨c17, c18, c19, c20, e26, r17, r18, r19, r20⟩ := Riddle.inv hu4
 subst e26
 obtain ⟨z19, m19, k19, rfl⟩ := ad_ r17
 obtain ⟨z20, m20, k20, rfl⟩ := ad_ r18
 obtain ⟨z21, m21, k21, rfl⟩ := ad_ r19
 obtain ⟨z22, m22, k22, rfl⟩ := ad_ r20
 refine wm_ rfl e18 (wm_ rfl e19 ?_)
 obtain ⟨x8, hx8, h⟩ := bnd h
 refine wo_ (cv_ ca20 rfl I10 (fun Fr_ hF_ => ug_ hF_ (Riddle.rv (s := a0) r17 r18 r19 r20) (h1_.mono le1) (h2_.mono le1) hx8) (cy_ rfl rfl rfl) (fun w9 I11 => (wm_ (v := (Value.tuple #[(vb x8.1), (vi x8.2)])) rfl rfl (wo_ (bk_ (v := (vb x8.1)) rfl rfl rfl (wo_ (bk_ (v := (vi x8.2)) rfl rfl rfl (wa_ (v := (vb x8.1)) rfl rfl (wa_ (v := (vi x8.2)) rfl rfl (ae_ (ab_ (aa_ (wm_ (v := (vb x7.1)) rfl rfl (wm_ (v := (vb x8.1)) rfl rfl (wo_ (op_beql (a := x7.1) (b := x8.1) rfl Tryz.underlying4 rfl rfl (wm_ (v := (vb (x7.1 == x8.1))) rfl rfl ?_)))))))))))))))))
 rcases ifs h with ⟨hc7, h⟩ | ⟨hc7, h⟩
 ·
  refine wk_ rfl rfl hc7 (ar_ (v := (vi x7.2)) rfl rfl (wk_ rfl rfl hc7 (ar_ (v := (vi x8.2)) rfl rfl (wk_ rfl rfl hc7 (bn_ rfl rfl rfl (wo_ (ax_ (a := (vb (x7.2 == x8.2))) rfl rfl hc7 rfl (wm_ (v := (vb (x7.2 == x8.2))) rfl rfl ?_))))))))
  rcases ifs h with ⟨hc8, h⟩ | ⟨hc8, h⟩
  ·
   obtain ⟨x9, hx9, h⟩ := bnd h
   refine wk_ rfl rfl hc8 (cv_ ca10 rfl I11 (fun Fr_ hF_ => lp_ hF_  hx9) args0 (fun w10 I12 => (wo_ (ax_ (a := (vb x9)) rfl rfl hc8 rfl (wa_ (v := (vb x9)) rfl rfl (ae_ (ak_ ?_)))))))
   obtain rfl := sj h
   exact ⟨ed1, (vb x9), (bq_ rfl rfl), _, [], le1, I12, rfl, rfl⟩
  refine ws_ rfl rfl hc8 (wo_ (ap_ (b := (vb false)) rfl rfl hc8 rfl (wa_ (v := (vb false)) rfl rfl (ae_ (ak_ ?_)))))
  obtain rfl := sj h
  exact ⟨ed1, (vb false), (bq_ rfl rfl), _, [], le1, I11, rfl, rfl⟩
 refine ws_ rfl rfl hc7 (ws_ rfl rfl hc7 (ws_ rfl rfl hc7 (wo_ (ap_ (b := (vb false)) rfl rfl hc7 rfl (wm_ (v := (vb false)) rfl rfl (ws_ rfl rfl rfl (wo_ (ap_ (b := (vb false)) rfl rfl rfl rfl (wa_ (v := (vb false)) rfl rfl (ae_ (ak_ ?_)))))))))))
 obtain rfl := sj h
 exact ⟨ed1, (vb false), (bq_ rfl rfl), _, [], le1, I11, rfl, rfl⟩
end Go.Proofs.YtlpdpeghgndmkaaGreat.Pad
