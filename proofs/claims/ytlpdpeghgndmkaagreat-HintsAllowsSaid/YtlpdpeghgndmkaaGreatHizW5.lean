/- A part of the proof: what the functions of the program compute, shown over the model. -/
import Derived.Test.YtlpdpeghgndmkaaGreatHizP
import Derived.Test.YtlpdpeghgndmkaaGreatHizW4
import Derived.KernelRfl
set_option linter.unusedVariables false
set_option maxHeartbeats 4000000
set_option maxRecDepth 100000
namespace Go.Proofs.YtlpdpeghgndmkaaGreat.Pad
open Go Go.Proofs
theorem me_ {w : World} {S : PH} {Fr : List HP} {a0 : CodeLock} {v0 : Value} {a1 : Clue} {v1 : Value} {r : Bool} (hI : Inv w S (Fr)) (h0_ : RV S v0 a0) (h1_ : RV S v1 a1) (h : fm_ a0 a1 = some r) :
    Calls Tryz.prog 125 [v0, v1].toArray w (bw_ S Fr (Value.bool (r))) := by
 unfold fm_ at h
 have e1 := CodeLock.inv h0_
 subst e1
 obtain ⟨c1, e2, r1⟩ := Clue.inv h1_
 subst e2
 obtain ⟨z1, m1, k1, rfl⟩ := ac_ r1
 refine ao_ (n := 205) Tryz.func125 rfl rfl rfl (ab_ (aa_ (wo_ (bi_ (v := (.agg #[(vi a0.Wheels), (vi a0.Symbols)])) rfl hI rfl (fun g1 w1 I1 => ?_)))))
 obtain ⟨S1, le1, I2, p1⟩ := Inv.boxFreeze (x := a0) I1 (CodeLock.rv (s := a0))
 refine wo_ (bi_ (v := (.agg #[(vi a1.Kind), (vi a1.A), (vi a1.B), (vi a1.N), (vi a1.M), (.slice z1 m1 k1), (vb a1.Not)])) rfl I2 rfl (fun g2 w2 I3 => ?_))
 obtain ⟨S2, le2, I4, p2⟩ := Inv.boxFreeze (x := a1) I3 (Clue.rv (s := a1) (r1.mono le1))
 refine wa_ (v := (vb false)) rfl rfl (ad_ (ab_ (aa_ (wo_ (fa_ tb_ (p2.at_ I4) rfl (wo_ (li_ sh3 ((p2.at_ I4).fld Clue.fld0) rfl (wo_ (fa_ mb_ (p2.at_ I4) rfl (wo_ (lb_ sh4 ((p2.at_ I4).fld Clue.fld6) rfl (wo_ (hl_ (qs := [(0, #[(vi a1.Kind)]), (6, #[(vb a1.Not)])]) (c := #[(vi a1.Kind), (vi 0), (vi 0), (vi 0), (vi 0), sn, (vb a1.Not)]) rfl st30 ⟨rfl, rfl, ⟨rfl, rfl, trivial⟩⟩ rfl (wo_ (bu_ (z := (.agg #[(vi 0), (vi 0), (vi 0), (vi 0), (vi 0), sn, (vb false)])) rfl I4 zo30 (fun g3 w3 (I5 : Inv w3 S2 (am_ g3 30 #[(vi 0), (vi 0), (vi 0), (vi 0), (vi 0), sn, (vb false)] :: Fr)) => (wo_ (bb_ (v := (.agg #[(vi a1.Kind), (vi 0), (vi 0), (vi 0), (vi 0), sn, (vb a1.Not)])) (cs := #[(vi 0), (vi 0), (vi 0), (vi 0), (vi 0), sn, (vb false)]) lk_ I5 rfl rfl rfl nb rfl (fun w4 (I6 : Inv w4 S2 (am_ g3 30 #[(vi a1.Kind), (vi 0), (vi 0), (vi 0), (vi 0), sn, (vb a1.Not)] :: Fr)) => (ad_ (ab_ (aa_ (wa_ (v := (vb false)) rfl rfl (ad_ ?_))))))))))))))))))))))))
 obtain ⟨v2, h5, h⟩ := bnd h
 refine ks_ (fun f w => ∃ (S_ : PH) (z6 : Option Addr) (m6 k6 : Nat), S2.Le S_ ∧ Inv w S_ (am_ g3 30 #[(vi a1.Kind), (vi v2.1), (vi v2.2.1), (vi v2.2.2.1), (vi v2.2.2.2.1), (.slice z6 m6 k6), (vb a1.Not)] :: Fr) ∧ f 3 = (pt_ g2) ∧ f 5 = (pt_ g3) ∧ f 6 = (vb v2.2.2.2.2.2) ∧ RV S_ (.slice z6 m6 k6) v2.2.2.2.2.1 ∧ f.ds = []) ?_ ?_
 ·
  refine ab_ (aa_ (wo_ (fa_ tb_ (p2.at_ I6) rfl (wo_ (li_ sh3 ((p2.at_ I6).fld Clue.fld0) rfl (ad_ (au_ (ab_ (aa_ (wo_ (bm_ rfl rfl rfl (wa_ (v := (vb (a1.Kind == 1))) rfl rfl (ad_ ?_)))))))))))))
  rcases ifs h5 with ⟨hc20, h5⟩ | ⟨hc20, h5⟩
  ·
   refine ah_ rfl hc20 (ab_ ?_)
   refine bj_ (sps := [spV 16 [] 0 (an_ (pt_ g2) 1), spV 17 [0] 1 (vi a1.A), spV 18 [] 2 (an_ (pt_ g2) 3), spV 19 [2] 3 (vi a1.N), spV 20 [0, 1] 4 (.pointer (some ⟨g3, 1, none⟩)), ⟨none, [0, 1, 4], [], fun vs_ T_ => True, [], [0], [1], fun _ h_ => h_⟩, spV 21 (lrg 6) 6 (.pointer (some ⟨g3, 3, none⟩)), ⟨none, (lrg 7), [], fun vs_ T_ => True, [], [1], [2], fun _ h_ => h_⟩]) (tks := [⟨none, some 5, [], fun vs_ => am_ g3 30 #[(vi a1.Kind), (vi 0), (vi 0), (vi 0), (vi 0), sn, (vb a1.Not)]⟩, ⟨some 5, some 7, [], fun vs_ => am_ g3 30 #[(vi a1.Kind), (vi a1.A), (vi 0), (vi 0), (vi 0), sn, (vb a1.Not)]⟩, ⟨some 7, none, [], fun vs_ => am_ g3 30 #[(vi a1.Kind), (vi a1.A), (vi 0), (vi a1.N), (vi 0), sn, (vb a1.Not)]⟩]) (O := Fr) rfl (by kernel_rfl) I6 ⟨ob_ rfl fun l A K I => (ae_ rfl db_ (K 3 (ag_ rfl)) ((p2.mono l).at_ I) (fo I)), ob_ rfl fun l A K I => (aj_ rfl sh3 (A.v 0 rfl) (((p2.mono l).at_ I).fld Clue.fld1) (fo I)), ob_ rfl fun l A K I => (ae_ rfl ck_ (K 3 (ag_ rfl)) ((p2.mono l).at_ I) (fo I)), ob_ rfl fun l A K I => (aj_ rfl sh3 (A.v 0 rfl) (((p2.mono l).at_ I).fld Clue.fld3) (fo I)), ob_ rfl fun l A K I => (av_ (v := (pt_ g3)) rfl db_ (K 5 (ag_ rfl)) rfl (fo I)), ?_, ob_ rfl fun l A K I => (av_ (v := (pt_ g3)) rfl ck_ (K 5 (ag_ rfl)) rfl (fo I)), ?_, trivial⟩ ?_
   ·
    intro vs f w_ U X le A K I
    have I127 : Inv w_ U (am_ g3 30 #[(vi a1.Kind), (vi 0), (vi 0), (vi 0), (vi 0), sn, (vb a1.Not)] :: X) := I
    have q49 := A.v 1 rfl
    have q50 := A.v 2 rfl
    refine pl_ rfl (bb_ (v := (vi a1.A)) (cs := #[(vi a1.Kind), (vi 0), (vi 0), (vi 0), (vi 0), sn, (vb a1.Not)]) sh3 I127 q50 q49 rfl nb rfl (fun w125 (I128 : Inv w125 U (am_ g3 30 #[(vi a1.Kind), (vi a1.A), (vi 0), (vi 0), (vi 0), sn, (vb a1.Not)] :: X)) => (⟨undef, _, rfl, lr, ?_, ?_⟩)))
    · exact trivial
    exact I128
   ·
    intro vs f w_ U X le A K I
    have I130 : Inv w_ U (am_ g3 30 #[(vi a1.Kind), (vi a1.A), (vi 0), (vi 0), (vi 0), sn, (vb a1.Not)] :: X) := I
    have q51 := A.v 3 rfl
    have q52 := A.v 6 rfl
    refine pl_ rfl (bb_ (v := (vi a1.N)) (cs := #[(vi a1.Kind), (vi a1.A), (vi 0), (vi 0), (vi 0), sn, (vb a1.Not)]) sh3 I130 q52 q51 rfl nb rfl (fun w128 (I131 : Inv w128 U (am_ g3 30 #[(vi a1.Kind), (vi a1.A), (vi 0), (vi a1.N), (vi 0), sn, (vb a1.Not)] :: X)) => (⟨undef, _, rfl, lr, ?_, ?_⟩)))
    · exact trivial
    exact I131
   intro vs75 f w129 S77 ed8 le77 hF7 hK75 hI75
   have e41 : f 2 = (pt_ g1) := (hK75 2 (al_ rfl)).trans rfl
   have e42 : f 3 = (pt_ g2) := (hK75 3 (al_ rfl)).trans rfl
   have e43 : f 5 = (pt_ g3) := (hK75 5 (al_ rfl)).trans rfl
   have I132 : Inv w129 S77 (am_ g3 30 #[(vi a1.Kind), (vi a1.A), (vi 0), (vi a1.N), (vi 0), sn, (vb a1.Not)] :: Fr) := hI75
   refine aa_ (wo_ (ay_ rfl tf_ e41 ((p1.mono (le2.trans le77)).at_ I132) (fun u15 hu15 => ?_)))
   have e44 := CodeLock.inv hu15
   subst e44
   refine wo_ (ae_ rfl db_ e42 ((p2.mono le77).at_ I132) (wo_ (li_ sh3 (((p2.mono le77).at_ I132).fld Clue.fld1) rfl ?_)))
   obtain ⟨x16, hx16, h5⟩ := bnd h5
   refine wo_ (cv_ ca134 rfl I132 (fun Fr_ hF_ => dk_ hF_ (CodeLock.rv (s := a0)) hx16) (br_ rfl rfl) (fun w130 I133 => (wm_ (v := (vb x16)) rfl rfl ?_)))
   rcases ifs h5 with ⟨hc21, h5⟩ | ⟨hc21, h5⟩
   ·
    refine wk_ rfl rfl hc21 (ay_ rfl tf_ e41 ((p1.mono (le2.trans le77)).at_ I133) (fun u16 hu16 => ?_))
    have e45 := CodeLock.inv hu16
    subst e45
    refine wk_ rfl rfl hc21 (ae_ rfl ck_ e42 ((p2.mono le77).at_ I133) (wk_ rfl rfl hc21 (li_ sh3 (((p2.mono le77).at_ I133).fld Clue.fld3) rfl ?_)))
    obtain ⟨x17, hx17, h5⟩ := bnd h5
    refine wk_ rfl rfl hc21 (cv_ ca135 rfl I133 (fun Fr_ hF_ => hf_ hF_ (CodeLock.rv (s := a0)) hx17) (br_ rfl rfl) (fun w131 I134 => (wo_ (aw_ (a := (vb x17)) rfl rfl hc21 rfl (wa_ (v := (vb x17)) rfl rfl (ad_ ?_))))))
    obtain rfl := sj h5
    exact ⟨_, _, _, _, le77, I134, e42, e43, rfl, rv_nil, (ed8.trans rfl)⟩
   refine ws_ rfl rfl hc21 (ws_ rfl rfl hc21 (ws_ rfl rfl hc21 (ws_ rfl rfl hc21 (wo_ (ap_ (b := (vb false)) rfl rfl hc21 rfl (wa_ (v := (vb false)) rfl rfl (ad_ ?_)))))))
   obtain rfl := sj h5
   exact ⟨_, _, _, _, le77, I133, e42, e43, rfl, rv_nil, (ed8.trans rfl)⟩
  refine ai_ rfl hc20 (ab_ (aa_ (wo_ (bm_ rfl rfl rfl (wa_ (v := (vb (a1.Kind == 2))) rfl rfl (ad_ ?_))))))
  rcases ifs h5 with ⟨hc22, h5⟩ | ⟨hc22, h5⟩
  ·
   refine ah_ rfl hc22 (ab_ ?_)
   refine bj_ (sps := [spV 34 [] 0 (an_ (pt_ g2) 1), spV 35 [0] 1 (vi a1.A), spV 36 [] 2 (an_ (pt_ g2) 2), spV 37 [2] 3 (vi a1.B), spV 38 [] 4 (an_ (pt_ g2) 3), spV 39 [4] 5 (vi a1.N), spV 40 [0, 1] 6 (.pointer (some ⟨g3, 1, none⟩)), ⟨none, [0, 1, 6], [], fun vs_ T_ => True, [], [0], [1], fun _ h_ => h_⟩, spV 41 [0, 1, 2, 3, 6, 7] 8 (.pointer (some ⟨g3, 2, none⟩)), ⟨none, [0, 1, 2, 3, 6, 7, 8], [], fun vs_ T_ => True, [], [1], [2], fun _ h_ => h_⟩, spV 42 (lrg 10) 10 (.pointer (some ⟨g3, 3, none⟩)), ⟨none, (lrg 11), [], fun vs_ T_ => True, [], [2], [3], fun _ h_ => h_⟩]) (tks := [⟨none, some 7, [], fun vs_ => am_ g3 30 #[(vi a1.Kind), (vi 0), (vi 0), (vi 0), (vi 0), sn, (vb a1.Not)]⟩, ⟨some 7, some 9, [], fun vs_ => am_ g3 30 #[(vi a1.Kind), (vi a1.A), (vi 0), (vi 0), (vi 0), sn, (vb a1.Not)]⟩, ⟨some 9, some 11, [], fun vs_ => am_ g3 30 #[(vi a1.Kind), (vi a1.A), (vi a1.B), (vi 0), (vi 0), sn, (vb a1.Not)]⟩, ⟨some 11, none, [], fun vs_ => am_ g3 30 #[(vi a1.Kind), (vi a1.A), (vi a1.B), (vi a1.N), (vi 0), sn, (vb a1.Not)]⟩]) (O := Fr) rfl (by kernel_rfl) I6 ⟨ob_ rfl fun l A K I => (ae_ rfl db_ (K 3 (ag_ rfl)) ((p2.mono l).at_ I) (fo I)), ob_ rfl fun l A K I => (aj_ rfl sh3 (A.v 0 rfl) (((p2.mono l).at_ I).fld Clue.fld1) (fo I)), ob_ rfl fun l A K I => (ae_ rfl fv_ (K 3 (ag_ rfl)) ((p2.mono l).at_ I) (fo I)), ob_ rfl fun l A K I => (aj_ rfl sh3 (A.v 0 rfl) (((p2.mono l).at_ I).fld Clue.fld2) (fo I)), ob_ rfl fun l A K I => (ae_ rfl ck_ (K 3 (ag_ rfl)) ((p2.mono l).at_ I) (fo I)), ob_ rfl fun l A K I => (aj_ rfl sh3 (A.v 0 rfl) (((p2.mono l).at_ I).fld Clue.fld3) (fo I)), ob_ rfl fun l A K I => (av_ (v := (pt_ g3)) rfl db_ (K 5 (ag_ rfl)) rfl (fo I)), ?_, ob_ rfl fun l A K I => (av_ (v := (pt_ g3)) rfl fv_ (K 5 (ag_ rfl)) rfl (fo I)), ?_, ob_ rfl fun l A K I => (av_ (v := (pt_ g3)) rfl ck_ (K 5 (ag_ rfl)) rfl (fo I)), ?_, trivial⟩ ?_
   ·
    intro vs f w_ U X le A K I
    have I145 : Inv w_ U (am_ g3 30 #[(vi a1.Kind), (vi 0), (vi 0), (vi 0), (vi 0), sn, (vb a1.Not)] :: X) := I
    have q56 := A.v 1 rfl
    have q57 := A.v 2 rfl
    refine pl_ rfl (bb_ (v := (vi a1.A)) (cs := #[(vi a1.Kind), (vi 0), (vi 0), (vi 0), (vi 0), sn, (vb a1.Not)]) sh3 I145 q57 q56 rfl nb rfl (fun w143 (I146 : Inv w143 U (am_ g3 30 #[(vi a1.Kind), (vi a1.A), (vi 0), (vi 0), (vi 0), sn, (vb a1.Not)] :: X)) => (⟨undef, _, rfl, lr, ?_, ?_⟩)))
    · exact trivial
    exact I146
   ·
    intro vs f w_ U X le A K I
    have I148 : Inv w_ U (am_ g3 30 #[(vi a1.Kind), (vi a1.A), (vi 0), (vi 0), (vi 0), sn, (vb a1.Not)] :: X) := I
    have q58 := A.v 3 rfl
    have q59 := A.v 6 rfl
    refine pl_ rfl (bb_ (v := (vi a1.B)) (cs := #[(vi a1.Kind), (vi a1.A), (vi 0), (vi 0), (vi 0), sn, (vb a1.Not)]) sh3 I148 q59 q58 rfl nb rfl (fun w146 (I149 : Inv w146 U (am_ g3 30 #[(vi a1.Kind), (vi a1.A), (vi a1.B), (vi 0), (vi 0), sn, (vb a1.Not)] :: X)) => (⟨undef, _, rfl, lr, ?_, ?_⟩)))
    · exact trivial
    exact I149
   ·
    intro vs f w_ U X le A K I
    have I151 : Inv w_ U (am_ g3 30 #[(vi a1.Kind), (vi a1.A), (vi a1.B), (vi 0), (vi 0), sn, (vb a1.Not)] :: X) := I
    have q60 := A.v 5 rfl
    have q61 := A.v 10 rfl
    refine pl_ rfl (bb_ (v := (vi a1.N)) (cs := #[(vi a1.Kind), (vi a1.A), (vi a1.B), (vi 0), (vi 0), sn, (vb a1.Not)]) sh3 I151 q61 q60 rfl nb rfl (fun w149 (I152 : Inv w149 U (am_ g3 30 #[(vi a1.Kind), (vi a1.A), (vi a1.B), (vi a1.N), (vi 0), sn, (vb a1.Not)] :: X)) => (⟨undef, _, rfl, lr, ?_, ?_⟩)))
    · exact trivial
    exact I152
   intro vs88 f w150 S90 ed9 le90 hF8 hK88 hI88
   have e46 : f 2 = (pt_ g1) := (hK88 2 (al_ rfl)).trans rfl
   have e47 : f 3 = (pt_ g2) := (hK88 3 (al_ rfl)).trans rfl
   have e48 : f 5 = (pt_ g3) := (hK88 5 (al_ rfl)).trans rfl
   have I153 : Inv w150 S90 (am_ g3 30 #[(vi a1.Kind), (vi a1.A), (vi a1.B), (vi a1.N), (vi 0), sn, (vb a1.Not)] :: Fr) := hI88
   refine aa_ (wo_ (ay_ rfl tf_ e46 ((p1.mono (le2.trans le90)).at_ I153) (fun u17 hu17 => ?_)))
   have e49 := CodeLock.inv hu17
   subst e49
   refine wo_ (ae_ rfl db_ e47 ((p2.mono le90).at_ I153) (wo_ (li_ sh3 (((p2.mono le90).at_ I153).fld Clue.fld1) rfl ?_)))
   obtain ⟨x18, hx18, h5⟩ := bnd h5
   refine wo_ (cv_ ca134 rfl I153 (fun Fr_ hF_ => dk_ hF_ (CodeLock.rv (s := a0)) hx18) (br_ rfl rfl) (fun w151 I154 => (wm_ (v := (vb x18)) rfl rfl ?_)))
   rcases ifs h5 with ⟨hc23, h5⟩ | ⟨hc23, h5⟩
   ·
    refine wk_ rfl rfl hc23 (ay_ rfl tf_ e46 ((p1.mono (le2.trans le90)).at_ I154) (fun u18 hu18 => ?_))
    have e50 := CodeLock.inv hu18
    subst e50
    refine wk_ rfl rfl hc23 (ae_ rfl fv_ e47 ((p2.mono le90).at_ I154) (wk_ rfl rfl hc23 (li_ sh3 (((p2.mono le90).at_ I154).fld Clue.fld2) rfl ?_)))
    obtain ⟨x19, hx19, h5⟩ := bnd h5
    refine wk_ rfl rfl hc23 (cv_ ca134 rfl I154 (fun Fr_ hF_ => dk_ hF_ (CodeLock.rv (s := a0)) hx19) (br_ rfl rfl) (fun w152 I155 => (wo_ (aw_ (a := (vb x19)) rfl rfl hc23 rfl (wm_ (v := (vb x19)) rfl rfl ?_)))))
    rcases ifs h5 with ⟨hc24, h5⟩ | ⟨hc24, h5⟩
    ·
     refine wk_ rfl rfl hc24 (ae_ rfl db_ e47 ((p2.mono le90).at_ I155) (wk_ rfl rfl hc24 (li_ sh3 (((p2.mono le90).at_ I155).fld Clue.fld1) rfl (wk_ rfl rfl hc24 (ae_ rfl fv_ e47 ((p2.mono le90).at_ I155) (wk_ rfl rfl hc24 (li_ sh3 (((p2.mono le90).at_ I155).fld Clue.fld2) rfl (wk_ rfl rfl hc24 (sw_ rfl rfl rfl (wo_ (aw_ (a := (vb (decide (a1.A ≤ a1.B)))) rfl rfl hc24 rfl (wm_ (v := (vb (decide (a1.A ≤ a1.B)))) rfl rfl ?_))))))))))))
     rcases ifs h5 with ⟨hc25, h5⟩ | ⟨hc25, h5⟩
     ·
      refine wk_ rfl rfl hc25 (ae_ rfl ck_ e47 ((p2.mono le90).at_ I155) (wk_ rfl rfl hc25 (li_ sh3 (((p2.mono le90).at_ I155).fld Clue.fld3) rfl ?_)))
      obtain ⟨x20, hx20, h5⟩ := bnd h5
      refine wk_ rfl rfl hc25 (cv_ wl_ rfl I155 (fun Fr_ hF_ => cp_ hF_  hx20) (cf_ rfl rfl rfl) (fun w153 I156 => (wo_ (aw_ (a := (vb x20)) rfl rfl hc25 rfl (wa_ (v := (vb x20)) rfl rfl (ad_ ?_))))))
      obtain rfl := sj h5
      exact ⟨_, _, _, _, le90, I156, e47, e48, rfl, rv_nil, (ed9.trans rfl)⟩
     refine ws_ rfl rfl hc25 (ws_ rfl rfl hc25 (ws_ rfl rfl hc25 (wo_ (ap_ (b := (vb false)) rfl rfl hc25 rfl (wa_ (v := (vb false)) rfl rfl (ad_ ?_))))))
     obtain rfl := sj h5
     exact ⟨_, _, _, _, le90, I155, e47, e48, rfl, rv_nil, (ed9.trans rfl)⟩
    refine ws_ rfl rfl hc24 (ws_ rfl rfl hc24 (ws_ rfl rfl hc24 (ws_ rfl rfl hc24 (ws_ rfl rfl hc24 (wo_ (ap_ (b := (vb false)) rfl rfl hc24 rfl (wm_ (v := (vb false)) rfl rfl (ws_ rfl rfl rfl (ws_ rfl rfl rfl (ws_ rfl rfl rfl (wo_ (ap_ (b := (vb false)) rfl rfl rfl rfl (wa_ (v := (vb false)) rfl rfl (ad_ ?_))))))))))))))
    obtain rfl := sj h5
    exact ⟨_, _, _, _, le90, I155, e47, e48, rfl, rv_nil, (ed9.trans rfl)⟩
   refine ws_ rfl rfl hc23 (ws_ rfl rfl hc23 (ws_ rfl rfl hc23 (ws_ rfl rfl hc23 (wo_ (ap_ (b := (vb false)) rfl rfl hc23 rfl (wm_ (v := (vb false)) rfl rfl (ws_ rfl rfl rfl (ws_ rfl rfl rfl (ws_ rfl rfl rfl (ws_ rfl rfl rfl (ws_ rfl rfl rfl (wo_ (ap_ (b := (vb false)) rfl rfl rfl rfl (wm_ (v := (vb false)) rfl rfl (ws_ rfl rfl rfl (ws_ rfl rfl rfl (ws_ rfl rfl rfl (wo_ (ap_ (b := (vb false)) rfl rfl rfl rfl (wa_ (v := (vb false)) rfl rfl (ad_ ?_)))))))))))))))))))))
   obtain rfl := sj h5
   exact ⟨_, _, _, _, le90, I154, e47, e48, rfl, rv_nil, (ed9.trans rfl)⟩
  refine ai_ rfl hc22 ?_
  obtain ⟨v3, h8, h5⟩ := bnd h5
  refine ks_ (fun f w => Inv w S2 (am_ g3 30 #[(vi a1.Kind), (vi 0), (vi 0), (vi 0), (vi 0), sn, (vb a1.Not)] :: Fr) ∧ f 2 = (pt_ g1) ∧ f 3 = (pt_ g2) ∧ f 5 = (pt_ g3) ∧ f 6 = (vb false) ∧ f 13 = (vi a1.Kind) ∧ f 65 = (vb v3) ∧ f.ds = []) ?_ ?_
  ·
   refine ab_ (aa_ (wo_ (bm_ rfl rfl rfl (wa_ (v := (vb (a1.Kind == 3))) rfl rfl (ad_ ?_)))))
   rcases ifs h8 with ⟨hc27, h8⟩ | ⟨hc27, h8⟩
   ·
    refine ah_ rfl hc27 (ar_ ?_)
    obtain rfl := sj h8
    exact ⟨I6, rfl, rfl, rfl, rfl, rfl, rfl, rfl⟩
   refine ai_ rfl hc27 (aa_ (wo_ (bm_ rfl rfl rfl (wa_ (v := (vb (a1.Kind == 4))) rfl rfl (ad_ ?_)))))
   obtain rfl := sj h8
   exact ⟨I6, rfl, rfl, rfl, rfl, rfl, rfl, rfl⟩
  rintro f w ⟨I157, e51, e52, e53, e54, e55, e56, ed10⟩
  rcases ifs h5 with ⟨hc28, h5⟩ | ⟨hc28, h5⟩
  ·
   refine ah_ e56 hc28 (ab_ ?_)
   refine bj_ (sps := [spV 68 [] 0 (an_ (pt_ g2) 1), spV 69 [0] 1 (vi a1.A), spV 70 [] 2 (an_ (pt_ g2) 2), spV 71 [2] 3 (vi a1.B), spV 72 [0, 1] 4 (.pointer (some ⟨g3, 1, none⟩)), ⟨none, [0, 1, 4], [], fun vs_ T_ => True, [], [0], [1], fun _ h_ => h_⟩, spV 73 (lrg 6) 6 (.pointer (some ⟨g3, 2, none⟩)), ⟨none, (lrg 7), [], fun vs_ T_ => True, [], [1], [2], fun _ h_ => h_⟩]) (tks := [⟨none, some 5, [], fun vs_ => am_ g3 30 #[(vi a1.Kind), (vi 0), (vi 0), (vi 0), (vi 0), sn, (vb a1.Not)]⟩, ⟨some 5, some 7, [], fun vs_ => am_ g3 30 #[(vi a1.Kind), (vi a1.A), (vi 0), (vi 0), (vi 0), sn, (vb a1.Not)]⟩, ⟨some 7, none, [], fun vs_ => am_ g3 30 #[(vi a1.Kind), (vi a1.A), (vi a1.B), (vi 0), (vi 0), sn, (vb a1.Not)]⟩]) (O := Fr) rfl (by kernel_rfl) I157 ⟨ob_ rfl fun l A K I => (ae_ rfl db_ ((K 3 (ag_ rfl)).trans e52) ((p2.mono l).at_ I) (fo I)), ob_ rfl fun l A K I => (aj_ rfl sh3 (A.v 0 rfl) (((p2.mono l).at_ I).fld Clue.fld1) (fo I)), ob_ rfl fun l A K I => (ae_ rfl fv_ ((K 3 (ag_ rfl)).trans e52) ((p2.mono l).at_ I) (fo I)), ob_ rfl fun l A K I => (aj_ rfl sh3 (A.v 0 rfl) (((p2.mono l).at_ I).fld Clue.fld2) (fo I)), ob_ rfl fun l A K I => (av_ (v := (pt_ g3)) rfl db_ ((K 5 (ag_ rfl)).trans e53) rfl (fo I)), ?_, ob_ rfl fun l A K I => (av_ (v := (pt_ g3)) rfl fv_ ((K 5 (ag_ rfl)).trans e53) rfl (fo I)), ?_, trivial⟩ ?_
   ·
    intro vs f w_ U X le A K I
    have I165 : Inv w_ U (am_ g3 30 #[(vi a1.Kind), (vi 0), (vi 0), (vi 0), (vi 0), sn, (vb a1.Not)] :: X) := I
    have q64 := A.v 1 rfl
    have q65 := A.v 2 rfl
    refine pl_ rfl (bb_ (v := (vi a1.A)) (cs := #[(vi a1.Kind), (vi 0), (vi 0), (vi 0), (vi 0), sn, (vb a1.Not)]) sh3 I165 q65 q64 rfl nb rfl (fun w162 (I166 : Inv w162 U (am_ g3 30 #[(vi a1.Kind), (vi a1.A), (vi 0), (vi 0), (vi 0), sn, (vb a1.Not)] :: X)) => (⟨undef, _, rfl, lr, ?_, ?_⟩)))
    · exact trivial
    exact I166
   ·
    intro vs f w_ U X le A K I
    have I168 : Inv w_ U (am_ g3 30 #[(vi a1.Kind), (vi a1.A), (vi 0), (vi 0), (vi 0), sn, (vb a1.Not)] :: X) := I
    have q66 := A.v 3 rfl
    have q67 := A.v 6 rfl
    refine pl_ rfl (bb_ (v := (vi a1.B)) (cs := #[(vi a1.Kind), (vi a1.A), (vi 0), (vi 0), (vi 0), sn, (vb a1.Not)]) sh3 I168 q67 q66 rfl nb rfl (fun w165 (I169 : Inv w165 U (am_ g3 30 #[(vi a1.Kind), (vi a1.A), (vi a1.B), (vi 0), (vi 0), sn, (vb a1.Not)] :: X)) => (⟨undef, _, rfl, lr, ?_, ?_⟩)))
    · exact trivial
    exact I169
   intro vs97 f w166 S99 ed11 le99 hF9 hK97 hI97
   have e57 : f 2 = (pt_ g1) := (hK97 2 (al_ rfl)).trans e51
   have e58 : f 3 = (pt_ g2) := (hK97 3 (al_ rfl)).trans e52
   have e59 : f 5 = (pt_ g3) := (hK97 5 (al_ rfl)).trans e53
   have I170 : Inv w166 S99 (am_ g3 30 #[(vi a1.Kind), (vi a1.A), (vi a1.B), (vi 0), (vi 0), sn, (vb a1.Not)] :: Fr) := hI97
   refine aa_ (wo_ (ay_ rfl tf_ e57 ((p1.mono (le2.trans le99)).at_ I170) (fun u19 hu19 => ?_)))
   have e60 := CodeLock.inv hu19
   subst e60
   refine wo_ (ae_ rfl db_ e58 ((p2.mono le99).at_ I170) (wo_ (li_ sh3 (((p2.mono le99).at_ I170).fld Clue.fld1) rfl ?_)))
   obtain ⟨x21, hx21, h5⟩ := bnd h5
   refine wo_ (cv_ ca134 rfl I170 (fun Fr_ hF_ => dk_ hF_ (CodeLock.rv (s := a0)) hx21) (br_ rfl rfl) (fun w167 I171 => (wm_ (v := (vb x21)) rfl rfl ?_)))
   rcases ifs h5 with ⟨hc29, h5⟩ | ⟨hc29, h5⟩
   ·
    refine wk_ rfl rfl hc29 (ay_ rfl tf_ e57 ((p1.mono (le2.trans le99)).at_ I171) (fun u20 hu20 => ?_))
    have e61 := CodeLock.inv hu20
    subst e61
    refine wk_ rfl rfl hc29 (ae_ rfl fv_ e58 ((p2.mono le99).at_ I171) (wk_ rfl rfl hc29 (li_ sh3 (((p2.mono le99).at_ I171).fld Clue.fld2) rfl ?_)))
    obtain ⟨x22, hx22, h5⟩ := bnd h5
    refine wk_ rfl rfl hc29 (cv_ ca134 rfl I171 (fun Fr_ hF_ => dk_ hF_ (CodeLock.rv (s := a0)) hx22) (br_ rfl rfl) (fun w168 I172 => (wo_ (aw_ (a := (vb x22)) rfl rfl hc29 rfl (wm_ (v := (vb x22)) rfl rfl ?_)))))
    rcases ifs h5 with ⟨hc30, h5⟩ | ⟨hc30, h5⟩
    ·
     refine wk_ rfl rfl hc30 (ae_ rfl db_ e58 ((p2.mono le99).at_ I172) (wk_ rfl rfl hc30 (li_ sh3 (((p2.mono le99).at_ I172).fld Clue.fld1) rfl (wk_ rfl rfl hc30 (ae_ rfl fv_ e58 ((p2.mono le99).at_ I172) (wk_ rfl rfl hc30 (li_ sh3 (((p2.mono le99).at_ I172).fld Clue.fld2) rfl (wk_ rfl rfl hc30 (cd_ rfl rfl rfl (wo_ (aw_ (a := (vb (a1.A != a1.B))) rfl rfl hc30 rfl (wa_ (v := (vb (a1.A != a1.B))) rfl rfl (ad_ ?_)))))))))))))
     obtain rfl := sj h5
     exact ⟨_, _, _, _, le99, I172, e58, e59, rfl, rv_nil, (ed11.trans ed10)⟩
    refine ws_ rfl rfl hc30 (ws_ rfl rfl hc30 (ws_ rfl rfl hc30 (ws_ rfl rfl hc30 (ws_ rfl rfl hc30 (wo_ (ap_ (b := (vb false)) rfl rfl hc30 rfl (wa_ (v := (vb false)) rfl rfl (ad_ ?_))))))))
    obtain rfl := sj h5
    exact ⟨_, _, _, _, le99, I172, e58, e59, rfl, rv_nil, (ed11.trans ed10)⟩
   refine ws_ rfl rfl hc29 (ws_ rfl rfl hc29 (ws_ rfl rfl hc29 (ws_ rfl rfl hc29 (wo_ (ap_ (b := (vb false)) rfl rfl hc29 rfl (wm_ (v := (vb false)) rfl rfl (ws_ rfl rfl rfl (ws_ rfl rfl rfl (ws_ rfl rfl rfl (ws_ rfl rfl rfl (ws_ rfl rfl rfl (wo_ (ap_ (b := (vb false)) rfl rfl rfl rfl (wa_ (v := (vb false)) rfl rfl (ad_ ?_)))))))))))))))
   obtain rfl := sj h5
   exact ⟨_, _, _, _, le99, I171, e58, e59, rfl, rv_nil, (ed11.trans ed10)⟩
  refine ai_ e56 hc28 (ab_ (aa_ (wo_ (bm_ rfl e55 rfl (wa_ (v := (vb (a1.Kind == 5))) rfl rfl (ad_ ?_))))))
  rcases ifs h5 with ⟨hc31, h5⟩ | ⟨hc31, h5⟩
  ·
   refine ah_ rfl hc31 (ab_ ?_)
   refine bj_ (sps := [spV 93 [] 0 (an_ (pt_ g2) 3), spV 94 [0] 1 (vi a1.N), spV 95 [] 2 (an_ (pt_ g2) 4), spV 96 [2] 3 (vi a1.M), spV 97 [0, 1] 4 (.pointer (some ⟨g3, 3, none⟩)), ⟨none, [0, 1, 4], [], fun vs_ T_ => True, [], [0], [1], fun _ h_ => h_⟩, spV 98 (lrg 6) 6 (.pointer (some ⟨g3, 4, none⟩)), ⟨none, (lrg 7), [], fun vs_ T_ => True, [], [1], [2], fun _ h_ => h_⟩]) (tks := [⟨none, some 5, [], fun vs_ => am_ g3 30 #[(vi a1.Kind), (vi 0), (vi 0), (vi 0), (vi 0), sn, (vb a1.Not)]⟩, ⟨some 5, some 7, [], fun vs_ => am_ g3 30 #[(vi a1.Kind), (vi 0), (vi 0), (vi a1.N), (vi 0), sn, (vb a1.Not)]⟩, ⟨some 7, none, [], fun vs_ => am_ g3 30 #[(vi a1.Kind), (vi 0), (vi 0), (vi a1.N), (vi a1.M), sn, (vb a1.Not)]⟩]) (O := Fr) rfl (by kernel_rfl) I157 ⟨ob_ rfl fun l A K I => (ae_ rfl ck_ ((K 3 (ag_ rfl)).trans e52) ((p2.mono l).at_ I) (fo I)), ob_ rfl fun l A K I => (aj_ rfl sh3 (A.v 0 rfl) (((p2.mono l).at_ I).fld Clue.fld3) (fo I)), ob_ rfl fun l A K I => (ae_ rfl fd_ ((K 3 (ag_ rfl)).trans e52) ((p2.mono l).at_ I) (fo I)), ob_ rfl fun l A K I => (aj_ rfl sh3 (A.v 0 rfl) (((p2.mono l).at_ I).fld Clue.fld4) (fo I)), ob_ rfl fun l A K I => (av_ (v := (pt_ g3)) rfl ck_ ((K 5 (ag_ rfl)).trans e53) rfl (fo I)), ?_, ob_ rfl fun l A K I => (av_ (v := (pt_ g3)) rfl fd_ ((K 5 (ag_ rfl)).trans e53) rfl (fo I)), ?_, trivial⟩ ?_
   ·
    intro vs f w_ U X le A K I
    have I180 : Inv w_ U (am_ g3 30 #[(vi a1.Kind), (vi 0), (vi 0), (vi 0), (vi 0), sn, (vb a1.Not)] :: X) := I
    have q70 := A.v 1 rfl
    have q71 := A.v 2 rfl
    refine pl_ rfl (bb_ (v := (vi a1.N)) (cs := #[(vi a1.Kind), (vi 0), (vi 0), (vi 0), (vi 0), sn, (vb a1.Not)]) sh3 I180 q71 q70 rfl nb rfl (fun w177 (I181 : Inv w177 U (am_ g3 30 #[(vi a1.Kind), (vi 0), (vi 0), (vi a1.N), (vi 0), sn, (vb a1.Not)] :: X)) => (⟨undef, _, rfl, lr, ?_, ?_⟩)))
    · exact trivial
    exact I181
   ·
    intro vs f w_ U X le A K I
    have I183 : Inv w_ U (am_ g3 30 #[(vi a1.Kind), (vi 0), (vi 0), (vi a1.N), (vi 0), sn, (vb a1.Not)] :: X) := I
    have q72 := A.v 3 rfl
    have q73 := A.v 6 rfl
    refine pl_ rfl (bb_ (v := (vi a1.M)) (cs := #[(vi a1.Kind), (vi 0), (vi 0), (vi a1.N), (vi 0), sn, (vb a1.Not)]) sh3 I183 q73 q72 rfl nb rfl (fun w180 (I184 : Inv w180 U (am_ g3 30 #[(vi a1.Kind), (vi 0), (vi 0), (vi a1.N), (vi a1.M), sn, (vb a1.Not)] :: X)) => (⟨undef, _, rfl, lr, ?_, ?_⟩)))
    · exact trivial
    exact I184
   intro vs106 f w181 S108 ed12 le108 hF10 hK106 hI106
   have e62 : f 2 = (pt_ g1) := (hK106 2 (al_ rfl)).trans e51
   have e63 : f 3 = (pt_ g2) := (hK106 3 (al_ rfl)).trans e52
   have e64 : f 5 = (pt_ g3) := (hK106 5 (al_ rfl)).trans e53
   have I185 : Inv w181 S108 (am_ g3 30 #[(vi a1.Kind), (vi 0), (vi 0), (vi a1.N), (vi a1.M), sn, (vb a1.Not)] :: Fr) := hI106
   refine aa_ (wo_ (ay_ rfl tf_ e62 ((p1.mono (le2.trans le108)).at_ I185) (fun u21 hu21 => ?_)))
   have e65 := CodeLock.inv hu21
   subst e65
   refine wo_ (ae_ rfl ck_ e63 ((p2.mono le108).at_ I185) (wo_ (li_ sh3 (((p2.mono le108).at_ I185).fld Clue.fld3) rfl ?_)))
   obtain ⟨x23, hx23, h5⟩ := bnd h5
   refine wo_ (cv_ ca135 rfl I185 (fun Fr_ hF_ => hf_ hF_ (CodeLock.rv (s := a0)) hx23) (br_ rfl rfl) (fun w182 I186 => (wm_ (v := (vb x23)) rfl rfl ?_)))
   rcases ifs h5 with ⟨hc32, h5⟩ | ⟨hc32, h5⟩
   ·
    refine wk_ rfl rfl hc32 (ae_ rfl fd_ e63 ((p2.mono le108).at_ I186) (wk_ rfl rfl hc32 (li_ sh3 (((p2.mono le108).at_ I186).fld Clue.fld4) rfl (wk_ rfl rfl hc32 (ae_ rfl qk_ e62 ((p1.mono (le2.trans le108)).at_ I186) (wk_ rfl rfl hc32 (li_ sh3 (((p1.mono (le2.trans le108)).at_ I186).fld CodeLock.fld0) rfl ?_)))))))
    obtain ⟨x24, hx24, h5⟩ := bnd h5
    refine wk_ rfl rfl hc32 (cv_ wl_ rfl I186 (fun Fr_ hF_ => cp_ hF_  hx24) (cf_ rfl rfl rfl) (fun w183 I187 => (wo_ (aw_ (a := (vb x24)) rfl rfl hc32 rfl (wa_ (v := (vb x24)) rfl rfl (ad_ ?_))))))
    obtain rfl := sj h5
    exact ⟨_, _, _, _, le108, I187, e63, e64, rfl, rv_nil, (ed12.trans ed10)⟩
   refine ws_ rfl rfl hc32 (ws_ rfl rfl hc32 (ws_ rfl rfl hc32 (ws_ rfl rfl hc32 (ws_ rfl rfl hc32 (wo_ (ap_ (b := (vb false)) rfl rfl hc32 rfl (wa_ (v := (vb false)) rfl rfl (ad_ ?_))))))))
   obtain rfl := sj h5
   exact ⟨_, _, _, _, le108, I186, e63, e64, rfl, rv_nil, (ed12.trans ed10)⟩
  refine ai_ rfl hc31 (ab_ (aa_ (wo_ (bm_ rfl e55 rfl (wa_ (v := (vb (a1.Kind == 6))) rfl rfl (ad_ ?_))))))
  rcases ifs h5 with ⟨hc33, h5⟩ | ⟨hc33, h5⟩
  ·
   refine ah_ rfl hc33 (ab_ ?_)
   refine bj_ (sps := [spV 112 [] 0 (an_ (pt_ g2) 3), spV 113 [0] 1 (vi a1.N), spV 114 [] 2 (an_ (pt_ g2) 4), spV 115 [2] 3 (vi a1.M), spV 116 [] 4 (an_ (pt_ g2) 5), spR 117 [4] 5 (a1.Guess), spV 118 [0, 1] 6 (.pointer (some ⟨g3, 3, none⟩)), ⟨none, [0, 1, 6], [], fun vs_ T_ => True, [], [0], [1], fun _ h_ => h_⟩, spV 119 [0, 1, 2, 3, 6, 7] 8 (.pointer (some ⟨g3, 4, none⟩)), ⟨none, [0, 1, 2, 3, 6, 7, 8], [], fun vs_ T_ => True, [], [1], [2], fun _ h_ => h_⟩, spV 120 (lrg 10) 10 (.pointer (some ⟨g3, 5, none⟩)), ⟨none, (lrg 11), [], fun vs_ T_ => True, [], [2], [3], fun _ h_ => h_⟩]) (tks := [⟨none, some 7, [], fun vs_ => am_ g3 30 #[(vi a1.Kind), (vi 0), (vi 0), (vi 0), (vi 0), sn, (vb a1.Not)]⟩, ⟨some 7, some 9, [], fun vs_ => am_ g3 30 #[(vi a1.Kind), (vi 0), (vi 0), (vi a1.N), (vi 0), sn, (vb a1.Not)]⟩, ⟨some 9, some 11, [], fun vs_ => am_ g3 30 #[(vi a1.Kind), (vi 0), (vi 0), (vi a1.N), (vi a1.M), sn, (vb a1.Not)]⟩, ⟨some 11, none, [5], fun vs_ => am_ g3 30 #[(vi a1.Kind), (vi 0), (vi 0), (vi a1.N), (vi a1.M), (fr0 vs_ 0), (vb a1.Not)]⟩]) (O := Fr) rfl (by kernel_rfl) I157 ⟨ob_ rfl fun l A K I => (ae_ rfl ck_ ((K 3 (ag_ rfl)).trans e52) ((p2.mono l).at_ I) (fo I)), ob_ rfl fun l A K I => (aj_ rfl sh3 (A.v 0 rfl) (((p2.mono l).at_ I).fld Clue.fld3) (fo I)), ob_ rfl fun l A K I => (ae_ rfl fd_ ((K 3 (ag_ rfl)).trans e52) ((p2.mono l).at_ I) (fo I)), ob_ rfl fun l A K I => (aj_ rfl sh3 (A.v 0 rfl) (((p2.mono l).at_ I).fld Clue.fld4) (fo I)), ob_ rfl fun l A K I => (ae_ rfl kf_ ((K 3 (ag_ rfl)).trans e52) ((p2.mono l).at_ I) (fo I)), ?_, ob_ rfl fun l A K I => (av_ (v := (pt_ g3)) rfl ck_ ((K 5 (ag_ rfl)).trans e53) rfl (fo I)), ?_, ob_ rfl fun l A K I => (av_ (v := (pt_ g3)) rfl fd_ ((K 5 (ag_ rfl)).trans e53) rfl (fo I)), ?_, ob_ rfl fun l A K I => (av_ (v := (pt_ g3)) rfl kf_ ((K 5 (ag_ rfl)).trans e53) rfl (fo I)), ?_, trivial⟩ ?_
   ·
    intro vs f w_ U X le A K I
    have q76 := A.v 0 rfl
    refine pl_ rfl (ay_ rfl fn_ q76 (((p2.mono le).at_ I).fld Clue.fld5) (fun u23 hu23 => ?_))
    obtain ⟨z7, m7, k7, rfl⟩ := ac_ hu23
    refine ⟨_, _, rfl, lr, ?_, ?_⟩
    · exact hu23
    exact I
   ·
    intro vs f w_ U X le A K I
    have I198 : Inv w_ U (am_ g3 30 #[(vi a1.Kind), (vi 0), (vi 0), (vi 0), (vi 0), sn, (vb a1.Not)] :: X) := I
    have q77 := A.v 1 rfl
    have q78 := A.v 2 rfl
    refine pl_ rfl (bb_ (v := (vi a1.N)) (cs := #[(vi a1.Kind), (vi 0), (vi 0), (vi 0), (vi 0), sn, (vb a1.Not)]) sh3 I198 q78 q77 rfl nb rfl (fun w195 (I199 : Inv w195 U (am_ g3 30 #[(vi a1.Kind), (vi 0), (vi 0), (vi a1.N), (vi 0), sn, (vb a1.Not)] :: X)) => (⟨undef, _, rfl, lr, ?_, ?_⟩)))
    · exact trivial
    exact I199
   ·
    intro vs f w_ U X le A K I
    have I201 : Inv w_ U (am_ g3 30 #[(vi a1.Kind), (vi 0), (vi 0), (vi a1.N), (vi 0), sn, (vb a1.Not)] :: X) := I
    have q79 := A.v 3 rfl
    have q80 := A.v 6 rfl
    refine pl_ rfl (bb_ (v := (vi a1.M)) (cs := #[(vi a1.Kind), (vi 0), (vi 0), (vi a1.N), (vi 0), sn, (vb a1.Not)]) sh3 I201 q80 q79 rfl nb rfl (fun w198 (I202 : Inv w198 U (am_ g3 30 #[(vi a1.Kind), (vi 0), (vi 0), (vi a1.N), (vi a1.M), sn, (vb a1.Not)] :: X)) => (⟨undef, _, rfl, lr, ?_, ?_⟩)))
    · exact trivial
    exact I202
   ·
    intro vs f w_ U X le A K I
    have I204 : Inv w_ U (am_ g3 30 #[(vi a1.Kind), (vi 0), (vi 0), (vi a1.N), (vi a1.M), sn, (vb a1.Not)] :: X) := I
    obtain ⟨z8, m8, k8, hu24, q81, r5⟩ := A.sl (a := 5) 5 rfl rfl rfl
    have q82 := A.v 10 rfl
    refine pl_ rfl (bb_ (v := (.slice z8 m8 k8)) (cs := #[(vi a1.Kind), (vi 0), (vi 0), (vi a1.N), (vi a1.M), sn, (vb a1.Not)]) fn_ I204 q82 q81 rfl nb rfl (fun w201 (I205 : Inv w201 U (am_ g3 30 #[(vi a1.Kind), (vi 0), (vi 0), (vi a1.N), (vi a1.M), (.slice z8 m8 k8), (vb a1.Not)] :: X)) => (⟨undef, _, rfl, lr, ?_, ?_⟩)))
    · exact trivial
    show Inv _ _ (am_ g3 30 #[(Value.int .i64 (a1.Kind)), (Value.int .i64 (0)), (Value.int .i64 (0)), (Value.int .i64 (a1.N)), (Value.int .i64 (a1.M)), (vs 5), (Value.bool (a1.Not))] :: X)
    simp only [hu24]
    exact I205
   intro vs119 f w202 S121 ed13 le121 hF11 hK119 hI119
   have e68 : f 2 = (pt_ g1) := (hK119 2 (al_ rfl)).trans e51
   have e69 : f 3 = (pt_ g2) := (hK119 3 (al_ rfl)).trans e52
   have e70 : f 5 = (pt_ g3) := (hK119 5 (al_ rfl)).trans e53
   have I206 : Inv w202 S121 (am_ g3 30 #[(vi a1.Kind), (vi 0), (vi 0), (vi a1.N), (vi a1.M), (vs119 5), (vb a1.Not)] :: Fr) := hI119
   have q83 : f 117 = vs119 5 := (hF11.at_ 5 rfl _ rfl).1 _ rfl
   have r6 : RV S121 (vs119 5) a1.Guess := (hF11.at_ 5 rfl _ rfl).2
   obtain ⟨u25, hu25⟩ : ∃ u, vs119 5 = u := ⟨_, rfl⟩
   rw [hu25] at q83 r6
   have I207 := I206
   rw [hu25] at I207
   obtain ⟨z9, m9, k9, rfl⟩ := ac_ r6
   refine aa_ (wo_ (ae_ rfl ck_ e69 ((p2.mono le121).at_ I207) (wo_ (li_ sh3 (((p2.mono le121).at_ I207).fld Clue.fld3) rfl (wo_ (ae_ rfl qk_ e68 ((p1.mono (le2.trans le121)).at_ I207) (wo_ (li_ sh3 (((p1.mono (le2.trans le121)).at_ I207).fld CodeLock.fld0) rfl ?_))))))))
   obtain ⟨x25, hx25, h5⟩ := bnd h5
   refine wo_ (cv_ wl_ rfl I207 (fun Fr_ hF_ => cp_ hF_  hx25) (cf_ rfl rfl rfl) (fun w203 I208 => (wm_ (v := (vb x25)) rfl rfl ?_)))
   rcases ifs h5 with ⟨hc34, h5⟩ | ⟨hc34, h5⟩
   ·
    refine wk_ rfl rfl hc34 (ae_ rfl fd_ e69 ((p2.mono le121).at_ I208) (wk_ rfl rfl hc34 (li_ sh3 (((p2.mono le121).at_ I208).fld Clue.fld4) rfl (wk_ rfl rfl hc34 (ae_ rfl qk_ e68 ((p1.mono (le2.trans le121)).at_ I208) (wk_ rfl rfl hc34 (li_ sh3 (((p1.mono (le2.trans le121)).at_ I208).fld CodeLock.fld0) rfl ?_)))))))
    obtain ⟨x26, hx26, h5⟩ := bnd h5
    refine wk_ rfl rfl hc34 (cv_ wl_ rfl I208 (fun Fr_ hF_ => cp_ hF_  hx26) (cf_ rfl rfl rfl) (fun w204 I209 => (wo_ (aw_ (a := (vb x26)) rfl rfl hc34 rfl (wm_ (v := (vb x26)) rfl rfl ?_)))))
    rcases ifs h5 with ⟨hc35, h5⟩ | ⟨hc35, h5⟩
    ·
     refine wk_ rfl rfl hc35 (ay_ rfl tf_ e68 ((p1.mono (le2.trans le121)).at_ I209) (fun u26 hu26 => ?_))
     have e72 := CodeLock.inv hu26
     subst e72
     refine wk_ rfl rfl hc35 (ae_ rfl kf_ e69 ((p2.mono le121).at_ I209) (wk_ rfl rfl hc35 (ld_ fn_ (((p2.mono le121).at_ I209).fld Clue.fld5) rfl (fun u27 hu27 => ?_))))
     obtain ⟨z10, m10, k10, rfl⟩ := ac_ hu27
     obtain ⟨x27, hx27, h5⟩ := bnd h5
     refine wk_ rfl rfl hc35 (cv_ ca132 rfl I209 (fun Fr_ hF_ => mc_ hF_ (CodeLock.rv (s := a0)) hu27 hx27) (br_ rfl rfl) (fun w205 I210 => (wo_ (aw_ (a := (vb x27)) rfl rfl hc35 rfl (wa_ (v := (vb x27)) rfl rfl (ad_ ?_))))))
     obtain rfl := sj h5
     exact ⟨_, _, _, _, le121, I210, e69, e70, rfl, r6, (ed13.trans ed10)⟩
    refine ws_ rfl rfl hc35 (ws_ rfl rfl hc35 (ws_ rfl rfl hc35 (ws_ rfl rfl hc35 (wo_ (ap_ (b := (vb false)) rfl rfl hc35 rfl (wa_ (v := (vb false)) rfl rfl (ad_ ?_)))))))
    obtain rfl := sj h5
    exact ⟨_, _, _, _, le121, I209, e69, e70, rfl, r6, (ed13.trans ed10)⟩
   refine ws_ rfl rfl hc34 (ws_ rfl rfl hc34 (ws_ rfl rfl hc34 (ws_ rfl rfl hc34 (ws_ rfl rfl hc34 (wo_ (ap_ (b := (vb false)) rfl rfl hc34 rfl (wm_ (v := (vb false)) rfl rfl (ws_ rfl rfl rfl (ws_ rfl rfl rfl (ws_ rfl rfl rfl (ws_ rfl rfl rfl (wo_ (ap_ (b := (vb false)) rfl rfl rfl rfl (wa_ (v := (vb false)) rfl rfl (ad_ ?_)))))))))))))))
   obtain rfl := sj h5
   exact ⟨_, _, _, _, le121, I208, e69, e70, rfl, r6, (ed13.trans ed10)⟩
  refine ai_ rfl hc33 (ab_ (aa_ (wo_ (bm_ rfl e55 rfl (wa_ (v := (vb (a1.Kind == 7))) rfl rfl (ad_ ?_))))))
  rcases ifs h5 with ⟨hc36, h5⟩ | ⟨hc36, h5⟩
  ·
   refine ah_ rfl hc36 (ab_ ?_)
   refine bj_ (sps := [spV 141 [] 0 (an_ (pt_ g2) 1), spV 142 [0] 1 (vi a1.A), spV 143 [] 2 (an_ (pt_ g2) 3), spV 144 [2] 3 (vi a1.N), spV 145 [] 4 (an_ (pt_ g2) 4), spV 146 [4] 5 (vi a1.M), spV 147 [0, 1] 6 (.pointer (some ⟨g3, 1, none⟩)), ⟨none, [0, 1, 6], [], fun vs_ T_ => True, [], [0], [1], fun _ h_ => h_⟩, spV 148 [0, 1, 2, 3, 6, 7] 8 (.pointer (some ⟨g3, 3, none⟩)), ⟨none, [0, 1, 2, 3, 6, 7, 8], [], fun vs_ T_ => True, [], [1], [2], fun _ h_ => h_⟩, spV 149 (lrg 10) 10 (.pointer (some ⟨g3, 4, none⟩)), ⟨none, (lrg 11), [], fun vs_ T_ => True, [], [2], [3], fun _ h_ => h_⟩]) (tks := [⟨none, some 7, [], fun vs_ => am_ g3 30 #[(vi a1.Kind), (vi 0), (vi 0), (vi 0), (vi 0), sn, (vb a1.Not)]⟩, ⟨some 7, some 9, [], fun vs_ => am_ g3 30 #[(vi a1.Kind), (vi a1.A), (vi 0), (vi 0), (vi 0), sn, (vb a1.Not)]⟩, ⟨some 9, some 11, [], fun vs_ => am_ g3 30 #[(vi a1.Kind), (vi a1.A), (vi 0), (vi a1.N), (vi 0), sn, (vb a1.Not)]⟩, ⟨some 11, none, [], fun vs_ => am_ g3 30 #[(vi a1.Kind), (vi a1.A), (vi 0), (vi a1.N), (vi a1.M), sn, (vb a1.Not)]⟩]) (O := Fr) rfl (by kernel_rfl) I157 ⟨ob_ rfl fun l A K I => (ae_ rfl db_ ((K 3 (ag_ rfl)).trans e52) ((p2.mono l).at_ I) (fo I)), ob_ rfl fun l A K I => (aj_ rfl sh3 (A.v 0 rfl) (((p2.mono l).at_ I).fld Clue.fld1) (fo I)), ob_ rfl fun l A K I => (ae_ rfl ck_ ((K 3 (ag_ rfl)).trans e52) ((p2.mono l).at_ I) (fo I)), ob_ rfl fun l A K I => (aj_ rfl sh3 (A.v 0 rfl) (((p2.mono l).at_ I).fld Clue.fld3) (fo I)), ob_ rfl fun l A K I => (ae_ rfl fd_ ((K 3 (ag_ rfl)).trans e52) ((p2.mono l).at_ I) (fo I)), ob_ rfl fun l A K I => (aj_ rfl sh3 (A.v 0 rfl) (((p2.mono l).at_ I).fld Clue.fld4) (fo I)), ob_ rfl fun l A K I => (av_ (v := (pt_ g3)) rfl db_ ((K 5 (ag_ rfl)).trans e53) rfl (fo I)), ?_, ob_ rfl fun l A K I => (av_ (v := (pt_ g3)) rfl ck_ ((K 5 (ag_ rfl)).trans e53) rfl (fo I)), ?_, ob_ rfl fun l A K I => (av_ (v := (pt_ g3)) rfl fd_ ((K 5 (ag_ rfl)).trans e53) rfl (fo I)), ?_, trivial⟩ ?_
   ·
    intro vs f w_ U X le A K I
    have I221 : Inv w_ U (am_ g3 30 #[(vi a1.Kind), (vi 0), (vi 0), (vi 0), (vi 0), sn, (vb a1.Not)] :: X) := I
    have q87 := A.v 1 rfl
    have q88 := A.v 2 rfl
    refine pl_ rfl (bb_ (v := (vi a1.A)) (cs := #[(vi a1.Kind), (vi 0), (vi 0), (vi 0), (vi 0), sn, (vb a1.Not)]) sh3 I221 q88 q87 rfl nb rfl (fun w217 (I222 : Inv w217 U (am_ g3 30 #[(vi a1.Kind), (vi a1.A), (vi 0), (vi 0), (vi 0), sn, (vb a1.Not)] :: X)) => (⟨undef, _, rfl, lr, ?_, ?_⟩)))
    · exact trivial
    exact I222
   ·
    intro vs f w_ U X le A K I
    have I224 : Inv w_ U (am_ g3 30 #[(vi a1.Kind), (vi a1.A), (vi 0), (vi 0), (vi 0), sn, (vb a1.Not)] :: X) := I
    have q89 := A.v 3 rfl
    have q90 := A.v 6 rfl
    refine pl_ rfl (bb_ (v := (vi a1.N)) (cs := #[(vi a1.Kind), (vi a1.A), (vi 0), (vi 0), (vi 0), sn, (vb a1.Not)]) sh3 I224 q90 q89 rfl nb rfl (fun w220 (I225 : Inv w220 U (am_ g3 30 #[(vi a1.Kind), (vi a1.A), (vi 0), (vi a1.N), (vi 0), sn, (vb a1.Not)] :: X)) => (⟨undef, _, rfl, lr, ?_, ?_⟩)))
    · exact trivial
    exact I225
   ·
    intro vs f w_ U X le A K I
    have I227 : Inv w_ U (am_ g3 30 #[(vi a1.Kind), (vi a1.A), (vi 0), (vi a1.N), (vi 0), sn, (vb a1.Not)] :: X) := I
    have q91 := A.v 5 rfl
    have q92 := A.v 10 rfl
    refine pl_ rfl (bb_ (v := (vi a1.M)) (cs := #[(vi a1.Kind), (vi a1.A), (vi 0), (vi a1.N), (vi 0), sn, (vb a1.Not)]) sh3 I227 q92 q91 rfl nb rfl (fun w223 (I228 : Inv w223 U (am_ g3 30 #[(vi a1.Kind), (vi a1.A), (vi 0), (vi a1.N), (vi a1.M), sn, (vb a1.Not)] :: X)) => (⟨undef, _, rfl, lr, ?_, ?_⟩)))
    · exact trivial
    exact I228
   intro vs132 f w224 S134 ed14 le134 hF12 hK132 hI132
   have e74 : f 2 = (pt_ g1) := (hK132 2 (al_ rfl)).trans e51
   have e75 : f 3 = (pt_ g2) := (hK132 3 (al_ rfl)).trans e52
   have e76 : f 5 = (pt_ g3) := (hK132 5 (al_ rfl)).trans e53
   have I229 : Inv w224 S134 (am_ g3 30 #[(vi a1.Kind), (vi a1.A), (vi 0), (vi a1.N), (vi a1.M), sn, (vb a1.Not)] :: Fr) := hI132
   refine aa_ (wo_ (ay_ rfl tf_ e74 ((p1.mono (le2.trans le134)).at_ I229) (fun u28 hu28 => ?_)))
   have e77 := CodeLock.inv hu28
   subst e77
   refine wo_ (ae_ rfl db_ e75 ((p2.mono le134).at_ I229) (wo_ (li_ sh3 (((p2.mono le134).at_ I229).fld Clue.fld1) rfl ?_)))
   obtain ⟨x28, hx28, h5⟩ := bnd h5
   refine wo_ (cv_ ca134 rfl I229 (fun Fr_ hF_ => dk_ hF_ (CodeLock.rv (s := a0)) hx28) (br_ rfl rfl) (fun w225 I230 => (wm_ (v := (vb x28)) rfl rfl ?_)))
   rcases ifs h5 with ⟨hc37, h5⟩ | ⟨hc37, h5⟩
   ·
    refine wk_ rfl rfl hc37 (ae_ rfl ck_ e75 ((p2.mono le134).at_ I230) (wk_ rfl rfl hc37 (li_ sh3 (((p2.mono le134).at_ I230).fld Clue.fld3) rfl ?_)))
    obtain ⟨x29, hx29, h5⟩ := bnd h5
    refine wk_ rfl rfl hc37 (cv_ wl_ rfl I230 (fun Fr_ hF_ => cp_ hF_  hx29) (cf_ rfl rfl rfl) (fun w226 I231 => (wo_ (aw_ (a := (vb x29)) rfl rfl hc37 rfl (wm_ (v := (vb x29)) rfl rfl ?_)))))
    rcases ifs h5 with ⟨hc38, h5⟩ | ⟨hc38, h5⟩
    ·
     refine wk_ rfl rfl hc38 (ae_ rfl fd_ e75 ((p2.mono le134).at_ I231) (wk_ rfl rfl hc38 (li_ sh3 (((p2.mono le134).at_ I231).fld Clue.fld4) rfl (wk_ rfl rfl hc38 (ae_ rfl ck_ e75 ((p2.mono le134).at_ I231) (wk_ rfl rfl hc38 (li_ sh3 (((p2.mono le134).at_ I231).fld Clue.fld3) rfl (wk_ rfl rfl hc38 (eb_ rfl rfl rfl ?_)))))))))
     obtain ⟨x30, hx30, h5⟩ := bnd h5
     refine wk_ rfl rfl hc38 (cv_ wl_ rfl I231 (fun Fr_ hF_ => cp_ hF_  hx30) (cf_ rfl rfl rfl) (fun w227 I232 => (wo_ (aw_ (a := (vb x30)) rfl rfl hc38 rfl (wa_ (v := (vb x30)) rfl rfl (ad_ ?_))))))
     obtain rfl := sj h5
     exact ⟨_, _, _, _, le134, I232, e75, e76, rfl, rv_nil, (ed14.trans ed10)⟩
    refine ws_ rfl rfl hc38 (ws_ rfl rfl hc38 (ws_ rfl rfl hc38 (ws_ rfl rfl hc38 (ws_ rfl rfl hc38 (ws_ rfl rfl hc38 (wo_ (ap_ (b := (vb false)) rfl rfl hc38 rfl (wa_ (v := (vb false)) rfl rfl (ad_ ?_)))))))))
    obtain rfl := sj h5
    exact ⟨_, _, _, _, le134, I231, e75, e76, rfl, rv_nil, (ed14.trans ed10)⟩
   refine ws_ rfl rfl hc37 (ws_ rfl rfl hc37 (ws_ rfl rfl hc37 (wo_ (ap_ (b := (vb false)) rfl rfl hc37 rfl (wm_ (v := (vb false)) rfl rfl (ws_ rfl rfl rfl (ws_ rfl rfl rfl (ws_ rfl rfl rfl (ws_ rfl rfl rfl (ws_ rfl rfl rfl (ws_ rfl rfl rfl (wo_ (ap_ (b := (vb false)) rfl rfl rfl rfl (wa_ (v := (vb false)) rfl rfl (ad_ ?_)))))))))))))))
   obtain rfl := sj h5
   exact ⟨_, _, _, _, le134, I230, e75, e76, rfl, rv_nil, (ed14.trans ed10)⟩
  refine ai_ rfl hc36 (ar_ ?_)
  obtain rfl := sj h5
  exact ⟨_, _, _, _, lr, I157, e52, e53, e54, rv_nil, ed10⟩
 rintro f w ⟨S135, z6, m6, k6, le135, I233, e78, e79, e80, r4, ed15⟩
 refine ab_ (aa_ (wm_ rfl e80 (wm_ (v := (vb v2.2.2.2.2.2)) rfl rfl ?_)))
 rcases ifs h with ⟨hc39, h⟩ | ⟨hc39, h⟩
 ·
  refine wk_ rfl rfl hc39 (ae_ rfl db_ e78 ((p2.mono le135).at_ I233) (wk_ rfl rfl hc39 (li_ sh3 (((p2.mono le135).at_ I233).fld Clue.fld1) rfl (wk_ rfl rfl hc39 (av_ (v := (pt_ g3)) rfl db_ e79 rfl (wk_ rfl rfl hc39 (bd_ (c := (vi v2.1)) rfl sh3 (I233.nth 0 rfl) rfl rfl (wk_ rfl rfl hc39 (bm_ rfl rfl rfl (wo_ (aw_ (a := (vb (a1.A == v2.1))) rfl rfl hc39 rfl (wm_ (v := (vb (a1.A == v2.1))) rfl rfl ?_))))))))))))
  rcases ifs h with ⟨hc40, h⟩ | ⟨hc40, h⟩
  ·
   refine wk_ rfl rfl hc40 (ae_ rfl fv_ e78 ((p2.mono le135).at_ I233) (wk_ rfl rfl hc40 (li_ sh3 (((p2.mono le135).at_ I233).fld Clue.fld2) rfl (wk_ rfl rfl hc40 (av_ (v := (pt_ g3)) rfl fv_ e79 rfl (wk_ rfl rfl hc40 (bd_ (c := (vi v2.2.1)) rfl sh3 (I233.nth 0 rfl) rfl rfl (wk_ rfl rfl hc40 (bm_ rfl rfl rfl (wo_ (aw_ (a := (vb (a1.B == v2.2.1))) rfl rfl hc40 rfl (wm_ (v := (vb (a1.B == v2.2.1))) rfl rfl ?_))))))))))))
   rcases ifs h with ⟨hc41, h⟩ | ⟨hc41, h⟩
   ·
    refine wk_ rfl rfl hc41 (ae_ rfl ck_ e78 ((p2.mono le135).at_ I233) (wk_ rfl rfl hc41 (li_ sh3 (((p2.mono le135).at_ I233).fld Clue.fld3) rfl (wk_ rfl rfl hc41 (av_ (v := (pt_ g3)) rfl ck_ e79 rfl (wk_ rfl rfl hc41 (bd_ (c := (vi v2.2.2.1)) rfl sh3 (I233.nth 0 rfl) rfl rfl (wk_ rfl rfl hc41 (bm_ rfl rfl rfl (wo_ (aw_ (a := (vb (a1.N == v2.2.2.1))) rfl rfl hc41 rfl (wm_ (v := (vb (a1.N == v2.2.2.1))) rfl rfl ?_))))))))))))
    rcases ifs h with ⟨hc42, h⟩ | ⟨hc42, h⟩
    ·
     refine wk_ rfl rfl hc42 (ae_ rfl fd_ e78 ((p2.mono le135).at_ I233) (wk_ rfl rfl hc42 (li_ sh3 (((p2.mono le135).at_ I233).fld Clue.fld4) rfl (wk_ rfl rfl hc42 (av_ (v := (pt_ g3)) rfl fd_ e79 rfl (wk_ rfl rfl hc42 (bd_ (c := (vi v2.2.2.2.1)) rfl sh3 (I233.nth 0 rfl) rfl rfl (wk_ rfl rfl hc42 (bm_ rfl rfl rfl (wo_ (aw_ (a := (vb (a1.M == v2.2.2.2.1))) rfl rfl hc42 rfl (wm_ (v := (vb (a1.M == v2.2.2.2.1))) rfl rfl ?_))))))))))))
     rcases ifs h with ⟨hc43, h⟩ | ⟨hc43, h⟩
     ·
      refine wk_ rfl rfl hc43 (ae_ rfl kf_ e78 ((p2.mono le135).at_ I233) (wk_ rfl rfl hc43 (ld_ fn_ (((p2.mono le135).at_ I233).fld Clue.fld5) rfl (fun u29 hu29 => ?_))))
      obtain ⟨z11, m11, k11, rfl⟩ := ac_ hu29
      refine wk_ rfl rfl hc43 (az_ rfl Tryz.underlying28 rfl hu29 (wk_ rfl rfl hc43 (av_ (v := (pt_ g3)) rfl kf_ e79 rfl (wk_ rfl rfl hc43 (bd_ (c := (.slice z6 m6 k6)) rfl fn_ (I233.nth 0 rfl) rfl rfl (wk_ rfl rfl hc43 (az_ rfl Tryz.underlying28 rfl r4 (wk_ rfl rfl hc43 (bm_ rfl rfl rfl (wo_ (aw_ (a := (vb ((a1.Guess.length : Int) == (v2.2.2.2.2.1.length : Int)))) rfl rfl hc43 rfl (wa_ (v := (vb ((a1.Guess.length : Int) == (v2.2.2.2.2.1.length : Int)))) rfl rfl (ad_ (ak_ ?_))))))))))))))
      obtain rfl := sj h
      exact ⟨ed15, (vb ((a1.Guess.length : Int) == (v2.2.2.2.2.1.length : Int))), (bo_ rfl rfl), _, [], ((le1.trans le2).trans le135), (I233).drop, rfl, rfl⟩
     refine ws_ rfl rfl hc43 (ws_ rfl rfl hc43 (ws_ rfl rfl hc43 (ws_ rfl rfl hc43 (ws_ rfl rfl hc43 (ws_ rfl rfl hc43 (ws_ rfl rfl hc43 (wo_ (ap_ (b := (vb false)) rfl rfl hc43 rfl (wa_ (v := (vb false)) rfl rfl (ad_ (ak_ ?_)))))))))))
     obtain rfl := sj h
     exact ⟨ed15, (vb false), (bo_ rfl rfl), _, [], ((le1.trans le2).trans le135), (I233).drop, rfl, rfl⟩
    refine ws_ rfl rfl hc42 (ws_ rfl rfl hc42 (ws_ rfl rfl hc42 (ws_ rfl rfl hc42 (ws_ rfl rfl hc42 (wo_ (ap_ (b := (vb false)) rfl rfl hc42 rfl (wm_ (v := (vb false)) rfl rfl (ws_ rfl rfl rfl (ws_ rfl rfl rfl (ws_ rfl rfl rfl (ws_ rfl rfl rfl (ws_ rfl rfl rfl (ws_ rfl rfl rfl (ws_ rfl rfl rfl (wo_ (ap_ (b := (vb false)) rfl rfl rfl rfl (wa_ (v := (vb false)) rfl rfl (ad_ (ak_ ?_)))))))))))))))))))
    obtain rfl := sj h
    exact ⟨ed15, (vb false), (bo_ rfl rfl), _, [], ((le1.trans le2).trans le135), (I233).drop, rfl, rfl⟩
   refine ws_ rfl rfl hc41 (ws_ rfl rfl hc41 (ws_ rfl rfl hc41 (ws_ rfl rfl hc41 (ws_ rfl rfl hc41 (wo_ (ap_ (b := (vb false)) rfl rfl hc41 rfl (wm_ (v := (vb false)) rfl rfl (ws_ rfl rfl rfl (ws_ rfl rfl rfl (ws_ rfl rfl rfl (ws_ rfl rfl rfl (ws_ rfl rfl rfl (wo_ (ap_ (b := (vb false)) rfl rfl rfl rfl (wm_ (v := (vb false)) rfl rfl (ws_ rfl rfl rfl (ws_ rfl rfl rfl (ws_ rfl rfl rfl (ws_ rfl rfl rfl (ws_ rfl rfl rfl (ws_ rfl rfl rfl (ws_ rfl rfl rfl (wo_ (ap_ (b := (vb false)) rfl rfl rfl rfl (wa_ (v := (vb false)) rfl rfl (ad_ (ak_ ?_)))))))))))))))))))))))))))
   obtain rfl := sj h
   exact ⟨ed15, (vb false), (bo_ rfl rfl), _, [], ((le1.trans le2).trans le135), (I233).drop, rfl, rfl⟩
  refine ws_ rfl rfl hc40 (ws_ rfl rfl hc40 (ws_ rfl rfl hc40 (ws_ rfl rfl hc40 (ws_ rfl rfl hc40 (wo_ (ap_ (b := (vb false)) rfl rfl hc40 rfl (wm_ (v := (vb false)) rfl rfl (ws_ rfl rfl rfl (ws_ rfl rfl rfl (ws_ rfl rfl rfl (ws_ rfl rfl rfl (ws_ rfl rfl rfl (wo_ (ap_ (b := (vb false)) rfl rfl rfl rfl (wm_ (v := (vb false)) rfl rfl (ws_ rfl rfl rfl (ws_ rfl rfl rfl (ws_ rfl rfl rfl (ws_ rfl rfl rfl (ws_ rfl rfl rfl (wo_ (ap_ (b := (vb false)) rfl rfl rfl rfl (wm_ (v := (vb false)) rfl rfl (ws_ rfl rfl rfl (ws_ rfl rfl rfl (ws_ rfl rfl rfl (ws_ rfl rfl rfl ?_)))))))))))))))))))))))))))
  refine ws_ rfl rfl rfl (ws_ rfl rfl rfl (ws_ rfl rfl rfl (wo_ (ap_ (b := (vb false)) rfl rfl rfl rfl (wa_ (v := (vb false)) rfl rfl (ad_ (ak_ ?_)))))))
  obtain rfl := sj h
  exact ⟨ed15, (vb false), (bo_ rfl rfl), _, [], ((le1.trans le2).trans le135), (I233).drop, rfl, rfl⟩
 refine ws_ rfl rfl hc39 (ws_ rfl rfl hc39 (ws_ rfl rfl hc39 (ws_ rfl rfl hc39 (ws_ rfl rfl hc39 (wo_ (ap_ (b := (vb false)) rfl rfl hc39 rfl (wm_ (v := (vb false)) rfl rfl (ws_ rfl rfl rfl (ws_ rfl rfl rfl (ws_ rfl rfl rfl (ws_ rfl rfl rfl (ws_ rfl rfl rfl (wo_ (ap_ (b := (vb false)) rfl rfl rfl rfl (wm_ (v := (vb false)) rfl rfl (ws_ rfl rfl rfl (ws_ rfl rfl rfl (ws_ rfl rfl rfl (ws_ rfl rfl rfl (ws_ rfl rfl rfl (wo_ (ap_ (b := (vb false)) rfl rfl rfl rfl (wm_ (v := (vb false)) rfl rfl (ws_ rfl rfl rfl (ws_ rfl rfl rfl (ws_ rfl rfl rfl (ws_ rfl rfl rfl ?_)))))))))))))))))))))))))))
 refine ws_ rfl rfl rfl (wo_ (ap_ (b := (vb false)) rfl rfl rfl rfl (wm_ (v := (vb false)) rfl rfl (ws_ rfl rfl rfl (ws_ rfl rfl rfl (ws_ rfl rfl rfl (ws_ rfl rfl rfl (ws_ rfl rfl rfl (ws_ rfl rfl rfl (ws_ rfl rfl rfl (wo_ (ap_ (b := (vb false)) rfl rfl rfl rfl (wa_ (v := (vb false)) rfl rfl (ad_ (ak_ ?_)))))))))))))))
 obtain rfl := sj h
 exact ⟨ed15, (vb false), (bo_ rfl rfl), _, [], ((le1.trans le2).trans le135), (I233).drop, rfl, rfl⟩
theorem rv_ {w : World} {S : PH} {Fr : List HP} {a0 : CodeLock} {v0 : Value} {a1 : Clue} {v1 : Value} {r : Int} (hI : Inv w S (Fr)) (h0_ : RV S v0 a0) (h1_ : RV S v1 a1) (h : gs_ a0 a1 = some r) :
    Calls Tryz.prog 128 [v0, v1].toArray w (bw_ S Fr (Value.int .i64 (r))) := by
 unfold gs_ at h
 have e1 := CodeLock.inv h0_
 subst e1
 obtain ⟨c1, e2, r1⟩ := Clue.inv h1_
 subst e2
 obtain ⟨z1, m1, k1, rfl⟩ := ac_ r1
 refine ao_ (n := 15) Tryz.func128 rfl rfl rfl (ab_ (aa_ (wo_ (bi_ (v := (.agg #[(vi a0.Wheels), (vi a0.Symbols)])) rfl hI rfl (fun g1 w1 I1 => ?_)))))
 obtain ⟨S1, le1, I2, p1⟩ := Inv.boxFreeze (x := a0) I1 (CodeLock.rv (s := a0))
 refine wo_ (bi_ (v := (.agg #[(vi a1.Kind), (vi a1.A), (vi a1.B), (vi a1.N), (vi a1.M), (.slice z1 m1 k1), (vb a1.Not)])) rfl I2 rfl (fun g2 w2 I3 => ?_))
 obtain ⟨S2, le2, I4, p2⟩ := Inv.boxFreeze (x := a1) I3 (Clue.rv (s := a1) (r1.mono le1))
 refine wa_ (v := (vi 0)) rfl rfl (ad_ (ab_ (ab_ (aa_ (wo_ (ld_ im_ ((p1.mono le2).at_ I4) rfl (fun u1 hu1 => ?_)))))))
 have e4 := CodeLock.inv hu1
 subst e4
 obtain ⟨x1, hx1, h⟩ := bnd h
 refine wo_ (cv_ ca123 rfl I4 (fun Fr_ hF_ => mm_ hF_ (CodeLock.rv (s := a0)) hx1) (em_ rfl) (fun w3 I5 => (wa_ (v := (vi x1)) rfl rfl (ad_ (ab_ (aa_ (wm_ (v := (vi x1)) rfl rfl (wo_ (cd_ rfl rfl rfl (ad_ ?_))))))))))
 rcases ifs h with ⟨hc1, h⟩ | ⟨hc1, h⟩
 ·
  refine ah_ rfl hc1 (ab_ (aa_ (wm_ (v := (vi x1)) rfl rfl (wa_ (v := (vi x1)) rfl rfl (ad_ (ak_ ?_))))))
  obtain rfl := sj h
  exact ⟨rfl, (vi x1), (bo_ rfl rfl), _, [], (le1.trans le2), I5, rfl, rfl⟩
 refine ai_ rfl hc1 (ar_ (ab_ (ab_ (aa_ (wo_ (ld_ im_ ((p1.mono le2).at_ I5) rfl (fun u2 hu2 => ?_)))))))
 have e5 := CodeLock.inv hu2
 subst e5
 refine wo_ (ld_ lk_ (p2.at_ I5) rfl (fun u3 hu3 => ?_))
 obtain ⟨c2, e6, r2⟩ := Clue.inv hu3
 subst e6
 obtain ⟨z2, m2, k2, rfl⟩ := ac_ r2
 obtain ⟨x2, hx2, h⟩ := bnd h
 refine wo_ (cv_ ca125 rfl I5 (fun Fr_ hF_ => me_ hF_ (CodeLock.rv (s := a0)) (Clue.rv (s := a1) r2) hx2) (br_ rfl rfl) (fun w4 I6 => (wo_ (bx_ rfl rfl (ad_ ?_)))))
 rcases ifs h with ⟨hc2, h⟩ | ⟨hc2, h⟩
 ·
  refine ah_ rfl hc2 (ab_ (aa_ (wa_ (v := (vi 11)) rfl rfl (ad_ (ak_ ?_)))))
  obtain rfl := sj h
  exact ⟨rfl, (vi 11), (bo_ rfl rfl), _, [], (le1.trans le2), I6, rfl, rfl⟩
 refine ai_ rfl hc2 (ar_ (ab_ (aa_ (wa_ (v := (vi 0)) rfl rfl (ad_ (ak_ ?_))))))
 obtain rfl := sj h
 exact ⟨rfl, (vi 0), (bo_ rfl rfl), _, [], (le1.trans le2), I6, rfl, rfl⟩
theorem vo_ {w : World} {S : PH} {Fr : List HP} {a0 : (List Int)} {v0 : Value} {a1 : (List Int)} {v1 : Value} {r : Int × Int} (hI : Inv w S (Fr)) (h0_ : RV S v0 a0) (h1_ : RV S v1 a1) (h : kb_ a0 a1 = some r) :
    Calls Tryz.prog 143 [v0, v1].toArray w (bw_ S Fr (Value.tuple #[(Value.int .i64 (r.1)), (Value.int .i64 (r.2))])) := by
 unfold kb_ at h
 obtain ⟨z1, m1, k1, rfl⟩ := ac_ h0_
 obtain ⟨z2, m2, k2, rfl⟩ := ac_ h1_
 refine ao_ (n := 57) Tryz.func143 rfl rfl rfl (ab_ (aa_ (wa_ (v := (vi 0)) rfl rfl (wa_ (v := (vi 0)) rfl rfl (ad_ (ab_ (aa_ (wo_ (bu_ (z := (.agg (List.replicate 10 ((vi 0))).toArray)) rfl hI zoa153 (fun g1 w1 I1 => ?_))))))))))
 have I2 := Inv.arrNew (k := 10) (zc := [(vi 0)]) (zd := (0 : Int)) I1 (by rfl) (fun _ => rfl)
 have hl1 : (List.replicate 10 (0 : Int)).length = 10 := List.length_replicate
 refine wo_ (bu_ (z := (.agg (List.replicate 10 ((vi 0))).toArray)) rfl I2 zoa153 (fun g2 w2 I3 => ?_))
 have I4 := Inv.arrNew (k := 10) (zc := [(vi 0)]) (zd := (0 : Int)) I3 (by rfl) (fun _ => rfl)
 have hl2 : (List.replicate 10 (0 : Int)).length = 10 := List.length_replicate
 refine ad_ (ab_ (ab_ (aa_ (wm_ (v := (.slice z1 m1 k1)) rfl rfl (wo_ (az_ rfl Tryz.underlying28 rfl h0_ (wm_ (v := (vi 0)) rfl rfl (ad_ ?_))))))))
 have hk1 : a0.length ≤ 9223372036854775807 := (cx_ h0_)
 obtain ⟨out1, hrun1, h⟩ := bnd h
 refine bp_ (fun f w => Inv w S (vq_ (α := Int) 153 g1 (out1.2.1) :: vq_ (α := Int) 153 g2 (out1.2.2) :: Fr) ∧ f 1 = (.slice z2 m2 k2) ∧ f 4 = (vi out1.1) ∧ f 5 = (vi 0) ∧ f 6 = (pt_ g1) ∧ f 7 = (pt_ g2) ∧ f 11 = (.slice z1 m1 k1) ∧ f 12 = (vi ((a0.length : Int))) ∧ f.ds = [] ∧ (out1.2.1).length = 10 ∧ (out1.2.2).length = 10) ?_ ?_
 ·
  refine au_ ?_
  refine da_ (I := fun (i1 : Nat) (s1 : (Int × List Int × List Int)) (f : Frm) (w : World) => Inv w S (vq_ (α := Int) 153 g1 (s1.2.1) :: vq_ (α := Int) 153 g2 (s1.2.2) :: Fr) ∧ f 1 = (.slice z2 m2 k2) ∧ f 4 = (vi s1.1) ∧ f 5 = (vi 0) ∧ f 6 = (pt_ g1) ∧ f 7 = (pt_ g2) ∧ f 11 = (.slice z1 m1 k1) ∧ f 12 = (vi ((a0.length : Int))) ∧ f 13 = (vi (i1 : Int)) ∧ f.ds = [] ∧ (s1.2.1).length = 10 ∧ (s1.2.2).length = 10) hrun1 ⟨(I4.pull 1), rfl, rfl, rfl, rfl, rfl, rfl, rfl, rfl, rfl, hl1, hl2⟩ ?_ ?_
  ·
   rintro i1 s1 f w o1 hlt1 hI1 h10
   obtain ⟨I17, e57, e58, e59, e60, e61, e62, e63, e64, ed7, hl13, hl14⟩ := hI1
   refine ab_ (aa_ (wo_ (be_ rfl e64 e63 (ad_ (ab_ (ah_ rfl (eo_ hlt1) (ar_ (ab_ (au_ (ab_ (aa_ (wm_ rfl e64 ?_))))))))))))
   obtain ⟨x25, hx25, h10⟩ := bnd h10
   refine wo_ (ix_ Tryz.underlying28 sh3 h0_ hx25 e62 e64 (wo_ (li_ sh3 (h0_.elem I17.in_ hx25) rfl (wa_ (v := (vi (i1 : Int))) rfl rfl (wa_ (v := (vi x25)) rfl rfl (ad_ ?_))))))
   obtain ⟨v4, h13, h10⟩ := bnd h10
   refine ks_ (fun f w => Inv w S (vq_ (α := Int) 153 g1 (s1.2.1) :: vq_ (α := Int) 153 g2 (s1.2.2) :: Fr) ∧ f 1 = (.slice z2 m2 k2) ∧ f 4 = (vi v4) ∧ f 5 = (vi 0) ∧ f 6 = (pt_ g1) ∧ f 7 = (pt_ g2) ∧ f 8 = (vi (i1 : Int)) ∧ f 9 = (vi x25) ∧ f 11 = (.slice z1 m1 k1) ∧ f 12 = (vi ((a0.length : Int))) ∧ f 13 = (vi (i1 : Int)) ∧ f.ds = []) ?_ ?_
   ·
    refine ab_ (aa_ (wm_ (v := (vi x25)) rfl rfl (wm_ rfl e57 (wm_ (v := (vi (i1 : Int))) rfl rfl ?_))))
    obtain ⟨x27, hx27, h13⟩ := bnd h13
    refine wo_ (ix_ Tryz.underlying28 sh3 h1_ hx27 rfl rfl (wo_ (li_ sh3 (h1_.elem I17.in_ hx27) rfl (wo_ (bm_ rfl rfl rfl (ad_ ?_))))))
    rcases ifs h13 with ⟨hc8, h13⟩ | ⟨hc8, h13⟩
    ·
     refine ah_ rfl hc8 (aa_ (wm_ rfl e58 (wo_ (bl_ rfl rfl rfl (wa_ (v := (vi (w64 (s1.1 + 1)))) rfl rfl (ad_ ?_))))))
     obtain rfl := sj h13
     exact ⟨((I17.pull 1).pull 1), e57, rfl, e59, e60, e61, rfl, rfl, e62, e63, e64, ed7⟩
    refine ai_ rfl hc8 (ar_ ?_)
    obtain rfl := sj h13
    exact ⟨((I17.pull 1).pull 1), e57, e58, e59, e60, e61, rfl, rfl, e62, e63, e64, ed7⟩
   rintro f w ⟨I18, e65, e66, e67, e68, e69, e70, e71, e72, e73, e74, ed8⟩
   refine ab_ (aa_ (wm_ rfl e71 ?_))
   obtain ⟨x28, hx28, h10⟩ := bnd h10
   refine wo_ (jj_ (α := Int) (l := s1.2.1) (i := x25) (e := x28) rfl Tryz.underlying153 sh3 (sr_ hl13) e68 rfl hx28 (wo_ (li_ sh3 ((I18.nth 0 rfl).arrElem hx28) rfl (wo_ (bl_ rfl rfl rfl ?_)))))
   obtain ⟨x29, hx29, h10⟩ := bnd h10
   refine wo_ (jj_ (α := Int) (l := s1.2.1) (i := x25) (e := x29) rfl Tryz.underlying153 sh3 (sr_ hl13) e68 rfl hx29 (wo_ (us_ (u := (vi (w64 (x28 + 1)))) (e' := w64 (x28 + 1)) sh3 I18 rfl rfl hx29 (dv_ _) (fun w9 I19 => (ad_ (aa_ (wm_ rfl e65 (wm_ rfl e70 ?_))))))))
   obtain ⟨x30, hx30, h10⟩ := bnd h10
   refine wo_ (ix_ Tryz.underlying28 sh3 h1_ hx30 rfl rfl (wo_ (li_ sh3 (h1_.elem I19.in_ hx30) rfl ?_)))
   obtain ⟨x31, hx31, h10⟩ := bnd h10
   refine wo_ (jj_ (α := Int) (l := s1.2.2) (i := x30) (e := x31) rfl Tryz.underlying153 sh3 (sr_ hl14) e69 rfl hx31 (wo_ (li_ sh3 ((I19.nth 1 rfl).arrElem hx31) rfl (wo_ (bl_ rfl rfl rfl ?_)))))
   obtain ⟨x32, hx32, h10⟩ := bnd h10
   refine wo_ (jj_ (α := Int) (l := s1.2.2) (i := x30) (e := x32) rfl Tryz.underlying153 sh3 (sr_ hl14) e69 rfl hx32 (wo_ (us_ (u := (vi (w64 (x31 + 1)))) (e' := w64 (x31 + 1)) sh3 (I19.pull 1) rfl rfl hx32 (dv_ _) (fun w10 I20 => (ad_ (aa_ (wo_ (bl_ rfl e74 rfl (wm_ (v := (vi (w64 ((i1 : Int) + 1)))) rfl rfl (ad_ ?_))))))))))
   obtain rfl := sj h10
   exact ⟨(I20.pull 1), e65, e66, e67, e68, e69, e72, e73, (bh_ hlt1 hk1), ed8, (set_len hl13), (set_len hl14)⟩
  rintro f w hI2
  obtain ⟨I21, e75, e76, e77, e78, e79, e80, e81, e82, ed9, hl19, hl20⟩ := hI2
  refine ab_ (aa_ (wo_ (be_ rfl e82 e81 (ad_ (ab_ (ai_ rfl (ep_ _) (bk_ ?_)))))))
  exact ⟨((I21.pull 1).pull 1), e75, e76, e77, e78, e79, e80, e81, ed9, hl19, hl20⟩
 rintro f w ⟨I22, e83, e84, e85, e86, e87, e88, e89, ed10, hl15, hl16⟩
 refine ab_ (ab_ (aa_ (wm_ (v := (vi 0)) rfl rfl (ad_ ?_))))
 obtain ⟨x39, hx39, h⟩ := bnd h
 obtain ⟨out2, hrun2, h⟩ := bnd h
 refine bp_ (fun f w => ∃ (S_ : PH), S.Le S_ ∧ Inv w S_ (vq_ (α := Int) 153 g1 (out1.2.1) :: vq_ (α := Int) 153 g2 (out1.2.2) :: Fr) ∧ f 4 = (vi out1.1) ∧ f 5 = (vi out2) ∧ f 6 = (pt_ g1) ∧ f 7 = (pt_ g2) ∧ f.ds = []) ?_ ?_
 ·
  refine au_ ?_
  refine da_ (I := fun (i2 : Nat) (s2 : (Int)) (f : Frm) (w : World) => ∃ (S_ : PH), S.Le S_ ∧ Inv w S_ (vq_ (α := Int) 153 g1 (out1.2.1) :: vq_ (α := Int) 153 g2 (out1.2.2) :: Fr) ∧ f 4 = (vi out1.1) ∧ f 5 = (vi s2) ∧ f 6 = (pt_ g1) ∧ f 7 = (pt_ g2) ∧ f 40 = (vi (i2 : Int)) ∧ f.ds = []) hrun2 ⟨_, lr, ((I22.pull 1).pull 1), e84, e85, e86, e87, rfl, ed10⟩ ?_ ?_
  ·
   rintro i2 s2 f w o2 hlt2 hI36 h15
   obtain ⟨S36, le36, I59, e117, e118, e119, e120, e121, ed17⟩ := hI36
   refine ab_ (aa_ (wo_ (be_ rfl e121 rfl (ad_ (ab_ (ah_ rfl (cnt_t hx39 hlt2) (ar_ (ab_ (au_ (ab_ (aa_ (wm_ rfl e121 (wa_ (v := (vi (i2 : Int))) rfl rfl (ad_ ?_))))))))))))))
   obtain ⟨x40, hx40, h15⟩ := bnd h15
   obtain ⟨x41, hx41, h15⟩ := bnd h15
   refine bj_ (sps := [spV 43 [] 0 (vi s2), spV 44 [] 1 (vi (i2 : Int)), ⟨some 45, [1], [2], fun vs_ T_ => fr0 vs_ 0 = (.pointer (some ⟨g1, ((i2 : Int)).toNat * (Enc.sz Int), none⟩)), [0], [], [], fun _ h_ => h_⟩, ⟨some 46, [1, 2], [3], fun vs_ T_ => fr0 vs_ 0 = (vi x40), [0], [], [], fun _ h_ => h_⟩, spV 47 [] 4 (vi (i2 : Int)), ⟨some 48, [4], [5], fun vs_ T_ => fr0 vs_ 0 = (.pointer (some ⟨g2, ((i2 : Int)).toNat * (Enc.sz Int), none⟩)), [1], [], [], fun _ h_ => h_⟩, ⟨some 49, [4, 5], [6], fun vs_ T_ => fr0 vs_ 0 = (vi x41), [1], [], [], fun _ h_ => h_⟩, spV 50 [1, 2, 3, 4, 5, 6] 7 (vi (tm_ x40 x41)), spV 51 (lrg 8) 8 (vi (w64 (s2 + (tm_ x40 x41)))), spV 5 (lrg 9) 9 (vi (w64 (s2 + (tm_ x40 x41))))]) (tks := [⟨none, none, [], fun vs_ => vq_ (α := Int) 153 g1 (out1.2.1)⟩, ⟨none, none, [], fun vs_ => vq_ (α := Int) 153 g2 (out1.2.2)⟩]) (O := Fr) rfl (by kernel_rfl) ((I59.pull 1).pull 1) ⟨ob_ rfl fun l A K I => (aq_ rfl ((K 5 (ag_ rfl)).trans e118) (fo I)), ob_ rfl fun l A K I => (aq_ rfl (K 10 (ag_ rfl)) (fo I)), ?_, ?_, ob_ rfl fun l A K I => (aq_ rfl (K 10 (ag_ rfl)) (fo I)), ?_, ?_, ob_ rfl fun l A K I => (op_min (a := x40) (b := x41) rfl (A.v 2 rfl) (A.v 5 rfl) (fo I)), ob_ rfl fun l A K I => (bl_ rfl (A.v 0 rfl) (A.v 7 rfl) (fo I)), ?_, trivial⟩ ?_
   ·
    intro vs f w_ U X le A K I
    have I62 : Inv w_ U (vq_ (α := Int) 153 g1 (out1.2.1) :: X) := I
    refine pl_ rfl (jj_ (α := Int) (l := out1.2.1) (i := (i2 : Int)) (e := x40) rfl Tryz.underlying153 sh3 (sr_ hl15) ((K 6 (ag_ rfl)).trans e119) (A.v 0 rfl) hx40 (fo I62))
   ·
    intro vs f w_ U X le A K I
    have I63 : Inv w_ U (vq_ (α := Int) 153 g1 (out1.2.1) :: X) := I
    refine pl_ rfl (aj_ rfl sh3 (A.v 1 rfl) ((I63.nth 0 rfl).arrElem hx40) (fo I63))
   ·
    intro vs f w_ U X le A K I
    have I65 : Inv w_ U (vq_ (α := Int) 153 g2 (out1.2.2) :: X) := I
    refine pl_ rfl (jj_ (α := Int) (l := out1.2.2) (i := (i2 : Int)) (e := x41) rfl Tryz.underlying153 sh3 (sr_ hl16) ((K 7 (ag_ rfl)).trans e120) (A.v 0 rfl) hx41 (fo I65))
   ·
    intro vs f w_ U X le A K I
    have I66 : Inv w_ U (vq_ (α := Int) 153 g2 (out1.2.2) :: X) := I
    refine pl_ rfl (aj_ rfl sh3 (A.v 1 rfl) ((I66.nth 0 rfl).arrElem hx41) (fo I66))
   ·
    intro vs f w_ U X le A K I
    refine pl_ rfl (bn_ (v := (vi (w64 (s2 + (tm_ x40 x41))))) rfl (A.v 8 rfl) (fo I))
   intro vs44 f w54 S47 ed18 le47 hF4 hK44 hI47
   have e122 : f 4 = (vi out1.1) := (hK44 4 (al_ rfl)).trans e117
   have e123 : f 6 = (pt_ g1) := (hK44 6 (al_ rfl)).trans e119
   have e124 : f 7 = (pt_ g2) := (hK44 7 (al_ rfl)).trans e120
   have e125 : f 40 = (vi ((i2 : Int))) := (hK44 40 (al_ rfl)).trans e121
   have I70 : Inv w54 S47 (vq_ (α := Int) 153 g1 (out1.2.1) :: vq_ (α := Int) 153 g2 (out1.2.2) :: Fr) := hI47
   have q40 := hF4.v 9 rfl
   refine aa_ (wo_ (bl_ rfl e125 rfl (wm_ (v := (vi (w64 ((i2 : Int) + 1)))) rfl rfl (ad_ ?_))))
   obtain rfl := sj h15
   exact ⟨_, (le36.trans le47), ((I70.pull 1).pull 1), e122, q40, e123, e124, (bh_ hlt2 (zi_ hx39)), (ed18.trans ed17)⟩
  rintro f w hI48
  obtain ⟨S48, le48, I71, e126, e127, e128, e129, e130, ed19⟩ := hI48
  refine ab_ (aa_ (wo_ (be_ rfl e130 rfl (ad_ (ab_ (ai_ rfl (cnt_f hx39) (bk_ ?_)))))))
  exact ⟨_, le48, ((I71.pull 1).pull 1), e126, e127, e128, e129, ed19⟩
 rintro f w ⟨S49, le49, I72, e131, e132, e133, e134, ed20⟩
 refine ab_ (aa_ (wm_ rfl e131 (wm_ rfl e132 (wm_ rfl e131 (wo_ (eb_ rfl rfl rfl (wa_ (v := (vi out1.1)) rfl rfl (wa_ (v := (vi (w64 (out2 - out1.1)))) rfl rfl (ad_ (ak_ ?_))))))))))
 obtain rfl := sj h
 exact ⟨ed20, (Value.tuple #[(vi out1.1), (vi (w64 (out2 - out1.1)))]), (qy_ rfl rfl rfl), _, [], le49, ((I72).drop).drop, rfl, rfl⟩
end Go.Proofs.YtlpdpeghgndmkaaGreat.Pad
