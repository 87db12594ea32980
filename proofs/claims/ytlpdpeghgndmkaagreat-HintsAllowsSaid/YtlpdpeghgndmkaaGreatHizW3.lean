/- A part of the proof: what the functions of the program compute, shown over the model. -/
import Derived.Test.YtlpdpeghgndmkaaGreatHizP
import Derived.Test.YtlpdpeghgndmkaaGreatHizW1
import Derived.Test.YtlpdpeghgndmkaaGreatHizW2
import Derived.KernelRfl
set_option linter.unusedVariables false
set_option maxHeartbeats 4000000
set_option maxRecDepth 100000
namespace Go.Proofs.YtlpdpeghgndmkaaGreat.Pad
open Go Go.Proofs
theorem pp_ {w : World} {S : PH} {Fr : List HP} {a0 : Riddle} {v0 : Value} {r : Int} (hI : Inv w S (Fr)) (h0_ : RV S v0 a0) (h : jg_ a0 = some r) :
    Calls Tryz.prog 33 [v0].toArray w (bw_ S Fr (Value.int .i64 (r))) := by
 unfold jg_ at h
 obtain ⟨c1, c2, c3, c4, e1, r1, r2, r3, r4⟩ := Riddle.inv h0_
 subst e1
 obtain ⟨z1, m1, k1, rfl⟩ := ac_ r1
 obtain ⟨z2, m2, k2, rfl⟩ := ac_ r2
 obtain ⟨z3, m3, k3, rfl⟩ := ac_ r3
 obtain ⟨z4, m4, k4, rfl⟩ := ac_ r4
 refine ao_ (n := 172) Tryz.func33 rfl rfl rfl (ab_ (aa_ (wo_ (bi_ (v := (.agg #[(.slice z1 m1 k1), (.slice z2 m2 k2), (.slice z3 m3 k3), (.slice z4 m4 k4)])) rfl hI rfl (fun g1 w1 I1 => ?_)))))
 obtain ⟨S1, le1, I2, p1⟩ := Inv.boxFreeze (x := a0) I1 (Riddle.rv (s := a0) r1 r2 r3 r4)
 refine wa_ (v := (vi 0)) rfl rfl (ad_ (ab_ (aa_ (wo_ (fa_ co_ (p1.at_ I2) rfl (wo_ (ld_ mh_ ((p1.at_ I2).fld Riddle.fld0) rfl (fun u1 hu1 => ?_))))))))
 obtain ⟨z5, m5, k5, rfl⟩ := ac_ hu1
 refine wo_ (az_ rfl Tryz.underlying22 rfl hu1 (wa_ (v := (vi ((a0.Locks.length : Int)))) rfl rfl (ad_ (ab_ (ab_ (aa_ (wm_ (v := (vi ((a0.Locks.length : Int)))) rfl rfl ?_)))))))
 obtain ⟨x2, hx2, h⟩ := bnd h
 refine wo_ (cv_ ca55 rfl I2 (fun Fr_ hF_ => ch_ hF_  hx2) (cf_ rfl rfl rfl) (fun w3 I4 => (wo_ (bx_ rfl rfl (wm_ (v := (vb (!x2))) rfl rfl ?_)))))
 rcases ifs h with ⟨hc5, h⟩ | ⟨hc5, h⟩
 ·
  refine ws_ rfl rfl hc5 (ws_ rfl rfl hc5 (ws_ rfl rfl hc5 (ws_ rfl rfl hc5 (ws_ rfl rfl hc5 (wo_ (aw_ (a := (vb true)) rfl rfl hc5 rfl (wm_ (v := (vb true)) rfl rfl (ws_ rfl rfl rfl (ws_ rfl rfl rfl (ws_ rfl rfl rfl (ws_ rfl rfl rfl (ws_ rfl rfl rfl (wo_ (aw_ (a := (vb true)) rfl rfl rfl rfl (wm_ (v := (vb true)) rfl rfl (ws_ rfl rfl rfl (ws_ rfl rfl rfl (ws_ rfl rfl rfl (ws_ rfl rfl rfl (wo_ (aw_ (a := (vb true)) rfl rfl rfl rfl (ad_ (ah_ rfl rfl (ab_ (aa_ (wa_ (v := (vi 70)) rfl rfl (ad_ (ak_ ?_))))))))))))))))))))))))))))
  obtain rfl := sj h
  exact ⟨rfl, (vi 70), (bo_ rfl rfl), _, [], le1, I4, rfl, rfl⟩
 refine wk_ rfl rfl hc5 (fa_ hi_ (p1.at_ I4) rfl (wk_ rfl rfl hc5 (ld_ lq_ ((p1.at_ I4).fld Riddle.fld1) rfl (fun u5 hu5 => ?_))))
 obtain ⟨z9, m9, k9, rfl⟩ := ac_ hu5
 refine wk_ rfl rfl hc5 (az_ rfl Tryz.underlying23 rfl hu5 (wk_ rfl rfl hc5 (aq_ (v := (vi ((a0.Locks.length : Int)))) rfl rfl (wk_ rfl rfl hc5 (cd_ rfl rfl rfl (wo_ (ap_ (b := (vb ((a0.Codes.length : Int) != (a0.Locks.length : Int)))) rfl rfl hc5 rfl (wm_ (v := (vb ((a0.Codes.length : Int) != (a0.Locks.length : Int)))) rfl rfl ?_))))))))
 rcases ifs h with ⟨hc6, h⟩ | ⟨hc6, h⟩
 ·
  refine ws_ rfl rfl hc6 (ws_ rfl rfl hc6 (ws_ rfl rfl hc6 (ws_ rfl rfl hc6 (ws_ rfl rfl hc6 (wo_ (aw_ (a := (vb true)) rfl rfl hc6 rfl (wm_ (v := (vb true)) rfl rfl (ws_ rfl rfl rfl (ws_ rfl rfl rfl (ws_ rfl rfl rfl (ws_ rfl rfl rfl (wo_ (aw_ (a := (vb true)) rfl rfl rfl rfl (ad_ (ah_ rfl rfl (ab_ (aa_ (wa_ (v := (vi 70)) rfl rfl (ad_ (ak_ ?_))))))))))))))))))))
  obtain rfl := sj h
  exact ⟨rfl, (vi 70), (bo_ rfl rfl), _, [], le1, I4, rfl, rfl⟩
 refine wk_ rfl rfl hc6 (fa_ fk_ (p1.at_ I4) rfl (wk_ rfl rfl hc6 (ld_ sb_ ((p1.at_ I4).fld Riddle.fld2) rfl (fun u6 hu6 => ?_))))
 obtain ⟨z10, m10, k10, rfl⟩ := ac_ hu6
 refine wk_ rfl rfl hc6 (az_ rfl Tryz.underlying24 rfl hu6 (wk_ rfl rfl hc6 (aq_ (v := (vi ((a0.Locks.length : Int)))) rfl rfl (wk_ rfl rfl hc6 (cd_ rfl rfl rfl (wo_ (ap_ (b := (vb ((a0.Known.length : Int) != (a0.Locks.length : Int)))) rfl rfl hc6 rfl (wm_ (v := (vb ((a0.Known.length : Int) != (a0.Locks.length : Int)))) rfl rfl ?_))))))))
 rcases ifs h with ⟨hc7, h⟩ | ⟨hc7, h⟩
 ·
  refine ws_ rfl rfl hc7 (ws_ rfl rfl hc7 (ws_ rfl rfl hc7 (ws_ rfl rfl hc7 (wo_ (aw_ (a := (vb true)) rfl rfl hc7 rfl (ad_ (ah_ rfl rfl (ab_ (aa_ (wa_ (v := (vi 70)) rfl rfl (ad_ (ak_ ?_))))))))))))
  obtain rfl := sj h
  exact ⟨rfl, (vi 70), (bo_ rfl rfl), _, [], le1, I4, rfl, rfl⟩
 refine wk_ rfl rfl hc7 (fa_ nv_ (p1.at_ I4) rfl (wk_ rfl rfl hc7 (ld_ sh25 ((p1.at_ I4).fld Riddle.fld3) rfl (fun u7 hu7 => ?_))))
 obtain ⟨z11, m11, k11, rfl⟩ := ac_ hu7
 refine wk_ rfl rfl hc7 (az_ rfl Tryz.underlying25 rfl hu7 (wk_ rfl rfl hc7 (lv_ rfl rfl rfl (wo_ (ap_ (b := (vb (decide (10 < (a0.Ties.length : Int))))) rfl rfl hc7 rfl (ad_ ?_))))))
 rcases ifs h with ⟨hc8, h⟩ | ⟨hc8, h⟩
 ·
  refine ah_ rfl hc8 (ab_ (aa_ (wa_ (v := (vi 70)) rfl rfl (ad_ (ak_ ?_)))))
  obtain rfl := sj h
  exact ⟨rfl, (vi 70), (bo_ rfl rfl), _, [], le1, I4, rfl, rfl⟩
 refine ai_ rfl hc8 (ar_ (ab_ (ab_ (aa_ (wa_ (v := (vi 0)) rfl rfl (ad_ ?_))))))
 have hk1 : a0.Locks.length ≤ 9223372036854775807 := (cx_ r1)
 obtain ⟨o8, hrun4, h⟩ := bnd h
 refine bp_ (fun f w => ∃ out4, o8 = Sum.inl out4 ∧ ∃ (S_ : PH), S1.Le S_ ∧ Inv w S_ (Fr) ∧ f 1 = (pt_ g1) ∧ f 3 = (vi ((a0.Locks.length : Int))) ∧ f.ds = []) ?_ ?_
 ·
  refine au_ ?_
  refine ex_ (I := fun (i1 : Nat) (s4 : Unit) (f : Frm) (w : World) => ∃ (S_ : PH), S1.Le S_ ∧ Inv w S_ (Fr) ∧ f 1 = (pt_ g1) ∧ f 3 = (vi ((a0.Locks.length : Int))) ∧ f 4 = (vi (i1 : Int)) ∧ f.ds = []) hrun4 ⟨_, lr, I4, rfl, rfl, rfl, rfl⟩ ?_ ?_
  ·
   rintro i1 s4 f w o7 hlt1 hI520 h11 hout4
   obtain ⟨S532, le532, I596, e574, e575, e576, ed46⟩ := hI520
   refine ab_ (ab_ (aa_ (wm_ rfl e576 (wm_ rfl e575 (wo_ (be_ rfl rfl rfl (ad_ (ah_ rfl (eo_ hlt1) (ar_ (ab_ (au_ (ab_ (ab_ ?_)))))))))))))
   obtain ⟨x106, hx106, h11⟩ := bnd h11
   obtain ⟨x107, hx107, h11⟩ := bnd h11
   obtain ⟨x108, hx108, h11⟩ := bnd h11
   rcases ifs h11 with ⟨hc47, h11⟩ | ⟨hc47, h11⟩
   ·
    refine bj_ (sps := [spV 39 [] 0 (an_ (pt_ g1) 0), spR 40 [0] 1 (a0.Locks), spV 41 [] 2 (vi (i1 : Int)), spW 42 [0, 1, 2] [3, 1] fun vs_ => (af_ (fr0 vs_ 1) ((i1 : Int)) (Enc.sz CodeLock)), spV 43 [0, 1, 2, 3] 4 (.agg #[(vi x106.Wheels), (vi x106.Symbols)]), spV 44 [] 5 (an_ (pt_ g1) 1), spR 45 [5] 6 (a0.Codes), spV 46 [] 7 (vi (i1 : Int)), spW 47 [5, 6, 7] [8, 6] fun vs_ => (af_ (fr0 vs_ 1) ((i1 : Int)) (Enc.sz (List Int))), spR 48 [5, 6, 7, 8] 9 x107, spV 49 (lrg 10) 10 (vi x108), spV 50 (lrg 11) 11 (vb (x108 != 0)), spV 51 (lrg 12) 12 (vb (x108 != 0)), spV 52 (lrg 13) 13 undef, spV 53 (lrg 14) 14 undef, spV 54 (lrg 13) 15 undef, spV 55 (lrg 16) 16 undef, spV 56 (lrg 17) 17 undef, spV 57 (lrg 18) 18 undef, spV 58 (lrg 19) 19 undef, spV 59 (lrg 20) 20 (vb true)]) (tks := []) (O := Fr) rfl (by kernel_rfl) I596 ⟨ob_ rfl fun l A K I => (ae_ rfl co_ ((K 1 (ag_ rfl)).trans e574) ((p1.mono (le532.trans l)).at_ I) (fo I)), ?_, ob_ rfl fun l A K I => (aq_ rfl ((K 4 (ag_ rfl)).trans e576) (fo I)), ?_, ?_, ob_ rfl fun l A K I => (ae_ rfl hi_ ((K 1 (ag_ rfl)).trans e574) ((p1.mono (le532.trans l)).at_ I) (fo I)), ?_, ob_ rfl fun l A K I => (aq_ rfl ((K 4 (ag_ rfl)).trans e576) (fo I)), ?_, ?_, ?_, ob_ rfl fun l A K I => (cd_ rfl (A.v 10 rfl) rfl (fo I)), ob_ rfl fun l A K I => (aq_ rfl (A.v 11 rfl) (fo I)), oc_ fun l A K I => sk_ rfl (A.v 12 rfl) hc47 (fo I), oc_ fun l A K I => sk_ rfl (A.v 12 rfl) hc47 (fo I), oc_ fun l A K I => sk_ rfl (A.v 12 rfl) hc47 (fo I), oc_ fun l A K I => sk_ rfl (A.v 12 rfl) hc47 (fo I), oc_ fun l A K I => sk_ rfl (A.v 12 rfl) hc47 (fo I), oc_ fun l A K I => sk_ rfl (A.v 12 rfl) hc47 (fo I), oc_ fun l A K I => sk_ rfl (A.v 12 rfl) hc47 (fo I), ?_, trivial⟩ ?_
    ·
     intro vs f w_ U X le A K I
     have q799 := A.v 0 rfl
     refine pl_ rfl (ay_ rfl mh_ q799 (((p1.mono (le532.trans le)).at_ I).fld Riddle.fld0) (fun u593 hu593 => ?_))
     obtain ⟨z381, m381, k381, rfl⟩ := ac_ hu593
     refine ⟨_, _, rfl, lr, ?_, ?_⟩
     · exact hu593
     exact I
    ·
     intro vs f w_ U X le A K I
     obtain ⟨z382, m382, k382, hu594, q800, r240⟩ := A.sl (a := 1) 1 rfl rfl rfl
     have q801 := A.v 2 rfl
     refine pl_ rfl (ix_ Tryz.underlying22 im_ r240 hx106 q800 q801 (⟨_, _, rfl, lr, ?_, ?_⟩))
     ·
      show (af_ (Value.slice z382 m382 k382) ((i1 : Int)) (Enc.sz CodeLock)) = (af_ (vs 1) ((i1 : Int)) (Enc.sz CodeLock))
      simp only [hu594] <;> rfl
     exact I
    ·
     intro vs f w_ U X le A K I
     obtain ⟨z383, m383, k383, hu595, q802, r241⟩ := A.sl (a := 1) 1 rfl rfl rfl
     have q803 := A.v 2 rfl
     have q804 : f 42 = (af_ (vs 1) ((i1 : Int)) (Enc.sz CodeLock)) := A.v 3 rfl
     simp only [hu595] at q804
     have q804 : f 42 = (af_ (Value.slice z383 m383 k383) ((i1 : Int)) (Enc.sz CodeLock)) := q804
     refine pl_ rfl (ay_ rfl im_ q804 (r241.elem I.in_ hx106) (fun u596 hu596 => ?_))
     have e609 := CodeLock.inv hu596
     subst e609
     refine ⟨_, _, rfl, lr, ?_, ?_⟩
     · exact rfl
     exact I
    ·
     intro vs f w_ U X le A K I
     have q805 := A.v 0 rfl
     refine pl_ rfl (ay_ rfl lq_ q805 (((p1.mono (le532.trans le)).at_ I).fld Riddle.fld1) (fun u597 hu597 => ?_))
     obtain ⟨z384, m384, k384, rfl⟩ := ac_ hu597
     refine ⟨_, _, rfl, lr, ?_, ?_⟩
     · exact hu597
     exact I
    ·
     intro vs f w_ U X le A K I
     obtain ⟨z385, m385, k385, hu598, q806, r242⟩ := A.sl (a := 6) 1 rfl rfl rfl
     have q807 := A.v 2 rfl
     refine pl_ rfl (ix_ Tryz.underlying23 fn_ r242 hx107 q806 q807 (⟨_, _, rfl, lr, ?_, ?_⟩))
     ·
      show (af_ (Value.slice z385 m385 k385) ((i1 : Int)) (Enc.sz (List Int))) = (af_ (vs 6) ((i1 : Int)) (Enc.sz (List Int)))
      simp only [hu598] <;> rfl
     exact I
    ·
     intro vs f w_ U X le A K I
     obtain ⟨z386, m386, k386, hu599, q808, r243⟩ := A.sl (a := 6) 1 rfl rfl rfl
     have q809 := A.v 2 rfl
     have q810 : f 47 = (af_ (vs 6) ((i1 : Int)) (Enc.sz (List Int))) := A.v 3 rfl
     simp only [hu599] at q810
     have q810 : f 47 = (af_ (Value.slice z386 m386 k386) ((i1 : Int)) (Enc.sz (List Int))) := q810
     refine pl_ rfl (ay_ rfl fn_ q810 (r243.elem I.in_ hx107) (fun u600 hu600 => ?_))
     obtain ⟨z387, m387, k387, rfl⟩ := ac_ hu600
     refine ⟨_, _, rfl, lr, ?_, ?_⟩
     · exact hu600
     exact I
    ·
     intro vs f w_ U X le A K I
     obtain ⟨z388, m388, k388, hu601, q812, r244⟩ := A.sl (a := 9) 9 rfl rfl rfl
     refine pl_ rfl (cv_ ca68 rfl I (fun Fr_ hF_ => ls_ hF_ (CodeLock.rv (s := x106)) r244 hx108) (br_ (A.v 4 rfl) q812) (fun w637 I659 => (fo I659)))
    ·
     intro vs f w_ U X le A K I
     refine pl_ rfl (aw_ (a := (vb true)) rfl (A.v 12 rfl) hc47 rfl (fo I))
    intro vs582 f w648 S598 ed49 le598 hF27 hK582 hI586
    have e615 : f 1 = (pt_ g1) := (hK582 1 (al_ rfl)).trans e574
    have e616 : f 3 = (vi ((a0.Locks.length : Int))) := (hK582 3 (al_ rfl)).trans e575
    have e617 : f 4 = (vi ((i1 : Int))) := (hK582 4 (al_ rfl)).trans e576
    have I670 : Inv w648 S598 (Fr) := hI586
    have q830 := hF27.v 20 rfl
    refine ah_ q830 rfl (ab_ (aa_ (wa_ (v := (vi 70)) rfl rfl (ad_ (ak_ ?_)))))
    obtain rfl := sj h11
    obtain rfl := (hout4 _ rfl)
    have h12 := h
    obtain rfl := sj h12
    exact ⟨(ed49.trans ed46), (vi 70), (bo_ rfl rfl), _, [], ((le1.trans le532).trans le598), I670, rfl, rfl⟩
   obtain ⟨x109, hx109, h11⟩ := bnd h11
   refine bj_ (sps := [spV 39 [] 0 (an_ (pt_ g1) 0), spR 40 [0] 1 (a0.Locks), spV 41 [] 2 (vi (i1 : Int)), spW 42 [0, 1, 2] [3, 1] fun vs_ => (af_ (fr0 vs_ 1) ((i1 : Int)) (Enc.sz CodeLock)), spV 43 [0, 1, 2, 3] 4 (.agg #[(vi x106.Wheels), (vi x106.Symbols)]), spV 44 [] 5 (an_ (pt_ g1) 1), spR 45 [5] 6 (a0.Codes), spV 46 [] 7 (vi (i1 : Int)), spW 47 [5, 6, 7] [8, 6] fun vs_ => (af_ (fr0 vs_ 1) ((i1 : Int)) (Enc.sz (List Int))), spR 48 [5, 6, 7, 8] 9 x107, spV 49 (lrg 10) 10 (vi x108), spV 50 (lrg 11) 11 (vb (x108 != 0)), spV 51 (lrg 12) 12 (vb (x108 != 0)), spV 52 (lrg 13) 13 (an_ (pt_ g1) 2), spR 53 (lrg 14) 14 (a0.Known), spV 54 (lrg 13) 15 (vi (i1 : Int)), spW 55 (lrg 16) [16, 14] fun vs_ => (af_ (fr0 vs_ 1) ((i1 : Int)) (Enc.sz (List Clue))), spR 56 (lrg 17) 17 x109, spV 57 (lrg 18) 18 (vi ((x109.length : Int))), spV 58 (lrg 19) 19 (vb (decide (20 < (x109.length : Int)))), spV 59 (lrg 20) 20 (vb (decide (20 < (x109.length : Int))))]) (tks := []) (O := Fr) rfl (by kernel_rfl) I596 ⟨ob_ rfl fun l A K I => (ae_ rfl co_ ((K 1 (ag_ rfl)).trans e574) ((p1.mono (le532.trans l)).at_ I) (fo I)), ?_, ob_ rfl fun l A K I => (aq_ rfl ((K 4 (ag_ rfl)).trans e576) (fo I)), ?_, ?_, ob_ rfl fun l A K I => (ae_ rfl hi_ ((K 1 (ag_ rfl)).trans e574) ((p1.mono (le532.trans l)).at_ I) (fo I)), ?_, ob_ rfl fun l A K I => (aq_ rfl ((K 4 (ag_ rfl)).trans e576) (fo I)), ?_, ?_, ?_, ob_ rfl fun l A K I => (cd_ rfl (A.v 10 rfl) rfl (fo I)), ob_ rfl fun l A K I => (aq_ rfl (A.v 11 rfl) (fo I)), oc_ fun l A K I => tk_ rfl (A.v 12 rfl) hc47 (ae_ rfl fk_ ((K 1 (ag_ rfl)).trans e574) ((p1.mono (le532.trans l)).at_ I) (fo I)), ?_, oc_ fun l A K I => tk_ rfl (A.v 12 rfl) hc47 (aq_ rfl ((K 4 (ag_ rfl)).trans e576) (fo I)), ?_, ?_, ?_, oc_ fun l A K I => tk_ rfl (A.v 12 rfl) hc47 (lv_ rfl (A.v 18 rfl) rfl (fo I)), ?_, trivial⟩ ?_
   ·
    intro vs f w_ U X le A K I
    have q831 := A.v 0 rfl
    refine pl_ rfl (ay_ rfl mh_ q831 (((p1.mono (le532.trans le)).at_ I).fld Riddle.fld0) (fun u608 hu608 => ?_))
    obtain ⟨z389, m389, k389, rfl⟩ := ac_ hu608
    refine ⟨_, _, rfl, lr, ?_, ?_⟩
    · exact hu608
    exact I
   ·
    intro vs f w_ U X le A K I
    obtain ⟨z390, m390, k390, hu609, q832, r245⟩ := A.sl (a := 1) 1 rfl rfl rfl
    have q833 := A.v 2 rfl
    refine pl_ rfl (ix_ Tryz.underlying22 im_ r245 hx106 q832 q833 (⟨_, _, rfl, lr, ?_, ?_⟩))
    ·
     show (af_ (Value.slice z390 m390 k390) ((i1 : Int)) (Enc.sz CodeLock)) = (af_ (vs 1) ((i1 : Int)) (Enc.sz CodeLock))
     simp only [hu609] <;> rfl
    exact I
   ·
    intro vs f w_ U X le A K I
    obtain ⟨z391, m391, k391, hu610, q834, r246⟩ := A.sl (a := 1) 1 rfl rfl rfl
    have q835 := A.v 2 rfl
    have q836 : f 42 = (af_ (vs 1) ((i1 : Int)) (Enc.sz CodeLock)) := A.v 3 rfl
    simp only [hu610] at q836
    have q836 : f 42 = (af_ (Value.slice z391 m391 k391) ((i1 : Int)) (Enc.sz CodeLock)) := q836
    refine pl_ rfl (ay_ rfl im_ q836 (r246.elem I.in_ hx106) (fun u611 hu611 => ?_))
    have e621 := CodeLock.inv hu611
    subst e621
    refine ⟨_, _, rfl, lr, ?_, ?_⟩
    · exact rfl
    exact I
   ·
    intro vs f w_ U X le A K I
    have q837 := A.v 0 rfl
    refine pl_ rfl (ay_ rfl lq_ q837 (((p1.mono (le532.trans le)).at_ I).fld Riddle.fld1) (fun u612 hu612 => ?_))
    obtain ⟨z392, m392, k392, rfl⟩ := ac_ hu612
    refine ⟨_, _, rfl, lr, ?_, ?_⟩
    · exact hu612
    exact I
   ·
    intro vs f w_ U X le A K I
    obtain ⟨z393, m393, k393, hu613, q838, r247⟩ := A.sl (a := 6) 1 rfl rfl rfl
    have q839 := A.v 2 rfl
    refine pl_ rfl (ix_ Tryz.underlying23 fn_ r247 hx107 q838 q839 (⟨_, _, rfl, lr, ?_, ?_⟩))
    ·
     show (af_ (Value.slice z393 m393 k393) ((i1 : Int)) (Enc.sz (List Int))) = (af_ (vs 6) ((i1 : Int)) (Enc.sz (List Int)))
     simp only [hu613] <;> rfl
    exact I
   ·
    intro vs f w_ U X le A K I
    obtain ⟨z394, m394, k394, hu614, q840, r248⟩ := A.sl (a := 6) 1 rfl rfl rfl
    have q841 := A.v 2 rfl
    have q842 : f 47 = (af_ (vs 6) ((i1 : Int)) (Enc.sz (List Int))) := A.v 3 rfl
    simp only [hu614] at q842
    have q842 : f 47 = (af_ (Value.slice z394 m394 k394) ((i1 : Int)) (Enc.sz (List Int))) := q842
    refine pl_ rfl (ay_ rfl fn_ q842 (r248.elem I.in_ hx107) (fun u615 hu615 => ?_))
    obtain ⟨z395, m395, k395, rfl⟩ := ac_ hu615
    refine ⟨_, _, rfl, lr, ?_, ?_⟩
    · exact hu615
    exact I
   ·
    intro vs f w_ U X le A K I
    obtain ⟨z396, m396, k396, hu616, q844, r249⟩ := A.sl (a := 9) 9 rfl rfl rfl
    refine pl_ rfl (cv_ ca68 rfl I (fun Fr_ hF_ => ls_ hF_ (CodeLock.rv (s := x106)) r249 hx108) (br_ (A.v 4 rfl) q844) (fun w661 I683 => (fo I683)))
   ·
    intro vs f w_ U X le A K I
    have q848 := A.v 12 rfl
    have q849 := A.v 13 rfl
    refine tk_ rfl q848 hc47 (ay_ rfl sb_ q849 (((p1.mono (le532.trans le)).at_ I).fld Riddle.fld2) (fun u617 hu617 => ?_))
    obtain ⟨z397, m397, k397, rfl⟩ := ac_ hu617
    refine ⟨_, _, rfl, lr, ?_, ?_⟩
    · exact hu617
    exact I
   ·
    intro vs f w_ U X le A K I
    have q851 := A.v 12 rfl
    obtain ⟨z398, m398, k398, hu618, q852, r250⟩ := A.sl (a := 14) 14 rfl rfl rfl
    have q853 := A.v 15 rfl
    refine tk_ rfl q851 hc47 (ix_ Tryz.underlying24 ng_ r250 hx109 q852 q853 (⟨_, _, rfl, lr, ?_, ?_⟩))
    ·
     show (af_ (Value.slice z398 m398 k398) ((i1 : Int)) (Enc.sz (List Clue))) = (af_ (vs 14) ((i1 : Int)) (Enc.sz (List Clue)))
     simp only [hu618] <;> rfl
    exact I
   ·
    intro vs f w_ U X le A K I
    have q854 := A.v 12 rfl
    obtain ⟨z399, m399, k399, hu619, q855, r251⟩ := A.sl (a := 14) 14 rfl rfl rfl
    have q856 := A.v 15 rfl
    have q857 : f 55 = (af_ (vs 14) ((i1 : Int)) (Enc.sz (List Clue))) := A.v 16 rfl
    simp only [hu619] at q857
    have q857 : f 55 = (af_ (Value.slice z399 m399 k399) ((i1 : Int)) (Enc.sz (List Clue))) := q857
    refine tk_ rfl q854 hc47 (ay_ rfl ng_ q857 (r251.elem I.in_ hx109) (fun u620 hu620 => ?_))
    obtain ⟨z400, m400, k400, rfl⟩ := ac_ hu620
    refine ⟨_, _, rfl, lr, ?_, ?_⟩
    · exact hu620
    exact I
   ·
    intro vs f w_ U X le A K I
    obtain ⟨z401, m401, k401, hu621, q859, r252⟩ := A.sl (a := 17) 17 rfl rfl rfl
    refine tk_ rfl (A.v 12 rfl) hc47 (az_ rfl Tryz.underlying63 q859 r252 (fo I))
   ·
    intro vs f w_ U X le A K I
    refine pl_ rfl (ap_ (b := (vb (decide (20 < (x109.length : Int))))) rfl (A.v 12 rfl) hc47 (A.v 19 rfl) (fo I))
   intro vs604 f w672 S620 ed50 le620 hF28 hK604 hI608
   have e632 : f 1 = (pt_ g1) := (hK604 1 (al_ rfl)).trans e574
   have e633 : f 3 = (vi ((a0.Locks.length : Int))) := (hK604 3 (al_ rfl)).trans e575
   have e634 : f 4 = (vi ((i1 : Int))) := (hK604 4 (al_ rfl)).trans e576
   have I694 : Inv w672 S620 (Fr) := hI608
   have q864 := hF28.v 20 rfl
   rcases ifs h11 with ⟨hc48, h11⟩ | ⟨hc48, h11⟩
   ·
    refine ah_ q864 hc48 (ab_ (aa_ (wa_ (v := (vi 70)) rfl rfl (ad_ (ak_ ?_)))))
    obtain rfl := sj h11
    obtain rfl := (hout4 _ rfl)
    have h12 := h
    obtain rfl := sj h12
    exact ⟨(ed50.trans ed46), (vi 70), (bo_ rfl rfl), _, [], ((le1.trans le532).trans le620), I694, rfl, rfl⟩
   refine ai_ q864 hc48 (ar_ (ab_ (aa_ (wa_ (v := (vi 0)) rfl rfl (ad_ ?_)))))
   obtain ⟨o10, hrun5, h11⟩ := bnd h11
   refine bp_ (fun f w => ∃ out5, o10 = Sum.inl out5 ∧ ∃ (S_ : PH), S620.Le S_ ∧ Inv w S_ (Fr) ∧ f 1 = (pt_ g1) ∧ f 3 = (vi ((a0.Locks.length : Int))) ∧ f 4 = (vi (i1 : Int)) ∧ f 5 = (vi out5) ∧ f.ds = []) ?_ ?_
   ·
    refine au_ ?_
    refine kr_ (I := fun (s5 : (Int)) (f : Frm) (w : World) => ∃ (S_ : PH), S620.Le S_ ∧ Inv w S_ (Fr) ∧ f 1 = (pt_ g1) ∧ f 3 = (vi ((a0.Locks.length : Int))) ∧ f 4 = (vi (i1 : Int)) ∧ f 5 = (vi s5) ∧ f.ds = []) hrun5 ⟨_, lr, I694, e632, e633, e634, rfl, (ed50.trans ed46)⟩ ?_
    rintro s5 f w o9 hI672 h14 hout5
    obtain ⟨S686, le686, I768, e728, e729, e730, e731, ed58⟩ := hI672
    refine ab_ (ab_ (aa_ (wm_ rfl e731 (wo_ (ae_ rfl fk_ e728 ((p1.mono ((le532.trans le620).trans le686)).at_ I768) (wo_ (ld_ sb_ (((p1.mono ((le532.trans le620).trans le686)).at_ I768).fld Riddle.fld2) rfl (fun u702 hu702 => ?_))))))))
    obtain ⟨z458, m458, k458, rfl⟩ := ac_ hu702
    refine wm_ rfl e730 ?_
    obtain ⟨x129, hx129, h14⟩ := bnd h14
    refine wo_ (ix_ Tryz.underlying24 ng_ hu702 hx129 rfl rfl (wo_ (ld_ ng_ (hu702.elem I768.in_ hx129) rfl (fun u703 hu703 => ?_))))
    obtain ⟨z459, m459, k459, rfl⟩ := ac_ hu703
    refine wo_ (az_ rfl Tryz.underlying63 rfl hu703 (wo_ (be_ rfl rfl rfl (ad_ ?_))))
    rcases ifs h14 with ⟨hc55, h14⟩ | ⟨hc55, h14⟩
    ·
     refine ah_ rfl hc55 (ar_ (ab_ (au_ (ab_ ?_))))
     obtain ⟨x130, hx130, h14⟩ := bnd h14
     obtain ⟨x131, hx131, h14⟩ := bnd h14
     obtain ⟨x132, hx132, h14⟩ := bnd h14
     obtain ⟨x133, hx133, h14⟩ := bnd h14
     obtain ⟨x134, hx134, h14⟩ := bnd h14
     refine bj_ (sps := [spV 70 [] 0 (an_ (pt_ g1) 0), spR 71 [0] 1 (a0.Locks), spV 72 [] 2 (vi (i1 : Int)), spW 73 [0, 1, 2] [3, 1] fun vs_ => (af_ (fr0 vs_ 1) ((i1 : Int)) (Enc.sz CodeLock)), spV 74 [0, 1, 2, 3] 4 (.agg #[(vi x130.Wheels), (vi x130.Symbols)]), spV 75 [] 5 (an_ (pt_ g1) 1), spR 76 [5] 6 (a0.Codes), spV 77 [] 7 (vi (i1 : Int)), spW 78 [5, 6, 7] [8, 6] fun vs_ => (af_ (fr0 vs_ 1) ((i1 : Int)) (Enc.sz (List Int))), spR 79 [5, 6, 7, 8] 9 x131, spV 80 [] 10 (an_ (pt_ g1) 2), spR 81 [10] 11 (a0.Known), spV 82 [] 12 (vi (i1 : Int)), spW 83 [10, 11, 12] [13, 11] fun vs_ => (af_ (fr0 vs_ 1) ((i1 : Int)) (Enc.sz (List Clue))), spR 84 [10, 11, 12, 13] 14 x132, spV 85 [] 15 (vi s5), spW 86 [10, 11, 12, 13, 14, 15] [16, 14] fun vs_ => (af_ (fr0 vs_ 1) (s5) (Enc.sz Clue)), spR 87 [10, 11, 12, 13, 14, 15, 16] 17 x133, spV 88 (lrg 18) 18 (vb x134), spV 89 (lrg 19) 19 (vb (!x134))]) (tks := []) (O := Fr) rfl (by kernel_rfl) I768 ⟨ob_ rfl fun l A K I => (ae_ rfl co_ ((K 1 (ag_ rfl)).trans e728) ((p1.mono (((le532.trans le620).trans le686).trans l)).at_ I) (fo I)), ?_, ob_ rfl fun l A K I => (aq_ rfl ((K 4 (ag_ rfl)).trans e730) (fo I)), ?_, ?_, ob_ rfl fun l A K I => (ae_ rfl hi_ ((K 1 (ag_ rfl)).trans e728) ((p1.mono (((le532.trans le620).trans le686).trans l)).at_ I) (fo I)), ?_, ob_ rfl fun l A K I => (aq_ rfl ((K 4 (ag_ rfl)).trans e730) (fo I)), ?_, ?_, ob_ rfl fun l A K I => (ae_ rfl fk_ ((K 1 (ag_ rfl)).trans e728) ((p1.mono (((le532.trans le620).trans le686).trans l)).at_ I) (fo I)), ?_, ob_ rfl fun l A K I => (aq_ rfl ((K 4 (ag_ rfl)).trans e730) (fo I)), ?_, ?_, ob_ rfl fun l A K I => (aq_ rfl ((K 5 (ag_ rfl)).trans e731) (fo I)), ?_, ?_, ?_, ?_, trivial⟩ ?_
     ·
      intro vs f w_ U X le A K I
      have q949 := A.v 0 rfl
      refine pl_ rfl (ay_ rfl mh_ q949 (((p1.mono (((le532.trans le620).trans le686).trans le)).at_ I).fld Riddle.fld0) (fun u711 hu711 => ?_))
      obtain ⟨z460, m460, k460, rfl⟩ := ac_ hu711
      refine ⟨_, _, rfl, lr, ?_, ?_⟩
      · exact hu711
      exact I
     ·
      intro vs f w_ U X le A K I
      obtain ⟨z461, m461, k461, hu712, q950, r289⟩ := A.sl (a := 1) 1 rfl rfl rfl
      have q951 := A.v 2 rfl
      refine pl_ rfl (ix_ Tryz.underlying22 im_ r289 hx130 q950 q951 (⟨_, _, rfl, lr, ?_, ?_⟩))
      ·
       show (af_ (Value.slice z461 m461 k461) ((i1 : Int)) (Enc.sz CodeLock)) = (af_ (vs 1) ((i1 : Int)) (Enc.sz CodeLock))
       simp only [hu712] <;> rfl
      exact I
     ·
      intro vs f w_ U X le A K I
      obtain ⟨z462, m462, k462, hu713, q952, r290⟩ := A.sl (a := 1) 1 rfl rfl rfl
      have q953 := A.v 2 rfl
      have q954 : f 73 = (af_ (vs 1) ((i1 : Int)) (Enc.sz CodeLock)) := A.v 3 rfl
      simp only [hu713] at q954
      have q954 : f 73 = (af_ (Value.slice z462 m462 k462) ((i1 : Int)) (Enc.sz CodeLock)) := q954
      refine pl_ rfl (ay_ rfl im_ q954 (r290.elem I.in_ hx130) (fun u714 hu714 => ?_))
      have e737 := CodeLock.inv hu714
      subst e737
      refine ⟨_, _, rfl, lr, ?_, ?_⟩
      · exact rfl
      exact I
     ·
      intro vs f w_ U X le A K I
      have q955 := A.v 0 rfl
      refine pl_ rfl (ay_ rfl lq_ q955 (((p1.mono (((le532.trans le620).trans le686).trans le)).at_ I).fld Riddle.fld1) (fun u715 hu715 => ?_))
      obtain ⟨z463, m463, k463, rfl⟩ := ac_ hu715
      refine ⟨_, _, rfl, lr, ?_, ?_⟩
      · exact hu715
      exact I
     ·
      intro vs f w_ U X le A K I
      obtain ⟨z464, m464, k464, hu716, q956, r291⟩ := A.sl (a := 6) 1 rfl rfl rfl
      have q957 := A.v 2 rfl
      refine pl_ rfl (ix_ Tryz.underlying23 fn_ r291 hx131 q956 q957 (⟨_, _, rfl, lr, ?_, ?_⟩))
      ·
       show (af_ (Value.slice z464 m464 k464) ((i1 : Int)) (Enc.sz (List Int))) = (af_ (vs 6) ((i1 : Int)) (Enc.sz (List Int)))
       simp only [hu716] <;> rfl
      exact I
     ·
      intro vs f w_ U X le A K I
      obtain ⟨z465, m465, k465, hu717, q958, r292⟩ := A.sl (a := 6) 1 rfl rfl rfl
      have q959 := A.v 2 rfl
      have q960 : f 78 = (af_ (vs 6) ((i1 : Int)) (Enc.sz (List Int))) := A.v 3 rfl
      simp only [hu717] at q960
      have q960 : f 78 = (af_ (Value.slice z465 m465 k465) ((i1 : Int)) (Enc.sz (List Int))) := q960
      refine pl_ rfl (ay_ rfl fn_ q960 (r292.elem I.in_ hx131) (fun u718 hu718 => ?_))
      obtain ⟨z466, m466, k466, rfl⟩ := ac_ hu718
      refine ⟨_, _, rfl, lr, ?_, ?_⟩
      · exact hu718
      exact I
     ·
      intro vs f w_ U X le A K I
      have q961 := A.v 0 rfl
      refine pl_ rfl (ay_ rfl sb_ q961 (((p1.mono (((le532.trans le620).trans le686).trans le)).at_ I).fld Riddle.fld2) (fun u719 hu719 => ?_))
      obtain ⟨z467, m467, k467, rfl⟩ := ac_ hu719
      refine ⟨_, _, rfl, lr, ?_, ?_⟩
      · exact hu719
      exact I
     ·
      intro vs f w_ U X le A K I
      obtain ⟨z468, m468, k468, hu720, q962, r293⟩ := A.sl (a := 11) 1 rfl rfl rfl
      have q963 := A.v 2 rfl
      refine pl_ rfl (ix_ Tryz.underlying24 ng_ r293 hx132 q962 q963 (⟨_, _, rfl, lr, ?_, ?_⟩))
      ·
       show (af_ (Value.slice z468 m468 k468) ((i1 : Int)) (Enc.sz (List Clue))) = (af_ (vs 11) ((i1 : Int)) (Enc.sz (List Clue)))
       simp only [hu720] <;> rfl
      exact I
     ·
      intro vs f w_ U X le A K I
      obtain ⟨z469, m469, k469, hu721, q964, r294⟩ := A.sl (a := 11) 1 rfl rfl rfl
      have q965 := A.v 2 rfl
      have q966 : f 83 = (af_ (vs 11) ((i1 : Int)) (Enc.sz (List Clue))) := A.v 3 rfl
      simp only [hu721] at q966
      have q966 : f 83 = (af_ (Value.slice z469 m469 k469) ((i1 : Int)) (Enc.sz (List Clue))) := q966
      refine pl_ rfl (ay_ rfl ng_ q966 (r294.elem I.in_ hx132) (fun u722 hu722 => ?_))
      obtain ⟨z470, m470, k470, rfl⟩ := ac_ hu722
      refine ⟨_, _, rfl, lr, ?_, ?_⟩
      · exact hu722
      exact I
     ·
      intro vs f w_ U X le A K I
      obtain ⟨z471, m471, k471, hu723, q967, r295⟩ := A.sl (a := 14) 4 rfl rfl rfl
      have q968 := A.v 5 rfl
      refine pl_ rfl (ix_ Tryz.underlying63 lk_ r295 hx133 q967 q968 (⟨_, _, rfl, lr, ?_, ?_⟩))
      ·
       show (af_ (Value.slice z471 m471 k471) (s5) (Enc.sz Clue)) = (af_ (vs 14) (s5) (Enc.sz Clue))
       simp only [hu723] <;> rfl
      exact I
     ·
      intro vs f w_ U X le A K I
      obtain ⟨z472, m472, k472, hu724, q969, r296⟩ := A.sl (a := 14) 4 rfl rfl rfl
      have q970 := A.v 5 rfl
      have q971 : f 86 = (af_ (vs 14) (s5) (Enc.sz Clue)) := A.v 6 rfl
      simp only [hu724] at q971
      have q971 : f 86 = (af_ (Value.slice z472 m472 k472) (s5) (Enc.sz Clue)) := q971
      refine pl_ rfl (ay_ rfl lk_ q971 (r296.elem I.in_ hx133) (fun u725 hu725 => ?_))
      obtain ⟨c35, e748, r297⟩ := Clue.inv hu725
      subst e748
      obtain ⟨z473, m473, k473, rfl⟩ := ac_ r297
      refine ⟨_, _, rfl, lr, ?_, ?_⟩
      · exact (Clue.rv (s := x133) r297)
      exact I
     ·
      intro vs f w_ U X le A K I
      obtain ⟨z474, m474, k474, hu726, q973, r298⟩ := A.sl (a := 9) 9 rfl rfl rfl
      have q974 : f 87 = vs 17 := (A.at_ 17 rfl _ rfl).1 _ rfl
      have r299 : RV U (vs 17) x133 := (A.at_ 17 rfl _ rfl).2
      obtain ⟨u727, hu727⟩ : ∃ u, vs 17 = u := ⟨_, rfl⟩
      rw [hu727] at q974 r299
      obtain ⟨c36, e751, r300⟩ := Clue.inv r299
      subst e751
      obtain ⟨z475, m475, k475, rfl⟩ := ac_ r300
      refine pl_ rfl (cv_ ca69 rfl I (fun Fr_ hF_ => pn_ hF_ (CodeLock.rv (s := x130)) r298 (Clue.rv (s := x133) r300) hx134) (cf_ (A.v 4 rfl) q973 q974) (fun w762 I789 => (fo I789)))
     ·
      intro vs f w_ U X le A K I
      refine pl_ rfl (bx_ rfl (A.v 18 rfl) (fo I))
     intro vs688 f w764 S707 ed59 le707 hF32 hK688 hI693
     have e753 : f 1 = (pt_ g1) := (hK688 1 (al_ rfl)).trans e728
     have e754 : f 3 = (vi ((a0.Locks.length : Int))) := (hK688 3 (al_ rfl)).trans e729
     have e755 : f 4 = (vi ((i1 : Int))) := (hK688 4 (al_ rfl)).trans e730
     have e756 : f 5 = (vi s5) := (hK688 5 (al_ rfl)).trans e731
     have I791 : Inv w764 S707 (Fr) := hI693
     have q976 := hF32.v 19 rfl
     rcases ifs h14 with ⟨hc56, h14⟩ | ⟨hc56, h14⟩
     ·
      refine ah_ q976 hc56 (ab_ (aa_ (wa_ (v := (vi 70)) rfl rfl (ad_ (ak_ ?_)))))
      obtain rfl := sj h14
      obtain rfl := (hout5 _ rfl)
      have h15 := h11
      obtain rfl := sj h15
      obtain rfl := (hout4 _ rfl)
      have h12 := h
      obtain rfl := sj h12
      exact ⟨(ed59.trans ed58), (vi 70), (bo_ rfl rfl), _, [], ((((le1.trans le532).trans le620).trans le686).trans le707), I791, rfl, rfl⟩
     refine ai_ q976 hc56 (ar_ (aa_ (wm_ rfl e756 (wo_ (bl_ rfl rfl rfl (wa_ (v := (vi (w64 (s5 + 1)))) rfl rfl (ad_ ?_)))))))
     obtain rfl := sj h14
     exact ⟨_, rfl, _, (le686.trans le707), I791, e753, e754, e755, rfl, (ed59.trans ed58)⟩
    refine ai_ rfl hc55 (bk_ ?_)
    obtain rfl := sj h14
    obtain rfl := (hout5 _ rfl)
    exact ⟨_, rfl, _, le686, I768, e728, e729, e730, e731, ed58⟩
   rintro f w ⟨out5, rfl, S708, le708, I792, e757, e758, e759, e760, ed60⟩
   have h11 := eh_ h11
   refine aa_ (wm_ rfl e759 (wo_ (bl_ rfl rfl rfl (wa_ (v := (vi (w64 ((i1 : Int) + 1)))) rfl rfl (ad_ ?_)))))
   obtain rfl := sj h11
   exact ⟨_, rfl, _, ((le532.trans le620).trans le708), I792, e757, e758, (bh_ hlt1 hk1), ed60⟩
  rintro s6 f w hs1 hI694
  obtain ⟨S709, le709, I793, e761, e762, e763, ed61⟩ := hI694
  refine ab_ (ab_ (aa_ (wm_ rfl e763 (wm_ rfl e762 (wo_ (be_ rfl rfl rfl (ad_ (ai_ rfl (ep_ _) (bk_ ?_)))))))))
  exact ⟨s6, hs1, _, le709, I793, e761, e762, ed61⟩
 rintro f w ⟨out4, rfl, S710, le710, I794, e764, e765, ed62⟩
 have h := eh_ h
 refine ab_ (ab_ (aa_ (wa_ (v := (vi 0)) rfl rfl (ad_ ?_))))
 have hk2 : a0.Ties.length ≤ 9223372036854775807 := (cx_ hu7)
 obtain ⟨o12, hrun6, h⟩ := bnd h
 refine bp_ (fun f w => ∃ out6, o12 = Sum.inl out6 ∧ ∃ (S_ : PH), S710.Le S_ ∧ Inv w S_ (Fr) ∧ f 1 = (pt_ g1) ∧ f 3 = (vi ((a0.Locks.length : Int))) ∧ f.ds = []) ?_ ?_
 ·
  refine au_ ?_
  refine ex_ (I := fun (i2 : Nat) (s7 : Unit) (f : Frm) (w : World) => ∃ (S_ : PH), S710.Le S_ ∧ Inv w S_ (Fr) ∧ f 1 = (pt_ g1) ∧ f 3 = (vi ((a0.Locks.length : Int))) ∧ f 6 = (vi (i2 : Int)) ∧ f.ds = []) hrun6 ⟨_, lr, I794, e764, e765, rfl, ed62⟩ ?_ ?_
  ·
   rintro i2 s7 f w o11 hlt2 hI1145 h19 hout6
   obtain ⟨S1163, le1163, I1305, e912, e913, e914, ed75⟩ := hI1145
   refine ab_ (ab_ (aa_ (wm_ rfl e914 (wo_ (ae_ rfl nv_ e912 ((p1.mono (le710.trans le1163)).at_ I1305) (wo_ (ld_ sh25 (((p1.mono (le710.trans le1163)).at_ I1305).fld Riddle.fld3) rfl (fun u875 hu875 => ?_))))))))
   obtain ⟨z584, m584, k584, rfl⟩ := ac_ hu875
   refine wo_ (az_ rfl Tryz.underlying25 rfl hu875 (wo_ (be_ rfl rfl rfl (ad_ (ah_ rfl (eo_ hlt2) (ar_ (ab_ (au_ (ab_ (aa_ (wo_ (ae_ rfl nv_ e912 ((p1.mono (le710.trans le1163)).at_ I1305) (wo_ (ld_ sh25 (((p1.mono (le710.trans le1163)).at_ I1305).fld Riddle.fld3) rfl (fun u876 hu876 => ?_)))))))))))))))
   obtain ⟨z585, m585, k585, rfl⟩ := ac_ hu876
   refine wm_ rfl e914 ?_
   obtain ⟨x174, hx174, h19⟩ := bnd h19
   refine wo_ (ix_ Tryz.underlying25 sh75 hu876 hx174 rfl rfl (wo_ (ld_ sh75 (hu876.elem I1305.in_ hx174) rfl (fun u877 hu877 => ?_))))
   have e918 := Tie.inv hu877
   subst e918
   refine wo_ (bu_ (z := (.agg #[(vi 0), (vi 0), (vi 0), (vi 0)])) rfl I1305 zo75 (fun g5 w1272 (I1306 : Inv w1272 S1163 (am_ g5 75 #[(vi 0), (vi 0), (vi 0), (vi 0)] :: Fr)) => (wo_ (bb_ (v := (.agg #[(vi x174.LockA), (vi x174.WheelA), (vi x174.LockB), (vi x174.WheelB)])) (cs := #[(vi 0), (vi 0), (vi 0), (vi 0)]) sh75 I1306 rfl rfl rfl nb rfl (fun w1273 (I1307 : Inv w1273 S1163 (am_ g5 75 #[(vi x174.LockA), (vi x174.WheelA), (vi x174.LockB), (vi x174.WheelB)] :: Fr)) => (ad_ (ab_ (ab_ (aa_ (wo_ (av_ (v := (pt_ g5)) rfl ja_ rfl rfl (wo_ (bd_ (c := (vi x174.LockA)) rfl sh3 (I1307.nth 0 rfl) rfl rfl (wm_ rfl e913 (wo_ (eb_ rfl rfl rfl ?_))))))))))))))))
   obtain ⟨x177, hx177, h19⟩ := bnd h19
   refine wo_ (cv_ ca55 rfl I1307 (fun Fr_ hF_ => ch_ hF_  hx177) (cf_ rfl rfl rfl) (fun w1276 I1310 => (wo_ (bx_ rfl rfl (wm_ (v := (vb (!x177))) rfl rfl ?_)))))
   rcases ifs h19 with ⟨hc87, h19⟩ | ⟨hc87, h19⟩
   ·
    refine ws_ rfl rfl hc87 (ws_ rfl rfl hc87 (ws_ rfl rfl hc87 (ws_ rfl rfl hc87 (ws_ rfl rfl hc87 (ws_ rfl rfl hc87 (wo_ (aw_ (a := (vb true)) rfl rfl hc87 rfl (wm_ (v := (vb true)) rfl rfl (ws_ rfl rfl rfl (ws_ rfl rfl rfl (ws_ rfl rfl rfl (ws_ rfl rfl rfl (ws_ rfl rfl rfl (wo_ (aw_ (a := (vb true)) rfl rfl rfl rfl (ad_ (ah_ rfl rfl (ab_ (aa_ (wa_ (v := (vi 70)) rfl rfl (ad_ (ak_ ?_))))))))))))))))))))))
    obtain rfl := sj h19
    obtain rfl := (hout6 _ rfl)
    have h20 := h
    obtain rfl := sj h20
    exact ⟨ed75, (vi 70), (bo_ rfl rfl), _, [], ((le1.trans le710).trans le1163), (I1310).drop, rfl, rfl⟩
   refine wk_ rfl rfl hc87 (av_ (v := (pt_ g5)) rfl ke_ rfl rfl (wk_ rfl rfl hc87 (bd_ (c := (vi x174.LockB)) rfl sh3 (I1310.nth 0 rfl) rfl rfl (wk_ rfl rfl hc87 (aq_ rfl e913 (wk_ rfl rfl hc87 (eb_ rfl rfl rfl ?_)))))))
   obtain ⟨x178, hx178, h19⟩ := bnd h19
   refine wk_ rfl rfl hc87 (cv_ ca55 rfl I1310 (fun Fr_ hF_ => ch_ hF_  hx178) (cf_ rfl rfl rfl) (fun w1277 I1311 => (wk_ rfl rfl hc87 (bx_ rfl rfl (wo_ (ap_ (b := (vb (!x178))) rfl rfl hc87 rfl (wm_ (v := (vb (!x178))) rfl rfl ?_)))))))
   rcases ifs h19 with ⟨hc88, h19⟩ | ⟨hc88, h19⟩
   ·
    refine ws_ rfl rfl hc88 (ws_ rfl rfl hc88 (ws_ rfl rfl hc88 (ws_ rfl rfl hc88 (ws_ rfl rfl hc88 (wo_ (aw_ (a := (vb true)) rfl rfl hc88 rfl (ad_ (ah_ rfl rfl (ab_ (aa_ (wa_ (v := (vi 70)) rfl rfl (ad_ (ak_ ?_)))))))))))))
    obtain rfl := sj h19
    obtain rfl := (hout6 _ rfl)
    have h20 := h
    obtain rfl := sj h20
    exact ⟨ed75, (vi 70), (bo_ rfl rfl), _, [], ((le1.trans le710).trans le1163), (I1311).drop, rfl, rfl⟩
   refine wk_ rfl rfl hc88 (av_ (v := (pt_ g5)) rfl ja_ rfl rfl (wk_ rfl rfl hc88 (bd_ (c := (vi x174.LockA)) rfl sh3 (I1311.nth 0 rfl) rfl rfl (wk_ rfl rfl hc88 (av_ (v := (pt_ g5)) rfl ke_ rfl rfl (wk_ rfl rfl hc88 (bd_ (c := (vi x174.LockB)) rfl sh3 (I1311.nth 0 rfl) rfl rfl (wk_ rfl rfl hc88 (bm_ rfl rfl rfl (wo_ (ap_ (b := (vb (x174.LockA == x174.LockB))) rfl rfl hc88 rfl (ad_ ?_))))))))))))
   rcases ifs h19 with ⟨hc89, h19⟩ | ⟨hc89, h19⟩
   ·
    refine ah_ rfl hc89 (ab_ (aa_ (wa_ (v := (vi 70)) rfl rfl (ad_ (ak_ ?_)))))
    obtain rfl := sj h19
    obtain rfl := (hout6 _ rfl)
    have h20 := h
    obtain rfl := sj h20
    exact ⟨ed75, (vi 70), (bo_ rfl rfl), _, [], ((le1.trans le710).trans le1163), (I1311).drop, rfl, rfl⟩
   refine ai_ rfl hc89 (ar_ (ab_ ?_))
   obtain ⟨x179, hx179, h19⟩ := bnd h19
   obtain ⟨x180, hx180, h19⟩ := bnd h19
   rcases ifs h19 with ⟨hc90, h19⟩ | ⟨hc90, h19⟩
   ·
    refine bj_ (sps := [spV 123 [] 0 (.pointer (some ⟨g5, 1, none⟩)), ⟨some 124, [0], [1], fun vs_ T_ => fr0 vs_ 0 = (vi x174.WheelA), [0], [], [], fun _ h_ => h_⟩, spV 125 [] 2 (an_ (pt_ g1) 0), spR 126 [2] 3 (a0.Locks), spV 127 [] 4 (pt_ g5), ⟨some 128, [4], [5], fun vs_ T_ => fr0 vs_ 0 = (vi x174.LockA), [0], [], [], fun _ h_ => h_⟩, spW 129 [2, 3, 4, 5] [6, 3] fun vs_ => (af_ (fr0 vs_ 1) (x174.LockA) (Enc.sz CodeLock)), spW 130 [2, 3, 4, 5, 6] [7, 3] fun vs_ => (an_ (af_ (fr0 vs_ 1) (x174.LockA) (Enc.sz CodeLock)) 0), spV 131 [2, 3, 4, 5, 6, 7] 8 (vi x179.Wheels), spV 132 [2, 3, 4, 5, 6, 7, 8] 9 (vi (w64 (x179.Wheels - 1))), spV 133 (lrg 10) 10 (vb x180), spV 134 (lrg 11) 11 (vb (!x180)), spV 135 (lrg 12) 12 (vb (!x180)), spV 136 (lrg 13) 13 undef, spV 137 (lrg 14) 14 undef, spV 138 (lrg 13) 15 undef, spV 139 (lrg 13 ++ [15]) 16 undef, spV 140 (lrg 13) 17 undef, spV 141 (lrg 13 ++ [17]) 18 undef, spV 142 (lrg 13 ++ [15, 16, 17, 18]) 19 undef, spV 143 (lrg 13 ++ [15, 16, 17, 18, 19]) 20 undef, spV 144 (lrg 13 ++ [15, 16, 17, 18, 19, 20]) 21 undef, spV 145 (lrg 13 ++ [15, 16, 17, 18, 19, 20, 21]) 22 undef, spV 146 (lrg 23) 23 undef, spV 147 (lrg 24) 24 undef, spV 148 (lrg 25) 25 (vb true), spV 149 (lrg 26) 26 (vb true), spV 150 (lrg 27) 27 undef, spV 151 (lrg 28) 28 undef, spV 152 (lrg 27) 29 undef, spV 153 (lrg 27 ++ [29]) 30 undef, spV 154 (lrg 31) 31 undef, spV 155 (lrg 32) 32 undef, spV 156 (lrg 27) 33 undef, spV 157 (lrg 27 ++ [33]) 34 undef, spV 158 (lrg 35) 35 undef, spV 159 (lrg 36) 36 undef, spV 160 (lrg 27) 37 undef, spV 161 (lrg 27 ++ [37]) 38 undef, spV 162 (lrg 27) 39 undef, spV 163 (lrg 27 ++ [39]) 40 undef, spV 164 (lrg 27 ++ [37, 38, 39, 40]) 41 undef, spV 165 (lrg 27 ++ [37, 38, 39, 40, 41]) 42 undef, spV 166 (lrg 27) 43 undef, spV 167 (lrg 27 ++ [43]) 44 undef, spV 168 (lrg 27 ++ [37, 38, 39, 40, 41, 42, 43, 44]) 45 undef, spV 169 (lrg 27 ++ [37, 38, 39, 40, 41, 42, 43, 44, 45]) 46 undef, spV 170 (lrg 47) 47 undef, spV 171 (lrg 48) 48 (vb true)]) (tks := [⟨none, none, [], fun vs_ => am_ g5 75 #[(vi x174.LockA), (vi x174.WheelA), (vi x174.LockB), (vi x174.WheelB)]⟩]) (O := Fr) rfl (by kernel_rfl) I1311 ⟨ob_ rfl fun l A K I => (av_ (v := (pt_ g5)) rfl rt_ (K 7 (ag_ rfl)) rfl (fo I)), ?_, ob_ rfl fun l A K I => (ae_ rfl co_ ((K 1 (ag_ rfl)).trans e912) ((p1.mono ((le710.trans le1163).trans l)).at_ I) (fo I)), ?_, ob_ rfl fun l A K I => (av_ (v := (pt_ g5)) rfl ja_ (K 7 (ag_ rfl)) rfl (fo I)), ?_, ?_, ?_, ?_, ob_ rfl fun l A K I => (eb_ rfl (A.v 6 rfl) rfl (fo I)), fun vs f w U X l A K I => pl_ rfl (cv_ ca55 rfl I (fun Fr_ hF_ => ch_ hF_  hx180) (cf_ (A.v 1 rfl) rfl (A.v 9 rfl)) (fun w1291 I1325 => (fo I1325))), ob_ rfl fun l A K I => (bx_ rfl (A.v 10 rfl) (fo I)), ob_ rfl fun l A K I => (aq_ rfl (A.v 11 rfl) (fo I)), oc_ fun l A K I => sk_ rfl (A.v 12 rfl) hc90 (fo I), oc_ fun l A K I => sk_ rfl (A.v 12 rfl) hc90 (fo I), oc_ fun l A K I => sk_ rfl (A.v 12 rfl) hc90 (fo I), oc_ fun l A K I => sk_ rfl (A.v 12 rfl) hc90 (fo I), oc_ fun l A K I => sk_ rfl (A.v 12 rfl) hc90 (fo I), oc_ fun l A K I => sk_ rfl (A.v 12 rfl) hc90 (fo I), oc_ fun l A K I => sk_ rfl (A.v 12 rfl) hc90 (fo I), oc_ fun l A K I => sk_ rfl (A.v 12 rfl) hc90 (fo I), oc_ fun l A K I => sk_ rfl (A.v 12 rfl) hc90 (fo I), oc_ fun l A K I => sk_ rfl (A.v 12 rfl) hc90 (fo I), oc_ fun l A K I => sk_ rfl (A.v 12 rfl) hc90 (fo I), oc_ fun l A K I => sk_ rfl (A.v 12 rfl) hc90 (fo I), ob_ rfl fun l A K I => (aw_ (a := (vb true)) rfl (A.v 12 rfl) hc90 rfl (fo I)), ob_ rfl fun l A K I => (aq_ rfl (A.v 25 rfl) (fo I)), oc_ fun l A K I => sk_ rfl (A.v 26 rfl) rfl (fo I), oc_ fun l A K I => sk_ rfl (A.v 26 rfl) rfl (fo I), oc_ fun l A K I => sk_ rfl (A.v 26 rfl) rfl (fo I), oc_ fun l A K I => sk_ rfl (A.v 26 rfl) rfl (fo I), oc_ fun l A K I => sk_ rfl (A.v 26 rfl) rfl (fo I), oc_ fun l A K I => sk_ rfl (A.v 26 rfl) rfl (fo I), oc_ fun l A K I => sk_ rfl (A.v 26 rfl) rfl (fo I), oc_ fun l A K I => sk_ rfl (A.v 26 rfl) rfl (fo I), oc_ fun l A K I => sk_ rfl (A.v 26 rfl) rfl (fo I), oc_ fun l A K I => sk_ rfl (A.v 26 rfl) rfl (fo I), oc_ fun l A K I => sk_ rfl (A.v 26 rfl) rfl (fo I), oc_ fun l A K I => sk_ rfl (A.v 26 rfl) rfl (fo I), oc_ fun l A K I => sk_ rfl (A.v 26 rfl) rfl (fo I), oc_ fun l A K I => sk_ rfl (A.v 26 rfl) rfl (fo I), oc_ fun l A K I => sk_ rfl (A.v 26 rfl) rfl (fo I), oc_ fun l A K I => sk_ rfl (A.v 26 rfl) rfl (fo I), oc_ fun l A K I => sk_ rfl (A.v 26 rfl) rfl (fo I), oc_ fun l A K I => sk_ rfl (A.v 26 rfl) rfl (fo I), oc_ fun l A K I => sk_ rfl (A.v 26 rfl) rfl (fo I), oc_ fun l A K I => sk_ rfl (A.v 26 rfl) rfl (fo I), oc_ fun l A K I => sk_ rfl (A.v 26 rfl) rfl (fo I), ?_, trivial⟩ ?_
    ·
     intro vs f w_ U X le A K I
     have I1315 : Inv w_ U (am_ g5 75 #[(vi x174.LockA), (vi x174.WheelA), (vi x174.LockB), (vi x174.WheelB)] :: X) := I
     refine pl_ rfl (bd_ (c := (vi x174.WheelA)) rfl sh3 (I1315.nth 0 rfl) (A.v 0 rfl) rfl (fo I1315))
    ·
     intro vs f w_ U X le A K I
     have q1815 := A.v 0 rfl
     refine pl_ rfl (ay_ rfl mh_ q1815 (((p1.mono ((le710.trans le1163).trans le)).at_ I).fld Riddle.fld0) (fun u880 hu880 => ?_))
     obtain ⟨z586, m586, k586, rfl⟩ := ac_ hu880
     refine ⟨_, _, rfl, lr, ?_, ?_⟩
     · exact hu880
     exact I
    ·
     intro vs f w_ U X le A K I
     have I1319 : Inv w_ U (am_ g5 75 #[(vi x174.LockA), (vi x174.WheelA), (vi x174.LockB), (vi x174.WheelB)] :: X) := I
     refine pl_ rfl (bd_ (c := (vi x174.LockA)) rfl sh3 (I1319.nth 0 rfl) (A.v 0 rfl) rfl (fo I1319))
    ·
     intro vs f w_ U X le A K I
     obtain ⟨z587, m587, k587, hu881, q1817, r370⟩ := A.sl (a := 3) 1 rfl rfl rfl
     have q1818 := A.v 3 rfl
     refine pl_ rfl (ix_ Tryz.underlying22 im_ r370 hx179 q1817 q1818 (⟨_, _, rfl, lr, ?_, ?_⟩))
     ·
      show (af_ (Value.slice z587 m587 k587) (x174.LockA) (Enc.sz CodeLock)) = (af_ (vs 3) (x174.LockA) (Enc.sz CodeLock))
      simp only [hu881] <;> rfl
     exact I
    ·
     intro vs f w_ U X le A K I
     obtain ⟨z588, m588, k588, hu882, q1819, r371⟩ := A.sl (a := 3) 1 rfl rfl rfl
     have q1820 := A.v 3 rfl
     have q1821 : f 129 = (af_ (vs 3) (x174.LockA) (Enc.sz CodeLock)) := A.v 4 rfl
     simp only [hu882] at q1821
     have q1821 : f 129 = (af_ (Value.slice z588 m588 k588) (x174.LockA) (Enc.sz CodeLock)) := q1821
     refine pl_ rfl (ae_ rfl hh_ q1821 (r371.elem I.in_ hx179) (⟨_, _, rfl, lr, ?_, ?_⟩))
     ·
      show (an_ (af_ (Value.slice z588 m588 k588) (x174.LockA) (Enc.sz CodeLock)) 0) = (an_ (af_ (vs 3) (x174.LockA) (Enc.sz CodeLock)) 0)
      simp only [hu882] <;> rfl
     exact I
    ·
     intro vs f w_ U X le A K I
     obtain ⟨z589, m589, k589, hu883, q1822, r372⟩ := A.sl (a := 3) 1 rfl rfl rfl
     have q1824 : f 129 = (af_ (vs 3) (x174.LockA) (Enc.sz CodeLock)) := A.v 4 rfl
     simp only [hu883] at q1824
     have q1824 : f 129 = (af_ (Value.slice z589 m589 k589) (x174.LockA) (Enc.sz CodeLock)) := q1824
     have q1825 : f 130 = (an_ (af_ (vs 3) (x174.LockA) (Enc.sz CodeLock)) 0) := A.v 5 rfl
     simp only [hu883] at q1825
     have q1825 : f 130 = (an_ (af_ (Value.slice z589 m589 k589) (x174.LockA) (Enc.sz CodeLock)) 0) := q1825
     refine pl_ rfl (aj_ rfl sh3 q1825 ((r372.elem I.in_ hx179).fld CodeLock.fld0) (fo I))
    ·
     intro vs f w_ U X le A K I
     refine pl_ rfl (aw_ (a := (vb true)) rfl (A.v 26 rfl) rfl rfl (fo I))
    intro vs1188 f w1330 S1213 ed76 le1213 hF42 hK1188 hI1195
    have e923 : f 1 = (pt_ g1) := (hK1188 1 (al_ rfl)).trans e912
    have e924 : f 3 = (vi ((a0.Locks.length : Int))) := (hK1188 3 (al_ rfl)).trans e913
    have e925 : f 6 = (vi ((i2 : Int))) := (hK1188 6 (al_ rfl)).trans e914
    have I1364 : Inv w1330 S1213 (am_ g5 75 #[(vi x174.LockA), (vi x174.WheelA), (vi x174.LockB), (vi x174.WheelB)] :: Fr) := hI1195
    have q1900 := hF42.v 48 rfl
    refine ah_ q1900 rfl (ab_ (aa_ (wa_ (v := (vi 70)) rfl rfl (ad_ (ak_ ?_)))))
    obtain rfl := sj h19
    obtain rfl := (hout6 _ rfl)
    have h20 := h
    obtain rfl := sj h20
    exact ⟨(ed76.trans ed75), (vi 70), (bo_ rfl rfl), _, [], (((le1.trans le710).trans le1163).trans le1213), (I1364).drop, rfl, rfl⟩
   obtain ⟨x181, hx181, h19⟩ := bnd h19
   obtain ⟨x182, hx182, h19⟩ := bnd h19
   rcases ifs h19 with ⟨hc91, h19⟩ | ⟨hc91, h19⟩
   ·
    refine bj_ (sps := [spV 123 [] 0 (.pointer (some ⟨g5, 1, none⟩)), ⟨some 124, [0], [1], fun vs_ T_ => fr0 vs_ 0 = (vi x174.WheelA), [0], [], [], fun _ h_ => h_⟩, spV 125 [] 2 (an_ (pt_ g1) 0), spR 126 [2] 3 (a0.Locks), spV 127 [] 4 (pt_ g5), ⟨some 128, [4], [5], fun vs_ T_ => fr0 vs_ 0 = (vi x174.LockA), [0], [], [], fun _ h_ => h_⟩, spW 129 [2, 3, 4, 5] [6, 3] fun vs_ => (af_ (fr0 vs_ 1) (x174.LockA) (Enc.sz CodeLock)), spW 130 [2, 3, 4, 5, 6] [7, 3] fun vs_ => (an_ (af_ (fr0 vs_ 1) (x174.LockA) (Enc.sz CodeLock)) 0), spV 131 [2, 3, 4, 5, 6, 7] 8 (vi x179.Wheels), spV 132 [2, 3, 4, 5, 6, 7, 8] 9 (vi (w64 (x179.Wheels - 1))), spV 133 (lrg 10) 10 (vb x180), spV 134 (lrg 11) 11 (vb (!x180)), spV 135 (lrg 12) 12 (vb (!x180)), spV 136 (lrg 13) 13 (.pointer (some ⟨g5, 3, none⟩)), ⟨some 137, (lrg 14), [14], fun vs_ T_ => fr0 vs_ 0 = (vi x174.WheelB), [0], [], [], fun _ h_ => h_⟩, spV 138 (lrg 13) 15 (an_ (pt_ g1) 0), spR 139 (lrg 13 ++ [15]) 16 (a0.Locks), spV 140 (lrg 13) 17 (.pointer (some ⟨g5, 2, none⟩)), ⟨some 141, (lrg 13 ++ [17]), [18], fun vs_ T_ => fr0 vs_ 0 = (vi x174.LockB), [0], [], [], fun _ h_ => h_⟩, spW 142 (lrg 13 ++ [15, 16, 17, 18]) [19, 16] fun vs_ => (af_ (fr0 vs_ 1) (x174.LockB) (Enc.sz CodeLock)), spW 143 (lrg 13 ++ [15, 16, 17, 18, 19]) [20, 16] fun vs_ => (an_ (af_ (fr0 vs_ 1) (x174.LockB) (Enc.sz CodeLock)) 0), spV 144 (lrg 13 ++ [15, 16, 17, 18, 19, 20]) 21 (vi x181.Wheels), spV 145 (lrg 13 ++ [15, 16, 17, 18, 19, 20, 21]) 22 (vi (w64 (x181.Wheels - 1))), spV 146 (lrg 23) 23 (vb x182), spV 147 (lrg 24) 24 (vb (!x182)), spV 148 (lrg 25) 25 (vb (!x182)), spV 149 (lrg 26) 26 (vb (!x182)), spV 150 (lrg 27) 27 undef, spV 151 (lrg 28) 28 undef, spV 152 (lrg 27) 29 undef, spV 153 (lrg 27 ++ [29]) 30 undef, spV 154 (lrg 31) 31 undef, spV 155 (lrg 32) 32 undef, spV 156 (lrg 27) 33 undef, spV 157 (lrg 27 ++ [33]) 34 undef, spV 158 (lrg 35) 35 undef, spV 159 (lrg 36) 36 undef, spV 160 (lrg 27) 37 undef, spV 161 (lrg 27 ++ [37]) 38 undef, spV 162 (lrg 27) 39 undef, spV 163 (lrg 27 ++ [39]) 40 undef, spV 164 (lrg 27 ++ [37, 38, 39, 40]) 41 undef, spV 165 (lrg 27 ++ [37, 38, 39, 40, 41]) 42 undef, spV 166 (lrg 27) 43 undef, spV 167 (lrg 27 ++ [43]) 44 undef, spV 168 (lrg 27 ++ [37, 38, 39, 40, 41, 42, 43, 44]) 45 undef, spV 169 (lrg 27 ++ [37, 38, 39, 40, 41, 42, 43, 44, 45]) 46 undef, spV 170 (lrg 47) 47 undef, spV 171 (lrg 48) 48 (vb true)]) (tks := [⟨none, none, [], fun vs_ => am_ g5 75 #[(vi x174.LockA), (vi x174.WheelA), (vi x174.LockB), (vi x174.WheelB)]⟩]) (O := Fr) rfl (by kernel_rfl) I1311 ⟨ob_ rfl fun l A K I => (av_ (v := (pt_ g5)) rfl rt_ (K 7 (ag_ rfl)) rfl (fo I)), ?_, ob_ rfl fun l A K I => (ae_ rfl co_ ((K 1 (ag_ rfl)).trans e912) ((p1.mono ((le710.trans le1163).trans l)).at_ I) (fo I)), ?_, ob_ rfl fun l A K I => (av_ (v := (pt_ g5)) rfl ja_ (K 7 (ag_ rfl)) rfl (fo I)), ?_, ?_, ?_, ?_, ob_ rfl fun l A K I => (eb_ rfl (A.v 6 rfl) rfl (fo I)), fun vs f w U X l A K I => pl_ rfl (cv_ ca55 rfl I (fun Fr_ hF_ => ch_ hF_  hx180) (cf_ (A.v 1 rfl) rfl (A.v 9 rfl)) (fun w1346 I1380 => (fo I1380))), ob_ rfl fun l A K I => (bx_ rfl (A.v 10 rfl) (fo I)), ob_ rfl fun l A K I => (aq_ rfl (A.v 11 rfl) (fo I)), oc_ fun l A K I => tk_ rfl (A.v 12 rfl) hc90 (av_ (v := (pt_ g5)) rfl vn_ (K 7 (ag_ rfl)) rfl (fo I)), ?_, oc_ fun l A K I => tk_ rfl (A.v 12 rfl) hc90 (ae_ rfl co_ ((K 1 (ag_ rfl)).trans e912) ((p1.mono ((le710.trans le1163).trans l)).at_ I) (fo I)), ?_, oc_ fun l A K I => tk_ rfl (A.v 12 rfl) hc90 (av_ (v := (pt_ g5)) rfl ke_ (K 7 (ag_ rfl)) rfl (fo I)), ?_, ?_, ?_, ?_, oc_ fun l A K I => tk_ rfl (A.v 12 rfl) hc90 (eb_ rfl (A.v 19 rfl) rfl (fo I)), fun vs f w U X l A K I => tk_ rfl (A.v 12 rfl) hc90 (cv_ ca55 rfl I (fun Fr_ hF_ => ch_ hF_  hx182) (cf_ (A.v 14 rfl) rfl (A.v 22 rfl)) (fun w1360 I1394 => (fo I1394))), oc_ fun l A K I => tk_ rfl (A.v 12 rfl) hc90 (bx_ rfl (A.v 23 rfl) (fo I)), ob_ rfl fun l A K I => (ap_ (b := (vb (!x182))) rfl (A.v 12 rfl) hc90 (A.v 24 rfl) (fo I)), ob_ rfl fun l A K I => (aq_ rfl (A.v 25 rfl) (fo I)), oc_ fun l A K I => sk_ rfl (A.v 26 rfl) hc91 (fo I), oc_ fun l A K I => sk_ rfl (A.v 26 rfl) hc91 (fo I), oc_ fun l A K I => sk_ rfl (A.v 26 rfl) hc91 (fo I), oc_ fun l A K I => sk_ rfl (A.v 26 rfl) hc91 (fo I), oc_ fun l A K I => sk_ rfl (A.v 26 rfl) hc91 (fo I), oc_ fun l A K I => sk_ rfl (A.v 26 rfl) hc91 (fo I), oc_ fun l A K I => sk_ rfl (A.v 26 rfl) hc91 (fo I), oc_ fun l A K I => sk_ rfl (A.v 26 rfl) hc91 (fo I), oc_ fun l A K I => sk_ rfl (A.v 26 rfl) hc91 (fo I), oc_ fun l A K I => sk_ rfl (A.v 26 rfl) hc91 (fo I), oc_ fun l A K I => sk_ rfl (A.v 26 rfl) hc91 (fo I), oc_ fun l A K I => sk_ rfl (A.v 26 rfl) hc91 (fo I), oc_ fun l A K I => sk_ rfl (A.v 26 rfl) hc91 (fo I), oc_ fun l A K I => sk_ rfl (A.v 26 rfl) hc91 (fo I), oc_ fun l A K I => sk_ rfl (A.v 26 rfl) hc91 (fo I), oc_ fun l A K I => sk_ rfl (A.v 26 rfl) hc91 (fo I), oc_ fun l A K I => sk_ rfl (A.v 26 rfl) hc91 (fo I), oc_ fun l A K I => sk_ rfl (A.v 26 rfl) hc91 (fo I), oc_ fun l A K I => sk_ rfl (A.v 26 rfl) hc91 (fo I), oc_ fun l A K I => sk_ rfl (A.v 26 rfl) hc91 (fo I), oc_ fun l A K I => sk_ rfl (A.v 26 rfl) hc91 (fo I), ?_, trivial⟩ ?_
    ·
     intro vs f w_ U X le A K I
     have I1370 : Inv w_ U (am_ g5 75 #[(vi x174.LockA), (vi x174.WheelA), (vi x174.LockB), (vi x174.WheelB)] :: X) := I
     refine pl_ rfl (bd_ (c := (vi x174.WheelA)) rfl sh3 (I1370.nth 0 rfl) (A.v 0 rfl) rfl (fo I1370))
    ·
     intro vs f w_ U X le A K I
     have q1902 := A.v 0 rfl
     refine pl_ rfl (ay_ rfl mh_ q1902 (((p1.mono ((le710.trans le1163).trans le)).at_ I).fld Riddle.fld0) (fun u888 hu888 => ?_))
     obtain ⟨z590, m590, k590, rfl⟩ := ac_ hu888
     refine ⟨_, _, rfl, lr, ?_, ?_⟩
     · exact hu888
     exact I
    ·
     intro vs f w_ U X le A K I
     have I1374 : Inv w_ U (am_ g5 75 #[(vi x174.LockA), (vi x174.WheelA), (vi x174.LockB), (vi x174.WheelB)] :: X) := I
     refine pl_ rfl (bd_ (c := (vi x174.LockA)) rfl sh3 (I1374.nth 0 rfl) (A.v 0 rfl) rfl (fo I1374))
    ·
     intro vs f w_ U X le A K I
     obtain ⟨z591, m591, k591, hu889, q1904, r373⟩ := A.sl (a := 3) 1 rfl rfl rfl
     have q1905 := A.v 3 rfl
     refine pl_ rfl (ix_ Tryz.underlying22 im_ r373 hx179 q1904 q1905 (⟨_, _, rfl, lr, ?_, ?_⟩))
     ·
      show (af_ (Value.slice z591 m591 k591) (x174.LockA) (Enc.sz CodeLock)) = (af_ (vs 3) (x174.LockA) (Enc.sz CodeLock))
      simp only [hu889] <;> rfl
     exact I
    ·
     intro vs f w_ U X le A K I
     obtain ⟨z592, m592, k592, hu890, q1906, r374⟩ := A.sl (a := 3) 1 rfl rfl rfl
     have q1907 := A.v 3 rfl
     have q1908 : f 129 = (af_ (vs 3) (x174.LockA) (Enc.sz CodeLock)) := A.v 4 rfl
     simp only [hu890] at q1908
     have q1908 : f 129 = (af_ (Value.slice z592 m592 k592) (x174.LockA) (Enc.sz CodeLock)) := q1908
     refine pl_ rfl (ae_ rfl hh_ q1908 (r374.elem I.in_ hx179) (⟨_, _, rfl, lr, ?_, ?_⟩))
     ·
      show (an_ (af_ (Value.slice z592 m592 k592) (x174.LockA) (Enc.sz CodeLock)) 0) = (an_ (af_ (vs 3) (x174.LockA) (Enc.sz CodeLock)) 0)
      simp only [hu890] <;> rfl
     exact I
    ·
     intro vs f w_ U X le A K I
     obtain ⟨z593, m593, k593, hu891, q1909, r375⟩ := A.sl (a := 3) 1 rfl rfl rfl
     have q1911 : f 129 = (af_ (vs 3) (x174.LockA) (Enc.sz CodeLock)) := A.v 4 rfl
     simp only [hu891] at q1911
     have q1911 : f 129 = (af_ (Value.slice z593 m593 k593) (x174.LockA) (Enc.sz CodeLock)) := q1911
     have q1912 : f 130 = (an_ (af_ (vs 3) (x174.LockA) (Enc.sz CodeLock)) 0) := A.v 5 rfl
     simp only [hu891] at q1912
     have q1912 : f 130 = (an_ (af_ (Value.slice z593 m593 k593) (x174.LockA) (Enc.sz CodeLock)) 0) := q1912
     refine pl_ rfl (aj_ rfl sh3 q1912 ((r375.elem I.in_ hx179).fld CodeLock.fld0) (fo I))
    ·
     intro vs f w_ U X le A K I
     have I1384 : Inv w_ U (am_ g5 75 #[(vi x174.LockA), (vi x174.WheelA), (vi x174.LockB), (vi x174.WheelB)] :: X) := I
     refine tk_ rfl (A.v 12 rfl) hc90 (bd_ (c := (vi x174.WheelB)) rfl sh3 (I1384.nth 0 rfl) (A.v 13 rfl) rfl (fo I1384))
    ·
     intro vs f w_ U X le A K I
     have q1922 := A.v 12 rfl
     have q1923 := A.v 13 rfl
     refine tk_ rfl q1922 hc90 (ay_ rfl mh_ q1923 (((p1.mono ((le710.trans le1163).trans le)).at_ I).fld Riddle.fld0) (fun u892 hu892 => ?_))
     obtain ⟨z594, m594, k594, rfl⟩ := ac_ hu892
     refine ⟨_, _, rfl, lr, ?_, ?_⟩
     · exact hu892
     exact I
    ·
     intro vs f w_ U X le A K I
     have I1388 : Inv w_ U (am_ g5 75 #[(vi x174.LockA), (vi x174.WheelA), (vi x174.LockB), (vi x174.WheelB)] :: X) := I
     refine tk_ rfl (A.v 12 rfl) hc90 (bd_ (c := (vi x174.LockB)) rfl sh3 (I1388.nth 0 rfl) (A.v 13 rfl) rfl (fo I1388))
    ·
     intro vs f w_ U X le A K I
     have q1927 := A.v 12 rfl
     obtain ⟨z595, m595, k595, hu893, q1928, r376⟩ := A.sl (a := 16) 14 rfl rfl rfl
     have q1929 := A.v 16 rfl
     refine tk_ rfl q1927 hc90 (ix_ Tryz.underlying22 im_ r376 hx181 q1928 q1929 (⟨_, _, rfl, lr, ?_, ?_⟩))
     ·
      show (af_ (Value.slice z595 m595 k595) (x174.LockB) (Enc.sz CodeLock)) = (af_ (vs 16) (x174.LockB) (Enc.sz CodeLock))
      simp only [hu893] <;> rfl
     exact I
    ·
     intro vs f w_ U X le A K I
     have q1930 := A.v 12 rfl
     obtain ⟨z596, m596, k596, hu894, q1931, r377⟩ := A.sl (a := 16) 14 rfl rfl rfl
     have q1932 := A.v 16 rfl
     have q1933 : f 142 = (af_ (vs 16) (x174.LockB) (Enc.sz CodeLock)) := A.v 17 rfl
     simp only [hu894] at q1933
     have q1933 : f 142 = (af_ (Value.slice z596 m596 k596) (x174.LockB) (Enc.sz CodeLock)) := q1933
     refine tk_ rfl q1930 hc90 (ae_ rfl hh_ q1933 (r377.elem I.in_ hx181) (⟨_, _, rfl, lr, ?_, ?_⟩))
     ·
      show (an_ (af_ (Value.slice z596 m596 k596) (x174.LockB) (Enc.sz CodeLock)) 0) = (an_ (af_ (vs 16) (x174.LockB) (Enc.sz CodeLock)) 0)
      simp only [hu894] <;> rfl
     exact I
    ·
     intro vs f w_ U X le A K I
     obtain ⟨z597, m597, k597, hu895, q1935, r378⟩ := A.sl (a := 16) 14 rfl rfl rfl
     have q1937 : f 142 = (af_ (vs 16) (x174.LockB) (Enc.sz CodeLock)) := A.v 17 rfl
     simp only [hu895] at q1937
     have q1937 : f 142 = (af_ (Value.slice z597 m597 k597) (x174.LockB) (Enc.sz CodeLock)) := q1937
     have q1938 : f 143 = (an_ (af_ (vs 16) (x174.LockB) (Enc.sz CodeLock)) 0) := A.v 18 rfl
     simp only [hu895] at q1938
     have q1938 : f 143 = (an_ (af_ (Value.slice z597 m597 k597) (x174.LockB) (Enc.sz CodeLock)) 0) := q1938
     refine tk_ rfl (A.v 12 rfl) hc90 (aj_ rfl sh3 q1938 ((r378.elem I.in_ hx181).fld CodeLock.fld0) (fo I))
    ·
     intro vs f w_ U X le A K I
     refine pl_ rfl (aw_ (a := (vb true)) rfl (A.v 26 rfl) hc91 rfl (fo I))
    intro vs1238 f w1386 S1263 ed77 le1263 hF43 hK1238 hI1245
    have e934 : f 1 = (pt_ g1) := (hK1238 1 (al_ rfl)).trans e912
    have e935 : f 3 = (vi ((a0.Locks.length : Int))) := (hK1238 3 (al_ rfl)).trans e913
    have e936 : f 6 = (vi ((i2 : Int))) := (hK1238 6 (al_ rfl)).trans e914
    have I1420 : Inv w1386 S1263 (am_ g5 75 #[(vi x174.LockA), (vi x174.WheelA), (vi x174.LockB), (vi x174.WheelB)] :: Fr) := hI1245
    have q1992 := hF43.v 48 rfl
    refine ah_ q1992 rfl (ab_ (aa_ (wa_ (v := (vi 70)) rfl rfl (ad_ (ak_ ?_)))))
    obtain rfl := sj h19
    obtain rfl := (hout6 _ rfl)
    have h20 := h
    obtain rfl := sj h20
    exact ⟨(ed77.trans ed75), (vi 70), (bo_ rfl rfl), _, [], (((le1.trans le710).trans le1163).trans le1263), (I1420).drop, rfl, rfl⟩
   obtain ⟨x183, hx183, h19⟩ := bnd h19
   obtain ⟨x184, hx184, h19⟩ := bnd h19
   obtain ⟨x185, hx185, h19⟩ := bnd h19
   obtain ⟨x186, hx186, h19⟩ := bnd h19
   refine bj_ (sps := [spV 123 [] 0 (.pointer (some ⟨g5, 1, none⟩)), ⟨some 124, [0], [1], fun vs_ T_ => fr0 vs_ 0 = (vi x174.WheelA), [0], [], [], fun _ h_ => h_⟩, spV 125 [] 2 (an_ (pt_ g1) 0), spR 126 [2] 3 (a0.Locks), spV 127 [] 4 (pt_ g5), ⟨some 128, [4], [5], fun vs_ T_ => fr0 vs_ 0 = (vi x174.LockA), [0], [], [], fun _ h_ => h_⟩, spW 129 [2, 3, 4, 5] [6, 3] fun vs_ => (af_ (fr0 vs_ 1) (x174.LockA) (Enc.sz CodeLock)), spW 130 [2, 3, 4, 5, 6] [7, 3] fun vs_ => (an_ (af_ (fr0 vs_ 1) (x174.LockA) (Enc.sz CodeLock)) 0), spV 131 [2, 3, 4, 5, 6, 7] 8 (vi x179.Wheels), spV 132 [2, 3, 4, 5, 6, 7, 8] 9 (vi (w64 (x179.Wheels - 1))), spV 133 (lrg 10) 10 (vb x180), spV 134 (lrg 11) 11 (vb (!x180)), spV 135 (lrg 12) 12 (vb (!x180)), spV 136 (lrg 13) 13 (.pointer (some ⟨g5, 3, none⟩)), ⟨some 137, (lrg 14), [14], fun vs_ T_ => fr0 vs_ 0 = (vi x174.WheelB), [0], [], [], fun _ h_ => h_⟩, spV 138 (lrg 13) 15 (an_ (pt_ g1) 0), spR 139 (lrg 13 ++ [15]) 16 (a0.Locks), spV 140 (lrg 13) 17 (.pointer (some ⟨g5, 2, none⟩)), ⟨some 141, (lrg 13 ++ [17]), [18], fun vs_ T_ => fr0 vs_ 0 = (vi x174.LockB), [0], [], [], fun _ h_ => h_⟩, spW 142 (lrg 13 ++ [15, 16, 17, 18]) [19, 16] fun vs_ => (af_ (fr0 vs_ 1) (x174.LockB) (Enc.sz CodeLock)), spW 143 (lrg 13 ++ [15, 16, 17, 18, 19]) [20, 16] fun vs_ => (an_ (af_ (fr0 vs_ 1) (x174.LockB) (Enc.sz CodeLock)) 0), spV 144 (lrg 13 ++ [15, 16, 17, 18, 19, 20]) 21 (vi x181.Wheels), spV 145 (lrg 13 ++ [15, 16, 17, 18, 19, 20, 21]) 22 (vi (w64 (x181.Wheels - 1))), spV 146 (lrg 23) 23 (vb x182), spV 147 (lrg 24) 24 (vb (!x182)), spV 148 (lrg 25) 25 (vb (!x182)), spV 149 (lrg 26) 26 (vb (!x182)), spV 150 (lrg 27) 27 (an_ (pt_ g1) 1), spR 151 (lrg 28) 28 (a0.Codes), spV 152 (lrg 27) 29 (pt_ g5), ⟨some 153, (lrg 27 ++ [29]), [30], fun vs_ T_ => fr0 vs_ 0 = (vi x174.LockA), [0], [], [], fun _ h_ => h_⟩, spW 154 (lrg 31) [31, 28] fun vs_ => (af_ (fr0 vs_ 1) (x174.LockA) (Enc.sz (List Int))), spR 155 (lrg 32) 32 x183, spV 156 (lrg 27) 33 (.pointer (some ⟨g5, 1, none⟩)), ⟨some 157, (lrg 27 ++ [33]), [34], fun vs_ T_ => fr0 vs_ 0 = (vi x174.WheelA), [0], [], [], fun _ h_ => h_⟩, spW 158 (lrg 35) [35, 32] fun vs_ => (af_ (fr0 vs_ 1) (x174.WheelA) (Enc.sz Int)), spV 159 (lrg 36) 36 (vi x184), spV 160 (lrg 27) 37 (an_ (pt_ g1) 1), spR 161 (lrg 27 ++ [37]) 38 (a0.Codes), spV 162 (lrg 27) 39 (.pointer (some ⟨g5, 2, none⟩)), ⟨some 163, (lrg 27 ++ [39]), [40], fun vs_ T_ => fr0 vs_ 0 = (vi x174.LockB), [0], [], [], fun _ h_ => h_⟩, spW 164 (lrg 27 ++ [37, 38, 39, 40]) [41, 38] fun vs_ => (af_ (fr0 vs_ 1) (x174.LockB) (Enc.sz (List Int))), spR 165 (lrg 27 ++ [37, 38, 39, 40, 41]) 42 x185, spV 166 (lrg 27) 43 (.pointer (some ⟨g5, 3, none⟩)), ⟨some 167, (lrg 27 ++ [43]), [44], fun vs_ T_ => fr0 vs_ 0 = (vi x174.WheelB), [0], [], [], fun _ h_ => h_⟩, spW 168 (lrg 27 ++ [37, 38, 39, 40, 41, 42, 43, 44]) [45, 42] fun vs_ => (af_ (fr0 vs_ 1) (x174.WheelB) (Enc.sz Int)), spV 169 (lrg 27 ++ [37, 38, 39, 40, 41, 42, 43, 44, 45]) 46 (vi x186), spV 170 (lrg 47) 47 (vb (x184 != x186)), spV 171 (lrg 48) 48 (vb (x184 != x186))]) (tks := [⟨none, none, [], fun vs_ => am_ g5 75 #[(vi x174.LockA), (vi x174.WheelA), (vi x174.LockB), (vi x174.WheelB)]⟩]) (O := Fr) rfl (by kernel_rfl) I1311 ⟨ob_ rfl fun l A K I => (av_ (v := (pt_ g5)) rfl rt_ (K 7 (ag_ rfl)) rfl (fo I)), ?_, ob_ rfl fun l A K I => (ae_ rfl co_ ((K 1 (ag_ rfl)).trans e912) ((p1.mono ((le710.trans le1163).trans l)).at_ I) (fo I)), ?_, ob_ rfl fun l A K I => (av_ (v := (pt_ g5)) rfl ja_ (K 7 (ag_ rfl)) rfl (fo I)), ?_, ?_, ?_, ?_, ob_ rfl fun l A K I => (eb_ rfl (A.v 6 rfl) rfl (fo I)), fun vs f w U X l A K I => pl_ rfl (cv_ ca55 rfl I (fun Fr_ hF_ => ch_ hF_  hx180) (cf_ (A.v 1 rfl) rfl (A.v 9 rfl)) (fun w1400 I1434 => (fo I1434))), ob_ rfl fun l A K I => (bx_ rfl (A.v 10 rfl) (fo I)), ob_ rfl fun l A K I => (aq_ rfl (A.v 11 rfl) (fo I)), oc_ fun l A K I => tk_ rfl (A.v 12 rfl) hc90 (av_ (v := (pt_ g5)) rfl vn_ (K 7 (ag_ rfl)) rfl (fo I)), ?_, oc_ fun l A K I => tk_ rfl (A.v 12 rfl) hc90 (ae_ rfl co_ ((K 1 (ag_ rfl)).trans e912) ((p1.mono ((le710.trans le1163).trans l)).at_ I) (fo I)), ?_, oc_ fun l A K I => tk_ rfl (A.v 12 rfl) hc90 (av_ (v := (pt_ g5)) rfl ke_ (K 7 (ag_ rfl)) rfl (fo I)), ?_, ?_, ?_, ?_, oc_ fun l A K I => tk_ rfl (A.v 12 rfl) hc90 (eb_ rfl (A.v 19 rfl) rfl (fo I)), fun vs f w U X l A K I => tk_ rfl (A.v 12 rfl) hc90 (cv_ ca55 rfl I (fun Fr_ hF_ => ch_ hF_  hx182) (cf_ (A.v 14 rfl) rfl (A.v 22 rfl)) (fun w1414 I1448 => (fo I1448))), oc_ fun l A K I => tk_ rfl (A.v 12 rfl) hc90 (bx_ rfl (A.v 23 rfl) (fo I)), ob_ rfl fun l A K I => (ap_ (b := (vb (!x182))) rfl (A.v 12 rfl) hc90 (A.v 24 rfl) (fo I)), ob_ rfl fun l A K I => (aq_ rfl (A.v 25 rfl) (fo I)), oc_ fun l A K I => tk_ rfl (A.v 26 rfl) hc91 (ae_ rfl hi_ ((K 1 (ag_ rfl)).trans e912) ((p1.mono ((le710.trans le1163).trans l)).at_ I) (fo I)), ?_, oc_ fun l A K I => tk_ rfl (A.v 26 rfl) hc91 (av_ (v := (pt_ g5)) rfl ja_ (K 7 (ag_ rfl)) rfl (fo I)), ?_, ?_, ?_, oc_ fun l A K I => tk_ rfl (A.v 26 rfl) hc91 (av_ (v := (pt_ g5)) rfl rt_ (K 7 (ag_ rfl)) rfl (fo I)), ?_, ?_, ?_, oc_ fun l A K I => tk_ rfl (A.v 26 rfl) hc91 (ae_ rfl hi_ ((K 1 (ag_ rfl)).trans e912) ((p1.mono ((le710.trans le1163).trans l)).at_ I) (fo I)), ?_, oc_ fun l A K I => tk_ rfl (A.v 26 rfl) hc91 (av_ (v := (pt_ g5)) rfl ke_ (K 7 (ag_ rfl)) rfl (fo I)), ?_, ?_, ?_, oc_ fun l A K I => tk_ rfl (A.v 26 rfl) hc91 (av_ (v := (pt_ g5)) rfl vn_ (K 7 (ag_ rfl)) rfl (fo I)), ?_, ?_, ?_, oc_ fun l A K I => tk_ rfl (A.v 26 rfl) hc91 (cd_ rfl (A.v 36 rfl) (A.v 46 rfl) (fo I)), ?_, trivial⟩ ?_
   ·
    intro vs f w_ U X le A K I
    have I1424 : Inv w_ U (am_ g5 75 #[(vi x174.LockA), (vi x174.WheelA), (vi x174.LockB), (vi x174.WheelB)] :: X) := I
    refine pl_ rfl (bd_ (c := (vi x174.WheelA)) rfl sh3 (I1424.nth 0 rfl) (A.v 0 rfl) rfl (fo I1424))
   ·
    intro vs f w_ U X le A K I
    have q1994 := A.v 0 rfl
    refine pl_ rfl (ay_ rfl mh_ q1994 (((p1.mono ((le710.trans le1163).trans le)).at_ I).fld Riddle.fld0) (fun u902 hu902 => ?_))
    obtain ⟨z598, m598, k598, rfl⟩ := ac_ hu902
    refine ⟨_, _, rfl, lr, ?_, ?_⟩
    · exact hu902
    exact I
   ·
    intro vs f w_ U X le A K I
    have I1428 : Inv w_ U (am_ g5 75 #[(vi x174.LockA), (vi x174.WheelA), (vi x174.LockB), (vi x174.WheelB)] :: X) := I
    refine pl_ rfl (bd_ (c := (vi x174.LockA)) rfl sh3 (I1428.nth 0 rfl) (A.v 0 rfl) rfl (fo I1428))
   ·
    intro vs f w_ U X le A K I
    obtain ⟨z599, m599, k599, hu903, q1996, r379⟩ := A.sl (a := 3) 1 rfl rfl rfl
    have q1997 := A.v 3 rfl
    refine pl_ rfl (ix_ Tryz.underlying22 im_ r379 hx179 q1996 q1997 (⟨_, _, rfl, lr, ?_, ?_⟩))
    ·
     show (af_ (Value.slice z599 m599 k599) (x174.LockA) (Enc.sz CodeLock)) = (af_ (vs 3) (x174.LockA) (Enc.sz CodeLock))
     simp only [hu903] <;> rfl
    exact I
   ·
    intro vs f w_ U X le A K I
    obtain ⟨z600, m600, k600, hu904, q1998, r380⟩ := A.sl (a := 3) 1 rfl rfl rfl
    have q1999 := A.v 3 rfl
    have q2000 : f 129 = (af_ (vs 3) (x174.LockA) (Enc.sz CodeLock)) := A.v 4 rfl
    simp only [hu904] at q2000
    have q2000 : f 129 = (af_ (Value.slice z600 m600 k600) (x174.LockA) (Enc.sz CodeLock)) := q2000
    refine pl_ rfl (ae_ rfl hh_ q2000 (r380.elem I.in_ hx179) (⟨_, _, rfl, lr, ?_, ?_⟩))
    ·
     show (an_ (af_ (Value.slice z600 m600 k600) (x174.LockA) (Enc.sz CodeLock)) 0) = (an_ (af_ (vs 3) (x174.LockA) (Enc.sz CodeLock)) 0)
     simp only [hu904] <;> rfl
    exact I
   ·
    intro vs f w_ U X le A K I
    obtain ⟨z601, m601, k601, hu905, q2001, r381⟩ := A.sl (a := 3) 1 rfl rfl rfl
    have q2003 : f 129 = (af_ (vs 3) (x174.LockA) (Enc.sz CodeLock)) := A.v 4 rfl
    simp only [hu905] at q2003
    have q2003 : f 129 = (af_ (Value.slice z601 m601 k601) (x174.LockA) (Enc.sz CodeLock)) := q2003
    have q2004 : f 130 = (an_ (af_ (vs 3) (x174.LockA) (Enc.sz CodeLock)) 0) := A.v 5 rfl
    simp only [hu905] at q2004
    have q2004 : f 130 = (an_ (af_ (Value.slice z601 m601 k601) (x174.LockA) (Enc.sz CodeLock)) 0) := q2004
    refine pl_ rfl (aj_ rfl sh3 q2004 ((r381.elem I.in_ hx179).fld CodeLock.fld0) (fo I))
   ·
    intro vs f w_ U X le A K I
    have I1438 : Inv w_ U (am_ g5 75 #[(vi x174.LockA), (vi x174.WheelA), (vi x174.LockB), (vi x174.WheelB)] :: X) := I
    refine tk_ rfl (A.v 12 rfl) hc90 (bd_ (c := (vi x174.WheelB)) rfl sh3 (I1438.nth 0 rfl) (A.v 13 rfl) rfl (fo I1438))
   ·
    intro vs f w_ U X le A K I
    have q2014 := A.v 12 rfl
    have q2015 := A.v 13 rfl
    refine tk_ rfl q2014 hc90 (ay_ rfl mh_ q2015 (((p1.mono ((le710.trans le1163).trans le)).at_ I).fld Riddle.fld0) (fun u906 hu906 => ?_))
    obtain ⟨z602, m602, k602, rfl⟩ := ac_ hu906
    refine ⟨_, _, rfl, lr, ?_, ?_⟩
    · exact hu906
    exact I
   ·
    intro vs f w_ U X le A K I
    have I1442 : Inv w_ U (am_ g5 75 #[(vi x174.LockA), (vi x174.WheelA), (vi x174.LockB), (vi x174.WheelB)] :: X) := I
    refine tk_ rfl (A.v 12 rfl) hc90 (bd_ (c := (vi x174.LockB)) rfl sh3 (I1442.nth 0 rfl) (A.v 13 rfl) rfl (fo I1442))
   ·
    intro vs f w_ U X le A K I
    have q2019 := A.v 12 rfl
    obtain ⟨z603, m603, k603, hu907, q2020, r382⟩ := A.sl (a := 16) 14 rfl rfl rfl
    have q2021 := A.v 16 rfl
    refine tk_ rfl q2019 hc90 (ix_ Tryz.underlying22 im_ r382 hx181 q2020 q2021 (⟨_, _, rfl, lr, ?_, ?_⟩))
    ·
     show (af_ (Value.slice z603 m603 k603) (x174.LockB) (Enc.sz CodeLock)) = (af_ (vs 16) (x174.LockB) (Enc.sz CodeLock))
     simp only [hu907] <;> rfl
    exact I
   ·
    intro vs f w_ U X le A K I
    have q2022 := A.v 12 rfl
    obtain ⟨z604, m604, k604, hu908, q2023, r383⟩ := A.sl (a := 16) 14 rfl rfl rfl
    have q2024 := A.v 16 rfl
    have q2025 : f 142 = (af_ (vs 16) (x174.LockB) (Enc.sz CodeLock)) := A.v 17 rfl
    simp only [hu908] at q2025
    have q2025 : f 142 = (af_ (Value.slice z604 m604 k604) (x174.LockB) (Enc.sz CodeLock)) := q2025
    refine tk_ rfl q2022 hc90 (ae_ rfl hh_ q2025 (r383.elem I.in_ hx181) (⟨_, _, rfl, lr, ?_, ?_⟩))
    ·
     show (an_ (af_ (Value.slice z604 m604 k604) (x174.LockB) (Enc.sz CodeLock)) 0) = (an_ (af_ (vs 16) (x174.LockB) (Enc.sz CodeLock)) 0)
     simp only [hu908] <;> rfl
    exact I
   ·
    intro vs f w_ U X le A K I
    obtain ⟨z605, m605, k605, hu909, q2027, r384⟩ := A.sl (a := 16) 14 rfl rfl rfl
    have q2029 : f 142 = (af_ (vs 16) (x174.LockB) (Enc.sz CodeLock)) := A.v 17 rfl
    simp only [hu909] at q2029
    have q2029 : f 142 = (af_ (Value.slice z605 m605 k605) (x174.LockB) (Enc.sz CodeLock)) := q2029
    have q2030 : f 143 = (an_ (af_ (vs 16) (x174.LockB) (Enc.sz CodeLock)) 0) := A.v 18 rfl
    simp only [hu909] at q2030
    have q2030 : f 143 = (an_ (af_ (Value.slice z605 m605 k605) (x174.LockB) (Enc.sz CodeLock)) 0) := q2030
    refine tk_ rfl (A.v 12 rfl) hc90 (aj_ rfl sh3 q2030 ((r384.elem I.in_ hx181).fld CodeLock.fld0) (fo I))
   ·
    intro vs f w_ U X le A K I
    have q2042 := A.v 26 rfl
    have q2043 := A.v 27 rfl
    refine tk_ rfl q2042 hc91 (ay_ rfl lq_ q2043 (((p1.mono ((le710.trans le1163).trans le)).at_ I).fld Riddle.fld1) (fun u910 hu910 => ?_))
    obtain ⟨z606, m606, k606, rfl⟩ := ac_ hu910
    refine ⟨_, _, rfl, lr, ?_, ?_⟩
    · exact hu910
    exact I
   ·
    intro vs f w_ U X le A K I
    have I1455 : Inv w_ U (am_ g5 75 #[(vi x174.LockA), (vi x174.WheelA), (vi x174.LockB), (vi x174.WheelB)] :: X) := I
    refine tk_ rfl (A.v 26 rfl) hc91 (bd_ (c := (vi x174.LockA)) rfl sh3 (I1455.nth 0 rfl) (A.v 27 rfl) rfl (fo I1455))
   ·
    intro vs f w_ U X le A K I
    have q2047 := A.v 26 rfl
    obtain ⟨z607, m607, k607, hu911, q2048, r385⟩ := A.sl (a := 28) 28 rfl rfl rfl
    have q2049 := A.v 30 rfl
    refine tk_ rfl q2047 hc91 (ix_ Tryz.underlying23 fn_ r385 hx183 q2048 q2049 (⟨_, _, rfl, lr, ?_, ?_⟩))
    ·
     show (af_ (Value.slice z607 m607 k607) (x174.LockA) (Enc.sz (List Int))) = (af_ (vs 28) (x174.LockA) (Enc.sz (List Int)))
     simp only [hu911] <;> rfl
    exact I
   ·
    intro vs f w_ U X le A K I
    have q2050 := A.v 26 rfl
    obtain ⟨z608, m608, k608, hu912, q2051, r386⟩ := A.sl (a := 28) 28 rfl rfl rfl
    have q2052 := A.v 30 rfl
    have q2053 : f 154 = (af_ (vs 28) (x174.LockA) (Enc.sz (List Int))) := A.v 31 rfl
    simp only [hu912] at q2053
    have q2053 : f 154 = (af_ (Value.slice z608 m608 k608) (x174.LockA) (Enc.sz (List Int))) := q2053
    refine tk_ rfl q2050 hc91 (ay_ rfl fn_ q2053 (r386.elem I.in_ hx183) (fun u913 hu913 => ?_))
    obtain ⟨z609, m609, k609, rfl⟩ := ac_ hu913
    refine ⟨_, _, rfl, lr, ?_, ?_⟩
    · exact hu913
    exact I
   ·
    intro vs f w_ U X le A K I
    have I1459 : Inv w_ U (am_ g5 75 #[(vi x174.LockA), (vi x174.WheelA), (vi x174.LockB), (vi x174.WheelB)] :: X) := I
    refine tk_ rfl (A.v 26 rfl) hc91 (bd_ (c := (vi x174.WheelA)) rfl sh3 (I1459.nth 0 rfl) (A.v 27 rfl) rfl (fo I1459))
   ·
    intro vs f w_ U X le A K I
    have q2057 := A.v 26 rfl
    obtain ⟨z610, m610, k610, hu914, q2058, r387⟩ := A.sl (a := 32) 32 rfl rfl rfl
    have q2059 := A.v 34 rfl
    refine tk_ rfl q2057 hc91 (ix_ Tryz.underlying28 sh3 r387 hx184 q2058 q2059 (⟨_, _, rfl, lr, ?_, ?_⟩))
    ·
     show (af_ (Value.slice z610 m610 k610) (x174.WheelA) (Enc.sz Int)) = (af_ (vs 32) (x174.WheelA) (Enc.sz Int))
     simp only [hu914] <;> rfl
    exact I
   ·
    intro vs f w_ U X le A K I
    obtain ⟨z611, m611, k611, hu915, q2061, r388⟩ := A.sl (a := 32) 32 rfl rfl rfl
    have q2063 : f 158 = (af_ (vs 32) (x174.WheelA) (Enc.sz Int)) := A.v 35 rfl
    simp only [hu915] at q2063
    have q2063 : f 158 = (af_ (Value.slice z611 m611 k611) (x174.WheelA) (Enc.sz Int)) := q2063
    refine tk_ rfl (A.v 26 rfl) hc91 (aj_ rfl sh3 q2063 (r388.elem I.in_ hx184) (fo I))
   ·
    intro vs f w_ U X le A K I
    have q2065 := A.v 26 rfl
    have q2066 := A.v 27 rfl
    refine tk_ rfl q2065 hc91 (ay_ rfl lq_ q2066 (((p1.mono ((le710.trans le1163).trans le)).at_ I).fld Riddle.fld1) (fun u916 hu916 => ?_))
    obtain ⟨z612, m612, k612, rfl⟩ := ac_ hu916
    refine ⟨_, _, rfl, lr, ?_, ?_⟩
    · exact hu916
    exact I
   ·
    intro vs f w_ U X le A K I
    have I1465 : Inv w_ U (am_ g5 75 #[(vi x174.LockA), (vi x174.WheelA), (vi x174.LockB), (vi x174.WheelB)] :: X) := I
    refine tk_ rfl (A.v 26 rfl) hc91 (bd_ (c := (vi x174.LockB)) rfl sh3 (I1465.nth 0 rfl) (A.v 27 rfl) rfl (fo I1465))
   ·
    intro vs f w_ U X le A K I
    have q2070 := A.v 26 rfl
    obtain ⟨z613, m613, k613, hu917, q2071, r389⟩ := A.sl (a := 38) 28 rfl rfl rfl
    have q2072 := A.v 30 rfl
    refine tk_ rfl q2070 hc91 (ix_ Tryz.underlying23 fn_ r389 hx185 q2071 q2072 (⟨_, _, rfl, lr, ?_, ?_⟩))
    ·
     show (af_ (Value.slice z613 m613 k613) (x174.LockB) (Enc.sz (List Int))) = (af_ (vs 38) (x174.LockB) (Enc.sz (List Int)))
     simp only [hu917] <;> rfl
    exact I
   ·
    intro vs f w_ U X le A K I
    have q2073 := A.v 26 rfl
    obtain ⟨z614, m614, k614, hu918, q2074, r390⟩ := A.sl (a := 38) 28 rfl rfl rfl
    have q2075 := A.v 30 rfl
    have q2076 : f 164 = (af_ (vs 38) (x174.LockB) (Enc.sz (List Int))) := A.v 31 rfl
    simp only [hu918] at q2076
    have q2076 : f 164 = (af_ (Value.slice z614 m614 k614) (x174.LockB) (Enc.sz (List Int))) := q2076
    refine tk_ rfl q2073 hc91 (ay_ rfl fn_ q2076 (r390.elem I.in_ hx185) (fun u919 hu919 => ?_))
    obtain ⟨z615, m615, k615, rfl⟩ := ac_ hu919
    refine ⟨_, _, rfl, lr, ?_, ?_⟩
    · exact hu919
    exact I
   ·
    intro vs f w_ U X le A K I
    have I1469 : Inv w_ U (am_ g5 75 #[(vi x174.LockA), (vi x174.WheelA), (vi x174.LockB), (vi x174.WheelB)] :: X) := I
    refine tk_ rfl (A.v 26 rfl) hc91 (bd_ (c := (vi x174.WheelB)) rfl sh3 (I1469.nth 0 rfl) (A.v 27 rfl) rfl (fo I1469))
   ·
    intro vs f w_ U X le A K I
    have q2080 := A.v 26 rfl
    obtain ⟨z616, m616, k616, hu920, q2081, r391⟩ := A.sl (a := 42) 32 rfl rfl rfl
    have q2082 := A.v 34 rfl
    refine tk_ rfl q2080 hc91 (ix_ Tryz.underlying28 sh3 r391 hx186 q2081 q2082 (⟨_, _, rfl, lr, ?_, ?_⟩))
    ·
     show (af_ (Value.slice z616 m616 k616) (x174.WheelB) (Enc.sz Int)) = (af_ (vs 42) (x174.WheelB) (Enc.sz Int))
     simp only [hu920] <;> rfl
    exact I
   ·
    intro vs f w_ U X le A K I
    obtain ⟨z617, m617, k617, hu921, q2084, r392⟩ := A.sl (a := 42) 32 rfl rfl rfl
    have q2086 : f 168 = (af_ (vs 42) (x174.WheelB) (Enc.sz Int)) := A.v 35 rfl
    simp only [hu921] at q2086
    have q2086 : f 168 = (af_ (Value.slice z617 m617 k617) (x174.WheelB) (Enc.sz Int)) := q2086
    refine tk_ rfl (A.v 26 rfl) hc91 (aj_ rfl sh3 q2086 (r392.elem I.in_ hx186) (fo I))
   ·
    intro vs f w_ U X le A K I
    refine pl_ rfl (ap_ (b := (vb (x184 != x186))) rfl (A.v 26 rfl) hc91 (A.v 47 rfl) (fo I))
   intro vs1288 f w1440 S1313 ed78 le1313 hF44 hK1288 hI1295
   have e957 : f 1 = (pt_ g1) := (hK1288 1 (al_ rfl)).trans e912
   have e958 : f 3 = (vi ((a0.Locks.length : Int))) := (hK1288 3 (al_ rfl)).trans e913
   have e959 : f 6 = (vi ((i2 : Int))) := (hK1288 6 (al_ rfl)).trans e914
   have I1474 : Inv w1440 S1313 (am_ g5 75 #[(vi x174.LockA), (vi x174.WheelA), (vi x174.LockB), (vi x174.WheelB)] :: Fr) := hI1295
   have q2092 := hF44.v 48 rfl
   rcases ifs h19 with ⟨hc92, h19⟩ | ⟨hc92, h19⟩
   ·
    refine ah_ q2092 hc92 (ab_ (aa_ (wa_ (v := (vi 70)) rfl rfl (ad_ (ak_ ?_)))))
    obtain rfl := sj h19
    obtain rfl := (hout6 _ rfl)
    have h20 := h
    obtain rfl := sj h20
    exact ⟨(ed78.trans ed75), (vi 70), (bo_ rfl rfl), _, [], (((le1.trans le710).trans le1163).trans le1313), (I1474).drop, rfl, rfl⟩
   refine ai_ q2092 hc92 (ar_ (aa_ (wm_ rfl e959 (wo_ (bl_ rfl rfl rfl (wa_ (v := (vi (w64 ((i2 : Int) + 1)))) rfl rfl (ad_ ?_)))))))
   obtain rfl := sj h19
   exact ⟨_, rfl, _, (le1163.trans le1313), (I1474).drop, e957, e958, (bh_ hlt2 hk2), (ed78.trans ed75)⟩
  rintro s8 f w hs2 hI1296
  obtain ⟨S1314, le1314, I1475, e960, e961, e962, ed79⟩ := hI1296
  refine ab_ (ab_ (aa_ (wm_ rfl e962 (wo_ (ae_ rfl nv_ e960 ((p1.mono (le710.trans le1314)).at_ I1475) (wo_ (ld_ sh25 (((p1.mono (le710.trans le1314)).at_ I1475).fld Riddle.fld3) rfl (fun u923 hu923 => ?_))))))))
  obtain ⟨z619, m619, k619, rfl⟩ := ac_ hu923
  refine wo_ (az_ rfl Tryz.underlying25 rfl hu923 (wo_ (be_ rfl rfl rfl (ad_ (ai_ rfl (ep_ _) (bk_ ?_))))))
  exact ⟨s8, hs2, _, le1314, I1475, e960, e961, ed79⟩
 rintro f w ⟨out6, rfl, S1315, le1315, I1476, e965, e966, ed80⟩
 have h := eh_ h
 refine ab_ (aa_ (wa_ (v := (vi 0)) rfl rfl (ad_ (ak_ ?_))))
 obtain rfl := sj h
 exact ⟨ed80, (vi 0), (bo_ rfl rfl), _, [], ((le1.trans le710).trans le1315), I1476, rfl, rfl⟩
end Go.Proofs.YtlpdpeghgndmkaaGreat.Pad
