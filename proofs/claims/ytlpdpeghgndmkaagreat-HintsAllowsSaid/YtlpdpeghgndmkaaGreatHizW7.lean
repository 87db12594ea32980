/- A part of the proof: what the functions of the program compute, shown over the model. -/
import Derived.Test.YtlpdpeghgndmkaaGreatHizP
import Derived.Test.YtlpdpeghgndmkaaGreatHizW4
import Derived.KernelRfl
set_option linter.unusedVariables false
set_option maxHeartbeats 4000000
set_option maxRecDepth 100000
namespace Go.Proofs.YtlpdpeghgndmkaaGreat.Pad
open Go Go.Proofs
theorem xp_ {w : World} {S : PH} {Fr : List HP} {a0 : Riddle} {v0 : Value} {a1 : Tie} {v1 : Value} {r : Bool} (hI : Inv w S (Fr)) (h0_ : RV S v0 a0) (h1_ : RV S v1 a1) (h : ko_ a0 a1 = some r) :
    Calls Tryz.prog 113 [v0, v1].toArray w (bw_ S Fr (Value.bool (r))) := by
 unfold ko_ at h
 obtain ⟨c1, c2, c3, c4, e1, r1, r2, r3, r4⟩ := Riddle.inv h0_
 subst e1
 obtain ⟨z1, m1, k1, rfl⟩ := ac_ r1
 obtain ⟨z2, m2, k2, rfl⟩ := ac_ r2
 obtain ⟨z3, m3, k3, rfl⟩ := ac_ r3
 obtain ⟨z4, m4, k4, rfl⟩ := ac_ r4
 have e6 := Tie.inv h1_
 subst e6
 refine ao_ (n := 78) Tryz.func113 rfl rfl rfl (ab_ (aa_ (wo_ (bi_ (v := (.agg #[(.slice z1 m1 k1), (.slice z2 m2 k2), (.slice z3 m3 k3), (.slice z4 m4 k4)])) rfl hI rfl (fun g1 w1 I1 => ?_)))))
 obtain ⟨S1, le1, I2, p1⟩ := Inv.boxFreeze (x := a0) I1 (Riddle.rv (s := a0) r1 r2 r3 r4)
 refine wo_ (bi_ (v := (.agg #[(vi a1.LockA), (vi a1.WheelA), (vi a1.LockB), (vi a1.WheelB)])) rfl I2 rfl (fun g2 w2 I3 => ?_))
 obtain ⟨S2, le2, I4, p2⟩ := Inv.boxFreeze (x := a1) I3 (Tie.rv (s := a1))
 refine wa_ (v := (vb false)) rfl rfl (ad_ (ab_ (aa_ (wo_ (fa_ co_ ((p1.mono le2).at_ I4) rfl (wo_ (ld_ mh_ (((p1.mono le2).at_ I4).fld Riddle.fld0) rfl (fun u1 hu1 => ?_))))))))
 obtain ⟨z5, m5, k5, rfl⟩ := ac_ hu1
 refine wo_ (az_ rfl Tryz.underlying22 rfl hu1 (wo_ (eb_ rfl rfl rfl (wa_ (v := (vi (w64 ((a0.Locks.length : Int) - 1)))) rfl rfl (ad_ (ab_ (ab_ ?_)))))))
 obtain ⟨x7, hx7, h⟩ := bnd h
 rcases ifs h with ⟨hc6, h⟩ | ⟨hc6, h⟩
 ·
  refine bj_ (sps := [spV 10 [] 0 (an_ (pt_ g2) 0), spV 11 [0] 1 (vi a1.LockA), spV 12 [] 2 (vi (w64 ((a0.Locks.length : Int) - 1))), spV 13 [0, 1, 2] 3 (vb x7), spV 14 [0, 1, 2, 3] 4 (vb (!x7)), spV 15 [0, 1, 2, 3, 4] 5 (vb (!x7)), spV 16 (lrg 6) 6 undef, spV 17 (lrg 7) 7 undef, spV 18 (lrg 6) 8 undef, spV 19 (lrg 9) 9 undef, spV 20 (lrg 10) 10 undef, spV 21 (lrg 11) 11 (vb true), spV 22 (lrg 12) 12 (vb true), spV 23 (lrg 13) 13 undef, spV 24 (lrg 14) 14 undef, spV 25 (lrg 13) 15 undef, spV 26 (lrg 13 ++ [15]) 16 undef, spV 27 (lrg 17) 17 undef, spV 28 (lrg 18) 18 (vb true), spV 29 (lrg 19) 19 (vb true), spV 30 (lrg 20) 20 undef, spV 31 (lrg 21) 21 undef, spV 32 (lrg 20) 22 undef, spV 33 (lrg 20 ++ [22]) 23 undef, spV 34 (lrg 20) 24 undef, spV 35 (lrg 20 ++ [24]) 25 undef, spV 36 (lrg 20 ++ [22, 23, 24, 25]) 26 undef, spV 37 (lrg 20 ++ [22, 23, 24, 25, 26]) 27 undef, spV 38 (lrg 20 ++ [22, 23, 24, 25, 26, 27]) 28 undef, spV 39 (lrg 20 ++ [22, 23, 24, 25, 26, 27, 28]) 29 undef, spV 40 (lrg 30) 30 undef, spV 41 (lrg 31) 31 undef, spV 42 (lrg 32) 32 (vb true), spV 43 (lrg 33) 33 (vb true), spV 44 (lrg 34) 34 undef, spV 45 (lrg 35) 35 undef, spV 46 (lrg 34) 36 undef, spV 47 (lrg 34 ++ [36]) 37 undef, spV 48 (lrg 34) 38 undef, spV 49 (lrg 34 ++ [38]) 39 undef, spV 50 (lrg 34 ++ [36, 37, 38, 39]) 40 undef, spV 51 (lrg 34 ++ [36, 37, 38, 39, 40]) 41 undef, spV 52 (lrg 34 ++ [36, 37, 38, 39, 40, 41]) 42 undef, spV 53 (lrg 34 ++ [36, 37, 38, 39, 40, 41, 42]) 43 undef, spV 54 (lrg 44) 44 undef, spV 55 (lrg 45) 45 undef, spV 56 (lrg 46) 46 (vb true)]) (tks := []) (O := Fr) rfl (by kernel_rfl) I4 ⟨ob_ rfl fun l A K I => (ae_ rfl ja_ (K 3 (ag_ rfl)) ((p2.mono l).at_ I) (fo I)), ob_ rfl fun l A K I => (aj_ rfl sh3 (A.v 0 rfl) (((p2.mono l).at_ I).fld Tie.fld0) (fo I)), ob_ rfl fun l A K I => (aq_ rfl (K 5 (ag_ rfl)) (fo I)), fun vs f w U X l A K I => pl_ rfl (cv_ ca51 rfl I (fun Fr_ hF_ => bs_ hF_  hx7) (cf_ (A.v 1 rfl) rfl (A.v 2 rfl)) (fun w282 I283 => (fo I283))), ob_ rfl fun l A K I => (bx_ rfl (A.v 3 rfl) (fo I)), ob_ rfl fun l A K I => (aq_ rfl (A.v 4 rfl) (fo I)), oc_ fun l A K I => sk_ rfl (A.v 5 rfl) hc6 (fo I), oc_ fun l A K I => sk_ rfl (A.v 5 rfl) hc6 (fo I), oc_ fun l A K I => sk_ rfl (A.v 5 rfl) hc6 (fo I), oc_ fun l A K I => sk_ rfl (A.v 5 rfl) hc6 (fo I), oc_ fun l A K I => sk_ rfl (A.v 5 rfl) hc6 (fo I), ob_ rfl fun l A K I => (aw_ (a := (vb true)) rfl (A.v 5 rfl) hc6 rfl (fo I)), ob_ rfl fun l A K I => (aq_ rfl (A.v 11 rfl) (fo I)), oc_ fun l A K I => sk_ rfl (A.v 12 rfl) rfl (fo I), oc_ fun l A K I => sk_ rfl (A.v 12 rfl) rfl (fo I), oc_ fun l A K I => sk_ rfl (A.v 12 rfl) rfl (fo I), oc_ fun l A K I => sk_ rfl (A.v 12 rfl) rfl (fo I), oc_ fun l A K I => sk_ rfl (A.v 12 rfl) rfl (fo I), ob_ rfl fun l A K I => (aw_ (a := (vb true)) rfl (A.v 12 rfl) rfl rfl (fo I)), ob_ rfl fun l A K I => (aq_ rfl (A.v 18 rfl) (fo I)), oc_ fun l A K I => sk_ rfl (A.v 19 rfl) rfl (fo I), oc_ fun l A K I => sk_ rfl (A.v 19 rfl) rfl (fo I), oc_ fun l A K I => sk_ rfl (A.v 19 rfl) rfl (fo I), oc_ fun l A K I => sk_ rfl (A.v 19 rfl) rfl (fo I), oc_ fun l A K I => sk_ rfl (A.v 19 rfl) rfl (fo I), oc_ fun l A K I => sk_ rfl (A.v 19 rfl) rfl (fo I), oc_ fun l A K I => sk_ rfl (A.v 19 rfl) rfl (fo I), oc_ fun l A K I => sk_ rfl (A.v 19 rfl) rfl (fo I), oc_ fun l A K I => sk_ rfl (A.v 19 rfl) rfl (fo I), oc_ fun l A K I => sk_ rfl (A.v 19 rfl) rfl (fo I), oc_ fun l A K I => sk_ rfl (A.v 19 rfl) rfl (fo I), oc_ fun l A K I => sk_ rfl (A.v 19 rfl) rfl (fo I), ob_ rfl fun l A K I => (aw_ (a := (vb true)) rfl (A.v 19 rfl) rfl rfl (fo I)), ob_ rfl fun l A K I => (aq_ rfl (A.v 32 rfl) (fo I)), oc_ fun l A K I => sk_ rfl (A.v 33 rfl) rfl (fo I), oc_ fun l A K I => sk_ rfl (A.v 33 rfl) rfl (fo I), oc_ fun l A K I => sk_ rfl (A.v 33 rfl) rfl (fo I), oc_ fun l A K I => sk_ rfl (A.v 33 rfl) rfl (fo I), oc_ fun l A K I => sk_ rfl (A.v 33 rfl) rfl (fo I), oc_ fun l A K I => sk_ rfl (A.v 33 rfl) rfl (fo I), oc_ fun l A K I => sk_ rfl (A.v 33 rfl) rfl (fo I), oc_ fun l A K I => sk_ rfl (A.v 33 rfl) rfl (fo I), oc_ fun l A K I => sk_ rfl (A.v 33 rfl) rfl (fo I), oc_ fun l A K I => sk_ rfl (A.v 33 rfl) rfl (fo I), oc_ fun l A K I => sk_ rfl (A.v 33 rfl) rfl (fo I), oc_ fun l A K I => sk_ rfl (A.v 33 rfl) rfl (fo I), ?_, trivial⟩ ?_
  ·
   intro vs f w_ U X le A K I
   refine pl_ rfl (aw_ (a := (vb true)) rfl (A.v 33 rfl) rfl rfl (fo I))
  intro vs288 f w326 S290 ed6 le290 hF6 hK288 hI288
  have e30 : f 2 = (pt_ g1) := (hK288 2 (al_ rfl)).trans rfl
  have e31 : f 3 = (pt_ g2) := (hK288 3 (al_ rfl)).trans rfl
  have I327 : Inv w326 S290 (Fr) := hI288
  have q501 := hF6.v 46 rfl
  refine ah_ q501 rfl (ab_ (aa_ (wa_ (v := (vb false)) rfl rfl (ad_ (ak_ ?_)))))
  obtain rfl := sj h
  exact ⟨(ed6.trans rfl), (vb false), (bo_ rfl rfl), _, [], ((le1.trans le2).trans le290), I327, rfl, rfl⟩
 obtain ⟨x8, hx8, h⟩ := bnd h
 rcases ifs h with ⟨hc7, h⟩ | ⟨hc7, h⟩
 ·
  refine bj_ (sps := [spV 10 [] 0 (an_ (pt_ g2) 0), spV 11 [0] 1 (vi a1.LockA), spV 12 [] 2 (vi (w64 ((a0.Locks.length : Int) - 1))), spV 13 [0, 1, 2] 3 (vb x7), spV 14 [0, 1, 2, 3] 4 (vb (!x7)), spV 15 [0, 1, 2, 3, 4] 5 (vb (!x7)), spV 16 (lrg 6) 6 (an_ (pt_ g2) 2), spV 17 (lrg 7) 7 (vi a1.LockB), spV 18 (lrg 6) 8 (vi (w64 ((a0.Locks.length : Int) - 1))), spV 19 (lrg 9) 9 (vb x8), spV 20 (lrg 10) 10 (vb (!x8)), spV 21 (lrg 11) 11 (vb (!x8)), spV 22 (lrg 12) 12 (vb (!x8)), spV 23 (lrg 13) 13 undef, spV 24 (lrg 14) 14 undef, spV 25 (lrg 13) 15 undef, spV 26 (lrg 13 ++ [15]) 16 undef, spV 27 (lrg 17) 17 undef, spV 28 (lrg 18) 18 (vb true), spV 29 (lrg 19) 19 (vb true), spV 30 (lrg 20) 20 undef, spV 31 (lrg 21) 21 undef, spV 32 (lrg 20) 22 undef, spV 33 (lrg 20 ++ [22]) 23 undef, spV 34 (lrg 20) 24 undef, spV 35 (lrg 20 ++ [24]) 25 undef, spV 36 (lrg 20 ++ [22, 23, 24, 25]) 26 undef, spV 37 (lrg 20 ++ [22, 23, 24, 25, 26]) 27 undef, spV 38 (lrg 20 ++ [22, 23, 24, 25, 26, 27]) 28 undef, spV 39 (lrg 20 ++ [22, 23, 24, 25, 26, 27, 28]) 29 undef, spV 40 (lrg 30) 30 undef, spV 41 (lrg 31) 31 undef, spV 42 (lrg 32) 32 (vb true), spV 43 (lrg 33) 33 (vb true), spV 44 (lrg 34) 34 undef, spV 45 (lrg 35) 35 undef, spV 46 (lrg 34) 36 undef, spV 47 (lrg 34 ++ [36]) 37 undef, spV 48 (lrg 34) 38 undef, spV 49 (lrg 34 ++ [38]) 39 undef, spV 50 (lrg 34 ++ [36, 37, 38, 39]) 40 undef, spV 51 (lrg 34 ++ [36, 37, 38, 39, 40]) 41 undef, spV 52 (lrg 34 ++ [36, 37, 38, 39, 40, 41]) 42 undef, spV 53 (lrg 34 ++ [36, 37, 38, 39, 40, 41, 42]) 43 undef, spV 54 (lrg 44) 44 undef, spV 55 (lrg 45) 45 undef, spV 56 (lrg 46) 46 (vb true)]) (tks := []) (O := Fr) rfl (by kernel_rfl) I4 ⟨ob_ rfl fun l A K I => (ae_ rfl ja_ (K 3 (ag_ rfl)) ((p2.mono l).at_ I) (fo I)), ob_ rfl fun l A K I => (aj_ rfl sh3 (A.v 0 rfl) (((p2.mono l).at_ I).fld Tie.fld0) (fo I)), ob_ rfl fun l A K I => (aq_ rfl (K 5 (ag_ rfl)) (fo I)), fun vs f w U X l A K I => pl_ rfl (cv_ ca51 rfl I (fun Fr_ hF_ => bs_ hF_  hx7) (cf_ (A.v 1 rfl) rfl (A.v 2 rfl)) (fun w335 I336 => (fo I336))), ob_ rfl fun l A K I => (bx_ rfl (A.v 3 rfl) (fo I)), ob_ rfl fun l A K I => (aq_ rfl (A.v 4 rfl) (fo I)), oc_ fun l A K I => tk_ rfl (A.v 5 rfl) hc6 (ae_ rfl ke_ (K 3 (ag_ rfl)) ((p2.mono l).at_ I) (fo I)), oc_ fun l A K I => tk_ rfl (A.v 5 rfl) hc6 (aj_ rfl sh3 (A.v 6 rfl) (((p2.mono l).at_ I).fld Tie.fld2) (fo I)), oc_ fun l A K I => tk_ rfl (A.v 5 rfl) hc6 (aq_ rfl (K 5 (ag_ rfl)) (fo I)), fun vs f w U X l A K I => tk_ rfl (A.v 5 rfl) hc6 (cv_ ca51 rfl I (fun Fr_ hF_ => bs_ hF_  hx8) (cf_ (A.v 7 rfl) rfl (A.v 8 rfl)) (fun w342 I343 => (fo I343))), oc_ fun l A K I => tk_ rfl (A.v 5 rfl) hc6 (bx_ rfl (A.v 9 rfl) (fo I)), ob_ rfl fun l A K I => (ap_ (b := (vb (!x8))) rfl (A.v 5 rfl) hc6 (A.v 10 rfl) (fo I)), ob_ rfl fun l A K I => (aq_ rfl (A.v 11 rfl) (fo I)), oc_ fun l A K I => sk_ rfl (A.v 12 rfl) hc7 (fo I), oc_ fun l A K I => sk_ rfl (A.v 12 rfl) hc7 (fo I), oc_ fun l A K I => sk_ rfl (A.v 12 rfl) hc7 (fo I), oc_ fun l A K I => sk_ rfl (A.v 12 rfl) hc7 (fo I), oc_ fun l A K I => sk_ rfl (A.v 12 rfl) hc7 (fo I), ob_ rfl fun l A K I => (aw_ (a := (vb true)) rfl (A.v 12 rfl) hc7 rfl (fo I)), ob_ rfl fun l A K I => (aq_ rfl (A.v 18 rfl) (fo I)), oc_ fun l A K I => sk_ rfl (A.v 19 rfl) rfl (fo I), oc_ fun l A K I => sk_ rfl (A.v 19 rfl) rfl (fo I), oc_ fun l A K I => sk_ rfl (A.v 19 rfl) rfl (fo I), oc_ fun l A K I => sk_ rfl (A.v 19 rfl) rfl (fo I), oc_ fun l A K I => sk_ rfl (A.v 19 rfl) rfl (fo I), oc_ fun l A K I => sk_ rfl (A.v 19 rfl) rfl (fo I), oc_ fun l A K I => sk_ rfl (A.v 19 rfl) rfl (fo I), oc_ fun l A K I => sk_ rfl (A.v 19 rfl) rfl (fo I), oc_ fun l A K I => sk_ rfl (A.v 19 rfl) rfl (fo I), oc_ fun l A K I => sk_ rfl (A.v 19 rfl) rfl (fo I), oc_ fun l A K I => sk_ rfl (A.v 19 rfl) rfl (fo I), oc_ fun l A K I => sk_ rfl (A.v 19 rfl) rfl (fo I), ob_ rfl fun l A K I => (aw_ (a := (vb true)) rfl (A.v 19 rfl) rfl rfl (fo I)), ob_ rfl fun l A K I => (aq_ rfl (A.v 32 rfl) (fo I)), oc_ fun l A K I => sk_ rfl (A.v 33 rfl) rfl (fo I), oc_ fun l A K I => sk_ rfl (A.v 33 rfl) rfl (fo I), oc_ fun l A K I => sk_ rfl (A.v 33 rfl) rfl (fo I), oc_ fun l A K I => sk_ rfl (A.v 33 rfl) rfl (fo I), oc_ fun l A K I => sk_ rfl (A.v 33 rfl) rfl (fo I), oc_ fun l A K I => sk_ rfl (A.v 33 rfl) rfl (fo I), oc_ fun l A K I => sk_ rfl (A.v 33 rfl) rfl (fo I), oc_ fun l A K I => sk_ rfl (A.v 33 rfl) rfl (fo I), oc_ fun l A K I => sk_ rfl (A.v 33 rfl) rfl (fo I), oc_ fun l A K I => sk_ rfl (A.v 33 rfl) rfl (fo I), oc_ fun l A K I => sk_ rfl (A.v 33 rfl) rfl (fo I), oc_ fun l A K I => sk_ rfl (A.v 33 rfl) rfl (fo I), ?_, trivial⟩ ?_
  ·
   intro vs f w_ U X le A K I
   refine pl_ rfl (aw_ (a := (vb true)) rfl (A.v 33 rfl) rfl rfl (fo I))
  intro vs336 f w380 S338 ed7 le338 hF7 hK336 hI336
  have e32 : f 2 = (pt_ g1) := (hK336 2 (al_ rfl)).trans rfl
  have e33 : f 3 = (pt_ g2) := (hK336 3 (al_ rfl)).trans rfl
  have I381 : Inv w380 S338 (Fr) := hI336
  have q582 := hF7.v 46 rfl
  refine ah_ q582 rfl (ab_ (aa_ (wa_ (v := (vb false)) rfl rfl (ad_ (ak_ ?_)))))
  obtain rfl := sj h
  exact ⟨(ed7.trans rfl), (vb false), (bo_ rfl rfl), _, [], ((le1.trans le2).trans le338), I381, rfl, rfl⟩
 rcases ifs h with ⟨hc8, h⟩ | ⟨hc8, h⟩
 ·
  refine bj_ (sps := [spV 10 [] 0 (an_ (pt_ g2) 0), spV 11 [0] 1 (vi a1.LockA), spV 12 [] 2 (vi (w64 ((a0.Locks.length : Int) - 1))), spV 13 [0, 1, 2] 3 (vb x7), spV 14 [0, 1, 2, 3] 4 (vb (!x7)), spV 15 [0, 1, 2, 3, 4] 5 (vb (!x7)), spV 16 (lrg 6) 6 (an_ (pt_ g2) 2), spV 17 (lrg 7) 7 (vi a1.LockB), spV 18 (lrg 6) 8 (vi (w64 ((a0.Locks.length : Int) - 1))), spV 19 (lrg 9) 9 (vb x8), spV 20 (lrg 10) 10 (vb (!x8)), spV 21 (lrg 11) 11 (vb (!x8)), spV 22 (lrg 12) 12 (vb (!x8)), spV 23 (lrg 13) 13 (an_ (pt_ g2) 0), spV 24 (lrg 14) 14 (vi a1.LockA), spV 25 (lrg 13) 15 (an_ (pt_ g2) 2), spV 26 (lrg 13 ++ [15]) 16 (vi a1.LockB), spV 27 (lrg 17) 17 (vb (a1.LockA == a1.LockB)), spV 28 (lrg 18) 18 (vb (a1.LockA == a1.LockB)), spV 29 (lrg 19) 19 (vb (a1.LockA == a1.LockB)), spV 30 (lrg 20) 20 undef, spV 31 (lrg 21) 21 undef, spV 32 (lrg 20) 22 undef, spV 33 (lrg 20 ++ [22]) 23 undef, spV 34 (lrg 20) 24 undef, spV 35 (lrg 20 ++ [24]) 25 undef, spV 36 (lrg 20 ++ [22, 23, 24, 25]) 26 undef, spV 37 (lrg 20 ++ [22, 23, 24, 25, 26]) 27 undef, spV 38 (lrg 20 ++ [22, 23, 24, 25, 26, 27]) 28 undef, spV 39 (lrg 20 ++ [22, 23, 24, 25, 26, 27, 28]) 29 undef, spV 40 (lrg 30) 30 undef, spV 41 (lrg 31) 31 undef, spV 42 (lrg 32) 32 (vb true), spV 43 (lrg 33) 33 (vb true), spV 44 (lrg 34) 34 undef, spV 45 (lrg 35) 35 undef, spV 46 (lrg 34) 36 undef, spV 47 (lrg 34 ++ [36]) 37 undef, spV 48 (lrg 34) 38 undef, spV 49 (lrg 34 ++ [38]) 39 undef, spV 50 (lrg 34 ++ [36, 37, 38, 39]) 40 undef, spV 51 (lrg 34 ++ [36, 37, 38, 39, 40]) 41 undef, spV 52 (lrg 34 ++ [36, 37, 38, 39, 40, 41]) 42 undef, spV 53 (lrg 34 ++ [36, 37, 38, 39, 40, 41, 42]) 43 undef, spV 54 (lrg 44) 44 undef, spV 55 (lrg 45) 45 undef, spV 56 (lrg 46) 46 (vb true)]) (tks := []) (O := Fr) rfl (by kernel_rfl) I4 ⟨ob_ rfl fun l A K I => (ae_ rfl ja_ (K 3 (ag_ rfl)) ((p2.mono l).at_ I) (fo I)), ob_ rfl fun l A K I => (aj_ rfl sh3 (A.v 0 rfl) (((p2.mono l).at_ I).fld Tie.fld0) (fo I)), ob_ rfl fun l A K I => (aq_ rfl (K 5 (ag_ rfl)) (fo I)), fun vs f w U X l A K I => pl_ rfl (cv_ ca51 rfl I (fun Fr_ hF_ => bs_ hF_  hx7) (cf_ (A.v 1 rfl) rfl (A.v 2 rfl)) (fun w389 I390 => (fo I390))), ob_ rfl fun l A K I => (bx_ rfl (A.v 3 rfl) (fo I)), ob_ rfl fun l A K I => (aq_ rfl (A.v 4 rfl) (fo I)), oc_ fun l A K I => tk_ rfl (A.v 5 rfl) hc6 (ae_ rfl ke_ (K 3 (ag_ rfl)) ((p2.mono l).at_ I) (fo I)), oc_ fun l A K I => tk_ rfl (A.v 5 rfl) hc6 (aj_ rfl sh3 (A.v 6 rfl) (((p2.mono l).at_ I).fld Tie.fld2) (fo I)), oc_ fun l A K I => tk_ rfl (A.v 5 rfl) hc6 (aq_ rfl (K 5 (ag_ rfl)) (fo I)), fun vs f w U X l A K I => tk_ rfl (A.v 5 rfl) hc6 (cv_ ca51 rfl I (fun Fr_ hF_ => bs_ hF_  hx8) (cf_ (A.v 7 rfl) rfl (A.v 8 rfl)) (fun w396 I397 => (fo I397))), oc_ fun l A K I => tk_ rfl (A.v 5 rfl) hc6 (bx_ rfl (A.v 9 rfl) (fo I)), ob_ rfl fun l A K I => (ap_ (b := (vb (!x8))) rfl (A.v 5 rfl) hc6 (A.v 10 rfl) (fo I)), ob_ rfl fun l A K I => (aq_ rfl (A.v 11 rfl) (fo I)), oc_ fun l A K I => tk_ rfl (A.v 12 rfl) hc7 (ae_ rfl ja_ (K 3 (ag_ rfl)) ((p2.mono l).at_ I) (fo I)), oc_ fun l A K I => tk_ rfl (A.v 12 rfl) hc7 (aj_ rfl sh3 (A.v 13 rfl) (((p2.mono l).at_ I).fld Tie.fld0) (fo I)), oc_ fun l A K I => tk_ rfl (A.v 12 rfl) hc7 (ae_ rfl ke_ (K 3 (ag_ rfl)) ((p2.mono l).at_ I) (fo I)), oc_ fun l A K I => tk_ rfl (A.v 12 rfl) hc7 (aj_ rfl sh3 (A.v 13 rfl) (((p2.mono l).at_ I).fld Tie.fld2) (fo I)), oc_ fun l A K I => tk_ rfl (A.v 12 rfl) hc7 (bm_ rfl (A.v 14 rfl) (A.v 16 rfl) (fo I)), ob_ rfl fun l A K I => (ap_ (b := (vb (a1.LockA == a1.LockB))) rfl (A.v 12 rfl) hc7 (A.v 17 rfl) (fo I)), ob_ rfl fun l A K I => (aq_ rfl (A.v 18 rfl) (fo I)), oc_ fun l A K I => sk_ rfl (A.v 19 rfl) hc8 (fo I), oc_ fun l A K I => sk_ rfl (A.v 19 rfl) hc8 (fo I), oc_ fun l A K I => sk_ rfl (A.v 19 rfl) hc8 (fo I), oc_ fun l A K I => sk_ rfl (A.v 19 rfl) hc8 (fo I), oc_ fun l A K I => sk_ rfl (A.v 19 rfl) hc8 (fo I), oc_ fun l A K I => sk_ rfl (A.v 19 rfl) hc8 (fo I), oc_ fun l A K I => sk_ rfl (A.v 19 rfl) hc8 (fo I), oc_ fun l A K I => sk_ rfl (A.v 19 rfl) hc8 (fo I), oc_ fun l A K I => sk_ rfl (A.v 19 rfl) hc8 (fo I), oc_ fun l A K I => sk_ rfl (A.v 19 rfl) hc8 (fo I), oc_ fun l A K I => sk_ rfl (A.v 19 rfl) hc8 (fo I), oc_ fun l A K I => sk_ rfl (A.v 19 rfl) hc8 (fo I), ob_ rfl fun l A K I => (aw_ (a := (vb true)) rfl (A.v 19 rfl) hc8 rfl (fo I)), ob_ rfl fun l A K I => (aq_ rfl (A.v 32 rfl) (fo I)), oc_ fun l A K I => sk_ rfl (A.v 33 rfl) rfl (fo I), oc_ fun l A K I => sk_ rfl (A.v 33 rfl) rfl (fo I), oc_ fun l A K I => sk_ rfl (A.v 33 rfl) rfl (fo I), oc_ fun l A K I => sk_ rfl (A.v 33 rfl) rfl (fo I), oc_ fun l A K I => sk_ rfl (A.v 33 rfl) rfl (fo I), oc_ fun l A K I => sk_ rfl (A.v 33 rfl) rfl (fo I), oc_ fun l A K I => sk_ rfl (A.v 33 rfl) rfl (fo I), oc_ fun l A K I => sk_ rfl (A.v 33 rfl) rfl (fo I), oc_ fun l A K I => sk_ rfl (A.v 33 rfl) rfl (fo I), oc_ fun l A K I => sk_ rfl (A.v 33 rfl) rfl (fo I), oc_ fun l A K I => sk_ rfl (A.v 33 rfl) rfl (fo I), oc_ fun l A K I => sk_ rfl (A.v 33 rfl) rfl (fo I), ?_, trivial⟩ ?_
  ·
   intro vs f w_ U X le A K I
   refine pl_ rfl (aw_ (a := (vb true)) rfl (A.v 33 rfl) rfl rfl (fo I))
  intro vs384 f w434 S386 ed8 le386 hF8 hK384 hI384
  have e34 : f 2 = (pt_ g1) := (hK384 2 (al_ rfl)).trans rfl
  have e35 : f 3 = (pt_ g2) := (hK384 3 (al_ rfl)).trans rfl
  have I435 : Inv w434 S386 (Fr) := hI384
  have q663 := hF8.v 46 rfl
  refine ah_ q663 rfl (ab_ (aa_ (wa_ (v := (vb false)) rfl rfl (ad_ (ak_ ?_)))))
  obtain rfl := sj h
  exact ⟨(ed8.trans rfl), (vb false), (bo_ rfl rfl), _, [], ((le1.trans le2).trans le386), I435, rfl, rfl⟩
 obtain ⟨x9, hx9, h⟩ := bnd h
 obtain ⟨x10, hx10, h⟩ := bnd h
 rcases ifs h with ⟨hc9, h⟩ | ⟨hc9, h⟩
 ·
  refine bj_ (sps := [spV 10 [] 0 (an_ (pt_ g2) 0), spV 11 [0] 1 (vi a1.LockA), spV 12 [] 2 (vi (w64 ((a0.Locks.length : Int) - 1))), spV 13 [0, 1, 2] 3 (vb x7), spV 14 [0, 1, 2, 3] 4 (vb (!x7)), spV 15 [0, 1, 2, 3, 4] 5 (vb (!x7)), spV 16 (lrg 6) 6 (an_ (pt_ g2) 2), spV 17 (lrg 7) 7 (vi a1.LockB), spV 18 (lrg 6) 8 (vi (w64 ((a0.Locks.length : Int) - 1))), spV 19 (lrg 9) 9 (vb x8), spV 20 (lrg 10) 10 (vb (!x8)), spV 21 (lrg 11) 11 (vb (!x8)), spV 22 (lrg 12) 12 (vb (!x8)), spV 23 (lrg 13) 13 (an_ (pt_ g2) 0), spV 24 (lrg 14) 14 (vi a1.LockA), spV 25 (lrg 13) 15 (an_ (pt_ g2) 2), spV 26 (lrg 13 ++ [15]) 16 (vi a1.LockB), spV 27 (lrg 17) 17 (vb (a1.LockA == a1.LockB)), spV 28 (lrg 18) 18 (vb (a1.LockA == a1.LockB)), spV 29 (lrg 19) 19 (vb (a1.LockA == a1.LockB)), spV 30 (lrg 20) 20 (an_ (pt_ g2) 1), spV 31 (lrg 21) 21 (vi a1.WheelA), spV 32 (lrg 20) 22 (an_ (pt_ g1) 0), spR 33 (lrg 20 ++ [22]) 23 (a0.Locks), spV 34 (lrg 20) 24 (an_ (pt_ g2) 0), spV 35 (lrg 20 ++ [24]) 25 (vi a1.LockA), spW 36 (lrg 20 ++ [22, 23, 24, 25]) [26, 23] fun vs_ => (af_ (fr0 vs_ 1) (a1.LockA) (Enc.sz CodeLock)), spW 37 (lrg 20 ++ [22, 23, 24, 25, 26]) [27, 23] fun vs_ => (an_ (af_ (fr0 vs_ 1) (a1.LockA) (Enc.sz CodeLock)) 0), spV 38 (lrg 20 ++ [22, 23, 24, 25, 26, 27]) 28 (vi x9.Wheels), spV 39 (lrg 20 ++ [22, 23, 24, 25, 26, 27, 28]) 29 (vi (w64 (x9.Wheels - 1))), spV 40 (lrg 30) 30 (vb x10), spV 41 (lrg 31) 31 (vb (!x10)), spV 42 (lrg 32) 32 (vb (!x10)), spV 43 (lrg 33) 33 (vb (!x10)), spV 44 (lrg 34) 34 undef, spV 45 (lrg 35) 35 undef, spV 46 (lrg 34) 36 undef, spV 47 (lrg 34 ++ [36]) 37 undef, spV 48 (lrg 34) 38 undef, spV 49 (lrg 34 ++ [38]) 39 undef, spV 50 (lrg 34 ++ [36, 37, 38, 39]) 40 undef, spV 51 (lrg 34 ++ [36, 37, 38, 39, 40]) 41 undef, spV 52 (lrg 34 ++ [36, 37, 38, 39, 40, 41]) 42 undef, spV 53 (lrg 34 ++ [36, 37, 38, 39, 40, 41, 42]) 43 undef, spV 54 (lrg 44) 44 undef, spV 55 (lrg 45) 45 undef, spV 56 (lrg 46) 46 (vb true)]) (tks := []) (O := Fr) rfl (by kernel_rfl) I4 ⟨ob_ rfl fun l A K I => (ae_ rfl ja_ (K 3 (ag_ rfl)) ((p2.mono l).at_ I) (fo I)), ob_ rfl fun l A K I => (aj_ rfl sh3 (A.v 0 rfl) (((p2.mono l).at_ I).fld Tie.fld0) (fo I)), ob_ rfl fun l A K I => (aq_ rfl (K 5 (ag_ rfl)) (fo I)), fun vs f w U X l A K I => pl_ rfl (cv_ ca51 rfl I (fun Fr_ hF_ => bs_ hF_  hx7) (cf_ (A.v 1 rfl) rfl (A.v 2 rfl)) (fun w445 I446 => (fo I446))), ob_ rfl fun l A K I => (bx_ rfl (A.v 3 rfl) (fo I)), ob_ rfl fun l A K I => (aq_ rfl (A.v 4 rfl) (fo I)), oc_ fun l A K I => tk_ rfl (A.v 5 rfl) hc6 (ae_ rfl ke_ (K 3 (ag_ rfl)) ((p2.mono l).at_ I) (fo I)), oc_ fun l A K I => tk_ rfl (A.v 5 rfl) hc6 (aj_ rfl sh3 (A.v 6 rfl) (((p2.mono l).at_ I).fld Tie.fld2) (fo I)), oc_ fun l A K I => tk_ rfl (A.v 5 rfl) hc6 (aq_ rfl (K 5 (ag_ rfl)) (fo I)), fun vs f w U X l A K I => tk_ rfl (A.v 5 rfl) hc6 (cv_ ca51 rfl I (fun Fr_ hF_ => bs_ hF_  hx8) (cf_ (A.v 7 rfl) rfl (A.v 8 rfl)) (fun w452 I453 => (fo I453))), oc_ fun l A K I => tk_ rfl (A.v 5 rfl) hc6 (bx_ rfl (A.v 9 rfl) (fo I)), ob_ rfl fun l A K I => (ap_ (b := (vb (!x8))) rfl (A.v 5 rfl) hc6 (A.v 10 rfl) (fo I)), ob_ rfl fun l A K I => (aq_ rfl (A.v 11 rfl) (fo I)), oc_ fun l A K I => tk_ rfl (A.v 12 rfl) hc7 (ae_ rfl ja_ (K 3 (ag_ rfl)) ((p2.mono l).at_ I) (fo I)), oc_ fun l A K I => tk_ rfl (A.v 12 rfl) hc7 (aj_ rfl sh3 (A.v 13 rfl) (((p2.mono l).at_ I).fld Tie.fld0) (fo I)), oc_ fun l A K I => tk_ rfl (A.v 12 rfl) hc7 (ae_ rfl ke_ (K 3 (ag_ rfl)) ((p2.mono l).at_ I) (fo I)), oc_ fun l A K I => tk_ rfl (A.v 12 rfl) hc7 (aj_ rfl sh3 (A.v 13 rfl) (((p2.mono l).at_ I).fld Tie.fld2) (fo I)), oc_ fun l A K I => tk_ rfl (A.v 12 rfl) hc7 (bm_ rfl (A.v 14 rfl) (A.v 16 rfl) (fo I)), ob_ rfl fun l A K I => (ap_ (b := (vb (a1.LockA == a1.LockB))) rfl (A.v 12 rfl) hc7 (A.v 17 rfl) (fo I)), ob_ rfl fun l A K I => (aq_ rfl (A.v 18 rfl) (fo I)), oc_ fun l A K I => tk_ rfl (A.v 19 rfl) hc8 (ae_ rfl rt_ (K 3 (ag_ rfl)) ((p2.mono l).at_ I) (fo I)), oc_ fun l A K I => tk_ rfl (A.v 19 rfl) hc8 (aj_ rfl sh3 (A.v 20 rfl) (((p2.mono l).at_ I).fld Tie.fld1) (fo I)), oc_ fun l A K I => tk_ rfl (A.v 19 rfl) hc8 (ae_ rfl co_ (K 2 (ag_ rfl)) ((p1.mono (le2.trans l)).at_ I) (fo I)), ?_, oc_ fun l A K I => tk_ rfl (A.v 19 rfl) hc8 (ae_ rfl ja_ (K 3 (ag_ rfl)) ((p2.mono l).at_ I) (fo I)), oc_ fun l A K I => tk_ rfl (A.v 19 rfl) hc8 (aj_ rfl sh3 (A.v 20 rfl) (((p2.mono l).at_ I).fld Tie.fld0) (fo I)), ?_, ?_, ?_, oc_ fun l A K I => tk_ rfl (A.v 19 rfl) hc8 (eb_ rfl (A.v 26 rfl) rfl (fo I)), fun vs f w U X l A K I => tk_ rfl (A.v 19 rfl) hc8 (cv_ ca51 rfl I (fun Fr_ hF_ => bs_ hF_  hx10) (cf_ (A.v 21 rfl) rfl (A.v 29 rfl)) (fun w474 I475 => (fo I475))), oc_ fun l A K I => tk_ rfl (A.v 19 rfl) hc8 (bx_ rfl (A.v 30 rfl) (fo I)), ob_ rfl fun l A K I => (ap_ (b := (vb (!x10))) rfl (A.v 19 rfl) hc8 (A.v 31 rfl) (fo I)), ob_ rfl fun l A K I => (aq_ rfl (A.v 32 rfl) (fo I)), oc_ fun l A K I => sk_ rfl (A.v 33 rfl) hc9 (fo I), oc_ fun l A K I => sk_ rfl (A.v 33 rfl) hc9 (fo I), oc_ fun l A K I => sk_ rfl (A.v 33 rfl) hc9 (fo I), oc_ fun l A K I => sk_ rfl (A.v 33 rfl) hc9 (fo I), oc_ fun l A K I => sk_ rfl (A.v 33 rfl) hc9 (fo I), oc_ fun l A K I => sk_ rfl (A.v 33 rfl) hc9 (fo I), oc_ fun l A K I => sk_ rfl (A.v 33 rfl) hc9 (fo I), oc_ fun l A K I => sk_ rfl (A.v 33 rfl) hc9 (fo I), oc_ fun l A K I => sk_ rfl (A.v 33 rfl) hc9 (fo I), oc_ fun l A K I => sk_ rfl (A.v 33 rfl) hc9 (fo I), oc_ fun l A K I => sk_ rfl (A.v 33 rfl) hc9 (fo I), oc_ fun l A K I => sk_ rfl (A.v 33 rfl) hc9 (fo I), ?_, trivial⟩ ?_
  ·
   intro vs f w_ U X le A K I
   have q697 := A.v 19 rfl
   have q698 := A.v 20 rfl
   refine tk_ rfl q697 hc8 (ay_ rfl mh_ q698 (((p1.mono (le2.trans le)).at_ I).fld Riddle.fld0) (fun u20 hu20 => ?_))
   obtain ⟨z18, m18, k18, rfl⟩ := ac_ hu20
   refine ⟨_, _, rfl, lr, ?_, ?_⟩
   · exact hu20
   exact I
  ·
   intro vs f w_ U X le A K I
   have q702 := A.v 19 rfl
   obtain ⟨z19, m19, k19, hu21, q703, r14⟩ := A.sl (a := 23) 21 rfl rfl rfl
   have q704 := A.v 23 rfl
   refine tk_ rfl q702 hc8 (ix_ Tryz.underlying22 im_ r14 hx9 q703 q704 (⟨_, _, rfl, lr, ?_, ?_⟩))
   ·
    show (af_ (Value.slice z19 m19 k19) (a1.LockA) (Enc.sz CodeLock)) = (af_ (vs 23) (a1.LockA) (Enc.sz CodeLock))
    simp only [hu21] <;> rfl
   exact I
  ·
   intro vs f w_ U X le A K I
   have q705 := A.v 19 rfl
   obtain ⟨z20, m20, k20, hu22, q706, r15⟩ := A.sl (a := 23) 21 rfl rfl rfl
   have q707 := A.v 23 rfl
   have q708 : f 36 = (af_ (vs 23) (a1.LockA) (Enc.sz CodeLock)) := A.v 24 rfl
   simp only [hu22] at q708
   have q708 : f 36 = (af_ (Value.slice z20 m20 k20) (a1.LockA) (Enc.sz CodeLock)) := q708
   refine tk_ rfl q705 hc8 (ae_ rfl hh_ q708 (r15.elem I.in_ hx9) (⟨_, _, rfl, lr, ?_, ?_⟩))
   ·
    show (an_ (af_ (Value.slice z20 m20 k20) (a1.LockA) (Enc.sz CodeLock)) 0) = (an_ (af_ (vs 23) (a1.LockA) (Enc.sz CodeLock)) 0)
    simp only [hu22] <;> rfl
   exact I
  ·
   intro vs f w_ U X le A K I
   obtain ⟨z21, m21, k21, hu23, q710, r16⟩ := A.sl (a := 23) 21 rfl rfl rfl
   have q712 : f 36 = (af_ (vs 23) (a1.LockA) (Enc.sz CodeLock)) := A.v 24 rfl
   simp only [hu23] at q712
   have q712 : f 36 = (af_ (Value.slice z21 m21 k21) (a1.LockA) (Enc.sz CodeLock)) := q712
   have q713 : f 37 = (an_ (af_ (vs 23) (a1.LockA) (Enc.sz CodeLock)) 0) := A.v 25 rfl
   simp only [hu23] at q713
   have q713 : f 37 = (an_ (af_ (Value.slice z21 m21 k21) (a1.LockA) (Enc.sz CodeLock)) 0) := q713
   refine tk_ rfl (A.v 19 rfl) hc8 (aj_ rfl sh3 q713 ((r16.elem I.in_ hx9).fld CodeLock.fld0) (fo I))
  ·
   intro vs f w_ U X le A K I
   refine pl_ rfl (aw_ (a := (vb true)) rfl (A.v 33 rfl) hc9 rfl (fo I))
  intro vs432 f w491 S434 ed9 le434 hF9 hK432 hI432
  have e40 : f 2 = (pt_ g1) := (hK432 2 (al_ rfl)).trans rfl
  have e41 : f 3 = (pt_ g2) := (hK432 3 (al_ rfl)).trans rfl
  have I492 : Inv w491 S434 (Fr) := hI432
  have q749 := hF9.v 46 rfl
  refine ah_ q749 rfl (ab_ (aa_ (wa_ (v := (vb false)) rfl rfl (ad_ (ak_ ?_)))))
  obtain rfl := sj h
  exact ⟨(ed9.trans rfl), (vb false), (bo_ rfl rfl), _, [], ((le1.trans le2).trans le434), I492, rfl, rfl⟩
 obtain ⟨x11, hx11, h⟩ := bnd h
 obtain ⟨x12, hx12, h⟩ := bnd h
 refine bj_ (sps := [spV 10 [] 0 (an_ (pt_ g2) 0), spV 11 [0] 1 (vi a1.LockA), spV 12 [] 2 (vi (w64 ((a0.Locks.length : Int) - 1))), spV 13 [0, 1, 2] 3 (vb x7), spV 14 [0, 1, 2, 3] 4 (vb (!x7)), spV 15 [0, 1, 2, 3, 4] 5 (vb (!x7)), spV 16 (lrg 6) 6 (an_ (pt_ g2) 2), spV 17 (lrg 7) 7 (vi a1.LockB), spV 18 (lrg 6) 8 (vi (w64 ((a0.Locks.length : Int) - 1))), spV 19 (lrg 9) 9 (vb x8), spV 20 (lrg 10) 10 (vb (!x8)), spV 21 (lrg 11) 11 (vb (!x8)), spV 22 (lrg 12) 12 (vb (!x8)), spV 23 (lrg 13) 13 (an_ (pt_ g2) 0), spV 24 (lrg 14) 14 (vi a1.LockA), spV 25 (lrg 13) 15 (an_ (pt_ g2) 2), spV 26 (lrg 13 ++ [15]) 16 (vi a1.LockB), spV 27 (lrg 17) 17 (vb (a1.LockA == a1.LockB)), spV 28 (lrg 18) 18 (vb (a1.LockA == a1.LockB)), spV 29 (lrg 19) 19 (vb (a1.LockA == a1.LockB)), spV 30 (lrg 20) 20 (an_ (pt_ g2) 1), spV 31 (lrg 21) 21 (vi a1.WheelA), spV 32 (lrg 20) 22 (an_ (pt_ g1) 0), spR 33 (lrg 20 ++ [22]) 23 (a0.Locks), spV 34 (lrg 20) 24 (an_ (pt_ g2) 0), spV 35 (lrg 20 ++ [24]) 25 (vi a1.LockA), spW 36 (lrg 20 ++ [22, 23, 24, 25]) [26, 23] fun vs_ => (af_ (fr0 vs_ 1) (a1.LockA) (Enc.sz CodeLock)), spW 37 (lrg 20 ++ [22, 23, 24, 25, 26]) [27, 23] fun vs_ => (an_ (af_ (fr0 vs_ 1) (a1.LockA) (Enc.sz CodeLock)) 0), spV 38 (lrg 20 ++ [22, 23, 24, 25, 26, 27]) 28 (vi x9.Wheels), spV 39 (lrg 20 ++ [22, 23, 24, 25, 26, 27, 28]) 29 (vi (w64 (x9.Wheels - 1))), spV 40 (lrg 30) 30 (vb x10), spV 41 (lrg 31) 31 (vb (!x10)), spV 42 (lrg 32) 32 (vb (!x10)), spV 43 (lrg 33) 33 (vb (!x10)), spV 44 (lrg 34) 34 (an_ (pt_ g2) 3), spV 45 (lrg 35) 35 (vi a1.WheelB), spV 46 (lrg 34) 36 (an_ (pt_ g1) 0), spR 47 (lrg 34 ++ [36]) 37 (a0.Locks), spV 48 (lrg 34) 38 (an_ (pt_ g2) 2), spV 49 (lrg 34 ++ [38]) 39 (vi a1.LockB), spW 50 (lrg 34 ++ [36, 37, 38, 39]) [40, 37] fun vs_ => (af_ (fr0 vs_ 1) (a1.LockB) (Enc.sz CodeLock)), spW 51 (lrg 34 ++ [36, 37, 38, 39, 40]) [41, 37] fun vs_ => (an_ (af_ (fr0 vs_ 1) (a1.LockB) (Enc.sz CodeLock)) 0), spV 52 (lrg 34 ++ [36, 37, 38, 39, 40, 41]) 42 (vi x11.Wheels), spV 53 (lrg 34 ++ [36, 37, 38, 39, 40, 41, 42]) 43 (vi (w64 (x11.Wheels - 1))), spV 54 (lrg 44) 44 (vb x12), spV 55 (lrg 45) 45 (vb (!x12)), spV 56 (lrg 46) 46 (vb (!x12))]) (tks := []) (O := Fr) rfl (by kernel_rfl) I4 ⟨ob_ rfl fun l A K I => (ae_ rfl ja_ (K 3 (ag_ rfl)) ((p2.mono l).at_ I) (fo I)), ob_ rfl fun l A K I => (aj_ rfl sh3 (A.v 0 rfl) (((p2.mono l).at_ I).fld Tie.fld0) (fo I)), ob_ rfl fun l A K I => (aq_ rfl (K 5 (ag_ rfl)) (fo I)), fun vs f w U X l A K I => pl_ rfl (cv_ ca51 rfl I (fun Fr_ hF_ => bs_ hF_  hx7) (cf_ (A.v 1 rfl) rfl (A.v 2 rfl)) (fun w500 I501 => (fo I501))), ob_ rfl fun l A K I => (bx_ rfl (A.v 3 rfl) (fo I)), ob_ rfl fun l A K I => (aq_ rfl (A.v 4 rfl) (fo I)), oc_ fun l A K I => tk_ rfl (A.v 5 rfl) hc6 (ae_ rfl ke_ (K 3 (ag_ rfl)) ((p2.mono l).at_ I) (fo I)), oc_ fun l A K I => tk_ rfl (A.v 5 rfl) hc6 (aj_ rfl sh3 (A.v 6 rfl) (((p2.mono l).at_ I).fld Tie.fld2) (fo I)), oc_ fun l A K I => tk_ rfl (A.v 5 rfl) hc6 (aq_ rfl (K 5 (ag_ rfl)) (fo I)), fun vs f w U X l A K I => tk_ rfl (A.v 5 rfl) hc6 (cv_ ca51 rfl I (fun Fr_ hF_ => bs_ hF_  hx8) (cf_ (A.v 7 rfl) rfl (A.v 8 rfl)) (fun w507 I508 => (fo I508))), oc_ fun l A K I => tk_ rfl (A.v 5 rfl) hc6 (bx_ rfl (A.v 9 rfl) (fo I)), ob_ rfl fun l A K I => (ap_ (b := (vb (!x8))) rfl (A.v 5 rfl) hc6 (A.v 10 rfl) (fo I)), ob_ rfl fun l A K I => (aq_ rfl (A.v 11 rfl) (fo I)), oc_ fun l A K I => tk_ rfl (A.v 12 rfl) hc7 (ae_ rfl ja_ (K 3 (ag_ rfl)) ((p2.mono l).at_ I) (fo I)), oc_ fun l A K I => tk_ rfl (A.v 12 rfl) hc7 (aj_ rfl sh3 (A.v 13 rfl) (((p2.mono l).at_ I).fld Tie.fld0) (fo I)), oc_ fun l A K I => tk_ rfl (A.v 12 rfl) hc7 (ae_ rfl ke_ (K 3 (ag_ rfl)) ((p2.mono l).at_ I) (fo I)), oc_ fun l A K I => tk_ rfl (A.v 12 rfl) hc7 (aj_ rfl sh3 (A.v 13 rfl) (((p2.mono l).at_ I).fld Tie.fld2) (fo I)), oc_ fun l A K I => tk_ rfl (A.v 12 rfl) hc7 (bm_ rfl (A.v 14 rfl) (A.v 16 rfl) (fo I)), ob_ rfl fun l A K I => (ap_ (b := (vb (a1.LockA == a1.LockB))) rfl (A.v 12 rfl) hc7 (A.v 17 rfl) (fo I)), ob_ rfl fun l A K I => (aq_ rfl (A.v 18 rfl) (fo I)), oc_ fun l A K I => tk_ rfl (A.v 19 rfl) hc8 (ae_ rfl rt_ (K 3 (ag_ rfl)) ((p2.mono l).at_ I) (fo I)), oc_ fun l A K I => tk_ rfl (A.v 19 rfl) hc8 (aj_ rfl sh3 (A.v 20 rfl) (((p2.mono l).at_ I).fld Tie.fld1) (fo I)), oc_ fun l A K I => tk_ rfl (A.v 19 rfl) hc8 (ae_ rfl co_ (K 2 (ag_ rfl)) ((p1.mono (le2.trans l)).at_ I) (fo I)), ?_, oc_ fun l A K I => tk_ rfl (A.v 19 rfl) hc8 (ae_ rfl ja_ (K 3 (ag_ rfl)) ((p2.mono l).at_ I) (fo I)), oc_ fun l A K I => tk_ rfl (A.v 19 rfl) hc8 (aj_ rfl sh3 (A.v 20 rfl) (((p2.mono l).at_ I).fld Tie.fld0) (fo I)), ?_, ?_, ?_, oc_ fun l A K I => tk_ rfl (A.v 19 rfl) hc8 (eb_ rfl (A.v 26 rfl) rfl (fo I)), fun vs f w U X l A K I => tk_ rfl (A.v 19 rfl) hc8 (cv_ ca51 rfl I (fun Fr_ hF_ => bs_ hF_  hx10) (cf_ (A.v 21 rfl) rfl (A.v 29 rfl)) (fun w529 I530 => (fo I530))), oc_ fun l A K I => tk_ rfl (A.v 19 rfl) hc8 (bx_ rfl (A.v 30 rfl) (fo I)), ob_ rfl fun l A K I => (ap_ (b := (vb (!x10))) rfl (A.v 19 rfl) hc8 (A.v 31 rfl) (fo I)), ob_ rfl fun l A K I => (aq_ rfl (A.v 32 rfl) (fo I)), oc_ fun l A K I => tk_ rfl (A.v 33 rfl) hc9 (ae_ rfl vn_ (K 3 (ag_ rfl)) ((p2.mono l).at_ I) (fo I)), oc_ fun l A K I => tk_ rfl (A.v 33 rfl) hc9 (aj_ rfl sh3 (A.v 34 rfl) (((p2.mono l).at_ I).fld Tie.fld3) (fo I)), oc_ fun l A K I => tk_ rfl (A.v 33 rfl) hc9 (ae_ rfl co_ (K 2 (ag_ rfl)) ((p1.mono (le2.trans l)).at_ I) (fo I)), ?_, oc_ fun l A K I => tk_ rfl (A.v 33 rfl) hc9 (ae_ rfl ke_ (K 3 (ag_ rfl)) ((p2.mono l).at_ I) (fo I)), oc_ fun l A K I => tk_ rfl (A.v 33 rfl) hc9 (aj_ rfl sh3 (A.v 34 rfl) (((p2.mono l).at_ I).fld Tie.fld2) (fo I)), ?_, ?_, ?_, oc_ fun l A K I => tk_ rfl (A.v 33 rfl) hc9 (eb_ rfl (A.v 40 rfl) rfl (fo I)), fun vs f w U X l A K I => tk_ rfl (A.v 33 rfl) hc9 (cv_ ca51 rfl I (fun Fr_ hF_ => bs_ hF_  hx12) (cf_ (A.v 35 rfl) rfl (A.v 43 rfl)) (fun w544 I545 => (fo I545))), oc_ fun l A K I => tk_ rfl (A.v 33 rfl) hc9 (bx_ rfl (A.v 44 rfl) (fo I)), ?_, trivial⟩ ?_
 ·
  intro vs f w_ U X le A K I
  have q783 := A.v 19 rfl
  have q784 := A.v 20 rfl
  refine tk_ rfl q783 hc8 (ay_ rfl mh_ q784 (((p1.mono (le2.trans le)).at_ I).fld Riddle.fld0) (fun u26 hu26 => ?_))
  obtain ⟨z22, m22, k22, rfl⟩ := ac_ hu26
  refine ⟨_, _, rfl, lr, ?_, ?_⟩
  · exact hu26
  exact I
 ·
  intro vs f w_ U X le A K I
  have q788 := A.v 19 rfl
  obtain ⟨z23, m23, k23, hu27, q789, r17⟩ := A.sl (a := 23) 21 rfl rfl rfl
  have q790 := A.v 23 rfl
  refine tk_ rfl q788 hc8 (ix_ Tryz.underlying22 im_ r17 hx9 q789 q790 (⟨_, _, rfl, lr, ?_, ?_⟩))
  ·
   show (af_ (Value.slice z23 m23 k23) (a1.LockA) (Enc.sz CodeLock)) = (af_ (vs 23) (a1.LockA) (Enc.sz CodeLock))
   simp only [hu27] <;> rfl
  exact I
 ·
  intro vs f w_ U X le A K I
  have q791 := A.v 19 rfl
  obtain ⟨z24, m24, k24, hu28, q792, r18⟩ := A.sl (a := 23) 21 rfl rfl rfl
  have q793 := A.v 23 rfl
  have q794 : f 36 = (af_ (vs 23) (a1.LockA) (Enc.sz CodeLock)) := A.v 24 rfl
  simp only [hu28] at q794
  have q794 : f 36 = (af_ (Value.slice z24 m24 k24) (a1.LockA) (Enc.sz CodeLock)) := q794
  refine tk_ rfl q791 hc8 (ae_ rfl hh_ q794 (r18.elem I.in_ hx9) (⟨_, _, rfl, lr, ?_, ?_⟩))
  ·
   show (an_ (af_ (Value.slice z24 m24 k24) (a1.LockA) (Enc.sz CodeLock)) 0) = (an_ (af_ (vs 23) (a1.LockA) (Enc.sz CodeLock)) 0)
   simp only [hu28] <;> rfl
  exact I
 ·
  intro vs f w_ U X le A K I
  obtain ⟨z25, m25, k25, hu29, q796, r19⟩ := A.sl (a := 23) 21 rfl rfl rfl
  have q798 : f 36 = (af_ (vs 23) (a1.LockA) (Enc.sz CodeLock)) := A.v 24 rfl
  simp only [hu29] at q798
  have q798 : f 36 = (af_ (Value.slice z25 m25 k25) (a1.LockA) (Enc.sz CodeLock)) := q798
  have q799 : f 37 = (an_ (af_ (vs 23) (a1.LockA) (Enc.sz CodeLock)) 0) := A.v 25 rfl
  simp only [hu29] at q799
  have q799 : f 37 = (an_ (af_ (Value.slice z25 m25 k25) (a1.LockA) (Enc.sz CodeLock)) 0) := q799
  refine tk_ rfl (A.v 19 rfl) hc8 (aj_ rfl sh3 q799 ((r19.elem I.in_ hx9).fld CodeLock.fld0) (fo I))
 ·
  intro vs f w_ U X le A K I
  have q814 := A.v 33 rfl
  have q815 := A.v 34 rfl
  refine tk_ rfl q814 hc9 (ay_ rfl mh_ q815 (((p1.mono (le2.trans le)).at_ I).fld Riddle.fld0) (fun u30 hu30 => ?_))
  obtain ⟨z26, m26, k26, rfl⟩ := ac_ hu30
  refine ⟨_, _, rfl, lr, ?_, ?_⟩
  · exact hu30
  exact I
 ·
  intro vs f w_ U X le A K I
  have q819 := A.v 33 rfl
  obtain ⟨z27, m27, k27, hu31, q820, r20⟩ := A.sl (a := 37) 35 rfl rfl rfl
  have q821 := A.v 37 rfl
  refine tk_ rfl q819 hc9 (ix_ Tryz.underlying22 im_ r20 hx11 q820 q821 (⟨_, _, rfl, lr, ?_, ?_⟩))
  ·
   show (af_ (Value.slice z27 m27 k27) (a1.LockB) (Enc.sz CodeLock)) = (af_ (vs 37) (a1.LockB) (Enc.sz CodeLock))
   simp only [hu31] <;> rfl
  exact I
 ·
  intro vs f w_ U X le A K I
  have q822 := A.v 33 rfl
  obtain ⟨z28, m28, k28, hu32, q823, r21⟩ := A.sl (a := 37) 35 rfl rfl rfl
  have q824 := A.v 37 rfl
  have q825 : f 50 = (af_ (vs 37) (a1.LockB) (Enc.sz CodeLock)) := A.v 38 rfl
  simp only [hu32] at q825
  have q825 : f 50 = (af_ (Value.slice z28 m28 k28) (a1.LockB) (Enc.sz CodeLock)) := q825
  refine tk_ rfl q822 hc9 (ae_ rfl hh_ q825 (r21.elem I.in_ hx11) (⟨_, _, rfl, lr, ?_, ?_⟩))
  ·
   show (an_ (af_ (Value.slice z28 m28 k28) (a1.LockB) (Enc.sz CodeLock)) 0) = (an_ (af_ (vs 37) (a1.LockB) (Enc.sz CodeLock)) 0)
   simp only [hu32] <;> rfl
  exact I
 ·
  intro vs f w_ U X le A K I
  obtain ⟨z29, m29, k29, hu33, q827, r22⟩ := A.sl (a := 37) 35 rfl rfl rfl
  have q829 : f 50 = (af_ (vs 37) (a1.LockB) (Enc.sz CodeLock)) := A.v 38 rfl
  simp only [hu33] at q829
  have q829 : f 50 = (af_ (Value.slice z29 m29 k29) (a1.LockB) (Enc.sz CodeLock)) := q829
  have q830 : f 51 = (an_ (af_ (vs 37) (a1.LockB) (Enc.sz CodeLock)) 0) := A.v 39 rfl
  simp only [hu33] at q830
  have q830 : f 51 = (an_ (af_ (Value.slice z29 m29 k29) (a1.LockB) (Enc.sz CodeLock)) 0) := q830
  refine tk_ rfl (A.v 33 rfl) hc9 (aj_ rfl sh3 q830 ((r22.elem I.in_ hx11).fld CodeLock.fld0) (fo I))
 ·
  intro vs f w_ U X le A K I
  refine pl_ rfl (ap_ (b := (vb (!x12))) rfl (A.v 33 rfl) hc9 (A.v 45 rfl) (fo I))
 intro vs480 f w547 S482 ed10 le482 hF10 hK480 hI480
 have e50 : f 2 = (pt_ g1) := (hK480 2 (al_ rfl)).trans rfl
 have e51 : f 3 = (pt_ g2) := (hK480 3 (al_ rfl)).trans rfl
 have I548 : Inv w547 S482 (Fr) := hI480
 have q840 := hF10.v 46 rfl
 rcases ifs h with ⟨hc10, h⟩ | ⟨hc10, h⟩
 ·
  refine ah_ q840 hc10 (ab_ (aa_ (wa_ (v := (vb false)) rfl rfl (ad_ (ak_ ?_)))))
  obtain rfl := sj h
  exact ⟨(ed10.trans rfl), (vb false), (bo_ rfl rfl), _, [], ((le1.trans le2).trans le482), I548, rfl, rfl⟩
 refine ai_ q840 hc10 (ar_ (ab_ ?_))
 obtain ⟨x13, hx13, h⟩ := bnd h
 obtain ⟨x14, hx14, h⟩ := bnd h
 obtain ⟨x15, hx15, h⟩ := bnd h
 obtain ⟨x16, hx16, h⟩ := bnd h
 refine bj_ (sps := [spV 57 [] 0 (an_ (pt_ g1) 1), spR 58 [0] 1 (a0.Codes), spV 59 [] 2 (an_ (pt_ g2) 0), spV 60 [2] 3 (vi a1.LockA), spW 61 [0, 1, 2, 3] [4, 1] fun vs_ => (af_ (fr0 vs_ 1) (a1.LockA) (Enc.sz (List Int))), spR 62 [0, 1, 2, 3, 4] 5 x13, spV 63 [] 6 (an_ (pt_ g2) 1), spV 64 [6] 7 (vi a1.WheelA), spW 65 (lrg 8) [8, 5] fun vs_ => (af_ (fr0 vs_ 1) (a1.WheelA) (Enc.sz Int)), spV 66 (lrg 9) 9 (vi x14), spV 67 [] 10 (an_ (pt_ g1) 1), spR 68 [10] 11 (a0.Codes), spV 69 [] 12 (an_ (pt_ g2) 2), spV 70 [12] 13 (vi a1.LockB), spW 71 [10, 11, 12, 13] [14, 11] fun vs_ => (af_ (fr0 vs_ 1) (a1.LockB) (Enc.sz (List Int))), spR 72 [10, 11, 12, 13, 14] 15 x15, spV 73 [] 16 (an_ (pt_ g2) 3), spV 74 [16] 17 (vi a1.WheelB), spW 75 [10, 11, 12, 13, 14, 15, 16, 17] [18, 15] fun vs_ => (af_ (fr0 vs_ 1) (a1.WheelB) (Enc.sz Int)), spV 76 [10, 11, 12, 13, 14, 15, 16, 17, 18] 19 (vi x16), spV 77 (lrg 20) 20 (vb (x14 == x16)), spV 4 (lrg 21) 21 (vb (x14 == x16))]) (tks := []) (O := Fr) rfl (by kernel_rfl) I548 ⟨ob_ rfl fun l A K I => (ae_ rfl hi_ ((K 2 (ag_ rfl)).trans e50) ((p1.mono ((le2.trans le482).trans l)).at_ I) (fo I)), ?_, ob_ rfl fun l A K I => (ae_ rfl ja_ ((K 3 (ag_ rfl)).trans e51) ((p2.mono (le482.trans l)).at_ I) (fo I)), ob_ rfl fun l A K I => (aj_ rfl sh3 (A.v 0 rfl) (((p2.mono (le482.trans l)).at_ I).fld Tie.fld0) (fo I)), ?_, ?_, ob_ rfl fun l A K I => (ae_ rfl rt_ ((K 3 (ag_ rfl)).trans e51) ((p2.mono (le482.trans l)).at_ I) (fo I)), ob_ rfl fun l A K I => (aj_ rfl sh3 (A.v 0 rfl) (((p2.mono (le482.trans l)).at_ I).fld Tie.fld1) (fo I)), ?_, ?_, ob_ rfl fun l A K I => (ae_ rfl hi_ ((K 2 (ag_ rfl)).trans e50) ((p1.mono ((le2.trans le482).trans l)).at_ I) (fo I)), ?_, ob_ rfl fun l A K I => (ae_ rfl ke_ ((K 3 (ag_ rfl)).trans e51) ((p2.mono (le482.trans l)).at_ I) (fo I)), ob_ rfl fun l A K I => (aj_ rfl sh3 (A.v 0 rfl) (((p2.mono (le482.trans l)).at_ I).fld Tie.fld2) (fo I)), ?_, ?_, ob_ rfl fun l A K I => (ae_ rfl vn_ ((K 3 (ag_ rfl)).trans e51) ((p2.mono (le482.trans l)).at_ I) (fo I)), ob_ rfl fun l A K I => (aj_ rfl sh3 (A.v 0 rfl) (((p2.mono (le482.trans l)).at_ I).fld Tie.fld3) (fo I)), ?_, ?_, ob_ rfl fun l A K I => (bm_ rfl (A.v 9 rfl) (A.v 19 rfl) (fo I)), ?_, trivial⟩ ?_
 ·
  intro vs f w_ U X le A K I
  have q841 := A.v 0 rfl
  refine pl_ rfl (ay_ rfl lq_ q841 (((p1.mono ((le2.trans le482).trans le)).at_ I).fld Riddle.fld1) (fun u38 hu38 => ?_))
  obtain ⟨z30, m30, k30, rfl⟩ := ac_ hu38
  refine ⟨_, _, rfl, lr, ?_, ?_⟩
  · exact hu38
  exact I
 ·
  intro vs f w_ U X le A K I
  obtain ⟨z31, m31, k31, hu39, q843, r23⟩ := A.sl (a := 1) 1 rfl rfl rfl
  have q844 := A.v 3 rfl
  refine pl_ rfl (ix_ Tryz.underlying23 fn_ r23 hx13 q843 q844 (⟨_, _, rfl, lr, ?_, ?_⟩))
  ·
   show (af_ (Value.slice z31 m31 k31) (a1.LockA) (Enc.sz (List Int))) = (af_ (vs 1) (a1.LockA) (Enc.sz (List Int)))
   simp only [hu39] <;> rfl
  exact I
 ·
  intro vs f w_ U X le A K I
  obtain ⟨z32, m32, k32, hu40, q845, r24⟩ := A.sl (a := 1) 1 rfl rfl rfl
  have q846 := A.v 3 rfl
  have q847 : f 61 = (af_ (vs 1) (a1.LockA) (Enc.sz (List Int))) := A.v 4 rfl
  simp only [hu40] at q847
  have q847 : f 61 = (af_ (Value.slice z32 m32 k32) (a1.LockA) (Enc.sz (List Int))) := q847
  refine pl_ rfl (ay_ rfl fn_ q847 (r24.elem I.in_ hx13) (fun u41 hu41 => ?_))
  obtain ⟨z33, m33, k33, rfl⟩ := ac_ hu41
  refine ⟨_, _, rfl, lr, ?_, ?_⟩
  · exact hu41
  exact I
 ·
  intro vs f w_ U X le A K I
  obtain ⟨z34, m34, k34, hu42, q849, r25⟩ := A.sl (a := 5) 5 rfl rfl rfl
  have q850 := A.v 7 rfl
  refine pl_ rfl (ix_ Tryz.underlying28 sh3 r25 hx14 q849 q850 (⟨_, _, rfl, lr, ?_, ?_⟩))
  ·
   show (af_ (Value.slice z34 m34 k34) (a1.WheelA) (Enc.sz Int)) = (af_ (vs 5) (a1.WheelA) (Enc.sz Int))
   simp only [hu42] <;> rfl
  exact I
 ·
  intro vs f w_ U X le A K I
  obtain ⟨z35, m35, k35, hu43, q851, r26⟩ := A.sl (a := 5) 5 rfl rfl rfl
  have q853 : f 65 = (af_ (vs 5) (a1.WheelA) (Enc.sz Int)) := A.v 8 rfl
  simp only [hu43] at q853
  have q853 : f 65 = (af_ (Value.slice z35 m35 k35) (a1.WheelA) (Enc.sz Int)) := q853
  refine pl_ rfl (aj_ rfl sh3 q853 (r26.elem I.in_ hx14) (fo I))
 ·
  intro vs f w_ U X le A K I
  have q854 := A.v 0 rfl
  refine pl_ rfl (ay_ rfl lq_ q854 (((p1.mono ((le2.trans le482).trans le)).at_ I).fld Riddle.fld1) (fun u44 hu44 => ?_))
  obtain ⟨z36, m36, k36, rfl⟩ := ac_ hu44
  refine ⟨_, _, rfl, lr, ?_, ?_⟩
  · exact hu44
  exact I
 ·
  intro vs f w_ U X le A K I
  obtain ⟨z37, m37, k37, hu45, q856, r27⟩ := A.sl (a := 11) 1 rfl rfl rfl
  have q857 := A.v 3 rfl
  refine pl_ rfl (ix_ Tryz.underlying23 fn_ r27 hx15 q856 q857 (⟨_, _, rfl, lr, ?_, ?_⟩))
  ·
   show (af_ (Value.slice z37 m37 k37) (a1.LockB) (Enc.sz (List Int))) = (af_ (vs 11) (a1.LockB) (Enc.sz (List Int)))
   simp only [hu45] <;> rfl
  exact I
 ·
  intro vs f w_ U X le A K I
  obtain ⟨z38, m38, k38, hu46, q858, r28⟩ := A.sl (a := 11) 1 rfl rfl rfl
  have q859 := A.v 3 rfl
  have q860 : f 71 = (af_ (vs 11) (a1.LockB) (Enc.sz (List Int))) := A.v 4 rfl
  simp only [hu46] at q860
  have q860 : f 71 = (af_ (Value.slice z38 m38 k38) (a1.LockB) (Enc.sz (List Int))) := q860
  refine pl_ rfl (ay_ rfl fn_ q860 (r28.elem I.in_ hx15) (fun u47 hu47 => ?_))
  obtain ⟨z39, m39, k39, rfl⟩ := ac_ hu47
  refine ⟨_, _, rfl, lr, ?_, ?_⟩
  · exact hu47
  exact I
 ·
  intro vs f w_ U X le A K I
  obtain ⟨z40, m40, k40, hu48, q862, r29⟩ := A.sl (a := 15) 5 rfl rfl rfl
  have q863 := A.v 7 rfl
  refine pl_ rfl (ix_ Tryz.underlying28 sh3 r29 hx16 q862 q863 (⟨_, _, rfl, lr, ?_, ?_⟩))
  ·
   show (af_ (Value.slice z40 m40 k40) (a1.WheelB) (Enc.sz Int)) = (af_ (vs 15) (a1.WheelB) (Enc.sz Int))
   simp only [hu48] <;> rfl
  exact I
 ·
  intro vs f w_ U X le A K I
  obtain ⟨z41, m41, k41, hu49, q864, r30⟩ := A.sl (a := 15) 5 rfl rfl rfl
  have q866 : f 75 = (af_ (vs 15) (a1.WheelB) (Enc.sz Int)) := A.v 8 rfl
  simp only [hu49] at q866
  have q866 : f 75 = (af_ (Value.slice z41 m41 k41) (a1.WheelB) (Enc.sz Int)) := q866
  refine pl_ rfl (aj_ rfl sh3 q866 (r30.elem I.in_ hx16) (fo I))
 ·
  intro vs f w_ U X le A K I
  refine pl_ rfl (bn_ (v := (vb (x14 == x16))) rfl (A.v 20 rfl) (fo I))
 intro vs503 f w570 S505 ed11 le505 hF11 hK503 hI503
 have I571 : Inv w570 S505 (Fr) := hI503
 have q870 := hF11.v 21 rfl
 refine ak_ ?_
 obtain rfl := sj h
 exact ⟨(ed11.trans (ed10.trans rfl)), (vb (x14 == x16)), (bo_ rfl q870), _, [], (((le1.trans le2).trans le482).trans le505), I571, rfl, rfl⟩
end Go.Proofs.YtlpdpeghgndmkaaGreat.Pad
