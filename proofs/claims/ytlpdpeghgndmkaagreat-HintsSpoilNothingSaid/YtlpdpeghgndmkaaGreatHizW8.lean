/- A part of the proof: what the functions of the program compute, shown over the model. -/
import Derived.Test.YtlpdpeghgndmkaaGreatHizP
import Derived.Test.YtlpdpeghgndmkaaGreatHizW4
import Derived.Test.YtlpdpeghgndmkaaGreatHizW5
import Derived.Test.YtlpdpeghgndmkaaGreatHizW6
import Derived.Test.YtlpdpeghgndmkaaGreatHizW7
import Derived.KernelRfl
set_option linter.unusedVariables false
set_option maxHeartbeats 4000000
set_option maxRecDepth 100000
namespace Go.Proofs.YtlpdpeghgndmkaaGreat.Pad
open Go Go.Proofs
theorem hints_Check_2_ok {w : World} {S : PH} {Fr : List HP} {a0 : Tie} {v0 : Value} {a1 : Riddle} {v1 : Value} {r : Bool} (hI : Inv w S (Fr)) (h0_ : RV S v0 a0) (h1_ : PtS S v1 a1) (h : jr_ a0 a1 = some r) :
    Calls Tryz.prog 112 [v0, v1].toArray w (cc_ S Fr (Value.bool (r))) := by
 unfold jr_ at h
 have e1 := Tie.inv h0_
 subst e1
 refine ar_ (n := 8) (vs := [(.agg #[(vi a0.LockA), (vi a0.WheelA), (vi a0.LockB), (vi a0.WheelB)]), v1]) Tryz.func112 rfl rfl rfl (ab_ (aa_ (wo_ (bi_ (v := (.agg #[(vi a0.LockA), (vi a0.WheelA), (vi a0.LockB), (vi a0.WheelB)])) rfl hI rfl (fun g1 w1 I1 => ?_)))))
 obtain ⟨S1, le1, I2, p1⟩ := Inv.boxFreeze (x := a0) I1 (Tie.rv (s := a0))
 refine wa_ (v := (vb false)) rfl rfl (ad_ (ab_ (aa_ (wo_ (an_ (v := v1) (e := a1) rfl ii_ rfl ((h1_.mono le1).at_ I2) (fun u1 hu1 => ?_))))))
 obtain ⟨c1, c2, c3, c4, e2, r1, r2, r3, r4⟩ := Riddle.inv hu1
 subst e2
 obtain ⟨z1, m1, k1, rfl⟩ := af_ r1
 obtain ⟨z2, m2, k2, rfl⟩ := af_ r2
 obtain ⟨z3, m3, k3, rfl⟩ := af_ r3
 obtain ⟨z4, m4, k4, rfl⟩ := af_ r4
 refine wo_ (an_ (v := (pt_ g1)) (e := a0) rfl sh75 rfl (p1.at_ I2) (fun u2 hu2 => ?_))
 have e7 := Tie.inv hu2
 subst e7
 obtain ⟨x1, hx1, h⟩ := bnd h
 refine wo_ (ap_ (vs := [(.agg #[(.slice z1 m1 k1), (.slice z2 m2 k2), (.slice z3 m3 k3), (.slice z4 m4 k4)]), (.agg #[(vi a0.LockA), (vi a0.WheelA), (vi a0.LockB), (vi a0.WheelB)])]) (r := (vb x1)) rfl ca113 rfl (bt_ rfl rfl) I2 (fun Fr_ hF_ => hints_tied_ok hF_ (Riddle.rv (s := a1) r1 r2 r3 r4) (Tie.rv (s := a0)) hx1) (fun w2 I3 => (wo_ (bz_ (b := x1) rfl rfl (wa_ (v := (vb (!x1))) rfl rfl (ad_ (al_ ?_)))))))
 obtain rfl := sj h
 exact ⟨rfl, (vb (!x1)), (bq_ rfl rfl), _, [], le1, I3, rfl, rfl⟩
theorem mi_ {w : World} {S : PH} {Fr : List HP} {a0 : (List Tie)} {v0 : Value} {a1 : Tie → Option Bool} {v1 : Value} {r : Int} (hI : Inv w S (Fr)) (h0_ : RV S v0 a0) (h1_ : FnV Tryz.prog S v1 a1) (h : go_ a0 a1 = some r) :
    Calls Tryz.prog 122 [v0, v1].toArray w (cc_ S Fr (Value.int .i64 (r))) := by
 unfold go_ at h
 obtain ⟨z1, m1, k1, rfl⟩ := af_ h0_
 refine ar_ (n := 19) (vs := [(.slice z1 m1 k1), v1]) Tryz.func122 rfl rfl rfl (ab_ (aa_ (wa_ (v := (vi 0)) rfl rfl (ad_ (ab_ (ab_ (aa_ (wm_ (v := (.slice z1 m1 k1)) rfl rfl (wo_ (bb_ rfl Tryz.underlying25 rfl h0_ (wm_ (v := (vi 0)) rfl rfl (ad_ ?_))))))))))))
 have hk1 : a0.length ≤ 9223372036854775807 := (ea_ h0_)
 obtain ⟨o2, hrun1, h⟩ := bnd h
 refine bs_ (fun f w => ∃ out1, o2 = Sum.inl out1 ∧ Inv w S (Fr) ∧ f 0 = (.slice z1 m1 k1) ∧ f 1 = v1 ∧ f 7 = (vi ((a0.length : Int))) ∧ f.ds = []) ?_ ?_
 ·
  refine ax_ ?_
  refine eh_ (I := fun (i1 : Nat) (s1 : Unit) (f : Frm) (w : World) => Inv w S (Fr) ∧ f 0 = (.slice z1 m1 k1) ∧ f 1 = v1 ∧ f 7 = (vi ((a0.length : Int))) ∧ f 8 = (vi (i1 : Int)) ∧ f.ds = []) hrun1 ⟨hI, rfl, rfl, rfl, rfl, rfl⟩ ?_ ?_
  ·
   rintro i1 s1 f w o1 hlt1 hI1 h1 hout1
   obtain ⟨I5, e12, e13, e14, e15, ed3⟩ := hI1
   refine ab_ (aa_ (wo_ (bg_ (a := (i1 : Int)) (b := (a0.length : Int)) rfl e15 e14 (ad_ (ab_ (ai_ (b := decide ((i1 : Int) < (a0.length : Int))) rfl (gg_ hlt1) (av_ (ab_ (ax_ (ab_ (aa_ (wm_ rfl e15 (wa_ (v := (vi (i1 : Int))) rfl rfl (ad_ (ab_ (aa_ (wm_ rfl e13 (wm_ rfl e12 (wm_ (v := (vi (i1 : Int))) rfl rfl ?_)))))))))))))))))))
   obtain ⟨x5, hx5, h1⟩ := bnd h1
   refine wo_ (aj_ (v := (.slice z1 m1 k1)) (i := (i1 : Int)) (e := x5) rfl Tryz.underlying25 sh75 rfl h0_ rfl hx5 (wo_ (an_ (v := (ah_ (.slice z1 m1 k1) ((i1 : Int)) (Enc.sz Tie))) (e := x5) rfl sh75 rfl (h0_.elem I5.in_ hx5) (fun u3 hu3 => ?_))))
   have e16 := Tie.inv hu3
   subst e16
   obtain ⟨x6, hx6, h1⟩ := bnd h1
   refine wo_ (ju_ (v := v1) (u := (.agg #[(vi x5.LockA), (vi x5.WheelA), (vi x5.LockB), (vi x5.WheelB)])) (r := x6) rfl rfl h1_ rfl (Tie.rv (s := x5)) hx6 I5 (fun w3 I6 => (ad_ ?_)))
   rcases ifs h1 with ⟨hc3, h1⟩ | ⟨hc3, h1⟩
   ·
    refine ai_ (b := x6) rfl hc3 (ab_ (aa_ (wm_ (v := (vi (i1 : Int))) rfl rfl (wa_ (v := (vi (i1 : Int))) rfl rfl (ad_ (al_ ?_))))))
    obtain rfl := sj h1
    obtain rfl := (hout1 _ rfl)
    have h2 := h
    obtain rfl := sj h2
    exact ⟨ed3, (vi (i1 : Int)), (bq_ rfl rfl), _, [], lr, I6, rfl, rfl⟩
   refine ak_ (b := x6) rfl hc3 (av_ (aa_ (wo_ (bp_ (a := (i1 : Int)) (b := 1) rfl e15 rfl (wm_ (v := (vi (w64 ((i1 : Int) + 1)))) rfl rfl (ad_ ?_))))))
   obtain rfl := sj h1
   exact ⟨_, rfl, I6, e12, e13, e14, (bl_ hlt1 hk1), ed3⟩
  rintro s2 f w hs1 hI2
  obtain ⟨I7, e17, e18, e19, e20, ed4⟩ := hI2
  refine ab_ (aa_ (wo_ (bg_ (a := (a0.length : Int)) (b := (a0.length : Int)) rfl e20 e19 (ad_ (ab_ (ak_ (b := decide ((a0.length : Int) < (a0.length : Int))) rfl (gh_ _) (bj_ ?_)))))))
  exact ⟨s2, hs1, I7, e17, e18, e19, ed4⟩
 rintro f w ⟨out1, rfl, I8, e21, e22, e23, ed5⟩
 have h := ds_ h
 refine ab_ (aa_ (wa_ (v := (vi ((-1)))) rfl rfl (ad_ (al_ ?_))))
 obtain rfl := sj h
 exact ⟨ed5, (vi ((-1))), (bq_ rfl rfl), _, [], lr, I8, rfl, rfl⟩
theorem kq_ {w : World} {S : PH} {Fr : List HP} {a0 : (List Tie)} {v0 : Value} {a1 : Tie → Option Bool} {v1 : Value} {r : Bool} (hI : Inv w S (Fr)) (h0_ : RV S v0 a0) (h1_ : FnV Tryz.prog S v1 a1) (h : dv_ a0 a1 = some r) :
    Calls Tryz.prog 111 [v0, v1].toArray w (cc_ S Fr (Value.bool (r))) := by
 unfold dv_ at h
 obtain ⟨z1, m1, k1, rfl⟩ := af_ h0_
 refine ar_ (n := 9) (vs := [(.slice z1 m1 k1), v1]) Tryz.func111 rfl rfl rfl (ab_ (aa_ (wa_ (v := (vb false)) rfl rfl (ad_ (ab_ (aa_ (wm_ (v := (.slice z1 m1 k1)) rfl rfl (wm_ (v := v1) rfl rfl ?_))))))))
 obtain ⟨x1, hx1, h⟩ := bnd h
 refine wo_ (ap_ (vs := [(.slice z1 m1 k1), v1]) (r := (vi x1)) rfl ca122 rfl (bt_ rfl rfl) hI (fun Fr_ hF_ => mi_ hF_ h0_ h1_ hx1) (fun w1 I1 => (wo_ (lw_ (a := x1) (b := 0) rfl rfl rfl (wa_ (v := (vb (decide (0 ≤ x1)))) rfl rfl (ad_ (al_ ?_)))))))
 obtain rfl := sj h
 exact ⟨rfl, (vb (decide (0 ≤ x1))), (bq_ rfl rfl), _, [], lr, I1, rfl, rfl⟩
theorem hints_Check_ok {w : World} {S : PH} {Fr : List HP} {a0 : Riddle} {v0 : Value} {r : Int} (hI : Inv w S (Fr)) (h0_ : RV S v0 a0) (h : ki_ a0 = some r) :
    Calls Tryz.prog 93 [v0].toArray w (cc_ S Fr (Value.int .i64 (r))) := by
 unfold ki_ at h
 obtain ⟨c1, c2, c3, c4, e1, r1, r2, r3, r4⟩ := Riddle.inv h0_
 subst e1
 obtain ⟨z1, m1, k1, rfl⟩ := af_ r1
 obtain ⟨z2, m2, k2, rfl⟩ := af_ r2
 obtain ⟨z3, m3, k3, rfl⟩ := af_ r3
 obtain ⟨z4, m4, k4, rfl⟩ := af_ r4
 refine ar_ (n := 69) (vs := [(.agg #[(.slice z1 m1 k1), (.slice z2 m2 k2), (.slice z3 m3 k3), (.slice z4 m4 k4)])]) Tryz.func93 rfl rfl rfl (ab_ (aa_ (wo_ (bi_ (v := (.agg #[(.slice z1 m1 k1), (.slice z2 m2 k2), (.slice z3 m3 k3), (.slice z4 m4 k4)])) rfl hI rfl (fun g1 w1 I1 => ?_)))))
 obtain ⟨S1, le1, I2, p1⟩ := Inv.boxFreeze (x := a0) I1 (Riddle.rv (s := a0) r1 r2 r3 r4)
 refine wa_ (v := (vi 0)) rfl rfl (ad_ (ab_ (aa_ (wo_ (ac_ (v := (pt_ g1)) rfl eb_ rfl (p1.at_ I2) (wo_ (an_ (v := (ae_ (pt_ g1) 0)) (e := a0.Locks) rfl oe_ rfl ((p1.at_ I2).fld Riddle.fld0) (fun u1 hu1 => ?_))))))))
 obtain ⟨z5, m5, k5, rfl⟩ := af_ hu1
 refine wo_ (bb_ rfl Tryz.underlying22 rfl hu1 (wa_ (v := (vi ((a0.Locks.length : Int)))) rfl rfl (ad_ (ab_ (ab_ (aa_ (wm_ (v := (vi ((a0.Locks.length : Int)))) rfl rfl ?_)))))))
 obtain ⟨x2, hx2, h⟩ := bnd h
 refine wo_ (ap_ (vs := [(vi ((a0.Locks.length : Int))), (vi 1), (vi 8)]) (r := (vb x2)) rfl ca51 rfl (cu_ rfl rfl rfl) I2 (fun Fr_ hF_ => br_ hF_  hx2) (fun w3 I4 => (wo_ (bz_ (b := x2) rfl rfl (wm_ (v := (vb (!x2))) rfl rfl ?_)))))
 rcases ifs h with ⟨hc5, h⟩ | ⟨hc5, h⟩
 ·
  refine ws_ rfl rfl hc5 (ws_ rfl rfl hc5 (ws_ rfl rfl hc5 (ws_ rfl rfl hc5 (ws_ rfl rfl hc5 (wo_ (ay_ (c := !x2) (a := (vb true)) rfl rfl hc5 rfl (wm_ (v := (vb true)) rfl rfl (ws_ (c := true) rfl rfl rfl (ws_ (c := true) rfl rfl rfl (ws_ (c := true) rfl rfl rfl (ws_ (c := true) rfl rfl rfl (ws_ (c := true) rfl rfl rfl (wo_ (ay_ (c := true) (a := (vb true)) rfl rfl rfl rfl (wm_ (v := (vb true)) rfl rfl (ws_ (c := true) rfl rfl rfl (ws_ (c := true) rfl rfl rfl (ws_ (c := true) rfl rfl rfl (ws_ (c := true) rfl rfl rfl (wo_ (ay_ (c := true) (a := (vb true)) rfl rfl rfl rfl (ad_ (ai_ (b := true) rfl rfl (ab_ (aa_ (wa_ (v := (vi 70)) rfl rfl (ad_ (al_ ?_))))))))))))))))))))))))))))
  obtain rfl := sj h
  exact ⟨rfl, (vi 70), (bq_ rfl rfl), _, [], le1, I4, rfl, rfl⟩
 refine wk_ rfl rfl hc5 (ac_ (v := (pt_ g1)) rfl kl_ rfl (p1.at_ I4) (wk_ rfl rfl hc5 (an_ (v := (ae_ (pt_ g1) 1)) (e := a0.Codes) rfl mh_ rfl ((p1.at_ I4).fld Riddle.fld1) (fun u5 hu5 => ?_))))
 obtain ⟨z9, m9, k9, rfl⟩ := af_ hu5
 refine wk_ rfl rfl hc5 (bb_ rfl Tryz.underlying23 rfl hu5 (wk_ rfl rfl hc5 (aw_ (v := (vi ((a0.Locks.length : Int)))) rfl rfl (wk_ rfl rfl hc5 (cd_ (a := (a0.Codes.length : Int)) (b := (a0.Locks.length : Int)) rfl rfl rfl (wo_ (aq_ (c := !x2) (b := (vb ((a0.Codes.length : Int) != (a0.Locks.length : Int)))) rfl rfl hc5 rfl (wm_ (v := (vb ((a0.Codes.length : Int) != (a0.Locks.length : Int)))) rfl rfl ?_))))))))
 rcases ifs h with ⟨hc6, h⟩ | ⟨hc6, h⟩
 ·
  refine ws_ rfl rfl hc6 (ws_ rfl rfl hc6 (ws_ rfl rfl hc6 (ws_ rfl rfl hc6 (ws_ rfl rfl hc6 (wo_ (ay_ (c := (a0.Codes.length : Int) != (a0.Locks.length : Int)) (a := (vb true)) rfl rfl hc6 rfl (wm_ (v := (vb true)) rfl rfl (ws_ (c := true) rfl rfl rfl (ws_ (c := true) rfl rfl rfl (ws_ (c := true) rfl rfl rfl (ws_ (c := true) rfl rfl rfl (wo_ (ay_ (c := true) (a := (vb true)) rfl rfl rfl rfl (ad_ (ai_ (b := true) rfl rfl (ab_ (aa_ (wa_ (v := (vi 70)) rfl rfl (ad_ (al_ ?_))))))))))))))))))))
  obtain rfl := sj h
  exact ⟨rfl, (vi 70), (bq_ rfl rfl), _, [], le1, I4, rfl, rfl⟩
 refine wk_ rfl rfl hc6 (ac_ (v := (pt_ g1)) rfl jo_ rfl (p1.at_ I4) (wk_ rfl rfl hc6 (an_ (v := (ae_ (pt_ g1) 2)) (e := a0.Known) rfl sh24 rfl ((p1.at_ I4).fld Riddle.fld2) (fun u6 hu6 => ?_))))
 obtain ⟨z10, m10, k10, rfl⟩ := af_ hu6
 refine wk_ rfl rfl hc6 (bb_ rfl Tryz.underlying24 rfl hu6 (wk_ rfl rfl hc6 (aw_ (v := (vi ((a0.Locks.length : Int)))) rfl rfl (wk_ rfl rfl hc6 (cd_ (a := (a0.Known.length : Int)) (b := (a0.Locks.length : Int)) rfl rfl rfl (wo_ (aq_ (c := (a0.Codes.length : Int) != (a0.Locks.length : Int)) (b := (vb ((a0.Known.length : Int) != (a0.Locks.length : Int)))) rfl rfl hc6 rfl (wm_ (v := (vb ((a0.Known.length : Int) != (a0.Locks.length : Int)))) rfl rfl ?_))))))))
 rcases ifs h with ⟨hc7, h⟩ | ⟨hc7, h⟩
 ·
  refine ws_ rfl rfl hc7 (ws_ rfl rfl hc7 (ws_ rfl rfl hc7 (ws_ rfl rfl hc7 (wo_ (ay_ (c := (a0.Known.length : Int) != (a0.Locks.length : Int)) (a := (vb true)) rfl rfl hc7 rfl (ad_ (ai_ (b := true) rfl rfl (ab_ (aa_ (wa_ (v := (vi 70)) rfl rfl (ad_ (al_ ?_))))))))))))
  obtain rfl := sj h
  exact ⟨rfl, (vi 70), (bq_ rfl rfl), _, [], le1, I4, rfl, rfl⟩
 refine wk_ rfl rfl hc7 (ac_ (v := (pt_ g1)) rfl fa27_3 rfl (p1.at_ I4) (wk_ rfl rfl hc7 (an_ (v := (ae_ (pt_ g1) 3)) (e := a0.Ties) rfl sh25 rfl ((p1.at_ I4).fld Riddle.fld3) (fun u7 hu7 => ?_))))
 obtain ⟨z11, m11, k11, rfl⟩ := af_ hu7
 refine wk_ rfl rfl hc7 (bb_ rfl Tryz.underlying25 rfl hu7 (wk_ rfl rfl hc7 (mq_ (a := (a0.Ties.length : Int)) (b := 10) rfl rfl rfl (wo_ (aq_ (c := (a0.Known.length : Int) != (a0.Locks.length : Int)) (b := (vb (decide (10 < (a0.Ties.length : Int))))) rfl rfl hc7 rfl (ad_ ?_))))))
 rcases ifs h with ⟨hc8, h⟩ | ⟨hc8, h⟩
 ·
  refine ai_ (b := decide (10 < (a0.Ties.length : Int))) rfl hc8 (ab_ (aa_ (wa_ (v := (vi 70)) rfl rfl (ad_ (al_ ?_)))))
  obtain rfl := sj h
  exact ⟨rfl, (vi 70), (bq_ rfl rfl), _, [], le1, I4, rfl, rfl⟩
 refine ak_ (b := decide (10 < (a0.Ties.length : Int))) rfl hc8 (av_ (ab_ (ab_ (aa_ (wo_ (ac_ (v := (pt_ g1)) rfl eb_ rfl (p1.at_ I4) (wo_ (an_ (v := (ae_ (pt_ g1) 0)) (e := a0.Locks) rfl oe_ rfl ((p1.at_ I4).fld Riddle.fld0) (fun u8 hu8 => ?_)))))))))
 obtain ⟨z12, m12, k12, rfl⟩ := af_ hu8
 refine wo_ (bb_ rfl Tryz.underlying22 rfl hu8 (wm_ (v := (vi 0)) rfl rfl (ad_ ?_)))
 have hk1 : a0.Locks.length ≤ 9223372036854775807 := (ea_ r1)
 obtain ⟨o2, hrun1, h⟩ := bnd h
 refine bs_ (fun f w => ∃ out1, o2 = Sum.inl out1 ∧ ∃ (S_ : PH), S1.Le S_ ∧ Inv w S_ (Fr) ∧ f 1 = (pt_ g1) ∧ f 33 = (.slice z12 m12 k12) ∧ f 34 = (vi ((a0.Locks.length : Int))) ∧ f.ds = []) ?_ ?_
 ·
  refine ax_ ?_
  refine eh_ (I := fun (i1 : Nat) (s1 : Unit) (f : Frm) (w : World) => ∃ (S_ : PH), S1.Le S_ ∧ Inv w S_ (Fr) ∧ f 1 = (pt_ g1) ∧ f 33 = (.slice z12 m12 k12) ∧ f 34 = (vi ((a0.Locks.length : Int))) ∧ f 35 = (vi (i1 : Int)) ∧ f.ds = []) hrun1 ⟨_, lr, I4, rfl, rfl, rfl, rfl, rfl⟩ ?_ ?_
  ·
   rintro i1 s1 f w o1 hlt1 hI217 h5 hout1
   obtain ⟨S223, le223, I272, e185, e186, e187, e188, ed16⟩ := hI217
   refine ab_ (aa_ (wo_ (bg_ (a := (i1 : Int)) (b := (a0.Locks.length : Int)) rfl e188 e187 (ad_ (ab_ (ai_ (b := decide ((i1 : Int) < (a0.Locks.length : Int))) rfl (gg_ hlt1) (av_ (ab_ (ax_ (ab_ (aa_ (wm_ rfl e188 ?_))))))))))))
   obtain ⟨x30, hx30, h5⟩ := bnd h5
   refine wo_ (aj_ (v := (.slice z12 m12 k12)) (i := (i1 : Int)) (e := x30) rfl Tryz.underlying22 jk_ e186 (hu8.mono le223) e188 hx30 (wo_ (an_ (v := (ah_ (.slice z12 m12 k12) ((i1 : Int)) (Enc.sz CodeLock))) (e := x30) rfl jk_ rfl ((hu8.mono le223).elem I272.in_ hx30) (fun u156 hu156 => ?_))))
   have e189 := CodeLock.inv hu156
   subst e189
   refine wo_ (ca_ (z := (vi 0)) rfl I272 zo3 (fun g8 w266 (I273 : Inv w266 S223 (ao_ g8 3 #[(vi 0)] :: Fr)) => (wo_ (ca_ (z := (.agg #[(vi 0), (vi 0)])) rfl I273 zo62 (fun g9 w267 (I274 : Inv w267 S223 (ao_ g9 62 #[(vi 0), (vi 0)] :: ao_ g8 3 #[(vi 0)] :: Fr)) => (wo_ (bd_ (v := (vi (i1 : Int))) (cs := #[(vi 0)]) sh3 (I274.pull 1) rfl rfl rfl nb rfl (fun w268 (I275 : Inv w268 S223 (ao_ g8 3 #[(vi (i1 : Int))] :: ao_ g9 62 #[(vi 0), (vi 0)] :: Fr)) => ?_))))))))
   obtain ⟨S224, le224, I276, p5⟩ := Inv.boxFreeze (u := (vi ((i1 : Int)))) (x := (i1 : Int)) I275 (ei_ _)
   refine wo_ (bd_ (v := (.agg #[(vi x30.Wheels), (vi x30.Symbols)])) (cs := #[(vi 0), (vi 0)]) jk_ I276 rfl rfl rfl nb rfl (fun w269 (I277 : Inv w269 S224 (ao_ g9 62 #[(vi x30.Wheels), (vi x30.Symbols)] :: Fr)) => (ad_ (ab_ (ab_ ?_)))))
   obtain ⟨x34, hx34, h5⟩ := bnd h5
   obtain ⟨x35, hx35, h5⟩ := bnd h5
   rcases ifs h5 with ⟨hc26, h5⟩ | ⟨hc26, h5⟩
   ·
    refine bm_ (sps := [⟨some 40, [], [0], fun vs_ T_ => fr0 vs_ 0 = (.agg #[(vi x30.Wheels), (vi x30.Symbols)]), [0], [], [], fun _ h_ => h_⟩, spV 41 [] 1 (ae_ (pt_ g1) 1), spR 42 [1] 2 (a0.Codes), spV 43 [] 3 (vi (i1 : Int)), spW 44 [1, 2, 3] [4, 2] fun vs_ => (ah_ (fr0 vs_ 1) ((i1 : Int)) (Enc.sz (List Int))), spR 45 [1, 2, 3, 4] 5 x34, spV 46 (lrg 6) 6 (vi x35), spV 47 (lrg 7) 7 (vb (x35 != 0)), spV 48 (lrg 8) 8 (vb (x35 != 0)), spV 49 (lrg 9) 9 undef, spV 50 (lrg 10) 10 undef, spV 51 (lrg 9) 11 undef, spV 52 (lrg 12) 12 undef, spV 53 (lrg 13) 13 undef, spV 54 (lrg 14) 14 undef, spV 55 (lrg 15) 15 undef, spV 56 (lrg 16) 16 (vb true)]) (tks := [⟨none, none, [], fun vs_ => ao_ g9 62 #[(vi x30.Wheels), (vi x30.Symbols)]⟩]) (O := Fr) rfl (by kernel_rfl) I277 ⟨?_, fun vs f w U X l A K I => pl_ rfl (ac_ (v := (pt_ g1)) rfl kl_ ((K 1 (am_ rfl)).trans e185) ((p1.mono ((le223.trans le224).trans l)).at_ I) (fn rfl rfl I)), ?_, fun vs f w U X l A K I => pl_ rfl (ag_ (v := (pt_ g8)) (e := (i1 : Int)) rfl sh3 (K 4 (am_ rfl)) ((p5.mono l).at_ I) (fn rfl rfl I)), ?_, ?_, ?_, fun vs f w U X l A K I => pl_ rfl (cd_ (a := x35) (b := 0) rfl (A.u 6 rfl rfl rfl) rfl (fn rfl rfl I)), fun vs f w U X l A K I => pl_ rfl (aw_ (v := (vb (x35 != 0))) rfl (A.u 7 rfl rfl rfl) (fn rfl rfl I)), fun vs f w U X l A K I => sk_ rfl (A.u 8 rfl rfl rfl) hc26 (fn rfl rfl I), fun vs f w U X l A K I => sk_ rfl (A.u 8 rfl rfl rfl) hc26 (fn rfl rfl I), fun vs f w U X l A K I => sk_ rfl (A.u 8 rfl rfl rfl) hc26 (fn rfl rfl I), fun vs f w U X l A K I => sk_ rfl (A.u 8 rfl rfl rfl) hc26 (fn rfl rfl I), fun vs f w U X l A K I => sk_ rfl (A.u 8 rfl rfl rfl) hc26 (fn rfl rfl I), fun vs f w U X l A K I => sk_ rfl (A.u 8 rfl rfl rfl) hc26 (fn rfl rfl I), fun vs f w U X l A K I => sk_ rfl (A.u 8 rfl rfl rfl) hc26 (fn rfl rfl I), ?_, trivial⟩ ?_
    ·
     intro vs f w_ U X le A K I
     have I321 : Inv w_ U (ao_ g9 62 #[(vi x30.Wheels), (vi x30.Symbols)] :: X) := I
     refine pl_ rfl (cz_ (l := [(vi x30.Wheels), (vi x30.Symbols)]) rfl jk_ (I321.nth 0 rfl) (K 5 (am_ rfl)) rfl rfl (fn rfl rfl I321))
    ·
     intro vs f w_ U X le A K I
     have q379 := A.u 0 rfl rfl rfl
     refine pl_ rfl (an_ (v := (ae_ (pt_ g1) 1)) (e := a0.Codes) rfl mh_ q379 (((p1.mono ((le223.trans le224).trans le)).at_ I).fld Riddle.fld1) (fun u184 hu184 => ?_))
     obtain ⟨z124, m124, k124, rfl⟩ := af_ hu184
     refine ⟨_, _, rfl, lr, ?_, ?_⟩
     · exact hu184
     exact I
    ·
     intro vs f w_ U X le A K I
     obtain ⟨z125, m125, k125, hu185, q380, r68⟩ := A.sl (a := 2) 1 rfl rfl rfl
     have q381 := A.u 2 rfl rfl rfl
     refine pl_ rfl (aj_ (v := (.slice z125 m125 k125)) (i := (i1 : Int)) (e := x34) rfl Tryz.underlying23 ht_ q380 r68 q381 hx34 (⟨_, _, rfl, lr, ?_, ?_⟩))
     ·
      show (ah_ (Value.slice z125 m125 k125) ((i1 : Int)) (Enc.sz (List Int))) = (ah_ (vs 2) ((i1 : Int)) (Enc.sz (List Int)))
      simp only [hu185] <;> rfl
     exact I
    ·
     intro vs f w_ U X le A K I
     obtain ⟨z126, m126, k126, hu186, q382, r69⟩ := A.sl (a := 2) 1 rfl rfl rfl
     have q383 := A.u 2 rfl rfl rfl
     have q384 : f 44 = (ah_ (vs 2) ((i1 : Int)) (Enc.sz (List Int))) := A.u 3 rfl rfl rfl
     simp only [hu186] at q384
     have q384 : f 44 = (ah_ (Value.slice z126 m126 k126) ((i1 : Int)) (Enc.sz (List Int))) := q384
     refine pl_ rfl (an_ (v := (ah_ (.slice z126 m126 k126) ((i1 : Int)) (Enc.sz (List Int)))) (e := x34) rfl ht_ q384 (r69.elem I.in_ hx34) (fun u187 hu187 => ?_))
     obtain ⟨z127, m127, k127, rfl⟩ := af_ hu187
     refine ⟨_, _, rfl, lr, ?_, ?_⟩
     · exact hu187
     exact I
    ·
     intro vs f w_ U X le A K I
     obtain ⟨z128, m128, k128, hu188, q386, r70⟩ := A.sl (a := 5) 5 rfl rfl rfl
     refine pl_ rfl (ap_ (vs := [(.agg #[(vi x30.Wheels), (vi x30.Symbols)]), (.slice z128 m128 k128)]) (r := (vi x35)) rfl ca108 rfl (bt_ (A.u 0 rfl rfl rfl) q386) I (fun Fr_ hF_ => fp_ hF_ (CodeLock.rv (s := x30)) r70 hx35) (fun w320 I328 => (fn rfl rfl I328)))
    ·
     intro vs f w_ U X le A K I
     refine pl_ rfl (ay_ (c := x35 != 0) (a := (vb true)) rfl (A.u 8 rfl rfl rfl) hc26 rfl (fn rfl rfl I))
    intro vs270 f w331 S278 ed19 le278 hF15 hK270 hI271
    have e220 : f 1 = (pt_ g1) := (hK270 1 (au_ rfl)).trans e185
    have e221 : f 4 = (pt_ g8) := (hK270 4 (au_ rfl)).trans rfl
    have e222 : f 33 = (Value.slice z12 m12 k12) := (hK270 33 (au_ rfl)).trans e186
    have e223 : f 34 = (vi ((a0.Locks.length : Int))) := (hK270 34 (au_ rfl)).trans e187
    have e224 : f 35 = (vi ((i1 : Int))) := (hK270 35 (au_ rfl)).trans e188
    have I339 : Inv w331 S278 (ao_ g9 62 #[(vi x30.Wheels), (vi x30.Symbols)] :: Fr) := hI271
    have q404 := hF15.u 16 rfl rfl rfl
    refine ai_ (b := true) q404 rfl (ab_ (aa_ (wa_ (v := (vi 70)) rfl rfl (ad_ (al_ ?_)))))
    obtain rfl := sj h5
    obtain rfl := (hout1 _ rfl)
    have h6 := h
    obtain rfl := sj h6
    exact ⟨(ed19.trans ed16), (vi 70), (bq_ rfl rfl), _, [], (((le1.trans le223).trans le224).trans le278), (I339).drop, rfl, rfl⟩
   obtain ⟨x36, hx36, h5⟩ := bnd h5
   refine bm_ (sps := [⟨some 40, [], [0], fun vs_ T_ => fr0 vs_ 0 = (.agg #[(vi x30.Wheels), (vi x30.Symbols)]), [0], [], [], fun _ h_ => h_⟩, spV 41 [] 1 (ae_ (pt_ g1) 1), spR 42 [1] 2 (a0.Codes), spV 43 [] 3 (vi (i1 : Int)), spW 44 [1, 2, 3] [4, 2] fun vs_ => (ah_ (fr0 vs_ 1) ((i1 : Int)) (Enc.sz (List Int))), spR 45 [1, 2, 3, 4] 5 x34, spV 46 (lrg 6) 6 (vi x35), spV 47 (lrg 7) 7 (vb (x35 != 0)), spV 48 (lrg 8) 8 (vb (x35 != 0)), spV 49 (lrg 9) 9 (ae_ (pt_ g1) 2), spR 50 (lrg 10) 10 (a0.Known), spV 51 (lrg 9) 11 (vi (i1 : Int)), spW 52 (lrg 12) [12, 10] fun vs_ => (ah_ (fr0 vs_ 1) ((i1 : Int)) (Enc.sz (List Clue))), spR 53 (lrg 13) 13 x36, spV 54 (lrg 14) 14 (vi ((x36.length : Int))), spV 55 (lrg 15) 15 (vb (decide (20 < (x36.length : Int)))), spV 56 (lrg 16) 16 (vb (decide (20 < (x36.length : Int))))]) (tks := [⟨none, none, [], fun vs_ => ao_ g9 62 #[(vi x30.Wheels), (vi x30.Symbols)]⟩]) (O := Fr) rfl (by kernel_rfl) I277 ⟨?_, fun vs f w U X l A K I => pl_ rfl (ac_ (v := (pt_ g1)) rfl kl_ ((K 1 (am_ rfl)).trans e185) ((p1.mono ((le223.trans le224).trans l)).at_ I) (fn rfl rfl I)), ?_, fun vs f w U X l A K I => pl_ rfl (ag_ (v := (pt_ g8)) (e := (i1 : Int)) rfl sh3 (K 4 (am_ rfl)) ((p5.mono l).at_ I) (fn rfl rfl I)), ?_, ?_, ?_, fun vs f w U X l A K I => pl_ rfl (cd_ (a := x35) (b := 0) rfl (A.u 6 rfl rfl rfl) rfl (fn rfl rfl I)), fun vs f w U X l A K I => pl_ rfl (aw_ (v := (vb (x35 != 0))) rfl (A.u 7 rfl rfl rfl) (fn rfl rfl I)), fun vs f w U X l A K I => tk_ rfl (A.u 8 rfl rfl rfl) hc26 (ac_ (v := (pt_ g1)) rfl jo_ ((K 1 (am_ rfl)).trans e185) ((p1.mono ((le223.trans le224).trans l)).at_ I) (fn rfl rfl I)), ?_, fun vs f w U X l A K I => tk_ rfl (A.u 8 rfl rfl rfl) hc26 (ag_ (v := (pt_ g8)) (e := (i1 : Int)) rfl sh3 (K 4 (am_ rfl)) ((p5.mono l).at_ I) (fn rfl rfl I)), ?_, ?_, ?_, fun vs f w U X l A K I => tk_ rfl (A.u 8 rfl rfl rfl) hc26 (mq_ (a := (x36.length : Int)) (b := 20) rfl (A.u 14 rfl rfl rfl) rfl (fn rfl rfl I)), ?_, trivial⟩ ?_
   ·
    intro vs f w_ U X le A K I
    have I341 : Inv w_ U (ao_ g9 62 #[(vi x30.Wheels), (vi x30.Symbols)] :: X) := I
    refine pl_ rfl (cz_ (l := [(vi x30.Wheels), (vi x30.Symbols)]) rfl jk_ (I341.nth 0 rfl) (K 5 (am_ rfl)) rfl rfl (fn rfl rfl I341))
   ·
    intro vs f w_ U X le A K I
    have q405 := A.u 0 rfl rfl rfl
    refine pl_ rfl (an_ (v := (ae_ (pt_ g1) 1)) (e := a0.Codes) rfl mh_ q405 (((p1.mono ((le223.trans le224).trans le)).at_ I).fld Riddle.fld1) (fun u193 hu193 => ?_))
    obtain ⟨z129, m129, k129, rfl⟩ := af_ hu193
    refine ⟨_, _, rfl, lr, ?_, ?_⟩
    · exact hu193
    exact I
   ·
    intro vs f w_ U X le A K I
    obtain ⟨z130, m130, k130, hu194, q406, r71⟩ := A.sl (a := 2) 1 rfl rfl rfl
    have q407 := A.u 2 rfl rfl rfl
    refine pl_ rfl (aj_ (v := (.slice z130 m130 k130)) (i := (i1 : Int)) (e := x34) rfl Tryz.underlying23 ht_ q406 r71 q407 hx34 (⟨_, _, rfl, lr, ?_, ?_⟩))
    ·
     show (ah_ (Value.slice z130 m130 k130) ((i1 : Int)) (Enc.sz (List Int))) = (ah_ (vs 2) ((i1 : Int)) (Enc.sz (List Int)))
     simp only [hu194] <;> rfl
    exact I
   ·
    intro vs f w_ U X le A K I
    obtain ⟨z131, m131, k131, hu195, q408, r72⟩ := A.sl (a := 2) 1 rfl rfl rfl
    have q409 := A.u 2 rfl rfl rfl
    have q410 : f 44 = (ah_ (vs 2) ((i1 : Int)) (Enc.sz (List Int))) := A.u 3 rfl rfl rfl
    simp only [hu195] at q410
    have q410 : f 44 = (ah_ (Value.slice z131 m131 k131) ((i1 : Int)) (Enc.sz (List Int))) := q410
    refine pl_ rfl (an_ (v := (ah_ (.slice z131 m131 k131) ((i1 : Int)) (Enc.sz (List Int)))) (e := x34) rfl ht_ q410 (r72.elem I.in_ hx34) (fun u196 hu196 => ?_))
    obtain ⟨z132, m132, k132, rfl⟩ := af_ hu196
    refine ⟨_, _, rfl, lr, ?_, ?_⟩
    · exact hu196
    exact I
   ·
    intro vs f w_ U X le A K I
    obtain ⟨z133, m133, k133, hu197, q412, r73⟩ := A.sl (a := 5) 5 rfl rfl rfl
    refine pl_ rfl (ap_ (vs := [(.agg #[(vi x30.Wheels), (vi x30.Symbols)]), (.slice z133 m133 k133)]) (r := (vi x35)) rfl ca108 rfl (bt_ (A.u 0 rfl rfl rfl) q412) I (fun Fr_ hF_ => fp_ hF_ (CodeLock.rv (s := x30)) r73 hx35) (fun w340 I348 => (fn rfl rfl I348)))
   ·
    intro vs f w_ U X le A K I
    have q416 := A.u 8 rfl rfl rfl
    have q417 := A.u 9 rfl rfl rfl
    refine tk_ rfl q416 hc26 (an_ (v := (ae_ (pt_ g1) 2)) (e := a0.Known) rfl sh24 q417 (((p1.mono ((le223.trans le224).trans le)).at_ I).fld Riddle.fld2) (fun u198 hu198 => ?_))
    obtain ⟨z134, m134, k134, rfl⟩ := af_ hu198
    refine ⟨_, _, rfl, lr, ?_, ?_⟩
    · exact hu198
    exact I
   ·
    intro vs f w_ U X le A K I
    have q419 := A.u 8 rfl rfl rfl
    obtain ⟨z135, m135, k135, hu199, q420, r74⟩ := A.sl (a := 10) 10 rfl rfl rfl
    have q421 := A.u 11 rfl rfl rfl
    refine tk_ rfl q419 hc26 (aj_ (v := (.slice z135 m135 k135)) (i := (i1 : Int)) (e := x36) rfl Tryz.underlying24 sh63 q420 r74 q421 hx36 (⟨_, _, rfl, lr, ?_, ?_⟩))
    ·
     show (ah_ (Value.slice z135 m135 k135) ((i1 : Int)) (Enc.sz (List Clue))) = (ah_ (vs 10) ((i1 : Int)) (Enc.sz (List Clue)))
     simp only [hu199] <;> rfl
    exact I
   ·
    intro vs f w_ U X le A K I
    have q422 := A.u 8 rfl rfl rfl
    obtain ⟨z136, m136, k136, hu200, q423, r75⟩ := A.sl (a := 10) 10 rfl rfl rfl
    have q424 := A.u 11 rfl rfl rfl
    have q425 : f 52 = (ah_ (vs 10) ((i1 : Int)) (Enc.sz (List Clue))) := A.u 12 rfl rfl rfl
    simp only [hu200] at q425
    have q425 : f 52 = (ah_ (Value.slice z136 m136 k136) ((i1 : Int)) (Enc.sz (List Clue))) := q425
    refine tk_ rfl q422 hc26 (an_ (v := (ah_ (.slice z136 m136 k136) ((i1 : Int)) (Enc.sz (List Clue)))) (e := x36) rfl sh63 q425 (r75.elem I.in_ hx36) (fun u201 hu201 => ?_))
    obtain ⟨z137, m137, k137, rfl⟩ := af_ hu201
    refine ⟨_, _, rfl, lr, ?_, ?_⟩
    · exact hu201
    exact I
   ·
    intro vs f w_ U X le A K I
    obtain ⟨z138, m138, k138, hu202, q427, r76⟩ := A.sl (a := 13) 13 rfl rfl rfl
    refine tk_ rfl (A.u 8 rfl rfl rfl) hc26 (bb_ rfl Tryz.underlying63 q427 r76 (fn rfl rfl I))
   ·
    intro vs f w_ U X le A K I
    refine pl_ rfl (aq_ (c := x35 != 0) (b := (vb (decide (20 < (x36.length : Int))))) rfl (A.u 8 rfl rfl rfl) hc26 (A.u 15 rfl rfl rfl) (fn rfl rfl I))
   intro vs288 f w351 S296 ed20 le296 hF16 hK288 hI289
   have e235 : f 1 = (pt_ g1) := (hK288 1 (au_ rfl)).trans e185
   have e236 : f 4 = (pt_ g8) := (hK288 4 (au_ rfl)).trans rfl
   have e237 : f 33 = (Value.slice z12 m12 k12) := (hK288 33 (au_ rfl)).trans e186
   have e238 : f 34 = (vi ((a0.Locks.length : Int))) := (hK288 34 (au_ rfl)).trans e187
   have e239 : f 35 = (vi ((i1 : Int))) := (hK288 35 (au_ rfl)).trans e188
   have I359 : Inv w351 S296 (ao_ g9 62 #[(vi x30.Wheels), (vi x30.Symbols)] :: Fr) := hI289
   have q432 := hF16.u 16 rfl rfl rfl
   rcases ifs h5 with ⟨hc27, h5⟩ | ⟨hc27, h5⟩
   ·
    refine ai_ (b := decide (20 < (x36.length : Int))) q432 hc27 (ab_ (aa_ (wa_ (v := (vi 70)) rfl rfl (ad_ (al_ ?_)))))
    obtain rfl := sj h5
    obtain rfl := (hout1 _ rfl)
    have h6 := h
    obtain rfl := sj h6
    exact ⟨(ed20.trans ed16), (vi 70), (bq_ rfl rfl), _, [], (((le1.trans le223).trans le224).trans le296), (I359).drop, rfl, rfl⟩
   refine ak_ (b := decide (20 < (x36.length : Int))) q432 hc27 (av_ (ab_ (aa_ (wo_ (ac_ (v := (pt_ g1)) rfl jo_ e235 ((p1.mono ((le223.trans le224).trans le296)).at_ I359) (wo_ (an_ (v := (ae_ (pt_ g1) 2)) (e := a0.Known) rfl sh24 rfl (((p1.mono ((le223.trans le224).trans le296)).at_ I359).fld Riddle.fld2) (fun u203 hu203 => ?_))))))))
   obtain ⟨z139, m139, k139, rfl⟩ := af_ hu203
   refine wo_ (ag_ (v := (pt_ g8)) (e := (i1 : Int)) rfl sh3 e236 ((p5.mono le296).at_ I359) ?_)
   obtain ⟨x37, hx37, h5⟩ := bnd h5
   refine wo_ (aj_ (v := (.slice z139 m139 k139)) (i := (i1 : Int)) (e := x37) rfl Tryz.underlying24 sh63 rfl hu203 rfl hx37 (wo_ (an_ (v := (ah_ (.slice z139 m139 k139) ((i1 : Int)) (Enc.sz (List Clue)))) (e := x37) rfl sh63 rfl (hu203.elem I359.in_ hx37) (fun u204 hu204 => ?_))))
   obtain ⟨z140, m140, k140, rfl⟩ := af_ hu204
   refine wo_ (ck_ (fv := #[]) (cv := #[(pt_ g1), (pt_ g8)]) rfl arr0 (arr2 e235 e236) ?_)
   obtain ⟨x38, hx38, h5⟩ := bnd h5
   refine wo_ (ap_ (vs := [(.slice z140 m140 k140), (.func (.func 110) #[] #[(pt_ g1), (pt_ g8)])]) (r := (vb x38)) rfl ca109 rfl (bt_ rfl rfl) I359 (fun Fr_ hF_ => fs_ hF_ hu204 ⟨110, [(pt_ g1), (pt_ g8)], rfl, ca110, fun T_ w_ Fr_ u_ x_ r_ hle_ hI_ hu_ hr_ => hints_Check_1_ok hI_ hu_ ((p1.mono ((le223.trans le224).trans le296)).mono hle_) ((p5.mono le296).mono hle_) hr_⟩ hx38) (fun w352 I360 => (ad_ ?_)))
   rcases ifs h5 with ⟨hc28, h5⟩ | ⟨hc28, h5⟩
   ·
    refine ai_ (b := x38) rfl hc28 (ab_ (aa_ (wa_ (v := (vi 70)) rfl rfl (ad_ (al_ ?_)))))
    obtain rfl := sj h5
    obtain rfl := (hout1 _ rfl)
    have h6 := h
    obtain rfl := sj h6
    exact ⟨(ed20.trans ed16), (vi 70), (bq_ rfl rfl), _, [], (((le1.trans le223).trans le224).trans le296), (I360).drop, rfl, rfl⟩
   refine ak_ (b := x38) rfl hc28 (av_ (aa_ (wo_ (bp_ (a := (i1 : Int)) (b := 1) rfl e239 rfl (wm_ (v := (vi (w64 ((i1 : Int) + 1)))) rfl rfl (ad_ ?_))))))
   obtain rfl := sj h5
   exact ⟨_, rfl, _, ((le223.trans le224).trans le296), (I360).drop, e235, e237, e238, (bl_ hlt1 hk1), (ed20.trans ed16)⟩
  rintro s2 f w hs1 hI290
  obtain ⟨S297, le297, I361, e242, e243, e244, e245, ed21⟩ := hI290
  refine ab_ (aa_ (wo_ (bg_ (a := (a0.Locks.length : Int)) (b := (a0.Locks.length : Int)) rfl e245 e244 (ad_ (ab_ (ak_ (b := decide ((a0.Locks.length : Int) < (a0.Locks.length : Int))) rfl (gh_ _) (bj_ ?_)))))))
  exact ⟨s2, hs1, _, le297, I361, e242, e243, e244, ed21⟩
 rintro f w ⟨out1, rfl, S298, le298, I362, e246, e247, e248, ed22⟩
 have h := ds_ h
 refine ab_ (ab_ (aa_ (wo_ (ac_ (v := (pt_ g1)) rfl fa27_3 e246 ((p1.mono le298).at_ I362) (wo_ (an_ (v := (ae_ (pt_ g1) 3)) (e := a0.Ties) rfl sh25 rfl (((p1.mono le298).at_ I362).fld Riddle.fld3) (fun u205 hu205 => ?_)))))))
 obtain ⟨z141, m141, k141, rfl⟩ := af_ hu205
 refine wo_ (ck_ (fv := #[]) (cv := #[(pt_ g1)]) rfl arr0 (arr1 e246) ?_)
 obtain ⟨x39, hx39, h⟩ := bnd h
 refine wo_ (ap_ (vs := [(.slice z141 m141 k141), (.func (.func 112) #[] #[(pt_ g1)])]) (r := (vb x39)) rfl ca111 rfl (bt_ rfl rfl) I362 (fun Fr_ hF_ => kq_ hF_ hu205 ⟨112, [(pt_ g1)], rfl, ca112, fun T_ w_ Fr_ u_ x_ r_ hle_ hI_ hu_ hr_ => hints_Check_2_ok hI_ hu_ ((p1.mono le298).mono hle_) hr_⟩ hx39) (fun w353 I363 => (ad_ ?_)))
 rcases ifs h with ⟨hc29, h⟩ | ⟨hc29, h⟩
 ·
  refine ai_ (b := x39) rfl hc29 (ab_ (aa_ (wa_ (v := (vi 70)) rfl rfl (ad_ (al_ ?_)))))
  obtain rfl := sj h
  exact ⟨ed22, (vi 70), (bq_ rfl rfl), _, [], (le1.trans le298), I363, rfl, rfl⟩
 refine ak_ (b := x39) rfl hc29 (av_ (ab_ (aa_ (wa_ (v := (vi 0)) rfl rfl (ad_ (al_ ?_))))))
 obtain rfl := sj h
 exact ⟨ed22, (vi 0), (bq_ rfl rfl), _, [], (le1.trans le298), I363, rfl, rfl⟩
theorem np_ {w : World} {S : PH} {Fr : List HP} {a0 : Clue} {v0 : Value} {a1 : CodeLock} {v1 : Value} {r : Bool} (hI : Inv w S (Fr)) (h0_ : RV S v0 a0) (h1_ : PtS S v1 a1) (h : fo_ a0 a1 = some r) :
    Calls Tryz.prog 124 [v0, v1].toArray w (cc_ S Fr (Value.bool (r))) := by
 unfold fo_ at h
 obtain ⟨c1, e1, r1⟩ := Clue.inv h0_
 subst e1
 obtain ⟨z1, m1, k1, rfl⟩ := af_ r1
 refine ar_ (n := 8) (vs := [(.agg #[(vi a0.Kind), (vi a0.A), (vi a0.B), (vi a0.N), (vi a0.M), (.slice z1 m1 k1), (vb a0.Not)]), v1]) Tryz.func124 rfl rfl rfl (ab_ (aa_ (wo_ (bi_ (v := (.agg #[(vi a0.Kind), (vi a0.A), (vi a0.B), (vi a0.N), (vi a0.M), (.slice z1 m1 k1), (vb a0.Not)])) rfl hI rfl (fun g1 w1 I1 => ?_)))))
 obtain ⟨S1, le1, I2, p1⟩ := Inv.boxFreeze (x := a0) I1 (Clue.rv (s := a0) r1)
 refine wa_ (v := (vb false)) rfl rfl (ad_ (ab_ (aa_ (wo_ (an_ (v := v1) (e := a1) rfl jk_ rfl ((h1_.mono le1).at_ I2) (fun u1 hu1 => ?_))))))
 have e3 := CodeLock.inv hu1
 subst e3
 refine wo_ (an_ (v := (pt_ g1)) (e := a0) rfl mg_ rfl (p1.at_ I2) (fun u2 hu2 => ?_))
 obtain ⟨c2, e4, r2⟩ := Clue.inv hu2
 subst e4
 obtain ⟨z2, m2, k2, rfl⟩ := af_ r2
 obtain ⟨x1, hx1, h⟩ := bnd h
 refine wo_ (ap_ (vs := [(.agg #[(vi a1.Wheels), (vi a1.Symbols)]), (.agg #[(vi a0.Kind), (vi a0.A), (vi a0.B), (vi a0.N), (vi a0.M), (.slice z2 m2 k2), (vb a0.Not)])]) (r := (vb x1)) rfl ca125 rfl (bt_ rfl rfl) I2 (fun Fr_ hF_ => le_ hF_ (CodeLock.rv (s := a1)) (Clue.rv (s := a0) r2) hx1) (fun w2 I3 => (wo_ (bz_ (b := x1) rfl rfl (wa_ (v := (vb (!x1))) rfl rfl (ad_ (al_ ?_)))))))
 obtain rfl := sj h
 exact ⟨rfl, (vb (!x1)), (bq_ rfl rfl), _, [], le1, I3, rfl, rfl⟩
theorem km_ {w : World} {S : PH} {Fr : List HP} {a0 : CodeLock} {v0 : Value} {a1 : (List Clue)} {v1 : Value} {r : Int} (hI : Inv w S (Fr)) (h0_ : RV S v0 a0) (h1_ : RV S v1 a1) (h : ek_ a0 a1 = some r) :
    Calls Tryz.prog 114 [v0, v1].toArray w (cc_ S Fr (Value.int .i64 (r))) := by
 unfold ek_ at h
 have e1 := CodeLock.inv h0_
 subst e1
 obtain ⟨z1, m1, k1, rfl⟩ := af_ h1_
 refine ar_ (n := 17) (vs := [(.agg #[(vi a0.Wheels), (vi a0.Symbols)]), (.slice z1 m1 k1)]) Tryz.func114 rfl rfl rfl (ab_ (aa_ (wo_ (bi_ (v := (.agg #[(vi a0.Wheels), (vi a0.Symbols)])) rfl hI rfl (fun g1 w1 I1 => ?_)))))
 obtain ⟨S1, le1, I2, p1⟩ := Inv.boxFreeze (x := a0) I1 (CodeLock.rv (s := a0))
 refine wa_ (v := (vi 0)) rfl rfl (ad_ (ab_ (ab_ (aa_ (wo_ (an_ (v := (pt_ g1)) (e := a0) rfl jk_ rfl (p1.at_ I2) (fun u1 hu1 => ?_)))))))
 have e3 := CodeLock.inv hu1
 subst e3
 obtain ⟨x1, hx1, h⟩ := bnd h
 refine wo_ (ap_ (vs := [(.agg #[(vi a0.Wheels), (vi a0.Symbols)])]) (r := (vi x1)) rfl ca123 rfl (fk_ rfl) I2 (fun Fr_ hF_ => lm_ hF_ (CodeLock.rv (s := a0)) hx1) (fun w2 I3 => (wa_ (v := (vi x1)) rfl rfl (ad_ (ab_ (aa_ (wm_ (v := (vi x1)) rfl rfl (wo_ (cd_ (a := x1) (b := 0) rfl rfl rfl (ad_ ?_))))))))))
 rcases ifs h with ⟨hc1, h⟩ | ⟨hc1, h⟩
 ·
  refine ai_ (b := x1 != 0) rfl hc1 (ab_ (aa_ (wm_ (v := (vi x1)) rfl rfl (wa_ (v := (vi x1)) rfl rfl (ad_ (al_ ?_))))))
  obtain rfl := sj h
  exact ⟨rfl, (vi x1), (bq_ rfl rfl), _, [], le1, I3, rfl, rfl⟩
 refine ak_ (b := x1 != 0) rfl hc1 (av_ (ab_ (ab_ (aa_ (wm_ (v := (.slice z1 m1 k1)) rfl rfl (wo_ (bb_ rfl Tryz.underlying63 rfl (h1_.mono le1) (wo_ (mq_ (a := (a1.length : Int)) (b := 20) rfl rfl rfl (ad_ ?_))))))))))
 rcases ifs h with ⟨hc2, h⟩ | ⟨hc2, h⟩
 ·
  refine ai_ (b := decide (20 < (a1.length : Int))) rfl hc2 (ab_ (aa_ (wa_ (v := (vi 2)) rfl rfl (ad_ (al_ ?_)))))
  obtain rfl := sj h
  exact ⟨rfl, (vi 2), (bq_ rfl rfl), _, [], le1, I3, rfl, rfl⟩
 refine ak_ (b := decide (20 < (a1.length : Int))) rfl hc2 (av_ (ab_ (ab_ (aa_ (wm_ (v := (.slice z1 m1 k1)) rfl rfl (wo_ (ck_ (fv := #[]) (cv := #[(pt_ g1)]) rfl arr0 (arr1 rfl) ?_)))))))
 obtain ⟨x2, hx2, h⟩ := bnd h
 refine wo_ (ap_ (vs := [(.slice z1 m1 k1), (.func (.func 124) #[] #[(pt_ g1)])]) (r := (vb x2)) rfl ca109 rfl (bt_ rfl rfl) I3 (fun Fr_ hF_ => fs_ hF_ (h1_.mono le1) ⟨124, [(pt_ g1)], rfl, ca124, fun T_ w_ Fr_ u_ x_ r_ hle_ hI_ hu_ hr_ => np_ hI_ hu_ (p1.mono hle_) hr_⟩ hx2) (fun w3 I4 => (ad_ ?_)))
 rcases ifs h with ⟨hc3, h⟩ | ⟨hc3, h⟩
 ·
  refine ai_ (b := x2) rfl hc3 (ab_ (aa_ (wa_ (v := (vi 11)) rfl rfl (ad_ (al_ ?_)))))
  obtain rfl := sj h
  exact ⟨rfl, (vi 11), (bq_ rfl rfl), _, [], le1, I4, rfl, rfl⟩
 refine ak_ (b := x2) rfl hc3 (av_ (ab_ (aa_ (wa_ (v := (vi 0)) rfl rfl (ad_ (al_ ?_))))))
 obtain rfl := sj h
 exact ⟨rfl, (vi 0), (bq_ rfl rfl), _, [], le1, I4, rfl, rfl⟩
theorem nl_ {w : World} {S : PH} {Fr : List HP} {σ_ : Type} {τ_ : Type} {R_ : σ_ → HP} {Rx_ : τ_ → HP} {a0 : (List Int) → σ_ → Option (σ_ ⊕ τ_)} {v0 : Value} {a1 : CodeLock} {v1 : Value} {s_ : σ_} {r : (σ_ ⊕ τ_)} (hI : Inv w S (R_ (s_) :: Fr)) (o0_ : v0.oneCell' = true) (h0_ : Yields (argRow Int 3) Tryz.prog S v0 R_ Rx_ a0) (h1_ : PtS S v1 a1) (h : dp_ a0 a1 s_ = some r) :
    Calls Tryz.prog 142 [v0, v1].toArray w (ms_ S Fr (fun T_ v_ O_ => v_ = (Value.tuple #[]) ∧ O_ = [Sum.elim R_ Rx_ (r)])) := by
 unfold dp_ at h
 refine ar_ (n := 40) (vs := [v0, v1]) Tryz.func142 rfl rfl rfl (ab_ (aa_ (wo_ (ac_ (v := v1) rfl oz_ rfl (h1_.at_ hI) (wo_ (ag_ (v := (ae_ v1 0)) (e := a1.Wheels) rfl sh3 rfl ((h1_.at_ hI).fld CodeLock.fld0) ?_))))))
 obtain ⟨x1, hx1, h⟩ := bnd h
 refine wo_ (fu_ (c := a1.Wheels) rfl Tryz.underlying28 el3 (by decide) rfl rfl hI hx1 (fun u1 w1 I1 => ?_))
 obtain ⟨z1, m1, k1, e1⟩ := bk_ I1
 subst e1
 refine wa_ (v := (.slice z1 m1 k1)) rfl rfl (ad_ ?_)
 obtain ⟨o8, hrun7, h⟩ := bnd h
 refine bs_ (fun f w => ∃ out7, o8 = Sum.inl out7 ∧ ∃ (S_ : PH), S.Le S_ ∧ Inv w S_ (R_ (out7.1) :: Row (α := Int) 3 (.slice z1 m1 k1) (out7.2) :: Fr) ∧ f 0 = v0 ∧ f 1 = v1 ∧ f 3 = (.slice z1 m1 k1) ∧ f.ds = []) ?_ ?_
 ·
  refine ax_ ?_
  refine hv_ (I := fun (s13 : (σ_ × List Int)) (f : Frm) (w : World) => ∃ (S_ : PH), S.Le S_ ∧ Inv w S_ (R_ (s13.1) :: Row (α := Int) 3 (.slice z1 m1 k1) (s13.2) :: Fr) ∧ f 0 = v0 ∧ f 1 = v1 ∧ f 3 = (.slice z1 m1 k1) ∧ f.ds = []) hrun7 ⟨_, lr, (I1.pull 1), rfl, rfl, rfl, rfl⟩ ?_
  rintro s13 f w o7 hI1099 h13 hout7
  obtain ⟨S1139, le1139, I1208, e548, e549, e550, ed139⟩ := hI1099
  refine ax_ (ab_ (ab_ (aa_ (wm_ rfl e548 (wm_ rfl e550 ?_)))))
  obtain ⟨x104, hx104, h13⟩ := bnd h13
  refine wo_ (op_callV (vs := [(.slice z1 m1 k1)]) rfl rfl (fk_ rfl) (h0_ _ _ _ _ s13.2 _ _ le1139 ⟨_, _, _, rfl⟩ (I1208.pull 1) hx104) (fun v7 w1149 S1140 O7 le1140 I1209 hv7 => ?_))
  obtain ⟨rfl, rfl⟩ := hv7
  have I1210 : Inv w1149 S1140 (Row (α := Int) 3 (Value.slice z1 m1 k1) (s13.2) :: Sum.elim R_ Rx_ (x104) :: Fr) := I1209
  refine wo_ (bz_ (b := x104.isLeft) rfl rfl (ad_ ?_))
  rcases x104 with s14 | q1687
  ·
   have h13 := sm_inl h13
   refine ak_ (b := false) rfl rfl (av_ (ab_ (aa_ (wo_ (ac_ (v := v1) rfl oz_ e549 ((h1_.mono (le1139.trans le1140)).at_ I1210) (wo_ (ag_ (v := (ae_ v1 0)) (e := a1.Wheels) rfl sh3 rfl (((h1_.mono (le1139.trans le1140)).at_ I1210).fld CodeLock.fld0) (wo_ (eg_ (a := a1.Wheels) (b := 1) rfl rfl rfl (wa_ (v := (vi (w64 (a1.Wheels - 1)))) rfl rfl (ad_ ?_)))))))))))
   obtain ⟨out8, hrun8, h13⟩ := bnd h13
   refine mp_ (fun f w => ∃ (S_ : PH), S1140.Le S_ ∧ Inv w S_ (R_ (s14) :: Row (α := Int) 3 (.slice z1 m1 k1) (out8.1) :: Fr) ∧ f 0 = v0 ∧ f 1 = v1 ∧ f 3 = (.slice z1 m1 k1) ∧ f 4 = (vi out8.2) ∧ f.ds = []) ?_ ?_
   ·
    refine ax_ ?_
    refine hv_ (I := fun (s15 : (List Int × Int)) (f : Frm) (w : World) => ∃ (S_ : PH), S1140.Le S_ ∧ Inv w S_ (R_ (s14) :: Row (α := Int) 3 (.slice z1 m1 k1) (s15.1) :: Fr) ∧ f 0 = v0 ∧ f 1 = v1 ∧ f 3 = (.slice z1 m1 k1) ∧ f 4 = (vi s15.2) ∧ f.ds = []) hrun8 ⟨_, lr, (I1210.pull 1), e548, e549, e550, rfl, ed139⟩ ?_
    rintro s15 f w o9 hI1256 h15 hout8
    obtain ⟨S1301, le1301, I1379, e623, e624, e625, e626, ed158⟩ := hI1256
    refine ab_ (ab_ ?_)
    rcases ifs h15 with ⟨hc103, h15⟩ | ⟨hc103, h15⟩
    ·
     obtain ⟨x117, hx117, h15⟩ := bnd h15
     refine bm_ (sps := [spV 15 [] 0 (vi s15.2), spV 16 [0] 1 (vb (decide (0 ≤ s15.2))), spV 17 [0, 1] 2 (vb (decide (0 ≤ s15.2))), spV 18 [0, 1, 2] 3 (.slice z1 m1 k1), spV 19 [0, 1, 2] 4 (vi s15.2), ⟨some 20, [0, 1, 2, 3, 4], [5], fun vs_ T_ => fr0 vs_ 0 = (ah_ (.slice z1 m1 k1) (s15.2) (Enc.sz Int)), [0], [], [], fun _ h_ => h_⟩, ⟨some 21, (lrg 6), [6], fun vs_ T_ => fr0 vs_ 0 = (vi x117), [0], [], [], fun _ h_ => h_⟩, spV 22 [0, 1, 2] 7 (ae_ v1 1), spV 23 [0, 1, 2, 7] 8 (vi a1.Symbols), spV 24 [0, 1, 2, 7, 8] 9 (vi (w64 (a1.Symbols - 1))), spV 25 (lrg 10) 10 (vb (x117 == (w64 (a1.Symbols - 1)))), spV 26 (lrg 11) 11 (vb (x117 == (w64 (a1.Symbols - 1))))]) (tks := [⟨none, none, [], fun vs_ => Row (α := Int) 3 (.slice z1 m1 k1) (s15.1)⟩]) (O := R_ (s14) :: Fr) rfl (by kernel_rfl) (I1379.pull 1) ⟨fun vs f w U X l A K I => pl_ rfl (aw_ (v := (vi s15.2)) rfl ((K 4 (am_ rfl)).trans e626) (fn rfl rfl I)), fun vs f w U X l A K I => pl_ rfl (lw_ (a := s15.2) (b := 0) rfl (A.u 0 rfl rfl rfl) rfl (fn rfl rfl I)), fun vs f w U X l A K I => pl_ rfl (aw_ (v := (vb (decide (0 ≤ s15.2)))) rfl (A.u 1 rfl rfl rfl) (fn rfl rfl I)), fun vs f w U X l A K I => tk_ rfl (A.u 2 rfl rfl rfl) hc103 (aw_ (v := (.slice z1 m1 k1)) rfl ((K 3 (am_ rfl)).trans e625) (fn rfl rfl I)), fun vs f w U X l A K I => tk_ rfl (A.u 2 rfl rfl rfl) hc103 (aw_ (v := (vi s15.2)) rfl ((K 4 (am_ rfl)).trans e626) (fn rfl rfl I)), ?_, ?_, fun vs f w U X l A K I => tk_ rfl (A.u 2 rfl rfl rfl) hc103 (ac_ (v := v1) rfl fa138_1 ((K 1 (am_ rfl)).trans e624) ((h1_.mono (((le1139.trans le1140).trans le1301).trans l)).at_ I) (fn rfl rfl I)), fun vs f w U X l A K I => tk_ rfl (A.u 2 rfl rfl rfl) hc103 (ag_ (v := (ae_ v1 1)) (e := a1.Symbols) rfl sh3 (A.u 3 rfl rfl rfl) (((h1_.mono (((le1139.trans le1140).trans le1301).trans l)).at_ I).fld CodeLock.fld1) (fn rfl rfl I)), fun vs f w U X l A K I => tk_ rfl (A.u 2 rfl rfl rfl) hc103 (eg_ (a := a1.Symbols) (b := 1) rfl (A.u 4 rfl rfl rfl) rfl (fn rfl rfl I)), fun vs f w U X l A K I => tk_ rfl (A.u 2 rfl rfl rfl) hc103 (bn_ (a := x117) (b := w64 (a1.Symbols - 1)) rfl (A.u 6 rfl rfl rfl) (A.u 9 rfl rfl rfl) (fn rfl rfl I)), ?_, trivial⟩ ?_
     ·
      intro vs f w_ U X le A K I
      have I1385 : Inv w_ U (Row (α := Int) 3 (Value.slice z1 m1 k1) (s15.1) :: X) := I
      refine tk_ rfl (A.u 2 rfl rfl rfl) hc103 (bf_ (v := (.slice z1 m1 k1)) (i := s15.2) (e := x117) rfl Tryz.underlying28 sh3 (A.u 3 rfl rfl rfl) (Inv.rowSrc (I1385.nth 0 rfl)) (A.u 4 rfl rfl rfl) hx117 (fn rfl rfl I1385))
     ·
      intro vs f w_ U X le A K I
      have I1386 : Inv w_ U (Row (α := Int) 3 (Value.slice z1 m1 k1) (s15.1) :: X) := I
      refine tk_ rfl (A.u 2 rfl rfl rfl) hc103 (ag_ (v := (ah_ (.slice z1 m1 k1) (s15.2) (Enc.sz Int))) (e := x117) rfl sh3 (A.u 5 rfl rfl rfl) ((I1386.nth 0 rfl).rowElem hx117) (fn rfl rfl I1386))
     ·
      intro vs f w_ U X le A K I
      refine pl_ rfl (ay_ (c := decide (0 ≤ s15.2)) (a := (vb (x117 == (w64 (a1.Symbols - 1))))) rfl (A.u 2 rfl rfl rfl) hc103 (A.u 10 rfl rfl rfl) (fn rfl rfl I))
     intro vs1261 f w1324 S1314 ed159 le1314 hF97 hK1261 hI1269
     have e627 : f 0 = v0 := (hK1261 0 (au_ rfl)).trans e623
     have e628 : f 1 = v1 := (hK1261 1 (au_ rfl)).trans e624
     have e629 : f 3 = (Value.slice z1 m1 k1) := (hK1261 3 (au_ rfl)).trans e625
     have e630 : f 4 = (vi s15.2) := (hK1261 4 (au_ rfl)).trans e626
     have I1392 : Inv w1324 S1314 (Row (α := Int) 3 (Value.slice z1 m1 k1) (s15.1) :: R_ (s14) :: Fr) := hI1269
     have q1947 := hF97.u 11 rfl rfl rfl
     rcases ifs h15 with ⟨hc104, h15⟩ | ⟨hc104, h15⟩
     ·
      refine ai_ (b := x117 == (w64 (a1.Symbols - 1))) q1947 hc104 (av_ (ax_ (ab_ (aa_ (wm_ rfl e629 (wm_ rfl e630 ?_))))))
      obtain ⟨x118, hx118, h15⟩ := bnd h15
      refine wo_ (bf_ (v := (.slice z1 m1 k1)) (i := s15.2) (e := x118) rfl Tryz.underlying28 sh3 rfl (Inv.rowSrc (I1392.nth 0 rfl)) rfl hx118 (wo_ (dr_ (u := (vi 0)) (e' := 0) sh3 I1392 rfl rfl hx118 (ei_ _) (fun w1325 I1393 => (ad_ (aa_ (wm_ rfl e630 (wo_ (eg_ (a := s15.2) (b := 1) rfl rfl rfl (wa_ (v := (vi (w64 (s15.2 - 1)))) rfl rfl (ad_ ?_)))))))))))
      obtain rfl := sj h15
      exact ⟨_, rfl, _, (le1301.trans le1314), (I1393.pull 1), e627, e628, e629, rfl, (ed159.trans ed158)⟩
     refine ak_ (b := x117 == (w64 (a1.Symbols - 1))) q1947 hc104 (bj_ ?_)
     obtain rfl := sj h15
     obtain rfl := (hout8 _ rfl)
     exact ⟨_, (le1301.trans le1314), (I1392.pull 1), e627, e628, e629, e630, (ed159.trans ed158)⟩
    refine bm_ (sps := [spV 15 [] 0 (vi s15.2), spV 16 [0] 1 (vb (decide (0 ≤ s15.2))), spV 17 [0, 1] 2 (vb (decide (0 ≤ s15.2))), spV 18 [0, 1, 2] 3 undef, spV 19 [0, 1, 2] 4 undef, spV 20 [0, 1, 2, 3, 4] 5 undef, spV 21 (lrg 6) 6 undef, spV 22 [0, 1, 2] 7 undef, spV 23 [0, 1, 2, 7] 8 undef, spV 24 [0, 1, 2, 7, 8] 9 undef, spV 25 (lrg 10) 10 undef, spV 26 (lrg 11) 11 (vb false)]) (tks := []) (O := R_ (s14) :: Row (α := Int) 3 (.slice z1 m1 k1) (s15.1) :: Fr) rfl (by kernel_rfl) I1379 ⟨fun vs f w U X l A K I => pl_ rfl (aw_ (v := (vi s15.2)) rfl ((K 4 (am_ rfl)).trans e626) (fn rfl rfl I)), fun vs f w U X l A K I => pl_ rfl (lw_ (a := s15.2) (b := 0) rfl (A.u 0 rfl rfl rfl) rfl (fn rfl rfl I)), fun vs f w U X l A K I => pl_ rfl (aw_ (v := (vb (decide (0 ≤ s15.2)))) rfl (A.u 1 rfl rfl rfl) (fn rfl rfl I)), fun vs f w U X l A K I => sk_ rfl (A.u 2 rfl rfl rfl) hc103 (fn rfl rfl I), fun vs f w U X l A K I => sk_ rfl (A.u 2 rfl rfl rfl) hc103 (fn rfl rfl I), fun vs f w U X l A K I => sk_ rfl (A.u 2 rfl rfl rfl) hc103 (fn rfl rfl I), fun vs f w U X l A K I => sk_ rfl (A.u 2 rfl rfl rfl) hc103 (fn rfl rfl I), fun vs f w U X l A K I => sk_ rfl (A.u 2 rfl rfl rfl) hc103 (fn rfl rfl I), fun vs f w U X l A K I => sk_ rfl (A.u 2 rfl rfl rfl) hc103 (fn rfl rfl I), fun vs f w U X l A K I => sk_ rfl (A.u 2 rfl rfl rfl) hc103 (fn rfl rfl I), fun vs f w U X l A K I => sk_ rfl (A.u 2 rfl rfl rfl) hc103 (fn rfl rfl I), ?_, trivial⟩ ?_
    ·
     intro vs f w_ U X le A K I
     refine pl_ rfl (aq_ (c := decide (0 ≤ s15.2)) (b := (vb false)) rfl (A.u 2 rfl rfl rfl) hc103 rfl (fn rfl rfl I))
    intro vs1274 f w1338 S1327 ed160 le1327 hF98 hK1274 hI1282
    have e631 : f 0 = v0 := (hK1274 0 (au_ rfl)).trans e623
    have e632 : f 1 = v1 := (hK1274 1 (au_ rfl)).trans e624
    have e633 : f 3 = (Value.slice z1 m1 k1) := (hK1274 3 (au_ rfl)).trans e625
    have e634 : f 4 = (vi s15.2) := (hK1274 4 (au_ rfl)).trans e626
    have I1406 : Inv w1338 S1327 (R_ (s14) :: Row (α := Int) 3 (Value.slice z1 m1 k1) (s15.1) :: Fr) := hI1282
    have q1967 := hF98.u 11 rfl rfl rfl
    refine ak_ (b := false) q1967 rfl (bj_ ?_)
    obtain rfl := sj h15
    obtain rfl := (hout8 _ rfl)
    exact ⟨_, (le1301.trans le1327), ((I1406.pull 1).pull 1), e631, e632, e633, e634, (ed160.trans ed158)⟩
   rintro f w ⟨S1328, le1328, I1407, e635, e636, e637, e638, ed161⟩
   refine ab_ (ab_ (aa_ (wm_ rfl e638 (wo_ (bg_ (a := out8.2) (b := 0) rfl rfl rfl (ad_ ?_))))))
   rcases ifs h13 with ⟨hc105, h13⟩ | ⟨hc105, h13⟩
   ·
    refine ai_ (b := decide (out8.2 < 0)) rfl hc105 (al_ ?_)
    obtain rfl := sj h13
    obtain rfl := (hout7 _ rfl)
    have h14 := h
    obtain rfl := sj h14
    exact ⟨ed161, (Value.tuple #[]), (res0 rfl), _, [R_ (s14)], ((le1139.trans le1140).trans le1328), (I1407.pull 1).drop, rfl, rfl⟩
   refine ak_ (b := decide (out8.2 < 0)) rfl hc105 (av_ (aa_ (wm_ rfl e637 (wm_ rfl e638 ?_))))
   obtain ⟨x119, hx119, h13⟩ := bnd h13
   refine wo_ (bf_ (v := (.slice z1 m1 k1)) (i := out8.2) (e := x119) rfl Tryz.underlying28 sh3 rfl (Inv.rowSrc (I1407.nth 1 rfl)) rfl hx119 (wo_ (ag_ (v := (ah_ (.slice z1 m1 k1) (out8.2) (Enc.sz Int))) (e := x119) rfl sh3 rfl ((I1407.nth 1 rfl).rowElem hx119) (wo_ (bp_ (a := x119) (b := 1) rfl rfl rfl ?_)))))
   obtain ⟨x120, hx120, h13⟩ := bnd h13
   refine wo_ (bf_ (v := (.slice z1 m1 k1)) (i := out8.2) (e := x120) rfl Tryz.underlying28 sh3 rfl (Inv.rowSrc (I1407.nth 1 rfl)) rfl hx120 (wo_ (dr_ (u := (vi (w64 (x119 + 1)))) (e' := w64 (x119 + 1)) sh3 (I1407.pull 1) rfl rfl hx120 (ei_ _) (fun w1339 I1408 => (ad_ ?_)))))
   obtain rfl := sj h13
   exact ⟨_, rfl, _, ((le1139.trans le1140).trans le1328), (I1408.pull 1), e635, e636, e637, ed161⟩
  have h13 := sm_inr h13
  refine ai_ (b := true) rfl rfl (al_ ?_)
  obtain rfl := sj h13
  obtain rfl := (hout7 _ rfl)
  have h14 := h
  obtain rfl := sj h14
  exact ⟨ed139, (Value.tuple #[]), (res0 rfl), _, [Rx_ (q1687)], (le1139.trans le1140), (I1210).drop, rfl, rfl⟩
 rintro f w ⟨out7, rfl, S1329, le1329, I1409, e639, e640, e641, ed162⟩
 have h := ds_ h
 obtain rfl := sj h
 exact ⟨ed162, (Value.tuple #[]), (res0 rfl), _, [R_ (out7.1)], le1329, (I1409.pull 1).drop, rfl, rfl⟩
theorem pc_ {w : World} {S : PH} {Fr : List HP} {a0 : CodeLock} {v0 : Value} {r : (CodeLock)} (hI : Inv w S (Fr)) (h0_ : RV S v0 a0) (h : hc_ a0 = some r) :
    Calls Tryz.prog 137 [v0].toArray w (ms_ S Fr (fun T_ v_ O_ => ∃ (p0_0 : Value), v_ = (Value.func (.func 142) #[] #[p0_0]) ∧ O_ = [] ∧ PtS T_ p0_0 r)) := by
 unfold hc_ at h
 have e1 := CodeLock.inv h0_
 subst e1
 refine ar_ (n := 4) (vs := [(.agg #[(vi a0.Wheels), (vi a0.Symbols)])]) Tryz.func137 rfl rfl rfl (ab_ (aa_ (wo_ (bi_ (v := (.agg #[(vi a0.Wheels), (vi a0.Symbols)])) rfl hI rfl (fun g1 w1 I1 => ?_)))))
 obtain ⟨S1, le1, I2, p1⟩ := Inv.boxFreeze (x := a0) I1 (CodeLock.rv (s := a0))
 refine wa_ (v := (Value.nilFunc)) rfl rfl (ad_ (ab_ (aa_ (wo_ (ck_ (fv := #[]) (cv := #[(pt_ g1)]) rfl arr0 (arr1 rfl) (wa_ (v := (.func (.func 142) #[] #[(pt_ g1)])) rfl rfl (ad_ (al_ ?_))))))))
 obtain rfl := sj h
 exact ⟨rfl, (.func (.func 142) #[] #[(pt_ g1)]), (bq_ rfl rfl), _, [], le1, I2, _, rfl, rfl, p1⟩
theorem codes_fails_1_ok {w : World} {S : PH} {Fr : List HP} {a0 : Clue} {v0 : Value} {a1 : (List Int)} {v1 : Value} {r : Bool} (hI : Inv w S (Fr)) (h0_ : RV S v0 a0) (h1_ : PtS S v1 a1) (h : gl_ a0 a1 = some r) :
    Calls Tryz.prog 138 [v0, v1].toArray w (cc_ S Fr (Value.bool (r))) := by
 unfold gl_ at h
 obtain ⟨c1, e1, r1⟩ := Clue.inv h0_
 subst e1
 obtain ⟨z1, m1, k1, rfl⟩ := af_ r1
 refine ar_ (n := 8) (vs := [(.agg #[(vi a0.Kind), (vi a0.A), (vi a0.B), (vi a0.N), (vi a0.M), (.slice z1 m1 k1), (vb a0.Not)]), v1]) Tryz.func138 rfl rfl rfl (ab_ (aa_ (wo_ (bi_ (v := (.agg #[(vi a0.Kind), (vi a0.A), (vi a0.B), (vi a0.N), (vi a0.M), (.slice z1 m1 k1), (vb a0.Not)])) rfl hI rfl (fun g1 w1 I1 => ?_)))))
 obtain ⟨S1, le1, I2, p1⟩ := Inv.boxFreeze (x := a0) I1 (Clue.rv (s := a0) r1)
 refine wa_ (v := (vb false)) rfl rfl (ad_ (ab_ (aa_ (wo_ (an_ (v := (pt_ g1)) (e := a0) rfl mg_ rfl (p1.at_ I2) (fun u1 hu1 => ?_))))))
 obtain ⟨c2, e3, r2⟩ := Clue.inv hu1
 subst e3
 obtain ⟨z2, m2, k2, rfl⟩ := af_ r2
 refine wo_ (an_ (v := v1) (e := a1) rfl ht_ rfl ((h1_.mono le1).at_ I2) (fun u2 hu2 => ?_))
 obtain ⟨z3, m3, k3, rfl⟩ := af_ hu2
 obtain ⟨x1, hx1, h⟩ := bnd h
 refine wo_ (ap_ (vs := [(.agg #[(vi a0.Kind), (vi a0.A), (vi a0.B), (vi a0.N), (vi a0.M), (.slice z2 m2 k2), (vb a0.Not)]), (.slice z3 m3 k3)]) (r := (vb x1)) rfl ca129 rfl (bt_ rfl rfl) I2 (fun Fr_ hF_ => ol_ hF_ (Clue.rv (s := a0) r2) hu2 hx1) (fun w2 I3 => (wo_ (bz_ (b := x1) rfl rfl (wa_ (v := (vb (!x1))) rfl rfl (ad_ (al_ ?_)))))))
 obtain rfl := sj h
 exact ⟨rfl, (vb (!x1)), (bq_ rfl rfl), _, [], le1, I3, rfl, rfl⟩
theorem om_ {w : World} {S : PH} {Fr : List HP} {a0 : (List Clue)} {v0 : Value} {a1 : (List Int)} {v1 : Value} {r : Int} (hI : Inv w S (Fr)) (h0_ : RV S v0 a0) (h1_ : RV S v1 a1) (h : iz_ a0 a1 = some r) :
    Calls Tryz.prog 127 [v0, v1].toArray w (cc_ S Fr (Value.int .i64 (r))) := by
 unfold iz_ at h
 obtain ⟨z1, m1, k1, rfl⟩ := af_ h0_
 obtain ⟨z2, m2, k2, rfl⟩ := af_ h1_
 refine ar_ (n := 8) (vs := [(.slice z1 m1 k1), (.slice z2 m2 k2)]) Tryz.func127 rfl rfl rfl (ab_ (aa_ (wo_ (bi_ (v := (.slice z2 m2 k2)) rfl hI rfl (fun g1 w1 I1 => ?_)))))
 obtain ⟨S1, le1, I2, p1⟩ := Inv.boxFreeze (x := a1) I1 h1_
 refine wa_ (v := (vi 0)) rfl rfl (ad_ (ab_ (aa_ (wm_ (v := (.slice z1 m1 k1)) rfl rfl (wo_ (ck_ (fv := #[]) (cv := #[(pt_ g1)]) rfl arr0 (arr1 rfl) ?_))))))
 obtain ⟨x1, hx1, h⟩ := bnd h
 refine wo_ (ap_ (vs := [(.slice z1 m1 k1), (.func (.func 138) #[] #[(pt_ g1)])]) (r := (vi x1)) rfl ca121 rfl (bt_ rfl rfl) I2 (fun Fr_ hF_ => hh_ hF_ (h0_.mono le1) ⟨138, [(pt_ g1)], rfl, ca138, fun T_ w_ Fr_ u_ x_ r_ hle_ hI_ hu_ hr_ => codes_fails_1_ok hI_ hu_ (p1.mono hle_) hr_⟩ hx1) (fun w2 I3 => (wa_ (v := (vi x1)) rfl rfl (ad_ (al_ ?_)))))
 obtain rfl := sj h
 exact ⟨rfl, (vi x1), (bq_ rfl rfl), _, [], le1, I3, rfl, rfl⟩
theorem mb_ {w : World} {S : PH} {Fr : List HP} {σ_ : Type} {τ_ : Type} {R_ : σ_ → HP} {Rx_ : τ_ → HP} {a0 : (List Int) → σ_ → Option (σ_ ⊕ τ_)} {v0 : Value} {a1 : CodeLock} {v1 : Value} {a2 : (List Clue)} {v2 : Value} {s_ : σ_} {r : (σ_ ⊕ τ_)} (hI : Inv w S (R_ (s_) :: Fr)) (o0_ : v0.oneCell' = true) (h0_ : Yields (argRow Int 3) Tryz.prog S v0 R_ Rx_ a0) (h1_ : PtS S v1 a1) (h2_ : PtS S v2 a2) (h : cr_ a0 a1 a2 s_ = some r) :
    Calls Tryz.prog 136 [v0, v1, v2].toArray w (ms_ S Fr (fun T_ v_ O_ => v_ = (Value.tuple #[]) ∧ O_ = [Sum.elim R_ Rx_ (r)])) := by
 unfold cr_ at h
 refine jh_ (n := 18) (vs := [v0, v1, v2]) Tryz.func136 rfl rfl rfl ?_
 have I1 := Inv.noD hI
 refine ab_ (aa_ (wo_ (bi_ (v := v0) rfl I1 rfl (fun g1 w1 I2 => ?_))))
 obtain ⟨S1, le1, I3, p1⟩ := Inv.boxFreeze (x := (⟨v0⟩ : Raw)) I2 (op_ o0_)
 refine ad_ (ab_ (aa_ (wo_ (an_ (v := v1) (e := a1) rfl sh138 rfl ((h1_.mono le1).at_ I3) (fun u1 hu1 => ?_)))))
 have e1 := CodeLock.inv hu1
 subst e1
 obtain ⟨x1, hx1, h⟩ := bnd h
 refine wo_ (bo_ (vs := [(.agg #[(vi a1.Wheels), (vi a1.Symbols)])]) rfl ca137 rfl (fk_ rfl) (pc_ I3 (CodeLock.rv (s := a1)) hx1) (fun cv1 w2 S2 O1 le2 I4 hv1 => ?_))
 obtain ⟨p2, rfl, rfl, r1⟩ := hv1
 refine ad_ (ax_ ?_)
 obtain ⟨o2, hrun1, h⟩ := bnd h
 refine wp_range (M := (argRow Int 3)) (F := (fun g_ s_ => dp_ g_ x1 s_)) (fun (s4 : (σ_)) => HPof fun S_ L_ => L_ = [R_ (s4)]) (fun (q4 : ((σ_ ⊕ τ_))) => HPof fun S_ L_ => L_ = [Sum.elim R_ Rx_ (q4)]) (fun _ => Code.ret) rfl rfl ob_ ⟨142, [], [p2], rfl, ca142, fun R_ Rx_ g_ T_ w_ Fr_ v_ s_ o_ hle_ ho_ hy_ hI_ h_ => Calls.doneMono (nl_ hI_ ho_ hy_ (r1.mono hle_) h_) fun _ _ _ hp_ => hp_.2⟩ (Inv.ofShut (L := [R_ (s_)]) rfl (I4.pull 1)) hrun1 ?_ ?_
 ·
  intro l1 rc1 S14 w9 us1 x9 s5 o3 G1 le14 hr1 hn1 hI1 h1
  obtain ⟨z4, m4, k4, rfl⟩ := hr1
  obtain ⟨S15, L1, le15, rfl, I23⟩ := Inv.ofOpen (hI1.pull 2)
  have I24 : Inv w9 S14 (R_ (s5) :: gd_ l1 rc1 :: Row (α := Int) 3 (Value.slice z4 m4 k4) (x9) :: G1) := I23
  refine aa_ (wa_ (v := (.slice z4 m4 k4)) rfl rfl (ad_ (⟨_, _, lr, (I24.pull 1), fun w10 I25 => ?_⟩)))
  refine ax_ (ab_ (aa_ (wo_ (an_ (v := v2) (e := a2) rfl sh63 rfl ((h2_.mono ((le1.trans le2).trans le14)).at_ I25) (fun u8 hu8 => ?_)))))
  obtain ⟨z5, m5, k5, rfl⟩ := af_ hu8
  refine wm_ (v := (.slice z4 m4 k4)) rfl rfl ?_
  obtain ⟨x10, hx8, h1⟩ := bnd h1
  obtain ⟨S16, Fr4, le16, I26, r5, bk4⟩ := Inv.lend1 (I25.pull 2)
  refine wo_ (bo_ (vs := [(.slice z5 m5 k5), (.slice z4 m4 k4)]) rfl ca127 rfl (bt_ rfl rfl) (om_ I26 (hu8.mono le16) r5 hx8) (fun cv5 w11 S17 O8 le17 I28 hv8 => ?_))
  obtain ⟨rfl, rfl⟩ := hv8
  have I27 := bk4 [] trivial I28 le17
  refine wo_ (bg_ (a := x10) (b := 0) rfl rfl rfl (wm_ (v := (vb (decide (x10 < 0)))) rfl rfl ?_))
  rcases ifs h1 with ⟨hc4, h1⟩ | ⟨hc4, h1⟩
  ·
   refine wk_ rfl rfl hc4 (an_ (v := (pt_ g1)) (e := (⟨v0⟩ : Raw)) rfl sh120 rfl ((p1.mono (le2.trans le14)).at_ I27) (fun u9 hu9 => ?_))
   have q_hu9 := rv_raw hu9
   subst u9
   refine wk_ rfl rfl hc4 (aw_ (v := (.slice z4 m4 k4)) rfl rfl ?_)
   obtain ⟨x11, hx9, h1⟩ := bnd h1
   refine wk_ rfl rfl hc4 (op_callV (vs := [(.slice z4 m4 k4)]) rfl rfl (fk_ rfl) (h0_ _ _ _ _ x9 _ _ ((le1.trans le2).trans le14) ⟨_, _, _, rfl⟩ ((I27.pull 2).pull 1) hx9) (fun v4 w12 S18 O9 le18 I29 hv9 => ?_))
   obtain ⟨rfl, rfl⟩ := hv9
   have I30 : Inv w12 S18 (Row (α := Int) 3 (Value.slice z4 m4 k4) (x9) :: Sum.elim R_ Rx_ (x11) :: gd_ l1 { rc1 with state := .busy } :: G1) := I29
   refine wk_ rfl rfl hc4 (bz_ (b := x11.isLeft) rfl rfl (wo_ (ay_ (c := decide (x10 < 0)) (a := (vb (!x11.isLeft))) rfl rfl hc4 rfl (ad_ ?_))))
   rcases x11 with s6 | q5
   ·
    have h1 := sm_inl h1
    refine ak_ (b := false) rfl rfl (av_ ?_)
    obtain rfl := sj h1
    exact ⟨_, _, le18, rfl, (Inv.rot2 (Inv.ofShut (L := [R_ (s6)]) rfl ((I30.pull 2).pull 2)))⟩
   have h1 := sm_inr h1
   refine ai_ (b := true) rfl rfl (al_ ?_)
   obtain rfl := sj h1
   exact ⟨_, _, le18, rfl, rfl, (Inv.rot2 (Inv.ofShut (L := [Rx_ (q5)]) rfl ((I30.pull 2).pull 2)))⟩
  refine ws_ rfl rfl hc4 (ws_ rfl rfl hc4 (ws_ rfl rfl hc4 (ws_ rfl rfl hc4 (wo_ (aq_ (c := decide (x10 < 0)) (b := (vb false)) rfl rfl hc4 rfl (ad_ (ak_ (b := false) rfl rfl (av_ ?_))))))))
  obtain rfl := sj h1
  exact ⟨_, _, lr, rfl, (Inv.rot2 (Inv.ofShut (L := [R_ (s5)]) rfl ((I27.pull 1).pull 2)))⟩
 intro D1 w13 S19 le19 I31
 rcases o2 with s7 | q6
 ·
  obtain ⟨S20, L2, le20, rfl, I32⟩ := Inv.ofOpen I31
  have I33 : Inv w13 S19 (R_ (s7) :: Dfr D1 :: pf_ ([]) :: Fr) := I32
  have I34 := Inv.consD ((I33.pull 2).pull 2)
  have h := sm_inl h
  refine ne_ (ret_m (mark_ds rfl) I34 (fun w14 I35 => ?_))
  obtain rfl := sj h
  exact ⟨(Value.tuple #[]), (res0 rfl), _, [R_ (s7)], ((le1.trans le2).trans le19), I35, rfl, rfl⟩
 obtain ⟨S21, L3, le21, rfl, I36⟩ := Inv.ofOpen I31
 have I37 : Inv w13 S19 (Sum.elim R_ Rx_ (q6) :: Dfr D1 :: pf_ ([]) :: Fr) := I36
 have I38 := Inv.consD ((I37.pull 2).pull 2)
 have h := sm_inr h
 refine jumps_ret (ret_m (mark_ds rfl) I38 (fun w15 I39 => ?_))
 obtain rfl := sj h
 exact ⟨(Value.tuple #[]), (res0 rfl), _, [Sum.elim R_ Rx_ (q6)], ((le1.trans le2).trans le19), I39, rfl, rfl⟩
theorem mv_ {w : World} {S : PH} {Fr : List HP} {a0 : CodeLock} {v0 : Value} {a1 : (List Clue)} {v1 : Value} {r : (CodeLock × (List Clue))} (hI : Inv w S (Fr)) (h0_ : RV S v0 a0) (h1_ : RV S v1 a1) (h : fb_ a0 a1 = some r) :
    Calls Tryz.prog 126 [v0, v1].toArray w (ms_ S Fr (fun T_ v_ O_ => ∃ (p0_0 : Value) (p0_1 : Value), v_ = (Value.func (.func 136) #[] #[p0_0, p0_1]) ∧ O_ = [] ∧ PtS T_ p0_0 r.1 ∧ PtS T_ p0_1 r.2)) := by
 unfold fb_ at h
 have e1 := CodeLock.inv h0_
 subst e1
 obtain ⟨z1, m1, k1, rfl⟩ := af_ h1_
 refine ar_ (n := 6) (vs := [(.agg #[(vi a0.Wheels), (vi a0.Symbols)]), (.slice z1 m1 k1)]) Tryz.func126 rfl rfl rfl (ab_ (aa_ (wo_ (bi_ (v := (.agg #[(vi a0.Wheels), (vi a0.Symbols)])) rfl hI rfl (fun g1 w1 I1 => ?_)))))
 obtain ⟨S1, le1, I2, p1⟩ := Inv.boxFreeze (x := a0) I1 (CodeLock.rv (s := a0))
 refine wo_ (bi_ (v := (.slice z1 m1 k1)) rfl I2 rfl (fun g2 w2 I3 => ?_))
 obtain ⟨S2, le2, I4, p2⟩ := Inv.boxFreeze (x := a1) I3 (h1_.mono le1)
 refine wa_ (v := (Value.nilFunc)) rfl rfl (ad_ (ab_ (aa_ (wo_ (ck_ (fv := #[]) (cv := #[(pt_ g1), (pt_ g2)]) rfl arr0 (arr2 rfl rfl) (wa_ (v := (.func (.func 136) #[] #[(pt_ g1), (pt_ g2)])) rfl rfl (ad_ (al_ ?_))))))))
 obtain rfl := sj h
 exact ⟨rfl, (.func (.func 136) #[] #[(pt_ g1), (pt_ g2)]), (bq_ rfl rfl), _, [], (le1.trans le2), I4, _, _, rfl, rfl, (p1.mono le2), p2⟩
theorem pb_ {w : World} {S : PH} {Fr : List HP} {a0 : CodeLock} {v0 : Value} {a1 : (List Clue)} {v1 : Value} {r : Int} (hI : Inv w S (Fr)) (h0_ : RV S v0 a0) (h1_ : RV S v1 a1) (h : hb_ a0 a1 = some r) :
    Calls Tryz.prog 115 [v0, v1].toArray w (cc_ S Fr (Value.int .i64 (r))) := by
 unfold hb_ at h
 have e1 := CodeLock.inv h0_
 subst e1
 obtain ⟨z1, m1, k1, rfl⟩ := af_ h1_
 refine jh_ (n := 12) (vs := [(.agg #[(vi a0.Wheels), (vi a0.Symbols)]), (.slice z1 m1 k1)]) Tryz.func115 rfl rfl rfl ?_
 have I1 := Inv.noD hI
 refine ab_ (aa_ (wo_ (bi_ (v := (.agg #[(vi a0.Wheels), (vi a0.Symbols)])) rfl I1 rfl (fun g1 w1 I2 => ?_))))
 obtain ⟨S1, le1, I3, p1⟩ := Inv.boxFreeze (x := a0) I2 (CodeLock.rv (s := a0))
 refine wo_ (ca_ (z := (vi 0)) rfl I3 zo3 (fun g2 w2 (I4 : Inv w2 S1 (ao_ g2 3 #[(vi 0)] :: pf_ ([]) :: Fr)) => (ad_ (ab_ (ab_ (aa_ (wo_ (an_ (v := (pt_ g1)) (e := a0) rfl sh138 rfl (p1.at_ I4) (fun u1 hu1 => ?_)))))))))
 have e3 := CodeLock.inv hu1
 subst e3
 refine wm_ (v := (.slice z1 m1 k1)) rfl rfl ?_
 obtain ⟨x1, hx1, h⟩ := bnd h
 refine wo_ (bo_ (vs := [(.agg #[(vi a0.Wheels), (vi a0.Symbols)]), (.slice z1 m1 k1)]) rfl ca126 rfl (bt_ rfl rfl) (mv_ I4 (CodeLock.rv (s := a0)) (h1_.mono le1) hx1) (fun cv1 w3 S2 O1 le2 I5 hv1 => ?_))
 obtain ⟨p2, p3, rfl, rfl, r1, r2⟩ := hv1
 refine ad_ (ax_ ?_)
 obtain ⟨o2, hrun1, h⟩ := bnd h
 refine wp_range (M := (argRow Int 3)) (F := (fun g_ s_ => cr_ g_ x1.1 x1.2 s_)) (fun (s1 : (Int)) => HPof fun S_ L_ => L_ = [ao_ g2 3 #[(vi s1)]]) (fun e=>by cases e) (fun _ => Code.ret) rfl rfl ob_ ⟨136, [], [p2, p3], rfl, ca136, fun R_ Rx_ g_ T_ w_ Fr_ v_ s_ o_ hle_ ho_ hy_ hI_ h_ => Calls.doneMono (mb_ hI_ ho_ hy_ (r1.mono hle_) (r2.mono hle_) h_) fun _ _ _ hp_ => hp_.2⟩ (Inv.ofShut (L := [ao_ g2 3 #[(vi 0)]]) rfl I5) hrun1 ?_ ?_
 ·
  intro l1 rc1 S3 w7 us1 x3 s2 o3 G1 le3 hr1 hn1 hI1 h1
  obtain ⟨z2, m2, k2, rfl⟩ := hr1
  obtain ⟨S4, L1, le4, rfl, I12⟩ := Inv.ofOpen (hI1.pull 2)
  have I13 : Inv w7 S3 (ao_ g2 3 #[(vi s2)] :: gd_ l1 rc1 :: Row (α := Int) 3 (Value.slice z2 m2 k2) (x3) :: G1) := I12
  refine av_ (⟨_, _, lr, (I13.pull 1), fun w8 I14 => ?_⟩)
  refine ax_ (aa_ (wo_ (be_ (c := (vi s2)) rfl sh3 (I14.nth 1 rfl) rfl rfl (wo_ (bp_ (a := s2) (b := 1) rfl rfl rfl (wo_ (bd_ (v := (vi (w64 (s2 + 1)))) (cs := #[(vi s2)]) sh3 (I14.pull 1) rfl rfl rfl nb rfl (fun w9 (I15 : Inv w9 S3 (ao_ g2 3 #[(vi (w64 (s2 + 1)))] :: gd_ l1 { rc1 with state := .busy } :: Row (α := Int) 3 (.slice z2 m2 k2) (x3) :: G1)) => (ad_ ?_)))))))))
  obtain rfl := sj h1
  exact ⟨_, _, lr, rfl, (Inv.rot2 (Inv.ofShut (L := [ao_ g2 3 #[(vi (w64 (s2 + 1)))]]) rfl (((I15.pull 2).pull 2).pull 2)))⟩
 intro D1 w10 S5 le5 I16
 rcases o2 with s3 | q2
 ·
  obtain ⟨S6, L2, le6, rfl, I17⟩ := Inv.ofOpen I16
  have I18 : Inv w10 S5 (ao_ g2 3 #[(vi s3)] :: Dfr D1 :: pf_ ([]) :: Fr) := I17
  have I19 := Inv.consD ((I18.pull 2).pull 2)
  have h := onE_inl h
  refine ne_ (ab_ (aa_ (wo_ (be_ (c := (vi s3)) rfl sh3 (I19.nth 1 rfl) rfl rfl (wo_ (bd_ (v := (vi s3)) (cs := #[(vi s3)]) sh3 (I19.pull 1) rfl rfl rfl nb rfl (fun w11 (I20 : Inv w11 S5 (ao_ g2 3 #[(vi s3)] :: pf_ (D1 :: []) :: Fr)) => (ad_ (al_ (ret_m (mark_ds rfl) (I20.pull 1) (fun w12 I21 => ?_)))))))))))
  obtain rfl := sj h
  exact ⟨(vi s3), (resC1 (c := (vi s3)) rfl rfl sh3 I21), _, [], ((le1.trans le2).trans le5), (I21).drop, rfl, rfl⟩
 cases q2
theorem codes_Count_ok {w : World} {S : PH} {Fr : List HP} {a0 : CodeLock} {v0 : Value} {a1 : (List Clue)} {v1 : Value} {r : Int × Int} (hI : Inv w S (Fr)) (h0_ : RV S v0 a0) (h1_ : RV S v1 a1) (h : ja_ a0 a1 = some r) :
    Calls Tryz.prog 94 [v0, v1].toArray w (cc_ S Fr (Value.tuple #[(Value.int .i64 (r.1)), (Value.int .i64 (r.2))])) := by
 unfold ja_ at h
 have e1 := CodeLock.inv h0_
 subst e1
 obtain ⟨z1, m1, k1, rfl⟩ := af_ h1_
 refine ar_ (n := 16) (vs := [(.agg #[(vi a0.Wheels), (vi a0.Symbols)]), (.slice z1 m1 k1)]) Tryz.func94 rfl rfl rfl (ab_ (aa_ (wo_ (bi_ (v := (.agg #[(vi a0.Wheels), (vi a0.Symbols)])) rfl hI rfl (fun g1 w1 I1 => ?_)))))
 obtain ⟨S1, le1, I2, p1⟩ := Inv.boxFreeze (x := a0) I1 (CodeLock.rv (s := a0))
 refine wa_ (v := (vi 0)) rfl rfl (wa_ (v := (vi 0)) rfl rfl (ad_ (ab_ (ab_ (aa_ (wo_ (an_ (v := (pt_ g1)) (e := a0) rfl jk_ rfl (p1.at_ I2) (fun u1 hu1 => ?_))))))))
 have e3 := CodeLock.inv hu1
 subst e3
 refine wm_ (v := (.slice z1 m1 k1)) rfl rfl ?_
 obtain ⟨x1, hx1, h⟩ := bnd h
 refine wo_ (ap_ (vs := [(.agg #[(vi a0.Wheels), (vi a0.Symbols)]), (.slice z1 m1 k1)]) (r := (vi x1)) rfl ca114 rfl (bt_ rfl rfl) I2 (fun Fr_ hF_ => km_ hF_ (CodeLock.rv (s := a0)) (h1_.mono le1) hx1) (fun w2 I3 => (wa_ (v := (vi x1)) rfl rfl (ad_ (ab_ (aa_ (wm_ (v := (vi x1)) rfl rfl (wo_ (cd_ (a := x1) (b := 0) rfl rfl rfl (ad_ ?_))))))))))
 rcases ifs h with ⟨hc1, h⟩ | ⟨hc1, h⟩
 ·
  refine ai_ (b := x1 != 0) rfl hc1 (ab_ (aa_ (wm_ (v := (vi x1)) rfl rfl (wa_ (v := (vi 0)) rfl rfl (wa_ (v := (vi x1)) rfl rfl (ad_ (al_ ?_)))))))
  obtain rfl := sj h
  exact ⟨rfl, (Value.tuple #[(vi 0), (vi x1)]), (oq_ rfl rfl rfl), _, [], le1, I3, rfl, rfl⟩
 refine ak_ (b := x1 != 0) rfl hc1 (av_ (ab_ (aa_ (wo_ (an_ (v := (pt_ g1)) (e := a0) rfl jk_ rfl (p1.at_ I3) (fun u2 hu2 => ?_))))))
 have e4 := CodeLock.inv hu2
 subst e4
 refine wm_ (v := (.slice z1 m1 k1)) rfl rfl ?_
 obtain ⟨x2, hx2, h⟩ := bnd h
 refine wo_ (ap_ (vs := [(.agg #[(vi a0.Wheels), (vi a0.Symbols)]), (.slice z1 m1 k1)]) (r := (vi x2)) rfl ca115 rfl (bt_ rfl rfl) I3 (fun Fr_ hF_ => pb_ hF_ (CodeLock.rv (s := a0)) (h1_.mono le1) hx2) (fun w3 I4 => (wa_ (v := (vi x2)) rfl rfl (wa_ (v := (vi 0)) rfl rfl (ad_ (al_ ?_))))))
 obtain rfl := sj h
 exact ⟨rfl, (Value.tuple #[(vi x2), (vi 0)]), (oq_ rfl rfl rfl), _, [], le1, I4, rfl, rfl⟩
theorem codes_Fits_ok {w : World} {S : PH} {Fr : List HP} {a0 : CodeLock} {v0 : Value} {a1 : (List Clue)} {v1 : Value} {a2 : (List Int)} {v2 : Value} {r : Int × Bool × Int} (hI : Inv w S (Fr)) (h0_ : RV S v0 a0) (h1_ : RV S v1 a1) (h2_ : RV S v2 a2) (h : md_ a0 a1 a2 = some r) :
    Calls Tryz.prog 117 [v0, v1, v2].toArray w (cc_ S Fr (Value.tuple #[(Value.int .i64 (r.1)), (Value.bool (r.2.1)), (Value.int .i64 (r.2.2))])) := by
 unfold md_ at h
 have e1 := CodeLock.inv h0_
 subst e1
 obtain ⟨z1, m1, k1, rfl⟩ := af_ h1_
 obtain ⟨z2, m2, k2, rfl⟩ := af_ h2_
 refine ar_ (n := 29) (vs := [(.agg #[(vi a0.Wheels), (vi a0.Symbols)]), (.slice z1 m1 k1), (.slice z2 m2 k2)]) Tryz.func117 rfl rfl rfl (ab_ (aa_ (wo_ (bi_ (v := (.agg #[(vi a0.Wheels), (vi a0.Symbols)])) rfl hI rfl (fun g1 w1 I1 => ?_)))))
 obtain ⟨S1, le1, I2, p1⟩ := Inv.boxFreeze (x := a0) I1 (CodeLock.rv (s := a0))
 refine wa_ (v := (vi 0)) rfl rfl (wa_ (v := (vb false)) rfl rfl (wa_ (v := (vi 0)) rfl rfl (ad_ (ab_ (ab_ (aa_ (wo_ (an_ (v := (pt_ g1)) (e := a0) rfl jk_ rfl (p1.at_ I2) (fun u1 hu1 => ?_)))))))))
 have e4 := CodeLock.inv hu1
 subst e4
 refine wm_ (v := (.slice z1 m1 k1)) rfl rfl ?_
 obtain ⟨x1, hx1, h⟩ := bnd h
 refine wo_ (ap_ (vs := [(.agg #[(vi a0.Wheels), (vi a0.Symbols)]), (.slice z1 m1 k1)]) (r := (vi x1)) rfl ca114 rfl (bt_ rfl rfl) I2 (fun Fr_ hF_ => km_ hF_ (CodeLock.rv (s := a0)) (h1_.mono le1) hx1) (fun w2 I3 => (wa_ (v := (vi x1)) rfl rfl (ad_ (ab_ (aa_ (wm_ (v := (vi x1)) rfl rfl (wo_ (cd_ (a := x1) (b := 0) rfl rfl rfl (ad_ ?_))))))))))
 rcases ifs h with ⟨hc1, h⟩ | ⟨hc1, h⟩
 ·
  refine ai_ (b := x1 != 0) rfl hc1 (ab_ (aa_ (wm_ (v := (vi x1)) rfl rfl (wa_ (v := (vi 0)) rfl rfl (wa_ (v := (vb false)) rfl rfl (wa_ (v := (vi x1)) rfl rfl (ad_ (al_ ?_))))))))
  obtain rfl := sj h
  exact ⟨rfl, (Value.tuple #[(vi 0), (vb false), (vi x1)]), (res3 rfl rfl rfl rfl), _, [], le1, I3, rfl, rfl⟩
 refine ak_ (b := x1 != 0) rfl hc1 (av_ (ab_ (ab_ (aa_ (wo_ (an_ (v := (pt_ g1)) (e := a0) rfl jk_ rfl (p1.at_ I3) (fun u2 hu2 => ?_)))))))
 have e5 := CodeLock.inv hu2
 subst e5
 refine wm_ (v := (.slice z2 m2 k2)) rfl rfl ?_
 obtain ⟨x2, hx2, h⟩ := bnd h
 refine wo_ (ap_ (vs := [(.agg #[(vi a0.Wheels), (vi a0.Symbols)]), (.slice z2 m2 k2)]) (r := (vi x2)) rfl ca108 rfl (bt_ rfl rfl) I3 (fun Fr_ hF_ => fp_ hF_ (CodeLock.rv (s := a0)) (h2_.mono le1) hx2) (fun w3 I4 => (wa_ (v := (vi x2)) rfl rfl (ad_ (ab_ (aa_ (wm_ (v := (vi x2)) rfl rfl (wo_ (cd_ (a := x2) (b := 0) rfl rfl rfl (ad_ ?_))))))))))
 rcases ifs h with ⟨hc2, h⟩ | ⟨hc2, h⟩
 ·
  refine ai_ (b := x2 != 0) rfl hc2 (ab_ (aa_ (wm_ (v := (vi x2)) rfl rfl (wa_ (v := (vi 0)) rfl rfl (wa_ (v := (vb false)) rfl rfl (wa_ (v := (vi x2)) rfl rfl (ad_ (al_ ?_))))))))
  obtain rfl := sj h
  exact ⟨rfl, (Value.tuple #[(vi 0), (vb false), (vi x2)]), (res3 rfl rfl rfl rfl), _, [], le1, I4, rfl, rfl⟩
 refine ak_ (b := x2 != 0) rfl hc2 (av_ (ab_ (aa_ (wm_ (v := (.slice z1 m1 k1)) rfl rfl (wm_ (v := (.slice z2 m2 k2)) rfl rfl ?_)))))
 obtain ⟨x3, hx3, h⟩ := bnd h
 refine wo_ (ap_ (vs := [(.slice z1 m1 k1), (.slice z2 m2 k2)]) (r := (vi x3)) rfl ca127 rfl (bt_ rfl rfl) I4 (fun Fr_ hF_ => om_ hF_ (h1_.mono le1) (h2_.mono le1) hx3) (fun w4 I5 => (wa_ (v := (vi x3)) rfl rfl (ad_ (ab_ (aa_ (wm_ (v := (vi x3)) rfl rfl (wm_ (v := (vi x3)) rfl rfl (wo_ (bg_ (a := x3) (b := 0) rfl rfl rfl (wa_ (v := (vi x3)) rfl rfl (wa_ (v := (vb (decide (x3 < 0)))) rfl rfl (wa_ (v := (vi 0)) rfl rfl (ad_ (al_ ?_)))))))))))))))
 obtain rfl := sj h
 exact ⟨rfl, (Value.tuple #[(vi x3), (vb (decide (x3 < 0))), (vi 0)]), (res3 rfl rfl rfl rfl), _, [], le1, I5, rfl, rfl⟩
set_option maxHeartbeats 1000000 in
theorem he_ {w : World} {S : PH} {Fr : List HP} {a0 : List Int} {v0 : Value} {r : List Int} (hI : Inv w S Fr) (h0_ : RV S v0 a0) (h : cm_ a0 = some r) :
    Calls Tryz.prog 103 [v0].toArray w (ms_ S Fr (fun T_ v_ O_ => ∃ (a0_ : Option Addr) (n0_ k0_ : Nat), v_ = (Value.slice a0_ n0_ k0_) ∧ O_ = [Row (α := Int) 3 (Value.slice a0_ n0_ k0_) r])) := by
  unfold cm_ at h
  obtain ⟨z1, cp1, e1, _, _, hn, _⟩ := jl_ h0_
  subst e1
  refine ar_ (n := 8) (vs := [.slice z1 a0.length cp1]) Tryz.func103 rfl rfl rfl (ab_ (aa_ (wa_ (v := .slice none 0 0) rfl rfl (ad_ (ab_ (ab_ (aa_ (wm_ (v := .slice z1 a0.length cp1) rfl rfl (wo_ (op_eqnil rfl Tryz.underlying28 rfl rfl (ad_ ?_)))))))))))
  cases z1 with
  | none =>
    refine ai_ (b := true) rfl rfl (ab_ (aa_ (wa_ (v := .slice none 0 0) rfl rfl (ad_ (al_ ?_)))))
    have hl := (hn rfl).1
    subst hl
    obtain rfl := sj h
    exact ⟨rfl, _, bq_ rfl rfl, S, [Row (α := Int) 3 (.slice none 0 0) []], lr, hI.rowNil, _, _, _, rfl, rfl⟩
  | some ad =>
    refine ak_ (b := false) rfl rfl (av_ (ab_ (aa_ ?_)))
    set_option maxRecDepth 100000 in
    refine wo_ (bh_ (vs := []) (r := ([] : List Int)) rfl Tryz.underlying28 el3 parts0 rfl (by decide) (by decide) trivial hI (fun u1 w1 I1 => ?_))
    obtain ⟨z2, m2, k2, e2⟩ := bk_ I1
    subst e2
    refine wm_ (v := .slice (some ad) a0.length cp1) rfl rfl (wo_ (ef_ (α := Int) (v := .slice z2 m2 k2) (u := .slice (some ad) a0.length cp1) rfl rfl Tryz.underlying28 el3 (by decide) (by decide) rfl rfl I1 (h0_.src I1.in_) h (fun u2 w2 I2 => ?_)))
    obtain ⟨z3, m3, k3, e3⟩ := bk_ I2
    subst e3
    refine wa_ (v := .slice z3 m3 k3) rfl rfl (ad_ (al_ ?_))
    exact ⟨rfl, _, bq_ rfl rfl, S, [Row (α := Int) 3 (.slice z3 m3 k3) r], lr, I2, _, _, _, rfl, rfl⟩
theorem ox_ (n_ : Nat) : ∀ {w : World} {S : PH} {Fr : List HP} {a0 : Int} {a1 : (List Int)} {g1_ : Nat} {z1_ : Option Addr} {m1_ : Nat} {k1_ : Nat} {a2 : CodeLock} {v2 : Value} {a3 : (List Clue)} {v3 : Value} {a4 : (List (List Int))} {g4_ : Nat} {z4_ : Option Addr} {m4_ : Nat} {k4_ : Nat} {g5_ : Nat} {r : (List Int) × (List (List Int))} (hI : Inv w S (ao_ g1_ 28 #[(Value.slice z1_ m1_ k1_)] :: Row (α := Int) 3 (Value.slice z1_ m1_ k1_) (a1) :: ao_ g4_ 23 #[(Value.slice z4_ m4_ k4_)] :: Row (α := (List Int)) 28 (Value.slice z4_ m4_ k4_) (a4) :: ao_ g5_ 140 #[(Value.func (.func 116) #[] #[(Value.pointer (some ⟨g1_, 0, none⟩)), v2, v3, (Value.pointer (some ⟨g4_, 0, none⟩)), (Value.pointer (some ⟨g5_, 0, none⟩))])] :: Fr)) (h2_ : PtS S v2 a2) (h3_ : PtS S v3 a3) (h : cy_ n_ a0 a1 a2 a3 a4 = some r),
    Calls Tryz.prog 116 [(Value.int .i64 (a0)), (Value.pointer (some ⟨g1_, 0, none⟩)), v2, v3, (Value.pointer (some ⟨g4_, 0, none⟩)), (Value.pointer (some ⟨g5_, 0, none⟩))].toArray w (ms_ S Fr (fun T_ v_ O_ => ∃ (y1_ : Option Addr) (n1_ k1_ : Nat) (y4_ : Option Addr) (n4_ k4_ : Nat), v_ = (Value.tuple #[]) ∧ O_ = [ao_ g1_ 28 #[(Value.slice y1_ n1_ k1_)], Row (α := Int) 3 (Value.slice y1_ n1_ k1_) (r.1), ao_ g4_ 23 #[(Value.slice y4_ n4_ k4_)], Row (α := (List Int)) 28 (Value.slice y4_ n4_ k4_) (r.2), ao_ g5_ 140 #[(Value.func (.func 116) #[] #[(Value.pointer (some ⟨g1_, 0, none⟩)), v2, v3, (Value.pointer (some ⟨g4_, 0, none⟩)), (Value.pointer (some ⟨g5_, 0, none⟩))])]])) := by
  induction n_ with
  | zero => intros; rename_i h; cases h
  | succ n_ ih =>
   intro w S Fr a0 a1 g1_ z1_ m1_ k1_ a2 v2 a3 v3 a4 g4_ z4_ m4_ k4_ g5_ r hI h2_ h3_ h
   rw [cy_] at h
   refine ar_ (n := 51) (vs := [(vi a0), (Value.pointer (some ⟨g1_, 0, none⟩)), v2, v3, (Value.pointer (some ⟨g4_, 0, none⟩)), (Value.pointer (some ⟨g5_, 0, none⟩))]) Tryz.func116 rfl rfl rfl (ab_ (ab_ (aa_ (wm_ (v := (vi a0)) rfl rfl (wo_ (be_ (c := (.slice z1_ m1_ k1_)) rfl ht_ (hI.nth 0 rfl) rfl rfl (wo_ (hj_ (α := Int) rfl Tryz.underlying28 rfl (hI.nth 1 rfl) (wo_ (bn_ (a := a0) (b := (a1.length : Int)) rfl rfl rfl (ad_ ?_)))))))))))
   rcases ifs h with ⟨hc1, h⟩ | ⟨hc1, h⟩
   ·
    refine ai_ (b := a0 == (a1.length : Int)) rfl hc1 (ab_ (ab_ (aa_ (wo_ (an_ (v := v2) (e := a2) rfl jk_ rfl (h2_.at_ hI) (fun u1 hu1 => ?_))))))
    have e1 := CodeLock.inv hu1
    subst e1
    refine wo_ (an_ (v := v3) (e := a3) rfl sh63 rfl (h3_.at_ hI) (fun u2 hu2 => ?_))
    obtain ⟨z1, m1, k1, rfl⟩ := af_ hu2
    refine wo_ (be_ (c := (.slice z1_ m1_ k1_)) rfl ht_ (hI.nth 0 rfl) rfl rfl ?_)
    obtain ⟨x1, hx1, h⟩ := bnd h
    obtain ⟨S1, Fr1, le1, I1, r1, bk1⟩ := Inv.lend1 (hI.pull 1)
    refine wo_ (bo_ (vs := [(Value.agg #[(vi a2.Wheels), (vi a2.Symbols)]), (.slice z1 m1 k1), (.slice z1_ m1_ k1_)]) rfl ca117 rfl (cu_ rfl rfl rfl) (codes_Fits_ok I1 (CodeLock.rv (s := a2)) (hu2.mono le1) r1 hx1) (fun cv1 w1 S2 O1 le2 I3 hv1 => ?_))
    obtain ⟨rfl, rfl⟩ := hv1
    have I2 := bk1 [] trivial I3 le2
    refine wm_ (v := (Value.tuple #[(vi x1.1), (vb x1.2.1), (vi x1.2.2)])) rfl rfl (wo_ (bc_ (v := (vi x1.1)) rfl rfl rfl (wo_ (bc_ (v := (vb x1.2.1)) rfl rfl rfl (wo_ (bc_ (v := (vi x1.2.2)) rfl rfl rfl (wa_ (v := (vi x1.1)) rfl rfl (wa_ (v := (vb x1.2.1)) rfl rfl (wa_ (v := (vi x1.2.2)) rfl rfl (ad_ (ab_ (aa_ (wm_ (v := (vb x1.2.1)) rfl rfl (ad_ ?_))))))))))))))
    rcases ifs h with ⟨hc2, h⟩ | ⟨hc2, h⟩
    ·
     refine ai_ (b := x1.2.1) rfl hc2 ?_
     obtain ⟨x2, hx2, h⟩ := bnd h
     obtain ⟨x3, hx3, h⟩ := bnd h
     refine bm_ (sps := [⟨some 23, [], [0], fun vs_ T_ => fr0 vs_ 0 = (.slice z4_ m4_ k4_), [0], [], [], fun _ h_ => h_⟩, ⟨some 24, [], [1], fun vs_ T_ => fr0 vs_ 0 = (.slice z1_ m1_ k1_), [1], [], [], fun _ h_ => h_⟩, ⟨some 25, [1], [2], fun vs_ T_ => ∃ (a0_ : Option Addr) (n0_ k0_ : Nat), fr0 vs_ 0 = (.slice a0_ n0_ k0_), [2], [], [3], fun _ h_ => h_⟩, ⟨some 26, [1, 2], [3], fun vs_ T_ => ∃ a_ n_ k_, fr0 vs_ 0 = Value.slice a_ n_ k_, [], [3], [4], fun _ h_ => h_⟩, ⟨some 27, [0, 1, 2, 3], [4], fun vs_ T_ => ∃ a_ n_ k_, fr0 vs_ 0 = Value.slice a_ n_ k_, [4], [5], [6], fun _ h_ => h_⟩, ⟨none, [0, 1, 2, 3, 4], [], fun vs_ T_ => True, [6], [0], [7], fun _ h_ => h_⟩]) (tks := [⟨none, some 5, [], fun vs_ => ao_ g4_ 23 #[(.slice z4_ m4_ k4_)]⟩, ⟨none, none, [], fun vs_ => ao_ g1_ 28 #[(.slice z1_ m1_ k1_)]⟩, ⟨none, none, [], fun vs_ => Row (α := Int) 3 (.slice z1_ m1_ k1_) (a1)⟩, ⟨some 2, some 3, [2], fun vs_ => Row (α := Int) 3 (fr0 vs_ 0) (x2)⟩, ⟨some 3, none, [3], fun vs_ => Row (α := (List Int)) 28 (fr0 vs_ 0) (([x2] : List (List Int)))⟩, ⟨none, some 4, [], fun vs_ => Row (α := (List Int)) 28 (.slice z4_ m4_ k4_) (a4)⟩, ⟨some 4, none, [4], fun vs_ => Row (α := (List Int)) 28 (fr0 vs_ 0) (x3)⟩, ⟨some 5, none, [4], fun vs_ => ao_ g4_ 23 #[(fr0 vs_ 0)]⟩]) (O := ao_ g5_ 140 #[(Value.func (.func 116) #[] #[(Value.pointer (some ⟨g1_, 0, none⟩)), v2, v3, (Value.pointer (some ⟨g4_, 0, none⟩)), (Value.pointer (some ⟨g5_, 0, none⟩))])] :: Fr) rfl (by kernel_rfl) ((((I2.pull 3).pull 1).pull 2).pull 3) ⟨?_, ?_, ?_, ?_, ?_, ?_, trivial⟩ ?_
     ·
      intro vs1 f w5 S4 X1 le4 hA1 hK1 hI1
      have I8 : Inv w5 S4 (ao_ g4_ 23 #[(Value.slice z4_ m4_ k4_)] :: X1) := hI1
      refine pl_ rfl (be_ (c := (.slice z4_ m4_ k4_)) rfl mh_ (I8.nth 0 rfl) (hK1 4 (am_ rfl)) rfl (⟨_, _, rfl, lr, ?_, ?_⟩))
      ·
       exact rfl
      ·
       exact I8
     ·
      intro vs2 f w6 S5 X2 le5 hA2 hK2 hI2
      have I9 : Inv w6 S5 (ao_ g1_ 28 #[(Value.slice z1_ m1_ k1_)] :: X2) := hI2
      refine pl_ rfl (be_ (c := (.slice z1_ m1_ k1_)) rfl ht_ (I9.nth 0 rfl) (hK2 1 (am_ rfl)) rfl (⟨_, _, rfl, lr, ?_, ?_⟩))
      ·
       exact rfl
      ·
       exact I9
     ·
      intro vs3 f w7 S6 X3 le6 hA3 hK3 hI3
      have I10 : Inv w7 S6 (Row (α := Int) 3 (Value.slice z1_ m1_ k1_) (a1) :: X3) := hI3
      have q1 := hA3.u 0 rfl rfl rfl
      obtain ⟨S7, Fr2, le7, I11, r3, bk2⟩ := Inv.lend1 I10
      refine pl_ rfl (bo_ (vs := [(.slice z1_ m1_ k1_)]) rfl ca103 rfl (fk_ q1) (he_ I11 r3 hx2) (fun cv2 w8 S8 O2 le8 I13 hv2 => ?_))
      obtain ⟨z2, m2, k2, rfl, rfl⟩ := hv2
      have I12 := bk2 [Row (α := Int) 3 (Value.slice z2 m2 k2) (x2)] ⟨Row.free, trivial⟩ I13 le8
      refine ⟨_, _, rfl, lr, ?_, ?_⟩
      ·
       exact ⟨_, _, _, rfl⟩
      ·
       exact ((I12.pull 1).pull 1)
     ·
      intro vs4 f w9 S9 X4 le9 hA4 hK4 hI4
      have I14 : Inv w9 S9 (Row (α := Int) 3 (vs4 2) (x2) :: X4) := hI4
      obtain ⟨z3, m3, k3, e3, q2⟩ := hA4.rf (a := 2) 1 rfl rfl rfl
      have I15 := I14
      rw [e3] at I15
      obtain ⟨S10, le10, I16, r4⟩ := Inv.rowFreeze I15
      refine pl_ rfl (bh_ (vs := [(.slice z3 m3 k3)]) (r := ([x2] : List (List Int))) rfl Tryz.underlying23 el28 (ij_ q2) rfl (by decide) (by decide) ⟨r4, trivial⟩ I16 (fun u5 w10 I17 => ?_))
      obtain ⟨z4, m4, k4, e4⟩ := bk_ I17
      subst e4
      refine ⟨_, _, rfl, le10, ?_, ?_⟩
      ·
       exact ⟨_, _, _, rfl⟩
      ·
       exact I17
     ·
      intro vs5 f w11 S11 X5 le11 hA5 hK5 hI5
      have I18 : Inv w11 S11 (Row (α := (List Int)) 28 (Value.slice z4_ m4_ k4_) (a4) :: Row (α := (List Int)) 28 (vs5 3) (([x2] : List (List Int))) :: X5) := hI5
      have q3 := hA5.u 0 rfl rfl rfl
      obtain ⟨z5, m5, k5, e5⟩ := (hA5.at_ 3 rfl _ rfl).2
      have q4 : f 26 = Value.slice z5 m5 k5 := ((hA5.at_ 3 rfl _ rfl).1 _ rfl).trans e5
      have e5 : vs5 3 = (Value.slice z5 m5 k5) := e5
      have I19 := I18
      rw [e5] at I19
      refine pl_ rfl (ef_ (α := (List Int)) (v := (.slice z4_ m4_ k4_)) (u := (.slice z5 m5 k5)) rfl rfl Tryz.underlying23 el28 (by decide) (by decide) q3 q4 I19 (Inv.rowSrc (I19.nth 1 rfl)) hx3 (fun u6 w12 I20 => ?_))
      obtain ⟨z6, m6, k6, e6⟩ := bk_ I20
      subst e6
      refine ⟨_, _, rfl, lr, ?_, ?_⟩
      ·
       exact ⟨_, _, _, rfl⟩
      ·
       show Inv _ _ (Row (α := (List Int)) 28 ((Value.slice z6 m6 k6)) (x3) :: Row (α := (List Int)) 28 (vs5 3) (([x2] : List (List Int))) :: X5)
       simp only [e5]
       exact ((I20.pull 1).pull 1)
     ·
      intro vs6 f w13 S12 X6 le12 hA6 hK6 hI6
      have I21 : Inv w13 S12 (ao_ g4_ 23 #[(Value.slice z4_ m4_ k4_)] :: Row (α := (List Int)) 28 (vs6 4) (x3) :: X6) := hI6
      obtain ⟨z7, m7, k7, e7⟩ := (hA6.at_ 4 rfl _ rfl).2
      have q5 : f 27 = Value.slice z7 m7 k7 := ((hA6.at_ 4 rfl _ rfl).1 _ rfl).trans e7
      have e7 : vs6 4 = (Value.slice z7 m7 k7) := e7
      have I22 := I21
      rw [e7] at I22
      refine pl_ rfl (bd_ (v := (.slice z7 m7 k7)) (cs := #[(.slice z4_ m4_ k4_)]) mh_ I22 (hK6 4 (am_ rfl)) q5 rfl nb rfl (fun w14 (I23 : Inv w14 S12 (ao_ g4_ 23 #[(.slice z7 m7 k7)] :: Row (α := (List Int)) 28 (.slice z7 m7 k7) (x3) :: X6)) => (⟨undef, _, rfl, lr, ?_, ?_⟩)))
      ·
       exact trivial
      ·
       show Inv _ _ (ao_ g4_ 23 #[(vs6 4)] :: Row (α := (List Int)) 28 (vs6 4) (x3) :: X6)
       simp only [e7]
       exact ((I23.pull 1).pull 1)
     ·
      intro vs7 f w15 S13 ed1 le13 hF1 hK7 hI7
      have I24 : Inv w15 S13 (ao_ g1_ 28 #[(Value.slice z1_ m1_ k1_)] :: Row (α := Int) 3 (Value.slice z1_ m1_ k1_) (a1) :: Row (α := (List Int)) 28 (vs7 3) (([x2] : List (List Int))) :: Row (α := (List Int)) 28 (vs7 4) (x3) :: ao_ g4_ 23 #[(vs7 4)] :: ao_ g5_ 140 #[(Value.func (.func 116) #[] #[(Value.pointer (some ⟨g1_, 0, none⟩)), v2, v3, (Value.pointer (some ⟨g4_, 0, none⟩)), (Value.pointer (some ⟨g5_, 0, none⟩))])] :: Fr) := hI7
      obtain ⟨z8, m8, k8, e8⟩ := (hF1.at_ 3 rfl _ rfl).2
      have q6 : f 26 = Value.slice z8 m8 k8 := ((hF1.at_ 3 rfl _ rfl).1 _ rfl).trans e8
      have e8 : vs7 3 = (Value.slice z8 m8 k8) := e8
      have I25 := I24
      rw [e8] at I25
      obtain ⟨z9, m9, k9, e9⟩ := (hF1.at_ 4 rfl _ rfl).2
      have q7 : f 27 = Value.slice z9 m9 k9 := ((hF1.at_ 4 rfl _ rfl).1 _ rfl).trans e9
      have e9 : vs7 4 = (Value.slice z9 m9 k9) := e9
      have I26 := I25
      rw [e9] at I26
      refine al_ ?_
      obtain rfl := sj h
      exact ⟨(ed1.trans rfl), (Value.tuple #[]), (res0 rfl), _, [ao_ g1_ 28 #[(.slice z1_ m1_ k1_)], Row (α := Int) 3 (.slice z1_ m1_ k1_) (a1), ao_ g4_ 23 #[(.slice z9 m9 k9)], Row (α := (List Int)) 28 (.slice z9 m9 k9) (x3), ao_ g5_ 140 #[(Value.func (.func 116) #[] #[(Value.pointer (some ⟨g1_, 0, none⟩)), v2, v3, (Value.pointer (some ⟨g4_, 0, none⟩)), (Value.pointer (some ⟨g5_, 0, none⟩))])]], le13, ((((((I26.pull 2).drop.pull 4).pull 3).pull 4).pull 4).pull 4), _, _, _, _, _, _, rfl, rfl⟩
    ·
     refine ak_ (b := x1.2.1) rfl hc2 (av_ (al_ ?_))
     obtain rfl := sj h
     exact ⟨rfl, (Value.tuple #[]), (res0 rfl), _, [ao_ g1_ 28 #[(.slice z1_ m1_ k1_)], Row (α := Int) 3 (.slice z1_ m1_ k1_) (a1), ao_ g4_ 23 #[(.slice z4_ m4_ k4_)], Row (α := (List Int)) 28 (.slice z4_ m4_ k4_) (a4), ao_ g5_ 140 #[(Value.func (.func 116) #[] #[(Value.pointer (some ⟨g1_, 0, none⟩)), v2, v3, (Value.pointer (some ⟨g4_, 0, none⟩)), (Value.pointer (some ⟨g5_, 0, none⟩))])]], lr, (((((I2.pull 4).pull 4).pull 4).pull 3).pull 4), _, _, _, _, _, _, rfl, rfl⟩
   ·
    refine ak_ (b := a0 == (a1.length : Int)) rfl hc1 (av_ (ab_ (ab_ (aa_ (wo_ (be_ (c := (.slice z1_ m1_ k1_)) rfl ht_ (hI.nth 0 rfl) rfl rfl (wm_ (v := (vi a0)) rfl rfl ?_)))))))
    obtain ⟨x4, hx4, h⟩ := bnd h
    refine wo_ (bf_ (v := (.slice z1_ m1_ k1_)) (i := a0) (e := x4) rfl Tryz.underlying28 sh3 rfl (Inv.rowSrc (hI.nth 1 rfl)) rfl hx4 (wo_ (dr_ (u := (vi 0)) (e' := 0) sh3 (hI.pull 1) rfl rfl hx4 (ei_ _) (fun w16 I27 => (ad_ ?_)))))
    obtain ⟨out1, hrun1, h⟩ := bnd h
    refine bs_ (fun f w => ∃ (S_ : PH) (z32 : Option Addr) (m32 k32 : Nat) (z33 : Option Addr) (m33 k33 : Nat), S.Le S_ ∧ Inv w S_ (ao_ g1_ 28 #[(.slice z32 m32 k32)] :: Row (α := Int) 3 (.slice z32 m32 k32) (out1.1) :: ao_ g4_ 23 #[(.slice z33 m33 k33)] :: Row (α := (List Int)) 28 (.slice z33 m33 k33) (out1.2) :: ao_ g5_ 140 #[(Value.func (.func 116) #[] #[(Value.pointer (some ⟨g1_, 0, none⟩)), v2, v3, (Value.pointer (some ⟨g4_, 0, none⟩)), (Value.pointer (some ⟨g5_, 0, none⟩))])] :: Fr) ∧ f 0 = (vi a0) ∧ f 1 = (Value.pointer (some ⟨g1_, 0, none⟩)) ∧ f 2 = v2 ∧ f 5 = (Value.pointer (some ⟨g5_, 0, none⟩)) ∧ f.ds = []) ?_ ?_
    ·
     refine ax_ ?_
     refine hv_ (I := fun (s1 : (List Int × List (List Int))) (f : Frm) (w : World) => ∃ (S_ : PH) (z30 : Option Addr) (m30 k30 : Nat) (z31 : Option Addr) (m31 k31 : Nat), S.Le S_ ∧ Inv w S_ (ao_ g1_ 28 #[(.slice z30 m30 k30)] :: Row (α := Int) 3 (.slice z30 m30 k30) (s1.1) :: ao_ g4_ 23 #[(.slice z31 m31 k31)] :: Row (α := (List Int)) 28 (.slice z31 m31 k31) (s1.2) :: ao_ g5_ 140 #[(Value.func (.func 116) #[] #[(Value.pointer (some ⟨g1_, 0, none⟩)), v2, v3, (Value.pointer (some ⟨g4_, 0, none⟩)), (Value.pointer (some ⟨g5_, 0, none⟩))])] :: Fr) ∧ f 0 = (vi a0) ∧ f 1 = (Value.pointer (some ⟨g1_, 0, none⟩)) ∧ f 2 = v2 ∧ f 5 = (Value.pointer (some ⟨g5_, 0, none⟩)) ∧ f.ds = []) hrun1 ⟨_, _, _, _, _, _, _, lr, (((((I27.pull 4).pull 4).pull 4).pull 3).pull 4), rfl, rfl, rfl, rfl, rfl⟩ ?_
     rintro s1 f w o1 hI56 h1 hout1
     obtain ⟨S72, z30, m30, k30, z31, m31, k31, le72, I94, e58, e59, e60, e61, ed14⟩ := hI56
     refine ab_ (ab_ ?_)
     obtain ⟨x29, hx29, h1⟩ := bnd h1
     refine bm_ (sps := [⟨some 31, [], [0], fun vs_ T_ => fr0 vs_ 0 = (.slice z30 m30 k30), [0], [], [], fun _ h_ => h_⟩, spV 32 [] 1 (vi a0), ⟨some 33, [0, 1], [2], fun vs_ T_ => fr0 vs_ 0 = (ah_ (.slice z30 m30 k30) (a0) (Enc.sz Int)), [1], [], [], fun _ h_ => h_⟩, ⟨some 34, [0, 1, 2], [3], fun vs_ T_ => fr0 vs_ 0 = (vi x29), [1], [], [], fun _ h_ => h_⟩, spV 35 [] 4 (ae_ v2 1), spV 36 [4] 5 (vi a2.Symbols), spV 37 (lrg 6) 6 (vb (decide (x29 < a2.Symbols)))]) (tks := [⟨none, none, [], fun vs_ => ao_ g1_ 28 #[(.slice z30 m30 k30)]⟩, ⟨none, none, [], fun vs_ => Row (α := Int) 3 (.slice z30 m30 k30) (s1.1)⟩]) (O := ao_ g4_ 23 #[(.slice z31 m31 k31)] :: Row (α := (List Int)) 28 (.slice z31 m31 k31) (s1.2) :: ao_ g5_ 140 #[(Value.func (.func 116) #[] #[(Value.pointer (some ⟨g1_, 0, none⟩)), v2, v3, (Value.pointer (some ⟨g4_, 0, none⟩)), (Value.pointer (some ⟨g5_, 0, none⟩))])] :: Fr) rfl (by kernel_rfl) ((I94.pull 1).pull 1) ⟨?_, ?_, ?_, ?_, ?_, ?_, ?_, trivial⟩ ?_
     ·
      intro vs56 f w78 S73 X49 le73 hA49 hK56 hI57
      have I95 : Inv w78 S73 (ao_ g1_ 28 #[(Value.slice z30 m30 k30)] :: X49) := hI57
      refine pl_ rfl (be_ (c := (.slice z30 m30 k30)) rfl ht_ (I95.nth 0 rfl) ((hK56 1 (am_ rfl)).trans e59) rfl (⟨_, _, rfl, lr, ?_, ?_⟩))
      ·
       exact rfl
      ·
       exact I95
     ·
      intro vs57 f w79 S74 X50 le74 hA50 hK57 hI58
      have I96 : Inv w79 S74 (X50) := hI58
      refine pl_ rfl (aw_ (v := (vi a0)) rfl ((hK57 0 (am_ rfl)).trans e58) (⟨_, _, rfl, lr, ?_, ?_⟩))
      ·
       exact rfl
      ·
       exact I96
     ·
      intro vs58 f w80 S75 X51 le75 hA51 hK58 hI59
      have I97 : Inv w80 S75 (Row (α := Int) 3 (Value.slice z30 m30 k30) (s1.1) :: X51) := hI59
      have q50 := hA51.u 0 rfl rfl rfl
      have q51 := hA51.u 1 rfl rfl rfl
      refine pl_ rfl (bf_ (v := (.slice z30 m30 k30)) (i := a0) (e := x29) rfl Tryz.underlying28 sh3 q50 (Inv.rowSrc (I97.nth 0 rfl)) q51 hx29 (⟨_, _, rfl, lr, ?_, ?_⟩))
      ·
       exact rfl
      ·
       exact I97
     ·
      intro vs59 f w81 S76 X52 le76 hA52 hK59 hI60
      have I98 : Inv w81 S76 (Row (α := Int) 3 (Value.slice z30 m30 k30) (s1.1) :: X52) := hI60
      have q52 := hA52.u 2 rfl rfl rfl
      refine pl_ rfl (ag_ (v := (ah_ (.slice z30 m30 k30) (a0) (Enc.sz Int))) (e := x29) rfl sh3 q52 ((I98.nth 0 rfl).rowElem hx29) (⟨_, _, rfl, lr, ?_, ?_⟩))
      ·
       exact rfl
      ·
       exact I98
     ·
      intro vs60 f w82 S77 X53 le77 hA53 hK60 hI61
      have I99 : Inv w82 S77 (X53) := hI61
      refine pl_ rfl (ac_ (v := v2) rfl fa62_1 ((hK60 2 (am_ rfl)).trans e60) ((h2_.mono (le72.trans le77)).at_ I99) (⟨_, _, rfl, lr, ?_, ?_⟩))
      ·
       exact rfl
      ·
       exact I99
     ·
      intro vs61 f w83 S78 X54 le78 hA54 hK61 hI62
      have I100 : Inv w83 S78 (X54) := hI62
      have q53 := hA54.u 0 rfl rfl rfl
      refine pl_ rfl (ag_ (v := (ae_ v2 1)) (e := a2.Symbols) rfl sh3 q53 (((h2_.mono (le72.trans le78)).at_ I100).fld CodeLock.fld1) (⟨_, _, rfl, lr, ?_, ?_⟩))
      ·
       exact rfl
      ·
       exact I100
     ·
      intro vs62 f w84 S79 X55 le79 hA55 hK62 hI63
      have I101 : Inv w84 S79 (X55) := hI63
      have q54 := hA55.u 3 rfl rfl rfl
      have q55 := hA55.u 5 rfl rfl rfl
      refine pl_ rfl (bg_ (a := x29) (b := a2.Symbols) rfl q54 q55 (⟨_, _, rfl, lr, ?_, ?_⟩))
      ·
       exact rfl
      ·
       exact I101
     ·
      intro vs63 f w85 S80 ed15 le80 hF8 hK63 hI64
      have e62 : f 0 = (vi a0) := (hK63 0 (au_ rfl)).trans e58
      have e63 : f 1 = (Value.pointer (some ⟨g1_, 0, none⟩)) := (hK63 1 (au_ rfl)).trans e59
      have e64 : f 2 = v2 := (hK63 2 (au_ rfl)).trans e60
      have e65 : f 5 = (Value.pointer (some ⟨g5_, 0, none⟩)) := (hK63 5 (au_ rfl)).trans e61
      have I102 : Inv w85 S80 (ao_ g1_ 28 #[(Value.slice z30 m30 k30)] :: Row (α := Int) 3 (Value.slice z30 m30 k30) (s1.1) :: ao_ g4_ 23 #[(Value.slice z31 m31 k31)] :: Row (α := (List Int)) 28 (Value.slice z31 m31 k31) (s1.2) :: ao_ g5_ 140 #[(Value.func (.func 116) #[] #[(Value.pointer (some ⟨g1_, 0, none⟩)), v2, v3, (Value.pointer (some ⟨g4_, 0, none⟩)), (Value.pointer (some ⟨g5_, 0, none⟩))])] :: Fr) := hI64
      have q56 := hF8.u 6 rfl rfl rfl
      rcases ifs h1 with ⟨hc9, h1⟩ | ⟨hc9, h1⟩
      ·
       refine ai_ (b := decide (x29 < a2.Symbols)) q56 hc9 (av_ (ab_ (ax_ (aa_ (wo_ (be_ (c := (Value.func (.func 116) #[] #[(Value.pointer (some ⟨g1_, 0, none⟩)), v2, v3, (Value.pointer (some ⟨g4_, 0, none⟩)), (Value.pointer (some ⟨g5_, 0, none⟩))])) rfl sh140 (I102.nth 4 rfl) e65 rfl (wm_ rfl e62 (wo_ (bp_ (a := a0) (b := 1) rfl rfl rfl ?_)))))))))
       obtain ⟨x30, hx30, h1⟩ := bnd h1
       refine wo_ (bo_ (vs := [(vi (w64 (a0 + 1))), (Value.pointer (some ⟨g1_, 0, none⟩)), v2, v3, (Value.pointer (some ⟨g4_, 0, none⟩)), (Value.pointer (some ⟨g5_, 0, none⟩))]) rfl ca116 rfl (oa_ (vs := [(vi (w64 (a0 + 1)))]) (cap := #[(Value.pointer (some ⟨g1_, 0, none⟩)), v2, v3, (Value.pointer (some ⟨g4_, 0, none⟩)), (Value.pointer (some ⟨g5_, 0, none⟩))]) (fk_ rfl)) (ih (((((I102.pull 4).pull 4).pull 4).pull 4).pull 4) (h2_.mono (le72.trans le80)) (h3_.mono (le72.trans le80)) hx30) (fun v7 w86 S81 O9 le81 I103 hv9 => ?_))
       obtain ⟨z34, m34, k34, z35, m35, k35, rfl, rfl⟩ := hv9
       refine ad_ (aa_ (wo_ (be_ (c := (.slice z34 m34 k34)) rfl ht_ (I103.nth 0 rfl) e63 rfl (wm_ rfl e62 ?_))))
       obtain ⟨x31, hx31, h1⟩ := bnd h1
       refine wo_ (bf_ (v := (.slice z34 m34 k34)) (i := a0) (e := x31) rfl Tryz.underlying28 sh3 rfl (Inv.rowSrc (I103.nth 1 rfl)) rfl hx31 (wo_ (ag_ (v := (ah_ (.slice z34 m34 k34) (a0) (Enc.sz Int))) (e := x31) rfl sh3 rfl ((I103.nth 1 rfl).rowElem hx31) (wo_ (bp_ (a := x31) (b := 1) rfl rfl rfl ?_)))))
       obtain ⟨x32, hx32, h1⟩ := bnd h1
       refine wo_ (bf_ (v := (.slice z34 m34 k34)) (i := a0) (e := x32) rfl Tryz.underlying28 sh3 rfl (Inv.rowSrc (I103.nth 1 rfl)) rfl hx32 (wo_ (dr_ (u := (vi (w64 (x31 + 1)))) (e' := w64 (x31 + 1)) sh3 (I103.pull 1) rfl rfl hx32 (ei_ _) (fun w87 I104 => (ad_ ?_)))))
       obtain rfl := sj h1
       exact ⟨_, rfl, _, _, _, _, _, _, _, ((le72.trans le80).trans le81), (((((I104.pull 4).pull 4).pull 4).pull 3).pull 4), e62, e63, e64, e65, (ed15.trans ed14)⟩
      ·
       refine ak_ (b := decide (x29 < a2.Symbols)) q56 hc9 (bj_ ?_)
       obtain rfl := sj h1
       obtain rfl := (hout1 _ rfl)
       exact ⟨_, _, _, _, _, _, _, (le72.trans le80), (((((I102.pull 4).pull 4).pull 4).pull 4).pull 4), e62, e63, e64, e65, (ed15.trans ed14)⟩
    ·
     rintro f w ⟨S82, z32, m32, k32, z33, m33, k33, le82, I105, e66, e67, e68, e69, ed16⟩
     refine aa_ (wo_ (be_ (c := (.slice z32 m32 k32)) rfl ht_ (I105.nth 0 rfl) e67 rfl (wm_ rfl e66 ?_)))
     obtain ⟨x33, hx33, h⟩ := bnd h
     refine wo_ (bf_ (v := (.slice z32 m32 k32)) (i := a0) (e := x33) rfl Tryz.underlying28 sh3 rfl (Inv.rowSrc (I105.nth 1 rfl)) rfl hx33 (wo_ (dr_ (u := (vi 0)) (e' := 0) sh3 (I105.pull 1) rfl rfl hx33 (ei_ _) (fun w88 I106 => (ad_ ?_)))))
     obtain rfl := sj h
     exact ⟨ed16, (Value.tuple #[]), (res0 rfl), _, [ao_ g1_ 28 #[(.slice z32 m32 k32)], Row (α := Int) 3 (.slice z32 m32 k32) (out1.1.set (a0).toNat 0), ao_ g4_ 23 #[(.slice z33 m33 k33)], Row (α := (List Int)) 28 (.slice z33 m33 k33) (out1.2), ao_ g5_ 140 #[(Value.func (.func 116) #[] #[(Value.pointer (some ⟨g1_, 0, none⟩)), v2, v3, (Value.pointer (some ⟨g4_, 0, none⟩)), (Value.pointer (some ⟨g5_, 0, none⟩))])]], le82, (((((I106.pull 4).pull 4).pull 4).pull 3).pull 4), _, _, _, _, _, _, rfl, rfl⟩
end Go.Proofs.YtlpdpeghgndmkaaGreat.Pad
