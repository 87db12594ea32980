/- A part of the proof: what the functions of the program compute, shown over the model. -/
import Derived.Test.YtlpdpeghgndmkaaGreatHizP
import Derived.KernelRfl
set_option linter.unusedVariables false
set_option maxHeartbeats 4000000
set_option maxRecDepth 100000
namespace Go.Proofs.YtlpdpeghgndmkaaGreat.Pad
open Go Go.Proofs
theorem ch_ {w : World} {S : PH} {Fr : List HP} {a0 : Int} {a1 : Int} {a2 : Int} {r : Bool} (hI : Inv w S (Fr))  (h : cn_ a0 a1 a2 = some r) :
    Calls Tryz.prog 55 [(Value.int .i64 (a0)), (Value.int .i64 (a1)), (Value.int .i64 (a2))].toArray w (bw_ S Fr (Value.bool (r))) := by
 unfold cn_ at h
 refine ao_ (n := 15) Tryz.func55 rfl rfl rfl (ab_ (aa_ (wa_ (v := (vb false)) rfl rfl (ad_ (ab_ (aa_ (wm_ (v := (vi a0)) rfl rfl (wm_ (v := (vi a1)) rfl rfl (wo_ (mx_ rfl rfl rfl (wm_ (v := (vb (decide (a1 ≤ a0)))) rfl rfl ?_)))))))))))
 rcases ifs h with ⟨hc1, h⟩ | ⟨hc1, h⟩
 ·
  refine wk_ rfl rfl hc1 (aq_ (v := (vi a0)) rfl rfl (wk_ rfl rfl hc1 (aq_ (v := (vi a2)) rfl rfl (wk_ rfl rfl hc1 (sw_ rfl rfl rfl (wo_ (aw_ (a := (vb (decide (a0 ≤ a2)))) rfl rfl hc1 rfl (wa_ (v := (vb (decide (a0 ≤ a2)))) rfl rfl (ad_ (ak_ ?_))))))))))
  obtain rfl := sj h
  exact ⟨rfl, (vb (decide (a0 ≤ a2))), (bo_ rfl rfl), _, [], lr, hI, rfl, rfl⟩
 refine ws_ rfl rfl hc1 (ws_ rfl rfl hc1 (ws_ rfl rfl hc1 (wo_ (ap_ (b := (vb false)) rfl rfl hc1 rfl (wa_ (v := (vb false)) rfl rfl (ad_ (ak_ ?_)))))))
 obtain rfl := sj h
 exact ⟨rfl, (vb false), (bo_ rfl rfl), _, [], lr, hI, rfl, rfl⟩
theorem bz_ {w : World} {S : PH} {Fr : List HP} {a0 : Int} {a1 : Int} {a2 : Int} {r : Bool} (hI : Inv w S (Fr))  (h : cb_ a0 a1 a2 = some r) :
    Calls Tryz.prog 104 [(Value.int .i64 (a0)), (Value.int .i64 (a1)), (Value.int .i64 (a2))].toArray w (bw_ S Fr (Value.bool (r))) := by
 unfold cb_ at h
 refine ao_ (n := 15) Tryz.func104 rfl rfl rfl (ab_ (aa_ (wa_ (v := (vb false)) rfl rfl (ad_ (ab_ (aa_ (wm_ (v := (vi a0)) rfl rfl (wm_ (v := (vi a1)) rfl rfl (wo_ (mx_ rfl rfl rfl (wm_ (v := (vb (decide (a1 ≤ a0)))) rfl rfl ?_)))))))))))
 rcases ifs h with ⟨hc1, h⟩ | ⟨hc1, h⟩
 ·
  refine wk_ rfl rfl hc1 (aq_ (v := (vi a0)) rfl rfl (wk_ rfl rfl hc1 (aq_ (v := (vi a2)) rfl rfl (wk_ rfl rfl hc1 (sw_ rfl rfl rfl (wo_ (aw_ (a := (vb (decide (a0 ≤ a2)))) rfl rfl hc1 rfl (wa_ (v := (vb (decide (a0 ≤ a2)))) rfl rfl (ad_ (ak_ ?_))))))))))
  obtain rfl := sj h
  exact ⟨rfl, (vb (decide (a0 ≤ a2))), (bo_ rfl rfl), _, [], lr, hI, rfl, rfl⟩
 refine ws_ rfl rfl hc1 (ws_ rfl rfl hc1 (ws_ rfl rfl hc1 (wo_ (ap_ (b := (vb false)) rfl rfl hc1 rfl (wa_ (v := (vb false)) rfl rfl (ad_ (ak_ ?_)))))))
 obtain rfl := sj h
 exact ⟨rfl, (vb false), (bo_ rfl rfl), _, [], lr, hI, rfl, rfl⟩
theorem pr_ {w : World} {S : PH} {Fr : List HP} {a0 : CodeLock} {v0 : Value} {r : Int} (hI : Inv w S (Fr)) (h0_ : RV S v0 a0) (h : ji_ a0 = some r) :
    Calls Tryz.prog 89 [v0].toArray w (bw_ S Fr (Value.int .i64 (r))) := by
 unfold ji_ at h
 have e1 := CodeLock.inv h0_
 subst e1
 refine ao_ (n := 13) Tryz.func89 rfl rfl rfl (ab_ (aa_ (wo_ (bi_ (v := (.agg #[(vi a0.Wheels), (vi a0.Symbols)])) rfl hI rfl (fun g1 w1 I1 => ?_)))))
 obtain ⟨S1, le1, I2, p1⟩ := Inv.boxFreeze (x := a0) I1 (CodeLock.rv (s := a0))
 refine wa_ (v := (vi 0)) rfl rfl (ad_ (ab_ (ab_ (aa_ (wo_ (fa_ hh_ (p1.at_ I2) rfl (wo_ (li_ sh3 ((p1.at_ I2).fld CodeLock.fld0) rfl ?_))))))))
 obtain ⟨x1, hx1, h⟩ := bnd h
 refine wo_ (cv_ sq_ rfl I2 (fun Fr_ hF_ => bz_ hF_  hx1) (cf_ rfl rfl rfl) (fun w2 I3 => (wo_ (bx_ rfl rfl (wm_ (v := (vb (!x1))) rfl rfl ?_)))))
 rcases ifs h with ⟨hc1, h⟩ | ⟨hc1, h⟩
 ·
  refine ws_ rfl rfl hc1 (ws_ rfl rfl hc1 (ws_ rfl rfl hc1 (ws_ rfl rfl hc1 (wo_ (aw_ (a := (vb true)) rfl rfl hc1 rfl (ad_ (ah_ rfl rfl (ab_ (aa_ (wa_ (v := (vi 10)) rfl rfl (ad_ (ak_ ?_))))))))))))
  obtain rfl := sj h
  exact ⟨rfl, (vi 10), (bo_ rfl rfl), _, [], le1, I3, rfl, rfl⟩
 refine wk_ rfl rfl hc1 (fa_ ru_ (p1.at_ I3) rfl (wk_ rfl rfl hc1 (li_ sh3 ((p1.at_ I3).fld CodeLock.fld1) rfl ?_)))
 obtain ⟨x2, hx2, h⟩ := bnd h
 refine wk_ rfl rfl hc1 (cv_ sq_ rfl I3 (fun Fr_ hF_ => bz_ hF_  hx2) (cf_ rfl rfl rfl) (fun w3 I4 => (wk_ rfl rfl hc1 (bx_ rfl rfl (wo_ (ap_ (b := (vb (!x2))) rfl rfl hc1 rfl (ad_ ?_)))))))
 rcases ifs h with ⟨hc2, h⟩ | ⟨hc2, h⟩
 ·
  refine ah_ rfl hc2 (ab_ (aa_ (wa_ (v := (vi 10)) rfl rfl (ad_ (ak_ ?_)))))
  obtain rfl := sj h
  exact ⟨rfl, (vi 10), (bo_ rfl rfl), _, [], le1, I4, rfl, rfl⟩
 refine ai_ rfl hc2 (ar_ (ab_ (aa_ (wa_ (v := (vi 0)) rfl rfl (ad_ (ak_ ?_))))))
 obtain rfl := sj h
 exact ⟨rfl, (vi 0), (bo_ rfl rfl), _, [], le1, I4, rfl, rfl⟩
theorem od_ {w : World} {S : PH} {Fr : List HP} {a0 : CodeLock} {v0 : Value} {a1 : (List Int)} {v1 : Value} {r : Bool} (hI : Inv w S (Fr)) (h0_ : RV S v0 a0) (h1_ : RV S v1 a1) (h : ic_ a0 a1 = some r) :
    Calls Tryz.prog 90 [v0, v1].toArray w (bw_ S Fr (Value.bool (r))) := by
 unfold ic_ at h
 have e1 := CodeLock.inv h0_
 subst e1
 obtain ⟨z1, m1, k1, rfl⟩ := ac_ h1_
 refine ao_ (n := 26) Tryz.func90 rfl rfl rfl (ab_ (aa_ (wo_ (bi_ (v := (.agg #[(vi a0.Wheels), (vi a0.Symbols)])) rfl hI rfl (fun g1 w1 I1 => ?_)))))
 obtain ⟨S1, le1, I2, p1⟩ := Inv.boxFreeze (x := a0) I1 (CodeLock.rv (s := a0))
 refine wa_ (v := (vb false)) rfl rfl (ad_ (ab_ (ab_ (aa_ (wm_ (v := (.slice z1 m1 k1)) rfl rfl (wo_ (az_ rfl Tryz.underlying28 rfl (h1_.mono le1) (wo_ (fa_ hh_ (p1.at_ I2) rfl (wo_ (li_ sh3 ((p1.at_ I2).fld CodeLock.fld0) rfl (wo_ (cd_ rfl rfl rfl (ad_ ?_))))))))))))))
 rcases ifs h with ⟨hc1, h⟩ | ⟨hc1, h⟩
 ·
  refine ah_ rfl hc1 (ab_ (aa_ (wa_ (v := (vb false)) rfl rfl (ad_ (ak_ ?_)))))
  obtain rfl := sj h
  exact ⟨rfl, (vb false), (bo_ rfl rfl), _, [], le1, I2, rfl, rfl⟩
 refine ai_ rfl hc1 (ar_ (ab_ (ab_ (aa_ (wa_ (v := (vi 0)) rfl rfl (ad_ ?_))))))
 have hk1 : a1.length ≤ 9223372036854775807 := (cx_ h1_)
 obtain ⟨o2, hrun1, h⟩ := bnd h
 refine bp_ (fun f w => ∃ out1, o2 = Sum.inl out1 ∧ ∃ (S_ : PH), S1.Le S_ ∧ Inv w S_ (Fr) ∧ f 1 = (.slice z1 m1 k1) ∧ f 2 = (pt_ g1) ∧ f.ds = []) ?_ ?_
 ·
  refine au_ ?_
  refine ex_ (I := fun (i1 : Nat) (s1 : Unit) (f : Frm) (w : World) => ∃ (S_ : PH), S1.Le S_ ∧ Inv w S_ (Fr) ∧ f 1 = (.slice z1 m1 k1) ∧ f 2 = (pt_ g1) ∧ f 5 = (vi (i1 : Int)) ∧ f.ds = []) hrun1 ⟨_, lr, I2, rfl, rfl, rfl, rfl⟩ ?_ ?_
  ·
   rintro i1 s1 f w o1 hlt1 hI31 h1 hout1
   obtain ⟨S34, le34, I42, e21, e22, e23, ed7⟩ := hI31
   refine ab_ (ab_ (aa_ (wm_ rfl e23 (wm_ rfl e21 (wo_ (az_ rfl Tryz.underlying28 rfl (h1_.mono (le1.trans le34)) (wo_ (be_ rfl rfl rfl (ad_ (ah_ rfl (eo_ hlt1) (ar_ (ab_ (au_ (ab_ ?_))))))))))))))
   obtain ⟨x7, hx7, h1⟩ := bnd h1
   obtain ⟨x8, hx8, h1⟩ := bnd h1
   refine bj_ (sps := [spV 17 [] 0 (.slice z1 m1 k1), spV 18 [] 1 (vi (i1 : Int)), spV 19 [0, 1] 2 (af_ (.slice z1 m1 k1) ((i1 : Int)) (Enc.sz Int)), spV 20 [0, 1, 2] 3 (vi x7), spV 21 [] 4 (an_ (pt_ g1) 1), spV 22 [4] 5 (vi a0.Symbols), spV 23 [4, 5] 6 (vi (w64 (a0.Symbols - 1))), spV 24 (lrg 7) 7 (vb x8), spV 25 (lrg 8) 8 (vb (!x8))]) (tks := []) (O := Fr) rfl (by kernel_rfl) I42 ⟨ob_ rfl fun l A K I => (aq_ rfl ((K 1 (ag_ rfl)).trans e21) (fo I)), ob_ rfl fun l A K I => (aq_ rfl ((K 5 (ag_ rfl)).trans e23) (fo I)), ob_ rfl fun l A K I => (ix_ Tryz.underlying28 sh3 (h1_.mono ((le1.trans le34).trans l)) hx7 (A.v 0 rfl) (A.v 1 rfl) (fo I)), ob_ rfl fun l A K I => (aj_ rfl sh3 (A.v 2 rfl) ((h1_.mono ((le1.trans le34).trans l)).elem I.in_ hx7) (fo I)), ob_ rfl fun l A K I => (ae_ rfl ru_ ((K 2 (ag_ rfl)).trans e22) ((p1.mono (le34.trans l)).at_ I) (fo I)), ob_ rfl fun l A K I => (aj_ rfl sh3 (A.v 0 rfl) (((p1.mono (le34.trans l)).at_ I).fld CodeLock.fld1) (fo I)), ob_ rfl fun l A K I => (eb_ rfl (A.v 1 rfl) rfl (fo I)), fun vs f w U X l A K I => pl_ rfl (cv_ sq_ rfl I (fun Fr_ hF_ => bz_ hF_  hx8) (cf_ (A.v 3 rfl) rfl (A.v 6 rfl)) (fun w47 I52 => (fo I52))), ?_, trivial⟩ ?_
   ·
    intro vs f w_ U X le A K I
    refine pl_ rfl (bx_ rfl (A.v 7 rfl) (fo I))
   intro vs40 f w49 S44 ed8 le44 hF4 hK40 hI41
   have e24 : f 1 = (Value.slice z1 m1 k1) := (hK40 1 (al_ rfl)).trans e21
   have e25 : f 2 = (pt_ g1) := (hK40 2 (al_ rfl)).trans e22
   have e26 : f 5 = (vi ((i1 : Int))) := (hK40 5 (al_ rfl)).trans e23
   have I54 : Inv w49 S44 (Fr) := hI41
   have q36 := hF4.v 8 rfl
   rcases ifs h1 with ⟨hc5, h1⟩ | ⟨hc5, h1⟩
   ·
    refine ah_ q36 hc5 (ab_ (aa_ (wa_ (v := (vb false)) rfl rfl (ad_ (ak_ ?_)))))
    obtain rfl := sj h1
    obtain rfl := (hout1 _ rfl)
    have h2 := h
    obtain rfl := sj h2
    exact ⟨(ed8.trans ed7), (vb false), (bo_ rfl rfl), _, [], ((le1.trans le34).trans le44), I54, rfl, rfl⟩
   refine ai_ q36 hc5 (ar_ (aa_ (wm_ rfl e26 (wo_ (bl_ rfl rfl rfl (wa_ (v := (vi (w64 ((i1 : Int) + 1)))) rfl rfl (ad_ ?_)))))))
   obtain rfl := sj h1
   exact ⟨_, rfl, _, (le34.trans le44), I54, e24, e25, (bh_ hlt1 hk1), (ed8.trans ed7)⟩
  rintro s2 f w hs1 hI42
  obtain ⟨S45, le45, I55, e27, e28, e29, ed9⟩ := hI42
  refine ab_ (ab_ (aa_ (wm_ rfl e29 (wm_ rfl e27 (wo_ (az_ rfl Tryz.underlying28 rfl (h1_.mono (le1.trans le45)) (wo_ (be_ rfl rfl rfl (ad_ (ai_ rfl (ep_ _) (bk_ ?_)))))))))))
  exact ⟨s2, hs1, _, le45, I55, e27, e28, ed9⟩
 rintro f w ⟨out1, rfl, S46, le46, I56, e30, e31, ed10⟩
 have h := eh_ h
 refine ab_ (aa_ (wa_ (v := (vb true)) rfl rfl (ad_ (ak_ ?_))))
 obtain rfl := sj h
 exact ⟨ed10, (vb true), (bo_ rfl rfl), _, [], (le1.trans le46), I56, rfl, rfl⟩
theorem ls_ {w : World} {S : PH} {Fr : List HP} {a0 : CodeLock} {v0 : Value} {a1 : (List Int)} {v1 : Value} {r : Int} (hI : Inv w S (Fr)) (h0_ : RV S v0 a0) (h1_ : RV S v1 a1) (h : fg_ a0 a1 = some r) :
    Calls Tryz.prog 68 [v0, v1].toArray w (bw_ S Fr (Value.int .i64 (r))) := by
 unfold fg_ at h
 have e1 := CodeLock.inv h0_
 subst e1
 obtain ⟨z1, m1, k1, rfl⟩ := ac_ h1_
 refine ao_ (n := 15) Tryz.func68 rfl rfl rfl (ab_ (aa_ (wo_ (bi_ (v := (.agg #[(vi a0.Wheels), (vi a0.Symbols)])) rfl hI rfl (fun g1 w1 I1 => ?_)))))
 obtain ⟨S1, le1, I2, p1⟩ := Inv.boxFreeze (x := a0) I1 (CodeLock.rv (s := a0))
 refine wa_ (v := (vi 0)) rfl rfl (ad_ (ab_ (ab_ (aa_ (wo_ (ld_ im_ (p1.at_ I2) rfl (fun u1 hu1 => ?_)))))))
 have e3 := CodeLock.inv hu1
 subst e3
 obtain ⟨x1, hx1, h⟩ := bnd h
 refine wo_ (cv_ ca89 rfl I2 (fun Fr_ hF_ => pr_ hF_ (CodeLock.rv (s := a0)) hx1) (em_ rfl) (fun w2 I3 => (wa_ (v := (vi x1)) rfl rfl (ad_ (ab_ (aa_ (wm_ (v := (vi x1)) rfl rfl (wo_ (cd_ rfl rfl rfl (ad_ ?_))))))))))
 rcases ifs h with ⟨hc1, h⟩ | ⟨hc1, h⟩
 ·
  refine ah_ rfl hc1 (ab_ (aa_ (wm_ (v := (vi x1)) rfl rfl (wa_ (v := (vi x1)) rfl rfl (ad_ (ak_ ?_))))))
  obtain rfl := sj h
  exact ⟨rfl, (vi x1), (bo_ rfl rfl), _, [], le1, I3, rfl, rfl⟩
 refine ai_ rfl hc1 (ar_ (ab_ (ab_ (aa_ (wo_ (ld_ im_ (p1.at_ I3) rfl (fun u2 hu2 => ?_)))))))
 have e4 := CodeLock.inv hu2
 subst e4
 refine wm_ (v := (.slice z1 m1 k1)) rfl rfl ?_
 obtain ⟨x2, hx2, h⟩ := bnd h
 refine wo_ (cv_ ca90 rfl I3 (fun Fr_ hF_ => od_ hF_ (CodeLock.rv (s := a0)) (h1_.mono le1) hx2) (br_ rfl rfl) (fun w3 I4 => (wo_ (bx_ rfl rfl (ad_ ?_)))))
 rcases ifs h with ⟨hc2, h⟩ | ⟨hc2, h⟩
 ·
  refine ah_ rfl hc2 (ab_ (aa_ (wa_ (v := (vi 12)) rfl rfl (ad_ (ak_ ?_)))))
  obtain rfl := sj h
  exact ⟨rfl, (vi 12), (bo_ rfl rfl), _, [], le1, I4, rfl, rfl⟩
 refine ai_ rfl hc2 (ar_ (ab_ (aa_ (wa_ (v := (vi 0)) rfl rfl (ad_ (ak_ ?_))))))
 obtain rfl := sj h
 exact ⟨rfl, (vi 0), (bo_ rfl rfl), _, [], le1, I4, rfl, rfl⟩
theorem gv_ {w : World} {S : PH} {Fr : List HP} {a0 : (List Int)} {v0 : Value} {a1 : (List Int)} {v1 : Value} {r : Bool} (hI : Inv w S (Fr)) (h0_ : RV S v0 a0) (h1_ : RV S v1 a1) (h : cy_ a0 a1 = some r) :
    Calls Tryz.prog 18 [v0, v1].toArray w (bw_ S Fr (Value.bool (r))) := by
 unfold cy_ at h
 obtain ⟨z1, m1, k1, rfl⟩ := ac_ h0_
 obtain ⟨z2, m2, k2, rfl⟩ := ac_ h1_
 refine ao_ (n := 26) Tryz.func18 rfl rfl rfl (ab_ (aa_ (wa_ (v := (vb false)) rfl rfl (ad_ (ab_ (ab_ (aa_ (wm_ (v := (.slice z1 m1 k1)) rfl rfl (wo_ (az_ rfl Tryz.underlying28 rfl h0_ (wm_ (v := (.slice z2 m2 k2)) rfl rfl (wo_ (az_ rfl Tryz.underlying28 rfl h1_ (wo_ (cd_ rfl rfl rfl (ad_ ?_))))))))))))))))
 rcases ifs h with ⟨hc1, h⟩ | ⟨hc1, h⟩
 ·
  refine ah_ rfl hc1 (ab_ (aa_ (wa_ (v := (vb false)) rfl rfl (ad_ (ak_ ?_)))))
  obtain rfl := sj h
  exact ⟨rfl, (vb false), (bo_ rfl rfl), _, [], lr, hI, rfl, rfl⟩
 refine ai_ rfl hc1 (ar_ (ab_ (ab_ (aa_ (wa_ (v := (vi 0)) rfl rfl (ad_ ?_))))))
 have hk1 : a0.length ≤ 9223372036854775807 := (cx_ h0_)
 obtain ⟨o2, hrun1, h⟩ := bnd h
 refine bp_ (fun f w => ∃ out1, o2 = Sum.inl out1 ∧ ∃ (S_ : PH), S.Le S_ ∧ Inv w S_ (Fr) ∧ f 0 = (.slice z1 m1 k1) ∧ f 1 = (.slice z2 m2 k2) ∧ f.ds = []) ?_ ?_
 ·
  refine au_ ?_
  refine ex_ (I := fun (i1 : Nat) (s1 : Unit) (f : Frm) (w : World) => ∃ (S_ : PH), S.Le S_ ∧ Inv w S_ (Fr) ∧ f 0 = (.slice z1 m1 k1) ∧ f 1 = (.slice z2 m2 k2) ∧ f 5 = (vi (i1 : Int)) ∧ f.ds = []) hrun1 ⟨_, lr, hI, rfl, rfl, rfl, rfl⟩ ?_ ?_
  ·
   rintro i1 s1 f w o1 hlt1 hI31 h1 hout1
   obtain ⟨S33, le33, I34, e21, e22, e23, ed7⟩ := hI31
   refine ab_ (ab_ (aa_ (wm_ rfl e23 (wm_ rfl e21 (wo_ (az_ rfl Tryz.underlying28 rfl (h0_.mono le33) (wo_ (be_ rfl rfl rfl (ad_ (ah_ rfl (eo_ hlt1) (ar_ (ab_ (au_ (ab_ ?_))))))))))))))
   obtain ⟨x7, hx7, h1⟩ := bnd h1
   obtain ⟨x8, hx8, h1⟩ := bnd h1
   refine bj_ (sps := [spV 17 [] 0 (.slice z1 m1 k1), spV 18 [] 1 (vi (i1 : Int)), spV 19 [0, 1] 2 (af_ (.slice z1 m1 k1) ((i1 : Int)) (Enc.sz Int)), spV 20 [0, 1, 2] 3 (vi x7), spV 21 [] 4 (.slice z2 m2 k2), spV 22 [] 5 (vi (i1 : Int)), spV 23 [4, 5] 6 (af_ (.slice z2 m2 k2) ((i1 : Int)) (Enc.sz Int)), spV 24 [4, 5, 6] 7 (vi x8), spV 25 (lrg 8) 8 (vb (x7 != x8))]) (tks := []) (O := Fr) rfl (by kernel_rfl) I34 ⟨ob_ rfl fun l A K I => (aq_ rfl ((K 0 (ag_ rfl)).trans e21) (fo I)), ob_ rfl fun l A K I => (aq_ rfl ((K 5 (ag_ rfl)).trans e23) (fo I)), ob_ rfl fun l A K I => (ix_ Tryz.underlying28 sh3 (h0_.mono (le33.trans l)) hx7 (A.v 0 rfl) (A.v 1 rfl) (fo I)), ob_ rfl fun l A K I => (aj_ rfl sh3 (A.v 2 rfl) ((h0_.mono (le33.trans l)).elem I.in_ hx7) (fo I)), ob_ rfl fun l A K I => (aq_ rfl ((K 1 (ag_ rfl)).trans e22) (fo I)), ob_ rfl fun l A K I => (aq_ rfl ((K 5 (ag_ rfl)).trans e23) (fo I)), ob_ rfl fun l A K I => (ix_ Tryz.underlying28 sh3 (h1_.mono (le33.trans l)) hx8 (A.v 0 rfl) (A.v 1 rfl) (fo I)), ob_ rfl fun l A K I => (aj_ rfl sh3 (A.v 2 rfl) ((h1_.mono (le33.trans l)).elem I.in_ hx8) (fo I)), ?_, trivial⟩ ?_
   ·
    intro vs f w_ U X le A K I
    refine pl_ rfl (cd_ rfl (A.v 3 rfl) (A.v 7 rfl) (fo I))
   intro vs40 f w40 S43 ed8 le43 hF4 hK40 hI41
   have e24 : f 0 = (Value.slice z1 m1 k1) := (hK40 0 (al_ rfl)).trans e21
   have e25 : f 1 = (Value.slice z2 m2 k2) := (hK40 1 (al_ rfl)).trans e22
   have e26 : f 5 = (vi ((i1 : Int))) := (hK40 5 (al_ rfl)).trans e23
   have I44 : Inv w40 S43 (Fr) := hI41
   have q36 := hF4.v 8 rfl
   rcases ifs h1 with ⟨hc5, h1⟩ | ⟨hc5, h1⟩
   ·
    refine ah_ q36 hc5 (ab_ (aa_ (wa_ (v := (vb false)) rfl rfl (ad_ (ak_ ?_)))))
    obtain rfl := sj h1
    obtain rfl := (hout1 _ rfl)
    have h2 := h
    obtain rfl := sj h2
    exact ⟨(ed8.trans ed7), (vb false), (bo_ rfl rfl), _, [], (le33.trans le43), I44, rfl, rfl⟩
   refine ai_ q36 hc5 (ar_ (aa_ (wm_ rfl e26 (wo_ (bl_ rfl rfl rfl (wa_ (v := (vi (w64 ((i1 : Int) + 1)))) rfl rfl (ad_ ?_)))))))
   obtain rfl := sj h1
   exact ⟨_, rfl, _, (le33.trans le43), I44, e24, e25, (bh_ hlt1 hk1), (ed8.trans ed7)⟩
  rintro s2 f w hs1 hI42
  obtain ⟨S44, le44, I45, e27, e28, e29, ed9⟩ := hI42
  refine ab_ (ab_ (aa_ (wm_ rfl e29 (wm_ rfl e27 (wo_ (az_ rfl Tryz.underlying28 rfl (h0_.mono le44) (wo_ (be_ rfl rfl rfl (ad_ (ai_ rfl (ep_ _) (bk_ ?_)))))))))))
  exact ⟨s2, hs1, _, le44, I45, e27, e28, ed9⟩
 rintro f w ⟨out1, rfl, S45, le45, I46, e30, e31, ed10⟩
 have h := eh_ h
 refine ab_ (aa_ (wa_ (v := (vb true)) rfl rfl (ad_ (ak_ ?_))))
 obtain rfl := sj h
 exact ⟨ed10, (vb true), (bo_ rfl rfl), _, [], le45, I46, rfl, rfl⟩
theorem ed_ {w : World} {S : PH} {Fr : List HP} {a0 : Clue} {v0 : Value} {a1 : Clue} {v1 : Value} {r : Bool} (hI : Inv w S (Fr)) (h0_ : RV S v0 a0) (h1_ : RV S v1 a1) (h : cz_ a0 a1 = some r) :
    Calls Tryz.prog 41 [v0, v1].toArray w (bw_ S Fr (Value.bool (r))) := by
 unfold cz_ at h
 obtain ⟨c1, e1, r1⟩ := Clue.inv h0_
 subst e1
 obtain ⟨z1, m1, k1, rfl⟩ := ac_ r1
 obtain ⟨c2, e3, r2⟩ := Clue.inv h1_
 subst e3
 obtain ⟨z2, m2, k2, rfl⟩ := ac_ r2
 refine ao_ (n := 52) Tryz.func41 rfl rfl rfl (ab_ (aa_ (wo_ (bi_ (v := (.agg #[(vi a0.Kind), (vi a0.A), (vi a0.B), (vi a0.N), (vi a0.M), (.slice z1 m1 k1), (vb a0.Not)])) rfl hI rfl (fun g1 w1 I1 => ?_)))))
 obtain ⟨S1, le1, I2, p1⟩ := Inv.boxFreeze (x := a0) I1 (Clue.rv (s := a0) r1)
 refine wo_ (bi_ (v := (.agg #[(vi a1.Kind), (vi a1.A), (vi a1.B), (vi a1.N), (vi a1.M), (.slice z2 m2 k2), (vb a1.Not)])) rfl I2 rfl (fun g2 w2 I3 => ?_))
 obtain ⟨S2, le2, I4, p2⟩ := Inv.boxFreeze (x := a1) I3 (Clue.rv (s := a1) (r2.mono le1))
 refine wa_ (v := (vb false)) rfl rfl (ad_ (ab_ (aa_ (wo_ (fa_ tb_ ((p1.mono le2).at_ I4) rfl (wo_ (li_ sh3 (((p1.mono le2).at_ I4).fld Clue.fld0) rfl (wo_ (fa_ tb_ (p2.at_ I4) rfl (wo_ (li_ sh3 ((p2.at_ I4).fld Clue.fld0) rfl (wo_ (bm_ rfl rfl rfl (wm_ (v := (vb (a0.Kind == a1.Kind))) rfl rfl ?_))))))))))))))
 rcases ifs h with ⟨hc1, h⟩ | ⟨hc1, h⟩
 ·
  refine wk_ rfl rfl hc1 (fa_ db_ ((p1.mono le2).at_ I4) rfl (wk_ rfl rfl hc1 (li_ sh3 (((p1.mono le2).at_ I4).fld Clue.fld1) rfl (wk_ rfl rfl hc1 (fa_ db_ (p2.at_ I4) rfl (wk_ rfl rfl hc1 (li_ sh3 ((p2.at_ I4).fld Clue.fld1) rfl (wk_ rfl rfl hc1 (bm_ rfl rfl rfl (wo_ (aw_ (a := (vb (a0.A == a1.A))) rfl rfl hc1 rfl (wm_ (v := (vb (a0.A == a1.A))) rfl rfl ?_))))))))))))
  rcases ifs h with ⟨hc2, h⟩ | ⟨hc2, h⟩
  ·
   refine wk_ rfl rfl hc2 (fa_ fv_ ((p1.mono le2).at_ I4) rfl (wk_ rfl rfl hc2 (li_ sh3 (((p1.mono le2).at_ I4).fld Clue.fld2) rfl (wk_ rfl rfl hc2 (fa_ fv_ (p2.at_ I4) rfl (wk_ rfl rfl hc2 (li_ sh3 ((p2.at_ I4).fld Clue.fld2) rfl (wk_ rfl rfl hc2 (bm_ rfl rfl rfl (wo_ (aw_ (a := (vb (a0.B == a1.B))) rfl rfl hc2 rfl (wm_ (v := (vb (a0.B == a1.B))) rfl rfl ?_))))))))))))
   rcases ifs h with ⟨hc3, h⟩ | ⟨hc3, h⟩
   ·
    refine wk_ rfl rfl hc3 (fa_ ck_ ((p1.mono le2).at_ I4) rfl (wk_ rfl rfl hc3 (li_ sh3 (((p1.mono le2).at_ I4).fld Clue.fld3) rfl (wk_ rfl rfl hc3 (fa_ ck_ (p2.at_ I4) rfl (wk_ rfl rfl hc3 (li_ sh3 ((p2.at_ I4).fld Clue.fld3) rfl (wk_ rfl rfl hc3 (bm_ rfl rfl rfl (wo_ (aw_ (a := (vb (a0.N == a1.N))) rfl rfl hc3 rfl (wm_ (v := (vb (a0.N == a1.N))) rfl rfl ?_))))))))))))
    rcases ifs h with ⟨hc4, h⟩ | ⟨hc4, h⟩
    ·
     refine wk_ rfl rfl hc4 (fa_ fd_ ((p1.mono le2).at_ I4) rfl (wk_ rfl rfl hc4 (li_ sh3 (((p1.mono le2).at_ I4).fld Clue.fld4) rfl (wk_ rfl rfl hc4 (fa_ fd_ (p2.at_ I4) rfl (wk_ rfl rfl hc4 (li_ sh3 ((p2.at_ I4).fld Clue.fld4) rfl (wk_ rfl rfl hc4 (bm_ rfl rfl rfl (wo_ (aw_ (a := (vb (a0.M == a1.M))) rfl rfl hc4 rfl (wm_ (v := (vb (a0.M == a1.M))) rfl rfl ?_))))))))))))
     rcases ifs h with ⟨hc5, h⟩ | ⟨hc5, h⟩
     ·
      refine wk_ rfl rfl hc5 (fa_ mb_ ((p1.mono le2).at_ I4) rfl (wk_ rfl rfl hc5 (lb_ sh4 (((p1.mono le2).at_ I4).fld Clue.fld6) rfl (wk_ rfl rfl hc5 (fa_ mb_ (p2.at_ I4) rfl (wk_ rfl rfl hc5 (lb_ sh4 ((p2.at_ I4).fld Clue.fld6) rfl (wk_ rfl rfl hc5 (op_beql (a := a0.Not) (b := a1.Not) rfl Tryz.underlying4 rfl rfl (wo_ (aw_ (a := (vb (a0.Not == a1.Not))) rfl rfl hc5 rfl (wm_ (v := (vb (a0.Not == a1.Not))) rfl rfl ?_))))))))))))
      rcases ifs h with ⟨hc6, h⟩ | ⟨hc6, h⟩
      ·
       refine wk_ rfl rfl hc6 (fa_ kf_ ((p1.mono le2).at_ I4) rfl (wk_ rfl rfl hc6 (ld_ fn_ (((p1.mono le2).at_ I4).fld Clue.fld5) rfl (fun u1 hu1 => ?_))))
       obtain ⟨z3, m3, k3, rfl⟩ := ac_ hu1
       refine wk_ rfl rfl hc6 (fa_ kf_ (p2.at_ I4) rfl (wk_ rfl rfl hc6 (ld_ fn_ ((p2.at_ I4).fld Clue.fld5) rfl (fun u2 hu2 => ?_))))
       obtain ⟨z4, m4, k4, rfl⟩ := ac_ hu2
       obtain ⟨x1, hx1, h⟩ := bnd h
       refine wk_ rfl rfl hc6 (cv_ ca18 rfl I4 (fun Fr_ hF_ => gv_ hF_ hu1 hu2 hx1) (br_ rfl rfl) (fun w3 I5 => (wo_ (aw_ (a := (vb x1)) rfl rfl hc6 rfl (wa_ (v := (vb x1)) rfl rfl (ad_ (ak_ ?_)))))))
       obtain rfl := sj h
       exact ⟨rfl, (vb x1), (bo_ rfl rfl), _, [], (le1.trans le2), I5, rfl, rfl⟩
      refine ws_ rfl rfl hc6 (ws_ rfl rfl hc6 (ws_ rfl rfl hc6 (ws_ rfl rfl hc6 (ws_ rfl rfl hc6 (wo_ (ap_ (b := (vb false)) rfl rfl hc6 rfl (wa_ (v := (vb false)) rfl rfl (ad_ (ak_ ?_)))))))))
      obtain rfl := sj h
      exact ⟨rfl, (vb false), (bo_ rfl rfl), _, [], (le1.trans le2), I4, rfl, rfl⟩
     refine ws_ rfl rfl hc5 (ws_ rfl rfl hc5 (ws_ rfl rfl hc5 (ws_ rfl rfl hc5 (ws_ rfl rfl hc5 (wo_ (ap_ (b := (vb false)) rfl rfl hc5 rfl (wm_ (v := (vb false)) rfl rfl (ws_ rfl rfl rfl (ws_ rfl rfl rfl (ws_ rfl rfl rfl (ws_ rfl rfl rfl (ws_ rfl rfl rfl (wo_ (ap_ (b := (vb false)) rfl rfl rfl rfl (wa_ (v := (vb false)) rfl rfl (ad_ (ak_ ?_)))))))))))))))))
     obtain rfl := sj h
     exact ⟨rfl, (vb false), (bo_ rfl rfl), _, [], (le1.trans le2), I4, rfl, rfl⟩
    refine ws_ rfl rfl hc4 (ws_ rfl rfl hc4 (ws_ rfl rfl hc4 (ws_ rfl rfl hc4 (ws_ rfl rfl hc4 (wo_ (ap_ (b := (vb false)) rfl rfl hc4 rfl (wm_ (v := (vb false)) rfl rfl (ws_ rfl rfl rfl (ws_ rfl rfl rfl (ws_ rfl rfl rfl (ws_ rfl rfl rfl (ws_ rfl rfl rfl (wo_ (ap_ (b := (vb false)) rfl rfl rfl rfl (wm_ (v := (vb false)) rfl rfl (ws_ rfl rfl rfl (ws_ rfl rfl rfl (ws_ rfl rfl rfl (ws_ rfl rfl rfl (ws_ rfl rfl rfl (wo_ (ap_ (b := (vb false)) rfl rfl rfl rfl (wa_ (v := (vb false)) rfl rfl (ad_ (ak_ ?_)))))))))))))))))))))))))
    obtain rfl := sj h
    exact ⟨rfl, (vb false), (bo_ rfl rfl), _, [], (le1.trans le2), I4, rfl, rfl⟩
   refine ws_ rfl rfl hc3 (ws_ rfl rfl hc3 (ws_ rfl rfl hc3 (ws_ rfl rfl hc3 (ws_ rfl rfl hc3 (wo_ (ap_ (b := (vb false)) rfl rfl hc3 rfl (wm_ (v := (vb false)) rfl rfl (ws_ rfl rfl rfl (ws_ rfl rfl rfl (ws_ rfl rfl rfl (ws_ rfl rfl rfl (ws_ rfl rfl rfl (wo_ (ap_ (b := (vb false)) rfl rfl rfl rfl (wm_ (v := (vb false)) rfl rfl (ws_ rfl rfl rfl (ws_ rfl rfl rfl (ws_ rfl rfl rfl (ws_ rfl rfl rfl (ws_ rfl rfl rfl (wo_ (ap_ (b := (vb false)) rfl rfl rfl rfl (wm_ (v := (vb false)) rfl rfl (ws_ rfl rfl rfl (ws_ rfl rfl rfl (ws_ rfl rfl rfl (ws_ rfl rfl rfl ?_)))))))))))))))))))))))))))
   refine ws_ rfl rfl rfl (wo_ (ap_ (b := (vb false)) rfl rfl rfl rfl (wa_ (v := (vb false)) rfl rfl (ad_ (ak_ ?_)))))
   obtain rfl := sj h
   exact ⟨rfl, (vb false), (bo_ rfl rfl), _, [], (le1.trans le2), I4, rfl, rfl⟩
  refine ws_ rfl rfl hc2 (ws_ rfl rfl hc2 (ws_ rfl rfl hc2 (ws_ rfl rfl hc2 (ws_ rfl rfl hc2 (wo_ (ap_ (b := (vb false)) rfl rfl hc2 rfl (wm_ (v := (vb false)) rfl rfl (ws_ rfl rfl rfl (ws_ rfl rfl rfl (ws_ rfl rfl rfl (ws_ rfl rfl rfl (ws_ rfl rfl rfl (wo_ (ap_ (b := (vb false)) rfl rfl rfl rfl (wm_ (v := (vb false)) rfl rfl (ws_ rfl rfl rfl (ws_ rfl rfl rfl (ws_ rfl rfl rfl (ws_ rfl rfl rfl (ws_ rfl rfl rfl (wo_ (ap_ (b := (vb false)) rfl rfl rfl rfl (wm_ (v := (vb false)) rfl rfl (ws_ rfl rfl rfl (ws_ rfl rfl rfl (ws_ rfl rfl rfl (ws_ rfl rfl rfl ?_)))))))))))))))))))))))))))
  refine ws_ rfl rfl rfl (wo_ (ap_ (b := (vb false)) rfl rfl rfl rfl (wm_ (v := (vb false)) rfl rfl (ws_ rfl rfl rfl (ws_ rfl rfl rfl (ws_ rfl rfl rfl (ws_ rfl rfl rfl (ws_ rfl rfl rfl (wo_ (ap_ (b := (vb false)) rfl rfl rfl rfl (wa_ (v := (vb false)) rfl rfl (ad_ (ak_ ?_)))))))))))))
  obtain rfl := sj h
  exact ⟨rfl, (vb false), (bo_ rfl rfl), _, [], (le1.trans le2), I4, rfl, rfl⟩
 refine ws_ rfl rfl hc1 (ws_ rfl rfl hc1 (ws_ rfl rfl hc1 (ws_ rfl rfl hc1 (ws_ rfl rfl hc1 (wo_ (ap_ (b := (vb false)) rfl rfl hc1 rfl (wm_ (v := (vb false)) rfl rfl (ws_ rfl rfl rfl (ws_ rfl rfl rfl (ws_ rfl rfl rfl (ws_ rfl rfl rfl (ws_ rfl rfl rfl (wo_ (ap_ (b := (vb false)) rfl rfl rfl rfl (wm_ (v := (vb false)) rfl rfl (ws_ rfl rfl rfl (ws_ rfl rfl rfl (ws_ rfl rfl rfl (ws_ rfl rfl rfl (ws_ rfl rfl rfl (wo_ (ap_ (b := (vb false)) rfl rfl rfl rfl (wm_ (v := (vb false)) rfl rfl (ws_ rfl rfl rfl (ws_ rfl rfl rfl (ws_ rfl rfl rfl (ws_ rfl rfl rfl ?_)))))))))))))))))))))))))))
 refine ws_ rfl rfl rfl (wo_ (ap_ (b := (vb false)) rfl rfl rfl rfl (wm_ (v := (vb false)) rfl rfl (ws_ rfl rfl rfl (ws_ rfl rfl rfl (ws_ rfl rfl rfl (ws_ rfl rfl rfl (ws_ rfl rfl rfl (wo_ (ap_ (b := (vb false)) rfl rfl rfl rfl (wm_ (v := (vb false)) rfl rfl (ws_ rfl rfl rfl (ws_ rfl rfl rfl (ws_ rfl rfl rfl (ws_ rfl rfl rfl (ws_ rfl rfl rfl (wo_ (ap_ (b := (vb false)) rfl rfl rfl rfl (wa_ (v := (vb false)) rfl rfl (ad_ (ak_ ?_)))))))))))))))))))))
 obtain rfl := sj h
 exact ⟨rfl, (vb false), (bo_ rfl rfl), _, [], (le1.trans le2), I4, rfl, rfl⟩
theorem ul_ {w : World} {S : PH} {Fr : List HP} {a0 : CodeLock} {v0 : Value} {a1 : Clue} {v1 : Value} {r : Bool} (hI : Inv w S (Fr)) (h0_ : RV S v0 a0) (h1_ : RV S v1 a1) (h : jx_ a0 a1 = some r) :
    Calls Tryz.prog 105 [v0, v1].toArray w (bw_ S Fr (Value.bool (r))) := by
 unfold jx_ at h
 have e1 := CodeLock.inv h0_
 subst e1
 obtain ⟨c1, e2, r1⟩ := Clue.inv h1_
 subst e2
 obtain ⟨z1, m1, k1, rfl⟩ := ac_ r1
 refine ao_ (n := 173) Tryz.func105 rfl rfl rfl (ab_ (aa_ (wo_ (bi_ (v := (.agg #[(vi a0.Wheels), (vi a0.Symbols)])) rfl hI rfl (fun g1 w1 I1 => ?_)))))
 obtain ⟨S1, le1, I2, p1⟩ := Inv.boxFreeze (x := a0) I1 (CodeLock.rv (s := a0))
 refine wo_ (bi_ (v := (.agg #[(vi a1.Kind), (vi a1.A), (vi a1.B), (vi a1.N), (vi a1.M), (.slice z1 m1 k1), (vb a1.Not)])) rfl I2 rfl (fun g2 w2 I3 => ?_))
 obtain ⟨S2, le2, I4, p2⟩ := Inv.boxFreeze (x := a1) I3 (Clue.rv (s := a1) (r1.mono le1))
 refine wa_ (v := (vb false)) rfl rfl (ad_ (ab_ ?_))
 obtain ⟨x1, hx1, h⟩ := bnd h
 obtain ⟨x2, hx2, h⟩ := bnd h
 refine bj_ (sps := [spV 9 [] 0 (an_ (pt_ g2) 1), spV 10 [0] 1 (vi a1.A), spV 11 [] 2 (an_ (pt_ g1) 0), spV 12 [2] 3 (vi a0.Wheels), spV 13 [2, 3] 4 (vi (w64 (a0.Wheels - 1))), spV 14 [0, 1, 2, 3, 4] 5 (vb x1), spV 15 [] 6 (an_ (pt_ g2) 2), spV 16 [6] 7 (vi a1.B), spV 17 [] 8 (an_ (pt_ g1) 0), spV 18 [8] 9 (vi a0.Wheels), spV 19 [8, 9] 10 (vi (w64 (a0.Wheels - 1))), spV 20 (lrg 11) 11 (vb x2), spV 5 (lrg 12) 12 (vb x1), spV 6 (lrg 13) 13 (vb x2)]) (tks := []) (O := Fr) rfl (by kernel_rfl) I4 ⟨ob_ rfl fun l A K I => (ae_ rfl db_ (K 3 (ag_ rfl)) ((p2.mono l).at_ I) (fo I)), ob_ rfl fun l A K I => (aj_ rfl sh3 (A.v 0 rfl) (((p2.mono l).at_ I).fld Clue.fld1) (fo I)), ob_ rfl fun l A K I => (ae_ rfl hh_ (K 2 (ag_ rfl)) ((p1.mono (le2.trans l)).at_ I) (fo I)), ob_ rfl fun l A K I => (aj_ rfl sh3 (A.v 0 rfl) (((p1.mono (le2.trans l)).at_ I).fld CodeLock.fld0) (fo I)), ob_ rfl fun l A K I => (eb_ rfl (A.v 1 rfl) rfl (fo I)), fun vs f w U X l A K I => pl_ rfl (cv_ sq_ rfl I (fun Fr_ hF_ => bz_ hF_  hx1) (cf_ (A.v 1 rfl) rfl (A.v 4 rfl)) (fun w11 I13 => (fo I13))), ob_ rfl fun l A K I => (ae_ rfl fv_ (K 3 (ag_ rfl)) ((p2.mono l).at_ I) (fo I)), ob_ rfl fun l A K I => (aj_ rfl sh3 (A.v 0 rfl) (((p2.mono l).at_ I).fld Clue.fld2) (fo I)), ob_ rfl fun l A K I => (ae_ rfl hh_ (K 2 (ag_ rfl)) ((p1.mono (le2.trans l)).at_ I) (fo I)), ob_ rfl fun l A K I => (aj_ rfl sh3 (A.v 0 rfl) (((p1.mono (le2.trans l)).at_ I).fld CodeLock.fld0) (fo I)), ob_ rfl fun l A K I => (eb_ rfl (A.v 1 rfl) rfl (fo I)), fun vs f w U X l A K I => pl_ rfl (cv_ sq_ rfl I (fun Fr_ hF_ => bz_ hF_  hx2) (cf_ (A.v 7 rfl) rfl (A.v 10 rfl)) (fun w18 I20 => (fo I20))), ob_ rfl fun l A K I => (bn_ (v := (vb x1)) rfl (A.v 5 rfl) (fo I)), ?_, trivial⟩ ?_
 ·
  intro vs f w_ U X le A K I
  refine pl_ rfl (bn_ (v := (vb x2)) rfl (A.v 11 rfl) (fo I))
 intro vs15 f w21 S17 ed1 le17 hF1 hK15 hI15
 have e4 : f 2 = (pt_ g1) := (hK15 2 (al_ rfl)).trans rfl
 have e5 : f 3 = (pt_ g2) := (hK15 3 (al_ rfl)).trans rfl
 have I23 : Inv w21 S17 (Fr) := hI15
 have q13 := hF1.v 12 rfl
 have q14 := hF1.v 13 rfl
 refine ab_ (aa_ (wo_ (ae_ rfl tb_ e5 ((p2.mono le17).at_ I23) (wo_ (li_ sh3 (((p2.mono le17).at_ I23).fld Clue.fld0) rfl (wo_ (ae_ rfl mb_ e5 ((p2.mono le17).at_ I23) (wo_ (lb_ sh4 (((p2.mono le17).at_ I23).fld Clue.fld6) rfl (wo_ (hl_ (qs := [(0, #[(vi a1.Kind)]), (6, #[(vb a1.Not)])]) (c := #[(vi a1.Kind), (vi 0), (vi 0), (vi 0), (vi 0), sn, (vb a1.Not)]) rfl st30 ⟨rfl, rfl, ⟨rfl, rfl, trivial⟩⟩ rfl (wo_ (bu_ (z := (.agg #[(vi 0), (vi 0), (vi 0), (vi 0), (vi 0), sn, (vb false)])) rfl I23 zo30 (fun g3 w22 (I24 : Inv w22 S17 (am_ g3 30 #[(vi 0), (vi 0), (vi 0), (vi 0), (vi 0), sn, (vb false)] :: Fr)) => (wo_ (bb_ (v := (.agg #[(vi a1.Kind), (vi 0), (vi 0), (vi 0), (vi 0), sn, (vb a1.Not)])) (cs := #[(vi 0), (vi 0), (vi 0), (vi 0), (vi 0), sn, (vb false)]) lk_ I24 rfl rfl rfl nb rfl (fun w23 (I25 : Inv w23 S17 (am_ g3 30 #[(vi a1.Kind), (vi 0), (vi 0), (vi 0), (vi 0), sn, (vb a1.Not)] :: Fr)) => (ad_ (ab_ (aa_ (wa_ (v := (vb false)) rfl rfl (ad_ (ab_ (ab_ (aa_ (wo_ (ae_ rfl tb_ e5 ((p2.mono le17).at_ I25) (wo_ (li_ sh3 (((p2.mono le17).at_ I25).fld Clue.fld0) rfl (ad_ (au_ (ab_ (aa_ (wo_ (bm_ rfl rfl rfl (wa_ (v := (vb (a1.Kind == 1))) rfl rfl (ad_ ?_)))))))))))))))))))))))))))))))))))))
 rcases ifs h with ⟨hc1, h⟩ | ⟨hc1, h⟩
 ·
  refine ah_ rfl hc1 ?_
  obtain ⟨v1, h2, h⟩ := bnd h
  refine ks_ (fun f w => Inv w S17 (am_ g3 30 #[(vi a1.Kind), (vi 0), (vi 0), (vi 0), (vi 0), sn, (vb a1.Not)] :: Fr) ∧ f 3 = (pt_ g2) ∧ f 7 = (pt_ g3) ∧ f 8 = (vb v1) ∧ f.ds = []) ?_ ?_
  ·
   refine aa_ (wm_ rfl q13 (wm_ (v := (vb x1)) rfl rfl ?_))
   rcases ifs h2 with ⟨hc3, h2⟩ | ⟨hc3, h2⟩
   ·
    refine wk_ rfl rfl hc3 (ae_ rfl ck_ e5 ((p2.mono le17).at_ I25) (wk_ rfl rfl hc3 (li_ sh3 (((p2.mono le17).at_ I25).fld Clue.fld3) rfl (wk_ rfl rfl hc3 (ae_ rfl ru_ e4 ((p1.mono (le2.trans le17)).at_ I25) (wk_ rfl rfl hc3 (li_ sh3 (((p1.mono (le2.trans le17)).at_ I25).fld CodeLock.fld1) rfl (wk_ rfl rfl hc3 (eb_ rfl rfl rfl ?_)))))))))
    obtain ⟨x4, hx4, h2⟩ := bnd h2
    refine wk_ rfl rfl hc3 (cv_ sq_ rfl I25 (fun Fr_ hF_ => bz_ hF_  hx4) (cf_ rfl rfl rfl) (fun w25 I27 => (wo_ (aw_ (a := (vb x4)) rfl rfl hc3 rfl (wa_ (v := (vb x4)) rfl rfl (ad_ ?_))))))
    obtain rfl := sj h2
    exact ⟨I27, e5, rfl, rfl, (ed1.trans rfl)⟩
   refine ws_ rfl rfl hc3 (ws_ rfl rfl hc3 (ws_ rfl rfl hc3 (ws_ rfl rfl hc3 (ws_ rfl rfl hc3 (ws_ rfl rfl hc3 (wo_ (ap_ (b := (vb false)) rfl rfl hc3 rfl (wa_ (v := (vb false)) rfl rfl (ad_ ?_)))))))))
   obtain rfl := sj h2
   exact ⟨I25, e5, rfl, rfl, (ed1.trans rfl)⟩
  rintro f w ⟨I28, e6, e7, e8, ed2⟩
  refine ab_ (aa_ (wo_ (ae_ rfl db_ e6 ((p2.mono le17).at_ I28) (wo_ (li_ sh3 (((p2.mono le17).at_ I28).fld Clue.fld1) rfl (wo_ (av_ (v := (pt_ g3)) rfl db_ e7 rfl (wo_ (bb_ (v := (vi a1.A)) (cs := #[(vi a1.Kind), (vi 0), (vi 0), (vi 0), (vi 0), sn, (vb a1.Not)]) sh3 I28 rfl rfl rfl nb rfl (fun w26 (I29 : Inv w26 S17 (am_ g3 30 #[(vi a1.Kind), (vi a1.A), (vi 0), (vi 0), (vi 0), sn, (vb a1.Not)] :: Fr)) => (ad_ (aa_ (wo_ (ae_ rfl ck_ e6 ((p2.mono le17).at_ I29) (wo_ (li_ sh3 (((p2.mono le17).at_ I29).fld Clue.fld3) rfl (wo_ (av_ (v := (pt_ g3)) rfl ck_ e7 rfl (wo_ (bb_ (v := (vi a1.N)) (cs := #[(vi a1.Kind), (vi a1.A), (vi 0), (vi 0), (vi 0), sn, (vb a1.Not)]) sh3 I29 rfl rfl rfl nb rfl (fun w27 (I30 : Inv w27 S17 (am_ g3 30 #[(vi a1.Kind), (vi a1.A), (vi 0), (vi a1.N), (vi 0), sn, (vb a1.Not)] :: Fr)) => (ad_ (ab_ (aa_ (wm_ rfl e8 (wm_ (v := (vb v1)) rfl rfl ?_))))))))))))))))))))))))))
  rcases ifs h with ⟨hc4, h⟩ | ⟨hc4, h⟩
  ·
   refine wk_ rfl rfl hc4 (ay_ rfl lk_ e6 ((p2.mono le17).at_ I30) (fun u1 hu1 => ?_))
   obtain ⟨c2, e9, r2⟩ := Clue.inv hu1
   subst e9
   obtain ⟨z2, m2, k2, rfl⟩ := ac_ r2
   refine wk_ rfl rfl hc4 (el_ (l := [(vi a1.Kind), (vi a1.A), (vi 0), (vi a1.N), (vi 0), sn, (vb a1.Not)]) rfl lk_ (I30.nth 0 rfl) e7 rfl rfl ?_)
   obtain ⟨x5, hx5, h⟩ := bnd h
   refine wk_ rfl rfl hc4 (cv_ ca41 rfl I30 (fun Fr_ hF_ => ed_ hF_ (Clue.rv (s := a1) r2) (Clue.rv (s := (⟨a1.Kind, a1.A, 0, a1.N, 0, ([] : (List Int)), a1.Not⟩ : Clue)) rv_nil) hx5) (br_ rfl rfl) (fun w28 I31 => (wo_ (aw_ (a := (vb x5)) rfl rfl hc4 rfl (wa_ (v := (vb x5)) rfl rfl (ad_ (ak_ ?_)))))))
   obtain rfl := sj h
   exact ⟨ed2, (vb x5), (bo_ rfl rfl), _, [], ((le1.trans le2).trans le17), (I31).drop, rfl, rfl⟩
  refine ws_ rfl rfl hc4 (ws_ rfl rfl hc4 (ws_ rfl rfl hc4 (wo_ (ap_ (b := (vb false)) rfl rfl hc4 rfl (wa_ (v := (vb false)) rfl rfl (ad_ (ak_ ?_)))))))
  obtain rfl := sj h
  exact ⟨ed2, (vb false), (bo_ rfl rfl), _, [], ((le1.trans le2).trans le17), (I30).drop, rfl, rfl⟩
 refine ai_ rfl hc1 (ab_ (aa_ (wo_ (bm_ rfl rfl rfl (wa_ (v := (vb (a1.Kind == 2))) rfl rfl (ad_ ?_))))))
 rcases ifs h with ⟨hc5, h⟩ | ⟨hc5, h⟩
 ·
  refine ah_ rfl hc5 ?_
  obtain ⟨v2, h5, h⟩ := bnd h
  refine ks_ (fun f w => Inv w S17 (am_ g3 30 #[(vi a1.Kind), (vi 0), (vi 0), (vi 0), (vi 0), sn, (vb a1.Not)] :: Fr) ∧ f 3 = (pt_ g2) ∧ f 7 = (pt_ g3) ∧ f 8 = (vb v2) ∧ f.ds = []) ?_ ?_
  ·
   refine aa_ (wm_ rfl q13 (wm_ (v := (vb x1)) rfl rfl ?_))
   rcases ifs h5 with ⟨hc9, h5⟩ | ⟨hc9, h5⟩
   ·
    refine wk_ rfl rfl hc9 (aq_ rfl q14 (wo_ (aw_ (a := (vb x2)) rfl rfl hc9 rfl (wm_ (v := (vb x2)) rfl rfl ?_))))
    rcases ifs h5 with ⟨hc10, h5⟩ | ⟨hc10, h5⟩
    ·
     refine wk_ rfl rfl hc10 (ae_ rfl db_ e5 ((p2.mono le17).at_ I25) (wk_ rfl rfl hc10 (li_ sh3 (((p2.mono le17).at_ I25).fld Clue.fld1) rfl (wk_ rfl rfl hc10 (ae_ rfl fv_ e5 ((p2.mono le17).at_ I25) (wk_ rfl rfl hc10 (li_ sh3 (((p2.mono le17).at_ I25).fld Clue.fld2) rfl (wk_ rfl rfl hc10 (sw_ rfl rfl rfl (wo_ (aw_ (a := (vb (decide (a1.A ≤ a1.B)))) rfl rfl hc10 rfl (wm_ (v := (vb (decide (a1.A ≤ a1.B)))) rfl rfl ?_))))))))))))
     rcases ifs h5 with ⟨hc11, h5⟩ | ⟨hc11, h5⟩
     ·
      refine wk_ rfl rfl hc11 (ae_ rfl ck_ e5 ((p2.mono le17).at_ I25) (wk_ rfl rfl hc11 (li_ sh3 (((p2.mono le17).at_ I25).fld Clue.fld3) rfl ?_)))
      obtain ⟨x7, hx7, h5⟩ := bnd h5
      refine wk_ rfl rfl hc11 (cv_ sq_ rfl I25 (fun Fr_ hF_ => bz_ hF_  hx7) (cf_ rfl rfl rfl) (fun w30 I33 => (wo_ (aw_ (a := (vb x7)) rfl rfl hc11 rfl (wa_ (v := (vb x7)) rfl rfl (ad_ ?_))))))
      obtain rfl := sj h5
      exact ⟨I33, e5, rfl, rfl, (ed1.trans rfl)⟩
     refine ws_ rfl rfl hc11 (ws_ rfl rfl hc11 (ws_ rfl rfl hc11 (wo_ (ap_ (b := (vb false)) rfl rfl hc11 rfl (wa_ (v := (vb false)) rfl rfl (ad_ ?_))))))
     obtain rfl := sj h5
     exact ⟨I25, e5, rfl, rfl, (ed1.trans rfl)⟩
    refine ws_ rfl rfl hc10 (ws_ rfl rfl hc10 (ws_ rfl rfl hc10 (ws_ rfl rfl hc10 (ws_ rfl rfl hc10 (wo_ (ap_ (b := (vb false)) rfl rfl hc10 rfl (wm_ (v := (vb false)) rfl rfl (ws_ rfl rfl rfl (ws_ rfl rfl rfl (ws_ rfl rfl rfl (wo_ (ap_ (b := (vb false)) rfl rfl rfl rfl (wa_ (v := (vb false)) rfl rfl (ad_ ?_))))))))))))))
    obtain rfl := sj h5
    exact ⟨I25, e5, rfl, rfl, (ed1.trans rfl)⟩
   refine ws_ rfl rfl hc9 (wo_ (ap_ (b := (vb false)) rfl rfl hc9 rfl (wm_ (v := (vb false)) rfl rfl (ws_ rfl rfl rfl (ws_ rfl rfl rfl (ws_ rfl rfl rfl (ws_ rfl rfl rfl (ws_ rfl rfl rfl (wo_ (ap_ (b := (vb false)) rfl rfl rfl rfl (wm_ (v := (vb false)) rfl rfl (ws_ rfl rfl rfl (ws_ rfl rfl rfl (ws_ rfl rfl rfl (wo_ (ap_ (b := (vb false)) rfl rfl rfl rfl (wa_ (v := (vb false)) rfl rfl (ad_ ?_))))))))))))))))))
   obtain rfl := sj h5
   exact ⟨I25, e5, rfl, rfl, (ed1.trans rfl)⟩
  rintro f w ⟨I34, e11, e12, e13, ed3⟩
  refine ab_ (aa_ (wo_ (ae_ rfl db_ e11 ((p2.mono le17).at_ I34) (wo_ (li_ sh3 (((p2.mono le17).at_ I34).fld Clue.fld1) rfl (wo_ (av_ (v := (pt_ g3)) rfl db_ e12 rfl (wo_ (bb_ (v := (vi a1.A)) (cs := #[(vi a1.Kind), (vi 0), (vi 0), (vi 0), (vi 0), sn, (vb a1.Not)]) sh3 I34 rfl rfl rfl nb rfl (fun w31 (I35 : Inv w31 S17 (am_ g3 30 #[(vi a1.Kind), (vi a1.A), (vi 0), (vi 0), (vi 0), sn, (vb a1.Not)] :: Fr)) => (ad_ (ab_ (aa_ (wo_ (ae_ rfl fv_ e11 ((p2.mono le17).at_ I35) (wo_ (li_ sh3 (((p2.mono le17).at_ I35).fld Clue.fld2) rfl (wo_ (av_ (v := (pt_ g3)) rfl fv_ e12 rfl (wo_ (bb_ (v := (vi a1.B)) (cs := #[(vi a1.Kind), (vi a1.A), (vi 0), (vi 0), (vi 0), sn, (vb a1.Not)]) sh3 I35 rfl rfl rfl nb rfl (fun w32 (I36 : Inv w32 S17 (am_ g3 30 #[(vi a1.Kind), (vi a1.A), (vi a1.B), (vi 0), (vi 0), sn, (vb a1.Not)] :: Fr)) => (ad_ (aa_ (wo_ (ae_ rfl ck_ e11 ((p2.mono le17).at_ I36) (wo_ (li_ sh3 (((p2.mono le17).at_ I36).fld Clue.fld3) rfl (wo_ (av_ (v := (pt_ g3)) rfl ck_ e12 rfl (wo_ (bb_ (v := (vi a1.N)) (cs := #[(vi a1.Kind), (vi a1.A), (vi a1.B), (vi 0), (vi 0), sn, (vb a1.Not)]) sh3 I36 rfl rfl rfl nb rfl (fun w33 (I37 : Inv w33 S17 (am_ g3 30 #[(vi a1.Kind), (vi a1.A), (vi a1.B), (vi a1.N), (vi 0), sn, (vb a1.Not)] :: Fr)) => (ad_ (ab_ (aa_ (wm_ rfl e13 (wm_ (v := (vb v2)) rfl rfl ?_))))))))))))))))))))))))))))))))))))))
  rcases ifs h with ⟨hc12, h⟩ | ⟨hc12, h⟩
  ·
   refine wk_ rfl rfl hc12 (ay_ rfl lk_ e11 ((p2.mono le17).at_ I37) (fun u2 hu2 => ?_))
   obtain ⟨c3, e14, r3⟩ := Clue.inv hu2
   subst e14
   obtain ⟨z3, m3, k3, rfl⟩ := ac_ r3
   refine wk_ rfl rfl hc12 (el_ (l := [(vi a1.Kind), (vi a1.A), (vi a1.B), (vi a1.N), (vi 0), sn, (vb a1.Not)]) rfl lk_ (I37.nth 0 rfl) e12 rfl rfl ?_)
   obtain ⟨x8, hx8, h⟩ := bnd h
   refine wk_ rfl rfl hc12 (cv_ ca41 rfl I37 (fun Fr_ hF_ => ed_ hF_ (Clue.rv (s := a1) r3) (Clue.rv (s := (⟨a1.Kind, a1.A, a1.B, a1.N, 0, ([] : (List Int)), a1.Not⟩ : Clue)) rv_nil) hx8) (br_ rfl rfl) (fun w34 I38 => (wo_ (aw_ (a := (vb x8)) rfl rfl hc12 rfl (wa_ (v := (vb x8)) rfl rfl (ad_ (ak_ ?_)))))))
   obtain rfl := sj h
   exact ⟨ed3, (vb x8), (bo_ rfl rfl), _, [], ((le1.trans le2).trans le17), (I38).drop, rfl, rfl⟩
  refine ws_ rfl rfl hc12 (ws_ rfl rfl hc12 (ws_ rfl rfl hc12 (wo_ (ap_ (b := (vb false)) rfl rfl hc12 rfl (wa_ (v := (vb false)) rfl rfl (ad_ (ak_ ?_)))))))
  obtain rfl := sj h
  exact ⟨ed3, (vb false), (bo_ rfl rfl), _, [], ((le1.trans le2).trans le17), (I37).drop, rfl, rfl⟩
 refine ai_ rfl hc5 ?_
 obtain ⟨v3, h8, h⟩ := bnd h
 refine ks_ (fun f w => Inv w S17 (am_ g3 30 #[(vi a1.Kind), (vi 0), (vi 0), (vi 0), (vi 0), sn, (vb a1.Not)] :: Fr) ∧ f 2 = (pt_ g1) ∧ f 3 = (pt_ g2) ∧ f 5 = (vb x1) ∧ f 6 = (vb x2) ∧ f 7 = (pt_ g3) ∧ f 8 = (vb false) ∧ f 27 = (vi a1.Kind) ∧ f 72 = (vb v3) ∧ f.ds = []) ?_ ?_
 ·
  refine ab_ (aa_ (wo_ (bm_ rfl rfl rfl (wa_ (v := (vb (a1.Kind == 3))) rfl rfl (ad_ ?_)))))
  rcases ifs h8 with ⟨hc14, h8⟩ | ⟨hc14, h8⟩
  ·
   refine ah_ rfl hc14 (ar_ ?_)
   obtain rfl := sj h8
   exact ⟨I25, e4, e5, q13, q14, rfl, rfl, rfl, rfl, (ed1.trans rfl)⟩
  refine ai_ rfl hc14 (aa_ (wo_ (bm_ rfl rfl rfl (wa_ (v := (vb (a1.Kind == 4))) rfl rfl (ad_ ?_)))))
  obtain rfl := sj h8
  exact ⟨I25, e4, e5, q13, q14, rfl, rfl, rfl, rfl, (ed1.trans rfl)⟩
 rintro f w ⟨I39, e16, e17, e18, e19, e20, e21, e22, e23, ed4⟩
 rcases ifs h with ⟨hc15, h⟩ | ⟨hc15, h⟩
 ·
  refine ah_ e23 hc15 ?_
  obtain ⟨v4, h11, h⟩ := bnd h
  refine ks_ (fun f w => Inv w S17 (am_ g3 30 #[(vi a1.Kind), (vi 0), (vi 0), (vi 0), (vi 0), sn, (vb a1.Not)] :: Fr) ∧ f 3 = (pt_ g2) ∧ f 7 = (pt_ g3) ∧ f 8 = (vb v4) ∧ f.ds = []) ?_ ?_
  ·
   refine aa_ (wm_ rfl e18 (wm_ (v := (vb x1)) rfl rfl ?_))
   rcases ifs h11 with ⟨hc18, h11⟩ | ⟨hc18, h11⟩
   ·
    refine wk_ rfl rfl hc18 (aq_ rfl e19 (wo_ (aw_ (a := (vb x2)) rfl rfl hc18 rfl (wm_ (v := (vb x2)) rfl rfl ?_))))
    rcases ifs h11 with ⟨hc19, h11⟩ | ⟨hc19, h11⟩
    ·
     refine wk_ rfl rfl hc19 (ae_ rfl db_ e17 ((p2.mono le17).at_ I39) (wk_ rfl rfl hc19 (li_ sh3 (((p2.mono le17).at_ I39).fld Clue.fld1) rfl (wk_ rfl rfl hc19 (ae_ rfl fv_ e17 ((p2.mono le17).at_ I39) (wk_ rfl rfl hc19 (li_ sh3 (((p2.mono le17).at_ I39).fld Clue.fld2) rfl (wk_ rfl rfl hc19 (cd_ rfl rfl rfl (wo_ (aw_ (a := (vb (a1.A != a1.B))) rfl rfl hc19 rfl (wa_ (v := (vb (a1.A != a1.B))) rfl rfl (ad_ ?_)))))))))))))
     obtain rfl := sj h11
     exact ⟨I39, e17, e20, rfl, ed4⟩
    refine ws_ rfl rfl hc19 (ws_ rfl rfl hc19 (ws_ rfl rfl hc19 (ws_ rfl rfl hc19 (ws_ rfl rfl hc19 (wo_ (ap_ (b := (vb false)) rfl rfl hc19 rfl (wa_ (v := (vb false)) rfl rfl (ad_ ?_))))))))
    obtain rfl := sj h11
    exact ⟨I39, e17, e20, rfl, ed4⟩
   refine ws_ rfl rfl hc18 (wo_ (ap_ (b := (vb false)) rfl rfl hc18 rfl (wm_ (v := (vb false)) rfl rfl (ws_ rfl rfl rfl (ws_ rfl rfl rfl (ws_ rfl rfl rfl (ws_ rfl rfl rfl (ws_ rfl rfl rfl (wo_ (ap_ (b := (vb false)) rfl rfl rfl rfl (wa_ (v := (vb false)) rfl rfl (ad_ ?_))))))))))))
   obtain rfl := sj h11
   exact ⟨I39, e17, e20, rfl, ed4⟩
  rintro f w ⟨I40, e24, e25, e26, ed5⟩
  refine ab_ (aa_ (wo_ (ae_ rfl db_ e24 ((p2.mono le17).at_ I40) (wo_ (li_ sh3 (((p2.mono le17).at_ I40).fld Clue.fld1) rfl (wo_ (av_ (v := (pt_ g3)) rfl db_ e25 rfl (wo_ (bb_ (v := (vi a1.A)) (cs := #[(vi a1.Kind), (vi 0), (vi 0), (vi 0), (vi 0), sn, (vb a1.Not)]) sh3 I40 rfl rfl rfl nb rfl (fun w35 (I41 : Inv w35 S17 (am_ g3 30 #[(vi a1.Kind), (vi a1.A), (vi 0), (vi 0), (vi 0), sn, (vb a1.Not)] :: Fr)) => (ad_ (aa_ (wo_ (ae_ rfl fv_ e24 ((p2.mono le17).at_ I41) (wo_ (li_ sh3 (((p2.mono le17).at_ I41).fld Clue.fld2) rfl (wo_ (av_ (v := (pt_ g3)) rfl fv_ e25 rfl (wo_ (bb_ (v := (vi a1.B)) (cs := #[(vi a1.Kind), (vi a1.A), (vi 0), (vi 0), (vi 0), sn, (vb a1.Not)]) sh3 I41 rfl rfl rfl nb rfl (fun w36 (I42 : Inv w36 S17 (am_ g3 30 #[(vi a1.Kind), (vi a1.A), (vi a1.B), (vi 0), (vi 0), sn, (vb a1.Not)] :: Fr)) => (ad_ (ab_ (aa_ (wm_ rfl e26 (wm_ (v := (vb v4)) rfl rfl ?_))))))))))))))))))))))))))
  rcases ifs h with ⟨hc20, h⟩ | ⟨hc20, h⟩
  ·
   refine wk_ rfl rfl hc20 (ay_ rfl lk_ e24 ((p2.mono le17).at_ I42) (fun u3 hu3 => ?_))
   obtain ⟨c4, e27, r4⟩ := Clue.inv hu3
   subst e27
   obtain ⟨z4, m4, k4, rfl⟩ := ac_ r4
   refine wk_ rfl rfl hc20 (el_ (l := [(vi a1.Kind), (vi a1.A), (vi a1.B), (vi 0), (vi 0), sn, (vb a1.Not)]) rfl lk_ (I42.nth 0 rfl) e25 rfl rfl ?_)
   obtain ⟨x9, hx9, h⟩ := bnd h
   refine wk_ rfl rfl hc20 (cv_ ca41 rfl I42 (fun Fr_ hF_ => ed_ hF_ (Clue.rv (s := a1) r4) (Clue.rv (s := (⟨a1.Kind, a1.A, a1.B, 0, 0, ([] : (List Int)), a1.Not⟩ : Clue)) rv_nil) hx9) (br_ rfl rfl) (fun w37 I43 => (wo_ (aw_ (a := (vb x9)) rfl rfl hc20 rfl (wa_ (v := (vb x9)) rfl rfl (ad_ (ak_ ?_)))))))
   obtain rfl := sj h
   exact ⟨ed5, (vb x9), (bo_ rfl rfl), _, [], ((le1.trans le2).trans le17), (I43).drop, rfl, rfl⟩
  refine ws_ rfl rfl hc20 (ws_ rfl rfl hc20 (ws_ rfl rfl hc20 (wo_ (ap_ (b := (vb false)) rfl rfl hc20 rfl (wa_ (v := (vb false)) rfl rfl (ad_ (ak_ ?_)))))))
  obtain rfl := sj h
  exact ⟨ed5, (vb false), (bo_ rfl rfl), _, [], ((le1.trans le2).trans le17), (I42).drop, rfl, rfl⟩
 refine ai_ e23 hc15 (ab_ (aa_ (wo_ (bm_ rfl e22 rfl (wa_ (v := (vb (a1.Kind == 5))) rfl rfl (ad_ ?_))))))
 rcases ifs h with ⟨hc21, h⟩ | ⟨hc21, h⟩
 ·
  refine ah_ rfl hc21 ?_
  obtain ⟨v5, h14, h⟩ := bnd h
  refine ks_ (fun f w => Inv w S17 (am_ g3 30 #[(vi a1.Kind), (vi 0), (vi 0), (vi 0), (vi 0), sn, (vb a1.Not)] :: Fr) ∧ f 3 = (pt_ g2) ∧ f 7 = (pt_ g3) ∧ f 8 = (vb v5) ∧ f.ds = []) ?_ ?_
  ·
   refine aa_ (wo_ (ae_ rfl ck_ e17 ((p2.mono le17).at_ I39) (wo_ (li_ sh3 (((p2.mono le17).at_ I39).fld Clue.fld3) rfl (wo_ (ae_ rfl ru_ e16 ((p1.mono (le2.trans le17)).at_ I39) (wo_ (li_ sh3 (((p1.mono (le2.trans le17)).at_ I39).fld CodeLock.fld1) rfl (wo_ (eb_ rfl rfl rfl ?_))))))))))
   obtain ⟨x12, hx12, h14⟩ := bnd h14
   refine wo_ (cv_ sq_ rfl I39 (fun Fr_ hF_ => bz_ hF_  hx12) (cf_ rfl rfl rfl) (fun w40 I46 => (wm_ (v := (vb x12)) rfl rfl ?_)))
   rcases ifs h14 with ⟨hc23, h14⟩ | ⟨hc23, h14⟩
   ·
    refine wk_ rfl rfl hc23 (ae_ rfl fd_ e17 ((p2.mono le17).at_ I46) (wk_ rfl rfl hc23 (li_ sh3 (((p2.mono le17).at_ I46).fld Clue.fld4) rfl (wk_ rfl rfl hc23 (ae_ rfl hh_ e16 ((p1.mono (le2.trans le17)).at_ I46) (wk_ rfl rfl hc23 (li_ sh3 (((p1.mono (le2.trans le17)).at_ I46).fld CodeLock.fld0) rfl ?_)))))))
    obtain ⟨x13, hx13, h14⟩ := bnd h14
    refine wk_ rfl rfl hc23 (cv_ sq_ rfl I46 (fun Fr_ hF_ => bz_ hF_  hx13) (cf_ rfl rfl rfl) (fun w41 I47 => (wo_ (aw_ (a := (vb x13)) rfl rfl hc23 rfl (wa_ (v := (vb x13)) rfl rfl (ad_ ?_))))))
    obtain rfl := sj h14
    exact ⟨I47, e17, e20, rfl, ed4⟩
   refine ws_ rfl rfl hc23 (ws_ rfl rfl hc23 (ws_ rfl rfl hc23 (ws_ rfl rfl hc23 (ws_ rfl rfl hc23 (wo_ (ap_ (b := (vb false)) rfl rfl hc23 rfl (wa_ (v := (vb false)) rfl rfl (ad_ ?_))))))))
   obtain rfl := sj h14
   exact ⟨I46, e17, e20, rfl, ed4⟩
  rintro f w ⟨I48, e29, e30, e31, ed6⟩
  refine ab_ (aa_ (wo_ (ae_ rfl ck_ e29 ((p2.mono le17).at_ I48) (wo_ (li_ sh3 (((p2.mono le17).at_ I48).fld Clue.fld3) rfl (wo_ (av_ (v := (pt_ g3)) rfl ck_ e30 rfl (wo_ (bb_ (v := (vi a1.N)) (cs := #[(vi a1.Kind), (vi 0), (vi 0), (vi 0), (vi 0), sn, (vb a1.Not)]) sh3 I48 rfl rfl rfl nb rfl (fun w42 (I49 : Inv w42 S17 (am_ g3 30 #[(vi a1.Kind), (vi 0), (vi 0), (vi a1.N), (vi 0), sn, (vb a1.Not)] :: Fr)) => (ad_ (aa_ (wo_ (ae_ rfl fd_ e29 ((p2.mono le17).at_ I49) (wo_ (li_ sh3 (((p2.mono le17).at_ I49).fld Clue.fld4) rfl (wo_ (av_ (v := (pt_ g3)) rfl fd_ e30 rfl (wo_ (bb_ (v := (vi a1.M)) (cs := #[(vi a1.Kind), (vi 0), (vi 0), (vi a1.N), (vi 0), sn, (vb a1.Not)]) sh3 I49 rfl rfl rfl nb rfl (fun w43 (I50 : Inv w43 S17 (am_ g3 30 #[(vi a1.Kind), (vi 0), (vi 0), (vi a1.N), (vi a1.M), sn, (vb a1.Not)] :: Fr)) => (ad_ (ab_ (aa_ (wm_ rfl e31 (wm_ (v := (vb v5)) rfl rfl ?_))))))))))))))))))))))))))
  rcases ifs h with ⟨hc24, h⟩ | ⟨hc24, h⟩
  ·
   refine wk_ rfl rfl hc24 (ay_ rfl lk_ e29 ((p2.mono le17).at_ I50) (fun u4 hu4 => ?_))
   obtain ⟨c5, e32, r5⟩ := Clue.inv hu4
   subst e32
   obtain ⟨z5, m5, k5, rfl⟩ := ac_ r5
   refine wk_ rfl rfl hc24 (el_ (l := [(vi a1.Kind), (vi 0), (vi 0), (vi a1.N), (vi a1.M), sn, (vb a1.Not)]) rfl lk_ (I50.nth 0 rfl) e30 rfl rfl ?_)
   obtain ⟨x14, hx14, h⟩ := bnd h
   refine wk_ rfl rfl hc24 (cv_ ca41 rfl I50 (fun Fr_ hF_ => ed_ hF_ (Clue.rv (s := a1) r5) (Clue.rv (s := (⟨a1.Kind, 0, 0, a1.N, a1.M, ([] : (List Int)), a1.Not⟩ : Clue)) rv_nil) hx14) (br_ rfl rfl) (fun w44 I51 => (wo_ (aw_ (a := (vb x14)) rfl rfl hc24 rfl (wa_ (v := (vb x14)) rfl rfl (ad_ (ak_ ?_)))))))
   obtain rfl := sj h
   exact ⟨ed6, (vb x14), (bo_ rfl rfl), _, [], ((le1.trans le2).trans le17), (I51).drop, rfl, rfl⟩
  refine ws_ rfl rfl hc24 (ws_ rfl rfl hc24 (ws_ rfl rfl hc24 (wo_ (ap_ (b := (vb false)) rfl rfl hc24 rfl (wa_ (v := (vb false)) rfl rfl (ad_ (ak_ ?_)))))))
  obtain rfl := sj h
  exact ⟨ed6, (vb false), (bo_ rfl rfl), _, [], ((le1.trans le2).trans le17), (I50).drop, rfl, rfl⟩
 refine ai_ rfl hc21 (ab_ (aa_ (wo_ (bm_ rfl e22 rfl (wa_ (v := (vb (a1.Kind == 6))) rfl rfl (ad_ ?_))))))
 rcases ifs h with ⟨hc25, h⟩ | ⟨hc25, h⟩
 ·
  refine ah_ rfl hc25 ?_
  obtain ⟨v6, h17, h⟩ := bnd h
  refine ks_ (fun f w => Inv w S17 (am_ g3 30 #[(vi a1.Kind), (vi 0), (vi 0), (vi 0), (vi 0), sn, (vb a1.Not)] :: Fr) ∧ f 3 = (pt_ g2) ∧ f 7 = (pt_ g3) ∧ f 8 = (vb v6) ∧ f.ds = []) ?_ ?_
  ·
   refine aa_ (wo_ (ay_ rfl im_ e16 ((p1.mono (le2.trans le17)).at_ I39) (fun u7 hu7 => ?_)))
   have e36 := CodeLock.inv hu7
   subst e36
   refine wo_ (ae_ rfl kf_ e17 ((p2.mono le17).at_ I39) (wo_ (ld_ fn_ (((p2.mono le17).at_ I39).fld Clue.fld5) rfl (fun u8 hu8 => ?_))))
   obtain ⟨z7, m7, k7, rfl⟩ := ac_ hu8
   obtain ⟨x18, hx18, h17⟩ := bnd h17
   refine wo_ (cv_ ca90 rfl I39 (fun Fr_ hF_ => od_ hF_ (CodeLock.rv (s := a0)) hu8 hx18) (br_ rfl rfl) (fun w48 I55 => (wm_ (v := (vb x18)) rfl rfl ?_)))
   rcases ifs h17 with ⟨hc28, h17⟩ | ⟨hc28, h17⟩
   ·
    refine wk_ rfl rfl hc28 (ae_ rfl ck_ e17 ((p2.mono le17).at_ I55) (wk_ rfl rfl hc28 (li_ sh3 (((p2.mono le17).at_ I55).fld Clue.fld3) rfl (wk_ rfl rfl hc28 (ae_ rfl hh_ e16 ((p1.mono (le2.trans le17)).at_ I55) (wk_ rfl rfl hc28 (li_ sh3 (((p1.mono (le2.trans le17)).at_ I55).fld CodeLock.fld0) rfl ?_)))))))
    obtain ⟨x19, hx19, h17⟩ := bnd h17
    refine wk_ rfl rfl hc28 (cv_ sq_ rfl I55 (fun Fr_ hF_ => bz_ hF_  hx19) (cf_ rfl rfl rfl) (fun w49 I56 => (wo_ (aw_ (a := (vb x19)) rfl rfl hc28 rfl (wm_ (v := (vb x19)) rfl rfl ?_)))))
    rcases ifs h17 with ⟨hc29, h17⟩ | ⟨hc29, h17⟩
    ·
     refine wk_ rfl rfl hc29 (ae_ rfl fd_ e17 ((p2.mono le17).at_ I56) (wk_ rfl rfl hc29 (li_ sh3 (((p2.mono le17).at_ I56).fld Clue.fld4) rfl (wk_ rfl rfl hc29 (ae_ rfl hh_ e16 ((p1.mono (le2.trans le17)).at_ I56) (wk_ rfl rfl hc29 (li_ sh3 (((p1.mono (le2.trans le17)).at_ I56).fld CodeLock.fld0) rfl ?_)))))))
     obtain ⟨x20, hx20, h17⟩ := bnd h17
     refine wk_ rfl rfl hc29 (cv_ sq_ rfl I56 (fun Fr_ hF_ => bz_ hF_  hx20) (cf_ rfl rfl rfl) (fun w50 I57 => (wo_ (aw_ (a := (vb x20)) rfl rfl hc29 rfl (wa_ (v := (vb x20)) rfl rfl (ad_ ?_))))))
     obtain rfl := sj h17
     exact ⟨I57, e17, e20, rfl, ed4⟩
    refine ws_ rfl rfl hc29 (ws_ rfl rfl hc29 (ws_ rfl rfl hc29 (ws_ rfl rfl hc29 (ws_ rfl rfl hc29 (wo_ (ap_ (b := (vb false)) rfl rfl hc29 rfl (wa_ (v := (vb false)) rfl rfl (ad_ ?_))))))))
    obtain rfl := sj h17
    exact ⟨I56, e17, e20, rfl, ed4⟩
   refine ws_ rfl rfl hc28 (ws_ rfl rfl hc28 (ws_ rfl rfl hc28 (ws_ rfl rfl hc28 (ws_ rfl rfl hc28 (wo_ (ap_ (b := (vb false)) rfl rfl hc28 rfl (wm_ (v := (vb false)) rfl rfl (ws_ rfl rfl rfl (ws_ rfl rfl rfl (ws_ rfl rfl rfl (ws_ rfl rfl rfl (ws_ rfl rfl rfl (wo_ (ap_ (b := (vb false)) rfl rfl rfl rfl (wa_ (v := (vb false)) rfl rfl (ad_ ?_))))))))))))))))
   obtain rfl := sj h17
   exact ⟨I55, e17, e20, rfl, ed4⟩
  rintro f w ⟨I58, e38, e39, e40, ed7⟩
  refine ab_ (aa_ (wo_ (ae_ rfl ck_ e38 ((p2.mono le17).at_ I58) (wo_ (li_ sh3 (((p2.mono le17).at_ I58).fld Clue.fld3) rfl (wo_ (av_ (v := (pt_ g3)) rfl ck_ e39 rfl (wo_ (bb_ (v := (vi a1.N)) (cs := #[(vi a1.Kind), (vi 0), (vi 0), (vi 0), (vi 0), sn, (vb a1.Not)]) sh3 I58 rfl rfl rfl nb rfl (fun w51 (I59 : Inv w51 S17 (am_ g3 30 #[(vi a1.Kind), (vi 0), (vi 0), (vi a1.N), (vi 0), sn, (vb a1.Not)] :: Fr)) => (ad_ (ab_ (aa_ (wo_ (ae_ rfl fd_ e38 ((p2.mono le17).at_ I59) (wo_ (li_ sh3 (((p2.mono le17).at_ I59).fld Clue.fld4) rfl (wo_ (av_ (v := (pt_ g3)) rfl fd_ e39 rfl (wo_ (bb_ (v := (vi a1.M)) (cs := #[(vi a1.Kind), (vi 0), (vi 0), (vi a1.N), (vi 0), sn, (vb a1.Not)]) sh3 I59 rfl rfl rfl nb rfl (fun w52 (I60 : Inv w52 S17 (am_ g3 30 #[(vi a1.Kind), (vi 0), (vi 0), (vi a1.N), (vi a1.M), sn, (vb a1.Not)] :: Fr)) => (ad_ (aa_ (wo_ (ae_ rfl kf_ e38 ((p2.mono le17).at_ I60) (wo_ (ld_ fn_ (((p2.mono le17).at_ I60).fld Clue.fld5) rfl (fun u9 hu9 => ?_)))))))))))))))))))))))))))))
  obtain ⟨z8, m8, k8, rfl⟩ := ac_ hu9
  refine wo_ (av_ (v := (pt_ g3)) rfl kf_ e39 rfl (wo_ (bb_ (v := (.slice z8 m8 k8)) (cs := #[(vi a1.Kind), (vi 0), (vi 0), (vi a1.N), (vi a1.M), sn, (vb a1.Not)]) fn_ I60 rfl rfl rfl nb rfl (fun w53 (I61 : Inv w53 S17 (am_ g3 30 #[(vi a1.Kind), (vi 0), (vi 0), (vi a1.N), (vi a1.M), (.slice z8 m8 k8), (vb a1.Not)] :: Fr)) => (ad_ (ab_ (aa_ (wm_ rfl e40 (wm_ (v := (vb v6)) rfl rfl ?_)))))))))
  rcases ifs h with ⟨hc30, h⟩ | ⟨hc30, h⟩
  ·
   refine wk_ rfl rfl hc30 (ay_ rfl lk_ e38 ((p2.mono le17).at_ I61) (fun u10 hu10 => ?_))
   obtain ⟨c6, e42, r6⟩ := Clue.inv hu10
   subst e42
   obtain ⟨z9, m9, k9, rfl⟩ := ac_ r6
   refine wk_ rfl rfl hc30 (el_ (l := [(vi a1.Kind), (vi 0), (vi 0), (vi a1.N), (vi a1.M), (.slice z8 m8 k8), (vb a1.Not)]) rfl lk_ (I61.nth 0 rfl) e39 rfl rfl ?_)
   obtain ⟨x21, hx21, h⟩ := bnd h
   refine wk_ rfl rfl hc30 (cv_ ca41 rfl I61 (fun Fr_ hF_ => ed_ hF_ (Clue.rv (s := a1) r6) (Clue.rv (s := (⟨a1.Kind, 0, 0, a1.N, a1.M, a1.Guess, a1.Not⟩ : Clue)) hu9) hx21) (br_ rfl rfl) (fun w54 I62 => (wo_ (aw_ (a := (vb x21)) rfl rfl hc30 rfl (wa_ (v := (vb x21)) rfl rfl (ad_ (ak_ ?_)))))))
   obtain rfl := sj h
   exact ⟨ed7, (vb x21), (bo_ rfl rfl), _, [], ((le1.trans le2).trans le17), (I62).drop, rfl, rfl⟩
  refine ws_ rfl rfl hc30 (ws_ rfl rfl hc30 (ws_ rfl rfl hc30 (wo_ (ap_ (b := (vb false)) rfl rfl hc30 rfl (wa_ (v := (vb false)) rfl rfl (ad_ (ak_ ?_)))))))
  obtain rfl := sj h
  exact ⟨ed7, (vb false), (bo_ rfl rfl), _, [], ((le1.trans le2).trans le17), (I61).drop, rfl, rfl⟩
 refine ai_ rfl hc25 (ab_ (aa_ (wo_ (bm_ rfl e22 rfl (wa_ (v := (vb (a1.Kind == 7))) rfl rfl (ad_ ?_))))))
 rcases ifs h with ⟨hc31, h⟩ | ⟨hc31, h⟩
 ·
  refine ah_ rfl hc31 ?_
  obtain ⟨v7, h20, h⟩ := bnd h
  refine ks_ (fun f w => Inv w S17 (am_ g3 30 #[(vi a1.Kind), (vi 0), (vi 0), (vi 0), (vi 0), sn, (vb a1.Not)] :: Fr) ∧ f 3 = (pt_ g2) ∧ f 7 = (pt_ g3) ∧ f 8 = (vb v7) ∧ f.ds = []) ?_ ?_
  ·
   refine aa_ (wm_ rfl e18 (wm_ (v := (vb x1)) rfl rfl ?_))
   rcases ifs h20 with ⟨hc34, h20⟩ | ⟨hc34, h20⟩
   ·
    refine wk_ rfl rfl hc34 (ae_ rfl ck_ e17 ((p2.mono le17).at_ I39) (wk_ rfl rfl hc34 (li_ sh3 (((p2.mono le17).at_ I39).fld Clue.fld3) rfl ?_)))
    obtain ⟨x24, hx24, h20⟩ := bnd h20
    refine wk_ rfl rfl hc34 (cv_ sq_ rfl I39 (fun Fr_ hF_ => bz_ hF_  hx24) (cf_ rfl rfl rfl) (fun w57 I65 => (wo_ (aw_ (a := (vb x24)) rfl rfl hc34 rfl (wm_ (v := (vb x24)) rfl rfl ?_)))))
    rcases ifs h20 with ⟨hc35, h20⟩ | ⟨hc35, h20⟩
    ·
     refine wk_ rfl rfl hc35 (ae_ rfl fd_ e17 ((p2.mono le17).at_ I65) (wk_ rfl rfl hc35 (li_ sh3 (((p2.mono le17).at_ I65).fld Clue.fld4) rfl (wk_ rfl rfl hc35 (ae_ rfl ck_ e17 ((p2.mono le17).at_ I65) (wk_ rfl rfl hc35 (li_ sh3 (((p2.mono le17).at_ I65).fld Clue.fld3) rfl (wk_ rfl rfl hc35 (eb_ rfl rfl rfl ?_)))))))))
     obtain ⟨x25, hx25, h20⟩ := bnd h20
     refine wk_ rfl rfl hc35 (cv_ sq_ rfl I65 (fun Fr_ hF_ => bz_ hF_  hx25) (cf_ rfl rfl rfl) (fun w58 I66 => (wo_ (aw_ (a := (vb x25)) rfl rfl hc35 rfl (wa_ (v := (vb x25)) rfl rfl (ad_ ?_))))))
     obtain rfl := sj h20
     exact ⟨I66, e17, e20, rfl, ed4⟩
    refine ws_ rfl rfl hc35 (ws_ rfl rfl hc35 (ws_ rfl rfl hc35 (ws_ rfl rfl hc35 (ws_ rfl rfl hc35 (ws_ rfl rfl hc35 (wo_ (ap_ (b := (vb false)) rfl rfl hc35 rfl (wa_ (v := (vb false)) rfl rfl (ad_ ?_)))))))))
    obtain rfl := sj h20
    exact ⟨I65, e17, e20, rfl, ed4⟩
   refine ws_ rfl rfl hc34 (ws_ rfl rfl hc34 (ws_ rfl rfl hc34 (wo_ (ap_ (b := (vb false)) rfl rfl hc34 rfl (wm_ (v := (vb false)) rfl rfl (ws_ rfl rfl rfl (ws_ rfl rfl rfl (ws_ rfl rfl rfl (ws_ rfl rfl rfl (ws_ rfl rfl rfl (ws_ rfl rfl rfl (wo_ (ap_ (b := (vb false)) rfl rfl rfl rfl (wa_ (v := (vb false)) rfl rfl (ad_ ?_)))))))))))))))
   obtain rfl := sj h20
   exact ⟨I39, e17, e20, rfl, ed4⟩
  rintro f w ⟨I67, e44, e45, e46, ed8⟩
  refine ab_ (aa_ (wo_ (ae_ rfl db_ e44 ((p2.mono le17).at_ I67) (wo_ (li_ sh3 (((p2.mono le17).at_ I67).fld Clue.fld1) rfl (wo_ (av_ (v := (pt_ g3)) rfl db_ e45 rfl (wo_ (bb_ (v := (vi a1.A)) (cs := #[(vi a1.Kind), (vi 0), (vi 0), (vi 0), (vi 0), sn, (vb a1.Not)]) sh3 I67 rfl rfl rfl nb rfl (fun w59 (I68 : Inv w59 S17 (am_ g3 30 #[(vi a1.Kind), (vi a1.A), (vi 0), (vi 0), (vi 0), sn, (vb a1.Not)] :: Fr)) => (ad_ (ab_ (aa_ (wo_ (ae_ rfl ck_ e44 ((p2.mono le17).at_ I68) (wo_ (li_ sh3 (((p2.mono le17).at_ I68).fld Clue.fld3) rfl (wo_ (av_ (v := (pt_ g3)) rfl ck_ e45 rfl (wo_ (bb_ (v := (vi a1.N)) (cs := #[(vi a1.Kind), (vi a1.A), (vi 0), (vi 0), (vi 0), sn, (vb a1.Not)]) sh3 I68 rfl rfl rfl nb rfl (fun w60 (I69 : Inv w60 S17 (am_ g3 30 #[(vi a1.Kind), (vi a1.A), (vi 0), (vi a1.N), (vi 0), sn, (vb a1.Not)] :: Fr)) => (ad_ (aa_ (wo_ (ae_ rfl fd_ e44 ((p2.mono le17).at_ I69) (wo_ (li_ sh3 (((p2.mono le17).at_ I69).fld Clue.fld4) rfl (wo_ (av_ (v := (pt_ g3)) rfl fd_ e45 rfl (wo_ (bb_ (v := (vi a1.M)) (cs := #[(vi a1.Kind), (vi a1.A), (vi 0), (vi a1.N), (vi 0), sn, (vb a1.Not)]) sh3 I69 rfl rfl rfl nb rfl (fun w61 (I70 : Inv w61 S17 (am_ g3 30 #[(vi a1.Kind), (vi a1.A), (vi 0), (vi a1.N), (vi a1.M), sn, (vb a1.Not)] :: Fr)) => (ad_ (ab_ (aa_ (wm_ rfl e46 (wm_ (v := (vb v7)) rfl rfl ?_))))))))))))))))))))))))))))))))))))))
  rcases ifs h with ⟨hc36, h⟩ | ⟨hc36, h⟩
  ·
   refine wk_ rfl rfl hc36 (ay_ rfl lk_ e44 ((p2.mono le17).at_ I70) (fun u11 hu11 => ?_))
   obtain ⟨c7, e47, r7⟩ := Clue.inv hu11
   subst e47
   obtain ⟨z10, m10, k10, rfl⟩ := ac_ r7
   refine wk_ rfl rfl hc36 (el_ (l := [(vi a1.Kind), (vi a1.A), (vi 0), (vi a1.N), (vi a1.M), sn, (vb a1.Not)]) rfl lk_ (I70.nth 0 rfl) e45 rfl rfl ?_)
   obtain ⟨x26, hx26, h⟩ := bnd h
   refine wk_ rfl rfl hc36 (cv_ ca41 rfl I70 (fun Fr_ hF_ => ed_ hF_ (Clue.rv (s := a1) r7) (Clue.rv (s := (⟨a1.Kind, a1.A, 0, a1.N, a1.M, ([] : (List Int)), a1.Not⟩ : Clue)) rv_nil) hx26) (br_ rfl rfl) (fun w62 I71 => (wo_ (aw_ (a := (vb x26)) rfl rfl hc36 rfl (wa_ (v := (vb x26)) rfl rfl (ad_ (ak_ ?_)))))))
   obtain rfl := sj h
   exact ⟨ed8, (vb x26), (bo_ rfl rfl), _, [], ((le1.trans le2).trans le17), (I71).drop, rfl, rfl⟩
  refine ws_ rfl rfl hc36 (ws_ rfl rfl hc36 (ws_ rfl rfl hc36 (wo_ (ap_ (b := (vb false)) rfl rfl hc36 rfl (wa_ (v := (vb false)) rfl rfl (ad_ (ak_ ?_)))))))
  obtain rfl := sj h
  exact ⟨ed8, (vb false), (bo_ rfl rfl), _, [], ((le1.trans le2).trans le17), (I70).drop, rfl, rfl⟩
 refine ai_ rfl hc31 (ar_ (ab_ (aa_ (wm_ rfl e21 (wm_ (v := (vb false)) rfl rfl (ws_ rfl rfl rfl (ws_ rfl rfl rfl (ws_ rfl rfl rfl (wo_ (ap_ (b := (vb false)) rfl rfl rfl rfl (wa_ (v := (vb false)) rfl rfl (ad_ (ak_ ?_)))))))))))))
 obtain rfl := sj h
 exact ⟨ed4, (vb false), (bo_ rfl rfl), _, [], ((le1.trans le2).trans le17), (I39).drop, rfl, rfl⟩
theorem rf_ {w : World} {S : PH} {Fr : List HP} {a0 : CodeLock} {v0 : Value} {a1 : Clue} {v1 : Value} {r : Int} (hI : Inv w S (Fr)) (h0_ : RV S v0 a0) (h1_ : RV S v1 a1) (h : gl_ a0 a1 = some r) :
    Calls Tryz.prog 91 [v0, v1].toArray w (bw_ S Fr (Value.int .i64 (r))) := by
 unfold gl_ at h
 have e1 := CodeLock.inv h0_
 subst e1
 obtain ⟨c1, e2, r1⟩ := Clue.inv h1_
 subst e2
 obtain ⟨z1, m1, k1, rfl⟩ := ac_ r1
 refine ao_ (n := 15) Tryz.func91 rfl rfl rfl (ab_ (aa_ (wo_ (bi_ (v := (.agg #[(vi a0.Wheels), (vi a0.Symbols)])) rfl hI rfl (fun g1 w1 I1 => ?_)))))
 obtain ⟨S1, le1, I2, p1⟩ := Inv.boxFreeze (x := a0) I1 (CodeLock.rv (s := a0))
 refine wo_ (bi_ (v := (.agg #[(vi a1.Kind), (vi a1.A), (vi a1.B), (vi a1.N), (vi a1.M), (.slice z1 m1 k1), (vb a1.Not)])) rfl I2 rfl (fun g2 w2 I3 => ?_))
 obtain ⟨S2, le2, I4, p2⟩ := Inv.boxFreeze (x := a1) I3 (Clue.rv (s := a1) (r1.mono le1))
 refine wa_ (v := (vi 0)) rfl rfl (ad_ (ab_ (ab_ (aa_ (wo_ (ld_ im_ ((p1.mono le2).at_ I4) rfl (fun u1 hu1 => ?_)))))))
 have e4 := CodeLock.inv hu1
 subst e4
 obtain ⟨x1, hx1, h⟩ := bnd h
 refine wo_ (cv_ ca89 rfl I4 (fun Fr_ hF_ => pr_ hF_ (CodeLock.rv (s := a0)) hx1) (em_ rfl) (fun w3 I5 => (wa_ (v := (vi x1)) rfl rfl (ad_ (ab_ (aa_ (wm_ (v := (vi x1)) rfl rfl (wo_ (cd_ rfl rfl rfl (ad_ ?_))))))))))
 rcases ifs h with ⟨hc1, h⟩ | ⟨hc1, h⟩
 ·
  refine ah_ rfl hc1 (ab_ (aa_ (wm_ (v := (vi x1)) rfl rfl (wa_ (v := (vi x1)) rfl rfl (ad_ (ak_ ?_))))))
  obtain rfl := sj h
  exact ⟨rfl, (vi x1), (bo_ rfl rfl), _, [], (le1.trans le2), I5, rfl, rfl⟩
 refine ai_ rfl hc1 (ar_ (ab_ (ab_ (aa_ (wo_ (ld_ im_ ((p1.mono le2).at_ I5) rfl (fun u2 hu2 => ?_)))))))
 have e5 := CodeLock.inv hu2
 subst e5
 refine wo_ (ld_ lk_ (p2.at_ I5) rfl (fun u3 hu3 => ?_))
 obtain ⟨c2, e6, r2⟩ := Clue.inv hu3
 subst e6
 obtain ⟨z2, m2, k2, rfl⟩ := ac_ r2
 obtain ⟨x2, hx2, h⟩ := bnd h
 refine wo_ (cv_ ca105 rfl I5 (fun Fr_ hF_ => ul_ hF_ (CodeLock.rv (s := a0)) (Clue.rv (s := a1) r2) hx2) (br_ rfl rfl) (fun w4 I6 => (wo_ (bx_ rfl rfl (ad_ ?_)))))
 rcases ifs h with ⟨hc2, h⟩ | ⟨hc2, h⟩
 ·
  refine ah_ rfl hc2 (ab_ (aa_ (wa_ (v := (vi 11)) rfl rfl (ad_ (ak_ ?_)))))
  obtain rfl := sj h
  exact ⟨rfl, (vi 11), (bo_ rfl rfl), _, [], (le1.trans le2), I6, rfl, rfl⟩
 refine ai_ rfl hc2 (ar_ (ab_ (aa_ (wa_ (v := (vi 0)) rfl rfl (ad_ (ak_ ?_))))))
 obtain rfl := sj h
 exact ⟨rfl, (vi 0), (bo_ rfl rfl), _, [], (le1.trans le2), I6, rfl, rfl⟩
theorem mi_ {w : World} {S : PH} {Fr : List HP} {a0 : (List Int)} {v0 : Value} {a1 : Int} {r : Int} (hI : Inv w S (Fr)) (h0_ : RV S v0 a0) (h : dw_ a0 a1 = some r) :
    Calls Tryz.prog 106 [v0, (Value.int .i64 (a1))].toArray w (bw_ S Fr (Value.int .i64 (r))) := by
 unfold dw_ at h
 obtain ⟨z1, m1, k1, rfl⟩ := ac_ h0_
 refine ao_ (n := 22) Tryz.func106 rfl rfl rfl (ab_ (aa_ (wa_ (v := (vi 0)) rfl rfl (ad_ (ab_ (aa_ (wa_ (v := (vi 0)) rfl rfl (ad_ (ab_ (ab_ (aa_ (wa_ (v := (vi 0)) rfl rfl (ad_ ?_)))))))))))))
 have hk1 : a0.length ≤ 9223372036854775807 := (cx_ h0_)
 obtain ⟨out1, hrun1, h⟩ := bnd h
 refine bp_ (fun f w => Inv w S (Fr) ∧ f 0 = (.slice z1 m1 k1) ∧ f 1 = (vi a1) ∧ f 5 = (vi out1) ∧ f.ds = []) ?_ ?_
 ·
  refine au_ ?_
  refine da_ (I := fun (i1 : Nat) (s1 : (Int)) (f : Frm) (w : World) => Inv w S (Fr) ∧ f 0 = (.slice z1 m1 k1) ∧ f 1 = (vi a1) ∧ f 5 = (vi s1) ∧ f 6 = (vi (i1 : Int)) ∧ f.ds = []) hrun1 ⟨hI, rfl, rfl, rfl, rfl, rfl⟩ ?_ ?_
  ·
   rintro i1 s1 f w o1 hlt1 hI1 h1
   obtain ⟨I4, e14, e15, e16, e17, ed4⟩ := hI1
   refine ab_ (ab_ (aa_ (wm_ rfl e17 (wm_ rfl e14 (wo_ (az_ rfl Tryz.underlying28 rfl h0_ (wo_ (be_ rfl rfl rfl (ad_ (ah_ rfl (eo_ hlt1) (ar_ (ab_ (au_ (ab_ (aa_ (wm_ rfl e14 (wm_ rfl e17 ?_)))))))))))))))))
   obtain ⟨x4, hx4, h1⟩ := bnd h1
   refine wo_ (ix_ Tryz.underlying28 sh3 h0_ hx4 rfl rfl (wo_ (li_ sh3 (h0_.elem I4.in_ hx4) rfl (wm_ rfl e15 (wo_ (bm_ rfl rfl rfl (ad_ ?_)))))))
   rcases ifs h1 with ⟨hc4, h1⟩ | ⟨hc4, h1⟩
   ·
    refine ah_ rfl hc4 (aa_ (wm_ rfl e16 (wo_ (bl_ rfl rfl rfl (wa_ (v := (vi (w64 (s1 + 1)))) rfl rfl (ad_ (aa_ (wm_ rfl e17 (wo_ (bl_ rfl rfl rfl (wa_ (v := (vi (w64 ((i1 : Int) + 1)))) rfl rfl (ad_ ?_))))))))))))
    obtain rfl := sj h1
    exact ⟨I4, e14, e15, rfl, (bh_ hlt1 hk1), ed4⟩
   refine ai_ rfl hc4 (ar_ (aa_ (wm_ rfl e17 (wo_ (bl_ rfl rfl rfl (wa_ (v := (vi (w64 ((i1 : Int) + 1)))) rfl rfl (ad_ ?_)))))))
   obtain rfl := sj h1
   exact ⟨I4, e14, e15, e16, (bh_ hlt1 hk1), ed4⟩
  rintro f w hI2
  obtain ⟨I5, e18, e19, e20, e21, ed5⟩ := hI2
  refine ab_ (ab_ (aa_ (wm_ rfl e21 (wm_ rfl e18 (wo_ (az_ rfl Tryz.underlying28 rfl h0_ (wo_ (be_ rfl rfl rfl (ad_ (ai_ rfl (ep_ _) (bk_ ?_)))))))))))
  exact ⟨I5, e18, e19, e20, ed5⟩
 rintro f w ⟨I6, e22, e23, e24, ed6⟩
 refine ab_ (aa_ (wm_ rfl e24 (wa_ (v := (vi out1)) rfl rfl (ad_ (ak_ ?_)))))
 obtain rfl := sj h
 exact ⟨ed6, (vi out1), (bo_ rfl rfl), _, [], lr, I6, rfl, rfl⟩
end Go.Proofs.YtlpdpeghgndmkaaGreat.Pad
