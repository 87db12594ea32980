/- A part of the proof: what the functions of the program compute, shown over the model. -/
import Derived.Test.YtlpdpeghgndmkaaHinP
import Derived.Test.YtlpdpeghgndmkaaHinW4
import Derived.Test.YtlpdpeghgndmkaaHinW8
import Derived.Test.YtlpdpeghgndmkaaHinW9
import Derived.Test.YtlpdpeghgndmkaaHinW11
import Derived.Test.YtlpdpeghgndmkaaHinW12
import Derived.Test.YtlpdpeghgndmkaaHinW13
import Derived.Test.YtlpdpeghgndmkaaHinW14
import Derived.KernelRfl
set_option linter.unusedVariables false
set_option maxHeartbeats 4000000
set_option maxRecDepth 100000
namespace Go.Proofs.Ytlpdpeghgndmkaa.Pad
open Go Go.Proofs
theorem law07_HintsTrue_ok {w : World} {S : PH} {Fr : List HP} {a0 : Riddle} {v0 : Value} {a1 : (List Aid)} {v1 : Value} {r : Bool} (hI : Inv w S (Fr)) (h0_ : RV S v0 a0) (h1_ : RV S v1 a1) (h : hb_ a0 a1 = some r) :
    Calls Try.prog 4 [v0, v1].toArray w (cl_ S Fr (Value.bool (r))) := by
 unfold hb_ at h
 obtain ⟨c1, c2, c3, c4, e1, r1, r2, r3, r4⟩ := Riddle.inv h0_
 subst e1
 obtain ⟨z1, m1, k1, rfl⟩ := af_ r1
 obtain ⟨z2, m2, k2, rfl⟩ := af_ r2
 obtain ⟨z3, m3, k3, rfl⟩ := af_ r3
 obtain ⟨z4, m4, k4, rfl⟩ := af_ r4
 obtain ⟨z5, m5, k5, rfl⟩ := af_ h1_
 refine ar_ (n := 83) (vs := [(.agg #[(.slice z1 m1 k1), (.slice z2 m2 k2), (.slice z3 m3 k3), (.slice z4 m4 k4)]), (.slice z5 m5 k5)]) Try.func4 rfl rfl rfl (ab_ (aa_ (wo_ (bl_ (v := (.agg #[(.slice z1 m1 k1), (.slice z2 m2 k2), (.slice z3 m3 k3), (.slice z4 m4 k4)])) rfl hI rfl (fun g1 w1 I1 => (wa_ (v := (vb false)) rfl rfl (ad_ (ab_ (ab_ (aa_ (wo_ (dk_ (l := [(.slice z1 m1 k1), (.slice z2 m2 k2), (.slice z3 m3 k3), (.slice z4 m4 k4)]) rfl ku_ (I1.nth 0 rfl) rfl rfl rfl ?_))))))))))))
 obtain ⟨x4, hx4, h⟩ := bnd h
 refine wo_ (ap_ (vs := [(.agg #[(.slice z1 m1 k1), (.slice z2 m2 k2), (.slice z3 m3 k3), (.slice z4 m4 k4)])]) (r := (vb x4)) rfl ca8 rfl (fh_ rfl) I1 (fun Fr_ hF_ => law07_Large_ok hF_ (Riddle.rv (s := (⟨a0.Locks, a0.Codes, a0.Known, a0.Ties⟩ : Riddle)) r1 r2 r3 r4) hx4) (fun w5 I5 => (wm_ (v := (vb x4)) rfl rfl ?_)))
 rcases ifs h with ⟨hc3, h⟩ | ⟨hc3, h⟩
 ·
  refine ws_ (c := x4) rfl rfl hc3 (ws_ (c := x4) rfl rfl hc3 (ws_ (c := x4) rfl rfl hc3 (wo_ (ay_ (c := x4) (a := (vb true)) rfl rfl hc3 rfl (ad_ (aj_ (b := true) rfl rfl (ab_ (aa_ ?_))))))))
  obtain ⟨x5, hx5, h⟩ := bnd h
  refine wo_ (ap_ (vs := []) (r := (vb x5)) rfl ca9 rfl args0 I5 (fun Fr_ hF_ => hz_ hF_  hx5) (fun w6 I6 => (wa_ (v := (vb x5)) rfl rfl (ad_ (am_ ?_)))))
  obtain rfl := sj h
  exact ⟨rfl, (vb x5), (br_ rfl rfl), _, [], lr, (I6).drop, rfl, rfl⟩
 refine wk_ (c := x4) rfl rfl hc3 (az_ (v := (.slice z5 m5 k5)) rfl rfl (wk_ (c := x4) rfl rfl hc3 (bb_ rfl Try.underlying44 rfl h1_ (wk_ (c := x4) rfl rfl hc3 (op_gtr (a := (a1.length : Int)) (b := 6) rfl rfl rfl (wo_ (aq_ (c := x4) (b := (vb (decide (6 < (a1.length : Int))))) rfl rfl hc3 rfl (ad_ ?_))))))))
 rcases ifs h with ⟨hc4, h⟩ | ⟨hc4, h⟩
 ·
  refine aj_ (b := decide (6 < (a1.length : Int))) rfl hc4 (ab_ (aa_ ?_))
  obtain ⟨x6, hx6, h⟩ := bnd h
  refine wo_ (ap_ (vs := []) (r := (vb x6)) rfl ca9 rfl args0 I5 (fun Fr_ hF_ => hz_ hF_  hx6) (fun w7 I7 => (wa_ (v := (vb x6)) rfl rfl (ad_ (am_ ?_)))))
  obtain rfl := sj h
  exact ⟨rfl, (vb x6), (br_ rfl rfl), _, [], lr, (I7).drop, rfl, rfl⟩
 refine al_ (b := decide (6 < (a1.length : Int))) rfl hc4 (av_ (ab_ (ab_ (aa_ (wo_ (dk_ (l := [(.slice z1 m1 k1), (.slice z2 m2 k2), (.slice z3 m3 k3), (.slice z4 m4 k4)]) rfl ku_ (I5.nth 0 rfl) rfl rfl rfl ?_))))))
 obtain ⟨x7, hx7, h⟩ := bnd h
 refine wo_ (ap_ (vs := [(.agg #[(.slice z1 m1 k1), (.slice z2 m2 k2), (.slice z3 m3 k3), (.slice z4 m4 k4)])]) (r := (vi x7)) rfl ca13 rfl (fh_ rfl) I5 (fun Fr_ hF_ => mt_ hF_ (Riddle.rv (s := (⟨a0.Locks, a0.Codes, a0.Known, a0.Ties⟩ : Riddle)) r1 r2 r3 r4) hx7) (fun w8 I8 => (wo_ (cy_ (a := x7) (b := 0) rfl rfl rfl (ad_ ?_)))))
 rcases ifs h with ⟨hc5, h⟩ | ⟨hc5, h⟩
 ·
  refine aj_ (b := x7 != 0) rfl hc5 (ab_ (aa_ ?_))
  obtain ⟨x8, hx8, h⟩ := bnd h
  refine wo_ (ap_ (vs := []) (r := (vb x8)) rfl ca9 rfl args0 I8 (fun Fr_ hF_ => hz_ hF_  hx8) (fun w9 I9 => (wa_ (v := (vb x8)) rfl rfl (ad_ (am_ ?_)))))
  obtain rfl := sj h
  exact ⟨rfl, (vb x8), (br_ rfl rfl), _, [], lr, (I9).drop, rfl, rfl⟩
 refine al_ (b := x7 != 0) rfl hc5 (av_ (ab_ (ab_ (aa_ (wa_ (v := (vi ((-1)))) rfl rfl (ad_ ?_))))))
 obtain ⟨o14, hrun7, h⟩ := bnd h
 refine bs_ (fun f w => ∃ out7, o14 = Sum.inl out7 ∧ ∃ (S_ : PH) (z464 : Option Addr) (m464 k464 : Nat) (z465 : Option Addr) (m465 k465 : Nat) (z466 : Option Addr) (m466 k466 : Nat) (z467 : Option Addr) (m467 k467 : Nat), S.Le S_ ∧ Inv w S_ (ao_ g1 27 #[(.slice z464 m464 k464), (.slice z465 m465 k465), (.slice z466 m466 k466), (.slice z467 m467 k467)] :: Fr) ∧ f 1 = (.slice z5 m5 k5) ∧ f 2 = (pt_ g1) ∧ f 5 = (vi out7.2.2.2.2) ∧ RV S_ (.slice z464 m464 k464) out7.1 ∧ RV S_ (.slice z465 m465 k465) out7.2.1 ∧ RV S_ (.slice z466 m466 k466) out7.2.2.1 ∧ RV S_ (.slice z467 m467 k467) out7.2.2.2.1 ∧ f.ds = []) ?_ ?_
 ·
  refine ax_ ?_
  refine ib_ (I := fun (s13 : ((List CodeLock) × (List (List Int)) × (List (List Clue)) × (List Tie) × Int)) (f : Frm) (w : World) => ∃ (S_ : PH) (z460 : Option Addr) (m460 k460 : Nat) (z461 : Option Addr) (m461 k461 : Nat) (z462 : Option Addr) (m462 k462 : Nat) (z463 : Option Addr) (m463 k463 : Nat), S.Le S_ ∧ Inv w S_ (ao_ g1 27 #[(.slice z460 m460 k460), (.slice z461 m461 k461), (.slice z462 m462 k462), (.slice z463 m463 k463)] :: Fr) ∧ f 1 = (.slice z5 m5 k5) ∧ f 2 = (pt_ g1) ∧ f 5 = (vi s13.2.2.2.2) ∧ RV S_ (.slice z460 m460 k460) s13.1 ∧ RV S_ (.slice z461 m461 k461) s13.2.1 ∧ RV S_ (.slice z462 m462 k462) s13.2.2.1 ∧ RV S_ (.slice z463 m463 k463) s13.2.2.2.1 ∧ f.ds = []) hrun7 ⟨_, _, _, _, _, _, _, _, _, _, _, _, _, lr, I8, rfl, rfl, rfl, r1, r2, r3, r4, rfl⟩ ?_
  rintro s13 f w o13 hI457 h38 hout7
  obtain ⟨S503, z460, m460, k460, z461, m461, k461, z462, m462, k462, z463, m463, k463, le503, I670, e961, e962, e963, r489, r490, r491, r492, ed85⟩ := hI457
  refine ab_ (ab_ (aa_ (wm_ (v := (vi s13.2.2.2.2)) rfl e963 (wm_ (v := (.slice z5 m5 k5)) rfl e961 (wo_ (bb_ rfl Try.underlying44 rfl (h1_.mono le503) (wo_ (bg_ (a := s13.2.2.2.2) (b := (a1.length : Int)) rfl rfl rfl (ad_ ?_)))))))))
  rcases ifs h38 with ⟨hc96, h38⟩ | ⟨hc96, h38⟩
  ·
   refine aj_ (b := decide (s13.2.2.2.2 < (a1.length : Int))) rfl hc96 (av_ (ab_ (ax_ ?_)))
   obtain ⟨ov7, h41, h38⟩ := bnd h38
   refine lb_ (fun f w => ∃ v7, ov7 = Sum.inl v7 ∧ ∃ (S_ : PH) (z494 : Option Addr) (m494 k494 : Nat) (z495 : Option Addr) (m495 k495 : Nat) (z496 : Option Addr) (m496 k496 : Nat) (z497 : Option Addr) (m497 k497 : Nat), S503.Le S_ ∧ Inv w S_ (ao_ g1 27 #[(.slice z494 m494 k494), (.slice z495 m495 k495), (.slice z496 m496 k496), (.slice z497 m497 k497)] :: Fr) ∧ f 1 = (.slice z5 m5 k5) ∧ f 2 = (pt_ g1) ∧ f 5 = (vi s13.2.2.2.2) ∧ RV S_ (.slice z494 m494 k494) v7.1 ∧ RV S_ (.slice z495 m495 k495) v7.2.1 ∧ RV S_ (.slice z496 m496 k496) v7.2.2.1 ∧ RV S_ (.slice z497 m497 k497) v7.2.2.2 ∧ f.ds = []) ?_ ?_
   ·
    refine ab_ (aa_ (wm_ (v := (vi s13.2.2.2.2)) rfl e963 (wo_ (lc_ (a := s13.2.2.2.2) (b := 0) rfl rfl rfl (ad_ ?_)))))
    rcases ifs h41 with ⟨hc99, h41⟩ | ⟨hc99, h41⟩
    ·
     refine aj_ (b := decide (0 ≤ s13.2.2.2.2)) rfl hc99 (ab_ ?_)
     obtain ⟨x119, hx119, h41⟩ := bnd h41
     obtain ⟨x120, hx120, h41⟩ := bnd h41
     refine bn_ (sps := [⟨some 34, [], [0], fun vs_ T_ => fr0 vs_ 0 = (.agg #[(.slice z460 m460 k460), (.slice z461 m461 k461), (.slice z462 m462 k462), (.slice z463 m463 k463)]), [0], [], [], fun _ h_ => h_⟩, spV 35 [] 1 (.slice z5 m5 k5), spV 36 [] 2 (vi s13.2.2.2.2), spV 37 [1, 2] 3 (ah_ (.slice z5 m5 k5) (s13.2.2.2.2) (Enc.sz Aid)), spR 38 [1, 2, 3] 4 x119, ⟨some 39, [0, 1, 2, 3, 4], [5], fun vs_ T_ => ∃ (c0_ : Value), fr0 vs_ 0 = (Value.tuple #[c0_, (vi x120.2)]) ∧ RV T_ c0_ x120.1, [], [], [], fun hle_ h_ => by obtain ⟨c0_, e_, r0_⟩ := h_; exact ⟨c0_, e_, r0_.mono hle_⟩⟩, spW 33 (lrg 6) [6, 5] fun vs_ => (Value.tuple #[(ke_ (fr0 vs_ 1) 0), (vi x120.2)]), spW 40 (lrg 7) [7, 5] fun vs_ => (ke_ (fr0 vs_ 1) 0), spV 41 (lrg 7) 8 (vi x120.2), ⟨some 6, [], [9], fun vs_ T_ => ∃ g_, fr0 vs_ 0 = Value.pointer (some ⟨g_, 0, none⟩), [], [], [1], fun _ h_ => h_⟩, ⟨none, (lrg 8 ++ [9]), [], fun vs_ T_ => True, [], [1], [2], fun _ h_ => h_⟩, spV 7 (lrg 11) 11 (vi x120.2)]) (tks := [⟨none, none, [], fun vs_ => ao_ g1 27 #[(.slice z460 m460 k460), (.slice z461 m461 k461), (.slice z462 m462 k462), (.slice z463 m463 k463)]⟩, ⟨some 9, some 10, [9], fun vs_ => ao_ (ei_ (fr0 vs_ 0)) 27 #[(.slice none 0 0), (.slice none 0 0), (.slice none 0 0), (.slice none 0 0)]⟩, ⟨some 10, none, [5, 9], fun vs_ => ao_ (ei_ (fr0 vs_ 1)) 27 #[(lf_ (ke_ (fr0 vs_ 0) 0) 0), (lf_ (ke_ (fr0 vs_ 0) 0) 1), (lf_ (ke_ (fr0 vs_ 0) 0) 2), (lf_ (ke_ (fr0 vs_ 0) 0) 3)]⟩]) (O := Fr) rfl (by kernel_rfl) I670 ⟨?_, ?_, ?_, ?_, ?_, ?_, ?_, ?_, ?_, ?_, ?_, ?_, trivial⟩ ?_
     ·
      intro vs f w_ U X le A K I
      have I695 : Inv w_ U (ao_ g1 27 #[(Value.slice z460 m460 k460), (Value.slice z461 m461 k461), (Value.slice z462 m462 k462), (Value.slice z463 m463 k463)] :: X) := I
      refine pl_ rfl (dk_ (l := [(.slice z460 m460 k460), (.slice z461 m461 k461), (.slice z462 m462 k462), (.slice z463 m463 k463)]) rfl ku_ (I695.nth 0 rfl) ((K 2 (ak_ rfl)).trans e962) rfl rfl (fn rfl rfl I695))
     · exact fun vs f w U X l A K I => pl_ rfl (az_ (v := (.slice z5 m5 k5)) rfl ((K 1 (ak_ rfl)).trans e961) (fn rfl rfl I))
     · exact fun vs f w U X l A K I => pl_ rfl (az_ (v := (vi s13.2.2.2.2)) rfl ((K 5 (ak_ rfl)).trans e963) (fn rfl rfl I))
     · exact fun vs f w U X l A K I => pl_ rfl (ai_ (v := (.slice z5 m5 k5)) (i := s13.2.2.2.2) (e := x119) rfl Try.underlying44 sh32 (A.u 0 rfl rfl rfl) (h1_.mono (le503.trans l)) (A.u 1 rfl rfl rfl) hx119 (fn rfl rfl I))
     ·
      intro vs f w_ U X le A K I
      have q501 := A.u 2 rfl rfl rfl
      refine pl_ rfl (an_ (v := (ah_ (.slice z5 m5 k5) (s13.2.2.2.2) (Enc.sz Aid))) (e := x119) rfl sh32 q501 ((h1_.mono (le503.trans le)).elem I.in_ hx119) (fun u185 hu185 => ?_))
      obtain ⟨c421, e1008, r534⟩ := Aid.inv hu185
      subst e1008
      obtain ⟨z498, m498, k498, rfl⟩ := af_ r534
      refine ⟨_, _, rfl, lr, ?_, ?_⟩
      · exact (Aid.rv (s := x119) r534)
      exact I
     ·
      intro vs f w_ U X le A K I
      have q502 := A.u 0 rfl rfl rfl
      have q503 : f 38 = vs 4 := (A.at_ 4 rfl _ rfl).1 _ rfl
      have r535 : RV U (vs 4) x119 := (A.at_ 4 rfl _ rfl).2
      obtain ⟨u186, hu186⟩ : ∃ u, vs 4 = u := ⟨_, rfl⟩
      rw [hu186] at q503 r535
      obtain ⟨c422, e1010, r536⟩ := Aid.inv r535
      subst e1010
      obtain ⟨z499, m499, k499, rfl⟩ := af_ r536
      refine pl_ rfl (bq_ (vs := [(.agg #[(.slice z460 m460 k460), (.slice z461 m461 k461), (.slice z462 m462 k462), (.slice z463 m463 k463)]), (.agg #[(vi x119.Lock), (vi x119.Clue.Kind), (vi x119.Clue.A), (vi x119.Clue.B), (vi x119.Clue.N), (vi x119.Clue.M), (.slice z499 m499 k499), (vb x119.Clue.Not)])]) rfl ca14 rfl (bw_ q502 q503) (hints_Tell_ok I (Riddle.rv (s := (⟨s13.1, s13.2.1, s13.2.2.1, s13.2.2.2.1⟩ : Riddle)) (r489.mono le) (r490.mono le) (r491.mono le) (r492.mono le)) (Aid.rv (s := x119) r536) hx120) (fun cv20 w614 S524 O20 le524 I701 hv20 => ?_))
      obtain ⟨c423, rfl, rfl, r537⟩ := hv20
      obtain ⟨c424, c425, c426, c427, e1012, r538, r539, r540, r541⟩ := Riddle.inv r537
      subst e1012
      obtain ⟨z500, m500, k500, rfl⟩ := af_ r538
      obtain ⟨z501, m501, k501, rfl⟩ := af_ r539
      obtain ⟨z502, m502, k502, rfl⟩ := af_ r540
      obtain ⟨z503, m503, k503, rfl⟩ := af_ r541
      refine ⟨_, _, rfl, le524, ?_, ?_⟩
      · exact ⟨_, rfl, (Riddle.rv (s := x120.1) r538 r539 r540 r541)⟩
      exact I701
     ·
      intro vs f w_ U X le A K I
      obtain ⟨c428, e1017, r542⟩ := (A.at_ 5 rfl _ rfl).2
      obtain ⟨c429, c430, c431, c432, e1018, r543, r544, r545, r546⟩ := Riddle.inv r542
      subst e1018
      obtain ⟨z504, m504, k504, rfl⟩ := af_ r543
      obtain ⟨z505, m505, k505, rfl⟩ := af_ r544
      obtain ⟨z506, m506, k506, rfl⟩ := af_ r545
      obtain ⟨z507, m507, k507, rfl⟩ := af_ r546
      have e1017 : vs 5 = (Value.tuple #[(Value.agg #[(Value.slice z504 m504 k504), (Value.slice z505 m505 k505), (Value.slice z506 m506 k506), (Value.slice z507 m507 k507)]), (Value.int .i64 (x120.2))]) := e1017
      have q504 : f 39 = (Value.tuple #[(Value.agg #[(Value.slice z504 m504 k504), (Value.slice z505 m505 k505), (Value.slice z506 m506 k506), (Value.slice z507 m507 k507)]), (Value.int .i64 (x120.2))]) := ((A.at_ 5 rfl _ rfl).1 _ rfl).trans e1017
      refine pl_ rfl (az_ (v := (Value.tuple #[(.agg #[(.slice z504 m504 k504), (.slice z505 m505 k505), (.slice z506 m506 k506), (.slice z507 m507 k507)]), (vi x120.2)])) rfl q504 (⟨_, _, rfl, lr, ?_, ?_⟩))
      ·
       show (Value.tuple #[(Value.agg #[(Value.slice z504 m504 k504), (Value.slice z505 m505 k505), (Value.slice z506 m506 k506), (Value.slice z507 m507 k507)]), (Value.int .i64 (x120.2))]) = (Value.tuple #[(ke_ (vs 5) 0), (Value.int .i64 (x120.2))])
       simp only [e1017] <;> rfl
      exact I
     ·
      intro vs f w_ U X le A K I
      obtain ⟨c433, e1023, r547⟩ := (A.at_ 5 rfl _ rfl).2
      obtain ⟨c434, c435, c436, c437, e1024, r548, r549, r550, r551⟩ := Riddle.inv r547
      subst e1024
      obtain ⟨z508, m508, k508, rfl⟩ := af_ r548
      obtain ⟨z509, m509, k509, rfl⟩ := af_ r549
      obtain ⟨z510, m510, k510, rfl⟩ := af_ r550
      obtain ⟨z511, m511, k511, rfl⟩ := af_ r551
      have e1023 : vs 5 = (Value.tuple #[(Value.agg #[(Value.slice z508 m508 k508), (Value.slice z509 m509 k509), (Value.slice z510 m510 k510), (Value.slice z511 m511 k511)]), (Value.int .i64 (x120.2))]) := e1023
      have q505 : f 39 = (Value.tuple #[(Value.agg #[(Value.slice z508 m508 k508), (Value.slice z509 m509 k509), (Value.slice z510 m510 k510), (Value.slice z511 m511 k511)]), (Value.int .i64 (x120.2))]) := ((A.at_ 5 rfl _ rfl).1 _ rfl).trans e1023
      have q506 : f 33 = (Value.tuple #[(ke_ (vs 5) 0), (Value.int .i64 (x120.2))]) := A.u 6 rfl rfl rfl
      simp only [e1023] at q506
      have q506 : f 33 = (Value.tuple #[(Value.agg #[(Value.slice z508 m508 k508), (Value.slice z509 m509 k509), (Value.slice z510 m510 k510), (Value.slice z511 m511 k511)]), (Value.int .i64 (x120.2))]) := q506
      refine pl_ rfl (bf_ (v := (.agg #[(.slice z508 m508 k508), (.slice z509 m509 k509), (.slice z510 m510 k510), (.slice z511 m511 k511)])) rfl q506 rfl (⟨_, _, rfl, lr, ?_, ?_⟩))
      ·
       show (Value.agg #[(Value.slice z508 m508 k508), (Value.slice z509 m509 k509), (Value.slice z510 m510 k510), (Value.slice z511 m511 k511)]) = (ke_ (vs 5) 0)
       simp only [e1023] <;> rfl
      exact I
     ·
      intro vs f w_ U X le A K I
      obtain ⟨c438, e1029, r552⟩ := (A.at_ 5 rfl _ rfl).2
      obtain ⟨c439, c440, c441, c442, e1030, r553, r554, r555, r556⟩ := Riddle.inv r552
      subst e1030
      obtain ⟨z512, m512, k512, rfl⟩ := af_ r553
      obtain ⟨z513, m513, k513, rfl⟩ := af_ r554
      obtain ⟨z514, m514, k514, rfl⟩ := af_ r555
      obtain ⟨z515, m515, k515, rfl⟩ := af_ r556
      have e1029 : vs 5 = (Value.tuple #[(Value.agg #[(Value.slice z512 m512 k512), (Value.slice z513 m513 k513), (Value.slice z514 m514 k514), (Value.slice z515 m515 k515)]), (Value.int .i64 (x120.2))]) := e1029
      have q507 : f 39 = (Value.tuple #[(Value.agg #[(Value.slice z512 m512 k512), (Value.slice z513 m513 k513), (Value.slice z514 m514 k514), (Value.slice z515 m515 k515)]), (Value.int .i64 (x120.2))]) := ((A.at_ 5 rfl _ rfl).1 _ rfl).trans e1029
      have q508 : f 33 = (Value.tuple #[(ke_ (vs 5) 0), (Value.int .i64 (x120.2))]) := A.u 6 rfl rfl rfl
      simp only [e1029] at q508
      have q508 : f 33 = (Value.tuple #[(Value.agg #[(Value.slice z512 m512 k512), (Value.slice z513 m513 k513), (Value.slice z514 m514 k514), (Value.slice z515 m515 k515)]), (Value.int .i64 (x120.2))]) := q508
      refine pl_ rfl (bf_ (v := (vi x120.2)) rfl q508 rfl (fn rfl rfl I))
     · exact fun vs f w U X l A K I => pl_ rfl (cc_ (z := (.agg #[(.slice none 0 0), (.slice none 0 0), (.slice none 0 0), (.slice none 0 0)])) rfl I zo27 (fun g41 w619 (I706 : Inv w619 U (ao_ g41 27 #[(.slice none 0 0), (.slice none 0 0), (.slice none 0 0), (.slice none 0 0)] :: X)) => ⟨_, _, rfl, lr, ⟨_, rfl⟩, I706⟩))
     ·
      intro vs f w_ U X le A K I
      have I707 : Inv w_ U (ao_ (ei_ (vs 9)) 27 #[(Value.slice none 0 0), (Value.slice none 0 0), (Value.slice none 0 0), (Value.slice none 0 0)] :: X) := I
      obtain ⟨c443, e1035, r557⟩ := (A.at_ 5 rfl _ rfl).2
      obtain ⟨c444, c445, c446, c447, e1036, r558, r559, r560, r561⟩ := Riddle.inv r557
      subst e1036
      obtain ⟨z516, m516, k516, rfl⟩ := af_ r558
      obtain ⟨z517, m517, k517, rfl⟩ := af_ r559
      obtain ⟨z518, m518, k518, rfl⟩ := af_ r560
      obtain ⟨z519, m519, k519, rfl⟩ := af_ r561
      have e1035 : vs 5 = (Value.tuple #[(Value.agg #[(Value.slice z516 m516 k516), (Value.slice z517 m517 k517), (Value.slice z518 m518 k518), (Value.slice z519 m519 k519)]), (Value.int .i64 (x120.2))]) := e1035
      have q509 : f 39 = (Value.tuple #[(Value.agg #[(Value.slice z516 m516 k516), (Value.slice z517 m517 k517), (Value.slice z518 m518 k518), (Value.slice z519 m519 k519)]), (Value.int .i64 (x120.2))]) := ((A.at_ 5 rfl _ rfl).1 _ rfl).trans e1035
      have q510 : f 33 = (Value.tuple #[(ke_ (vs 5) 0), (Value.int .i64 (x120.2))]) := A.u 6 rfl rfl rfl
      simp only [e1035] at q510
      have q510 : f 33 = (Value.tuple #[(Value.agg #[(Value.slice z516 m516 k516), (Value.slice z517 m517 k517), (Value.slice z518 m518 k518), (Value.slice z519 m519 k519)]), (Value.int .i64 (x120.2))]) := q510
      have q511 : f 40 = (ke_ (vs 5) 0) := A.u 7 rfl rfl rfl
      simp only [e1035] at q511
      have q511 : f 40 = (Value.agg #[(Value.slice z516 m516 k516), (Value.slice z517 m517 k517), (Value.slice z518 m518 k518), (Value.slice z519 m519 k519)]) := q511
      obtain ⟨g42, e1041⟩ := (A.at_ 8 rfl _ rfl).2
      have q512 : f 6 = Value.pointer (some ⟨g42, 0, none⟩) := ((A.at_ 8 rfl _ rfl).1 _ rfl).trans e1041
      have e1041 : vs 9 = Value.pointer (some ⟨g42, 0, none⟩) := e1041
      have I708 := I707
      rw [e1041] at I708
      refine pl_ rfl (bc_ (v := (.agg #[(.slice z516 m516 k516), (.slice z517 m517 k517), (.slice z518 m518 k518), (.slice z519 m519 k519)])) (cs := #[(.slice none 0 0), (.slice none 0 0), (.slice none 0 0), (.slice none 0 0)]) ku_ I708 q512 q511 rfl (Nat.le_of_ble_eq_true rfl) rfl (fun w621 (I709 : Inv w621 U (ao_ (ei_ (pt_ g42)) 27 #[(.slice z516 m516 k516), (.slice z517 m517 k517), (.slice z518 m518 k518), (.slice z519 m519 k519)] :: X)) => (⟨undef, _, rfl, lr, ?_, ?_⟩)))
      · exact trivial
      show Inv _ _ (ao_ (ei_ (vs 9)) 27 #[(lf_ (ke_ (vs 5) 0) 0), (lf_ (ke_ (vs 5) 0) 1), (lf_ (ke_ (vs 5) 0) 2), (lf_ (ke_ (vs 5) 0) 3)] :: X)
      simp only [e1035, e1041]
      exact I709
     ·
      intro vs f w_ U X le A K I
      refine pl_ rfl (ch_ (v := (vi x120.2)) rfl (A.u 8 rfl rfl rfl) (fn rfl rfl I))
     intro vs470 f w623 S531 ed87 le531 hF38 hK470 hI483
     have e1042 : f 1 = (Value.slice z5 m5 k5) := (hK470 1 (au_ rfl)).trans e961
     have e1043 : f 2 = (Value.pointer (some ⟨g1, 0, none⟩)) := (hK470 2 (au_ rfl)).trans e962
     have e1044 : f 5 = (Value.int .i64 (s13.2.2.2.2)) := (hK470 5 (au_ rfl)).trans e963
     have I711 : Inv w623 S531 (ao_ g1 27 #[(Value.slice z460 m460 k460), (Value.slice z461 m461 k461), (Value.slice z462 m462 k462), (Value.slice z463 m463 k463)] :: ao_ (ei_ (vs470 9)) 27 #[(lf_ (ke_ (vs470 5) 0) 0), (lf_ (ke_ (vs470 5) 0) 1), (lf_ (ke_ (vs470 5) 0) 2), (lf_ (ke_ (vs470 5) 0) 3)] :: Fr) := hI483
     obtain ⟨c448, e1045, r562⟩ := (hF38.at_ 5 rfl _ rfl).2
     obtain ⟨c449, c450, c451, c452, e1046, r563, r564, r565, r566⟩ := Riddle.inv r562
     subst e1046
     obtain ⟨z520, m520, k520, rfl⟩ := af_ r563
     obtain ⟨z521, m521, k521, rfl⟩ := af_ r564
     obtain ⟨z522, m522, k522, rfl⟩ := af_ r565
     obtain ⟨z523, m523, k523, rfl⟩ := af_ r566
     have e1045 : vs470 5 = (Value.tuple #[(Value.agg #[(Value.slice z520 m520 k520), (Value.slice z521 m521 k521), (Value.slice z522 m522 k522), (Value.slice z523 m523 k523)]), (Value.int .i64 (x120.2))]) := e1045
     have q514 : f 39 = (Value.tuple #[(Value.agg #[(Value.slice z520 m520 k520), (Value.slice z521 m521 k521), (Value.slice z522 m522 k522), (Value.slice z523 m523 k523)]), (Value.int .i64 (x120.2))]) := ((hF38.at_ 5 rfl _ rfl).1 _ rfl).trans e1045
     have I712 := I711
     rw [e1045] at I712
     obtain ⟨g43, e1051⟩ := (hF38.at_ 9 rfl _ rfl).2
     have q515 : f 6 = Value.pointer (some ⟨g43, 0, none⟩) := ((hF38.at_ 9 rfl _ rfl).1 _ rfl).trans e1051
     have e1051 : vs470 9 = Value.pointer (some ⟨g43, 0, none⟩) := e1051
     have I713 := I712
     rw [e1051] at I713
     have q516 := hF38.u 11 rfl rfl rfl
     refine ab_ (ab_ (aa_ (wm_ (v := (vi x120.2)) rfl q516 (wo_ (cy_ (a := x120.2) (b := 0) rfl rfl rfl (ad_ ?_))))))
     rcases ifs h41 with ⟨hc100, h41⟩ | ⟨hc100, h41⟩
     ·
      refine aj_ (b := x120.2 != 0) rfl hc100 (bj_ (aa_ (wm_ (v := (vi s13.2.2.2.2)) rfl e1044 (wo_ (bo_ (a := s13.2.2.2.2) (b := 1) rfl rfl rfl (wa_ (v := (vi (w64 (s13.2.2.2.2 + 1)))) rfl rfl (ad_ ?_)))))))
      obtain rfl := sj h41
      have h42 := h38
      obtain rfl := sj h42
      exact ⟨_, rfl, _, _, _, _, _, _, _, _, _, _, _, _, _, (le503.trans le531), (I713.pull 1).drop, e1042, e1043, rfl, (r489.mono le531), (r490.mono le531), (r491.mono le531), (r492.mono le531), (ed87.trans ed85)⟩
     refine al_ (b := x120.2 != 0) rfl hc100 (av_ (aa_ (wo_ (dk_ (l := [(.slice z520 m520 k520), (.slice z521 m521 k521), (.slice z522 m522 k522), (.slice z523 m523 k523)]) rfl ku_ (I713.nth 1 rfl) q515 rfl rfl (wo_ (bc_ (v := (.agg #[(.slice z520 m520 k520), (.slice z521 m521 k521), (.slice z522 m522 k522), (.slice z523 m523 k523)])) (cs := #[(.slice z460 m460 k460), (.slice z461 m461 k461), (.slice z462 m462 k462), (.slice z463 m463 k463)]) ku_ I713 e1043 rfl rfl (Nat.le_of_ble_eq_true rfl) rfl (fun w624 (I714 : Inv w624 S531 (ao_ g1 27 #[(.slice z520 m520 k520), (.slice z521 m521 k521), (.slice z522 m522 k522), (.slice z523 m523 k523)] :: ao_ (ei_ (pt_ g43)) 27 #[(.slice z520 m520 k520), (.slice z521 m521 k521), (.slice z522 m522 k522), (.slice z523 m523 k523)] :: Fr)) => (ad_ ?_))))))))
     obtain rfl := sj h41
     exact ⟨_, rfl, _, _, _, _, _, _, _, _, _, _, _, _, _, le531, (I714.pull 1).drop, e1042, e1043, e1044, r563, r564, r565, r566, (ed87.trans ed85)⟩
    refine al_ (b := decide (0 ≤ s13.2.2.2.2)) rfl hc99 (av_ ?_)
    obtain rfl := sj h41
    exact ⟨_, rfl, _, _, _, _, _, _, _, _, _, _, _, _, _, lr, I670, e961, e962, e963, r489, r490, r491, r492, ed85⟩
   rintro f w ⟨v7, rfl, S532, z494, m494, k494, z495, m495, k495, z496, m496, k496, z497, m497, k497, le532, I715, e1052, e1053, e1054, r530, r531, r532, r533, ed88⟩
   have h38 := eg_ h38
   refine ab_ (aa_ (wo_ (dk_ (l := [(.slice z494 m494 k494), (.slice z495 m495 k495), (.slice z496 m496 k496), (.slice z497 m497 k497)]) rfl ku_ (I715.nth 0 rfl) e1053 rfl rfl ?_)))
   obtain ⟨x121, hx121, h38⟩ := bnd h38
   refine wo_ (bq_ (vs := [(.agg #[(.slice z494 m494 k494), (.slice z495 m495 k495), (.slice z496 m496 k496), (.slice z497 m497 k497)])]) rfl ca11 rfl (fh_ rfl) (law07_all_ok I715 (Riddle.rv (s := (⟨v7.1, v7.2.1, v7.2.2.1, v7.2.2.2⟩ : Riddle)) r530 r531 r532 r533) hx121) (fun cv21 w625 S533 O21 le533 I716 hv21 => ?_))
   obtain ⟨z524, m524, k524, rfl, rfl⟩ := hv21
   refine wm_ (v := (Value.tuple #[(.slice z524 m524 k524), (vb x121.2)])) rfl rfl (wo_ (bf_ (v := (.slice z524 m524 k524)) rfl rfl rfl (wo_ (bf_ (v := (vb x121.2)) rfl rfl rfl (wa_ (v := (.slice z524 m524 k524)) rfl rfl (wa_ (v := (vb x121.2)) rfl rfl (ad_ (ab_ (aa_ (wo_ (dk_ (l := [(.slice z494 m494 k494), (.slice z495 m495 k495), (.slice z496 m496 k496), (.slice z497 m497 k497)]) rfl ku_ (I716.nth 1 rfl) e1053 rfl rfl ?_)))))))))))
   obtain ⟨x122, hx122, h38⟩ := bnd h38
   refine wo_ (ap_ (vs := [(.agg #[(.slice z494 m494 k494), (.slice z495 m495 k495), (.slice z496 m496 k496), (.slice z497 m497 k497)])]) (r := (Value.tuple #[(vi x122.1), (vi x122.2)])) rfl ca10 rfl (fh_ rfl) I716 (fun Fr_ hF_ => ly_ hF_ (Riddle.rv (s := (⟨v7.1, v7.2.1, v7.2.2.1, v7.2.2.2⟩ : Riddle)) (r530.mono le533) (r531.mono le533) (r532.mono le533) (r533.mono le533)) hx122) (fun w626 I717 => (wm_ (v := (Value.tuple #[(vi x122.1), (vi x122.2)])) rfl rfl (wo_ (bf_ (v := (vi x122.1)) rfl rfl rfl (wo_ (bf_ (v := (vi x122.2)) rfl rfl rfl (wa_ (v := (vi x122.1)) rfl rfl (wa_ (v := (vi x122.2)) rfl rfl (ad_ (ab_ (ab_ (aa_ (wm_ (v := (vb x121.2)) rfl rfl (wo_ (cf_ (b := x121.2) rfl rfl (wm_ (v := (vb (!x121.2))) rfl rfl ?_)))))))))))))))))
   rcases ifs h38 with ⟨hc104, h38⟩ | ⟨hc104, h38⟩
   ·
    refine ws_ (c := !x121.2) rfl rfl hc104 (ws_ (c := !x121.2) rfl rfl hc104 (wo_ (ay_ (c := !x121.2) (a := (vb true)) rfl rfl hc104 rfl (wm_ (v := (vb true)) rfl rfl (ws_ (c := true) rfl rfl rfl (ws_ (c := true) rfl rfl rfl (wo_ (ay_ (c := true) (a := (vb true)) rfl rfl rfl rfl (ad_ (aj_ (b := true) rfl rfl (ab_ (aa_ (wa_ (v := (vb false)) rfl rfl (ad_ (am_ ?_)))))))))))))))
    obtain rfl := sj h38
    obtain rfl := (hout7 _ rfl)
    have h39 := h
    obtain rfl := sj h39
    exact ⟨ed88, (vb false), (br_ rfl rfl), _, [], ((le503.trans le532).trans le533), ((I717).drop).drop, rfl, rfl⟩
   refine wk_ (c := !x121.2) rfl rfl hc104 (az_ (v := (vi x122.2)) rfl rfl (wk_ (c := !x121.2) rfl rfl hc104 (cy_ (a := x122.2) (b := 0) rfl rfl rfl (wo_ (aq_ (c := !x121.2) (b := (vb (x122.2 != 0))) rfl rfl hc104 rfl (wm_ (v := (vb (x122.2 != 0))) rfl rfl ?_))))))
   rcases ifs h38 with ⟨hc105, h38⟩ | ⟨hc105, h38⟩
   ·
    refine ws_ (c := x122.2 != 0) rfl rfl hc105 (ws_ (c := x122.2 != 0) rfl rfl hc105 (wo_ (ay_ (c := x122.2 != 0) (a := (vb true)) rfl rfl hc105 rfl (ad_ (aj_ (b := true) rfl rfl (ab_ (aa_ (wa_ (v := (vb false)) rfl rfl (ad_ (am_ ?_))))))))))
    obtain rfl := sj h38
    obtain rfl := (hout7 _ rfl)
    have h39 := h
    obtain rfl := sj h39
    exact ⟨ed88, (vb false), (br_ rfl rfl), _, [], ((le503.trans le532).trans le533), ((I717).drop).drop, rfl, rfl⟩
   refine wk_ (c := x122.2 != 0) rfl rfl hc105 (az_ (v := (vi x122.1)) rfl rfl (wk_ (c := x122.2 != 0) rfl rfl hc105 (bg_ (a := x122.1) (b := 1) rfl rfl rfl (wo_ (aq_ (c := x122.2 != 0) (b := (vb (decide (x122.1 < 1)))) rfl rfl hc105 rfl (ad_ ?_))))))
   rcases ifs h38 with ⟨hc106, h38⟩ | ⟨hc106, h38⟩
   ·
    refine aj_ (b := decide (x122.1 < 1)) rfl hc106 (ab_ (aa_ (wa_ (v := (vb false)) rfl rfl (ad_ (am_ ?_)))))
    obtain rfl := sj h38
    obtain rfl := (hout7 _ rfl)
    have h39 := h
    obtain rfl := sj h39
    exact ⟨ed88, (vb false), (br_ rfl rfl), _, [], ((le503.trans le532).trans le533), ((I717).drop).drop, rfl, rfl⟩
   refine al_ (b := decide (x122.1 < 1)) rfl hc106 (av_ (ab_ (aa_ (wa_ (v := (vi 0)) rfl rfl (ad_ ?_)))))
   have hk7 : x121.1.length ≤ 9223372036854775807 := (row_len (I717.nth 0 rfl))
   obtain ⟨o16, hrun8, h38⟩ := bnd h38
   refine bs_ (fun f w => ∃ out8, o16 = Sum.inl out8 ∧ ∃ (S_ : PH), S533.Le S_ ∧ Inv w S_ (ao_ g1 27 #[(.slice z494 m494 k494), (.slice z495 m495 k495), (.slice z496 m496 k496), (.slice z497 m497 k497)] :: Row (α := (List (List Int))) 23 (.slice z524 m524 k524) (x121.1) :: Fr) ∧ f 1 = (.slice z5 m5 k5) ∧ f 2 = (pt_ g1) ∧ f 5 = (vi s13.2.2.2.2) ∧ f 8 = (.slice z524 m524 k524) ∧ f.ds = []) ?_ ?_
   ·
    refine ax_ ?_
    refine fa_ (I := fun (i7 : Nat) (s14 : Unit) (f : Frm) (w : World) => ∃ (S_ : PH), S533.Le S_ ∧ Inv w S_ (ao_ g1 27 #[(.slice z494 m494 k494), (.slice z495 m495 k495), (.slice z496 m496 k496), (.slice z497 m497 k497)] :: Row (α := (List (List Int))) 23 (.slice z524 m524 k524) (x121.1) :: Fr) ∧ f 1 = (.slice z5 m5 k5) ∧ f 2 = (pt_ g1) ∧ f 5 = (vi s13.2.2.2.2) ∧ f 8 = (.slice z524 m524 k524) ∧ f 12 = (vi (i7 : Int)) ∧ f.ds = []) hrun8 ⟨_, lr, (I717.pull 1), e1052, e1053, e1054, rfl, rfl, ed88⟩ ?_ ?_
    ·
     rintro i7 s14 f w o15 hlt7 hI520 h44 hout8
     obtain ⟨S572, le572, I763, e1097, e1098, e1099, e1100, e1101, ed95⟩ := hI520
     refine ab_ (ab_ (aa_ (wm_ (v := (vi (i7 : Int))) rfl e1101 (wm_ (v := (.slice z524 m524 k524)) rfl e1100 (wo_ (gr_ (α := (List (List Int))) rfl Try.underlying38 rfl (I763.nth 1 rfl) (wo_ (bg_ (a := (i7 : Int)) (b := (x121.1.length : Int)) rfl rfl rfl (ad_ (aj_ (b := decide ((i7 : Int) < (x121.1.length : Int))) rfl (gk_ hlt7) (av_ (ab_ (ax_ (ab_ ?_))))))))))))))
     obtain ⟨x132, hx132, h44⟩ := bnd h44
     obtain ⟨x133, hx133, h44⟩ := bnd h44
     obtain ⟨x134, hx134, h44⟩ := bnd h44
     refine bn_ (sps := [spV 71 [] 0 (.slice z524 m524 k524), spV 72 [] 1 (vi (i7 : Int)), ⟨some 73, [0, 1], [2], fun vs_ T_ => fr0 vs_ 0 = (ah_ (.slice z524 m524 k524) ((i7 : Int)) (Enc.sz (List (List Int)))), [0], [], [], fun _ h_ => h_⟩, ⟨some 74, [0, 1, 2], [3], fun vs_ T_ => RV T_ (fr0 vs_ 0) x132, [0], [], [], fun hle_ h_ => h_.mono hle_⟩, spV 75 [] 4 (.pointer (some ⟨g1, 1, none⟩)), ⟨some 76, [4], [5], fun vs_ T_ => fr0 vs_ 0 = (.slice z495 m495 k495), [1], [], [], fun _ h_ => h_⟩, spV 77 [] 6 (vi (i7 : Int)), spV 78 [4, 5, 6] 7 (ah_ (.slice z495 m495 k495) ((i7 : Int)) (Enc.sz (List Int))), spR 79 [4, 5, 6, 7] 8 x133, spV 80 (lrg 9) 9 (vb x134), spV 81 (lrg 10) 10 (vb (!x134))]) (tks := [⟨none, none, [], fun vs_ => Row (α := (List (List Int))) 23 (.slice z524 m524 k524) (x121.1)⟩, ⟨none, none, [], fun vs_ => ao_ g1 27 #[(.slice z494 m494 k494), (.slice z495 m495 k495), (.slice z496 m496 k496), (.slice z497 m497 k497)]⟩]) (O := Fr) rfl (by kernel_rfl) (I763.pull 1) ⟨?_, ?_, ?_, ?_, ?_, ?_, ?_, ?_, ?_, ?_, ?_, trivial⟩ ?_
     · exact fun vs f w U X l A K I => pl_ rfl (az_ (v := (.slice z524 m524 k524)) rfl ((K 8 (ak_ rfl)).trans e1100) (fn rfl rfl I))
     · exact fun vs f w U X l A K I => pl_ rfl (az_ (v := (vi (i7 : Int))) rfl ((K 12 (ak_ rfl)).trans e1101) (fn rfl rfl I))
     ·
      intro vs f w_ U X le A K I
      have I767 : Inv w_ U (Row (α := (List (List Int))) 23 (Value.slice z524 m524 k524) (x121.1) :: X) := I
      refine pl_ rfl (be_ (v := (.slice z524 m524 k524)) (i := (i7 : Int)) (e := x132) rfl Try.underlying38 kw_ (A.u 0 rfl rfl rfl) (Inv.rowSrc (I767.nth 0 rfl)) (A.u 1 rfl rfl rfl) hx132 (fn rfl rfl I767))
     ·
      intro vs f w_ U X le A K I
      have I768 : Inv w_ U (Row (α := (List (List Int))) 23 (Value.slice z524 m524 k524) (x121.1) :: X) := I
      have q552 := A.u 2 rfl rfl rfl
      refine pl_ rfl (an_ (v := (ah_ (.slice z524 m524 k524) ((i7 : Int)) (Enc.sz (List (List Int))))) (e := x132) rfl kw_ q552 ((I768.nth 0 rfl).rowElem hx132) (fun u207 hu207 => ?_))
      obtain ⟨z537, m537, k537, rfl⟩ := af_ hu207
      refine ⟨_, _, rfl, lr, ?_, ?_⟩
      · exact hu207
      exact I768
     · exact fun vs f w U X l A K I => pl_ rfl (aw_ (v := (pt_ g1)) rfl io_ ((K 2 (ak_ rfl)).trans e1098) rfl (fn rfl rfl I))
     ·
      intro vs f w_ U X le A K I
      have I770 : Inv w_ U (ao_ g1 27 #[(Value.slice z494 m494 k494), (Value.slice z495 m495 k495), (Value.slice z496 m496 k496), (Value.slice z497 m497 k497)] :: X) := I
      refine pl_ rfl (bd_ (c := (.slice z495 m495 k495)) rfl kw_ (I770.nth 0 rfl) (A.u 0 rfl rfl rfl) rfl (fn rfl rfl I770))
     · exact fun vs f w U X l A K I => pl_ rfl (az_ (v := (vi (i7 : Int))) rfl ((K 12 (ak_ rfl)).trans e1101) (fn rfl rfl I))
     · exact fun vs f w U X l A K I => pl_ rfl (ai_ (v := (.slice z495 m495 k495)) (i := (i7 : Int)) (e := x133) rfl Try.underlying23 gw_ (A.u 1 rfl rfl rfl) (r531.mono ((le533.trans le572).trans l)) (A.u 2 rfl rfl rfl) hx133 (fn rfl rfl I))
     ·
      intro vs f w_ U X le A K I
      have q556 := A.u 3 rfl rfl rfl
      refine pl_ rfl (an_ (v := (ah_ (.slice z495 m495 k495) ((i7 : Int)) (Enc.sz (List Int)))) (e := x133) rfl gw_ q556 ((r531.mono ((le533.trans le572).trans le)).elem I.in_ hx133) (fun u208 hu208 => ?_))
      obtain ⟨z538, m538, k538, rfl⟩ := af_ hu208
      refine ⟨_, _, rfl, lr, ?_, ?_⟩
      · exact hu208
      exact I
     ·
      intro vs f w_ U X le A K I
      have q557 : f 74 = vs 3 := (A.at_ 3 rfl _ rfl).1 _ rfl
      have r573 : RV U (vs 3) x132 := (A.at_ 3 rfl _ rfl).2
      obtain ⟨u209, hu209⟩ : ∃ u, vs 3 = u := ⟨_, rfl⟩
      rw [hu209] at q557 r573
      obtain ⟨z539, m539, k539, rfl⟩ := af_ r573
      have q558 : f 79 = vs 8 := (A.at_ 8 rfl _ rfl).1 _ rfl
      have r574 : RV U (vs 8) x133 := (A.at_ 8 rfl _ rfl).2
      obtain ⟨u210, hu210⟩ : ∃ u, vs 8 = u := ⟨_, rfl⟩
      rw [hu210] at q558 r574
      obtain ⟨z540, m540, k540, rfl⟩ := af_ r574
      refine pl_ rfl (ap_ (vs := [(.slice z539 m539 k539), (.slice z540 m540 k540)]) (r := (vb x134)) rfl ca15 rfl (bw_ q557 q558) I (fun Fr_ hF_ => law07_holds_ok hF_ r573 r574 hx134) (fun w680 I775 => (fn rfl rfl I775)))
     ·
      intro vs f w_ U X le A K I
      refine pl_ rfl (cf_ (b := x134) rfl (A.u 9 rfl rfl rfl) (fn rfl rfl I))
     intro vs518 f w682 S584 ed96 le584 hF42 hK518 hI532
     have e1106 : f 1 = (Value.slice z5 m5 k5) := (hK518 1 (au_ rfl)).trans e1097
     have e1107 : f 2 = (Value.pointer (some ⟨g1, 0, none⟩)) := (hK518 2 (au_ rfl)).trans e1098
     have e1108 : f 5 = (Value.int .i64 (s13.2.2.2.2)) := (hK518 5 (au_ rfl)).trans e1099
     have e1109 : f 8 = (Value.slice z524 m524 k524) := (hK518 8 (au_ rfl)).trans e1100
     have e1110 : f 12 = (Value.int .i64 ((i7 : Int))) := (hK518 12 (au_ rfl)).trans e1101
     have I777 : Inv w682 S584 (Row (α := (List (List Int))) 23 (Value.slice z524 m524 k524) (x121.1) :: ao_ g1 27 #[(Value.slice z494 m494 k494), (Value.slice z495 m495 k495), (Value.slice z496 m496 k496), (Value.slice z497 m497 k497)] :: Fr) := hI532
     have q560 := hF42.u 10 rfl rfl rfl
     rcases ifs h44 with ⟨hc110, h44⟩ | ⟨hc110, h44⟩
     ·
      refine aj_ (b := !x134) q560 hc110 (ab_ (aa_ (wa_ (v := (vb false)) rfl rfl (ad_ (am_ ?_)))))
      obtain rfl := sj h44
      obtain rfl := (hout8 _ rfl)
      have h45 := h38
      obtain rfl := sj h45
      obtain rfl := (hout7 _ rfl)
      have h39 := h
      obtain rfl := sj h39
      exact ⟨(ed96.trans ed95), (vb false), (br_ rfl rfl), _, [], ((((le503.trans le532).trans le533).trans le572).trans le584), ((I777).drop).drop, rfl, rfl⟩
     refine al_ (b := !x134) q560 hc110 (av_ (aa_ (wm_ (v := (vi (i7 : Int))) rfl e1110 (wo_ (bo_ (a := (i7 : Int)) (b := 1) rfl rfl rfl (wa_ (v := (vi (w64 ((i7 : Int) + 1)))) rfl rfl (ad_ ?_)))))))
     obtain rfl := sj h44
     exact ⟨_, rfl, _, (le572.trans le584), (I777.pull 1), e1106, e1107, e1108, e1109, (bm_ hlt7 hk7), (ed96.trans ed95)⟩
    rintro s15 f w hs7 hI533
    obtain ⟨S585, le585, I778, e1111, e1112, e1113, e1114, e1115, ed97⟩ := hI533
    refine ab_ (ab_ (aa_ (wm_ (v := (vi ((x121.1.length : Int)))) rfl e1115 (wm_ (v := (.slice z524 m524 k524)) rfl e1114 (wo_ (gr_ (α := (List (List Int))) rfl Try.underlying38 rfl (I778.nth 1 rfl) (wo_ (bg_ (a := (x121.1.length : Int)) (b := (x121.1.length : Int)) rfl rfl rfl (ad_ (al_ (b := decide ((x121.1.length : Int) < (x121.1.length : Int))) rfl (gl_ _) (bj_ ?_)))))))))))
    exact ⟨s15, hs7, _, le585, ((I778.pull 1).pull 1), e1111, e1112, e1113, e1114, ed97⟩
   rintro f w ⟨out8, rfl, S586, le586, I779, e1116, e1117, e1118, e1119, ed98⟩
   have h38 := eg_ h38
   refine aa_ (wm_ (v := (vi s13.2.2.2.2)) rfl e1118 (wo_ (bo_ (a := s13.2.2.2.2) (b := 1) rfl rfl rfl (wa_ (v := (vi (w64 (s13.2.2.2.2 + 1)))) rfl rfl (ad_ ?_)))))
   obtain rfl := sj h38
   exact ⟨_, rfl, _, _, _, _, _, _, _, _, _, _, _, _, _, (((le503.trans le532).trans le533).trans le586), (I779.pull 1).drop, e1116, e1117, rfl, (r530.mono (le533.trans le586)), (r531.mono (le533.trans le586)), (r532.mono (le533.trans le586)), (r533.mono (le533.trans le586)), ed98⟩
  refine al_ (b := decide (s13.2.2.2.2 < (a1.length : Int))) rfl hc96 (bj_ ?_)
  obtain rfl := sj h38
  obtain rfl := (hout7 _ rfl)
  exact ⟨_, rfl, _, _, _, _, _, _, _, _, _, _, _, _, _, le503, I670, e961, e962, e963, r489, r490, r491, r492, ed85⟩
 rintro f w ⟨out7, rfl, S587, z464, m464, k464, z465, m465, k465, z466, m466, k466, z467, m467, k467, le587, I780, e1120, e1121, e1122, r493, r494, r495, r496, ed99⟩
 have h := eg_ h
 refine ab_ (aa_ ?_)
 obtain ⟨x135, hx135, h⟩ := bnd h
 refine wo_ (ap_ (vs := []) (r := (vb x135)) rfl ca9 rfl args0 I780 (fun Fr_ hF_ => hz_ hF_  hx135) (fun w683 I781 => (wa_ (v := (vb x135)) rfl rfl (ad_ (am_ ?_)))))
 obtain rfl := sj h
 exact ⟨ed99, (vb x135), (br_ rfl rfl), _, [], le587, (I781).drop, rfl, rfl⟩
end Go.Proofs.Ytlpdpeghgndmkaa.Pad
