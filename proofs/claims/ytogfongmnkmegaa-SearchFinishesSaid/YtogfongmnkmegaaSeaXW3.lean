/- A part of the proof: what the functions of the program compute, shown over the model. -/
import Derived.Test.YtogfongmnkmegaaSeaXN
import Derived.Test.YtogfongmnkmegaaSeaXW1
import Derived.Test.YtogfongmnkmegaaSeaXW2
import Derived.KernelRfl
set_option linter.unusedVariables false
namespace Go.Proofs.Ytogfongmnkmegaa.Pad
open Go Go.Proofs
set_option maxHeartbeats 4000000 in
set_option maxRecDepth 100000 in
theorem ob_ {w : World} {S : PH} {Fr : List HP} {a0 : Search_view} {v0 : Value} {a1 : Mind} {v1 : Value} {a2 : Int} {r : (List Int) × Bool} (hI : Inv w S (Fr)) (h0_ : RV S v0 a0) (h1_ : RV S v1 a1) (h : F46 a0 a1 a2 = some r) :
    Calls Try.prog 46 [v0, v1, (Value.int .i64 (a2))].toArray w (ky_ S Fr (fun T_ v_ O_ => ∃ (a0_ : Option Addr) (n0_ k0_ : Nat), v_ = (Value.tuple #[(Value.slice a0_ n0_ k0_), (Value.bool (r.2))]) ∧ O_ = [Row (α := Int) 3 (Value.slice a0_ n0_ k0_) (r.1)])) := by
 rw [N46_eq] at h; unfold N46 at h
 obtain ⟨c1, c2, e1, r1, r2⟩ := Search_view.inv h0_
 subst e1
 obtain ⟨z1, m1, k1, e2⟩ := ak_ r1
 subst e2
 obtain ⟨z2, m2, k2, e3⟩ := ak_ r2
 subst e3
 have e4 := Mind.inv h1_
 subst e4
 refine bd_ (n := 60) (vs := [(Value.agg #[(Value.slice z1 m1 k1), (Value.slice z2 m2 k2)]), (Value.agg #[(Value.int .i64 (a1.Memory)), (Value.int .i64 (a1.Turn))]), (Value.int .i64 (a2))]) Try.func46 rfl rfl rfl ?_
 refine ad_ ?_
 refine ab_ ?_
 refine aa_ rfl (cr_ (v := (Value.agg #[(Value.slice z1 m1 k1), (Value.slice z2 m2 k2)])) rfl hI rfl (fun g1 w1 I1 => ?_))
 obtain ⟨S1, le1, I2, p1⟩ := Inv.boxFreeze (x := a0) I1 (Search_view.rv (s := a0) r1 r2)
 refine aa_ rfl (cr_ (v := (Value.agg #[(Value.int .i64 (a1.Memory)), (Value.int .i64 (a1.Turn))])) rfl I2 rfl (fun g2 w2 I3 => ?_))
 obtain ⟨S2, le2, I4, p2⟩ := Inv.boxFreeze (x := a1) I3 (Mind.rv (s := a1))
 refine aa_ rfl (ae_ (v := (Value.slice none 0 0)) rfl rfl ?_)
 refine aa_ rfl (ae_ (v := (Value.bool (false))) rfl rfl ?_)
 refine ag_ ?_
 refine ad_ ?_
 refine ab_ ?_
 refine aa_ rfl (aq_ (v := (Value.pointer (some ⟨g1, 0, none⟩))) (e := a0) rfl dt_ rfl ((p1.mono le2).at_ I4) (fun u1 hu1 => ?_))
 obtain ⟨c3, c4, e5, r3, r4⟩ := Search_view.inv hu1
 subst e5
 obtain ⟨z3, m3, k3, e6⟩ := ak_ r3
 subst e6
 obtain ⟨z4, m4, k4, e7⟩ := ak_ r4
 subst e7
 refine aa_ rfl (aq_ (v := (Value.pointer (some ⟨g2, 0, none⟩))) (e := a1) rfl sh28 rfl (p2.at_ I4) (fun u2 hu2 => ?_))
 have e8 := Mind.inv hu2
 subst e8
 refine aa_ rfl (cw_ (qs := [(0, #[(Value.slice z3 m3 k3), (Value.slice z4 m4 k4)]), (1, #[(Value.int .i64 (a1.Memory)), (Value.int .i64 (a1.Turn))])]) (c := #[(Value.slice z3 m3 k3), (Value.slice z4 m4 k4), (Value.int .i64 (a1.Memory)), (Value.int .i64 (a1.Turn)), (Value.int .i64 (0)), (Value.slice none 0 0)]) rfl st91 ⟨rfl, rfl, ⟨rfl, rfl, trivial⟩⟩ rfl ?_)
 refine aa_ rfl (cr_ (v := (Value.agg #[(Value.slice z3 m3 k3), (Value.slice z4 m4 k4), (Value.int .i64 (a1.Memory)), (Value.int .i64 (a1.Turn)), (Value.int .i64 (0)), (Value.slice none 0 0)])) rfl I4 rfl (fun g3 w3 I5 => ?_))
 refine aa_ rfl (ae_ (v := (Value.pointer (some ⟨g3, 0, none⟩))) rfl rfl ?_)
 refine ag_ ?_
 have I1060 := Inv.rowNil (α := Int) (T := 3) I5
 have I1061 := Inv.rowNil (α := Search_gone) (T := 103) I1060
 obtain ⟨out1, hrun1, h⟩ := bnd h
 refine eo_ (fun f w => ∃ (S_ : PH) (z283 : Option Addr) (m283 k283 : Nat) (z284 : Option Addr) (m284 k284 : Nat) (z285 : Option Addr) (m285 k285 : Nat) (z286 : Option Addr) (m286 k286 : Nat), S2.Le S_ ∧ Inv w S_ (Row (α := Int) 3 (Value.slice z283 m283 k283) (out1.1) :: ax_ g3 91 #[(Value.slice z284 m284 k284), (Value.slice z285 m285 k285), (Value.int .i64 (out1.2.2.2.1)), (Value.int .i64 (out1.2.2.2.2.1)), (Value.int .i64 (out1.2.2.2.2.2.1)), (Value.slice z286 m286 k286)] :: Row (α := Search_gone) 103 (Value.slice z286 m286 k286) (out1.2.2.2.2.2.2) :: Fr) ∧ f 2 = (Value.int .i64 (a2)) ∧ f 3 = (Value.pointer (some ⟨g1, 0, none⟩)) ∧ f 6 = (Value.slice z283 m283 k283) ∧ f 8 = (Value.pointer (some ⟨g3, 0, none⟩)) ∧ RV S_ (Value.slice z284 m284 k284) out1.2.1 ∧ RV S_ (Value.slice z285 m285 k285) out1.2.2.1 ∧ f.ds = []) ?_ ?_
 ·
  refine au_ ?_
  refine co_ (I := fun (s1 : (List Int × (List (List Edge)) × (List Int) × Int × Int × Int × List Search_gone)) (f : Frm) (w : World) => ∃ (S_ : PH) (z279 : Option Addr) (m279 k279 : Nat) (z280 : Option Addr) (m280 k280 : Nat) (z281 : Option Addr) (m281 k281 : Nat) (z282 : Option Addr) (m282 k282 : Nat), S2.Le S_ ∧ Inv w S_ (Row (α := Int) 3 (Value.slice z279 m279 k279) (s1.1) :: ax_ g3 91 #[(Value.slice z280 m280 k280), (Value.slice z281 m281 k281), (Value.int .i64 (s1.2.2.2.1)), (Value.int .i64 (s1.2.2.2.2.1)), (Value.int .i64 (s1.2.2.2.2.2.1)), (Value.slice z282 m282 k282)] :: Row (α := Search_gone) 103 (Value.slice z282 m282 k282) (s1.2.2.2.2.2.2) :: Fr) ∧ f 2 = (Value.int .i64 (a2)) ∧ f 3 = (Value.pointer (some ⟨g1, 0, none⟩)) ∧ f 6 = (Value.slice z279 m279 k279) ∧ f 8 = (Value.pointer (some ⟨g3, 0, none⟩)) ∧ RV S_ (Value.slice z280 m280 k280) s1.2.1 ∧ RV S_ (Value.slice z281 m281 k281) s1.2.2.1 ∧ f.ds = []) hrun1 ⟨_, _, _, _, _, _, _, _, _, _, _, _, _, (PH.Le.refl _), ((I1061.pull 2).pull 2), rfl, rfl, rfl, rfl, r3, r4, rfl⟩ ?_
  rintro s1 f w o1 hI1009 h7 hout1
  obtain ⟨S1033, z279, m279, k279, z280, m280, k280, z281, m281, k281, z282, m282, k282, le1033, I1062, e429, e430, e431, e432, r179, r180, ed43⟩ := hI1009
  refine ad_ ?_
  refine ad_ ?_
  obtain ⟨x45, hx45, h7⟩ := bnd h7
  rcases ifs h7 with ⟨hc40, h7⟩ | ⟨hc40, h7⟩
  ·
   obtain ⟨x46, hx46, h7⟩ := bnd h7
   rcases ifs h7 with ⟨hc41, h7⟩ | ⟨hc41, h7⟩
   ·
    refine cn_ (sps := [⟨some 14, [], [0], fun vs_ T_ => fr0 vs_ 0 = (am_ (Value.pointer (some ⟨g1, 0, none⟩)) 1), [], [], [], fun _ h_ => h_⟩, ⟨some 15, [0], [1], fun vs_ T_ => RV T_ (fr0 vs_ 0) a0.distances, [], [], [], fun hle_ h_ => h_.mono hle_⟩, ⟨some 16, [], [2], fun vs_ T_ => fr0 vs_ 0 = (Value.pointer (some ⟨g3, 0, none⟩)), [], [], [], fun _ h_ => h_⟩, ⟨some 17, [2], [3], fun vs_ T_ => fr0 vs_ 0 = (Value.pointer (some ⟨g3, 0, none⟩)), [], [], [], fun _ h_ => h_⟩, ⟨some 18, [2, 3], [4], fun vs_ T_ => fr0 vs_ 0 = (Value.pointer (some ⟨g3, 4, none⟩)), [], [], [], fun _ h_ => h_⟩, ⟨some 19, [2, 3, 4], [5], fun vs_ T_ => fr0 vs_ 0 = (Value.int .i64 (s1.2.2.2.2.2.1)), [0], [], [], fun _ h_ => h_⟩, ⟨some 20, [0, 1, 2, 3, 4, 5], [6, 1], fun vs_ T_ => fr0 vs_ 0 = (ah_ (fr0 vs_ 1) (s1.2.2.2.2.2.1) (Enc.sz Int)), [], [], [], fun _ h_ => h_⟩, ⟨some 21, [0, 1, 2, 3, 4, 5, 6], [7], fun vs_ T_ => fr0 vs_ 0 = (Value.int .i64 (x45)), [], [], [], fun _ h_ => h_⟩, ⟨some 22, [0, 1, 2, 3, 4, 5, 6, 7], [8], fun vs_ T_ => fr0 vs_ 0 = (Value.bool (x45 != 0)), [], [], [], fun _ h_ => h_⟩, ⟨some 23, [0, 1, 2, 3, 4, 5, 6, 7, 8], [9], fun vs_ T_ => fr0 vs_ 0 = (Value.bool (x45 != 0)), [], [], [], fun _ h_ => h_⟩, ⟨some 24, [0, 1, 2, 3, 4, 5, 6, 7, 8, 9], [10], fun vs_ T_ => fr0 vs_ 0 = (am_ (Value.pointer (some ⟨g1, 0, none⟩)) 0), [], [], [], fun _ h_ => h_⟩, ⟨some 25, [0, 1, 2, 3, 4, 5, 6, 7, 8, 9, 10], [11], fun vs_ T_ => RV T_ (fr0 vs_ 0) a0.edges, [], [], [], fun hle_ h_ => h_.mono hle_⟩, ⟨some 26, [0, 1, 2, 3, 4, 5, 6, 7, 8, 9], [12], fun vs_ T_ => fr0 vs_ 0 = (Value.pointer (some ⟨g3, 0, none⟩)), [], [], [], fun _ h_ => h_⟩, ⟨some 27, [0, 1, 2, 3, 4, 5, 6, 7, 8, 9, 12], [13], fun vs_ T_ => fr0 vs_ 0 = (Value.pointer (some ⟨g3, 0, none⟩)), [], [], [], fun _ h_ => h_⟩, ⟨some 28, [0, 1, 2, 3, 4, 5, 6, 7, 8, 9, 12, 13], [14], fun vs_ T_ => fr0 vs_ 0 = (Value.pointer (some ⟨g3, 4, none⟩)), [], [], [], fun _ h_ => h_⟩, ⟨some 29, [0, 1, 2, 3, 4, 5, 6, 7, 8, 9, 12, 13, 14], [15], fun vs_ T_ => fr0 vs_ 0 = (Value.int .i64 (s1.2.2.2.2.2.1)), [0], [], [], fun _ h_ => h_⟩, ⟨some 30, [0, 1, 2, 3, 4, 5, 6, 7, 8, 9, 10, 11, 12, 13, 14, 15], [16, 11], fun vs_ T_ => fr0 vs_ 0 = (ah_ (fr0 vs_ 1) (s1.2.2.2.2.2.1) (Enc.sz (List Edge))), [], [], [], fun _ h_ => h_⟩, ⟨some 31, [0, 1, 2, 3, 4, 5, 6, 7, 8, 9, 10, 11, 12, 13, 14, 15, 16], [17], fun vs_ T_ => RV T_ (fr0 vs_ 0) x46, [], [], [], fun hle_ h_ => h_.mono hle_⟩, ⟨some 32, [0, 1, 2, 3, 4, 5, 6, 7, 8, 9, 10, 11, 12, 13, 14, 15, 16, 17], [18], fun vs_ T_ => fr0 vs_ 0 = (Value.int .i64 ((x46.length : Int))), [], [], [], fun _ h_ => h_⟩, ⟨some 33, [0, 1, 2, 3, 4, 5, 6, 7, 8, 9, 10, 11, 12, 13, 14, 15, 16, 17, 18], [19], fun vs_ T_ => fr0 vs_ 0 = (Value.bool (decide (0 < (x46.length : Int)))), [], [], [], fun _ h_ => h_⟩, ⟨some 34, [0, 1, 2, 3, 4, 5, 6, 7, 8, 9, 10, 11, 12, 13, 14, 15, 16, 17, 18, 19], [20], fun vs_ T_ => fr0 vs_ 0 = (Value.bool (decide (0 < (x46.length : Int)))), [], [], [], fun _ h_ => h_⟩, ⟨some 35, [0, 1, 2, 3, 4, 5, 6, 7, 8, 9, 10, 11, 12, 13, 14, 15, 16, 17, 18, 19, 20], [21], fun vs_ T_ => fr0 vs_ 0 = (Value.bool (decide (0 < (x46.length : Int)))), [], [], [], fun _ h_ => h_⟩, ⟨some 36, [0, 1, 2, 3, 4, 5, 6, 7, 8, 9, 10, 11, 12, 13, 14, 15, 16, 17, 18, 19, 20, 21], [22], fun vs_ T_ => fr0 vs_ 0 = (Value.slice z279 m279 k279), [], [], [], fun _ h_ => h_⟩, ⟨some 37, [0, 1, 2, 3, 4, 5, 6, 7, 8, 9, 10, 11, 12, 13, 14, 15, 16, 17, 18, 19, 20, 21, 22], [23], fun vs_ T_ => fr0 vs_ 0 = (Value.int .i64 ((s1.1.length : Int))), [1], [], [], fun _ h_ => h_⟩, ⟨some 38, [0, 1, 2, 3, 4, 5, 6, 7, 8, 9, 10, 11, 12, 13, 14, 15, 16, 17, 18, 19, 20, 21], [24], fun vs_ T_ => fr0 vs_ 0 = (Value.int .i64 (a2)), [], [], [], fun _ h_ => h_⟩, ⟨some 39, [0, 1, 2, 3, 4, 5, 6, 7, 8, 9, 10, 11, 12, 13, 14, 15, 16, 17, 18, 19, 20, 21, 22, 23, 24], [25], fun vs_ T_ => fr0 vs_ 0 = (Value.bool (decide ((s1.1.length : Int) < a2))), [], [], [], fun _ h_ => h_⟩, ⟨some 40, [0, 1, 2, 3, 4, 5, 6, 7, 8, 9, 10, 11, 12, 13, 14, 15, 16, 17, 18, 19, 20, 21, 22, 23, 24, 25], [26], fun vs_ T_ => fr0 vs_ 0 = (Value.bool (decide ((s1.1.length : Int) < a2))), [], [], [], fun _ h_ => h_⟩]) (tks := [⟨none, none, [], fun vs_ => ax_ g3 91 #[(Value.slice z280 m280 k280), (Value.slice z281 m281 k281), (Value.int .i64 (s1.2.2.2.1)), (Value.int .i64 (s1.2.2.2.2.1)), (Value.int .i64 (s1.2.2.2.2.2.1)), (Value.slice z282 m282 k282)]⟩, ⟨none, none, [], fun vs_ => Row (α := Int) 3 (Value.slice z279 m279 k279) (s1.1)⟩]) (O := Row (α := Search_gone) 103 (Value.slice z282 m282 k282) (s1.2.2.2.2.2.2) :: Fr) rfl (by kernel_rfl) (I1062.pull 1) ⟨?_, ?_, ?_, ?_, ?_, ?_, ?_, ?_, ?_, ?_, ?_, ?_, ?_, ?_, ?_, ?_, ?_, ?_, ?_, ?_, ?_, ?_, ?_, ?_, ?_, ?_, ?_, trivial⟩ ?_
    ·
     intro vs1093 f w1121 S1118 X1054 le1118 hA1054 hK1093 hI1094
     have I1147 : Inv w1121 S1118 (X1054) := hI1094
     refine af_ rfl rfl (aj_ (v := (Value.pointer (some ⟨g1, 0, none⟩))) rfl iv_ ((hK1093 3 (be_ rfl)).trans e430) ((p1.mono ((le2.trans le1033).trans le1118)).at_ I1147) ?_)
     refine ⟨_, _, rfl, PH.Le.refl _, ?_, ?_⟩
     ·
      exact rfl
     ·
      exact I1147
    ·
     intro vs1094 f w1122 S1119 X1055 le1119 hA1055 hK1094 hI1095
     have I1148 : Inv w1122 S1119 (X1055) := hI1095
     have q1730 : f 14 = (am_ (Value.pointer (some ⟨g1, 0, none⟩)) 1) := vt (hA1055.at_ 0 rfl _ rfl) rfl
     refine af_ rfl rfl (aq_ (v := (am_ (Value.pointer (some ⟨g1, 0, none⟩)) 1)) (e := a0.distances) rfl hm_ q1730 (((p1.mono ((le2.trans le1033).trans le1119)).at_ I1148).fld Search_view.fld1) (fun u412 hu400 => ?_))
     obtain ⟨z306, m306, k306, e464⟩ := ak_ hu400
     subst e464
     refine ⟨_, _, rfl, PH.Le.refl _, ?_, ?_⟩
     ·
      exact hu400
     ·
      exact I1148
    ·
     intro vs1095 f w1123 S1120 X1056 le1120 hA1056 hK1095 hI1096
     have I1149 : Inv w1123 S1120 (X1056) := hI1096
     refine af_ rfl rfl (ac_ (v := (Value.pointer (some ⟨g3, 0, none⟩))) rfl ((hK1095 8 (be_ rfl)).trans e432) ?_)
     refine ⟨_, _, rfl, PH.Le.refl _, ?_, ?_⟩
     ·
      exact rfl
     ·
      exact I1149
    ·
     intro vs1096 f w1124 S1121 X1057 le1121 hA1057 hK1096 hI1097
     have I1150 : Inv w1124 S1121 (X1057) := hI1097
     have q1731 : f 16 = (Value.pointer (some ⟨g3, 0, none⟩)) := vt (hA1057.at_ 0 rfl _ rfl) rfl
     refine af_ rfl rfl (bp_ (v := (Value.pointer (some ⟨g3, 0, none⟩))) rfl q1731 rfl ?_)
     refine ⟨_, _, rfl, PH.Le.refl _, ?_, ?_⟩
     ·
      exact rfl
     ·
      exact I1150
    ·
     intro vs1097 f w1125 S1122 X1058 le1122 hA1058 hK1097 hI1098
     have I1151 : Inv w1125 S1122 (X1058) := hI1098
     have q1732 : f 17 = (Value.pointer (some ⟨g3, 0, none⟩)) := vt (hA1058.at_ 1 rfl _ rfl) rfl
     refine af_ rfl rfl (az_ (v := (Value.pointer (some ⟨g3, 0, none⟩))) rfl ej_ q1732 rfl ?_)
     refine ⟨_, _, rfl, PH.Le.refl _, ?_, ?_⟩
     ·
      exact rfl
     ·
      exact I1151
    ·
     intro vs1098 f w1126 S1123 X1059 le1123 hA1059 hK1098 hI1099
     have I1152 : Inv w1126 S1123 (ax_ g3 91 #[(Value.slice z280 m280 k280), (Value.slice z281 m281 k281), (Value.int .i64 (s1.2.2.2.1)), (Value.int .i64 (s1.2.2.2.2.1)), (Value.int .i64 (s1.2.2.2.2.2.1)), (Value.slice z282 m282 k282)] :: X1059) := hI1099
     have q1733 : f 18 = (Value.pointer (some ⟨g3, 4, none⟩)) := vt (hA1059.at_ 2 rfl _ rfl) rfl
     refine af_ rfl rfl (bz_ (c := (Value.int .i64 (s1.2.2.2.2.2.1))) rfl sh3 (I1152.nth 0 rfl) q1733 rfl ?_)
     refine ⟨_, _, rfl, PH.Le.refl _, ?_, ?_⟩
     ·
      exact rfl
     ·
      exact I1152
    ·
     intro vs1099 f w1127 S1124 X1060 le1124 hA1060 hK1099 hI1100
     have I1153 : Inv w1127 S1124 (X1060) := hI1100
     have q1734 : f 15 = vs1099 1 := (hA1060.at_ 1 rfl _ rfl).1 _ rfl
     have r195 : RV S1124 (vs1099 1) a0.distances := (hA1060.at_ 1 rfl _ rfl).2
     obtain ⟨u413, hu401⟩ : ∃ u, vs1099 1 = u := ⟨_, rfl⟩
     rw [hu401] at q1734 r195
     obtain ⟨z307, m307, k307, e465⟩ := ak_ r195
     subst e465
     have q1735 : f 19 = (Value.int .i64 (s1.2.2.2.2.2.1)) := vt (hA1060.at_ 5 rfl _ rfl) rfl
     refine af_ rfl rfl (ao_ (v := (Value.slice z307 m307 k307)) (i := s1.2.2.2.2.2.1) (e := x45) rfl Try.underlying26 sh3 q1734 r195 q1735 hx45 ?_)
     refine ⟨_, _, rfl, PH.Le.refl _, ?_, ?_⟩
     ·
      show (ah_ (Value.slice z307 m307 k307) (s1.2.2.2.2.2.1) (Enc.sz Int)) = (ah_ (vs1099 1) (s1.2.2.2.2.2.1) (Enc.sz Int))
      simp only [hu401] <;> rfl
     ·
      exact I1153
    ·
     intro vs1100 f w1128 S1125 X1061 le1125 hA1061 hK1100 hI1101
     have I1154 : Inv w1128 S1125 (X1061) := hI1101
     have q1736 : f 15 = vs1100 1 := (hA1061.at_ 1 rfl _ rfl).1 _ rfl
     have r196 : RV S1125 (vs1100 1) a0.distances := (hA1061.at_ 1 rfl _ rfl).2
     obtain ⟨u414, hu402⟩ : ∃ u, vs1100 1 = u := ⟨_, rfl⟩
     rw [hu402] at q1736 r196
     obtain ⟨z308, m308, k308, e466⟩ := ak_ r196
     subst e466
     have q1737 : f 19 = (Value.int .i64 (s1.2.2.2.2.2.1)) := vt (hA1061.at_ 5 rfl _ rfl) rfl
     have q1738 : f 20 = (ah_ (vs1100 1) (s1.2.2.2.2.2.1) (Enc.sz Int)) := vt (hA1061.at_ 6 rfl _ rfl) rfl
     simp only [hu402] at q1738
     have q1738 : f 20 = (ah_ (Value.slice z308 m308 k308) (s1.2.2.2.2.2.1) (Enc.sz Int)) := q1738
     refine af_ rfl rfl (av_ (v := (ah_ (Value.slice z308 m308 k308) (s1.2.2.2.2.2.1) (Enc.sz Int))) (e := x45) rfl sh3 q1738 (r196.elem I1154.in_ hx45) ?_)
     refine ⟨_, _, rfl, PH.Le.refl _, ?_, ?_⟩
     ·
      exact rfl
     ·
      exact I1154
    ·
     intro vs1101 f w1129 S1126 X1062 le1126 hA1062 hK1101 hI1102
     have I1155 : Inv w1129 S1126 (X1062) := hI1102
     have q1739 : f 21 = (Value.int .i64 (x45)) := vt (hA1062.at_ 7 rfl _ rfl) rfl
     refine af_ rfl rfl (cz_ (a := x45) (b := 0) rfl q1739 rfl ?_)
     refine ⟨_, _, rfl, PH.Le.refl _, ?_, ?_⟩
     ·
      exact rfl
     ·
      exact I1155
    ·
     intro vs1102 f w1130 S1127 X1063 le1127 hA1063 hK1102 hI1103
     have I1156 : Inv w1130 S1127 (X1063) := hI1103
     have q1740 : f 22 = (Value.bool (x45 != 0)) := vt (hA1063.at_ 8 rfl _ rfl) rfl
     refine af_ rfl rfl (ac_ (v := (Value.bool (x45 != 0))) rfl q1740 ?_)
     refine ⟨_, _, rfl, PH.Le.refl _, ?_, ?_⟩
     ·
      exact rfl
     ·
      exact I1156
    ·
     intro vs1103 f w1131 S1128 X1064 le1128 hA1064 hK1103 hI1104
     have I1157 : Inv w1131 S1128 (X1064) := hI1104
     have q1741 : f 23 = (Value.bool (x45 != 0)) := vt (hA1064.at_ 9 rfl _ rfl) rfl
     refine bi_ (c := x45 != 0) rfl rfl rfl rfl q1741 hc40 (aj_ (v := (Value.pointer (some ⟨g1, 0, none⟩))) rfl gk_ ((hK1103 3 (be_ rfl)).trans e430) ((p1.mono ((le2.trans le1033).trans le1128)).at_ I1157) ?_)
     refine ⟨_, _, rfl, PH.Le.refl _, ?_, ?_⟩
     ·
      exact rfl
     ·
      exact I1157
    ·
     intro vs1104 f w1132 S1129 X1065 le1129 hA1065 hK1104 hI1105
     have I1158 : Inv w1132 S1129 (X1065) := hI1105
     have q1742 : f 23 = (Value.bool (x45 != 0)) := vt (hA1065.at_ 9 rfl _ rfl) rfl
     have q1743 : f 24 = (am_ (Value.pointer (some ⟨g1, 0, none⟩)) 0) := vt (hA1065.at_ 10 rfl _ rfl) rfl
     refine bi_ (c := x45 != 0) rfl rfl rfl rfl q1742 hc40 (aq_ (v := (am_ (Value.pointer (some ⟨g1, 0, none⟩)) 0)) (e := a0.edges) rfl fi_ q1743 (((p1.mono ((le2.trans le1033).trans le1129)).at_ I1158).fld Search_view.fld0) (fun u415 hu403 => ?_))
     obtain ⟨z309, m309, k309, e467⟩ := ak_ hu403
     subst e467
     refine ⟨_, _, rfl, PH.Le.refl _, ?_, ?_⟩
     ·
      exact hu403
     ·
      exact I1158
    ·
     intro vs1105 f w1133 S1130 X1066 le1130 hA1066 hK1105 hI1106
     have I1159 : Inv w1133 S1130 (X1066) := hI1106
     have q1744 : f 23 = (Value.bool (x45 != 0)) := vt (hA1066.at_ 9 rfl _ rfl) rfl
     refine bi_ (c := x45 != 0) rfl rfl rfl rfl q1744 hc40 (ac_ (v := (Value.pointer (some ⟨g3, 0, none⟩))) rfl ((hK1105 8 (be_ rfl)).trans e432) ?_)
     refine ⟨_, _, rfl, PH.Le.refl _, ?_, ?_⟩
     ·
      exact rfl
     ·
      exact I1159
    ·
     intro vs1106 f w1134 S1131 X1067 le1131 hA1067 hK1106 hI1107
     have I1160 : Inv w1134 S1131 (X1067) := hI1107
     have q1745 : f 23 = (Value.bool (x45 != 0)) := vt (hA1067.at_ 9 rfl _ rfl) rfl
     have q1746 : f 26 = (Value.pointer (some ⟨g3, 0, none⟩)) := vt (hA1067.at_ 10 rfl _ rfl) rfl
     refine bi_ (c := x45 != 0) rfl rfl rfl rfl q1745 hc40 (bp_ (v := (Value.pointer (some ⟨g3, 0, none⟩))) rfl q1746 rfl ?_)
     refine ⟨_, _, rfl, PH.Le.refl _, ?_, ?_⟩
     ·
      exact rfl
     ·
      exact I1160
    ·
     intro vs1107 f w1135 S1132 X1068 le1132 hA1068 hK1107 hI1108
     have I1161 : Inv w1135 S1132 (X1068) := hI1108
     have q1747 : f 23 = (Value.bool (x45 != 0)) := vt (hA1068.at_ 9 rfl _ rfl) rfl
     have q1748 : f 27 = (Value.pointer (some ⟨g3, 0, none⟩)) := vt (hA1068.at_ 11 rfl _ rfl) rfl
     refine bi_ (c := x45 != 0) rfl rfl rfl rfl q1747 hc40 (az_ (v := (Value.pointer (some ⟨g3, 0, none⟩))) rfl ej_ q1748 rfl ?_)
     refine ⟨_, _, rfl, PH.Le.refl _, ?_, ?_⟩
     ·
      exact rfl
     ·
      exact I1161
    ·
     intro vs1108 f w1136 S1133 X1069 le1133 hA1069 hK1108 hI1109
     have I1162 : Inv w1136 S1133 (ax_ g3 91 #[(Value.slice z280 m280 k280), (Value.slice z281 m281 k281), (Value.int .i64 (s1.2.2.2.1)), (Value.int .i64 (s1.2.2.2.2.1)), (Value.int .i64 (s1.2.2.2.2.2.1)), (Value.slice z282 m282 k282)] :: X1069) := hI1109
     have q1749 : f 23 = (Value.bool (x45 != 0)) := vt (hA1069.at_ 9 rfl _ rfl) rfl
     have q1750 : f 28 = (Value.pointer (some ⟨g3, 4, none⟩)) := vt (hA1069.at_ 12 rfl _ rfl) rfl
     refine bi_ (c := x45 != 0) rfl rfl rfl rfl q1749 hc40 (bz_ (c := (Value.int .i64 (s1.2.2.2.2.2.1))) rfl sh3 (I1162.nth 0 rfl) q1750 rfl ?_)
     refine ⟨_, _, rfl, PH.Le.refl _, ?_, ?_⟩
     ·
      exact rfl
     ·
      exact I1162
    ·
     intro vs1109 f w1137 S1134 X1070 le1134 hA1070 hK1109 hI1110
     have I1163 : Inv w1137 S1134 (X1070) := hI1110
     have q1751 : f 23 = (Value.bool (x45 != 0)) := vt (hA1070.at_ 9 rfl _ rfl) rfl
     have q1752 : f 25 = vs1109 11 := (hA1070.at_ 11 rfl _ rfl).1 _ rfl
     have r197 : RV S1134 (vs1109 11) a0.edges := (hA1070.at_ 11 rfl _ rfl).2
     obtain ⟨u416, hu404⟩ : ∃ u, vs1109 11 = u := ⟨_, rfl⟩
     rw [hu404] at q1752 r197
     obtain ⟨z310, m310, k310, e468⟩ := ak_ r197
     subst e468
     have q1753 : f 29 = (Value.int .i64 (s1.2.2.2.2.2.1)) := vt (hA1070.at_ 15 rfl _ rfl) rfl
     refine bi_ (c := x45 != 0) rfl rfl rfl rfl q1751 hc40 (ao_ (v := (Value.slice z310 m310 k310)) (i := s1.2.2.2.2.2.1) (e := x46) rfl Try.underlying23 en_ q1752 r197 q1753 hx46 ?_)
     refine ⟨_, _, rfl, PH.Le.refl _, ?_, ?_⟩
     ·
      show (ah_ (Value.slice z310 m310 k310) (s1.2.2.2.2.2.1) (Enc.sz (List Edge))) = (ah_ (vs1109 11) (s1.2.2.2.2.2.1) (Enc.sz (List Edge)))
      simp only [hu404] <;> rfl
     ·
      exact I1163
    ·
     intro vs1110 f w1138 S1135 X1071 le1135 hA1071 hK1110 hI1111
     have I1164 : Inv w1138 S1135 (X1071) := hI1111
     have q1754 : f 23 = (Value.bool (x45 != 0)) := vt (hA1071.at_ 9 rfl _ rfl) rfl
     have q1755 : f 25 = vs1110 11 := (hA1071.at_ 11 rfl _ rfl).1 _ rfl
     have r198 : RV S1135 (vs1110 11) a0.edges := (hA1071.at_ 11 rfl _ rfl).2
     obtain ⟨u417, hu405⟩ : ∃ u, vs1110 11 = u := ⟨_, rfl⟩
     rw [hu405] at q1755 r198
     obtain ⟨z311, m311, k311, e469⟩ := ak_ r198
     subst e469
     have q1756 : f 29 = (Value.int .i64 (s1.2.2.2.2.2.1)) := vt (hA1071.at_ 15 rfl _ rfl) rfl
     have q1757 : f 30 = (ah_ (vs1110 11) (s1.2.2.2.2.2.1) (Enc.sz (List Edge))) := vt (hA1071.at_ 16 rfl _ rfl) rfl
     simp only [hu405] at q1757
     have q1757 : f 30 = (ah_ (Value.slice z311 m311 k311) (s1.2.2.2.2.2.1) (Enc.sz (List Edge))) := q1757
     refine bi_ (c := x45 != 0) rfl rfl rfl rfl q1754 hc40 (aq_ (v := (ah_ (Value.slice z311 m311 k311) (s1.2.2.2.2.2.1) (Enc.sz (List Edge)))) (e := x46) rfl en_ q1757 (r198.elem I1164.in_ hx46) (fun u418 hu406 => ?_))
     obtain ⟨z312, m312, k312, e470⟩ := ak_ hu406
     subst e470
     refine ⟨_, _, rfl, PH.Le.refl _, ?_, ?_⟩
     ·
      exact hu406
     ·
      exact I1164
    ·
     intro vs1111 f w1139 S1136 X1072 le1136 hA1072 hK1111 hI1112
     have I1165 : Inv w1139 S1136 (X1072) := hI1112
     have q1758 : f 23 = (Value.bool (x45 != 0)) := vt (hA1072.at_ 9 rfl _ rfl) rfl
     have q1759 : f 31 = vs1111 17 := (hA1072.at_ 17 rfl _ rfl).1 _ rfl
     have r199 : RV S1136 (vs1111 17) x46 := (hA1072.at_ 17 rfl _ rfl).2
     obtain ⟨u419, hu407⟩ : ∃ u, vs1111 17 = u := ⟨_, rfl⟩
     rw [hu407] at q1759 r199
     obtain ⟨z313, m313, k313, e471⟩ := ak_ r199
     subst e471
     refine bi_ (c := x45 != 0) rfl rfl rfl rfl q1758 hc40 (bg_ rfl Try.underlying40 q1759 r199 ?_)
     refine ⟨_, _, rfl, PH.Le.refl _, ?_, ?_⟩
     ·
      exact rfl
     ·
      exact I1165
    ·
     intro vs1112 f w1140 S1137 X1073 le1137 hA1073 hK1112 hI1113
     have I1166 : Inv w1140 S1137 (X1073) := hI1113
     have q1760 : f 23 = (Value.bool (x45 != 0)) := vt (hA1073.at_ 9 rfl _ rfl) rfl
     have q1761 : f 32 = (Value.int .i64 ((x46.length : Int))) := vt (hA1073.at_ 18 rfl _ rfl) rfl
     refine bi_ (c := x45 != 0) rfl rfl rfl rfl q1760 hc40 (dw_ (a := (x46.length : Int)) (b := 0) rfl q1761 rfl ?_)
     refine ⟨_, _, rfl, PH.Le.refl _, ?_, ?_⟩
     ·
      exact rfl
     ·
      exact I1166
    ·
     intro vs1113 f w1141 S1138 X1074 le1138 hA1074 hK1113 hI1114
     have I1167 : Inv w1141 S1138 (X1074) := hI1114
     have q1762 : f 23 = (Value.bool (x45 != 0)) := vt (hA1074.at_ 9 rfl _ rfl) rfl
     have q1763 : f 33 = (Value.bool (decide (0 < (x46.length : Int)))) := vt (hA1074.at_ 19 rfl _ rfl) rfl
     refine af_ rfl rfl (bb_ (c := x45 != 0) (a := (Value.bool (decide (0 < (x46.length : Int))))) rfl q1762 hc40 q1763 ?_)
     refine ⟨_, _, rfl, PH.Le.refl _, ?_, ?_⟩
     ·
      exact rfl
     ·
      exact I1167
    ·
     intro vs1114 f w1142 S1139 X1075 le1139 hA1075 hK1114 hI1115
     have I1168 : Inv w1142 S1139 (X1075) := hI1115
     have q1764 : f 34 = (Value.bool (decide (0 < (x46.length : Int)))) := vt (hA1075.at_ 20 rfl _ rfl) rfl
     refine af_ rfl rfl (ac_ (v := (Value.bool (decide (0 < (x46.length : Int))))) rfl q1764 ?_)
     refine ⟨_, _, rfl, PH.Le.refl _, ?_, ?_⟩
     ·
      exact rfl
     ·
      exact I1168
    ·
     intro vs1115 f w1143 S1140 X1076 le1140 hA1076 hK1115 hI1116
     have I1169 : Inv w1143 S1140 (X1076) := hI1116
     have q1765 : f 35 = (Value.bool (decide (0 < (x46.length : Int)))) := vt (hA1076.at_ 21 rfl _ rfl) rfl
     refine bi_ (c := decide (0 < (x46.length : Int))) rfl rfl rfl rfl q1765 hc41 (ac_ (v := (Value.slice z279 m279 k279)) rfl ((hK1115 6 (be_ rfl)).trans e431) ?_)
     refine ⟨_, _, rfl, PH.Le.refl _, ?_, ?_⟩
     ·
      exact rfl
     ·
      exact I1169
    ·
     intro vs1116 f w1144 S1141 X1077 le1141 hA1077 hK1116 hI1117
     have I1170 : Inv w1144 S1141 (Row (α := Int) 3 (Value.slice z279 m279 k279) (s1.1) :: X1077) := hI1117
     have q1766 : f 35 = (Value.bool (decide (0 < (x46.length : Int)))) := vt (hA1077.at_ 21 rfl _ rfl) rfl
     have q1767 : f 36 = (Value.slice z279 m279 k279) := vt (hA1077.at_ 22 rfl _ rfl) rfl
     refine bi_ (c := decide (0 < (x46.length : Int))) rfl rfl rfl rfl q1766 hc41 (bu_ (α := Int) rfl Try.underlying26 q1767 (I1170.nth 0 rfl) ?_)
     refine ⟨_, _, rfl, PH.Le.refl _, ?_, ?_⟩
     ·
      exact rfl
     ·
      exact I1170
    ·
     intro vs1117 f w1145 S1142 X1078 le1142 hA1078 hK1117 hI1118
     have I1171 : Inv w1145 S1142 (X1078) := hI1118
     have q1768 : f 35 = (Value.bool (decide (0 < (x46.length : Int)))) := vt (hA1078.at_ 21 rfl _ rfl) rfl
     refine bi_ (c := decide (0 < (x46.length : Int))) rfl rfl rfl rfl q1768 hc41 (ac_ (v := (Value.int .i64 (a2))) rfl ((hK1117 2 (be_ rfl)).trans e429) ?_)
     refine ⟨_, _, rfl, PH.Le.refl _, ?_, ?_⟩
     ·
      exact rfl
     ·
      exact I1171
    ·
     intro vs1118 f w1146 S1143 X1079 le1143 hA1079 hK1118 hI1119
     have I1172 : Inv w1146 S1143 (X1079) := hI1119
     have q1769 : f 35 = (Value.bool (decide (0 < (x46.length : Int)))) := vt (hA1079.at_ 21 rfl _ rfl) rfl
     have q1770 : f 37 = (Value.int .i64 ((s1.1.length : Int))) := vt (hA1079.at_ 23 rfl _ rfl) rfl
     have q1771 : f 38 = (Value.int .i64 (a2)) := vt (hA1079.at_ 24 rfl _ rfl) rfl
     refine bi_ (c := decide (0 < (x46.length : Int))) rfl rfl rfl rfl q1769 hc41 (bn_ (a := (s1.1.length : Int)) (b := a2) rfl q1770 q1771 ?_)
     refine ⟨_, _, rfl, PH.Le.refl _, ?_, ?_⟩
     ·
      exact rfl
     ·
      exact I1172
    ·
     intro vs1119 f w1147 S1144 X1080 le1144 hA1080 hK1119 hI1120
     have I1173 : Inv w1147 S1144 (X1080) := hI1120
     have q1772 : f 35 = (Value.bool (decide (0 < (x46.length : Int)))) := vt (hA1080.at_ 21 rfl _ rfl) rfl
     have q1773 : f 39 = (Value.bool (decide ((s1.1.length : Int) < a2))) := vt (hA1080.at_ 25 rfl _ rfl) rfl
     refine af_ rfl rfl (bb_ (c := decide (0 < (x46.length : Int))) (a := (Value.bool (decide ((s1.1.length : Int) < a2)))) rfl q1772 hc41 q1773 ?_)
     refine ⟨_, _, rfl, PH.Le.refl _, ?_, ?_⟩
     ·
      exact rfl
     ·
      exact I1173
    ·
     intro vs1120 f w1148 S1145 ed47 le1145 hF40 hK1120 hI1121
     have e472 : f 2 = (Value.int .i64 (a2)) := (hK1120 2 (bc_ rfl)).trans e429
     have e473 : f 3 = (Value.pointer (some ⟨g1, 0, none⟩)) := (hK1120 3 (bc_ rfl)).trans e430
     have e474 : f 6 = (Value.slice z279 m279 k279) := (hK1120 6 (bc_ rfl)).trans e431
     have e475 : f 8 = (Value.pointer (some ⟨g3, 0, none⟩)) := (hK1120 8 (bc_ rfl)).trans e432
     have I1174 : Inv w1148 S1145 (ax_ g3 91 #[(Value.slice z280 m280 k280), (Value.slice z281 m281 k281), (Value.int .i64 (s1.2.2.2.1)), (Value.int .i64 (s1.2.2.2.2.1)), (Value.int .i64 (s1.2.2.2.2.2.1)), (Value.slice z282 m282 k282)] :: Row (α := Int) 3 (Value.slice z279 m279 k279) (s1.1) :: Row (α := Search_gone) 103 (Value.slice z282 m282 k282) (s1.2.2.2.2.2.2) :: Fr) := hI1121
     have q1774 : f 40 = (Value.bool (decide ((s1.1.length : Int) < a2))) := vt (hF40.at_ 26 rfl _ rfl) rfl
     rcases ifs h7 with ⟨hc42, h7⟩ | ⟨hc42, h7⟩
     ·
      refine an_ (b := decide ((s1.1.length : Int) < a2)) q1774 hc42 ?_
      refine ar_ ?_
      refine au_ ?_
      refine ad_ ?_
      refine ab_ ?_
      refine aa_ rfl (ac_ (v := (Value.pointer (some ⟨g3, 0, none⟩))) rfl e475 ?_)
      obtain ⟨x47, hx47, h7⟩ := bnd h7
      obtain ⟨S1146, Fr7, le1146, I1175, r200, r201, bk7⟩ := Inv.lendB1 (x := (⟨(⟨s1.2.1, s1.2.2.1⟩ : Search_view), (⟨s1.2.2.2.1, s1.2.2.2.2.1⟩ : Mind), s1.2.2.2.2.2.1, s1.2.2.2.2.2.2⟩ : Search_player)) ((I1174.pull 2).pull 1) (fun T_ hle_ hr1_ => (Search_player.rv (s := (⟨(⟨s1.2.1, s1.2.2.1⟩ : Search_view), (⟨s1.2.2.2.1, s1.2.2.2.2.1⟩ : Mind), s1.2.2.2.2.2.1, s1.2.2.2.2.2.2⟩ : Search_player)) ((r179.mono le1145).mono hle_) ((r180.mono le1145).mono hle_) hr1_).cells)
      refine aa_ rfl (cu_ (vs := [(Value.pointer (some ⟨g3, 0, none⟩))]) rfl ca68 rfl (ks_ rfl) (F68_ok I1175 r200 hx47) (fun cv13 w1149 S1147 O13 le1147 I1177 hv13 => ?_))
      obtain ⟨rfl, rfl⟩ := hv13
      have I1176 := bk7 [] trivial I1177 le1147
      refine aa_ rfl (ae_ (v := (Value.int .i64 (x47))) rfl rfl ?_)
      refine ag_ ?_
      refine ad_ ?_
      refine ab_ ?_
      refine aa_ rfl (ac_ (v := (Value.slice z279 m279 k279)) rfl e474 ?_)
      refine aa_ rfl (ac_ (v := (Value.int .i64 (x47))) rfl rfl ?_)
      refine aa_ rfl (br_ (vs := [(Value.int .i64 (x47))]) (r := ([x47] : List Int)) rfl Try.underlying26 el3 (gd_ rfl) rfl (by decide) (by decide) ⟨(cb_ _), trivial⟩ I1176 (fun u420 w1150 I1178 => ?_))
      obtain ⟨z314, m314, k314, e476⟩ := bt_ I1178
      subst e476
      obtain ⟨x48, hx48, h7⟩ := bnd h7
      refine aa_ rfl (ef_ (α := Int) (v := (Value.slice z279 m279 k279)) (u := (Value.slice z314 m314 k314)) rfl rfl Try.underlying26 el3 (by decide) (by decide) rfl rfl (I1178.pull 3) (Inv.rowSrc (I1178.nth 0 rfl)) hx48 (fun u421 w1151 I1179 => ?_))
      obtain ⟨z315, m315, k315, e477⟩ := bt_ I1179
      subst e477
      refine aa_ rfl (ae_ (v := (Value.slice z315 m315 k315)) rfl rfl ?_)
      refine ag_ ?_
      refine ab_ ?_
      refine aa_ rfl (ac_ (v := (Value.pointer (some ⟨g3, 0, none⟩))) rfl e475 ?_)
      refine aa_ rfl (ac_ (v := (Value.int .i64 (x47))) rfl rfl ?_)
      obtain ⟨x49, hx49, h7⟩ := bnd h7
      refine aa_ rfl (cu_ (vs := [(Value.pointer (some ⟨g3, 0, none⟩)), (Value.int .i64 (x47))]) rfl ca69 rfl (fb_ rfl rfl) (F69_ok ((I1179.pull 3).pull 3) (r179.mono le1145) (r180.mono le1145) hx49) (fun cv14 w1152 S1148 O14 le1148 I1180 hv14 => ?_))
      obtain ⟨c17, c18, z316, m316, k316, rfl, rfl, r202, r203⟩ := hv14
      obtain ⟨z317, m317, k317, e478⟩ := ak_ r202
      subst e478
      obtain ⟨z318, m318, k318, e479⟩ := ak_ r203
      subst e479
      refine ag_ ?_
      obtain rfl := Option.some.inj h7
      exact ⟨_, rfl, _, _, _, _, _, _, _, _, _, _, _, _, _, ((le1033.trans le1145).trans le1148), ((((I1180.pull 3).drop.pull 1).pull 1).pull 2), e472, e473, rfl, e475, r202, r203, (ed47.trans ed43)⟩
     ·
      refine ap_ (b := decide ((s1.1.length : Int) < a2)) q1774 hc42 ?_
      refine bm_ ?_
      obtain rfl := Option.some.inj h7
      obtain rfl := (hout1 _ rfl)
      exact ⟨_, _, _, _, _, _, _, _, _, _, _, _, _, (le1033.trans le1145), (((I1174.pull 2).pull 1).pull 2), e472, e473, e474, e475, (r179.mono le1145), (r180.mono le1145), (ed47.trans ed43)⟩
   ·
    refine cn_ (sps := [⟨some 14, [], [0], fun vs_ T_ => fr0 vs_ 0 = (am_ (Value.pointer (some ⟨g1, 0, none⟩)) 1), [], [], [], fun _ h_ => h_⟩, ⟨some 15, [0], [1], fun vs_ T_ => RV T_ (fr0 vs_ 0) a0.distances, [], [], [], fun hle_ h_ => h_.mono hle_⟩, ⟨some 16, [], [2], fun vs_ T_ => fr0 vs_ 0 = (Value.pointer (some ⟨g3, 0, none⟩)), [], [], [], fun _ h_ => h_⟩, ⟨some 17, [2], [3], fun vs_ T_ => fr0 vs_ 0 = (Value.pointer (some ⟨g3, 0, none⟩)), [], [], [], fun _ h_ => h_⟩, ⟨some 18, [2, 3], [4], fun vs_ T_ => fr0 vs_ 0 = (Value.pointer (some ⟨g3, 4, none⟩)), [], [], [], fun _ h_ => h_⟩, ⟨some 19, [2, 3, 4], [5], fun vs_ T_ => fr0 vs_ 0 = (Value.int .i64 (s1.2.2.2.2.2.1)), [0], [], [], fun _ h_ => h_⟩, ⟨some 20, [0, 1, 2, 3, 4, 5], [6, 1], fun vs_ T_ => fr0 vs_ 0 = (ah_ (fr0 vs_ 1) (s1.2.2.2.2.2.1) (Enc.sz Int)), [], [], [], fun _ h_ => h_⟩, ⟨some 21, [0, 1, 2, 3, 4, 5, 6], [7], fun vs_ T_ => fr0 vs_ 0 = (Value.int .i64 (x45)), [], [], [], fun _ h_ => h_⟩, ⟨some 22, [0, 1, 2, 3, 4, 5, 6, 7], [8], fun vs_ T_ => fr0 vs_ 0 = (Value.bool (x45 != 0)), [], [], [], fun _ h_ => h_⟩, ⟨some 23, [0, 1, 2, 3, 4, 5, 6, 7, 8], [9], fun vs_ T_ => fr0 vs_ 0 = (Value.bool (x45 != 0)), [], [], [], fun _ h_ => h_⟩, ⟨some 24, [0, 1, 2, 3, 4, 5, 6, 7, 8, 9], [10], fun vs_ T_ => fr0 vs_ 0 = (am_ (Value.pointer (some ⟨g1, 0, none⟩)) 0), [], [], [], fun _ h_ => h_⟩, ⟨some 25, [0, 1, 2, 3, 4, 5, 6, 7, 8, 9, 10], [11], fun vs_ T_ => RV T_ (fr0 vs_ 0) a0.edges, [], [], [], fun hle_ h_ => h_.mono hle_⟩, ⟨some 26, [0, 1, 2, 3, 4, 5, 6, 7, 8, 9], [12], fun vs_ T_ => fr0 vs_ 0 = (Value.pointer (some ⟨g3, 0, none⟩)), [], [], [], fun _ h_ => h_⟩, ⟨some 27, [0, 1, 2, 3, 4, 5, 6, 7, 8, 9, 12], [13], fun vs_ T_ => fr0 vs_ 0 = (Value.pointer (some ⟨g3, 0, none⟩)), [], [], [], fun _ h_ => h_⟩, ⟨some 28, [0, 1, 2, 3, 4, 5, 6, 7, 8, 9, 12, 13], [14], fun vs_ T_ => fr0 vs_ 0 = (Value.pointer (some ⟨g3, 4, none⟩)), [], [], [], fun _ h_ => h_⟩, ⟨some 29, [0, 1, 2, 3, 4, 5, 6, 7, 8, 9, 12, 13, 14], [15], fun vs_ T_ => fr0 vs_ 0 = (Value.int .i64 (s1.2.2.2.2.2.1)), [0], [], [], fun _ h_ => h_⟩, ⟨some 30, [0, 1, 2, 3, 4, 5, 6, 7, 8, 9, 10, 11, 12, 13, 14, 15], [16, 11], fun vs_ T_ => fr0 vs_ 0 = (ah_ (fr0 vs_ 1) (s1.2.2.2.2.2.1) (Enc.sz (List Edge))), [], [], [], fun _ h_ => h_⟩, ⟨some 31, [0, 1, 2, 3, 4, 5, 6, 7, 8, 9, 10, 11, 12, 13, 14, 15, 16], [17], fun vs_ T_ => RV T_ (fr0 vs_ 0) x46, [], [], [], fun hle_ h_ => h_.mono hle_⟩, ⟨some 32, [0, 1, 2, 3, 4, 5, 6, 7, 8, 9, 10, 11, 12, 13, 14, 15, 16, 17], [18], fun vs_ T_ => fr0 vs_ 0 = (Value.int .i64 ((x46.length : Int))), [], [], [], fun _ h_ => h_⟩, ⟨some 33, [0, 1, 2, 3, 4, 5, 6, 7, 8, 9, 10, 11, 12, 13, 14, 15, 16, 17, 18], [19], fun vs_ T_ => fr0 vs_ 0 = (Value.bool (decide (0 < (x46.length : Int)))), [], [], [], fun _ h_ => h_⟩, ⟨some 34, [0, 1, 2, 3, 4, 5, 6, 7, 8, 9, 10, 11, 12, 13, 14, 15, 16, 17, 18, 19], [20], fun vs_ T_ => fr0 vs_ 0 = (Value.bool (decide (0 < (x46.length : Int)))), [], [], [], fun _ h_ => h_⟩, ⟨some 35, [0, 1, 2, 3, 4, 5, 6, 7, 8, 9, 10, 11, 12, 13, 14, 15, 16, 17, 18, 19, 20], [21], fun vs_ T_ => fr0 vs_ 0 = (Value.bool (decide (0 < (x46.length : Int)))), [], [], [], fun _ h_ => h_⟩, ⟨some 36, [0, 1, 2, 3, 4, 5, 6, 7, 8, 9, 10, 11, 12, 13, 14, 15, 16, 17, 18, 19, 20, 21], [22], fun vs_ T_ => fr0 vs_ 0 = undef, [], [], [], fun _ h_ => h_⟩, ⟨some 37, [0, 1, 2, 3, 4, 5, 6, 7, 8, 9, 10, 11, 12, 13, 14, 15, 16, 17, 18, 19, 20, 21, 22], [23], fun vs_ T_ => fr0 vs_ 0 = undef, [], [], [], fun _ h_ => h_⟩, ⟨some 38, [0, 1, 2, 3, 4, 5, 6, 7, 8, 9, 10, 11, 12, 13, 14, 15, 16, 17, 18, 19, 20, 21], [24], fun vs_ T_ => fr0 vs_ 0 = undef, [], [], [], fun _ h_ => h_⟩, ⟨some 39, [0, 1, 2, 3, 4, 5, 6, 7, 8, 9, 10, 11, 12, 13, 14, 15, 16, 17, 18, 19, 20, 21, 22, 23, 24], [25], fun vs_ T_ => fr0 vs_ 0 = undef, [], [], [], fun _ h_ => h_⟩, ⟨some 40, [0, 1, 2, 3, 4, 5, 6, 7, 8, 9, 10, 11, 12, 13, 14, 15, 16, 17, 18, 19, 20, 21, 22, 23, 24, 25], [26], fun vs_ T_ => fr0 vs_ 0 = (Value.bool (false)), [], [], [], fun _ h_ => h_⟩]) (tks := [⟨none, none, [], fun vs_ => ax_ g3 91 #[(Value.slice z280 m280 k280), (Value.slice z281 m281 k281), (Value.int .i64 (s1.2.2.2.1)), (Value.int .i64 (s1.2.2.2.2.1)), (Value.int .i64 (s1.2.2.2.2.2.1)), (Value.slice z282 m282 k282)]⟩]) (O := Row (α := Int) 3 (Value.slice z279 m279 k279) (s1.1) :: Row (α := Search_gone) 103 (Value.slice z282 m282 k282) (s1.2.2.2.2.2.2) :: Fr) rfl (by kernel_rfl) (I1062.pull 1) ⟨?_, ?_, ?_, ?_, ?_, ?_, ?_, ?_, ?_, ?_, ?_, ?_, ?_, ?_, ?_, ?_, ?_, ?_, ?_, ?_, ?_, ?_, ?_, ?_, ?_, ?_, ?_, trivial⟩ ?_
    ·
     intro vs1121 f w1153 S1149 X1081 le1149 hA1081 hK1121 hI1122
     have I1181 : Inv w1153 S1149 (X1081) := hI1122
     refine af_ rfl rfl (aj_ (v := (Value.pointer (some ⟨g1, 0, none⟩))) rfl iv_ ((hK1121 3 (be_ rfl)).trans e430) ((p1.mono ((le2.trans le1033).trans le1149)).at_ I1181) ?_)
     refine ⟨_, _, rfl, PH.Le.refl _, ?_, ?_⟩
     ·
      exact rfl
     ·
      exact I1181
    ·
     intro vs1122 f w1154 S1150 X1082 le1150 hA1082 hK1122 hI1123
     have I1182 : Inv w1154 S1150 (X1082) := hI1123
     have q1775 : f 14 = (am_ (Value.pointer (some ⟨g1, 0, none⟩)) 1) := vt (hA1082.at_ 0 rfl _ rfl) rfl
     refine af_ rfl rfl (aq_ (v := (am_ (Value.pointer (some ⟨g1, 0, none⟩)) 1)) (e := a0.distances) rfl hm_ q1775 (((p1.mono ((le2.trans le1033).trans le1150)).at_ I1182).fld Search_view.fld1) (fun u425 hu411 => ?_))
     obtain ⟨z319, m319, k319, e480⟩ := ak_ hu411
     subst e480
     refine ⟨_, _, rfl, PH.Le.refl _, ?_, ?_⟩
     ·
      exact hu411
     ·
      exact I1182
    ·
     intro vs1123 f w1155 S1151 X1083 le1151 hA1083 hK1123 hI1124
     have I1183 : Inv w1155 S1151 (X1083) := hI1124
     refine af_ rfl rfl (ac_ (v := (Value.pointer (some ⟨g3, 0, none⟩))) rfl ((hK1123 8 (be_ rfl)).trans e432) ?_)
     refine ⟨_, _, rfl, PH.Le.refl _, ?_, ?_⟩
     ·
      exact rfl
     ·
      exact I1183
    ·
     intro vs1124 f w1156 S1152 X1084 le1152 hA1084 hK1124 hI1125
     have I1184 : Inv w1156 S1152 (X1084) := hI1125
     have q1776 : f 16 = (Value.pointer (some ⟨g3, 0, none⟩)) := vt (hA1084.at_ 0 rfl _ rfl) rfl
     refine af_ rfl rfl (bp_ (v := (Value.pointer (some ⟨g3, 0, none⟩))) rfl q1776 rfl ?_)
     refine ⟨_, _, rfl, PH.Le.refl _, ?_, ?_⟩
     ·
      exact rfl
     ·
      exact I1184
    ·
     intro vs1125 f w1157 S1153 X1085 le1153 hA1085 hK1125 hI1126
     have I1185 : Inv w1157 S1153 (X1085) := hI1126
     have q1777 : f 17 = (Value.pointer (some ⟨g3, 0, none⟩)) := vt (hA1085.at_ 1 rfl _ rfl) rfl
     refine af_ rfl rfl (az_ (v := (Value.pointer (some ⟨g3, 0, none⟩))) rfl ej_ q1777 rfl ?_)
     refine ⟨_, _, rfl, PH.Le.refl _, ?_, ?_⟩
     ·
      exact rfl
     ·
      exact I1185
    ·
     intro vs1126 f w1158 S1154 X1086 le1154 hA1086 hK1126 hI1127
     have I1186 : Inv w1158 S1154 (ax_ g3 91 #[(Value.slice z280 m280 k280), (Value.slice z281 m281 k281), (Value.int .i64 (s1.2.2.2.1)), (Value.int .i64 (s1.2.2.2.2.1)), (Value.int .i64 (s1.2.2.2.2.2.1)), (Value.slice z282 m282 k282)] :: X1086) := hI1127
     have q1778 : f 18 = (Value.pointer (some ⟨g3, 4, none⟩)) := vt (hA1086.at_ 2 rfl _ rfl) rfl
     refine af_ rfl rfl (bz_ (c := (Value.int .i64 (s1.2.2.2.2.2.1))) rfl sh3 (I1186.nth 0 rfl) q1778 rfl ?_)
     refine ⟨_, _, rfl, PH.Le.refl _, ?_, ?_⟩
     ·
      exact rfl
     ·
      exact I1186
    ·
     intro vs1127 f w1159 S1155 X1087 le1155 hA1087 hK1127 hI1128
     have I1187 : Inv w1159 S1155 (X1087) := hI1128
     have q1779 : f 15 = vs1127 1 := (hA1087.at_ 1 rfl _ rfl).1 _ rfl
     have r204 : RV S1155 (vs1127 1) a0.distances := (hA1087.at_ 1 rfl _ rfl).2
     obtain ⟨u426, hu412⟩ : ∃ u, vs1127 1 = u := ⟨_, rfl⟩
     rw [hu412] at q1779 r204
     obtain ⟨z320, m320, k320, e481⟩ := ak_ r204
     subst e481
     have q1780 : f 19 = (Value.int .i64 (s1.2.2.2.2.2.1)) := vt (hA1087.at_ 5 rfl _ rfl) rfl
     refine af_ rfl rfl (ao_ (v := (Value.slice z320 m320 k320)) (i := s1.2.2.2.2.2.1) (e := x45) rfl Try.underlying26 sh3 q1779 r204 q1780 hx45 ?_)
     refine ⟨_, _, rfl, PH.Le.refl _, ?_, ?_⟩
     ·
      show (ah_ (Value.slice z320 m320 k320) (s1.2.2.2.2.2.1) (Enc.sz Int)) = (ah_ (vs1127 1) (s1.2.2.2.2.2.1) (Enc.sz Int))
      simp only [hu412] <;> rfl
     ·
      exact I1187
    ·
     intro vs1128 f w1160 S1156 X1088 le1156 hA1088 hK1128 hI1129
     have I1188 : Inv w1160 S1156 (X1088) := hI1129
     have q1781 : f 15 = vs1128 1 := (hA1088.at_ 1 rfl _ rfl).1 _ rfl
     have r205 : RV S1156 (vs1128 1) a0.distances := (hA1088.at_ 1 rfl _ rfl).2
     obtain ⟨u427, hu413⟩ : ∃ u, vs1128 1 = u := ⟨_, rfl⟩
     rw [hu413] at q1781 r205
     obtain ⟨z321, m321, k321, e482⟩ := ak_ r205
     subst e482
     have q1782 : f 19 = (Value.int .i64 (s1.2.2.2.2.2.1)) := vt (hA1088.at_ 5 rfl _ rfl) rfl
     have q1783 : f 20 = (ah_ (vs1128 1) (s1.2.2.2.2.2.1) (Enc.sz Int)) := vt (hA1088.at_ 6 rfl _ rfl) rfl
     simp only [hu413] at q1783
     have q1783 : f 20 = (ah_ (Value.slice z321 m321 k321) (s1.2.2.2.2.2.1) (Enc.sz Int)) := q1783
     refine af_ rfl rfl (av_ (v := (ah_ (Value.slice z321 m321 k321) (s1.2.2.2.2.2.1) (Enc.sz Int))) (e := x45) rfl sh3 q1783 (r205.elem I1188.in_ hx45) ?_)
     refine ⟨_, _, rfl, PH.Le.refl _, ?_, ?_⟩
     ·
      exact rfl
     ·
      exact I1188
    ·
     intro vs1129 f w1161 S1157 X1089 le1157 hA1089 hK1129 hI1130
     have I1189 : Inv w1161 S1157 (X1089) := hI1130
     have q1784 : f 21 = (Value.int .i64 (x45)) := vt (hA1089.at_ 7 rfl _ rfl) rfl
     refine af_ rfl rfl (cz_ (a := x45) (b := 0) rfl q1784 rfl ?_)
     refine ⟨_, _, rfl, PH.Le.refl _, ?_, ?_⟩
     ·
      exact rfl
     ·
      exact I1189
    ·
     intro vs1130 f w1162 S1158 X1090 le1158 hA1090 hK1130 hI1131
     have I1190 : Inv w1162 S1158 (X1090) := hI1131
     have q1785 : f 22 = (Value.bool (x45 != 0)) := vt (hA1090.at_ 8 rfl _ rfl) rfl
     refine af_ rfl rfl (ac_ (v := (Value.bool (x45 != 0))) rfl q1785 ?_)
     refine ⟨_, _, rfl, PH.Le.refl _, ?_, ?_⟩
     ·
      exact rfl
     ·
      exact I1190
    ·
     intro vs1131 f w1163 S1159 X1091 le1159 hA1091 hK1131 hI1132
     have I1191 : Inv w1163 S1159 (X1091) := hI1132
     have q1786 : f 23 = (Value.bool (x45 != 0)) := vt (hA1091.at_ 9 rfl _ rfl) rfl
     refine bi_ (c := x45 != 0) rfl rfl rfl rfl q1786 hc40 (aj_ (v := (Value.pointer (some ⟨g1, 0, none⟩))) rfl gk_ ((hK1131 3 (be_ rfl)).trans e430) ((p1.mono ((le2.trans le1033).trans le1159)).at_ I1191) ?_)
     refine ⟨_, _, rfl, PH.Le.refl _, ?_, ?_⟩
     ·
      exact rfl
     ·
      exact I1191
    ·
     intro vs1132 f w1164 S1160 X1092 le1160 hA1092 hK1132 hI1133
     have I1192 : Inv w1164 S1160 (X1092) := hI1133
     have q1787 : f 23 = (Value.bool (x45 != 0)) := vt (hA1092.at_ 9 rfl _ rfl) rfl
     have q1788 : f 24 = (am_ (Value.pointer (some ⟨g1, 0, none⟩)) 0) := vt (hA1092.at_ 10 rfl _ rfl) rfl
     refine bi_ (c := x45 != 0) rfl rfl rfl rfl q1787 hc40 (aq_ (v := (am_ (Value.pointer (some ⟨g1, 0, none⟩)) 0)) (e := a0.edges) rfl fi_ q1788 (((p1.mono ((le2.trans le1033).trans le1160)).at_ I1192).fld Search_view.fld0) (fun u428 hu414 => ?_))
     obtain ⟨z322, m322, k322, e483⟩ := ak_ hu414
     subst e483
     refine ⟨_, _, rfl, PH.Le.refl _, ?_, ?_⟩
     ·
      exact hu414
     ·
      exact I1192
    ·
     intro vs1133 f w1165 S1161 X1093 le1161 hA1093 hK1133 hI1134
     have I1193 : Inv w1165 S1161 (X1093) := hI1134
     have q1789 : f 23 = (Value.bool (x45 != 0)) := vt (hA1093.at_ 9 rfl _ rfl) rfl
     refine bi_ (c := x45 != 0) rfl rfl rfl rfl q1789 hc40 (ac_ (v := (Value.pointer (some ⟨g3, 0, none⟩))) rfl ((hK1133 8 (be_ rfl)).trans e432) ?_)
     refine ⟨_, _, rfl, PH.Le.refl _, ?_, ?_⟩
     ·
      exact rfl
     ·
      exact I1193
    ·
     intro vs1134 f w1166 S1162 X1094 le1162 hA1094 hK1134 hI1135
     have I1194 : Inv w1166 S1162 (X1094) := hI1135
     have q1790 : f 23 = (Value.bool (x45 != 0)) := vt (hA1094.at_ 9 rfl _ rfl) rfl
     have q1791 : f 26 = (Value.pointer (some ⟨g3, 0, none⟩)) := vt (hA1094.at_ 10 rfl _ rfl) rfl
     refine bi_ (c := x45 != 0) rfl rfl rfl rfl q1790 hc40 (bp_ (v := (Value.pointer (some ⟨g3, 0, none⟩))) rfl q1791 rfl ?_)
     refine ⟨_, _, rfl, PH.Le.refl _, ?_, ?_⟩
     ·
      exact rfl
     ·
      exact I1194
    ·
     intro vs1135 f w1167 S1163 X1095 le1163 hA1095 hK1135 hI1136
     have I1195 : Inv w1167 S1163 (X1095) := hI1136
     have q1792 : f 23 = (Value.bool (x45 != 0)) := vt (hA1095.at_ 9 rfl _ rfl) rfl
     have q1793 : f 27 = (Value.pointer (some ⟨g3, 0, none⟩)) := vt (hA1095.at_ 11 rfl _ rfl) rfl
     refine bi_ (c := x45 != 0) rfl rfl rfl rfl q1792 hc40 (az_ (v := (Value.pointer (some ⟨g3, 0, none⟩))) rfl ej_ q1793 rfl ?_)
     refine ⟨_, _, rfl, PH.Le.refl _, ?_, ?_⟩
     ·
      exact rfl
     ·
      exact I1195
    ·
     intro vs1136 f w1168 S1164 X1096 le1164 hA1096 hK1136 hI1137
     have I1196 : Inv w1168 S1164 (ax_ g3 91 #[(Value.slice z280 m280 k280), (Value.slice z281 m281 k281), (Value.int .i64 (s1.2.2.2.1)), (Value.int .i64 (s1.2.2.2.2.1)), (Value.int .i64 (s1.2.2.2.2.2.1)), (Value.slice z282 m282 k282)] :: X1096) := hI1137
     have q1794 : f 23 = (Value.bool (x45 != 0)) := vt (hA1096.at_ 9 rfl _ rfl) rfl
     have q1795 : f 28 = (Value.pointer (some ⟨g3, 4, none⟩)) := vt (hA1096.at_ 12 rfl _ rfl) rfl
     refine bi_ (c := x45 != 0) rfl rfl rfl rfl q1794 hc40 (bz_ (c := (Value.int .i64 (s1.2.2.2.2.2.1))) rfl sh3 (I1196.nth 0 rfl) q1795 rfl ?_)
     refine ⟨_, _, rfl, PH.Le.refl _, ?_, ?_⟩
     ·
      exact rfl
     ·
      exact I1196
    ·
     intro vs1137 f w1169 S1165 X1097 le1165 hA1097 hK1137 hI1138
     have I1197 : Inv w1169 S1165 (X1097) := hI1138
     have q1796 : f 23 = (Value.bool (x45 != 0)) := vt (hA1097.at_ 9 rfl _ rfl) rfl
     have q1797 : f 25 = vs1137 11 := (hA1097.at_ 11 rfl _ rfl).1 _ rfl
     have r206 : RV S1165 (vs1137 11) a0.edges := (hA1097.at_ 11 rfl _ rfl).2
     obtain ⟨u429, hu415⟩ : ∃ u, vs1137 11 = u := ⟨_, rfl⟩
     rw [hu415] at q1797 r206
     obtain ⟨z323, m323, k323, e484⟩ := ak_ r206
     subst e484
     have q1798 : f 29 = (Value.int .i64 (s1.2.2.2.2.2.1)) := vt (hA1097.at_ 15 rfl _ rfl) rfl
     refine bi_ (c := x45 != 0) rfl rfl rfl rfl q1796 hc40 (ao_ (v := (Value.slice z323 m323 k323)) (i := s1.2.2.2.2.2.1) (e := x46) rfl Try.underlying23 en_ q1797 r206 q1798 hx46 ?_)
     refine ⟨_, _, rfl, PH.Le.refl _, ?_, ?_⟩
     ·
      show (ah_ (Value.slice z323 m323 k323) (s1.2.2.2.2.2.1) (Enc.sz (List Edge))) = (ah_ (vs1137 11) (s1.2.2.2.2.2.1) (Enc.sz (List Edge)))
      simp only [hu415] <;> rfl
     ·
      exact I1197
    ·
     intro vs1138 f w1170 S1166 X1098 le1166 hA1098 hK1138 hI1139
     have I1198 : Inv w1170 S1166 (X1098) := hI1139
     have q1799 : f 23 = (Value.bool (x45 != 0)) := vt (hA1098.at_ 9 rfl _ rfl) rfl
     have q1800 : f 25 = vs1138 11 := (hA1098.at_ 11 rfl _ rfl).1 _ rfl
     have r207 : RV S1166 (vs1138 11) a0.edges := (hA1098.at_ 11 rfl _ rfl).2
     obtain ⟨u430, hu416⟩ : ∃ u, vs1138 11 = u := ⟨_, rfl⟩
     rw [hu416] at q1800 r207
     obtain ⟨z324, m324, k324, e485⟩ := ak_ r207
     subst e485
     have q1801 : f 29 = (Value.int .i64 (s1.2.2.2.2.2.1)) := vt (hA1098.at_ 15 rfl _ rfl) rfl
     have q1802 : f 30 = (ah_ (vs1138 11) (s1.2.2.2.2.2.1) (Enc.sz (List Edge))) := vt (hA1098.at_ 16 rfl _ rfl) rfl
     simp only [hu416] at q1802
     have q1802 : f 30 = (ah_ (Value.slice z324 m324 k324) (s1.2.2.2.2.2.1) (Enc.sz (List Edge))) := q1802
     refine bi_ (c := x45 != 0) rfl rfl rfl rfl q1799 hc40 (aq_ (v := (ah_ (Value.slice z324 m324 k324) (s1.2.2.2.2.2.1) (Enc.sz (List Edge)))) (e := x46) rfl en_ q1802 (r207.elem I1198.in_ hx46) (fun u431 hu417 => ?_))
     obtain ⟨z325, m325, k325, e486⟩ := ak_ hu417
     subst e486
     refine ⟨_, _, rfl, PH.Le.refl _, ?_, ?_⟩
     ·
      exact hu417
     ·
      exact I1198
    ·
     intro vs1139 f w1171 S1167 X1099 le1167 hA1099 hK1139 hI1140
     have I1199 : Inv w1171 S1167 (X1099) := hI1140
     have q1803 : f 23 = (Value.bool (x45 != 0)) := vt (hA1099.at_ 9 rfl _ rfl) rfl
     have q1804 : f 31 = vs1139 17 := (hA1099.at_ 17 rfl _ rfl).1 _ rfl
     have r208 : RV S1167 (vs1139 17) x46 := (hA1099.at_ 17 rfl _ rfl).2
     obtain ⟨u432, hu418⟩ : ∃ u, vs1139 17 = u := ⟨_, rfl⟩
     rw [hu418] at q1804 r208
     obtain ⟨z326, m326, k326, e487⟩ := ak_ r208
     subst e487
     refine bi_ (c := x45 != 0) rfl rfl rfl rfl q1803 hc40 (bg_ rfl Try.underlying40 q1804 r208 ?_)
     refine ⟨_, _, rfl, PH.Le.refl _, ?_, ?_⟩
     ·
      exact rfl
     ·
      exact I1199
    ·
     intro vs1140 f w1172 S1168 X1100 le1168 hA1100 hK1140 hI1141
     have I1200 : Inv w1172 S1168 (X1100) := hI1141
     have q1805 : f 23 = (Value.bool (x45 != 0)) := vt (hA1100.at_ 9 rfl _ rfl) rfl
     have q1806 : f 32 = (Value.int .i64 ((x46.length : Int))) := vt (hA1100.at_ 18 rfl _ rfl) rfl
     refine bi_ (c := x45 != 0) rfl rfl rfl rfl q1805 hc40 (dw_ (a := (x46.length : Int)) (b := 0) rfl q1806 rfl ?_)
     refine ⟨_, _, rfl, PH.Le.refl _, ?_, ?_⟩
     ·
      exact rfl
     ·
      exact I1200
    ·
     intro vs1141 f w1173 S1169 X1101 le1169 hA1101 hK1141 hI1142
     have I1201 : Inv w1173 S1169 (X1101) := hI1142
     have q1807 : f 23 = (Value.bool (x45 != 0)) := vt (hA1101.at_ 9 rfl _ rfl) rfl
     have q1808 : f 33 = (Value.bool (decide (0 < (x46.length : Int)))) := vt (hA1101.at_ 19 rfl _ rfl) rfl
     refine af_ rfl rfl (bb_ (c := x45 != 0) (a := (Value.bool (decide (0 < (x46.length : Int))))) rfl q1807 hc40 q1808 ?_)
     refine ⟨_, _, rfl, PH.Le.refl _, ?_, ?_⟩
     ·
      exact rfl
     ·
      exact I1201
    ·
     intro vs1142 f w1174 S1170 X1102 le1170 hA1102 hK1142 hI1143
     have I1202 : Inv w1174 S1170 (X1102) := hI1143
     have q1809 : f 34 = (Value.bool (decide (0 < (x46.length : Int)))) := vt (hA1102.at_ 20 rfl _ rfl) rfl
     refine af_ rfl rfl (ac_ (v := (Value.bool (decide (0 < (x46.length : Int))))) rfl q1809 ?_)
     refine ⟨_, _, rfl, PH.Le.refl _, ?_, ?_⟩
     ·
      exact rfl
     ·
      exact I1202
    ·
     intro vs1143 f w1175 S1171 X1103 le1171 hA1103 hK1143 hI1144
     have I1203 : Inv w1175 S1171 (X1103) := hI1144
     have q1810 : f 35 = (Value.bool (decide (0 < (x46.length : Int)))) := vt (hA1103.at_ 21 rfl _ rfl) rfl
     exact bq_ (c := decide (0 < (x46.length : Int))) rfl rfl rfl rfl q1810 hc41 rfl ⟨_, _, rfl, PH.Le.refl _, rfl, I1203⟩
    ·
     intro vs1144 f w1176 S1172 X1104 le1172 hA1104 hK1144 hI1145
     have I1204 : Inv w1176 S1172 (X1104) := hI1145
     have q1811 : f 35 = (Value.bool (decide (0 < (x46.length : Int)))) := vt (hA1104.at_ 21 rfl _ rfl) rfl
     have q1812 : f 36 = undef := vt (hA1104.at_ 22 rfl _ rfl) rfl
     exact bq_ (c := decide (0 < (x46.length : Int))) rfl rfl rfl rfl q1811 hc41 rfl ⟨_, _, rfl, PH.Le.refl _, rfl, I1204⟩
    ·
     intro vs1145 f w1177 S1173 X1105 le1173 hA1105 hK1145 hI1146
     have I1205 : Inv w1177 S1173 (X1105) := hI1146
     have q1813 : f 35 = (Value.bool (decide (0 < (x46.length : Int)))) := vt (hA1105.at_ 21 rfl _ rfl) rfl
     exact bq_ (c := decide (0 < (x46.length : Int))) rfl rfl rfl rfl q1813 hc41 rfl ⟨_, _, rfl, PH.Le.refl _, rfl, I1205⟩
    ·
     intro vs1146 f w1178 S1174 X1106 le1174 hA1106 hK1146 hI1147
     have I1206 : Inv w1178 S1174 (X1106) := hI1147
     have q1814 : f 35 = (Value.bool (decide (0 < (x46.length : Int)))) := vt (hA1106.at_ 21 rfl _ rfl) rfl
     have q1815 : f 37 = undef := vt (hA1106.at_ 23 rfl _ rfl) rfl
     have q1816 : f 38 = undef := vt (hA1106.at_ 24 rfl _ rfl) rfl
     exact bq_ (c := decide (0 < (x46.length : Int))) rfl rfl rfl rfl q1814 hc41 rfl ⟨_, _, rfl, PH.Le.refl _, rfl, I1206⟩
    ·
     intro vs1147 f w1179 S1175 X1107 le1175 hA1107 hK1147 hI1148
     have I1207 : Inv w1179 S1175 (X1107) := hI1148
     have q1817 : f 35 = (Value.bool (decide (0 < (x46.length : Int)))) := vt (hA1107.at_ 21 rfl _ rfl) rfl
     have q1818 : f 39 = undef := vt (hA1107.at_ 25 rfl _ rfl) rfl
     refine af_ rfl rfl (ay_ (c := decide (0 < (x46.length : Int))) (b := (Value.bool (false))) rfl q1817 hc41 rfl ?_)
     refine ⟨_, _, rfl, PH.Le.refl _, ?_, ?_⟩
     ·
      exact rfl
     ·
      exact I1207
    ·
     intro vs1148 f w1180 S1176 ed48 le1176 hF41 hK1148 hI1149
     have e488 : f 2 = (Value.int .i64 (a2)) := (hK1148 2 (bc_ rfl)).trans e429
     have e489 : f 3 = (Value.pointer (some ⟨g1, 0, none⟩)) := (hK1148 3 (bc_ rfl)).trans e430
     have e490 : f 6 = (Value.slice z279 m279 k279) := (hK1148 6 (bc_ rfl)).trans e431
     have e491 : f 8 = (Value.pointer (some ⟨g3, 0, none⟩)) := (hK1148 8 (bc_ rfl)).trans e432
     have I1208 : Inv w1180 S1176 (ax_ g3 91 #[(Value.slice z280 m280 k280), (Value.slice z281 m281 k281), (Value.int .i64 (s1.2.2.2.1)), (Value.int .i64 (s1.2.2.2.2.1)), (Value.int .i64 (s1.2.2.2.2.2.1)), (Value.slice z282 m282 k282)] :: Row (α := Int) 3 (Value.slice z279 m279 k279) (s1.1) :: Row (α := Search_gone) 103 (Value.slice z282 m282 k282) (s1.2.2.2.2.2.2) :: Fr) := hI1149
     have q1819 : f 40 = (Value.bool (false)) := vt (hF41.at_ 26 rfl _ rfl) rfl
     refine ap_ (b := false) q1819 rfl ?_
     refine bm_ ?_
     obtain rfl := Option.some.inj h7
     obtain rfl := (hout1 _ rfl)
     exact ⟨_, _, _, _, _, _, _, _, _, _, _, _, _, (le1033.trans le1176), (((I1208.pull 2).pull 1).pull 2), e488, e489, e490, e491, (r179.mono le1176), (r180.mono le1176), (ed48.trans ed43)⟩
  ·
   refine cn_ (sps := [⟨some 14, [], [0], fun vs_ T_ => fr0 vs_ 0 = (am_ (Value.pointer (some ⟨g1, 0, none⟩)) 1), [], [], [], fun _ h_ => h_⟩, ⟨some 15, [0], [1], fun vs_ T_ => RV T_ (fr0 vs_ 0) a0.distances, [], [], [], fun hle_ h_ => h_.mono hle_⟩, ⟨some 16, [], [2], fun vs_ T_ => fr0 vs_ 0 = (Value.pointer (some ⟨g3, 0, none⟩)), [], [], [], fun _ h_ => h_⟩, ⟨some 17, [2], [3], fun vs_ T_ => fr0 vs_ 0 = (Value.pointer (some ⟨g3, 0, none⟩)), [], [], [], fun _ h_ => h_⟩, ⟨some 18, [2, 3], [4], fun vs_ T_ => fr0 vs_ 0 = (Value.pointer (some ⟨g3, 4, none⟩)), [], [], [], fun _ h_ => h_⟩, ⟨some 19, [2, 3, 4], [5], fun vs_ T_ => fr0 vs_ 0 = (Value.int .i64 (s1.2.2.2.2.2.1)), [0], [], [], fun _ h_ => h_⟩, ⟨some 20, [0, 1, 2, 3, 4, 5], [6, 1], fun vs_ T_ => fr0 vs_ 0 = (ah_ (fr0 vs_ 1) (s1.2.2.2.2.2.1) (Enc.sz Int)), [], [], [], fun _ h_ => h_⟩, ⟨some 21, [0, 1, 2, 3, 4, 5, 6], [7], fun vs_ T_ => fr0 vs_ 0 = (Value.int .i64 (x45)), [], [], [], fun _ h_ => h_⟩, ⟨some 22, [0, 1, 2, 3, 4, 5, 6, 7], [8], fun vs_ T_ => fr0 vs_ 0 = (Value.bool (x45 != 0)), [], [], [], fun _ h_ => h_⟩, ⟨some 23, [0, 1, 2, 3, 4, 5, 6, 7, 8], [9], fun vs_ T_ => fr0 vs_ 0 = (Value.bool (x45 != 0)), [], [], [], fun _ h_ => h_⟩, ⟨some 24, [0, 1, 2, 3, 4, 5, 6, 7, 8, 9], [10], fun vs_ T_ => fr0 vs_ 0 = undef, [], [], [], fun _ h_ => h_⟩, ⟨some 25, [0, 1, 2, 3, 4, 5, 6, 7, 8, 9, 10], [11], fun vs_ T_ => fr0 vs_ 0 = undef, [], [], [], fun _ h_ => h_⟩, ⟨some 26, [0, 1, 2, 3, 4, 5, 6, 7, 8, 9], [12], fun vs_ T_ => fr0 vs_ 0 = undef, [], [], [], fun _ h_ => h_⟩, ⟨some 27, [0, 1, 2, 3, 4, 5, 6, 7, 8, 9, 12], [13], fun vs_ T_ => fr0 vs_ 0 = undef, [], [], [], fun _ h_ => h_⟩, ⟨some 28, [0, 1, 2, 3, 4, 5, 6, 7, 8, 9, 12, 13], [14], fun vs_ T_ => fr0 vs_ 0 = undef, [], [], [], fun _ h_ => h_⟩, ⟨some 29, [0, 1, 2, 3, 4, 5, 6, 7, 8, 9, 12, 13, 14], [15], fun vs_ T_ => fr0 vs_ 0 = undef, [], [], [], fun _ h_ => h_⟩, ⟨some 30, [0, 1, 2, 3, 4, 5, 6, 7, 8, 9, 10, 11, 12, 13, 14, 15], [16], fun vs_ T_ => fr0 vs_ 0 = undef, [], [], [], fun _ h_ => h_⟩, ⟨some 31, [0, 1, 2, 3, 4, 5, 6, 7, 8, 9, 10, 11, 12, 13, 14, 15, 16], [17], fun vs_ T_ => fr0 vs_ 0 = undef, [], [], [], fun _ h_ => h_⟩, ⟨some 32, [0, 1, 2, 3, 4, 5, 6, 7, 8, 9, 10, 11, 12, 13, 14, 15, 16, 17], [18], fun vs_ T_ => fr0 vs_ 0 = undef, [], [], [], fun _ h_ => h_⟩, ⟨some 33, [0, 1, 2, 3, 4, 5, 6, 7, 8, 9, 10, 11, 12, 13, 14, 15, 16, 17, 18], [19], fun vs_ T_ => fr0 vs_ 0 = undef, [], [], [], fun _ h_ => h_⟩, ⟨some 34, [0, 1, 2, 3, 4, 5, 6, 7, 8, 9, 10, 11, 12, 13, 14, 15, 16, 17, 18, 19], [20], fun vs_ T_ => fr0 vs_ 0 = (Value.bool (false)), [], [], [], fun _ h_ => h_⟩, ⟨some 35, [0, 1, 2, 3, 4, 5, 6, 7, 8, 9, 10, 11, 12, 13, 14, 15, 16, 17, 18, 19, 20], [21], fun vs_ T_ => fr0 vs_ 0 = (Value.bool (false)), [], [], [], fun _ h_ => h_⟩, ⟨some 36, [0, 1, 2, 3, 4, 5, 6, 7, 8, 9, 10, 11, 12, 13, 14, 15, 16, 17, 18, 19, 20, 21], [22], fun vs_ T_ => fr0 vs_ 0 = undef, [], [], [], fun _ h_ => h_⟩, ⟨some 37, [0, 1, 2, 3, 4, 5, 6, 7, 8, 9, 10, 11, 12, 13, 14, 15, 16, 17, 18, 19, 20, 21, 22], [23], fun vs_ T_ => fr0 vs_ 0 = undef, [], [], [], fun _ h_ => h_⟩, ⟨some 38, [0, 1, 2, 3, 4, 5, 6, 7, 8, 9, 10, 11, 12, 13, 14, 15, 16, 17, 18, 19, 20, 21], [24], fun vs_ T_ => fr0 vs_ 0 = undef, [], [], [], fun _ h_ => h_⟩, ⟨some 39, [0, 1, 2, 3, 4, 5, 6, 7, 8, 9, 10, 11, 12, 13, 14, 15, 16, 17, 18, 19, 20, 21, 22, 23, 24], [25], fun vs_ T_ => fr0 vs_ 0 = undef, [], [], [], fun _ h_ => h_⟩, ⟨some 40, [0, 1, 2, 3, 4, 5, 6, 7, 8, 9, 10, 11, 12, 13, 14, 15, 16, 17, 18, 19, 20, 21, 22, 23, 24, 25], [26], fun vs_ T_ => fr0 vs_ 0 = (Value.bool (false)), [], [], [], fun _ h_ => h_⟩]) (tks := [⟨none, none, [], fun vs_ => ax_ g3 91 #[(Value.slice z280 m280 k280), (Value.slice z281 m281 k281), (Value.int .i64 (s1.2.2.2.1)), (Value.int .i64 (s1.2.2.2.2.1)), (Value.int .i64 (s1.2.2.2.2.2.1)), (Value.slice z282 m282 k282)]⟩]) (O := Row (α := Int) 3 (Value.slice z279 m279 k279) (s1.1) :: Row (α := Search_gone) 103 (Value.slice z282 m282 k282) (s1.2.2.2.2.2.2) :: Fr) rfl (by kernel_rfl) (I1062.pull 1) ⟨?_, ?_, ?_, ?_, ?_, ?_, ?_, ?_, ?_, ?_, ?_, ?_, ?_, ?_, ?_, ?_, ?_, ?_, ?_, ?_, ?_, ?_, ?_, ?_, ?_, ?_, ?_, trivial⟩ ?_
   ·
    intro vs1149 f w1181 S1177 X1108 le1177 hA1108 hK1149 hI1150
    have I1209 : Inv w1181 S1177 (X1108) := hI1150
    refine af_ rfl rfl (aj_ (v := (Value.pointer (some ⟨g1, 0, none⟩))) rfl iv_ ((hK1149 3 (be_ rfl)).trans e430) ((p1.mono ((le2.trans le1033).trans le1177)).at_ I1209) ?_)
    refine ⟨_, _, rfl, PH.Le.refl _, ?_, ?_⟩
    ·
     exact rfl
    ·
     exact I1209
   ·
    intro vs1150 f w1182 S1178 X1109 le1178 hA1109 hK1150 hI1151
    have I1210 : Inv w1182 S1178 (X1109) := hI1151
    have q1820 : f 14 = (am_ (Value.pointer (some ⟨g1, 0, none⟩)) 1) := vt (hA1109.at_ 0 rfl _ rfl) rfl
    refine af_ rfl rfl (aq_ (v := (am_ (Value.pointer (some ⟨g1, 0, none⟩)) 1)) (e := a0.distances) rfl hm_ q1820 (((p1.mono ((le2.trans le1033).trans le1178)).at_ I1210).fld Search_view.fld1) (fun u434 hu420 => ?_))
    obtain ⟨z327, m327, k327, e492⟩ := ak_ hu420
    subst e492
    refine ⟨_, _, rfl, PH.Le.refl _, ?_, ?_⟩
    ·
     exact hu420
    ·
     exact I1210
   ·
    intro vs1151 f w1183 S1179 X1110 le1179 hA1110 hK1151 hI1152
    have I1211 : Inv w1183 S1179 (X1110) := hI1152
    refine af_ rfl rfl (ac_ (v := (Value.pointer (some ⟨g3, 0, none⟩))) rfl ((hK1151 8 (be_ rfl)).trans e432) ?_)
    refine ⟨_, _, rfl, PH.Le.refl _, ?_, ?_⟩
    ·
     exact rfl
    ·
     exact I1211
   ·
    intro vs1152 f w1184 S1180 X1111 le1180 hA1111 hK1152 hI1153
    have I1212 : Inv w1184 S1180 (X1111) := hI1153
    have q1821 : f 16 = (Value.pointer (some ⟨g3, 0, none⟩)) := vt (hA1111.at_ 0 rfl _ rfl) rfl
    refine af_ rfl rfl (bp_ (v := (Value.pointer (some ⟨g3, 0, none⟩))) rfl q1821 rfl ?_)
    refine ⟨_, _, rfl, PH.Le.refl _, ?_, ?_⟩
    ·
     exact rfl
    ·
     exact I1212
   ·
    intro vs1153 f w1185 S1181 X1112 le1181 hA1112 hK1153 hI1154
    have I1213 : Inv w1185 S1181 (X1112) := hI1154
    have q1822 : f 17 = (Value.pointer (some ⟨g3, 0, none⟩)) := vt (hA1112.at_ 1 rfl _ rfl) rfl
    refine af_ rfl rfl (az_ (v := (Value.pointer (some ⟨g3, 0, none⟩))) rfl ej_ q1822 rfl ?_)
    refine ⟨_, _, rfl, PH.Le.refl _, ?_, ?_⟩
    ·
     exact rfl
    ·
     exact I1213
   ·
    intro vs1154 f w1186 S1182 X1113 le1182 hA1113 hK1154 hI1155
    have I1214 : Inv w1186 S1182 (ax_ g3 91 #[(Value.slice z280 m280 k280), (Value.slice z281 m281 k281), (Value.int .i64 (s1.2.2.2.1)), (Value.int .i64 (s1.2.2.2.2.1)), (Value.int .i64 (s1.2.2.2.2.2.1)), (Value.slice z282 m282 k282)] :: X1113) := hI1155
    have q1823 : f 18 = (Value.pointer (some ⟨g3, 4, none⟩)) := vt (hA1113.at_ 2 rfl _ rfl) rfl
    refine af_ rfl rfl (bz_ (c := (Value.int .i64 (s1.2.2.2.2.2.1))) rfl sh3 (I1214.nth 0 rfl) q1823 rfl ?_)
    refine ⟨_, _, rfl, PH.Le.refl _, ?_, ?_⟩
    ·
     exact rfl
    ·
     exact I1214
   ·
    intro vs1155 f w1187 S1183 X1114 le1183 hA1114 hK1155 hI1156
    have I1215 : Inv w1187 S1183 (X1114) := hI1156
    have q1824 : f 15 = vs1155 1 := (hA1114.at_ 1 rfl _ rfl).1 _ rfl
    have r209 : RV S1183 (vs1155 1) a0.distances := (hA1114.at_ 1 rfl _ rfl).2
    obtain ⟨u435, hu421⟩ : ∃ u, vs1155 1 = u := ⟨_, rfl⟩
    rw [hu421] at q1824 r209
    obtain ⟨z328, m328, k328, e493⟩ := ak_ r209
    subst e493
    have q1825 : f 19 = (Value.int .i64 (s1.2.2.2.2.2.1)) := vt (hA1114.at_ 5 rfl _ rfl) rfl
    refine af_ rfl rfl (ao_ (v := (Value.slice z328 m328 k328)) (i := s1.2.2.2.2.2.1) (e := x45) rfl Try.underlying26 sh3 q1824 r209 q1825 hx45 ?_)
    refine ⟨_, _, rfl, PH.Le.refl _, ?_, ?_⟩
    ·
     show (ah_ (Value.slice z328 m328 k328) (s1.2.2.2.2.2.1) (Enc.sz Int)) = (ah_ (vs1155 1) (s1.2.2.2.2.2.1) (Enc.sz Int))
     simp only [hu421] <;> rfl
    ·
     exact I1215
   ·
    intro vs1156 f w1188 S1184 X1115 le1184 hA1115 hK1156 hI1157
    have I1216 : Inv w1188 S1184 (X1115) := hI1157
    have q1826 : f 15 = vs1156 1 := (hA1115.at_ 1 rfl _ rfl).1 _ rfl
    have r210 : RV S1184 (vs1156 1) a0.distances := (hA1115.at_ 1 rfl _ rfl).2
    obtain ⟨u436, hu422⟩ : ∃ u, vs1156 1 = u := ⟨_, rfl⟩
    rw [hu422] at q1826 r210
    obtain ⟨z329, m329, k329, e494⟩ := ak_ r210
    subst e494
    have q1827 : f 19 = (Value.int .i64 (s1.2.2.2.2.2.1)) := vt (hA1115.at_ 5 rfl _ rfl) rfl
    have q1828 : f 20 = (ah_ (vs1156 1) (s1.2.2.2.2.2.1) (Enc.sz Int)) := vt (hA1115.at_ 6 rfl _ rfl) rfl
    simp only [hu422] at q1828
    have q1828 : f 20 = (ah_ (Value.slice z329 m329 k329) (s1.2.2.2.2.2.1) (Enc.sz Int)) := q1828
    refine af_ rfl rfl (av_ (v := (ah_ (Value.slice z329 m329 k329) (s1.2.2.2.2.2.1) (Enc.sz Int))) (e := x45) rfl sh3 q1828 (r210.elem I1216.in_ hx45) ?_)
    refine ⟨_, _, rfl, PH.Le.refl _, ?_, ?_⟩
    ·
     exact rfl
    ·
     exact I1216
   ·
    intro vs1157 f w1189 S1185 X1116 le1185 hA1116 hK1157 hI1158
    have I1217 : Inv w1189 S1185 (X1116) := hI1158
    have q1829 : f 21 = (Value.int .i64 (x45)) := vt (hA1116.at_ 7 rfl _ rfl) rfl
    refine af_ rfl rfl (cz_ (a := x45) (b := 0) rfl q1829 rfl ?_)
    refine ⟨_, _, rfl, PH.Le.refl _, ?_, ?_⟩
    ·
     exact rfl
    ·
     exact I1217
   ·
    intro vs1158 f w1190 S1186 X1117 le1186 hA1117 hK1158 hI1159
    have I1218 : Inv w1190 S1186 (X1117) := hI1159
    have q1830 : f 22 = (Value.bool (x45 != 0)) := vt (hA1117.at_ 8 rfl _ rfl) rfl
    refine af_ rfl rfl (ac_ (v := (Value.bool (x45 != 0))) rfl q1830 ?_)
    refine ⟨_, _, rfl, PH.Le.refl _, ?_, ?_⟩
    ·
     exact rfl
    ·
     exact I1218
   ·
    intro vs1159 f w1191 S1187 X1118 le1187 hA1118 hK1159 hI1160
    have I1219 : Inv w1191 S1187 (X1118) := hI1160
    have q1831 : f 23 = (Value.bool (x45 != 0)) := vt (hA1118.at_ 9 rfl _ rfl) rfl
    exact bq_ (c := x45 != 0) rfl rfl rfl rfl q1831 hc40 rfl ⟨_, _, rfl, PH.Le.refl _, rfl, I1219⟩
   ·
    intro vs1160 f w1192 S1188 X1119 le1188 hA1119 hK1160 hI1161
    have I1220 : Inv w1192 S1188 (X1119) := hI1161
    have q1832 : f 23 = (Value.bool (x45 != 0)) := vt (hA1119.at_ 9 rfl _ rfl) rfl
    have q1833 : f 24 = undef := vt (hA1119.at_ 10 rfl _ rfl) rfl
    exact bq_ (c := x45 != 0) rfl rfl rfl rfl q1832 hc40 rfl ⟨_, _, rfl, PH.Le.refl _, rfl, I1220⟩
   ·
    intro vs1161 f w1193 S1189 X1120 le1189 hA1120 hK1161 hI1162
    have I1221 : Inv w1193 S1189 (X1120) := hI1162
    have q1834 : f 23 = (Value.bool (x45 != 0)) := vt (hA1120.at_ 9 rfl _ rfl) rfl
    exact bq_ (c := x45 != 0) rfl rfl rfl rfl q1834 hc40 rfl ⟨_, _, rfl, PH.Le.refl _, rfl, I1221⟩
   ·
    intro vs1162 f w1194 S1190 X1121 le1190 hA1121 hK1162 hI1163
    have I1222 : Inv w1194 S1190 (X1121) := hI1163
    have q1835 : f 23 = (Value.bool (x45 != 0)) := vt (hA1121.at_ 9 rfl _ rfl) rfl
    have q1836 : f 26 = undef := vt (hA1121.at_ 10 rfl _ rfl) rfl
    exact bq_ (c := x45 != 0) rfl rfl rfl rfl q1835 hc40 rfl ⟨_, _, rfl, PH.Le.refl _, rfl, I1222⟩
   ·
    intro vs1163 f w1195 S1191 X1122 le1191 hA1122 hK1163 hI1164
    have I1223 : Inv w1195 S1191 (X1122) := hI1164
    have q1837 : f 23 = (Value.bool (x45 != 0)) := vt (hA1122.at_ 9 rfl _ rfl) rfl
    have q1838 : f 27 = undef := vt (hA1122.at_ 11 rfl _ rfl) rfl
    exact bq_ (c := x45 != 0) rfl rfl rfl rfl q1837 hc40 rfl ⟨_, _, rfl, PH.Le.refl _, rfl, I1223⟩
   ·
    intro vs1164 f w1196 S1192 X1123 le1192 hA1123 hK1164 hI1165
    have I1224 : Inv w1196 S1192 (X1123) := hI1165
    have q1839 : f 23 = (Value.bool (x45 != 0)) := vt (hA1123.at_ 9 rfl _ rfl) rfl
    have q1840 : f 28 = undef := vt (hA1123.at_ 12 rfl _ rfl) rfl
    exact bq_ (c := x45 != 0) rfl rfl rfl rfl q1839 hc40 rfl ⟨_, _, rfl, PH.Le.refl _, rfl, I1224⟩
   ·
    intro vs1165 f w1197 S1193 X1124 le1193 hA1124 hK1165 hI1166
    have I1225 : Inv w1197 S1193 (X1124) := hI1166
    have q1841 : f 23 = (Value.bool (x45 != 0)) := vt (hA1124.at_ 9 rfl _ rfl) rfl
    have q1842 : f 25 = undef := vt (hA1124.at_ 11 rfl _ rfl) rfl
    have q1843 : f 29 = undef := vt (hA1124.at_ 15 rfl _ rfl) rfl
    exact bq_ (c := x45 != 0) rfl rfl rfl rfl q1841 hc40 rfl ⟨_, _, rfl, PH.Le.refl _, rfl, I1225⟩
   ·
    intro vs1166 f w1198 S1194 X1125 le1194 hA1125 hK1166 hI1167
    have I1226 : Inv w1198 S1194 (X1125) := hI1167
    have q1844 : f 23 = (Value.bool (x45 != 0)) := vt (hA1125.at_ 9 rfl _ rfl) rfl
    have q1845 : f 30 = undef := vt (hA1125.at_ 16 rfl _ rfl) rfl
    exact bq_ (c := x45 != 0) rfl rfl rfl rfl q1844 hc40 rfl ⟨_, _, rfl, PH.Le.refl _, rfl, I1226⟩
   ·
    intro vs1167 f w1199 S1195 X1126 le1195 hA1126 hK1167 hI1168
    have I1227 : Inv w1199 S1195 (X1126) := hI1168
    have q1846 : f 23 = (Value.bool (x45 != 0)) := vt (hA1126.at_ 9 rfl _ rfl) rfl
    have q1847 : f 31 = undef := vt (hA1126.at_ 17 rfl _ rfl) rfl
    exact bq_ (c := x45 != 0) rfl rfl rfl rfl q1846 hc40 rfl ⟨_, _, rfl, PH.Le.refl _, rfl, I1227⟩
   ·
    intro vs1168 f w1200 S1196 X1127 le1196 hA1127 hK1168 hI1169
    have I1228 : Inv w1200 S1196 (X1127) := hI1169
    have q1848 : f 23 = (Value.bool (x45 != 0)) := vt (hA1127.at_ 9 rfl _ rfl) rfl
    have q1849 : f 32 = undef := vt (hA1127.at_ 18 rfl _ rfl) rfl
    exact bq_ (c := x45 != 0) rfl rfl rfl rfl q1848 hc40 rfl ⟨_, _, rfl, PH.Le.refl _, rfl, I1228⟩
   ·
    intro vs1169 f w1201 S1197 X1128 le1197 hA1128 hK1169 hI1170
    have I1229 : Inv w1201 S1197 (X1128) := hI1170
    have q1850 : f 23 = (Value.bool (x45 != 0)) := vt (hA1128.at_ 9 rfl _ rfl) rfl
    have q1851 : f 33 = undef := vt (hA1128.at_ 19 rfl _ rfl) rfl
    refine af_ rfl rfl (ay_ (c := x45 != 0) (b := (Value.bool (false))) rfl q1850 hc40 rfl ?_)
    refine ⟨_, _, rfl, PH.Le.refl _, ?_, ?_⟩
    ·
     exact rfl
    ·
     exact I1229
   ·
    intro vs1170 f w1202 S1198 X1129 le1198 hA1129 hK1170 hI1171
    have I1230 : Inv w1202 S1198 (X1129) := hI1171
    have q1852 : f 34 = (Value.bool (false)) := vt (hA1129.at_ 20 rfl _ rfl) rfl
    refine af_ rfl rfl (ac_ (v := (Value.bool (false))) rfl q1852 ?_)
    refine ⟨_, _, rfl, PH.Le.refl _, ?_, ?_⟩
    ·
     exact rfl
    ·
     exact I1230
   ·
    intro vs1171 f w1203 S1199 X1130 le1199 hA1130 hK1171 hI1172
    have I1231 : Inv w1203 S1199 (X1130) := hI1172
    have q1853 : f 35 = (Value.bool (false)) := vt (hA1130.at_ 21 rfl _ rfl) rfl
    exact bq_ (c := false) rfl rfl rfl rfl q1853 rfl rfl ⟨_, _, rfl, PH.Le.refl _, rfl, I1231⟩
   ·
    intro vs1172 f w1204 S1200 X1131 le1200 hA1131 hK1172 hI1173
    have I1232 : Inv w1204 S1200 (X1131) := hI1173
    have q1854 : f 35 = (Value.bool (false)) := vt (hA1131.at_ 21 rfl _ rfl) rfl
    have q1855 : f 36 = undef := vt (hA1131.at_ 22 rfl _ rfl) rfl
    exact bq_ (c := false) rfl rfl rfl rfl q1854 rfl rfl ⟨_, _, rfl, PH.Le.refl _, rfl, I1232⟩
   ·
    intro vs1173 f w1205 S1201 X1132 le1201 hA1132 hK1173 hI1174
    have I1233 : Inv w1205 S1201 (X1132) := hI1174
    have q1856 : f 35 = (Value.bool (false)) := vt (hA1132.at_ 21 rfl _ rfl) rfl
    exact bq_ (c := false) rfl rfl rfl rfl q1856 rfl rfl ⟨_, _, rfl, PH.Le.refl _, rfl, I1233⟩
   ·
    intro vs1174 f w1206 S1202 X1133 le1202 hA1133 hK1174 hI1175
    have I1234 : Inv w1206 S1202 (X1133) := hI1175
    have q1857 : f 35 = (Value.bool (false)) := vt (hA1133.at_ 21 rfl _ rfl) rfl
    have q1858 : f 37 = undef := vt (hA1133.at_ 23 rfl _ rfl) rfl
    have q1859 : f 38 = undef := vt (hA1133.at_ 24 rfl _ rfl) rfl
    exact bq_ (c := false) rfl rfl rfl rfl q1857 rfl rfl ⟨_, _, rfl, PH.Le.refl _, rfl, I1234⟩
   ·
    intro vs1175 f w1207 S1203 X1134 le1203 hA1134 hK1175 hI1176
    have I1235 : Inv w1207 S1203 (X1134) := hI1176
    have q1860 : f 35 = (Value.bool (false)) := vt (hA1134.at_ 21 rfl _ rfl) rfl
    have q1861 : f 39 = undef := vt (hA1134.at_ 25 rfl _ rfl) rfl
    refine af_ rfl rfl (ay_ (c := false) (b := (Value.bool (false))) rfl q1860 rfl rfl ?_)
    refine ⟨_, _, rfl, PH.Le.refl _, ?_, ?_⟩
    ·
     exact rfl
    ·
     exact I1235
   ·
    intro vs1176 f w1208 S1204 ed49 le1204 hF42 hK1176 hI1177
    have e495 : f 2 = (Value.int .i64 (a2)) := (hK1176 2 (bc_ rfl)).trans e429
    have e496 : f 3 = (Value.pointer (some ⟨g1, 0, none⟩)) := (hK1176 3 (bc_ rfl)).trans e430
    have e497 : f 6 = (Value.slice z279 m279 k279) := (hK1176 6 (bc_ rfl)).trans e431
    have e498 : f 8 = (Value.pointer (some ⟨g3, 0, none⟩)) := (hK1176 8 (bc_ rfl)).trans e432
    have I1236 : Inv w1208 S1204 (ax_ g3 91 #[(Value.slice z280 m280 k280), (Value.slice z281 m281 k281), (Value.int .i64 (s1.2.2.2.1)), (Value.int .i64 (s1.2.2.2.2.1)), (Value.int .i64 (s1.2.2.2.2.2.1)), (Value.slice z282 m282 k282)] :: Row (α := Int) 3 (Value.slice z279 m279 k279) (s1.1) :: Row (α := Search_gone) 103 (Value.slice z282 m282 k282) (s1.2.2.2.2.2.2) :: Fr) := hI1177
    have q1862 : f 40 = (Value.bool (false)) := vt (hF42.at_ 26 rfl _ rfl) rfl
    refine ap_ (b := false) q1862 rfl ?_
    refine bm_ ?_
    obtain rfl := Option.some.inj h7
    obtain rfl := (hout1 _ rfl)
    exact ⟨_, _, _, _, _, _, _, _, _, _, _, _, _, (le1033.trans le1204), (((I1236.pull 2).pull 1).pull 2), e495, e496, e497, e498, (r179.mono le1204), (r180.mono le1204), (ed49.trans ed43)⟩
 ·
  rintro f w ⟨S1205, z283, m283, k283, z284, m284, k284, z285, m285, k285, z286, m286, k286, le1205, I1237, e499, e500, e501, e502, r181, r182, ed50⟩
  refine ad_ ?_
  obtain ⟨x50, hx50, h⟩ := bnd h
  refine cn_ (sps := [⟨some 50, [], [0], fun vs_ T_ => fr0 vs_ 0 = (Value.slice z283 m283 k283), [], [], [], fun _ h_ => h_⟩, ⟨some 51, [], [1], fun vs_ T_ => fr0 vs_ 0 = (am_ (Value.pointer (some ⟨g1, 0, none⟩)) 1), [], [], [], fun _ h_ => h_⟩, ⟨some 52, [1], [2], fun vs_ T_ => RV T_ (fr0 vs_ 0) a0.distances, [], [], [], fun hle_ h_ => h_.mono hle_⟩, ⟨some 53, [], [3], fun vs_ T_ => fr0 vs_ 0 = (Value.pointer (some ⟨g3, 0, none⟩)), [], [], [], fun _ h_ => h_⟩, ⟨some 54, [3], [4], fun vs_ T_ => fr0 vs_ 0 = (Value.pointer (some ⟨g3, 0, none⟩)), [], [], [], fun _ h_ => h_⟩, ⟨some 55, [3, 4], [5], fun vs_ T_ => fr0 vs_ 0 = (Value.pointer (some ⟨g3, 4, none⟩)), [], [], [], fun _ h_ => h_⟩, ⟨some 56, [3, 4, 5], [6], fun vs_ T_ => fr0 vs_ 0 = (Value.int .i64 (out1.2.2.2.2.2.1)), [0], [], [], fun _ h_ => h_⟩, ⟨some 57, [1, 2, 3, 4, 5, 6], [7, 2], fun vs_ T_ => fr0 vs_ 0 = (ah_ (fr0 vs_ 1) (out1.2.2.2.2.2.1) (Enc.sz Int)), [], [], [], fun _ h_ => h_⟩, ⟨some 58, [1, 2, 3, 4, 5, 6, 7], [8], fun vs_ T_ => fr0 vs_ 0 = (Value.int .i64 (x50)), [], [], [], fun _ h_ => h_⟩, ⟨some 59, [1, 2, 3, 4, 5, 6, 7, 8], [9], fun vs_ T_ => fr0 vs_ 0 = (Value.bool (x50 == 0)), [], [], [], fun _ h_ => h_⟩, ⟨some 6, [0], [10], fun vs_ T_ => fr0 vs_ 0 = (Value.slice z283 m283 k283), [], [], [], fun _ h_ => h_⟩, ⟨some 7, [0, 1, 2, 3, 4, 5, 6, 7, 8, 9, 10], [11], fun vs_ T_ => fr0 vs_ 0 = (Value.bool (x50 == 0)), [], [], [], fun _ h_ => h_⟩]) (tks := [⟨none, none, [], fun vs_ => ax_ g3 91 #[(Value.slice z284 m284 k284), (Value.slice z285 m285 k285), (Value.int .i64 (out1.2.2.2.1)), (Value.int .i64 (out1.2.2.2.2.1)), (Value.int .i64 (out1.2.2.2.2.2.1)), (Value.slice z286 m286 k286)]⟩]) (O := Row (α := Int) 3 (Value.slice z283 m283 k283) (out1.1) :: Row (α := Search_gone) 103 (Value.slice z286 m286 k286) (out1.2.2.2.2.2.2) :: Fr) rfl (by kernel_rfl) (I1237.pull 1) ⟨?_, ?_, ?_, ?_, ?_, ?_, ?_, ?_, ?_, ?_, ?_, ?_, trivial⟩ ?_
  ·
   intro vs1177 f w1209 S1206 X1135 le1206 hA1135 hK1177 hI1178
   have I1238 : Inv w1209 S1206 (X1135) := hI1178
   refine af_ rfl rfl (ac_ (v := (Value.slice z283 m283 k283)) rfl ((hK1177 6 (be_ rfl)).trans e501) ?_)
   refine ⟨_, _, rfl, PH.Le.refl _, ?_, ?_⟩
   ·
    exact rfl
   ·
    exact I1238
  ·
   intro vs1178 f w1210 S1207 X1136 le1207 hA1136 hK1178 hI1179
   have I1239 : Inv w1210 S1207 (X1136) := hI1179
   refine af_ rfl rfl (aj_ (v := (Value.pointer (some ⟨g1, 0, none⟩))) rfl iv_ ((hK1178 3 (be_ rfl)).trans e500) ((p1.mono ((le2.trans le1205).trans le1207)).at_ I1239) ?_)
   refine ⟨_, _, rfl, PH.Le.refl _, ?_, ?_⟩
   ·
    exact rfl
   ·
    exact I1239
  ·
   intro vs1179 f w1211 S1208 X1137 le1208 hA1137 hK1179 hI1180
   have I1240 : Inv w1211 S1208 (X1137) := hI1180
   have q1863 : f 51 = (am_ (Value.pointer (some ⟨g1, 0, none⟩)) 1) := vt (hA1137.at_ 0 rfl _ rfl) rfl
   refine af_ rfl rfl (aq_ (v := (am_ (Value.pointer (some ⟨g1, 0, none⟩)) 1)) (e := a0.distances) rfl hm_ q1863 (((p1.mono ((le2.trans le1205).trans le1208)).at_ I1240).fld Search_view.fld1) (fun u438 hu424 => ?_))
   obtain ⟨z330, m330, k330, e503⟩ := ak_ hu424
   subst e503
   refine ⟨_, _, rfl, PH.Le.refl _, ?_, ?_⟩
   ·
    exact hu424
   ·
    exact I1240
  ·
   intro vs1180 f w1212 S1209 X1138 le1209 hA1138 hK1180 hI1181
   have I1241 : Inv w1212 S1209 (X1138) := hI1181
   refine af_ rfl rfl (ac_ (v := (Value.pointer (some ⟨g3, 0, none⟩))) rfl ((hK1180 8 (be_ rfl)).trans e502) ?_)
   refine ⟨_, _, rfl, PH.Le.refl _, ?_, ?_⟩
   ·
    exact rfl
   ·
    exact I1241
  ·
   intro vs1181 f w1213 S1210 X1139 le1210 hA1139 hK1181 hI1182
   have I1242 : Inv w1213 S1210 (X1139) := hI1182
   have q1864 : f 53 = (Value.pointer (some ⟨g3, 0, none⟩)) := vt (hA1139.at_ 0 rfl _ rfl) rfl
   refine af_ rfl rfl (bp_ (v := (Value.pointer (some ⟨g3, 0, none⟩))) rfl q1864 rfl ?_)
   refine ⟨_, _, rfl, PH.Le.refl _, ?_, ?_⟩
   ·
    exact rfl
   ·
    exact I1242
  ·
   intro vs1182 f w1214 S1211 X1140 le1211 hA1140 hK1182 hI1183
   have I1243 : Inv w1214 S1211 (X1140) := hI1183
   have q1865 : f 54 = (Value.pointer (some ⟨g3, 0, none⟩)) := vt (hA1140.at_ 1 rfl _ rfl) rfl
   refine af_ rfl rfl (az_ (v := (Value.pointer (some ⟨g3, 0, none⟩))) rfl ej_ q1865 rfl ?_)
   refine ⟨_, _, rfl, PH.Le.refl _, ?_, ?_⟩
   ·
    exact rfl
   ·
    exact I1243
  ·
   intro vs1183 f w1215 S1212 X1141 le1212 hA1141 hK1183 hI1184
   have I1244 : Inv w1215 S1212 (ax_ g3 91 #[(Value.slice z284 m284 k284), (Value.slice z285 m285 k285), (Value.int .i64 (out1.2.2.2.1)), (Value.int .i64 (out1.2.2.2.2.1)), (Value.int .i64 (out1.2.2.2.2.2.1)), (Value.slice z286 m286 k286)] :: X1141) := hI1184
   have q1866 : f 55 = (Value.pointer (some ⟨g3, 4, none⟩)) := vt (hA1141.at_ 2 rfl _ rfl) rfl
   refine af_ rfl rfl (bz_ (c := (Value.int .i64 (out1.2.2.2.2.2.1))) rfl sh3 (I1244.nth 0 rfl) q1866 rfl ?_)
   refine ⟨_, _, rfl, PH.Le.refl _, ?_, ?_⟩
   ·
    exact rfl
   ·
    exact I1244
  ·
   intro vs1184 f w1216 S1213 X1142 le1213 hA1142 hK1184 hI1185
   have I1245 : Inv w1216 S1213 (X1142) := hI1185
   have q1867 : f 52 = vs1184 2 := (hA1142.at_ 1 rfl _ rfl).1 _ rfl
   have r211 : RV S1213 (vs1184 2) a0.distances := (hA1142.at_ 1 rfl _ rfl).2
   obtain ⟨u439, hu425⟩ : ∃ u, vs1184 2 = u := ⟨_, rfl⟩
   rw [hu425] at q1867 r211
   obtain ⟨z331, m331, k331, e504⟩ := ak_ r211
   subst e504
   have q1868 : f 56 = (Value.int .i64 (out1.2.2.2.2.2.1)) := vt (hA1142.at_ 5 rfl _ rfl) rfl
   refine af_ rfl rfl (ao_ (v := (Value.slice z331 m331 k331)) (i := out1.2.2.2.2.2.1) (e := x50) rfl Try.underlying26 sh3 q1867 r211 q1868 hx50 ?_)
   refine ⟨_, _, rfl, PH.Le.refl _, ?_, ?_⟩
   ·
    show (ah_ (Value.slice z331 m331 k331) (out1.2.2.2.2.2.1) (Enc.sz Int)) = (ah_ (vs1184 2) (out1.2.2.2.2.2.1) (Enc.sz Int))
    simp only [hu425] <;> rfl
   ·
    exact I1245
  ·
   intro vs1185 f w1217 S1214 X1143 le1214 hA1143 hK1185 hI1186
   have I1246 : Inv w1217 S1214 (X1143) := hI1186
   have q1869 : f 52 = vs1185 2 := (hA1143.at_ 1 rfl _ rfl).1 _ rfl
   have r212 : RV S1214 (vs1185 2) a0.distances := (hA1143.at_ 1 rfl _ rfl).2
   obtain ⟨u440, hu426⟩ : ∃ u, vs1185 2 = u := ⟨_, rfl⟩
   rw [hu426] at q1869 r212
   obtain ⟨z332, m332, k332, e505⟩ := ak_ r212
   subst e505
   have q1870 : f 56 = (Value.int .i64 (out1.2.2.2.2.2.1)) := vt (hA1143.at_ 5 rfl _ rfl) rfl
   have q1871 : f 57 = (ah_ (vs1185 2) (out1.2.2.2.2.2.1) (Enc.sz Int)) := vt (hA1143.at_ 6 rfl _ rfl) rfl
   simp only [hu426] at q1871
   have q1871 : f 57 = (ah_ (Value.slice z332 m332 k332) (out1.2.2.2.2.2.1) (Enc.sz Int)) := q1871
   refine af_ rfl rfl (av_ (v := (ah_ (Value.slice z332 m332 k332) (out1.2.2.2.2.2.1) (Enc.sz Int))) (e := x50) rfl sh3 q1871 (r212.elem I1246.in_ hx50) ?_)
   refine ⟨_, _, rfl, PH.Le.refl _, ?_, ?_⟩
   ·
    exact rfl
   ·
    exact I1246
  ·
   intro vs1186 f w1218 S1215 X1144 le1215 hA1144 hK1186 hI1187
   have I1247 : Inv w1218 S1215 (X1144) := hI1187
   have q1872 : f 58 = (Value.int .i64 (x50)) := vt (hA1144.at_ 7 rfl _ rfl) rfl
   refine af_ rfl rfl (es_ (a := x50) (b := 0) rfl q1872 rfl ?_)
   refine ⟨_, _, rfl, PH.Le.refl _, ?_, ?_⟩
   ·
    exact rfl
   ·
    exact I1247
  ·
   intro vs1187 f w1219 S1216 X1145 le1216 hA1145 hK1187 hI1188
   have I1248 : Inv w1219 S1216 (X1145) := hI1188
   have q1873 : f 50 = (Value.slice z283 m283 k283) := vt (hA1145.at_ 0 rfl _ rfl) rfl
   refine af_ rfl rfl (ae_ (v := (Value.slice z283 m283 k283)) rfl q1873 ?_)
   refine ⟨_, _, rfl, PH.Le.refl _, ?_, ?_⟩
   ·
    exact rfl
   ·
    exact I1248
  ·
   intro vs1188 f w1220 S1217 X1146 le1217 hA1146 hK1188 hI1189
   have I1249 : Inv w1220 S1217 (X1146) := hI1189
   have q1874 : f 59 = (Value.bool (x50 == 0)) := vt (hA1146.at_ 9 rfl _ rfl) rfl
   refine af_ rfl rfl (ae_ (v := (Value.bool (x50 == 0))) rfl q1874 ?_)
   refine ⟨_, _, rfl, PH.Le.refl _, ?_, ?_⟩
   ·
    exact rfl
   ·
    exact I1249
  ·
   intro vs1189 f w1221 S1218 ed51 le1218 hF43 hK1189 hI1190
   have I1250 : Inv w1221 S1218 (ax_ g3 91 #[(Value.slice z284 m284 k284), (Value.slice z285 m285 k285), (Value.int .i64 (out1.2.2.2.1)), (Value.int .i64 (out1.2.2.2.2.1)), (Value.int .i64 (out1.2.2.2.2.2.1)), (Value.slice z286 m286 k286)] :: Row (α := Int) 3 (Value.slice z283 m283 k283) (out1.1) :: Row (α := Search_gone) 103 (Value.slice z286 m286 k286) (out1.2.2.2.2.2.2) :: Fr) := hI1190
   have q1875 : f 6 = (Value.slice z283 m283 k283) := vt (hF43.at_ 10 rfl _ rfl) rfl
   have q1876 : f 7 = (Value.bool (x50 == 0)) := vt (hF43.at_ 11 rfl _ rfl) rfl
   refine aw_ ?_
   obtain rfl := Option.some.inj h
   exact ⟨(ed51.trans ed50), (Value.tuple #[(Value.slice z283 m283 k283), (Value.bool (x50 == 0))]), (res2 rfl q1875 q1876), _, [Row (α := Int) 3 (Value.slice z283 m283 k283) (out1.1)], (((le1.trans le2).trans le1205).trans le1218), ((I1250).drop.pull 1).drop, _, _, _, rfl, rfl⟩
set_option maxHeartbeats 4000000 in
set_option maxRecDepth 100000 in
theorem od_ {w : World} {S : PH} {Fr : List HP} {a0 : Graph} {v0 : Value} {a1 : (List Int)} {v1 : Value} {a2 : Mind} {v2 : Value} {a3 : Int} {r : (List Int) × Bool × Int} (hI : Inv w S (Fr)) (h0_ : RV S v0 a0) (h1_ : RV S v1 a1) (h2_ : RV S v2 a2) (h : F18 a0 a1 a2 a3 = some r) :
    Calls Try.prog 18 [v0, v1, v2, (Value.int .i64 (a3))].toArray w (ky_ S Fr (fun T_ v_ O_ => ∃ (a0_ : Option Addr) (n0_ k0_ : Nat), v_ = (Value.tuple #[(Value.slice a0_ n0_ k0_), (Value.bool (r.2.1)), (Value.int .i64 (r.2.2))]) ∧ O_ = [Row (α := Int) 3 (Value.slice a0_ n0_ k0_) (r.1)])) := by
 unfold F18 at h
 obtain ⟨c1, c2, e1, r1, r2⟩ := Graph.inv h0_
 subst e1
 obtain ⟨z1, m1, k1, e2⟩ := ak_ r1
 subst e2
 obtain ⟨z2, m2, k2, e3⟩ := ak_ r2
 subst e3
 obtain ⟨z3, m3, k3, e4⟩ := ak_ h1_
 subst e4
 have e5 := Mind.inv h2_
 subst e5
 refine bd_ (n := 32) (vs := [(Value.agg #[(Value.slice z1 m1 k1), (Value.slice z2 m2 k2)]), (Value.slice z3 m3 k3), (Value.agg #[(Value.int .i64 (a2.Memory)), (Value.int .i64 (a2.Turn))]), (Value.int .i64 (a3))]) Try.func18 rfl rfl rfl ?_
 refine ad_ ?_
 refine ab_ ?_
 refine aa_ rfl (cr_ (v := (Value.agg #[(Value.slice z1 m1 k1), (Value.slice z2 m2 k2)])) rfl hI rfl (fun g1 w1 I1 => ?_))
 obtain ⟨S1, le1, I2, p1⟩ := Inv.boxFreeze (x := a0) I1 (Graph.rv (s := a0) r1 r2)
 refine aa_ rfl (cr_ (v := (Value.agg #[(Value.int .i64 (a2.Memory)), (Value.int .i64 (a2.Turn))])) rfl I2 rfl (fun g2 w2 I3 => ?_))
 obtain ⟨S2, le2, I4, p2⟩ := Inv.boxFreeze (x := a2) I3 (Mind.rv (s := a2))
 refine aa_ rfl (ae_ (v := (Value.slice none 0 0)) rfl rfl ?_)
 refine aa_ rfl (ae_ (v := (Value.bool (false))) rfl rfl ?_)
 refine aa_ rfl (ae_ (v := (Value.int .i64 (0))) rfl rfl ?_)
 refine ag_ ?_
 refine ad_ ?_
 refine ab_ ?_
 refine aa_ rfl (aq_ (v := (Value.pointer (some ⟨g1, 0, none⟩))) (e := a0) rfl je_ rfl ((p1.mono le2).at_ I4) (fun u1 hu1 => ?_))
 obtain ⟨c3, c4, e6, r3, r4⟩ := Graph.inv hu1
 subst e6
 obtain ⟨z4, m4, k4, e7⟩ := ak_ r3
 subst e7
 obtain ⟨z5, m5, k5, e8⟩ := ak_ r4
 subst e8
 refine aa_ rfl (ac_ (v := (Value.slice z3 m3 k3)) rfl rfl ?_)
 refine aa_ rfl (aq_ (v := (Value.pointer (some ⟨g2, 0, none⟩))) (e := a2) rfl sh28 rfl (p2.at_ I4) (fun u2 hu2 => ?_))
 have e9 := Mind.inv hu2
 subst e9
 refine aa_ rfl (ac_ (v := (Value.int .i64 (a3))) rfl rfl ?_)
 obtain ⟨x1, hx1, h⟩ := bnd h
 refine aa_ rfl (cu_ (vs := [(Value.agg #[(Value.slice z4 m4 k4), (Value.slice z5 m5 k5)]), (Value.slice z3 m3 k3), (Value.agg #[(Value.int .i64 (a2.Memory)), (Value.int .i64 (a2.Turn))]), (Value.int .i64 (a3))]) rfl ca45 rfl (md_ rfl rfl rfl rfl) (oc_ I4 (Graph.rv (s := a0) r3 r4) (h1_.mono (le1.trans le2)) (Mind.rv (s := a2)) hx1) (fun cv1 w3 S3 O1 le3 I5 hv1 => ?_))
 obtain ⟨c5, rfl, rfl, r5⟩ := hv1
 obtain ⟨c6, c7, e10, r6, r7⟩ := Search_view.inv r5
 subst e10
 obtain ⟨z6, m6, k6, e11⟩ := ak_ r6
 subst e11
 obtain ⟨z7, m7, k7, e12⟩ := ak_ r7
 subst e12
 refine aa_ rfl (ac_ (v := (Value.tuple #[(Value.agg #[(Value.slice z6 m6 k6), (Value.slice z7 m7 k7)]), (Value.int .i64 (x1.2))])) rfl rfl ?_)
 refine aa_ rfl (bk_ (v := (Value.agg #[(Value.slice z6 m6 k6), (Value.slice z7 m7 k7)])) rfl rfl rfl ?_)
 refine aa_ rfl (bk_ (v := (Value.int .i64 (x1.2))) rfl rfl rfl ?_)
 refine aa_ rfl (cl_ (z := (Value.agg #[(Value.slice none 0 0), (Value.slice none 0 0)])) rfl I5 zo64 (fun g3 w4 (I6 : Inv w4 S3 (ax_ g3 64 #[(Value.slice none 0 0), (Value.slice none 0 0)] :: Fr)) => ?_))
 refine aa_ rfl (bo_ (v := (Value.agg #[(Value.slice z6 m6 k6), (Value.slice z7 m7 k7)])) (cs := #[(Value.slice none 0 0), (Value.slice none 0 0)]) dt_ I6 rfl rfl rfl (Nat.le_of_ble_eq_true rfl) rfl (fun w5 (I7 : Inv w5 S3 (ax_ g3 64 #[(Value.slice z6 m6 k6), (Value.slice z7 m7 k7)] :: Fr)) => ?_))
 refine aa_ rfl (ae_ (v := (Value.int .i64 (x1.2))) rfl rfl ?_)
 refine ag_ ?_
 refine ad_ ?_
 refine ad_ ?_
 refine ab_ ?_
 refine aa_ rfl (ac_ (v := (Value.int .i64 (x1.2))) rfl rfl ?_)
 refine aa_ rfl (cz_ (a := x1.2) (b := 0) rfl rfl rfl ?_)
 refine ag_ ?_
 rcases ifs h with ⟨hc1, h⟩ | ⟨hc1, h⟩
 ·
  refine an_ (b := x1.2 != 0) rfl hc1 ?_
  refine ad_ ?_
  refine ab_ ?_
  refine aa_ rfl (ac_ (v := (Value.int .i64 (x1.2))) rfl rfl ?_)
  refine aa_ rfl (ae_ (v := (Value.slice none 0 0)) rfl rfl ?_)
  refine aa_ rfl (ae_ (v := (Value.bool (false))) rfl rfl ?_)
  refine aa_ rfl (ae_ (v := (Value.int .i64 (x1.2))) rfl rfl ?_)
  refine ag_ ?_
  refine aw_ ?_
  have I8 := Inv.rowNil (α := Int) (T := 3) I7
  obtain rfl := Option.some.inj h
  exact ⟨rfl, (Value.tuple #[(Value.slice none 0 0), (Value.bool (false)), (Value.int .i64 (x1.2))]), (res3 rfl rfl rfl rfl), _, [Row (α := Int) 3 (Value.slice none 0 0) (([] : List Int))], ((le1.trans le2).trans le3), (I8.pull 1).drop, _, _, _, rfl, rfl⟩
 ·
  refine ap_ (b := x1.2 != 0) rfl hc1 ?_
  refine ar_ ?_
  refine ad_ ?_
  refine ab_ ?_
  refine aa_ rfl (cg_ (l := [(Value.slice z6 m6 k6), (Value.slice z7 m7 k7)]) rfl dt_ (I7.nth 0 rfl) rfl rfl rfl ?_)
  refine aa_ rfl (aq_ (v := (Value.pointer (some ⟨g2, 0, none⟩))) (e := a2) rfl sh28 rfl ((p2.mono le3).at_ I7) (fun u3 hu3 => ?_))
  have e13 := Mind.inv hu3
  subst e13
  refine aa_ rfl (ac_ (v := (Value.int .i64 (a3))) rfl rfl ?_)
  obtain ⟨x2, hx2, h⟩ := bnd h
  refine aa_ rfl (cu_ (vs := [(Value.agg #[(Value.slice z6 m6 k6), (Value.slice z7 m7 k7)]), (Value.agg #[(Value.int .i64 (a2.Memory)), (Value.int .i64 (a2.Turn))]), (Value.int .i64 (a3))]) rfl ca46 rfl (gl_ rfl rfl rfl) (ob_ I7 (Search_view.rv (s := x1.1) r6 r7) (Mind.rv (s := a2)) hx2) (fun cv2 w6 S4 O2 le4 I9 hv2 => ?_))
  obtain ⟨z8, m8, k8, rfl, rfl⟩ := hv2
  refine aa_ rfl (ac_ (v := (Value.tuple #[(Value.slice z8 m8 k8), (Value.bool (x2.2))])) rfl rfl ?_)
  refine aa_ rfl (bk_ (v := (Value.slice z8 m8 k8)) rfl rfl rfl ?_)
  refine aa_ rfl (bk_ (v := (Value.bool (x2.2))) rfl rfl rfl ?_)
  refine aa_ rfl (ae_ (v := (Value.slice z8 m8 k8)) rfl rfl ?_)
  refine aa_ rfl (ae_ (v := (Value.bool (x2.2))) rfl rfl ?_)
  refine ag_ ?_
  refine ad_ ?_
  refine ab_ ?_
  refine aa_ rfl (ac_ (v := (Value.slice z8 m8 k8)) rfl rfl ?_)
  refine aa_ rfl (ac_ (v := (Value.bool (x2.2))) rfl rfl ?_)
  refine aa_ rfl (ae_ (v := (Value.slice z8 m8 k8)) rfl rfl ?_)
  refine aa_ rfl (ae_ (v := (Value.bool (x2.2))) rfl rfl ?_)
  refine aa_ rfl (ae_ (v := (Value.int .i64 (0))) rfl rfl ?_)
  refine ag_ ?_
  refine aw_ ?_
  obtain rfl := Option.some.inj h
  exact ⟨rfl, (Value.tuple #[(Value.slice z8 m8 k8), (Value.bool (x2.2)), (Value.int .i64 (0))]), (res3 rfl rfl rfl rfl), _, [Row (α := Int) 3 (Value.slice z8 m8 k8) (x2.1)], (((le1.trans le2).trans le3).trans le4), (I9.pull 1).drop, _, _, _, rfl, rfl⟩
set_option maxHeartbeats 4000000 in
set_option maxRecDepth 100000 in
theorem F74_ok {w : World} {S : PH} {Fr : List HP} {a0 : Search_view} {v0 : Value} {r : Int} (hI : Inv w S (Fr)) (h0_ : RV S v0 a0) (h : F74 a0 = some r) :
    Calls Try.prog 74 [v0].toArray w (dd_ S Fr (Value.int .i64 (r))) := by
 unfold F74 at h
 obtain ⟨c1, c2, e1, r1, r2⟩ := Search_view.inv h0_
 subst e1
 obtain ⟨z1, m1, k1, e2⟩ := ak_ r1
 subst e2
 obtain ⟨z2, m2, k2, e3⟩ := ak_ r2
 subst e3
 refine bd_ (n := 19) (vs := [(Value.agg #[(Value.slice z1 m1 k1), (Value.slice z2 m2 k2)])]) Try.func74 rfl rfl rfl ?_
 refine ad_ ?_
 refine ab_ ?_
 refine aa_ rfl (cr_ (v := (Value.agg #[(Value.slice z1 m1 k1), (Value.slice z2 m2 k2)])) rfl hI rfl (fun g1 w1 I1 => ?_))
 obtain ⟨S1, le1, I2, p1⟩ := Inv.boxFreeze (x := a0) I1 (Search_view.rv (s := a0) r1 r2)
 refine aa_ rfl (ae_ (v := (Value.int .i64 (0))) rfl rfl ?_)
 refine ag_ ?_
 refine ad_ ?_
 refine ab_ ?_
 refine aa_ rfl (ae_ (v := (Value.int .i64 (1))) rfl rfl ?_)
 refine ag_ ?_
 refine ad_ ?_
 refine ad_ ?_
 refine ab_ ?_
 refine aa_ rfl (aj_ (v := (Value.pointer (some ⟨g1, 0, none⟩))) rfl gk_ rfl (p1.at_ I2) ?_)
 refine aa_ rfl (aq_ (v := (am_ (Value.pointer (some ⟨g1, 0, none⟩)) 0)) (e := a0.edges) rfl fi_ rfl ((p1.at_ I2).fld Search_view.fld0) (fun u1 hu1 => ?_))
 obtain ⟨z3, m3, k3, e4⟩ := ak_ hu1
 subst e4
 refine aa_ rfl (bg_ rfl Try.underlying23 rfl hu1 ?_)
 refine aa_ rfl (ac_ (v := (Value.int .i64 (0))) rfl rfl ?_)
 refine ag_ ?_
 have hk1 : a0.edges.length ≤ 9223372036854775807 := (ee_ r1)
 obtain ⟨out1, hrun1, h⟩ := bnd h
 refine cf_ (fun f w => Inv w S1 (Fr) ∧ f 3 = (Value.int .i64 (out1)) ∧ f 7 = (Value.slice z3 m3 k3) ∧ f 8 = (Value.int .i64 ((a0.edges.length : Int))) ∧ f.ds = []) ?_ ?_
 ·
  refine au_ ?_
  refine fh_ (I := fun (i1 : Nat) (s1 : (Int)) (f : Frm) (w : World) => Inv w S1 (Fr) ∧ f 3 = (Value.int .i64 (s1)) ∧ f 7 = (Value.slice z3 m3 k3) ∧ f 8 = (Value.int .i64 ((a0.edges.length : Int))) ∧ f 9 = (Value.int .i64 (i1 : Int)) ∧ f.ds = []) hrun1 ⟨I2, rfl, rfl, rfl, rfl, rfl⟩ ?_ ?_
  ·
   rintro i1 s1 f w o1 hlt1 hI1 h1
   obtain ⟨I6, e20, e21, e22, e23, ed4⟩ := hI1
   refine ad_ ?_
   refine ab_ ?_
   refine aa_ rfl (bn_ (a := (i1 : Int)) (b := (a0.edges.length : Int)) rfl e23 e22 ?_)
   refine ag_ ?_
   refine ad_ ?_
   refine an_ (b := decide ((i1 : Int) < (a0.edges.length : Int))) rfl (eu_ hlt1) ?_
   refine ar_ ?_
   refine ad_ ?_
   refine au_ ?_
   refine ad_ ?_
   refine ab_ ?_
   obtain ⟨x4, hx4, h1⟩ := bnd h1
   refine aa_ rfl (ao_ (v := (Value.slice z3 m3 k3)) (i := (i1 : Int)) (e := x4) rfl Try.underlying23 en_ e21 hu1 e23 hx4 ?_)
   refine aa_ rfl (aq_ (v := (ah_ (Value.slice z3 m3 k3) ((i1 : Int)) (Enc.sz (List Edge)))) (e := x4) rfl en_ rfl (hu1.elem I6.in_ hx4) (fun u5 hu5 => ?_))
   obtain ⟨z7, m7, k7, e24⟩ := ak_ hu5
   subst e24
   refine aa_ rfl (ae_ (v := (Value.slice z7 m7 k7)) rfl rfl ?_)
   refine ag_ ?_
   refine ab_ ?_
   refine aa_ rfl (ac_ (v := (Value.int .i64 (s1))) rfl e20 ?_)
   refine aa_ rfl (ac_ (v := (Value.slice z7 m7 k7)) rfl rfl ?_)
   refine aa_ rfl (bg_ rfl Try.underlying40 rfl hu5 ?_)
   refine aa_ rfl (op_max (a := s1) (b := (x4.length : Int)) rfl rfl rfl ?_)
   refine aa_ rfl (ae_ (v := (Value.int .i64 (maxI s1 (x4.length : Int)))) rfl rfl ?_)
   refine ag_ ?_
   refine ab_ ?_
   refine aa_ rfl (bs_ (a := (i1 : Int)) (b := 1) rfl e23 rfl ?_)
   refine aa_ rfl (ac_ (v := (Value.int .i64 (w64 ((i1 : Int) + 1)))) rfl rfl ?_)
   refine ag_ ?_
   obtain rfl := Option.some.inj h1
   exact ⟨I6, rfl, e21, e22, (ca_ hlt1 hk1), ed4⟩
  ·
   rintro f w hI2
   obtain ⟨I7, e25, e26, e27, e28, ed5⟩ := hI2
   refine ad_ ?_
   refine ab_ ?_
   refine aa_ rfl (bn_ (a := (a0.edges.length : Int)) (b := (a0.edges.length : Int)) rfl e28 e27 ?_)
   refine ag_ ?_
   refine ad_ ?_
   refine ap_ (b := decide ((a0.edges.length : Int) < (a0.edges.length : Int))) rfl (ev_ _) ?_
   refine bm_ ?_
   exact ⟨I7, e25, e26, e27, ed5⟩
 ·
  rintro f w ⟨I8, e29, e30, e31, ed6⟩
  refine ad_ ?_
  refine ab_ ?_
  refine aa_ rfl (ac_ (v := (Value.int .i64 (out1))) rfl e29 ?_)
  refine aa_ rfl (ae_ (v := (Value.int .i64 (out1))) rfl rfl ?_)
  refine ag_ ?_
  refine aw_ ?_
  obtain rfl := Option.some.inj h
  exact ⟨ed6, (Value.int .i64 (out1)), (cx_ rfl rfl), _, [], le1, I8, rfl, rfl⟩
set_option maxHeartbeats 4000000 in
set_option maxRecDepth 100000 in
theorem F50_ok {w : World} {S : PH} {Fr : List HP} {a0 : Search_view} {v0 : Value} {a1 : Int} {a2 : Int} {r : (List Int) × Bool} (hI : Inv w S (Fr)) (h0_ : RV S v0 a0) (h : F50 a0 a1 a2 = some r) :
    Calls Try.prog 50 [v0, (Value.int .i64 (a1)), (Value.int .i64 (a2))].toArray w (ky_ S Fr (fun T_ v_ O_ => ∃ (a0_ : Option Addr) (n0_ k0_ : Nat), v_ = (Value.tuple #[(Value.slice a0_ n0_ k0_), (Value.bool (r.2))]) ∧ O_ = [Row (α := Int) 3 (Value.slice a0_ n0_ k0_) (r.1)])) := by
 unfold F50 at h
 obtain ⟨c1, c2, e1, r1, r2⟩ := Search_view.inv h0_
 subst e1
 obtain ⟨z1, m1, k1, e2⟩ := ak_ r1
 subst e2
 obtain ⟨z2, m2, k2, e3⟩ := ak_ r2
 subst e3
 refine bd_ (n := 34) (vs := [(Value.agg #[(Value.slice z1 m1 k1), (Value.slice z2 m2 k2)]), (Value.int .i64 (a1)), (Value.int .i64 (a2))]) Try.func50 rfl rfl rfl ?_
 refine ad_ ?_
 refine ab_ ?_
 refine aa_ rfl (cr_ (v := (Value.agg #[(Value.slice z1 m1 k1), (Value.slice z2 m2 k2)])) rfl hI rfl (fun g1 w1 I1 => ?_))
 obtain ⟨S1, le1, I2, p1⟩ := Inv.boxFreeze (x := a0) I1 (Search_view.rv (s := a0) r1 r2)
 refine aa_ rfl (ae_ (v := (Value.slice none 0 0)) rfl rfl ?_)
 refine aa_ rfl (ae_ (v := (Value.bool (false))) rfl rfl ?_)
 refine ag_ ?_
 refine ad_ ?_
 refine ad_ ?_
 refine ab_ ?_
 refine aa_ rfl (aq_ (v := (Value.pointer (some ⟨g1, 0, none⟩))) (e := a0) rfl dt_ rfl (p1.at_ I2) (fun u1 hu1 => ?_))
 obtain ⟨c3, c4, e4, r3, r4⟩ := Search_view.inv hu1
 subst e4
 obtain ⟨z3, m3, k3, e5⟩ := ak_ r3
 subst e5
 obtain ⟨z4, m4, k4, e6⟩ := ak_ r4
 subst e6
 obtain ⟨x1, hx1, h⟩ := bnd h
 refine aa_ rfl (bl_ (vs := [(Value.agg #[(Value.slice z3 m3 k3), (Value.slice z4 m4 k4)])]) (r := (Value.int .i64 (x1))) rfl ca74 rfl (ks_ rfl) I2 (fun Fr_ hF_ => F74_ok hF_ (Search_view.rv (s := a0) r3 r4) hx1) (fun w2 I3 => ?_))
 refine aa_ rfl (ac_ (v := (Value.int .i64 (0))) rfl rfl ?_)
 refine ag_ ?_
 obtain ⟨x8, hx8, h⟩ := bnd h
 have I17 := Inv.rowNil (α := Int) (T := 3) I3
 obtain ⟨o2, hrun1, h⟩ := bnd h
 refine cf_ (fun f w => ∃ out1, o2 = Sum.inl out1 ∧ ∃ (S_ : PH) (z23 : Option Addr) (m23 k23 : Nat), S1.Le S_ ∧ Inv w S_ (Row (α := Int) 3 (Value.slice z23 m23 k23) (out1) :: Fr) ∧ f 1 = (Value.int .i64 (a1)) ∧ f 2 = (Value.int .i64 (a2)) ∧ f 3 = (Value.pointer (some ⟨g1, 0, none⟩)) ∧ f 6 = (Value.slice z23 m23 k23) ∧ f 12 = (Value.int .i64 (x1)) ∧ f.ds = []) ?_ ?_
 ·
  refine au_ ?_
  refine dl_ (I := fun (i1 : Nat) (s1 : (List Int)) (f : Frm) (w : World) => ∃ (S_ : PH) (z22 : Option Addr) (m22 k22 : Nat), S1.Le S_ ∧ Inv w S_ (Row (α := Int) 3 (Value.slice z22 m22 k22) (s1) :: Fr) ∧ f 1 = (Value.int .i64 (a1)) ∧ f 2 = (Value.int .i64 (a2)) ∧ f 3 = (Value.pointer (some ⟨g1, 0, none⟩)) ∧ f 6 = (Value.slice z22 m22 k22) ∧ f 12 = (Value.int .i64 (x1)) ∧ f 13 = (Value.int .i64 (i1 : Int)) ∧ f.ds = []) hrun1 ⟨_, _, _, _, (PH.Le.refl _), I17, rfl, rfl, rfl, rfl, rfl, rfl, rfl⟩ ?_ ?_
  ·
   rintro i1 s1 f w o1 hlt1 hI1 h1 hout1
   obtain ⟨S7, z22, m22, k22, le7, I18, e40, e41, e42, e43, e44, e45, ed4⟩ := hI1
   refine ad_ ?_
   refine ab_ ?_
   refine aa_ rfl (bn_ (a := (i1 : Int)) (b := x1) rfl e45 e44 ?_)
   refine ag_ ?_
   refine ad_ ?_
   refine an_ (b := decide ((i1 : Int) < x1)) rfl (cnt_t hx8 hlt1) ?_
   refine ar_ ?_
   refine ad_ ?_
   refine au_ ?_
   refine ad_ ?_
   refine ab_ ?_
   refine aa_ rfl (ac_ (v := (Value.int .i64 ((i1 : Int)))) rfl e45 ?_)
   refine aa_ rfl (ae_ (v := (Value.int .i64 ((i1 : Int)))) rfl rfl ?_)
   refine ag_ ?_
   refine ad_ ?_
   refine ab_ ?_
   refine aa_ rfl (aq_ (v := (Value.pointer (some ⟨g1, 0, none⟩))) (e := a0) rfl dt_ e42 ((p1.mono le7).at_ I18) (fun u11 hu5 => ?_))
   obtain ⟨c11, c12, e46, r11, r12⟩ := Search_view.inv hu5
   subst e46
   obtain ⟨z24, m24, k24, e47⟩ := ak_ r11
   subst e47
   obtain ⟨z25, m25, k25, e48⟩ := ak_ r12
   subst e48
   refine aa_ rfl (ac_ (v := (Value.int .i64 (a1))) rfl e40 ?_)
   refine aa_ rfl (ac_ (v := (Value.int .i64 ((i1 : Int)))) rfl rfl ?_)
   refine aa_ rfl (cw_ (qs := [(0, #[(Value.int .i64 (a1))]), (1, #[(Value.int .i64 ((i1 : Int)))])]) (c := #[(Value.int .i64 (a1)), (Value.int .i64 ((i1 : Int)))]) rfl st28 ⟨rfl, rfl, ⟨rfl, rfl, trivial⟩⟩ rfl ?_)
   refine aa_ rfl (ac_ (v := (Value.int .i64 (a2))) rfl e41 ?_)
   obtain ⟨x9, hx9, h1⟩ := bnd h1
   refine aa_ rfl (cu_ (vs := [(Value.agg #[(Value.slice z24 m24 k24), (Value.slice z25 m25 k25)]), (Value.agg #[(Value.int .i64 (a1)), (Value.int .i64 ((i1 : Int)))]), (Value.int .i64 (a2))]) rfl ca46 rfl (gl_ rfl rfl rfl) (ob_ I18 (Search_view.rv (s := a0) r11 r12) (Mind.rv (s := (⟨a1, (i1 : Int)⟩ : Mind))) hx9) (fun cv4 w12 S8 O4 le8 I19 hv4 => ?_))
   obtain ⟨z26, m26, k26, rfl, rfl⟩ := hv4
   refine aa_ rfl (ac_ (v := (Value.tuple #[(Value.slice z26 m26 k26), (Value.bool (x9.2))])) rfl rfl ?_)
   refine aa_ rfl (bk_ (v := (Value.slice z26 m26 k26)) rfl rfl rfl ?_)
   refine aa_ rfl (bk_ (v := (Value.bool (x9.2))) rfl rfl rfl ?_)
   refine aa_ rfl (ae_ (v := (Value.slice z26 m26 k26)) rfl rfl ?_)
   refine aa_ rfl (ae_ (v := (Value.bool (x9.2))) rfl rfl ?_)
   refine ag_ ?_
   refine ad_ ?_
   refine ad_ ?_
   refine ab_ ?_
   refine aa_ rfl (ac_ (v := (Value.bool (x9.2))) rfl rfl ?_)
   refine aa_ rfl (dm_ (b := x9.2) rfl rfl ?_)
   refine ag_ ?_
   rcases ifs h1 with ⟨hc4, h1⟩ | ⟨hc4, h1⟩
   ·
    refine an_ (b := !x9.2) rfl hc4 ?_
    refine ad_ ?_
    refine ab_ ?_
    refine aa_ rfl (ae_ (v := (Value.slice none 0 0)) rfl rfl ?_)
    refine aa_ rfl (ae_ (v := (Value.bool (false))) rfl rfl ?_)
    refine ag_ ?_
    refine aw_ ?_
    obtain rfl := Option.some.inj h1
    obtain rfl := (hout1 _ rfl)
    have h2 := h
    have I20 := Inv.rowNil (α := Int) (T := 3) I19
    obtain rfl := Option.some.inj h2
    exact ⟨ed4, (Value.tuple #[(Value.slice none 0 0), (Value.bool (false))]), (res2 rfl rfl rfl), _, [Row (α := Int) 3 (Value.slice none 0 0) (([] : List Int))], ((le1.trans le7).trans le8), ((I20.pull 1).drop.pull 1).drop, _, _, _, rfl, rfl⟩
   ·
    refine ap_ (b := !x9.2) rfl hc4 ?_
    refine ar_ ?_
    refine ab_ ?_
    refine aa_ rfl (ac_ (v := (Value.slice z22 m22 k22)) rfl e43 ?_)
    refine aa_ rfl (ac_ (v := (Value.slice z26 m26 k26)) rfl rfl ?_)
    refine aa_ rfl (bu_ (α := Int) rfl Try.underlying26 rfl (I19.nth 0 rfl) ?_)
    refine aa_ rfl (br_ (vs := [(Value.int .i64 ((x9.1.length : Int)))]) (r := ([(x9.1.length : Int)] : List Int)) rfl Try.underlying26 el3 (gd_ rfl) rfl (by decide) (by decide) ⟨(cb_ _), trivial⟩ I19 (fun u12 w13 I21 => ?_))
    obtain ⟨z27, m27, k27, e49⟩ := bt_ I21
    subst e49
    obtain ⟨x10, hx10, h1⟩ := bnd h1
    refine aa_ rfl (ef_ (α := Int) (v := (Value.slice z22 m22 k22)) (u := (Value.slice z27 m27 k27)) rfl rfl Try.underlying26 el3 (by decide) (by decide) rfl rfl (I21.pull 2) (Inv.rowSrc (I21.nth 0 rfl)) hx10 (fun u13 w14 I22 => ?_))
    obtain ⟨z28, m28, k28, e50⟩ := bt_ I22
    subst e50
    refine aa_ rfl (ae_ (v := (Value.slice z28 m28 k28)) rfl rfl ?_)
    refine ag_ ?_
    refine ab_ ?_
    refine aa_ rfl (bs_ (a := (i1 : Int)) (b := 1) rfl e45 rfl ?_)
    refine aa_ rfl (ac_ (v := (Value.int .i64 (w64 ((i1 : Int) + 1)))) rfl rfl ?_)
    refine ag_ ?_
    obtain rfl := Option.some.inj h1
    exact ⟨_, rfl, _, _, _, _, (le7.trans le8), ((I22.pull 1).drop.pull 1).drop, e40, e41, e42, rfl, e44, (ca_ hlt1 (cnt_le hx8)), ed4⟩
  ·
   rintro s2 f w hs1 hI2
   obtain ⟨S9, z29, m29, k29, le9, I23, e51, e52, e53, e54, e55, e56, ed5⟩ := hI2
   refine ad_ ?_
   refine ab_ ?_
   refine aa_ rfl (bn_ (a := (x8 : Int)) (b := x1) rfl e56 e55 ?_)
   refine ag_ ?_
   refine ad_ ?_
   refine ap_ (b := decide ((x8 : Int) < x1)) rfl (cnt_f hx8) ?_
   refine bm_ ?_
   exact ⟨s2, hs1, _, _, _, _, le9, I23, e51, e52, e53, e54, e55, ed5⟩
 ·
  rintro f w ⟨out1, rfl, S10, z23, m23, k23, le10, I24, e57, e58, e59, e60, e61, ed6⟩
  have h := cy_ h
  refine ad_ ?_
  refine ab_ ?_
  refine aa_ rfl (ac_ (v := (Value.slice z23 m23 k23)) rfl e60 ?_)
  refine aa_ rfl (ae_ (v := (Value.slice z23 m23 k23)) rfl rfl ?_)
  refine aa_ rfl (ae_ (v := (Value.bool (true))) rfl rfl ?_)
  refine ag_ ?_
  refine aw_ ?_
  obtain rfl := Option.some.inj h
  exact ⟨ed6, (Value.tuple #[(Value.slice z23 m23 k23), (Value.bool (true))]), (res2 rfl rfl rfl), _, [Row (α := Int) 3 (Value.slice z23 m23 k23) (out1)], (le1.trans le10), I24, _, _, _, rfl, rfl⟩
set_option maxHeartbeats 4000000 in
set_option maxRecDepth 100000 in
theorem F54_ok {w : World} {S : PH} {Fr : List HP} {a0 : Int} {a1 : Int} {r : Int} (hI : Inv w S (Fr))  (h : F54 a0 a1 = some r) :
    Calls Try.prog 54 [(Value.int .i64 (a0)), (Value.int .i64 (a1))].toArray w (dd_ S Fr (Value.int .i64 (r))) := by
 unfold F54 at h
 refine bd_ (n := 12) (vs := [(Value.int .i64 (a0)), (Value.int .i64 (a1))]) Try.func54 rfl rfl rfl ?_
 refine ad_ ?_
 refine ab_ ?_
 refine aa_ rfl (ae_ (v := (Value.int .i64 (0))) rfl rfl ?_)
 refine ag_ ?_
 obtain ⟨out1, hrun1, h⟩ := bnd h
 refine eo_ (fun f w => ∃ (S_ : PH), S.Le S_ ∧ Inv w S_ (Fr) ∧ f 0 = (Value.int .i64 (out1.1)) ∧ f 1 = (Value.int .i64 (out1.2)) ∧ f.ds = []) ?_ ?_
 ·
  refine au_ ?_
  refine co_ (I := fun (s1 : (Int × Int)) (f : Frm) (w : World) => ∃ (S_ : PH), S.Le S_ ∧ Inv w S_ (Fr) ∧ f 0 = (Value.int .i64 (s1.1)) ∧ f 1 = (Value.int .i64 (s1.2)) ∧ f.ds = []) hrun1 ⟨_, (PH.Le.refl _), hI, rfl, rfl, rfl⟩ ?_
  rintro s1 f w o1 hI43 h1 hout1
  obtain ⟨S47, le47, I49, e13, e14, ed13⟩ := hI43
  refine ad_ ?_
  refine ad_ ?_
  refine ab_ ?_
  refine aa_ rfl (ac_ (v := (Value.int .i64 (s1.2))) rfl e14 ?_)
  refine aa_ rfl (dw_ (a := s1.2) (b := 0) rfl rfl rfl ?_)
  refine ag_ ?_
  rcases ifs h1 with ⟨hc7, h1⟩ | ⟨hc7, h1⟩
  ·
   refine an_ (b := decide (0 < s1.2)) rfl hc7 ?_
   refine ar_ ?_
   refine au_ ?_
   obtain ⟨x7, hx7, h1⟩ := bnd h1
   refine cn_ (sps := [⟨some 7, [], [0], fun vs_ T_ => fr0 vs_ 0 = (Value.int .i64 (s1.2)), [], [], [], fun _ h_ => h_⟩, ⟨some 8, [], [1], fun vs_ T_ => fr0 vs_ 0 = (Value.int .i64 (s1.1)), [], [], [], fun _ h_ => h_⟩, ⟨some 9, [], [2], fun vs_ T_ => fr0 vs_ 0 = (Value.int .i64 (s1.2)), [], [], [], fun _ h_ => h_⟩, ⟨some 10, [1, 2], [3], fun vs_ T_ => fr0 vs_ 0 = (Value.int .i64 (x7)), [], [], [], fun _ h_ => h_⟩, ⟨some 0, [0, 1], [4], fun vs_ T_ => fr0 vs_ 0 = (Value.int .i64 (s1.2)), [], [], [], fun _ h_ => h_⟩, ⟨some 1, [0, 1, 2, 3, 4], [5], fun vs_ T_ => fr0 vs_ 0 = (Value.int .i64 (x7)), [], [], [], fun _ h_ => h_⟩]) (tks := []) (O := Fr) rfl (by kernel_rfl) I49 ⟨?_, ?_, ?_, ?_, ?_, ?_, trivial⟩ ?_
   ·
    intro vs43 f w43 S48 X37 le48 hA37 hK43 hI44
    have I50 : Inv w43 S48 (X37) := hI44
    refine af_ rfl rfl (ac_ (v := (Value.int .i64 (s1.2))) rfl ((hK43 1 (be_ rfl)).trans e14) ?_)
    refine ⟨_, _, rfl, PH.Le.refl _, ?_, ?_⟩
    ·
     exact rfl
    ·
     exact I50
   ·
    intro vs44 f w44 S49 X38 le49 hA38 hK44 hI45
    have I51 : Inv w44 S49 (X38) := hI45
    refine af_ rfl rfl (ac_ (v := (Value.int .i64 (s1.1))) rfl ((hK44 0 (be_ rfl)).trans e13) ?_)
    refine ⟨_, _, rfl, PH.Le.refl _, ?_, ?_⟩
    ·
     exact rfl
    ·
     exact I51
   ·
    intro vs45 f w45 S50 X39 le50 hA39 hK45 hI46
    have I52 : Inv w45 S50 (X39) := hI46
    refine af_ rfl rfl (ac_ (v := (Value.int .i64 (s1.2))) rfl ((hK45 1 (be_ rfl)).trans e14) ?_)
    refine ⟨_, _, rfl, PH.Le.refl _, ?_, ?_⟩
    ·
     exact rfl
    ·
     exact I52
   ·
    intro vs46 f w46 S51 X40 le51 hA40 hK46 hI47
    have I53 : Inv w46 S51 (X40) := hI47
    have q37 : f 8 = (Value.int .i64 (s1.1)) := vt (hA40.at_ 0 rfl _ rfl) rfl
    have q38 : f 9 = (Value.int .i64 (s1.2)) := vt (hA40.at_ 1 rfl _ rfl) rfl
    refine af_ rfl rfl (ln_ (a := s1.1) (b := s1.2) rfl q37 q38 hx7 ?_)
    refine ⟨_, _, rfl, PH.Le.refl _, ?_, ?_⟩
    ·
     exact rfl
    ·
     exact I53
   ·
    intro vs47 f w47 S52 X41 le52 hA41 hK47 hI48
    have I54 : Inv w47 S52 (X41) := hI48
    have q39 : f 7 = (Value.int .i64 (s1.2)) := vt (hA41.at_ 0 rfl _ rfl) rfl
    refine af_ rfl rfl (ae_ (v := (Value.int .i64 (s1.2))) rfl q39 ?_)
    refine ⟨_, _, rfl, PH.Le.refl _, ?_, ?_⟩
    ·
     exact rfl
    ·
     exact I54
   ·
    intro vs48 f w48 S53 X42 le53 hA42 hK48 hI49
    have I55 : Inv w48 S53 (X42) := hI49
    have q40 : f 10 = (Value.int .i64 (x7)) := vt (hA42.at_ 3 rfl _ rfl) rfl
    refine af_ rfl rfl (ae_ (v := (Value.int .i64 (x7))) rfl q40 ?_)
    refine ⟨_, _, rfl, PH.Le.refl _, ?_, ?_⟩
    ·
     exact rfl
    ·
     exact I55
   ·
    intro vs49 f w49 S54 ed14 le54 hF7 hK49 hI50
    have I56 : Inv w49 S54 (Fr) := hI50
    have q41 : f 0 = (Value.int .i64 (s1.2)) := vt (hF7.at_ 4 rfl _ rfl) rfl
    have q42 : f 1 = (Value.int .i64 (x7)) := vt (hF7.at_ 5 rfl _ rfl) rfl
    obtain rfl := Option.some.inj h1
    exact ⟨_, rfl, _, (le47.trans le54), I56, q41, q42, (ed14.trans ed13)⟩
  ·
   refine ap_ (b := decide (0 < s1.2)) rfl hc7 ?_
   refine bm_ ?_
   obtain rfl := Option.some.inj h1
   obtain rfl := (hout1 _ rfl)
   exact ⟨_, le47, I49, e13, e14, ed13⟩
 ·
  rintro f w ⟨S55, le55, I57, e15, e16, ed15⟩
  refine ad_ ?_
  refine ab_ ?_
  refine aa_ rfl (ac_ (v := (Value.int .i64 (out1.1))) rfl e15 ?_)
  refine aa_ rfl (ae_ (v := (Value.int .i64 (out1.1))) rfl rfl ?_)
  refine ag_ ?_
  refine aw_ ?_
  obtain rfl := Option.some.inj h
  exact ⟨ed15, (Value.int .i64 (out1.1)), (cx_ rfl rfl), _, [], le55, I57, rfl, rfl⟩
set_option maxHeartbeats 4000000 in
set_option maxRecDepth 100000 in
theorem F29_ok {w : World} {S : PH} {Fr : List HP} {a0 : Graph} {v0 : Value} {a1 : (List Int)} {v1 : Value} {a2 : Int} {a3 : Int} {r : Int × Int × Int} (hI : Inv w S (Fr)) (h0_ : RV S v0 a0) (h1_ : RV S v1 a1) (h : F29 a0 a1 a2 a3 = some r) :
    Calls Try.prog 29 [v0, v1, (Value.int .i64 (a2)), (Value.int .i64 (a3))].toArray w (dd_ S Fr (Value.tuple #[(Value.int .i64 (r.1)), (Value.int .i64 (r.2.1)), (Value.int .i64 (r.2.2))])) := by
 unfold F29 at h
 obtain ⟨c1, c2, e1, r1, r2⟩ := Graph.inv h0_
 subst e1
 obtain ⟨z1, m1, k1, e2⟩ := ak_ r1
 subst e2
 obtain ⟨z2, m2, k2, e3⟩ := ak_ r2
 subst e3
 obtain ⟨z3, m3, k3, e4⟩ := ak_ h1_
 subst e4
 refine bd_ (n := 59) (vs := [(Value.agg #[(Value.slice z1 m1 k1), (Value.slice z2 m2 k2)]), (Value.slice z3 m3 k3), (Value.int .i64 (a2)), (Value.int .i64 (a3))]) Try.func29 rfl rfl rfl ?_
 refine ad_ ?_
 refine ab_ ?_
 refine aa_ rfl (cr_ (v := (Value.agg #[(Value.slice z1 m1 k1), (Value.slice z2 m2 k2)])) rfl hI rfl (fun g1 w1 I1 => ?_))
 obtain ⟨S1, le1, I2, p1⟩ := Inv.boxFreeze (x := a0) I1 (Graph.rv (s := a0) r1 r2)
 refine aa_ rfl (ae_ (v := (Value.int .i64 (0))) rfl rfl ?_)
 refine aa_ rfl (ae_ (v := (Value.int .i64 (0))) rfl rfl ?_)
 refine aa_ rfl (ae_ (v := (Value.int .i64 (0))) rfl rfl ?_)
 refine ag_ ?_
 refine ad_ ?_
 refine ab_ ?_
 refine aa_ rfl (aq_ (v := (Value.pointer (some ⟨g1, 0, none⟩))) (e := a0) rfl je_ rfl (p1.at_ I2) (fun u1 hu1 => ?_))
 obtain ⟨c3, c4, e5, r3, r4⟩ := Graph.inv hu1
 subst e5
 obtain ⟨z4, m4, k4, e6⟩ := ak_ r3
 subst e6
 obtain ⟨z5, m5, k5, e7⟩ := ak_ r4
 subst e7
 refine aa_ rfl (ac_ (v := (Value.slice z3 m3 k3)) rfl rfl ?_)
 refine aa_ rfl (ac_ (v := (Value.int .i64 (a2))) rfl rfl ?_)
 refine aa_ rfl (cw_ (qs := [(0, #[(Value.int .i64 (a2))])]) (c := #[(Value.int .i64 (a2)), (Value.int .i64 (0))]) rfl st28 ⟨rfl, rfl, trivial⟩ rfl ?_)
 refine aa_ rfl (ac_ (v := (Value.int .i64 (a3))) rfl rfl ?_)
 obtain ⟨x1, hx1, h⟩ := bnd h
 refine aa_ rfl (cu_ (vs := [(Value.agg #[(Value.slice z4 m4 k4), (Value.slice z5 m5 k5)]), (Value.slice z3 m3 k3), (Value.agg #[(Value.int .i64 (a2)), (Value.int .i64 (0))]), (Value.int .i64 (a3))]) rfl ca45 rfl (md_ rfl rfl rfl rfl) (oc_ I2 (Graph.rv (s := a0) r3 r4) (h1_.mono le1) (Mind.rv (s := (⟨a2, 0⟩ : Mind))) hx1) (fun cv1 w2 S2 O1 le2 I3 hv1 => ?_))
 obtain ⟨c5, rfl, rfl, r5⟩ := hv1
 obtain ⟨c6, c7, e8, r6, r7⟩ := Search_view.inv r5
 subst e8
 obtain ⟨z6, m6, k6, e9⟩ := ak_ r6
 subst e9
 obtain ⟨z7, m7, k7, e10⟩ := ak_ r7
 subst e10
 refine aa_ rfl (ac_ (v := (Value.tuple #[(Value.agg #[(Value.slice z6 m6 k6), (Value.slice z7 m7 k7)]), (Value.int .i64 (x1.2))])) rfl rfl ?_)
 refine aa_ rfl (bk_ (v := (Value.agg #[(Value.slice z6 m6 k6), (Value.slice z7 m7 k7)])) rfl rfl rfl ?_)
 refine aa_ rfl (bk_ (v := (Value.int .i64 (x1.2))) rfl rfl rfl ?_)
 refine aa_ rfl (cl_ (z := (Value.agg #[(Value.slice none 0 0), (Value.slice none 0 0)])) rfl I3 zo64 (fun g2 w3 (I4 : Inv w3 S2 (ax_ g2 64 #[(Value.slice none 0 0), (Value.slice none 0 0)] :: Fr)) => ?_))
 refine aa_ rfl (bo_ (v := (Value.agg #[(Value.slice z6 m6 k6), (Value.slice z7 m7 k7)])) (cs := #[(Value.slice none 0 0), (Value.slice none 0 0)]) dt_ I4 rfl rfl rfl (Nat.le_of_ble_eq_true rfl) rfl (fun w4 (I5 : Inv w4 S2 (ax_ g2 64 #[(Value.slice z6 m6 k6), (Value.slice z7 m7 k7)] :: Fr)) => ?_))
 refine aa_ rfl (ae_ (v := (Value.int .i64 (x1.2))) rfl rfl ?_)
 refine ag_ ?_
 refine ad_ ?_
 refine ad_ ?_
 refine ab_ ?_
 refine aa_ rfl (ac_ (v := (Value.int .i64 (x1.2))) rfl rfl ?_)
 refine aa_ rfl (cz_ (a := x1.2) (b := 0) rfl rfl rfl ?_)
 refine ag_ ?_
 rcases ifs h with ⟨hc1, h⟩ | ⟨hc1, h⟩
 ·
  refine an_ (b := x1.2 != 0) rfl hc1 ?_
  refine ad_ ?_
  refine ab_ ?_
  refine aa_ rfl (ac_ (v := (Value.int .i64 (x1.2))) rfl rfl ?_)
  refine aa_ rfl (ae_ (v := (Value.int .i64 (0))) rfl rfl ?_)
  refine aa_ rfl (ae_ (v := (Value.int .i64 (0))) rfl rfl ?_)
  refine aa_ rfl (ae_ (v := (Value.int .i64 (x1.2))) rfl rfl ?_)
  refine ag_ ?_
  refine aw_ ?_
  obtain rfl := Option.some.inj h
  exact ⟨rfl, (Value.tuple #[(Value.int .i64 (0)), (Value.int .i64 (0)), (Value.int .i64 (x1.2))]), (res3 rfl rfl rfl rfl), _, [], (le1.trans le2), (I5).drop, rfl, rfl⟩
 ·
  refine ap_ (b := x1.2 != 0) rfl hc1 ?_
  refine ar_ ?_
  refine ad_ ?_
  refine ab_ ?_
  refine aa_ rfl (cg_ (l := [(Value.slice z6 m6 k6), (Value.slice z7 m7 k7)]) rfl dt_ (I5.nth 0 rfl) rfl rfl rfl ?_)
  refine aa_ rfl (ac_ (v := (Value.int .i64 (a2))) rfl rfl ?_)
  refine aa_ rfl (ac_ (v := (Value.int .i64 (a3))) rfl rfl ?_)
  obtain ⟨x2, hx2, h⟩ := bnd h
  refine aa_ rfl (cu_ (vs := [(Value.agg #[(Value.slice z6 m6 k6), (Value.slice z7 m7 k7)]), (Value.int .i64 (a2)), (Value.int .i64 (a3))]) rfl ca50 rfl (gl_ rfl rfl rfl) (F50_ok I5 (Search_view.rv (s := x1.1) r6 r7) hx2) (fun cv2 w5 S3 O2 le3 I6 hv2 => ?_))
  obtain ⟨z8, m8, k8, rfl, rfl⟩ := hv2
  refine aa_ rfl (ac_ (v := (Value.tuple #[(Value.slice z8 m8 k8), (Value.bool (x2.2))])) rfl rfl ?_)
  refine aa_ rfl (bk_ (v := (Value.slice z8 m8 k8)) rfl rfl rfl ?_)
  refine aa_ rfl (bk_ (v := (Value.bool (x2.2))) rfl rfl rfl ?_)
  refine aa_ rfl (ae_ (v := (Value.slice z8 m8 k8)) rfl rfl ?_)
  refine aa_ rfl (ae_ (v := (Value.bool (x2.2))) rfl rfl ?_)
  refine ag_ ?_
  refine ad_ ?_
  refine ad_ ?_
  refine ab_ ?_
  refine aa_ rfl (ac_ (v := (Value.bool (x2.2))) rfl rfl ?_)
  refine aa_ rfl (dm_ (b := x2.2) rfl rfl ?_)
  refine ag_ ?_
  rcases ifs h with ⟨hc2, h⟩ | ⟨hc2, h⟩
  ·
   refine an_ (b := !x2.2) rfl hc2 ?_
   refine ad_ ?_
   refine ab_ ?_
   refine aa_ rfl (ae_ (v := (Value.int .i64 (0))) rfl rfl ?_)
   refine aa_ rfl (ae_ (v := (Value.int .i64 (0))) rfl rfl ?_)
   refine aa_ rfl (ae_ (v := (Value.int .i64 (3))) rfl rfl ?_)
   refine ag_ ?_
   refine aw_ ?_
   obtain rfl := Option.some.inj h
   exact ⟨rfl, (Value.tuple #[(Value.int .i64 (0)), (Value.int .i64 (0)), (Value.int .i64 (3))]), (res3 rfl rfl rfl rfl), _, [], ((le1.trans le2).trans le3), ((I6).drop).drop, rfl, rfl⟩
  ·
   refine ap_ (b := !x2.2) rfl hc2 ?_
   refine ar_ ?_
   refine ad_ ?_
   refine ad_ ?_
   refine ab_ ?_
   refine aa_ rfl (ac_ (v := (Value.slice z8 m8 k8)) rfl rfl ?_)
   refine aa_ rfl (bu_ (α := Int) rfl Try.underlying26 rfl (I6.nth 0 rfl) ?_)
   refine aa_ rfl (ac_ (v := (Value.int .i64 (0))) rfl rfl ?_)
   refine ag_ ?_
   have hk1 : x2.1.length ≤ 9223372036854775807 := (hn_ (I6.nth 0 rfl))
   obtain ⟨out1, hrun1, h⟩ := bnd h
   refine cf_ (fun f w => Inv w S3 (Row (α := Int) 3 (Value.slice z8 m8 k8) (x2.1) :: Fr) ∧ f 8 = (Value.int .i64 (out1)) ∧ f 12 = (Value.slice z8 m8 k8) ∧ f 38 = (Value.slice z8 m8 k8) ∧ f 39 = (Value.int .i64 ((x2.1.length : Int))) ∧ f.ds = []) ?_ ?_
   ·
    refine au_ ?_
    refine fh_ (I := fun (i1 : Nat) (s1 : (Int)) (f : Frm) (w : World) => Inv w S3 (Row (α := Int) 3 (Value.slice z8 m8 k8) (x2.1) :: Fr) ∧ f 8 = (Value.int .i64 (s1)) ∧ f 12 = (Value.slice z8 m8 k8) ∧ f 38 = (Value.slice z8 m8 k8) ∧ f 39 = (Value.int .i64 ((x2.1.length : Int))) ∧ f 40 = (Value.int .i64 (i1 : Int)) ∧ f.ds = []) hrun1 ⟨(I6.pull 1).drop, rfl, rfl, rfl, rfl, rfl, rfl⟩ ?_ ?_
    ·
     rintro i1 s1 f w o1 hlt1 hI1 h1
     obtain ⟨I10, e26, e27, e28, e29, e30, ed4⟩ := hI1
     refine ad_ ?_
     refine ab_ ?_
     refine aa_ rfl (bn_ (a := (i1 : Int)) (b := (x2.1.length : Int)) rfl e30 e29 ?_)
     refine ag_ ?_
     refine ad_ ?_
     refine an_ (b := decide ((i1 : Int) < (x2.1.length : Int))) rfl (eu_ hlt1) ?_
     refine ar_ ?_
     refine ad_ ?_
     refine au_ ?_
     refine ad_ ?_
     refine ab_ ?_
     obtain ⟨x6, hx6, h1⟩ := bnd h1
     refine aa_ rfl (bh_ (v := (Value.slice z8 m8 k8)) (i := (i1 : Int)) (e := x6) rfl Try.underlying26 sh3 e28 (Inv.rowSrc (I10.nth 0 rfl)) e30 hx6 ?_)
     refine aa_ rfl (av_ (v := (ah_ (Value.slice z8 m8 k8) ((i1 : Int)) (Enc.sz Int))) (e := x6) rfl sh3 rfl ((I10.nth 0 rfl).rowElem hx6) ?_)
     refine aa_ rfl (ae_ (v := (Value.int .i64 (x6))) rfl rfl ?_)
     refine ag_ ?_
     refine ab_ ?_
     refine aa_ rfl (ac_ (v := (Value.int .i64 (s1))) rfl e26 ?_)
     refine aa_ rfl (ac_ (v := (Value.int .i64 (x6))) rfl rfl ?_)
     refine aa_ rfl (bs_ (a := s1) (b := x6) rfl rfl rfl ?_)
     refine aa_ rfl (ae_ (v := (Value.int .i64 (w64 (s1 + x6)))) rfl rfl ?_)
     refine ag_ ?_
     refine ab_ ?_
     refine aa_ rfl (bs_ (a := (i1 : Int)) (b := 1) rfl e30 rfl ?_)
     refine aa_ rfl (ac_ (v := (Value.int .i64 (w64 ((i1 : Int) + 1)))) rfl rfl ?_)
     refine ag_ ?_
     obtain rfl := Option.some.inj h1
     exact ⟨I10, rfl, e27, e28, e29, (ca_ hlt1 hk1), ed4⟩
    ·
     rintro f w hI2
     obtain ⟨I11, e31, e32, e33, e34, e35, ed5⟩ := hI2
     refine ad_ ?_
     refine ab_ ?_
     refine aa_ rfl (bn_ (a := (x2.1.length : Int)) (b := (x2.1.length : Int)) rfl e35 e34 ?_)
     refine ag_ ?_
     refine ad_ ?_
     refine ap_ (b := decide ((x2.1.length : Int) < (x2.1.length : Int))) rfl (ev_ _) ?_
     refine bm_ ?_
     exact ⟨I11, e31, e32, e33, e34, ed5⟩
   ·
    rintro f w ⟨I12, e36, e37, e38, e39, ed6⟩
    refine ad_ ?_
    refine ab_ ?_
    refine aa_ rfl (ac_ (v := (Value.int .i64 (out1))) rfl e36 ?_)
    refine aa_ rfl (ac_ (v := (Value.slice z8 m8 k8)) rfl e37 ?_)
    refine aa_ rfl (bu_ (α := Int) rfl Try.underlying26 rfl (I12.nth 0 rfl) ?_)
    obtain ⟨x7, hx7, h⟩ := bnd h
    refine aa_ rfl (bl_ (vs := [(Value.int .i64 (out1)), (Value.int .i64 ((x2.1.length : Int)))]) (r := (Value.int .i64 (x7))) rfl ca54 rfl (fb_ rfl rfl) I12 (fun Fr_ hF_ => F54_ok hF_  hx7) (fun w6 I13 => ?_))
    refine aa_ rfl (ae_ (v := (Value.int .i64 (x7))) rfl rfl ?_)
    refine ag_ ?_
    refine ad_ ?_
    obtain ⟨x8, hx8, h⟩ := bnd h
    obtain ⟨x9, hx9, h⟩ := bnd h
    refine cn_ (sps := [⟨some 52, [], [0], fun vs_ T_ => fr0 vs_ 0 = (Value.int .i64 (out1)), [], [], [], fun _ h_ => h_⟩, ⟨some 53, [], [1], fun vs_ T_ => fr0 vs_ 0 = (Value.int .i64 (x7)), [], [], [], fun _ h_ => h_⟩, ⟨some 54, [0, 1], [2], fun vs_ T_ => fr0 vs_ 0 = (Value.int .i64 (x8)), [], [], [], fun _ h_ => h_⟩, ⟨some 55, [], [3], fun vs_ T_ => fr0 vs_ 0 = (Value.slice z8 m8 k8), [], [], [], fun _ h_ => h_⟩, ⟨some 56, [3], [4], fun vs_ T_ => fr0 vs_ 0 = (Value.int .i64 ((x2.1.length : Int))), [0], [], [], fun _ h_ => h_⟩, ⟨some 57, [], [5], fun vs_ T_ => fr0 vs_ 0 = (Value.int .i64 (x7)), [], [], [], fun _ h_ => h_⟩, ⟨some 58, [3, 4, 5], [6], fun vs_ T_ => fr0 vs_ 0 = (Value.int .i64 (x9)), [], [], [], fun _ h_ => h_⟩, ⟨some 8, [0, 1, 2], [7], fun vs_ T_ => fr0 vs_ 0 = (Value.int .i64 (x8)), [], [], [], fun _ h_ => h_⟩, ⟨some 9, [0, 1, 2, 3, 4, 5, 6, 7], [8], fun vs_ T_ => fr0 vs_ 0 = (Value.int .i64 (x9)), [], [], [], fun _ h_ => h_⟩, ⟨some 10, [0, 1, 2, 3, 4, 5, 6, 7, 8], [9], fun vs_ T_ => fr0 vs_ 0 = (Value.int .i64 (0)), [], [], [], fun _ h_ => h_⟩]) (tks := [⟨none, none, [], fun vs_ => Row (α := Int) 3 (Value.slice z8 m8 k8) (x2.1)⟩]) (O := Fr) rfl (by kernel_rfl) I13 ⟨?_, ?_, ?_, ?_, ?_, ?_, ?_, ?_, ?_, ?_, trivial⟩ ?_
    ·
     intro vs1 f w7 S4 X1 le4 hA1 hK1 hI3
     have I14 : Inv w7 S4 (X1) := hI3
     refine af_ rfl rfl (ac_ (v := (Value.int .i64 (out1))) rfl ((hK1 8 (be_ rfl)).trans e36) ?_)
     refine ⟨_, _, rfl, PH.Le.refl _, ?_, ?_⟩
     ·
      exact rfl
     ·
      exact I14
    ·
     intro vs2 f w8 S5 X2 le5 hA2 hK2 hI4
     have I15 : Inv w8 S5 (X2) := hI4
     refine af_ rfl rfl (ac_ (v := (Value.int .i64 (x7))) rfl (hK2 16 (be_ rfl)) ?_)
     refine ⟨_, _, rfl, PH.Le.refl _, ?_, ?_⟩
     ·
      exact rfl
     ·
      exact I15
    ·
     intro vs3 f w9 S6 X3 le6 hA3 hK3 hI5
     have I16 : Inv w9 S6 (X3) := hI5
     have q1 : f 52 = (Value.int .i64 (out1)) := vt (hA3.at_ 0 rfl _ rfl) rfl
     have q2 : f 53 = (Value.int .i64 (x7)) := vt (hA3.at_ 1 rfl _ rfl) rfl
     refine af_ rfl rfl (nj_ (a := out1) (b := x7) rfl q1 q2 hx8 ?_)
     refine ⟨_, _, rfl, PH.Le.refl _, ?_, ?_⟩
     ·
      exact rfl
     ·
      exact I16
    ·
     intro vs4 f w10 S7 X4 le7 hA4 hK4 hI6
     have I17 : Inv w10 S7 (X4) := hI6
     refine af_ rfl rfl (ac_ (v := (Value.slice z8 m8 k8)) rfl ((hK4 12 (be_ rfl)).trans e37) ?_)
     refine ⟨_, _, rfl, PH.Le.refl _, ?_, ?_⟩
     ·
      exact rfl
     ·
      exact I17
    ·
     intro vs5 f w11 S8 X5 le8 hA5 hK5 hI7
     have I18 : Inv w11 S8 (Row (α := Int) 3 (Value.slice z8 m8 k8) (x2.1) :: X5) := hI7
     have q3 : f 55 = (Value.slice z8 m8 k8) := vt (hA5.at_ 0 rfl _ rfl) rfl
     refine af_ rfl rfl (bu_ (α := Int) rfl Try.underlying26 q3 (I18.nth 0 rfl) ?_)
     refine ⟨_, _, rfl, PH.Le.refl _, ?_, ?_⟩
     ·
      exact rfl
     ·
      exact I18
    ·
     intro vs6 f w12 S9 X6 le9 hA6 hK6 hI8
     have I19 : Inv w12 S9 (X6) := hI8
     refine af_ rfl rfl (ac_ (v := (Value.int .i64 (x7))) rfl (hK6 16 (be_ rfl)) ?_)
     refine ⟨_, _, rfl, PH.Le.refl _, ?_, ?_⟩
     ·
      exact rfl
     ·
      exact I19
    ·
     intro vs7 f w13 S10 X7 le10 hA7 hK7 hI9
     have I20 : Inv w13 S10 (X7) := hI9
     have q4 : f 56 = (Value.int .i64 ((x2.1.length : Int))) := vt (hA7.at_ 1 rfl _ rfl) rfl
     have q5 : f 57 = (Value.int .i64 (x7)) := vt (hA7.at_ 2 rfl _ rfl) rfl
     refine af_ rfl rfl (nj_ (a := (x2.1.length : Int)) (b := x7) rfl q4 q5 hx9 ?_)
     refine ⟨_, _, rfl, PH.Le.refl _, ?_, ?_⟩
     ·
      exact rfl
     ·
      exact I20
    ·
     intro vs8 f w14 S11 X8 le11 hA8 hK8 hI10
     have I21 : Inv w14 S11 (X8) := hI10
     have q6 : f 54 = (Value.int .i64 (x8)) := vt (hA8.at_ 2 rfl _ rfl) rfl
     refine af_ rfl rfl (ae_ (v := (Value.int .i64 (x8))) rfl q6 ?_)
     refine ⟨_, _, rfl, PH.Le.refl _, ?_, ?_⟩
     ·
      exact rfl
     ·
      exact I21
    ·
     intro vs9 f w15 S12 X9 le12 hA9 hK9 hI11
     have I22 : Inv w15 S12 (X9) := hI11
     have q7 : f 58 = (Value.int .i64 (x9)) := vt (hA9.at_ 6 rfl _ rfl) rfl
     refine af_ rfl rfl (ae_ (v := (Value.int .i64 (x9))) rfl q7 ?_)
     refine ⟨_, _, rfl, PH.Le.refl _, ?_, ?_⟩
     ·
      exact rfl
     ·
      exact I22
    ·
     intro vs10 f w16 S13 X10 le13 hA10 hK10 hI12
     have I23 : Inv w16 S13 (X10) := hI12
     refine af_ rfl rfl (ae_ (v := (Value.int .i64 (0))) rfl rfl ?_)
     refine ⟨_, _, rfl, PH.Le.refl _, ?_, ?_⟩
     ·
      exact rfl
     ·
      exact I23
    ·
     intro vs11 f w17 S14 ed7 le14 hF1 hK11 hI13
     have I24 : Inv w17 S14 (Row (α := Int) 3 (Value.slice z8 m8 k8) (x2.1) :: Fr) := hI13
     have q8 : f 8 = (Value.int .i64 (x8)) := vt (hF1.at_ 7 rfl _ rfl) rfl
     have q9 : f 9 = (Value.int .i64 (x9)) := vt (hF1.at_ 8 rfl _ rfl) rfl
     have q10 : f 10 = (Value.int .i64 (0)) := vt (hF1.at_ 9 rfl _ rfl) rfl
     refine aw_ ?_
     obtain rfl := Option.some.inj h
     exact ⟨(ed7.trans ed6), (Value.tuple #[(Value.int .i64 (x8)), (Value.int .i64 (x9)), (Value.int .i64 (0))]), (res3 rfl q8 q9 q10), _, [], (((le1.trans le2).trans le3).trans le14), (I24).drop, rfl, rfl⟩
set_option maxHeartbeats 4000000 in
set_option maxRecDepth 100000 in
theorem F20_ok {w : World} {S : PH} {Fr : List HP} {a0 : (List Int)} {v0 : Value} {a1 : (List Int)} {v1 : Value} {r : Bool} (hI : Inv w S (Fr)) (h0_ : RV S v0 a0) (h1_ : RV S v1 a1) (h : F20 a0 a1 = some r) :
    Calls Try.prog 20 [v0, v1].toArray w (dd_ S Fr (Value.bool (r))) := by
 unfold F20 at h
 obtain ⟨z1, m1, k1, e1⟩ := ak_ h0_
 subst e1
 obtain ⟨z2, m2, k2, e2⟩ := ak_ h1_
 subst e2
 refine bd_ (n := 26) (vs := [(Value.slice z1 m1 k1), (Value.slice z2 m2 k2)]) Try.func20 rfl rfl rfl ?_
 refine ad_ ?_
 refine ab_ ?_
 refine aa_ rfl (ae_ (v := (Value.bool (false))) rfl rfl ?_)
 refine ag_ ?_
 refine ad_ ?_
 refine ad_ ?_
 refine ab_ ?_
 refine aa_ rfl (ac_ (v := (Value.slice z1 m1 k1)) rfl rfl ?_)
 refine aa_ rfl (bg_ rfl Try.underlying26 rfl h0_ ?_)
 refine aa_ rfl (ac_ (v := (Value.slice z2 m2 k2)) rfl rfl ?_)
 refine aa_ rfl (bg_ rfl Try.underlying26 rfl h1_ ?_)
 refine aa_ rfl (cz_ (a := (a0.length : Int)) (b := (a1.length : Int)) rfl rfl rfl ?_)
 refine ag_ ?_
 rcases ifs h with ⟨hc1, h⟩ | ⟨hc1, h⟩
 ·
  refine an_ (b := (a0.length : Int) != (a1.length : Int)) rfl hc1 ?_
  refine ad_ ?_
  refine ab_ ?_
  refine aa_ rfl (ae_ (v := (Value.bool (false))) rfl rfl ?_)
  refine ag_ ?_
  refine aw_ ?_
  obtain rfl := Option.some.inj h
  exact ⟨rfl, (Value.bool (false)), (cx_ rfl rfl), _, [], (PH.Le.refl _), hI, rfl, rfl⟩
 ·
  refine ap_ (b := (a0.length : Int) != (a1.length : Int)) rfl hc1 ?_
  refine ar_ ?_
  refine ad_ ?_
  refine ad_ ?_
  refine ab_ ?_
  refine aa_ rfl (ae_ (v := (Value.int .i64 (0))) rfl rfl ?_)
  refine ag_ ?_
  have hk1 : a0.length ≤ 9223372036854775807 := (ee_ h0_)
  obtain ⟨o2, hrun1, h⟩ := bnd h
  refine cf_ (fun f w => ∃ out1, o2 = Sum.inl out1 ∧ ∃ (S_ : PH), S.Le S_ ∧ Inv w S_ (Fr) ∧ f 0 = (Value.slice z1 m1 k1) ∧ f 1 = (Value.slice z2 m2 k2) ∧ f.ds = []) ?_ ?_
  ·
   refine au_ ?_
   refine dl_ (I := fun (i1 : Nat) (s1 : Unit) (f : Frm) (w : World) => ∃ (S_ : PH), S.Le S_ ∧ Inv w S_ (Fr) ∧ f 0 = (Value.slice z1 m1 k1) ∧ f 1 = (Value.slice z2 m2 k2) ∧ f 5 = (Value.int .i64 (i1 : Int)) ∧ f.ds = []) hrun1 ⟨_, (PH.Le.refl _), hI, rfl, rfl, rfl, rfl⟩ ?_ ?_
   ·
    rintro i1 s1 f w o1 hlt1 hI31 h1 hout1
    obtain ⟨S33, le33, I34, e21, e22, e23, ed7⟩ := hI31
    refine ad_ ?_
    refine ad_ ?_
    refine ab_ ?_
    refine aa_ rfl (ac_ (v := (Value.int .i64 ((i1 : Int)))) rfl e23 ?_)
    refine aa_ rfl (ac_ (v := (Value.slice z1 m1 k1)) rfl e21 ?_)
    refine aa_ rfl (bg_ rfl Try.underlying26 rfl (h0_.mono le33) ?_)
    refine aa_ rfl (bn_ (a := (i1 : Int)) (b := (a0.length : Int)) rfl rfl rfl ?_)
    refine ag_ ?_
    refine an_ (b := decide ((i1 : Int) < (a0.length : Int))) rfl (eu_ hlt1) ?_
    refine ar_ ?_
    refine ad_ ?_
    refine au_ ?_
    refine ad_ ?_
    obtain ⟨x7, hx7, h1⟩ := bnd h1
    obtain ⟨x8, hx8, h1⟩ := bnd h1
    refine cn_ (sps := [⟨some 17, [], [0], fun vs_ T_ => fr0 vs_ 0 = (Value.slice z1 m1 k1), [], [], [], fun _ h_ => h_⟩, ⟨some 18, [], [1], fun vs_ T_ => fr0 vs_ 0 = (Value.int .i64 ((i1 : Int))), [], [], [], fun _ h_ => h_⟩, ⟨some 19, [0, 1], [2], fun vs_ T_ => fr0 vs_ 0 = (ah_ (Value.slice z1 m1 k1) ((i1 : Int)) (Enc.sz Int)), [], [], [], fun _ h_ => h_⟩, ⟨some 20, [0, 1, 2], [3], fun vs_ T_ => fr0 vs_ 0 = (Value.int .i64 (x7)), [], [], [], fun _ h_ => h_⟩, ⟨some 21, [], [4], fun vs_ T_ => fr0 vs_ 0 = (Value.slice z2 m2 k2), [], [], [], fun _ h_ => h_⟩, ⟨some 22, [], [5], fun vs_ T_ => fr0 vs_ 0 = (Value.int .i64 ((i1 : Int))), [], [], [], fun _ h_ => h_⟩, ⟨some 23, [4, 5], [6], fun vs_ T_ => fr0 vs_ 0 = (ah_ (Value.slice z2 m2 k2) ((i1 : Int)) (Enc.sz Int)), [], [], [], fun _ h_ => h_⟩, ⟨some 24, [4, 5, 6], [7], fun vs_ T_ => fr0 vs_ 0 = (Value.int .i64 (x8)), [], [], [], fun _ h_ => h_⟩, ⟨some 25, [0, 1, 2, 3, 4, 5, 6, 7], [8], fun vs_ T_ => fr0 vs_ 0 = (Value.bool (x7 != x8)), [], [], [], fun _ h_ => h_⟩]) (tks := []) (O := Fr) rfl (by kernel_rfl) I34 ⟨?_, ?_, ?_, ?_, ?_, ?_, ?_, ?_, ?_, trivial⟩ ?_
    ·
     intro vs31 f w31 S34 X28 le34 hA28 hK31 hI32
     have I35 : Inv w31 S34 (X28) := hI32
     refine af_ rfl rfl (ac_ (v := (Value.slice z1 m1 k1)) rfl ((hK31 0 (be_ rfl)).trans e21) ?_)
     refine ⟨_, _, rfl, PH.Le.refl _, ?_, ?_⟩
     ·
      exact rfl
     ·
      exact I35
    ·
     intro vs32 f w32 S35 X29 le35 hA29 hK32 hI33
     have I36 : Inv w32 S35 (X29) := hI33
     refine af_ rfl rfl (ac_ (v := (Value.int .i64 ((i1 : Int)))) rfl ((hK32 5 (be_ rfl)).trans e23) ?_)
     refine ⟨_, _, rfl, PH.Le.refl _, ?_, ?_⟩
     ·
      exact rfl
     ·
      exact I36
    ·
     intro vs33 f w33 S36 X30 le36 hA30 hK33 hI34
     have I37 : Inv w33 S36 (X30) := hI34
     have q28 : f 17 = (Value.slice z1 m1 k1) := vt (hA30.at_ 0 rfl _ rfl) rfl
     have q29 : f 18 = (Value.int .i64 ((i1 : Int))) := vt (hA30.at_ 1 rfl _ rfl) rfl
     refine af_ rfl rfl (ao_ (v := (Value.slice z1 m1 k1)) (i := (i1 : Int)) (e := x7) rfl Try.underlying26 sh3 q28 (h0_.mono (le33.trans le36)) q29 hx7 ?_)
     refine ⟨_, _, rfl, PH.Le.refl _, ?_, ?_⟩
     ·
      exact rfl
     ·
      exact I37
    ·
     intro vs34 f w34 S37 X31 le37 hA31 hK34 hI35
     have I38 : Inv w34 S37 (X31) := hI35
     have q30 : f 19 = (ah_ (Value.slice z1 m1 k1) ((i1 : Int)) (Enc.sz Int)) := vt (hA31.at_ 2 rfl _ rfl) rfl
     refine af_ rfl rfl (av_ (v := (ah_ (Value.slice z1 m1 k1) ((i1 : Int)) (Enc.sz Int))) (e := x7) rfl sh3 q30 ((h0_.mono (le33.trans le37)).elem I38.in_ hx7) ?_)
     refine ⟨_, _, rfl, PH.Le.refl _, ?_, ?_⟩
     ·
      exact rfl
     ·
      exact I38
    ·
     intro vs35 f w35 S38 X32 le38 hA32 hK35 hI36
     have I39 : Inv w35 S38 (X32) := hI36
     refine af_ rfl rfl (ac_ (v := (Value.slice z2 m2 k2)) rfl ((hK35 1 (be_ rfl)).trans e22) ?_)
     refine ⟨_, _, rfl, PH.Le.refl _, ?_, ?_⟩
     ·
      exact rfl
     ·
      exact I39
    ·
     intro vs36 f w36 S39 X33 le39 hA33 hK36 hI37
     have I40 : Inv w36 S39 (X33) := hI37
     refine af_ rfl rfl (ac_ (v := (Value.int .i64 ((i1 : Int)))) rfl ((hK36 5 (be_ rfl)).trans e23) ?_)
     refine ⟨_, _, rfl, PH.Le.refl _, ?_, ?_⟩
     ·
      exact rfl
     ·
      exact I40
    ·
     intro vs37 f w37 S40 X34 le40 hA34 hK37 hI38
     have I41 : Inv w37 S40 (X34) := hI38
     have q31 : f 21 = (Value.slice z2 m2 k2) := vt (hA34.at_ 0 rfl _ rfl) rfl
     have q32 : f 22 = (Value.int .i64 ((i1 : Int))) := vt (hA34.at_ 1 rfl _ rfl) rfl
     refine af_ rfl rfl (ao_ (v := (Value.slice z2 m2 k2)) (i := (i1 : Int)) (e := x8) rfl Try.underlying26 sh3 q31 (h1_.mono (le33.trans le40)) q32 hx8 ?_)
     refine ⟨_, _, rfl, PH.Le.refl _, ?_, ?_⟩
     ·
      exact rfl
     ·
      exact I41
    ·
     intro vs38 f w38 S41 X35 le41 hA35 hK38 hI39
     have I42 : Inv w38 S41 (X35) := hI39
     have q33 : f 23 = (ah_ (Value.slice z2 m2 k2) ((i1 : Int)) (Enc.sz Int)) := vt (hA35.at_ 2 rfl _ rfl) rfl
     refine af_ rfl rfl (av_ (v := (ah_ (Value.slice z2 m2 k2) ((i1 : Int)) (Enc.sz Int))) (e := x8) rfl sh3 q33 ((h1_.mono (le33.trans le41)).elem I42.in_ hx8) ?_)
     refine ⟨_, _, rfl, PH.Le.refl _, ?_, ?_⟩
     ·
      exact rfl
     ·
      exact I42
    ·
     intro vs39 f w39 S42 X36 le42 hA36 hK39 hI40
     have I43 : Inv w39 S42 (X36) := hI40
     have q34 : f 20 = (Value.int .i64 (x7)) := vt (hA36.at_ 3 rfl _ rfl) rfl
     have q35 : f 24 = (Value.int .i64 (x8)) := vt (hA36.at_ 7 rfl _ rfl) rfl
     refine af_ rfl rfl (cz_ (a := x7) (b := x8) rfl q34 q35 ?_)
     refine ⟨_, _, rfl, PH.Le.refl _, ?_, ?_⟩
     ·
      exact rfl
     ·
      exact I43
    ·
     intro vs40 f w40 S43 ed8 le43 hF4 hK40 hI41
     have e24 : f 0 = (Value.slice z1 m1 k1) := (hK40 0 (bc_ rfl)).trans e21
     have e25 : f 1 = (Value.slice z2 m2 k2) := (hK40 1 (bc_ rfl)).trans e22
     have e26 : f 5 = (Value.int .i64 ((i1 : Int))) := (hK40 5 (bc_ rfl)).trans e23
     have I44 : Inv w40 S43 (Fr) := hI41
     have q36 : f 25 = (Value.bool (x7 != x8)) := vt (hF4.at_ 8 rfl _ rfl) rfl
     rcases ifs h1 with ⟨hc5, h1⟩ | ⟨hc5, h1⟩
     ·
      refine an_ (b := x7 != x8) q36 hc5 ?_
      refine ad_ ?_
      refine ab_ ?_
      refine aa_ rfl (ae_ (v := (Value.bool (false))) rfl rfl ?_)
      refine ag_ ?_
      refine aw_ ?_
      obtain rfl := Option.some.inj h1
      obtain rfl := (hout1 _ rfl)
      have h2 := h
      obtain rfl := Option.some.inj h2
      exact ⟨(ed8.trans ed7), (Value.bool (false)), (cx_ rfl rfl), _, [], (le33.trans le43), I44, rfl, rfl⟩
     ·
      refine ap_ (b := x7 != x8) q36 hc5 ?_
      refine ar_ ?_
      refine ab_ ?_
      refine aa_ rfl (ac_ (v := (Value.int .i64 ((i1 : Int)))) rfl e26 ?_)
      refine aa_ rfl (bs_ (a := (i1 : Int)) (b := 1) rfl rfl rfl ?_)
      refine aa_ rfl (ae_ (v := (Value.int .i64 (w64 ((i1 : Int) + 1)))) rfl rfl ?_)
      refine ag_ ?_
      obtain rfl := Option.some.inj h1
      exact ⟨_, rfl, _, (le33.trans le43), I44, e24, e25, (ca_ hlt1 hk1), (ed8.trans ed7)⟩
   ·
    rintro s2 f w hs1 hI42
    obtain ⟨S44, le44, I45, e27, e28, e29, ed9⟩ := hI42
    refine ad_ ?_
    refine ad_ ?_
    refine ab_ ?_
    refine aa_ rfl (ac_ (v := (Value.int .i64 ((a0.length : Int)))) rfl e29 ?_)
    refine aa_ rfl (ac_ (v := (Value.slice z1 m1 k1)) rfl e27 ?_)
    refine aa_ rfl (bg_ rfl Try.underlying26 rfl (h0_.mono le44) ?_)
    refine aa_ rfl (bn_ (a := (a0.length : Int)) (b := (a0.length : Int)) rfl rfl rfl ?_)
    refine ag_ ?_
    refine ap_ (b := decide ((a0.length : Int) < (a0.length : Int))) rfl (ev_ _) ?_
    refine bm_ ?_
    exact ⟨s2, hs1, _, le44, I45, e27, e28, ed9⟩
  ·
   rintro f w ⟨out1, rfl, S45, le45, I46, e30, e31, ed10⟩
   have h := cy_ h
   refine ad_ ?_
   refine ab_ ?_
   refine aa_ rfl (ae_ (v := (Value.bool (true))) rfl rfl ?_)
   refine ag_ ?_
   refine aw_ ?_
   obtain rfl := Option.some.inj h
   exact ⟨ed10, (Value.bool (true)), (cx_ rfl rfl), _, [], le45, I46, rfl, rfl⟩
set_option maxHeartbeats 4000000 in
set_option maxRecDepth 100000 in
theorem ja_ {w : World} {S : PH} {Fr : List HP}  {r : Bool} (hI : Inv w S (Fr))  (h : F17  = some r) :
    Calls Try.prog 17 [].toArray w (dd_ S Fr (Value.bool (r))) := by
 unfold F17 at h
 refine bd_ (n := 50) (vs := []) Try.func17 rfl rfl rfl ?_
 refine ad_ ?_
 refine ab_ ?_
 refine aa_ rfl (ae_ (v := (Value.bool (false))) rfl rfl ?_)
 refine ag_ ?_
 refine ad_ ?_
 refine ab_ ?_
 obtain ⟨x1, hx1, h⟩ := bnd h
 refine aa_ rfl (cu_ (vs := []) rfl ca44 rfl kt_ (F44_ok hI  hx1) (fun cv1 w1 S1 O1 le1 I1 hv1 => ?_))
 obtain ⟨c1, z1, m1, k1, rfl, rfl, r1⟩ := hv1
 obtain ⟨c2, c3, e1, r2, r3⟩ := Graph.inv r1
 subst e1
 obtain ⟨z2, m2, k2, e2⟩ := ak_ r2
 subst e2
 obtain ⟨z3, m3, k3, e3⟩ := ak_ r3
 subst e3
 refine aa_ rfl (ac_ (v := (Value.tuple #[(Value.agg #[(Value.slice z2 m2 k2), (Value.slice z3 m3 k3)]), (Value.slice z1 m1 k1)])) rfl rfl ?_)
 refine aa_ rfl (bk_ (v := (Value.agg #[(Value.slice z2 m2 k2), (Value.slice z3 m3 k3)])) rfl rfl rfl ?_)
 refine aa_ rfl (bk_ (v := (Value.slice z1 m1 k1)) rfl rfl rfl ?_)
 refine aa_ rfl (cl_ (z := (Value.agg #[(Value.slice none 0 0), (Value.slice none 0 0)])) rfl I1 zo25 (fun g1 w2 (I2 : Inv w2 S1 (ax_ g1 25 #[(Value.slice none 0 0), (Value.slice none 0 0)] :: Row (α := Int) 3 (Value.slice z1 m1 k1) (x1.2) :: Fr)) => ?_))
 refine aa_ rfl (bo_ (v := (Value.agg #[(Value.slice z2 m2 k2), (Value.slice z3 m3 k3)])) (cs := #[(Value.slice none 0 0), (Value.slice none 0 0)]) je_ I2 rfl rfl rfl (Nat.le_of_ble_eq_true rfl) rfl (fun w3 (I3 : Inv w3 S1 (ax_ g1 25 #[(Value.slice z2 m2 k2), (Value.slice z3 m3 k3)] :: Row (α := Int) 3 (Value.slice z1 m1 k1) (x1.2) :: Fr)) => ?_))
 refine aa_ rfl (ae_ (v := (Value.slice z1 m1 k1)) rfl rfl ?_)
 refine ag_ ?_
 refine ad_ ?_
 refine ab_ ?_
 refine aa_ rfl (cg_ (l := [(Value.slice z2 m2 k2), (Value.slice z3 m3 k3)]) rfl je_ (I3.nth 0 rfl) rfl rfl rfl ?_)
 refine aa_ rfl (ac_ (v := (Value.slice z1 m1 k1)) rfl rfl ?_)
 refine aa_ rfl (cw_ (qs := [(0, #[(Value.int .i64 (10))])]) (c := #[(Value.int .i64 (10)), (Value.int .i64 (0))]) rfl st28 ⟨rfl, rfl, trivial⟩ rfl ?_)
 obtain ⟨x2, hx2, h⟩ := bnd h
 obtain ⟨S2, Fr1, le2, I4, r4, bk1⟩ := Inv.lend1 (I3.pull 1)
 refine aa_ rfl (cu_ (vs := [(Value.agg #[(Value.slice z2 m2 k2), (Value.slice z3 m3 k3)]), (Value.slice z1 m1 k1), (Value.agg #[(Value.int .i64 (10)), (Value.int .i64 (0))]), (Value.int .i64 (100))]) rfl ca18 rfl (md_ rfl rfl rfl rfl) (od_ I4 (Graph.rv (s := x1.1) (r2.mono le2) (r3.mono le2)) r4 (Mind.rv (s := (⟨10, 0⟩ : Mind))) hx2) (fun cv2 w4 S3 O2 le3 I6 hv2 => ?_))
 obtain ⟨z4, m4, k4, rfl, rfl⟩ := hv2
 have I5 := bk1 [Row (α := Int) 3 (Value.slice z4 m4 k4) (x2.1)] ⟨Row.free, trivial⟩ I6 le3
 refine aa_ rfl (ac_ (v := (Value.tuple #[(Value.slice z4 m4 k4), (Value.bool (x2.2.1)), (Value.int .i64 (x2.2.2))])) rfl rfl ?_)
 refine aa_ rfl (bk_ (v := (Value.slice z4 m4 k4)) rfl rfl rfl ?_)
 refine aa_ rfl (bk_ (v := (Value.bool (x2.2.1))) rfl rfl rfl ?_)
 refine aa_ rfl (bk_ (v := (Value.int .i64 (x2.2.2))) rfl rfl rfl ?_)
 refine aa_ rfl (ae_ (v := (Value.slice z4 m4 k4)) rfl rfl ?_)
 refine aa_ rfl (ae_ (v := (Value.bool (x2.2.1))) rfl rfl ?_)
 refine aa_ rfl (ae_ (v := (Value.int .i64 (x2.2.2))) rfl rfl ?_)
 refine ag_ ?_
 refine ad_ ?_
 refine ab_ ?_
 refine aa_ rfl (cg_ (l := [(Value.slice z2 m2 k2), (Value.slice z3 m3 k3)]) rfl je_ (I5.nth 2 rfl) rfl rfl rfl ?_)
 refine aa_ rfl (ac_ (v := (Value.slice z1 m1 k1)) rfl rfl ?_)
 obtain ⟨x3, hx3, h⟩ := bnd h
 obtain ⟨S4, Fr2, le4, I7, r5, bk2⟩ := Inv.lend1 (I5.pull 1)
 refine aa_ rfl (cu_ (vs := [(Value.agg #[(Value.slice z2 m2 k2), (Value.slice z3 m3 k3)]), (Value.slice z1 m1 k1), (Value.int .i64 (10)), (Value.int .i64 (100))]) rfl ca29 rfl (md_ rfl rfl rfl rfl) (F29_ok I7 (Graph.rv (s := x1.1) (r2.mono le4) (r3.mono le4)) r5 hx3) (fun cv3 w5 S5 O3 le5 I9 hv3 => ?_))
 obtain ⟨rfl, rfl⟩ := hv3
 have I8 := bk2 [] trivial I9 le5
 refine aa_ rfl (ac_ (v := (Value.tuple #[(Value.int .i64 (x3.1)), (Value.int .i64 (x3.2.1)), (Value.int .i64 (x3.2.2))])) rfl rfl ?_)
 refine aa_ rfl (bk_ (v := (Value.int .i64 (x3.1))) rfl rfl rfl ?_)
 refine aa_ rfl (bk_ (v := (Value.int .i64 (x3.2.1))) rfl rfl rfl ?_)
 refine aa_ rfl (bk_ (v := (Value.int .i64 (x3.2.2))) rfl rfl rfl ?_)
 refine aa_ rfl (ae_ (v := (Value.int .i64 (x3.1))) rfl rfl ?_)
 refine aa_ rfl (ae_ (v := (Value.int .i64 (x3.2.1))) rfl rfl ?_)
 refine aa_ rfl (ae_ (v := (Value.int .i64 (x3.2.2))) rfl rfl ?_)
 refine ag_ ?_
 refine ad_ ?_
 refine ab_ ?_
 refine aa_ rfl (ac_ (v := (Value.int .i64 (x2.2.2))) rfl rfl ?_)
 refine aa_ rfl (es_ (a := x2.2.2) (b := 0) rfl rfl rfl ?_)
 refine aa_ rfl (ac_ (v := (Value.bool (x2.2.2 == 0))) rfl rfl ?_)
 rcases ifs h with ⟨hc1, h⟩ | ⟨hc1, h⟩
 ·
  refine al_ (c := x2.2.2 == 0) rfl rfl rfl rfl hc1 (ac_ (v := (Value.int .i64 (x3.2.2))) rfl rfl ?_)
  refine al_ (c := x2.2.2 == 0) rfl rfl rfl rfl hc1 (es_ (a := x3.2.2) (b := 0) rfl rfl rfl ?_)
  refine aa_ rfl (bb_ (c := x2.2.2 == 0) (a := (Value.bool (x3.2.2 == 0))) rfl rfl hc1 rfl ?_)
  refine aa_ rfl (ac_ (v := (Value.bool (x3.2.2 == 0))) rfl rfl ?_)
  rcases ifs h with ⟨hc2, h⟩ | ⟨hc2, h⟩
  ·
   refine al_ (c := x3.2.2 == 0) rfl rfl rfl rfl hc2 (ac_ (v := (Value.bool (x2.2.1))) rfl rfl ?_)
   refine aa_ rfl (bb_ (c := x3.2.2 == 0) (a := (Value.bool (x2.2.1))) rfl rfl hc2 rfl ?_)
   refine aa_ rfl (ac_ (v := (Value.bool (x2.2.1))) rfl rfl ?_)
   rcases ifs h with ⟨hc3, h⟩ | ⟨hc3, h⟩
   ·
    refine al_ (c := x2.2.1) rfl rfl rfl rfl hc3 (ac_ (v := (Value.slice z4 m4 k4)) rfl rfl ?_)
    refine al_ (c := x2.2.1) rfl rfl rfl rfl hc3 (br_ (vs := [(Value.int .i64 (0)), (Value.int .i64 (0)), (Value.int .i64 (1)), (Value.int .i64 (0)), (Value.int .i64 (0)), (Value.int .i64 (1)), (Value.int .i64 (0))]) (r := ([0, 0, 1, 0, 0, 1, 0] : List Int)) rfl Try.underlying26 el3 (parts7 rfl rfl rfl rfl rfl rfl rfl) rfl (by decide) (by decide) ⟨(cb_ _), ⟨(cb_ _), ⟨(cb_ _), ⟨(cb_ _), ⟨(cb_ _), ⟨(cb_ _), ⟨(cb_ _), trivial⟩⟩⟩⟩⟩⟩⟩ I8 (fun u1 w6 I10 => ?_))
    obtain ⟨z5, m5, k5, e4⟩ := bt_ I10
    subst e4
    obtain ⟨x4, hx4, h⟩ := bnd h
    obtain ⟨S6, Fr3, le6, I11, r6, r7, bk3⟩ := Inv.lend2 (I10.pull 2)
    refine al_ (c := x2.2.1) rfl rfl rfl rfl hc3 (cu_ (vs := [(Value.slice z4 m4 k4), (Value.slice z5 m5 k5)]) rfl ca20 rfl (fb_ rfl rfl) (F20_ok I11 r6 r7 hx4) (fun cv4 w7 S7 O4 le7 I13 hv4 => ?_))
    obtain ⟨rfl, rfl⟩ := hv4
    have I12 := bk3 [] trivial I13 le7
    refine aa_ rfl (bb_ (c := x2.2.1) (a := (Value.bool (x4))) rfl rfl hc3 rfl ?_)
    refine aa_ rfl (ac_ (v := (Value.bool (x4))) rfl rfl ?_)
    rcases ifs h with ⟨hc4, h⟩ | ⟨hc4, h⟩
    ·
     refine al_ (c := x4) rfl rfl rfl rfl hc4 (ac_ (v := (Value.int .i64 (x3.1))) rfl rfl ?_)
     refine al_ (c := x4) rfl rfl rfl rfl hc4 (es_ (a := x3.1) (b := 8) rfl rfl rfl ?_)
     refine aa_ rfl (bb_ (c := x4) (a := (Value.bool (x3.1 == 8))) rfl rfl hc4 rfl ?_)
     refine aa_ rfl (ac_ (v := (Value.bool (x3.1 == 8))) rfl rfl ?_)
     rcases ifs h with ⟨hc5, h⟩ | ⟨hc5, h⟩
     ·
      refine al_ (c := x3.1 == 8) rfl rfl rfl rfl hc5 (ac_ (v := (Value.int .i64 (x3.2.1))) rfl rfl ?_)
      refine al_ (c := x3.1 == 8) rfl rfl rfl rfl hc5 (es_ (a := x3.2.1) (b := 1) rfl rfl rfl ?_)
      refine aa_ rfl (bb_ (c := x3.1 == 8) (a := (Value.bool (x3.2.1 == 1))) rfl rfl hc5 rfl ?_)
      refine aa_ rfl (ae_ (v := (Value.bool (x3.2.1 == 1))) rfl rfl ?_)
      refine ag_ ?_
      refine aw_ ?_
      obtain rfl := Option.some.inj h
      exact ⟨rfl, (Value.bool (x3.2.1 == 1)), (cx_ rfl rfl), _, [], le1, ((((I12).drop).drop).drop).drop, rfl, rfl⟩
     ·
      refine ai_ (c := x3.1 == 8) rfl rfl rfl rfl hc5 rfl ?_
      refine ai_ (c := x3.1 == 8) rfl rfl rfl rfl hc5 rfl ?_
      refine aa_ rfl (ay_ (c := x3.1 == 8) (b := (Value.bool (false))) rfl rfl hc5 rfl ?_)
      refine aa_ rfl (ae_ (v := (Value.bool (false))) rfl rfl ?_)
      refine ag_ ?_
      refine aw_ ?_
      obtain rfl := Option.some.inj h
      exact ⟨rfl, (Value.bool (false)), (cx_ rfl rfl), _, [], le1, ((((I12).drop).drop).drop).drop, rfl, rfl⟩
    ·
     refine ai_ (c := x4) rfl rfl rfl rfl hc4 rfl ?_
     refine ai_ (c := x4) rfl rfl rfl rfl hc4 rfl ?_
     refine aa_ rfl (ay_ (c := x4) (b := (Value.bool (false))) rfl rfl hc4 rfl ?_)
     refine aa_ rfl (ac_ (v := (Value.bool (false))) rfl rfl ?_)
     refine ai_ (c := false) rfl rfl rfl rfl rfl rfl ?_
     refine ai_ (c := false) rfl rfl rfl rfl rfl rfl ?_
     refine aa_ rfl (ay_ (c := false) (b := (Value.bool (false))) rfl rfl rfl rfl ?_)
     refine aa_ rfl (ae_ (v := (Value.bool (false))) rfl rfl ?_)
     refine ag_ ?_
     refine aw_ ?_
     obtain rfl := Option.some.inj h
     exact ⟨rfl, (Value.bool (false)), (cx_ rfl rfl), _, [], le1, ((((I12).drop).drop).drop).drop, rfl, rfl⟩
   ·
    refine ai_ (c := x2.2.1) rfl rfl rfl rfl hc3 rfl ?_
    refine ai_ (c := x2.2.1) rfl rfl rfl rfl hc3 rfl ?_
    refine ai_ (c := x2.2.1) rfl rfl rfl rfl hc3 rfl ?_
    refine aa_ rfl (ay_ (c := x2.2.1) (b := (Value.bool (false))) rfl rfl hc3 rfl ?_)
    refine aa_ rfl (ac_ (v := (Value.bool (false))) rfl rfl ?_)
    refine ai_ (c := false) rfl rfl rfl rfl rfl rfl ?_
    refine ai_ (c := false) rfl rfl rfl rfl rfl rfl ?_
    refine aa_ rfl (ay_ (c := false) (b := (Value.bool (false))) rfl rfl rfl rfl ?_)
    refine aa_ rfl (ac_ (v := (Value.bool (false))) rfl rfl ?_)
    refine ai_ (c := false) rfl rfl rfl rfl rfl rfl ?_
    refine ai_ (c := false) rfl rfl rfl rfl rfl rfl ?_
    refine aa_ rfl (ay_ (c := false) (b := (Value.bool (false))) rfl rfl rfl rfl ?_)
    refine aa_ rfl (ae_ (v := (Value.bool (false))) rfl rfl ?_)
    refine ag_ ?_
    refine aw_ ?_
    obtain rfl := Option.some.inj h
    exact ⟨rfl, (Value.bool (false)), (cx_ rfl rfl), _, [], le1, (((I8).drop).drop).drop, rfl, rfl⟩
  ·
   refine ai_ (c := x3.2.2 == 0) rfl rfl rfl rfl hc2 rfl ?_
   refine aa_ rfl (ay_ (c := x3.2.2 == 0) (b := (Value.bool (false))) rfl rfl hc2 rfl ?_)
   refine aa_ rfl (ac_ (v := (Value.bool (false))) rfl rfl ?_)
   refine ai_ (c := false) rfl rfl rfl rfl rfl rfl ?_
   refine ai_ (c := false) rfl rfl rfl rfl rfl rfl ?_
   refine ai_ (c := false) rfl rfl rfl rfl rfl rfl ?_
   refine aa_ rfl (ay_ (c := false) (b := (Value.bool (false))) rfl rfl rfl rfl ?_)
   refine aa_ rfl (ac_ (v := (Value.bool (false))) rfl rfl ?_)
   refine ai_ (c := false) rfl rfl rfl rfl rfl rfl ?_
   refine ai_ (c := false) rfl rfl rfl rfl rfl rfl ?_
   refine aa_ rfl (ay_ (c := false) (b := (Value.bool (false))) rfl rfl rfl rfl ?_)
   refine aa_ rfl (ac_ (v := (Value.bool (false))) rfl rfl ?_)
   refine ai_ (c := false) rfl rfl rfl rfl rfl rfl ?_
   refine ai_ (c := false) rfl rfl rfl rfl rfl rfl ?_
   refine aa_ rfl (ay_ (c := false) (b := (Value.bool (false))) rfl rfl rfl rfl ?_)
   refine aa_ rfl (ae_ (v := (Value.bool (false))) rfl rfl ?_)
   refine ag_ ?_
   refine aw_ ?_
   obtain rfl := Option.some.inj h
   exact ⟨rfl, (Value.bool (false)), (cx_ rfl rfl), _, [], le1, (((I8).drop).drop).drop, rfl, rfl⟩
 ·
  refine ai_ (c := x2.2.2 == 0) rfl rfl rfl rfl hc1 rfl ?_
  refine ai_ (c := x2.2.2 == 0) rfl rfl rfl rfl hc1 rfl ?_
  refine aa_ rfl (ay_ (c := x2.2.2 == 0) (b := (Value.bool (false))) rfl rfl hc1 rfl ?_)
  refine aa_ rfl (ac_ (v := (Value.bool (false))) rfl rfl ?_)
  refine ai_ (c := false) rfl rfl rfl rfl rfl rfl ?_
  refine aa_ rfl (ay_ (c := false) (b := (Value.bool (false))) rfl rfl rfl rfl ?_)
  refine aa_ rfl (ac_ (v := (Value.bool (false))) rfl rfl ?_)
  refine ai_ (c := false) rfl rfl rfl rfl rfl rfl ?_
  refine ai_ (c := false) rfl rfl rfl rfl rfl rfl ?_
  refine ai_ (c := false) rfl rfl rfl rfl rfl rfl ?_
  refine aa_ rfl (ay_ (c := false) (b := (Value.bool (false))) rfl rfl rfl rfl ?_)
  refine aa_ rfl (ac_ (v := (Value.bool (false))) rfl rfl ?_)
  refine ai_ (c := false) rfl rfl rfl rfl rfl rfl ?_
  refine ai_ (c := false) rfl rfl rfl rfl rfl rfl ?_
  refine aa_ rfl (ay_ (c := false) (b := (Value.bool (false))) rfl rfl rfl rfl ?_)
  refine aa_ rfl (ac_ (v := (Value.bool (false))) rfl rfl ?_)
  refine ai_ (c := false) rfl rfl rfl rfl rfl rfl ?_
  refine ai_ (c := false) rfl rfl rfl rfl rfl rfl ?_
  refine aa_ rfl (ay_ (c := false) (b := (Value.bool (false))) rfl rfl rfl rfl ?_)
  refine aa_ rfl (ae_ (v := (Value.bool (false))) rfl rfl ?_)
  refine ag_ ?_
  refine aw_ ?_
  obtain rfl := Option.some.inj h
  exact ⟨rfl, (Value.bool (false)), (cx_ rfl rfl), _, [], le1, (((I8).drop).drop).drop, rfl, rfl⟩
end Go.Proofs.Ytogfongmnkmegaa.Pad
