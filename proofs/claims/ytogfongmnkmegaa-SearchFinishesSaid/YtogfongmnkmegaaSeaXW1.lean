/- A part of the proof: what the functions of the program compute, shown over the model. -/
import Derived.Test.YtogfongmnkmegaaSeaXN
import Derived.KernelRfl
set_option linter.unusedVariables false
namespace Go.Proofs.Ytogfongmnkmegaa.Pad
open Go Go.Proofs
set_option maxHeartbeats 4000000 in
set_option maxRecDepth 100000 in
theorem F44_ok {w : World} {S : PH} {Fr : List HP}  {r : Graph × (List Int)} (hI : Inv w S (Fr))  (h : F44  = some r) :
    Calls Try.prog 44 [].toArray w (ky_ S Fr (fun T_ v_ O_ => ∃ (c0_ : Value) (a1_ : Option Addr) (n1_ k1_ : Nat), v_ = (Value.tuple #[c0_, (Value.slice a1_ n1_ k1_)]) ∧ O_ = [Row (α := Int) 3 (Value.slice a1_ n1_ k1_) (r.2)] ∧ RV T_ c0_ r.1)) := by
 unfold F44 at h
 refine bd_ (n := 50) (vs := []) Try.func44 rfl rfl rfl ?_
 refine ad_ ?_
 refine ab_ ?_
 refine aa_ rfl (cl_ (z := (Value.agg #[(Value.slice none 0 0), (Value.slice none 0 0)])) rfl hI zo25 (fun g1 w1 (I1 : Inv w1 S (ax_ g1 25 #[(Value.slice none 0 0), (Value.slice none 0 0)] :: Fr)) => ?_))
 refine aa_ rfl (ae_ (v := (Value.slice none 0 0)) rfl rfl ?_)
 refine ag_ ?_
 refine ad_ ?_
 refine ab_ ?_
 refine aa_ rfl (br_ (vs := [(Value.int .i64 (1)), (Value.int .i64 (2))]) (r := ([1, 2] : List Int)) rfl Try.underlying26 el3 (lk_ rfl rfl) rfl (by decide) (by decide) ⟨(cb_ _), ⟨(cb_ _), trivial⟩⟩ I1 (fun u1 w2 I2 => ?_))
 obtain ⟨z1, m1, k1, e1⟩ := bt_ I2
 subst e1
 refine aa_ rfl (br_ (vs := [(Value.int .i64 (0)), (Value.int .i64 (3))]) (r := ([0, 3] : List Int)) rfl Try.underlying26 el3 (lk_ rfl rfl) rfl (by decide) (by decide) ⟨(cb_ _), ⟨(cb_ _), trivial⟩⟩ I2 (fun u2 w3 I3 => ?_))
 obtain ⟨z2, m2, k2, e2⟩ := bt_ I3
 subst e2
 refine aa_ rfl (br_ (vs := [(Value.int .i64 (0))]) (r := ([0] : List Int)) rfl Try.underlying26 el3 (gd_ rfl) rfl (by decide) (by decide) ⟨(cb_ _), trivial⟩ I3 (fun u3 w4 I4 => ?_))
 obtain ⟨z3, m3, k3, e3⟩ := bt_ I4
 subst e3
 refine aa_ rfl (br_ (vs := [(Value.int .i64 (4)), (Value.int .i64 (1))]) (r := ([4, 1] : List Int)) rfl Try.underlying26 el3 (lk_ rfl rfl) rfl (by decide) (by decide) ⟨(cb_ _), ⟨(cb_ _), trivial⟩⟩ I4 (fun u4 w5 I5 => ?_))
 obtain ⟨z4, m4, k4, e4⟩ := bt_ I5
 subst e4
 obtain ⟨S1, le1, I6, r1⟩ := Inv.rowFreeze (I5.pull 3)
 obtain ⟨S2, le2, I7, r2⟩ := Inv.rowFreeze (I6.pull 2)
 obtain ⟨S3, le3, I8, r3⟩ := Inv.rowFreeze (I7.pull 1)
 obtain ⟨S4, le4, I9, r4⟩ := Inv.rowFreeze I8
 refine aa_ rfl (br_ (vs := [(Value.slice z1 m1 k1), (Value.slice z2 m2 k2), (Value.slice z3 m3 k3), (Value.slice z4 m4 k4), (Value.slice none 0 0)]) (r := ([([1, 2] : List Int), ([0, 3] : List Int), ([0] : List Int), ([4, 1] : List Int), ([] : (List Int))] : List (List Int))) rfl Try.underlying47 el26 (nh_ rfl rfl rfl rfl rfl) rfl (by decide) (by decide) ⟨(r1.mono ((le2.trans le3).trans le4)), ⟨(r2.mono (le3.trans le4)), ⟨(r3.mono le4), ⟨r4, ⟨rv_nil, trivial⟩⟩⟩⟩⟩ I9 (fun u5 w6 I10 => ?_))
 obtain ⟨z5, m5, k5, e5⟩ := bt_ I10
 subst e5
 refine aa_ rfl (ae_ (v := (Value.slice z5 m5 k5)) rfl rfl ?_)
 refine ag_ ?_
 refine ad_ ?_
 refine ab_ ?_
 refine aa_ rfl (ac_ (v := (Value.slice z5 m5 k5)) rfl rfl ?_)
 refine aa_ rfl (bu_ (α := (List Int)) rfl Try.underlying47 rfl (I10.nth 0 rfl) ?_)
 obtain ⟨x1, hx1, h⟩ := bnd h
 refine aa_ rfl (dv_ (c := (([([1, 2] : List Int), ([0, 3] : List Int), ([0] : List Int), ([4, 1] : List Int), ([] : (List Int))] : List (List Int)).length : Int)) rfl Try.underlying22 el133 (by decide) rfl rfl I10 hx1 (fun u6 w7 I11 => ?_))
 obtain ⟨z6, m6, k6, e6⟩ := bt_ I11
 subst e6
 refine aa_ rfl (cw_ (qs := [(0, #[(Value.slice z6 m6 k6)])]) (c := #[(Value.slice z6 m6 k6), (Value.slice none 0 0)]) rfl st25 ⟨rfl, rfl, trivial⟩ rfl ?_)
 refine aa_ rfl (cl_ (z := (Value.agg #[(Value.slice none 0 0), (Value.slice none 0 0)])) rfl I11 zo25 (fun g2 w8 (I12 : Inv w8 S4 (ax_ g2 25 #[(Value.slice none 0 0), (Value.slice none 0 0)] :: Row (α := Position) 133 (Value.slice z6 m6 k6) (x1) :: Row (α := (List Int)) 26 (Value.slice z5 m5 k5) (([([1, 2] : List Int), ([0, 3] : List Int), ([0] : List Int), ([4, 1] : List Int), ([] : (List Int))] : List (List Int))) :: ax_ g1 25 #[(Value.slice none 0 0), (Value.slice none 0 0)] :: Fr)) => ?_))
 refine aa_ rfl (bo_ (v := (Value.agg #[(Value.slice z6 m6 k6), (Value.slice none 0 0)])) (cs := #[(Value.slice none 0 0), (Value.slice none 0 0)]) je_ I12 rfl rfl rfl (Nat.le_of_ble_eq_true rfl) rfl (fun w9 (I13 : Inv w9 S4 (ax_ g2 25 #[(Value.slice z6 m6 k6), (Value.slice none 0 0)] :: Row (α := Position) 133 (Value.slice z6 m6 k6) (x1) :: Row (α := (List Int)) 26 (Value.slice z5 m5 k5) (([([1, 2] : List Int), ([0, 3] : List Int), ([0] : List Int), ([4, 1] : List Int), ([] : (List Int))] : List (List Int))) :: ax_ g1 25 #[(Value.slice none 0 0), (Value.slice none 0 0)] :: Fr)) => ?_))
 refine ag_ ?_
 refine ad_ ?_
 refine ad_ ?_
 refine ab_ ?_
 refine aa_ rfl (ae_ (v := (Value.int .i64 (0))) rfl rfl ?_)
 refine ag_ ?_
 have hk1 : ([([1, 2] : List Int), ([0, 3] : List Int), ([0] : List Int), ([4, 1] : List Int), ([] : (List Int))] : List (List Int)).length ≤ 9223372036854775807 := (hn_ (I13.nth 2 rfl))
 have I78 := Inv.rowNil (α := (List Edge)) (T := 40) I13
 obtain ⟨out4, hrun4, h⟩ := bnd h
 refine cf_ (fun f w => ∃ (S_ : PH) (z79 : Option Addr) (m79 k79 : Nat), S4.Le S_ ∧ Inv w S_ (ax_ g1 25 #[(Value.slice none 0 0), (Value.slice none 0 0)] :: Row (α := (List Int)) 26 (Value.slice z5 m5 k5) (([([1, 2] : List Int), ([0, 3] : List Int), ([0] : List Int), ([4, 1] : List Int), ([] : (List Int))] : List (List Int))) :: ax_ g2 25 #[(Value.slice z6 m6 k6), (Value.slice z79 m79 k79)] :: Row (α := Position) 133 (Value.slice z6 m6 k6) (x1) :: Row (α := (List Edge)) 40 (Value.slice z79 m79 k79) (out4) :: Fr) ∧ f 0 = (Value.pointer (some ⟨g1, 0, none⟩)) ∧ f 2 = (Value.slice z5 m5 k5) ∧ f 3 = (Value.pointer (some ⟨g2, 0, none⟩)) ∧ f.ds = []) ?_ ?_
 ·
  refine au_ ?_
  refine fh_ (I := fun (i1 : Nat) (s4 : (List (List Edge))) (f : Frm) (w : World) => ∃ (S_ : PH) (z78 : Option Addr) (m78 k78 : Nat), S4.Le S_ ∧ Inv w S_ (ax_ g1 25 #[(Value.slice none 0 0), (Value.slice none 0 0)] :: Row (α := (List Int)) 26 (Value.slice z5 m5 k5) (([([1, 2] : List Int), ([0, 3] : List Int), ([0] : List Int), ([4, 1] : List Int), ([] : (List Int))] : List (List Int))) :: ax_ g2 25 #[(Value.slice z6 m6 k6), (Value.slice z78 m78 k78)] :: Row (α := Position) 133 (Value.slice z6 m6 k6) (x1) :: Row (α := (List Edge)) 40 (Value.slice z78 m78 k78) (s4) :: Fr) ∧ f 0 = (Value.pointer (some ⟨g1, 0, none⟩)) ∧ f 2 = (Value.slice z5 m5 k5) ∧ f 3 = (Value.pointer (some ⟨g2, 0, none⟩)) ∧ f 4 = (Value.int .i64 (i1 : Int)) ∧ f.ds = []) hrun4 ⟨_, _, _, _, (PH.Le.refl _), ((((I78.pull 2).pull 2).pull 3).pull 4), rfl, rfl, rfl, rfl, rfl⟩ ?_ ?_
  ·
   rintro i1 s4 f w o4 hlt1 hI4 h7
   obtain ⟨S10, z78, m78, k78, le10, I79, e184, e185, e186, e187, ed22⟩ := hI4
   refine ad_ ?_
   refine ad_ ?_
   refine ab_ ?_
   refine aa_ rfl (ac_ (v := (Value.int .i64 ((i1 : Int)))) rfl e187 ?_)
   refine aa_ rfl (ac_ (v := (Value.slice z5 m5 k5)) rfl e185 ?_)
   refine aa_ rfl (bu_ (α := (List Int)) rfl Try.underlying47 rfl (I79.nth 1 rfl) ?_)
   refine aa_ rfl (bn_ (a := (i1 : Int)) (b := (([([1, 2] : List Int), ([0, 3] : List Int), ([0] : List Int), ([4, 1] : List Int), ([] : (List Int))] : List (List Int)).length : Int)) rfl rfl rfl ?_)
   refine ag_ ?_
   refine an_ (b := decide ((i1 : Int) < (([([1, 2] : List Int), ([0, 3] : List Int), ([0] : List Int), ([4, 1] : List Int), ([] : (List Int))] : List (List Int)).length : Int))) rfl (eu_ hlt1) ?_
   refine ar_ ?_
   refine ad_ ?_
   refine au_ ?_
   refine ad_ ?_
   refine ab_ ?_
   refine aa_ rfl (ae_ (v := (Value.slice none 0 0)) rfl rfl ?_)
   refine ag_ ?_
   refine ad_ ?_
   refine ad_ ?_
   refine ab_ ?_
   refine aa_ rfl (ae_ (v := (Value.int .i64 (0))) rfl rfl ?_)
   refine ag_ ?_
   have I91 := Inv.rowNil (α := Edge) (T := 44) I79
   obtain ⟨out5, hrun5, h7⟩ := bnd h7
   refine cf_ (fun f w => ∃ (z96 : Option Addr) (m96 k96 : Nat), Inv w S10 (ax_ g1 25 #[(Value.slice none 0 0), (Value.slice none 0 0)] :: Row (α := (List Int)) 26 (Value.slice z5 m5 k5) (([([1, 2] : List Int), ([0, 3] : List Int), ([0] : List Int), ([4, 1] : List Int), ([] : (List Int))] : List (List Int))) :: ax_ g2 25 #[(Value.slice z6 m6 k6), (Value.slice z78 m78 k78)] :: Row (α := Position) 133 (Value.slice z6 m6 k6) (x1) :: Row (α := (List Edge)) 40 (Value.slice z78 m78 k78) (s4) :: Row (α := Edge) 44 (Value.slice z96 m96 k96) (out5.1) :: Fr) ∧ f 0 = (Value.pointer (some ⟨g1, 0, none⟩)) ∧ f 2 = (Value.slice z5 m5 k5) ∧ f 3 = (Value.pointer (some ⟨g2, 0, none⟩)) ∧ f 4 = (Value.int .i64 ((i1 : Int))) ∧ f 5 = (Value.slice z96 m96 k96) ∧ f 6 = (Value.int .i64 (out5.2)) ∧ f.ds = []) ?_ ?_
   ·
    refine au_ ?_
    refine co_ (I := fun (s5 : (List Edge × Int)) (f : Frm) (w : World) => ∃ (z95 : Option Addr) (m95 k95 : Nat), Inv w S10 (ax_ g1 25 #[(Value.slice none 0 0), (Value.slice none 0 0)] :: Row (α := (List Int)) 26 (Value.slice z5 m5 k5) (([([1, 2] : List Int), ([0, 3] : List Int), ([0] : List Int), ([4, 1] : List Int), ([] : (List Int))] : List (List Int))) :: ax_ g2 25 #[(Value.slice z6 m6 k6), (Value.slice z78 m78 k78)] :: Row (α := Position) 133 (Value.slice z6 m6 k6) (x1) :: Row (α := (List Edge)) 40 (Value.slice z78 m78 k78) (s4) :: Row (α := Edge) 44 (Value.slice z95 m95 k95) (s5.1) :: Fr) ∧ f 0 = (Value.pointer (some ⟨g1, 0, none⟩)) ∧ f 2 = (Value.slice z5 m5 k5) ∧ f 3 = (Value.pointer (some ⟨g2, 0, none⟩)) ∧ f 4 = (Value.int .i64 ((i1 : Int))) ∧ f 5 = (Value.slice z95 m95 k95) ∧ f 6 = (Value.int .i64 (s5.2)) ∧ f.ds = []) hrun5 ⟨_, _, _, (((((I91.pull 5).pull 5).pull 5).pull 5).pull 5), e184, e185, e186, e187, rfl, rfl, ed22⟩ ?_
    rintro s5 f w o5 hI5 h9 hout5
    obtain ⟨z95, m95, k95, I92, e225, e226, e227, e228, e229, e230, ed27⟩ := hI5
    refine ad_ ?_
    refine ad_ ?_
    refine ab_ ?_
    refine aa_ rfl (ac_ (v := (Value.int .i64 (s5.2))) rfl e230 ?_)
    refine aa_ rfl (ac_ (v := (Value.slice z5 m5 k5)) rfl e226 ?_)
    refine aa_ rfl (ac_ (v := (Value.int .i64 ((i1 : Int)))) rfl e228 ?_)
    obtain ⟨x69, hx69, h9⟩ := bnd h9
    refine aa_ rfl (bh_ (v := (Value.slice z5 m5 k5)) (i := (i1 : Int)) (e := x69) rfl Try.underlying47 hm_ rfl (Inv.rowSrc (I92.nth 1 rfl)) rfl hx69 ?_)
    refine aa_ rfl (aq_ (v := (ah_ (Value.slice z5 m5 k5) ((i1 : Int)) (Enc.sz (List Int)))) (e := x69) rfl hm_ rfl ((I92.nth 1 rfl).rowElem hx69) (fun u77 hu35 => ?_))
    obtain ⟨z97, m97, k97, e231⟩ := ak_ hu35
    subst e231
    refine aa_ rfl (bg_ rfl Try.underlying26 rfl hu35 ?_)
    refine aa_ rfl (bn_ (a := s5.2) (b := (x69.length : Int)) rfl rfl rfl ?_)
    refine ag_ ?_
    rcases ifs h9 with ⟨hc16, h9⟩ | ⟨hc16, h9⟩
    ·
     refine an_ (b := decide (s5.2 < (x69.length : Int))) rfl hc16 ?_
     refine ar_ ?_
     refine ad_ ?_
     refine au_ ?_
     refine ab_ ?_
     refine aa_ rfl (ac_ (v := (Value.slice z95 m95 k95)) rfl e229 ?_)
     refine aa_ rfl (ac_ (v := (Value.slice z5 m5 k5)) rfl e226 ?_)
     refine aa_ rfl (ac_ (v := (Value.int .i64 ((i1 : Int)))) rfl e228 ?_)
     obtain ⟨x70, hx70, h9⟩ := bnd h9
     refine aa_ rfl (bh_ (v := (Value.slice z5 m5 k5)) (i := (i1 : Int)) (e := x70) rfl Try.underlying47 hm_ rfl (Inv.rowSrc (I92.nth 1 rfl)) rfl hx70 ?_)
     refine aa_ rfl (aq_ (v := (ah_ (Value.slice z5 m5 k5) ((i1 : Int)) (Enc.sz (List Int)))) (e := x70) rfl hm_ rfl ((I92.nth 1 rfl).rowElem hx70) (fun u78 hu36 => ?_))
     obtain ⟨z98, m98, k98, e232⟩ := ak_ hu36
     subst e232
     refine aa_ rfl (ac_ (v := (Value.int .i64 (s5.2))) rfl e230 ?_)
     obtain ⟨x71, hx71, h9⟩ := bnd h9
     refine aa_ rfl (ao_ (v := (Value.slice z98 m98 k98)) (i := s5.2) (e := x71) rfl Try.underlying26 sh3 rfl hu36 rfl hx71 ?_)
     refine aa_ rfl (av_ (v := (ah_ (Value.slice z98 m98 k98) (s5.2) (Enc.sz Int))) (e := x71) rfl sh3 rfl (hu36.elem I92.in_ hx71) ?_)
     refine aa_ rfl (cw_ (qs := [(1, #[(Value.int .i64 (x71))])]) (c := #[(Value.int .i64 (0)), (Value.int .i64 (0)), (Value.int .i64 (0)), (Value.int .i64 (x71))]) rfl st44 ⟨rfl, rfl, trivial⟩ rfl ?_)
     refine aa_ rfl (br_ (vs := [(Value.agg #[(Value.int .i64 (0)), (Value.int .i64 (0)), (Value.int .i64 (0)), (Value.int .i64 (x71))])]) (r := ([(⟨(⟨0, 0, 0⟩ : Move), x71⟩ : Edge)] : List Edge)) rfl Try.underlying40 el44 (gd_ rfl) rfl (by decide) (by decide) ⟨(Edge.rv (s := (⟨(⟨0, 0, 0⟩ : Move), x71⟩ : Edge))), trivial⟩ I92 (fun u79 w49 I93 => ?_))
     obtain ⟨z99, m99, k99, e233⟩ := bt_ I93
     subst e233
     obtain ⟨x72, hx72, h9⟩ := bnd h9
     refine aa_ rfl (ef_ (α := Edge) (v := (Value.slice z95 m95 k95)) (u := (Value.slice z99 m99 k99)) rfl rfl Try.underlying40 el44 (by decide) (by decide) rfl rfl (I93.pull 6) (Inv.rowSrc (I93.nth 0 rfl)) hx72 (fun u80 w50 I94 => ?_))
     obtain ⟨z100, m100, k100, e234⟩ := bt_ I94
     subst e234
     refine aa_ rfl (ae_ (v := (Value.slice z100 m100 k100)) rfl rfl ?_)
     refine ag_ ?_
     refine ab_ ?_
     refine aa_ rfl (ac_ (v := (Value.int .i64 (s5.2))) rfl e230 ?_)
     refine aa_ rfl (bs_ (a := s5.2) (b := 1) rfl rfl rfl ?_)
     refine aa_ rfl (ae_ (v := (Value.int .i64 (w64 (s5.2 + 1)))) rfl rfl ?_)
     refine ag_ ?_
     obtain rfl := Option.some.inj h9
     exact ⟨_, rfl, _, _, _, ((((((I94.pull 1).drop.pull 5).pull 5).pull 5).pull 5).pull 5), e225, e226, e227, e228, rfl, rfl, ed27⟩
    ·
     refine ap_ (b := decide (s5.2 < (x69.length : Int))) rfl hc16 ?_
     refine bm_ ?_
     obtain rfl := Option.some.inj h9
     obtain rfl := (hout5 _ rfl)
     exact ⟨_, _, _, ((((((I92.pull 5).pull 5).pull 5).pull 5).pull 5).pull 5), e225, e226, e227, e228, e229, e230, ed27⟩
   ·
    rintro f w ⟨z96, m96, k96, I95, e235, e236, e237, e238, e239, e240, ed28⟩
    refine ab_ ?_
    refine aa_ rfl (az_ (v := (Value.pointer (some ⟨g2, 0, none⟩))) rfl cs_ e237 rfl ?_)
    refine aa_ rfl (bz_ (c := (Value.slice z78 m78 k78)) rfl fi_ (I95.nth 2 rfl) rfl rfl ?_)
    refine aa_ rfl (ac_ (v := (Value.slice z96 m96 k96)) rfl e239 ?_)
    obtain ⟨S11, le11, I96, r8⟩ := Inv.rowFreeze (I95.pull 5)
    refine aa_ rfl (br_ (vs := [(Value.slice z96 m96 k96)]) (r := ([out5.1] : List (List Edge))) rfl Try.underlying23 el40 (gd_ rfl) rfl (by decide) (by decide) ⟨r8, trivial⟩ I96 (fun u81 w51 I97 => ?_))
    obtain ⟨z101, m101, k101, e241⟩ := bt_ I97
    subst e241
    obtain ⟨x73, hx73, h7⟩ := bnd h7
    refine aa_ rfl (ef_ (α := (List Edge)) (v := (Value.slice z78 m78 k78)) (u := (Value.slice z101 m101 k101)) rfl rfl Try.underlying23 el40 (by decide) (by decide) rfl rfl (I97.pull 5) (Inv.rowSrc (I97.nth 0 rfl)) hx73 (fun u82 w52 I98 => ?_))
    obtain ⟨z102, m102, k102, e242⟩ := bt_ I98
    subst e242
    refine aa_ rfl (az_ (v := (Value.pointer (some ⟨g2, 0, none⟩))) rfl cs_ e237 rfl ?_)
    refine aa_ rfl (bo_ (v := (Value.slice z102 m102 k102)) (cs := #[(Value.slice z6 m6 k6), (Value.slice z78 m78 k78)]) fi_ (I98.pull 4) rfl rfl rfl (Nat.le_of_ble_eq_true rfl) rfl (fun w53 (I99 : Inv w53 S11 (ax_ g2 25 #[(Value.slice z6 m6 k6), (Value.slice z102 m102 k102)] :: Row (α := (List Edge)) 40 (Value.slice z102 m102 k102) (x73) :: Row (α := (List Edge)) 40 (Value.slice z101 m101 k101) (([out5.1] : List (List Edge))) :: ax_ g1 25 #[(Value.slice none 0 0), (Value.slice none 0 0)] :: Row (α := (List Int)) 26 (Value.slice z5 m5 k5) (([([1, 2] : List Int), ([0, 3] : List Int), ([0] : List Int), ([4, 1] : List Int), ([] : (List Int))] : List (List Int))) :: Row (α := Position) 133 (Value.slice z6 m6 k6) (x1) :: Fr)) => ?_))
    refine ag_ ?_
    refine ab_ ?_
    refine aa_ rfl (ac_ (v := (Value.int .i64 ((i1 : Int)))) rfl e238 ?_)
    refine aa_ rfl (bs_ (a := (i1 : Int)) (b := 1) rfl rfl rfl ?_)
    refine aa_ rfl (ae_ (v := (Value.int .i64 (w64 ((i1 : Int) + 1)))) rfl rfl ?_)
    refine ag_ ?_
    obtain rfl := Option.some.inj h7
    exact ⟨_, _, _, _, (le10.trans le11), ((((((I99.pull 2).drop.pull 1).pull 4).pull 2).pull 4).pull 4), e235, e236, e237, (ca_ hlt1 hk1), ed28⟩
  ·
   rintro f w hI6
   obtain ⟨S12, z103, m103, k103, le12, I100, e243, e244, e245, e246, ed29⟩ := hI6
   refine ad_ ?_
   refine ad_ ?_
   refine ab_ ?_
   refine aa_ rfl (ac_ (v := (Value.int .i64 ((([([1, 2] : List Int), ([0, 3] : List Int), ([0] : List Int), ([4, 1] : List Int), ([] : (List Int))] : List (List Int)).length : Int)))) rfl e246 ?_)
   refine aa_ rfl (ac_ (v := (Value.slice z5 m5 k5)) rfl e244 ?_)
   refine aa_ rfl (bu_ (α := (List Int)) rfl Try.underlying47 rfl (I100.nth 1 rfl) ?_)
   refine aa_ rfl (bn_ (a := (([([1, 2] : List Int), ([0, 3] : List Int), ([0] : List Int), ([4, 1] : List Int), ([] : (List Int))] : List (List Int)).length : Int)) (b := (([([1, 2] : List Int), ([0, 3] : List Int), ([0] : List Int), ([4, 1] : List Int), ([] : (List Int))] : List (List Int)).length : Int)) rfl rfl rfl ?_)
   refine ag_ ?_
   refine ap_ (b := decide ((([([1, 2] : List Int), ([0, 3] : List Int), ([0] : List Int), ([4, 1] : List Int), ([] : (List Int))] : List (List Int)).length : Int) < (([([1, 2] : List Int), ([0, 3] : List Int), ([0] : List Int), ([4, 1] : List Int), ([] : (List Int))] : List (List Int)).length : Int))) rfl (ev_ _) ?_
   refine bm_ ?_
   exact ⟨_, _, _, _, le12, (((((I100.pull 4).pull 4).pull 4).pull 4).pull 4), e243, e244, e245, ed29⟩
 ·
  rintro f w ⟨S13, z79, m79, k79, le13, I101, e247, e248, e249, ed30⟩
  refine ad_ ?_
  refine ab_ ?_
  refine aa_ rfl (cg_ (l := [(Value.slice z6 m6 k6), (Value.slice z79 m79 k79)]) rfl je_ (I101.nth 2 rfl) e249 rfl rfl ?_)
  refine aa_ rfl (br_ (vs := [(Value.int .i64 (3)), (Value.int .i64 (2)), (Value.int .i64 (4)), (Value.int .i64 (1)), (Value.int .i64 (0))]) (r := ([3, 2, 4, 1, 0] : List Int)) rfl Try.underlying26 el3 (nh_ rfl rfl rfl rfl rfl) rfl (by decide) (by decide) ⟨(cb_ _), ⟨(cb_ _), ⟨(cb_ _), ⟨(cb_ _), ⟨(cb_ _), trivial⟩⟩⟩⟩⟩ I101 (fun u83 w54 I102 => ?_))
  obtain ⟨z104, m104, k104, e250⟩ := bt_ I102
  subst e250
  refine aa_ rfl (bo_ (v := (Value.agg #[(Value.slice z6 m6 k6), (Value.slice z79 m79 k79)])) (cs := #[(Value.slice none 0 0), (Value.slice none 0 0)]) je_ (I102.pull 1) e247 rfl rfl (Nat.le_of_ble_eq_true rfl) rfl (fun w55 (I103 : Inv w55 S13 (ax_ g1 25 #[(Value.slice z6 m6 k6), (Value.slice z79 m79 k79)] :: Row (α := Int) 3 (Value.slice z104 m104 k104) (([3, 2, 4, 1, 0] : List Int)) :: Row (α := (List Int)) 26 (Value.slice z5 m5 k5) (([([1, 2] : List Int), ([0, 3] : List Int), ([0] : List Int), ([4, 1] : List Int), ([] : (List Int))] : List (List Int))) :: ax_ g2 25 #[(Value.slice z6 m6 k6), (Value.slice z79 m79 k79)] :: Row (α := Position) 133 (Value.slice z6 m6 k6) (x1) :: Row (α := (List Edge)) 40 (Value.slice z79 m79 k79) (out4) :: Fr)) => ?_))
  refine aa_ rfl (ae_ (v := (Value.slice z104 m104 k104)) rfl rfl ?_)
  refine ag_ ?_
  refine aw_ ?_
  obtain ⟨S14, le14, I104, r9⟩ := Inv.rowFreeze (I103.pull 4)
  obtain ⟨S15, le15, I105, r10⟩ := Inv.rowFreeze (I104.pull 4)
  obtain rfl := Option.some.inj h
  exact ⟨ed30, (Value.tuple #[(Value.agg #[(Value.slice z6 m6 k6), (Value.slice z79 m79 k79)]), (Value.slice z104 m104 k104)]), (fx_ (cs := #[(Value.slice z6 m6 k6), (Value.slice z79 m79 k79)]) rfl e247 je_ I103 rfl), _, [Row (α := Int) 3 (Value.slice z104 m104 k104) (([3, 2, 4, 1, 0] : List Int))], ((((((le1.trans le2).trans le3).trans le4).trans le13).trans le14).trans le15), (((I105).drop.pull 1).drop.pull 1).drop, _, _, _, _, rfl, rfl, (Graph.rv (s := (⟨x1, out4⟩ : Graph)) (r9.mono le15) r10)⟩
set_option maxHeartbeats 4000000 in
set_option maxRecDepth 100000 in
theorem iy_ {w : World} {S : PH} {Fr : List HP} {a0 : Int} {a1 : Int} {a2 : Int} {r : Bool} (hI : Inv w S (Fr))  (h : F61 a0 a1 a2 = some r) :
    Calls Try.prog 61 [(Value.int .i64 (a0)), (Value.int .i64 (a1)), (Value.int .i64 (a2))].toArray w (dd_ S Fr (Value.bool (r))) := by
 unfold F61 at h
 refine bd_ (n := 15) (vs := [(Value.int .i64 (a0)), (Value.int .i64 (a1)), (Value.int .i64 (a2))]) Try.func61 rfl rfl rfl ?_
 refine ad_ ?_
 refine ab_ ?_
 refine aa_ rfl (ae_ (v := (Value.bool (false))) rfl rfl ?_)
 refine ag_ ?_
 refine ad_ ?_
 refine ab_ ?_
 refine aa_ rfl (ac_ (v := (Value.int .i64 (a0))) rfl rfl ?_)
 refine aa_ rfl (ac_ (v := (Value.int .i64 (a1))) rfl rfl ?_)
 refine aa_ rfl (fd_ (a := a0) (b := a1) rfl rfl rfl ?_)
 refine aa_ rfl (ac_ (v := (Value.bool (decide (a1 ≤ a0)))) rfl rfl ?_)
 rcases ifs h with ⟨hc1, h⟩ | ⟨hc1, h⟩
 ·
  refine al_ (c := decide (a1 ≤ a0)) rfl rfl rfl rfl hc1 (ac_ (v := (Value.int .i64 (a0))) rfl rfl ?_)
  refine al_ (c := decide (a1 ≤ a0)) rfl rfl rfl rfl hc1 (ac_ (v := (Value.int .i64 (a2))) rfl rfl ?_)
  refine al_ (c := decide (a1 ≤ a0)) rfl rfl rfl rfl hc1 (lp_ (a := a0) (b := a2) rfl rfl rfl ?_)
  refine aa_ rfl (bb_ (c := decide (a1 ≤ a0)) (a := (Value.bool (decide (a0 ≤ a2)))) rfl rfl hc1 rfl ?_)
  refine aa_ rfl (ae_ (v := (Value.bool (decide (a0 ≤ a2)))) rfl rfl ?_)
  refine ag_ ?_
  refine aw_ ?_
  obtain rfl := Option.some.inj h
  exact ⟨rfl, (Value.bool (decide (a0 ≤ a2))), (cx_ rfl rfl), _, [], (PH.Le.refl _), hI, rfl, rfl⟩
 ·
  refine ai_ (c := decide (a1 ≤ a0)) rfl rfl rfl rfl hc1 rfl ?_
  refine ai_ (c := decide (a1 ≤ a0)) rfl rfl rfl rfl hc1 rfl ?_
  refine ai_ (c := decide (a1 ≤ a0)) rfl rfl rfl rfl hc1 rfl ?_
  refine aa_ rfl (ay_ (c := decide (a1 ≤ a0)) (b := (Value.bool (false))) rfl rfl hc1 rfl ?_)
  refine aa_ rfl (ae_ (v := (Value.bool (false))) rfl rfl ?_)
  refine ag_ ?_
  refine aw_ ?_
  obtain rfl := Option.some.inj h
  exact ⟨rfl, (Value.bool (false)), (cx_ rfl rfl), _, [], (PH.Le.refl _), hI, rfl, rfl⟩
set_option maxHeartbeats 4000000 in
set_option maxRecDepth 100000 in
theorem F78_ok {w : World} {S : PH} {Fr : List HP} {a0 : Edge} {v0 : Value} {a1 : Int} {v1 : Value} {r : Bool} (hI : Inv w S (Fr)) (h0_ : RV S v0 a0) (h1_ : PtS S v1 a1) (h : F78 a0 a1 = some r) :
    Calls Try.prog 78 [v0, v1].toArray w (dd_ S Fr (Value.bool (r))) := by
 unfold F78 at h
 have e1 := Edge.inv h0_
 subst e1
 refine bd_ (n := 10) (vs := [(Value.agg #[(Value.int .i64 (a0.Move.Player)), (Value.int .i64 (a0.Move.Kind)), (Value.int .i64 (a0.Move.Number)), (Value.int .i64 (a0.To))]), v1]) Try.func78 rfl rfl rfl ?_
 refine ad_ ?_
 refine ab_ ?_
 refine aa_ rfl (cr_ (v := (Value.agg #[(Value.int .i64 (a0.Move.Player)), (Value.int .i64 (a0.Move.Kind)), (Value.int .i64 (a0.Move.Number)), (Value.int .i64 (a0.To))])) rfl hI rfl (fun g1 w1 I1 => ?_))
 obtain ⟨S1, le1, I2, p1⟩ := Inv.boxFreeze (x := a0) I1 (Edge.rv (s := a0))
 refine aa_ rfl (ae_ (v := (Value.bool (false))) rfl rfl ?_)
 refine ag_ ?_
 refine ad_ ?_
 refine ab_ ?_
 refine aa_ rfl (aj_ (v := (Value.pointer (some ⟨g1, 0, none⟩))) rfl ft_ rfl (p1.at_ I2) ?_)
 refine aa_ rfl (av_ (v := (am_ (Value.pointer (some ⟨g1, 0, none⟩)) 3)) (e := a0.To) rfl sh3 rfl ((p1.at_ I2).fld Edge.fld1) ?_)
 refine aa_ rfl (av_ (v := v1) (e := a1) rfl sh3 rfl ((h1_.mono le1).at_ I2) ?_)
 refine aa_ rfl (ni_ (a := a1) (b := 1) rfl rfl rfl ?_)
 obtain ⟨x1, hx1, h⟩ := bnd h
 refine aa_ rfl (bl_ (vs := [(Value.int .i64 (a0.To)), (Value.int .i64 (0)), (Value.int .i64 (w64 (a1 - 1)))]) (r := (Value.bool (x1))) rfl ca61 rfl (gl_ rfl rfl rfl) I2 (fun Fr_ hF_ => iy_ hF_  hx1) (fun w2 I3 => ?_))
 refine aa_ rfl (dm_ (b := x1) rfl rfl ?_)
 refine aa_ rfl (ae_ (v := (Value.bool (!x1))) rfl rfl ?_)
 refine ag_ ?_
 refine aw_ ?_
 obtain rfl := Option.some.inj h
 exact ⟨rfl, (Value.bool (!x1)), (cx_ rfl rfl), _, [], le1, I3, rfl, rfl⟩
set_option maxHeartbeats 4000000 in
set_option maxRecDepth 100000 in
theorem F59_ok {w : World} {S : PH} {Fr : List HP} {a0 : (List Edge)} {v0 : Value} {a1 : Edge → Option Bool} {v1 : Value} {r : Int} (hI : Inv w S (Fr)) (h0_ : RV S v0 a0) (h1_ : FnV Try.prog S v1 a1) (h : F59 a0 a1 = some r) :
    Calls Try.prog 59 [v0, v1].toArray w (dd_ S Fr (Value.int .i64 (r))) := by
 unfold F59 at h
 obtain ⟨z1, m1, k1, e1⟩ := ak_ h0_
 subst e1
 refine bd_ (n := 19) (vs := [(Value.slice z1 m1 k1), v1]) Try.func59 rfl rfl rfl ?_
 refine ad_ ?_
 refine ab_ ?_
 refine aa_ rfl (ae_ (v := (Value.int .i64 (0))) rfl rfl ?_)
 refine ag_ ?_
 refine ad_ ?_
 refine ad_ ?_
 refine ab_ ?_
 refine aa_ rfl (ac_ (v := (Value.slice z1 m1 k1)) rfl rfl ?_)
 refine aa_ rfl (bg_ rfl Try.underlying40 rfl h0_ ?_)
 refine aa_ rfl (ac_ (v := (Value.int .i64 (0))) rfl rfl ?_)
 refine ag_ ?_
 have hk1 : a0.length ≤ 9223372036854775807 := (ee_ h0_)
 obtain ⟨o2, hrun1, h⟩ := bnd h
 refine cf_ (fun f w => ∃ out1, o2 = Sum.inl out1 ∧ Inv w S (Fr) ∧ f 0 = (Value.slice z1 m1 k1) ∧ f 1 = v1 ∧ f 7 = (Value.int .i64 ((a0.length : Int))) ∧ f.ds = []) ?_ ?_
 ·
  refine au_ ?_
  refine dl_ (I := fun (i1 : Nat) (s1 : Unit) (f : Frm) (w : World) => Inv w S (Fr) ∧ f 0 = (Value.slice z1 m1 k1) ∧ f 1 = v1 ∧ f 7 = (Value.int .i64 ((a0.length : Int))) ∧ f 8 = (Value.int .i64 (i1 : Int)) ∧ f.ds = []) hrun1 ⟨hI, rfl, rfl, rfl, rfl, rfl⟩ ?_ ?_
  ·
   rintro i1 s1 f w o1 hlt1 hI1 h1 hout1
   obtain ⟨I5, e12, e13, e14, e15, ed3⟩ := hI1
   refine ad_ ?_
   refine ab_ ?_
   refine aa_ rfl (bn_ (a := (i1 : Int)) (b := (a0.length : Int)) rfl e15 e14 ?_)
   refine ag_ ?_
   refine ad_ ?_
   refine an_ (b := decide ((i1 : Int) < (a0.length : Int))) rfl (eu_ hlt1) ?_
   refine ar_ ?_
   refine ad_ ?_
   refine au_ ?_
   refine ad_ ?_
   refine ab_ ?_
   refine aa_ rfl (ac_ (v := (Value.int .i64 ((i1 : Int)))) rfl e15 ?_)
   refine aa_ rfl (ae_ (v := (Value.int .i64 ((i1 : Int)))) rfl rfl ?_)
   refine ag_ ?_
   refine ad_ ?_
   refine ab_ ?_
   refine aa_ rfl (ac_ (v := v1) rfl e13 ?_)
   refine aa_ rfl (ac_ (v := (Value.slice z1 m1 k1)) rfl e12 ?_)
   refine aa_ rfl (ac_ (v := (Value.int .i64 ((i1 : Int)))) rfl rfl ?_)
   obtain ⟨x5, hx5, h1⟩ := bnd h1
   refine aa_ rfl (ao_ (v := (Value.slice z1 m1 k1)) (i := (i1 : Int)) (e := x5) rfl Try.underlying40 kw_ rfl h0_ rfl hx5 ?_)
   refine aa_ rfl (aq_ (v := (ah_ (Value.slice z1 m1 k1) ((i1 : Int)) (Enc.sz Edge))) (e := x5) rfl kw_ rfl (h0_.elem I5.in_ hx5) (fun u3 hu3 => ?_))
   have e16 := Edge.inv hu3
   subst e16
   obtain ⟨x6, hx6, h1⟩ := bnd h1
   refine aa_ rfl (fy_ (v := v1) (u := (Value.agg #[(Value.int .i64 (x5.Move.Player)), (Value.int .i64 (x5.Move.Kind)), (Value.int .i64 (x5.Move.Number)), (Value.int .i64 (x5.To))])) (r := x6) rfl rfl h1_ rfl (Edge.rv (s := x5)) hx6 I5 (fun w3 I6 => ?_))
   refine ag_ ?_
   rcases ifs h1 with ⟨hc3, h1⟩ | ⟨hc3, h1⟩
   ·
    refine an_ (b := x6) rfl hc3 ?_
    refine ad_ ?_
    refine ab_ ?_
    refine aa_ rfl (ac_ (v := (Value.int .i64 ((i1 : Int)))) rfl rfl ?_)
    refine aa_ rfl (ae_ (v := (Value.int .i64 ((i1 : Int)))) rfl rfl ?_)
    refine ag_ ?_
    refine aw_ ?_
    obtain rfl := Option.some.inj h1
    obtain rfl := (hout1 _ rfl)
    have h2 := h
    obtain rfl := Option.some.inj h2
    exact ⟨ed3, (Value.int .i64 ((i1 : Int))), (cx_ rfl rfl), _, [], (PH.Le.refl _), I6, rfl, rfl⟩
   ·
    refine ap_ (b := x6) rfl hc3 ?_
    refine ar_ ?_
    refine ab_ ?_
    refine aa_ rfl (bs_ (a := (i1 : Int)) (b := 1) rfl e15 rfl ?_)
    refine aa_ rfl (ac_ (v := (Value.int .i64 (w64 ((i1 : Int) + 1)))) rfl rfl ?_)
    refine ag_ ?_
    obtain rfl := Option.some.inj h1
    exact ⟨_, rfl, I6, e12, e13, e14, (ca_ hlt1 hk1), ed3⟩
  ·
   rintro s2 f w hs1 hI2
   obtain ⟨I7, e17, e18, e19, e20, ed4⟩ := hI2
   refine ad_ ?_
   refine ab_ ?_
   refine aa_ rfl (bn_ (a := (a0.length : Int)) (b := (a0.length : Int)) rfl e20 e19 ?_)
   refine ag_ ?_
   refine ad_ ?_
   refine ap_ (b := decide ((a0.length : Int) < (a0.length : Int))) rfl (ev_ _) ?_
   refine bm_ ?_
   exact ⟨s2, hs1, I7, e17, e18, e19, ed4⟩
 ·
  rintro f w ⟨out1, rfl, I8, e21, e22, e23, ed5⟩
  have h := cy_ h
  refine ad_ ?_
  refine ab_ ?_
  refine aa_ rfl (ae_ (v := (Value.int .i64 ((-1)))) rfl rfl ?_)
  refine ag_ ?_
  refine aw_ ?_
  obtain rfl := Option.some.inj h
  exact ⟨ed5, (Value.int .i64 ((-1))), (cx_ rfl rfl), _, [], (PH.Le.refl _), I8, rfl, rfl⟩
set_option maxHeartbeats 4000000 in
set_option maxRecDepth 100000 in
theorem F77_ok {w : World} {S : PH} {Fr : List HP} {a0 : (List Edge)} {v0 : Value} {a1 : Edge → Option Bool} {v1 : Value} {r : Bool} (hI : Inv w S (Fr)) (h0_ : RV S v0 a0) (h1_ : FnV Try.prog S v1 a1) (h : F77 a0 a1 = some r) :
    Calls Try.prog 77 [v0, v1].toArray w (dd_ S Fr (Value.bool (r))) := by
 unfold F77 at h
 obtain ⟨z1, m1, k1, e1⟩ := ak_ h0_
 subst e1
 refine bd_ (n := 9) (vs := [(Value.slice z1 m1 k1), v1]) Try.func77 rfl rfl rfl ?_
 refine ad_ ?_
 refine ab_ ?_
 refine aa_ rfl (ae_ (v := (Value.bool (false))) rfl rfl ?_)
 refine ag_ ?_
 refine ad_ ?_
 refine ab_ ?_
 refine aa_ rfl (ac_ (v := (Value.slice z1 m1 k1)) rfl rfl ?_)
 refine aa_ rfl (ac_ (v := v1) rfl rfl ?_)
 obtain ⟨x1, hx1, h⟩ := bnd h
 refine aa_ rfl (bl_ (vs := [(Value.slice z1 m1 k1), v1]) (r := (Value.int .i64 (x1))) rfl ca59 rfl (fb_ rfl rfl) hI (fun Fr_ hF_ => F59_ok hF_ h0_ h1_ hx1) (fun w1 I1 => ?_))
 refine aa_ rfl (fd_ (a := x1) (b := 0) rfl rfl rfl ?_)
 refine aa_ rfl (ae_ (v := (Value.bool (decide (0 ≤ x1)))) rfl rfl ?_)
 refine ag_ ?_
 refine aw_ ?_
 obtain rfl := Option.some.inj h
 exact ⟨rfl, (Value.bool (decide (0 ≤ x1))), (cx_ rfl rfl), _, [], (PH.Le.refl _), I1, rfl, rfl⟩
set_option maxHeartbeats 4000000 in
set_option maxRecDepth 100000 in
theorem F79_ok {w : World} {S : PH} {Fr : List HP} {a0 : Search_view} {v0 : Value} {a1 : Int} {r : Int} (hI : Inv w S (Fr)) (h0_ : RV S v0 a0) (h : F79 a0 a1 = some r) :
    Calls Try.prog 79 [v0, (Value.int .i64 (a1))].toArray w (dd_ S Fr (Value.int .i64 (r))) := by
 unfold F79 at h
 obtain ⟨c1, c2, e1, r1, r2⟩ := Search_view.inv h0_
 subst e1
 obtain ⟨z1, m1, k1, e2⟩ := ak_ r1
 subst e2
 obtain ⟨z2, m2, k2, e3⟩ := ak_ r2
 subst e3
 refine bd_ (n := 34) (vs := [(Value.agg #[(Value.slice z1 m1 k1), (Value.slice z2 m2 k2)]), (Value.int .i64 (a1))]) Try.func79 rfl rfl rfl ?_
 refine ad_ ?_
 refine ab_ ?_
 refine aa_ rfl (cr_ (v := (Value.agg #[(Value.slice z1 m1 k1), (Value.slice z2 m2 k2)])) rfl hI rfl (fun g1 w1 I1 => ?_))
 obtain ⟨S1, le1, I2, p1⟩ := Inv.boxFreeze (x := a0) I1 (Search_view.rv (s := a0) r1 r2)
 refine aa_ rfl (ae_ (v := (Value.int .i64 (0))) rfl rfl ?_)
 refine ag_ ?_
 refine ad_ ?_
 refine ab_ ?_
 refine aa_ rfl (ae_ (v := (Value.int .i64 (1099511627776))) rfl rfl ?_)
 refine ag_ ?_
 refine ad_ ?_
 refine ad_ ?_
 refine ab_ ?_
 refine aa_ rfl (aj_ (v := (Value.pointer (some ⟨g1, 0, none⟩))) rfl gk_ rfl (p1.at_ I2) ?_)
 refine aa_ rfl (aq_ (v := (am_ (Value.pointer (some ⟨g1, 0, none⟩)) 0)) (e := a0.edges) rfl fi_ rfl ((p1.at_ I2).fld Search_view.fld0) (fun u1 hu1 => ?_))
 obtain ⟨z3, m3, k3, e4⟩ := ak_ hu1
 subst e4
 refine aa_ rfl (ac_ (v := (Value.int .i64 (a1))) rfl rfl ?_)
 obtain ⟨x1, hx1, h⟩ := bnd h
 refine aa_ rfl (ao_ (v := (Value.slice z3 m3 k3)) (i := a1) (e := x1) rfl Try.underlying23 en_ rfl hu1 rfl hx1 ?_)
 refine aa_ rfl (aq_ (v := (ah_ (Value.slice z3 m3 k3) (a1) (Enc.sz (List Edge)))) (e := x1) rfl en_ rfl (hu1.elem I2.in_ hx1) (fun u2 hu2 => ?_))
 obtain ⟨z4, m4, k4, e5⟩ := ak_ hu2
 subst e5
 refine aa_ rfl (bg_ rfl Try.underlying40 rfl hu2 ?_)
 refine aa_ rfl (ac_ (v := (Value.int .i64 (0))) rfl rfl ?_)
 refine ag_ ?_
 have hk1 : x1.length ≤ 9223372036854775807 := (ee_ hu2)
 obtain ⟨out1, hrun1, h⟩ := bnd h
 refine cf_ (fun f w => Inv w S1 (Fr) ∧ f 2 = (Value.pointer (some ⟨g1, 0, none⟩)) ∧ f 5 = (Value.int .i64 (out1)) ∧ f 13 = (Value.slice z4 m4 k4) ∧ f 14 = (Value.int .i64 ((x1.length : Int))) ∧ f.ds = []) ?_ ?_
 ·
  refine au_ ?_
  refine fh_ (I := fun (i1 : Nat) (s1 : (Int)) (f : Frm) (w : World) => Inv w S1 (Fr) ∧ f 2 = (Value.pointer (some ⟨g1, 0, none⟩)) ∧ f 5 = (Value.int .i64 (s1)) ∧ f 13 = (Value.slice z4 m4 k4) ∧ f 14 = (Value.int .i64 ((x1.length : Int))) ∧ f 15 = (Value.int .i64 (i1 : Int)) ∧ f.ds = []) hrun1 ⟨I2, rfl, rfl, rfl, rfl, rfl, rfl⟩ ?_ ?_
  ·
   rintro i1 s1 f w o1 hlt1 hI1 h1
   obtain ⟨I12, e27, e28, e29, e30, e31, ed4⟩ := hI1
   refine ad_ ?_
   refine ab_ ?_
   refine aa_ rfl (bn_ (a := (i1 : Int)) (b := (x1.length : Int)) rfl e31 e30 ?_)
   refine ag_ ?_
   refine ad_ ?_
   refine an_ (b := decide ((i1 : Int) < (x1.length : Int))) rfl (eu_ hlt1) ?_
   refine ar_ ?_
   refine ad_ ?_
   refine au_ ?_
   refine ad_ ?_
   refine ab_ ?_
   obtain ⟨x8, hx8, h1⟩ := bnd h1
   refine aa_ rfl (ao_ (v := (Value.slice z4 m4 k4)) (i := (i1 : Int)) (e := x8) rfl Try.underlying40 kw_ e29 hu2 e31 hx8 ?_)
   refine aa_ rfl (aq_ (v := (ah_ (Value.slice z4 m4 k4) ((i1 : Int)) (Enc.sz Edge))) (e := x8) rfl kw_ rfl (hu2.elem I12.in_ hx8) (fun u9 hu9 => ?_))
   have e32 := Edge.inv hu9
   subst e32
   refine aa_ rfl (cl_ (z := (Value.agg #[(Value.int .i64 (0)), (Value.int .i64 (0)), (Value.int .i64 (0)), (Value.int .i64 (0))])) rfl I12 zo44 (fun g5 w8 (I13 : Inv w8 S1 (ax_ g5 44 #[(Value.int .i64 (0)), (Value.int .i64 (0)), (Value.int .i64 (0)), (Value.int .i64 (0))] :: Fr)) => ?_))
   refine aa_ rfl (bo_ (v := (Value.agg #[(Value.int .i64 (x8.Move.Player)), (Value.int .i64 (x8.Move.Kind)), (Value.int .i64 (x8.Move.Number)), (Value.int .i64 (x8.To))])) (cs := #[(Value.int .i64 (0)), (Value.int .i64 (0)), (Value.int .i64 (0)), (Value.int .i64 (0))]) kw_ I13 rfl rfl rfl (Nat.le_of_ble_eq_true rfl) rfl (fun w9 (I14 : Inv w9 S1 (ax_ g5 44 #[(Value.int .i64 (x8.Move.Player)), (Value.int .i64 (x8.Move.Kind)), (Value.int .i64 (x8.Move.Number)), (Value.int .i64 (x8.To))] :: Fr)) => ?_))
   refine ag_ ?_
   refine ad_ ?_
   refine ab_ ?_
   refine aa_ rfl (aj_ (v := (Value.pointer (some ⟨g1, 0, none⟩))) rfl iv_ e27 (p1.at_ I14) ?_)
   refine aa_ rfl (aq_ (v := (am_ (Value.pointer (some ⟨g1, 0, none⟩)) 1)) (e := a0.distances) rfl hm_ rfl ((p1.at_ I14).fld Search_view.fld1) (fun u10 hu10 => ?_))
   obtain ⟨z8, m8, k8, e33⟩ := ak_ hu10
   subst e33
   refine aa_ rfl (az_ (v := (Value.pointer (some ⟨g5, 0, none⟩))) rfl ft_ rfl rfl ?_)
   refine aa_ rfl (bz_ (c := (Value.int .i64 (x8.To))) rfl sh3 (I14.nth 0 rfl) rfl rfl ?_)
   obtain ⟨x9, hx9, h1⟩ := bnd h1
   refine aa_ rfl (ao_ (v := (Value.slice z8 m8 k8)) (i := x8.To) (e := x9) rfl Try.underlying26 sh3 rfl hu10 rfl hx9 ?_)
   refine aa_ rfl (av_ (v := (ah_ (Value.slice z8 m8 k8) (x8.To) (Enc.sz Int))) (e := x9) rfl sh3 rfl (hu10.elem I14.in_ hx9) ?_)
   refine aa_ rfl (ae_ (v := (Value.int .i64 (x9))) rfl rfl ?_)
   refine ag_ ?_
   refine ad_ ?_
   refine ab_ ?_
   refine aa_ rfl (ac_ (v := (Value.int .i64 (x9))) rfl rfl ?_)
   refine aa_ rfl (cz_ (a := x9) (b := (-1)) rfl rfl rfl ?_)
   refine ag_ ?_
   rcases ifs h1 with ⟨hc4, h1⟩ | ⟨hc4, h1⟩
   ·
    refine an_ (b := x9 != (-1)) rfl hc4 ?_
    refine ab_ ?_
    refine aa_ rfl (ac_ (v := (Value.int .i64 (s1))) rfl e28 ?_)
    refine aa_ rfl (ac_ (v := (Value.int .i64 (x9))) rfl rfl ?_)
    refine aa_ rfl (nk_ (a := s1) (b := x9) rfl rfl rfl ?_)
    refine aa_ rfl (ae_ (v := (Value.int .i64 (ko_ s1 x9))) rfl rfl ?_)
    refine ag_ ?_
    refine ab_ ?_
    refine aa_ rfl (bs_ (a := (i1 : Int)) (b := 1) rfl e31 rfl ?_)
    refine aa_ rfl (ac_ (v := (Value.int .i64 (w64 ((i1 : Int) + 1)))) rfl rfl ?_)
    refine ag_ ?_
    obtain rfl := Option.some.inj h1
    exact ⟨(I14).drop, e27, rfl, e29, e30, (ca_ hlt1 hk1), ed4⟩
   ·
    refine ap_ (b := x9 != (-1)) rfl hc4 ?_
    refine ar_ ?_
    refine ab_ ?_
    refine aa_ rfl (bs_ (a := (i1 : Int)) (b := 1) rfl e31 rfl ?_)
    refine aa_ rfl (ac_ (v := (Value.int .i64 (w64 ((i1 : Int) + 1)))) rfl rfl ?_)
    refine ag_ ?_
    obtain rfl := Option.some.inj h1
    exact ⟨(I14).drop, e27, e28, e29, e30, (ca_ hlt1 hk1), ed4⟩
  ·
   rintro f w hI2
   obtain ⟨I15, e34, e35, e36, e37, e38, ed5⟩ := hI2
   refine ad_ ?_
   refine ab_ ?_
   refine aa_ rfl (bn_ (a := (x1.length : Int)) (b := (x1.length : Int)) rfl e38 e37 ?_)
   refine ag_ ?_
   refine ad_ ?_
   refine ap_ (b := decide ((x1.length : Int) < (x1.length : Int))) rfl (ev_ _) ?_
   refine bm_ ?_
   exact ⟨I15, e34, e35, e36, e37, ed5⟩
 ·
  rintro f w ⟨I16, e39, e40, e41, e42, ed6⟩
  refine ad_ ?_
  refine ad_ ?_
  refine ab_ ?_
  refine aa_ rfl (ac_ (v := (Value.int .i64 (out1))) rfl e40 ?_)
  refine aa_ rfl (es_ (a := out1) (b := 1099511627776) rfl rfl rfl ?_)
  refine ag_ ?_
  rcases ifs h with ⟨hc5, h⟩ | ⟨hc5, h⟩
  ·
   refine an_ (b := out1 == 1099511627776) rfl hc5 ?_
   refine ad_ ?_
   refine ab_ ?_
   refine aa_ rfl (ae_ (v := (Value.int .i64 ((-1)))) rfl rfl ?_)
   refine ag_ ?_
   refine aw_ ?_
   obtain rfl := Option.some.inj h
   exact ⟨ed6, (Value.int .i64 ((-1))), (cx_ rfl rfl), _, [], le1, I16, rfl, rfl⟩
  ·
   refine ap_ (b := out1 == 1099511627776) rfl hc5 ?_
   refine ar_ ?_
   refine ad_ ?_
   refine ab_ ?_
   refine aa_ rfl (ac_ (v := (Value.int .i64 (out1))) rfl e40 ?_)
   refine aa_ rfl (ae_ (v := (Value.int .i64 (out1))) rfl rfl ?_)
   refine ag_ ?_
   refine aw_ ?_
   obtain rfl := Option.some.inj h
   exact ⟨ed6, (Value.int .i64 (out1)), (cx_ rfl rfl), _, [], le1, I16, rfl, rfl⟩
set_option maxHeartbeats 4000000 in
set_option maxRecDepth 100000 in
theorem F57_ok {w : World} {S : PH} {Fr : List HP} {a0 : Graph} {v0 : Value} {a1 : (List Int)} {v1 : Value} {r : Search_view × Int} (hI : Inv w S (Fr)) (h0_ : RV S v0 a0) (h1_ : RV S v1 a1) (h : F57 a0 a1 = some r) :
    Calls Try.prog 57 [v0, v1].toArray w (ky_ S Fr (fun T_ v_ O_ => ∃ (c0_ : Value), v_ = (Value.tuple #[c0_, (Value.int .i64 (r.2))]) ∧ O_ = [] ∧ RV T_ c0_ r.1)) := by
 rw [N57_eq] at h; unfold N57 at h
 obtain ⟨c1, c2, e1, r1, r2⟩ := Graph.inv h0_
 subst e1
 obtain ⟨z1, m1, k1, e2⟩ := ak_ r1
 subst e2
 obtain ⟨z2, m2, k2, e3⟩ := ak_ r2
 subst e3
 obtain ⟨z3, m3, k3, e4⟩ := ak_ h1_
 subst e4
 refine bd_ (n := 78) (vs := [(Value.agg #[(Value.slice z1 m1 k1), (Value.slice z2 m2 k2)]), (Value.slice z3 m3 k3)]) Try.func57 rfl rfl rfl ?_
 refine ad_ ?_
 refine ab_ ?_
 refine aa_ rfl (cr_ (v := (Value.agg #[(Value.slice z1 m1 k1), (Value.slice z2 m2 k2)])) rfl hI rfl (fun g1 w1 I1 => ?_))
 obtain ⟨S1, le1, I2, p1⟩ := Inv.boxFreeze (x := a0) I1 (Graph.rv (s := a0) r1 r2)
 refine aa_ rfl (cl_ (z := (Value.agg #[(Value.slice none 0 0), (Value.slice none 0 0)])) rfl I2 zo64 (fun g2 w2 (I3 : Inv w2 S1 (ax_ g2 64 #[(Value.slice none 0 0), (Value.slice none 0 0)] :: Fr)) => ?_))
 refine aa_ rfl (ae_ (v := (Value.int .i64 (0))) rfl rfl ?_)
 refine ag_ ?_
 refine ad_ ?_
 refine ab_ ?_
 refine aa_ rfl (aj_ (v := (Value.pointer (some ⟨g1, 0, none⟩))) rfl cs_ rfl (p1.at_ I3) ?_)
 refine aa_ rfl (aq_ (v := (am_ (Value.pointer (some ⟨g1, 0, none⟩)) 1)) (e := a0.Edges) rfl fi_ rfl ((p1.at_ I3).fld Graph.fld1) (fun u1 hu1 => ?_))
 obtain ⟨z4, m4, k4, e5⟩ := ak_ hu1
 subst e5
 refine aa_ rfl (ac_ (v := (Value.slice z3 m3 k3)) rfl rfl ?_)
 refine aa_ rfl (cw_ (qs := [(0, #[(Value.slice z4 m4 k4)]), (1, #[(Value.slice z3 m3 k3)])]) (c := #[(Value.slice z4 m4 k4), (Value.slice z3 m3 k3)]) rfl st64 ⟨rfl, rfl, ⟨rfl, rfl, trivial⟩⟩ rfl ?_)
 refine aa_ rfl (cl_ (z := (Value.agg #[(Value.slice none 0 0), (Value.slice none 0 0)])) rfl I3 zo64 (fun g3 w3 (I4 : Inv w3 S1 (ax_ g3 64 #[(Value.slice none 0 0), (Value.slice none 0 0)] :: ax_ g2 64 #[(Value.slice none 0 0), (Value.slice none 0 0)] :: Fr)) => ?_))
 refine aa_ rfl (bo_ (v := (Value.agg #[(Value.slice z4 m4 k4), (Value.slice z3 m3 k3)])) (cs := #[(Value.slice none 0 0), (Value.slice none 0 0)]) dt_ I4 rfl rfl rfl (Nat.le_of_ble_eq_true rfl) rfl (fun w4 (I5 : Inv w4 S1 (ax_ g3 64 #[(Value.slice z4 m4 k4), (Value.slice z3 m3 k3)] :: ax_ g2 64 #[(Value.slice none 0 0), (Value.slice none 0 0)] :: Fr)) => ?_))
 refine ag_ ?_
 refine ad_ ?_
 refine ab_ ?_
 refine aa_ rfl (aj_ (v := (Value.pointer (some ⟨g1, 0, none⟩))) rfl iw_ rfl (p1.at_ I5) ?_)
 refine aa_ rfl (aq_ (v := (am_ (Value.pointer (some ⟨g1, 0, none⟩)) 0)) (e := a0.Positions) rfl sh22 rfl ((p1.at_ I5).fld Graph.fld0) (fun u2 hu2 => ?_))
 obtain ⟨z5, m5, k5, e6⟩ := ak_ hu2
 subst e6
 refine aa_ rfl (bg_ rfl Try.underlying22 rfl hu2 ?_)
 refine aa_ rfl (cl_ (z := (Value.int .i64 (0))) rfl I5 zo3 (fun g4 w5 (I6 : Inv w5 S1 (ax_ g4 3 #[(Value.int .i64 (0))] :: ax_ g3 64 #[(Value.slice z4 m4 k4), (Value.slice z3 m3 k3)] :: ax_ g2 64 #[(Value.slice none 0 0), (Value.slice none 0 0)] :: Fr)) => ?_))
 refine aa_ rfl (bo_ (v := (Value.int .i64 ((a0.Positions.length : Int)))) (cs := #[(Value.int .i64 (0))]) sh3 I6 rfl rfl rfl (Nat.le_of_ble_eq_true rfl) rfl (fun w6 (I7 : Inv w6 S1 (ax_ g4 3 #[(Value.int .i64 ((a0.Positions.length : Int)))] :: ax_ g3 64 #[(Value.slice z4 m4 k4), (Value.slice z3 m3 k3)] :: ax_ g2 64 #[(Value.slice none 0 0), (Value.slice none 0 0)] :: Fr)) => ?_))
 obtain ⟨S2, le2, I8, p2⟩ := Inv.boxFreeze (u := (Value.int .i64 ((a0.Positions.length : Int)))) (x := (a0.Positions.length : Int)) I7 (cb_ _)
 refine ag_ ?_
 refine ad_ ?_
 refine ad_ ?_
 refine ab_ ?_
 refine aa_ rfl (av_ (v := (Value.pointer (some ⟨g4, 0, none⟩))) (e := (a0.Positions.length : Int)) rfl sh3 rfl (p2.at_ I8) ?_)
 obtain ⟨x2, hx2, h⟩ := bnd h
 refine aa_ rfl (bl_ (vs := [(Value.int .i64 ((a0.Positions.length : Int))), (Value.int .i64 (1)), (Value.int .i64 (300))]) (r := (Value.bool (x2))) rfl ca61 rfl (gl_ rfl rfl rfl) I8 (fun Fr_ hF_ => iy_ hF_  hx2) (fun w11 I13 => ?_))
 refine aa_ rfl (dm_ (b := x2) rfl rfl ?_)
 refine aa_ rfl (ac_ (v := (Value.bool (!x2))) rfl rfl ?_)
 rcases ifs h with ⟨hc4, h⟩ | ⟨hc4, h⟩
 ·
  refine ai_ (c := !x2) rfl rfl rfl rfl hc4 rfl ?_
  refine ai_ (c := !x2) rfl rfl rfl rfl hc4 rfl ?_
  refine ai_ (c := !x2) rfl rfl rfl rfl hc4 rfl ?_
  refine ai_ (c := !x2) rfl rfl rfl rfl hc4 rfl ?_
  refine ai_ (c := !x2) rfl rfl rfl rfl hc4 rfl ?_
  refine aa_ rfl (bb_ (c := !x2) (a := (Value.bool (true))) rfl rfl hc4 rfl ?_)
  refine aa_ rfl (ac_ (v := (Value.bool (true))) rfl rfl ?_)
  refine ai_ (c := true) rfl rfl rfl rfl rfl rfl ?_
  refine ai_ (c := true) rfl rfl rfl rfl rfl rfl ?_
  refine ai_ (c := true) rfl rfl rfl rfl rfl rfl ?_
  refine ai_ (c := true) rfl rfl rfl rfl rfl rfl ?_
  refine aa_ rfl (bb_ (c := true) (a := (Value.bool (true))) rfl rfl rfl rfl ?_)
  refine ag_ ?_
  refine an_ (b := true) rfl rfl ?_
  refine ad_ ?_
  refine ab_ ?_
  refine aa_ rfl (cg_ (l := [(Value.slice z4 m4 k4), (Value.slice z3 m3 k3)]) rfl dt_ (I13.nth 0 rfl) rfl rfl rfl ?_)
  refine aa_ rfl (bo_ (v := (Value.agg #[(Value.slice z4 m4 k4), (Value.slice z3 m3 k3)])) (cs := #[(Value.slice none 0 0), (Value.slice none 0 0)]) dt_ (I13.pull 1) rfl rfl rfl (Nat.le_of_ble_eq_true rfl) rfl (fun w12 (I14 : Inv w12 S2 (ax_ g2 64 #[(Value.slice z4 m4 k4), (Value.slice z3 m3 k3)] :: ax_ g3 64 #[(Value.slice z4 m4 k4), (Value.slice z3 m3 k3)] :: Fr)) => ?_))
  refine aa_ rfl (ae_ (v := (Value.int .i64 (60))) rfl rfl ?_)
  refine ag_ ?_
  refine aw_ ?_
  obtain rfl := Option.some.inj h
  exact ⟨rfl, (Value.tuple #[(Value.agg #[(Value.slice z4 m4 k4), (Value.slice z3 m3 k3)]), (Value.int .i64 (60))]), (fx_ (cs := #[(Value.slice z4 m4 k4), (Value.slice z3 m3 k3)]) rfl rfl dt_ I14 rfl), _, [], (le1.trans le2), ((I14).drop).drop, _, rfl, rfl, (Search_view.rv (s := (⟨a0.Edges, a1⟩ : Search_view)) (hu1.mono le2) (h1_.mono (le1.trans le2)))⟩
 ·
  refine al_ (c := !x2) rfl rfl rfl rfl hc4 (aj_ (v := (Value.pointer (some ⟨g1, 0, none⟩))) rfl cs_ rfl ((p1.mono le2).at_ I13) ?_)
  refine al_ (c := !x2) rfl rfl rfl rfl hc4 (aq_ (v := (am_ (Value.pointer (some ⟨g1, 0, none⟩)) 1)) (e := a0.Edges) rfl fi_ rfl (((p1.mono le2).at_ I13).fld Graph.fld1) (fun u4 hu4 => ?_))
  obtain ⟨z7, m7, k7, e8⟩ := ak_ hu4
  subst e8
  refine al_ (c := !x2) rfl rfl rfl rfl hc4 (bg_ rfl Try.underlying23 rfl hu4 ?_)
  refine al_ (c := !x2) rfl rfl rfl rfl hc4 (av_ (v := (Value.pointer (some ⟨g4, 0, none⟩))) (e := (a0.Positions.length : Int)) rfl sh3 rfl (p2.at_ I13) ?_)
  refine al_ (c := !x2) rfl rfl rfl rfl hc4 (cz_ (a := (a0.Edges.length : Int)) (b := (a0.Positions.length : Int)) rfl rfl rfl ?_)
  refine aa_ rfl (ay_ (c := !x2) (b := (Value.bool ((a0.Edges.length : Int) != (a0.Positions.length : Int)))) rfl rfl hc4 rfl ?_)
  refine aa_ rfl (ac_ (v := (Value.bool ((a0.Edges.length : Int) != (a0.Positions.length : Int)))) rfl rfl ?_)
  rcases ifs h with ⟨hc5, h⟩ | ⟨hc5, h⟩
  ·
   refine ai_ (c := (a0.Edges.length : Int) != (a0.Positions.length : Int)) rfl rfl rfl rfl hc5 rfl ?_
   refine ai_ (c := (a0.Edges.length : Int) != (a0.Positions.length : Int)) rfl rfl rfl rfl hc5 rfl ?_
   refine ai_ (c := (a0.Edges.length : Int) != (a0.Positions.length : Int)) rfl rfl rfl rfl hc5 rfl ?_
   refine ai_ (c := (a0.Edges.length : Int) != (a0.Positions.length : Int)) rfl rfl rfl rfl hc5 rfl ?_
   refine aa_ rfl (bb_ (c := (a0.Edges.length : Int) != (a0.Positions.length : Int)) (a := (Value.bool (true))) rfl rfl hc5 rfl ?_)
   refine ag_ ?_
   refine an_ (b := true) rfl rfl ?_
   refine ad_ ?_
   refine ab_ ?_
   refine aa_ rfl (cg_ (l := [(Value.slice z4 m4 k4), (Value.slice z3 m3 k3)]) rfl dt_ (I13.nth 0 rfl) rfl rfl rfl ?_)
   refine aa_ rfl (bo_ (v := (Value.agg #[(Value.slice z4 m4 k4), (Value.slice z3 m3 k3)])) (cs := #[(Value.slice none 0 0), (Value.slice none 0 0)]) dt_ (I13.pull 1) rfl rfl rfl (Nat.le_of_ble_eq_true rfl) rfl (fun w13 (I15 : Inv w13 S2 (ax_ g2 64 #[(Value.slice z4 m4 k4), (Value.slice z3 m3 k3)] :: ax_ g3 64 #[(Value.slice z4 m4 k4), (Value.slice z3 m3 k3)] :: Fr)) => ?_))
   refine aa_ rfl (ae_ (v := (Value.int .i64 (60))) rfl rfl ?_)
   refine ag_ ?_
   refine aw_ ?_
   obtain rfl := Option.some.inj h
   exact ⟨rfl, (Value.tuple #[(Value.agg #[(Value.slice z4 m4 k4), (Value.slice z3 m3 k3)]), (Value.int .i64 (60))]), (fx_ (cs := #[(Value.slice z4 m4 k4), (Value.slice z3 m3 k3)]) rfl rfl dt_ I15 rfl), _, [], (le1.trans le2), ((I15).drop).drop, _, rfl, rfl, (Search_view.rv (s := (⟨a0.Edges, a1⟩ : Search_view)) (hu1.mono le2) (h1_.mono (le1.trans le2)))⟩
  ·
   refine al_ (c := (a0.Edges.length : Int) != (a0.Positions.length : Int)) rfl rfl rfl rfl hc5 (ac_ (v := (Value.slice z3 m3 k3)) rfl rfl ?_)
   refine al_ (c := (a0.Edges.length : Int) != (a0.Positions.length : Int)) rfl rfl rfl rfl hc5 (bg_ rfl Try.underlying26 rfl (h1_.mono (le1.trans le2)) ?_)
   refine al_ (c := (a0.Edges.length : Int) != (a0.Positions.length : Int)) rfl rfl rfl rfl hc5 (av_ (v := (Value.pointer (some ⟨g4, 0, none⟩))) (e := (a0.Positions.length : Int)) rfl sh3 rfl (p2.at_ I13) ?_)
   refine al_ (c := (a0.Edges.length : Int) != (a0.Positions.length : Int)) rfl rfl rfl rfl hc5 (cz_ (a := (a1.length : Int)) (b := (a0.Positions.length : Int)) rfl rfl rfl ?_)
   refine aa_ rfl (ay_ (c := (a0.Edges.length : Int) != (a0.Positions.length : Int)) (b := (Value.bool ((a1.length : Int) != (a0.Positions.length : Int)))) rfl rfl hc5 rfl ?_)
   refine ag_ ?_
   rcases ifs h with ⟨hc6, h⟩ | ⟨hc6, h⟩
   ·
    refine an_ (b := (a1.length : Int) != (a0.Positions.length : Int)) rfl hc6 ?_
    refine ad_ ?_
    refine ab_ ?_
    refine aa_ rfl (cg_ (l := [(Value.slice z4 m4 k4), (Value.slice z3 m3 k3)]) rfl dt_ (I13.nth 0 rfl) rfl rfl rfl ?_)
    refine aa_ rfl (bo_ (v := (Value.agg #[(Value.slice z4 m4 k4), (Value.slice z3 m3 k3)])) (cs := #[(Value.slice none 0 0), (Value.slice none 0 0)]) dt_ (I13.pull 1) rfl rfl rfl (Nat.le_of_ble_eq_true rfl) rfl (fun w14 (I16 : Inv w14 S2 (ax_ g2 64 #[(Value.slice z4 m4 k4), (Value.slice z3 m3 k3)] :: ax_ g3 64 #[(Value.slice z4 m4 k4), (Value.slice z3 m3 k3)] :: Fr)) => ?_))
    refine aa_ rfl (ae_ (v := (Value.int .i64 (60))) rfl rfl ?_)
    refine ag_ ?_
    refine aw_ ?_
    obtain rfl := Option.some.inj h
    exact ⟨rfl, (Value.tuple #[(Value.agg #[(Value.slice z4 m4 k4), (Value.slice z3 m3 k3)]), (Value.int .i64 (60))]), (fx_ (cs := #[(Value.slice z4 m4 k4), (Value.slice z3 m3 k3)]) rfl rfl dt_ I16 rfl), _, [], (le1.trans le2), ((I16).drop).drop, _, rfl, rfl, (Search_view.rv (s := (⟨a0.Edges, a1⟩ : Search_view)) (hu1.mono le2) (h1_.mono (le1.trans le2)))⟩
   ·
    refine ap_ (b := (a1.length : Int) != (a0.Positions.length : Int)) rfl hc6 ?_
    refine ar_ ?_
    refine ad_ ?_
    refine ad_ ?_
    refine ab_ ?_
    refine aa_ rfl (aj_ (v := (Value.pointer (some ⟨g1, 0, none⟩))) rfl cs_ rfl ((p1.mono le2).at_ I13) ?_)
    refine aa_ rfl (aq_ (v := (am_ (Value.pointer (some ⟨g1, 0, none⟩)) 1)) (e := a0.Edges) rfl fi_ rfl (((p1.mono le2).at_ I13).fld Graph.fld1) (fun u5 hu5 => ?_))
    obtain ⟨z8, m8, k8, e9⟩ := ak_ hu5
    subst e9
    refine aa_ rfl (bg_ rfl Try.underlying23 rfl hu5 ?_)
    refine aa_ rfl (ac_ (v := (Value.int .i64 (0))) rfl rfl ?_)
    refine ag_ ?_
    have hk1 : a0.Edges.length ≤ 9223372036854775807 := (ee_ r2)
    obtain ⟨o2, hrun1, h⟩ := bnd h
    refine cf_ (fun f w => ∃ out1, o2 = Sum.inl out1 ∧ Inv w S2 (ax_ g2 64 #[(Value.slice none 0 0), (Value.slice none 0 0)] :: ax_ g3 64 #[(Value.slice z4 m4 k4), (Value.slice z3 m3 k3)] :: Fr) ∧ f 1 = (Value.slice z3 m3 k3) ∧ f 4 = (Value.pointer (some ⟨g2, 0, none⟩)) ∧ f 6 = (Value.pointer (some ⟨g3, 0, none⟩)) ∧ f 7 = (Value.pointer (some ⟨g4, 0, none⟩)) ∧ f 38 = (Value.slice z8 m8 k8) ∧ f 39 = (Value.int .i64 ((a0.Edges.length : Int))) ∧ f.ds = []) ?_ ?_
    ·
     refine au_ ?_
     refine dl_ (I := fun (i1 : Nat) (s1 : Unit) (f : Frm) (w : World) => Inv w S2 (ax_ g2 64 #[(Value.slice none 0 0), (Value.slice none 0 0)] :: ax_ g3 64 #[(Value.slice z4 m4 k4), (Value.slice z3 m3 k3)] :: Fr) ∧ f 1 = (Value.slice z3 m3 k3) ∧ f 4 = (Value.pointer (some ⟨g2, 0, none⟩)) ∧ f 6 = (Value.pointer (some ⟨g3, 0, none⟩)) ∧ f 7 = (Value.pointer (some ⟨g4, 0, none⟩)) ∧ f 38 = (Value.slice z8 m8 k8) ∧ f 39 = (Value.int .i64 ((a0.Edges.length : Int))) ∧ f 40 = (Value.int .i64 (i1 : Int)) ∧ f.ds = []) hrun1 ⟨(I13.pull 1), rfl, rfl, rfl, rfl, rfl, rfl, rfl, rfl⟩ ?_ ?_
     ·
      rintro i1 s1 f w o1 hlt1 hI1 h2 hout1
      obtain ⟨I25, e26, e27, e28, e29, e30, e31, e32, ed3⟩ := hI1
      refine ad_ ?_
      refine ab_ ?_
      refine aa_ rfl (bn_ (a := (i1 : Int)) (b := (a0.Edges.length : Int)) rfl e32 e31 ?_)
      refine ag_ ?_
      refine ad_ ?_
      refine an_ (b := decide ((i1 : Int) < (a0.Edges.length : Int))) rfl (eu_ hlt1) ?_
      refine ar_ ?_
      refine ad_ ?_
      refine au_ ?_
      refine ad_ ?_
      refine ab_ ?_
      obtain ⟨x7, hx7, h2⟩ := bnd h2
      refine aa_ rfl (ao_ (v := (Value.slice z8 m8 k8)) (i := (i1 : Int)) (e := x7) rfl Try.underlying23 en_ e30 hu5 e32 hx7 ?_)
      refine aa_ rfl (aq_ (v := (ah_ (Value.slice z8 m8 k8) ((i1 : Int)) (Enc.sz (List Edge)))) (e := x7) rfl en_ rfl (hu5.elem I25.in_ hx7) (fun u8 hu8 => ?_))
      obtain ⟨z11, m11, k11, e33⟩ := ak_ hu8
      subst e33
      refine aa_ rfl (ae_ (v := (Value.slice z11 m11 k11)) rfl rfl ?_)
      refine ag_ ?_
      refine ad_ ?_
      refine ab_ ?_
      refine aa_ rfl (ac_ (v := (Value.slice z11 m11 k11)) rfl rfl ?_)
      refine aa_ rfl (bg_ rfl Try.underlying40 rfl hu8 ?_)
      refine aa_ rfl (dw_ (a := (x7.length : Int)) (b := 100) rfl rfl rfl ?_)
      refine aa_ rfl (ac_ (v := (Value.bool (decide (100 < (x7.length : Int))))) rfl rfl ?_)
      rcases ifs h2 with ⟨hc11, h2⟩ | ⟨hc11, h2⟩
      ·
       refine ai_ (c := decide (100 < (x7.length : Int))) rfl rfl rfl rfl hc11 rfl ?_
       refine ai_ (c := decide (100 < (x7.length : Int))) rfl rfl rfl rfl hc11 rfl ?_
       refine ai_ (c := decide (100 < (x7.length : Int))) rfl rfl rfl rfl hc11 rfl ?_
       refine aa_ rfl (bb_ (c := decide (100 < (x7.length : Int))) (a := (Value.bool (true))) rfl rfl hc11 rfl ?_)
       refine ag_ ?_
       refine an_ (b := true) rfl rfl ?_
       refine ad_ ?_
       refine ab_ ?_
       refine aa_ rfl (cg_ (l := [(Value.slice z4 m4 k4), (Value.slice z3 m3 k3)]) rfl dt_ (I25.nth 1 rfl) e28 rfl rfl ?_)
       refine aa_ rfl (bo_ (v := (Value.agg #[(Value.slice z4 m4 k4), (Value.slice z3 m3 k3)])) (cs := #[(Value.slice none 0 0), (Value.slice none 0 0)]) dt_ I25 e27 rfl rfl (Nat.le_of_ble_eq_true rfl) rfl (fun w21 (I26 : Inv w21 S2 (ax_ g2 64 #[(Value.slice z4 m4 k4), (Value.slice z3 m3 k3)] :: ax_ g3 64 #[(Value.slice z4 m4 k4), (Value.slice z3 m3 k3)] :: Fr)) => ?_))
       refine aa_ rfl (ae_ (v := (Value.int .i64 (60))) rfl rfl ?_)
       refine ag_ ?_
       refine aw_ ?_
       obtain rfl := Option.some.inj h2
       obtain rfl := (hout1 _ rfl)
       have h3 := h
       obtain rfl := Option.some.inj h3
       exact ⟨ed3, (Value.tuple #[(Value.agg #[(Value.slice z4 m4 k4), (Value.slice z3 m3 k3)]), (Value.int .i64 (60))]), (fx_ (cs := #[(Value.slice z4 m4 k4), (Value.slice z3 m3 k3)]) rfl e27 dt_ I26 rfl), _, [], (le1.trans le2), ((I26).drop).drop, _, rfl, rfl, (Search_view.rv (s := (⟨a0.Edges, a1⟩ : Search_view)) (hu1.mono le2) (h1_.mono (le1.trans le2)))⟩
      ·
       refine al_ (c := decide (100 < (x7.length : Int))) rfl rfl rfl rfl hc11 (ac_ (v := (Value.slice z11 m11 k11)) rfl rfl ?_)
       refine al_ (c := decide (100 < (x7.length : Int))) rfl rfl rfl rfl hc11 (fk_ (fv := #[]) (cv := #[(Value.pointer (some ⟨g4, 0, none⟩))]) rfl arr0 (arr1 e29) ?_)
       obtain ⟨x8, hx8, h2⟩ := bnd h2
       refine al_ (c := decide (100 < (x7.length : Int))) rfl rfl rfl rfl hc11 (bl_ (vs := [(Value.slice z11 m11 k11), (Value.func (.func 78) #[] #[(Value.pointer (some ⟨g4, 0, none⟩))])]) (r := (Value.bool (x8))) rfl ca77 rfl (fb_ rfl rfl) I25 (fun Fr_ hF_ => F77_ok hF_ hu8 ⟨78, [(Value.pointer (some ⟨g4, 0, none⟩))], rfl, ca78, fun T_ w_ Fr_ u_ x_ r_ hle_ hI_ hu_ hr_ => F78_ok hI_ hu_ (p2.mono hle_) hr_⟩ hx8) (fun w22 I27 => ?_))
       refine aa_ rfl (ay_ (c := decide (100 < (x7.length : Int))) (b := (Value.bool (x8))) rfl rfl hc11 rfl ?_)
       refine ag_ ?_
       rcases ifs h2 with ⟨hc12, h2⟩ | ⟨hc12, h2⟩
       ·
        refine an_ (b := x8) rfl hc12 ?_
        refine ad_ ?_
        refine ab_ ?_
        refine aa_ rfl (cg_ (l := [(Value.slice z4 m4 k4), (Value.slice z3 m3 k3)]) rfl dt_ (I27.nth 1 rfl) e28 rfl rfl ?_)
        refine aa_ rfl (bo_ (v := (Value.agg #[(Value.slice z4 m4 k4), (Value.slice z3 m3 k3)])) (cs := #[(Value.slice none 0 0), (Value.slice none 0 0)]) dt_ I27 e27 rfl rfl (Nat.le_of_ble_eq_true rfl) rfl (fun w23 (I28 : Inv w23 S2 (ax_ g2 64 #[(Value.slice z4 m4 k4), (Value.slice z3 m3 k3)] :: ax_ g3 64 #[(Value.slice z4 m4 k4), (Value.slice z3 m3 k3)] :: Fr)) => ?_))
        refine aa_ rfl (ae_ (v := (Value.int .i64 (60))) rfl rfl ?_)
        refine ag_ ?_
        refine aw_ ?_
        obtain rfl := Option.some.inj h2
        obtain rfl := (hout1 _ rfl)
        have h3 := h
        obtain rfl := Option.some.inj h3
        exact ⟨ed3, (Value.tuple #[(Value.agg #[(Value.slice z4 m4 k4), (Value.slice z3 m3 k3)]), (Value.int .i64 (60))]), (fx_ (cs := #[(Value.slice z4 m4 k4), (Value.slice z3 m3 k3)]) rfl e27 dt_ I28 rfl), _, [], (le1.trans le2), ((I28).drop).drop, _, rfl, rfl, (Search_view.rv (s := (⟨a0.Edges, a1⟩ : Search_view)) (hu1.mono le2) (h1_.mono (le1.trans le2)))⟩
       ·
        refine ap_ (b := x8) rfl hc12 ?_
        refine ar_ ?_
        refine ab_ ?_
        refine aa_ rfl (bs_ (a := (i1 : Int)) (b := 1) rfl e32 rfl ?_)
        refine aa_ rfl (ac_ (v := (Value.int .i64 (w64 ((i1 : Int) + 1)))) rfl rfl ?_)
        refine ag_ ?_
        obtain rfl := Option.some.inj h2
        exact ⟨_, rfl, ((I27.pull 1).pull 1), e26, e27, e28, e29, e30, e31, (ca_ hlt1 hk1), ed3⟩
     ·
      rintro s2 f w hs1 hI2
      obtain ⟨I29, e34, e35, e36, e37, e38, e39, e40, ed4⟩ := hI2
      refine ad_ ?_
      refine ab_ ?_
      refine aa_ rfl (bn_ (a := (a0.Edges.length : Int)) (b := (a0.Edges.length : Int)) rfl e40 e39 ?_)
      refine ag_ ?_
      refine ad_ ?_
      refine ap_ (b := decide ((a0.Edges.length : Int) < (a0.Edges.length : Int))) rfl (ev_ _) ?_
      refine bm_ ?_
      exact ⟨s2, hs1, ((I29.pull 1).pull 1), e34, e35, e36, e37, e38, e39, ed4⟩
    ·
     rintro f w ⟨out1, rfl, I30, e41, e42, e43, e44, e45, e46, ed5⟩
     have h := cy_ h
     refine ad_ ?_
     refine ad_ ?_
     refine ab_ ?_
     refine aa_ rfl (ac_ (v := (Value.slice z3 m3 k3)) rfl e41 ?_)
     refine aa_ rfl (bg_ rfl Try.underlying26 rfl (h1_.mono (le1.trans le2)) ?_)
     refine aa_ rfl (ac_ (v := (Value.int .i64 (0))) rfl rfl ?_)
     refine ag_ ?_
     have hk2 : a1.length ≤ 9223372036854775807 := (ee_ h1_)
     obtain ⟨o4, hrun2, h⟩ := bnd h
     refine cf_ (fun f w => ∃ out2, o4 = Sum.inl out2 ∧ Inv w S2 (ax_ g2 64 #[(Value.slice none 0 0), (Value.slice none 0 0)] :: ax_ g3 64 #[(Value.slice z4 m4 k4), (Value.slice z3 m3 k3)] :: Fr) ∧ f 4 = (Value.pointer (some ⟨g2, 0, none⟩)) ∧ f 6 = (Value.pointer (some ⟨g3, 0, none⟩)) ∧ f 54 = (Value.slice z3 m3 k3) ∧ f 55 = (Value.int .i64 ((a1.length : Int))) ∧ f.ds = []) ?_ ?_
     ·
      refine au_ ?_
      refine dl_ (I := fun (i2 : Nat) (s3 : Unit) (f : Frm) (w : World) => Inv w S2 (ax_ g2 64 #[(Value.slice none 0 0), (Value.slice none 0 0)] :: ax_ g3 64 #[(Value.slice z4 m4 k4), (Value.slice z3 m3 k3)] :: Fr) ∧ f 4 = (Value.pointer (some ⟨g2, 0, none⟩)) ∧ f 6 = (Value.pointer (some ⟨g3, 0, none⟩)) ∧ f 54 = (Value.slice z3 m3 k3) ∧ f 55 = (Value.int .i64 ((a1.length : Int))) ∧ f 56 = (Value.int .i64 (i2 : Int)) ∧ f.ds = []) hrun2 ⟨((I30.pull 1).pull 1), e42, e43, rfl, rfl, rfl, ed5⟩ ?_ ?_
      ·
       rintro i2 s3 f w o3 hlt2 hI3 h10 hout2
       obtain ⟨I39, e71, e72, e73, e74, e75, ed10⟩ := hI3
       refine ad_ ?_
       refine ab_ ?_
       refine aa_ rfl (bn_ (a := (i2 : Int)) (b := (a1.length : Int)) rfl e75 e74 ?_)
       refine ag_ ?_
       refine ad_ ?_
       refine an_ (b := decide ((i2 : Int) < (a1.length : Int))) rfl (eu_ hlt2) ?_
       refine ar_ ?_
       refine ad_ ?_
       refine au_ ?_
       refine ad_ ?_
       refine ab_ ?_
       refine aa_ rfl (ac_ (v := (Value.int .i64 ((i2 : Int)))) rfl e75 ?_)
       obtain ⟨x13, hx13, h10⟩ := bnd h10
       refine aa_ rfl (ao_ (v := (Value.slice z3 m3 k3)) (i := (i2 : Int)) (e := x13) rfl Try.underlying26 sh3 e73 (h1_.mono (le1.trans le2)) e75 hx13 ?_)
       refine aa_ rfl (av_ (v := (ah_ (Value.slice z3 m3 k3) ((i2 : Int)) (Enc.sz Int))) (e := x13) rfl sh3 rfl ((h1_.mono (le1.trans le2)).elem I39.in_ hx13) ?_)
       refine aa_ rfl (ae_ (v := (Value.int .i64 ((i2 : Int)))) rfl rfl ?_)
       refine aa_ rfl (ae_ (v := (Value.int .i64 (x13))) rfl rfl ?_)
       refine ag_ ?_
       refine ad_ ?_
       refine ab_ ?_
       refine aa_ rfl (cg_ (l := [(Value.slice z4 m4 k4), (Value.slice z3 m3 k3)]) rfl dt_ (I39.nth 1 rfl) e72 rfl rfl ?_)
       refine aa_ rfl (ac_ (v := (Value.int .i64 ((i2 : Int)))) rfl rfl ?_)
       obtain ⟨x14, hx14, h10⟩ := bnd h10
       refine aa_ rfl (bl_ (vs := [(Value.agg #[(Value.slice z4 m4 k4), (Value.slice z3 m3 k3)]), (Value.int .i64 ((i2 : Int)))]) (r := (Value.int .i64 (x14))) rfl ca79 rfl (fb_ rfl rfl) I39 (fun Fr_ hF_ => F79_ok hF_ (Search_view.rv (s := (⟨a0.Edges, a1⟩ : Search_view)) (hu1.mono le2) (h1_.mono (le1.trans le2))) hx14) (fun w28 I40 => ?_))
       refine aa_ rfl (ae_ (v := (Value.int .i64 (x14))) rfl rfl ?_)
       refine ag_ ?_
       obtain ⟨v3, h13, h10⟩ := bnd h10
       refine eo_ (fun f w => Inv w S2 (ax_ g2 64 #[(Value.slice none 0 0), (Value.slice none 0 0)] :: ax_ g3 64 #[(Value.slice z4 m4 k4), (Value.slice z3 m3 k3)] :: Fr) ∧ f 4 = (Value.pointer (some ⟨g2, 0, none⟩)) ∧ f 6 = (Value.pointer (some ⟨g3, 0, none⟩)) ∧ f 11 = (Value.int .i64 (x13)) ∧ f 12 = (Value.int .i64 (v3)) ∧ f 54 = (Value.slice z3 m3 k3) ∧ f 55 = (Value.int .i64 ((a1.length : Int))) ∧ f 56 = (Value.int .i64 ((i2 : Int))) ∧ f.ds = []) ?_ ?_
       ·
        refine ad_ ?_
        refine ab_ ?_
        refine aa_ rfl (ac_ (v := (Value.int .i64 (x14))) rfl rfl ?_)
        refine aa_ rfl (cz_ (a := x14) (b := (-1)) rfl rfl rfl ?_)
        refine ag_ ?_
        rcases ifs h13 with ⟨hc22, h13⟩ | ⟨hc22, h13⟩
        ·
         refine an_ (b := x14 != (-1)) rfl hc22 ?_
         refine ab_ ?_
         refine aa_ rfl (ac_ (v := (Value.int .i64 (x14))) rfl rfl ?_)
         refine aa_ rfl (bs_ (a := x14) (b := 1) rfl rfl rfl ?_)
         refine aa_ rfl (ae_ (v := (Value.int .i64 (w64 (x14 + 1)))) rfl rfl ?_)
         refine ag_ ?_
         obtain rfl := Option.some.inj h13
         exact ⟨((I40.pull 1).pull 1), e71, e72, rfl, rfl, e73, e74, e75, ed10⟩
        ·
         refine ap_ (b := x14 != (-1)) rfl hc22 ?_
         refine ar_ ?_
         obtain rfl := Option.some.inj h13
         exact ⟨((I40.pull 1).pull 1), e71, e72, rfl, rfl, e73, e74, e75, ed10⟩
       ·
        rintro f w ⟨I41, e76, e77, e78, e79, e80, e81, e82, ed11⟩
        refine ad_ ?_
        refine ab_ ?_
        refine aa_ rfl (ac_ (v := (Value.int .i64 (x13))) rfl e78 ?_)
        refine aa_ rfl (cz_ (a := x13) (b := 0) rfl rfl rfl ?_)
        refine aa_ rfl (ac_ (v := (Value.bool (x13 != 0))) rfl rfl ?_)
        rcases ifs h10 with ⟨hc23, h10⟩ | ⟨hc23, h10⟩
        ·
         refine al_ (c := x13 != 0) rfl rfl rfl rfl hc23 (ac_ (v := (Value.int .i64 (x13))) rfl e78 ?_)
         refine al_ (c := x13 != 0) rfl rfl rfl rfl hc23 (ac_ (v := (Value.int .i64 (v3))) rfl e79 ?_)
         refine al_ (c := x13 != 0) rfl rfl rfl rfl hc23 (cz_ (a := x13) (b := v3) rfl rfl rfl ?_)
         refine aa_ rfl (bb_ (c := x13 != 0) (a := (Value.bool (x13 != v3))) rfl rfl hc23 rfl ?_)
         refine ag_ ?_
         rcases ifs h10 with ⟨hc24, h10⟩ | ⟨hc24, h10⟩
         ·
          refine an_ (b := x13 != v3) rfl hc24 ?_
          refine ad_ ?_
          refine ab_ ?_
          refine aa_ rfl (cg_ (l := [(Value.slice z4 m4 k4), (Value.slice z3 m3 k3)]) rfl dt_ (I41.nth 1 rfl) e77 rfl rfl ?_)
          refine aa_ rfl (bo_ (v := (Value.agg #[(Value.slice z4 m4 k4), (Value.slice z3 m3 k3)])) (cs := #[(Value.slice none 0 0), (Value.slice none 0 0)]) dt_ I41 e76 rfl rfl (Nat.le_of_ble_eq_true rfl) rfl (fun w29 (I42 : Inv w29 S2 (ax_ g2 64 #[(Value.slice z4 m4 k4), (Value.slice z3 m3 k3)] :: ax_ g3 64 #[(Value.slice z4 m4 k4), (Value.slice z3 m3 k3)] :: Fr)) => ?_))
          refine aa_ rfl (ae_ (v := (Value.int .i64 (60))) rfl rfl ?_)
          refine ag_ ?_
          refine aw_ ?_
          obtain rfl := Option.some.inj h10
          obtain rfl := (hout2 _ rfl)
          have h11 := h
          obtain rfl := Option.some.inj h11
          exact ⟨ed11, (Value.tuple #[(Value.agg #[(Value.slice z4 m4 k4), (Value.slice z3 m3 k3)]), (Value.int .i64 (60))]), (fx_ (cs := #[(Value.slice z4 m4 k4), (Value.slice z3 m3 k3)]) rfl e76 dt_ I42 rfl), _, [], (le1.trans le2), ((I42).drop).drop, _, rfl, rfl, (Search_view.rv (s := (⟨a0.Edges, a1⟩ : Search_view)) (hu1.mono le2) (h1_.mono (le1.trans le2)))⟩
         ·
          refine ap_ (b := x13 != v3) rfl hc24 ?_
          refine ar_ ?_
          refine ab_ ?_
          refine aa_ rfl (bs_ (a := (i2 : Int)) (b := 1) rfl e82 rfl ?_)
          refine aa_ rfl (ac_ (v := (Value.int .i64 (w64 ((i2 : Int) + 1)))) rfl rfl ?_)
          refine ag_ ?_
          obtain rfl := Option.some.inj h10
          exact ⟨_, rfl, ((I41.pull 1).pull 1), e76, e77, e80, e81, (ca_ hlt2 hk2), ed11⟩
        ·
         refine ai_ (c := x13 != 0) rfl rfl rfl rfl hc23 rfl ?_
         refine ai_ (c := x13 != 0) rfl rfl rfl rfl hc23 rfl ?_
         refine ai_ (c := x13 != 0) rfl rfl rfl rfl hc23 rfl ?_
         refine aa_ rfl (ay_ (c := x13 != 0) (b := (Value.bool (false))) rfl rfl hc23 rfl ?_)
         refine ag_ ?_
         refine ap_ (b := false) rfl rfl ?_
         refine ar_ ?_
         refine ab_ ?_
         refine aa_ rfl (bs_ (a := (i2 : Int)) (b := 1) rfl e82 rfl ?_)
         refine aa_ rfl (ac_ (v := (Value.int .i64 (w64 ((i2 : Int) + 1)))) rfl rfl ?_)
         refine ag_ ?_
         obtain rfl := Option.some.inj h10
         exact ⟨_, rfl, ((I41.pull 1).pull 1), e76, e77, e80, e81, (ca_ hlt2 hk2), ed11⟩
      ·
       rintro s4 f w hs2 hI4
       obtain ⟨I43, e83, e84, e85, e86, e87, ed12⟩ := hI4
       refine ad_ ?_
       refine ab_ ?_
       refine aa_ rfl (bn_ (a := (a1.length : Int)) (b := (a1.length : Int)) rfl e87 e86 ?_)
       refine ag_ ?_
       refine ad_ ?_
       refine ap_ (b := decide ((a1.length : Int) < (a1.length : Int))) rfl (ev_ _) ?_
       refine bm_ ?_
       exact ⟨s4, hs2, ((I43.pull 1).pull 1), e83, e84, e85, e86, ed12⟩
     ·
      rintro f w ⟨out2, rfl, I44, e88, e89, e90, e91, ed13⟩
      have h := cy_ h
      refine ad_ ?_
      refine ab_ ?_
      refine aa_ rfl (cg_ (l := [(Value.slice z4 m4 k4), (Value.slice z3 m3 k3)]) rfl dt_ (I44.nth 1 rfl) e89 rfl rfl ?_)
      refine aa_ rfl (bo_ (v := (Value.agg #[(Value.slice z4 m4 k4), (Value.slice z3 m3 k3)])) (cs := #[(Value.slice none 0 0), (Value.slice none 0 0)]) dt_ I44 e88 rfl rfl (Nat.le_of_ble_eq_true rfl) rfl (fun w30 (I45 : Inv w30 S2 (ax_ g2 64 #[(Value.slice z4 m4 k4), (Value.slice z3 m3 k3)] :: ax_ g3 64 #[(Value.slice z4 m4 k4), (Value.slice z3 m3 k3)] :: Fr)) => ?_))
      refine aa_ rfl (ae_ (v := (Value.int .i64 (0))) rfl rfl ?_)
      refine ag_ ?_
      refine aw_ ?_
      obtain rfl := Option.some.inj h
      exact ⟨ed13, (Value.tuple #[(Value.agg #[(Value.slice z4 m4 k4), (Value.slice z3 m3 k3)]), (Value.int .i64 (0))]), (fx_ (cs := #[(Value.slice z4 m4 k4), (Value.slice z3 m3 k3)]) rfl e88 dt_ I45 rfl), _, [], (le1.trans le2), ((I45).drop).drop, _, rfl, rfl, (Search_view.rv (s := (⟨a0.Edges, a1⟩ : Search_view)) (hu1.mono le2) (h1_.mono (le1.trans le2)))⟩
set_option maxHeartbeats 4000000 in
set_option maxRecDepth 100000 in
theorem oc_ {w : World} {S : PH} {Fr : List HP} {a0 : Graph} {v0 : Value} {a1 : (List Int)} {v1 : Value} {a2 : Mind} {v2 : Value} {a3 : Int} {r : Search_view × Int} (hI : Inv w S (Fr)) (h0_ : RV S v0 a0) (h1_ : RV S v1 a1) (h2_ : RV S v2 a2) (h : F45 a0 a1 a2 a3 = some r) :
    Calls Try.prog 45 [v0, v1, v2, (Value.int .i64 (a3))].toArray w (ky_ S Fr (fun T_ v_ O_ => ∃ (c0_ : Value), v_ = (Value.tuple #[c0_, (Value.int .i64 (r.2))]) ∧ O_ = [] ∧ RV T_ c0_ r.1)) := by
 unfold F45 at h
 obtain ⟨c1, c2, e1, r1, r2⟩ := Graph.inv h0_
 subst e1
 obtain ⟨z1, m1, k1, e2⟩ := ak_ r1
 subst e2
 obtain ⟨z2, m2, k2, e3⟩ := ak_ r2
 subst e3
 obtain ⟨z3, m3, k3, e4⟩ := ak_ h1_
 subst e4
 have e5 := Mind.inv h2_
 subst e5
 refine bd_ (n := 39) (vs := [(Value.agg #[(Value.slice z1 m1 k1), (Value.slice z2 m2 k2)]), (Value.slice z3 m3 k3), (Value.agg #[(Value.int .i64 (a2.Memory)), (Value.int .i64 (a2.Turn))]), (Value.int .i64 (a3))]) Try.func45 rfl rfl rfl ?_
 refine ad_ ?_
 refine ab_ ?_
 refine aa_ rfl (cr_ (v := (Value.agg #[(Value.slice z1 m1 k1), (Value.slice z2 m2 k2)])) rfl hI rfl (fun g1 w1 I1 => ?_))
 obtain ⟨S1, le1, I2, p1⟩ := Inv.boxFreeze (x := a0) I1 (Graph.rv (s := a0) r1 r2)
 refine aa_ rfl (cr_ (v := (Value.agg #[(Value.int .i64 (a2.Memory)), (Value.int .i64 (a2.Turn))])) rfl I2 rfl (fun g2 w2 I3 => ?_))
 obtain ⟨S2, le2, I4, p2⟩ := Inv.boxFreeze (x := a2) I3 (Mind.rv (s := a2))
 refine aa_ rfl (cl_ (z := (Value.agg #[(Value.slice none 0 0), (Value.slice none 0 0)])) rfl I4 zo64 (fun g3 w3 (I5 : Inv w3 S2 (ax_ g3 64 #[(Value.slice none 0 0), (Value.slice none 0 0)] :: Fr)) => ?_))
 refine aa_ rfl (ae_ (v := (Value.int .i64 (0))) rfl rfl ?_)
 refine ag_ ?_
 refine ad_ ?_
 refine ab_ ?_
 refine aa_ rfl (aq_ (v := (Value.pointer (some ⟨g1, 0, none⟩))) (e := a0) rfl je_ rfl ((p1.mono le2).at_ I5) (fun u1 hu1 => ?_))
 obtain ⟨c3, c4, e6, r3, r4⟩ := Graph.inv hu1
 subst e6
 obtain ⟨z4, m4, k4, e7⟩ := ak_ r3
 subst e7
 obtain ⟨z5, m5, k5, e8⟩ := ak_ r4
 subst e8
 refine aa_ rfl (ac_ (v := (Value.slice z3 m3 k3)) rfl rfl ?_)
 obtain ⟨x1, hx1, h⟩ := bnd h
 refine aa_ rfl (cu_ (vs := [(Value.agg #[(Value.slice z4 m4 k4), (Value.slice z5 m5 k5)]), (Value.slice z3 m3 k3)]) rfl ca57 rfl (fb_ rfl rfl) (F57_ok I5 (Graph.rv (s := a0) r3 r4) (h1_.mono (le1.trans le2)) hx1) (fun cv1 w4 S3 O1 le3 I6 hv1 => ?_))
 obtain ⟨c5, rfl, rfl, r5⟩ := hv1
 obtain ⟨c6, c7, e9, r6, r7⟩ := Search_view.inv r5
 subst e9
 obtain ⟨z6, m6, k6, e10⟩ := ak_ r6
 subst e10
 obtain ⟨z7, m7, k7, e11⟩ := ak_ r7
 subst e11
 refine aa_ rfl (ac_ (v := (Value.tuple #[(Value.agg #[(Value.slice z6 m6 k6), (Value.slice z7 m7 k7)]), (Value.int .i64 (x1.2))])) rfl rfl ?_)
 refine aa_ rfl (bk_ (v := (Value.agg #[(Value.slice z6 m6 k6), (Value.slice z7 m7 k7)])) rfl rfl rfl ?_)
 refine aa_ rfl (bk_ (v := (Value.int .i64 (x1.2))) rfl rfl rfl ?_)
 refine aa_ rfl (cl_ (z := (Value.agg #[(Value.slice none 0 0), (Value.slice none 0 0)])) rfl I6 zo64 (fun g4 w5 (I7 : Inv w5 S3 (ax_ g4 64 #[(Value.slice none 0 0), (Value.slice none 0 0)] :: ax_ g3 64 #[(Value.slice none 0 0), (Value.slice none 0 0)] :: Fr)) => ?_))
 refine aa_ rfl (bo_ (v := (Value.agg #[(Value.slice z6 m6 k6), (Value.slice z7 m7 k7)])) (cs := #[(Value.slice none 0 0), (Value.slice none 0 0)]) dt_ I7 rfl rfl rfl (Nat.le_of_ble_eq_true rfl) rfl (fun w6 (I8 : Inv w6 S3 (ax_ g4 64 #[(Value.slice z6 m6 k6), (Value.slice z7 m7 k7)] :: ax_ g3 64 #[(Value.slice none 0 0), (Value.slice none 0 0)] :: Fr)) => ?_))
 refine aa_ rfl (ae_ (v := (Value.int .i64 (x1.2))) rfl rfl ?_)
 refine ag_ ?_
 refine ad_ ?_
 refine ad_ ?_
 refine ab_ ?_
 refine aa_ rfl (ac_ (v := (Value.int .i64 (x1.2))) rfl rfl ?_)
 refine aa_ rfl (cz_ (a := x1.2) (b := 0) rfl rfl rfl ?_)
 refine ag_ ?_
 rcases ifs h with ⟨hc1, h⟩ | ⟨hc1, h⟩
 ·
  refine an_ (b := x1.2 != 0) rfl hc1 ?_
  refine ad_ ?_
  refine ab_ ?_
  refine aa_ rfl (cg_ (l := [(Value.slice z6 m6 k6), (Value.slice z7 m7 k7)]) rfl dt_ (I8.nth 0 rfl) rfl rfl rfl ?_)
  refine aa_ rfl (ac_ (v := (Value.int .i64 (x1.2))) rfl rfl ?_)
  refine aa_ rfl (bo_ (v := (Value.agg #[(Value.slice z6 m6 k6), (Value.slice z7 m7 k7)])) (cs := #[(Value.slice none 0 0), (Value.slice none 0 0)]) dt_ (I8.pull 1) rfl rfl rfl (Nat.le_of_ble_eq_true rfl) rfl (fun w7 (I9 : Inv w7 S3 (ax_ g3 64 #[(Value.slice z6 m6 k6), (Value.slice z7 m7 k7)] :: ax_ g4 64 #[(Value.slice z6 m6 k6), (Value.slice z7 m7 k7)] :: Fr)) => ?_))
  refine aa_ rfl (ae_ (v := (Value.int .i64 (x1.2))) rfl rfl ?_)
  refine ag_ ?_
  refine aw_ ?_
  obtain rfl := Option.some.inj h
  exact ⟨rfl, (Value.tuple #[(Value.agg #[(Value.slice z6 m6 k6), (Value.slice z7 m7 k7)]), (Value.int .i64 (x1.2))]), (fx_ (cs := #[(Value.slice z6 m6 k6), (Value.slice z7 m7 k7)]) rfl rfl dt_ I9 rfl), _, [], ((le1.trans le2).trans le3), ((I9).drop).drop, _, rfl, rfl, (Search_view.rv (s := x1.1) r6 r7)⟩
 ·
  refine ap_ (b := x1.2 != 0) rfl hc1 ?_
  refine ar_ ?_
  refine ad_ ?_
  refine ad_ ?_
  refine ab_ ?_
  refine aa_ rfl (aj_ (v := (Value.pointer (some ⟨g2, 0, none⟩))) rfl nr_ rfl ((p2.mono le3).at_ I8) ?_)
  refine aa_ rfl (av_ (v := (am_ (Value.pointer (some ⟨g2, 0, none⟩)) 0)) (e := a2.Memory) rfl sh3 rfl (((p2.mono le3).at_ I8).fld Mind.fld0) ?_)
  obtain ⟨x2, hx2, h⟩ := bnd h
  refine aa_ rfl (bl_ (vs := [(Value.int .i64 (a2.Memory)), (Value.int .i64 (0)), (Value.int .i64 (200))]) (r := (Value.bool (x2))) rfl ca61 rfl (gl_ rfl rfl rfl) I8 (fun Fr_ hF_ => iy_ hF_  hx2) (fun w8 I10 => ?_))
  refine aa_ rfl (dm_ (b := x2) rfl rfl ?_)
  refine aa_ rfl (ac_ (v := (Value.bool (!x2))) rfl rfl ?_)
  rcases ifs h with ⟨hc2, h⟩ | ⟨hc2, h⟩
  ·
   refine ai_ (c := !x2) rfl rfl rfl rfl hc2 rfl ?_
   refine ai_ (c := !x2) rfl rfl rfl rfl hc2 rfl ?_
   refine ai_ (c := !x2) rfl rfl rfl rfl hc2 rfl ?_
   refine ai_ (c := !x2) rfl rfl rfl rfl hc2 rfl ?_
   refine aa_ rfl (bb_ (c := !x2) (a := (Value.bool (true))) rfl rfl hc2 rfl ?_)
   refine aa_ rfl (ac_ (v := (Value.bool (true))) rfl rfl ?_)
   refine ai_ (c := true) rfl rfl rfl rfl rfl rfl ?_
   refine ai_ (c := true) rfl rfl rfl rfl rfl rfl ?_
   refine ai_ (c := true) rfl rfl rfl rfl rfl rfl ?_
   refine aa_ rfl (bb_ (c := true) (a := (Value.bool (true))) rfl rfl rfl rfl ?_)
   refine ag_ ?_
   refine an_ (b := true) rfl rfl ?_
   refine ad_ ?_
   refine ab_ ?_
   refine aa_ rfl (cg_ (l := [(Value.slice z6 m6 k6), (Value.slice z7 m7 k7)]) rfl dt_ (I10.nth 0 rfl) rfl rfl rfl ?_)
   refine aa_ rfl (bo_ (v := (Value.agg #[(Value.slice z6 m6 k6), (Value.slice z7 m7 k7)])) (cs := #[(Value.slice none 0 0), (Value.slice none 0 0)]) dt_ (I10.pull 1) rfl rfl rfl (Nat.le_of_ble_eq_true rfl) rfl (fun w9 (I11 : Inv w9 S3 (ax_ g3 64 #[(Value.slice z6 m6 k6), (Value.slice z7 m7 k7)] :: ax_ g4 64 #[(Value.slice z6 m6 k6), (Value.slice z7 m7 k7)] :: Fr)) => ?_))
   refine aa_ rfl (ae_ (v := (Value.int .i64 (1))) rfl rfl ?_)
   refine ag_ ?_
   refine aw_ ?_
   obtain rfl := Option.some.inj h
   exact ⟨rfl, (Value.tuple #[(Value.agg #[(Value.slice z6 m6 k6), (Value.slice z7 m7 k7)]), (Value.int .i64 (1))]), (fx_ (cs := #[(Value.slice z6 m6 k6), (Value.slice z7 m7 k7)]) rfl rfl dt_ I11 rfl), _, [], ((le1.trans le2).trans le3), ((I11).drop).drop, _, rfl, rfl, (Search_view.rv (s := x1.1) r6 r7)⟩
  ·
   refine al_ (c := !x2) rfl rfl rfl rfl hc2 (aj_ (v := (Value.pointer (some ⟨g2, 0, none⟩))) rfl nq_ rfl ((p2.mono le3).at_ I10) ?_)
   refine al_ (c := !x2) rfl rfl rfl rfl hc2 (av_ (v := (am_ (Value.pointer (some ⟨g2, 0, none⟩)) 1)) (e := a2.Turn) rfl sh3 rfl (((p2.mono le3).at_ I10).fld Mind.fld1) ?_)
   obtain ⟨x3, hx3, h⟩ := bnd h
   refine al_ (c := !x2) rfl rfl rfl rfl hc2 (bl_ (vs := [(Value.int .i64 (a2.Turn)), (Value.int .i64 (0)), (Value.int .i64 (99))]) (r := (Value.bool (x3))) rfl ca61 rfl (gl_ rfl rfl rfl) I10 (fun Fr_ hF_ => iy_ hF_  hx3) (fun w10 I12 => ?_))
   refine al_ (c := !x2) rfl rfl rfl rfl hc2 (dm_ (b := x3) rfl rfl ?_)
   refine aa_ rfl (ay_ (c := !x2) (b := (Value.bool (!x3))) rfl rfl hc2 rfl ?_)
   refine aa_ rfl (ac_ (v := (Value.bool (!x3))) rfl rfl ?_)
   rcases ifs h with ⟨hc3, h⟩ | ⟨hc3, h⟩
   ·
    refine ai_ (c := !x3) rfl rfl rfl rfl hc3 rfl ?_
    refine ai_ (c := !x3) rfl rfl rfl rfl hc3 rfl ?_
    refine ai_ (c := !x3) rfl rfl rfl rfl hc3 rfl ?_
    refine aa_ rfl (bb_ (c := !x3) (a := (Value.bool (true))) rfl rfl hc3 rfl ?_)
    refine ag_ ?_
    refine an_ (b := true) rfl rfl ?_
    refine ad_ ?_
    refine ab_ ?_
    refine aa_ rfl (cg_ (l := [(Value.slice z6 m6 k6), (Value.slice z7 m7 k7)]) rfl dt_ (I12.nth 0 rfl) rfl rfl rfl ?_)
    refine aa_ rfl (bo_ (v := (Value.agg #[(Value.slice z6 m6 k6), (Value.slice z7 m7 k7)])) (cs := #[(Value.slice none 0 0), (Value.slice none 0 0)]) dt_ (I12.pull 1) rfl rfl rfl (Nat.le_of_ble_eq_true rfl) rfl (fun w11 (I13 : Inv w11 S3 (ax_ g3 64 #[(Value.slice z6 m6 k6), (Value.slice z7 m7 k7)] :: ax_ g4 64 #[(Value.slice z6 m6 k6), (Value.slice z7 m7 k7)] :: Fr)) => ?_))
    refine aa_ rfl (ae_ (v := (Value.int .i64 (1))) rfl rfl ?_)
    refine ag_ ?_
    refine aw_ ?_
    obtain rfl := Option.some.inj h
    exact ⟨rfl, (Value.tuple #[(Value.agg #[(Value.slice z6 m6 k6), (Value.slice z7 m7 k7)]), (Value.int .i64 (1))]), (fx_ (cs := #[(Value.slice z6 m6 k6), (Value.slice z7 m7 k7)]) rfl rfl dt_ I13 rfl), _, [], ((le1.trans le2).trans le3), ((I13).drop).drop, _, rfl, rfl, (Search_view.rv (s := x1.1) r6 r7)⟩
   ·
    refine al_ (c := !x3) rfl rfl rfl rfl hc3 (ac_ (v := (Value.int .i64 (a3))) rfl rfl ?_)
    obtain ⟨x4, hx4, h⟩ := bnd h
    refine al_ (c := !x3) rfl rfl rfl rfl hc3 (bl_ (vs := [(Value.int .i64 (a3)), (Value.int .i64 (0)), (Value.int .i64 (2000))]) (r := (Value.bool (x4))) rfl ca61 rfl (gl_ rfl rfl rfl) I12 (fun Fr_ hF_ => iy_ hF_  hx4) (fun w12 I14 => ?_))
    refine al_ (c := !x3) rfl rfl rfl rfl hc3 (dm_ (b := x4) rfl rfl ?_)
    refine aa_ rfl (ay_ (c := !x3) (b := (Value.bool (!x4))) rfl rfl hc3 rfl ?_)
    refine ag_ ?_
    rcases ifs h with ⟨hc4, h⟩ | ⟨hc4, h⟩
    ·
     refine an_ (b := !x4) rfl hc4 ?_
     refine ad_ ?_
     refine ab_ ?_
     refine aa_ rfl (cg_ (l := [(Value.slice z6 m6 k6), (Value.slice z7 m7 k7)]) rfl dt_ (I14.nth 0 rfl) rfl rfl rfl ?_)
     refine aa_ rfl (bo_ (v := (Value.agg #[(Value.slice z6 m6 k6), (Value.slice z7 m7 k7)])) (cs := #[(Value.slice none 0 0), (Value.slice none 0 0)]) dt_ (I14.pull 1) rfl rfl rfl (Nat.le_of_ble_eq_true rfl) rfl (fun w13 (I15 : Inv w13 S3 (ax_ g3 64 #[(Value.slice z6 m6 k6), (Value.slice z7 m7 k7)] :: ax_ g4 64 #[(Value.slice z6 m6 k6), (Value.slice z7 m7 k7)] :: Fr)) => ?_))
     refine aa_ rfl (ae_ (v := (Value.int .i64 (1))) rfl rfl ?_)
     refine ag_ ?_
     refine aw_ ?_
     obtain rfl := Option.some.inj h
     exact ⟨rfl, (Value.tuple #[(Value.agg #[(Value.slice z6 m6 k6), (Value.slice z7 m7 k7)]), (Value.int .i64 (1))]), (fx_ (cs := #[(Value.slice z6 m6 k6), (Value.slice z7 m7 k7)]) rfl rfl dt_ I15 rfl), _, [], ((le1.trans le2).trans le3), ((I15).drop).drop, _, rfl, rfl, (Search_view.rv (s := x1.1) r6 r7)⟩
    ·
     refine ap_ (b := !x4) rfl hc4 ?_
     refine ar_ ?_
     refine ad_ ?_
     refine ab_ ?_
     refine aa_ rfl (cg_ (l := [(Value.slice z6 m6 k6), (Value.slice z7 m7 k7)]) rfl dt_ (I14.nth 0 rfl) rfl rfl rfl ?_)
     refine aa_ rfl (bo_ (v := (Value.agg #[(Value.slice z6 m6 k6), (Value.slice z7 m7 k7)])) (cs := #[(Value.slice none 0 0), (Value.slice none 0 0)]) dt_ (I14.pull 1) rfl rfl rfl (Nat.le_of_ble_eq_true rfl) rfl (fun w14 (I16 : Inv w14 S3 (ax_ g3 64 #[(Value.slice z6 m6 k6), (Value.slice z7 m7 k7)] :: ax_ g4 64 #[(Value.slice z6 m6 k6), (Value.slice z7 m7 k7)] :: Fr)) => ?_))
     refine aa_ rfl (ae_ (v := (Value.int .i64 (0))) rfl rfl ?_)
     refine ag_ ?_
     refine aw_ ?_
     obtain rfl := Option.some.inj h
     exact ⟨rfl, (Value.tuple #[(Value.agg #[(Value.slice z6 m6 k6), (Value.slice z7 m7 k7)]), (Value.int .i64 (0))]), (fx_ (cs := #[(Value.slice z6 m6 k6), (Value.slice z7 m7 k7)]) rfl rfl dt_ I16 rfl), _, [], ((le1.trans le2).trans le3), ((I16).drop).drop, _, rfl, rfl, (Search_view.rv (s := x1.1) r6 r7)⟩
set_option maxHeartbeats 4000000 in
set_option maxRecDepth 100000 in
theorem F90_ok {w : World} {S : PH} {Fr : List HP} {a0 : (List Search_gone)} {v0 : Value} {a1 : Search_gone} {v1 : Value} {r : Int} (hI : Inv w S (Fr)) (h0_ : RV S v0 a0) (h1_ : RV S v1 a1) (h : F90 a0 a1 = some r) :
    Calls Try.prog 90 [v0, v1].toArray w (dd_ S Fr (Value.int .i64 (r))) := by
 unfold F90 at h
 obtain ⟨z1, m1, k1, e1⟩ := ak_ h0_
 subst e1
 have e2 := Search_gone.inv h1_
 subst e2
 refine bd_ (n := 19) (vs := [(Value.slice z1 m1 k1), (Value.agg #[(Value.int .i64 (a1.position)), (Value.int .i64 (a1.edge))])]) Try.func90 rfl rfl rfl ?_
 refine ad_ ?_
 refine ab_ ?_
 refine aa_ rfl (cr_ (v := (Value.agg #[(Value.int .i64 (a1.position)), (Value.int .i64 (a1.edge))])) rfl hI rfl (fun g1 w1 I1 => ?_))
 obtain ⟨S1, le1, I2, p1⟩ := Inv.boxFreeze (x := a1) I1 (Search_gone.rv (s := a1))
 refine aa_ rfl (ae_ (v := (Value.int .i64 (0))) rfl rfl ?_)
 refine ag_ ?_
 refine ad_ ?_
 refine ad_ ?_
 refine ab_ ?_
 refine aa_ rfl (ac_ (v := (Value.slice z1 m1 k1)) rfl rfl ?_)
 refine aa_ rfl (bg_ rfl Try.underlying89 rfl (h0_.mono le1) ?_)
 refine aa_ rfl (ac_ (v := (Value.int .i64 (0))) rfl rfl ?_)
 refine ag_ ?_
 have hk1 : a0.length ≤ 9223372036854775807 := (ee_ h0_)
 obtain ⟨o2, hrun1, h⟩ := bnd h
 refine cf_ (fun f w => ∃ out1, o2 = Sum.inl out1 ∧ ∃ (S_ : PH), S1.Le S_ ∧ Inv w S_ (Fr) ∧ f 0 = (Value.slice z1 m1 k1) ∧ f 3 = (Value.pointer (some ⟨g1, 0, none⟩)) ∧ f 7 = (Value.int .i64 ((a0.length : Int))) ∧ f.ds = []) ?_ ?_
 ·
  refine au_ ?_
  refine dl_ (I := fun (i1 : Nat) (s1 : Unit) (f : Frm) (w : World) => ∃ (S_ : PH), S1.Le S_ ∧ Inv w S_ (Fr) ∧ f 0 = (Value.slice z1 m1 k1) ∧ f 3 = (Value.pointer (some ⟨g1, 0, none⟩)) ∧ f 7 = (Value.int .i64 ((a0.length : Int))) ∧ f 8 = (Value.int .i64 (i1 : Int)) ∧ f.ds = []) hrun1 ⟨_, (PH.Le.refl _), I2, rfl, rfl, rfl, rfl, rfl⟩ ?_ ?_
  ·
   rintro i1 s1 f w o1 hlt1 hI22 h1 hout1
   obtain ⟨S25, le25, I27, e36, e37, e38, e39, ed7⟩ := hI22
   refine ad_ ?_
   refine ab_ ?_
   refine aa_ rfl (bn_ (a := (i1 : Int)) (b := (a0.length : Int)) rfl e39 e38 ?_)
   refine ag_ ?_
   refine ad_ ?_
   refine an_ (b := decide ((i1 : Int) < (a0.length : Int))) rfl (eu_ hlt1) ?_
   refine ar_ ?_
   refine ad_ ?_
   refine au_ ?_
   refine ad_ ?_
   refine ab_ ?_
   refine aa_ rfl (ac_ (v := (Value.int .i64 ((i1 : Int)))) rfl e39 ?_)
   refine aa_ rfl (ae_ (v := (Value.int .i64 ((i1 : Int)))) rfl rfl ?_)
   refine ag_ ?_
   refine ad_ ?_
   obtain ⟨x4, hx4, h1⟩ := bnd h1
   refine cn_ (sps := [⟨some 11, [], [0], fun vs_ T_ => fr0 vs_ 0 = (Value.agg #[(Value.int .i64 (a1.position)), (Value.int .i64 (a1.edge))]), [], [], [], fun _ h_ => h_⟩, ⟨some 12, [], [1], fun vs_ T_ => fr0 vs_ 0 = (Value.slice z1 m1 k1), [], [], [], fun _ h_ => h_⟩, ⟨some 13, [], [2], fun vs_ T_ => fr0 vs_ 0 = (Value.int .i64 ((i1 : Int))), [], [], [], fun _ h_ => h_⟩, ⟨some 14, [1, 2], [3], fun vs_ T_ => fr0 vs_ 0 = (ah_ (Value.slice z1 m1 k1) ((i1 : Int)) (Enc.sz Search_gone)), [], [], [], fun _ h_ => h_⟩, ⟨some 15, [1, 2, 3], [4], fun vs_ T_ => fr0 vs_ 0 = (Value.agg #[(Value.int .i64 (x4.position)), (Value.int .i64 (x4.edge))]), [], [], [], fun _ h_ => h_⟩, ⟨some 16, [0, 1, 2, 3, 4], [5], fun vs_ T_ => fr0 vs_ 0 = (Value.bool (decide (a1 = x4))), [], [], [], fun _ h_ => h_⟩]) (tks := []) (O := Fr) rfl (by kernel_rfl) I27 ⟨?_, ?_, ?_, ?_, ?_, ?_, trivial⟩ ?_
   ·
    intro vs22 f w23 S26 X19 le26 hA19 hK22 hI23
    have I28 : Inv w23 S26 (X19) := hI23
    refine af_ rfl rfl (aq_ (v := (Value.pointer (some ⟨g1, 0, none⟩))) (e := a1) rfl dy_ ((hK22 3 (be_ rfl)).trans e37) ((p1.mono (le25.trans le26)).at_ I28) (fun u15 hu15 => ?_))
    have e40 := Search_gone.inv hu15
    subst e40
    refine ⟨_, _, rfl, PH.Le.refl _, ?_, ?_⟩
    ·
     exact rfl
    ·
     exact I28
   ·
    intro vs23 f w24 S27 X20 le27 hA20 hK23 hI24
    have I29 : Inv w24 S27 (X20) := hI24
    refine af_ rfl rfl (ac_ (v := (Value.slice z1 m1 k1)) rfl ((hK23 0 (be_ rfl)).trans e36) ?_)
    refine ⟨_, _, rfl, PH.Le.refl _, ?_, ?_⟩
    ·
     exact rfl
    ·
     exact I29
   ·
    intro vs24 f w25 S28 X21 le28 hA21 hK24 hI25
    have I30 : Inv w25 S28 (X21) := hI25
    refine af_ rfl rfl (ac_ (v := (Value.int .i64 ((i1 : Int)))) rfl (hK24 5 (be_ rfl)) ?_)
    refine ⟨_, _, rfl, PH.Le.refl _, ?_, ?_⟩
    ·
     exact rfl
    ·
     exact I30
   ·
    intro vs25 f w26 S29 X22 le29 hA22 hK25 hI26
    have I31 : Inv w26 S29 (X22) := hI26
    have q19 : f 12 = (Value.slice z1 m1 k1) := vt (hA22.at_ 0 rfl _ rfl) rfl
    have q20 : f 13 = (Value.int .i64 ((i1 : Int))) := vt (hA22.at_ 1 rfl _ rfl) rfl
    refine af_ rfl rfl (ao_ (v := (Value.slice z1 m1 k1)) (i := (i1 : Int)) (e := x4) rfl Try.underlying89 dy_ q19 (h0_.mono ((le1.trans le25).trans le29)) q20 hx4 ?_)
    refine ⟨_, _, rfl, PH.Le.refl _, ?_, ?_⟩
    ·
     exact rfl
    ·
     exact I31
   ·
    intro vs26 f w27 S30 X23 le30 hA23 hK26 hI27
    have I32 : Inv w27 S30 (X23) := hI27
    have q21 : f 14 = (ah_ (Value.slice z1 m1 k1) ((i1 : Int)) (Enc.sz Search_gone)) := vt (hA23.at_ 2 rfl _ rfl) rfl
    refine af_ rfl rfl (aq_ (v := (ah_ (Value.slice z1 m1 k1) ((i1 : Int)) (Enc.sz Search_gone))) (e := x4) rfl dy_ q21 ((h0_.mono ((le1.trans le25).trans le30)).elem I32.in_ hx4) (fun u16 hu16 => ?_))
    have e41 := Search_gone.inv hu16
    subst e41
    refine ⟨_, _, rfl, PH.Le.refl _, ?_, ?_⟩
    ·
     exact rfl
    ·
     exact I32
   ·
    intro vs27 f w28 S31 X24 le31 hA24 hK27 hI28
    have I33 : Inv w28 S31 (X24) := hI28
    have q22 : f 11 = (Value.agg #[(Value.int .i64 (a1.position)), (Value.int .i64 (a1.edge))]) := vt (hA24.at_ 0 rfl _ rfl) rfl
    have q23 : f 15 = (Value.agg #[(Value.int .i64 (x4.position)), (Value.int .i64 (x4.edge))]) := vt (hA24.at_ 4 rfl _ rfl) rfl
    refine af_ rfl rfl (lm_ (S := S31) (a := a1) (b := x4) (v := (Value.agg #[(Value.int .i64 (a1.position)), (Value.int .i64 (a1.edge))])) (u := (Value.agg #[(Value.int .i64 (x4.position)), (Value.int .i64 (x4.edge))])) rfl kt103 rfl (by kernel_rfl) q22 q23 (Search_gone.rv (s := a1)) (Search_gone.rv (s := x4)) ?_)
    refine ⟨_, _, rfl, PH.Le.refl _, ?_, ?_⟩
    ·
     exact rfl
    ·
     exact I33
   ·
    intro vs28 f w29 S32 ed8 le32 hF4 hK28 hI29
    have e42 : f 0 = (Value.slice z1 m1 k1) := (hK28 0 (bc_ rfl)).trans e36
    have e43 : f 3 = (Value.pointer (some ⟨g1, 0, none⟩)) := (hK28 3 (bc_ rfl)).trans e37
    have e44 : f 5 = (Value.int .i64 ((i1 : Int))) := (hK28 5 (bc_ rfl)).trans rfl
    have e45 : f 7 = (Value.int .i64 ((a0.length : Int))) := (hK28 7 (bc_ rfl)).trans e38
    have e46 : f 8 = (Value.int .i64 ((i1 : Int))) := (hK28 8 (bc_ rfl)).trans e39
    have I34 : Inv w29 S32 (Fr) := hI29
    have q24 : f 16 = (Value.bool (decide (a1 = x4))) := vt (hF4.at_ 5 rfl _ rfl) rfl
    rcases ifs h1 with ⟨hc4, h1⟩ | ⟨hc4, h1⟩
    ·
     refine an_ (b := decide (a1 = x4)) q24 hc4 ?_
     refine ad_ ?_
     refine ab_ ?_
     refine aa_ rfl (ac_ (v := (Value.int .i64 ((i1 : Int)))) rfl e44 ?_)
     refine aa_ rfl (ae_ (v := (Value.int .i64 ((i1 : Int)))) rfl rfl ?_)
     refine ag_ ?_
     refine aw_ ?_
     obtain rfl := Option.some.inj h1
     obtain rfl := (hout1 _ rfl)
     have h2 := h
     obtain rfl := Option.some.inj h2
     exact ⟨(ed8.trans ed7), (Value.int .i64 ((i1 : Int))), (cx_ rfl rfl), _, [], ((le1.trans le25).trans le32), I34, rfl, rfl⟩
    ·
     refine ap_ (b := decide (a1 = x4)) q24 hc4 ?_
     refine ar_ ?_
     refine ab_ ?_
     refine aa_ rfl (bs_ (a := (i1 : Int)) (b := 1) rfl e46 rfl ?_)
     refine aa_ rfl (ac_ (v := (Value.int .i64 (w64 ((i1 : Int) + 1)))) rfl rfl ?_)
     refine ag_ ?_
     obtain rfl := Option.some.inj h1
     exact ⟨_, rfl, _, (le25.trans le32), I34, e42, e43, e45, (ca_ hlt1 hk1), (ed8.trans ed7)⟩
  ·
   rintro s2 f w hs1 hI30
   obtain ⟨S33, le33, I35, e47, e48, e49, e50, ed9⟩ := hI30
   refine ad_ ?_
   refine ab_ ?_
   refine aa_ rfl (bn_ (a := (a0.length : Int)) (b := (a0.length : Int)) rfl e50 e49 ?_)
   refine ag_ ?_
   refine ad_ ?_
   refine ap_ (b := decide ((a0.length : Int) < (a0.length : Int))) rfl (ev_ _) ?_
   refine bm_ ?_
   exact ⟨s2, hs1, _, le33, I35, e47, e48, e49, ed9⟩
 ·
  rintro f w ⟨out1, rfl, S34, le34, I36, e51, e52, e53, ed10⟩
  have h := cy_ h
  refine ad_ ?_
  refine ab_ ?_
  refine aa_ rfl (ae_ (v := (Value.int .i64 ((-1)))) rfl rfl ?_)
  refine ag_ ?_
  refine aw_ ?_
  obtain rfl := Option.some.inj h
  exact ⟨ed10, (Value.int .i64 ((-1))), (cx_ rfl rfl), _, [], (le1.trans le34), I36, rfl, rfl⟩
set_option maxHeartbeats 4000000 in
set_option maxRecDepth 100000 in
theorem F89_ok {w : World} {S : PH} {Fr : List HP} {a0 : (List Search_gone)} {v0 : Value} {a1 : Search_gone} {v1 : Value} {r : Bool} (hI : Inv w S (Fr)) (h0_ : RV S v0 a0) (h1_ : RV S v1 a1) (h : F89 a0 a1 = some r) :
    Calls Try.prog 89 [v0, v1].toArray w (dd_ S Fr (Value.bool (r))) := by
 unfold F89 at h
 obtain ⟨z1, m1, k1, e1⟩ := ak_ h0_
 subst e1
 have e2 := Search_gone.inv h1_
 subst e2
 refine bd_ (n := 9) (vs := [(Value.slice z1 m1 k1), (Value.agg #[(Value.int .i64 (a1.position)), (Value.int .i64 (a1.edge))])]) Try.func89 rfl rfl rfl ?_
 refine ad_ ?_
 refine ab_ ?_
 refine aa_ rfl (cr_ (v := (Value.agg #[(Value.int .i64 (a1.position)), (Value.int .i64 (a1.edge))])) rfl hI rfl (fun g1 w1 I1 => ?_))
 obtain ⟨S1, le1, I2, p1⟩ := Inv.boxFreeze (x := a1) I1 (Search_gone.rv (s := a1))
 refine aa_ rfl (ae_ (v := (Value.bool (false))) rfl rfl ?_)
 refine ag_ ?_
 refine ad_ ?_
 refine ab_ ?_
 refine aa_ rfl (ac_ (v := (Value.slice z1 m1 k1)) rfl rfl ?_)
 refine aa_ rfl (aq_ (v := (Value.pointer (some ⟨g1, 0, none⟩))) (e := a1) rfl dy_ rfl (p1.at_ I2) (fun u1 hu1 => ?_))
 have e3 := Search_gone.inv hu1
 subst e3
 obtain ⟨x1, hx1, h⟩ := bnd h
 refine aa_ rfl (bl_ (vs := [(Value.slice z1 m1 k1), (Value.agg #[(Value.int .i64 (a1.position)), (Value.int .i64 (a1.edge))])]) (r := (Value.int .i64 (x1))) rfl ca90 rfl (fb_ rfl rfl) I2 (fun Fr_ hF_ => F90_ok hF_ (h0_.mono le1) (Search_gone.rv (s := a1)) hx1) (fun w2 I3 => ?_))
 refine aa_ rfl (fd_ (a := x1) (b := 0) rfl rfl rfl ?_)
 refine aa_ rfl (ae_ (v := (Value.bool (decide (0 ≤ x1)))) rfl rfl ?_)
 refine ag_ ?_
 refine aw_ ?_
 obtain rfl := Option.some.inj h
 exact ⟨rfl, (Value.bool (decide (0 ≤ x1))), (cx_ rfl rfl), _, [], le1, I3, rfl, rfl⟩
set_option maxHeartbeats 4000000 in
set_option maxRecDepth 100000 in
theorem nu_ {w : World} {S : PH} {Fr : List HP} {a0 : Search_player} {v0 : Value} {a1 : Int} {a2 : Int} {r : Bool} (hI : Inv w S (Fr)) (h0_ : PtS S v0 a0) (h : F86 a0 a1 a2 = some r) :
    Calls Try.prog 86 [v0, (Value.int .i64 (a1)), (Value.int .i64 (a2))].toArray w (dd_ S Fr (Value.bool (r))) := by
 unfold F86 at h
 refine bd_ (n := 15) (vs := [v0, (Value.int .i64 (a1)), (Value.int .i64 (a2))]) Try.func86 rfl rfl rfl ?_
 refine ad_ ?_
 refine ab_ ?_
 refine aa_ rfl (ae_ (v := (Value.bool (false))) rfl rfl ?_)
 refine ag_ ?_
 refine ad_ ?_
 refine ab_ ?_
 refine aa_ rfl (ac_ (v := v0) rfl rfl ?_)
 refine aa_ rfl (bx_ (v := v0) rfl rfl h0_ ?_)
 refine aa_ rfl (aj_ (v := v0) rfl ff_ rfl (h0_.at_ hI) ?_)
 refine aa_ rfl (aq_ (v := (am_ v0 5)) (e := a0.memory) rfl mh_ rfl ((h0_.at_ hI).fld Search_player.fld3) (fun u1 hu1 => ?_))
 obtain ⟨z1, m1, k1, e1⟩ := ak_ hu1
 subst e1
 refine aa_ rfl (ac_ (v := (Value.int .i64 (a1))) rfl rfl ?_)
 refine aa_ rfl (ac_ (v := (Value.int .i64 (a2))) rfl rfl ?_)
 refine aa_ rfl (cw_ (qs := [(0, #[(Value.int .i64 (a1))]), (1, #[(Value.int .i64 (a2))])]) (c := #[(Value.int .i64 (a1)), (Value.int .i64 (a2))]) rfl st103 ⟨rfl, rfl, ⟨rfl, rfl, trivial⟩⟩ rfl ?_)
 obtain ⟨x1, hx1, h⟩ := bnd h
 refine aa_ rfl (bl_ (vs := [(Value.slice z1 m1 k1), (Value.agg #[(Value.int .i64 (a1)), (Value.int .i64 (a2))])]) (r := (Value.bool (x1))) rfl ca89 rfl (fb_ rfl rfl) hI (fun Fr_ hF_ => F89_ok hF_ hu1 (Search_gone.rv (s := (⟨a1, a2⟩ : Search_gone))) hx1) (fun w1 I1 => ?_))
 refine aa_ rfl (ae_ (v := (Value.bool (x1))) rfl rfl ?_)
 refine ag_ ?_
 refine aw_ ?_
 obtain rfl := Option.some.inj h
 exact ⟨rfl, (Value.bool (x1)), (cx_ rfl rfl), _, [], (PH.Le.refl _), I1, rfl, rfl⟩
set_option maxHeartbeats 4000000 in
set_option maxRecDepth 100000 in
theorem nw_ {w : World} {S : PH} {Fr : List HP} {a0 : Search_player} {v0 : Value} {a1 : Int} {r : Int} (hI : Inv w S (Fr)) (h0_ : PtS S v0 a0) (h : F80 a0 a1 = some r) :
    Calls Try.prog 80 [v0, (Value.int .i64 (a1))].toArray w (dd_ S Fr (Value.int .i64 (r))) := by
 unfold F80 at h
 refine bd_ (n := 39) (vs := [v0, (Value.int .i64 (a1))]) Try.func80 rfl rfl rfl ?_
 refine ad_ ?_
 refine ab_ ?_
 refine aa_ rfl (ae_ (v := (Value.int .i64 (0))) rfl rfl ?_)
 refine ag_ ?_
 refine ad_ ?_
 refine ab_ ?_
 refine aa_ rfl (ac_ (v := v0) rfl rfl ?_)
 refine aa_ rfl (bx_ (v := v0) rfl rfl h0_ ?_)
 refine aa_ rfl (aj_ (v := v0) rfl ka_ rfl (h0_.at_ hI) ?_)
 refine aa_ rfl (aj_ (v := (am_ v0 0)) rfl gk_ rfl ((h0_.at_ hI).fld Search_player.fld0) ?_)
 refine aa_ rfl (aq_ (v := (am_ (am_ v0 0) 0)) (e := a0.view.edges) rfl fi_ rfl (((h0_.at_ hI).fld Search_player.fld0).fld Search_view.fld0) (fun u1 hu1 => ?_))
 obtain ⟨z1, m1, k1, e1⟩ := ak_ hu1
 subst e1
 refine aa_ rfl (ac_ (v := (Value.int .i64 (a1))) rfl rfl ?_)
 obtain ⟨x1, hx1, h⟩ := bnd h
 refine aa_ rfl (ao_ (v := (Value.slice z1 m1 k1)) (i := a1) (e := x1) rfl Try.underlying23 en_ rfl hu1 rfl hx1 ?_)
 refine aa_ rfl (aq_ (v := (ah_ (Value.slice z1 m1 k1) (a1) (Enc.sz (List Edge)))) (e := x1) rfl en_ rfl (hu1.elem hI.in_ hx1) (fun u2 hu2 => ?_))
 obtain ⟨z2, m2, k2, e2⟩ := ak_ hu2
 subst e2
 refine aa_ rfl (bg_ rfl Try.underlying40 rfl hu2 ?_)
 refine aa_ rfl (ae_ (v := (Value.int .i64 ((x1.length : Int)))) rfl rfl ?_)
 refine ag_ ?_
 refine ad_ ?_
 refine ad_ ?_
 refine ab_ ?_
 refine aa_ rfl (ac_ (v := (Value.int .i64 ((x1.length : Int)))) rfl rfl ?_)
 refine aa_ rfl (ac_ (v := (Value.int .i64 (0))) rfl rfl ?_)
 refine ag_ ?_
 have hk1 : x1.length ≤ 9223372036854775807 := (ee_ hu2)
 obtain ⟨o2, hrun1, h⟩ := bnd h
 refine cf_ (fun f w => ∃ out1, o2 = Sum.inl out1 ∧ Inv w S (Fr) ∧ f 0 = v0 ∧ f 1 = (Value.int .i64 (a1)) ∧ f 5 = (Value.int .i64 ((x1.length : Int))) ∧ f 17 = (Value.int .i64 ((x1.length : Int))) ∧ f.ds = []) ?_ ?_
 ·
  refine au_ ?_
  refine dl_ (I := fun (i1 : Nat) (s1 : Unit) (f : Frm) (w : World) => Inv w S (Fr) ∧ f 0 = v0 ∧ f 1 = (Value.int .i64 (a1)) ∧ f 5 = (Value.int .i64 ((x1.length : Int))) ∧ f 17 = (Value.int .i64 ((x1.length : Int))) ∧ f 18 = (Value.int .i64 (i1 : Int)) ∧ f.ds = []) hrun1 ⟨hI, rfl, rfl, rfl, rfl, rfl, rfl⟩ ?_ ?_
  ·
   rintro i1 s1 f w o1 hlt1 hI1 h1 hout1
   obtain ⟨I5, e13, e14, e15, e16, e17, ed3⟩ := hI1
   refine ad_ ?_
   refine ab_ ?_
   refine aa_ rfl (bn_ (a := (i1 : Int)) (b := (x1.length : Int)) rfl e17 e16 ?_)
   refine ag_ ?_
   refine ad_ ?_
   refine an_ (b := decide ((i1 : Int) < (x1.length : Int))) rfl (eu_ hlt1) ?_
   refine ar_ ?_
   refine ad_ ?_
   refine au_ ?_
   refine ad_ ?_
   refine ab_ ?_
   refine aa_ rfl (ac_ (v := (Value.int .i64 ((i1 : Int)))) rfl e17 ?_)
   refine aa_ rfl (ae_ (v := (Value.int .i64 ((i1 : Int)))) rfl rfl ?_)
   refine ag_ ?_
   refine ad_ ?_
   refine ab_ ?_
   refine aa_ rfl (ac_ (v := v0) rfl e13 ?_)
   refine aa_ rfl (bx_ (v := v0) rfl rfl h0_ ?_)
   refine aa_ rfl (aj_ (v := v0) rfl np_ rfl (h0_.at_ I5) ?_)
   refine aa_ rfl (aj_ (v := (am_ v0 2)) rfl nq_ rfl ((h0_.at_ I5).fld Search_player.fld1) ?_)
   refine aa_ rfl (av_ (v := (am_ (am_ v0 2) 1)) (e := a0.Mind.Turn) rfl sh3 rfl (((h0_.at_ I5).fld Search_player.fld1).fld Mind.fld1) ?_)
   refine aa_ rfl (ac_ (v := (Value.int .i64 ((x1.length : Int)))) rfl e15 ?_)
   obtain ⟨x8, hx8, h1⟩ := bnd h1
   refine aa_ rfl (ln_ (a := a0.Mind.Turn) (b := (x1.length : Int)) rfl rfl rfl hx8 ?_)
   refine aa_ rfl (ac_ (v := (Value.int .i64 ((i1 : Int)))) rfl rfl ?_)
   refine aa_ rfl (bs_ (a := x8) (b := (i1 : Int)) rfl rfl rfl ?_)
   refine aa_ rfl (ac_ (v := (Value.int .i64 ((x1.length : Int)))) rfl e15 ?_)
   obtain ⟨x9, hx9, h1⟩ := bnd h1
   refine aa_ rfl (ln_ (a := w64 (x8 + (i1 : Int))) (b := (x1.length : Int)) rfl rfl rfl hx9 ?_)
   refine aa_ rfl (ae_ (v := (Value.int .i64 (x9))) rfl rfl ?_)
   refine ag_ ?_
   refine ad_ ?_
   refine ab_ ?_
   refine aa_ rfl (ac_ (v := v0) rfl e13 ?_)
   refine aa_ rfl (ac_ (v := (Value.int .i64 (a1))) rfl e14 ?_)
   refine aa_ rfl (ac_ (v := (Value.int .i64 (x9))) rfl rfl ?_)
   obtain ⟨x10, hx10, h1⟩ := bnd h1
   refine aa_ rfl (bl_ (vs := [v0, (Value.int .i64 (a1)), (Value.int .i64 (x9))]) (r := (Value.bool (x10))) rfl ca86 rfl (gl_ rfl rfl rfl) I5 (fun Fr_ hF_ => nu_ hF_ h0_ hx10) (fun w3 I6 => ?_))
   refine aa_ rfl (dm_ (b := x10) rfl rfl ?_)
   refine ag_ ?_
   rcases ifs h1 with ⟨hc3, h1⟩ | ⟨hc3, h1⟩
   ·
    refine an_ (b := !x10) rfl hc3 ?_
    refine ad_ ?_
    refine ab_ ?_
    refine aa_ rfl (ac_ (v := (Value.int .i64 (x9))) rfl rfl ?_)
    refine aa_ rfl (ae_ (v := (Value.int .i64 (x9))) rfl rfl ?_)
    refine ag_ ?_
    refine aw_ ?_
    obtain rfl := Option.some.inj h1
    obtain rfl := (hout1 _ rfl)
    have h2 := h
    obtain rfl := Option.some.inj h2
    exact ⟨ed3, (Value.int .i64 (x9)), (cx_ rfl rfl), _, [], (PH.Le.refl _), I6, rfl, rfl⟩
   ·
    refine ap_ (b := !x10) rfl hc3 ?_
    refine ar_ ?_
    refine ab_ ?_
    refine aa_ rfl (bs_ (a := (i1 : Int)) (b := 1) rfl e17 rfl ?_)
    refine aa_ rfl (ac_ (v := (Value.int .i64 (w64 ((i1 : Int) + 1)))) rfl rfl ?_)
    refine ag_ ?_
    obtain rfl := Option.some.inj h1
    exact ⟨_, rfl, I6, e13, e14, e15, e16, (ca_ hlt1 hk1), ed3⟩
  ·
   rintro s2 f w hs1 hI2
   obtain ⟨I7, e18, e19, e20, e21, e22, ed4⟩ := hI2
   refine ad_ ?_
   refine ab_ ?_
   refine aa_ rfl (bn_ (a := (x1.length : Int)) (b := (x1.length : Int)) rfl e22 e21 ?_)
   refine ag_ ?_
   refine ad_ ?_
   refine ap_ (b := decide ((x1.length : Int) < (x1.length : Int))) rfl (ev_ _) ?_
   refine bm_ ?_
   exact ⟨s2, hs1, I7, e18, e19, e20, e21, ed4⟩
 ·
  rintro f w ⟨out1, rfl, I8, e23, e24, e25, e26, ed5⟩
  have h := cy_ h
  refine ad_ ?_
  refine ab_ ?_
  refine aa_ rfl (ae_ (v := (Value.int .i64 ((-1)))) rfl rfl ?_)
  refine ag_ ?_
  refine aw_ ?_
  obtain rfl := Option.some.inj h
  exact ⟨ed5, (Value.int .i64 ((-1))), (cx_ rfl rfl), _, [], (PH.Le.refl _), I8, rfl, rfl⟩
end Go.Proofs.Ytogfongmnkmegaa.Pad
