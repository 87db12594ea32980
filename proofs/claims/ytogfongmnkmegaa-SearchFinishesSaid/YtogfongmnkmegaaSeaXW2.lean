/- A part of the proof: what the functions of the program compute, shown over the model. -/
import Derived.Test.YtogfongmnkmegaaSeaXN
import Derived.Test.YtogfongmnkmegaaSeaXW1
import Derived.KernelRfl
set_option linter.unusedVariables false
namespace Go.Proofs.Ytogfongmnkmegaa.Pad
open Go Go.Proofs
set_option maxHeartbeats 4000000 in
set_option maxRecDepth 100000 in
theorem F81_ok {w : World} {S : PH} {Fr : List HP} {a0 : Search_player} {v0 : Value} {r : Int} (hI : Inv w S (Fr)) (h0_ : PtS S v0 a0) (h : F81 a0 = some r) :
    Calls Try.prog 81 [v0].toArray w (dd_ S Fr (Value.int .i64 (r))) := by
 unfold F81 at h
 refine bd_ (n := 146) (vs := [v0]) Try.func81 rfl rfl rfl ?_
 refine ad_ ?_
 refine ab_ ?_
 refine aa_ rfl (ae_ (v := (Value.int .i64 (0))) rfl rfl ?_)
 refine ag_ ?_
 refine ad_ ?_
 refine ab_ ?_
 refine aa_ rfl (km_ (K := Int) (V := Search_way) rfl hI (fun g1 w1 I1 => ?_))
 refine aa_ rfl (ac_ (v := v0) rfl rfl ?_)
 refine aa_ rfl (bx_ (v := v0) rfl rfl h0_ ?_)
 refine aa_ rfl (aj_ (v := v0) rfl ej_ rfl (h0_.at_ I1) ?_)
 refine aa_ rfl (av_ (v := (am_ v0 4)) (e := a0.at_) rfl sh3 rfl ((h0_.at_ I1).fld Search_player.fld2) ?_)
 refine aa_ rfl (cw_ (qs := [(0, #[(Value.int .i64 (0))]), (1, #[(Value.int .i64 ((-1)))])]) (c := #[(Value.int .i64 (0)), (Value.int .i64 ((-1)))]) rfl st109 ⟨rfl, rfl, ⟨rfl, rfl, trivial⟩⟩ rfl ?_)
 refine aa_ rfl (lq_ (k := a0.at_) (e := (⟨0, (-1)⟩ : Search_way)) Try.underlying110 kt3 rfl rfl rfl I1 (cb_ _) (Search_way.rv (s := (⟨0, (-1)⟩ : Search_way))) (fun w2 I2 => ?_))
 refine aa_ rfl (ac_ (v := (Value.map (some g1))) rfl rfl ?_)
 refine aa_ rfl (ae_ (v := (Value.map (some g1))) rfl rfl ?_)
 refine ag_ ?_
 refine ad_ ?_
 refine ad_ ?_
 refine ab_ ?_
 refine aa_ rfl (ac_ (v := v0) rfl rfl ?_)
 refine aa_ rfl (bx_ (v := v0) rfl rfl h0_ ?_)
 refine aa_ rfl (aj_ (v := v0) rfl ej_ rfl (h0_.at_ I2) ?_)
 refine aa_ rfl (av_ (v := (am_ v0 4)) (e := a0.at_) rfl sh3 rfl ((h0_.at_ I2).fld Search_player.fld2) ?_)
 refine aa_ rfl (br_ (vs := [(Value.int .i64 (a0.at_))]) (r := ([a0.at_] : List Int)) rfl Try.underlying26 el3 (gd_ rfl) rfl (by decide) (by decide) ⟨(cb_ _), trivial⟩ I2 (fun u1 w3 I3 => ?_))
 obtain ⟨z1, m1, k1, e1⟩ := bt_ I3
 subst e1
 refine aa_ rfl (ae_ (v := (Value.slice z1 m1 k1)) rfl rfl ?_)
 refine ag_ ?_
 obtain ⟨out7, hrun7, h⟩ := bnd h
 refine cf_ (fun f w => ∃ (z175 : Option Addr) (m175 k175 : Nat), Inv w S (fc_ (K := Int) (V := Search_way) g1 (out7.1) :: Row (α := Int) 3 (Value.slice z175 m175 k175) (out7.2) :: Fr) ∧ f 0 = v0 ∧ f 3 = (Value.map (some g1)) ∧ f 4 = (Value.slice z175 m175 k175) ∧ f.ds = []) ?_ ?_
 ·
  refine au_ ?_
  refine co_ (I := fun (s7 : (List (Int × Search_way) × List Int)) (f : Frm) (w : World) => ∃ (z174 : Option Addr) (m174 k174 : Nat), Inv w S (fc_ (K := Int) (V := Search_way) g1 (s7.1) :: Row (α := Int) 3 (Value.slice z174 m174 k174) (s7.2) :: Fr) ∧ f 0 = v0 ∧ f 3 = (Value.map (some g1)) ∧ f 4 = (Value.slice z174 m174 k174) ∧ f.ds = []) hrun7 ⟨_, _, _, (I3.pull 1), rfl, rfl, rfl, rfl⟩ ?_
  rintro s7 f w o7 hI13 h229 hout7
  obtain ⟨z174, m174, k174, I484, e1124, e1125, e1126, ed115⟩ := hI13
  refine ad_ ?_
  refine ad_ ?_
  refine ab_ ?_
  refine aa_ rfl (ac_ (v := (Value.slice z174 m174 k174)) rfl e1126 ?_)
  refine aa_ rfl (bu_ (α := Int) rfl Try.underlying26 rfl (I484.nth 1 rfl) ?_)
  refine aa_ rfl (dw_ (a := (s7.2.length : Int)) (b := 0) rfl rfl rfl ?_)
  refine ag_ ?_
  rcases ifs h229 with ⟨hc247, h229⟩ | ⟨hc247, h229⟩
  ·
   refine an_ (b := decide (0 < (s7.2.length : Int))) rfl hc247 ?_
   refine ar_ ?_
   refine ad_ ?_
   refine au_ ?_
   refine ad_ ?_
   refine ab_ ?_
   refine aa_ rfl (ac_ (v := (Value.slice z174 m174 k174)) rfl e1126 ?_)
   obtain ⟨x115, hx115, h229⟩ := bnd h229
   refine aa_ rfl (bh_ (v := (Value.slice z174 m174 k174)) (i := 0) (e := x115) rfl Try.underlying26 sh3 rfl (Inv.rowSrc (I484.nth 1 rfl)) rfl hx115 ?_)
   refine aa_ rfl (av_ (v := (ah_ (Value.slice z174 m174 k174) (0) (Enc.sz Int))) (e := x115) rfl sh3 rfl ((I484.nth 1 rfl).rowElem hx115) ?_)
   refine aa_ rfl (ae_ (v := (Value.int .i64 (x115))) rfl rfl ?_)
   refine ag_ ?_
   refine ad_ ?_
   refine ab_ ?_
   refine aa_ rfl (ac_ (v := v0) rfl e1124 ?_)
   refine aa_ rfl (bx_ (v := v0) rfl rfl h0_ ?_)
   refine aa_ rfl (aj_ (v := v0) rfl ka_ rfl (h0_.at_ I484) ?_)
   refine aa_ rfl (aj_ (v := (am_ v0 0)) rfl gk_ rfl ((h0_.at_ I484).fld Search_player.fld0) ?_)
   refine aa_ rfl (aq_ (v := (am_ (am_ v0 0) 0)) (e := a0.view.edges) rfl fi_ rfl (((h0_.at_ I484).fld Search_player.fld0).fld Search_view.fld0) (fun u140 hu43 => ?_))
   obtain ⟨z176, m176, k176, e1127⟩ := ak_ hu43
   subst e1127
   refine aa_ rfl (ac_ (v := (Value.int .i64 (x115))) rfl rfl ?_)
   obtain ⟨x116, hx116, h229⟩ := bnd h229
   refine aa_ rfl (ao_ (v := (Value.slice z176 m176 k176)) (i := x115) (e := x116) rfl Try.underlying23 en_ rfl hu43 rfl hx116 ?_)
   refine aa_ rfl (aq_ (v := (ah_ (Value.slice z176 m176 k176) (x115) (Enc.sz (List Edge)))) (e := x116) rfl en_ rfl (hu43.elem I484.in_ hx116) (fun u141 hu44 => ?_))
   obtain ⟨z177, m177, k177, e1128⟩ := ak_ hu44
   subst e1128
   refine aa_ rfl (bg_ rfl Try.underlying40 rfl hu44 ?_)
   refine aa_ rfl (ac_ (v := (Value.int .i64 (0))) rfl rfl ?_)
   refine ag_ ?_
   have hk7 : x116.length ≤ 9223372036854775807 := (ee_ hu44)
   obtain ⟨out8, hrun8, h229⟩ := bnd h229
   refine cf_ (fun f w => ∃ (z196 : Option Addr) (m196 k196 : Nat), Inv w S (fc_ (K := Int) (V := Search_way) g1 (out8.1) :: Row (α := Int) 3 (Value.slice z196 m196 k196) (out8.2) :: Fr) ∧ f 0 = v0 ∧ f 3 = (Value.map (some g1)) ∧ f 4 = (Value.slice z196 m196 k196) ∧ f 5 = (Value.int .i64 (x115)) ∧ f 43 = (Value.slice z177 m177 k177) ∧ f 44 = (Value.int .i64 ((x116.length : Int))) ∧ f.ds = []) ?_ ?_
   ·
    refine au_ ?_
    refine fh_ (I := fun (i7 : Nat) (s8 : (List (Int × Search_way) × List Int)) (f : Frm) (w : World) => ∃ (z195 : Option Addr) (m195 k195 : Nat), Inv w S (fc_ (K := Int) (V := Search_way) g1 (s8.1) :: Row (α := Int) 3 (Value.slice z195 m195 k195) (s8.2) :: Fr) ∧ f 0 = v0 ∧ f 3 = (Value.map (some g1)) ∧ f 4 = (Value.slice z195 m195 k195) ∧ f 5 = (Value.int .i64 (x115)) ∧ f 43 = (Value.slice z177 m177 k177) ∧ f 44 = (Value.int .i64 ((x116.length : Int))) ∧ f 45 = (Value.int .i64 (i7 : Int)) ∧ f.ds = []) hrun8 ⟨_, _, _, ((I484.pull 1).pull 1), e1124, e1125, e1126, rfl, rfl, rfl, rfl, ed115⟩ ?_ ?_
    ·
     rintro i7 s8 f w o8 hlt7 hI14 h258
     obtain ⟨z195, m195, k195, I542, e1255, e1256, e1257, e1258, e1259, e1260, e1261, ed128⟩ := hI14
     refine ad_ ?_
     refine ab_ ?_
     refine aa_ rfl (bn_ (a := (i7 : Int)) (b := (x116.length : Int)) rfl e1261 e1260 ?_)
     refine ag_ ?_
     refine ad_ ?_
     refine an_ (b := decide ((i7 : Int) < (x116.length : Int))) rfl (eu_ hlt7) ?_
     refine ar_ ?_
     refine ad_ ?_
     refine au_ ?_
     refine ad_ ?_
     refine ab_ ?_
     refine aa_ rfl (ac_ (v := (Value.int .i64 ((i7 : Int)))) rfl e1261 ?_)
     obtain ⟨x129, hx129, h258⟩ := bnd h258
     refine aa_ rfl (ao_ (v := (Value.slice z177 m177 k177)) (i := (i7 : Int)) (e := x129) rfl Try.underlying40 kw_ e1259 hu44 e1261 hx129 ?_)
     refine aa_ rfl (aq_ (v := (ah_ (Value.slice z177 m177 k177) ((i7 : Int)) (Enc.sz Edge))) (e := x129) rfl kw_ rfl (hu44.elem I542.in_ hx129) (fun u157 hu48 => ?_))
     have e1262 := Edge.inv hu48
     subst e1262
     refine aa_ rfl (cl_ (z := (Value.agg #[(Value.int .i64 (0)), (Value.int .i64 (0)), (Value.int .i64 (0)), (Value.int .i64 (0))])) rfl I542 zo44 (fun g83 w383 (I543 : Inv w383 S (ax_ g83 44 #[(Value.int .i64 (0)), (Value.int .i64 (0)), (Value.int .i64 (0)), (Value.int .i64 (0))] :: fc_ (K := Int) (V := Search_way) g1 (s8.1) :: Row (α := Int) 3 (Value.slice z195 m195 k195) (s8.2) :: Fr)) => ?_))
     refine aa_ rfl (ae_ (v := (Value.int .i64 ((i7 : Int)))) rfl rfl ?_)
     refine aa_ rfl (bo_ (v := (Value.agg #[(Value.int .i64 (x129.Move.Player)), (Value.int .i64 (x129.Move.Kind)), (Value.int .i64 (x129.Move.Number)), (Value.int .i64 (x129.To))])) (cs := #[(Value.int .i64 (0)), (Value.int .i64 (0)), (Value.int .i64 (0)), (Value.int .i64 (0))]) kw_ I543 rfl rfl rfl (Nat.le_of_ble_eq_true rfl) rfl (fun w384 (I544 : Inv w384 S (ax_ g83 44 #[(Value.int .i64 (x129.Move.Player)), (Value.int .i64 (x129.Move.Kind)), (Value.int .i64 (x129.Move.Number)), (Value.int .i64 (x129.To))] :: fc_ (K := Int) (V := Search_way) g1 (s8.1) :: Row (α := Int) 3 (Value.slice z195 m195 k195) (s8.2) :: Fr)) => ?_))
     refine ag_ ?_
     refine ad_ ?_
     refine ad_ ?_
     refine ab_ ?_
     refine aa_ rfl (ac_ (v := v0) rfl e1255 ?_)
     refine aa_ rfl (ac_ (v := (Value.int .i64 (x115))) rfl e1258 ?_)
     refine aa_ rfl (ac_ (v := (Value.int .i64 ((i7 : Int)))) rfl rfl ?_)
     obtain ⟨x130, hx130, h258⟩ := bnd h258
     refine aa_ rfl (bl_ (vs := [v0, (Value.int .i64 (x115)), (Value.int .i64 ((i7 : Int)))]) (r := (Value.bool (x130))) rfl ca86 rfl (gl_ rfl rfl rfl) I544 (fun Fr_ hF_ => nu_ hF_ h0_ hx130) (fun w385 I545 => ?_))
     refine aa_ rfl (dm_ (b := x130) rfl rfl ?_)
     refine ag_ ?_
     rcases ifs h258 with ⟨hc278, h258⟩ | ⟨hc278, h258⟩
     ·
      refine an_ (b := !x130) rfl hc278 ?_
      refine bm_ ?_
      refine ab_ ?_
      refine aa_ rfl (bs_ (a := (i7 : Int)) (b := 1) rfl e1261 rfl ?_)
      refine aa_ rfl (ac_ (v := (Value.int .i64 (w64 ((i7 : Int) + 1)))) rfl rfl ?_)
      refine ag_ ?_
      obtain rfl := Option.some.inj h258
      exact ⟨_, _, _, (((I545).drop.pull 1).pull 1), e1255, e1256, e1257, e1258, e1259, e1260, (ca_ hlt7 hk7), ed128⟩
     ·
      refine ap_ (b := !x130) rfl hc278 ?_
      refine ar_ ?_
      refine ad_ ?_
      refine ab_ ?_
      refine aa_ rfl (ac_ (v := (Value.map (some g1))) rfl e1256 ?_)
      refine aa_ rfl (ac_ (v := (Value.int .i64 (x115))) rfl e1258 ?_)
      refine aa_ rfl (ik_ (k := x115) (zd := (⟨0, 0⟩ : Search_way)) rfl Try.underlying110 kt3 jb_ (fun _ => (Search_way.rv (s := (⟨0, 0⟩ : Search_way)))) rfl rfl (I545.pull 1) (cb_ _) (fun q82 hq82 => ?_))
      obtain rfl := Search_way.inv hq82
      have I546 := (I545.pull 1)
      refine aa_ rfl (jt_ (v := (Value.int .i64 ((bf_ (⟨0, 0⟩ : Search_way) s8.1 x115).steps))) (cs := #[(Value.int .i64 ((bf_ (⟨0, 0⟩ : Search_way) s8.1 x115).steps)), (Value.int .i64 ((bf_ (⟨0, 0⟩ : Search_way) s8.1 x115).edge))]) rfl (fun w => by kernel_rfl) rfl ?_)
      refine aa_ rfl (bs_ (a := (bf_ (⟨0, 0⟩ : Search_way) s8.1 x115).steps) (b := 1) rfl rfl rfl ?_)
      refine aa_ rfl (ac_ (v := (Value.map (some g1))) rfl e1256 ?_)
      refine aa_ rfl (ac_ (v := (Value.int .i64 (x115))) rfl e1258 ?_)
      refine aa_ rfl (ik_ (k := x115) (zd := (⟨0, 0⟩ : Search_way)) rfl Try.underlying110 kt3 jb_ (fun _ => (Search_way.rv (s := (⟨0, 0⟩ : Search_way)))) rfl rfl I546 (cb_ _) (fun q83 hq83 => ?_))
      obtain rfl := Search_way.inv hq83
      refine aa_ rfl (jt_ (v := (Value.int .i64 ((bf_ (⟨0, 0⟩ : Search_way) s8.1 x115).edge))) (cs := #[(Value.int .i64 ((bf_ (⟨0, 0⟩ : Search_way) s8.1 x115).steps)), (Value.int .i64 ((bf_ (⟨0, 0⟩ : Search_way) s8.1 x115).edge))]) rfl (fun w => by kernel_rfl) rfl ?_)
      refine aa_ rfl (cw_ (qs := [(0, #[(Value.int .i64 (w64 (((bf_ (⟨0, 0⟩ : Search_way) s8.1 x115).steps) + 1)))]), (1, #[(Value.int .i64 ((bf_ (⟨0, 0⟩ : Search_way) s8.1 x115).edge))])]) (c := #[(Value.int .i64 (w64 (((bf_ (⟨0, 0⟩ : Search_way) s8.1 x115).steps) + 1))), (Value.int .i64 ((bf_ (⟨0, 0⟩ : Search_way) s8.1 x115).edge))]) rfl st109 ⟨rfl, rfl, ⟨rfl, rfl, trivial⟩⟩ rfl ?_)
      refine aa_ rfl (cl_ (z := (Value.agg #[(Value.int .i64 (0)), (Value.int .i64 (0))])) rfl I546 jb_ (fun g84 w386 (I547 : Inv w386 S (ax_ g84 109 #[(Value.int .i64 (0)), (Value.int .i64 (0))] :: fc_ (K := Int) (V := Search_way) g1 (s8.1) :: ax_ g83 44 #[(Value.int .i64 (x129.Move.Player)), (Value.int .i64 (x129.Move.Kind)), (Value.int .i64 (x129.Move.Number)), (Value.int .i64 (x129.To))] :: Row (α := Int) 3 (Value.slice z195 m195 k195) (s8.2) :: Fr)) => ?_))
      refine aa_ rfl (bo_ (v := (Value.agg #[(Value.int .i64 (w64 (((bf_ (⟨0, 0⟩ : Search_way) s8.1 x115).steps) + 1))), (Value.int .i64 ((bf_ (⟨0, 0⟩ : Search_way) s8.1 x115).edge))])) (cs := #[(Value.int .i64 (0)), (Value.int .i64 (0))]) ml_ I547 rfl rfl rfl (Nat.le_of_ble_eq_true rfl) rfl (fun w387 (I548 : Inv w387 S (ax_ g84 109 #[(Value.int .i64 (w64 (((bf_ (⟨0, 0⟩ : Search_way) s8.1 x115).steps) + 1))), (Value.int .i64 ((bf_ (⟨0, 0⟩ : Search_way) s8.1 x115).edge))] :: fc_ (K := Int) (V := Search_way) g1 (s8.1) :: ax_ g83 44 #[(Value.int .i64 (x129.Move.Player)), (Value.int .i64 (x129.Move.Kind)), (Value.int .i64 (x129.Move.Number)), (Value.int .i64 (x129.To))] :: Row (α := Int) 3 (Value.slice z195 m195 k195) (s8.2) :: Fr)) => ?_))
      refine ag_ ?_
      obtain ⟨v82, h261, h258⟩ := bnd h258
      refine eo_ (fun f w => Inv w S (fc_ (K := Int) (V := Search_way) g1 (s8.1) :: Row (α := Int) 3 (Value.slice z195 m195 k195) (s8.2) :: ax_ g83 44 #[(Value.int .i64 (x129.Move.Player)), (Value.int .i64 (x129.Move.Kind)), (Value.int .i64 (x129.Move.Number)), (Value.int .i64 (x129.To))] :: ax_ g84 109 #[(Value.int .i64 (w64 (((bf_ (⟨0, 0⟩ : Search_way) s8.1 x115).steps) + 1))), (Value.int .i64 (v82))] :: Fr) ∧ f 0 = v0 ∧ f 3 = (Value.map (some g1)) ∧ f 4 = (Value.slice z195 m195 k195) ∧ f 5 = (Value.int .i64 (x115)) ∧ f 7 = (Value.pointer (some ⟨g83, 0, none⟩)) ∧ f 8 = (Value.pointer (some ⟨g84, 0, none⟩)) ∧ f 43 = (Value.slice z177 m177 k177) ∧ f 44 = (Value.int .i64 ((x116.length : Int))) ∧ f 45 = (Value.int .i64 ((i7 : Int))) ∧ f.ds = []) ?_ ?_
      ·
       refine ad_ ?_
       refine ab_ ?_
       refine aa_ rfl (ac_ (v := (Value.int .i64 (x115))) rfl e1258 ?_)
       refine aa_ rfl (ac_ (v := v0) rfl e1255 ?_)
       refine aa_ rfl (bx_ (v := v0) rfl rfl h0_ ?_)
       refine aa_ rfl (aj_ (v := v0) rfl ej_ rfl (h0_.at_ I548) ?_)
       refine aa_ rfl (av_ (v := (am_ v0 4)) (e := a0.at_) rfl sh3 rfl ((h0_.at_ I548).fld Search_player.fld2) ?_)
       refine aa_ rfl (es_ (a := x115) (b := a0.at_) rfl rfl rfl ?_)
       refine ag_ ?_
       rcases ifs h261 with ⟨hc280, h261⟩ | ⟨hc280, h261⟩
       ·
        refine an_ (b := x115 == a0.at_) rfl hc280 ?_
        refine ab_ ?_
        refine aa_ rfl (ac_ (v := (Value.int .i64 ((i7 : Int)))) rfl rfl ?_)
        refine aa_ rfl (az_ (v := (Value.pointer (some ⟨g84, 0, none⟩))) rfl hv_ rfl rfl ?_)
        refine aa_ rfl (bo_ (v := (Value.int .i64 ((i7 : Int)))) (cs := #[(Value.int .i64 (w64 (((bf_ (⟨0, 0⟩ : Search_way) s8.1 x115).steps) + 1))), (Value.int .i64 ((bf_ (⟨0, 0⟩ : Search_way) s8.1 x115).edge))]) sh3 I548 rfl rfl rfl (Nat.le_of_ble_eq_true rfl) rfl (fun w389 (I550 : Inv w389 S (ax_ g84 109 #[(Value.int .i64 (w64 (((bf_ (⟨0, 0⟩ : Search_way) s8.1 x115).steps) + 1))), (Value.int .i64 ((i7 : Int)))] :: fc_ (K := Int) (V := Search_way) g1 (s8.1) :: ax_ g83 44 #[(Value.int .i64 (x129.Move.Player)), (Value.int .i64 (x129.Move.Kind)), (Value.int .i64 (x129.Move.Number)), (Value.int .i64 (x129.To))] :: Row (α := Int) 3 (Value.slice z195 m195 k195) (s8.2) :: Fr)) => ?_))
        refine ag_ ?_
        obtain rfl := Option.some.inj h261
        exact ⟨(((I550.pull 2).pull 3).pull 3), e1255, e1256, e1257, e1258, rfl, rfl, e1259, e1260, e1261, ed128⟩
       ·
        refine ap_ (b := x115 == a0.at_) rfl hc280 ?_
        refine ar_ ?_
        obtain rfl := Option.some.inj h261
        exact ⟨(((I548.pull 2).pull 3).pull 3), e1255, e1256, e1257, e1258, rfl, rfl, e1259, e1260, e1261, ed128⟩
      ·
       rintro f w ⟨I551, e1263, e1264, e1265, e1266, e1267, e1268, e1269, e1270, e1271, ed129⟩
       refine ad_ ?_
       refine ab_ ?_
       refine aa_ rfl (ac_ (v := (Value.map (some g1))) rfl e1264 ?_)
       refine aa_ rfl (az_ (v := (Value.pointer (some ⟨g83, 0, none⟩))) rfl ft_ e1267 rfl ?_)
       refine aa_ rfl (bz_ (c := (Value.int .i64 (x129.To))) rfl sh3 (I551.nth 2 rfl) rfl rfl ?_)
       refine aa_ rfl (ge_ (k := x129.To) (zd := (⟨0, 0⟩ : Search_way)) rfl Try.underlying110 kt3 jb_ (fun _ => (Search_way.rv (s := (⟨0, 0⟩ : Search_way)))) rfl rfl I551 (cb_ _) (fun q84 hq84 => ?_))
       obtain rfl := Search_way.inv hq84
       refine aa_ rfl (ac_ (v := (Value.tuple #[(Value.agg #[(Value.int .i64 ((bf_ (⟨0, 0⟩ : Search_way) s8.1 x129.To).steps)), (Value.int .i64 ((bf_ (⟨0, 0⟩ : Search_way) s8.1 x129.To).edge))]), (Value.bool (cv_ s8.1 x129.To))])) rfl rfl ?_)
       refine aa_ rfl (bk_ (v := (Value.agg #[(Value.int .i64 ((bf_ (⟨0, 0⟩ : Search_way) s8.1 x129.To).steps)), (Value.int .i64 ((bf_ (⟨0, 0⟩ : Search_way) s8.1 x129.To).edge))])) rfl rfl rfl ?_)
       refine aa_ rfl (bk_ (v := (Value.bool (cv_ s8.1 x129.To))) rfl rfl rfl ?_)
       refine aa_ rfl (cl_ (z := (Value.agg #[(Value.int .i64 (0)), (Value.int .i64 (0))])) rfl I551 jb_ (fun g85 w390 (I552 : Inv w390 S (ax_ g85 109 #[(Value.int .i64 (0)), (Value.int .i64 (0))] :: fc_ (K := Int) (V := Search_way) g1 (s8.1) :: Row (α := Int) 3 (Value.slice z195 m195 k195) (s8.2) :: ax_ g83 44 #[(Value.int .i64 (x129.Move.Player)), (Value.int .i64 (x129.Move.Kind)), (Value.int .i64 (x129.Move.Number)), (Value.int .i64 (x129.To))] :: ax_ g84 109 #[(Value.int .i64 (w64 (((bf_ (⟨0, 0⟩ : Search_way) s8.1 x115).steps) + 1))), (Value.int .i64 (v82))] :: Fr)) => ?_))
       refine aa_ rfl (bo_ (v := (Value.agg #[(Value.int .i64 ((bf_ (⟨0, 0⟩ : Search_way) s8.1 x129.To).steps)), (Value.int .i64 ((bf_ (⟨0, 0⟩ : Search_way) s8.1 x129.To).edge))])) (cs := #[(Value.int .i64 (0)), (Value.int .i64 (0))]) ml_ I552 rfl rfl rfl (Nat.le_of_ble_eq_true rfl) rfl (fun w391 (I553 : Inv w391 S (ax_ g85 109 #[(Value.int .i64 ((bf_ (⟨0, 0⟩ : Search_way) s8.1 x129.To).steps)), (Value.int .i64 ((bf_ (⟨0, 0⟩ : Search_way) s8.1 x129.To).edge))] :: fc_ (K := Int) (V := Search_way) g1 (s8.1) :: Row (α := Int) 3 (Value.slice z195 m195 k195) (s8.2) :: ax_ g83 44 #[(Value.int .i64 (x129.Move.Player)), (Value.int .i64 (x129.Move.Kind)), (Value.int .i64 (x129.Move.Number)), (Value.int .i64 (x129.To))] :: ax_ g84 109 #[(Value.int .i64 (w64 (((bf_ (⟨0, 0⟩ : Search_way) s8.1 x115).steps) + 1))), (Value.int .i64 (v82))] :: Fr)) => ?_))
       refine aa_ rfl (ae_ (v := (Value.bool (cv_ s8.1 x129.To))) rfl rfl ?_)
       refine ag_ ?_
       obtain ⟨v83, h264, h258⟩ := bnd h258
       refine eo_ (fun f w => ∃ (z199 : Option Addr) (m199 k199 : Nat), Inv w S (fc_ (K := Int) (V := Search_way) g1 (s8.1) :: Row (α := Int) 3 (Value.slice z199 m199 k199) (v83) :: ax_ g83 44 #[(Value.int .i64 (x129.Move.Player)), (Value.int .i64 (x129.Move.Kind)), (Value.int .i64 (x129.Move.Number)), (Value.int .i64 (x129.To))] :: ax_ g84 109 #[(Value.int .i64 (w64 (((bf_ (⟨0, 0⟩ : Search_way) s8.1 x115).steps) + 1))), (Value.int .i64 (v82))] :: ax_ g85 109 #[(Value.int .i64 ((bf_ (⟨0, 0⟩ : Search_way) s8.1 x129.To).steps)), (Value.int .i64 ((bf_ (⟨0, 0⟩ : Search_way) s8.1 x129.To).edge))] :: Fr) ∧ f 0 = v0 ∧ f 3 = (Value.map (some g1)) ∧ f 4 = (Value.slice z199 m199 k199) ∧ f 5 = (Value.int .i64 (x115)) ∧ f 7 = (Value.pointer (some ⟨g83, 0, none⟩)) ∧ f 8 = (Value.pointer (some ⟨g84, 0, none⟩)) ∧ f 9 = (Value.pointer (some ⟨g85, 0, none⟩)) ∧ f 10 = (Value.bool (cv_ s8.1 x129.To)) ∧ f 43 = (Value.slice z177 m177 k177) ∧ f 44 = (Value.int .i64 ((x116.length : Int))) ∧ f 45 = (Value.int .i64 ((i7 : Int))) ∧ f.ds = []) ?_ ?_
       ·
        refine ad_ ?_
        refine ab_ ?_
        refine aa_ rfl (ac_ (v := (Value.bool (cv_ s8.1 x129.To))) rfl rfl ?_)
        refine aa_ rfl (dm_ (b := cv_ s8.1 x129.To) rfl rfl ?_)
        refine ag_ ?_
        rcases ifs h264 with ⟨hc282, h264⟩ | ⟨hc282, h264⟩
        ·
         refine an_ (b := !(cv_ s8.1 x129.To)) rfl hc282 ?_
         refine ab_ ?_
         refine aa_ rfl (ac_ (v := (Value.slice z195 m195 k195)) rfl e1265 ?_)
         refine aa_ rfl (az_ (v := (Value.pointer (some ⟨g83, 0, none⟩))) rfl ft_ e1267 rfl ?_)
         refine aa_ rfl (bz_ (c := (Value.int .i64 (x129.To))) rfl sh3 (I553.nth 3 rfl) rfl rfl ?_)
         refine aa_ rfl (br_ (vs := [(Value.int .i64 (x129.To))]) (r := ([x129.To] : List Int)) rfl Try.underlying26 el3 (gd_ rfl) rfl (by decide) (by decide) ⟨(cb_ _), trivial⟩ I553 (fun u160 w394 I556 => ?_))
         obtain ⟨z200, m200, k200, e1274⟩ := bt_ I556
         subst e1274
         obtain ⟨x132, hx132, h264⟩ := bnd h264
         refine aa_ rfl (ef_ (α := Int) (v := (Value.slice z195 m195 k195)) (u := (Value.slice z200 m200 k200)) rfl rfl Try.underlying26 el3 (by decide) (by decide) rfl rfl (I556.pull 3) (Inv.rowSrc (I556.nth 0 rfl)) hx132 (fun u161 w395 I557 => ?_))
         obtain ⟨z201, m201, k201, e1275⟩ := bt_ I557
         subst e1275
         refine aa_ rfl (ae_ (v := (Value.slice z201 m201 k201)) rfl rfl ?_)
         refine ag_ ?_
         obtain rfl := Option.some.inj h264
         exact ⟨_, _, _, ((((((I557.pull 1).drop.pull 1).pull 4).pull 4).pull 3).pull 4), e1263, e1264, rfl, e1266, e1267, e1268, rfl, rfl, e1269, e1270, e1271, ed129⟩
        ·
         refine ap_ (b := !(cv_ s8.1 x129.To)) rfl hc282 ?_
         refine ar_ ?_
         obtain rfl := Option.some.inj h264
         exact ⟨_, _, _, ((((I553.pull 4).pull 4).pull 4).pull 4), e1263, e1264, e1265, e1266, e1267, e1268, rfl, rfl, e1269, e1270, e1271, ed129⟩
       ·
        rintro f w ⟨z199, m199, k199, I558, e1276, e1277, e1278, e1279, e1280, e1281, e1282, e1283, e1284, e1285, e1286, ed130⟩
        obtain ⟨v84, h267, h258⟩ := bnd h258
        refine eo_ (fun f w => Inv w S (fc_ (K := Int) (V := Search_way) g1 (s8.1) :: Row (α := Int) 3 (Value.slice z199 m199 k199) (v83) :: ax_ g83 44 #[(Value.int .i64 (x129.Move.Player)), (Value.int .i64 (x129.Move.Kind)), (Value.int .i64 (x129.Move.Number)), (Value.int .i64 (x129.To))] :: ax_ g84 109 #[(Value.int .i64 (w64 (((bf_ (⟨0, 0⟩ : Search_way) s8.1 x115).steps) + 1))), (Value.int .i64 (v82))] :: Fr) ∧ f 0 = v0 ∧ f 3 = (Value.map (some g1)) ∧ f 4 = (Value.slice z199 m199 k199) ∧ f 5 = (Value.int .i64 (x115)) ∧ f 7 = (Value.pointer (some ⟨g83, 0, none⟩)) ∧ f 8 = (Value.pointer (some ⟨g84, 0, none⟩)) ∧ f 43 = (Value.slice z177 m177 k177) ∧ f 44 = (Value.int .i64 ((x116.length : Int))) ∧ f 45 = (Value.int .i64 ((i7 : Int))) ∧ f 102 = (Value.bool (v84)) ∧ f.ds = []) ?_ ?_
        ·
         refine ab_ ?_
         refine aa_ rfl (ac_ (v := (Value.bool (cv_ s8.1 x129.To))) rfl e1283 ?_)
         refine aa_ rfl (dm_ (b := cv_ s8.1 x129.To) rfl rfl ?_)
         refine aa_ rfl (ac_ (v := (Value.bool (!(cv_ s8.1 x129.To)))) rfl rfl ?_)
         rcases ifs h267 with ⟨hc285, h267⟩ | ⟨hc285, h267⟩
         ·
          refine ai_ (c := !(cv_ s8.1 x129.To)) rfl rfl rfl rfl hc285 rfl ?_
          refine ai_ (c := !(cv_ s8.1 x129.To)) rfl rfl rfl rfl hc285 rfl ?_
          refine ai_ (c := !(cv_ s8.1 x129.To)) rfl rfl rfl rfl hc285 rfl ?_
          refine ai_ (c := !(cv_ s8.1 x129.To)) rfl rfl rfl rfl hc285 rfl ?_
          refine ai_ (c := !(cv_ s8.1 x129.To)) rfl rfl rfl rfl hc285 rfl ?_
          refine ai_ (c := !(cv_ s8.1 x129.To)) rfl rfl rfl rfl hc285 rfl ?_
          refine cc_ rfl rfl rfl rfl rfl ?_
          refine cc_ rfl rfl rfl rfl rfl ?_
          refine cc_ rfl rfl rfl rfl rfl ?_
          refine cc_ rfl rfl rfl rfl rfl ?_
          refine cc_ rfl rfl rfl rfl rfl ?_
          refine ai_ (c := !(cv_ s8.1 x129.To)) rfl rfl rfl rfl hc285 rfl ?_
          refine aa_ rfl (bb_ (c := !(cv_ s8.1 x129.To)) (a := (Value.bool (true))) rfl rfl hc285 rfl ?_)
          refine ag_ ?_
          obtain rfl := Option.some.inj h267
          exact ⟨(((((I558.pull 4).drop.pull 3).pull 3).pull 3).pull 3), e1276, e1277, e1278, e1279, e1280, e1281, e1284, e1285, e1286, rfl, ed130⟩
         ·
          refine al_ (c := !(cv_ s8.1 x129.To)) rfl rfl rfl rfl hc285 (az_ (v := (Value.pointer (some ⟨g85, 0, none⟩))) rfl hw_ e1282 rfl ?_)
          refine al_ (c := !(cv_ s8.1 x129.To)) rfl rfl rfl rfl hc285 (bz_ (c := (Value.int .i64 ((bf_ (⟨0, 0⟩ : Search_way) s8.1 x129.To).steps))) rfl sh3 (I558.nth 4 rfl) rfl rfl ?_)
          refine al_ (c := !(cv_ s8.1 x129.To)) rfl rfl rfl rfl hc285 (az_ (v := (Value.pointer (some ⟨g84, 0, none⟩))) rfl hw_ e1281 rfl ?_)
          refine al_ (c := !(cv_ s8.1 x129.To)) rfl rfl rfl rfl hc285 (bz_ (c := (Value.int .i64 (w64 (((bf_ (⟨0, 0⟩ : Search_way) s8.1 x115).steps) + 1)))) rfl sh3 (I558.nth 3 rfl) rfl rfl ?_)
          refine al_ (c := !(cv_ s8.1 x129.To)) rfl rfl rfl rfl hc285 (es_ (a := (bf_ (⟨0, 0⟩ : Search_way) s8.1 x129.To).steps) (b := w64 (((bf_ (⟨0, 0⟩ : Search_way) s8.1 x115).steps) + 1)) rfl rfl rfl ?_)
          refine al_ (c := !(cv_ s8.1 x129.To)) rfl rfl rfl rfl hc285 (ac_ (v := (Value.bool (((bf_ (⟨0, 0⟩ : Search_way) s8.1 x129.To).steps) == (w64 (((bf_ (⟨0, 0⟩ : Search_way) s8.1 x115).steps) + 1))))) rfl rfl ?_)
          rcases ifs h267 with ⟨hc286, h267⟩ | ⟨hc286, h267⟩
          ·
           refine al_ (c := ((bf_ (⟨0, 0⟩ : Search_way) s8.1 x129.To).steps) == (w64 (((bf_ (⟨0, 0⟩ : Search_way) s8.1 x115).steps) + 1))) rfl rfl rfl rfl hc286 (az_ (v := (Value.pointer (some ⟨g84, 0, none⟩))) rfl hv_ e1281 rfl ?_)
           refine al_ (c := ((bf_ (⟨0, 0⟩ : Search_way) s8.1 x129.To).steps) == (w64 (((bf_ (⟨0, 0⟩ : Search_way) s8.1 x115).steps) + 1))) rfl rfl rfl rfl hc286 (bz_ (c := (Value.int .i64 (v82))) rfl sh3 (I558.nth 3 rfl) rfl rfl ?_)
           refine al_ (c := ((bf_ (⟨0, 0⟩ : Search_way) s8.1 x129.To).steps) == (w64 (((bf_ (⟨0, 0⟩ : Search_way) s8.1 x115).steps) + 1))) rfl rfl rfl rfl hc286 (az_ (v := (Value.pointer (some ⟨g85, 0, none⟩))) rfl hv_ e1282 rfl ?_)
           refine al_ (c := ((bf_ (⟨0, 0⟩ : Search_way) s8.1 x129.To).steps) == (w64 (((bf_ (⟨0, 0⟩ : Search_way) s8.1 x115).steps) + 1))) rfl rfl rfl rfl hc286 (bz_ (c := (Value.int .i64 ((bf_ (⟨0, 0⟩ : Search_way) s8.1 x129.To).edge))) rfl sh3 (I558.nth 4 rfl) rfl rfl ?_)
           refine al_ (c := ((bf_ (⟨0, 0⟩ : Search_way) s8.1 x129.To).steps) == (w64 (((bf_ (⟨0, 0⟩ : Search_way) s8.1 x115).steps) + 1))) rfl rfl rfl rfl hc286 (bn_ (a := v82) (b := (bf_ (⟨0, 0⟩ : Search_way) s8.1 x129.To).edge) rfl rfl rfl ?_)
           refine al_ (c := !(cv_ s8.1 x129.To)) rfl rfl rfl rfl hc285 (bb_ (c := ((bf_ (⟨0, 0⟩ : Search_way) s8.1 x129.To).steps) == (w64 (((bf_ (⟨0, 0⟩ : Search_way) s8.1 x115).steps) + 1))) (a := (Value.bool (decide (v82 < ((bf_ (⟨0, 0⟩ : Search_way) s8.1 x129.To).edge))))) rfl rfl hc286 rfl ?_)
           refine aa_ rfl (ay_ (c := !(cv_ s8.1 x129.To)) (b := (Value.bool (decide (v82 < ((bf_ (⟨0, 0⟩ : Search_way) s8.1 x129.To).edge))))) rfl rfl hc285 rfl ?_)
           refine ag_ ?_
           obtain rfl := Option.some.inj h267
           exact ⟨(((((I558.pull 4).drop.pull 3).pull 3).pull 3).pull 3), e1276, e1277, e1278, e1279, e1280, e1281, e1284, e1285, e1286, rfl, ed130⟩
          ·
           refine ai_ (c := ((bf_ (⟨0, 0⟩ : Search_way) s8.1 x129.To).steps) == (w64 (((bf_ (⟨0, 0⟩ : Search_way) s8.1 x115).steps) + 1))) rfl rfl rfl rfl hc286 rfl ?_
           refine ai_ (c := ((bf_ (⟨0, 0⟩ : Search_way) s8.1 x129.To).steps) == (w64 (((bf_ (⟨0, 0⟩ : Search_way) s8.1 x115).steps) + 1))) rfl rfl rfl rfl hc286 rfl ?_
           refine ai_ (c := ((bf_ (⟨0, 0⟩ : Search_way) s8.1 x129.To).steps) == (w64 (((bf_ (⟨0, 0⟩ : Search_way) s8.1 x115).steps) + 1))) rfl rfl rfl rfl hc286 rfl ?_
           refine ai_ (c := ((bf_ (⟨0, 0⟩ : Search_way) s8.1 x129.To).steps) == (w64 (((bf_ (⟨0, 0⟩ : Search_way) s8.1 x115).steps) + 1))) rfl rfl rfl rfl hc286 rfl ?_
           refine ai_ (c := ((bf_ (⟨0, 0⟩ : Search_way) s8.1 x129.To).steps) == (w64 (((bf_ (⟨0, 0⟩ : Search_way) s8.1 x115).steps) + 1))) rfl rfl rfl rfl hc286 rfl ?_
           refine al_ (c := !(cv_ s8.1 x129.To)) rfl rfl rfl rfl hc285 (ay_ (c := ((bf_ (⟨0, 0⟩ : Search_way) s8.1 x129.To).steps) == (w64 (((bf_ (⟨0, 0⟩ : Search_way) s8.1 x115).steps) + 1))) (b := (Value.bool (false))) rfl rfl hc286 rfl ?_)
           refine aa_ rfl (ay_ (c := !(cv_ s8.1 x129.To)) (b := (Value.bool (false))) rfl rfl hc285 rfl ?_)
           refine ag_ ?_
           obtain rfl := Option.some.inj h267
           exact ⟨(((((I558.pull 4).drop.pull 3).pull 3).pull 3).pull 3), e1276, e1277, e1278, e1279, e1280, e1281, e1284, e1285, e1286, rfl, ed130⟩
        ·
         rintro f w ⟨I559, e1287, e1288, e1289, e1290, e1291, e1292, e1293, e1294, e1295, e1296, ed131⟩
         rcases ifs h258 with ⟨hc287, h258⟩ | ⟨hc287, h258⟩
         ·
          refine an_ (b := v84) e1296 hc287 ?_
          refine ab_ ?_
          refine aa_ rfl (ac_ (v := (Value.map (some g1))) rfl e1288 ?_)
          refine aa_ rfl (az_ (v := (Value.pointer (some ⟨g83, 0, none⟩))) rfl ft_ e1291 rfl ?_)
          refine aa_ rfl (bz_ (c := (Value.int .i64 (x129.To))) rfl sh3 (I559.nth 2 rfl) rfl rfl ?_)
          refine aa_ rfl (cg_ (l := [(Value.int .i64 (w64 (((bf_ (⟨0, 0⟩ : Search_way) s8.1 x115).steps) + 1))), (Value.int .i64 (v82))]) rfl ml_ (I559.nth 3 rfl) e1292 rfl rfl ?_)
          refine aa_ rfl (ij_ (k := x129.To) (e := (⟨w64 (((bf_ (⟨0, 0⟩ : Search_way) s8.1 x115).steps) + 1), v82⟩ : Search_way)) Try.underlying110 kt3 rfl rfl rfl I559 (cb_ _) (Search_way.rv (s := (⟨w64 (((bf_ (⟨0, 0⟩ : Search_way) s8.1 x115).steps) + 1), v82⟩ : Search_way))) (fun w396 I560 => ?_))
          refine ag_ ?_
          refine ab_ ?_
          refine aa_ rfl (bs_ (a := (i7 : Int)) (b := 1) rfl e1295 rfl ?_)
          refine aa_ rfl (ac_ (v := (Value.int .i64 (w64 ((i7 : Int) + 1)))) rfl rfl ?_)
          refine ag_ ?_
          obtain rfl := Option.some.inj h258
          exact ⟨_, _, _, ((((I560.pull 2).drop.pull 2).drop.pull 1).pull 1), e1287, e1288, e1289, e1290, e1293, e1294, (ca_ hlt7 hk7), ed131⟩
         ·
          refine ap_ (b := v84) e1296 hc287 ?_
          refine ar_ ?_
          refine ab_ ?_
          refine aa_ rfl (bs_ (a := (i7 : Int)) (b := 1) rfl e1295 rfl ?_)
          refine aa_ rfl (ac_ (v := (Value.int .i64 (w64 ((i7 : Int) + 1)))) rfl rfl ?_)
          refine ag_ ?_
          obtain rfl := Option.some.inj h258
          exact ⟨_, _, _, ((((I559.pull 2).drop.pull 2).drop.pull 1).pull 1), e1287, e1288, e1289, e1290, e1293, e1294, (ca_ hlt7 hk7), ed131⟩
    ·
     rintro f w hI15
     obtain ⟨z202, m202, k202, I561, e1297, e1298, e1299, e1300, e1301, e1302, e1303, ed132⟩ := hI15
     refine ad_ ?_
     refine ab_ ?_
     refine aa_ rfl (bn_ (a := (x116.length : Int)) (b := (x116.length : Int)) rfl e1303 e1302 ?_)
     refine ag_ ?_
     refine ad_ ?_
     refine ap_ (b := decide ((x116.length : Int) < (x116.length : Int))) rfl (ev_ _) ?_
     refine bm_ ?_
     exact ⟨_, _, _, ((I561.pull 1).pull 1), e1297, e1298, e1299, e1300, e1301, e1302, ed132⟩
   ·
    rintro f w ⟨z196, m196, k196, I562, e1304, e1305, e1306, e1307, e1308, e1309, ed133⟩
    refine ab_ ?_
    refine aa_ rfl (ac_ (v := (Value.slice z196 m196 k196)) rfl e1306 ?_)
    obtain ⟨x133, hx133, h229⟩ := bnd h229
    refine aa_ rfl (fp_ (v := (Value.slice z196 m196 k196)) (lo := 1) rfl Try.underlying26 sh3 rfl (I562.pull 1) rfl hx133 (fun u162 I563 => ?_))
    obtain ⟨z203, m203, k203, e1310⟩ := bt_ I563
    subst e1310
    refine aa_ rfl (ae_ (v := (Value.slice z203 m203 k203)) rfl rfl ?_)
    refine ag_ ?_
    obtain rfl := Option.some.inj h229
    exact ⟨_, rfl, _, _, _, (I563.pull 1), e1304, e1305, rfl, ed133⟩
  ·
   refine ap_ (b := decide (0 < (s7.2.length : Int))) rfl hc247 ?_
   refine bm_ ?_
   obtain rfl := Option.some.inj h229
   obtain rfl := (hout7 _ rfl)
   exact ⟨_, _, _, ((I484.pull 1).pull 1), e1124, e1125, e1126, ed115⟩
 ·
  rintro f w ⟨z175, m175, k175, I564, e1311, e1312, e1313, ed134⟩
  refine ad_ ?_
  refine ab_ ?_
  refine aa_ rfl (ae_ (v := (Value.int .i64 ((-1)))) rfl rfl ?_)
  refine aa_ rfl (ae_ (v := (Value.int .i64 ((-1)))) rfl rfl ?_)
  refine ag_ ?_
  refine ad_ ?_
  refine ad_ ?_
  refine ab_ ?_
  refine aa_ rfl (ac_ (v := v0) rfl e1311 ?_)
  refine aa_ rfl (bx_ (v := v0) rfl rfl h0_ ?_)
  refine aa_ rfl (aj_ (v := v0) rfl ka_ rfl (h0_.at_ I564) ?_)
  refine aa_ rfl (aj_ (v := (am_ v0 0)) rfl gk_ rfl ((h0_.at_ I564).fld Search_player.fld0) ?_)
  refine aa_ rfl (aq_ (v := (am_ (am_ v0 0) 0)) (e := a0.view.edges) rfl fi_ rfl (((h0_.at_ I564).fld Search_player.fld0).fld Search_view.fld0) (fun u163 hu50 => ?_))
  obtain ⟨z204, m204, k204, e1314⟩ := ak_ hu50
  subst e1314
  refine aa_ rfl (bg_ rfl Try.underlying23 rfl hu50 ?_)
  refine aa_ rfl (ac_ (v := (Value.int .i64 (0))) rfl rfl ?_)
  refine ag_ ?_
  have hk8 : a0.view.edges.length ≤ 9223372036854775807 := (ee_ hu50)
  obtain ⟨out9, hrun9, h⟩ := bnd h
  refine cf_ (fun f w => ∃ (S_ : PH), S.Le S_ ∧ Inv w S_ (fc_ (K := Int) (V := Search_way) g1 (out7.1) :: Fr) ∧ f 0 = v0 ∧ f 3 = (Value.map (some g1)) ∧ f 11 = (Value.int .i64 (out9.1)) ∧ f 12 = (Value.int .i64 (out9.2)) ∧ f 113 = (Value.int .i64 ((a0.view.edges.length : Int))) ∧ f.ds = []) ?_ ?_
  ·
   refine au_ ?_
   refine fh_ (I := fun (i8 : Nat) (s9 : (Int × Int)) (f : Frm) (w : World) => ∃ (S_ : PH), S.Le S_ ∧ Inv w S_ (fc_ (K := Int) (V := Search_way) g1 (out7.1) :: Fr) ∧ f 0 = v0 ∧ f 3 = (Value.map (some g1)) ∧ f 11 = (Value.int .i64 (s9.1)) ∧ f 12 = (Value.int .i64 (s9.2)) ∧ f 113 = (Value.int .i64 ((a0.view.edges.length : Int))) ∧ f 114 = (Value.int .i64 (i8 : Int)) ∧ f.ds = []) hrun9 ⟨_, (PH.Le.refl _), (I564.pull 1).drop, e1311, e1312, rfl, rfl, rfl, rfl, ed134⟩ ?_ ?_
   ·
    rintro i8 s9 f w o9 hlt8 hI37 h278
    obtain ⟨S24, le24, I604, e1369, e1370, e1371, e1372, e1373, e1374, ed144⟩ := hI37
    refine ad_ ?_
    refine ab_ ?_
    refine aa_ rfl (bn_ (a := (i8 : Int)) (b := (a0.view.edges.length : Int)) rfl e1374 e1373 ?_)
    refine ag_ ?_
    refine ad_ ?_
    refine an_ (b := decide ((i8 : Int) < (a0.view.edges.length : Int))) rfl (eu_ hlt8) ?_
    refine ar_ ?_
    refine ad_ ?_
    refine au_ ?_
    refine ad_ ?_
    refine ab_ ?_
    refine aa_ rfl (ac_ (v := (Value.int .i64 ((i8 : Int)))) rfl e1374 ?_)
    refine aa_ rfl (ae_ (v := (Value.int .i64 ((i8 : Int)))) rfl rfl ?_)
    refine ag_ ?_
    refine ad_ ?_
    refine ab_ ?_
    refine aa_ rfl (ac_ (v := (Value.map (some g1))) rfl e1370 ?_)
    refine aa_ rfl (ac_ (v := (Value.int .i64 ((i8 : Int)))) rfl rfl ?_)
    refine aa_ rfl (ge_ (k := (i8 : Int)) (zd := (⟨0, 0⟩ : Search_way)) rfl Try.underlying110 kt3 jb_ (fun _ => (Search_way.rv (s := (⟨0, 0⟩ : Search_way)))) rfl rfl I604 (cb_ _) (fun q106 hq88 => ?_))
    obtain rfl := Search_way.inv hq88
    refine aa_ rfl (ac_ (v := (Value.tuple #[(Value.agg #[(Value.int .i64 ((bf_ (⟨0, 0⟩ : Search_way) out7.1 (i8 : Int)).steps)), (Value.int .i64 ((bf_ (⟨0, 0⟩ : Search_way) out7.1 (i8 : Int)).edge))]), (Value.bool (cv_ out7.1 (i8 : Int)))])) rfl rfl ?_)
    refine aa_ rfl (bk_ (v := (Value.agg #[(Value.int .i64 ((bf_ (⟨0, 0⟩ : Search_way) out7.1 (i8 : Int)).steps)), (Value.int .i64 ((bf_ (⟨0, 0⟩ : Search_way) out7.1 (i8 : Int)).edge))])) rfl rfl rfl ?_)
    refine aa_ rfl (bk_ (v := (Value.bool (cv_ out7.1 (i8 : Int)))) rfl rfl rfl ?_)
    refine aa_ rfl (cl_ (z := (Value.agg #[(Value.int .i64 (0)), (Value.int .i64 (0))])) rfl I604 jb_ (fun g89 w430 (I605 : Inv w430 S24 (ax_ g89 109 #[(Value.int .i64 (0)), (Value.int .i64 (0))] :: fc_ (K := Int) (V := Search_way) g1 (out7.1) :: Fr)) => ?_))
    refine aa_ rfl (bo_ (v := (Value.agg #[(Value.int .i64 ((bf_ (⟨0, 0⟩ : Search_way) out7.1 (i8 : Int)).steps)), (Value.int .i64 ((bf_ (⟨0, 0⟩ : Search_way) out7.1 (i8 : Int)).edge))])) (cs := #[(Value.int .i64 (0)), (Value.int .i64 (0))]) ml_ I605 rfl rfl rfl (Nat.le_of_ble_eq_true rfl) rfl (fun w431 (I606 : Inv w431 S24 (ax_ g89 109 #[(Value.int .i64 ((bf_ (⟨0, 0⟩ : Search_way) out7.1 (i8 : Int)).steps)), (Value.int .i64 ((bf_ (⟨0, 0⟩ : Search_way) out7.1 (i8 : Int)).edge))] :: fc_ (K := Int) (V := Search_way) g1 (out7.1) :: Fr)) => ?_))
    refine aa_ rfl (ae_ (v := (Value.bool (cv_ out7.1 (i8 : Int)))) rfl rfl ?_)
    refine ag_ ?_
    obtain ⟨v88, h281, h278⟩ := bnd h278
    refine eo_ (fun f w => Inv w S24 (fc_ (K := Int) (V := Search_way) g1 (out7.1) :: ax_ g89 109 #[(Value.int .i64 ((bf_ (⟨0, 0⟩ : Search_way) out7.1 (i8 : Int)).steps)), (Value.int .i64 ((bf_ (⟨0, 0⟩ : Search_way) out7.1 (i8 : Int)).edge))] :: Fr) ∧ f 0 = v0 ∧ f 3 = (Value.map (some g1)) ∧ f 11 = (Value.int .i64 (s9.1)) ∧ f 12 = (Value.int .i64 (s9.2)) ∧ f 14 = (Value.pointer (some ⟨g89, 0, none⟩)) ∧ f 113 = (Value.int .i64 ((a0.view.edges.length : Int))) ∧ f 114 = (Value.int .i64 ((i8 : Int))) ∧ f 139 = (Value.bool (v88)) ∧ f.ds = []) ?_ ?_
    ·
     refine ab_ ?_
     refine aa_ rfl (ac_ (v := (Value.bool (cv_ out7.1 (i8 : Int)))) rfl rfl ?_)
     refine aa_ rfl (ac_ (v := (Value.bool (cv_ out7.1 (i8 : Int)))) rfl rfl ?_)
     rcases ifs h281 with ⟨hc312, h281⟩ | ⟨hc312, h281⟩
     ·
      refine al_ (c := cv_ out7.1 (i8 : Int)) rfl rfl rfl rfl hc312 (ac_ (v := v0) rfl e1369 ?_)
      refine al_ (c := cv_ out7.1 (i8 : Int)) rfl rfl rfl rfl hc312 (ac_ (v := (Value.int .i64 ((i8 : Int)))) rfl rfl ?_)
      obtain ⟨x141, hx141, h281⟩ := bnd h281
      refine al_ (c := cv_ out7.1 (i8 : Int)) rfl rfl rfl rfl hc312 (bl_ (vs := [v0, (Value.int .i64 ((i8 : Int)))]) (r := (Value.int .i64 (x141))) rfl ca80 rfl (fb_ rfl rfl) I606 (fun Fr_ hF_ => nw_ hF_ (h0_.mono le24) hx141) (fun w433 I608 => ?_))
      refine al_ (c := cv_ out7.1 (i8 : Int)) rfl rfl rfl rfl hc312 (fd_ (a := x141) (b := 0) rfl rfl rfl ?_)
      refine aa_ rfl (bb_ (c := cv_ out7.1 (i8 : Int)) (a := (Value.bool (decide (0 ≤ x141)))) rfl rfl hc312 rfl ?_)
      refine aa_ rfl (ac_ (v := (Value.bool (decide (0 ≤ x141)))) rfl rfl ?_)
      rcases ifs h281 with ⟨hc313, h281⟩ | ⟨hc313, h281⟩
      ·
       refine al_ (c := decide (0 ≤ x141)) rfl rfl rfl rfl hc313 (ac_ (v := (Value.int .i64 (s9.1))) rfl e1371 ?_)
       refine al_ (c := decide (0 ≤ x141)) rfl rfl rfl rfl hc313 (bn_ (a := s9.1) (b := 0) rfl rfl rfl ?_)
       refine al_ (c := decide (0 ≤ x141)) rfl rfl rfl rfl hc313 (ac_ (v := (Value.bool (decide (s9.1 < 0)))) rfl rfl ?_)
       rcases ifs h281 with ⟨hc314, h281⟩ | ⟨hc314, h281⟩
       ·
        refine ai_ (c := decide (s9.1 < 0)) rfl rfl rfl rfl hc314 rfl ?_
        refine ai_ (c := decide (s9.1 < 0)) rfl rfl rfl rfl hc314 rfl ?_
        refine ai_ (c := decide (s9.1 < 0)) rfl rfl rfl rfl hc314 rfl ?_
        refine ai_ (c := decide (s9.1 < 0)) rfl rfl rfl rfl hc314 rfl ?_
        refine al_ (c := decide (0 ≤ x141)) rfl rfl rfl rfl hc313 (bb_ (c := decide (s9.1 < 0)) (a := (Value.bool (true))) rfl rfl hc314 rfl ?_)
        refine aa_ rfl (bb_ (c := decide (0 ≤ x141)) (a := (Value.bool (true))) rfl rfl hc313 rfl ?_)
        refine ag_ ?_
        obtain rfl := Option.some.inj h281
        exact ⟨(I608.pull 1), e1369, e1370, e1371, e1372, rfl, e1373, e1374, rfl, ed144⟩
       ·
        refine al_ (c := decide (s9.1 < 0)) rfl rfl rfl rfl hc314 (az_ (v := (Value.pointer (some ⟨g89, 0, none⟩))) rfl hw_ rfl rfl ?_)
        refine al_ (c := decide (s9.1 < 0)) rfl rfl rfl rfl hc314 (bz_ (c := (Value.int .i64 ((bf_ (⟨0, 0⟩ : Search_way) out7.1 (i8 : Int)).steps))) rfl sh3 (I608.nth 0 rfl) rfl rfl ?_)
        refine al_ (c := decide (s9.1 < 0)) rfl rfl rfl rfl hc314 (ac_ (v := (Value.int .i64 (s9.1))) rfl e1371 ?_)
        refine al_ (c := decide (s9.1 < 0)) rfl rfl rfl rfl hc314 (bn_ (a := (bf_ (⟨0, 0⟩ : Search_way) out7.1 (i8 : Int)).steps) (b := s9.1) rfl rfl rfl ?_)
        refine al_ (c := decide (0 ≤ x141)) rfl rfl rfl rfl hc313 (ay_ (c := decide (s9.1 < 0)) (b := (Value.bool (decide (((bf_ (⟨0, 0⟩ : Search_way) out7.1 (i8 : Int)).steps) < s9.1)))) rfl rfl hc314 rfl ?_)
        refine aa_ rfl (bb_ (c := decide (0 ≤ x141)) (a := (Value.bool (decide (((bf_ (⟨0, 0⟩ : Search_way) out7.1 (i8 : Int)).steps) < s9.1)))) rfl rfl hc313 rfl ?_)
        refine ag_ ?_
        obtain rfl := Option.some.inj h281
        exact ⟨(I608.pull 1), e1369, e1370, e1371, e1372, rfl, e1373, e1374, rfl, ed144⟩
      ·
       refine ai_ (c := decide (0 ≤ x141)) rfl rfl rfl rfl hc313 rfl ?_
       refine ai_ (c := decide (0 ≤ x141)) rfl rfl rfl rfl hc313 rfl ?_
       refine ai_ (c := decide (0 ≤ x141)) rfl rfl rfl rfl hc313 rfl ?_
       refine cc_ rfl rfl rfl rfl rfl ?_
       refine cc_ rfl rfl rfl rfl rfl ?_
       refine cc_ rfl rfl rfl rfl rfl ?_
       refine cc_ rfl rfl rfl rfl rfl ?_
       refine ai_ (c := decide (0 ≤ x141)) rfl rfl rfl rfl hc313 rfl ?_
       refine aa_ rfl (ay_ (c := decide (0 ≤ x141)) (b := (Value.bool (false))) rfl rfl hc313 rfl ?_)
       refine ag_ ?_
       obtain rfl := Option.some.inj h281
       exact ⟨(I608.pull 1), e1369, e1370, e1371, e1372, rfl, e1373, e1374, rfl, ed144⟩
     ·
      refine ai_ (c := cv_ out7.1 (i8 : Int)) rfl rfl rfl rfl hc312 rfl ?_
      refine ai_ (c := cv_ out7.1 (i8 : Int)) rfl rfl rfl rfl hc312 rfl ?_
      refine ai_ (c := cv_ out7.1 (i8 : Int)) rfl rfl rfl rfl hc312 rfl ?_
      refine ai_ (c := cv_ out7.1 (i8 : Int)) rfl rfl rfl rfl hc312 rfl ?_
      refine aa_ rfl (ay_ (c := cv_ out7.1 (i8 : Int)) (b := (Value.bool (false))) rfl rfl hc312 rfl ?_)
      refine aa_ rfl (ac_ (v := (Value.bool (false))) rfl rfl ?_)
      refine ai_ (c := false) rfl rfl rfl rfl rfl rfl ?_
      refine ai_ (c := false) rfl rfl rfl rfl rfl rfl ?_
      refine ai_ (c := false) rfl rfl rfl rfl rfl rfl ?_
      refine cc_ rfl rfl rfl rfl rfl ?_
      refine cc_ rfl rfl rfl rfl rfl ?_
      refine cc_ rfl rfl rfl rfl rfl ?_
      refine cc_ rfl rfl rfl rfl rfl ?_
      refine ai_ (c := false) rfl rfl rfl rfl rfl rfl ?_
      refine aa_ rfl (ay_ (c := false) (b := (Value.bool (false))) rfl rfl rfl rfl ?_)
      refine ag_ ?_
      obtain rfl := Option.some.inj h281
      exact ⟨(I606.pull 1), e1369, e1370, e1371, e1372, rfl, e1373, e1374, rfl, ed144⟩
    ·
     rintro f w ⟨I609, e1375, e1376, e1377, e1378, e1379, e1380, e1381, e1382, ed145⟩
     rcases ifs h278 with ⟨hc315, h278⟩ | ⟨hc315, h278⟩
     ·
      refine an_ (b := v88) e1382 hc315 ?_
      refine cn_ (sps := [⟨some 140, [], [0], fun vs_ T_ => fr0 vs_ 0 = (Value.pointer (some ⟨g89, 0, none⟩)), [], [], [], fun _ h_ => h_⟩, ⟨some 141, [0], [1], fun vs_ T_ => fr0 vs_ 0 = (Value.int .i64 ((bf_ (⟨0, 0⟩ : Search_way) out7.1 (i8 : Int)).steps)), [0], [], [], fun _ h_ => h_⟩, ⟨some 142, [], [2], fun vs_ T_ => fr0 vs_ 0 = (Value.pointer (some ⟨g89, 1, none⟩)), [], [], [], fun _ h_ => h_⟩, ⟨some 143, [2], [3], fun vs_ T_ => fr0 vs_ 0 = (Value.int .i64 ((bf_ (⟨0, 0⟩ : Search_way) out7.1 (i8 : Int)).edge)), [0], [], [], fun _ h_ => h_⟩, ⟨some 11, [0, 1], [4], fun vs_ T_ => fr0 vs_ 0 = (Value.int .i64 ((bf_ (⟨0, 0⟩ : Search_way) out7.1 (i8 : Int)).steps)), [], [], [], fun _ h_ => h_⟩, ⟨some 12, [0, 1, 2, 3, 4], [5], fun vs_ T_ => fr0 vs_ 0 = (Value.int .i64 ((bf_ (⟨0, 0⟩ : Search_way) out7.1 (i8 : Int)).edge)), [], [], [], fun _ h_ => h_⟩]) (tks := [⟨none, none, [], fun vs_ => ax_ g89 109 #[(Value.int .i64 ((bf_ (⟨0, 0⟩ : Search_way) out7.1 (i8 : Int)).steps)), (Value.int .i64 ((bf_ (⟨0, 0⟩ : Search_way) out7.1 (i8 : Int)).edge))]⟩]) (O := fc_ (K := Int) (V := Search_way) g1 (out7.1) :: Fr) rfl (by kernel_rfl) (I609.pull 1) ⟨?_, ?_, ?_, ?_, ?_, ?_, trivial⟩ ?_
      ·
       intro vs22 f w434 S25 X19 le25 hA19 hK22 hI38
       have I610 : Inv w434 S25 (X19) := hI38
       refine af_ rfl rfl (az_ (v := (Value.pointer (some ⟨g89, 0, none⟩))) rfl hw_ ((hK22 14 (be_ rfl)).trans e1379) rfl ?_)
       refine ⟨_, _, rfl, PH.Le.refl _, ?_, ?_⟩
       ·
        exact rfl
       ·
        exact I610
      ·
       intro vs23 f w435 S26 X20 le26 hA20 hK23 hI39
       have I611 : Inv w435 S26 (ax_ g89 109 #[(Value.int .i64 ((bf_ (⟨0, 0⟩ : Search_way) out7.1 (i8 : Int)).steps)), (Value.int .i64 ((bf_ (⟨0, 0⟩ : Search_way) out7.1 (i8 : Int)).edge))] :: X20) := hI39
       have q107 : f 140 = (Value.pointer (some ⟨g89, 0, none⟩)) := vt (hA20.at_ 0 rfl _ rfl) rfl
       refine af_ rfl rfl (bz_ (c := (Value.int .i64 ((bf_ (⟨0, 0⟩ : Search_way) out7.1 (i8 : Int)).steps))) rfl sh3 (I611.nth 0 rfl) q107 rfl ?_)
       refine ⟨_, _, rfl, PH.Le.refl _, ?_, ?_⟩
       ·
        exact rfl
       ·
        exact I611
      ·
       intro vs24 f w436 S27 X21 le27 hA21 hK24 hI40
       have I612 : Inv w436 S27 (X21) := hI40
       refine af_ rfl rfl (az_ (v := (Value.pointer (some ⟨g89, 0, none⟩))) rfl hv_ ((hK24 14 (be_ rfl)).trans e1379) rfl ?_)
       refine ⟨_, _, rfl, PH.Le.refl _, ?_, ?_⟩
       ·
        exact rfl
       ·
        exact I612
      ·
       intro vs25 f w437 S28 X22 le28 hA22 hK25 hI41
       have I613 : Inv w437 S28 (ax_ g89 109 #[(Value.int .i64 ((bf_ (⟨0, 0⟩ : Search_way) out7.1 (i8 : Int)).steps)), (Value.int .i64 ((bf_ (⟨0, 0⟩ : Search_way) out7.1 (i8 : Int)).edge))] :: X22) := hI41
       have q108 : f 142 = (Value.pointer (some ⟨g89, 1, none⟩)) := vt (hA22.at_ 0 rfl _ rfl) rfl
       refine af_ rfl rfl (bz_ (c := (Value.int .i64 ((bf_ (⟨0, 0⟩ : Search_way) out7.1 (i8 : Int)).edge))) rfl sh3 (I613.nth 0 rfl) q108 rfl ?_)
       refine ⟨_, _, rfl, PH.Le.refl _, ?_, ?_⟩
       ·
        exact rfl
       ·
        exact I613
      ·
       intro vs26 f w438 S29 X23 le29 hA23 hK26 hI42
       have I614 : Inv w438 S29 (X23) := hI42
       have q109 : f 141 = (Value.int .i64 ((bf_ (⟨0, 0⟩ : Search_way) out7.1 (i8 : Int)).steps)) := vt (hA23.at_ 1 rfl _ rfl) rfl
       refine af_ rfl rfl (ae_ (v := (Value.int .i64 ((bf_ (⟨0, 0⟩ : Search_way) out7.1 (i8 : Int)).steps))) rfl q109 ?_)
       refine ⟨_, _, rfl, PH.Le.refl _, ?_, ?_⟩
       ·
        exact rfl
       ·
        exact I614
      ·
       intro vs27 f w439 S30 X24 le30 hA24 hK27 hI43
       have I615 : Inv w439 S30 (X24) := hI43
       have q110 : f 143 = (Value.int .i64 ((bf_ (⟨0, 0⟩ : Search_way) out7.1 (i8 : Int)).edge)) := vt (hA24.at_ 3 rfl _ rfl) rfl
       refine af_ rfl rfl (ae_ (v := (Value.int .i64 ((bf_ (⟨0, 0⟩ : Search_way) out7.1 (i8 : Int)).edge))) rfl q110 ?_)
       refine ⟨_, _, rfl, PH.Le.refl _, ?_, ?_⟩
       ·
        exact rfl
       ·
        exact I615
      ·
       intro vs28 f w440 S31 ed146 le31 hF4 hK28 hI44
       have e1383 : f 0 = v0 := (hK28 0 (bc_ rfl)).trans e1375
       have e1384 : f 3 = (Value.map (some g1)) := (hK28 3 (bc_ rfl)).trans e1376
       have e1385 : f 113 = (Value.int .i64 ((a0.view.edges.length : Int))) := (hK28 113 (bc_ rfl)).trans e1380
       have e1386 : f 114 = (Value.int .i64 ((i8 : Int))) := (hK28 114 (bc_ rfl)).trans e1381
       have I616 : Inv w440 S31 (ax_ g89 109 #[(Value.int .i64 ((bf_ (⟨0, 0⟩ : Search_way) out7.1 (i8 : Int)).steps)), (Value.int .i64 ((bf_ (⟨0, 0⟩ : Search_way) out7.1 (i8 : Int)).edge))] :: fc_ (K := Int) (V := Search_way) g1 (out7.1) :: Fr) := hI44
       have q111 : f 11 = (Value.int .i64 ((bf_ (⟨0, 0⟩ : Search_way) out7.1 (i8 : Int)).steps)) := vt (hF4.at_ 4 rfl _ rfl) rfl
       have q112 : f 12 = (Value.int .i64 ((bf_ (⟨0, 0⟩ : Search_way) out7.1 (i8 : Int)).edge)) := vt (hF4.at_ 5 rfl _ rfl) rfl
       refine ab_ ?_
       refine aa_ rfl (bs_ (a := (i8 : Int)) (b := 1) rfl e1386 rfl ?_)
       refine aa_ rfl (ac_ (v := (Value.int .i64 (w64 ((i8 : Int) + 1)))) rfl rfl ?_)
       refine ag_ ?_
       obtain rfl := Option.some.inj h278
       exact ⟨_, (le24.trans le31), (I616).drop, e1383, e1384, q111, q112, e1385, (ca_ hlt8 hk8), (ed146.trans ed145)⟩
     ·
      refine ap_ (b := v88) e1382 hc315 ?_
      refine ar_ ?_
      refine ab_ ?_
      refine aa_ rfl (bs_ (a := (i8 : Int)) (b := 1) rfl e1381 rfl ?_)
      refine aa_ rfl (ac_ (v := (Value.int .i64 (w64 ((i8 : Int) + 1)))) rfl rfl ?_)
      refine ag_ ?_
      obtain rfl := Option.some.inj h278
      exact ⟨_, le24, (I609.pull 1).drop, e1375, e1376, e1377, e1378, e1380, (ca_ hlt8 hk8), ed145⟩
   ·
    rintro f w hI45
    obtain ⟨S32, le32, I617, e1387, e1388, e1389, e1390, e1391, e1392, ed147⟩ := hI45
    refine ad_ ?_
    refine ab_ ?_
    refine aa_ rfl (bn_ (a := (a0.view.edges.length : Int)) (b := (a0.view.edges.length : Int)) rfl e1392 e1391 ?_)
    refine ag_ ?_
    refine ad_ ?_
    refine ap_ (b := decide ((a0.view.edges.length : Int) < (a0.view.edges.length : Int))) rfl (ev_ _) ?_
    refine bm_ ?_
    exact ⟨_, le32, I617, e1387, e1388, e1389, e1390, e1391, ed147⟩
  ·
   rintro f w ⟨S33, le33, I618, e1393, e1394, e1395, e1396, e1397, ed148⟩
   refine ad_ ?_
   refine ab_ ?_
   refine aa_ rfl (ac_ (v := (Value.int .i64 (out9.2))) rfl e1396 ?_)
   refine aa_ rfl (ae_ (v := (Value.int .i64 (out9.2))) rfl rfl ?_)
   refine ag_ ?_
   refine aw_ ?_
   obtain rfl := Option.some.inj h
   exact ⟨ed148, (Value.int .i64 (out9.2)), (cx_ rfl rfl), _, [], le33, (I618).drop, rfl, rfl⟩
set_option maxHeartbeats 4000000 in
set_option maxRecDepth 100000 in
theorem F88_ok {w : World} {S : PH} {Fr : List HP} {a0 : Search_gone} {v0 : Value} {a1 : (PRef Search_player)} {v1 : Value} {r : Bool} (hI : Inv w S (Fr)) (h0_ : RV S v0 a0) (h1_ : PtS S v1 a1) (h : F88 a0 a1 = some r) :
    Calls Try.prog 88 [v0, v1].toArray w (dd_ S Fr (Value.bool (r))) := by
 unfold F88 at h
 have e1 := Search_gone.inv h0_
 subst e1
 refine bd_ (n := 11) (vs := [(Value.agg #[(Value.int .i64 (a0.position)), (Value.int .i64 (a0.edge))]), v1]) Try.func88 rfl rfl rfl ?_
 refine ad_ ?_
 refine ab_ ?_
 refine aa_ rfl (cr_ (v := (Value.agg #[(Value.int .i64 (a0.position)), (Value.int .i64 (a0.edge))])) rfl hI rfl (fun g1 w1 I1 => ?_))
 obtain ⟨S1, le1, I2, p1⟩ := Inv.boxFreeze (x := a0) I1 (Search_gone.rv (s := a0))
 refine aa_ rfl (ae_ (v := (Value.bool (false))) rfl rfl ?_)
 refine ag_ ?_
 refine ad_ ?_
 refine cn_ (sps := [⟨some 4, [], [0], fun vs_ T_ => fr0 vs_ 0 = (am_ (Value.pointer (some ⟨g1, 0, none⟩)) 0), [], [], [], fun _ h_ => h_⟩, ⟨some 5, [0], [1], fun vs_ T_ => fr0 vs_ 0 = (Value.int .i64 (a0.position)), [], [], [], fun _ h_ => h_⟩, ⟨some 6, [], [2], fun vs_ T_ => PtS T_ (fr0 vs_ 0) a1.v, [], [], [], fun hle_ h_ => h_.mono hle_⟩, ⟨some 7, [2], [3, 2], fun vs_ T_ => fr0 vs_ 0 = (fr0 vs_ 1), [], [], [], fun _ h_ => h_⟩, ⟨some 8, [2, 3], [4, 2], fun vs_ T_ => fr0 vs_ 0 = (am_ (fr0 vs_ 1) 4), [], [], [], fun _ h_ => h_⟩, ⟨some 9, [2, 3, 4], [5], fun vs_ T_ => fr0 vs_ 0 = (Value.int .i64 (a1.v.at_)), [], [], [], fun _ h_ => h_⟩, ⟨some 10, [0, 1, 2, 3, 4, 5], [6], fun vs_ T_ => fr0 vs_ 0 = (Value.bool (a0.position == a1.v.at_)), [], [], [], fun _ h_ => h_⟩, ⟨some 3, [0, 1, 2, 3, 4, 5, 6], [7], fun vs_ T_ => fr0 vs_ 0 = (Value.bool (a0.position == a1.v.at_)), [], [], [], fun _ h_ => h_⟩]) (tks := []) (O := Fr) rfl (by kernel_rfl) I2 ⟨?_, ?_, ?_, ?_, ?_, ?_, ?_, ?_, trivial⟩ ?_
 ·
  intro vs1 f w2 S2 X1 le2 hA1 hK1 hI1
  have I3 : Inv w2 S2 (X1) := hI1
  refine af_ rfl rfl (aj_ (v := (Value.pointer (some ⟨g1, 0, none⟩))) rfl lz_ (hK1 2 (be_ rfl)) ((p1.mono le2).at_ I3) ?_)
  refine ⟨_, _, rfl, PH.Le.refl _, ?_, ?_⟩
  ·
   exact rfl
  ·
   exact I3
 ·
  intro vs2 f w3 S3 X2 le3 hA2 hK2 hI2
  have I4 : Inv w3 S3 (X2) := hI2
  have q1 : f 4 = (am_ (Value.pointer (some ⟨g1, 0, none⟩)) 0) := vt (hA2.at_ 0 rfl _ rfl) rfl
  refine af_ rfl rfl (av_ (v := (am_ (Value.pointer (some ⟨g1, 0, none⟩)) 0)) (e := a0.position) rfl sh3 q1 (((p1.mono le3).at_ I4).fld Search_gone.fld0) ?_)
  refine ⟨_, _, rfl, PH.Le.refl _, ?_, ?_⟩
  ·
   exact rfl
  ·
   exact I4
 ·
  intro vs3 f w4 S4 X3 le4 hA3 hK3 hI3
  have I5 : Inv w4 S4 (X3) := hI3
  refine af_ rfl rfl (aq_ (v := v1) (e := a1) rfl sh88 (hK3 1 (be_ rfl)) ((h1_.mono (le1.trans le4)).at_ I5) (fun u2 hu2 => ?_))
  have hu2 := lf_ hu2
  refine ⟨_, _, rfl, PH.Le.refl _, ?_, ?_⟩
  ·
   exact hu2
  ·
   exact I5
 ·
  intro vs4 f w5 S5 X4 le5 hA4 hK4 hI4
  have I6 : Inv w5 S5 (X4) := hI4
  have q2 : f 6 = vs4 2 := (hA4.at_ 0 rfl _ rfl).1 _ rfl
  have r1 : PtS S5 (vs4 2) a1.v := (hA4.at_ 0 rfl _ rfl).2
  refine af_ rfl rfl (bx_ (v := (vs4 2)) rfl q2 r1 ?_)
  refine ⟨_, _, rfl, PH.Le.refl _, ?_, ?_⟩
  ·
   exact rfl
  ·
   exact I6
 ·
  intro vs5 f w6 S6 X5 le6 hA5 hK5 hI5
  have I7 : Inv w6 S6 (X5) := hI5
  have q3 : f 6 = vs5 2 := (hA5.at_ 0 rfl _ rfl).1 _ rfl
  have r2 : PtS S6 (vs5 2) a1.v := (hA5.at_ 0 rfl _ rfl).2
  have q4 : f 7 = (vs5 2) := vt (hA5.at_ 1 rfl _ rfl) rfl
  refine af_ rfl rfl (aj_ (v := (vs5 2)) rfl ej_ q4 (r2.at_ I7) ?_)
  refine ⟨_, _, rfl, PH.Le.refl _, ?_, ?_⟩
  ·
   exact rfl
  ·
   exact I7
 ·
  intro vs6 f w7 S7 X6 le7 hA6 hK6 hI6
  have I8 : Inv w7 S7 (X6) := hI6
  have q5 : f 6 = vs6 2 := (hA6.at_ 0 rfl _ rfl).1 _ rfl
  have r3 : PtS S7 (vs6 2) a1.v := (hA6.at_ 0 rfl _ rfl).2
  have q6 : f 7 = (vs6 2) := vt (hA6.at_ 1 rfl _ rfl) rfl
  have q7 : f 8 = (am_ (vs6 2) 4) := vt (hA6.at_ 2 rfl _ rfl) rfl
  refine af_ rfl rfl (av_ (v := (am_ (vs6 2) 4)) (e := a1.v.at_) rfl sh3 q7 ((r3.at_ I8).fld Search_player.fld2) ?_)
  refine ⟨_, _, rfl, PH.Le.refl _, ?_, ?_⟩
  ·
   exact rfl
  ·
   exact I8
 ·
  intro vs7 f w8 S8 X7 le8 hA7 hK7 hI7
  have I9 : Inv w8 S8 (X7) := hI7
  have q8 : f 5 = (Value.int .i64 (a0.position)) := vt (hA7.at_ 1 rfl _ rfl) rfl
  have q9 : f 9 = (Value.int .i64 (a1.v.at_)) := vt (hA7.at_ 5 rfl _ rfl) rfl
  refine af_ rfl rfl (es_ (a := a0.position) (b := a1.v.at_) rfl q8 q9 ?_)
  refine ⟨_, _, rfl, PH.Le.refl _, ?_, ?_⟩
  ·
   exact rfl
  ·
   exact I9
 ·
  intro vs8 f w9 S9 X8 le9 hA8 hK8 hI8
  have I10 : Inv w9 S9 (X8) := hI8
  have q10 : f 10 = (Value.bool (a0.position == a1.v.at_)) := vt (hA8.at_ 6 rfl _ rfl) rfl
  refine af_ rfl rfl (ae_ (v := (Value.bool (a0.position == a1.v.at_))) rfl q10 ?_)
  refine ⟨_, _, rfl, PH.Le.refl _, ?_, ?_⟩
  ·
   exact rfl
  ·
   exact I10
 ·
  intro vs9 f w10 S10 ed1 le10 hF1 hK9 hI9
  have I11 : Inv w10 S10 (Fr) := hI9
  have q11 : f 3 = (Value.bool (a0.position == a1.v.at_)) := vt (hF1.at_ 7 rfl _ rfl) rfl
  refine aw_ ?_
  obtain rfl := Option.some.inj h
  exact ⟨(ed1.trans rfl), (Value.bool (a0.position == a1.v.at_)), (cx_ rfl q11), _, [], (le1.trans le10), I11, rfl, rfl⟩
set_option maxHeartbeats 4000000 in
set_option maxRecDepth 100000 in
theorem ns_ {w : World} {S : PH} {Fr : List HP} {a0 : (List Search_gone)} {v0 : Value} {a1 : Search_gone → Option Bool} {v1 : Value} {r : Int} (hI : Inv w S (Fr)) (h0_ : RV S v0 a0) (h1_ : FnV Try.prog S v1 a1) (h : F87 a0 a1 = some r) :
    Calls Try.prog 87 [v0, v1].toArray w (dd_ S Fr (Value.int .i64 (r))) := by
 unfold F87 at h
 obtain ⟨z1, m1, k1, e1⟩ := ak_ h0_
 subst e1
 refine bd_ (n := 19) (vs := [(Value.slice z1 m1 k1), v1]) Try.func87 rfl rfl rfl ?_
 refine ad_ ?_
 refine ab_ ?_
 refine aa_ rfl (ae_ (v := (Value.int .i64 (0))) rfl rfl ?_)
 refine ag_ ?_
 refine ad_ ?_
 refine ad_ ?_
 refine ab_ ?_
 refine aa_ rfl (ac_ (v := (Value.slice z1 m1 k1)) rfl rfl ?_)
 refine aa_ rfl (bg_ rfl Try.underlying89 rfl h0_ ?_)
 refine aa_ rfl (ac_ (v := (Value.int .i64 (0))) rfl rfl ?_)
 refine ag_ ?_
 have hk1 : a0.length ≤ 9223372036854775807 := (ee_ h0_)
 obtain ⟨o2, hrun1, h⟩ := bnd h
 refine cf_ (fun f w => ∃ out1, o2 = Sum.inl out1 ∧ Inv w S (Fr) ∧ f 0 = (Value.slice z1 m1 k1) ∧ f 1 = v1 ∧ f 7 = (Value.int .i64 ((a0.length : Int))) ∧ f.ds = []) ?_ ?_
 ·
  refine au_ ?_
  refine dl_ (I := fun (i1 : Nat) (s1 : Unit) (f : Frm) (w : World) => Inv w S (Fr) ∧ f 0 = (Value.slice z1 m1 k1) ∧ f 1 = v1 ∧ f 7 = (Value.int .i64 ((a0.length : Int))) ∧ f 8 = (Value.int .i64 (i1 : Int)) ∧ f.ds = []) hrun1 ⟨hI, rfl, rfl, rfl, rfl, rfl⟩ ?_ ?_
  ·
   rintro i1 s1 f w o1 hlt1 hI1 h1 hout1
   obtain ⟨I5, e12, e13, e14, e15, ed3⟩ := hI1
   refine ad_ ?_
   refine ab_ ?_
   refine aa_ rfl (bn_ (a := (i1 : Int)) (b := (a0.length : Int)) rfl e15 e14 ?_)
   refine ag_ ?_
   refine ad_ ?_
   refine an_ (b := decide ((i1 : Int) < (a0.length : Int))) rfl (eu_ hlt1) ?_
   refine ar_ ?_
   refine ad_ ?_
   refine au_ ?_
   refine ad_ ?_
   refine ab_ ?_
   refine aa_ rfl (ac_ (v := (Value.int .i64 ((i1 : Int)))) rfl e15 ?_)
   refine aa_ rfl (ae_ (v := (Value.int .i64 ((i1 : Int)))) rfl rfl ?_)
   refine ag_ ?_
   refine ad_ ?_
   refine ab_ ?_
   refine aa_ rfl (ac_ (v := v1) rfl e13 ?_)
   refine aa_ rfl (ac_ (v := (Value.slice z1 m1 k1)) rfl e12 ?_)
   refine aa_ rfl (ac_ (v := (Value.int .i64 ((i1 : Int)))) rfl rfl ?_)
   obtain ⟨x5, hx5, h1⟩ := bnd h1
   refine aa_ rfl (ao_ (v := (Value.slice z1 m1 k1)) (i := (i1 : Int)) (e := x5) rfl Try.underlying89 dy_ rfl h0_ rfl hx5 ?_)
   refine aa_ rfl (aq_ (v := (ah_ (Value.slice z1 m1 k1) ((i1 : Int)) (Enc.sz Search_gone))) (e := x5) rfl dy_ rfl (h0_.elem I5.in_ hx5) (fun u3 hu3 => ?_))
   have e16 := Search_gone.inv hu3
   subst e16
   obtain ⟨x6, hx6, h1⟩ := bnd h1
   refine aa_ rfl (fy_ (v := v1) (u := (Value.agg #[(Value.int .i64 (x5.position)), (Value.int .i64 (x5.edge))])) (r := x6) rfl rfl h1_ rfl (Search_gone.rv (s := x5)) hx6 I5 (fun w3 I6 => ?_))
   refine ag_ ?_
   rcases ifs h1 with ⟨hc3, h1⟩ | ⟨hc3, h1⟩
   ·
    refine an_ (b := x6) rfl hc3 ?_
    refine ad_ ?_
    refine ab_ ?_
    refine aa_ rfl (ac_ (v := (Value.int .i64 ((i1 : Int)))) rfl rfl ?_)
    refine aa_ rfl (ae_ (v := (Value.int .i64 ((i1 : Int)))) rfl rfl ?_)
    refine ag_ ?_
    refine aw_ ?_
    obtain rfl := Option.some.inj h1
    obtain rfl := (hout1 _ rfl)
    have h2 := h
    obtain rfl := Option.some.inj h2
    exact ⟨ed3, (Value.int .i64 ((i1 : Int))), (cx_ rfl rfl), _, [], (PH.Le.refl _), I6, rfl, rfl⟩
   ·
    refine ap_ (b := x6) rfl hc3 ?_
    refine ar_ ?_
    refine ab_ ?_
    refine aa_ rfl (bs_ (a := (i1 : Int)) (b := 1) rfl e15 rfl ?_)
    refine aa_ rfl (ac_ (v := (Value.int .i64 (w64 ((i1 : Int) + 1)))) rfl rfl ?_)
    refine ag_ ?_
    obtain rfl := Option.some.inj h1
    exact ⟨_, rfl, I6, e12, e13, e14, (ca_ hlt1 hk1), ed3⟩
  ·
   rintro s2 f w hs1 hI2
   obtain ⟨I7, e17, e18, e19, e20, ed4⟩ := hI2
   refine ad_ ?_
   refine ab_ ?_
   refine aa_ rfl (bn_ (a := (a0.length : Int)) (b := (a0.length : Int)) rfl e20 e19 ?_)
   refine ag_ ?_
   refine ad_ ?_
   refine ap_ (b := decide ((a0.length : Int) < (a0.length : Int))) rfl (ev_ _) ?_
   refine bm_ ?_
   exact ⟨s2, hs1, I7, e17, e18, e19, ed4⟩
 ·
  rintro f w ⟨out1, rfl, I8, e21, e22, e23, ed5⟩
  have h := cy_ h
  refine ad_ ?_
  refine ab_ ?_
  refine aa_ rfl (ae_ (v := (Value.int .i64 ((-1)))) rfl rfl ?_)
  refine ag_ ?_
  refine aw_ ?_
  obtain rfl := Option.some.inj h
  exact ⟨ed5, (Value.int .i64 ((-1))), (cx_ rfl rfl), _, [], (PH.Le.refl _), I8, rfl, rfl⟩
set_option maxHeartbeats 4000000 in
set_option maxRecDepth 100000 in
theorem F82_ok {w : World} {S : PH} {Fr : List HP} {a0 : Search_player} {v0 : Value} {r : Int} (hI : Inv w S (Fr)) (h0_ : PtS S v0 a0) (h : F82 a0 = some r) :
    Calls Try.prog 82 [v0].toArray w (dd_ S Fr (Value.int .i64 (r))) := by
 unfold F82 at h
 refine bd_ (n := 16) (vs := [v0]) Try.func82 rfl rfl rfl ?_
 refine ad_ ?_
 refine ab_ ?_
 refine aa_ rfl (cr_ (v := v0) rfl hI rfl (fun g1 w1 I1 => ?_))
 obtain ⟨S1, le1, I2, p1⟩ := Inv.boxFreeze (x := (⟨a0⟩ : PRef Search_player)) I1 (rv_ref' h0_)
 refine aa_ rfl (ae_ (v := (Value.int .i64 (0))) rfl rfl ?_)
 refine ag_ ?_
 refine ad_ ?_
 obtain ⟨x1, hx1, h⟩ := bnd h
 obtain ⟨x2, hx2, h⟩ := bnd h
 refine cn_ (sps := [⟨some 3, [], [0], fun vs_ T_ => PtS T_ (fr0 vs_ 0) ((⟨a0⟩ : PRef Search_player).v), [], [], [], fun hle_ h_ => h_.mono hle_⟩, ⟨some 4, [0], [1, 0], fun vs_ T_ => fr0 vs_ 0 = (fr0 vs_ 1), [], [], [], fun _ h_ => h_⟩, ⟨some 5, [0, 1], [2, 0], fun vs_ T_ => fr0 vs_ 0 = (am_ (fr0 vs_ 1) 5), [], [], [], fun _ h_ => h_⟩, ⟨some 6, [0, 1, 2], [3], fun vs_ T_ => RV T_ (fr0 vs_ 0) (((⟨a0⟩ : PRef Search_player).v).memory), [], [], [], fun hle_ h_ => h_.mono hle_⟩, ⟨some 7, [], [4], fun vs_ T_ => PtS T_ (fr0 vs_ 0) ((⟨a0⟩ : PRef Search_player).v), [], [], [], fun hle_ h_ => h_.mono hle_⟩, ⟨some 8, [4], [5, 4], fun vs_ T_ => fr0 vs_ 0 = (fr0 vs_ 1), [], [], [], fun _ h_ => h_⟩, ⟨some 9, [4, 5], [6, 4], fun vs_ T_ => fr0 vs_ 0 = (am_ (fr0 vs_ 1) 5), [], [], [], fun _ h_ => h_⟩, ⟨some 10, [4, 5, 6], [7], fun vs_ T_ => RV T_ (fr0 vs_ 0) (((⟨a0⟩ : PRef Search_player).v).memory), [], [], [], fun hle_ h_ => h_.mono hle_⟩, ⟨some 11, [], [8], fun vs_ T_ => fr0 vs_ 0 = (Value.func (.func 88) #[] #[(Value.pointer (some ⟨g1, 0, none⟩))]), [], [], [], fun _ h_ => h_⟩, ⟨some 12, [4, 5, 6, 7, 8], [9], fun vs_ T_ => fr0 vs_ 0 = (Value.int .i64 (x1)), [], [], [], fun _ h_ => h_⟩, ⟨some 13, [0, 1, 2, 3, 4, 5, 6, 7, 8, 9], [10, 3], fun vs_ T_ => fr0 vs_ 0 = (ah_ (fr0 vs_ 1) (x1) (Enc.sz Search_gone)), [], [], [], fun _ h_ => h_⟩, ⟨some 14, [0, 1, 2, 3, 4, 5, 6, 7, 8, 9, 10], [11, 3], fun vs_ T_ => fr0 vs_ 0 = (am_ (ah_ (fr0 vs_ 1) (x1) (Enc.sz Search_gone)) 1), [], [], [], fun _ h_ => h_⟩, ⟨some 15, [0, 1, 2, 3, 4, 5, 6, 7, 8, 9, 10, 11], [12], fun vs_ T_ => fr0 vs_ 0 = (Value.int .i64 (x2.edge)), [], [], [], fun _ h_ => h_⟩, ⟨some 2, [0, 1, 2, 3, 4, 5, 6, 7, 8, 9, 10, 11, 12], [13], fun vs_ T_ => fr0 vs_ 0 = (Value.int .i64 (x2.edge)), [], [], [], fun _ h_ => h_⟩]) (tks := []) (O := Fr) rfl (by kernel_rfl) I2 ⟨?_, ?_, ?_, ?_, ?_, ?_, ?_, ?_, ?_, ?_, ?_, ?_, ?_, ?_, trivial⟩ ?_
 ·
  intro vs1 f w3 S2 X1 le2 hA1 hK1 hI1
  have I4 : Inv w3 S2 (X1) := hI1
  refine af_ rfl rfl (aq_ (v := (Value.pointer (some ⟨g1, 0, none⟩))) (e := (⟨a0⟩ : PRef Search_player)) rfl sh88 (hK1 1 (be_ rfl)) ((p1.mono le2).at_ I4) (fun u5 hu5 => ?_))
  have hu5 := lf_ hu5
  refine ⟨_, _, rfl, PH.Le.refl _, ?_, ?_⟩
  ·
   exact hu5
  ·
   exact I4
 ·
  intro vs2 f w4 S3 X2 le3 hA2 hK2 hI2
  have I5 : Inv w4 S3 (X2) := hI2
  have q1 : f 3 = vs2 0 := (hA2.at_ 0 rfl _ rfl).1 _ rfl
  have r1 : PtS S3 (vs2 0) ((⟨a0⟩ : PRef Search_player).v) := (hA2.at_ 0 rfl _ rfl).2
  refine af_ rfl rfl (bx_ (v := (vs2 0)) rfl q1 r1 ?_)
  refine ⟨_, _, rfl, PH.Le.refl _, ?_, ?_⟩
  ·
   exact rfl
  ·
   exact I5
 ·
  intro vs3 f w5 S4 X3 le4 hA3 hK3 hI3
  have I6 : Inv w5 S4 (X3) := hI3
  have q2 : f 3 = vs3 0 := (hA3.at_ 0 rfl _ rfl).1 _ rfl
  have r2 : PtS S4 (vs3 0) ((⟨a0⟩ : PRef Search_player).v) := (hA3.at_ 0 rfl _ rfl).2
  have q3 : f 4 = (vs3 0) := vt (hA3.at_ 1 rfl _ rfl) rfl
  refine af_ rfl rfl (aj_ (v := (vs3 0)) rfl ff_ q3 (r2.at_ I6) ?_)
  refine ⟨_, _, rfl, PH.Le.refl _, ?_, ?_⟩
  ·
   exact rfl
  ·
   exact I6
 ·
  intro vs4 f w6 S5 X4 le5 hA4 hK4 hI4
  have I7 : Inv w6 S5 (X4) := hI4
  have q4 : f 3 = vs4 0 := (hA4.at_ 0 rfl _ rfl).1 _ rfl
  have r3 : PtS S5 (vs4 0) ((⟨a0⟩ : PRef Search_player).v) := (hA4.at_ 0 rfl _ rfl).2
  have q5 : f 4 = (vs4 0) := vt (hA4.at_ 1 rfl _ rfl) rfl
  have q6 : f 5 = (am_ (vs4 0) 5) := vt (hA4.at_ 2 rfl _ rfl) rfl
  refine af_ rfl rfl (aq_ (v := (am_ (vs4 0) 5)) (e := ((⟨a0⟩ : PRef Search_player).v).memory) rfl mh_ q6 ((r3.at_ I7).fld Search_player.fld3) (fun u6 hu6 => ?_))
  obtain ⟨z1, m1, k1, e1⟩ := ak_ hu6
  subst e1
  refine ⟨_, _, rfl, PH.Le.refl _, ?_, ?_⟩
  ·
   exact hu6
  ·
   exact I7
 ·
  intro vs5 f w7 S6 X5 le6 hA5 hK5 hI5
  have I8 : Inv w7 S6 (X5) := hI5
  refine af_ rfl rfl (aq_ (v := (Value.pointer (some ⟨g1, 0, none⟩))) (e := (⟨a0⟩ : PRef Search_player)) rfl sh88 (hK5 1 (be_ rfl)) ((p1.mono le6).at_ I8) (fun u7 hu7 => ?_))
  have hu7 := lf_ hu7
  refine ⟨_, _, rfl, PH.Le.refl _, ?_, ?_⟩
  ·
   exact hu7
  ·
   exact I8
 ·
  intro vs6 f w8 S7 X6 le7 hA6 hK6 hI6
  have I9 : Inv w8 S7 (X6) := hI6
  have q7 : f 7 = vs6 4 := (hA6.at_ 0 rfl _ rfl).1 _ rfl
  have r4 : PtS S7 (vs6 4) ((⟨a0⟩ : PRef Search_player).v) := (hA6.at_ 0 rfl _ rfl).2
  refine af_ rfl rfl (bx_ (v := (vs6 4)) rfl q7 r4 ?_)
  refine ⟨_, _, rfl, PH.Le.refl _, ?_, ?_⟩
  ·
   exact rfl
  ·
   exact I9
 ·
  intro vs7 f w9 S8 X7 le8 hA7 hK7 hI7
  have I10 : Inv w9 S8 (X7) := hI7
  have q8 : f 7 = vs7 4 := (hA7.at_ 0 rfl _ rfl).1 _ rfl
  have r5 : PtS S8 (vs7 4) ((⟨a0⟩ : PRef Search_player).v) := (hA7.at_ 0 rfl _ rfl).2
  have q9 : f 8 = (vs7 4) := vt (hA7.at_ 1 rfl _ rfl) rfl
  refine af_ rfl rfl (aj_ (v := (vs7 4)) rfl ff_ q9 (r5.at_ I10) ?_)
  refine ⟨_, _, rfl, PH.Le.refl _, ?_, ?_⟩
  ·
   exact rfl
  ·
   exact I10
 ·
  intro vs8 f w10 S9 X8 le9 hA8 hK8 hI8
  have I11 : Inv w10 S9 (X8) := hI8
  have q10 : f 7 = vs8 4 := (hA8.at_ 0 rfl _ rfl).1 _ rfl
  have r6 : PtS S9 (vs8 4) ((⟨a0⟩ : PRef Search_player).v) := (hA8.at_ 0 rfl _ rfl).2
  have q11 : f 8 = (vs8 4) := vt (hA8.at_ 1 rfl _ rfl) rfl
  have q12 : f 9 = (am_ (vs8 4) 5) := vt (hA8.at_ 2 rfl _ rfl) rfl
  refine af_ rfl rfl (aq_ (v := (am_ (vs8 4) 5)) (e := ((⟨a0⟩ : PRef Search_player).v).memory) rfl mh_ q12 ((r6.at_ I11).fld Search_player.fld3) (fun u8 hu8 => ?_))
  obtain ⟨z2, m2, k2, e2⟩ := ak_ hu8
  subst e2
  refine ⟨_, _, rfl, PH.Le.refl _, ?_, ?_⟩
  ·
   exact hu8
  ·
   exact I11
 ·
  intro vs9 f w11 S10 X9 le10 hA9 hK9 hI9
  have I12 : Inv w11 S10 (X9) := hI9
  refine af_ rfl rfl (fk_ (fv := #[]) (cv := #[(Value.pointer (some ⟨g1, 0, none⟩))]) rfl arr0 (arr1 (hK9 1 (be_ rfl))) ?_)
  refine ⟨_, _, rfl, PH.Le.refl _, ?_, ?_⟩
  ·
   exact rfl
  ·
   exact I12
 ·
  intro vs10 f w12 S11 X10 le11 hA10 hK10 hI10
  have I13 : Inv w12 S11 (X10) := hI10
  have q13 : f 10 = vs10 7 := (hA10.at_ 3 rfl _ rfl).1 _ rfl
  have r7 : RV S11 (vs10 7) (((⟨a0⟩ : PRef Search_player).v).memory) := (hA10.at_ 3 rfl _ rfl).2
  obtain ⟨u9, hu9⟩ : ∃ u, vs10 7 = u := ⟨_, rfl⟩
  rw [hu9] at q13 r7
  obtain ⟨z3, m3, k3, e3⟩ := ak_ r7
  subst e3
  have q14 : f 11 = (Value.func (.func 88) #[] #[(Value.pointer (some ⟨g1, 0, none⟩))]) := vt (hA10.at_ 4 rfl _ rfl) rfl
  refine af_ rfl rfl (bl_ (vs := [(Value.slice z3 m3 k3), (Value.func (.func 88) #[] #[(Value.pointer (some ⟨g1, 0, none⟩))])]) (r := (Value.int .i64 (x1))) rfl ca87 rfl (fb_ q13 q14) I13 (fun Fr_ hF_ => ns_ hF_ r7 ⟨88, [(Value.pointer (some ⟨g1, 0, none⟩))], rfl, ca88, fun T_ w_ Fr_ u_ x_ r_ hle_ hI_ hu_ hr_ => F88_ok hI_ hu_ ((p1.mono le11).mono hle_) hr_⟩ hx1) (fun w13 I14 => ?_))
  refine ⟨_, _, rfl, PH.Le.refl _, ?_, ?_⟩
  ·
   exact rfl
  ·
   exact I14
 ·
  intro vs11 f w14 S12 X11 le12 hA11 hK11 hI11
  have I15 : Inv w14 S12 (X11) := hI11
  have q15 : f 6 = vs11 3 := (hA11.at_ 3 rfl _ rfl).1 _ rfl
  have r8 : RV S12 (vs11 3) (((⟨a0⟩ : PRef Search_player).v).memory) := (hA11.at_ 3 rfl _ rfl).2
  obtain ⟨u10, hu10⟩ : ∃ u, vs11 3 = u := ⟨_, rfl⟩
  rw [hu10] at q15 r8
  obtain ⟨z4, m4, k4, e4⟩ := ak_ r8
  subst e4
  have q16 : f 12 = (Value.int .i64 (x1)) := vt (hA11.at_ 9 rfl _ rfl) rfl
  refine af_ rfl rfl (ao_ (v := (Value.slice z4 m4 k4)) (i := x1) (e := x2) rfl Try.underlying89 dy_ q15 r8 q16 hx2 ?_)
  refine ⟨_, _, rfl, PH.Le.refl _, ?_, ?_⟩
  ·
   show (ah_ (Value.slice z4 m4 k4) (x1) (Enc.sz Search_gone)) = (ah_ (vs11 3) (x1) (Enc.sz Search_gone))
   simp only [hu10] <;> rfl
  ·
   exact I15
 ·
  intro vs12 f w15 S13 X12 le13 hA12 hK12 hI12
  have I16 : Inv w15 S13 (X12) := hI12
  have q17 : f 6 = vs12 3 := (hA12.at_ 3 rfl _ rfl).1 _ rfl
  have r9 : RV S13 (vs12 3) (((⟨a0⟩ : PRef Search_player).v).memory) := (hA12.at_ 3 rfl _ rfl).2
  obtain ⟨u11, hu11⟩ : ∃ u, vs12 3 = u := ⟨_, rfl⟩
  rw [hu11] at q17 r9
  obtain ⟨z5, m5, k5, e5⟩ := ak_ r9
  subst e5
  have q18 : f 12 = (Value.int .i64 (x1)) := vt (hA12.at_ 9 rfl _ rfl) rfl
  have q19 : f 13 = (ah_ (vs12 3) (x1) (Enc.sz Search_gone)) := vt (hA12.at_ 10 rfl _ rfl) rfl
  simp only [hu11] at q19
  have q19 : f 13 = (ah_ (Value.slice z5 m5 k5) (x1) (Enc.sz Search_gone)) := q19
  refine af_ rfl rfl (aj_ (v := (ah_ (Value.slice z5 m5 k5) (x1) (Enc.sz Search_gone))) rfl fa103_1 q19 (r9.elem I16.in_ hx2) ?_)
  refine ⟨_, _, rfl, PH.Le.refl _, ?_, ?_⟩
  ·
   show (am_ (ah_ (Value.slice z5 m5 k5) (x1) (Enc.sz Search_gone)) 1) = (am_ (ah_ (vs12 3) (x1) (Enc.sz Search_gone)) 1)
   simp only [hu11] <;> rfl
  ·
   exact I16
 ·
  intro vs13 f w16 S14 X13 le14 hA13 hK13 hI13
  have I17 : Inv w16 S14 (X13) := hI13
  have q20 : f 6 = vs13 3 := (hA13.at_ 3 rfl _ rfl).1 _ rfl
  have r10 : RV S14 (vs13 3) (((⟨a0⟩ : PRef Search_player).v).memory) := (hA13.at_ 3 rfl _ rfl).2
  obtain ⟨u12, hu12⟩ : ∃ u, vs13 3 = u := ⟨_, rfl⟩
  rw [hu12] at q20 r10
  obtain ⟨z6, m6, k6, e6⟩ := ak_ r10
  subst e6
  have q21 : f 12 = (Value.int .i64 (x1)) := vt (hA13.at_ 9 rfl _ rfl) rfl
  have q22 : f 13 = (ah_ (vs13 3) (x1) (Enc.sz Search_gone)) := vt (hA13.at_ 10 rfl _ rfl) rfl
  simp only [hu12] at q22
  have q22 : f 13 = (ah_ (Value.slice z6 m6 k6) (x1) (Enc.sz Search_gone)) := q22
  have q23 : f 14 = (am_ (ah_ (vs13 3) (x1) (Enc.sz Search_gone)) 1) := vt (hA13.at_ 11 rfl _ rfl) rfl
  simp only [hu12] at q23
  have q23 : f 14 = (am_ (ah_ (Value.slice z6 m6 k6) (x1) (Enc.sz Search_gone)) 1) := q23
  refine af_ rfl rfl (av_ (v := (am_ (ah_ (Value.slice z6 m6 k6) (x1) (Enc.sz Search_gone)) 1)) (e := x2.edge) rfl sh3 q23 ((r10.elem I17.in_ hx2).fld Search_gone.fld1) ?_)
  refine ⟨_, _, rfl, PH.Le.refl _, ?_, ?_⟩
  ·
   exact rfl
  ·
   exact I17
 ·
  intro vs14 f w17 S15 X14 le15 hA14 hK14 hI14
  have I18 : Inv w17 S15 (X14) := hI14
  have q24 : f 15 = (Value.int .i64 (x2.edge)) := vt (hA14.at_ 12 rfl _ rfl) rfl
  refine af_ rfl rfl (ae_ (v := (Value.int .i64 (x2.edge))) rfl q24 ?_)
  refine ⟨_, _, rfl, PH.Le.refl _, ?_, ?_⟩
  ·
   exact rfl
  ·
   exact I18
 ·
  intro vs15 f w18 S16 ed1 le16 hF1 hK15 hI15
  have I19 : Inv w18 S16 (Fr) := hI15
  have q25 : f 2 = (Value.int .i64 (x2.edge)) := vt (hF1.at_ 13 rfl _ rfl) rfl
  refine aw_ ?_
  obtain rfl := Option.some.inj h
  exact ⟨(ed1.trans rfl), (Value.int .i64 (x2.edge)), (cx_ rfl q25), _, [], (le1.trans le16), I19, rfl, rfl⟩
set_option maxHeartbeats 4000000 in
set_option maxRecDepth 100000 in
theorem F68_ok {w : World} {S : PH} {Fr : List HP} {a0 : Search_player} {v0 : Value} {r : Int} (hI : Inv w S (Fr)) (h0_ : PtS S v0 a0) (h : F68 a0 = some r) :
    Calls Try.prog 68 [v0].toArray w (dd_ S Fr (Value.int .i64 (r))) := by
 unfold F68 at h
 refine bd_ (n := 21) (vs := [v0]) Try.func68 rfl rfl rfl ?_
 refine ad_ ?_
 refine ab_ ?_
 refine aa_ rfl (ae_ (v := (Value.int .i64 (0))) rfl rfl ?_)
 refine ag_ ?_
 refine ad_ ?_
 refine ad_ ?_
 refine ab_ ?_
 refine aa_ rfl (ac_ (v := v0) rfl rfl ?_)
 refine aa_ rfl (ac_ (v := v0) rfl rfl ?_)
 refine aa_ rfl (bx_ (v := v0) rfl rfl h0_ ?_)
 refine aa_ rfl (aj_ (v := v0) rfl ej_ rfl (h0_.at_ hI) ?_)
 refine aa_ rfl (av_ (v := (am_ v0 4)) (e := a0.at_) rfl sh3 rfl ((h0_.at_ hI).fld Search_player.fld2) ?_)
 obtain ⟨x1, hx1, h⟩ := bnd h
 refine aa_ rfl (bl_ (vs := [v0, (Value.int .i64 (a0.at_))]) (r := (Value.int .i64 (x1))) rfl ca80 rfl (fb_ rfl rfl) hI (fun Fr_ hF_ => nw_ hF_ h0_ hx1) (fun w1 I1 => ?_))
 refine aa_ rfl (ae_ (v := (Value.int .i64 (x1))) rfl rfl ?_)
 refine ag_ ?_
 refine ad_ ?_
 refine ab_ ?_
 refine aa_ rfl (ac_ (v := (Value.int .i64 (x1))) rfl rfl ?_)
 refine aa_ rfl (fd_ (a := x1) (b := 0) rfl rfl rfl ?_)
 refine ag_ ?_
 rcases ifs h with ⟨hc1, h⟩ | ⟨hc1, h⟩
 ·
  refine an_ (b := decide (0 ≤ x1)) rfl hc1 ?_
  refine ad_ ?_
  refine ab_ ?_
  refine aa_ rfl (ac_ (v := (Value.int .i64 (x1))) rfl rfl ?_)
  refine aa_ rfl (ae_ (v := (Value.int .i64 (x1))) rfl rfl ?_)
  refine ag_ ?_
  refine aw_ ?_
  obtain rfl := Option.some.inj h
  exact ⟨rfl, (Value.int .i64 (x1)), (cx_ rfl rfl), _, [], (PH.Le.refl _), I1, rfl, rfl⟩
 ·
  refine ap_ (b := decide (0 ≤ x1)) rfl hc1 ?_
  refine ar_ ?_
  refine ad_ ?_
  refine ad_ ?_
  refine ab_ ?_
  refine aa_ rfl (ac_ (v := v0) rfl rfl ?_)
  obtain ⟨x2, hx2, h⟩ := bnd h
  refine aa_ rfl (bl_ (vs := [v0]) (r := (Value.int .i64 (x2))) rfl ca81 rfl (ks_ rfl) I1 (fun Fr_ hF_ => F81_ok hF_ h0_ hx2) (fun w2 I2 => ?_))
  refine aa_ rfl (ae_ (v := (Value.int .i64 (x2))) rfl rfl ?_)
  refine ag_ ?_
  refine ad_ ?_
  refine ab_ ?_
  refine aa_ rfl (ac_ (v := (Value.int .i64 (x2))) rfl rfl ?_)
  refine aa_ rfl (fd_ (a := x2) (b := 0) rfl rfl rfl ?_)
  refine ag_ ?_
  rcases ifs h with ⟨hc2, h⟩ | ⟨hc2, h⟩
  ·
   refine an_ (b := decide (0 ≤ x2)) rfl hc2 ?_
   refine ad_ ?_
   refine ab_ ?_
   refine aa_ rfl (ac_ (v := (Value.int .i64 (x2))) rfl rfl ?_)
   refine aa_ rfl (ae_ (v := (Value.int .i64 (x2))) rfl rfl ?_)
   refine ag_ ?_
   refine aw_ ?_
   obtain rfl := Option.some.inj h
   exact ⟨rfl, (Value.int .i64 (x2)), (cx_ rfl rfl), _, [], (PH.Le.refl _), I2, rfl, rfl⟩
  ·
   refine ap_ (b := decide (0 ≤ x2)) rfl hc2 ?_
   refine ar_ ?_
   refine ad_ ?_
   refine ab_ ?_
   refine aa_ rfl (ac_ (v := v0) rfl rfl ?_)
   obtain ⟨x3, hx3, h⟩ := bnd h
   refine aa_ rfl (bl_ (vs := [v0]) (r := (Value.int .i64 (x3))) rfl ca82 rfl (ks_ rfl) I2 (fun Fr_ hF_ => F82_ok hF_ h0_ hx3) (fun w3 I3 => ?_))
   refine aa_ rfl (ae_ (v := (Value.int .i64 (x3))) rfl rfl ?_)
   refine ag_ ?_
   refine aw_ ?_
   obtain rfl := Option.some.inj h
   exact ⟨rfl, (Value.int .i64 (x3)), (cx_ rfl rfl), _, [], (PH.Le.refl _), I3, rfl, rfl⟩
set_option maxHeartbeats 4000000 in
set_option maxRecDepth 100000 in
theorem F84_ok {w : World} {S : PH} {Fr : List HP} {a0 : Search_gone} {v0 : Value} {a1 : Search_gone} {v1 : Value} {r : Bool} (hI : Inv w S (Fr)) (h0_ : RV S v0 a0) (h1_ : PtS S v1 a1) (h : F84 a0 a1 = some r) :
    Calls Try.prog 84 [v0, v1].toArray w (dd_ S Fr (Value.bool (r))) := by
 unfold F84 at h
 have e1 := Search_gone.inv h0_
 subst e1
 refine bd_ (n := 7) (vs := [(Value.agg #[(Value.int .i64 (a0.position)), (Value.int .i64 (a0.edge))]), v1]) Try.func84 rfl rfl rfl ?_
 refine ad_ ?_
 refine ab_ ?_
 refine aa_ rfl (cr_ (v := (Value.agg #[(Value.int .i64 (a0.position)), (Value.int .i64 (a0.edge))])) rfl hI rfl (fun g1 w1 I1 => ?_))
 obtain ⟨S1, le1, I2, p1⟩ := Inv.boxFreeze (x := a0) I1 (Search_gone.rv (s := a0))
 refine aa_ rfl (ae_ (v := (Value.bool (false))) rfl rfl ?_)
 refine ag_ ?_
 refine ad_ ?_
 refine ab_ ?_
 refine aa_ rfl (aq_ (v := (Value.pointer (some ⟨g1, 0, none⟩))) (e := a0) rfl dy_ rfl (p1.at_ I2) (fun u1 hu1 => ?_))
 have e2 := Search_gone.inv hu1
 subst e2
 refine aa_ rfl (aq_ (v := v1) (e := a1) rfl dy_ rfl ((h1_.mono le1).at_ I2) (fun u2 hu2 => ?_))
 have e3 := Search_gone.inv hu2
 subst e3
 refine aa_ rfl (lm_ (S := S1) (a := a0) (b := a1) (v := (Value.agg #[(Value.int .i64 (a0.position)), (Value.int .i64 (a0.edge))])) (u := (Value.agg #[(Value.int .i64 (a1.position)), (Value.int .i64 (a1.edge))])) rfl kt103 rfl (by kernel_rfl) rfl rfl (Search_gone.rv (s := a0)) (Search_gone.rv (s := a1)) ?_)
 refine aa_ rfl (ae_ (v := (Value.bool (decide (a0 = a1)))) rfl rfl ?_)
 refine ag_ ?_
 refine aw_ ?_
 obtain rfl := Option.some.inj h
 exact ⟨rfl, (Value.bool (decide (a0 = a1))), (cx_ rfl rfl), _, [], le1, I2, rfl, rfl⟩
set_option maxHeartbeats 4000000 in
set_option maxRecDepth 100000 in
theorem F83_ok {w : World} {S : PH} {Fr : List HP} {a0 : (List Search_gone)} {z0_ : Option Addr} {m0_ : Nat} {k0_ : Nat} {a1 : Search_gone → Option Bool} {v1 : Value} {r : (List Search_gone)} (hI : Inv w S (Row (α := Search_gone) 103 (Value.slice z0_ m0_ k0_) (a0) :: Fr)) (h1_ : FnV Try.prog S v1 a1) (h : F83 a0 a1 = some r) :
    Calls Try.prog 83 [(Value.slice z0_ m0_ k0_), v1].toArray w (ky_ S Fr (fun T_ v_ O_ => ∃ (a0_ : Option Addr) (n0_ k0_ : Nat), v_ = (Value.slice a0_ n0_ k0_) ∧ O_ = [Row (α := Search_gone) 103 (Value.slice a0_ n0_ k0_) (r)])) := by
 unfold F83 at h
 refine bd_ (n := 42) (vs := [(Value.slice z0_ m0_ k0_), v1]) Try.func83 rfl rfl rfl ?_
 refine ad_ ?_
 refine ab_ ?_
 refine aa_ rfl (ae_ (v := (Value.slice none 0 0)) rfl rfl ?_)
 refine ag_ ?_
 refine ad_ ?_
 refine ab_ ?_
 refine aa_ rfl (ac_ (v := (Value.slice z0_ m0_ k0_)) rfl rfl ?_)
 refine aa_ rfl (ac_ (v := v1) rfl rfl ?_)
 obtain ⟨x1, hx1, h⟩ := bnd h
 obtain ⟨S1, Fr1, le1, I1, r1, bk1⟩ := Inv.lend1 hI
 refine aa_ rfl (cu_ (vs := [(Value.slice z0_ m0_ k0_), v1]) rfl ca87 rfl (fb_ rfl rfl) (ns_ I1 r1 (h1_.mono le1) hx1) (fun cv1 w1 S2 O1 le2 I3 hv1 => ?_))
 obtain ⟨rfl, rfl⟩ := hv1
 have I2 := bk1 [] trivial I3 le2
 refine aa_ rfl (ae_ (v := (Value.int .i64 (x1))) rfl rfl ?_)
 refine ag_ ?_
 refine ad_ ?_
 refine ad_ ?_
 refine ab_ ?_
 refine aa_ rfl (ac_ (v := (Value.int .i64 (x1))) rfl rfl ?_)
 refine aa_ rfl (es_ (a := x1) (b := (-1)) rfl rfl rfl ?_)
 refine ag_ ?_
 rcases ifs h with ⟨hc1, h⟩ | ⟨hc1, h⟩
 ·
  refine an_ (b := x1 == (-1)) rfl hc1 ?_
  refine ad_ ?_
  refine ab_ ?_
  refine aa_ rfl (ac_ (v := (Value.slice z0_ m0_ k0_)) rfl rfl ?_)
  refine aa_ rfl (ae_ (v := (Value.slice z0_ m0_ k0_)) rfl rfl ?_)
  refine ag_ ?_
  refine aw_ ?_
  obtain rfl := Option.some.inj h
  exact ⟨rfl, (Value.slice z0_ m0_ k0_), (cx_ rfl rfl), _, [Row (α := Search_gone) 103 (Value.slice z0_ m0_ k0_) (a0)], (PH.Le.refl _), I2, _, _, _, rfl, rfl⟩
 ·
  refine ap_ (b := x1 == (-1)) rfl hc1 ?_
  refine ar_ ?_
  refine ad_ ?_
  refine ad_ ?_
  refine ab_ ?_
  refine aa_ rfl (ac_ (v := (Value.int .i64 (x1))) rfl rfl ?_)
  refine aa_ rfl (bs_ (a := x1) (b := 1) rfl rfl rfl ?_)
  refine aa_ rfl (ae_ (v := (Value.int .i64 (w64 (x1 + 1)))) rfl rfl ?_)
  refine ag_ ?_
  obtain ⟨out1, hrun1, h⟩ := bnd h
  refine cf_ (fun f w => Inv w S (Row (α := Search_gone) 103 (Value.slice z0_ m0_ k0_) (out1.1) :: Fr) ∧ f 0 = (Value.slice z0_ m0_ k0_) ∧ f 1 = v1 ∧ f 5 = (Value.int .i64 (out1.2.1)) ∧ f 6 = (Value.int .i64 (out1.2.2)) ∧ f.ds = []) ?_ ?_
  ·
   refine au_ ?_
   refine co_ (I := fun (s1 : (List Search_gone × Int × Int)) (f : Frm) (w : World) => Inv w S (Row (α := Search_gone) 103 (Value.slice z0_ m0_ k0_) (s1.1) :: Fr) ∧ f 0 = (Value.slice z0_ m0_ k0_) ∧ f 1 = v1 ∧ f 5 = (Value.int .i64 (s1.2.1)) ∧ f 6 = (Value.int .i64 (s1.2.2)) ∧ f.ds = []) hrun1 ⟨I2, rfl, rfl, rfl, rfl, rfl⟩ ?_
   rintro s1 f w o1 hI1 h1 hout1
   obtain ⟨I34, e31, e32, e33, e34, ed7⟩ := hI1
   refine ad_ ?_
   refine ad_ ?_
   refine ab_ ?_
   refine aa_ rfl (ac_ (v := (Value.int .i64 (s1.2.2))) rfl e34 ?_)
   refine aa_ rfl (ac_ (v := (Value.slice z0_ m0_ k0_)) rfl e31 ?_)
   refine aa_ rfl (bu_ (α := Search_gone) rfl Try.underlying89 rfl (I34.nth 0 rfl) ?_)
   refine aa_ rfl (bn_ (a := s1.2.2) (b := (s1.1.length : Int)) rfl rfl rfl ?_)
   refine ag_ ?_
   rcases ifs h1 with ⟨hc14, h1⟩ | ⟨hc14, h1⟩
   ·
    refine an_ (b := decide (s1.2.2 < (s1.1.length : Int))) rfl hc14 ?_
    refine ar_ ?_
    refine ad_ ?_
    refine au_ ?_
    refine ad_ ?_
    refine ab_ ?_
    refine aa_ rfl (ac_ (v := (Value.slice z0_ m0_ k0_)) rfl e31 ?_)
    refine aa_ rfl (ac_ (v := (Value.int .i64 (s1.2.2))) rfl e34 ?_)
    obtain ⟨x20, hx20, h1⟩ := bnd h1
    refine aa_ rfl (bh_ (v := (Value.slice z0_ m0_ k0_)) (i := s1.2.2) (e := x20) rfl Try.underlying89 dy_ rfl (Inv.rowSrc (I34.nth 0 rfl)) rfl hx20 ?_)
    refine aa_ rfl (aq_ (v := (ah_ (Value.slice z0_ m0_ k0_) (s1.2.2) (Enc.sz Search_gone))) (e := x20) rfl dy_ rfl ((I34.nth 0 rfl).rowElem hx20) (fun u7 hu7 => ?_))
    have e35 := Search_gone.inv hu7
    subst e35
    refine aa_ rfl (cl_ (z := (Value.agg #[(Value.int .i64 (0)), (Value.int .i64 (0))])) rfl I34 zo103 (fun g7 w26 (I35 : Inv w26 S (ax_ g7 103 #[(Value.int .i64 (0)), (Value.int .i64 (0))] :: Row (α := Search_gone) 103 (Value.slice z0_ m0_ k0_) (s1.1) :: Fr)) => ?_))
    refine aa_ rfl (bo_ (v := (Value.agg #[(Value.int .i64 (x20.position)), (Value.int .i64 (x20.edge))])) (cs := #[(Value.int .i64 (0)), (Value.int .i64 (0))]) dy_ I35 rfl rfl rfl (Nat.le_of_ble_eq_true rfl) rfl (fun w27 (I36 : Inv w27 S (ax_ g7 103 #[(Value.int .i64 (x20.position)), (Value.int .i64 (x20.edge))] :: Row (α := Search_gone) 103 (Value.slice z0_ m0_ k0_) (s1.1) :: Fr)) => ?_))
    refine ag_ ?_
    refine ad_ ?_
    refine ab_ ?_
    refine aa_ rfl (ac_ (v := v1) rfl e32 ?_)
    refine aa_ rfl (cg_ (l := [(Value.int .i64 (x20.position)), (Value.int .i64 (x20.edge))]) rfl dy_ (I36.nth 0 rfl) rfl rfl rfl ?_)
    obtain ⟨x21, hx21, h1⟩ := bnd h1
    refine aa_ rfl (fy_ (v := v1) (u := (Value.agg #[(Value.int .i64 (x20.position)), (Value.int .i64 (x20.edge))])) (r := x21) rfl rfl h1_ rfl (Search_gone.rv (s := x20)) hx21 I36 (fun w28 I37 => ?_))
    refine aa_ rfl (dm_ (b := x21) rfl rfl ?_)
    refine ag_ ?_
    rcases ifs h1 with ⟨hc15, h1⟩ | ⟨hc15, h1⟩
    ·
     refine an_ (b := !x21) rfl hc15 ?_
     refine ad_ ?_
     refine ab_ ?_
     refine aa_ rfl (ac_ (v := (Value.slice z0_ m0_ k0_)) rfl e31 ?_)
     refine aa_ rfl (ac_ (v := (Value.int .i64 (s1.2.1))) rfl e33 ?_)
     refine aa_ rfl (cg_ (l := [(Value.int .i64 (x20.position)), (Value.int .i64 (x20.edge))]) rfl dy_ (I37.nth 0 rfl) rfl rfl rfl ?_)
     obtain ⟨x22, hx22, h1⟩ := bnd h1
     refine aa_ rfl (bh_ (v := (Value.slice z0_ m0_ k0_)) (i := s1.2.1) (e := x22) rfl Try.underlying89 dy_ rfl (Inv.rowSrc (I37.nth 1 rfl)) rfl hx22 ?_)
     refine aa_ rfl (dp_ (u := (Value.agg #[(Value.int .i64 (x20.position)), (Value.int .i64 (x20.edge))])) (e' := x20) dy_ (I37.pull 1) rfl rfl hx22 (Search_gone.rv (s := x20)) (fun w29 I38 => ?_))
     refine ag_ ?_
     refine ab_ ?_
     refine aa_ rfl (ac_ (v := (Value.int .i64 (s1.2.1))) rfl e33 ?_)
     refine aa_ rfl (bs_ (a := s1.2.1) (b := 1) rfl rfl rfl ?_)
     refine aa_ rfl (ae_ (v := (Value.int .i64 (w64 (s1.2.1 + 1)))) rfl rfl ?_)
     refine ag_ ?_
     refine ab_ ?_
     refine aa_ rfl (ac_ (v := (Value.int .i64 (s1.2.2))) rfl e34 ?_)
     refine aa_ rfl (bs_ (a := s1.2.2) (b := 1) rfl rfl rfl ?_)
     refine aa_ rfl (ae_ (v := (Value.int .i64 (w64 (s1.2.2 + 1)))) rfl rfl ?_)
     refine ag_ ?_
     obtain rfl := Option.some.inj h1
     exact ⟨_, rfl, (I38.pull 1).drop, e31, e32, rfl, rfl, ed7⟩
    ·
     refine ap_ (b := !x21) rfl hc15 ?_
     refine ar_ ?_
     refine ab_ ?_
     refine aa_ rfl (ac_ (v := (Value.int .i64 (s1.2.2))) rfl e34 ?_)
     refine aa_ rfl (bs_ (a := s1.2.2) (b := 1) rfl rfl rfl ?_)
     refine aa_ rfl (ae_ (v := (Value.int .i64 (w64 (s1.2.2 + 1)))) rfl rfl ?_)
     refine ag_ ?_
     obtain rfl := Option.some.inj h1
     exact ⟨_, rfl, (I37).drop, e31, e32, e33, rfl, ed7⟩
   ·
    refine ap_ (b := decide (s1.2.2 < (s1.1.length : Int))) rfl hc14 ?_
    refine bm_ ?_
    obtain rfl := Option.some.inj h1
    obtain rfl := (hout1 _ rfl)
    exact ⟨I34, e31, e32, e33, e34, ed7⟩
  ·
   rintro f w ⟨I39, e36, e37, e38, e39, ed8⟩
   refine ad_ ?_
   refine ab_ ?_
   refine aa_ rfl (ac_ (v := (Value.slice z0_ m0_ k0_)) rfl e36 ?_)
   refine aa_ rfl (ac_ (v := (Value.int .i64 (out1.2.1))) rfl e38 ?_)
   obtain ⟨x23, hx23, h⟩ := bnd h
   refine aa_ rfl (ji_ (v := (Value.slice z0_ m0_ k0_)) (lo := out1.2.1) rfl Try.underlying89 dy_ rfl I39 rfl hx23 (fun u8 hu8 => ?_))
   refine aa_ rfl (mq_ (u := u8) (b := (out1.2.1).toNat) rfl Try.underlying89 el103 rfl I39 (sub_le hx23) hu8 (fun w30 I40 => ?_))
   refine ag_ ?_
   refine ad_ ?_
   refine ab_ ?_
   refine aa_ rfl (ac_ (v := (Value.slice z0_ m0_ k0_)) rfl e36 ?_)
   refine aa_ rfl (ac_ (v := (Value.int .i64 (out1.2.1))) rfl e38 ?_)
   obtain ⟨x24, hx24, h⟩ := bnd h
   refine aa_ rfl (hp_ (v := (Value.slice z0_ m0_ k0_)) (hi := out1.2.1) rfl Try.underlying89 dy_ rfl I40 rfl hx24 (fun u9 I41 => ?_))
   obtain ⟨z1, m1, k1, e40⟩ := bt_ I41
   subst e40
   refine aa_ rfl (ae_ (v := (Value.slice z1 m1 k1)) rfl rfl ?_)
   refine ag_ ?_
   refine aw_ ?_
   obtain rfl := Option.some.inj h
   exact ⟨ed8, (Value.slice z1 m1 k1), (cx_ rfl rfl), _, [Row (α := Search_gone) 103 (Value.slice z1 m1 k1) (x24)], (PH.Le.refl _), I41, _, _, _, rfl, rfl⟩
set_option maxHeartbeats 4000000 in
set_option maxRecDepth 100000 in
theorem F69_ok {w : World} {S : PH} {Fr : List HP} {a0 : Search_player} {g0_ : Nat} {c0_0 : Value} {c0_1 : Value} {z0_5 : Option Addr} {m0_5 : Nat} {k0_5 : Nat} {a1 : Int} {r : Search_player} (hI : Inv w S (ax_ g0_ 91 #[c0_0, c0_1, (Value.int .i64 (a0.Mind.Memory)), (Value.int .i64 (a0.Mind.Turn)), (Value.int .i64 (a0.at_)), (Value.slice z0_5 m0_5 k0_5)] :: Row (α := Search_gone) 103 (Value.slice z0_5 m0_5 k0_5) (a0.memory) :: Fr)) (r0_0 : RV S c0_0 a0.view.edges) (r0_1 : RV S c0_1 a0.view.distances) (h : F69 a0 a1 = some r) :
    Calls Try.prog 69 [(Value.pointer (some ⟨g0_, 0, none⟩)), (Value.int .i64 (a1))].toArray w (ky_ S Fr (fun T_ v_ O_ => ∃ (c0_0 : Value) (c0_1 : Value) (a0_5 : Option Addr) (n0_5 k0_5 : Nat), v_ = (Value.tuple #[]) ∧ O_ = [ax_ g0_ 91 #[c0_0, c0_1, (Value.int .i64 (r.Mind.Memory)), (Value.int .i64 (r.Mind.Turn)), (Value.int .i64 (r.at_)), (Value.slice a0_5 n0_5 k0_5)], Row (α := Search_gone) 103 (Value.slice a0_5 n0_5 k0_5) (r.memory)] ∧ RV T_ c0_0 (r.view.edges) ∧ RV T_ c0_1 (r.view.distances))) := by
 unfold F69 at h
 obtain ⟨z1, m1, k1, e1⟩ := ak_ r0_0
 subst e1
 obtain ⟨z2, m2, k2, e2⟩ := ak_ r0_1
 subst e2
 refine bd_ (n := 65) (vs := [(Value.pointer (some ⟨g0_, 0, none⟩)), (Value.int .i64 (a1))]) Try.func69 rfl rfl rfl ?_
 refine ad_ ?_
 refine ab_ ?_
 refine aa_ rfl (ac_ (v := (Value.pointer (some ⟨g0_, 0, none⟩))) rfl rfl ?_)
 refine aa_ rfl (bp_ (v := (Value.pointer (some ⟨g0_, 0, none⟩))) rfl rfl rfl ?_)
 refine aa_ rfl (az_ (v := (Value.pointer (some ⟨g0_, 0, none⟩))) rfl ej_ rfl rfl ?_)
 refine aa_ rfl (bz_ (c := (Value.int .i64 (a0.at_))) rfl sh3 (hI.nth 0 rfl) rfl rfl ?_)
 refine aa_ rfl (ac_ (v := (Value.int .i64 (a1))) rfl rfl ?_)
 refine aa_ rfl (cw_ (qs := [(0, #[(Value.int .i64 (a0.at_))]), (1, #[(Value.int .i64 (a1))])]) (c := #[(Value.int .i64 (a0.at_)), (Value.int .i64 (a1))]) rfl st103 ⟨rfl, rfl, ⟨rfl, rfl, trivial⟩⟩ rfl ?_)
 refine aa_ rfl (cl_ (z := (Value.agg #[(Value.int .i64 (0)), (Value.int .i64 (0))])) rfl hI zo103 (fun g1 w1 (I1 : Inv w1 S (ax_ g1 103 #[(Value.int .i64 (0)), (Value.int .i64 (0))] :: ax_ g0_ 91 #[(Value.slice z1 m1 k1), (Value.slice z2 m2 k2), (Value.int .i64 (a0.Mind.Memory)), (Value.int .i64 (a0.Mind.Turn)), (Value.int .i64 (a0.at_)), (Value.slice z0_5 m0_5 k0_5)] :: Row (α := Search_gone) 103 (Value.slice z0_5 m0_5 k0_5) (a0.memory) :: Fr)) => ?_))
 refine aa_ rfl (bo_ (v := (Value.agg #[(Value.int .i64 (a0.at_)), (Value.int .i64 (a1))])) (cs := #[(Value.int .i64 (0)), (Value.int .i64 (0))]) dy_ I1 rfl rfl rfl (Nat.le_of_ble_eq_true rfl) rfl (fun w2 (I2 : Inv w2 S (ax_ g1 103 #[(Value.int .i64 (a0.at_)), (Value.int .i64 (a1))] :: ax_ g0_ 91 #[(Value.slice z1 m1 k1), (Value.slice z2 m2 k2), (Value.int .i64 (a0.Mind.Memory)), (Value.int .i64 (a0.Mind.Turn)), (Value.int .i64 (a0.at_)), (Value.slice z0_5 m0_5 k0_5)] :: Row (α := Search_gone) 103 (Value.slice z0_5 m0_5 k0_5) (a0.memory) :: Fr)) => ?_))
 obtain ⟨S1, le1, I3, p1⟩ := Inv.boxFreeze (u := (Value.agg #[(Value.int .i64 (a0.at_)), (Value.int .i64 (a1))])) (x := (⟨a0.at_, a1⟩ : Search_gone)) I2 (Search_gone.rv (s := (⟨a0.at_, a1⟩ : Search_gone)))
 refine ag_ ?_
 refine ad_ ?_
 refine ab_ ?_
 refine aa_ rfl (ac_ (v := (Value.pointer (some ⟨g0_, 0, none⟩))) rfl rfl ?_)
 refine aa_ rfl (ac_ (v := (Value.pointer (some ⟨g0_, 0, none⟩))) rfl rfl ?_)
 refine aa_ rfl (bp_ (v := (Value.pointer (some ⟨g0_, 0, none⟩))) rfl rfl rfl ?_)
 refine aa_ rfl (az_ (v := (Value.pointer (some ⟨g0_, 0, none⟩))) rfl ff_ rfl rfl ?_)
 refine aa_ rfl (bz_ (c := (Value.slice z0_5 m0_5 k0_5)) rfl mh_ (I3.nth 0 rfl) rfl rfl ?_)
 refine aa_ rfl (fk_ (fv := #[]) (cv := #[(Value.pointer (some ⟨g1, 0, none⟩))]) rfl arr0 (arr1 rfl) ?_)
 obtain ⟨x1, hx1, h⟩ := bnd h
 refine aa_ rfl (cu_ (vs := [(Value.slice z0_5 m0_5 k0_5), (Value.func (.func 84) #[] #[(Value.pointer (some ⟨g1, 0, none⟩))])]) rfl ca83 rfl (fb_ rfl rfl) (F83_ok (I3.pull 1) ⟨84, [(Value.pointer (some ⟨g1, 0, none⟩))], rfl, ca84, fun T_ w_ Fr_ u_ x_ r_ hle_ hI_ hu_ hr_ => F84_ok hI_ hu_ (p1.mono hle_) hr_⟩ hx1) (fun cv1 w3 S2 O1 le2 I4 hv1 => ?_))
 obtain ⟨z3, m3, k3, rfl, rfl⟩ := hv1
 refine aa_ rfl (bp_ (v := (Value.pointer (some ⟨g0_, 0, none⟩))) rfl rfl rfl ?_)
 refine aa_ rfl (az_ (v := (Value.pointer (some ⟨g0_, 0, none⟩))) rfl ff_ rfl rfl ?_)
 refine aa_ rfl (bo_ (v := (Value.slice z3 m3 k3)) (cs := #[(Value.slice z1 m1 k1), (Value.slice z2 m2 k2), (Value.int .i64 (a0.Mind.Memory)), (Value.int .i64 (a0.Mind.Turn)), (Value.int .i64 (a0.at_)), (Value.slice z0_5 m0_5 k0_5)]) mh_ (I4.pull 1) rfl rfl rfl (Nat.le_of_ble_eq_true rfl) rfl (fun w4 (I5 : Inv w4 S2 (ax_ g0_ 91 #[(Value.slice z1 m1 k1), (Value.slice z2 m2 k2), (Value.int .i64 (a0.Mind.Memory)), (Value.int .i64 (a0.Mind.Turn)), (Value.int .i64 (a0.at_)), (Value.slice z3 m3 k3)] :: Row (α := Search_gone) 103 (Value.slice z3 m3 k3) (x1) :: Fr)) => ?_))
 refine ag_ ?_
 refine ad_ ?_
 obtain ⟨x2, hx2, h⟩ := bnd h
 refine cn_ (sps := [⟨some 20, [], [0], fun vs_ T_ => fr0 vs_ 0 = (Value.pointer (some ⟨g0_, 0, none⟩)), [], [], [], fun _ h_ => h_⟩, ⟨some 21, [], [1], fun vs_ T_ => fr0 vs_ 0 = (Value.pointer (some ⟨g0_, 0, none⟩)), [], [], [], fun _ h_ => h_⟩, ⟨some 22, [1], [2], fun vs_ T_ => fr0 vs_ 0 = (Value.pointer (some ⟨g0_, 0, none⟩)), [], [], [], fun _ h_ => h_⟩, ⟨some 23, [1, 2], [3], fun vs_ T_ => fr0 vs_ 0 = (Value.pointer (some ⟨g0_, 5, none⟩)), [], [], [], fun _ h_ => h_⟩, ⟨some 24, [1, 2, 3], [4], fun vs_ T_ => fr0 vs_ 0 = (Value.slice z3 m3 k3), [0], [], [], fun _ h_ => h_⟩, ⟨some 25, [], [5], fun vs_ T_ => fr0 vs_ 0 = (Value.agg #[(Value.int .i64 ((⟨a0.at_, a1⟩ : Search_gone).position)), (Value.int .i64 ((⟨a0.at_, a1⟩ : Search_gone).edge))]), [], [], [], fun _ h_ => h_⟩, ⟨some 26, [5], [6], fun vs_ T_ => ∃ a_ n_ k_, fr0 vs_ 0 = Value.slice a_ n_ k_, [], [], [1], fun _ h_ => h_⟩, ⟨some 27, [1, 2, 3, 4, 5, 6], [7], fun vs_ T_ => ∃ a_ n_ k_, fr0 vs_ 0 = Value.slice a_ n_ k_, [1], [2], [3], fun _ h_ => h_⟩, ⟨some 28, [0, 1, 2, 3, 4, 5, 6, 7], [8], fun vs_ T_ => fr0 vs_ 0 = (Value.pointer (some ⟨g0_, 0, none⟩)), [], [], [], fun _ h_ => h_⟩, ⟨some 29, [0, 1, 2, 3, 4, 5, 6, 7, 8], [9], fun vs_ T_ => fr0 vs_ 0 = (Value.pointer (some ⟨g0_, 5, none⟩)), [], [], [], fun _ h_ => h_⟩, ⟨none, [0, 1, 2, 3, 4, 5, 6, 7, 8, 9], [], fun vs_ T_ => True, [3], [0], [4], fun _ h_ => h_⟩]) (tks := [⟨none, some 10, [], fun vs_ => ax_ g0_ 91 #[(Value.slice z1 m1 k1), (Value.slice z2 m2 k2), (Value.int .i64 (a0.Mind.Memory)), (Value.int .i64 (a0.Mind.Turn)), (Value.int .i64 (a0.at_)), (Value.slice z3 m3 k3)]⟩, ⟨some 6, none, [6], fun vs_ => Row (α := Search_gone) 103 (fr0 vs_ 0) (([(⟨a0.at_, a1⟩ : Search_gone)] : List Search_gone))⟩, ⟨none, some 7, [], fun vs_ => Row (α := Search_gone) 103 (Value.slice z3 m3 k3) (x1)⟩, ⟨some 7, none, [7], fun vs_ => Row (α := Search_gone) 103 (fr0 vs_ 0) (x2)⟩, ⟨some 10, none, [7], fun vs_ => ax_ g0_ 91 #[(Value.slice z1 m1 k1), (Value.slice z2 m2 k2), (Value.int .i64 (a0.Mind.Memory)), (Value.int .i64 (a0.Mind.Turn)), (Value.int .i64 (a0.at_)), (fr0 vs_ 0)]⟩]) (O := Fr) rfl (by kernel_rfl) ((I5.pull 1).pull 1) ⟨?_, ?_, ?_, ?_, ?_, ?_, ?_, ?_, ?_, ?_, ?_, trivial⟩ ?_
 ·
  intro vs1 f w8 S3 X1 le3 hA1 hK1 hI1
  have I9 : Inv w8 S3 (X1) := hI1
  refine af_ rfl rfl (ac_ (v := (Value.pointer (some ⟨g0_, 0, none⟩))) rfl (hK1 0 (be_ rfl)) ?_)
  refine ⟨_, _, rfl, PH.Le.refl _, ?_, ?_⟩
  ·
   exact rfl
  ·
   exact I9
 ·
  intro vs2 f w9 S4 X2 le4 hA2 hK2 hI2
  have I10 : Inv w9 S4 (X2) := hI2
  refine af_ rfl rfl (ac_ (v := (Value.pointer (some ⟨g0_, 0, none⟩))) rfl (hK2 0 (be_ rfl)) ?_)
  refine ⟨_, _, rfl, PH.Le.refl _, ?_, ?_⟩
  ·
   exact rfl
  ·
   exact I10
 ·
  intro vs3 f w10 S5 X3 le5 hA3 hK3 hI3
  have I11 : Inv w10 S5 (X3) := hI3
  have q1 : f 21 = (Value.pointer (some ⟨g0_, 0, none⟩)) := vt (hA3.at_ 0 rfl _ rfl) rfl
  refine af_ rfl rfl (bp_ (v := (Value.pointer (some ⟨g0_, 0, none⟩))) rfl q1 rfl ?_)
  refine ⟨_, _, rfl, PH.Le.refl _, ?_, ?_⟩
  ·
   exact rfl
  ·
   exact I11
 ·
  intro vs4 f w11 S6 X4 le6 hA4 hK4 hI4
  have I12 : Inv w11 S6 (X4) := hI4
  have q2 : f 22 = (Value.pointer (some ⟨g0_, 0, none⟩)) := vt (hA4.at_ 1 rfl _ rfl) rfl
  refine af_ rfl rfl (az_ (v := (Value.pointer (some ⟨g0_, 0, none⟩))) rfl ff_ q2 rfl ?_)
  refine ⟨_, _, rfl, PH.Le.refl _, ?_, ?_⟩
  ·
   exact rfl
  ·
   exact I12
 ·
  intro vs5 f w12 S7 X5 le7 hA5 hK5 hI5
  have I13 : Inv w12 S7 (ax_ g0_ 91 #[(Value.slice z1 m1 k1), (Value.slice z2 m2 k2), (Value.int .i64 (a0.Mind.Memory)), (Value.int .i64 (a0.Mind.Turn)), (Value.int .i64 (a0.at_)), (Value.slice z3 m3 k3)] :: X5) := hI5
  have q3 : f 23 = (Value.pointer (some ⟨g0_, 5, none⟩)) := vt (hA5.at_ 2 rfl _ rfl) rfl
  refine af_ rfl rfl (bz_ (c := (Value.slice z3 m3 k3)) rfl mh_ (I13.nth 0 rfl) q3 rfl ?_)
  refine ⟨_, _, rfl, PH.Le.refl _, ?_, ?_⟩
  ·
   exact rfl
  ·
   exact I13
 ·
  intro vs6 f w13 S8 X6 le8 hA6 hK6 hI6
  have I14 : Inv w13 S8 (X6) := hI6
  refine af_ rfl rfl (aq_ (v := (Value.pointer (some ⟨g1, 0, none⟩))) (e := (⟨a0.at_, a1⟩ : Search_gone)) rfl dy_ (hK6 4 (be_ rfl)) ((p1.mono (le2.trans le8)).at_ I14) (fun u4 hu2 => ?_))
  have e3 := Search_gone.inv hu2
  subst e3
  refine ⟨_, _, rfl, PH.Le.refl _, ?_, ?_⟩
  ·
   exact rfl
  ·
   exact I14
 ·
  intro vs7 f w14 S9 X7 le9 hA7 hK7 hI7
  have I15 : Inv w14 S9 (X7) := hI7
  have q4 : f 25 = (Value.agg #[(Value.int .i64 ((⟨a0.at_, a1⟩ : Search_gone).position)), (Value.int .i64 ((⟨a0.at_, a1⟩ : Search_gone).edge))]) := vt (hA7.at_ 0 rfl _ rfl) rfl
  refine af_ rfl rfl (br_ (vs := [(Value.agg #[(Value.int .i64 ((⟨a0.at_, a1⟩ : Search_gone).position)), (Value.int .i64 ((⟨a0.at_, a1⟩ : Search_gone).edge))])]) (r := ([(⟨a0.at_, a1⟩ : Search_gone)] : List Search_gone)) rfl Try.underlying89 el103 (gd_ q4) rfl (by decide) (by decide) ⟨(Search_gone.rv (s := (⟨a0.at_, a1⟩ : Search_gone))), trivial⟩ I15 (fun u5 w15 I16 => ?_))
  obtain ⟨z4, m4, k4, e4⟩ := bt_ I16
  subst e4
  refine ⟨_, _, rfl, PH.Le.refl _, ?_, ?_⟩
  ·
   exact ⟨_, _, _, rfl⟩
  ·
   exact I16
 ·
  intro vs8 f w16 S10 X8 le10 hA8 hK8 hI8
  have I17 : Inv w16 S10 (Row (α := Search_gone) 103 (Value.slice z3 m3 k3) (x1) :: Row (α := Search_gone) 103 (vs8 6) (([(⟨a0.at_, a1⟩ : Search_gone)] : List Search_gone)) :: X8) := hI8
  have q5 : f 24 = (Value.slice z3 m3 k3) := vt (hA8.at_ 3 rfl _ rfl) rfl
  obtain ⟨z5, m5, k5, e5⟩ := (hA8.at_ 5 rfl _ rfl).2
  have q6 : f 26 = Value.slice z5 m5 k5 := ((hA8.at_ 5 rfl _ rfl).1 _ rfl).trans e5
  have e5 : vs8 6 = (Value.slice z5 m5 k5) := e5
  have I18 := I17
  rw [e5] at I18
  refine af_ rfl rfl (ef_ (α := Search_gone) (v := (Value.slice z3 m3 k3)) (u := (Value.slice z5 m5 k5)) rfl rfl Try.underlying89 el103 (by decide) (by decide) q5 q6 I18 (Inv.rowSrc (I18.nth 1 rfl)) hx2 (fun u6 w17 I19 => ?_))
  obtain ⟨z6, m6, k6, e6⟩ := bt_ I19
  subst e6
  refine ⟨_, _, rfl, PH.Le.refl _, ?_, ?_⟩
  ·
   exact ⟨_, _, _, rfl⟩
  ·
   show Inv _ _ (Row (α := Search_gone) 103 ((Value.slice z6 m6 k6)) (x2) :: Row (α := Search_gone) 103 (vs8 6) (([(⟨a0.at_, a1⟩ : Search_gone)] : List Search_gone)) :: X8)
   simp only [e5]
   exact ((I19.pull 1).pull 1)
 ·
  intro vs9 f w18 S11 X9 le11 hA9 hK9 hI9
  have I20 : Inv w18 S11 (X9) := hI9
  have q7 : f 20 = (Value.pointer (some ⟨g0_, 0, none⟩)) := vt (hA9.at_ 0 rfl _ rfl) rfl
  refine af_ rfl rfl (bp_ (v := (Value.pointer (some ⟨g0_, 0, none⟩))) rfl q7 rfl ?_)
  refine ⟨_, _, rfl, PH.Le.refl _, ?_, ?_⟩
  ·
   exact rfl
  ·
   exact I20
 ·
  intro vs10 f w19 S12 X10 le12 hA10 hK10 hI10
  have I21 : Inv w19 S12 (X10) := hI10
  have q8 : f 28 = (Value.pointer (some ⟨g0_, 0, none⟩)) := vt (hA10.at_ 8 rfl _ rfl) rfl
  refine af_ rfl rfl (az_ (v := (Value.pointer (some ⟨g0_, 0, none⟩))) rfl ff_ q8 rfl ?_)
  refine ⟨_, _, rfl, PH.Le.refl _, ?_, ?_⟩
  ·
   exact rfl
  ·
   exact I21
 ·
  intro vs11 f w20 S13 X11 le13 hA11 hK11 hI11
  have I22 : Inv w20 S13 (ax_ g0_ 91 #[(Value.slice z1 m1 k1), (Value.slice z2 m2 k2), (Value.int .i64 (a0.Mind.Memory)), (Value.int .i64 (a0.Mind.Turn)), (Value.int .i64 (a0.at_)), (Value.slice z3 m3 k3)] :: Row (α := Search_gone) 103 (vs11 7) (x2) :: X11) := hI11
  obtain ⟨z7, m7, k7, e7⟩ := (hA11.at_ 7 rfl _ rfl).2
  have q9 : f 27 = Value.slice z7 m7 k7 := ((hA11.at_ 7 rfl _ rfl).1 _ rfl).trans e7
  have e7 : vs11 7 = (Value.slice z7 m7 k7) := e7
  have I23 := I22
  rw [e7] at I23
  have q10 : f 29 = (Value.pointer (some ⟨g0_, 5, none⟩)) := vt (hA11.at_ 9 rfl _ rfl) rfl
  refine af_ rfl rfl (bo_ (v := (Value.slice z7 m7 k7)) (cs := #[(Value.slice z1 m1 k1), (Value.slice z2 m2 k2), (Value.int .i64 (a0.Mind.Memory)), (Value.int .i64 (a0.Mind.Turn)), (Value.int .i64 (a0.at_)), (Value.slice z3 m3 k3)]) mh_ I23 q10 q9 rfl (Nat.le_of_ble_eq_true rfl) rfl (fun w21 (I24 : Inv w21 S13 (ax_ g0_ 91 #[(Value.slice z1 m1 k1), (Value.slice z2 m2 k2), (Value.int .i64 (a0.Mind.Memory)), (Value.int .i64 (a0.Mind.Turn)), (Value.int .i64 (a0.at_)), (Value.slice z7 m7 k7)] :: Row (α := Search_gone) 103 (Value.slice z7 m7 k7) (x2) :: X11)) => ?_))
  refine ⟨undef, _, rfl, PH.Le.refl _, ?_, ?_⟩
  ·
   exact trivial
  ·
   show Inv _ _ (ax_ g0_ 91 #[(Value.slice z1 m1 k1), (Value.slice z2 m2 k2), (Value.int .i64 (a0.Mind.Memory)), (Value.int .i64 (a0.Mind.Turn)), (Value.int .i64 (a0.at_)), (vs11 7)] :: Row (α := Search_gone) 103 (vs11 7) (x2) :: X11)
   simp only [e7]
   exact ((I24.pull 1).pull 1)
 ·
  intro vs12 f w22 S14 ed1 le14 hF1 hK12 hI12
  have e8 : f 0 = (Value.pointer (some ⟨g0_, 0, none⟩)) := (hK12 0 (bc_ rfl)).trans rfl
  have e9 : f 1 = (Value.int .i64 (a1)) := (hK12 1 (bc_ rfl)).trans rfl
  have e10 : f 4 = (Value.pointer (some ⟨g1, 0, none⟩)) := (hK12 4 (bc_ rfl)).trans rfl
  have I25 : Inv w22 S14 (Row (α := Search_gone) 103 (vs12 6) (([(⟨a0.at_, a1⟩ : Search_gone)] : List Search_gone)) :: Row (α := Search_gone) 103 (vs12 7) (x2) :: ax_ g0_ 91 #[(Value.slice z1 m1 k1), (Value.slice z2 m2 k2), (Value.int .i64 (a0.Mind.Memory)), (Value.int .i64 (a0.Mind.Turn)), (Value.int .i64 (a0.at_)), (vs12 7)] :: Fr) := hI12
  obtain ⟨z8, m8, k8, e11⟩ := (hF1.at_ 6 rfl _ rfl).2
  have q11 : f 26 = Value.slice z8 m8 k8 := ((hF1.at_ 6 rfl _ rfl).1 _ rfl).trans e11
  have e11 : vs12 6 = (Value.slice z8 m8 k8) := e11
  have I26 := I25
  rw [e11] at I26
  obtain ⟨z9, m9, k9, e12⟩ := (hF1.at_ 7 rfl _ rfl).2
  have q12 : f 27 = Value.slice z9 m9 k9 := ((hF1.at_ 7 rfl _ rfl).1 _ rfl).trans e12
  have e12 : vs12 7 = (Value.slice z9 m9 k9) := e12
  have I27 := I26
  rw [e12] at I27
  obtain ⟨v1, h2, h⟩ := bnd h
  refine eo_ (fun f w => ∃ (S_ : PH) (z11 : Option Addr) (m11 k11 : Nat), S14.Le S_ ∧ Inv w S_ (ax_ g0_ 91 #[(Value.slice z1 m1 k1), (Value.slice z2 m2 k2), (Value.int .i64 (a0.Mind.Memory)), (Value.int .i64 (a0.Mind.Turn)), (Value.int .i64 (a0.at_)), (Value.slice z11 m11 k11)] :: Row (α := Search_gone) 103 (Value.slice z11 m11 k11) (v1) :: Fr) ∧ f 0 = (Value.pointer (some ⟨g0_, 0, none⟩)) ∧ f 1 = (Value.int .i64 (a1)) ∧ f 4 = (Value.pointer (some ⟨g1, 0, none⟩)) ∧ f.ds = []) ?_ ?_
  ·
   refine ad_ ?_
   refine cn_ (sps := [⟨some 30, [], [0], fun vs_ T_ => fr0 vs_ 0 = (Value.pointer (some ⟨g0_, 0, none⟩)), [], [], [], fun _ h_ => h_⟩, ⟨some 31, [0], [1], fun vs_ T_ => fr0 vs_ 0 = (Value.pointer (some ⟨g0_, 0, none⟩)), [], [], [], fun _ h_ => h_⟩, ⟨some 32, [0, 1], [2], fun vs_ T_ => fr0 vs_ 0 = (Value.pointer (some ⟨g0_, 5, none⟩)), [], [], [], fun _ h_ => h_⟩, ⟨some 33, [0, 1, 2], [3], fun vs_ T_ => fr0 vs_ 0 = (Value.slice z9 m9 k9), [0], [], [], fun _ h_ => h_⟩, ⟨some 34, [0, 1, 2, 3], [4], fun vs_ T_ => fr0 vs_ 0 = (Value.int .i64 ((x2.length : Int))), [1], [], [], fun _ h_ => h_⟩, ⟨some 35, [], [5], fun vs_ T_ => fr0 vs_ 0 = (Value.pointer (some ⟨g0_, 0, none⟩)), [], [], [], fun _ h_ => h_⟩, ⟨some 36, [5], [6], fun vs_ T_ => fr0 vs_ 0 = (Value.pointer (some ⟨g0_, 0, none⟩)), [], [], [], fun _ h_ => h_⟩, ⟨some 37, [5, 6], [7], fun vs_ T_ => fr0 vs_ 0 = (Value.pointer (some ⟨g0_, 2, none⟩)), [], [], [], fun _ h_ => h_⟩, ⟨some 38, [5, 6, 7], [8], fun vs_ T_ => fr0 vs_ 0 = (Value.pointer (some ⟨g0_, 2, none⟩)), [], [], [], fun _ h_ => h_⟩, ⟨some 39, [5, 6, 7, 8], [9], fun vs_ T_ => fr0 vs_ 0 = (Value.int .i64 (a0.Mind.Memory)), [0], [], [], fun _ h_ => h_⟩, ⟨some 40, [0, 1, 2, 3, 4, 5, 6, 7, 8, 9], [10], fun vs_ T_ => fr0 vs_ 0 = (Value.bool (decide (a0.Mind.Memory < (x2.length : Int)))), [], [], [], fun _ h_ => h_⟩]) (tks := [⟨none, none, [], fun vs_ => ax_ g0_ 91 #[(Value.slice z1 m1 k1), (Value.slice z2 m2 k2), (Value.int .i64 (a0.Mind.Memory)), (Value.int .i64 (a0.Mind.Turn)), (Value.int .i64 (a0.at_)), (Value.slice z9 m9 k9)]⟩, ⟨none, none, [], fun vs_ => Row (α := Search_gone) 103 (Value.slice z9 m9 k9) (x2)⟩]) (O := Row (α := Search_gone) 103 (Value.slice z8 m8 k8) (([(⟨a0.at_, a1⟩ : Search_gone)] : List Search_gone)) :: Fr) rfl (by kernel_rfl) ((I27.pull 1).pull 2) ⟨?_, ?_, ?_, ?_, ?_, ?_, ?_, ?_, ?_, ?_, ?_, trivial⟩ ?_
   ·
    intro vs25 f w36 S27 X23 le27 hA23 hK25 hI25
    have I42 : Inv w36 S27 (X23) := hI25
    refine af_ rfl rfl (ac_ (v := (Value.pointer (some ⟨g0_, 0, none⟩))) rfl ((hK25 0 (be_ rfl)).trans e8) ?_)
    refine ⟨_, _, rfl, PH.Le.refl _, ?_, ?_⟩
    ·
     exact rfl
    ·
     exact I42
   ·
    intro vs26 f w37 S28 X24 le28 hA24 hK26 hI26
    have I43 : Inv w37 S28 (X24) := hI26
    have q24 : f 30 = (Value.pointer (some ⟨g0_, 0, none⟩)) := vt (hA24.at_ 0 rfl _ rfl) rfl
    refine af_ rfl rfl (bp_ (v := (Value.pointer (some ⟨g0_, 0, none⟩))) rfl q24 rfl ?_)
    refine ⟨_, _, rfl, PH.Le.refl _, ?_, ?_⟩
    ·
     exact rfl
    ·
     exact I43
   ·
    intro vs27 f w38 S29 X25 le29 hA25 hK27 hI27
    have I44 : Inv w38 S29 (X25) := hI27
    have q25 : f 31 = (Value.pointer (some ⟨g0_, 0, none⟩)) := vt (hA25.at_ 1 rfl _ rfl) rfl
    refine af_ rfl rfl (az_ (v := (Value.pointer (some ⟨g0_, 0, none⟩))) rfl ff_ q25 rfl ?_)
    refine ⟨_, _, rfl, PH.Le.refl _, ?_, ?_⟩
    ·
     exact rfl
    ·
     exact I44
   ·
    intro vs28 f w39 S30 X26 le30 hA26 hK28 hI28
    have I45 : Inv w39 S30 (ax_ g0_ 91 #[(Value.slice z1 m1 k1), (Value.slice z2 m2 k2), (Value.int .i64 (a0.Mind.Memory)), (Value.int .i64 (a0.Mind.Turn)), (Value.int .i64 (a0.at_)), (Value.slice z9 m9 k9)] :: X26) := hI28
    have q26 : f 32 = (Value.pointer (some ⟨g0_, 5, none⟩)) := vt (hA26.at_ 2 rfl _ rfl) rfl
    refine af_ rfl rfl (bz_ (c := (Value.slice z9 m9 k9)) rfl mh_ (I45.nth 0 rfl) q26 rfl ?_)
    refine ⟨_, _, rfl, PH.Le.refl _, ?_, ?_⟩
    ·
     exact rfl
    ·
     exact I45
   ·
    intro vs29 f w40 S31 X27 le31 hA27 hK29 hI29
    have I46 : Inv w40 S31 (Row (α := Search_gone) 103 (Value.slice z9 m9 k9) (x2) :: X27) := hI29
    have q27 : f 33 = (Value.slice z9 m9 k9) := vt (hA27.at_ 3 rfl _ rfl) rfl
    refine af_ rfl rfl (bu_ (α := Search_gone) rfl Try.underlying89 q27 (I46.nth 0 rfl) ?_)
    refine ⟨_, _, rfl, PH.Le.refl _, ?_, ?_⟩
    ·
     exact rfl
    ·
     exact I46
   ·
    intro vs30 f w41 S32 X28 le32 hA28 hK30 hI30
    have I47 : Inv w41 S32 (X28) := hI30
    refine af_ rfl rfl (ac_ (v := (Value.pointer (some ⟨g0_, 0, none⟩))) rfl ((hK30 0 (be_ rfl)).trans e8) ?_)
    refine ⟨_, _, rfl, PH.Le.refl _, ?_, ?_⟩
    ·
     exact rfl
    ·
     exact I47
   ·
    intro vs31 f w42 S33 X29 le33 hA29 hK31 hI31
    have I48 : Inv w42 S33 (X29) := hI31
    have q28 : f 35 = (Value.pointer (some ⟨g0_, 0, none⟩)) := vt (hA29.at_ 0 rfl _ rfl) rfl
    refine af_ rfl rfl (bp_ (v := (Value.pointer (some ⟨g0_, 0, none⟩))) rfl q28 rfl ?_)
    refine ⟨_, _, rfl, PH.Le.refl _, ?_, ?_⟩
    ·
     exact rfl
    ·
     exact I48
   ·
    intro vs32 f w43 S34 X30 le34 hA30 hK32 hI32
    have I49 : Inv w43 S34 (X30) := hI32
    have q29 : f 36 = (Value.pointer (some ⟨g0_, 0, none⟩)) := vt (hA30.at_ 1 rfl _ rfl) rfl
    refine af_ rfl rfl (az_ (v := (Value.pointer (some ⟨g0_, 0, none⟩))) rfl np_ q29 rfl ?_)
    refine ⟨_, _, rfl, PH.Le.refl _, ?_, ?_⟩
    ·
     exact rfl
    ·
     exact I49
   ·
    intro vs33 f w44 S35 X31 le35 hA31 hK33 hI33
    have I50 : Inv w44 S35 (X31) := hI33
    have q30 : f 37 = (Value.pointer (some ⟨g0_, 2, none⟩)) := vt (hA31.at_ 2 rfl _ rfl) rfl
    refine af_ rfl rfl (az_ (v := (Value.pointer (some ⟨g0_, 2, none⟩))) rfl nr_ q30 rfl ?_)
    refine ⟨_, _, rfl, PH.Le.refl _, ?_, ?_⟩
    ·
     exact rfl
    ·
     exact I50
   ·
    intro vs34 f w45 S36 X32 le36 hA32 hK34 hI34
    have I51 : Inv w45 S36 (ax_ g0_ 91 #[(Value.slice z1 m1 k1), (Value.slice z2 m2 k2), (Value.int .i64 (a0.Mind.Memory)), (Value.int .i64 (a0.Mind.Turn)), (Value.int .i64 (a0.at_)), (Value.slice z9 m9 k9)] :: X32) := hI34
    have q31 : f 38 = (Value.pointer (some ⟨g0_, 2, none⟩)) := vt (hA32.at_ 3 rfl _ rfl) rfl
    refine af_ rfl rfl (bz_ (c := (Value.int .i64 (a0.Mind.Memory))) rfl sh3 (I51.nth 0 rfl) q31 rfl ?_)
    refine ⟨_, _, rfl, PH.Le.refl _, ?_, ?_⟩
    ·
     exact rfl
    ·
     exact I51
   ·
    intro vs35 f w46 S37 X33 le37 hA33 hK35 hI35
    have I52 : Inv w46 S37 (X33) := hI35
    have q32 : f 34 = (Value.int .i64 ((x2.length : Int))) := vt (hA33.at_ 4 rfl _ rfl) rfl
    have q33 : f 39 = (Value.int .i64 (a0.Mind.Memory)) := vt (hA33.at_ 9 rfl _ rfl) rfl
    refine af_ rfl rfl (dw_ (a := (x2.length : Int)) (b := a0.Mind.Memory) rfl q32 q33 ?_)
    refine ⟨_, _, rfl, PH.Le.refl _, ?_, ?_⟩
    ·
     exact rfl
    ·
     exact I52
   ·
    intro vs36 f w47 S38 ed3 le38 hF3 hK36 hI36
    have e17 : f 0 = (Value.pointer (some ⟨g0_, 0, none⟩)) := (hK36 0 (bc_ rfl)).trans e8
    have e18 : f 1 = (Value.int .i64 (a1)) := (hK36 1 (bc_ rfl)).trans e9
    have e19 : f 4 = (Value.pointer (some ⟨g1, 0, none⟩)) := (hK36 4 (bc_ rfl)).trans e10
    have I53 : Inv w47 S38 (ax_ g0_ 91 #[(Value.slice z1 m1 k1), (Value.slice z2 m2 k2), (Value.int .i64 (a0.Mind.Memory)), (Value.int .i64 (a0.Mind.Turn)), (Value.int .i64 (a0.at_)), (Value.slice z9 m9 k9)] :: Row (α := Search_gone) 103 (Value.slice z9 m9 k9) (x2) :: Row (α := Search_gone) 103 (Value.slice z8 m8 k8) (([(⟨a0.at_, a1⟩ : Search_gone)] : List Search_gone)) :: Fr) := hI36
    have q34 : f 40 = (Value.bool (decide (a0.Mind.Memory < (x2.length : Int)))) := vt (hF3.at_ 10 rfl _ rfl) rfl
    rcases ifs h2 with ⟨hc2, h2⟩ | ⟨hc2, h2⟩
    ·
     refine an_ (b := decide (a0.Mind.Memory < (x2.length : Int))) q34 hc2 ?_
     refine ab_ ?_
     refine aa_ rfl (ac_ (v := (Value.pointer (some ⟨g0_, 0, none⟩))) rfl e17 ?_)
     refine aa_ rfl (ac_ (v := (Value.pointer (some ⟨g0_, 0, none⟩))) rfl e17 ?_)
     refine aa_ rfl (bp_ (v := (Value.pointer (some ⟨g0_, 0, none⟩))) rfl rfl rfl ?_)
     refine aa_ rfl (az_ (v := (Value.pointer (some ⟨g0_, 0, none⟩))) rfl ff_ rfl rfl ?_)
     refine aa_ rfl (bz_ (c := (Value.slice z9 m9 k9)) rfl mh_ (I53.nth 0 rfl) rfl rfl ?_)
     obtain ⟨x4, hx4, h2⟩ := bnd h2
     refine aa_ rfl (fp_ (v := (Value.slice z9 m9 k9)) (lo := 1) rfl Try.underlying89 dy_ rfl (I53.pull 1) rfl hx4 (fun u8 I54 => ?_))
     obtain ⟨z12, m12, k12, e20⟩ := bt_ I54
     subst e20
     refine aa_ rfl (bp_ (v := (Value.pointer (some ⟨g0_, 0, none⟩))) rfl rfl rfl ?_)
     refine aa_ rfl (az_ (v := (Value.pointer (some ⟨g0_, 0, none⟩))) rfl ff_ rfl rfl ?_)
     refine aa_ rfl (bo_ (v := (Value.slice z12 m12 k12)) (cs := #[(Value.slice z1 m1 k1), (Value.slice z2 m2 k2), (Value.int .i64 (a0.Mind.Memory)), (Value.int .i64 (a0.Mind.Turn)), (Value.int .i64 (a0.at_)), (Value.slice z9 m9 k9)]) mh_ (I54.pull 1) rfl rfl rfl (Nat.le_of_ble_eq_true rfl) rfl (fun w48 (I55 : Inv w48 S38 (ax_ g0_ 91 #[(Value.slice z1 m1 k1), (Value.slice z2 m2 k2), (Value.int .i64 (a0.Mind.Memory)), (Value.int .i64 (a0.Mind.Turn)), (Value.int .i64 (a0.at_)), (Value.slice z12 m12 k12)] :: Row (α := Search_gone) 103 (Value.slice z12 m12 k12) (x4) :: Row (α := Search_gone) 103 (Value.slice z8 m8 k8) (([(⟨a0.at_, a1⟩ : Search_gone)] : List Search_gone)) :: Fr)) => ?_))
     refine ag_ ?_
     obtain rfl := Option.some.inj h2
     exact ⟨_, _, _, _, le38, (((I55.pull 2).drop.pull 1).pull 1), e17, e18, e19, (ed3.trans (ed1.trans rfl))⟩
    ·
     refine ap_ (b := decide (a0.Mind.Memory < (x2.length : Int))) q34 hc2 ?_
     refine ar_ ?_
     obtain rfl := Option.some.inj h2
     exact ⟨_, _, _, _, le38, (((I53.pull 2).drop.pull 1).pull 1), e17, e18, e19, (ed3.trans (ed1.trans rfl))⟩
  ·
   rintro f w ⟨S39, z11, m11, k11, le39, I56, e21, e22, e23, ed4⟩
   obtain ⟨x5, hx5, h⟩ := bnd h
   obtain ⟨x6, hx6, h⟩ := bnd h
   refine cn_ (sps := [⟨some 49, [], [0], fun vs_ T_ => fr0 vs_ 0 = (Value.pointer (some ⟨g0_, 0, none⟩)), [], [], [], fun _ h_ => h_⟩, ⟨some 50, [], [1], fun vs_ T_ => fr0 vs_ 0 = (Value.pointer (some ⟨g0_, 0, none⟩)), [], [], [], fun _ h_ => h_⟩, ⟨some 51, [1], [2], fun vs_ T_ => fr0 vs_ 0 = (Value.pointer (some ⟨g0_, 0, none⟩)), [], [], [], fun _ h_ => h_⟩, ⟨some 52, [1, 2], [3], fun vs_ T_ => fr0 vs_ 0 = (Value.pointer (some ⟨g0_, 0, none⟩)), [], [], [], fun _ h_ => h_⟩, ⟨some 53, [1, 2, 3], [4], fun vs_ T_ => fr0 vs_ 0 = (Value.pointer (some ⟨g0_, 0, none⟩)), [], [], [], fun _ h_ => h_⟩, ⟨some 54, [1, 2, 3, 4], [5], fun vs_ T_ => fr0 vs_ 0 = (Value.slice z1 m1 k1), [0], [], [], fun _ h_ => h_⟩, ⟨some 55, [], [6], fun vs_ T_ => fr0 vs_ 0 = (am_ (Value.pointer (some ⟨g1, 0, none⟩)) 0), [], [], [], fun _ h_ => h_⟩, ⟨some 56, [6], [7], fun vs_ T_ => fr0 vs_ 0 = (Value.int .i64 ((⟨a0.at_, a1⟩ : Search_gone).position)), [], [], [], fun _ h_ => h_⟩, ⟨some 57, [1, 2, 3, 4, 5, 6, 7], [8], fun vs_ T_ => fr0 vs_ 0 = (ah_ (Value.slice z1 m1 k1) ((⟨a0.at_, a1⟩ : Search_gone).position) (Enc.sz (List Edge))), [], [], [], fun _ h_ => h_⟩, ⟨some 58, [1, 2, 3, 4, 5, 6, 7, 8], [9], fun vs_ T_ => RV T_ (fr0 vs_ 0) x5, [], [], [], fun hle_ h_ => h_.mono hle_⟩, ⟨some 59, [], [10], fun vs_ T_ => fr0 vs_ 0 = (Value.int .i64 (a1)), [], [], [], fun _ h_ => h_⟩, ⟨some 60, [1, 2, 3, 4, 5, 6, 7, 8, 9, 10], [11, 9], fun vs_ T_ => fr0 vs_ 0 = (ah_ (fr0 vs_ 1) (a1) (Enc.sz Edge)), [], [], [], fun _ h_ => h_⟩, ⟨some 61, [1, 2, 3, 4, 5, 6, 7, 8, 9, 10, 11], [12, 9], fun vs_ T_ => fr0 vs_ 0 = (am_ (ah_ (fr0 vs_ 1) (a1) (Enc.sz Edge)) 3), [], [], [], fun _ h_ => h_⟩, ⟨some 62, [1, 2, 3, 4, 5, 6, 7, 8, 9, 10, 11, 12], [13], fun vs_ T_ => fr0 vs_ 0 = (Value.int .i64 (x6.To)), [], [], [], fun _ h_ => h_⟩, ⟨some 63, [0, 1, 2, 3, 4, 5, 6, 7, 8, 9, 10, 11, 12, 13], [14], fun vs_ T_ => fr0 vs_ 0 = (Value.pointer (some ⟨g0_, 0, none⟩)), [], [], [], fun _ h_ => h_⟩, ⟨some 64, [0, 1, 2, 3, 4, 5, 6, 7, 8, 9, 10, 11, 12, 13, 14], [15], fun vs_ T_ => fr0 vs_ 0 = (Value.pointer (some ⟨g0_, 4, none⟩)), [], [], [], fun _ h_ => h_⟩, ⟨none, [0, 1, 2, 3, 4, 5, 6, 7, 8, 9, 10, 11, 12, 13, 14, 15], [], fun vs_ T_ => True, [], [0], [1], fun _ h_ => h_⟩]) (tks := [⟨none, some 16, [], fun vs_ => ax_ g0_ 91 #[(Value.slice z1 m1 k1), (Value.slice z2 m2 k2), (Value.int .i64 (a0.Mind.Memory)), (Value.int .i64 (a0.Mind.Turn)), (Value.int .i64 (a0.at_)), (Value.slice z11 m11 k11)]⟩, ⟨some 16, none, [], fun vs_ => ax_ g0_ 91 #[(Value.slice z1 m1 k1), (Value.slice z2 m2 k2), (Value.int .i64 (a0.Mind.Memory)), (Value.int .i64 (a0.Mind.Turn)), (Value.int .i64 (x6.To)), (Value.slice z11 m11 k11)]⟩]) (O := Row (α := Search_gone) 103 (Value.slice z11 m11 k11) (v1) :: Fr) rfl (by kernel_rfl) I56 ⟨?_, ?_, ?_, ?_, ?_, ?_, ?_, ?_, ?_, ?_, ?_, ?_, ?_, ?_, ?_, ?_, ?_, trivial⟩ ?_
   ·
    intro vs37 f w50 S40 X34 le40 hA34 hK37 hI37
    have I58 : Inv w50 S40 (X34) := hI37
    refine af_ rfl rfl (ac_ (v := (Value.pointer (some ⟨g0_, 0, none⟩))) rfl ((hK37 0 (be_ rfl)).trans e21) ?_)
    refine ⟨_, _, rfl, PH.Le.refl _, ?_, ?_⟩
    ·
     exact rfl
    ·
     exact I58
   ·
    intro vs38 f w51 S41 X35 le41 hA35 hK38 hI38
    have I59 : Inv w51 S41 (X35) := hI38
    refine af_ rfl rfl (ac_ (v := (Value.pointer (some ⟨g0_, 0, none⟩))) rfl ((hK38 0 (be_ rfl)).trans e21) ?_)
    refine ⟨_, _, rfl, PH.Le.refl _, ?_, ?_⟩
    ·
     exact rfl
    ·
     exact I59
   ·
    intro vs39 f w52 S42 X36 le42 hA36 hK39 hI39
    have I60 : Inv w52 S42 (X36) := hI39
    have q35 : f 50 = (Value.pointer (some ⟨g0_, 0, none⟩)) := vt (hA36.at_ 0 rfl _ rfl) rfl
    refine af_ rfl rfl (bp_ (v := (Value.pointer (some ⟨g0_, 0, none⟩))) rfl q35 rfl ?_)
    refine ⟨_, _, rfl, PH.Le.refl _, ?_, ?_⟩
    ·
     exact rfl
    ·
     exact I60
   ·
    intro vs40 f w53 S43 X37 le43 hA37 hK40 hI40
    have I61 : Inv w53 S43 (X37) := hI40
    have q36 : f 51 = (Value.pointer (some ⟨g0_, 0, none⟩)) := vt (hA37.at_ 1 rfl _ rfl) rfl
    refine af_ rfl rfl (az_ (v := (Value.pointer (some ⟨g0_, 0, none⟩))) rfl ka_ q36 rfl ?_)
    refine ⟨_, _, rfl, PH.Le.refl _, ?_, ?_⟩
    ·
     exact rfl
    ·
     exact I61
   ·
    intro vs41 f w54 S44 X38 le44 hA38 hK41 hI41
    have I62 : Inv w54 S44 (X38) := hI41
    have q37 : f 52 = (Value.pointer (some ⟨g0_, 0, none⟩)) := vt (hA38.at_ 2 rfl _ rfl) rfl
    refine af_ rfl rfl (az_ (v := (Value.pointer (some ⟨g0_, 0, none⟩))) rfl gk_ q37 rfl ?_)
    refine ⟨_, _, rfl, PH.Le.refl _, ?_, ?_⟩
    ·
     exact rfl
    ·
     exact I62
   ·
    intro vs42 f w55 S45 X39 le45 hA39 hK42 hI42
    have I63 : Inv w55 S45 (ax_ g0_ 91 #[(Value.slice z1 m1 k1), (Value.slice z2 m2 k2), (Value.int .i64 (a0.Mind.Memory)), (Value.int .i64 (a0.Mind.Turn)), (Value.int .i64 (a0.at_)), (Value.slice z11 m11 k11)] :: X39) := hI42
    have q38 : f 53 = (Value.pointer (some ⟨g0_, 0, none⟩)) := vt (hA39.at_ 3 rfl _ rfl) rfl
    refine af_ rfl rfl (bz_ (c := (Value.slice z1 m1 k1)) rfl fi_ (I63.nth 0 rfl) q38 rfl ?_)
    refine ⟨_, _, rfl, PH.Le.refl _, ?_, ?_⟩
    ·
     exact rfl
    ·
     exact I63
   ·
    intro vs43 f w56 S46 X40 le46 hA40 hK43 hI43
    have I64 : Inv w56 S46 (X40) := hI43
    refine af_ rfl rfl (aj_ (v := (Value.pointer (some ⟨g1, 0, none⟩))) rfl lz_ ((hK43 4 (be_ rfl)).trans e23) ((p1.mono (((le2.trans le14).trans le39).trans le46)).at_ I64) ?_)
    refine ⟨_, _, rfl, PH.Le.refl _, ?_, ?_⟩
    ·
     exact rfl
    ·
     exact I64
   ·
    intro vs44 f w57 S47 X41 le47 hA41 hK44 hI44
    have I65 : Inv w57 S47 (X41) := hI44
    have q39 : f 55 = (am_ (Value.pointer (some ⟨g1, 0, none⟩)) 0) := vt (hA41.at_ 0 rfl _ rfl) rfl
    refine af_ rfl rfl (av_ (v := (am_ (Value.pointer (some ⟨g1, 0, none⟩)) 0)) (e := (⟨a0.at_, a1⟩ : Search_gone).position) rfl sh3 q39 (((p1.mono (((le2.trans le14).trans le39).trans le47)).at_ I65).fld Search_gone.fld0) ?_)
    refine ⟨_, _, rfl, PH.Le.refl _, ?_, ?_⟩
    ·
     exact rfl
    ·
     exact I65
   ·
    intro vs45 f w58 S48 X42 le48 hA42 hK45 hI45
    have I66 : Inv w58 S48 (X42) := hI45
    have q40 : f 54 = (Value.slice z1 m1 k1) := vt (hA42.at_ 4 rfl _ rfl) rfl
    have q41 : f 56 = (Value.int .i64 ((⟨a0.at_, a1⟩ : Search_gone).position)) := vt (hA42.at_ 6 rfl _ rfl) rfl
    refine af_ rfl rfl (ao_ (v := (Value.slice z1 m1 k1)) (i := (⟨a0.at_, a1⟩ : Search_gone).position) (e := x5) rfl Try.underlying23 en_ q40 (r0_0.mono ((((le1.trans le2).trans le14).trans le39).trans le48)) q41 hx5 ?_)
    refine ⟨_, _, rfl, PH.Le.refl _, ?_, ?_⟩
    ·
     exact rfl
    ·
     exact I66
   ·
    intro vs46 f w59 S49 X43 le49 hA43 hK46 hI46
    have I67 : Inv w59 S49 (X43) := hI46
    have q42 : f 57 = (ah_ (Value.slice z1 m1 k1) ((⟨a0.at_, a1⟩ : Search_gone).position) (Enc.sz (List Edge))) := vt (hA43.at_ 7 rfl _ rfl) rfl
    refine af_ rfl rfl (aq_ (v := (ah_ (Value.slice z1 m1 k1) ((⟨a0.at_, a1⟩ : Search_gone).position) (Enc.sz (List Edge)))) (e := x5) rfl en_ q42 ((r0_0.mono ((((le1.trans le2).trans le14).trans le39).trans le49)).elem I67.in_ hx5) (fun u10 hu6 => ?_))
    obtain ⟨z13, m13, k13, e24⟩ := ak_ hu6
    subst e24
    refine ⟨_, _, rfl, PH.Le.refl _, ?_, ?_⟩
    ·
     exact hu6
    ·
     exact I67
   ·
    intro vs47 f w60 S50 X44 le50 hA44 hK47 hI47
    have I68 : Inv w60 S50 (X44) := hI47
    refine af_ rfl rfl (ac_ (v := (Value.int .i64 (a1))) rfl ((hK47 1 (be_ rfl)).trans e22) ?_)
    refine ⟨_, _, rfl, PH.Le.refl _, ?_, ?_⟩
    ·
     exact rfl
    ·
     exact I68
   ·
    intro vs48 f w61 S51 X45 le51 hA45 hK48 hI48
    have I69 : Inv w61 S51 (X45) := hI48
    have q43 : f 58 = vs48 9 := (hA45.at_ 8 rfl _ rfl).1 _ rfl
    have r1 : RV S51 (vs48 9) x5 := (hA45.at_ 8 rfl _ rfl).2
    obtain ⟨u11, hu7⟩ : ∃ u, vs48 9 = u := ⟨_, rfl⟩
    rw [hu7] at q43 r1
    obtain ⟨z14, m14, k14, e25⟩ := ak_ r1
    subst e25
    have q44 : f 59 = (Value.int .i64 (a1)) := vt (hA45.at_ 9 rfl _ rfl) rfl
    refine af_ rfl rfl (ao_ (v := (Value.slice z14 m14 k14)) (i := a1) (e := x6) rfl Try.underlying40 kw_ q43 r1 q44 hx6 ?_)
    refine ⟨_, _, rfl, PH.Le.refl _, ?_, ?_⟩
    ·
     show (ah_ (Value.slice z14 m14 k14) (a1) (Enc.sz Edge)) = (ah_ (vs48 9) (a1) (Enc.sz Edge))
     simp only [hu7] <;> rfl
    ·
     exact I69
   ·
    intro vs49 f w62 S52 X46 le52 hA46 hK49 hI49
    have I70 : Inv w62 S52 (X46) := hI49
    have q45 : f 58 = vs49 9 := (hA46.at_ 8 rfl _ rfl).1 _ rfl
    have r2 : RV S52 (vs49 9) x5 := (hA46.at_ 8 rfl _ rfl).2
    obtain ⟨u12, hu8⟩ : ∃ u, vs49 9 = u := ⟨_, rfl⟩
    rw [hu8] at q45 r2
    obtain ⟨z15, m15, k15, e26⟩ := ak_ r2
    subst e26
    have q46 : f 59 = (Value.int .i64 (a1)) := vt (hA46.at_ 9 rfl _ rfl) rfl
    have q47 : f 60 = (ah_ (vs49 9) (a1) (Enc.sz Edge)) := vt (hA46.at_ 10 rfl _ rfl) rfl
    simp only [hu8] at q47
    have q47 : f 60 = (ah_ (Value.slice z15 m15 k15) (a1) (Enc.sz Edge)) := q47
    refine af_ rfl rfl (aj_ (v := (ah_ (Value.slice z15 m15 k15) (a1) (Enc.sz Edge))) rfl ft_ q47 (r2.elem I70.in_ hx6) ?_)
    refine ⟨_, _, rfl, PH.Le.refl _, ?_, ?_⟩
    ·
     show (am_ (ah_ (Value.slice z15 m15 k15) (a1) (Enc.sz Edge)) 3) = (am_ (ah_ (vs49 9) (a1) (Enc.sz Edge)) 3)
     simp only [hu8] <;> rfl
    ·
     exact I70
   ·
    intro vs50 f w63 S53 X47 le53 hA47 hK50 hI50
    have I71 : Inv w63 S53 (X47) := hI50
    have q48 : f 58 = vs50 9 := (hA47.at_ 8 rfl _ rfl).1 _ rfl
    have r3 : RV S53 (vs50 9) x5 := (hA47.at_ 8 rfl _ rfl).2
    obtain ⟨u13, hu9⟩ : ∃ u, vs50 9 = u := ⟨_, rfl⟩
    rw [hu9] at q48 r3
    obtain ⟨z16, m16, k16, e27⟩ := ak_ r3
    subst e27
    have q49 : f 59 = (Value.int .i64 (a1)) := vt (hA47.at_ 9 rfl _ rfl) rfl
    have q50 : f 60 = (ah_ (vs50 9) (a1) (Enc.sz Edge)) := vt (hA47.at_ 10 rfl _ rfl) rfl
    simp only [hu9] at q50
    have q50 : f 60 = (ah_ (Value.slice z16 m16 k16) (a1) (Enc.sz Edge)) := q50
    have q51 : f 61 = (am_ (ah_ (vs50 9) (a1) (Enc.sz Edge)) 3) := vt (hA47.at_ 11 rfl _ rfl) rfl
    simp only [hu9] at q51
    have q51 : f 61 = (am_ (ah_ (Value.slice z16 m16 k16) (a1) (Enc.sz Edge)) 3) := q51
    refine af_ rfl rfl (av_ (v := (am_ (ah_ (Value.slice z16 m16 k16) (a1) (Enc.sz Edge)) 3)) (e := x6.To) rfl sh3 q51 ((r3.elem I71.in_ hx6).fld Edge.fld1) ?_)
    refine ⟨_, _, rfl, PH.Le.refl _, ?_, ?_⟩
    ·
     exact rfl
    ·
     exact I71
   ·
    intro vs51 f w65 S54 X48 le54 hA48 hK51 hI51
    have I72 : Inv w65 S54 (X48) := hI51
    have q52 : f 49 = (Value.pointer (some ⟨g0_, 0, none⟩)) := vt (hA48.at_ 0 rfl _ rfl) rfl
    refine af_ rfl rfl (bp_ (v := (Value.pointer (some ⟨g0_, 0, none⟩))) rfl q52 rfl ?_)
    refine ⟨_, _, rfl, PH.Le.refl _, ?_, ?_⟩
    ·
     exact rfl
    ·
     exact I72
   ·
    intro vs52 f w66 S55 X49 le55 hA49 hK52 hI52
    have I73 : Inv w66 S55 (X49) := hI52
    have q53 : f 63 = (Value.pointer (some ⟨g0_, 0, none⟩)) := vt (hA49.at_ 14 rfl _ rfl) rfl
    refine af_ rfl rfl (az_ (v := (Value.pointer (some ⟨g0_, 0, none⟩))) rfl ej_ q53 rfl ?_)
    refine ⟨_, _, rfl, PH.Le.refl _, ?_, ?_⟩
    ·
     exact rfl
    ·
     exact I73
   ·
    intro vs53 f w67 S56 X50 le56 hA50 hK53 hI53
    have I74 : Inv w67 S56 (ax_ g0_ 91 #[(Value.slice z1 m1 k1), (Value.slice z2 m2 k2), (Value.int .i64 (a0.Mind.Memory)), (Value.int .i64 (a0.Mind.Turn)), (Value.int .i64 (a0.at_)), (Value.slice z11 m11 k11)] :: X50) := hI53
    have q54 : f 62 = (Value.int .i64 (x6.To)) := vt (hA50.at_ 13 rfl _ rfl) rfl
    have q55 : f 64 = (Value.pointer (some ⟨g0_, 4, none⟩)) := vt (hA50.at_ 15 rfl _ rfl) rfl
    refine af_ rfl rfl (bo_ (v := (Value.int .i64 (x6.To))) (cs := #[(Value.slice z1 m1 k1), (Value.slice z2 m2 k2), (Value.int .i64 (a0.Mind.Memory)), (Value.int .i64 (a0.Mind.Turn)), (Value.int .i64 (a0.at_)), (Value.slice z11 m11 k11)]) sh3 I74 q55 q54 rfl (Nat.le_of_ble_eq_true rfl) rfl (fun w68 (I75 : Inv w68 S56 (ax_ g0_ 91 #[(Value.slice z1 m1 k1), (Value.slice z2 m2 k2), (Value.int .i64 (a0.Mind.Memory)), (Value.int .i64 (a0.Mind.Turn)), (Value.int .i64 (x6.To)), (Value.slice z11 m11 k11)] :: X50)) => ?_))
    refine ⟨undef, _, rfl, PH.Le.refl _, ?_, ?_⟩
    ·
     exact trivial
    ·
     exact I75
   ·
    intro vs54 f w69 S57 ed5 le57 hF4 hK54 hI54
    have I76 : Inv w69 S57 (ax_ g0_ 91 #[(Value.slice z1 m1 k1), (Value.slice z2 m2 k2), (Value.int .i64 (a0.Mind.Memory)), (Value.int .i64 (a0.Mind.Turn)), (Value.int .i64 (x6.To)), (Value.slice z11 m11 k11)] :: Row (α := Search_gone) 103 (Value.slice z11 m11 k11) (v1) :: Fr) := hI54
    obtain rfl := Option.some.inj h
    exact ⟨(ed5.trans ed4), (Value.tuple #[]), (res0 rfl), _, [ax_ g0_ 91 #[(Value.slice z1 m1 k1), (Value.slice z2 m2 k2), (Value.int .i64 (a0.Mind.Memory)), (Value.int .i64 (a0.Mind.Turn)), (Value.int .i64 (x6.To)), (Value.slice z11 m11 k11)], Row (α := Search_gone) 103 (Value.slice z11 m11 k11) (v1)], ((((le1.trans le2).trans le14).trans le39).trans le57), ((I76.pull 1).pull 1), _, _, _, _, _, rfl, rfl, (r0_0.mono ((((le1.trans le2).trans le14).trans le39).trans le57)), (r0_1.mono ((((le1.trans le2).trans le14).trans le39).trans le57))⟩
end Go.Proofs.Ytogfongmnkmegaa.Pad
