/- A part of the proof: what the functions of the program compute, shown over the model. -/
import Derived.Test.YtlpdpeghgndmkaaHinP
import Derived.Test.YtlpdpeghgndmkaaHinW1
import Derived.KernelRfl
set_option linter.unusedVariables false
set_option maxHeartbeats 4000000
set_option maxRecDepth 100000
namespace Go.Proofs.Ytlpdpeghgndmkaa.Pad
open Go Go.Proofs
theorem law07_holds_ok {w : World} {S : PH} {Fr : List HP} {a0 : (List (List Int))} {v0 : Value} {a1 : (List Int)} {v1 : Value} {r : Bool} (hI : Inv w S (Fr)) (h0_ : RV S v0 a0) (h1_ : RV S v1 a1) (h : gw_ a0 a1 = some r) :
    Calls Try.prog 15 [v0, v1].toArray w (ck_ S Fr (Value.bool (r))) := by
 unfold gw_ at h
 obtain ⟨z1, m1, k1, rfl⟩ := af_ h0_
 obtain ⟨z2, m2, k2, rfl⟩ := af_ h1_
 refine av_ (n := 18) (vs := [(.slice z1 m1 k1), (.slice z2 m2 k2)]) Try.func15 rfl rfl rfl (ab_ (aa_ (wa_ (v := (vb false)) rfl rfl (ad_ (ab_ (ab_ (aa_ (wa_ (v := (vi 0)) rfl rfl (ad_ ?_)))))))))
 have hk1 : a0.length ≤ 9223372036854775807 := (eg_ h0_)
 obtain ⟨o2, hrun1, h⟩ := bnd h
 refine bt_ (fun f w => ∃ out1, o2 = Sum.inl out1 ∧ Inv w S (Fr) ∧ f 0 = (.slice z1 m1 k1) ∧ f 1 = (.slice z2 m2 k2) ∧ f.ds = []) ?_ ?_
 ·
  refine ax_ ?_
  refine er_ (I := fun (i1 : Nat) (s1 : Unit) (f : Frm) (w : World) => Inv w S (Fr) ∧ f 0 = (.slice z1 m1 k1) ∧ f 1 = (.slice z2 m2 k2) ∧ f 5 = (vi (i1 : Int)) ∧ f.ds = []) hrun1 ⟨hI, rfl, rfl, rfl, rfl⟩ ?_ ?_
  ·
   rintro i1 s1 f w o1 hlt1 hI1 h1 hout1
   obtain ⟨I5, e11, e12, e13, ed3⟩ := hI1
   refine ab_ (ab_ (aa_ (wm_ (v := (vi (i1 : Int))) rfl e13 (wm_ (v := (.slice z1 m1 k1)) rfl e11 (wo_ (bb_ rfl Try.underlying23 rfl h0_ (wo_ (bg_ (a := (i1 : Int)) (b := (a0.length : Int)) rfl rfl rfl (ad_ (aj_ (b := decide ((i1 : Int) < (a0.length : Int))) rfl (gc_ hlt1) (au_ (ab_ (ax_ (ab_ (aa_ (wm_ (v := (.slice z1 m1 k1)) rfl e11 (wm_ (v := (vi (i1 : Int))) rfl e13 ?_)))))))))))))))))
   obtain ⟨x5, hx5, h1⟩ := bnd h1
   refine wo_ (ai_ (v := (.slice z1 m1 k1)) (i := (i1 : Int)) (e := x5) rfl Try.underlying23 ha_ rfl h0_ rfl hx5 (wo_ (am_ (v := (ah_ (.slice z1 m1 k1) ((i1 : Int)) (Enc.sz (List Int)))) (e := x5) rfl ha_ rfl (h0_.elem I5.in_ hx5) (fun u3 hu3 => ?_))))
   obtain ⟨z5, m5, k5, rfl⟩ := af_ hu3
   refine wm_ (v := (.slice z2 m2 k2)) rfl e12 ?_
   obtain ⟨x6, hx6, h1⟩ := bnd h1
   refine wo_ (ar_ (vs := [(.slice z5 m5 k5), (.slice z2 m2 k2)]) (r := (vb x6)) rfl ca23 rfl (bv_ rfl rfl) I5 (fun Fr_ hF_ => ic_ hF_ hu3 h1_ hx6) (fun w3 I6 => (ad_ ?_)))
   rcases ifs h1 with ⟨hc3, h1⟩ | ⟨hc3, h1⟩
   ·
    refine aj_ (b := x6) rfl hc3 (ab_ (aa_ (wa_ (v := (vb true)) rfl rfl (ad_ (an_ ?_)))))
    obtain rfl := sj h1
    obtain rfl := (hout1 _ rfl)
    have h2 := h
    obtain rfl := sj h2
    exact ⟨ed3, (vb true), (bu_ rfl rfl), _, [], lr, I6, rfl, rfl⟩
   refine al_ (b := x6) rfl hc3 (au_ (aa_ (wm_ (v := (vi (i1 : Int))) rfl e13 (wo_ (bq_ (a := (i1 : Int)) (b := 1) rfl rfl rfl (wa_ (v := (vi (w64 ((i1 : Int) + 1)))) rfl rfl (ad_ ?_)))))))
   obtain rfl := sj h1
   exact ⟨_, rfl, I6, e11, e12, (bj_ hlt1 hk1), ed3⟩
  rintro s2 f w hs1 hI2
  obtain ⟨I7, e15, e16, e17, ed4⟩ := hI2
  refine ab_ (ab_ (aa_ (wm_ (v := (vi ((a0.length : Int)))) rfl e17 (wm_ (v := (.slice z1 m1 k1)) rfl e15 (wo_ (bb_ rfl Try.underlying23 rfl h0_ (wo_ (bg_ (a := (a0.length : Int)) (b := (a0.length : Int)) rfl rfl rfl (ad_ (al_ (b := decide ((a0.length : Int) < (a0.length : Int))) rfl (gd_ _) (bl_ ?_)))))))))))
  exact ⟨s2, hs1, I7, e15, e16, ed4⟩
 rintro f w ⟨out1, rfl, I8, e18, e19, ed5⟩
 have h := ei_ h
 refine ab_ (aa_ (wa_ (v := (vb false)) rfl rfl (ad_ (an_ ?_))))
 obtain rfl := sj h
 exact ⟨ed5, (vb false), (bu_ rfl rfl), _, [], lr, I8, rfl, rfl⟩
end Go.Proofs.Ytlpdpeghgndmkaa.Pad
