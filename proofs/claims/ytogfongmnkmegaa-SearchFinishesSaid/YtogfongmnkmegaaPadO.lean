/- Several things owned, as one; rows of owned rows. -/
import Derived.Test.YtogfongmnkmegaaPadM
set_option linter.unusedVariables false
namespace Go.Proofs.Ytogfongmnkmegaa.Pad
open Go
variable {ro : Option Nat}
def OwnH (S : PH) : List HP → Hp → Prop
  | [], h => h = Hp.emp
  | A :: L, h => ∃ a b, A.p S a ∧ OwnH S L b ∧ Hp.Disj a b ∧ h = Hp.un a b
theorem OwnH.mono {S T : PH} (hst : S.Le T) : ∀ {L : List HP} {h : Hp}, OwnH S L h → OwnH T L h
  | [], _, h => h
  | A :: L, _, ⟨a, b, h1, h2, h3, h4⟩ => ⟨a, b, A.mono hst h1, OwnH.mono hst h2, h3, h4⟩
def kv_ (L : List HP) : HP := ⟨fun S h => OwnH S L h, fun hst h => OwnH.mono hst h⟩
section
variable {w : World} {S : PH}
theorem Own.allOpen : ∀ {L O : List HP} {U : Hp}, Own w S U (kv_ L :: O) → Own w S U (L ++ O)
  | [], O, U, ⟨h, hA, hd, hr⟩ => by
    have hA : h = Hp.emp := hA
    subst hA
    have : Hp.un Hp.emp U = U := by funext b; simp [Hp.un, Hp.emp]
    rw [this] at hr
    exact hr
  | A :: L, O, U, ⟨h, hA, hd, hr⟩ => by
    obtain ⟨a, b, h1, h2, h3, rfl⟩ := (hA : OwnH S (A :: L) h)
    have da : Hp.Disj a U := hd.mono (Hp.le_un_left _ _) (Hp.Le.refl _)
    have db : Hp.Disj b U := hd.mono (Hp.le_un_right h3) (Hp.Le.refl _)
    refine ⟨a, h1, da, Own.allOpen ⟨b, h2, ?_, ?_⟩⟩
    · exact Hp.Disj.symm (Hp.Disj.un h3 db.symm)
    · rw [← Hp.un_assoc, Hp.un_comm h3.symm]; exact hr
theorem Own.allShut : ∀ {L O : List HP} {U : Hp}, Own w S U (L ++ O) → Own w S U (kv_ L :: O)
  | [], O, U, h => by
    refine ⟨Hp.emp, rfl, fun b => .inl rfl, ?_⟩
    have : Hp.un Hp.emp U = U := by funext b; simp [Hp.un, Hp.emp]
    rw [this]; exact h
  | A :: L, O, U, ⟨a, h1, da, hr⟩ => by
    obtain ⟨b, h2, hd, hr'⟩ := Own.allShut hr
    have dab : Hp.Disj b a := hd.mono (Hp.Le.refl _) (Hp.le_un_left _ _)
    have dbu : Hp.Disj b U := hd.mono (Hp.Le.refl _) (Hp.le_un_right da)
    refine ⟨Hp.un a b, ⟨a, b, h1, h2, dab.symm, rfl⟩, Hp.Disj.un da dbu, ?_⟩
    rw [Hp.un_comm dab.symm, Hp.un_assoc]; exact hr'
theorem Inv.allOpen {L O : List HP} (h : Inv w S (kv_ L :: O)) : Inv w S (L ++ O) := ⟨h.os, h.out, Own.allOpen h.own⟩
theorem Inv.allShut {L O : List HP} (h : Inv w S (L ++ O)) : Inv w S (kv_ L :: O) := ⟨h.os, h.out, Own.allShut h.own⟩
end
section
variable {α : Type} [Enc α] {w : World} {S : PH} {O : List HP} {To Ti : TypeId} {v : Value} {raws : List Raw} {ls : List (List α)}
def ck_ (Ti : TypeId) (raws : List Raw) (ls : List (List α)) : List HP := List.zipWith (fun r l => Row Ti r.v l) raws ls
def ec_ (To Ti : TypeId) (v : Value) (raws : List Raw) (ls : List (List α)) : HP := kv_ (Row To v raws :: ck_ Ti raws ls)
theorem ex_ : ∀ (raws : List Raw) (ls : List (List α)) (i : Nat) (r : Raw) (l l' : List α), raws[i]? = some r → ls[i]? = some l →
    ∃ F : List HP, (ck_ Ti raws ls).Perm (Row Ti r.v l :: F) ∧ ∀ r' : Raw, (ck_ Ti (raws.set i r') (ls.set i l')).Perm (Row Ti r'.v l' :: F)
  | [], _, _, _, _, _, h, _ => by simp at h
  | _ :: _, [], _, _, _, _, _, h => by simp at h
  | a :: raws, b :: ls, 0, r, l, l', h, k => by
    simp at h k
    subst h; subst k
    exact ⟨ck_ Ti raws ls, .refl _, fun r' => .refl _⟩
  | a :: raws, b :: ls, i + 1, r, l, l', h, k => by
    obtain ⟨F, h1, h2⟩ := ex_ raws ls i r l l' (by simpa using h) (by simpa using k)
    refine ⟨Row Ti a.v b :: F, ?_, fun r' => ?_⟩
    · exact (List.Perm.cons _ h1).trans (List.Perm.swap _ _ _)
    · exact (List.Perm.cons _ (h2 r')).trans (List.Perm.swap _ _ _)
theorem Inv.gridAt (h : Inv w S (ec_ To Ti v raws ls :: O)) {i : Nat} {r : Raw} {l : List α} (hr : raws[i]? = some r) (hl : ls[i]? = some l) :
    ∃ F : List HP, Inv w S (Row Ti r.v l :: Row To v raws :: (F ++ O)) ∧ ∀ {w' S' l'}, Inv w' S' (Row Ti r.v l' :: Row To v raws :: (F ++ O)) → Inv w' S' (ec_ To Ti v raws (ls.set i l') :: O) := by
  obtain ⟨F, h1, _⟩ := ex_ (Ti := Ti) raws ls i r l l hr hl
  have h2 := h.allOpen
  refine ⟨F, ?_, ?_⟩
  · refine h2.perm ?_
    refine (List.Perm.cons _ (h1.append_right O)).trans ?_
    exact List.Perm.swap _ _ _
  · intro w' S' l' h'
    obtain ⟨F', h3, h4⟩ := ex_ (Ti := Ti) raws ls i r l l' hr hl
    have hset : raws.set i r = raws := by
      apply List.ext_getElem?
      intro j
      rw [List.getElem?_set]
      split
      · rename_i e; subst e
        have := (List.getElem?_eq_some_iff.1 hr).1
        rw [if_pos this, hr]
      · rfl
    have h5 := h4 r
    rw [hset] at h5
    have hFF : F.Perm F' := List.Perm.cons_inv (h1.symm.trans h3)
    refine Inv.allShut (h'.perm ?_)
    refine (List.Perm.swap _ _ _).trans (List.Perm.cons _ ?_)
    refine List.Perm.trans ?_ (h5.symm.append_right O)
    exact List.Perm.cons _ (hFF.append_right O)
theorem Inv.gridOut (h : Inv w S (ec_ To Ti v raws ls :: O)) : Inv w S (Row To v raws :: (ck_ Ti raws ls ++ O)) := h.allOpen
end
section ops
variable {P : Program} {n : Nat} {f : Fr} {w : World} {K : Fr → World → Prop} {d : Nat} {ty : TypeId} {pos : String} {af : Array Edge} {gd : Option (Nat × Bool)} {x y z : Operand} {u : Value} {T : TypeId}
  {α : Type} [Enc α] {S : PH} {O : List HP} {To Ti : TypeId} {v : Value} {raws : List Raw} {ls : List (List α)}
theorem il_ {i : Nat} {r : Raw} {l : List α} {k : Int} {e e' : α} (hr : raws[i]? = some r) (hl : ls[i]? = some l) (hT : Shape P T (Enc.agg α) (Enc.sz α)) (hI : Inv w S (ec_ To Ti v raws ls :: O))
    (hx : ev f x = ah_ r.v k (Enc.sz α)) (hy : ev f y = u) (he : at? l k = some e) (hu : RV S u e') (c : ∀ w', Inv w' S (ec_ To Ti v raws (ls.set i (l.set k.toNat e')) :: O) → K f w') :
    OP P n ro ⟨none, .store T x y, ty, pos, af, gd⟩ f w K := by
  obtain ⟨F, h1, h2⟩ := hI.gridAt hr hl
  exact dp_ hT h1 hx hy he hu (fun w' h' => c w' (h2 h'))
theorem dx_ {i : Nat} {r : Raw} {l : List α} {k : Int} {e : α} (hr : raws[i]? = some r) (hl : ls[i]? = some l) (hd : Nat.blt d n = true) (hT : P.underlying T = some (.slice Ti)) (hE : Shape P Ti (Enc.agg α) (Enc.sz α))
    (hI : Inv w S (ec_ To Ti v raws ls :: O)) (hx : ev f x = r.v) (hi : ev f y = .int .i64 k) (he : at? l k = some e) (c : K (upd f d (ah_ r.v k (Enc.sz α))) w) :
    OP P n ro ⟨some d, .indexAddr T x y, ty, pos, af, gd⟩ f w K := by
  obtain ⟨F, h1, _⟩ := hI.gridAt hr hl
  exact bh_ hd hT hE hx h1.rowSrc hi he c
theorem Inv.gridElem {i : Nat} {r : Raw} {l : List α} {k : Int} {e : α} (hI : Inv w S (ec_ To Ti v raws ls :: O)) (hr : raws[i]? = some r) (hl : ls[i]? = some l) (he : at? l k = some e) : PtT w S (ah_ r.v k (Enc.sz α)) e := by
  obtain ⟨F, h1, _⟩ := hI.gridAt hr hl
  exact h1.rowElem he
theorem cq_ {i : Int} {r : Raw} (hd : Nat.blt d n = true) (hT : P.underlying T = some (.slice To)) (hE : Shape P To (Enc.agg Raw) (Enc.sz Raw))
    (hI : Inv w S (ec_ To Ti v raws ls :: O)) (hx : ev f x = v) (hi : ev f y = .int .i64 i) (hr : at? raws i = some r) (c : K (upd f d (ah_ v i (Enc.sz Raw))) w) :
    OP P n ro ⟨some d, .indexAddr T x y, ty, pos, af, gd⟩ f w K :=
  bh_ hd hT hE hx hI.gridOut.rowSrc hi hr c
theorem Inv.gridRowAt {i : Int} {r : Raw} (hI : Inv w S (ec_ To Ti v raws ls :: O)) (hr : at? raws i = some r) : PtT w S (ah_ v i (Enc.sz Raw)) r := hI.gridOut.rowElem hr
end ops
section
variable {α : Type} [Enc α] {w : World} {S : PH} {O : List HP} {To Ti : TypeId} {v : Value} {raws : List Raw} {ls : List (List α)}
theorem gj_ (Ti : TypeId) : ∀ (k : Nat), Inv w S O → Inv w S (ck_ Ti (List.replicate k ⟨.slice none 0 0⟩) (List.replicate k ([] : List α)) ++ O)
  | 0, h => h
  | k + 1, h => by
    have := (gj_ Ti k h).rowNil (T := Ti) (α := α)
    exact this
theorem Inv.gridNew {k : Nat} (h : Inv w S (Row To v (List.replicate k (⟨.slice none 0 0⟩ : Raw)) :: O)) : Inv w S (ec_ To Ti v (List.replicate k ⟨.slice none 0 0⟩) (List.replicate k ([] : List α)) :: O) := by
  have h1 := gj_ (α := α) Ti k (h.perm (List.Perm.refl _))
  refine Inv.allShut (h1.perm ?_)
  exact List.perm_middle
end
section
variable {α : Type} [Enc α] {w : World} {S : PH} {O : List HP} {To Ti : TypeId} {v : Value} {raws : List Raw} {ls : List (List α)}
end
section
variable {α : Type} [Enc α] {w : World} {S : PH} {O : List HP} {To Ti : TypeId} {v : Value}
end
end Go.Proofs.Ytogfongmnkmegaa.Pad
