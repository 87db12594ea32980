/- Ranges over functions: a function value that is called, the loop's record, one round, the statement. -/
import Derived.Test.YtogfongmnkmegaaPadO
set_option linter.unusedVariables false
set_option linter.unusedSimpArgs false
namespace Go.Proofs.Ytogfongmnkmegaa.Pad
open Go
variable {ro : Option Nat}
section
variable {w : World} {S : PH} {O : List HP} {Φ : PH → List HP → Prop}
end
def CallV (P : Program) (v : Value) (args : List Value) (w : World) (R : Ending → World → Prop) : Prop :=
  (∃ k cap, v = .func (.func k) #[] cap ∧ bj_ P k ∧ Calls P k (args.toArray ++ cap) w R) ∨
  ∃ l fn tmps assign body, v = .func (.yield l) #[] #[] ∧ (Instr.yield l args.toArray).run P w = .ok (.round l fn tmps assign body) w ∧ RoundIn (FW none) 0 P l fn tmps assign body w R
theorem CallV.mono {P : Program} {v : Value} {args : List Value} {w : World} {R R' : Ending → World → Prop} (h : CallV P v args w R) (hr : ∀ e w', R e w' → R' e w') : CallV P v args w R' := by
  rcases h with ⟨k, cap, h1, h2, h3⟩ | ⟨l, fn, tmps, assign, body, h1, h2, h3⟩
  · exact .inl ⟨k, cap, h1, h2, h3.mono hr⟩
  · exact .inr ⟨l, fn, tmps, assign, body, h1, h2, h3.mono hr⟩
section
variable {P : Program} {n : Nat} {f : Fr} {w : World} {K : Fr → World → Prop} {d : Nat} {ty : TypeId} {pos : String} {af : Array Edge} {gd : Option (Nat × Bool)} {x : Operand} {v : Value} {S : PH}
end
structure ArgM (α : Type) where
  rel : PH → List Value → α → Prop
  own : List Value → α → List HP
  mono : ∀ {S T : PH} {us : List Value} {x : α}, S.Le T → rel S us x → rel T us x
def ends {α σ τ : Type} (M : ArgM α) (us : List Value) (x : α) (R : σ → HP) (Rx : τ → HP) (o : σ ⊕ τ) (r : Value) (O' : List HP) : Prop :=
  r = .bool o.isLeft ∧ O' = M.own us x ++ [Sum.elim R Rx o]
def Yields {α σ τ : Type} (M : ArgM α) (P : Program) (S : PH) (v : Value) (R : σ → HP) (Rx : τ → HP) (g : α → σ → Option (σ ⊕ τ)) : Prop :=
  ∀ T w Fr us x s o, S.Le T → M.rel T us x → Inv w T (M.own us x ++ (R s :: Fr)) → g x s = some o → CallV P v us w (ky_ T Fr fun _ r O' => ends M us x R Rx o r O')
theorem Yields.mono {α σ τ : Type} {M : ArgM α} {P : Program} {S T : PH} {v : Value} {R : σ → HP} {Rx : τ → HP} {g : α → σ → Option (σ ⊕ τ)} (h : Yields M P S v R Rx g) (hle : S.Le T) : Yields M P T v R Rx g :=
  fun U w Fr us x s o hu => h U w Fr us x s o (hle.trans hu)
def ItV {α : Type} (M : ArgM α) (P : Program) (S : PH) (gv : Value) (F : ∀ {σ τ : Type}, (α → σ → Option (σ ⊕ τ)) → σ → Option (σ ⊕ τ)) : Prop :=
  ∃ (k : FuncId) (fst cap : List Value), gv = .func (.func k) fst.toArray cap.toArray ∧ bj_ P k ∧ ∀ {σ τ : Type} (R : σ → HP) (Rx : τ → HP) (g : α → σ → Option (σ ⊕ τ)) (T : PH) (w : World) (Fr : List HP) (v : Value) (s : σ) (o : σ ⊕ τ),
    S.Le T → v.oneCell' = true → Yields M P T v R Rx g → Inv w T (R s :: Fr) → F g s = some o → Calls P k (fst ++ v :: cap).toArray w (ky_ T Fr fun _ _ O' => O' = [Sum.elim R Rx o])
theorem ItV.mono {α : Type} {M : ArgM α} {P : Program} {S T : PH} {gv : Value} {F : ∀ {σ τ : Type}, (α → σ → Option (σ ⊕ τ)) → σ → Option (σ ⊕ τ)} (h : ItV M P S gv F) (hle : S.Le T) : ItV M P T gv F := by
  obtain ⟨k, fst, cap, h1, h2, h3⟩ := h
  exact ⟨k, fst, cap, h1, h2, fun R Rx g U w Fr v s o hu => h3 R Rx g U w Fr v s o (hle.trans hu)⟩
section
variable {P : Program} {w : World} {S : PH} {O : List HP} {g : Nat} {o o' : Obj}
end
section
variable {P : Program} {n : Nat} {N R : Fr → World → Prop} {X : Nat → Fr → World → Prop} {f : Fr} {w : World} {S : PH} {O : List HP} {α σ τ : Type} {M : ArgM α}
end
section
variable {w : World} {S : PH} {O : List HP}
end
section
variable {w : World} {S : PH} {O : List HP} {A B C : HP}
theorem Inv.rot2 (h : Inv w S (A :: B :: C :: O)) : Inv w S (B :: C :: A :: O) := h.perm ((List.Perm.swap _ _ _).trans (List.Perm.cons _ (List.Perm.swap _ _ _)))
end
theorem jq_ {S : PH} {v : Value} {x : Raw} (h : RV S v x) : v = x.v := by
  obtain ⟨cs, ⟨rfl, _⟩, rfl⟩ := h; rfl
theorem rv_raw' {S : PH} {v : Value} (h : v.oneCell' = true) : RV S v (⟨v⟩ : Raw) := ⟨[v], ⟨rfl, h⟩, rfl⟩
structure ORef (α : Type) where
  o : Option α
instance {α : Type} [Enc α] : Enc (ORef α) where
  agg := false
  sz := 1
  rep S cs x := match x.o with
    | none => cs = [.pointer none]
    | some y => ∃ a, cs = [.pointer (some a)] ∧ PtS S (.pointer (some a)) y
  len {S cs x} h := by
    cases hx : x.o with
    | none => rw [hx] at h; rw [h]; rfl
    | some y => rw [hx] at h; obtain ⟨a, e, _⟩ := h; rw [e]; rfl
  one _ := rfl
  cell1 {S cs x} h := by
    cases hx : x.o with
    | none => rw [hx] at h; intro v hv; rw [h] at hv; simp at hv; subst hv; rfl
    | some y => rw [hx] at h; obtain ⟨a, e, _⟩ := h; intro v hv; rw [e] at hv; simp at hv; subst hv; rfl
  mono {S T cs x} hle h := by
    cases hx : x.o with
    | none => rw [hx] at h; exact h
    | some y => rw [hx] at h; obtain ⟨a, e, p⟩ := h; exact ⟨a, e, p.mono hle⟩
def FnV2 (P : Program) (S : PH) (v : Value) (g : Int → Int → Option Bool) : Prop :=
  ∃ (k : FuncId) (cap : List Value), v = .func (.func k) #[] cap.toArray ∧ bj_ P k ∧ ∀ T w Fr a b r, S.Le T → Inv w T Fr → g a b = some r → Calls P k (.int .i64 a :: .int .i64 b :: cap).toArray w (dd_ T Fr (.bool r))
theorem FnV2.mono {P : Program} {S T : PH} {v : Value} {g : Int → Int → Option Bool} (h : FnV2 P S v g) (hle : S.Le T) : FnV2 P T v g := by
  obtain ⟨k, cap, h1, h2, h3⟩ := h
  exact ⟨k, cap, h1, h2, fun U w Fr a b r hu => h3 U w Fr a b r (hle.trans hu)⟩
theorem FnV2.one {P : Program} {S : PH} {v : Value} {g : Int → Int → Option Bool} (h : FnV2 P S v g) : v.oneCell' = true := by
  obtain ⟨k, cap, rfl, _⟩ := h; rfl
theorem FnV.one {α : Type} [Enc α] {P : Program} {S : PH} {v : Value} {g : α → Option Bool} (h : FnV P S v g) : v.oneCell' = true := by
  obtain ⟨k, cap, rfl, _⟩ := h; rfl
section
variable {α : Type} [Enc α] {w : World} {S : PH} {O : List HP} {T : TypeId} {g : Nat} {l : List α}
variable {P : Program} {n : Nat} {f : Fr} {K : Fr → World → Prop} {d : Nat} {ty : TypeId} {pos : String} {af : Array Edge} {gd : Option (Nat × Bool)} {x y : Operand} {u : Value} {E A : TypeId} {k : Nat}
end
section
variable {α : Type} [Enc α] {w : World} {S : PH} {O : List HP} {To Ti : TypeId} {v : Value} {raws : List Raw} {ls : List (List α)}
def go_ (Ti : TypeId) (raws : List Raw) (ls : List (List α)) (i : Nat) : HP := kv_ ((ck_ Ti raws ls).eraseIdx i)
theorem eb_ : ∀ (raws : List Raw) (ls : List (List α)) (i : Nat) (r : Raw) (l : List α), raws[i]? = some r → ls[i]? = some l → (ck_ Ti raws ls).Perm (Row Ti r.v l :: (ck_ Ti raws ls).eraseIdx i)
  | [], _, _, _, _, h, _ => by simp at h
  | _ :: _, [], _, _, _, _, h => by simp at h
  | a :: raws, b :: ls, 0, r, l, h, k => by
    simp at h k
    subst h; subst k
    exact .refl _
  | a :: raws, b :: ls, i + 1, r, l, h, k => by
    have := eb_ raws ls i r l (by simpa using h) (by simpa using k)
    exact (List.Perm.cons _ this).trans (List.Perm.swap _ _ _)
theorem fs_ : ∀ (raws : List Raw) (ls : List (List α)) (i : Nat) (r : Raw) (l : List α), (ck_ Ti (raws.set i r) (ls.set i l)).eraseIdx i = (ck_ Ti raws ls).eraseIdx i
  | [], _, _, _, _ => by simp [ck_]
  | _ :: _, [], _, _, _ => by simp [ck_]
  | a :: raws, b :: ls, 0, r, l => rfl
  | a :: raws, b :: ls, i + 1, r, l => by
    have := fs_ raws ls i r l
    simp only [ck_] at this
    simp [ck_, this]
theorem Inv.gridTake {i : Int} {r : Raw} {l : List α} (h : Inv w S (ec_ To Ti v raws ls :: O)) (hr : at? raws i = some r) (hl : at? ls i = some l) : Inv w S (Row Ti r.v l :: Row To v raws :: go_ Ti raws ls i.toNat :: O) := by
  have h1 : Inv w S (Row To v raws :: (ck_ Ti raws ls ++ O)) := h.allOpen
  have hp := eb_ (Ti := Ti) raws ls i.toNat r l (bv_ hr).2.2 (bv_ hl).2.2
  have h2 : Inv w S ((ck_ Ti raws ls).eraseIdx i.toNat ++ (Row Ti r.v l :: Row To v raws :: O)) := by
    refine h1.perm ?_
    refine (List.Perm.cons _ (hp.append_right O)).trans ?_
    refine (List.Perm.swap _ _ _).trans ?_
    refine List.Perm.trans ?_ List.perm_middle.symm
    refine List.Perm.cons _ ?_
    exact List.perm_middle.symm
  have h3 : Inv w S (go_ Ti raws ls i.toNat :: Row Ti r.v l :: Row To v raws :: O) := Inv.allShut h2
  exact h3.rot2
theorem Inv.gridGive {i : Int} {r r' : Raw} {l l' : List α} (hr : at? raws i = some r) (hl : at? ls i = some l) (h : Inv w S (Row Ti r'.v l' :: Row To v (raws.set i.toNat r') :: go_ Ti raws ls i.toNat :: O)) : Inv w S (ec_ To Ti v (raws.set i.toNat r') (ls.set i.toNat l') :: O) := by
  obtain ⟨_, h1, h1'⟩ := bv_ hr
  obtain ⟨_, h2, h2'⟩ := bv_ hl
  have hp := eb_ (Ti := Ti) (raws.set i.toNat r') (ls.set i.toNat l') i.toNat r' l' (by simp [h1]) (by simp [h2])
  rw [fs_] at hp
  have h3 : Inv w S (go_ Ti raws ls i.toNat :: Row Ti r'.v l' :: Row To v (raws.set i.toNat r') :: O) := h.rot2.rot2
  have h4 : Inv w S ((ck_ Ti raws ls).eraseIdx i.toNat ++ (Row Ti r'.v l' :: Row To v (raws.set i.toNat r') :: O)) := h3.allOpen
  refine Inv.allShut (h4.perm ?_)
  refine List.perm_middle.trans ?_
  refine (List.Perm.cons _ List.perm_middle).trans ?_
  refine (List.Perm.swap _ _ _).trans (List.Perm.cons _ ?_)
  exact (hp.symm.append_right O)
end
section
variable {α : Type} {raws : List Raw} {ls : List (List α)}
theorem fr_ {i : Int} {l : List α} (hlen : raws.length = ls.length) (h : at? ls i = some l) : ∃ r, at? raws i = some r := by
  obtain ⟨h0, h1, _⟩ := bv_ h
  refine ⟨raws[i.toNat]'(by omega), ?_⟩
  unfold at?; rw [if_pos h0, List.getElem?_eq_getElem]
theorem mk?_raw {c : Int} {l : List (List α)} (h : mk? c ([] : List α) = some l) : mk? c (⟨.slice none 0 0⟩ : Raw) = some (List.replicate c.toNat ⟨.slice none 0 0⟩) ∧ l = List.replicate c.toNat [] := by
  obtain ⟨h1, h2, h3⟩ := ju_ h
  exact ⟨by unfold mk?; rw [if_pos ⟨h1, h2⟩], h3⟩
end
section
variable {P : Program} {fn : Func} {n t t2 g : Nat} {T B : TypeId} {f : Fr} {w : World} {S : PH} {O : List HP} {c v2 : Value}
end
theorem mv_ {α : Type} {raws : List Raw} {ls : List (List α)} {i j : Nat} {r : Raw} {l : List α} (h : raws.length = ls.length) : (raws.set i r).length = (ls.set j l).length := by simp [h]
theorem mw_ {α : Type} {c : Nat} {l : List (List α)} (h : l = List.replicate c []) : (List.replicate c (⟨.slice none 0 0⟩ : Raw)).length = l.length := by simp [h]
section
variable {α : Type} [Enc α] {P : Program} {n : Nat} {f : Fr} {w : World} {K : Fr → World → Prop} {d : Nat} {ty : TypeId} {pos : String} {af : Array Edge} {gd : Option (Nat × Bool)} {x : Operand} {T Tr : TypeId} {S : PH} {O : List HP} {To Ti : TypeId} {v : Value} {raws : List Raw} {ls : List (List α)}
theorem jj_ (hd : Nat.blt d n = true) (hT : P.underlying T = some (.slice To)) (hx : ev f x = v) (hlen : raws.length = ls.length) (hI : Inv w S (ec_ To Ti v raws ls :: O)) (k : K (upd f d (.int .i64 ls.length)) w) :
    OP P n ro ⟨some d, .call ⟨.builtin .len, #[x], #[T]⟩, ty, pos, af, gd⟩ f w K :=
  bu_ (α := Raw) hd hT hx hI.gridOut (by rw [hlen]; exact k)
theorem hh_ {i : Int} {r : Raw} {l : List α} (hd : Nat.blt d n = true) (hT : P.underlying T = some (.slice Ti)) (hx : ev f x = r.v) (hr : at? raws i = some r) (hl : at? ls i = some l) (hI : Inv w S (ec_ To Ti v raws ls :: O)) (k : K (upd f d (.int .i64 l.length)) w) :
    OP P n ro ⟨some d, .call ⟨.builtin .len, #[x], #[T]⟩, ty, pos, af, gd⟩ f w K :=
  bu_ (α := α) hd hT hx (hI.gridTake hr hl) k
end
theorem lw_ {α : Type} {raws : List Raw} {ls : List (List α)} {j : Nat} {l : List α} (h : raws.length = ls.length) : raws.length = (ls.set j l).length := by simp [h]
theorem lr {S : PH} : S.Le S := PH.Le.refl S
theorem fn {A : Value → Prop} {B C : Value → PH → Prop} {S : PH} {v : Value} (a : A v) (b : B v S) (c : C v S) : ∃ v S', A v ∧ S.Le S' ∧ B v S' ∧ C v S' := ⟨v, S, a, lr, b, c⟩
theorem AllP.u {l : List Nat} {sps : List Sp} {f : Fr} {vals : Nat → Value} {S' : PH} (h : AllP l (fun j => ∀ t, sps[j]? = some t → (∀ d, t.dst = some d → f d = vals j) ∧ t.fact (t.deps.map vals) S')) (i : Nat) {a d : Nat} {t : Sp} {x : Value}
    (e : l[i]? = some a) (e2 : sps[a]? = some t) (e3 : (t.dst, t.fact (t.deps.map vals) S') = (some d, vals a = x)) : f d = x := by
  obtain ⟨h1, h2⟩ := h.at_ i e t e2
  rw [(Prod.mk.inj e3).2] at h2
  exact (h1 d (Prod.mk.inj e3).1).trans h2
section
variable {P : Program} {n : Nat} {ro : Option Nat} {ops : Array Oper} {N : Fr → World → Prop} {rest : List Oper} {f : Fr} {w : World} {K : Fr → World → Prop} {ty : TypeId} {pos : String} {af : Array Edge}
end
end Go.Proofs.Ytogfongmnkmegaa.Pad
