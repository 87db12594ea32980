/- A region that draws its order: each operation by itself, the tokens that it takes, reads and gives. -/
import Derived.Test.YtogfongmnkmegaaPadF
set_option linter.unusedVariables false
set_option linter.unusedSimpArgs false
namespace Go.Proofs.Ytogfongmnkmegaa.Pad
open Go
variable {ro : Option Nat}
def AllP : List Nat → (Nat → Prop) → Prop
  | [], _ => True
  | a :: l, p => p a ∧ AllP l p
theorem AllP.of {p : Nat → Prop} : ∀ {l : List Nat}, (∀ a ∈ l, p a) → AllP l p
  | [], _ => trivial
  | a :: l, h => ⟨h a (by simp), AllP.of fun b hb => h b (by simp [hb])⟩
structure Sp where
  dst : Option Nat
  anc : List Nat
  deps : List Nat
  fact : List Value → PH → Prop
  rd : List Nat
  cons : List Nat
  prod : List Nat
  mono : ∀ {vs : List Value} {S T : PH}, S.Le T → fact vs S → fact vs T
structure Tok where
  prod : Option Nat
  cons : Option Nat
  deps : List Nat
  e : List Value → HP
def OPg (P : Program) (n : Nat) (ro : Option Nat) (ops : Array Oper) (i : Nat) (f : Fr) (w : World) (K : Fr → World → Prop) : Prop :=
  ∀ a, Fits n a f → ∀ Q, wpOpIn (FW ro) 0 P ops Q i (fun a' w' => ∃ f', Fits n a' f' ∧ K f' w') a w
section
variable {P : Program} {n : Nat} {ops : Array Oper} {i : Nat} {f : Fr} {w : World} {K : Fr → World → Prop}
theorem af_ {o : Oper} (ho : ops[i]? = some o) (hg : o.guard = none) (h : OP P n ro o f w K) : OPg P n ro ops i f w K := by
  intro a ha Q
  unfold wpOpIn
  rw [ho]
  simp only
  rw [if_pos (by simp [Region.wanted, hg])]
  exact h a ha Q
theorem bi_ {o : Oper} {j d : Nat} {b c : Bool} (ho : ops[i]? = some o) (hg : o.guard = some (j, b)) (hj : (ops[j]?).bind (·.dst) = some d) (hd : Nat.blt d n = true) (hv : f d = .bool c) (hc : c = b) (h : OP P n ro o f w K) : OPg P n ro ops i f w K := by
  intro a ha Q
  unfold wpOpIn
  rw [ho]
  simp only
  rw [if_pos (by rw [fm_ ha hg hj hd hv]; simp [hc])]
  exact h a ha Q
theorem bq_ {o : Oper} {j d : Nat} {b c : Bool} (ho : ops[i]? = some o) (hg : o.guard = some (j, b)) (hj : (ops[j]?).bind (·.dst) = some d) (hd : Nat.blt d n = true) (hv : f d = .bool c) (hc : c = !b) (hdo : ma_ n o.dst = true) (h : K (updO f o.dst undef) w) : OPg P n ro ops i f w K := by
  intro a ha Q
  unfold wpOpIn
  rw [ho]
  simp only
  rw [if_neg (by rw [fm_ ha hg hj hd hv, hc]; cases b <;> simp)]
  exact ⟨fun _ _ => trivial, _, ha.putO hdo undef, h⟩
end
def noTok : Tok := ⟨none, none, [], fun _ => HP.exact Hp.emp⟩
def em_ (tks : List Tok) (vals : Nat → Value) (t : Nat) : HP := (tks.getD t noTok).e ((tks.getD t noTok).deps.map vals)
def Ob (P : Program) (n : Nat) (ro : Option Nat) (ops : Array Oper) (sps : List Sp) (tks : List Tok) (f0 : Fr) (S : PH) (i : Nat) (s : Sp) : Prop :=
  ∀ (vals : Nat → Value) (f : Fr) (w : World) (S' : PH) (X : List HP), S.Le S' →
    AllP s.anc (fun j => ∀ t, sps[j]? = some t → (∀ d, t.dst = some d → f d = vals j) ∧ t.fact (t.deps.map vals) S') →
    (∀ d, (∀ (j : Nat) (t : Sp), sps[j]? = some t → t.dst = some d → i ∈ t.anc ∨ i = j) → f d = f0 d) →
    Inv w S' (s.cons.map (em_ tks vals) ++ (s.rd.map (em_ tks vals) ++ X)) →
    OPg P n ro ops i f w fun f' w' => ∃ v S'', f' = updO f s.dst v ∧ S'.Le S'' ∧ s.fact (s.deps.map (upv vals i v)) S'' ∧
      Inv w' S'' (s.prod.map (em_ tks (upv vals i v)) ++ (s.rd.map (em_ tks vals) ++ X))
def Obs (P : Program) (n : Nat) (ro : Option Nat) (ops : Array Oper) (sps : List Sp) (tks : List Tok) (f0 : Fr) (S : PH) : Nat → List Sp → Prop
  | _, [] => True
  | i, s :: r => Ob P n ro ops sps tks f0 S i s ∧ Obs P n ro ops sps tks f0 S (i + 1) r
theorem Obs.at_ {P : Program} {n : Nat} {ops : Array Oper} {sps : List Sp} {tks : List Tok} {f0 : Fr} {S : PH} : ∀ {r : List Sp} {i k : Nat} {s : Sp}, Obs P n ro ops sps tks f0 S i r → r[k]? = some s → Ob P n ro ops sps tks f0 S (i + k) s
  | [], _, _, _, _, h => by simp at h
  | t :: r, i, 0, s, h, hk => by simp at hk; subst hk; exact h.1
  | t :: r, i, k + 1, s, h, hk => by
    have := Obs.at_ (k := k) h.2 (by simpa using hk)
    rwa [show i + 1 + k = i + (k + 1) by omega] at this
def fj_ (o : Oper) : List Nat := (o.after.toList.filter (Region.binds .any)).map (·.on)
def jd_ (ops : List Oper) (sps : List Sp) (tks : List Tok) : Bool :=
  ops.length == sps.length &&
  (List.range sps.length).all (fun i => match ops[i]?, sps[i]? with
    | some o, some s =>
      o.dst == s.dst &&
      (fj_ o).all (fun p => s.anc.contains p && (match sps[p]? with | some q => q.anc.all s.anc.contains | none => false)) &&
      s.anc.all (fun a => Nat.blt a i && (fj_ o).any (fun p => p == a || (match sps[p]? with | some q => q.anc.contains a | none => false))) &&
      s.deps.all (fun d => d == i || s.anc.contains d) &&
      s.cons.all (fun t => match tks[t]? with | some k => k.cons == some i | none => false) &&
      s.prod.all (fun t => match tks[t]? with | some k => k.prod == some i | none => false) &&
      s.rd.all (fun t => match tks[t]? with
        | some k => (match k.prod with | some p => s.anc.contains p | none => true) && (match k.cons with | some c => (match sps[c]? with | some q => q.anc.contains i | none => false) | none => true)
        | none => false) &&
      (List.range sps.length).all (fun j => j == i || (match sps[j]? with | some q => !(s.dst.isSome && q.dst == s.dst) | none => true)) &&
      decide s.cons.Nodup && decide s.prod.Nodup && decide s.rd.Nodup
    | _, _ => false) &&
  (List.range tks.length).all (fun t => match tks[t]? with
    | some k =>
      (match k.prod with | some p => (match sps[p]? with | some q => q.prod.contains t && k.deps.all (fun d => d == p || q.anc.contains d) | none => false) | none => k.deps.isEmpty) &&
      (match k.cons with | some c => (match sps[c]? with | some q => q.cons.contains t && (match k.prod with | some p => q.anc.contains p | none => true) | none => false) | none => true)
    | none => false)
def dc_ (tks : List Tok) (done : Nat → Bool) : List Nat :=
  (List.range tks.length).filter fun t => match tks[t]? with
    | some k => (match k.prod with | some p => done p | none => true) && !(match k.cons with | some c => done c | none => false)
    | none => false
theorem ic_ {P : Program} {ops : Array Oper} {Q : Exit → Act → World → Prop} (I : Array Bool → Act → World → Prop)
    (hstep : ∀ listed a w i, listed.size = ops.size → I listed a w → i ∈ Region.ready .any ops listed → wpOpIn (FW ro) 0 P ops Q i (I (listed.setIfInBounds i true)) a w)
    (hend : ∀ listed a w, listed.size = ops.size → I listed a w → Region.ready .any ops listed = [] → Q .normal a w) :
    ∀ fuel listed a w, listed.size = ops.size → (List.range ops.size).countP (fun i => !listed.getD i true) ≤ fuel → I listed a w → wpAnyIn (FW ro) 0 P .any ops Q fuel listed a w
  | 0, listed, a, w, hsz, hc, hI => by
    have hr : Region.ready .any ops listed = [] := by
      unfold Region.ready
      rw [List.filter_eq_nil_iff]
      intro i hi
      have := List.countP_eq_zero.1 (Nat.le_zero.1 hc) i hi
      intro hh
      simp only [Bool.and_eq_true] at hh
      exact this hh.1
    exact ⟨hr, hend _ _ _ hsz hI hr⟩
  | fuel + 1, listed, a, w, hsz, hc, hI => by
    refine ⟨fun hr => hend _ _ _ hsz hI hr, fun i hi => ?_⟩
    refine wpOpIn_mono (fun a' w' hI' => ?_) (hstep listed a w i hsz hI hi)
    refine ic_ I hstep hend fuel _ a' w' (by simpa using hsz) ?_ hI'
    have hm := List.mem_filter.1 hi
    have hir : i < ops.size := by simpa using hm.1
    have hun : listed.getD i true = false := by have := hm.2; simp only [Bool.and_eq_true] at this; simpa using this.1
    have key : (List.range ops.size).countP (fun k => !(listed.setIfInBounds i true).getD k true) < (List.range ops.size).countP (fun k => !listed.getD k true) := by
      have gen : ∀ (l : List Nat), l.Nodup → i ∈ l → l.countP (fun k => !(listed.setIfInBounds i true).getD k true) < l.countP (fun k => !listed.getD k true) := by
        intro l
        induction l with
        | nil => intro _ h; simp at h
        | cons x l ih =>
          intro hn hx
          have hset : ∀ k, k ≠ i → (listed.setIfInBounds i true).getD k true = listed.getD k true := fun k hk => by
            simp [Array.getD_eq_getD_getElem?, Array.getElem?_setIfInBounds_ne (Ne.symm hk)]
          have hsame : (listed.setIfInBounds i true).getD i true = true := by
            simp [Array.getD_eq_getD_getElem?, Array.getElem?_setIfInBounds, hsz, hir]
          rw [List.countP_cons, List.countP_cons]
          by_cases hxi : x = i
          · subst hxi
            have hnot : x ∉ l := (List.nodup_cons.1 hn).1
            have : l.countP (fun k => !(listed.setIfInBounds x true).getD k true) = l.countP (fun k => !listed.getD k true) := by
              apply List.countP_congr
              intro k hk
              rw [hset k (fun e => hnot (e ▸ hk))]
            rw [this]
            simp [hsame, hun]
          · have := ih (List.nodup_cons.1 hn).2 (by rcases List.mem_cons.1 hx with h | h; exact absurd h.symm hxi; exact h)
            rw [hset x hxi]
            omega
      exact gen _ List.nodup_range (by simpa using hir)
    omega
structure TabOk (ops : List Oper) (sps : List Sp) (tks : List Tok) : Prop where
  len : ops.length = sps.length
  dst : ∀ {i : Nat} {o : Oper} {s : Sp}, ops[i]? = some o → sps[i]? = some s → o.dst = s.dst
  preds : ∀ {i : Nat} {o : Oper} {s : Sp} {p : Nat}, ops[i]? = some o → sps[i]? = some s → p ∈ fj_ o → p ∈ s.anc
  anc : ∀ {i : Nat} {o : Oper} {s : Sp} {a : Nat}, ops[i]? = some o → sps[i]? = some s → a ∈ s.anc → a < i ∧ ∃ p ∈ fj_ o, p = a ∨ ∃ q, sps[p]? = some q ∧ a ∈ q.anc
  deps : ∀ {i : Nat} {s : Sp} {d : Nat}, sps[i]? = some s → d ∈ s.deps → d = i ∨ d ∈ s.anc
  cons : ∀ {i : Nat} {s : Sp} {t : Nat}, sps[i]? = some s → t ∈ s.cons → ∃ k, tks[t]? = some k ∧ k.cons = some i
  prod : ∀ {i : Nat} {s : Sp} {t : Nat}, sps[i]? = some s → t ∈ s.prod → ∃ k, tks[t]? = some k ∧ k.prod = some i
  rd : ∀ {i : Nat} {s : Sp} {t : Nat}, sps[i]? = some s → t ∈ s.rd → ∃ k, tks[t]? = some k ∧ (∀ p, k.prod = some p → p ∈ s.anc) ∧ (∀ c, k.cons = some c → ∃ q, sps[c]? = some q ∧ i ∈ q.anc)
  once : ∀ {i j : Nat} {s q : Sp} {d : Nat}, sps[i]? = some s → sps[j]? = some q → s.dst = some d → q.dst = some d → i = j
  nd1 : ∀ {i : Nat} {s : Sp}, sps[i]? = some s → s.cons.Nodup
  nd2 : ∀ {i : Nat} {s : Sp}, sps[i]? = some s → s.prod.Nodup
  nd3 : ∀ {i : Nat} {s : Sp}, sps[i]? = some s → s.rd.Nodup
  tp : ∀ {t : Nat} {k : Tok} {p : Nat}, tks[t]? = some k → k.prod = some p → ∃ q, sps[p]? = some q ∧ t ∈ q.prod ∧ ∀ d ∈ k.deps, d = p ∨ d ∈ q.anc
  tn : ∀ {t : Nat} {k : Tok}, tks[t]? = some k → k.prod = none → k.deps = []
  tc : ∀ {t : Nat} {k : Tok} {c : Nat}, tks[t]? = some k → k.cons = some c → ∃ q, sps[c]? = some q ∧ t ∈ q.cons ∧ ∀ p, k.prod = some p → p ∈ q.anc
theorem da_ {α : Type} {l : List α} {i : Nat} {x : α} (h : l[i]? = some x) : i < l.length := (List.getElem?_eq_some_iff.1 h).1
theorem TabOk.of {ops : List Oper} {sps : List Sp} {tks : List Tok} (h : jd_ ops sps tks = true) : TabOk ops sps tks := by
  unfold jd_ at h
  rw [Bool.and_eq_true, Bool.and_eq_true] at h
  obtain ⟨⟨h1, h2⟩, h3⟩ := h
  have hlen : ops.length = sps.length := by simpa using h1
  have hop : ∀ {i : Nat} {o : Oper} {s : Sp}, ops[i]? = some o → sps[i]? = some s → _ := fun {i o s} ho hs => by
    have := List.all_eq_true.1 h2 i (by simpa using da_ hs)
    rw [ho, hs] at this
    simp only [Bool.and_eq_true, List.all_eq_true, decide_eq_true_eq] at this
    exact this
  have hsp : ∀ {i : Nat} {s : Sp}, sps[i]? = some s → ∃ o, ops[i]? = some o := fun {i s} hs => by
    have := da_ hs
    exact ⟨ops[i]'(by omega), List.getElem?_eq_getElem (by omega)⟩
  have htk : ∀ {t : Nat} {k : Tok}, tks[t]? = some k → _ := fun {t k} hk => by
    have := List.all_eq_true.1 h3 t (by simpa using da_ hk)
    rw [hk] at this
    simp only [Bool.and_eq_true] at this
    exact this
  refine ⟨hlen, ?_, ?_, ?_, ?_, ?_, ?_, ?_, ?_, ?_, ?_, ?_, ?_, ?_, ?_⟩
  · intro i o s ho hs
    have := (hop ho hs).1.1.1.1.1.1.1.1.1.1
    simpa using this
  · intro i o s p ho hs hp
    have := (hop ho hs).1.1.1.1.1.1.1.1.1.2 p hp
    simpa using this.1
  · intro i o s a ho hs ha
    have := (hop ho hs).1.1.1.1.1.1.1.1.2 a ha
    refine ⟨by have := this.1; have := Nat.le_of_ble_eq_true this; omega, ?_⟩
    obtain ⟨p, hp, hq⟩ := List.any_eq_true.1 this.2
    refine ⟨p, hp, ?_⟩
    rw [Bool.or_eq_true] at hq
    rcases hq with hq | hq
    · exact .inl (by simpa using hq)
    · cases hsp' : sps[p]? with
      | none => rw [hsp'] at hq; cases hq
      | some q => rw [hsp'] at hq; exact .inr ⟨q, rfl, by simpa using hq⟩
  · intro i s d hs hd
    obtain ⟨o, ho⟩ := hsp hs
    have := (hop ho hs).1.1.1.1.1.1.1.2 d hd
    simpa using this
  · intro i s t hs ht
    obtain ⟨o, ho⟩ := hsp hs
    have := (hop ho hs).1.1.1.1.1.1.2 t ht
    cases hk : tks[t]? with
    | none => rw [hk] at this; cases this
    | some k => rw [hk] at this; exact ⟨k, rfl, by simpa using this⟩
  · intro i s t hs ht
    obtain ⟨o, ho⟩ := hsp hs
    have := (hop ho hs).1.1.1.1.1.2 t ht
    cases hk : tks[t]? with
    | none => rw [hk] at this; cases this
    | some k => rw [hk] at this; exact ⟨k, rfl, by simpa using this⟩
  · intro i s t hs ht
    obtain ⟨o, ho⟩ := hsp hs
    have := (hop ho hs).1.1.1.1.2 t ht
    cases hk : tks[t]? with
    | none => rw [hk] at this; cases this
    | some k =>
      rw [hk] at this
      simp only [Bool.and_eq_true] at this
      refine ⟨k, rfl, fun p hp => ?_, fun c hc => ?_⟩
      · have := this.1; rw [hp] at this; simpa using this
      · have := this.2
        rw [hc] at this
        simp only at this
        cases hq : sps[c]? with
        | none => rw [hq] at this; cases this
        | some q => rw [hq] at this; exact ⟨q, rfl, by simpa using this⟩
  · intro i j s q d hs hq hd hd'
    obtain ⟨o, ho⟩ := hsp hs
    have := (hop ho hs).1.1.1.2 j (by simpa using da_ hq)
    rw [hq] at this
    simp only [Bool.or_eq_true, beq_iff_eq] at this
    rcases this with h | h
    · exact h.symm
    · rw [hd, hd'] at h; simp at h
  · intro i s hs
    obtain ⟨o, ho⟩ := hsp hs
    exact (hop ho hs).1.1.2
  · intro i s hs
    obtain ⟨o, ho⟩ := hsp hs
    exact (hop ho hs).1.2
  · intro i s hs
    obtain ⟨o, ho⟩ := hsp hs
    exact (hop ho hs).2
  · intro t k p hk hp
    have := (htk hk).1
    rw [hp] at this
    simp only at this
    cases hq : sps[p]? with
    | none => rw [hq] at this; cases this
    | some q =>
      rw [hq] at this
      simp only [Bool.and_eq_true, List.all_eq_true, Bool.or_eq_true, beq_iff_eq, List.contains_iff_mem] at this
      exact ⟨q, rfl, this.1, this.2⟩
  · intro t k hk hp
    have := (htk hk).1
    rw [hp] at this
    simpa using this
  · intro t k c hk hc
    have := (htk hk).2
    rw [hc] at this
    simp only at this
    cases hq : sps[c]? with
    | none => rw [hq] at this; cases this
    | some q =>
      rw [hq] at this
      simp only [Bool.and_eq_true, List.contains_iff_mem] at this
      refine ⟨q, rfl, this.1, fun p hp => ?_⟩
      have := this.2
      rw [hp] at this
      simpa using this
theorem et_ {α : Type} {l : List α} (h : l.Nodup) (p : α → Bool) : (l.filter p).Nodup := h.sublist List.filter_sublist
theorem fa_ {tks : List Tok} {done : Nat → Bool} {t : Nat} : t ∈ dc_ tks done ↔ ∃ k, tks[t]? = some k ∧ (∀ p, k.prod = some p → done p = true) ∧ (∀ c, k.cons = some c → done c = false) := by
  unfold dc_
  rw [List.mem_filter]
  constructor
  · rintro ⟨h1, h2⟩
    cases hk : tks[t]? with
    | none => rw [hk] at h2; cases h2
    | some k =>
      rw [hk] at h2
      simp only [Bool.and_eq_true] at h2
      refine ⟨k, rfl, fun p hp => ?_, fun c hc => ?_⟩
      · have := h2.1; rw [hp] at this; exact this
      · have := h2.2; rw [hc] at this; simpa using this
  · rintro ⟨k, hk, hp, hc⟩
    refine ⟨by simpa using da_ hk, ?_⟩
    rw [hk]
    simp only [Bool.and_eq_true]
    refine ⟨?_, ?_⟩
    · cases h : k.prod with
      | none => rfl
      | some p => exact hp p h
    · cases h : k.cons with
      | none => rfl
      | some c => simp [hc c h]
theorem cn_ {P : Program} {n : Nat} {N R : Fr → World → Prop} {X : Nat → Fr → World → Prop} {f : Fr} {w : World} {S : PH} {O : List HP} {id : Nat} {l : List Oper} {sps : List Sp} {tks : List Tok}
    (hm : P.follows .mixedOrders = true) (htab : jd_ l sps tks = true) (hI : Inv w S ((dc_ tks (fun _ => false)).map (em_ tks (fun _ => undef)) ++ O))
    (hobs : Obs P n ro l.toArray sps tks f S 0 sps)
    (kont : ∀ (vals : Nat → Value) f' w' S', f'.ds = f.ds → S.Le S' → AllP (List.range sps.length) (fun j => ∀ t, sps[j]? = some t → (∀ d, t.dst = some d → f' d = vals j) ∧ t.fact (t.deps.map vals) S') →
      (∀ d, (∀ (j : Nat) (t : Sp), sps[j]? = some t → t.dst ≠ some d) → f' d = f d) → Inv w' S' ((dc_ tks (fun _ => true)).map (em_ tks vals) ++ O) → N f' w') :
    WP P n ro (.region id l.toArray true) N R X f w := by
  have T := TabOk.of htab
  intro a ha
  refine wpIn_region_any hm ?_
  let don : Array Bool → Nat → Bool := fun listed i => listed.getD i false
  refine ic_ (fun listed a w => ∃ (vals : Nat → Value) (f' : Fr) (S' : PH), Fits n a f' ∧ f'.ds = f.ds ∧ S.Le S' ∧
      (∀ i s, sps[i]? = some s → don listed i = true → (∀ j ∈ s.anc, don listed j = true) ∧ (∀ d, s.dst = some d → f' d = vals i) ∧ s.fact (s.deps.map vals) S') ∧
      (∀ d, (∀ (j : Nat) (t : Sp), sps[j]? = some t → t.dst = some d → don listed j = false) → f' d = f d) ∧
      Inv w S' ((dc_ tks (don listed)).map (em_ tks vals) ++ O)) ?_ ?_ _ _ _ _ (by simp) (Nat.le_trans List.countP_le_length (by simp)) ?_
  · rintro listed a w i hsz ⟨vals, f', S', hfit, hds, hle, hdone, hkeep, hInv⟩ hi
    have hm' := List.mem_filter.1 hi
    have hir : i < l.length := by simpa using hm'.1
    have h2 := hm'.2
    rw [Bool.and_eq_true] at h2
    have hun : don listed i = false := by
      have := h2.1
      have hlt : i < listed.size := by rw [hsz]; simpa using hir
      show listed.getD i false = false
      simpa [Array.getD_eq_getD_getElem?, Array.getElem?_eq_getElem hlt] using this
    have ho : l[i]? = some (l[i]'hir) := List.getElem?_eq_getElem hir
    have hs : sps[i]? = some (sps[i]'(by rw [← T.len]; exact hir)) := List.getElem?_eq_getElem _
    generalize l[i]'hir = o at ho
    generalize sps[i]'(by rw [← T.len]; exact hir) = s at hs
    have hpre : ∀ p ∈ fj_ o, don listed p = true := by
      intro p hp
      have := h2.2
      simp only [List.getElem?_toArray, ho, Option.map_some, Option.getD_some] at this
      unfold fj_ at hp
      obtain ⟨e, he, rfl⟩ := List.mem_map.1 hp
      obtain ⟨he1, he2⟩ := List.mem_filter.1 he
      rw [Array.all_eq_true'] at this
      have := this e (by simpa using he1)
      rw [he2] at this
      show listed.getD e.on false = true
      simpa [Array.getD_eq_getD_getElem?] using this
    have hanc : ∀ j ∈ s.anc, don listed j = true := by
      intro j hj
      obtain ⟨_, p, hp, hq⟩ := T.anc ho hs hj
      rcases hq with rfl | ⟨q, hq, hjq⟩
      · exact hpre _ hp
      · exact (hdone p q hq (hpre p hp)).1 j hjq
    have hnd : (dc_ tks (don listed)).Nodup := et_ List.nodup_range _
    have hcl : ∀ t ∈ s.cons, t ∈ dc_ tks (don listed) := by
      intro t ht
      obtain ⟨k, hk, hkc⟩ := T.cons hs ht
      refine fa_.2 ⟨k, hk, fun p hp => ?_, fun c hc => ?_⟩
      · obtain ⟨q, hq, _, hpa⟩ := T.tc hk hkc
        rw [hs] at hq
        obtain rfl := Option.some.inj hq
        exact hanc p (hpa p hp)
      · rw [hkc] at hc; obtain rfl := Option.some.inj hc; exact hun
    have hrl : ∀ t ∈ s.rd, t ∈ dc_ tks (don listed) := by
      intro t ht
      obtain ⟨k, hk, hp, hc⟩ := T.rd hs ht
      refine fa_.2 ⟨k, hk, fun p hpp => hanc p (hp p hpp), fun c hcc => ?_⟩
      obtain ⟨q, hq, hiq⟩ := hc c hcc
      cases hd : don listed c with
      | false => rfl
      | true => have := (hdone c q hq hd).1 i hiq; rw [hun] at this; cases this
    have hdisj : ∀ t ∈ s.cons, t ∉ s.rd := by
      intro t ht ht'
      obtain ⟨k, hk, hkc⟩ := T.cons hs ht
      obtain ⟨k', hk', _, hc⟩ := T.rd hs ht'
      rw [hk] at hk'
      obtain rfl := Option.some.inj hk'
      obtain ⟨q, hq, hiq⟩ := hc i hkc
      rw [hs] at hq
      obtain rfl := Option.some.inj hq
      exact absurd (T.anc ho hs hiq).1 (Nat.lt_irrefl _)
    let rest := (dc_ tks (don listed)).filter (fun t => !s.cons.contains t && !s.rd.contains t)
    have hperm : (dc_ tks (don listed)).Perm (s.cons ++ (s.rd ++ rest)) := by
      refine (List.perm_ext_iff_of_nodup hnd ?_).2 fun t => ?_
      · rw [List.nodup_append, List.nodup_append]
        refine ⟨T.nd1 hs, ⟨T.nd3 hs, et_ hnd _, ?_⟩, ?_⟩
        · rintro a ha b hb rfl
          have := (List.mem_filter.1 hb).2
          simp [ha] at this
        · rintro a ha b hb rfl
          rcases List.mem_append.1 hb with hb | hb
          · exact hdisj a ha hb
          · have := (List.mem_filter.1 hb).2
            simp [ha] at this
      · constructor
        · intro ht
          by_cases h1 : t ∈ s.cons
          · exact List.mem_append.2 (.inl h1)
          · by_cases h2 : t ∈ s.rd
            · exact List.mem_append.2 (.inr (List.mem_append.2 (.inl h2)))
            · exact List.mem_append.2 (.inr (List.mem_append.2 (.inr (List.mem_filter.2 ⟨ht, by simp [h1, h2]⟩))))
        · intro ht
          rcases List.mem_append.1 ht with h | h
          · exact hcl t h
          · rcases List.mem_append.1 h with h | h
            · exact hrl t h
            · exact (List.mem_filter.1 h).1
    have hI1 : Inv w S' (s.cons.map (em_ tks vals) ++ (s.rd.map (em_ tks vals) ++ (rest.map (em_ tks vals) ++ O))) := by
      refine hInv.perm ?_
      have := (hperm.map (em_ tks vals)).append_right O
      simpa [List.map_append, List.append_assoc] using this
    have hob := Obs.at_ hobs hs
    rw [Nat.zero_add] at hob
    have hres := hob vals f' w S' (rest.map (em_ tks vals) ++ O) hle
      (AllP.of fun j hj t ht => ⟨(hdone j t ht (hanc j hj)).2.1, (hdone j t ht (hanc j hj)).2.2⟩)
      (fun d hd => hkeep d fun j t ht htd => by
        rcases hd j t ht htd with h | h
        · cases hdj : don listed j with
          | false => rfl
          | true => have := (hdone j t ht hdj).1 i h; rw [hun] at this; cases this
        · rw [← h]; exact hun) hI1 a hfit (Ends n N R X)
    refine wpOpIn_mono ?_ hres
    rintro a' w' ⟨f'', hfit', v, S'', rfl, hle', hfact, hInv'⟩
    have hset : ∀ j, don (listed.setIfInBounds i true) j = (j == i || don listed j) := by
      intro j
      show (listed.setIfInBounds i true).getD j false = (j == i || listed.getD j false)
      have hlt : i < listed.size := by rw [hsz]; simpa using hir
      by_cases hj : j = i
      · subst hj
        simp [Array.getD_eq_getD_getElem?, Array.getElem?_setIfInBounds, hlt]
      · simp [Array.getD_eq_getD_getElem?, Array.getElem?_setIfInBounds_ne (Ne.symm hj), hj]
    have hval : ∀ (ds : List Nat), (∀ d ∈ ds, d ≠ i) → ds.map (upv vals i v) = ds.map vals := by
      intro ds hds
      exact List.map_congr_left fun d hd => lb_ _ _ _ (hds d hd)
    refine ⟨upv vals i v, updO f' s.dst v, S'', hfit', (by cases s.dst <;> exact hds), hle.trans hle', ?_, ?_, ?_⟩
    · intro j t ht hdj
      rw [hset] at hdj
      by_cases hji : j = i
      · subst hji
        rw [hs] at ht
        obtain rfl := Option.some.inj ht
        refine ⟨fun k hk => by rw [hset, hanc k hk]; simp, fun d hd => ?_, hfact⟩
        rw [hd]
        show upd f' d v d = upv vals j v j
        rw [jp_, mj_]
      · have hdj' : don listed j = true := by simpa [hji] using hdj
        obtain ⟨h1, h2, h3⟩ := hdone j t ht hdj'
        have hne : ∀ k ∈ t.anc, k ≠ i := fun k hk e => by have := h1 k hk; rw [e, hun] at this; cases this
        refine ⟨fun k hk => by rw [hset, h1 k hk]; simp, fun d hd => ?_, ?_⟩
        · rw [lb_ _ _ _ hji, ← h2 d hd]
          cases hsd : s.dst with
          | none => rfl
          | some d' =>
            show upd f' d' v d = f' d
            refine lc_ _ _ _ fun e => ?_
            subst e
            exact hji (T.once ht hs hd hsd)
        · rw [hval t.deps (fun d hd => by
            rcases T.deps ht hd with rfl | h
            · exact hji
            · exact hne d h)]
          exact t.mono hle' h3
    · intro d hd
      cases hsd : s.dst with
      | none =>
        show f' d = f d
        refine hkeep d fun j t ht htd => ?_
        have := hd j t ht htd
        rw [hset] at this
        exact (Bool.or_eq_false_iff.1 this).2
      | some d' =>
        show upd f' d' v d = f d
        have hne : d ≠ d' := by
          rintro rfl
          have := hd i s hs hsd
          rw [hset] at this
          simp at this
        rw [lc_ _ _ _ hne]
        refine hkeep d fun j t ht htd => ?_
        have := hd j t ht htd
        rw [hset] at this
        exact (Bool.or_eq_false_iff.1 this).2
    · -- the tokens behind
      have hrest : (s.rd ++ rest).map (em_ tks vals) = (s.rd ++ rest).map (em_ tks (upv vals i v)) := by
        apply List.map_congr_left
        intro t ht
        have htl : t ∈ dc_ tks (don listed) := by
          rcases List.mem_append.1 ht with h | h
          · exact hrl t h
          · exact (List.mem_filter.1 h).1
        obtain ⟨k, hk, hp, _⟩ := fa_.1 htl
        unfold em_
        have hg : tks.getD t noTok = k := by simp [List.getD, hk]
        rw [hg, hval k.deps]
        intro d hd e
        cases hkp : k.prod with
        | none => rw [T.tn hk hkp] at hd; simp at hd
        | some p =>
          obtain ⟨q, hq, _, hdq⟩ := T.tp hk hkp
          have hpd := hp p hkp
          rcases hdq d hd with rfl | h
          · rw [e, hun] at hpd; cases hpd
          · have := (hdone p q hq hpd).1 d h; rw [e, hun] at this; cases this
      have hnd' : (dc_ tks (don (listed.setIfInBounds i true))).Nodup := et_ List.nodup_range _
      have hperm' : (s.prod ++ (s.rd ++ rest)).Perm (dc_ tks (don (listed.setIfInBounds i true))) := by
        have hrestm : ∀ t, t ∈ s.rd ++ rest ↔ (t ∈ dc_ tks (don listed) ∧ t ∉ s.cons) := by
          intro t
          constructor
          · intro h
            rcases List.mem_append.1 h with h | h
            · exact ⟨hrl t h, fun h' => hdisj t h' h⟩
            · have := List.mem_filter.1 h
              refine ⟨this.1, ?_⟩
              have := this.2
              simp at this
              exact this.1
          · rintro ⟨h1, h2⟩
            by_cases h3 : t ∈ s.rd
            · exact List.mem_append.2 (.inl h3)
            · exact List.mem_append.2 (.inr (List.mem_filter.2 ⟨h1, by simp [h2, h3]⟩))
        refine (List.perm_ext_iff_of_nodup ?_ hnd').2 fun t => ?_
        · rw [List.nodup_append]
          refine ⟨T.nd2 hs, ?_, ?_⟩
          · have := (hperm.nodup_iff).1 hnd
            exact (List.nodup_append.1 this).2.1
          · rintro a ha b hb rfl
            obtain ⟨k, hk, hkp⟩ := T.prod hs ha
            obtain ⟨k', hk', hp, _⟩ := fa_.1 ((hrestm a).1 hb).1
            rw [hk] at hk'
            obtain rfl := Option.some.inj hk'
            have := hp i hkp
            rw [hun] at this
            cases this
        · rw [List.mem_append, hrestm, fa_, fa_]
          constructor
          · rintro (h | ⟨⟨k, hk, hp, hc⟩, hnc⟩)
            · obtain ⟨k, hk, hkp⟩ := T.prod hs h
              refine ⟨k, hk, fun p hp => ?_, fun c hc => ?_⟩
              · rw [hkp] at hp; obtain rfl := Option.some.inj hp; rw [hset]; simp
              · obtain ⟨q, hq, _, hpa⟩ := T.tc hk hc
                have hiq := hpa i hkp
                rw [hset]
                have hci : c ≠ i := by
                  rintro rfl
                  rw [hs] at hq
                  obtain rfl := Option.some.inj hq
                  exact absurd (T.anc ho hs hiq).1 (Nat.lt_irrefl _)
                cases hdc : don listed c with
                | false => simp [hci]
                | true => have := (hdone c q hq hdc).1 i hiq; rw [hun] at this; cases this
            · refine ⟨k, hk, fun p hpp => by rw [hset, hp p hpp]; simp, fun c hcc => ?_⟩
              rw [hset]
              have hci : c ≠ i := by
                rintro rfl
                obtain ⟨q, hq, htq, _⟩ := T.tc hk hcc
                rw [hs] at hq
                obtain rfl := Option.some.inj hq
                exact hnc htq
              simp [hci, hc c hcc]
          · rintro ⟨k, hk, hp, hc⟩
            by_cases hkp : k.prod = some i
            · obtain ⟨q, hq, htq, _⟩ := T.tp hk hkp
              rw [hs] at hq
              obtain rfl := Option.some.inj hq
              exact .inl htq
            · refine .inr ⟨⟨k, hk, fun p hpp => ?_, fun c hcc => ?_⟩, fun h => ?_⟩
              · have := hp p hpp
                rw [hset] at this
                have hpi : p ≠ i := by rintro rfl; exact hkp hpp
                simpa [hpi] using this
              · have := hc c hcc
                rw [hset] at this
                exact (Bool.or_eq_false_iff.1 this).2
              · obtain ⟨k', hk', hkc⟩ := T.cons hs h
                rw [hk] at hk'
                obtain rfl := Option.some.inj hk'
                have := hc i hkc
                rw [hset] at this
                simp at this
      refine hInv'.perm ?_
      have e1 : s.rd.map (em_ tks vals) ++ (rest.map (em_ tks vals) ++ O) = (s.rd ++ rest).map (em_ tks (upv vals i v)) ++ O := by
        rw [← hrest, List.map_append, List.append_assoc]
      rw [e1, ← List.append_assoc, ← List.map_append]
      exact (hperm'.map _).append_right O
  · rintro listed a w hsz ⟨vals, f', S', hfit, hds, hle, hdone, hkeep, hInv⟩ hnil
    have hall : ∀ i, i < sps.length → don listed i = true := by
      intro i
      induction i using Nat.strongRecOn with
      | _ i ih =>
        intro hi
        cases hd : don listed i with
        | true => rfl
        | false =>
          exfalso
          have hir : i < l.length := by rw [T.len]; exact hi
          have ho : l[i]? = some (l[i]'hir) := List.getElem?_eq_getElem hir
          have hs : sps[i]? = some (sps[i]'hi) := List.getElem?_eq_getElem hi
          have hmem : i ∈ Region.ready .any l.toArray listed := by
            unfold Region.ready
            refine List.mem_filter.2 ⟨by simpa using hir, ?_⟩
            rw [Bool.and_eq_true]
            constructor
            · have hlt : i < listed.size := by rw [hsz]; simpa using hir
              have hd' : listed.getD i false = false := hd
              simpa [Array.getD_eq_getD_getElem?, Array.getElem?_eq_getElem hlt] using hd'
            · simp only [List.getElem?_toArray, ho, Option.map_some, Option.getD_some]
              rw [Array.all_eq_true']
              intro e he
              cases hb : Region.binds .any e with
              | false => rfl
              | true =>
                have hp : e.on ∈ fj_ (l[i]'hir) := List.mem_map.2 ⟨e, List.mem_filter.2 ⟨by simpa using he, hb⟩, rfl⟩
                have ha := T.preds ho hs hp
                have hlt := (T.anc ho hs ha).1
                have := ih e.on hlt (by omega)
                have this : listed.getD e.on false = true := this
                simpa [Array.getD_eq_getD_getElem?] using this
          rw [hnil] at hmem
          cases hmem
    have hlive : (dc_ tks (don listed)) = dc_ tks (fun _ => true) := by
      unfold dc_
      apply List.filter_congr
      intro t ht
      cases hk : tks[t]? with
      | none => rfl
      | some k =>
        simp only
        congr 1
        · cases hp : k.prod with
          | none => rfl
          | some p => obtain ⟨q, hq, _⟩ := T.tp hk hp; exact hall p (da_ hq)
        · cases hc : k.cons with
          | none => rfl
          | some c => obtain ⟨q, hq, _⟩ := T.tc hk hc; simp only [hall c (da_ hq)]
    rw [hlive] at hInv
    refine ⟨f', hfit, kont vals f' w S' hds hle (AllP.of fun j hj t ht => ?_) (fun d hd => hkeep d fun j t ht htd => absurd htd (hd j t ht)) hInv⟩
    have := hdone j t ht (hall j (by simpa using hj))
    exact ⟨this.2.1, this.2.2⟩
  · refine ⟨fun _ => undef, f, S, ha, rfl, PH.Le.refl S, ?_, fun _ _ => rfl, ?_⟩
    · intro i s hs hd
      exfalso
      have : don (Array.replicate l.toArray.size false) i = false := by
        show (Array.replicate l.toArray.size false).getD i false = false
        simp only [Array.getD_eq_getD_getElem?, Array.getElem?_replicate]
        split <;> rfl
      rw [this] at hd
      cases hd
    · have e : dc_ tks (don (Array.replicate l.toArray.size false)) = dc_ tks (fun _ => false) := by
        congr 1
        funext i
        show (Array.replicate l.toArray.size false).getD i false = false
        simp only [Array.getD_eq_getD_getElem?, Array.getElem?_replicate]
        split <;> rfl
      rw [e]
      exact hI.world rfl rfl fun _ _ h => h
end Go.Proofs.Ytogfongmnkmegaa.Pad
