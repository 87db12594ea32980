/- Calls: contracts, entering, leaving; what is lent to a call. -/
import Derived.Test.YtogfongmnkmegaaPadE
set_option linter.unusedVariables false
set_option linter.unusedSimpArgs false
namespace Go.Proofs.Ytogfongmnkmegaa.Pad
open Go
variable {ro : Option Nat}
def frV : List Value → Nat → Value
  | [], _ => undef
  | v :: _, 0 => v
  | _ :: l, i + 1 => frV l i
def fr0 (l : List Value) : Fr := ⟨frV l, []⟩
theorem no_ : ∀ (l : List Value) (i : Nat), (l.toArray).getD i undef = frV l i
  | [], i => by simp [frV, Array.getD_eq_getD_getElem?]
  | v :: l, 0 => by simp [frV, Array.getD_eq_getD_getElem?]
  | v :: l, i + 1 => by
    have := no_ l i
    simp only [Array.getD_eq_getD_getElem?, List.getElem?_toArray] at this ⊢
    simpa [frV] using this
def ky_ (S : PH) (Fr : List HP) (Ψ : PH → Value → List HP → Prop) : Ending → World → Prop
  | .returned v, w' => ∃ T O', S.Le T ∧ Inv w' T (O' ++ Fr) ∧ Ψ T v O'
  | _, _ => False
abbrev dd_ (S : PH) (Fr : List HP) (r : Value) : Ending → World → Prop := ky_ S Fr fun _ v O' => v = r ∧ O' = []
section
variable {P : Program} {n k : Nat}
def ku_ (P : Program) (fn : Func) (n : Nat) (f : Fr) (w : World) (v : Value) : Prop := ∀ a, Fits n a f → (results fn a.tmps).run P w = .ok v w
theorem cx_ {fn : Func} {t : Nat} {f : Fr} {w : World} {v : Value} (h : fn.results = #[.tmp t]) (hv : f t = v) : ku_ P fn n f w v := by
  intro a ha
  rw [results_tmp h, ha.at_ t, hv]
theorem res2 {fn : Func} {t u : Nat} {f : Fr} {w : World} {v1 v2 : Value} (h : fn.results = #[.tmp t, .tmp u]) (h1 : f t = v1) (h2 : f u = v2) : ku_ P fn n f w (.tuple #[v1, v2]) := by
  intro a ha
  rw [results_tmp2 h, ha.at_ t, ha.at_ u, h1, h2]
theorem res3 {fn : Func} {t u s : Nat} {f : Fr} {w : World} {v1 v2 v3 : Value} (h : fn.results = #[.tmp t, .tmp u, .tmp s]) (h1 : f t = v1) (h2 : f u = v2) (h3 : f s = v3) : ku_ P fn n f w (.tuple #[v1, v2, v3]) := by
  intro a ha
  simp [results, h]
  have e1 := ha.at_ t
  have e2 := ha.at_ u
  have e3 := ha.at_ s
  simp only [Array.getD_eq_getD_getElem?] at e1 e2 e3
  rw [e1, e2, e3, h1, h2, h3]
  exact ⟨rfl, rfl, rfl⟩
theorem res0 {fn : Func} {f : Fr} {w : World} (h : fn.results = #[]) : ku_ P fn n f w (.tuple #[]) := by
  intro a ha
  rw [results_none h]
def Ret (P : Program) (fn : Func) (n : Nat) (R : Ending → World → Prop) (f : Fr) (w : World) : Prop := f.ds = [] ∧ ∃ v, ku_ P fn n f w v ∧ R (.returned v) w
theorem bd_ {fn : Func} {c : Code} {vs : List Value} {w : World} {R : Ending → World → Prop} (hf : P.funcs[k]? = some fn) (hb : fn.body = some c) (hn : fn.ntmps = n) (hl : Nat.ble vs.length n = true)
    (h : WP P n none c (Ret P fn n R) (Ret P fn n R) (fun _ _ _ => False) (fr0 vs) w) : Calls P k vs.toArray w R := by
  refine kf_.1 (callsIn_of_wp (F := FW none) (n := 0) hf hb trivial ?_ rfl)
  have hsz : vs.toArray.size ≤ n := by simpa using Nat.le_of_ble_eq_true hl
  have hfit := Fits.enter (args := vs.toArray) hsz
  have e : (⟨fun i => vs.toArray.getD i undef, []⟩ : Fr) = fr0 vs := congrArg (fun g => (⟨g, []⟩ : Fr)) (funext fun i => no_ vs i)
  rw [e] at hfit
  rw [hn]
  refine Go.wpIn_mono (h _ hfit) fun ex a w' hq => ?_
  obtain ⟨f', hf', hq⟩ := hq
  cases ex with
  | normal => obtain ⟨hd, v, hv, hr⟩ := hq; exact ⟨hf'.defers.trans hd, v, hv a hf', hr⟩
  | ret => obtain ⟨hd, v, hv, hr⟩ := hq; exact ⟨hf'.defers.trans hd, v, hv a hf', hr⟩
  | exit i => exact hq.elim
  | goto l => exact hq.elim
  | panic ch => exact hq.elim
  | outgrown => exact hq.elim
def bj_ (P : Program) (k : FuncId) : Prop := ∃ fn, P.funcs[k]? = some fn ∧ fn.body.isNone = false ∧ (fn.name == "runtime.NumGoroutine") = false
variable {f : Fr} {w : World} {K : Fr → World → Prop} {d : Nat} {ty : TypeId} {pos : String} {af : Array Edge} {gd : Option (Nat × Bool)}
theorem kh_ {o : Oper} {vs : Array Value} {R : Ending → World → Prop} (hrun : ∀ a, Fits n a f → (execOp a.eval o).run P w = .ok (.enter k vs) w)
    (hc : Calls P k vs w R) (hR : ∀ e w', R e w' → ∃ v, e = .returned v ∧ ma_ n o.dst = true ∧ K (updO f o.dst v) w') : OP P n ro o f w K := by
  intro a ha Q
  refine ⟨fun _ _ => trivial, ?_⟩
  rw [gm_ (hrun a ha) (fun _ e => by cases e)]
  refine ⟨fun h => (by cases h), kf_.2 (hc.mono fun e w' h => ?_)⟩
  obtain ⟨v, rfl, hd, hk⟩ := hR e w' h
  exact ⟨_, ha.putO hd v, hk⟩
theorem mo_ {vs : Array Value} {args : Array Operand} {ct : Array TypeId} {g : Operand} {cap : Array Value} {dst : Option Nat} (hk : bj_ P k) (hg : ev f g = .func (.func k) #[] cap) (hargs : (args.map (ev f)) ++ cap = vs) :
    ∀ a, Fits n a f → (execOp a.eval ⟨dst, .call ⟨.value g, args, ct⟩, ty, pos, af, gd⟩).run P w = .ok (.enter k vs) w := by
  intro a ha
  obtain ⟨fn, h1, h2, h3⟩ := hk
  rw [ha.eval]
  subst hargs
  have h3' : fn.name ≠ "runtime.NumGoroutine" := by simpa using h3
  have h2' : fn.body ≠ none := by intro e; rw [e] at h2; cases h2
  simp [execOp, resolve, hg, Deferred.ofValue, invoke, callFunc, h1]
  rw [if_neg h3', if_neg h2']
theorem cu_ {vs : List Value} {args : Array Operand} {ct : Array TypeId} {g : Operand} {cap : Array Value} {S : PH} {Fr : List HP} {Ψ : PH → Value → List HP → Prop} (hd : Nat.blt d n = true) (hk : bj_ P k) (hg : ev f g = .func (.func k) #[] cap)
    (hargs : (args.map (ev f)) ++ cap = vs.toArray) (hc : Calls P k vs.toArray w (ky_ S Fr Ψ))
    (kont : ∀ v w' T O', S.Le T → Inv w' T (O' ++ Fr) → Ψ T v O' → K (upd f d v) w') : OP P n ro ⟨some d, .call ⟨.value g, args, ct⟩, ty, pos, af, gd⟩ f w K := by
  refine kh_ (mo_ hk hg hargs) hc fun e w' h => ?_
  cases e with
  | returned v => obtain ⟨T, O', h1, h2, h3⟩ := h; exact ⟨v, rfl, hd, kont v w' T O' h1 h2 h3⟩
  | panicked c => exact h.elim
  | outgrown => exact h.elim
theorem bl_ {vs : List Value} {args : Array Operand} {ct : Array TypeId} {g : Operand} {cap : Array Value} {S : PH} {O : List HP} {r : Value} (hd : Nat.blt d n = true) (hk : bj_ P k) (hg : ev f g = .func (.func k) #[] cap)
    (hargs : (args.map (ev f)) ++ cap = vs.toArray) (hI : Inv w S O) (hc : ∀ Fr, Inv w S Fr → Calls P k vs.toArray w (dd_ S Fr r))
    (kont : ∀ w', Inv w' S O → K (upd f d r) w') : OP P n ro ⟨some d, .call ⟨.value g, args, ct⟩, ty, pos, af, gd⟩ f w K := by
  obtain ⟨Fr, hFr, back⟩ := hI.exactly
  refine cu_ hd hk hg hargs (hc Fr hFr) fun v w' T O' hle hI' hv => ?_
  obtain ⟨rfl, rfl⟩ := hv
  exact kont w' (back hI' hle)
end
section
variable {w : World} {S : PH} {O : List HP}
def ga_ : List HP → Prop
  | [] => True
  | A :: l => A.Free ∧ ga_ l
theorem js_ {w' : World} {S U : PH} {Fr : List HP} {O : List HP} (h2 : ∀ w' S' V, Own w' S' V Fr → Own w' S V O) : ∀ {M : List HP} {V : Hp}, ga_ M → Own w' U V (M ++ Fr) → Own w' S V (M ++ O)
  | [], V, _, h => h2 _ _ _ h
  | B :: M, V, ⟨hB, hM⟩, ⟨k, hk, hd, hr⟩ => ⟨k, hB _ _ _ hk, hd, js_ h2 hM hr⟩
theorem Inv.lendN : ∀ (L : List HP) {O : List HP}, Inv w S (L ++ O) → ∃ T, ∃ hs : List Hp, ∃ Fr : List HP, S.Le T ∧ Inv w T Fr ∧ hs.length = L.length ∧
    (∀ (i : Nat) A h, L[i]? = some A → hs[i]? = some h → A.p S h ∧ h.Le T.m) ∧ ∀ {w' U} (M : List HP), ga_ M → Inv w' U (M ++ Fr) → T.Le U → Inv w' S (M ++ (L ++ O)) := by
  intro L O hI
  have gen : ∀ (L : List HP) (U : Hp), Own w S U (L ++ O) → ∃ hs : List Hp, ∃ V : Hp, hs.length = L.length ∧ U.Le V ∧ (∀ (i : Nat) A h, L[i]? = some A → hs[i]? = some h → A.p S h ∧ h.Le V) ∧ Own w S V O ∧
      ∀ w' (M : List HP), Own w' S V (M ++ O) → Own w' S U (M ++ (L ++ O)) := by
    intro L
    induction L with
    | nil => intro U h; exact ⟨[], U, rfl, Hp.Le.refl _, by simp, h, fun _ _ h => h⟩
    | cons A L ih =>
      rintro U ⟨k, hA, hd, hr⟩
      obtain ⟨hs, V, h1, h2, h3, h4, h5⟩ := ih _ hr
      refine ⟨k :: hs, V, by simp [h1], (Hp.le_un_right hd).trans h2, ?_, h4, fun w' M h' => Own.perm List.perm_middle.symm _ ⟨k, hA, hd, h5 w' M h'⟩⟩
      intro i B h hB hh
      cases i with
      | zero => simp at hB hh; subst hB; subst hh; exact ⟨hA, (Hp.le_un_left _ _).trans h2⟩
      | succ i => exact h3 i B h (by simpa using hB) (by simpa using hh)
  obtain ⟨hs, V, h1, h2, h3, h4, h5⟩ := gen L S.m hI.own
  obtain ⟨es, h6, h7⟩ := Own.exactly h4
  have hle : S.Le ⟨V, S.os, S.out⟩ := ⟨h2, rfl, rfl⟩
  refine ⟨⟨V, S.os, S.out⟩, hs, es.map HP.exact, hle, ⟨hI.os, hI.out, Own.upS hle h6⟩, h1, h3, fun {w' U} M hM h' htu => ?_⟩
  exact ⟨h'.os.trans htu.os, h'.out.trans htu.out, h5 w' M (js_ h7 hM (Own.antitone htu.m h'.own))⟩
variable {α β γ δ : Type} [Enc α] [Enc β] [Enc γ] [Enc δ] {T1 T2 T3 T4 : TypeId} {v1 v2 v3 v4 : Value} {l1 : List α} {l2 : List β} {l3 : List γ} {l4 : List δ}
theorem Inv.lend1 (h : Inv w S (Row T1 v1 l1 :: O)) : ∃ T, ∃ Fr : List HP, S.Le T ∧ Inv w T Fr ∧ RV T v1 l1 ∧ ∀ {w' U} (M : List HP), ga_ M → Inv w' U (M ++ Fr) → T.Le U → Inv w' S (M ++ (Row T1 v1 l1 :: O)) := by
  obtain ⟨T, hs, Fr, a, b, c, e, back⟩ := Inv.lendN [Row T1 v1 l1] h
  match hs, c with
  | [h1], _ =>
    obtain ⟨p1, q1⟩ := e 0 _ _ rfl rfl
    exact ⟨T, Fr, a, b, RowP.rv p1 a q1, back⟩
theorem Inv.lend2 (h : Inv w S (Row T1 v1 l1 :: Row T2 v2 l2 :: O)) : ∃ T, ∃ Fr : List HP, S.Le T ∧ Inv w T Fr ∧ RV T v1 l1 ∧ RV T v2 l2 ∧ ∀ {w' U} (M : List HP), ga_ M → Inv w' U (M ++ Fr) → T.Le U → Inv w' S (M ++ (Row T1 v1 l1 :: Row T2 v2 l2 :: O)) := by
  obtain ⟨T, hs, Fr, a, b, c, e, back⟩ := Inv.lendN [Row T1 v1 l1, Row T2 v2 l2] h
  match hs, c with
  | [h1, h2], _ =>
    obtain ⟨p1, q1⟩ := e 0 _ _ rfl rfl
    obtain ⟨p2, q2⟩ := e 1 _ _ rfl rfl
    exact ⟨T, Fr, a, b, RowP.rv p1 a q1, RowP.rv p2 a q2, back⟩
variable {ε ζ : Type} [Enc ε] [Enc ζ] {T5 T6 : TypeId} {v5 v6 : Value} {l5 : List ε} {l6 : List ζ}
end
def FnV {α : Type} [Enc α] (P : Program) (S : PH) (v : Value) (g : α → Option Bool) : Prop :=
  ∃ (k : FuncId) (cap : List Value), v = .func (.func k) #[] cap.toArray ∧ bj_ P k ∧ ∀ T w Fr u x r, S.Le T → Inv w T Fr → RV T u x → g x = some r → Calls P k (u :: cap).toArray w (dd_ T Fr (.bool r))
theorem FnV.mono {α : Type} [Enc α] {P : Program} {S T : PH} {v : Value} {g : α → Option Bool} (h : FnV P S v g) (hle : S.Le T) : FnV P T v g := by
  obtain ⟨k, cap, h1, h2, h3⟩ := h
  exact ⟨k, cap, h1, h2, fun U w Fr u x r hu => h3 U w Fr u x r (hle.trans hu)⟩
theorem fy_ {α : Type} [Enc α] {P : Program} {n d : Nat} {f : Fr} {w : World} {K : Fr → World → Prop} {ty : TypeId} {pos : String} {af : Array Edge} {gd : Option (Nat × Bool)} {x y : Operand} {ct : Array TypeId} {S : PH} {O : List HP} {v u : Value} {g : α → Option Bool} {e : α} {r : Bool}
    (hd : Nat.blt d n = true) (hx : ev f x = v) (hv : FnV P S v g) (hy : ev f y = u) (hu : RV S u e) (hr : g e = some r) (hI : Inv w S O) (kont : ∀ w', Inv w' S O → K (upd f d (.bool r)) w') :
    OP P n ro ⟨some d, .call ⟨.value x, #[y], ct⟩, ty, pos, af, gd⟩ f w K := by
  obtain ⟨k, cap, rfl, h2, h3⟩ := hv
  exact bl_ (vs := u :: cap) hd h2 hx (by simp [hy]) hI (fun Fr hFr => h3 S w Fr u e r (PH.Le.refl S) hFr hu hr) kont
theorem bnd {α β : Type} {x : Option α} {k : α → Option β} {r : β} (h : x.bind k = some r) : ∃ y, x = some y ∧ k y = some r := Option.bind_eq_some_iff.1 h
theorem ifs {α : Type} {c : Bool} {x y : Option α} {r : α} (h : (if c = true then x else y) = some r) : (c = true ∧ x = some r) ∨ (c = false ∧ y = some r) := by
  cases c
  · exact .inr ⟨rfl, h⟩
  · exact .inl ⟨rfl, h⟩
end Go.Proofs.Ytogfongmnkmegaa.Pad
