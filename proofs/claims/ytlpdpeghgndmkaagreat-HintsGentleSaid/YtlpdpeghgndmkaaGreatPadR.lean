/- Ranges over functions: a function value that is called, the loop's record, one round, the statement. -/
import Derived.Test.YtlpdpeghgndmkaaGreatPadO
set_option linter.unusedVariables false
set_option linter.unusedSimpArgs false
namespace Go.Proofs.YtlpdpeghgndmkaaGreat.Pad
open Go
variable {ro : Option Nat}
def HPof (Φ : PH → List HP → Prop) : HP where
  p S h := ∃ S0 L, S0.Le S ∧ Φ S0 L ∧ OwnH S L h
  mono hle h := by
    obtain ⟨S0, L, h1, h2, h3⟩ := h
    exact ⟨S0, L, h1.trans hle, h2, OwnH.mono hle h3⟩
section
variable {w : World} {S : PH} {O : List HP} {Φ : PH → List HP → Prop}
theorem Inv.ofOpen (h : Inv w S (HPof Φ :: O)) : ∃ S0 L, S0.Le S ∧ Φ S0 L ∧ Inv w S (L ++ O) := by
  obtain ⟨k, ⟨S0, L, h1, h2, h3⟩, hd, hr⟩ := h.own
  exact ⟨S0, L, h1, h2, Inv.allOpen ⟨h.os, h.out, k, h3, hd, hr⟩⟩
theorem Inv.ofShut {L : List HP} (hΦ : Φ S L) (h : Inv w S (L ++ O)) : Inv w S (HPof Φ :: O) :=
  (Inv.allShut h).headMap fun _ hk => ⟨S, L, PH.Le.refl S, hΦ, hk⟩
end
def CallV (P : Program) (v : Value) (args : List Value) (w : World) (R : Ending → World → Prop) : Prop :=
  (∃ k cap, v = .func (.func k) #[] cap ∧ ba_ P k ∧ Calls P k (args.toArray ++ cap) w R) ∨
  ∃ l fn tmps assign body, v = .func (.yield l) #[] #[] ∧ (Instr.yield l args.toArray).run P w = .ok (.round l fn tmps assign body) w ∧ RoundIn (FW none) 0 P l fn tmps assign body w R
theorem CallV.mono {P : Program} {v : Value} {args : List Value} {w : World} {R R' : Ending → World → Prop} (h : CallV P v args w R) (hr : ∀ e w', R e w' → R' e w') : CallV P v args w R' := by
  rcases h with ⟨k, cap, h1, h2, h3⟩ | ⟨l, fn, tmps, assign, body, h1, h2, h3⟩
  · exact .inl ⟨k, cap, h1, h2, h3.mono hr⟩
  · exact .inr ⟨l, fn, tmps, assign, body, h1, h2, h3.mono hr⟩
section
variable {P : Program} {n : Nat} {f : Fr} {w : World} {K : Fr → World → Prop} {d : Nat} {ty : TypeId} {pos : String} {af : Array Edge} {gd : Option (Nat × Bool)} {x : Operand} {v : Value} {S : PH}
theorem op_callV {vs : List Value} {args : Array Operand} {ct : Array TypeId} {Fr : List HP} {Ψ : PH → Value → List HP → Prop} (hd : Nat.blt d n = true) (hx : ev f x = v) (hargs : (args.map (ev f)) ++ #[] = vs.toArray)
    (hc : CallV P v vs w (mn_ S Fr Ψ)) (kont : ∀ r w' T O', S.Le T → Inv w' T (O' ++ Fr) → Ψ T r O' → K (upd f d r) w') : OP P n ro ⟨some d, .call ⟨.value x, args, ct⟩, ty, pos, af, gd⟩ f w K := by
  rw [Array.append_empty] at hargs
  rcases hc with ⟨k, cap, rfl, hk, hc⟩ | ⟨l, fn, tmps, assign, body, rfl, hy, hr⟩
  · refine upon_enter (run_call hk hx (by rw [hargs])) hc fun e w' h => ?_
    cases e with
    | returned r => obtain ⟨T, O', h1, h2, h3⟩ := h; exact ⟨r, rfl, hd, kont r w' T O' h1 h2 h3⟩
    | panicked c => exact h.elim
    | outgrown => exact h.elim
  · intro a ha Q
    refine ⟨fun _ _ => trivial, ?_⟩
    have hrun : (execOp a.eval ⟨some d, .call ⟨.value x, args, ct⟩, ty, pos, af, gd⟩).run P w = .ok (.round l fn tmps assign body) w := by
      rw [ha.eval]
      simp [execOp, resolve, hx, Deferred.ofValue, invoke, hargs, hy]
    rw [semAt_of hrun (fun _ e => by cases e)]
    refine ⟨fun h => (by cases h), RoundIn.mono (F := FW ro) hr fun e w' h => ?_⟩
    cases e with
    | returned r => obtain ⟨T, O', h1, h2, h3⟩ := h; exact ⟨_, ha.putO (d := some d) hd r, kont r w' T O' h1 h2 h3⟩
    | panicked c => exact h.elim
    | outgrown => exact h.elim
end
structure ArgM (α : Type) where
  rel : PH → List Value → α → Prop
  own : List Value → α → List HP
  mono : ∀ {S T : PH} {us : List Value} {x : α}, S.Le T → rel S us x → rel T us x
def argRow (α : Type) [Enc α] (T : TypeId) : ArgM (List α) := ⟨fun _ us _ => ∃ a n k, us = [Value.slice a n k], fun us x => [Row T (us.headD undef) x], fun _ h => h⟩
def argII : ArgM (Int × Int) := ⟨fun _ us x => us = [Value.int .i64 x.1, Value.int .i64 x.2], fun _ _ => [], fun _ h => h⟩
def ends {α σ τ : Type} (M : ArgM α) (us : List Value) (x : α) (R : σ → HP) (Rx : τ → HP) (o : σ ⊕ τ) (r : Value) (O' : List HP) : Prop :=
  r = .bool o.isLeft ∧ O' = M.own us x ++ [Sum.elim R Rx o]
def Yields {α σ τ : Type} (M : ArgM α) (P : Program) (S : PH) (v : Value) (R : σ → HP) (Rx : τ → HP) (g : α → σ → Option (σ ⊕ τ)) : Prop :=
  ∀ T w Fr us x s o, S.Le T → M.rel T us x → Inv w T (M.own us x ++ (R s :: Fr)) → g x s = some o → CallV P v us w (mn_ T Fr fun _ r O' => ends M us x R Rx o r O')
theorem Yields.mono {α σ τ : Type} {M : ArgM α} {P : Program} {S T : PH} {v : Value} {R : σ → HP} {Rx : τ → HP} {g : α → σ → Option (σ ⊕ τ)} (h : Yields M P S v R Rx g) (hle : S.Le T) : Yields M P T v R Rx g :=
  fun U w Fr us x s o hu => h U w Fr us x s o (hle.trans hu)
def ItV {α : Type} (M : ArgM α) (P : Program) (S : PH) (gv : Value) (F : ∀ {σ τ : Type}, (α → σ → Option (σ ⊕ τ)) → σ → Option (σ ⊕ τ)) : Prop :=
  ∃ (k : FuncId) (fst cap : List Value), gv = .func (.func k) fst.toArray cap.toArray ∧ ba_ P k ∧ ∀ {σ τ : Type} (R : σ → HP) (Rx : τ → HP) (g : α → σ → Option (σ ⊕ τ)) (T : PH) (w : World) (Fr : List HP) (v : Value) (s : σ) (o : σ ⊕ τ),
    S.Le T → v.oneCell' = true → Yields M P T v R Rx g → Inv w T (R s :: Fr) → F g s = some o → Calls P k (fst ++ v :: cap).toArray w (mn_ T Fr fun _ _ O' => O' = [Sum.elim R Rx o])
theorem ItV.mono {α : Type} {M : ArgM α} {P : Program} {S T : PH} {gv : Value} {F : ∀ {σ τ : Type}, (α → σ → Option (σ ⊕ τ)) → σ → Option (σ ⊕ τ)} (h : ItV M P S gv F) (hle : S.Le T) : ItV M P T gv F := by
  obtain ⟨k, fst, cap, h1, h2, h3⟩ := h
  exact ⟨k, fst, cap, h1, h2, fun R Rx g U w Fr v s o hu => h3 R Rx g U w Fr v s o (hle.trans hu)⟩
def fj_ (l : Nat) (r : Loop) : HP := HP.exact (Hp.one l (.loop r))
def Dfr (D : Nat) : HP := HP.exact (Hp.one D (.deferred (some [])))
section
variable {P : Program} {w : World} {S : PH} {O : List HP} {g : Nat} {o o' : Obj}
theorem Inv.obj (h : Inv w S (HP.exact (Hp.one g o) :: O)) : w.heap[g]? = some o := Inv.front h g o (by simp [Hp.one])
theorem Inv.objLt (h : Inv w S (HP.exact (Hp.one g o) :: O)) : g < w.heap.size := (Array.getElem?_eq_some_iff.1 h.obj).1
theorem Inv.setObj (h : Inv w S (HP.exact (Hp.one g o) :: O)) (o' : Obj) : Inv { w with heap := w.heap.setIfInBounds g o' } S (HP.exact (Hp.one g o') :: O) := by
  refine Inv.turn (w := w) h rfl rfl (fun b => ?_) (fun b hn => ?_) (fun b x e => ?_)
  · by_cases e : b = g <;> simp [Hp.one, e]
  · have hne : b ≠ g := by rintro rfl; simp [Hp.one] at hn
    exact Array.getElem?_setIfInBounds_ne (Ne.symm hne)
  · unfold Hp.one at e
    by_cases hbg : b = g
    · subst hbg
      simp at e
      subst e
      have := h.objLt
      simp [this]
    · simp [hbg] at e
theorem run_getL {l : Nat} {r : Loop} (h : w.heap[l]? = some (.loop r)) : (Instr.getLoop l).run P w = .ok r w := by
  simp [Instr.getLoop, Sem.run_bind, getObj, Sem.run, h, Result.andThen]
theorem run_putL {l : Nat} {r : Loop} (o : Obj) (h : w.heap[l]? = some (.loop r)) : (setObj l o).run P w = .ok () { w with heap := w.heap.setIfInBounds l o } := by
  simp [Go.setObj, Sem.run, h]
theorem run_begin {l : Nat} {r : Loop} (h : w.heap[l]? = some (.loop r)) (hr : r.state = .ready) : (Instr.beginRound l).run P w = .ok () { w with heap := w.heap.setIfInBounds l (.loop { r with state := .busy }) } := by
  simp [Instr.beginRound, Sem.run_bind, run_getL h, run_putL _ h, Result.andThen, hr]
theorem run_end {l : Nat} {r : Loop} (j : Option Code) (h : w.heap[l]? = some (.loop r)) :
    (Instr.endRound l j).run P w = .ok (.bool j.isNone) { w with heap := w.heap.setIfInBounds l (.loop { r with state := if j.isNone then .ready else .done, pending := j }) } := by
  simp [Instr.endRound, Sem.run_bind, run_getL h, run_putL _ h, Result.andThen]
theorem run_over {l : Nat} {r : Loop} (h : w.heap[l]? = some (.loop r)) (hb : r.state ≠ .busy) : (Instr.endLoop l).run P w = .ok r.pending { w with heap := w.heap.setIfInBounds l (.loop { r with state := .exhausted }) } := by
  simp [Instr.endLoop, Sem.run_bind, run_getL h, run_putL _ h, Result.andThen, hb]
theorem run_yieldAt {l : Nat} {r : Loop} {args : Array Value} (h : w.heap[l]? = some (.loop r)) (hs : args.size = r.params.size) :
    (Instr.yield l args).run P w = .ok (.round l r.fn ((r.params.zip args).foldl (fun ts (t, a) => ts.setIfInBounds t a) r.tmps) r.assign r.body) w := by
  simp [Instr.yield, Sem.run_bind, run_getL h, Result.andThen, hs]
end
def updL (f : Nat → Value) : List Nat → List Value → Nat → Value
  | p :: ps, u :: us => updL (upv f p u) ps us
  | _, _ => f
def roundFr (f : Fr) (ps : List Nat) (us : List Value) : Fr := ⟨updL f.g ps us, []⟩
theorem fits_round {n : Nat} {f : Fr} : ∀ (ps : List Nat) (us : List Value) (ts : Array Value) (g : Nat → Value), (ps.all fun p => Nat.blt p n) = true → ps.length = us.length → ts.size = n → (∀ i, ts.getD i undef = g i) →
    Fits n { tmps := (ps.zip us).foldl (fun ts (t, a) => ts.setIfInBounds t a) ts, defers := [] } ⟨updL g ps us, []⟩
  | [], [], ts, g, _, _, hsz, hg => ⟨hsz, rfl, hg⟩
  | p :: ps, u :: us, ts, g, hp, hl, hsz, hg => by
    simp only [List.all_cons, Bool.and_eq_true] at hp
    have hfit : Fits n { tmps := ts, defers := [] } ⟨g, []⟩ := ⟨hsz, rfl, hg⟩
    have h1 := hfit.put hp.1 u
    exact fits_round (f := f) ps us (ts.setIfInBounds p u) (upv g p u) hp.2 (by simpa using hl) h1.size h1.at_
  | [], _ :: _, _, _, _, hl, _, _ => by simp at hl
  | _ :: _, [], _, _, _, hl, _, _ => by simp at hl
section
variable {P : Program} {n : Nat} {N R : Fr → World → Prop} {X : Nat → Fr → World → Prop} {f : Fr} {w : World} {S : PH} {O : List HP} {α σ τ : Type} {M : ArgM α}
def rndEnd (P : Program) (l : Nat) (R : Ending → World → Prop) : Exit → Act → World → Prop
  | .normal, _, w => ∃ v w', (Instr.endRound l none).run P w = .ok v w' ∧ R (.returned v) w'
  | .ret, _, w => ∃ v w', (Instr.endRound l (some .ret)).run P w = .ok v w' ∧ R (.returned v) w'
  | .exit i, _, w => ∃ v w', (Instr.endRound l (some (.exit i))).run P w = .ok v w' ∧ R (.returned v) w'
  | _, _, _ => False
theorem round_of {l : Nat} {fn : FuncId} {tmps : Array Value} {assign body : Code} {R : Ending → World → Prop}
    (h : assign.wpIn (FW (some l)) 0 P (fun e a₁ w₁ => e = .normal ∧ ∃ w₂, (Instr.beginRound l).run P w₁ = .ok () w₂ ∧ body.wpIn (FW (some l)) 0 P (rndEnd P l R) a₁ w₂) { tmps := tmps, defers := [] } w) :
    RoundIn (FW none) 0 P l fn tmps assign body w R := by
  refine ⟨trivial, fun c cs _ => ?_⟩
  have hroom : ∀ k, (FW (some l)).room k := FW_room
  let b : Frame := { (default : Frame) with fn := fn, kind := .normal, roundOf := some l }
  have e0 : Frame.round l fn tmps assign body .normal = b.atR { tmps := tmps, defers := [] } [.code assign, .beginRound, .code body] := by simp [Frame.round, Frame.atR, b]
  obtain ⟨e, a₁, w₁, ⟨rfl, w₂, hb, hbody⟩, harr⟩ := h b [.beginRound, .code body] (c :: cs) rfl trivial (hroom _)
  have st : StepsIn (Machine.fenced P (FW none)) P (lone (Frame.round l fn tmps assign body .normal) (c :: cs) w) (lone (b.atR a₁ [.code body]) (c :: cs) w₂) := by
    rw [e0]
    exact StepsIn.trans harr (.one (fenced_calm (F := FW (some l)) (fr := b.atR a₁ [.beginRound, .code body]) (n := 0) trivial (hroom _) rfl) (stepR_beginRound rfl hb))
  obtain ⟨e₂, a₂, w₃, hq, harr₂⟩ := hbody b [] (c :: cs) rfl trivial (hroom _)
  cases e₂ with
  | normal =>
    obtain ⟨v, w₄, hend, hR⟩ := hq
    exact ⟨.returned v, w₄, hR, st.trans (StepsIn.trans harr₂ (.one (fenced_calm (F := FW (some l)) (fr := b.atR a₂ []) (n := 0) trivial (hroom _) rfl) (stepR_round_end rfl rfl hend)))⟩
  | ret =>
    obtain ⟨v, w₄, hend, hR⟩ := hq
    obtain ⟨k, hs⟩ := harr₂.2 rfl
    exact ⟨.returned v, w₄, hR, st.trans (StepsIn.trans hs (.one (fenced_calm (F := FW (some l)) (fr := b.atR a₂ (.code .ret :: k)) (n := 0) trivial (hroom _) rfl) (stepR_round_ret rfl rfl hend)))⟩
  | exit i =>
    obtain ⟨v, w₄, hend, hR⟩ := hq
    obtain ⟨k, hk, hs⟩ := harr₂.2 rfl rfl
    exact ⟨.returned v, w₄, hR, st.trans (StepsIn.trans hs (.one (fenced_calm (F := FW (some l)) (fr := b.atR a₂ (.code (.exit i) :: k)) (n := 0) trivial (hroom _) rfl) (stepR_round_exit rfl rfl hk hend)))⟩
  | goto t => exact hq.elim
  | panic ch => exact hq.elim
  | outgrown => exact hq.elim
def Round (P : Program) (n : Nat) (S : PH) (M : ArgM α) (A : σ → HP) (Ax : τ → HP) (jump : τ → Code) (g : α → σ → Option (σ ⊕ τ)) (assign body : Code) (ps : List Nat) (f : Fr) : Prop :=
  ∀ (l : Nat) (r : Loop) (T : PH) (w : World) (us : List Value) (x : α) (s : σ) (o : σ ⊕ τ) (G : List HP), S.Le T → M.rel T us x → us.length = ps.length → Inv w T (fj_ l r :: (M.own us x ++ (A s :: G))) → g x s = some o →
    WP P n (some l) assign (fun f₁ w₁ => ∃ T₁ L, T.Le T₁ ∧ Inv w₁ T₁ (fj_ l r :: L) ∧ ∀ w₂, Inv w₂ T₁ (fj_ l { r with state := .busy } :: L) →
        WP P n (some l) body (fun _ w₃ => ∃ U s', T.Le U ∧ o = .inl s' ∧ Inv w₃ U (fj_ l { r with state := .busy } :: (M.own us x ++ (A s' :: G))))
          (fun _ w₃ => ∃ U q, T.Le U ∧ o = .inr q ∧ jump q = .ret ∧ Inv w₃ U (fj_ l { r with state := .busy } :: (M.own us x ++ (Ax q :: G))))
          (fun i _ w₃ => ∃ U q, T.Le U ∧ o = .inr q ∧ jump q = .exit i ∧ Inv w₃ U (fj_ l { r with state := .busy } :: (M.own us x ++ (Ax q :: G)))) f₁ w₂)
      (fun _ _ => False) (fun _ _ _ => False) (roundFr f ps us) w
def kk_ (fn : FuncId) (tmps : Array Value) (ps : Array Tmp) (assign body : Code) (D : Nat) (st : LoopState) (j : Option Code) : Loop := { state := st, pending := j, fn, tmps, params := ps, assign, body, defers := D }
theorem yields_round {l D : Nat} {fn : FuncId} {a : Act} {ps : List Nat} {assign body : Code} {A : σ → HP} {Ax : τ → HP} {jump : τ → Code} {g : α → σ → Option (σ ⊕ τ)} (ha : Fits n a f) (hps : (ps.all fun p => Nat.blt p n) = true)
    (hM : ∀ T us x, M.rel T us x → us.length = ps.length) (hround : Round P n S M A Ax jump g assign body ps f) :
    Yields M P S (.func (.yield l) #[] #[]) (fun s => mg_ [fj_ l (kk_ fn a.tmps ps.toArray assign body D .ready none), A s]) (fun q => mg_ [fj_ l (kk_ fn a.tmps ps.toArray assign body D .done (some (jump q))), Ax q]) g := by
  intro T w Fr us x s o hT hrel hI hg
  have hlen := hM T us x hrel
  have hI1 : Inv w T (fj_ l (kk_ fn a.tmps ps.toArray assign body D .ready none) :: (M.own us x ++ (A s :: Fr))) := by
    have h1 : Inv w T (mg_ [fj_ l (kk_ fn a.tmps ps.toArray assign body D .ready none), A s] :: (M.own us x ++ Fr)) := hI.perm List.perm_middle
    have h2 : Inv w T (fj_ l (kk_ fn a.tmps ps.toArray assign body D .ready none) :: A s :: (M.own us x ++ Fr)) := h1.allOpen
    exact h2.perm (List.Perm.cons _ (List.perm_middle (l₁ := M.own us x)).symm)
  have hl := hI1.obj
  refine .inr ⟨l, fn, _, assign, body, rfl, run_yieldAt hl (by simp [kk_, hlen]), round_of ?_⟩
  have hfit := fits_round (f := f) ps us a.tmps f.g hps hlen.symm ha.size ha.at_
  have e1 : ((ps.toArray.zip us.toArray).foldl (fun ts (t, a) => ts.setIfInBounds t a) a.tmps) = (ps.zip us).foldl (fun ts (t, a) => ts.setIfInBounds t a) a.tmps := by
    rw [← Array.foldl_toList]; simp
  show assign.wpIn (FW (some l)) 0 P _ { tmps := ((ps.toArray.zip us.toArray).foldl (fun ts (t, a) => ts.setIfInBounds t a) a.tmps), defers := [] } w
  rw [e1]
  refine Go.wpIn_mono (hround l _ T w us x s o Fr hT hrel hlen hI1 hg _ hfit) fun e a₁ w₁ hq => ?_
  obtain ⟨f₁, hf₁, hq⟩ := hq
  cases e with
  | normal =>
    obtain ⟨T₁, L, hT1, hI2, hb⟩ := hq
    have hl2 := hI2.obj
    refine ⟨rfl, _, run_begin hl2 rfl, Go.wpIn_mono (hb _ (hI2.setObj _) _ hf₁) fun e a₂ w₃ hq => ?_⟩
    obtain ⟨f₂, hf₂, hq⟩ := hq
    cases e with
    | normal =>
      obtain ⟨U, s', hU, rfl, hI3⟩ := hq
      refine ⟨_, _, run_end none hI3.obj, U, M.own us x ++ [mg_ [fj_ l (kk_ fn a.tmps ps.toArray assign body D .ready none), A s']], hU, ?_, rfl, rfl⟩
      have h4 := hI3.setObj (.loop { (kk_ fn a.tmps ps.toArray assign body D .busy none) with state := .ready, pending := none })
      have h5 : Inv _ U ([fj_ l (kk_ fn a.tmps ps.toArray assign body D .ready none), A s'] ++ (M.own us x ++ Fr)) := h4.perm (List.Perm.cons _ List.perm_middle)
      have h6 := h5.allShut.perm (List.perm_middle (l₁ := M.own us x)).symm
      rw [List.append_assoc]
      exact h6
    | ret =>
      obtain ⟨U, q, hU, rfl, hj, hI3⟩ := hq
      refine ⟨_, _, run_end (some .ret) hI3.obj, U, M.own us x ++ [mg_ [fj_ l (kk_ fn a.tmps ps.toArray assign body D .done (some (jump q))), Ax q]], hU, ?_, rfl, rfl⟩
      rw [hj]
      have h4 := hI3.setObj (.loop { (kk_ fn a.tmps ps.toArray assign body D .busy none) with state := .done, pending := some .ret })
      have h5 : Inv _ U ([fj_ l (kk_ fn a.tmps ps.toArray assign body D .done (some .ret)), Ax q] ++ (M.own us x ++ Fr)) := h4.perm (List.Perm.cons _ List.perm_middle)
      have h6 := h5.allShut.perm (List.perm_middle (l₁ := M.own us x)).symm
      rw [List.append_assoc]
      exact h6
    | exit i =>
      obtain ⟨U, q, hU, rfl, hj, hI3⟩ := hq
      refine ⟨_, _, run_end (some (.exit i)) hI3.obj, U, M.own us x ++ [mg_ [fj_ l (kk_ fn a.tmps ps.toArray assign body D .done (some (jump q))), Ax q]], hU, ?_, rfl, rfl⟩
      rw [hj]
      have h4 := hI3.setObj (.loop { (kk_ fn a.tmps ps.toArray assign body D .busy none) with state := .done, pending := some (.exit i) })
      have h5 : Inv _ U ([fj_ l (kk_ fn a.tmps ps.toArray assign body D .done (some (.exit i))), Ax q] ++ (M.own us x ++ Fr)) := h4.perm (List.Perm.cons _ List.perm_middle)
      have h6 := h5.allShut.perm (List.perm_middle (l₁ := M.own us x)).symm
      rw [List.append_assoc]
      exact h6
    | goto t => exact hq.elim
    | panic ch => exact hq.elim
    | outgrown => exact hq.elim
  | ret => exact hq.elim
  | exit i => exact hq.elim
  | goto t => exact hq.elim
  | panic ch => exact hq.elim
  | outgrown => exact hq.elim
theorem run_newO {P : Program} (o : Obj) (w : World) : (newObj o).run P w = .ok w.heap.size (w.alloc o) := rfl
def mark (f : Fr) (D : Nat) : Fr := ⟨f.g, { target := .collected D, args := #[] } :: f.ds⟩
abbrev rcall (g : Operand) (l : Nat) : Call := { callee := .value g, args := #[.const (.func (.yield l) #[] #[])], argTypes := #[] }
theorem step_range {b : Frame} {a : Act} {k : List Item} {cs : List Frame} {g : Operand} {ps : Array Tmp} {assign body : Code} {l : Nat} {mk : List Deferred} {w₁ : World} {d : Deferred} {h : FuncId} {args : Array Value}
    (he : (Instr.enterLoop b.fn a.tmps ps assign body b.roundOf).run P w = .ok (l, mk) w₁) (hres : (resolve a.eval (rcall g l) 0).run P w₁ = .ok d w₁) (hinv : (invoke d.target d.args).run P w₁ = .ok (.enter h args) w₁) :
    step P (lone (b.atR a (.code (.rangeFunc g ps assign body) :: k)) cs w) = .next (lone (Frame.enter P h args .normal) (b.atR { a with defers := mk ++ a.defers } (.inRangeFunc l :: k) :: cs) w₁) := by
  refine step_lone_go ?_
  have hev : (Frame.eval { fn := b.fn, tmps := a.tmps, todo := .inRangeFunc l :: k, defers := mk ++ a.defers, mode := .run, kind := b.kind, roundOf := b.roundOf }) = a.eval := by funext x; cases x <;> rfl
  simp [stepG, stepG.exec, Frame.atR, Sem.runT_eq, he, GStep.bare_after, stepG.apply, hev, Sem.run_bind, hres, hinv, Result.andThen]
theorem step_over {b : Frame} {a : Act} {k : List Item} {cs : List Frame} {l : Nat} {j : Option Code} {w' : World} (h : (Instr.endLoop l).run P w = .ok j w') :
    step P (lone (b.atR a (.endRangeFunc l :: k)) cs w) = .next (lone (b.atR a ((j.map Item.code).toList ++ k)) cs w') :=
  step_lone_go (by simp [stepG, stepG.exec, Frame.atR, Sem.runT_eq, h, GStep.bare_after])
def Jumps (N R : Fr → World → Prop) (X : Nat → Fr → World → Prop) (f : Fr) (w : World) : Option Code → Prop
  | none => N f w
  | some .ret => R f w
  | some (.exit i) => X i f w
  | _ => False
theorem range_core {b : Frame} {a : Act} {k : List Item} {cs : List Frame} {g : Operand} {ps : List Nat} {assign body : Code} {kf : FuncId} {fst cap : List Value} {A : σ → HP} {Ax : τ → HP} {jump : τ → Code} {gb : α → σ → Option (σ ⊕ τ)}
    {l D : Nat} {mk : List Deferred} {w₁ : World} {G : List HP} {s0 : σ} {o : σ ⊕ τ} {f' : Fr} (ha : Fits n a f) (hg : ev f g = .func (.func kf) fst.toArray cap.toArray) (hk : ba_ P kf) (hb : b.roundOf = ro)
    (he : (Instr.enterLoop b.fn a.tmps ps.toArray assign body ro).run P w = .ok (l, mk) w₁)
    (hcall : ∀ v, v = .func (.yield l) #[] #[] → Calls P kf (fst ++ v :: cap).toArray w₁ (mn_ S G fun _ _ O' => O' = [Sum.elim (fun s => mg_ [fj_ l (kk_ b.fn a.tmps ps.toArray assign body D .ready none), A s]) (fun q => mg_ [fj_ l (kk_ b.fn a.tmps ps.toArray assign body D .done (some (jump q))), Ax q]) o]))
    (hf' : Fits n { a with defers := mk ++ a.defers } f')
    (kont : ∀ w' U, S.Le U → Inv w' U (Sum.elim A Ax o :: G) → Jumps N R X f' w' (Sum.elim (fun _ => none) (fun q => some (jump q)) o)) :
    ∃ e a' w', Ends n N R X e a' w' ∧ ArrivesIn (Machine.fenced P (FW ro)) P (lone (b.atR a (.code (.rangeFunc g ps.toArray assign body) :: k)) cs w) b k cs e a' w' := by
  obtain ⟨fn, h1, h2, h3⟩ := id hk
  have h3' : fn.name ≠ "runtime.NumGoroutine" := by simpa using h3
  have h2' : fn.body ≠ none := by intro e; rw [e] at h2; cases h2
  have hroom : ∀ k, (FW ro).room k := FW_room
  have hfen : ∀ m : Machine, m.fenced P (FW ro) := fun m => fenced_wide P m
  have hinv : (invoke (.fn (.func kf) cap.toArray) (fst.toArray ++ #[.func (.yield l) #[] #[]])).run P w₁ = .ok (.enter kf (fst ++ .func (.yield l) #[] #[] :: cap).toArray) w₁ := by
    simp [invoke, callFunc, h1]
    rw [if_neg h3', if_neg h2']
  have hres : (resolve a.eval (rcall g l) 0).run P w₁ = .ok { target := .fn (.func kf) cap.toArray, args := fst.toArray ++ #[.func (.yield l) #[] #[]] } w₁ := by
    rw [ha.eval]
    have e0 : ev f (.const (.func (.yield l) #[] #[])) = .func (.yield l) #[] #[] := rfl
    simp [resolve, rcall, hg, Deferred.ofValue, e0]
  have henter := step_range (P := P) (b := b) (a := a) (k := k) (cs := cs) (w := w) (g := g) (by rw [hb]; exact he) hres hinv
  obtain ⟨e, w₂, fr, hR, hsteps, _, hleave⟩ := hcall _ rfl (b.atR { a with defers := mk ++ a.defers } (.inRangeFunc l :: k) :: cs)
  cases e with
  | panicked c => exact hR.elim
  | outgrown => exact hR.elim
  | returned v =>
    obtain ⟨U, O', hU, hI, rfl⟩ := hR
    have hs0 : Steps P (lone (b.atR a (.code (.rangeFunc g ps.toArray assign body) :: k)) cs w) (lone (b.atR { a with defers := mk ++ a.defers } (.endRangeFunc l :: k)) cs w₂) := by
      refine Steps.trans (.one henter) (Steps.trans hsteps (.one ?_))
      have := step_leave_returned (P := P) (c := b.atR { a with defers := mk ++ a.defers } (.inRangeFunc l :: k)) (cs := cs) hleave
      rw [this]
      simp [Frame.finish, Frame.atR]
    have hsIn : StepsIn (Machine.fenced P (FW ro)) P (lone (b.atR a (.code (.rangeFunc g ps.toArray assign body) :: k)) cs w) (lone (b.atR { a with defers := mk ++ a.defers } (.endRangeFunc l :: k)) cs w₂) :=
      (stepsIn_wide (P := P)).2 hs0
    have fin : ∀ (j : Option Code) (st : LoopState) (C : HP), st ≠ .busy → Inv w₂ U (mg_ [fj_ l (kk_ b.fn a.tmps ps.toArray assign body D st j), C] :: G) → (∀ w', Inv w' U (C :: G) → Jumps N R X f' w' j) →
        ∃ e a' w', Ends n N R X e a' w' ∧ ArrivesIn (Machine.fenced P (FW ro)) P (lone (b.atR a (.code (.rangeFunc g ps.toArray assign body) :: k)) cs w) b k cs e a' w' := by
      intro j st C hst hI1 hj
      have hI2 : Inv w₂ U (fj_ l (kk_ b.fn a.tmps ps.toArray assign body D st j) :: C :: G) := hI1.allOpen
      have hov := run_over (P := P) hI2.obj hst
      have hI3 := (hI2.setObj (.loop { kk_ b.fn a.tmps ps.toArray assign body D st j with state := .exhausted })).drop
      have hJ := hj _ hI3
      have hst2 := hsIn.trans (.one (hfen _) (step_over (b := b) (a := { a with defers := mk ++ a.defers }) (k := k) (cs := cs) hov))
      cases j with
      | none => exact ⟨.normal, _, _, ⟨f', hf', hJ⟩, hst2⟩
      | some c =>
        cases c with
        | ret =>
          obtain ⟨e', a'', w₅, hq, harr⟩ := Go.wpIn_ret (F := FW ro) (n := 0) (P := P) (Q := Ends n N R X) (⟨f', hf', hJ⟩ : Ends n N R X .ret { a with defers := mk ++ a.defers } _) b k cs hb trivial (hroom _)
          exact ⟨e', a'', w₅, hq, .of_steps hst2 harr⟩
        | exit i =>
          obtain ⟨e', a'', w₅, hq, harr⟩ := Go.wpIn_exit (F := FW ro) (n := 0) (P := P) (Q := Ends n N R X) (⟨f', hf', hJ⟩ : Ends n N R X (.exit i) { a with defers := mk ++ a.defers } _) b k cs hb trivial (hroom _)
          exact ⟨e', a'', w₅, hq, .of_steps hst2 harr⟩
        | _ => exact hJ.elim
    cases o with
    | inl s' => exact fin none .ready (A s') (by simp) hI (fun w' h => kont w' U hU h)
    | inr q => exact fin (some (jump q)) .done (Ax q) (by simp) hI (fun w' h => kont w' U hU h)
theorem nj_ {g : Operand} {ps : List Nat} {assign body : Code} {gv : Value} {F : ∀ {σ τ : Type}, (α → σ → Option (σ ⊕ τ)) → σ → Option (σ ⊕ τ)} (A : σ → HP) (Ax : τ → HP) (jump : τ → Code) {gb : α → σ → Option (σ ⊕ τ)} {s0 : σ} {o : σ ⊕ τ}
    (hg : ev f g = gv) (hps : (ps.all fun p => Nat.blt p n) = true) (hM : ∀ T us x, M.rel T us x → us.length = ps.length) (hIt : ItV M P S gv @F) (hI : Inv w S (A s0 :: O)) (hrun : F gb s0 = some o)
    (hround : Round P n S M A Ax jump gb assign body ps f)
    (kont : ∀ D w' U, S.Le U → Inv w' U (Sum.elim A Ax o :: Dfr D :: O) → Jumps N R X (mark f D) w' (Sum.elim (fun _ => none) (fun q => some (jump q)) o)) : WP P n none (.rangeFunc g ps.toArray assign body) N R X f w := by
  obtain ⟨kf, fst, cap, rfl, hk, hcall⟩ := hIt
  intro a ha b k cs hb _ _
  have h1 := hI.new (.deferred (some []))
  have h2 := h1.new (.loop (kk_ b.fn a.tmps ps.toArray assign body w.heap.size .ready none))
  have hsz : (w.alloc (.deferred (some []))).heap.size = w.heap.size + 1 := by simp
  rw [hsz] at h2
  refine range_core (ro := none) (D := w.heap.size) (l := w.heap.size + 1) (mk := [{ target := .collected w.heap.size, args := #[] }]) (w₁ := (w.alloc (.deferred (some []))).alloc (.loop (kk_ b.fn a.tmps ps.toArray assign body w.heap.size .ready none))) (G := Dfr w.heap.size :: O) (f' := mark f w.heap.size) (gb := gb) (s0 := s0) ha hg hk hb ?_ ?_ ⟨ha.size, congrArg _ ha.defers, ha.at_⟩ (fun w' U hU h => kont _ w' U hU h)
  · unfold Instr.enterLoop
    simp only [Sem.run_bind, run_newO, Result.andThen, Sem.run_pure, World.size_alloc]
    rfl
  · rintro v rfl
    refine hcall _ _ gb S _ _ _ s0 o (PH.Le.refl S) rfl (yields_round ha hps hM hround) ?_ hrun
    refine Inv.allShut (h2.perm ?_)
    exact List.Perm.cons _ (List.Perm.swap _ _ _)
end
def nt_ (Ds : List Nat) : HP := mg_ (Ds.map Dfr)
section
variable {w : World} {S : PH} {O : List HP}
theorem Inv.noD (h : Inv w S O) : Inv w S (nt_ [] :: O) := Inv.allShut (L := []) h
theorem Inv.consD {D : Nat} {Ds : List Nat} (h : Inv w S (Dfr D :: nt_ Ds :: O)) : Inv w S (nt_ (D :: Ds) :: O) := by
  have h1 : Inv w S (nt_ Ds :: Dfr D :: O) := h.swap
  have h2 : Inv w S (Ds.map Dfr ++ (Dfr D :: O)) := h1.allOpen
  exact Inv.allShut (h2.perm List.perm_middle)
theorem ret_m {P : Program} {fn : Func} {n : Nat} {R : Ending → World → Prop} {f : Fr} : ∀ {Ds : List Nat} {w : World}, f.ds = mkDs Ds → Inv w S (nt_ Ds :: O) → (∀ w', Inv w' S O → ∃ v, ResOk P fn n f w' v ∧ R (.returned v) w') → RetM P fn n R f w := by
  intro Ds w hds hI k
  refine ⟨Ds, hds, ?_⟩
  clear hds
  induction Ds generalizing w with
  | nil => exact k w (Inv.allOpen (L := []) hI)
  | cons D Ds ih =>
    have h1 : Inv w S (Dfr D :: (Ds.map Dfr ++ O)) := hI.allOpen
    refine ⟨h1.obj, ih ?_⟩
    exact Inv.allShut (h1.setObj (.deferred none)).drop
end
section
variable {w : World} {S : PH} {O : List HP} {A B C : HP}
theorem Inv.rot2 (h : Inv w S (A :: B :: C :: O)) : Inv w S (B :: C :: A :: O) := h.perm ((List.Perm.swap _ _ _).trans (List.Perm.cons _ (List.Perm.swap _ _ _)))
theorem lp_ {τ σ : Type} {N R : Fr → World → Prop} {X : Nat → Fr → World → Prop} {f : Fr} {k : τ → Option Code} {s : σ} (h : N f w) : Jumps N R X f w (Sum.elim (fun _ => none) k (.inl s)) := h
theorem jumps_ret {τ σ : Type} {N R : Fr → World → Prop} {X : Nat → Fr → World → Prop} {f : Fr} {q : τ} (h : R f w) : Jumps N R X f w (Sum.elim (fun (_ : σ) => none) (fun (_ : τ) => some Code.ret) (.inr q)) := h
theorem os_ {f : Fr} {D : Nat} {Ds : List Nat} (h : f.ds = mkDs Ds) : (mark f D).ds = mkDs (D :: Ds) := congrArg _ h
end
def sm {σ τ ρ : Type} (o : σ ⊕ τ) (a : σ → Option ρ) (b : τ → Option ρ) : Option ρ := match o with
  | .inl s => a s
  | .inr q => b q
def onE {σ ρ : Type} (o : σ ⊕ Empty) (a : σ → Option ρ) : Option ρ := match o with
  | .inl s => a s
theorem ns_ {α : Type} [Enc α] {T0 : TypeId} {p : Nat} : ∀ (T : PH) us x, (argRow α T0).rel T us x → us.length = [p].length := by
  rintro T us x ⟨a, n, k, rfl⟩; rfl
theorem argII_len {p q : Nat} : ∀ (T : PH) us x, argII.rel T us x → us.length = [p, q].length := by
  intro T us x h; rw [show us = [_, _] from h]; rfl
theorem rv_raw {S : PH} {v : Value} {x : Raw} (h : RV S v x) : v = x.v := by
  obtain ⟨cs, ⟨rfl, _⟩, rfl⟩ := h; rfl
theorem om_ {S : PH} {v : Value} (h : v.oneCell' = true) : RV S v (⟨v⟩ : Raw) := ⟨[v], ⟨rfl, h⟩, rfl⟩
structure ORef (α : Type) where
  o : Option α
instance {α : Type} [Enc α] : Enc (ORef α) where
  agg := false
  sz := 1
  rep S cs x := match x.o with
    | none => cs = [.pointer none]
    | some y => ∃ a, cs = [.pointer (some a)] ∧ PtS S (.pointer (some a)) y
  len {S cs x} h := by
    cases hx : x.o with
    | none => rw [hx] at h; rw [h]; rfl
    | some y => rw [hx] at h; obtain ⟨a, e, _⟩ := h; rw [e]; rfl
  one _ := rfl
  cell1 {S cs x} h := by
    cases hx : x.o with
    | none => rw [hx] at h; intro v hv; rw [h] at hv; simp at hv; subst hv; rfl
    | some y => rw [hx] at h; obtain ⟨a, e, _⟩ := h; intro v hv; rw [e] at hv; simp at hv; subst hv; rfl
  mono {S T cs x} hle h := by
    cases hx : x.o with
    | none => rw [hx] at h; exact h
    | some y => rw [hx] at h; obtain ⟨a, e, p⟩ := h; exact ⟨a, e, p.mono hle⟩
theorem mq_ {α : Type} [Enc α] {S : PH} {v : Value} {x : ORef α} {y : α} (h : RV S v x) (hy : x.o = some y) : PtS S v y := by
  obtain ⟨cs, hr, rfl⟩ := h
  have hr' : (match x.o with | none => cs = [.pointer none] | some y => ∃ a, cs = [.pointer (some a)] ∧ PtS S (.pointer (some a)) y) := hr
  rw [hy] at hr'
  obtain ⟨a, rfl, p⟩ := hr'
  exact p
theorem rv_oref' {α : Type} [Enc α] {S : PH} {v : Value} {x : α} (h : PtS S v x) : RV S v (⟨some x⟩ : ORef α) := by
  obtain ⟨a, cs, rfl, h1, h2⟩ := h
  exact ⟨[.pointer (some a)], ⟨a, rfl, a, cs, rfl, h1, h2⟩, rfl⟩
theorem kz_ {α : Type} [Enc α] {S : PH} : RV S (.pointer none) (⟨none⟩ : ORef α) := ⟨[.pointer none], rfl, rfl⟩
def FnV2 (P : Program) (S : PH) (v : Value) (g : Int → Int → Option Bool) : Prop :=
  ∃ (k : FuncId) (cap : List Value), v = .func (.func k) #[] cap.toArray ∧ ba_ P k ∧ ∀ T w Fr a b r, S.Le T → Inv w T Fr → g a b = some r → Calls P k (.int .i64 a :: .int .i64 b :: cap).toArray w (cb_ T Fr (.bool r))
theorem FnV2.mono {P : Program} {S T : PH} {v : Value} {g : Int → Int → Option Bool} (h : FnV2 P S v g) (hle : S.Le T) : FnV2 P T v g := by
  obtain ⟨k, cap, h1, h2, h3⟩ := h
  exact ⟨k, cap, h1, h2, fun U w Fr a b r hu => h3 U w Fr a b r (hle.trans hu)⟩
theorem FnV2.one {P : Program} {S : PH} {v : Value} {g : Int → Int → Option Bool} (h : FnV2 P S v g) : v.oneCell' = true := by
  obtain ⟨k, cap, rfl, _⟩ := h; rfl
theorem FnV.one {α : Type} [Enc α] {P : Program} {S : PH} {v : Value} {g : α → Option Bool} (h : FnV P S v g) : v.oneCell' = true := by
  obtain ⟨k, cap, rfl, _⟩ := h; rfl
theorem op_call_fn2 {P : Program} {n d : Nat} {f : Fr} {w : World} {K : Fr → World → Prop} {ty : TypeId} {pos : String} {af : Array Edge} {gd : Option (Nat × Bool)} {x y z : Operand} {ct : Array TypeId} {S : PH} {O : List HP} {v : Value} {g : Int → Int → Option Bool} {a b : Int} {r : Bool}
    (hd : Nat.blt d n = true) (hx : ev f x = v) (hv : FnV2 P S v g) (hy : ev f y = .int .i64 a) (hz : ev f z = .int .i64 b) (hr : g a b = some r) (hI : Inv w S O) (kont : ∀ w', Inv w' S O → K (upd f d (.bool r)) w') :
    OP P n ro ⟨some d, .call ⟨.value x, #[y, z], ct⟩, ty, pos, af, gd⟩ f w K := by
  obtain ⟨k, cap, rfl, h2, h3⟩ := hv
  exact ap_ (vs := .int .i64 a :: .int .i64 b :: cap) hd h2 hx (by simp [hy, hz]) hI (fun Fr hFr => h3 S w Fr a b r (PH.Le.refl S) hFr hr) kont
def ArrB {α : Type} [Enc α] (T : TypeId) (g : Nat) (l : List α) : HP where
  p S h := ∃ ls : List Value, h = Hp.one g (.cells ls.toArray T (0, 0)) ∧ RepL S ls l
  mono hle h := by obtain ⟨ls, e, r⟩ := h; exact ⟨ls, e, r.mono hle⟩
section
variable {α : Type} [Enc α] {w : World} {S : PH} {O : List HP} {T : TypeId} {g : Nat} {l : List α}
theorem Inv.arrNew {cs : Array Value} {zc : List Value} {zd : α} {k : Nat} (h : Inv w S (aq_ g T cs :: O)) (hcs : cs = ((List.replicate k zc).flatten).toArray) (hz : ∀ S, Enc.rep S zc zd) : Inv w S (ArrB T g (List.replicate k zd) :: O) := by
  subst hcs
  exact h.headMap fun q hq => ⟨_, hq, RepL.replicate (hz S) k⟩
theorem Inv.arrElem (h : Inv w S (ArrB T g l :: O)) {i : Int} {x : α} (hx : at? l i = some x) : PtT w S (.pointer (some ⟨g, i.toNat * Enc.sz α, none⟩)) x := by
  obtain ⟨k, ⟨ls, rfl, hr⟩, hI⟩ := h.open_
  obtain ⟨h0, hlt, hx'⟩ := da_ hx
  obtain ⟨A, es, B, e, hA, hrep, _⟩ := hr.cut hx'
  have hb := hI.front g (.cells ls.toArray T (0, 0)) (by simp [Hp.one])
  refine ⟨_, es, rfl, hrep, fun j u hu => ?_⟩
  rw [gv_, cell_of_row w g _ _ T (0, 0) hb]
  simp only [List.getElem?_toArray]
  rw [e, ← hA, List.getElem?_append_right (by omega), Nat.add_sub_cancel_left, List.getElem?_append_left (List.getElem?_eq_some_iff.1 hu).1]
  exact hu
variable {P : Program} {n : Nat} {f : Fr} {K : Fr → World → Prop} {d : Nat} {ty : TypeId} {pos : String} {af : Array Edge} {gd : Option (Nat × Bool)} {x y : Operand} {u : Value} {E A : TypeId} {k : Nat}
theorem ik_ {i : Int} {e : α} (hd : Nat.blt d n = true) (hT : P.underlying A = some (.array k E)) (hE : Shape P E (Enc.agg α) (Enc.sz α)) (hk : l.length = k) (hx : ev f x = .pointer (some ⟨g, 0, none⟩)) (hi : ev f y = .int .i64 i) (he : at? l i = some e)
    (c : K (upd f d (.pointer (some ⟨g, i.toNat * Enc.sz α, none⟩))) w) : OP P n ro ⟨some d, .indexAddr A x y, ty, pos, af, gd⟩ f w K := by
  obtain ⟨h0, hlt, _⟩ := da_ he
  refine cy_ hd ?_ c
  have h1 : 0 ≤ i ∧ i < (k : Int) := ⟨h0, by omega⟩
  simp [execOp, hx, hi, Instr.indexAt, asIntOf, Instr.sureAddr, run_underlying hT, h1, hE.size w, gv_]
theorem op_storeArr {i : Int} {e e' : α} (hT : Shape P E (Enc.agg α) (Enc.sz α)) (hI : Inv w S (ArrB T g l :: O)) (hx : ev f x = .pointer (some ⟨g, i.toNat * Enc.sz α, none⟩)) (hy : ev f y = u) (he : at? l i = some e) (hu : RV S u e')
    (c : ∀ w', Inv w' S (ArrB T g (l.set i.toNat e') :: O) → K f w') : OP P n ro ⟨none, .store E x y, ty, pos, af, gd⟩ f w K := by
  obtain ⟨q, ⟨ls, rfl, hr⟩, hI'⟩ := hI.open_
  obtain ⟨h0, hlt, hx'⟩ := da_ he
  obtain ⟨A, es, B, rfl, hA, hrep, hset⟩ := hr.cut hx'
  have huc := hu.cells
  have hl := Enc.len huc
  obtain ⟨w', hst, hI''⟩ := fk_ (P := P) hI' (by rw [Enc.len hrep, hl]) (fun q hq => Enc.cell1 huc q hq)
  refine op_unit (w' := w') ?_ (c w' (hI''.shut (A := ArrB T g _) ⟨_, rfl, hset _ _ huc⟩))
  rw [hA] at hst
  have hs : u.cells.size = Enc.sz α := by rw [← Array.length_toList]; exact hl
  simp [execOp, hx, hy, Instr.storeAt, Instr.sureAddr, storeVar, hT.size w, hs, hst]
end
section
variable {α : Type} [Enc α] {w : World} {S : PH} {O : List HP} {To Ti : TypeId} {v : Value} {raws : List Raw} {ls : List (List α)}
def md_ (Ti : TypeId) (raws : List Raw) (ls : List (List α)) (i : Nat) : HP := mg_ ((bw_ Ti raws ls).eraseIdx i)
theorem lc_ : ∀ (raws : List Raw) (ls : List (List α)) (i : Nat) (r : Raw) (l : List α), raws[i]? = some r → ls[i]? = some l → (bw_ Ti raws ls).Perm (Row Ti r.v l :: (bw_ Ti raws ls).eraseIdx i)
  | [], _, _, _, _, h, _ => by simp at h
  | _ :: _, [], _, _, _, _, h => by simp at h
  | a :: raws, b :: ls, 0, r, l, h, k => by
    simp at h k
    subst h; subst k
    exact .refl _
  | a :: raws, b :: ls, i + 1, r, l, h, k => by
    have := lc_ raws ls i r l (by simpa using h) (by simpa using k)
    exact (List.Perm.cons _ this).trans (List.Perm.swap _ _ _)
theorem gridRows_setE : ∀ (raws : List Raw) (ls : List (List α)) (i : Nat) (r : Raw) (l : List α), (bw_ Ti (raws.set i r) (ls.set i l)).eraseIdx i = (bw_ Ti raws ls).eraseIdx i
  | [], _, _, _, _ => by simp [bw_]
  | _ :: _, [], _, _, _ => by simp [bw_]
  | a :: raws, b :: ls, 0, r, l => rfl
  | a :: raws, b :: ls, i + 1, r, l => by
    have := gridRows_setE raws ls i r l
    simp only [bw_] at this
    simp [bw_, this]
theorem Inv.gridTake {i : Int} {r : Raw} {l : List α} (h : Inv w S (gz_ To Ti v raws ls :: O)) (hr : at? raws i = some r) (hl : at? ls i = some l) : Inv w S (Row Ti r.v l :: Row To v raws :: md_ Ti raws ls i.toNat :: O) := by
  have h1 : Inv w S (Row To v raws :: (bw_ Ti raws ls ++ O)) := h.allOpen
  have hp := lc_ (Ti := Ti) raws ls i.toNat r l (da_ hr).2.2 (da_ hl).2.2
  have h2 : Inv w S ((bw_ Ti raws ls).eraseIdx i.toNat ++ (Row Ti r.v l :: Row To v raws :: O)) := by
    refine h1.perm ?_
    refine (List.Perm.cons _ (hp.append_right O)).trans ?_
    refine (List.Perm.swap _ _ _).trans ?_
    refine List.Perm.trans ?_ List.perm_middle.symm
    refine List.Perm.cons _ ?_
    exact List.perm_middle.symm
  have h3 : Inv w S (md_ Ti raws ls i.toNat :: Row Ti r.v l :: Row To v raws :: O) := Inv.allShut h2
  exact h3.rot2
theorem Inv.gridGive {i : Int} {r r' : Raw} {l l' : List α} (hr : at? raws i = some r) (hl : at? ls i = some l) (h : Inv w S (Row Ti r'.v l' :: Row To v (raws.set i.toNat r') :: md_ Ti raws ls i.toNat :: O)) : Inv w S (gz_ To Ti v (raws.set i.toNat r') (ls.set i.toNat l') :: O) := by
  obtain ⟨_, h1, h1'⟩ := da_ hr
  obtain ⟨_, h2, h2'⟩ := da_ hl
  have hp := lc_ (Ti := Ti) (raws.set i.toNat r') (ls.set i.toNat l') i.toNat r' l' (by simp [h1]) (by simp [h2])
  rw [gridRows_setE] at hp
  have h3 : Inv w S (md_ Ti raws ls i.toNat :: Row Ti r'.v l' :: Row To v (raws.set i.toNat r') :: O) := h.rot2.rot2
  have h4 : Inv w S ((bw_ Ti raws ls).eraseIdx i.toNat ++ (Row Ti r'.v l' :: Row To v (raws.set i.toNat r') :: O)) := h3.allOpen
  refine Inv.allShut (h4.perm ?_)
  refine List.perm_middle.trans ?_
  refine (List.Perm.cons _ List.perm_middle).trans ?_
  refine (List.Perm.swap _ _ _).trans (List.Perm.cons _ ?_)
  exact (hp.symm.append_right O)
theorem Inv.gridAdd {r : Raw} {l : List α} (hlen : raws.length = ls.length) (h : Inv w S (Row To v (raws ++ [r]) :: Row Ti r.v l :: mg_ (bw_ Ti raws ls) :: O)) : Inv w S (gz_ To Ti v (raws ++ [r]) (ls ++ [l]) :: O) := by
  have e : bw_ Ti (raws ++ [r]) (ls ++ [l]) = bw_ Ti raws ls ++ [Row Ti r.v l] := by
    unfold bw_; rw [List.zipWith_append hlen]; rfl
  have h1 : Inv w S (mg_ (bw_ Ti raws ls) :: Row To v (raws ++ [r]) :: Row Ti r.v l :: O) := (h.rot2).rot2
  have h2 : Inv w S (bw_ Ti raws ls ++ (Row To v (raws ++ [r]) :: Row Ti r.v l :: O)) := h1.allOpen
  refine Inv.allShut (h2.perm ?_)
  rw [e]
  refine List.perm_middle.trans (List.Perm.cons _ ?_)
  show (bw_ Ti raws ls ++ Row Ti r.v l :: O).Perm ((bw_ Ti raws ls ++ [Row Ti r.v l]) ++ O)
  rw [List.append_assoc]
  exact .refl _
theorem Inv.gridParts (h : Inv w S (gz_ To Ti v raws ls :: O)) : Inv w S (Row To v raws :: mg_ (bw_ Ti raws ls) :: O) := by
  have h1 : Inv w S (Row To v raws :: (bw_ Ti raws ls ++ O)) := h.allOpen
  have h2 : Inv w S (bw_ Ti raws ls ++ (Row To v raws :: O)) := h1.perm List.perm_middle.symm
  exact (Inv.allShut h2).swap
end
section
variable {α : Type} {raws : List Raw} {ls : List (List α)}
theorem np_ {i : Int} {l : List α} (hlen : raws.length = ls.length) (h : at? ls i = some l) : ∃ r, at? raws i = some r := by
  obtain ⟨h0, h1, _⟩ := da_ h
  refine ⟨raws[i.toNat]'(by omega), ?_⟩
  unfold at?; rw [if_pos h0, List.getElem?_eq_getElem]
theorem mk?_raw {c : Int} {l : List (List α)} (h : mk? c ([] : List α) = some l) : mk? c (⟨.slice none 0 0⟩ : Raw) = some (List.replicate c.toNat ⟨.slice none 0 0⟩) ∧ l = List.replicate c.toNat [] := by
  obtain ⟨h1, h2, h3⟩ := mk?_some h
  exact ⟨by unfold mk?; rw [if_pos ⟨h1, h2⟩], h3⟩
theorem push?_raw {l m r : List (List α)} {xs ys : List Raw} (h : push? l m = some r) (hx : xs.length = l.length) (hy : ys.length = m.length) : push? xs ys = some (xs ++ ys) := by
  obtain ⟨h1, _⟩ := nl_ h
  unfold push?; rw [if_pos (by omega)]
end
section
variable {P : Program} {fn : Func} {n t t2 g : Nat} {T B : TypeId} {f : Fr} {w : World} {S : PH} {O : List HP} {c v2 : Value}
theorem resC1 (h : fn.results = #[.cell t T]) (hf : f t = .pointer (some ⟨g, 0, none⟩)) (hT : Shape P T false 1) (hI : Inv w S (aq_ g B #[c] :: O)) : ResOk P fn n f w c := by
  intro a ha
  have hc := hI.cell 0
  have e := ha.at_ t
  rw [hf] at e
  simp only [Array.getD_eq_getD_getElem?] at e
  simp at hc
  simp [results, h, e, asAddr, loadVar, hT.agg w, load, hc, Sem.run]
theorem res2c1 (h : fn.results = #[.cell t T, .tmp t2]) (hf : f t = .pointer (some ⟨g, 0, none⟩)) (hT : Shape P T false 1) (hI : Inv w S (aq_ g B #[c] :: O)) (h2 : f t2 = v2) : ResOk P fn n f w (.tuple #[c, v2]) := by
  intro a ha
  have hc := hI.cell 0
  have e := ha.at_ t
  have e2 := ha.at_ t2
  rw [hf] at e
  rw [h2] at e2
  simp only [Array.getD_eq_getD_getElem?] at e e2
  simp at hc
  simp [results, h, e, e2, asAddr, loadVar, hT.agg w, load, hc, Sem.run]
end
theorem nr_ {f : Fr} {args : Array Operand} {vs : List Value} {cap : Array Value} (h : args.map (ev f) ++ #[] = vs.toArray) : args.map (ev f) ++ cap = (vs ++ cap.toList).toArray := by
  rw [Array.append_empty] at h
  rw [h]
  simp
theorem sm_inl {σ τ ρ : Type} {s : σ} {a : σ → Option ρ} {b : τ → Option ρ} {r : ρ} (h : sm (.inl s) a b = some r) : a s = some r := h
theorem sm_inr {σ τ ρ : Type} {q : τ} {a : σ → Option ρ} {b : τ → Option ρ} {r : ρ} (h : sm (.inr q) a b = some r) : b q = some r := h
theorem onE_inl {σ ρ : Type} {s : σ} {a : σ → Option ρ} {r : ρ} (h : onE (.inl s) a = some r) : a s = some r := h
theorem grid_set {α : Type} {raws : List Raw} {ls : List (List α)} {i j : Nat} {r : Raw} {l : List α} (h : raws.length = ls.length) : (raws.set i r).length = (ls.set j l).length := by simp [h]
theorem grid_new {α : Type} {c : Nat} {l : List (List α)} (h : l = List.replicate c []) : (List.replicate c (⟨.slice none 0 0⟩ : Raw)).length = l.length := by simp [h]
section
variable {α : Type} [Enc α] {P : Program} {n : Nat} {f : Fr} {w : World} {K : Fr → World → Prop} {d : Nat} {ty : TypeId} {pos : String} {af : Array Edge} {gd : Option (Nat × Bool)} {x : Operand} {T Tr : TypeId} {S : PH} {O : List HP} {To Ti : TypeId} {v : Value} {raws : List Raw} {ls : List (List α)}
theorem Inv.gridNil (h : Inv w S O) : Inv w S (gz_ (α := α) To Ti (.slice none 0 0) [] [] :: O) :=
  Inv.allShut (L := [Row To (.slice none 0 0) ([] : List Raw)]) h.rowNil
end
theorem arr_len {a b : Nat} (h : a = b) : a = b := h
theorem set_len {α : Type} {l : List α} {k i : Nat} {x : α} (h : l.length = k) : (l.set i x).length = k := by simp [h]
theorem grid_set1 {α : Type} {raws : List Raw} {ls : List (List α)} {j : Nat} {l : List α} (h : raws.length = ls.length) : raws.length = (ls.set j l).length := by simp [h]
theorem grid_add1 {α : Type} {raws : List Raw} {ls ls' : List (List α)} {r : Raw} {l : List α} (h : raws.length = ls.length) (e : ls' = ls ++ [l]) : (raws ++ [r]).length = ls'.length := by subst e; simp [h]
def jn2 {α β ρ : Type} (p : α × β) (f : α → β → Option ρ) : Option ρ := f p.1 p.2
theorem jn2s {α β ρ : Type} {a : α} {b : β} {f : α → β → Option ρ} {r : ρ} (h : jn2 (a, b) f = some r) : f a b = some r := h
theorem arr5 {f : Fr} {x y z a b : Operand} {v u t s r : Value} (h : ev f x = v) (h2 : ev f y = u) (h3 : ev f z = t) (h4 : ev f a = s) (h5 : ev f b = r) : (#[x, y, z, a, b].map (ev f)) = #[v, u, t, s, r] := by simp [h, h2, h3, h4, h5]
abbrev pt_ (g : Nat) : Value := .pointer (some ⟨g, 0, none⟩)
abbrev vi (n : Int) : Value := .int .i64 n
abbrev vb (b : Bool) : Value := .bool b
abbrev lrg (n : Nat) : List Nat := List.range n
theorem lr {S : PH} : S.Le S := PH.Le.refl S
abbrev spV (d : Nat) (l : List Nat) (k : Nat) (v : Value) : Sp := ⟨some d, l, [k], fun vs_ _ => fr0 vs_ 0 = v, [], [], [], fun _ h_ => h_⟩
abbrev spR {α : Type} [Enc α] (d : Nat) (l : List Nat) (k : Nat) (v : α) : Sp := ⟨some d, l, [k], fun vs_ T_ => RV T_ (fr0 vs_ 0) v, [], [], [], fun hle_ h_ => h_.mono hle_⟩
abbrev spW (d : Nat) (l ks : List Nat) (v : List Value → Value) : Sp := ⟨some d, l, ks, fun vs_ _ => fr0 vs_ 0 = v vs_, [], [], [], fun _ h_ => h_⟩
theorem fn {A : Value → Prop} {B C : Value → PH → Prop} {S : PH} {v : Value} (a : A v) (b : B v S) (c : C v S) : ∃ v S', A v ∧ S.Le S' ∧ B v S' ∧ C v S' := ⟨v, S, a, lr, b, c⟩
theorem nb {a b : Nat} (h : Nat.ble a b = true := by rfl) : a ≤ b := Nat.le_of_ble_eq_true h
theorem sj {α : Type} {a b : α} (h : some a = some b) : a = b := Option.some.inj h
theorem AllP.u {l : List Nat} {sps : List Sp} {f : Fr} {vals : Nat → Value} {S' : PH} (h : AllP l (fun j => ∀ t, sps[j]? = some t → (∀ d, t.dst = some d → f d = vals j) ∧ t.fact (t.deps.map vals) S')) (i : Nat) {a d : Nat} {t : Sp} {x : Value}
    (e : l[i]? = some a) (e2 : sps[a]? = some t) (e3 : (t.dst, t.fact (t.deps.map vals) S') = (some d, vals a = x)) : f d = x := by
  obtain ⟨h1, h2⟩ := h.at_ i e t e2
  rw [(Prod.mk.inj e3).2] at h2
  exact (h1 d (Prod.mk.inj e3).1).trans h2
theorem AllP.sl {α : Type} [Enc α] {l : List Nat} {sps : List Sp} {f : Fr} {vals : Nat → Value} {S' : PH} (h : AllP l (fun j => ∀ t, sps[j]? = some t → (∀ d, t.dst = some d → f d = vals j) ∧ t.fact (t.deps.map vals) S')) (i : Nat) {a d : Nat} {t : Sp} {x : List α}
    (e : l[i]? = some a) (e2 : sps[a]? = some t) (e3 : (t.dst, t.fact (t.deps.map vals) S') = (some d, RV S' (vals a) x)) : ∃ z m k, vals a = .slice z m k ∧ f d = .slice z m k ∧ RV S' (.slice z m k) x := by
  obtain ⟨h1, h2⟩ := h.at_ i e t e2
  rw [(Prod.mk.inj e3).2] at h2
  have h3 := h1 d (Prod.mk.inj e3).1
  obtain ⟨z, m, k, h4⟩ := ae_ h2
  rw [h4] at h2 h3
  exact ⟨z, m, k, h4, h3, h2⟩
theorem AllP.rf {l : List Nat} {sps : List Sp} {f : Fr} {vals : Nat → Value} {S' : PH} (h : AllP l (fun j => ∀ t, sps[j]? = some t → (∀ d, t.dst = some d → f d = vals j) ∧ t.fact (t.deps.map vals) S')) (i : Nat) {a d : Nat} {t : Sp}
    (e : l[i]? = some a) (e2 : sps[a]? = some t) (e3 : (t.dst, t.fact (t.deps.map vals) S') = (some d, ∃ z m k, vals a = .slice z m k)) : ∃ z m k, vals a = .slice z m k ∧ f d = .slice z m k := by
  obtain ⟨h1, h2⟩ := h.at_ i e t e2
  rw [(Prod.mk.inj e3).2] at h2
  have h3 := h1 d (Prod.mk.inj e3).1
  obtain ⟨z, m, k, h4⟩ := h2
  exact ⟨z, m, k, h4, h3.trans h4⟩
section
variable {P : Program} {n : Nat} {ro : Option Nat} {ops : Array Oper} {N : Fr → World → Prop} {rest : List Oper} {f : Fr} {w : World} {K : Fr → World → Prop} {ty : TypeId} {pos : String} {af : Array Edge}
theorem wo_ {dd : Option Nat} {op : Op} (h : OP P n ro ⟨dd, op, ty, pos, af, none⟩ f w (WL P n ro ops N rest)) : WL P n ro ops N (⟨dd, op, ty, pos, af, none⟩ :: rest) f w := wl_op rfl h
theorem wm_ {d : Nat} {x : Operand} {v : Value} (hd : Nat.blt d n = true) (hv : ev f x = v) (k : WL P n ro ops N rest (upd f d v) w) : WL P n ro ops N (⟨some d, .move x, ty, pos, af, none⟩ :: rest) f w := wl_op rfl (ax_ hd hv k)
theorem wa_ {d : Nat} {x : Operand} {v : Value} (hd : Nat.blt d n = true) (hv : ev f x = v) (k : WL P n ro ops N rest (upd f d v) w) : WL P n ro ops N (⟨some d, .assign x, ty, pos, af, none⟩ :: rest) f w := wl_op rfl (br_ hd hv k)
theorem ws_ {o : Oper} {j d : Nat} {b c : Bool} (hg : (o.guard, (ops[j]?).bind (·.dst), Nat.blt d n, dstOk n o.dst) = (some (j, b), some d, true, true)) (hv : f d = .bool c) (hc : c = !b) (h : WL P n ro ops N rest (updO f o.dst undef) w) : WL P n ro ops N (o :: rest) f w := by
  simp only [Prod.mk.injEq] at hg
  exact wl_skip hg.1 hg.2.1 hg.2.2.1 hv hc hg.2.2.2 h
theorem wk_ {o : Oper} {j d : Nat} {b c : Bool} (hg : (o.guard, (ops[j]?).bind (·.dst), Nat.blt d n) = (some (j, b), some d, true)) (hv : f d = .bool c) (hc : c = b) (h : OP P n ro o f w (WL P n ro ops N rest)) : WL P n ro ops N (o :: rest) f w := by
  simp only [Prod.mk.injEq] at hg
  exact wl_taken hg.1 hg.2.1 hg.2.2 hv hc h
theorem pl_ {i : Nat} {o : Oper} (ho : (ops[i]?, o.guard) = (some o, none)) (h : OP P n ro o f w K) : OPg P n ro ops i f w K := by
  simp only [Prod.mk.injEq] at ho
  exact opg_plain ho.1 ho.2 h
theorem tk_ {i : Nat} {o : Oper} {j d : Nat} {b c : Bool} (ho : (ops[i]?, o.guard, (ops[j]?).bind (·.dst), Nat.blt d n) = (some o, some (j, b), some d, true)) (hv : f d = .bool c) (hc : c = b) (h : OP P n ro o f w K) : OPg P n ro ops i f w K := by
  simp only [Prod.mk.injEq] at ho
  exact opg_taken ho.1 ho.2.1 ho.2.2.1 ho.2.2.2 hv hc h
theorem sk_ {i : Nat} {o : Oper} {j d : Nat} {b c : Bool} (ho : (ops[i]?, o.guard, (ops[j]?).bind (·.dst), Nat.blt d n, dstOk n o.dst) = (some o, some (j, b), some d, true, true)) (hv : f d = .bool c) (hc : c = !b) (h : K (updO f o.dst undef) w) : OPg P n ro ops i f w K := by
  simp only [Prod.mk.injEq] at ho
  exact opg_skip ho.1 ho.2.1 ho.2.2.1 ho.2.2.2.1 hv hc ho.2.2.2.2 h
end
end Go.Proofs.YtlpdpeghgndmkaaGreat.Pad
