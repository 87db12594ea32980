/- A part of the proof: what the functions of the program compute, shown over the model. -/
import Derived.Test.YtfcgcpjnpdkjmaaGreatDoorPart5
set_option linter.unusedSectionVars false
set_option linter.unusedSimpArgs false
set_option linter.unusedVariables false
section
set_option maxRecDepth 10000
namespace Go.Proofs.YtfcgcpjnpdkjmaaGreatDoor.Rx
open Go Go.Proofs.YtfcgcpjnpdkjmaaGreatDoor.Pad Go.Proofs.YtfcgcpjnpdkjmaaGreatDoor.Rex
theorem whileO_step {σ ρ:Type} {body:σ→Option (σ⊕ρ)} {s t:σ} {r:ρ} (h:body s=some (.inl t)) (e:af_ body t=some r):af_ body s=some r:=by
  obtain ⟨k,hk⟩:=jr_.1 e
  exact qk_ (k:=k+1) (by rw [iter_go h]; exact hk)
theorem zs_ {σ ρ:Type} {body:σ→Option (σ⊕ρ)} {s:σ} {r:ρ} (h:body s=some (.inr r)):af_ body s=some r:=qk_ (k:=1) (wq_ h)
theorem bind_fold {α τ σ ρ υ:Type} (l:List α) (f:Nat→τ→α→τ) (F:Nat→τ→σ) (R:τ→ρ) (t0:τ) {body:σ→Option (σ⊕ρ)} (I:Nat→τ→Prop) {K:ρ→Option υ} {x:Option υ} (h0:I 0 t0)
    (h:∀ i x t,l[i]?=some x→I i t→body (F i t)=some (.inl (F (i+1) (f i t x)))∧I (i+1) (f i t x)) (e:∀ t,I l.length t→body (F l.length t)=some (.inr (R t))) (hk:∀ t,I l.length t→K (R t)=x) :
    (af_ body (F 0 t0)).bind K=x:=by
  obtain ⟨t,h1,h2⟩:=ye_ l f F R t0 I h0 h e
  rw [h2,Option.bind_some]
  exact hk t h1
theorem asc_in {np:Nat} {l:List Int} (h:mm_ np l=true):∀ x ∈ l,0≤x∧x<(np:Int):=by
  intro x hx
  obtain ⟨i,hi⟩:=List.getElem?_of_mem hx
  rw [← asc_eq] at h
  have:=(scan_iff l).1 h i x hi
  unfold badQ at this
  rw [Bool.or_eq_false_iff] at this
  have h1:wi x 0 ((np:Int) - 1)=true:=by simpa using this.1
  have:=wi_iff.1 h1
  omega
structure ActIn (r:ae_) (a:dr_):Prop where
  us:∀ p ∈ a.2.2.2.1,0≤p∧p<(r.2.2.1.length:Int)
  sp:∀ p ∈ a.2.2.2.2.2.2.1,0≤p∧p<(r.2.2.1.length:Int)
  br:∀ p ∈ a.2.2.2.2.2.2.2,0≤p∧p<(r.2.2.1.length:Int)
  st:∀ x ∈ a.2.2.2.2.2.1,ph_ r.2.1 x.1 x.2=true
theorem act_in {r:ae_} {i:Nat} {a:dr_} (h:wc_ r i a=true):ActIn r a:=by
  unfold wc_ at h
  simp only [Bool.and_eq_true] at h
  obtain ⟨_,_,_,h1,h2,h3,_,_,_,h4⟩:=h
  refine ⟨asc_in h1,asc_in h2,asc_in h3,fun x hx => ?_⟩
  obtain ⟨j,hj⟩:=List.getElem?_of_mem hx
  rw [Option.isNone_iff_eq_none] at h4
  have:=eg_ h4 hj
  cases hs:sr_ r a.2.2.2.2.2.1 j x with
  | false=>rw [hs] at this; cases this
  | true =>
    unfold sr_ at hs
    rw [Bool.and_eq_true] at hs
    exact hs.1
theorem gc_ {α:Type} {l:List α} (hl:Sm l.length) (i:Int):(wi i 0 (w64 ((l.length:Int) - 1))=false∧at? l i=none)∨∃ (j:Nat) (x:α),i=(j:Int)∧l[j]?=some x∧wi i 0 (w64 ((l.length:Int) - 1))=true∧at? l i=some x:=by
  rw [kk_ (by omega) (by omega)]
  by_cases h:0≤i∧i<(l.length:Int)
  · obtain ⟨x,hx⟩:=dn_ (l:=l) (i:=i.toNat) (by omega)
    have hi:i=((i.toNat:Nat):Int):=by omega
    exact .inr ⟨i.toNat,x,hi,hx,wi_iff.2 (by omega),by rw [hi]; exact am_ hx⟩
  · refine .inl ⟨?_,?_⟩
    · cases hw:wi i 0 ((l.length:Int) - 1) with
      | false=>rfl
      | true=>have:=wi_iff.1 hw; omega
    · unfold at?
      split
      · exact List.getElem?_eq_none (by omega)
      · rfl
def vu_ (pr:List Int) (h:Int):Nat:=pr.countP (· == h)
theorem handN_le (pr:List Int) (h:Int):vu_ pr h≤pr.length:=List.countP_le_length
theorem table_hand {t:kt_} (h:Sm t.2.2.1.length) (p:Int):ei_ t p=some ((vu_ t.2.2.1 (w64 ((-2) - p)):Int),()):=by
  unfold ei_
  refine bind_fold t.2.2.1 (fun _ (c:Nat) x=>cond (x==w64 ((-2) - p)) (c+1) c) (fun i c=>((c:Int),((i:Int),()))) (fun c=>((c:Int),())) 0 (fun i c=>c=vu_ (t.2.2.1.take i) (w64 ((-2) - p))) rfl (fun i x c hx hc => ?_) (fun c hc => ?_) (fun c hc => ?_)
  · have hi:=ax_ hx
    have hcl:c≤i:=by rw [hc]; refine Nat.le_trans (handN_le _ _) ?_; rw [List.length_take]; omega
    have hn:vu_ (t.2.2.1.take (i+1)) (w64 ((-2) - p))=cond (x==w64 ((-2) - p)) (c+1) c:=by
      unfold vu_
      rw [List.take_add_one,hx,hc,List.countP_append]
      unfold vu_
      cases hq:x==w64 ((-2) - p) with
      | true=>simp [hq]
      | false=>simp [hq]
    refine ⟨?_,hn.symm⟩
    simp only [dlt hi,cond_true,am_ hx,Option.bind_some,cf_ (show Sm i by omega)]
    cases hq:x==w64 ((-2) - p) with
    | true=>simp only [cond_true,Option.bind_some,cf_ (show Sm c by omega)]
    | false=>rfl
  · simp only [dnl,cond_false]
  · rw [List.take_length] at hc
    rw [hc]
abbrev hdl (m:bp_):Int:=w64 ((-2) - m.1)
def lgl (r:ae_) (s:ar_) (m:bp_):Bool :=
  wi m.1 0 (w64 ((s.2.2.length:Int) - 1)) &&
  cond (m.2.1==1) ((at? r.2.2.2.1 m.2.2).elim false fun w=>(w.1==gi s.2.2 m.1||w.2.1==gi s.2.2 m.1)&&fm_ s.1 w.2.2)
  (cond (m.2.1==2) ((at? r.2.2.1 m.2.2).elim false fun x=>gi s.2.1 m.2.2==gi s.2.2 m.1&&(fm_ s.1 x.2.2&&decide ((vu_ s.2.1 (hdl m):Int)<3)))
  (cond (m.2.1==3) ((at? s.2.1 m.2.2).elim false fun p=>p==hdl m)
  (cond (m.2.1==4) ((at? r.2.2.2.2.1 m.2.2).elim false fun a=>a.2.1==gi s.2.2 m.1&&((a.2.2.2.1.all fun p=>gi s.2.1 p==hdl m)&&(fm_ s.1 a.2.2.2.2.1&&((a.2.2.2.2.2.2.2.all fun p=>gi s.2.1 p==-1)&&decide ((vu_ s.2.1 (hdl m):Int) - (a.2.2.2.2.2.2.1.length:Int)+(a.2.2.2.2.2.2.2.length:Int)≤3)))))
   false)))
theorem all_loop {l t:List Int} (hl:Sm l.length) (hi:∀ p ∈ l,0≤p∧p<(t.length:Int)) (h:Int) :
    ((af_ (ρ:=(Unit⊕(Bool×Unit))) (fun (v15:(Int×Unit)) =>
 (cond (decide (v15.1<(l.length:Int)))
 ((at? l v15.1).bind fun v16 =>
 ((at? t v16).bind fun v17 =>
 (cond (!(v17==h))
 (some (Sum.inr (Sum.inr ((decide (0≤v15.1)),()))))
 (some (Sum.inl ((w64 (v15.1+1)),()))))))
 (some (Sum.inr (Sum.inl ()))))) (0,())).bind fun v18 =>
 (de_ v18 (fun v19=>(some ((decide ((0:Int)≤(-1))),())))
 (fun v20=>(some v20))))=some (!(l.all fun p=>gi t p==h),()):=by
  refine Eq.trans (pb_ hl (fun p=>!(gi t p==h)) (fun i y hy => ?_) ?_) ?_
  · have:=hi y (cj_ hy)
    simp only [dlt (ax_ hy),cond_true,am_ hy,Option.bind_some,zr_ this.1 this.2]
    cases gi t y==h <;> rfl
  · simp only [dnl,cond_false]
  · rw [← all_not,Bool.not_not]
theorem table_legal {r:ae_} (h:SmR r) (ok:OkR r) {s:ar_} (hv:VS r s) (m:bp_):ew_ (r,s) m=some (lgl r s m,()):=by
  obtain ⟨m1,m2,m3⟩:=wd_ h ok hv
  have hl1:=hv.l1
  have hl2:=hv.l2
  have hH:∀ {c:List az_},cOk r.2.1 c=true→bg_ (r,s) c=some (fm_ s.1 c,()):=fun {c} hc=>by
    obtain ⟨c1,c2⟩:=yw_ h.th hc
    exact js_ (t:=(r,s)) (show c.length≤1000000000 by omega) (by show InC s.1.length c; rw [hl1]; exact c1)
  have hD:ei_ (r,s) m.1=some ((vu_ s.2.1 (hdl m):Int),()):=table_hand (t:=(r,s)) m2 m.1
  have hDl:=handN_le s.2.1 (hdl m)
  unfold ew_ lgl
  simp only [fe_,Option.bind_some]
  rcases gc_ m3 m.1 with ⟨e1,_⟩ | ⟨pj,px,hpj,hp,e1,e2⟩
  · rw [e1]; rfl
  · have eg:gi s.2.2 m.1=px:=gi_at e2
    simp only [e1,e2,eg,Bool.not_true,cond_false,Option.bind_some,Bool.true_and]
    cases hk1:m.2.1==1 with
    | true =>
      simp only [cond_true]
      rcases gc_ h.wy m.2.2 with ⟨f1,f2⟩ | ⟨j,w,hj,hw,f1,f2⟩
      · simp only [f1,f2]; rfl
      · simp only [f1,f2,Bool.not_true,cond_false,Option.bind_some,hH (ok.wy j w hw).2]
        show _=some ((w.1==px||w.2.1==px)&&fm_ s.1 w.2.2,())
        cases w.1==px with
        | true=>rfl
        | false=>cases w.2.1==px <;> rfl
    | false =>
    simp only [cond_false]
    cases hk2:m.2.1==2 with
    | true =>
      simp only [cond_true]
      rcases gc_ m2 m.2.2 with ⟨f1,f2⟩ | ⟨j,p,hj,hp,f1,f2⟩
      · have f3:at? r.2.2.1 m.2.2=none:=by
          rcases gc_ h.pr m.2.2 with ⟨_,g2⟩ | ⟨j,x,hj,hx,g1,g2⟩
          · exact g2
          · rw [← hl2,f1] at g1; cases g1
        simp only [f1,f3,cond_false]; rfl
      · obtain ⟨x,hx⟩:=dn_ (l:=r.2.2.1) (i:=j) (by have:=ax_ hp; omega)
        have f3:at? r.2.2.1 m.2.2=some x:=by rw [hj]; exact am_ hx
        have f4:gi s.2.1 m.2.2=p:=gi_at f2
        simp only [f1,f2,f3,f4,cond_true,Option.bind_some,hH (ok.pr j x hx).2,hD]
        show _=some (p==px&&(fm_ s.1 x.2.2&&decide ((vu_ s.2.1 (hdl m):Int)<3)),())
        cases p==px with
        | false=>rfl
        | true=>cases fm_ s.1 x.2.2 <;> rfl
    | false =>
    simp only [cond_false]
    cases hk3:m.2.1==3 with
    | true =>
      simp only [cond_true]
      rcases gc_ m2 m.2.2 with ⟨f1,f2⟩ | ⟨j,p,hj,hp,f1,f2⟩
      · simp only [f1,f2]; rfl
      · simp only [f1,f2,cond_true,Option.bind_some]; rfl
    | false =>
    simp only [cond_false]
    cases hk4:m.2.1==4 with
    | false=>rfl
    | true =>
      simp only [cond_true]
      rcases gc_ h.ac m.2.2 with ⟨f1,f2⟩ | ⟨j,a,hj,ha,f1,f2⟩
      · simp only [f1,f2]; rfl
      · obtain ⟨oa,oc⟩:=ok.ac j a ha
        have ai:=act_in oa
        obtain ⟨s1,s2,s3,s4,s5,s6⟩:=h.acn a (cj_ ha)
        simp only [f1,f2,Bool.not_true,cond_false,Option.bind_some]
        show _=some (a.2.1==px&&((a.2.2.2.1.all fun p=>gi s.2.1 p==hdl m)&&(fm_ s.1 a.2.2.2.2.1&&((a.2.2.2.2.2.2.2.all fun p=>gi s.2.1 p==-1)&&decide ((vu_ s.2.1 (hdl m):Int) - (a.2.2.2.2.2.2.1.length:Int)+(a.2.2.2.2.2.2.2.length:Int)≤3)))),())
        cases a.2.1==px with
        | false=>rfl
        | true =>
        simp only [cond_true,Bool.true_and]
        refine Eq.trans (congrArg (fun o=>Option.bind o _) (all_loop s2 (fun p hp=>by have:=ai.us p hp; omega) (hdl m))) ?_
        rw [Option.bind_some]
        cases a.2.2.2.1.all fun p=>gi s.2.1 p==hdl m with
        | false=>rfl
        | true =>
        simp only [Bool.not_true,Bool.not_false,cond_true,hH oc,Option.bind_some,Bool.true_and]
        cases fm_ s.1 a.2.2.2.2.1 with
        | false=>rfl
        | true =>
        simp only [cond_true,Bool.true_and]
        refine Eq.trans (congrArg (fun o=>Option.bind o _) (all_loop s6 (fun p hp=>by have:=ai.br p hp; omega) (-1))) ?_
        rw [Option.bind_some]
        cases a.2.2.2.2.2.2.2.all fun p=>gi s.2.1 p==-1 with
        | false=>rfl
        | true =>
        simp only [Bool.not_true,Bool.not_false,cond_true,hD,Option.bind_some,Bool.true_and]
        rw [kk_ (n:=(vu_ s.2.1 (hdl m):Int) - _) (by omega) (by omega),kk_ (by omega) (by omega)]
theorem set_fold {α:Type} (l:List α) (hl:Sm l.length) (ix vl:α→Int) (t:List Int) (hi:∀ x ∈ l,0≤ix x∧ix x<(t.length:Int)) {body:(Int×(List Int×Unit))→Option ((Int×(List Int×Unit))⊕(List Int×Unit))}
    (hb:∀ (i:Nat) (x:α) (t':List Int) (y:Int),l[i]?=some x→at? t' (ix x)=some y→body ((i:Int),(t',()))=some (.inl (w64 ((i:Int)+1),(t'.set (ix x).toNat (vl x),())))) (e:∀ t',body ((l.length:Int),(t',()))=some (.inr (t',()))) :
    af_ body (0,(t,()))=some (l.foldl (fun t x=>t.set (ix x).toNat (vl x)) t,()):=by
  obtain ⟨z,⟨_,hz⟩,e⟩:=ye_ l (fun _ t x=>t.set (ix x).toNat (vl x)) (fun i t=>((i:Int),(t,()))) (fun t=>(t,())) t (body:=body) (fun i t'=>t'.length=t.length∧t'=(l.take i).foldl (fun t x=>t.set (ix x).toNat (vl x)) t) ⟨rfl,rfl⟩ (fun i x t' hx ht=>by
    obtain ⟨h1,h2⟩:=ht
    have hil:=ax_ hx
    have:=hi x (cj_ hx)
    refine ⟨?_,by rw [List.length_set,h1],?_⟩
    · rw [hb i x t' _ hx (zr_ this.1 (by omega)),cf_ (show Sm i by omega)]
    · rw [List.take_add_one,hx,List.foldl_append,← h2]
      rfl) (fun t' _=>e t')
  rw [List.take_length] at hz
  rw [← hz]
  exact e
def mvP (r:ae_) (s:ar_) (m:bp_):ar_ :=
  cond (m.2.1==1) ((at? r.2.2.2.1 m.2.2).elim s fun w=>(s.1,(s.2.1,s.2.2.set m.1.toNat (w.1+w.2.1 - gi s.2.2 m.1))))
  (cond (m.2.1==2) (s.1,(s.2.1.set m.2.2.toNat (hdl m),s.2.2))
  (cond (m.2.1==3) (s.1,(s.2.1.set m.2.2.toNat (gi s.2.2 m.1),s.2.2))
  (cond (m.2.1==4) ((at? r.2.2.2.2.1 m.2.2).elim s fun a=>(a.2.2.2.2.2.1.foldl (fun t x=>t.set x.1.toNat x.2) s.1,(a.2.2.2.2.2.2.2.foldl (fun t p=>t.set p.toNat (hdl m)) (a.2.2.2.2.2.2.1.foldl (fun t p=>t.set p.toNat (-1)) s.2.1),s.2.2)))
   s)))
theorem yz_ {α:Type} {l:List α} {P:α→Prop} (h:∀ (i:Nat) x,l[i]?=some x→P x) {j:Nat} {v:α} (hv:P v):∀ (i:Nat) x,(l.set j v)[i]?=some x→P x:=by
  intro i x hx
  rw [List.getElem?_set] at hx
  split at hx
  · split at hx
    · obtain rfl:=Option.some.inj hx
      exact hv
    · cases hx
  · exact h i x hx
theorem pv_ {α τ:Type} {f:τ→α→τ} {P:τ→Prop}:∀ (l:List α) (t:τ),P t→(∀ t x,x ∈ l→P t→P (f t x))→P (l.foldl f t)
  | [],t,h,_=>h
  | x::l,t,h,hf=>pv_ l (f t x) (hf t x (List.mem_cons_self ..) h) fun t y hy=>hf t y (List.mem_cons_of_mem _ hy)
theorem setf_len {α:Type} (ix vl:α→Int) (l:List α) (t:List Int):(l.foldl (fun t x=>t.set (ix x).toNat (vl x)) t).length=t.length :=
  pv_ (P:=fun t'=>t'.length=t.length) l t rfl fun t' x _ h=>by rw [List.length_set,h]
theorem ol_ {r:ae_} (h:SmR r) {p:Int}:te_ r p=true↔0≤p∧p<(r.1.length:Int):=by
  have:=h.pl
  unfold te_
  rw [wi_iff,kk_ (by omega) (by omega)]
  omega
theorem inR_iff {r:ae_} (h:SmR r) (ok:OkR r) {p:Int}:inR r p=true↔(-2) - r.2.2.2.2.2.2.1<p∧p<(r.1.length:Int):=by
  have:=h.pl
  have hp:=wi_iff.1 ok.py
  unfold inR
  rw [wi_iff,kk_ (n:=(-2) - r.2.2.2.2.2.2.1) (by omega) (by omega),kk_ (by omega) (by omega),kk_ (by omega) (by omega)]
  omega
theorem pl_pos {r:ae_} (ok:OkR r):0<r.1.length:=by
  have hne:r.1.length≠0:=fun e=>ok.ne (List.length_eq_zero_iff.1 e)
  omega
theorem hdl_eq {r:ae_} (ok:OkR r) {s:ar_} (hv:VS r s) {m:bp_} {j:Nat} {x:Int} (hj:m.1=(j:Int)) (hx:s.2.2[j]?=some x):hdl m=(-2) - m.1∧m.1<r.2.2.2.2.2.2.1:=by
  have hp:=wi_iff.1 ok.py
  have:=ax_ hx
  have:=hv.l3
  exact ⟨kk_ (by omega) (by omega),by omega⟩
theorem lgl_pl {r:ae_} {s:ar_} {m:bp_} (m3:Sm s.2.2.length) (hl:lgl r s m=true):∃ (j:Nat) (x:Int),m.1=(j:Int)∧s.2.2[j]?=some x∧at? s.2.2 m.1=some x:=by
  unfold lgl at hl
  rw [Bool.and_eq_true] at hl
  rcases gc_ m3 m.1 with ⟨e1,_⟩ | ⟨pj,px,hpj,hp,e1,e2⟩
  · rw [e1] at hl; cases hl.1
  · exact ⟨pj,px,hpj,hp,e2⟩
theorem VS_mv {r:ae_} (h:SmR r) (ok:OkR r) {s:ar_} (hv:VS r s) {m:bp_} (hl:lgl r s m=true):VS r (mvP r s m):=by
  obtain ⟨m1,m2,m3⟩:=wd_ h ok hv
  obtain ⟨pj,px,hpj,hp,e2⟩:=lgl_pl m3 hl
  obtain ⟨d1,d2⟩:=hdl_eq ok hv hpj hp
  have hpy:=wi_iff.1 ok.py
  have hpos:=pl_pos ok
  have hhd:inR r (hdl m)=true:=(inR_iff h ok).2 (by omega)
  have hm1:inR r (-1)=true:=(inR_iff h ok).2 (by omega)
  unfold lgl at hl
  rw [Bool.and_eq_true] at hl
  have hl:=hl.2
  have eg:gi s.2.2 m.1=px:=gi_at e2
  have hpx:=hv.py _ _ hp
  unfold mvP
  cases hk1:m.2.1==1 with
  | true =>
    rw [hk1] at hl
    simp only [cond_true] at hl ⊢
    cases hw:at? r.2.2.2.1 m.2.2 with
    | none=>exact hv
    | some w =>
      rw [hw] at hl
      have hl:((w.1==gi s.2.2 m.1||w.2.1==gi s.2.2 m.1)&&fm_ s.1 w.2.2)=true:=hl
      rw [Bool.and_eq_true,Bool.or_eq_true,beq_iff_eq,beq_iff_eq] at hl
      rcases gc_ h.wy m.2.2 with ⟨f1,f2⟩ | ⟨j,w',hj,hw',f1,f2⟩
      · rw [f2] at hw; cases hw
      · rw [f2] at hw
        obtain rfl:=Option.some.inj hw
        have ow:=(ok.wy j w' hw').1
        unfold wyOk at ow
        simp only [Bool.and_eq_true] at ow
        have o1:=(ol_ h).1 ow.1
        have o2:=(ol_ h).1 ow.2.1
        refine ⟨hv.l1,hv.l2,by show ((s.2.2.set _ _).length:Int)=_; rw [List.length_set]; exact hv.l3,hv.th,hv.pr,yz_ hv.py ((ol_ h).2 ?_)⟩
        rcases hl.1 with e | e <;> omega
  | false =>
  rw [hk1] at hl
  simp only [cond_false] at hl ⊢
  cases hk2:m.2.1==2 with
  | true=>exact ⟨hv.l1,by show (s.2.1.set _ _).length=_; rw [List.length_set]; exact hv.l2,hv.l3,hv.th,yz_ hv.pr hhd,hv.py⟩
  | false =>
  rw [hk2] at hl
  simp only [cond_false] at hl ⊢
  cases hk3:m.2.1==3 with
  | true =>
    refine ⟨hv.l1,by show (s.2.1.set _ _).length=_; rw [List.length_set]; exact hv.l2,hv.l3,hv.th,yz_ hv.pr ?_,hv.py⟩
    rw [eg]
    have:=(ol_ h).1 hpx
    exact (inR_iff h ok).2 (by omega)
  | false =>
  rw [hk3] at hl
  simp only [cond_false] at hl ⊢
  cases hk4:m.2.1==4 with
  | false=>exact hv
  | true =>
    simp only [cond_true]
    rcases gc_ h.ac m.2.2 with ⟨f1,f2⟩ | ⟨j,a,hj,ha,f1,f2⟩
    · rw [f2]; exact hv
    · rw [f2]
      have ai:=act_in (ok.ac j a ha).1
      have hth:VT r (a.2.2.2.2.2.1.foldl (fun t x=>t.set x.1.toNat x.2) s.1):=pv_ (P:=VT r) _ _ ⟨hv.l1,hv.th⟩ fun t x hx ht=>VT_set h ok ht (ai.st x hx)
      have hpr:∀ (i:Nat) p,(a.2.2.2.2.2.2.2.foldl (fun t p=>t.set p.toNat (hdl m)) (a.2.2.2.2.2.2.1.foldl (fun t p=>t.set p.toNat (-1)) s.2.1))[i]?=some p→inR r p=true:=by
        refine pv_ (P:=fun t=>∀ (i:Nat) p,t[i]?=some p→inR r p=true) _ _ ?_ fun t x hx ht=>yz_ ht hhd
        exact pv_ (P:=fun t=>∀ (i:Nat) p,t[i]?=some p→inR r p=true) _ _ hv.pr fun t x hx ht=>yz_ ht hm1
      refine ⟨hth.1,?_,hv.l3,hth.2,hpr,hv.py⟩
      show (a.2.2.2.2.2.2.2.foldl (fun t p=>t.set p.toNat (hdl m)) (a.2.2.2.2.2.2.1.foldl (fun t p=>t.set p.toNat (-1)) s.2.1)).length=_
      rw [setf_len (fun p=>p) (fun _=>hdl m),setf_len (fun p=>p) (fun _=>-1)]
      exact hv.l2
end Go.Proofs.YtfcgcpjnpdkjmaaGreatDoor.Rx
end
section
set_option maxRecDepth 100000
namespace Go.Proofs.YtfcgcpjnpdkjmaaGreatDoor.Rx
open Go Go.Proofs.YtfcgcpjnpdkjmaaGreatDoor.Pad Go.Proofs.YtfcgcpjnpdkjmaaGreatDoor.Rex Go.Proofs
noncomputable def mvX (a0:ae_) (a2:bp_) (v1 v2 v3:List Int):Option (List Int×(List Int×(List Int×Unit))) :=
 (cond (a2.2.1==1)
 ((at? a0.2.2.2.1 a2.2.2).bind fun v5 =>
 ((at? v3 a2.1).bind fun v6 =>
 ((at? v3 a2.1).bind fun v7 =>
 ((at? v3 a2.1).bind fun v8 =>
 ((at? v3 a2.1).bind fun v9 =>
 (some (v1,(v2,((v3.set a2.1.toNat (w64 ((w64 (v5.1+v5.2.1)) - v7))),())))))))))
 (cond (a2.2.1==2)
 ((at? v2 a2.2.2).bind fun v10 =>
 ((at? v2 a2.2.2).bind fun v11 =>
 (some (v1,((v2.set a2.2.2.toNat (w64 ((-2) - a2.1))),(v3,()))))))
 (cond (a2.2.1==3)
 ((at? v3 a2.1).bind fun v12 =>
 ((at? v3 a2.1).bind fun v13 =>
 ((at? v2 a2.2.2).bind fun v14 =>
 ((at? v2 a2.2.2).bind fun v15 =>
 (some (v1,((v2.set a2.2.2.toNat v13),(v3,()))))))))
 (cond (a2.2.1==4)
 ((at? a0.2.2.2.2.1 a2.2.2).bind fun v16 =>
 ((af_ (ρ:=((List Int)×Unit)) (fun (v17:(Int×((List Int)×Unit))) =>
 (cond (decide (v17.1<(v16.2.2.2.2.2.2.1.length:Int)))
 ((at? v16.2.2.2.2.2.2.1 v17.1).bind fun v18 =>
 ((at? v17.2.1 v18).bind fun v19 =>
 ((at? v17.2.1 v18).bind fun v20 =>
 (some (Sum.inl ((w64 (v17.1+1)),((v17.2.1.set v18.toNat (-1)),())))))))
 (some (Sum.inr (v17.2.1,()))))) (0,(v2,()))).bind fun v21 =>
 ((af_ (ρ:=((List Int)×Unit)) (fun (v22:(Int×((List Int)×Unit))) =>
 (cond (decide (v22.1<(v16.2.2.2.2.2.2.2.length:Int)))
 ((at? v16.2.2.2.2.2.2.2 v22.1).bind fun v23 =>
 ((at? v22.2.1 v23).bind fun v24 =>
 ((at? v22.2.1 v23).bind fun v25 =>
 (some (Sum.inl ((w64 (v22.1+1)),((v22.2.1.set v23.toNat (w64 ((-2) - a2.1))),())))))))
 (some (Sum.inr (v22.2.1,()))))) (0,(v21.1,()))).bind fun v26 =>
 ((af_ (ρ:=((List Int)×Unit)) (fun (v27:(Int×((List Int)×Unit))) =>
 (cond (decide (v27.1<(v16.2.2.2.2.2.1.length:Int)))
 ((at? v16.2.2.2.2.2.1 v27.1).bind fun v28 =>
 ((at? v27.2.1 v28.1).bind fun v29 =>
 ((at? v27.2.1 v28.1).bind fun v30 =>
 (some (Sum.inl ((w64 (v27.1+1)),((v27.2.1.set v28.1.toNat v28.2),())))))))
 (some (Sum.inr (v27.2.1,()))))) (0,(v1,()))).bind fun v31 =>
 (some (v31.1,(v26.1,(v3,()))))))))
 (some (v1,(v2,(v3,()))))))))
noncomputable def rstX (a0:ae_) (a1:ar_) (a2:bp_):Option (ar_×(Int×Unit)) :=
 ((cs_ a0 a1).bind fun v0 =>
 (cond (v0.1 != 0)
 (some (([],([],[])),(v0.1,())))
 ((push? (α:=Int) [] a1.1).bind fun v1 =>
 ((push? (α:=Int) [] a1.2.1).bind fun v2 =>
 ((push? (α:=Int) [] a1.2.2).bind fun v3 =>
 ((ew_ (a0,(v1,(v2,v3))) a2).bind fun v4 =>
 (cond (!v4.1)
 (some (([],([],[])),(29,())))
 ((mvX a0 a2 v1 v2 v3).bind fun v32 =>
 ((((af_ (ρ:=(((List Int)×Unit)⊕(Bool×((List Int)×Unit)))) (setB a0 v32.2.1 v32.2.2.1) (0,(v32.1,()))).bind fun v48 =>
 (de_ v48 (fun v49=>(some ((!false),(v49.1,()))))
 (fun v50=>(some v50))))).bind fun v51 =>
 (cond v51.1
 (some (([],([],[])),(27,())))
 (some ((v51.2.1,(v32.2.1,v32.2.2.1)),(0,())))))))))))))
theorem rstX_eq:ma_=rstX:=by kernel_rfl
theorem mvX_eq {r:ae_} (h:SmR r) (ok:OkR r) {s:ar_} (hv:VS r s) {m:bp_} (hl:lgl r s m=true):mvX r m s.1 s.2.1 s.2.2=some ((mvP r s m).1,((mvP r s m).2.1,((mvP r s m).2.2,()))):=by
  obtain ⟨m1,m2,m3⟩:=wd_ h ok hv
  have hl1:=hv.l1
  have hl2:=hv.l2
  obtain ⟨pj,px,hpj,hp,e2⟩:=lgl_pl m3 hl
  have eg:gi s.2.2 m.1=px:=gi_at e2
  have hpx:=(ol_ h).1 (hv.py _ _ hp)
  have hpl:=h.pl
  unfold lgl at hl
  rw [Bool.and_eq_true] at hl
  have hl:=hl.2
  unfold mvX mvP
  cases hk1:m.2.1==1 with
  | true =>
    rw [hk1] at hl
    simp only [cond_true] at hl ⊢
    rcases gc_ h.wy m.2.2 with ⟨f1,f2⟩ | ⟨j,w,hj,hw,f1,f2⟩
    · rw [f2] at hl; cases hl
    · have ow:=(ok.wy j w hw).1
      unfold wyOk at ow
      simp only [Bool.and_eq_true] at ow
      have o1:=(ol_ h).1 ow.1
      have o2:=(ol_ h).1 ow.2.1
      simp only [f2,e2,eg,Option.bind_some,Option.elim]
      rw [kk_ (n:=w.1+w.2.1) (by omega) (by omega),kk_ (by omega) (by omega)]
  | false =>
  rw [hk1] at hl
  simp only [cond_false] at hl ⊢
  cases hk2:m.2.1==2 with
  | true =>
    rw [hk2] at hl
    simp only [cond_true] at hl ⊢
    rcases gc_ h.pr m.2.2 with ⟨f1,f2⟩ | ⟨j,x,hj,hx,f1,f2⟩
    · rw [f2] at hl; cases hl
    · have:=ax_ hx
      rw [zr_ (l:=s.2.1) (i:=m.2.2) (by omega) (by omega)]
      rfl
  | false =>
  rw [hk2] at hl
  simp only [cond_false] at hl ⊢
  cases hk3:m.2.1==3 with
  | true =>
    rw [hk3] at hl
    simp only [cond_true] at hl ⊢
    rcases gc_ m2 m.2.2 with ⟨f1,f2⟩ | ⟨j,x,hj,hx,f1,f2⟩
    · rw [f2] at hl; cases hl
    · simp only [f2,e2,eg,Option.bind_some]
  | false =>
  rw [hk3] at hl
  simp only [cond_false] at hl ⊢
  cases hk4:m.2.1==4 with
  | false=>rfl
  | true =>
    rw [hk4] at hl
    simp only [cond_true] at hl ⊢
    rcases gc_ h.ac m.2.2 with ⟨f1,f2⟩ | ⟨j,a,hj,ha,f1,f2⟩
    · rw [f2] at hl; cases hl
    · have ai:=act_in (ok.ac j a ha).1
      obtain ⟨s1,s2,s3,s4,s5,s6⟩:=h.acn a (cj_ ha)
      simp only [f2,Option.bind_some,Option.elim]
      have hA:=set_fold a.2.2.2.2.2.2.1 s5 (fun p=>p) (fun _=>-1) s.2.1 (fun p hp=>by have:=ai.sp p hp; omega) (body:=(fun (v17:(Int×((List Int)×Unit))) =>
 (cond (decide (v17.1<(a.2.2.2.2.2.2.1.length:Int)))
 ((at? a.2.2.2.2.2.2.1 v17.1).bind fun v18 =>
 ((at? v17.2.1 v18).bind fun v19 =>
 ((at? v17.2.1 v18).bind fun v20 =>
 (some (Sum.inl ((w64 (v17.1+1)),((v17.2.1.set v18.toNat (-1)),())))))))
 (some (Sum.inr (v17.2.1,())))))) (fun i x t' y hx hy=>by simp only [dlt (ax_ hx),cond_true,am_ hx,Option.bind_some,hy]) (fun t'=>by simp only [dnl,cond_false])
      rw [hA,Option.bind_some]
      have hl3:(a.2.2.2.2.2.2.1.foldl (fun t p=>t.set p.toNat (-1)) s.2.1).length=s.2.1.length:=setf_len (fun p=>p) (fun _=>-1) _ _
      have hB:=set_fold a.2.2.2.2.2.2.2 s6 (fun p=>p) (fun _=>hdl m) (a.2.2.2.2.2.2.1.foldl (fun t p=>t.set p.toNat (-1)) s.2.1) (fun p hp=>by have:=ai.br p hp; omega) (body:=(fun (v22:(Int×((List Int)×Unit))) =>
 (cond (decide (v22.1<(a.2.2.2.2.2.2.2.length:Int)))
 ((at? a.2.2.2.2.2.2.2 v22.1).bind fun v23 =>
 ((at? v22.2.1 v23).bind fun v24 =>
 ((at? v22.2.1 v23).bind fun v25 =>
 (some (Sum.inl ((w64 (v22.1+1)),((v22.2.1.set v23.toNat (w64 ((-2) - m.1))),())))))))
 (some (Sum.inr (v22.2.1,())))))) (fun i x t' y hx hy=>by simp only [dlt (ax_ hx),cond_true,am_ hx,Option.bind_some,hy]) (fun t'=>by simp only [dnl,cond_false])
      simp only
      rw [hB,Option.bind_some]
      have hC:=set_fold a.2.2.2.2.2.1 s4 (fun x:Int×Int=>x.1) (fun x=>x.2) s.1 (fun x hx=>by have:=(lh_ h ok (ai.st x hx)).1; omega) (body:=(fun (v27:(Int×((List Int)×Unit))) =>
 (cond (decide (v27.1<(a.2.2.2.2.2.1.length:Int)))
 ((at? a.2.2.2.2.2.1 v27.1).bind fun v28 =>
 ((at? v27.2.1 v28.1).bind fun v29 =>
 ((at? v27.2.1 v28.1).bind fun v30 =>
 (some (Sum.inl ((w64 (v27.1+1)),((v27.2.1.set v28.1.toNat v28.2),())))))))
 (some (Sum.inr (v27.2.1,())))))) (fun i x t' y hx hy=>by simp only [dlt (ax_ hx),cond_true,am_ hx,Option.bind_some,hy]) (fun t'=>by simp only [dnl,cond_false])
      rw [hC,Option.bind_some]
def fstA (r:ae_) (th:List Int):Option (List az_×ag_):=r.2.2.2.2.2.1.find? fun y=>(gi th y.2.1 != y.2.2)&&fm_ th y.1
def stl (r:ae_):Nat→List Int→Option (List Int)
  | 0,_=>none
  | n+1,th=>match fstA r th with
    | none=>some th
    | some y=>stl r n (th.set y.2.1.toNat y.2.2)
theorem scan_find {α ρ:Type} {q:α→Bool} {f:Nat→ρ}:∀ (m:List α) (k:Nat),(ib_ (fun i y=>cond (q y) (some (f i)) none) k m=none∧m.find? q=none)∨∃ (i:Nat) (y:α),m[i]?=some y∧m.find? q=some y∧ib_ (fun i y=>cond (q y) (some (f i)) none) k m=some (f (k+i))
  | [],_=>.inl ⟨rfl,rfl⟩
  | x::m,k=>by
    unfold ib_
    cases hq:q x with
    | true=>exact .inr ⟨0,x,rfl,by simp [hq],rfl⟩
    | false =>
      rcases scan_find (q:=q) (f:=f) m (k+1) with ⟨h1,h2⟩ | ⟨i,y,h1,h2,h3⟩
      · exact .inl ⟨h1,by simp [hq,h2]⟩
      · exact .inr ⟨i+1,y,by simpa using h1,by simp [hq,h2],by rw [show k+(i+1)=k+1+i by omega]; exact h3⟩
theorem if_find {α:Type} {l:List α} (hl:Sm l.length) (q:α→Bool) {body:(Int×Unit)→Option ((Int×Unit)⊕(Unit⊕(Int×Unit)))}
    (h:∀ (i:Nat) y,l[i]?=some y→body ((i:Int),())=some (cond (q y) (.inr (.inr ((i:Int),()))) (.inl (w64 ((i:Int)+1),())))) (e:body ((l.length:Int),())=some (.inr (.inl ()))) :
    ∃ n:Int,((af_ body (0,())).bind fun v=>de_ v (fun _=>some ((-1:Int),())) (fun w=>some w))=some (n,())∧((n = -1∧l.find? q=none)∨∃ (i:Nat) (y:α),n=(i:Int)∧l[i]?=some y∧l.find? q=some y):=by
  have hrun:=ps_ l (fun i y=>cond (q y) (some (Sum.inr ((i:Int),()):Unit⊕(Int×Unit))) none) (fun i=>((i:Int),())) (r0:=Sum.inl ()) (body:=body) (fun i y hy=>by
    have hi:=ax_ hy
    rw [h i y hy,cf_ (show Sm i by omega)]
    cases q y <;> rfl) e
  have hr2:af_ body (0,())=some ((ib_ (fun i y=>cond (q y) (some (Sum.inr ((i:Int),()):Unit⊕(Int×Unit))) none) 0 l).getD (Sum.inl ())):=hrun
  rw [hr2]
  rcases scan_find (q:=q) (f:=fun i=>(Sum.inr ((i:Int),()):Unit⊕(Int×Unit))) l 0 with ⟨h1,h2⟩ | ⟨i,y,h1,h2,h3⟩
  · exact ⟨-1,by rw [h1]; rfl,.inl ⟨rfl,h2⟩⟩
  · exact ⟨(i:Int),by rw [h3,Nat.zero_add]; rfl,.inr ⟨i,y,rfl,h1,h2⟩⟩
theorem aut_find {r:ae_} (h:SmR r) (ok:OkR r) {th pr py:List Int} (hv:VT r th) :
    ∃ n:Int,((af_ (autB r th pr py) (0,())).bind fun v=>de_ v (fun _=>some ((-1:Int),())) (fun w=>some w))=some (n,())∧((n = -1∧fstA r th=none)∨∃ (i:Nat) (y:List az_×ag_),n=(i:Int)∧r.2.2.2.2.2.1[i]?=some y∧fstA r th=some y) :=
  if_find (l:=r.2.2.2.2.2.1) h.au (fun y=>(gi th y.2.1 != y.2.2)&&fm_ th y.1) (body:=autB r th pr py) (fun i y hy=>by
    obtain ⟨g1,g2⟩:=ok.au i y hy
    have hi:=(lh_ h ok g1).1
    obtain ⟨c1,c2⟩:=yw_ h.th g2
    have hl:=hv.1
    unfold autB
    have ht:bg_ (r,(th,(pr,py))) y.1=some (fm_ th y.1,()):=js_ (t:=(r,(th,(pr,py)))) (by omega) (by show InC th.length y.1; rw [hl]; exact c1)
    simp only [dlt (ax_ hy),cond_true,am_ hy,Option.bind_some,zr_ hi.1 (show y.2.1<th.length by omega),ht]
    cases gi th y.2.1 != y.2.2 with
    | false=>rfl
    | true=>cases fm_ th y.1 <;> rfl) (by
    unfold autB
    simp only [dnl,cond_false])
theorem xf_ {r:ae_} (h:SmR r) (ok:OkR r) {pr py:List Int}:∀ (n i:Nat) (th:List Int),i+n=101→VT r th →
    ∃ z,af_ (setB r pr py) ((i:Int),(th,()))=some z∧match stl r n th with
      | some th'=>z = .inr (false,(th',()))∧VT r th'
      | none=>∃ w,z = .inl w
  | 0,i,th,hi,hv=>by
    obtain rfl:i=101:=by omega
    exact ⟨.inl (th,()),zs_ (by unfold setB; rfl),_,rfl⟩
  | n+1,i,th,hi,hv=>by
    obtain ⟨k,e,hc⟩:=aut_find h ok hv (pr:=pr) (py:=py)
    have hd:decide ((i:Int)<101)=true:=decide_eq_true (by omega)
    unfold stl
    rcases hc with ⟨rfl,hf⟩ | ⟨j,y,rfl,hy,hf⟩
    · rw [hf]
      refine ⟨.inr (false,(th,())),zs_ ?_,rfl,hv⟩
      unfold setB
      simp only [hd,cond_true]
      refine Eq.trans (congrArg (fun o=>Option.bind o _) e) rfl
    · rw [hf]
      have g1:=(ok.au j y hy).1
      have hi2:=(lh_ h ok g1).1
      have hl:=hv.1
      obtain ⟨z,ez,hz⟩:=xf_ h ok (pr:=pr) (py:=py) n (i+1) (th.set y.2.1.toNat y.2.2) (by omega) (VT_set h ok hv g1)
      refine ⟨z,whileO_step ?_ ez,hz⟩
      unfold setB
      simp only [hd,cond_true]
      refine Eq.trans (congrArg (fun o=>Option.bind o _) e) ?_
      simp only [Option.bind_some,show decide ((j:Int)<0)=false from decide_eq_false (by omega),cond_false,am_ hy,zr_ hi2.1 (show y.2.1<th.length by omega),cf_ (show Sm i by show _≤1000000000; omega)]
def stepR (r:ae_) (s:ar_) (m:bp_):Option ar_:=(stl r 101 (mvP r s m).1).map fun th=>(th,(mvP r s m).2)
abbrev eS:ar_:=([],([],[]))
theorem room_Step {r:ae_} (h:SmR r) (h0:en_ r=0) {s:ar_} (hv:VS r s) (m:bp_) :
    ma_ r s m=some (cond (lgl r s m) ((stepR r s m).elim (eS,(27,())) fun t=>(t,(0,()))) (eS,(29,()))):=by
  have ok:=fb_ h0
  obtain ⟨m1,m2,m3⟩:=wd_ h ok hv
  rw [rstX_eq]
  unfold rstX
  rw [gn_ h,Option.bind_some,iz_ h0 hv]
  simp only [show ((0:Int) != 0)=false from rfl,cond_false]
  rw [bj_ m1,Option.bind_some,bj_ m2,Option.bind_some,bj_ m3,Option.bind_some]
  refine Eq.trans (congrArg (fun o=>Option.bind o _) (table_legal h ok hv m)) ?_
  rw [Option.bind_some]
  cases hl:lgl r s m with
  | false=>rfl
  | true =>
  simp only [Bool.not_true,cond_false,cond_true]
  rw [mvX_eq h ok hv hl,Option.bind_some]
  simp only
  have hv2:=VS_mv h ok hv hl
  obtain ⟨z,ez,hz⟩:=xf_ h ok (pr:=(mvP r s m).2.1) (py:=(mvP r s m).2.2) 101 0 (mvP r s m).1 rfl ⟨hv2.l1,hv2.th⟩
  refine Eq.trans (congrArg (fun o=>Option.bind (Option.bind o _) _) ez) ?_
  unfold stepR
  cases hs:stl r 101 (mvP r s m).1 with
  | none =>
    rw [hs] at hz
    obtain ⟨w,rfl⟩:=hz
    rfl
  | some th' =>
    rw [hs] at hz
    obtain ⟨rfl,_⟩:=hz
    rfl
theorem stepR_VS {r:ae_} (h:SmR r) (h0:en_ r=0) {s t:ar_} (hv:VS r s) {m:bp_} (hl:lgl r s m=true) (ht:stepR r s m=some t):VS r t:=by
  have ok:=fb_ h0
  have hv2:=VS_mv h ok hv hl
  unfold stepR at ht
  obtain ⟨th,hs,rfl⟩:=Option.map_eq_some_iff.1 ht
  obtain ⟨z,ez,hz⟩:=xf_ h ok (pr:=(mvP r s m).2.1) (py:=(mvP r s m).2.2) 101 0 (mvP r s m).1 rfl ⟨hv2.l1,hv2.th⟩
  rw [hs] at hz
  exact ⟨hz.2.1,hv2.l2,hv2.l3,hz.2.2,hv2.pr,hv2.py⟩
end Go.Proofs.YtfcgcpjnpdkjmaaGreatDoor.Rx
end
section
set_option maxRecDepth 100000
namespace Go.Proofs.YtfcgcpjnpdkjmaaGreatDoor.Rx
open Go Go.Proofs.YtfcgcpjnpdkjmaaGreatDoor.Pad Go.Proofs.YtfcgcpjnpdkjmaaGreatDoor.Rex Go.Proofs
theorem room_Holds' {r:ae_} (h:SmR r) (h0:en_ r=0) {s:ar_} (hv:VS r s) {c:List az_} (hc:cOk r.2.1 c=true):fr_ r s c=some (fm_ s.1 c,(0,())):=by
  have ok:=fb_ h0
  obtain ⟨m1,m2,m3⟩:=wd_ h ok hv
  unfold fr_
  rw [gn_ h,Option.bind_some,iz_ h0 hv]
  simp only [show ((0:Int) != 0)=false from rfl,cond_false]
  rw [ju_ h.th,Option.bind_some,hc]
  obtain ⟨c1,c2⟩:=yw_ h.th hc
  have hl:=hv.l1
  simp only [Bool.not_true,cond_false]
  rw [bj_ m1,Option.bind_some,bj_ m2,Option.bind_some,bj_ m3,Option.bind_some,js_ (t:=(r,(s.1,(s.2.1,s.2.2)))) (show c.length≤1000000000 by omega) (by show InC s.1.length c; rw [hl]; exact c1)]
  rfl
def rdB (s:ar_) (n:di_) (b:Bool):Bool:=b||(fm_ s.1 n.2.2.2.1&&s.2.2.contains n.2.1)
def rdN (g:ai_) (s:ar_) (d:List Bool):List Bool:=List.zipWith (rdB s) g.2.2.2.1 d
theorem rdN_len {g:ai_} {s:ar_} {d:List Bool} (hd:d.length=g.2.2.2.1.length):(rdN g s d).length=g.2.2.2.1.length:=by
  unfold rdN
  rw [List.length_zipWith]
  omega
theorem rdN_get {g:ai_} {s:ar_} {d:List Bool} {i:Nat} {n:di_} {b:Bool} (hn:g.2.2.2.1[i]?=some n) (hb:d[i]?=some b):(rdN g s d)[i]?=some (rdB s n b):=by
  unfold rdN
  rw [List.getElem?_zipWith,hn,hb]
theorem pbg_exact {g:ai_} (hg:SmG g) (ok:OkG g) {s:ar_} (hv:VS g.1 s) {d:List Bool} (hd:d.length=g.2.2.2.1.length) (m:List ag_) :
    ∃ z,af_ (pbgB g s) (0,(d,(m,())))=some z∧z.1=rdN g s d:=by
  have h0:=ok.room
  have okr:=fb_ h0
  obtain ⟨m1,m2,m3⟩:=wd_ hg.room okr hv
  have hn:=hg.nt
  have hrl:=rdN_len (s:=s) hd
  refine hb_ (fun (i:Nat) (z:Int×(List Bool×(List ag_×Unit)))=>∃ d' m',z=((i:Int),(d',(m',())))∧∀ j,d'[j]?=if j<i then (rdN g s d)[j]? else d[j]?) _ g.2.2.2.1.length 0 _ ⟨d,m,rfl,fun j=>by simp⟩ (fun j z h1 h2 hz=>.inl ?_) (fun z hz => ?_)
  · obtain ⟨d',m',rfl,hd'⟩:=hz
    obtain ⟨x,hx⟩:=dn_ (l:=g.2.2.2.1) (i:=j) (by omega)
    obtain ⟨y,hy⟩:=dn_ (l:=d) (i:=j) (by omega)
    have hy':d'[j]?=some y:=by rw [hd' j,if_neg (by omega)]; exact hy
    have hr:=rdN_get (s:=s) hx hy
    have hH:=room_Holds' hg.room h0 hv (ok.nt j x hx).2
    have keep:rdB s x y=y→∀ k,d'[k]?=if k<j+1 then (rdN g s d)[k]? else d[k]?:=fun e k=>by
      rw [hd' k]
      by_cases hk:k=j
      · subst hk
        rw [if_neg (by omega),if_pos (by omega),hr,hy,e]
      · by_cases hk2:k<j
        · rw [if_pos hk2,if_pos (by omega)]
        · rw [if_neg hk2,if_neg (by omega)]
    have turn:rdB s x y=true→∀ k,(d'.set ((j:Int)).toNat true)[k]?=if k<j+1 then (rdN g s d)[k]? else d[k]?:=fun e k=>by
      rw [Int.toNat_natCast,List.getElem?_set]
      by_cases hk:j=k
      · subst hk
        rw [if_pos rfl,if_pos (ax_ hy'),if_pos (by omega),hr,e]
      · rw [if_neg hk,hd' k]
        by_cases hk2:k<j
        · rw [if_pos hk2,if_pos (by omega)]
        · rw [if_neg hk2,if_neg (by omega)]
    unfold pbgB
    simp only [dlt (ax_ hx),cond_true,am_ hx,am_ hy',Option.bind_some,hH,ne_ m3,cf_ (show Sm j by omega)]
    unfold rdB at keep turn
    cases hb:fm_ s.1 x.2.2.2.1 with
    | false=>exact ⟨_,rfl,_,_,rfl,keep (by rw [hb]; simp)⟩
    | true =>
    cases hc:s.2.2.contains x.2.1 with
    | false =>
      refine ⟨_,?_,d',m',rfl,keep (by rw [hc]; simp)⟩
      simp only [cond_true,cond_false,Option.bind_some]
    | true =>
    cases y with
    | true=>exact ⟨_,rfl,_,_,rfl,keep rfl⟩
    | false=>exact ⟨_,rfl,_,_,rfl,turn (by rw [hb,hc]; rfl)⟩
  · obtain ⟨d',m',rfl,hd'⟩:=hz
    rw [Nat.zero_add]
    unfold pbgB
    simp only [dnl,cond_false]
    refine ⟨_,rfl,List.ext_getElem? fun k => ?_⟩
    rw [hd' k]
    split
    · rfl
    · rw [List.getElem?_eq_none (by omega),List.getElem?_eq_none (by omega)]
def cluN (g:ai_) (d:List Bool) (lock:Int):List bn_:=(g.2.2.2.1.zip d).filterMap fun x=>cond (x.1.2.2.1==lock&&x.2) (some x.1.2.2.2.2) none
theorem cluN_mem {g:ai_} {d:List Bool} {lock:Int} {c:bn_} (h:c ∈ cluN g d lock):∃ (i:Nat) (n:di_),g.2.2.2.1[i]?=some n∧n.2.2.1=lock∧n.2.2.2.2=c:=by
  unfold cluN at h
  obtain ⟨x,hx,he⟩:=List.mem_filterMap.1 h
  obtain ⟨i,hi⟩:=List.getElem?_of_mem (List.of_mem_zip hx).1
  cases hq:(x.1.2.2.1==lock&&x.2) with
  | false=>rw [hq] at he; cases he
  | true =>
    rw [hq] at he
    rw [Bool.and_eq_true,beq_iff_eq] at hq
    exact ⟨i,x.1,hi,hq.1,Option.some.inj he⟩
theorem cluN_len {g:ai_} (hg:SmG g) (d:List Bool) (lock:Int):(cluN g d lock).length≤20:=by
  unfold cluN
  refine Nat.le_trans (List.length_filterMap_le ..) ?_
  rw [List.length_zip]
  have:=hg.nt
  omega
theorem nt_clue {g:ai_} (ok:OkG g) {i:Nat} {n:di_} (hn:g.2.2.2.1[i]?=some n) {l:ag_} (h0:0≤n.2.2.1) (hl:at? g.2.1 n.2.2.1=some l):fj_ (cvL l) (cvC n.2.2.2.2)=true:=by
  have h:=(ok.nt i n hn).1
  unfold ntOk at h
  simp only [Bool.and_eq_true] at h
  have h5:=h.2.2.2.2
  rw [decide_eq_false (by omega),hl] at h5
  simp only [cond_false] at h5
  cases hk:at? g.2.2.1 n.2.2.1 with
  | none=>rw [hk] at h5; cases h5
  | some k =>
    rw [hk] at h5
    have h5:clOk l n.2.2.2.2 k=true:=h5
    unfold clOk at h5
    rw [Bool.and_eq_true] at h5
    exact h5.1
theorem codes_Count' {l:ag_} (hl:Lk (cvL l)) {cl:List bn_} (hn:cl.length≤20) (hc:∀ c ∈ cl,fj_ (cvL l) (cvC c)=true):ez_ l cl=some (((rdg (cvL l) (cl.map cvC)).length:Int),(0,())):=by
  unfold ez_
  rw [rr_ hl (by rw [List.length_map]; exact hn) (fun c hm=>by
    obtain ⟨c',h1,rfl⟩:=List.mem_map.1 hm
    exact hc c' h1)]
  rfl
noncomputable def rdC (g:ai_) (d:List Bool) (lock:Int) (l:ag_):Int:=((rdg (cvL l) ((cluN g d lock).map cvC)).length:Int)
theorem count_clu {g:ai_} (hg:SmG g) (ok:OkG g) (d:List Bool) {lock:Int} (h0:0≤lock) {l:ag_} (hl:at? g.2.1 lock=some l):ez_ l (cluN g d lock)=some (rdC g d lock l,(0,())):=by
  obtain ⟨_,_,l1⟩:=fc_ hl
  refine codes_Count' (ok.lk _ l l1).1 (cluN_len hg d lock) fun c hc => ?_
  obtain ⟨i,n,hn,rfl,rfl⟩:=cluN_mem hc
  exact nt_clue ok hn h0 hl
noncomputable def opn (g:ai_) (d:List Bool) (lock:Int):Bool:=cond (decide (lock<0)) true ((at? g.2.1 lock).elim false fun l=>decide (rdC g d lock l≤g.2.2.2.2))
noncomputable def abB (a0:ai_) (v1:List Bool) (lock:Int):(List Int×(List bn_×(Int×Unit)))→Option ((List Int×(List bn_×(Int×Unit)))⊕(List Int×(List bn_×Unit))) :=
 (fun (v4:((List Int)×((List bn_)×(Int×Unit)))) =>
 (cond (decide (v4.2.2.1<(a0.2.2.2.1.length:Int)))
 ((((at? a0.2.2.2.1 v4.2.2.1).bind fun v5 =>
 (((cond (v5.2.2.1==lock)
 ((at? v1 v4.2.2.1).bind fun v6 =>
 ((at? v1 v4.2.2.1).bind fun v7 =>
 (some (v7,()))))
 (some (false,())))).bind fun v8 =>
 (cond v8.1
 ((push? (α:=Int) v4.1 [v4.2.2.1]).bind fun v9 =>
 ((push? (α:=bn_) v4.2.1 [v5.2.2.2.2]).bind fun v10 =>
 (some (v9,(v10,())))))
 (some (v4.1,(v4.2.1,()))))))).bind fun v11 =>
 (some (Sum.inl (v11.1,(v11.2.1,((w64 (v4.2.2.1+1)),()))))))
 (some (Sum.inr (v4.1,(v4.2.1,()))))))
theorem ab_loop {g:ai_} (hg:SmG g) {d:List Bool} (hd:d.length=g.2.2.2.1.length) (lock:Int):∃ q,af_ (abB g d lock) ([],([],(0,())))=some (q,(cluN g d lock,())):=by
  have hn:=hg.nt
  suffices hk:∃ r,af_ (abB g d lock) ([],([],(0,())))=some r∧∃ q,r=(q,(cluN g d lock,())) by
    obtain ⟨z,ez,q,rfl⟩:=hk
    exact ⟨q,ez⟩
  refine hb_ (fun (i:Nat) (z:List Int×(List bn_×(Int×Unit)))=>∃ q,z=(q,(((g.2.2.2.1.zip d).take i).filterMap (fun x=>cond (x.1.2.2.1==lock&&x.2) (some x.1.2.2.2.2) none),((i:Int),())))∧q.length≤i) (fun w=>∃ q,w=(q,(cluN g d lock,()))) g.2.2.2.1.length 0 ([],([],(0,()))) ⟨[],rfl,Nat.le_refl _⟩ (fun j z h1 h2 hz=>.inl ?_) (fun z hz => ?_)
  · obtain ⟨q,rfl,hq⟩:=hz
    obtain ⟨x,hx⟩:=dn_ (l:=g.2.2.2.1) (i:=j) (by omega)
    obtain ⟨y,hy⟩:=dn_ (l:=d) (i:=j) (by omega)
    have hzip:(g.2.2.2.1.zip d)[j]?=some (x,y):=by rw [List.getElem?_zip_eq_some]; exact ⟨hx,hy⟩
    have hlen:(((g.2.2.2.1.zip d).take j).filterMap (fun x=>cond (x.1.2.2.1==lock&&x.2) (some x.1.2.2.2.2) none)).length≤j:=by
      refine Nat.le_trans (List.length_filterMap_le ..) ?_
      rw [List.length_take]; omega
    have hstep:((g.2.2.2.1.zip d).take (j+1)).filterMap (fun x=>cond (x.1.2.2.1==lock&&x.2) (some x.1.2.2.2.2) none)=((g.2.2.2.1.zip d).take j).filterMap (fun x=>cond (x.1.2.2.1==lock&&x.2) (some x.1.2.2.2.2) none)++cond (x.2.2.1==lock&&y) [x.2.2.2.2] []:=by
      rw [List.take_add_one,hzip,List.filterMap_append]
      cases hc:(x.2.2.1==lock&&y) with
      | false=>simp [hc]
      | true=>simp [hc]
    unfold abB
    simp only [dlt (ax_ hx),cond_true,am_ hx,am_ hy,Option.bind_some,cf_ (show Sm j by omega)]
    cases h1:x.2.2.1==lock with
    | false =>
      refine ⟨_,rfl,q,?_,by omega⟩
      rw [hstep,h1,Bool.false_and,cond_false,List.append_nil]
    | true =>
    cases y with
    | false =>
      refine ⟨_,rfl,q,?_,by omega⟩
      rw [hstep,Bool.and_false,cond_false,List.append_nil]
    | true =>
      simp only [cond_true,Option.bind_some,hd_ (show Sm q.length by show _≤1000000000; omega),hd_ (show Sm _ from Nat.le_trans hlen (by omega))]
      refine ⟨_,rfl,q++[(j:Int)],?_,by rw [List.length_append,List.length_singleton]; omega⟩
      rw [hstep,h1,Bool.and_true,cond_true]
  · obtain ⟨q,rfl,hq⟩:=hz
    rw [Nat.zero_add]
    unfold abB
    simp only [dnl,cond_false]
    refine ⟨_,rfl,q,?_⟩
    unfold cluN
    rw [List.take_of_length_le (by rw [List.length_zip]; omega)]
end Go.Proofs.YtfcgcpjnpdkjmaaGreatDoor.Rx
end
section
set_option maxRecDepth 100000
namespace Go.Proofs.YtfcgcpjnpdkjmaaGreatDoor.Rx
open Go Go.Proofs.YtfcgcpjnpdkjmaaGreatDoor.Pad Go.Proofs.YtfcgcpjnpdkjmaaGreatDoor.Rex Go.Proofs
noncomputable def opX (a0:ai_) (v1:List Bool) (a2:bp_):Option (Bool×(List ag_×Unit)) :=
 (cond (a2.2.1==4)
 ((ed_ a2.2.2 0 (w64 ((a0.1.2.2.2.2.1.length:Int) - 1))).bind fun v2 =>
 (cond v2.1
 ((at? a0.1.2.2.2.2.1 a2.2.2).bind fun v3 =>
 (cond (decide (v3.2.2.1<0))
 (some ((!true),([],())))
 ((((af_ (abB a0 v1 v3.2.2.1) ([],([],(0,())))).bind fun v12 =>
 ((at? a0.2.1 v3.2.2.1).bind fun v13 =>
 ((ez_ v13 v12.2.1).bind fun v14 =>
 (((cond (v14.2.1==0)
 (some ((decide (v14.1≤a0.2.2.2.2)),()))
 (some (false,())))).bind fun v15 =>
 (cond v15.1
 (some ((mset (mset [] v3.2.2.1 2) v3.2.2.1 1),()))
 (some ((mset [] v3.2.2.1 2),())))))))).bind fun v16 =>
 (some ((!((mlook 0 v16.1 v3.2.2.1)==1)),(v16.1,()))))))
 (some (false,([],())))))
 (some (false,([],()))))
noncomputable def pstX (a0:ai_) (a1:bk_) (a2:bp_):Option (bk_×(Int×Unit)) :=
 ((iy_ a0 a1).bind fun v0 =>
 (cond (v0.1 != 0)
 (cond (v0.1 != 0)
 (some ((([],([],[])),[]),(v0.1,())))
 none)
 ((push? (α:=Bool) [] a1.2).bind fun v1 =>
 ((((opX a0 v1 a2).bind fun v17 =>
 (cond v17.1
 (some ((!false),(v1,(v17.2.1,((a1.1.1,(a1.1.2.1,(a1.1.2.2,()))),())))))
 ((ma_ a0.1 a1.1 a2).bind fun v18 =>
 (cond (v18.2.1 != 0)
 (some ((!false),(v1,(v17.2.1,((a1.1.1,(a1.1.2.1,(a1.1.2.2,()))),())))))
 ((af_ (ρ:=((List Bool)×((List ag_)×Unit))) (pbgB a0 v18.1) (0,(v1,(v17.2.1,())))).bind fun v29 =>
 (some ((!true),(v29.1,(v29.2.1,((v18.1.1,(v18.1.2.1,(v18.1.2.2,()))),()))))))))))).bind fun v30 =>
 (cond v30.1
 (some ((([],([],[])),[]),(29,())))
 ((push? (α:=Int) [] v30.2.2.2.1.1).bind fun v31 =>
 ((push? (α:=Int) [] v30.2.2.2.1.2.1).bind fun v32 =>
 ((push? (α:=Int) [] v30.2.2.2.1.2.2.1).bind fun v33 =>
 ((push? (α:=Bool) [] v30.2.1).bind fun v34 =>
 (some (((v31,(v32,v33)),v34),(0,()))))))))))))
theorem pstX_eq:kb_=pstX:=by kernel_rfl
noncomputable def okM (g:ai_) (d:List Bool) (m:bp_):Bool:=cond (m.2.1==4) ((at? g.1.2.2.2.2.1 m.2.2).elim true fun a=>opn g d a.2.2.1) true
noncomputable def stepP (g:ai_) (p:bk_) (m:bp_):Option bk_ :=
  cond (okM g p.2 m&&lgl g.1 p.1 m) ((stepR g.1 p.1 m).map fun s=>(s,rdN g s p.2)) none
abbrev eP:bk_:=(eS,[])
theorem zz_ {g:ai_} (hg:SmG g) (p:bk_):iy_ g p=some (cond (nc_ g != 0) (nc_ g) (cond (nm_ g.1 p.1 != 0) (nm_ g.1 p.1) (cond ((p.2.length:Int) != (g.2.2.2.1.length:Int)) 28 0)),()):=by
  unfold iy_
  rw [play_Check hg,Option.bind_some]
  cases nc_ g != 0 with
  | true=>rfl
  | false =>
  simp only [cond_false]
  rw [gn_ hg.room,Option.bind_some]
  cases nm_ g.1 p.1 != 0 with
  | true=>rfl
  | false =>
  simp only [cond_false]
  cases (p.2.length:Int) != (g.2.2.2.1.length:Int) <;> rfl
structure VP (g:ai_) (p:bk_):Prop where
  st:VS g.1 p.1
  rd:p.2.length=g.2.2.2.1.length
theorem play_check0 {g:ai_} (hg:SmG g) (h0:nc_ g=0) {p:bk_} (hv:VP g p):iy_ g p=some (0,()):=by
  rw [zz_ hg,h0,iz_ (tp_ h0).room hv.st,hv.rd,show ((g.2.2.2.1.length:Int) != (g.2.2.2.1.length:Int))=false by simp]
  rfl
theorem opX_eq {g:ai_} (hg:SmG g) (ok:OkG g) {d:List Bool} (hd:d.length=g.2.2.2.1.length) (m:bp_):∃ x,opX g d m=some (!(okM g d m),(x,())):=by
  have hac:=hg.ac
  unfold opX okM
  cases hk:m.2.1==4 with
  | false=>exact ⟨[],rfl⟩
  | true =>
  simp only [cond_true,oh_,Option.bind_some]
  rcases gc_ (l:=g.1.2.2.2.2.1) (by show _≤1000000000; omega) m.2.2 with ⟨f1,f2⟩ | ⟨j,a,hj,ha,f1,f2⟩
  · rw [f1,f2]; exact ⟨[],rfl⟩
  · rw [f1,f2]
    simp only [cond_true,Option.bind_some,Option.elim]
    unfold opn
    cases hz:decide (a.2.2.1<0) with
    | true=>exact ⟨[],rfl⟩
    | false =>
    have hz:=of_decide_eq_false hz
    have hlt:=ok.ac j a ha
    obtain ⟨l,hl⟩:=dn_ (l:=g.2.1) (i:=a.2.2.1.toNat) (by omega)
    have hl2:at? g.2.1 a.2.2.1=some l:=by rw [show a.2.2.1=((a.2.2.1.toNat:Nat):Int) by omega]; exact am_ hl
    obtain ⟨q,e⟩:=ab_loop hg hd a.2.2.1
    rw [e]
    simp only [cond_false,Option.bind_some,hl2,count_clu hg ok d (by omega) hl2,Option.elim]
    simp only [show ((0:Int)==0)=true from rfl,cond_true,Option.bind_some]
    cases decide (rdC g d a.2.2.1 l≤g.2.2.2.2) with
    | true=>exact ⟨_,by simp [mset,mlook,mget?]; rfl⟩
    | false=>exact ⟨_,by simp [mset,mlook,mget?]; rfl⟩
theorem play_Step {g:ai_} (hg:SmG g) (h0:nc_ g=0) {p:bk_} (hv:VP g p) (m:bp_) :
    kb_ g p m=some ((stepP g p m).elim (eP,(29,())) fun q=>(q,(0,()))):=by
  have ok:=tp_ h0
  have hn:=hg.nt
  have hrd:=hv.rd
  rw [pstX_eq]
  unfold pstX
  rw [play_check0 hg h0 hv,Option.bind_some]
  simp only [show ((0:Int) != 0)=false from rfl,cond_false]
  rw [bj_ (show Sm p.2.length by show _≤1000000000; omega),Option.bind_some]
  obtain ⟨x,ex⟩:=opX_eq hg ok hv.rd m
  rw [ex,Option.bind_some]
  unfold stepP
  cases okM g p.2 m with
  | false=>rfl
  | true =>
  simp only [Bool.not_true,cond_false,Bool.true_and]
  rw [room_Step hg.room ok.room hv.st m,Option.bind_some]
  cases hl:lgl g.1 p.1 m with
  | false=>rfl
  | true =>
  simp only [cond_true]
  cases hs:stepR g.1 p.1 m with
  | none=>rfl
  | some s =>
  have hv2:=stepR_VS hg.room ok.room hv.st hl hs
  obtain ⟨m1,m2,m3⟩:=wd_ hg.room (fb_ ok.room) hv2
  have hrl:=rdN_len (s:=s) hv.rd
  obtain ⟨z,ez,hz⟩:=pbg_exact hg ok hv2 hv.rd x
  simp only [Option.elim,show ((0:Int) != 0)=false from rfl,cond_false]
  rw [ez,Option.bind_some,Option.bind_some]
  simp only [Bool.not_true,cond_false]
  rw [bj_ m1,Option.bind_some,bj_ m2,Option.bind_some,bj_ m3,Option.bind_some,hz,bj_ (show Sm (rdN g s p.2).length by show _≤1000000000; omega),Option.bind_some]
  rfl
theorem stepP_VP {g:ai_} (hg:SmG g) (h0:nc_ g=0) {p q:bk_} (hv:VP g p) {m:bp_} (h:stepP g p m=some q):VP g q:=by
  have ok:=tp_ h0
  unfold stepP at h
  cases hc:(okM g p.2 m&&lgl g.1 p.1 m) with
  | false=>rw [hc] at h; cases h
  | true =>
  rw [hc,cond_true] at h
  obtain ⟨s,hs,rfl⟩:=Option.map_eq_some_iff.1 h
  rw [Bool.and_eq_true] at hc
  exact ⟨stepR_VS hg.room ok.room hv.st hc.2 hs,rdN_len hv.rd⟩
theorem StepOk_of {g:ai_} (hg:SmG g):StepOk g:=by
  intro b m hv hb
  by_cases h0:nc_ g=0
  · rw [play_Step hg h0 ⟨hv,hb⟩]
    cases hs:stepP g b m with
    | none=>exact ⟨_,_,rfl,fun h=>absurd (show (29:Int)=0 from h) (by decide)⟩
    | some q =>
      have:=stepP_VP hg h0 ⟨hv,hb⟩ hs
      exact ⟨_,_,rfl,fun _=>⟨this.st,this.rd⟩⟩
  · have hb:(nc_ g != 0)=true:=bne_iff_ne.2 h0
    rw [pstX_eq]
    unfold pstX
    rw [zz_ hg,hb,Option.bind_some]
    simp only [cond_true,hb]
    exact ⟨_,_,rfl,fun h=>absurd h h0⟩
end Go.Proofs.YtfcgcpjnpdkjmaaGreatDoor.Rx
end
section
set_option maxRecDepth 10000
namespace Go.Proofs.YtfcgcpjnpdkjmaaGreatDoor.Rx
open Go Go.Proofs.YtfcgcpjnpdkjmaaGreatDoor.Pad Go.Proofs.YtfcgcpjnpdkjmaaGreatDoor.Rex
theorem room_Done {r:ae_} (h:SmR r) (h0:en_ r=0) {s:ar_} (hv:VS r s):ka_ r s=some (fm_ s.1 r.2.2.2.2.2.2.2,(0,())):=by
  have ok:=fb_ h0
  obtain ⟨m1,m2,m3⟩:=wd_ h ok hv
  unfold ka_
  rw [gn_ h,Option.bind_some,iz_ h0 hv]
  simp only [show ((0:Int) != 0)=false from rfl,cond_false]
  obtain ⟨c1,c2⟩:=yw_ h.th ok.go
  have hl:=hv.l1
  rw [bj_ m1,bj_ m2,bj_ m3]
  simp only [Option.bind_some]
  rw [js_ (t:=(r,(s.1,(s.2.1,s.2.2)))) (show r.2.2.2.2.2.2.2.length≤1000000000 by omega) (by show InC s.1.length r.2.2.2.2.2.2.2; rw [hl]; exact c1)]
  rfl
theorem DoneOk_of:DoneOk:=fun r s h h0 hv=>⟨_,_,room_Done h h0 hv⟩
theorem TopDoors_law (g:ai_) (l:List fg_) (dark:Int):kh_ g l dark=some (true,()) :=
  TopDoors_of top_counts fun hg hl=>record_Record hg (CkP_of hg) DoneOk_of (StepOk_of hg) hl
end Go.Proofs.YtfcgcpjnpdkjmaaGreatDoor.Rx
end
