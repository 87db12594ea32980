/- A part of the proof: what the functions of the program compute, shown over the model. -/
import Derived.KernelRfl
import Derived.Test.YtfcgcpjnpdkjmaaGreatDoorPart5
set_option linter.unusedSectionVars false
set_option linter.unusedVariables false
set_option linter.unusedSimpArgs false
namespace Go.Proofs.YtfcgcpjnpdkjmaaGreatDoor.Rx
open Go Pad Rex
section
set_option maxRecDepth 10000
def nv (es:List (List ai_)) (a:List Int) (r:Nat) (i:Nat) (v:Int):Int:=cond (decide (v<0)&&(es[i]?.getD []).any (fun x=>gi a x.2==(r:Int) - 1)) (r:Int) v
structure RnI (es:List (List ai_)) (fin:Nat→Bool) (r:Nat) (a:List Int):Prop where
  b:∀ (i:Nat) (v:Int),a[i]?=some v→v = -1∨(0≤v∧v+1≤(r:Int))
  z:∀ (i:Nat) (v:Int),a[i]?=some v→(v=0↔fin i=true)
  dn:∀ (i k:Nat),a[i]?=some ((k+1:Nat):Int)→∃ l x,es[i]?=some l∧x ∈ l∧at? a x.2=some (k:Int)
  up:∀ (i:Nat) (l:List ai_) (x:ai_) (k:Nat),es[i]?=some l→x ∈ l→at? a x.2=some (k:Int)→k+2≤r→∃ v,a[i]?=some v∧0≤v∧v≤(k:Int)+1
theorem nv_keep {es:List (List ai_)} {a:List Int} {r i:Nat} {v:Int} (h:0≤v):nv es a r i v=v:=by
  unfold nv
  rw [decide_eq_false (by omega)]
  rfl
theorem mt_ (es:List (List ai_)) (a:List Int) (r i:Nat) (v:Int):nv es a r i v=v∨(nv es a r i v=(r:Int)∧v<0∧∃ l x,es[i]?=some l∧x ∈ l∧gi a x.2=(r:Int) - 1):=by
  unfold nv
  cases hc:(decide (v<0)&&(es[i]?.getD []).any (fun x=>gi a x.2==(r:Int) - 1)) with
  | false=>exact .inl rfl
  | true =>
    rw [Bool.and_eq_true,decide_eq_true_iff,List.any_eq_true] at hc
    obtain ⟨h1,x,hx,hg⟩:=hc
    cases he:es[i]? with
    | none =>
      rw [he] at hx
      cases hx
    | some l =>
      rw [he] at hx
      exact .inr ⟨rfl,h1,l,x,rfl,hx,beq_iff_eq.1 hg⟩
theorem at_map {a b:List Int} {f:Nat→Int→Int} (h:∀ j:Nat,b[j]?=(a[j]?).map (f j)) {x v:Int} (hx:at? a x=some v):at? b x=some (f x.toNat v):=by
  obtain ⟨q1,q2,q3⟩:=dd_ hx
  rw [show x=((x.toNat:Nat):Int) by omega,at_nat,h,Int.toNat_natCast,q3]
  rfl
theorem RnI_next {es:List (List ai_)} {fin:Nat→Bool} {r:Nat} {a b:List Int} (hr:1≤r) (hes:es.length=a.length) (hx:∀ l ∈ es,∀ x ∈ l,0≤x.2∧x.2<(a.length:Int)) (h:RnI es fin r a) (hb:∀ j:Nat,b[j]?=(a[j]?).map (nv es a r j)):RnI es fin (r+1) b:=by
  have back:∀ {i:Nat} {w:Int},b[i]?=some w→∃ v,a[i]?=some v∧w=nv es a r i v:=fun {i w} hw=>by
    rw [hb] at hw
    obtain ⟨v,hv,rfl⟩:=Option.map_eq_some_iff.1 hw
    exact ⟨v,hv,rfl⟩
  refine ⟨fun i w hw => ?_,fun i w hw => ?_,fun i k hk => ?_,fun i l x k hl hxl hat hkr => ?_⟩
  · obtain ⟨v,hv,rfl⟩:=back hw
    have:=h.b i v hv
    rcases mt_ es a r i v with e | ⟨e,_⟩
    · rw [e]; omega
    · rw [e]; omega
  · obtain ⟨v,hv,rfl⟩:=back hw
    have hz:=h.z i v hv
    rcases mt_ es a r i v with e | ⟨e,hneg,_⟩
    · rw [e]; exact hz
    · rw [e,← hz]
      constructor
      · intro h; omega
      · intro h; omega
  · obtain ⟨v,hv,e0⟩:=back hk
    rcases mt_ es a r i v with e | ⟨e,hneg,l,x,hl,hxl,hg⟩
    · rw [e] at e0
      obtain ⟨l,x,hl,hxl,hat⟩:=h.dn i k (by rw [hv,← e0])
      exact ⟨l,x,hl,hxl,by rw [at_map hb hat,nv_keep (by omega)]⟩
    · rw [e] at e0
      have hb2:=hx l (aw_ hl) x hxl
      have hat:=op_ (l:=a) hb2.1 hb2.2
      refine ⟨l,x,hl,hxl,?_⟩
      rw [at_map hb hat,nv_keep (by omega),hg]
      congr 1
      omega
  · have hb2:=hx l (aw_ hl) x hxl
    have hata:=op_ (l:=a) hb2.1 hb2.2
    have hatb:=at_map hb hata
    rw [hat] at hatb
    have hk:=Option.some.inj hatb
    obtain ⟨q1,q2,q3⟩:=dd_ hata
    have hbnd:=h.b _ _ q3
    have hgk:gi a x.2=(k:Int):=by
      rcases mt_ es a r x.2.toNat (gi a x.2) with e | ⟨e,_⟩
      · rw [← e,← hk]
      · rw [e] at hk; omega
    obtain ⟨v,hv⟩:=az_ (l:=a) (i:=i) (by have:=an_ hl; omega)
    have hvb:b[i]?=some (nv es a r i v):=by rw [hb,hv]; rfl
    by_cases hv0:0≤v
    · by_cases hkr2:k+2≤r
      · obtain ⟨v',e,r1,r2⟩:=h.up i l x k hl hxl (by rw [hata,hgk]) hkr2
        rw [hv] at e
        obtain rfl:=Option.some.inj e
        exact ⟨v,by rw [hvb,nv_keep hv0],r1,r2⟩
      · have:=h.b i v hv
        exact ⟨v,by rw [hvb,nv_keep hv0],hv0,by omega⟩
    · by_cases hkr2:k+2≤r
      · obtain ⟨v',e,r1,r2⟩:=h.up i l x k hl hxl (by rw [hata,hgk]) hkr2
        rw [hv] at e
        obtain rfl:=Option.some.inj e
        exact absurd r1 hv0
      · have:nv es a r i v=(r:Int):=by
          unfold nv
          rw [decide_eq_true (by omega),hl,Bool.true_and]
          rw [show ((some l).getD [])=l from rfl,List.any_eq_true.2 ⟨x,hxl,by rw [beq_iff_eq,hgk]; omega⟩]
          rfl
        exact ⟨_,hvb,by rw [this]; omega,by rw [this]; omega⟩
theorem RnI_end {es:List (List ai_)} {fin:Nat→Bool} {r:Nat} {a:List Int} (hx:∀ l ∈ es,∀ x ∈ l,0≤x.2∧x.2<(a.length:Int)) (hes:es.length=a.length) (h:RnI es fin r a) (hs:∀ (i:Nat) (v:Int),a[i]?=some v→nv es a r i v=v):LC es fin a:=by
  refine ⟨fun i v hv=>by have:=h.b i v hv; omega,h.z,h.dn,fun i l x k hl hxl hat => ?_⟩
  obtain ⟨v,hv⟩:=az_ (l:=a) (i:=i) (by have:=an_ hl; omega)
  by_cases hkr2:k+2≤r
  · exact h.up i l x k hl hxl hat hkr2
  · obtain ⟨q1,q2,q3⟩:=dd_ hat
    have hb1:=h.b _ _ q3
    have hb2:=h.b _ _ hv
    have hn:=hs i v hv
    by_cases hv0:0≤v
    · exact ⟨v,hv,hv0,by omega⟩
    · exfalso
      unfold nv at hn
      rw [decide_eq_true (by omega),hl,Bool.true_and] at hn
      rw [show ((some l).getD [])=l from rfl,List.any_eq_true.2 ⟨x,hxl,by rw [beq_iff_eq,mw_ hat]; omega⟩] at hn
      have:(r:Int)=v:=hn
      omega
theorem RnI_first {g:ac_} {ps:List aa_} (es:List (List ai_)):RnI es (yw_ g ps) 1 (wr_ g ps):=by
  refine ⟨fun i v hv => ?_,fun i v hv => ?_,fun i k hk => ?_,fun i l x k _ _ _ hk=>by omega⟩
  · rcases qi_ hv with ⟨rfl,_⟩ | ⟨rfl,_⟩
    · exact .inr ⟨by omega,by omega⟩
    · exact .inl rfl
  · rcases qi_ hv with ⟨rfl,h⟩ | ⟨rfl,h⟩
    · exact ⟨fun _=>h,fun _=>rfl⟩
    · rw [h]
      exact ⟨fun e=>by omega,fun e=>by cases e⟩
  · rcases qi_ hk with ⟨e,_⟩ | ⟨e,_⟩ <;> omega
theorem bind_edge {l:List ai_} (q:ai_→Bool) {b:List Int} {i:Nat} {v r:Int} (hv:b[i]?=some v) (hr:0≤r) {υ:Type} {body:(Bool×(Int×(List Int×Unit)))→Option ((Bool×(Int×(List Int×Unit)))⊕(Bool×(List Int×Unit)))} {c:Bool} {K:(Bool×(List Int×Unit))→Option υ} {x:Option υ} (hl:Sm l.length)
    (hA:∀ (k:Nat) c b' y,b'[i]?=some y→0≤y→body (c,((k:Int),(b',())))=some (.inr (c,(b',()))))
    (hB:∀ c b',body (c,((l.length:Int),(b',())))=some (.inr (c,(b',()))))
    (hC:∀ (k:Nat) e,l[k]?=some e→v<0→body (c,((k:Int),(b,())))=some (.inl (cond (q e) (true,(w64 ((k:Int)+1),(b.set i r,()))) (c,(w64 ((k:Int)+1),(b,()))))))
    (hk:K (cond (decide (v<0)&&l.any q) (true,(b.set i r,())) (c,(b,())))=x):(ae_ body (c,(0,(b,())))).bind K=x:=by
  by_cases hv0:0≤v
  · rw [decide_eq_false (by omega)] at hk
    have e0:ae_ body (c,(0,(b,())))=some (c,(b,())):=bw_ (hA 0 c b v hv hv0)
    rw [e0,Option.bind_some]
    exact hk
  · rw [decide_eq_true (by omega),Bool.true_and] at hk
    have gen:∀ (m k:Nat),k+m=l.length→ae_ body (c,((k:Int),(b,())))=some (cond ((l.drop k).any q) (true,(b.set i r,())) (c,(b,()))):=by
      intro m
      induction m with
      | zero =>
        intro k hk
        obtain rfl:k=l.length:=by omega
        rw [List.drop_length]
        exact bw_ (hB c b)
      | succ m ih =>
        intro k hk
        have hkl:k<l.length:=by omega
        obtain ⟨e,he⟩:=az_ hkl
        have hd:l.drop k=e::l.drop (k+1):=by
          rw [List.drop_eq_getElem_cons hkl]
          rw [List.getElem?_eq_getElem hkl] at he
          rw [Option.some.inj he]
        have h1:=hC k e he (by omega)
        rw [ay_ (show Sm k by unfold Sm at hl ⊢; omega)] at h1
        rw [hd,List.any_cons]
        cases hq:q e with
        | true =>
          rw [hq] at h1
          refine bo_ h1 (bw_ (hA (k+1) true (b.set i r) r ?_ hr))
          rw [List.getElem?_set_self (an_ hv)]
        | false =>
          rw [hq] at h1
          exact bo_ h1 (ih (k+1) (by omega))
    have:=gen l.length 0 (by omega)
    rw [List.drop_zero] at this
    have e0:ae_ body (c,(0,(b,())))=some (cond (l.any q) (true,(b.set i r,())) (c,(b,()))):=this
    rw [e0,Option.bind_some]
    exact hk
theorem does_no {x:ai_} (h:x.1.2.1=4→x.1.2.2≠-1):lc_ x (-1)=some (false,()):=by
  unfold lc_
  cases hc:x.1.2.1==4 with
  | false=>rfl
  | true =>
    have:(x.1.2.2==-1)=false:=by rw [beq_eq_false_iff_ne]; exact h (beq_iff_eq.1 hc)
    rw [this]
    rfl
theorem su_ {σ ρ υ:Type} (n:Nat) (Inv:Nat→σ→Prop) {body:σ→Option (σ⊕ρ)} {z0:σ} {K:ρ→Option υ} {Q:υ→Prop} (h0:Inv 0 z0)
    (hs:∀ j z,j<n→Inv j z→∃ z',body z=some (.inl z')∧Inv (j+1) z') (he:∀ z,Inv n z→∃ r,body z=some (.inr r)∧∃ y,K r=some y∧Q y):∃ y,(ae_ body z0).bind K=some y∧Q y:=by
  have gen:∀ (k i:Nat) (z:σ),i+k=n→Inv i z→∃ r,ae_ body z=some r∧∃ y,K r=some y∧Q y:=by
    intro k
    induction k with
    | zero =>
      intro i z hi hz
      obtain rfl:i=n:=by omega
      obtain ⟨r,e,hr⟩:=he z hz
      exact ⟨r,bw_ e,hr⟩
    | succ k ih =>
      intro i z hi hz
      obtain ⟨z',e,hz'⟩:=hs i z (by omega) hz
      obtain ⟨r,er,hr⟩:=ih (i+1) z' (by omega) hz'
      exact ⟨r,bo_ e er,hr⟩
  obtain ⟨r,e,hr⟩:=gen n 0 z0 (by omega) h0
  rw [e,Option.bind_some]
  exact hr
theorem negs_lt:∀ {a b:List Int},a.length=b.length→(∀ (j:Nat) (v w:Int),a[j]?=some v→b[j]?=some w→w<0→v<0)→(mu_ b≤mu_ a∧((∃ (j:Nat) (v w:Int),a[j]?=some v∧b[j]?=some w∧v<0∧0≤w)→mu_ b<mu_ a))
  | [],[],_,_=>⟨Nat.le_refl _,fun ⟨j,v,w,h,_⟩=>by simp at h⟩
  | [],_::_,h,_=>by cases h
  | _::_,[],h,_=>by cases h
  | x::a,y::b,h,hm=>by
    obtain ⟨h1,h2⟩:=negs_lt (a:=a) (b:=b) (by simpa using h) fun j v w hv hw=>hm (j+1) v w hv hw
    have h3:=hm 0 x y rfl rfl
    have ea:mu_ (x::a)=mu_ a+(if x<0 then 1 else 0):=by unfold mu_; rw [List.countP_cons]; simp
    have eb:mu_ (y::b)=mu_ b+(if y<0 then 1 else 0):=by unfold mu_; rw [List.countP_cons]; simp
    rw [ea,eb]
    refine ⟨by split <;> split <;> omega,fun ⟨j,v,w,hv,hw,hv0,hw0⟩ => ?_⟩
    match j with
    | 0 =>
      obtain rfl:x=v:=Option.some.inj hv
      obtain rfl:y=w:=Option.some.inj hw
      rw [if_pos hv0,if_neg (by omega)]
      omega
    | j+1 =>
      have:=h2 ⟨j,v,w,hv,hw,hv0,hw0⟩
      split <;> split <;> omega
theorem bind_rounds {es:List (List ai_)} {fin:Nat→Bool} {n:Nat} (hn:n≤3000) (hes:es.length=n) (hx:∀ l ∈ es,∀ x ∈ l,0≤x.2∧x.2<(n:Int)) {υ:Type} {body:(Int×(Bool×(List Int×Unit)))→Option ((Int×(Bool×(List Int×Unit)))⊕(List Int×Unit))} {K:(List Int×Unit)→Option υ} {Q:υ→Prop} {a0:List Int}
    (h0:RnI es fin 1 a0) (hl0:a0.length=n)
    (hend:∀ (r:Int) a,body (r,(false,(a,())))=some (.inr (a,())))
    (hstep:∀ (r:Nat) a,1≤r→r≤n+1→a.length=n→RnI es fin r a→∃ y,body ((r:Int),(true,(a,())))=some y∧∃ ch b,y = .inl (((r+1:Nat):Int),(ch,(b,())))∧b.length=n∧(∀ j:Nat,b[j]?=(a[j]?).map (nv es a r j))∧(ch=true↔∃ (j:Nat) (v:Int),a[j]?=some v∧nv es a r j v≠v))
    (hK:∀ D:List Int,D.length=n→LC es fin D→∃ y,K (D,())=some y∧Q y):∃ y,(ae_ body (1,(true,(a0,())))).bind K=some y∧Q y:=by
  have gen:∀ (m:Nat) (r:Nat) (a:List Int),mu_ a=m→1≤r→r+m≤n+1→a.length=n→RnI es fin r a→∃ D,ae_ body ((r:Int),(true,(a,())))=some (D,())∧D.length=n∧LC es fin D:=by
    intro m
    induction m using Nat.strongRecOn with
    | _ m ih =>
      intro r a hm hr hrm hl hR
      obtain ⟨y,ey,ch,b,rfl,hb,hbj,hch⟩:=hstep r a hr (by omega) hl hR
      have hR2:=RnI_next hr (by omega) (by rw [hl]; exact hx) hR hbj
      cases ch with
      | false =>
        refine ⟨b,bo_ ey (bw_ (hend _ b)),hb,?_⟩
        have hs:∀ (i:Nat) (v:Int),a[i]?=some v→nv es a r i v=v:=fun i v hv=>Classical.byContradiction fun hne=>by
          have:=hch.2 ⟨i,v,hv,hne⟩
          cases this
        have hab:a=b:=List.ext_getElem? fun i=>by
          rw [hbj]
          cases hv:a[i]? with
          | none=>rfl
          | some v=>rw [Option.map_some,hs i v hv]
        rw [← hab]
        exact RnI_end (by rw [hl]; exact hx) (by omega) hR hs
      | true =>
        obtain ⟨j,v,hv,hne⟩:=hch.1 rfl
        have hlt:mu_ b<mu_ a:=by
          refine (negs_lt (a:=a) (b:=b) (by omega) fun j v w hv hw hw0 => ?_).2 ?_
          · rw [hbj,hv] at hw
            have hw:=Option.some.inj hw
            rcases mt_ es a r j v with e | ⟨e,h1,_⟩
            · rw [e] at hw; omega
            · exact h1
          · rcases mt_ es a r j v with e | ⟨e,h1,_⟩
            · exact absurd e hne
            · exact ⟨j,v,nv es a r j v,hv,by rw [hbj,hv]; rfl,h1,by rw [e]; omega⟩
        obtain ⟨D,eD,hD⟩:=ih (mu_ b) (by omega) (r+1) b rfl (by omega) (by omega) hb hR2
        exact ⟨D,bo_ ey eD,hD⟩
  have hneg:=negs_le a0
  obtain ⟨D,eD,hD1,hD2⟩:=gen (mu_ a0) 1 a0 rfl (Nat.le_refl _) (by omega) hl0 h0
  have eD:ae_ body (1,(true,(a0,())))=some (D,()):=eD
  rw [eD,Option.bind_some]
  exact hK D hD1 hD2
theorem vh_ {g:ac_} (hg:SmG g) (h0:cx_ g=0) {ps:List aa_} {es:List (List ai_)} (hG:GI g ps es) (hes:es.length=ps.length) :
    ∃ D,eb_ g (ps,es) (-1)=some (D,())∧D.length=ps.length∧LC es (yw_ g ps) D:=by
  have ok:=da_ h0
  have okr:=bp_ ok.room
  have hn:=hG.pI.n
  have hgo:=hg.go
  have hx:∀ l ∈ es,∀ x ∈ l,0≤x.2∧x.2<(ps.length:Int):=fun l hl x hx=>(hG.eI l hl x hx).1
  have hfin:∀ p ∈ ps,gq_ g p=some (dn_ p.1.1 g.1.2.2.2.2.2.2.2,()):=fun p hp=>by
    have hv:=(hG.pI.v p hp).st
    have hl1:=hv.l1
    obtain ⟨c1,c2⟩:=tm_ hg.room.th okr.go
    unfold gq_
    rw [jg_ (s:=p.1) (show Sm _ by show _≤1000000000; omega) (by show InC p.1.1.length _; rw [hl1]; exact c1)]
    rfl
  suffices hk:∃ D,eb_ g (ps,es) (-1)=some D∧(D.1.length=ps.length∧LC es (yw_ g ps) D.1) by
    obtain ⟨⟨D,u⟩,e,h⟩:=hk
    exact ⟨D,e,h⟩
  unfold eb_
  simp only
  rw [th_ (by omega) (by omega),Option.bind_some,Int.toNat_natCast]
  refine su_ ps.length (fun (i:Nat) (z:Int×(List Int×Unit))=>∃ d:List Int,z=((i:Int),(d,()))∧d.length=ps.length∧∀ j:Nat,j<i→d[j]?=(wr_ g ps)[j]?) ⟨_,rfl,List.length_replicate,fun j hj=>by omega⟩ (fun i z hi hz => ?_) (fun z hz => ?_)
  · obtain ⟨d,rfl,hd,hdj⟩:=hz
    obtain ⟨p,hp⟩:=az_ hi
    obtain ⟨y,hy⟩:=az_ (l:=d) (i:=i) (by omega)
    have h2:(d.set i (-1))[i]?=some (-1):=List.getElem?_set_self (by omega)
    have hf0:(wr_ g ps)[i]?=some (cond (dn_ p.1.1 g.1.2.2.2.2.2.2.2) 0 (-1)):=by
      unfold wr_
      rw [List.getElem?_map,hp]
      rfl
    have fin:∀ v:Int,(wr_ g ps)[i]?=some v→∀ j:Nat,j<i+1→(d.set i v)[j]?=(wr_ g ps)[j]?:=fun v hv j hj=>by
      rw [List.getElem?_set]
      by_cases hij:i=j
      · rw [if_pos hij,if_pos (by omega),← hij,hv]
      · rw [if_neg hij,hdj j (by omega)]
    refine ⟨(((i+1:Nat):Int),(d.set i (cond (dn_ p.1.1 g.1.2.2.2.2.2.2.2) 0 (-1)),())),?_,_,rfl,by rw [List.length_set,hd],fin _ hf0⟩
    simp only [hd,dlt hi,cond_true,ag_ hp,ag_ hy,Option.bind_some,hfin p (aw_ hp),Int.toNat_natCast,ag_ h2,ay_ (show Sm i by show _≤1000000000; omega),List.set_set]
    cases dn_ p.1.1 g.1.2.2.2.2.2.2.2 <;> rfl
  · obtain ⟨d,rfl,hd,hdj⟩:=hz
    have hdd:d=wr_ g ps:=List.ext_getElem? fun j=>by
      rcases Nat.lt_or_ge j ps.length with hj | hj
      · exact hdj j hj
      · rw [List.getElem?_eq_none (by omega),List.getElem?_eq_none (by unfold wr_; rw [List.length_map]; omega)]
    subst hdd
    refine ⟨_,by simp only [hd,dnl,cond_false]; rfl,?_⟩
    simp only
    refine bind_rounds (es:=es) (fin:=yw_ g ps) hn hes hx (RnI_first es) hd (fun r a=>rfl) (fun r a hr hrn hl hR => ?_) (fun D hD1 hD2=>⟨_,rfl,hD1,hD2⟩)
    simp only [cond_true]
    refine su_ ps.length (fun (i:Nat) (z:Bool×(Int×(List Int×Unit)))=>∃ (ch:Bool) (b:List Int),z=(ch,((i:Int),(b,())))∧b.length=ps.length∧(∀ j:Nat,b[j]?=if j<i then (a[j]?).map (nv es a r j) else a[j]?)∧(ch=true↔∃ (j:Nat) (v:Int),j<i∧a[j]?=some v∧nv es a r j v≠v)) ⟨false,a,rfl,hl,fun j=>by simp,by simp⟩ (fun i z hi hz => ?_) (fun z hz => ?_)
    · obtain ⟨ch,b,rfl,hb,hbj,hch⟩:=hz
      obtain ⟨row,hrow⟩:=az_ (l:=es) (i:=i) (by omega)
      obtain ⟨v,hv⟩:=az_ (l:=a) (i:=i) (by omega)
      have hvb:b[i]?=some v:=by rw [hbj,if_neg (by omega),hv]
      have hrl:=hG.eL row (aw_ hrow)
      have hgi:∀ x ∈ row,(gi b x.2==(r:Int) - 1)=(gi a x.2==(r:Int) - 1):=fun x hxr=>by
        obtain ⟨x0,x1⟩:=hx row (aw_ hrow) x hxr
        obtain ⟨u,hu⟩:=az_ (l:=a) (i:=x.2.toNat) (by omega)
        have ea:gi a x.2=u:=mw_ (by rw [show x.2=((x.2.toNat:Nat):Int) by omega]; exact ag_ hu)
        have eb:∀ w,b[x.2.toNat]?=some w→gi b x.2=w:=fun w hw=>mw_ (by rw [show x.2=((x.2.toNat:Nat):Int) by omega]; exact ag_ hw)
        have hbx:=hbj x.2.toNat
        split at hbx
        · rw [hu] at hbx
          rw [ea,eb _ hbx]
          rcases mt_ es a r x.2.toNat u with e | ⟨e,h1,_⟩
          · rw [e]
          · rw [e,Bool.eq_iff_iff,beq_iff_eq,beq_iff_eq]
            omega
        · rw [hu] at hbx
          rw [ea,eb _ hbx]
      have hany:row.any (fun x=>gi b x.2==(r:Int) - 1)=row.any (fun x=>gi a x.2==(r:Int) - 1):=by
        rw [Bool.eq_iff_iff,List.any_eq_true,List.any_eq_true]
        exact ⟨fun ⟨x,h1,h2⟩=>⟨x,h1,by rw [← hgi x h1]; exact h2⟩,fun ⟨x,h1,h2⟩=>⟨x,h1,by rw [hgi x h1]; exact h2⟩⟩
      have hnv:nv es a r i v=cond (decide (v<0)&&row.any (fun x=>gi b x.2==(r:Int) - 1)) (r:Int) v:=by
        unfold nv
        rw [hrow,hany]
        rfl
      refine ⟨(cond (decide (v<0)&&row.any (fun x=>gi b x.2==(r:Int) - 1)) true ch,(((i+1:Nat):Int),(cond (decide (v<0)&&row.any (fun x=>gi b x.2==(r:Int) - 1)) (b.set i (r:Int)) b,()))),?_,_,_,rfl,?_,fun j => ?_,?_⟩
      · simp only [hb,dlt hi,cond_true]
        refine bind_edge (l:=row) (fun x=>gi b x.2==(r:Int) - 1) (r:=(r:Int)) hvb (by omega) (by show _≤1000000000; omega) (fun k c b' y hy hy0 => ?_) (fun c b' => ?_) (fun k e he hv0 => ?_) ?_
        · simp only [ag_ hrow,Option.bind_some,ag_ hy,decide_eq_false (show ¬ y<0 by omega)]
          cases decide ((k:Int)<(row.length:Int)) <;> rfl
        · simp only [ag_ hrow,Option.bind_some,dnl,cond_false]
        · obtain ⟨x0,x1⟩:=hx row (aw_ hrow) e (aw_ he)
          simp only [ag_ hrow,Option.bind_some,dlt (an_ he),cond_true,ag_ hvb,decide_eq_true hv0,ag_ he,op_ (l:=b) x0 (by omega),does_no (hG.eI row (aw_ hrow) e (aw_ he)).2,gd_ (n:=(r:Int) - 1) (by omega) (by omega),Int.toNat_natCast]
          cases gi b e.2==(r:Int) - 1 <;> rfl
        · simp only [ay_ (show Sm i by show _≤1000000000; omega)]
          cases (decide (v<0)&&row.any (fun x=>gi b x.2==(r:Int) - 1)) <;> rfl
      · cases (decide (v<0)&&row.any (fun x=>gi b x.2==(r:Int) - 1)) with
        | true=>simp only [cond_true,List.length_set,hb]
        | false=>exact hb
      · rcases Nat.lt_trichotomy j i with hj | hj | hj
        · rw [if_pos (by omega)]
          have:=hbj j
          rw [if_pos hj] at this
          cases (decide (v<0)&&row.any (fun x=>gi b x.2==(r:Int) - 1)) with
          | true=>rw [cond_true,List.getElem?_set_ne (by omega),this]
          | false=>exact this
        · subst hj
          rw [if_pos (by omega),hv,Option.map_some,hnv]
          cases (decide (v<0)&&row.any (fun x=>gi b x.2==(r:Int) - 1)) with
          | true=>rw [cond_true,cond_true,List.getElem?_set_self (by omega)]
          | false=>exact hvb
        · rw [if_neg (by omega)]
          have:=hbj j
          rw [if_neg (by omega)] at this
          cases (decide (v<0)&&row.any (fun x=>gi b x.2==(r:Int) - 1)) with
          | true=>rw [cond_true,List.getElem?_set_ne (by omega),this]
          | false=>exact this
      · cases hc:(decide (v<0)&&row.any (fun x=>gi b x.2==(r:Int) - 1)) with
        | true =>
          rw [hc] at hnv
          rw [Bool.and_eq_true,decide_eq_true_iff] at hc
          exact ⟨fun _=>⟨i,v,by omega,hv,by rw [hnv]; show (r:Int)≠v; omega⟩,fun _=>rfl⟩
        | false =>
          rw [hc] at hnv
          rw [cond_false,hch]
          constructor
          · rintro ⟨j,w,h1,h2⟩
            exact ⟨j,w,by omega,h2⟩
          · rintro ⟨j,w,h1,h2,h3⟩
            rcases Nat.lt_or_ge j i with hj | hj
            · exact ⟨j,w,hj,h2,h3⟩
            · obtain rfl:j=i:=by omega
              rw [hv] at h2
              obtain rfl:=Option.some.inj h2
              exact absurd hnv h3
    · obtain ⟨ch,b,rfl,hb,hbj,hch⟩:=hz
      refine ⟨_,by simp only [hb,dnl,cond_false]; rfl,?_⟩
      refine ⟨_,rfl,ch,b,by simp only [ay_ (show Sm r by show _≤1000000000; omega)],hb,fun j => ?_,?_⟩
      · rw [hbj]
        split
        · rfl
        · rw [List.getElem?_eq_none (by omega)]
          rfl
      · rw [hch]
        constructor
        · rintro ⟨j,w,_,h2⟩
          exact ⟨j,w,h2⟩
        · rintro ⟨j,w,h2,h3⟩
          exact ⟨j,w,by have:=an_ h2; omega,h2,h3⟩
end
section
set_option maxRecDepth 10000
def BkI (es:List (List ai_)) (n i:Nat) (bk:List (List Int)):Prop :=
  bk.length=n∧∀ (t:Nat) l,bk[t]?=some l→l.length≤i * 480∧∀ y:Int,y ∈ l↔∃ j:Nat,j<i∧y=(j:Int)∧∃ row,es[j]?=some row∧∃ x ∈ row,x.2=(t:Int)
theorem BkI_all {es:List (List ai_)} {n:Nat} {bk:List (List Int)} (h:BkI es n es.length bk) {t:Nat} {l:List Int} (hl:bk[t]?=some l) (y:Int):y ∈ l↔∃ j:Nat,y=(j:Int)∧∃ row,es[j]?=some row∧∃ x ∈ row,x.2=(t:Int):=by
  rw [(h.2 t l hl).2 y]
  exact ⟨fun ⟨j,_,h⟩=>⟨j,h⟩,fun ⟨j,h1,row,h2,h3⟩=>⟨j,an_ h2,h1,row,h2,h3⟩⟩
structure BI (es:List (List ai_)) (fin:Nat→Bool) (n:Nat) (near far:List Int):Prop where
  len:far.length=n
  lo:∀ (i:Nat) (v:Int),far[i]?=some v→-1≤v
  z:∀ (i:Nat) (v:Int),far[i]?=some v→(v=0↔fin i=true)
  dn:∀ (i k:Nat),far[i]?=some ((k+1:Nat):Int)→∃ l x,es[i]?=some l∧x ∈ l∧at? far x.2=some (k:Int)
  nr:∀ x ∈ near,∃ v,at? far x=some v∧0≤v
  pw:near.Pairwise (fun x y=>gi far x≤gi far y)
  top:∀ x ∈ near,∀ (i:Nat) (v:Int),far[i]?=some v→v≤gi far x+1
  up:∀ (i:Nat) (l:List ai_) (x:ai_) (k:Nat),es[i]?=some l→x ∈ l→at? far x.2=some (k:Int)→x.2 ∉ near→∃ v,far[i]?=some v∧0≤v∧v≤(k:Int)+1
  bd:∀ (i:Nat) (v:Int),far[i]?=some v→v+(mu_ far:Int)≤(n:Int)
  ms:near.length+mu_ far≤n
theorem BI_end {es:List (List ai_)} {fin:Nat→Bool} {n:Nat} {far:List Int} (h:BI es fin n [] far):LC es fin far :=
  ⟨h.lo,h.z,h.dn,fun i l x k hl hx hat=>h.up i l x k hl hx hat (fun h=>by cases h)⟩
structure AI (bs:List Int) (d:Int) (far:List Int) (b:Nat) (pu far':List Int):Prop where
  len:far'.length=far.length
  keep:∀ (i:Nat) (v:Int),far[i]?=some v→0≤v→far'[i]?=some v
  neg:∀ (i:Nat) (v:Int),far[i]?=some v→v<0→far'[i]?=some v∨(far'[i]?=some (d+1)∧(i:Int) ∈ pu∧(i:Int) ∈ bs)
  pI:∀ x ∈ pu,at? far' x=some (d+1)∧∃ w,at? far x=some w∧w<0
  done:∀ y ∈ bs.take b,∃ v,at? far' y=some v∧0≤v
  ms:mu_ far'+pu.length=mu_ far
theorem AI_first (bs:List Int) (d:Int) (far:List Int):AI bs d far 0 [] far :=
  ⟨rfl,fun _ _ h _=>h,fun _ _ h _=>.inl h,fun _ h=>(by cases h),fun y h=>by rw [List.take_zero] at h; (cases h),rfl⟩
theorem ua_ {α:Type} {a:List α} {x:Int} {v:α} (h:at? a x=some v):∃ i:Nat,x=(i:Int)∧a[i]?=some v:=by
  obtain ⟨q1,q2,q3⟩:=dd_ h
  exact ⟨x.toNat,by omega,q3⟩
theorem AI_skip {bs:List Int} {d:Int} {far:List Int} {b:Nat} {pu far':List Int} (h:AI bs d far b pu far') {y v:Int} (hy:bs[b]?=some y) (hv:at? far' y=some v) (hv0:0≤v):AI bs d far (b+1) pu far':=by
  refine ⟨h.len,h.keep,h.neg,h.pI,fun z hz => ?_,h.ms⟩
  rw [List.take_add_one,hy] at hz
  rcases List.mem_append.1 hz with hz | hz
  · exact h.done z hz
  · have:z=y:=by simpa using hz
    rw [this]
    exact ⟨v,hv,hv0⟩
theorem AI_add {bs:List Int} {d:Int} (hd:0≤d) {far:List Int} {b:Nat} {pu far':List Int} (h:AI bs d far b pu far') {y v:Int} (hy:bs[b]?=some y) (hv:at? far' y=some v) (hv0:v<0):AI bs d far (b+1) (pu++[y]) (far'.set y.toNat (d+1)):=by
  obtain ⟨i,rfl,hi⟩:=ua_ hv
  rw [Int.toNat_natCast]
  have hlt:=an_ hi
  have hself:(far'.set i (d+1))[i]?=some (d+1):=List.getElem?_set_self hlt
  have hfi:∃ w,far[i]?=some w∧w<0:=by
    obtain ⟨w,hw⟩:=az_ (l:=far) (i:=i) (by have:=h.len; omega)
    refine ⟨w,hw,Classical.byContradiction fun hc => ?_⟩
    have:=h.keep i w hw (by omega)
    rw [hi] at this
    have:=Option.some.inj this
    omega
  have hat:∀ {x w:Int},at? far' x=some w→0≤w→at? (far'.set i (d+1)) x=some w:=fun {x w} hx hw=>by
    obtain ⟨j,rfl,hj⟩:=ua_ hx
    refine ag_ ?_
    by_cases hij:i=j
    · subst hij
      rw [hi] at hj
      have:=Option.some.inj hj
      omega
    · rw [List.getElem?_set_ne hij]
      exact hj
  refine ⟨by rw [List.length_set,h.len],fun j w hw hw0 => ?_,fun j w hw hw0 => ?_,fun x hx => ?_,fun z hz => ?_,?_⟩
  · have:=h.keep j w hw hw0
    by_cases hij:i=j
    · subst hij
      rw [hi] at this
      have:=Option.some.inj this
      omega
    · rw [List.getElem?_set_ne hij]
      exact this
  · by_cases hij:i=j
    · subst hij
      exact .inr ⟨hself,List.mem_append_right _ (List.mem_singleton.2 rfl),aw_ hy⟩
    · rw [List.getElem?_set_ne hij]
      rcases h.neg j w hw hw0 with h1 | ⟨h1,h2,h3⟩
      · exact .inl h1
      · exact .inr ⟨h1,List.mem_append_left _ h2,h3⟩
  · rcases List.mem_append.1 hx with hx | hx
    · obtain ⟨h1,h2⟩:=h.pI x hx
      exact ⟨hat h1 (by omega),h2⟩
    · rw [List.mem_singleton] at hx
      rw [hx]
      obtain ⟨w,hw,hw0⟩:=hfi
      exact ⟨ag_ hself,w,ag_ hw,hw0⟩
  · rw [List.take_add_one,hy] at hz
    rcases List.mem_append.1 hz with hz | hz
    · obtain ⟨w,h1,h2⟩:=h.done z hz
      exact ⟨w,hat h1 h2,h2⟩
    · have:z=(i:Int):=by simpa using hz
      rw [this]
      exact ⟨d+1,ag_ hself,by omega⟩
  · have:=negs_set hi hv0 (show (0:Int)≤d+1 by omega)
    have:=h.ms
    rw [List.length_append,List.length_singleton]
    omega
theorem BI_step {es:List (List ai_)} {fin:Nat→Bool} {n:Nat} (hes:es.length=n) (hx:∀ l ∈ es,∀ x ∈ l,0≤x.2∧x.2<(n:Int)) {h:Int} {tl far:List Int} (I:BI es fin n (h::tl) far) {bs:List Int} {d:Int} (hd:at? far h=some d)
    (hbs:∀ y:Int,y ∈ bs↔∃ j:Nat,y=(j:Int)∧∃ row,es[j]?=some row∧∃ x ∈ row,x.2=h) {pu far':List Int} (A:AI bs d far bs.length pu far'):BI es fin n (tl++pu) far':=by
  have hd0:0≤d:=by
    obtain ⟨v,h1,h2⟩:=I.nr h (List.mem_cons_self ..)
    rw [hd] at h1
    have:=Option.some.inj h1
    omega
  have hgd:gi far h=d:=mw_ hd
  have hms:=A.ms
  have cs:∀ (i:Nat) (v:Int),far'[i]?=some v→far[i]?=some v∨(v=d+1∧(i:Int) ∈ pu∧(i:Int) ∈ bs∧1≤pu.length∧∃ w,far[i]?=some w∧w<0):=fun i v hv=>by
    obtain ⟨w,hw⟩:=az_ (l:=far) (i:=i) (by have:=an_ hv; have:=A.len; omega)
    by_cases hw0:0≤w
    · have:=A.keep i w hw hw0
      rw [hv] at this
      rw [Option.some.inj this]
      exact .inl hw
    · rcases A.neg i w hw (by omega) with h1 | ⟨h1,h2,h3⟩
      · rw [hv] at h1
        rw [Option.some.inj h1]
        exact .inl hw
      · rw [hv] at h1
        have hne:1≤pu.length:=by
          cases pu with
          | nil=>cases h2
          | cons _ _=>simp
        exact .inr ⟨Option.some.inj h1,h2,h3,hne,w,hw,by omega⟩
  have keepA:∀ {x v:Int},at? far x=some v→0≤v→at? far' x=some v:=fun {x v} hx hv=>by
    obtain ⟨i,rfl,hi⟩:=ua_ hx
    exact ag_ (A.keep i v hi hv)
  have gk:∀ x ∈ tl,gi far' x=gi far x:=fun x hx=>by
    obtain ⟨v,h1,h2⟩:=I.nr x (List.mem_cons_of_mem _ hx)
    rw [mw_ h1,mw_ (keepA h1 h2)]
  have gp:∀ x ∈ pu,gi far' x=d+1:=fun x hx=>mw_ (A.pI x hx).1
  have htop:=I.top h (List.mem_cons_self ..)
  rw [hgd] at htop
  obtain ⟨pw1,pw2⟩:=List.pairwise_cons.1 I.pw
  have htl:∀ x ∈ tl,gi far x≤d+1:=fun x hx=>by
    obtain ⟨v,h1,h2⟩:=I.nr x (List.mem_cons_of_mem _ hx)
    obtain ⟨i,_,hi⟩:=ua_ h1
    rw [mw_ h1]
    exact htop i v hi
  have hle:∀ (i:Nat) (v:Int),far'[i]?=some v→v≤d+1:=fun i v hv=>by
    rcases cs i v hv with h1 | ⟨h1,_⟩
    · exact htop i v h1
    · omega
  refine ⟨by rw [A.len,I.len],fun i v hv => ?_,fun i v hv => ?_,fun i k hk => ?_,fun x hx => ?_,?_,fun x hx i v hv => ?_,fun i l x k hl hxl hat hnn => ?_,fun i v hv => ?_,?_⟩
  · rcases cs i v hv with h1 | ⟨h1,_⟩
    · exact I.lo i v h1
    · omega
  · rcases cs i v hv with h1 | ⟨h1,_,_,_,w,hw,hw0⟩
    · exact I.z i v h1
    · have:=I.z i w hw
      rw [← this]
      constructor
      · intro e; omega
      · intro e; omega
  · rcases cs i _ hk with h1 | ⟨h1,h2,h3,_⟩
    · obtain ⟨l,x,a1,a2,a3⟩:=I.dn i k h1
      exact ⟨l,x,a1,a2,keepA a3 (by omega)⟩
    · obtain ⟨j,hj,row,hrow,x,hxr,hxe⟩:=(hbs _).1 h3
      obtain rfl:i=j:=by omega
      refine ⟨row,x,hrow,hxr,?_⟩
      rw [hxe,show (k:Int)=d by omega]
      exact keepA hd hd0
  · rcases List.mem_append.1 hx with hx | hx
    · obtain ⟨v,h1,h2⟩:=I.nr x (List.mem_cons_of_mem _ hx)
      exact ⟨v,keepA h1 h2,h2⟩
    · exact ⟨d+1,(A.pI x hx).1,by omega⟩
  · refine List.pairwise_append.2 ⟨?_,?_,fun x hx y hy => ?_⟩
    · refine List.Pairwise.imp_of_mem (fun {x y} hx hy hr => ?_) pw2
      rw [gk x hx,gk y hy]
      exact hr
    · refine List.pairwise_of_forall_mem_list (fun x hx y hy => ?_)
      rw [gp x hx,gp y hy]
      exact Int.le_refl _
    · rw [gk x hx,gp y hy]
      exact htl x hx
  · have h2:=hle i v hv
    rcases List.mem_append.1 hx with hx | hx
    · rw [gk x hx]
      have:=pw1 x hx
      rw [hgd] at this
      omega
    · rw [gp x hx]
      omega
  · have hb:=hx l (aw_ hl) x hxl
    obtain ⟨xi,hxi,hxk⟩:=ua_ hat
    obtain ⟨w,hw⟩:=az_ (l:=far') (i:=i) (by have:=an_ hl; have:=A.len; have:=I.len; omega)
    rcases cs xi _ hxk with h1 | ⟨_,h2,_⟩
    · by_cases hxh:x.2=h
      · have hm:(i:Int) ∈ bs:=(hbs _).2 ⟨i,rfl,l,hl,x,hxl,hxh⟩
        obtain ⟨v,h3,h4⟩:=A.done (i:Int) (by rw [List.take_length]; exact hm)
        have h3:far'[i]?=some v:=by rw [← at_nat]; exact h3
        refine ⟨v,h3,h4,?_⟩
        have:(k:Int)=d:=by
          have:at? far h=some (k:Int):=by rw [← hxh,hxi]; exact ag_ h1
          rw [hd] at this
          exact (Option.some.inj this).symm
        have:=hle i v h3
        omega
      · obtain ⟨v,h3,h4,h5⟩:=I.up i l x k hl hxl (by rw [hxi]; exact ag_ h1) (fun hm=>by
          rcases List.mem_cons.1 hm with hm | hm
          · exact hxh hm
          · exact hnn (List.mem_append_left _ hm))
        exact ⟨v,A.keep i v h3 h4,h4,h5⟩
    · exact absurd (List.mem_append_right _ (by rw [hxi]; exact h2)) hnn
  · rcases cs i v hv with h1 | ⟨h1,_,_,h4,_⟩
    · have:=I.bd i v h1
      omega
    · obtain ⟨hi,_,hh⟩:=ua_ hd
      have:=I.bd hi d hh
      omega
  · have:=I.ms
    rw [List.length_append]
    rw [List.length_cons] at this
    omega
theorem bind_queue {υ:Type} {body:(List Int×(List Int×Unit))→Option ((List Int×(List Int×Unit))⊕(List Int×Unit))} {K:(List Int×Unit)→Option υ} {Q:υ→Prop} (Inv:List Int→List Int→Prop) (μ:List Int→List Int→Nat)
    (hs:∀ h tl far,Inv (h::tl) far→∃ y,body (h::tl,(far,()))=some y∧∃ near' far',y = .inl (near',(far',()))∧Inv near' far'∧μ near' far'<μ (h::tl) far)
    (he:∀ far,Inv [] far→∃ r,body ([],(far,()))=some (.inr r)∧∃ y,K r=some y∧Q y) {near far:List Int} (hI:Inv near far):∃ y,(ae_ body (near,(far,()))).bind K=some y∧Q y:=by
  have gen:∀ (m:Nat) (near far:List Int),μ near far=m→Inv near far→∃ r,ae_ body (near,(far,()))=some r∧∃ y,K r=some y∧Q y:=by
    intro m
    induction m using Nat.strongRecOn with
    | _ m ih =>
      intro near far hm hI
      cases near with
      | nil =>
        obtain ⟨r,e,h⟩:=he far hI
        exact ⟨r,bw_ e,h⟩
      | cons h tl =>
        obtain ⟨y,ey,near',far',rfl,h1,h2⟩:=hs h tl far hI
        obtain ⟨r,er,hr⟩:=ih _ (by omega) near' far' rfl h1
        exact ⟨r,bo_ ey er,hr⟩
  obtain ⟨r,e,hr⟩:=gen _ near far rfl hI
  rw [e,Option.bind_some]
  exact hr
theorem Repeat_eq {n:Nat} (h:n≤1000000):ea_ [-1] (n:Int)=some (List.replicate n (-1)):=by
  show mk? (n:Int) (-1)=_
  rw [th_ (by omega) (by omega),Int.toNat_natCast]
theorem negs_cons (x:Int) (a:List Int):mu_ (x::a)=mu_ a+(if x<0 then 1 else 0):=by unfold mu_; rw [List.countP_cons]; simp
end
section
set_option maxRecDepth 10000
theorem negs_app (a b:List Int):mu_ (a++b)=mu_ a+mu_ b:=by unfold mu_; rw [List.countP_append]
theorem negs_take {a:List Int} {i:Nat} {v:Int} (h:a[i]?=some v):mu_ (a.take (i+1))=mu_ (a.take i)+(if v<0 then 1 else 0):=by
  rw [List.take_add_one,h,negs_app,show (some v).toList=[v] from rfl,negs_cons,show mu_ []=0 from rfl,Nat.zero_add]
theorem BI_first {g:ac_} {ps:List aa_} {es:List (List ai_)} {near:List Int} (h1:∀ x ∈ near,∃ j:Nat,x=(j:Int)∧j<ps.length∧yw_ g ps j=true) (h2:∀ j:Nat,j<ps.length→yw_ g ps j=true→(j:Int) ∈ near) (h3:near.length+mu_ (wr_ g ps)=ps.length) :
    BI es (yw_ g ps) ps.length near (wr_ g ps):=by
  have hl:(wr_ g ps).length=ps.length:=List.length_map _
  have hg:∀ x ∈ near,at? (wr_ g ps) x=some 0:=fun x hx=>by
    obtain ⟨j,rfl,hj,hf⟩:=h1 x hx
    obtain ⟨v,hv⟩:=az_ (l:=wr_ g ps) (i:=j) (by omega)
    rcases qi_ hv with ⟨rfl,_⟩ | ⟨rfl,hf2⟩
    · exact ag_ hv
    · rw [hf] at hf2; cases hf2
  have hle:∀ (i:Nat) (v:Int),(wr_ g ps)[i]?=some v→-1≤v∧v≤0:=fun i v hv=>by
    rcases qi_ hv with ⟨rfl,_⟩ | ⟨rfl,_⟩ <;> omega
  refine ⟨hl,fun i v hv=>(hle i v hv).1,fun i v hv => ?_,fun i k hk => ?_,fun x hx=>⟨0,hg x hx,Int.le_refl _⟩,?_,fun x hx i v hv => ?_,fun i l x k hl hxl hat hnn => ?_,fun i v hv => ?_,by omega⟩
  · rcases qi_ hv with ⟨rfl,h⟩ | ⟨rfl,h⟩
    · exact ⟨fun _=>h,fun _=>rfl⟩
    · rw [h]
      exact ⟨fun e=>by omega,fun e=>by cases e⟩
  · have:=hle i _ hk
    omega
  · refine List.pairwise_of_forall_mem_list (fun x hx y hy => ?_)
    rw [mw_ (hg x hx),mw_ (hg y hy)]
    exact Int.le_refl _
  · rw [mw_ (hg x hx)]
    have:=hle i v hv
    omega
  · obtain ⟨xi,hxi,hxk⟩:=ua_ hat
    have hlt:=an_ hxk
    rcases qi_ hxk with ⟨_,hf⟩ | ⟨e,_⟩
    · exact absurd (by rw [hxi]; exact h2 xi (by omega) hf) hnn
    · omega
  · have:=hle i v hv
    have:=negs_le (wr_ g ps)
    omega
noncomputable def meaK {τ:Type} (a0:ac_) (G:cb_) (K:List Int×Unit→Option τ):Option τ :=
 ((ea_ [(-1)] (G.1.length:Int)).bind fun v1 =>
 ((ae_ (ρ:=((List Int)×((List Int)×Unit))) (fun (v2:((List Int)×(Int×((List Int)×Unit)))) =>
 (cond (decide (v2.2.1<(G.1.length:Int)))
 ((((at? G.1 v2.2.1).bind fun v3 =>
 ((ic_ a0.1 v3.1).bind fun v4 =>
 (((cond (v4.2.1==0)
 (some (v4.1,()))
 (some (false,())))).bind fun v5 =>
 (cond v5.1
 ((at? v2.2.2.1 v2.2.1).bind fun v6 =>
 ((at? v2.2.2.1 v2.2.1).bind fun v7 =>
 ((push? (α:=Int) v2.1 [v2.2.1]).bind fun v8 =>
 (some (v8,((v2.2.2.1.set v2.2.1.toNat 0),()))))))
 (some (v2.1,(v2.2.2.1,())))))))).bind fun v9 =>
 (some (Sum.inl (v9.1,((w64 (v2.2.1+1)),(v9.2.1,()))))))
 (some (Sum.inr (v2.1,(v2.2.2.1,())))))) ([],(0,(v1,())))).bind fun v10 =>
 ((mk? (α:=(List Int)) (G.1.length:Int) []).bind fun v11 =>
 ((ae_ (ρ:=((List (List Int))×Unit)) (fun (v12:(Int×((List (List Int))×Unit))) =>
 (cond (decide (v12.1<(G.2.length:Int)))
 ((at? G.2 v12.1).bind fun v13 =>
 ((ae_ (ρ:=((List (List Int))×Unit)) (fun (v14:(Int×((List (List Int))×Unit))) =>
 (cond (decide (v14.1<(v13.length:Int)))
 ((((at? v13 v14.1).bind fun v15 =>
 ((at? v14.2.1 v15.2).bind fun v16 =>
 ((at? v14.2.1 v15.2).bind fun v17 =>
 ((push? (α:=Int) v17 [v12.1]).bind fun v18 =>
 ((at? v14.2.1 v15.2).bind fun v19 =>
 (cond ((v15.2==v15.2)&&true)
 ((at? v14.2.1 v15.2).bind fun v20 =>
 (some ((v14.2.1.set v15.2.toNat v18),())))
 none))))))).bind fun v21 =>
 (some (Sum.inl ((w64 (v14.1+1)),(v21.1,())))))
 (some (Sum.inr (v14.2.1,()))))) (0,(v12.2.1,()))).bind fun v22 =>
 (some (Sum.inl ((w64 (v12.1+1)),(v22.1,()))))))
 (some (Sum.inr (v12.2.1,()))))) (0,(v11,()))).bind fun v23 =>
 ((ae_ (ρ:=((List Int)×Unit)) (fun (v24:((List Int)×((List Int)×Unit))) =>
 (cond (decide (0<(v24.1.length:Int)))
 ((at? v24.1 0).bind fun v25 =>
 ((at? v24.1 0).bind fun v26 =>
 ((sub? v24.1 1 (v24.1.length:Int)).bind fun v27 =>
 ((at? v23.1 v26).bind fun v28 =>
 ((ae_ (ρ:=((List Int)×((List Int)×Unit))) (fun (v29:((List Int)×(Int×((List Int)×Unit)))) =>
 (cond (decide (v29.2.1<(v28.length:Int)))
 ((((at? v28 v29.2.1).bind fun v30 =>
 ((at? v29.2.2.1 v30).bind fun v31 =>
 ((at? v29.2.2.1 v30).bind fun v32 =>
 (cond (decide (v32<0))
 ((at? v29.2.2.1 v26).bind fun v33 =>
 ((at? v29.2.2.1 v26).bind fun v34 =>
 ((at? v29.2.2.1 v30).bind fun v35 =>
 ((at? v29.2.2.1 v30).bind fun v36 =>
 ((push? (α:=Int) v29.1 [v30]).bind fun v37 =>
 (some (v37,((v29.2.2.1.set v30.toNat (w64 (v34+1))),()))))))))
 (some (v29.1,(v29.2.2.1,())))))))).bind fun v38 =>
 (some (Sum.inl (v38.1,((w64 (v29.2.1+1)),(v38.2.1,()))))))
 (some (Sum.inr (v29.1,(v29.2.2.1,())))))) (v27,(0,(v24.2.1,())))).bind fun v39 =>
 (some (Sum.inl (v39.1,(v39.2.1,())))))))))
 (some (Sum.inr (v24.2.1,()))))) (v10.1,(v10.2.1,()))).bind fun v40 =>
 (K v40))))))
theorem meaK_bind {τ:Type} (a0:ac_) (G:cb_) (K:List Int×Unit→Option τ):meaK a0 G K=(meaK a0 G some).bind K:=by
  unfold meaK
  simp only [Option.bind_assoc,Option.bind_some]
theorem dist_eq:ed_=fun a0=>(cu_ a0).bind fun v0=>cond (v0.2.1 != 0) (cond (v0.2.1 != 0) (some ([],(v0.2.1,()))) none) (meaK a0 v0.1 fun v40=>some (v40.1,(0,()))):=by
  kernel_rfl
theorem mea_some {g:ac_} (hg:SmG g) (h0:cx_ g=0) {ps:List aa_} {es:List (List ai_)} (hG:GI g ps es) (hes:es.length=ps.length):∃ y,meaK g (ps,es) some=some y∧∃ D,y=(D,())∧(D.length=ps.length∧LC es (yw_ g ps) D)∧∀ (i:Nat) (v:Int),D[i]?=some v→v≤(ps.length:Int):=by
  have ok:=da_ h0
  have okr:=bp_ ok.room
  have hn:=hG.pI.n
  have hx:∀ l ∈ es,∀ x ∈ l,0≤x.2∧x.2<(ps.length:Int):=fun l hl x hx=>(hG.eI l hl x hx).1
  unfold meaK
  simp only
  rw [Repeat_eq (by omega),Option.bind_some]
  have hfl:(wr_ g ps).length=ps.length:=List.length_map _
  refine su_ ps.length (fun (i:Nat) (z:List Int×(Int×(List Int×Unit)))=>∃ near far:List Int,z=(near,((i:Int),(far,())))∧far.length=ps.length∧(∀ j:Nat,far[j]?=if j<i then (wr_ g ps)[j]? else (List.replicate ps.length (-1:Int))[j]?)∧(∀ x ∈ near,∃ j:Nat,x=(j:Int)∧j<i∧yw_ g ps j=true)∧(∀ j:Nat,j<i→yw_ g ps j=true→(j:Int) ∈ near)∧near.length+mu_ ((wr_ g ps).take i)=i)
    ⟨[],_,rfl,List.length_replicate,(fun j=>by simp),(fun x hx=>by cases hx),(fun j hj=>by omega),rfl⟩ (fun i z hi hz => ?_) (fun z hz => ?_)
  · obtain ⟨near,far,rfl,hl,hj,h1,h2,h3⟩:=hz
    obtain ⟨p,hp⟩:=az_ hi
    obtain ⟨v,hv⟩:=az_ (l:=far) (i:=i) (by omega)
    have hv1:v = -1:=by
      rw [hj,if_neg (by omega),List.getElem?_replicate,if_pos hi] at hv
      exact (Option.some.inj hv).symm
    have hf0:(wr_ g ps)[i]?=some (cond (dn_ p.1.1 g.1.2.2.2.2.2.2.2) 0 (-1)):=by
      unfold wr_
      rw [List.getElem?_map,hp]
      rfl
    have hfp:=finP_at (g:=g) hp
    have hnt:=negs_take hf0
    simp only [dlt hi,cond_true,ag_ hp,ag_ hv,Option.bind_some,room_Done hg.room ok.room (hG.pI.v p (aw_ hp)).st,show ((0:Int)==0)=true from rfl,Int.toNat_natCast,ay_ (show Sm i by show _≤1000000000; omega),ch_ (show Sm near.length by show _≤1000000000; omega)]
    cases hc:dn_ p.1.1 g.1.2.2.2.2.2.2.2 with
    | true =>
      rw [hc] at hf0 hfp hnt
      refine ⟨_,rfl,near++[(i:Int)],far.set i 0,rfl,by rw [List.length_set,hl],fun j => ?_,fun x hx => ?_,fun j hj hf => ?_,?_⟩
      · rcases Nat.lt_trichotomy j i with hji | hji | hji
        · rw [List.getElem?_set_ne (by omega),hj,if_pos hji,if_pos (by omega)]
        · subst hji
          rw [List.getElem?_set_self (by omega),if_pos (by omega),hf0]
          rfl
        · rw [List.getElem?_set_ne (by omega),hj,if_neg (by omega),if_neg (by omega)]
      · rcases List.mem_append.1 hx with hx | hx
        · obtain ⟨j,a,b,c⟩:=h1 x hx
          exact ⟨j,a,by omega,c⟩
        · rw [List.mem_singleton] at hx
          exact ⟨i,hx,by omega,hfp⟩
      · rcases Nat.lt_or_ge j i with hji | hji
        · exact List.mem_append_left _ (h2 j hji hf)
        · obtain rfl:j=i:=by omega
          exact List.mem_append_right _ (List.mem_singleton.2 rfl)
      · rw [List.length_append,List.length_singleton,hnt]
        show _+1+(_+if (0:Int)<0 then 1 else 0)=i+1
        rw [if_neg (by omega)]
        omega
    | false =>
      rw [hc] at hf0 hfp hnt
      refine ⟨_,rfl,near,far,rfl,hl,fun j => ?_,fun x hx => ?_,fun j hj hf => ?_,?_⟩
      · rcases Nat.lt_trichotomy j i with hji | hji | hji
        · rw [hj,if_pos hji,if_pos (by omega)]
        · subst hji
          rw [hv,if_pos (by omega),hf0,hv1]
          rfl
        · rw [hj,if_neg (by omega),if_neg (by omega)]
      · obtain ⟨j,a,b,c⟩:=h1 x hx
        exact ⟨j,a,by omega,c⟩
      · rcases Nat.lt_or_ge j i with hji | hji
        · exact h2 j hji hf
        · obtain rfl:j=i:=by omega
          rw [hfp] at hf
          cases hf
      · rw [hnt]
        show _+(_+if (-1:Int)<0 then 1 else 0)=i+1
        rw [if_pos (by omega)]
        omega
  · obtain ⟨near,far,rfl,hl,hj,h1,h2,h3⟩:=hz
    have hff:far=wr_ g ps:=List.ext_getElem? fun j=>by
      rw [hj]
      split
      · rfl
      · rw [List.getElem?_eq_none (by rw [List.length_replicate]; omega),List.getElem?_eq_none (by omega)]
    subst hff
    rw [List.take_of_length_le (by omega)] at h3
    refine ⟨_,by simp only [dnl,cond_false]; rfl,?_⟩
    simp only
    rw [th_ (by omega) (by omega),Option.bind_some,Int.toNat_natCast]
    refine su_ es.length (fun (i:Nat) (z:Int×(List (List Int)×Unit))=>∃ bk,z=((i:Int),(bk,()))∧BkI es ps.length i bk) ⟨_,rfl,List.length_replicate,fun t l hl => ?_⟩ (fun i z hi hz => ?_) (fun z hz => ?_)
    · rw [List.getElem?_replicate] at hl
      split at hl
      · obtain rfl:=Option.some.inj hl
        exact ⟨Nat.zero_le _,fun y=>⟨(fun h=>by cases h),fun ⟨j,h,_⟩=>by omega⟩⟩
      · cases hl
    · obtain ⟨bk,rfl,hb1,hb2⟩:=hz
      obtain ⟨row,hrow⟩:=az_ hi
      have hrl:=hG.eL row (aw_ hrow)
      simp only [dlt hi,cond_true,ag_ hrow,Option.bind_some]
      have:=su_ (υ:=(Int×(List (List Int)×Unit))⊕(List (List Int)×Unit)) row.length (fun (k:Nat) (z:Int×(List (List Int)×Unit))=>∃ bk',z=((k:Int),(bk',()))∧bk'.length=ps.length∧∀ (t:Nat) l,bk'[t]?=some l→l.length≤i * 480+k∧∀ y:Int,y ∈ l↔((∃ j:Nat,j<i∧y=(j:Int)∧∃ row,es[j]?=some row∧∃ x ∈ row,x.2=(t:Int))∨(y=(i:Int)∧∃ x ∈ row.take k,x.2=(t:Int))))
        (body:=fun (v14:(Int×((List (List Int))×Unit))) =>
 (cond (decide (v14.1<(row.length:Int)))
 ((((at? row v14.1).bind fun v15 =>
 ((at? v14.2.1 v15.2).bind fun v16 =>
 ((at? v14.2.1 v15.2).bind fun v17 =>
 ((push? (α:=Int) v17 [(i:Int)]).bind fun v18 =>
 ((at? v14.2.1 v15.2).bind fun v19 =>
 (cond ((v15.2==v15.2)&&true)
 ((at? v14.2.1 v15.2).bind fun v20 =>
 (some ((v14.2.1.set v15.2.toNat v18),())))
 none))))))).bind fun v21 =>
 (some (Sum.inl ((w64 (v14.1+1)),(v21.1,())))))
 (some (Sum.inr (v14.2.1, ()))))) (z0 := (0, (bk, ()))) (K := fun v22 => some (Sum.inl ((w64 ((i : Int) + 1)), (v22.1, ())))) (Q := fun y => ∃ z', y = Sum.inl z' ∧ ∃ bk, z' = (((i + 1 : Nat) : Int), (bk, ())) ∧ BkI es ps.length (i + 1) bk)
        ⟨bk,rfl,hb1,fun t l hl=>⟨(hb2 t l hl).1,fun y=>by
          rw [(hb2 t l hl).2 y,List.take_zero]
          exact ⟨.inl,fun h=>h.elim id fun ⟨_,x,h,_⟩=>(by cases h)⟩⟩⟩ (fun k z hk hz => ?_) (fun z hz => ?_)
      · obtain ⟨y,ey,z',rfl,bk2,rfl,hB⟩:=this
        exact ⟨_,ey,bk2,rfl,hB⟩
      · obtain ⟨bk',rfl,hb3,hb4⟩:=hz
        obtain ⟨x,hxk⟩:=az_ hk
        obtain ⟨x0,x1⟩:=hx row (aw_ hrow) x (aw_ hxk)
        obtain ⟨l,hl⟩:=az_ (l:=bk') (i:=x.2.toNat) (by omega)
        have hat:at? bk' x.2=some l:=by rw [show x.2=((x.2.toNat:Nat):Int) by omega]; exact ag_ hl
        obtain ⟨q1,q2⟩:=hb4 _ l hl
        refine ⟨_,?_,bk'.set x.2.toNat (l++[(i:Int)]),rfl,by rw [List.length_set,hb3],fun t l' hl' => ?_⟩
        · simp only [dlt hk,cond_true,ag_ hxk,Option.bind_some,hat,ch_ (show Sm l.length by show _≤1000000000; omega),beq_self_eq_true,Bool.and_true,ay_ (show Sm k by show _≤1000000000; omega)]
        · have htk:∀ y:Int,(∃ e ∈ row.take (k+1),e.2=y)↔((∃ e ∈ row.take k,e.2=y)∨x.2=y):=fun y=>by
            rw [List.take_add_one,hxk]
            constructor
            · rintro ⟨e,he,h⟩
              rcases List.mem_append.1 he with he | he
              · exact .inl ⟨e,he,h⟩
              · have:e=x:=by simpa using he
                rw [this] at h
                exact .inr h
            · rintro (⟨e,he,h⟩ | h)
              · exact ⟨e,List.mem_append_left _ he,h⟩
              · exact ⟨x,List.mem_append_right _ (by simp),h⟩
          by_cases ht:x.2.toNat=t
          · rw [ht,List.getElem?_set_self (by omega)] at hl'
            obtain rfl:=Option.some.inj hl'
            rw [ht] at q2
            have hxt:x.2=(t:Int):=by omega
            refine ⟨by rw [List.length_append,List.length_singleton]; omega,fun y => ?_⟩
            rw [List.mem_append,List.mem_singleton,q2 y,htk]
            constructor
            · rintro ((h | ⟨h,h'⟩) | h)
              · exact .inl h
              · exact .inr ⟨h,.inl h'⟩
              · exact .inr ⟨h,.inr hxt⟩
            · rintro (h | ⟨h,h' | h'⟩)
              · exact .inl (.inl h)
              · exact .inl (.inr ⟨h,h'⟩)
              · exact .inr h
          · rw [List.getElem?_set_ne ht] at hl'
            obtain ⟨r1,r2⟩:=hb4 t l' hl'
            refine ⟨by omega,fun y => ?_⟩
            rw [r2 y,htk]
            constructor
            · rintro (h | ⟨h,h'⟩)
              · exact .inl h
              · exact .inr ⟨h,.inl h'⟩
            · rintro (h | ⟨h,h' | h'⟩)
              · exact .inl h
              · exact .inr ⟨h,h'⟩
              · omega
      · obtain ⟨bk',rfl,hb3,hb4⟩:=hz
        refine ⟨_,by simp only [dnl,cond_false]; rfl,_,rfl,_,rfl,bk',by simp only [ay_ (show Sm i by show _≤1000000000; omega)],hb3,fun t l hl => ?_⟩
        obtain ⟨r1,r2⟩:=hb4 t l hl
        refine ⟨by omega,fun y => ?_⟩
        rw [r2 y,List.take_length]
        constructor
        · rintro (⟨j,a,b⟩ | ⟨h,h'⟩)
          · exact ⟨j,by omega,b⟩
          · exact ⟨i,by omega,h,row,hrow,h'⟩
        · rintro ⟨j,a,b,row',c,d⟩
          rcases Nat.lt_or_ge j i with hji | hji
          · exact .inl ⟨j,hji,b,row',c,d⟩
          · obtain rfl:j=i:=by omega
            rw [hrow] at c
            obtain rfl:=Option.some.inj c
            exact .inr ⟨b,d⟩
    · obtain ⟨bk,rfl,hB⟩:=hz
      refine ⟨_,by simp only [dnl,cond_false]; rfl,?_⟩
      simp only
      refine bind_queue (fun near far=>BI es (yw_ g ps) ps.length near far) (fun near far=>near.length+mu_ far) (fun h tl far I => ?_) (fun far I => ?_) (BI_first h1 h2 h3)
      rotate_left
      · exact ⟨_,rfl,_,rfl,far,rfl,⟨I.len,BI_end I⟩,fun i v h=>by have:=I.bd i v h; omega⟩
      obtain ⟨d,hd,hd0⟩:=I.nr h (List.mem_cons_self ..)
      obtain ⟨hi,hhi,hdi⟩:=ua_ hd
      have hlt:=an_ hdi
      have hIl:=I.len
      have hIm:=I.ms
      have hIb:=I.bd hi d hdi
      obtain ⟨bs,hbs⟩:=az_ (l:=bk) (i:=hi) (by have:=hB.1; omega)
      have hbsl:=(hB.2 hi bs hbs).1
      have hbe:=BkI_all hB hbs
      have hatb:at? bk h=some bs:=by rw [hhi]; exact ag_ hbs
      have hat0:at? (h::tl) 0=some h:=rfl
      have hsub:sub? (h::tl) 1 ((h::tl).length:Int)=some tl:=by
        unfold sub?
        rw [if_pos ⟨by omega,by rw [List.length_cons]; omega,Int.le_refl _⟩,Int.toNat_natCast,List.take_length]
        rfl
      simp only [show decide ((0:Int)<((h::tl).length:Int))=true from decide_eq_true (by rw [List.length_cons]; omega),cond_true,hat0,hsub,hatb,Option.bind_some]
      refine su_ bs.length (fun (k:Nat) (z:List Int×(Int×(List Int×Unit)))=>∃ pu far',z=(tl++pu,((k:Int),(far',())))∧AI bs d far k pu far') ⟨[],far,by rw [List.append_nil]; rfl,AI_first bs d far⟩ (fun k z hk hz => ?_) (fun z hz => ?_)
      · obtain ⟨pu,far',rfl,A⟩:=hz
        obtain ⟨y,hy⟩:=az_ hk
        obtain ⟨j,hj2,row,hrow,x,hxr,hxe⟩:=(hbe y).1 (aw_ hy)
        have hAl:=A.len
        have hAm:=A.ms
        obtain ⟨v,hv⟩:=az_ (l:=far') (i:=j) (by have:=an_ hrow; omega)
        have hvy:at? far' y=some v:=by rw [hj2]; exact ag_ hv
        have hdh:at? far' h=some d:=by rw [hhi]; exact ag_ (A.keep hi d hdi hd0)
        rw [List.length_cons] at hIm
        by_cases hv0:v<0
        · refine ⟨_,?_,pu++[y],_,rfl,AI_add hd0 A hy hvy hv0⟩
          simp only [dlt hk,cond_true,ag_ hy,hvy,hdh,Option.bind_some,decide_eq_true hv0,ch_ (show Sm (tl++pu).length by rw [List.length_append]; show _≤1000000000; omega),ay_ (show Sm k by show _≤1000000000; omega),List.append_assoc,gd_ (n:=d+1) (by omega) (by omega)]
        · refine ⟨_,?_,pu,far',rfl,AI_skip A hy hvy (by omega)⟩
          simp only [dlt hk,cond_true,ag_ hy,hvy,Option.bind_some,decide_eq_false hv0,cond_false,ay_ (show Sm k by show _≤1000000000; omega)]
      · obtain ⟨pu,far',rfl,A⟩:=hz
        refine ⟨_,by simp only [dnl,cond_false]; rfl,_,rfl,_,_,rfl,BI_step hes hx I hd (fun y=>by rw [hhi]; exact hbe y) A,?_⟩
        have:=A.ms
        show (tl++pu).length+mu_ far'<(h::tl).length+mu_ far
        rw [List.length_append,List.length_cons]
        omega
theorem mea_eq {g:ac_} (hg:SmG g) (h0:cx_ g=0) {ps:List aa_} {es:List (List ai_)} (hG:GI g ps es) (hes:es.length=ps.length):∃ D,(D.length=ps.length∧LC es (yw_ g ps) D)∧(∀ (i:Nat) (v:Int),D[i]?=some v→v≤(ps.length:Int))∧∀ {τ:Type} (K:List Int×Unit→Option τ),meaK g (ps,es) K=K (D,()):=by
  obtain ⟨y,e,D,rfl,h,hb⟩:=mea_some hg h0 hG hes
  refine ⟨D,h,hb,fun K => ?_⟩
  rw [meaK_bind,e,Option.bind_some]
theorem vn_ {g:ac_} (hg:SmG g):∃ D,ed_ g=some (D,((exG g).2.1,()))∧(((exG g).2.1≠0∧D=[])∨((exG g).2.1=0∧D.length=(exG g).1.1.length∧LC (exG g).1.2 (yw_ g (exG g).1.1) D)):=by
  rw [dist_eq]
  simp only
  rw [mr_ hg,Option.bind_some]
  cases hE:(exG g).2.1 != 0 with
  | true =>
    rw [bne_iff_ne] at hE
    exact ⟨[],rfl,.inl ⟨hE,rfl⟩⟩
  | false =>
  have hE:(exG g).2.1=0:=by simpa using hE
  obtain ⟨h0,hG,hes⟩:=exG_ok hg hE
  obtain ⟨D,h1,_,h2⟩:=mea_eq hg h0 hG hes
  refine ⟨D,?_,.inr ⟨hE,h1⟩⟩
  simp only [cond_false]
  rw [show (exG g).1=((exG g).1.1,(exG g).1.2) from rfl,h2,hE]
theorem vi_ {g:ac_} (hg:SmG g):∃ D,ec_ g=some (D,((exG g).2.1,()))∧(((exG g).2.1≠0∧D=[])∨((exG g).2.1=0∧D.length=(exG g).1.1.length∧LC (exG g).1.2 (yw_ g (exG g).1.1) D)):=by
  unfold ec_
  rw [mp_ hg,Option.bind_some]
  cases hE:(exG g).2.1 != 0 with
  | true =>
    rw [bne_iff_ne] at hE
    exact ⟨[],rfl,.inl ⟨hE,rfl⟩⟩
  | false =>
  have hE:(exG g).2.1=0:=by simpa using hE
  obtain ⟨h0,hG,hes⟩:=exG_ok hg hE
  obtain ⟨D,e,h1,h2⟩:=vh_ hg h0 hG hes
  refine ⟨D,?_,.inr ⟨hE,h1,h2⟩⟩
  simp only [cond_false]
  rw [show (exG g).1=((exG g).1.1,(exG g).1.2) from rfl,e,Option.bind_some,hE]
theorem xy_ {g:ac_} (hg:SmG g):∃ D,ed_ g=some (D,((exG g).2.1,()))∧ec_ g=some (D,((exG g).2.1,()))∧D.length≤3000:=by
  obtain ⟨D,e1,h1⟩:=vn_ hg
  obtain ⟨D',e2,h2⟩:=vi_ hg
  rcases h1 with ⟨n1,rfl⟩ | ⟨z1,l1,c1⟩
  · rcases h2 with ⟨n2,rfl⟩ | ⟨z2,l2,c2⟩
    · exact ⟨[],e1,e2,Nat.zero_le _⟩
    · exact absurd z2 n1
  · rcases h2 with ⟨n2,rfl⟩ | ⟨z2,l2,c2⟩
    · exact absurd z1 n2
    · obtain rfl:=LC_uniq c1 c2 (by omega)
      exact ⟨D,e1,e2,by have:=(exG_ok hg z1).2.1.pI.n; omega⟩
end
section
set_option maxRecDepth 10000
theorem hm_ {l:List Int} (h:Sm l.length):bk_ l l=some (true,()):=by
  unfold bk_
  simp only [bne_self_eq_false,cond_false]
  refine cj_ l.length (fun i=>((i:Int),())) rfl (fun i hi => ?_) (by simp only [dnl,cond_false]; rfl) rfl
  obtain ⟨x,hx⟩:=az_ hi
  simp only [dlt hi,cond_true,ag_ hx,Option.bind_some,bne_self_eq_false,cond_false,ay_ (show Sm i by unfold Sm at h ⊢; omega)]
theorem nm_ {l:List bd_} (h:Sm l.length):cl_ l l=some (true,()):=by
  unfold cl_
  simp only [bne_self_eq_false,cond_false]
  refine cj_ l.length (fun i=>((i:Int),())) rfl (fun i hi => ?_) (by simp only [dnl,cond_false]; rfl) rfl
  obtain ⟨x,hx⟩:=az_ hi
  simp only [dlt hi,cond_true,ag_ hx,Option.bind_some,beq_self_eq_true,Bool.and_true,Bool.not_true,cond_false,ay_ (show Sm i by unfold Sm at h ⊢; omega)]
theorem same_act {a:cg_} (h1:Sm a.2.2.2.1.length) (h2:Sm a.2.2.2.2.1.length) (h3:Sm a.2.2.2.2.2.1.length) (h4:Sm a.2.2.2.2.2.2.1.length) (h5:Sm a.2.2.2.2.2.2.2.length):hq_ a a=some (true,()):=by
  unfold hq_
  simp only [bne_self_eq_false,cond_false]
  refine cj_ a.2.2.2.2.2.1.length (fun i=>((i:Int),())) rfl (fun i hi => ?_) (by simp only [dnl,cond_false]; rfl) ?_
  · obtain ⟨x,hx⟩:=az_ hi
    simp only [dlt hi,cond_true,ag_ hx,Option.bind_some,beq_self_eq_true,Bool.and_true,Bool.not_true,cond_false,ay_ (show Sm i by unfold Sm at h3 ⊢; omega)]
  · simp only [bv_,beq_self_eq_true,cond_true,hm_ h1,nm_ h2,hm_ h4,hm_ h5,Option.bind_some]
theorem same_room {r:ad_} (h:SmR r):li_ r r=some (true,()):=by
  have hgo:=h.go
  unfold li_
  simp only [bne_self_eq_false,cond_false,nm_ hgo,Option.bind_some,Bool.not_true]
  refine cj_ r.1.length (fun i=>((i:Int),())) rfl (fun i hi => ?_) (by simp only [dnl,cond_false]; rfl) ?_
  · obtain ⟨x,hx⟩:=az_ hi
    have hp:=h.pl
    simp only [dlt hi,cond_true,ag_ hx,Option.bind_some,beq_self_eq_true,Bool.not_true,cond_false,ay_ (show Sm i by unfold Sm at hp ⊢; omega)]
  simp only [bv_]
  refine cj_ r.2.1.length (fun i=>((i:Int),())) rfl (fun i hi => ?_) (by simp only [dnl,cond_false]; rfl) ?_
  · obtain ⟨x,hx⟩:=az_ hi
    have hp:=h.th
    simp only [dlt hi,cond_true,ag_ hx,Option.bind_some,beq_self_eq_true,Bool.and_true,Bool.not_true,cond_false,ay_ (show Sm i by unfold Sm at hp ⊢; omega)]
  simp only [bv_]
  refine cj_ r.2.2.1.length (fun i=>((i:Int),())) rfl (fun i hi => ?_) (by simp only [dnl,cond_false]; rfl) ?_
  · obtain ⟨x,hx⟩:=az_ hi
    have hp:=h.pr
    simp only [dlt hi,cond_true,ag_ hx,Option.bind_some,beq_self_eq_true,bne_self_eq_false,Bool.not_true,cond_false,nm_ (h.prn x (aw_ hx)).2,ay_ (show Sm i by unfold Sm at hp ⊢; omega)]
  simp only [bv_]
  refine cj_ r.2.2.2.1.length (fun i=>((i:Int),())) rfl (fun i hi => ?_) (by simp only [dnl,cond_false]; rfl) ?_
  · obtain ⟨x,hx⟩:=az_ hi
    have hp:=h.wy
    simp only [dlt hi,cond_true,ag_ hx,Option.bind_some,bne_self_eq_false,Bool.not_true,cond_false,nm_ (h.wyn x (aw_ hx)),ay_ (show Sm i by unfold Sm at hp ⊢; omega)]
  simp only [bv_]
  refine cj_ r.2.2.2.2.1.length (fun i=>((i:Int),())) rfl (fun i hi => ?_) (by simp only [dnl,cond_false]; rfl) ?_
  · obtain ⟨x,hx⟩:=az_ hi
    have hp:=h.ac
    obtain ⟨_,s2,s3,s4,s5,s6⟩:=h.acn x (aw_ hx)
    simp only [dlt hi,cond_true,ag_ hx,Option.bind_some,same_act s2 s3 s4 s5 s6,Bool.not_true,cond_false,ay_ (show Sm i by unfold Sm at hp ⊢; omega)]
  simp only [bv_]
  refine cj_ r.2.2.2.2.2.1.length (fun i=>((i:Int),())) rfl (fun i hi => ?_) (by simp only [dnl,cond_false]; rfl) rfl
  obtain ⟨x,hx⟩:=az_ hi
  have hp:=h.au
  simp only [dlt hi,cond_true,ag_ hx,Option.bind_some,beq_self_eq_true,Bool.and_true,Bool.not_true,cond_false,nm_ (h.aun x (aw_ hx)),ay_ (show Sm i by unfold Sm at hp ⊢; omega)]
theorem same_clue {c:ak_} (h:Sm c.2.2.2.2.2.1.length):gs_ c c=some (true,()):=by
  unfold gs_
  simp only [beq_self_eq_true,cond_true,hm_ h,Option.bind_some]
theorem same_note {n:cc_} (h1:Sm n.2.2.2.1.length) (h2:Sm n.2.2.2.2.2.2.2.2.2.1.length):gr_ n n=some (true,()):=by
  unfold gr_
  simp only [beq_self_eq_true,bne_self_eq_false,Bool.not_true,cond_false,same_clue (c:=n.2.2.2.2) h2,Option.bind_some]
  refine cj_ n.2.2.2.1.length (fun i=>((i:Int),())) rfl (fun i hi => ?_) (by simp only [dnl,cond_false]; rfl) rfl
  obtain ⟨x,hx⟩:=az_ hi
  simp only [dlt hi,cond_true,ag_ hx,Option.bind_some,beq_self_eq_true,Bool.and_true,Bool.not_true,cond_false,ay_ (show Sm i by unfold Sm at h1 ⊢; omega)]
theorem same_game {g:ac_} (hg:SmG g):lf_ g g=some (true,()):=by
  have h1:=hg.lk
  have h2:=hg.cd
  have h3:=hg.nt
  unfold lf_
  simp only [same_room hg.room,bne_self_eq_false,Bool.not_true,cond_false,Option.bind_some]
  refine cj_ g.2.1.length (fun i=>((i:Int),())) rfl (fun i hi => ?_) (by simp only [dnl,cond_false]; rfl) ?_
  · obtain ⟨x,hx⟩:=az_ hi
    simp only [dlt hi,cond_true,ag_ hx,Option.bind_some,beq_self_eq_true,Bool.and_true,Bool.not_true,cond_false,ay_ (show Sm i by show _≤1000000000; omega)]
  simp only [bv_]
  refine cj_ g.2.2.1.length (fun i=>((i:Int),())) rfl (fun i hi => ?_) (by simp only [dnl,cond_false]; rfl) ?_
  · obtain ⟨x,hx⟩:=az_ hi
    have:=hg.cdn x (aw_ hx)
    simp only [dlt hi,cond_true,ag_ hx,Option.bind_some,hm_ (show Sm x.length by show _≤1000000000; omega),Bool.not_true,cond_false,ay_ (show Sm i by show _≤1000000000; omega)]
  simp only [bv_]
  refine cj_ g.2.2.2.1.length (fun i=>((i:Int),())) rfl (fun i hi => ?_) (by simp only [dnl,cond_false]; rfl) rfl
  obtain ⟨x,hx⟩:=az_ hi
  obtain ⟨_,q2,q3⟩:=hg.ntn x (aw_ hx)
  simp only [dlt hi,cond_true,ag_ hx,Option.bind_some,same_note (show Sm x.2.2.2.1.length by show _≤1000000000; omega) (show Sm x.2.2.2.2.2.2.2.2.2.1.length by show _≤1000000000; omega),Bool.not_true,cond_false,ay_ (show Sm i by show _≤1000000000; omega)]
theorem same_pos {p:aa_} (h:PB p):dz_ p p=some (true,()):=by
  have h1:=h.n1
  have h2:=h.n2
  have h3:=h.n3
  have h4:=h.n4
  unfold dz_ ie_
  simp only [hm_ (show Sm p.1.1.length by show _≤1000000000; omega),hm_ (show Sm p.1.2.1.length by show _≤1000000000; omega),hm_ (show Sm p.1.2.2.length by show _≤1000000000; omega),Option.bind_some,cond_true,bne_self_eq_false,Bool.not_true,cond_false]
  refine cj_ p.2.length (fun i=>((i:Int),())) rfl (fun i hi => ?_) (by simp only [dnl,cond_false]; rfl) rfl
  obtain ⟨x,hx⟩:=az_ hi
  simp only [dlt hi,cond_true,ag_ hx,Option.bind_some,bne_self_eq_false,cond_false,ay_ (show Sm i by show _≤1000000000; omega)]
theorem yd_ {ps:List aa_} {es:List (List ai_)} (h1:ps.length≤3000) (h2:∀ p ∈ ps,PB p) (h3:es.length≤3000) (h4:∀ l ∈ es,l.length≤480):ee_ (ps,es) (ps,es)=some (true,()):=by
  unfold ee_
  simp only [bne_self_eq_false,cond_false,Option.bind_some]
  refine cj_ ps.length (fun i=>((i:Int),())) rfl (fun i hi => ?_) (by simp only [dnl,cond_false]; rfl) ?_
  · obtain ⟨x,hx⟩:=az_ hi
    simp only [dlt hi,cond_true,ag_ hx,Option.bind_some,same_pos (h2 x (aw_ hx)),Bool.not_true,cond_false,ay_ (show Sm i by show _≤1000000000; omega)]
  simp only [bv_]
  refine cj_ es.length (fun i=>((i:Int),())) rfl (fun i hi => ?_) (by simp only [dnl,cond_false]; rfl) rfl
  obtain ⟨row,hrow⟩:=az_ hi
  have hl:=h4 row (aw_ hrow)
  simp only [dlt hi,cond_true,ag_ hrow,Option.bind_some,bne_self_eq_false,cond_false]
  refine cj_ row.length (fun i=>((i:Int),())) rfl (fun k hk => ?_) (by simp only [dnl,cond_false]; rfl) ?_
  · obtain ⟨x,hx⟩:=az_ hk
    simp only [dlt hk,cond_true,ag_ hx,Option.bind_some,beq_self_eq_true,Bool.and_true,Bool.not_true,cond_false,ay_ (show Sm k by show _≤1000000000; omega)]
  · simp only [bv_,ay_ (show Sm i by show _≤1000000000; omega)]
theorem same_exG {g:ac_} (hg:SmG g):ee_ (exG g).1 (exG g).1=some (true,()):=by
  by_cases hE:(exG g).2.1=0
  · obtain ⟨h0,hG,hes⟩:=exG_ok hg hE
    have hn:=hG.pI.n
    exact yd_ (ps:=(exG g).1.1) (es:=(exG g).1.2) hn (fun p hp=>VP_PB hg (da_ h0) (hG.pI.v p hp)) (by rw [hes]; exact hn) hG.eL
  · have:(exG g).1=([],[]):=by
      unfold exG at hE ⊢
      cases hb:(xw_ g).2.1 != 0 with
      | true=>rfl
      | false =>
        rw [hb,cond_false] at hE
        rw [cond_false]
        cases ho:out g 3001 0 [(xw_ g).1] [] with
        | none=>rfl
        | some z =>
          rw [ho] at hE
          exact absurd rfl hE
    rw [this]
    exact yd_ (by decide) (fun p hp=>by cases hp) (by decide) (fun p hp=>by cases hp)
theorem law05_Large (g:ac_):∃ b,jq_ g=some (b,())∧(b=false→SmG g):=by
  obtain ⟨b,e,hb⟩:=law04_Far g
  unfold jq_
  rw [e,Option.bind_some]
  cases b with
  | true=>exact ⟨true,by simp only [cond_true,Option.bind_some,e],fun h=>by cases h⟩
  | false =>
  have hg:=hb rfl
  simp only [cond_false]
  rw [vj_ hg,Option.bind_some,Option.bind_some]
  cases hc:cx_ g != 0 with
  | true=>exact ⟨false,by simp only [cond_true,e,Option.bind_some],fun _=>hg⟩
  | false =>
  simp only [cond_false]
  have key:∀ c:Bool,∃ b,(((some (c,()):Option (Bool×Unit))).bind fun v4 =>
 (cond v4.1
 (some (true,()))
 ((dm_ g).bind fun v5 =>
 (cond (v5.2.1==2)
 (some (true,()))
 (some ((decide (200<(v5.1.1.length:Int))),()))))))=some (b,())∧(b=false→SmG g):=fun c=>by
    rw [Option.bind_some,mp_ hg,Option.bind_some]
    cases c with
    | true=>exact ⟨true,rfl,fun _=>hg⟩
    | false =>
      cases hE:(exG g).2.1==2 with
      | true=>exact ⟨true,by simp only [cond_false,hE,cond_true],fun _=>hg⟩
      | false=>exact ⟨_,by simp only [cond_false,hE]; rfl,fun _=>hg⟩
  have one:∀ (c:Bool) (o:Option (Bool×Unit)),(∃ d,o=some (d,()))→∃ d,cond c (some (true,())) o=some (d,()):=fun c o h=>by
    cases c with
    | true=>exact ⟨true,rfl⟩
    | false=>exact h
  obtain ⟨d,hd⟩:=one (decide (4<(g.1.1.length:Int))) _ (one (decide (4<(g.1.2.1.length:Int))) _ (one (decide (3<(g.1.2.2.1.length:Int))) _ (one (decide (2<g.1.2.2.2.2.2.2.1)) _ (one (decide (6<(g.1.2.2.2.2.1.length:Int))) _ (one (decide (4<(g.1.2.2.2.2.2.1.length:Int))) _ (one (decide (5<(g.2.2.2.1.length:Int))) _ ⟨decide (3<(g.2.1.length:Int)),rfl⟩))))))
  rw [hd]
  exact key d
theorem qg_ (hw:fw_=some (true,())) (g:ac_):dv_ g=some (true,()):=by
  obtain ⟨b,e,hb⟩:=law05_Large g
  unfold dv_
  rw [e,Option.bind_some]
  cases b with
  | true=>simp only [cond_true,hw,Option.bind_some]
  | false =>
  have hg:=hb rfl
  obtain ⟨D,e1,e2,hD⟩:=xy_ hg
  simp only [cond_false]
  rw [ref04_Copy hg,Option.bind_some,prove_Explore hg,Option.bind_some,mp_ hg,Option.bind_some,e1,Option.bind_some,e2,Option.bind_some,same_exG hg,Option.bind_some]
  simp only [cond_true,beq_self_eq_true,hm_ (show Sm D.length by show _≤1000000000; omega),same_game hg,hw,Option.bind_some]
end
section
set_option maxRecDepth 10000
noncomputable def shoX (G:cb_) (v40:List Int×Unit):Option (List af_×(Int×Unit)) :=
 ((at? v40.1 0).bind fun v41 =>
 ((at? v40.1 0).bind fun v42 =>
 (cond (decide (v42<0))
 (some ([],(50,())))
 ((ae_ (ρ:=(((List af_)×Unit)×Unit)) (fun (v43:(Int×(((List af_)×Unit)×Unit))) =>
 ((at? v40.1 v43.1).bind fun v44 =>
 ((at? v40.1 v43.1).bind fun v45 =>
 (cond (decide (0<v45))
 ((((at? G.2 v43.1).bind fun v46 =>
 ((ae_ (ρ:=(((List Int)×(Unit×(((List af_)×Unit)×Unit)))⊕((List Int)×(((List af_)×Unit)×Unit)))) (fun (v47:(Int×((List Int)×(Unit×(((List af_)×Unit)×Unit))))) =>
 (cond (decide (v47.1<(v46.length:Int)))
 ((at? v46 v47.1).bind fun v48 =>
 ((at? v40.1 v48.2).bind fun v49 =>
 ((at? v40.1 v48.2).bind fun v50 =>
 ((at? v40.1 v43.1).bind fun v51 =>
 ((at? v40.1 v43.1).bind fun v52 =>
 (cond (v50==(w64 (v52 - 1)))
 ((at? v40.1 v43.1).bind fun v53 =>
 ((at? v40.1 v43.1).bind fun v54 =>
 (cond (decide (0<v54))
 ((push? (α:=af_) v47.2.2.2.1.1 [v48.1]).bind fun v55 =>
 ((at? v47.2.1 0).bind fun v56 =>
 (some (Sum.inr (Sum.inr ((v47.2.1.set (0:Int).toNat v48.2),((v55,()),())))))))
 (some (Sum.inl ((w64 (v47.1+1)),(v47.2.1,((),((v47.2.2.2.1.1,()),())))))))))
 (some (Sum.inl ((w64 (v47.1+1)),(v47.2.1,((),((v47.2.2.2.1.1,()),()))))))))))))
 (some (Sum.inr (Sum.inl (v47.2.1,((),((v47.2.2.2.1.1,()),())))))))) (0,([v43.1],((),((v43.2.1.1,()),()))))).bind fun v57 =>
 (bv_ v57 (fun v58=>(some (v58.1,((v58.2.2.1.1,()),()))))
 (fun v59=>(some v59)))))).bind fun v60 =>
 ((at? v60.1 0).bind fun v61 =>
 (some (Sum.inl (v61,((v60.2.1.1,()),()))))))
 (some (Sum.inr ((v43.2.1.1,()),()))))))) (0,(([],()),()))).bind fun v62 =>
 (some (v62.1.1,(0,())))))))
theorem solve_eq:fv_=fun a0=>(cu_ a0).bind fun v0=>cond (v0.2.1 != 0) (cond (v0.2.1 != 0) (some ([],(v0.2.1,()))) none) (meaK a0 v0.1 fun v40=>shoX v0.1 v40):=by
  kernel_rfl
def shp (es:List (List ai_)) (D:List Int):Nat→Int→List af_
  | 0,_=>[]
  | k+1,i=>match ((at? es i).getD []).find? (fun x=>gi D x.2==(k:Int)) with
    | none=>[]
    | some x=>x.1::shp es D k x.2
theorem yc_ {α ρ:Type} {q:α→Bool} {f:α→ρ}:∀ (m:List α) (k:Nat),gg_ (fun _ y=>cond (q y) (some (f y)) none) k m=(m.find? q).map f
  | [],_=>rfl
  | x::m,k=>by
    unfold gg_
    cases hq:q x with
    | true=>rw [List.find?_cons_of_pos hq]; rfl
    | false =>
      rw [List.find?_cons_of_neg (by rw [hq]; decide)]
      exact yc_ m (k+1)
theorem bind_while {σ ρ υ:Type} {body:σ→Option (σ⊕ρ)} {s:σ} {r:ρ} {K:ρ→Option υ} {x:Option υ} (h:ae_ body s=some r) (hk:K r=x):(ae_ body s).bind K=x:=by
  rw [h,Option.bind_some,hk]
theorem loop_path {σ ρ:Type} (F:Int→List af_→σ) (G:List af_→ρ) {es:List (List ai_)} {fin:Nat→Bool} {D:List Int} (hL:LC es fin D) (hD:D.length≤3000) (hxx:∀ l ∈ es,∀ x ∈ l,0≤x.2∧x.2<(D.length:Int)) {body:σ→Option (σ⊕ρ)}
    (hz:∀ i acc,at? D i=some 0→body (F i acc)=some (.inr (G acc)))
    (hs:∀ (i:Int) (k:Nat) acc row x,at? D i=some ((k+1:Nat):Int)→k≤1000000→acc.length≤1000000→at? es i=some row→row.find? (fun x=>gi D x.2==(k:Int))=some x→body (F i acc)=some (.inl (F x.2 (acc++[x.1])))) :
    ∀ (k:Nat) (i:Int) (acc:List af_),at? D i=some (k:Int)→acc.length+k≤1000000→ae_ body (F i acc)=some (G (acc++shp es D k i))
  | 0,i,acc,h,_=>by
    unfold shp
    rw [List.append_nil]
    exact bw_ (hz i acc h)
  | k+1,i,acc,h,hk=>by
    obtain ⟨n,rfl,hn⟩:=ua_ h
    obtain ⟨l,x,hl,hx,hat⟩:=hL.dn n k hn
    have hatl:at? es (n:Int)=some l:=ag_ hl
    cases hf:l.find? (fun x=>gi D x.2==(k:Int)) with
    | none =>
      have:=List.find?_eq_none.1 hf x hx
      rw [mw_ hat] at this
      simp at this
    | some y =>
      have hy:gi D y.2=(k:Int):=by
        have:=List.find?_some hf
        exact beq_iff_eq.1 this
      obtain ⟨y0,y1⟩:=hxx l (aw_ hl) y (List.mem_of_find?_eq_some hf)
      have haty:at? D y.2=some (k:Int):=by rw [op_ y0 y1,hy]
      have:=loop_path F G hL hD hxx hz hs k y.2 (acc++[y.1]) haty (by rw [List.length_append,List.length_singleton]; omega)
      refine bo_ (hs (n:Int) k acc l y h (by omega) (by omega) hatl hf) ?_
      have e:shp es D (k+1) (n:Int)=y.1::shp es D k y.2:=by
        rw [shp,hatl,Option.getD_some,hf]
      rw [this,e,List.append_assoc]
      rfl
theorem shoX_eq {ps:List aa_} {es:List (List ai_)} {fin:Nat→Bool} {D:List Int} (hL:LC es fin D) (hD:D.length≤3000) (h1:1≤D.length) (hb:∀ (i:Nat) (v:Int),D[i]?=some v→v≤(D.length:Int)) (hes:es.length=D.length) (hel:∀ l ∈ es,l.length≤480) (hxx:∀ l ∈ es,∀ x ∈ l,0≤x.2∧x.2<(D.length:Int)) :
    shoX (ps,es) (D,())=some (cond (decide (gi D 0<0)) ([],(50,())) (shp es D (gi D 0).toNat 0,(0,()))):=by
  unfold shoX
  have h0:at? D 0=some (gi D 0):=op_ (by omega) (by omega)
  simp only [h0,Option.bind_some]
  cases hc:decide (gi D 0<0) with
  | true=>rfl
  | false =>
  have hc:=of_decide_eq_false hc
  have hle:gi D 0≤(D.length:Int):=by
    obtain ⟨i,_,hi⟩:=ua_ h0
    exact hb i _ hi
  simp only [cond_false]
  refine bind_while (r:=((shp es D (gi D 0).toNat 0,()),())) ?_ rfl
  refine loop_path (F:=fun i acc=>(i,((acc,()),()))) (G:=fun acc=>((acc,()),())) hL hD hxx (fun i acc h => ?_) (fun i k acc row x h hk ha hrow hf => ?_) (gi D 0).toNat 0 [] (by rw [h0]; congr 1; omega) (by show 0+_≤_; omega)
  · simp only [h,Option.bind_some]
    rfl
  · have hrl:row.length≤480:=by
      obtain ⟨j,_,hj⟩:=ua_ hrow
      exact hel row (aw_ hj)
    simp only [h,Option.bind_some,show decide ((0:Int)<((k+1:Nat):Int))=true from decide_eq_true (by omega),cond_true,hrow]
    refine Eq.trans (congrArg (fun o=>Option.bind o _) (bn_ row (fun _ y=>cond (gi D y.2==(k:Int)) (some (Sum.inr ([y.2],((acc++[y.1],()),())):((List Int)×(Unit×(((List af_)×Unit)×Unit)))⊕((List Int)×(((List af_)×Unit)×Unit)))) none) (fun j=>((j:Int),([i],((),((acc,()),()))))) (r0:=Sum.inl ([i],((),((acc,()),())))) (x:=some ([x.2],((acc++[x.1],()),()))) (fun j y hy => ?_) ?_ ?_)) ?_
    · obtain ⟨jr,_,hj⟩:=ua_ hrow
      obtain ⟨y0,y1⟩:=hxx row (aw_ hj) y (aw_ hy)
      have hjl:=an_ hy
      simp only [dlt hjl,cond_true,ag_ hy,op_ y0 y1,Option.bind_some,gd_ (n:=((k+1:Nat):Int) - 1) (by omega) (by omega),show ((k+1:Nat):Int) - 1=(k:Int) by omega,gd_ (n:=(k:Int)) (by omega) (by omega),ay_ (show Sm j by show _≤1000000000; omega),ch_ (show Sm acc.length by show _≤1000000000; omega)]
      cases gi D y.2==(k:Int) <;> rfl
    · simp only [dnl,cond_false]
    · rw [yc_,hf]
      rfl
    · rfl
theorem inn_len (g:ac_) (p:aa_):∀ (ms:List af_) (e e':List ai_) (ps ps':List aa_),inn g p ms e ps=some (e',ps')→ps.length≤ps'.length
  | [],e,e',ps,ps',h=>by
    unfold inn at h
    obtain ⟨_,rfl⟩:=Prod.mk.inj (Option.some.inj h)
    exact Nat.le_refl _
  | m::ms,e,e',ps,ps',h=>by
    unfold inn at h
    cases hw:wh ps ((stepP g p m).getD eP) with
    | some n =>
      simp only [hw] at h
      exact inn_len g p ms _ _ _ _ h
    | none =>
      simp only [hw] at h
      split at h
      · cases h
      · have:=inn_len g p ms _ _ _ _ h
        rw [List.length_append] at this
        omega
theorem out_len (g:ac_):∀ (n i:Nat) (ps ps':List aa_) (es es':List (List ai_)),out g n i ps es=some (ps',es')→ps.length≤ps'.length
  | 0,i,ps,ps',es,es',h=>by
    unfold out at h
    obtain ⟨rfl,_⟩:=Prod.mk.inj (Option.some.inj h)
    exact Nat.le_refl _
  | n+1,i,ps,ps',es,es',h=>by
    unfold out at h
    cases hp:ps[i]? with
    | none =>
      simp only [hp] at h
      obtain ⟨rfl,_⟩:=Prod.mk.inj (Option.some.inj h)
      exact Nat.le_refl _
    | some p =>
      simp only [hp] at h
      cases hin:inn g p (pmv g p) [] ps with
      | none=>simp only [hin] at h; cases h
      | some z =>
        simp only [hin] at h
        exact Nat.le_trans (inn_len g p _ _ _ _ _ hin) (out_len g n _ _ _ _ _ h)
theorem exG_pos {g:ac_} (he:(exG g).2.1=0):1≤(exG g).1.1.length:=by
  unfold exG at he ⊢
  cases hb:(xw_ g).2.1 != 0 with
  | true =>
    rw [hb] at he
    rw [bne_iff_ne] at hb
    exact absurd he hb
  | false =>
  rw [hb,cond_false] at he
  cases ho:out g 3001 0 [(xw_ g).1] [] with
  | none =>
    rw [ho] at he
    exact absurd (show (2:Int)=0 from he) (by decide)
  | some z=>exact out_len g _ _ _ _ _ _ ho
theorem prove_Solve {g:ac_} (hg:SmG g):∃ D,(((exG g).2.1≠0∧fv_ g=some ([],((exG g).2.1,())))∨((exG g).2.1=0∧D.length=(exG g).1.1.length∧LC (exG g).1.2 (yw_ g (exG g).1.1) D∧fv_ g=some (cond (decide (gi D 0<0)) ([],(50,())) (shp (exG g).1.2 D (gi D 0).toNat 0,(0,()))))):=by
  rw [solve_eq]
  simp only
  rw [mr_ hg,Option.bind_some]
  cases hE:(exG g).2.1 != 0 with
  | true =>
    rw [bne_iff_ne] at hE
    exact ⟨[],.inl ⟨hE,rfl⟩⟩
  | false =>
  have hE:(exG g).2.1=0:=by simpa using hE
  obtain ⟨h0,hG,hes⟩:=exG_ok hg hE
  obtain ⟨D,h1,hb,h2⟩:=mea_eq hg h0 hG hes
  have hpos:=exG_pos hE
  have hn:=hG.pI.n
  refine ⟨D,.inr ⟨hE,h1.1,h1.2,?_⟩⟩
  simp only [cond_false]
  rw [show (exG g).1=((exG g).1.1,(exG g).1.2) from rfl,h2]
  exact shoX_eq h1.2 (by rw [h1.1]; exact hn) (by rw [h1.1]; exact hpos) (by rw [h1.1]; exact hb) (by rw [h1.1]; exact hes) hG.eL (fun l hl x hx=>by rw [h1.1]; exact (hG.eI l hl x hx).1)
def g0:ac_:=(([[104,97,108,108],[118,97,117,108,116]],([([98,111,120],(0,(2,0))),([100,111,111,114],(0,(2,0)))],([([107,101,121],(0,[(0,(1,false))]))],([(0,(1,[(1,(1,false))]))],([([111,112,101,110],(0,(0,([],([],([(0,1)],([],[]))))))),([116,117,114,110],(0,((-1),([0],([],([(1,1)],([0],[])))))))],([],(1,[(1,(1,false))]))))))),([(2,4)],([[3,1]],([([108,101,97,102],(0,(0,([],(2,(0,(1,(4,(0,([],false)))))))))),([98,97,99,107],(0,(0,([(0,(0,false))],(3,(1,(0,(0,(0,([],false)))))))))),([99,97,114,100],(1,((-1),([],(0,(0,(0,(0,(0,([],false))))))))))],1))))
end
section
set_option maxRecDepth 100000
def G0:cb_:=([(([0,0],([0],[0])),[true,true,false]),(([1,0],([0],[0])),[true,true,false]),(([1,0],([-2],[0])),[true,true,false]),(([1,1],([-1],[0])),[true,true,false]),(([1,1],([-1],[1])),[true,true,true]),(([1,1],([-1],[0])),[true,true,true])],
  [[((0,(4,0)),1)],[((0,(2,0)),2),((0,(4,0)),1)],[((0,(3,0)),1),((0,(4,0)),2),((0,(4,1)),3)],[((0,(1,0)),4),((0,(4,0)),3)],[((0,(1,0)),5)],[((0,(1,0)),4),((0,(4,0)),5)]])
def D0:List Int:=[3,2,1,0,0,0]
theorem exG_g0:exG g0=(G0,(0,())):=by kernel_rfl
theorem SmG_g0:SmG g0:=by
  refine ⟨⟨?_,?_,?_,?_,?_,?_,?_,?_,?_,?_,?_,?_,?_⟩,?_,?_,?_,?_,?_,?_,?_,?_,?_⟩ <;> decide
def chkD (es:List (List ai_)) (fin:Nat→Bool) (D:List Int):Bool :=
  (List.range D.length).all fun i=>match D[i]? with
    | none=>false
    | some v=>decide (-1≤v)&&((v==0)==fin i)&&match es[i]? with
      | none=>false
      | some l=>(decide (v≤0)||l.any (fun x=>at? D x.2==some (v - 1)))&&l.all fun x=>match at? D x.2 with
        | none=>true
        | some k=>decide (k<0)||(decide (0≤v)&&decide (v≤k+1))
theorem chkD_at {es:List (List ai_)} {fin:Nat→Bool} {D:List Int} (h:chkD es fin D=true) {i:Nat} {v:Int} (hv:D[i]?=some v) :
    -1≤v∧((v==0)=fin i)∧∃ l,es[i]?=some l∧(v≤0∨∃ x ∈ l,at? D x.2=some (v - 1))∧∀ x ∈ l,∀ k,at? D x.2=some k→k<0∨(0≤v∧v≤k+1):=by
  have:=List.all_eq_true.1 h i (List.mem_range.2 (an_ hv))
  simp only [hv] at this
  rw [Bool.and_eq_true,Bool.and_eq_true,decide_eq_true_iff,beq_iff_eq] at this
  obtain ⟨⟨h1,h2⟩,h3⟩:=this
  refine ⟨h1,h2,?_⟩
  cases hl:es[i]? with
  | none=>rw [hl] at h3; cases h3
  | some l =>
    simp only [hl] at h3
    rw [Bool.and_eq_true,Bool.or_eq_true,decide_eq_true_iff,List.any_eq_true,List.all_eq_true] at h3
    refine ⟨l,rfl,h3.1.imp id fun ⟨x,hx,e⟩=>⟨x,hx,beq_iff_eq.1 e⟩,fun x hx k hk => ?_⟩
    have:=h3.2 x hx
    simp only [hk] at this
    rw [Bool.or_eq_true,Bool.and_eq_true,decide_eq_true_iff,decide_eq_true_iff,decide_eq_true_iff] at this
    exact this
theorem chkD_LC {es:List (List ai_)} {fin:Nat→Bool} {D:List Int} (hes:es.length=D.length) (h:chkD es fin D=true):LC es fin D:=by
  refine ⟨fun i v hv=>(chkD_at h hv).1,fun i v hv => ?_,fun i k hk => ?_,fun i l x k hl hx hat => ?_⟩
  · rw [← (chkD_at h hv).2.1,beq_iff_eq]
  · obtain ⟨_,_,l,hl,h1,_⟩:=chkD_at h hk
    rcases h1 with h1 | ⟨x,hx,e⟩
    · omega
    · refine ⟨l,x,hl,hx,?_⟩
      rw [e]
      congr 1
      omega
  · obtain ⟨v,hv⟩:=az_ (l:=D) (i:=i) (by have:=an_ hl; omega)
    obtain ⟨_,_,l',hl',_,h2⟩:=chkD_at h hv
    rw [hl] at hl'
    obtain rfl:=Option.some.inj hl'
    rcases h2 x hx k hat with h3 | h3
    · omega
    · exact ⟨v,hv,h3⟩
theorem chk_g0:chkD G0.2 (yw_ g0 G0.1) D0=true:=by kernel_rfl
theorem Solve_g0:fv_ g0=some ([(0,(4,0)),(0,(2,0)),(0,(4,1))],(0,())):=by
  obtain ⟨D,h⟩:=prove_Solve SmG_g0
  rw [exG_g0] at h
  rcases h with ⟨h,_⟩ | ⟨_,h1,h2,h3⟩
  · exact absurd rfl h
  · have hD:D=D0:=LC_uniq h2 (chkD_LC rfl chk_g0) h1
    have e:((cond (decide (gi D0 0<0)) ([],(50,())) (shp G0.2 D0 (gi D0 0).toNat 0,(0,()))):List af_×(Int×Unit))=([(0,(4,0)),(0,(2,0)),(0,(4,1))],(0,())):=by kernel_rfl
    rw [h3,hD]
    exact congrArg some e
theorem law05_works:fw_=some (true,()):=by
  unfold fw_
  refine Eq.trans (congrArg (fun o=>Option.bind o _) Solve_g0) ?_
  kernel_rfl
theorem law05_ProveExplores_all (g:ac_):dv_ g=some (true,()):=qg_ law05_works g
end
end Go.Proofs.YtfcgcpjnpdkjmaaGreatDoor.Rx
