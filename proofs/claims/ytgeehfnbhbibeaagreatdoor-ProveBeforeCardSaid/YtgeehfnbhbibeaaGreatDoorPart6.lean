/- A part of the proof: what the functions of the program compute, shown over the model. -/
import Derived.KernelRfl
import Derived.Test.YtgeehfnbhbibeaaGreatDoorPart3
import Derived.Test.YtgeehfnbhbibeaaGreatDoorPart5
set_option linter.unusedSectionVars false
set_option linter.unusedVariables false
set_option linter.unusedSimpArgs false
namespace Go.Proofs.YtgeehfnbhbibeaaGreatDoor.Rx
open Go Pad Rex Sum
section
set_option maxRecDepth 10000
def nv (es:List (List ac_)) (a:List Int) (r:Nat) (i:Nat) (v:Int):Int:=cond (decide (v<0)&&(es[i]?.getD []).any (λx=>gi a x.2==(r:Int) - 1)) (r:Int) v
structure RnI (es:List (List ac_)) (fin:Nat→Bool) (r:Nat) (a:List Int):Prop where
  b:∀ (i:Nat) (v:Int),a[i]?=some v→v = -1∨(0≤v∧v+1≤(r:Int))
  z:∀ (i:Nat) (v:Int),a[i]?=some v→(v=0↔fin i=true)
  dn:∀ (i k:Nat),a[i]?=some ((k+1:Nat):Int)→∃ l x,es[i]?=some l∧x ∈ l∧at? a x.2=some (k:Int)
  up:∀ (i:Nat) (l:List ac_) (x:ac_) (k:Nat),es[i]?=some l→x ∈ l→at? a x.2=some (k:Int)→k+2≤r→∃ v,a[i]?=some v∧0≤v∧v≤(k:Int)+1
theorem ac1 {es:List (List ac_)} {a:List Int} {r i:Nat} {v:Int} (h:0≤v):nv es a r i v=v:=by
  unfold nv
  rw[c1_ (by omega)]
  rfl
theorem mo_ (es:List (List ac_)) (a:List Int) (r i:Nat) (v:Int):nv es a r i v=v∨(nv es a r i v=(r:Int)∧v<0∧∃ l x,es[i]?=some l∧x ∈ l∧gi a x.2=(r:Int) - 1):=by
  unfold nv
  cases hc:(decide (v<0)&&(es[i]?.getD []).any (λx=>gi a x.2==(r:Int) - 1)) with
  | false=>exact .inl rfl
  | true =>
    rw[a1_,h1_,h4_] at hc
    obtain⟨h1,x,hx,hg⟩:=hc
    cases he:es[i]? with
    | none =>
      rw[he] at hx
      cases hx
    | some l =>
      rw[he] at hx
      exact .inr ⟨rfl,h1,l,x,rfl,hx,f4_.1 hg⟩
theorem ca9 {a b:List Int} {f:Nat→Int→Int} (h:∀ j:Nat,b[j]?=(a[j]?).map (f j)) {x v:Int} (hx:at? a x=some v):at? b x=some (f x.toNat v):=by
  obtain⟨q1,q2,q3⟩:=da_ hx
  rw[show x=((x.toNat:Nat):Int) by omega,bd5,h,b8_,q3]
  rfl
theorem co2 {es:List (List ac_)} {fin:Nat→Bool} {r:Nat} {a b:List Int} (hr:1≤r) (hes:es.length=a.length) (hx:∀ l ∈ es,∀ x ∈ l,0≤x.2∧x.2<(a.length:Int)) (h:RnI es fin r a) (hb:∀ j:Nat,b[j]?=(a[j]?).map (nv es a r j)):RnI es fin (r+1) b:=by
  have back:∀ {i:Nat} {w:Int},b[i]?=some w→∃ v,a[i]?=some v∧w=nv es a r i v:=λ{i w} hw=>by
    rw[hb] at hw
    obtain⟨v,hv,rfl⟩:=f5_.1 hw
    exact⟨v,hv,rfl⟩
  refine⟨λi w hw => ?_,λi w hw => ?_,λi k hk => ?_,λi l x k hl hxl hat hkr => ?_⟩
  · obtain⟨v,hv,rfl⟩:=back hw
    have:=h.b i v hv
    rcases mo_ es a r i v with e | ⟨e,_⟩
    · rw[e];omega
    · rw[e];omega
  · obtain⟨v,hv,rfl⟩:=back hw
    have hz:=h.z i v hv
    rcases mo_ es a r i v with e | ⟨e,hneg,_⟩
    · rw[e];exact hz
    · rw[e,← hz]
      constructor
      · intro h;omega
      · intro h;omega
  · obtain⟨v,hv,e0⟩:=back hk
    rcases mo_ es a r i v with e | ⟨e,hneg,l,x,hl,hxl,hg⟩
    · rw[e] at e0
      obtain⟨l,x,hl,hxl,hat⟩:=h.dn i k (by rw[hv,← e0])
      exact⟨l,x,hl,hxl,by rw[ca9 hb hat,ac1 (by omega)]⟩
    · rw[e] at e0
      have hb2:=hx l (ax_ hl) x hxl
      have hat:=ol_ (l:=a) hb2.1 hb2.2
      refine⟨l,x,hl,hxl,?_⟩
      rw[ca9 hb hat,ac1 (by omega),hg]
      congr 1
      omega
  · have hb2:=hx l (ax_ hl) x hxl
    have hata:=ol_ (l:=a) hb2.1 hb2.2
    have hatb:=ca9 hb hata
    rw[hat] at hatb
    have hk:=a6_ hatb
    obtain⟨q1,q2,q3⟩:=da_ hata
    have hbnd:=h.b _ _ q3
    have hgk:gi a x.2=(k:Int):=by
      rcases mo_ es a r x.2.toNat (gi a x.2) with e | ⟨e,_⟩
      · rw[← e,← hk]
      · rw[e] at hk;omega
    obtain⟨v,hv⟩:=bd_ (l:=a) (i:=i) (by have:=am_ hl;omega)
    have hvb:b[i]?=some (nv es a r i v):=by rw[hb,hv];rfl
    by_cases hv0:0≤v
    · by_cases hkr2:k+2≤r
      · obtain⟨v',e,r1,r2⟩:=h.up i l x k hl hxl (by rw[hata,hgk]) hkr2
        rw[hv] at e
        obtain rfl:=a6_ e
        exact⟨v,by rw[hvb,ac1 hv0],r1,r2⟩
      · have:=h.b i v hv
        exact⟨v,by rw[hvb,ac1 hv0],hv0,by omega⟩
    · by_cases hkr2:k+2≤r
      · obtain⟨v',e,r1,r2⟩:=h.up i l x k hl hxl (by rw[hata,hgk]) hkr2
        rw[hv] at e
        obtain rfl:=a6_ e
        exact absurd r1 hv0
      · have:nv es a r i v=(r:Int):=by
          unfold nv
          rw[b5_ (by omega),hl,c2_]
          rw[show ((some l).getD [])=l from rfl,h4_.2 ⟨x,hxl,by rw[f4_,hgk];omega⟩]
          rfl
        exact⟨_,hvb,by rw[this];omega,by rw[this];omega⟩
theorem RnI_end {es:List (List ac_)} {fin:Nat→Bool} {r:Nat} {a:List Int} (hx:∀ l ∈ es,∀ x ∈ l,0≤x.2∧x.2<(a.length:Int)) (hes:es.length=a.length) (h:RnI es fin r a) (hs:∀ (i:Nat) (v:Int),a[i]?=some v→nv es a r i v=v):LC es fin a:=by
  refine⟨λi v hv=>by have:=h.b i v hv;omega,h.z,h.dn,λi l x k hl hxl hat => ?_⟩
  obtain⟨v,hv⟩:=bd_ (l:=a) (i:=i) (by have:=am_ hl;omega)
  by_cases hkr2:k+2≤r
  · exact h.up i l x k hl hxl hat hkr2
  · obtain⟨q1,q2,q3⟩:=da_ hat
    have hb1:=h.b _ _ q3
    have hb2:=h.b _ _ hv
    have hn:=hs i v hv
    by_cases hv0:0≤v
    · exact⟨v,hv,hv0,by omega⟩
    · exfalso
      unfold nv at hn
      rw[b5_ (by omega),hl,c2_] at hn
      rw[show ((some l).getD [])=l from rfl,h4_.2 ⟨x,hxl,by rw[f4_,mr_ hat];omega⟩] at hn
      have:(r:Int)=v:=hn
      omega
theorem cc0 {g:ad_} {ps:List aa_} (es:List (List ac_)):RnI es (ty_ g ps) 1 (xe_ g ps):=by
  refine⟨λi v hv => ?_,λi v hv => ?_,λi k hk => ?_,λi l x k _ _ _ hk=>by omega⟩
  · rcases qs_ hv with ⟨rfl,_⟩ | ⟨rfl,_⟩
    · exact .inr ⟨by omega,by omega⟩
    · exact .inl rfl
  · rcases qs_ hv with ⟨rfl,h⟩ | ⟨rfl,h⟩
    · exact⟨λ_=>h,λ_=>rfl⟩
    · rw[h]
      exact⟨λe=>by omega,λe=>by cases e⟩
  · rcases qs_ hk with ⟨e,_⟩ | ⟨e,_⟩<;>omega
theorem ca5 {l:List ac_} (q:ac_→Bool) {b:List Int} {i:Nat} {v r:Int} (hv:b[i]?=some v) (hr:0≤r) {υ:Type} {body:(Bool×(Int×(List Int×Unit)))→Option ((Bool×(Int×(List Int×Unit)))⊕(Bool×(List Int×Unit)))} {c:Bool} {K:(Bool×(List Int×Unit))→Option υ} {x:Option υ} (hl:Sm l.length)
    (hA:∀ (k:Nat) c b' y,b'[i]?=some y→0≤y→body (c,((k:Int),(b',())))=some (.inr (c,(b',()))))
    (hB:∀ c b',body (c,((l.length:Int),(b',())))=some (.inr (c,(b',()))))
    (hC:∀ (k:Nat) e,l[k]?=some e→v<0→body (c,((k:Int),(b,())))=some (.inl (cond (q e) (true,(w64 ((k:Int)+1),(b.set i r,()))) (c,(w64 ((k:Int)+1),(b,()))))))
    (hk:K (cond (decide (v<0)&&l.any q) (true,(b.set i r,())) (c,(b,())))=x):(ag_ body (c,(0,(b,())))).bind K=x:=by
  by_cases hv0:0≤v
  · rw[c1_ (by omega)] at hk
    have e0:ag_ body (c,(0,(b,())))=some (c,(b,())):=br_ (hA 0 c b v hv hv0)
    rw[e0,a0_]
    exact hk
  · rw[b5_ (by omega),c2_] at hk
    have gen:∀ (m k:Nat),k+m=l.length→ag_ body (c,((k:Int),(b,())))=some (cond ((l.drop k).any q) (true,(b.set i r,())) (c,(b,()))):=by
      intro m
      induction m with
      | zero =>
        intro k hk
        obtain rfl:k=l.length:=by omega
        rw[o6_]
        exact br_ (hB c b)
      | succ m ih =>
        intro k hk
        have hkl:k<l.length:=by omega
        obtain⟨e,he⟩:=bd_ hkl
        have hd:l.drop k=e::l.drop (k+1):=by
          rw[j1_ hkl]
          rw[a7_ hkl] at he
          rw[a6_ he]
        have h1:=hC k e he (by omega)
        rw[ba_ (show Sm k by unfold Sm at hl ⊢; omega)] at h1
        rw[hd,m5_]
        cases hq:q e with
        | true =>
          rw[hq] at h1
          refine bo_ h1 (br_ (hA (k+1) true (b.set i r) r ?_ hr))
          rw[e3_ (am_ hv)]
        | false =>
          rw[hq] at h1
          exact bo_ h1 (ih (k+1) (by omega))
    have:=gen l.length 0 (by omega)
    rw[List.drop_zero] at this
    have e0:ag_ body (c,(0,(b,())))=some (cond (l.any q) (true,(b.set i r,())) (c,(b,()))):=this
    rw[e0,a0_]
    exact hk
def kp (act:Int) (x:ac_):Bool:=!(x.1.2.1==4&&x.1.2.2==act)
def esF (act:Int) (es:List (List ac_)):List (List ac_):=es.map λl=>l.filter (kp act)
theorem bx9 (x:ac_) (act:Int):gv_ x act=some (!(kp act x),()):=by
  unfold gv_ kp
  cases x.1.2.1==4 with
  | false=>rfl
  | true=>cases x.1.2.2==act<;>rfl
theorem esF_len (act:Int) (es:List (List ac_)):(esF act es).length=es.length:=d6_ _
theorem bx5 {act:Int} {es:List (List ac_)} {i:Nat} {l:List ac_} (h:es[i]?=some l):(esF act es)[i]?=some (l.filter (kp act)):=by
  unfold esF
  rw[d8_,h]
  rfl
theorem esF_mem {act:Int} {es:List (List ac_)} {l:List ac_} (h:l ∈ esF act es):∃ l' ∈ es,l=l'.filter (kp act):=by
  obtain⟨l',h1,h2⟩:=d0_.1 h
  exact⟨l',h1,h2.symm⟩
theorem esF_all {es:List (List ac_)} {act:Int} (h:∀ l ∈ es,∀ x ∈ l,x.1.2.1=4→x.1.2.2≠act):esF act es=es:=by
  unfold esF
  refine e4_ (m8_ λl hl => ?_) (List.map_id _)
  refine n0_.2 λx hx => ?_
  unfold kp
  cases hk:x.1.2.1==4 with
  | false=>rfl
  | true =>
    have:=h l hl x hx (f4_.1 hk)
    rw[c2_,l4_,o8_]
    exact this
theorem tj_ {σ ρ υ:Type} (n:Nat) (Inv:Nat→σ→Prop) {body:σ→Option (σ⊕ρ)} {z0:σ} {K:ρ→Option υ} {Q:υ→Prop} (h0:Inv 0 z0)
    (hs:∀ j z,j<n→Inv j z→∃ z',body z=some (.inl z')∧Inv (j+1) z') (he:∀ z,Inv n z→∃ r,body z=some (.inr r)∧∃ y,K r=some y∧Q y):∃ y,(ag_ body z0).bind K=some y∧Q y:=by
  have gen:∀ (k i:Nat) (z:σ),i+k=n→Inv i z→∃ r,ag_ body z=some r∧∃ y,K r=some y∧Q y:=by
    intro k
    induction k with
    | zero =>
      intro i z hi hz
      obtain rfl:i=n:=by omega
      obtain⟨r,e,hr⟩:=he z hz
      exact⟨r,br_ e,hr⟩
    | succ k ih =>
      intro i z hi hz
      obtain⟨z',e,hz'⟩:=hs i z (by omega) hz
      obtain⟨r,er,hr⟩:=ih (i+1) z' (by omega) hz'
      exact⟨r,bo_ e er,hr⟩
  obtain⟨r,e,hr⟩:=gen n 0 z0 (by omega) h0
  rw[e,a0_]
  exact hr
theorem br0:∀ {a b:List Int},a.length=b.length→(∀ (j:Nat) (v w:Int),a[j]?=some v→b[j]?=some w→w<0→v<0)→(mp_ b≤mp_ a∧((∃ (j:Nat) (v w:Int),a[j]?=some v∧b[j]?=some w∧v<0∧0≤w)→mp_ b<mp_ a))
  | [],[],_,_=>⟨c3_ _,λ⟨j,v,w,h,_⟩=>by simp at h⟩
  | [],_::_,h,_=>by cases h
  | _::_,[],h,_=>by cases h
  | x::a,y::b,h,hm=>by
    obtain⟨h1,h2⟩:=br0 (a:=a) (b:=b) (by simpa using h) λj v w hv hw=>hm (j+1) v w hv hw
    have h3:=hm 0 x y rfl rfl
    have ea:mp_ (x::a)=mp_ a+(if x<0 then 1 else 0):=by unfold mp_;rw[i2_];simp
    have eb:mp_ (y::b)=mp_ b+(if y<0 then 1 else 0):=by unfold mp_;rw[i2_];simp
    rw[ea,eb]
    refine⟨by split<;>split<;>omega,λ⟨j,v,w,hv,hw,hv0,hw0⟩ => ?_⟩
    match j with
    | 0 =>
      obtain rfl:x=v:=a6_ hv
      obtain rfl:y=w:=a6_ hw
      rw[if_pos hv0,if_neg (by omega)]
      omega
    | j+1 =>
      have:=h2 ⟨j,v,w,hv,hw,hv0,hw0⟩
      split<;>split<;>omega
theorem au7 {es:List (List ac_)} {fin:Nat→Bool} {n:Nat} (hn:n≤3000) (hes:es.length=n) (hx:∀ l ∈ es,∀ x ∈ l,0≤x.2∧x.2<(n:Int)) {υ:Type} {body:(Int×(Bool×(List Int×Unit)))→Option ((Int×(Bool×(List Int×Unit)))⊕(List Int×Unit))} {K:(List Int×Unit)→Option υ} {Q:υ→Prop} {a0:List Int}
    (h0:RnI es fin 1 a0) (hl0:a0.length=n)
    (hend:∀ (r:Int) a,body (r,(false,(a,())))=some (.inr (a,())))
    (hstep:∀ (r:Nat) a,1≤r→r≤n+1→a.length=n→RnI es fin r a→∃ y,body ((r:Int),(true,(a,())))=some y∧∃ ch b,y = .inl (((r+1:Nat):Int),(ch,(b,())))∧b.length=n∧(∀ j:Nat,b[j]?=(a[j]?).map (nv es a r j))∧(ch=true↔∃ (j:Nat) (v:Int),a[j]?=some v∧nv es a r j v≠v))
    (hK:∀ D:List Int,D.length=n→LC es fin D→∃ y,K (D,())=some y∧Q y):∃ y,(ag_ body (1,(true,(a0,())))).bind K=some y∧Q y:=by
  have gen:∀ (m:Nat) (r:Nat) (a:List Int),mp_ a=m→1≤r→r+m≤n+1→a.length=n→RnI es fin r a→∃ D,ag_ body ((r:Int),(true,(a,())))=some (D,())∧D.length=n∧LC es fin D:=by
    intro m
    induction m using Nat.strongRecOn with
    | _ m ih =>
      intro r a hm hr hrm hl hR
      obtain⟨y,ey,ch,b,rfl,hb,hbj,hch⟩:=hstep r a hr (by omega) hl hR
      have hR2:=co2 hr (by omega) (by rw[hl];exact hx) hR hbj
      cases ch with
      | false =>
        refine⟨b,bo_ ey (br_ (hend _ b)),hb,?_⟩
        have hs:∀ (i:Nat) (v:Int),a[i]?=some v→nv es a r i v=v:=λi v hv=>Classical.byContradiction λhne=>by
          have:=hch.2 ⟨i,v,hv,hne⟩
          cases this
        have hab:a=b:=f1_ λi=>by
          rw[hbj]
          cases hv:a[i]? with
          | none=>rfl
          | some v=>rw[g7_,hs i v hv]
        rw[← hab]
        exact RnI_end (by rw[hl];exact hx) (by omega) hR hs
      | true =>
        obtain⟨j,v,hv,hne⟩:=hch.1 rfl
        have hlt:mp_ b<mp_ a:=by
          refine (br0 (a:=a) (b:=b) (by omega) λj v w hv hw hw0 => ?_).2 ?_
          · rw[hbj,hv] at hw
            have hw:=a6_ hw
            rcases mo_ es a r j v with e | ⟨e,h1,_⟩
            · rw[e] at hw;omega
            · exact h1
          · rcases mo_ es a r j v with e | ⟨e,h1,_⟩
            · exact absurd e hne
            · exact⟨j,v,nv es a r j v,hv,by rw[hbj,hv];rfl,h1,by rw[e];omega⟩
        obtain⟨D,eD,hD⟩:=ih (mp_ b) (by omega) (r+1) b rfl (by omega) (by omega) hb hR2
        exact⟨D,bo_ ey eD,hD⟩
  have hneg:=br1 a0
  obtain⟨D,eD,hD1,hD2⟩:=gen (mp_ a0) 1 a0 rfl (c3_ _) (by omega) hl0 h0
  have eD:ag_ body (1,(true,(a0,())))=some (D,()):=eD
  rw[eD,a0_]
  exact hK D hD1 hD2
theorem ue_ {g:ad_} (hg:SmG g) (h0:cl_ g=0) {ps:List aa_} {es:List (List ac_)} (hG:GI g ps es) (hes:es.length=ps.length)
    (act:Int):∃ D,hw_ g (ps,es) act=some (D,())∧D.length=ps.length∧LC (esF act es) (ty_ g ps) D:=by
  have ok:=dk_ h0
  have okr:=bq_ ok.room
  have hn:=hG.pI.n
  have hgo:=hg.go
  have hx:∀ l ∈ es,∀ x ∈ l,0≤x.2∧x.2<(ps.length:Int):=λl hl x hx=>(hG.eI l hl x hx).1
  have hfin:∀ p ∈ ps,iq_ g p=some (dl_ p.1.1 g.1.2.2.2.2.2.2.2,()):=λp hp=>by
    have hv:=(hG.pI.v p hp).st
    have hl1:=hv.l1
    obtain⟨c1,c2⟩:=ua_ hg.room.th okr.go
    unfold iq_
    rw[jb_ (s:=p.1) (show Sm _ by show _≤1000000000;omega) (by show InC p.1.1.length _;rw[hl1];exact c1)]
    rfl
  have hxF:∀ l ∈ esF act es,∀ x ∈ l,0≤x.2∧x.2<(ps.length:Int):=λl hl x hxl=>by
    obtain⟨l',h1,rfl⟩:=esF_mem hl
    exact hx l' h1 x (c7_.1 hxl).1
  have hesF:(esF act es).length=ps.length:=by rw[esF_len,hes]
  suffices hk:∃ D,hw_ g (ps,es) act=some D∧(D.1.length=ps.length∧LC (esF act es) (ty_ g ps) D.1) by
    obtain⟨⟨D,u⟩,e,h⟩:=hk
    exact⟨D,e,h⟩
  unfold hw_
  simp only
  rw[rs_ (by omega) (by omega),a0_,b8_]
  refine tj_ ps.length (λ(i:Nat) (z:Int×(List Int×Unit))=>∃ d:List Int,z=((i:Int),(d,()))∧d.length=ps.length∧∀ j:Nat,j<i→d[j]?=(xe_ g ps)[j]?) ⟨_,rfl,f2_,λj hj=>by omega⟩ (λi z hi hz => ?_) (λz hz => ?_)
  · obtain⟨d,rfl,hd,hdj⟩:=hz
    obtain⟨p,hp⟩:=bd_ hi
    obtain⟨y,hy⟩:=bd_ (l:=d) (i:=i) (by omega)
    have h2:(d.set i (-1))[i]?=some (-1):=e3_ (by omega)
    have hf0:(xe_ g ps)[i]?=some (cond (dl_ p.1.1 g.1.2.2.2.2.2.2.2) 0 (-1)):=by
      unfold xe_
      rw[d8_,hp]
      rfl
    have fin:∀ v:Int,(xe_ g ps)[i]?=some v→∀ j:Nat,j<i+1→(d.set i v)[j]?=(xe_ g ps)[j]?:=λv hv j hj=>by
      rw[g1_]
      by_cases hij:i=j
      · rw[if_pos hij,if_pos (by omega),← hij,hv]
      · rw[if_neg hij,hdj j (by omega)]
    refine⟨(((i+1:Nat):Int),(d.set i (cond (dl_ p.1.1 g.1.2.2.2.2.2.2.2) 0 (-1)),())),?_,_,rfl,by rw[f7_,hd],fin _ hf0⟩
    simp only[hd,dlt hi,a5_,ah_ hp,ah_ hy,a0_,hfin p (ax_ hp),b8_,ah_ h2,ba_ (show Sm i by show _≤1000000000;omega),List.set_set]
    cases dl_ p.1.1 g.1.2.2.2.2.2.2.2<;>rfl
  · obtain⟨d,rfl,hd,hdj⟩:=hz
    have hdd:d=xe_ g ps:=f1_ λj=>by
      rcases l5_ j ps.length with hj | hj
      · exact hdj j hj
      · rw[b9_ (by omega),b9_ (by unfold xe_;rw[d6_];omega)]
    subst hdd
    refine⟨_,by simp only[hd,dnl,a2_];rfl,?_⟩
    simp only
    refine au7 (es:=esF act es) (fin:=ty_ g ps) hn hesF hxF (cc0 (esF act es)) hd (λr a=>rfl) (λr a hr hrn hl hR => ?_) (λD hD1 hD2=>⟨_,rfl,hD1,hD2⟩)
    simp only[a5_]
    refine tj_ ps.length (λ(i:Nat) (z:Bool×(Int×(List Int×Unit)))=>∃ (ch:Bool) (b:List Int),z=(ch,((i:Int),(b,())))∧b.length=ps.length∧(∀ j:Nat,b[j]?=if j<i then (a[j]?).map (nv (esF act es) a r j) else a[j]?)∧(ch=true↔∃ (j:Nat) (v:Int),j<i∧a[j]?=some v∧nv (esF act es) a r j v≠v)) ⟨false,a,rfl,hl,λj=>by simp,by simp⟩ (λi z hi hz => ?_) (λz hz => ?_)
    · obtain⟨ch,b,rfl,hb,hbj,hch⟩:=hz
      obtain⟨row,hrow⟩:=bd_ (l:=es) (i:=i) (by omega)
      obtain⟨v,hv⟩:=bd_ (l:=a) (i:=i) (by omega)
      have hvb:b[i]?=some v:=by rw[hbj,if_neg (by omega),hv]
      have hrl:=hG.eL row (ax_ hrow)
      have hgi:∀ x ∈ row,(gi b x.2==(r:Int) - 1)=(gi a x.2==(r:Int) - 1):=λx hxr=>by
        obtain⟨x0,x1⟩:=hx row (ax_ hrow) x hxr
        obtain⟨u,hu⟩:=bd_ (l:=a) (i:=x.2.toNat) (by omega)
        have ea:gi a x.2=u:=mr_ (by rw[show x.2=((x.2.toNat:Nat):Int) by omega];exact ah_ hu)
        have eb:∀ w,b[x.2.toNat]?=some w→gi b x.2=w:=λw hw=>mr_ (by rw[show x.2=((x.2.toNat:Nat):Int) by omega];exact ah_ hw)
        have hbx:=hbj x.2.toNat
        split at hbx
        · rw[hu] at hbx
          rw[ea,eb _ hbx]
          rcases mo_ (esF act es) a r x.2.toNat u with e | ⟨e,h1,_⟩
          · rw[e]
          · rw[e,k3_,f4_,f4_]
            omega
        · rw[hu] at hbx
          rw[ea,eb _ hbx]
      have hany:row.any (λx=>kp act x&&gi b x.2==(r:Int) - 1)=(row.filter (kp act)).any (λx=>gi a x.2==(r:Int) - 1):=by
        rw[List.any_filter,k3_,h4_,h4_]
        exact⟨λ⟨x,h1,h2⟩=>⟨x,h1,by rw[← hgi x h1];exact h2⟩,λ⟨x,h1,h2⟩=>⟨x,h1,by rw[hgi x h1];exact h2⟩⟩
      have hnv:nv (esF act es) a r i v=cond (decide (v<0)&&row.any (λx=>kp act x&&gi b x.2==(r:Int) - 1)) (r:Int) v:=by
        unfold nv
        rw[bx5 hrow,hany]
        rfl
      refine⟨(cond (decide (v<0)&&row.any (λx=>kp act x&&gi b x.2==(r:Int) - 1)) true ch,(((i+1:Nat):Int),(cond (decide (v<0)&&row.any (λx=>kp act x&&gi b x.2==(r:Int) - 1)) (b.set i (r:Int)) b,()))),?_,_,_,rfl,?_,λj => ?_,?_⟩
      · simp only[hb,dlt hi,a5_]
        refine ca5 (l:=row) (λx=>kp act x&&gi b x.2==(r:Int) - 1) (r:=(r:Int)) hvb (by omega) (by show _≤1000000000;omega) (λk c b' y hy hy0 => ?_) (λc b' => ?_) (λk e he hv0 => ?_) ?_
        · simp only[ah_ hrow,a0_,ah_ hy,c1_ (show ¬ y<0 by omega)]
          cases decide ((k:Int)<(row.length:Int))<;>rfl
        · simp only[ah_ hrow,a0_,dnl,a2_]
        · obtain⟨x0,x1⟩:=hx row (ax_ hrow) e (ax_ he)
          simp only[ah_ hrow,a0_,dlt (am_ he),a5_,ah_ hvb,b5_ hv0,ah_ he,ol_ (l:=b) x0 (by omega),bx9,fy_ (n:=(r:Int) - 1) (by omega) (by omega),b8_]
          cases gi b e.2==(r:Int) - 1<;>cases kp act e<;>rfl
        · simp only[ba_ (show Sm i by show _≤1000000000;omega)]
          cases (decide (v<0)&&row.any (λx=>kp act x&&gi b x.2==(r:Int) - 1))<;>rfl
      · cases (decide (v<0)&&row.any (λx=>kp act x&&gi b x.2==(r:Int) - 1)) with
        | true=>simp only[a5_,f7_,hb]
        | false=>exact hb
      · rcases o2_ j i with hj | hj | hj
        · rw[if_pos (by omega)]
          have:=hbj j
          rw[if_pos hj] at this
          cases (decide (v<0)&&row.any (λx=>kp act x&&gi b x.2==(r:Int) - 1)) with
          | true=>rw[a5_,b6_ (by omega),this]
          | false=>exact this
        · subst hj
          rw[if_pos (by omega),hv,g7_,hnv]
          cases (decide (v<0)&&row.any (λx=>kp act x&&gi b x.2==(r:Int) - 1)) with
          | true=>rw[a5_,a5_,e3_ (by omega)]
          | false=>exact hvb
        · rw[if_neg (by omega)]
          have:=hbj j
          rw[if_neg (by omega)] at this
          cases (decide (v<0)&&row.any (λx=>kp act x&&gi b x.2==(r:Int) - 1)) with
          | true=>rw[a5_,b6_ (by omega),this]
          | false=>exact this
      · cases hc:(decide (v<0)&&row.any (λx=>kp act x&&gi b x.2==(r:Int) - 1)) with
        | true =>
          rw[hc] at hnv
          rw[a1_,h1_] at hc
          exact⟨λ_=>⟨i,v,by omega,hv,by rw[hnv];show (r:Int)≠v;omega⟩,λ_=>rfl⟩
        | false =>
          rw[hc] at hnv
          rw[a2_,hch]
          constructor
          · rintro⟨j,w,h1,h2⟩
            exact⟨j,w,by omega,h2⟩
          · rintro⟨j,w,h1,h2,h3⟩
            rcases l5_ j i with hj | hj
            · exact⟨j,w,hj,h2,h3⟩
            · obtain rfl:j=i:=by omega
              rw[hv] at h2
              obtain rfl:=a6_ h2
              exact absurd hnv h3
    · obtain⟨ch,b,rfl,hb,hbj,hch⟩:=hz
      refine⟨_,by simp only[hb,dnl,a2_];rfl,?_⟩
      refine⟨_,rfl,ch,b,by simp only[ba_ (show Sm r by show _≤1000000000;omega)],hb,λj => ?_,?_⟩
      · rw[hbj]
        split
        · rfl
        · rw[b9_ (by omega)]
          rfl
      · rw[hch]
        constructor
        · rintro⟨j,w,_,h2⟩
          exact⟨j,w,h2⟩
        · rintro⟨j,w,h2,h3⟩
          exact⟨j,w,by have:=am_ h2;omega,h2,h3⟩
end
section
set_option maxRecDepth 10000
def BkI (es:List (List ac_)) (n i:Nat) (bk:List (List Int)):Prop :=
  bk.length=n∧∀ (t:Nat) l,bk[t]?=some l→l.length≤i * 480∧∀ y:Int,y ∈ l↔∃ j:Nat,j<i∧y=(j:Int)∧∃ row,es[j]?=some row∧∃ x ∈ row,x.2=(t:Int)
theorem BkI_all {es:List (List ac_)} {n:Nat} {bk:List (List Int)} (h:BkI es n es.length bk) {t:Nat} {l:List Int} (hl:bk[t]?=some l) (y:Int):y ∈ l↔∃ j:Nat,y=(j:Int)∧∃ row,es[j]?=some row∧∃ x ∈ row,x.2=(t:Int):=by
  rw[(h.2 t l hl).2 y]
  exact⟨λ⟨j,_,h⟩=>⟨j,h⟩,λ⟨j,h1,row,h2,h3⟩=>⟨j,am_ h2,h1,row,h2,h3⟩⟩
structure BI (es:List (List ac_)) (fin:Nat→Bool) (n:Nat) (near far:List Int):Prop where
  len:far.length=n
  lo:∀ (i:Nat) (v:Int),far[i]?=some v→-1≤v
  z:∀ (i:Nat) (v:Int),far[i]?=some v→(v=0↔fin i=true)
  dn:∀ (i k:Nat),far[i]?=some ((k+1:Nat):Int)→∃ l x,es[i]?=some l∧x ∈ l∧at? far x.2=some (k:Int)
  nr:∀ x ∈ near,∃ v,at? far x=some v∧0≤v
  pw:near.Pairwise (λx y=>gi far x≤gi far y)
  top:∀ x ∈ near,∀ (i:Nat) (v:Int),far[i]?=some v→v≤gi far x+1
  up:∀ (i:Nat) (l:List ac_) (x:ac_) (k:Nat),es[i]?=some l→x ∈ l→at? far x.2=some (k:Int)→x.2 ∉ near→∃ v,far[i]?=some v∧0≤v∧v≤(k:Int)+1
  bd:∀ (i:Nat) (v:Int),far[i]?=some v→v+(mp_ far:Int)≤(n:Int)
  ms:near.length+mp_ far≤n
theorem BI_end {es:List (List ac_)} {fin:Nat→Bool} {n:Nat} {far:List Int} (h:BI es fin n [] far):LC es fin far :=
  ⟨h.lo,h.z,h.dn,λi l x k hl hx hat=>h.up i l x k hl hx hat (λh=>by cases h)⟩
structure AI (bs:List Int) (d:Int) (far:List Int) (b:Nat) (pu far':List Int):Prop where
  len:far'.length=far.length
  keep:∀ (i:Nat) (v:Int),far[i]?=some v→0≤v→far'[i]?=some v
  neg:∀ (i:Nat) (v:Int),far[i]?=some v→v<0→far'[i]?=some v∨(far'[i]?=some (d+1)∧(i:Int) ∈ pu∧(i:Int) ∈ bs)
  pI:∀ x ∈ pu,at? far' x=some (d+1)∧∃ w,at? far x=some w∧w<0
  done:∀ y ∈ bs.take b,∃ v,at? far' y=some v∧0≤v
  ms:mp_ far'+pu.length=mp_ far
theorem co7 (bs:List Int) (d:Int) (far:List Int):AI bs d far 0 [] far :=
  ⟨rfl,λ_ _ h _=>h,λ_ _ h _=>.inl h,λ_ h=>(by cases h),λy h=>by rw[k9_] at h; (cases h),rfl⟩
theorem un_ {α:Type} {a:List α} {x:Int} {v:α} (h:at? a x=some v):∃ i:Nat,x=(i:Int)∧a[i]?=some v:=by
  obtain⟨q1,q2,q3⟩:=da_ h
  exact⟨x.toNat,by omega,q3⟩
theorem AI_skip {bs:List Int} {d:Int} {far:List Int} {b:Nat} {pu far':List Int} (h:AI bs d far b pu far') {y v:Int} (hy:bs[b]?=some y) (hv:at? far' y=some v) (hv0:0≤v):AI bs d far (b+1) pu far':=by
  refine⟨h.len,h.keep,h.neg,h.pI,λz hz => ?_,h.ms⟩
  rw[d7_,hy] at hz
  rcases b3_.1 hz with hz | hz
  · exact h.done z hz
  · have:z=y:=by simpa using hz
    rw[this]
    exact⟨v,hv,hv0⟩
theorem AI_add {bs:List Int} {d:Int} (hd:0≤d) {far:List Int} {b:Nat} {pu far':List Int} (h:AI bs d far b pu far') {y v:Int} (hy:bs[b]?=some y) (hv:at? far' y=some v) (hv0:v<0):AI bs d far (b+1) (pu++[y]) (far'.set y.toNat (d+1)):=by
  obtain⟨i,rfl,hi⟩:=un_ hv
  rw[b8_]
  have hlt:=am_ hi
  have hself:(far'.set i (d+1))[i]?=some (d+1):=e3_ hlt
  have hfi:∃ w,far[i]?=some w∧w<0:=by
    obtain⟨w,hw⟩:=bd_ (l:=far) (i:=i) (by have:=h.len;omega)
    refine⟨w,hw,Classical.byContradiction λhc => ?_⟩
    have:=h.keep i w hw (by omega)
    rw[hi] at this
    have:=a6_ this
    omega
  have hat:∀ {x w:Int},at? far' x=some w→0≤w→at? (far'.set i (d+1)) x=some w:=λ{x w} hx hw=>by
    obtain⟨j,rfl,hj⟩:=un_ hx
    refine ah_ ?_
    by_cases hij:i=j
    · subst hij
      rw[hi] at hj
      have:=a6_ hj
      omega
    · rw[b6_ hij]
      exact hj
  refine⟨by rw[f7_,h.len],λj w hw hw0 => ?_,λj w hw hw0 => ?_,λx hx => ?_,λz hz => ?_,?_⟩
  · have:=h.keep j w hw hw0
    by_cases hij:i=j
    · subst hij
      rw[hi] at this
      have:=a6_ this
      omega
    · rw[b6_ hij]
      exact this
  · by_cases hij:i=j
    · subst hij
      exact .inr ⟨hself,m2_ _ (e7_.2 rfl),ax_ hy⟩
    · rw[b6_ hij]
      rcases h.neg j w hw hw0 with h1 | ⟨h1,h2,h3⟩
      · exact .inl h1
      · exact .inr ⟨h1,m6_ _ h2,h3⟩
  · rcases b3_.1 hx with hx | hx
    · obtain⟨h1,h2⟩:=h.pI x hx
      exact⟨hat h1 (by omega),h2⟩
    · rw[e7_] at hx
      rw[hx]
      obtain⟨w,hw,hw0⟩:=hfi
      exact⟨ah_ hself,w,ah_ hw,hw0⟩
  · rw[d7_,hy] at hz
    rcases b3_.1 hz with hz | hz
    · obtain⟨w,h1,h2⟩:=h.done z hz
      exact⟨w,hat h1 h2,h2⟩
    · have:z=(i:Int):=by simpa using hz
      rw[this]
      exact⟨d+1,ah_ hself,by omega⟩
  · have:=ay9 hi hv0 (show (0:Int)≤d+1 by omega)
    have:=h.ms
    rw[a8_,d5_]
    omega
theorem BI_step {es:List (List ac_)} {fin:Nat→Bool} {n:Nat} (hes:es.length=n) (hx:∀ l ∈ es,∀ x ∈ l,0≤x.2∧x.2<(n:Int)) {h:Int} {tl far:List Int} (I:BI es fin n (h::tl) far) {bs:List Int} {d:Int} (hd:at? far h=some d)
    (hbs:∀ y:Int,y ∈ bs↔∃ j:Nat,y=(j:Int)∧∃ row,es[j]?=some row∧∃ x ∈ row,x.2=h) {pu far':List Int} (A:AI bs d far bs.length pu far'):BI es fin n (tl++pu) far':=by
  have hd0:0≤d:=by
    obtain⟨v,h1,h2⟩:=I.nr h (d9_ ..)
    rw[hd] at h1
    have:=a6_ h1
    omega
  have hgd:gi far h=d:=mr_ hd
  have hms:=A.ms
  have cs:∀ (i:Nat) (v:Int),far'[i]?=some v→far[i]?=some v∨(v=d+1∧(i:Int) ∈ pu∧(i:Int) ∈ bs∧1≤pu.length∧∃ w,far[i]?=some w∧w<0):=λi v hv=>by
    obtain⟨w,hw⟩:=bd_ (l:=far) (i:=i) (by have:=am_ hv;have:=A.len;omega)
    by_cases hw0:0≤w
    · have:=A.keep i w hw hw0
      rw[hv] at this
      rw[a6_ this]
      exact .inl hw
    · rcases A.neg i w hw (by omega) with h1 | ⟨h1,h2,h3⟩
      · rw[hv] at h1
        rw[a6_ h1]
        exact .inl hw
      · rw[hv] at h1
        have hne:1≤pu.length:=by
          cases pu with
          | nil=>cases h2
          | cons _ _=>simp
        exact .inr ⟨a6_ h1,h2,h3,hne,w,hw,by omega⟩
  have keepA:∀ {x v:Int},at? far x=some v→0≤v→at? far' x=some v:=λ{x v} hx hv=>by
    obtain⟨i,rfl,hi⟩:=un_ hx
    exact ah_ (A.keep i v hi hv)
  have gk:∀ x ∈ tl,gi far' x=gi far x:=λx hx=>by
    obtain⟨v,h1,h2⟩:=I.nr x (d3_ _ hx)
    rw[mr_ h1,mr_ (keepA h1 h2)]
  have gp:∀ x ∈ pu,gi far' x=d+1:=λx hx=>mr_ (A.pI x hx).1
  have htop:=I.top h (d9_ ..)
  rw[hgd] at htop
  obtain⟨pw1,pw2⟩:=List.pairwise_cons.1 I.pw
  have htl:∀ x ∈ tl,gi far x≤d+1:=λx hx=>by
    obtain⟨v,h1,h2⟩:=I.nr x (d3_ _ hx)
    obtain⟨i,_,hi⟩:=un_ h1
    rw[mr_ h1]
    exact htop i v hi
  have hle:∀ (i:Nat) (v:Int),far'[i]?=some v→v≤d+1:=λi v hv=>by
    rcases cs i v hv with h1 | ⟨h1,_⟩
    · exact htop i v h1
    · omega
  refine⟨by rw[A.len,I.len],λi v hv => ?_,λi v hv => ?_,λi k hk => ?_,λx hx => ?_,?_,λx hx i v hv => ?_,λi l x k hl hxl hat hnn => ?_,λi v hv => ?_,?_⟩
  · rcases cs i v hv with h1 | ⟨h1,_⟩
    · exact I.lo i v h1
    · omega
  · rcases cs i v hv with h1 | ⟨h1,_,_,_,w,hw,hw0⟩
    · exact I.z i v h1
    · have:=I.z i w hw
      rw[← this]
      constructor
      · intro e;omega
      · intro e;omega
  · rcases cs i _ hk with h1 | ⟨h1,h2,h3,_⟩
    · obtain⟨l,x,a1,a2,a3⟩:=I.dn i k h1
      exact⟨l,x,a1,a2,keepA a3 (by omega)⟩
    · obtain⟨j,hj,row,hrow,x,hxr,hxe⟩:=(hbs _).1 h3
      obtain rfl:i=j:=by omega
      refine⟨row,x,hrow,hxr,?_⟩
      rw[hxe,show (k:Int)=d by omega]
      exact keepA hd hd0
  · rcases b3_.1 hx with hx | hx
    · obtain⟨v,h1,h2⟩:=I.nr x (d3_ _ hx)
      exact⟨v,keepA h1 h2,h2⟩
    · exact⟨d+1,(A.pI x hx).1,by omega⟩
  · refine List.pairwise_append.2 ⟨?_,?_,λx hx y hy => ?_⟩
    · refine List.Pairwise.imp_of_mem (λ{x y} hx hy hr => ?_) pw2
      rw[gk x hx,gk y hy]
      exact hr
    · refine List.pairwise_of_forall_mem_list (λx hx y hy => ?_)
      rw[gp x hx,gp y hy]
      exact m4_ _
    · rw[gk x hx,gp y hy]
      exact htl x hx
  · have h2:=hle i v hv
    rcases b3_.1 hx with hx | hx
    · rw[gk x hx]
      have:=pw1 x hx
      rw[hgd] at this
      omega
    · rw[gp x hx]
      omega
  · have hb:=hx l (ax_ hl) x hxl
    obtain⟨xi,hxi,hxk⟩:=un_ hat
    obtain⟨w,hw⟩:=bd_ (l:=far') (i:=i) (by have:=am_ hl;have:=A.len;have:=I.len;omega)
    rcases cs xi _ hxk with h1 | ⟨_,h2,_⟩
    · by_cases hxh:x.2=h
      · have hm:(i:Int) ∈ bs:=(hbs _).2 ⟨i,rfl,l,hl,x,hxl,hxh⟩
        obtain⟨v,h3,h4⟩:=A.done (i:Int) (by rw[e1_];exact hm)
        have h3:far'[i]?=some v:=by rw[← bd5];exact h3
        refine⟨v,h3,h4,?_⟩
        have:(k:Int)=d:=by
          have:at? far h=some (k:Int):=by rw[← hxh,hxi];exact ah_ h1
          rw[hd] at this
          exact (a6_ this).symm
        have:=hle i v h3
        omega
      · obtain⟨v,h3,h4,h5⟩:=I.up i l x k hl hxl (by rw[hxi];exact ah_ h1) (λhm=>by
          rcases d1_.1 hm with hm | hm
          · exact hxh hm
          · exact hnn (m6_ _ hm))
        exact⟨v,A.keep i v h3 h4,h4,h5⟩
    · exact absurd (m2_ _ (by rw[hxi];exact h2)) hnn
  · rcases cs i v hv with h1 | ⟨h1,_,_,h4,_⟩
    · have:=I.bd i v h1
      omega
    · obtain⟨hi,_,hh⟩:=un_ hd
      have:=I.bd hi d hh
      omega
  · have:=I.ms
    rw[a8_]
    rw[c4_] at this
    omega
theorem bi1 {υ:Type} {body:(List Int×(List Int×Unit))→Option ((List Int×(List Int×Unit))⊕(List Int×Unit))} {K:(List Int×Unit)→Option υ} {Q:υ→Prop} (Inv:List Int→List Int→Prop) (μ:List Int→List Int→Nat)
    (hs:∀ h tl far,Inv (h::tl) far→∃ y,body (h::tl,(far,()))=some y∧∃ near' far',y = .inl (near',(far',()))∧Inv near' far'∧μ near' far'<μ (h::tl) far)
    (he:∀ far,Inv [] far→∃ r,body ([],(far,()))=some (.inr r)∧∃ y,K r=some y∧Q y) {near far:List Int} (hI:Inv near far):∃ y,(ag_ body (near,(far,()))).bind K=some y∧Q y:=by
  have gen:∀ (m:Nat) (near far:List Int),μ near far=m→Inv near far→∃ r,ag_ body (near,(far,()))=some r∧∃ y,K r=some y∧Q y:=by
    intro m
    induction m using Nat.strongRecOn with
    | _ m ih =>
      intro near far hm hI
      cases near with
      | nil =>
        obtain⟨r,e,h⟩:=he far hI
        exact⟨r,br_ e,h⟩
      | cons h tl =>
        obtain⟨y,ey,near',far',rfl,h1,h2⟩:=hs h tl far hI
        obtain⟨r,er,hr⟩:=ih _ (by omega) near' far' rfl h1
        exact⟨r,bo_ ey er,hr⟩
  obtain⟨r,e,hr⟩:=gen _ near far rfl hI
  rw[e,a0_]
  exact hr
theorem cc1 {n:Nat} (h:n≤1000000):ey_ [-1] (n:Int)=some (List.replicate n (-1)):=by
  show mk? (n:Int) (-1)=_
  rw[rs_ (by omega) (by omega),b8_]
theorem br2 (x:Int) (a:List Int):mp_ (x::a)=mp_ a+(if x<0 then 1 else 0):=by unfold mp_;rw[i2_];simp
end
section
set_option maxRecDepth 10000
theorem cj2 (a b:List Int):mp_ (a++b)=mp_ a+mp_ b:=by unfold mp_;rw[List.countP_append]
theorem bq9 {a:List Int} {i:Nat} {v:Int} (h:a[i]?=some v):mp_ (a.take (i+1))=mp_ (a.take i)+(if v<0 then 1 else 0):=by
  rw[d7_,h,cj2,show (some v).toList=[v] from rfl,br2,show mp_ []=0 from rfl,b0_]
theorem co6 {g:ad_} {ps:List aa_} {es:List (List ac_)} {near:List Int} (h1:∀ x ∈ near,∃ j:Nat,x=(j:Int)∧j<ps.length∧ty_ g ps j=true) (h2:∀ j:Nat,j<ps.length→ty_ g ps j=true→(j:Int) ∈ near) (h3:near.length+mp_ (xe_ g ps)=ps.length) :
    BI es (ty_ g ps) ps.length near (xe_ g ps):=by
  have hl:(xe_ g ps).length=ps.length:=d6_ _
  have hg:∀ x ∈ near,at? (xe_ g ps) x=some 0:=λx hx=>by
    obtain⟨j,rfl,hj,hf⟩:=h1 x hx
    obtain⟨v,hv⟩:=bd_ (l:=xe_ g ps) (i:=j) (by omega)
    rcases qs_ hv with ⟨rfl,_⟩ | ⟨rfl,hf2⟩
    · exact ah_ hv
    · rw[hf] at hf2;cases hf2
  have hle:∀ (i:Nat) (v:Int),(xe_ g ps)[i]?=some v→-1≤v∧v≤0:=λi v hv=>by
    rcases qs_ hv with ⟨rfl,_⟩ | ⟨rfl,_⟩<;>omega
  refine⟨hl,λi v hv=>(hle i v hv).1,λi v hv => ?_,λi k hk => ?_,λx hx=>⟨0,hg x hx,m4_ _⟩,?_,λx hx i v hv => ?_,λi l x k hl hxl hat hnn => ?_,λi v hv => ?_,by omega⟩
  · rcases qs_ hv with ⟨rfl,h⟩ | ⟨rfl,h⟩
    · exact⟨λ_=>h,λ_=>rfl⟩
    · rw[h]
      exact⟨λe=>by omega,λe=>by cases e⟩
  · have:=hle i _ hk
    omega
  · refine List.pairwise_of_forall_mem_list (λx hx y hy => ?_)
    rw[mr_ (hg x hx),mr_ (hg y hy)]
    exact m4_ _
  · rw[mr_ (hg x hx)]
    have:=hle i v hv
    omega
  · obtain⟨xi,hxi,hxk⟩:=un_ hat
    have hlt:=am_ hxk
    rcases qs_ hxk with ⟨_,hf⟩ | ⟨e,_⟩
    · exact absurd (by rw[hxi];exact h2 xi (by omega) hf) hnn
    · omega
  · have:=hle i v hv
    have:=br1 (xe_ g ps)
    omega
noncomputable def meaG (rowB:Int→List ac_→(Int×(List (List Int)×Unit))→Option ((Int×(List (List Int)×Unit))⊕(List (List Int)×Unit))) {τ:Type} (a0:ad_) (G:cj_) (K:List Int×Unit→Option τ):Option τ :=
 ((ey_ [(-1)] (G.1.length:Int)).bind λv1 =>
 ((ag_ (ρ:=((List Int)×((List Int)×Unit))) (λ(v2:((List Int)×(Int×((List Int)×Unit)))) =>
 (cond (decide (v2.2.1<(G.1.length:Int)))
 ((((at? G.1 v2.2.1).bind λv3 =>
 ((kf_ a0.1 v3.1).bind λv4 =>
 (((cond (v4.2.1==0)
 (some (v4.1,()))
 (some (false,())))).bind λv5 =>
 (cond v5.1
 ((at? v2.2.2.1 v2.2.1).bind λv6 =>
 ((at? v2.2.2.1 v2.2.1).bind λv7 =>
 ((push? (α:=Int) v2.1 [v2.2.1]).bind λv8 =>
 (some (v8,((v2.2.2.1.set v2.2.1.toNat 0),()))))))
 (some (v2.1,(v2.2.2.1,())))))))).bind λv9 =>
 (some (inl (v9.1,((w64 (v2.2.1+1)),(v9.2.1,()))))))
 (some (inr (v2.1,(v2.2.2.1,())))))) ([],(0,(v1,())))).bind λv10 =>
 ((mk? (α:=(List Int)) (G.1.length:Int) []).bind λv11 =>
 ((ag_ (ρ:=((List (List Int))×Unit)) (λ(v12:(Int×((List (List Int))×Unit))) =>
 (cond (decide (v12.1<(G.2.length:Int)))
 ((at? G.2 v12.1).bind λv13 =>
 ((ag_ (ρ:=((List (List Int))×Unit)) (rowB v12.1 v13) (0,(v12.2.1,()))).bind λv22 =>
 (some (inl ((w64 (v12.1+1)),(v22.1,()))))))
 (some (inr (v12.2.1,()))))) (0,(v11,()))).bind λv23 =>
 ((ag_ (ρ:=((List Int)×Unit)) (λ(v24:((List Int)×((List Int)×Unit))) =>
 (cond (decide (0<(v24.1.length:Int)))
 ((at? v24.1 0).bind λv25 =>
 ((at? v24.1 0).bind λv26 =>
 ((sub? v24.1 1 (v24.1.length:Int)).bind λv27 =>
 ((at? v23.1 v26).bind λv28 =>
 ((ag_ (ρ:=((List Int)×((List Int)×Unit))) (λ(v29:((List Int)×(Int×((List Int)×Unit)))) =>
 (cond (decide (v29.2.1<(v28.length:Int)))
 ((((at? v28 v29.2.1).bind λv30 =>
 ((at? v29.2.2.1 v30).bind λv31 =>
 ((at? v29.2.2.1 v30).bind λv32 =>
 (cond (decide (v32<0))
 ((at? v29.2.2.1 v26).bind λv33 =>
 ((at? v29.2.2.1 v26).bind λv34 =>
 ((at? v29.2.2.1 v30).bind λv35 =>
 ((at? v29.2.2.1 v30).bind λv36 =>
 ((push? (α:=Int) v29.1 [v30]).bind λv37 =>
 (some (v37,((v29.2.2.1.set v30.toNat (w64 (v34+1))),()))))))))
 (some (v29.1,(v29.2.2.1,())))))))).bind λv38 =>
 (some (inl (v38.1,((w64 (v29.2.1+1)),(v38.2.1,()))))))
 (some (inr (v29.1,(v29.2.2.1,())))))) (v27,(0,(v24.2.1,())))).bind λv39 =>
 (some (inl (v39.1,(v39.2.1,())))))))))
 (some (inr (v24.2.1,()))))) (v10.1,(v10.2.1,()))).bind λv40 =>
 (K v40))))))
def rowE (i:Int) (row:List ac_):(Int×(List (List Int)×Unit))→Option ((Int×(List (List Int)×Unit))⊕(List (List Int)×Unit)) :=
 (λ(v14:(Int×((List (List Int))×Unit))) =>
 (cond (decide (v14.1<(row.length:Int)))
 ((((at? row v14.1).bind λv15 =>
 ((at? v14.2.1 v15.2).bind λv16 =>
 ((at? v14.2.1 v15.2).bind λv17 =>
 ((push? (α:=Int) v17 [i]).bind λv18 =>
 ((at? v14.2.1 v15.2).bind λv19 =>
 (cond ((v15.2==v15.2)&&true)
 ((at? v14.2.1 v15.2).bind λv20 =>
 (some ((v14.2.1.set v15.2.toNat v18),())))
 none))))))).bind λv21 =>
 (some (inl ((w64 (v14.1+1)),(v21.1,())))))
 (some (inr (v14.2.1,())))))
noncomputable abbrev meaK {τ:Type} (a0:ad_) (G:cj_) (K:List Int×Unit→Option τ):Option τ:=meaG rowE a0 G K
theorem bs4 (rowB:Int→List ac_→(Int×(List (List Int)×Unit))→Option ((Int×(List (List Int)×Unit))⊕(List (List Int)×Unit))) {τ:Type} (a0:ad_) (G:cj_) (K:List Int×Unit→Option τ):meaG rowB a0 G K=(meaG rowB a0 G some).bind K:=by
  unfold meaG
  simp only[Option.bind_assoc,a0_]
def esQ (Q:ac_→Bool) (es:List (List ac_)):List (List ac_):=es.map λl=>l.filter Q
theorem ct2 {Q:ac_→Bool} {es:List (List ac_)} {i:Nat} {l:List ac_} (h:es[i]?=some l):(esQ Q es)[i]?=some (l.filter Q):=by
  unfold esQ
  rw[d8_,h]
  rfl
structure RowOk (rowB:Int→List ac_→(Int×(List (List Int)×Unit))→Option ((Int×(List (List Int)×Unit))⊕(List (List Int)×Unit))) (Q:ac_→Bool):Prop where
  st:∀ (i:Int) row (k:Nat) x bk l,row[k]?=some x→at? bk x.2=some l→l.length≤2000000→k≤1000→rowB i row ((k:Int),(bk,()))=some (.inl (((k+1:Nat):Int),(cond (Q x) (bk.set x.2.toNat (l++[i])) bk,())))
  en:∀ (i:Int) row bk,rowB i row ((row.length:Int),(bk,()))=some (.inr (bk,()))
theorem cj8 {rowB} {Q:ac_→Bool} (hR:RowOk rowB Q) {g:ad_} (hg:SmG g) (h0:cl_ g=0) {ps:List aa_} {es:List (List ac_)} (hG:GI g ps es) (hes:es.length=ps.length):∃ y,meaG rowB g (ps,es) some=some y∧∃ D,y=(D,())∧(D.length=ps.length∧LC (esQ Q es) (ty_ g ps) D)∧∀ (i:Nat) (v:Int),D[i]?=some v→v≤(ps.length:Int):=by
  have ok:=dk_ h0
  have okr:=bq_ ok.room
  have hn:=hG.pI.n
  have hx:∀ l ∈ es,∀ x ∈ l,0≤x.2∧x.2<(ps.length:Int):=λl hl x hx=>(hG.eI l hl x hx).1
  have hesQ:(esQ Q es).length=es.length:=d6_ _
  have hxQ:∀ l ∈ esQ Q es,∀ x ∈ l,0≤x.2∧x.2<(ps.length:Int):=λl hl x hxl=>by
    obtain⟨l',h1,rfl⟩:=d0_.1 hl
    exact hx l' h1 x (c7_.1 hxl).1
  unfold meaG
  simp only
  rw[cc1 (by omega),a0_]
  have hfl:(xe_ g ps).length=ps.length:=d6_ _
  refine tj_ ps.length (λ(i:Nat) (z:List Int×(Int×(List Int×Unit)))=>∃ near far:List Int,z=(near,((i:Int),(far,())))∧far.length=ps.length∧(∀ j:Nat,far[j]?=if j<i then (xe_ g ps)[j]? else (List.replicate ps.length (-1:Int))[j]?)∧(∀ x ∈ near,∃ j:Nat,x=(j:Int)∧j<i∧ty_ g ps j=true)∧(∀ j:Nat,j<i→ty_ g ps j=true→(j:Int) ∈ near)∧near.length+mp_ ((xe_ g ps).take i)=i)
    ⟨[],_,rfl,f2_,(λj=>by simp),(λx hx=>by cases hx),(λj hj=>by omega),rfl⟩ (λi z hi hz => ?_) (λz hz => ?_)
  · obtain⟨near,far,rfl,hl,hj,h1,h2,h3⟩:=hz
    obtain⟨p,hp⟩:=bd_ hi
    obtain⟨v,hv⟩:=bd_ (l:=far) (i:=i) (by omega)
    have hv1:v = -1:=by
      rw[hj,if_neg (by omega),h5_,if_pos hi] at hv
      exact (a6_ hv).symm
    have hf0:(xe_ g ps)[i]?=some (cond (dl_ p.1.1 g.1.2.2.2.2.2.2.2) 0 (-1)):=by
      unfold xe_
      rw[d8_,hp]
      rfl
    have hfp:=bx1 (g:=g) hp
    have hnt:=bq9 hf0
    simp only[dlt hi,a5_,ah_ hp,ah_ hv,a0_,bn2 hg.room ok.room (hG.pI.v p (ax_ hp)).st,show ((0:Int)==0)=true from rfl,b8_,ba_ (show Sm i by show _≤1000000000;omega),cf_ (show Sm near.length by show _≤1000000000;omega)]
    cases hc:dl_ p.1.1 g.1.2.2.2.2.2.2.2 with
    | true =>
      rw[hc] at hf0 hfp hnt
      refine⟨_,rfl,near++[(i:Int)],far.set i 0,rfl,by rw[f7_,hl],λj => ?_,λx hx => ?_,λj hj hf => ?_,?_⟩
      · rcases o2_ j i with hji | hji | hji
        · rw[b6_ (by omega),hj,if_pos hji,if_pos (by omega)]
        · subst hji
          rw[e3_ (by omega),if_pos (by omega),hf0]
          rfl
        · rw[b6_ (by omega),hj,if_neg (by omega),if_neg (by omega)]
      · rcases b3_.1 hx with hx | hx
        · obtain⟨j,a,b,c⟩:=h1 x hx
          exact⟨j,a,by omega,c⟩
        · rw[e7_] at hx
          exact⟨i,hx,by omega,hfp⟩
      · rcases l5_ j i with hji | hji
        · exact m6_ _ (h2 j hji hf)
        · obtain rfl:j=i:=by omega
          exact m2_ _ (e7_.2 rfl)
      · rw[a8_,d5_,hnt]
        show _+1+(_+if (0:Int)<0 then 1 else 0)=i+1
        rw[if_neg (by omega)]
        omega
    | false =>
      rw[hc] at hf0 hfp hnt
      refine⟨_,rfl,near,far,rfl,hl,λj => ?_,λx hx => ?_,λj hj hf => ?_,?_⟩
      · rcases o2_ j i with hji | hji | hji
        · rw[hj,if_pos hji,if_pos (by omega)]
        · subst hji
          rw[hv,if_pos (by omega),hf0,hv1]
          rfl
        · rw[hj,if_neg (by omega),if_neg (by omega)]
      · obtain⟨j,a,b,c⟩:=h1 x hx
        exact⟨j,a,by omega,c⟩
      · rcases l5_ j i with hji | hji
        · exact h2 j hji hf
        · obtain rfl:j=i:=by omega
          rw[hfp] at hf
          cases hf
      · rw[hnt]
        show _+(_+if (-1:Int)<0 then 1 else 0)=i+1
        rw[if_pos (by omega)]
        omega
  · obtain⟨near,far,rfl,hl,hj,h1,h2,h3⟩:=hz
    have hff:far=xe_ g ps:=f1_ λj=>by
      rw[hj]
      split
      · rfl
      · rw[b9_ (by rw[f2_];omega),b9_ (by omega)]
    subst hff
    rw[h0_ (by omega)] at h3
    refine⟨_,by simp only[dnl,a2_];rfl,?_⟩
    simp only
    rw[rs_ (by omega) (by omega),a0_,b8_]
    refine tj_ es.length (λ(i:Nat) (z:Int×(List (List Int)×Unit))=>∃ bk,z=((i:Int),(bk,()))∧BkI (esQ Q es) ps.length i bk) ⟨_,rfl,f2_,λt l hl => ?_⟩ (λi z hi hz => ?_) (λz hz => ?_)
    · rw[h5_] at hl
      split at hl
      · obtain rfl:=a6_ hl
        exact⟨l7_ _,λy=>⟨(λh=>by cases h),λ⟨j,h,_⟩=>by omega⟩⟩
      · cases hl
    · obtain⟨bk,rfl,hb1,hb2⟩:=hz
      obtain⟨row,hrow⟩:=bd_ hi
      have hrl:=hG.eL row (ax_ hrow)
      simp only[dlt hi,a5_,ah_ hrow,a0_]
      have:=tj_ (υ:=(Int×(List (List Int)×Unit))⊕(List (List Int)×Unit)) row.length (λ(k:Nat) (z:Int×(List (List Int)×Unit))=>∃ bk',z=((k:Int),(bk',()))∧bk'.length=ps.length∧∀ (t:Nat) l,bk'[t]?=some l→l.length≤i * 480+k∧∀ y:Int,y ∈ l↔((∃ j:Nat,j<i∧y=(j:Int)∧∃ row,(esQ Q es)[j]?=some row∧∃ x ∈ row,x.2=(t:Int))∨(y=(i:Int)∧∃ x ∈ (row.take k).filter Q,x.2=(t:Int))))
        (body:=rowB (i:Int) row) (z0:=(0,(bk,()))) (K:=λv22=>some (inl ((w64 ((i:Int)+1)),(v22.1,())))) (Q:=λy=>∃ z',y=inl z'∧∃ bk,z'=(((i+1:Nat):Int),(bk,()))∧BkI (esQ Q es) ps.length (i+1) bk)
        ⟨bk,rfl,hb1,λt l hl=>⟨(hb2 t l hl).1,λy=>by
          rw[(hb2 t l hl).2 y,k9_,List.filter_nil]
          exact⟨.inl,λh=>h.elim id λ⟨_,x,h,_⟩=>(by cases h)⟩⟩⟩ (λk z hk hz => ?_) (λz hz => ?_)
      · obtain⟨y,ey,z',rfl,bk2,rfl,hB⟩:=this
        exact⟨_,ey,bk2,rfl,hB⟩
      · obtain⟨bk',rfl,hb3,hb4⟩:=hz
        obtain⟨x,hxk⟩:=bd_ hk
        obtain⟨x0,x1⟩:=hx row (ax_ hrow) x (ax_ hxk)
        obtain⟨l,hl⟩:=bd_ (l:=bk') (i:=x.2.toNat) (by omega)
        have hat:at? bk' x.2=some l:=by rw[show x.2=((x.2.toNat:Nat):Int) by omega];exact ah_ hl
        obtain⟨q1,q2⟩:=hb4 _ l hl
        refine⟨_,hR.st (i:Int) row k x bk' l hxk hat (by omega) (by omega),_,rfl,by cases Q x<;>simp[hb3],λt l' hl' => ?_⟩
        have htk:∀ y:Int,(∃ e ∈ (row.take (k+1)).filter Q,e.2=y)↔((∃ e ∈ (row.take k).filter Q,e.2=y)∨(Q x=true∧x.2=y)):=λy=>by
          rw[d7_,hxk,n6_]
          constructor
          · rintro⟨e,he,h⟩
            rcases b3_.1 he with he | he
            · exact .inl ⟨e,he,h⟩
            · have h2:=c7_.1 he
              have:e=x:=by simpa using h2.1
              rw[this] at h h2
              exact .inr ⟨h2.2,h⟩
          · rintro (⟨e,he,h⟩ | ⟨hq,h⟩)
            · exact⟨e,m6_ _ he,h⟩
            · exact⟨x,m2_ _ (c7_.2 ⟨by simp,hq⟩),h⟩
        have skip:∀ l',bk'[t]?=some l'→(Q x=true→x.2≠(t:Int))→l'.length≤i * 480+(k+1)∧∀ y:Int,y ∈ l'↔((∃ j:Nat,j<i∧y=(j:Int)∧∃ row,(esQ Q es)[j]?=some row∧∃ x ∈ row,x.2=(t:Int))∨(y=(i:Int)∧∃ x ∈ (row.take (k+1)).filter Q,x.2=(t:Int))):=λl' hl' hne=>by
          obtain⟨r1,r2⟩:=hb4 t l' hl'
          refine⟨by omega,λy => ?_⟩
          rw[r2 y,htk]
          constructor
          · rintro (h | ⟨h,h'⟩)
            · exact .inl h
            · exact .inr ⟨h,.inl h'⟩
          · rintro (h | ⟨h,h' | ⟨h1,h2⟩⟩)
            · exact .inl h
            · exact .inr ⟨h,h'⟩
            · exact absurd h2 (hne h1)
        cases hQ:Q x with
        | false =>
          rw[hQ] at hl'
          exact skip l' hl' (λe=>by rw[hQ] at e;cases e)
        | true =>
          rw[hQ,a5_] at hl'
          by_cases ht:x.2.toNat=t
          · rw[ht,e3_ (by omega)] at hl'
            obtain rfl:=a6_ hl'
            rw[ht] at q2
            have hxt:x.2=(t:Int):=by omega
            refine⟨by rw[a8_,d5_];omega,λy => ?_⟩
            rw[b3_,e7_,q2 y,htk]
            constructor
            · rintro ((h | ⟨h,h'⟩) | h)
              · exact .inl h
              · exact .inr ⟨h,.inl h'⟩
              · exact .inr ⟨h,.inr ⟨hQ,hxt⟩⟩
            · rintro (h | ⟨h,h' | h'⟩)
              · exact .inl (.inl h)
              · exact .inl (.inr ⟨h,h'⟩)
              · exact .inr h
          · rw[b6_ ht] at hl'
            exact skip l' hl' (λ_=>by omega)
      · obtain⟨bk',rfl,hb3,hb4⟩:=hz
        refine⟨_,hR.en (i:Int) row bk',_,rfl,_,rfl,bk',by simp only[ba_ (show Sm i by show _≤1000000000;omega)],hb3,λt l hl => ?_⟩
        obtain⟨r1,r2⟩:=hb4 t l hl
        refine⟨by omega,λy => ?_⟩
        rw[r2 y,e1_]
        constructor
        · rintro (⟨j,a,b⟩ | ⟨h,h'⟩)
          · exact⟨j,by omega,b⟩
          · exact⟨i,by omega,h,_,ct2 hrow,h'⟩
        · rintro⟨j,a,b,row',c,d⟩
          rcases l5_ j i with hji | hji
          · exact .inl ⟨j,hji,b,row',c,d⟩
          · obtain rfl:j=i:=by omega
            rw[ct2 hrow] at c
            obtain rfl:=a6_ c
            exact .inr ⟨b,d⟩
    · obtain⟨bk,rfl,hB⟩:=hz
      rw[← hesQ] at hB
      refine⟨_,by simp only[dnl,a2_];rfl,?_⟩
      simp only
      refine bi1 (λnear far=>BI (esQ Q es) (ty_ g ps) ps.length near far) (λnear far=>near.length+mp_ far) (λh tl far I => ?_) (λfar I => ?_) (co6 h1 h2 h3)
      rotate_left
      · exact⟨_,rfl,_,rfl,far,rfl,⟨I.len,BI_end I⟩,λi v h=>by have:=I.bd i v h;omega⟩
      obtain⟨d,hd,hd0⟩:=I.nr h (d9_ ..)
      obtain⟨hi,hhi,hdi⟩:=un_ hd
      have hlt:=am_ hdi
      have hIl:=I.len
      have hIm:=I.ms
      have hIb:=I.bd hi d hdi
      obtain⟨bs,hbs⟩:=bd_ (l:=bk) (i:=hi) (by have:=hB.1;omega)
      have hbsl:=(hB.2 hi bs hbs).1
      rw[hesQ] at hbsl
      have hbe:=BkI_all hB hbs
      have hatb:at? bk h=some bs:=by rw[hhi];exact ah_ hbs
      have hat0:at? (h::tl) 0=some h:=rfl
      have hsub:sub? (h::tl) 1 ((h::tl).length:Int)=some tl:=by
        unfold sub?
        rw[if_pos ⟨by omega,by rw[c4_];omega,m4_ _⟩,b8_,e1_]
        rfl
      simp only[show decide ((0:Int)<((h::tl).length:Int))=true from b5_ (by rw[c4_];omega),a5_,hat0,hsub,hatb,a0_]
      refine tj_ bs.length (λ(k:Nat) (z:List Int×(Int×(List Int×Unit)))=>∃ pu far',z=(tl++pu,((k:Int),(far',())))∧AI bs d far k pu far') ⟨[],far,by rw[e8_];rfl,co7 bs d far⟩ (λk z hk hz => ?_) (λz hz => ?_)
      · obtain⟨pu,far',rfl,A⟩:=hz
        obtain⟨y,hy⟩:=bd_ hk
        obtain⟨j,hj2,row,hrow,x,hxr,hxe⟩:=(hbe y).1 (ax_ hy)
        have hrow':=am_ hrow
        rw[hesQ] at hrow'
        have hAl:=A.len
        have hAm:=A.ms
        obtain⟨v,hv⟩:=bd_ (l:=far') (i:=j) (by omega)
        have hvy:at? far' y=some v:=by rw[hj2];exact ah_ hv
        have hdh:at? far' h=some d:=by rw[hhi];exact ah_ (A.keep hi d hdi hd0)
        rw[c4_] at hIm
        by_cases hv0:v<0
        · refine⟨_,?_,pu++[y],_,rfl,AI_add hd0 A hy hvy hv0⟩
          simp only[dlt hk,a5_,ah_ hy,hvy,hdh,a0_,b5_ hv0,cf_ (show Sm (tl++pu).length by rw[a8_];show _≤1000000000;omega),ba_ (show Sm k by show _≤1000000000;omega),b4_,fy_ (n:=d+1) (by omega) (by omega)]
        · refine⟨_,?_,pu,far',rfl,AI_skip A hy hvy (by omega)⟩
          simp only[dlt hk,a5_,ah_ hy,hvy,a0_,c1_ hv0,a2_,ba_ (show Sm k by show _≤1000000000;omega)]
      · obtain⟨pu,far',rfl,A⟩:=hz
        refine⟨_,by simp only[dnl,a2_];rfl,_,rfl,_,_,rfl,BI_step (by rw[hesQ,hes]) hxQ I hd (λy=>by rw[hhi];exact hbe y) A,?_⟩
        have:=A.ms
        show (tl++pu).length+mp_ far'<(h::tl).length+mp_ far
        rw[a8_,c4_]
        omega
theorem bs3 {rowB} {Q:ac_→Bool} (hR:RowOk rowB Q) {g:ad_} (hg:SmG g) (h0:cl_ g=0) {ps:List aa_} {es:List (List ac_)} (hG:GI g ps es) (hes:es.length=ps.length):∃ D,(D.length=ps.length∧LC (esQ Q es) (ty_ g ps) D)∧(∀ (i:Nat) (v:Int),D[i]?=some v→v≤(ps.length:Int))∧∀ {τ:Type} (K:List Int×Unit→Option τ),meaG rowB g (ps,es) K=K (D,()):=by
  obtain⟨y,e,D,rfl,h,hb⟩:=cj8 hR hg h0 hG hes
  refine⟨D,h,hb,λK => ?_⟩
  rw[bs4,e,a0_]
theorem rowE_ok:RowOk rowE (λ_=>true):=by
  refine⟨λi row k x bk l hx hl h1 h2 => ?_,λi row bk => ?_⟩
  · unfold rowE
    simp only[dlt (am_ hx),a5_,ah_ hx,a0_,hl,cf_ (show Sm l.length by show _≤1000000000;omega),e0_,i3_,ba_ (show Sm k by show _≤1000000000;omega)]
  · unfold rowE
    simp only[dnl,a2_]
theorem cm2 (es:List (List ac_)):esQ (λ_=>true) es=es:=by
  unfold esQ
  refine e4_ (m8_ λl hl => ?_) (List.map_id _)
  exact n0_.2 λx hx=>rfl
theorem mea_eq {g:ad_} (hg:SmG g) (h0:cl_ g=0) {ps:List aa_} {es:List (List ac_)} (hG:GI g ps es) (hes:es.length=ps.length):∃ D,(D.length=ps.length∧LC es (ty_ g ps) D)∧(∀ (i:Nat) (v:Int),D[i]?=some v→v≤(ps.length:Int))∧∀ {τ:Type} (K:List Int×Unit→Option τ),meaK g (ps,es) K=K (D,()):=by
  have:=bs3 rowE_ok hg h0 hG hes
  rw[cm2] at this
  exact this
end
section
set_option maxRecDepth 10000
theorem at1 (g:ad_):∃ b,jl_ g=some (b,())∧(b=false→SmG g):=by
  obtain⟨b,e,hb⟩:=bt8 g
  unfold jl_
  rw[e,a0_]
  cases b with
  | true=>exact⟨true,by simp only[a5_,a0_,e],λh=>by cases h⟩
  | false =>
  have hg:=hb rfl
  simp only[a2_]
  rw[vv_ hg,a0_,a0_]
  cases hc:cl_ g != 0 with
  | true=>exact⟨false,by simp only[a5_,e,a0_],λ_=>hg⟩
  | false =>
  simp only[a2_]
  have key:∀ c:Bool,∃ b,(((some (c,()):Option (Bool×Unit))).bind λv4 =>
 (cond v4.1
 (some (true,()))
 ((dw_ g).bind λv5 =>
 (cond (v5.2.1==2)
 (some (true,()))
 (some ((decide (200<(v5.1.1.length:Int))),()))))))=some (b,())∧(b=false→SmG g):=λc=>by
    rw[a0_,rj_ hg,a0_]
    cases c with
    | true=>exact⟨true,rfl,λ_=>hg⟩
    | false =>
      cases hE:(exG g).2.1==2 with
      | true=>exact⟨true,by simp only[a2_,hE,a5_],λ_=>hg⟩
      | false=>exact⟨_,by simp only[a2_,hE];rfl,λ_=>hg⟩
  have one:∀ (c:Bool) (o:Option (Bool×Unit)),(∃ d,o=some (d,()))→∃ d,cond c (some (true,())) o=some (d,()):=λc o h=>by
    cases c with
    | true=>exact⟨true,rfl⟩
    | false=>exact h
  obtain⟨d,hd⟩:=one (decide (4<(g.1.1.length:Int))) _ (one (decide (4<(g.1.2.1.length:Int))) _ (one (decide (3<(g.1.2.2.1.length:Int))) _ (one (decide (2<g.1.2.2.2.2.2.2.1)) _ (one (decide (6<(g.1.2.2.2.2.1.length:Int))) _ (one (decide (4<(g.1.2.2.2.2.2.1.length:Int))) _ (one (decide (5<(g.2.2.2.1.length:Int))) _ ⟨decide (3<(g.2.1.length:Int)),rfl⟩))))))
  rw[hd]
  exact key d
end
section
set_option maxRecDepth 10000
noncomputable def shoX (G:cj_) (v40:List Int×Unit):Option (List af_×(Int×Unit)) :=
 ((at? v40.1 0).bind λv41 =>
 ((at? v40.1 0).bind λv42 =>
 (cond (decide (v42<0))
 (some ([],(50,())))
 ((ag_ (ρ:=(((List af_)×Unit)×Unit)) (λ(v43:(Int×(((List af_)×Unit)×Unit))) =>
 ((at? v40.1 v43.1).bind λv44 =>
 ((at? v40.1 v43.1).bind λv45 =>
 (cond (decide (0<v45))
 ((((at? G.2 v43.1).bind λv46 =>
 ((ag_ (ρ:=(((List Int)×(Unit×(((List af_)×Unit)×Unit)))⊕((List Int)×(((List af_)×Unit)×Unit)))) (λ(v47:(Int×((List Int)×(Unit×(((List af_)×Unit)×Unit))))) =>
 (cond (decide (v47.1<(v46.length:Int)))
 ((at? v46 v47.1).bind λv48 =>
 ((at? v40.1 v48.2).bind λv49 =>
 ((at? v40.1 v48.2).bind λv50 =>
 ((at? v40.1 v43.1).bind λv51 =>
 ((at? v40.1 v43.1).bind λv52 =>
 (cond (v50==(w64 (v52 - 1)))
 ((at? v40.1 v43.1).bind λv53 =>
 ((at? v40.1 v43.1).bind λv54 =>
 (cond (decide (0<v54))
 ((push? (α:=af_) v47.2.2.2.1.1 [v48.1]).bind λv55 =>
 ((at? v47.2.1 0).bind λv56 =>
 (some (inr (inr ((v47.2.1.set (0:Int).toNat v48.2),((v55,()),())))))))
 (some (inl ((w64 (v47.1+1)),(v47.2.1,((),((v47.2.2.2.1.1,()),())))))))))
 (some (inl ((w64 (v47.1+1)),(v47.2.1,((),((v47.2.2.2.1.1,()),()))))))))))))
 (some (inr (inl (v47.2.1,((),((v47.2.2.2.1.1,()),())))))))) (0,([v43.1],((),((v43.2.1.1,()),()))))).bind λv57 =>
 (cd_ v57 (λv58=>(some (v58.1,((v58.2.2.1.1,()),()))))
 (λv59=>(some v59)))))).bind λv60 =>
 ((at? v60.1 0).bind λv61 =>
 (some (inl (v61,((v60.2.1.1,()),()))))))
 (some (inr ((v43.2.1.1,()),()))))))) (0,(([],()),()))).bind λv62 =>
 (some (v62.1.1,(0,())))))))
theorem cf8:fs_=λa0=>(dx_ a0).bind λv0=>cond (v0.2.1 != 0) (cond (v0.2.1 != 0) (some ([],(v0.2.1,()))) none) (meaK a0 v0.1 λv40=>shoX v0.1 v40):=by
  kernel_rfl
def shp (es:List (List ac_)) (D:List Int):Nat→Int→List af_
  | 0,_=>[]
  | k+1,i=>match ((at? es i).getD []).find? (λx=>gi D x.2==(k:Int)) with
    | none=>[]
    | some x=>x.1::shp es D k x.2
theorem yq_ {α ρ:Type} {q:α→Bool} {f:α→ρ}:∀ (m:List α) (k:Nat),ga_ (λ_ y=>cond (q y) (some (f y)) none) k m=(m.find? q).map f
  | [],_=>rfl
  | x::m,k=>by
    unfold ga_
    cases hq:q x with
    | true=>rw[List.find?_cons_of_pos hq];rfl
    | false =>
      rw[List.find?_cons_of_neg (by rw[hq];decide)]
      exact yq_ m (k+1)
theorem bi0 {σ ρ υ:Type} {body:σ→Option (σ⊕ρ)} {s:σ} {r:ρ} {K:ρ→Option υ} {x:Option υ} (h:ag_ body s=some r) (hk:K r=x):(ag_ body s).bind K=x:=by
  rw[h,a0_,hk]
theorem al6 {σ ρ:Type} (F:Int→List af_→σ) (G:List af_→ρ) {es:List (List ac_)} {fin:Nat→Bool} {D:List Int} (hL:LC es fin D) (hD:D.length≤3000) (hxx:∀ l ∈ es,∀ x ∈ l,0≤x.2∧x.2<(D.length:Int)) {body:σ→Option (σ⊕ρ)}
    (hz:∀ i acc,at? D i=some 0→body (F i acc)=some (.inr (G acc)))
    (hs:∀ (i:Int) (k:Nat) acc row x,at? D i=some ((k+1:Nat):Int)→k≤1000000→acc.length≤1000000→at? es i=some row→row.find? (λx=>gi D x.2==(k:Int))=some x→body (F i acc)=some (.inl (F x.2 (acc++[x.1])))) :
    ∀ (k:Nat) (i:Int) (acc:List af_),at? D i=some (k:Int)→acc.length+k≤1000000→ag_ body (F i acc)=some (G (acc++shp es D k i))
  | 0,i,acc,h,_=>by
    unfold shp
    rw[e8_]
    exact br_ (hz i acc h)
  | k+1,i,acc,h,hk=>by
    obtain⟨n,rfl,hn⟩:=un_ h
    obtain⟨l,x,hl,hx,hat⟩:=hL.dn n k hn
    have hatl:at? es (n:Int)=some l:=ah_ hl
    cases hf:l.find? (λx=>gi D x.2==(k:Int)) with
    | none =>
      have:=List.find?_eq_none.1 hf x hx
      rw[mr_ hat] at this
      simp at this
    | some y =>
      have hy:gi D y.2=(k:Int):=by
        have:=List.find?_some hf
        exact f4_.1 this
      obtain⟨y0,y1⟩:=hxx l (ax_ hl) y (List.mem_of_find?_eq_some hf)
      have haty:at? D y.2=some (k:Int):=by rw[ol_ y0 y1,hy]
      have:=al6 F G hL hD hxx hz hs k y.2 (acc++[y.1]) haty (by rw[a8_,d5_];omega)
      refine bo_ (hs (n:Int) k acc l y h (by omega) (by omega) hatl hf) ?_
      have e:shp es D (k+1) (n:Int)=y.1::shp es D k y.2:=by
        rw[shp,hatl,f6_,hf]
      rw[this,e,b4_]
      rfl
theorem shoX_eq {ps:List aa_} {es:List (List ac_)} {fin:Nat→Bool} {D:List Int} (hL:LC es fin D) (hD:D.length≤3000) (h1:1≤D.length) (hb:∀ (i:Nat) (v:Int),D[i]?=some v→v≤(D.length:Int)) (hes:es.length=D.length) (hel:∀ l ∈ es,l.length≤480) (hxx:∀ l ∈ es,∀ x ∈ l,0≤x.2∧x.2<(D.length:Int)) :
    shoX (ps,es) (D,())=some (cond (decide (gi D 0<0)) ([],(50,())) (shp es D (gi D 0).toNat 0,(0,()))):=by
  unfold shoX
  have h0:at? D 0=some (gi D 0):=ol_ (by omega) (by omega)
  simp only[h0,a0_]
  cases hc:decide (gi D 0<0) with
  | true=>rfl
  | false =>
  have hc:=e2_ hc
  have hle:gi D 0≤(D.length:Int):=by
    obtain⟨i,_,hi⟩:=un_ h0
    exact hb i _ hi
  simp only[a2_]
  refine bi0 (r:=((shp es D (gi D 0).toNat 0,()),())) ?_ rfl
  refine al6 (F:=λi acc=>(i,((acc,()),()))) (G:=λacc=>((acc,()),())) hL hD hxx (λi acc h => ?_) (λi k acc row x h hk ha hrow hf => ?_) (gi D 0).toNat 0 [] (by rw[h0];congr 1;omega) (by show 0+_≤_;omega)
  · simp only[h,a0_]
    rfl
  · have hrl:row.length≤480:=by
      obtain⟨j,_,hj⟩:=un_ hrow
      exact hel row (ax_ hj)
    simp only[h,a0_,show decide ((0:Int)<((k+1:Nat):Int))=true from b5_ (by omega),a5_,hrow]
    refine e4_ (congrArg (λo=>Option.bind o _) (bn_ row (λ_ y=>cond (gi D y.2==(k:Int)) (some (inr ([y.2],((acc++[y.1],()),())):((List Int)×(Unit×(((List af_)×Unit)×Unit)))⊕((List Int)×(((List af_)×Unit)×Unit)))) none) (λj=>((j:Int),([i],((),((acc,()),()))))) (r0:=inl ([i],((),((acc,()),())))) (x:=some ([x.2],((acc++[x.1],()),()))) (λj y hy => ?_) ?_ ?_)) ?_
    · obtain⟨jr,_,hj⟩:=un_ hrow
      obtain⟨y0,y1⟩:=hxx row (ax_ hj) y (ax_ hy)
      have hjl:=am_ hy
      simp only[dlt hjl,a5_,ah_ hy,ol_ y0 y1,a0_,fy_ (n:=((k+1:Nat):Int) - 1) (by omega) (by omega),show ((k+1:Nat):Int) - 1=(k:Int) by omega,fy_ (n:=(k:Int)) (by omega) (by omega),ba_ (show Sm j by show _≤1000000000;omega),cf_ (show Sm acc.length by show _≤1000000000;omega)]
      cases gi D y.2==(k:Int)<;>rfl
    · simp only[dnl,a2_]
    · rw[yq_,hf]
      rfl
    · rfl
theorem at8 (g:ad_) (p:aa_):∀ (ms:List af_) (e e':List ac_) (ps ps':List aa_),inn g p ms e ps=some (e',ps')→ps.length≤ps'.length
  | [],e,e',ps,ps',h=>by
    unfold inn at h
    obtain⟨_,rfl⟩:=h9_ (a6_ h)
    exact c3_ _
  | m::ms,e,e',ps,ps',h=>by
    unfold inn at h
    cases hw:wh ps ((stepP g p m).getD eP) with
    | some n =>
      simp only[hw] at h
      exact at8 g p ms _ _ _ _ h
    | none =>
      simp only[hw] at h
      split at h
      · cases h
      · have:=at8 g p ms _ _ _ _ h
        rw[a8_] at this
        omega
theorem bp4 (g:ad_):∀ (n i:Nat) (ps ps':List aa_) (es es':List (List ac_)),out g n i ps es=some (ps',es')→ps.length≤ps'.length
  | 0,i,ps,ps',es,es',h=>by
    unfold out at h
    obtain⟨rfl,_⟩:=h9_ (a6_ h)
    exact c3_ _
  | n+1,i,ps,ps',es,es',h=>by
    unfold out at h
    cases hp:ps[i]? with
    | none =>
      simp only[hp] at h
      obtain⟨rfl,_⟩:=h9_ (a6_ h)
      exact c3_ _
    | some p =>
      simp only[hp] at h
      cases hin:inn g p (pmv g p) [] ps with
      | none=>simp only[hin] at h;cases h
      | some z =>
        simp only[hin] at h
        exact c6_ (at8 g p _ _ _ _ _ hin) (bp4 g n _ _ _ _ _ h)
theorem bx4 {g:ad_} (he:(exG g).2.1=0):1≤(exG g).1.1.length:=by
  unfold exG at he ⊢
  cases hb:(ud_ g).2.1 != 0 with
  | true =>
    rw[hb] at he
    rw[o0_] at hb
    exact absurd he hb
  | false =>
  rw[hb,a2_] at he
  cases ho:out g 3001 0 [(ud_ g).1] [] with
  | none =>
    rw[ho] at he
    exact absurd (show (2:Int)=0 from he) (by decide)
  | some z=>exact bp4 g _ _ _ _ _ _ ho
theorem ar9 {g:ad_} (hg:SmG g):∃ D,(((exG g).2.1≠0∧fs_ g=some ([],((exG g).2.1,())))∨((exG g).2.1=0∧D.length=(exG g).1.1.length∧LC (exG g).1.2 (ty_ g (exG g).1.1) D∧fs_ g=some (cond (decide (gi D 0<0)) ([],(50,())) (shp (exG g).1.2 D (gi D 0).toNat 0,(0,()))))):=by
  rw[cf8]
  simp only
  rw[rn_ hg,a0_]
  cases hE:(exG g).2.1 != 0 with
  | true =>
    rw[o0_] at hE
    exact⟨[],.inl ⟨hE,rfl⟩⟩
  | false =>
  have hE:(exG g).2.1=0:=by simpa using hE
  obtain⟨h0,hG,hes⟩:=ct0 hg hE
  obtain⟨D,h1,hb,h2⟩:=mea_eq hg h0 hG hes
  have hpos:=bx4 hE
  have hn:=hG.pI.n
  refine⟨D,.inr ⟨hE,h1.1,h1.2,?_⟩⟩
  simp only[a2_]
  rw[show (exG g).1=((exG g).1.1,(exG g).1.2) from rfl,h2]
  exact shoX_eq h1.2 (by rw[h1.1];exact hn) (by rw[h1.1];exact hpos) (by rw[h1.1];exact hb) (by rw[h1.1];exact hes) hG.eL (λl hl x hx=>by rw[h1.1];exact (hG.eI l hl x hx).1)
def g0:ad_:=(([[104,97,108,108],[118,97,117,108,116]],([([98,111,120],(0,(2,0))),([100,111,111,114],(0,(2,0)))],([([107,101,121],(0,[(0,(1,false))]))],([(0,(1,[(1,(1,false))]))],([([111,112,101,110],(0,(0,([],([],([(0,1)],([],[]))))))),([116,117,114,110],(0,((-1),([0],([],([(1,1)],([0],[])))))))],([],(1,[(1,(1,false))]))))))),([(2,4)],([[3,1]],([([108,101,97,102],(0,(0,([],(2,(0,(1,(4,(0,([],false)))))))))),([98,97,99,107],(0,(0,([(0,(0,false))],(3,(1,(0,(0,(0,([],false)))))))))),([99,97,114,100],(1,((-1),([],(0,(0,(0,(0,(0,([],false))))))))))],1))))
end
section
set_option maxRecDepth 10000
noncomputable def dst (es:List (List ac_)) (fin:Nat→Bool) (n:Nat):List Int:=Classical.epsilon λD=>D.length=n∧LC es fin D
theorem ct8 {es:List (List ac_)} {fin:Nat→Bool} {n:Nat} {D:List Int} (h1:D.length=n) (h2:LC es fin D):dst es fin n=D:=by
  have h:(dst es fin n).length=n∧LC es fin (dst es fin n):=Classical.epsilon_spec (p:=λD:List Int=>D.length=n∧LC es fin D) ⟨D,h1,h2⟩
  exact cc3 h.2 h2 (by omega)
section
variable {g:ad_} (hg:SmG g) (h0:cl_ g=0) {ps:List aa_} {es:List (List ac_)} (hG:GI g ps es) (hes:es.length=ps.length)
include hg h0 hG hes
theorem ct7 (act:Int):(dst (esF act es) (ty_ g ps) ps.length).length=ps.length∧LC (esF act es) (ty_ g ps) (dst (esF act es) (ty_ g ps) ps.length):=by
  obtain⟨D,e,h1,h2⟩:=ue_ hg h0 hG hes act
  rw[ct8 h1 h2]
  exact⟨h1,h2⟩
end
def rowQ (Q:ac_→Bool) (i:Int) (row:List ac_) (z:Int×(List (List Int)×Unit)):Option ((Int×(List (List Int)×Unit))⊕(List (List Int)×Unit)):=match at? row z.1 with
  | none=>some (.inr (z.2.1,()))
  | some x=>some (.inl (w64 (z.1+1),(cond (Q x) (z.2.1.set x.2.toNat ((at? z.2.1 x.2).getD []++[i])) z.2.1,())))
theorem rowQ_ok (Q:ac_→Bool):RowOk (rowQ Q) Q:=by
  refine⟨λi row k x bk l hx hl h1 h2 => ?_,λi row bk => ?_⟩
  · unfold rowQ
    simp only[ah_ hx,hl,f6_,ba_ (show Sm k by show _≤1000000000;omega)]
  · unfold rowQ
    simp only[ao2 (c3_ row.length)]
theorem dst_le {g:ad_} (hg:SmG g) (h0:cl_ g=0) {ps:List aa_} {es:List (List ac_)} (hG:GI g ps es) (hes:es.length=ps.length) (act:Int):∀ (i:Nat) (v:Int),(dst (esF act es) (ty_ g ps) ps.length)[i]?=some v→v≤(ps.length:Int):=by
  obtain⟨D,⟨h1,h2⟩,h3,_⟩:=bs3 (rowQ_ok (kp act)) hg h0 hG hes
  rw[show dst (esF act es) (ty_ g ps) ps.length=D from ct8 h1 h2]
  exact h3
end
section
set_option maxRecDepth 10000
def Pa (es:List (List ac_)):Nat→List ac_→Nat→Prop
  | i,[],j=>i=j
  | i,x::xs,j=>∃ row,es[i]?=some row∧x ∈ row∧∃ n:Nat,x.2=(n:Int)∧Pa es n xs j
theorem wd_ {es:List (List ac_)} {act:Int}:∀ (xs:List ac_) (i j:Nat),Pa es i xs j→(∀ x ∈ xs,kp act x=true)→Pa (esF act es) i xs j
  | [],i,j,h,_=>h
  | x::xs,i,j,h,hk=>by
    obtain⟨row,h1,h2,n,h3,h4⟩:=h
    exact⟨row.filter (kp act),bx5 h1,c7_.2 ⟨h2,hk x (by simp)⟩,n,h3,wd_ xs n j h4 λy hy=>hk y (by simp[hy])⟩
theorem ql_ {es:List (List ac_)} {act:Int}:∀ (xs:List ac_) (i j:Nat),Pa (esF act es) i xs j→Pa es i xs j∧∀ x ∈ xs,kp act x=true
  | [],i,j,h=>⟨h,λx hx=>by simp at hx⟩
  | x::xs,i,j,h=>by
    obtain⟨row,h1,h2,n,h3,h4⟩:=h
    obtain⟨g1,g2⟩:=ql_ xs n j h4
    have h1':(es[i]?).map (λl=>l.filter (kp act))=some row:=by
      rw[← h1]
      unfold esF
      rw[d8_]
    cases hr:es[i]? with
    | none=>rw[hr] at h1';cases h1'
    | some r0 =>
      rw[hr] at h1'
      obtain rfl:r0.filter (kp act)=row:=a6_ h1'
      obtain⟨m1,m2⟩:=c7_.1 h2
      refine⟨⟨r0,hr,m1,n,h3,g1⟩,λy hy => ?_⟩
      rcases d1_.1 hy with rfl | hy
      · exact m2
      · exact g2 y hy
def RowI (g:ad_) (p:aa_) (ps:List aa_) (row:List ac_):Prop:=∀ x ∈ row,∃ q n,stepP g p x.1=some q∧x.2=((n:Nat):Int)∧ps[n]?=some q
theorem ao5 {g:ad_} {p:aa_} {ps ps':List aa_} {row:List ac_} (h:RowI g p ps row) (hp:∀ (n:Nat) q,ps[n]?=some q→ps'[n]?=some q):RowI g p ps' row:=λx hx=>by
  obtain⟨q,n,h1,h2,h3⟩:=h x hx
  exact⟨q,n,h1,h2,hp n q h3⟩
theorem at7 {g:ad_} {p:aa_}:∀ (ms:List af_) (e e':List ac_) (ps ps':List aa_),(∀ m ∈ ms,∃ q,stepP g p m=some q)→RowI g p ps e→inn g p ms e ps=some (e',ps') →
    RowI g p ps' e'∧e'.map (·.1)=e.map (·.1)++ms∧∀ (n:Nat) q,ps[n]?=some q→ps'[n]?=some q
  | [],e,e',ps,ps',hm,hr,h=>by
    unfold inn at h
    cases h
    exact⟨hr,by simp,λn q h=>h⟩
  | m::ms,e,e',ps,ps',hm,hr,h=>by
    obtain⟨q,hq⟩:=hm m (by simp)
    unfold inn at h
    rw[hq,f6_] at h
    cases hw:wh ps q with
    | some n =>
      rw[hw] at h
      have hn:=bj3 hw
      obtain⟨h1,h2,h3⟩:=at7 ms _ e' ps ps' (λx hx=>hm x (by simp[hx])) (λx hx=>by
        rcases b3_.1 hx with hx | hx
        · exact hr x hx
        · simp at hx;subst hx;exact⟨q,n,hq,rfl,hn⟩) h
      exact⟨h1,by rw[h2];simp,h3⟩
    | none =>
      rw[hw] at h
      simp only at h
      by_cases hl:ps.length=3000
      · rw[if_pos hl] at h;cases h
      · rw[if_neg hl] at h
        have hp:∀ (n:Nat) z,ps[n]?=some z→(ps++[q])[n]?=some z:=λn z hz=>by
          rw[b1_ (a3_.1 hz).1]
          exact hz
        obtain⟨h1,h2,h3⟩:=at7 ms _ e' _ ps' (λx hx=>hm x (by simp[hx])) (λx hx=>by
          rcases b3_.1 hx with hx | hx
          · exact ao5 hr hp x hx
          · simp at hx;subst hx;exact⟨q,ps.length,hq,rfl,by simp⟩) h
        exact⟨h1,by rw[h2];simp,λn z hz=>h3 n z (hp n z hz)⟩
def GE (g:ad_) (ps:List aa_) (es:List (List ac_)):Prop:=∀ (i:Nat) row,es[i]?=some row→∃ p,ps[i]?=some p∧row.map (·.1)=pmv g p∧RowI g p ps row
theorem bp3 {g:ad_}:∀ (n i:Nat) (ps ps':List aa_) (es es':List (List ac_)),es.length=i→GE g ps es→out g n i ps es=some (ps',es')→GE g ps' es'∧∀ (k:Nat) q,ps[k]?=some q→ps'[k]?=some q
  | 0,i,ps,ps',es,es',hl,hG,h=>by
    unfold out at h
    cases h
    exact⟨hG,λk q h=>h⟩
  | n+1,i,ps,ps',es,es',hl,hG,h=>by
    unfold out at h
    cases hp:ps[i]? with
    | none =>
      rw[hp] at h
      cases h
      exact⟨hG,λk q h=>h⟩
    | some p =>
      rw[hp] at h
      simp only at h
      cases hi:inn g p (pmv g p) [] ps with
      | none=>rw[hi] at h;cases h
      | some z =>
        obtain⟨e,ps1⟩:=z
        rw[hi] at h
        simp only at h
        obtain⟨h1,h2,h3⟩:=at7 (pmv g p) [] e ps ps1 (λm hm=>pf_ hm) (λx hx=>by simp at hx) hi
        have hG1:GE g ps1 (es++[e]):=λj row hj=>by
          by_cases hjl:j<es.length
          · rw[b1_ hjl] at hj
            obtain⟨p',g1,g2,g3⟩:=hG j row hj
            exact⟨p',h3 j p' g1,g2,ao5 g3 h3⟩
          · have hj':j=es.length:=by
              have:=(a3_.1 hj).1
              rw[a8_,d5_] at this
              omega
            subst hj'
            rw[c5_ (c3_ _),k6_] at hj
            obtain rfl:e=row:=a6_ hj
            exact⟨p,h3 _ p (by rw[hl];exact hp),by rw[h2];simp,h1⟩
        obtain⟨k1,k2⟩:=bp3 n (i+1) ps1 ps' (es++[e]) es' (by rw[a8_,d5_,hl]) hG1 h
        exact⟨k1,λk q hq=>k2 k q (h3 k q hq)⟩
theorem exG_GE {g:ad_} (he:(exG g).2.1=0):GE g (exG g).1.1 (exG g).1.2∧(exG g).1.1[0]?=some (ud_ g).1∧(ud_ g).2.1=0:=by
  unfold exG at he ⊢
  cases hb:(ud_ g).2.1 != 0 with
  | true =>
    rw[hb] at he
    have he:(ud_ g).2.1=0:=he
    rw[he] at hb
    cases hb
  | false =>
    rw[hb] at he
    simp only[a2_] at he ⊢
    cases ho:out g 3001 0 [(ud_ g).1] [] with
    | none=>rw[ho] at he;cases he
    | some z =>
      obtain⟨ps,es⟩:=z
      obtain⟨h1,h2⟩:=bp3 3001 0 _ ps [] es rfl (λi row h=>by simp at h) ho
      exact⟨h1,h2 0 _ rfl,by simpa using hb⟩
section
variable {g:ad_} (hg:SmG g) (he:(exG g).2.1=0)
noncomputable def dstG (g:ad_) (act:Int):List Int:=dst (esF act (exG g).1.2) (ty_ g (exG g).1.1) (exG g).1.1.length
structure Gr (g:ad_):Prop where
  h0:cl_ g=0
  gI:GI g (exG g).1.1 (exG g).1.2
  ge:GE g (exG g).1.1 (exG g).1.2
  len:(exG g).1.2.length=(exG g).1.1.length
  n:(exG g).1.1.length≤3000
  pos:1≤(exG g).1.1.length
  p0:(exG g).1.1[0]?=some (ud_ g).1
  e0:(ud_ g).2.1=0
  dl:∀ act,(dstG g act).length=(exG g).1.1.length
  dc:∀ act,LC (esF act (exG g).1.2) (ty_ g (exG g).1.1) (dstG g act)
  db:∀ act (i:Nat) (v:Int),(dstG g act)[i]?=some v→v≤((exG g).1.1.length:Int)
  xx:∀ l ∈ (exG g).1.2,∀ x ∈ l,0≤x.2∧x.2<((exG g).1.1.length:Int)
  al:esF (-1) (exG g).1.2=(exG g).1.2
include hg he
theorem ct1:Gr g:=by
  obtain⟨h0,hG,hes⟩:=ct0 hg he
  obtain⟨k1,k2,k3⟩:=exG_GE he
  exact⟨h0,hG,k1,hes,hG.pI.n,bx4 he,k2,k3,λact=>(ct7 hg h0 hG hes act).1,λact=>(ct7 hg h0 hG hes act).2,λact=>dst_le hg h0 hG hes act,λl hl x hx=>(hG.eI l hl x hx).1,esF_all λl hl x hx=>(hG.eI l hl x hx).2⟩
end
end
section
set_option maxRecDepth 10000
def Rch (es:List (List ac_)) (act:Int) (i:Nat):Prop:=∃ xs,Pa (esF act es) 0 xs i
def Bfo (es:List (List ac_)) (a b:Int):Prop:=∀ (i:Nat) row x,Rch es a i→es[i]?=some row→x ∈ row→kp b x=true
theorem cq6 {es:List (List ac_)} {y:ac_} {zs:List ac_}:∀ (ys:List ac_) (i j:Nat),Pa es i (ys++y::zs) j→∃ k row,Pa es i ys k∧es[k]?=some row∧y ∈ row
  | [],i,j,h=>by
    obtain⟨row,h1,h2,_⟩:=h
    exact⟨i,row,rfl,h1,h2⟩
  | x::ys,i,j,h=>by
    obtain⟨row,h1,h2,n,h3,h4⟩:=h
    obtain⟨k,r,g1,g2,g3⟩:=cq6 ys n j h4
    exact⟨k,r,⟨row,h1,h2,n,h3,g1⟩,g2,g3⟩
theorem Bfo.trans {es:List (List ac_)} {a b c:Int} (h:Bfo es a b) (k:Bfo es b c):Bfo es a c:=by
  intro i row x ⟨xs,hp⟩ hr hx
  obtain⟨p1,p2⟩:=ql_ xs 0 i hp
  by_cases hb:∀ y ∈ xs,kp b y=true
  · exact k i row x ⟨xs,wd_ xs 0 i p1 hb⟩ hr hx
  · exfalso
    refine hb λy hy => ?_
    obtain⟨ys,zs,rfl⟩:=List.append_of_mem hy
    obtain⟨j,r,g1,g2,g3⟩:=cq6 ys 0 i p1
    exact h j r y ⟨ys,wd_ ys 0 j g1 λz hz=>p2 z (by simp[hz])⟩ g2 g3
theorem bp1 {es:List (List ac_)} {y:ac_} {n:Nat}:∀ (ys:List ac_) (i k:Nat) (row:List ac_),Pa es i ys k→es[k]?=some row→y ∈ row→y.2=(n:Int)→Pa es i (ys++[y]) n
  | [],i,k,row,h,h1,h2,h3=>by
    obtain rfl:i=k:=h
    exact⟨row,h1,h2,n,h3,rfl⟩
  | x::ys,i,k,row,h,h1,h2,h3=>by
    obtain⟨r,g1,g2,m,g3,g4⟩:=h
    exact⟨r,g1,g2,m,g3,bp1 ys m k row g4 h1 h2 h3⟩
theorem Rch.zero {es:List (List ac_)} {act:Int}:Rch es act 0:=⟨[],rfl⟩
theorem Rch.next {es:List (List ac_)} {act:Int} {i:Nat} {row:List ac_} {x:ac_} {n:Nat} (h:Rch es act i) (h1:es[i]?=some row) (h2:x ∈ row) (h3:kp act x=true) (h4:x.2=(n:Int)):Rch es act n:=by
  obtain⟨xs,hp⟩:=h
  exact⟨xs++[x],bp1 xs 0 i _ hp (bx5 h1) (c7_.2 ⟨h2,h3⟩) h4⟩
theorem Rch.ind {es:List (List ac_)} {act:Int} {Q:Nat→Prop} (h0:Q 0) (hs:∀ (i:Nat) row x (n:Nat),Q i→es[i]?=some row→x ∈ row→kp act x=true→x.2=(n:Int)→Q n) {i:Nat} (h:Rch es act i):Q i:=by
  obtain⟨xs,hp⟩:=h
  obtain⟨p1,p2⟩:=ql_ xs 0 i hp
  have gen:∀ (xs:List ac_) (k:Nat),Q k→Pa es k xs i→(∀ x ∈ xs,kp act x=true)→Q i:=by
    intro xs
    induction xs with
    | nil=>intro k hk hp _;obtain rfl:k=i:=hp;exact hk
    | cons x xs ih =>
      intro k hk hp hx
      obtain⟨row,g1,g2,n,g3,g4⟩:=hp
      exact ih n (hs k row x n hk g1 g2 (hx x (by simp)) g3) g4 λy hy=>hx y (by simp[hy])
  exact gen xs 0 h0 p1 p2
theorem cj9 {E σ τ:Type} {step:E→σ→Option (σ⊕τ)} {fin:σ→Option τ} {m:List E} {d:σ} {q:E→Bool} {r1 r0:τ} (h:∀ e ∈ m,step e d=some (cond (q e) (.inr r1) (.inl d))) (hf:fin d=some r0):mapO step fin m d=some (cond (m.any q) r1 r0):=by
  refine mapO_of ?_
  have gen:∀ (n:Nat) (l:List E),l.length=n→(∀ e ∈ l,e ∈ m)→AllM step fin n l d (cond (l.any q) r1 r0):=by
    intro n
    induction n with
    | zero =>
      intro l hl _
      have:l=[]:=g9_ hl
      subst this
      exact hf
    | succ n ih =>
      intro l hl hm i e he
      have hme:=hm e (b2_ he)
      have hs:=h e hme
      have hi:=(a3_.1 he).1
      have hp:=pp_ he
      cases hq:q e with
      | true =>
        rw[hq] at hs
        have ha:l.any q=true:=h4_.2 ⟨e,b2_ he,hq⟩
        rw[ha]
        exact .inr hs
      | false =>
        rw[hq] at hs
        refine .inl ⟨d,hs,?_⟩
        have ha:l.any q=(l.eraseIdx i).any q:=by
          rw[hp.any_eq,m5_,hq,j9_]
        rw[ha]
        exact ih (l.eraseIdx i) (by rw[List.length_eraseIdx,if_pos hi,hl];rfl) λx hx=>hm x (List.mem_of_mem_eraseIdx hx)
  exact gen m.length m rfl λe he=>he
end
section
set_option maxRecDepth 10000
structure MS (m:List (Int×Int)) (s:Nat→Prop):Prop where
  v:∀ e ∈ m,e.2=1∧∃ i:Nat,e.1=(i:Int)∧s i
  i:∀ i,s i→((i:Int),(1:Int)) ∈ m
  nd:(m.map (·.1)).Nodup
theorem ac6 {K V:Type} [DecidableEq K] {k:K} {v:V} {e:K×V}:∀ {m:List (K×V)},e ∈ fj_ m k v→e=(k,v)∨e ∈ m
  | [],h=>by
    have h:e ∈ [(k,v)]:=h
    exact .inl (by simpa using h)
  | (a,u)::m,h=>by
    unfold fj_ at h
    by_cases hk:k=a
    · rw[if_pos hk] at h
      rcases d1_.1 h with h | h
      · exact .inl (by rw[h,hk])
      · exact .inr (d3_ _ h)
    · rw[if_neg hk] at h
      rcases d1_.1 h with h | h
      · exact .inr (by rw[h];exact d9_ ..)
      · rcases ac6 h with h | h
        · exact .inl h
        · exact .inr (d3_ _ h)
theorem az0 {K V:Type} [DecidableEq K] {k:K} {v:V}:∀ {m:List (K×V)},(k,v) ∈ fj_ m k v
  | []=>d9_ ..
  | (a,u)::m=>by
    unfold fj_
    by_cases hk:k=a
    · rw[if_pos hk,hk];exact d9_ ..
    · rw[if_neg hk];exact d3_ _ az0
theorem wn_ {K V:Type} [DecidableEq K] {k:K} {v:V} {e:K×V} (hne:e.1≠k):∀ {m:List (K×V)},e ∈ m→e ∈ fj_ m k v
  | (a,u)::m,h=>by
    unfold fj_
    by_cases hk:k=a
    · rw[if_pos hk]
      rcases d1_.1 h with h | h
      · exact absurd (by rw[h,hk]) hne
      · exact d3_ _ h
    · rw[if_neg hk]
      rcases d1_.1 h with h | h
      · rw[h];exact d9_ ..
      · exact d3_ _ (wn_ hne h)
theorem zb_ {K V:Type} [DecidableEq K] {k:K} {v:V}:∀ {m:List (K×V)},(m.map (·.1)).Nodup→((fj_ m k v).map (·.1)).Nodup
  | [],_=>by
    show [k].Nodup
    simp
  | (a,u)::m,h=>by
    unfold fj_
    rw[g6_,g8_] at h
    by_cases hk:k=a
    · rw[if_pos hk,g6_,g8_]
      exact⟨h.1,h.2⟩
    · rw[if_neg hk,g6_,g8_]
      refine⟨λhm => ?_,zb_ h.2⟩
      obtain⟨e,he,hea⟩:=d0_.1 hm
      rcases ac6 he with h1 | h1
      · rw[h1] at hea
        exact hk hea
      · exact h.1 (d0_.2 ⟨e,h1,hea⟩)
theorem al0 {K V:Type} [DecidableEq K] {k:K} {v:V}:∀ {m:List (K×V)},mget? m k=some v→(k,v) ∈ m
  | [],h=>by cases h
  | (a,u)::m,h=>by
    unfold mget? at h
    by_cases hk:k=a
    · rw[if_pos hk] at h
      rw[hk,a6_ h];exact d9_ ..
    · rw[if_neg hk] at h
      exact d3_ _ (al0 h)
theorem al1 {K V:Type} [DecidableEq K] {k:K}:∀ {m:List (K×V)},mget? m k=none→∀ v,(k,v) ∉ m
  | [],_,_,h=>by cases h
  | (a,u)::m,h,v,hm=>by
    unfold mget? at h
    by_cases hk:k=a
    · rw[if_pos hk] at h
      cases h
    · rw[if_neg hk] at h
      rcases d1_.1 hm with h1 | h1
      · exact hk (congrArg Prod.fst h1)
      · exact al1 h v h1
theorem MS.look {m:List (Int×Int)} {s:Nat→Prop} (h:MS m s) (i:Nat):(s i∧eh_ 0 m (i:Int)=1)∨(¬ s i∧eh_ 0 m (i:Int)=0):=by
  unfold eh_
  cases hg:mget? m (i:Int) with
  | some v =>
    obtain⟨h1,j,h2,h3⟩:=h.v _ (al0 hg)
    have h1:v=1:=h1
    have h2:(i:Int)=(j:Int):=h2
    obtain rfl:i=j:=by omega
    exact .inl ⟨h3,h1⟩
  | none=>exact .inr ⟨λhs=>al1 hg 1 (h.i i hs),rfl⟩
theorem MS.set {m:List (Int×Int)} {s:Nat→Prop} (h:MS m s) (i:Nat):MS (fj_ m (i:Int) 1) (λj=>s j∨j=i):=by
  refine⟨λe he => ?_,λj hj => ?_,zb_ h.nd⟩
  · rcases ac6 he with h1 | h1
    · rw[h1];exact⟨rfl,i,rfl,.inr rfl⟩
    · obtain⟨h2,j,h3,h4⟩:=h.v e h1
      exact⟨h2,j,h3,.inl h4⟩
  · by_cases hji:j=i
    · rw[hji];exact az0
    · rcases hj with hj | hj
      · exact wn_ (λh=>hji (by have h:(j:Int)=(i:Int):=h;omega)) (h.i j hj)
      · exact absurd hj hji
theorem MS.one (i:Nat):MS [((i:Int),(1:Int))] (λj=>j=i) :=
  ⟨λe he=>by
    have:e=((i:Int),(1:Int)):=by simpa using he
    rw[this]
    exact⟨rfl,i,rfl,rfl⟩,λj hj=>by rw[hj];exact d9_ ..,by simp⟩
theorem MS.nil:MS [] (λ_=>False):=⟨λe he=>(by cases he),λj hj=>hj.elim,q4_⟩
theorem MS.cong {m:List (Int×Int)} {s s':Nat→Prop} (h:MS m s) (hs:∀ i,s i↔s' i):MS m s' :=
  ⟨λe he=>by obtain⟨h1,i,h2,h3⟩:=h.v e he;exact⟨h1,i,h2,(hs i).1 h3⟩,λi hi=>h.i i ((hs i).2 hi),h.nd⟩
theorem np_ {α β:Type} {f:α→β}:∀ {l:List α},(l.map f).Nodup→l.Nodup
  | [],_=>q4_
  | x::l,h=>by
    rw[g6_,g8_] at h
    exact g8_.2 ⟨λhx=>h.1 (d0_.2 ⟨x,hx,rfl⟩),np_ h.2⟩
theorem MS.mem {m:List (Int×Int)} {s:Nat→Prop} (h:MS m s) (e:Int×Int):e ∈ m↔e.2=1∧∃ i:Nat,e.1=(i:Int)∧s i :=
  ⟨λhe=>h.v e he,λ⟨h1,i,h2,h3⟩=>by
    have:e=((i:Int),(1:Int)):=by rw[← h1,← h2]
    rw[this]
    exact h.i i h3⟩
theorem MS.perm {m m':List (Int×Int)} {s:Nat→Prop} (h:MS m s) (h':MS m' s):m.Perm m':=by
  refine (p0_ (np_ h.nd) (np_ h'.nd)).2 λe => ?_
  rw[h.mem,h'.mem]
noncomputable def ouS (s:Nat→Prop) (i:Nat):Bool:=by
  classical exact decide (¬ s i)
theorem ci2 {s:Nat→Prop} {i:Nat} (h:¬ s i):ouS s i=true:=by
  classical
  unfold ouS
  exact b5_ h
theorem ci3 {s:Nat→Prop} {i:Nat} (h:s i):ouS s i=false:=by
  classical
  unfold ouS
  exact c1_ λg=>g h
theorem ouS_not {s:Nat→Prop} {i:Nat} (h:ouS s i=true):¬ s i:=λg=>by rw[ci3 g] at h;cases h
noncomputable def lft (n:Nat) (s:Nat→Prop):Nat:=(List.range n).countP (ouS s)
theorem lft_le (n:Nat) (s:Nat→Prop):lft n s≤n:=by
  unfold lft
  refine c6_ (j4_) ?_
  rw[i5_]
  exact c3_ _
theorem bt4 {n:Nat} {s:Nat→Prop} {i:Nat} (hi:i<n) (hs:¬ s i):lft n (λj=>s j∨j=i)+1≤lft n s:=by
  unfold lft
  have gen:∀ l:List Nat,l.Nodup→i ∈ l→l.countP (ouS λj=>s j∨j=i)+1≤l.countP (ouS s):=by
    intro l
    induction l with
    | nil=>intro _ h;cases h
    | cons x l ih =>
      intro hn hm
      rw[g8_] at hn
      rw[i2_,i2_]
      by_cases hx:x=i
      · subst hx
        have h1:l.countP (ouS λj=>s j∨j=x)≤l.countP (ouS s) :=
          List.countP_mono_left λy _ hy=>ci2 λh=>ouS_not hy (.inl h)
        rw[ci3 (s:=λj=>s j∨j=x) (i:=x) (.inr rfl),ci2 hs]
        simp only[n7_,i0_,k2_]
        omega
      · have hm:i ∈ l:=by
          rcases d1_.1 hm with h | h
          · exact absurd h.symm hx
          · exact h
        have:=ih hn.2 hm
        have h4:ouS (λj=>s j∨j=i) x=ouS s x:=by
          by_cases h:s x
          · rw[ci3 (s:=λj=>s j∨j=i) (.inl h),ci3 h]
          · rw[ci2 (s:=λj=>s j∨j=i) (λg=>g.elim h hx),ci2 h]
        rw[h4]
        omega
  exact gen _ p9_ (m1_.2 hi)
theorem cr4:∀ {r0 r:List Bool},r0.length=r.length→(∀ j:Nat,r0[j]?=some true→r[j]?=some true)→r0.count true≤r.count true∧(r.count true≤r0.count true→r=r0)
  | [],[],_,_=>⟨c3_ _,λ_=>rfl⟩
  | [],b::r,h,_=>by cases h
  | a::r0,[],h,_=>by cases h
  | a::r0,b::r,h,hs=>by
    obtain⟨h1,h2⟩:=cr4 (r0:=r0) (r:=r) (by simpa using h) (λj hj=>by
      have:=hs (j+1) (by simpa using hj)
      simpa using this)
    have h0:a=true→b=true:=λha=>by
      have:=hs 0 (by simp[ha])
      simpa using this
    rw[List.count_cons,List.count_cons]
    cases a<;>cases b
    · simp only[f4_,n7_,i0_,l6_]
      exact⟨h1,λh=>by rw[h2 h]⟩
    · simp only[f4_,n7_,i0_,l6_,k2_]
      exact⟨by omega,λh=>by omega⟩
    · exact absurd (h0 rfl) (by simp)
    · simp only[f4_,k2_]
      exact⟨by omega,λh=>by rw[h2 (by omega)]⟩
def Dn (es:List (List ac_)) (a b:Int) (r:List Bool) (j:Nat):Prop:=∀ row x,es[j]?=some row→x ∈ row→kp b x=true∧(kp a x=true→∃ m:Nat,x.2=(m:Int)∧r[m]?=some true)
theorem bfo_of {es:List (List ac_)} {a b:Int} {r:List Bool} (h0:r[0]?=some true) (h:∀ j,r[j]?=some true→Dn es a b r j):Bfo es a b:=by
  intro i row x hr he hx
  have hi:r[i]?=some true:=hr.ind (Q:=λi=>r[i]?=some true) h0 λi row x n hi he hx hk hn=>by
    obtain⟨m,h1,h2⟩:=(h i hi row x he hx).2 hk
    obtain rfl:m=n:=by omega
    exact h2
  exact (h i hi row x he hx).1
structure Swp (es:List (List ac_)) (a b:Int) (n t:Nat) (r:List Bool):Prop where
  len:r.length=n
  snd:∀ i:Nat,r[i]?=some true→Rch es a i
  z:r[0]?=some true
  ok:Bfo es a b∨t<r.count true
theorem Swp.end {es:List (List ac_)} {a b:Int} {n:Nat} {r:List Bool} (h:Swp es a b n n r):Bfo es a b:=by
  rcases h.ok with h1 | h1
  · exact h1
  · have:=List.count_le_length (a:=true) (l:=r)
    have:=h.len
    omega
structure Sw1 (es:List (List ac_)) (a b:Int) (n:Nat) (r0:List Bool) (i:Nat) (r:List Bool):Prop where
  len:r.length=n
  snd:∀ i:Nat,r[i]?=some true→Rch es a i
  sub:∀ j:Nat,r0[j]?=some true→r[j]?=some true
  dn:∀ j<i,r0[j]?=some true→Dn es a b r j
theorem Swp.next {es:List (List ac_)} {a b:Int} {n t:Nat} {r0 r:List Bool} (h:Swp es a b n t r0) (w:Sw1 es a b n r0 n r):Swp es a b n (t+1) r:=by
  refine⟨w.len,w.snd,w.sub 0 h.z,?_⟩
  rcases h.ok with h1 | h1
  · exact .inl h1
  · obtain⟨c1,c2⟩:=cr4 (r0:=r0) (r:=r) (by rw[h.len,w.len]) w.sub
    by_cases hc:r.count true≤r0.count true
    · obtain rfl:=c2 hc
      exact .inl (bfo_of h.z λj hj=>w.dn j (by have:=am_ hj;have:=h.len;omega) hj)
    · exact .inr (by omega)
theorem Dn.mono {es:List (List ac_)} {a b:Int} {r r':List Bool} (hs:∀ j:Nat,r[j]?=some true→r'[j]?=some true) {j:Nat} (h:Dn es a b r j):Dn es a b r' j:=λrow x he hx=>by
  obtain⟨h1,h2⟩:=h row x he hx
  exact⟨h1,λhk=>by obtain⟨m,h3,h4⟩:=h2 hk;exact⟨m,h3,hs m h4⟩⟩
end
section
set_option maxRecDepth 10000
def stp (es:List (List ac_)) (p:Nat) (s:Nat→Prop):Nat→Prop:=λj=>s j∨∃ (i:Nat) (row:List ac_) (x:ac_),s i∧es[i]?=some row∧x ∈ row∧x.1.1=(p:Int)∧x.2=(j:Int)
def rnd (es:List (List ac_)):Nat→(Nat→Prop)→Nat→Prop
  | 0,s=>s
  | P+1,s=>stp es P (rnd es P s)
end
section
set_option maxRecDepth 100000
def G0:cj_:=([(([0,0],([0],[0])),[true,true,false]),(([1,0],([0],[0])),[true,true,false]),(([1,0],([-2],[0])),[true,true,false]),(([1,1],([-1],[0])),[true,true,false]),(([1,1],([-1],[1])),[true,true,true]),(([1,1],([-1],[0])),[true,true,true])],
  [[((0,(4,0)),1)],[((0,(2,0)),2),((0,(4,0)),1)],[((0,(3,0)),1),((0,(4,0)),2),((0,(4,1)),3)],[((0,(1,0)),4),((0,(4,0)),3)],[((0,(1,0)),5)],[((0,(1,0)),4),((0,(4,0)),5)]])
def D0:List Int:=[3,2,1,0,0,0]
theorem exG_g0:exG g0=(G0,(0,())):=by kernel_rfl
theorem SmG_g0:SmG g0:=by
  refine⟨⟨?_,?_,?_,?_,?_,?_,?_,?_,?_,?_,?_,?_,?_⟩,?_,?_,?_,?_,?_,?_,?_,?_,?_⟩<;>decide
def chkD (es:List (List ac_)) (fin:Nat→Bool) (D:List Int):Bool :=
  (List.range D.length).all λi=>match D[i]? with
    | none=>false
    | some v=>decide (-1≤v)&&((v==0)==fin i)&&match es[i]? with
      | none=>false
      | some l=>(decide (v≤0)||l.any (λx=>at? D x.2==some (v - 1)))&&l.all λx=>match at? D x.2 with
        | none=>true
        | some k=>decide (k<0)||(decide (0≤v)&&decide (v≤k+1))
theorem ag3 {es:List (List ac_)} {fin:Nat→Bool} {D:List Int} (h:chkD es fin D=true) {i:Nat} {v:Int} (hv:D[i]?=some v) :
    -1≤v∧((v==0)=fin i)∧∃ l,es[i]?=some l∧(v≤0∨∃ x ∈ l,at? D x.2=some (v - 1))∧∀ x ∈ l,∀ k,at? D x.2=some k→k<0∨(0≤v∧v≤k+1):=by
  have:=f0_.1 h i (m1_.2 (am_ hv))
  simp only[hv] at this
  rw[a1_,a1_,h1_,f4_] at this
  obtain⟨⟨h1,h2⟩,h3⟩:=this
  refine⟨h1,h2,?_⟩
  cases hl:es[i]? with
  | none=>rw[hl] at h3;cases h3
  | some l =>
    simp only[hl] at h3
    rw[a1_,c8_,h1_,h4_,f0_] at h3
    refine⟨l,rfl,h3.1.imp id λ⟨x,hx,e⟩=>⟨x,hx,f4_.1 e⟩,λx hx k hk => ?_⟩
    have:=h3.2 x hx
    simp only[hk] at this
    rw[c8_,a1_,h1_,h1_,h1_] at this
    exact this
theorem chkD_LC {es:List (List ac_)} {fin:Nat→Bool} {D:List Int} (hes:es.length=D.length) (h:chkD es fin D=true):LC es fin D:=by
  refine⟨λi v hv=>(ag3 h hv).1,λi v hv => ?_,λi k hk => ?_,λi l x k hl hx hat => ?_⟩
  · rw[← (ag3 h hv).2.1,f4_]
  · obtain⟨_,_,l,hl,h1,_⟩:=ag3 h hk
    rcases h1 with h1 | ⟨x,hx,e⟩
    · omega
    · refine⟨l,x,hl,hx,?_⟩
      rw[e]
      congr 1
      omega
  · obtain⟨v,hv⟩:=bd_ (l:=D) (i:=i) (by have:=am_ hl;omega)
    obtain⟨_,_,l',hl',_,h2⟩:=ag3 h hv
    rw[hl] at hl'
    obtain rfl:=a6_ hl'
    rcases h2 x hx k hat with h3 | h3
    · omega
    · exact⟨v,hv,h3⟩
theorem chk_g0:chkD G0.2 (ty_ g0 G0.1) D0=true:=by kernel_rfl
theorem co1:fs_ g0=some ([(0,(4,0)),(0,(2,0)),(0,(4,1))],(0,())):=by
  obtain⟨D,h⟩:=ar9 SmG_g0
  rw[exG_g0] at h
  rcases h with ⟨h,_⟩ | ⟨_,h1,h2,h3⟩
  · exact absurd rfl h
  · have hD:D=D0:=cc3 h2 (chkD_LC rfl chk_g0) h1
    have e:((cond (decide (gi D0 0<0)) ([],(50,())) (shp G0.2 D0 (gi D0 0).toNat 0,(0,()))):List af_×(Int×Unit))=([(0,(4,0)),(0,(2,0)),(0,(4,1))],(0,())):=by kernel_rfl
    rw[h3,hD]
    exact congrArg some e
theorem wr_:cu_=some (true,()):=by
  unfold cu_
  refine e4_ (congrArg (λo=>Option.bind o _) co1) ?_
  kernel_rfl
end
section
set_option maxRecDepth 10000
theorem kp_if (act:Int) (x:ac_):(cond (x.1.2.1 != 4) (some (true,())) (some ((x.1.2.2 != act),())):Option (Bool×Unit))=some (kp act x,()):=by
  unfold kp
  rw[sk_,sk_]
  cases x.1.2.1==4<;>rfl
def ah3 (A:Nat) (act:Int):Bool:=decide (act<0)||decide ((A:Int)≤act)
theorem badA_if (A:Nat) (act:Int):(cond (decide (act<0)) (some (true,())) (some ((decide ((A:Int)≤act)),())):Option (Bool×Unit))=some (ah3 A act,()):=by
  unfold ah3
  cases decide (act<0)<;>rfl
end
section
set_option maxRecDepth 10000
theorem xk_ {σ ρ υ:Type} {body:σ→Option (σ⊕ρ)} {K:ρ→Option υ} {Q:υ→Prop} (I:σ→Prop) (μ:σ→Nat) {z0:σ} (h0:I z0)
    (st:∀ s,I s→∃ y,body s=some y∧((∃ s',y = .inl s'∧I s'∧μ s'<μ s)∨∃ r z,y = .inr r∧K r=some z∧Q z)):∃ z,(ag_ body z0).bind K=some z∧Q z:=by
  have gen:∀ (n:Nat) (s:σ),μ s=n→I s→∃ r,ag_ body s=some r∧∃ z,K r=some z∧Q z:=by
    intro n
    induction n using Nat.strongRecOn with
    | _ n ih =>
      intro s hn hs
      obtain⟨y,hy,⟨s',rfl,h2,h3⟩ | ⟨r,z,rfl,h2,h3⟩⟩:=st s hs
      · obtain⟨r,g1,g2⟩:=ih (μ s') (by omega) s' rfl h2
        exact⟨r,(op_ hy).trans g1,g2⟩
      · exact⟨r,br_ hy,z,h2,h3⟩
  obtain⟨r,h1,z,h2,h3⟩:=gen _ z0 rfl h0
  exact⟨z,by rw[h1,a0_,h2],h3⟩
theorem of_ex {υ:Type} {x:Option υ} {y:υ} (h:∃ z,x=some z∧z=y):x=some y:=by
  obtain⟨z,h1,rfl⟩:=h
  exact h1
open Classical in
noncomputable def bi5 (g:ad_) (a b:Int):Bool×(Int×Unit) :=
  cond ((exG g).2.1 != 0) (false,((exG g).2.1,())) (cond (ah3 g.1.2.2.2.2.1.length a||ah3 g.1.2.2.2.2.1.length b) (false,(1,())) (decide (Bfo (exG g).1.2 a b),(0,())))
theorem cn7 (A:Nat) (a b:Int):(cond (decide (a<0)) (some (true,())) (cond (decide ((A:Int)≤a)) (some (true,())) (cond (decide (b<0)) (some (true,())) (some ((decide ((A:Int)≤b)),())))):Option (Bool×Unit))=some (ah3 A a||ah3 A b,()):=by
  unfold ah3
  cases decide (a<0)<;>cases decide ((A:Int)≤a)<;>cases decide (b<0)<;>rfl
theorem Sw1.mark {es:List (List ac_)} {a b:Int} {n:Nat} {r0 r:List Bool} {i:Nat} (h:Sw1 es a b n r0 i r) {row:List ac_} {x:ac_} {m:Nat} (hr:es[i]?=some row) (hx:x ∈ row) (hi:r[i]?=some true) (hk:kp a x=true) (hm:x.2=(m:Int)) (hmn:m<n):Sw1 es a b n r0 i (r.set m true)∧(∀ j:Nat,r[j]?=some true→(r.set m true)[j]?=some true)∧(r.set m true)[m]?=some true:=by
  have hml:m<r.length:=by rw[h.len];exact hmn
  have hs:∀ j:Nat,r[j]?=some true→(r.set m true)[j]?=some true:=λj hj=>by
    by_cases hmj:m=j
    · subst hmj;exact e3_ hml
    · rw[b6_ hmj];exact hj
  refine⟨⟨by rw[f7_,h.len],λj hj => ?_,λj hj=>hs j (h.sub j hj),λj hj hj0=>(h.dn j hj hj0).mono hs⟩,hs,e3_ hml⟩
  by_cases hmj:m=j
  · subst hmj;exact (h.snd i hi).next hr hx hk hm
  · rw[b6_ hmj] at hj;exact h.snd j hj
theorem Sw1.skip {es:List (List ac_)} {a b:Int} {n:Nat} {r0 r:List Bool} {i:Nat} (h:Sw1 es a b n r0 i r) (hd:r0[i]?=some true→Dn es a b r i):Sw1 es a b n r0 (i+1) r :=
  ⟨h.len,h.snd,h.sub,λj hj hj0=>by
    by_cases hji:j=i
    · subst hji;exact hd hj0
    · exact h.dn j (by omega) hj0⟩
theorem re_ {α:Type} {l:List α} {k:Nat} {x:α} (h:l[k]?=some x):l.take (k+1)=l.take k++[x]:=by
  rw[d7_,h];rfl
open Classical in
theorem ai8 {g:ad_} (hg:SmG g) (a b:Int):hz_ g a b=some (bi5 g a b):=by
  unfold hz_ bi5
  rw[rj_ hg,a0_]
  cases hE:(exG g).2.1 != 0 with
  | true=>rfl
  | false =>
  have hE:(exG g).2.1=0:=by simpa using hE
  have hGr:=ct1 hg hE
  have hpos:=hGr.pos
  have hn:=hGr.n
  have hlen:=hGr.len
  have hxx:=hGr.xx
  have hel:=hGr.gI.eL
  generalize hps:(exG g).1.1=ps at *
  generalize hes:(exG g).1.2=es at *
  simp only[a2_]
  rw[cn7,a0_]
  cases ah3 g.1.2.2.2.2.1.length a||ah3 g.1.2.2.2.2.1.length b with
  | true=>rfl
  | false =>
  simp only[a2_]
  rw[rs_ (by omega) (by omega),b8_,a0_]
  have hz:(List.replicate ps.length false)[0]?=some false:=by
    rw[h5_,if_pos (by omega)]
  rw[show at? (List.replicate ps.length false) 0=some false from ah_ (i:=0) hz,a0_,a0_]
  have hw1:∀ {i:Nat},i≤ps.length→w64 ((i:Int)+1)=((i+1:Nat):Int):=λ{i} hi=>ba_ (show i≤1000000000 by omega)
  refine of_ex (xk_ (I:=λ(s:Int×(List Bool×Unit))=>∃ t:Nat,s.1=(t:Int)∧t≤ps.length∧Swp es a b ps.length t s.2.1) (μ:=λs=>ps.length - s.1.toNat) ?_ ?_)
  · refine⟨0,rfl,l7_ _,by simp,λi hi => ?_,?_,.inr ?_⟩
    · by_cases hi0:i=0
      · subst hi0;exact Rch.zero
      · rw[show (0:Int).toNat=0 from rfl,b6_ (by omega),h5_] at hi
        split at hi<;>simp at hi
    · exact e3_ (by simp;omega)
    · have:true ∈ (List.replicate ps.length false).set (0:Int).toNat true:=b2_ (i:=0) (e3_ (by simp;omega))
      exact List.count_pos_iff.2 this
  · rintro⟨st,r0,u0⟩ ⟨t,rfl,htn,hS⟩
    have hS:Swp es a b ps.length t r0:=hS
    by_cases htl:t<ps.length
    · simp only[b5_ (show (t:Int)<(ps.length:Int) by omega),a5_]
      refine xk_ (I:=λ(s:Int×(List Bool×Unit))=>∃ i:Nat,s.1=(i:Int)∧i≤ps.length∧Sw1 es a b ps.length r0 i s.2.1) (μ:=λs=>ps.length - s.1.toNat) ⟨0,rfl,l7_ _,hS.len,hS.snd,λj h=>h,λj hj=>by omega⟩ ?_
      rintro⟨si,r1,u1⟩ ⟨i,rfl,hin,hW⟩
      have hW:Sw1 es a b ps.length r0 i r1:=hW
      by_cases hil:i<ps.length
      · simp only[b5_ (show (i:Int)<(ps.length:Int) by omega),a5_]
        obtain⟨row,hrow⟩:=bd_ (l:=es) (i:=i) (by omega)
        have hrm:=ax_ hrow
        have hrl:=hel row hrm
        simp only[ah_ hrow,a0_]
        refine xk_ (I:=λ(s:Int×(List Bool×Unit))=>∃ k:Nat,s.1=(k:Int)∧k≤row.length∧Sw1 es a b ps.length r0 i s.2.1∧(r0[i]?=some true→∀ x ∈ row.take k,kp b x=true∧(kp a x=true→∃ m:Nat,x.2=(m:Int)∧s.2.1[m]?=some true)))
          (μ:=λs=>row.length - s.1.toNat) ⟨0,rfl,l7_ _,hW,λ_ x hx=>by simp at hx⟩ ?_
        rintro⟨sk,r,u2⟩ ⟨k,rfl,hkn,hR,hD⟩
        have hR:Sw1 es a b ps.length r0 i r:=hR
        obtain⟨v,hv⟩:=bd_ (l:=r) (i:=i) (by rw[hR.len];exact hil)
        have hat:at? r (i:Int)=some v:=ah_ hv
        by_cases hkl:k<row.length
        · obtain⟨x,hx⟩:=bd_ (l:=row) (i:=k) hkl
          have hxm:=ax_ hx
          obtain⟨x0,x1⟩:=hxx row hrm x hxm
          have hm:x.2=(x.2.toNat:Int):=by omega
          have hmn:x.2.toNat<ps.length:=by omega
          obtain⟨w,hw⟩:=bd_ (l:=r) (i:=x.2.toNat) (by rw[hR.len];exact hmn)
          have hat2:at? r x.2=some w:=by rw[hm];exact ah_ (by simpa using hw)
          simp only[dlt hkl,a5_,hat,a0_,ah_ hx,bx9]
          cases v with
          | false=>exact⟨_,rfl,.inr ⟨_,_,rfl,rfl,.inl ⟨_,rfl,⟨i+1,hw1 hin,hil,hR.skip λh=>absurd (hR.sub i h) (by rw[hv];simp)⟩,by show ps.length - (w64 ((i:Int)+1)).toNat<ps.length - ((i:Int)).toNat;rw[hw1 hin];omega⟩⟩⟩
          | true =>
            simp only[a5_]
            cases hkb:kp b x with
            | false =>
              refine⟨_,rfl,.inr ⟨_,_,rfl,rfl,.inr ⟨_,_,rfl,rfl,.inr ⟨_,_,rfl,rfl,?_⟩⟩⟩⟩
              show (false,((0:Int),()))=(decide (Bfo es a b),((0:Int),()))
              rw[c1_ λh=>by
                have:=h i row x (hR.snd i hv) hrow hxm
                rw[hkb] at this
                cases this]
            | true =>
              simp only[e5_,a2_]
              have hk1:w64 ((k:Int)+1)=((k+1:Nat):Int):=ba_ (show k≤1000000000 by omega)
              cases hka:kp a x with
              | false =>
                refine⟨_,rfl,.inl ⟨_,rfl,⟨k+1,hk1,hkl,hR,λh y hy => ?_⟩,by show row.length - (w64 ((k:Int)+1)).toNat<row.length - ((k:Int)).toNat;rw[hk1];omega⟩⟩
                rw[re_ hx] at hy
                rcases b3_.1 hy with hy | hy
                · exact hD h y hy
                · obtain rfl:y=x:=by simpa using hy
                  exact⟨hkb,λh=>by rw[hka] at h;cases h⟩
              | true =>
                simp only[e5_,g4_,a5_,hat2,a0_]
                obtain⟨q1,q2,q3⟩:=hR.mark hrow hxm hv hka hm hmn
                refine⟨_,rfl,.inl ⟨_,rfl,⟨k+1,hk1,hkl,q1,λh y hy => ?_⟩,by show row.length - (w64 ((k:Int)+1)).toNat<row.length - ((k:Int)).toNat;rw[hk1];omega⟩⟩
                rw[re_ hx] at hy
                rcases b3_.1 hy with hy | hy
                · obtain⟨g1,g2⟩:=hD h y hy
                  exact⟨g1,λhk=>by obtain⟨m,g3,g4⟩:=g2 hk;exact⟨m,g3,q2 m g4⟩⟩
                · obtain rfl:y=x:=by simpa using hy
                  exact⟨hkb,λ_=>⟨_,hm,q3⟩⟩
        · obtain rfl:k=row.length:=by omega
          simp only[dnl,a2_,a0_]
          refine⟨_,rfl,.inr ⟨_,_,rfl,rfl,.inl ⟨_,rfl,⟨i+1,hw1 hin,hil,hR.skip λh => ?_⟩,by show ps.length - (w64 ((i:Int)+1)).toNat<ps.length - ((i:Int)).toNat;rw[hw1 hin];omega⟩⟩⟩
          intro row' x he hx
          rw[hrow] at he
          obtain rfl:=a6_ he
          exact hD h x (by rw[e1_];exact hx)
      · obtain rfl:i=ps.length:=by omega
        simp only[c1_ (show ¬ (ps.length:Int)<(ps.length:Int) by omega),a2_]
        exact⟨_,rfl,.inr ⟨_,_,rfl,rfl,.inl ⟨_,rfl,⟨t+1,hw1 htn,htl,hS.next hW⟩,by show ps.length - (w64 ((t:Int)+1)).toNat<ps.length - ((t:Int)).toNat;rw[hw1 htn];omega⟩⟩⟩
    · obtain rfl:t=ps.length:=by omega
      simp only[c1_ (show ¬ (ps.length:Int)<(ps.length:Int) by omega),a2_]
      refine⟨_,rfl,.inr ⟨_,_,rfl,rfl,?_⟩⟩
      show (true,((0:Int),()))=(decide (Bfo es a b),((0:Int),()))
      rw[b5_ hS.end]
end
section
set_option maxRecDepth 10000
def SM (m:List (Int×Int)):Nat→Prop:=λi=>eh_ 0 m (i:Int)=1
theorem MS.sm {m:List (Int×Int)} {s:Nat→Prop} (h:MS m s) (i:Nat):s i↔SM m i:=by
  unfold SM
  rcases h.look i with ⟨h1,h2⟩ | ⟨h1,h2⟩
  · exact⟨λ_=>h2,λ_=>h1⟩
  · exact⟨λh=>absurd h h1,λh=>by rw[h2] at h;omega⟩
theorem MS.toSM {m:List (Int×Int)} {s:Nat→Prop} (h:MS m s):MS m (SM m):=h.cong h.sm
theorem ck6 {n:Nat} {s s':Nat→Prop} (h:∀ i,s i↔s' i):lft n s=lft n s':=by
  have:s=s':=funext λi=>propext (h i)
  rw[this]
def Cl (es:List (List ac_)) (a:Int) (S:Nat→Prop) (i:Nat):Prop:=∀ row x,es[i]?=some row→x ∈ row→kp a x=true→∃ j:Nat,x.2=(j:Int)∧S j
theorem Cl.mono {es:List (List ac_)} {a:Int} {S S':Nat→Prop} (hs:∀ i,S i→S' i) {i:Nat} (h:Cl es a S i):Cl es a S' i:=λrow x h1 h2 h3=>by
  obtain⟨j,h4,h5⟩:=h row x h1 h2 h3
  exact⟨j,h4,hs j h5⟩
structure BS (es:List (List ac_)) (a:Int) (n:Nat) (l:List Int) (S:Nat→Prop):Prop where
  z:S 0
  r:∀ i,S i→i<n∧Rch es a i
  q:∀ y ∈ l,∃ i:Nat,y=(i:Int)∧S i
  c:∀ i,S i→(i:Int) ∉ l→Cl es a S i
  m:lft n S+l.length≤n
structure BJ (es:List (List ac_)) (a:Int) (n:Nat) (i0:Nat) (tl:List Int) (S0:Nat→Prop) (row:List ac_) (k:Nat) (l:List Int) (S:Nat→Prop):Prop where
  z:S 0
  r:∀ i,S i→i<n∧Rch es a i
  q:∀ y ∈ l,∃ i:Nat,y=(i:Int)∧S i
  c:∀ i,S i→(i:Int) ∉ l→i≠i0→Cl es a S i
  h:S i0
  d:∀ x ∈ row.take k,kp a x=true→∃ j:Nat,x.2=(j:Int)∧S j
  m:lft n S+l.length≤lft n S0+tl.length
theorem BS.begin {es:List (List ac_)} {a:Int} {n i0:Nat} {tl:List Int} {S:Nat→Prop} {row:List ac_} (h:BS es a n ((i0:Int)::tl) S):BJ es a n i0 tl S row 0 tl S :=
  ⟨h.z,h.r,λy hy=>h.q y (d3_ _ hy),λi hi hni hne=>h.c i hi (λhm=>by
    rcases d1_.1 hm with h1 | h1
    · exact hne (by omega)
    · exact hni h1),by
    obtain⟨i,h1,h2⟩:=h.q (i0:Int) (d9_ ..)
    obtain rfl:i0=i:=by omega
    exact h2,λx hx=>by simp at hx,c3_ _⟩
theorem BJ.skip {es:List (List ac_)} {a:Int} {n i0:Nat} {tl:List Int} {S0 S:Nat→Prop} {row:List ac_} {k:Nat} {l:List Int} (h:BJ es a n i0 tl S0 row k l S) {x:ac_} (hx:row[k]?=some x) (hk:kp a x=true→∃ j:Nat,x.2=(j:Int)∧S j):BJ es a n i0 tl S0 row (k+1) l S :=
  ⟨h.z,h.r,h.q,h.c,h.h,λy hy hky=>by
    rw[re_ hx] at hy
    rcases b3_.1 hy with hy | hy
    · exact h.d y hy hky
    · obtain rfl:y=x:=by simpa using hy
      exact hk hky,h.m⟩
theorem BJ.add {es:List (List ac_)} {a:Int} {n i0:Nat} {tl:List Int} {S0 S:Nat→Prop} {row:List ac_} {k:Nat} {l:List Int} (h:BJ es a n i0 tl S0 row k l S) (hr:es[i0]?=some row) {x:ac_} (hx:row[k]?=some x) (hk:kp a x=true) {j:Nat} (hj:x.2=(j:Int)) (hjn:j<n) (hn:¬ S j):BJ es a n i0 tl S0 row (k+1) (l++[(j:Int)]) (λi=>S i∨i=j):=by
  refine⟨.inl h.z,λi hi => ?_,λy hy => ?_,λi hi hni hne => ?_,.inl h.h,λy hy hky => ?_,?_⟩
  · rcases hi with hi | rfl
    · exact h.r i hi
    · exact⟨hjn,(h.r i0 h.h).2.next hr (ax_ hx) hk hj⟩
  · rcases b3_.1 hy with hy | hy
    · obtain⟨i,h1,h2⟩:=h.q y hy
      exact⟨i,h1,.inl h2⟩
    · exact⟨j,by simpa using hy,.inr rfl⟩
  · rcases hi with hi | rfl
    · exact (h.c i hi (λhm=>hni (m6_ _ hm)) hne).mono λ_=>.inl
    · exact absurd (m2_ _ (by simp)) hni
  · rw[re_ hx] at hy
    rcases b3_.1 hy with hy | hy
    · obtain⟨i,h1,h2⟩:=h.d y hy hky
      exact⟨i,h1,.inl h2⟩
    · obtain rfl:y=x:=by simpa using hy
      exact⟨j,hj,.inr rfl⟩
  · have:=bt4 hjn hn
    have:=h.m
    rw[a8_,d5_]
    omega
theorem BJ.end {es:List (List ac_)} {a:Int} {n i0:Nat} {tl:List Int} {S0 S:Nat→Prop} {row:List ac_} {l:List Int} (h:BJ es a n i0 tl S0 row row.length l S) (hr:es[i0]?=some row) (hm:lft n S0+tl.length≤n):BS es a n l S :=
  ⟨h.z,h.r,h.q,λi hi hni=>by
    by_cases hne:i=i0
    · subst hne
      intro row' x h1 h2 h3
      rw[hr] at h1
      obtain rfl:=a6_ h1
      exact h.d x (by rw[e1_];exact h2) h3
    · exact h.c i hi hni hne,by have:=h.m;omega⟩
theorem BS.end {es:List (List ac_)} {a:Int} {n:Nat} {S:Nat→Prop} (h:BS es a n [] S) (i:Nat):S i↔Rch es a i :=
  ⟨λhi=>(h.r i hi).2,λhi=>hi.ind (Q:=S) h.z λi row x n hi h1 h2 h3 h4=>by
    obtain⟨j,h5,h6⟩:=h.c i hi (by simp) row x h1 h2 h3
    obtain rfl:j=n:=by omega
    exact h6⟩
theorem ar8 (g:ad_) (a b:Int):lg_ g [a,b]=some (!(ah3 g.1.2.2.2.2.1.length a||ah3 g.1.2.2.2.2.1.length b),()):=by
  unfold lg_
  have h:=mg_ (l:=[a,b]) (by show 2≤1000000000;omega) (ah3 g.1.2.2.2.2.1.length) (body:=λ(v0:(Int×Unit)) =>
 (cond (decide (v0.1<(([a,b]:List Int).length:Int)))
 ((at? [a,b] v0.1).bind λv1 =>
 (((cond (decide (v1<0))
 (some (true,()))
 (some ((decide ((g.1.2.2.2.2.1.length:Int)≤v1)),())))).bind λv2 =>
 (cond v2.1
 (some (inr (inr ((decide (0≤v0.1)),()))))
 (some (inl ((w64 (v0.1+1)),()))))))
 (some (inr (inl ()))))) (λi y hy=>by
    simp only[dlt (am_ hy),a5_,ah_ hy,a0_,badA_if]
    cases ah3 g.1.2.2.2.2.1.length y<;>rfl) (by simp only[dnl,a2_])
  refine e4_ (congrArg (λo=>Option.bind o _) h) ?_
  rw[a0_,m5_,m5_,List.any_nil,h6_]
theorem does_kp (x:ac_) (b:Int):il_ x 4 b=some (!(kp b x),()):=by
  unfold il_ kp
  cases x.1.2.1==4<;>cases x.1.2.2==b<;>rfl
open Classical in
theorem tv_ {g:ad_} (hg:SmG g) (a b:Int):ej_ g a b=some (bi5 g a b):=by
  unfold ej_ bi5
  rw[rn_ hg,a0_]
  cases hE:(exG g).2.1 != 0 with
  | true=>rfl
  | false =>
  have hE:(exG g).2.1=0:=by simpa using hE
  have hGr:=ct1 hg hE
  have hpos:=hGr.pos
  have hn:=hGr.n
  have hlen:=hGr.len
  have hxx:=hGr.xx
  have hel:=hGr.gI.eL
  generalize hps:(exG g).1.1=ps at *
  generalize hes:(exG g).1.2=es at *
  simp only[a2_]
  rw[ar8,a0_]
  cases ah3 g.1.2.2.2.2.1.length a||ah3 g.1.2.2.2.2.1.length b with
  | true=>rfl
  | false =>
  simp only[g4_,e5_,a2_,kp_if]
  refine of_ex (xk_ (I:=λ(s:List Int×(List (Int×Int)×Unit))=>MS s.2.1 (SM s.2.1)∧BS es a ps.length s.1 (SM s.2.1)) (μ:=λs=>lft ps.length (SM s.2.1)+s.1.length) ?_ ?_)
  · have h1:MS (fj_ [] (0:Int) (1:Int)) (λj=>j=0):=MS.one 0
    have hs:=h1.sm
    refine⟨h1.toSM,(hs 0).1 rfl,λi hi => ?_,λy hy => ?_,λi hi hni => ?_,?_⟩
    · obtain rfl:=(hs i).2 hi
      exact⟨hpos,Rch.zero⟩
    · exact⟨0,by simpa using hy,(hs 0).1 rfl⟩
    · obtain rfl:=(hs i).2 hi
      exact absurd (by simp) hni
    · show lft ps.length (SM (fj_ [] (0:Int) (1:Int)))+1≤ps.length
      have:=bt4 (n:=ps.length) (s:=λ_=>False) (i:=0) hpos (λh=>h)
      have e:lft ps.length (SM (fj_ [] (0:Int) (1:Int)))=lft ps.length (λj=>False∨j=0):=ck6 λi=>(hs i).symm.trans ⟨.inr,λh=>h.elim False.elim id⟩
      have:=lft_le ps.length (λ_=>False)
      omega
  · rintro⟨l,m,u⟩ ⟨hM,hB⟩
    have hM:MS m (SM m):=hM
    have hB:BS es a ps.length l (SM m):=hB
    cases l with
    | cons h tl =>
      obtain⟨i0,rfl,hi0⟩:=hB.q h (d9_ ..)
      obtain⟨hil,hrch⟩:=hB.r i0 hi0
      obtain⟨row,hrow⟩:=bd_ (l:=es) (i:=i0) (by omega)
      have hrm:=ax_ hrow
      have hrl:=hel row hrm
      have hsub:sub? ((i0:Int)::tl) 1 (((i0:Int)::tl).length:Int)=some tl:=by
        unfold sub?
        rw[if_pos ⟨by omega,by rw[c4_];omega,m4_ _⟩,b8_,e1_]
        rfl
      have hat:at? ((i0:Int)::tl) 0=some (i0:Int):=ah_ (i:=0) rfl
      have hmB:=hB.m
      rw[c4_] at hmB
      simp only[b5_ (show (0:Int)<(((i0:Int)::tl).length:Int) by rw[c4_];omega),a5_,hat,a0_,hsub,ah_ hrow]
      refine xk_ (I:=λ(s:List Int×(Int×(List (Int×Int)×Unit)))=>∃ k:Nat,s.2.1=(k:Int)∧k≤row.length∧MS s.2.2.1 (SM s.2.2.1)∧BJ es a ps.length i0 tl (SM m) row k s.1 (SM s.2.2.1)) (μ:=λs=>row.length - s.2.1.toNat)
        ⟨0,rfl,l7_ _,hM,hB.begin⟩ ?_
      rintro⟨l',sk,m',u'⟩ ⟨k,rfl,hkn,hM',hJ⟩
      have hM':MS m' (SM m'):=hM'
      have hJ:BJ es a ps.length i0 tl (SM m) row k l' (SM m'):=hJ
      have hmJ:=hJ.m
      by_cases hkl:k<row.length
      · obtain⟨x,hx⟩:=bd_ (l:=row) (i:=k) hkl
        obtain⟨x0,x1⟩:=hxx row hrm x (ax_ hx)
        obtain⟨j,hj⟩:∃ j:Nat,x.2=(j:Int):=⟨x.2.toNat,by omega⟩
        have hk1:w64 ((k:Int)+1)=((k+1:Nat):Int):=ba_ (show k≤1000000000 by omega)
        simp only[dlt hkl,a5_,ah_ hx,a0_]
        cases hka:kp a x with
        | false=>exact⟨_,rfl,.inl ⟨_,rfl,⟨k+1,hk1,hkl,hM',hJ.skip hx λh=>by rw[hka] at h;cases h⟩,by show row.length - (w64 ((k:Int)+1)).toNat<row.length - ((k:Int)).toNat;rw[hk1];omega⟩⟩
        | true =>
          simp only[a5_,hj]
          rcases hM'.look j with ⟨g1,g2⟩ | ⟨g1,g2⟩
          · rw[g2]
            exact⟨_,rfl,.inl ⟨_,rfl,⟨k+1,hk1,hkl,hM',hJ.skip hx λ_=>⟨j,hj,g1⟩⟩,by show row.length - (w64 ((k:Int)+1)).toNat<row.length - ((k:Int)).toNat;rw[hk1];omega⟩⟩
          · rw[g2]
            simp only[e0_,a5_]
            rw[cf_ (show l'.length≤1000000000 by omega),a0_]
            have h1:=hM'.set j
            have e:SM (fj_ m' (j:Int) 1)=λi=>SM m' i∨i=j:=funext λi=>propext (h1.sm i).symm
            refine⟨_,rfl,.inl ⟨_,rfl,⟨k+1,hk1,hkl,h1.toSM,?_⟩,by show row.length - (w64 ((k:Int)+1)).toNat<row.length - ((k:Int)).toNat;rw[hk1];omega⟩⟩
            show BJ es a ps.length i0 tl (SM m) row (k+1) (l'++[(j:Int)]) (SM (fj_ m' (j:Int) 1))
            rw[e]
            exact hJ.add hrow hx hka hj (by omega) g1
      · obtain rfl:k=row.length:=by omega
        simp only[dnl,a2_]
        refine⟨_,rfl,.inr ⟨_,_,rfl,rfl,.inl ⟨_,rfl,⟨hM',hJ.end hrow (by omega)⟩,?_⟩⟩⟩
        show lft ps.length (SM m')+l'.length<lft ps.length (SM m)+(((i0:Int)::tl).length)
        rw[c4_]
        omega
    | nil =>
      simp only[j3_,show decide ((0:Int)<((0:Nat):Int))=false from rfl,a2_]
      refine⟨_,rfl,.inr ⟨_,_,rfl,?_,rfl⟩⟩
      have hq:∀ e ∈ m,∃ (i:Nat) (row:List ac_),e.1=(i:Int)∧Rch es a i∧es[i]?=some row:=λe he=>by
        obtain⟨_,i,h1,h2⟩:=hM.v e he
        obtain⟨h3,h4⟩:=hB.r i h2
        obtain⟨row,hrow⟩:=bd_ (l:=es) (i:=i) (by omega)
        exact⟨i,row,h1,h4,hrow⟩
      refine e4_ (congrArg (λo=>Option.bind o _) (cj9 (q:=λe=>(es.getD e.1.toNat []).any λx=>!(kp b x)) (r1:=inr (false,((0:Int),()))) (r0:=inl ()) (λe he => ?_) rfl)) ?_
      · obtain⟨i,row,h1,h2,h3⟩:=hq e he
        have h4:es.getD e.1.toNat []=row:=by rw[h1,b8_,h8_,h3];rfl
        have hrl:=hel row (ax_ h3)
        simp only[h4]
        rw[show at? es e.1=some row by rw[h1];exact ah_ h3,a0_]
        have hc:=mg_ (l:=row) (show row.length≤1000000000 by omega) (λx=>!(kp b x)) (body:=λ(v19:(Int×Unit)) =>
 (cond (decide (v19.1<(row.length:Int)))
 ((at? row v19.1).bind λv20 =>
 ((il_ v20 4 b).bind λv21 =>
 (cond v21.1
 (some (inr (inr ((decide (0≤v19.1)),()))))
 (some (inl ((w64 (v19.1+1)),()))))))
 (some (inr (inl ()))))) (fun i y hy => by
          simp only[dlt (am_ hy),a5_,ah_ hy,a0_,does_kp]
          cases kp b y<;>rfl) (by simp only[dnl,a2_])
        refine e4_ (congrArg (λo=>Option.bind o _) hc) ?_
        rw[a0_]
        cases row.any λx=>!(kp b x)<;>rfl
      · rw[a0_]
        cases ha:m.any (λe=>(es.getD e.1.toNat []).any λx=>!(kp b x)) with
        | true =>
          obtain⟨e,he,hx⟩:=h4_.1 ha
          obtain⟨i,row,h1,h2,h3⟩:=hq e he
          have h4:es.getD e.1.toNat []=row:=by rw[h1,b8_,h8_,h3];rfl
          rw[h4] at hx
          obtain⟨x,hx1,hx2⟩:=h4_.1 hx
          rw[c1_ λ(h:Bfo es a b)=>by
            rw[h i row x h2 h3 hx1] at hx2
            cases hx2]
          rfl
        | false =>
          rw[b5_ (show Bfo es a b from λi row x hr he hx=>by
            have hi:=(hB.end i).2 hr
            have hm:=hM.i i hi
            have:=List.any_eq_false.1 ha _ hm
            have h4:es.getD ((i:Int)).toNat []=row:=by rw[b8_,h8_,he];rfl
            simp only[h4] at this
            cases hk:kp b x with
            | true=>rfl
            | false=>exact absurd (h4_.2 ⟨x,hx,by rw[hk];rfl⟩) this)]
          rfl
end
section
set_option maxRecDepth 10000
open Classical in
theorem ca7 {g:ad_} {a b c:Int} (h:(bi5 g a b).1=true) (k:(bi5 g b c).1=true):(bi5 g a c).1=true:=by
  unfold bi5 at h k ⊢
  cases hE:(exG g).2.1 != 0 with
  | true=>rw[hE] at h;cases h
  | false =>
  rw[hE] at h k
  simp only[a2_] at h k ⊢
  cases ha:ah3 g.1.2.2.2.2.1.length a<;>cases hb:ah3 g.1.2.2.2.2.1.length b<;>cases hc:ah3 g.1.2.2.2.2.1.length c<;>simp only[ha,hb,hc,h6_,n2_,a5_,a2_] at h k ⊢<;>first
    | (cases h;done)
    | (cases k;done)
    | skip
  exact b5_ ((f3_ h).trans (f3_ k))
theorem law05_ProveBefore (g:ad_) (acts:Int×(Int×Int)):go_ g acts=some (true,()):=by
  obtain⟨b,e,hb⟩:=at1 g
  unfold go_
  rw[e,a0_]
  cases b with
  | true=>simp only[a5_,wr_,a0_]
  | false =>
  have hg:=hb rfl
  simp only[a2_]
  rw[bf9 hg,a0_,tv_ hg,a0_,ai8 hg,a0_]
  simp only[l3_,a2_,a0_,tv_ hg,wr_]
  cases (bi5 g acts.1 acts.2.1).2.1 != 0<;>cases (bi5 g acts.2.1 acts.2.2).2.1 != 0<;>cases (bi5 g acts.1 acts.2.2).2.1 != 0<;>first
    | rfl
    | skip
  cases h1:(bi5 g acts.1 acts.2.1).1<;>cases h2:(bi5 g acts.2.1 acts.2.2).1<;>first
    | rfl
    | skip
  rw[ca7 h1 h2]
  rfl
end
end Go.Proofs.YtgeehfnbhbibeaaGreatDoor.Rx
