/- A part of the proof: what the functions of the program compute, shown over the model. -/
import Derived.KernelRfl
import Derived.Test.YtdibamopklkilaaGreatDoorPart5
set_option linter.unusedSectionVars false
set_option linter.unusedVariables false
set_option linter.unusedSimpArgs false
namespace Go.Proofs.YtdibamopklkilaaGreatDoor.Rx
open Go Pad Rex Sum
section
set_option maxRecDepth 10000
noncomputable def dst (es:List (List ae_)) (fin:Nat→Bool) (n:Nat):List Int:=Classical.epsilon λD=>D.length=n∧LC es fin D
theorem bb2 {es:List (List ae_)} {fin:Nat→Bool} {n:Nat} {D:List Int} (h1:D.length=n) (h2:LC es fin D):dst es fin n=D:=by
  have h:(dst es fin n).length=n∧LC es fin (dst es fin n):=Classical.epsilon_spec (p:=λD:List Int=>D.length=n∧LC es fin D) ⟨D,h1,h2⟩
  exact ca1 h.2 h2 (by omega)
section
variable {g:ac_} (hg:SmG g) (h0:bt_ g=0) {ps:List aa_} {es:List (List ae_)} (hG:GI g ps es) (hes:es.length=ps.length)
include hg h0 hG hes
theorem aq7 {rowB} {Q:ae_→Bool} (hR:RowOk rowB Q) {τ:Type} (K:List Int×Unit→Option τ):br2 rowB g (ps,es) K=K (dst (esQ Q es) (pu_ g ps) ps.length,()):=by
  obtain ⟨D,⟨h1,h2⟩,_,h3⟩:=aq8 hR hg h0 hG hes
  rw [h3,bb2 h1 h2]
theorem bb1 (act:Int):(dst (esF act es) (pu_ g ps) ps.length).length=ps.length∧LC (esF act es) (pu_ g ps) (dst (esF act es) (pu_ g ps) ps.length):=by
  obtain ⟨D,e,h1,h2⟩:=tv_ hg h0 hG hes act
  rw [bb2 h1 h2]
  exact ⟨h1,h2⟩
end
theorem cq6 (act:Int) (es:List (List ae_)):esQ (kp act) es=esF act es:=rfl
def rowQ (Q:ae_→Bool) (i:Int) (row:List ae_) (z:Int×(List (List Int)×Unit)):Option ((Int×(List (List Int)×Unit))⊕(List (List Int)×Unit)):=match at? row z.1 with
  | none=>some (.inr (z.2.1,()))
  | some x=>some (.inl (w64 (z.1+1),(cond (Q x) (z.2.1.set x.2.toNat ((at? z.2.1 x.2).getD []++[i])) z.2.1,())))
theorem rowQ_ok (Q:ae_→Bool):RowOk (rowQ Q) Q:=by
  refine ⟨λi row k x bk l hx hl h1 h2 => ?_,λi row bk => ?_⟩
  · unfold rowQ
    simp only [ah_ hx,hl,f4_,ay_ (show Sm k by show _≤1000000000; omega)]
  · unfold rowQ
    simp only [am6 (c6_ row.length)]
theorem cr3 {g:ac_} (hg:SmG g) (h0:bt_ g=0) {ps:List aa_} {es:List (List ae_)} (hG:GI g ps es) (hes:es.length=ps.length) (act:Int):∀ (i:Nat) (v:Int),(dst (esF act es) (pu_ g ps) ps.length)[i]?=some v→v≤(ps.length:Int):=by
  obtain ⟨D,⟨h1,h2⟩,h3,_⟩:=aq8 (rowQ_ok (kp act)) hg h0 hG hes
  rw [show dst (esF act es) (pu_ g ps) ps.length=D from bb2 h1 h2]
  exact h3
theorem ql_ {α:Type} (p q:α→Bool):∀ l:List α,(l.filter p).find? q=l.find? λa=>p a&&q a
  | []=>rfl
  | x::l=>by
    rw [List.filter_cons]
    cases hp:p x with
    | false =>
      rw [if_neg (by decide),ql_ p q l,l5_ (by rw [hp]; simp)]
    | true =>
      rw [if_pos rfl]
      cases hq:q x with
      | true=>rw [n4_ hq,n4_ (by rw [hp,hq]; rfl)]
      | false=>rw [l5_ (by rw [hq]; simp),l5_ (by rw [hp,hq]; simp),ql_ p q l]
theorem at_esF {act:Int} {es:List (List ae_)} {i:Int} {row:List ae_} (h:at? (esF act es) i=some row):∃ r0,at? es i=some r0∧row=r0.filter (kp act):=by
  obtain ⟨n,rfl,hn⟩:=nh_ h
  unfold esF at hn
  rw [d8_] at hn
  obtain ⟨r0,h1,rfl⟩:=e9_.1 hn
  exact ⟨r0,ah_ h1,rfl⟩
end
section
set_option maxRecDepth 10000
def Pa (es:List (List ae_)):Nat→List ae_→Nat→Prop
  | i,[],j=>i=j
  | i,x::xs,j=>∃ row,es[i]?=some row∧x ∈ row∧∃ n:Nat,x.2=(n:Int)∧Pa es n xs j
theorem LC_pa {es:List (List ae_)} {fin:Nat→Bool} {D:List Int} (hL:LC es fin D):∀ (xs:List ae_) (i j:Nat),Pa es i xs j→fin j=true→j<D.length→∃ k:Nat,D[i]?=some (k:Int)∧k≤xs.length
  | [],i,j,h,hf,hj=>by
    obtain rfl:i=j:=h
    obtain ⟨v,hv⟩:=bc_ hj
    have:=(hL.z i v hv).2 hf
    exact ⟨0,by rw [hv,this]; rfl,c6_ _⟩
  | x::xs,i,j,h,hf,hj=>by
    obtain ⟨row,h1,h2,n,h3,h4⟩:=h
    obtain ⟨k,h5,h6⟩:=LC_pa hL xs n j h4 hf hj
    obtain ⟨v,h7,h8,h9⟩:=hL.up i row x k h1 h2 (by rw [h3]; exact ah_ h5)
    obtain ⟨m,rfl⟩:=l4_ h8
    exact ⟨m,h7,by rw [c4_]; omega⟩
theorem aj2 {es:List (List ae_)} {act:Int}:∀ (xs:List ae_) (i j:Nat),Pa es i xs j→(∀ x ∈ xs,kp act x=true)→Pa (esF act es) i xs j
  | [],i,j,h,_=>h
  | x::xs,i,j,h,hk=>by
    obtain ⟨row,h1,h2,n,h3,h4⟩:=h
    exact ⟨row.filter (kp act),cq8 h1,c3_.2 ⟨h2,hk x (by simp)⟩,n,h3,aj2 xs n j h4 λy hy=>hk y (by simp [hy])⟩
theorem vw_ {es:List (List ae_)} {act:Int}:∀ (xs:List ae_) (i j:Nat),Pa (esF act es) i xs j→Pa es i xs j∧∀ x ∈ xs,kp act x=true
  | [],i,j,h=>⟨h,λx hx=>by simp at hx⟩
  | x::xs,i,j,h=>by
    obtain ⟨row,h1,h2,n,h3,h4⟩:=h
    obtain ⟨g1,g2⟩:=vw_ xs n j h4
    have h1':(es[i]?).map (λl=>l.filter (kp act))=some row:=by
      rw [← h1]
      unfold esF
      rw [d8_]
    cases hr:es[i]? with
    | none=>rw [hr] at h1'; cases h1'
    | some r0 =>
      rw [hr] at h1'
      obtain rfl:r0.filter (kp act)=row:=a6_ h1'
      obtain ⟨m1,m2⟩:=c3_.1 h2
      refine ⟨⟨r0,hr,m1,n,h3,g1⟩,λy hy => ?_⟩
      rcases e0_.1 hy with rfl | hy
      · exact m2
      · exact g2 y hy
theorem cm6 {es:List (List ae_)} {fin:Nat→Bool} {D:List Int} (hL:LC es fin D) (hxx:∀ l ∈ es,∀ x ∈ l,0≤x.2∧x.2<(D.length:Int)):∀ (k i:Nat),D[i]?=some (k:Int)→∃ xs j,Pa es i xs j∧shp es D k (i:Int)=xs.map (·.1)∧fin j=true∧j<D.length∧xs.length=k
  | 0,i,h=>⟨[],i,rfl,rfl,(hL.z i 0 h).1 rfl,(a3_.1 h).1,rfl⟩
  | k+1,i,h=>by
    obtain ⟨l,x,hl,hx,hat⟩:=hL.dn i k h
    have hatl:at? es (i:Int)=some l:=ah_ hl
    cases hf:l.find? (λx=>gi D x.2==(k:Int)) with
    | none =>
      have:=List.find?_eq_none.1 hf x hx
      rw [mb_ hat] at this
      simp at this
    | some y =>
      have hy:gi D y.2=(k:Int):=by
        have:=List.find?_some hf
        exact f2_.1 this
      have hyl:=p0_ hf
      obtain ⟨y0,y1⟩:=hxx l (ax_ hl) y hyl
      have haty:at? D y.2=some (k:Int):=by rw [ko_ y0 y1,hy]
      obtain ⟨n,hn,hn2⟩:=nh_ haty
      obtain ⟨xs,j,g1,g2,g3,g4,g5⟩:=cm6 hL hxx k n hn2
      refine ⟨y::xs,j,⟨l,hl,hyl,n,hn,g1⟩,?_,g3,g4,by rw [c4_,g5]⟩
      rw [shp,hatl,f4_,hf,f7_]
      show y.1::shp es D k y.2=_
      rw [hn,g2]
theorem co8 {q:ad_→Bool} {i k:Int}:∀ (n:Nat) (l:List ad_),(∀ m ∈ l,m ∈ mvK q i k n l)∧∀ j:Nat,j<n→q (i,(k,(j:Int)))=true→(i,(k,(j:Int))) ∈ mvK q i k n l
  | 0,l=>⟨λm h=>h,λj h=>by omega⟩
  | n+1,l=>by
    obtain ⟨h1,h2⟩:=co8 n l
    unfold mvK
    cases hq:q (i,(k,(n:Int))) with
    | false =>
      refine ⟨h1,λj hj hqj => ?_⟩
      by_cases e:j=n
      · subst e; rw [hq] at hqj; cases hqj
      · exact h2 j (by omega) hqj
    | true =>
      refine ⟨λm hm=>by simp [h1 m hm],λj hj hqj => ?_⟩
      by_cases e:j=n
      · subst e; simp
      · have:=h2 j (by omega) hqj
        simp [this]
theorem co9 {q:ad_→Bool} {i:Int} {c:Nat→Nat}:∀ (K:Nat) (l:List ad_),(∀ m ∈ l,m ∈ mvJ q i c K l)∧∀ k j:Nat,k<K→j<c k→q (i,((k:Int),(j:Int)))=true→(i,((k:Int),(j:Int))) ∈ mvJ q i c K l
  | 0,l=>⟨λm h=>h,λk j h=>by omega⟩
  | K+1,l=>by
    obtain ⟨h1,h2⟩:=co9 (q:=q) (i:=i) (c:=c) K l
    unfold mvJ
    obtain ⟨h3,h4⟩:=co8 (q:=q) (i:=i) (k:=(K:Int)) (c K) (mvJ q i c K l)
    refine ⟨λm hm=>h3 m (h1 m hm),λk j hk hj hq => ?_⟩
    by_cases e:k=K
    · subst e; exact h4 j hj hq
    · exact h3 _ (h2 k j (by omega) hj hq)
theorem co6 {q:ad_→Bool} {c:Nat→Nat}:∀ (n:Nat) (i k j:Nat),i<n→k<5→j<c k→q ((i:Int),((k:Int),(j:Int)))=true→((i:Int),((k:Int),(j:Int))) ∈ mvs q c n
  | 0,i,k,j,h,_,_,_=>by omega
  | n+1,i,k,j,h,hk,hj,hq=>by
    unfold mvs
    obtain ⟨h3,h4⟩:=co9 (q:=q) (i:=(n:Int)) (c:=c) 5 (mvs q c n)
    by_cases e:i=n
    · subst e; exact h4 k j hk hj hq
    · exact h3 _ (co6 n i k j (by omega) hk hj hq)
theorem by5 {α:Type} {l:List α} {x:Int} (h:x<0):at? l x=none:=by
  cases hx:at? l x with
  | none=>rfl
  | some v =>
    obtain ⟨i,rfl,_⟩:=nh_ hx
    omega
theorem lgl_neg {r:af_} {s:ai_} {i k j:Int} (h:lgl r s (i,(k,j))=true):0≤j:=by
  by_cases hj:0≤j
  · exact hj
  · exfalso
    have hj:j<0:=by omega
    unfold lgl at h
    rw [a1_] at h
    have h:=h.2
    simp only [by5 hj,Option.elim_none] at h
    revert h
    cases (k==1) <;> cases (k==2) <;> cases (k==3) <;> cases (k==4) <;> exact λh=>by cases h
theorem ci1 {r:af_} {s:ai_} {i k j:Int} (h:lgl r s (i,(k,j))=true):∃ n:Nat,k=(n:Int)∧n<5:=by
  unfold lgl at h
  rw [a1_] at h
  have h:=h.2
  simp only at h
  by_cases h1:k=1
  · exact ⟨1,h1,by omega⟩
  by_cases h2:k=2
  · exact ⟨2,h2,by omega⟩
  by_cases h3:k=3
  · exact ⟨3,h3,by omega⟩
  by_cases h4:k=4
  · exact ⟨4,h4,by omega⟩
  rw [show (k==1)=false from o7_ h1,show (k==2)=false from o7_ h2,show (k==3)=false from o7_ h3,show (k==4)=false from o7_ h4] at h
  cases h
theorem lgl_who {r:af_} {s:ai_} {i k j:Int} (h:lgl r s (i,(k,j))=true) (hs:s.2.2.length≤1000000):∃ n:Nat,i=(n:Int)∧n<s.2.2.length:=by
  unfold lgl at h
  rw [a1_] at h
  have h:=h.1
  have h0:wi i 0 (w64 ((s.2.2.length:Int) - 1))=true:=h
  unfold wi at h0
  rw [ex_ (n:=(s.2.2.length:Int) - 1) (by omega) (by omega)] at h0
  simp only [a1_,decide_eq_true_eq] at h0
  obtain ⟨n,rfl⟩:=l4_ h0.1
  exact ⟨n,rfl,by omega⟩
theorem lmv_all {r:af_} (ok:OkR r) {s:ai_} (hv:VS r s) {m:ad_} (h:lgl r s m=true):m ∈ lmv r s:=by
  obtain ⟨i,k,j⟩:=m
  have h3:=hv.l3
  have hpy:=ok.py
  unfold wi at hpy
  simp only [a1_,decide_eq_true_eq] at hpy
  obtain ⟨n,rfl,hn⟩:=lgl_who h (by omega)
  obtain ⟨c,rfl,hc⟩:=ci1 h
  obtain ⟨b,rfl⟩:=l4_ (lgl_neg h)
  unfold lmv
  refine co6 _ n c b (by omega) hc ?_ h
  by_cases hb:b<al9 r c
  · exact hb
  · rw [bs0 hv (n:Int) hc (by omega)] at h
    cases h
theorem pmv_all {g:ac_} (h0:bt_ g=0) {p q:aa_} (hv:VP g p) {m:ad_} (h:stepP g p m=some q):m ∈ pmv g p:=by
  unfold pmv
  refine c3_.2 ⟨lmv_all (bi_ (cd_ h0).room) hv.st ?_,by rw [h]; rfl⟩
  unfold stepP at h
  cases hc:okM g p.2 m&&lgl g.1 p.1 m with
  | true=>exact (a1_ _ _ ▸ hc).2
  | false=>rw [hc] at h; cases h
def RowI (g:ac_) (p:aa_) (ps:List aa_) (row:List ae_):Prop:=∀ x ∈ row,∃ q n,stepP g p x.1=some q∧x.2=((n:Nat):Int)∧ps[n]?=some q
theorem am8 {g:ac_} {p:aa_} {ps ps':List aa_} {row:List ae_} (h:RowI g p ps row) (hp:∀ (n:Nat) q,ps[n]?=some q→ps'[n]?=some q):RowI g p ps' row:=λx hx=>by
  obtain ⟨q,n,h1,h2,h3⟩:=h x hx
  exact ⟨q,n,h1,h2,hp n q h3⟩
theorem ar6 {g:ac_} {p:aa_}:∀ (ms:List ad_) (e e':List ae_) (ps ps':List aa_),(∀ m ∈ ms,∃ q,stepP g p m=some q)→RowI g p ps e→inn g p ms e ps=some (e',ps') →
    RowI g p ps' e'∧e'.map (·.1)=e.map (·.1)++ms∧∀ (n:Nat) q,ps[n]?=some q→ps'[n]?=some q
  | [],e,e',ps,ps',hm,hr,h=>by
    unfold inn at h
    cases h
    exact ⟨hr,by simp,λn q h=>h⟩
  | m::ms,e,e',ps,ps',hm,hr,h=>by
    obtain ⟨q,hq⟩:=hm m (by simp)
    unfold inn at h
    rw [hq,f4_] at h
    cases hw:wh ps q with
    | some n =>
      rw [hw] at h
      have hn:=bi3 hw
      obtain ⟨h1,h2,h3⟩:=ar6 ms _ e' ps ps' (λx hx=>hm x (by simp [hx])) (λx hx=>by
        rcases b7_.1 hx with hx | hx
        · exact hr x hx
        · simp at hx; subst hx; exact ⟨q,n,hq,rfl,hn⟩) h
      exact ⟨h1,by rw [h2]; simp,h3⟩
    | none =>
      rw [hw] at h
      simp only at h
      by_cases hl:ps.length=3000
      · rw [if_pos hl] at h; cases h
      · rw [if_neg hl] at h
        have hp:∀ (n:Nat) z,ps[n]?=some z→(ps++[q])[n]?=some z:=λn z hz=>by
          rw [b4_ (a3_.1 hz).1]
          exact hz
        obtain ⟨h1,h2,h3⟩:=ar6 ms _ e' _ ps' (λx hx=>hm x (by simp [hx])) (λx hx=>by
          rcases b7_.1 hx with hx | hx
          · exact am8 hr hp x hx
          · simp at hx; subst hx; exact ⟨q,ps.length,hq,rfl,by simp⟩) h
        exact ⟨h1,by rw [h2]; simp,λn z hz=>h3 n z (hp n z hz)⟩
def GE (g:ac_) (ps:List aa_) (es:List (List ae_)):Prop:=∀ (i:Nat) row,es[i]?=some row→∃ p,ps[i]?=some p∧row.map (·.1)=pmv g p∧RowI g p ps row
theorem bo4 {g:ac_}:∀ (n i:Nat) (ps ps':List aa_) (es es':List (List ae_)),es.length=i→GE g ps es→out g n i ps es=some (ps',es')→GE g ps' es'∧∀ (k:Nat) q,ps[k]?=some q→ps'[k]?=some q
  | 0,i,ps,ps',es,es',hl,hG,h=>by
    unfold out at h
    cases h
    exact ⟨hG,λk q h=>h⟩
  | n+1,i,ps,ps',es,es',hl,hG,h=>by
    unfold out at h
    cases hp:ps[i]? with
    | none =>
      rw [hp] at h
      cases h
      exact ⟨hG,λk q h=>h⟩
    | some p =>
      rw [hp] at h
      simp only at h
      cases hi:inn g p (pmv g p) [] ps with
      | none=>rw [hi] at h; cases h
      | some z =>
        obtain ⟨e,ps1⟩:=z
        rw [hi] at h
        simp only at h
        obtain ⟨h1,h2,h3⟩:=ar6 (pmv g p) [] e ps ps1 (λm hm=>pc_ hm) (λx hx=>by simp at hx) hi
        have hG1:GE g ps1 (es++[e]):=λj row hj=>by
          by_cases hjl:j<es.length
          · rw [b4_ hjl] at hj
            obtain ⟨p',g1,g2,g3⟩:=hG j row hj
            exact ⟨p',h3 j p' g1,g2,am8 g3 h3⟩
          · have hj':j=es.length:=by
              have:=(a3_.1 hj).1
              rw [a8_,d5_] at this
              omega
            subst hj'
            rw [d4_ (c6_ _),l8_] at hj
            obtain rfl:e=row:=a6_ hj
            exact ⟨p,h3 _ p (by rw [hl]; exact hp),by rw [h2]; simp,h1⟩
        obtain ⟨k1,k2⟩:=bo4 n (i+1) ps1 ps' (es++[e]) es' (by rw [a8_,d5_,hl]) hG1 h
        exact ⟨k1,λk q hq=>k2 k q (h3 k q hq)⟩
theorem exG_GE {g:ac_} (he:(exG g).2.1=0):GE g (exG g).1.1 (exG g).1.2∧(exG g).1.1[0]?=some (lq_ g).1∧(lq_ g).2.1=0:=by
  unfold exG at he ⊢
  cases hb:(lq_ g).2.1 != 0 with
  | true =>
    rw [hb] at he
    have he:(lq_ g).2.1=0:=he
    rw [he] at hb
    cases hb
  | false =>
    rw [hb] at he
    simp only [a2_] at he ⊢
    cases ho:out g 3001 0 [(lq_ g).1] [] with
    | none=>rw [ho] at he; cases he
    | some z =>
      obtain ⟨ps,es⟩:=z
      obtain ⟨h1,h2⟩:=bo4 3001 0 _ ps [] es rfl (λi row h=>by simp at h) ho
      exact ⟨h1,h2 0 _ rfl,by simpa using hb⟩
noncomputable def qb_ (g:ac_):aa_→List ad_→Option aa_
  | p,[]=>some p
  | p,m::ms=>(stepP g p m).bind λq=>qb_ g q ms
theorem cn9 {g:ac_} {ps:List aa_} {es:List (List ae_)} (hG:GE g ps es):∀ (xs:List ae_) (i j:Nat) (p:aa_),Pa es i xs j→ps[i]?=some p→∃ q,qb_ g p (xs.map (·.1))=some q∧ps[j]?=some q
  | [],i,j,p,h,hp=>by
    obtain rfl:i=j:=h
    exact ⟨p,rfl,hp⟩
  | x::xs,i,j,p,h,hp=>by
    obtain ⟨row,h1,h2,n,h3,h4⟩:=h
    obtain ⟨p',g1,g2,g3⟩:=hG i row h1
    rw [hp] at g1
    obtain rfl:=a6_ g1
    obtain ⟨q,n',k1,k2,k3⟩:=g3 x h2
    obtain rfl:n'=n:=by rw [h3] at k2; omega
    obtain ⟨q',r1,r2⟩:=cn9 hG xs n' j q h4 k3
    refine ⟨q',?_,r2⟩
    rw [f7_,qb_,k1]
    exact r1
theorem bk3 {g:ac_} (h0:bt_ g=0) {ps:List aa_} {es:List (List ae_)} (hE:GE g ps es) (hP:PI g ps) (hl:es.length=ps.length) {i:Nat} {p q:aa_} (hp:ps[i]?=some p) {m:ad_} (h:stepP g p m=some q) :
    ∃ (row:List ae_) (n:Nat),es[i]?=some row∧(m,(n:Int)) ∈ row∧ps[n]?=some q:=by
  have hm:=pmv_all h0 (hP.v p (ax_ hp)) h
  obtain ⟨row,hr⟩:=bc_ (l:=es) (i:=i) (by have:=al_ hp; omega)
  obtain ⟨p',g1,g2,g3⟩:=hE i row hr
  rw [hp] at g1
  obtain rfl:=a6_ g1
  rw [← g2] at hm
  obtain ⟨x,hx,rfl⟩:=d9_.1 hm
  obtain ⟨q',n,k1,k2,k3⟩:=g3 x hx
  rw [h] at k1
  obtain rfl:=a6_ k1
  refine ⟨row,n,hr,?_,k3⟩
  rw [← k2]
  exact hx
theorem bl7 {g:ac_} (h0:bt_ g=0) {ps:List aa_} {es:List (List ae_)} (hE:GE g ps es) (hP:PI g ps) (hl:es.length=ps.length):∀ (ms:List ad_) (i:Nat) (p q:aa_),ps[i]?=some p→qb_ g p ms=some q→∃ xs j,Pa es i xs j∧xs.map (·.1)=ms∧ps[j]?=some q
  | [],i,p,q,hp,h=>⟨[],i,rfl,rfl,by rw [hp]; exact h⟩
  | m::ms,i,p,q,hp,h=>by
    rw [qb_] at h
    cases hs:stepP g p m with
    | none=>rw [hs] at h; cases h
    | some p1 =>
      rw [hs,a0_] at h
      obtain ⟨row,n,h1,h2,h3⟩:=bk3 h0 hE hP hl hp hs
      obtain ⟨xs,j,g1,g2,g3⟩:=bl7 h0 hE hP hl ms n p1 q h3 h
      exact ⟨(m,(n:Int))::xs,j,⟨row,h1,h2,n,rfl,g1⟩,by rw [f7_,g2],g3⟩
theorem qa_ {g:ac_} (hg:SmG g) (h0:bt_ g=0):∀ (ms:List ad_) (p q:aa_),VP g p→qb_ g p ms=some q→VP g q
  | [],p,q,hv,h=>by
    obtain rfl:=a6_ (show some p=some q from h)
    exact hv
  | m::ms,p,q,hv,h=>by
    rw [qb_] at h
    cases hs:stepP g p m with
    | none=>rw [hs] at h; cases h
    | some p1 =>
      rw [hs,a0_] at h
      exact qa_ hg h0 ms p1 q (qw_ hg h0 hv hs) h
theorem vj_ {g:ac_}:∀ (ms:List ad_) (m:ad_) (p:aa_),qb_ g p (ms++[m])=(qb_ g p ms).bind λq=>stepP g q m
  | [],m,p=>by
    show ((stepP g p m).bind λq=>qb_ g q [])=stepP g p m
    cases stepP g p m <;> rfl
  | a::ms,m,p=>by
    rw [j3_,qb_,qb_]
    cases stepP g p a with
    | none=>rfl
    | some q=>exact vj_ ms m q
section
variable {g:ac_} (hg:SmG g) (he:(exG g).2.1=0)
noncomputable def dstG (g:ac_) (act:Int):List Int:=dst (esF act (exG g).1.2) (pu_ g (exG g).1.1) (exG g).1.1.length
structure Gr (g:ac_):Prop where
  h0:bt_ g=0
  gI:GI g (exG g).1.1 (exG g).1.2
  ge:GE g (exG g).1.1 (exG g).1.2
  len:(exG g).1.2.length=(exG g).1.1.length
  n:(exG g).1.1.length≤3000
  pos:1≤(exG g).1.1.length
  p0:(exG g).1.1[0]?=some (lq_ g).1
  e0:(lq_ g).2.1=0
  dl:∀ act,(dstG g act).length=(exG g).1.1.length
  dc:∀ act,LC (esF act (exG g).1.2) (pu_ g (exG g).1.1) (dstG g act)
  db:∀ act (i:Nat) (v:Int),(dstG g act)[i]?=some v→v≤((exG g).1.1.length:Int)
  xx:∀ l ∈ (exG g).1.2,∀ x ∈ l,0≤x.2∧x.2<((exG g).1.1.length:Int)
  al:esF (-1) (exG g).1.2=(exG g).1.2
include hg he
theorem cq5:Gr g:=by
  obtain ⟨h0,hG,hes⟩:=ba6 hg he
  obtain ⟨k1,k2,k3⟩:=exG_GE he
  exact ⟨h0,hG,k1,hes,hG.pI.n,ae0 he,k2,k3,λact=>(bb1 hg h0 hG hes act).1,λact=>(bb1 hg h0 hG hes act).2,λact=>cr3 hg h0 hG hes act,λl hl x hx=>(hG.eI l hl x hx).1,esF_all λl hl x hx=>(hG.eI l hl x hx).2⟩
end
theorem Gr.xxF {g:ac_} (h:Gr g) (act:Int):∀ l ∈ esF act (exG g).1.2,∀ x ∈ l,0≤x.2∧x.2<((dstG g act).length:Int):=λl hl x hx=>by
  obtain ⟨l',h2,rfl⟩:=as2 hl
  rw [h.dl]
  exact h.xx l' h2 x (c3_.1 hx).1
theorem Gr.way {g:ac_} (h:Gr g) (act:Int) {i k:Nat} (hd:(dstG g act)[i]?=some (k:Int)) {p:aa_} (hp:(exG g).1.1[i]?=some p):∃ q,qb_ g p (shp (esF act (exG g).1.2) (dstG g act) k (i:Int))=some q∧cq_ q.1.1 g.1.2.2.2.2.2.2.2=true ∧
    (shp (esF act (exG g).1.2) (dstG g act) k (i:Int)).length=k∧∀ m ∈ shp (esF act (exG g).1.2) (dstG g act) k (i:Int),(m.2.1==4&&m.2.2==act)=false:=by
  obtain ⟨xs,j,h1,h2,h3,h4,h5⟩:=cm6 (h.dc act) (h.xxF act) k i hd
  obtain ⟨g1,g2⟩:=vw_ xs i j h1
  obtain ⟨q,g3,g4⟩:=cn9 h.ge xs i j p g1 hp
  refine ⟨q,by rw [h2]; exact g3,?_,by rw [h2,d0_,h5],λm hm => ?_⟩
  · rw [← wu_ g4]
    exact h3
  · rw [h2] at hm
    obtain ⟨x,hx,rfl⟩:=d9_.1 hm
    have:=g2 x hx
    unfold kp at this
    cases hk:(x.1.2.1==4&&x.1.2.2==act) with
    | true=>rw [hk] at this; cases this
    | false=>rfl
theorem Gr.run_dst {g:ac_} (h:Gr g) (act:Int) {i:Nat} {p q:aa_} (hp:(exG g).1.1[i]?=some p) {ms:List ad_} (hr:qb_ g p ms=some q) (hq:cq_ q.1.1 g.1.2.2.2.2.2.2.2=true) (ha:∀ m ∈ ms,(m.2.1==4&&m.2.2==act)=false):∃ k:Nat,(dstG g act)[i]?=some (k:Int)∧k≤ms.length:=by
  obtain ⟨xs,j,h1,h2,h3⟩:=bl7 h.h0 h.ge h.gI.pI h.len ms i p q hp hr
  have h4:=aj2 (act:=act) xs i j h1 λx hx=>by
    have:=ha x.1 (by rw [← h2]; exact d9_.2 ⟨x,hx,rfl⟩)
    unfold kp
    rw [this]
    rfl
  obtain ⟨k,k1,k2⟩:=LC_pa (h.dc act) xs i j h4 (by rw [wu_ h3]; exact hq) (by rw [h.dl]; exact al_ h3)
  exact ⟨k,k1,by rw [← h2,d0_]; exact k2⟩
theorem Gr.at0 {g:ac_} (h:Gr g) (act:Int):(dstG g act)[0]?=some (gi (dstG g act) 0):=by
  have h1:=h.pos
  have h2:=h.dl act
  have hat:at? (dstG g act) 0=some (gi (dstG g act) 0):=ko_ (by omega) (by omega)
  obtain ⟨i,e,hi⟩:=nh_ hat
  obtain rfl:i=0:=by omega
  exact hi
end
section
set_option maxRecDepth 100000
def G0:cf_:=([(([0,0],([0],[0])),[true,true,false]),(([1,0],([0],[0])),[true,true,false]),(([1,0],([-2],[0])),[true,true,false]),(([1,1],([-1],[0])),[true,true,false]),(([1,1],([-1],[1])),[true,true,true]),(([1,1],([-1],[0])),[true,true,true])],
  [[((0,(4,0)),1)],[((0,(2,0)),2),((0,(4,0)),1)],[((0,(3,0)),1),((0,(4,0)),2),((0,(4,1)),3)],[((0,(1,0)),4),((0,(4,0)),3)],[((0,(1,0)),5)],[((0,(1,0)),4),((0,(4,0)),5)]])
def D0:List Int:=[3,2,1,0,0,0]
theorem exG_g0:exG g0=(G0,(0,())):=by kernel_rfl
theorem SmG_g0:SmG g0:=by
  refine ⟨⟨?_,?_,?_,?_,?_,?_,?_,?_,?_,?_,?_,?_,?_⟩,?_,?_,?_,?_,?_,?_,?_,?_,?_⟩ <;> decide
def chkD (es:List (List ae_)) (fin:Nat→Bool) (D:List Int):Bool :=
  (List.range D.length).all λi=>match D[i]? with
    | none=>false
    | some v=>decide (-1≤v)&&((v==0)==fin i)&&match es[i]? with
      | none=>false
      | some l=>(decide (v≤0)||l.any (λx=>at? D x.2==some (v - 1)))&&l.all λx=>match at? D x.2 with
        | none=>true
        | some k=>decide (k<0)||(decide (0≤v)&&decide (v≤k+1))
theorem ae7 {es:List (List ae_)} {fin:Nat→Bool} {D:List Int} (h:chkD es fin D=true) {i:Nat} {v:Int} (hv:D[i]?=some v) :
    -1≤v∧((v==0)=fin i)∧∃ l,es[i]?=some l∧(v≤0∨∃ x ∈ l,at? D x.2=some (v - 1))∧∀ x ∈ l,∀ k,at? D x.2=some k→k<0∨(0≤v∧v≤k+1):=by
  have:=e7_.1 h i (m3_.2 (al_ hv))
  simp only [hv] at this
  rw [a1_,a1_,g2_,f2_] at this
  obtain ⟨⟨h1,h2⟩,h3⟩:=this
  refine ⟨h1,h2,?_⟩
  cases hl:es[i]? with
  | none=>rw [hl] at h3; cases h3
  | some l =>
    simp only [hl] at h3
    rw [a1_,c8_,g2_,j4_,e7_] at h3
    refine ⟨l,rfl,h3.1.imp id λ⟨x,hx,e⟩=>⟨x,hx,f2_.1 e⟩,λx hx k hk => ?_⟩
    have:=h3.2 x hx
    simp only [hk] at this
    rw [c8_,a1_,g2_,g2_,g2_] at this
    exact this
theorem chkD_LC {es:List (List ae_)} {fin:Nat→Bool} {D:List Int} (hes:es.length=D.length) (h:chkD es fin D=true):LC es fin D:=by
  refine ⟨λi v hv=>(ae7 h hv).1,λi v hv => ?_,λi k hk => ?_,λi l x k hl hx hat => ?_⟩
  · rw [← (ae7 h hv).2.1,f2_]
  · obtain ⟨_,_,l,hl,h1,_⟩:=ae7 h hk
    rcases h1 with h1 | ⟨x,hx,e⟩
    · omega
    · refine ⟨l,x,hl,hx,?_⟩
      rw [e]
      congr 1
      omega
  · obtain ⟨v,hv⟩:=bc_ (l:=D) (i:=i) (by have:=al_ hl; omega)
    obtain ⟨_,_,l',hl',_,h2⟩:=ae7 h hv
    rw [hl] at hl'
    obtain rfl:=a6_ hl'
    rcases h2 x hx k hat with h3 | h3
    · omega
    · exact ⟨v,hv,h3⟩
theorem chk_g0:chkD G0.2 (pu_ g0 G0.1) D0=true:=by kernel_rfl
theorem cl4:dw_ g0=some ([(0,(4,0)),(0,(2,0)),(0,(4,1))],(0,())):=by
  obtain ⟨D,h⟩:=vp_ SmG_g0
  rw [exG_g0] at h
  rcases h with ⟨h,_⟩ | ⟨_,h1,h2,h3⟩
  · exact absurd rfl h
  · have hD:D=D0:=ca1 h2 (chkD_LC rfl chk_g0) h1
    have e:((cond (decide (gi D0 0<0)) ([],(50,())) (shp G0.2 D0 (gi D0 0).toNat 0,(0,()))):List ad_×(Int×Unit))=([(0,(4,0)),(0,(2,0)),(0,(4,1))],(0,())):=by kernel_rfl
    rw [h3,hD]
    exact congrArg some e
theorem gs_:dd_=some (true,()):=by
  unfold dd_
  refine e2_ (congrArg (λo=>Option.bind o _) cl4) ?_
  kernel_rfl
end
section
set_option maxRecDepth 10000
theorem exG_err {g:ac_} (h:(lq_ g).2.1=0):(exG g).2.1=0∨(exG g).2.1=2:=by
  unfold exG
  rw [h]
  simp only [show ((0:Int) != 0)=false from rfl,a2_]
  cases out g 3001 0 [(lq_ g).1] [] with
  | none=>exact .inr rfl
  | some z=>exact .inl rfl
structure NotLarge (g:ac_):Prop where
  sm:SmG g
  one:bt_ g=0→(exG g).2.1≠2
  n:bt_ g=0→(exG g).1.1.length≤200
theorem ak0 (g:ac_):∃ b,jn_ g=some (b,())∧(b=false→NotLarge g):=by
  obtain ⟨b,e,hb⟩:=bs3 g
  unfold jn_
  rw [e,a0_]
  cases b with
  | true=>exact ⟨true,by simp only [a4_,a0_],λh=>by cases h⟩
  | false =>
  have hg:=hb rfl
  simp only [a2_]
  rw [qd_ hg,a0_,a0_]
  cases hc:bt_ g != 0 with
  | true=>exact ⟨false,by simp only [a4_,a0_],λ_=>⟨hg,λh=>(by rw [h] at hc; cases hc),λh=>(by rw [h] at hc; cases hc)⟩⟩
  | false =>
  simp only [a2_]
  have key:∀ c:Bool,∃ b,(((some (c,()):Option (Bool×Unit))).bind λv4 =>
 (cond v4.1
 (some (true,()))
 ((ff_ g).bind λv5 =>
 (cond (v5.2.1==2)
 (some (true,()))
 (some ((decide (200<(v5.1.1.length:Int))),()))))))=some (b,())∧(b=false→NotLarge g):=λc=>by
    rw [a0_,zu_ hg,a0_]
    cases c with
    | true=>exact ⟨true,rfl,λh=>by cases h⟩
    | false =>
      cases hE:(exG g).2.1==2 with
      | true=>exact ⟨true,by simp only [a2_,hE,a4_],λh=>by cases h⟩
      | false=>exact ⟨_,by simp only [a2_,hE]; rfl,λh=>⟨hg,(λ_ e=>by rw [e] at hE; cases hE),(λ_=>by have:=c7_ h; omega)⟩⟩
  have one:∀ (c:Bool) (o:Option (Bool×Unit)),(∃ d,o=some (d,()))→∃ d,cond c (some (true,())) o=some (d,()):=λc o h=>by
    cases c with
    | true=>exact ⟨true,rfl⟩
    | false=>exact h
  obtain ⟨d,hd⟩:=one (decide (4<(g.1.1.length:Int))) _ (one (decide (4<(g.1.2.1.length:Int))) _ (one (decide (3<(g.1.2.2.1.length:Int))) _ (one (decide (2<g.1.2.2.2.2.2.2.1)) _ (one (decide (6<(g.1.2.2.2.2.1.length:Int))) _ (one (decide (4<(g.1.2.2.2.2.2.1.length:Int))) _ (one (decide (5<(g.2.2.2.1.length:Int))) _ ⟨decide (3<(g.2.1.length:Int)),rfl⟩))))))
  rw [hd]
  exact key d
theorem NotLarge.ok {g:ac_} (h:NotLarge g) (he:(lq_ g).2.1=0):(exG g).2.1=0:=by
  obtain ⟨h0,_⟩:=xl_ h.sm he
  rcases exG_err he with h1 | h1
  · exact h1
  · exact absurd h1 (h.one h0)
theorem NotLarge.gr {g:ac_} (h:NotLarge g) (he:(lq_ g).2.1=0):Gr g:=cq5 h.sm (h.ok he)
end
section
set_option maxRecDepth 100000
def ND (m:List ab_):Prop:=(m.map (·.1)).Nodup
theorem cg8 (m:List ab_) (k v x:Int):x ∈ (hh_ m k v).map (·.1)↔x=k∨x ∈ m.map (·.1):=by
  induction m with
  | nil=>simp [hh_]
  | cons a m ih =>
    obtain ⟨a,u⟩:=a
    unfold hh_
    by_cases h:k=a
    · rw [if_pos h]
      simp [h]
    · rw [if_neg h,f7_,e0_,ih,f7_,e0_]
      constructor
      · rintro (h1 | h1 | h1)
        · exact .inr (.inl h1)
        · exact .inl h1
        · exact .inr (.inr h1)
      · rintro (h1 | h1 | h1)
        · exact .inr (.inl h1)
        · exact .inl h1
        · exact .inr (.inr h1)
theorem at8 {m:List ab_} (h:ND m) (k v:Int):ND (hh_ m k v):=by
  induction m with
  | nil=>simp [ND,hh_]
  | cons a m ih =>
    obtain ⟨a,u⟩:=a
    unfold ND at h ih ⊢
    rw [f7_,n1_] at h
    unfold hh_
    by_cases hk:k=a
    · rw [if_pos hk,f7_,n1_]
      exact h
    · rw [if_neg hk,f7_,n1_]
      refine ⟨λhm => ?_,ih h.2⟩
      rcases (cg8 m k v a).1 hm with h1 | h1
      · exact hk h1.symm
      · exact h.1 h1
theorem bq9 {m:List ab_} {k:Int} (h:k ∉ m.map (·.1)):mget? m k=none:=by
  induction m with
  | nil=>rfl
  | cons a m ih =>
    obtain ⟨a,u⟩:=a
    rw [f7_,e0_,not_or] at h
    unfold mget?
    rw [if_neg h.1]
    exact ih h.2
theorem ch3 (m:List ab_) (k:Int):((xp_ m k).map (·.1)).Sublist (m.map (·.1)):=by
  induction m with
  | nil=>exact List.Sublist.refl _
  | cons a m ih =>
    obtain ⟨a,u⟩:=a
    unfold xp_
    by_cases h:k=a
    · rw [if_pos h,f7_]
      exact List.sublist_cons_self _ _
    · rw [if_neg h,f7_,f7_]
      exact ih.cons_cons _
theorem br0 {m:List ab_} (h:ND m) (k k':Int):mget? (xp_ m k) k'=if k'=k then none else mget? m k':=by
  induction m with
  | nil=>simp [xp_,mget?]
  | cons a m ih =>
    obtain ⟨a,u⟩:=a
    unfold ND at h
    rw [f7_,n1_] at h
    unfold xp_
    by_cases hk:k=a
    · subst hk
      rw [if_pos rfl]
      by_cases hk':k'=k
      · subst hk'
        rw [if_pos rfl,bq9 h.1]
      · rw [if_neg hk',mget?,if_neg hk']
    · rw [if_neg hk,mget?,ih h.2]
      by_cases hk':k'=k
      · subst hk'
        rw [if_neg hk,if_pos rfl,if_pos rfl]
      · rw [if_neg hk',mget?]
        by_cases h2:k'=a
        · rw [if_pos h2,if_neg hk']
        · rw [if_neg h2,if_neg hk']
structure Me (g:ac_) (d:List Bool) (mm:List ab_):Prop where
  m:Mem g d mm
  n:ND mm
theorem ck3 {g:ac_} {d d':List Bool} {lock:Int} (hl:d.length=d'.length) (h:∀ (i:Nat) x,g.2.2.2.1[i]?=some x→x.2.2.1=lock→d[i]?=d'[i]?):an5 g d lock=an5 g d' lock:=by
  unfold an5
  have gen:∀ (ns:List ch_) (a b:List Bool),a.length=b.length→(∀ (i:Nat) (x:ch_),ns[i]?=some x→x.2.2.1=lock→a[i]?=b[i]?) →
      (ns.zip a).filterMap (λx=>cond (x.1.2.2.1==lock&&x.2) (some x.1.2.2.2.2) none)=(ns.zip b).filterMap (λx=>cond (x.1.2.2.1==lock&&x.2) (some x.1.2.2.2.2) none):=by
    intro ns
    induction ns with
    | nil=>intro a b _ _; rfl
    | cons n ns ih =>
      intro a b hab h
      cases a with
      | nil =>
        cases b with
        | nil=>rfl
        | cons y b=>simp at hab
      | cons x a =>
        cases b with
        | nil=>simp at hab
        | cons y b =>
          have h1:=ih a b (by simpa using hab) λi z hz hk=>by
            have:=h (i+1) z (by simpa using hz) hk
            simpa using this
          rw [List.zip_cons_cons,List.zip_cons_cons,List.filterMap_cons,List.filterMap_cons,h1]
          cases hk:n.2.2.1==lock with
          | false=>simp only [hk,e3_,a2_]
          | true =>
            have:=h 0 n rfl (f2_.1 hk)
            simp at this
            rw [this]
  exact gen _ _ _ hl h
theorem cf8 {g:ac_} {d d':List Bool} {lock:Int} (hl:d.length=d'.length) (h:∀ (i:Nat) x,g.2.2.2.1[i]?=some x→x.2.2.1=lock→d[i]?=d'[i]?):opn g d lock=opn g d' lock:=by
  unfold opn rdC
  rw [ck3 hl h]
theorem pbg_mem {g:ac_} (hg:SmG g) (ok:OkG g) {s:ai_} (hv:VS g.1 s) {d:List Bool} (hd:d.length=g.2.2.2.1.length) {m:List ab_} (hm:Me g d m) :
    ∃ m',ag_ (bh7 g s) (0,(d,(m,())))=some (rdN g s d,(m',()))∧Me g (rdN g s d) m':=by
  have h0:=ok.room
  have okr:=bi_ h0
  obtain ⟨m1,m2,m3⟩:=na_ hg.room okr hv
  have hn:=hg.nt
  have hrl:=qh_ (s:=s) hd
  suffices hs:∃ z,ag_ (bh7 g s) (0,(d,(m,())))=some z∧(z.1=rdN g s d∧(ND z.2.1∧∀ lock,da_ 0 z.2.1 lock=(0:Int)∨(da_ (0:Int) z.2.1 lock=da_ 0 m lock∧∀ (i:Nat) x,i<g.2.2.2.1.length→g.2.2.2.1[i]?=some x→x.2.2.1=lock→d[i]?=(rdN g s d)[i]?))) by
    obtain ⟨⟨z1,z2,u⟩,e,h1,h2,h3⟩:=hs
    simp only at h1 h2 h3
    subst h1
    refine ⟨z2,e,λlock hlock => ?_,h2⟩
    rcases h3 lock with h4 | ⟨h4,h5⟩
    · exact .inl h4
    · rw [h4,← cf8 (d:=d) (d':=rdN g s d) (by rw [hd,hrl]) λi x hx hk=>h5 i x (al_ hx) hx hk]
      exact hm.m lock hlock
  refine hq_ (λ(i:Nat) (z:Int×(List Bool×(List ab_×Unit)))=>∃ d' m',z=((i:Int),(d',(m',())))∧(∀ j,d'[j]?=if j<i then (rdN g s d)[j]? else d[j]?)∧(ND m'∧∀ lock,da_ 0 m' lock=(0:Int)∨(da_ (0:Int) m' lock=da_ 0 m lock∧∀ (k:Nat) x,k<i→g.2.2.2.1[k]?=some x→x.2.2.1=lock→d[k]?=(rdN g s d)[k]?))) _ g.2.2.2.1.length 0 _ ⟨d,m,rfl,λj=>by simp,hm.n,λlock=>.inr ⟨rfl,λk x hk=>by omega⟩⟩ (λj z h1 h2 hz=>.inl ?_) (λz hz => ?_)
  · obtain ⟨d',m',rfl,hd',hnd,hmm⟩:=hz
    obtain ⟨x,hx⟩:=bc_ (l:=g.2.2.2.1) (i:=j) (by omega)
    obtain ⟨y,hy⟩:=bc_ (l:=d) (i:=j) (by omega)
    have hy':d'[j]?=some y:=by rw [hd' j,if_neg (by omega)]; exact hy
    have hr:=ap7 (s:=s) hx hy
    have hH:=vl_ hg.room h0 hv (ok.nt j x hx).2
    have keep:rdB s x y=y→(∀ k,d'[k]?=if k<j+1 then (rdN g s d)[k]? else d[k]?)∧(ND m'∧∀ lock,da_ 0 m' lock=(0:Int)∨(da_ (0:Int) m' lock=da_ 0 m lock∧∀ (k:Nat) x,k<j+1→g.2.2.2.1[k]?=some x→x.2.2.1=lock→d[k]?=(rdN g s d)[k]?)):=λe=>by
      refine ⟨λk => ?_,hnd,λlock => ?_⟩
      · rw [hd' k]
        by_cases hk:k=j
        · subst hk
          rw [if_neg (by omega),if_pos (by omega),hr,hy,e]
        · by_cases hk2:k<j
          · rw [if_pos hk2,if_pos (by omega)]
          · rw [if_neg hk2,if_neg (by omega)]
      · rcases hmm lock with h4 | ⟨h4,h5⟩
        · exact .inl h4
        · refine .inr ⟨h4,λk z hk hz hl => ?_⟩
          by_cases hkj:k=j
          · subst hkj
            rw [hr,hy,e]
          · exact h5 k z (by omega) hz hl
    have turn:rdB s x y=true→(∀ k,(d'.set ((j:Int)).toNat true)[k]?=if k<j+1 then (rdN g s d)[k]? else d[k]?)∧(ND (xp_ m' x.2.2.1)∧∀ lock,da_ 0 (xp_ m' x.2.2.1) lock=(0:Int)∨(da_ (0:Int) (xp_ m' x.2.2.1) lock=da_ 0 m lock∧∀ (k:Nat) x,k<j+1→g.2.2.2.1[k]?=some x→x.2.2.1=lock→d[k]?=(rdN g s d)[k]?)):=λe=>by
      refine ⟨λk => ?_,(ch3 m' x.2.2.1).nodup hnd,λlock => ?_⟩
      · rw [c2_,h0_]
        by_cases hk:j=k
        · subst hk
          rw [if_pos rfl,if_pos (al_ hy'),if_pos (by omega),hr,e]
        · rw [if_neg hk,hd' k]
          by_cases hk2:k<j
          · rw [if_pos hk2,if_pos (by omega)]
          · rw [if_neg hk2,if_neg (by omega)]
      · have hmd:=br0 hnd x.2.2.1 lock
        unfold da_ at hmm ⊢
        by_cases hl:lock=x.2.2.1
        · rw [if_pos hl] at hmd
          rw [hmd]
          exact .inl rfl
        · rw [if_neg hl] at hmd
          rw [hmd]
          rcases hmm lock with h4 | ⟨h4,h5⟩
          · exact .inl h4
          · refine .inr ⟨h4,λk z hk hz hzl => ?_⟩
            by_cases hkj:k=j
            · subst hkj
              rw [hx] at hz
              cases hz
              exact absurd hzl.symm hl
            · exact h5 k z (by omega) hz hzl
    unfold bh7
    simp only [dlt (al_ hx),a4_,ah_ hx,ah_ hy',a0_,hH,lk_ m3,ay_ (show Sm j by omega)]
    unfold rdB at keep turn
    cases hb:cq_ s.1 x.2.2.2.1 with
    | false=>exact ⟨_,rfl,_,_,rfl,keep (by rw [hb]; simp)⟩
    | true =>
    cases hc:s.2.2.contains x.2.1 with
    | false =>
      refine ⟨_,?_,d',m',rfl,keep (by rw [hc]; simp)⟩
      simp only [a4_,a2_,a0_]
    | true =>
    cases y with
    | true=>exact ⟨_,rfl,_,_,rfl,keep rfl⟩
    | false=>exact ⟨_,rfl,_,_,rfl,turn (by rw [hb,hc]; rfl)⟩
  · obtain ⟨d',m',rfl,hd',hnd,hmm⟩:=hz
    rw [b0_] at hmm ⊢
    unfold bh7
    simp only [dnl,a2_]
    refine ⟨_,rfl,f3_ λk => ?_,hnd,hmm⟩
    rw [hd' k]
    split
    · rfl
    · rw [b3_ (by omega),b3_ (by omega)]
noncomputable def opM (a0:ac_) (d:List Bool) (mm:List ab_) (m:ad_):Option (Bool×(List ab_×Unit)) :=
 (cond (m.2.1==4)
 ((bp_ m.2.2 0 (w64 ((a0.1.2.2.2.2.1.length:Int) - 1))).bind λv4 =>
 (cond v4.1
 ((at? a0.1.2.2.2.2.1 m.2.2).bind λv5 =>
 (cond (decide (v5.2.2.1<0))
 (some ((!true),(mm,())))
 ((cmpX a0 d mm v5.2.2.1).bind λv18 =>
 (some ((!((da_ 0 v18.1 v5.2.2.1)==1)),(v18.1,()))))))
 (some (false,(mm,())))))
 (some (false,(mm,()))))
theorem ND_cmpX {g:ac_} {d:List Bool} {mm m':List ab_} {lock:Int} (h:cmpX g d mm lock=some (m',())) (hn:ND mm):ND m':=by
  unfold cmpX at h
  cases h0:(da_ 0 mm lock:Int)==0 with
  | false =>
    rw [h0] at h
    have h:some (mm,())=some (m',()):=h
    cases h
    exact hn
  | true =>
    rw [h0,a4_] at h
    obtain ⟨v18,_,h⟩:=j5_.1 h
    obtain ⟨v19,_,h⟩:=j5_.1 h
    obtain ⟨v20,_,h⟩:=j5_.1 h
    obtain ⟨v21,_,h⟩:=j5_.1 h
    cases hb:v21.1 with
    | true =>
      rw [hb] at h
      have h:some (hh_ (hh_ mm lock 2) lock 1,())=some (m',()):=h
      cases h
      exact at8 (at8 hn _ _) _ _
    | false =>
      rw [hb] at h
      have h:some (hh_ mm lock 2,())=some (m',()):=h
      cases h
      exact at8 hn _ _
theorem opM_eq {g:ac_} (hg:SmG g) (ok:OkG g) {d:List Bool} (hd:d.length=g.2.2.2.1.length) {mm:List ab_} (hM:Me g d mm) (m:ad_):∃ m',opM g d mm m=some (!(okM g d m),(m',()))∧Me g d m':=by
  have hac:=hg.ac
  unfold opM okM
  cases hk:m.2.1==4 with
  | false=>exact ⟨mm,rfl,hM⟩
  | true =>
  simp only [a4_,hu_,a0_]
  rcases cn_ (l:=g.1.2.2.2.2.1) (by show _≤1000000000; omega) m.2.2 with ⟨f1,f2⟩ | ⟨j,a,hj,ha,f1,f2⟩
  · rw [f1,f2]; exact ⟨mm,rfl,hM⟩
  · rw [f1,f2]
    simp only [a4_,a0_,Option.elim]
    cases hz:decide (a.2.2.1<0) with
    | true =>
      refine ⟨mm,?_,hM⟩
      unfold opn
      rw [hz]
      rfl
    | false =>
    have hz:=c7_ hz
    have hlt:=ok.ac j a ha
    obtain ⟨l,hl⟩:=bc_ (l:=g.2.1) (i:=a.2.2.1.toNat) (by omega)
    have hl2:at? g.2.1 a.2.2.1=some l:=by rw [show a.2.2.1=((a.2.2.1.toNat:Nat):Int) by omega]; exact ah_ hl
    obtain ⟨m',e,k1,k2⟩:=as5 hg ok hd (mm:=mm) (by omega) hl2 (hM.m _ (by omega))
    refine ⟨m',?_,λlock hlock => ?_,ND_cmpX e hM.n⟩
    · rw [e]
      simp only [a2_,a0_,k1]
      cases opn g d a.2.2.1 <;> rfl
    · by_cases h:lock=a.2.2.1
      · rw [h]
        exact .inr k1
      · rw [k2 lock h]
        exact hM.m lock hlock
noncomputable def stM (a0:ac_) (d:List Bool) (mm:List ab_) (s:List Int×(List Int×(List Int×Unit))) (m:ad_):Option (Bool×(List Bool×(List ab_×((List Int×(List Int×(List Int×Unit)))×Unit)))) :=
 ((opM a0 d mm m).bind λv19 =>
 (cond v19.1
 (some ((!false),(d,(v19.2.1,((s.1,(s.2.1,(s.2.2.1,()))),())))))
 ((dz_ a0.1 (s.1,(s.2.1,s.2.2.1)) m).bind λv20 =>
 (cond (v20.2.1 != 0)
 (some ((!false),(d,(v19.2.1,((s.1,(s.2.1,(s.2.2.1,()))),())))))
 ((ag_ (bh7 a0 v20.1) (0,(d,(v19.2.1,())))).bind λv31 =>
 (some ((!true),(v31.1,(v31.2.1,((v20.1.1,(v20.1.2.1,(v20.1.2.2,()))),()))))))))))
abbrev St3:=List Int×(List Int×(List Int×Unit))
abbrev RunS:=Int×(List Bool×(List ab_×((List Int×(List Int×(List Int×(List Bool×Unit))))×(St3×Unit))))
noncomputable def runB (a0:ac_) (a2:List ad_):RunS→Option (RunS⊕((List Bool×(List ab_×((List Int×(List Int×(List Int×(List Bool×Unit))))×(St3×Unit))))⊕(aa_×(Int×(Int×Unit))))):=λv2 =>
 (cond (decide (v2.1<(a2.length:Int)))
 ((at? a2 v2.1).bind λv3 =>
 (((stM a0 v2.2.1 v2.2.2.1 v2.2.2.2.2.1 v3)).bind λv32 =>
 (cond v32.1
 (some (inr (inr ((([],([],[])),[]),(v2.1,(29,()))))))
 (some (inl ((w64 (v2.1+1)),(v32.2.1,(v32.2.2.1,((v2.2.2.2.1.1,(v2.2.2.2.1.2.1,(v2.2.2.2.1.2.2.1,(v2.2.2.2.1.2.2.2.1,())))),((v32.2.2.2.1.1,(v32.2.2.2.1.2.1,(v32.2.2.2.1.2.2.1,()))),()))))))))))
 (some (inr (inl (v2.2.1,(v2.2.2.1,((v2.2.2.2.1.1,(v2.2.2.2.1.2.1,(v2.2.2.2.1.2.2.1,(v2.2.2.2.1.2.2.2.1,())))),((v2.2.2.2.2.1.1,(v2.2.2.2.2.1.2.1,(v2.2.2.2.2.1.2.2.1,()))),()))))))))
noncomputable def runX (a0:ac_) (a1:aa_) (a2:List ad_):Option (aa_×(Int×(Int×Unit))) :=
 ((dh_ a0 a1).bind λv0 =>
 (cond (v0.1 != 0)
 (cond (v0.1 != 0)
 (some ((([],([],[])),[]),(0,(v0.1,()))))
 (cond (decide (500<(a2.length:Int)))
 (some ((([],([],[])),[]),(0,(2,()))))
 none))
 ((push? (α:=Bool) [] a1.2).bind λv1 =>
 (cond (decide (500<(a2.length:Int)))
 (some ((([],([],[])),[]),(0,(2,()))))
 ((ag_ (runB a0 a2) (0,(v1,([],(([],([],([],([],())))),((a1.1.1,(a1.1.2.1,(a1.1.2.2,()))),())))))).bind λv33 =>
 (ca_ v33 (λv34=>((push? (α:=Int) [] v34.2.2.2.1.1).bind λv36 =>
 ((push? (α:=Int) [] v34.2.2.2.1.2.1).bind λv37 =>
 ((push? (α:=Int) [] v34.2.2.2.1.2.2.1).bind λv38 =>
 ((push? (α:=Bool) [] v34.1).bind λv39 =>
 (some (((v36,(v37,v38)),v39),(0,(0,())))))))))
 (λv35=>(some v35))))))))
theorem runX_eq:ju_=runX:=by kernel_rfl
theorem stM_eq {g:ac_} (hg:SmG g) (h0:bt_ g=0) {p q:aa_} (hv:VP g p) {mm:List ab_} (hM:Me g p.2 mm) {m:ad_} (h:stepP g p m=some q) :
    ∃ m',stM g p.2 mm (p.1.1,(p.1.2.1,(p.1.2.2,()))) m=some (!true,(q.2,(m',((q.1.1,(q.1.2.1,(q.1.2.2,()))),()))))∧Me g q.2 m':=by
  have ok:=cd_ h0
  obtain ⟨m1,e1,hM1⟩:=opM_eq hg ok hv.rd hM m
  unfold stepP at h
  cases ho:okM g p.2 m with
  | false=>rw [ho] at h; cases h
  | true =>
  cases hl:lgl g.1 p.1 m with
  | false=>rw [ho,hl] at h; cases h
  | true =>
  rw [ho,hl] at h
  cases hs:ve_ g.1 p.1 m with
  | none=>rw [hs] at h; cases h
  | some s =>
  rw [hs] at h
  have h:some (s,rdN g s p.2)=some q:=h
  obtain rfl:=a6_ h
  have hv2:=qv_ hg.room ok.room hv.st hl hs
  obtain ⟨m',e2,hM2⟩:=pbg_mem hg ok hv2 hv.rd hM1
  refine ⟨m',?_,hM2⟩
  unfold stM
  rw [e1,ho,a0_]
  simp only [d6_,a2_]
  rw [show ((p.1.1,(p.1.2.1,p.1.2.2)):ai_)=p.1 from rfl,vk_ hg.room ok.room hv.st m,a0_,hl,a4_,hs]
  simp only [Option.elim_some,show ((0:Int) != 0)=false from rfl,a2_]
  rw [e2]
  rfl
theorem av6 {g:ac_}:∀ (a b:List ad_) (p:aa_),qb_ g p (a++b)=(qb_ g p a).bind λr=>qb_ g r b
  | [],b,p=>rfl
  | m::a,b,p=>by
    rw [j3_,qb_,qb_]
    cases stepP g p m with
    | none=>rfl
    | some q=>exact av6 a b q
theorem aw5 {g:ac_} (hg:SmG g) (h0:bt_ g=0) {p q:aa_} (hv:VP g p) {ms:List ad_} (hl:ms.length≤500) (h:qb_ g p ms=some q):ju_ g p ms=some (q,(0,(0,()))):=by
  have ok:=cd_ h0
  have hn:=hg.nt
  have hrd:=hv.rd
  rw [runX_eq]
  unfold runX
  rw [qj_ hg h0 hv,a0_]
  simp only [show ((0:Int) != 0)=false from rfl,a2_]
  rw [au_ (show Sm p.2.length by show _≤1000000000; omega),a0_,b9_ (show ¬ ((500:Int)<(ms.length:Int)) by omega),a2_]
  have pre:∀ i,∃ r,qb_ g p (ms.take i)=some r:=λi=>by
    have:=h
    rw [← g8_ i ms,av6] at this
    obtain ⟨r,hr,_⟩:=j5_.1 this
    exact ⟨r,hr⟩
  refine ig_ ms.length (λ(i:Nat) (z:RunS)=>∃ mm r,qb_ g p (ms.take i)=some r∧z=((i:Int),(r.2,(mm,(([],([],([],([],())))),((r.1.1,(r.1.2.1,(r.1.2.2,()))),())))))∧Me g r.2 mm) ⟨[],p,rfl,rfl,λlock _=>.inl rfl,List.nodup_nil⟩ (λi z hi hz => ?_) (λz hz => ?_)
  · obtain ⟨mm,r,hr,rfl,hM⟩:=hz
    obtain ⟨m,hm⟩:=bc_ hi
    obtain ⟨r',hr'⟩:=pre (i+1)
    have hstep:stepP g r m=some r':=by
      rw [d1_,hm] at hr'
      have hr':qb_ g p (ms.take i++[m])=some r':=hr'
      rw [vj_,hr] at hr'
      exact hr'
    obtain ⟨m',e,hM'⟩:=stM_eq hg h0 (qa_ hg h0 _ _ _ hv hr) hM hstep
    refine ⟨_,?_,m',r',hr',rfl,hM'⟩
    unfold runB
    simp only [dlt hi,a4_,ah_ hm,a0_,e,d6_,a2_,ay_ (show Sm i by show _≤1000000000; omega)]
  · obtain ⟨mm,r,hr,rfl,hM⟩:=hz
    rw [d7_,h] at hr
    obtain rfl:=a6_ hr
    have hvq:=qa_ hg h0 _ _ _ hv h
    obtain ⟨m1,m2,m3⟩:=na_ hg.room (bi_ ok.room) hvq.st
    have hrq:=hvq.rd
    refine ⟨_,by unfold runB; simp only [dnl,a2_]; rfl,?_⟩
    show ca_ (inl _) _ _=_
    simp only [ca_]
    rw [au_ m1,a0_,au_ m2,a0_,au_ m3,a0_,au_ (show Sm q.2.length by show _≤1000000000; omega),a0_]
theorem by0 {σ ρ υ:Type} {body:σ→Option (σ⊕ρ)} {K:ρ→Option υ} {x:Option υ} {z0:σ} (I:Nat→σ→Prop) (n:Nat) (h0:I 0 z0)
    (st:∀ j s,j<n→I j s→(∃ s',body s=some (.inl s')∧I (j+1) s')∨∃ r,body s=some (.inr r)∧K r=x) (e:∀ s,I n s→∃ r,body s=some (.inr r)∧K r=x):(ag_ body z0).bind K=x:=by
  obtain ⟨r,h1,h2⟩:=hq_ I (λr=>K r=x) n 0 z0 h0 (λj s _ hj hs=>st j s (by omega) hs) (λs hs=>e s (by rwa [b0_] at hs))
  rw [h1,a0_,h2]
end
section
set_option maxRecDepth 10000
def rowF (act:Int) (i:Int) (row:List ae_):(Int×(List (List Int)×Unit))→Option ((Int×(List (List Int)×Unit))⊕(List (List Int)×Unit)) :=
 (λ(v15:(Int×((List (List Int))×Unit))) =>
 (cond (decide (v15.1<(row.length:Int)))
 ((((at? row v15.1).bind λv16 =>
 (((cond (v16.1.2.1 != 4)
 (some (true,()))
 (some ((v16.1.2.2 != act),())))).bind λv17 =>
 (cond v17.1
 ((at? v15.2.1 v16.2).bind λv18 =>
 ((at? v15.2.1 v16.2).bind λv19 =>
 ((push? (α:=Int) v19 [i]).bind λv20 =>
 ((at? v15.2.1 v16.2).bind λv21 =>
 (cond ((v16.2==v16.2)&&true)
 ((at? v15.2.1 v16.2).bind λv22 =>
 (some ((v15.2.1.set v16.2.toNat v20),())))
 none)))))
 (some (v15.2.1,())))))).bind λv23 =>
 (some (inl ((w64 (v15.1+1)),(v23.1,())))))
 (some (inr (v15.2.1,())))))
theorem kp_if (act:Int) (x:ae_):(cond (x.1.2.1 != 4) (some (true,())) (some ((x.1.2.2 != act),())):Option (Bool×Unit))=some (kp act x,()):=by
  unfold kp
  rw [rx_,rx_]
  cases x.1.2.1==4 <;> rfl
theorem bm2 (act:Int):RowOk (rowF act) (kp act):=by
  refine ⟨λi row k x bk l hx hl h1 h2 => ?_,λi row bk => ?_⟩
  · unfold rowF
    simp only [dlt (al_ hx),a4_,ah_ hx,a0_,kp_if,hl,cb_ (show Sm l.length by show _≤1000000000; omega),d3_,h1_,ay_ (show Sm k by show _≤1000000000; omega)]
    cases kp act x <;> rfl
  · unfold rowF
    simp only [dnl,a2_]
noncomputable def shoA (act:Int) (G:cf_) (v42:List Int×Unit):Option (List ad_×(Bool×(Int×Unit))) :=
 ((at? v42.1 0).bind λv43 =>
 ((at? v42.1 0).bind λv44 =>
 (cond (decide (v44<0))
 (some ([],(false,(0,()))))
 ((ag_ (ρ:=(((List ad_)×Unit)×Unit)) (λ(v45:(Int×(((List ad_)×Unit)×Unit))) =>
 ((at? v42.1 v45.1).bind λv46 =>
 ((at? v42.1 v45.1).bind λv47 =>
 (cond (decide (0<v47))
 ((((at? G.2 v45.1).bind λv48 =>
 ((ag_ (ρ:=(((List Int)×(Unit×(((List ad_)×Unit)×Unit)))⊕((List Int)×(((List ad_)×Unit)×Unit)))) (λ(v49:(Int×((List Int)×(Unit×(((List ad_)×Unit)×Unit))))) =>
 (cond (decide (v49.1<(v48.length:Int)))
 ((at? v48 v49.1).bind λv50 =>
 (((cond (v50.1.2.1 != 4)
 (some (true,()))
 (some ((v50.1.2.2 != act),())))).bind λv51 =>
 (cond v51.1
 ((at? v42.1 v50.2).bind λv52 =>
 ((at? v42.1 v50.2).bind λv53 =>
 ((at? v42.1 v45.1).bind λv54 =>
 ((at? v42.1 v45.1).bind λv55 =>
 (cond (v53==(w64 (v55 - 1)))
 ((at? v42.1 v45.1).bind λv56 =>
 ((at? v42.1 v45.1).bind λv57 =>
 (cond (decide (0<v57))
 ((push? (α:=ad_) v49.2.2.2.1.1 [v50.1]).bind λv58 =>
 ((at? v49.2.1 0).bind λv59 =>
 (some (inr (inr ((v49.2.1.set (0:Int).toNat v50.2),((v58,()),())))))))
 (some (inl ((w64 (v49.1+1)),(v49.2.1,((),((v49.2.2.2.1.1,()),())))))))))
 (some (inl ((w64 (v49.1+1)),(v49.2.1,((),((v49.2.2.2.1.1,()),())))))))))))
 (some (inl ((w64 (v49.1+1)),(v49.2.1,((),((v49.2.2.2.1.1,()),())))))))))
 (some (inr (inl (v49.2.1,((),((v49.2.2.2.1.1,()),())))))))) (0,([v45.1],((),((v45.2.1.1,()),()))))).bind λv60 =>
 (ca_ v60 (λv61=>(some (v61.1,((v61.2.2.1.1,()),()))))
 (λv62=>(some v62)))))).bind λv63 =>
 ((at? v63.1 0).bind λv64 =>
 (some (inl (v64,((v63.2.1.1,()),()))))))
 (some (inr ((v45.2.1.1,()),()))))))) (0,(([],()),()))).bind λv65 =>
 (some (v65.1.1,(true,(0,()))))))))
theorem bz1:id_=λa0 a1=>(ck_ a0).bind λv0=>cond (v0.2.1 != 0) (some ([],(false,(v0.2.1,())))) ((io_ a0 [a1]).bind λv1=>cond (!v1.1) (some ([],(false,(1,())))) (br2 (rowF a1) a0 v0.1 λv42=>shoA a1 v0.1 v42)):=by
  kernel_rfl
theorem ess_eq:fv_=λa0=>(ck_ a0).bind λv0=>cond (v0.2.1 != 0) (cond (v0.2.1 != 0) (some ([],(v0.2.1,()))) ((ag_ (ρ:=((List Int)×Unit)) (λ(v1:((List Int)×(Int×Unit)))=>(cond (decide (v1.2.1<(a0.1.2.2.2.2.1.length:Int))) none (some (inr (v1.1,()))))) ([],(0,()))).bind λv2=>(some (v2.1,(0,()))))) (br2 rowE a0 v0.1 λ_ =>
    (ag_ (ρ:=((List Int)×Unit)) (λ(v43:((List Int)×(Int×Unit)))=>cond (decide (v43.2.1<(a0.1.2.2.2.2.1.length:Int))) ((br2 (rowF v43.2.1) a0 v0.1 λv84=>((at? v84.1 0).bind λv85=>((at? v84.1 0).bind λv86=>(cond (decide (v86<0)) ((push? (α:=Int) v43.1 [v43.2.1]).bind λv87=>(some (v87,()))) (some (v43.1,())))))).bind λv88=>(some (inl (v88.1,((w64 (v43.2.1+1)),()))))) (some (inr (v43.1,())))) ([],(0,()))).bind λv89=>some (v89.1,(0,()))):=by
  kernel_rfl
noncomputable def essQ (g:ac_) (a:Nat):Bool:=decide (gi (dst (esF (a:Int) (exG g).1.2) (pu_ g (exG g).1.1) (exG g).1.1.length) 0<0)
noncomputable def ba9 (g:ac_) (A:Nat):List Int:=((List.range A).filter (essQ g)).map λa:Nat=>(a:Int)
theorem bv6 (g:ac_) (i:Nat):ba9 g (i+1)=cond (essQ g i) (ba9 g i++[(i:Int)]) (ba9 g i):=by
  unfold ba9
  rw [List.range_succ,l6_,i5_]
  cases hq:essQ g i with
  | true=>simp [hq]
  | false=>simp [hq]
theorem ba7 (g:ac_) (A:Nat):(ba9 g A).length≤A:=by
  unfold ba9
  rw [d0_]
  refine c5_ (i6_ ..) ?_
  rw [h9_]
  exact c6_ _
noncomputable def essR (g:ac_):List Int×(Int×Unit):=(cond ((exG g).2.1 != 0) [] (ba9 g g.1.2.2.2.2.1.length),((exG g).2.1,()))
theorem vq_ {g:ac_} (hg:SmG g):fv_ g=some (essR g):=by
  have hac:=hg.ac
  rw [ess_eq]
  unfold essR
  simp only
  rw [mm_ hg,a0_]
  cases hE:(exG g).2.1 != 0 with
  | true=>rfl
  | false =>
  have hE:(exG g).2.1=0:=by simpa using hE
  obtain ⟨h0,hG,hes⟩:=ba6 hg hE
  have hpos:=ae0 hE
  simp only [a2_]
  rw [show (exG g).1=((exG g).1.1,(exG g).1.2) from rfl,aq7 hg h0 hG hes bm3]
  refine ig_ g.1.2.2.2.2.1.length (λ(i:Nat) (z:List Int×(Int×Unit))=>z=(ba9 g i,((i:Int),()))) rfl (λi z hi hz => ?_) (λz hz => ?_)
  · subst hz
    have hl:=ba7 g i
    have hd:=(bb1 hg h0 hG hes (i:Int)).1
    have hat:at? (dst (esF (i:Int) (exG g).1.2) (pu_ g (exG g).1.1) (exG g).1.1.length) 0=some (gi (dst (esF (i:Int) (exG g).1.2) (pu_ g (exG g).1.1) (exG g).1.1.length) 0):=ko_ (by omega) (by omega)
    refine ⟨_,?_,rfl⟩
    simp only [dlt hi,a4_,aq7 hg h0 hG hes (bm2 (i:Int)),cq6,hat,a0_,ay_ (show Sm i by show _≤1000000000; omega),bv6]
    unfold essQ
    cases decide (gi (dst (esF (i:Int) (exG g).1.2) (pu_ g (exG g).1.1) (exG g).1.1.length) 0<0) with
    | true=>simp only [a4_,cb_ (show Sm (ba9 g i).length by show _≤1000000000; omega),a0_]
    | false=>rfl
  · subst hz
    refine ⟨_,by simp only [dnl,a2_]; rfl,?_⟩
    rw [hE]
end
section
set_option maxRecDepth 10000
def bh8 (A:Nat) (act:Int):Bool:=decide (act<0)||decide ((A:Int)≤act)
theorem badA_if (A:Nat) (act:Int):(cond (decide (act<0)) (some (true,())) (some ((decide ((A:Int)≤act)),())):Option (Bool×Unit))=some (bh8 A act,()):=by
  unfold bh8
  cases decide (act<0) <;> rfl
theorem ap9 (g:ac_) (act:Int):io_ g [act]=some (!(bh8 g.1.2.2.2.2.1.length act),()):=by
  unfold io_
  have h:=ng_ (l:=[act]) (by show 1≤1000000000; omega) (bh8 g.1.2.2.2.2.1.length) (body:=λ(v0:(Int×Unit)) =>
 (cond (decide (v0.1<(([act]:List Int).length:Int)))
 ((at? [act] v0.1).bind λv1 =>
 (((cond (decide (v1<0))
 (some (true,()))
 (some ((decide ((g.1.2.2.2.2.1.length:Int)≤v1)),())))).bind λv2 =>
 (cond v2.1
 (some (inr (inr ((decide (0≤v0.1)),()))))
 (some (inl ((w64 (v0.1+1)),()))))))
 (some (inr (inl ()))))) (λi y hy=>by
    simp only [dlt (al_ hy),a4_,ah_ hy,a0_,badA_if]
    cases bh8 g.1.2.2.2.2.1.length y <;> rfl) (by simp only [dnl,a2_])
  refine e2_ (congrArg (λo=>Option.bind o _) h) ?_
  rw [a0_,n3_,List.any_nil,h6_]
theorem shoA_eq {ps:List aa_} {es:List (List ae_)} {fin:Nat→Bool} {D:List Int} {act:Int} (hL:LC (esF act es) fin D) (hD:D.length≤3000) (h1:1≤D.length) (hb:∀ (i:Nat) (v:Int),D[i]?=some v→v≤(D.length:Int)) (hes:es.length=D.length) (hel:∀ l ∈ es,l.length≤480) (hxx:∀ l ∈ es,∀ x ∈ l,0≤x.2∧x.2<(D.length:Int)) :
    shoA act (ps,es) (D,())=some (cond (decide (gi D 0<0)) ([],(false,(0,()))) (shp (esF act es) D (gi D 0).toNat 0,(true,(0,())))):=by
  unfold shoA
  have h0:at? D 0=some (gi D 0):=ko_ (by omega) (by omega)
  simp only [h0,a0_]
  cases hc:decide (gi D 0<0) with
  | true=>rfl
  | false =>
  have hc:=c7_ hc
  have hle:gi D 0≤(D.length:Int):=by
    obtain ⟨i,_,hi⟩:=nh_ h0
    exact hb i _ hi
  simp only [a2_]
  refine zb_ (r:=((shp (esF act es) D (gi D 0).toNat 0,()),())) ?_ rfl
  refine wf_ (F:=λi acc=>(i,((acc,()),()))) (G:=λacc=>((acc,()),())) hL hD (λl hl x hx => ?_) (λi acc h => ?_) (λi k acc row x h hk ha hrow hf => ?_) (gi D 0).toNat 0 [] (by rw [h0]; congr 1; omega) (by show 0+_≤_; omega)
  · obtain ⟨l',h2,rfl⟩:=as2 hl
    exact hxx l' h2 x (c3_.1 hx).1
  · simp only [h,a0_]
    rfl
  · obtain ⟨r0,hr0,rfl⟩:=at_esF hrow
    rw [ql_] at hf
    obtain ⟨jr,_,hj⟩:=nh_ hr0
    have hrl:=hel r0 (ax_ hj)
    simp only [h,a0_,show decide ((0:Int)<((k+1:Nat):Int))=true from b1_ (by omega),a4_,hr0]
    refine e2_ (congrArg (λo=>Option.bind o _) (bm_ r0 (λ_ y=>cond (kp act y&&gi D y.2==(k:Int)) (some (inr ([y.2],((acc++[y.1],()),())):((List Int)×(Unit×(((List ad_)×Unit)×Unit)))⊕((List Int)×(((List ad_)×Unit)×Unit)))) none) (λj=>((j:Int),([i],((),((acc,()),()))))) (r0:=inl ([i],((),((acc,()),())))) (x:=some ([x.2],((acc++[x.1],()),()))) (λj y hy => ?_) ?_ ?_)) ?_
    · obtain ⟨y0,y1⟩:=hxx r0 (ax_ hj) y (ax_ hy)
      have hjl:=al_ hy
      simp only [dlt hjl,a4_,ah_ hy,kp_if,ko_ y0 y1,a0_,show ((k+1:Nat):Int) - 1=(k:Int) by omega,ex_ (n:=(k:Int)) (by omega) (by omega),ay_ (show Sm j by show _≤1000000000; omega),cb_ (show Sm acc.length by show _≤1000000000; omega)]
      cases kp act y <;> cases gi D y.2==(k:Int) <;> rfl
    · simp only [dnl,a2_]
    · rw [sd_,hf]
      rfl
    · rfl
noncomputable def dstA (g:ac_) (act:Int):List Int:=dst (esF act (exG g).1.2) (pu_ g (exG g).1.1) (exG g).1.1.length
noncomputable def cr9 (g:ac_) (act:Int):List ad_×(Bool×(Int×Unit)) :=
  cond ((exG g).2.1 != 0) ([],(false,((exG g).2.1,()))) (cond (bh8 g.1.2.2.2.2.1.length act) ([],(false,(1,()))) (cond (decide (gi (dstA g act) 0<0)) ([],(false,(0,()))) (shp (esF act (exG g).1.2) (dstA g act) (gi (dstA g act) 0).toNat 0,(true,(0,())))))
theorem ai9 {g:ac_} (hg:SmG g) (act:Int):id_ g act=some (cr9 g act):=by
  rw [bz1]
  unfold cr9
  simp only
  rw [mm_ hg,a0_]
  cases hE:(exG g).2.1 != 0 with
  | true=>rfl
  | false =>
  have hE:(exG g).2.1=0:=by simpa using hE
  obtain ⟨h0,hG,hes⟩:=ba6 hg hE
  have hpos:=ae0 hE
  have hn:=hG.pI.n
  obtain ⟨d1,d2⟩:=bb1 hg h0 hG hes act
  have d3:=cr3 hg h0 hG hes act
  simp only [a2_]
  rw [ap9,a0_]
  cases bh8 g.1.2.2.2.2.1.length act with
  | true=>rfl
  | false =>
  simp only [g5_,d6_,a2_]
  rw [show (exG g).1=((exG g).1.1,(exG g).1.2) from rfl,aq7 hg h0 hG hes (bm2 act),cq6]
  exact shoA_eq d2 (by rw [d1]; exact hn) (by rw [d1]; exact hpos) (by rw [d1]; exact d3) (by rw [d1]; exact hes) hG.eL (λl hl x hx=>by rw [d1]; exact (hG.eI l hl x hx).1)
end
section
set_option maxRecDepth 10000

end
section
set_option maxRecDepth 100000
theorem mq_ {g:ac_} (hg:SmG g) (h0:bt_ g=0) {p:aa_} (hv:VP g p):dx_ g p=some (true,()):=by
  unfold dx_ fg_
  rw [qd_ hg,a0_,h0]
  simp only [show ((0:Int) != 0)=false from rfl,a2_]
  rw [nb_ hg.room,a0_]
  have hs:lo_ g.1 p.1=0:=fl_ (cd_ h0).room hv.st
  rw [hs,hv.rd]
  simp only [show ((0:Int) != 0)=false from rfl,l0_,a2_,a0_]
  rfl
theorem ac5 {g:ac_} (hg:SmG g) (h0:bt_ g=0) {p:aa_} (hv:VP g p):ba_ p.1 g.1.2.2.2.2.2.2.2=some (cq_ p.1.1 g.1.2.2.2.2.2.2.2,()):=by
  have hgo:=hg.go
  have hl1:=hv.st.l1
  obtain ⟨c1,c2⟩:=ru_ hg.room.th (bi_ (cd_ h0).room).go
  exact hg_ (s:=p.1) (show Sm _ by show _≤1000000000; omega) (by show InC p.1.1.length _; rw [hl1]; exact c1)
theorem copy_VP {g:ac_} (hg:SmG g) (h0:bt_ g=0) {p:aa_} (hv:VP g p):db_ p=some (p,()):=by
  have hn:=hg.nt
  have hrd:=hv.rd
  obtain ⟨m1,m2,m3⟩:=na_ hg.room (bi_ (cd_ h0).room) hv.st
  unfold db_
  rw [nn_ m1 m2 m3,a0_,au_ (show Sm p.2.length by show _≤1000000000; omega),a0_]
noncomputable def cd6 (g:ac_):List ad_×(Int×Unit) :=
  cond ((exG g).2.1 != 0) ([],((exG g).2.1,())) (cond (decide (gi (dstG g (-1)) 0<0)) ([],(50,())) (shp (exG g).1.2 (dstG g (-1)) (gi (dstG g (-1)) 0).toNat 0,(0,())))
theorem ai8 {g:ac_} (hg:SmG g):dw_ g=some (cd6 g):=by
  obtain ⟨D,h⟩:=vp_ hg
  unfold cd6
  rcases h with ⟨h1,h2⟩ | ⟨h1,h2,h3,h4⟩
  · rw [h2,show ((exG g).2.1 != 0)=true from o6_.2 h1]
    rfl
  · have hG:=cq5 hg h1
    have:dstG g (-1)=D:=by
      unfold dstG
      rw [hG.al]
      exact bb2 h2 h3
    rw [h4,this,h1]
    rfl
def isA (act:Int) (m:ad_):Bool:=m.2.1==4&&m.2.2==act
abbrev fn (g:ac_) (q:aa_):Bool:=cq_ q.1.1 g.1.2.2.2.2.2.2.2
structure Sh (g:ac_) (act:Int) (s:List ad_×(Int×Unit)) (a:List ad_×(Bool×(Int×Unit))) (nd:Bool):Prop where
  se:s.2.1=0∨s.2.1=50
  sr:∃ q,qb_ g (lq_ g).1 s.1=some q∧(s.2.1=0→fn g q=true)
  sl:s.1.length≤200
  sb:∀ ms q,qb_ g (lq_ g).1 ms=some q→fn g q=true→s.2.1=0∧s.1.length≤ms.length
  ae:a.2.2.1=0→a.2.1 = !nd
  ar:a.2.2.1=0→a.2.1=true→∃ q,qb_ g (lq_ g).1 a.1=some q∧fn g q=true∧∀ m ∈ a.1,isA act m=false
  al:a.1.length≤200
  nb:nd=true→∀ ms q,qb_ g (lq_ g).1 ms=some q→fn g q=true→ms.any (isA act)=true
theorem Gr.run_all {g:ac_} (h:Gr g) {i:Nat} {p q:aa_} (hp:(exG g).1.1[i]?=some p) {ms:List ad_} (hr:qb_ g p ms=some q) (hq:fn g q=true):∃ k:Nat,(dstG g (-1))[i]?=some (k:Int)∧k≤ms.length:=by
  obtain ⟨xs,j,h1,h2,h3⟩:=bl7 h.h0 h.ge h.gI.pI h.len ms i p q hp hr
  obtain ⟨k,k1,k2⟩:=LC_pa (h.dc (-1)) xs i j (by rw [h.al]; exact h1) (by rw [wu_ h3]; exact hq) (by rw [h.dl]; exact al_ h3)
  exact ⟨k,k1,by rw [← h2,d0_]; exact k2⟩
theorem ba8 (g:ac_) (N:Nat) (act:Int):(ba9 g N).any (λv=>v==act)=true↔∃ a:Nat,act=(a:Int)∧a<N∧essQ g a=true:=by
  unfold ba9
  rw [j4_]
  constructor
  · rintro ⟨v,hv,h⟩
    obtain ⟨a,ha,rfl⟩:=d9_.1 hv
    obtain ⟨h1,h2⟩:=c3_.1 ha
    exact ⟨a,(f2_.1 h).symm,by simpa using h1,h2⟩
  · rintro ⟨a,rfl,h1,h2⟩
    exact ⟨(a:Int),d9_.2 ⟨a,c3_.2 ⟨by simpa using h1,h2⟩,rfl⟩,d3_ _⟩
theorem sh_all {g:ac_} (hN:NotLarge g) (he:(lq_ g).2.1=0) (act:Int):Sh g act (cd6 g) (cr9 g act) ((ba9 g g.1.2.2.2.2.1.length).any λv=>v==act):=by
  have hG:=hN.gr he
  have hE:=hN.ok he
  have hn:=hN.n hG.h0
  have hdA:dstA g act=dstG g act:=rfl
  have at1:=hG.at0 (-1)
  have atA:=hG.at0 act
  have b1:=hG.db (-1) 0 _ at1
  have bA:=hG.db act 0 _ atA
  have nat0:∀ d:Int,¬ d<0→((d.toNat:Nat):Int)=d:=λd h=>by omega
  have hbest:(gi (dstG g (-1)) 0<0∧cd6 g=([],(50,())))∨(¬ gi (dstG g (-1)) 0<0∧cd6 g=(shp (exG g).1.2 (dstG g (-1)) (gi (dstG g (-1)) 0).toNat 0,(0,()))):=by
    unfold cd6
    rw [hE]
    simp only [show ((0:Int) != 0)=false from rfl,a2_]
    by_cases h:gi (dstG g (-1)) 0<0
    · exact .inl ⟨h,by rw [b1_ h]; rfl⟩
    · exact .inr ⟨h,by rw [b9_ h]; rfl⟩
  have hS:(cd6 g).2.1=0∨(cd6 g).2.1=50:=by
    rcases hbest with ⟨_,h⟩ | ⟨_,h⟩
    · exact .inr (by rw [h])
    · exact .inl (by rw [h])
  have hway:¬ gi (dstG g (-1)) 0<0→∃ q,qb_ g (lq_ g).1 (shp (exG g).1.2 (dstG g (-1)) (gi (dstG g (-1)) 0).toNat 0)=some q∧fn g q=true∧(shp (exG g).1.2 (dstG g (-1)) (gi (dstG g (-1)) 0).toNat 0).length=(gi (dstG g (-1)) 0).toNat:=λh=>by
    obtain ⟨q,q1,q2,q3,_⟩:=hG.way (-1) (i:=0) (k:=(gi (dstG g (-1)) 0).toNat) (by rw [nat0 _ h]; exact at1) hG.p0
    rw [hG.al] at q1 q3
    exact ⟨q,q1,q2,q3⟩
  have haro:(bh8 g.1.2.2.2.2.1.length act=true∧cr9 g act=([],(false,(1,()))))∨(bh8 g.1.2.2.2.2.1.length act=false∧((gi (dstG g act) 0<0∧cr9 g act=([],(false,(0,()))))∨(¬ gi (dstG g act) 0<0∧cr9 g act=(shp (esF act (exG g).1.2) (dstG g act) (gi (dstG g act) 0).toNat 0,(true,(0,())))))):=by
    unfold cr9
    rw [hE,hdA]
    simp only [show ((0:Int) != 0)=false from rfl,a2_]
    cases bh8 g.1.2.2.2.2.1.length act with
    | true=>exact .inl ⟨rfl,rfl⟩
    | false =>
      refine .inr ⟨rfl,?_⟩
      by_cases h:gi (dstG g act) 0<0
      · exact .inl ⟨h,by rw [b1_ h]; rfl⟩
      · exact .inr ⟨h,by rw [b9_ h]; rfl⟩
  have hnd:bh8 g.1.2.2.2.2.1.length act=false→((ba9 g g.1.2.2.2.2.1.length).any λv=>v==act)=decide (gi (dstG g act) 0<0):=λhb=>by
    unfold bh8 at hb
    rw [c1_] at hb
    have b1:=c7_ hb.1
    have b2:=c7_ hb.2
    obtain ⟨a,rfl⟩:=l4_ (show 0≤act by omega)
    rw [i7_,ba8,g2_]
    constructor
    · rintro ⟨a',e,_,h⟩
      obtain rfl:a=a':=by omega
      exact g1_ h
    · intro h
      exact ⟨a,rfl,by omega,b1_ h⟩
  have hwayA:¬ gi (dstG g act) 0<0→∃ q,qb_ g (lq_ g).1 (shp (esF act (exG g).1.2) (dstG g act) (gi (dstG g act) 0).toNat 0)=some q∧fn g q=true∧(shp (esF act (exG g).1.2) (dstG g act) (gi (dstG g act) 0).toNat 0).length=(gi (dstG g act) 0).toNat∧∀ m ∈ shp (esF act (exG g).1.2) (dstG g act) (gi (dstG g act) 0).toNat 0,isA act m=false:=λh =>
    hG.way act (i:=0) (k:=(gi (dstG g act) 0).toNat) (by rw [nat0 _ h]; exact atA) hG.p0
  refine ⟨hS,?_,?_,λms q hr hq => ?_,λh => ?_,λh1 h2 => ?_,?_,λhnd2 ms q hr hq => ?_⟩
  · rcases hbest with ⟨_,h⟩ | ⟨h1,h⟩
    · exact ⟨(lq_ g).1,by rw [h]; rfl,λe=>by rw [h] at e; cases e⟩
    · obtain ⟨q,q1,q2,_⟩:=hway h1
      exact ⟨q,by rw [h]; exact q1,λ_=>q2⟩
  · rcases hbest with ⟨_,h⟩ | ⟨h1,h⟩
    · rw [h]; exact l7_ _
    · obtain ⟨q,_,_,q3⟩:=hway h1
      rw [h,q3]
      omega
  · obtain ⟨k,k1,k2⟩:=hG.run_all hG.p0 hr hq
    rw [at1] at k1
    have k1:=a6_ k1
    rcases hbest with ⟨h1,h⟩ | ⟨h1,h⟩
    · omega
    · obtain ⟨q,_,_,q3⟩:=hway h1
      rw [h]
      exact ⟨rfl,by rw [q3]; omega⟩
  · rcases haro with ⟨_,e⟩ | ⟨hb,⟨h1,e⟩ | ⟨h1,e⟩⟩
    · rw [e] at h; cases h
    · rw [e,hnd hb,b1_ h1]; rfl
    · rw [e,hnd hb,b9_ h1]; rfl
  · rcases haro with ⟨_,e⟩ | ⟨hb,⟨h3,e⟩ | ⟨h3,e⟩⟩
    · rw [e] at h2; cases h2
    · rw [e] at h2; cases h2
    · obtain ⟨q,q1,q2,_,q4⟩:=hwayA h3
      rw [e]
      exact ⟨q,q1,q2,q4⟩
  · rcases haro with ⟨_,e⟩ | ⟨hb,⟨h3,e⟩ | ⟨h3,e⟩⟩
    · rw [e]; exact l7_ _
    · rw [e]; exact l7_ _
    · obtain ⟨q,_,_,q3,_⟩:=hwayA h3
      rw [e,q3]
      omega
  · cases ha:ms.any (isA act) with
    | true=>rfl
    | false =>
      obtain ⟨k,k1,_⟩:=hG.run_dst act hG.p0 hr hq (λm hm=>gn_ ha m hm)
      rw [atA] at k1
      have k1:=a6_ k1
      obtain ⟨a,rfl,_,h3⟩:=(ba8 g _ act).1 hnd2
      have:gi (dstG g (a:Int)) 0<0:=g1_ h3
      omega
end
section
set_option maxRecDepth 100000
theorem ch7 {α:Type} (L:List α) (d:α→Bool) (hL:L.length≤1000000) {υ:Type} {body:(Bool×(Int×Unit))→Option ((Bool×(Int×Unit))⊕(Bool×Unit))} {K:(Bool×Unit)→Option υ} {x:Option υ}
    (h:∀ (j:Nat) z acc,L[j]?=some z→body (acc,((j:Int),()))=some (.inl (acc||d z,(w64 ((j:Int)+1),())))) (e:∀ acc,body (acc,((L.length:Int),()))=some (.inr (acc,()))) (hk:K (L.any d,())=x):(ag_ body (false,(0,()))).bind K=x:=by
  refine lj_ L.length (λj=>((L.take j).any d,((j:Int),()))) rfl (λj hj => ?_) (by rw [d7_]; exact e _) hk
  obtain ⟨z,hz⟩:=bc_ hj
  rw [h j z _ hz,ay_ (show Sm j by show _≤1000000000; omega),d1_,hz]
  simp
theorem law05_ProveShortest (g:ac_) (l:List ad_) (act:Int):fj_ g l act=some (true,()):=by
  obtain ⟨b,e,hb⟩:=ak0 g
  unfold fj_
  rw [e,a0_]
  cases b with
  | true=>simp only [a4_,gs_,a0_]
  | false =>
  have hN:=hb rfl
  have hg:=hN.sm
  cases hl:decide (30<(l.length:Int)) with
  | true=>simp only [a4_,a2_,gs_,a0_]
  | false =>
  have hl:=c7_ hl
  simp only [a2_,a0_]
  rw [bf3 hg,a0_,vt_ hg,a0_]
  cases hbe:(lq_ g).2.1 != 0 with
  | true=>simp only [a4_,gs_,a0_]
  | false =>
  have he:(lq_ g).2.1=0:=by simpa using hbe
  obtain ⟨h0,hv0⟩:=xl_ hg he
  have hS:=sh_all hN he act
  have hE:=hN.ok he
  have hes:(essR g).2.1=0:=hE
  have hes1:(essR g).1=ba9 g g.1.2.2.2.2.1.length:=by
    show cond _ _ _=_
    rw [hE]
    rfl
  have hel:(essR g).1.length≤1000000:=by
    have:=ba7 g g.1.2.2.2.2.1.length
    have:=hg.ac
    rw [hes1]
    omega
  rw [← hes1] at hS
  simp only [a2_]
  rw [mq_ hg h0 hv0,a0_]
  simp only [d6_,a2_]
  rw [ai8 hg,a0_,ai9 hg act,a0_,vq_ hg,a0_]
  generalize cd6 g=s at *
  generalize cr9 g act=a at *
  generalize essR g=t at *
  rw [hes]
  obtain ⟨q1,r1,f1⟩:=hS.sr
  have hvq:=qa_ hg h0 _ _ _ hv0 r1
  have hsl:=hS.sl
  have hal:=hS.al
  have e50:(cond (s.2.1 != 0) (some ((s.2.1 != 50),())) (some (false,())):Option (Bool×Unit))=some (false,()):=by
    rcases hS.se with h | h <;> rw [h] <;> rfl
  simp only [show ((0:Int) != 0)=false from rfl,a2_]
  rw [e50,a0_]
  simp only [a2_]
  rw [copy_VP hg h0 hv0,a0_,au_ (show Sm s.1.length by show _≤1000000000; omega),a0_,aw5 hg h0 hv0 (by omega) r1,a0_]
  simp only [show ((0:Int) != 0)=false from rfl,a2_]
  rw [mq_ hg h0 hvq,a0_]
  simp only [d6_,a2_]
  rw [ac5 hg h0 hvq,a0_]
  have e16:(cond (s.2.1==0) (some ((!fn g q1),())) (some (false,())):Option (Bool×Unit))=some (false,()):=by
    rcases hS.se with h | h
    · rw [f1 h,h]; rfl
    · rw [h]; rfl
  rw [e16,a0_]
  simp only [a2_]
  refine ch7 t.1 (λv=>v==act) hel (λj z acc hz => ?_) (λacc=>by simp only [dnl,a2_]) ?_
  · simp only [dlt (al_ hz),a4_,ah_ hz,a0_]
    cases acc <;> rfl
  generalize hnd:(t.1.any λv=>v==act)=nd at *
  have e21:(cond (a.2.2.1==0) (some ((a.2.1==nd),())) (some (false,())):Option (Bool×Unit))=some (false,()):=by
    cases h:a.2.2.1==0 with
    | false=>rfl
    | true =>
      rw [hS.ae (f2_.1 h)]
      cases nd <;> rfl
  simp only
  rw [e21,a0_]
  simp only [a2_]
  have e22:(cond (a.2.2.1==0) (some (a.2.1,())) (some (false,())):Option (Bool×Unit))=some ((a.2.2.1==0)&&a.2.1,()):=by
    cases a.2.2.1==0 <;> rfl
  rw [e22,a0_]
  have mid:∀ {K:(Unit⊕(Bool×Unit))→Option (Bool×Unit)},K (inl ())=some (true,()) →
      ((cond ((a.2.2.1==0)&&a.2.1) ((some ((lq_ g).1,())).bind λv23 =>
 ((push? (α:=ad_) [] a.1).bind λv24 =>
 ((ju_ g v23.1 v24).bind λv25 =>
 (((cond (v25.2.2.1 != 0)
 (some (true,()))
 ((dx_ g v25.1).bind λv26 =>
 (cond (!v26.1)
 (some (true,()))
 ((ba_ v25.1.1 g.1.2.2.2.2.2.2.2).bind λv27 =>
 (cond (!v27.1)
 (some (true,()))
 (some ((decide ((a.1.length:Int)<(s.1.length:Int))),())))))))).bind λv28 =>
 (cond v28.1
 (some (inr (false,())))
 ((ag_ (ρ:=(Unit⊕(Unit⊕(Bool×Unit)))) (λ(v29:(Int×Unit)) =>
 (cond (decide (v29.1<(a.1.length:Int)))
 ((((at? a.1 v29.1).bind λv30 =>
 (cond (v30.2.1==4)
 ((at? a.1 v29.1).bind λv31 =>
 (some ((v31.2.2==act),())))
 (some (false,()))))).bind λv32 =>
 (cond v32.1
 (some (inr (inr (inr (false,())))))
 (some (inl ((w64 (v29.1+1)),())))))
 (some (inr (inl ()))))) (0,())).bind λv33 =>
 (ca_ v33 (λv34=>(some (inl ())))
 (λv35=>(some v35)))))))))
 (some (inl ()))).bind K)=some (true,()):=by
    intro K hK
    cases hc:(a.2.2.1==0)&&a.2.1 with
    | false=>exact hK
    | true =>
      rw [a1_] at hc
      have c1:=f2_.1 hc.1
      obtain ⟨q2,r2,f2,n2⟩:=hS.ar c1 hc.2
      have hv2:=qa_ hg h0 _ _ _ hv0 r2
      obtain ⟨_,lb⟩:=hS.sb _ _ r2 f2
      rw [a4_,a0_,au_ (show Sm a.1.length by show _≤1000000000; omega),a0_,aw5 hg h0 hv0 (by omega) r2,a0_]
      simp only [show ((0:Int) != 0)=false from rfl,a2_]
      rw [mq_ hg h0 hv2,a0_]
      simp only [d6_,a2_]
      rw [ac5 hg h0 hv2,a0_,show cq_ q2.1.1 g.1.2.2.2.2.2.2.2=true from f2,b9_ (show ¬ ((a.1.length:Int)<(s.1.length:Int)) by omega)]
      simp only [d6_,a2_,a0_]
      have hw:((ag_ (ρ:=(Unit⊕(Unit⊕(Bool×Unit)))) (λ(v29:(Int×Unit)) =>
 (cond (decide (v29.1<(a.1.length:Int)))
 ((((at? a.1 v29.1).bind λv30 =>
 (cond (v30.2.1==4)
 ((at? a.1 v29.1).bind λv31 =>
 (some ((v31.2.2==act),())))
 (some (false,()))))).bind λv32 =>
 (cond v32.1
 (some (inr (inr (inr (false,())))))
 (some (inl ((w64 (v29.1+1)),())))))
 (some (inr (inl ()))))) (0,())).bind λv33 =>
 (ca_ v33 (λv34=>(some (inl ())))
 (fun v35 => (some v35)))) = some (inl () : Unit ⊕ (Bool × Unit)) := by
        refine lj_ a.1.length (λj=>((j:Int),())) rfl (λj hj => ?_) (by simp only [dnl,a2_]; rfl) rfl
        obtain ⟨m,hm⟩:=bc_ hj
        have hmA:=n2 m (ax_ hm)
        unfold isA at hmA
        simp only [dlt hj,a4_,ah_ hm,a0_]
        rw [ay_ (show Sm j by show _≤1000000000; omega)]
        cases h4:m.2.1==4 with
        | false=>rfl
        | true =>
          rw [h4,c0_] at hmA
          rw [hmA]
          rfl
      rw [hw]
      exact hK
  refine mid ?_
  simp only [ca_]
  refine by0 (λn (z:Bool×(Int×(((List Int)×((List Int)×((List Int)×((List Bool)×Unit))))×Unit)))=>∃ p,qb_ g (lq_ g).1 (l.take n)=some p∧z=((l.take n).any (isA act),((n:Int),((p.1.1,(p.1.2.1,(p.1.2.2,(p.2,())))),())))) l.length ⟨(lq_ g).1,rfl,rfl⟩ (λn z h2 hz => ?_) (λz hz => ?_)
  · obtain ⟨p,hp,rfl⟩:=hz
    have hvp:=qa_ hg h0 _ _ _ hv0 hp
    obtain ⟨m,hm⟩:=bc_ (l:=l) (i:=n) (by omega)
    have htk:(l.take n).length=n:=by rw [c9_]; omega
    simp only [b1_ (show (n:Int)≤(l.length:Int) by omega),a4_]
    rw [show ((p.1.1,(p.1.2.1,p.1.2.2)):ai_)=p.1 from rfl,ac5 hg h0 hvp,a0_]
    cases hf:cq_ p.1.1 g.1.2.2.2.2.2.2.2 with
    | true =>
      obtain ⟨s0,sl⟩:=hS.sb _ _ hp hf
      rw [htk] at sl
      refine .inr ?_
      simp only [a4_]
      rw [s0,b1_ (show (s.1.length:Int)≤(n:Int) by omega),gs_]
      cases hnd2:nd with
      | false=>exact ⟨_,rfl,rfl⟩
      | true =>
        rw [hS.nb hnd2 _ _ hp hf]
        exact ⟨_,rfl,rfl⟩
    | false =>
      have hne:((n:Int)==(l.length:Int))=false:=o7_ (by omega)
      simp only [a2_,hne,ah_ hm,a0_]
      rw [show (((p.1,p.2)):aa_)=p from rfl,aj1 hg h0 hvp,a0_]
      cases hs:stepP g p m with
      | none =>
        refine .inr ?_
        simp only [Option.elim_none,show ((29:Int) != 0)=true from rfl,a4_,gs_,a0_]
        exact ⟨_,rfl,rfl⟩
      | some q =>
        have hvq:=qw_ hg h0 hvp hs
        refine .inl ?_
        simp only [Option.elim_some,show ((0:Int) != 0)=false from rfl,a2_]
        rw [mq_ hg h0 hvq,a0_]
        simp only [d6_,a2_]
        have htk2:l.take (n+1)=l.take n++[m]:=by rw [d1_,hm]; rfl
        refine ⟨((l.take (n+1)).any (isA act),(((n+1:Nat):Int),((q.1.1,(q.1.2.1,(q.1.2.2,(q.2,())))),()))),?_,q,by rw [htk2,vj_,hp]; exact hs,rfl⟩
        rw [htk2,List.any_append,n3_,List.any_nil,h6_,ay_ (show Sm n by show _≤1000000000; omega)]
        unfold isA
        cases (l.take n).any (λm=>m.2.1==4&&m.2.2==act) with
        | true=>rfl
        | false=>cases m.2.1==4 <;> rfl
  · obtain ⟨p,hp,rfl⟩:=hz
    rw [d7_] at hp ⊢
    have hvp:=qa_ hg h0 _ _ _ hv0 hp
    simp only [b1_ (show (l.length:Int)≤(l.length:Int) by omega),a4_]
    rw [show ((p.1.1,(p.1.2.1,p.1.2.2)):ai_)=p.1 from rfl,ac5 hg h0 hvp,a0_]
    cases hf:cq_ p.1.1 g.1.2.2.2.2.2.2.2 with
    | true =>
      obtain ⟨s0,sl⟩:=hS.sb _ _ hp hf
      simp only [a4_]
      rw [s0,b1_ (show (s.1.length:Int)≤(l.length:Int) by omega),gs_]
      cases hnd2:nd with
      | false=>exact ⟨_,rfl,rfl⟩
      | true =>
        rw [hS.nb hnd2 _ _ hp hf]
        exact ⟨_,rfl,rfl⟩
    | false =>
      simp only [a2_,d3_,a4_]
      exact ⟨_,rfl,by simp only [ca_,gs_,a0_]⟩
end
end Go.Proofs.YtdibamopklkilaaGreatDoor.Rx
