/- A part of the proof: what the functions of the program compute, shown over the model. -/
import Derived.KernelRfl
import Derived.Test.YtdibamopklkilaaGreatDoorPart5
set_option linter.unusedSectionVars false
set_option linter.unusedVariables false
set_option linter.unusedSimpArgs false
namespace Go.Proofs.YtdibamopklkilaaGreatDoor.Rx
open Go Pad Rex Sum
section
set_option maxRecDepth 10000
def Pa (es:List (List ae_)):Nat→List ae_→Nat→Prop
  | i,[],j=>i=j
  | i,x::xs,j=>∃ row,es[i]?=some row∧x ∈ row∧∃ n:Nat,x.2=(n:Int)∧Pa es n xs j
theorem vv_ {es:List (List ae_)} {act:Int}:∀ (xs:List ae_) (i j:Nat),Pa (esF act es) i xs j→Pa es i xs j∧∀ x ∈ xs,kp act x=true
  | [],i,j,h=>⟨h,λx hx=>by simp at hx⟩
  | x::xs,i,j,h=>by
    obtain ⟨row,h1,h2,n,h3,h4⟩:=h
    obtain ⟨g1,g2⟩:=vv_ xs n j h4
    have h1':(es[i]?).map (λl=>l.filter (kp act))=some row:=by
      rw [← h1]
      unfold esF
      rw [d7_]
    cases hr:es[i]? with
    | none=>rw [hr] at h1'; cases h1'
    | some r0 =>
      rw [hr] at h1'
      obtain rfl:r0.filter (kp act)=row:=a6_ h1'
      obtain ⟨m1,m2⟩:=d0_.1 h2
      refine ⟨⟨r0,hr,m1,n,h3,g1⟩,λy hy => ?_⟩
      rcases e0_.1 hy with rfl | hy
      · exact m2
      · exact g2 y hy
theorem co2 {es:List (List ae_)} {fin:Nat→Bool} {D:List Int} (hL:LC es fin D) (hxx:∀ l ∈ es,∀ x ∈ l,0≤x.2∧x.2<(D.length:Int)):∀ (k i:Nat),D[i]?=some (k:Int)→∃ xs j,Pa es i xs j∧shp es D k (i:Int)=xs.map (·.1)∧fin j=true∧j<D.length∧xs.length=k
  | 0,i,h=>⟨[],i,rfl,rfl,(hL.z i 0 h).1 rfl,(a3_.1 h).1,rfl⟩
  | k+1,i,h=>by
    obtain ⟨l,x,hl,hx,hat⟩:=hL.dn i k h
    have hatl:at? es (i:Int)=some l:=ah_ hl
    cases hf:l.find? (λx=>gi D x.2==(k:Int)) with
    | none =>
      have:=o1_.1 hf x hx
      rw [ma_ hat] at this
      simp at this
    | some y =>
      have hy:gi D y.2=(k:Int):=by
        have:=List.find?_some hf
        exact f3_.1 this
      have hyl:=m9_ hf
      obtain ⟨y0,y1⟩:=hxx l (ax_ hl) y hyl
      have haty:at? D y.2=some (k:Int):=by rw [ne_ y0 y1,hy]
      obtain ⟨n,hn,hn2⟩:=rx_ haty
      obtain ⟨xs,j,g1,g2,g3,g4,g5⟩:=co2 hL hxx k n hn2
      refine ⟨y::xs,j,⟨l,hl,hyl,n,hn,g1⟩,?_,g3,g4,by rw [c4_,g5]⟩
      rw [shp,hatl,f4_,hf,f9_]
      show y.1::shp es D k y.2=_
      rw [hn,g2]
theorem cq6 {q:ac_→Bool} {i k:Int}:∀ (n:Nat) (l:List ac_),(∀ m ∈ l,m ∈ mvK q i k n l)∧∀ j:Nat,j<n→q (i,(k,(j:Int)))=true→(i,(k,(j:Int))) ∈ mvK q i k n l
  | 0,l=>⟨λm h=>h,λj h=>by omega⟩
  | n+1,l=>by
    obtain ⟨h1,h2⟩:=cq6 n l
    unfold mvK
    cases hq:q (i,(k,(n:Int))) with
    | false =>
      refine ⟨h1,λj hj hqj => ?_⟩
      by_cases e:j=n
      · subst e; rw [hq] at hqj; cases hqj
      · exact h2 j (by omega) hqj
    | true =>
      refine ⟨λm hm=>by simp [h1 m hm],λj hj hqj => ?_⟩
      by_cases e:j=n
      · subst e; simp
      · have:=h2 j (by omega) hqj
        simp [this]
theorem cq7 {q:ac_→Bool} {i:Int} {c:Nat→Nat}:∀ (K:Nat) (l:List ac_),(∀ m ∈ l,m ∈ mvJ q i c K l)∧∀ k j:Nat,k<K→j<c k→q (i,((k:Int),(j:Int)))=true→(i,((k:Int),(j:Int))) ∈ mvJ q i c K l
  | 0,l=>⟨λm h=>h,λk j h=>by omega⟩
  | K+1,l=>by
    obtain ⟨h1,h2⟩:=cq7 (q:=q) (i:=i) (c:=c) K l
    unfold mvJ
    obtain ⟨h3,h4⟩:=cq6 (q:=q) (i:=i) (k:=(K:Int)) (c K) (mvJ q i c K l)
    refine ⟨λm hm=>h3 m (h1 m hm),λk j hk hj hq => ?_⟩
    by_cases e:k=K
    · subst e; exact h4 j hj hq
    · exact h3 _ (h2 k j (by omega) hj hq)
theorem cq4 {q:ac_→Bool} {c:Nat→Nat}:∀ (n:Nat) (i k j:Nat),i<n→k<5→j<c k→q ((i:Int),((k:Int),(j:Int)))=true→((i:Int),((k:Int),(j:Int))) ∈ mvs q c n
  | 0,i,k,j,h,_,_,_=>by omega
  | n+1,i,k,j,h,hk,hj,hq=>by
    unfold mvs
    obtain ⟨h3,h4⟩:=cq7 (q:=q) (i:=(n:Int)) (c:=c) 5 (mvs q c n)
    by_cases e:i=n
    · subst e; exact h4 k j hk hj hq
    · exact h3 _ (cq4 n i k j (by omega) hk hj hq)
theorem bz6 {α:Type} {l:List α} {x:Int} (h:x<0):at? l x=none:=by
  cases hx:at? l x with
  | none=>rfl
  | some v =>
    obtain ⟨i,rfl,_⟩:=rx_ hx
    omega
theorem lgl_neg {r:af_} {s:ai_} {i k j:Int} (h:lgl r s (i,(k,j))=true):0≤j:=by
  by_cases hj:0≤j
  · exact hj
  · exfalso
    have hj:j<0:=by omega
    unfold lgl at h
    rw [a1_] at h
    have h:=h.2
    simp only [bz6 hj,Option.elim_none] at h
    revert h
    cases (k==1) <;> cases (k==2) <;> cases (k==3) <;> cases (k==4) <;> exact λh=>by cases h
theorem cj5 {r:af_} {s:ai_} {i k j:Int} (h:lgl r s (i,(k,j))=true):∃ n:Nat,k=(n:Int)∧n<5:=by
  unfold lgl at h
  rw [a1_] at h
  have h:=h.2
  simp only at h
  by_cases h1:k=1
  · exact ⟨1,h1,by omega⟩
  by_cases h2:k=2
  · exact ⟨2,h2,by omega⟩
  by_cases h3:k=3
  · exact ⟨3,h3,by omega⟩
  by_cases h4:k=4
  · exact ⟨4,h4,by omega⟩
  rw [show (k==1)=false from m2_ h1,show (k==2)=false from m2_ h2,show (k==3)=false from m2_ h3,show (k==4)=false from m2_ h4] at h
  cases h
theorem lgl_who {r:af_} {s:ai_} {i k j:Int} (h:lgl r s (i,(k,j))=true) (hs:s.2.2.length≤1000000):∃ n:Nat,i=(n:Int)∧n<s.2.2.length:=by
  unfold lgl at h
  rw [a1_] at h
  have h:=h.1
  have h0:wi i 0 (w64 ((s.2.2.length:Int) - 1))=true:=h
  unfold wi at h0
  rw [et_ (n:=(s.2.2.length:Int) - 1) (by omega) (by omega)] at h0
  simp only [a1_,decide_eq_true_eq] at h0
  obtain ⟨n,rfl⟩:=m0_ h0.1
  exact ⟨n,rfl,by omega⟩
theorem lmv_all {r:af_} (ok:OkR r) {s:ai_} (hv:VS r s) {m:ac_} (h:lgl r s m=true):m ∈ lmv r s:=by
  obtain ⟨i,k,j⟩:=m
  have h3:=hv.l3
  have hpy:=ok.py
  unfold wi at hpy
  simp only [a1_,decide_eq_true_eq] at hpy
  obtain ⟨n,rfl,hn⟩:=lgl_who h (by omega)
  obtain ⟨c,rfl,hc⟩:=cj5 h
  obtain ⟨b,rfl⟩:=m0_ (lgl_neg h)
  unfold lmv
  refine cq4 _ n c b (by omega) hc ?_ h
  by_cases hb:b<am9 r c
  · exact hb
  · rw [bs8 hv (n:Int) hc (by omega)] at h
    cases h
theorem pmv_all {g:ad_} (h0:bw_ g=0) {p q:aa_} (hv:VP g p) {m:ac_} (h:stepP g p m=some q):m ∈ pmv g p:=by
  unfold pmv
  refine d0_.2 ⟨lmv_all (bj_ (ch_ h0).room) hv.st ?_,by rw [h]; rfl⟩
  unfold stepP at h
  cases hc:okM g p.2 m&&lgl g.1 p.1 m with
  | true=>exact (a1_ _ _ ▸ hc).2
  | false=>rw [hc] at h; cases h
def RowI (g:ad_) (p:aa_) (ps:List aa_) (row:List ae_):Prop:=∀ x ∈ row,∃ q n,stepP g p x.1=some q∧x.2=((n:Nat):Int)∧ps[n]?=some q
theorem xo_ {g:ad_} {p:aa_} {ps ps':List aa_} {row:List ae_} (h:RowI g p ps row) (hp:∀ (n:Nat) q,ps[n]?=some q→ps'[n]?=some q):RowI g p ps' row:=λx hx=>by
  obtain ⟨q,n,h1,h2,h3⟩:=h x hx
  exact ⟨q,n,h1,h2,hp n q h3⟩
theorem ac7 {g:ad_} {p:aa_}:∀ (ms:List ac_) (e e':List ae_) (ps ps':List aa_),(∀ m ∈ ms,∃ q,stepP g p m=some q)→RowI g p ps e→inn g p ms e ps=some (e',ps') →
    RowI g p ps' e'∧e'.map (·.1)=e.map (·.1)++ms∧∀ (n:Nat) q,ps[n]?=some q→ps'[n]?=some q
  | [],e,e',ps,ps',hm,hr,h=>by
    unfold inn at h
    cases h
    exact ⟨hr,by simp,λn q h=>h⟩
  | m::ms,e,e',ps,ps',hm,hr,h=>by
    obtain ⟨q,hq⟩:=hm m (by simp)
    unfold inn at h
    rw [hq,f4_] at h
    cases hw:wh ps q with
    | some n =>
      rw [hw] at h
      have hn:=bj0 hw
      obtain ⟨h1,h2,h3⟩:=ac7 ms _ e' ps ps' (λx hx=>hm x (by simp [hx])) (λx hx=>by
        rcases b6_.1 hx with hx | hx
        · exact hr x hx
        · simp at hx; subst hx; exact ⟨q,n,hq,rfl,hn⟩) h
      exact ⟨h1,by rw [h2]; simp,h3⟩
    | none =>
      rw [hw] at h
      simp only at h
      by_cases hl:ps.length=3000
      · rw [if_pos hl] at h; cases h
      · rw [if_neg hl] at h
        have hp:∀ (n:Nat) z,ps[n]?=some z→(ps++[q])[n]?=some z:=λn z hz=>by
          rw [b2_ (a3_.1 hz).1]
          exact hz
        obtain ⟨h1,h2,h3⟩:=ac7 ms _ e' _ ps' (λx hx=>hm x (by simp [hx])) (λx hx=>by
          rcases b6_.1 hx with hx | hx
          · exact xo_ hr hp x hx
          · simp at hx; subst hx; exact ⟨q,ps.length,hq,rfl,by simp⟩) h
        exact ⟨h1,by rw [h2]; simp,λn z hz=>h3 n z (hp n z hz)⟩
def GE (g:ad_) (ps:List aa_) (es:List (List ae_)):Prop:=∀ (i:Nat) row,es[i]?=some row→∃ p,ps[i]?=some p∧row.map (·.1)=pmv g p∧RowI g p ps row
theorem bp3 {g:ad_}:∀ (n i:Nat) (ps ps':List aa_) (es es':List (List ae_)),es.length=i→GE g ps es→out g n i ps es=some (ps',es')→GE g ps' es'∧∀ (k:Nat) q,ps[k]?=some q→ps'[k]?=some q
  | 0,i,ps,ps',es,es',hl,hG,h=>by
    unfold out at h
    cases h
    exact ⟨hG,λk q h=>h⟩
  | n+1,i,ps,ps',es,es',hl,hG,h=>by
    unfold out at h
    cases hp:ps[i]? with
    | none =>
      rw [hp] at h
      cases h
      exact ⟨hG,λk q h=>h⟩
    | some p =>
      rw [hp] at h
      simp only at h
      cases hi:inn g p (pmv g p) [] ps with
      | none=>rw [hi] at h; cases h
      | some z =>
        obtain ⟨e,ps1⟩:=z
        rw [hi] at h
        simp only at h
        obtain ⟨h1,h2,h3⟩:=ac7 (pmv g p) [] e ps ps1 (λm hm=>mk_ hm) (λx hx=>by simp at hx) hi
        have hG1:GE g ps1 (es++[e]):=λj row hj=>by
          by_cases hjl:j<es.length
          · rw [b2_ hjl] at hj
            obtain ⟨p',g1,g2,g3⟩:=hG j row hj
            exact ⟨p',h3 j p' g1,g2,xo_ g3 h3⟩
          · have hj':j=es.length:=by
              have:=(a3_.1 hj).1
              rw [a8_,c6_] at this
              omega
            subst hj'
            rw [c9_ (c3_ _),k0_] at hj
            obtain rfl:e=row:=a6_ hj
            exact ⟨p,h3 _ p (by rw [hl]; exact hp),by rw [h2]; simp,h1⟩
        obtain ⟨k1,k2⟩:=bp3 n (i+1) ps1 ps' (es++[e]) es' (by rw [a8_,c6_,hl]) hG1 h
        exact ⟨k1,λk q hq=>k2 k q (h3 k q hq)⟩
theorem exG_GE {g:ad_} (he:(exG g).2.1=0):GE g (exG g).1.1 (exG g).1.2∧(exG g).1.1[0]?=some (po_ g).1∧(po_ g).2.1=0:=by
  unfold exG at he ⊢
  cases hb:(po_ g).2.1 != 0 with
  | true =>
    rw [hb] at he
    have he:(po_ g).2.1=0:=he
    rw [he] at hb
    cases hb
  | false =>
    rw [hb] at he
    simp only [a2_] at he ⊢
    cases ho:out g 3001 0 [(po_ g).1] [] with
    | none=>rw [ho] at he; cases he
    | some z =>
      obtain ⟨ps,es⟩:=z
      obtain ⟨h1,h2⟩:=bp3 3001 0 _ ps [] es rfl (λi row h=>by simp at h) ho
      exact ⟨h1,h2 0 _ rfl,by simpa using hb⟩
noncomputable def xv_ (g:ad_):aa_→List ac_→Option aa_
  | p,[]=>some p
  | p,m::ms=>(stepP g p m).bind λq=>xv_ g q ms
theorem bp1 {g:ad_} {ps:List aa_} {es:List (List ae_)} (hG:GE g ps es):∀ (xs:List ae_) (i j:Nat) (p:aa_),Pa es i xs j→ps[i]?=some p→∃ q,xv_ g p (xs.map (·.1))=some q∧ps[j]?=some q
  | [],i,j,p,h,hp=>by
    obtain rfl:i=j:=h
    exact ⟨p,rfl,hp⟩
  | x::xs,i,j,p,h,hp=>by
    obtain ⟨row,h1,h2,n,h3,h4⟩:=h
    obtain ⟨p',g1,g2,g3⟩:=hG i row h1
    rw [hp] at g1
    obtain rfl:=a6_ g1
    obtain ⟨q,n',k1,k2,k3⟩:=g3 x h2
    obtain rfl:n'=n:=by rw [h3] at k2; omega
    obtain ⟨q',r1,r2⟩:=bp1 hG xs n' j q h4 k3
    refine ⟨q',?_,r2⟩
    rw [f9_,xv_,k1]
    exact r1
theorem bl1 {g:ad_} (h0:bw_ g=0) {ps:List aa_} {es:List (List ae_)} (hE:GE g ps es) (hP:PI g ps) (hl:es.length=ps.length) {i:Nat} {p q:aa_} (hp:ps[i]?=some p) {m:ac_} (h:stepP g p m=some q) :
    ∃ (row:List ae_) (n:Nat),es[i]?=some row∧(m,(n:Int)) ∈ row∧ps[n]?=some q:=by
  have hm:=pmv_all h0 (hP.v p (ax_ hp)) h
  obtain ⟨row,hr⟩:=az_ (l:=es) (i:=i) (by have:=al_ hp; omega)
  obtain ⟨p',g1,g2,g3⟩:=hE i row hr
  rw [hp] at g1
  obtain rfl:=a6_ g1
  rw [← g2] at hm
  obtain ⟨x,hx,rfl⟩:=d9_.1 hm
  obtain ⟨q',n,k1,k2,k3⟩:=g3 x hx
  rw [h] at k1
  obtain rfl:=a6_ k1
  refine ⟨row,n,hr,?_,k3⟩
  rw [← k2]
  exact hx
theorem aa0 {g:ad_} (hg:SmG g) (h0:bw_ g=0):∀ (ms:List ac_) (p q:aa_),VP g p→xv_ g p ms=some q→VP g q
  | [],p,q,hv,h=>by
    obtain rfl:=a6_ (show some p=some q from h)
    exact hv
  | m::ms,p,q,hv,h=>by
    rw [xv_] at h
    cases hs:stepP g p m with
    | none=>rw [hs] at h; cases h
    | some p1 =>
      rw [hs,a0_] at h
      exact aa0 hg h0 ms p1 q (qs_ hg h0 hv hs) h
theorem ai3 {g:ad_}:∀ (ms:List ac_) (m:ac_) (p:aa_),xv_ g p (ms++[m])=(xv_ g p ms).bind λq=>stepP g q m
  | [],m,p=>by
    show ((stepP g p m).bind λq=>xv_ g q [])=stepP g p m
    cases stepP g p m <;> rfl
  | a::ms,m,p=>by
    rw [i7_,xv_,xv_]
    cases stepP g p a with
    | none=>rfl
    | some q=>exact ai3 ms m q
section
variable {g:ad_} (hg:SmG g) (he:(exG g).2.1=0)
noncomputable def dstG (g:ad_) (act:Int):List Int:=dst (esF act (exG g).1.2) (qm_ g (exG g).1.1) (exG g).1.1.length
structure Gr (g:ad_):Prop where
  h0:bw_ g=0
  gI:GI g (exG g).1.1 (exG g).1.2
  ge:GE g (exG g).1.1 (exG g).1.2
  len:(exG g).1.2.length=(exG g).1.1.length
  n:(exG g).1.1.length≤3000
  pos:1≤(exG g).1.1.length
  p0:(exG g).1.1[0]?=some (po_ g).1
  e0:(po_ g).2.1=0
  dl:∀ act,(dstG g act).length=(exG g).1.1.length
  dc:∀ act,LC (esF act (exG g).1.2) (qm_ g (exG g).1.1) (dstG g act)
  db:∀ act (i:Nat) (v:Int),(dstG g act)[i]?=some v→v≤((exG g).1.1.length:Int)
  xx:∀ l ∈ (exG g).1.2,∀ x ∈ l,0≤x.2∧x.2<((exG g).1.1.length:Int)
  al:esF (-1) (exG g).1.2=(exG g).1.2
include hg he
theorem bb3:Gr g:=by
  obtain ⟨h0,hG,hes⟩:=cs5 hg he
  obtain ⟨k1,k2,k3⟩:=exG_GE he
  exact ⟨h0,hG,k1,hes,hG.pI.n,bw6 he,k2,k3,λact=>(ct1 hg h0 hG hes act).1,λact=>(ct1 hg h0 hG hes act).2,λact=>dst_le hg h0 hG hes act,λl hl x hx=>(hG.eI l hl x hx).1,esF_all λl hl x hx=>(hG.eI l hl x hx).2⟩
end
theorem Gr.xxF {g:ad_} (h:Gr g) (act:Int):∀ l ∈ esF act (exG g).1.2,∀ x ∈ l,0≤x.2∧x.2<((dstG g act).length:Int):=λl hl x hx=>by
  obtain ⟨l',h2,rfl⟩:=bw8 hl
  rw [h.dl]
  exact h.xx l' h2 x (d0_.1 hx).1
theorem Gr.way {g:ad_} (h:Gr g) (act:Int) {i k:Nat} (hd:(dstG g act)[i]?=some (k:Int)) {p:aa_} (hp:(exG g).1.1[i]?=some p):∃ q,xv_ g p (shp (esF act (exG g).1.2) (dstG g act) k (i:Int))=some q∧cx_ q.1.1 g.1.2.2.2.2.2.2.2=true ∧
    (shp (esF act (exG g).1.2) (dstG g act) k (i:Int)).length=k∧∀ m ∈ shp (esF act (exG g).1.2) (dstG g act) k (i:Int),(m.2.1==4&&m.2.2==act)=false:=by
  obtain ⟨xs,j,h1,h2,h3,h4,h5⟩:=co2 (h.dc act) (h.xxF act) k i hd
  obtain ⟨g1,g2⟩:=vv_ xs i j h1
  obtain ⟨q,g3,g4⟩:=bp1 h.ge xs i j p g1 hp
  refine ⟨q,by rw [h2]; exact g3,?_,by rw [h2,d4_,h5],λm hm => ?_⟩
  · rw [← ae1 g4]
    exact h3
  · rw [h2] at hm
    obtain ⟨x,hx,rfl⟩:=d9_.1 hm
    have:=g2 x hx
    unfold kp at this
    cases hk:(x.1.2.1==4&&x.1.2.2==act) with
    | true=>rw [hk] at this; cases this
    | false=>rfl
end
section
set_option maxRecDepth 100000
def G0:cf_:=([(([0,0],([0],[0])),[true,true,false]),(([1,0],([0],[0])),[true,true,false]),(([1,0],([-2],[0])),[true,true,false]),(([1,1],([-1],[0])),[true,true,false]),(([1,1],([-1],[1])),[true,true,true]),(([1,1],([-1],[0])),[true,true,true])],
  [[((0,(4,0)),1)],[((0,(2,0)),2),((0,(4,0)),1)],[((0,(3,0)),1),((0,(4,0)),2),((0,(4,1)),3)],[((0,(1,0)),4),((0,(4,0)),3)],[((0,(1,0)),5)],[((0,(1,0)),4),((0,(4,0)),5)]])
def D0:List Int:=[3,2,1,0,0,0]
theorem exG_g0:exG g0=(G0,(0,())):=by kernel_rfl
theorem SmG_g0:SmG g0:=by
  refine ⟨⟨?_,?_,?_,?_,?_,?_,?_,?_,?_,?_,?_,?_,?_⟩,?_,?_,?_,?_,?_,?_,?_,?_,?_⟩ <;> decide
def chkD (es:List (List ae_)) (fin:Nat→Bool) (D:List Int):Bool :=
  (List.range D.length).all λi=>match D[i]? with
    | none=>false
    | some v=>decide (-1≤v)&&((v==0)==fin i)&&match es[i]? with
      | none=>false
      | some l=>(decide (v≤0)||l.any (λx=>at? D x.2==some (v - 1)))&&l.all λx=>match at? D x.2 with
        | none=>true
        | some k=>decide (k<0)||(decide (0≤v)&&decide (v≤k+1))
theorem af5 {es:List (List ae_)} {fin:Nat→Bool} {D:List Int} (h:chkD es fin D=true) {i:Nat} {v:Int} (hv:D[i]?=some v) :
    -1≤v∧((v==0)=fin i)∧∃ l,es[i]?=some l∧(v≤0∨∃ x ∈ l,at? D x.2=some (v - 1))∧∀ x ∈ l,∀ k,at? D x.2=some k→k<0∨(0≤v∧v≤k+1):=by
  have:=e9_.1 h i (m8_.2 (al_ hv))
  simp only [hv] at this
  rw [a1_,a1_,g8_,f3_] at this
  obtain ⟨⟨h1,h2⟩,h3⟩:=this
  refine ⟨h1,h2,?_⟩
  cases hl:es[i]? with
  | none=>rw [hl] at h3; cases h3
  | some l =>
    simp only [hl] at h3
    rw [a1_,c8_,g8_,k6_,e9_] at h3
    refine ⟨l,rfl,h3.1.imp id λ⟨x,hx,e⟩=>⟨x,hx,f3_.1 e⟩,λx hx k hk => ?_⟩
    have:=h3.2 x hx
    simp only [hk] at this
    rw [c8_,a1_,g8_,g8_,g8_] at this
    exact this
theorem chkD_LC {es:List (List ae_)} {fin:Nat→Bool} {D:List Int} (hes:es.length=D.length) (h:chkD es fin D=true):LC es fin D:=by
  refine ⟨λi v hv=>(af5 h hv).1,λi v hv => ?_,λi k hk => ?_,λi l x k hl hx hat => ?_⟩
  · rw [← (af5 h hv).2.1,f3_]
  · obtain ⟨_,_,l,hl,h1,_⟩:=af5 h hk
    rcases h1 with h1 | ⟨x,hx,e⟩
    · omega
    · refine ⟨l,x,hl,hx,?_⟩
      rw [e]
      congr 1
      omega
  · obtain ⟨v,hv⟩:=az_ (l:=D) (i:=i) (by have:=al_ hl; omega)
    obtain ⟨_,_,l',hl',_,h2⟩:=af5 h hv
    rw [hl] at hl'
    obtain rfl:=a6_ hl'
    rcases h2 x hx k hat with h3 | h3
    · omega
    · exact ⟨v,hv,h3⟩
theorem chk_g0:chkD G0.2 (qm_ g0 G0.1) D0=true:=by kernel_rfl
theorem cm9:fs_ g0=some ([(0,(4,0)),(0,(2,0)),(0,(4,1))],(0,())):=by
  obtain ⟨D,h⟩:=ar0 SmG_g0
  rw [exG_g0] at h
  rcases h with ⟨h,_⟩ | ⟨_,h1,h2,h3⟩
  · exact absurd rfl h
  · have hD:D=D0:=cb1 h2 (chkD_LC rfl chk_g0) h1
    have e:((cond (decide (gi D0 0<0)) ([],(50,())) (shp G0.2 D0 (gi D0 0).toNat 0,(0,()))):List ac_×(Int×Unit))=([(0,(4,0)),(0,(2,0)),(0,(4,1))],(0,())):=by kernel_rfl
    rw [h3,hD]
    exact congrArg some e
theorem kc_:ft_=some (true,()):=by
  unfold ft_
  refine e6_ (congrArg (λo=>Option.bind o _) cm9) ?_
  kernel_rfl
end
section
set_option maxRecDepth 10000
theorem exG_err {g:ad_} (h:(po_ g).2.1=0):(exG g).2.1=0∨(exG g).2.1=2:=by
  unfold exG
  rw [h]
  simp only [show ((0:Int) != 0)=false from rfl,a2_]
  cases out g 3001 0 [(po_ g).1] [] with
  | none=>exact .inr rfl
  | some z=>exact .inl rfl
structure NotLarge (g:ad_):Prop where
  sm:SmG g
  one:bw_ g=0→(exG g).2.1≠2
  n:bw_ g=0→(exG g).1.1.length≤200
theorem ak9 (g:ad_):∃ b,jk_ g=some (b,())∧(b=false→NotLarge g):=by
  obtain ⟨b,e,hb⟩:=bt1 g
  unfold jk_
  rw [e,a0_]
  cases b with
  | true=>exact ⟨true,by simp only [a4_,a0_],λh=>by cases h⟩
  | false =>
  have hg:=hb rfl
  simp only [a2_]
  rw [pz_ hg,a0_,a0_]
  cases hc:bw_ g != 0 with
  | true=>exact ⟨false,by simp only [a4_,a0_],λ_=>⟨hg,λh=>(by rw [h] at hc; cases hc),λh=>(by rw [h] at hc; cases hc)⟩⟩
  | false =>
  simp only [a2_]
  have key:∀ c:Bool,∃ b,(((some (c,()):Option (Bool×Unit))).bind λv4 =>
 (cond v4.1
 (some (true,()))
 ((ea_ g).bind λv5 =>
 (cond (v5.2.1==2)
 (some (true,()))
 (some ((decide (200<(v5.1.1.length:Int))),()))))))=some (b,())∧(b=false→NotLarge g):=λc=>by
    rw [a0_,qy_ hg,a0_]
    cases c with
    | true=>exact ⟨true,rfl,λh=>by cases h⟩
    | false =>
      cases hE:(exG g).2.1==2 with
      | true=>exact ⟨true,by simp only [a2_,hE,a4_],λh=>by cases h⟩
      | false=>exact ⟨_,by simp only [a2_,hE]; rfl,λh=>⟨hg,(λ_ e=>by rw [e] at hE; cases hE),(λ_=>by have:=d1_ h; omega)⟩⟩
  have one:∀ (c:Bool) (o:Option (Bool×Unit)),(∃ d,o=some (d,()))→∃ d,cond c (some (true,())) o=some (d,()):=λc o h=>by
    cases c with
    | true=>exact ⟨true,rfl⟩
    | false=>exact h
  obtain ⟨d,hd⟩:=one (decide (4<(g.1.1.length:Int))) _ (one (decide (4<(g.1.2.1.length:Int))) _ (one (decide (3<(g.1.2.2.1.length:Int))) _ (one (decide (2<g.1.2.2.2.2.2.2.1)) _ (one (decide (6<(g.1.2.2.2.2.1.length:Int))) _ (one (decide (4<(g.1.2.2.2.2.2.1.length:Int))) _ (one (decide (5<(g.2.2.2.1.length:Int))) _ ⟨decide (3<(g.2.1.length:Int)),rfl⟩))))))
  rw [hd]
  exact key d
theorem NotLarge.ok {g:ad_} (h:NotLarge g) (he:(po_ g).2.1=0):(exG g).2.1=0:=by
  obtain ⟨h0,_⟩:=xm_ h.sm he
  rcases exG_err he with h1 | h1
  · exact h1
  · exact absurd h1 (h.one h0)
def Pto (row:List ae_) (t:Nat):Prop:=∃ x ∈ row,x.2=(t:Int)
theorem wi_ {g:ad_} {p:aa_}:∀ (ms:List ac_) (e e':List ae_) (ps ps':List aa_),inn g p ms e ps=some (e',ps') →
    ps.length≤ps'.length∧(∀ x ∈ e,x ∈ e')∧∀ t:Nat,ps.length≤t→t<ps'.length→Pto e' t
  | [],e,e',ps,ps',h=>by
    unfold inn at h
    cases h
    exact ⟨c3_ _,λx hx=>hx,λt h1 h2=>by omega⟩
  | m::ms,e,e',ps,ps',h=>by
    unfold inn at h
    cases hw:wh ps ((stepP g p m).getD eP) with
    | some n =>
      rw [hw] at h
      obtain ⟨h1,h2,h3⟩:=wi_ ms _ e' ps ps' h
      exact ⟨h1,λx hx=>h2 x (i6_ _ hx),h3⟩
    | none =>
      rw [hw] at h
      simp only at h
      by_cases hl:ps.length=3000
      · rw [if_pos hl] at h; cases h
      · rw [if_neg hl] at h
        obtain ⟨h1,h2,h3⟩:=wi_ ms _ e' _ ps' h
        rw [a8_,c6_] at h1 h3
        refine ⟨by omega,λx hx=>h2 x (i6_ _ hx),λt g1 g2 => ?_⟩
        by_cases e0:t=ps.length
        · subst e0
          exact ⟨(m,(ps.length:Int)),h2 _ (by simp),rfl⟩
        · exact h3 t (by omega) g2
def FE (es:List (List ae_)) (n:Nat):Prop:=∀ t:Nat,0<t→t<n→∃ i row,i<t∧es[i]?=some row∧Pto row t∧∀ j r,j<i→es[j]?=some r→¬ Pto r t
theorem cp8 {g:ad_}:∀ (n i:Nat) (ps ps':List aa_) (es es':List (List ae_)),es.length=i→i≤ps.length→(∀ row ∈ es,∀ t,Pto row t→t<ps.length)→GE g ps es→FE es ps.length→out g n i ps es=some (ps',es')→FE es' ps'.length
  | 0,i,ps,ps',es,es',hl,hi,hx,hE,hF,h=>by
    unfold out at h
    cases h
    exact hF
  | n+1,i,ps,ps',es,es',hl,hi,hx,hE,hF,h=>by
    unfold out at h
    cases hp:ps[i]? with
    | none =>
      rw [hp] at h
      cases h
      exact hF
    | some p =>
      rw [hp] at h
      simp only at h
      have hip:=al_ hp
      cases hz:inn g p (pmv g p) [] ps with
      | none=>rw [hz] at h; cases h
      | some z =>
        obtain ⟨e,ps1⟩:=z
        rw [hz] at h
        simp only at h
        obtain ⟨h1,_,h3⟩:=wi_ (pmv g p) [] e ps ps1 hz
        obtain ⟨r1,r2,r3⟩:=ac7 (pmv g p) [] e ps ps1 (λm hm=>mk_ hm) (λx hx=>by simp at hx) hz
        have hE1:GE g ps1 (es++[e]):=λj row hj=>by
          by_cases hjl:j<es.length
          · rw [b2_ hjl] at hj
            obtain ⟨p',g1,g2,g3⟩:=hE j row hj
            exact ⟨p',r3 j p' g1,g2,xo_ g3 r3⟩
          · have hj':j=es.length:=by
              have:=al_ hj
              rw [a8_,c6_] at this
              omega
            subst hj'
            rw [c9_ (c3_ _),k0_] at hj
            obtain rfl:e=row:=a6_ hj
            exact ⟨p,r3 _ p (by rw [hl]; exact hp),by rw [r2]; simp,r1⟩
        refine cp8 n (i+1) ps1 ps' (es++[e]) es' (by rw [a8_,c6_,hl]) (by omega) (λrow hr t ht => ?_) hE1 (λt t0 t1 => ?_) h
        · rcases b6_.1 hr with hr | hr
          · have:=hx row hr t ht
            omega
          · simp at hr
            subst hr
            obtain ⟨x,hx1,hx2⟩:=ht
            obtain ⟨q,k,_,k2,k3⟩:=r1 x hx1
            have:=al_ k3
            omega
        · by_cases ht:t<ps.length
          · obtain ⟨j,row,g1,g2,g3,g4⟩:=hF t t0 ht
            have hjl:=al_ g2
            refine ⟨j,row,g1,by rw [b2_ hjl]; exact g2,g3,λj' r hj hr => ?_⟩
            rw [b2_ (by omega)] at hr
            exact g4 j' r hj hr
          · refine ⟨i,e,by omega,by rw [c9_ (by omega),hl,k0_]; rfl,h3 t (by omega) t1,λj r hj hr hp2 => ?_⟩
            rw [b2_ (by omega)] at hr
            exact ht (hx r (ax_ hr) t hp2)
theorem bw7 {g:ad_} (he:(exG g).2.1=0):FE (exG g).1.2 (exG g).1.1.length:=by
  unfold exG at he ⊢
  cases hb:(po_ g).2.1 != 0 with
  | true =>
    rw [hb] at he
    have he:(po_ g).2.1=0:=he
    rw [he] at hb
    cases hb
  | false =>
    rw [hb] at he
    simp only [a2_] at he ⊢
    cases ho:out g 3001 0 [(po_ g).1] [] with
    | none=>rw [ho] at he; cases he
    | some z =>
      obtain ⟨ps,es⟩:=z
      exact cp8 3001 0 _ ps [] es rfl (by simp) (λrow h=>by simp at h) (λi row h=>by simp at h) (λt h1 h2=>by simp at h2; omega) ho
end
section
set_option maxRecDepth 10000
def flE:Nat→List (List ae_)→List (Nat×ae_)
  | _,[]=>[]
  | i,r::rs=>r.map (λx=>(i,x))++flE (i+1) rs
theorem wu_:∀ (a b:List (List ae_)) (i:Nat),flE i (a++b)=flE i a++flE (i+a.length) b
  | [],b,i=>rfl
  | r::a,b,i=>by
    rw [i7_,flE,flE,wu_ a b (i+1),b3_,c4_,show i+1+a.length=i+(a.length+1) by omega]
theorem ro_ {es:List (List ae_)} {i:Nat} {row:List ae_} (h:es[i]?=some row):flE 0 (es.take (i+1))=flE 0 (es.take i)++row.map (λx=>(i,x)):=by
  rw [d2_,h,wu_,b0_,c7_,p3_ (by have:=al_ h; omega)]
  show _++(_++[])=_
  rw [e1_]
theorem bw3:∀ {es:List (List ae_)} {i:Nat} {z:Nat×ae_},z ∈ flE i es→∃ k row,z.1=i+k∧es[k]?=some row∧z.2 ∈ row
  | [],i,z,h=>by simp [flE] at h
  | r::es,i,z,h=>by
    rw [flE] at h
    rcases b6_.1 h with h | h
    · obtain ⟨x,hx,rfl⟩:=d9_.1 h
      exact ⟨0,r,rfl,rfl,hx⟩
    · obtain ⟨k,row,h1,h2,h3⟩:=bw3 h
      exact ⟨k+1,row,by omega,h2,h3⟩
def toB (t:Nat) (z:Nat×ae_):Bool:=z.2.2==(t:Int)
def cp6 (es:List (List ae_)) (t:Nat):Option (Nat×ae_):=(flE 0 es).find? (toB t)
theorem pd_ {α:Type} (p:α→Bool) (a b:List α):(a++b).find? p=(a.find? p).or (b.find? p):=List.find?_append
theorem lu_ {es:List (List ae_)} {n t:Nat} (hF:FE es n) (h0:0<t) (hn:t<n):∃ i row x,i<t∧es[i]?=some row∧x ∈ row∧x.2=(t:Int)∧cp6 es t=some (i,x)∧(flE 0 (es.take i)).find? (toB t)=none∧row.find? (λx=>x.2==(t:Int))=some x:=by
  obtain ⟨i,row,h1,h2,⟨y,hy,hy2⟩,h4⟩:=hF t h0 hn
  have hpre:(flE 0 (es.take i)).find? (toB t)=none:=by
    rw [o1_]
    intro z hz hb
    obtain ⟨k,r,g1,g2,g3⟩:=bw3 hz
    have hk:=al_ g2
    rw [c7_] at hk
    rw [q0_ (by omega)] at g2
    exact h4 k r (by omega) g2 ⟨z.2,g3,f3_.1 hb⟩
  cases hf:row.find? (λx=>x.2==(t:Int)) with
  | none =>
    have:=o1_.1 hf y hy
    rw [hy2] at this
    simp at this
  | some x =>
    have hx:=m9_ hf
    have hx1:=List.find?_some hf
    have hx2:x.2=(t:Int):=f3_.1 hx1
    refine ⟨i,row,x,h1,h2,hx,hx2,?_,hpre,hf⟩
    unfold cp6
    have hsplit:es=es.take (i+1)++es.drop (i+1):=(f5_ _ _).symm
    rw [hsplit,wu_,pd_,ro_ h2,pd_,hpre,Option.none_or,List.find?_map]
    have:(λx=>x.2==(t:Int))=toB t ∘ λx=>(i,x):=rfl
    rw [← this,hf]
    rfl
def wyF (es:List (List ae_)):Nat→Nat→List ac_
  | 0,_=>[]
  | f+1,t=>match t with
    | 0=>[]
    | t+1=>match cp6 es (t+1) with
      | none=>[]
      | some z=>wyF es f z.1++[z.2.1]
theorem au7 {es:List (List ae_)} {n:Nat} (hF:FE es n):∀ (f f' t:Nat),t<n→t≤f→t≤f'→wyF es f t=wyF es f' t
  | 0,0,t,_,_,_=>rfl
  | 0,f'+1,t,_,h,_=>by
    obtain rfl:t=0:=by omega
    rfl
  | f+1,0,t,_,_,h=>by
    obtain rfl:t=0:=by omega
    rfl
  | f+1,f'+1,0,_,_,_=>rfl
  | f+1,f'+1,t+1,hn,h,h'=>by
    obtain ⟨i,row,x,h1,_,_,_,h5,_⟩:=lu_ hF (o8_ t) hn
    have h5:cp6 es (t+1)=some (i,x):=h5
    unfold wyF
    simp only [h5]
    rw [au7 hF f f' i (by omega) (by omega) (by omega)]
def way (es:List (List ae_)) (t:Nat):List ac_:=wyF es t t
theorem cd2 (es:List (List ae_)):way es 0=[]:=rfl
theorem ug_ {es:List (List ae_)} {n t i:Nat} {x:ae_} (hF:FE es n) (h0:0<t) (hn:t<n) (hp:cp6 es t=some (i,x)):way es t=way es i++[x.1]:=by
  obtain ⟨i',row,x',h1,_,_,_,h5,_⟩:=lu_ hF h0 hn
  rw [hp] at h5
  cases h5
  cases t with
  | zero=>omega
  | succ t =>
    unfold way
    rw [wyF,hp]
    simp only
    rw [au7 hF t i i (by omega) (by omega) (c3_ _)]
theorem zk_ {es:List (List ae_)} {n:Nat} (hF:FE es n):∀ (k t:Nat),t<n→t≤k→(way es t).length≤t
  | k,0,_,_=>c3_ _
  | 0,t+1,_,h=>by omega
  | k+1,t+1,hn,h=>by
    obtain ⟨i,row,x,h1,_,_,_,h5,_⟩:=lu_ hF (o8_ t) hn
    rw [ug_ hF (o8_ t) hn h5,a8_,c6_]
    have:=zk_ hF k i (by omega) (by omega)
    omega
theorem bp0 {es:List (List ae_)} {x:ae_} {j:Nat} {row:List ae_} (hx:x ∈ row) (hj:x.2=(j:Int)):∀ (ys:List ae_) (a b:Nat),Pa es a ys b→es[b]?=some row→Pa es a (ys++[x]) j
  | [],a,b,h,hb=>by
    obtain rfl:a=b:=h
    exact ⟨row,hb,hx,j,hj,rfl⟩
  | y::ys,a,b,h,hb=>by
    obtain ⟨r,g1,g2,c,g3,g4⟩:=h
    exact ⟨r,g1,g2,c,g3,bp0 hx hj ys c b g4 hb⟩
theorem cn6 {es:List (List ae_)} {n:Nat} (hF:FE es n):∀ (k t:Nat),t<n→t≤k→∃ xs,Pa es 0 xs t∧xs.map (·.1)=way es t
  | k,0,_,_=>⟨[],rfl,rfl⟩
  | 0,t+1,_,h=>by omega
  | k+1,t+1,hn,h=>by
    obtain ⟨i,row,x,h1,h2,h3,h4,h5,_⟩:=lu_ hF (o8_ t) hn
    obtain ⟨xs,g1,g2⟩:=cn6 hF k i (by omega) (by omega)
    refine ⟨xs++[x],bp0 h3 h4 xs 0 i g1 h2,?_⟩
    rw [h6_,g2,ug_ hF (o8_ t) hn h5]
    rfl
def rvK {α:Type} (l:List α) (k:Nat):List α:=(List.range l.length).filterMap λx=>if x<k∨l.length - k≤x then l[l.length - 1 - x]? else l[x]?
theorem px_ {α:Type} {l:List α} {k x:Nat} (hx:x<l.length):(rvK l k)[x]?=if x<k∨l.length - k≤x then l[l.length - 1 - x]? else l[x]?:=by
  have gen:∀ (n:Nat) (f:Nat→Option α),(∀ y,y<n→(f y).isSome=true)→∀ x,x<n→((List.range n).filterMap f)[x]?=f x:=by
    intro n
    induction n with
    | zero=>intro f _ x h; omega
    | succ n ih =>
      intro f hf x hx
      have hlen:((List.range n).filterMap f).length=n:=by
        have:∀ m,(∀ y,y<m→(f y).isSome=true)→((List.range m).filterMap f).length=m:=by
          intro m
          induction m with
          | zero=>intro _; rfl
          | succ m ih2 =>
            intro h
            rw [List.range_succ,k9_,a8_,ih2 λy hy=>h y (by omega)]
            obtain ⟨v,hv⟩:=p8_.1 (h m (by omega))
            simp [hv]
        exact this n λy hy=>hf y (by omega)
      rw [List.range_succ,k9_]
      by_cases e:x=n
      · subst e
        rw [c9_ (by omega),hlen,k0_]
        obtain ⟨v,hv⟩:=p8_.1 (hf x (by omega))
        simp [hv]
      · rw [b2_ (by omega)]
        exact ih f (λy hy=>hf y (by omega)) x (by omega)
  unfold rvK
  refine gen l.length _ (λy hy => ?_) x hx
  split
  · rw [a7_ (by omega)]; rfl
  · rw [a7_ hy]; rfl
theorem sd_ {α:Type} (l:List α) (k:Nat):(rvK l k).length=l.length:=by
  have h1:∀ x,x<l.length→(rvK l k)[x]?≠none:=λx hx=>by
    rw [px_ hx]
    split
    · rw [a7_ (by omega)]; simp
    · rw [a7_ hx]; simp
  have h2:(rvK l k).length≤l.length:=by
    unfold rvK
    exact c5_ (n5_ _ _) (by rw [h2_]; exact c3_ _)
  by_cases h:(rvK l k).length<l.length
  · exact absurd (b1_ (c3_ _)) (h1 _ h)
  · omega
theorem cf0 {α:Type} (l:List α):rvK l 0=l:=by
  refine e2_ λx => ?_
  by_cases hx:x<l.length
  · rw [px_ hx,if_neg (by omega)]
  · rw [b1_ (by rw [sd_]; omega),b1_ (by omega)]
theorem rvK_end {α:Type} (l:List α) {k:Nat} (hk:l.length≤2 * k+1):rvK l k=l.reverse:=by
  refine e2_ λx => ?_
  by_cases hx:x<l.length
  · rw [px_ hx,List.getElem?_reverse hx]
    by_cases h:x<k∨l.length - k≤x
    · rw [if_pos h]
    · rw [if_neg h]
      congr 1
      omega
  · rw [b1_ (by rw [sd_]; omega),b1_ (by rw [List.length_reverse]; omega)]
theorem cf1 {α:Type} (l:List α) {k:Nat} (hk:2 * k+1<l.length) {a b:α} (ha:l[k]?=some a) (hb:l[l.length - 1 - k]?=some b) :
    (rvK l k)[k]?=some a∧(rvK l k)[l.length - 1 - k]?=some b∧((rvK l k).set k b).set (l.length - 1 - k) a=rvK l (k+1):=by
  refine ⟨by rw [px_ (by omega),if_neg (by omega)]; exact ha,by rw [px_ (by omega),if_neg (by omega)]; exact hb,?_⟩
  refine e2_ λx => ?_
  by_cases hx:x<l.length
  · rw [px_ hx]
    by_cases e2:x=l.length - 1 - k
    · subst e2
      rw [e5_ (by rw [f7_,sd_]; omega),if_pos (by omega),show l.length - 1 - (l.length - 1 - k)=k by omega,ha]
    · rw [b4_ (by omega)]
      by_cases e1:x=k
      · subst e1
        rw [e5_ (by rw [sd_]; omega),if_pos (by omega),hb]
      · rw [b4_ (by omega),px_ hx]
        by_cases h:x<k∨l.length - k≤x
        · rw [if_pos h,if_pos (by omega)]
        · rw [if_neg h,if_neg (by omega)]
  · rw [b1_ (by rw [f7_,f7_,sd_]; omega),b1_ (by rw [sd_]; omega)]
end
section
set_option maxRecDepth 100000
noncomputable def deadX (G:cf_) (v40:List Int×Unit):Option (List ac_×(Bool×(Int×Unit))) :=
 ((bs_ v40.1 (-1)).bind λv41 =>
 (cond (decide (v41.1<0))
 (some ([],(false,(0,()))))
 ((ag_ (ρ:=((List (Int×ac_))×((List ab_)×Unit))) (λ(v42:(Int×((List (Int×ac_))×((List ab_)×Unit)))) =>
 (cond (decide (v42.1<(G.2.length:Int)))
 ((at? G.2 v42.1).bind λv43 =>
 ((ag_ (ρ:=((List (Int×ac_))×((List ab_)×Unit))) (λ(v44:(Int×((List (Int×ac_))×((List ab_)×Unit)))) =>
 (cond (decide (v44.1<(v43.length:Int)))
 ((((at? v43 v44.1).bind λv45 =>
 (((cond (!(yt_ v44.2.2.1 v45.2))
 (some ((decide (v42.1<v45.2)),()))
 (some (false,())))).bind λv46 =>
 (cond v46.1
 (some ((ex_ v44.2.1 v45.2 v45.1),((ex_ v44.2.2.1 v45.2 v42.1),())))
 (some (v44.2.1,(v44.2.2.1,()))))))).bind λv47 =>
 (some (inl ((w64 (v44.1+1)),(v47.1,(v47.2.1,()))))))
 (some (inr (v44.2.1,(v44.2.2.1,())))))) (0,(v42.2.1,(v42.2.2.1,())))).bind λv48 =>
 (some (inl ((w64 (v42.1+1)),(v48.1,(v48.2.1,())))))))
 (some (inr (v42.2.1,(v42.2.2.1,())))))) (0,([],([],())))).bind λv49 =>
 ((ag_ (ρ:=((List ac_)×Unit)) (λ(v50:((List ac_)×(Int×Unit))) =>
 (cond (decide (0<v50.2.1))
 ((push? (α:=ac_) v50.1 [(cm_ (0,(0,0)) v49.1 v50.2.1)]).bind λv51 =>
 (some (inl (v51,((cm_ 0 v49.2.1 v50.2.1),())))))
 (some (inr (v50.1,()))))) ([],(v41.1,()))).bind λv52 =>
 ((ag_ (ρ:=((List ac_)×Unit)) (λ(v53:(Int×(Int×((List ac_)×Unit)))) =>
 (cond (decide (v53.1<v53.2.1))
 ((at? v53.2.2.1 v53.2.1).bind λv54 =>
 ((at? v53.2.2.1 v53.2.1).bind λv55 =>
 ((at? v53.2.2.1 v53.1).bind λv56 =>
 ((at? v53.2.2.1 v53.1).bind λv57 =>
 ((at? v53.2.2.1 v53.1).bind λv58 =>
 ((at? v53.2.2.1 v53.1).bind λv59 =>
 ((at? (v53.2.2.1.set v53.1.toNat v55) v53.2.1).bind λv60 =>
 ((at? (v53.2.2.1.set v53.1.toNat v55) v53.2.1).bind λv61 =>
 (some (inl ((w64 (v53.1+1)),((w64 (v53.2.1 - 1)),(((v53.2.2.1.set v53.1.toNat v55).set v53.2.1.toNat v57),())))))))))))))
 (some (inr (v53.2.2.1,()))))) (0,((w64 ((v52.1.length:Int) - 1)),(v52.1,())))).bind λv62 =>
 (some (v62.1,(true,(0,())))))))))
theorem dead_eq:lc_=λa0=>(dm_ a0).bind λv0=>cond (v0.2.1 != 0) (cond (v0.2.1 != 0) (some ([],(false,(v0.2.1,())))) none) (ci6 rowE a0 v0.1 λv40=>deadX v0.1 v40):=by
  kernel_rfl
theorem IndexI {D:List Int} (hD:D.length≤1000000) (k:Int):(bs_ D k=some (-1,())∧∀ v ∈ D,v≠k)∨∃ n:Nat,bs_ D k=some ((n:Int),())∧D[n]?=some k∧∀ j v,j<n→D[j]?=some v→v≠k:=by
  unfold bs_
  have key:∀ (m:List Int) (j:Nat),(fi_ (λi y=>cond (k==y) (some (inr ((i:Int),()):Unit⊕(Int×Unit))) none) j m=none∧∀ v ∈ m,v≠k)∨∃ n:Nat,fi_ (λi y=>cond (k==y) (some (inr ((i:Int),()):Unit⊕(Int×Unit))) none) j m=some (inr (((j+n:Nat):Int),()))∧m[n]?=some k∧∀ i v,i<n→m[i]?=some v→v≠k:=by
    intro m
    induction m with
    | nil=>exact λj=>.inl ⟨rfl,λv hv=>by simp at hv⟩
    | cons x m ih =>
      intro j
      unfold fi_
      cases hx:k==x with
      | true=>exact .inr ⟨0,rfl,by rw [f3_.1 hx]; rfl,λi v hi=>by omega⟩
      | false =>
        have hx:x≠k:=λe=>by rw [e] at hx; simp at hx
        simp only [a2_]
        rcases ih (j+1) with ⟨h1,h2⟩ | ⟨n,h1,h2,h3⟩
        · exact .inl ⟨h1,λv hv=>by
            rcases e0_.1 hv with rfl | hv
            · exact hx
            · exact h2 v hv⟩
        · refine .inr ⟨n+1,by rw [h1,show j+1+n=j+(n+1) by omega],h2,λi v hi hv => ?_⟩
          cases i with
          | zero =>
            obtain rfl:x=v:=by simpa using hv
            exact hx
          | succ i=>exact h3 i v (by omega) hv
  have run:=lx_ D (λi y=>cond (k==y) (some (inr ((i:Int),()):Unit⊕(Int×Unit))) none) (λi=>((i:Int),())) (r0:=inl ()) (body:=λ(v0:(Int×Unit)) =>
 (cond (decide (v0.1<(D.length:Int)))
 ((at? D v0.1).bind λv1 =>
 (cond (k==v1)
 (some (inr (inr (v0.1,()))))
 (some (inl ((w64 (v0.1+1)),())))))
 (some (inr (inl ()))))) (λi y hy=>by
    have:=al_ hy
    simp only [dlt (al_ hy),a4_,ah_ hy,a0_,ay_ (show Sm i by show _≤1000000000; omega)]
    cases k==y <;> rfl) (by simp only [dnl,a2_])
  have run:ag_ _ ((0:Int),())=_:=run
  rw [run]
  rcases key D 0 with ⟨h1,h2⟩ | ⟨n,h1,h2,h3⟩
  · exact .inl ⟨by rw [h1]; rfl,h2⟩
  · exact .inr ⟨n,by rw [h1,b0_]; rfl,h2,h3⟩
def pmE (L:List (Nat×ae_)) (k:Int):Option (Nat×ae_):=L.find? λz=>z.2.2==k&&decide ((z.1:Int)<z.2.2)
def MP (L:List (Nat×ae_)) (by_:List (Int×ac_)) (fr:List ab_):Prop:=∀ k,mget? fr k=(pmE L k).map (λz=>(z.1:Int))∧mget? by_ k=(pmE L k).map (λz=>z.2.1)
theorem ab0 (L:List (Nat×ae_)) (z:Nat×ae_) (k:Int):pmE (L++[z]) k=(pmE L k).or (cond (z.2.2==k&&decide ((z.1:Int)<z.2.2)) (some z) none):=by
  unfold pmE
  rw [pd_]
  congr 1
theorem MP_step {L:List (Nat×ae_)} {by_:List (Int×ac_)} {fr:List ab_} (h:MP L by_ fr) (z:Nat×ae_) :
    ∃ by' fr',(((cond (!(yt_ fr z.2.2)) (some ((decide ((z.1:Int)<z.2.2)),())) (some (false,()))).bind λv46 =>
 (cond v46.1
 (some ((ex_ by_ z.2.2 z.2.1),((ex_ fr z.2.2 (z.1:Int)),())))
 (some (by_,(fr,()))))):Option (List (Int×ac_)×(List ab_×Unit)))=some (by',(fr',()))∧MP (L++[z]) by' fr':=by
  obtain ⟨h1,h2⟩:=h z.2.2
  unfold yt_
  rw [h1]
  cases hp:pmE L z.2.2 with
  | some y =>
    refine ⟨by_,fr,rfl,λk => ?_⟩
    rw [ab0]
    by_cases hk:z.2.2=k
    · subst hk
      rw [hp,Option.some_or,← hp]
      exact ⟨h1,h2⟩
    · rw [show (z.2.2==k)=false from m2_ hk,e4_,a2_,q9_]
      exact h k
  | none =>
    cases hlt:decide ((z.1:Int)<z.2.2) with
    | false =>
      refine ⟨by_,fr,by simp,λk => ?_⟩
      rw [ab0,hlt,g0_,a2_,q9_]
      exact h k
    | true =>
      refine ⟨ex_ by_ z.2.2 z.2.1,ex_ fr z.2.2 (z.1:Int),by simp,λk => ?_⟩
      rw [ab0,hlt,h0_,rg_,rg_]
      by_cases hk:k=z.2.2
      · subst hk
        rw [if_pos rfl,if_pos rfl,hp,d3_]
        exact ⟨rfl,rfl⟩
      · rw [if_neg hk,if_neg hk,show (z.2.2==k)=false from m2_ (λe=>hk e.symm),a2_,q9_]
        exact h k
theorem ba9 {α:Type} {p q:α→Bool} {z:α}:∀ {L:List α},L.find? p=some z→q z=true→L.find? (λa=>p a&&q a)=some z
  | [],h,_=>by cases h
  | a::L,h,hq=>by
    cases hp:p a with
    | true =>
      rw [k3_ hp] at h
      obtain rfl:=a6_ h
      rw [k3_ (by rw [hp,hq]; rfl)]
    | false =>
      rw [m1_ (by rw [hp]; decide)] at h
      rw [m1_ (by rw [hp]; simp)]
      exact ba9 h hq
theorem pmE_par {es:List (List ae_)} {t i:Nat} {x:ae_} (h:cp6 es t=some (i,x)) (hx:x.2=(t:Int)) (hi:i<t):pmE (flE 0 es) (t:Int)=some (i,x) :=
  ba9 (p:=toB t) (q:=λz=>decide ((z.1:Int)<z.2.2)) h (by
    show decide ((i:Int)<x.2)=true
    rw [hx]
    exact b9_ (by omega))
theorem ak8 {es:List (List ae_)} {n:Nat} (hF:FE es n) (hn:n≤3000) {by_:List (Int×ac_)} {fr:List ab_} (hM:MP (flE 0 es) by_ fr):∀ (k t:Nat) (acc:List ac_),t<n→t≤k→acc.length+t≤1000000→ag_ (ρ:=(List ac_)×Unit) (λ(v50:((List ac_)×(Int×Unit))) =>
 (cond (decide (0<v50.2.1))
 ((push? (α:=ac_) v50.1 [(cm_ (0,(0,0)) by_ v50.2.1)]).bind λv51 =>
 (some (inl (v51,((cm_ 0 fr v50.2.1),())))))
 (some (inr (v50.1,()))))) (acc,((t:Int),()))=some (acc++(way es t).reverse,())
  | k,0,acc,_,_,_=>by
    refine bq_ ?_
    rw [cd2,List.reverse_nil,e1_]
    rfl
  | 0,t+1,acc,_,h,_=>by omega
  | k+1,t+1,acc,ht,hk,hl=>by
    obtain ⟨i,row,x,h1,_,_,h4,h5,_⟩:=lu_ hF (o8_ t) ht
    have hpm:=pmE_par h5 h4 h1
    obtain ⟨g1,g2⟩:=hM ((t+1:Nat):Int)
    rw [hpm] at g1 g2
    have ih:=ak8 hF hn hM k i (acc++[x.1]) (by omega) (by omega) (by rw [a8_,c6_]; omega)
    refine bm_ (t:=(acc++[x.1],((i:Int),()))) ?_ ?_
    · unfold cm_
      rw [g1,g2]
      simp only [b9_ (show (0:Int)<((t+1:Nat):Int) by omega),a4_,cd_ (show Sm acc.length by show _≤1000000000; omega),a0_]
      rfl
    · rw [ih,ug_ hF (o8_ t) ht h5,List.reverse_append,b3_]
      rfl
theorem cj1 (l:List ac_) (hl:l.length≤1000000):(ag_ (ρ:=((List ac_)×Unit)) (λ(v53:(Int×(Int×((List ac_)×Unit)))) =>
 (cond (decide (v53.1<v53.2.1))
 ((at? v53.2.2.1 v53.2.1).bind λv54 =>
 ((at? v53.2.2.1 v53.2.1).bind λv55 =>
 ((at? v53.2.2.1 v53.1).bind λv56 =>
 ((at? v53.2.2.1 v53.1).bind λv57 =>
 ((at? v53.2.2.1 v53.1).bind λv58 =>
 ((at? v53.2.2.1 v53.1).bind λv59 =>
 ((at? (v53.2.2.1.set v53.1.toNat v55) v53.2.1).bind λv60 =>
 ((at? (v53.2.2.1.set v53.1.toNat v55) v53.2.1).bind λv61 =>
 (some (inl ((w64 (v53.1+1)),((w64 (v53.2.1 - 1)),(((v53.2.2.1.set v53.1.toNat v55).set v53.2.1.toNat v57),())))))))))))))
 (some (inr (v53.2.2.1,()))))) (0,((w64 ((l.length:Int) - 1)),(l,()))))=some (l.reverse,()):=by
  have h0:((0:Int),((w64 ((l.length:Int) - 1)),(l,())))=(((0:Nat):Int),(((l.length:Int) - 1 - ((0:Nat):Int)),(rvK l 0,()))):=by
    rw [cf0,et_ (by omega) (by omega)]
    simp
  rw [h0]
  rw [← rvK_end l (k:=l.length / 2) (by omega)]
  refine ap5 (l.length / 2) (λk=>((k:Int),(((l.length:Int) - 1 - (k:Int)),(rvK l k,())))) (λk hk => ?_) ?_
  · obtain ⟨a,ha⟩:=az_ (l:=l) (i:=k) (by omega)
    obtain ⟨b,hb⟩:=az_ (l:=l) (i:=l.length - 1 - k) (by omega)
    obtain ⟨r1,r2,r3⟩:=cf1 l (by omega) ha hb
    have e:(l.length:Int) - 1 - (k:Int)=((l.length - 1 - k:Nat):Int):=by omega
    have r4:((rvK l k).set k b)[l.length - 1 - k]?=some b:=by rw [b4_ (by omega)]; exact r2
    simp only [e,b9_ (show (k:Int)<((l.length - 1 - k:Nat):Int) by omega),a4_,ah_ r1,ah_ r2,a0_,c0_,ah_ r4,r3,ay_ (show Sm k by show _≤1000000000; omega)]
    rw [et_ (by omega) (by omega)]
    congr 4
    omega
  · simp only [b5_ (show ¬ (((l.length / 2:Nat):Int)<(l.length:Int) - 1 - ((l.length / 2:Nat):Int)) by omega),a2_]
noncomputable def ah1 (g:ad_):List ac_×(Bool×(Int×Unit)) :=
  cond ((exG g).2.1 != 0) ([],(false,((exG g).2.1,()))) (match (dstG g (-1)).findIdx? (λv=>decide (v<0)) with
    | none=>([],(false,(0,())))
    | some t=>(way (exG g).1.2 t,(true,(0,()))))
theorem zc_ {D:List Int} {p:Int→Bool} {n:Nat} {v:Int} (h:D[n]?=some v) (hp:p v=true) (hb:∀ j u,j<n→D[j]?=some u→p u=false):D.findIdx? p=some n:=by
  rw [o0_]
  have hn:=al_ h
  rw [a7_ hn] at h
  refine ⟨hn,by rw [a6_ h]; exact hp,λj hj => ?_⟩
  have:=hb j _ hj (a7_ (by omega))
  rw [this]
  decide
theorem bg5 {g:ad_} (hg:SmG g):lc_ g=some (ah1 g):=by
  rw [dead_eq]
  unfold ah1
  simp only
  rw [rc_ hg,a0_]
  cases hE:(exG g).2.1 != 0 with
  | true=>rfl
  | false =>
  have hE0:(exG g).2.1=0:=by simpa using hE
  have hG:=bb3 hg hE0
  have hF:=bw7 hE0
  have hn:=hG.n
  have hdl:=hG.dl (-1)
  have hel:=hG.len
  simp only [a2_]
  rw [show (exG g).1=((exG g).1.1,(exG g).1.2) from rfl,mea_dst hg hG.h0 hG.gI hG.len bm9,bb4,show dst (exG g).1.2 (qm_ g (exG g).1.1) (exG g).1.1.length=dstG g (-1) from by unfold dstG; rw [hG.al]]
  unfold deadX
  have hlo:=(hG.dc (-1)).lo
  rcases IndexI (D:=dstG g (-1)) (by omega) (-1) with ⟨h1,h2⟩ | ⟨t,h1,h2,h3⟩
  · rw [h1,a0_]
    have:(dstG g (-1)).findIdx? (λv=>decide (v<0))=none:=by
      rw [List.findIdx?_eq_none_iff]
      intro v hv
      obtain ⟨j,hj⟩:=f8_ hv
      have:=hlo j v hj
      have:=h2 v hv
      exact b5_ (by omega)
    rw [this]
    rfl
  · rw [h1,a0_]
    have hfi:(dstG g (-1)).findIdx? (λv=>decide (v<0))=some t:=zc_ h2 (b9_ (by omega)) λj u hj hu=>by
      have:=hlo j u hu
      have:=h3 j u hj hu
      exact b5_ (by omega)
    have ht:t<(exG g).1.1.length:=by rw [← hdl]; exact al_ h2
    rw [hfi]
    simp only [b5_ (show ¬ ((t:Int)<0) by omega),a2_]
    refine ie_ (exG g).1.2.length (λi (z:Int×((List (Int×ac_))×((List ab_)×Unit)))=>∃ b f,z=((i:Int),(b,(f,())))∧MP (flE 0 ((exG g).1.2.take i)) b f) ⟨[],[],rfl,λk=>⟨rfl,rfl⟩⟩ (λi z hi hz => ?_) (λz hz => ?_)
    · obtain ⟨b,f,rfl,hM⟩:=hz
      obtain ⟨row,hr⟩:=az_ hi
      have hrl:=hG.gI.eL row (ax_ hr)
      have hin:∃ b' f',ag_ (ρ:=((List (Int×ac_))×((List ab_)×Unit))) (λ(v44:(Int×((List (Int×ac_))×((List ab_)×Unit)))) =>
 (cond (decide (v44.1<(row.length:Int)))
 ((((at? row v44.1).bind λv45 =>
 (((cond (!(yt_ v44.2.2.1 v45.2))
 (some ((decide ((i:Int)<v45.2)),()))
 (some (false,())))).bind λv46 =>
 (cond v46.1
 (some ((ex_ v44.2.1 v45.2 v45.1),((ex_ v44.2.2.1 v45.2 (i:Int)),())))
 (some (v44.2.1,(v44.2.2.1,()))))))).bind λv47 =>
 (some (inl ((w64 (v44.1+1)),(v47.1,(v47.2.1,()))))))
 (some (inr (v44.2.1, (v44.2.2.1, ())))))) (0, (b, (f, ()))) = some (b', (f', ())) ∧ MP (flE 0 ((exG g).1.2.take (i + 1))) b' f' := by
        obtain ⟨r,hr1,b',f',rfl,hM'⟩:=gt_ (ρ:=((List (Int×ac_))×((List ab_)×Unit))) (body:=λ(v44:(Int×((List (Int×ac_))×((List ab_)×Unit)))) =>
 (cond (decide (v44.1<(row.length:Int)))
 ((((at? row v44.1).bind λv45 =>
 (((cond (!(yt_ v44.2.2.1 v45.2))
 (some ((decide ((i:Int)<v45.2)),()))
 (some (false,())))).bind λv46 =>
 (cond v46.1
 (some ((ex_ v44.2.1 v45.2 v45.1),((ex_ v44.2.2.1 v45.2 (i:Int)),())))
 (some (v44.2.1,(v44.2.2.1,()))))))).bind λv47 =>
 (some (inl ((w64 (v44.1+1)),(v47.1,(v47.2.1,()))))))
 (some (inr (v44.2.1, (v44.2.2.1, ())))))) (fun k z => ∃ b f, z = ((k : Int), (b, (f, ()))) ∧ MP (flE 0 ((exG g).1.2.take i) ++ (row.take k).map (fun x => (i, x))) b f) (fun r => ∃ b f, r = (b, (f, ())) ∧ MP (flE 0 ((exG g).1.2.take (i + 1))) b f) row.length 0 (0, (b, (f, ()))) ⟨b, f, rfl, by rw [j0_, p4_, e1_]; exact hM⟩ (fun k z _ hk hz => .inl (by
          obtain ⟨b1,f1,rfl,hM1⟩:=hz
          rw [b0_] at hk
          obtain ⟨x,hx⟩:=az_ hk
          obtain ⟨b2,f2,e2,hM2⟩:=MP_step hM1 (i,x)
          refine ⟨((k+1:Nat),(b2,(f2,()))),?_,b2,f2,rfl,?_⟩
          · simp only [dlt hk,a4_,ah_ hx,a0_,ay_ (show Sm k by show _≤1000000000; omega)]
            simp only at e2
            rw [e2]
            rfl
          · rw [d2_,hx]
            simp only [Option.toList,h6_,f9_,p4_]
            rw [← b3_]
            exact hM2)) (λz hz=>by
          obtain ⟨b1,f1,rfl,hM1⟩:=hz
          rw [b0_] at hM1 ⊢
          refine ⟨(b1,(f1,())),by simp only [dnl,a2_],b1,f1,rfl,by rw [ro_ hr]; rw [d6_] at hM1; exact hM1⟩)
        exact ⟨b',f',hr1,hM'⟩
      obtain ⟨b',f',e',hM'⟩:=hin
      refine ⟨((i+1:Nat),(b',(f',()))),?_,b',f',rfl,hM'⟩
      simp only [dlt hi,a4_,ah_ hr,a0_,ay_ (show Sm i by show _≤1000000000; omega)]
      rw [e']
      rfl
    · obtain ⟨b,f,rfl,hM⟩:=hz
      rw [d6_] at hM
      refine ⟨_,by simp only [dnl,a2_]; rfl,?_⟩
      simp only
      have hwl:=zk_ hF t t ht (c3_ _)
      rw [ak8 hF hn hM t t [] ht (c3_ _) (by rw [j2_]; omega),a0_,g5_]
      simp only
      rw [cj1 _ (by rw [List.length_reverse]; omega),a0_,List.reverse_reverse]
end
section
set_option maxRecDepth 100000
def ND (m:List ab_):Prop:=(m.map (·.1)).Nodup
theorem ci1 (m:List ab_) (k v x:Int):x ∈ (ex_ m k v).map (·.1)↔x=k∨x ∈ m.map (·.1):=by
  induction m with
  | nil=>simp [ex_]
  | cons a m ih =>
    obtain ⟨a,u⟩:=a
    unfold ex_
    by_cases h:k=a
    · rw [if_pos h]
      simp [h]
    · rw [if_neg h,f9_,e0_,ih,f9_,e0_]
      constructor
      · rintro (h1 | h1 | h1)
        · exact .inr (.inl h1)
        · exact .inl h1
        · exact .inr (.inr h1)
      · rintro (h1 | h1 | h1)
        · exact .inr (.inl h1)
        · exact .inl h1
        · exact .inr (.inr h1)
theorem au4 {m:List ab_} (h:ND m) (k v:Int):ND (ex_ m k v):=by
  induction m with
  | nil=>simp [ND,ex_]
  | cons a m ih =>
    obtain ⟨a,u⟩:=a
    unfold ND at h ih ⊢
    rw [f9_,n8_] at h
    unfold ex_
    by_cases hk:k=a
    · rw [if_pos hk,f9_,n8_]
      exact h
    · rw [if_neg hk,f9_,n8_]
      refine ⟨λhm => ?_,ih h.2⟩
      rcases (ci1 m k v a).1 hm with h1 | h1
      · exact hk h1.symm
      · exact h.1 h1
theorem br8 {m:List ab_} {k:Int} (h:k ∉ m.map (·.1)):mget? m k=none:=by
  induction m with
  | nil=>rfl
  | cons a m ih =>
    obtain ⟨a,u⟩:=a
    rw [f9_,e0_,not_or] at h
    unfold mget?
    rw [if_neg h.1]
    exact ih h.2
theorem ci7 (m:List ab_) (k:Int):((xr_ m k).map (·.1)).Sublist (m.map (·.1)):=by
  induction m with
  | nil=>exact List.Sublist.refl _
  | cons a m ih =>
    obtain ⟨a,u⟩:=a
    unfold xr_
    by_cases h:k=a
    · rw [if_pos h,f9_]
      exact List.sublist_cons_self _ _
    · rw [if_neg h,f9_,f9_]
      exact ih.cons_cons _
theorem br9 {m:List ab_} (h:ND m) (k k':Int):mget? (xr_ m k) k'=if k'=k then none else mget? m k':=by
  induction m with
  | nil=>simp [xr_,mget?]
  | cons a m ih =>
    obtain ⟨a,u⟩:=a
    unfold ND at h
    rw [f9_,n8_] at h
    unfold xr_
    by_cases hk:k=a
    · subst hk
      rw [if_pos rfl]
      by_cases hk':k'=k
      · subst hk'
        rw [if_pos rfl,br8 h.1]
      · rw [if_neg hk',mget?,if_neg hk']
    · rw [if_neg hk,mget?,ih h.2]
      by_cases hk':k'=k
      · subst hk'
        rw [if_neg hk,if_pos rfl,if_pos rfl]
      · rw [if_neg hk',mget?]
        by_cases h2:k'=a
        · rw [if_pos h2,if_neg hk']
        · rw [if_neg h2,if_neg hk']
structure Me (g:ad_) (d:List Bool) (mm:List ab_):Prop where
  m:Mem g d mm
  n:ND mm
theorem cl8 {g:ad_} {d d':List Bool} {lock:Int} (hl:d.length=d'.length) (h:∀ (i:Nat) x,g.2.2.2.1[i]?=some x→x.2.2.1=lock→d[i]?=d'[i]?):ao5 g d lock=ao5 g d' lock:=by
  unfold ao5
  have gen:∀ (ns:List ci_) (a b:List Bool),a.length=b.length→(∀ (i:Nat) (x:ci_),ns[i]?=some x→x.2.2.1=lock→a[i]?=b[i]?) →
      (ns.zip a).filterMap (λx=>cond (x.1.2.2.1==lock&&x.2) (some x.1.2.2.2.2) none)=(ns.zip b).filterMap (λx=>cond (x.1.2.2.1==lock&&x.2) (some x.1.2.2.2.2) none):=by
    intro ns
    induction ns with
    | nil=>intro a b _ _; rfl
    | cons n ns ih =>
      intro a b hab h
      cases a with
      | nil =>
        cases b with
        | nil=>rfl
        | cons y b=>simp at hab
      | cons x a =>
        cases b with
        | nil=>simp at hab
        | cons y b =>
          have h1:=ih a b (by simpa using hab) λi z hz hk=>by
            have:=h (i+1) z (by simpa using hz) hk
            simpa using this
          rw [List.zip_cons_cons,List.zip_cons_cons,List.filterMap_cons,List.filterMap_cons,h1]
          cases hk:n.2.2.1==lock with
          | false=>simp only [hk,e4_,a2_]
          | true =>
            have:=h 0 n rfl (f3_.1 hk)
            simp at this
            rw [this]
  exact gen _ _ _ hl h
theorem ch1 {g:ad_} {d d':List Bool} {lock:Int} (hl:d.length=d'.length) (h:∀ (i:Nat) x,g.2.2.2.1[i]?=some x→x.2.2.1=lock→d[i]?=d'[i]?):opn g d lock=opn g d' lock:=by
  unfold opn rdC
  rw [cl8 hl h]
theorem pbg_mem {g:ad_} (hg:SmG g) (ok:OkG g) {s:ai_} (hv:VS g.1 s) {d:List Bool} (hd:d.length=g.2.2.2.1.length) {m:List ab_} (hm:Me g d m) :
    ∃ m',ag_ (bi5 g s) (0,(d,(m,())))=some (rdN g s d,(m',()))∧Me g (rdN g s d) m':=by
  have h0:=ok.room
  have okr:=bj_ h0
  obtain ⟨m1,m2,m3⟩:=nf_ hg.room okr hv
  have hn:=hg.nt
  have hrl:=qd_ (s:=s) hd
  suffices hs:∃ z,ag_ (bi5 g s) (0,(d,(m,())))=some z∧(z.1=rdN g s d∧(ND z.2.1∧∀ lock,cm_ 0 z.2.1 lock=(0:Int)∨(cm_ (0:Int) z.2.1 lock=cm_ 0 m lock∧∀ (i:Nat) x,i<g.2.2.2.1.length→g.2.2.2.1[i]?=some x→x.2.2.1=lock→d[i]?=(rdN g s d)[i]?))) by
    obtain ⟨⟨z1,z2,u⟩,e,h1,h2,h3⟩:=hs
    simp only at h1 h2 h3
    subst h1
    refine ⟨z2,e,λlock hlock => ?_,h2⟩
    rcases h3 lock with h4 | ⟨h4,h5⟩
    · exact .inl h4
    · rw [h4,← ch1 (d:=d) (d':=rdN g s d) (by rw [hd,hrl]) λi x hx hk=>h5 i x (al_ hx) hx hk]
      exact hm.m lock hlock
  refine gt_ (λ(i:Nat) (z:Int×(List Bool×(List ab_×Unit)))=>∃ d' m',z=((i:Int),(d',(m',())))∧(∀ j,d'[j]?=if j<i then (rdN g s d)[j]? else d[j]?)∧(ND m'∧∀ lock,cm_ 0 m' lock=(0:Int)∨(cm_ (0:Int) m' lock=cm_ 0 m lock∧∀ (k:Nat) x,k<i→g.2.2.2.1[k]?=some x→x.2.2.1=lock→d[k]?=(rdN g s d)[k]?))) _ g.2.2.2.1.length 0 _ ⟨d,m,rfl,λj=>by simp,hm.n,λlock=>.inr ⟨rfl,λk x hk=>by omega⟩⟩ (λj z h1 h2 hz=>.inl ?_) (λz hz => ?_)
  · obtain ⟨d',m',rfl,hd',hnd,hmm⟩:=hz
    obtain ⟨x,hx⟩:=az_ (l:=g.2.2.2.1) (i:=j) (by omega)
    obtain ⟨y,hy⟩:=az_ (l:=d) (i:=j) (by omega)
    have hy':d'[j]?=some y:=by rw [hd' j,if_neg (by omega)]; exact hy
    have hr:=aq8 (s:=s) hx hy
    have hH:=vl_ hg.room h0 hv (ok.nt j x hx).2
    have keep:rdB s x y=y→(∀ k,d'[k]?=if k<j+1 then (rdN g s d)[k]? else d[k]?)∧(ND m'∧∀ lock,cm_ 0 m' lock=(0:Int)∨(cm_ (0:Int) m' lock=cm_ 0 m lock∧∀ (k:Nat) x,k<j+1→g.2.2.2.1[k]?=some x→x.2.2.1=lock→d[k]?=(rdN g s d)[k]?)):=λe=>by
      refine ⟨λk => ?_,hnd,λlock => ?_⟩
      · rw [hd' k]
        by_cases hk:k=j
        · subst hk
          rw [if_neg (by omega),if_pos (by omega),hr,hy,e]
        · by_cases hk2:k<j
          · rw [if_pos hk2,if_pos (by omega)]
          · rw [if_neg hk2,if_neg (by omega)]
      · rcases hmm lock with h4 | ⟨h4,h5⟩
        · exact .inl h4
        · refine .inr ⟨h4,λk z hk hz hl => ?_⟩
          by_cases hkj:k=j
          · subst hkj
            rw [hr,hy,e]
          · exact h5 k z (by omega) hz hl
    have turn:rdB s x y=true→(∀ k,(d'.set ((j:Int)).toNat true)[k]?=if k<j+1 then (rdN g s d)[k]? else d[k]?)∧(ND (xr_ m' x.2.2.1)∧∀ lock,cm_ 0 (xr_ m' x.2.2.1) lock=(0:Int)∨(cm_ (0:Int) (xr_ m' x.2.2.1) lock=cm_ 0 m lock∧∀ (k:Nat) x,k<j+1→g.2.2.2.1[k]?=some x→x.2.2.1=lock→d[k]?=(rdN g s d)[k]?)):=λe=>by
      refine ⟨λk => ?_,(ci7 m' x.2.2.1).nodup hnd,λlock => ?_⟩
      · rw [c0_,h3_]
        by_cases hk:j=k
        · subst hk
          rw [if_pos rfl,if_pos (al_ hy'),if_pos (by omega),hr,e]
        · rw [if_neg hk,hd' k]
          by_cases hk2:k<j
          · rw [if_pos hk2,if_pos (by omega)]
          · rw [if_neg hk2,if_neg (by omega)]
      · have hmd:=br9 hnd x.2.2.1 lock
        unfold cm_ at hmm ⊢
        by_cases hl:lock=x.2.2.1
        · rw [if_pos hl] at hmd
          rw [hmd]
          exact .inl rfl
        · rw [if_neg hl] at hmd
          rw [hmd]
          rcases hmm lock with h4 | ⟨h4,h5⟩
          · exact .inl h4
          · refine .inr ⟨h4,λk z hk hz hzl => ?_⟩
            by_cases hkj:k=j
            · subst hkj
              rw [hx] at hz
              cases hz
              exact absurd hzl.symm hl
            · exact h5 k z (by omega) hz hzl
    unfold bi5
    simp only [dlt (al_ hx),a4_,ah_ hx,ah_ hy',a0_,hH,li_ m3,ay_ (show Sm j by omega)]
    unfold rdB at keep turn
    cases hb:cx_ s.1 x.2.2.2.1 with
    | false=>exact ⟨_,rfl,_,_,rfl,keep (by rw [hb]; simp)⟩
    | true =>
    cases hc:s.2.2.contains x.2.1 with
    | false =>
      refine ⟨_,?_,d',m',rfl,keep (by rw [hc]; simp)⟩
      simp only [a4_,a2_,a0_]
    | true =>
    cases y with
    | true=>exact ⟨_,rfl,_,_,rfl,keep rfl⟩
    | false=>exact ⟨_,rfl,_,_,rfl,turn (by rw [hb,hc]; rfl)⟩
  · obtain ⟨d',m',rfl,hd',hnd,hmm⟩:=hz
    rw [b0_] at hmm ⊢
    unfold bi5
    simp only [dnl,a2_]
    refine ⟨_,rfl,e2_ λk => ?_,hnd,hmm⟩
    rw [hd' k]
    split
    · rfl
    · rw [b1_ (by omega),b1_ (by omega)]
noncomputable def opM (a0:ad_) (d:List Bool) (mm:List ab_) (m:ac_):Option (Bool×(List ab_×Unit)) :=
 (cond (m.2.1==4)
 ((bp_ m.2.2 0 (w64 ((a0.1.2.2.2.2.1.length:Int) - 1))).bind λv4 =>
 (cond v4.1
 ((at? a0.1.2.2.2.2.1 m.2.2).bind λv5 =>
 (cond (decide (v5.2.2.1<0))
 (some ((!true),(mm,())))
 ((cmpX a0 d mm v5.2.2.1).bind λv18 =>
 (some ((!((cm_ 0 v18.1 v5.2.2.1)==1)),(v18.1,()))))))
 (some (false,(mm,())))))
 (some (false,(mm,()))))
theorem ND_cmpX {g:ad_} {d:List Bool} {mm m':List ab_} {lock:Int} (h:cmpX g d mm lock=some (m',())) (hn:ND mm):ND m':=by
  unfold cmpX at h
  cases h0:(cm_ 0 mm lock:Int)==0 with
  | false =>
    rw [h0] at h
    have h:some (mm,())=some (m',()):=h
    cases h
    exact hn
  | true =>
    rw [h0,a4_] at h
    obtain ⟨v18,_,h⟩:=j8_.1 h
    obtain ⟨v19,_,h⟩:=j8_.1 h
    obtain ⟨v20,_,h⟩:=j8_.1 h
    obtain ⟨v21,_,h⟩:=j8_.1 h
    cases hb:v21.1 with
    | true =>
      rw [hb] at h
      have h:some (ex_ (ex_ mm lock 2) lock 1,())=some (m',()):=h
      cases h
      exact au4 (au4 hn _ _) _ _
    | false =>
      rw [hb] at h
      have h:some (ex_ mm lock 2,())=some (m',()):=h
      cases h
      exact au4 hn _ _
theorem opM_eq {g:ad_} (hg:SmG g) (ok:OkG g) {d:List Bool} (hd:d.length=g.2.2.2.1.length) {mm:List ab_} (hM:Me g d mm) (m:ac_):∃ m',opM g d mm m=some (!(okM g d m),(m',()))∧Me g d m':=by
  have hac:=hg.ac
  unfold opM okM
  cases hk:m.2.1==4 with
  | false=>exact ⟨mm,rfl,hM⟩
  | true =>
  simp only [a4_,ht_,a0_]
  rcases cp_ (l:=g.1.2.2.2.2.1) (by show _≤1000000000; omega) m.2.2 with ⟨f1,f2⟩ | ⟨j,a,hj,ha,f1,f2⟩
  · rw [f1,f2]; exact ⟨mm,rfl,hM⟩
  · rw [f1,f2]
    simp only [a4_,a0_,Option.elim]
    cases hz:decide (a.2.2.1<0) with
    | true =>
      refine ⟨mm,?_,hM⟩
      unfold opn
      rw [hz]
      rfl
    | false =>
    have hz:=d1_ hz
    have hlt:=ok.ac j a ha
    obtain ⟨l,hl⟩:=az_ (l:=g.2.1) (i:=a.2.2.1.toNat) (by omega)
    have hl2:at? g.2.1 a.2.2.1=some l:=by rw [show a.2.2.1=((a.2.2.1.toNat:Nat):Int) by omega]; exact ah_ hl
    obtain ⟨m',e,k1,k2⟩:=at4 hg ok hd (mm:=mm) (by omega) hl2 (hM.m _ (by omega))
    refine ⟨m',?_,λlock hlock => ?_,ND_cmpX e hM.n⟩
    · rw [e]
      simp only [a2_,a0_,k1]
      cases opn g d a.2.2.1 <;> rfl
    · by_cases h:lock=a.2.2.1
      · rw [h]
        exact .inr k1
      · rw [k2 lock h]
        exact hM.m lock hlock
noncomputable def stM (a0:ad_) (d:List Bool) (mm:List ab_) (s:List Int×(List Int×(List Int×Unit))) (m:ac_):Option (Bool×(List Bool×(List ab_×((List Int×(List Int×(List Int×Unit)))×Unit)))) :=
 ((opM a0 d mm m).bind λv19 =>
 (cond v19.1
 (some ((!false),(d,(v19.2.1,((s.1,(s.2.1,(s.2.2.1,()))),())))))
 ((dw_ a0.1 (s.1,(s.2.1,s.2.2.1)) m).bind λv20 =>
 (cond (v20.2.1 != 0)
 (some ((!false),(d,(v19.2.1,((s.1,(s.2.1,(s.2.2.1,()))),())))))
 ((ag_ (bi5 a0 v20.1) (0,(d,(v19.2.1,())))).bind λv31 =>
 (some ((!true),(v31.1,(v31.2.1,((v20.1.1,(v20.1.2.1,(v20.1.2.2,()))),()))))))))))
abbrev St3:=List Int×(List Int×(List Int×Unit))
abbrev RunS:=Int×(List Bool×(List ab_×((List Int×(List Int×(List Int×(List Bool×Unit))))×(St3×Unit))))
noncomputable def runB (a0:ad_) (a2:List ac_):RunS→Option (RunS⊕((List Bool×(List ab_×((List Int×(List Int×(List Int×(List Bool×Unit))))×(St3×Unit))))⊕(aa_×(Int×(Int×Unit))))):=λv2 =>
 (cond (decide (v2.1<(a2.length:Int)))
 ((at? a2 v2.1).bind λv3 =>
 (((stM a0 v2.2.1 v2.2.2.1 v2.2.2.2.2.1 v3)).bind λv32 =>
 (cond v32.1
 (some (inr (inr ((([],([],[])),[]),(v2.1,(29,()))))))
 (some (inl ((w64 (v2.1+1)),(v32.2.1,(v32.2.2.1,((v2.2.2.2.1.1,(v2.2.2.2.1.2.1,(v2.2.2.2.1.2.2.1,(v2.2.2.2.1.2.2.2.1,())))),((v32.2.2.2.1.1,(v32.2.2.2.1.2.1,(v32.2.2.2.1.2.2.1,()))),()))))))))))
 (some (inr (inl (v2.2.1,(v2.2.2.1,((v2.2.2.2.1.1,(v2.2.2.2.1.2.1,(v2.2.2.2.1.2.2.1,(v2.2.2.2.1.2.2.2.1,())))),((v2.2.2.2.2.1.1,(v2.2.2.2.2.1.2.1,(v2.2.2.2.2.1.2.2.1,()))),()))))))))
noncomputable def runX (a0:ad_) (a1:aa_) (a2:List ac_):Option (aa_×(Int×(Int×Unit))) :=
 ((df_ a0 a1).bind λv0 =>
 (cond (v0.1 != 0)
 (cond (v0.1 != 0)
 (some ((([],([],[])),[]),(0,(v0.1,()))))
 (cond (decide (500<(a2.length:Int)))
 (some ((([],([],[])),[]),(0,(2,()))))
 none))
 ((push? (α:=Bool) [] a1.2).bind λv1 =>
 (cond (decide (500<(a2.length:Int)))
 (some ((([],([],[])),[]),(0,(2,()))))
 ((ag_ (runB a0 a2) (0,(v1,([],(([],([],([],([],())))),((a1.1.1,(a1.1.2.1,(a1.1.2.2,()))),())))))).bind λv33 =>
 (cc_ v33 (λv34=>((push? (α:=Int) [] v34.2.2.2.1.1).bind λv36 =>
 ((push? (α:=Int) [] v34.2.2.2.1.2.1).bind λv37 =>
 ((push? (α:=Int) [] v34.2.2.2.1.2.2.1).bind λv38 =>
 ((push? (α:=Bool) [] v34.1).bind λv39 =>
 (some (((v36,(v37,v38)),v39),(0,(0,())))))))))
 (λv35=>(some v35))))))))
theorem runX_eq:pf_=runX:=by kernel_rfl
theorem stM_eq {g:ad_} (hg:SmG g) (h0:bw_ g=0) {p q:aa_} (hv:VP g p) {mm:List ab_} (hM:Me g p.2 mm) {m:ac_} (h:stepP g p m=some q) :
    ∃ m',stM g p.2 mm (p.1.1,(p.1.2.1,(p.1.2.2,()))) m=some (!true,(q.2,(m',((q.1.1,(q.1.2.1,(q.1.2.2,()))),()))))∧Me g q.2 m':=by
  have ok:=ch_ h0
  obtain ⟨m1,e1,hM1⟩:=opM_eq hg ok hv.rd hM m
  unfold stepP at h
  cases ho:okM g p.2 m with
  | false=>rw [ho] at h; cases h
  | true =>
  cases hl:lgl g.1 p.1 m with
  | false=>rw [ho,hl] at h; cases h
  | true =>
  rw [ho,hl] at h
  cases hs:vf_ g.1 p.1 m with
  | none=>rw [hs] at h; cases h
  | some s =>
  rw [hs] at h
  have h:some (s,rdN g s p.2)=some q:=h
  obtain rfl:=a6_ h
  have hv2:=qr_ hg.room ok.room hv.st hl hs
  obtain ⟨m',e2,hM2⟩:=pbg_mem hg ok hv2 hv.rd hM1
  refine ⟨m',?_,hM2⟩
  unfold stM
  rw [e1,ho,a0_]
  simp only [d8_,a2_]
  rw [show ((p.1.1,(p.1.2.1,p.1.2.2)):ai_)=p.1 from rfl,vk_ hg.room ok.room hv.st m,a0_,hl,a4_,hs]
  simp only [Option.elim_some,show ((0:Int) != 0)=false from rfl,a2_]
  rw [e2]
  rfl
theorem aw4 {g:ad_}:∀ (a b:List ac_) (p:aa_),xv_ g p (a++b)=(xv_ g p a).bind λr=>xv_ g r b
  | [],b,p=>rfl
  | m::a,b,p=>by
    rw [i7_,xv_,xv_]
    cases stepP g p m with
    | none=>rfl
    | some q=>exact aw4 a b q
theorem cg7 {g:ad_} (hg:SmG g) (h0:bw_ g=0) {p q:aa_} (hv:VP g p) {ms:List ac_} (hl:ms.length≤500) (h:xv_ g p ms=some q):pf_ g p ms=some (q,(0,(0,()))):=by
  have ok:=ch_ h0
  have hn:=hg.nt
  have hrd:=hv.rd
  rw [runX_eq]
  unfold runX
  rw [qf_ hg h0 hv,a0_]
  simp only [show ((0:Int) != 0)=false from rfl,a2_]
  rw [au_ (show Sm p.2.length by show _≤1000000000; omega),a0_,b5_ (show ¬ ((500:Int)<(ms.length:Int)) by omega),a2_]
  have pre:∀ i,∃ r,xv_ g p (ms.take i)=some r:=λi=>by
    have:=h
    rw [← f5_ i ms,aw4] at this
    obtain ⟨r,hr,_⟩:=j8_.1 this
    exact ⟨r,hr⟩
  refine ie_ ms.length (λ(i:Nat) (z:RunS)=>∃ mm r,xv_ g p (ms.take i)=some r∧z=((i:Int),(r.2,(mm,(([],([],([],([],())))),((r.1.1,(r.1.2.1,(r.1.2.2,()))),())))))∧Me g r.2 mm) ⟨[],p,rfl,rfl,λlock _=>.inl rfl,List.nodup_nil⟩ (λi z hi hz => ?_) (λz hz => ?_)
  · obtain ⟨mm,r,hr,rfl,hM⟩:=hz
    obtain ⟨m,hm⟩:=az_ hi
    obtain ⟨r',hr'⟩:=pre (i+1)
    have hstep:stepP g r m=some r':=by
      rw [d2_,hm] at hr'
      have hr':xv_ g p (ms.take i++[m])=some r':=hr'
      rw [ai3,hr] at hr'
      exact hr'
    obtain ⟨m',e,hM'⟩:=stM_eq hg h0 (aa0 hg h0 _ _ _ hv hr) hM hstep
    refine ⟨_,?_,m',r',hr',rfl,hM'⟩
    unfold runB
    simp only [dlt hi,a4_,ah_ hm,a0_,e,d8_,a2_,ay_ (show Sm i by show _≤1000000000; omega)]
  · obtain ⟨mm,r,hr,rfl,hM⟩:=hz
    rw [d6_,h] at hr
    obtain rfl:=a6_ hr
    have hvq:=aa0 hg h0 _ _ _ hv h
    obtain ⟨m1,m2,m3⟩:=nf_ hg.room (bj_ ok.room) hvq.st
    have hrq:=hvq.rd
    refine ⟨_,by unfold runB; simp only [dnl,a2_]; rfl,?_⟩
    show cc_ (inl _) _ _=_
    simp only [cc_]
    rw [au_ m1,a0_,au_ m2,a0_,au_ m3,a0_,au_ (show Sm q.2.length by show _≤1000000000; omega),a0_]
theorem an4 {σ ρ υ:Type} {body:σ→Option (σ⊕ρ)} {K:ρ→Option υ} {x:Option υ} {z0:σ} (I:Nat→σ→Prop) (n:Nat) (h0:I 0 z0)
    (st:∀ j s,j<n→I j s→(∃ s',body s=some (.inl s')∧I (j+1) s')∨∃ r,body s=some (.inr r)∧K r=x) (e:∀ s,I n s→∃ r,body s=some (.inr r)∧K r=x):(ag_ body z0).bind K=x:=by
  obtain ⟨r,h1,h2⟩:=gt_ I (λr=>K r=x) n 0 z0 h0 (λj s _ hj hs=>st j s (by omega) hs) (λs hs=>e s (by rwa [b0_] at hs))
  rw [h1,a0_,h2]
end
section
set_option maxRecDepth 10000

end
section
set_option maxRecDepth 100000
def DeadP (g:ad_) (p:aa_):Prop:=∃ (j:Nat) (v:Int),(exG g).1.1[j]?=some p∧(dstG g (-1))[j]?=some v∧v<0
theorem Gr.lc {g:ad_} (hG:Gr g):LC (exG g).1.2 (qm_ g (exG g).1.1) (dstG g (-1)):=by
  have:=hG.dc (-1)
  rw [hG.al] at this
  exact this
theorem DeadP.not_fin {g:ad_} (hG:Gr g) {p:aa_} (h:DeadP g p):cx_ p.1.1 g.1.2.2.2.2.2.2.2=false:=by
  obtain ⟨j,v,h1,h2,h3⟩:=h
  cases hf:cx_ p.1.1 g.1.2.2.2.2.2.2.2 with
  | false=>rfl
  | true =>
    have:=(hG.lc.z j v h2).2 (by rw [ae1 h1]; exact hf)
    omega
theorem DeadP.step {g:ad_} (hG:Gr g) {p q:aa_} (h:DeadP g p) {m:ac_} (hs:stepP g p m=some q):DeadP g q:=by
  obtain ⟨j,v,h1,h2,h3⟩:=h
  obtain ⟨row,n,g1,g2,g3⟩:=bl1 hG.h0 hG.ge hG.gI.pI hG.len h1 hs
  obtain ⟨w,hw⟩:=az_ (l:=dstG g (-1)) (i:=n) (by rw [hG.dl]; exact al_ g3)
  refine ⟨n,w,g3,hw,?_⟩
  by_cases h0:0≤w
  · exfalso
    obtain ⟨k,rfl⟩:=m0_ h0
    obtain ⟨u,u1,u2,_⟩:=hG.lc.up j row (m,(n:Int)) k g1 g2 (ah_ hw)
    rw [h2] at u1
    have:=a6_ u1
    omega
  · omega
theorem am2 {g:ad_} (he:(exG g).2.1=0) (hG:Gr g) (h:(ah1 g).2.1=true):∃ q,xv_ g (po_ g).1 (ah1 g).1=some q∧DeadP g q∧(ah1 g).1.length≤(exG g).1.1.length:=by
  unfold ah1 at h ⊢
  rw [he] at h ⊢
  simp only [show ((0:Int) != 0)=false from rfl,a2_] at h ⊢
  cases hf:(dstG g (-1)).findIdx? (λv=>decide (v<0)) with
  | none=>rw [hf] at h; cases h
  | some t =>
    rw [o0_] at hf
    obtain ⟨ht,h1,_⟩:=hf
    have htn:t<(exG g).1.1.length:=by rw [← hG.dl (-1)]; exact ht
    have hF:=bw7 he
    obtain ⟨xs,x1,x2⟩:=cn6 hF t t htn (c3_ _)
    obtain ⟨q,q1,q2⟩:=bp1 hG.ge xs 0 t _ x1 hG.p0
    have:=zk_ hF t t htn (c3_ _)
    rw [x2] at q1
    exact ⟨q,q1,⟨t,_,q2,a7_ ht,g6_ h1⟩,by simp only; omega⟩
theorem cl4 {g:ad_}:(ah1 g).2.2.1=(exG g).2.1∧((exG g).2.1≠0→(ah1 g).2.1=false):=by
  unfold ah1
  cases h:(exG g).2.1 != 0 with
  | true=>exact ⟨rfl,λ_=>rfl⟩
  | false =>
    have h0:(exG g).2.1=0:=by simpa using h
    simp only [a2_]
    cases (dstG g (-1)).findIdx? (λv=>decide (v<0)) with
    | none=>exact ⟨h0.symm,λ_=>rfl⟩
    | some t=>exact ⟨h0.symm,λe=>absurd h0 e⟩
theorem cl3 {g:ad_} (hg:SmG g):(ah1 g).1.length≤3000:=by
  by_cases he:(exG g).2.1=0
  · have hG:=bb3 hg he
    cases h:(ah1 g).2.1 with
    | true =>
      obtain ⟨_,_,_,hl⟩:=am2 he hG h
      have:=hG.n
      omega
    | false =>
      have:(ah1 g).1=[]:=by
        unfold ah1 at h ⊢
        rw [he] at h ⊢
        simp only [show ((0:Int) != 0)=false from rfl,a2_] at h ⊢
        cases hf:(dstG g (-1)).findIdx? (λv=>decide (v<0)) with
        | none=>rfl
        | some t=>rw [hf] at h; cases h
      rw [this]
      exact n1_ _
  · have:(ah1 g).1=[]:=by
      unfold ah1
      rw [show ((exG g).2.1 != 0)=true from p1_.2 he]
      rfl
    rw [this]
    exact n1_ _
end
section
set_option maxRecDepth 100000
def tg {α:Type} (f:Nat→α) (A:Nat):List α:=(List.range A).map f
theorem av7 {α:Type} (f:Nat→α) (A:Nat):(tg f A).length=A:=by unfold tg; rw [d4_,h2_]
theorem tf_ {α:Type} {f:Nat→α} {A n:Nat} (h:n<A):(tg f A)[n]?=some (f n):=by
  unfold tg
  rw [d7_,l8_ h]
  rfl
theorem zm_ {α:Type} {f h:Nat→α} {A:Nat} (e:∀ n,n<A→f n=h n):tg f A=tg h A:=by
  unfold tg
  exact l7_ λn hn=>e n (by simpa using hn)
theorem bk5 {α:Type} {f h:Nat→α} {A n:Nat} (hn:n<A) (e1:∀ m,m≠n→f m=h m):(tg f A).set n (h n)=tg h A:=by
  refine e2_ λj => ?_
  by_cases hj:j<A
  · rw [tf_ hj]
    by_cases e:n=j
    · subst e
      rw [e5_ (by rw [av7]; exact hj)]
    · rw [b4_ e,tf_ hj,e1 j (λk=>e k.symm)]
  · rw [b1_ (by rw [f7_,av7]; omega),b1_ (by rw [av7]; omega)]
theorem tg_mk {α:Type} {A:Nat} (hA:A≤1000000) (z:α):mk? (α:=α) (A:Int) z=some (tg (λ_=>z) A):=by
  unfold mk?
  rw [if_pos (by omega),c0_]
  congr 1
  refine e2_ λj => ?_
  by_cases hj:j<A
  · rw [tf_ hj,i3_,if_pos hj]
  · rw [b1_ (by rw [f1_]; omega),b1_ (by rw [av7]; omega)]
def kn (L:List (Nat×ae_)) (k:Nat):Bool:=decide (k=0)||(L.find? (toB k)).isSome
def wk (es:List (List ae_)) (L:List (Nat×ae_)) (k:Nat):List ac_:=cond (kn L k) (way es k) []
theorem wf_ (L:List (Nat×ae_)) (z:Nat×ae_) (k:Nat):kn (L++[z]) k=(kn L k||toB k z):=by
  unfold kn
  rw [pd_,Bool.or_assoc]
  congr 1
  cases L.find? (toB k) with
  | some y=>rfl
  | none =>
    rw [Option.none_or]
    cases h:toB k z with
    | true=>rw [k3_ h]; rfl
    | false=>rw [m1_ (by rw [h]; decide)]; rfl
noncomputable def dedB (es:List (List ae_)) (i:Nat):(Int×((List (List ac_))×((List Bool)×Unit)))→Option ((Int×((List (List ac_))×((List Bool)×Unit)))⊕((List (List ac_))×((List Bool)×Unit))) :=
 (λ(v10:(Int×((List (List ac_))×((List Bool)×Unit)))) =>
 ((at? es (i:Int)).bind λv11 =>
 (cond (decide (v10.1<(v11.length:Int)))
 ((((at? es (i:Int)).bind λv12 =>
 ((at? v12 v10.1).bind λv13 =>
 ((at? v10.2.2.1 v13.2).bind λv14 =>
 ((at? v10.2.2.1 v13.2).bind λv15 =>
 (cond (!v15)
 ((at? v10.2.2.1 v13.2).bind λv16 =>
 ((at? v10.2.2.1 v13.2).bind λv17 =>
 ((at? v10.2.1 (i:Int)).bind λv18 =>
 ((at? v10.2.1 (i:Int)).bind λv19 =>
 ((push? (α:=ac_) [] v19).bind λv20 =>
 ((push? (α:=ac_) v20 [v13.1]).bind λv21 =>
 ((at? v10.2.1 v13.2).bind λv22 =>
 ((at? v10.2.1 v13.2).bind λv23 =>
 (some ((v10.2.1.set v13.2.toNat v21),((v10.2.2.1.set v13.2.toNat true),())))))))))))
 (some (v10.2.1,(v10.2.2.1,()))))))))).bind λv24 =>
 (some (inl ((w64 (v10.1+1)),(v24.1,(v24.2.1,()))))))
 (some (inr (v10.2.1,(v10.2.2.1,())))))))
theorem cr0 {es:List (List ae_)} {n i:Nat} (hF:FE es n) (hi:i<n) {L:List (Nat×ae_)}:kn (flE 0 (es.take i)++L) i=true:=by
  unfold kn
  by_cases h:i=0
  · rw [b9_ h]; rfl
  · obtain ⟨j,row,x,h1,h2,h3,h4,_⟩:=lu_ hF (by omega) hi
    have:(flE 0 (es.take i)++L).find? (toB i)≠none:=by
      rw [Ne,o1_]
      intro hn
      have hm:(j,x) ∈ flE 0 (es.take (j+1)):=by
        rw [ro_ h2]
        exact m3_ _ (d9_.2 ⟨x,h3,rfl⟩)
      have hsub:es.take i=es.take (j+1)++(es.take i).drop (j+1):=by
        have:=(f5_ (j+1) (es.take i)).symm
        rw [List.take_take,p3_ (by omega)] at this
        exact this
      have hm2:(j,x) ∈ flE 0 (es.take i):=by
        rw [hsub,wu_]
        exact i6_ _ hm
      refine hn _ (i6_ _ hm2) ?_
      show (x.2==(i:Int))=true
      rw [h4]
      exact d3_ _
    cases hf:(flE 0 (es.take i)++L).find? (toB i) with
    | none=>exact absurd hf this
    | some y=>rw [Bool.or_comm]; rfl
theorem ded_row {es:List (List ae_)} {n i:Nat} (hF:FE es n) (hn:n≤3000) (hi:i<n) {row:List ae_} (hr:es[i]?=some row) (hrl:row.length≤480) (hx:∀ x ∈ row,0≤x.2∧x.2<(n:Int)) :
    ag_ (dedB es i) (0,(tg (wk es (flE 0 (es.take i))) n,(tg (kn (flE 0 (es.take i))) n,())))=some (tg (wk es (flE 0 (es.take (i+1)))) n,(tg (kn (flE 0 (es.take (i+1)))) n,())):=by
  have gen:=ap5 row.length (λk=>((k:Int),(tg (wk es (flE 0 (es.take i)++(row.take k).map (λx=>(i,x)))) n,(tg (kn (flE 0 (es.take i)++(row.take k).map (λx=>(i,x)))) n,())))) (body:=dedB es i)
    (r:=(tg (wk es (flE 0 (es.take (i+1)))) n,(tg (kn (flE 0 (es.take (i+1)))) n,()))) (λk hk => ?_) ?_
  · rw [← gen]
    simp only [j0_,p4_,e1_]
    rfl
  · obtain ⟨x,hxk⟩:=az_ hk
    obtain ⟨x0,x1⟩:=hx x (ax_ hxk)
    obtain ⟨t,ht⟩:=m0_ x0
    have htn:t<n:=by omega
    generalize hL:flE 0 (es.take i)++(row.take k).map (λx=>(i,x))=L
    have hL':flE 0 (es.take i)++(row.take (k+1)).map (λx=>(i,x))=L++[(i,x)]:=by
      rw [d2_,hxk,← hL]
      simp
    have hki:kn L i=true:=by rw [← hL]; exact cr0 hF hi
    have hwi:wk es L i=way es i:=by unfold wk; rw [hki]; rfl
    have hwl:=zk_ hF i i hi (c3_ _)
    rw [hL']
    unfold dedB
    simp only [ah_ hr,ah_ hxk,dlt hk,a4_,a0_,ht,ah_ (tf_ (f:=kn L) htn),ah_ (tf_ (f:=wk es L) hi),ah_ (tf_ (f:=wk es L) htn),hwi,ay_ (show Sm k by show _≤1000000000; omega),c0_]
    have other:∀ m,m≠t→toB m (i,x)=false:=λm hm=>by
      show (x.2==(m:Int))=false
      rw [ht]
      exact m2_ (by omega)
    cases hk2:kn L t with
    | true =>
      have e1:tg (kn L) n=tg (kn (L++[(i,x)])) n:=zm_ λm _=>by
        rw [wf_]
        by_cases hm:m=t
        · subst hm; rw [hk2]; rfl
        · rw [other m hm,g9_]
      have e2:tg (wk es L) n=tg (wk es (L++[(i,x)])) n:=zm_ λm _=>by
        unfold wk
        rw [wf_]
        by_cases hm:m=t
        · subst hm; rw [hk2]; rfl
        · rw [other m hm,g9_]
      simp only [d8_,a2_,a0_]
      rw [← e1,← e2]
    | false =>
      have hk3:decide (t=0)=false∧(L.find? (toB t)).isSome=false:=by
        unfold kn at hk2
        rwa [c2_] at hk2
      have ht0:0<t:=by have:=d1_ hk3.1; omega
      have hnone:L.find? (toB t)=none:=by
        cases h:L.find? (toB t) with
        | none=>rfl
        | some y=>rw [h] at hk3; cases hk3.2
      have hpar:cp6 es t=some (i,x):=by
        unfold cp6
        have hsplit:es=es.take (i+1)++es.drop (i+1):=(f5_ _ _).symm
        have hrow:row=row.take k++(x::row.drop (k+1)):=by
          have:=(f5_ k row).symm
          rw [j1_ hk] at this
          rw [a7_ hk] at hxk
          rw [a6_ hxk] at this
          exact this
        rw [hsplit,wu_,pd_,ro_ hr]
        have:flE 0 (es.take i)++row.map (λx=>(i,x))=L++(i,x)::(row.drop (k+1)).map (λx=>(i,x)):=by
          rw [← hL,b3_]
          congr 1
          conv=>lhs; rw [hrow]
          rw [h6_,f9_]
        rw [this,pd_,hnone,Option.none_or,k3_ (show toB t (i,x)=true by show (x.2==(t:Int))=true; rw [ht]; exact d3_ _)]
        rfl
      have hway:=ug_ hF ht0 htn hpar
      have k1:kn (L++[(i,x)]) t=true:=by
        rw [wf_,show toB t (i,x)=true by show (x.2==(t:Int))=true; rw [ht]; exact d3_ _,n6_]
      have k2:wk es (L++[(i,x)]) t=way es i++[x.1]:=by unfold wk; rw [k1,a4_,hway]
      simp only [g3_,a4_,au_ (show Sm (way es i).length by show _≤1000000000; omega),cd_ (show Sm (way es i).length by show _≤1000000000; omega),a0_]
      have s1:=bk5 (f:=kn L) (h:=kn (L++[(i,x)])) htn λm hm=>by rw [wf_,other m hm,g9_]
      have s2:=bk5 (f:=wk es L) (h:=wk es (L++[(i,x)])) htn λm hm=>by unfold wk; rw [wf_,other m hm,g9_]
      rw [k1] at s1
      rw [k2] at s2
      rw [s1,s2]
  · unfold dedB
    simp only [ah_ hr,dnl,a2_,a0_,d6_,ro_ hr]
theorem bf5 {g:ad_} (hg:SmG g):kv_ g=some (ah1 g):=by
  unfold kv_ ah1
  rw [qy_ hg,a0_]
  cases hE:(exG g).2.1 != 0 with
  | true=>rfl
  | false =>
  have hE0:(exG g).2.1=0:=by simpa using hE
  have hG:=bb3 hg hE0
  have hF:=bw7 hE0
  have hn:=hG.n
  have hdl:=hG.dl (-1)
  have hel:=hG.len
  have hpos:=hG.pos
  simp only [a2_]
  rw [show cq_ g (exG g).1 (-1)=some (dstG g (-1),()) from bn5 hg hG.h0 hG.gI hG.len (-1),a0_]
  rw [tg_mk (by omega),a0_,tg_mk (by omega),a0_]
  have a0:at? (tg (λ_=>false) (exG g).1.1.length) 0=some false:=ah_ (tf_ (f:=λ_=>false) (n:=0) (by omega))
  rw [a0,a0_,a0_]
  have i1:(tg (λ_=>false) (exG g).1.1.length).set (0:Int).toNat true=tg (kn (flE 0 ((exG g).1.2.take 0))) (exG g).1.1.length:=by
    have:=bk5 (f:=λ_=>false) (h:=kn (flE 0 ((exG g).1.2.take 0))) (A:=(exG g).1.1.length) (n:=0) (by omega) λm hm=>by
      unfold kn
      rw [b5_ hm]
      rfl
    exact this
  have i2:tg (λ_=>([]:List ac_)) (exG g).1.1.length=tg (wk (exG g).1.2 (flE 0 ((exG g).1.2.take 0))) (exG g).1.1.length:=zm_ λm _=>by
    unfold wk
    by_cases hm:m=0
    · subst hm; rfl
    · unfold kn
      rw [b5_ hm]
      rfl
  rw [i1,i2]
  generalize hN:(exG g).1.1.length=N at *
  have hcase:(∃ t,(dstG g (-1)).findIdx? (λv=>decide (v<0))=some t)∨(dstG g (-1)).findIdx? (λv=>decide (v<0))=none:=by
    cases (dstG g (-1)).findIdx? (λv=>decide (v<0)) with
    | none=>exact .inr rfl
    | some t=>exact .inl ⟨t,rfl⟩
  refine an4 (λi (z:Int×((List (List ac_))×((List Bool)×Unit)))=>z=((i:Int),(tg (wk (exG g).1.2 (flE 0 ((exG g).1.2.take i))) N,(tg (kn (flE 0 ((exG g).1.2.take i))) N,())))∧∀ j v,j<i→(dstG g (-1))[j]?=some v→¬ v<0) N ⟨rfl,λj v h=>by omega⟩ (λi z hi hz => ?_) (λz hz => ?_)
  · obtain ⟨rfl,hb⟩:=hz
    obtain ⟨v,hv⟩:=az_ (l:=dstG g (-1)) (i:=i) (by omega)
    obtain ⟨row,hr⟩:=az_ (l:=(exG g).1.2) (i:=i) (by omega)
    have hki:=cr0 hF hi (L:=[])
    rw [e1_] at hki
    simp only [dlt hi,a4_,ah_ hv,a0_]
    cases hv0:decide (v<0) with
    | true =>
      refine .inr ?_
      have hfi:(dstG g (-1)).findIdx? (λv=>decide (v<0))=some i:=zc_ hv hv0 λj u hj hu=>b5_ (hb j u hj hu)
      simp only [a4_,ah_ (tf_ (f:=wk (exG g).1.2 (flE 0 ((exG g).1.2.take i))) hi),a0_]
      refine ⟨_,rfl,?_⟩
      rw [hfi]
      unfold wk
      rw [hki]
      rfl
    | false =>
      refine .inl ⟨(((i+1:Nat):Int),(tg (wk (exG g).1.2 (flE 0 ((exG g).1.2.take (i+1)))) N,(tg (kn (flE 0 ((exG g).1.2.take (i+1)))) N,()))),?_,rfl,λj u hj hu => ?_⟩
      · simp only [a2_]
        refine e6_ (congrArg (λo=>Option.bind o _) (ded_row hF hn hi hr (hG.gI.eL row (ax_ hr)) (λx hx=>by rw [← hN]; exact hG.xx row (ax_ hr) x hx))) ?_
        rw [a0_,ay_ (show Sm i by show _≤1000000000; omega)]
      · by_cases e:j=i
        · subst e
          rw [hv] at hu
          rw [← a6_ hu]
          exact d1_ hv0
        · exact hb j u (by omega) hu
  · obtain ⟨rfl,hb⟩:=hz
    simp only [dnl,a2_]
    refine ⟨_,rfl,?_⟩
    have:(dstG g (-1)).findIdx? (λv=>decide (v<0))=none:=by
      rw [List.findIdx?_eq_none_iff]
      intro v hv
      obtain ⟨j,hj⟩:=f8_ hv
      exact b5_ (hb j v (by rw [← hdl]; exact al_ hj) hj)
    rw [this]
    rfl
end
section
set_option maxRecDepth 10000

end
section
set_option maxRecDepth 10000

end
section
set_option maxRecDepth 100000
theorem we_ {g:ad_} (hg:SmG g) (h0:bw_ g=0) {p:aa_} (hv:VP g p):hi_ g p=some (true,()):=by
  unfold hi_ fc_
  rw [pz_ hg,a0_,h0]
  simp only [show ((0:Int) != 0)=false from rfl,a2_]
  rw [mz_ hg.room,a0_]
  have hs:lm_ g.1 p.1=0:=fg_ (ch_ h0).room hv.st
  rw [hs,hv.rd]
  simp only [show ((0:Int) != 0)=false from rfl,i9_,a2_,a0_]
  rfl
theorem bu5 {g:ad_} (hg:SmG g) (h0:bw_ g=0) {p:aa_} (hv:VP g p):bd_ p.1 g.1.2.2.2.2.2.2.2=some (cx_ p.1.1 g.1.2.2.2.2.2.2.2,()):=by
  have hgo:=hg.go
  have hl1:=hv.st.l1
  obtain ⟨c1,c2⟩:=ru_ hg.room.th (bj_ (ch_ h0).room).go
  exact he_ (s:=p.1) (show Sm _ by show _≤1000000000; omega) (by show InC p.1.1.length _; rw [hl1]; exact c1)
abbrev fn (g:ad_) (q:aa_):Bool:=cx_ q.1.1 g.1.2.2.2.2.2.2.2
end
section
set_option maxRecDepth 100000
theorem law05_ProveDies (g:ad_) (l:List ac_):hy_ g l=some (true,()):=by
  obtain ⟨b,e,hb⟩:=ak9 g
  unfold hy_
  rw [e,a0_]
  cases b with
  | true=>simp only [a4_,kc_,a0_]
  | false =>
  have hN:=hb rfl
  have hg:=hN.sm
  cases hl:decide (30<(l.length:Int)) with
  | true=>simp only [a4_,a2_,kc_,a0_]
  | false =>
  have hl:=d1_ hl
  simp only [a2_,a0_]
  have hlen:=cl3 hg
  obtain ⟨d1,d2⟩:=cl4 (g:=g)
  rw [bf9 hg,a0_,bg5 hg,a0_,bf5 hg,a0_,be8 (show _≤1000000000 by omega),a0_]
  simp only [d8_,a2_,i9_,a0_,d1]
  cases hE:(exG g).2.1 != 0 with
  | true=>simp only [a4_,kc_,a0_]
  | false =>
  have hE0:(exG g).2.1=0:=by simpa using hE
  have hG:=bb3 hg hE0
  cases hd:(ah1 g).2.1 with
  | false=>simp only [a4_,a2_,g3_,kc_,a0_]
  | true =>
  obtain ⟨q,q1,q2,q3⟩:=am2 hE0 hG hd
  have hn:=hN.n hG.h0
  have h0:=hG.h0
  obtain ⟨_,hv0⟩:=xm_ hg hG.e0
  have hvq:=aa0 hg h0 _ _ _ hv0 q1
  simp only [d8_,a2_,a0_]
  rw [vr_ hg,a0_,cg7 hg h0 hv0 (by omega) q1,a0_,hG.e0]
  simp only [show ((0:Int) != 0)=false from rfl,a2_]
  rw [we_ hg h0 hvq,a0_]
  simp only [d8_,a2_,a0_]
  refine an4 (λn (z:Int×(((List Int)×((List Int)×((List Int)×((List Bool)×Unit))))×Unit))=>∃ p,VP g p∧DeadP g p∧z=((n:Int),((p.1.1,(p.1.2.1,(p.1.2.2,(p.2,())))),()))) l.length ⟨q,hvq,q2,rfl⟩ (λn z hn hz => ?_) (λz hz => ?_)
  · obtain ⟨p,hvp,hdp,rfl⟩:=hz
    obtain ⟨m,hm⟩:=az_ hn
    refine .inl ?_
    simp only [dlt hn,a4_,ah_ hm,a0_,ay_ (show Sm n by show _≤1000000000; omega)]
    rw [show ((p.1.1,(p.1.2.1,p.1.2.2)):ai_)=p.1 from rfl,show (((p.1,p.2)):aa_)=p from rfl,bu5 hg h0 hvp,a0_,hdp.not_fin hG]
    simp only [a2_]
    rw [ak0 hg h0 hvp,a0_]
    cases hs:stepP g p m with
    | none =>
      refine ⟨(((n+1:Nat):Int),((p.1.1,(p.1.2.1,(p.1.2.2,(p.2,())))),())),?_,p,hvp,hdp,rfl⟩
      rfl
    | some r =>
      have hvr:=qs_ hg h0 hvp hs
      refine ⟨(((n+1:Nat):Int),((r.1.1,(r.1.2.1,(r.1.2.2,(r.2,())))),())),?_,r,hvr,hdp.step hG hs,rfl⟩
      simp only [Option.elim_some,show ((0:Int)==0)=true from rfl,a4_]
      rw [we_ hg h0 hvr,a0_]
      rfl
  · obtain ⟨p,hvp,hdp,rfl⟩:=hz
    simp only [dnl,a2_]
    refine ⟨_,rfl,?_⟩
    simp only [cc_]
    rw [show ((p.1.1,(p.1.2.1,p.1.2.2)):ai_)=p.1 from rfl,bu5 hg h0 hvp,a0_,hdp.not_fin hG]
    simp only [g3_,a4_,kc_,a0_]
end
end Go.Proofs.YtdibamopklkilaaGreatDoor.Rx
