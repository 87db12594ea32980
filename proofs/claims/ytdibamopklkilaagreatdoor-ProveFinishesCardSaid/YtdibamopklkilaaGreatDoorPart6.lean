/- A part of the proof: what the functions of the program compute, shown over the model. -/
import Derived.Test.YtdibamopklkilaaGreatDoorPart5
set_option linter.unusedSectionVars false
set_option linter.unusedVariables false
set_option linter.unusedSimpArgs false
namespace Go.Proofs.YtdibamopklkilaaGreatDoor.Rx
open Go Pad Rex Sum
section
set_option maxRecDepth 10000
def Pa (es:List (List ad_)):Nat→List ad_→Nat→Prop
  | i,[],j=>i=j
  | i,x::xs,j=>∃ row,es[i]?=some row∧x ∈ row∧∃ n:Nat,x.2=(n:Int)∧Pa es n xs j
theorem LC_pa {es:List (List ad_)} {fin:Nat→Bool} {D:List Int} (hL:LC es fin D):∀ (xs:List ad_) (i j:Nat),Pa es i xs j→fin j=true→j<D.length→∃ k:Nat,D[i]?=some (k:Int)∧k≤xs.length
  | [],i,j,h,hf,hj=>by
    obtain rfl:i=j:=h
    obtain⟨v,hv⟩:=aw_ hj
    have:=(hL.z i v hv).2 hf
    exact⟨0,by rw[hv,this];rfl,c4_ _⟩
  | x::xs,i,j,h,hf,hj=>by
    obtain⟨row,h1,h2,n,h3,h4⟩:=h
    obtain⟨k,h5,h6⟩:=LC_pa hL xs n j h4 hf hj
    obtain⟨v,h7,h8,h9⟩:=hL.up i row x k h1 h2 (by rw[h3];exact ah_ h5)
    obtain⟨m,rfl⟩:=g5_ h8
    exact⟨m,h7,by rw[c5_];omega⟩
theorem wq_ {es:List (List ad_)} {act:Int}:∀ (xs:List ad_) (i j:Nat),Pa (esF act es) i xs j→Pa es i xs j∧∀ x ∈ xs,kp act x=true
  | [],i,j,h=>⟨h,λx hx=>by simp at hx⟩
  | x::xs,i,j,h=>by
    obtain⟨row,h1,h2,n,h3,h4⟩:=h
    obtain⟨g1,g2⟩:=wq_ xs n j h4
    have h1':(es[i]?).map (λl=>l.filter (kp act))=some row:=by
      rw[← h1]
      unfold esF
      rw[d6_]
    cases hr:es[i]? with
    | none=>rw[hr] at h1';cases h1'
    | some r0 =>
      rw[hr] at h1'
      obtain rfl:r0.filter (kp act)=row:=a5_ h1'
      obtain⟨m1,m2⟩:=d1_.1 h2
      refine⟨⟨r0,hr,m1,n,h3,g1⟩,λy hy => ?_⟩
      rcases e1_.1 hy with rfl | hy
      · exact m2
      · exact g2 y hy
theorem cq5 {es:List (List ad_)} {fin:Nat→Bool} {D:List Int} (hL:LC es fin D) (hxx:∀ l ∈ es,∀ x ∈ l,0≤x.2∧x.2<(D.length:Int)):∀ (k i:Nat),D[i]?=some (k:Int)→∃ xs j,Pa es i xs j∧shp es D k (i:Int)=xs.map (·.1)∧fin j=true∧j<D.length∧xs.length=k
  | 0,i,h=>⟨[],i,rfl,rfl,(hL.z i 0 h).1 rfl,(a3_.1 h).1,rfl⟩
  | k+1,i,h=>by
    obtain⟨l,x,hl,hx,hat⟩:=hL.dn i k h
    have hatl:at? es (i:Int)=some l:=ah_ hl
    cases hf:l.find? (λx=>gi D x.2==(k:Int)) with
    | none =>
      have:=p4_.1 hf x hx
      rw[ji_ hat] at this
      simp at this
    | some y =>
      have hy:gi D y.2=(k:Int):=by
        have:=List.find?_some hf
        exact f2_.1 this
      have hyl:=n1_ hf
      obtain⟨y0,y1⟩:=hxx l (au_ hl) y hyl
      have haty:at? D y.2=some (k:Int):=by rw[mu_ y0 y1,hy]
      obtain⟨n,hn,hn2⟩:=sk_ haty
      obtain⟨xs,j,g1,g2,g3,g4,g5⟩:=cq5 hL hxx k n hn2
      refine⟨y::xs,j,⟨l,hl,hyl,n,hn,g1⟩,?_,g3,g4,by rw[c5_,g5]⟩
      rw[shp,hatl,e5_,hf,j8_]
      show y.1::shp es D k y.2=_
      rw[hn,g2]
theorem ct1 {q:ae_→Bool} {i k:Int}:∀ (n:Nat) (l:List ae_),(∀ m ∈ l,m ∈ mvK q i k n l)∧∀ j:Nat,j<n→q (i,(k,(j:Int)))=true→(i,(k,(j:Int))) ∈ mvK q i k n l
  | 0,l=>⟨λm h=>h,λj h=>by omega⟩
  | n+1,l=>by
    obtain⟨h1,h2⟩:=ct1 n l
    unfold mvK
    cases hq:q (i,(k,(n:Int))) with
    | false =>
      refine⟨h1,λj hj hqj => ?_⟩
      by_cases e:j=n
      · subst e;rw[hq] at hqj;cases hqj
      · exact h2 j (by omega) hqj
    | true =>
      refine⟨λm hm=>by simp[h1 m hm],λj hj hqj => ?_⟩
      by_cases e:j=n
      · subst e;simp
      · have:=h2 j (by omega) hqj
        simp[this]
theorem ct2 {q:ae_→Bool} {i:Int} {c:Nat→Nat}:∀ (K:Nat) (l:List ae_),(∀ m ∈ l,m ∈ mvJ q i c K l)∧∀ k j:Nat,k<K→j<c k→q (i,((k:Int),(j:Int)))=true→(i,((k:Int),(j:Int))) ∈ mvJ q i c K l
  | 0,l=>⟨λm h=>h,λk j h=>by omega⟩
  | K+1,l=>by
    obtain⟨h1,h2⟩:=ct2 (q:=q) (i:=i) (c:=c) K l
    unfold mvJ
    obtain⟨h3,h4⟩:=ct1 (q:=q) (i:=i) (k:=(K:Int)) (c K) (mvJ q i c K l)
    refine⟨λm hm=>h3 m (h1 m hm),λk j hk hj hq => ?_⟩
    by_cases e:k=K
    · subst e;exact h4 j hj hq
    · exact h3 _ (h2 k j (by omega) hj hq)
theorem cs9 {q:ae_→Bool} {c:Nat→Nat}:∀ (n:Nat) (i k j:Nat),i<n→k<5→j<c k→q ((i:Int),((k:Int),(j:Int)))=true→((i:Int),((k:Int),(j:Int))) ∈ mvs q c n
  | 0,i,k,j,h,_,_,_=>by omega
  | n+1,i,k,j,h,hk,hj,hq=>by
    unfold mvs
    obtain⟨h3,h4⟩:=ct2 (q:=q) (i:=(n:Int)) (c:=c) 5 (mvs q c n)
    by_cases e:i=n
    · subst e;exact h4 k j hk hj hq
    · exact h3 _ (cs9 n i k j (by omega) hk hj hq)
theorem cb9 {α:Type} {l:List α} {x:Int} (h:x<0):at? l x=none:=by
  cases hx:at? l x with
  | none=>rfl
  | some v =>
    obtain⟨i,rfl,_⟩:=sk_ hx
    omega
theorem lgl_neg {r:af_} {s:ai_} {i k j:Int} (h:lgl r s (i,(k,j))=true):0≤j:=by
  by_cases hj:0≤j
  · exact hj
  · exfalso
    have hj:j<0:=by omega
    unfold lgl at h
    rw[a2_] at h
    have h:=h.2
    simp only[cb9 hj,Option.elim_none] at h
    revert h
    cases (k==1)<;>cases (k==2)<;>cases (k==3)<;>cases (k==4)<;>exact λh=>by cases h
theorem cl7 {r:af_} {s:ai_} {i k j:Int} (h:lgl r s (i,(k,j))=true):∃ n:Nat,k=(n:Int)∧n<5:=by
  unfold lgl at h
  rw[a2_] at h
  have h:=h.2
  simp only at h
  by_cases h1:k=1
  · exact⟨1,h1,by omega⟩
  by_cases h2:k=2
  · exact⟨2,h2,by omega⟩
  by_cases h3:k=3
  · exact⟨3,h3,by omega⟩
  by_cases h4:k=4
  · exact⟨4,h4,by omega⟩
  rw[show (k==1)=false from m5_ h1,show (k==2)=false from m5_ h2,show (k==3)=false from m5_ h3,show (k==4)=false from m5_ h4] at h
  cases h
theorem lgl_who {r:af_} {s:ai_} {i k j:Int} (h:lgl r s (i,(k,j))=true) (hs:s.2.2.length≤1000000):∃ n:Nat,i=(n:Int)∧n<s.2.2.length:=by
  unfold lgl at h
  rw[a2_] at h
  have h:=h.1
  have h0:wi i 0 (w64 ((s.2.2.length:Int) - 1))=true:=h
  unfold wi at h0
  rw[ei_ (n:=(s.2.2.length:Int) - 1) (by omega) (by omega)] at h0
  simp only[a2_,p8_] at h0
  obtain⟨n,rfl⟩:=g5_ h0.1
  exact⟨n,rfl,by omega⟩
theorem lmv_all {r:af_} (ok:OkR r) {s:ai_} (hv:VS r s) {m:ae_} (h:lgl r s m=true):m ∈ lmv r s:=by
  obtain⟨i,k,j⟩:=m
  have h3:=hv.l3
  have hpy:=ok.py
  unfold wi at hpy
  simp only[a2_,p8_] at hpy
  obtain⟨n,rfl,hn⟩:=lgl_who h (by omega)
  obtain⟨c,rfl,hc⟩:=cl7 h
  obtain⟨b,rfl⟩:=g5_ (lgl_neg h)
  unfold lmv
  refine cs9 _ n c b (by omega) hc ?_ h
  by_cases hb:b<ao9 r c
  · exact hb
  · rw[bu8 hv (n:Int) hc (by omega)] at h
    cases h
theorem br0 {g:ab_} (h0:br_ g=0) {p q:aa_} (hv:VP g p) {m:ae_} (h:stepP g p m=some q):m ∈ pmv g p:=by
  unfold pmv
  refine d1_.2 ⟨lmv_all (bn_ (cd_ h0).room) hv.st ?_,by rw[h];rfl⟩
  unfold stepP at h
  cases hc:okM g p.2 m&&lgl g.1 p.1 m with
  | true=>exact (a2_ _ _ ▸ hc).2
  | false=>rw[hc] at h;cases h
def RowI (g:ab_) (p:aa_) (ps:List aa_) (row:List ad_):Prop:=∀ x ∈ row,∃ q n,stepP g p x.1=some q∧x.2=((n:Nat):Int)∧ps[n]?=some q
theorem ya_ {g:ab_} {p:aa_} {ps ps':List aa_} {row:List ad_} (h:RowI g p ps row) (hp:∀ (n:Nat) q,ps[n]?=some q→ps'[n]?=some q):RowI g p ps' row:=λx hx=>by
  obtain⟨q,n,h1,h2,h3⟩:=h x hx
  exact⟨q,n,h1,h2,hp n q h3⟩
theorem ae7 {g:ab_} {p:aa_}:∀ (ms:List ae_) (e e':List ad_) (ps ps':List aa_),(∀ m ∈ ms,∃ q,stepP g p m=some q)→RowI g p ps e→inn g p ms e ps=some (e',ps') →
    RowI g p ps' e'∧e'.map (·.1)=e.map (·.1)++ms∧∀ (n:Nat) q,ps[n]?=some q→ps'[n]?=some q
  | [],e,e',ps,ps',hm,hr,h=>by
    unfold inn at h
    cases h
    exact⟨hr,by simp,λn q h=>h⟩
  | m::ms,e,e',ps,ps',hm,hr,h=>by
    obtain⟨q,hq⟩:=hm m (by simp)
    unfold inn at h
    rw[hq,e5_] at h
    cases hw:wh ps q with
    | some n =>
      rw[hw] at h
      have hn:=bl2 hw
      obtain⟨h1,h2,h3⟩:=ae7 ms _ e' ps ps' (λx hx=>hm x (by simp[hx])) (λx hx=>by
        rcases b8_.1 hx with hx | hx
        · exact hr x hx
        · simp at hx;subst hx;exact⟨q,n,hq,rfl,hn⟩) h
      exact⟨h1,by rw[h2];simp,h3⟩
    | none =>
      rw[hw] at h
      simp only at h
      by_cases hl:ps.length=3000
      · rw[if_pos hl] at h;cases h
      · rw[if_neg hl] at h
        have hp:∀ (n:Nat) z,ps[n]?=some z→(ps++[q])[n]?=some z:=λn z hz=>by
          rw[b2_ (a3_.1 hz).1]
          exact hz
        obtain⟨h1,h2,h3⟩:=ae7 ms _ e' _ ps' (λx hx=>hm x (by simp[hx])) (λx hx=>by
          rcases b8_.1 hx with hx | hx
          · exact ya_ hr hp x hx
          · simp at hx;subst hx;exact⟨q,ps.length,hq,rfl,by simp⟩) h
        exact⟨h1,by rw[h2];simp,λn z hz=>h3 n z (hp n z hz)⟩
def GE (g:ab_) (ps:List aa_) (es:List (List ad_)):Prop:=∀ (i:Nat) row,es[i]?=some row→∃ p,ps[i]?=some p∧row.map (·.1)=pmv g p∧RowI g p ps row
theorem br5 {g:ab_}:∀ (n i:Nat) (ps ps':List aa_) (es es':List (List ad_)),es.length=i→GE g ps es→out g n i ps es=some (ps',es')→GE g ps' es'∧∀ (k:Nat) q,ps[k]?=some q→ps'[k]?=some q
  | 0,i,ps,ps',es,es',hl,hG,h=>by
    unfold out at h
    cases h
    exact⟨hG,λk q h=>h⟩
  | n+1,i,ps,ps',es,es',hl,hG,h=>by
    unfold out at h
    cases hp:ps[i]? with
    | none =>
      rw[hp] at h
      cases h
      exact⟨hG,λk q h=>h⟩
    | some p =>
      rw[hp] at h
      simp only at h
      cases hi:inn g p (pmv g p) [] ps with
      | none=>rw[hi] at h;cases h
      | some z =>
        obtain⟨e,ps1⟩:=z
        rw[hi] at h
        simp only at h
        obtain⟨h1,h2,h3⟩:=ae7 (pmv g p) [] e ps ps1 (λm hm=>js_ hm) (λx hx=>by simp at hx) hi
        have hG1:GE g ps1 (es++[e]):=λj row hj=>by
          by_cases hjl:j<es.length
          · rw[b2_ hjl] at hj
            obtain⟨p',g1,g2,g3⟩:=hG j row hj
            exact⟨p',h3 j p' g1,g2,ya_ g3 h3⟩
          · have hj':j=es.length:=by
              have:=(a3_.1 hj).1
              rw[a8_,c8_] at this
              omega
            subst hj'
            rw[d0_ (c4_ _),k2_] at hj
            obtain rfl:e=row:=a5_ hj
            exact⟨p,h3 _ p (by rw[hl];exact hp),by rw[h2];simp,h1⟩
        obtain⟨k1,k2⟩:=br5 n (i+1) ps1 ps' (es++[e]) es' (by rw[a8_,c8_,hl]) hG1 h
        exact⟨k1,λk q hq=>k2 k q (h3 k q hq)⟩
theorem exG_GE {g:ab_} (he:(exG g).2.1=0):GE g (exG g).1.1 (exG g).1.2∧(exG g).1.1[0]?=some (lb_ g).1∧(lb_ g).2.1=0:=by
  unfold exG at he ⊢
  cases hb:(lb_ g).2.1 != 0 with
  | true =>
    rw[hb] at he
    have he:(lb_ g).2.1=0:=he
    rw[he] at hb
    cases hb
  | false =>
    rw[hb] at he
    simp only[a1_] at he ⊢
    cases ho:out g 3001 0 [(lb_ g).1] [] with
    | none=>rw[ho] at he;cases he
    | some z =>
      obtain⟨ps,es⟩:=z
      obtain⟨h1,h2⟩:=br5 3001 0 _ ps [] es rfl (λi row h=>by simp at h) ho
      exact⟨h1,h2 0 _ rfl,by simpa using hb⟩
noncomputable def bo9 (g:ab_):aa_→List ae_→Option aa_
  | p,[]=>some p
  | p,m::ms=>(stepP g p m).bind λq=>bo9 g q ms
theorem br3 {g:ab_} {ps:List aa_} {es:List (List ad_)} (hG:GE g ps es):∀ (xs:List ad_) (i j:Nat) (p:aa_),Pa es i xs j→ps[i]?=some p→∃ q,bo9 g p (xs.map (·.1))=some q∧ps[j]?=some q
  | [],i,j,p,h,hp=>by
    obtain rfl:i=j:=h
    exact⟨p,rfl,hp⟩
  | x::xs,i,j,p,h,hp=>by
    obtain⟨row,h1,h2,n,h3,h4⟩:=h
    obtain⟨p',g1,g2,g3⟩:=hG i row h1
    rw[hp] at g1
    obtain rfl:=a5_ g1
    obtain⟨q,n',k1,k2,k3⟩:=g3 x h2
    obtain rfl:n'=n:=by rw[h3] at k2;omega
    obtain⟨q',r1,r2⟩:=br3 hG xs n' j q h4 k3
    refine⟨q',?_,r2⟩
    rw[j8_,bo9,k1]
    exact r1
theorem vy_ {g:ab_} (h0:br_ g=0) {ps:List aa_} {es:List (List ad_)} (hE:GE g ps es) (hP:PI g ps) (hl:es.length=ps.length) {i:Nat} {p q:aa_} (hp:ps[i]?=some p) {m:ae_} (h:stepP g p m=some q) :
    ∃ (row:List ad_) (n:Nat),es[i]?=some row∧(m,(n:Int)) ∈ row∧ps[n]?=some q:=by
  have hm:=br0 h0 (hP.v p (au_ hp)) h
  obtain⟨row,hr⟩:=aw_ (l:=es) (i:=i) (by have:=ak_ hp;omega)
  obtain⟨p',g1,g2,g3⟩:=hE i row hr
  rw[hp] at g1
  obtain rfl:=a5_ g1
  rw[← g2] at hm
  obtain⟨x,hx,rfl⟩:=d8_.1 hm
  obtain⟨q',n,k1,k2,k3⟩:=g3 x hx
  rw[h] at k1
  obtain rfl:=a5_ k1
  refine⟨row,n,hr,?_,k3⟩
  rw[← k2]
  exact hx
theorem cq8 {g:ab_} (h0:br_ g=0) {ps:List aa_} {es:List (List ad_)} (hE:GE g ps es) (hP:PI g ps) (hl:es.length=ps.length):∀ (ms:List ae_) (i:Nat) (p q:aa_),ps[i]?=some p→bo9 g p ms=some q→∃ xs j,Pa es i xs j∧xs.map (·.1)=ms∧ps[j]?=some q
  | [],i,p,q,hp,h=>⟨[],i,rfl,rfl,by rw[hp];exact h⟩
  | m::ms,i,p,q,hp,h=>by
    rw[bo9] at h
    cases hs:stepP g p m with
    | none=>rw[hs] at h;cases h
    | some p1 =>
      rw[hs,a0_] at h
      obtain⟨row,n,h1,h2,h3⟩:=vy_ h0 hE hP hl hp hs
      obtain⟨xs,j,g1,g2,g3⟩:=cq8 h0 hE hP hl ms n p1 q h3 h
      exact⟨(m,(n:Int))::xs,j,⟨row,h1,h2,n,rfl,g1⟩,by rw[j8_,g2],g3⟩
section
variable {g:ab_} (hg:SmG g) (he:(exG g).2.1=0)
noncomputable def dstG (g:ab_) (act:Int):List Int:=dst (esF act (exG g).1.2) (rb_ g (exG g).1.1) (exG g).1.1.length
structure Gr (g:ab_):Prop where
  h0:br_ g=0
  gI:GI g (exG g).1.1 (exG g).1.2
  ge:GE g (exG g).1.1 (exG g).1.2
  len:(exG g).1.2.length=(exG g).1.1.length
  n:(exG g).1.1.length≤3000
  pos:1≤(exG g).1.1.length
  p0:(exG g).1.1[0]?=some (lb_ g).1
  e0:(lb_ g).2.1=0
  dl:∀ act,(dstG g act).length=(exG g).1.1.length
  dc:∀ act,LC (esF act (exG g).1.2) (rb_ g (exG g).1.1) (dstG g act)
  db:∀ act (i:Nat) (v:Int),(dstG g act)[i]?=some v→v≤((exG g).1.1.length:Int)
  xx:∀ l ∈ (exG g).1.2,∀ x ∈ l,0≤x.2∧x.2<((exG g).1.1.length:Int)
  al:esF (-1) (exG g).1.2=(exG g).1.2
include hg he
theorem bd4:Gr g:=by
  obtain⟨h0,hG,hes⟩:=cu7 hg he
  obtain⟨k1,k2,k3⟩:=exG_GE he
  exact⟨h0,hG,k1,hes,hG.pI.n,by6 he,k2,k3,λact=>(cv4 hg h0 hG hes act).1,λact=>(cv4 hg h0 hG hes act).2,λact=>dst_le hg h0 hG hes act,λl hl x hx=>(hG.eI l hl x hx).1,esF_all λl hl x hx=>(hG.eI l hl x hx).2⟩
end
theorem Gr.xxF {g:ab_} (h:Gr g) (act:Int):∀ l ∈ esF act (exG g).1.2,∀ x ∈ l,0≤x.2∧x.2<((dstG g act).length:Int):=λl hl x hx=>by
  obtain⟨l',h2,rfl⟩:=by7 hl
  rw[h.dl]
  exact h.xx l' h2 x (d1_.1 hx).1
theorem Gr.way {g:ab_} (h:Gr g) (act:Int) {i k:Nat} (hd:(dstG g act)[i]?=some (k:Int)) {p:aa_} (hp:(exG g).1.1[i]?=some p):∃ q,bo9 g p (shp (esF act (exG g).1.2) (dstG g act) k (i:Int))=some q∧co_ q.1.1 g.1.2.2.2.2.2.2.2=true ∧
    (shp (esF act (exG g).1.2) (dstG g act) k (i:Int)).length=k∧∀ m ∈ shp (esF act (exG g).1.2) (dstG g act) k (i:Int),(m.2.1==4&&m.2.2==act)=false:=by
  obtain⟨xs,j,h1,h2,h3,h4,h5⟩:=cq5 (h.dc act) (h.xxF act) k i hd
  obtain⟨g1,g2⟩:=wq_ xs i j h1
  obtain⟨q,g3,g4⟩:=br3 h.ge xs i j p g1 hp
  refine⟨q,by rw[h2];exact g3,?_,by rw[h2,d2_,h5],λm hm => ?_⟩
  · rw[← te_ g4]
    exact h3
  · rw[h2] at hm
    obtain⟨x,hx,rfl⟩:=d8_.1 hm
    have:=g2 x hx
    unfold kp at this
    cases hk:(x.1.2.1==4&&x.1.2.2==act) with
    | true=>rw[hk] at this;cases this
    | false=>rfl
end
section
set_option maxRecDepth 10000
theorem aa1 {a b:List Bool} (h:Sm a.length):dn_ a b=some (decide (a=b),()):=by
  unfold dn_
  cases hl:(a.length:Int) != (b.length:Int) with
  | true=>rw[bv0 hl];rfl
  | false =>
  rw[h8_] at hl
  refine ai3 a b h (by omega) (λi x y hx hy => ?_) (by simp only[dnl,a1_])
  simp only[dlt (ak_ hx),a4_,ah_ hx,ah_ hy,a0_]
  cases x<;>cases y<;>rfl
structure SmPo (p:aa_):Prop where
  a:p.1.1.length≤30
  b:p.1.2.1.length≤30
  c:p.1.2.2.length≤30
  d:p.2.length≤30
theorem bq9 (p q:aa_):decide (p=q)=(decide (p.1.1=q.1.1)&&(decide (p.1.2.1=q.1.2.1)&&(decide (p.1.2.2=q.1.2.2)&&decide (p.2=q.2)))):=by
  rw[← Bool.decide_and,← Bool.decide_and,← Bool.decide_and,decide_eq_decide]
  exact⟨λe=>by rw[e];exact⟨rfl,rfl,rfl,rfl⟩,λ⟨h1,h2,h3,h4⟩=>at0 h1 h2 h3 h4⟩
theorem zb_ {p q:aa_} (h:SmPo p):hl_ p q=some (decide (p=q),()):=by
  have h1:=h.a
  have h2:=h.b
  have h3:=h.c
  have h4:=h.d
  unfold hl_
  rw[bq9,yb_ (show _≤1000000000 by omega),a0_,yb_ (show _≤1000000000 by omega),yb_ (show _≤1000000000 by omega),aa1 (show _≤1000000000 by omega)]
  cases decide (p.1.1=q.1.1)<;>cases decide (p.1.2.1=q.1.2.1)<;>cases decide (p.1.2.2=q.1.2.2)<;>cases decide (p.2=q.2)<;>rfl
theorem wf_ {p q:ai_} (h1:p.1.length≤30) (h2:p.2.1.length≤30) (h3:p.2.2.length≤30):ga_ p q=some ((decide (p.1=q.1)&&(decide (p.2.1=q.2.1)&&decide (p.2.2=q.2.2))),()):=by
  unfold ga_
  rw[ra_ (show _≤1000000000 by omega),a0_,ra_ (show _≤1000000000 by omega),ra_ (show _≤1000000000 by omega)]
  cases decide (p.1=q.1)<;>cases decide (p.2.1=q.2.1)<;>cases decide (p.2.2=q.2.2)<;>rfl
theorem lk_ {p q:aa_} (h:SmPo p):ee_ p q=some (decide (p=q),()):=by
  unfold ee_
  rw[wf_ h.a h.b h.c,a0_,bq9]
  have one:∀ b:Bool,cond (!b) (some (true,())) (some (((p.2.length:Int) != (q.2.length:Int)),()))=(some ((!b||(p.2.length:Int) != (q.2.length:Int)),()):Option (Bool×Unit)):=λb=>by cases b<;>rfl
  rw[one,a0_]
  have two:=aa1 (a:=p.2) (b:=q.2) (show _≤1000000000 by have:=h.d;omega)
  unfold dn_ at two
  cases decide (p.1.1=q.1.1) with
  | false=>rfl
  | true =>
  cases decide (p.1.2.1=q.1.2.1) with
  | false=>rfl
  | true =>
  cases decide (p.1.2.2=q.1.2.2) with
  | false=>rfl
  | true=>exact two
theorem bj0 (s:ai_):∃ b,lx_ s=some (b,())∧(b=false→s.1.length≤30∧s.2.1.length≤30∧s.2.2.length≤30):=by
  unfold lx_
  cases h1:decide (30<(s.1.length:Int)) with
  | true=>exact⟨true,rfl,λh=>by cases h⟩
  | false =>
  cases h2:decide (30<(s.2.1.length:Int)) with
  | true=>exact⟨true,rfl,λh=>by cases h⟩
  | false =>
  refine⟨_,rfl,λh3 => ?_⟩
  have h1:=c1_ h1
  have h2:=c1_ h2
  have h3:=c1_ h3
  omega
theorem zl_ (p:aa_):∃ b,ho_ p=some (b,())∧(b=false→SmPo p):=by
  unfold ho_
  obtain⟨b,e,hb⟩:=bj0 p.1
  rw[e,a0_]
  cases b with
  | true=>exact⟨true,rfl,λh=>by cases h⟩
  | false =>
  refine⟨_,rfl,λh => ?_⟩
  have h:=c1_ h
  obtain⟨h1,h2,h3⟩:=hb rfl
  exact⟨h1,h2,h3,by omega⟩
structure SmCe (x:dp_):Prop where
  a:x.1.1.length≤500
  b:x.1.2.length≤500
  c:x.2.length≤500
  d:∀ p ∈ x.1.1,SmPo p
  e:∀ l ∈ x.1.2,l.length≤100
noncomputable def awB (p:aa_):Bool:=((ho_ p).getD (false,())).1
theorem awB_eq (p:aa_):ho_ p=some (awB p,()):=by
  obtain⟨b,e,_⟩:=zl_ p
  unfold awB
  rw[e]
  rfl
theorem bi9 (c:dp_):∃ b,lw_ c=some (b,())∧(b=false→SmCe c):=by
  unfold lw_
  cases h1:decide (500<(c.1.1.length:Int)) with
  | true=>exact⟨true,rfl,λh=>by cases h⟩
  | false =>
  cases h2:decide (500<(c.1.2.length:Int)) with
  | true=>exact⟨true,rfl,λh=>by cases h⟩
  | false =>
  cases h3:decide (500<(c.2.length:Int)) with
  | true=>exact⟨true,rfl,λh=>by cases h⟩
  | false =>
  let qe:List ad_→Bool:=λy=>decide (100<(y.length:Int))
  let b1:=c.1.1.any awB
  let b2:=c.1.2.any qe
  refine⟨b1||b2,?_,?_⟩
  · simp only[a1_,a0_]
    refine hx_ c.1.1 (nlt h1 (by decide)) awB (λi y hy => ?_) ?_ ?_
    · simp only[dlt (ak_ hy),a4_,ah_ hy,a0_,awB_eq]
      cases awB y<;>rfl
    · simp only[dnl,a1_]
    show bx_ (cond b1 _ _) _ _=_
    cases b1 with
    | true=>rfl
    | false =>
    refine hx_ c.1.2 (nlt h2 (by decide)) qe (λi y hy => ?_) ?_ ?_
    · simp only[dlt (ak_ hy),a4_,ah_ hy,a0_,qe]
      cases decide (100<(y.length:Int))<;>rfl
    · simp only[dnl,a1_]
    show bx_ (cond b2 _ _) _ _=_
    cases b2<;>rfl
  · intro hb
    simp only[c2_] at hb
    obtain⟨g1,g2⟩:=hb
    have h1:=c1_ h1
    have h2:=c1_ h2
    have h3:=c1_ h3
    refine⟨by omega,by omega,by omega,λp hp => ?_,λl hl => ?_⟩
    · obtain⟨b,e,hb⟩:=zl_ p
      have:=dz_ g1 p hp
      unfold awB at this
      rw[e] at this
      exact hb this
    · have:=c1_ (dz_ g2 l hl)
      omega
noncomputable def eOk (g:ab_) (ps:List aa_) (p:aa_) (z:ad_×ae_):Bool :=
  (z.1.1.1==z.2.1&&(z.1.1.2.1==z.2.2.1&&z.1.1.2.2==z.2.2.2))&&(!decide (z.1.2<0)&&(!decide ((ps.length:Int)≤z.1.2)&&(at? ps z.1.2).elim false λr=>decide (r=(stepP g p z.2).getD eP)))
def nrr (D:List Int) (v:Int) (z:ad_×ae_):Bool:=gi D z.1.2==w64 (v - 1)
noncomputable def posE (g:ab_) (ps:List aa_) (D:List Int) (p:aa_) (row:List ad_) (v:Int):Bool :=
  !(pck g p != 0)&&(!(((pmv g p).length:Int) != (row.length:Int))&&((row.zip (pmv g p)).all (eOk g ps p) &&
    cond (co_ p.1.1 g.1.2.2.2.2.2.2.2) (v==0) (decide (1≤v)&&(decide (v≤3000)&&(row.zip (pmv g p)).any (nrr D v)))))
theorem am8 {α σ ρ:Type} (L:List α) (c d:α→Bool) (F:Nat→Bool→σ) (E:Bool→ρ) (R:ρ) {body:σ→Option (σ⊕ρ)}
    (h:∀ (j:Nat) z acc,L[j]?=some z→body (F j acc)=some (cond (c z) (.inl (F (j+1) (acc||d z))) (.inr R)))
    (e:∀ acc,body (F L.length acc)=some (.inr (E acc))):∀ (k j:Nat) (acc:Bool),j+k=L.length→ag_ body (F j acc)=some (cond ((L.drop j).all c) (E (acc||(L.drop j).any d)) R)
  | 0,j,acc,hj=>by
    obtain rfl:j=L.length:=by omega
    rw[l0_]
    refine bi_ ?_
    rw[e,List.any_nil,i7_]
    rfl
  | k+1,j,acc,hj=>by
    obtain⟨z,hz⟩:=aw_ (l:=L) (i:=j) (by omega)
    have hd:L.drop j=z::L.drop (j+1):=by
      rw[g8_ (by omega)]
      rw[a7_ (by omega)] at hz
      rw[a5_ hz]
    have h1:=h j z acc hz
    rw[hd,List.all_cons,p1_]
    cases hc:c z with
    | true =>
      rw[hc] at h1
      rw[b7_,← Bool.or_assoc]
      exact bg_ h1 (am8 L c d F E R h e k (j+1) _ (by omega))
    | false =>
      rw[hc] at h1
      exact bi_ h1
theorem bk7 {α β:Type} {a:List α} {b:List β} {j:Nat} {z:α×β} (h:(a.zip b)[j]?=some z):a[j]?=some z.1∧b[j]?=some z.2:=by
  rw[f8_] at h
  exact h
theorem al8 {g:ab_} (hg:SmG g) (h0:br_ g=0) {ps:List aa_} {es:List (List ad_)} {D:List Int} (hp:∀ p ∈ ps,SmPo p) (hD:D.length=ps.length) {i:Nat} {p:aa_} {row:List ad_} {v:Int} (hi:ps[i]?=some p) (hr:es[i]?=some row) (hv:D[i]?=some v) :
    iw_ g (ps,es) D (i:Int)=some (posE g ps D p row v,()):=by
  have ok:=cd_ h0
  unfold iw_ posE
  simp only[ah_ hi,ah_ hr,ah_ hv,a0_,am1 hg h0]
  cases hk:pck g p != 0 with
  | true =>
    simp only[a4_,hk,a0_]
    rfl
  | false =>
  simp only[a1_,a0_,show ((0:Int) != 0)=false from rfl]
  cases hl:((pmv g p).length:Int) != (row.length:Int) with
  | true=>rfl
  | false =>
  rw[h8_] at hl
  have hvp:VP g p:=az4 h0 (by simpa using hk)
  have hml:=ac7 ok p
  simp only[a1_,g3_,b7_]
  have hzl:(row.zip (pmv g p)).length=row.length:=by rw[m6_];omega
  refine zx_ (am8 (row.zip (pmv g p)) (eOk g ps p) (nrr D v) (λj acc=>(acc,((j:Int),()))) (λacc=>inl (acc,())) (inr (false,())) (λj z acc hz => ?_) (λacc => ?_) row.length 0 false (by omega)) ?_
  · obtain⟨z1,z2⟩:=bk7 hz
    obtain⟨q,hq⟩:=js_ (au_ z2)
    have hj:=ak_ z1
    simp only[dlt hj,a4_,ah_ z1,ah_ z2,a0_,ac9 hg h0,hk,a1_,hq,j5_,show ((0:Int) != 0)=false from rfl,az_ (show Sm j by show _≤1000000000;omega)]
    unfold eOk nrr
    rw[hq,e5_]
    cases (z.1.1.1==z.2.1&&(z.1.1.2.1==z.2.2.1&&z.1.1.2.2==z.2.2.2)) with
    | false=>rfl
    | true =>
    cases n1:decide (z.1.2<0) with
    | true=>rfl
    | false =>
    cases n2:decide ((ps.length:Int)≤z.1.2) with
    | true=>rfl
    | false =>
    have n1:=c1_ n1
    have n2:=c1_ n2
    obtain⟨n,hn⟩:=g5_ (show 0≤z.1.2 by omega)
    obtain⟨r,hr⟩:=aw_ (l:=ps) (i:=n) (by omega)
    have ha:at? ps z.1.2=some r:=by rw[hn];exact ah_ hr
    have hd:at? D z.1.2=some (gi D z.1.2):=mu_ (by omega) (by omega)
    simp only[ha,hd,d9_,a1_,a0_,zb_ (hp r (au_ hr)),j5_,g3_,b7_]
    cases decide (r=q) with
    | false=>rfl
    | true=>cases acc<;>rfl
  · rw[hzl]
    simp only[dnl,a1_]
  · rw[p7_,k0_]
    cases (row.zip (pmv g p)).all (eOk g ps p) with
    | false=>rfl
    | true =>
    simp only[a4_,bx_,a0_,ak3 hg.room ok.room hvp.st,show ((0:Int) != 0)=false from rfl,a1_,b7_]
    cases co_ p.1.1 g.1.2.2.2.2.2.2.2 with
    | true=>rfl
    | false =>
    cases decide (1≤v) with
    | false=>rfl
    | true=>cases decide (v≤3000)<;>rfl
theorem bk0 {τ ρ:Type} (n:Nat) (hn:Sm n) (q:Nat→Bool) (R E:ρ) {body:(Int×Unit)→Option ((Int×Unit)⊕ρ)} {K:ρ→Option τ} {x:Option τ}
    (h:∀ i:Nat,i<n→body ((i:Int),())=some (cond (q i) (.inr R) (.inl (w64 ((i:Int)+1),())))) (e:body ((n:Int),())=some (.inr E)) (hx:K (cond ((List.range n).any q) R E)=x):(ag_ body (0,())).bind K=x:=by
  have hl:(List.range n).length=n:=h3_
  refine bo_ (List.range n) (λi y=>cond (q y) (some R) none) (λi=>((i:Int),())) (r0:=E) (λi y hy => ?_) (by rw[hl];exact e) ?_
  · have hi:=ak_ hy
    rw[hl] at hi
    rw[m3_ hi] at hy
    obtain rfl:=a5_ hy
    rw[h i hi,az_ (show Sm i by unfold Sm at hn ⊢; omega)]
    cases q i<;>rfl
  · rw[gy_ (q:=q),← hx]
    cases (List.range n).any q<;>rfl
noncomputable def uq_ (g:ab_) (ps:List aa_) (es:List (List ad_)) (D:List Int) (i:Nat):Bool:=posE g ps D ((ps[i]?).getD eP) ((es[i]?).getD []) (gi D (i:Int))
noncomputable def cf1 (g:ab_) (ps:List aa_) (es:List (List ad_)) (D:List Int):Bool :=
  decide ((ps.length:Int)<1)||(decide (3000<(ps.length:Int))||((es.length:Int) != (ps.length:Int)||((D.length:Int) != (ps.length:Int)||!((at? ps 0).elim true λr=>decide (r=(lb_ g).1)))))
noncomputable def bq8 (g:ab_) (ps:List aa_) (es:List (List ad_)) (D:List Int):Bool×(Int×Unit) :=
  cond ((lb_ g).2.1 != 0) (false,((lb_ g).2.1,())) (cond (cf1 g ps es D) (false,(0,())) (cond ((List.range ps.length).any λi=>!(uq_ g ps es D i)) (false,(0,())) (true,(0,()))))
theorem badC_of {g:ab_} {ps:List aa_} {es:List (List ad_)} {D:List Int} {f:aa_→Option (Bool×Unit)} (hf:∀ r ∈ ps,f r=some (!decide (r=(lb_ g).1),())) :
    cond (decide ((ps.length:Int)<1)) (some (true,())) (cond (decide (3000<(ps.length:Int))) (some (true,())) (cond ((es.length:Int) != (ps.length:Int)) (some (true,())) (cond ((D.length:Int) != (ps.length:Int)) (some (true,())) ((at? ps 0).bind f))))=some (cf1 g ps es D,()):=by
  unfold cf1
  cases h1:decide ((ps.length:Int)<1) with
  | true=>rfl
  | false =>
  have h1:=c1_ h1
  obtain⟨r,hr⟩:=aw_ (l:=ps) (i:=0) (by omega)
  have ha:at? ps 0=some r:=ah_ hr
  rw[ha,a0_,hf r (au_ hr),j5_]
  cases decide (3000<(ps.length:Int))<;>cases ((es.length:Int) != (ps.length:Int))<;>cases ((D.length:Int) != (ps.length:Int))<;>rfl
theorem zz_ {g:ab_} {ps:List aa_} {es:List (List ad_)} {D:List Int} (h:cf1 g ps es D=false):es.length=ps.length∧D.length=ps.length∧1≤ps.length∧ps.length≤3000∧ps[0]?=some (lb_ g).1:=by
  unfold cf1 at h
  simp only[c2_,h8_,m1_,Bool.not_eq_false'] at h
  obtain⟨h1,h2,h3,h4,h5⟩:=h
  obtain⟨r,hr⟩:=aw_ (l:=ps) (i:=0) (by omega)
  have ha:at? ps 0=some r:=ah_ hr
  rw[ha,j5_] at h5
  exact⟨by omega,by omega,by omega,by omega,by rw[hr,f6_ h5]⟩
section
variable {g:ab_} (hg:SmG g) {ps:List aa_} {es:List (List ad_)} {D:List Int} (hp:∀ p ∈ ps,SmPo p)
include hg hp
theorem ub_:gw_ g (ps,es) D=some (bq8 g ps es D):=by
  unfold gw_ bq8
  rw[qr_ hg,a0_]
  cases hb:(lb_ g).2.1 != 0 with
  | true=>rfl
  | false =>
  obtain⟨h0,_⟩:=qy_ hg (by simpa using hb)
  simp only[a1_]
  rw[badC_of (f:=λv1=>(hl_ v1 (lb_ g).1).bind λv2=>some ((!v2.1),())) λr hr=>by rw[zb_ (hp r hr)];rfl]
  simp only[a0_]
  cases hB:cf1 g ps es D with
  | true=>rfl
  | false =>
  obtain⟨b1,b2,b3,b4,_⟩:=zz_ hB
  simp only[a1_]
  refine bk0 ps.length (show _≤1000000000 by omega) (λi=>!(uq_ g ps es D i)) (inr (false,(0,()))) (inl ()) (λi hi => ?_) (by simp only[dnl,a1_]) ?_
  · obtain⟨p,h1⟩:=aw_ (l:=ps) hi
    obtain⟨row,h2⟩:=aw_ (l:=es) (i:=i) (by omega)
    obtain⟨v,h3⟩:=aw_ (l:=D) (i:=i) (by omega)
    simp only[dlt hi,a4_,al8 hg h0 hp b2 h1 h2 h3,a0_]
    unfold uq_
    rw[h1,h2,ji_ (ah_ h3)]
    simp only[e5_]
    cases posE g ps D p row v<;>rfl
  · cases (List.range ps.length).any λi=>!(uq_ g ps es D i)<;>rfl
end
end
section
set_option maxRecDepth 10000
theorem exG_err {g:ab_} (h:(lb_ g).2.1=0):(exG g).2.1=0∨(exG g).2.1=2:=by
  unfold exG
  rw[h]
  simp only[show ((0:Int) != 0)=false from rfl,a1_]
  cases out g 3001 0 [(lb_ g).1] [] with
  | none=>exact .inr rfl
  | some z=>exact .inl rfl
structure NotLarge (g:ab_):Prop where
  sm:SmG g
  one:br_ g=0→(exG g).2.1≠2
  n:br_ g=0→(exG g).1.1.length≤200
theorem an1 (g:ab_):∃ b,kb_ g=some (b,())∧(b=false→NotLarge g):=by
  obtain⟨b,e,hb⟩:=bv2 g
  unfold kb_
  rw[e,a0_]
  cases b with
  | true=>exact⟨true,by simp only[a4_,a0_],λh=>by cases h⟩
  | false =>
  have hg:=hb rfl
  simp only[a1_]
  rw[qm_ hg,a0_,a0_]
  cases hc:br_ g != 0 with
  | true=>exact⟨false,by simp only[a4_,a0_],λ_=>⟨hg,λh=>(by rw[h] at hc;cases hc),λh=>(by rw[h] at hc;cases hc)⟩⟩
  | false =>
  simp only[a1_]
  have key:∀ c:Bool,∃ b,(((some (c,()):Option (Bool×Unit))).bind λv4 =>
 (cond v4.1
 (some (true,()))
 ((fn_ g).bind λv5 =>
 (cond (v5.2.1==2)
 (some (true,()))
 (some ((decide (200<(v5.1.1.length:Int))),()))))))=some (b,())∧(b=false→NotLarge g):=λc=>by
    rw[a0_,ab8 hg,a0_]
    cases c with
    | true=>exact⟨true,rfl,λh=>by cases h⟩
    | false =>
      cases hE:(exG g).2.1==2 with
      | true=>exact⟨true,by simp only[a1_,hE,a4_],λh=>by cases h⟩
      | false=>exact⟨_,by simp only[a1_,hE];rfl,λh=>⟨hg,(λ_ e=>by rw[e] at hE;cases hE),(λ_=>by have:=c1_ h;omega)⟩⟩
  have one:∀ (c:Bool) (o:Option (Bool×Unit)),(∃ d,o=some (d,()))→∃ d,cond c (some (true,())) o=some (d,()):=λc o h=>by
    cases c with
    | true=>exact⟨true,rfl⟩
    | false=>exact h
  obtain⟨d,hd⟩:=one (decide (4<(g.1.1.length:Int))) _ (one (decide (4<(g.1.2.1.length:Int))) _ (one (decide (3<(g.1.2.2.1.length:Int))) _ (one (decide (2<g.1.2.2.2.2.2.2.1)) _ (one (decide (6<(g.1.2.2.2.2.1.length:Int))) _ (one (decide (4<(g.1.2.2.2.2.2.1.length:Int))) _ (one (decide (5<(g.2.2.2.1.length:Int))) _ ⟨decide (3<(g.2.1.length:Int)),rfl⟩))))))
  rw[hd]
  exact key d
theorem NotLarge.ok {g:ab_} (h:NotLarge g) (he:(lb_ g).2.1=0):(exG g).2.1=0:=by
  obtain⟨h0,_⟩:=qy_ h.sm he
  rcases exG_err he with h1 | h1
  · exact h1
  · exact absurd h1 (h.one h0)
def Pto (row:List ad_) (t:Nat):Prop:=∃ x ∈ row,x.2=(t:Int)
theorem xa_ {g:ab_} {p:aa_}:∀ (ms:List ae_) (e e':List ad_) (ps ps':List aa_),inn g p ms e ps=some (e',ps') →
    ps.length≤ps'.length∧(∀ x ∈ e,x ∈ e')∧∀ t:Nat,ps.length≤t→t<ps'.length→Pto e' t
  | [],e,e',ps,ps',h=>by
    unfold inn at h
    cases h
    exact⟨c4_ _,λx hx=>hx,λt h1 h2=>by omega⟩
  | m::ms,e,e',ps,ps',h=>by
    unfold inn at h
    cases hw:wh ps ((stepP g p m).getD eP) with
    | some n =>
      rw[hw] at h
      obtain⟨h1,h2,h3⟩:=xa_ ms _ e' ps ps' h
      exact⟨h1,λx hx=>h2 x (l7_ _ hx),h3⟩
    | none =>
      rw[hw] at h
      simp only at h
      by_cases hl:ps.length=3000
      · rw[if_pos hl] at h;cases h
      · rw[if_neg hl] at h
        obtain⟨h1,h2,h3⟩:=xa_ ms _ e' _ ps' h
        rw[a8_,c8_] at h1 h3
        refine⟨by omega,λx hx=>h2 x (l7_ _ hx),λt g1 g2 => ?_⟩
        by_cases e0:t=ps.length
        · subst e0
          exact⟨(m,(ps.length:Int)),h2 _ (by simp),rfl⟩
        · exact h3 t (by omega) g2
def FE (es:List (List ad_)) (n:Nat):Prop:=∀ t:Nat,0<t→t<n→∃ i row,i<t∧es[i]?=some row∧Pto row t∧∀ j r,j<i→es[j]?=some r→¬ Pto r t
theorem cs2 {g:ab_}:∀ (n i:Nat) (ps ps':List aa_) (es es':List (List ad_)),es.length=i→i≤ps.length→(∀ row ∈ es,∀ t,Pto row t→t<ps.length)→GE g ps es→FE es ps.length→out g n i ps es=some (ps',es')→FE es' ps'.length
  | 0,i,ps,ps',es,es',hl,hi,hx,hE,hF,h=>by
    unfold out at h
    cases h
    exact hF
  | n+1,i,ps,ps',es,es',hl,hi,hx,hE,hF,h=>by
    unfold out at h
    cases hp:ps[i]? with
    | none =>
      rw[hp] at h
      cases h
      exact hF
    | some p =>
      rw[hp] at h
      simp only at h
      have hip:=ak_ hp
      cases hz:inn g p (pmv g p) [] ps with
      | none=>rw[hz] at h;cases h
      | some z =>
        obtain⟨e,ps1⟩:=z
        rw[hz] at h
        simp only at h
        obtain⟨h1,_,h3⟩:=xa_ (pmv g p) [] e ps ps1 hz
        obtain⟨r1,r2,r3⟩:=ae7 (pmv g p) [] e ps ps1 (λm hm=>js_ hm) (λx hx=>by simp at hx) hz
        have hE1:GE g ps1 (es++[e]):=λj row hj=>by
          by_cases hjl:j<es.length
          · rw[b2_ hjl] at hj
            obtain⟨p',g1,g2,g3⟩:=hE j row hj
            exact⟨p',r3 j p' g1,g2,ya_ g3 r3⟩
          · have hj':j=es.length:=by
              have:=ak_ hj
              rw[a8_,c8_] at this
              omega
            subst hj'
            rw[d0_ (c4_ _),k2_] at hj
            obtain rfl:e=row:=a5_ hj
            exact⟨p,r3 _ p (by rw[hl];exact hp),by rw[r2];simp,r1⟩
        refine cs2 n (i+1) ps1 ps' (es++[e]) es' (by rw[a8_,c8_,hl]) (by omega) (λrow hr t ht => ?_) hE1 (λt t0 t1 => ?_) h
        · rcases b8_.1 hr with hr | hr
          · have:=hx row hr t ht
            omega
          · simp at hr
            subst hr
            obtain⟨x,hx1,hx2⟩:=ht
            obtain⟨q,k,_,k2,k3⟩:=r1 x hx1
            have:=ak_ k3
            omega
        · by_cases ht:t<ps.length
          · obtain⟨j,row,g1,g2,g3,g4⟩:=hF t t0 ht
            have hjl:=ak_ g2
            refine⟨j,row,g1,by rw[b2_ hjl];exact g2,g3,λj' r hj hr => ?_⟩
            rw[b2_ (by omega)] at hr
            exact g4 j' r hj hr
          · refine⟨i,e,by omega,by rw[d0_ (by omega),hl,k2_];rfl,h3 t (by omega) t1,λj r hj hr hp2 => ?_⟩
            rw[b2_ (by omega)] at hr
            exact ht (hx r (au_ hr) t hp2)
theorem cu8 {g:ab_} (he:(exG g).2.1=0):FE (exG g).1.2 (exG g).1.1.length:=by
  unfold exG at he ⊢
  cases hb:(lb_ g).2.1 != 0 with
  | true =>
    rw[hb] at he
    have he:(lb_ g).2.1=0:=he
    rw[he] at hb
    cases hb
  | false =>
    rw[hb] at he
    simp only[a1_] at he ⊢
    cases ho:out g 3001 0 [(lb_ g).1] [] with
    | none=>rw[ho] at he;cases he
    | some z =>
      obtain⟨ps,es⟩:=z
      exact cs2 3001 0 _ ps [] es rfl (by simp) (λrow h=>by simp at h) (λi row h=>by simp at h) (λt h1 h2=>by simp at h2;omega) ho
end
section
set_option maxRecDepth 10000
structure PosOk (g:ab_) (ps:List aa_) (D:List Int) (p:aa_) (v:Int):Prop where
  vp:VP g p
  edge:∀ m q,stepP g p m=some q→∃ n:Nat,ps[n]?=some q
  fin:co_ p.1.1 g.1.2.2.2.2.2.2.2=true→v=0
  near:co_ p.1.1 g.1.2.2.2.2.2.2.2=false→1≤v∧v≤3000∧∃ m q n,stepP g p m=some q∧ps[(n:Nat)]?=some q∧gi D (n:Int)=v - 1
theorem posE_ok {g:ab_} (h0:br_ g=0) {ps:List aa_} {D:List Int} {p:aa_} {row:List ad_} {v:Int} (h:posE g ps D p row v=true):PosOk g ps D p v:=by
  unfold posE at h
  simp only[a2_,k6_,h8_] at h
  obtain⟨h1,h2,h3,h4⟩:=h
  have hv:VP g p:=az4 h0 h1
  have he:∀ z ∈ row.zip (pmv g p),∃ q n,stepP g p z.2=some q∧z.1.2=((n:Nat):Int)∧ps[n]?=some q:=λz hz=>by
    have:=e6_.1 h3 z hz
    unfold eOk at this
    simp only[a2_,k6_,m1_] at this
    obtain⟨_,n1,n2,k⟩:=this
    obtain⟨q,hq⟩:=js_ (List.of_mem_zip hz).2
    obtain⟨n,hn⟩:=g5_ (show 0≤z.1.2 by omega)
    obtain⟨r,hr⟩:=aw_ (l:=ps) (i:=n) (by omega)
    rw[hn,ah_ hr,j5_,hq,e5_] at k
    exact⟨q,n,hq,hn,by rw[hr,f6_ k]⟩
  refine⟨hv,λm q hm => ?_,λhf => ?_,λhf => ?_⟩
  · have hmem:=br0 h0 hv hm
    obtain⟨k,hk⟩:=e7_ hmem
    have hkl:=ak_ hk
    obtain⟨x,hx⟩:=aw_ (l:=row) (i:=k) (by omega)
    have hz:(row.zip (pmv g p))[k]?=some (x,m):=f8_.2 ⟨hx,hk⟩
    obtain⟨q',n,g1,g2,g3⟩:=he _ (au_ hz)
    rw[hm] at g1
    exact⟨n,by rw[g3,a5_ g1]⟩
  · rw[hf] at h4
    exact f2_.1 h4
  · rw[hf] at h4
    simp only[a1_,a2_,p8_] at h4
    obtain⟨a1,a2,a3⟩:=h4
    obtain⟨z,hz,hn⟩:=g1_.1 a3
    obtain⟨q,n,g1,g2,g3⟩:=he z hz
    unfold nrr at hn
    rw[g2,ei_ (by omega) (by omega)] at hn
    exact⟨a1,a2,z.2,q,n,g1,g3,f2_.1 hn⟩
structure CertOk (g:ab_) (ps:List aa_) (D:List Int):Prop where
  p0:ps[0]?=some (lb_ g).1
  all:∀ (i:Nat) p,ps[i]?=some p→PosOk g ps D p (gi D (i:Int))
theorem prvR_ok {g:ab_} (hg:SmG g) {ps:List aa_} {es:List (List ad_)} {D:List Int} (h:(bq8 g ps es D).1=true):(lb_ g).2.1=0∧CertOk g ps D:=by
  unfold bq8 at h
  cases hb:(lb_ g).2.1 != 0 with
  | true=>rw[hb] at h;cases h
  | false =>
  have hb0:(lb_ g).2.1=0:=by simpa using hb
  obtain⟨h0,_⟩:=qy_ hg hb0
  rw[hb] at h
  cases hB:cf1 g ps es D with
  | true=>rw[hB] at h;cases h
  | false =>
  rw[hB] at h
  obtain⟨b1,b2,b3,b4,b5⟩:=zz_ hB
  cases ha:(List.range ps.length).any λi=>!(uq_ g ps es D i) with
  | true=>rw[ha] at h;cases h
  | false =>
  refine⟨hb0,b5,λi p hp => ?_⟩
  have:=dz_ ha i (by rw[k5_];exact ak_ hp)
  rw[Bool.not_eq_false'] at this
  unfold uq_ at this
  rw[hp] at this
  exact posE_ok h0 this
theorem CertOk.run {g:ab_} {ps:List aa_} {D:List Int} (h:CertOk g ps D):∀ (ms:List ae_) (i:Nat) (p q:aa_),ps[i]?=some p→bo9 g p ms=some q→∃ j:Nat,ps[j]?=some q
  | [],i,p,q,hp,hr=>⟨i,by rw[hp];exact hr⟩
  | m::ms,i,p,q,hp,hr=>by
    rw[bo9] at hr
    cases hs:stepP g p m with
    | none=>rw[hs] at hr;cases hr
    | some p1 =>
      rw[hs,a0_] at hr
      obtain⟨n,hn⟩:=(h.all i p hp).edge m p1 hs
      exact CertOk.run h ms n p1 q hn hr
theorem CertOk.fin {g:ab_} {ps:List aa_} {D:List Int} (h:CertOk g ps D):∀ (k i:Nat) (p:aa_),ps[i]?=some p→gi D (i:Int)≤(k:Int)→∃ ms q,bo9 g p ms=some q∧co_ q.1.1 g.1.2.2.2.2.2.2.2=true
  | k,i,p,hp,hk=>by
    have hpo:=h.all i p hp
    cases hf:co_ p.1.1 g.1.2.2.2.2.2.2.2 with
    | true=>exact⟨[],p,rfl,hf⟩
    | false =>
      obtain⟨a1,a2,m,q,n,g1,g2,g3⟩:=hpo.near hf
      match k,hk with
      | 0,hk=>omega
      | k+1,hk =>
        obtain⟨ms,r,r1,r2⟩:=CertOk.fin h k n q g2 (by rw[g3];omega)
        exact⟨m::ms,r,by rw[bo9,g1];exact r1,r2⟩
theorem CertOk.alive {g:ab_} (hG:Gr g) {ps:List aa_} {D:List Int} (h:CertOk g ps D) (hr:∀ (i:Nat) p,(exG g).1.1[i]?=some p→∃ ms,bo9 g (lb_ g).1 ms=some p):∀ (i:Nat) v,(dstG g (-1))[i]?=some v→0≤v:=λi v hv=>by
  have hi:i<(exG g).1.1.length:=by rw[← hG.dl (-1)];exact ak_ hv
  obtain⟨p,hp⟩:=aw_ hi
  obtain⟨ms,hms⟩:=hr i p hp
  obtain⟨j,hj⟩:=h.run ms 0 _ p h.p0 hms
  obtain⟨ns,q,r1,r2⟩:=h.fin (gi D (j:Int)).toNat j p hj (by omega)
  obtain⟨xs,e,x1,x2,x3⟩:=cq8 hG.h0 hG.ge hG.gI.pI hG.len ns i p q hp r1
  obtain⟨k,k1,_⟩:=LC_pa (hG.dc (-1)) xs i e (by rw[hG.al];exact x1) (by rw[te_ x3];exact r2) (by rw[hG.dl];exact ak_ x3)
  rw[hv] at k1
  have:=a5_ k1
  omega
theorem Gr.reach {g:ab_} (hG:Gr g) (hF:FE (exG g).1.2 (exG g).1.1.length):∀ (n i:Nat) p,i<n→(exG g).1.1[i]?=some p→∃ xs,Pa (exG g).1.2 0 xs i
  | 0,i,p,hn,_=>by omega
  | n+1,i,p,hn,hp=>by
    cases i with
    | zero=>exact⟨[],rfl⟩
    | succ i =>
      obtain⟨j,row,h1,h2,⟨x,hx,hx2⟩,_⟩:=hF (i+1) (by omega) (ak_ hp)
      obtain⟨pj,hpj⟩:=aw_ (l:=(exG g).1.1) (i:=j) (by rw[← hG.len];exact ak_ h2)
      obtain⟨xs,hxs⟩:=Gr.reach hG hF n j pj (by omega) hpj
      refine⟨xs++[x],?_⟩
      have app:∀ (ys:List ad_) (a b:Nat),Pa (exG g).1.2 a ys b→(exG g).1.2[b]?=some row→Pa (exG g).1.2 a (ys++[x]) (i+1):=by
        intro ys
        induction ys with
        | nil =>
          intro a b h hb
          obtain rfl:a=b:=h
          exact⟨row,hb,hx,i+1,hx2,rfl⟩
        | cons y ys ih =>
          intro a b h hb
          obtain⟨r,g1,g2,c,g3,g4⟩:=h
          exact⟨r,g1,g2,c,g3,ih c b g4 hb⟩
      exact app xs 0 j hxs h2
theorem VP_pck {g:ab_} (h0:br_ g=0) {p:aa_} (hv:VP g p):pck g p=0:=by
  unfold pck
  rw[el_ (cd_ h0).room hv.st,hv.rd]
  simp
theorem Gr.posE {g:ab_} (hG:Gr g) {i:Nat} {p:aa_} {row:List ad_} {v:Int} (hp:(exG g).1.1[i]?=some p) (hr:(exG g).1.2[i]?=some row) (hv:(dstG g (-1))[i]?=some v):posE g (exG g).1.1 (dstG g (-1)) p row v=decide (0≤v):=by
  obtain⟨p',h1,h2,h3⟩:=hG.ge i row hr
  rw[hp] at h1
  obtain rfl:=a5_ h1
  have hn:=hG.n
  have hvp:=hG.gI.pI.v p (au_ hp)
  have hlen:(pmv g p).length=row.length:=by rw[← h2,d2_]
  have hL:=hG.dc (-1)
  rw[hG.al] at hL
  unfold Go.Proofs.YtdibamopklkilaaGreatDoor.Rx.posE
  rw[VP_pck hG.h0 hvp,hlen]
  simp only[h9_,g3_,b7_]
  have hz:∀ z ∈ row.zip (pmv g p),z.1 ∈ row∧z.2=z.1.1:=λz hz=>by
    obtain⟨k,hk⟩:=e7_ hz
    obtain⟨g1,g2⟩:=bk7 hk
    rw[← h2,d6_,g1] at g2
    exact⟨au_ g1,(a5_ g2).symm⟩
  have hall:(row.zip (pmv g p)).all (eOk g (exG g).1.1 p)=true:=e6_.2 λz hzm=>by
    obtain⟨g1,g2⟩:=hz z hzm
    obtain⟨q,n,k1,k2,k3⟩:=h3 z.1 g1
    have hnl:=ak_ k3
    unfold eOk
    rw[g2,k1,k2,ah_ k3,e5_,j5_,b4_ rfl,b1_ (show ¬ ((n:Int)<0) by omega),b1_ (show ¬ (((exG g).1.1.length:Int)≤(n:Int)) by omega)]
    simp
  rw[hall,b7_]
  have hz0:=hL.z i v hv
  rw[te_ hp] at hz0
  cases hf:co_ p.1.1 g.1.2.2.2.2.2.2.2 with
  | true =>
    have:=hz0.2 hf
    subst this
    rfl
  | false =>
    have hne:v≠0:=λe=>by rw[hz0.1 e] at hf;cases hf
    rw[a1_]
    by_cases h0:0≤v
    · obtain⟨k,hk⟩:=g5_ (show 0≤v - 1 by omega)
      obtain⟨l,x,x1,x2,x3⟩:=hL.dn i k (by rw[hv];congr 1;omega)
      rw[hr] at x1
      obtain rfl:=a5_ x1
      have hle:=hG.db (-1) i v hv
      rw[b4_ h0,b4_ (show 1≤v by omega),b4_ (show v≤3000 by omega),b7_,b7_]
      obtain⟨j,hj⟩:=e7_ x2
      have hj2:(pmv g p)[j]?=some x.1:=by rw[← h2,d6_,hj];rfl
      refine g1_.2 ⟨(x,x.1),au_ (f8_.2 ⟨hj,hj2⟩),?_⟩
      unfold nrr
      rw[ji_ x3,ei_ (by omega) (by omega)]
      exact f2_.2 (by omega)
    · rw[b1_ h0,b1_ (show ¬ 1≤v by omega),e0_]
theorem Gr.own {g:ab_} (hG:Gr g):bq8 g (exG g).1.1 (exG g).1.2 (dstG g (-1))=(!((dstG g (-1)).any λv=>decide (v<0)),(0,())):=by
  have hd:=hG.dl (-1)
  have hl:=hG.len
  have hn:=hG.n
  have hpos:=hG.pos
  unfold bq8
  rw[hG.e0]
  have hB:cf1 g (exG g).1.1 (exG g).1.2 (dstG g (-1))=false:=by
    have ha:at? (exG g).1.1 0=some (lb_ g).1:=ah_ hG.p0
    unfold cf1
    rw[ha,j5_,b4_ rfl,hl,hd,b1_ (show ¬ (((exG g).1.1.length:Int)<1) by omega),b1_ (show ¬ ((3000:Int)<((exG g).1.1.length:Int)) by omega)]
    simp
  rw[hB]
  simp only[h9_,a1_]
  have hat:∀ i v,(dstG g (-1))[i]?=some v→uq_ g (exG g).1.1 (exG g).1.2 (dstG g (-1)) i=decide (0≤v):=λi v hv=>by
    have hi:=ak_ hv
    obtain⟨p,hp⟩:=aw_ (l:=(exG g).1.1) (i:=i) (by omega)
    obtain⟨row,hr⟩:=aw_ (l:=(exG g).1.2) (i:=i) (by omega)
    unfold uq_
    rw[hp,hr,ji_ (ah_ hv)]
    exact hG.posE hp hr hv
  cases ha:(dstG g (-1)).any λv=>decide (v<0) with
  | true =>
    obtain⟨v,hv,hv0⟩:=g1_.1 ha
    obtain⟨i,hi⟩:=e7_ hv
    have hil:=ak_ hi
    have:((List.range (exG g).1.1.length).any λi=>!(uq_ g (exG g).1.1 (exG g).1.2 (dstG g (-1)) i))=true:=g1_.2 ⟨i,by rw[k5_];omega,by
      have hv1:=f6_ hv0
      rw[hat i v hi,b1_ (by omega)]
      rfl⟩
    rw[this]
    rfl
  | false =>
    have:((List.range (exG g).1.1.length).any λi=>!(uq_ g (exG g).1.1 (exG g).1.2 (dstG g (-1)) i))=false:=by
      cases h:(List.range (exG g).1.1.length).any λi=>!(uq_ g (exG g).1.1 (exG g).1.2 (dstG g (-1)) i) with
      | false=>rfl
      | true =>
        obtain⟨i,hi,hq⟩:=g1_.1 h
        rw[k5_] at hi
        obtain⟨v,hv⟩:=aw_ (l:=dstG g (-1)) (i:=i) (by omega)
        have hv0:=c1_ (dz_ ha v (au_ hv))
        rw[hat i v hv,b4_ (by omega)] at hq
        cases hq
    rw[this]
    rfl
end
section
set_option maxRecDepth 10000
def flE:Nat→List (List ad_)→List (Nat×ad_)
  | _,[]=>[]
  | i,r::rs=>r.map (λx=>(i,x))++flE (i+1) rs
theorem av3:∀ (a b:List (List ad_)) (i:Nat),flE i (a++b)=flE i a++flE (i+a.length) b
  | [],b,i=>rfl
  | r::a,b,i=>by
    rw[l1_,flE,flE,av3 a b (i+1),b5_,c5_,show i+1+a.length=i+(a.length+1) by omega]
theorem bc7 {es:List (List ad_)} {i:Nat} {row:List ad_} (h:es[i]?=some row):flE 0 (es.take (i+1))=flE 0 (es.take i)++row.map (λx=>(i,x)):=by
  rw[d3_,h,av3,b0_,c6_,q6_ (by have:=ak_ h;omega)]
  show _++(_++[])=_
  rw[e3_]
theorem by3:∀ {es:List (List ad_)} {i:Nat} {z:Nat×ad_},z ∈ flE i es→∃ k row,z.1=i+k∧es[k]?=some row∧z.2 ∈ row
  | [],i,z,h=>by simp[flE] at h
  | r::es,i,z,h=>by
    rw[flE] at h
    rcases b8_.1 h with h | h
    · obtain⟨x,hx,rfl⟩:=d8_.1 h
      exact⟨0,r,rfl,rfl,hx⟩
    · obtain⟨k,row,h1,h2,h3⟩:=by3 h
      exact⟨k+1,row,by omega,h2,h3⟩
def toB (t:Nat) (z:Nat×ad_):Bool:=z.2.2==(t:Int)
def parE (es:List (List ad_)) (t:Nat):Option (Nat×ad_):=(flE 0 es).find? (toB t)
theorem ag0 {α:Type} (p:α→Bool) (a b:List α):(a++b).find? p=(a.find? p).or (b.find? p):=List.find?_append
theorem rr_ {es:List (List ad_)} {n t:Nat} (hF:FE es n) (h0:0<t) (hn:t<n):∃ i row x,i<t∧es[i]?=some row∧x ∈ row∧x.2=(t:Int)∧parE es t=some (i,x)∧(flE 0 (es.take i)).find? (toB t)=none∧row.find? (λx=>x.2==(t:Int))=some x:=by
  obtain⟨i,row,h1,h2,⟨y,hy,hy2⟩,h4⟩:=hF t h0 hn
  have hpre:(flE 0 (es.take i)).find? (toB t)=none:=by
    rw[p4_]
    intro z hz hb
    obtain⟨k,r,g1,g2,g3⟩:=by3 hz
    have hk:=ak_ g2
    rw[c6_] at hk
    rw[q2_ (by omega)] at g2
    exact h4 k r (by omega) g2 ⟨z.2,g3,f2_.1 hb⟩
  cases hf:row.find? (λx=>x.2==(t:Int)) with
  | none =>
    have:=p4_.1 hf y hy
    rw[hy2] at this
    simp at this
  | some x =>
    have hx:=n1_ hf
    have hx1:=List.find?_some hf
    have hx2:x.2=(t:Int):=f2_.1 hx1
    refine⟨i,row,x,h1,h2,hx,hx2,?_,hpre,hf⟩
    unfold parE
    have hsplit:es=es.take (i+1)++es.drop (i+1):=(h2_ _ _).symm
    rw[hsplit,av3,ag0,bc7 h2,ag0,hpre,Option.none_or,List.find?_map]
    have:(λx=>x.2==(t:Int))=toB t ∘ λx=>(i,x):=rfl
    rw[← this,hf]
    rfl
def wyF (es:List (List ad_)):Nat→Nat→List ae_
  | 0,_=>[]
  | f+1,t=>match t with
    | 0=>[]
    | t+1=>match parE es (t+1) with
      | none=>[]
      | some z=>wyF es f z.1++[z.2.1]
theorem aw8 {es:List (List ad_)} {n:Nat} (hF:FE es n):∀ (f f' t:Nat),t<n→t≤f→t≤f'→wyF es f t=wyF es f' t
  | 0,0,t,_,_,_=>rfl
  | 0,f'+1,t,_,h,_=>by
    obtain rfl:t=0:=by omega
    rfl
  | f+1,0,t,_,_,h=>by
    obtain rfl:t=0:=by omega
    rfl
  | f+1,f'+1,0,_,_,_=>rfl
  | f+1,f'+1,t+1,hn,h,h'=>by
    obtain⟨i,row,x,h1,_,_,_,h5,_⟩:=rr_ hF (q5_ t) hn
    have h5:parE es (t+1)=some (i,x):=h5
    unfold wyF
    simp only[h5]
    rw[aw8 hF f f' i (by omega) (by omega) (by omega)]
def way (es:List (List ad_)) (t:Nat):List ae_:=wyF es t t
theorem cf8 (es:List (List ad_)):way es 0=[]:=rfl
theorem ax0 {es:List (List ad_)} {n t i:Nat} {x:ad_} (hF:FE es n) (h0:0<t) (hn:t<n) (hp:parE es t=some (i,x)):way es t=way es i++[x.1]:=by
  obtain⟨i',row,x',h1,_,_,_,h5,_⟩:=rr_ hF h0 hn
  rw[hp] at h5
  cases h5
  cases t with
  | zero=>omega
  | succ t =>
    unfold way
    rw[wyF,hp]
    simp only
    rw[aw8 hF t i i (by omega) (by omega) (c4_ _)]
theorem bl3 {es:List (List ad_)} {n:Nat} (hF:FE es n):∀ (k t:Nat),t<n→t≤k→(way es t).length≤t
  | k,0,_,_=>c4_ _
  | 0,t+1,_,h=>by omega
  | k+1,t+1,hn,h=>by
    obtain⟨i,row,x,h1,_,_,_,h5,_⟩:=rr_ hF (q5_ t) hn
    rw[ax0 hF (q5_ t) hn h5,a8_,c8_]
    have:=bl3 hF k i (by omega) (by omega)
    omega
def rvK {α:Type} (l:List α) (k:Nat):List α:=(List.range l.length).filterMap λx=>if x<k∨l.length - k≤x then l[l.length - 1 - x]? else l[x]?
theorem qk_ {α:Type} {l:List α} {k x:Nat} (hx:x<l.length):(rvK l k)[x]?=if x<k∨l.length - k≤x then l[l.length - 1 - x]? else l[x]?:=by
  have gen:∀ (n:Nat) (f:Nat→Option α),(∀ y,y<n→(f y).isSome=true)→∀ x,x<n→((List.range n).filterMap f)[x]?=f x:=by
    intro n
    induction n with
    | zero=>intro f _ x h;omega
    | succ n ih =>
      intro f hf x hx
      have hlen:((List.range n).filterMap f).length=n:=by
        have:∀ m,(∀ y,y<m→(f y).isSome=true)→((List.range m).filterMap f).length=m:=by
          intro m
          induction m with
          | zero=>intro _;rfl
          | succ m ih2 =>
            intro h
            rw[List.range_succ,l4_,a8_,ih2 λy hy=>h y (by omega)]
            obtain⟨v,hv⟩:=q0_.1 (h m (by omega))
            simp[hv]
        exact this n λy hy=>hf y (by omega)
      rw[List.range_succ,l4_]
      by_cases e:x=n
      · subst e
        rw[d0_ (by omega),hlen,k2_]
        obtain⟨v,hv⟩:=q0_.1 (hf x (by omega))
        simp[hv]
      · rw[b2_ (by omega)]
        exact ih f (λy hy=>hf y (by omega)) x (by omega)
  unfold rvK
  refine gen l.length _ (λy hy => ?_) x hx
  split
  · rw[a7_ (by omega)];rfl
  · rw[a7_ hy];rfl
theorem sq_ {α:Type} (l:List α) (k:Nat):(rvK l k).length=l.length:=by
  have h1:∀ x,x<l.length→(rvK l k)[x]?≠none:=λx hx=>by
    rw[qk_ hx]
    split
    · rw[a7_ (by omega)];simp
    · rw[a7_ hx];simp
  have h2:(rvK l k).length≤l.length:=by
    unfold rvK
    exact c7_ (n8_ _ _) (by rw[h3_];exact c4_ _)
  by_cases h:(rvK l k).length<l.length
  · exact absurd (b3_ (c4_ _)) (h1 _ h)
  · omega
theorem ch6 {α:Type} (l:List α):rvK l 0=l:=by
  refine f1_ λx => ?_
  by_cases hx:x<l.length
  · rw[qk_ hx,if_neg (by omega)]
  · rw[b3_ (by rw[sq_];omega),b3_ (by omega)]
theorem rvK_end {α:Type} (l:List α) {k:Nat} (hk:l.length≤2 * k+1):rvK l k=l.reverse:=by
  refine f1_ λx => ?_
  by_cases hx:x<l.length
  · rw[qk_ hx,List.getElem?_reverse hx]
    by_cases h:x<k∨l.length - k≤x
    · rw[if_pos h]
    · rw[if_neg h]
      congr 1
      omega
  · rw[b3_ (by rw[sq_];omega),b3_ (by rw[List.length_reverse];omega)]
theorem ch7 {α:Type} (l:List α) {k:Nat} (hk:2 * k+1<l.length) {a b:α} (ha:l[k]?=some a) (hb:l[l.length - 1 - k]?=some b) :
    (rvK l k)[k]?=some a∧(rvK l k)[l.length - 1 - k]?=some b∧((rvK l k).set k b).set (l.length - 1 - k) a=rvK l (k+1):=by
  refine⟨by rw[qk_ (by omega),if_neg (by omega)];exact ha,by rw[qk_ (by omega),if_neg (by omega)];exact hb,?_⟩
  refine f1_ λx => ?_
  by_cases hx:x<l.length
  · rw[qk_ hx]
    by_cases e2:x=l.length - 1 - k
    · subst e2
      rw[e9_ (by rw[g2_,sq_];omega),if_pos (by omega),show l.length - 1 - (l.length - 1 - k)=k by omega,ha]
    · rw[b6_ (by omega)]
      by_cases e1:x=k
      · subst e1
        rw[e9_ (by rw[sq_];omega),if_pos (by omega),hb]
      · rw[b6_ (by omega),qk_ hx]
        by_cases h:x<k∨l.length - k≤x
        · rw[if_pos h,if_pos (by omega)]
        · rw[if_neg h,if_neg (by omega)]
  · rw[b3_ (by rw[g2_,g2_,sq_];omega),b3_ (by rw[sq_];omega)]
end
section
set_option maxRecDepth 100000
noncomputable def deadX (G:bq_) (v40:List Int×Unit):Option (List ae_×(Bool×(Int×Unit))) :=
 ((bt_ v40.1 (-1)).bind λv41 =>
 (cond (decide (v41.1<0))
 (some ([],(false,(0,()))))
 ((ag_ (ρ:=((List (Int×ae_))×((List ac_)×Unit))) (λ(v42:(Int×((List (Int×ae_))×((List ac_)×Unit)))) =>
 (cond (decide (v42.1<(G.2.length:Int)))
 ((at? G.2 v42.1).bind λv43 =>
 ((ag_ (ρ:=((List (Int×ae_))×((List ac_)×Unit))) (λ(v44:(Int×((List (Int×ae_))×((List ac_)×Unit)))) =>
 (cond (decide (v44.1<(v43.length:Int)))
 ((((at? v43 v44.1).bind λv45 =>
 (((cond (!(zj_ v44.2.2.1 v45.2))
 (some ((decide (v42.1<v45.2)),()))
 (some (false,())))).bind λv46 =>
 (cond v46.1
 (some ((hv_ v44.2.1 v45.2 v45.1),((hv_ v44.2.2.1 v45.2 v42.1),())))
 (some (v44.2.1,(v44.2.2.1,()))))))).bind λv47 =>
 (some (inl ((w64 (v44.1+1)),(v47.1,(v47.2.1,()))))))
 (some (inr (v44.2.1,(v44.2.2.1,())))))) (0,(v42.2.1,(v42.2.2.1,())))).bind λv48 =>
 (some (inl ((w64 (v42.1+1)),(v48.1,(v48.2.1,())))))))
 (some (inr (v42.2.1,(v42.2.2.1,())))))) (0,([],([],())))).bind λv49 =>
 ((ag_ (ρ:=((List ae_)×Unit)) (λ(v50:((List ae_)×(Int×Unit))) =>
 (cond (decide (0<v50.2.1))
 ((push? (α:=ae_) v50.1 [(ef_ (0,(0,0)) v49.1 v50.2.1)]).bind λv51 =>
 (some (inl (v51,((ef_ 0 v49.2.1 v50.2.1),())))))
 (some (inr (v50.1,()))))) ([],(v41.1,()))).bind λv52 =>
 ((ag_ (ρ:=((List ae_)×Unit)) (λ(v53:(Int×(Int×((List ae_)×Unit)))) =>
 (cond (decide (v53.1<v53.2.1))
 ((at? v53.2.2.1 v53.2.1).bind λv54 =>
 ((at? v53.2.2.1 v53.2.1).bind λv55 =>
 ((at? v53.2.2.1 v53.1).bind λv56 =>
 ((at? v53.2.2.1 v53.1).bind λv57 =>
 ((at? v53.2.2.1 v53.1).bind λv58 =>
 ((at? v53.2.2.1 v53.1).bind λv59 =>
 ((at? (v53.2.2.1.set v53.1.toNat v55) v53.2.1).bind λv60 =>
 ((at? (v53.2.2.1.set v53.1.toNat v55) v53.2.1).bind λv61 =>
 (some (inl ((w64 (v53.1+1)),((w64 (v53.2.1 - 1)),(((v53.2.2.1.set v53.1.toNat v55).set v53.2.1.toNat v57),())))))))))))))
 (some (inr (v53.2.2.1,()))))) (0,((w64 ((v52.1.length:Int) - 1)),(v52.1,())))).bind λv62 =>
 (some (v62.1,(true,(0,())))))))))
theorem dead_eq:lt_=λa0=>(cf_ a0).bind λv0=>cond (v0.2.1 != 0) (cond (v0.2.1 != 0) (some ([],(false,(v0.2.1,())))) none) (ce6 rowE a0 v0.1 λv40=>deadX v0.1 v40):=by
  kernel_rfl
theorem IndexI {D:List Int} (hD:D.length≤1000000) (k:Int):(bt_ D k=some (-1,())∧∀ v ∈ D,v≠k)∨∃ n:Nat,bt_ D k=some ((n:Int),())∧D[n]?=some k∧∀ j v,j<n→D[j]?=some v→v≠k:=by
  unfold bt_
  have key:∀ (m:List Int) (j:Nat),(fu_ (λi y=>cond (k==y) (some (inr ((i:Int),()):Unit⊕(Int×Unit))) none) j m=none∧∀ v ∈ m,v≠k)∨∃ n:Nat,fu_ (λi y=>cond (k==y) (some (inr ((i:Int),()):Unit⊕(Int×Unit))) none) j m=some (inr (((j+n:Nat):Int),()))∧m[n]?=some k∧∀ i v,i<n→m[i]?=some v→v≠k:=by
    intro m
    induction m with
    | nil=>exact λj=>.inl ⟨rfl,λv hv=>by simp at hv⟩
    | cons x m ih =>
      intro j
      unfold fu_
      cases hx:k==x with
      | true=>exact .inr ⟨0,rfl,by rw[f2_.1 hx];rfl,λi v hi=>by omega⟩
      | false =>
        have hx:x≠k:=λe=>by rw[e] at hx;simp at hx
        simp only[a1_]
        rcases ih (j+1) with ⟨h1,h2⟩ | ⟨n,h1,h2,h3⟩
        · exact .inl ⟨h1,λv hv=>by
            rcases e1_.1 hv with rfl | hv
            · exact hx
            · exact h2 v hv⟩
        · refine .inr ⟨n+1,by rw[h1,show j+1+n=j+(n+1) by omega],h2,λi v hi hv => ?_⟩
          cases i with
          | zero =>
            obtain rfl:x=v:=by simpa using hv
            exact hx
          | succ i=>exact h3 i v (by omega) hv
  have run:=mo_ D (λi y=>cond (k==y) (some (inr ((i:Int),()):Unit⊕(Int×Unit))) none) (λi=>((i:Int),())) (r0:=inl ()) (body:=λ(v0:(Int×Unit)) =>
 (cond (decide (v0.1<(D.length:Int)))
 ((at? D v0.1).bind λv1 =>
 (cond (k==v1)
 (some (inr (inr (v0.1,()))))
 (some (inl ((w64 (v0.1+1)),())))))
 (some (inr (inl ()))))) (λi y hy=>by
    have:=ak_ hy
    simp only[dlt (ak_ hy),a4_,ah_ hy,a0_,az_ (show Sm i by show _≤1000000000;omega)]
    cases k==y<;>rfl) (by simp only[dnl,a1_])
  have run:ag_ _ ((0:Int),())=_:=run
  rw[run]
  rcases key D 0 with ⟨h1,h2⟩ | ⟨n,h1,h2,h3⟩
  · exact .inl ⟨by rw[h1];rfl,h2⟩
  · exact .inr ⟨n,by rw[h1,b0_];rfl,h2,h3⟩
def pmE (L:List (Nat×ad_)) (k:Int):Option (Nat×ad_):=L.find? λz=>z.2.2==k&&decide ((z.1:Int)<z.2.2)
def MP (L:List (Nat×ad_)) (by_:List (Int×ae_)) (fr:List ac_):Prop:=∀ k,mget? fr k=(pmE L k).map (λz=>(z.1:Int))∧mget? by_ k=(pmE L k).map (λz=>z.2.1)
theorem ac8 (L:List (Nat×ad_)) (z:Nat×ad_) (k:Int):pmE (L++[z]) k=(pmE L k).or (cond (z.2.2==k&&decide ((z.1:Int)<z.2.2)) (some z) none):=by
  unfold pmE
  rw[ag0]
  congr 1
theorem MP_step {L:List (Nat×ad_)} {by_:List (Int×ae_)} {fr:List ac_} (h:MP L by_ fr) (z:Nat×ad_) :
    ∃ by' fr',(((cond (!(zj_ fr z.2.2)) (some ((decide ((z.1:Int)<z.2.2)),())) (some (false,()))).bind λv46 =>
 (cond v46.1
 (some ((hv_ by_ z.2.2 z.2.1),((hv_ fr z.2.2 (z.1:Int)),())))
 (some (by_,(fr,()))))):Option (List (Int×ae_)×(List ac_×Unit)))=some (by',(fr',()))∧MP (L++[z]) by' fr':=by
  obtain⟨h1,h2⟩:=h z.2.2
  unfold zj_
  rw[h1]
  cases hp:pmE L z.2.2 with
  | some y =>
    refine⟨by_,fr,rfl,λk => ?_⟩
    rw[ac8]
    by_cases hk:z.2.2=k
    · subst hk
      rw[hp,Option.some_or,← hp]
      exact⟨h1,h2⟩
    · rw[show (z.2.2==k)=false from m5_ hk,e0_,a1_,r2_]
      exact h k
  | none =>
    cases hlt:decide ((z.1:Int)<z.2.2) with
    | false =>
      refine⟨by_,fr,by simp,λk => ?_⟩
      rw[ac8,hlt,f9_,a1_,r2_]
      exact h k
    | true =>
      refine⟨hv_ by_ z.2.2 z.2.1,hv_ fr z.2.2 (z.1:Int),by simp,λk => ?_⟩
      rw[ac8,hlt,h4_,ru_,ru_]
      by_cases hk:k=z.2.2
      · subst hk
        rw[if_pos rfl,if_pos rfl,hp,d5_]
        exact⟨rfl,rfl⟩
      · rw[if_neg hk,if_neg hk,show (z.2.2==k)=false from m5_ (λe=>hk e.symm),a1_,r2_]
        exact h k
theorem bd0 {α:Type} {p q:α→Bool} {z:α}:∀ {L:List α},L.find? p=some z→q z=true→L.find? (λa=>p a&&q a)=some z
  | [],h,_=>by cases h
  | a::L,h,hq=>by
    cases hp:p a with
    | true =>
      rw[o1_ hp] at h
      obtain rfl:=a5_ h
      rw[o1_ (by rw[hp,hq];rfl)]
    | false =>
      rw[o2_ (by rw[hp];decide)] at h
      rw[o2_ (by rw[hp];simp)]
      exact bd0 h hq
theorem pmE_par {es:List (List ad_)} {t i:Nat} {x:ad_} (h:parE es t=some (i,x)) (hx:x.2=(t:Int)) (hi:i<t):pmE (flE 0 es) (t:Int)=some (i,x) :=
  bd0 (p:=toB t) (q:=λz=>decide ((z.1:Int)<z.2.2)) h (by
    show decide ((i:Int)<x.2)=true
    rw[hx]
    exact b4_ (by omega))
theorem an0 {es:List (List ad_)} {n:Nat} (hF:FE es n) (hn:n≤3000) {by_:List (Int×ae_)} {fr:List ac_} (hM:MP (flE 0 es) by_ fr):∀ (k t:Nat) (acc:List ae_),t<n→t≤k→acc.length+t≤1000000→ag_ (ρ:=(List ae_)×Unit) (λ(v50:((List ae_)×(Int×Unit))) =>
 (cond (decide (0<v50.2.1))
 ((push? (α:=ae_) v50.1 [(ef_ (0,(0,0)) by_ v50.2.1)]).bind λv51 =>
 (some (inl (v51,((ef_ 0 fr v50.2.1),())))))
 (some (inr (v50.1,()))))) (acc,((t:Int),()))=some (acc++(way es t).reverse,())
  | k,0,acc,_,_,_=>by
    refine bi_ ?_
    rw[cf8,List.reverse_nil,e3_]
    rfl
  | 0,t+1,acc,_,h,_=>by omega
  | k+1,t+1,acc,ht,hk,hl=>by
    obtain⟨i,row,x,h1,_,_,h4,h5,_⟩:=rr_ hF (q5_ t) ht
    have hpm:=pmE_par h5 h4 h1
    obtain⟨g1,g2⟩:=hM ((t+1:Nat):Int)
    rw[hpm] at g1 g2
    have ih:=an0 hF hn hM k i (acc++[x.1]) (by omega) (by omega) (by rw[a8_,c8_];omega)
    refine bg_ (t:=(acc++[x.1],((i:Int),()))) ?_ ?_
    · unfold ef_
      rw[g1,g2]
      simp only[b4_ (show (0:Int)<((t+1:Nat):Int) by omega),a4_,ci_ (show Sm acc.length by show _≤1000000000;omega),a0_]
      rfl
    · rw[ih,ax0 hF (q5_ t) ht h5,List.reverse_append,b5_]
      rfl
theorem cl3 (l:List ae_) (hl:l.length≤1000000):(ag_ (ρ:=((List ae_)×Unit)) (λ(v53:(Int×(Int×((List ae_)×Unit)))) =>
 (cond (decide (v53.1<v53.2.1))
 ((at? v53.2.2.1 v53.2.1).bind λv54 =>
 ((at? v53.2.2.1 v53.2.1).bind λv55 =>
 ((at? v53.2.2.1 v53.1).bind λv56 =>
 ((at? v53.2.2.1 v53.1).bind λv57 =>
 ((at? v53.2.2.1 v53.1).bind λv58 =>
 ((at? v53.2.2.1 v53.1).bind λv59 =>
 ((at? (v53.2.2.1.set v53.1.toNat v55) v53.2.1).bind λv60 =>
 ((at? (v53.2.2.1.set v53.1.toNat v55) v53.2.1).bind λv61 =>
 (some (inl ((w64 (v53.1+1)),((w64 (v53.2.1 - 1)),(((v53.2.2.1.set v53.1.toNat v55).set v53.2.1.toNat v57),())))))))))))))
 (some (inr (v53.2.2.1,()))))) (0,((w64 ((l.length:Int) - 1)),(l,()))))=some (l.reverse,()):=by
  have h0:((0:Int),((w64 ((l.length:Int) - 1)),(l,())))=(((0:Nat):Int),(((l.length:Int) - 1 - ((0:Nat):Int)),(rvK l 0,()))):=by
    rw[ch6,ei_ (by omega) (by omega)]
    simp
  rw[h0]
  rw[← rvK_end l (k:=l.length / 2) (by omega)]
  refine bo5 (l.length / 2) (λk=>((k:Int),(((l.length:Int) - 1 - (k:Int)),(rvK l k,())))) (λk hk => ?_) ?_
  · obtain⟨a,ha⟩:=aw_ (l:=l) (i:=k) (by omega)
    obtain⟨b,hb⟩:=aw_ (l:=l) (i:=l.length - 1 - k) (by omega)
    obtain⟨r1,r2,r3⟩:=ch7 l (by omega) ha hb
    have e:(l.length:Int) - 1 - (k:Int)=((l.length - 1 - k:Nat):Int):=by omega
    have r4:((rvK l k).set k b)[l.length - 1 - k]?=some b:=by rw[b6_ (by omega)];exact r2
    simp only[e,b4_ (show (k:Int)<((l.length - 1 - k:Nat):Int) by omega),a4_,ah_ r1,ah_ r2,a0_,c3_,ah_ r4,r3,az_ (show Sm k by show _≤1000000000;omega)]
    rw[ei_ (by omega) (by omega)]
    congr 4
    omega
  · simp only[b1_ (show ¬ (((l.length / 2:Nat):Int)<(l.length:Int) - 1 - ((l.length / 2:Nat):Int)) by omega),a1_]
noncomputable def dedR (g:ab_):List ae_×(Bool×(Int×Unit)) :=
  cond ((exG g).2.1 != 0) ([],(false,((exG g).2.1,()))) (match (dstG g (-1)).findIdx? (λv=>decide (v<0)) with
    | none=>([],(false,(0,())))
    | some t=>(way (exG g).1.2 t,(true,(0,()))))
theorem bj6 {D:List Int} {p:Int→Bool} {n:Nat} {v:Int} (h:D[n]?=some v) (hp:p v=true) (hb:∀ j u,j<n→D[j]?=some u→p u=false):D.findIdx? p=some n:=by
  rw[i6_]
  have hn:=ak_ h
  rw[a7_ hn] at h
  refine⟨hn,by rw[a5_ h];exact hp,λj hj => ?_⟩
  have:=hb j _ hj (a7_ (by omega))
  rw[this]
  decide
theorem bi2 {g:ab_} (hg:SmG g):lt_ g=some (dedR g):=by
  rw[dead_eq]
  unfold dedR
  simp only
  rw[jr_ hg,a0_]
  cases hE:(exG g).2.1 != 0 with
  | true=>rfl
  | false =>
  have hE0:(exG g).2.1=0:=by simpa using hE
  have hG:=bd4 hg hE0
  have hF:=cu8 hE0
  have hn:=hG.n
  have hdl:=hG.dl (-1)
  have hel:=hG.len
  simp only[a1_]
  rw[show (exG g).1=((exG g).1.1,(exG g).1.2) from rfl,bu0 hg hG.h0 hG.gI hG.len ar3,ah0,show dst (exG g).1.2 (rb_ g (exG g).1.1) (exG g).1.1.length=dstG g (-1) from by unfold dstG;rw[hG.al]]
  unfold deadX
  have hlo:=(hG.dc (-1)).lo
  rcases IndexI (D:=dstG g (-1)) (by omega) (-1) with ⟨h1,h2⟩ | ⟨t,h1,h2,h3⟩
  · rw[h1,a0_]
    have:(dstG g (-1)).findIdx? (λv=>decide (v<0))=none:=by
      rw[n2_]
      intro v hv
      obtain⟨j,hj⟩:=e7_ hv
      have:=hlo j v hj
      have:=h2 v hv
      exact b1_ (by omega)
    rw[this]
    rfl
  · rw[h1,a0_]
    have hfi:(dstG g (-1)).findIdx? (λv=>decide (v<0))=some t:=bj6 h2 (b4_ (by omega)) λj u hj hu=>by
      have:=hlo j u hu
      have:=h3 j u hj hu
      exact b1_ (by omega)
    have ht:t<(exG g).1.1.length:=by rw[← hdl];exact ak_ h2
    rw[hfi]
    simp only[b1_ (show ¬ ((t:Int)<0) by omega),a1_]
    refine kd_ (exG g).1.2.length (λi (z:Int×((List (Int×ae_))×((List ac_)×Unit)))=>∃ b f,z=((i:Int),(b,(f,())))∧MP (flE 0 ((exG g).1.2.take i)) b f) ⟨[],[],rfl,λk=>⟨rfl,rfl⟩⟩ (λi z hi hz => ?_) (λz hz => ?_)
    · obtain⟨b,f,rfl,hM⟩:=hz
      obtain⟨row,hr⟩:=aw_ hi
      have hrl:=hG.gI.eL row (au_ hr)
      have hin:∃ b' f',ag_ (ρ:=((List (Int×ae_))×((List ac_)×Unit))) (λ(v44:(Int×((List (Int×ae_))×((List ac_)×Unit)))) =>
 (cond (decide (v44.1<(row.length:Int)))
 ((((at? row v44.1).bind λv45 =>
 (((cond (!(zj_ v44.2.2.1 v45.2))
 (some ((decide ((i:Int)<v45.2)),()))
 (some (false,())))).bind λv46 =>
 (cond v46.1
 (some ((hv_ v44.2.1 v45.2 v45.1),((hv_ v44.2.2.1 v45.2 (i:Int)),())))
 (some (v44.2.1,(v44.2.2.1,()))))))).bind λv47 =>
 (some (inl ((w64 (v44.1+1)),(v47.1,(v47.2.1,()))))))
 (some (inr (v44.2.1, (v44.2.2.1, ())))))) (0, (b, (f, ()))) = some (b', (f', ())) ∧ MP (flE 0 ((exG g).1.2.take (i + 1))) b' f' := by
        obtain⟨r,hr1,b',f',rfl,hM'⟩:=ih_ (ρ:=((List (Int×ae_))×((List ac_)×Unit))) (body:=λ(v44:(Int×((List (Int×ae_))×((List ac_)×Unit)))) =>
 (cond (decide (v44.1<(row.length:Int)))
 ((((at? row v44.1).bind λv45 =>
 (((cond (!(zj_ v44.2.2.1 v45.2))
 (some ((decide ((i:Int)<v45.2)),()))
 (some (false,())))).bind λv46 =>
 (cond v46.1
 (some ((hv_ v44.2.1 v45.2 v45.1),((hv_ v44.2.2.1 v45.2 (i:Int)),())))
 (some (v44.2.1,(v44.2.2.1,()))))))).bind λv47 =>
 (some (inl ((w64 (v44.1+1)),(v47.1,(v47.2.1,()))))))
 (some (inr (v44.2.1, (v44.2.2.1, ())))))) (fun k z => ∃ b f, z = ((k : Int), (b, (f, ()))) ∧ MP (flE 0 ((exG g).1.2.take i) ++ (row.take k).map (fun x => (i, x))) b f) (fun r => ∃ b f, r = (b, (f, ())) ∧ MP (flE 0 ((exG g).1.2.take (i + 1))) b f) row.length 0 (0, (b, (f, ()))) ⟨b, f, rfl, by rw [k4_, q9_, e3_]; exact hM⟩ (fun k z _ hk hz => .inl (by
          obtain⟨b1,f1,rfl,hM1⟩:=hz
          rw[b0_] at hk
          obtain⟨x,hx⟩:=aw_ hk
          obtain⟨b2,f2,e2,hM2⟩:=MP_step hM1 (i,x)
          refine⟨((k+1:Nat),(b2,(f2,()))),?_,b2,f2,rfl,?_⟩
          · simp only[dlt hk,a4_,ah_ hx,a0_,az_ (show Sm k by show _≤1000000000;omega)]
            simp only at e2
            rw[e2]
            rfl
          · rw[d3_,hx]
            simp only[Option.toList,j0_,j8_,q9_]
            rw[← b5_]
            exact hM2)) (λz hz=>by
          obtain⟨b1,f1,rfl,hM1⟩:=hz
          rw[b0_] at hM1 ⊢
          refine⟨(b1,(f1,())),by simp only[dnl,a1_],b1,f1,rfl,by rw[bc7 hr];rw[d7_] at hM1;exact hM1⟩)
        exact⟨b',f',hr1,hM'⟩
      obtain⟨b',f',e',hM'⟩:=hin
      refine⟨((i+1:Nat),(b',(f',()))),?_,b',f',rfl,hM'⟩
      simp only[dlt hi,a4_,ah_ hr,a0_,az_ (show Sm i by show _≤1000000000;omega)]
      rw[e']
      rfl
    · obtain⟨b,f,rfl,hM⟩:=hz
      rw[d7_] at hM
      refine⟨_,by simp only[dnl,a1_];rfl,?_⟩
      simp only
      have hwl:=bl3 hF t t ht (c4_ _)
      rw[an0 hF hn hM t t [] ht (c4_ _) (by rw[j1_];omega),a0_,g7_]
      simp only
      rw[cl3 _ (by rw[List.length_reverse];omega),a0_,List.reverse_reverse]
end
section
set_option maxRecDepth 100000
theorem cb4 {σ ρ υ:Type} {body:σ→Option (σ⊕ρ)} {K:ρ→Option υ} {x:Option υ} {z0:σ} (I:Nat→σ→Prop) (n:Nat) (h0:I 0 z0)
    (st:∀ j s,j<n→I j s→(∃ s',body s=some (.inl s')∧I (j+1) s')∨∃ r,body s=some (.inr r)∧K r=x) (e:∀ s,I n s→∃ r,body s=some (.inr r)∧K r=x):(ag_ body z0).bind K=x:=by
  obtain⟨r,h1,h2⟩:=ih_ I (λr=>K r=x) n 0 z0 h0 (λj s _ hj hs=>st j s (by omega) hs) (λs hs=>e s (by rwa [b0_] at hs))
  rw[h1,a0_,h2]
end
section
set_option maxRecDepth 100000
def DeadP (g:ab_) (p:aa_):Prop:=∃ (j:Nat) (v:Int),(exG g).1.1[j]?=some p∧(dstG g (-1))[j]?=some v∧v<0
theorem Gr.lc {g:ab_} (hG:Gr g):LC (exG g).1.2 (rb_ g (exG g).1.1) (dstG g (-1)):=by
  have:=hG.dc (-1)
  rw[hG.al] at this
  exact this
theorem DeadP.step {g:ab_} (hG:Gr g) {p q:aa_} (h:DeadP g p) {m:ae_} (hs:stepP g p m=some q):DeadP g q:=by
  obtain⟨j,v,h1,h2,h3⟩:=h
  obtain⟨row,n,g1,g2,g3⟩:=vy_ hG.h0 hG.ge hG.gI.pI hG.len h1 hs
  obtain⟨w,hw⟩:=aw_ (l:=dstG g (-1)) (i:=n) (by rw[hG.dl];exact ak_ g3)
  refine⟨n,w,g3,hw,?_⟩
  by_cases h0:0≤w
  · exfalso
    obtain⟨k,rfl⟩:=g5_ h0
    obtain⟨u,u1,u2,_⟩:=hG.lc.up j row (m,(n:Int)) k g1 g2 (ah_ hw)
    rw[h2] at u1
    have:=a5_ u1
    omega
  · omega
theorem cn8 {g:ab_}:(dedR g).2.2.1=(exG g).2.1∧((exG g).2.1≠0→(dedR g).2.1=false):=by
  unfold dedR
  cases h:(exG g).2.1 != 0 with
  | true=>exact⟨rfl,λ_=>rfl⟩
  | false =>
    have h0:(exG g).2.1=0:=by simpa using h
    simp only[a1_]
    cases (dstG g (-1)).findIdx? (λv=>decide (v<0)) with
    | none=>exact⟨h0.symm,λ_=>rfl⟩
    | some t=>exact⟨h0.symm,λe=>absurd h0 e⟩
end
section
set_option maxRecDepth 100000
theorem qs_ {g:ab_} (hg:SmG g) (h0:br_ g=0) {p:aa_} (hv:VP g p):es_ g p=some (true,()):=by
  unfold es_ fo_
  rw[qm_ hg,a0_,h0]
  simp only[show ((0:Int) != 0)=false from rfl,a1_]
  rw[nn_ hg.room,a0_]
  have hs:he_ g.1 p.1=0:=el_ (cd_ h0).room hv.st
  rw[hs,hv.rd]
  simp only[show ((0:Int) != 0)=false from rfl,h9_,a1_,a0_]
  rfl
theorem hold_VP {g:ab_} (hg:SmG g) (h0:br_ g=0) {p:aa_} (hv:VP g p):bh_ p.1 g.1.2.2.2.2.2.2.2=some (co_ p.1.1 g.1.2.2.2.2.2.2.2,()):=by
  have hgo:=hg.go
  have hl1:=hv.st.l1
  obtain⟨c1,c2⟩:=sh_ hg.room.th (bn_ (cd_ h0).room).go
  exact hu_ (s:=p.1) (show Sm _ by show _≤1000000000;omega) (by show InC p.1.1.length _;rw[hl1];exact c1)
abbrev fn (g:ab_) (q:aa_):Bool:=co_ q.1.1 g.1.2.2.2.2.2.2.2
end
section
set_option maxRecDepth 100000
theorem ym_ {g:ab_} (hg:SmG g):ia_ g=some (exG g):=by
  unfold ia_
  rw[jr_ hg]
  rfl
theorem cn6:gg_=λa0=>(cf_ a0).bind λv0=>cond (v0.2.1 != 0) (cond (v0.2.1 != 0) (some ([],(v0.2.1,()))) none) (ce6 rowE a0 v0.1 λv40=>some (v40.1,(0,()))):=by kernel_rfl
theorem as9 {g:ab_} (hg:SmG g) (he:(exG g).2.1=0):gg_ g=some (dstG g (-1),(0,())):=by
  have hG:=bd4 hg he
  rw[cn6]
  simp only
  rw[jr_ hg,a0_,he]
  simp only[show ((0:Int) != 0)=false from rfl,a1_]
  rw[show (exG g).1=((exG g).1.1,(exG g).1.2) from rfl,bu0 hg hG.h0 hG.gI hG.len ar3,ah0,show dst (exG g).1.2 (rb_ g (exG g).1.1) (exG g).1.1.length=dstG g (-1) from by unfold dstG;rw[hG.al]]
theorem VP_SmPo {g:ab_} (hg:SmG g) (ok:OkG g) {p:aa_} (hv:VP g p):SmPo p:=by
  have h:=aw5 hg ok hv
  have h1:=h.n1
  have h2:=h.n2
  have h3:=h.n3
  have h4:=h.n4
  exact⟨by omega,by omega,by omega,by omega⟩
noncomputable def cf3 (g:ab_):Bool:=(dstG g (-1)).any λv=>decide (v<0)
theorem cn9 {g:ab_} (he:(exG g).2.1=0):(dedR g).2.1=cf3 g:=by
  unfold dedR cf3
  rw[he]
  simp only[show ((0:Int) != 0)=false from rfl,a1_]
  cases hf:(dstG g (-1)).findIdx? (λv=>decide (v<0)) with
  | none =>
    rw[n2_] at hf
    cases h:(dstG g (-1)).any λv=>decide (v<0) with
    | false=>rfl
    | true =>
      obtain⟨v,h1,h2⟩:=g1_.1 h
      rw[hf v h1] at h2
      cases h2
  | some t =>
    rw[i6_] at hf
    obtain⟨h1,h2,_⟩:=hf
    exact (g1_.2 ⟨_,List.getElem_mem h1,h2⟩).symm
theorem cj1 {g:ab_} (h:(lb_ g).2.1=0) (ps:List aa_) (es:List (List ad_)) (D:List Int):(bq8 g ps es D).2.1=0:=by
  unfold bq8
  rw[h]
  simp only[show ((0:Int) != 0)=false from rfl,a1_]
  cases cf1 g ps es D with
  | true=>rfl
  | false=>cases (List.range ps.length).any λi=>!(uq_ g ps es D i)<;>rfl
theorem cj2 {g:ab_} (hg:SmG g) (he:(exG g).2.1=0) {ps:List aa_} {es:List (List ad_)} {D:List Int} (h:(bq8 g ps es D).1=true):cf3 g=false:=by
  have hG:=bd4 hg he
  obtain⟨_,hC⟩:=prvR_ok hg h
  have hal:=hC.alive hG λi p hp=>by
    obtain⟨xs,hx⟩:=hG.reach (cu8 he) (i+1) i p (by omega) hp
    obtain⟨q,q1,q2⟩:=br3 hG.ge xs 0 i _ hx hG.p0
    rw[hp] at q2
    rw[← a5_ q2] at q1
    exact⟨_,q1⟩
  unfold cf3
  cases ha:(dstG g (-1)).any λv=>decide (v<0) with
  | false=>rfl
  | true =>
    obtain⟨v,h1,h2⟩:=g1_.1 ha
    obtain⟨i,hi⟩:=e7_ h1
    have:=hal i v hi
    have:=f6_ h2
    omega
def fdN {α:Type} (q:α→Bool) (l:List α):Int:=match l.findIdx? q with
  | none=>-1
  | some i=>(i:Int)
theorem cn3 {α:Type} (q:α→Bool) {l:List α} {j:Nat} {x:α} (hx:l[j]?=some x):fdN q (l.take (j+1))=cond (decide (fdN q (l.take j)<0)&&q x) (j:Int) (fdN q (l.take j)):=by
  have hl:(l.take j).length=j:=by rw[c6_];have:=ak_ hx;omega
  unfold fdN
  rw[d3_,hx]
  simp only[Option.toList]
  rw[List.findIdx?_append,hl]
  cases (l.take j).findIdx? q with
  | some i =>
    rw[Option.some_or]
    simp only[b1_ (show ¬ ((i:Int)<0) by omega),e0_,a1_]
  | none =>
    rw[Option.none_or]
    cases hq:q x with
    | true=>simp[List.findIdx?_cons,hq]
    | false=>simp[List.findIdx?_cons,hq]
theorem cn2 {α:Type} {q:α→Bool} {l:List α} {x:α} (hx:x ∈ l) (hq:q x=true):∃ (i:Nat) (y:α),fdN q l=(i:Int)∧l[i]?=some y∧q y=true:=by
  unfold fdN
  cases hf:l.findIdx? q with
  | none =>
    rw[n2_] at hf
    rw[hf x hx] at hq
    cases hq
  | some i =>
    rw[i6_] at hf
    obtain⟨h1,h2,_⟩:=hf
    exact⟨i,_,rfl,a7_ h1,h2⟩
theorem law05_ProveFinishes (g:ab_) (l:List ae_) (c:dp_):fr_ g l c=some (true,()):=by
  obtain⟨b,e,hb⟩:=an1 g
  unfold fr_
  rw[e,a0_]
  cases b with
  | true=>simp only[a4_,il_,a0_]
  | false =>
  have hN:=hb rfl
  have hg:=hN.sm
  cases hl:decide (20<(l.length:Int)) with
  | true=>simp only[a4_,a1_,il_,a0_]
  | false =>
  have hl:=c1_ hl
  obtain⟨b',e',hb'⟩:=bi9 c
  simp only[a1_]
  rw[e',a0_,a0_]
  cases b' with
  | true=>simp only[a4_,il_,a0_]
  | false =>
  have hc:=hb' rfl
  have hcc:=hc.c
  simp only[a1_]
  rw[bh6 hg,a0_,ym_ hg,a0_]
  cases hE:(exG g).2.1 != 0 with
  | true=>simp only[a4_,il_,a0_]
  | false =>
  have hE0:(exG g).2.1=0:=by simpa using hE
  have hG:=bd4 hg hE0
  have h0:=hG.h0
  have ok:=cd_ h0
  have hLC:=hG.lc
  have hdl:=hG.dl (-1)
  have hel:=hG.len
  have hn3:=hG.n
  have hpos:=hG.pos
  obtain⟨_,hv0⟩:=qy_ hg hG.e0
  obtain⟨d1,_⟩:=cn8 (g:=g)
  have hsm:∀ p ∈ (exG g).1.1,SmPo p:=λp hp=>VP_SmPo hg ok (hG.gI.pI.v p hp)
  simp only[a1_]
  rw[as9 hg hE0,a0_,bi2 hg,a0_,show (exG g).1=((exG g).1.1,(exG g).1.2) from rfl]
  simp only
  rw[ub_ hg hsm,a0_,hG.own,ay_ (show Sm c.2.length by show _≤1000000000;omega),a0_,show c.1=(c.1.1,c.1.2) from rfl,ub_ hg hc.d,a0_,cj1 hG.e0,d1,hE0,cn9 hE0]
  simp only[show ((0:Int) != 0)=false from rfl,a1_]
  have hown:((!((dstG g (-1)).any λv=>decide (v<0)))==cf3 g)=false:=by
    show ((!(cf3 g))==cf3 g)=false
    cases cf3 g<;>rfl
  rw[hown]
  simp only[a1_]
  have h12:(cond (bq8 g c.1.1 c.1.2 c.2).1 (some (cf3 g,())) (some (false,())):Option (Bool×Unit))=some (false,()):=by
    cases hp:(bq8 g c.1.1 c.1.2 c.2).1 with
    | false=>rfl
    | true=>rw[cj2 hg hE0 hp];rfl
  rw[h12,a0_]
  simp only[a1_]
  cases hA:cf3 g with
  | true=>simp only[a4_,il_,a0_]
  | false =>
  have halive:∀ (i:Nat) v,(dstG g (-1))[i]?=some v→0≤v:=λi v hv=>by
    have:=c1_ (dz_ hA v (au_ hv))
    omega
  simp only[a1_]
  rw[qr_ hg,a0_,hG.e0]
  simp only[show ((0:Int) != 0)=false from rfl,a1_]
  rw[qs_ hg h0 hv0,a0_]
  simp only[d9_,a1_,a0_]
  refine cb4 (λn (z:Int×(((List Int)×((List Int)×((List Int)×((List Bool)×Unit))))×Unit))=>∃ p,VP g p∧(∃ j:Nat,(exG g).1.1[j]?=some p)∧z=((n:Int),((p.1.1,(p.1.2.1,(p.1.2.2,(p.2,())))),()))) l.length ⟨(lb_ g).1,hv0,⟨0,hG.p0⟩,rfl⟩ (λn z hn hz => ?_) (λz hz => ?_)
  · obtain⟨p,hvp,⟨j,hj⟩,rfl⟩:=hz
    obtain⟨m,hm⟩:=aw_ hn
    refine .inl ?_
    simp only[dlt hn,a4_,ah_ hm,a0_,az_ (show Sm n by show _≤1000000000;omega)]
    rw[show (((p.1.1,(p.1.2.1,p.1.2.2)),p.2):aa_)=p from rfl,rq_ hg h0 hvp,a0_]
    cases hs:stepP g p m with
    | none =>
      refine⟨(((n+1:Nat):Int),((p.1.1,(p.1.2.1,(p.1.2.2,(p.2,())))),())),?_,p,hvp,⟨j,hj⟩,rfl⟩
      rfl
    | some r =>
      have hvr:=rg_ hg h0 hvp hs
      obtain⟨row,n',g1,g2,g3⟩:=vy_ hG.h0 hG.ge hG.gI.pI hG.len hj hs
      refine⟨(((n+1:Nat):Int),((r.1.1,(r.1.2.1,(r.1.2.2,(r.2,())))),())),?_,r,hvr,⟨n',g3⟩,rfl⟩
      simp only[j5_,show ((0:Int)==0)=true from rfl,a4_]
      rw[qs_ hg h0 hvr,a0_]
      rfl
  obtain⟨p,hvp,⟨j,hj⟩,rfl⟩:=hz
  simp only[dnl,a1_]
  refine⟨_,rfl,?_⟩
  simp only[bx_]
  have hfirst:∃ k:Nat,(exG g).1.1[k]?=some p∧∀ (i:Nat) r,i<k→(exG g).1.1[i]?=some r→r≠p:=by
    cases hf:(exG g).1.1.findIdx? (λr=>decide (r=p)) with
    | none =>
      rw[n2_] at hf
      have:=hf p (au_ hj)
      simp at this
    | some k =>
      rw[i6_] at hf
      obtain⟨h1,h2,h3⟩:=hf
      refine⟨k,by rw[a7_ h1,f6_ h2],λi r hi hr => ?_⟩
      have:=h3 i hi
      rw[a7_ (by omega)] at hr
      rw[a5_ hr] at this
      exact c1_ (by simpa using this)
  obtain⟨k,hk,hkf⟩:=hfirst
  have hkl:=ak_ hk
  refine mb_ k (λi=>((i:Int),())) rfl (λi hi => ?_) (r:=((k:Int),())) ?_ ?_
  · obtain⟨r,hr⟩:=aw_ (l:=(exG g).1.1) (i:=i) (by omega)
    simp only[dlt (ak_ hr),a4_,ah_ hr,a0_]
    rw[show (((p.1.1,(p.1.2.1,p.1.2.2)),p.2):aa_)=p from rfl,lk_ (hsm r (au_ hr)),a0_,b1_ (hkf i r hi hr)]
    simp only[g3_,a0_,a4_,az_ (show Sm i by show _≤1000000000;omega)]
  · simp only[dlt hkl,a4_,ah_ hk,a0_]
    rw[show (((p.1.1,(p.1.2.1,p.1.2.2)),p.2):aa_)=p from rfl,lk_ (hsm p (au_ hk)),a0_,b4_ rfl]
    simp only[d9_,a0_,a1_]
  obtain⟨v,hv⟩:=aw_ (l:=dstG g (-1)) (i:=k) (by omega)
  obtain⟨m0,rfl⟩:=g5_ (halive k v hv)
  simp only[show ((k:Int)==((exG g).1.1.length:Int))=false from m5_ (by omega),hdl,hel,h9_,a1_,a0_,ah_ hv]
  have walk:∀ (m k:Nat) (p:aa_),VP g p→(exG g).1.1[k]?=some p→(dstG g (-1))[k]?=some (m:Int)→∃ q:aa_,VP g q∧co_ q.1.1 g.1.2.2.2.2.2.2.2=true∧(ag_ (ρ:=((((List Int)×((List Int)×((List Int)×((List Bool)×Unit))))×Unit)⊕(Bool×Unit))) (λ(v35:(Int×(Int×(((List Int)×((List Int)×((List Int)×((List Bool)×Unit))))×Unit)))) =>
 (cond (decide (0<v35.2.1))
 ((ag_ (ρ:=((Int×Unit)⊕((Int×(Int×(((List Int)×((List Int)×((List Int)×((List Bool)×Unit))))×Unit)))⊕((((List Int)×((List Int)×((List Int)×((List Bool)×Unit))))×Unit)⊕(Bool×Unit))))) (λ(v36:(Int×(Int×Unit))) =>
 ((at? (exG g).1.2 v35.1).bind λv37 =>
 (cond (decide (v36.2.1<(v37.length:Int)))
 ((((at? (exG g).1.2 v35.1).bind λv38 =>
 ((at? v38 v36.2.1).bind λv39 =>
 (((cond (decide (v39.2<0))
 (some (true,()))
 (some ((decide (((exG g).1.1.length:Int)≤v39.2)),())))).bind λv40 =>
 (cond v40.1
 (some (inr (inr (inr (inr (inr (false,())))))))
 (((cond (decide (v36.1<0))
 ((at? (dstG g (-1)) v39.2).bind λv41 =>
 (some ((v41==(w64 (v35.2.1 - 1))),())))
 (some (false,())))).bind λv42 =>
 (cond v42.1
 (some (inl (v36.2.1,())))
 (some (inl (v36.1,())))))))))).bind λv43 =>
 (bx_ v43 (λv44=>(some (inl (v44.1,((w64 (v36.2.1+1)),())))))
 (λv45=>(some v45))))
 (some (inr (inl (v36.1,()))))))) ((-1),(0,()))).bind λv46 =>
 (bx_ v46 (λv47=>(cond (decide (v47.1<0))
 (some (inr (inr (false,()))))
 ((at? (exG g).1.2 v35.1).bind λv49 =>
 ((at? v49 v47.1).bind λv50 =>
 ((eb_ g ((v35.2.2.1.1,(v35.2.2.1.2.1,v35.2.2.1.2.2.1)),v35.2.2.1.2.2.2.1) v50.1).bind λv51 =>
 (((cond (v51.2.1 != 0)
 (some (true,()))
 ((es_ g v51.1).bind λv52 =>
 (some ((!v52.1),()))))).bind λv53 =>
 (cond v53.1
 (some (inr (inr (false,()))))
 ((at? (exG g).1.2 v35.1).bind λv54 =>
 ((at? v54 v47.1).bind λv55 =>
 (some (inl (v55.2,((w64 (v35.2.1 - 1)),((v51.1.1.1,(v51.1.1.2.1,(v51.1.1.2.2,(v51.1.2,())))),()))))))))))))))
 (λv48=>(some v48))))
 (some (inr (inl ((v35.2.2.1.1,(v35.2.2.1.2.1,(v35.2.2.1.2.2.1,(v35.2.2.1.2.2.2.1,())))),())))))) ((k:Int),((m:Int),((p.1.1,(p.1.2.1,(p.1.2.2,(p.2,())))),()))))=some (inl ((q.1.1,(q.1.2.1,(q.1.2.2,(q.2,())))),())):=by
    intro m
    induction m with
    | zero =>
      intro k p hvp hk hv
      exact⟨p,hvp,by rw[← te_ hk];exact (hLC.z k _ hv).1 rfl,bi_ rfl⟩
    | succ m ih =>
      intro k p hvp hk hv
      have hkl:=ak_ hk
      obtain⟨row,x,hr,hx,hxd⟩:=hLC.dn k m hv
      obtain⟨p',h1,h2,h3⟩:=hG.ge k row hr
      rw[hk] at h1
      obtain rfl:=a5_ h1
      have hrl:=hG.gI.eL row (au_ hr)
      have hmb:=hG.db (-1) k _ hv
      obtain⟨i,y,i1,i2,i3⟩:=cn2 (q:=λy:ad_=>gi (dstG g (-1)) y.2==(m:Int)) hx (by rw[ji_ hxd];exact d5_ _)
      obtain⟨q,n,q1,q2,q3⟩:=h3 y (au_ i2)
      have hvq:=rg_ hg h0 hvp q1
      have hnl:=ak_ q3
      have hdn:(dstG g (-1))[n]?=some (m:Int):=by
        obtain⟨w,hw⟩:=aw_ (l:=dstG g (-1)) (i:=n) (by omega)
        rw[q2,ji_ (ah_ hw)] at i3
        rw[hw,f2_.1 i3]
      obtain⟨q',r1,r2,r3⟩:=ih n q hvq q3 hdn
      refine⟨q',r1,r2,bg_ (t:=((n:Int),((m:Int),((q.1.1,(q.1.2.1,(q.1.2.2,(q.2,())))),())))) ?_ r3⟩
      simp only[b4_ (show (0:Int)<((m+1:Nat):Int) by omega),a4_,ah_ hr,a0_]
      refine mb_ row.length (λj=>(fdN (λy:ad_=>gi (dstG g (-1)) y.2==(m:Int)) (row.take j),((j:Int),()))) rfl (λj hj => ?_) (by simp only[dnl,a1_];rfl) ?_
      · obtain⟨z,hz⟩:=aw_ hj
        obtain⟨z0,z1⟩:=hG.xx row (au_ hr) z (au_ hz)
        have hd:at? (dstG g (-1)) z.2=some (gi (dstG g (-1)) z.2):=mu_ z0 (by omega)
        simp only[dlt hj,a4_,ah_ hz,a0_,b1_ (show ¬ z.2<0 by omega),b1_ (show ¬ (((exG g).1.1.length:Int)≤z.2) by omega),a1_,hd,cn3 _ hz,az_ (show Sm j by show _≤1000000000;omega),show w64 (((m+1:Nat):Int) - 1)=(m:Int) by rw[ei_ (by omega) (by omega)];omega]
        cases decide (fdN (λy:ad_=>gi (dstG g (-1)) y.2==(m:Int)) (row.take j)<0) with
        | false=>rfl
        | true=>cases gi (dstG g (-1)) z.2==(m:Int)<;>rfl
      · rw[d7_,i1]
        simp only[bx_,b1_ (show ¬ ((i:Int)<0) by omega),a1_,ah_ i2,a0_]
        rw[show (((p.1.1,(p.1.2.1,p.1.2.2)),p.2):aa_)=p from rfl,rq_ hg h0 hvp,a0_,q1]
        simp only[j5_,show ((0:Int) != 0)=false from rfl,a1_]
        rw[qs_ hg h0 hvq,a0_]
        simp only[d9_,a1_,a0_,q2,show w64 (((m+1:Nat):Int) - 1)=(m:Int) by rw[ei_ (by omega) (by omega)];omega]
  obtain⟨q,k1,k2,k3⟩:=walk m0 k p hvp hk hv
  refine e4_ (congrArg (λo=>Option.bind o _) k3) ?_
  rw[a0_]
  simp only[bx_]
  rw[show ((q.1.1,(q.1.2.1,q.1.2.2)):ai_)=q.1 from rfl,hold_VP hg h0 k1,a0_,k2]
  simp only[a4_,il_,a0_]
end
end Go.Proofs.YtdibamopklkilaaGreatDoor.Rx
