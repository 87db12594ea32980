/- A part of the proof: what the functions of the program compute, shown over the model. -/
import Derived.Test.YtdibamopklkilaaGreatDoorPart5
set_option linter.unusedSectionVars false
set_option linter.unusedVariables false
set_option linter.unusedSimpArgs false
namespace Go.Proofs.YtdibamopklkilaaGreatDoor.Rx
open Go Pad Rex Sum
section
set_option maxRecDepth 100000
noncomputable def rdgX (a0:ab_) (a1:aa_) (a2:Int):Option (Int×(Int×Unit)) :=
 ((ek_ a0 a1 a2).bind λv0 =>
 (cond (v0.1 != 0)
 (some (0,(v0.1,())))
 ((cy_ a0 a1).bind λv1 =>
 (cond (v1.1 != 0)
 none
 ((push? (α:=Bool) [] a1.2).bind λv2 =>
 ((ag_ (abB a0 v2 a2) ([],([],(0,())))).bind λv11 =>
 ((at? a0.2.1 a2).bind λv12 =>
 ((cj_ v12 v11.2.1).bind λv13 =>
 (some (v13.1,(v13.2.1,())))))))))))
theorem rdgX_eq:dz_=rdgX:=by kernel_rfl
theorem zu_ {g:ab_} (hg:SmG g) (h0:bp_ g=0) {p:aa_} (hv:VP g p) {q:Nat} {l:ac_} (hl:g.2.1[q]?=some l):dz_ g p (q:Int)=some (rdC g p.2 (q:Int) l,(0,())):=by
  have ok:=cn_ h0
  have hn:=hg.nt
  have hrd:=hv.rd
  have hlk:=hg.lk
  have hq:=an_ hl
  rw[rdgX_eq]
  unfold rdgX
  have e1:ek_ g p (q:Int)=some (0,()):=by
    unfold ek_
    rw[mk_ hg h0 hv,a0_]
    simp only[show ((0:Int) != 0)=false from rfl,a2_]
    unfold ln_
    rw[ht_,a0_]
    have:wi (q:Int) 0 (w64 ((g.2.1.length:Int) - 1))=true:=by
      unfold wi
      rw[eo_ (by omega) (by omega),b1_ (show (0:Int)≤(q:Int) by omega),b1_ (show (q:Int)≤(g.2.1.length:Int) - 1 by omega)]
      rfl
    rw[this]
    rfl
  rw[e1,a0_]
  simp only[show ((0:Int) != 0)=false from rfl,a2_]
  rw[mk_ hg h0 hv,a0_]
  simp only[show ((0:Int) != 0)=false from rfl,a2_]
  rw[aw_ (show Sm p.2.length by show _≤1000000000;omega),a0_]
  obtain⟨x,e⟩:=as6 hg hv.rd (q:Int)
  rw[e,a0_,ah_ hl,a0_]
  simp only
  rw[xb_ hg ok p.2 (by omega) (ah_ hl),a0_]
noncomputable def leaB (a0:ab_) (t:Int) (G:bw_):(Int×(Int×((List ((List UInt8)×Int))×Unit)))→Option ((Int×(Int×((List ((List UInt8)×Int))×Unit)))⊕(Int×((List ((List UInt8)×Int))×Unit))) :=
 (λ(v45:(Int×(Int×((List ((List UInt8)×Int))×Unit)))) =>
 (cond (decide (v45.2.1<(G.1.length:Int)))
 ((((at? G.1 v45.2.1).bind λv46 =>
 ((gw_ v46).bind λv47 =>
 (cond ((ej_ 0 v45.2.2.1 v47.1)==1)
 (some (v45.1,(v45.2.2.1,())))
 ((ag_ (ρ:=(Int×Unit)) (λ(v48:(Int×(Int×Unit))) =>
 (cond (decide (v48.2.1<(a0.2.1.length:Int)))
 ((((dz_ (a0.1,(a0.2.1,(a0.2.2.1,(a0.2.2.2.1,t)))) v46 v48.2.1).bind λv49 =>
 (((cond (v49.2.1==0)
 (some ((decide (t<v49.1)),()))
 (some (false,())))).bind λv50 =>
 (cond v50.1
 (some ((ap9 v48.1 v49.1),()))
 (some (v48.1,())))))).bind λv51 =>
 (some (inl (v51.1,((w64 (v48.2.1+1)),())))))
 (some (inr (v48.1,()))))) (v45.1,(0,()))).bind λv52 =>
 (some (v52.1,((ir_ v45.2.2.1 v47.1 1),())))))))).bind λv53 =>
 (some (inl (v53.1,((w64 (v45.2.1+1)),(v53.2.1,()))))))
 (some (inr (v45.1,(v45.2.2.1,()))))))
noncomputable def triX (a0:ab_) (v1:Int×((Int×Unit)×Unit)) (G:bw_) (v42:List Int×Unit):Option ((Int×((Int×Unit)×Unit))⊕(((Int×Unit)×Unit)⊕(Int×(Int×Unit)))) :=
 ((at? v42.1 0).bind λv43 =>
 ((at? v42.1 0).bind λv44 =>
 (cond (decide (0≤v44))
 (some (inr (inr (v1.1,(0,())))))
 ((ag_ (leaB a0 v1.1 G) (101,(0,([],())))).bind λv54 =>
 (some (inl (v54.1,((v1.1,()),()))))))))
noncomputable def triB (a0:ab_) (v1:Int×((Int×Unit)×Unit)):Option ((Int×((Int×Unit)×Unit))⊕(((Int×Unit)×Unit)⊕(Int×(Int×Unit)))) :=
 (cond (decide (v1.1≤100))
 ((cc_ (gT a0 v1.1)).bind λv2 =>
 (cond (v2.2.1 != 0)
 (cond (v2.2.1 != 0)
 (some (inr (inr (0,(v2.2.1,())))))
 none)
 (ca1 rowE (gT a0 v1.1) v2.1 λv42=>triX a0 v1 v2.1 v42)))
 (some (inr (inl ((v1.2.1.1,()),())))))
theorem cb4:jp_=λa0=>(cc_ a0).bind λv0=>cond (v0.2.1 != 0) (some (0,(v0.2.1,()))) ((ag_ (triB a0) (1,((a0.2.2.2.2,()),()))).bind λv55=>ce_ v55 (λv56=>(some (0,(50,())))) (λv57=>(some v57))):=by kernel_rfl
theorem rdC_gT (g:ab_) (t:Int) (d:List Bool) (lock:Int) (l:ac_):rdC (gT g t) d lock l=rdC g d lock l:=rfl
def Le1 (g:ab_) (t L:Int) (p:aa_) (n:Nat):Prop:=∀ (q:Nat) l,q<n→g.2.1[q]?=some l→t<rdC g p.2 (q:Int) l→L≤rdC g p.2 (q:Int) l
theorem Le1.mono {g:ab_} {t L L':Int} {p:aa_} {n:Nat} (h:Le1 g t L p n) (hL:L'≤L):Le1 g t L' p n:=λq l h1 h2 h3=>by
  have:=h q l h1 h2 h3
  omega
theorem lea_row {g:ab_} (hg:SmG g) {t:Int} (h0:bp_ (gT g t)=0) {p:aa_} (hv:VP (gT g t) p) (L:Int) (hL:t<L) {υ:Type} {K:(Int×Unit)→Option υ} {Q:υ→Prop} (hK:∀ L',t<L'→L'≤L→Le1 g t L' p g.2.1.length→∃ y,K (L',())=some y∧Q y) :
    ∃ y,((ag_ (ρ:=(Int×Unit)) (λ(v48:(Int×(Int×Unit))) =>
 (cond (decide (v48.2.1<(g.2.1.length:Int)))
 ((((dz_ (gT g t) p v48.2.1).bind λv49 =>
 (((cond (v49.2.1==0)
 (some ((decide (t<v49.1)),()))
 (some (false,())))).bind λv50 =>
 (cond v50.1
 (some ((ap9 v48.1 v49.1),()))
 (some (v48.1,())))))).bind λv51 =>
 (some (inl (v51.1,((w64 (v48.2.1+1)),())))))
 (some (inr (v48.1,()))))) (L,(0,()))).bind K)=some y∧Q y:=by
  have hlk:=hg.lk
  refine qk_ g.2.1.length (λq (z:Int×(Int×Unit))=>∃ L',z=(L',((q:Int),()))∧t<L'∧L'≤L∧Le1 g t L' p q) ⟨L,rfl,hL,l1_ _,λq l h=>by omega⟩ (λq z hq hz => ?_) (λz hz => ?_)
  · obtain⟨L',rfl,h1,h2,h3⟩:=hz
    obtain⟨l,hl⟩:=bd_ hq
    have hr:=zu_ (bs9 hg t) h0 hv (q:=q) (l:=l) hl
    rw[rdC_gT] at hr
    have hp:∀ (q':Nat) l',q'<q+1→g.2.1[q']?=some l'→q'<q∨(q'=q∧l'=l):=λq' l' h4 h5=>by
      by_cases e:q'=q
      · subst e
        rw[hl] at h5
        exact .inr ⟨rfl,(a6_ h5).symm⟩
      · exact .inl (by omega)
    by_cases hlt:t<rdC g p.2 (q:Int) l
    · refine⟨(ap9 L' (rdC g p.2 (q:Int) l),(((q+1:Nat):Int),())),?_,_,rfl,?_,?_,λq' l' h4 h5 h6 => ?_⟩
      · simp only[dlt hq,a4_,hr,a0_,show ((0:Int)==0)=true from rfl,b1_ hlt,ay_ (show Sm q by show _≤1000000000;omega)]
      · unfold ap9;split<;>omega
      · unfold ap9;split<;>omega
      · rcases hp q' l' h4 h5 with h | ⟨rfl,rfl⟩
        · have:=h3 q' l' h h5 h6
          unfold ap9;split<;>omega
        · unfold ap9;split<;>omega
    · refine⟨(L',(((q+1:Nat):Int),())),?_,_,rfl,h1,h2,λq' l' h4 h5 h6 => ?_⟩
      · simp only[dlt hq,a4_,hr,a0_,show ((0:Int)==0)=true from rfl,b9_ hlt,a2_,ay_ (show Sm q by show _≤1000000000;omega)]
      · rcases hp q' l' h4 h5 with h | ⟨rfl,rfl⟩
        · exact h3 q' l' h h5 h6
        · exact absurd h6 hlt
  · obtain⟨L',rfl,h1,h2,h3⟩:=hz
    exact⟨(L',()),by simp only[dnl,a2_],hK L' h1 h2 h3⟩
theorem cd7 {d d':List Bool} (h:ey_ (d.map bt)=ey_ (d'.map bt)):d=d':=by
  have hsp:∀ b,(32:UInt8) ∉ bt b:=λb=>by cases b<;>decide
  have:=ud_ (a:=d.map bt) (b:=d'.map bt) (λt ht=>by obtain⟨b,_,rfl⟩:=d7_.1 ht;exact hsp b) (λt ht=>by obtain⟨b,_,rfl⟩:=d7_.1 ht;exact hsp b) h
  exact em_ (λx _ y _ e=>cp4 e) this
theorem lea_ok {g:ab_} (hg:SmG g) {t:Int} (ht:t≤100) (h0:bp_ (gT g t)=0) {ps:List aa_} {es:List (List af_)} (hv:∀ p ∈ ps,VP (gT g t) p) (hn:ps.length≤3000) :
    ∃ L M,ag_ (leaB g t (ps,es)) (101,(0,([],())))=some (L,(M,()))∧t<L∧L≤101∧∀ p ∈ ps,Le1 g t L p g.2.1.length:=by
  have hnt:=hg.nt
  suffices key:∃ r,ag_ (leaB g t (ps,es)) (101,(0,([],())))=some r∧∃ L M,r=(L,(M,()))∧t<L∧L≤101∧∀ p ∈ ps,Le1 g t L p g.2.1.length by
    obtain⟨r,hr,L,M,rfl,h⟩:=key
    exact⟨L,M,hr,h⟩
  refine jt_ (body:=leaB g t (ps,es)) (λj (z:Int×(Int×((List ((List UInt8)×Int))×Unit)))=>∃ L M,z=(L,((j:Int),(M,())))∧t<L∧L≤101∧(∀ (i:Nat) p,i<j→ps[i]?=some p→Le1 g t L p g.2.1.length)∧∀ k,ej_ (0:Int) M k=1→∃ (i:Nat) (p:aa_),i<j∧ps[i]?=some p∧ey_ (p.2.map bt)=k)
    (λr=>∃ L M,r=(L,(M,()))∧t<L∧L≤101∧∀ p ∈ ps,Le1 g t L p g.2.1.length) ps.length 0 (101,(0,([],()))) ⟨101,[],rfl,by omega,l1_ _,λi p h=>by omega,λk h=>by cases h⟩ (λj z _ hj hz=>.inl ?_) (λz hz => ?_)
  · obtain⟨L,M,rfl,h1,h2,h3,h4⟩:=hz
    rw[b0_] at hj
    obtain⟨p,hp⟩:=bd_ hj
    have hvp:=hv p (ax_ hp)
    have hpl:p.2.length≤20:=by rw[hvp.rd];exact hnt
    unfold leaB
    simp only[dlt hj,a4_,ah_ hp,a0_,ya_ hpl,ay_ (show Sm j by show _≤1000000000;omega)]
    cases hm:ej_ (0:Int) M (ey_ (p.2.map bt))==1 with
    | true =>
      refine⟨(L,(((j+1:Nat):Int),(M,()))),rfl,L,M,rfl,h1,h2,λi q hi hq => ?_,λk hk => ?_⟩
      · by_cases e:i=j
        · subst e
          rw[hp] at hq
          obtain rfl:=a6_ hq
          obtain⟨i',p',g1,g2,g3⟩:=h4 _ (f5_.1 hm)
          have e2:p'.2=p.2:=cd7 g3
          have:=h3 i' p' g1 g2
          unfold Le1 at this ⊢
          rw[e2] at this
          exact this
        · exact h3 i q (by omega) hq
      · obtain⟨i',p',g1,g2,g3⟩:=h4 k hk
        exact⟨i',p',by omega,g2,g3⟩
    | false =>
      simp only[a2_]
      obtain⟨y,hy,L',hy2,k1,k2,k3⟩:=lea_row hg h0 hvp L h1 (K:=λv52=>((some (v52.1,((ir_ M (ey_ (p.2.map bt)) 1),()))).bind λv53=>(some (inl (v53.1,(((j+1:Nat):Int),(v53.2.1,())))):Option ((Int×(Int×((List ((List UInt8)×Int))×Unit)))⊕(Int×((List ((List UInt8)×Int))×Unit))))))
        (Q:=λy=>∃ L',y=inl (L',(((j+1:Nat):Int),(ir_ M (ey_ (p.2.map bt)) 1,())))∧t<L'∧L'≤L∧Le1 g t L' p g.2.1.length) λL' a b c=>⟨_,rfl,L',rfl,a,b,c⟩
      refine⟨(L',(((j+1:Nat):Int),(ir_ M (ey_ (p.2.map bt)) 1,()))),?_,L',_,rfl,k1,by omega,λi q hi hq => ?_,λk hk => ?_⟩
      · rw[← hy2,← hy]
        rw[Option.bind_assoc]
        rfl
      · by_cases e:i=j
        · subst e
          rw[hp] at hq
          obtain rfl:=a6_ hq
          exact k3
        · exact (h3 i q (by omega) hq).mono k2
      · rw[hu_] at hk
        by_cases e:k=ey_ (p.2.map bt)
        · exact⟨j,p,by omega,hp,e.symm⟩
        · rw[if_neg e] at hk
          obtain⟨i',p',g1,g2,g3⟩:=h4 k hk
          exact⟨i',p',by omega,g2,g3⟩
  · obtain⟨L,M,rfl,h1,h2,h3,h4⟩:=hz
    rw[b0_] at h3 ⊢
    refine⟨(L,(M,())),by unfold leaB;simp only[dnl,a2_],L,M,rfl,h1,h2,λp hp => ?_⟩
    obtain⟨i,hi⟩:=f7_ hp
    exact h3 i p (an_ hi) hi
theorem SmT_of {g:ab_} {t L t':Int} {p:aa_} (h:Le1 g t L p g.2.1.length) (h1:t≤t') (h2:t'<L):SmT g t t' p.2:=λlock l hl=>by
  obtain⟨q,rfl,hq⟩:=oj_ hl
  constructor
  · intro h3;omega
  · intro h3
    by_cases h4:t<rdC g p.2 (q:Int) l
    · have:=h q l (an_ hq) hq h4
      omega
    · omega
noncomputable def ae9 (g:ab_):Int:=(au3 g).2.1
noncomputable def af5 (g:ab_):Nat→Nat→Int×(Int×Unit)
  | 0,_=>(0,(50,()))
  | f+1,t=>cond (ae9 (gT g (t:Int)) != 50) (cond (ae9 (gT g (t:Int)) != 0) 0 (t:Int),(ae9 (gT g (t:Int)),())) (af5 g f (t+1))
theorem af4 {g:ab_}:∀ (k f t:Nat),(∀ t',t≤t'→t'<t+k→ae9 (gT g (t':Int))=50)→af5 g (k+f) t=af5 g f (t+k)
  | 0,f,t,_=>by rw[b0_];rfl
  | k+1,f,t,h=>by
    rw[show k+1+f=(k+f)+1 by omega,af5,h t (c3_ _) (by omega)]
    simp only[j2_,a2_]
    rw[af4 k f (t+1) λt' h1 h2=>h t' (by omega) (by omega),show t+1+k=t+(k+1) by omega]
theorem wi_t {t:Nat} (h1:1≤t) (h2:t≤100):wi (t:Int) 1 100=true:=by
  unfold wi
  rw[b1_ (show (1:Int)≤(t:Int) by omega),b1_ (show (t:Int)≤100 by omega)]
  rfl
theorem ap0 {g:ab_} (hg:SmG g):jp_ g=some (cond ((exG g).2.1 != 0) (0,((exG g).2.1,())) (af5 g 100 1)):=by
  rw[cb4]
  simp only
  rw[mj_ hg,a0_]
  cases hE:(exG g).2.1 != 0 with
  | true=>rfl
  | false =>
  have hE0:(exG g).2.1=0:=by simpa using hE
  have hG:=az7 hg hE0
  simp only[a2_]
  have gen:∀ (k f t:Nat) (x:(Int×Unit)×Unit),f≤k→t+f=101→1≤t→∃ y,ag_ (triB g) ((t:Int),x)=some y∧ce_ y (λv56=>(some (0,(50,())))) (λv57=>(some v57))=some (af5 g f t):=by
    intro k
    induction k with
    | zero =>
      intro f t x hf ht h1
      obtain rfl:f=0:=by omega
      obtain rfl:t=101:=by omega
      exact⟨inl ((x.1.1,()),()),bg_ rfl,rfl⟩
    | succ k ih =>
      intro f t x hf ht h1
      cases f with
      | zero =>
        obtain rfl:t=101:=by omega
        exact⟨inl ((x.1.1,()),()),bg_ rfl,rfl⟩
      | succ f =>
        have hgt:=bs9 hg (t:Int)
        have h0t:=gT_ck hG.h0 (wi_t h1 (by omega))
        have hb:triB g ((t:Int),x)=((cc_ (gT g (t:Int))).bind λv2 =>
 (cond (v2.2.1 != 0)
 (cond (v2.2.1 != 0)
 (some (inr (inr (0,(v2.2.1,())))))
 none)
 (ca1 rowE (gT g (t : Int)) v2.1 fun v42 => triX g ((t : Int), x) v2.1 v42))) := by
          unfold triB
          simp only[b1_ (show (t:Int)≤100 by omega),a4_]
        rw[mj_ hgt,a0_] at hb
        cases hEt:(exG (gT g (t:Int))).2.1 != 0 with
        | true =>
          rw[hEt] at hb
          have hse:ae9 (gT g (t:Int))=(exG (gT g (t:Int))).2.1:=by unfold ae9 au3;rw[hEt];rfl
          have hne:(exG (gT g (t:Int))).2.1≠50:=λe=>by
            have h2:=ci2 (g:=gT g (t:Int))
            by_cases hb0:(mz_ (gT g (t:Int))).2.1=0
            · rcases bu5 hb0 with h3 | h3<;>rw[h3] at e<;>cases e
            · have h3:=h2 hb0
              rw[e] at h3
              unfold mz_ at h3
              rw[h0t] at h3
              simp only[show ((0:Int) != 0)=false from rfl,a2_] at h3
              cases hbr:(tn_ (gT g (t:Int)).1).2.1 != 0 with
              | false=>rw[hbr] at h3;cases h3
              | true =>
                rw[hbr] at h3
                have h3:(50:Int)=(tn_ (gT g (t:Int)).1).2.1:=h3
                unfold tn_ at h3
                rw[show ct_ (gT g (t:Int)).1=0 from (cn_ h0t).room] at h3
                simp only[show ((0:Int) != 0)=false from rfl,a2_] at h3
                cases hs:begS (gT g (t:Int)).1 with
                | none=>rw[hs] at h3;cases h3
                | some s=>rw[hs] at h3;cases h3
          refine⟨inr (0,((exG (gT g (t:Int))).2.1,())),bg_ hb,?_⟩
          rw[af5,hse,hEt,show ((exG (gT g (t:Int))).2.1 != 50)=true from m4_.2 hne]
          rfl
        | false =>
          rw[hEt] at hb
          have hEt0:(exG (gT g (t:Int))).2.1=0:=by simpa using hEt
          have hGt:=az7 hgt hEt0
          have ntt:=hGt.n
          have dlt':=hGt.dl (-1)
          have at0:=hGt.at0 (-1)
          simp only[a2_] at hb
          rw[show (exG (gT g (t:Int))).1=((exG (gT g (t:Int))).1.1,(exG (gT g (t:Int))).1.2) from rfl,mea_dst hgt hGt.h0 hGt.gI hGt.len bk9,az8,show dst (exG (gT g (t:Int))).1.2 (ri_ (gT g (t:Int)) (exG (gT g (t:Int))).1.1) (exG (gT g (t:Int))).1.1.length=dstG (gT g (t:Int)) (-1) from by unfold dstG;rw[hGt.al]] at hb
          unfold triX at hb
          have ha:at? (dstG (gT g (t:Int)) (-1)) 0=some (gi (dstG (gT g (t:Int)) (-1)) 0):=ah_ at0
          simp only[ha,a0_] at hb
          have hse:ae9 (gT g (t:Int))=cond (decide (gi (dstG (gT g (t:Int)) (-1)) 0<0)) 50 0:=by
            unfold ae9 au3
            rw[hEt0]
            simp only[show ((0:Int) != 0)=false from rfl,a2_]
            cases decide (gi (dstG (gT g (t:Int)) (-1)) 0<0)<;>rfl
          by_cases hd:gi (dstG (gT g (t:Int)) (-1)) 0<0
          · rw[b9_ (show ¬ 0≤gi (dstG (gT g (t:Int)) (-1)) 0 by omega),a2_] at hb
            rw[b1_ hd] at hse
            obtain⟨L,M,e1,k1,k2,k3⟩:=lea_ok (es:=(exG (gT g (t:Int))).1.2) hg (show (t:Int)≤100 by omega) h0t hGt.gI.pI.v ntt
            rw[e1,a0_] at hb
            obtain⟨l,rfl⟩:=Int.eq_ofNat_of_zero_le (show 0≤L by omega)
            have hstuck:∀ t',t≤t'→t'<t+(l - t)→ae9 (gT g (t':Int))=50:=λt' a b=>by
              have hs:∀ p ∈ (exG (gT g (t:Int))).1.1,SmT g (t:Int) (t':Int) p.2:=λp hp=>SmT_of (k3 p hp) (by omega) (by omega)
              have h0':=gT_ck hG.h0 (t:=(t':Int)) (wi_t (by omega) (by omega))
              have e:=exG_gT h0t h0' hEt0 hs
              have e2:=dstG_gT e (-1)
              unfold ae9 au3
              rw[e,e2,hEt0]
              simp only[show ((0:Int) != 0)=false from rfl,a2_]
              rw[b1_ hd]
              rfl
            obtain⟨y,y1,y2⟩:=ih (101 - l) l (((t:Int),()),()) (by omega) (by omega) (by omega)
            refine⟨y,bk_ hb y1,?_⟩
            rw[y2]
            have:=af4 (l - t) (101 - l) t hstuck
            rw[show l - t+(101 - l)=f+1 by omega,show t+(l - t)=l by omega] at this
            rw[this]
          · rw[b1_ (show 0≤gi (dstG (gT g (t:Int)) (-1)) 0 by omega),a4_] at hb
            rw[b9_ hd] at hse
            refine⟨_,bg_ hb,?_⟩
            rw[af5,hse]
            rfl
  obtain⟨y,y1,y2⟩:=gen 100 100 1 ((g.2.2.2.2,()),()) (c3_ _) rfl (c3_ _)
  have y1:ag_ (triB g) (1,((g.2.2.2.2,()),()))=some y:=y1
  rw[y1,a0_,y2]
end
section
set_option maxRecDepth 100000
theorem ao0 {g:ab_} (hg:SmG g):hf_ g=some (au3 g):=by
  unfold hf_ au3
  rw[je_ hg,a0_]
  cases hE:(exG g).2.1 != 0 with
  | true=>rfl
  | false =>
  have hG:=az7 hg (show (exG g).2.1=0 by simpa using hE)
  have hn:=hG.n
  have d1:=hG.dl (-1)
  have hw:ij_ (exG g).1 (dstG g (-1)) (-1)=some (cond (decide (gi (dstG g (-1)) 0<0)) ([],(false,())) (shp (esF (-1) (exG g).1.2) (dstG g (-1)) (gi (dstG g (-1)) 0).toNat 0,(true,()))) :=
    bd7 (ps:=(exG g).1.1) (hG.dc (-1)) (by omega) (by rw[d1];exact hG.pos) (by rw[d1];exact hG.db (-1)) hG.gI.eL (λl hl x hx=>by rw[d1];exact hG.xx l hl x hx)
  simp only[a2_]
  rw[show cp_ g (exG g).1 (-1)=some (dstG g (-1),()) from bl5 hg hG.h0 hG.gI hG.len (-1),a0_,hw,a0_,hG.al]
  cases decide (gi (dstG g (-1)) 0<0)<;>rfl
theorem an9 {g:ab_} (hg:SmG g):jg_ g=some (cond ((exG g).2.1 != 0) (0,((exG g).2.1,())) (af5 g 100 1)):=by
  unfold jg_
  rw[je_ hg,a0_]
  cases hE:(exG g).2.1 != 0 with
  | true=>rfl
  | false =>
  simp only[a2_]
  have gen:∀ (f t:Nat) (x:(Int×Unit)×Unit),t+f=101→∃ y,ag_ (ρ:=(((Int×Unit)×Unit)⊕(Int×(Int×Unit)))) (λ(v1:(Int×((Int×Unit)×Unit))) =>
 (cond (decide (v1.1≤100))
 ((hf_ (g.1,(g.2.1,(g.2.2.1,(g.2.2.2.1,v1.1))))).bind λv2 =>
 (cond (v2.2.1 != 50)
 (((cond (v2.2.1 != 0)
 (some (0,()))
 (some (v1.1,())))).bind λv3 =>
 (some (inr (inr (v3.1,(v2.2.1,()))))))
 (some (inl ((w64 (v1.1+1)),((v1.1,()),()))))))
 (some (inr (inl ((v1.2.1.1,()),())))))) ((t:Int),x)=some y∧ce_ y (λv5=>(some (0,(50,())))) (λv6=>(some v6))=some (af5 g f t):=by
    intro f
    induction f with
    | zero =>
      intro t x ht
      obtain rfl:t=101:=by omega
      exact⟨inl ((x.1.1,()),()),bg_ rfl,rfl⟩
    | succ f ih =>
      intro t x ht
      have hs:=ao0 (bs9 hg (t:Int))
      unfold gT at hs
      cases h5:ae9 (gT g (t:Int)) != 50 with
      | true =>
        have h5':((au3 (g.1,(g.2.1,(g.2.2.1,(g.2.2.2.1,(t:Int)))))).2.1 != 50)=true:=h5
        cases h6:ae9 (gT g (t:Int)) != 0 with
        | true =>
          have h6':((au3 (g.1,(g.2.1,(g.2.2.1,(g.2.2.2.1,(t:Int)))))).2.1 != 0)=true:=h6
          refine⟨inr (0,(ae9 (gT g (t:Int)),())),bg_ ?_,?_⟩
          · simp only[b1_ (show (t:Int)≤100 by omega),a4_,hs,a0_,h5',h6']
            rfl
          · rw[af5,h5,h6]
            rfl
        | false =>
          have h6':((au3 (g.1,(g.2.1,(g.2.2.1,(g.2.2.2.1,(t:Int)))))).2.1 != 0)=false:=h6
          refine⟨inr ((t:Int),(ae9 (gT g (t:Int)),())),bg_ ?_,?_⟩
          · simp only[b1_ (show (t:Int)≤100 by omega),a4_,hs,a0_,h5',h6',a2_]
            rfl
          · rw[af5,h5,h6]
            rfl
      | false =>
        have h5':((au3 (g.1,(g.2.1,(g.2.2.1,(g.2.2.2.1,(t:Int)))))).2.1 != 50)=false:=h5
        obtain⟨y,y1,y2⟩:=ih (t+1) (((t:Int),()),()) (by omega)
        refine⟨y,bk_ ?_ y1,?_⟩
        · simp only[b1_ (show (t:Int)≤100 by omega),a4_,hs,a0_,h5',a2_,ay_ (show Sm t by show _≤1000000000;omega)]
        · rw[y2,af5,h5]
          rfl
  obtain⟨y,y1,y2⟩:=gen 100 1 ((g.2.2.2.2,()),()) rfl
  refine e0_ (congrArg (λo=>Option.bind o _) y1) ?_
  rw[a0_,y2]
theorem bi3 {g:ab_}:∀ (f t:Nat),t+f=101→(af5 g f t).2.1=0→∃ s:Nat,(af5 g f t).1=(s:Int)∧t≤s∧s≤100∧ae9 (gT g (s:Int))=0∧∀ s',t≤s'→s'<s→ae9 (gT g (s':Int))=50
  | 0,t,_,h=>by cases h
  | f+1,t,ht,h=>by
    rw[af5] at h ⊢
    cases h5:ae9 (gT g (t:Int)) != 50 with
    | true =>
      rw[h5] at h
      have h:ae9 (gT g (t:Int))=0:=h
      rw[h]
      exact⟨t,rfl,c3_ _,by omega,h,λs' h1 h2=>by omega⟩
    | false =>
      rw[h5] at h
      rw[p7_] at h5
      obtain⟨s,h1,h2,h3,h4,h6⟩:=bi3 f (t+1) (by omega) h
      refine⟨s,h1,by omega,h3,h4,λs' a b => ?_⟩
      by_cases e:s'=t
      · rw[e];exact h5
      · exact h6 s' (by omega) b
theorem law05_ProveTries (g:ab_):hj_ g=some (true,()):=by
  obtain⟨b,e,hb⟩:=aj1 g
  unfold hj_
  rw[e,a0_]
  cases b with
  | true=>simp only[a4_,go_,a0_]
  | false =>
  have hN:=hb rfl
  have hg:=hN.sm
  have hlk:=hg.lk
  simp only[a2_]
  rw[je_ hg,a0_]
  have e3:∃ c,(cond ((exG g).2.1 != 0) (some (true,())) (some ((decide (40<((exG g).1.1.length:Int))),())):Option (Bool×Unit))=some (c,()):=by
    cases (exG g).2.1 != 0 with
    | true=>exact⟨true,rfl⟩
    | false=>exact⟨_,rfl⟩
  obtain⟨c,hc⟩:=e3
  rw[hc,a0_]
  cases c with
  | true=>simp only[a4_,go_,a0_]
  | false =>
  simp only[a2_]
  refine ia_ g.2.1 (show _≤1000000000 by omega) (λy=>decide (2<y.1)) (λi y hy => ?_) (by simp only[dnl,a2_]) ?_
  · simp only[dlt (an_ hy),a4_,ah_ hy,a0_,go_]
    cases decide (2<y.1)<;>rfl
  cases g.2.1.any λy=>decide (2<y.1) with
  | true=>rfl
  | false =>
  simp only[a2_,ce_]
  rw[be1 hg,a0_,ap0 hg,a0_,an9 hg,a0_]
  simp only[j2_,a2_,a0_]
  cases hE:(exG g).2.1 != 0 with
  | true=>simp only[a4_,hE,go_,a0_]
  | false =>
  simp only[a2_]
  cases ht:(af5 g 100 1).2.1 != 0 with
  | true=>simp only[a4_,go_,a0_]
  | false =>
  obtain⟨s,h1,h2,h3,h4,h5⟩:=bi3 (g:=g) 100 1 rfl (by simpa using ht)
  simp only[a2_]
  have hs:=td_ (bs9 hg (s:Int))
  unfold gT at hs
  have h4':(au3 (g.1,(g.2.1,(g.2.2.1,(g.2.2.2.1,(s:Int)))))).2.1=0:=h4
  rw[h1,hs,a0_,h4']
  simp only[show ((0:Int) != 0)=false from rfl,a2_]
  cases hs1:(s:Int)==1 with
  | true=>simp only[a4_,go_,a0_]
  | false =>
  have hs1:(s:Int)≠1:=λe=>by rw[e] at hs1;cases hs1
  have hw:w64 ((s:Int) - 1)=((s - 1:Nat):Int):=by rw[eo_ (by omega) (by omega)];omega
  have hs':=td_ (bs9 hg ((s - 1:Nat):Int))
  unfold gT at hs'
  have h5':(au3 (g.1,(g.2.1,(g.2.2.1,(g.2.2.2.1,((s - 1:Nat):Int)))))).2.1=50:=h5 (s - 1) (by omega) (by omega)
  simp only[a2_]
  rw[hw,hs',a0_,h5']
  simp only[d4_,a4_,go_,a0_]
end
end Go.Proofs.YtdibamopklkilaaGreatDoor.Rx
