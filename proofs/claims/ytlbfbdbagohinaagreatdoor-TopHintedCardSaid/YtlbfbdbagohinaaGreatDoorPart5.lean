/- A part of the proof: what the functions of the program compute, shown over the model. -/
import Derived.KernelRfl
import Derived.Test.YtlbfbdbagohinaaGreatDoorPart4
set_option linter.unusedSectionVars false
set_option linter.unusedVariables false
set_option linter.unusedSimpArgs false
namespace Go.Proofs.YtlbfbdbagohinaaGreatDoor.Rx
open Go Pad Rex Sum
section
set_option maxRecDepth 10000
theorem ae3 {l:aa_} (hl:Lk l) {cl:List ab_} (hn:cl.length≤20) (hc:∀ c ∈ cl,cn_ l c=true) {code:List Int} (hk:dd_ l code=true):∃ r,hg_ l cl code=some (r,(cl.all (tr · code),(0,()))):=by
 unfold hg_
 obtain⟨r,h1,h2⟩:=tc_ hl hn hc hk
 rw[jv_ hl hn hc,a0_]
 simp only[show ((0:Int) != 0)=false from rfl,a4_]
 rw[fj_,a0_,hk,kx_.2 hl]
 simp only[k6_,show ((0:Int) != 0)=false from rfl,a4_]
 rw[h1,a0_,h2]
 exact⟨r,rfl⟩
theorem sp_ {α:Type} {p:List α} {x:α} {t:List α}:(p++x::t)[p.length]?=some x:=by
 rw[b3_ (c1_ _),e5_];rfl
theorem qx_ {α:Type} {p:List α} {x y:α} {t:List α}:(p++x::t).set p.length y=p++y::t:=by
 rw[h6_ _ _ (c1_ _),e5_];rfl
theorem ex_ret1 {Y σ:Type} {X:Option Y} {g:σ→Y} {P:σ→Prop} (h:∃ y,X=some y∧∃ s,P s∧y=g s):∃ s,P s∧X=some (g s):=by
 obtain⟨y,e,s,h1,rfl⟩:=h
 exact⟨s,h1,e⟩
theorem ex_ret {Y σ τ:Type} {X:Option Y} {g:σ→τ→Y} {P:σ→τ→Prop} (h:∃ y,X=some y∧∃ s t,y=g s t∧P s t):∃ s t,X=some (g s t)∧P s t:=by
 obtain⟨y,e,s,t,rfl,h1⟩:=h
 exact⟨s,t,e,h1⟩
abbrev pre (p:List Int) (l:List (List Int)):List (List Int):=l.map (p ++ ·)
theorem rdL_eq {ft:List Int→Option (Int×(Bool×(Int×Unit)))} {good:List Int→Bool} {S W:Nat} (hS:0<S) (hS2:S≤10) (hW:W≤4) (hft:∀ c:List Int,c.length=W→(∀ x ∈ c,0≤x∧x<(S:Int))→∃ r,ft c=some (r,(good c,(0,())))) :
  ∀ (m n:Nat) (p s:List Int) (o:List (List Int)),m+1≤n→p.length+m=W→s.length=m→(∀ x ∈ p,0≤x∧x<(S:Int))→o.length+S ^ m≤20000 →
   ∃ s',s'.length=m∧rdL ft (S:Int) n (p.length:Int) (p++s) o=some (p++s',((o++(pre p (dn_ S m)).filter good,()),())):=by
 intro m
 induction m with
 | zero =>
  intro n p s o hn hp hs hr ho
  obtain⟨n,rfl⟩:∃ k,n=k+1:=⟨n - 1,by omega⟩
  obtain rfl:s=[]:=i8_.1 hs
  refine⟨[],rfl,?_⟩
  unfold rdL
  rw[d5_]
  simp only[c7_,a5_]
  obtain⟨r,e⟩:=hft p (by omega) hr
  rw[e,a0_]
  simp only
  have hf:(pre p (dn_ S 0)).filter good=cond (good p) [p] []:=by
   unfold dn_
   cases hg:good p<;>simp[pre,hg]
  rw[hf]
  cases good p with
  | true =>
   simp only[a5_]
   rw[aq_ (sm (by omega)),a0_,cp_ (show Sm o.length from sm (by omega)),a0_]
  | false=>simp only[a4_,d5_]
 | succ m ih =>
  intro n p s o hn hp hs hr ho
  obtain⟨n,rfl⟩:∃ k,n=k+1:=⟨n - 1,by omega⟩
  obtain⟨x,s,rfl⟩:∃ x t,s=x::t:=by
   cases s with
   | nil=>simp at hs
   | cons x t=>exact⟨x,t,rfl⟩
  have hs:s.length=m:=by simpa using hs
  have hpw:S ^ (m+1)=S ^ m * S:=j7_ ..
  have hne:((p.length:Int)==((p++x::s).length:Int))=false:=by
   rw[h4_,c5_,d1_];omega
  unfold rdL
  rw[hne,a4_,af_ sp_,a0_,a0_,b9_,qx_]
  refine ex_ret1 ?_
  have hlen:∀ d,(((List.range d).flatMap λa:Nat=>pre (p++[(a:Int)]) (dn_ S m)).filter good).length≤d * S ^ m:=λd=>by
   refine e7_ (l6_ _ _) ?_
   rw[wv_ (m:=S ^ m) _ (λy _=>by rw[pre,d6_,jw_]),i5_]
   exact c1_ _
  refine mx_ S (λd z=>∃ s',s'.length=m∧z=(p++(d:Int)::s',((o++(((List.range d).flatMap λa:Nat=>pre (p++[(a:Int)]) (dn_ S m)).filter good),()),())))
   ⟨s,hs,by simp⟩ (λd z hd hz => ?_) (λz hz => ?_)
  ·obtain⟨s',h1,rfl⟩:=hz
   have hdS:d * S ^ m+S ^ m≤S ^ (m+1):=by
    rw[hpw,← Nat.succ_mul,h3_ (S ^ m) S];exact i1_ _ hd
   obtain⟨s2,h2,h3⟩:=ih n (p++[(d:Int)]) s' (o++(((List.range d).flatMap λa:Nat=>pre (p++[(a:Int)]) (dn_ S m)).filter good)) (by omega) (by rw[c5_,g5_];omega) h1
    (λx hx=>by
     rcases d9_.1 hx with h | h
     ·exact hr x h
     ·rw[j4_.1 h];omega) (by rw[c5_];have:=hlen d;omega)
   have e1:(p++[(d:Int)])++s'=p++(d:Int)::s':=by simp
   have e2:(p++[(d:Int)])++s2=p++(d:Int)::s2:=by simp
   rw[e1,e2,c5_,g5_] at h3
   refine⟨(p++((d+1:Nat):Int)::s2,((o++(((List.range (d+1)).flatMap λa:Nat=>pre (p++[(a:Int)]) (dn_ S m)).filter good),()),())),?_,s2,h2,rfl⟩
   have hd1:w64 ((d:Int)+1)=((d+1:Nat):Int):=bn_ (show Sm d from sm (by omega))
   simp only[af_ sp_,a0_,b7_ (show (d:Int)<(S:Int) by omega),a5_,bn_ (show Sm p.length from sm (by omega))]
   rw[h3,a0_]
   simp only[af_ sp_,a0_,qx_,hd1]
   rw[List.range_succ,List.flatMap_append,List.filter_append,b0_]
   simp only[l4_,List.flatMap_nil,d5_]
  ·obtain⟨s',h1,rfl⟩:=hz
   refine⟨(p++(S:Int)::s',((o++(((List.range S).flatMap λa:Nat=>pre (p++[(a:Int)]) (dn_ S m)).filter good),()),())),?_,?_⟩
   ·simp only[af_ sp_,a0_,dnl,a4_]
   ·simp only[af_ sp_,a0_,qx_]
    refine⟨_,rfl,0::s',by simp[h1],?_⟩
    have:pre p (dn_ S (m+1))=(List.range S).flatMap λa:Nat=>pre (p++[(a:Int)]) (dn_ S m):=by
     unfold pre
     rw[show dn_ S (m+1)=(List.range S).flatMap λ(x:Nat)=>(dn_ S m).map λc=>(x:Int)::c from rfl,List.map_flatMap]
     congr 1
     funext a
     rw[n1_]
     congr 1
     funext c
     simp
    rw[this]
theorem tr_ {l:aa_} (hl:Lk l) {cl:List ab_} (hn:cl.length≤20) (hc:∀ c ∈ cl,cn_ l c=true):bb_ l cl=some (rdg l cl,()):=by
 have h1:=hl.w1;have h2:=hl.w2;have h3:=hl.s1;have h4:=hl.s2
 obtain⟨W,hW⟩:∃ W:Nat,l.1=(W:Int):=⟨l.1.toNat,by omega⟩
 obtain⟨S,hS⟩:∃ S:Nat,l.2=(S:Int):=⟨l.2.toNat,by omega⟩
 have hpw:=av3 hl
 rw[hW,hS,b9_,b9_] at hpw
 unfold bb_
 rw[hW,ne_ (by omega) (by omega),a0_,b9_]
 obtain⟨s',_,e⟩:=rdL_eq (ft:=hg_ l cl) (good:=λc=>cl.all (tr · c)) (S:=S) (W:=W) (by omega) (by omega) (by omega) (λc c1 c2=>ae3 hl hn hc (gq_.2 ⟨by omega,λn hn=>by have:=c2 n hn;omega⟩)) W 5 [] (List.replicate W 0) [] (by omega) (by simp) (by simp) (λx hx=>by cases hx) (by simp;omega)
 rw[show (((([]:List Int).length:Nat):Int))=0 from rfl,f0_,f0_,f0_] at e
 rw[hS,e,a0_]
 unfold rdg
 rw[hW,hS,b9_,b9_]
 congr 2
 simp[pre]
end
section
set_option maxRecDepth 10000
theorem bnd_id {α:Type} (x:Option α):x.bind some=x:=by cases x<;>rfl
theorem oz_ {σ ρ υ:Type} {body:σ→Option (σ⊕ρ)} {s:σ} {r:ρ} {K:ρ→Option υ} {x:Option υ} (h:body s=some (.inr r)) (hk:K r=x):(ae_ body s).bind K=x:=by
 rw[fr_ h,a0_,hk]
theorem xj_ {α R:Type} {b:Bool} {l:List α} {i:Int} {x:α} {K:α→Option R} (h:at? l i=some x):atD b l i K=K x:=by
 unfold atD
 rw[h]
 cases b<;>rfl
structure Fok (al:List (List (List Int))) (f:List (List Bool)):Prop where
 n:f.length=al.length
 r:∀ (i:Nat) l r,al[i]?=some l→f[i]?=some r→r.length=l.length
structure Wok (al:List (List (List Int))) (w:List Int):Prop where
 n:w.length=al.length
 r:∀ (i:Nat) l x,al[i]?=some l→w[i]?=some x→0≤x∧x<(l.length:Int)
def trm (f:List (List Bool)) (i m:Nat):Prop:=∃ r,f[i]?=some r∧r[m]?=some true
section
variable {al:List (List (List Int))} {f:List (List Bool)} {w:List Int}
theorem Fok.set (hf:Fok al f) {i:Nat} {r r':List Bool} (h:f[i]?=some r) (hr:r'.length=r.length):Fok al (f.set i r'):=by
 refine⟨by rw[e8_];exact hf.n,λj l r2 hl h2 => ?_⟩
 rw[c6_] at h2
 split at h2
 ·rename_i e
  subst e
  rw[if_pos (al_ h)] at h2
  cases h2
  rw[hr]
  exact hf.r _ _ _ hl h
 ·exact hf.r _ _ _ hl h2
theorem Wok.set (hw:Wok al w) {i:Nat} {x:Int} {l:List (List Int)} (hl:al[i]?=some l) (h0:0≤x) (h1:x<(l.length:Int)):Wok al (w.set i x):=by
 refine⟨by rw[e8_];exact hw.n,λj l2 y h2 hy => ?_⟩
 rw[c6_] at hy
 split at hy
 ·rename_i e
  subst e
  rw[if_pos (by rw[hw.n];exact al_ hl)] at hy
  cases hy
  rw[hl] at h2
  cases h2
  exact⟨h0,h1⟩
 ·exact hw.r _ _ _ h2 hy
theorem ar1 {i m0:Nat} {r:List Bool} (h:f[i]?=some r) {j m:Nat} (ht:trm f j m):trm (f.set i (r.set m0 true)) j m:=by
 obtain⟨r1,h1,h2⟩:=ht
 by_cases e:i=j
 ·subst e
  rw[h] at h1
  cases h1
  refine⟨r.set m0 true,by rw[c6_,if_pos rfl,if_pos (al_ h)],?_⟩
  rw[c6_]
  split
  ·rename_i e
   subst e
   rw[if_pos (al_ h2)]
  ·exact h2
 ·exact⟨r1,by rw[c6_,if_neg e];exact h1,h2⟩
theorem trm_new {i m:Nat} {r:List Bool} (h:f[i]?=some r) (hm:m<r.length):trm (f.set i (r.set m true)) i m :=
 ⟨r.set m true,by rw[c6_,if_pos rfl,if_pos (al_ h)],by rw[c6_,if_pos rfl,if_pos hm]⟩
theorem fnd_ok (hn:al.length≤8) (hf:Fok al f) (hw:Wok al w):∃ f',fndB w f=some (f',())∧Fok al f'∧(∀ i m,trm f i m→trm f' i m)∧∀ i x,w[i]?=some x→trm f' i x.toNat:=by
 suffices h:∃ y,(fndB w f).bind some=some y∧∃ f',y=(f',())∧Fok al f'∧(∀ i m,trm f i m→trm f' i m)∧∀ i x,w[i]?=some x→trm f' i x.toNat by
  obtain⟨y,e,f',rfl,h⟩:=h
  rw[bnd_id] at e
  exact⟨f',e,h⟩
 unfold fndB
 have hwn:=hw.n
 refine mx_ w.length (λd z=>∃ f1,z=((d:Int),(f1,()))∧Fok al f1∧(∀ i m,trm f i m→trm f1 i m)∧∀ i x,i<d→w[i]?=some x→trm f1 i x.toNat)
  ⟨f,rfl,hf,λ_ _ h=>h,λi x h=>(by omega)⟩ (λd z hd hz => ?_) (λz hz => ?_)
 ·obtain⟨f1,rfl,g1,g2,g3⟩:=hz
  obtain⟨x,hx⟩:=bl_ hd
  obtain⟨l,hl⟩:=bl_ (l:=al) (i:=d) (by omega)
  obtain⟨r,hr⟩:=bl_ (l:=f1) (i:=d) (by rw[g1.n];omega)
  obtain⟨x0,x1⟩:=hw.r d l x hl hx
  have hrl:=g1.r d l r hl hr
  obtain⟨k,rfl⟩:=Int.eq_ofNat_of_zero_le x0
  obtain⟨v,hv⟩:=bl_ (l:=r) (i:=k) (by omega)
  refine⟨_,by simp only[dlt hd,a5_,af_ hx,af_ hr,af_ hv,a0_,bn_ (show Sm d from sm (by omega))];rfl,_,rfl,g1.set hr (by simp),λi m h=>ar1 hr (g2 i m h),λi y hi hy => ?_⟩
  by_cases e:i=d
  ·subst e
   rw[hx] at hy
   cases hy
   exact trm_new hr (by simp only[b9_];omega)
  ·exact ar1 hr (g3 i y (by omega) hy)
 ·obtain⟨f1,rfl,g1,g2,g3⟩:=hz
  exact⟨_,by simp only[dnl,a4_]<;>rfl,_,rfl,_,rfl,g1,g2,λi x hx=>g3 i x (al_ hx) hx⟩
theorem wlE_nil {β Y:Type} {b:Bool} {y:List Int→β→Option (β×Unit)} {ret:β→List Int→Y} {f:β} {w:List Int}:wlE b [] al y ret f w=(y w f).bind λv=>some (ret v.1 w):=by
 unfold wlE
 exact oz_ (r:=inl ()) rfl rfl
theorem wlP_ok {A:Type} {b:Bool} {pk:List (List Bool)→List Int→A} {u1:A→List (List Bool)} {u2:A→List Int} (h1:∀ f w,u1 (pk f w)=f) (h2:∀ f w,u2 (pk f w)=w) (hn:al.length≤8) (hne:∀ l ∈ al,l≠[]∧l.length≤20000) :
  ∀ (k n:Nat) (Y:Type) (ret:List (List Bool)→List Int→Y) (i:Nat) (f:List (List Bool)) (w:List Int),k+1≤n→i+k=al.length→Fok al f→Wok al w →
   ∃ f' w',wlP b pk u1 u2 [] al fndB n Y ret (i:Int) f w=some (ret f' w')∧Fok al f'∧Wok al w'∧(∀ j,j<i→w'[j]?=w[j]?)∧(∀ j m,trm f j m→trm f' j m)∧(∀ j x,j<i→w[j]?=some x→trm f' j x.toNat)∧(∀ j l m,i≤j→al[j]?=some l→m<l.length→trm f' j m):=by
 intro k
 induction k with
 | zero =>
  intro n Y ret i f w hk hi hf hw
  obtain⟨n,rfl⟩:∃ m,n=m+1:=⟨n - 1,by omega⟩
  unfold wlP
  have:((i:Int)==(w.length:Int))=true:=by rw[l2_,hw.n];omega
  rw[this,a5_,wlE_nil]
  obtain⟨f',e,g1,g2,g3⟩:=fnd_ok (f:=f) (w:=w) hn hf hw
  rw[e,a0_]
  refine⟨f',w,rfl,g1,hw,λ_ _=>rfl,g2,λj x _ hx=>g3 j x hx,λj l m hj hl => ?_⟩
  have:=al_ hl
  omega
 | succ k ih =>
  intro n Y ret i f w hk hi hf hw
  obtain⟨n,rfl⟩:∃ m,n=m+1:=⟨n - 1,by omega⟩
  unfold wlP
  have:((i:Int)==(w.length:Int))=false:=by rw[h4_,hw.n];omega
  obtain⟨l,hl⟩:=bl_ (l:=al) (i:=i) (by omega)
  obtain⟨l1,l2⟩:=hne l (bu_ hl)
  have l3:0<l.length:=m0_.2 l1
  rw[this,a4_,xj_ (af_ hl)]
  refine ex_ret ?_
  refine mx_ l.length (λd z=>∃ f1 w1,z=((d:Int),pk f1 w1)∧Fok al f1∧Wok al w1∧(∀ j,j<i→w1[j]?=w[j]?)∧(∀ j m,trm f j m→trm f1 j m)∧(0<d→(∀ j x,j<i→w[j]?=some x→trm f1 j x.toNat)∧∀ j l m,i<j→al[j]?=some l→m<l.length→trm f1 j m)∧∀ m,m<d→trm f1 i m)
   ⟨f,w,rfl,hf,hw,λ_ _=>rfl,λ_ _ h=>h,λh=>absurd h (Nat.lt_irrefl 0),λm h=>absurd h (Nat.not_lt_zero m)⟩ (λd z hd hz => ?_) (λz hz => ?_)
  ·obtain⟨f1,w1,rfl,g1,g2,g3,g4,g5,g6⟩:=hz
   obtain⟨x,hx⟩:=bl_ (l:=w1) (i:=i) (by rw[g2.n];omega)
   obtain⟨f2,w2,e,q1,q2,q3,q4,q5,q6⟩:=ih n (A⊕((Int×A)⊕(A⊕Y))) (λf w=>inl (pk f w)) (i+1) f1 (w1.set i (d:Int)) (by omega) (by omega) g1 (g2.set hl (by omega) (by omega))
   have hwi:(w1.set i (d:Int))[i]?=some (d:Int):=by rw[c6_,if_pos rfl,if_pos (al_ hx)]
   have hwj:∀ j,j≠i→(w1.set i (d:Int))[j]?=w1[j]?:=λj hj=>by rw[c6_,if_neg (k2_ hj)]
   refine⟨(((d+1:Nat):Int),pk f2 w2),?_,f2,w2,rfl,q1,q2,λj hj => ?_,λj m h=>q4 j m (g4 j m h),λ_=>⟨λj y hj hy => ?_,λj l' m hj hl' hm=>q6 j l' m (by omega) hl' hm⟩,λm hm => ?_⟩
   ·simp only[dlt hd,a5_,h1,h2,af_ hx,a0_,bn_ (show Sm i from sm (by omega)),b9_]
    rw[e,a0_]
    simp only[gb_,h1,h2,bn_ (show Sm d from sm (by omega))]
   ·rw[q3 j (by omega),hwj j (by omega),g3 j hj]
   ·exact q5 j y (by omega) (by rw[hwj j (by omega),g3 j hj];exact hy)
   ·by_cases e:m=d
    ·subst e
     have:=q5 i (m:Int) (by omega) hwi
     rwa [b9_] at this
    ·exact q4 i m (g6 m (by omega))
  ·obtain⟨f1,w1,rfl,g1,g2,g3,g4,g5,g6⟩:=hz
   obtain⟨g7,g8⟩:=g5 l3
   refine⟨_,by simp only[dnl,a4_,h1,h2];rfl,?_⟩
   simp only[gb_,h1,h2]
   refine⟨_,rfl,f1,w1,rfl,g1,g2,g3,g4,g7,λj l' m hj hl' hm => ?_⟩
   by_cases e:j=i
   ·subst e
    rw[hl] at hl'
    cases hl'
    exact g6 m hm
   ·exact g8 j l' m (by omega) hl' hm
end
theorem av1 {R:Type} {b:Bool} {al:List (List (List Int))} (hn:al.length≤8) (hne:∀ l ∈ al,l≠[]∧l.length≤20000) (K:List (List Bool)×(List (List (List Int))×Unit)→Option R):∃ f,psbX b (al.length:Int) [] al K=K (f,(al,())):=by
 have hf0:Fok al (al.map λl=>List.replicate l.length false):=⟨by simp,λi l r hl hr=>by
  rw[c4_,hl] at hr
  cases hr
  simp⟩
 have hw0:Wok al (List.replicate al.length 0):=⟨by simp,λi l x hl hx=>by
  obtain⟨l1,l2⟩:=hne l (bu_ hl)
  have l3:0<l.length:=m0_.2 l1
  rw[m7_,if_pos (al_ hl)] at hx
  cases hx
  omega⟩
 obtain⟨f,w,e,g1,g2,_,_,_,g3⟩:=wlP_ok (b:=b) (pk:=λf w=>(f,((),(w,())))) (u1:=λa=>a.1) (u2:=λa=>a.2.2.1) (λ_ _=>rfl) (λ_ _=>rfl) hn hne al.length 9 (List (List Bool)×Unit) (λf w=>(f,())) 0 _ _ (by omega) (by omega) hf0 hw0
 refine⟨f,?_⟩
 unfold psbX
 rw[ne_ (by omega) (by omega),a0_,b9_]
 have hset:∀ {α:Type} {p:List α} {i m:Nat} {x y:α},p.length=i→(p++x::List.replicate m x).set i y=(p++[y])++List.replicate m x:=λ{α p i m x y} h=>by
  subst h
  rw[qx_,b0_];rfl
 refine fk_ al.length (λi z=>z=((i:Int),(((al.map λl=>List.replicate l.length false).take i++List.replicate (al.length - i) []),()))) (by simp) (λi z hi hz => ?_) (λz hz => ?_)
 ·subst hz
  obtain⟨l,hl⟩:=bl_ hi
  obtain⟨l1,l2⟩:=hne l (bu_ hl)
  obtain⟨m,hm⟩:∃ m,al.length - i=m+1:=⟨al.length - i - 1,by omega⟩
  have hml:(al.map λl=>List.replicate l.length false)[i]?=some (List.replicate l.length false):=by rw[c4_,hl];rfl
  have hpl:((al.map λl=>List.replicate l.length false).take i).length=i:=by rw[c0_,d6_];omega
  refine⟨_,?_,rfl⟩
  simp only[dlt hi,a5_,xj_ (af_ hl)]
  rw[ne_ (by omega) (by omega),a0_,b9_,hm,f7_]
  have hat:((al.map λl=>List.replicate l.length false).take i++[]::List.replicate m [])[i]?=some ([]:List Bool):=by
   rw[b3_ (by omega),hpl,e5_];rfl
  simp only[af_ hat,a0_,bn_ (show Sm i from sm (by omega)),b9_]
  rw[hset hpl,dc_ hml,show al.length - (i+1)=m by omega]
 ·subst hz
  refine⟨_,by simp only[dnl,a4_];rfl,?_⟩
  rw[e5_,k7_,d5_,d8_ (by simp)]
  rw[ne_ (by omega) (by omega),a0_,b9_]
  have e':wlP b (λf w=>(f,((),(w,())))) (λa=>a.1) (λa=>a.2.2.1) [] al fndB 9 (List (List Bool)×Unit) (λf w=>(f,())) 0 (al.map λl=>List.replicate l.length false) (List.replicate al.length 0)=some (f,()):=e
  rw[e',a0_,ne_ (by omega) (by omega),a0_,b9_]
  refine fk_ al.length (λi z=>z=((i:Int),(f,(al.take i++List.replicate (al.length - i) [],())))) (by simp) (λi z hi hz => ?_) (λz hz => ?_)
  ·subst hz
   obtain⟨l,hl⟩:=bl_ hi
   obtain⟨l1,l2⟩:=hne l (bu_ hl)
   obtain⟨m,hm⟩:∃ m,al.length - i=m+1:=⟨al.length - i - 1,by omega⟩
   have hpl:(al.take i).length=i:=by rw[c0_];omega
   obtain⟨r,hr⟩:=bl_ (l:=f) (i:=i) (by rw[g1.n];omega)
   refine⟨_,?_,rfl⟩
   simp only[dlt hi,a5_,xj_ (af_ hl)]
   refine fk_ l.length (λn z=>z=((n:Int),(f,(al.take i++l.take n::List.replicate m [],())))) (by rw[hm];rfl) (λn z hn' hz => ?_) (λz hz => ?_)
   ·subst hz
    obtain⟨c,hc⟩:=bl_ hn'
    obtain⟨r',hr',ht⟩:=g3 i l n (Nat.zero_le _) hl hn'
    rw[hr] at hr'
    cases hr'
    have hat:(al.take i++l.take n::List.replicate m [])[i]?=some (l.take n):=by
     rw[b3_ (by omega),hpl,e5_];rfl
    refine⟨_,?_,rfl⟩
    have hs2:∀ y:List (List Int),(al.take i++l.take n::List.replicate m []).set i y=al.take i++y::List.replicate m []:=λy=>by
     rw[h6_ _ _ (by omega),hpl,e5_];rfl
    simp only[dlt hn',a5_,af_ hc,af_ hr,af_ ht,af_ hat,a0_,cp_ (show Sm (l.take n).length from sm (by rw[c0_];omega)),c7_,h8_,b9_,hs2,bn_ (show Sm n from sm (by omega)),dc_ hc]
    try rw[show f.set i r=f from mj_ hr]
   ·subst hz
    refine⟨_,by simp only[dnl,a4_];rfl,?_⟩
    simp only[bn_ (show Sm i from sm (by omega)),e0_]
    rw[dc_ hl,show al.length - (i+1)=m by omega,b0_]
    rfl
  ·subst hz
   refine⟨_,by simp only[dnl,a4_];rfl,?_⟩
   rw[e5_,k7_,d5_,e0_]
end
section
set_option maxRecDepth 10000
theorem io_ (a b c:Int):bo_ a b c=some (wi a b c,()):=bh9 a b c
theorem aq1 {n i:Nat} (hn:n≤30000) (hi:i<n):wi (i:Int) 0 (w64 ((n:Int) - 1))=true:=by
 unfold wi
 rw[ht_ (by omega) (by omega),b7_ (show (0:Int)≤(i:Int) by omega),b7_ (show (i:Int)≤(n:Int) - 1 by omega)]
 rfl
structure GV (r:ak_):Prop where
 n1:1≤r.1.length
 n8:r.1.length≤8
 c:r.2.1.length=r.1.length
 k:r.2.2.1.length=r.1.length
 t:r.2.2.2=[]
 lk:∀ (i:Nat) l,r.1[i]?=some l→Lk l∧∃ c k,r.2.1[i]?=some c∧dd_ l c=true∧r.2.2.1[i]?=some k∧k.length≤20∧∀ x ∈ k,cn_ l x=true∧tr x c=true
def alw (r:ak_):List (List (List Int)):=(r.1.zip r.2.2.1).map λx=>rdg x.1 x.2
def zw_ (l:List (List (List Int))):Nat:=l.foldl (λs x=>s * x.length) 1
def big (r:ak_):Bool:=decide (20000<zw_ (alw r))
section
variable {r:ak_}
theorem ko_ (hr:GV r):(alw r).length=r.1.length:=by
 unfold alw
 rw[d6_,l1_,hr.k,Nat.min_self]
theorem lt_ {i:Nat} {l:aa_} {k:List ab_} (hl:r.1[i]?=some l) (hk:r.2.2.1[i]?=some k):(alw r)[i]?=some (rdg l k):=by
 unfold alw
 rw[c4_,show (r.1.zip r.2.2.1)[i]?=some (l,k) from h9_.2 ⟨hl,hk⟩]
 rfl
theorem bg0 (hr:GV r) {i:Nat} {a:List (List Int)} (h:(alw r)[i]?=some a):∃ l c k,r.1[i]?=some l∧Lk l∧r.2.1[i]?=some c∧dd_ l c=true∧r.2.2.1[i]?=some k∧k.length≤20∧(∀ x ∈ k,cn_ l x=true∧tr x c=true)∧a=rdg l k:=by
 have hi:=al_ h
 rw[ko_ hr] at hi
 obtain⟨l,hl⟩:=bl_ hi
 obtain⟨h1,c,k,h2,h3,h4,h5,h6⟩:=hr.lk i l hl
 rw[lt_ hl h4] at h
 exact⟨l,c,k,hl,h1,h2,h3,h4,h5,h6,(a8_ h).symm⟩
theorem au1 {l:aa_} {c:List Int} {k:List ab_} (hl:Lk l) (hc:dd_ l c=true) (h:∀ x ∈ k,tr x c=true):c ∈ rdg l k:=by
 unfold rdg
 rw[e9_]
 exact⟨(ak8 hl).2 hc,f1_.2 h⟩
theorem bw2 (hr:GV r):∀ a ∈ alw r,a≠[]∧a.length≤20000:=by
 intro a ha
 obtain⟨i,hi⟩:=f4_ ha
 obtain⟨l,c,k,_,h1,_,h3,_,_,h6,rfl⟩:=bg0 hr hi
 have:=bt7 h1 k
 exact⟨List.ne_nil_of_mem (au1 h1 h3 λx hx=>(h6 x hx).2),by omega⟩
theorem ae6 (hr:GV r) {i:Nat} {a:List (List Int)} (h:(alw r)[i]?=some a):1≤a.length∧a.length≤10000:=by
 obtain⟨l,c,k,_,h1,_,h3,_,_,h6,rfl⟩:=bg0 hr h
 exact⟨m0_.2 (List.ne_nil_of_mem (au1 h1 h3 λx hx=>(h6 x hx).2)),bt7 h1 k⟩
theorem ah8 {l:List (List (List Int))} {i:Nat} {a:List (List Int)} (h:l[i]?=some a):zw_ (l.take (i+1))=zw_ (l.take i) * a.length:=by
 unfold zw_
 rw[dc_ h,l3_]
 rfl
theorem ah9 {l:List (List (List Int))} (hp:∀ (i:Nat) a,l[i]?=some a→1≤a.length):∀ (k i:Nat),i+k≤l.length→zw_ (l.take i)≤zw_ (l.take (i+k))
 | 0,i,_=>c1_ _
 | k+1,i,h=>by
  obtain⟨a,ha⟩:=bl_ (l:=l) (i:=i+k) (by omega)
  have h1:=ah9 hp k i (by omega)
  rw[show i+(k+1)=(i+k)+1 by omega,ah8 ha]
  exact e7_ h1 (Nat.le_mul_of_pos_right _ (hp _ _ ha))
theorem jr_ (hr:GV r) {X υ:Type} {e:X} {body:(Int×(Int×Unit))→Option ((Int×(Int×Unit))⊕(Unit⊕X))} {K:(Unit⊕X)→Option υ} {x:Option υ}
  (hb:∀ (i m:Nat) l k,m≤20000→r.1[i]?=some l→r.2.2.1[i]?=some k→Lk l→k.length≤20→(∀ c ∈ k,cn_ l c=true)→body ((m:Int),((i:Int),()))=cond (decide (20000<w64 ((m:Int) * ((rdg l k).length:Int)))) (some (.inr (.inr e))) (some (.inl (w64 ((m:Int) * ((rdg l k).length:Int)),(((i+1:Nat):Int),())))))
  (he:∀ m:Int,body (m,((r.1.length:Int),()))=some (.inr (.inl ()))) (hk:K (cond (big r) (.inr e) (.inl ()))=x):(ae_ body (1,(0,()))).bind K=x:=by
 have hp:∀ (i:Nat) a,(alw r)[i]?=some a→1≤a.length:=λi a h=>(ae6 hr h).1
 have hn:=ko_ hr
 have gen:∀ (j i:Nat),i+j=r.1.length→zw_ ((alw r).take i)≤20000→ae_ body (((zw_ ((alw r).take i):Nat):Int),((i:Int),()))=some (cond (big r) (.inr e) (.inl ())):=by
  intro j
  induction j with
  | zero =>
   intro i hi hm
   obtain rfl:i=r.1.length:=by omega
   have:big r=false:=by
    unfold big
    rw[← hn,e0_] at hm
    exact c3_ (by omega)
   rw[this]
   exact fr_ (he _)
  | succ j ih =>
   intro i hi hm
   obtain⟨l,hl⟩:=bl_ (l:=r.1) (i:=i) (by omega)
   obtain⟨h1,c,k,h2,h3,h4,h5,h6⟩:=hr.lk i l hl
   have ha:=lt_ hl h4
   obtain⟨p1,p2⟩:=ae6 hr ha
   have hb':=hb i (zw_ ((alw r).take i)) l k hm hl h4 h1 h5 λc hc=>(h6 c hc).1
   have hmul:zw_ ((alw r).take i) * (rdg l k).length≤200000000:=Nat.mul_le_mul hm p2
   have hw:w64 (((zw_ ((alw r).take i):Nat):Int) * ((rdg l k).length:Int))=((zw_ ((alw r).take (i+1)):Nat):Int):=by
    rw[ah8 ha,← Int.natCast_mul,ht_ (by omega) (by omega)]
   rw[hw] at hb'
   by_cases hc:20000<zw_ ((alw r).take (i+1))
   ·rw[b7_ (show (20000:Int)<((zw_ ((alw r).take (i+1)):Nat):Int) by omega),a5_] at hb'
    have hm2:=ah9 hp j (i+1) (by omega)
    rw[show i+1+j=(alw r).length by omega,e0_] at hm2
    have:big r=true:=b7_ (by omega)
    rw[this]
    exact fr_ hb'
   ·rw[c3_ (show ¬ (20000:Int)<((zw_ ((alw r).take (i+1)):Nat):Int) by omega),a4_] at hb'
    exact ia_ hb' (ih (i+1) (by omega) (by omega))
 have h0:zw_ ((alw r).take 0)=1:=rfl
 have:=gen r.1.length 0 (by omega) (by rw[h0];decide)
 rw[h0] at this
 refine e2_ (congrArg (λo=>Option.bind o K) this) ?_
 rw[a0_,hk]
noncomputable abbrev roomB (a0:ak_):(Int×(((List (List (List Int)))×Unit)×Unit))→Option ((Int×(((List (List (List Int)))×Unit)×Unit))⊕(((List (List (List Int)))×Unit)×Unit)):=(λ(v9:(Int×(((List (List (List Int)))×Unit)×Unit))) =>
 (cond (decide (v9.1<(a0.1.length:Int)))
 ((at? a0.1 v9.1).bind λv10 =>
 ((at? a0.2.2.1 v9.1).bind λv11 =>
 ((bb_ v10 v11).bind λv12 =>
 ((push? (α:=(List (List Int))) v9.2.1.1 ([v12.1]:List (List (List Int)))).bind λv13 =>
 (some (inl ((w64 (v9.1+1)),((v13,()),()))))))))
 (some (inr ((v9.2.1.1,()),())))))
theorem jo_ (hr:GV r) {υ:Type} {K:(((List (List (List Int)))×Unit)×Unit)→Option υ} {x:Option υ} (hk:K ((alw r,()),())=x):(ae_ (roomB r) (0,(([],()),()))).bind K=x:=by
 have hn:=ko_ hr
 have h8:=hr.n8
 refine fk_ r.1.length (λi z=>z=((i:Int),(((alw r).take i,()),()))) (by simp) (λi z hi hz => ?_) (λz hz => ?_)
 ·subst hz
  obtain⟨l,hl⟩:=bl_ hi
  obtain⟨h1,c,k,h2,h3,h4,h5,h6⟩:=hr.lk i l hl
  refine⟨_,?_,rfl⟩
  simp only[roomB,dlt hi,a5_,af_ hl,af_ h4,a0_,tr_ h1 h5 λc hc=>(h6 c hc).1,cp_ (show Sm ((alw r).take i).length from sm (by rw[c0_];omega)),bn_ (show Sm i from sm (by omega)),dc_ (lt_ hl h4)]
 ·subst hz
  refine⟨_,by simp only[roomB,dnl,a4_];rfl,?_⟩
  rw[← hn,e0_]
  exact hk
theorem bb8 {i:Nat} {l:aa_} {c:List Int} (hl:r.1[i]?=some l) (h1:Lk l) (hc:r.2.1[i]?=some c) (hk:dd_ l c=true) (x:ab_):fx_ r (i:Int) x=some (cond (cn_ l x) (tr x c) false,()):=by
 unfold fx_
 rw[af_ hl,a0_,af_ hc,a0_,qk_ h1 x hk,a0_]
 simp only
 cases cn_ l x<;>rfl
theorem mv_ (hr:GV r):bq_ r=some (0,()):=by
  have n1:=hr.n1
  have n8:=hr.n8
  unfold bq_
  rw[io_,a0_]
  have hw:wi (r.1.length:Int) 1 8=true:=by
    unfold wi
    rw[b7_ (show (1:Int)≤(r.1.length:Int) by omega),b7_ (show (r.1.length:Int)≤8 by omega)]
    rfl
  simp only[hw,e1_,a4_,hr.c,hr.k,hr.t,e3_,i6_,show decide ((10:Int)<((0:Nat):Int))=false from rfl,a0_]
  refine pa_ r.1.length (λi=>((i:Int),())) rfl (λi hi => ?_) (by simp only[dnl,a4_];rfl) ?_
  · obtain⟨l,hl⟩:=bl_ hi
    obtain⟨h1,c,k,h2,h3,h4,h5,h6⟩:=hr.lk i l hl
    simp only[dlt hi,a5_,af_ hl,af_ h2,af_ h4,a0_]
    rw[fj_,a0_,h3,kx_.2 h1]
    simp only[k6_,show ((0:Int) != 0)=false from rfl,a4_,a0_,c3_ (show ¬ (20:Int)<(k.length:Int) by omega)]
    rw[show ((ae_ (ρ:=(Unit⊕(Bool×Unit))) (λ(v9:(Int×Unit)) =>
 (cond (decide (v9.1<(k.length:Int)))
 ((at? k v9.1).bind λv10 =>
 ((fx_ r (i:Int) v10).bind λv11 =>
 (cond (!v11.1)
 (some (inr (inr ((decide (0≤v9.1)),()))))
 (some (inl ((w64 (v9.1+1)),()))))))
 (some (inr (inl ()))))) (0,())).bind λv12 =>
 (co_ v12 (λv13=>(some ((decide ((0:Int)≤(-1))),())))
 (λv14=>(some v14))))=some (false,()) from ?_]
    · simp only[a0_,a4_,bn_ (show Sm i from sm (by omega))]
    · refine pa_ k.length (λi=>((i:Int),())) rfl (λj hj => ?_) (by simp only[dnl,a4_];rfl) rfl
      obtain⟨x,hx⟩:=bl_ hj
      obtain⟨x1,x2⟩:=h6 x (bu_ hx)
      simp only[dlt hj,a5_,af_ hx,a0_,bb8 hl h1 h2 h3,x1,x2,e1_,a4_,bn_ (show Sm j from sm (by omega))]
  · simp only[gb_]
    rw[show ((ae_ (ρ:=(Unit⊕(Bool×Unit))) (λ(v19:(Int×Unit)) =>
 (cond (decide (v19.1<((0:Nat):Int)))
 ((at? ([]:List fg_) v19.1).bind λv20 =>
 ((lh_ r v20).bind λv21 =>
 (cond (!v21.1)
 (some (inr (inr ((decide (0≤v19.1)),()))))
 (some (inl ((w64 (v19.1+1)),()))))))
 (some (inr (inl ()))))) (0,())).bind λv22 =>
 (co_ v22 (λv23=>(some ((decide ((0:Int)≤(-1))),())))
 (λv24=>(some v24))))=some (false,()) from oz_ (r:=inl ()) rfl rfl]
    rfl
theorem sb_ (hr:GV r) {i:Nat} {a:List (List Int)} (ha:(alw r)[i]?=some a):db_ r (i:Int)=some (cond (big r) ([],(2,())) (a,(0,()))):=by
 have n8:=hr.n8
 have hi:=al_ ha
 have hn:=ko_ hr
 unfold db_
 rw[mv_ hr,a0_]
 simp only[show ((0:Int) != 0)=false from rfl,a4_]
 refine jr_ hr (e:=(([],(2,())):List (List Int)×(Int×Unit))) (λi m l k hm hl hk h1 h2 h3 => ?_) (λm=>by simp only[dnl,a4_]) ?_
 ·simp only[dlt (al_ hl),a5_,af_ hl,af_ hk,a0_]
  rw[dr_ h1 h2 h3,a0_]
  simp only[show ((0:Int) != 0)=false from rfl,a4_,bn_ (show Sm i from sm (by have:=al_ hl;omega))]
 ·cases big r with
  | true=>rfl
  | false =>
   simp only[a4_,gb_]
   refine jo_ hr ?_
   simp only
   rw[io_,a0_,aq1 (by omega) (by omega)]
   simp only[e1_,a0_,a4_]
   rw[hr.t,← hn]
   obtain⟨f,e⟩:=av1 (b:=true) (al:=alw r) (by omega) (bw2 hr) (λv388:List (List Bool)×(List (List (List Int))×Unit)=>((at? v388.2.1 (i:Int)).bind λv389=>(some (v389,((0:Int),())))))
   rw[e]
   simp only[af_ ha,a0_]
end
end
section
set_option maxRecDepth 10000
theorem wi_in {n i:Nat} (hn:n≤30000) (hi:i<n):wi (i:Int) 0 (w64 ((n:Int) - 1))=true:=by
 unfold wi
 rw[ht_ (by omega) (by omega),b7_ (show (0:Int)≤(i:Int) by omega),b7_ (show (i:Int)≤(n:Int) - 1 by omega)]
 rfl
theorem kv_ {g:ac_} (hg:SmG g) (h0:cy_ g=0) {p:ag_} (hv:VP g p) {q:Nat} (hq:q<g.2.1.length):da_ g p (q:Int)=some (0,()):=by
 have hlk:=hg.lk
 unfold da_
 rw[nl_ hg h0 hv,a0_]
 simp only[show ((0:Int) != 0)=false from rfl,a4_]
 unfold jg_
 rw[id_,a0_,wi_in (by omega) hq]
 rfl
abbrev cluF (lock:Int) (x:bw_×Bool):Option ab_:=cond (x.1.2.2.1==lock&&x.2) (some x.1.2.2.2.2) none
structure Nts (g:ac_) (d:List Bool) (lock:Int) (q:List Nat):Prop where
 n:q.length≤20
 b:∀ e ∈ q,e<g.2.2.2.1.length
 c:ap6 g q=zk_ g d lock
theorem ac5 {g:ac_} (hg:SmG g) (h0:cy_ g=0) {p:ag_} (hv:VP g p) {k:Nat} (hk:k<g.2.1.length):∃ q:List Nat,hf_ g p (k:Int)=some (q.map (λe:Nat=>(e:Int)),(0,()))∧Nts g p.2 (k:Int) q:=by
 have hn:=hg.nt
 have hrd:=hv.rd
 suffices h:∃ y,hf_ g p (k:Int)=some y∧∃ q:List Nat,y=(q.map (λe:Nat=>(e:Int)),(0,()))∧Nts g p.2 (k:Int) q by
  obtain⟨y,h,q,rfl,h2⟩:=h
  exact⟨q,h,h2⟩
 unfold hf_
 rw[kv_ hg h0 hv hk,a0_]
 simp only[show ((0:Int) != 0)=false from rfl,a4_]
 refine mx_ g.2.2.2.1.length (λi (z:(List Int)×((List ab_)×(Int×Unit)))=>∃ (q:List Nat) (c:List ab_),z=(q.map (λe:Nat=>(e:Int)),(c,((i:Int),())))∧q.length≤i∧c.length≤i∧(∀ e ∈ q,e<g.2.2.2.1.length)∧ap6 g q=((g.2.2.2.1.zip p.2).take i).filterMap (cluF (k:Int)))
  ⟨[],[],rfl,c1_ _,c1_ _,(λe he=>by cases he),rfl⟩ (λi z hi hz => ?_) (λz hz => ?_)
 ·obtain⟨q,c,rfl,hq,hc,hb,he⟩:=hz
  obtain⟨x,hx⟩:=bl_ hi
  obtain⟨y,hy⟩:=bl_ (l:=p.2) (i:=i) (by omega)
  have hzip:(g.2.2.2.1.zip p.2)[i]?=some (x,y):=by rw[h9_];exact⟨hx,hy⟩
  have hstep:((g.2.2.2.1.zip p.2).take (i+1)).filterMap (cluF (k:Int))=((g.2.2.2.1.zip p.2).take i).filterMap (cluF (k:Int))++cond (x.2.2.1==(k:Int)&&y) [x.2.2.2.2] []:=by
   rw[dc_ hzip,l7_]
   cases hc:(x.2.2.1==(k:Int)&&y) with
   | false=>simp[cluF,hc]
   | true=>simp[cluF,hc]
  have hm:(q.map (λe:Nat=>(e:Int))).length≤i:=by rw[d6_];exact hq
  simp only[dlt hi,a5_,af_ hx,af_ hy,a0_,bn_ (show Sm i from sm (by omega))]
  cases hcc:(x.2.2.1==(k:Int)&&y) with
  | false =>
   refine⟨(q.map (λe:Nat=>(e:Int)),(c,(((i+1:Nat):Int),()))),?_,q,c,rfl,by omega,by omega,hb,by rw[hstep,hcc,a4_,d5_];exact he⟩
   cases h1:x.2.2.1==(k:Int) with
   | false=>simp only[a4_,a0_]
   | true =>
    rw[h1,d3_] at hcc
    subst hcc
    simp only[a5_,a4_,a0_]
  | true =>
   have hcc2:=hcc
   rw[a1_] at hcc2
   obtain⟨h1,rfl⟩:=hcc2
   refine⟨((q++[i]).map (λe:Nat=>(e:Int)),(c++[x.2.2.2.2],(((i+1:Nat):Int),()))),?_,q++[i],_,rfl,by simp;omega,by simp;omega,λe he => ?_,?_⟩
   ·simp only[h1,a5_,a0_,cp_ (show Sm (q.map (λe:Nat=>(e:Int))).length from sm (by omega)),cp_ (show Sm c.length from sm (by omega)),l9_,g1_,List.map_nil]
   ·rcases d9_.1 he with h | h
    ·exact hb e h
    ·rw[j4_.1 h];exact hi
   ·rw[hstep,hcc,a5_,← he]
    unfold ap6
    rw[l7_]
    simp[hx]
 ·obtain⟨q,c,rfl,hq,hc,hb,he⟩:=hz
  refine⟨_,by simp only[dnl,a4_];rfl,_,rfl,q,rfl,⟨by omega,hb,?_⟩⟩
  rw[he,d8_ (by rw[l1_];omega)]
  rfl
theorem bc9 {g:ac_} {q:List Nat} {j e:Nat} {n:bw_} (h:q[j]?=some e) (hn:g.2.2.2.1[e]?=some n):ap6 g (q.take (j+1))=ap6 g (q.take j)++[n.2.2.2.2]:=by
 unfold ap6
 rw[dc_ h,l7_]
 simp[hn]
theorem bq6 (g:ac_) (q:List Nat):(ap6 g q).length≤q.length:=m6_ ..
noncomputable def knw (g:ac_) (d:List Bool):List (List ab_):=(List.range g.2.1.length).map λi=>zk_ g d ((i:Nat):Int)
theorem wj_ (g:ac_) (d:List Bool):(knw g d).length=g.2.1.length:=by simp[knw]
theorem ad5 {g:ac_} {d:List Bool} {i:Nat} (hi:i<g.2.1.length):(knw g d)[i]?=some (zk_ g d (i:Int)):=by
 unfold knw
 rw[c4_,i9_ hi]
 rfl
abbrev eR:ak_:=([],([],([],[])))
noncomputable def frm (g:ac_) (p:ag_):ak_×(Int×Unit) :=
 cond (pk g p != 0) (eR,(pk g p,())) (cond ((g.2.1.length:Int)==0) (eR,(70,())) ((g.2.1,(g.2.2.1,(knw g p.2,[]))),(0,())))
theorem pu_ {c:ab_} (h:c.2.2.2.2.2.1.length≤30000):cd_ c=some (c,()):=by
 unfold cd_
 rw[aq_ (sm h)]
 rfl
theorem bi5 {g:ac_} {i:Nat} {k:List Int} (hk:g.2.2.1[i]?=some k):g.2.2.1.take (i+1)=g.2.2.1.take i++[k]:=dc_ hk
theorem ao7 {g:ac_} (hg:SmG g) (p:ag_):ix_ g p=some (frm g p):=by
 unfold ix_ frm
 obtain⟨lo,ho⟩:=ac4 hg p
 rw[ho,a0_]
 simp only
 cases hk:pk g p != 0 with
 | true=>rfl
 | false =>
 obtain⟨h0,hv⟩:=pk_ok hk
 have ok:=dy_ h0
 have hlk:=hg.lk
 have hnt:=hg.nt
 simp only[a4_]
 cases hl0:(g.2.1.length:Int)==0 with
 | true=>rfl
 | false =>
 simp only[a4_]
 rw[aq_ (sm (by omega)),a0_,ne_ (by omega) (by omega),a0_,b9_]
 have hcd:=ok.cd
 refine fk_ g.2.1.length (λi z=>z=((i:Int),((knw g p.2).take i++List.replicate (g.2.1.length - i) [],(([],([],([],([],())))),((g.2.2.1.take i,()),()))))) (by simp) (λi z hi hz => ?_) (λz hz => ?_)
 ·subst hz
  obtain⟨k,hkc⟩:=bl_ (l:=g.2.2.1) (i:=i) (by omega)
  have hk10:=hg.cdn k (bu_ hkc)
  obtain⟨q,hq,hN⟩:=ac5 hg h0 hv hi
  have ht:(g.2.2.1.take i).length≤30000:=by rw[c0_];omega
  simp only[dlt hi,a5_,af_ hkc,a0_,aq_ (show Sm k.length from sm (by omega)),cp_ (show Sm (g.2.2.1.take i).length from sm ht)]
  rw[hq,a0_]
  simp only[e3_,a4_]
  have hkl:((knw g p.2).take i).length=i:=by rw[c0_,wj_];omega
  obtain⟨m,hm⟩:∃ m,g.2.1.length - i=m+1:=⟨g.2.1.length - i - 1,by omega⟩
  refine⟨_,?_,rfl⟩
  refine fk_ q.length (λj z=>z=((j:Int),(((knw g p.2).take i++ap6 g (q.take j)::List.replicate m []),()))) (by rw[hm,f7_,List.take_zero];rfl) (λj z hj hz => ?_) (λz hz => ?_)
  ·subst hz
   obtain⟨e,he⟩:=bl_ hj
   obtain⟨n,hn⟩:=bl_ (hN.b e (bu_ he))
   have hqm:(q.map (λe:Nat=>(e:Int)))[j]?=some (e:Int):=by rw[c4_,he];rfl
   have hn10:=(hg.ntn n (bu_ hn)).2.2
   have hat:((knw g p.2).take i++ap6 g (q.take j)::List.replicate m [])[i]?=some (ap6 g (q.take j)):=by
    rw[b3_ (by omega),hkl,e5_];rfl
   have hci:(ap6 g (q.take j)).length≤30000:=by
    have:=bq6 g (q.take j)
    have:=hN.n
    rw[c0_] at *
    omega
   refine⟨_,?_,rfl⟩
   simp only[d6_,dlt hj,a5_,af_ hqm,a0_,af_ hat,af_ hn,pu_ (show n.2.2.2.2.2.2.2.2.2.1.length≤30000 by omega),cp_ (sm hci),c7_,h8_,bn_ (show Sm j from sm (by have:=hN.n;omega)),b9_,bc9 he hn]
   have hset:∀ (y:List ab_),((knw g p.2).take i++ap6 g (q.take j)::List.replicate m []).set i y=(knw g p.2).take i++y::List.replicate m []:=λy=>by
    rw[h6_ _ _ (by omega),hkl,e5_];rfl
   rw[hset]
  ·subst hz
   refine⟨_,by simp only[d6_,dnl,a4_];rfl,?_⟩
   simp only[bn_ (show Sm i from sm (by omega)),e0_]
   rw[hN.c,dc_ (ad5 hi),bi5 hkc,show g.2.1.length - (i+1)=m by omega,b0_]
   rfl
 ·subst hz
  refine⟨_,by simp only[dnl,a4_];rfl,?_⟩
  simp only[co_,e5_,k7_,d5_]
  rw[d8_ (show g.2.2.1.length≤_ by omega),d8_ (show (knw g p.2).length≤_ by rw[wj_];exact c1_ _)]
end
section
set_option maxRecDepth 10000
structure SmRi (r:ak_):Prop where
 l:r.1.length≤30000
 t:r.2.2.2.length≤30000
 c:r.2.1.length≤30000
 k:r.2.2.1.length≤30000
 cn:∀ x ∈ r.2.1,x.length≤30000
 kn:∀ x ∈ r.2.2.1,x.length≤30000∧∀ c ∈ x,c.2.2.2.2.2.1.length≤30000
theorem bo3 {g:ac_} (hg:SmG g) {d:List Bool} {i:Nat} {c:ab_} (h:c ∈ zk_ g d (i:Int)):c.2.2.2.2.2.1.length≤10:=by
 obtain⟨i,n,hn,_,rfl⟩:=xc_ h
 exact (hg.ntn n (bu_ hn)).2.2
theorem knw_sm {g:ac_} (hg:SmG g) {d:List Bool} {x:List ab_} (h:x ∈ knw g d):x.length≤30000∧∀ c ∈ x,c.2.2.2.2.2.1.length≤30000:=by
 obtain⟨i,hi,rfl⟩:=d4_.1 h
 exact⟨by have:=xd_ hg d (i:Int);omega,λc hc=>by have:=bo3 hg hc;omega⟩
theorem frm_sm {g:ac_} (hg:SmG g) (d:List Bool):SmRi (g.2.1,(g.2.2.1,(knw g d,[]))):=by
 have hlk:=hg.lk
 have hcd:=hg.cd
 exact⟨show g.2.1.length≤30000 by omega,Nat.zero_le _,show g.2.2.1.length≤30000 by omega,by show (knw g d).length≤30000;rw[wj_];omega,λx hx=>by have:=hg.cdn x hx;omega,λx hx=>knw_sm hg hx⟩
end
section
set_option maxRecDepth 10000
theorem nt_tr {g:ac_} (ok:OkG g) {i:Nat} {n:bw_} (hn:g.2.2.2.1[i]?=some n) {l:aa_} {k:List Int} (h0:0≤n.2.2.1) (hl:at? g.2.1 n.2.2.1=some l) (hk:at? g.2.2.1 n.2.2.1=some k):cn_ l n.2.2.2.2=true∧tr n.2.2.2.2 k=true:=by
 have h:=(ok.nt i n hn).1
 unfold bu0 at h
 simp only[a1_] at h
 have h5:=h.2.2.2.2
 rw[c3_ (by omega),hl,hk] at h5
 simp only[a4_] at h5
 have h5:clOk l n.2.2.2.2 k=true:=h5
 unfold clOk at h5
 rw[a1_] at h5
 exact h5
noncomputable abbrev tn_ (g:ac_) (d:List Bool):ak_:=(g.2.1,(g.2.2.1,(knw g d,[])))
theorem gv_ridl {g:ac_} (hg:SmG g) (h0:cy_ g=0) (d:List Bool) (hn:1≤g.2.1.length):GV (tn_ g d):=by
 have ok:=dy_ h0
 refine⟨hn,ok.n8,ok.cd,wj_ g d,rfl,λi l hl => ?_⟩
 have hl:g.2.1[i]?=some l:=hl
 obtain⟨h1,c,hc,h2⟩:=ok.lk i l hl
 refine⟨h1,c,zk_ g d (i:Int),hc,h2,ad5 (al_ hl),xd_ hg d (i:Int),λx hx => ?_⟩
 obtain⟨j,n,hn,e,rfl⟩:=xc_ hx
 exact nt_tr ok hn (by omega) (by rw[e];exact af_ hl) (by rw[e];exact af_ hc)
theorem frm_ok {g:ac_} (h0:cy_ g=0) {p:ag_} (hv:VP g p) (hn:1≤g.2.1.length):frm g p=(tn_ g p.2,(0,())):=by
 unfold frm
 rw[VP_pk h0 hv,show ((g.2.1.length:Int)==0)=false from h4_.2 (by omega)]
 rfl
theorem bs0 {g:ac_} {d:List Bool} {i:Nat} {l:aa_} (hl:g.2.1[i]?=some l):(alw (tn_ g d))[i]?=some (rdg l (zk_ g d (i:Int))):=lt_ (r:=tn_ g d) hl (ad5 (al_ hl))
section
variable {r:ak_}
end
end
section
set_option maxRecDepth 10000
section
variable {r:ak_}
def mz_ (r:ak_) (L:Nat) (k:List ab_) (x:ab_):ak_:=(r.1,(r.2.1,(r.2.2.1.set L (k++[x]),r.2.2.2)))
theorem bc8 {υ:Type} {l:List ab_} (h1:l.length≤30000) (h2:∀ c ∈ l,c.2.2.2.2.2.1.length≤30000) {K:(List ab_×Unit)→Option υ} {y:Option υ} (hk:K (l,())=y):(ae_ (ρ:=((List ab_)×Unit)) (λ(v7:((List ab_)×(Int×Unit))) =>
 (cond (decide (v7.2.1<(l.length:Int)))
 ((at? l v7.2.1).bind λv8 =>
 ((cd_ v8).bind λv9 =>
 ((push? (α:=ab_) v7.1 [v9.1]).bind λv10 =>
 (some (inl (v10,((w64 (v7.2.1+1)),())))))))
 (some (inr (v7.1,()))))) ([],(0,()))).bind K=y:=by
  refine fk_ l.length (λj z=>z=(l.take j,((j:Int),()))) (by rw[List.take_zero];rfl) (λj z hj hz => ?_) (λz hz => ?_)
  · subst hz
    obtain⟨c,hc⟩:=bl_ hj
    refine⟨_,?_,rfl⟩
    simp only[dlt hj,a5_,af_ hc,a0_,pu_ (h2 c (bu_ hc)),cp_ (show Sm (l.take j).length from sm (by rw[c0_];omega)),bn_ (show Sm j from sm (by omega)),dc_ hc]
  · subst hz
    refine⟨_,by simp only[dnl,a4_];rfl,?_⟩
    rw[e0_]
    exact hk
theorem ar3 (hr:GV r) (hs:SmRi r) {a:Int×ab_} {L:Nat} {k:List ab_} (hL:a.1=(L:Int)) (hk:r.2.2.1[L]?=some k) (hg:a.2.2.2.2.2.2.1.length≤30000):dh_ r a=some (mz_ r L k a.2,()):=by
 obtain⟨a1,a2⟩:=a
 have hL:a1=(L:Int):=hL
 subst hL
 have n8:=hr.n8
 have hc:=hr.c
 have hkn:=hr.k
 unfold dh_ mz_
 rw[aq_ (sm hs.l),a0_,aq_ (sm hs.t),a0_]
 refine fk_ r.1.length (λi z=>z=((i:Int),((r.2.1.take i,(r.2.2.1.take i,())),()))) (by simp) (λi z hi hz => ?_) (λz hz => ?_)
 ·subst hz
  obtain⟨c,hci⟩:=bl_ (l:=r.2.1) (i:=i) (by omega)
  obtain⟨kk,hki⟩:=bl_ (l:=r.2.2.1) (i:=i) (by omega)
  obtain⟨k1,k2⟩:=hs.kn kk (bu_ hki)
  refine⟨_,?_,rfl⟩
  simp only[dlt hi,a5_,af_ hci,a0_,aq_ (sm (hs.cn c (bu_ hci))),cp_ (show Sm (r.2.1.take i).length from sm (by rw[c0_];omega)),af_ hki]
  refine bc8 k1 k2 ?_
  simp only[cp_ (show Sm (r.2.2.1.take i).length from sm (by rw[c0_];omega)),a0_,bn_ (show Sm i from sm (by omega)),dc_ hci,dc_ hki]
 ·subst hz
  refine⟨_,by simp only[dnl,a4_];rfl,?_⟩
  rw[d8_ (show r.2.1.length≤_ by omega),d8_ (show r.2.2.1.length≤_ by omega)]
  simp only[af_ hk,a0_,pu_ hg,cp_ (sm (hs.kn k (bu_ hk)).1),c7_,h8_,a5_,b9_]
theorem ta_ (hr:GV r):cc_ (r,alw r)=some ((alw r).map λl=>(l.length:Int)):=by
  have n8:=hr.n8
  have hn:=ko_ hr
  unfold cc_
  show psbX false (r.1.length:Int) r.2.2.2 (alw r) _=_
  rw[hr.t,← hn]
  obtain⟨f,e⟩:=av1 (b:=false) (al:=alw r) (by omega) (bw2 hr) (λv337:List (List Bool)×(List (List (List Int))×Unit)=>((ae_ (ρ:=((List Int)×Unit)) (λ(v338:((List Int)×(Int×Unit))) =>
 (cond (decide (v338.2.1<(v337.2.1.length:Int)))
 ((at? v337.2.1 v338.2.1).bind λv339 =>
 ((push? (α:=Int) v338.1 [(v339.length:Int)]).bind λv340 =>
 (some (inl (v340,((w64 (v338.2.1+1)),()))))))
 (some (inr (v338.1,()))))) ([],(0,()))).bind λv341 =>
 (some v341.1)))
  refine e2_ e ?_
  refine fk_ (alw r).length (λi z=>z=((((alw r).map λl=>(l.length:Int)).take i),((i:Int),()))) (by simp) (λi z hi hz => ?_) (λz hz => ?_)
  · subst hz
    obtain⟨a,ha⟩:=bl_ hi
    have hm:((alw r).map λl=>(l.length:Int))[i]?=some (a.length:Int):=by rw[c4_,ha];rfl
    refine⟨_,?_,rfl⟩
    simp only[dlt hi,a5_,af_ ha,a0_,cp_ (show Sm (((alw r).map λl=>(l.length:Int)).take i).length from sm (by rw[c0_,d6_];omega)),bn_ (show Sm i from sm (by omega)),dc_ hm]
  · subst hz
    refine⟨_,by simp only[dnl,a4_];rfl,?_⟩
    simp only
    rw[d8_ (by rw[d6_];exact c1_ _)]
def bh3 (A B:List Int) (n:Nat):List Int:=((List.range n).filter λi:Nat=>decide (gt0 B (i:Int)<gt0 A (i:Int))).map λi:Nat=>(i:Int)
theorem few_len (A B:List Int) (n:Nat):(bh3 A B n).length≤n:=by
 unfold bh3
 rw[d6_]
 have:=l6_ (λi:Nat=>decide (gt0 B (i:Int)<gt0 A (i:Int))) (List.range n)
 rw[i5_] at this
 exact this
theorem bp7 {t:ak_} (hr:GV r) (ht:GV t) (he:t.1.length=r.1.length):eg_ (r,alw r) (t,alw t)=some (bh3 ((alw r).map λl=>(l.length:Int)) ((alw t).map λl=>(l.length:Int)) r.1.length):=by
 have n8:=hr.n8
 have hn:=ko_ hr
 have hn2:=ko_ ht
 unfold eg_
 rw[ta_ ht,a0_,ta_ hr,a0_]
 refine fk_ r.1.length (λi z=>z=(bh3 ((alw r).map λl=>(l.length:Int)) ((alw t).map λl=>(l.length:Int)) i,((i:Int),()))) rfl (λi z hi hz => ?_) (λz hz => ?_)
 ·subst hz
  obtain⟨x,hx⟩:=bl_ (l:=(alw r).map λl=>(l.length:Int)) (i:=i) (by rw[d6_];omega)
  obtain⟨y,hy⟩:=bl_ (l:=(alw t).map λl=>(l.length:Int)) (i:=i) (by rw[d6_];omega)
  have hf:=few_len ((alw r).map λl=>(l.length:Int)) ((alw t).map λl=>(l.length:Int)) i
  refine⟨_,?_,rfl⟩
  have hlen:((alw r).map λl=>(l.length:Int)).length=r.1.length:=by rw[d6_];exact hn
  simp only[hlen,dlt hi,a5_,af_ hx,af_ hy,a0_]
  have hstep:bh3 ((alw r).map λl=>(l.length:Int)) ((alw t).map λl=>(l.length:Int)) (i+1)=bh3 ((alw r).map λl=>(l.length:Int)) ((alw t).map λl=>(l.length:Int)) i++cond (decide (y<x)) [(i:Int)] []:=by
   unfold bh3
   rw[List.range_succ,List.filter_append,l9_]
   congr 1
   rw[show decide (y<x)=decide (gt0 ((alw t).map λl=>(l.length:Int)) (i:Int)<gt0 ((alw r).map λl=>(l.length:Int)) (i:Int)) by rw[za_ (af_ hx),za_ (af_ hy)]]
   cases hd:decide (gt0 ((alw t).map λl=>(l.length:Int)) (i:Int)<gt0 ((alw r).map λl=>(l.length:Int)) (i:Int))<;>simp[hd]
  rw[hstep]
  cases decide (y<x) with
  | true=>simp only[a5_,cp_ (sm (e7_ hf (by omega))),a0_,bn_ (show Sm i from sm (by omega))]
  | false=>simp only[a4_,a0_,d5_,bn_ (show Sm i from sm (by omega))]
 ·subst hz
  have hlen:((alw r).map λl=>(l.length:Int)).length=r.1.length:=by rw[d6_];exact hn
  exact⟨_,by simp only[hlen,dnl,a4_];rfl,rfl⟩
theorem bc0 (X:List Int) (y:Int):∃ b,ef_ X [y]=some (b,())∧(b=true→X=[y]):=by
 unfold ef_
 match X with
 | []=>exact⟨false,rfl,λh=>by cases h⟩
 | x::x'::t =>
  refine⟨false,?_,λh=>by cases h⟩
  rw[show (((x::x'::t).length:Int) != (([y]:List Int).length:Int))=true from k8_.2 (by simp only[d1_,i6_];omega)]
  rfl
 | [x] =>
  simp only[g5_,e3_,a4_]
  by_cases h:x=y
  ·subst h
   refine⟨true,?_,λ_=>rfl⟩
   refine pa_ 1 (λi=>((i:Int),())) rfl (λi hi => ?_) (by simp only[dnl,a4_];rfl) rfl
   obtain rfl:i=0:=by omega
   simp only[dlt hi,a5_,af_ (show ([x]:List Int)[0]?=some x from rfl),a0_,e3_,a4_]
   rfl
  ·refine⟨false,?_,λh=>by cases h⟩
   refine oz_ (r:=inr (false,())) ?_ rfl
   have e:(x != y)=true:=k8_.2 h
   show (cond (decide ((0:Int)<((1:Nat):Int))) _ _)=_
   rw[show decide ((0:Int)<((1:Nat):Int))=true from rfl,a5_,show at? [x] 0=some x from rfl,a0_,show at? [y] 0=some y from rfl,a0_,e,a5_]
theorem bi1 (hr:GV r) (a:Int×ab_):bk_ r a=some (false,())∨∃ (L:Nat) (l:aa_) (c:List Int) (k:List ab_),a.1=(L:Int)∧r.1[L]?=some l∧Lk l∧r.2.1[L]?=some c∧dd_ l c=true∧r.2.2.1[L]?=some k∧cn_ l a.2=true∧tr a.2 c=true∧bk_ r a=some (true,()):=by
 have n8:=hr.n8
 unfold bk_
 rw[io_,a0_]
 rcases dt_ (l:=r.1) (sm (by omega)) a.1 with ⟨h1,h2⟩ | ⟨L,l,h1,h2,h3,h4⟩
 ·rw[h1]
  exact .inl rfl
 ·rw[h3]
  simp only[a5_]
  obtain⟨g1,c,k,g2,g3,g4,g5,g6⟩:=hr.lk L l h2
  rw[h1,bb8 h2 g1 g2 g3,a0_]
  simp only
  cases ho:cn_ l a.2 with
  | false=>exact .inl rfl
  | true =>
   simp only[a5_]
   cases ht:tr a.2 c with
   | false=>exact .inl rfl
   | true=>exact .inr ⟨L,l,c,k,rfl,h2,g1,g2,g3,g4,ho,ht,rfl⟩
theorem ad9 (hr:GV r) {L:Nat} {l:aa_} {c:List Int} {k:List ab_} {x:ab_} (hl:r.1[L]?=some l) (hc:r.2.1[L]?=some c) (hk:r.2.2.1[L]?=some k) (hk20:k.length<20) (h1:cn_ l x=true) (h2:tr x c=true):GV (mz_ r L k x):=by
 refine⟨hr.n1,hr.n8,hr.c,by show (r.2.2.1.set L _).length=_;rw[e8_];exact hr.k,hr.t,λi l' hl' => ?_⟩
 have hl':r.1[i]?=some l':=hl'
 obtain⟨g1,c',k',g2,g3,g4,g5,g6⟩:=hr.lk i l' hl'
 by_cases e:i=L
 ·subst e
  have hll:r.1[i]?=some l':=hl'
  rw[hl] at hll
  cases hll
  rw[hc] at g2
  cases g2
  rw[hk] at g4
  cases g4
  refine⟨g1,c,k++[x],hc,g3,by show (r.2.2.1.set i _)[i]?=_;rw[c6_,if_pos rfl,if_pos (al_ hk)],by simp;omega,λy hy => ?_⟩
  rcases d9_.1 hy with h | h
  ·exact g6 y h
  ·rw[j4_.1 h];exact⟨h1,h2⟩
 ·exact⟨g1,c',k',g2,g3,by show (r.2.2.1.set L _)[i]?=_;rw[c6_,if_neg (k2_ e)];exact g4,g5,g6⟩
theorem ba4 {L:Nat} {k:List ab_} (hk:r.2.2.1[L]?=some k):di_ r (L:Int)=some (((k.length:Int)==20),()):=by
 unfold di_
 rw[af_ hk]
 rfl
end
end
section
set_option maxRecDepth 10000
theorem rg_ {Y:Type} {X X':Option Y} {Q:Y→Prop} (h:X=X') (k:∃ y,X'=some y∧Q y):∃ y,X=some y∧Q y:=by rw[h];exact k
theorem be6 {α β:Type} {o:Option α} {x:α} {f:α→Option β} {y:Option β} (h:o=some x) (k:f x=y):o.bind f=y:=by rw[h,a0_,k]
section
variable {r:ak_}
theorem am0 {L:Nat} {l:aa_} {k:List ab_} {x:ab_} (hl:r.1[L]?=some l) (hk:r.2.2.1[L]?=some k):(alw (mz_ r L k x))[L]?=some (rdg l (k++[x])) :=
 lt_ (r:=mz_ r L k x) hl (show (r.2.2.1.set L _)[L]?=_ by rw[c6_,if_pos rfl,if_pos (al_ hk)])
theorem bf9 (hr:GV r) {L i:Nat} {k:List ab_} {x:ab_} (h:i≠L) {a:List (List Int)} (ha:(alw r)[i]?=some a):(alw (mz_ r L k x))[i]?=some a:=by
 obtain⟨l,c,k',h1,_,_,_,h5,_,_,rfl⟩:=bg0 hr ha
 exact lt_ (r:=mz_ r L k x) h1 (show (r.2.2.1.set L _)[i]?=_ by rw[c6_,if_neg (k2_ h)];exact h5)
def Good (r:ak_) (a:Int×ab_):Prop:=∃ (L:Nat) (l:aa_) (c:List Int) (k:List ab_),a.1=(L:Int)∧r.1[L]?=some l∧r.2.1[L]?=some c∧r.2.2.1[L]?=some k∧k.length<20∧cn_ l a.2=true∧tr a.2 c=true∧bk_ r a=some (true,())∧big (mz_ r L k a.2)=false∧(rdg l (k++[a.2])).length<(rdg l k).length
theorem bg1 (hr:GV r) (hs:SmRi r) (hb:big r=false) {a:Int×ab_} (hg:a.2.2.2.2.2.2.1.length≤30000) {L:Nat} {l:aa_} {c:List Int} {k:List ab_} (hL:a.1=(L:Int)) (hl:r.1[L]?=some l) (hc:r.2.1[L]?=some c) (hk:r.2.2.1[L]?=some k) (h1:cn_ l a.2=true) (h2:tr a.2 c=true) (hv:bk_ r a=some (true,())) :
  ∃ x b,ff_ r a=some (x,(b,()))∧(b=true→Good r a):=by
 have n8:=hr.n8
 have hk20:k.length≤20:=by
  obtain⟨_,_,k',_,_,g4,g5,_⟩:=hr.lk L l hl
  rw[hk] at g4
  cases g4
  exact g5
 suffices h:∃ y,ff_ r a=some y∧∃ (x:Int) (b:Bool),y=(x,(b,()))∧(b=true→Good r a) by
  obtain⟨y,h,x,b,rfl,h2⟩:=h
  exact⟨x,b,h,h2⟩
 unfold ff_
 rw[mv_ hr,a0_]
 simp only[show ((0:Int) != 0)=false from rfl,a4_]
 refine rg_ (jr_ hr (e:=((0,(false,())):Int×(Bool×Unit))) (λi m l k hm hl hk h1 h2 h3 => ?_) (λm=>by simp only[dnl,a4_]) rfl) ?_
 ·simp only[dlt (al_ hl),a5_,af_ hl,af_ hk,a0_]
  rw[dr_ h1 h2 h3,a0_]
  simp only[show ((0:Int) != 0)=false from rfl,a4_,bn_ (show Sm i from sm (by have:=al_ hl;omega))]
 rw[hb]
 simp only[a4_,gb_]
 refine rg_ (jo_ hr rfl) ?_
 dsimp only
 rw[hv,a0_]
 simp only[e1_,a4_]
 rw[hL,ba4 hk,a0_]
 cases hf:(k.length:Int)==20 with
 | true=>exact⟨_,rfl,0,false,rfl,λh=>by cases h⟩
 | false =>
 have hk2:k.length<20:=by
  have:=h4_.1 hf
  omega
 simp only[a4_]
 rw[ar3 hr hs hL hk hg,a0_]
 have ht:=ad9 hr hl hc hk hk2 h1 h2
 rw[mv_ ht,a0_]
 simp only[show ((0:Int) != 0)=false from rfl,a4_]
 refine rg_ (jr_ ht (e:=((0,(false,())):Int×(Bool×Unit))) (λi m l k hm hl hk h1 h2 h3 => ?_) (λm=>by simp only[dnl,a4_]) rfl) ?_
 ·simp only[dlt (al_ hl),a5_,af_ hl,af_ hk,a0_]
  rw[dr_ h1 h2 h3,a0_]
  simp only[show ((0:Int) != 0)=false from rfl,a4_,bn_ (show Sm i from sm (by have:=al_ hl;have:=ht.n8;omega))]
 cases hbt:big (mz_ r L k a.2) with
 | true=>exact⟨_,rfl,0,false,rfl,λh=>by cases h⟩
 | false =>
 simp only[a4_,gb_]
 refine rg_ (jo_ ht rfl) ?_
 dsimp only
 rw[bp7 hr ht rfl,a0_]
 obtain⟨b,e1,e2⟩:=bc0 (bh3 ((alw r).map λl=>(l.length:Int)) ((alw (mz_ r L k a.2)).map λl=>(l.length:Int)) r.1.length) (L:Int)
 rw[e1,a0_,a0_]
 cases b with
 | false=>exact⟨_,rfl,0,false,rfl,λh=>by cases h⟩
 | true =>
 simp only[e1_,a4_]
 rw[ta_ ht,a0_]
 have hx:((alw (mz_ r L k a.2)).map λl=>(l.length:Int))[L]?=some ((rdg l (k++[a.2])).length:Int):=by rw[c4_,am0 hl hk];rfl
 have hy:((alw r).map λl=>(l.length:Int))[L]?=some ((rdg l k).length:Int):=by rw[c4_,lt_ hl hk];rfl
 rw[af_ hx,a0_,a0_]
 refine⟨_,rfl,_,true,rfl,λ_=>⟨L,l,c,k,hL,hl,hc,hk,hk2,h1,h2,hv,hbt,?_⟩⟩
 have hm:(L:Int) ∈ bh3 ((alw r).map λl=>(l.length:Int)) ((alw (mz_ r L k a.2)).map λl=>(l.length:Int)) r.1.length:=by rw[e2 rfl];exact j4_.2 rfl
 unfold bh3 at hm
 obtain⟨i,hi,ei⟩:=d4_.1 hm
 obtain rfl:i=L:=by omega
 have:=f2_ (e9_.1 hi).2
 rw[za_ (af_ hx),za_ (af_ hy)] at this
 omega
theorem av4 (hr:GV r) (hb:big r=false) {a:Int×ab_} {b:Bool} (hv:bk_ r a=some (b,())):ew_ r [a]=some (cond b 0 70,()):=by
 have n8:=hr.n8
 unfold ew_
 refine be6 (x:=(0,())) ?_ ?_
 ·rw[mv_ hr,a0_]
  simp only[show ((0:Int) != 0)=false from rfl,a4_]
  refine jr_ hr (e:=((2,()):Int×Unit)) (λi m l k hm hl hk h1 h2 h3 => ?_) (λm=>by simp only[dnl,a4_]) ?_
  ·simp only[dlt (al_ hl),a5_,af_ hl,af_ hk,a0_]
   rw[dr_ h1 h2 h3,a0_]
   simp only[show ((0:Int) != 0)=false from rfl,a4_,bn_ (show Sm i from sm (by have:=al_ hl;omega))]
  ·rw[hb]
   simp only[a4_,gb_]
   exact jo_ hr rfl
 ·simp only[show ((0:Int) != 0)=false from rfl,a4_,g5_,show decide ((20:Int)<((1:Nat):Int))=false from rfl]
  refine be6 (x:=(!b,())) ?_ (by cases b<;>rfl)
  cases b with
  | true =>
   refine pa_ 1 (λi=>((i:Int),())) rfl (λi hi => ?_) (by simp only[dnl,a4_];rfl) rfl
   obtain rfl:i=0:=by omega
   simp only[dlt hi,a5_,af_ (show ([a]:List (Int×ab_))[0]?=some a from rfl),a0_,hv,e1_,a4_]
   rfl
  | false =>
   refine oz_ (r:=inr (true,())) ?_ rfl
   simp only[show decide ((0:Int)<((1:Nat):Int))=true from rfl,a5_,show at? [a] 0=some a from rfl,a0_,hv,k4_]
   rfl
theorem ap5 (hr:GV r) (hs:SmRi r) (hb:big r=false) {a:Int×ab_} (hg:a.2.2.2.2.2.2.1.length≤30000):∃ l e,eo_ r [a] a.1=some (l,(e,()))∧(e=0→l≠[]→Good r a):=by
 have n8:=hr.n8
 suffices h:∃ y,eo_ r [a] a.1=some y∧∃ (l:List Int) (e:Int),y=(l,(e,()))∧(e=0→l≠[]→Good r a) by
  obtain⟨y,h,l,e,rfl,h2⟩:=h
  exact⟨l,e,h,h2⟩
 unfold eo_ gt_
 rcases bi1 hr a with hv | ⟨L,l,c,k,hL,hl,_,hc,_,hk,h1,h2,hv⟩
 ·rw[av4 hr hb hv]
  exact⟨_,rfl,[],70,rfl,λh=>by cases h⟩
 ·rw[av4 hr hb hv,a0_]
  simp only[a5_,show ((0:Int) != 0)=false from rfl,a4_]
  rw[hL,io_,a0_,aq1 (by omega) (al_ hl)]
  simp only[e1_,a4_,a0_,show ((0:Int) != 0)=false from rfl]
  obtain⟨x,b,e1,e2⟩:=bg1 hr hs hb hg hL hl hc hk h1 h2 hv
  refine mx_ 1 (λi z=>(i=0∧z=(0,((),(([],()),()))))∨(i=1∧∃ l:List Int,z=(1,((),((l,()),())))∧(l≠[]→Good r a))) (.inl ⟨rfl,rfl⟩) (λi z hi hz => ?_) (λz hz => ?_)
  ·rcases hz with ⟨rfl,rfl⟩ | ⟨rfl,_⟩
   ·simp only[g5_,show decide ((0:Int)<((1:Nat):Int))=true from rfl,a5_,show at? [a] 0=some a from rfl,a0_,hL,e3_,a4_,e1]
    cases b with
    | true =>
     refine⟨(1,((),(([0],()),()))),rfl,.inr ⟨trivial,[0],rfl,λ_=>e2 rfl⟩⟩
    | false=>exact⟨(1,((),(([],()),()))),rfl,.inr ⟨trivial,[],rfl,λh=>absurd rfl h⟩⟩
   ·omega
  ·rcases hz with ⟨h,_⟩ | ⟨_,l,rfl,hg⟩
   ·omega
   ·exact⟨_,by simp only[g5_,show decide ((1:Int)<((1:Nat):Int))=false from rfl,a4_];rfl,_,rfl,l,0,rfl,λ_=>hg⟩
theorem Tell_ok (hr:GV r) (hs:SmRi r) (hb:big r=false) {a:Int×ab_} (hg:a.2.2.2.2.2.2.1.length≤30000) {L:Nat} {l:aa_} {c:List Int} {k:List ab_} (hL:a.1=(L:Int)) (hl:r.1[L]?=some l) (hc:r.2.1[L]?=some c) (hk:r.2.2.1[L]?=some k) (hk2:k.length<20) (h1:cn_ l a.2=true) (h2:tr a.2 c=true) (hv:bk_ r a=some (true,())) (hbt:big (mz_ r L k a.2)=false) :
  iw_ r a=some (mz_ r L k a.2,(0,())):=by
 have n8:=hr.n8
 have ht:=ad9 hr hl hc hk hk2 h1 h2
 unfold iw_
 rw[mv_ hr,a0_]
 simp only[show ((0:Int) != 0)=false from rfl,a4_]
 refine jr_ hr (e:=((eR,(2,())):ak_×(Int×Unit))) (λi m l k hm hl hk h1 h2 h3 => ?_) (λm=>by simp only[dnl,a4_]) ?_
 ·simp only[dlt (al_ hl),a5_,af_ hl,af_ hk,a0_]
  rw[dr_ h1 h2 h3,a0_]
  simp only[show ((0:Int) != 0)=false from rfl,a4_,bn_ (show Sm i from sm (by have:=al_ hl;omega))]
 rw[hb]
 simp only[a4_,gb_]
 refine jo_ hr ?_
 rw[hv,a0_]
 simp only[e1_,a4_]
 rw[hL,ba4 hk,a0_,show ((k.length:Int)==20)=false from h4_.2 (by omega)]
 simp only[a4_]
 rw[ar3 hr hs hL hk hg,a0_,mv_ ht,a0_]
 simp only[show ((0:Int) != 0)=false from rfl,a4_]
 refine jr_ ht (e:=((eR,(2,())):ak_×(Int×Unit))) (λi m l k hm hl hk h1 h2 h3 => ?_) (λm=>by simp only[dnl,a4_]) ?_
 ·simp only[dlt (al_ hl),a5_,af_ hl,af_ hk,a0_]
  rw[dr_ h1 h2 h3,a0_]
  simp only[show ((0:Int) != 0)=false from rfl,a4_,bn_ (show Sm i from sm (by have:=al_ hl;have:=ht.n8;omega))]
 rw[hbt]
 simp only[a4_,gb_]
 exact jo_ ht rfl
end
end
section
set_option maxRecDepth 10000
theorem copy_VP {g:ac_} (hg:SmG g) (h0:cy_ g=0) {p:ag_} (hv:VP g p):bv_ p=some (p,()):=by
 have hn:=hg.nt
 have hrd:=hv.rd
 obtain⟨m1,m2,m3⟩:=tv_ hg.room (ep_ (dy_ h0).room) hv.st
 unfold bv_
 rw[rx_ m1 m2 m3,a0_,aq_ (sm (by omega)),a0_]
noncomputable def rdgX (a0:ac_) (a1:ag_) (a2:Int):Option (Int×(Int×Unit)) :=
 ((da_ a0 a1 a2).bind λv0 =>
 (cond (v0.1 != 0)
 (some (0,(v0.1,())))
 ((cj_ a0 a1).bind λv1 =>
 (cond (v1.1 != 0)
 none
 ((push? (α:=Bool) [] a1.2).bind λv2 =>
 ((ae_ (abB a0 v2 a2) ([],([],(0,())))).bind λv11 =>
 ((at? a0.2.1 a2).bind λv12 =>
 ((ax_ v12 v11.2.1).bind λv13 =>
 (some (v13.1,(v13.2.1,())))))))))))
theorem rdgX_eq:gg_=rdgX:=by kernel_rfl
theorem oj_ {g:ac_} (hg:SmG g) (h0:cy_ g=0) {p:ag_} (hv:VP g p) {q:Nat} {l:aa_} (hl:g.2.1[q]?=some l):gg_ g p (q:Int)=some (rdC g p.2 (q:Int) l,(0,())):=by
 have ok:=dy_ h0
 have hn:=hg.nt
 have hrd:=hv.rd
 rw[rdgX_eq]
 unfold rdgX
 rw[kv_ hg h0 hv (al_ hl),a0_]
 simp only[show ((0:Int) != 0)=false from rfl,a4_]
 rw[nl_ hg h0 hv,a0_]
 simp only[show ((0:Int) != 0)=false from rfl,a4_]
 rw[aq_ (sm (by omega)),a0_]
 obtain⟨x,e⟩:=ae7 hg hv.rd (q:Int)
 rw[e,a0_,af_ hl,a0_]
 simp only
 rw[tb_ hg ok p.2 (by omega) (af_ hl),a0_]
abbrev hiS (i:Nat) (p:ag_):Int×(((List Int)×((List Int)×((List Int)×((List Bool)×Unit))))×Unit):=((i:Int),((p.1.1,(p.1.2.1,(p.1.2.2,(p.2,())))),()))
theorem zs_ (hc:cs_=some (true,())) (g:ac_) (ms:List ay_) (a:Int×ab_):gf_ g ms a=some (true,()):=by
 obtain⟨bf,e,hb⟩:=ay3 g
 unfold gf_
 rw[e,a0_]
 cases bf with
 | true=>simp only[a5_,a0_,hc]
 | false =>
 have hg:=hb rfl
 simp only[a4_]
 cases hms:decide (20<(ms.length:Int)) with
 | true=>simp only[a5_,a0_,hc]
 | false =>
 have hms:=c9_ hms
 simp only[a4_]
 cases hag:decide (10<(a.2.2.2.2.2.2.1.length:Int)) with
 | true=>simp only[a5_,a0_,hc]
 | false =>
 have hag:=c9_ hag
 have hga:a.2.2.2.2.2.2.1.length≤30000:=by omega
 simp only[a0_,a4_]
 rw[an6 hg,a0_]
 simp only
 rw[ac6 hg,a0_]
 cases hbe:(begP g).2.1 != 0 with
 | true=>simp only[a5_,hc,a0_]
 | false =>
 obtain⟨h0,hv0⟩:=begP_VP hg (by simpa using hbe)
 have ok:=dy_ h0
 have n8:=ok.n8
 simp only[a4_]
 refine fk_ ms.length (λi z=>∃ p,z=hiS i p∧VP g p) ⟨(begP g).1,rfl,hv0⟩ (λi z hi hz => ?_) (λz hz => ?_)
 ·obtain⟨p,rfl,hv⟩:=hz
  obtain⟨m,hm⟩:=bl_ hi
  simp only[dlt hi,a5_,af_ hm,a0_]
  rw[show (((p.1.1,(p.1.2.1,p.1.2.2)),p.2):ag_)=p from rfl,av7 hg h0 hv,a0_]
  cases hq:stepP g p m with
  | none =>
   simp only[Option.elim_none,show ((29:Int)==0)=false from rfl,a4_,a0_,bn_ (show Sm i from sm (by omega))]
   exact⟨_,rfl,p,rfl,hv⟩
  | some q =>
   simp only[Option.elim_some,c7_,a5_,a0_,bn_ (show Sm i from sm (by omega))]
   exact⟨_,rfl,q,rfl,bj5 hg h0 hv hq⟩
 ·obtain⟨p,rfl,hv⟩:=hz
  refine⟨_,by simp only[dnl,a4_];rfl,?_⟩
  have hcp:bv_ ((p.1.1,(p.1.2.1,p.1.2.2)),p.2)=some (p,()):=copy_VP hg h0 hv
  simp only
  rw[hcp,a0_,ao7 hg,a0_]
  by_cases hn:1≤g.2.1.length
  ·rw[frm_ok h0 hv hn]
   have hr:=gv_ridl hg h0 p.2 hn
   have hs:=frm_sm hg p.2
   have hal:=ko_ hr
   have hal:(alw (tn_ g p.2)).length=g.2.1.length:=hal
   rw[show ((g.2.1.length:Int)==0)=false from h4_.2 (by omega)]
   simp only[a4_,e3_,a0_]
   rw[ne_ (by omega) (by omega),a0_,b9_]
   have hposs:∀ (i:Nat) x,(alw (tn_ g p.2))[i]?=some x→db_ (g.2.1,(g.2.2.1,(knw g p.2,[]))) (i:Int)=some (cond (big (tn_ g p.2)) ([],(2,())) (x,(0,()))):=λi x hx=>sb_ hr hx
   cases hbig:big (tn_ g p.2) with
   | true =>
    refine oz_ (r:=inr (true,())) ?_ rfl
    obtain⟨x,hx⟩:=bl_ (l:=alw (tn_ g p.2)) (i:=0) (by omega)
    obtain⟨l,hl⟩:=bl_ (l:=g.2.1) (i:=0) (by omega)
    have h1:=hposs 0 x hx
    rw[hbig,a5_] at h1
    have h2:=oj_ hg h0 hv hl
    simp only[b7_ (show (0:Int)<(g.2.1.length:Int) by omega),a5_]
    rw[show (0:Int)=((0:Nat):Int) from rfl,h1,a0_,h2,a0_]
    simp only[c7_,a5_,hc,a0_]
   | false =>
    have hlen:((alw (tn_ g p.2)).map λl=>(l.length:Int)).length=g.2.1.length:=by rw[d6_];exact hal
    refine fk_ g.2.1.length (λi z=>z=((i:Int),(((alw (tn_ g p.2)).map λl=>(l.length:Int)).take i++List.replicate (g.2.1.length - i) 0,()))) (by simp) (λi z hi hz => ?_) (λz hz => ?_)
    ·subst hz
     obtain⟨x,hx⟩:=bl_ (l:=alw (tn_ g p.2)) (i:=i) (by omega)
     obtain⟨l,hl⟩:=bl_ hi
     have hxl:x=rdg l (zk_ g p.2 (i:Int)):=by
      rw[bs0 hl] at hx
      exact (a8_ hx).symm
     have h1:=hposs i x hx
     rw[hbig,a4_] at h1
     have h2:=oj_ hg h0 hv hl
     obtain⟨m,hm⟩:∃ m,g.2.1.length - i=m+1:=⟨g.2.1.length - i - 1,by omega⟩
     have hpl:(((alw (tn_ g p.2)).map λl=>(l.length:Int)).take i).length=i:=by rw[c0_];omega
     have hat:∀ m:Nat,(((alw (tn_ g p.2)).map λl=>(l.length:Int)).take i++(0:Int)::List.replicate m 0)[i]?=some (0:Int):=λm=>by
      rw[b3_ (by omega),hpl,e5_];rfl
     have hset:∀ (m:Nat) (y:Int),(((alw (tn_ g p.2)).map λl=>(l.length:Int)).take i++(0:Int)::List.replicate m 0).set i y=((alw (tn_ g p.2)).map λl=>(l.length:Int)).take i++y::List.replicate m 0:=λm y=>by
      rw[h6_ _ _ (by omega),hpl,e5_];rfl
     have hmx:((alw (tn_ g p.2)).map λl=>(l.length:Int))[i]?=some (x.length:Int):=by rw[c4_,hx];rfl
     refine⟨_,?_,rfl⟩
     simp only[dlt hi,a5_]
     rw[h1,a0_,h2,a0_]
     unfold rdC
     rw[← hxl,hm,f7_]
     simp only[show ((0:Int)==2)=false from rfl,a4_,e3_,a0_,af_ (hat m),b9_,hset,bn_ (show Sm i from sm (by omega))]
     rw[dc_ hmx,show g.2.1.length - (i+1)=m by omega,b0_]
     rfl
    ·subst hz
     refine⟨_,by simp only[dnl,a4_];rfl,?_⟩
     simp only[gb_]
     rw[e5_,k7_,d5_,d8_ (by omega)]
     obtain⟨al,e,h1,h2⟩:=ap5 hr hs hbig hga
     rw[h1,a0_]
     cases he:e != 0 with
     | true=>simp only[a5_,a0_,hc]
     | false =>
     simp only[a4_]
     cases hl0:(al.length:Int)==0 with
     | true=>simp only[a0_,a5_,hc]
     | false =>
     obtain⟨L,l,c,k,hL,hl,hcL,hk,hk2,g1,g2,hval,hbt,hlt⟩:=h2 (by simpa using he) (λh=>by rw[h] at hl0;simp at hl0)
     have ht:=ad9 hr hl hcL hk hk2 g1 g2
     have hLn:L<g.2.1.length:=al_ (l:=g.2.1) hl
     simp only[a0_,a4_]
     rw[Tell_ok hr hs hbig hga hL hl hcL hk hk2 g1 g2 hval hbt,a0_]
     simp only[e3_,a4_,hL,c3_ (show ¬ (L:Int)<0 by omega),hlen,c3_ (show ¬ (g.2.1.length:Int)≤(L:Int) by omega),a0_]
     have htl:(alw (mz_ (tn_ g p.2) L k a.2)).length=g.2.1.length:=ko_ ht
     refine pa_ g.2.1.length (λi=>((i:Int),())) rfl (λi hi => ?_) (by simp only[dnl,a4_];rfl) (by simp only[gb_,hc,a0_])
     obtain⟨x,hx⟩:=bl_ (l:=alw (tn_ g p.2)) (i:=i) (by omega)
     obtain⟨y,hy⟩:=bl_ (l:=alw (mz_ (tn_ g p.2) L k a.2)) (i:=i) (by omega)
     obtain⟨p1,p2⟩:=ae6 ht hy
     have hmx:((alw (tn_ g p.2)).map λl=>(l.length:Int))[i]?=some (x.length:Int):=by rw[c4_,hx];rfl
     simp only[dlt hi,a5_]
     rw[sb_ ht hy,hbt,a4_,a0_]
     simp only[e3_,a4_,c3_ (show ¬ (y.length:Int)<1 by omega),af_ hmx,a0_]
     by_cases hiL:i=L
     ·subst hiL
      rw[lt_ hl hk] at hx
      cases hx
      rw[am0 hl hk] at hy
      cases hy
      simp only[c7_,a5_,c3_ (show ¬ ((rdg l k).length:Int)≤((rdg l (k++[a.2])).length:Int) by omega),a4_,e3_,a0_,bn_ (show Sm i from sm (by omega))]
     ·rw[bf9 hr hiL hx] at hy
      cases hy
      simp only[h4_.2 (show (i:Int)≠(L:Int) by omega),a4_,k8_.2 (show (i:Int)≠(L:Int) by omega),a5_,e3_,a0_,bn_ (show Sm i from sm (by omega))]
  ·have hz:g.2.1.length=0:=by omega
   have:frm g p=(eR,(70,())):=by
    unfold frm
    rw[VP_pk h0 hv,hz]
    rfl
   rw[this,hz]
   simp only[show (((0:Nat):Int)==0)=true from rfl,a5_,c7_,hc,a0_]
end
section
set_option maxRecDepth 100000
def exC:ab_:=(2,(0,(1,(4,(0,([],false))))))
theorem exC_len:((rdg (2,4) [exC]).length:Int)=3:=by kernel_rfl
theorem am7:cs_=some (true,()):=by
 unfold cs_
 have h:=dr_ (l:=((2,4):aa_)) (cl:=[exC]) (kx_.1 (by kernel_rfl)) (by show 1≤20;omega) (λc hc=>by rw[j4_.1 hc];kernel_rfl)
 rw[exC_len] at h
 refine e2_ (congrArg (λo=>Option.bind o _) h) ?_
 rfl
theorem top_TopHinted (g:ac_) (ms:List ay_) (a:Int×ab_):gf_ g ms a=some (true,()):=zs_ am7 g ms a
end
end Go.Proofs.YtlbfbdbagohinaaGreatDoor.Rx
