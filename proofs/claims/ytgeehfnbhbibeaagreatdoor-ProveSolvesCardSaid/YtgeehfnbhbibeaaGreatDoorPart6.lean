/- A part of the proof: what the functions of the program compute, shown over the model. -/
import Derived.KernelRfl
import Derived.Test.YtgeehfnbhbibeaaGreatDoorPart3
import Derived.Test.YtgeehfnbhbibeaaGreatDoorPart5
set_option linter.unusedSectionVars false
set_option linter.unusedVariables false
set_option linter.unusedSimpArgs false
namespace Go.Proofs.YtgeehfnbhbibeaaGreatDoor.Rx
open Go Pad Rex Sum
section
set_option maxRecDepth 10000
theorem cr4 (a b:List Int):nb_ (a++b)=nb_ a+nb_ b:=by unfold nb_;rw[List.countP_append]
theorem by7 {a:List Int} {i:Nat} {v:Int} (h:a[i]?=some v):nb_ (a.take (i+1))=nb_ (a.take i)+(if v<0 then 1 else 0):=by
 rw[d9_,h,cr4,show (some v).toList=[v] from rfl,bz0,show nb_ []=0 from rfl,b0_]
theorem cx1 {g:ad_} {ps:List aa_} {es:List (List ab_)} {near:List Int} (h1:∀ x ∈ near,∃ j:Nat,x=(j:Int)∧j<ps.length∧ts_ g ps j=true) (h2:∀ j:Nat,j<ps.length→ts_ g ps j=true→(j:Int) ∈ near) (h3:near.length+nb_ (ya_ g ps)=ps.length) :
  BI es (ts_ g ps) ps.length near (ya_ g ps):=by
 have hl:(ya_ g ps).length=ps.length:=d6_ _
 have hg:∀ x ∈ near,at? (ya_ g ps) x=some 0:=λx hx=>by
  obtain⟨j,rfl,hj,hf⟩:=h1 x hx
  obtain⟨v,hv⟩:=bd_ (l:=ya_ g ps) (i:=j) (by omega)
  rcases ri_ hv with ⟨rfl,_⟩ | ⟨rfl,hf2⟩
  ·exact ah_ hv
  ·rw[hf] at hf2;cases hf2
 have hle:∀ (i:Nat) (v:Int),(ya_ g ps)[i]?=some v→-1≤v∧v≤0:=λi v hv=>by
  rcases ri_ hv with ⟨rfl,_⟩ | ⟨rfl,_⟩<;>omega
 refine⟨hl,λi v hv=>(hle i v hv).1,λi v hv => ?_,λi k hk => ?_,λx hx=>⟨0,hg x hx,n0_ _⟩,?_,λx hx i v hv => ?_,λi l x k hl hxl hat hnn => ?_,λi v hv => ?_,by omega⟩
 ·rcases ri_ hv with ⟨rfl,h⟩ | ⟨rfl,h⟩
  ·exact⟨λ_=>h,λ_=>rfl⟩
  ·rw[h]
   exact⟨λe=>by omega,λe=>by cases e⟩
 ·have:=hle i _ hk
  omega
 ·refine List.pairwise_of_forall_mem_list (λx hx y hy => ?_)
  rw[mc_ (hg x hx),mc_ (hg y hy)]
  exact n0_ _
 ·rw[mc_ (hg x hx)]
  have:=hle i v hv
  omega
 ·obtain⟨xi,hxi,hxk⟩:=qm_ hat
  have hlt:=am_ hxk
  rcases ri_ hxk with ⟨_,hf⟩ | ⟨e,_⟩
  ·exact absurd (by rw[hxi];exact h2 xi (by omega) hf) hnn
  ·omega
 ·have:=hle i v hv
  have:=by9 (ya_ g ps)
  omega
noncomputable def meaG (rowB:Int→List ab_→(Int×(List (List Int)×Unit))→Option ((Int×(List (List Int)×Unit))⊕(List (List Int)×Unit))) {τ:Type} (a0:ad_) (G:cd_) (K:List Int×Unit→Option τ):Option τ :=
 ((eb_ [(-1)] (G.1.length:Int)).bind λv1 =>
 ((ag_ (ρ:=((List Int)×((List Int)×Unit))) (λ(v2:((List Int)×(Int×((List Int)×Unit)))) =>
 (cond (decide (v2.2.1<(G.1.length:Int)))
 ((((at? G.1 v2.2.1).bind λv3 =>
 ((ig_ a0.1 v3.1).bind λv4 =>
 (((cond (v4.2.1==0)
 (some (v4.1,()))
 (some (false,())))).bind λv5 =>
 (cond v5.1
 ((at? v2.2.2.1 v2.2.1).bind λv6 =>
 ((at? v2.2.2.1 v2.2.1).bind λv7 =>
 ((push? (α:=Int) v2.1 [v2.2.1]).bind λv8 =>
 (some (v8,((v2.2.2.1.set v2.2.1.toNat 0),()))))))
 (some (v2.1,(v2.2.2.1,())))))))).bind λv9 =>
 (some (inl (v9.1,((w64 (v2.2.1+1)),(v9.2.1,()))))))
 (some (inr (v2.1,(v2.2.2.1,())))))) ([],(0,(v1,())))).bind λv10 =>
 ((mk? (α:=(List Int)) (G.1.length:Int) []).bind λv11 =>
 ((ag_ (ρ:=((List (List Int))×Unit)) (λ(v12:(Int×((List (List Int))×Unit))) =>
 (cond (decide (v12.1<(G.2.length:Int)))
 ((at? G.2 v12.1).bind λv13 =>
 ((ag_ (ρ:=((List (List Int))×Unit)) (rowB v12.1 v13) (0,(v12.2.1,()))).bind λv22 =>
 (some (inl ((w64 (v12.1+1)),(v22.1,()))))))
 (some (inr (v12.2.1,()))))) (0,(v11,()))).bind λv23 =>
 ((ag_ (ρ:=((List Int)×Unit)) (λ(v24:((List Int)×((List Int)×Unit))) =>
 (cond (decide (0<(v24.1.length:Int)))
 ((at? v24.1 0).bind λv25 =>
 ((at? v24.1 0).bind λv26 =>
 ((sub? v24.1 1 (v24.1.length:Int)).bind λv27 =>
 ((at? v23.1 v26).bind λv28 =>
 ((ag_ (ρ:=((List Int)×((List Int)×Unit))) (λ(v29:((List Int)×(Int×((List Int)×Unit)))) =>
 (cond (decide (v29.2.1<(v28.length:Int)))
 ((((at? v28 v29.2.1).bind λv30 =>
 ((at? v29.2.2.1 v30).bind λv31 =>
 ((at? v29.2.2.1 v30).bind λv32 =>
 (cond (decide (v32<0))
 ((at? v29.2.2.1 v26).bind λv33 =>
 ((at? v29.2.2.1 v26).bind λv34 =>
 ((at? v29.2.2.1 v30).bind λv35 =>
 ((at? v29.2.2.1 v30).bind λv36 =>
 ((push? (α:=Int) v29.1 [v30]).bind λv37 =>
 (some (v37,((v29.2.2.1.set v30.toNat (w64 (v34+1))),()))))))))
 (some (v29.1,(v29.2.2.1,())))))))).bind λv38 =>
 (some (inl (v38.1,((w64 (v29.2.1+1)),(v38.2.1,()))))))
 (some (inr (v29.1,(v29.2.2.1,())))))) (v27,(0,(v24.2.1,())))).bind λv39 =>
 (some (inl (v39.1,(v39.2.1,())))))))))
 (some (inr (v24.2.1,()))))) (v10.1,(v10.2.1,()))).bind λv40 =>
 (K v40))))))
def rowE (i:Int) (row:List ab_):(Int×(List (List Int)×Unit))→Option ((Int×(List (List Int)×Unit))⊕(List (List Int)×Unit)) :=
 (λ(v14:(Int×((List (List Int))×Unit))) =>
 (cond (decide (v14.1<(row.length:Int)))
 ((((at? row v14.1).bind λv15 =>
 ((at? v14.2.1 v15.2).bind λv16 =>
 ((at? v14.2.1 v15.2).bind λv17 =>
 ((push? (α:=Int) v17 [i]).bind λv18 =>
 ((at? v14.2.1 v15.2).bind λv19 =>
 (cond ((v15.2==v15.2)&&true)
 ((at? v14.2.1 v15.2).bind λv20 =>
 (some ((v14.2.1.set v15.2.toNat v18),())))
 none))))))).bind λv21 =>
 (some (inl ((w64 (v14.1+1)),(v21.1,())))))
 (some (inr (v14.2.1,())))))
noncomputable abbrev meaK {τ:Type} (a0:ad_) (G:cd_) (K:List Int×Unit→Option τ):Option τ:=meaG rowE a0 G K
theorem ca2 (rowB:Int→List ab_→(Int×(List (List Int)×Unit))→Option ((Int×(List (List Int)×Unit))⊕(List (List Int)×Unit))) {τ:Type} (a0:ad_) (G:cd_) (K:List Int×Unit→Option τ):meaG rowB a0 G K=(meaG rowB a0 G some).bind K:=by
 unfold meaG
 simp only[Option.bind_assoc,a0_]
def esQ (Q:ab_→Bool) (es:List (List ab_)):List (List ab_):=es.map λl=>l.filter Q
theorem db6 {Q:ab_→Bool} {es:List (List ab_)} {i:Nat} {l:List ab_} (h:es[i]?=some l):(esQ Q es)[i]?=some (l.filter Q):=by
 unfold esQ
 rw[d5_,h]
 rfl
structure RowOk (rowB:Int→List ab_→(Int×(List (List Int)×Unit))→Option ((Int×(List (List Int)×Unit))⊕(List (List Int)×Unit))) (Q:ab_→Bool):Prop where
 st:∀ (i:Int) row (k:Nat) x bk l,row[k]?=some x→at? bk x.2=some l→l.length≤2000000→k≤1000→rowB i row ((k:Int),(bk,()))=some (.inl (((k+1:Nat):Int),(cond (Q x) (bk.set x.2.toNat (l++[i])) bk,())))
 en:∀ (i:Int) row bk,rowB i row ((row.length:Int),(bk,()))=some (.inr (bk,()))
theorem cs2 {rowB} {Q:ab_→Bool} (hR:RowOk rowB Q) {g:ad_} (hg:SmG g) (h0:cn_ g=0) {ps:List aa_} {es:List (List ab_)} (hG:GI g ps es) (hes:es.length=ps.length):∃ y,meaG rowB g (ps,es) some=some y∧∃ D,y=(D,())∧(D.length=ps.length∧LC (esQ Q es) (ts_ g ps) D)∧∀ (i:Nat) (v:Int),D[i]?=some v→v≤(ps.length:Int):=by
 have ok:=dn_ h0
 have okr:=br_ ok.room
 have hn:=hG.pI.n
 have hx:∀ l ∈ es,∀ x ∈ l,0≤x.2∧x.2<(ps.length:Int):=λl hl x hx=>(hG.eI l hl x hx).1
 have hesQ:(esQ Q es).length=es.length:=d6_ _
 have hxQ:∀ l ∈ esQ Q es,∀ x ∈ l,0≤x.2∧x.2<(ps.length:Int):=λl hl x hxl=>by
  obtain⟨l',h1,rfl⟩:=d1_.1 hl
  exact hx l' h1 x (c5_.1 hxl).1
 unfold meaG
 simp only
 rw[ck2 (by omega),a0_]
 have hfl:(ya_ g ps).length=ps.length:=d6_ _
 refine ue_ ps.length (λ(i:Nat) (z:List Int×(Int×(List Int×Unit)))=>∃ near far:List Int,z=(near,((i:Int),(far,())))∧far.length=ps.length∧(∀ j:Nat,far[j]?=if j<i then (ya_ g ps)[j]? else (List.replicate ps.length (-1:Int))[j]?)∧(∀ x ∈ near,∃ j:Nat,x=(j:Int)∧j<i∧ts_ g ps j=true)∧(∀ j:Nat,j<i→ts_ g ps j=true→(j:Int) ∈ near)∧near.length+nb_ ((ya_ g ps).take i)=i)
  ⟨[],_,rfl,f4_,(λj=>by simp),(λx hx=>by cases hx),(λj hj=>by omega),rfl⟩ (λi z hi hz => ?_) (λz hz => ?_)
 ·obtain⟨near,far,rfl,hl,hj,h1,h2,h3⟩:=hz
  obtain⟨p,hp⟩:=bd_ hi
  obtain⟨v,hv⟩:=bd_ (l:=far) (i:=i) (by omega)
  have hv1:v = -1:=by
   rw[hj,if_neg (by omega),i2_,if_pos hi] at hv
   exact (a6_ hv).symm
  have hf0:(ya_ g ps)[i]?=some (cond (dp_ p.1.1 g.1.2.2.2.2.2.2.2) 0 (-1)):=by
   unfold ya_
   rw[d5_,hp]
   rfl
  have hfp:=ce7 (g:=g) hp
  have hnt:=by7 hf0
  simp only[dlt hi,a5_,ah_ hp,ah_ hv,a0_,bt2 hg.room ok.room (hG.pI.v p (ax_ hp)).st,show ((0:Int)==0)=true from rfl,b9_,az_ (show Sm i by show _≤1000000000;omega),ci_ (show Sm near.length by show _≤1000000000;omega)]
  cases hc:dp_ p.1.1 g.1.2.2.2.2.2.2.2 with
  | true =>
   rw[hc] at hf0 hfp hnt
   refine⟨_,rfl,near++[(i:Int)],far.set i 0,rfl,by rw[f3_,hl],λj => ?_,λx hx => ?_,λj hj hf => ?_,?_⟩
   ·rcases o2_ j i with hji | hji | hji
    ·rw[b3_ (by omega),hj,if_pos hji,if_pos (by omega)]
    ·subst hji
     rw[e2_ (by omega),if_pos (by omega),hf0]
     rfl
    ·rw[b3_ (by omega),hj,if_neg (by omega),if_neg (by omega)]
   ·rcases b6_.1 hx with hx | hx
    ·obtain⟨j,a,b,c⟩:=h1 x hx
     exact⟨j,a,by omega,c⟩
    ·rw[e7_] at hx
     exact⟨i,hx,by omega,hfp⟩
   ·rcases l6_ j i with hji | hji
    ·exact o8_ _ (h2 j hji hf)
    ·obtain rfl:j=i:=by omega
     exact o4_ _ (e7_.2 rfl)
   ·rw[a8_,e0_,hnt]
    show _+1+(_+if (0:Int)<0 then 1 else 0)=i+1
    rw[if_neg (by omega)]
    omega
  | false =>
   rw[hc] at hf0 hfp hnt
   refine⟨_,rfl,near,far,rfl,hl,λj => ?_,λx hx => ?_,λj hj hf => ?_,?_⟩
   ·rcases o2_ j i with hji | hji | hji
    ·rw[hj,if_pos hji,if_pos (by omega)]
    ·subst hji
     rw[hv,if_pos (by omega),hf0,hv1]
     rfl
    ·rw[hj,if_neg (by omega),if_neg (by omega)]
   ·obtain⟨j,a,b,c⟩:=h1 x hx
    exact⟨j,a,by omega,c⟩
   ·rcases l6_ j i with hji | hji
    ·exact h2 j hji hf
    ·obtain rfl:j=i:=by omega
     rw[hfp] at hf
     cases hf
   ·rw[hnt]
    show _+(_+if (-1:Int)<0 then 1 else 0)=i+1
    rw[if_pos (by omega)]
    omega
 ·obtain⟨near,far,rfl,hl,hj,h1,h2,h3⟩:=hz
  have hff:far=ya_ g ps:=f1_ λj=>by
   rw[hj]
   split
   ·rfl
   ·rw[b4_ (by rw[f4_];omega),b4_ (by omega)]
  subst hff
  rw[g8_ (by omega)] at h3
  refine⟨_,by simp only[dnl,a2_];rfl,?_⟩
  simp only
  rw[sf_ (by omega) (by omega),a0_,b9_]
  refine ue_ es.length (λ(i:Nat) (z:Int×(List (List Int)×Unit))=>∃ bk,z=((i:Int),(bk,()))∧BkI (esQ Q es) ps.length i bk) ⟨_,rfl,f4_,λt l hl => ?_⟩ (λi z hi hz => ?_) (λz hz => ?_)
  ·rw[i2_] at hl
   split at hl
   ·obtain rfl:=a6_ hl
    exact⟨j4_ _,λy=>⟨(λh=>by cases h),λ⟨j,h,_⟩=>by omega⟩⟩
   ·cases hl
  ·obtain⟨bk,rfl,hb1,hb2⟩:=hz
   obtain⟨row,hrow⟩:=bd_ hi
   have hrl:=hG.eL row (ax_ hrow)
   simp only[dlt hi,a5_,ah_ hrow,a0_]
   have:=ue_ (υ:=(Int×(List (List Int)×Unit))⊕(List (List Int)×Unit)) row.length (λ(k:Nat) (z:Int×(List (List Int)×Unit))=>∃ bk',z=((k:Int),(bk',()))∧bk'.length=ps.length∧∀ (t:Nat) l,bk'[t]?=some l→l.length≤i * 480+k∧∀ y:Int,y ∈ l↔((∃ j:Nat,j<i∧y=(j:Int)∧∃ row,(esQ Q es)[j]?=some row∧∃ x ∈ row,x.2=(t:Int))∨(y=(i:Int)∧∃ x ∈ (row.take k).filter Q,x.2=(t:Int))))
    (body:=rowB (i:Int) row) (z0:=(0,(bk,()))) (K:=λv22=>some (inl ((w64 ((i:Int)+1)),(v22.1,())))) (Q:=λy=>∃ z',y=inl z'∧∃ bk,z'=(((i+1:Nat):Int),(bk,()))∧BkI (esQ Q es) ps.length (i+1) bk)
    ⟨bk,rfl,hb1,λt l hl=>⟨(hb2 t l hl).1,λy=>by
     rw[(hb2 t l hl).2 y,l2_,List.filter_nil]
     exact⟨.inl,λh=>h.elim id λ⟨_,x,h,_⟩=>(by cases h)⟩⟩⟩ (λk z hk hz => ?_) (λz hz => ?_)
   ·obtain⟨y,ey,z',rfl,bk2,rfl,hB⟩:=this
    exact⟨_,ey,bk2,rfl,hB⟩
   ·obtain⟨bk',rfl,hb3,hb4⟩:=hz
    obtain⟨x,hxk⟩:=bd_ hk
    obtain⟨x0,x1⟩:=hx row (ax_ hrow) x (ax_ hxk)
    obtain⟨l,hl⟩:=bd_ (l:=bk') (i:=x.2.toNat) (by omega)
    have hat:at? bk' x.2=some l:=by rw[show x.2=((x.2.toNat:Nat):Int) by omega];exact ah_ hl
    obtain⟨q1,q2⟩:=hb4 _ l hl
    refine⟨_,hR.st (i:Int) row k x bk' l hxk hat (by omega) (by omega),_,rfl,by cases Q x<;>simp[hb3],λt l' hl' => ?_⟩
    have htk:∀ y:Int,(∃ e ∈ (row.take (k+1)).filter Q,e.2=y)↔((∃ e ∈ (row.take k).filter Q,e.2=y)∨(Q x=true∧x.2=y)):=λy=>by
     rw[d9_,hxk,n6_]
     constructor
     ·rintro⟨e,he,h⟩
      rcases b6_.1 he with he | he
      ·exact .inl ⟨e,he,h⟩
      ·have h2:=c5_.1 he
       have:e=x:=by simpa using h2.1
       rw[this] at h h2
       exact .inr ⟨h2.2,h⟩
     ·rintro (⟨e,he,h⟩ | ⟨hq,h⟩)
      ·exact⟨e,o8_ _ he,h⟩
      ·exact⟨x,o4_ _ (c5_.2 ⟨by simp,hq⟩),h⟩
    have skip:∀ l',bk'[t]?=some l'→(Q x=true→x.2≠(t:Int))→l'.length≤i * 480+(k+1)∧∀ y:Int,y ∈ l'↔((∃ j:Nat,j<i∧y=(j:Int)∧∃ row,(esQ Q es)[j]?=some row∧∃ x ∈ row,x.2=(t:Int))∨(y=(i:Int)∧∃ x ∈ (row.take (k+1)).filter Q,x.2=(t:Int))):=λl' hl' hne=>by
     obtain⟨r1,r2⟩:=hb4 t l' hl'
     refine⟨by omega,λy => ?_⟩
     rw[r2 y,htk]
     constructor
     ·rintro (h | ⟨h,h'⟩)
      ·exact .inl h
      ·exact .inr ⟨h,.inl h'⟩
     ·rintro (h | ⟨h,h' | ⟨h1,h2⟩⟩)
      ·exact .inl h
      ·exact .inr ⟨h,h'⟩
      ·exact absurd h2 (hne h1)
    cases hQ:Q x with
    | false =>
     rw[hQ] at hl'
     exact skip l' hl' (λe=>by rw[hQ] at e;cases e)
    | true =>
     rw[hQ,a5_] at hl'
     by_cases ht:x.2.toNat=t
     ·rw[ht,e2_ (by omega)] at hl'
      obtain rfl:=a6_ hl'
      rw[ht] at q2
      have hxt:x.2=(t:Int):=by omega
      refine⟨by rw[a8_,e0_];omega,λy => ?_⟩
      rw[b6_,e7_,q2 y,htk]
      constructor
      ·rintro ((h | ⟨h,h'⟩) | h)
       ·exact .inl h
       ·exact .inr ⟨h,.inl h'⟩
       ·exact .inr ⟨h,.inr ⟨hQ,hxt⟩⟩
      ·rintro (h | ⟨h,h' | h'⟩)
       ·exact .inl (.inl h)
       ·exact .inl (.inr ⟨h,h'⟩)
       ·exact .inr h
     ·rw[b3_ ht] at hl'
      exact skip l' hl' (λ_=>by omega)
   ·obtain⟨bk',rfl,hb3,hb4⟩:=hz
    refine⟨_,hR.en (i:Int) row bk',_,rfl,_,rfl,bk',by simp only[az_ (show Sm i by show _≤1000000000;omega)],hb3,λt l hl => ?_⟩
    obtain⟨r1,r2⟩:=hb4 t l hl
    refine⟨by omega,λy => ?_⟩
    rw[r2 y,e1_]
    constructor
    ·rintro (⟨j,a,b⟩ | ⟨h,h'⟩)
     ·exact⟨j,by omega,b⟩
     ·exact⟨i,by omega,h,_,db6 hrow,h'⟩
    ·rintro⟨j,a,b,row',c,d⟩
     rcases l6_ j i with hji | hji
     ·exact .inl ⟨j,hji,b,row',c,d⟩
     ·obtain rfl:j=i:=by omega
      rw[db6 hrow] at c
      obtain rfl:=a6_ c
      exact .inr ⟨b,d⟩
  ·obtain⟨bk,rfl,hB⟩:=hz
   rw[← hesQ] at hB
   refine⟨_,by simp only[dnl,a2_];rfl,?_⟩
   simp only
   refine bn8 (λnear far=>BI (esQ Q es) (ts_ g ps) ps.length near far) (λnear far=>near.length+nb_ far) (λh tl far I => ?_) (λfar I => ?_) (cx1 h1 h2 h3)
   rotate_left
   ·exact⟨_,rfl,_,rfl,far,rfl,⟨I.len,BI_end I⟩,λi v h=>by have:=I.bd i v h;omega⟩
   obtain⟨d,hd,hd0⟩:=I.nr h (e4_ ..)
   obtain⟨hi,hhi,hdi⟩:=qm_ hd
   have hlt:=am_ hdi
   have hIl:=I.len
   have hIm:=I.ms
   have hIb:=I.bd hi d hdi
   obtain⟨bs,hbs⟩:=bd_ (l:=bk) (i:=hi) (by have:=hB.1;omega)
   have hbsl:=(hB.2 hi bs hbs).1
   rw[hesQ] at hbsl
   have hbe:=BkI_all hB hbs
   have hatb:at? bk h=some bs:=by rw[hhi];exact ah_ hbs
   have hat0:at? (h::tl) 0=some h:=rfl
   have hsub:sub? (h::tl) 1 ((h::tl).length:Int)=some tl:=by
    unfold sub?
    rw[if_pos ⟨by omega,by rw[c8_];omega,n0_ _⟩,b9_,e1_]
    rfl
   simp only[show decide ((0:Int)<((h::tl).length:Int))=true from b8_ (by rw[c8_];omega),a5_,hat0,hsub,hatb,a0_]
   refine ue_ bs.length (λ(k:Nat) (z:List Int×(Int×(List Int×Unit)))=>∃ pu far',z=(tl++pu,((k:Int),(far',())))∧AI bs d far k pu far') ⟨[],far,by rw[e9_];rfl,cx2 bs d far⟩ (λk z hk hz => ?_) (λz hz => ?_)
   ·obtain⟨pu,far',rfl,A⟩:=hz
    obtain⟨y,hy⟩:=bd_ hk
    obtain⟨j,hj2,row,hrow,x,hxr,hxe⟩:=(hbe y).1 (ax_ hy)
    have hrow':=am_ hrow
    rw[hesQ] at hrow'
    have hAl:=A.len
    have hAm:=A.ms
    obtain⟨v,hv⟩:=bd_ (l:=far') (i:=j) (by omega)
    have hvy:at? far' y=some v:=by rw[hj2];exact ah_ hv
    have hdh:at? far' h=some d:=by rw[hhi];exact ah_ (A.keep hi d hdi hd0)
    rw[c8_] at hIm
    by_cases hv0:v<0
    ·refine⟨_,?_,pu++[y],_,rfl,AI_add hd0 A hy hvy hv0⟩
     simp only[dlt hk,a5_,ah_ hy,hvy,hdh,a0_,b8_ hv0,ci_ (show Sm (tl++pu).length by rw[a8_];show _≤1000000000;omega),az_ (show Sm k by show _≤1000000000;omega),b1_,er_ (n:=d+1) (by omega) (by omega)]
    ·refine⟨_,?_,pu,far',rfl,AI_skip A hy hvy (by omega)⟩
     simp only[dlt hk,a5_,ah_ hy,hvy,a0_,c2_ hv0,a2_,az_ (show Sm k by show _≤1000000000;omega)]
   ·obtain⟨pu,far',rfl,A⟩:=hz
    refine⟨_,by simp only[dnl,a2_];rfl,_,rfl,_,_,rfl,BI_step (by rw[hesQ,hes]) hxQ I hd (λy=>by rw[hhi];exact hbe y) A,?_⟩
    have:=A.ms
    show (tl++pu).length+nb_ far'<(h::tl).length+nb_ far
    rw[a8_,c8_]
    omega
theorem ca1 {rowB} {Q:ab_→Bool} (hR:RowOk rowB Q) {g:ad_} (hg:SmG g) (h0:cn_ g=0) {ps:List aa_} {es:List (List ab_)} (hG:GI g ps es) (hes:es.length=ps.length):∃ D,(D.length=ps.length∧LC (esQ Q es) (ts_ g ps) D)∧(∀ (i:Nat) (v:Int),D[i]?=some v→v≤(ps.length:Int))∧∀ {τ:Type} (K:List Int×Unit→Option τ),meaG rowB g (ps,es) K=K (D,()):=by
 obtain⟨y,e,D,rfl,h,hb⟩:=cs2 hR hg h0 hG hes
 refine⟨D,h,hb,λK => ?_⟩
 rw[ca2,e,a0_]
theorem rowE_ok:RowOk rowE (λ_=>true):=by
 refine⟨λi row k x bk l hx hl h1 h2 => ?_,λi row bk => ?_⟩
 ·unfold rowE
  simp only[dlt (am_ hx),a5_,ah_ hx,a0_,hl,ci_ (show Sm l.length by show _≤1000000000;omega),d8_,h3_,az_ (show Sm k by show _≤1000000000;omega)]
 ·unfold rowE
  simp only[dnl,a2_]
theorem cu6 (es:List (List ab_)):esQ (λ_=>true) es=es:=by
 unfold esQ
 refine e6_ (m7_ λl hl => ?_) (List.map_id _)
 exact m9_.2 λx hx=>rfl
theorem cz9 {g:ad_} (hg:SmG g) (h0:cn_ g=0) {ps:List aa_} {es:List (List ab_)} (hG:GI g ps es) (hes:es.length=ps.length):∃ D,(D.length=ps.length∧LC es (ts_ g ps) D)∧(∀ (i:Nat) (v:Int),D[i]?=some v→v≤(ps.length:Int))∧∀ {τ:Type} (K:List Int×Unit→Option τ),meaK g (ps,es) K=K (D,()):=by
 have:=ca1 rowE_ok hg h0 hG hes
 rw[cu6] at this
 exact this
end
section
set_option maxRecDepth 10000
theorem ay0 (g:ad_):∃ b,ka_ g=some (b,())∧(b=false→SmG g):=by
  obtain⟨b,e,hb⟩:=cb5 g
  unfold ka_
  rw[e,a0_]
  cases b with
  | true=>exact⟨true,by simp only[a5_,a0_,e],λh=>by cases h⟩
  | false =>
  have hg:=hb rfl
  simp only[a2_]
  rw[wp_ hg,a0_,a0_]
  cases hc:cn_ g != 0 with
  | true=>exact⟨false,by simp only[a5_,e,a0_],λ_=>hg⟩
  | false =>
  simp only[a2_]
  have key:∀ c:Bool,∃ b,(((some (c,()):Option (Bool×Unit))).bind λv4 =>
 (cond v4.1
 (some (true,()))
 ((dl_ g).bind λv5 =>
 (cond (v5.2.1==2)
 (some (true,()))
 (some ((decide (200<(v5.1.1.length:Int))),()))))))=some (b,())∧(b=false→SmG g):=λc=>by
    rw[a0_,mx_ hg,a0_]
    cases c with
    | true=>exact⟨true,rfl,λ_=>hg⟩
    | false =>
      cases hE:(exG g).2.1==2 with
      | true=>exact⟨true,by simp only[a2_,hE,a5_],λ_=>hg⟩
      | false=>exact⟨_,by simp only[a2_,hE];rfl,λ_=>hg⟩
  have one:∀ (c:Bool) (o:Option (Bool×Unit)),(∃ d,o=some (d,()))→∃ d,cond c (some (true,())) o=some (d,()):=λc o h=>by
    cases c with
    | true=>exact⟨true,rfl⟩
    | false=>exact h
  obtain⟨d,hd⟩:=one (decide (4<(g.1.1.length:Int))) _ (one (decide (4<(g.1.2.1.length:Int))) _ (one (decide (3<(g.1.2.2.1.length:Int))) _ (one (decide (2<g.1.2.2.2.2.2.2.1)) _ (one (decide (6<(g.1.2.2.2.2.1.length:Int))) _ (one (decide (4<(g.1.2.2.2.2.2.1.length:Int))) _ (one (decide (5<(g.2.2.2.1.length:Int))) _ ⟨decide (3<(g.2.1.length:Int)),rfl⟩))))))
  rw[hd]
  exact key d
end
section
set_option maxRecDepth 10000
noncomputable def shoX (G:cd_) (v40:List Int×Unit):Option (List af_×(Int×Unit)) :=
 ((at? v40.1 0).bind λv41 =>
 ((at? v40.1 0).bind λv42 =>
 (cond (decide (v42<0))
 (some ([],(50,())))
 ((ag_ (ρ:=(((List af_)×Unit)×Unit)) (λ(v43:(Int×(((List af_)×Unit)×Unit))) =>
 ((at? v40.1 v43.1).bind λv44 =>
 ((at? v40.1 v43.1).bind λv45 =>
 (cond (decide (0<v45))
 ((((at? G.2 v43.1).bind λv46 =>
 ((ag_ (ρ:=(((List Int)×(Unit×(((List af_)×Unit)×Unit)))⊕((List Int)×(((List af_)×Unit)×Unit)))) (λ(v47:(Int×((List Int)×(Unit×(((List af_)×Unit)×Unit))))) =>
 (cond (decide (v47.1<(v46.length:Int)))
 ((at? v46 v47.1).bind λv48 =>
 ((at? v40.1 v48.2).bind λv49 =>
 ((at? v40.1 v48.2).bind λv50 =>
 ((at? v40.1 v43.1).bind λv51 =>
 ((at? v40.1 v43.1).bind λv52 =>
 (cond (v50==(w64 (v52 - 1)))
 ((at? v40.1 v43.1).bind λv53 =>
 ((at? v40.1 v43.1).bind λv54 =>
 (cond (decide (0<v54))
 ((push? (α:=af_) v47.2.2.2.1.1 [v48.1]).bind λv55 =>
 ((at? v47.2.1 0).bind λv56 =>
 (some (inr (inr ((v47.2.1.set (0:Int).toNat v48.2),((v55,()),())))))))
 (some (inl ((w64 (v47.1+1)),(v47.2.1,((),((v47.2.2.2.1.1,()),())))))))))
 (some (inl ((w64 (v47.1+1)),(v47.2.1,((),((v47.2.2.2.1.1,()),()))))))))))))
 (some (inr (inl (v47.2.1,((),((v47.2.2.2.1.1,()),())))))))) (0,([v43.1],((),((v43.2.1.1,()),()))))).bind λv57 =>
 (cj_ v57 (λv58=>(some (v58.1,((v58.2.2.1.1,()),()))))
 (λv59=>(some v59)))))).bind λv60 =>
 ((at? v60.1 0).bind λv61 =>
 (some (inl (v61,((v60.2.1.1,()),()))))))
 (some (inr ((v43.2.1.1,()),()))))))) (0,(([],()),()))).bind λv62 =>
 (some (v62.1.1,(0,())))))))
theorem cn7:dx_=λa0=>(dm_ a0).bind λv0=>cond (v0.2.1 != 0) (cond (v0.2.1 != 0) (some ([],(v0.2.1,()))) none) (meaK a0 v0.1 λv40=>shoX v0.1 v40):=by
 kernel_rfl
def shp (es:List (List ab_)) (D:List Int):Nat→Int→List af_
 | 0,_=>[]
 | k+1,i=>match ((at? es i).getD []).find? (λx=>gi D x.2==(k:Int)) with
  | none=>[]
  | some x=>x.1::shp es D k x.2
theorem br9 (es:List (List ab_)) (D:List Int):∀ k i,(shp es D k i).length≤k
 | 0,_=>c3_ _
 | k+1,i=>by
  unfold shp
  split
  ·exact j4_ _
  ·next x _ =>
   have:=br9 es D k x.2
   rw[c8_]
   omega
theorem td_ {α ρ:Type} {q:α→Bool} {f:α→ρ}:∀ (m:List α) (k:Nat),ge_ (λ_ y=>cond (q y) (some (f y)) none) k m=(m.find? q).map f
 | [],_=>rfl
 | x::m,k=>by
  unfold ge_
  cases hq:q x with
  | true=>rw[n7_ hq];rfl
  | false =>
   rw[m2_ (by rw[hq];decide)]
   exact td_ m (k+1)
theorem ab7 {σ ρ υ:Type} {body:σ→Option (σ⊕ρ)} {s:σ} {r:ρ} {K:ρ→Option υ} {x:Option υ} (h:ag_ body s=some r) (hk:K r=x):(ag_ body s).bind K=x:=by
 rw[h,a0_,hk]
theorem xl_ {σ ρ:Type} (F:Int→List af_→σ) (G:List af_→ρ) {es:List (List ab_)} {fin:Nat→Bool} {D:List Int} (hL:LC es fin D) (hD:D.length≤3000) (hxx:∀ l ∈ es,∀ x ∈ l,0≤x.2∧x.2<(D.length:Int)) {body:σ→Option (σ⊕ρ)}
  (hz:∀ i acc,at? D i=some 0→body (F i acc)=some (.inr (G acc)))
  (hs:∀ (i:Int) (k:Nat) acc row x,at? D i=some ((k+1:Nat):Int)→k≤1000000→acc.length≤1000000→at? es i=some row→row.find? (λx=>gi D x.2==(k:Int))=some x→body (F i acc)=some (.inl (F x.2 (acc++[x.1])))) :
  ∀ (k:Nat) (i:Int) (acc:List af_),at? D i=some (k:Int)→acc.length+k≤1000000→ag_ body (F i acc)=some (G (acc++shp es D k i))
 | 0,i,acc,h,_=>by
  unfold shp
  rw[e9_]
  exact bo_ (hz i acc h)
 | k+1,i,acc,h,hk=>by
  obtain⟨n,rfl,hn⟩:=qm_ h
  obtain⟨l,x,hl,hx,hat⟩:=hL.dn n k hn
  have hatl:at? es (n:Int)=some l:=ah_ hl
  cases hf:l.find? (λx=>gi D x.2==(k:Int)) with
  | none =>
   have:=List.find?_eq_none.1 hf x hx
   rw[mc_ hat] at this
   simp at this
  | some y =>
   have hy:gi D y.2=(k:Int):=by
    have:=List.find?_some hf
    exact f6_.1 this
   obtain⟨y0,y1⟩:=hxx l (ax_ hl) y (List.mem_of_find?_eq_some hf)
   have haty:at? D y.2=some (k:Int):=by rw[ms_ y0 y1,hy]
   have:=xl_ F G hL hD hxx hz hs k y.2 (acc++[y.1]) haty (by rw[a8_,e0_];omega)
   refine bp_ (hs (n:Int) k acc l y h (by omega) (by omega) hatl hf) ?_
   have e:shp es D (k+1) (n:Int)=y.1::shp es D k y.2:=by
    rw[shp,hatl,f7_,hf]
   rw[this,e,b1_]
   rfl
theorem shoX_eq {ps:List aa_} {es:List (List ab_)} {fin:Nat→Bool} {D:List Int} (hL:LC es fin D) (hD:D.length≤3000) (h1:1≤D.length) (hb:∀ (i:Nat) (v:Int),D[i]?=some v→v≤(D.length:Int)) (hes:es.length=D.length) (hel:∀ l ∈ es,l.length≤480) (hxx:∀ l ∈ es,∀ x ∈ l,0≤x.2∧x.2<(D.length:Int)) :
  shoX (ps,es) (D,())=some (cond (decide (gi D 0<0)) ([],(50,())) (shp es D (gi D 0).toNat 0,(0,()))):=by
 unfold shoX
 have h0:at? D 0=some (gi D 0):=ms_ (by omega) (by omega)
 simp only[h0,a0_]
 cases hc:decide (gi D 0<0) with
 | true=>rfl
 | false =>
 have hc:=d2_ hc
 have hle:gi D 0≤(D.length:Int):=by
  obtain⟨i,_,hi⟩:=qm_ h0
  exact hb i _ hi
 simp only[a2_]
 refine ab7 (r:=((shp es D (gi D 0).toNat 0,()),())) ?_ rfl
 refine xl_ (F:=λi acc=>(i,((acc,()),()))) (G:=λacc=>((acc,()),())) hL hD hxx (λi acc h => ?_) (λi k acc row x h hk ha hrow hf => ?_) (gi D 0).toNat 0 [] (by rw[h0];congr 1;omega) (by show 0+_≤_;omega)
 ·simp only[h,a0_]
  rfl
 ·have hrl:row.length≤480:=by
   obtain⟨j,_,hj⟩:=qm_ hrow
   exact hel row (ax_ hj)
  simp only[h,a0_,show decide ((0:Int)<((k+1:Nat):Int))=true from b8_ (by omega),a5_,hrow]
  refine e6_ (congrArg (λo=>Option.bind o _) (bn_ row (λ_ y=>cond (gi D y.2==(k:Int)) (some (inr ([y.2],((acc++[y.1],()),())):((List Int)×(Unit×(((List af_)×Unit)×Unit)))⊕((List Int)×(((List af_)×Unit)×Unit)))) none) (λj=>((j:Int),([i],((),((acc,()),()))))) (r0:=inl ([i],((),((acc,()),())))) (x:=some ([x.2],((acc++[x.1],()),()))) (λj y hy => ?_) ?_ ?_)) ?_
  ·obtain⟨jr,_,hj⟩:=qm_ hrow
   obtain⟨y0,y1⟩:=hxx row (ax_ hj) y (ax_ hy)
   have hjl:=am_ hy
   simp only[dlt hjl,a5_,ah_ hy,ms_ y0 y1,a0_,er_ (n:=((k+1:Nat):Int) - 1) (by omega) (by omega),show ((k+1:Nat):Int) - 1=(k:Int) by omega,er_ (n:=(k:Int)) (by omega) (by omega),az_ (show Sm j by show _≤1000000000;omega),ci_ (show Sm acc.length by show _≤1000000000;omega)]
   cases gi D y.2==(k:Int)<;>rfl
  ·simp only[dnl,a2_]
  ·rw[td_,hf]
   rfl
  ·rfl
theorem ay5 (g:ad_) (p:aa_):∀ (ms:List af_) (e e':List ab_) (ps ps':List aa_),inn g p ms e ps=some (e',ps')→ps.length≤ps'.length
 | [],e,e',ps,ps',h=>by
  unfold inn at h
  obtain⟨_,rfl⟩:=h6_ (a6_ h)
  exact c3_ _
 | m::ms,e,e',ps,ps',h=>by
  unfold inn at h
  cases hw:wh ps ((stepP g p m).getD eP) with
  | some n =>
   simp only[hw] at h
   exact ay5 g p ms _ _ _ _ h
  | none =>
   simp only[hw] at h
   split at h
   ·cases h
   ·have:=ay5 g p ms _ _ _ _ h
    rw[a8_] at this
    omega
theorem bw8 (g:ad_):∀ (n i:Nat) (ps ps':List aa_) (es es':List (List ab_)),out g n i ps es=some (ps',es')→ps.length≤ps'.length
 | 0,i,ps,ps',es,es',h=>by
  unfold out at h
  obtain⟨rfl,_⟩:=h6_ (a6_ h)
  exact c3_ _
 | n+1,i,ps,ps',es,es',h=>by
  unfold out at h
  cases hp:ps[i]? with
  | none =>
   simp only[hp] at h
   obtain⟨rfl,_⟩:=h6_ (a6_ h)
   exact c3_ _
  | some p =>
   simp only[hp] at h
   cases hin:inn g p (pmv g p) [] ps with
   | none=>simp only[hin] at h;cases h
   | some z =>
    simp only[hin] at h
    exact c9_ (ay5 g p _ _ _ _ _ hin) (bw8 g n _ _ _ _ _ h)
theorem cf1 {g:ad_} (he:(exG g).2.1=0):1≤(exG g).1.1.length:=by
 unfold exG at he ⊢
 cases hb:(uw_ g).2.1 != 0 with
 | true =>
  rw[hb] at he
  rw[o0_] at hb
  exact absurd he hb
 | false =>
 rw[hb,a2_] at he
 cases ho:out g 3001 0 [(uw_ g).1] [] with
 | none =>
  rw[ho] at he
  exact absurd (show (2:Int)=0 from he) (by decide)
 | some z=>exact bw8 g _ _ _ _ _ _ ho
theorem wt_ {g:ad_} (hg:SmG g):∃ D,(((exG g).2.1≠0∧dx_ g=some ([],((exG g).2.1,())))∨((exG g).2.1=0∧D.length=(exG g).1.1.length∧LC (exG g).1.2 (ts_ g (exG g).1.1) D∧dx_ g=some (cond (decide (gi D 0<0)) ([],(50,())) (shp (exG g).1.2 D (gi D 0).toNat 0,(0,()))))):=by
 rw[cn7]
 simp only
 rw[sa_ hg,a0_]
 cases hE:(exG g).2.1 != 0 with
 | true =>
  rw[o0_] at hE
  exact⟨[],.inl ⟨hE,rfl⟩⟩
 | false =>
 have hE:(exG g).2.1=0:=by simpa using hE
 obtain⟨h0,hG,hes⟩:=db5 hg hE
 obtain⟨D,h1,hb,h2⟩:=cz9 hg h0 hG hes
 have hpos:=cf1 hE
 have hn:=hG.pI.n
 refine⟨D,.inr ⟨hE,h1.1,h1.2,?_⟩⟩
 simp only[a2_]
 rw[show (exG g).1=((exG g).1.1,(exG g).1.2) from rfl,h2]
 exact shoX_eq h1.2 (by rw[h1.1];exact hn) (by rw[h1.1];exact hpos) (by rw[h1.1];exact hb) (by rw[h1.1];exact hes) hG.eL (λl hl x hx=>by rw[h1.1];exact (hG.eI l hl x hx).1)
def g0:ad_:=(([[104,97,108,108],[118,97,117,108,116]],([([98,111,120],(0,(2,0))),([100,111,111,114],(0,(2,0)))],([([107,101,121],(0,[(0,(1,false))]))],([(0,(1,[(1,(1,false))]))],([([111,112,101,110],(0,(0,([],([],([(0,1)],([],[]))))))),([116,117,114,110],(0,((-1),([0],([],([(1,1)],([0],[])))))))],([],(1,[(1,(1,false))]))))))),([(2,4)],([[3,1]],([([108,101,97,102],(0,(0,([],(2,(0,(1,(4,(0,([],false)))))))))),([98,97,99,107],(0,(0,([(0,(0,false))],(3,(1,(0,(0,(0,([],false)))))))))),([99,97,114,100],(1,((-1),([],(0,(0,(0,(0,(0,([],false))))))))))],1))))
end
section
set_option maxRecDepth 10000
noncomputable def dst (es:List (List ab_)) (fin:Nat→Bool) (n:Nat):List Int:=Classical.epsilon λD=>D.length=n∧LC es fin D
theorem cf9 {es:List (List ab_)} {fin:Nat→Bool} {n:Nat} {D:List Int} (h1:D.length=n) (h2:LC es fin D):dst es fin n=D:=by
 have h:(dst es fin n).length=n∧LC es fin (dst es fin n):=Classical.epsilon_spec (p:=λD:List Int=>D.length=n∧LC es fin D) ⟨D,h1,h2⟩
 exact ak5 h.2 h2 (by omega)
section
variable {g:ad_} (hg:SmG g) (h0:cn_ g=0) {ps:List aa_} {es:List (List ab_)} (hG:GI g ps es) (hes:es.length=ps.length)
include hg h0 hG hes
theorem am4 (act:Int):bz_ g (ps,es) act=some (dst (esF act es) (ts_ g ps) ps.length,()):=by
 obtain⟨D,e,h1,h2⟩:=nn_ hg h0 hG hes act
 rw[e,cf9 h1 h2]
theorem dc1 (act:Int):(dst (esF act es) (ts_ g ps) ps.length).length=ps.length∧LC (esF act es) (ts_ g ps) (dst (esF act es) (ts_ g ps) ps.length):=by
 obtain⟨D,e,h1,h2⟩:=nn_ hg h0 hG hes act
 rw[cf9 h1 h2]
 exact⟨h1,h2⟩
end
def rowQ (Q:ab_→Bool) (i:Int) (row:List ab_) (z:Int×(List (List Int)×Unit)):Option ((Int×(List (List Int)×Unit))⊕(List (List Int)×Unit)):=match at? row z.1 with
 | none=>some (.inr (z.2.1,()))
 | some x=>some (.inl (w64 (z.1+1),(cond (Q x) (z.2.1.set x.2.toNat ((at? z.2.1 x.2).getD []++[i])) z.2.1,())))
theorem rowQ_ok (Q:ab_→Bool):RowOk (rowQ Q) Q:=by
 refine⟨λi row k x bk l hx hl h1 h2 => ?_,λi row bk => ?_⟩
 ·unfold rowQ
  simp only[ah_ hx,hl,f7_,az_ (show Sm k by show _≤1000000000;omega)]
 ·unfold rowQ
  simp only[as2 (c3_ row.length)]
theorem dst_le {g:ad_} (hg:SmG g) (h0:cn_ g=0) {ps:List aa_} {es:List (List ab_)} (hG:GI g ps es) (hes:es.length=ps.length) (act:Int):∀ (i:Nat) (v:Int),(dst (esF act es) (ts_ g ps) ps.length)[i]?=some v→v≤(ps.length:Int):=by
 obtain⟨D,⟨h1,h2⟩,h3,_⟩:=ca1 (rowQ_ok (kp act)) hg h0 hG hes
 rw[show dst (esF act es) (ts_ g ps) ps.length=D from cf9 h1 h2]
 exact h3
theorem rh_ {α:Type} (p q:α→Bool):∀ l:List α,(l.filter p).find? q=l.find? λa=>p a&&q a
 | []=>rfl
 | x::l=>by
  rw[List.filter_cons]
  cases hp:p x with
  | false =>
   rw[if_neg (by decide),rh_ p q l,m2_ (by rw[hp];simp)]
  | true =>
   rw[if_pos rfl]
   cases hq:q x with
   | true=>rw[n7_ hq,n7_ (by rw[hp,hq];rfl)]
   | false=>rw[m2_ (by rw[hq];simp),m2_ (by rw[hp,hq];simp),rh_ p q l]
theorem at_esF {act:Int} {es:List (List ab_)} {i:Int} {row:List ab_} (h:at? (esF act es) i=some row):∃ r0,at? es i=some r0∧row=r0.filter (kp act):=by
 obtain⟨n,rfl,hn⟩:=qm_ h
 unfold esF at hn
 rw[d5_] at hn
 obtain⟨r0,h1,rfl⟩:=f5_.1 hn
 exact⟨r0,ah_ h1,rfl⟩
theorem bl3 {ps:List aa_} {es:List (List ab_)} {fin:Nat→Bool} {D:List Int} {act:Int} (hL:LC (esF act es) fin D) (hD:D.length≤3000) (h1:1≤D.length) (hb:∀ (i:Nat) (v:Int),D[i]?=some v→v≤(D.length:Int)) (hel:∀ l ∈ es,l.length≤480) (hxx:∀ l ∈ es,∀ x ∈ l,0≤x.2∧x.2<(D.length:Int)) :
  iv_ (ps,es) D act=some (cond (decide (gi D 0<0)) ([],(false,())) (shp (esF act es) D (gi D 0).toNat 0,(true,()))):=by
 unfold iv_
 have h0:at? D 0=some (gi D 0):=ms_ (by omega) (by omega)
 simp only[h0,a0_]
 cases hc:decide (gi D 0<0) with
 | true=>rfl
 | false =>
 have hc:=d2_ hc
 have hle:gi D 0≤(D.length:Int):=by
  obtain⟨i,_,hi⟩:=qm_ h0
  exact hb i _ hi
 simp only[a2_]
 refine ab7 (r:=(shp (esF act es) D (gi D 0).toNat 0,())) ?_ rfl
 refine xl_ (F:=λi acc=>(acc,(i,()))) (G:=λacc=>(acc,())) hL hD (λl hl x hx => ?_) (λi acc h => ?_) (λi k acc row x h hk ha hrow hf => ?_) (gi D 0).toNat 0 [] (by rw[h0];congr 1;omega) (by show 0+_≤_;omega)
 ·obtain⟨l',h2,rfl⟩:=cf3 hl
  exact hxx l' h2 x (c5_.1 hx).1
 ·simp only[h,a0_]
  rfl
 ·obtain⟨r0,hr0,rfl⟩:=at_esF hrow
  rw[rh_] at hf
  obtain⟨jr,_,hj⟩:=qm_ hr0
  have hrl:=hel r0 (ax_ hj)
  simp only[h,a0_,show decide ((0:Int)<((k+1:Nat):Int))=true from b8_ (by omega),a5_]
  refine bn_ r0 (λ_ y=>cond (kp act y&&gi D y.2==(k:Int)) (some (acc++[y.1],(y.2,()))) none) (λj=>(acc,(i,((j:Int),())))) (r0:=(acc,(i,()))) (λj y hy => ?_) ?_ ?_
  ·obtain⟨y0,y1⟩:=hxx r0 (ax_ hj) y (ax_ hy)
   have hjl:=am_ hy
   simp only[hr0,a0_,dlt hjl,a5_,ah_ hy,ms_ y0 y1,h,cg0,er_ (n:=((k+1:Nat):Int) - 1) (by omega) (by omega),show ((k+1:Nat):Int) - 1=(k:Int) by omega,er_ (n:=(k:Int)) (by omega) (by omega),az_ (show Sm j by show _≤1000000000;omega),ci_ (show Sm acc.length by show _≤1000000000;omega)]
   cases gi D y.2==(k:Int)<;>cases kp act y<;>rfl
  ·simp only[hr0,a0_,dnl,a2_]
  ·rw[td_,hf]
   rfl
theorem bk6 {l:List af_} (h:Sm l.length):fx_ l l=some (true,()):=by
 unfold fx_
 simp only[k1_,a2_]
 refine nm_ l.length (λi=>((i:Int),())) rfl (λi hi => ?_) (by simp only[dnl,a2_];rfl) rfl
 obtain⟨x,hx⟩:=bd_ hi
 simp only[dlt hi,a5_,ah_ hx,a0_,d8_,h3_,e8_,a2_,az_ (show Sm i by unfold Sm at h ⊢; omega)]
end
section
set_option maxRecDepth 10000
def Pa (es:List (List ab_)):Nat→List ab_→Nat→Prop
 | i,[],j=>i=j
 | i,x::xs,j=>∃ row,es[i]?=some row∧x ∈ row∧∃ n:Nat,x.2=(n:Int)∧Pa es n xs j
theorem wy_ {es:List (List ab_)} {act:Int}:∀ (xs:List ab_) (i j:Nat),Pa es i xs j→(∀ x ∈ xs,kp act x=true)→Pa (esF act es) i xs j
 | [],i,j,h,_=>h
 | x::xs,i,j,h,hk=>by
  obtain⟨row,h1,h2,n,h3,h4⟩:=h
  exact⟨row.filter (kp act),cf4 h1,c5_.2 ⟨h2,hk x (by simp)⟩,n,h3,wy_ xs n j h4 λy hy=>hk y (by simp[hy])⟩
theorem qz_ {es:List (List ab_)} {act:Int}:∀ (xs:List ab_) (i j:Nat),Pa (esF act es) i xs j→Pa es i xs j∧∀ x ∈ xs,kp act x=true
 | [],i,j,h=>⟨h,λx hx=>by simp at hx⟩
 | x::xs,i,j,h=>by
  obtain⟨row,h1,h2,n,h3,h4⟩:=h
  obtain⟨g1,g2⟩:=qz_ xs n j h4
  have h1':(es[i]?).map (λl=>l.filter (kp act))=some row:=by
   rw[← h1]
   unfold esF
   rw[d5_]
  cases hr:es[i]? with
  | none=>rw[hr] at h1';cases h1'
  | some r0 =>
   rw[hr] at h1'
   obtain rfl:r0.filter (kp act)=row:=a6_ h1'
   obtain⟨m1,m2⟩:=c5_.1 h2
   refine⟨⟨r0,hr,m1,n,h3,g1⟩,λy hy => ?_⟩
   rcases d4_.1 hy with rfl | hy
   ·exact m2
   ·exact g2 y hy
def RowI (g:ad_) (p:aa_) (ps:List aa_) (row:List ab_):Prop:=∀ x ∈ row,∃ q n,stepP g p x.1=some q∧x.2=((n:Nat):Int)∧ps[n]?=some q
theorem as5 {g:ad_} {p:aa_} {ps ps':List aa_} {row:List ab_} (h:RowI g p ps row) (hp:∀ (n:Nat) q,ps[n]?=some q→ps'[n]?=some q):RowI g p ps' row:=λx hx=>by
 obtain⟨q,n,h1,h2,h3⟩:=h x hx
 exact⟨q,n,h1,h2,hp n q h3⟩
theorem ay4 {g:ad_} {p:aa_}:∀ (ms:List af_) (e e':List ab_) (ps ps':List aa_),(∀ m ∈ ms,∃ q,stepP g p m=some q)→RowI g p ps e→inn g p ms e ps=some (e',ps') →
  RowI g p ps' e'∧e'.map (·.1)=e.map (·.1)++ms∧∀ (n:Nat) q,ps[n]?=some q→ps'[n]?=some q
 | [],e,e',ps,ps',hm,hr,h=>by
  unfold inn at h
  cases h
  exact⟨hr,by simp,λn q h=>h⟩
 | m::ms,e,e',ps,ps',hm,hr,h=>by
  obtain⟨q,hq⟩:=hm m (by simp)
  unfold inn at h
  rw[hq,f7_] at h
  cases hw:wh ps q with
  | some n =>
   rw[hw] at h
   have hn:=bp4 hw
   obtain⟨h1,h2,h3⟩:=ay4 ms _ e' ps ps' (λx hx=>hm x (by simp[hx])) (λx hx=>by
    rcases b6_.1 hx with hx | hx
    ·exact hr x hx
    ·simp at hx;subst hx;exact⟨q,n,hq,rfl,hn⟩) h
   exact⟨h1,by rw[h2];simp,h3⟩
  | none =>
   rw[hw] at h
   simp only at h
   by_cases hl:ps.length=3000
   ·rw[if_pos hl] at h;cases h
   ·rw[if_neg hl] at h
    have hp:∀ (n:Nat) z,ps[n]?=some z→(ps++[q])[n]?=some z:=λn z hz=>by
     rw[b2_ (a4_.1 hz).1]
     exact hz
    obtain⟨h1,h2,h3⟩:=ay4 ms _ e' _ ps' (λx hx=>hm x (by simp[hx])) (λx hx=>by
     rcases b6_.1 hx with hx | hx
     ·exact as5 hr hp x hx
     ·simp at hx;subst hx;exact⟨q,ps.length,hq,rfl,by simp⟩) h
    exact⟨h1,by rw[h2];simp,λn z hz=>h3 n z (hp n z hz)⟩
def GE (g:ad_) (ps:List aa_) (es:List (List ab_)):Prop:=∀ (i:Nat) row,es[i]?=some row→∃ p,ps[i]?=some p∧row.map (·.1)=pmv g p∧RowI g p ps row
theorem bw7 {g:ad_}:∀ (n i:Nat) (ps ps':List aa_) (es es':List (List ab_)),es.length=i→GE g ps es→out g n i ps es=some (ps',es')→GE g ps' es'∧∀ (k:Nat) q,ps[k]?=some q→ps'[k]?=some q
 | 0,i,ps,ps',es,es',hl,hG,h=>by
  unfold out at h
  cases h
  exact⟨hG,λk q h=>h⟩
 | n+1,i,ps,ps',es,es',hl,hG,h=>by
  unfold out at h
  cases hp:ps[i]? with
  | none =>
   rw[hp] at h
   cases h
   exact⟨hG,λk q h=>h⟩
  | some p =>
   rw[hp] at h
   simp only at h
   cases hi:inn g p (pmv g p) [] ps with
   | none=>rw[hi] at h;cases h
   | some z =>
    obtain⟨e,ps1⟩:=z
    rw[hi] at h
    simp only at h
    obtain⟨h1,h2,h3⟩:=ay4 (pmv g p) [] e ps ps1 (λm hm=>pw_ hm) (λx hx=>by simp at hx) hi
    have hG1:GE g ps1 (es++[e]):=λj row hj=>by
     by_cases hjl:j<es.length
     ·rw[b2_ hjl] at hj
      obtain⟨p',g1,g2,g3⟩:=hG j row hj
      exact⟨p',h3 j p' g1,g2,as5 g3 h3⟩
     ·have hj':j=es.length:=by
       have:=(a4_.1 hj).1
       rw[a8_,e0_] at this
       omega
      subst hj'
      rw[c4_ (c3_ _),j9_] at hj
      obtain rfl:e=row:=a6_ hj
      exact⟨p,h3 _ p (by rw[hl];exact hp),by rw[h2];simp,h1⟩
    obtain⟨k1,k2⟩:=bw7 n (i+1) ps1 ps' (es++[e]) es' (by rw[a8_,e0_,hl]) hG1 h
    exact⟨k1,λk q hq=>k2 k q (h3 k q hq)⟩
theorem exG_GE {g:ad_} (he:(exG g).2.1=0):GE g (exG g).1.1 (exG g).1.2∧(exG g).1.1[0]?=some (uw_ g).1∧(uw_ g).2.1=0:=by
 unfold exG at he ⊢
 cases hb:(uw_ g).2.1 != 0 with
 | true =>
  rw[hb] at he
  have he:(uw_ g).2.1=0:=he
  rw[he] at hb
  cases hb
 | false =>
  rw[hb] at he
  simp only[a2_] at he ⊢
  cases ho:out g 3001 0 [(uw_ g).1] [] with
  | none=>rw[ho] at he;cases he
  | some z =>
   obtain⟨ps,es⟩:=z
   obtain⟨h1,h2⟩:=bw7 3001 0 _ ps [] es rfl (λi row h=>by simp at h) ho
   exact⟨h1,h2 0 _ rfl,by simpa using hb⟩
section
variable {g:ad_} (hg:SmG g) (he:(exG g).2.1=0)
noncomputable def dstG (g:ad_) (act:Int):List Int:=dst (esF act (exG g).1.2) (ts_ g (exG g).1.1) (exG g).1.1.length
structure Gr (g:ad_):Prop where
 h0:cn_ g=0
 gI:GI g (exG g).1.1 (exG g).1.2
 ge:GE g (exG g).1.1 (exG g).1.2
 len:(exG g).1.2.length=(exG g).1.1.length
 n:(exG g).1.1.length≤3000
 pos:1≤(exG g).1.1.length
 p0:(exG g).1.1[0]?=some (uw_ g).1
 e0:(uw_ g).2.1=0
 dl:∀ act,(dstG g act).length=(exG g).1.1.length
 dc:∀ act,LC (esF act (exG g).1.2) (ts_ g (exG g).1.1) (dstG g act)
 db:∀ act (i:Nat) (v:Int),(dstG g act)[i]?=some v→v≤((exG g).1.1.length:Int)
 xx:∀ l ∈ (exG g).1.2,∀ x ∈ l,0≤x.2∧x.2<((exG g).1.1.length:Int)
 al:esF (-1) (exG g).1.2=(exG g).1.2
include hg he
theorem cf2:Gr g:=by
 obtain⟨h0,hG,hes⟩:=db5 hg he
 obtain⟨k1,k2,k3⟩:=exG_GE he
 exact⟨h0,hG,k1,hes,hG.pI.n,cf1 he,k2,k3,λact=>(dc1 hg h0 hG hes act).1,λact=>(dc1 hg h0 hG hes act).2,λact=>dst_le hg h0 hG hes act,λl hl x hx=>(hG.eI l hl x hx).1,esF_all λl hl x hx=>(hG.eI l hl x hx).2⟩
end
theorem Gr.at0 {g:ad_} (h:Gr g) (act:Int):(dstG g act)[0]?=some (gi (dstG g act) 0):=by
 have h1:=h.pos
 have h2:=h.dl act
 have hat:at? (dstG g act) 0=some (gi (dstG g act) 0):=ms_ (by omega) (by omega)
 obtain⟨i,e,hi⟩:=qm_ hat
 obtain rfl:i=0:=by omega
 exact hi
end
section
set_option maxRecDepth 10000
def Rch (es:List (List ab_)) (act:Int) (i:Nat):Prop:=∃ xs,Pa (esF act es) 0 xs i
def Bfo (es:List (List ab_)) (a b:Int):Prop:=∀ (i:Nat) row x,Rch es a i→es[i]?=some row→x ∈ row→kp b x=true
theorem cz0 {es:List (List ab_)} {y:ab_} {zs:List ab_}:∀ (ys:List ab_) (i j:Nat),Pa es i (ys++y::zs) j→∃ k row,Pa es i ys k∧es[k]?=some row∧y ∈ row
 | [],i,j,h=>by
  obtain⟨row,h1,h2,_⟩:=h
  exact⟨i,row,rfl,h1,h2⟩
 | x::ys,i,j,h=>by
  obtain⟨row,h1,h2,n,h3,h4⟩:=h
  obtain⟨k,r,g1,g2,g3⟩:=cz0 ys n j h4
  exact⟨k,r,⟨row,h1,h2,n,h3,g1⟩,g2,g3⟩
theorem Bfo.trans {es:List (List ab_)} {a b c:Int} (h:Bfo es a b) (k:Bfo es b c):Bfo es a c:=by
 intro i row x ⟨xs,hp⟩ hr hx
 obtain⟨p1,p2⟩:=qz_ xs 0 i hp
 by_cases hb:∀ y ∈ xs,kp b y=true
 ·exact k i row x ⟨xs,wy_ xs 0 i p1 hb⟩ hr hx
 ·exfalso
  refine hb λy hy => ?_
  obtain⟨ys,zs,rfl⟩:=List.append_of_mem hy
  obtain⟨j,r,g1,g2,g3⟩:=cz0 ys 0 i p1
  exact h j r y ⟨ys,wy_ ys 0 j g1 λz hz=>p2 z (by simp[hz])⟩ g2 g3
theorem bw5 {es:List (List ab_)} {y:ab_} {n:Nat}:∀ (ys:List ab_) (i k:Nat) (row:List ab_),Pa es i ys k→es[k]?=some row→y ∈ row→y.2=(n:Int)→Pa es i (ys++[y]) n
 | [],i,k,row,h,h1,h2,h3=>by
  obtain rfl:i=k:=h
  exact⟨row,h1,h2,n,h3,rfl⟩
 | x::ys,i,k,row,h,h1,h2,h3=>by
  obtain⟨r,g1,g2,m,g3,g4⟩:=h
  exact⟨r,g1,g2,m,g3,bw5 ys m k row g4 h1 h2 h3⟩
theorem Rch.zero {es:List (List ab_)} {act:Int}:Rch es act 0:=⟨[],rfl⟩
theorem Rch.next {es:List (List ab_)} {act:Int} {i:Nat} {row:List ab_} {x:ab_} {n:Nat} (h:Rch es act i) (h1:es[i]?=some row) (h2:x ∈ row) (h3:kp act x=true) (h4:x.2=(n:Int)):Rch es act n:=by
 obtain⟨xs,hp⟩:=h
 exact⟨xs++[x],bw5 xs 0 i _ hp (cf4 h1) (c5_.2 ⟨h2,h3⟩) h4⟩
theorem Rch.ind {es:List (List ab_)} {act:Int} {Q:Nat→Prop} (h0:Q 0) (hs:∀ (i:Nat) row x (n:Nat),Q i→es[i]?=some row→x ∈ row→kp act x=true→x.2=(n:Int)→Q n) {i:Nat} (h:Rch es act i):Q i:=by
 obtain⟨xs,hp⟩:=h
 obtain⟨p1,p2⟩:=qz_ xs 0 i hp
 have gen:∀ (xs:List ab_) (k:Nat),Q k→Pa es k xs i→(∀ x ∈ xs,kp act x=true)→Q i:=by
  intro xs
  induction xs with
  | nil=>intro k hk hp _;obtain rfl:k=i:=hp;exact hk
  | cons x xs ih =>
   intro k hk hp hx
   obtain⟨row,g1,g2,n,g3,g4⟩:=hp
   exact ih n (hs k row x n hk g1 g2 (hx x (by simp)) g3) g4 λy hy=>hx y (by simp[hy])
 exact gen xs 0 h0 p1 p2
end
section
set_option maxRecDepth 10000
structure MS (m:List (Int×Int)) (s:Nat→Prop):Prop where
 v:∀ e ∈ m,e.2=1∧∃ i:Nat,e.1=(i:Int)∧s i
 i:∀ i,s i→((i:Int),(1:Int)) ∈ m
 nd:(m.map (·.1)).Nodup
theorem af9 {K V:Type} [DecidableEq K] {k:K} {v:V} {e:K×V}:∀ {m:List (K×V)},e ∈ gi_ m k v→e=(k,v)∨e ∈ m
 | [],h=>by
  have h:e ∈ [(k,v)]:=h
  exact .inl (by simpa using h)
 | (a,u)::m,h=>by
  unfold gi_ at h
  by_cases hk:k=a
  ·rw[if_pos hk] at h
   rcases d4_.1 h with h | h
   ·exact .inl (by rw[h,hk])
   ·exact .inr (d7_ _ h)
  ·rw[if_neg hk] at h
   rcases d4_.1 h with h | h
   ·exact .inr (by rw[h];exact e4_ ..)
   ·rcases af9 h with h | h
    ·exact .inl h
    ·exact .inr (d7_ _ h)
theorem be2 {K V:Type} [DecidableEq K] {k:K} {v:V}:∀ {m:List (K×V)},(k,v) ∈ gi_ m k v
 | []=>e4_ ..
 | (a,u)::m=>by
  unfold gi_
  by_cases hk:k=a
  ·rw[if_pos hk,hk];exact e4_ ..
  ·rw[if_neg hk];exact d7_ _ be2
theorem xh_ {K V:Type} [DecidableEq K] {k:K} {v:V} {e:K×V} (hne:e.1≠k):∀ {m:List (K×V)},e ∈ m→e ∈ gi_ m k v
 | (a,u)::m,h=>by
  unfold gi_
  by_cases hk:k=a
  ·rw[if_pos hk]
   rcases d4_.1 h with h | h
   ·exact absurd (by rw[h,hk]) hne
   ·exact d7_ _ h
  ·rw[if_neg hk]
   rcases d4_.1 h with h | h
   ·rw[h];exact e4_ ..
   ·exact d7_ _ (xh_ hne h)
theorem aa0 {K V:Type} [DecidableEq K] {k:K} {v:V}:∀ {m:List (K×V)},(m.map (·.1)).Nodup→((gi_ m k v).map (·.1)).Nodup
 | [],_=>by
  show [k].Nodup
  simp
 | (a,u)::m,h=>by
  unfold gi_
  rw[g7_,g0_] at h
  by_cases hk:k=a
  ·rw[if_pos hk,g7_,g0_]
   exact⟨h.1,h.2⟩
  ·rw[if_neg hk,g7_,g0_]
   refine⟨λhm => ?_,aa0 h.2⟩
   obtain⟨e,he,hea⟩:=d1_.1 hm
   rcases af9 he with h1 | h1
   ·rw[h1] at hea
    exact hk hea
   ·exact h.1 (d1_.2 ⟨e,h1,hea⟩)
theorem ap1 {K V:Type} [DecidableEq K] {k:K} {v:V}:∀ {m:List (K×V)},mget? m k=some v→(k,v) ∈ m
 | [],h=>by cases h
 | (a,u)::m,h=>by
  unfold mget? at h
  by_cases hk:k=a
  ·rw[if_pos hk] at h
   rw[hk,a6_ h];exact e4_ ..
  ·rw[if_neg hk] at h
   exact d7_ _ (ap1 h)
theorem ap2 {K V:Type} [DecidableEq K] {k:K}:∀ {m:List (K×V)},mget? m k=none→∀ v,(k,v) ∉ m
 | [],_,_,h=>by cases h
 | (a,u)::m,h,v,hm=>by
  unfold mget? at h
  by_cases hk:k=a
  ·rw[if_pos hk] at h
   cases h
  ·rw[if_neg hk] at h
   rcases d4_.1 hm with h1 | h1
   ·exact hk (congrArg Prod.fst h1)
   ·exact ap2 h v h1
theorem MS.look {m:List (Int×Int)} {s:Nat→Prop} (h:MS m s) (i:Nat):(s i∧ei_ 0 m (i:Int)=1)∨(¬ s i∧ei_ 0 m (i:Int)=0):=by
 unfold ei_
 cases hg:mget? m (i:Int) with
 | some v =>
  obtain⟨h1,j,h2,h3⟩:=h.v _ (ap1 hg)
  have h1:v=1:=h1
  have h2:(i:Int)=(j:Int):=h2
  obtain rfl:i=j:=by omega
  exact .inl ⟨h3,h1⟩
 | none=>exact .inr ⟨λhs=>ap2 hg 1 (h.i i hs),rfl⟩
theorem MS.set {m:List (Int×Int)} {s:Nat→Prop} (h:MS m s) (i:Nat):MS (gi_ m (i:Int) 1) (λj=>s j∨j=i):=by
 refine⟨λe he => ?_,λj hj => ?_,aa0 h.nd⟩
 ·rcases af9 he with h1 | h1
  ·rw[h1];exact⟨rfl,i,rfl,.inr rfl⟩
  ·obtain⟨h2,j,h3,h4⟩:=h.v e h1
   exact⟨h2,j,h3,.inl h4⟩
 ·by_cases hji:j=i
  ·rw[hji];exact be2
  ·rcases hj with hj | hj
   ·exact xh_ (λh=>hji (by have h:(j:Int)=(i:Int):=h;omega)) (h.i j hj)
   ·exact absurd hj hji
theorem MS.one (i:Nat):MS [((i:Int),(1:Int))] (λj=>j=i) :=
 ⟨λe he=>by
  have:e=((i:Int),(1:Int)):=by simpa using he
  rw[this]
  exact⟨rfl,i,rfl,rfl⟩,λj hj=>by rw[hj];exact e4_ ..,by simp⟩
theorem MS.nil:MS [] (λ_=>False):=⟨λe he=>(by cases he),λj hj=>hj.elim,p3_⟩
theorem oh_ {α β:Type} {f:α→β}:∀ {l:List α},(l.map f).Nodup→l.Nodup
 | [],_=>p3_
 | x::l,h=>by
  rw[g7_,g0_] at h
  exact g0_.2 ⟨λhx=>h.1 (d1_.2 ⟨x,hx,rfl⟩),oh_ h.2⟩
theorem MS.mem {m:List (Int×Int)} {s:Nat→Prop} (h:MS m s) (e:Int×Int):e ∈ m↔e.2=1∧∃ i:Nat,e.1=(i:Int)∧s i :=
 ⟨λhe=>h.v e he,λ⟨h1,i,h2,h3⟩=>by
  have:e=((i:Int),(1:Int)):=by rw[← h1,← h2]
  rw[this]
  exact h.i i h3⟩
theorem MS.perm {m m':List (Int×Int)} {s:Nat→Prop} (h:MS m s) (h':MS m' s):m.Perm m':=by
 refine (p1_ (oh_ h.nd) (oh_ h'.nd)).2 λe => ?_
 rw[h.mem,h'.mem]
theorem cz8:∀ {r0 r:List Bool},r0.length=r.length→(∀ j:Nat,r0[j]?=some true→r[j]?=some true)→r0.count true≤r.count true∧(r.count true≤r0.count true→r=r0)
 | [],[],_,_=>⟨c3_ _,λ_=>rfl⟩
 | [],b::r,h,_=>by cases h
 | a::r0,[],h,_=>by cases h
 | a::r0,b::r,h,hs=>by
  obtain⟨h1,h2⟩:=cz8 (r0:=r0) (r:=r) (by simpa using h) (λj hj=>by
   have:=hs (j+1) (by simpa using hj)
   simpa using this)
  have h0:a=true→b=true:=λha=>by
   have:=hs 0 (by simp[ha])
   simpa using this
  rw[List.count_cons,List.count_cons]
  cases a<;>cases b
  ·simp only[f6_,p2_,h8_,l7_]
   exact⟨h1,λh=>by rw[h2 h]⟩
  ·simp only[f6_,p2_,h8_,l7_,k5_]
   exact⟨by omega,λh=>by omega⟩
  ·exact absurd (h0 rfl) (by simp)
  ·simp only[f6_,k5_]
   exact⟨by omega,λh=>by rw[h2 (by omega)]⟩
def Dn (es:List (List ab_)) (a b:Int) (r:List Bool) (j:Nat):Prop:=∀ row x,es[j]?=some row→x ∈ row→kp b x=true∧(kp a x=true→∃ m:Nat,x.2=(m:Int)∧r[m]?=some true)
theorem bfo_of {es:List (List ab_)} {a b:Int} {r:List Bool} (h0:r[0]?=some true) (h:∀ j,r[j]?=some true→Dn es a b r j):Bfo es a b:=by
 intro i row x hr he hx
 have hi:r[i]?=some true:=hr.ind (Q:=λi=>r[i]?=some true) h0 λi row x n hi he hx hk hn=>by
  obtain⟨m,h1,h2⟩:=(h i hi row x he hx).2 hk
  obtain rfl:m=n:=by omega
  exact h2
 exact (h i hi row x he hx).1
structure Swp (es:List (List ab_)) (a b:Int) (n t:Nat) (r:List Bool):Prop where
 len:r.length=n
 snd:∀ i:Nat,r[i]?=some true→Rch es a i
 z:r[0]?=some true
 ok:Bfo es a b∨t<r.count true
theorem Swp.end {es:List (List ab_)} {a b:Int} {n:Nat} {r:List Bool} (h:Swp es a b n n r):Bfo es a b:=by
 rcases h.ok with h1 | h1
 ·exact h1
 ·have:=List.count_le_length (a:=true) (l:=r)
  have:=h.len
  omega
structure Sw1 (es:List (List ab_)) (a b:Int) (n:Nat) (r0:List Bool) (i:Nat) (r:List Bool):Prop where
 len:r.length=n
 snd:∀ i:Nat,r[i]?=some true→Rch es a i
 sub:∀ j:Nat,r0[j]?=some true→r[j]?=some true
 dn:∀ j<i,r0[j]?=some true→Dn es a b r j
theorem Swp.next {es:List (List ab_)} {a b:Int} {n t:Nat} {r0 r:List Bool} (h:Swp es a b n t r0) (w:Sw1 es a b n r0 n r):Swp es a b n (t+1) r:=by
 refine⟨w.len,w.snd,w.sub 0 h.z,?_⟩
 rcases h.ok with h1 | h1
 ·exact .inl h1
 ·obtain⟨c1,c2⟩:=cz8 (r0:=r0) (r:=r) (by rw[h.len,w.len]) w.sub
  by_cases hc:r.count true≤r0.count true
  ·obtain rfl:=c2 hc
   exact .inl (bfo_of h.z λj hj=>w.dn j (by have:=am_ hj;have:=h.len;omega) hj)
  ·exact .inr (by omega)
theorem Dn.mono {es:List (List ab_)} {a b:Int} {r r':List Bool} (hs:∀ j:Nat,r[j]?=some true→r'[j]?=some true) {j:Nat} (h:Dn es a b r j):Dn es a b r' j:=λrow x he hx=>by
 obtain⟨h1,h2⟩:=h row x he hx
 exact⟨h1,λhk=>by obtain⟨m,h3,h4⟩:=h2 hk;exact⟨m,h3,hs m h4⟩⟩
end
section
set_option maxRecDepth 10000
def stp (es:List (List ab_)) (p:Nat) (s:Nat→Prop):Nat→Prop:=λj=>s j∨∃ (i:Nat) (row:List ab_) (x:ab_),s i∧es[i]?=some row∧x ∈ row∧x.1.1=(p:Int)∧x.2=(j:Int)
def rnd (es:List (List ab_)):Nat→(Nat→Prop)→Nat→Prop
 | 0,s=>s
 | P+1,s=>stp es P (rnd es P s)
end
section
set_option maxRecDepth 100000
def G0:cd_:=([(([0,0],([0],[0])),[true,true,false]),(([1,0],([0],[0])),[true,true,false]),(([1,0],([-2],[0])),[true,true,false]),(([1,1],([-1],[0])),[true,true,false]),(([1,1],([-1],[1])),[true,true,true]),(([1,1],([-1],[0])),[true,true,true])],
 [[((0,(4,0)),1)],[((0,(2,0)),2),((0,(4,0)),1)],[((0,(3,0)),1),((0,(4,0)),2),((0,(4,1)),3)],[((0,(1,0)),4),((0,(4,0)),3)],[((0,(1,0)),5)],[((0,(1,0)),4),((0,(4,0)),5)]])
def D0:List Int:=[3,2,1,0,0,0]
theorem exG_g0:exG g0=(G0,(0,())):=by kernel_rfl
theorem SmG_g0:SmG g0:=by
 refine⟨⟨?_,?_,?_,?_,?_,?_,?_,?_,?_,?_,?_,?_,?_⟩,?_,?_,?_,?_,?_,?_,?_,?_,?_⟩<;>decide
def chkD (es:List (List ab_)) (fin:Nat→Bool) (D:List Int):Bool :=
 (List.range D.length).all λi=>match D[i]? with
  | none=>false
  | some v=>decide (-1≤v)&&((v==0)==fin i)&&match es[i]? with
   | none=>false
   | some l=>(decide (v≤0)||l.any (λx=>at? D x.2==some (v - 1)))&&l.all λx=>match at? D x.2 with
    | none=>true
    | some k=>decide (k<0)||(decide (0≤v)&&decide (v≤k+1))
theorem aj5 {es:List (List ab_)} {fin:Nat→Bool} {D:List Int} (h:chkD es fin D=true) {i:Nat} {v:Int} (hv:D[i]?=some v) :
  -1≤v∧((v==0)=fin i)∧∃ l,es[i]?=some l∧(v≤0∨∃ x ∈ l,at? D x.2=some (v - 1))∧∀ x ∈ l,∀ k,at? D x.2=some k→k<0∨(0≤v∧v≤k+1):=by
 have:=f2_.1 h i (m5_.2 (am_ hv))
 simp only[hv] at this
 rw[a1_,a1_,g9_,f6_] at this
 obtain⟨⟨h1,h2⟩,h3⟩:=this
 refine⟨h1,h2,?_⟩
 cases hl:es[i]? with
 | none=>rw[hl] at h3;cases h3
 | some l =>
  simp only[hl] at h3
  rw[a1_,c6_,g9_,k7_,f2_] at h3
  refine⟨l,rfl,h3.1.imp id λ⟨x,hx,e⟩=>⟨x,hx,f6_.1 e⟩,λx hx k hk => ?_⟩
  have:=h3.2 x hx
  simp only[hk] at this
  rw[c6_,a1_,g9_,g9_,g9_] at this
  exact this
theorem chkD_LC {es:List (List ab_)} {fin:Nat→Bool} {D:List Int} (hes:es.length=D.length) (h:chkD es fin D=true):LC es fin D:=by
 refine⟨λi v hv=>(aj5 h hv).1,λi v hv => ?_,λi k hk => ?_,λi l x k hl hx hat => ?_⟩
 ·rw[← (aj5 h hv).2.1,f6_]
 ·obtain⟨_,_,l,hl,h1,_⟩:=aj5 h hk
  rcases h1 with h1 | ⟨x,hx,e⟩
  ·omega
  ·refine⟨l,x,hl,hx,?_⟩
   rw[e]
   congr 1
   omega
 ·obtain⟨v,hv⟩:=bd_ (l:=D) (i:=i) (by have:=am_ hl;omega)
  obtain⟨_,_,l',hl',_,h2⟩:=aj5 h hv
  rw[hl] at hl'
  obtain rfl:=a6_ hl'
  rcases h2 x hx k hat with h3 | h3
  ·omega
  ·exact⟨v,hv,h3⟩
theorem chk_g0:chkD G0.2 (ts_ g0 G0.1) D0=true:=by kernel_rfl
theorem cw6:dx_ g0=some ([(0,(4,0)),(0,(2,0)),(0,(4,1))],(0,())):=by
 obtain⟨D,h⟩:=wt_ SmG_g0
 rw[exG_g0] at h
 rcases h with ⟨h,_⟩ | ⟨_,h1,h2,h3⟩
 ·exact absurd rfl h
 ·have hD:D=D0:=ak5 h2 (chkD_LC rfl chk_g0) h1
  have e:((cond (decide (gi D0 0<0)) ([],(50,())) (shp G0.2 D0 (gi D0 0).toNat 0,(0,()))):List af_×(Int×Unit))=([(0,(4,0)),(0,(2,0)),(0,(4,1))],(0,())):=by kernel_rfl
  rw[h3,hD]
  exact congrArg some e
theorem xm_:hs_=some (true,()):=by
 unfold hs_
 refine e6_ (congrArg (λo=>Option.bind o _) cw6) ?_
 kernel_rfl
end
section
set_option maxRecDepth 10000

end
section
set_option maxRecDepth 10000
theorem ai8 {σ ρ υ:Type} {body:σ→Option (σ⊕ρ)} {K:ρ→Option υ} {Q:υ→Prop} (I:σ→Prop) (μ:σ→Nat) {z0:σ} (h0:I z0)
  (st:∀ s,I s→∃ y,body s=some y∧((∃ s',y = .inl s'∧I s'∧μ s'<μ s)∨∃ r z,y = .inr r∧K r=some z∧Q z)):∃ z,(ag_ body z0).bind K=some z∧Q z:=by
 have gen:∀ (n:Nat) (s:σ),μ s=n→I s→∃ r,ag_ body s=some r∧∃ z,K r=some z∧Q z:=by
  intro n
  induction n using Nat.strongRecOn with
  | _ n ih =>
   intro s hn hs
   obtain⟨y,hy,⟨s',rfl,h2,h3⟩ | ⟨r,z,rfl,h2,h3⟩⟩:=st s hs
   ·obtain⟨r,g1,g2⟩:=ih (μ s') (by omega) s' rfl h2
    exact⟨r,(pf_ hy).trans g1,g2⟩
   ·exact⟨r,bo_ hy,z,h2,h3⟩
 obtain⟨r,h1,z,h2,h3⟩:=gen _ z0 rfl h0
 exact⟨z,by rw[h1,a0_,h2],h3⟩
theorem of_ex {υ:Type} {x:Option υ} {y:υ} (h:∃ z,x=some z∧z=y):x=some y:=by
 obtain⟨z,h1,rfl⟩:=h
 exact h1
theorem Sw1.mark {es:List (List ab_)} {a b:Int} {n:Nat} {r0 r:List Bool} {i:Nat} (h:Sw1 es a b n r0 i r) {row:List ab_} {x:ab_} {m:Nat} (hr:es[i]?=some row) (hx:x ∈ row) (hi:r[i]?=some true) (hk:kp a x=true) (hm:x.2=(m:Int)) (hmn:m<n):Sw1 es a b n r0 i (r.set m true)∧(∀ j:Nat,r[j]?=some true→(r.set m true)[j]?=some true)∧(r.set m true)[m]?=some true:=by
 have hml:m<r.length:=by rw[h.len];exact hmn
 have hs:∀ j:Nat,r[j]?=some true→(r.set m true)[j]?=some true:=λj hj=>by
  by_cases hmj:m=j
  ·subst hmj;exact e2_ hml
  ·rw[b3_ hmj];exact hj
 refine⟨⟨by rw[f3_,h.len],λj hj => ?_,λj hj=>hs j (h.sub j hj),λj hj hj0=>(h.dn j hj hj0).mono hs⟩,hs,e2_ hml⟩
 by_cases hmj:m=j
 ·subst hmj;exact (h.snd i hi).next hr hx hk hm
 ·rw[b3_ hmj] at hj;exact h.snd j hj
theorem Sw1.skip {es:List (List ab_)} {a b:Int} {n:Nat} {r0 r:List Bool} {i:Nat} (h:Sw1 es a b n r0 i r) (hd:r0[i]?=some true→Dn es a b r i):Sw1 es a b n r0 (i+1) r :=
 ⟨h.len,h.snd,h.sub,λj hj hj0=>by
  by_cases hji:j=i
  ·subst hji;exact hd hj0
  ·exact h.dn j (by omega) hj0⟩
theorem rt_ {α:Type} {l:List α} {k:Nat} {x:α} (h:l[k]?=some x):l.take (k+1)=l.take k++[x]:=by
 rw[d9_,h];rfl
end
section
set_option maxRecDepth 10000
def cMx:Int:=1099511627776
def cw (es:List (List ab_)) (D:List Int):Nat→Int→Int
 | 0,_=>1
 | k+1,i=>((at? es i).getD []).foldl (λa x=>cond (gi D x.2==(k:Int)) (zf_ (a+cw es D k x.2) cMx) a) 0
theorem minI_bd {a:Int} (h:0≤a):0≤zf_ a cMx∧zf_ a cMx≤cMx:=by
 unfold zf_ cMx
 split<;>omega
theorem ay9 {q:ab_→Bool} {f:ab_→Int} (hf:∀ x,0≤f x∧f x≤cMx):∀ (l:List ab_) (a:Int),0≤a∧a≤cMx→0≤l.foldl (λa x=>cond (q x) (zf_ (a+f x) cMx) a) a∧l.foldl (λa x=>cond (q x) (zf_ (a+f x) cMx) a) a≤cMx
 | [],a,h=>h
 | x::l,a,h=>by
  rw[List.foldl_cons]
  refine ay9 hf l _ ?_
  cases q x with
  | true=>exact minI_bd (by have:=(hf x).1;omega)
  | false=>exact h
theorem cu9 (es:List (List ab_)) (D:List Int):∀ (k:Nat) (i:Int),0≤cw es D k i∧cw es D k i≤cMx
 | 0,_=>by unfold cw cMx;omega
 | k+1,i=>by
  unfold cw
  exact ay9 (q:=λx=>gi D x.2==(k:Int)) (f:=λx=>cw es D k x.2) (λx=>cu9 es D k x.2) _ 0 (by unfold cMx;omega)
def cwT (es:List (List ab_)) (D:List Int) (k:Nat) (l:List ab_):Int:=l.foldl (λa x=>cond (gi D x.2==(k:Int)) (zf_ (a+cw es D k x.2) cMx) a) 0
theorem dc3 (es:List (List ab_)) (D:List Int) (k:Nat) (l:List ab_):0≤cwT es D k l∧cwT es D k l≤cMx :=
 ay9 (q:=λx=>gi D x.2==(k:Int)) (f:=λx=>cw es D k x.2) (λx=>cu9 es D k x.2) l 0 (by unfold cMx;omega)
theorem bh8 (es:List (List ab_)) (D:List Int) (k:Nat) (l:List ab_) (x:ab_):cwT es D k (l++[x])=cond (gi D x.2==(k:Int)) (zf_ (cwT es D k l+cw es D k x.2) cMx) (cwT es D k l):=by
 unfold cwT
 rw[m4_]
 rfl
theorem cg2 {es:List (List ab_)} {D:List Int} {k i:Nat} {row:List ab_} (h:es[i]?=some row):cw es D (k+1) (i:Int)=cwT es D k row:=by
 show ((at? es (i:Int)).getD []).foldl _ 0=_
 rw[show at? es (i:Int)=some row from ah_ h]
 rfl
def KI (es:List (List ab_)) (D:List Int) (m:List (Int×Int)):Prop:=∀ (j:Int) (v:Int),mget? m j=some v→∃ (i k:Nat),j=(i:Int)∧D[i]?=some (k:Int)∧v=cw es D k j
theorem KI.nil (es:List (List ab_)) (D:List Int):KI es D []:=λj v h=>by cases h
theorem KI.set {es:List (List ab_)} {D:List Int} {m:List (Int×Int)} (h:KI es D m) {i k:Nat} (hi:D[i]?=some (k:Int)):KI es D (gi_ m (i:Int) (cw es D k (i:Int))):=λj v hv=>by
 rw[xg_] at hv
 split at hv
 ·rename_i e
  exact⟨i,k,e,hi,by rw[e];exact (a6_ hv).symm⟩
 ·exact h j v hv
end
section
set_option maxRecDepth 10000
def CV (es:List (List ab_)) (D:List Int) (t i k j:Nat):Int:=if k<t∨(k=t∧j<i) then cw es D k (j:Int) else 0
structure CL (es:List (List ab_)) (D:List Int) (t i:Nat) (M:List Int):Prop where
 len:M.length=D.length
 at_:∀ (j k:Nat),D[j]?=some (k:Int)→M[j]?=some (CV es D t i k j)
theorem CL.skip {es:List (List ab_)} {D:List Int} {t i:Nat} {M:List Int} (h:CL es D t i M) (hi:D[i]?≠some (t:Int)):CL es D t (i+1) M:=by
 refine⟨h.len,λj k hj => ?_⟩
 rw[h.at_ j k hj]
 congr 1
 unfold CV
 by_cases hji:j=i
 ·subst hji
  have hkt:k≠t:=by rintro rfl;exact hi hj
  by_cases hk:k<t
  ·rw[if_pos (.inl hk),if_pos (.inl hk)]
  ·rw[if_neg (by omega),if_neg (by omega)]
 ·by_cases hc:k<t∨(k=t∧j<i)
  ·rw[if_pos hc,if_pos (by omega)]
  ·rw[if_neg hc,if_neg (by omega)]
theorem CL.put {es:List (List ab_)} {D:List Int} {t i:Nat} {M:List Int} (h:CL es D t i M) (hi:D[i]?=some (t:Int)):CL es D t (i+1) (M.set i (cw es D t (i:Int))):=by
 have hil:i<M.length:=by rw[h.len];exact am_ hi
 refine⟨by rw[f3_,h.len],λj k hj => ?_⟩
 by_cases hji:i=j
 ·subst hji
  rw[hi] at hj
  obtain rfl:t=k:=by have:=a6_ hj;omega
  rw[e2_ hil]
  unfold CV
  rw[if_pos (by omega)]
 ·rw[b3_ hji,h.at_ j k hj]
  congr 1
  unfold CV
  by_cases hc:k<t∨(k=t∧j<i)
  ·rw[if_pos hc,if_pos (by omega)]
  ·rw[if_neg hc,if_neg (by omega)]
theorem CL.next {es:List (List ab_)} {D:List Int} {t:Nat} {M:List Int} (h:CL es D t D.length M):CL es D (t+1) 0 M:=by
 refine⟨h.len,λj k hj => ?_⟩
 rw[h.at_ j k hj]
 congr 1
 unfold CV
 have:=am_ hj
 by_cases hc:k<t∨(k=t∧j<D.length)
 ·rw[if_pos hc,if_pos (by omega)]
 ·rw[if_neg hc,if_neg (by omega)]
theorem CL.zero {es:List (List ab_)} {D:List Int}:CL es D 0 0 (List.replicate D.length 0):=by
 refine⟨by simp,λj k hj => ?_⟩
 rw[i2_,if_pos (am_ hj)]
 unfold CV
 rw[if_neg (by omega)]
theorem set_self {M:List Int} {i:Nat} {v:Int} (h:M[i]?=some v):M.set i v=M:=by
 refine f1_ λj => ?_
 by_cases hij:i=j
 ·subst hij
  rw[e2_ (am_ h),h]
 ·rw[b3_ hij]
noncomputable def cwR (g:ad_):Int×(Int×Unit) :=
 cond ((exG g).2.1 != 0) (0,((exG g).2.1,())) (cond (decide (gi (dstG g (-1)) 0<0)) (0,(0,())) (cw (exG g).1.2 (dstG g (-1)) (gi (dstG g (-1)) 0).toNat 0,(0,())))
theorem add_w {a b:Int} (ha:0≤a∧a≤cMx) (hb:0≤b∧b≤cMx):w64 (a+b)=a+b:=by
 unfold cMx at ha hb
 exact ki_ (by omega) (by omega)
theorem av9 {g:ad_} (hg:SmG g):jq_ g=some (cwR g):=by
 unfold jq_ cwR
 rw[mx_ hg,a0_]
 cases hE:(exG g).2.1 != 0 with
 | true=>rfl
 | false =>
 have hE:(exG g).2.1=0:=by simpa using hE
 have hGr:=cf2 hg hE
 have hpos:=hGr.pos
 have hn:=hGr.n
 have hlen:=hGr.len
 have hel:=hGr.gI.eL
 have hDl:=hGr.dl (-1)
 have hL:=hGr.dc (-1)
 rw[hGr.al] at hL
 have hb:=hGr.db (-1)
 have hxx:=hGr.xx
 have hd:bz_ g (exG g).1 (-1)=some (dstG g (-1),()):=am4 hg hGr.h0 hGr.gI hGr.len (-1)
 have h0:=hGr.at0 (-1)
 simp only[a2_]
 rw[hd,a0_]
 generalize dstG g (-1)=D at *
 generalize hps:(exG g).1.1=ps at *
 generalize hes:(exG g).1.2=es at *
 simp only[show at? D 0=some (gi D 0) from ah_ (i:=0) h0,a0_]
 cases hc:decide (gi D 0<0) with
 | true=>rfl
 | false =>
 have hc:=d2_ hc
 obtain⟨k0,hk0⟩:∃ k0:Nat,gi D 0=(k0:Int):=⟨(gi D 0).toNat,by omega⟩
 rw[hk0] at h0 ⊢
 have hkn:=hb 0 _ h0
 simp only[a2_]
 rw[sf_ (by omega) (by omega),b9_,a0_,b9_]
 refine of_ex (ai8 (I:=λ(s:Int×(List Int×Unit))=>∃ t:Nat,s.1=(t:Int)∧t≤k0+1∧CL es D t 0 s.2.1) (μ:=λs=>k0+1 - s.1.toNat) ⟨0,rfl,j4_ _,CL.zero⟩ ?_)
 rintro⟨st,M0,u0⟩ ⟨t,rfl,htk,hC⟩
 have hC:CL es D t 0 M0:=hC
 have ht1:w64 ((t:Int)+1)=((t+1:Nat):Int):=az_ (show t≤1000000000 by omega)
 by_cases htl:t≤k0
 ·simp only[b8_ (show (t:Int)≤(k0:Int) by omega),a5_]
  refine ai8 (I:=λ(s:Int×(List Int×Unit))=>∃ i:Nat,s.1=(i:Int)∧i≤D.length∧CL es D t i s.2.1) (μ:=λs=>D.length - s.1.toNat) ⟨0,rfl,j4_ _,hC⟩ ?_
  rintro⟨si,M,u1⟩ ⟨i,rfl,hin,hM⟩
  have hM:CL es D t i M:=hM
  have hi1:w64 ((i:Int)+1)=((i+1:Nat):Int):=az_ (show i≤1000000000 by omega)
  by_cases hil:i<D.length
  ·obtain⟨v,hv⟩:=bd_ hil
   simp only[dlt hil,a5_,ah_ hv,a0_]
   cases hvt:v != (t:Int) with
   | true =>
    simp only[a5_,a0_]
    refine⟨_,rfl,.inl ⟨_,rfl,⟨i+1,hi1,hil,hM.skip λh => ?_⟩,by show D.length - (w64 ((i:Int)+1)).toNat<D.length - ((i:Int)).toNat;rw[hi1];omega⟩⟩
    rw[hv] at h
    rw[a6_ h] at hvt
    simp at hvt
   | false =>
    obtain rfl:v=(t:Int):=by simpa using hvt
    obtain⟨row,hrow⟩:=bd_ (l:=es) (i:=i) (by omega)
    have hrm:=ax_ hrow
    have hrl:=hel row hrm
    have hMi:=hM.at_ i t hv
    have hMi0:CV es D t i t i=0:=by unfold CV;rw[if_neg (by omega)]
    rw[hMi0] at hMi
    have hiM:i<M.length:=am_ hMi
    have fin:∀ {M':List Int},M'=M.set i (cw es D t (i:Int))→∃ s',(inl (w64 ((i:Int)+1),(M',())):(Int×(List Int×Unit))⊕(List Int×Unit)) = .inl s'∧(∃ i:Nat,s'.1=(i:Int)∧i≤D.length∧CL es D t i s'.2.1)∧D.length - s'.1.toNat<D.length - ((i:Int)).toNat:=λ{M'} e=>by
     subst e
     exact⟨_,rfl,⟨i+1,hi1,hil,hM.put hv⟩,by show D.length - (w64 ((i:Int)+1)).toNat<D.length - ((i:Int)).toNat;rw[hi1];omega⟩
    cases t with
    | zero =>
     simp only[show ((((0:Nat):Int))==0)=true from rfl,a5_,a2_,ah_ hMi,a0_,b9_,ah_ hrow,show decide ((0:Int)<((0:Nat):Int))=false from rfl]
     rw[bo_ (r:=(M.set i 1,())) (by
      show Option.bind (cond _ _ _) _=_
      cases decide ((0:Int)<(row.length:Int))<;>rfl)]
     exact⟨_,rfl,.inl (fin rfl)⟩
    | succ q =>
     simp only[show (((q+1:Nat):Int)==0)=false from l8_.2 (by omega),a2_,a0_,ah_ hrow,show decide ((0:Int)<((q+1:Nat):Int))=true from b8_ (by omega),show w64 (((q+1:Nat):Int) - 1)=(q:Int) from by rw[er_ (by omega) (by omega)];omega]
     rw[Option.bind_assoc]
     refine ai8 (I:=λ(s:Int×(List Int×Unit))=>∃ k:Nat,s.1=(k:Int)∧k≤row.length∧s.2.1=M.set i (cwT es D q (row.take k))) (μ:=λs=>row.length - s.1.toNat) ⟨0,rfl,j4_ _,(set_self hMi).symm⟩ ?_
     rintro⟨sk,M1,u2⟩ ⟨k,rfl,hkn',hM1⟩
     obtain rfl:M1=M.set i (cwT es D q (row.take k)):=hM1
     by_cases hkl:k<row.length
     ·obtain⟨x,hx⟩:=bd_ (l:=row) (i:=k) hkl
      obtain⟨x0,x1⟩:=hxx row hrm x (ax_ hx)
      obtain⟨y,hy⟩:∃ y:Nat,x.2=(y:Int):=⟨x.2.toNat,by omega⟩
      obtain⟨w,hw⟩:=bd_ (l:=D) (i:=y) (by omega)
      have hwat:at? D x.2=some w:=by rw[hy];exact ah_ hw
      have hk1:w64 ((k:Int)+1)=((k+1:Nat):Int):=az_ (show k≤1000000000 by omega)
      have hsn:=bh8 es D q (row.take k) x
      rw[mc_ hwat] at hsn
      have hself:at? (M.set i (cwT es D q (row.take k))) (i:Int)=some (cwT es D q (row.take k)):=ah_ (e2_ hiM)
      simp only[dlt hkl,a5_,ah_ hx,a0_,hwat]
      cases hwq:w==(q:Int) with
      | true =>
       obtain rfl:w=(q:Int):=by simpa using hwq
       have hyi:i≠y:=by
        rintro rfl
        rw[hv] at hw
        have:=a6_ hw
        omega
       have hMy:=hM.at_ y q hw
       have ey:CV es D (q+1) i q y=cw es D q (y:Int):=by unfold CV;rw[if_pos (by omega)]
       rw[ey] at hMy
       have hyat:at? (M.set i (cwT es D q (row.take k))) x.2=some (cw es D q x.2):=by
        rw[hy]
        exact ah_ (by rw[b3_ hyi];exact hMy)
       rw[hwq,a5_] at hsn
       have ha:w64 (cwT es D q (row.take k)+cw es D q x.2)=cwT es D q (row.take k)+cw es D q x.2:=add_w (dc3 es D q _) (cu9 es D q _)
       simp only[a5_,hself,hyat,a0_,ha,b9_,List.set_set]
       refine⟨_,rfl,.inl ⟨_,rfl,⟨k+1,hk1,hkl,?_⟩,by show row.length - (w64 ((k:Int)+1)).toNat<row.length - ((k:Int)).toNat;rw[hk1];omega⟩⟩
       show M.set i (zf_ (cwT es D q (row.take k)+cw es D q x.2) cMx)=M.set i (cwT es D q (row.take (k+1)))
       rw[rt_ hx,hsn]
      | false =>
       rw[hwq,a2_] at hsn
       simp only[a2_,a0_]
       refine⟨_,rfl,.inl ⟨_,rfl,⟨k+1,hk1,hkl,?_⟩,by show row.length - (w64 ((k:Int)+1)).toNat<row.length - ((k:Int)).toNat;rw[hk1];omega⟩⟩
       show M.set i (cwT es D q (row.take k))=M.set i (cwT es D q (row.take (k+1)))
       rw[rt_ hx,hsn]
     ·obtain rfl:k=row.length:=by omega
      simp only[dnl,a2_,a0_]
      refine⟨_,rfl,.inr ⟨_,_,rfl,rfl,.inl (fin ?_)⟩⟩
      rw[e1_,cg2 hrow]
  ·obtain rfl:i=D.length:=by omega
   simp only[dnl,a2_]
   exact⟨_,rfl,.inr ⟨_,_,rfl,rfl,.inl ⟨_,rfl,⟨t+1,ht1,by omega,hM.next⟩,by show k0+1 - (w64 ((t:Int)+1)).toNat<k0+1 - ((t:Int)).toNat;rw[ht1];omega⟩⟩⟩
 ·obtain rfl:t=k0+1:=by omega
  simp only[c2_ (show ¬ ((k0+1:Nat):Int)≤(k0:Int) by omega),a2_]
  have hM0:=hC.at_ 0 k0 h0
  have e:CV es D (k0+1) 0 k0 0=cw es D k0 0:=by unfold CV;rw[if_pos (by omega)];rfl
  rw[e] at hM0
  refine⟨_,rfl,.inr ⟨_,_,rfl,?_,rfl⟩⟩
  simp only[show at? M0 0=some (cw es D k0 0) from ah_ (i:=0) hM0,a0_]
end
section
set_option maxRecDepth 10000
abbrev cnD (ps:List aa_) (es:List (List ab_)) (D:List Int) (i:Int) (m:List (Int×Int)):((Int×(Unit×(Unit×(Unit×Unit))))×((Unit×Unit)×((Unit×Unit)×((Unit×Unit)×((List aa_×(List (List ab_)×(Unit×(Unit×Unit))))×(List (Int×Int)×((Unit×(Unit×(Unit×(Unit×Unit))))×(List Int×Unit)))))))) :=
 ((i,((),((),((),())))),(((),()),(((),()),(((),()),((ps,(es,((),((),())))),(m,(((),((),((),((),())))),(D,()))))))))
abbrev cnX (n:Int) (m:List (Int×Int)):((Int×Unit)×(Unit×(Unit×(Unit×(Unit×(List (Int×Int)×(Unit×(Unit×Unit)))))))):=((n,()),((),((),((),((),(m,((),((),()))))))))
theorem cn_ok {ps:List aa_} {es:List (List ab_)} {D:List Int} (hlen:es.length=D.length) (hD:D.length≤3000) (hel:∀ l ∈ es,l.length≤480) (hxx:∀ l ∈ es,∀ x ∈ l,0≤x.2∧x.2<(D.length:Int)) (hb:∀ (i:Nat) (v:Int),D[i]?=some v→v≤(D.length:Int)) :
  ∀ (k i:Nat) (m:List (Int×Int)),D[i]?=some (k:Int)→KI es D m→∀ N,k<N→∃ m',ds_ N (cnD ps es D (i:Int) m)=some (cnX (cw es D k (i:Int)) m')∧KI es D m'
 | 0,i,m,hi,hm,0,hN=>by omega
 | k+1,i,m,hi,hm,0,hN=>by omega
 | 0,i,m,hi,hm,N+1,hN=>by
  refine⟨m,?_,hm⟩
  have hat:at? D (i:Int)=some ((0:Nat):Int):=ah_ hi
  show (Option.bind (at? D (i:Int)) _)=_
  simp only[hat,a0_,show ((((0:Nat):Int))==0)=true from rfl,a5_]
  rfl
 | k+1,i,m,hi,hm,N+1,hN=>by
  have hat:at? D (i:Int)=some ((k+1:Nat):Int):=ah_ hi
  have hkn:=hb i _ hi
  have hil:=am_ hi
  obtain⟨row,hrow⟩:=bd_ (l:=es) (i:=i) (by omega)
  have hrm:=ax_ hrow
  have hrl:=hel row hrm
  suffices h:∃ z,ds_ (N+1) (cnD ps es D (i:Int) m)=some z∧∃ m',z=cnX (cw es D (k+1) (i:Int)) m'∧KI es D m' by
   obtain⟨z,h1,m',rfl,h2⟩:=h
   exact⟨m',h1,h2⟩
  show ∃ z,(Option.bind (at? D (i:Int)) _)=some z∧_
  simp only[hat,a0_,show ((((k+1:Nat):Int))==0)=false from l8_.2 (by omega),a2_]
  cases hg:mget? m (i:Int) with
  | some v =>
   obtain⟨i',k',h1,h2,h3⟩:=hm _ _ hg
   obtain rfl:i=i':=by omega
   rw[hi] at h2
   obtain rfl:k+1=k':=by have:=a6_ h2;omega
   refine⟨cnX v m,?_,m,by rw[h3],hm⟩
   have e1:ak6 m (i:Int)=true:=by unfold ak6;rw[hg];rfl
   have e2:ei_ 0 m (i:Int)=v:=by unfold ei_;rw[hg];rfl
   simp only[e1,a5_,e2]
  | none =>
   have e1:ak6 m (i:Int)=false:=by unfold ak6;rw[hg];rfl
   simp only[e1,a2_,ah_ hrow,a0_,show w64 (((k+1:Nat):Int) - 1)=(k:Int) from by rw[er_ (by omega) (by omega)];omega,show decide ((0:Int)<((k+1:Nat):Int))=true from b8_ (by omega),a5_]
   refine ai8 (I:=λ(s:Int×(List (Int×Int)×(Unit×((Int×Unit)×Unit))))=>∃ j:Nat,s.1=(j:Int)∧j≤row.length∧KI es D s.2.1∧s.2.2.2.1.1=cwT es D k (row.take j)) (μ:=λs=>row.length - s.1.toNat) ⟨0,rfl,j4_ _,hm,rfl⟩ ?_
   rintro⟨sj,m1,u1,⟨acc,u2⟩,u3⟩ ⟨j,rfl,hjn,hm1,hacc⟩
   obtain rfl:acc=cwT es D k (row.take j):=hacc
   have hm1:KI es D m1:=hm1
   by_cases hjl:j<row.length
   ·obtain⟨x,hx⟩:=bd_ (l:=row) (i:=j) hjl
    obtain⟨x0,x1⟩:=hxx row hrm x (ax_ hx)
    obtain⟨y,hy⟩:∃ y:Nat,x.2=(y:Int):=⟨x.2.toNat,by omega⟩
    obtain⟨v,hv⟩:=bd_ (l:=D) (i:=y) (by omega)
    have hvat:at? D x.2=some v:=by rw[hy];exact ah_ hv
    have hj1:w64 ((j:Int)+1)=((j+1:Nat):Int):=az_ (show j≤1000000000 by omega)
    have hsn:=bh8 es D k (row.take j) x
    rw[mc_ hvat] at hsn
    simp only[dlt hjl,a5_,ah_ hx,a0_,hvat]
    cases hvk:v==(k:Int) with
    | true =>
     obtain rfl:v=(k:Int):=by simpa using hvk
     obtain⟨m2,h1,h2⟩:=cn_ok hlen hD hel hxx hb (ps:=ps) k y m1 hv hm1 N (by omega)
     rw[hvk,a5_] at hsn
     rw[← hy] at h1
     have h1':=h1
     simp only[a5_]
     have hw:w64 (cwT es D k (row.take j)+cw es D k x.2)=cwT es D k (row.take j)+cw es D k x.2:=add_w (dc3 es D k _) (cu9 es D k _)
     refine⟨inl (w64 ((j:Int)+1),(m2,((),((zf_ (cwT es D k (row.take j)+cw es D k x.2) cMx,()),())))),?_,.inl ⟨_,rfl,⟨j+1,hj1,hjl,h2,?_⟩,by show row.length - (w64 ((j:Int)+1)).toNat<row.length - ((j:Int)).toNat;rw[hj1];omega⟩⟩
     ·refine e6_ (congrArg (λo=>Option.bind o _) h1') ?_
      rw[a0_]
      show some (inl (w64 ((j:Int)+1),(m2,((),((zf_ (w64 (cwT es D k (row.take j)+cw es D k x.2)) 1099511627776,()),())))))=_
      rw[hw]
      rfl
     ·show zf_ (cwT es D k (row.take j)+cw es D k x.2) cMx=cwT es D k (row.take (j+1))
      rw[rt_ hx,hsn]
    | false =>
     rw[hvk,a2_] at hsn
     simp only[a2_]
     refine⟨_,rfl,.inl ⟨_,rfl,⟨j+1,hj1,hjl,hm1,?_⟩,by show row.length - (w64 ((j:Int)+1)).toNat<row.length - ((j:Int)).toNat;rw[hj1];omega⟩⟩
     show cwT es D k (row.take j)=cwT es D k (row.take (j+1))
     rw[rt_ hx,hsn]
   ·obtain rfl:j=row.length:=by omega
    simp only[dnl,a2_]
    have e3:cwT es D k (row.take row.length)=cw es D (k+1) (i:Int):=by rw[e1_,cg2 hrow]
    rw[e3]
    exact⟨_,rfl,.inr ⟨_,_,rfl,rfl,_,rfl,hm1.set hi⟩⟩
end
section
set_option maxRecDepth 10000
noncomputable def couX (g:ad_) (G:cd_) (v40:List Int×Unit):Option (Int×(Int×Unit)) :=
 ((at? v40.1 0).bind λv41 =>
 ((at? v40.1 0).bind λv42 =>
 (cond (decide (v42<0))
 (some (0,(0,())))
 ((ec_ ((0,((),((),((),())))),(((),()),(((),()),(((),()),((G.1,(G.2,((),((),())))),([],(((),((),((),((),())))),(v40.1,()))))))))).bind λv43 =>
 (some (v43.1.1,(0,())))))))
theorem cv2:jz_=λa0=>(dm_ a0).bind λv0=>cond (v0.2.1 != 0) (cond (v0.2.1 != 0) (some (0,(v0.2.1,()))) none) (meaK a0 v0.1 λv40=>couX a0 v0.1 v40):=by
 kernel_rfl
theorem aw9 {g:ad_} (hg:SmG g):jz_ g=some (cwR g):=by
 unfold cwR
 rw[cv2]
 simp only
 rw[sa_ hg,a0_]
 cases hE:(exG g).2.1 != 0 with
 | true=>rfl
 | false =>
 have hE:(exG g).2.1=0:=by simpa using hE
 have hGr:=cf2 hg hE
 obtain⟨D,h1,hb,h2⟩:=cz9 hg hGr.h0 hGr.gI hGr.len
 have hL:=hGr.dc (-1)
 rw[hGr.al] at hL
 have hDl:=hGr.dl (-1)
 obtain rfl:D=dstG g (-1):=ak5 h1.2 hL (by rw[h1.1,hDl])
 have hn:=hGr.n
 have hpos:=hGr.pos
 have hlen:=hGr.len
 have hxx:=hGr.xx
 have h0:=hGr.at0 (-1)
 simp only[a2_]
 rw[show (exG g).1=((exG g).1.1,(exG g).1.2) from rfl,h2]
 unfold couX
 generalize dstG g (-1)=D at *
 simp only[show at? D 0=some (gi D 0) from ah_ (i:=0) h0,a0_]
 cases hc:decide (gi D 0<0) with
 | true=>rfl
 | false =>
 have hc:=d2_ hc
 obtain⟨k0,hk0⟩:∃ k0:Nat,gi D 0=(k0:Int):=⟨(gi D 0).toNat,by omega⟩
 rw[hk0] at h0 ⊢
 have hkn:=hb 0 _ h0
 obtain⟨m',h3,_⟩:=cn_ok (ps:=(exG g).1.1) (es:=(exG g).1.2) (D:=D) (by omega) (by omega) hGr.gI.eL (by rw[hDl];exact hxx) (by rw[hDl];exact hb) k0 0 [] h0 (KI.nil _ _) 3001 (by omega)
 simp only[a2_,b9_]
 refine e6_ (congrArg (λo=>Option.bind o _) (show ec_ _=_ from h3)) ?_
 rfl
theorem av8 {g:ad_} (hg:SmG g):∃ (l:List af_) (e:Int),jp_ g=some (l,(e,()))∧dx_ g=some (l,(e,()))∧Sm l.length:=by
 obtain⟨D,hS⟩:=wt_ hg
 unfold jp_
 rw[mx_ hg,a0_]
 rcases hS with ⟨h,hSo⟩ | ⟨hE,hDl,hL,hSo⟩
 ·have hb:((exG g).2.1 != 0)=true:=by simpa using h
  exact⟨[],(exG g).2.1,by simp only[hb,a5_],hSo,j4_ _⟩
 ·have hGr:=cf2 hg hE
  have hL2:=hGr.dc (-1)
  have hb:=hGr.db (-1)
  have hn:=hGr.n
  have hpos:=hGr.pos
  have hd:bz_ g (exG g).1 (-1)=some (dstG g (-1),()):=am4 hg hGr.h0 hGr.gI hGr.len (-1)
  have hDl2:=hGr.dl (-1)
  have h0:=hGr.at0 (-1)
  obtain rfl:D=dstG g (-1):=ak5 hL (by rw[hGr.al] at hL2;exact hL2) (by rw[hDl,hDl2])
  have hw:=bl3 (ps:=(exG g).1.1) (act:=-1) hL2 (by omega) (by omega) (by rw[hDl2];exact hb) hGr.gI.eL (by rw[hDl2];exact hGr.xx)
  rw[hGr.al] at hw
  have hw:iv_ (exG g).1 (dstG g (-1)) (-1)=_:=hw
  simp only[hE,k1_,a2_]
  rw[hd,a0_,hw,a0_]
  rw[hSo]
  cases hc:decide (gi (dstG g (-1)) 0<0) with
  | true=>exact⟨[],50,rfl,rfl,j4_ _⟩
  | false =>
   refine⟨_,0,rfl,rfl,?_⟩
   have h1:=br9 (exG g).1.2 (dstG g (-1)) (gi (dstG g (-1)) 0).toNat 0
   have h2:=hb 0 _ h0
   have hc:=d2_ hc
   show (shp (exG g).1.2 (dstG g (-1)) (gi (dstG g (-1)) 0).toNat 0).length≤1000000000
   omega
theorem law05_ProveSolves (g:ad_):gx_ g=some (true,()):=by
 obtain⟨b,e,hb⟩:=ay0 g
 unfold gx_
 rw[e,a0_]
 cases b with
 | true=>simp only[a5_,xm_,a0_]
 | false =>
 have hg:=hb rfl
 obtain⟨l,x,h1,h2,h3⟩:=av8 hg
 simp only[a2_]
 rw[bl7 hg,a0_,h2,a0_,h1,a0_]
 simp only[a0_,aw9 hg,av9 hg,bk6 h3,d8_,a5_,xm_]
end
end Go.Proofs.YtgeehfnbhbibeaaGreatDoor.Rx
