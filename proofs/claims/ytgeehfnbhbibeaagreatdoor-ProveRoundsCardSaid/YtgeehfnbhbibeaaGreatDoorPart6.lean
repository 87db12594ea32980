/- A part of the proof: what the functions of the program compute, shown over the model. -/
import Derived.KernelRfl
import Derived.Test.YtgeehfnbhbibeaaGreatDoorPart3
import Derived.Test.YtgeehfnbhbibeaaGreatDoorPart5
set_option linter.unusedSectionVars false
set_option linter.unusedVariables false
set_option linter.unusedSimpArgs false
namespace Go.Proofs.YtgeehfnbhbibeaaGreatDoor.Rx
open Go Pad Rex Sum
section
set_option maxRecDepth 10000
theorem ck3 (a b:List Int):mu_ (a++b)=mu_ a+mu_ b:=by unfold mu_;rw[List.countP_append]
theorem bs4 {a:List Int} {i:Nat} {v:Int} (h:a[i]?=some v):mu_ (a.take (i+1))=mu_ (a.take i)+(if v<0 then 1 else 0):=by
 rw[d7_,h,ck3,show (some v).toList=[v] from rfl,bs7,show mu_ []=0 from rfl,b0_]
theorem cp9 {g:ad_} {ps:List aa_} {es:List (List ac_)} {near:List Int} (h1:∀ x ∈ near,∃ j:Nat,x=(j:Int)∧j<ps.length∧pu_ g ps j=true) (h2:∀ j:Nat,j<ps.length→pu_ g ps j=true→(j:Int) ∈ near) (h3:near.length+mu_ (xg_ g ps)=ps.length) :
  BI es (pu_ g ps) ps.length near (xg_ g ps):=by
 have hl:(xg_ g ps).length=ps.length:=d2_ _
 have hg:∀ x ∈ near,at? (xg_ g ps) x=some 0:=λx hx=>by
  obtain⟨j,rfl,hj,hf⟩:=h1 x hx
  obtain⟨v,hv⟩:=bb_ (l:=xg_ g ps) (i:=j) (by omega)
  rcases qz_ hv with ⟨rfl,_⟩ | ⟨rfl,hf2⟩
  ·exact ah_ hv
  ·rw[hf] at hf2;cases hf2
 have hle:∀ (i:Nat) (v:Int),(xg_ g ps)[i]?=some v→-1≤v∧v≤0:=λi v hv=>by
  rcases qz_ hv with ⟨rfl,_⟩ | ⟨rfl,_⟩<;>omega
 refine⟨hl,λi v hv=>(hle i v hv).1,λi v hv => ?_,λi k hk => ?_,λx hx=>⟨0,hg x hx,m9_ _⟩,?_,λx hx i v hv => ?_,λi l x k hl hxl hat hnn => ?_,λi v hv => ?_,by omega⟩
 ·rcases qz_ hv with ⟨rfl,h⟩ | ⟨rfl,h⟩
  ·exact⟨λ_=>h,λ_=>rfl⟩
  ·rw[h]
   exact⟨λe=>by omega,λe=>by cases e⟩
 ·have:=hle i _ hk
  omega
 ·refine List.pairwise_of_forall_mem_list (λx hx y hy => ?_)
  rw[jf_ (hg x hx),jf_ (hg y hy)]
  exact m9_ _
 ·rw[jf_ (hg x hx)]
  have:=hle i v hv
  omega
 ·obtain⟨xi,hxi,hxk⟩:=sn_ hat
  have hlt:=am_ hxk
  rcases qz_ hxk with ⟨_,hf⟩ | ⟨e,_⟩
  ·exact absurd (by rw[hxi];exact h2 xi (by omega) hf) hnn
  ·omega
 ·have:=hle i v hv
  have:=bs6 (xg_ g ps)
  omega
noncomputable def meaG (rowB:Int→List ac_→(Int×(List (List Int)×Unit))→Option ((Int×(List (List Int)×Unit))⊕(List (List Int)×Unit))) {τ:Type} (a0:ad_) (G:cf_) (K:List Int×Unit→Option τ):Option τ :=
 ((dy_ [(-1)] (G.1.length:Int)).bind λv1 =>
 ((af_ (ρ:=((List Int)×((List Int)×Unit))) (λ(v2:((List Int)×(Int×((List Int)×Unit)))) =>
 (cond (decide (v2.2.1<(G.1.length:Int)))
 ((((at? G.1 v2.2.1).bind λv3 =>
 ((ia_ a0.1 v3.1).bind λv4 =>
 (((cond (v4.2.1==0)
 (some (v4.1,()))
 (some (false,())))).bind λv5 =>
 (cond v5.1
 ((at? v2.2.2.1 v2.2.1).bind λv6 =>
 ((at? v2.2.2.1 v2.2.1).bind λv7 =>
 ((push? (α:=Int) v2.1 [v2.2.1]).bind λv8 =>
 (some (v8,((v2.2.2.1.set v2.2.1.toNat 0),()))))))
 (some (v2.1,(v2.2.2.1,())))))))).bind λv9 =>
 (some (inl (v9.1,((w64 (v2.2.1+1)),(v9.2.1,()))))))
 (some (inr (v2.1,(v2.2.2.1,())))))) ([],(0,(v1,())))).bind λv10 =>
 ((mk? (α:=(List Int)) (G.1.length:Int) []).bind λv11 =>
 ((af_ (ρ:=((List (List Int))×Unit)) (λ(v12:(Int×((List (List Int))×Unit))) =>
 (cond (decide (v12.1<(G.2.length:Int)))
 ((at? G.2 v12.1).bind λv13 =>
 ((af_ (ρ:=((List (List Int))×Unit)) (rowB v12.1 v13) (0,(v12.2.1,()))).bind λv22 =>
 (some (inl ((w64 (v12.1+1)),(v22.1,()))))))
 (some (inr (v12.2.1,()))))) (0,(v11,()))).bind λv23 =>
 ((af_ (ρ:=((List Int)×Unit)) (λ(v24:((List Int)×((List Int)×Unit))) =>
 (cond (decide (0<(v24.1.length:Int)))
 ((at? v24.1 0).bind λv25 =>
 ((at? v24.1 0).bind λv26 =>
 ((sub? v24.1 1 (v24.1.length:Int)).bind λv27 =>
 ((at? v23.1 v26).bind λv28 =>
 ((af_ (ρ:=((List Int)×((List Int)×Unit))) (λ(v29:((List Int)×(Int×((List Int)×Unit)))) =>
 (cond (decide (v29.2.1<(v28.length:Int)))
 ((((at? v28 v29.2.1).bind λv30 =>
 ((at? v29.2.2.1 v30).bind λv31 =>
 ((at? v29.2.2.1 v30).bind λv32 =>
 (cond (decide (v32<0))
 ((at? v29.2.2.1 v26).bind λv33 =>
 ((at? v29.2.2.1 v26).bind λv34 =>
 ((at? v29.2.2.1 v30).bind λv35 =>
 ((at? v29.2.2.1 v30).bind λv36 =>
 ((push? (α:=Int) v29.1 [v30]).bind λv37 =>
 (some (v37,((v29.2.2.1.set v30.toNat (w64 (v34+1))),()))))))))
 (some (v29.1,(v29.2.2.1,())))))))).bind λv38 =>
 (some (inl (v38.1,((w64 (v29.2.1+1)),(v38.2.1,()))))))
 (some (inr (v29.1,(v29.2.2.1,())))))) (v27,(0,(v24.2.1,())))).bind λv39 =>
 (some (inl (v39.1,(v39.2.1,())))))))))
 (some (inr (v24.2.1,()))))) (v10.1,(v10.2.1,()))).bind λv40 =>
 (K v40))))))
def rowE (i:Int) (row:List ac_):(Int×(List (List Int)×Unit))→Option ((Int×(List (List Int)×Unit))⊕(List (List Int)×Unit)) :=
 (λ(v14:(Int×((List (List Int))×Unit))) =>
 (cond (decide (v14.1<(row.length:Int)))
 ((((at? row v14.1).bind λv15 =>
 ((at? v14.2.1 v15.2).bind λv16 =>
 ((at? v14.2.1 v15.2).bind λv17 =>
 ((push? (α:=Int) v17 [i]).bind λv18 =>
 ((at? v14.2.1 v15.2).bind λv19 =>
 (cond ((v15.2==v15.2)&&true)
 ((at? v14.2.1 v15.2).bind λv20 =>
 (some ((v14.2.1.set v15.2.toNat v18),())))
 none))))))).bind λv21 =>
 (some (inl ((w64 (v14.1+1)),(v21.1,())))))
 (some (inr (v14.2.1,())))))
noncomputable abbrev meaK {τ:Type} (a0:ad_) (G:cf_) (K:List Int×Unit→Option τ):Option τ:=meaG rowE a0 G K
theorem bt9 (rowB:Int→List ac_→(Int×(List (List Int)×Unit))→Option ((Int×(List (List Int)×Unit))⊕(List (List Int)×Unit))) {τ:Type} (a0:ad_) (G:cf_) (K:List Int×Unit→Option τ):meaG rowB a0 G K=(meaG rowB a0 G some).bind K:=by
 unfold meaG
 simp only[Option.bind_assoc,a0_]
def esQ (Q:ac_→Bool) (es:List (List ac_)):List (List ac_):=es.map λl=>l.filter Q
theorem cu4 {Q:ac_→Bool} {es:List (List ac_)} {i:Nat} {l:List ac_} (h:es[i]?=some l):(esQ Q es)[i]?=some (l.filter Q):=by
 unfold esQ
 rw[d8_,h]
 rfl
structure RowOk (rowB:Int→List ac_→(Int×(List (List Int)×Unit))→Option ((Int×(List (List Int)×Unit))⊕(List (List Int)×Unit))) (Q:ac_→Bool):Prop where
 st:∀ (i:Int) row (k:Nat) x bk l,row[k]?=some x→at? bk x.2=some l→l.length≤2000000→k≤1000→rowB i row ((k:Int),(bk,()))=some (.inl (((k+1:Nat):Int),(cond (Q x) (bk.set x.2.toNat (l++[i])) bk,())))
 en:∀ (i:Int) row bk,rowB i row ((row.length:Int),(bk,()))=some (.inr (bk,()))
theorem ck9 {rowB} {Q:ac_→Bool} (hR:RowOk rowB Q) {g:ad_} (hg:SmG g) (h0:cl_ g=0) {ps:List aa_} {es:List (List ac_)} (hG:GI g ps es) (hes:es.length=ps.length):∃ y,meaG rowB g (ps,es) some=some y∧∃ D,y=(D,())∧(D.length=ps.length∧LC (esQ Q es) (pu_ g ps) D)∧∀ (i:Nat) (v:Int),D[i]?=some v→v≤(ps.length:Int):=by
 have ok:=ct_ h0
 have okr:=bn_ ok.room
 have hn:=hG.pI.n
 have hx:∀ l ∈ es,∀ x ∈ l,0≤x.2∧x.2<(ps.length:Int):=λl hl x hx=>(hG.eI l hl x hx).1
 have hesQ:(esQ Q es).length=es.length:=d2_ _
 have hxQ:∀ l ∈ esQ Q es,∀ x ∈ l,0≤x.2∧x.2<(ps.length:Int):=λl hl x hxl=>by
  obtain⟨l',h1,rfl⟩:=d1_.1 hl
  exact hx l' h1 x (c7_.1 hxl).1
 unfold meaG
 simp only
 rw[cd2 (by omega),a0_]
 have hfl:(xg_ g ps).length=ps.length:=d2_ _
 refine tp_ ps.length (λ(i:Nat) (z:List Int×(Int×(List Int×Unit)))=>∃ near far:List Int,z=(near,((i:Int),(far,())))∧far.length=ps.length∧(∀ j:Nat,far[j]?=if j<i then (xg_ g ps)[j]? else (List.replicate ps.length (-1:Int))[j]?)∧(∀ x ∈ near,∃ j:Nat,x=(j:Int)∧j<i∧pu_ g ps j=true)∧(∀ j:Nat,j<i→pu_ g ps j=true→(j:Int) ∈ near)∧near.length+mu_ ((xg_ g ps).take i)=i)
  ⟨[],_,rfl,f1_,(λj=>by simp),(λx hx=>by cases hx),(λj hj=>by omega),rfl⟩ (λi z hi hz => ?_) (λz hz => ?_)
 ·obtain⟨near,far,rfl,hl,hj,h1,h2,h3⟩:=hz
  obtain⟨p,hp⟩:=bb_ hi
  obtain⟨v,hv⟩:=bb_ (l:=far) (i:=i) (by omega)
  have hv1:v = -1:=by
   rw[hj,if_neg (by omega),h4_,if_pos hi] at hv
   exact (a6_ hv).symm
  have hf0:(xg_ g ps)[i]?=some (cond (dm_ p.1.1 g.1.2.2.2.2.2.2.2) 0 (-1)):=by
   unfold xg_
   rw[d8_,hp]
   rfl
  have hfp:=av1 (g:=g) hp
  have hnt:=bs4 hf0
  simp only[dlt hi,a5_,ah_ hp,ah_ hv,a0_,bo4 hg.room ok.room (hG.pI.v p (au_ hp)).st,show ((0:Int)==0)=true from rfl,c1_,az_ (show Sm i by show _≤1000000000;omega),ch_ (show Sm near.length by show _≤1000000000;omega)]
  cases hc:dm_ p.1.1 g.1.2.2.2.2.2.2.2 with
  | true =>
   rw[hc] at hf0 hfp hnt
   refine⟨_,rfl,near++[(i:Int)],far.set i 0,rfl,by rw[f6_,hl],λj => ?_,λx hx => ?_,λj hj hf => ?_,?_⟩
   ·rcases o0_ j i with hji | hji | hji
    ·rw[b5_ (by omega),hj,if_pos hji,if_pos (by omega)]
    ·subst hji
     rw[e3_ (by omega),if_pos (by omega),hf0]
     rfl
    ·rw[b5_ (by omega),hj,if_neg (by omega),if_neg (by omega)]
   ·rcases b3_.1 hx with hx | hx
    ·obtain⟨j,a,b,c⟩:=h1 x hx
     exact⟨j,a,by omega,c⟩
    ·rw[e6_] at hx
     exact⟨i,hx,by omega,hfp⟩
   ·rcases l7_ j i with hji | hji
    ·exact h7_ _ (h2 j hji hf)
    ·obtain rfl:j=i:=by omega
     exact j4_ _ (e6_.2 rfl)
   ·rw[a8_,d3_,hnt]
    show _+1+(_+if (0:Int)<0 then 1 else 0)=i+1
    rw[if_neg (by omega)]
    omega
  | false =>
   rw[hc] at hf0 hfp hnt
   refine⟨_,rfl,near,far,rfl,hl,λj => ?_,λx hx => ?_,λj hj hf => ?_,?_⟩
   ·rcases o0_ j i with hji | hji | hji
    ·rw[hj,if_pos hji,if_pos (by omega)]
    ·subst hji
     rw[hv,if_pos (by omega),hf0,hv1]
     rfl
    ·rw[hj,if_neg (by omega),if_neg (by omega)]
   ·obtain⟨j,a,b,c⟩:=h1 x hx
    exact⟨j,a,by omega,c⟩
   ·rcases l7_ j i with hji | hji
    ·exact h2 j hji hf
    ·obtain rfl:j=i:=by omega
     rw[hfp] at hf
     cases hf
   ·rw[hnt]
    show _+(_+if (-1:Int)<0 then 1 else 0)=i+1
    rw[if_pos (by omega)]
    omega
 ·obtain⟨near,far,rfl,hl,hj,h1,h2,h3⟩:=hz
  have hff:far=xg_ g ps:=f2_ λj=>by
   rw[hj]
   split
   ·rfl
   ·rw[b8_ (by rw[f1_];omega),b8_ (by omega)]
  subst hff
  rw[h0_ (by omega)] at h3
  refine⟨_,by simp only[dnl,a2_];rfl,?_⟩
  simp only
  rw[ru_ (by omega) (by omega),a0_,c1_]
  refine tp_ es.length (λ(i:Nat) (z:Int×(List (List Int)×Unit))=>∃ bk,z=((i:Int),(bk,()))∧BkI (esQ Q es) ps.length i bk) ⟨_,rfl,f1_,λt l hl => ?_⟩ (λi z hi hz => ?_) (λz hz => ?_)
  ·rw[h4_] at hl
   split at hl
   ·obtain rfl:=a6_ hl
    exact⟨i4_ _,λy=>⟨(λh=>by cases h),λ⟨j,h,_⟩=>by omega⟩⟩
   ·cases hl
  ·obtain⟨bk,rfl,hb1,hb2⟩:=hz
   obtain⟨row,hrow⟩:=bb_ hi
   have hrl:=hG.eL row (au_ hrow)
   simp only[dlt hi,a5_,ah_ hrow,a0_]
   have:=tp_ (υ:=(Int×(List (List Int)×Unit))⊕(List (List Int)×Unit)) row.length (λ(k:Nat) (z:Int×(List (List Int)×Unit))=>∃ bk',z=((k:Int),(bk',()))∧bk'.length=ps.length∧∀ (t:Nat) l,bk'[t]?=some l→l.length≤i * 480+k∧∀ y:Int,y ∈ l↔((∃ j:Nat,j<i∧y=(j:Int)∧∃ row,(esQ Q es)[j]?=some row∧∃ x ∈ row,x.2=(t:Int))∨(y=(i:Int)∧∃ x ∈ (row.take k).filter Q,x.2=(t:Int))))
    (body:=rowB (i:Int) row) (z0:=(0,(bk,()))) (K:=λv22=>some (inl ((w64 ((i:Int)+1)),(v22.1,())))) (Q:=λy=>∃ z',y=inl z'∧∃ bk,z'=(((i+1:Nat):Int),(bk,()))∧BkI (esQ Q es) ps.length (i+1) bk)
    ⟨bk,rfl,hb1,λt l hl=>⟨(hb2 t l hl).1,λy=>by
     rw[(hb2 t l hl).2 y,l2_,List.filter_nil]
     exact⟨.inl,λh=>h.elim id λ⟨_,x,h,_⟩=>(by cases h)⟩⟩⟩ (λk z hk hz => ?_) (λz hz => ?_)
   ·obtain⟨y,ey,z',rfl,bk2,rfl,hB⟩:=this
    exact⟨_,ey,bk2,rfl,hB⟩
   ·obtain⟨bk',rfl,hb3,hb4⟩:=hz
    obtain⟨x,hxk⟩:=bb_ hk
    obtain⟨x0,x1⟩:=hx row (au_ hrow) x (au_ hxk)
    obtain⟨l,hl⟩:=bb_ (l:=bk') (i:=x.2.toNat) (by omega)
    have hat:at? bk' x.2=some l:=by rw[show x.2=((x.2.toNat:Nat):Int) by omega];exact ah_ hl
    obtain⟨q1,q2⟩:=hb4 _ l hl
    refine⟨_,hR.st (i:Int) row k x bk' l hxk hat (by omega) (by omega),_,rfl,by cases Q x<;>simp[hb3],λt l' hl' => ?_⟩
    have htk:∀ y:Int,(∃ e ∈ (row.take (k+1)).filter Q,e.2=y)↔((∃ e ∈ (row.take k).filter Q,e.2=y)∨(Q x=true∧x.2=y)):=λy=>by
     rw[d7_,hxk,n4_]
     constructor
     ·rintro⟨e,he,h⟩
      rcases b3_.1 he with he | he
      ·exact .inl ⟨e,he,h⟩
      ·have h2:=c7_.1 he
       have:e=x:=by simpa using h2.1
       rw[this] at h h2
       exact .inr ⟨h2.2,h⟩
     ·rintro (⟨e,he,h⟩ | ⟨hq,h⟩)
      ·exact⟨e,h7_ _ he,h⟩
      ·exact⟨x,j4_ _ (c7_.2 ⟨by simp,hq⟩),h⟩
    have skip:∀ l',bk'[t]?=some l'→(Q x=true→x.2≠(t:Int))→l'.length≤i * 480+(k+1)∧∀ y:Int,y ∈ l'↔((∃ j:Nat,j<i∧y=(j:Int)∧∃ row,(esQ Q es)[j]?=some row∧∃ x ∈ row,x.2=(t:Int))∨(y=(i:Int)∧∃ x ∈ (row.take (k+1)).filter Q,x.2=(t:Int))):=λl' hl' hne=>by
     obtain⟨r1,r2⟩:=hb4 t l' hl'
     refine⟨by omega,λy => ?_⟩
     rw[r2 y,htk]
     constructor
     ·rintro (h | ⟨h,h'⟩)
      ·exact .inl h
      ·exact .inr ⟨h,.inl h'⟩
     ·rintro (h | ⟨h,h' | ⟨h1,h2⟩⟩)
      ·exact .inl h
      ·exact .inr ⟨h,h'⟩
      ·exact absurd h2 (hne h1)
    cases hQ:Q x with
    | false =>
     rw[hQ] at hl'
     exact skip l' hl' (λe=>by rw[hQ] at e;cases e)
    | true =>
     rw[hQ,a5_] at hl'
     by_cases ht:x.2.toNat=t
     ·rw[ht,e3_ (by omega)] at hl'
      obtain rfl:=a6_ hl'
      rw[ht] at q2
      have hxt:x.2=(t:Int):=by omega
      refine⟨by rw[a8_,d3_];omega,λy => ?_⟩
      rw[b3_,e6_,q2 y,htk]
      constructor
      ·rintro ((h | ⟨h,h'⟩) | h)
       ·exact .inl h
       ·exact .inr ⟨h,.inl h'⟩
       ·exact .inr ⟨h,.inr ⟨hQ,hxt⟩⟩
      ·rintro (h | ⟨h,h' | h'⟩)
       ·exact .inl (.inl h)
       ·exact .inl (.inr ⟨h,h'⟩)
       ·exact .inr h
     ·rw[b5_ ht] at hl'
      exact skip l' hl' (λ_=>by omega)
   ·obtain⟨bk',rfl,hb3,hb4⟩:=hz
    refine⟨_,hR.en (i:Int) row bk',_,rfl,_,rfl,bk',by simp only[az_ (show Sm i by show _≤1000000000;omega)],hb3,λt l hl => ?_⟩
    obtain⟨r1,r2⟩:=hb4 t l hl
    refine⟨by omega,λy => ?_⟩
    rw[r2 y,d9_]
    constructor
    ·rintro (⟨j,a,b⟩ | ⟨h,h'⟩)
     ·exact⟨j,by omega,b⟩
     ·exact⟨i,by omega,h,_,cu4 hrow,h'⟩
    ·rintro⟨j,a,b,row',c,d⟩
     rcases l7_ j i with hji | hji
     ·exact .inl ⟨j,hji,b,row',c,d⟩
     ·obtain rfl:j=i:=by omega
      rw[cu4 hrow] at c
      obtain rfl:=a6_ c
      exact .inr ⟨b,d⟩
  ·obtain⟨bk,rfl,hB⟩:=hz
   rw[← hesQ] at hB
   refine⟨_,by simp only[dnl,a2_];rfl,?_⟩
   simp only
   refine bj3 (λnear far=>BI (esQ Q es) (pu_ g ps) ps.length near far) (λnear far=>near.length+mu_ far) (λh tl far I => ?_) (λfar I => ?_) (cp9 h1 h2 h3)
   rotate_left
   ·exact⟨_,rfl,_,rfl,far,rfl,⟨I.len,BI_end I⟩,λi v h=>by have:=I.bd i v h;omega⟩
   obtain⟨d,hd,hd0⟩:=I.nr h (e1_ ..)
   obtain⟨hi,hhi,hdi⟩:=sn_ hd
   have hlt:=am_ hdi
   have hIl:=I.len
   have hIm:=I.ms
   have hIb:=I.bd hi d hdi
   obtain⟨bs,hbs⟩:=bb_ (l:=bk) (i:=hi) (by have:=hB.1;omega)
   have hbsl:=(hB.2 hi bs hbs).1
   rw[hesQ] at hbsl
   have hbe:=BkI_all hB hbs
   have hatb:at? bk h=some bs:=by rw[hhi];exact ah_ hbs
   have hat0:at? (h::tl) 0=some h:=rfl
   have hsub:sub? (h::tl) 1 ((h::tl).length:Int)=some tl:=by
    unfold sub?
    rw[if_pos ⟨by omega,by rw[c4_];omega,m9_ _⟩,c1_,d9_]
    rfl
   simp only[show decide ((0:Int)<((h::tl).length:Int))=true from b6_ (by rw[c4_];omega),a5_,hat0,hsub,hatb,a0_]
   refine tp_ bs.length (λ(k:Nat) (z:List Int×(Int×(List Int×Unit)))=>∃ pu far',z=(tl++pu,((k:Int),(far',())))∧AI bs d far k pu far') ⟨[],far,by rw[e7_];rfl,cq0 bs d far⟩ (λk z hk hz => ?_) (λz hz => ?_)
   ·obtain⟨pu,far',rfl,A⟩:=hz
    obtain⟨y,hy⟩:=bb_ hk
    obtain⟨j,hj2,row,hrow,x,hxr,hxe⟩:=(hbe y).1 (au_ hy)
    have hrow':=am_ hrow
    rw[hesQ] at hrow'
    have hAl:=A.len
    have hAm:=A.ms
    obtain⟨v,hv⟩:=bb_ (l:=far') (i:=j) (by omega)
    have hvy:at? far' y=some v:=by rw[hj2];exact ah_ hv
    have hdh:at? far' h=some d:=by rw[hhi];exact ah_ (A.keep hi d hdi hd0)
    rw[c4_] at hIm
    by_cases hv0:v<0
    ·refine⟨_,?_,pu++[y],_,rfl,AI_add hd0 A hy hvy hv0⟩
     simp only[dlt hk,a5_,ah_ hy,hvy,hdh,a0_,b6_ hv0,ch_ (show Sm (tl++pu).length by rw[a8_];show _≤1000000000;omega),az_ (show Sm k by show _≤1000000000;omega),b4_,ez_ (n:=d+1) (by omega) (by omega)]
    ·refine⟨_,?_,pu,far',rfl,AI_skip A hy hvy (by omega)⟩
     simp only[dlt hk,a5_,ah_ hy,hvy,a0_,b9_ hv0,a2_,az_ (show Sm k by show _≤1000000000;omega)]
   ·obtain⟨pu,far',rfl,A⟩:=hz
    refine⟨_,by simp only[dnl,a2_];rfl,_,rfl,_,_,rfl,BI_step (by rw[hesQ,hes]) hxQ I hd (λy=>by rw[hhi];exact hbe y) A,?_⟩
    have:=A.ms
    show (tl++pu).length+mu_ far'<(h::tl).length+mu_ far
    rw[a8_,c4_]
    omega
theorem bt8 {rowB} {Q:ac_→Bool} (hR:RowOk rowB Q) {g:ad_} (hg:SmG g) (h0:cl_ g=0) {ps:List aa_} {es:List (List ac_)} (hG:GI g ps es) (hes:es.length=ps.length):∃ D,(D.length=ps.length∧LC (esQ Q es) (pu_ g ps) D)∧(∀ (i:Nat) (v:Int),D[i]?=some v→v≤(ps.length:Int))∧∀ {τ:Type} (K:List Int×Unit→Option τ),meaG rowB g (ps,es) K=K (D,()):=by
 obtain⟨y,e,D,rfl,h,hb⟩:=ck9 hR hg h0 hG hes
 refine⟨D,h,hb,λK => ?_⟩
 rw[bt9,e,a0_]
theorem rowE_ok:RowOk rowE (λ_=>true):=by
 refine⟨λi row k x bk l hx hl h1 h2 => ?_,λi row bk => ?_⟩
 ·unfold rowE
  simp only[dlt (am_ hx),a5_,ah_ hx,a0_,hl,ch_ (show Sm l.length by show _≤1000000000;omega),e2_,i1_,az_ (show Sm k by show _≤1000000000;omega)]
 ·unfold rowE
  simp only[dnl,a2_]
theorem cn4 (es:List (List ac_)):esQ (λ_=>true) es=es:=by
 unfold esQ
 refine e5_ (m6_ λl hl => ?_) (List.map_id _)
 exact m8_.2 λx hx=>rfl
theorem cs9 {g:ad_} (hg:SmG g) (h0:cl_ g=0) {ps:List aa_} {es:List (List ac_)} (hG:GI g ps es) (hes:es.length=ps.length):∃ D,(D.length=ps.length∧LC es (pu_ g ps) D)∧(∀ (i:Nat) (v:Int),D[i]?=some v→v≤(ps.length:Int))∧∀ {τ:Type} (K:List Int×Unit→Option τ),meaK g (ps,es) K=K (D,()):=by
 have:=bt8 rowE_ok hg h0 hG hes
 rw[cn4] at this
 exact this
end
section
set_option maxRecDepth 10000
theorem au1 (g:ad_):∃ b,jp_ g=some (b,())∧(b=false→SmG g):=by
  obtain⟨b,e,hb⟩:=bv3 g
  unfold jp_
  rw[e,a0_]
  cases b with
  | true=>exact⟨true,by simp only[a5_,a0_,e],λh=>by cases h⟩
  | false =>
  have hg:=hb rfl
  simp only[a2_]
  rw[vx_ hg,a0_,a0_]
  cases hc:cl_ g != 0 with
  | true=>exact⟨false,by simp only[a5_,e,a0_],λ_=>hg⟩
  | false =>
  simp only[a2_]
  have key:∀ c:Bool,∃ b,(((some (c,()):Option (Bool×Unit))).bind λv4 =>
 (cond v4.1
 (some (true,()))
 ((dz_ g).bind λv5 =>
 (cond (v5.2.1==2)
 (some (true,()))
 (some ((decide (200<(v5.1.1.length:Int))),()))))))=some (b,())∧(b=false→SmG g):=λc=>by
    rw[a0_,mp_ hg,a0_]
    cases c with
    | true=>exact⟨true,rfl,λ_=>hg⟩
    | false =>
      cases hE:(exG g).2.1==2 with
      | true=>exact⟨true,by simp only[a2_,hE,a5_],λ_=>hg⟩
      | false=>exact⟨_,by simp only[a2_,hE];rfl,λ_=>hg⟩
  have one:∀ (c:Bool) (o:Option (Bool×Unit)),(∃ d,o=some (d,()))→∃ d,cond c (some (true,())) o=some (d,()):=λc o h=>by
    cases c with
    | true=>exact⟨true,rfl⟩
    | false=>exact h
  obtain⟨d,hd⟩:=one (decide (4<(g.1.1.length:Int))) _ (one (decide (4<(g.1.2.1.length:Int))) _ (one (decide (3<(g.1.2.2.1.length:Int))) _ (one (decide (2<g.1.2.2.2.2.2.2.1)) _ (one (decide (6<(g.1.2.2.2.2.1.length:Int))) _ (one (decide (4<(g.1.2.2.2.2.2.1.length:Int))) _ (one (decide (5<(g.2.2.2.1.length:Int))) _ ⟨decide (3<(g.2.1.length:Int)),rfl⟩))))))
  rw[hd]
  exact key d
end
section
set_option maxRecDepth 10000
noncomputable def shoX (G:cf_) (v40:List Int×Unit):Option (List ag_×(Int×Unit)) :=
 ((at? v40.1 0).bind λv41 =>
 ((at? v40.1 0).bind λv42 =>
 (cond (decide (v42<0))
 (some ([],(50,())))
 ((af_ (ρ:=(((List ag_)×Unit)×Unit)) (λ(v43:(Int×(((List ag_)×Unit)×Unit))) =>
 ((at? v40.1 v43.1).bind λv44 =>
 ((at? v40.1 v43.1).bind λv45 =>
 (cond (decide (0<v45))
 ((((at? G.2 v43.1).bind λv46 =>
 ((af_ (ρ:=(((List Int)×(Unit×(((List ag_)×Unit)×Unit)))⊕((List Int)×(((List ag_)×Unit)×Unit)))) (λ(v47:(Int×((List Int)×(Unit×(((List ag_)×Unit)×Unit))))) =>
 (cond (decide (v47.1<(v46.length:Int)))
 ((at? v46 v47.1).bind λv48 =>
 ((at? v40.1 v48.2).bind λv49 =>
 ((at? v40.1 v48.2).bind λv50 =>
 ((at? v40.1 v43.1).bind λv51 =>
 ((at? v40.1 v43.1).bind λv52 =>
 (cond (v50==(w64 (v52 - 1)))
 ((at? v40.1 v43.1).bind λv53 =>
 ((at? v40.1 v43.1).bind λv54 =>
 (cond (decide (0<v54))
 ((push? (α:=ag_) v47.2.2.2.1.1 [v48.1]).bind λv55 =>
 ((at? v47.2.1 0).bind λv56 =>
 (some (inr (inr ((v47.2.1.set (0:Int).toNat v48.2),((v55,()),())))))))
 (some (inl ((w64 (v47.1+1)),(v47.2.1,((),((v47.2.2.2.1.1,()),())))))))))
 (some (inl ((w64 (v47.1+1)),(v47.2.1,((),((v47.2.2.2.1.1,()),()))))))))))))
 (some (inr (inl (v47.2.1,((),((v47.2.2.2.1.1,()),())))))))) (0,([v43.1],((),((v43.2.1.1,()),()))))).bind λv57 =>
 (cg_ v57 (λv58=>(some (v58.1,((v58.2.2.1.1,()),()))))
 (λv59=>(some v59)))))).bind λv60 =>
 ((at? v60.1 0).bind λv61 =>
 (some (inl (v61,((v60.2.1.1,()),()))))))
 (some (inr ((v43.2.1.1,()),()))))))) (0,(([],()),()))).bind λv62 =>
 (some (v62.1.1,(0,())))))))
theorem cg8:dv_=λa0=>(dn_ a0).bind λv0=>cond (v0.2.1 != 0) (cond (v0.2.1 != 0) (some ([],(v0.2.1,()))) none) (meaK a0 v0.1 λv40=>shoX v0.1 v40):=by
 kernel_rfl
def shp (es:List (List ac_)) (D:List Int):Nat→Int→List ag_
 | 0,_=>[]
 | k+1,i=>match ((at? es i).getD []).find? (λx=>gi D x.2==(k:Int)) with
  | none=>[]
  | some x=>x.1::shp es D k x.2
theorem yt_ {α ρ:Type} {q:α→Bool} {f:α→ρ}:∀ (m:List α) (k:Nat),gb_ (λ_ y=>cond (q y) (some (f y)) none) k m=(m.find? q).map f
 | [],_=>rfl
 | x::m,k=>by
  unfold gb_
  cases hq:q x with
  | true=>rw[List.find?_cons_of_pos hq];rfl
  | false =>
   rw[List.find?_cons_of_neg (by rw[hq];decide)]
   exact yt_ m (k+1)
theorem bj2 {σ ρ υ:Type} {body:σ→Option (σ⊕ρ)} {s:σ} {r:ρ} {K:ρ→Option υ} {x:Option υ} (h:af_ body s=some r) (hk:K r=x):(af_ body s).bind K=x:=by
 rw[h,a0_,hk]
theorem am0 {σ ρ:Type} (F:Int→List ag_→σ) (G:List ag_→ρ) {es:List (List ac_)} {fin:Nat→Bool} {D:List Int} (hL:LC es fin D) (hD:D.length≤3000) (hxx:∀ l ∈ es,∀ x ∈ l,0≤x.2∧x.2<(D.length:Int)) {body:σ→Option (σ⊕ρ)}
  (hz:∀ i acc,at? D i=some 0→body (F i acc)=some (.inr (G acc)))
  (hs:∀ (i:Int) (k:Nat) acc row x,at? D i=some ((k+1:Nat):Int)→k≤1000000→acc.length≤1000000→at? es i=some row→row.find? (λx=>gi D x.2==(k:Int))=some x→body (F i acc)=some (.inl (F x.2 (acc++[x.1])))) :
  ∀ (k:Nat) (i:Int) (acc:List ag_),at? D i=some (k:Int)→acc.length+k≤1000000→af_ body (F i acc)=some (G (acc++shp es D k i))
 | 0,i,acc,h,_=>by
  unfold shp
  rw[e7_]
  exact br_ (hz i acc h)
 | k+1,i,acc,h,hk=>by
  obtain⟨n,rfl,hn⟩:=sn_ h
  obtain⟨l,x,hl,hx,hat⟩:=hL.dn n k hn
  have hatl:at? es (n:Int)=some l:=ah_ hl
  cases hf:l.find? (λx=>gi D x.2==(k:Int)) with
  | none =>
   have:=List.find?_eq_none.1 hf x hx
   rw[jf_ hat] at this
   simp at this
  | some y =>
   have hy:gi D y.2=(k:Int):=by
    have:=List.find?_some hf
    exact f5_.1 this
   obtain⟨y0,y1⟩:=hxx l (au_ hl) y (p2_ hf)
   have haty:at? D y.2=some (k:Int):=by rw[nd_ y0 y1,hy]
   have:=am0 F G hL hD hxx hz hs k y.2 (acc++[y.1]) haty (by rw[a8_,d3_];omega)
   refine bp_ (hs (n:Int) k acc l y h (by omega) (by omega) hatl hf) ?_
   have e:shp es D (k+1) (n:Int)=y.1::shp es D k y.2:=by
    rw[shp,hatl,f3_,hf]
   rw[this,e,b4_]
   rfl
theorem shoX_eq {ps:List aa_} {es:List (List ac_)} {fin:Nat→Bool} {D:List Int} (hL:LC es fin D) (hD:D.length≤3000) (h1:1≤D.length) (hb:∀ (i:Nat) (v:Int),D[i]?=some v→v≤(D.length:Int)) (hes:es.length=D.length) (hel:∀ l ∈ es,l.length≤480) (hxx:∀ l ∈ es,∀ x ∈ l,0≤x.2∧x.2<(D.length:Int)) :
  shoX (ps,es) (D,())=some (cond (decide (gi D 0<0)) ([],(50,())) (shp es D (gi D 0).toNat 0,(0,()))):=by
 unfold shoX
 have h0:at? D 0=some (gi D 0):=nd_ (by omega) (by omega)
 simp only[h0,a0_]
 cases hc:decide (gi D 0<0) with
 | true=>rfl
 | false =>
 have hc:=e0_ hc
 have hle:gi D 0≤(D.length:Int):=by
  obtain⟨i,_,hi⟩:=sn_ h0
  exact hb i _ hi
 simp only[a2_]
 refine bj2 (r:=((shp es D (gi D 0).toNat 0,()),())) ?_ rfl
 refine am0 (F:=λi acc=>(i,((acc,()),()))) (G:=λacc=>((acc,()),())) hL hD hxx (λi acc h => ?_) (λi k acc row x h hk ha hrow hf => ?_) (gi D 0).toNat 0 [] (by rw[h0];congr 1;omega) (by show 0+_≤_;omega)
 ·simp only[h,a0_]
  rfl
 ·have hrl:row.length≤480:=by
   obtain⟨j,_,hj⟩:=sn_ hrow
   exact hel row (au_ hj)
  simp only[h,a0_,show decide ((0:Int)<((k+1:Nat):Int))=true from b6_ (by omega),a5_,hrow]
  refine e5_ (congrArg (λo=>Option.bind o _) (bo_ row (λ_ y=>cond (gi D y.2==(k:Int)) (some (inr ([y.2],((acc++[y.1],()),())):((List Int)×(Unit×(((List ag_)×Unit)×Unit)))⊕((List Int)×(((List ag_)×Unit)×Unit)))) none) (λj=>((j:Int),([i],((),((acc,()),()))))) (r0:=inl ([i],((),((acc,()),())))) (x:=some ([x.2],((acc++[x.1],()),()))) (λj y hy => ?_) ?_ ?_)) ?_
  ·obtain⟨jr,_,hj⟩:=sn_ hrow
   obtain⟨y0,y1⟩:=hxx row (au_ hj) y (au_ hy)
   have hjl:=am_ hy
   simp only[dlt hjl,a5_,ah_ hy,nd_ y0 y1,a0_,ez_ (n:=((k+1:Nat):Int) - 1) (by omega) (by omega),show ((k+1:Nat):Int) - 1=(k:Int) by omega,ez_ (n:=(k:Int)) (by omega) (by omega),az_ (show Sm j by show _≤1000000000;omega),ch_ (show Sm acc.length by show _≤1000000000;omega)]
   cases gi D y.2==(k:Int)<;>rfl
  ·simp only[dnl,a2_]
  ·rw[yt_,hf]
   rfl
  ·rfl
theorem au6 (g:ad_) (p:aa_):∀ (ms:List ag_) (e e':List ac_) (ps ps':List aa_),inn g p ms e ps=some (e',ps')→ps.length≤ps'.length
 | [],e,e',ps,ps',h=>by
  unfold inn at h
  obtain⟨_,rfl⟩:=h6_ (a6_ h)
  exact c3_ _
 | m::ms,e,e',ps,ps',h=>by
  unfold inn at h
  cases hw:wh ps ((stepP g p m).getD eP) with
  | some n =>
   simp only[hw] at h
   exact au6 g p ms _ _ _ _ h
  | none =>
   simp only[hw] at h
   split at h
   ·cases h
   ·have:=au6 g p ms _ _ _ _ h
    rw[a8_] at this
    omega
theorem bq7 (g:ad_):∀ (n i:Nat) (ps ps':List aa_) (es es':List (List ac_)),out g n i ps es=some (ps',es')→ps.length≤ps'.length
 | 0,i,ps,ps',es,es',h=>by
  unfold out at h
  obtain⟨rfl,_⟩:=h6_ (a6_ h)
  exact c3_ _
 | n+1,i,ps,ps',es,es',h=>by
  unfold out at h
  cases hp:ps[i]? with
  | none =>
   simp only[hp] at h
   obtain⟨rfl,_⟩:=h6_ (a6_ h)
   exact c3_ _
  | some p =>
   simp only[hp] at h
   cases hin:inn g p (pmv g p) [] ps with
   | none=>simp only[hin] at h;cases h
   | some z =>
    simp only[hin] at h
    exact c6_ (au6 g p _ _ _ _ _ hin) (bq7 g n _ _ _ _ _ h)
theorem by8 {g:ad_} (he:(exG g).2.1=0):1≤(exG g).1.1.length:=by
 unfold exG at he ⊢
 cases hb:(uf_ g).2.1 != 0 with
 | true =>
  rw[hb] at he
  rw[n8_] at hb
  exact absurd he hb
 | false =>
 rw[hb,a2_] at he
 cases ho:out g 3001 0 [(uf_ g).1] [] with
 | none =>
  rw[ho] at he
  exact absurd (show (2:Int)=0 from he) (by decide)
 | some z=>exact bq7 g _ _ _ _ _ _ ho
theorem qr_ {g:ad_} (hg:SmG g):∃ D,(((exG g).2.1≠0∧dv_ g=some ([],((exG g).2.1,())))∨((exG g).2.1=0∧D.length=(exG g).1.1.length∧LC (exG g).1.2 (pu_ g (exG g).1.1) D∧dv_ g=some (cond (decide (gi D 0<0)) ([],(50,())) (shp (exG g).1.2 D (gi D 0).toNat 0,(0,()))))):=by
 rw[cg8]
 simp only
 rw[mr_ hg,a0_]
 cases hE:(exG g).2.1 != 0 with
 | true =>
  rw[n8_] at hE
  exact⟨[],.inl ⟨hE,rfl⟩⟩
 | false =>
 have hE:(exG g).2.1=0:=by simpa using hE
 obtain⟨h0,hG,hes⟩:=cu3 hg hE
 obtain⟨D,h1,hb,h2⟩:=cs9 hg h0 hG hes
 have hpos:=by8 hE
 have hn:=hG.pI.n
 refine⟨D,.inr ⟨hE,h1.1,h1.2,?_⟩⟩
 simp only[a2_]
 rw[show (exG g).1=((exG g).1.1,(exG g).1.2) from rfl,h2]
 exact shoX_eq h1.2 (by rw[h1.1];exact hn) (by rw[h1.1];exact hpos) (by rw[h1.1];exact hb) (by rw[h1.1];exact hes) hG.eL (λl hl x hx=>by rw[h1.1];exact (hG.eI l hl x hx).1)
def g0:ad_:=(([[104,97,108,108],[118,97,117,108,116]],([([98,111,120],(0,(2,0))),([100,111,111,114],(0,(2,0)))],([([107,101,121],(0,[(0,(1,false))]))],([(0,(1,[(1,(1,false))]))],([([111,112,101,110],(0,(0,([],([],([(0,1)],([],[]))))))),([116,117,114,110],(0,((-1),([0],([],([(1,1)],([0],[])))))))],([],(1,[(1,(1,false))]))))))),([(2,4)],([[3,1]],([([108,101,97,102],(0,(0,([],(2,(0,(1,(4,(0,([],false)))))))))),([98,97,99,107],(0,(0,([(0,(0,false))],(3,(1,(0,(0,(0,([],false)))))))))),([99,97,114,100],(1,((-1),([],(0,(0,(0,(0,(0,([],false))))))))))],1))))
end
section
set_option maxRecDepth 10000
noncomputable def dst (es:List (List ac_)) (fin:Nat→Bool) (n:Nat):List Int:=Classical.epsilon λD=>D.length=n∧LC es fin D
theorem cv0 {es:List (List ac_)} {fin:Nat→Bool} {n:Nat} {D:List Int} (h1:D.length=n) (h2:LC es fin D):dst es fin n=D:=by
 have h:(dst es fin n).length=n∧LC es fin (dst es fin n):=Classical.epsilon_spec (p:=λD:List Int=>D.length=n∧LC es fin D) ⟨D,h1,h2⟩
 exact aw4 h.2 h2 (by omega)
section
variable {g:ad_} (hg:SmG g) (h0:cl_ g=0) {ps:List aa_} {es:List (List ac_)} (hG:GI g ps es) (hes:es.length=ps.length)
include hg h0 hG hes
theorem cu9 (act:Int):(dst (esF act es) (pu_ g ps) ps.length).length=ps.length∧LC (esF act es) (pu_ g ps) (dst (esF act es) (pu_ g ps) ps.length):=by
 obtain⟨D,e,h1,h2⟩:=ug_ hg h0 hG hes act
 rw[cv0 h1 h2]
 exact⟨h1,h2⟩
end
def rowQ (Q:ac_→Bool) (i:Int) (row:List ac_) (z:Int×(List (List Int)×Unit)):Option ((Int×(List (List Int)×Unit))⊕(List (List Int)×Unit)):=match at? row z.1 with
 | none=>some (.inr (z.2.1,()))
 | some x=>some (.inl (w64 (z.1+1),(cond (Q x) (z.2.1.set x.2.toNat ((at? z.2.1 x.2).getD []++[i])) z.2.1,())))
theorem rowQ_ok (Q:ac_→Bool):RowOk (rowQ Q) Q:=by
 refine⟨λi row k x bk l hx hl h1 h2 => ?_,λi row bk => ?_⟩
 ·unfold rowQ
  simp only[ah_ hx,hl,f3_,az_ (show Sm k by show _≤1000000000;omega)]
 ·unfold rowQ
  simp only[ao7 (c3_ row.length)]
theorem dst_le {g:ad_} (hg:SmG g) (h0:cl_ g=0) {ps:List aa_} {es:List (List ac_)} (hG:GI g ps es) (hes:es.length=ps.length) (act:Int):∀ (i:Nat) (v:Int),(dst (esF act es) (pu_ g ps) ps.length)[i]?=some v→v≤(ps.length:Int):=by
 obtain⟨D,⟨h1,h2⟩,h3,_⟩:=bt8 (rowQ_ok (kp act)) hg h0 hG hes
 rw[show dst (esF act es) (pu_ g ps) ps.length=D from cv0 h1 h2]
 exact h3
end
section
set_option maxRecDepth 10000
def Pa (es:List (List ac_)):Nat→List ac_→Nat→Prop
 | i,[],j=>i=j
 | i,x::xs,j=>∃ row,es[i]?=some row∧x ∈ row∧∃ n:Nat,x.2=(n:Int)∧Pa es n xs j
theorem LC_pa {es:List (List ac_)} {fin:Nat→Bool} {D:List Int} (hL:LC es fin D):∀ (xs:List ac_) (i j:Nat),Pa es i xs j→fin j=true→j<D.length→∃ k:Nat,D[i]?=some (k:Int)∧k≤xs.length
 | [],i,j,h,hf,hj=>by
  obtain rfl:i=j:=h
  obtain⟨v,hv⟩:=bb_ hj
  have:=(hL.z i v hv).2 hf
  exact⟨0,by rw[hv,this];rfl,c3_ _⟩
 | x::xs,i,j,h,hf,hj=>by
  obtain⟨row,h1,h2,n,h3,h4⟩:=h
  obtain⟨k,h5,h6⟩:=LC_pa hL xs n j h4 hf hj
  obtain⟨v,h7,h8,h9⟩:=hL.up i row x k h1 h2 (by rw[h3];exact ah_ h5)
  obtain⟨m,rfl⟩:=q0_ h8
  exact⟨m,h7,by rw[c4_];omega⟩
theorem wg_ {es:List (List ac_)} {act:Int}:∀ (xs:List ac_) (i j:Nat),Pa es i xs j→(∀ x ∈ xs,kp act x=true)→Pa (esF act es) i xs j
 | [],i,j,h,_=>h
 | x::xs,i,j,h,hk=>by
  obtain⟨row,h1,h2,n,h3,h4⟩:=h
  exact⟨row.filter (kp act),by9 h1,c7_.2 ⟨h2,hk x (by simp)⟩,n,h3,wg_ xs n j h4 λy hy=>hk y (by simp[hy])⟩
theorem qs_ {es:List (List ac_)} {act:Int}:∀ (xs:List ac_) (i j:Nat),Pa (esF act es) i xs j→Pa es i xs j∧∀ x ∈ xs,kp act x=true
 | [],i,j,h=>⟨h,λx hx=>by simp at hx⟩
 | x::xs,i,j,h=>by
  obtain⟨row,h1,h2,n,h3,h4⟩:=h
  obtain⟨g1,g2⟩:=qs_ xs n j h4
  have h1':(es[i]?).map (λl=>l.filter (kp act))=some row:=by
   rw[← h1]
   unfold esF
   rw[d8_]
  cases hr:es[i]? with
  | none=>rw[hr] at h1';cases h1'
  | some r0 =>
   rw[hr] at h1'
   obtain rfl:r0.filter (kp act)=row:=a6_ h1'
   obtain⟨m1,m2⟩:=c7_.1 h2
   refine⟨⟨r0,hr,m1,n,h3,g1⟩,λy hy => ?_⟩
   rcases d0_.1 hy with rfl | hy
   ·exact m2
   ·exact g2 y hy
theorem bn1 {es:List (List ac_)} {fin:Nat→Bool} {D:List Int} (hL:LC es fin D) (hxx:∀ l ∈ es,∀ x ∈ l,0≤x.2∧x.2<(D.length:Int)):∀ (k i:Nat),D[i]?=some (k:Int)→∃ xs j,Pa es i xs j∧shp es D k (i:Int)=xs.map (·.1)∧fin j=true∧j<D.length∧xs.length=k
 | 0,i,h=>⟨[],i,rfl,rfl,(hL.z i 0 h).1 rfl,(a3_.1 h).1,rfl⟩
 | k+1,i,h=>by
  obtain⟨l,x,hl,hx,hat⟩:=hL.dn i k h
  have hatl:at? es (i:Int)=some l:=ah_ hl
  cases hf:l.find? (λx=>gi D x.2==(k:Int)) with
  | none =>
   have:=List.find?_eq_none.1 hf x hx
   rw[jf_ hat] at this
   simp at this
  | some y =>
   have hy:gi D y.2=(k:Int):=by
    have:=List.find?_some hf
    exact f5_.1 this
   have hyl:=p2_ hf
   obtain⟨y0,y1⟩:=hxx l (au_ hl) y hyl
   have haty:at? D y.2=some (k:Int):=by rw[nd_ y0 y1,hy]
   obtain⟨n,hn,hn2⟩:=sn_ haty
   obtain⟨xs,j,g1,g2,g3,g4,g5⟩:=bn1 hL hxx k n hn2
   refine⟨y::xs,j,⟨l,hl,hyl,n,hn,g1⟩,?_,g3,g4,by rw[c4_,g5]⟩
   rw[shp,hatl,f3_,hf,g5_]
   show y.1::shp es D k y.2=_
   rw[hn,g2]
theorem lgl_who {r:ae_} {s:ai_} {i k j:Int} (h:lgl r s (i,(k,j))=true) (hs:s.2.2.length≤1000000):∃ n:Nat,i=(n:Int)∧n<s.2.2.length:=by
 unfold lgl at h
 rw[a1_] at h
 have h:=h.1
 have h0:wi i 0 (w64 ((s.2.2.length:Int) - 1))=true:=h
 unfold wi at h0
 rw[ez_ (n:=(s.2.2.length:Int) - 1) (by omega) (by omega)] at h0
 simp only[a1_,decide_eq_true_eq] at h0
 obtain⟨n,rfl⟩:=q0_ h0.1
 exact⟨n,rfl,by omega⟩
def RowI (g:ad_) (p:aa_) (ps:List aa_) (row:List ac_):Prop:=∀ x ∈ row,∃ q n,stepP g p x.1=some q∧x.2=((n:Nat):Int)∧ps[n]?=some q
theorem ap0 {g:ad_} {p:aa_} {ps ps':List aa_} {row:List ac_} (h:RowI g p ps row) (hp:∀ (n:Nat) q,ps[n]?=some q→ps'[n]?=some q):RowI g p ps' row:=λx hx=>by
 obtain⟨q,n,h1,h2,h3⟩:=h x hx
 exact⟨q,n,h1,h2,hp n q h3⟩
theorem au5 {g:ad_} {p:aa_}:∀ (ms:List ag_) (e e':List ac_) (ps ps':List aa_),(∀ m ∈ ms,∃ q,stepP g p m=some q)→RowI g p ps e→inn g p ms e ps=some (e',ps') →
  RowI g p ps' e'∧e'.map (·.1)=e.map (·.1)++ms∧∀ (n:Nat) q,ps[n]?=some q→ps'[n]?=some q
 | [],e,e',ps,ps',hm,hr,h=>by
  unfold inn at h
  cases h
  exact⟨hr,by simp,λn q h=>h⟩
 | m::ms,e,e',ps,ps',hm,hr,h=>by
  obtain⟨q,hq⟩:=hm m (by simp)
  unfold inn at h
  rw[hq,f3_] at h
  cases hw:wh ps q with
  | some n =>
   rw[hw] at h
   have hn:=bk7 hw
   obtain⟨h1,h2,h3⟩:=au5 ms _ e' ps ps' (λx hx=>hm x (by simp[hx])) (λx hx=>by
    rcases b3_.1 hx with hx | hx
    ·exact hr x hx
    ·simp at hx;subst hx;exact⟨q,n,hq,rfl,hn⟩) h
   exact⟨h1,by rw[h2];simp,h3⟩
  | none =>
   rw[hw] at h
   simp only at h
   by_cases hl:ps.length=3000
   ·rw[if_pos hl] at h;cases h
   ·rw[if_neg hl] at h
    have hp:∀ (n:Nat) z,ps[n]?=some z→(ps++[q])[n]?=some z:=λn z hz=>by
     rw[b2_ (a3_.1 hz).1]
     exact hz
    obtain⟨h1,h2,h3⟩:=au5 ms _ e' _ ps' (λx hx=>hm x (by simp[hx])) (λx hx=>by
     rcases b3_.1 hx with hx | hx
     ·exact ap0 hr hp x hx
     ·simp at hx;subst hx;exact⟨q,ps.length,hq,rfl,by simp⟩) h
    exact⟨h1,by rw[h2];simp,λn z hz=>h3 n z (hp n z hz)⟩
def GE (g:ad_) (ps:List aa_) (es:List (List ac_)):Prop:=∀ (i:Nat) row,es[i]?=some row→∃ p,ps[i]?=some p∧row.map (·.1)=pmv g p∧RowI g p ps row
theorem bq6 {g:ad_}:∀ (n i:Nat) (ps ps':List aa_) (es es':List (List ac_)),es.length=i→GE g ps es→out g n i ps es=some (ps',es')→GE g ps' es'∧∀ (k:Nat) q,ps[k]?=some q→ps'[k]?=some q
 | 0,i,ps,ps',es,es',hl,hG,h=>by
  unfold out at h
  cases h
  exact⟨hG,λk q h=>h⟩
 | n+1,i,ps,ps',es,es',hl,hG,h=>by
  unfold out at h
  cases hp:ps[i]? with
  | none =>
   rw[hp] at h
   cases h
   exact⟨hG,λk q h=>h⟩
  | some p =>
   rw[hp] at h
   simp only at h
   cases hi:inn g p (pmv g p) [] ps with
   | none=>rw[hi] at h;cases h
   | some z =>
    obtain⟨e,ps1⟩:=z
    rw[hi] at h
    simp only at h
    obtain⟨h1,h2,h3⟩:=au5 (pmv g p) [] e ps ps1 (λm hm=>pn_ hm) (λx hx=>by simp at hx) hi
    have hG1:GE g ps1 (es++[e]):=λj row hj=>by
     by_cases hjl:j<es.length
     ·rw[b2_ hjl] at hj
      obtain⟨p',g1,g2,g3⟩:=hG j row hj
      exact⟨p',h3 j p' g1,g2,ap0 g3 h3⟩
     ·have hj':j=es.length:=by
       have:=(a3_.1 hj).1
       rw[a8_,d3_] at this
       omega
      subst hj'
      rw[c5_ (c3_ _),k8_] at hj
      obtain rfl:e=row:=a6_ hj
      exact⟨p,h3 _ p (by rw[hl];exact hp),by rw[h2];simp,h1⟩
    obtain⟨k1,k2⟩:=bq6 n (i+1) ps1 ps' (es++[e]) es' (by rw[a8_,d3_,hl]) hG1 h
    exact⟨k1,λk q hq=>k2 k q (h3 k q hq)⟩
theorem exG_GE {g:ad_} (he:(exG g).2.1=0):GE g (exG g).1.1 (exG g).1.2∧(exG g).1.1[0]?=some (uf_ g).1∧(uf_ g).2.1=0:=by
 unfold exG at he ⊢
 cases hb:(uf_ g).2.1 != 0 with
 | true =>
  rw[hb] at he
  have he:(uf_ g).2.1=0:=he
  rw[he] at hb
  cases hb
 | false =>
  rw[hb] at he
  simp only[a2_] at he ⊢
  cases ho:out g 3001 0 [(uf_ g).1] [] with
  | none=>rw[ho] at he;cases he
  | some z =>
   obtain⟨ps,es⟩:=z
   obtain⟨h1,h2⟩:=bq6 3001 0 _ ps [] es rfl (λi row h=>by simp at h) ho
   exact⟨h1,h2 0 _ rfl,by simpa using hb⟩
section
variable {g:ad_} (hg:SmG g) (he:(exG g).2.1=0)
noncomputable def dstG (g:ad_) (act:Int):List Int:=dst (esF act (exG g).1.2) (pu_ g (exG g).1.1) (exG g).1.1.length
structure Gr (g:ad_):Prop where
 h0:cl_ g=0
 gI:GI g (exG g).1.1 (exG g).1.2
 ge:GE g (exG g).1.1 (exG g).1.2
 len:(exG g).1.2.length=(exG g).1.1.length
 n:(exG g).1.1.length≤3000
 pos:1≤(exG g).1.1.length
 p0:(exG g).1.1[0]?=some (uf_ g).1
 e0:(uf_ g).2.1=0
 dl:∀ act,(dstG g act).length=(exG g).1.1.length
 dc:∀ act,LC (esF act (exG g).1.2) (pu_ g (exG g).1.1) (dstG g act)
 db:∀ act (i:Nat) (v:Int),(dstG g act)[i]?=some v→v≤((exG g).1.1.length:Int)
 xx:∀ l ∈ (exG g).1.2,∀ x ∈ l,0≤x.2∧x.2<((exG g).1.1.length:Int)
 al:esF (-1) (exG g).1.2=(exG g).1.2
include hg he
theorem exG_Gr:Gr g:=by
 obtain⟨h0,hG,hes⟩:=cu3 hg he
 obtain⟨k1,k2,k3⟩:=exG_GE he
 exact⟨h0,hG,k1,hes,hG.pI.n,by8 he,k2,k3,λact=>(cu9 hg h0 hG hes act).1,λact=>(cu9 hg h0 hG hes act).2,λact=>dst_le hg h0 hG hes act,λl hl x hx=>(hG.eI l hl x hx).1,esF_all λl hl x hx=>(hG.eI l hl x hx).2⟩
end
end
section
set_option maxRecDepth 10000
def Rch (es:List (List ac_)) (act:Int) (i:Nat):Prop:=∃ xs,Pa (esF act es) 0 xs i
def Bfo (es:List (List ac_)) (a b:Int):Prop:=∀ (i:Nat) row x,Rch es a i→es[i]?=some row→x ∈ row→kp b x=true
theorem cr8 {es:List (List ac_)} {y:ac_} {zs:List ac_}:∀ (ys:List ac_) (i j:Nat),Pa es i (ys++y::zs) j→∃ k row,Pa es i ys k∧es[k]?=some row∧y ∈ row
 | [],i,j,h=>by
  obtain⟨row,h1,h2,_⟩:=h
  exact⟨i,row,rfl,h1,h2⟩
 | x::ys,i,j,h=>by
  obtain⟨row,h1,h2,n,h3,h4⟩:=h
  obtain⟨k,r,g1,g2,g3⟩:=cr8 ys n j h4
  exact⟨k,r,⟨row,h1,h2,n,h3,g1⟩,g2,g3⟩
theorem Bfo.trans {es:List (List ac_)} {a b c:Int} (h:Bfo es a b) (k:Bfo es b c):Bfo es a c:=by
 intro i row x ⟨xs,hp⟩ hr hx
 obtain⟨p1,p2⟩:=qs_ xs 0 i hp
 by_cases hb:∀ y ∈ xs,kp b y=true
 ·exact k i row x ⟨xs,wg_ xs 0 i p1 hb⟩ hr hx
 ·exfalso
  refine hb λy hy => ?_
  obtain⟨ys,zs,rfl⟩:=List.append_of_mem hy
  obtain⟨j,r,g1,g2,g3⟩:=cr8 ys 0 i p1
  exact h j r y ⟨ys,wg_ ys 0 j g1 λz hz=>p2 z (by simp[hz])⟩ g2 g3
theorem as9 {es:List (List ac_)} {y:ac_} {n:Nat}:∀ (ys:List ac_) (i k:Nat) (row:List ac_),Pa es i ys k→es[k]?=some row→y ∈ row→y.2=(n:Int)→Pa es i (ys++[y]) n
 | [],i,k,row,h,h1,h2,h3=>by
  obtain rfl:i=k:=h
  exact⟨row,h1,h2,n,h3,rfl⟩
 | x::ys,i,k,row,h,h1,h2,h3=>by
  obtain⟨r,g1,g2,m,g3,g4⟩:=h
  exact⟨r,g1,g2,m,g3,as9 ys m k row g4 h1 h2 h3⟩
theorem Rch.zero {es:List (List ac_)} {act:Int}:Rch es act 0:=⟨[],rfl⟩
theorem Rch.next {es:List (List ac_)} {act:Int} {i:Nat} {row:List ac_} {x:ac_} {n:Nat} (h:Rch es act i) (h1:es[i]?=some row) (h2:x ∈ row) (h3:kp act x=true) (h4:x.2=(n:Int)):Rch es act n:=by
 obtain⟨xs,hp⟩:=h
 exact⟨xs++[x],as9 xs 0 i _ hp (by9 h1) (c7_.2 ⟨h2,h3⟩) h4⟩
theorem Rch.ind {es:List (List ac_)} {act:Int} {Q:Nat→Prop} (h0:Q 0) (hs:∀ (i:Nat) row x (n:Nat),Q i→es[i]?=some row→x ∈ row→kp act x=true→x.2=(n:Int)→Q n) {i:Nat} (h:Rch es act i):Q i:=by
 obtain⟨xs,hp⟩:=h
 obtain⟨p1,p2⟩:=qs_ xs 0 i hp
 have gen:∀ (xs:List ac_) (k:Nat),Q k→Pa es k xs i→(∀ x ∈ xs,kp act x=true)→Q i:=by
  intro xs
  induction xs with
  | nil=>intro k hk hp _;obtain rfl:k=i:=hp;exact hk
  | cons x xs ih =>
   intro k hk hp hx
   obtain⟨row,g1,g2,n,g3,g4⟩:=hp
   exact ih n (hs k row x n hk g1 g2 (hx x (by simp)) g3) g4 λy hy=>hx y (by simp[hy])
 exact gen xs 0 h0 p1 p2
theorem cl1 {E σ τ:Type} {step:E→σ→Option (σ⊕τ)} {fin:σ→Option τ} {m:List E} {d:σ} {q:E→Bool} {r1 r0:τ} (h:∀ e ∈ m,step e d=some (cond (q e) (.inr r1) (.inl d))) (hf:fin d=some r0):bj9 step fin m d=some (cond (m.any q) r1 r0):=by
 refine bu3 ?_
 have gen:∀ (n:Nat) (l:List E),l.length=n→(∀ e ∈ l,e ∈ m)→AllM step fin n l d (cond (l.any q) r1 r0):=by
  intro n
  induction n with
  | zero =>
   intro l hl _
   have:l=[]:=g2_ hl
   subst this
   exact hf
  | succ n ih =>
   intro l hl hm i e he
   have hme:=hm e (b1_ he)
   have hs:=h e hme
   have hi:=(a3_.1 he).1
   have hp:=mh_ he
   cases hq:q e with
   | true =>
    rw[hq] at hs
    have ha:l.any q=true:=i9_.2 ⟨e,b1_ he,hq⟩
    rw[ha]
    exact .inr hs
   | false =>
    rw[hq] at hs
    refine .inl ⟨d,hs,?_⟩
    have ha:l.any q=(l.eraseIdx i).any q:=by
     rw[hp.any_eq,o7_,hq,k1_]
    rw[ha]
    exact ih (l.eraseIdx i) (by rw[q6_,if_pos hi,hl];rfl) λx hx=>hm x (List.mem_of_mem_eraseIdx hx)
 exact gen m.length m rfl λe he=>he
end
section
set_option maxRecDepth 10000
structure MS (m:List (Int×Int)) (s:Nat→Prop):Prop where
 v:∀ e ∈ m,e.2=1∧∃ i:Nat,e.1=(i:Int)∧s i
 i:∀ i,s i→((i:Int),(1:Int)) ∈ m
 nd:(m.map (·.1)).Nodup
theorem ac9 {K V:Type} [DecidableEq K] {k:K} {v:V} {e:K×V}:∀ {m:List (K×V)},e ∈ ex_ m k v→e=(k,v)∨e ∈ m
 | [],h=>by
  have h:e ∈ [(k,v)]:=h
  exact .inl (by simpa using h)
 | (a,u)::m,h=>by
  unfold ex_ at h
  by_cases hk:k=a
  ·rw[if_pos hk] at h
   rcases d0_.1 h with h | h
   ·exact .inl (by rw[h,hk])
   ·exact .inr (d5_ _ h)
  ·rw[if_neg hk] at h
   rcases d0_.1 h with h | h
   ·exact .inr (by rw[h];exact e1_ ..)
   ·rcases ac9 h with h | h
    ·exact .inl h
    ·exact .inr (d5_ _ h)
theorem ba0 {K V:Type} [DecidableEq K] {k:K} {v:V}:∀ {m:List (K×V)},(k,v) ∈ ex_ m k v
 | []=>e1_ ..
 | (a,u)::m=>by
  unfold ex_
  by_cases hk:k=a
  ·rw[if_pos hk,hk];exact e1_ ..
  ·rw[if_neg hk];exact d5_ _ ba0
theorem wr_ {K V:Type} [DecidableEq K] {k:K} {v:V} {e:K×V} (hne:e.1≠k):∀ {m:List (K×V)},e ∈ m→e ∈ ex_ m k v
 | (a,u)::m,h=>by
  unfold ex_
  by_cases hk:k=a
  ·rw[if_pos hk]
   rcases d0_.1 h with h | h
   ·exact absurd (by rw[h,hk]) hne
   ·exact d5_ _ h
  ·rw[if_neg hk]
   rcases d0_.1 h with h | h
   ·rw[h];exact e1_ ..
   ·exact d5_ _ (wr_ hne h)
theorem zf_ {K V:Type} [DecidableEq K] {k:K} {v:V}:∀ {m:List (K×V)},(m.map (·.1)).Nodup→((ex_ m k v).map (·.1)).Nodup
 | [],_=>by
  show [k].Nodup
  simp
 | (a,u)::m,h=>by
  unfold ex_
  rw[g5_,g8_] at h
  by_cases hk:k=a
  ·rw[if_pos hk,g5_,g8_]
   exact⟨h.1,h.2⟩
  ·rw[if_neg hk,g5_,g8_]
   refine⟨λhm => ?_,zf_ h.2⟩
   obtain⟨e,he,hea⟩:=d1_.1 hm
   rcases ac9 he with h1 | h1
   ·rw[h1] at hea
    exact hk hea
   ·exact h.1 (d1_.2 ⟨e,h1,hea⟩)
theorem al4 {K V:Type} [DecidableEq K] {k:K} {v:V}:∀ {m:List (K×V)},mget? m k=some v→(k,v) ∈ m
 | [],h=>by cases h
 | (a,u)::m,h=>by
  unfold mget? at h
  by_cases hk:k=a
  ·rw[if_pos hk] at h
   rw[hk,a6_ h];exact e1_ ..
  ·rw[if_neg hk] at h
   exact d5_ _ (al4 h)
theorem al5 {K V:Type} [DecidableEq K] {k:K}:∀ {m:List (K×V)},mget? m k=none→∀ v,(k,v) ∉ m
 | [],_,_,h=>by cases h
 | (a,u)::m,h,v,hm=>by
  unfold mget? at h
  by_cases hk:k=a
  ·rw[if_pos hk] at h
   cases h
  ·rw[if_neg hk] at h
   rcases d0_.1 hm with h1 | h1
   ·exact hk (congrArg Prod.fst h1)
   ·exact al5 h v h1
theorem MS.look {m:List (Int×Int)} {s:Nat→Prop} (h:MS m s) (i:Nat):(s i∧ey_ 0 m (i:Int)=1)∨(¬ s i∧ey_ 0 m (i:Int)=0):=by
 unfold ey_
 cases hg:mget? m (i:Int) with
 | some v =>
  obtain⟨h1,j,h2,h3⟩:=h.v _ (al4 hg)
  have h1:v=1:=h1
  have h2:(i:Int)=(j:Int):=h2
  obtain rfl:i=j:=by omega
  exact .inl ⟨h3,h1⟩
 | none=>exact .inr ⟨λhs=>al5 hg 1 (h.i i hs),rfl⟩
theorem MS.set {m:List (Int×Int)} {s:Nat→Prop} (h:MS m s) (i:Nat):MS (ex_ m (i:Int) 1) (λj=>s j∨j=i):=by
 refine⟨λe he => ?_,λj hj => ?_,zf_ h.nd⟩
 ·rcases ac9 he with h1 | h1
  ·rw[h1];exact⟨rfl,i,rfl,.inr rfl⟩
  ·obtain⟨h2,j,h3,h4⟩:=h.v e h1
   exact⟨h2,j,h3,.inl h4⟩
 ·by_cases hji:j=i
  ·rw[hji];exact ba0
  ·rcases hj with hj | hj
   ·exact wr_ (λh=>hji (by have h:(j:Int)=(i:Int):=h;omega)) (h.i j hj)
   ·exact absurd hj hji
theorem MS.one (i:Nat):MS [((i:Int),(1:Int))] (λj=>j=i) :=
 ⟨λe he=>by
  have:e=((i:Int),(1:Int)):=by simpa using he
  rw[this]
  exact⟨rfl,i,rfl,rfl⟩,λj hj=>by rw[hj];exact e1_ ..,by simp⟩
theorem MS.nil:MS [] (λ_=>False):=⟨λe he=>(by cases he),λj hj=>hj.elim,q7_⟩
theorem MS.cong {m:List (Int×Int)} {s s':Nat→Prop} (h:MS m s) (hs:∀ i,s i↔s' i):MS m s' :=
 ⟨λe he=>by obtain⟨h1,i,h2,h3⟩:=h.v e he;exact⟨h1,i,h2,(hs i).1 h3⟩,λi hi=>h.i i ((hs i).2 hi),h.nd⟩
theorem nv_ {α β:Type} {f:α→β}:∀ {l:List α},(l.map f).Nodup→l.Nodup
 | [],_=>q7_
 | x::l,h=>by
  rw[g5_,g8_] at h
  exact g8_.2 ⟨λhx=>h.1 (d1_.2 ⟨x,hx,rfl⟩),nv_ h.2⟩
theorem MS.mem {m:List (Int×Int)} {s:Nat→Prop} (h:MS m s) (e:Int×Int):e ∈ m↔e.2=1∧∃ i:Nat,e.1=(i:Int)∧s i :=
 ⟨λhe=>h.v e he,λ⟨h1,i,h2,h3⟩=>by
  have:e=((i:Int),(1:Int)):=by rw[← h1,← h2]
  rw[this]
  exact h.i i h3⟩
theorem MS.perm {m m':List (Int×Int)} {s:Nat→Prop} (h:MS m s) (h':MS m' s):m.Perm m':=by
 refine (p0_ (nv_ h.nd) (nv_ h'.nd)).2 λe => ?_
 rw[h.mem,h'.mem]
theorem MS.of_perm {m m':List (Int×Int)} {s:Nat→Prop} (h:MS m s) (hp:m.Perm m'):MS m' s :=
 ⟨λe he=>h.v e (hp.mem_iff.2 he),λi hi=>hp.mem_iff.1 (h.i i hi),(hp.map _).nodup_iff.1 h.nd⟩
noncomputable def ouS (s:Nat→Prop) (i:Nat):Bool:=by
 classical exact decide (¬ s i)
theorem cj2 {s:Nat→Prop} {i:Nat} (h:¬ s i):ouS s i=true:=by
 classical
 unfold ouS
 exact b6_ h
theorem cj3 {s:Nat→Prop} {i:Nat} (h:s i):ouS s i=false:=by
 classical
 unfold ouS
 exact b9_ λg=>g h
theorem ouS_not {s:Nat→Prop} {i:Nat} (h:ouS s i=true):¬ s i:=λg=>by rw[cj3 g] at h;cases h
noncomputable def lft (n:Nat) (s:Nat→Prop):Nat:=(List.range n).countP (ouS s)
theorem lft_add {n:Nat} {s:Nat→Prop} {i:Nat} (hi:i<n) (hs:¬ s i):lft n (λj=>s j∨j=i)+1≤lft n s:=by
 unfold lft
 have gen:∀ l:List Nat,l.Nodup→i ∈ l→l.countP (ouS λj=>s j∨j=i)+1≤l.countP (ouS s):=by
  intro l
  induction l with
  | nil=>intro _ h;cases h
  | cons x l ih =>
   intro hn hm
   rw[g8_] at hn
   rw[i0_,i0_]
   by_cases hx:x=i
   ·subst hx
    have h1:l.countP (ouS λj=>s j∨j=x)≤l.countP (ouS s) :=
     List.countP_mono_left λy _ hy=>cj2 λh=>ouS_not hy (.inl h)
    rw[cj3 (s:=λj=>s j∨j=x) (i:=x) (.inr rfl),cj2 hs]
    simp only[n5_,h8_,k4_]
    omega
   ·have hm:i ∈ l:=by
     rcases d0_.1 hm with h | h
     ·exact absurd h.symm hx
     ·exact h
    have:=ih hn.2 hm
    have h4:ouS (λj=>s j∨j=i) x=ouS s x:=by
     by_cases h:s x
     ·rw[cj3 (s:=λj=>s j∨j=i) (.inl h),cj3 h]
     ·rw[cj2 (s:=λj=>s j∨j=i) (λg=>g.elim h hx),cj2 h]
    rw[h4]
    omega
 exact gen _ q1_ (m2_.2 hi)
theorem cs8:∀ {r0 r:List Bool},r0.length=r.length→(∀ j:Nat,r0[j]?=some true→r[j]?=some true)→r0.count true≤r.count true∧(r.count true≤r0.count true→r=r0)
 | [],[],_,_=>⟨c3_ _,λ_=>rfl⟩
 | [],b::r,h,_=>by cases h
 | a::r0,[],h,_=>by cases h
 | a::r0,b::r,h,hs=>by
  obtain⟨h1,h2⟩:=cs8 (r0:=r0) (r:=r) (by simpa using h) (λj hj=>by
   have:=hs (j+1) (by simpa using hj)
   simpa using this)
  have h0:a=true→b=true:=λha=>by
   have:=hs 0 (by simp[ha])
   simpa using this
  rw[List.count_cons,List.count_cons]
  cases a<;>cases b
  ·simp only[f5_,n5_,h8_,l8_]
   exact⟨h1,λh=>by rw[h2 h]⟩
  ·simp only[f5_,n5_,h8_,l8_,k4_]
   exact⟨by omega,λh=>by omega⟩
  ·exact absurd (h0 rfl) (by simp)
  ·simp only[f5_,k4_]
   exact⟨by omega,λh=>by rw[h2 (by omega)]⟩
def Dn (es:List (List ac_)) (a b:Int) (r:List Bool) (j:Nat):Prop:=∀ row x,es[j]?=some row→x ∈ row→kp b x=true∧(kp a x=true→∃ m:Nat,x.2=(m:Int)∧r[m]?=some true)
theorem bfo_of {es:List (List ac_)} {a b:Int} {r:List Bool} (h0:r[0]?=some true) (h:∀ j,r[j]?=some true→Dn es a b r j):Bfo es a b:=by
 intro i row x hr he hx
 have hi:r[i]?=some true:=hr.ind (Q:=λi=>r[i]?=some true) h0 λi row x n hi he hx hk hn=>by
  obtain⟨m,h1,h2⟩:=(h i hi row x he hx).2 hk
  obtain rfl:m=n:=by omega
  exact h2
 exact (h i hi row x he hx).1
structure Swp (es:List (List ac_)) (a b:Int) (n t:Nat) (r:List Bool):Prop where
 len:r.length=n
 snd:∀ i:Nat,r[i]?=some true→Rch es a i
 z:r[0]?=some true
 ok:Bfo es a b∨t<r.count true
theorem Swp.end {es:List (List ac_)} {a b:Int} {n:Nat} {r:List Bool} (h:Swp es a b n n r):Bfo es a b:=by
 rcases h.ok with h1 | h1
 ·exact h1
 ·have:=List.count_le_length (a:=true) (l:=r)
  have:=h.len
  omega
structure Sw1 (es:List (List ac_)) (a b:Int) (n:Nat) (r0:List Bool) (i:Nat) (r:List Bool):Prop where
 len:r.length=n
 snd:∀ i:Nat,r[i]?=some true→Rch es a i
 sub:∀ j:Nat,r0[j]?=some true→r[j]?=some true
 dn:∀ j<i,r0[j]?=some true→Dn es a b r j
theorem Swp.next {es:List (List ac_)} {a b:Int} {n t:Nat} {r0 r:List Bool} (h:Swp es a b n t r0) (w:Sw1 es a b n r0 n r):Swp es a b n (t+1) r:=by
 refine⟨w.len,w.snd,w.sub 0 h.z,?_⟩
 rcases h.ok with h1 | h1
 ·exact .inl h1
 ·obtain⟨c1,c2⟩:=cs8 (r0:=r0) (r:=r) (by rw[h.len,w.len]) w.sub
  by_cases hc:r.count true≤r0.count true
  ·obtain rfl:=c2 hc
   exact .inl (bfo_of h.z λj hj=>w.dn j (by have:=am_ hj;have:=h.len;omega) hj)
  ·exact .inr (by omega)
theorem Dn.mono {es:List (List ac_)} {a b:Int} {r r':List Bool} (hs:∀ j:Nat,r[j]?=some true→r'[j]?=some true) {j:Nat} (h:Dn es a b r j):Dn es a b r' j:=λrow x he hx=>by
 obtain⟨h1,h2⟩:=h row x he hx
 exact⟨h1,λhk=>by obtain⟨m,h3,h4⟩:=h2 hk;exact⟨m,h3,hs m h4⟩⟩
end
section
set_option maxRecDepth 10000
def stp (es:List (List ac_)) (p:Nat) (s:Nat→Prop):Nat→Prop:=λj=>s j∨∃ (i:Nat) (row:List ac_) (x:ac_),s i∧es[i]?=some row∧x ∈ row∧x.1.1=(p:Int)∧x.2=(j:Int)
def rnd (es:List (List ac_)):Nat→(Nat→Prop)→Nat→Prop
 | 0,s=>s
 | P+1,s=>stp es P (rnd es P s)
def Nw (es:List (List ac_)) (P:Nat):Nat→Nat→Prop
 | 0=>λj=>j=0
 | t+1=>rnd es P (Nw es P t)
theorem bo5 {es:List (List ac_)} {s:Nat→Prop} {i:Nat} (h:s i):∀ P,rnd es P s i
 | 0=>h
 | P+1=>.inl (bo5 h P)
theorem ay2 {es:List (List ac_)} {s:Nat→Prop} {i n p:Nat} {row:List ac_} {x:ac_} (h:s i) (h1:es[i]?=some row) (h2:x ∈ row) (h3:x.1.1=(p:Int)) (h4:x.2=(n:Int)):∀ P,p<P→rnd es P s n
 | 0,hp=>by omega
 | P+1,hp=>by
  by_cases hpp:p=P
  ·exact .inr ⟨i,row,x,bo5 h P,h1,h2,by rw[h3,hpp],h4⟩
  ·exact .inl (ay2 h h1 h2 h3 h4 P (by omega))
theorem bo6 {es:List (List ac_)} {s:Nat→Prop}:∀ (P i:Nat),rnd es P s i→∃ k xs,s k∧Pa es k xs i∧xs.length≤P
 | 0,i,h=>⟨i,[],h,rfl,c3_ _⟩
 | P+1,i,h=>by
  rcases h with h | ⟨j,row,x,h1,h2,h3,h4,h5⟩
  ·obtain⟨k,xs,g1,g2,g3⟩:=bo6 P i h
   exact⟨k,xs,g1,g2,by omega⟩
  ·obtain⟨k,xs,g1,g2,g3⟩:=bo6 P j h1
   exact⟨k,xs++[x],g1,as9 xs k j row g2 h2 h3 h5,by rw[a8_,d3_];omega⟩
theorem ak6 {es:List (List ac_)} {ys:List ac_} {j k:Nat}:∀ (xs:List ac_) (i:Nat),Pa es i xs j→Pa es j ys k→Pa es i (xs++ys) k
 | [],i,h,h'=>by
  obtain rfl:i=j:=h
  exact h'
 | x::xs,i,h,h'=>by
  obtain⟨row,h1,h2,n,h3,h4⟩:=h
  exact⟨row,h1,h2,n,h3,ak6 xs n h4 h'⟩
theorem Nw_pa {es:List (List ac_)} {P:Nat}:∀ (t i:Nat),Nw es P t i→∃ xs,Pa es 0 xs i∧xs.length≤t * P
 | 0,i,h=>by
  obtain rfl:i=0:=h
  exact⟨[],rfl,i4_ _⟩
 | t+1,i,h=>by
  obtain⟨k,xs,h1,h2,h3⟩:=bo6 P i h
  obtain⟨ys,g1,g2⟩:=Nw_pa t k h1
  refine⟨ys++xs,ak6 ys 0 g1 h2,?_⟩
  rw[a8_,Nat.succ_mul]
  omega
theorem pa_Nw {es:List (List ac_)} {P:Nat} (hp:∀ row ∈ es,∀ x ∈ row,∃ p:Nat,x.1.1=(p:Int)∧p<P):∀ (xs:List ac_) (i j t:Nat),Pa es i xs j→Nw es P t i→Nw es P (t+xs.length) j
 | [],i,j,t,h,h'=>by
  obtain rfl:i=j:=h
  exact h'
 | x::xs,i,j,t,h,h'=>by
  obtain⟨row,h1,h2,n,h3,h4⟩:=h
  obtain⟨p,g1,g2⟩:=hp row (b1_ h1) x h2
  have:=pa_Nw hp xs n j (t+1) h4 (ay2 h' h1 h2 g1 h3 P g2)
  rw[c4_,show t+(xs.length+1)=t+1+xs.length by omega]
  exact this
theorem cl9 {Q:Nat→Prop}:∀ {K:Nat},Q K→∃ t,t≤K∧Q t∧∀ u,u<t→¬ Q u:=by
 intro K
 induction K using Nat.strongRecOn with
 | _ K ih =>
  intro h
  by_cases hu:∃ u,u<K∧Q u
  ·obtain⟨u,h1,h2⟩:=hu
   obtain⟨t,g1,g2,g3⟩:=ih u h1 h2
   exact⟨t,by omega,g2,g3⟩
  ·exact⟨K,c3_ _,h,λu hlt hq=>hu ⟨u,hlt,hq⟩⟩
def bf1 (es:List (List ac_)) (fin:Nat→Bool) (n P t:Nat):Prop:=∃ i,i<n∧Nw es P t i∧fin i=true
theorem bi8 {es:List (List ac_)} {fin:Nat→Bool} {D:List Int} {P:Nat} (hL:LC es fin D) (hxx:∀ l ∈ es,∀ x ∈ l,0≤x.2∧x.2<(D.length:Int)) (hp:∀ row ∈ es,∀ x ∈ row,∃ p:Nat,x.1.1=(p:Int)∧p<P) {k:Nat} (hk:D[0]?=some (k:Int)) :
  ∃ t,t≤k∧k≤t * P∧bf1 es fin D.length P t∧∀ u,u<t→¬ bf1 es fin D.length P u:=by
 obtain⟨xs,j,h1,h2,h3,h4,h5⟩:=bn1 hL hxx k 0 hk
 have hf:bf1 es fin D.length P k:=⟨j,h4,by
  have:=pa_Nw hp xs 0 j 0 h1 rfl
  rw[b0_,h5] at this
  exact this,h3⟩
 obtain⟨t,g1,g2,g3⟩:=cl9 (Q:=bf1 es fin D.length P) hf
 refine⟨t,g1,?_,g2,g3⟩
 obtain⟨i,i1,i2,i3⟩:=g2
 obtain⟨ys,y1,y2⟩:=Nw_pa t i i2
 obtain⟨k',z1,z2⟩:=LC_pa hL ys 0 i y1 i3 i1
 rw[hk] at z1
 have:=a6_ z1
 omega
theorem bs3 {es:List (List ac_)} {fin:Nat→Bool} {D:List Int} {P:Nat} (hL:LC es fin D) (h0:gi D 0<0) (t:Nat):¬ bf1 es fin D.length P t:=by
 rintro⟨i,i1,i2,i3⟩
 obtain⟨ys,y1,y2⟩:=Nw_pa t i i2
 obtain⟨k',z1,z2⟩:=LC_pa hL ys 0 i y1 i3 i1
 have:gi D 0=(k':Int):=jf_ (ah_ z1)
 omega
theorem Nw_lt {es:List (List ac_)} {P n:Nat} (hn:0<n) (hxx:∀ l ∈ es,∀ x ∈ l,0≤x.2∧x.2<(n:Int)):∀ (Q:Nat) (s:Nat→Prop),(∀ i,s i→i<n)→∀ i,rnd es Q s i→i<n
 | 0,s,h,i,hi=>h i hi
 | Q+1,s,h,i,hi=>by
  rcases hi with hi | ⟨j,row,x,h1,h2,h3,h4,h5⟩
  ·exact Nw_lt (P:=P) hn hxx Q s h i hi
  ·have:=(hxx row (b1_ h2) x h3).2
   omega
theorem Nw_n {es:List (List ac_)} {P n:Nat} (hn:0<n) (hxx:∀ l ∈ es,∀ x ∈ l,0≤x.2∧x.2<(n:Int)):∀ (t i:Nat),Nw es P t i→i<n
 | 0,i,h=>by
  obtain rfl:i=0:=h
  exact hn
 | t+1,i,h=>Nw_lt (P:=P) hn hxx P _ (Nw_n hn hxx t) i h
end
section
set_option maxRecDepth 100000
def G0:cf_:=([(([0,0],([0],[0])),[true,true,false]),(([1,0],([0],[0])),[true,true,false]),(([1,0],([-2],[0])),[true,true,false]),(([1,1],([-1],[0])),[true,true,false]),(([1,1],([-1],[1])),[true,true,true]),(([1,1],([-1],[0])),[true,true,true])],
 [[((0,(4,0)),1)],[((0,(2,0)),2),((0,(4,0)),1)],[((0,(3,0)),1),((0,(4,0)),2),((0,(4,1)),3)],[((0,(1,0)),4),((0,(4,0)),3)],[((0,(1,0)),5)],[((0,(1,0)),4),((0,(4,0)),5)]])
def D0:List Int:=[3,2,1,0,0,0]
theorem exG_g0:exG g0=(G0,(0,())):=by kernel_rfl
theorem SmG_g0:SmG g0:=by
 refine⟨⟨?_,?_,?_,?_,?_,?_,?_,?_,?_,?_,?_,?_,?_⟩,?_,?_,?_,?_,?_,?_,?_,?_,?_⟩<;>decide
def chkD (es:List (List ac_)) (fin:Nat→Bool) (D:List Int):Bool :=
 (List.range D.length).all λi=>match D[i]? with
  | none=>false
  | some v=>decide (-1≤v)&&((v==0)==fin i)&&match es[i]? with
   | none=>false
   | some l=>(decide (v≤0)||l.any (λx=>at? D x.2==some (v - 1)))&&l.all λx=>match at? D x.2 with
    | none=>true
    | some k=>decide (k<0)||(decide (0≤v)&&decide (v≤k+1))
theorem ag5 {es:List (List ac_)} {fin:Nat→Bool} {D:List Int} (h:chkD es fin D=true) {i:Nat} {v:Int} (hv:D[i]?=some v) :
  -1≤v∧((v==0)=fin i)∧∃ l,es[i]?=some l∧(v≤0∨∃ x ∈ l,at? D x.2=some (v - 1))∧∀ x ∈ l,∀ k,at? D x.2=some k→k<0∨(0≤v∧v≤k+1):=by
 have:=f0_.1 h i (m2_.2 (am_ hv))
 simp only[hv] at this
 rw[a1_,a1_,h1_,f5_] at this
 obtain⟨⟨h1,h2⟩,h3⟩:=this
 refine⟨h1,h2,?_⟩
 cases hl:es[i]? with
 | none=>rw[hl] at h3;cases h3
 | some l =>
  simp only[hl] at h3
  rw[a1_,c8_,h1_,i9_,f0_] at h3
  refine⟨l,rfl,h3.1.imp id λ⟨x,hx,e⟩=>⟨x,hx,f5_.1 e⟩,λx hx k hk => ?_⟩
  have:=h3.2 x hx
  simp only[hk] at this
  rw[c8_,a1_,h1_,h1_,h1_] at this
  exact this
theorem chkD_LC {es:List (List ac_)} {fin:Nat→Bool} {D:List Int} (hes:es.length=D.length) (h:chkD es fin D=true):LC es fin D:=by
 refine⟨λi v hv=>(ag5 h hv).1,λi v hv => ?_,λi k hk => ?_,λi l x k hl hx hat => ?_⟩
 ·rw[← (ag5 h hv).2.1,f5_]
 ·obtain⟨_,_,l,hl,h1,_⟩:=ag5 h hk
  rcases h1 with h1 | ⟨x,hx,e⟩
  ·omega
  ·refine⟨l,x,hl,hx,?_⟩
   rw[e]
   congr 1
   omega
 ·obtain⟨v,hv⟩:=bb_ (l:=D) (i:=i) (by have:=am_ hl;omega)
  obtain⟨_,_,l',hl',_,h2⟩:=ag5 h hv
  rw[hl] at hl'
  obtain rfl:=a6_ hl'
  rcases h2 x hx k hat with h3 | h3
  ·omega
  ·exact⟨v,hv,h3⟩
theorem chk_g0:chkD G0.2 (pu_ g0 G0.1) D0=true:=by kernel_rfl
theorem cp4:dv_ g0=some ([(0,(4,0)),(0,(2,0)),(0,(4,1))],(0,())):=by
 obtain⟨D,h⟩:=qr_ SmG_g0
 rw[exG_g0] at h
 rcases h with ⟨h,_⟩ | ⟨_,h1,h2,h3⟩
 ·exact absurd rfl h
 ·have hD:D=D0:=aw4 h2 (chkD_LC rfl chk_g0) h1
  have e:((cond (decide (gi D0 0<0)) ([],(50,())) (shp G0.2 D0 (gi D0 0).toNat 0,(0,()))):List ag_×(Int×Unit))=([(0,(4,0)),(0,(2,0)),(0,(4,1))],(0,())):=by kernel_rfl
  rw[h3,hD]
  exact congrArg some e
theorem wu_:fv_=some (true,()):=by
 unfold fv_
 refine e5_ (congrArg (λo=>Option.bind o _) cp4) ?_
 kernel_rfl
end
section
set_option maxRecDepth 10000
theorem yg_ {g:ad_} (hg:SmG g) (ok:OkG g) {p:aa_} (hv:VP g p):cz_ g p=some (dm_ p.1.1 g.1.2.2.2.2.2.2.2,()):=by
 have hgo:=hg.go
 have hl1:=hv.st.l1
 obtain⟨c1,c2⟩:=sk_ hg.room.th (bn_ ok.room).go
 unfold cz_
 rw[hj_ (s:=p.1) (show Sm _ by show _≤1000000000;omega) (by show InC p.1.1.length _;rw[hl1];exact c1)]
 rfl
end
section
set_option maxRecDepth 10000
theorem oh_ {σ ρ υ:Type} {body:σ→Option (σ⊕ρ)} {K:ρ→Option υ} {Q:υ→Prop} (I:σ→Prop) (μ:σ→Nat) {z0:σ} (h0:I z0)
  (st:∀ s,I s→∃ y,body s=some y∧((∃ s',y = .inl s'∧I s'∧μ s'<μ s)∨∃ r z,y = .inr r∧K r=some z∧Q z)):∃ z,(af_ body z0).bind K=some z∧Q z:=by
 have gen:∀ (n:Nat) (s:σ),μ s=n→I s→∃ r,af_ body s=some r∧∃ z,K r=some z∧Q z:=by
  intro n
  induction n using Nat.strongRecOn with
  | _ n ih =>
   intro s hn hs
   obtain⟨y,hy,⟨s',rfl,h2,h3⟩ | ⟨r,z,rfl,h2,h3⟩⟩:=st s hs
   ·obtain⟨r,g1,g2⟩:=ih (μ s') (by omega) s' rfl h2
    exact⟨r,(ox_ hy).trans g1,g2⟩
   ·exact⟨r,br_ hy,z,h2,h3⟩
 obtain⟨r,h1,z,h2,h3⟩:=gen _ z0 rfl h0
 exact⟨z,by rw[h1,a0_,h2],h3⟩
theorem of_ex {υ:Type} {x:Option υ} {y:υ} (h:∃ z,x=some z∧z=y):x=some y:=by
 obtain⟨z,h1,rfl⟩:=h
 exact h1
theorem Sw1.mark {es:List (List ac_)} {a b:Int} {n:Nat} {r0 r:List Bool} {i:Nat} (h:Sw1 es a b n r0 i r) {row:List ac_} {x:ac_} {m:Nat} (hr:es[i]?=some row) (hx:x ∈ row) (hi:r[i]?=some true) (hk:kp a x=true) (hm:x.2=(m:Int)) (hmn:m<n):Sw1 es a b n r0 i (r.set m true)∧(∀ j:Nat,r[j]?=some true→(r.set m true)[j]?=some true)∧(r.set m true)[m]?=some true:=by
 have hml:m<r.length:=by rw[h.len];exact hmn
 have hs:∀ j:Nat,r[j]?=some true→(r.set m true)[j]?=some true:=λj hj=>by
  by_cases hmj:m=j
  ·subst hmj;exact e3_ hml
  ·rw[b5_ hmj];exact hj
 refine⟨⟨by rw[f6_,h.len],λj hj => ?_,λj hj=>hs j (h.sub j hj),λj hj hj0=>(h.dn j hj hj0).mono hs⟩,hs,e3_ hml⟩
 by_cases hmj:m=j
 ·subst hmj;exact (h.snd i hi).next hr hx hk hm
 ·rw[b5_ hmj] at hj;exact h.snd j hj
theorem Sw1.skip {es:List (List ac_)} {a b:Int} {n:Nat} {r0 r:List Bool} {i:Nat} (h:Sw1 es a b n r0 i r) (hd:r0[i]?=some true→Dn es a b r i):Sw1 es a b n r0 (i+1) r :=
 ⟨h.len,h.snd,h.sub,λj hj hj0=>by
  by_cases hji:j=i
  ·subst hji;exact hd hj0
  ·exact h.dn j (by omega) hj0⟩
theorem lx_ {α:Type} {l:List α} {k:Nat} {x:α} (h:l[k]?=some x):l.take (k+1)=l.take k++[x]:=by
 rw[d7_,h];rfl
end
section
set_option maxRecDepth 10000
def Cl (es:List (List ac_)) (a:Int) (S:Nat→Prop) (i:Nat):Prop:=∀ row x,es[i]?=some row→x ∈ row→kp a x=true→∃ j:Nat,x.2=(j:Int)∧S j
theorem Cl.mono {es:List (List ac_)} {a:Int} {S S':Nat→Prop} (hs:∀ i,S i→S' i) {i:Nat} (h:Cl es a S i):Cl es a S' i:=λrow x h1 h2 h3=>by
 obtain⟨j,h4,h5⟩:=h row x h1 h2 h3
 exact⟨j,h4,hs j h5⟩
structure BS (es:List (List ac_)) (a:Int) (n:Nat) (l:List Int) (S:Nat→Prop):Prop where
 z:S 0
 r:∀ i,S i→i<n∧Rch es a i
 q:∀ y ∈ l,∃ i:Nat,y=(i:Int)∧S i
 c:∀ i,S i→(i:Int) ∉ l→Cl es a S i
 m:lft n S+l.length≤n
structure BJ (es:List (List ac_)) (a:Int) (n:Nat) (i0:Nat) (tl:List Int) (S0:Nat→Prop) (row:List ac_) (k:Nat) (l:List Int) (S:Nat→Prop):Prop where
 z:S 0
 r:∀ i,S i→i<n∧Rch es a i
 q:∀ y ∈ l,∃ i:Nat,y=(i:Int)∧S i
 c:∀ i,S i→(i:Int) ∉ l→i≠i0→Cl es a S i
 h:S i0
 d:∀ x ∈ row.take k,kp a x=true→∃ j:Nat,x.2=(j:Int)∧S j
 m:lft n S+l.length≤lft n S0+tl.length
theorem BS.begin {es:List (List ac_)} {a:Int} {n i0:Nat} {tl:List Int} {S:Nat→Prop} {row:List ac_} (h:BS es a n ((i0:Int)::tl) S):BJ es a n i0 tl S row 0 tl S :=
 ⟨h.z,h.r,λy hy=>h.q y (d5_ _ hy),λi hi hni hne=>h.c i hi (λhm=>by
  rcases d0_.1 hm with h1 | h1
  ·exact hne (by omega)
  ·exact hni h1),by
  obtain⟨i,h1,h2⟩:=h.q (i0:Int) (e1_ ..)
  obtain rfl:i0=i:=by omega
  exact h2,λx hx=>by simp at hx,c3_ _⟩
theorem BJ.skip {es:List (List ac_)} {a:Int} {n i0:Nat} {tl:List Int} {S0 S:Nat→Prop} {row:List ac_} {k:Nat} {l:List Int} (h:BJ es a n i0 tl S0 row k l S) {x:ac_} (hx:row[k]?=some x) (hk:kp a x=true→∃ j:Nat,x.2=(j:Int)∧S j):BJ es a n i0 tl S0 row (k+1) l S :=
 ⟨h.z,h.r,h.q,h.c,h.h,λy hy hky=>by
  rw[lx_ hx] at hy
  rcases b3_.1 hy with hy | hy
  ·exact h.d y hy hky
  ·obtain rfl:y=x:=by simpa using hy
   exact hk hky,h.m⟩
theorem BJ.add {es:List (List ac_)} {a:Int} {n i0:Nat} {tl:List Int} {S0 S:Nat→Prop} {row:List ac_} {k:Nat} {l:List Int} (h:BJ es a n i0 tl S0 row k l S) (hr:es[i0]?=some row) {x:ac_} (hx:row[k]?=some x) (hk:kp a x=true) {j:Nat} (hj:x.2=(j:Int)) (hjn:j<n) (hn:¬ S j):BJ es a n i0 tl S0 row (k+1) (l++[(j:Int)]) (λi=>S i∨i=j):=by
 refine⟨.inl h.z,λi hi => ?_,λy hy => ?_,λi hi hni hne => ?_,.inl h.h,λy hy hky => ?_,?_⟩
 ·rcases hi with hi | rfl
  ·exact h.r i hi
  ·exact⟨hjn,(h.r i0 h.h).2.next hr (au_ hx) hk hj⟩
 ·rcases b3_.1 hy with hy | hy
  ·obtain⟨i,h1,h2⟩:=h.q y hy
   exact⟨i,h1,.inl h2⟩
  ·exact⟨j,by simpa using hy,.inr rfl⟩
 ·rcases hi with hi | rfl
  ·exact (h.c i hi (λhm=>hni (h7_ _ hm)) hne).mono λ_=>.inl
  ·exact absurd (j4_ _ (by simp)) hni
 ·rw[lx_ hx] at hy
  rcases b3_.1 hy with hy | hy
  ·obtain⟨i,h1,h2⟩:=h.d y hy hky
   exact⟨i,h1,.inl h2⟩
  ·obtain rfl:y=x:=by simpa using hy
   exact⟨j,hj,.inr rfl⟩
 ·have:=lft_add hjn hn
  have:=h.m
  rw[a8_,d3_]
  omega
theorem BJ.end {es:List (List ac_)} {a:Int} {n i0:Nat} {tl:List Int} {S0 S:Nat→Prop} {row:List ac_} {l:List Int} (h:BJ es a n i0 tl S0 row row.length l S) (hr:es[i0]?=some row) (hm:lft n S0+tl.length≤n):BS es a n l S :=
 ⟨h.z,h.r,h.q,λi hi hni=>by
  by_cases hne:i=i0
  ·subst hne
   intro row' x h1 h2 h3
   rw[hr] at h1
   obtain rfl:=a6_ h1
   exact h.d x (by rw[d9_];exact h2) h3
  ·exact h.c i hi hni hne,by have:=h.m;omega⟩
theorem BS.end {es:List (List ac_)} {a:Int} {n:Nat} {S:Nat→Prop} (h:BS es a n [] S) (i:Nat):S i↔Rch es a i :=
 ⟨λhi=>(h.r i hi).2,λhi=>hi.ind (Q:=S) h.z λi row x n hi h1 h2 h3 h4=>by
  obtain⟨j,h5,h6⟩:=h.c i hi (by simp) row x h1 h2 h3
  obtain rfl:j=n:=by omega
  exact h6⟩
end
section
set_option maxRecDepth 10000
noncomputable def rouX (g:ad_) (G:cf_) (v40:List Int×Unit):Option (Int×(Int×Unit)) :=
 ((at? v40.1 0).bind λv41 =>
 ((at? v40.1 0).bind λv42 =>
 (cond (decide (v42<0))
 (some (0,(50,())))
 ((af_ (ρ:=(Int×(((List ab_)×Unit)×Unit))) (λ(v43:(Int×(((List ab_)×Unit)×Unit))) =>
 ((((bj9 (τ:=(Unit⊕(Bool×Unit))) (λ(v44:ab_) (v45:Unit) =>
 ((at? v40.1 v44.1).bind λv47 =>
 ((at? v40.1 v44.1).bind λv48 =>
 (cond (v48==0)
 (some (inr (inr (true,()))))
 (some (inl ())))))) (λ(v46:Unit) =>
 (some (inl ()))) v43.2.1.1 ()).bind λv49 =>
 (cg_ v49 (λv50=>(some ((!false),())))
 (λv51=>(some ((!v51.1),())))))).bind λv52 =>
 (cond v52.1
 ((af_ (ρ:=(((List ab_)×Unit)×Unit)) (λ(v53:(Int×(((List ab_)×Unit)×Unit))) =>
 (cond (decide (v53.1<g.1.2.2.2.2.2.2.1))
 ((bj9 (τ:=(((List ab_)×Unit)⊕((List ab_)×Unit))) (λ(v54:ab_) (v55:((List ab_)×Unit)) =>
 ((at? G.2 v54.1).bind λv57 =>
 ((af_ (ρ:=((List ab_)×Unit)) (λ(v58:(Int×((List ab_)×Unit))) =>
 (cond (decide (v58.1<(v57.length:Int)))
 ((((at? v57 v58.1).bind λv59 =>
 (cond (v59.1.1==v53.1)
 (some ((ex_ v58.2.1 v59.2 1),()))
 (some (v58.2.1,()))))).bind λv60 =>
 (some (inl ((w64 (v58.1+1)),(v60.1,())))))
 (some (inr (v58.2.1,()))))) (0,((ex_ v55.1 v54.1 1),()))).bind λv61 =>
 (some (inl ((ah6 v61.1),())))))) (λ(v56:((List ab_)×Unit)) =>
 (some (inl (v56.1,())))) v53.2.1.1 ([],())).bind λv62 =>
 (cg_ v62 (λv63=>(some (inl ((w64 (v53.1+1)),((v63.1,()),())))))
 (λv64=>none)))
 (some (inr ((v53.2.1.1,()),()))))) (0,((v43.2.1.1,()),()))).bind λv65 =>
 (some (inl ((w64 (v43.1+1)),((v65.1.1,()),())))))
 (some (inr (v43.1,((v43.2.1.1,()),()))))))) (0,(((ex_ [] 0 1),()),()))).bind λv66 =>
 (some (v66.1,(0,())))))))
theorem ai7:gl_=λa0=>(dn_ a0).bind λv0=>cond (v0.2.1 != 0) (cond (v0.2.1 != 0) (some (0,(v0.2.1,()))) none) (meaK a0 v0.1 λv40=>rouX a0 v0.1 v40):=by
 kernel_rfl
theorem cl0 {E σ τ:Type} {step:E→σ→Option (σ⊕τ)} {fin:σ→Option τ} {m:List E} {d:σ} {r:τ} (Inv:List E→σ→Prop) (h0:Inv m d)
  (st:∀ pend d (i:Nat) e,Inv pend d→e ∈ m→pend[i]?=some e→∃ d',step e d=some (.inl d')∧Inv (pend.eraseIdx i) d') (hf:∀ d,Inv [] d→fin d=some r):bj9 step fin m d=some r:=by
 refine bu3 ?_
 have gen:∀ (n:Nat) (l:List E) (d:σ),l.length=n→(∀ e ∈ l,e ∈ m)→Inv l d→AllM step fin n l d r:=by
  intro n
  induction n with
  | zero =>
   intro l d hl _ hI
   have:l=[]:=g2_ hl
   subst this
   exact hf d hI
  | succ n ih =>
   intro l d hl hm hI i e he
   obtain⟨d',h1,h2⟩:=st l d i e hI (hm e (b1_ he)) he
   have hi:=(a3_.1 he).1
   exact .inl ⟨d',h1,ih (l.eraseIdx i) d' (by rw[q6_,if_pos hi,hl];rfl) (λx hx=>hm x (List.mem_of_mem_eraseIdx hx)) h2⟩
 exact gen m.length m d rfl (λe he=>he) h0
theorem MS.can {m:List (Int×Int)} {s:Nat→Prop} (h:MS m s):MS (ah6 m) s:=h.of_perm (xt_ m).symm
theorem co1 {E:Type}:ah6 ([]:List E)=[]:=(xt_ ([]:List E)).eq_nil
def Ct (es:List (List ac_)) (p:Nat) (e:Int×Int) (j:Nat):Prop:=∃ i:Nat,e.1=(i:Int)∧(j=i∨∃ row x,es[i]?=some row∧x ∈ row∧x.1.1=(p:Int)∧x.2=(j:Int))
theorem turn_ok {es:List (List ac_)} {n p:Nat} (hlen:es.length=n) (hxx:∀ l ∈ es,∀ x ∈ l,0≤x.2∧x.2<(n:Int)) (hel:∀ l ∈ es,l.length≤480) {m:List (Int×Int)} {s:Nat→Prop} (hM:MS m s) (hs:∀ i,s i→i<n) :
    ∃ m',bj9 (τ:=(((List ab_)×Unit)⊕((List ab_)×Unit))) (λ(v54:ab_) (v55:((List ab_)×Unit)) =>
 ((at? es v54.1).bind λv57 =>
 ((af_ (ρ:=((List ab_)×Unit)) (λ(v58:(Int×((List ab_)×Unit))) =>
 (cond (decide (v58.1<(v57.length:Int)))
 ((((at? v57 v58.1).bind λv59 =>
 (cond (v59.1.1==(p:Int))
 (some ((ex_ v58.2.1 v59.2 1),()))
 (some (v58.2.1,()))))).bind λv60 =>
 (some (inl ((w64 (v58.1+1)),(v60.1,())))))
 (some (inr (v58.2.1,()))))) (0,((ex_ v55.1 v54.1 1),()))).bind λv61 =>
 (some (inl ((ah6 v61.1),())))))) (λ(v56:((List ab_)×Unit)) =>
 (some (inl (v56.1,())))) m ([],())=some (inl (m',()))∧MS m' (stp es p s):=by
  classical
  have hex:∃ y,MS y (stp es p s):=by
    have gen:∀ (k:Nat),∃ y,MS y (λj=>j<k∧stp es p s j):=by
      intro k
      induction k with
      | zero=>exact⟨[],MS.nil.cong λi=>⟨λh=>h.elim,λh=>by omega⟩⟩
      | succ k ih =>
        obtain⟨y,hy⟩:=ih
        by_cases hk:stp es p s k
        · exact⟨_,(hy.set k).cong λi=>⟨λh=>by
            rcases h with ⟨h1,h2⟩ | rfl
            · exact⟨by omega,h2⟩
            · exact⟨by omega,hk⟩,λ⟨h1,h2⟩=>by
            by_cases hik:i=k
            · exact .inr hik
            · exact .inl ⟨by omega,h2⟩⟩⟩
        · exact⟨y,hy.cong λi=>⟨λ⟨h1,h2⟩=>⟨by omega,h2⟩,λ⟨h1,h2⟩=>⟨by
            by_cases hik:i=k
            · subst hik;exact absurd h2 hk
            · omega,h2⟩⟩⟩
    obtain⟨y,hy⟩:=gen n
    refine⟨y,hy.cong λi=>⟨λh=>h.2,λh=>⟨?_,h⟩⟩⟩
    rcases h with h | ⟨i',row,x,h1,h2,h3,h4,h5⟩
    · exact hs i h
    · have:=(hxx row (au_ h2) x h3).2
      omega
  obtain⟨y0,hy0⟩:=hex
  refine⟨ah6 y0,?_,hy0.can⟩
  refine cl0 (λpend d=>∃ y A,d=(ah6 y,())∧MS y A∧(∀ j,A j→stp es p s j)∧∀ j,stp es p s j→A j∨∃ e ∈ pend,Ct es p e j) ?_ (λpend d i e hI hm he => ?_) (λd hI => ?_)
  · refine⟨[],λ_=>False,by rw[co1],MS.nil,λj h=>h.elim,λj hj=>.inr ?_⟩
    rcases hj with hj | ⟨i,row,x,h1,h2,h3,h4,h5⟩
    · exact⟨_,hM.i j hj,j,rfl,.inl rfl⟩
    · exact⟨_,hM.i i h1,i,rfl,.inr ⟨row,x,h2,h3,h4,h5⟩⟩
  · obtain⟨y,A,rfl,hy,hA1,hA2⟩:=hI
    obtain⟨_,i0,h1,hsi⟩:=hM.v e hm
    have hil:=hs i0 hsi
    obtain⟨row,hrow⟩:=bb_ (l:=es) (i:=i0) (by omega)
    have hrm:=au_ hrow
    have hrl:=hel row hrm
    have hall:∃ z,(af_ (ρ:=((List ab_)×Unit)) (λ(v58:(Int×((List ab_)×Unit))) =>
 (cond (decide (v58.1<(row.length:Int)))
 ((((at? row v58.1).bind λv59 =>
 (cond (v59.1.1==(p:Int))
 (some ((ex_ v58.2.1 v59.2 1),()))
 (some (v58.2.1,()))))).bind λv60 =>
 (some (inl ((w64 (v58.1+1)),(v60.1,())))))
 (some (inr (v58.2.1,()))))) (0,((ex_ (ah6 y) (i0:Int) 1),()))).bind (λv61 =>
 (some (inl ((ah6 v61.1),()):((List ab_)×Unit)⊕(((List ab_)×Unit)⊕((List ab_)×Unit)))))=some z∧∃ mm,z=inl (ah6 mm,())∧MS mm (λj=>(A j∨j=i0)∨∃ x ∈ row,x.1.1=(p:Int)∧x.2=(j:Int)):=by
      refine oh_ (I:=λ(s:Int×(List (Int×Int)×Unit))=>∃ k:Nat,s.1=(k:Int)∧k≤row.length∧MS s.2.1 (λj=>(A j∨j=i0)∨∃ x ∈ row.take k,x.1.1=(p:Int)∧x.2=(j:Int))) (μ:=λs=>row.length - s.1.toNat)
        ⟨0,rfl,i4_ _,(hy.can.set i0).cong λj=>⟨.inl,λh=>h.elim id λ⟨x,hx,_⟩=>by simp at hx⟩⟩ ?_
      rintro⟨sk,m1,u⟩ ⟨k,rfl,hkn,hM1⟩
      have hM1:MS m1 (λj=>(A j∨j=i0)∨∃ x ∈ row.take k,x.1.1=(p:Int)∧x.2=(j:Int)):=hM1
      by_cases hkl:k<row.length
      · obtain⟨x,hx⟩:=bb_ (l:=row) (i:=k) hkl
        obtain⟨x0,x1⟩:=hxx row hrm x (au_ hx)
        obtain⟨j,hj⟩:∃ j:Nat,x.2=(j:Int):=⟨x.2.toNat,by omega⟩
        have hk1:w64 ((k:Int)+1)=((k+1:Nat):Int):=az_ (show k≤1000000000 by omega)
        simp only[dlt hkl,a5_,ah_ hx,a0_]
        cases hc:x.1.1==(p:Int) with
        | true =>
          simp only[a5_,a0_,hj]
          refine⟨_,rfl,.inl ⟨_,rfl,⟨k+1,hk1,hkl,(hM1.set j).cong λi => ?_⟩,by show row.length - (w64 ((k:Int)+1)).toNat<row.length - ((k:Int)).toNat;rw[hk1];omega⟩⟩
          rw[lx_ hx]
          constructor
          · rintro (h | rfl)
            · rcases h with h | ⟨z,h2,h3⟩
              · exact .inl h
              · exact .inr ⟨z,h7_ _ h2,h3⟩
            · exact .inr ⟨x,j4_ _ (by simp),by simpa using hc,hj⟩
          · rintro (h | ⟨z,h2,h3,h4⟩)
            · exact .inl (.inl h)
            · rcases b3_.1 h2 with h2 | h2
              · exact .inl (.inr ⟨z,h2,h3,h4⟩)
              · obtain rfl:z=x:=by simpa using h2
                exact .inr (by omega)
        | false =>
          simp only[a2_,a0_]
          refine⟨_,rfl,.inl ⟨_,rfl,⟨k+1,hk1,hkl,hM1.cong λi => ?_⟩,by show row.length - (w64 ((k:Int)+1)).toNat<row.length - ((k:Int)).toNat;rw[hk1];omega⟩⟩
          rw[lx_ hx]
          constructor
          · rintro (h | ⟨z,h2,h3⟩)
            · exact .inl h
            · exact .inr ⟨z,h7_ _ h2,h3⟩
          · rintro (h | ⟨z,h2,h3,h4⟩)
            · exact .inl h
            · rcases b3_.1 h2 with h2 | h2
              · exact .inr ⟨z,h2,h3,h4⟩
              · obtain rfl:z=x:=by simpa using h2
                rw[h3] at hc
                simp at hc
      · obtain rfl:k=row.length:=by omega
        simp only[dnl,a2_]
        exact⟨_,rfl,.inr ⟨_,_,rfl,rfl,m1,rfl,by rw[d9_] at hM1;exact hM1⟩⟩
    obtain⟨z,hz,mm,rfl,hmm⟩:=hall
    refine⟨(ah6 mm,()),?_,mm,_,rfl,hmm,λj hj => ?_,λj hj => ?_⟩
    · simp only[h1,ah_ hrow,a0_]
      exact hz
    · rcases hj with (hj | rfl) | ⟨x,h2,h3,h4⟩
      · exact hA1 j hj
      · exact .inl hsi
      · exact .inr ⟨i0,row,x,hsi,hrow,h2,h3,h4⟩
    · rcases hA2 j hj with h | ⟨e',he',hc⟩
      · exact .inl (.inl (.inl h))
      · by_cases hee:e' ∈ pend.eraseIdx i
        · exact .inr ⟨e',hee,hc⟩
        · have hp:=(mh_ he).mem_iff.1 he'
          rcases d0_.1 hp with rfl | hp
          · obtain⟨i',g1,g2⟩:=hc
            obtain rfl:i'=i0:=by omega
            refine .inl ?_
            rcases g2 with rfl | ⟨row',x,g3,g4,g5,g6⟩
            · exact .inl (.inr rfl)
            · rw[hrow] at g3
              obtain rfl:=a6_ g3
              exact .inr ⟨x,g4,g5,g6⟩
          · exact absurd hp hee
  · obtain⟨y,A,rfl,hy,hA1,hA2⟩:=hI
    have:MS y (stp es p s):=hy.cong λj=>⟨hA1 j,λhj=>(hA2 j hj).elim id λ⟨e,he,_⟩=>by cases he⟩
    show some (inl (ah6 y,()))=some (inl (ah6 y0,()))
    rw[canM_eq (this.perm hy0)]
theorem Gr.pl {g:ad_} (h:Gr g):∃ P:Nat,g.1.2.2.2.2.2.2.1=(P:Int)∧P≤4∧∀ row ∈ (exG g).1.2,∀ x ∈ row,∃ p:Nat,x.1.1=(p:Int)∧p<P:=by
 have hpy:=ce_.1 (bn_ (ct_ h.h0).room).py
 refine⟨g.1.2.2.2.2.2.2.1.toNat,by omega,by omega,λrow hr x hx => ?_⟩
 obtain⟨i,hi⟩:=f4_ hr
 obtain⟨p,h1,h2,h3⟩:=h.ge i row hi
 obtain⟨q,n,h4,h5,h6⟩:=h3 x hx
 have hv:=(h.gI.pI.v p (au_ h1)).st
 have hl:lgl g.1 p.1 x.1=true:=by
  unfold stepP at h4
  cases hc:okM g p.2 x.1&&lgl g.1 p.1 x.1 with
  | true=>exact (a1_ _ _ ▸ hc).2
  | false=>rw[hc] at h4;cases h4
 have h3':=hv.l3
 obtain⟨k,g1,g2⟩:=lgl_who (i:=x.1.1) (k:=x.1.2.1) (j:=x.1.2.2) hl (by omega)
 exact⟨k,g1,by omega⟩
theorem rouX_eq {g:ad_} {ps:List aa_} {es:List (List ac_)} {fin:Nat→Bool} {D:List Int} {P T k:Nat} (hL:LC es fin D) (hn:D.length≤3000) (hes:es.length=D.length) (hel:∀ l ∈ es,l.length≤480) (hxx:∀ l ∈ es,∀ x ∈ l,0≤x.2∧x.2<(D.length:Int)) (hP:g.1.2.2.2.2.2.2.1=(P:Int)) (hP4:P≤4)
    (hk:D[0]?=some (k:Int)) (hkn:k≤3000) (hT:bf1 es fin D.length P T) (hTk:T≤k) (hTm:∀ u,u<T→¬ bf1 es fin D.length P u):rouX g (ps,es) (D,())=some ((T:Int),(0,())):=by
  have hpos:0<D.length:=am_ hk
  unfold rouX
  simp only[show at? D 0=some (k:Int) from ah_ (i:=0) hk,a0_,b9_ (show ¬ (k:Int)<0 by omega),a2_,hP]
  refine of_ex (oh_ (I:=λ(s:Int×(((List (Int×Int))×Unit)×Unit))=>∃ t:Nat,s.1=(t:Int)∧t≤T∧MS s.2.1.1 (Nw es P t)) (μ:=λs=>T - s.1.toNat) ⟨0,rfl,i4_ _,MS.one 0⟩ ?_)
  rintro⟨st,⟨m,u⟩,u2⟩ ⟨t,rfl,htT,hM⟩
  have hM:MS m (Nw es P t):=hM
  have hlt:=Nw_n (P:=P) (n:=D.length) hpos hxx t
  have hq:∀ e ∈ m,∃ (i:Nat) (v:Int),e.1=(i:Int)∧Nw es P t i∧i<D.length∧D[i]?=some v:=λe he=>by
    obtain⟨_,i,h1,h2⟩:=hM.v e he
    obtain⟨v,hv⟩:=bb_ (l:=D) (i:=i) (hlt i h2)
    exact⟨i,v,h1,h2,hlt i h2,hv⟩
  have hany:=cl1 (E:=Int×Int) (τ:=(Unit⊕(Bool×Unit))) (m:=m) (d:=()) (step:=λ(v44:ab_) (v45:Unit) =>
 ((at? D v44.1).bind λv47 =>
 ((at? D v44.1).bind λv48 =>
 (cond (v48==0)
 (some (inr (inr (true,()))))
 (some (inl ())))))) (fin:=λ(v46:Unit) =>
 (some (inl ()))) (q:=λe=>gi D e.1==0) (r1:=inr (true,())) (r0:=inl ()) (λe he=>by
    obtain⟨i,v,h1,h2,h3,h4⟩:=hq e he
    have h5:at? D e.1=some v:=by rw[h1];exact ah_ h4
    simp only[h5,a0_,jf_ h5]
    cases v==0<;>rfl) rfl
  have hfin:m.any (λe=>gi D e.1==0)=true↔bf1 es fin D.length P t:=by
    rw[i9_]
    constructor
    · rintro⟨e,he,h0⟩
      obtain⟨i,v,h1,h2,h3,h4⟩:=hq e he
      have h5:at? D e.1=some v:=by rw[h1];exact ah_ h4
      rw[jf_ h5] at h0
      exact⟨i,h3,h2,(hL.z i v h4).1 (by simpa using h0)⟩
    · rintro⟨i,h1,h2,h3⟩
      refine⟨_,hM.i i h2,?_⟩
      obtain⟨v,hv⟩:=bb_ (l:=D) (i:=i) h1
      rw[jf_ (show at? D ((i:Int),(1:Int)).1=some v from ah_ hv),(hL.z i v hv).2 h3]
      rfl
  by_cases hf:t=T
  · subst hf
    rw[hfin.2 hT] at hany
    refine⟨inr ((t:Int),((m,()),())),?_,.inr ⟨_,_,rfl,rfl,rfl⟩⟩
    refine e5_ (congrArg (λo=>Option.bind (Option.bind o _) _) hany) ?_
    rfl
  · rw[show m.any (λe=>gi D e.1==0)=false from by
      cases h:m.any (λe=>gi D e.1==0) with
      | false=>rfl
      | true=>exact absurd (hfin.1 h) (hTm t (by omega))] at hany
    refine (λ(h:∃ y,_=some y∧_)=>by
      obtain⟨y,h1,h2⟩:=h
      refine⟨y,?_,h2⟩
      refine e5_ (congrArg (λo=>Option.bind (Option.bind o _) _) hany) ?_
      exact h1) ?_
    refine oh_ (I:=λ(s:Int×(((List (Int×Int))×Unit)×Unit))=>∃ p:Nat,s.1=(p:Int)∧p≤P∧MS s.2.1.1 (rnd es p (Nw es P t))) (μ:=λs=>P - s.1.toNat) ⟨0,rfl,i4_ _,hM⟩ ?_
    rintro⟨sp,⟨m1,u3⟩,u4⟩ ⟨p,rfl,hpP,hM1⟩
    have hM1:MS m1 (rnd es p (Nw es P t)):=hM1
    by_cases hpl:p<P
    · obtain⟨m',e,hm'⟩:=turn_ok (p:=p) hes hxx hel hM1 (Nw_lt (P:=P) hpos hxx p _ hlt)
      have hp1:w64 ((p:Int)+1)=((p+1:Nat):Int):=az_ (show p≤1000000000 by omega)
      simp only[b6_ (show (p:Int)<(P:Int) by omega),a5_,e,a0_]
      exact⟨_,rfl,.inl ⟨_,rfl,⟨p+1,hp1,hpl,hm'⟩,by show P - (w64 ((p:Int)+1)).toNat<P - ((p:Int)).toNat;rw[hp1];omega⟩⟩
    · obtain rfl:p=P:=by omega
      have ht1:w64 ((t:Int)+1)=((t+1:Nat):Int):=az_ (show t≤1000000000 by omega)
      simp only[b9_ (show ¬ (p:Int)<(p:Int) by omega),a2_]
      exact⟨_,rfl,.inr ⟨_,_,rfl,rfl,.inl ⟨_,rfl,⟨t+1,ht1,by omega,hM1⟩,by show T - (w64 ((t:Int)+1)).toNat<T - ((t:Int)).toNat;rw[ht1];omega⟩⟩⟩
end
section
set_option maxRecDepth 10000
structure Mk (n:Nat) (r:List Bool) (s:Nat→Prop):Prop where
 len:r.length=n
 at_:∀ i:Nat,r[i]?=some true↔s i
theorem Mk.set {n:Nat} {r:List Bool} {s:Nat→Prop} (h:Mk n r s) {m:Nat} (hm:m<n):Mk n (r.set m true) (λi=>s i∨i=m):=by
 refine⟨by rw[f6_,h.len],λi => ?_⟩
 by_cases hmi:m=i
 ·subst hmi
  rw[e3_ (by rw[h.len];exact hm)]
  exact⟨λ_=>.inr rfl,λ_=>rfl⟩
 ·rw[b5_ hmi,h.at_ i]
  exact⟨.inl,λh=>h.elim id λh=>absurd h.symm hmi⟩
theorem Mk.cong {n:Nat} {r:List Bool} {s s':Nat→Prop} (h:Mk n r s) (hs:∀ i,s i↔s' i):Mk n r s':=⟨h.len,λi=>(h.at_ i).trans (hs i)⟩
theorem Mk.off {n:Nat} {r:List Bool} {s:Nat→Prop} (h:Mk n r s) {i:Nat} (hi:r[i]?=some false):¬ s i:=λhs=>by
 have:=(h.at_ i).2 hs
 rw[hi] at this
 cases this
theorem inr_ex {σ ρ υ:Type} {K:ρ→Option υ} {Q:υ→Prop} {y:σ⊕ρ} {r:ρ} (h:y = .inr r) (h2:∃ z,K r=some z∧Q z):∃ r z,y = .inr r∧K r=some z∧Q z:=by
 obtain⟨z,h3,h4⟩:=h2
 exact⟨r,z,h,h3,h4⟩
theorem no_ {g:ad_} (hg:SmG g) (hGr:Gr g) (hE:(exG g).2.1=0) {P:Nat} (hP:g.1.2.2.2.2.2.2.1=(P:Int)) (hP4:P≤4) {x:Option (Int×(Int×Unit))}
  (hx:(∃ T:Nat,T≤(exG g).1.1.length∧bf1 (exG g).1.2 (pu_ g (exG g).1.1) (exG g).1.1.length P T∧(∀ u,u<T→¬ bf1 (exG g).1.2 (pu_ g (exG g).1.1) (exG g).1.1.length P u)∧x=some ((T:Int),(0,())))∨((∀ u,¬ bf1 (exG g).1.2 (pu_ g (exG g).1.1) (exG g).1.1.length P u)∧x=some (0,(50,())))):el_ g=x:=by
 have hpos:=hGr.pos
 have hn:=hGr.n
 have hlen:=hGr.len
 have hxx:=hGr.xx
 have hel:=hGr.gI.eL
 have hpv:=hGr.gI.pI.v
 have hok:=ct_ hGr.h0
 unfold el_
 rw[mp_ hg,a0_,hE]
 generalize hps:(exG g).1.1=ps at *
 generalize hes:(exG g).1.2=es at *
 simp only[j1_,a2_,hP]
 have hxs:∃ z,x=some z:=by rcases hx with ⟨T,_,_,_,h⟩ | ⟨_,h⟩<;>exact⟨_,h⟩
 obtain⟨z,rfl⟩:=hxs
 rw[ru_ (by omega) (by omega),c1_,a0_]
 have hz:(List.replicate ps.length false)[0]?=some false:=by
  rw[h4_,if_pos (by omega)]
 rw[show at? (List.replicate ps.length false) 0=some false from ah_ (i:=0) hz,a0_,a0_]
 refine of_ex (oh_ (I:=λ(s:List Bool×(Int×Unit))=>∃ t:Nat,s.2.1=(t:Int)∧t≤ps.length+1∧Mk ps.length s.1 (Nw es P t)∧∀ u,u<t→¬ bf1 es (pu_ g ps) ps.length P u) (μ:=λs=>ps.length+1 - s.2.1.toNat) ⟨0,rfl,i4_ _,⟨by simp,λi => ?_⟩,λu hu=>by omega⟩ ?_)
 ·show ((List.replicate ps.length false).set 0 true)[i]?=some true↔i=0
  by_cases hi:i=0
  ·subst hi
   rw[e3_ (by simp;omega)]
   exact⟨λ_=>rfl,λ_=>rfl⟩
  ·rw[b5_ (by omega),h4_]
   constructor
   ·intro h;split at h<;>simp at h
   ·intro h;exact absurd h hi
 ·rintro⟨r,st,u⟩ ⟨t,rfl,htn,hM,hno⟩
  have hM:Mk ps.length r (Nw es P t):=hM
  by_cases htl:t≤ps.length
  ·simp only[b6_ (show (t:Int)≤(ps.length:Int) by omega),a5_]
   refine oh_ (I:=λ(s:Int×Unit)=>∃ i:Nat,s.1=(i:Int)∧i≤r.length∧∀ j,j<i→¬ (Nw es P t j∧pu_ g ps j=true)) (μ:=λs=>r.length - s.1.toNat) ⟨0,rfl,i4_ _,λj hj=>by omega⟩ ?_
   rintro⟨si,u2⟩ ⟨i,rfl,hin,hnf⟩
   have hi1:w64 ((i:Int)+1)=((i+1:Nat):Int):=az_ (show i≤1000000000 by have:=hM.len;omega)
   by_cases hil:i<r.length
   ·obtain⟨v,hv⟩:=bb_ hil
    obtain⟨p,hp⟩:=bb_ (l:=ps) (i:=i) (by have:=hM.len;omega)
    have hfi:=av1 (g:=g) hp
    simp only[dlt hil,a5_,ah_ hv,a0_]
    cases v with
    | false =>
     simp only[a2_,a0_]
     refine⟨_,rfl,.inl ⟨_,rfl,⟨i+1,hi1,hil,λj hj => ?_⟩,by show r.length - (w64 ((i:Int)+1)).toNat<r.length - ((i:Int)).toNat;rw[hi1];omega⟩⟩
     by_cases hji:j=i
     ·subst hji;exact λh=>hM.off hv h.1
     ·exact hnf j (by omega)
    | true =>
     simp only[a5_,ah_ hp,a0_,yg_ hg hok (hpv p (au_ hp)),← hfi]
     cases hfv:pu_ g ps i with
     | false =>
      simp only[a2_]
      refine⟨_,rfl,.inl ⟨_,rfl,⟨i+1,hi1,hil,λj hj => ?_⟩,by show r.length - (w64 ((i:Int)+1)).toNat<r.length - ((i:Int)).toNat;rw[hi1];omega⟩⟩
      by_cases hji:j=i
      ·subst hji;exact λh=>by rw[hfv] at h;cases h.2
      ·exact hnf j (by omega)
     | true =>
      simp only[a5_]
      have hF:bf1 es (pu_ g ps) ps.length P t:=⟨i,am_ hp,(hM.at_ i).1 hv,hfv⟩
      refine⟨_,rfl,.inr ⟨_,_,rfl,rfl,.inr ⟨_,_,rfl,rfl,?_⟩⟩⟩
      rcases hx with ⟨T,h1,h2,h3,h4⟩ | ⟨h1,_⟩
      ·have hTt:T=t:=by
        refine Nat.le_antisymm (Nat.le_of_not_lt λh=>h3 t h hF) (Nat.le_of_not_lt λh=>hno T h h2)
       subst hTt
       exact (a6_ h4).symm
      ·exact absurd hF (h1 t)
   ·obtain rfl:i=r.length:=by omega
    have hnF:¬ bf1 es (pu_ g ps) ps.length P t:=λ⟨j,h1,h2,h3⟩=>hnf j (by have:=hM.len;omega) ⟨h2,h3⟩
    simp only[dnl,a2_]
    refine⟨_,rfl,.inr (inr_ex rfl ?_)⟩
    have ht1:w64 ((t:Int)+1)=((t+1:Nat):Int):=az_ (show t≤1000000000 by omega)
    show ∃ z,(Option.bind (af_ _ _) _)=some z∧_
    refine oh_ (I:=λ(s:List Bool×(Int×Unit))=>∃ p:Nat,s.2.1=(p:Int)∧p≤P∧Mk ps.length s.1 (rnd es p (Nw es P t))) (μ:=λs=>P - s.2.1.toNat) ⟨0,rfl,i4_ _,hM⟩ ?_
    rintro⟨b,sp,u3⟩ ⟨p,rfl,hpP,hB⟩
    have hB:Mk ps.length b (rnd es p (Nw es P t)):=hB
    by_cases hpl:p<P
    ·generalize hS:rnd es p (Nw es P t)=S at hB
     have hp1:w64 ((p:Int)+1)=((p+1:Nat):Int):=az_ (show p≤1000000000 by omega)
     have hbl:=hB.len
     simp only[b6_ (show (p:Int)<(P:Int) by omega),a5_]
     rw[ux_ (by simp;omega),g9_,a0_]
     refine oh_ (I:=λ(s:Int×(List Bool×Unit))=>∃ i:Nat,s.1=(i:Int)∧i≤b.length∧Mk ps.length s.2.1 (λj=>S j∨∃ i',i'<i∧∃ row x,S i'∧es[i']?=some row∧x ∈ row∧x.1.1=(p:Int)∧x.2=(j:Int))) (μ:=λs=>b.length - s.1.toNat)
      ⟨0,rfl,i4_ _,hB.cong λj=>⟨.inl,λh=>h.elim id λ⟨i',h,_⟩=>by omega⟩⟩ ?_
     rintro⟨si,nx,u4⟩ ⟨i,rfl,hin,hN⟩
     have hN:Mk ps.length nx (λj=>S j∨∃ i',i'<i∧∃ row x,S i'∧es[i']?=some row∧x ∈ row∧x.1.1=(p:Int)∧x.2=(j:Int)):=hN
     by_cases hil:i<b.length
     ·have hi1:w64 ((i:Int)+1)=((i+1:Nat):Int):=az_ (show i≤1000000000 by omega)
      obtain⟨row,hrow⟩:=bb_ (l:=es) (i:=i) (by omega)
      have hrm:=au_ hrow
      have hrl:=hel row hrm
      obtain⟨v,hv⟩:=bb_ hil
      have step:∀ {A:Nat→Prop} {nx':List Bool},Mk ps.length nx' A→(∀ j,A j↔((S j∨∃ i',i'<i∧∃ row x,S i'∧es[i']?=some row∧x ∈ row∧x.1.1=(p:Int)∧x.2=(j:Int))∨(S i∧∃ x ∈ row,x.1.1=(p:Int)∧x.2=(j:Int)))) →
        Mk ps.length nx' (λj=>S j∨∃ i',i'<i+1∧∃ row x,S i'∧es[i']?=some row∧x ∈ row∧x.1.1=(p:Int)∧x.2=(j:Int)):=λ{A nx'} hA hj=>hA.cong λj=>by
       rw[hj j]
       constructor
       ·rintro ((h | ⟨i',h1,h2⟩) | ⟨h1,x,h2,h3,h4⟩)
        ·exact .inl h
        ·exact .inr ⟨i',by omega,h2⟩
        ·exact .inr ⟨i,by omega,row,x,h1,hrow,h2,h3,h4⟩
       ·rintro (h | ⟨i',h1,row',x,h2,h3,h4,h5,h6⟩)
        ·exact .inl (.inl h)
        ·by_cases hii:i'=i
         ·subst hii
          rw[hrow] at h3
          obtain rfl:=a6_ h3
          exact .inr ⟨h2,x,h4,h5,h6⟩
         ·exact .inl (.inr ⟨i',by omega,row',x,h2,h3,h4,h5,h6⟩)
      simp only[dlt hil,a5_,ah_ hrow,a0_,ah_ hv]
      refine oh_ (I:=λ(s:Int×(List Bool×Unit))=>∃ k:Nat,s.1=(k:Int)∧k≤row.length∧Mk ps.length s.2.1 (λj=>(S j∨∃ i',i'<i∧∃ row x,S i'∧es[i']?=some row∧x ∈ row∧x.1.1=(p:Int)∧x.2=(j:Int))∨(S i∧∃ x ∈ row.take k,x.1.1=(p:Int)∧x.2=(j:Int)))) (μ:=λs=>row.length - s.1.toNat)
       ⟨0,rfl,i4_ _,hN.cong λj=>⟨.inl,λh=>h.elim id λ⟨_,x,hx,_⟩=>by simp at hx⟩⟩ ?_
      rintro⟨sk,ny,u5⟩ ⟨k,rfl,hkn,hY⟩
      have hY:Mk ps.length ny (λj=>(S j∨∃ i',i'<i∧∃ row x,S i'∧es[i']?=some row∧x ∈ row∧x.1.1=(p:Int)∧x.2=(j:Int))∨(S i∧∃ x ∈ row.take k,x.1.1=(p:Int)∧x.2=(j:Int))):=hY
      by_cases hkl:k<row.length
      ·obtain⟨x,hx⟩:=bb_ (l:=row) (i:=k) hkl
       obtain⟨x0,x1⟩:=hxx row hrm x (au_ hx)
       obtain⟨j,hj⟩:∃ j:Nat,x.2=(j:Int):=⟨x.2.toNat,by omega⟩
       have hjn:j<ps.length:=by omega
       obtain⟨w,hw⟩:=bb_ (l:=ny) (i:=j) (by rw[hY.len];exact hjn)
       have hk1:w64 ((k:Int)+1)=((k+1:Nat):Int):=az_ (show k≤1000000000 by omega)
       simp only[dlt hkl,a5_,ah_ hx,a0_]
       cases v with
       | false =>
        simp only[a2_]
        refine⟨_,rfl,.inr ⟨_,_,rfl,rfl,.inl ⟨_,rfl,⟨i+1,hi1,hil,step hY λj => ?_⟩,by show b.length - (w64 ((i:Int)+1)).toNat<b.length - ((i:Int)).toNat;rw[hi1];omega⟩⟩⟩
        have:=hB.off hv
        exact⟨λh=>h.elim .inl λh=>absurd h.1 this,λh=>h.elim .inl λh=>absurd h.1 this⟩
       | true =>
        have hSi:=(hB.at_ i).1 hv
        simp only[a5_]
        cases hc:x.1.1==(p:Int) with
        | true =>
         simp only[a5_,hj,ah_ hw,a0_,c1_]
         refine⟨_,rfl,.inl ⟨_,rfl,⟨k+1,hk1,hkl,(hY.set hjn).cong λi'' => ?_⟩,by show row.length - (w64 ((k:Int)+1)).toNat<row.length - ((k:Int)).toNat;rw[hk1];omega⟩⟩
         rw[lx_ hx]
         constructor
         ·rintro ((h | ⟨h,z,h2,h3⟩) | rfl)
          ·exact .inl h
          ·exact .inr ⟨h,z,h7_ _ h2,h3⟩
          ·exact .inr ⟨hSi,x,j4_ _ (by simp),by simpa using hc,hj⟩
         ·rintro (h | ⟨h,z,h2,h3,h4⟩)
          ·exact .inl (.inl h)
          ·rcases b3_.1 h2 with h2 | h2
           ·exact .inl (.inr ⟨h,z,h2,h3,h4⟩)
           ·obtain rfl:z=x:=by simpa using h2
            exact .inr (by omega)
        | false =>
         simp only[a2_,a0_]
         refine⟨_,rfl,.inl ⟨_,rfl,⟨k+1,hk1,hkl,hY.cong λi'' => ?_⟩,by show row.length - (w64 ((k:Int)+1)).toNat<row.length - ((k:Int)).toNat;rw[hk1];omega⟩⟩
         rw[lx_ hx]
         constructor
         ·rintro (h | ⟨h,z,h2,h3⟩)
          ·exact .inl h
          ·exact .inr ⟨h,z,h7_ _ h2,h3⟩
         ·rintro (h | ⟨h,z,h2,h3,h4⟩)
          ·exact .inl h
          ·rcases b3_.1 h2 with h2 | h2
           ·exact .inr ⟨h,z,h2,h3,h4⟩
           ·obtain rfl:z=x:=by simpa using h2
            rw[h3] at hc
            simp at hc
      ·obtain rfl:k=row.length:=by omega
       simp only[dnl,a2_,a0_]
       refine⟨_,rfl,.inr ⟨_,_,rfl,rfl,.inl ⟨_,rfl,⟨i+1,hi1,hil,step hY λj => ?_⟩,by show b.length - (w64 ((i:Int)+1)).toNat<b.length - ((i:Int)).toNat;rw[hi1];omega⟩⟩⟩
       rw[d9_]
     ·obtain rfl:i=b.length:=by omega
      simp only[dnl,a2_]
      refine⟨_,rfl,.inr ⟨_,_,rfl,rfl,.inl ⟨_,rfl,⟨p+1,hp1,hpl,?_⟩,by show P - (w64 ((p:Int)+1)).toNat<P - ((p:Int)).toNat;rw[hp1];omega⟩⟩⟩
      show Mk ps.length nx (stp es p (rnd es p (Nw es P t)))
      rw[hS]
      refine hN.cong λj=>⟨λh => ?_,λh => ?_⟩
      ·rcases h with h | ⟨i',_,row,x,h1,h2,h3,h4,h5⟩
       ·exact .inl h
       ·exact .inr ⟨i',row,x,h1,h2,h3,h4,h5⟩
      ·rcases h with h | ⟨i',row,x,h1,h2,h3,h4,h5⟩
       ·exact .inl h
       ·exact .inr ⟨i',by have:=am_ h2;omega,row,x,h1,h2,h3,h4,h5⟩
    ·obtain rfl:p=P:=by omega
     simp only[b9_ (show ¬ (p:Int)<(p:Int) by omega),a2_]
     refine⟨_,rfl,.inr ⟨_,_,rfl,rfl,.inl ⟨_,rfl,⟨t+1,ht1,by omega,hB,λu hu => ?_⟩,by show ps.length+1 - (w64 ((t:Int)+1)).toNat<ps.length+1 - ((t:Int)).toNat;rw[ht1];omega⟩⟩⟩
     by_cases hut:u=t
     ·rw[hut];exact hnF
     ·exact hno u (by omega)
  ·obtain rfl:t=ps.length+1:=by omega
   simp only[b9_ (show ¬ (((ps.length+1:Nat):Int))≤(ps.length:Int) by omega),a2_]
   refine⟨_,rfl,.inr ⟨_,_,rfl,rfl,?_⟩⟩
   rcases hx with ⟨T,h1,h2,h3,h4⟩ | ⟨_,h4⟩
   ·exact absurd h2 (hno T (by omega))
   ·exact (a6_ h4).symm
end
section
set_option maxRecDepth 10000
theorem ar0 {g:ad_} (hg:SmG g):∃ (r:Int×(Int×Unit)) (l:List ag_),gl_ g=some r∧el_ g=some r∧dv_ g=some (l,(r.2.1,()))∧(r.2.1=0→∃ T P:Nat,r.1=(T:Int)∧g.1.2.2.2.2.2.2.1=(P:Int)∧T≤l.length∧l.length≤T * P∧T≤3000∧P≤4):=by
 by_cases hE:(exG g).2.1=0
 ·have hGr:=exG_Gr hg hE
  obtain⟨P,hP,hP4,hpl⟩:=hGr.pl
  obtain⟨D,hS⟩:=qr_ hg
  rcases hS with ⟨h,_⟩ | ⟨_,hDl,hL,hSo⟩
  ·exact absurd hE h
  have hlen:=hGr.len
  have hn:=hGr.n
  have hpos:=hGr.pos
  have hxx:∀ l ∈ (exG g).1.2,∀ x ∈ l,0≤x.2∧x.2<(D.length:Int):=by rw[hDl];exact hGr.xx
  obtain⟨D',h1,hb,h2⟩:=cs9 hg hGr.h0 hGr.gI hGr.len
  have hDD:D'=D:=aw4 h1.2 hL (by rw[h1.1,hDl])
  subst hDD
  have hr:gl_ g=rouX g (exG g).1 (D',()):=by
   rw[ai7]
   simp only
   rw[mr_ hg,a0_,hE]
   simp only[j1_,a2_]
   rw[show (exG g).1=((exG g).1.1,(exG g).1.2) from rfl,h2]
  have hg0:D'[0]?=some (gi D' 0):=by
   have hat:at? D' 0=some (gi D' 0):=nd_ (by omega) (by omega)
   obtain⟨i,hi,hh⟩:=sn_ hat
   obtain rfl:i=0:=by omega
   exact hh
  by_cases hneg:gi D' 0<0
  ·have hno:=λu=>bs3 (P:=P) hL hneg u
   rw[hDl] at hno
   refine⟨(0,(50,())),[],?_,no_ hg hGr hE hP hP4 (.inr ⟨hno,rfl⟩),?_,λh=>by cases h⟩
   ·rw[hr]
    unfold rouX
    simp only[show at? D' 0=some (gi D' 0) from ah_ (i:=0) hg0,a0_,b6_ hneg,a5_]
   ·rw[hSo,b6_ hneg]
    rfl
  ·obtain⟨k,hk⟩:∃ k:Nat,gi D' 0=(k:Int):=⟨(gi D' 0).toNat,by omega⟩
   rw[hk] at hg0
   have hkn:=hb 0 _ hg0
   obtain⟨T,t1,t2,t3,t4⟩:=bi8 hL hxx hpl hg0
   obtain⟨xs,j,_,hxs,_,_,hxl⟩:=bn1 hL hxx k 0 hg0
   refine⟨((T:Int),(0,())),shp (exG g).1.2 D' k 0,?_,no_ hg hGr hE hP hP4 (.inl ⟨T,by omega,by rw[← hDl];exact t3,by rw[← hDl];exact t4,rfl⟩),?_,λ_=>⟨T,P,rfl,hP,?_,?_,by omega,hP4⟩⟩
   ·rw[hr]
    exact rouX_eq (ps:=(exG g).1.1) (es:=(exG g).1.2) hL (by omega) (by omega) hGr.gI.eL hxx hP hP4 hg0 (by omega) t3 t1 t4
   ·rw[hSo,hk,b9_ (show ¬ (k:Int)<0 by omega)]
    rfl
   ·have:(shp (exG g).1.2 D' k 0).length=k:=by rw[show (0:Int)=((0:Nat):Int) from rfl,hxs,d2_,hxl]
    omega
   ·have:(shp (exG g).1.2 D' k 0).length=k:=by rw[show (0:Int)=((0:Nat):Int) from rfl,hxs,d2_,hxl]
    omega
 ·obtain⟨D,hS⟩:=qr_ hg
  rcases hS with ⟨h,hSo⟩ | ⟨h,_⟩
  ·have hb:((exG g).2.1 != 0)=true:=by simpa using h
   refine⟨(0,((exG g).2.1,())),[],?_,?_,hSo,λh'=>absurd h' h⟩
   ·rw[ai7]
    simp only
    rw[mr_ hg,a0_]
    simp only[hb,a5_]
   ·unfold el_
    rw[mp_ hg,a0_]
    simp only[hb,a5_]
  ·exact absurd h hE
theorem law05_ProveRounds (g:ad_):gt_ g=some (true,()):=by
 obtain⟨b,e,hb⟩:=au1 g
 unfold gt_
 rw[e,a0_]
 cases b with
 | true=>simp only[a5_,wu_,a0_]
 | false =>
 have hg:=hb rfl
 obtain⟨r,l,h1,h2,h3,h4⟩:=ar0 hg
 simp only[a2_]
 rw[bh0 hg,a0_,h1,a0_,h2,a0_,h3,a0_]
 simp only[j1_,a2_,a0_,wu_]
 cases hc:r.2.1 != 0 with
 | true=>rfl
 | false =>
  obtain⟨T,P,g1,g2,g3,g4,g5,g6⟩:=h4 (by simpa using hc)
  have hle:T * P≤3000 * 4:=Nat.mul_le_mul g5 g6
  have hm:(T:Int) * (P:Int)=((T * P:Nat):Int):=by simp
  simp only[a2_,g1,g2,hm,ez_ (n:=((T * P:Nat):Int)) (by omega) (by omega),b6_ (show (T:Int)≤(l.length:Int) by omega),b6_ (show (l.length:Int)≤((T * P:Nat):Int) by omega),a5_]
end
end Go.Proofs.YtgeehfnbhbibeaaGreatDoor.Rx
