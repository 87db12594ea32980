/- A part of the proof: what the functions of the program compute, shown over the model. -/
import Derived.KernelRfl
import Derived.Test.YtmdlefagpcmllaaGreatDoorPart5
set_option linter.unusedSectionVars false
set_option linter.unusedVariables false
set_option linter.unusedSimpArgs false
namespace Go.Proofs.YtmdlefagpcmllaaGreatDoor.Rx
open Go Pad Rex
section
set_option maxRecDepth 10000
theorem negs_app (a b:List Int):mh_ (a++b)=mh_ a+mh_ b:=by unfold mh_; rw [List.countP_append]
theorem negs_take {a:List Int} {i:Nat} {v:Int} (h:a[i]?=some v):mh_ (a.take (i+1))=mh_ (a.take i)+(if v<0 then 1 else 0):=by
  rw [d3_,h,negs_app,show (some v).toList=[v] from rfl,negs_cons,show mh_ []=0 from rfl,b0_]
theorem BI_first {g:ac_} {ps:List aa_} {es:List (List af_)} {near:List Int} (h1:∀ x ∈ near,∃ j:Nat,x=(j:Int)∧j<ps.length∧se_ g ps j=true) (h2:∀ j:Nat,j<ps.length→se_ g ps j=true→(j:Int) ∈ near) (h3:near.length+mh_ (wg_ g ps)=ps.length) :
    BI es (se_ g ps) ps.length near (wg_ g ps):=by
  have hl:(wg_ g ps).length=ps.length:=d2_ _
  have hg:∀ x ∈ near,at? (wg_ g ps) x=some 0:=fun x hx=>by
    obtain ⟨j,rfl,hj,hf⟩:=h1 x hx
    obtain ⟨v,hv⟩:=be_ (l:=wg_ g ps) (i:=j) (by omega)
    rcases pz_ hv with ⟨rfl,_⟩ | ⟨rfl,hf2⟩
    · exact ah_ hv
    · rw [hf] at hf2; cases hf2
  have hle:∀ (i:Nat) (v:Int),(wg_ g ps)[i]?=some v→-1≤v∧v≤0:=fun i v hv=>by
    rcases pz_ hv with ⟨rfl,_⟩ | ⟨rfl,_⟩ <;> omega
  refine ⟨hl,fun i v hv=>(hle i v hv).1,fun i v hv => ?_,fun i k hk => ?_,fun x hx=>⟨0,hg x hx,m0_ _⟩,?_,fun x hx i v hv => ?_,fun i l x k hl hxl hat hnn => ?_,fun i v hv => ?_,by omega⟩
  · rcases pz_ hv with ⟨rfl,h⟩ | ⟨rfl,h⟩
    · exact ⟨fun _=>h,fun _=>rfl⟩
    · rw [h]
      exact ⟨fun e=>by omega,fun e=>by cases e⟩
  · have:=hle i _ hk
    omega
  · refine List.pairwise_of_forall_mem_list (fun x hx y hy => ?_)
    rw [mk_ (hg x hx),mk_ (hg y hy)]
    exact m0_ _
  · rw [mk_ (hg x hx)]
    have:=hle i v hv
    omega
  · obtain ⟨xi,hxi,hxk⟩:=nb_ hat
    have hlt:=am_ hxk
    rcases pz_ hxk with ⟨_,hf⟩ | ⟨e,_⟩
    · exact absurd (by rw [hxi]; exact h2 xi (by omega) hf) hnn
    · omega
  · have:=hle i v hv
    have:=negs_le (wg_ g ps)
    omega
noncomputable def meaG (rowB:Int→List af_→(Int×(List (List Int)×Unit))→Option ((Int×(List (List Int)×Unit))⊕(List (List Int)×Unit))) {τ:Type} (a0:ac_) (G:bz_) (K:List Int×Unit→Option τ):Option τ :=
 ((du_ [(-1)] (G.1.length:Int)).bind fun v1 =>
 ((ag_ (ρ:=((List Int)×((List Int)×Unit))) (fun (v2:((List Int)×(Int×((List Int)×Unit)))) =>
 (cond (decide (v2.2.1<(G.1.length:Int)))
 ((((at? G.1 v2.2.1).bind fun v3 =>
 ((hq_ a0.1 v3.1).bind fun v4 =>
 (((cond (v4.2.1==0)
 (some (v4.1,()))
 (some (false,())))).bind fun v5 =>
 (cond v5.1
 ((at? v2.2.2.1 v2.2.1).bind fun v6 =>
 ((at? v2.2.2.1 v2.2.1).bind fun v7 =>
 ((push? (α:=Int) v2.1 [v2.2.1]).bind fun v8 =>
 (some (v8,((v2.2.2.1.set v2.2.1.toNat 0),()))))))
 (some (v2.1,(v2.2.2.1,())))))))).bind fun v9 =>
 (some (Sum.inl (v9.1,((w64 (v2.2.1+1)),(v9.2.1,()))))))
 (some (Sum.inr (v2.1,(v2.2.2.1,())))))) ([],(0,(v1,())))).bind fun v10 =>
 ((mk? (α:=(List Int)) (G.1.length:Int) []).bind fun v11 =>
 ((ag_ (ρ:=((List (List Int))×Unit)) (fun (v12:(Int×((List (List Int))×Unit))) =>
 (cond (decide (v12.1<(G.2.length:Int)))
 ((at? G.2 v12.1).bind fun v13 =>
 ((ag_ (ρ:=((List (List Int))×Unit)) (rowB v12.1 v13) (0,(v12.2.1,()))).bind fun v22 =>
 (some (Sum.inl ((w64 (v12.1+1)),(v22.1,()))))))
 (some (Sum.inr (v12.2.1,()))))) (0,(v11,()))).bind fun v23 =>
 ((ag_ (ρ:=((List Int)×Unit)) (fun (v24:((List Int)×((List Int)×Unit))) =>
 (cond (decide (0<(v24.1.length:Int)))
 ((at? v24.1 0).bind fun v25 =>
 ((at? v24.1 0).bind fun v26 =>
 ((sub? v24.1 1 (v24.1.length:Int)).bind fun v27 =>
 ((at? v23.1 v26).bind fun v28 =>
 ((ag_ (ρ:=((List Int)×((List Int)×Unit))) (fun (v29:((List Int)×(Int×((List Int)×Unit)))) =>
 (cond (decide (v29.2.1<(v28.length:Int)))
 ((((at? v28 v29.2.1).bind fun v30 =>
 ((at? v29.2.2.1 v30).bind fun v31 =>
 ((at? v29.2.2.1 v30).bind fun v32 =>
 (cond (decide (v32<0))
 ((at? v29.2.2.1 v26).bind fun v33 =>
 ((at? v29.2.2.1 v26).bind fun v34 =>
 ((at? v29.2.2.1 v30).bind fun v35 =>
 ((at? v29.2.2.1 v30).bind fun v36 =>
 ((push? (α:=Int) v29.1 [v30]).bind fun v37 =>
 (some (v37,((v29.2.2.1.set v30.toNat (w64 (v34+1))),()))))))))
 (some (v29.1,(v29.2.2.1,())))))))).bind fun v38 =>
 (some (Sum.inl (v38.1,((w64 (v29.2.1+1)),(v38.2.1,()))))))
 (some (Sum.inr (v29.1,(v29.2.2.1,())))))) (v27,(0,(v24.2.1,())))).bind fun v39 =>
 (some (Sum.inl (v39.1,(v39.2.1,())))))))))
 (some (Sum.inr (v24.2.1,()))))) (v10.1,(v10.2.1,()))).bind fun v40 =>
 (K v40))))))
def rowE (i:Int) (row:List af_):(Int×(List (List Int)×Unit))→Option ((Int×(List (List Int)×Unit))⊕(List (List Int)×Unit)) :=
 (fun (v14:(Int×((List (List Int))×Unit))) =>
 (cond (decide (v14.1<(row.length:Int)))
 ((((at? row v14.1).bind fun v15 =>
 ((at? v14.2.1 v15.2).bind fun v16 =>
 ((at? v14.2.1 v15.2).bind fun v17 =>
 ((push? (α:=Int) v17 [i]).bind fun v18 =>
 ((at? v14.2.1 v15.2).bind fun v19 =>
 (cond ((v15.2==v15.2)&&true)
 ((at? v14.2.1 v15.2).bind fun v20 =>
 (some ((v14.2.1.set v15.2.toNat v18),())))
 none))))))).bind fun v21 =>
 (some (Sum.inl ((w64 (v14.1+1)),(v21.1,())))))
 (some (Sum.inr (v14.2.1,())))))
noncomputable abbrev meaK {τ:Type} (a0:ac_) (G:bz_) (K:List Int×Unit→Option τ):Option τ:=meaG rowE a0 G K
theorem meaG_bind (rowB:Int→List af_→(Int×(List (List Int)×Unit))→Option ((Int×(List (List Int)×Unit))⊕(List (List Int)×Unit))) {τ:Type} (a0:ac_) (G:bz_) (K:List Int×Unit→Option τ):meaG rowB a0 G K=(meaG rowB a0 G some).bind K:=by
  unfold meaG
  simp only [Option.bind_assoc,a0_]
def esQ (Q:af_→Bool) (es:List (List af_)):List (List af_):=es.map fun l=>l.filter Q
theorem esQ_at {Q:af_→Bool} {es:List (List af_)} {i:Nat} {l:List af_} (h:es[i]?=some l):(esQ Q es)[i]?=some (l.filter Q):=by
  unfold esQ
  rw [d4_,h]
  rfl
structure RowOk (rowB:Int→List af_→(Int×(List (List Int)×Unit))→Option ((Int×(List (List Int)×Unit))⊕(List (List Int)×Unit))) (Q:af_→Bool):Prop where
  st:∀ (i:Int) row (k:Nat) x bk l,row[k]?=some x→at? bk x.2=some l→l.length≤2000000→k≤1000→rowB i row ((k:Int),(bk,()))=some (.inl (((k+1:Nat):Int),(cond (Q x) (bk.set x.2.toNat (l++[i])) bk,())))
  en:∀ (i:Int) row bk,rowB i row ((row.length:Int),(bk,()))=some (.inr (bk,()))
theorem mea_some {rowB} {Q:af_→Bool} (hR:RowOk rowB Q) {g:ac_} (hg:SmG g) (h0:ck_ g=0) {ps:List aa_} {es:List (List af_)} (hG:GI g ps es) (hes:es.length=ps.length):∃ y,meaG rowB g (ps,es) some=some y∧∃ D,y=(D,())∧(D.length=ps.length∧LC (esQ Q es) (se_ g ps) D)∧∀ (i:Nat) (v:Int),D[i]?=some v→v≤(ps.length:Int):=by
  have ok:=di_ h0
  have okr:=bo_ ok.room
  have hn:=hG.pI.n
  have hx:∀ l ∈ es,∀ x ∈ l,0≤x.2∧x.2<(ps.length:Int):=fun l hl x hx=>(hG.eI l hl x hx).1
  have hesQ:(esQ Q es).length=es.length:=d2_ _
  have hxQ:∀ l ∈ esQ Q es,∀ x ∈ l,0≤x.2∧x.2<(ps.length:Int):=fun l hl x hxl=>by
    obtain ⟨l',h1,rfl⟩:=d8_.1 hl
    exact hx l' h1 x (c8_.1 hxl).1
  unfold meaG
  simp only
  rw [Repeat_eq (by omega),a0_]
  have hfl:(wg_ g ps).length=ps.length:=d2_ _
  refine sq_ ps.length (fun (i:Nat) (z:List Int×(Int×(List Int×Unit)))=>∃ near far:List Int,z=(near,((i:Int),(far,())))∧far.length=ps.length∧(∀ j:Nat,far[j]?=if j<i then (wg_ g ps)[j]? else (List.replicate ps.length (-1:Int))[j]?)∧(∀ x ∈ near,∃ j:Nat,x=(j:Int)∧j<i∧se_ g ps j=true)∧(∀ j:Nat,j<i→se_ g ps j=true→(j:Int) ∈ near)∧near.length+mh_ ((wg_ g ps).take i)=i)
    ⟨[],_,rfl,f2_,(fun j=>by simp),(fun x hx=>by cases hx),(fun j hj=>by omega),rfl⟩ (fun i z hi hz => ?_) (fun z hz => ?_)
  · obtain ⟨near,far,rfl,hl,hj,h1,h2,h3⟩:=hz
    obtain ⟨p,hp⟩:=be_ hi
    obtain ⟨v,hv⟩:=be_ (l:=far) (i:=i) (by omega)
    have hv1:v = -1:=by
      rw [hj,if_neg (by omega),i9_,if_pos hi] at hv
      exact (a6_ hv).symm
    have hf0:(wg_ g ps)[i]?=some (cond (dj_ p.1.1 g.1.2.2.2.2.2.2.2) 0 (-1)):=by
      unfold wg_
      rw [d4_,hp]
      rfl
    have hfp:=finP_at (g:=g) hp
    have hnt:=negs_take hf0
    simp only [dlt hi,a4_,ah_ hp,ah_ hv,a0_,room_Done hg.room ok.room (hG.pI.v p (ax_ hp)).st,show ((0:Int)==0)=true from rfl,c1_,az_ (show Sm i by show _≤1000000000; omega),ca_ (show Sm near.length by show _≤1000000000; omega)]
    cases hc:dj_ p.1.1 g.1.2.2.2.2.2.2.2 with
    | true =>
      rw [hc] at hf0 hfp hnt
      refine ⟨_,rfl,near++[(i:Int)],far.set i 0,rfl,by rw [g1_,hl],fun j => ?_,fun x hx => ?_,fun j hj hf => ?_,?_⟩
      · rcases n2_ j i with hji | hji | hji
        · rw [b6_ (by omega),hj,if_pos hji,if_pos (by omega)]
        · subst hji
          rw [f0_ (by omega),if_pos (by omega),hf0]
          rfl
        · rw [b6_ (by omega),hj,if_neg (by omega),if_neg (by omega)]
      · rcases b7_.1 hx with hx | hx
        · obtain ⟨j,a,b,c⟩:=h1 x hx
          exact ⟨j,a,by omega,c⟩
        · rw [e2_] at hx
          exact ⟨i,hx,by omega,hfp⟩
      · rcases k8_ j i with hji | hji
        · exact n9_ _ (h2 j hji hf)
        · obtain rfl:j=i:=by omega
          exact n5_ _ (e2_.2 rfl)
      · rw [a9_,d6_,hnt]
        show _+1+(_+if (0:Int)<0 then 1 else 0)=i+1
        rw [if_neg (by omega)]
        omega
    | false =>
      rw [hc] at hf0 hfp hnt
      refine ⟨_,rfl,near,far,rfl,hl,fun j => ?_,fun x hx => ?_,fun j hj hf => ?_,?_⟩
      · rcases n2_ j i with hji | hji | hji
        · rw [hj,if_pos hji,if_pos (by omega)]
        · subst hji
          rw [hv,if_pos (by omega),hf0,hv1]
          rfl
        · rw [hj,if_neg (by omega),if_neg (by omega)]
      · obtain ⟨j,a,b,c⟩:=h1 x hx
        exact ⟨j,a,by omega,c⟩
      · rcases k8_ j i with hji | hji
        · exact h2 j hji hf
        · obtain rfl:j=i:=by omega
          rw [hfp] at hf
          cases hf
      · rw [hnt]
        show _+(_+if (-1:Int)<0 then 1 else 0)=i+1
        rw [if_pos (by omega)]
        omega
  · obtain ⟨near,far,rfl,hl,hj,h1,h2,h3⟩:=hz
    have hff:far=wg_ g ps:=f3_ fun j=>by
      rw [hj]
      split
      · rfl
      · rw [b4_ (by rw [f2_]; omega),b4_ (by omega)]
    subst hff
    rw [g3_ (by omega)] at h3
    refine ⟨_,by simp only [dnl,a2_]; rfl,?_⟩
    simp only
    rw [tc_ (by omega) (by omega),a0_,c1_]
    refine sq_ es.length (fun (i:Nat) (z:Int×(List (List Int)×Unit))=>∃ bk,z=((i:Int),(bk,()))∧BkI (esQ Q es) ps.length i bk) ⟨_,rfl,f2_,fun t l hl => ?_⟩ (fun i z hi hz => ?_) (fun z hz => ?_)
    · rw [i9_] at hl
      split at hl
      · obtain rfl:=a6_ hl
        exact ⟨k9_ _,fun y=>⟨(fun h=>by cases h),fun ⟨j,h,_⟩=>by omega⟩⟩
      · cases hl
    · obtain ⟨bk,rfl,hb1,hb2⟩:=hz
      obtain ⟨row,hrow⟩:=be_ hi
      have hrl:=hG.eL row (ax_ hrow)
      simp only [dlt hi,a4_,ah_ hrow,a0_]
      have:=sq_ (υ:=(Int×(List (List Int)×Unit))⊕(List (List Int)×Unit)) row.length (fun (k:Nat) (z:Int×(List (List Int)×Unit))=>∃ bk',z=((k:Int),(bk',()))∧bk'.length=ps.length∧∀ (t:Nat) l,bk'[t]?=some l→l.length≤i * 480+k∧∀ y:Int,y ∈ l↔((∃ j:Nat,j<i∧y=(j:Int)∧∃ row,(esQ Q es)[j]?=some row∧∃ x ∈ row,x.2=(t:Int))∨(y=(i:Int)∧∃ x ∈ (row.take k).filter Q,x.2=(t:Int))))
        (body:=rowB (i:Int) row) (z0:=(0,(bk,()))) (K:=fun v22=>some (Sum.inl ((w64 ((i:Int)+1)),(v22.1,())))) (Q:=fun y=>∃ z',y=Sum.inl z'∧∃ bk,z'=(((i+1:Nat):Int),(bk,()))∧BkI (esQ Q es) ps.length (i+1) bk)
        ⟨bk,rfl,hb1,fun t l hl=>⟨(hb2 t l hl).1,fun y=>by
          rw [(hb2 t l hl).2 y,k2_,List.filter_nil]
          exact ⟨.inl,fun h=>h.elim id fun ⟨_,x,h,_⟩=>(by cases h)⟩⟩⟩ (fun k z hk hz => ?_) (fun z hz => ?_)
      · obtain ⟨y,ey,z',rfl,bk2,rfl,hB⟩:=this
        exact ⟨_,ey,bk2,rfl,hB⟩
      · obtain ⟨bk',rfl,hb3,hb4⟩:=hz
        obtain ⟨x,hxk⟩:=be_ hk
        obtain ⟨x0,x1⟩:=hx row (ax_ hrow) x (ax_ hxk)
        obtain ⟨l,hl⟩:=be_ (l:=bk') (i:=x.2.toNat) (by omega)
        have hat:at? bk' x.2=some l:=by rw [show x.2=((x.2.toNat:Nat):Int) by omega]; exact ah_ hl
        obtain ⟨q1,q2⟩:=hb4 _ l hl
        refine ⟨_,hR.st (i:Int) row k x bk' l hxk hat (by omega) (by omega),_,rfl,by cases Q x <;> simp [hb3],fun t l' hl' => ?_⟩
        have htk:∀ y:Int,(∃ e ∈ (row.take (k+1)).filter Q,e.2=y)↔((∃ e ∈ (row.take k).filter Q,e.2=y)∨(Q x=true∧x.2=y)):=fun y=>by
          rw [d3_,hxk,m7_]
          constructor
          · rintro ⟨e,he,h⟩
            rcases b7_.1 he with he | he
            · exact .inl ⟨e,he,h⟩
            · have h2:=c8_.1 he
              have:e=x:=by simpa using h2.1
              rw [this] at h h2
              exact .inr ⟨h2.2,h⟩
          · rintro (⟨e,he,h⟩ | ⟨hq,h⟩)
            · exact ⟨e,n9_ _ he,h⟩
            · exact ⟨x,n5_ _ (c8_.2 ⟨by simp,hq⟩),h⟩
        have skip:∀ l',bk'[t]?=some l'→(Q x=true→x.2≠(t:Int))→l'.length≤i * 480+(k+1)∧∀ y:Int,y ∈ l'↔((∃ j:Nat,j<i∧y=(j:Int)∧∃ row,(esQ Q es)[j]?=some row∧∃ x ∈ row,x.2=(t:Int))∨(y=(i:Int)∧∃ x ∈ (row.take (k+1)).filter Q,x.2=(t:Int))):=fun l' hl' hne=>by
          obtain ⟨r1,r2⟩:=hb4 t l' hl'
          refine ⟨by omega,fun y => ?_⟩
          rw [r2 y,htk]
          constructor
          · rintro (h | ⟨h,h'⟩)
            · exact .inl h
            · exact .inr ⟨h,.inl h'⟩
          · rintro (h | ⟨h,h' | ⟨h1,h2⟩⟩)
            · exact .inl h
            · exact .inr ⟨h,h'⟩
            · exact absurd h2 (hne h1)
        cases hQ:Q x with
        | false =>
          rw [hQ] at hl'
          exact skip l' hl' (fun e=>by rw [hQ] at e; cases e)
        | true =>
          rw [hQ,a4_] at hl'
          by_cases ht:x.2.toNat=t
          · rw [ht,f0_ (by omega)] at hl'
            obtain rfl:=a6_ hl'
            rw [ht] at q2
            have hxt:x.2=(t:Int):=by omega
            refine ⟨by rw [a9_,d6_]; omega,fun y => ?_⟩
            rw [b7_,e2_,q2 y,htk]
            constructor
            · rintro ((h | ⟨h,h'⟩) | h)
              · exact .inl h
              · exact .inr ⟨h,.inl h'⟩
              · exact .inr ⟨h,.inr ⟨hQ,hxt⟩⟩
            · rintro (h | ⟨h,h' | h'⟩)
              · exact .inl (.inl h)
              · exact .inl (.inr ⟨h,h'⟩)
              · exact .inr h
          · rw [b6_ ht] at hl'
            exact skip l' hl' (fun _=>by omega)
      · obtain ⟨bk',rfl,hb3,hb4⟩:=hz
        refine ⟨_,hR.en (i:Int) row bk',_,rfl,_,rfl,bk',by simp only [az_ (show Sm i by show _≤1000000000; omega)],hb3,fun t l hl => ?_⟩
        obtain ⟨r1,r2⟩:=hb4 t l hl
        refine ⟨by omega,fun y => ?_⟩
        rw [r2 y,d7_]
        constructor
        · rintro (⟨j,a,b⟩ | ⟨h,h'⟩)
          · exact ⟨j,by omega,b⟩
          · exact ⟨i,by omega,h,_,esQ_at hrow,h'⟩
        · rintro ⟨j,a,b,row',c,d⟩
          rcases k8_ j i with hji | hji
          · exact .inl ⟨j,hji,b,row',c,d⟩
          · obtain rfl:j=i:=by omega
            rw [esQ_at hrow] at c
            obtain rfl:=a6_ c
            exact .inr ⟨b,d⟩
    · obtain ⟨bk,rfl,hB⟩:=hz
      rw [← hesQ] at hB
      refine ⟨_,by simp only [dnl,a2_]; rfl,?_⟩
      simp only
      refine bind_queue (fun near far=>BI (esQ Q es) (se_ g ps) ps.length near far) (fun near far=>near.length+mh_ far) (fun h tl far I => ?_) (fun far I => ?_) (BI_first h1 h2 h3)
      rotate_left
      · exact ⟨_,rfl,_,rfl,far,rfl,⟨I.len,BI_end I⟩,fun i v h=>by have:=I.bd i v h; omega⟩
      obtain ⟨d,hd,hd0⟩:=I.nr h (f1_ ..)
      obtain ⟨hi,hhi,hdi⟩:=nb_ hd
      have hlt:=am_ hdi
      have hIl:=I.len
      have hIm:=I.ms
      have hIb:=I.bd hi d hdi
      obtain ⟨bs,hbs⟩:=be_ (l:=bk) (i:=hi) (by have:=hB.1; omega)
      have hbsl:=(hB.2 hi bs hbs).1
      rw [hesQ] at hbsl
      have hbe:=BkI_all hB hbs
      have hatb:at? bk h=some bs:=by rw [hhi]; exact ah_ hbs
      have hat0:at? (h::tl) 0=some h:=rfl
      have hsub:sub? (h::tl) 1 ((h::tl).length:Int)=some tl:=by
        unfold sub?
        rw [if_pos ⟨by omega,by rw [c3_]; omega,m0_ _⟩,c1_,d7_]
        rfl
      simp only [show decide ((0:Int)<((h::tl).length:Int))=true from b8_ (by rw [c3_]; omega),a4_,hat0,hsub,hatb,a0_]
      refine sq_ bs.length (fun (k:Nat) (z:List Int×(Int×(List Int×Unit)))=>∃ pu far',z=(tl++pu,((k:Int),(far',())))∧AI bs d far k pu far') ⟨[],far,by rw [e6_]; rfl,AI_first bs d far⟩ (fun k z hk hz => ?_) (fun z hz => ?_)
      · obtain ⟨pu,far',rfl,A⟩:=hz
        obtain ⟨y,hy⟩:=be_ hk
        obtain ⟨j,hj2,row,hrow,x,hxr,hxe⟩:=(hbe y).1 (ax_ hy)
        have hrow':=am_ hrow
        rw [hesQ] at hrow'
        have hAl:=A.len
        have hAm:=A.ms
        obtain ⟨v,hv⟩:=be_ (l:=far') (i:=j) (by omega)
        have hvy:at? far' y=some v:=by rw [hj2]; exact ah_ hv
        have hdh:at? far' h=some d:=by rw [hhi]; exact ah_ (A.keep hi d hdi hd0)
        rw [c3_] at hIm
        by_cases hv0:v<0
        · refine ⟨_,?_,pu++[y],_,rfl,AI_add hd0 A hy hvy hv0⟩
          simp only [dlt hk,a4_,ah_ hy,hvy,hdh,a0_,b8_ hv0,ca_ (show Sm (tl++pu).length by rw [a9_]; show _≤1000000000; omega),az_ (show Sm k by show _≤1000000000; omega),b1_,ep_ (n:=d+1) (by omega) (by omega)]
        · refine ⟨_,?_,pu,far',rfl,AI_skip A hy hvy (by omega)⟩
          simp only [dlt hk,a4_,ah_ hy,hvy,a0_,c2_ hv0,a2_,az_ (show Sm k by show _≤1000000000; omega)]
      · obtain ⟨pu,far',rfl,A⟩:=hz
        refine ⟨_,by simp only [dnl,a2_]; rfl,_,rfl,_,_,rfl,BI_step (by rw [hesQ,hes]) hxQ I hd (fun y=>by rw [hhi]; exact hbe y) A,?_⟩
        have:=A.ms
        show (tl++pu).length+mh_ far'<(h::tl).length+mh_ far
        rw [a9_,c3_]
        omega
theorem meaG_eq {rowB} {Q:af_→Bool} (hR:RowOk rowB Q) {g:ac_} (hg:SmG g) (h0:ck_ g=0) {ps:List aa_} {es:List (List af_)} (hG:GI g ps es) (hes:es.length=ps.length):∃ D,(D.length=ps.length∧LC (esQ Q es) (se_ g ps) D)∧(∀ (i:Nat) (v:Int),D[i]?=some v→v≤(ps.length:Int))∧∀ {τ:Type} (K:List Int×Unit→Option τ),meaG rowB g (ps,es) K=K (D,()):=by
  obtain ⟨y,e,D,rfl,h,hb⟩:=mea_some hR hg h0 hG hes
  refine ⟨D,h,hb,fun K => ?_⟩
  rw [meaG_bind,e,a0_]
theorem rowE_ok:RowOk rowE (fun _=>true):=by
  refine ⟨fun i row k x bk l hx hl h1 h2 => ?_,fun i row bk => ?_⟩
  · unfold rowE
    simp only [dlt (am_ hx),a4_,ah_ hx,a0_,hl,ca_ (show Sm l.length by show _≤1000000000; omega),d0_,g5_,az_ (show Sm k by show _≤1000000000; omega)]
  · unfold rowE
    simp only [dnl,a2_]
theorem esQ_true (es:List (List af_)):esQ (fun _=>true) es=es:=by
  unfold esQ
  refine e0_ (o2_ fun l hl => ?_) (List.map_id _)
  exact List.filter_eq_self.2 fun x hx=>rfl
theorem mea_eq {g:ac_} (hg:SmG g) (h0:ck_ g=0) {ps:List aa_} {es:List (List af_)} (hG:GI g ps es) (hes:es.length=ps.length):∃ D,(D.length=ps.length∧LC es (se_ g ps) D)∧(∀ (i:Nat) (v:Int),D[i]?=some v→v≤(ps.length:Int))∧∀ {τ:Type} (K:List Int×Unit→Option τ),meaK g (ps,es) K=K (D,()):=by
  have:=meaG_eq rowE_ok hg h0 hG hes
  rw [esQ_true] at this
  exact this
end
section
set_option maxRecDepth 10000
theorem law05_Large (g:ac_):∃ b,jh_ g=some (b,())∧(b=false→SmG g):=by
  obtain ⟨b,e,hb⟩:=law04_Far g
  unfold jh_
  rw [e,a0_]
  cases b with
  | true=>exact ⟨true,by simp only [a4_,a0_,e],fun h=>by cases h⟩
  | false =>
  have hg:=hb rfl
  simp only [a2_]
  rw [vb_ hg,a0_,a0_]
  cases hc:ck_ g != 0 with
  | true=>exact ⟨false,by simp only [a4_,e,a0_],fun _=>hg⟩
  | false =>
  simp only [a2_]
  have key:∀ c:Bool,∃ b,(((some (c,()):Option (Bool×Unit))).bind fun v4 =>
 (cond v4.1
 (some (true,()))
 ((dv_ g).bind fun v5 =>
 (cond (v5.2.1==2)
 (some (true,()))
 (some ((decide (200<(v5.1.1.length:Int))),()))))))=some (b,())∧(b=false→SmG g):=fun c=>by
    rw [a0_,qn_ hg,a0_]
    cases c with
    | true=>exact ⟨true,rfl,fun _=>hg⟩
    | false =>
      cases hE:(exG g).2.1==2 with
      | true=>exact ⟨true,by simp only [a2_,hE,a4_],fun _=>hg⟩
      | false=>exact ⟨_,by simp only [a2_,hE]; rfl,fun _=>hg⟩
  have one:∀ (c:Bool) (o:Option (Bool×Unit)),(∃ d,o=some (d,()))→∃ d,cond c (some (true,())) o=some (d,()):=fun c o h=>by
    cases c with
    | true=>exact ⟨true,rfl⟩
    | false=>exact h
  obtain ⟨d,hd⟩:=one (decide (4<(g.1.1.length:Int))) _ (one (decide (4<(g.1.2.1.length:Int))) _ (one (decide (3<(g.1.2.2.1.length:Int))) _ (one (decide (2<g.1.2.2.2.2.2.2.1)) _ (one (decide (6<(g.1.2.2.2.2.1.length:Int))) _ (one (decide (4<(g.1.2.2.2.2.2.1.length:Int))) _ (one (decide (5<(g.2.2.2.1.length:Int))) _ ⟨decide (3<(g.2.1.length:Int)),rfl⟩))))))
  rw [hd]
  exact key d
end
section
set_option maxRecDepth 10000
noncomputable def shoX (G:bz_) (v40:List Int×Unit):Option (List ad_×(Int×Unit)) :=
 ((at? v40.1 0).bind fun v41 =>
 ((at? v40.1 0).bind fun v42 =>
 (cond (decide (v42<0))
 (some ([],(50,())))
 ((ag_ (ρ:=(((List ad_)×Unit)×Unit)) (fun (v43:(Int×(((List ad_)×Unit)×Unit))) =>
 ((at? v40.1 v43.1).bind fun v44 =>
 ((at? v40.1 v43.1).bind fun v45 =>
 (cond (decide (0<v45))
 ((((at? G.2 v43.1).bind fun v46 =>
 ((ag_ (ρ:=(((List Int)×(Unit×(((List ad_)×Unit)×Unit)))⊕((List Int)×(((List ad_)×Unit)×Unit)))) (fun (v47:(Int×((List Int)×(Unit×(((List ad_)×Unit)×Unit))))) =>
 (cond (decide (v47.1<(v46.length:Int)))
 ((at? v46 v47.1).bind fun v48 =>
 ((at? v40.1 v48.2).bind fun v49 =>
 ((at? v40.1 v48.2).bind fun v50 =>
 ((at? v40.1 v43.1).bind fun v51 =>
 ((at? v40.1 v43.1).bind fun v52 =>
 (cond (v50==(w64 (v52 - 1)))
 ((at? v40.1 v43.1).bind fun v53 =>
 ((at? v40.1 v43.1).bind fun v54 =>
 (cond (decide (0<v54))
 ((push? (α:=ad_) v47.2.2.2.1.1 [v48.1]).bind fun v55 =>
 ((at? v47.2.1 0).bind fun v56 =>
 (some (Sum.inr (Sum.inr ((v47.2.1.set (0:Int).toNat v48.2),((v55,()),())))))))
 (some (Sum.inl ((w64 (v47.1+1)),(v47.2.1,((),((v47.2.2.2.1.1,()),())))))))))
 (some (Sum.inl ((w64 (v47.1+1)),(v47.2.1,((),((v47.2.2.2.1.1,()),()))))))))))))
 (some (Sum.inr (Sum.inl (v47.2.1,((),((v47.2.2.2.1.1,()),())))))))) (0,([v43.1],((),((v43.2.1.1,()),()))))).bind fun v57 =>
 (ce_ v57 (fun v58=>(some (v58.1,((v58.2.2.1.1,()),()))))
 (fun v59=>(some v59)))))).bind fun v60 =>
 ((at? v60.1 0).bind fun v61 =>
 (some (Sum.inl (v61,((v60.2.1.1,()),()))))))
 (some (Sum.inr ((v43.2.1.1,()),()))))))) (0,(([],()),()))).bind fun v62 =>
 (some (v62.1.1,(0,())))))))
theorem solve_eq:fo_=fun a0=>(dh_ a0).bind fun v0=>cond (v0.2.1 != 0) (cond (v0.2.1 != 0) (some ([],(v0.2.1,()))) none) (meaK a0 v0.1 fun v40=>shoX v0.1 v40):=by
  kernel_rfl
def shp (es:List (List af_)) (D:List Int):Nat→Int→List ad_
  | 0,_=>[]
  | k+1,i=>match ((at? es i).getD []).find? (fun x=>gi D x.2==(k:Int)) with
    | none=>[]
    | some x=>x.1::shp es D k x.2
theorem shp_len (es:List (List af_)) (D:List Int):∀ k i,(shp es D k i).length≤k
  | 0,_=>c6_ _
  | k+1,i=>by
    unfold shp
    split
    · exact k9_ _
    · next x _ =>
      have:=shp_len es D k x.2
      rw [c3_]
      omega
theorem oq_ {α ρ:Type} {q:α→Bool} {f:α→ρ}:∀ (m:List α) (k:Nat),fy_ (fun _ y=>cond (q y) (some (f y)) none) k m=(m.find? q).map f
  | [],_=>rfl
  | x::m,k=>by
    unfold fy_
    cases hq:q x with
    | true=>rw [m8_ hq]; rfl
    | false =>
      rw [l3_ (by rw [hq]; decide)]
      exact oq_ m (k+1)
theorem sp_ {σ ρ υ:Type} {body:σ→Option (σ⊕ρ)} {s:σ} {r:ρ} {K:ρ→Option υ} {x:Option υ} (h:ag_ body s=some r) (hk:K r=x):(ag_ body s).bind K=x:=by
  rw [h,a0_,hk]
theorem qx_ {σ ρ:Type} (F:Int→List ad_→σ) (G:List ad_→ρ) {es:List (List af_)} {fin:Nat→Bool} {D:List Int} (hL:LC es fin D) (hD:D.length≤3000) (hxx:∀ l ∈ es,∀ x ∈ l,0≤x.2∧x.2<(D.length:Int)) {body:σ→Option (σ⊕ρ)}
    (hz:∀ i acc,at? D i=some 0→body (F i acc)=some (.inr (G acc)))
    (hs:∀ (i:Int) (k:Nat) acc row x,at? D i=some ((k+1:Nat):Int)→k≤1000000→acc.length≤1000000→at? es i=some row→row.find? (fun x=>gi D x.2==(k:Int))=some x→body (F i acc)=some (.inl (F x.2 (acc++[x.1])))) :
    ∀ (k:Nat) (i:Int) (acc:List ad_),at? D i=some (k:Int)→acc.length+k≤1000000→ag_ body (F i acc)=some (G (acc++shp es D k i))
  | 0,i,acc,h,_=>by
    unfold shp
    rw [e6_]
    exact bt_ (hz i acc h)
  | k+1,i,acc,h,hk=>by
    obtain ⟨n,rfl,hn⟩:=nb_ h
    obtain ⟨l,x,hl,hx,hat⟩:=hL.dn n k hn
    have hatl:at? es (n:Int)=some l:=ah_ hl
    cases hf:l.find? (fun x=>gi D x.2==(k:Int)) with
    | none =>
      have:=List.find?_eq_none.1 hf x hx
      rw [mk_ hat] at this
      simp at this
    | some y =>
      have hy:gi D y.2=(k:Int):=by
        have:=List.find?_some hf
        exact f7_.1 this
      obtain ⟨y0,y1⟩:=hxx l (ax_ hl) y (List.mem_of_find?_eq_some hf)
      have haty:at? D y.2=some (k:Int):=by rw [kk_ y0 y1,hy]
      have:=qx_ F G hL hD hxx hz hs k y.2 (acc++[y.1]) haty (by rw [a9_,d6_]; omega)
      refine bn_ (hs (n:Int) k acc l y h (by omega) (by omega) hatl hf) ?_
      have e:shp es D (k+1) (n:Int)=y.1::shp es D k y.2:=by
        rw [shp,hatl,f4_,hf]
      rw [this,e,b1_]
      rfl
theorem shoX_eq {ps:List aa_} {es:List (List af_)} {fin:Nat→Bool} {D:List Int} (hL:LC es fin D) (hD:D.length≤3000) (h1:1≤D.length) (hb:∀ (i:Nat) (v:Int),D[i]?=some v→v≤(D.length:Int)) (hes:es.length=D.length) (hel:∀ l ∈ es,l.length≤480) (hxx:∀ l ∈ es,∀ x ∈ l,0≤x.2∧x.2<(D.length:Int)) :
    shoX (ps,es) (D,())=some (cond (decide (gi D 0<0)) ([],(50,())) (shp es D (gi D 0).toNat 0,(0,()))):=by
  unfold shoX
  have h0:at? D 0=some (gi D 0):=kk_ (by omega) (by omega)
  simp only [h0,a0_]
  cases hc:decide (gi D 0<0) with
  | true=>rfl
  | false =>
  have hc:=d1_ hc
  have hle:gi D 0≤(D.length:Int):=by
    obtain ⟨i,_,hi⟩:=nb_ h0
    exact hb i _ hi
  simp only [a2_]
  refine sp_ (r:=((shp es D (gi D 0).toNat 0,()),())) ?_ rfl
  refine qx_ (F:=fun i acc=>(i,((acc,()),()))) (G:=fun acc=>((acc,()),())) hL hD hxx (fun i acc h => ?_) (fun i k acc row x h hk ha hrow hf => ?_) (gi D 0).toNat 0 [] (by rw [h0]; congr 1; omega) (by show 0+_≤_; omega)
  · simp only [h,a0_]
    rfl
  · have hrl:row.length≤480:=by
      obtain ⟨j,_,hj⟩:=nb_ hrow
      exact hel row (ax_ hj)
    simp only [h,a0_,show decide ((0:Int)<((k+1:Nat):Int))=true from b8_ (by omega),a4_,hrow]
    refine e0_ (congrArg (fun o=>Option.bind o _) (bk_ row (fun _ y=>cond (gi D y.2==(k:Int)) (some (Sum.inr ([y.2],((acc++[y.1],()),())):((List Int)×(Unit×(((List ad_)×Unit)×Unit)))⊕((List Int)×(((List ad_)×Unit)×Unit)))) none) (fun j=>((j:Int),([i],((),((acc,()),()))))) (r0:=Sum.inl ([i],((),((acc,()),())))) (x:=some ([x.2],((acc++[x.1],()),()))) (fun j y hy => ?_) ?_ ?_)) ?_
    · obtain ⟨jr,_,hj⟩:=nb_ hrow
      obtain ⟨y0,y1⟩:=hxx row (ax_ hj) y (ax_ hy)
      have hjl:=am_ hy
      simp only [dlt hjl,a4_,ah_ hy,kk_ y0 y1,a0_,ep_ (n:=((k+1:Nat):Int) - 1) (by omega) (by omega),show ((k+1:Nat):Int) - 1=(k:Int) by omega,ep_ (n:=(k:Int)) (by omega) (by omega),az_ (show Sm j by show _≤1000000000; omega),ca_ (show Sm acc.length by show _≤1000000000; omega)]
      cases gi D y.2==(k:Int) <;> rfl
    · simp only [dnl,a2_]
    · rw [oq_,hf]
      rfl
    · rfl
theorem inn_len (g:ac_) (p:aa_):∀ (ms:List ad_) (e e':List af_) (ps ps':List aa_),inn g p ms e ps=some (e',ps')→ps.length≤ps'.length
  | [],e,e',ps,ps',h=>by
    unfold inn at h
    obtain ⟨_,rfl⟩:=h0_ (a6_ h)
    exact c6_ _
  | m::ms,e,e',ps,ps',h=>by
    unfold inn at h
    cases hw:wh ps ((stepP g p m).getD eP) with
    | some n =>
      simp only [hw] at h
      exact inn_len g p ms _ _ _ _ h
    | none =>
      simp only [hw] at h
      split at h
      · cases h
      · have:=inn_len g p ms _ _ _ _ h
        rw [a9_] at this
        omega
theorem out_len (g:ac_):∀ (n i:Nat) (ps ps':List aa_) (es es':List (List af_)),out g n i ps es=some (ps',es')→ps.length≤ps'.length
  | 0,i,ps,ps',es,es',h=>by
    unfold out at h
    obtain ⟨rfl,_⟩:=h0_ (a6_ h)
    exact c6_ _
  | n+1,i,ps,ps',es,es',h=>by
    unfold out at h
    cases hp:ps[i]? with
    | none =>
      simp only [hp] at h
      obtain ⟨rfl,_⟩:=h0_ (a6_ h)
      exact c6_ _
    | some p =>
      simp only [hp] at h
      cases hin:inn g p (pmv g p) [] ps with
      | none=>simp only [hin] at h; cases h
      | some z =>
        simp only [hin] at h
        exact c4_ (inn_len g p _ _ _ _ _ hin) (out_len g n _ _ _ _ _ h)
theorem exG_pos {g:ac_} (he:(exG g).2.1=0):1≤(exG g).1.1.length:=by
  unfold exG at he ⊢
  cases hb:(begP g).2.1 != 0 with
  | true =>
    rw [hb] at he
    rw [o5_] at hb
    exact absurd he hb
  | false =>
  rw [hb,a2_] at he
  cases ho:out g 3001 0 [(begP g).1] [] with
  | none =>
    rw [ho] at he
    exact absurd (show (2:Int)=0 from he) (by decide)
  | some z=>exact out_len g _ _ _ _ _ _ ho
theorem prove_Solve {g:ac_} (hg:SmG g):∃ D,(((exG g).2.1≠0∧fo_ g=some ([],((exG g).2.1,())))∨((exG g).2.1=0∧D.length=(exG g).1.1.length∧LC (exG g).1.2 (se_ g (exG g).1.1) D∧fo_ g=some (cond (decide (gi D 0<0)) ([],(50,())) (shp (exG g).1.2 D (gi D 0).toNat 0,(0,()))))):=by
  rw [solve_eq]
  simp only
  rw [qr_ hg,a0_]
  cases hE:(exG g).2.1 != 0 with
  | true =>
    rw [o5_] at hE
    exact ⟨[],.inl ⟨hE,rfl⟩⟩
  | false =>
  have hE:(exG g).2.1=0:=by simpa using hE
  obtain ⟨h0,hG,hes⟩:=exG_ok hg hE
  obtain ⟨D,h1,hb,h2⟩:=mea_eq hg h0 hG hes
  have hpos:=exG_pos hE
  have hn:=hG.pI.n
  refine ⟨D,.inr ⟨hE,h1.1,h1.2,?_⟩⟩
  simp only [a2_]
  rw [show (exG g).1=((exG g).1.1,(exG g).1.2) from rfl,h2]
  exact shoX_eq h1.2 (by rw [h1.1]; exact hn) (by rw [h1.1]; exact hpos) (by rw [h1.1]; exact hb) (by rw [h1.1]; exact hes) hG.eL (fun l hl x hx=>by rw [h1.1]; exact (hG.eI l hl x hx).1)
def g0:ac_:=(([[104,97,108,108],[118,97,117,108,116]],([([98,111,120],(0,(2,0))),([100,111,111,114],(0,(2,0)))],([([107,101,121],(0,[(0,(1,false))]))],([(0,(1,[(1,(1,false))]))],([([111,112,101,110],(0,(0,([],([],([(0,1)],([],[]))))))),([116,117,114,110],(0,((-1),([0],([],([(1,1)],([0],[])))))))],([],(1,[(1,(1,false))]))))))),([(2,4)],([[3,1]],([([108,101,97,102],(0,(0,([],(2,(0,(1,(4,(0,([],false)))))))))),([98,97,99,107],(0,(0,([(0,(0,false))],(3,(1,(0,(0,(0,([],false)))))))))),([99,97,114,100],(1,((-1),([],(0,(0,(0,(0,(0,([],false))))))))))],1))))
end
section
set_option maxRecDepth 10000
noncomputable def dst (es:List (List af_)) (fin:Nat→Bool) (n:Nat):List Int:=Classical.epsilon fun D=>D.length=n∧LC es fin D
theorem dst_eq {es:List (List af_)} {fin:Nat→Bool} {n:Nat} {D:List Int} (h1:D.length=n) (h2:LC es fin D):dst es fin n=D:=by
  have h:(dst es fin n).length=n∧LC es fin (dst es fin n):=Classical.epsilon_spec (p:=fun D:List Int=>D.length=n∧LC es fin D) ⟨D,h1,h2⟩
  exact LC_uniq h.2 h2 (by omega)
section
variable {g:ac_} (hg:SmG g) (h0:ck_ g=0) {ps:List aa_} {es:List (List af_)} (hG:GI g ps es) (hes:es.length=ps.length)
include hg h0 hG hes
theorem ref05_dst (act:Int):cl_ g (ps,es) act=some (dst (esF act es) (se_ g ps) ps.length,()):=by
  obtain ⟨D,e,h1,h2⟩:=mv_ hg h0 hG hes act
  rw [e,dst_eq h1 h2]
theorem mea_dst {rowB} {Q:af_→Bool} (hR:RowOk rowB Q) {τ:Type} (K:List Int×Unit→Option τ):meaG rowB g (ps,es) K=K (dst (esQ Q es) (se_ g ps) ps.length,()):=by
  obtain ⟨D,⟨h1,h2⟩,_,h3⟩:=meaG_eq hR hg h0 hG hes
  rw [h3,dst_eq h1 h2]
theorem dst_ok (act:Int):(dst (esF act es) (se_ g ps) ps.length).length=ps.length∧LC (esF act es) (se_ g ps) (dst (esF act es) (se_ g ps) ps.length):=by
  obtain ⟨D,e,h1,h2⟩:=mv_ hg h0 hG hes act
  rw [dst_eq h1 h2]
  exact ⟨h1,h2⟩
end
theorem esQ_kp (act:Int) (es:List (List af_)):esQ (kp act) es=esF act es:=rfl
def rowQ (Q:af_→Bool) (i:Int) (row:List af_) (z:Int×(List (List Int)×Unit)):Option ((Int×(List (List Int)×Unit))⊕(List (List Int)×Unit)):=match at? row z.1 with
  | none=>some (.inr (z.2.1,()))
  | some x=>some (.inl (w64 (z.1+1),(cond (Q x) (z.2.1.set x.2.toNat ((at? z.2.1 x.2).getD []++[i])) z.2.1,())))
theorem rowQ_ok (Q:af_→Bool):RowOk (rowQ Q) Q:=by
  refine ⟨fun i row k x bk l hx hl h1 h2 => ?_,fun i row bk => ?_⟩
  · unfold rowQ
    simp only [ah_ hx,hl,f4_,az_ (show Sm k by show _≤1000000000; omega)]
  · unfold rowQ
    simp only [at_out (c6_ row.length)]
theorem dst_le {g:ac_} (hg:SmG g) (h0:ck_ g=0) {ps:List aa_} {es:List (List af_)} (hG:GI g ps es) (hes:es.length=ps.length) (act:Int):∀ (i:Nat) (v:Int),(dst (esF act es) (se_ g ps) ps.length)[i]?=some v→v≤(ps.length:Int):=by
  obtain ⟨D,⟨h1,h2⟩,h3,_⟩:=meaG_eq (rowQ_ok (kp act)) hg h0 hG hes
  rw [show dst (esF act es) (se_ g ps) ps.length=D from dst_eq h1 h2]
  exact h3
theorem ml_ {α:Type} (p q:α→Bool):∀ l:List α,(l.filter p).find? q=l.find? fun a=>p a&&q a
  | []=>rfl
  | x::l=>by
    rw [List.filter_cons]
    cases hp:p x with
    | false =>
      rw [if_neg (by decide),ml_ p q l,l3_ (by rw [hp]; simp)]
    | true =>
      rw [if_pos rfl]
      cases hq:q x with
      | true=>rw [m8_ hq,m8_ (by rw [hp,hq]; rfl)]
      | false=>rw [l3_ (by rw [hq]; simp),l3_ (by rw [hp,hq]; simp),ml_ p q l]
theorem at_esF {act:Int} {es:List (List af_)} {i:Int} {row:List af_} (h:at? (esF act es) i=some row):∃ r0,at? es i=some r0∧row=r0.filter (kp act):=by
  obtain ⟨n,rfl,hn⟩:=nb_ h
  unfold esF at hn
  rw [d4_] at hn
  obtain ⟨r0,h1,rfl⟩:=e9_.1 hn
  exact ⟨r0,ah_ h1,rfl⟩
theorem ref05_walk {ps:List aa_} {es:List (List af_)} {fin:Nat→Bool} {D:List Int} {act:Int} (hL:LC (esF act es) fin D) (hD:D.length≤3000) (h1:1≤D.length) (hb:∀ (i:Nat) (v:Int),D[i]?=some v→v≤(D.length:Int)) (hel:∀ l ∈ es,l.length≤480) (hxx:∀ l ∈ es,∀ x ∈ l,0≤x.2∧x.2<(D.length:Int)) :
    id_ (ps,es) D act=some (cond (decide (gi D 0<0)) ([],(false,())) (shp (esF act es) D (gi D 0).toNat 0,(true,()))):=by
  unfold id_
  have h0:at? D 0=some (gi D 0):=kk_ (by omega) (by omega)
  simp only [h0,a0_]
  cases hc:decide (gi D 0<0) with
  | true=>rfl
  | false =>
  have hc:=d1_ hc
  have hle:gi D 0≤(D.length:Int):=by
    obtain ⟨i,_,hi⟩:=nb_ h0
    exact hb i _ hi
  simp only [a2_]
  refine sp_ (r:=(shp (esF act es) D (gi D 0).toNat 0,())) ?_ rfl
  refine qx_ (F:=fun i acc=>(acc,(i,()))) (G:=fun acc=>(acc,())) hL hD (fun l hl x hx => ?_) (fun i acc h => ?_) (fun i k acc row x h hk ha hrow hf => ?_) (gi D 0).toNat 0 [] (by rw [h0]; congr 1; omega) (by show 0+_≤_; omega)
  · obtain ⟨l',h2,rfl⟩:=esF_mem hl
    exact hxx l' h2 x (c8_.1 hx).1
  · simp only [h,a0_]
    rfl
  · obtain ⟨r0,hr0,rfl⟩:=at_esF hrow
    rw [ml_] at hf
    obtain ⟨jr,_,hj⟩:=nb_ hr0
    have hrl:=hel r0 (ax_ hj)
    simp only [h,a0_,show decide ((0:Int)<((k+1:Nat):Int))=true from b8_ (by omega),a4_]
    refine bk_ r0 (fun _ y=>cond (kp act y&&gi D y.2==(k:Int)) (some (acc++[y.1],(y.2,()))) none) (fun j=>(acc,(i,((j:Int),())))) (r0:=(acc,(i,()))) (fun j y hy => ?_) ?_ ?_
    · obtain ⟨y0,y1⟩:=hxx r0 (ax_ hj) y (ax_ hy)
      have hjl:=am_ hy
      simp only [hr0,a0_,dlt hjl,a4_,ah_ hy,kk_ y0 y1,h,does_eq,ep_ (n:=((k+1:Nat):Int) - 1) (by omega) (by omega),show ((k+1:Nat):Int) - 1=(k:Int) by omega,ep_ (n:=(k:Int)) (by omega) (by omega),az_ (show Sm j by show _≤1000000000; omega),ca_ (show Sm acc.length by show _≤1000000000; omega)]
      cases gi D y.2==(k:Int) <;> cases kp act y <;> rfl
    · simp only [hr0,a0_,dnl,a2_]
    · rw [oq_,hf]
      rfl
theorem same_moves {l:List ad_} (h:Sm l.length):fp_ l l=some (true,()):=by
  unfold fp_
  simp only [k7_,a2_]
  refine mu_ l.length (fun i=>((i:Int),())) rfl (fun i hi => ?_) (by simp only [dnl,a2_]; rfl) rfl
  obtain ⟨x,hx⟩:=be_ hi
  simp only [dlt hi,a4_,ah_ hx,a0_,d0_,g5_,e1_,a2_,az_ (show Sm i by unfold Sm at h ⊢; omega)]
end
section
set_option maxRecDepth 100000
def G0:bz_:=([(([0,0],([0],[0])),[true,true,false]),(([1,0],([0],[0])),[true,true,false]),(([1,0],([-2],[0])),[true,true,false]),(([1,1],([-1],[0])),[true,true,false]),(([1,1],([-1],[1])),[true,true,true]),(([1,1],([-1],[0])),[true,true,true])],
  [[((0,(4,0)),1)],[((0,(2,0)),2),((0,(4,0)),1)],[((0,(3,0)),1),((0,(4,0)),2),((0,(4,1)),3)],[((0,(1,0)),4),((0,(4,0)),3)],[((0,(1,0)),5)],[((0,(1,0)),4),((0,(4,0)),5)]])
def D0:List Int:=[3,2,1,0,0,0]
theorem exG_g0:exG g0=(G0,(0,())):=by kernel_rfl
theorem SmG_g0:SmG g0:=by
  refine ⟨⟨?_,?_,?_,?_,?_,?_,?_,?_,?_,?_,?_,?_,?_⟩,?_,?_,?_,?_,?_,?_,?_,?_,?_⟩ <;> decide
def chkD (es:List (List af_)) (fin:Nat→Bool) (D:List Int):Bool :=
  (List.range D.length).all fun i=>match D[i]? with
    | none=>false
    | some v=>decide (-1≤v)&&((v==0)==fin i)&&match es[i]? with
      | none=>false
      | some l=>(decide (v≤0)||l.any (fun x=>at? D x.2==some (v - 1)))&&l.all fun x=>match at? D x.2 with
        | none=>true
        | some k=>decide (k<0)||(decide (0≤v)&&decide (v≤k+1))
theorem chkD_at {es:List (List af_)} {fin:Nat→Bool} {D:List Int} (h:chkD es fin D=true) {i:Nat} {v:Int} (hv:D[i]?=some v) :
    -1≤v∧((v==0)=fin i)∧∃ l,es[i]?=some l∧(v≤0∨∃ x ∈ l,at? D x.2=some (v - 1))∧∀ x ∈ l,∀ k,at? D x.2=some k→k<0∨(0≤v∧v≤k+1):=by
  have:=e7_.1 h i (l7_.2 (am_ hv))
  simp only [hv] at this
  rw [a1_,a1_,g4_,f7_] at this
  obtain ⟨⟨h1,h2⟩,h3⟩:=this
  refine ⟨h1,h2,?_⟩
  cases hl:es[i]? with
  | none=>rw [hl] at h3; cases h3
  | some l =>
    simp only [hl] at h3
    rw [a1_,c5_,g4_,j7_,e7_] at h3
    refine ⟨l,rfl,h3.1.imp id fun ⟨x,hx,e⟩=>⟨x,hx,f7_.1 e⟩,fun x hx k hk => ?_⟩
    have:=h3.2 x hx
    simp only [hk] at this
    rw [c5_,a1_,g4_,g4_,g4_] at this
    exact this
theorem chkD_LC {es:List (List af_)} {fin:Nat→Bool} {D:List Int} (hes:es.length=D.length) (h:chkD es fin D=true):LC es fin D:=by
  refine ⟨fun i v hv=>(chkD_at h hv).1,fun i v hv => ?_,fun i k hk => ?_,fun i l x k hl hx hat => ?_⟩
  · rw [← (chkD_at h hv).2.1,f7_]
  · obtain ⟨_,_,l,hl,h1,_⟩:=chkD_at h hk
    rcases h1 with h1 | ⟨x,hx,e⟩
    · omega
    · refine ⟨l,x,hl,hx,?_⟩
      rw [e]
      congr 1
      omega
  · obtain ⟨v,hv⟩:=be_ (l:=D) (i:=i) (by have:=am_ hl; omega)
    obtain ⟨_,_,l',hl',_,h2⟩:=chkD_at h hv
    rw [hl] at hl'
    obtain rfl:=a6_ hl'
    rcases h2 x hx k hat with h3 | h3
    · omega
    · exact ⟨v,hv,h3⟩
theorem chk_g0:chkD G0.2 (se_ g0 G0.1) D0=true:=by kernel_rfl
theorem Solve_g0:fo_ g0=some ([(0,(4,0)),(0,(2,0)),(0,(4,1))],(0,())):=by
  obtain ⟨D,h⟩:=prove_Solve SmG_g0
  rw [exG_g0] at h
  rcases h with ⟨h,_⟩ | ⟨_,h1,h2,h3⟩
  · exact absurd rfl h
  · have hD:D=D0:=LC_uniq h2 (chkD_LC rfl chk_g0) h1
    have e:((cond (decide (gi D0 0<0)) ([],(50,())) (shp G0.2 D0 (gi D0 0).toNat 0,(0,()))):List ad_×(Int×Unit))=([(0,(4,0)),(0,(2,0)),(0,(4,1))],(0,())):=by kernel_rfl
    rw [h3,hD]
    exact congrArg some e
theorem vq_:hf_=some (true,()):=by
  unfold hf_
  refine e0_ (congrArg (fun o=>Option.bind o _) Solve_g0) ?_
  kernel_rfl
end
section
set_option maxRecDepth 10000
def rowF (act:Int) (i:Int) (row:List af_):(Int×(List (List Int)×Unit))→Option ((Int×(List (List Int)×Unit))⊕(List (List Int)×Unit)) :=
 (fun (v15:(Int×((List (List Int))×Unit))) =>
 (cond (decide (v15.1<(row.length:Int)))
 ((((at? row v15.1).bind fun v16 =>
 (((cond (v16.1.2.1 != 4)
 (some (true,()))
 (some ((v16.1.2.2 != act),())))).bind fun v17 =>
 (cond v17.1
 ((at? v15.2.1 v16.2).bind fun v18 =>
 ((at? v15.2.1 v16.2).bind fun v19 =>
 ((push? (α:=Int) v19 [i]).bind fun v20 =>
 ((at? v15.2.1 v16.2).bind fun v21 =>
 (cond ((v16.2==v16.2)&&true)
 ((at? v15.2.1 v16.2).bind fun v22 =>
 (some ((v15.2.1.set v16.2.toNat v20),())))
 none)))))
 (some (v15.2.1,())))))).bind fun v23 =>
 (some (Sum.inl ((w64 (v15.1+1)),(v23.1,())))))
 (some (Sum.inr (v15.2.1,())))))
theorem kp_if (act:Int) (x:af_):(cond (x.1.2.1 != 4) (some (true,())) (some ((x.1.2.2 != act),())):Option (Bool×Unit))=some (kp act x,()):=by
  unfold kp
  rw [rl_,rl_]
  cases x.1.2.1==4 <;> rfl
theorem rowF_ok (act:Int):RowOk (rowF act) (kp act):=by
  refine ⟨fun i row k x bk l hx hl h1 h2 => ?_,fun i row bk => ?_⟩
  · unfold rowF
    simp only [dlt (am_ hx),a4_,ah_ hx,a0_,kp_if,hl,ca_ (show Sm l.length by show _≤1000000000; omega),d0_,g5_,az_ (show Sm k by show _≤1000000000; omega)]
    cases kp act x <;> rfl
  · unfold rowF
    simp only [dnl,a2_]
noncomputable def shoA (act:Int) (G:bz_) (v42:List Int×Unit):Option (List ad_×(Bool×(Int×Unit))) :=
 ((at? v42.1 0).bind fun v43 =>
 ((at? v42.1 0).bind fun v44 =>
 (cond (decide (v44<0))
 (some ([],(false,(0,()))))
 ((ag_ (ρ:=(((List ad_)×Unit)×Unit)) (fun (v45:(Int×(((List ad_)×Unit)×Unit))) =>
 ((at? v42.1 v45.1).bind fun v46 =>
 ((at? v42.1 v45.1).bind fun v47 =>
 (cond (decide (0<v47))
 ((((at? G.2 v45.1).bind fun v48 =>
 ((ag_ (ρ:=(((List Int)×(Unit×(((List ad_)×Unit)×Unit)))⊕((List Int)×(((List ad_)×Unit)×Unit)))) (fun (v49:(Int×((List Int)×(Unit×(((List ad_)×Unit)×Unit))))) =>
 (cond (decide (v49.1<(v48.length:Int)))
 ((at? v48 v49.1).bind fun v50 =>
 (((cond (v50.1.2.1 != 4)
 (some (true,()))
 (some ((v50.1.2.2 != act),())))).bind fun v51 =>
 (cond v51.1
 ((at? v42.1 v50.2).bind fun v52 =>
 ((at? v42.1 v50.2).bind fun v53 =>
 ((at? v42.1 v45.1).bind fun v54 =>
 ((at? v42.1 v45.1).bind fun v55 =>
 (cond (v53==(w64 (v55 - 1)))
 ((at? v42.1 v45.1).bind fun v56 =>
 ((at? v42.1 v45.1).bind fun v57 =>
 (cond (decide (0<v57))
 ((push? (α:=ad_) v49.2.2.2.1.1 [v50.1]).bind fun v58 =>
 ((at? v49.2.1 0).bind fun v59 =>
 (some (Sum.inr (Sum.inr ((v49.2.1.set (0:Int).toNat v50.2),((v58,()),())))))))
 (some (Sum.inl ((w64 (v49.1+1)),(v49.2.1,((),((v49.2.2.2.1.1,()),())))))))))
 (some (Sum.inl ((w64 (v49.1+1)),(v49.2.1,((),((v49.2.2.2.1.1,()),())))))))))))
 (some (Sum.inl ((w64 (v49.1+1)),(v49.2.1,((),((v49.2.2.2.1.1,()),())))))))))
 (some (Sum.inr (Sum.inl (v49.2.1,((),((v49.2.2.2.1.1,()),())))))))) (0,([v45.1],((),((v45.2.1.1,()),()))))).bind fun v60 =>
 (ce_ v60 (fun v61=>(some (v61.1,((v61.2.2.1.1,()),()))))
 (fun v62=>(some v62)))))).bind fun v63 =>
 ((at? v63.1 0).bind fun v64 =>
 (some (Sum.inl (v64,((v63.2.1.1,()),()))))))
 (some (Sum.inr ((v45.2.1.1,()),()))))))) (0,(([],()),()))).bind fun v65 =>
 (some (v65.1.1,(true,(0,()))))))))
theorem around_eq:hx_=fun a0 a1=>(dh_ a0).bind fun v0=>cond (v0.2.1 != 0) (some ([],(false,(v0.2.1,())))) ((ii_ a0 [a1]).bind fun v1=>cond (!v1.1) (some ([],(false,(1,())))) (meaG (rowF a1) a0 v0.1 fun v42=>shoA a1 v0.1 v42)):=by
  kernel_rfl
end
section
set_option maxRecDepth 10000
def badA (A:Nat) (act:Int):Bool:=decide (act<0)||decide ((A:Int)≤act)
theorem badA_if (A:Nat) (act:Int):(cond (decide (act<0)) (some (true,())) (some ((decide ((A:Int)≤act)),())):Option (Bool×Unit))=some (badA A act,()):=by
  unfold badA
  cases decide (act<0) <;> rfl
theorem prove_acts1 (g:ac_) (act:Int):ii_ g [act]=some (!(badA g.1.2.2.2.2.1.length act),()):=by
  unfold ii_
  have h:=na_ (l:=[act]) (by show 1≤1000000000; omega) (badA g.1.2.2.2.2.1.length) (body:=fun (v0:(Int×Unit)) =>
 (cond (decide (v0.1<(([act]:List Int).length:Int)))
 ((at? [act] v0.1).bind fun v1 =>
 (((cond (decide (v1<0))
 (some (true,()))
 (some ((decide ((g.1.2.2.2.2.1.length:Int)≤v1)),())))).bind fun v2 =>
 (cond v2.1
 (some (Sum.inr (Sum.inr ((decide (0≤v0.1)),()))))
 (some (Sum.inl ((w64 (v0.1+1)),()))))))
 (some (Sum.inr (Sum.inl ()))))) (fun i y hy=>by
    simp only [dlt (am_ hy),a4_,ah_ hy,a0_,badA_if]
    cases badA g.1.2.2.2.2.1.length y <;> rfl) (by simp only [dnl,a2_])
  refine e0_ (congrArg (fun o=>Option.bind o _) h) ?_
  rw [a0_,o1_,List.any_nil,i0_]
theorem shoA_eq {ps:List aa_} {es:List (List af_)} {fin:Nat→Bool} {D:List Int} {act:Int} (hL:LC (esF act es) fin D) (hD:D.length≤3000) (h1:1≤D.length) (hb:∀ (i:Nat) (v:Int),D[i]?=some v→v≤(D.length:Int)) (hes:es.length=D.length) (hel:∀ l ∈ es,l.length≤480) (hxx:∀ l ∈ es,∀ x ∈ l,0≤x.2∧x.2<(D.length:Int)) :
    shoA act (ps,es) (D,())=some (cond (decide (gi D 0<0)) ([],(false,(0,()))) (shp (esF act es) D (gi D 0).toNat 0,(true,(0,())))):=by
  unfold shoA
  have h0:at? D 0=some (gi D 0):=kk_ (by omega) (by omega)
  simp only [h0,a0_]
  cases hc:decide (gi D 0<0) with
  | true=>rfl
  | false =>
  have hc:=d1_ hc
  have hle:gi D 0≤(D.length:Int):=by
    obtain ⟨i,_,hi⟩:=nb_ h0
    exact hb i _ hi
  simp only [a2_]
  refine sp_ (r:=((shp (esF act es) D (gi D 0).toNat 0,()),())) ?_ rfl
  refine qx_ (F:=fun i acc=>(i,((acc,()),()))) (G:=fun acc=>((acc,()),())) hL hD (fun l hl x hx => ?_) (fun i acc h => ?_) (fun i k acc row x h hk ha hrow hf => ?_) (gi D 0).toNat 0 [] (by rw [h0]; congr 1; omega) (by show 0+_≤_; omega)
  · obtain ⟨l',h2,rfl⟩:=esF_mem hl
    exact hxx l' h2 x (c8_.1 hx).1
  · simp only [h,a0_]
    rfl
  · obtain ⟨r0,hr0,rfl⟩:=at_esF hrow
    rw [ml_] at hf
    obtain ⟨jr,_,hj⟩:=nb_ hr0
    have hrl:=hel r0 (ax_ hj)
    simp only [h,a0_,show decide ((0:Int)<((k+1:Nat):Int))=true from b8_ (by omega),a4_,hr0]
    refine e0_ (congrArg (fun o=>Option.bind o _) (bk_ r0 (fun _ y=>cond (kp act y&&gi D y.2==(k:Int)) (some (Sum.inr ([y.2],((acc++[y.1],()),())):((List Int)×(Unit×(((List ad_)×Unit)×Unit)))⊕((List Int)×(((List ad_)×Unit)×Unit)))) none) (fun j=>((j:Int),([i],((),((acc,()),()))))) (r0:=Sum.inl ([i],((),((acc,()),())))) (x:=some ([x.2],((acc++[x.1],()),()))) (fun j y hy => ?_) ?_ ?_)) ?_
    · obtain ⟨y0,y1⟩:=hxx r0 (ax_ hj) y (ax_ hy)
      have hjl:=am_ hy
      simp only [dlt hjl,a4_,ah_ hy,kp_if,kk_ y0 y1,a0_,show ((k+1:Nat):Int) - 1=(k:Int) by omega,ep_ (n:=(k:Int)) (by omega) (by omega),az_ (show Sm j by show _≤1000000000; omega),ca_ (show Sm acc.length by show _≤1000000000; omega)]
      cases kp act y <;> cases gi D y.2==(k:Int) <;> rfl
    · simp only [dnl,a2_]
    · rw [oq_,hf]
      rfl
    · rfl
noncomputable def dstA (g:ac_) (act:Int):List Int:=dst (esF act (exG g).1.2) (se_ g (exG g).1.1) (exG g).1.1.length
noncomputable def aroR (g:ac_) (act:Int):List ad_×(Bool×(Int×Unit)) :=
  cond ((exG g).2.1 != 0) ([],(false,((exG g).2.1,()))) (cond (badA g.1.2.2.2.2.1.length act) ([],(false,(1,()))) (cond (decide (gi (dstA g act) 0<0)) ([],(false,(0,()))) (shp (esF act (exG g).1.2) (dstA g act) (gi (dstA g act) 0).toNat 0,(true,(0,())))))
theorem prove_Around {g:ac_} (hg:SmG g) (act:Int):hx_ g act=some (aroR g act):=by
  rw [around_eq]
  unfold aroR
  simp only
  rw [qr_ hg,a0_]
  cases hE:(exG g).2.1 != 0 with
  | true=>rfl
  | false =>
  have hE:(exG g).2.1=0:=by simpa using hE
  obtain ⟨h0,hG,hes⟩:=exG_ok hg hE
  have hpos:=exG_pos hE
  have hn:=hG.pI.n
  obtain ⟨d1,d2⟩:=dst_ok hg h0 hG hes act
  have d3:=dst_le hg h0 hG hes act
  simp only [a2_]
  rw [prove_acts1,a0_]
  cases badA g.1.2.2.2.2.1.length act with
  | true=>rfl
  | false =>
  simp only [g2_,e1_,a2_]
  rw [show (exG g).1=((exG g).1.1,(exG g).1.2) from rfl,mea_dst hg h0 hG hes (rowF_ok act),esQ_kp]
  exact shoA_eq d2 (by rw [d1]; exact hn) (by rw [d1]; exact hpos) (by rw [d1]; exact d3) (by rw [d1]; exact hes) hG.eL (fun l hl x hx=>by rw [d1]; exact (hG.eI l hl x hx).1)
theorem ref05_Around {g:ac_} (hg:SmG g) (act:Int):hu_ g act=some (aroR g act):=by
  unfold hu_ aroR
  rw [qn_ hg,a0_]
  cases hE:(exG g).2.1 != 0 with
  | true=>rfl
  | false =>
  have hE:(exG g).2.1=0:=by simpa using hE
  obtain ⟨h0,hG,hes⟩:=exG_ok hg hE
  have hpos:=exG_pos hE
  have hn:=hG.pI.n
  obtain ⟨d1,d2⟩:=dst_ok hg h0 hG hes act
  have d3:=dst_le hg h0 hG hes act
  have d1':(dstA g act).length=(exG g).1.1.length:=d1
  have hdd:cl_ g (exG g).1 act=some (dstA g act,()):=ref05_dst hg h0 hG hes act
  have hw:id_ (exG g).1 (dstA g act) act=some (cond (decide (gi (dstA g act) 0<0)) ([],(false,())) (shp (esF act (exG g).1.2) (dstA g act) (gi (dstA g act) 0).toNat 0,(true,()))) :=
    ref05_walk (ps:=(exG g).1.1) d2 (by rw [d1']; exact hn) (by rw [d1']; exact hpos) (by rw [d1']; exact d3) hG.eL (fun l hl x hx=>by rw [d1']; exact (hG.eI l hl x hx).1)
  simp only [a2_]
  rw [badA_if,a0_]
  cases badA g.1.2.2.2.2.1.length act with
  | true=>rfl
  | false =>
  simp only [a2_]
  rw [hdd,a0_,hw,a0_]
  cases decide (gi (dstA g act) 0<0) <;> rfl
theorem aroR_len {g:ac_} (hg:SmG g) (act:Int):Sm (aroR g act).1.length:=by
  unfold aroR
  cases hE:(exG g).2.1 != 0 with
  | true=>exact k9_ _
  | false =>
  cases badA g.1.2.2.2.2.1.length act with
  | true=>exact k9_ _
  | false =>
  cases decide (gi (dstA g act) 0<0) with
  | true=>exact k9_ _
  | false =>
  have hE:(exG g).2.1=0:=by simpa using hE
  obtain ⟨h0,hG,hes⟩:=exG_ok hg hE
  have hpos:=exG_pos hE
  have hn:=hG.pI.n
  obtain ⟨d1,d2⟩:=dst_ok hg h0 hG hes act
  have hat:at? (dstA g act) 0=some (gi (dstA g act) 0):=kk_ (by omega) (by show (0:Int)<((dst _ _ _).length:Int); omega)
  obtain ⟨i,_,hi⟩:=nb_ hat
  have:=dst_le hg h0 hG hes act i _ hi
  have:=shp_len (esF act (exG g).1.2) (dstA g act) (gi (dstA g act) 0).toNat 0
  show (shp (esF act (exG g).1.2) (dstA g act) (gi (dstA g act) 0).toNat 0).length≤1000000000
  omega
theorem law05_ProveAround (g:ac_) (act:Int):gn_ g act=some (true,()):=by
  obtain ⟨b,e,hb⟩:=law05_Large g
  unfold gn_
  rw [e,a0_]
  cases b with
  | true=>simp only [a4_,vq_,a0_]
  | false =>
  have hg:=hb rfl
  simp only [a2_]
  rw [ref04_Copy hg,a0_,prove_Around hg,a0_,ref05_Around hg,a0_,same_moves (aroR_len hg act),a0_]
  simp only [a4_,d0_,vq_,a0_]
end
end Go.Proofs.YtmdlefagpcmllaaGreatDoor.Rx
