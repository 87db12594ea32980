/- A part of the proof: what the functions of the program compute, shown over the model. -/
import Derived.KernelRfl
import Derived.Test.YtmdlefagpcmllaaGreatDoorPart5
set_option linter.unusedSectionVars false
set_option linter.unusedVariables false
set_option linter.unusedSimpArgs false
namespace Go.Proofs.YtmdlefagpcmllaaGreatDoor.Rx
open Go Pad Rex
section
set_option maxRecDepth 10000
theorem negs_app (a b:List Int):mj_ (a++b)=mj_ a+mj_ b:=by unfold mj_; rw [List.countP_append]
theorem negs_take {a:List Int} {i:Nat} {v:Int} (h:a[i]?=some v):mj_ (a.take (i+1))=mj_ (a.take i)+(if v<0 then 1 else 0):=by
  rw [d2_,h,negs_app,show (some v).toList=[v] from rfl,negs_cons,show mj_ []=0 from rfl,b0_]
theorem BI_first {g:ac_} {ps:List aa_} {es:List (List ae_)} {near:List Int} (h1:∀ x ∈ near,∃ j:Nat,x=(j:Int)∧j<ps.length∧tc_ g ps j=true) (h2:∀ j:Nat,j<ps.length→tc_ g ps j=true→(j:Int) ∈ near) (h3:near.length+mj_ (wn_ g ps)=ps.length) :
    BI es (tc_ g ps) ps.length near (wn_ g ps):=by
  have hl:(wn_ g ps).length=ps.length:=c9_ _
  have hg:∀ x ∈ near,at? (wn_ g ps) x=some 0:=fun x hx=>by
    obtain ⟨j,rfl,hj,hf⟩:=h1 x hx
    obtain ⟨v,hv⟩:=bb_ (l:=wn_ g ps) (i:=j) (by omega)
    rcases py_ hv with ⟨rfl,_⟩ | ⟨rfl,hf2⟩
    · exact ah_ hv
    · rw [hf] at hf2; cases hf2
  have hle:∀ (i:Nat) (v:Int),(wn_ g ps)[i]?=some v→-1≤v∧v≤0:=fun i v hv=>by
    rcases py_ hv with ⟨rfl,_⟩ | ⟨rfl,_⟩ <;> omega
  refine ⟨hl,fun i v hv=>(hle i v hv).1,fun i v hv => ?_,fun i k hk => ?_,fun x hx=>⟨0,hg x hx,m3_ _⟩,?_,fun x hx i v hv => ?_,fun i l x k hl hxl hat hnn => ?_,fun i v hv => ?_,by omega⟩
  · rcases py_ hv with ⟨rfl,h⟩ | ⟨rfl,h⟩
    · exact ⟨fun _=>h,fun _=>rfl⟩
    · rw [h]
      exact ⟨fun e=>by omega,fun e=>by cases e⟩
  · have:=hle i _ hk
    omega
  · refine List.pairwise_of_forall_mem_list (fun x hx y hy => ?_)
    rw [mm_ (hg x hx),mm_ (hg y hy)]
    exact m3_ _
  · rw [mm_ (hg x hx)]
    have:=hle i v hv
    omega
  · obtain ⟨xi,hxi,hxk⟩:=ri_ hat
    have hlt:=am_ hxk
    rcases py_ hxk with ⟨_,hf⟩ | ⟨e,_⟩
    · exact absurd (by rw [hxi]; exact h2 xi (by omega) hf) hnn
    · omega
  · have:=hle i v hv
    have:=negs_le (wn_ g ps)
    omega
noncomputable def meaG (rowB:Int→List ae_→(Int×(List (List Int)×Unit))→Option ((Int×(List (List Int)×Unit))⊕(List (List Int)×Unit))) {τ:Type} (a0:ac_) (G:ch_) (K:List Int×Unit→Option τ):Option τ :=
 ((eu_ [(-1)] (G.1.length:Int)).bind fun v1 =>
 ((af_ (ρ:=((List Int)×((List Int)×Unit))) (fun (v2:((List Int)×(Int×((List Int)×Unit)))) =>
 (cond (decide (v2.2.1<(G.1.length:Int)))
 ((((at? G.1 v2.2.1).bind fun v3 =>
 ((jy_ a0.1 v3.1).bind fun v4 =>
 (((cond (v4.2.1==0)
 (some (v4.1,()))
 (some (false,())))).bind fun v5 =>
 (cond v5.1
 ((at? v2.2.2.1 v2.2.1).bind fun v6 =>
 ((at? v2.2.2.1 v2.2.1).bind fun v7 =>
 ((push? (α:=Int) v2.1 [v2.2.1]).bind fun v8 =>
 (some (v8,((v2.2.2.1.set v2.2.1.toNat 0),()))))))
 (some (v2.1,(v2.2.2.1,())))))))).bind fun v9 =>
 (some (Sum.inl (v9.1,((w64 (v2.2.1+1)),(v9.2.1,()))))))
 (some (Sum.inr (v2.1,(v2.2.2.1,())))))) ([],(0,(v1,())))).bind fun v10 =>
 ((mk? (α:=(List Int)) (G.1.length:Int) []).bind fun v11 =>
 ((af_ (ρ:=((List (List Int))×Unit)) (fun (v12:(Int×((List (List Int))×Unit))) =>
 (cond (decide (v12.1<(G.2.length:Int)))
 ((at? G.2 v12.1).bind fun v13 =>
 ((af_ (ρ:=((List (List Int))×Unit)) (rowB v12.1 v13) (0,(v12.2.1,()))).bind fun v22 =>
 (some (Sum.inl ((w64 (v12.1+1)),(v22.1,()))))))
 (some (Sum.inr (v12.2.1,()))))) (0,(v11,()))).bind fun v23 =>
 ((af_ (ρ:=((List Int)×Unit)) (fun (v24:((List Int)×((List Int)×Unit))) =>
 (cond (decide (0<(v24.1.length:Int)))
 ((at? v24.1 0).bind fun v25 =>
 ((at? v24.1 0).bind fun v26 =>
 ((sub? v24.1 1 (v24.1.length:Int)).bind fun v27 =>
 ((at? v23.1 v26).bind fun v28 =>
 ((af_ (ρ:=((List Int)×((List Int)×Unit))) (fun (v29:((List Int)×(Int×((List Int)×Unit)))) =>
 (cond (decide (v29.2.1<(v28.length:Int)))
 ((((at? v28 v29.2.1).bind fun v30 =>
 ((at? v29.2.2.1 v30).bind fun v31 =>
 ((at? v29.2.2.1 v30).bind fun v32 =>
 (cond (decide (v32<0))
 ((at? v29.2.2.1 v26).bind fun v33 =>
 ((at? v29.2.2.1 v26).bind fun v34 =>
 ((at? v29.2.2.1 v30).bind fun v35 =>
 ((at? v29.2.2.1 v30).bind fun v36 =>
 ((push? (α:=Int) v29.1 [v30]).bind fun v37 =>
 (some (v37,((v29.2.2.1.set v30.toNat (w64 (v34+1))),()))))))))
 (some (v29.1,(v29.2.2.1,())))))))).bind fun v38 =>
 (some (Sum.inl (v38.1,((w64 (v29.2.1+1)),(v38.2.1,()))))))
 (some (Sum.inr (v29.1,(v29.2.2.1,())))))) (v27,(0,(v24.2.1,())))).bind fun v39 =>
 (some (Sum.inl (v39.1,(v39.2.1,())))))))))
 (some (Sum.inr (v24.2.1,()))))) (v10.1,(v10.2.1,()))).bind fun v40 =>
 (K v40))))))
def rowE (i:Int) (row:List ae_):(Int×(List (List Int)×Unit))→Option ((Int×(List (List Int)×Unit))⊕(List (List Int)×Unit)) :=
 (fun (v14:(Int×((List (List Int))×Unit))) =>
 (cond (decide (v14.1<(row.length:Int)))
 ((((at? row v14.1).bind fun v15 =>
 ((at? v14.2.1 v15.2).bind fun v16 =>
 ((at? v14.2.1 v15.2).bind fun v17 =>
 ((push? (α:=Int) v17 [i]).bind fun v18 =>
 ((at? v14.2.1 v15.2).bind fun v19 =>
 (cond ((v15.2==v15.2)&&true)
 ((at? v14.2.1 v15.2).bind fun v20 =>
 (some ((v14.2.1.set v15.2.toNat v18),())))
 none))))))).bind fun v21 =>
 (some (Sum.inl ((w64 (v14.1+1)),(v21.1,())))))
 (some (Sum.inr (v14.2.1,())))))
noncomputable abbrev meaK {τ:Type} (a0:ac_) (G:ch_) (K:List Int×Unit→Option τ):Option τ:=meaG rowE a0 G K
theorem meaG_bind (rowB:Int→List ae_→(Int×(List (List Int)×Unit))→Option ((Int×(List (List Int)×Unit))⊕(List (List Int)×Unit))) {τ:Type} (a0:ac_) (G:ch_) (K:List Int×Unit→Option τ):meaG rowB a0 G K=(meaG rowB a0 G some).bind K:=by
  unfold meaG
  simp only [Option.bind_assoc,a0_]
def esQ (Q:ae_→Bool) (es:List (List ae_)):List (List ae_):=es.map fun l=>l.filter Q
theorem esQ_at {Q:ae_→Bool} {es:List (List ae_)} {i:Nat} {l:List ae_} (h:es[i]?=some l):(esQ Q es)[i]?=some (l.filter Q):=by
  unfold esQ
  rw [d7_,h]
  rfl
structure RowOk (rowB:Int→List ae_→(Int×(List (List Int)×Unit))→Option ((Int×(List (List Int)×Unit))⊕(List (List Int)×Unit))) (Q:ae_→Bool):Prop where
  st:∀ (i:Int) row (k:Nat) x bk l,row[k]?=some x→at? bk x.2=some l→l.length≤2000000→k≤1000→rowB i row ((k:Int),(bk,()))=some (.inl (((k+1:Nat):Int),(cond (Q x) (bk.set x.2.toNat (l++[i])) bk,())))
  en:∀ (i:Int) row bk,rowB i row ((row.length:Int),(bk,()))=some (.inr (bk,()))
theorem mea_some {rowB} {Q:ae_→Bool} (hR:RowOk rowB Q) {g:ac_} (hg:SmG g) (h0:cg_ g=0) {ps:List aa_} {es:List (List ae_)} (hG:GI g ps es) (hes:es.length=ps.length):∃ y,meaG rowB g (ps,es) some=some y∧∃ D,y=(D,())∧(D.length=ps.length∧LC (esQ Q es) (tc_ g ps) D)∧∀ (i:Nat) (v:Int),D[i]?=some v→v≤(ps.length:Int):=by
  have ok:=cw_ h0
  have okr:=bl_ ok.room
  have hn:=hG.pI.n
  have hx:∀ l ∈ es,∀ x ∈ l,0≤x.2∧x.2<(ps.length:Int):=fun l hl x hx=>(hG.eI l hl x hx).1
  have hesQ:(esQ Q es).length=es.length:=c9_ _
  have hxQ:∀ l ∈ esQ Q es,∀ x ∈ l,0≤x.2∧x.2<(ps.length:Int):=fun l hl x hxl=>by
    obtain ⟨l',h1,rfl⟩:=d9_.1 hl
    exact hx l' h1 x (c8_.1 hxl).1
  unfold meaG
  simp only
  rw [Repeat_eq (by omega),a0_]
  have hfl:(wn_ g ps).length=ps.length:=c9_ _
  refine sn_ ps.length (fun (i:Nat) (z:List Int×(Int×(List Int×Unit)))=>∃ near far:List Int,z=(near,((i:Int),(far,())))∧far.length=ps.length∧(∀ j:Nat,far[j]?=if j<i then (wn_ g ps)[j]? else (List.replicate ps.length (-1:Int))[j]?)∧(∀ x ∈ near,∃ j:Nat,x=(j:Int)∧j<i∧tc_ g ps j=true)∧(∀ j:Nat,j<i→tc_ g ps j=true→(j:Int) ∈ near)∧near.length+mj_ ((wn_ g ps).take i)=i)
    ⟨[],_,rfl,f1_,(fun j=>by simp),(fun x hx=>by cases hx),(fun j hj=>by omega),rfl⟩ (fun i z hi hz => ?_) (fun z hz => ?_)
  · obtain ⟨near,far,rfl,hl,hj,h1,h2,h3⟩:=hz
    obtain ⟨p,hp⟩:=bb_ hi
    obtain ⟨v,hv⟩:=bb_ (l:=far) (i:=i) (by omega)
    have hv1:v = -1:=by
      rw [hj,if_neg (by omega),i1_,if_pos hi] at hv
      exact (a6_ hv).symm
    have hf0:(wn_ g ps)[i]?=some (cond (dh_ p.1.1 g.1.2.2.2.2.2.2.2) 0 (-1)):=by
      unfold wn_
      rw [d7_,hp]
      rfl
    have hfp:=finP_at (g:=g) hp
    have hnt:=negs_take hf0
    simp only [dlt hi,a4_,ah_ hp,ah_ hv,a0_,room_Done hg.room ok.room (hG.pI.v p (ax_ hp)).st,show ((0:Int)==0)=true from rfl,c1_,ay_ (show Sm i by show _≤1000000000; omega),cd_ (show Sm near.length by show _≤1000000000; omega)]
    cases hc:dh_ p.1.1 g.1.2.2.2.2.2.2.2 with
    | true =>
      rw [hc] at hf0 hfp hnt
      refine ⟨_,rfl,near++[(i:Int)],far.set i 0,rfl,by rw [g1_,hl],fun j => ?_,fun x hx => ?_,fun j hj hf => ?_,?_⟩
      · rcases n2_ j i with hji | hji | hji
        · rw [b9_ (by omega),hj,if_pos hji,if_pos (by omega)]
        · subst hji
          rw [e7_ (by omega),if_pos (by omega),hf0]
          rfl
        · rw [b9_ (by omega),hj,if_neg (by omega),if_neg (by omega)]
      · rcases b8_.1 hx with hx | hx
        · obtain ⟨j,a,b,c⟩:=h1 x hx
          exact ⟨j,a,by omega,c⟩
        · rw [e2_] at hx
          exact ⟨i,hx,by omega,hfp⟩
      · rcases k8_ j i with hji | hji
        · exact n8_ _ (h2 j hji hf)
        · obtain rfl:j=i:=by omega
          exact n4_ _ (e2_.2 rfl)
      · rw [a8_,d4_,hnt]
        show _+1+(_+if (0:Int)<0 then 1 else 0)=i+1
        rw [if_neg (by omega)]
        omega
    | false =>
      rw [hc] at hf0 hfp hnt
      refine ⟨_,rfl,near,far,rfl,hl,fun j => ?_,fun x hx => ?_,fun j hj hf => ?_,?_⟩
      · rcases n2_ j i with hji | hji | hji
        · rw [hj,if_pos hji,if_pos (by omega)]
        · subst hji
          rw [hv,if_pos (by omega),hf0,hv1]
          rfl
        · rw [hj,if_neg (by omega),if_neg (by omega)]
      · obtain ⟨j,a,b,c⟩:=h1 x hx
        exact ⟨j,a,by omega,c⟩
      · rcases k8_ j i with hji | hji
        · exact h2 j hji hf
        · obtain rfl:j=i:=by omega
          rw [hfp] at hf
          cases hf
      · rw [hnt]
        show _+(_+if (-1:Int)<0 then 1 else 0)=i+1
        rw [if_pos (by omega)]
        omega
  · obtain ⟨near,far,rfl,hl,hj,h1,h2,h3⟩:=hz
    have hff:far=wn_ g ps:=f0_ fun j=>by
      rw [hj]
      split
      · rfl
      · rw [b1_ (by rw [f1_]; omega),b1_ (by omega)]
    subst hff
    rw [g3_ (by omega)] at h3
    refine ⟨_,by simp only [dnl,a2_]; rfl,?_⟩
    simp only
    rw [sz_ (by omega) (by omega),a0_,c1_]
    refine sn_ es.length (fun (i:Nat) (z:Int×(List (List Int)×Unit))=>∃ bk,z=((i:Int),(bk,()))∧BkI (esQ Q es) ps.length i bk) ⟨_,rfl,f1_,fun t l hl => ?_⟩ (fun i z hi hz => ?_) (fun z hz => ?_)
    · rw [i1_] at hl
      split at hl
      · obtain rfl:=a6_ hl
        exact ⟨l5_ _,fun y=>⟨(fun h=>by cases h),fun ⟨j,h,_⟩=>by omega⟩⟩
      · cases hl
    · obtain ⟨bk,rfl,hb1,hb2⟩:=hz
      obtain ⟨row,hrow⟩:=bb_ hi
      have hrl:=hG.eL row (ax_ hrow)
      simp only [dlt hi,a4_,ah_ hrow,a0_]
      have:=sn_ (υ:=(Int×(List (List Int)×Unit))⊕(List (List Int)×Unit)) row.length (fun (k:Nat) (z:Int×(List (List Int)×Unit))=>∃ bk',z=((k:Int),(bk',()))∧bk'.length=ps.length∧∀ (t:Nat) l,bk'[t]?=some l→l.length≤i * 480+k∧∀ y:Int,y ∈ l↔((∃ j:Nat,j<i∧y=(j:Int)∧∃ row,(esQ Q es)[j]?=some row∧∃ x ∈ row,x.2=(t:Int))∨(y=(i:Int)∧∃ x ∈ (row.take k).filter Q,x.2=(t:Int))))
        (body:=rowB (i:Int) row) (z0:=(0,(bk,()))) (K:=fun v22=>some (Sum.inl ((w64 ((i:Int)+1)),(v22.1,())))) (Q:=fun y=>∃ z',y=Sum.inl z'∧∃ bk,z'=(((i+1:Nat):Int),(bk,()))∧BkI (esQ Q es) ps.length (i+1) bk)
        ⟨bk,rfl,hb1,fun t l hl=>⟨(hb2 t l hl).1,fun y=>by
          rw [(hb2 t l hl).2 y,i5_,List.filter_nil]
          exact ⟨.inl,fun h=>h.elim id fun ⟨_,x,h,_⟩=>(by cases h)⟩⟩⟩ (fun k z hk hz => ?_) (fun z hz => ?_)
      · obtain ⟨y,ey,z',rfl,bk2,rfl,hB⟩:=this
        exact ⟨_,ey,bk2,rfl,hB⟩
      · obtain ⟨bk',rfl,hb3,hb4⟩:=hz
        obtain ⟨x,hxk⟩:=bb_ hk
        obtain ⟨x0,x1⟩:=hx row (ax_ hrow) x (ax_ hxk)
        obtain ⟨l,hl⟩:=bb_ (l:=bk') (i:=x.2.toNat) (by omega)
        have hat:at? bk' x.2=some l:=by rw [show x.2=((x.2.toNat:Nat):Int) by omega]; exact ah_ hl
        obtain ⟨q1,q2⟩:=hb4 _ l hl
        refine ⟨_,hR.st (i:Int) row k x bk' l hxk hat (by omega) (by omega),_,rfl,by cases Q x <;> simp [hb3],fun t l' hl' => ?_⟩
        have htk:∀ y:Int,(∃ e ∈ (row.take (k+1)).filter Q,e.2=y)↔((∃ e ∈ (row.take k).filter Q,e.2=y)∨(Q x=true∧x.2=y)):=fun y=>by
          rw [d2_,hxk,l4_]
          constructor
          · rintro ⟨e,he,h⟩
            rcases b8_.1 he with he | he
            · exact .inl ⟨e,he,h⟩
            · have h2:=c8_.1 he
              have:e=x:=by simpa using h2.1
              rw [this] at h h2
              exact .inr ⟨h2.2,h⟩
          · rintro (⟨e,he,h⟩ | ⟨hq,h⟩)
            · exact ⟨e,n8_ _ he,h⟩
            · exact ⟨x,n4_ _ (c8_.2 ⟨by simp,hq⟩),h⟩
        have skip:∀ l',bk'[t]?=some l'→(Q x=true→x.2≠(t:Int))→l'.length≤i * 480+(k+1)∧∀ y:Int,y ∈ l'↔((∃ j:Nat,j<i∧y=(j:Int)∧∃ row,(esQ Q es)[j]?=some row∧∃ x ∈ row,x.2=(t:Int))∨(y=(i:Int)∧∃ x ∈ (row.take (k+1)).filter Q,x.2=(t:Int))):=fun l' hl' hne=>by
          obtain ⟨r1,r2⟩:=hb4 t l' hl'
          refine ⟨by omega,fun y => ?_⟩
          rw [r2 y,htk]
          constructor
          · rintro (h | ⟨h,h'⟩)
            · exact .inl h
            · exact .inr ⟨h,.inl h'⟩
          · rintro (h | ⟨h,h' | ⟨h1,h2⟩⟩)
            · exact .inl h
            · exact .inr ⟨h,h'⟩
            · exact absurd h2 (hne h1)
        cases hQ:Q x with
        | false =>
          rw [hQ] at hl'
          exact skip l' hl' (fun e=>by rw [hQ] at e; cases e)
        | true =>
          rw [hQ,a4_] at hl'
          by_cases ht:x.2.toNat=t
          · rw [ht,e7_ (by omega)] at hl'
            obtain rfl:=a6_ hl'
            rw [ht] at q2
            have hxt:x.2=(t:Int):=by omega
            refine ⟨by rw [a8_,d4_]; omega,fun y => ?_⟩
            rw [b8_,e2_,q2 y,htk]
            constructor
            · rintro ((h | ⟨h,h'⟩) | h)
              · exact .inl h
              · exact .inr ⟨h,.inl h'⟩
              · exact .inr ⟨h,.inr ⟨hQ,hxt⟩⟩
            · rintro (h | ⟨h,h' | h'⟩)
              · exact .inl (.inl h)
              · exact .inl (.inr ⟨h,h'⟩)
              · exact .inr h
          · rw [b9_ ht] at hl'
            exact skip l' hl' (fun _=>by omega)
      · obtain ⟨bk',rfl,hb3,hb4⟩:=hz
        refine ⟨_,hR.en (i:Int) row bk',_,rfl,_,rfl,bk',by simp only [ay_ (show Sm i by show _≤1000000000; omega)],hb3,fun t l hl => ?_⟩
        obtain ⟨r1,r2⟩:=hb4 t l hl
        refine ⟨by omega,fun y => ?_⟩
        rw [r2 y,d1_]
        constructor
        · rintro (⟨j,a,b⟩ | ⟨h,h'⟩)
          · exact ⟨j,by omega,b⟩
          · exact ⟨i,by omega,h,_,esQ_at hrow,h'⟩
        · rintro ⟨j,a,b,row',c,d⟩
          rcases k8_ j i with hji | hji
          · exact .inl ⟨j,hji,b,row',c,d⟩
          · obtain rfl:j=i:=by omega
            rw [esQ_at hrow] at c
            obtain rfl:=a6_ c
            exact .inr ⟨b,d⟩
    · obtain ⟨bk,rfl,hB⟩:=hz
      rw [← hesQ] at hB
      refine ⟨_,by simp only [dnl,a2_]; rfl,?_⟩
      simp only
      refine bind_queue (fun near far=>BI (esQ Q es) (tc_ g ps) ps.length near far) (fun near far=>near.length+mj_ far) (fun h tl far I => ?_) (fun far I => ?_) (BI_first h1 h2 h3)
      rotate_left
      · exact ⟨_,rfl,_,rfl,far,rfl,⟨I.len,BI_end I⟩,fun i v h=>by have:=I.bd i v h; omega⟩
      obtain ⟨d,hd,hd0⟩:=I.nr h (f2_ ..)
      obtain ⟨hi,hhi,hdi⟩:=ri_ hd
      have hlt:=am_ hdi
      have hIl:=I.len
      have hIm:=I.ms
      have hIb:=I.bd hi d hdi
      obtain ⟨bs,hbs⟩:=bb_ (l:=bk) (i:=hi) (by have:=hB.1; omega)
      have hbsl:=(hB.2 hi bs hbs).1
      rw [hesQ] at hbsl
      have hbe:=BkI_all hB hbs
      have hatb:at? bk h=some bs:=by rw [hhi]; exact ah_ hbs
      have hat0:at? (h::tl) 0=some h:=rfl
      have hsub:sub? (h::tl) 1 ((h::tl).length:Int)=some tl:=by
        unfold sub?
        rw [if_pos ⟨by omega,by rw [c6_]; omega,m3_ _⟩,c1_,d1_]
        rfl
      simp only [show decide ((0:Int)<((h::tl).length:Int))=true from b2_ (by rw [c6_]; omega),a4_,hat0,hsub,hatb,a0_]
      refine sn_ bs.length (fun (k:Nat) (z:List Int×(Int×(List Int×Unit)))=>∃ pu far',z=(tl++pu,((k:Int),(far',())))∧AI bs d far k pu far') ⟨[],far,by rw [e6_]; rfl,AI_first bs d far⟩ (fun k z hk hz => ?_) (fun z hz => ?_)
      · obtain ⟨pu,far',rfl,A⟩:=hz
        obtain ⟨y,hy⟩:=bb_ hk
        obtain ⟨j,hj2,row,hrow,x,hxr,hxe⟩:=(hbe y).1 (ax_ hy)
        have hrow':=am_ hrow
        rw [hesQ] at hrow'
        have hAl:=A.len
        have hAm:=A.ms
        obtain ⟨v,hv⟩:=bb_ (l:=far') (i:=j) (by omega)
        have hvy:at? far' y=some v:=by rw [hj2]; exact ah_ hv
        have hdh:at? far' h=some d:=by rw [hhi]; exact ah_ (A.keep hi d hdi hd0)
        rw [c6_] at hIm
        by_cases hv0:v<0
        · refine ⟨_,?_,pu++[y],_,rfl,AI_add hd0 A hy hvy hv0⟩
          simp only [dlt hk,a4_,ah_ hy,hvy,hdh,a0_,b2_ hv0,cd_ (show Sm (tl++pu).length by rw [a8_]; show _≤1000000000; omega),ay_ (show Sm k by show _≤1000000000; omega),b4_,fv_ (n:=d+1) (by omega) (by omega)]
        · refine ⟨_,?_,pu,far',rfl,AI_skip A hy hvy (by omega)⟩
          simp only [dlt hk,a4_,ah_ hy,hvy,a0_,b7_ hv0,a2_,ay_ (show Sm k by show _≤1000000000; omega)]
      · obtain ⟨pu,far',rfl,A⟩:=hz
        refine ⟨_,by simp only [dnl,a2_]; rfl,_,rfl,_,_,rfl,BI_step (by rw [hesQ,hes]) hxQ I hd (fun y=>by rw [hhi]; exact hbe y) A,?_⟩
        have:=A.ms
        show (tl++pu).length+mj_ far'<(h::tl).length+mj_ far
        rw [a8_,c6_]
        omega
theorem meaG_eq {rowB} {Q:ae_→Bool} (hR:RowOk rowB Q) {g:ac_} (hg:SmG g) (h0:cg_ g=0) {ps:List aa_} {es:List (List ae_)} (hG:GI g ps es) (hes:es.length=ps.length):∃ D,(D.length=ps.length∧LC (esQ Q es) (tc_ g ps) D)∧(∀ (i:Nat) (v:Int),D[i]?=some v→v≤(ps.length:Int))∧∀ {τ:Type} (K:List Int×Unit→Option τ),meaG rowB g (ps,es) K=K (D,()):=by
  obtain ⟨y,e,D,rfl,h,hb⟩:=mea_some hR hg h0 hG hes
  refine ⟨D,h,hb,fun K => ?_⟩
  rw [meaG_bind,e,a0_]
theorem rowE_ok:RowOk rowE (fun _=>true):=by
  refine ⟨fun i row k x bk l hx hl h1 h2 => ?_,fun i row bk => ?_⟩
  · unfold rowE
    simp only [dlt (am_ hx),a4_,ah_ hx,a0_,hl,cd_ (show Sm l.length by show _≤1000000000; omega),d5_,h4_,ay_ (show Sm k by show _≤1000000000; omega)]
  · unfold rowE
    simp only [dnl,a2_]
theorem esQ_true (es:List (List ae_)):esQ (fun _=>true) es=es:=by
  unfold esQ
  refine d8_ (l0_ fun l hl => ?_) (List.map_id _)
  exact List.filter_eq_self.2 fun x hx=>rfl
theorem mea_eq {g:ac_} (hg:SmG g) (h0:cg_ g=0) {ps:List aa_} {es:List (List ae_)} (hG:GI g ps es) (hes:es.length=ps.length):∃ D,(D.length=ps.length∧LC es (tc_ g ps) D)∧(∀ (i:Nat) (v:Int),D[i]?=some v→v≤(ps.length:Int))∧∀ {τ:Type} (K:List Int×Unit→Option τ),meaK g (ps,es) K=K (D,()):=by
  have:=meaG_eq rowE_ok hg h0 hG hes
  rw [esQ_true] at this
  exact this
end
section
set_option maxRecDepth 10000
theorem vc_ {l:List Int} (h:Sm l.length):dj_ l l=some (true,()):=by
  unfold dj_
  simp only [j5_,a2_]
  refine hh_ l.length (fun i=>((i:Int),())) rfl (fun i hi => ?_) (by simp only [dnl,a2_]; rfl) rfl
  obtain ⟨x,hx⟩:=bb_ hi
  simp only [dlt hi,a4_,ah_ hx,a0_,j5_,a2_,ay_ (show Sm i by unfold Sm at h ⊢; omega)]
theorem law05_Large (g:ac_):∃ b,je_ g=some (b,())∧(b=false→SmG g):=by
  obtain ⟨b,e,hb⟩:=law04_Far g
  unfold je_
  rw [e,a0_]
  cases b with
  | true=>exact ⟨true,by simp only [a4_,a0_,e],fun h=>by cases h⟩
  | false =>
  have hg:=hb rfl
  simp only [a2_]
  rw [vg_ hg,a0_,a0_]
  cases hc:cg_ g != 0 with
  | true=>exact ⟨false,by simp only [a4_,e,a0_],fun _=>hg⟩
  | false =>
  simp only [a2_]
  have key:∀ c:Bool,∃ b,(((some (c,()):Option (Bool×Unit))).bind fun v4 =>
 (cond v4.1
 (some (true,()))
 ((du_ g).bind fun v5 =>
 (cond (v5.2.1==2)
 (some (true,()))
 (some ((decide (200<(v5.1.1.length:Int))),()))))))=some (b,())∧(b=false→SmG g):=fun c=>by
    rw [a0_,qm_ hg,a0_]
    cases c with
    | true=>exact ⟨true,rfl,fun _=>hg⟩
    | false =>
      cases hE:(exG g).2.1==2 with
      | true=>exact ⟨true,by simp only [a2_,hE,a4_],fun _=>hg⟩
      | false=>exact ⟨_,by simp only [a2_,hE]; rfl,fun _=>hg⟩
  have one:∀ (c:Bool) (o:Option (Bool×Unit)),(∃ d,o=some (d,()))→∃ d,cond c (some (true,())) o=some (d,()):=fun c o h=>by
    cases c with
    | true=>exact ⟨true,rfl⟩
    | false=>exact h
  obtain ⟨d,hd⟩:=one (decide (4<(g.1.1.length:Int))) _ (one (decide (4<(g.1.2.1.length:Int))) _ (one (decide (3<(g.1.2.2.1.length:Int))) _ (one (decide (2<g.1.2.2.2.2.2.2.1)) _ (one (decide (6<(g.1.2.2.2.2.1.length:Int))) _ (one (decide (4<(g.1.2.2.2.2.2.1.length:Int))) _ (one (decide (5<(g.2.2.2.1.length:Int))) _ ⟨decide (3<(g.2.1.length:Int)),rfl⟩))))))
  rw [hd]
  exact key d
end
section
set_option maxRecDepth 10000
noncomputable def shoX (G:ch_) (v40:List Int×Unit):Option (List ag_×(Int×Unit)) :=
 ((at? v40.1 0).bind fun v41 =>
 ((at? v40.1 0).bind fun v42 =>
 (cond (decide (v42<0))
 (some ([],(50,())))
 ((af_ (ρ:=(((List ag_)×Unit)×Unit)) (fun (v43:(Int×(((List ag_)×Unit)×Unit))) =>
 ((at? v40.1 v43.1).bind fun v44 =>
 ((at? v40.1 v43.1).bind fun v45 =>
 (cond (decide (0<v45))
 ((((at? G.2 v43.1).bind fun v46 =>
 ((af_ (ρ:=(((List Int)×(Unit×(((List ag_)×Unit)×Unit)))⊕((List Int)×(((List ag_)×Unit)×Unit)))) (fun (v47:(Int×((List Int)×(Unit×(((List ag_)×Unit)×Unit))))) =>
 (cond (decide (v47.1<(v46.length:Int)))
 ((at? v46 v47.1).bind fun v48 =>
 ((at? v40.1 v48.2).bind fun v49 =>
 ((at? v40.1 v48.2).bind fun v50 =>
 ((at? v40.1 v43.1).bind fun v51 =>
 ((at? v40.1 v43.1).bind fun v52 =>
 (cond (v50==(w64 (v52 - 1)))
 ((at? v40.1 v43.1).bind fun v53 =>
 ((at? v40.1 v43.1).bind fun v54 =>
 (cond (decide (0<v54))
 ((push? (α:=ag_) v47.2.2.2.1.1 [v48.1]).bind fun v55 =>
 ((at? v47.2.1 0).bind fun v56 =>
 (some (Sum.inr (Sum.inr ((v47.2.1.set (0:Int).toNat v48.2),((v55,()),())))))))
 (some (Sum.inl ((w64 (v47.1+1)),(v47.2.1,((),((v47.2.2.2.1.1,()),())))))))))
 (some (Sum.inl ((w64 (v47.1+1)),(v47.2.1,((),((v47.2.2.2.1.1,()),()))))))))))))
 (some (Sum.inr (Sum.inl (v47.2.1,((),((v47.2.2.2.1.1,()),())))))))) (0,([v43.1],((),((v43.2.1.1,()),()))))).bind fun v57 =>
 (ca_ v57 (fun v58=>(some (v58.1,((v58.2.2.1.1,()),()))))
 (fun v59=>(some v59)))))).bind fun v60 =>
 ((at? v60.1 0).bind fun v61 =>
 (some (Sum.inl (v61,((v60.2.1.1,()),()))))))
 (some (Sum.inr ((v43.2.1.1,()),()))))))) (0,(([],()),()))).bind fun v62 =>
 (some (v62.1.1,(0,())))))))
theorem solve_eq:fo_=fun a0=>(dv_ a0).bind fun v0=>cond (v0.2.1 != 0) (cond (v0.2.1 != 0) (some ([],(v0.2.1,()))) none) (meaK a0 v0.1 fun v40=>shoX v0.1 v40):=by
  kernel_rfl
def shp (es:List (List ae_)) (D:List Int):Nat→Int→List ag_
  | 0,_=>[]
  | k+1,i=>match ((at? es i).getD []).find? (fun x=>gi D x.2==(k:Int)) with
    | none=>[]
    | some x=>x.1::shp es D k x.2
theorem xx_ {α ρ:Type} {q:α→Bool} {f:α→ρ}:∀ (m:List α) (k:Nat),fy_ (fun _ y=>cond (q y) (some (f y)) none) k m=(m.find? q).map f
  | [],_=>rfl
  | x::m,k=>by
    unfold fy_
    cases hq:q x with
    | true=>rw [List.find?_cons_of_pos hq]; rfl
    | false =>
      rw [List.find?_cons_of_neg (by rw [hq]; decide)]
      exact xx_ m (k+1)
theorem bind_while {σ ρ υ:Type} {body:σ→Option (σ⊕ρ)} {s:σ} {r:ρ} {K:ρ→Option υ} {x:Option υ} (h:af_ body s=some r) (hk:K r=x):(af_ body s).bind K=x:=by
  rw [h,a0_,hk]
theorem loop_path {σ ρ:Type} (F:Int→List ag_→σ) (G:List ag_→ρ) {es:List (List ae_)} {fin:Nat→Bool} {D:List Int} (hL:LC es fin D) (hD:D.length≤3000) (hxx:∀ l ∈ es,∀ x ∈ l,0≤x.2∧x.2<(D.length:Int)) {body:σ→Option (σ⊕ρ)}
    (hz:∀ i acc,at? D i=some 0→body (F i acc)=some (.inr (G acc)))
    (hs:∀ (i:Int) (k:Nat) acc row x,at? D i=some ((k+1:Nat):Int)→k≤1000000→acc.length≤1000000→at? es i=some row→row.find? (fun x=>gi D x.2==(k:Int))=some x→body (F i acc)=some (.inl (F x.2 (acc++[x.1])))) :
    ∀ (k:Nat) (i:Int) (acc:List ag_),at? D i=some (k:Int)→acc.length+k≤1000000→af_ body (F i acc)=some (G (acc++shp es D k i))
  | 0,i,acc,h,_=>by
    unfold shp
    rw [e6_]
    exact bt_ (hz i acc h)
  | k+1,i,acc,h,hk=>by
    obtain ⟨n,rfl,hn⟩:=ri_ h
    obtain ⟨l,x,hl,hx,hat⟩:=hL.dn n k hn
    have hatl:at? es (n:Int)=some l:=ah_ hl
    cases hf:l.find? (fun x=>gi D x.2==(k:Int)) with
    | none =>
      have:=List.find?_eq_none.1 hf x hx
      rw [mm_ hat] at this
      simp at this
    | some y =>
      have hy:gi D y.2=(k:Int):=by
        have:=List.find?_some hf
        exact f5_.1 this
      obtain ⟨y0,y1⟩:=hxx l (ax_ hl) y (List.mem_of_find?_eq_some hf)
      have haty:at? D y.2=some (k:Int):=by rw [oc_ y0 y1,hy]
      have:=loop_path F G hL hD hxx hz hs k y.2 (acc++[y.1]) haty (by rw [a8_,d4_]; omega)
      refine bo_ (hs (n:Int) k acc l y h (by omega) (by omega) hatl hf) ?_
      have e:shp es D (k+1) (n:Int)=y.1::shp es D k y.2:=by
        rw [shp,hatl,f3_,hf]
      rw [this,e,b4_]
      rfl
theorem shoX_eq {ps:List aa_} {es:List (List ae_)} {fin:Nat→Bool} {D:List Int} (hL:LC es fin D) (hD:D.length≤3000) (h1:1≤D.length) (hb:∀ (i:Nat) (v:Int),D[i]?=some v→v≤(D.length:Int)) (hes:es.length=D.length) (hel:∀ l ∈ es,l.length≤480) (hxx:∀ l ∈ es,∀ x ∈ l,0≤x.2∧x.2<(D.length:Int)) :
    shoX (ps,es) (D,())=some (cond (decide (gi D 0<0)) ([],(50,())) (shp es D (gi D 0).toNat 0,(0,()))):=by
  unfold shoX
  have h0:at? D 0=some (gi D 0):=oc_ (by omega) (by omega)
  simp only [h0,a0_]
  cases hc:decide (gi D 0<0) with
  | true=>rfl
  | false =>
  have hc:=d6_ hc
  have hle:gi D 0≤(D.length:Int):=by
    obtain ⟨i,_,hi⟩:=ri_ h0
    exact hb i _ hi
  simp only [a2_]
  refine bind_while (r:=((shp es D (gi D 0).toNat 0,()),())) ?_ rfl
  refine loop_path (F:=fun i acc=>(i,((acc,()),()))) (G:=fun acc=>((acc,()),())) hL hD hxx (fun i acc h => ?_) (fun i k acc row x h hk ha hrow hf => ?_) (gi D 0).toNat 0 [] (by rw [h0]; congr 1; omega) (by show 0+_≤_; omega)
  · simp only [h,a0_]
    rfl
  · have hrl:row.length≤480:=by
      obtain ⟨j,_,hj⟩:=ri_ hrow
      exact hel row (ax_ hj)
    simp only [h,a0_,show decide ((0:Int)<((k+1:Nat):Int))=true from b2_ (by omega),a4_,hrow]
    refine d8_ (congrArg (fun o=>Option.bind o _) (bn_ row (fun _ y=>cond (gi D y.2==(k:Int)) (some (Sum.inr ([y.2],((acc++[y.1],()),())):((List Int)×(Unit×(((List ag_)×Unit)×Unit)))⊕((List Int)×(((List ag_)×Unit)×Unit)))) none) (fun j=>((j:Int),([i],((),((acc,()),()))))) (r0:=Sum.inl ([i],((),((acc,()),())))) (x:=some ([x.2],((acc++[x.1],()),()))) (fun j y hy => ?_) ?_ ?_)) ?_
    · obtain ⟨jr,_,hj⟩:=ri_ hrow
      obtain ⟨y0,y1⟩:=hxx row (ax_ hj) y (ax_ hy)
      have hjl:=am_ hy
      simp only [dlt hjl,a4_,ah_ hy,oc_ y0 y1,a0_,fv_ (n:=((k+1:Nat):Int) - 1) (by omega) (by omega),show ((k+1:Nat):Int) - 1=(k:Int) by omega,fv_ (n:=(k:Int)) (by omega) (by omega),ay_ (show Sm j by show _≤1000000000; omega),cd_ (show Sm acc.length by show _≤1000000000; omega)]
      cases gi D y.2==(k:Int) <;> rfl
    · simp only [dnl,a2_]
    · rw [xx_,hf]
      rfl
    · rfl
theorem inn_len (g:ac_) (p:aa_):∀ (ms:List ag_) (e e':List ae_) (ps ps':List aa_),inn g p ms e ps=some (e',ps')→ps.length≤ps'.length
  | [],e,e',ps,ps',h=>by
    unfold inn at h
    obtain ⟨_,rfl⟩:=h1_ (a6_ h)
    exact c4_ _
  | m::ms,e,e',ps,ps',h=>by
    unfold inn at h
    cases hw:wh ps ((stepP g p m).getD eP) with
    | some n =>
      simp only [hw] at h
      exact inn_len g p ms _ _ _ _ h
    | none =>
      simp only [hw] at h
      split at h
      · cases h
      · have:=inn_len g p ms _ _ _ _ h
        rw [a8_] at this
        omega
theorem out_len (g:ac_):∀ (n i:Nat) (ps ps':List aa_) (es es':List (List ae_)),out g n i ps es=some (ps',es')→ps.length≤ps'.length
  | 0,i,ps,ps',es,es',h=>by
    unfold out at h
    obtain ⟨rfl,_⟩:=h1_ (a6_ h)
    exact c4_ _
  | n+1,i,ps,ps',es,es',h=>by
    unfold out at h
    cases hp:ps[i]? with
    | none =>
      simp only [hp] at h
      obtain ⟨rfl,_⟩:=h1_ (a6_ h)
      exact c4_ _
    | some p =>
      simp only [hp] at h
      cases hin:inn g p (pmv g p) [] ps with
      | none=>simp only [hin] at h; cases h
      | some z =>
        simp only [hin] at h
        exact c3_ (inn_len g p _ _ _ _ _ hin) (out_len g n _ _ _ _ _ h)
theorem exG_pos {g:ac_} (he:(exG g).2.1=0):1≤(exG g).1.1.length:=by
  unfold exG at he ⊢
  cases hb:(ti_ g).2.1 != 0 with
  | true =>
    rw [hb] at he
    rw [o3_] at hb
    exact absurd he hb
  | false =>
  rw [hb,a2_] at he
  cases ho:out g 3001 0 [(ti_ g).1] [] with
  | none =>
    rw [ho] at he
    exact absurd (show (2:Int)=0 from he) (by decide)
  | some z=>exact out_len g _ _ _ _ _ _ ho
theorem prove_Solve {g:ac_} (hg:SmG g):∃ D,(((exG g).2.1≠0∧fo_ g=some ([],((exG g).2.1,())))∨((exG g).2.1=0∧D.length=(exG g).1.1.length∧LC (exG g).1.2 (tc_ g (exG g).1.1) D∧fo_ g=some (cond (decide (gi D 0<0)) ([],(50,())) (shp (exG g).1.2 D (gi D 0).toNat 0,(0,()))))):=by
  rw [solve_eq]
  simp only
  rw [qq_ hg,a0_]
  cases hE:(exG g).2.1 != 0 with
  | true =>
    rw [o3_] at hE
    exact ⟨[],.inl ⟨hE,rfl⟩⟩
  | false =>
  have hE:(exG g).2.1=0:=by simpa using hE
  obtain ⟨h0,hG,hes⟩:=exG_ok hg hE
  obtain ⟨D,h1,hb,h2⟩:=mea_eq hg h0 hG hes
  have hpos:=exG_pos hE
  have hn:=hG.pI.n
  refine ⟨D,.inr ⟨hE,h1.1,h1.2,?_⟩⟩
  simp only [a2_]
  rw [show (exG g).1=((exG g).1.1,(exG g).1.2) from rfl,h2]
  exact shoX_eq h1.2 (by rw [h1.1]; exact hn) (by rw [h1.1]; exact hpos) (by rw [h1.1]; exact hb) (by rw [h1.1]; exact hes) hG.eL (fun l hl x hx=>by rw [h1.1]; exact (hG.eI l hl x hx).1)
def g0:ac_:=(([[104,97,108,108],[118,97,117,108,116]],([([98,111,120],(0,(2,0))),([100,111,111,114],(0,(2,0)))],([([107,101,121],(0,[(0,(1,false))]))],([(0,(1,[(1,(1,false))]))],([([111,112,101,110],(0,(0,([],([],([(0,1)],([],[]))))))),([116,117,114,110],(0,((-1),([0],([],([(1,1)],([0],[])))))))],([],(1,[(1,(1,false))]))))))),([(2,4)],([[3,1]],([([108,101,97,102],(0,(0,([],(2,(0,(1,(4,(0,([],false)))))))))),([98,97,99,107],(0,(0,([(0,(0,false))],(3,(1,(0,(0,(0,([],false)))))))))),([99,97,114,100],(1,((-1),([],(0,(0,(0,(0,(0,([],false))))))))))],1))))
end
section
set_option maxRecDepth 10000
noncomputable def dst (es:List (List ae_)) (fin:Nat→Bool) (n:Nat):List Int:=Classical.epsilon fun D=>D.length=n∧LC es fin D
theorem dst_eq {es:List (List ae_)} {fin:Nat→Bool} {n:Nat} {D:List Int} (h1:D.length=n) (h2:LC es fin D):dst es fin n=D:=by
  have h:(dst es fin n).length=n∧LC es fin (dst es fin n):=Classical.epsilon_spec (p:=fun D:List Int=>D.length=n∧LC es fin D) ⟨D,h1,h2⟩
  exact LC_uniq h.2 h2 (by omega)
section
variable {g:ac_} (hg:SmG g) (h0:cg_ g=0) {ps:List aa_} {es:List (List ae_)} (hG:GI g ps es) (hes:es.length=ps.length)
include hg h0 hG hes
theorem dst_ok (act:Int):(dst (esF act es) (tc_ g ps) ps.length).length=ps.length∧LC (esF act es) (tc_ g ps) (dst (esF act es) (tc_ g ps) ps.length):=by
  obtain ⟨D,e,h1,h2⟩:=tk_ hg h0 hG hes act
  rw [dst_eq h1 h2]
  exact ⟨h1,h2⟩
end
def rowQ (Q:ae_→Bool) (i:Int) (row:List ae_) (z:Int×(List (List Int)×Unit)):Option ((Int×(List (List Int)×Unit))⊕(List (List Int)×Unit)):=match at? row z.1 with
  | none=>some (.inr (z.2.1,()))
  | some x=>some (.inl (w64 (z.1+1),(cond (Q x) (z.2.1.set x.2.toNat ((at? z.2.1 x.2).getD []++[i])) z.2.1,())))
theorem rowQ_ok (Q:ae_→Bool):RowOk (rowQ Q) Q:=by
  refine ⟨fun i row k x bk l hx hl h1 h2 => ?_,fun i row bk => ?_⟩
  · unfold rowQ
    simp only [ah_ hx,hl,f3_,ay_ (show Sm k by show _≤1000000000; omega)]
  · unfold rowQ
    simp only [at_out (c4_ row.length)]
theorem dst_le {g:ac_} (hg:SmG g) (h0:cg_ g=0) {ps:List aa_} {es:List (List ae_)} (hG:GI g ps es) (hes:es.length=ps.length) (act:Int):∀ (i:Nat) (v:Int),(dst (esF act es) (tc_ g ps) ps.length)[i]?=some v→v≤(ps.length:Int):=by
  obtain ⟨D,⟨h1,h2⟩,h3,_⟩:=meaG_eq (rowQ_ok (kp act)) hg h0 hG hes
  rw [show dst (esF act es) (tc_ g ps) ps.length=D from dst_eq h1 h2]
  exact h3
end
section
set_option maxRecDepth 10000
def RowI (g:ac_) (p:aa_) (ps:List aa_) (row:List ae_):Prop:=∀ x ∈ row,∃ q n,stepP g p x.1=some q∧x.2=((n:Nat):Int)∧ps[n]?=some q
theorem RowI_mono {g:ac_} {p:aa_} {ps ps':List aa_} {row:List ae_} (h:RowI g p ps row) (hp:∀ (n:Nat) q,ps[n]?=some q→ps'[n]?=some q):RowI g p ps' row:=fun x hx=>by
  obtain ⟨q,n,h1,h2,h3⟩:=h x hx
  exact ⟨q,n,h1,h2,hp n q h3⟩
theorem inn_row {g:ac_} {p:aa_}:∀ (ms:List ag_) (e e':List ae_) (ps ps':List aa_),(∀ m ∈ ms,∃ q,stepP g p m=some q)→RowI g p ps e→inn g p ms e ps=some (e',ps') →
    RowI g p ps' e'∧e'.map (·.1)=e.map (·.1)++ms∧∀ (n:Nat) q,ps[n]?=some q→ps'[n]?=some q
  | [],e,e',ps,ps',hm,hr,h=>by
    unfold inn at h
    cases h
    exact ⟨hr,by simp,fun n q h=>h⟩
  | m::ms,e,e',ps,ps',hm,hr,h=>by
    obtain ⟨q,hq⟩:=hm m (by simp)
    unfold inn at h
    rw [hq,f3_] at h
    cases hw:wh ps q with
    | some n =>
      rw [hw] at h
      have hn:=wh_some hw
      obtain ⟨h1,h2,h3⟩:=inn_row ms _ e' ps ps' (fun x hx=>hm x (by simp [hx])) (fun x hx=>by
        rcases b8_.1 hx with hx | hx
        · exact hr x hx
        · simp at hx; subst hx; exact ⟨q,n,hq,rfl,hn⟩) h
      exact ⟨h1,by rw [h2]; simp,h3⟩
    | none =>
      rw [hw] at h
      simp only at h
      by_cases hl:ps.length=3000
      · rw [if_pos hl] at h; cases h
      · rw [if_neg hl] at h
        have hp:∀ (n:Nat) z,ps[n]?=some z→(ps++[q])[n]?=some z:=fun n z hz=>by
          rw [b3_ (a3_.1 hz).1]
          exact hz
        obtain ⟨h1,h2,h3⟩:=inn_row ms _ e' _ ps' (fun x hx=>hm x (by simp [hx])) (fun x hx=>by
          rcases b8_.1 hx with hx | hx
          · exact RowI_mono hr hp x hx
          · simp at hx; subst hx; exact ⟨q,ps.length,hq,rfl,by simp⟩) h
        exact ⟨h1,by rw [h2]; simp,fun n z hz=>h3 n z (hp n z hz)⟩
def GE (g:ac_) (ps:List aa_) (es:List (List ae_)):Prop:=∀ (i:Nat) row,es[i]?=some row→∃ p,ps[i]?=some p∧row.map (·.1)=pmv g p∧RowI g p ps row
theorem out_row {g:ac_}:∀ (n i:Nat) (ps ps':List aa_) (es es':List (List ae_)),es.length=i→GE g ps es→out g n i ps es=some (ps',es')→GE g ps' es'∧∀ (k:Nat) q,ps[k]?=some q→ps'[k]?=some q
  | 0,i,ps,ps',es,es',hl,hG,h=>by
    unfold out at h
    cases h
    exact ⟨hG,fun k q h=>h⟩
  | n+1,i,ps,ps',es,es',hl,hG,h=>by
    unfold out at h
    cases hp:ps[i]? with
    | none =>
      rw [hp] at h
      cases h
      exact ⟨hG,fun k q h=>h⟩
    | some p =>
      rw [hp] at h
      simp only at h
      cases hi:inn g p (pmv g p) [] ps with
      | none=>rw [hi] at h; cases h
      | some z =>
        obtain ⟨e,ps1⟩:=z
        rw [hi] at h
        simp only at h
        obtain ⟨h1,h2,h3⟩:=inn_row (pmv g p) [] e ps ps1 (fun m hm=>ou_ hm) (fun x hx=>by simp at hx) hi
        have hG1:GE g ps1 (es++[e]):=fun j row hj=>by
          by_cases hjl:j<es.length
          · rw [b3_ hjl] at hj
            obtain ⟨p',g1,g2,g3⟩:=hG j row hj
            exact ⟨p',h3 j p' g1,g2,RowI_mono g3 h3⟩
          · have hj':j=es.length:=by
              have:=(a3_.1 hj).1
              rw [a8_,d4_] at this
              omega
            subst hj'
            rw [d3_ (c4_ _),l6_] at hj
            obtain rfl:e=row:=a6_ hj
            exact ⟨p,h3 _ p (by rw [hl]; exact hp),by rw [h2]; simp,h1⟩
        obtain ⟨k1,k2⟩:=out_row n (i+1) ps1 ps' (es++[e]) es' (by rw [a8_,d4_,hl]) hG1 h
        exact ⟨k1,fun k q hq=>k2 k q (h3 k q hq)⟩
theorem exG_GE {g:ac_} (he:(exG g).2.1=0):GE g (exG g).1.1 (exG g).1.2∧(exG g).1.1[0]?=some (ti_ g).1∧(ti_ g).2.1=0:=by
  unfold exG at he ⊢
  cases hb:(ti_ g).2.1 != 0 with
  | true =>
    rw [hb] at he
    have he:(ti_ g).2.1=0:=he
    rw [he] at hb
    cases hb
  | false =>
    rw [hb] at he
    simp only [a2_] at he ⊢
    cases ho:out g 3001 0 [(ti_ g).1] [] with
    | none=>rw [ho] at he; cases he
    | some z =>
      obtain ⟨ps,es⟩:=z
      obtain ⟨h1,h2⟩:=out_row 3001 0 _ ps [] es rfl (fun i row h=>by simp at h) ho
      exact ⟨h1,h2 0 _ rfl,by simpa using hb⟩
section
variable {g:ac_} (hg:SmG g) (he:(exG g).2.1=0)
noncomputable def dstG (g:ac_) (act:Int):List Int:=dst (esF act (exG g).1.2) (tc_ g (exG g).1.1) (exG g).1.1.length
structure Gr (g:ac_):Prop where
  h0:cg_ g=0
  gI:GI g (exG g).1.1 (exG g).1.2
  ge:GE g (exG g).1.1 (exG g).1.2
  len:(exG g).1.2.length=(exG g).1.1.length
  n:(exG g).1.1.length≤3000
  pos:1≤(exG g).1.1.length
  p0:(exG g).1.1[0]?=some (ti_ g).1
  e0:(ti_ g).2.1=0
  dl:∀ act,(dstG g act).length=(exG g).1.1.length
  dc:∀ act,LC (esF act (exG g).1.2) (tc_ g (exG g).1.1) (dstG g act)
  db:∀ act (i:Nat) (v:Int),(dstG g act)[i]?=some v→v≤((exG g).1.1.length:Int)
  xx:∀ l ∈ (exG g).1.2,∀ x ∈ l,0≤x.2∧x.2<((exG g).1.1.length:Int)
  al:esF (-1) (exG g).1.2=(exG g).1.2
include hg he
theorem exG_Gr:Gr g:=by
  obtain ⟨h0,hG,hes⟩:=exG_ok hg he
  obtain ⟨k1,k2,k3⟩:=exG_GE he
  exact ⟨h0,hG,k1,hes,hG.pI.n,exG_pos he,k2,k3,fun act=>(dst_ok hg h0 hG hes act).1,fun act=>(dst_ok hg h0 hG hes act).2,fun act=>dst_le hg h0 hG hes act,fun l hl x hx=>(hG.eI l hl x hx).1,esF_all fun l hl x hx=>(hG.eI l hl x hx).2⟩
end
end
section
set_option maxRecDepth 10000

end
section
set_option maxRecDepth 100000
def G0:ch_:=([(([0,0],([0],[0])),[true,true,false]),(([1,0],([0],[0])),[true,true,false]),(([1,0],([-2],[0])),[true,true,false]),(([1,1],([-1],[0])),[true,true,false]),(([1,1],([-1],[1])),[true,true,true]),(([1,1],([-1],[0])),[true,true,true])],
  [[((0,(4,0)),1)],[((0,(2,0)),2),((0,(4,0)),1)],[((0,(3,0)),1),((0,(4,0)),2),((0,(4,1)),3)],[((0,(1,0)),4),((0,(4,0)),3)],[((0,(1,0)),5)],[((0,(1,0)),4),((0,(4,0)),5)]])
def D0:List Int:=[3,2,1,0,0,0]
theorem exG_g0:exG g0=(G0,(0,())):=by kernel_rfl
theorem SmG_g0:SmG g0:=by
  refine ⟨⟨?_,?_,?_,?_,?_,?_,?_,?_,?_,?_,?_,?_,?_⟩,?_,?_,?_,?_,?_,?_,?_,?_,?_⟩ <;> decide
def chkD (es:List (List ae_)) (fin:Nat→Bool) (D:List Int):Bool :=
  (List.range D.length).all fun i=>match D[i]? with
    | none=>false
    | some v=>decide (-1≤v)&&((v==0)==fin i)&&match es[i]? with
      | none=>false
      | some l=>(decide (v≤0)||l.any (fun x=>at? D x.2==some (v - 1)))&&l.all fun x=>match at? D x.2 with
        | none=>true
        | some k=>decide (k<0)||(decide (0≤v)&&decide (v≤k+1))
theorem chkD_at {es:List (List ae_)} {fin:Nat→Bool} {D:List Int} (h:chkD es fin D=true) {i:Nat} {v:Int} (hv:D[i]?=some v) :
    -1≤v∧((v==0)=fin i)∧∃ l,es[i]?=some l∧(v≤0∨∃ x ∈ l,at? D x.2=some (v - 1))∧∀ x ∈ l,∀ k,at? D x.2=some k→k<0∨(0≤v∧v≤k+1):=by
  have:=e8_.1 h i (m1_.2 (am_ hv))
  simp only [hv] at this
  rw [a1_,a1_,g4_,f5_] at this
  obtain ⟨⟨h1,h2⟩,h3⟩:=this
  refine ⟨h1,h2,?_⟩
  cases hl:es[i]? with
  | none=>rw [hl] at h3; cases h3
  | some l =>
    simp only [hl] at h3
    rw [a1_,c5_,g4_,k0_,e8_] at h3
    refine ⟨l,rfl,h3.1.imp id fun ⟨x,hx,e⟩=>⟨x,hx,f5_.1 e⟩,fun x hx k hk => ?_⟩
    have:=h3.2 x hx
    simp only [hk] at this
    rw [c5_,a1_,g4_,g4_,g4_] at this
    exact this
theorem chkD_LC {es:List (List ae_)} {fin:Nat→Bool} {D:List Int} (hes:es.length=D.length) (h:chkD es fin D=true):LC es fin D:=by
  refine ⟨fun i v hv=>(chkD_at h hv).1,fun i v hv => ?_,fun i k hk => ?_,fun i l x k hl hx hat => ?_⟩
  · rw [← (chkD_at h hv).2.1,f5_]
  · obtain ⟨_,_,l,hl,h1,_⟩:=chkD_at h hk
    rcases h1 with h1 | ⟨x,hx,e⟩
    · omega
    · refine ⟨l,x,hl,hx,?_⟩
      rw [e]
      congr 1
      omega
  · obtain ⟨v,hv⟩:=bb_ (l:=D) (i:=i) (by have:=am_ hl; omega)
    obtain ⟨_,_,l',hl',_,h2⟩:=chkD_at h hv
    rw [hl] at hl'
    obtain rfl:=a6_ hl'
    rcases h2 x hx k hat with h3 | h3
    · omega
    · exact ⟨v,hv,h3⟩
theorem chk_g0:chkD G0.2 (tc_ g0 G0.1) D0=true:=by kernel_rfl
theorem Solve_g0:fo_ g0=some ([(0,(4,0)),(0,(2,0)),(0,(4,1))],(0,())):=by
  obtain ⟨D,h⟩:=prove_Solve SmG_g0
  rw [exG_g0] at h
  rcases h with ⟨h,_⟩ | ⟨_,h1,h2,h3⟩
  · exact absurd rfl h
  · have hD:D=D0:=LC_uniq h2 (chkD_LC rfl chk_g0) h1
    have e:((cond (decide (gi D0 0<0)) ([],(50,())) (shp G0.2 D0 (gi D0 0).toNat 0,(0,()))):List ag_×(Int×Unit))=([(0,(4,0)),(0,(2,0)),(0,(4,1))],(0,())):=by kernel_rfl
    rw [h3,hD]
    exact congrArg some e
theorem vw_:he_=some (true,()):=by
  unfold he_
  refine d8_ (congrArg (fun o=>Option.bind o _) Solve_g0) ?_
  kernel_rfl
end
section
set_option maxRecDepth 10000
def misL (q:Nat→Bool) (N:Nat):List Int:=((List.range N).filter fun n=>!(q n)).map fun n:Nat=>(n:Int)
theorem misL_succ (q:Nat→Bool) (i:Nat):misL q (i+1)=cond (q i) (misL q i) (misL q i++[(i:Int)]):=by
  unfold misL
  rw [List.range_succ,l4_,i6_]
  cases hq:q i with
  | true=>simp [hq]
  | false=>simp [hq]
theorem uf_ (q:Nat→Bool) (N:Nat):(misL q N).length≤N:=by
  unfold misL
  rw [c9_]
  exact c3_ (i7_ _ _) (by rw [g9_]; exact c4_ _)
theorem up_ {υ:Type} (q:Nat→Bool) (N:Nat) (hN:N≤1000000) {body:(List Int×(Int×Unit))→Option ((List Int×(Int×Unit))⊕(List Int×Unit))} {K:(List Int×Unit)→Option υ} {x:Option υ}
    (h:∀ (i:Nat) acc,i<N→acc.length≤i→body (acc,((i:Int),()))=some (.inl (cond (q i) acc (acc++[(i:Int)]),(w64 ((i:Int)+1),())))) (e:∀ acc,body (acc,((N:Int),()))=some (.inr (acc,()))) (hk:K (misL q N,())=x):(af_ body ([],(0,()))).bind K=x:=by
  refine hh_ N (fun i=>(misL q i,((i:Int),()))) rfl (fun i hi => ?_) (e _) hk
  rw [h i _ hi (uf_ q i),misL_succ,ay_ (show Sm i by show _≤1000000000; omega)]
theorem rj_ {α:Type} {l:List α} {j:Nat} {x:α} (p:α→Bool) (hx:l[j]?=some x):(l.take (j+1)).any p=((l.take j).any p||p x):=by
  rw [d2_,hx]
  simp
def sb_ (kind:Int) (n:Nat) (x:ae_):Bool:=x.1.2.1==kind&&x.1.2.2==(n:Int)
theorem prove_does (x:ae_) (kind:Int) (n:Nat):gs_ x kind (n:Int)=some (sb_ kind n x,()):=by
  unfold gs_ sb_
  cases x.1.2.1==kind <;> rfl
def qE (es:List (List ae_)) (kind:Int) (n:Nat):Bool:=es.any fun row=>row.any (sb_ kind n)
def qN (ps:List aa_) (n:Nat):Bool:=ps.any fun p=>(p.2[n]?).getD false
noncomputable def idlR (g:ac_):List Int×(List Int×(List Int×(Int×Unit))) :=
  cond ((exG g).2.1 != 0) ([],([],([],((exG g).2.1,())))) (misL (qE (exG g).1.2 4) g.1.2.2.2.2.1.length,(misL (qE (exG g).1.2 2) g.1.2.2.1.length,(misL (qN (exG g).1.1) g.2.2.2.1.length,(0,()))))
theorem gm_sz {g:ac_} (h0:cg_ g=0):g.1.2.2.2.2.1.length≤24∧g.1.2.2.1.length≤24∧g.2.2.2.1.length≤16:=by
  have ok:=cw_ h0
  have h1:=cnt_le (bl_ ok.room) 4
  have h2:=cnt_le (bl_ ok.room) 2
  exact ⟨h1,h2,ok.n16⟩
theorem has_loop (es:List (List ae_)) (he:es.length≤3000) (hl:∀ l ∈ es,l.length≤480) (kind:Int) (n:Nat):((af_ (ρ:=(Unit⊕(Bool×Unit))) (fun (v13:(Int×Unit)) =>
 (cond (decide (v13.1<(es.length:Int)))
 ((at? es v13.1).bind fun v14 =>
 ((((af_ (ρ:=(Unit⊕(Bool×Unit))) (fun (v15:(Int×Unit)) =>
 (cond (decide (v15.1<(v14.length:Int)))
 ((at? v14 v15.1).bind fun v16 =>
 ((gs_ v16 kind (n:Int)).bind fun v17 =>
 (cond v17.1
 (some (Sum.inr (Sum.inr ((decide (0≤v15.1)),()))))
 (some (Sum.inl ((w64 (v15.1+1)),()))))))
 (some (Sum.inr (Sum.inl ()))))) (0,())).bind fun v18 =>
 (ca_ v18 (fun v19=>(some ((decide (0≤(-1))),())))
 (fun v20=>(some v20))))).bind fun v21 =>
 (cond v21.1
 (some (Sum.inr (Sum.inr ((decide (0≤v13.1)),()))))
 (some (Sum.inl ((w64 (v13.1+1)),()))))))
 (some (Sum.inr (Sum.inl ()))))) (0,())).bind fun v22 =>
 (ca_ v22 (fun v23=>(some ((decide (0≤(-1))),())))
 (fun v24=>(some v24))))=some (qE es kind n,()):=by
  unfold qE
  refine lf_ (l:=es) (show es.length≤1000000000 by omega) (fun row:List ae_=>row.any (sb_ kind n)) (fun i row hi => ?_) (by simp only [dnl,a2_])
  have hr:=hl row (ax_ hi)
  simp only [dlt (am_ hi),a4_,ah_ hi,a0_]
  refine d8_ (congrArg (fun o=>Option.bind o _) (lf_ (l:=row) (show row.length≤1000000000 by omega) (sb_ kind n) (fun j x hj => ?_) (by simp only [dnl,a2_]))) ?_
  · simp only [dlt (am_ hj),a4_,ah_ hj,a0_,prove_does]
    cases sb_ kind n x <;> rfl
  · rw [a0_]
    cases row.any (sb_ kind n) <;> rfl
theorem ue_ {acc:List Int} {i:Nat} (h:acc.length≤i) (hi:i≤1000000) (q:Bool) :
    ((cond (!q) ((push? (α:=Int) acc [(i:Int)]).bind fun v9=>(some (v9,()))) (some (acc,()))).bind fun v10=>(some (Sum.inl (v10.1,((w64 ((i:Int)+1)),()))):Option ((List Int×(Int×Unit))⊕(List Int×Unit))))=some (.inl (cond q acc (acc++[(i:Int)]),(w64 ((i:Int)+1),()))):=by
  rw [cd_ (show Sm acc.length by show _≤1000000000; omega)]
  cases q <;> rfl
theorem prove_Idle {g:ac_} (hg:SmG g):ky_ g=some (idlR g):=by
  unfold ky_ idlR
  rw [qq_ hg,a0_]
  cases hE:(exG g).2.1 != 0 with
  | true=>rfl
  | false =>
  have hG:=exG_Gr hg (show (exG g).2.1=0 by simpa using hE)
  obtain ⟨s1,s2,s3⟩:=gm_sz hG.h0
  have hn:=hG.n
  have hl:=hG.len
  simp only [a2_]
  refine up_ (qN (exG g).1.1) g.2.2.2.1.length (by omega) (fun i acc hi ha => ?_) (fun acc=>by simp only [dnl,a2_]) ?_
  · simp only [dlt hi,a4_]
    refine d8_ ?_ (ue_ ha (by omega) (qN (exG g).1.1 i))
    refine congrArg (fun o=>Option.bind o _) ?_
    refine d8_ (congrArg (fun o=>Option.bind o _) (lf_ (l:=(exG g).1.1) (show (exG g).1.1.length≤1000000000 by omega) (fun p:aa_=>(p.2[i]?).getD false) (fun j p hj => ?_) (by simp only [dnl,a2_]))) ?_
    · have hv:=hG.gI.pI.v p (ax_ hj)
      obtain ⟨b,hb⟩:=bb_ (l:=p.2) (i:=i) (by rw [hv.rd]; exact hi)
      simp only [dlt (am_ hj),a4_,ah_ hj,ah_ hb,a0_,hb,f3_]
      cases b <;> rfl
    · rfl
  refine up_ (qE (exG g).1.2 4) g.1.2.2.2.2.1.length (by omega) (fun i acc hi ha => ?_) (fun acc=>by simp only [dnl,a2_]) ?_
  · simp only [dlt hi,a4_]
    refine d8_ ?_ (ue_ ha (by omega) (qE (exG g).1.2 4 i))
    refine congrArg (fun o=>Option.bind o _) ?_
    exact congrArg (fun o=>Option.bind o _) (has_loop (exG g).1.2 (by omega) hG.gI.eL 4 i)
  refine up_ (qE (exG g).1.2 2) g.1.2.2.1.length (by omega) (fun i acc hi ha => ?_) (fun acc=>by simp only [dnl,a2_]) ?_
  · simp only [dlt hi,a4_]
    refine d8_ ?_ (ue_ ha (by omega) (qE (exG g).1.2 2 i))
    refine congrArg (fun o=>Option.bind o _) ?_
    exact congrArg (fun o=>Option.bind o _) (has_loop (exG g).1.2 (by omega) hG.gI.eL 2 i)
  rfl
def tb (f:Nat→Bool) (A:Nat):List Bool:=(List.range A).map f
theorem ux_ (f:Nat→Bool) (A:Nat):(tb f A).length=A:=by unfold tb; rw [c9_,g9_]
theorem xu_ {f:Nat→Bool} {A n:Nat} (h:n<A):(tb f A)[n]?=some (f n):=by
  unfold tb
  rw [d7_,l1_ h]
  rfl
theorem ej_ {f h:Nat→Bool} {A:Nat} (e:∀ n,n<A→f n=h n):tb f A=tb h A:=by
  unfold tb
  exact l0_ fun n hn=>e n (by simpa using hn)
theorem tb_set {f:Nat→Bool} {A n:Nat} (b:Bool) (h:n<A):(tb f A).set n b=tb (fun m=>cond (decide (m=n)) b (f m)) A:=by
  refine f0_ fun j => ?_
  by_cases hj:j<A
  · rw [xu_ hj]
    by_cases e:n=j
    · subst e
      rw [e7_ (by rw [ux_]; exact h),b2_ rfl]
      rfl
    · rw [b9_ e,xu_ hj,b7_ (fun k=>e k.symm)]
      rfl
  · rw [b1_ (by rw [g1_,ux_]; omega),b1_ (by rw [ux_]; omega)]
theorem tb_rep (A:Nat):List.replicate A false=tb (fun _=>false) A:=by
  refine f0_ fun j => ?_
  by_cases hj:j<A
  · rw [xu_ hj,i1_,if_pos hj]
  · rw [b1_ (by rw [f1_]; omega),b1_ (by rw [ux_]; omega)]
theorem mf_ {f:Nat→Bool} {A:Nat} (hA:A≤1000000):dt_ (tb f A)=some (misL f A,()):=by
  unfold dt_
  rw [ux_]
  refine up_ f A hA (fun i acc hi ha => ?_) (fun acc=>by simp only [dnl,a2_]) rfl
  simp only [dlt hi,a4_,ah_ (xu_ hi),a0_]
  exact ue_ ha (by omega) (f i)
theorem pmv_in {g:ac_} {p:aa_} {m:ag_} (hm:m ∈ pmv g p):(m.2.1=4→∃ n:Nat,m.2.2=(n:Int)∧n<g.1.2.2.2.2.1.length)∧(m.2.1=2→∃ n:Nat,m.2.2=(n:Int)∧n<g.1.2.2.1.length):=by
  unfold pmv at hm
  have h:=lmv_mem (c8_.1 hm).1
  unfold lgl at h
  rw [a1_] at h
  have h:=h.2
  refine ⟨fun hk => ?_,fun hk => ?_⟩
  · rw [hk] at h
    simp only [show ((4:Int)==1)=false from rfl,show ((4:Int)==2)=false from rfl,show ((4:Int)==3)=false from rfl,show ((4:Int)==4)=true from rfl,a2_,a4_] at h
    cases ha:at? g.1.2.2.2.2.1 m.2.2 with
    | none=>rw [ha] at h; cases h
    | some a =>
      obtain ⟨n,h1,h2⟩:=ri_ ha
      exact ⟨n,h1,am_ h2⟩
  · rw [hk] at h
    simp only [show ((2:Int)==1)=false from rfl,show ((2:Int)==2)=true from rfl,a2_,a4_] at h
    cases ha:at? g.1.2.2.1 m.2.2 with
    | none=>rw [ha] at h; cases h
    | some a =>
      obtain ⟨n,h1,h2⟩:=ri_ ha
      exact ⟨n,h1,am_ h2⟩
theorem has_step {f:Nat→Bool} {A:Nat} {x:ae_} {kind:Int} (hk:x.1.2.1=kind→∃ n:Nat,x.1.2.2=(n:Int)∧n<A) :
    (cond (x.1.2.1==kind) ((at? (tb f A) x.1.2.2).bind fun _=>(at? (tb f A) x.1.2.2).bind fun _=>some ((tb f A).set x.1.2.2.toNat true,())) (some (tb f A,())):Option (List Bool×Unit))=some (tb (fun n=>f n||sb_ kind n x) A,()):=by
  cases hx:x.1.2.1==kind with
  | false =>
    have e:tb (fun n=>f n||sb_ kind n x) A=tb f A:=ej_ fun n _=>by
      unfold sb_
      rw [hx,e0_,g0_]
    rw [e]
    rfl
  | true =>
    obtain ⟨n,h1,h2⟩:=hk (f5_.1 hx)
    rw [a4_,h1,ah_ (xu_ h2),a0_,a0_,c1_,tb_set true h2]
    refine congrArg (fun z=>some (z,())) (ej_ fun m _ => ?_)
    unfold sb_
    rw [hx,h1,c0_]
    by_cases e:m=n
    · subst e
      rw [b2_ rfl]
      simp
    · rw [b7_ e,show ((n:Int)==(m:Int))=false from beq_false_of_ne (by omega),g0_]
      rfl
theorem mk_tb {A:Nat} (hA:A≤1000000):mk? (α:=Bool) (A:Int) false=some (tb (fun _=>false) A):=by
  rw [← tb_rep]
  unfold mk?
  rw [if_pos (by omega),c1_]
def qE' (es:List (List ae_)) (kind:Int) (i:Nat) (n:Nat):Bool:=(es.take i).any fun row=>row.any (sb_ kind n)
def qN' (ps:List aa_) (i:Nat) (n:Nat):Bool:=(ps.take i).any fun p=>(p.2[n]?).getD false
theorem ref05_Idle {g:ac_} (hg:SmG g):kr_ g=some (idlR g):=by
  unfold kr_ idlR
  rw [qm_ hg,a0_]
  cases hE:(exG g).2.1 != 0 with
  | true=>rfl
  | false =>
  have hG:=exG_Gr hg (show (exG g).2.1=0 by simpa using hE)
  obtain ⟨s1,s2,s3⟩:=gm_sz hG.h0
  have hn:=hG.n
  have hl:=hG.len
  simp only [a2_]
  rw [mk_tb (by omega),a0_,mk_tb (by omega),a0_,mk_tb (by omega),a0_]
  generalize hA:g.1.2.2.2.2.1.length=A at *
  generalize hB:g.1.2.2.1.length=B at *
  generalize hC:g.2.2.2.1.length=C at *
  refine hh_ (exG g).1.1.length (fun i=>((i:Int),(tb (qE' (exG g).1.2 4 i) A,(tb (qE' (exG g).1.2 2 i) B,(tb (qN' (exG g).1.1 i) C,()))))) rfl (fun i hi => ?_) (by simp only [dnl,a2_]; rfl) ?_
  · obtain ⟨p,hp⟩:=bb_ hi
    obtain ⟨row,hr⟩:=bb_ (l:=(exG g).1.2) (i:=i) (by omega)
    obtain ⟨p',h1,h2,h3⟩:=hG.ge i row hr
    have hrl:=hG.gI.eL row (ax_ hr)
    have hv:=hG.gI.pI.v p (ax_ hp)
    simp only [dlt hi,a4_,ah_ hr,ah_ hp,a0_]
    refine hh_ row.length (fun k=>((k:Int),(tb (fun n=>qE' (exG g).1.2 4 i n||(row.take k).any (sb_ 4 n)) A,(tb (fun n=>qE' (exG g).1.2 2 i n||(row.take k).any (sb_ 2 n)) B,())))) ?_ (fun k hk => ?_) (by simp only [dnl,a2_]; rfl) ?_
    · have e1:tb (fun n=>qE' (exG g).1.2 4 i n||(row.take 0).any (sb_ 4 n)) A=tb (qE' (exG g).1.2 4 i) A:=ej_ fun n _=>by rw [i5_,List.any_nil,g0_]
      have e2:tb (fun n=>qE' (exG g).1.2 2 i n||(row.take 0).any (sb_ 2 n)) B=tb (qE' (exG g).1.2 2 i) B:=ej_ fun n _=>by rw [i5_,List.any_nil,g0_]
      simp only [e1,e2]
      rfl
    · obtain ⟨x,hx⟩:=bb_ hk
      have hm:x.1 ∈ pmv g p':=by rw [← h2]; exact d9_.2 ⟨x,ax_ hx,rfl⟩
      obtain ⟨m4,m2⟩:=pmv_in hm
      rw [hA] at m4
      rw [hB] at m2
      have g4:=has_step (f:=fun n=>qE' (exG g).1.2 4 i n||(row.take k).any (sb_ 4 n)) m4
      have g2:=has_step (f:=fun n=>qE' (exG g).1.2 2 i n||(row.take k).any (sb_ 2 n)) m2
      simp only [dlt hk,a4_,ah_ hx,a0_]
      rw [g4,a0_]
      have e4:tb (fun n=>(qE' (exG g).1.2 4 i n||(row.take k).any (sb_ 4 n))||sb_ 4 n x) A=tb (fun n=>qE' (exG g).1.2 4 i n||(row.take (k+1)).any (sb_ 4 n)) A:=ej_ fun n _=>by rw [rj_ _ hx,Bool.or_assoc]
      have e2:tb (fun n=>(qE' (exG g).1.2 2 i n||(row.take k).any (sb_ 2 n))||sb_ 2 n x) B=tb (fun n=>qE' (exG g).1.2 2 i n||(row.take (k+1)).any (sb_ 2 n)) B:=ej_ fun n _=>by rw [rj_ _ hx,Bool.or_assoc]
      rw [e4]
      rw [e2] at g2
      rw [ay_ (show Sm k by show _≤1000000000; omega)]
      revert g2
      cases x.1.2.1==2 with
      | false =>
        simp only [a2_]
        intro g2
        have g2:=congrArg Prod.fst (a6_ g2)
        simp only at g2
        rw [a0_,g2]
      | true =>
        simp only [a4_]
        intro g2
        cases ha:at? (tb (fun n=>qE' (exG g).1.2 2 i n||(row.take k).any (sb_ 2 n)) B) x.1.2.2 with
        | none=>rw [ha] at g2; cases g2
        | some z =>
          rw [ha] at g2
          have g2:=congrArg Prod.fst (a6_ g2)
          simp only at g2
          simp only [a0_,g2]
    · refine hh_ C (fun k=>((k:Int),(tb (fun n=>qN' (exG g).1.1 i n||(decide (n<k)&&(p.2[n]?).getD false)) C,()))) ?_ (fun k hk => ?_) (by simp only [ux_,dnl,a2_]; rfl) ?_
      · have e1:tb (fun n=>qN' (exG g).1.1 i n||(decide (n<0)&&(p.2[n]?).getD false)) C=tb (qN' (exG g).1.1 i) C:=ej_ fun n _=>by
          rw [b7_ (by omega),e0_,g0_]
        simp only [e1]
        rfl
      · obtain ⟨b,hb⟩:=bb_ (l:=p.2) (i:=k) (by rw [hv.rd,hC]; exact hk)
        have hcur:=xu_ (f:=fun n=>qN' (exG g).1.1 i n||(decide (n<k)&&(p.2[n]?).getD false)) hk
        simp only [ux_,dlt hk,a4_,ah_ hcur,ah_ hb,a0_,c1_,ay_ (show Sm k by show _≤1000000000; omega)]
        have fin:∀ v:Bool,(qN' (exG g).1.1 i k||b)=v→(tb (fun n=>qN' (exG g).1.1 i n||(decide (n<k)&&(p.2[n]?).getD false)) C).set k v=tb (fun n=>qN' (exG g).1.1 i n||(decide (n<k+1)&&(p.2[n]?).getD false)) C:=fun v hv'=>by
          rw [tb_set v hk]
          refine ej_ fun n _ => ?_
          by_cases e:n=k
          · subst e
            rw [b2_ rfl,a4_,hb,← hv',b2_ (show n<n+1 by omega),c0_]
            rfl
          · rw [b7_ e,a2_]
            by_cases h:n<k
            · rw [b2_ h,b2_ (show n<k+1 by omega)]
            · rw [b7_ h,b7_ (show ¬ n<k+1 by omega)]
        rw [b7_ (show ¬ k<k by omega),e0_,g0_]
        cases hq:qN' (exG g).1.1 i k with
        | true =>
          simp only [a4_,a0_]
          rw [fin true (by rw [hq]; rfl)]
        | false =>
          simp only [a2_,a0_]
          rw [fin b (by rw [hq]; rfl)]
      · have e4:tb (fun n=>qE' (exG g).1.2 4 i n||(row.take row.length).any (sb_ 4 n)) A=tb (qE' (exG g).1.2 4 (i+1)) A:=ej_ fun n _=>by
          unfold qE'
          rw [rj_ _ hr,d1_]
        have e2:tb (fun n=>qE' (exG g).1.2 2 i n||(row.take row.length).any (sb_ 2 n)) B=tb (qE' (exG g).1.2 2 (i+1)) B:=ej_ fun n _=>by
          unfold qE'
          rw [rj_ _ hr,d1_]
        have e3:tb (fun n=>qN' (exG g).1.1 i n||(decide (n<C)&&(p.2[n]?).getD false)) C=tb (qN' (exG g).1.1 (i+1)) C:=ej_ fun n hn=>by
          unfold qN'
          rw [rj_ _ hp,b2_ hn,c0_]
        simp only [e4,e2,e3,ay_ (show Sm i by show _≤1000000000; omega)]
  · have e1:tb (qE' (exG g).1.2 4 (exG g).1.1.length) A=tb (qE (exG g).1.2 4) A:=ej_ fun n _=>by unfold qE' qE; rw [← hl,d1_]
    have e2:tb (qE' (exG g).1.2 2 (exG g).1.1.length) B=tb (qE (exG g).1.2 2) B:=ej_ fun n _=>by unfold qE' qE; rw [← hl,d1_]
    have e3:tb (qN' (exG g).1.1 (exG g).1.1.length) C=tb (qN (exG g).1.1) C:=ej_ fun n _=>by unfold qN' qN; rw [d1_]
    simp only [e1,e2,e3,mf_ (f:=qE (exG g).1.2 4) (show A≤1000000 by omega),mf_ (f:=qE (exG g).1.2 2) (show B≤1000000 by omega),mf_ (f:=qN (exG g).1.1) (show C≤1000000 by omega),a0_]
theorem law05_ProveIdle (g:ac_):hs_ g=some (true,()):=by
  obtain ⟨b,e,hb⟩:=law05_Large g
  unfold hs_
  rw [e,a0_]
  cases b with
  | true=>simp only [a4_,vw_,a0_]
  | false =>
  have hg:=hb rfl
  simp only [a2_]
  rw [ref04_Copy hg,a0_,prove_Idle hg,a0_,ref05_Idle hg,a0_]
  have hs:Sm (idlR g).1.length∧Sm (idlR g).2.1.length∧Sm (idlR g).2.2.1.length:=by
    unfold idlR
    cases hE:(exG g).2.1 != 0 with
    | true=>exact ⟨l5_ _,l5_ _,l5_ _⟩
    | false =>
    have hG:=exG_Gr hg (show (exG g).2.1=0 by simpa using hE)
    obtain ⟨s1,s2,s3⟩:=gm_sz hG.h0
    have l1:=uf_ (qE (exG g).1.2 4) g.1.2.2.2.2.1.length
    have l2:=uf_ (qE (exG g).1.2 2) g.1.2.2.1.length
    have l3:=uf_ (qN (exG g).1.1) g.2.2.2.1.length
    simp only [a2_]
    exact ⟨show _≤1000000000 by omega,show _≤1000000000 by omega,show _≤1000000000 by omega⟩
  obtain ⟨k1,k2,k3⟩:=hs
  rw [vc_ k1,a0_]
  simp only [a4_]
  rw [vc_ k2,a0_]
  simp only [a4_]
  rw [vc_ k3,a0_]
  simp only [a4_,d5_,vw_,a0_]
end
end Go.Proofs.YtmdlefagpcmllaaGreatDoor.Rx
