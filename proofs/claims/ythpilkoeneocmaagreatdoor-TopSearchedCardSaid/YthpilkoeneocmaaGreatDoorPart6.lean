/- A part of the proof: what the functions of the program compute, shown over the model. -/
import Derived.KernelRfl
import Derived.Test.YthpilkoeneocmaaGreatDoorPart4
import Derived.Test.YthpilkoeneocmaaGreatDoorPart5
set_option linter.unusedSectionVars false
set_option linter.unusedVariables false
set_option linter.unusedSimpArgs false
namespace Go.Proofs.YthpilkoeneocmaaGreatDoor.Rx
open Go Pad Rex Sum
section
set_option maxRecDepth 10000
theorem bn7 (n lo hi:Int):bs_ n lo hi=some (decide (lo≤n)&&decide (n≤hi),()):=by
 unfold bs_
 cases decide (lo≤n)<;>rfl
theorem bn1 {ps:List aa_} {es:List (List ad_)} {D:List Int} {m:Int×Int} {most:Int} (hv:cj_ (ps,es) D=some ((es,D),(0,()))) (hD:D.length=es.length) (hes:es.length≤300) (hpos:0<es.length) (hrl:∀ l ∈ es,l.length≤100) (hxx:∀ l ∈ es,∀ x ∈ l,0≤x.2∧x.2<(es.length:Int)) :
  fw_ (ps,es) D m most=some ([],(false,(1,())))∨∃ (trail:List Int) (e:Nat),fw_ (ps,es) D m most=some (trail,(gi D (e:Int)==0,(0,())))∧Trl es D 0 trail (e:Int)∧e<es.length∧trail.length≤2000:=by
 unfold fw_ ig_
 rw[hv,a0_]
 simp only[e5_,a2_,bn7,a0_]
 cases h1:decide (0≤m.1)&&decide (m.1≤200) with
 | false=>exact .inl rfl
 | true =>
 cases h2:decide (0≤m.2)&&decide (m.2≤99) with
 | false=>exact .inl rfl
 | true =>
 cases h3:decide (0≤most)&&decide (most≤2000) with
 | false=>exact .inl rfl
 | true =>
 rw[a1_,l6_,l6_] at h1 h2 h3
 obtain⟨t,ht⟩:∃ t:Nat,m.2=(t:Int):=⟨m.2.toNat,by omega⟩
 obtain⟨trail,e,s1,s2,s3,s4⟩:=bq7 (M:=m.1) (t:=t) (most:=most) hD hes hpos hrl hxx (by omega) h1 h3.2
 refine .inr ⟨trail,e,?_,s2,s3,s4⟩
 have hm:m=(m.1,(t:Int)):=by rw[← ht]
 simp only[e1_,a2_,a0_,e5_]
 rw[hm,s1,a0_]
theorem map_ok {g:ac_} (hg:SmG g):(∃ e,e≠0∧jp_ g=some (([],[]),([],(e,()))))∨(∃ D,(exG g).2.1=0∧jp_ g=some ((exG g).1,(D,(0,())))∧D.length=(exG g).1.1.length∧LC (exG g).1.2 (ab9 g (exG g).1.1) D∧(exG g).1.1.length≤300):=by
 obtain⟨D,e1,h1⟩:=xm_ hg
 unfold jp_
 rw[af6 hg,a0_]
 cases hE:(exG g).2.1 != 0 with
 | true=>exact .inl ⟨(exG g).2.1,by simpa using hE,rfl⟩
 | false =>
  have hz:(exG g).2.1=0:=by simpa using hE
  simp only[a2_]
  cases hc:decide (300<((exG g).1.1.length:Int)) with
  | true=>exact .inl ⟨2,by decide,rfl⟩
  | false =>
   have hc:=d1_ hc
   rcases h1 with ⟨n1,_⟩ | ⟨_,h2,h3⟩
   ·exact absurd hz n1
   ·refine .inr ⟨D,hz,?_,h2,h3,by omega⟩
    rw[e1,a0_,hz]
    rfl
end
section
set_option maxRecDepth 10000
theorem xf_ {l:List Int} (h:Sm l.length):ec_ l l=some (true,()):=by
 unfold ec_
 simp only[e5_,a2_]
 refine mt_ l.length (λi=>((i:Int),())) rfl (λi hi => ?_) (by simp only[dnl,a2_];rfl) rfl
 obtain⟨x,hx⟩:=bc_ hi
 simp only[dlt hi,a5_,ah_ hx,a0_,e5_,a2_,ba_ (show Sm i by unfold Sm at h ⊢; omega)]
end
section
set_option maxRecDepth 10000
noncomputable def pck (g:ac_) (p:aa_):Int:=cond (kc_ g.1 p.1 != 0) (kc_ g.1 p.1) (cond ((p.2.length:Int) != (g.2.2.2.1.length:Int)) 28 0)
end
section
set_option maxRecDepth 100000
theorem cj5 {p:aa_} (h:PB p):et_ p p=some (true,()):=by
 have h1:=h.n1
 have h2:=h.n2
 have h3:=h.n3
 have h4:=h.n4
 unfold et_ jc_
 simp only[xf_ (show Sm p.1.1.length by show _≤1000000000;omega),xf_ (show Sm p.1.2.1.length by show _≤1000000000;omega),xf_ (show Sm p.1.2.2.length by show _≤1000000000;omega),a0_,a5_,e5_,e1_,a2_]
 refine mt_ p.2.length (λi=>((i:Int),())) rfl (λi hi => ?_) (by simp only[dnl,a2_];rfl) rfl
 obtain⟨x,hx⟩:=bc_ hi
 simp only[dlt hi,a5_,ah_ hx,a0_,e5_,a2_,ba_ (show Sm i by show _≤1000000000;omega)]
theorem lb_ {g:ac_} (hg:SmG g) (h0:cw_ g=0) (p:aa_):de_ g p=some (pck g p,()):=by
 unfold de_ pck
 rw[rr_ hg,a0_,h0]
 simp only[show ((0:Int) != 0)=false from rfl,a2_]
 rw[ol_ hg.room,a0_]
 cases kc_ g.1 p.1 != 0 with
 | true=>rfl
 | false=>cases (p.2.length:Int) != (g.2.2.2.1.length:Int)<;>rfl
theorem cf7 {g:ac_} (h0:cw_ g=0) {p:aa_} (hv:VP g p):pck g p=0:=by
 unfold pck
 rw[gg_ (df_ h0).room hv.st,hv.rd]
 simp
theorem bz5 {g:ac_} (hg:SmG g) (h0:cw_ g=0) {p:aa_} (hv:VP g p):bk_ p.1 g.1.2.2.2.2.2.2.2=some (ea_ p.1.1 g.1.2.2.2.2.2.2.2,()):=by
 have hgo:=hg.go
 have hl1:=hv.st.l1
 obtain⟨c1,c2⟩:=vh_ hg.room.th (bt_ (df_ h0).room).go
 exact ki_ (s:=p.1) (show Sm _ by show _≤1000000000;omega) (by show InC p.1.1.length _;rw[hl1];exact c1)
end
section
set_option maxRecDepth 10000
theorem bi3 {x:br_} {D:List Int} {v:en_} {e:Int} (h:cj_ x D=some (v,(e,()))):ji_ x D=some (e,()):=by
 unfold ji_
 rw[h,a0_]
theorem bi9 {ps:List aa_} {es:List (List ad_)} (hes:es.length≤3000) (h:∃ l ∈ es,100<l.length):kk_ (ps,es)=some (true,()):=by
 unfold kk_
 refine of_ex (jz_ (I:=λ(s:Int×Unit)=>∃ i:Nat,s.1=(i:Int)∧i≤es.length∧∀ l ∈ es.take i,l.length≤100) (μ:=λs=>es.length - s.1.toNat) ⟨0,rfl,h4_ _,λl hl=>by simp at hl⟩ ?_)
 rintro⟨si,u⟩ ⟨i,rfl,hi,hA⟩
 have hi1:w64 ((i:Int)+1)=((i+1:Nat):Int):=ba_ (show i≤1000000000 by omega)
 by_cases hil:i<es.length
 ·obtain⟨row,hrow⟩:=bc_ hil
  simp only[dlt hil,a5_,ah_ hrow,a0_]
  cases hc:decide ((100:Int)<(row.length:Int)) with
  | true=>exact⟨_,rfl,.inr ⟨_,_,rfl,rfl,rfl⟩⟩
  | false =>
   have hc:=d1_ hc
   refine⟨_,rfl,.inl ⟨_,rfl,⟨i+1,hi1,hil,λl hl => ?_⟩,by show es.length - (w64 ((i:Int)+1)).toNat<es.length - ((i:Int)).toNat;rw[hi1];omega⟩⟩
   rw[sm_ hrow] at hl
   rcases b2_.1 hl with h | h
   ·exact hA l h
   ·obtain rfl:l=row:=by simpa using h
    omega
 ·obtain rfl:i=es.length:=by omega
  obtain⟨l,hl,hl2⟩:=h
  have:=hA l (by rw[d2_];exact hl)
  omega
end
section
set_option maxRecDepth 10000
theorem al3 (hc:cu_=some (true,())) (g:ac_) (m:Int×Int) (most:Int):gl_ g m most=some (true,()):=by
 obtain⟨b,e,hb⟩:=ax0 g
 unfold gl_
 rw[e,a0_]
 cases b with
 | true=>simp only[a5_,hc,a0_]
 | false =>
 simp only[a2_,a0_]
 cases h200:decide (200<most) with
 | true=>simp only[a5_,hc,a0_]
 | false =>
 have hg:=hb rfl
 simp only[a2_]
 rw[bk3 hg,a0_]
 rcases map_ok hg with ⟨er,her,hmap⟩ | ⟨D,hE,hmap,hDl,hL,h300⟩
 ·rw[hmap,a0_]
  simp only[show (er != 0)=true from by simpa using her,a5_,i2_,hc,a0_]
  rfl
 ·obtain⟨h0,hG,hes⟩:=cv8 hg hE
  obtain⟨hge,hp0,hbe⟩:=exG_GE hE
  have hpos:=exG_pos hE
  have hel:=hG.eL
  have ok:=df_ h0
  have hxx:∀ l ∈ (exG g).1.2,∀ x ∈ l,0≤x.2∧x.2<(D.length:Int):=λl hl x hx=>by rw[hDl];exact (hG.eI l hl x hx).1
  obtain⟨D',h1,hbb,_⟩:=cu5 hg h0 hG hes
  obtain rfl:D'=D:=LC_uniq h1.2 hL (by rw[h1.1,hDl])
  rw[hmap,a0_]
  simp only[e5_,a2_]
  cases h100:decide (100<((exG g).1.1.length:Int)) with
  | true=>simp only[a5_,hc,a0_]
  | false =>
  have h100':=d1_ h100
  simp only[a2_]
  have hnv:=bl3 (ps:=(exG g).1.1) (es:=(exG g).1.2) hL (λi v hv=>by have:=hbb i v hv;omega) hes hDl hpos (by omega) hel hxx
  rw[show ((exG g).1.1,(exG g).1.2)=(exG g).1 from rfl] at hnv
  rcases hnv with ⟨hv,hrl⟩ | ⟨hv,hbig⟩
  rotate_left
  ·rw[bi3 hv,a0_]
   simp only[show ((60:Int) != 0)=true from rfl,a0_,a5_]
   rw[show (exG g).1=((exG g).1.1,(exG g).1.2) from rfl,bi9 (by omega) hbig,a0_]
   simp only[a5_,hc,a0_]
  ·rw[bi3 hv,a0_]
   simp only[e5_,a0_,a2_]
   have hsa:=bn1 (ps:=(exG g).1.1) (es:=(exG g).1.2) (m:=m) (most:=most) hv (by omega) (by omega) (by omega) hrl (by rw[hes,← hDl];exact hxx)
   rw[show ((exG g).1.1,(exG g).1.2)=(exG g).1 from rfl] at hsa
   rcases hsa with hs | ⟨trail,en,hs,hT,hen,htl⟩
   ·rw[hs,a0_]
    simp only[show ((1:Int) != 0)=true from rfl,a5_,hc,a0_]
   ·rw[hs,a0_]
    simp only[e5_,a2_]
    rw[xp_ hg,a0_,hbe]
    have hv0:=hG.pI.v _ (aw_ hp0)
    rw[lb_ hg h0,cf7 h0 hv0]
    simp only[e5_,a2_,show ((D'.length:Int)==0)=false from i9_.2 (by omega),a0_]
    refine of_ex (jz_ (I:=λ(s:Int×(Int×(((List Int)×((List Int)×((List Int)×((List Bool)×Unit))))×Unit)))=>∃ (i a:Nat) (p:aa_),s=((a:Int),((i:Int),((p.1.1,(p.1.2.1,(p.1.2.2,(p.2,())))),())))∧i≤trail.length∧(exG g).1.1[a]?=some p∧Trl (exG g).1.2 D' (a:Int) (trail.drop i) (en:Int)) (μ:=λs=>trail.length - s.2.1.toNat)
     ⟨0,0,(vw_ g).1,rfl,h4_ _,hp0,hT⟩ ?_)
    rintro s ⟨i,a,p,rfl,hi,hp,hTr⟩
    have hvp:=hG.pI.v p (aw_ hp)
    have hal:=am_ hp
    by_cases hil:i<trail.length
    ·rw[j0_ hil] at hTr
     obtain⟨j,n,row,x,q,g1,g2,g3,g4,g5,g6,g7,g8⟩:=Trl.step hge hL hDl hp hTr
     have hti:at? trail (i:Int)=some (j:Int):=ah_ (by rw[a7_ hil,g1])
     have hjl:=am_ g3
     have hrl':=hel row (aw_ g2)
     have hvq:=hG.pI.v q (aw_ g5)
     have hnl:=am_ g5
     have hi1:w64 ((i:Int)+1)=((i+1:Nat):Int):=ba_ (show i≤1000000000 by omega)
     simp only[b5_ (show (i:Int)<(trail.length:Int) by omega),a5_,b6_ (show ¬ (a:Int)<0 by omega),a2_,b6_ (show ¬ ((exG g).1.2.length:Int)≤(a:Int) by omega),hti,a0_,b6_ (show ¬ (j:Int)<0 by omega),ah_ g2,b6_ (show ¬ (row.length:Int)≤(j:Int) by omega)]
     rw[show ((p.1.1,(p.1.2.1,p.1.2.2)):aj_)=p.1 from rfl,bz5 hg h0 hvp,a0_,g7]
     simp only[a0_,a2_,ah_ g3]
     rw[show ((p.1,p.2):aa_)=p from rfl,ao0 hg h0 hvp,a0_,g6]
     simp only[Option.elim_some,e5_,a2_]
     rw[lb_ hg h0,cf7 h0 hvq]
     simp only[a0_,e5_,a2_,g4,b6_ (show ¬ (n:Int)<0 by omega),b6_ (show ¬ ((exG g).1.1.length:Int)≤(n:Int) by omega),ah_ g5,cj5 (az2 hg ok hvq),e1_]
     refine⟨_,rfl,.inl ⟨_,rfl,⟨i+1,n,q,by rw[hi1],hil,g5,g8⟩,?_⟩⟩
     show trail.length - (w64 ((i:Int)+1)).toNat<trail.length - ((i:Int)).toNat
     rw[hi1]
     omega
    ·obtain rfl:i=trail.length:=by omega
     rw[o1_] at hTr
     have hea:(en:Int)=(a:Int):=hTr
     obtain rfl:en=a:=by omega
     have hend:=Trl.end hL hDl hp
     simp only[dnl,a2_]
     refine⟨_,rfl,.inr (nx_ rfl ?_)⟩
     simp only[cd_]
     rw[show ((p.1.1,(p.1.2.1,p.1.2.2)):aj_)=p.1 from rfl,bz5 hg h0 hvp,a0_,hend]
     simp only[e5_,a2_]
     cases hdone:ea_ p.1.1 g.1.2.2.2.2.2.2.2 with
     | false=>simp only[g2_,a5_,hc,a0_];exact⟨_,rfl,rfl⟩
     | true =>
      obtain⟨xs,p1,p2⟩:=Trl.pa hxx trail 0 hT
      obtain⟨k,k1,k2⟩:=LC_pa hL xs 0 en p1 (by rw[ym_ hp];exact hdone) (by omega)
      simp only[e1_,a2_,show at? D' 0=some (k:Int) from ah_ (i:=0) k1,a0_,b5_ (show (k:Int)≤(trail.length:Int) by omega),a5_,hc]
      exact⟨_,rfl,rfl⟩
end
section
set_option maxRecDepth 100000
theorem Le.cnd {α:Type} {c:Bool} {x y x' y':Option α} (h:Le x x') (k:Le y y'):Le (cond c x y) (cond c x' y'):=by cases c<;>assumption
theorem Le.sm {σ τ ρ:Type} {o:σ⊕τ} {f f':σ→Option ρ} {g g':τ→Option ρ} (h:∀ s,Le (f s) (f' s)) (k:∀ s,Le (g s) (g' s)):Le (cd_ o f g) (cd_ o f' g'):=by
 cases o with
 | inl s=>exact h s
 | inr s=>exact k s
def itC {σ ρ:Type} (body:σ→Option (σ⊕ρ)) (s:σ):Option ρ:=fq_ body 400 s
theorem Le.itC {σ ρ:Type} {f g:σ→Option (σ⊕ρ)} (h:∀ s,Le (f s) (g s)) (s:σ):Le (itC f s) (af_ g s):=Le.while_ h _ s
noncomputable def mz_ (a0:(List Int)) (a1:(List Int)):Option (Int×Int×Unit) :=
  ((itC (ρ:=(Int×((List Int)×((List Int)×Unit)))) (λ(v0:(Int×(Int×((List Int)×((List Int)×Unit))))) =>
 (cond (decide (v0.2.1<(a0.length:Int)))
 ((at? a0 v0.2.1).bind λv1 =>
 ((((at? a1 v0.2.1).bind λv2 =>
 (cond (v1==v2)
 (some ((w64 (v0.1+1)),()))
 (some (v0.1,()))))).bind λv3 =>
 (cond (decide (v1<(10:Int)))
 ((at? v0.2.2.1 v1).bind λv4 =>
 ((at? v0.2.2.1 v1).bind λv5 =>
 (cond (decide (v1<(10:Int)))
 ((at? v0.2.2.1 v1).bind λv6 =>
 ((at? v0.2.2.1 v1).bind λv7 =>
 ((at? a1 v0.2.1).bind λv8 =>
 (cond (decide (v8<(10:Int)))
 ((at? v0.2.2.2.1 v8).bind λv9 =>
 ((at? v0.2.2.2.1 v8).bind λv10 =>
 (cond (decide (v8<(10:Int)))
 ((at? v0.2.2.2.1 v8).bind λv11 =>
 ((at? v0.2.2.2.1 v8).bind λv12 =>
 (some (inl (v3.1,((w64 (v0.2.1+1)),((v0.2.2.1.set v1.toNat (w64 (v5+1))),((v0.2.2.2.1.set v8.toNat (w64 (v10+1))),()))))))))
 none)))
 none))))
 none)))
 none)))
 (some (inr (v0.1,(v0.2.2.1,(v0.2.2.2.1,()))))))) (0,(0,([0,0,0,0,0,0,0,0,0,0],([0,0,0,0,0,0,0,0,0,0],()))))).bind λv13 =>
 ((itC (ρ:=(Int×Unit)) (λ(v14:(Int×(Int×Unit))) =>
 (cond (decide (v14.2.1<10))
 (cond (decide (v14.2.1<(10:Int)))
 ((at? v13.2.1 v14.2.1).bind λv15 =>
 ((at? v13.2.1 v14.2.1).bind λv16 =>
 (cond (decide (v14.2.1<(10:Int)))
 ((at? v13.2.2.1 v14.2.1).bind λv17 =>
 ((at? v13.2.2.1 v14.2.1).bind λv18 =>
 (some (inl ((w64 (v14.1+(bl5 v16 v18))),((w64 (v14.2.1+1)),()))))))
 none)))
 none)
 (some (inr (v14.1,()))))) (0,(0,()))).bind λv19 =>
 (some (v13.1,((w64 (v19.1 - v13.1)),())))))
theorem uq_ (a0:(List Int)) (a1:(List Int)):Le (mz_ a0 a1) (fi_ a0 a1):=by
 unfold mz_ fi_
 repeat' first | with_reducible exact Le.refl _ | (with_reducible apply Le.bind) | (with_reducible apply Le.cnd) | (with_reducible apply Le.sm) | (with_reducible apply Le.itC) | intro
noncomputable def oh_ (a0:ak_) (a1:(List Int)):Option (Bool×Unit) :=
  (cond (a0.1==1)
 ((at? a1 a0.2.1).bind λv0 =>
 (some ((v0==a0.2.2.2.1),())))
 (cond (a0.1==2)
 ((sub? a1 a0.2.1 (w64 (a0.2.2.1+1))).bind λv1 =>
 ((itC (ρ:=(Int×Unit)) (λ(v2:(Int×(Int×Unit))) =>
 (cond (decide (v2.2.1<(v1.length:Int)))
 ((at? v1 v2.2.1).bind λv3 =>
 (some (inl ((w64 (v2.1+v3)),((w64 (v2.2.1+1)),())))))
 (some (inr (v2.1,()))))) (0,(0,()))).bind λv4 =>
 (some ((v4.1==a0.2.2.2.1),()))))
 (cond (a0.1==3)
 ((at? a1 a0.2.1).bind λv5 =>
 ((at? a1 a0.2.2.1).bind λv6 =>
 (some ((decide (v5<v6)),()))))
 (cond (a0.1==4)
 ((at? a1 a0.2.1).bind λv7 =>
 ((at? a1 a0.2.2.1).bind λv8 =>
 (some ((v7==v8),()))))
 (cond (a0.1==5)
 ((itC (ρ:=(Int×Unit)) (λ(v9:(Int×(Int×Unit))) =>
 (cond (decide (v9.2.1<(a1.length:Int)))
 ((((at? a1 v9.2.1).bind λv10 =>
 (cond (v10==a0.2.2.2.1)
 (some ((w64 (v9.1+1)),()))
 (some (v9.1,()))))).bind λv11 =>
 (some (inl (v11.1,((w64 (v9.2.1+1)),())))))
 (some (inr (v9.1,()))))) (0,(0,()))).bind λv12 =>
 (some ((v12.1==a0.2.2.2.2.1),())))
 (cond (a0.1==6)
 ((mz_ a1 a0.2.2.2.2.2.1).bind λv13 =>
 (cond (v13.1==a0.2.2.2.1)
 (some ((v13.2.1==a0.2.2.2.2.1),()))
 (some (false,()))))
 ((at? a1 a0.2.1).bind λv14 =>
 ((md v14 a0.2.2.2.1).bind λv15 =>
 (some ((v15==a0.2.2.2.2.1),()))))))))))
theorem vr_ (a0:ak_) (a1:(List Int)):Le (oh_ a0 a1) (ik_ a0 a1):=by
 unfold oh_ ik_
 repeat' first | with_reducible exact Le.refl _ | (with_reducible apply Le.bind) | (with_reducible apply Le.cnd) | (with_reducible apply Le.sm) | (with_reducible apply Le.itC) | (with_reducible apply uq_) | intro
noncomputable def je_ (a0:ab_) (a1:(List Int)):Option (Bool×Unit) :=
  (cond ((a1.length:Int)==a0.1)
 ((((itC (ρ:=(Unit⊕(Bool×Unit))) (λ(v0:(Int×Unit)) =>
 (cond (decide (v0.1<(a1.length:Int)))
 ((at? a1 v0.1).bind λv1 =>
 ((bq_ a0 v1).bind λv2 =>
 (cond (!v2.1)
 (some (inr (inr ((decide (0≤v0.1)),()))))
 (some (inl ((w64 (v0.1+1)),()))))))
 (some (inr (inl ()))))) (0,())).bind λv3 =>
 (cd_ v3 (λv4=>(some ((decide (0≤(-1))),())))
 (λv5=>(some v5))))).bind λv6 =>
 (some ((!v6.1),())))
 (some (false,())))
theorem rh_ (a0:ab_) (a1:(List Int)):Le (je_ a0 a1) (co_ a0 a1):=by
 unfold je_ co_
 repeat' first | with_reducible exact Le.refl _ | (with_reducible apply Le.bind) | (with_reducible apply Le.cnd) | (with_reducible apply Le.sm) | (with_reducible apply Le.itC) | intro
noncomputable def oi_ (a0:ak_) (a1:(List Int)):Option (Bool×Unit) :=
  ((oh_ a0 a1).bind λv0 =>
 (some ((v0.1 != a0.2.2.2.2.2.2),())))
theorem vt_ (a0:ak_) (a1:(List Int)):Le (oi_ a0 a1) (ek_ a0 a1):=by
 unfold oi_ ek_
 repeat' first | with_reducible exact Le.refl _ | (with_reducible apply Le.bind) | (with_reducible apply Le.cnd) | (with_reducible apply Le.sm) | (with_reducible apply Le.itC) | (with_reducible apply vr_) | intro
noncomputable def jf_ (a0:ab_) (a1:ak_):Option (Bool×Unit) :=
  (((cond (a1.1==1)
 ((az_ a0 a1.2.1).bind λv0 =>
 (cond v0.1
 ((bq_ a0 a1.2.2.2.1).bind λv1 =>
 (some (v1.1,((a1.2.1,(0,(a1.2.2.2.1,(0,([],()))))),()))))
 (some (false,((a1.2.1,(0,(a1.2.2.2.1,(0,([],()))))),())))))
 (cond (a1.1==2)
 ((az_ a0 a1.2.1).bind λv2 =>
 (cond v2.1
 ((az_ a0 a1.2.2.1).bind λv3 =>
 (cond v3.1
 (cond (decide (a1.2.1≤a1.2.2.1))
 ((bg_ a1.2.2.2.1 0 100).bind λv4 =>
 (some (v4.1,((a1.2.1,(a1.2.2.1,(a1.2.2.2.1,(0,([],()))))),()))))
 (some (false,((a1.2.1,(a1.2.2.1,(a1.2.2.2.1,(0,([],()))))),()))))
 (some (false,((a1.2.1,(a1.2.2.1,(a1.2.2.2.1,(0,([],()))))),())))))
 (some (false,((a1.2.1,(a1.2.2.1,(a1.2.2.2.1,(0,([],()))))),())))))
 (((cond (a1.1==3)
 (some ((a1.1==3),()))
 (some ((a1.1==4),())))).bind λv5 =>
 (cond v5.1
 ((az_ a0 a1.2.1).bind λv6 =>
 (cond v6.1
 ((az_ a0 a1.2.2.1).bind λv7 =>
 (cond v7.1
 (some ((a1.2.1 != a1.2.2.1),((a1.2.1,(a1.2.2.1,(0,(0,([],()))))),())))
 (some (false,((a1.2.1,(a1.2.2.1,(0,(0,([],()))))),())))))
 (some (false,((a1.2.1,(a1.2.2.1,(0,(0,([],()))))),())))))
 (cond (a1.1==5)
 ((bq_ a0 a1.2.2.2.1).bind λv8 =>
 (cond v8.1
 ((bg_ a1.2.2.2.2.1 0 a0.1).bind λv9 =>
 (some (v9.1,((0,(0,(a1.2.2.2.1,(a1.2.2.2.2.1,([],()))))),()))))
 (some (false,((0,(0,(a1.2.2.2.1,(a1.2.2.2.2.1,([],()))))),())))))
 (cond (a1.1==6)
 ((bg_ a1.2.2.2.1 0 a0.1).bind λv10 =>
 (cond v10.1
 ((bg_ a1.2.2.2.2.1 0 a0.1).bind λv11 =>
 (cond v11.1
 ((je_ a0 a1.2.2.2.2.2.1).bind λv12 =>
 (some (v12.1,((0,(0,(a1.2.2.2.1,(a1.2.2.2.2.1,(a1.2.2.2.2.2.1,()))))),()))))
 (some (false,((0,(0,(a1.2.2.2.1,(a1.2.2.2.2.1,(a1.2.2.2.2.2.1,()))))),())))))
 (some (false,((0,(0,(a1.2.2.2.1,(a1.2.2.2.2.1,(a1.2.2.2.2.2.1,()))))),())))))
 (cond (a1.1==7)
 ((az_ a0 a1.2.1).bind λv13 =>
 (cond v13.1
 ((bg_ a1.2.2.2.1 2 10).bind λv14 =>
 (cond v14.1
 ((bg_ a1.2.2.2.2.1 0 (w64 (a1.2.2.2.1 - 1))).bind λv15 =>
 (some (v15.1,((a1.2.1,(0,(a1.2.2.2.1,(a1.2.2.2.2.1,([],()))))),()))))
 (some (false,((a1.2.1,(0,(a1.2.2.2.1,(a1.2.2.2.2.1,([],()))))),())))))
 (some (false,((a1.2.1,(0,(a1.2.2.2.1,(a1.2.2.2.2.1,([],()))))),())))))
 (some (false,((0,(0,(0,(0,([],()))))),()))))))))))).bind λv16 =>
 (cond v16.1
 (cond (a1.2.1==v16.2.1.1)
 (cond (a1.2.2.1==v16.2.1.2.1)
 (cond (a1.2.2.2.1==v16.2.1.2.2.1)
 (cond (a1.2.2.2.2.1==v16.2.1.2.2.2.1)
 (some (((a1.2.2.2.2.2.1.length:Int)==(v16.2.1.2.2.2.2.1.length:Int)),()))
 (some (false,())))
 (some (false,())))
 (some (false,())))
 (some (false,())))
 (some (false,()))))
theorem ri_ (a0:ab_) (a1:ak_):Le (jf_ a0 a1) (cp_ a0 a1):=by
 unfold jf_ cp_
 repeat' first | with_reducible exact Le.refl _ | (with_reducible apply Le.bind) | (with_reducible apply Le.cnd) | (with_reducible apply Le.sm) | (with_reducible apply Le.itC) | (with_reducible apply rh_) | intro
noncomputable def oj_ (a0:(List ak_)) (a1:(List Int)):Option (Int×Unit) :=
  ((itC (ρ:=(Unit⊕(Int×Unit))) (λ(v0:(Int×Unit)) =>
 (cond (decide (v0.1<(a0.length:Int)))
 ((at? a0 v0.1).bind λv1 =>
 ((oi_ v1 a1).bind λv2 =>
 (cond (!v2.1)
 (some (inr (inr (v0.1,()))))
 (some (inl ((w64 (v0.1+1)),()))))))
 (some (inr (inl ()))))) (0,())).bind λv3 =>
 (cd_ v3 (λv4=>(some ((-1),())))
 (λv5=>(some v5))))
theorem vu_ (a0:(List ak_)) (a1:(List Int)):Le (oj_ a0 a1) (el_ a0 a1):=by
 unfold oj_ el_
 repeat' first | with_reducible exact Le.refl _ | (with_reducible apply Le.bind) | (with_reducible apply Le.cnd) | (with_reducible apply Le.sm) | (with_reducible apply Le.itC) | (with_reducible apply vt_) | intro
noncomputable def iq_ (a0:ab_) (a1:(List ak_)):Option (Int×Unit) :=
  ((em_ a0).bind λv0 =>
 (cond (v0.1 != 0)
 (some (v0.1,()))
 (cond (decide (20<(a1.length:Int)))
 (some (2,()))
 ((((itC (ρ:=(Unit⊕(Bool×Unit))) (λ(v1:(Int×Unit)) =>
 (cond (decide (v1.1<(a1.length:Int)))
 ((at? a1 v1.1).bind λv2 =>
 ((jf_ a0 v2).bind λv3 =>
 (cond (!v3.1)
 (some (inr (inr ((decide (0≤v1.1)),()))))
 (some (inl ((w64 (v1.1+1)),()))))))
 (some (inr (inl ()))))) (0,())).bind λv4 =>
 (cd_ v4 (λv5=>(some ((decide (0≤(-1))),())))
 (λv6=>(some v6))))).bind λv7 =>
 (cond v7.1
 (some (11,()))
 (some (0,())))))))
theorem pv_ (a0:ab_) (a1:(List ak_)):Le (iq_ a0 a1) (dl_ a0 a1):=by
 unfold iq_ dl_
 repeat' first | with_reducible exact Le.refl _ | (with_reducible apply Le.bind) | (with_reducible apply Le.cnd) | (with_reducible apply Le.sm) | (with_reducible apply Le.itC) | (with_reducible apply ri_) | intro
noncomputable def ip_ (a0:ab_) (a1:(List ak_)):Option (Int×Unit) :=
  ((mk? (α:=Int) a0.1 0).bind λv0 =>
 ((itC (ρ:=((Unit×(Unit×((List Int)×((Int×Unit)×Unit))))⊕(Int×Unit))) (λ(v1:(Unit×(Unit×((List Int)×((Int×Unit)×Unit))))) =>
 ((oj_ a1 v1.2.2.1).bind λv2 =>
 (cond (decide (v2.1<0))
 ((itC (ρ:=(Int×((List Int)×Unit))) (λ(v3:(Int×((List Int)×Unit))) =>
 (((cond (decide (0≤v3.1))
 ((at? v3.2.1 v3.1).bind λv4 =>
 ((at? v3.2.1 v3.1).bind λv5 =>
 (some ((v5==(w64 (a0.2 - 1))),()))))
 (some (false,())))).bind λv6 =>
 (cond v6.1
 ((at? v3.2.1 v3.1).bind λv7 =>
 ((at? v3.2.1 v3.1).bind λv8 =>
 (some (inl ((w64 (v3.1 - 1)),((v3.2.1.set v3.1.toNat 0),()))))))
 (some (inr (v3.1,(v3.2.1,()))))))) ((w64 (a0.1 - 1)),(v1.2.2.1,()))).bind λv9 =>
 (cond (decide (v9.1<0))
 (some (inr (inr ((w64 (v1.2.2.2.1.1+1)),()))))
 ((at? v9.2.1 v9.1).bind λv10 =>
 ((at? v9.2.1 v9.1).bind λv11 =>
 ((at? v9.2.1 v9.1).bind λv12 =>
 ((at? v9.2.1 v9.1).bind λv13 =>
 (some (inl ((),((),((v9.2.1.set v9.1.toNat (w64 (v11+1))),(((w64 (v1.2.2.2.1.1+1)),()),()))))))))))))
 ((itC (ρ:=(Int×((List Int)×Unit))) (λ(v14:(Int×((List Int)×Unit))) =>
 (((cond (decide (0≤v14.1))
 ((at? v14.2.1 v14.1).bind λv15 =>
 ((at? v14.2.1 v14.1).bind λv16 =>
 (some ((v16==(w64 (a0.2 - 1))),()))))
 (some (false,())))).bind λv17 =>
 (cond v17.1
 ((at? v14.2.1 v14.1).bind λv18 =>
 ((at? v14.2.1 v14.1).bind λv19 =>
 (some (inl ((w64 (v14.1 - 1)),((v14.2.1.set v14.1.toNat 0),()))))))
 (some (inr (v14.1,(v14.2.1,()))))))) ((w64 (a0.1 - 1)),(v1.2.2.1,()))).bind λv20 =>
 (cond (decide (v20.1<0))
 (some (inr (inr (v1.2.2.2.1.1,()))))
 ((at? v20.2.1 v20.1).bind λv21 =>
 ((at? v20.2.1 v20.1).bind λv22 =>
 ((at? v20.2.1 v20.1).bind λv23 =>
 ((at? v20.2.1 v20.1).bind λv24 =>
 (some (inl ((),((),((v20.2.1.set v20.1.toNat (w64 (v22+1))),((v1.2.2.2.1.1,()),()))))))))))))))) ((),((),(v0,((0,()),()))))).bind λv25 =>
 (cd_ v25 (λv26=>(some (v26.2.2.2.1.1,())))
 (λv27=>(some v27)))))
theorem pu_ (a0:ab_) (a1:(List ak_)):Le (ip_ a0 a1) (dk_ a0 a1):=by
 unfold ip_ dk_
 repeat' first | with_reducible exact Le.refl _ | (with_reducible apply Le.bind) | (with_reducible apply Le.cnd) | (with_reducible apply Le.sm) | (with_reducible apply Le.itC) | (with_reducible apply vu_) | intro
noncomputable def ok_ (a0:ab_) (a1:(List ak_)):Option (Int×Int×Unit) :=
  ((iq_ a0 a1).bind λv0 =>
 (cond (v0.1 != 0)
 (some (0,(v0.1,())))
 ((ip_ a0 a1).bind λv1 =>
 (some (v1.1,(0,()))))))
theorem vv_ (a0:ab_) (a1:(List ak_)):Le (ok_ a0 a1) (ck_ a0 a1):=by
 unfold ok_ ck_
 repeat' first | with_reducible exact Le.refl _ | (with_reducible apply Le.bind) | (with_reducible apply Le.cnd) | (with_reducible apply Le.sm) | (with_reducible apply Le.itC) | (with_reducible apply pv_) | (with_reducible apply pu_) | intro
noncomputable def vg_:Option (Bool×Unit) :=
  ((ok_ (2,4) [(2,(0,(1,(4,(0,([],false))))))]).bind λv0 =>
 (cond (v0.1==3)
 (some ((v0.2.1==0),()))
 (some (false,()))))
theorem yz_:Le (vg_) (cu_):=by
 unfold vg_ cu_
 repeat' first | with_reducible exact Le.refl _ | (with_reducible apply Le.bind) | (with_reducible apply Le.cnd) | (with_reducible apply Le.sm) | (with_reducible apply Le.itC) | (with_reducible apply vv_) | intro
theorem bi8:cu_=some (true,()):=yz_ _ (by kernel_rfl)
theorem top_TopSearched (g:ac_) (m:Int×Int) (most:Int):gl_ g m most=some (true,()):=al3 bi8 g m most
end
end Go.Proofs.YthpilkoeneocmaaGreatDoor.Rx
